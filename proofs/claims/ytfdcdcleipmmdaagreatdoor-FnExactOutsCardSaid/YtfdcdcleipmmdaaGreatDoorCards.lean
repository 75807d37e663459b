/-
  DERIVED. GIVEN WITH THE SEED: THE CARDS: each row of YtfdcdcleipmmdaaGreatDoorRows.lean that lists a variable, with what it lists TIED to the program's text (the seventh form; the later family's looks); each row that meets fmt, with fmt's text TOLD by the authors' own Lean function (tested against real Go, not proved from fmt's source: count such statements apart). THE CARD IS WHAT COUNTS. Prove the row's statement (the work); the ties are given (YtfdcdcleipmmdaaGreatDoorTie.lean); close each card by the builder's one call (the guide's Derived/Test/ToyasCard.lean, 'card_holds'). Laid BY PROGRAM, IN A SANDBOX (cutbox-door.mjs). By AI agents, Wed Nov 11 2026. No macro, syntax, notation, axiom, sorry.
-/
import Derived.Test.YtfdcdcleipmmdaaGreatDoorRows
import GoSem.ClaimSeven
namespace Go.Proofs.YtfdcdcleipmmdaaGreatDoor
namespace Rows

/-- THE TIED CARD OF 'laws.FnExactBoundOf'. -/
def fnExactBoundOfCard : Claim7 := { stood := { row := fnExactBoundOfRow, standIns := [], harness := (true, "b9c951d1f2939b7939a78a1f54c20cc13effd05c9b13bda52b4143149b3a4099"), looks := false }, kinds := [], alts := [], laidByText := true, laidKinds := [.data, .data, .data, .listed, .data], laidTests := true, laidLooks := .later }
def FnExactBoundOfCardSaid : Prop := Claim7.holds Tryz.pinned (.plain (OpenSpec.ofChange fnExactBoundOfSpec)) fnExactBoundOfCard

/-- THE TIED CARD OF 'laws.FnExactBound'. -/
def fnExactBoundCard : Claim7 := { stood := { row := fnExactBoundRow, standIns := [], harness := (true, "b9c951d1f2939b7939a78a1f54c20cc13effd05c9b13bda52b4143149b3a4099"), looks := false }, kinds := [], alts := [], laidByText := true, laidKinds := [.data, .data, .data, .listed, .data], laidTests := true, laidLooks := .later }
def FnExactBoundCardSaid : Prop := Claim7.holds Tryz.pinned (.plain (OpenSpec.ofChange fnExactBoundSpec)) fnExactBoundCard

/-- THE TIED CARD OF 'laws.FnExactStraight'. -/
def fnExactStraightCard : Claim7 := { stood := { row := fnExactStraightRow, standIns := [], harness := (true, "b9c951d1f2939b7939a78a1f54c20cc13effd05c9b13bda52b4143149b3a4099"), looks := false }, kinds := [], alts := [], laidByText := true, laidKinds := [.data, .data, .data, .listed, .data], laidTests := true, laidLooks := .later }
def FnExactStraightCardSaid : Prop := Claim7.holds Tryz.pinned (.plain (OpenSpec.ofChange fnExactStraightSpec)) fnExactStraightCard

/-- THE TIED CARD OF 'laws.FnExactOuts'. -/
def fnExactOutsCard : Claim7 := { stood := { row := fnExactOutsRow, standIns := [], harness := (true, "b9c951d1f2939b7939a78a1f54c20cc13effd05c9b13bda52b4143149b3a4099"), looks := false }, kinds := [], alts := [], laidByText := true, laidKinds := [.data, .data, .data, .listed, .data], laidTests := true, laidLooks := .later }
def FnExactOutsCardSaid : Prop := Claim7.holds Tryz.pinned (.plain (OpenSpec.ofChange fnExactOutsSpec)) fnExactOutsCard

/-- THE SECOND FORM's CARD OF 'laws.FnExactBoundOf'. -/
def fnExactBoundOfUptoCard : Claim7 := { stood := { row := fnExactBoundOfUptoRow, standIns := [], harness := (true, "b9c951d1f2939b7939a78a1f54c20cc13effd05c9b13bda52b4143149b3a4099"), looks := false }, kinds := [], alts := [], laidByText := true, laidKinds := [.data, .data, .data, .listed, .data], laidTests := true, laidLooks := .later }
def FnExactBoundOfUptoCardSaid : Prop := Claim7.holds Tryz.pinned (.plain (OpenSpec.upto fnExactBoundOfSpec)) fnExactBoundOfUptoCard

/-- THE SECOND FORM's CARD OF 'laws.FnExactBound'. -/
def fnExactBoundUptoCard : Claim7 := { stood := { row := fnExactBoundUptoRow, standIns := [], harness := (true, "b9c951d1f2939b7939a78a1f54c20cc13effd05c9b13bda52b4143149b3a4099"), looks := false }, kinds := [], alts := [], laidByText := true, laidKinds := [.data, .data, .data, .listed, .data], laidTests := true, laidLooks := .later }
def FnExactBoundUptoCardSaid : Prop := Claim7.holds Tryz.pinned (.plain (OpenSpec.upto fnExactBoundSpec)) fnExactBoundUptoCard

/-- THE SECOND FORM's CARD OF 'laws.FnExactStraight'. -/
def fnExactStraightUptoCard : Claim7 := { stood := { row := fnExactStraightUptoRow, standIns := [], harness := (true, "b9c951d1f2939b7939a78a1f54c20cc13effd05c9b13bda52b4143149b3a4099"), looks := false }, kinds := [], alts := [], laidByText := true, laidKinds := [.data, .data, .data, .listed, .data], laidTests := true, laidLooks := .later }
def FnExactStraightUptoCardSaid : Prop := Claim7.holds Tryz.pinned (.plain (OpenSpec.upto fnExactStraightSpec)) fnExactStraightUptoCard

/-- THE SECOND FORM's CARD OF 'laws.FnExactOuts'. -/
def fnExactOutsUptoCard : Claim7 := { stood := { row := fnExactOutsUptoRow, standIns := [], harness := (true, "b9c951d1f2939b7939a78a1f54c20cc13effd05c9b13bda52b4143149b3a4099"), looks := false }, kinds := [], alts := [], laidByText := true, laidKinds := [.data, .data, .data, .listed, .data], laidTests := true, laidLooks := .later }
def FnExactOutsUptoCardSaid : Prop := Claim7.holds Tryz.pinned (.plain (OpenSpec.upto fnExactOutsSpec)) fnExactOutsUptoCard
end Rows
end Go.Proofs.YtfdcdcleipmmdaaGreatDoor
