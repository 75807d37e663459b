/-
  DERIVED. GIVEN WITH THE SEED: THE CARDS: each row of YtaopilmekfecpaaGreatDoorRows.lean that lists a variable, with what it lists TIED to the program's text (the seventh form; the later family's looks); each row that meets fmt, with fmt's text TOLD by the authors' own Lean function (tested against real Go, not proved from fmt's source: count such statements apart). THE CARD IS WHAT COUNTS. Prove the row's statement (the work); the ties are given (YtaopilmekfecpaaGreatDoorTie.lean); close each card by the builder's one call (the guide's Derived/Test/ToyasCard.lean, 'card_holds'). Laid BY PROGRAM, IN A SANDBOX (cutbox-door.mjs). By AI agents, Wed Nov 11 2026. No macro, syntax, notation, axiom, sorry.
-/
import Derived.Test.YtaopilmekfecpaaGreatDoorRows
import GoSem.ClaimSeven
namespace Go.Proofs.YtaopilmekfecpaaGreatDoor
namespace Rows

/-- THE TIED CARD OF 'laws.FnTight'. -/
def fnTightCard : Claim7 := { stood := { row := fnTightRow, standIns := [], harness := (true, "f94a58aab863ebc2686fd782f8a1cae954c648260be5f0ee48913e0ba63e3392"), looks := false }, kinds := [], alts := [], laidByText := true, laidKinds := [.data, .data, .data, .listed, .data], laidTests := true, laidLooks := .later }
def FnTightCardSaid : Prop := Claim7.holds Tryz.pinned (.plain (OpenSpec.ofChange fnTightSpec)) fnTightCard

/-- THE TIED CARD OF 'laws.FnExactTightExpr'. -/
def fnExactTightExprCard : Claim7 := { stood := { row := fnExactTightExprRow, standIns := [], harness := (true, "f94a58aab863ebc2686fd782f8a1cae954c648260be5f0ee48913e0ba63e3392"), looks := false }, kinds := [], alts := [], laidByText := true, laidKinds := [.data, .data, .data, .listed, .data], laidTests := true, laidLooks := .later }
def FnExactTightExprCardSaid : Prop := Claim7.holds Tryz.pinned (.plain (OpenSpec.ofChange fnExactTightExprSpec)) fnExactTightExprCard

/-- THE TIED CARD OF 'laws.FnExactNames'. -/
def fnExactNamesCard : Claim7 := { stood := { row := fnExactNamesRow, standIns := [], harness := (true, "f94a58aab863ebc2686fd782f8a1cae954c648260be5f0ee48913e0ba63e3392"), looks := false }, kinds := [], alts := [], laidByText := true, laidKinds := [.data, .data, .data, .listed, .data], laidTests := true, laidLooks := .later }
def FnExactNamesCardSaid : Prop := Claim7.holds Tryz.pinned (.plain (OpenSpec.ofChange fnExactNamesSpec)) fnExactNamesCard

/-- THE TIED CARD OF 'laws.FnExactLinesOf'. -/
def fnExactLinesOfCard : Claim7 := { stood := { row := fnExactLinesOfRow, standIns := [], harness := (true, "f94a58aab863ebc2686fd782f8a1cae954c648260be5f0ee48913e0ba63e3392"), looks := false }, kinds := [], alts := [], laidByText := true, laidKinds := [.data, .data, .data, .listed, .data], laidTests := true, laidLooks := .later }
def FnExactLinesOfCardSaid : Prop := Claim7.holds Tryz.pinned (.plain (OpenSpec.ofChange fnExactLinesOfSpec)) fnExactLinesOfCard

/-- THE TIED CARD OF 'laws.FnPretty'. -/
def fnPrettyCard : Claim7 := { stood := { row := fnPrettyRow, standIns := [], harness := (true, "f94a58aab863ebc2686fd782f8a1cae954c648260be5f0ee48913e0ba63e3392"), looks := false }, kinds := [], alts := [], laidByText := true, laidKinds := [.data, .data, .data, .listed, .data], laidTests := true, laidLooks := .later }
def FnPrettyCardSaid : Prop := Claim7.holds Tryz.pinned (.plain (OpenSpec.ofChange fnPrettySpec)) fnPrettyCard

/-- THE TIED CARD OF 'laws.FnExactSavedParens'. -/
def fnExactSavedParensCard : Claim7 := { stood := { row := fnExactSavedParensRow, standIns := [], harness := (true, "f94a58aab863ebc2686fd782f8a1cae954c648260be5f0ee48913e0ba63e3392"), looks := false }, kinds := [], alts := [], laidByText := true, laidKinds := [.data, .data, .data, .listed, .data], laidTests := true, laidLooks := .later }
def FnExactSavedParensCardSaid : Prop := Claim7.holds Tryz.pinned (.plain (OpenSpec.ofChange fnExactSavedParensSpec)) fnExactSavedParensCard

/-- THE SECOND FORM's CARD OF 'laws.FnTight'. -/
def fnTightUptoCard : Claim7 := { stood := { row := fnTightUptoRow, standIns := [], harness := (true, "f94a58aab863ebc2686fd782f8a1cae954c648260be5f0ee48913e0ba63e3392"), looks := false }, kinds := [], alts := [], laidByText := true, laidKinds := [.data, .data, .data, .listed, .data], laidTests := true, laidLooks := .later }
def FnTightUptoCardSaid : Prop := Claim7.holds Tryz.pinned (.plain (OpenSpec.upto fnTightSpec)) fnTightUptoCard

/-- THE SECOND FORM's CARD OF 'laws.FnExactTightExpr'. -/
def fnExactTightExprUptoCard : Claim7 := { stood := { row := fnExactTightExprUptoRow, standIns := [], harness := (true, "f94a58aab863ebc2686fd782f8a1cae954c648260be5f0ee48913e0ba63e3392"), looks := false }, kinds := [], alts := [], laidByText := true, laidKinds := [.data, .data, .data, .listed, .data], laidTests := true, laidLooks := .later }
def FnExactTightExprUptoCardSaid : Prop := Claim7.holds Tryz.pinned (.plain (OpenSpec.upto fnExactTightExprSpec)) fnExactTightExprUptoCard

/-- THE SECOND FORM's CARD OF 'laws.FnExactNames'. -/
def fnExactNamesUptoCard : Claim7 := { stood := { row := fnExactNamesUptoRow, standIns := [], harness := (true, "f94a58aab863ebc2686fd782f8a1cae954c648260be5f0ee48913e0ba63e3392"), looks := false }, kinds := [], alts := [], laidByText := true, laidKinds := [.data, .data, .data, .listed, .data], laidTests := true, laidLooks := .later }
def FnExactNamesUptoCardSaid : Prop := Claim7.holds Tryz.pinned (.plain (OpenSpec.upto fnExactNamesSpec)) fnExactNamesUptoCard

/-- THE SECOND FORM's CARD OF 'laws.FnExactLinesOf'. -/
def fnExactLinesOfUptoCard : Claim7 := { stood := { row := fnExactLinesOfUptoRow, standIns := [], harness := (true, "f94a58aab863ebc2686fd782f8a1cae954c648260be5f0ee48913e0ba63e3392"), looks := false }, kinds := [], alts := [], laidByText := true, laidKinds := [.data, .data, .data, .listed, .data], laidTests := true, laidLooks := .later }
def FnExactLinesOfUptoCardSaid : Prop := Claim7.holds Tryz.pinned (.plain (OpenSpec.upto fnExactLinesOfSpec)) fnExactLinesOfUptoCard

/-- THE SECOND FORM's CARD OF 'laws.FnPretty'. -/
def fnPrettyUptoCard : Claim7 := { stood := { row := fnPrettyUptoRow, standIns := [], harness := (true, "f94a58aab863ebc2686fd782f8a1cae954c648260be5f0ee48913e0ba63e3392"), looks := false }, kinds := [], alts := [], laidByText := true, laidKinds := [.data, .data, .data, .listed, .data], laidTests := true, laidLooks := .later }
def FnPrettyUptoCardSaid : Prop := Claim7.holds Tryz.pinned (.plain (OpenSpec.upto fnPrettySpec)) fnPrettyUptoCard

/-- THE SECOND FORM's CARD OF 'laws.FnExactSavedParens'. -/
def fnExactSavedParensUptoCard : Claim7 := { stood := { row := fnExactSavedParensUptoRow, standIns := [], harness := (true, "f94a58aab863ebc2686fd782f8a1cae954c648260be5f0ee48913e0ba63e3392"), looks := false }, kinds := [], alts := [], laidByText := true, laidKinds := [.data, .data, .data, .listed, .data], laidTests := true, laidLooks := .later }
def FnExactSavedParensUptoCardSaid : Prop := Claim7.holds Tryz.pinned (.plain (OpenSpec.upto fnExactSavedParensSpec)) fnExactSavedParensUptoCard
end Rows
end Go.Proofs.YtaopilmekfecpaaGreatDoor
