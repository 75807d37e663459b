/- Part 32 of proofs that are told in their last texts. -/
import Derived.Test.YtfdcdcleipmmdaaGreatDoorQ9
import Derived.Test.YtfdcdcleipmmdaaGreatDoorQ10
import Derived.Test.YtfdcdcleipmmdaaGreatDoorQ5
set_option linter.unusedVariables false
set_option linter.unusedSimpArgs false
set_option maxRecDepth 100000
set_option maxHeartbeats 1000000
namespace Go.Xg
open Go.RowKit Go.Xw Go.Proofs Tryz
open Go.Sp (Src)
open Go.Im
attribute [local irreducible] GW GL GO YG GC GA ba bc
theorem Ci (p:Src) (hS:GF prog 7 [.agg (ao p),.v (ii 1048576)] [] (.v (ii (-1))) []):GF prog 6 [.agg (ao p)] [] (.v (.bool true)) []:=by
 refine ai func6 ntmps6 ?_;refine D [] hS ?_;exact ak
theorem Dq (p:Src) (n:Nat) (x0:Int) (hS:GF prog 7 [.agg (ao p),.v (ii 1048576)] [] (.v (ii (n:Nat))) [])
  (hT:GF prog 9 [.agg (ao p)] [] (.agg (ao p)) []) (hG:GF prog 16 [.agg (ao p)] [] (.v (ii x0)) [])
  (hI:GF prog 17 [.agg (ao p)] [] (.v (ii x0)) []) (hE:GF prog 11 [.agg (ao p),.agg (ao p)] [] (.v (.bool true)) []) :
  GF prog 6 [.agg (ao p)] [] (.v (.bool true)) []:=by
 have hd:decide (((n:Nat):Int) < 0)=false:=by simp
 have nX:(x0 != x0)=false:=by simp
 refine ai func6 ntmps6 ?_;refine D [] hS ?_;refine D [] hT ?_;refine D [] hG ?_;refine D [] hT ?_;refine D [] hI ?_;refine aJ (.q 0 (.q 1 (.a 2 (.a 3 (.q 4 .nil))))) ?_;refine au ?_;refine az [] hT ?_;refine az [] hE ?_;exact ax
theorem FH (p:Src) (hb:Small p 9223372036854775807) (hn:kz p):GF prog 6 [.agg (ao p)] [] (.v (.bool true)) []:=by
 have hS:=tF p hb
 by_cases hw:1048576 < dk p
 ·rw [dB hw] at hS;exact Ci p hS
 ·rw [gi ag] at hS
  have hw:dk p<=1048576:=by omega
  obtain ⟨⟨a1,a2⟩,⟨b1,b2⟩,⟨c1,c2⟩,⟨d1,d2⟩⟩:=dN p
  have uw:∀ f∈p.fns,f.params.length<=1048576:=fun f h=>by have:=(c2 f h).2.1;omega
  have sF:∀ n∈p.nodes,n.kids.length<=1048576:=fun n h=>by have:=(d2 n h).2;omega
  exact Dq p _ (C5 p) hS (tG p ag ag ag uw ag sF) (U6 p hw hn) (U7 p hw hn) (tA p ag ag ag uw ag sF)
end Go.Xg
