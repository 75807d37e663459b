/- Part 25 of proofs that are told in their last texts. -/
import Derived.Test.YtfdcdcleipmmdaaGreatDoorQ6
import Derived.Test.YtfdcdcleipmmdaaGreatDoorQ9
import Derived.Test.YtfdcdcleipmmdaaGreatDoorQ10
import Derived.Test.YtfdcdcleipmmdaaGreatDoorQ5
set_option linter.unusedVariables false
set_option linter.unusedSimpArgs false
set_option maxRecDepth 100000
namespace Go.Xg
open Go.RowKit Go.Xw Go.Proofs
theorem YG.neB {P:Program} {fr:List GV} {Γ:List Ob} {x y:Operand} {t t':TypeId} {a b:Bool} (ht:P.underlying t=some .bool) (hx:a6 fr x=.v (.bool a)) (hy:a6 fr y=.v (.bool b)):YG P (.binOp .neq t x y t') fr Γ (.v (.bool (!(a==b)))) :=
 YG.v2 hx hy fun l w h k=>fun d ty pos af=>by
  have e:(Op.equal t (.bool a) (.bool b)).run P w=.ok (a==b) w:=run_equalIn_bool w 9999 t a b ht;simp [execOp,eqGuard,h,k,binOp,e]
end Go.Xg
set_option maxHeartbeats 1000000
namespace Go.Xg
open Go.RowKit Go.Xw Go.Proofs Tryz
open Go.Sp (Src)
open Go.Im
attribute [local irreducible] GW GL GO YG GC GA ba bc
theorem yd (p:Src) (hS:GF prog 7 [.agg (ao p),.v (ii 1048576)] [] (.v (ii (-1))) []):GF prog 5 [.agg (ao p)] [] (.v (.bool true)) []:=by
 refine ai func5 ntmps5 ?_;refine D [] hS ?_;exact ak
theorem yf (p:Src) (n:Nat) (x0:Bool) (hS:GF prog 7 [.agg (ao p),.v (ii 1048576)] [] (.v (ii (n:Nat))) [])
  (hT:GF prog 9 [.agg (ao p)] [] (.agg (ao p)) []) (hG:GF prog 14 [.agg (ao p)] [] (.v (.bool x0)) [])
  (hI:GF prog 15 [.agg (ao p)] [] (.v (.bool x0)) []) (hE:GF prog 11 [.agg (ao p),.agg (ao p)] [] (.v (.bool true)) []) :
  GF prog 5 [.agg (ao p)] [] (.v (.bool true)) []:=by
 have hd:decide (((n:Nat):Int) < 0)=false:=by simp
 have nX:(!(x0==x0))=false:=by simp
 refine ai func5 ntmps5 ?_;refine D [] hS ?_;refine D [] hT ?_;refine D [] hG ?_;refine D [] hT ?_;refine D [] hI ?_;refine GL.q (YG.neB (by kernel_rfl) rfl rfl) ?_;refine eh ?_;refine G ?_;refine aJ (.q 0 (.q 1 (.a 2 (.a 3 (.q 4 .nil))))) ?_;refine au ?_;refine az [] hT ?_;refine az [] hE ?_;exact ax
theorem Ah (p:Src) (hb:Small p 9223372036854775807) (hn:kz p):GF prog 5 [.agg (ao p)] [] (.v (.bool true)) []:=by
 have hS:=tF p hb
 by_cases hw:1048576 < dk p
 ·rw [dB hw] at hS;exact yd p hS
 ·rw [gi ag] at hS
  have hw:dk p<=1048576:=by omega
  obtain ⟨⟨a1,a2⟩,⟨b1,b2⟩,⟨c1,c2⟩,⟨d1,d2⟩⟩:=dN p
  have uw:∀ f∈p.fns,f.params.length<=1048576:=fun f h=>by have:=(c2 f h).2.1;omega
  have sF:∀ n∈p.nodes,n.kids.length<=1048576:=fun n h=>by have:=(d2 n h).2;omega
  exact yf p _ ((gC p != -1)) hS (tG p ag ag ag uw ag sF) (Lf p hw hn) (Lg p hw hn) (tA p ag ag ag uw ag sF)
end Go.Xg
