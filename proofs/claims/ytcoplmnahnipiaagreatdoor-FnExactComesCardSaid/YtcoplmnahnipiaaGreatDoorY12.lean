/- Part 12 of proofs that are told in their last texts. -/
import Derived.Test.YtcoplmnahnipiaaGreatDoorY6
import Derived.Test.YtcoplmnahnipiaaGreatDoorY9
import Derived.Test.YtcoplmnahnipiaaGreatDoorY10
set_option linter.unusedVariables false
set_option linter.unusedSimpArgs false
set_option maxRecDepth 100000
namespace Go.Xg
open Go.RowKit Go.Xw Go.Proofs
theorem YG.neB {P:Program} {fr:List GV} {Γ:List Ob} {x y:Operand} {t t':TypeId} {a b:Bool} (ht:P.underlying t=some .bool) (hx:aP fr x=.v (.bool a)) (hy:aP fr y=.v (.bool b)):YG P (.binOp .neq t x y t') fr Γ (.v (.bool (!(a==b)))) :=
 YG.v2 hx hy fun l w h k=>fun d ty pos af=>by
  have e:(Op.equal t (.bool a) (.bool b)).run P w=.ok (a==b) w:=run_equalIn_bool w 9999 t a b ht;simp [execOp,eqGuard,h,k,binOp,e]
end Go.Xg
set_option maxHeartbeats 1000000
namespace Go.Xg
open Go.RowKit Go.Xw Go.Proofs
open Go.Sp (Src)
open Go.Im
attribute [local irreducible] GW GL GO YG GC GA aS aW
theorem zV (p:Src) (i1:Int) (i2:Int) (hS:GF Tryz.prog 10 [.agg (ar p),.v (ii 1048576)] [] (.v (ii (-1))) []):GF Tryz.prog 4 [.agg (ar p),.v (ii i1),.v (ii i2)] [] (.v (.bool true)) []:=by
 refine ai Tryz.func4 Tryz.ntmps4 ?_;refine U [] (hS) ?_;exact ao
theorem Ba (p:Src) (i1:Int) (i2:Int) (n:Nat) (x0:Bool) (hS:GF Tryz.prog 10 [.agg (ar p),.v (ii 1048576)] [] (.v (ii (n:Nat))) [])
  (hT:GF Tryz.prog 12 [.agg (ar p)] [] (.agg (ar p)) []) (hG:GF Tryz.prog 15 [.agg (ar p),.v (ii i1),.v (ii i2)] [] (.v (.bool x0)) [])
  (hI:GF Tryz.prog 16 [.agg (ar p),.v (ii i1),.v (ii i2)] [] (.v (.bool x0)) []) (hE:GF Tryz.prog 14 [.agg (ar p),.agg (ar p)] [] (.v (.bool true)) []) :
  GF Tryz.prog 4 [.agg (ar p),.v (ii i1),.v (ii i2)] [] (.v (.bool true)) []:=by
 have hd:decide (((n:Nat):Int) < 0)=false:=by simp
 have oS:(!(x0==x0))=false:=by simp
 refine ai Tryz.func4 Tryz.ntmps4 ?_;refine U [] (hS) ?_;refine U [] (hT) ?_;refine U [] (hG) ?_;refine U [] (hT) ?_;refine U [] (hI) ?_;refine GL.q (YG.neB (by kernel_rfl) rfl rfl) ?_;refine bT ?_;refine ab ?_;refine GW.draw (.q 0 (.q 1 (.a 2 (.a 3 (.q 4 .nil))))) (by kernel_rfl) (by kernel_rfl) ?_;refine aj ?_;refine az [] (hT) ?_;refine az [] (hE) ?_;exact av
theorem Cd (p:Src) (hb:Small p 9223372036854775807) (hn:kU p) (i1:Int) (i2:Int):GF Tryz.prog 4 [.agg (ar p),.v (ii i1),.v (ii i2)] [] (.v (.bool true)) []:=by
 have hS:=rV p hb
 by_cases hw:1048576 < cM p
 ·rw [c7 hw] at hS;exact zV p i1 i2 hS
 ·rw [fc ae] at hS
  have hw:cM p<=1048576:=by omega
  obtain ⟨⟨a1,a2⟩,⟨b1,b2⟩,⟨c1,c2⟩,⟨d1,d2⟩⟩:=cW p
  have pz:∀ f∈p.fns,f.params.length<=1048576:=fun f h=>by have:=(c2 f h).2.1;omega
  have oa:∀ n∈p.nodes,n.kids.length<=1048576:=fun n h=>by have:=(d2 n h).2;omega
  exact Ba p i1 i2 _ (ct p i1 i2) hS (rW p ae ae ae pz ae oa) (Ru p hw hn i1 i2) (Rv p hw hn i1 i2) (rO p ae ae ae pz ae oa)
end Go.Xg
