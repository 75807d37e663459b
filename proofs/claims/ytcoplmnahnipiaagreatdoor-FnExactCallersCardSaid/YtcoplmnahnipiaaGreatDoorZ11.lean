/- Part 11 of proofs that are told in their last texts. -/
import Derived.Test.YtcoplmnahnipiaaGreatDoorZ9
import Derived.Test.YtcoplmnahnipiaaGreatDoorZ10
import Derived.Test.YtcoplmnahnipiaaGreatDoorZ6
open List (append_nil)
set_option linter.unusedVariables false
set_option linter.unusedSimpArgs false
set_option maxRecDepth 100000
set_option maxHeartbeats 4000000
namespace Go.Xg
open Go.RowKit Go.Xw Go.Proofs
open Go.Sp (Src)
open Go.Im
attribute [local irreducible] GW GL GO YG GC GA aW aZ
theorem wz (p:Src) (i1:Int) (hS:GF Tryz.prog 10 [.agg (av p),.v (ii 1048576)] [] (.v (ii (-1))) []):GF Tryz.prog 5 [.agg (av p),.v (ii i1)] [] (.v (.bool true)) []:=by
 refine aj Tryz.func5 Tryz.ntmps5 ?_;refine ab [] (hS) ?_;exact aq
theorem yj (p:Src) (i1:Int) (n:Nat) (r:List Int) (hw:dN p<=1048576) (hr:r.length<=1048576) (hS:GF Tryz.prog 10 [.agg (av p),.v (ii 1048576)] [] (.v (ii (n:Nat))) [])
  (hT:GF Tryz.prog 12 [.agg (av p)] [] (.agg (av p)) [])
  (hO:GC Tryz.prog 12 [.agg (av p)] [] fun g Δ=>∃ hg ha hf hn fs ns,wB p hg ha hf hn fs ns/\g=.agg [.v hg,.v ha,.v hf,.v hn]/\Δ=gw p hg ha hf hn fs ns)
  (hG:GF Tryz.prog 17 [.agg (av p),.v (ii i1)] [] (ints r) [])
  (hI:GC Tryz.prog 18 [.agg (av p),.v (ii i1)] [] fun g Δ=>∃ a c,g=.v (.slice a r.length c)/\Δ=[.vech 3 1 (bp r) (.slice a r.length c)])
  (hE:GF Tryz.prog 14 [.agg (av p),.agg (av p)] [] (.v (.bool true)) []) :
  GF Tryz.prog 5 [.agg (av p),.v (ii i1)] [] (.v (.bool true)) []:=by
 have hd:decide (((n:Nat):Int) < 0)=false:=by simp
 have hQ:=zc r hr;have Tt:=AF;have LM:=Af 1 r.length ah;have db:decide (((1+r.length:Nat):Int) < 0)=false:=decide_eq_false ah
 have yB:(((1+r.length:Nat):Int) != ((1+r.length:Nat):Int))=false:=by simp
 have uz:=ET r;refine aj Tryz.func5 Tryz.ntmps5 ?_;refine ab [] (hS) ?_;refine ab [] (hT) ?_;refine ab [] (hG) ?_;refine bO [] (hO) ?_;rintro _ _ ⟨hg,ha,hf,hn,fs,ns,H,rfl,rfl⟩;have LS:=vO p hg ha hf hn fs ns;have hM:=xo p hg ha hf hn fs ns H 1 hw ah;have hV:=@sG;obtain ⟨⟨q0,q1,rfl⟩,⟨q2,q3,rfl⟩,⟨q4,q5,rfl⟩,⟨q6,q7,rfl⟩,Y2,Qp,Qq,Y3⟩:=id H;rw [BN LS];refine ct ?_;refine GL.UD rfl rfl rfl rfl rfl rfl rfl ?_;refine bZ ?_;refine ae ?_;refine GL.Hf hI uz (fun r hr g hg=>by obtain ⟨s,_,rfl⟩:=List.mem_map.1 hr;rw [List.mem_singleton.1 hg];exact ⟨_,rfl⟩) (fun B K β w l hI hF=>DT H (A:=[_]) (C:=[]) (by rw [append_nil];exact hI) hF rfl rfl) ?_;intro ag cg;refine bZ ?_;refine ae ?_;refine GL.borrow hQ (fun B K β w l hI hF=>nR (A:=[_]) (X:=gw p _ _ _ _ fs ns) hI hF rfl rfl) ?_;refine bZ ?_;refine ae ?_;refine aE (.q 0 (.q 1 (.a 2 (.a 3 (.q 4 .nil))))) ?_;refine ak ?_;refine sK [] (hT) ?_;simp only [append_nil];refine ak ?_;refine OA rfl rfl (GL.borrow hE (fun B K β w l hI hF=>yo H (A:=[_]) hI hF rfl rfl) ?_);refine dB ?_;refine ak ?_;refine ae ?_;refine GL.oC [_] (gw p _ _ _ _ fs ns) [_] hM rfl LS (fun _=>rfl) (ko) ?_;rintro _ Δ ⟨k',rfl,Um,OT⟩;refine ⟨Um,OT,fun _=>rfl,?_⟩
 have Zd:decide (((k':Nat):Int) < 0)=false:=by simp
 refine bZ ?_;refine ae ?_;refine GL.borrow hQ (fun B K β w l hI hF=>nR (A:=[_]) (X:=Δ) hI hF rfl rfl) ?_;refine bZ ?_;refine ae ?_;refine GL.oC (_::Δ) [_] [] (Tt ag cg r.length 1 (bp r) uz ah) rfl (by intro x hx;rw [List.mem_singleton.1 hx];rfl) (fun _=>rfl) (ko) ?_;rintro _ _ ⟨rfl,rfl⟩;refine ⟨rfl,by intro x hx;rw [List.mem_singleton.1 hx];rfl,fun _=>rfl,?_⟩;refine bZ ?_;refine ae ?_;refine GL.borrow LM (fun B K β w l hI hF=>oe (A:=[_]) (X:=Δ) (C:=[]) hI hF rfl rfl) ?_;refine bZ ?_;refine ae ?_;refine gA [] (hT) ?_;simp only [append_nil];refine ae ?_;refine bO [] (hI) ?_;rintro _ _ ⟨a2,c2,rfl,rfl⟩;refine ct ?_;refine ae ?_;refine GL.borrow hQ (fun B K β w l hI hF=>by rw [List.append_assoc] at hI;exact wE (A:=[_]) (X:=Δ) hI hF rfl rfl) ?_;refine bZ ?_;refine ae ?_;refine GL.borrow LM (fun B K β w l hI hF=>by rw [List.append_assoc] at hI;exact oe (A:=[_]) (X:=Δ) hI hF rfl rfl) ?_;refine bZ ?_;exact aw
theorem yX (p:Src) (hb:Small p 9223372036854775807) (hn:ra p) (i1:Int):GF Tryz.prog 5 [.agg (av p),.v (ii i1)] [] (.v (.bool true)) []:=by
 have hS:=AY p hb
 by_cases hw:1048576 < dN p
 ·rw [dm hw] at hS;exact wz p i1 hS
 ·rw [fC ah] at hS
  have hw:dN p<=1048576:=by omega
  obtain ⟨⟨a1,a2⟩,⟨b1,b2⟩,⟨c1,c2⟩,⟨d1,d2⟩⟩:=eJ p
  have uv:∀ f∈p.fns,f.params.length<=1048576:=fun f h=>by have:=(c2 f h).2.1;omega
  have sk:∀ n∈p.nodes,n.kids.length<=1048576:=fun n h=>by have:=(d2 n h).2;omega
  exact yj p i1 _ (lA p i1) hw (DU hw) hS (AZ p ah ah ah uv ah sk) (A0 p ah ah ah uv ah sk) (Km p hw i1) (Kn p hw hn i1) (zW p ah ah ah uv ah sk)
end Go.Xg
