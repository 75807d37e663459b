/- Part 18 of proofs that are told in their last texts. -/
import Derived.Test.YtcoplmnahnipiaaGreatDoorZ9
import Derived.Test.YtcoplmnahnipiaaGreatDoorZ10
import Derived.Test.YtcoplmnahnipiaaGreatDoorZ6
open List (append_nil)
set_option linter.unusedVariables false
set_option linter.unusedSimpArgs false
set_option maxRecDepth 100000
set_option maxHeartbeats 4000000
namespace Go.Xg
open Go.RowKit Go.Xw Go.Proofs
open Go.Xp (Nd T Ar aO az cx)
open Go.Sp (Src)
open Go.Im
attribute [local irreducible] GW GL GO YG GC GA aW aZ
theorem Mp (p:Src) (hw:dN p<=1048576) (ml:gP p=true) {l:List T} {i:Nat} {f:Go.Sp.Fn} {t:T} (h:qD p l i f t) :
  GF Tryz.prog 63 [.agg (av p),.v (ii (i:Nat))] [] (.v (.bool (fA p (i:Int) (i:Int)))) []:=by
 obtain ⟨⟨a1,a2⟩,⟨b1,b2⟩,⟨c1,c2⟩,⟨d1,d2⟩⟩:=eJ p;have hi:=(List.getElem?_eq_some_iff.1 h.gf).1;have hC:=Bj p hw h;have hT:=K7 p hw h.good (bq p t) (qC p t);have Tx:=(Bf (p:=p) (l:=l) (p.fns.length+1) 0 _ (qC p t)).len
 have hH:GF Tryz.prog 56 [ints (fZ (nI p l (bq p t))),.v (ii (i:Nat))] [] (.v (.bool (fA p (i:Int) (i:Int)))) []:=by
  have:=tH (fZ (nI p l (bq p t))) (i:Int) (by rw [mT];unfold nI;omega);rw [FM] at this;unfold fA;rw [Cz (BB ml hi) h];exact this
 generalize fZ (nI p l (bq p t))=L at *;generalize bq p t=ks at *;generalize fA p (i:Int) (i:Int)=b at *;refine aj Tryz.func63 Tryz.ntmps63 ?_;refine aE (aH [0,1,2,5] (.a 3 (.a 4 (.a 6 (.q 7 .nil))))) ?_;refine ak ?_;refine aC [] (hC) ?_;refine aC [] (hT) ?_;refine aC [] (hH) ?_;exact aw
theorem NO (p:Src) (hw:dN p<=1048576) (hn:ra p) :
  GC Tryz.prog 29 [.agg (av p)] [] fun g Δ=>∃ a c,g=.v (.slice a (nu p).length c)/\Δ=[.vech 3 1 (bp (nu p)) (.slice a (nu p).length c)]:=by
 obtain ⟨⟨a1,a2⟩,⟨b1,b2⟩,⟨c1,c2⟩,⟨d1,d2⟩⟩:=eJ p
 have oI:(p.fns.map au).length=p.fns.length:=by simp
 have hG:=HE p hw hn;unfold nu
 cases ml:gP p with
 | false =>
  rw [ml] at hG;rw [if_neg (by decide)];refine da Tryz.func29 Tryz.ntmps29 ?_;refine GW.wk (Wk.mP 3 1) ?_;simp only [List.nil_append];refine ae ?_;refine ab [] (hG) ?_
  (repeat (first | refine GW.ret ?_ | refine cr ?_ | refine cn ?_ | refine aK ?_ | refine bS ?_))
  exact o7 (n:=1) rfl (by first | exact .inr rfl | exact .inl rfl) rfl (Nat.le_of_ble_eq_true rfl) rfl rfl ⟨none,0,rfl,rfl⟩
 | true =>
  rw [ml] at hG;rw [if_pos rfl];obtain ⟨l,hg⟩:=xS ml;have hlen:=hg.len;refine da Tryz.func29 Tryz.ntmps29 ?_;refine GW.wk (Wk.mP 3 1) ?_;simp only [List.nil_append];refine ae ?_;refine ab [] (hG) ?_;refine GW.range (p.fns.map au).length (fun k fr Γ=>∃ a c n S,fr=[.U,.loc 1 0,.U,.v (.slice a n c),.U,.U,.U,.U,.U,.sl 3 (p.fns.map au),.v (ii ((p.fns.map au).length:Int)),.v (ii (k:Nat)),.U,.U,.U,.U,.U,.U,.U,.U,.U,.U,.U]/\Γ=[.vech 3 1 S (.slice a n c),.box 34 (av p)]/\S.length=n/\S=bp (gS (fun k=>fA p (k:Int) (k:Int)) k)) ?_ ah ?_ ?_ ?_
  ·exact ⟨_,_,Wk.ax ao,none,0,0,[],rfl,rfl,rfl,rfl⟩
  ·rintro k _ _ ⟨a,c,n,S,rfl,rfl,_⟩;exact ⟨rfl,rfl,rfl⟩
  ·rintro k _ _ ar ⟨a,c,n,S,rfl,rfl,eO,hS⟩;rw [oI] at ar;obtain ⟨f,hf⟩:∃ f,p.fns[k]?=some f:=⟨p.fns[k],by simp [ar]⟩;obtain ⟨t,ht⟩:∃ t,l[k]?=some t:=⟨l[k]'ah,List.getElem?_eq_getElem _⟩;have hC:=Mp p hw ml (hg.fn hf ht);have jW:=rD (fun k=>fA p (k:Int) (k:Int)) k;have cE:=oP (fun k=>fA p (k:Int) (k:Int)) k
   have qL:n<=1048576:=by rw [<-eO,hS,c8];omega
   rw [jW];generalize gS (fun k=>fA p (k:Int) (k:Int)) k=o at *
   cases hb:fA p (k:Int) (k:Int) with
   | true =>
    rw [hb] at hC;rw [if_pos rfl];have oJ:=th (x:=(k:Int)) hS;refine ae ?_;refine ab [] (hC) ?_;refine GL.jA 0 rfl rfl rfl rfl rfl rfl rfl rfl (by first | rfl | assumption) ⟨⟨by omega,by omega⟩,by decide⟩ ?_;intro a2 c2;refine bK ?_;refine ae ?_;exact ⟨rfl,rfl,_,_,Wk.ax ao,a2,c2,_,_,rfl,rfl,by simp [eO],oJ⟩
   | false =>
    rw [hb] at hC;rw [if_neg (by decide)];refine ae ?_;refine ab [] (hC) ?_;exact ⟨rfl,rfl,_,_,Wk.ax ao,a,c,n,S,rfl,rfl,eO,hS⟩
  ·rintro _ _ ⟨a,c,n,S,rfl,rfl,eO,hS⟩;rw [oI] at hS
   have bT:n=(gS (fun k=>fA p (k:Int) (k:Int)) p.fns.length).length:=by rw [<-eO,hS,c8]
   generalize gS (fun k=>fA p (k:Int) (k:Int)) p.fns.length=o at *;subst bT;subst hS;refine aK ?_;refine ae ?_
   (repeat (first | refine GW.ret ?_ | refine cr ?_ | refine cn ?_ | refine aK ?_ | refine bS ?_))
   exact o7 (n:=1) rfl (by first | exact .inr rfl | exact .inl rfl) rfl (Nat.le_of_ble_eq_true rfl) rfl rfl ⟨a,c,rfl,rfl⟩
theorem NN (p:Src) (hw:dN p<=1048576) :
  GF Tryz.prog 28 [.agg (av p)] [] (ints (nu p)) []:=by
 obtain ⟨⟨a1,a2⟩,⟨b1,b2⟩,⟨c1,c2⟩,⟨d1,d2⟩⟩:=eJ p
 have oI:(p.fns.map au).length=p.fns.length:=by simp
 have hG:=Bz p hw;unfold nu
 cases ml:gP p with
 | false =>
  rw [ml] at hG;rw [if_neg (by decide)];refine aj Tryz.func28 Tryz.ntmps28 ?_;refine bE ?_;refine ae ?_;refine ab [] (hG) ?_;exact aq
 | true =>
  rw [ml] at hG;rw [if_pos rfl];obtain ⟨l,hg⟩:=xS ml;have hlen:=hg.len;refine aj Tryz.func28 Tryz.ntmps28 ?_;refine lY ?_;refine ae ?_;refine ab [] (hG) ?_;refine GW.range (p.fns.map au).length (fun k fr Γ=>∃ n S,fr=[.U,.loc 0 0,.U,.vec 1 n,.U,.U,.U,.U,.U,.U,.U,.sl 3 (p.fns.map au),.v (ii ((p.fns.map au).length:Int)),.v (ii (k:Nat)),.U,.U,.U,.U,.U,.U,.U,.U,.U,.U,.U,.U,.U]/\Γ=[.box 34 (av p),.vec 3 1 0 S]/\S.length=n/\S=bp (gS (fun k=>fA p (k:Int) (k:Int)) k)) ?_ ah ?_ ?_ ?_
  ·exact ⟨_,_,Wk.ax ao,0,[],rfl,rfl,rfl,rfl⟩
  ·rintro k _ _ ⟨n,S,rfl,rfl,_⟩;exact ⟨rfl,rfl,rfl⟩
  ·rintro k _ _ ar ⟨n,S,rfl,rfl,eO,hS⟩;rw [oI] at ar;obtain ⟨f,hf⟩:∃ f,p.fns[k]?=some f:=⟨p.fns[k],by simp [ar]⟩;obtain ⟨t,ht⟩:∃ t,l[k]?=some t:=⟨l[k]'ah,List.getElem?_eq_getElem _⟩;have hF:=Mz p hw ml (hg.fn hf ht);have Tx:=(Bf (p:=p) (l:=l) (p.fns.length+1) 0 _ (qC p t)).len
   have hH:GF Tryz.prog 51 [ints (nI p l (bq p t)),.v (ii (k:Nat))] [] (.v (.bool (fA p (k:Int) (k:Int)))) []:=by
    have:=zy (nI p l (bq p t)) (k:Int) (by unfold nI;omega);unfold fA;rw [Cz (BB ml ar) (hg.fn hf ht)];exact this
   have jW:=rD (fun k=>fA p (k:Int) (k:Int)) k;have cE:=oP (fun k=>fA p (k:Int) (k:Int)) k
   have qL:n<=1048576:=by rw [<-eO,hS,c8];omega
   have Zb:n+1<=9223372036854775807/\(n+1) * 8<=140737488355328:=by omega
   rw [jW];generalize gS (fun k=>fA p (k:Int) (k:Int)) k=o at *;generalize nI p l (bq p t)=L at *
   cases hb:fA p (k:Int) (k:Int) with
   | true =>
    rw [hb] at hH;rw [if_pos rfl];have oJ:=th (x:=(k:Int)) hS;refine ae ?_;refine ab [] (hF) ?_;refine ab [] (hH) ?_;refine dY ?_;refine ae ?_;exact ⟨rfl,rfl,_,_,Wk.ax ao,_,_,rfl,rfl,by simp [eO],oJ⟩
   | false =>
    rw [hb] at hH;rw [if_neg (by decide)];refine ae ?_;refine ab [] (hF) ?_;refine ab [] (hH) ?_;exact ⟨rfl,rfl,_,_,Wk.ax ao,n,S,rfl,rfl,eO,hS⟩
  ·rintro _ _ ⟨n,S,rfl,rfl,eO,hS⟩;rw [oI] at hS;generalize gS (fun k=>fA p (k:Int) (k:Int)) p.fns.length=o at *;subst eO;refine aK ?_;refine ae ?_;refine GW.wk (Wk.iv (t:=2) rfl rfl rfl rfl) ?_;refine bI ?_;exact ⟨by rw [hS];rfl,rfl⟩
end Go.Xg
namespace Go.Xg
open Go.RowKit Go.Xw Go.Proofs
open Go.Sp (Src)
open Go.Im
attribute [local irreducible] GW GL GO YG GC GA aW aZ
theorem yk (p:Src) (hS:GF Tryz.prog 10 [.agg (av p),.v (ii 1048576)] [] (.v (ii (-1))) []):GF Tryz.prog 7 [.agg (av p)] [] (.v (.bool true)) []:=by
 refine aj Tryz.func7 Tryz.ntmps7 ?_;refine ab [] (hS) ?_;exact aq
theorem yY (p:Src) (n:Nat) (r:List Int) (hw:dN p<=1048576) (hr:r.length<=1048576) (hS:GF Tryz.prog 10 [.agg (av p),.v (ii 1048576)] [] (.v (ii (n:Nat))) [])
  (hT:GF Tryz.prog 12 [.agg (av p)] [] (.agg (av p)) [])
  (hO:GC Tryz.prog 12 [.agg (av p)] [] fun g Δ=>∃ hg ha hf hn fs ns,wB p hg ha hf hn fs ns/\g=.agg [.v hg,.v ha,.v hf,.v hn]/\Δ=gw p hg ha hf hn fs ns)
  (hG:GF Tryz.prog 28 [.agg (av p)] [] (ints r) [])
  (hI:GC Tryz.prog 29 [.agg (av p)] [] fun g Δ=>∃ a c,g=.v (.slice a r.length c)/\Δ=[.vech 3 1 (bp r) (.slice a r.length c)])
  (hE:GF Tryz.prog 14 [.agg (av p),.agg (av p)] [] (.v (.bool true)) []) :
  GF Tryz.prog 7 [.agg (av p)] [] (.v (.bool true)) []:=by
 have hd:decide (((n:Nat):Int) < 0)=false:=by simp
 have hQ:=zc r hr;have Tt:=AF;have LM:=Af 1 r.length ah;have db:decide (((1+r.length:Nat):Int) < 0)=false:=decide_eq_false ah
 have yB:(((1+r.length:Nat):Int) != ((1+r.length:Nat):Int))=false:=by simp
 have uz:=ET r;refine aj Tryz.func7 Tryz.ntmps7 ?_;refine ab [] (hS) ?_;refine ab [] (hT) ?_;refine ab [] (hG) ?_;refine bO [] (hO) ?_;rintro _ _ ⟨hg,ha,hf,hn,fs,ns,H,rfl,rfl⟩;have LS:=vO p hg ha hf hn fs ns;have hM:=xo p hg ha hf hn fs ns H 1 hw ah;have hV:=@sG;obtain ⟨⟨q0,q1,rfl⟩,⟨q2,q3,rfl⟩,⟨q4,q5,rfl⟩,⟨q6,q7,rfl⟩,Y2,Qp,Qq,Y3⟩:=id H;rw [BN LS];refine ct ?_;refine GL.UD rfl rfl rfl rfl rfl rfl rfl ?_;refine bZ ?_;refine ae ?_;refine GL.Hf hI uz (fun r hr g hg=>by obtain ⟨s,_,rfl⟩:=List.mem_map.1 hr;rw [List.mem_singleton.1 hg];exact ⟨_,rfl⟩) (fun B K β w l hI hF=>Gn H (A:=[_]) (C:=[]) (by rw [append_nil];exact hI) hF rfl) ?_;intro ag cg;refine bZ ?_;refine ae ?_;refine GL.borrow hQ (fun B K β w l hI hF=>nR (A:=[_]) (X:=gw p _ _ _ _ fs ns) hI hF rfl rfl) ?_;refine bZ ?_;refine ae ?_;refine aE (.q 0 (.q 1 (.a 2 (.a 3 (.q 4 .nil))))) ?_;refine ak ?_;refine sK [] (hT) ?_;simp only [append_nil];refine ak ?_;refine OA rfl rfl (GL.borrow hE (fun B K β w l hI hF=>yo H (A:=[_]) hI hF rfl rfl) ?_);refine dB ?_;refine ak ?_;refine ae ?_;refine GL.oC [_] (gw p _ _ _ _ fs ns) [_] hM rfl LS (fun _=>rfl) (ko) ?_;rintro _ Δ ⟨k',rfl,Um,OT⟩;refine ⟨Um,OT,fun _=>rfl,?_⟩
 have Zd:decide (((k':Nat):Int) < 0)=false:=by simp
 refine bZ ?_;refine ae ?_;refine GL.borrow hQ (fun B K β w l hI hF=>nR (A:=[_]) (X:=Δ) hI hF rfl rfl) ?_;refine bZ ?_;refine ae ?_;refine GL.oC (_::Δ) [_] [] (Tt ag cg r.length 1 (bp r) uz ah) rfl (by intro x hx;rw [List.mem_singleton.1 hx];rfl) (fun _=>rfl) (ko) ?_;rintro _ _ ⟨rfl,rfl⟩;refine ⟨rfl,by intro x hx;rw [List.mem_singleton.1 hx];rfl,fun _=>rfl,?_⟩;refine bZ ?_;refine ae ?_;refine GL.borrow LM (fun B K β w l hI hF=>oe (A:=[_]) (X:=Δ) (C:=[]) hI hF rfl rfl) ?_;refine bZ ?_;refine ae ?_;refine gA [] (hT) ?_;simp only [append_nil];refine ae ?_;refine bO [] (hI) ?_;rintro _ _ ⟨a2,c2,rfl,rfl⟩;refine ct ?_;refine ae ?_;refine GL.borrow hQ (fun B K β w l hI hF=>by rw [List.append_assoc] at hI;exact wE (A:=[_]) (X:=Δ) hI hF rfl rfl) ?_;refine bZ ?_;refine ae ?_;refine GL.borrow LM (fun B K β w l hI hF=>by rw [List.append_assoc] at hI;exact oe (A:=[_]) (X:=Δ) hI hF rfl rfl) ?_;refine bZ ?_;exact aw
theorem zP (p:Src) (hb:Small p 9223372036854775807) (hn:ra p):GF Tryz.prog 7 [.agg (av p)] [] (.v (.bool true)) []:=by
 have hS:=AY p hb
 by_cases hw:1048576 < dN p
 ·rw [dm hw] at hS;exact yk p hS
 ·rw [fC ah] at hS
  have hw:dN p<=1048576:=by omega
  obtain ⟨⟨a1,a2⟩,⟨b1,b2⟩,⟨c1,c2⟩,⟨d1,d2⟩⟩:=eJ p
  have uv:∀ f∈p.fns,f.params.length<=1048576:=fun f h=>by have:=(c2 f h).2.1;omega
  have sk:∀ n∈p.nodes,n.kids.length<=1048576:=fun n h=>by have:=(d2 n h).2;omega
  exact yY p _ (nu p) hw (GX hw) hS (AZ p ah ah ah uv ah sk) (A0 p ah ah ah uv ah sk) (NN p hw) (NO p hw hn) (zW p ah ah ah uv ah sk)
end Go.Xg
