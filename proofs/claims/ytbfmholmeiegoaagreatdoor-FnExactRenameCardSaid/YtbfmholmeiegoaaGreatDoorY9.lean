/- Part 9 of proofs that are told in their last texts. -/
import Derived.Test.YtbfmholmeiegoaaGreatDoorY8
open List (cons_append ext_getElem? getElem?_drop getElem?_zipWith length_cons length_nil length_set map_map mem_append nil_append not_mem_nil set_append_right set_cons_zero set_set take_succ_cons take_zero zipWith_cons_cons)
set_option linter.unusedVariables false
set_option linter.unusedSimpArgs false
set_option maxRecDepth 100000
namespace Go.Xg
open Go.RowKit Go.Xw
theorem uH (A C:List Ob) (x:Ob):(A++x::C)[A.length]?=some x:=by
 rw [fa (aE _),gT];rfl
theorem pb (A C:List Ob) (x y:Ob):oset (A++x::C) A.length y=A++y::C:=by
 rw [aZ,set_append_right _ _ (aE _),gT];rfl
theorem uw (q:Nat->Bool):∀ (A B:List Ob),lx q (A++B)=(lx q A&&lx q B)
 | [],B=>by simp [lx]
 | a::A,B=>by simp only [cons_append,lx,uw q A B,Bool.and_assoc]
section
variable (a b c d e:Ob) (X:List Ob) (k x y:Ob)
theorem KQ:(a::b::c::d::e::(X++[k,x]))[X.length+6]?=some x:=by
 simp
theorem Yi (acy C:List Ob):(a::b::c::d::e::(acy++x::C))[acy.length+5]?=some x:=by
 simp
theorem o5f (acy C:List Ob):oset (a::b::c::d::e::(acy++x::C)) (acy.length+5) y=a::b::c::d::e::(acy++y::C):=by
 have:=pb (a::b::c::d::e::acy) C x y;simpa using this
theorem o5b:oset (a::b::c::d::e::(X++[k,x])) (X.length+6) y=a::b::c::d::e::(X++[k,y]):=by
 have:=pb (a::b::c::d::e::(X++[k])) [] x y;simpa using this
theorem o5c:(a::b::c::d::e::(X++[k,x]))[X.length+5]?=some k:=by
 simp
theorem o5d:oset (a::b::c::d::e::(X++[k,x])) (X.length+5) y=a::b::c::d::e::(X++[y,x]):=by
 have:=pb (a::b::c::d::e::X) [x] k y;simpa using this
end
section
variable {P:Program} {m:Nat} {Q:dU} {fr:List GV} {Γ:List Ob} {ops:Array Oper} {rest:List Oper} {d:Option Tmp} {op:Op} {ty:TypeId} {pos:String} {af:Array Edge}
theorem Wk.Ae {A:List Ob} {x:Ob} (bM:Γ=A++[x]) (hm:m<=A.length) (ha:∀ q,lx q A=true):Wk m fr Γ (Rc A.length fr) A:=by
 subst bM;have h:=Wk.cut (m:=m) (fr:=fr) (Γ:=A++[x]) (n:=A.length) hm (by simp [ha]);simpa using h
theorem GL.HX {t:TypeId} {z:Value} {agg:Bool} {k:Nat} [hZ:rU P t z] [hT:Ty P t agg k] {dt ts:Tmp} {cs:List GV} {YP:TypeId} {Sj:String} {V2:Array Edge} {d2:Option Tmp} (Pb:z.cells.size=k) (hy:lY (cz fr ts)=some cs) (ct:Nat.beq ts dt=false) (gD:jj fr dt=true) (hk:cs.length=k) (F:mO cs=true)
  (h:GL P m ops Q rest (bJ (bJ fr (some dt) (.loc Γ.length 0)) d2 (.v undef)) (Γ++[.box t cs])):GL P m ops Q (⟨some dt,.alloc t,ty,pos,af,none⟩::⟨d2,.store t (.tmp dt) (.tmp ts),YP,Sj,V2,none⟩::rest) fr Γ:=by
 refine GL.alloc (cs:=jW z.cells.toList) rfl ?_
 have BS:ts≠dt:=by intro e;subst e;simp at ct
 have Ki:∀ (fr:List GV) (t:Nat) (g:GV),jj fr t=true->cz (bp fr t g) t=g:=by
  intro fr
  induction fr with
  | nil=>intro t g h;cases h
  | cons x fr ih=>intro t g h;cases t with | zero=>rfl | succ t=>exact ih t g h
 have OO:∀ (fr:List GV) (t u:Nat) (g:GV),u≠t->cz (bp fr t g) u=cz fr u:=by
  intro fr
  induction fr with
  | nil=>intro t u g _;rfl
  | cons x fr ih =>
   intro t u g h
   cases t with
   | zero=>cases u with | zero=>exact absurd rfl h | succ u=>rfl
   | succ t=>cases u with | zero=>rfl | succ u=>exact ih t u g G
 have hlen:(jW z.cells.toList).length=k:=by simp [jW,Pb]
 refine GL.st (i:=Γ.length) (o:=0) (E:=t) (cs:=jW z.cells.toList) (gs:=cs) (Ki fr dt _ gD) (by simp) ?_ hk F (by rw [hlen];simp) ?_
 ·show lY (cz (bp fr dt _) ts)=some cs;rw [OO fr dt ts _ BS];exact hy
 ·have bR:oD (jW z.cells.toList) 0 cs=cs:=by
   have:=xS cs (jW z.cells.toList) [] (by rw [hlen,hk]);simpa using this
  rw [bR];have e:=pb Γ [] (.box t (jW z.cells.toList)) (.box t cs);rw [e];exact h
end
section
variable {P:Program} {fn:Func} {R:GV->List Ob->Prop} {fr:List GV} {Γ:List Ob} {e:Exit}
theorem Il {X Y Z:List Ob} (hX:∀ x∈X,x.ko=true) (hZ:∀ x∈Z,x.ko=true) :
  (X++Z).length=(List.range X.length++(List.range Z.length).map (·+(X.length+Y.length))).length/\(List.range X.length++(List.range Z.length).map (·+(X.length+Y.length))).Nodup /\
  ∀ (j:Nat) x,(X++Z)[j]?=some x->x.ko=true/\∀ i,(List.range X.length++(List.range Z.length).map (·+(X.length+Y.length)))[j]?=some i->(X++(Y++Z))[i]?=some x:=by
 refine ⟨by simp,?_,fun j x hj=>⟨?_,fun i hi=>?_⟩⟩
 ·rw [List.nodup_append];refine ⟨List.nodup_range,?_,?_⟩
  ·unfold List.Nodup;rw [List.pairwise_map]
   exact (List.nodup_range (n:=Z.length)).imp fun ct he=>ct G
  ·intro a ha b hb;rw [List.mem_range] at ha;obtain ⟨c,hc,rfl⟩:=mP.1 hb;omega
 ·rcases nA (bA hj) with h | h
  ·exact hX x h
  ·exact hZ x h
 ·by_cases hl:j < X.length
  ·rw [fO hl] at hj;rw [fO (by simpa using hl),List.getElem?_range hl] at hi;cases hi;rw [fO hl];exact hj
  ·rw [fa G] at hj;rw [fa (by simpa using hl),List.length_range] at hi;have hz:=(bo hj).1;rw [aP,List.getElem?_range hz] at hi;cases hi;show (X++(Y++Z))[j - X.length+(X.length+Y.length)]?=some x;rw [fa G,fa G,show j - X.length+(X.length+Y.length) - X.length - Y.length=j - X.length by omega];exact hj
theorem Wz {t u:Tmp} {T:TypeId} {k:Nat} [hT:Ty P T true k] {i:Nat} {E:TypeId} {cs:List GV} {y:Value} (aS:List Nat) (Δ:List Ob) (hr:fn.results=#[.cell t T,.tmp u]) (he:e=.normal\/e=.ret) (hg:cz fr t=.loc i 0) (bM:Γ[i]?=some (.box E cs)) (hk:cs.length=k) (hp:qm cs=true) (fU:cz fr u=.v y)
  (hl:Δ.length=aS.length) (hn:aS.Nodup) (hx:∀ (j:Nat) x,Δ[j]?=some x->x.ko=true/\∀ i,aS[j]?=some i->Γ[i]?=some x) (h:R (.tup [.agg cs,.v y]) Δ):rl P fn 0 R e fr Γ :=
 ⟨he,fun B K β w l hB hI hF=>by
  obtain ⟨b,vs,F,I,h3,h4⟩:=hI.ob i _ bM
  have OX:nth l t=.pointer (some ⟨b,0,none⟩):=by
   have:=hF.nth t;rw [hg] at this;generalize nth l t=v at this
   cases this with
   | loc _ _ b' bD=>rw [F] at bD;cases bD;rfl
  have lG:l.toArray.getD t undef=.pointer (some ⟨b,0,none⟩):=by rw [ke,OX]
  have CU:=nj (P:=P) (w:=w) (t:=T) (b:=b) (o:=0) (vs:=vs) (k:=k) (by rw [h3.1,hk]) (fun j v hj=>by
   rw [cI,cell_of_row w b j _ E (0,0) I];simpa using hj)
  have xX:l[t]?.getD undef=.pointer (some ⟨b,0,none⟩):=by simpa using lG
  have h5:bq K (oe β aS) vs cs:=h3.qm (nf hp);have hu:nth l u=y:=Rel.gk (by rw [<-fU];exact hF.nth u);refine ⟨.tuple #[.agg vs.toArray,y],K,oe β aS,.tup [.agg cs,.v y],Δ,?_,hI.pick hB hl hn hx,?_,h⟩
  ·rw [<-hu,<-ke l u];simp [results,hr,xX,asAddr,CU]
  ·have hc:bq K (oe β aS) [.agg vs.toArray,y] [.agg cs,.v y]:=.cons (.agg vs cs h5.1 h5.2) (.cons (.v _) .nil)
   exact .tup [.agg vs.toArray,y] _ hc.1 hc.2⟩
theorem Ou {t u:Tmp} {T:TypeId} {k:Nat} [hT:Ty P T true k] {i:Nat} {E:TypeId} {cs:List GV} {y:Value} (X Y Z:List Ob) (hr:fn.results=#[.cell t T,.tmp u]) (he:e=.normal\/e=.ret) (hg:cz fr t=.loc i 0) (bM:Γ[i]?=some (.box E cs)) (hk:cs.length=k) (hp:qm cs=true) (fU:cz fr u=.v y)
  (W2:Γ=X++(Y++Z)) (hX:∀ x∈X,x.ko=true) (hZ:∀ x∈Z,x.ko=true) (h:R (.tup [.agg cs,.v y]) (X++Z)):rl P fn 0 R e fr Γ:=by
 have hs:=Il (Y:=Y) hX hZ;exact Wz _ (X++Z) hr he hg bM hk hp fU hs.1 hs.2.1 (by rw [W2];exact hs.2.2) h
theorem Zh {t:Tmp} {T:TypeId} {k:Nat} [hT:Ty P T true k] {i:Nat} {E:TypeId} {cs:List GV} (X Y Z:List Ob) (hr:fn.results=#[.cell t T]) (he:e=.normal\/e=.ret) (hg:cz fr t=.loc i 0) (bM:Γ[i]?=some (.box E cs)) (hk:cs.length=k) (hp:qm cs=true)
  (W2:Γ=X++(Y++Z)) (hX:∀ x∈X,x.ko=true) (hZ:∀ x∈Z,x.ko=true) (h:R (.agg cs) (X++Z)):rl P fn 0 R e fr Γ:=by
 have hs:=Il (Y:=Y) hX hZ;exact Tl _ (X++Z) hr he hg bM hk hp hs.1 hs.2.1 (by rw [W2];exact hs.2.2) h
end
end Go.Xg
set_option maxHeartbeats 4000000
namespace Go.Xg
open GV (U)
open Go.RowKit Go.Xw Go.Proofs Tryz
open Go.Xp (Nd T Ar aK aB c6)
open Go.Sp (Src)
open Go.Im
attribute [local irreducible] GW GL GO YG GC GA be bg
theorem yE {α γ:Type} {f:α->Value->γ} {l:List α} {hs:List Value} {k:Nat} {x:α} (h:l[k]?=some x) (hl:hs.length=k) (y:Value):List.zipWith f (l.take (k+1)) (hs++[y])=List.zipWith f (l.take k) hs++[f x y]:=by
 have hi:=(bo h).1;rw [cq,h,show (some x).toList=[x] from rfl,List.zipWith_append (by rw [cX];omega)];rfl
theorem Kh {α:Type} {n:α->Nat} {l:List α} {hs:List Value} {k:Nat} {x:α} {y:Value} (h:l[k]?=some x) (hl:hs.length=k) (hh:∀ (i:Nat) a b,l[i]?=some a->hs[i]?=some b->Hd (n a) b) (hy:Hd (n x) y):∀ (i:Nat) a b,l[i]?=some a->(hs++[y])[i]?=some b->Hd (n a) b:=fun i a b F I=>by
 by_cases hik:i < hs.length
 ·rw [fO hik] at I;exact hh i a b F I
 ·have h3:=(bo I).1;rw [aO,List.length_singleton] at h3
  have:i=k:=by omega
  subst this;rw [fa G,hl,gT] at I;rw [h] at F
  cases F;cases I;exact hy
theorem KS:∀ l:List Ar,kT (l.map az)=true
 | []=>rfl
 | a::l=>by
  have:=KS l;rw [List.map_cons,kT,this];rfl
theorem H3:∀ l:List Int,kT (l.map fun i=>[GV.v (ii i)])=true
 | []=>rfl
 | a::l=>by
  have:=H3 l;rw [List.map_cons,kT,this];rfl
theorem Gw (p:Src) (hw:fC p<=1048576) :
  GC prog 41 [.agg (av p)] [] fun g Δ=>∃ hg ha hf hn fs ns,ra p hg ha hf hn fs ns/\g=.agg [.v hg,.v ha,.v hf,.v hn]/\Δ=gI p hg ha hf hn fs ns:=by
 obtain ⟨⟨a1,a2⟩,⟨b1,b2⟩,⟨c1,c2⟩,⟨d1,d2⟩⟩:=jO p
 have He:(p.globals.map fun s=>[GV.v (sv s)]).length=p.globals.length:=by simp
 have CM:(p.arrays.map az).length=p.arrays.length:=by simp
 have qg:(p.fns.map au).length=p.fns.length:=by simp
 have eK:(p.nodes.map ax).length=p.nodes.length:=by simp
 have ln:=nN p.globals;have uO:=KS p.arrays;refine cL func41 ntmps41 ?_;refine GW.wk (Wk.kE 9 1) ?_;refine GW.wk (Wk.kE 56 2) ?_;simp only [nil_append,cons_append];refine GW.seq ?_;refine GW.region ?_;refine GL.mo rfl rfl ?_;refine bm ?_;refine D ?_
 have Ki:br p.globals=p.globals.map fun s=>[GV.v (sv s)]:=rfl
 refine GW.join (fun fr Γ=>∃ ag cg aa ca,fr=[U,.box (av p) 0,.loc 2 0,.loc 3 0,U,U,U,U,U,U,U,U,U,U,U,U,U,U,U,U,U,U,U,U,U,U,U,U,U,U,U,U,U,U,U,U,U,U,U,U,U,U,U,U,U,U,U,U,U,U,U,U]/\Γ=[.vech 9 1 (br p.globals) (.slice ag p.globals.length cg),.vech 56 2 (p.arrays.map az) (.slice aa p.arrays.length ca),.box 33 [.v (.slice none 0 0),.v (.slice none 0 0),.v (.slice none 0 0),.v (.slice none 0 0)],.box 33 [.v (.slice ag p.globals.length cg),.v (.slice aa p.arrays.length ca),.v (.slice none 0 0),.v (.slice none 0 0)]]) ?_ ?_
 ·refine aL (.q 0 (.q 1 (.q 3 (.q 4 (.f 2 (.f 5 (.q 6 (.a 7 (.a 8 .nil))) 7 (.a 5 (.q 6 (.a 8 .nil)))) 7 (.a 2 (.a 5 (.q 6 (.a 8 .nil))))))))) ?_;refine ao ?_;refine GO.fork ?_ ?_
  ·refine OA rfl rfl ?_;refine GL.qv 0 rfl rfl rfl rfl ln (by rw [He];refine ⟨?_,?_⟩ <;> omega) ?_;intro ag cg;rw [He];refine dd ?_;simp only [nil_append,length_nil,cI];refine ao ?_;refine GO.fork ?_ ?_
   ·refine OA rfl rfl ?_;refine GL.qv 1 rfl rfl rfl rfl uO (by rw [CM];refine ⟨?_,?_⟩ <;> omega) ?_;intro aa ca;rw [CM];refine dd ?_;simp only [nil_append,length_nil,cI];refine ao ?_;exact ba ⟨_,_,Wk.aH ar,ag,cg,aa,ca,rfl,rfl⟩
   ·refine ao ?_;refine OA rfl rfl ?_;refine GL.qv 1 rfl rfl rfl rfl uO (by rw [CM];refine ⟨?_,?_⟩ <;> omega) ?_;intro aa ca;rw [CM];refine dd ?_;simp only [nil_append,length_nil,cI];refine ao ?_;exact ba ⟨_,_,Wk.aH ar,ag,cg,aa,ca,rfl,rfl⟩
  ·refine ao ?_;refine OA rfl rfl ?_;refine GL.qv 0 rfl rfl rfl rfl ln (by rw [He];refine ⟨?_,?_⟩ <;> omega) ?_;intro ag cg;rw [He];refine dd ?_;simp only [nil_append,length_nil,cI];refine ao ?_;refine OA rfl rfl ?_;refine GL.qv 1 rfl rfl rfl rfl uO (by rw [CM];refine ⟨?_,?_⟩ <;> omega) ?_;intro aa ca;rw [CM];refine dd ?_;simp only [nil_append,length_nil,cI];refine ao ?_;exact ba ⟨_,_,Wk.aH ar,ag,cg,aa,ca,rfl,rfl⟩
 rintro _ _ ⟨ag,cg,aa,ca,rfl,rfl⟩;generalize WK:Ob.vech 9 1 (br p.globals) (.slice ag p.globals.length cg)=G0 at *;generalize Kd:Ob.vech 56 2 (p.arrays.map az) (.slice aa p.arrays.length ca)=A0 at *;refine GW.wk (Wk.kE 58 3) ?_;simp only [nil_append,cons_append]
 have hGk:∀ q,Ob.ok q G0=true:=fun q=>by rw [<-WK];rfl
 have hAk:∀ q,Ob.ok q A0=true:=fun q=>by rw [<-Kd];rfl
 refine D ?_
 refine GW.range (p.fns.map au).length (fun k fr Γ=>∃ af cf fs,fr=[U,.box (av p) 0,.loc 2 0,.loc 3 0,U,U,U,U,U,U,U,U,U,U,U,U,.sl 3 (p.fns.map au),.v (ii ((p.fns.map au).length:Int)),.v (ii (k:Nat)),U,U,U,U,U,U,U,U,U,U,U,U,U,U,U,U,U,U,U,U,U,U,U,U,U,U,U,U,U,U,U,U,U]/\fs.length=k/\(∀ (i:Nat) x y,p.fns[i]?=some x->fs[i]?=some y->Hd x.params.length y) /\
  Γ=G0::A0::.box 33 [.v (.slice none 0 0),.v (.slice none 0 0),.v (.slice none 0 0),.v (.slice none 0 0)]::.box 33 [.v (.slice ag p.globals.length cg),.v (.slice aa p.arrays.length ca),.v (.slice af k cf),.v (.slice none 0 0)]::.vech 58 3 (List.zipWith ea (p.fns.take k) fs) (.slice af k cf)::List.zipWith eZ (p.fns.take k) fs) ?_ G ?_ ?_ ?_
 ·exact ⟨_,_,Wk.aH ar,none,0,[],rfl,rfl,(fun i x y _ h=>by simp at h),rfl⟩
 ·rintro k _ _ ⟨af,cf,fs,rfl,_,_,rfl⟩;exact dK
 ·rintro k _ _ hk ⟨af,cf,fs,rfl,gC,Ha,rfl⟩;rw [qg] at hk;obtain ⟨f,hf⟩:∃ f,p.fns[k]?=some f:=⟨p.fns[k],by simp [hk]⟩
  have hr:(p.fns.map au)[k]?=some (au f):=by rw [aP,hf];rfl
  have cZ:=(c2 f (bA hf)).2.1
  have qN:(f.params.map fun s=>[GV.v (sv s)]).length=f.params.length:=by simp
  have eO:=nN f.params
  have XN:=fun y=>yE (f:=ea) hf gC y
  have XM:=fun y=>yE (f:=eZ) hf gC y
  have CW:=fun (a:Option Addr) (c:Nat)=>Kh (n:=fun x:Go.Sp.Fn=>x.params.length) hf gC Ha (y:=.slice a f.params.length c) ⟨a,c,rfl⟩
  have W3:∀ q,lx q (List.zipWith eZ (p.fns.take k) fs)=true:=fun q=>pH (eR (fun _ _=>rfl))
  have l0:(List.zipWith ea (p.fns.take k) fs).length=k:=by rw [jE,cX];omega
  generalize List.zipWith ea (p.fns.take k) fs=R at *;generalize List.zipWith eZ (p.fns.take k) fs=X at *;unfold au at hr;refine GW.wk (Wk.kE 9 1) ?_;simp only [cons_append];refine lU ?_;refine GL.HX rfl rfl rfl rfl rfl rfl ?_;refine bm ?_
  have hq:∀ (a b c d e k:Ob),(a::b::c::d::e::(X++[k])).length=X.length+6:=fun a b c d e k=>by simp
  simp only [hq,cons_append,cS,nil_append];refine D ?_;refine GL.q (YG.w9 rfl (KQ _ _ _ _ _ _ _ _) rfl) ?_;refine bm ?_;refine GL.qv (X.length+5) rfl rfl (o5c _ _ _ _ _ _ _ _) rfl eO (by rw [qN];refine ⟨?_,?_⟩ <;> omega) ?_;intro a1 c1;rw [qN];simp only [nil_append,length_nil,cI];refine oL nU (o5d _ _ _ _ _ _ _ _ _) ?_;refine D ?_;refine GL.st rfl (KQ _ _ _ _ _ _ _ _) rfl rfl rfl rfl ?_;refine oL nU (o5b _ _ _ _ _ _ _ _ _) ?_;refine D ?_;refine GL.q (YG.B3 rfl (KQ _ _ _ _ _ _ _ _) rfl rfl) ?_;refine bm ?_;refine GL.pI 4 rfl rfl rfl rfl rfl rfl rfl rfl l0 sL ?_;intro a2 c2;refine dk ?_;refine D ?_;refine ⟨rfl,rfl,_,_,(Wk.Ae (A:=G0::A0::_::_::_::(X++[_])) (by simp only [cons_append,cS,nil_append];rfl) (aM _) (fun q=>by simp only [lx,uw,hGk,hAk,W3];rfl)).trans (Wk.aH ar),a2,c2,fs++[.slice a1 f.params.length c1],rfl,by simp [gC],CW a1 c1,?_⟩;rw [XN,XM];rfl
 ·rintro _ _ ⟨af,cf,fs,rfl,gC,Ha,rfl⟩;rw [qg] at gC |-;rw [bW];refine ba ?_
  have hFk:∀ q,lx q (List.zipWith eZ p.fns fs)=true:=fun q=>pH (eR (fun _ _=>rfl))
  have hFH:∀ x∈List.zipWith eZ p.fns fs,x.ko=true:=eR (fun _ _=>rfl);have hFe:List.zipWith eZ p.fns fs=List.zipWith eZ p.fns fs:=rfl;refine GW.wk (Wk.kE 62 5) ?_;simp only [cons_append];generalize WJ:Ob.vech 58 3 (List.zipWith ea p.fns fs) (.slice af p.fns.length cf)=FV at *
  have hVk:∀ q,Ob.ok q FV=true:=fun q=>by rw [<-WJ];rfl
  generalize OB:List.zipWith eZ p.fns fs=FO at *;refine D ?_
  refine GW.range (p.nodes.map ax).length (fun k fr Γ=>∃ an cn ns,fr=[U,.box (av p) 0,.loc 2 0,.loc 3 0,U,U,U,U,U,U,U,U,U,U,U,U,U,U,U,U,U,U,U,U,U,U,U,U,U,U,U,U,U,U,.sl 5 (p.nodes.map ax),.v (ii ((p.nodes.map ax).length:Int)),.v (ii (k:Nat)),U,U,U,U,U,U,U,U,U,U,U,U,U,U,U]/\ns.length=k/\(∀ (i:Nat) x y,p.nodes[i]?=some x->ns[i]?=some y->Hd x.kids.length y) /\
   Γ=G0::A0::.box 33 [.v (.slice none 0 0),.v (.slice none 0 0),.v (.slice none 0 0),.v (.slice none 0 0)]::.box 33 [.v (.slice ag p.globals.length cg),.v (.slice aa p.arrays.length ca),.v (.slice af p.fns.length cf),.v (.slice an k cn)]::FV::(FO++.vech 62 5 (List.zipWith bs (p.nodes.take k) ns) (.slice an k cn)::List.zipWith bz (p.nodes.take k) ns)) ?_ G ?_ ?_ ?_
  ·exact ⟨_,_,Wk.aH ar,none,0,[],rfl,rfl,(fun i x y _ h=>by simp at h),rfl⟩
  ·rintro k _ _ ⟨an,cn,ns,rfl,_,_,rfl⟩;exact dK
  ·rintro k _ _ hk ⟨an,cn,ns,rfl,kX,CW,rfl⟩;rw [eK] at hk;obtain ⟨f,hf⟩:∃ f,p.nodes[k]?=some f:=⟨p.nodes[k],by simp [hk]⟩
   have hr:(p.nodes.map ax)[k]?=some (ax f):=by rw [aP,hf];rfl
   have cZ:=(d2 f (bA hf)).2
   have qN:(f.kids.map fun i=>[GV.v (ii i)]).length=f.kids.length:=by simp
   have eO:=H3 f.kids
   have XN:=fun y=>yE (f:=bs) hf kX y
   have XM:=fun y=>yE (f:=bz) hf kX y
   have qM:=fun (a:Option Addr) (c:Nat)=>Kh (n:=fun x:Nd=>x.kids.length) hf kX CW (y:=.slice a f.kids.length c) ⟨a,c,rfl⟩
   have W3:∀ q,lx q (List.zipWith bz (p.nodes.take k) ns)=true:=fun q=>pH (eR (fun _ _=>rfl))
   have l0:(List.zipWith bs (p.nodes.take k) ns).length=k:=by rw [jE,cX];omega
   generalize List.zipWith bs (p.nodes.take k) ns=R at *;generalize List.zipWith bz (p.nodes.take k) ns=NO at *;unfold ax at hr;generalize hX:FO++Ob.vech 62 5 R (.slice an k cn)::NO=X;refine GW.wk (Wk.kE 3 1) ?_;simp only [cons_append];refine lU ?_;refine GL.HX rfl rfl rfl rfl rfl rfl ?_;refine bm ?_
   have hq:∀ (a b c d e k:Ob),(a::b::c::d::e::(X++[k])).length=X.length+6:=fun a b c d e k=>by simp
   simp only [hq,cons_append,cS,nil_append];refine D ?_;refine GL.q (YG.w9 rfl (KQ _ _ _ _ _ _ _ _) rfl) ?_;refine bm ?_;refine GL.qv (X.length+5) rfl rfl (o5c _ _ _ _ _ _ _ _) rfl eO (by rw [qN];refine ⟨?_,?_⟩ <;> omega) ?_;intro a1 c1;rw [qN];simp only [nil_append,length_nil,cI];refine oL nU (o5d _ _ _ _ _ _ _ _ _) ?_;refine D ?_;refine GL.st rfl (KQ _ _ _ _ _ _ _ _) rfl rfl rfl rfl ?_;refine oL nU (o5b _ _ _ _ _ _ _ _ _) ?_;refine D ?_;refine GL.q (YG.B3 rfl (KQ _ _ _ _ _ _ _ _) rfl rfl) ?_;refine bm ?_;subst hX;simp only [cS,cons_append];refine GL.pI (FO.length+5) rfl rfl rfl rfl rfl rfl rfl (Yi _ _ _ _ _ _ _ _) l0 sL ?_;intro a2 c2;refine oL nU (o5f _ _ _ _ _ _ _ _ _) ?_;refine D ?_;refine ⟨rfl,rfl,_,_,(Wk.Ae (A:=G0::A0::_::_::FV::(FO++_::(NO++[_]))) (by simp only [cons_append,cS,nil_append];rfl) (aM _) (fun q=>by simp only [lx,uw,hGk,hAk,W3,hVk,hFk];rfl)).trans (Wk.aH ar),a2,c2,ns++[.slice a1 f.kids.length c1],rfl,by simp [kX],qM a1 c1,?_⟩;rw [XN,XM];rfl
  ·rintro _ _ ⟨an,cn,ns,rfl,kX,CW,rfl⟩;rw [eK] at kX |-;rw [bW];refine ba ?_;refine D ?_;refine ny ?_;refine Zh (X:=[G0,A0]) (Y:=[_,_]) (Z:=FV::(FO++_::List.zipWith bz p.nodes ns)) rfl dI rfl rfl rfl rfl rfl ?_ ?_ ?_
   ·intro x hx
    rcases de hx with rfl | hx
    ·rw [<-WK];rfl
    ·rw [sP hx,<-Kd];rfl
   ·intro x hx
    rcases de hx with rfl | hx
    ·rw [<-WJ];rfl
    rcases nA hx with hx | hx
    ·exact hFH x hx
    rcases de hx with rfl | hx
    ·rfl
    ·exact eR (fun _ _=>rfl) x hx
   ·refine ⟨_,_,_,_,fs,ns,⟨⟨ag,cg,rfl⟩,⟨aa,ca,rfl⟩,⟨af,cf,rfl⟩,⟨an,cn,rfl⟩,gC,kX,Ha,CW⟩,rfl,?_⟩;unfold gI;rw [<-WK,<-Kd,<-WJ,<-OB];rfl
end Go.Xg
namespace Go.Xg
open Go.RowKit Go.Xw Go.Proofs Tryz
open Go.Xp (Nd T Ar aK aB)
open Go.Sp (Src)
open Go.Im
attribute [local irreducible] GW GL GO YG GC GA be bg
theorem P4 {s:List Nd} {ns:List Value} {a:Nat} {x:Nd} {h:Value} (nw:Go.Xp.ae) (F:s[a]?=some x) (I:ns[a]?=some h):dp (List.zipWith bs s ns) a 3 (.v (sv nw))=List.zipWith bs (zW nw s a) ns:=by
 have hr:(List.zipWith bs s ns)[a]?=some (bs x h):=by rw [getElem?_zipWith,F,I]
 have hi:=(bo F).1;unfold zW;rw [F]
 refine ext_getElem? fun q=>?_
 rw [xp hr,getElem?_zipWith,getElem?_zipWith,dx]
 by_cases hq:q=a
 ·subst hq;rw [ab rfl,ab rfl,ab hi,I];rfl
 ·rw [L hq,L (fun e=>hq e.symm)]
theorem VP (p:Src) (fr nw:Go.Xp.ae) (g1 g2 g3 g4:Value) (ns:List Value) (a:Nat) (n:Nd) (l:List T) (ls:List Go.Xp.ae) (s:List Nd) (E1:TypeId) (ad:Option Addr) (cp:Nat) (hn:p.nodes[a]?=some n) (iD:ls.length<=1099511627776) (hs:s.length=p.nodes.length) (kX:ns.length=p.nodes.length) :
  GF prog 45 [.v (ii (a:Nat)),.v (.slice ad ls.length cp),.box (av p) 0,.box [.v (sv fr)] 0,.box [.v (sv nw)] 0,.loc 0 0] [.box E1 [.v g1,.v g2,.v g3,.v g4],.vech 62 5 (List.zipWith bs s ns) g4,.vech 9 1 (br ls) (.slice ad ls.length cp)] (.tup [])
   [.box E1 [.v g1,.v g2,.v g3,.v g4],.vech 62 5 (List.zipWith bs (jr fr nw s a (.mk n l) ls) ns) g4,.vech 9 1 (br ls) (.slice ad ls.length cp)]:=by
 have hr:=jL hn;have hai:=(bo hn).1;have hL:=iz ls fr iD
 have e3:∀ x:List Go.Xp.ae,strs x=.sl 1 (br x):=fun _=>rfl
 rw [e3] at hL;obtain ⟨x,hx⟩:∃ x,s[a]?=some x:=⟨s[a]'G,dO _⟩;obtain ⟨h,hh⟩:∃ h,ns[a]?=some h:=⟨ns[a]'G,dO _⟩
 have bK:(List.zipWith bs s ns)[a]?=some (bs x h):=by rw [getElem?_zipWith,hx,hh]
 have hal:a < (List.zipWith bs s ns).length:=by rw [jE];omega
 have bR:=P4 nw hx hh;unfold bs at bK
 have e:jr fr nw s a (.mk n l) ls=if pV fr n ls=true then zW nw s a else s:=rfl
 rw [e];unfold ax at hr;have ab3:(n.kind != 13)=!(n.kind==13):=rfl
 cases F:(n.s==fr) with
 | false =>
  have hf:pV fr n ls=false:=by unfold pV;rw [F];rfl
  rw [hf,L aU];refine cL func45 ntmps45 ?_;refine lU ?_;refine GL.wm rfl rfl rfl rfl rfl rfl rfl ?_;refine bm ?_;exact iL
 | true =>
  cases I:(n.kind != 13) with
  | false =>
   have hf:pV fr n ls=false:=by unfold pV;rw [F,I];rfl
   rw [hf,L aU];refine cL func45 ntmps45 ?_;refine lU ?_;refine GL.wm rfl rfl rfl rfl rfl rfl rfl ?_;refine bm ?_;exact iL
  | true =>
   cases h3:(n.kind==4) with
   | true =>
    have hf:pV fr n ls=true:=by unfold pV;rw [F,I,h3];rfl
    rw [hf,ab rfl,<-bR];refine cL func45 ntmps45 ?_;refine lU ?_;refine GL.wm rfl rfl rfl rfl rfl rfl rfl ?_;refine bm ?_;refine D ?_;refine kP ?_;exact iL
   | false =>
    cases h4:ls.contains fr with
    | true =>
     rw [h4] at hL
     have hf:pV fr n ls=false:=by unfold pV;rw [F,I,h3,h4];rfl
     rw [hf,L aU];refine cL func45 ntmps45 ?_;refine lU ?_;refine GL.wm rfl rfl rfl rfl rfl rfl rfl ?_;refine bm ?_;refine D ?_;refine GL.borrow hL (fun B K β w l hI hF=>fS (A:=[_,_]) (C:=[]) hI hF rfl rfl) ?_;refine bm ?_;exact iL
    | false =>
     rw [h4] at hL
     have hf:pV fr n ls=true:=by unfold pV;rw [F,I,h3,h4];rfl
     rw [hf,ab rfl,<-bR];refine cL func45 ntmps45 ?_;refine lU ?_;refine GL.wm rfl rfl rfl rfl rfl rfl rfl ?_;refine bm ?_;refine D ?_;refine GL.borrow hL (fun B K β w l hI hF=>fS (A:=[_,_]) (C:=[]) hI hF rfl rfl) ?_;refine bm ?_;refine D ?_;refine kP ?_;exact iL
end Go.Xg
namespace Go.Xg
open GV (U)
open Go.RowKit Go.Xw Go.Proofs Tryz
open Go.Xp (Nd T Ar aK aB dF)
open Go.Sp (Src)
open Go.Im
attribute [local irreducible] GW GL GO YG GC GA be bg
def Lo (p:Src) (fo nw:Go.Xp.ae) (g1 g2 g3 g4:Value) (ns:List Value):GV:=.fn (.func 45) [] [.box (av p) 0,.box [.v (sv fo)] 0,.box [.v (sv nw)] 0,.loc 0 0]
def Uj (p:Src):GV:=.fn (.func 97) [] [.loc 2 0,.loc 3 0,.box (av p) 0,.loc 4 0]
def FI (p:Src) (fo nw:Go.Xp.ae) (g1 g2 g3 g4:Value) (ns:List Value) (E1 E2 E3 E4:TypeId) (s:List Nd) (ls:List ae) (ad:Option Addr) (cp:Nat):List Ob :=
 [.box E1 [.v g1,.v g2,.v g3,.v g4],.vech 62 5 (List.zipWith bs (s) ns) g4,.box E2 [Lo p fo nw g1 g2 g3 g4 ns],.box E3 [.v (.slice ad ls.length cp)],.box E4 [Uj p],.vech 9 1 (br ls) (.slice ad ls.length cp)]
theorem SZ (p:Src) (fo nw:Go.Xp.ae) (g1 g2 g3 g4:Value) (ns:List Value) (E1 E2 E3 E4:TypeId) (hp:p.nodes.length<=1048576) (fH:∀ n∈p.nodes,n.kids.length<=1099511627776) (kX:ns.length=p.nodes.length):∀ (N:Nat) (t:T),aK t<=N->∀ (a:Nat) (s:List Nd) (ls:List ae) (ad:Option Addr) (cp:Nat),eF p.nodes a t->ls.length+aK t<=8388608->s.length=p.nodes.length ->
  GC prog 97 [.v (ii (a:Nat)),.loc 2 0,.loc 3 0,.box (av p) 0,.loc 4 0] (FI p fo nw g1 g2 g3 g4 ns E1 E2 E3 E4 s ls ad cp) fun g Δ=>g=.tup []/\∃ lh lj,Δ=FI p fo nw g1 g2 g3 g4 ns E1 E2 E3 E4 (gW (jr fo nw) t a s ls).1 (gW (jr fo nw) t a s ls).2 lh lj:=by
 intro N
 induction N with
 | zero=>intro t h;have:=jy t;omega
 | succ N ih =>
 intro t hN a s ls ad cp cj iD hs
 cases t with
 | mk n l =>
 rw [Go.Xp.aK] at hN iD;have zB:=cj;rw [eF] at cj;obtain ⟨hn,hk,uW⟩:=cj;rw [gW];have hr:=jL hn;have oW:=fH n (bA hn);have ht:=VP p fo nw g1 g2 g3 g4 ns a n l ls s E1 ad cp hn G hs kX;have TJ:=FP fo nw s a (.mk n l) ls;generalize iQ:(jr fo nw) s a (.mk n l) ls=s1 at *
 have vF:n.kids.length=l.length:=by rw [hk,dF]
 unfold ax at hr;unfold FI Lo Uj;refine ah func97 ntmps97 ?_;refine GL.sV [0,1,5] ht rfl rfl rfl (by repeat (first | exact trivial | refine ⟨rfl,?_⟩)) ?_;rintro _ _ ⟨rfl,rfl⟩;refine dH ?_;refine D ?_;refine GW.range (n.kids.map fun i=>[GV.v (ii i)]).length (fun k fr Γ=>∃ lh lj,fr=[.v (ii (a:Nat)),.loc 2 0,.loc 3 0,.box (av p) 0,.loc 4 0,U,U,U,U,U,U,U,U,U,U,U,U,ints n.kids,.v (ii ((n.kids.map fun i=>[GV.v (ii i)]).length:Int)),.v (ii (k:Nat)),U,U,U,U,U,U,U,U,U,U,U,U,U,U,U,U,U,U,U,U,U,U,U]/\Γ=FI p fo nw g1 g2 g3 g4 ns E1 E2 E3 E4 (dD (jr fo nw) (l.take k) (a+1) s1 ls).1 (dD (jr fo nw) (l.take k) (a+1) s1 ls).2 lh lj) ?_ (by rw [bP];omega) ?_ ?_ ?_
 ·exact ⟨_,_,Wk.aH ar,ad,cp,rfl,rfl⟩
 ·rintro k _ _ ⟨ad,cp,rfl,rfl⟩;exact dK
 ·rintro k _ _ ak ⟨ad,cp,rfl,rfl⟩;rw [bP,vF] at ak;obtain ⟨u,hu⟩:∃ u,l[k]?=some u:=⟨l[k],by simp [ak]⟩;have gy:=vI (n:=a+1) hu;rw [<-hk] at gy;have wY:=sG gy;have dr:=nS hu;have O4:eF p.nodes (a+1+aB (l.take k)) u:=ed.ix l (a+1) k u uW hu
  have hlen:(dD (jr fo nw) (l.take k) (a+1) s1 ls).2.length<=ls.length+aB (l.take k):=by
   rw [oS,aO];have:=la (l.take k);omega
  have hm1:=DZ fo nw (l.take k) (a+1) s1 ls;rw [BH _ hu];generalize (dD (jr fo nw) (l.take k) (a+1) s1 ls).1=s2 at *;generalize (dD (jr fo nw) (l.take k) (a+1) s1 ls).2=ls2 at *;have hv:=ih u G (a+1+aB (l.take k)) s2 ls2 ad cp O4 G G;unfold FI Lo Uj at hv |-;refine D ?_;refine GL.sV [0,1,2,3,4,5] hv rfl rfl rfl (by repeat (first | exact trivial | refine ⟨rfl,?_⟩)) ?_;rintro _ _ ⟨rfl,lh,lj,rfl⟩;refine dH ?_;refine D ?_;exact ⟨rfl,rfl,_,_,Wk.aH ar,lh,lj,rfl,rfl⟩
 ·rintro _ _ ⟨ad,cp,rfl,rfl⟩;rw [bP,vF,bW]
  have hlen:(dD (jr fo nw) l (a+1) s1 ls).2.length<=ls.length+aB l:=by
   rw [oS,aO];have:=la l;omega
  generalize (dD (jr fo nw) l (a+1) s1 ls).1=s2 at *;generalize (dD (jr fo nw) l (a+1) s1 ls).2=ls2 at *;have Kk:(br ls2).length=ls2.length:=qV ls2;unfold FI Lo Uj;refine ba ?_
  cases hv:(n.kind==13) with
  | false =>
   rw [L (by simpa using hv)];refine D ?_;refine dz ?_;exact ⟨rfl,ad,cp,rfl⟩
  | true =>
   rw [ab (by simpa using hv)];refine D ?_;refine aL (aD 0 7 (.a 7 (.a 8 (.a 9 .nil)))) ?_;refine ao ?_;refine dC ?_;refine ao ?_;refine OA rfl rfl (GL.qA 5 (news:=[[.v (sv n.s)]]) rfl rfl rfl bj rfl rfl (by refine ⟨?_,?_⟩;(· show _+1<=_;omega);(· show (_+1) * _<=_;omega)) ?_);intro p8 p9;refine dd ?_;refine bx ?_;refine dz ?_;exact ⟨rfl,p8,p9,by simp [br]⟩
theorem UH (p:Src) (fo nw:Go.Xp.ae) (g1 g2 g3 g4:Value) (ns:List Value) (E1:TypeId) (i:Nat) (f:Go.Sp.Fn) (t:T) (s:List Nd) (hp:p.nodes.length<=1048576) (fH:∀ n∈p.nodes,n.kids.length<=1099511627776) (kX:ns.length=p.nodes.length)
  (hf:p.fns[i]?=some f) (ru:f.params.length<=1048576) (hb:0<=f.body) (cj:eF p.nodes f.body.toNat t) (dr:aK t<=1048576) (hs:s.length=p.nodes.length) :
  GF prog 44 [.agg (av p),.v (ii (i:Nat)),Lo p fo nw g1 g2 g3 g4 ns] [.box E1 [.v g1,.v g2,.v g3,.v g4],.vech 62 5 (List.zipWith bs (s) ns) g4] (.tup []) [.box E1 [.v g1,.v g2,.v g3,.v g4],.vech 62 5 (List.zipWith bs ((gW (jr fo nw) t f.body.toNat s f.params).1) ns) g4]:=by
 have hr:(p.fns.map au)[i]?=some (au f):=by rw [aP,hf];rfl
 have cZ:(f.params.map fun s=>[GV.v (sv s)]).length=f.params.length:=by simp
 have eO:=nN f.params;obtain ⟨b,vA⟩:∃ b:Nat,f.body=(b:Int):=⟨f.body.toNat,by omega⟩;rw [vA,pM] at cj |-;unfold au at hr;rw [vA] at hr;unfold Lo;refine cL func44 ntmps44 ?_;refine jS ?_;refine GL.wk (Wk.freeze (i:=2) rfl rfl rfl (aE _)) ?_;refine GN (by simp only [oU,ou];rfl) ?_;refine GL.wk (Wk.aH (cJ:=[U,.v (ii (i:Nat)),U,.box (av p) 0,U,.loc 3 0,U,U,U,U,U,U,U,strs f.params,U,U,U,U,U,U,U,U,U,U]) ar) ?_;refine GL.wk (Wk.kE 9 1) ?_;refine GL.qv 4 rfl rfl rfl rfl eO (by refine ⟨?_,?_⟩;(· rw [cZ];omega);(· rw [cZ];omega)) ?_;intro ad cp;rw [cZ];refine bm ?_;simp only [nil_append,length_nil,cI];refine D ?_;refine GW.Gz (cJ:=[U,.v (ii (i:Nat)),U,.box (av p) 0,U,.loc 3 0,.loc 5 0,.loc 6 0,U,U,U,U,U,U,U,U,U,U,U,U,U,U,U,U]) (aR:=[.box E1 [.v g1,.v g2,.v g3,.v g4],.vech 62 5 (List.zipWith bs (s) ns) g4,.gone,.box _ [.fn (.func 45) [] [.box (av p) 0,.box [.v (sv fo)] 0,.box [.v (sv nw)] 0,.loc 0 0]],.vech 9 1 (br f.params) (.slice ad f.params.length cp),.box _ [.v (.slice ad f.params.length cp)],.box _ [.fn (.func 97) [] [.loc 3 0,.loc 5 0,.box (av p) 0,.loc 6 0]]]) ar rfl ?_;refine aL (aD 0 7 (.a 7 .nil)) ?_;refine ao ?_;have hv:=SZ p fo nw g1 g2 g3 g4 ns E1;refine OA rfl rfl (GL.sV [0,1,3,5,6,4] (hv _ _ _ hp fH kX _ t (aE _) b s f.params ad cp cj G hs) rfl rfl rfl (by repeat (first | exact trivial | refine ⟨rfl,?_⟩)) ?_);rintro _ _ ⟨rfl,lh,lj,rfl⟩;refine ⟨by simp [FI],?_⟩;unfold FI;refine dd ?_;refine ao ?_;exact iL
end Go.Xg
namespace Go.Xg
open Go.RowKit Go.Xw Go.Proofs Tryz
open Go.Xp (Nd T Ar aK aB)
open Go.Sp (Src bf)
open Go.Im
attribute [local irreducible] GW GL GO YG GC GA be bg
def uC (q:Src) (c:Int) (g:GV) (Δ:List Ob):Prop:=∃ hg ha hf hn fs ns,ra q hg ha hf hn fs ns/\g=.tup [.agg [.v hg,.v ha,.v hf,.v hn],.v (ii c)]/\Δ=gI q hg ha hf hn fs ns
theorem VD (c:Int):uC eu c (.tup [.agg [.v (.slice none 0 0),.v (.slice none 0 0),.v (.slice none 0 0),.v (.slice none 0 0)],.v (ii c)]) [.vech 9 1 [] (.slice none 0 0),.vech 56 2 [] (.slice none 0 0),.vech 58 3 [] (.slice none 0 0),.vech 62 5 [] (.slice none 0 0)] :=
 ⟨_,_,_,_,[],[],⟨⟨none,0,rfl⟩,⟨none,0,rfl⟩,⟨none,0,rfl⟩,⟨none,0,rfl⟩,rfl,rfl,(fun i x y h=>by simp [eu] at h),fun i x y h=>by simp [eu] at h⟩,rfl,rfl⟩
theorem Sc:∀ x∈[Ob.vech 9 1 [] (.slice none 0 0),.vech 56 2 [] (.slice none 0 0),.vech 58 3 [] (.slice none 0 0),.vech 62 5 [] (.slice none 0 0)],x.ko=true:=fun x hx=>by
 simp only [List.mem_cons,not_mem_nil,or_false] at hx
 rcases hx with rfl | rfl | rfl | rfl <;> rfl
theorem GW.eu {P:Program} {fn:Func} {Q:dU} {t u:Tmp} {T:TypeId} [hT:Ty P T true 4] {i:Nat} {E:TypeId} {c:Int} {fr:List GV} {Γ:List Ob} (hr:fn.results=#[.cell t T,.tmp u]) (hg:cz fr t=.loc i 0) (hi:i < Γ.length) (bM:Γ[i]?=some (.box E [.v (.slice none 0 0),.v (.slice none 0 0),.v (.slice none 0 0),.v (.slice none 0 0)])) (fU:cz fr u=.v (ii c))
  (hQ:∀ fr Γ,rl P fn 0 (uC Go.Im.eu c) .ret fr Γ->Q .ret fr Γ):GW P 0 .ret Q fr Γ:=by
 refine GW.wk (Wk.kE 9 1) ?_;refine GW.wk (Wk.kE 56 2) ?_;refine GW.wk (Wk.kE 58 3) ?_;refine GW.wk (Wk.kE 62 5) ?_;simp only [cS,cons_append,nil_append];refine GW.ret ?_;refine hQ _ _ ?_;exact Ou [] Γ _ hr (.inr rfl) hg (by rw [fO hi];exact bM) rfl rfl fU rfl (fun x h=>by cases h) Sc (VD c)
theorem QU (p:Src) (hw:fC p<=1048576) (hn:xD p) (fo nw:Go.Xp.ae) (hl:nw.length<=1048576) (h:((lC p&&bf nw)&&!gE nw)=false) :
  GC prog 9 [.agg (av p),.v (sv fo),.v (sv nw)] [] (uC eu 1):=by
 have hG:=Ka p hw hn;have hN:=Gp nw G;have hR:=zE nw;generalize lC p=b1 at *;generalize bf nw=b2 at *;generalize gE nw=b3 at *
 cases b1 with
 | false =>
  refine cL func9 ntmps9 ?_;refine GW.seq ?_;refine GW.region ?_;refine GL.mo rfl rfl ?_;refine bm ?_;refine GL.mo rfl rfl ?_;refine bm ?_;refine GL.mo rfl rfl ?_;refine bm ?_;refine D ?_;refine V [] hG ?_;exact GW.eu (fn:=f9) rfl rfl (by simp) rfl rfl (fun _ _ h=>by repeat (first | exact h | refine iO ?_ | refine iN ?_))
 | true =>
  cases b2 with
  | false =>
   refine cL func9 ntmps9 ?_;refine GW.seq ?_;refine GW.region ?_;refine GL.mo rfl rfl ?_;refine bm ?_;refine GL.mo rfl rfl ?_;refine bm ?_;refine GL.mo rfl rfl ?_;refine bm ?_;refine D ?_;refine V [] hG ?_;refine V [] hN ?_;exact GW.eu (fn:=f9) rfl rfl (by simp) rfl rfl (fun _ _ h=>by repeat (first | exact h | refine iO ?_ | refine iN ?_))
  | true =>
   cases b3 with
   | false=>cases h
   | true =>
    refine cL func9 ntmps9 ?_;refine GW.seq ?_;refine GW.region ?_;refine GL.mo rfl rfl ?_;refine bm ?_;refine GL.mo rfl rfl ?_;refine bm ?_;refine GL.mo rfl rfl ?_;refine bm ?_;refine D ?_;refine V [] hG ?_;refine V [] hN ?_;refine V [] hR ?_;exact GW.eu (fn:=f9) rfl rfl (by simp) rfl rfl (fun _ _ h=>by repeat (first | exact h | refine iO ?_ | refine iN ?_))
end Go.Xg
namespace Go.Im
open Go.Xp Go.Sp
def gK (fr nw:ae) (l:List ae) (k:Nat):List ae:=(l.take k).map (b8 fr nw)++l.drop k
theorem Wu (fr nw:ae) (l:List ae) (k:Nat):(gK fr nw l k).length=l.length:=by simp [gK];omega
theorem Zf {fr nw:ae} {l:List ae} {k:Nat} {x:ae} (h:l[k]?=some x):(gK fr nw l k)[k]?=some x:=by
 have hi:=(bo h).1;unfold gK;rw [fa (by simp;omega),bP,cX,show min k l.length=k by omega,gT,getElem?_drop];exact h
theorem US {fr nw:ae} {l:List ae} {k:Nat} {x:ae} (h:l[k]?=some x):gK fr nw l (k+1)=(gK fr nw l k).set k (b8 fr nw x):=by
 have hi:=(bo h).1
 have hg:l[k]=x:=by rw [dO hi] at h;exact uk h
 unfold gK;rw [set_append_right _ _ (by simp;omega),bP,cX,show min k l.length=k by omega,gT,ju hi,set_cons_zero,cq,h,gU];simp
theorem Sw {α:Type} {l:List α} {k:Nat} {x:α} (h:l[k]?=some x):l.set k x=l:=by
 refine ext_getElem? fun j=>?_
 rw [dx]
 by_cases e:k=j
 ·subst e;have:=(bo h).1;rw [ab rfl,ab this,h]
 ·rw [L e]
end Go.Im
namespace Go.Xg
open GV (U)
open Go.RowKit Go.Xw Go.Proofs Tryz
open Go.Xp (Nd T Ar aK aB bN ki)
open Go.Sp (Src bf)
open Go.Im
attribute [local irreducible] GW GL GO YG GC GA be bg
theorem Iy:∀ (l:List Go.Xp.ae) (k:Nat) (x:Go.Xp.ae),dp (br l) k 0 (.v (sv x))=br (l.set k x)
 | [],k,x=>rfl
 | y::l,0,x=>rfl
 | y::l,k+1,x=>by
  have:=Iy l k x;unfold br at this |-;rw [List.map_cons,dp,this];rfl
theorem EW:∀ (l:List Ar) (k:Nat) (a:Ar) (x:Go.Xp.ae),l[k]?=some a->dp (l.map az) k 0 (.v (sv x))=(l.set k (vQ a x)).map az
 | [],k,a,x,h=>by simp at h
 | y::l,0,a,x,h=>by cases h;rfl
 | y::l,k+1,a,x,h=>by
  have:=EW l k a x (by simpa using h);rw [List.map_cons,dp,this];rfl
theorem FX:∀ (l:List Go.Sp.Fn) (fs:List Value) (k:Nat) (a:Go.Sp.Fn) (x:Go.Xp.ae),l[k]?=some a->dp (List.zipWith ea l fs) k 0 (.v (sv x))=List.zipWith ea (l.set k (xn a x)) fs
 | [],fs,k,a,x,h=>by simp at h
 | y::l,[],k,a,x,h=>by cases k <;> simp [dp]
 | y::l,f::fs,0,a,x,h=>by cases h;rfl
 | y::l,f::fs,k+1,a,x,h=>by
  have:=FX l fs k a x (by simpa using h);rw [zipWith_cons_cons,dp,this];rfl
theorem M5 {l m:List Go.Sp.Fn} {fs:List Value} (h:l.map (fun f=>f.params)=m.map (fun f=>f.params)):List.zipWith eZ l fs=List.zipWith eZ m fs:=by
 have key:∀ l:List Go.Sp.Fn,List.zipWith eZ l fs=List.zipWith (fun ps h=>Ob.vech 9 1 (br ps) h) (l.map fun f=>f.params) fs:=fun l=>by rw [List.zipWith_map_left];rfl
 rw [key,key,h]
theorem S7 {l m:List Nd} {fs:List Value} (h:l.map (fun f=>f.kids)=m.map (fun f=>f.kids)):List.zipWith bz l fs=List.zipWith bz m fs:=by
 have key:∀ l:List Nd,List.zipWith bz l fs=List.zipWith (fun ps h=>Ob.vech 3 1 (fK ps) h) (l.map fun f=>f.kids) fs:=fun l=>by rw [List.zipWith_map_left];rfl
 rw [key,key,h]
theorem QT (p:Src) (hw:fC p<=1048576) {l:List T} (ek:Go.Im.Good p l) (fo nw:Go.Xp.ae) (Xo:fo.length<=1048576) (hl:nw.length<=1048576)
  (hG:GF prog 35 [.agg (av p)] [] (.v (.bool true)) []) (hN:GF prog 36 [.v (sv nw)] [] (.v (.bool true)) []) (hR:GF prog 37 [.v (sv nw)] [] (.v (.bool false)) []) :
  GC prog 9 [.agg (av p),.v (sv fo),.v (sv nw)] [] fun g Δ =>
   if ((!(bQ p).contains fo) || fo==Dh)=true then uC eu 2 g Δ else if (bQ p).contains nw=true then uC eu 3 g Δ else if o8 (o7 p l) nw=true then uC eu 4 g Δ else uC (iv fo nw p l) 0 g Δ:=by
 obtain ⟨⟨a1,a2⟩,⟨b1,b2⟩,⟨c1,c2⟩,⟨d1,d2⟩⟩:=jO p;have hA:=CC p hw;have kX:=yi p;have Tu:=iz (bQ p) fo G;have Tv:=iz (bQ p) nw G;have hLc:=Pn p hw ek nw;have hCp:=Gw p hw;have hAr:=yU p fo G;have hFn:=N9 p fo G
 have e3:∀ x:List Go.Xp.ae,strs x=.sl 1 (br x):=fun _=>rfl
 rw [e3] at Tu Tv;generalize eK:bQ p=NM at *;generalize o8 (o7 p l) nw=b4 at *;have L7:(fo==Dh)=(fo==[109,97,105,110]):=rfl;rw [L7];refine cL func9 ntmps9 ?_;refine GW.seq ?_;refine GW.region ?_;refine GL.mo rfl rfl ?_;refine bm ?_;refine GL.mo rfl rfl ?_;refine bm ?_;refine GL.mo rfl rfl ?_;refine bm ?_;refine D ?_;refine V [] hG ?_;refine V [] hN ?_;refine V [] hR ?_;refine cM [] hA ?_;rintro _ _ ⟨an,cn,rfl,rfl⟩;refine dH ?_;refine D ?_;refine GL.borrow Tu (fun B K β w l hI hF=>fS (A:=[_]) (C:=[]) hI hF rfl rfl) ?_;refine bm ?_
 cases F:NM.contains fo with
 | false =>
  simp only [Bool.not_false,Bool.true_or,if_true];refine D ?_;exact GW.eu (fn:=f9) rfl rfl (by simp) rfl rfl (fun _ _ h=>by repeat (first | exact h | refine iO ?_ | refine iN ?_))
 | true =>
 cases I:(fo==[109,97,105,110]) with
 | true =>
  simp only [Bool.not_true,Bool.false_or,if_true];refine D ?_;exact GW.eu (fn:=f9) rfl rfl (by simp) rfl rfl (fun _ _ h=>by repeat (first | exact h | refine iO ?_ | refine iN ?_))
 | false =>
 simp only [Bool.not_true,Bool.or_self,Bool.false_eq_true,if_false];refine D ?_;refine GL.borrow Tv (fun B K β w l hI hF=>fS (A:=[_]) (C:=[]) hI hF rfl rfl) ?_;refine bm ?_
 cases h3:NM.contains nw with
 | true =>
  simp only [if_true];refine D ?_;exact GW.eu (fn:=f9) rfl rfl (by simp) rfl rfl (fun _ _ h=>by repeat (first | exact h | refine iO ?_ | refine iN ?_))
 | false =>
 simp only [Bool.false_eq_true,if_false];refine D ?_;refine fR [] hLc ?_
 cases b4 with
 | true =>
  simp only [if_true];refine D ?_;exact GW.eu (fn:=f9) rfl rfl (by simp) rfl rfl (fun _ _ h=>by repeat (first | exact h | refine iO ?_ | refine iN ?_))
 | false =>
 simp only [Bool.false_eq_true,if_false];refine D ?_;refine cM [] hCp ?_;rintro _ _ ⟨hg,ha,hf,hn,fs,ns,H,rfl,rfl⟩;rw [xb (nP p hg ha hf hn fs ns)];refine dH ?_;obtain ⟨hHg,hHa,hHf,hHn,gC,L8,Ha,CW⟩:=id H;obtain ⟨g0,g1,rfl⟩:=hHg;obtain ⟨yI,uO,rfl⟩:=hHa;obtain ⟨f0,cy,rfl⟩:=hHf;obtain ⟨n0,n1,rfl⟩:=hHn;unfold gI;refine GL.HX rfl rfl rfl rfl rfl rfl ?_;refine bm ?_
 have hNR:(List.zipWith bs p.nodes ns).length=p.nodes.length:=by rw [jE];omega
 have hAm:(p.arrays.map az).length=p.arrays.length:=by simp
 have hFm:(List.zipWith ea p.fns fs).length=p.fns.length:=by rw [jE];omega
 have qg:(p.fns.map au).length=p.fns.length:=by simp
 generalize OB:List.zipWith eZ p.fns fs=FO;generalize WS:List.zipWith bz p.nodes ns=NO;generalize hW:FO++Ob.vech 62 5 (List.zipWith bs p.nodes ns) (.slice n0 p.nodes.length n1)::NO=W
 have hq:∀ (a b c d e:Ob),(a::b::c::d::e::W).length=W.length+5:=fun a b c d e=>by simp
 simp only [hq,cons_append,cS,nil_append];generalize hBX:Ob.box 33 [.v (.slice g0 p.globals.length g1),.v (.slice yI p.arrays.length uO),.v (.slice f0 p.fns.length cy),.v (.slice n0 p.nodes.length n1)]=BX
 have Fc:∀ (a b c d e:Ob),(a::b::c::d::e::(W++[BX]))[W.length+5]?=some (.box 33 [.v (.slice g0 p.globals.length g1),.v (.slice yI p.arrays.length uO),.v (.slice f0 p.fns.length cy),.v (.slice n0 p.nodes.length n1)]):=fun a b c d e=>by rw [hBX];exact Yi a b c d e BX W []
 refine D ?_;refine GL.q (YG.w9 rfl (Fc _ _ _ _ _) rfl) ?_;refine bm ?_;refine D ?_
 refine GW.range p.globals.length (fun k fr Γ=>fr=[U,U,U,.box (av p) 0,.box [.v (sv fo)] 0,.box [.v (sv nw)] 0,.loc 0 0,U,U,.loc (W.length+5) 0,U,U,U,U,U,U,U,U,U,U,U,U,U,U,U,U,U,U,U,U,U,U,U,U,U,U,U,U,U,U,U,U,U,U,U,U,U,U,U,U,U,U,U,.v (.slice g0 p.globals.length g1),.v (ii (p.globals.length:Int)),.v (ii (k:Nat)),U,U,U,U,U,U,U,U,U,U,U,U,U,U,U,U,U,U,U,U,U,U,U,U,U,U,U,U,U,U,U,U,U,U,U,U,U,U,U,U,U,U,U,U,U,U,U] /\
  Γ=.box 33 [.v (.slice none 0 0),.v (.slice none 0 0),.v (.slice none 0 0),.v (.slice none 0 0)]::.vech 9 1 (br NM) (.slice an NM.length cn)::.vech 9 1 (br (gK fo nw p.globals k)) (.slice g0 p.globals.length g1)::.vech 56 2 (p.arrays.map az) (.slice yI p.arrays.length uO)::.vech 58 3 (List.zipWith ea p.fns fs) (.slice f0 p.fns.length cy)::(W++[BX])) ?_ G ?_ ?_ ?_
 ·exact ⟨_,_,Wk.aH ar,rfl,by simp [gK]⟩
 ·rintro k _ _ ⟨rfl,rfl⟩;exact dK
 ·rintro k _ _ hk ⟨rfl,rfl⟩;obtain ⟨x,hx⟩:∃ x,p.globals[k]?=some x:=⟨p.globals[k],by simp [hk]⟩;have Xh:=Zf (fr:=fo) (nw:=nw) hx;have OO:=US (fr:=fo) (nw:=nw) hx;have ab2:=Wu fo nw p.globals k;rw [OO];generalize gK fo nw p.globals k=acA at *
  have hr:(br acA)[k]?=some [.v (sv x)]:=by unfold br;rw [aP,Xh];rfl
  have oY:(br acA).length=acA.length:=mD acA
  have uS:k < (br acA).length:=by omega
  have bR:=Iy acA k nw;generalize hSe:br acA=S at *
  cases hxe:(x==fo) with
  | true =>
   have e1:b8 fo nw x=nw:=by unfold b8;rw [ab hxe]
   rw [e1,<-bR];refine D ?_;refine GL.q (YG.w9 rfl (Fc _ _ _ _ _) rfl) ?_;refine bm ?_;refine D ?_;refine kP ?_;refine D ?_;exact ⟨rfl,rfl,_,_,Wk.aH ar,rfl,rfl⟩
  | false =>
   have e1:b8 fo nw x=x:=by unfold b8;rw [L (by rw [hxe];decide)]
   rw [e1,Sw Xh];refine D ?_;exact ⟨rfl,rfl,_,_,Wk.aH ar,rfl,by rw [hSe]⟩
 ·rintro _ _ ⟨rfl,rfl⟩
  have Hc:gK fo nw p.globals p.globals.length=p.globals.map (b8 fo nw):=by simp [gK]
  rw [Hc];refine ba ?_;generalize Tt:Ob.box 33 [.v (.slice none 0 0),.v (.slice none 0 0),.v (.slice none 0 0),.v (.slice none 0 0)]=B6;generalize aaP:Ob.vech 9 1 (br NM) (.slice an NM.length cn)=NMo;generalize WM:Ob.vech 9 1 (br (p.globals.map (b8 fo nw))) (.slice g0 p.globals.length g1)=G1;have Hp:=Ir (fun a:Ar=>a.name) vQ (fun a=>rfl) fo nw (xs:=p.arrays) ek.arU;have Hq:=Ir (fun f:Go.Sp.Fn=>f.name) xn (fun a=>rfl) fo nw (xs:=p.fns) ek.fnU
  have hqA:(iv fo nw p l).arrays=p.arrays.map fun a=>vQ a (b8 fo nw a.name):=rfl
  generalize p.arrays.map (fun a=>vQ a (b8 fo nw a.name))=qa at *
  have OY:(iv fo nw p l).fns=p.fns.map fun f=>xn f (b8 fo nw f.name):=rfl
  generalize p.fns.map (fun f=>xn f (b8 fo nw f.name))=qf at *;unfold dA at hAr hFn
  have abm:qa.length=p.arrays.length:=by
   rw [<-Hp];split
   ·split <;> simp
   ·rfl
  have XB:qf.length=p.fns.length:=by
   rw [<-Hq];split
   ·split <;> simp
   ·rfl
  refine D ?_;refine fR [] hAr ?_;simp only [cY];refine D ?_;refine GW.join (fun fr Γ=>fr=[U,U,U,.box (av p) 0,.box [.v (sv fo)] 0,.box [.v (sv nw)] 0,.loc 0 0,U,U,.loc (W.length+5) 0,U,U,U,U,U,U,U,U,U,U,U,U,U,U,U,U,U,U,U,U,U,U,U,U,U,U,U,U,U,U,U,U,U,U,U,U,U,U,U,U,U,U,U,U,U,U,U,U,U,U,U,U,U,U,U,U,U,U,U,U,U,U,U,U,U,U,U,U,U,U,U,U,U,U,U,U,U,U,U,U,U,U,U,U,U,U,U,U,U,U,U,U,U]/\Γ=B6::NMo::G1::.vech 56 2 (qa.map az) (.slice yI p.arrays.length uO)::.vech 58 3 (List.zipWith ea p.fns fs) (.slice f0 p.fns.length cy)::(W++[BX])) ?_ ?_
  ·cases hz:p.arrays.findIdx? (fun a=>a.name==fo) with
   | none =>
    rw [hz] at Hp;simp only at Hp;subst Hp;simp only;exact fE
   | some k =>
    obtain ⟨hk,-,-⟩:=List.findIdx?_eq_some_iff_getElem.1 hz;have G4:p.arrays[k]?=some p.arrays[k]:=dO hk;rw [hz] at Hp;simp only [G4] at Hp;have bR:=EW p.arrays k _ nw G4;rw [Hp] at bR
    have hr:(p.arrays.map az)[k]?=some (az p.arrays[k]):=by rw [aP,G4];rfl
    have uS:k < (p.arrays.map az).length:=by omega
    have hd:decide ((0:Int)<=((k:Nat):Int))=true:=by simp
    rw [<-bR];generalize p.arrays.map az=S at *;unfold az at hr;simp only;refine D ?_;refine GL.q (YG.w9 rfl (Fc _ _ _ _ _) rfl) ?_;refine bm ?_;refine D ?_;refine kP ?_;exact fE
  rintro _ _ ⟨rfl,rfl⟩;refine D ?_;refine fR [] hFn ?_;simp only [cY];refine D ?_;refine GW.join (fun fr Γ=>fr=[U,U,U,.box (av p) 0,.box [.v (sv fo)] 0,.box [.v (sv nw)] 0,.loc 0 0,U,U,.loc (W.length+5) 0,U,U,U,U,U,U,U,U,U,U,U,U,U,U,U,U,U,U,U,U,U,U,U,U,U,U,U,U,U,U,U,U,U,U,U,U,U,U,U,U,U,U,U,U,U,U,U,U,U,U,U,U,U,U,U,U,U,U,U,U,U,U,U,U,U,U,U,U,U,U,U,U,U,U,U,U,U,U,U,U,U,U,U,U,U,U,U,U,U,U,U,U,U]/\Γ=B6::NMo::G1::.vech 56 2 (qa.map az) (.slice yI p.arrays.length uO)::.vech 58 3 (List.zipWith ea qf fs) (.slice f0 p.fns.length cy)::(W++[BX])) ?_ ?_
  ·cases hz:p.fns.findIdx? (fun a=>a.name==fo) with
   | none =>
    rw [hz] at Hq;simp only at Hq;subst Hq;simp only;exact fE
   | some k =>
    obtain ⟨hk,-,-⟩:=List.findIdx?_eq_some_iff_getElem.1 hz;have G4:p.fns[k]?=some p.fns[k]:=dO hk;obtain ⟨y,Hb⟩:∃ y,fs[k]?=some y:=⟨fs[k]'G,dO _⟩;rw [hz] at Hq;simp only [G4] at Hq;have bR:=FX p.fns fs k _ nw G4;rw [Hq] at bR
    have hr:(List.zipWith ea p.fns fs)[k]?=some (ea p.fns[k] y):=by rw [getElem?_zipWith,G4,Hb]
    have uS:k < (List.zipWith ea p.fns fs).length:=by omega
    have hd:decide ((0:Int)<=((k:Nat):Int))=true:=by simp
    rw [<-bR];generalize List.zipWith ea p.fns fs=S at *;unfold ea at hr;simp only;refine D ?_;refine GL.q (YG.w9 rfl (Fc _ _ _ _ _) rfl) ?_;refine bm ?_;refine D ?_;refine kP ?_;exact fE
  rintro _ _ ⟨rfl,rfl⟩;generalize WG:Ob.vech 56 2 (qa.map az) (.slice yI p.arrays.length uO)=A1;generalize Oz:Ob.vech 58 3 (List.zipWith ea qf fs) (.slice f0 p.fns.length cy)=F1
  have hqq:W.length+5=FO.length+NO.length+6:=by rw [<-hW];simp;omega
  subst hW;simp only [cS,cons_append];clear Fc;generalize (FO++Ob.vech 62 5 (List.zipWith bs p.nodes ns) (.slice n0 p.nodes.length n1)::NO).length+5=q at *;subst hBX
  have zB:bN 0 (Go.Im.cV fo nw (p.fns.take 0) l)=p.nodes:=by rw [take_zero,sE,<-J3 ek]
  have abu:∀ k,(bN 0 (Go.Im.cV fo nw (p.fns.take k) l)).length=p.nodes.length:=fun k=>by rw [ki,Az,ek.st.len]
  have hlen:=ek.len;have aa3:=ek.st.few
  have W5:∀ (a b c d e x y:Ob),(a::b::c::d::e::(FO++x::(NO++[y])))[q]?=some y:=fun a b c d e x y=>by
   have:=uH (a::b::c::d::e::(FO++x::NO)) [] y;rw [show (a::b::c::d::e::(FO++x::NO)).length=q by simp;omega] at this;simpa using this
  have O3:∀ (a b c d e x y z:Ob),dG (a::b::c::d::e::(FO++x::(NO++[y]))) [q,FO.length+5] [y,z]=a::b::c::d::e::(FO++z::(NO++[y])):=fun a b c d e x y z=>by
   rw [dG,vP (W5 a b c d e x y),dG,dG,cY];exact o5f a b c d e x z FO (NO++[y])
  rw [<-zB];refine D ?_
  refine GW.range (p.fns.map au).length (fun k fr Γ=>fr=[U,U,U,.box (av p) 0,.box [.v (sv fo)] 0,.box [.v (sv nw)] 0,.loc 0 0,U,U,.loc q 0,U,U,U,U,U,U,U,U,U,U,U,U,U,U,U,U,U,U,U,U,U,U,U,U,U,U,U,U,U,U,U,U,U,U,U,U,U,U,U,U,U,U,U,U,U,U,U,U,U,U,U,U,U,U,U,U,U,U,U,U,U,U,U,U,U,U,U,U,U,U,U,U,U,U,U,U,U,U,U,U,U,U,.sl 3 (p.fns.map au),.v (ii ((p.fns.map au).length:Int)),.v (ii (k:Nat)),U,U,U,U,U,U,U,U] /\
   Γ=B6::NMo::G1::A1::F1::(FO++.vech 62 5 (List.zipWith bs (bN 0 (Go.Im.cV fo nw (p.fns.take k) l)) ns) (.slice n0 p.nodes.length n1)::(NO++[.box 33 [.v (.slice g0 p.globals.length g1),.v (.slice yI p.arrays.length uO),.v (.slice f0 p.fns.length cy),.v (.slice n0 p.nodes.length n1)]]))) ?_ G ?_ ?_ ?_
  ·exact ⟨_,_,Wk.aH ar,rfl,by simp only [zB,ki]⟩
  ·rintro k _ _ ⟨rfl,rfl⟩;exact dK
  ·rintro k _ _ hk ⟨rfl,rfl⟩;rw [qg] at hk;obtain ⟨f,Hb⟩:∃ f,p.fns[k]?=some f:=⟨p.fns[k],by simp [hk]⟩;obtain ⟨t,jU⟩:∃ t,l[k]?=some t:=⟨l[k]'G,dO _⟩;have Rr:=ek.fn Hb jU;have TC:=(gw.at_ ek.st.fns k f t Hb jU).1;have hE:=UH p fo nw (.slice g0 p.globals.length g1) (.slice yI p.arrays.length uO) (.slice f0 p.fns.length cy) (.slice n0 p.nodes.length n1) ns 33 k f t (bN 0 (Go.Im.cV fo nw (p.fns.take k) l)) G (fun n hn=>by have:=(d2 n hn).2;omega) G Hb (by have:=(c2 f (bA Hb)).2.1;omega) Rr.body Rr.st (by have:=Rr.sz;omega) (abu k);rw [show f.body.toNat=aB (l.take k) by rw [TC];simp,ME fo nw Hb jU] at hE;generalize bN 0 (Go.Im.cV fo nw (p.fns.take k) l)=S1 at *;generalize bN 0 (Go.Im.cV fo nw (p.fns.take (k+1)) l)=S2 at *;refine D ?_;refine GL.F9 [q,FO.length+5] hE (lD) (by simp [jn];omega) ⟨W5 _ _ _ _ _ _ _,Yi _ _ _ _ _ _ _ _,trivial⟩ rfl ?_;refine oL nU (O3 _ _ _ _ _ _ _ _) ?_;refine D ?_;exact ⟨rfl,rfl,_,_,Wk.aH ar,rfl,rfl⟩
  ·rintro _ _ ⟨rfl,rfl⟩;rw [qg,bW];refine ba ?_;subst Tt;refine D ?_;refine GL.q (YG.B3 rfl (W5 _ _ _ _ _ _ _) rfl rfl) ?_;refine bm ?_;refine D ?_;have hqk:=rI fo nw ek;have OZ:(iv fo nw p l).nodes=bN 0 (Go.Im.cV fo nw p.fns l):=rfl;have hqg:(iv fo nw p l).globals=p.globals.map (b8 fo nw):=rfl
   have vB:qf.map (fun f=>f.params)=p.fns.map (fun f=>f.params):=by
    rw [<-OY];show (p.fns.map _).map _=_;rw [map_map];rfl
   refine GW.wk ((Wk.Ae (A:=.box 33 [.v (.slice g0 p.globals.length g1),.v (.slice yI p.arrays.length uO),.v (.slice f0 p.fns.length cy),.v (.slice n0 p.nodes.length n1)]::NMo::G1::A1::F1::(FO++.vech 62 5 (List.zipWith bs (bN 0 (Go.Im.cV fo nw p.fns l)) ns) (.slice n0 p.nodes.length n1)::NO)) (by simp only [cons_append,cS];rfl) (aM _) (fun q=>by
    have e1:Ob.ok q NMo=true:=by rw [<-aaP];rfl
    have e2:Ob.ok q G1=true:=by rw [<-WM];rfl
    have e4:Ob.ok q A1=true:=by rw [<-WG];rfl
    have e5:Ob.ok q F1=true:=by rw [<-Oz];rfl
    have e6:lx q FO=true:=by rw [<-OB];exact pH (eR (fun _ _=>rfl))
    have e7:lx q NO=true:=by rw [<-WS];exact pH (eR (fun _ _=>rfl))
    simp only [lx,uw,e1,e2,e4,e5,e6,e7];rfl)).trans (Wk.aH (cJ:=[U,U,U,U,U,U,.loc 0 0,.v (ii 0),U,U,U,U,U,U,U,U,U,U,U,U,U,U,U,U,U,U,U,U,U,U,U,U,U,U,U,U,U,U,U,U,U,U,U,U,U,U,U,U,U,U,U,U,U,U,U,U,U,U,U,U,U,U,U,U,U,U,U,U,U,U,U,U,U,U,U,U,U,U,U,U,U,U,U,U,U,U,U,U,U,U,U,U,U,U,U,U,U,U,U,U,U,U,U]) ar)) ?_
   refine ny ?_;refine Ou [] [_,NMo] (G1::A1::F1::(FO++.vech 62 5 (List.zipWith bs (bN 0 (Go.Im.cV fo nw p.fns l)) ns) (.slice n0 p.nodes.length n1)::NO)) rfl dI rfl rfl rfl rfl rfl rfl (fun x h=>by cases h) ?_ ?_
   ·intro x hx
    rcases de hx with rfl | hx
    ·rw [<-WM];rfl
    rcases de hx with rfl | hx
    ·rw [<-WG];rfl
    rcases de hx with rfl | hx
    ·rw [<-Oz];rfl
    rcases nA hx with hx | hx
    ·rw [<-OB] at hx;exact eR (fun _ _=>rfl) x hx
    rcases de hx with rfl | hx
    ·rfl
    ·rw [<-WS] at hx;exact eR (fun _ _=>rfl) x hx
   ·refine ⟨.slice g0 p.globals.length g1,.slice yI p.arrays.length uO,.slice f0 p.fns.length cy,.slice n0 p.nodes.length n1,fs,ns,⟨⟨g0,g1,by rw [hqg,bP]⟩,⟨yI,uO,by rw [hqA,abm]⟩,⟨f0,cy,by rw [OY,XB]⟩,⟨n0,n1,by rw [OZ,ki,Az,ek.st.len]⟩,by rw [OY,XB];exact gC,by rw [OZ,ki,Az,ek.st.len];exact L8,fun i x y F I=>?_,fun i x y F I=>?_⟩,rfl,?_⟩
    ·rw [OY] at F
     have h3:(qf.map fun f=>f.params)[i]?=some x.params:=by rw [aP,F];rfl
     rw [vB,aP] at h3
     cases hx:p.fns[i]? with
     | none=>rw [hx] at h3;cases h3
     | some z =>
      rw [hx] at h3;have h4:=Ha i z y hx I
      have h5:z.params=x.params:=by simpa using h3
      rw [<-h5];exact h4
    ·have h3:((iv fo nw p l).nodes.map fun f=>f.kids)[i]?=some x.kids:=by rw [aP,F];rfl
     rw [hqk,aP] at h3
     cases hx:p.nodes[i]? with
     | none=>rw [hx] at h3;cases h3
     | some z =>
      rw [hx] at h3;have h4:=CW i z y hx I
      have h5:z.kids=x.kids:=by simpa using h3
      rw [<-h5];exact h4
    ·unfold gI;rw [hqg,hqA,OY,WM,WG,Oz,M5 vB,OB,S7 hqk,WS,OZ];rfl
theorem QV (p:Src) (hw:fC p<=1048576) (hn:xD p) (fo nw:Go.Xp.ae) (Xo:fo.length<=1048576) (hl:nw.length<=1048576) :
  GC prog 9 [.agg (av p),.v (sv fo),.v (sv nw)] [] (uC (renameI p fo nw).1 (renameI p fo nw).2):=by
 have hG:=Ka p hw hn;have hN:=Gp nw G;have hR:=zE nw
 cases hb:((lC p&&bf nw)&&!gE nw) with
 | false =>
  have e:renameI p fo nw=(eu,1):=by unfold renameI;rw [hb];rfl
  rw [e];exact QU p hw hn fo nw hl hb
 | true =>
  have eA:=hb;rw [aC,aC,Bool.not_eq_true'] at eA;obtain ⟨⟨k1,k2⟩,k3⟩:=eA;obtain ⟨l,ek⟩:=D4 k1;rw [k1] at hG;rw [k2] at hN;rw [k3] at hR
  refine (QT p hw ek fo nw Xo hl hG hN hR).mono fun g Δ h=>?_
  unfold renameI;rw [hb,ab rfl,ek.EO];simp only;split
  ·rename_i e1;rw [ab e1] at h;exact h
  ·rename_i e1;rw [L e1] at h;split
   ·rename_i e2;rw [ab e2] at h;exact h
   ·rename_i e2;rw [L e2] at h;split
    ·rename_i e3;rw [ab e3] at h;exact h
    ·rename_i e3;rw [L e3] at h;exact h
end Go.Xg
namespace Go.Im
open Go.Xp Go.Sp
section
variable {α:Type} (w:α->Nat) (mk:Nat->α->α)
def bG (l:List α):Nat:=(l.map w).sum
def et:Nat->List α->List α
 | _,[]=>[]
 | k,x::l=>mk k x::et (k+w x) l
def fj (k:Nat) (l:List α) (i:Nat):List α:=et w mk k (l.take i)++l.drop i
variable {w mk}
theorem qX {l:List α} {i:Nat} {x:α} (h:l[i]?=some x):bG w (l.take (i+1))=bG w (l.take i)+w x:=by
 rw [cq,h];simp [bG]
theorem uz (l:List α) (i:Nat):bG w (l.take i)<=bG w l:=by
 have h:=congrArg (bG w) (List.take_append_drop i l);unfold bG at *;rw [gU,List.sum_append] at h;omega
theorem eU:∀ (k:Nat) (l:List α),(et w mk k l).length=l.length
 | _,[]=>rfl
 | k,x::l=>by simp [et,eU (k+w x) l]
theorem HS:∀ (k:Nat) (a:List α) (x:α),et w mk k (a++[x])=et w mk k a++[mk (k+bG w a) x]
 | k,[],x=>by simp [et,bG]
 | k,y::a,x=>by
  have:=HS (k+w y) a x;rw [cons_append,et,this,et];simp [bG,gn]
theorem xe:∀ {l:List α} (k:Nat) {i:Nat} {x:α},l[i]?=some x->(et w mk k l)[i]?=some (mk (k+bG w (l.take i)) x)
 | [],k,i,x,h=>by simp at h
 | y::l,k,0,x,h=>by cases h;simp [et,bG]
 | y::l,k,i+1,x,h=>by
  have:=xe (l:=l) (k+w y) (i:=i) (x:=x) (by simpa using h);rw [et,List.getElem?_cons_succ,this,take_succ_cons];simp [bG,gn]
theorem B7 (k:Nat) (l:List α) (i:Nat):(fj w mk k l i).length=l.length:=by simp [fj,eU];omega
theorem zL (k:Nat) (l:List α):fj w mk k l 0=l:=by simp [fj,et]
theorem B5 (k:Nat) (l:List α):fj w mk k l l.length=et w mk k l:=by simp [fj]
theorem xd {l:List α} {k i:Nat} {x:α} (h:l[i]?=some x):(fj w mk k l i)[i]?=some x:=by
 have hi:=(bo h).1
 have hl:(et w mk k (l.take i)).length=i:=by rw [eU,cX];omega
 unfold fj;rw [fa (by omega),hl,gT,getElem?_drop];exact h
theorem B8 {l:List α} {k i:Nat} {x:α} (h:l[i]?=some x):(fj w mk k l i).set i (mk (k+bG w (l.take i)) x)=fj w mk k l (i+1):=by
 have hi:=(bo h).1
 have hl:(et w mk k (l.take i)).length=i:=by rw [eU,cX];omega
 unfold fj;rw [set_append_right _ _ (by omega),hl,gT,ju hi,set_cons_zero,cq,h];rw [show (some x).toList=[x] from rfl,HS,cS];rfl
end
def zM (k n:Nat):List ae:=(List.range n).map fun i=>na (k+i)
theorem KL (k n:Nat):(zM k n).length=n:=by simp [zM]
def HR (k n:Nat):List Int:=(List.range n).map fun i=>((k+i:Nat):Int)
theorem Vc (k n:Nat):(HR k n).length=n:=by simp [HR]
def wA (_:Ar):Nat:=2
def wF (f:Go.Sp.Fn):Nat:=2+f.params.length
def wN (n:Nd):Nat:=4+n.kids.length
def oz (k:Nat) (_:Ar):Ar:=⟨na k,((k+1:Nat):Int)⟩
def jl (k:Nat) (f:Go.Sp.Fn):Go.Sp.Fn:=⟨na k,zM (k+1) f.params.length,((k+1+f.params.length:Nat):Int)⟩
def jB (k:Nat) (n:Nd):Nd:=⟨(k:Nat),((k+1:Nat):Int),((k+1+1:Nat):Int),na (k+1+1+1),HR (k+1+1+1+1) n.kids.length⟩
def oI (k:Nat) (p:Src):Src:=⟨zM k p.globals.length,et wA oz (k+p.globals.length) p.arrays,et wF jl (k+p.globals.length+bG wA p.arrays) p.fns,et wN jB (k+p.globals.length+bG wA p.arrays+bG wF p.fns) p.nodes⟩
def nT (p:Src):Nat:=p.globals.length+bG wA p.arrays+bG wF p.fns+bG wN p.nodes
end Go.Im
namespace Go.Xg
open GV (U)
open Go.RowKit Go.Xw Go.Proofs Tryz
open Go.Xp (Nd Ar)
open Go.Sp (Src)
open Go.Im
attribute [local irreducible] GW GL GO YG GC GA be bg
theorem yf (k n:Nat):marks k n=br (zM k n):=by unfold marks zM br;rw [map_map];rfl
theorem Di (k n:Nat):jk k n=fK (HR k n):=by unfold jk HR fK;rw [map_map];rfl
theorem pe {rows:List (List GV)} {i o:Nat} {g:GV} {r:List GV} (h:rows[i]?=some r):dp rows i o g=rows.set i (bp r o g):=by
 refine ext_getElem? fun j=>?_
 rw [xp h,dx]
 by_cases e:j=i
 ·subst e;have:=(bo h).1;rw [ab rfl,ab rfl,ab this]
 ·rw [L e,L (fun h=>e h.symm)]
theorem xB {α γ:Type} {f:α->Value->γ}:∀ {l:List α} {hs:List Value} {i:Nat} {y:α} {h:Value},hs[i]?=some h->(List.zipWith f l hs).set i (f y h)=List.zipWith f (l.set i y) hs
 | [],hs,i,y,h,F=>by simp
 | x::l,[],i,y,h,F=>by simp at F
 | x::l,v::hs,0,y,h,F=>by cases F;rfl
 | x::l,v::hs,i+1,y,h,F=>by
  rw [zipWith_cons_cons,List.set_cons_succ,List.set_cons_succ,zipWith_cons_cons,xB (by simpa using F)]
theorem HO (l:List Ar) (a:Option Addr) (c k:Nat) (hl:l.length<=1099511627776) (hb:k+bG wA l<=1099511627776) :
  GF prog 51 [.v (.slice a l.length c),.v (ii (k:Nat))] [.vech 56 2 (l.map az) (.slice a l.length c)] (.v (ii ((k+bG wA l:Nat):Int))) [.vech 56 2 ((et wA oz k l).map az) (.slice a l.length c)]:=by
 refine ah func51 ntmps51 ?_;refine GW.loop (fun i:Nat=>l.length - i) (fun i fr Γ=>∃ kk:Nat,kk=k+bG wA (l.take i)/\fr=[.v (.slice a l.length c),.v (ii (kk:Nat)),U,U,U,.v (ii (i:Nat)),U,U,U,U,U,U,U,U,U,U,U,U,U,U,U,U,U,U,U,U,U,U]/\Γ=[.vech 56 2 ((fj wA oz k l i).map az) (.slice a l.length c)]/\i<=l.length) 0 ?_ ?_
 ·exact ⟨_,_,Wk.aH ar,k,by simp [bG],rfl,by rw [zL],aM _⟩
 rintro i _ _ ⟨kk,gy,rfl,rfl,hi⟩
 by_cases ak:i < l.length
 ·have hd:decide ((i:Int) < (l.length:Int))=true:=by simpa using ak
  obtain ⟨f,hf⟩:∃ f,l[i]?=some f:=⟨l[i],by simp [ak]⟩;have O7:=qX (w:=wA) hf;have hle:=uz (w:=wA) l (i+1);have O8:wA f=2:=rfl;have bR:=B8 (w:=wA) (mk:=oz) (k:=k) hf;rw [<-gy] at bR;have hc:=mh kk G
  have hr:((fj wA oz k l i).map az)[i]?=some [.v (sv f.name),.v (ii f.size)]:=by rw [aP,xd hf];rfl
  have gh:((fj wA oz k l i).map az).length=l.length:=by rw [bP,B7]
  have OE:((fj wA oz k l i).map az).set i [.v (sv (na kk)),.v (ii ((kk+1:Nat):Int))]=(fj wA oz k l (i+1)).map az:=by rw [<-bR,List.map_set];rfl
  generalize (fj wA oz k l i).map az=R at *;generalize na kk=x at *;have jI:=qR (o:=0) (g:=.v (sv x)) hr;simp only [bp] at jI
  have gM:(dp R i (0+0) (.v (sv x))).length=l.length:=by rw [iJ];exact gh
  refine D ?_;refine V [] hc ?_;refine kP ?_;refine D ?_;refine kP ?_;refine D ?_;refine ⟨i+1,⟨_,_,Wk.aH ar,kk+1+1,by omega,rfl,?_,ak⟩,by show l.length - (i+1) < l.length - i;omega⟩;rw [<-OE,pe (o:=0+1) jI,pe hr,set_set];rfl
 ·have hd:decide ((i:Int) < (l.length:Int))=false:=by simpa using ak
  have gD:i=l.length:=by omega
  subst gD;rw [B5];rw [bW] at gy;subst gy;refine cw ?_;exact ay
theorem G8 (l:List Ar) (k:Nat) (hl:l.length<=1099511627776) (hb:k+bG wA l<=1099511627776) :
  GF prog 55 [.sl 2 ((et wA oz k l).map az),.v (ii (k:Nat))] [] (.v (ii ((k+bG wA l:Nat):Int))) []:=by
 have hm:((et wA oz k l).map az).length=l.length:=by rw [bP,eU]
 refine ah func55 ntmps55 ?_;refine GW.loop (fun i:Nat=>l.length - i) (fun i fr Γ=>∃ kk:Nat,kk=k+bG wA (l.take i)/\fr=[.sl 2 ((et wA oz k l).map az),.v (ii (kk:Nat)),U,U,U,.v (ii (i:Nat)),U,U,U,U,U,U,U,U,U,U,U,U,U,U,U,U,U,U,U,U,U,U,U,U,U,U]/\Γ=[]/\i<=l.length) 0 ?_ ?_
 ·exact ⟨_,_,Wk.aH ar,k,by simp [bG],rfl,rfl,aM _⟩
 rintro i _ _ ⟨kk,gy,rfl,rfl,hi⟩
 by_cases ak:i < l.length
 ·have hd:decide ((i:Int) < (((et wA oz k l).map az).length:Int))=true:=by rw [hm];simpa using ak
  obtain ⟨f,hf⟩:∃ f,l[i]?=some f:=⟨l[i],by simp [ak]⟩;have O7:=qX (w:=wA) hf;have hle:=uz (w:=wA) l (i+1);have O8:wA f=2:=rfl
  have hr:((et wA oz k l).map az)[i]?=some [.v (sv (na kk)),.v (ii ((kk+1:Nat):Int))]:=by rw [aP,xe k hf,<-gy];rfl
  have hc:=mh kk G;generalize na kk=x at *;generalize (et wA oz k l).map az=S at *
  have hs:(!(x==x))=false:=by simp
  have kj:(((kk+1:Nat):Int) != ((kk+1:Nat):Int))=false:=by simp
  refine D ?_;refine aL (aD 0 6 (.a 6 (.q 7 .nil))) ?_;refine ao ?_;refine aI [] hc ?_;refine D ?_;exact ⟨i+1,⟨_,_,Wk.aH ar,kk+1+1,by omega,rfl,rfl,ak⟩,by show l.length - (i+1) < l.length - i;omega⟩
 ·have hd:decide ((i:Int) < (((et wA oz k l).map az).length:Int))=false:=by rw [hm];simpa using ak
  have gD:i=l.length:=by omega
  subst gD;rw [bW] at gy;subst gy;refine cw ?_;exact ay
theorem PF (l:List Go.Sp.Fn) (fs:List Value) (gC:fs.length=l.length) (TE:∀ (i:Nat) x y,l[i]?=some x->fs[i]?=some y->Hd x.params.length y) (a:Option Addr) (c k:Nat) (hl:l.length<=1099511627776) (hb:k+bG wF l<=1099511627776) :
  GC prog 52 [.v (.slice a l.length c),.v (ii (k:Nat))] (.vech 58 3 (List.zipWith ea l fs) (.slice a l.length c)::List.zipWith eZ l fs) fun g Δ=>g=.v (ii ((k+bG wF l:Nat):Int))/\Δ=.vech 58 3 (List.zipWith ea (et wF jl k l) fs) (.slice a l.length c)::List.zipWith eZ (et wF jl k l) fs:=by
 have TJ:(Ob.vech 58 3 (List.zipWith ea l fs) (.slice a l.length c)::List.zipWith eZ l fs).length=l.length+1:=by simp [gC]
 refine cL func52 ntmps52 ?_;rw [TJ];refine D ?_;refine GW.loop (fun i:Nat=>l.length - i) (fun i fr Γ=>∃ kk:Nat,kk=k+bG wF (l.take i)/\fr=[.v (.slice a l.length c),.v (ii (kk:Nat)),U,U,U,.v (ii (i:Nat)),U,U,U,U,U,U,U,U,U,U,U,U,U,U,U,U,U,U,U,U,U,U,U,U,U,U,U,U,U]/\Γ=.vech 58 3 (List.zipWith ea (fj wF jl k l i) fs) (.slice a l.length c)::List.zipWith eZ (fj wF jl k l i) fs/\i<=l.length) 0 ?_ ?_
 ·exact ⟨_,_,Wk.aH ar,k,by simp [bG],rfl,by rw [zL],aM _⟩
 rintro i _ _ ⟨kk,gy,rfl,rfl,hi⟩
 by_cases ak:i < l.length
 ·have hd:decide ((i:Int) < (l.length:Int))=true:=by simpa using ak
  obtain ⟨f,hf⟩:∃ f,l[i]?=some f:=⟨l[i],by simp [ak]⟩;have n7:fs[i]?=some (fs[i]'G):=dO _;obtain ⟨a1,c1,e1⟩:=TE i _ _ hf n7;generalize fs[i]'G=y at *;subst e1;have O7:=qX (w:=wF) hf;have hle:=uz (w:=wF) l (i+1);have O8:wF f=2+f.params.length:=rfl;have bR:=B8 (w:=wF) (mk:=jl) (k:=k) hf;rw [<-gy] at bR;have hc:=mh kk G;have gL:=yM a1 c1 f.params.length (kk+1) (br f.params) (mD _) G;rw [yf] at gL;have OC:=B7 (w:=wF) (mk:=jl) k l i;have hr:(List.zipWith ea (fj wF jl k l i) fs)[i]?=some [.v (sv f.name),.v (.slice a1 f.params.length c1),.v (ii f.body)]:=tM (xd hf) n7;have hk:(List.zipWith eZ (fj wF jl k l i) fs)[i]?=some (.vech 9 1 (br f.params) (.slice a1 f.params.length c1)):=tM (xd hf) n7
  have gh:(List.zipWith ea (fj wF jl k l i) fs).length=l.length:=by rw [jE];omega
  have WT:(List.zipWith eZ (fj wF jl k l i) fs).length=l.length:=by rw [jE];omega
  have OE:(List.zipWith ea (fj wF jl k l i) fs).set i [.v (sv (na kk)),.v (.slice a1 f.params.length c1),.v (ii ((kk+1+f.params.length:Nat):Int))]=List.zipWith ea (fj wF jl k l (i+1)) fs:=by rw [<-bR,<-xB n7];rfl
  have WU:oset (List.zipWith eZ (fj wF jl k l i) fs) i (.vech 9 1 (br (zM (kk+1) f.params.length)) (.slice a1 f.params.length c1))=List.zipWith eZ (fj wF jl k l (i+1)) fs:=by rw [aZ,<-bR,<-xB n7];rfl
  generalize List.zipWith ea (fj wF jl k l i) fs=R at *;generalize List.zipWith eZ (fj wF jl k l i) fs=O at *;generalize na kk=x at *;have jI:=qR (o:=0) (g:=.v (sv x)) hr;simp only [bp] at jI
  have gM:(dp R i (0+0) (.v (sv x))).length=l.length:=by rw [iJ];exact gh
  refine D ?_;refine fR [] hc ?_;simp only [cY];refine D ?_;refine kP ?_;refine D ?_;refine GL.F9 [i+1] gL (lD) (by simp [jn,WT,ak]) ⟨hk,trivial⟩ rfl ?_;refine dk ?_;rw [cY];refine D ?_;refine kP ?_;refine D ?_;refine ⟨i+1,⟨_,_,Wk.aH ar,kk+1+f.params.length+1,by omega,rfl,?_,ak⟩,by show l.length - (i+1) < l.length - i;omega⟩;rw [<-OE,<-WU,pe (o:=0+2) jI,pe hr,set_set];rfl
 ·have hd:decide ((i:Int) < (l.length:Int))=false:=by simpa using ak
  have gD:i=l.length:=by omega
  subst gD;rw [B5];rw [bW] at gy;subst gy;refine cw ?_;refine D ?_;refine ny ?_;refine LV rfl dI rfl (by simp [eU,gC]) ?_ ⟨rfl,rfl⟩;intro x hx
  rcases de hx with rfl | hx
  ·rfl
  ·exact eR (fun _ _=>rfl) x hx
theorem ON (l:List Go.Sp.Fn) (k:Nat) (hl:l.length<=1099511627776) (hb:k+bG wF l<=1099511627776) :
  GF prog 56 [.sl 3 ((et wF jl k l).map au),.v (ii (k:Nat))] [] (.v (ii ((k+bG wF l:Nat):Int))) []:=by
 have hm:((et wF jl k l).map au).length=l.length:=by rw [bP,eU]
 refine ah func56 ntmps56 ?_;refine GW.loop (fun i:Nat=>l.length - i) (fun i fr Γ=>∃ kk:Nat,kk=k+bG wF (l.take i)/\fr=[.sl 3 ((et wF jl k l).map au),.v (ii (kk:Nat)),U,U,U,.v (ii (i:Nat)),U,U,U,U,U,U,U,U,U,U,U,U,U,U,U,U,U,U,U,U,U,U,U,U,U,U,U,U,U,U,U,U,U,U,U]/\Γ=[]/\i<=l.length) 0 ?_ ?_
 ·exact ⟨_,_,Wk.aH ar,k,by simp [bG],rfl,rfl,aM _⟩
 rintro i _ _ ⟨kk,gy,rfl,rfl,hi⟩
 by_cases ak:i < l.length
 ·have hd:decide ((i:Int) < (((et wF jl k l).map au).length:Int))=true:=by rw [hm];simpa using ak
  obtain ⟨f,hf⟩:∃ f,l[i]?=some f:=⟨l[i],by simp [ak]⟩;have O7:=qX (w:=wF) hf;have hle:=uz (w:=wF) l (i+1);have O8:wF f=2+f.params.length:=rfl
  have hr:((et wF jl k l).map au)[i]?=some [.v (sv (na kk)),.sl 1 (marks (kk+1) f.params.length),.v (ii ((kk+1+f.params.length:Nat):Int))]:=by rw [aP,xe k hf,<-gy,yf];rfl
  have hc:=mh kk G;have hH:=yJ (kk+1) f.params.length G;generalize na kk=x at *;generalize (et wF jl k l).map au=S at *;generalize marks (kk+1) f.params.length=S2 at *
  have hs:(!(x==x))=false:=by simp
  have dZ:decide (((kk+1+f.params.length:Nat):Int) < 0)=false:=decide_eq_false G
  have kj:(((kk+1+f.params.length:Nat):Int) != ((kk+1+f.params.length:Nat):Int))=false:=by simp
  refine D ?_;refine aL (aD 0 6 (.a 6 (.q 7 .nil))) ?_;refine ao ?_;refine aI [] hc ?_;refine D ?_;refine V [] hH ?_;exact ⟨i+1,⟨_,_,Wk.aH ar,kk+1+f.params.length+1,by omega,rfl,rfl,ak⟩,by show l.length - (i+1) < l.length - i;omega⟩
 ·have hd:decide ((i:Int) < (((et wF jl k l).map au).length:Int))=false:=by rw [hm];simpa using ak
  have gD:i=l.length:=by omega
  subst gD;rw [bW] at gy;subst gy;refine cw ?_;exact ay
theorem Jo (l:List Nd) (fs:List Value) (gC:fs.length=l.length) (TE:∀ (i:Nat) x y,l[i]?=some x->fs[i]?=some y->Hd x.kids.length y) (a:Option Addr) (c k:Nat) (hl:l.length<=1099511627776) (hb:k+bG wN l<=1099511627776) :
  GC prog 53 [.v (.slice a l.length c),.v (ii (k:Nat))] (.vech 62 5 (List.zipWith bs l fs) (.slice a l.length c)::List.zipWith bz l fs) fun g Δ=>g=.v (ii ((k+bG wN l:Nat):Int))/\Δ=.vech 62 5 (List.zipWith bs (et wN jB k l) fs) (.slice a l.length c)::List.zipWith bz (et wN jB k l) fs:=by
 have TJ:(Ob.vech 62 5 (List.zipWith bs l fs) (.slice a l.length c)::List.zipWith bz l fs).length=l.length+1:=by simp [gC]
 refine cL func53 ntmps53 ?_;rw [TJ];refine D ?_;refine GW.loop (fun i:Nat=>l.length - i) (fun i fr Γ=>∃ kk:Nat,kk=k+bG wN (l.take i)/\fr=[.v (.slice a l.length c),.v (ii (kk:Nat)),U,U,U,.v (ii (i:Nat)),U,U,U,U,U,U,U,U,U,U,U,U,U,U,U,U,U,U,U,U,U,U,U,U,U,U,U,U,U,U,U,U,U,U,U,U,U,U,U,U,U,U,U]/\Γ=.vech 62 5 (List.zipWith bs (fj wN jB k l i) fs) (.slice a l.length c)::List.zipWith bz (fj wN jB k l i) fs/\i<=l.length) 0 ?_ ?_
 ·exact ⟨_,_,Wk.aH ar,k,by simp [bG],rfl,by rw [zL],aM _⟩
 rintro i _ _ ⟨kk,gy,rfl,rfl,hi⟩
 by_cases ak:i < l.length
 ·have hd:decide ((i:Int) < (l.length:Int))=true:=by simpa using ak
  obtain ⟨f,hf⟩:∃ f,l[i]?=some f:=⟨l[i],by simp [ak]⟩;have n7:fs[i]?=some (fs[i]'G):=dO _;obtain ⟨a1,c1,e1⟩:=TE i _ _ hf n7;generalize fs[i]'G=y at *;subst e1;have O7:=qX (w:=wN) hf;have hle:=uz (w:=wN) l (i+1);have O8:wN f=4+f.kids.length:=rfl;have bR:=B8 (w:=wN) (mk:=jB) (k:=k) hf;rw [<-gy] at bR;have hc:=mh (kk+1+1+1) G;have gL:=Mu a1 c1 f.kids.length (kk+1+1+1+1) (fK f.kids) (RF _) G;rw [Di] at gL;have OC:=B7 (w:=wN) (mk:=jB) k l i;have hr:(List.zipWith bs (fj wN jB k l i) fs)[i]?=some [.v (ii f.kind),.v (ii f.at_),.v (ii f.n),.v (sv f.s),.v (.slice a1 f.kids.length c1)]:=tM (xd hf) n7;have hk:(List.zipWith bz (fj wN jB k l i) fs)[i]?=some (.vech 3 1 (fK f.kids) (.slice a1 f.kids.length c1)):=tM (xd hf) n7
  have gh:(List.zipWith bs (fj wN jB k l i) fs).length=l.length:=by rw [jE];omega
  have WT:(List.zipWith bz (fj wN jB k l i) fs).length=l.length:=by rw [jE];omega
  have OE:(List.zipWith bs (fj wN jB k l i) fs).set i [.v (ii (kk:Nat)),.v (ii ((kk+1:Nat):Int)),.v (ii ((kk+1+1:Nat):Int)),.v (sv (na (kk+1+1+1))),.v (.slice a1 f.kids.length c1)]=List.zipWith bs (fj wN jB k l (i+1)) fs:=by rw [<-bR,<-xB n7];rfl
  have WU:oset (List.zipWith bz (fj wN jB k l i) fs) i (.vech 3 1 (fK (HR (kk+1+1+1+1) f.kids.length)) (.slice a1 f.kids.length c1))=List.zipWith bz (fj wN jB k l (i+1)) fs:=by rw [aZ,<-bR,<-xB n7];rfl
  generalize List.zipWith bs (fj wN jB k l i) fs=R at *;generalize List.zipWith bz (fj wN jB k l i) fs=O at *;generalize na (kk+1+1+1)=x at *;have jI:=qR (o:=0) (g:=.v (ii (kk:Nat))) hr;simp only [bp] at jI;have eg:=qR (o:=1) (g:=.v (ii ((kk+1:Nat):Int))) jI;simp only [bp] at eg;have TM:=qR (o:=2) (g:=.v (ii ((kk+1+1:Nat):Int))) eg;simp only [bp] at TM;have hr4:=qR (o:=3) (g:=.v (sv x)) TM;simp only [bp] at hr4
  have gM:(dp R i (0+0) (.v (ii (kk:Nat)))).length=l.length:=by rw [iJ];exact gh
  have kW:(dp (dp R i (0+0) (.v (ii (kk:Nat)))) i (0+1) (.v (ii ((kk+1:Nat):Int)))).length=l.length:=by rw [iJ];exact gM
  have Xl:(dp (dp (dp R i (0+0) (.v (ii (kk:Nat)))) i (0+1) (.v (ii ((kk+1:Nat):Int)))) i (0+2) (.v (ii ((kk+1+1:Nat):Int)))).length=l.length:=by rw [iJ];exact kW
  have hl4:(dp (dp (dp (dp R i (0+0) (.v (ii (kk:Nat)))) i (0+1) (.v (ii ((kk+1:Nat):Int)))) i (0+2) (.v (ii ((kk+1+1:Nat):Int)))) i (0+3) (.v (sv x))).length=l.length:=by rw [iJ];exact Xl
  refine D ?_;refine kP ?_;refine D ?_;refine kP ?_;refine D ?_;refine kP ?_;refine D ?_;refine fR [] hc ?_;simp only [cY];refine D ?_;refine kP ?_;refine D ?_;refine GL.F9 [i+1] gL (lD) (by simp [jn,WT,ak]) ⟨hk,trivial⟩ rfl ?_;refine dk ?_;rw [cY];refine D ?_;refine ⟨i+1,⟨_,_,Wk.aH ar,kk+1+1+1+1+f.kids.length,by omega,rfl,?_,ak⟩,by show l.length - (i+1) < l.length - i;omega⟩;rw [<-OE,<-WU,pe (o:=0+3) TM,pe (o:=0+2) eg,pe (o:=0+1) jI,pe hr];simp only [set_set];rfl
 ·have hd:decide ((i:Int) < (l.length:Int))=false:=by simpa using ak
  have gD:i=l.length:=by omega
  subst gD;rw [B5];rw [bW] at gy;subst gy;refine cw ?_;refine D ?_;refine ny ?_;refine LV rfl dI rfl (by simp [eU,gC]) ?_ ⟨rfl,rfl⟩;intro x hx
  rcases de hx with rfl | hx
  ·rfl
  ·exact eR (fun _ _=>rfl) x hx
theorem Je (l:List Nd) (k:Nat) (hl:l.length<=1099511627776) (hb:k+bG wN l<=1099511627776) :
  GF prog 57 [.sl 5 ((et wN jB k l).map ax),.v (ii (k:Nat))] [] (.v (ii ((k+bG wN l:Nat):Int))) []:=by
 have hm:((et wN jB k l).map ax).length=l.length:=by rw [bP,eU]
 refine ah func57 ntmps57 ?_;refine GW.loop (fun i:Nat=>l.length - i) (fun i fr Γ=>∃ kk:Nat,kk=k+bG wN (l.take i)/\fr=[.sl 5 ((et wN jB k l).map ax),.v (ii (kk:Nat)),U,U,U,.v (ii (i:Nat)),U,U,U,U,U,U,U,U,U,U,U,U,U,U,U,U,U,U,U,U,U,U,U,U,U,U,U,U,U,U,U,U,U,U,U,U,U,U,U,U,U,U,U,U,U,U,U,U,U,U,U,U,U]/\Γ=[]/\i<=l.length) 0 ?_ ?_
 ·exact ⟨_,_,Wk.aH ar,k,by simp [bG],rfl,rfl,aM _⟩
 rintro i _ _ ⟨kk,gy,rfl,rfl,hi⟩
 by_cases ak:i < l.length
 ·have hd:decide ((i:Int) < (((et wN jB k l).map ax).length:Int))=true:=by rw [hm];simpa using ak
  obtain ⟨f,hf⟩:∃ f,l[i]?=some f:=⟨l[i],by simp [ak]⟩;have O7:=qX (w:=wN) hf;have hle:=uz (w:=wN) l (i+1);have O8:wN f=4+f.kids.length:=rfl
  have hr:((et wN jB k l).map ax)[i]?=some [.v (ii (kk:Nat)),.v (ii ((kk+1:Nat):Int)),.v (ii ((kk+1+1:Nat):Int)),.v (sv (na (kk+1+1+1))),.sl 1 (jk (kk+1+1+1+1) f.kids.length)]:=by rw [aP,xe k hf,<-gy,Di];rfl
  have hc:=mh (kk+1+1+1) G;have hH:=L1 (kk+1+1+1+1) f.kids.length G;generalize na (kk+1+1+1)=x at *;generalize (et wN jB k l).map ax=S at *;generalize jk (kk+1+1+1+1) f.kids.length=S2 at *
  have hs:(!(x==x))=false:=by simp
  have iQ:(((kk:Nat):Int) != ((kk:Nat):Int))=false:=by simp
  have kj:(((kk+1:Nat):Int) != ((kk+1:Nat):Int))=false:=by simp
  have tY:(((kk+1+1:Nat):Int) != ((kk+1+1:Nat):Int))=false:=by simp
  have dZ:decide (((kk+1+1+1+1+f.kids.length:Nat):Int) < 0)=false:=decide_eq_false G;refine D ?_;refine aL (aD 0 6 (.a 6 (.q 7 .nil))) ?_;refine ao ?_;refine aI [] hc ?_;refine D ?_;refine V [] hH ?_;exact ⟨i+1,⟨_,_,Wk.aH ar,kk+1+1+1+1+f.kids.length,by omega,rfl,rfl,ak⟩,by show l.length - (i+1) < l.length - i;omega⟩
 ·have hd:decide ((i:Int) < (((et wN jB k l).map ax).length:Int))=false:=by rw [hm];simpa using ak
  have gD:i=l.length:=by omega
  subst gD;rw [bW] at gy;subst gy;refine cw ?_;exact ay
end Go.Xg
namespace Go.Im
open Go.Xp Go.Sp
theorem yz {α:Type} {w:α->Nat}:∀ l:List α,bG w l=bC w l
 | []=>rfl
 | x::l=>by
  have:=yz (w:=w) l;unfold bG at *;rw [List.map_cons,List.sum_cons,this];rfl
theorem II {α β:Type} {w:α->Nat} {v:β->Nat} {f:α->β} (h:∀ a,v (f a)=w a) (l:List α):bG v (l.map f)=bG w l:=by
 unfold bG;rw [map_map]
 congr 1
 exact List.map_congr_left fun a _=>h a
theorem Lq (p:Src):nT p<=4 * fC p:=by
 have F:=DF p.globals
 have I:bG wA p.arrays<=2 * bC (fun a:Ar=>a.name.length+1) p.arrays:=by rw [yz];exact nQ fun a _=>by show 2<=_;omega
 have h3:bG wF p.fns<=2 * bC (fun f:Go.Sp.Fn=>f.name.length+wS f.params+1) p.fns:=by rw [yz];exact nQ fun f _=>by have:=DF f.params;show 2+f.params.length<=_;omega
 have h4:bG wN p.nodes<=4 * bC (fun n:Nd=>n.s.length+n.kids.length+1) p.nodes:=by rw [yz];exact nQ fun n _=>by show 4+n.kids.length<=_;omega
 unfold nT fC;omega
end Go.Im
namespace Go.Xg
open Go.RowKit Go.Xw Go.Proofs Tryz
open Go.Xp (Nd Ar)
open Go.Sp (Src)
open Go.Im
attribute [local irreducible] GW GL GO YG GC GA be bg
theorem ra.mk' {p:Src} {hg ha hf hn:Value} {fs ns:List Value} (H:ra p hg ha hf hn fs ns) (k:Nat):ra (oI k p) hg ha hf hn fs ns:=by
 obtain ⟨F,I,h3,h4,h5,h6,h7,h8⟩:=H;refine ⟨by show Hd (zM _ _).length _;rw [KL];exact F,by show Hd (et _ _ _ _).length _;rw [eU];exact I,by show Hd (et _ _ _ _).length _;rw [eU];exact h3,by show Hd (et _ _ _ _).length _;rw [eU];exact h4,by show _=(et _ _ _ _).length;rw [eU];exact h5,by show _=(et _ _ _ _).length;rw [eU];exact h6,fun i x y e1 e2=>?_,fun i x y e1 e2=>?_⟩
 ·have hi:=(bo e1).1;have hi:i < (et wF jl (k+p.globals.length+bG wA p.arrays) p.fns).length:=hi;rw [eU] at hi;have hx:p.fns[i]?=some p.fns[i]:=dO hi;have e1:(et wF jl (k+p.globals.length+bG wA p.arrays) p.fns)[i]?=some x:=e1;rw [xe _ hx] at e1;cases e1;show Hd (zM _ _).length y;rw [KL];exact h7 i _ y hx e2
 ·have hi:=(bo e1).1;have hi:i < (et wN jB (k+p.globals.length+bG wA p.arrays+bG wF p.fns) p.nodes).length:=hi;rw [eU] at hi;have hx:p.nodes[i]?=some p.nodes[i]:=dO hi;have e1:(et wN jB (k+p.globals.length+bG wA p.arrays+bG wF p.fns) p.nodes)[i]?=some x:=e1;rw [xe _ hx] at e1;cases e1;show Hd (HR _ _).length y;rw [Vc];exact h8 i _ y hx e2
theorem qU {p:Src} {hg ha hf hn:Value} {fs ns:List Value} (H:ra p hg ha hf hn fs ns):(gI p hg ha hf hn fs ns).length=p.fns.length+p.nodes.length+4:=by
 have h5:=H.fl;have h6:=H.nl;simp [gI,h5,h6];omega
theorem zK (p:Src) (hg ha hf hn:Value) (fs ns:List Value) (H:ra p hg ha hf hn fs ns) (k:Nat) (F:p.globals.length<=1048576) (I:p.arrays.length<=1048576) (h3:p.fns.length<=1048576) (h4:p.nodes.length<=1048576) (hb:k+nT p<=1099511627776) :
  GC prog 11 [.agg [.v hg,.v ha,.v hf,.v hn],.v (ii (k:Nat))] (gI p hg ha hf hn fs ns) fun g Δ=>g=.v (ii ((k+nT p:Nat):Int))/\Δ=gI (oI k p) hg ha hf hn fs ns:=by
 have Kf:=qU H;have WY:=qU (H.mk' k);have WV:=nP p hg ha hf hn fs ns;have WW:=nP (oI k p) hg ha hf hn fs ns;have qg:(oI k p).fns.length=p.fns.length:=eU _ _;have eK:(oI k p).nodes.length=p.nodes.length:=eU _ _
 have hc4:p.fns.length+p.nodes.length+4=(oI k p).fns.length+(oI k p).nodes.length+4:=by rw [qg,eK]
 obtain ⟨⟨a0,c0,rfl⟩,⟨a1,c1,rfl⟩,⟨a2,c2,rfl⟩,⟨a3,c3,rfl⟩,gC,kX,Ha,CW⟩:=H;unfold nT at hb |-;have e0:=yM a0 c0 p.globals.length k (br p.globals) (mD _) G;have e1:=HO p.arrays a1 c1 (k+p.globals.length) G G;have e2:=PF p.fns fs gC Ha a2 c2 (k+p.globals.length+bG wA p.arrays) G G;have e3:=Jo p.nodes ns kX CW a3 c3 (k+p.globals.length+bG wA p.arrays+bG wF p.fns) G G;rw [yf] at e0;rw [show k+p.globals.length+bG wA p.arrays+bG wF p.fns+bG wN p.nodes=k+(p.globals.length+bG wA p.arrays+bG wF p.fns+bG wN p.nodes) by omega] at e3
 have Hz:∀ x∈(Ob.vech 58 3 (List.zipWith ea p.fns fs) (.slice a2 p.fns.length c2)::List.zipWith eZ p.fns fs),x.ko=true:=fun x hx=>by
  rcases de hx with rfl | hx
  ·rfl
  ·exact eR (fun _ _=>rfl) x hx
 have Pa:∀ x∈(Ob.vech 62 5 (List.zipWith bs p.nodes ns) (.slice a3 p.nodes.length c3)::List.zipWith bz p.nodes ns),x.ko=true:=fun x hx=>by
  rcases de hx with rfl | hx
  ·rfl
  ·exact eR (fun _ _=>rfl) x hx
 generalize hm:(gI p (.slice a0 p.globals.length c0) (.slice a1 p.arrays.length c1) (.slice a2 p.fns.length c2) (.slice a3 p.nodes.length c3) fs ns).length=M at *;unfold gI at WW WY |-;refine cL func11 ntmps11 ?_;have A9:=hm;unfold gI at A9;rw [A9];refine GW.seq ?_;refine GW.region ?_;refine GL.mo rfl rfl ?_;refine bm ?_;refine D ?_;refine GL.uq [] [_] _ e0 rfl (by intro x hx;rw [sP hx];rfl) (fun _=>rfl) (lD) ?_;rintro _ _ ⟨rfl,rfl⟩;refine ⟨rfl,by intro x hx;rw [sP hx];rfl,fun _=>rfl,?_⟩;refine bm ?_;refine D ?_;refine GL.uq [_] [_] _ e1 rfl (by intro x hx;rw [sP hx];rfl) (fun _=>rfl) (lD) ?_;rintro _ _ ⟨rfl,rfl⟩;refine ⟨rfl,by intro x hx;rw [sP hx];rfl,fun _=>rfl,?_⟩;refine bm ?_;refine D ?_;refine GL.uq [_,_] (_::List.zipWith eZ p.fns fs) (_::List.zipWith bz p.nodes ns) e2 rfl Hz (fun _=>rfl) (lD) ?_;rintro _ _ ⟨rfl,rfl⟩;refine ⟨by simp [eU,gC],by intro x hx;rcases de hx with rfl | hx;(· rfl);exact eR (fun _ _=>rfl) x hx,fun _=>rfl,?_⟩;refine bm ?_;refine D ?_;refine GL.uq (_::_::_::List.zipWith eZ (et wF jl (k+p.globals.length+bG wA p.arrays) p.fns) fs) (_::List.zipWith bz p.nodes ns) [] e3 (by rw [cY];rfl) Pa (fun _=>rfl) (lD) ?_;rintro _ _ ⟨rfl,rfl⟩;refine ⟨by simp [eU,kX],by intro x hx;rcases de hx with rfl | hx;(· rfl);exact eR (fun _ _=>rfl) x hx,fun _=>rfl,?_⟩;rw [cY];refine bm ?_;refine D ?_;refine ny ?_;exact LV rfl dI rfl (Kf.trans (hc4.trans WY.symm)) WW ⟨rfl,rfl⟩
theorem G9 (p:Src) (k:Nat) (F:p.globals.length<=1048576) (I:p.arrays.length<=1048576) (h3:p.fns.length<=1048576) (h4:p.nodes.length<=1048576) (hb:k+nT p<=1099511627776) :
  GF prog 12 [.agg (av (oI k p)),.v (ii (k:Nat))] [] (.v (ii ((k+nT p:Nat):Int))) []:=by
 unfold nT at hb |-;have e0:=yJ k p.globals.length G;have e1:=G8 p.arrays (k+p.globals.length) G G;have e2:=ON p.fns (k+p.globals.length+bG wA p.arrays) G G;have e3:=Je p.nodes (k+p.globals.length+bG wA p.arrays+bG wF p.fns) G G;rw [yf] at e0;rw [show k+p.globals.length+bG wA p.arrays+bG wF p.fns+bG wN p.nodes=k+(p.globals.length+bG wA p.arrays+bG wF p.fns+bG wN p.nodes) by omega] at e3;have d0:decide (((k+p.globals.length:Nat):Int) < 0)=false:=decide_eq_false G;have d1:decide (((k+p.globals.length+bG wA p.arrays:Nat):Int) < 0)=false:=decide_eq_false G;have d2:decide (((k+p.globals.length+bG wA p.arrays+bG wF p.fns:Nat):Int) < 0)=false:=decide_eq_false G;have d3:decide (((k+(p.globals.length+bG wA p.arrays+bG wF p.fns+bG wN p.nodes):Nat):Int) < 0)=false:=decide_eq_false G;have hE:av (oI k p)=[.sl 1 (br (zM k p.globals.length)),.sl 2 ((et wA oz (k+p.globals.length) p.arrays).map az),.sl 3 ((et wF jl (k+p.globals.length+bG wA p.arrays) p.fns).map au),.sl 5 ((et wN jB (k+p.globals.length+bG wA p.arrays+bG wF p.fns) p.nodes).map ax)]:=rfl;rw [hE];generalize br (zM k p.globals.length)=X0 at *;generalize (et wA oz (k+p.globals.length) p.arrays).map az=X1 at *;generalize (et wF jl (k+p.globals.length+bG wA p.arrays) p.fns).map au=X2 at *;generalize (et wN jB (k+p.globals.length+bG wA p.arrays+bG wF p.fns) p.nodes).map ax=X3 at *;refine cL func12 ntmps12 ?_;refine GW.seq ?_;refine GW.region ?_;refine GL.mo rfl rfl ?_;refine bm ?_;refine D ?_;refine V [] e0 ?_;refine V [] e1 ?_;refine V [] e2 ?_;refine V [] e3 ?_;exact aj
theorem Lv {α:Type} {f:α->Value->Ob} (hf:∀ a h,Ob.plain (f a h)) {l:List α} {hs:List Value}:∀ x∈List.zipWith f l hs,Ob.plain x:=fun x hx=>by
 obtain ⟨i,hi⟩:=List.getElem?_of_mem hx;rw [getElem?_zipWith] at hi;split at hi
 ·cases hi;exact hf _ _
 ·cases hi
theorem Lw {α:Type} {f:α->Value->List GV} (hf:∀ a h,∀ g∈f a h,∃ x,g=.v x) {l:List α} {hs:List Value}:∀ r∈List.zipWith f l hs,∀ g∈r,∃ x,g=.v x:=fun r hr=>by
 obtain ⟨i,hi⟩:=List.getElem?_of_mem hr;rw [getElem?_zipWith] at hi;split at hi
 ·cases hi;exact hf _ _
 ·cases hi
theorem MP {p:Src} {hg ha hf hn:Value} {fs ns:List Value}:∀ o∈gI p hg ha hf hn fs ns,Ob.plain o:=fun o ho=>by
 have zs:∀ l:List Go.Xp.ae,∀ r∈br l,∀ g∈r,∃ x,g=.v x:=fun l r hr g hg=>by
  unfold br at hr;obtain ⟨x,_,rfl⟩:=mP.1 hr;rw [sP hg];exact ⟨_,rfl⟩
 have zi:∀ l:List Int,∀ r∈fK l,∀ g∈r,∃ x,g=.v x:=fun l r hr g hg=>by
  unfold fK at hr;obtain ⟨x,_,rfl⟩:=mP.1 hr;rw [sP hg];exact ⟨_,rfl⟩
 unfold gI at ho;simp only [List.mem_cons,mem_append] at ho
 rcases ho with rfl | rfl | rfl | ho | rfl | ho
 ·exact fun r hr g hg=>zs _ r hr g hg
 ·intro r hr g hg;obtain ⟨x,_,rfl⟩:=mP.1 hr;simp only [az,List.mem_cons,not_mem_nil,or_false] at hg
  rcases hg with rfl | rfl <;> exact ⟨_,rfl⟩
 ·exact fun r hr g hg=>Lw (fun a h g hg=>by
   simp only [ea,List.mem_cons,not_mem_nil,or_false] at hg
   rcases hg with rfl | rfl | rfl <;> exact ⟨_,rfl⟩) r hr g hg
 ·exact Lv (f:=eZ) (fun a h r hr g hg=>zs _ r hr g hg) o ho
 ·exact fun r hr g hg=>Lw (fun a h g hg=>by
   simp only [bs,List.mem_cons,not_mem_nil,or_false] at hg
   rcases hg with rfl | rfl | rfl | rfl | rfl <;> exact ⟨_,rfl⟩) r hr g hg
 ·exact Lv (f:=bz) (fun a h r hr g hg=>zi _ r hr g hg) o ho
theorem uC.plain {q:Src} {c:Int} {g:GV} {Δ:List Ob} (h:uC q c g Δ):GV.Plain g/\∀ o∈Δ,Ob.plain o:=by
 obtain ⟨hg,ha,hf,hn,fs,ns,H,rfl,rfl⟩:=h;refine ⟨GV.PV fun x hx=>?_,MP⟩;simp only [List.mem_cons,not_mem_nil,or_false] at hx
 rcases hx with rfl | rfl
 ·refine GV.PU fun x hx=>?_
  simp only [List.mem_cons,not_mem_nil,or_false] at hx
  rcases hx with rfl | rfl | rfl | rfl <;> exact GV.KV _
 ·exact GV.KV _
section
variable {B:Bs} {K:Fz} {β:Bt} {w:World} {fr:List GV} {l:List Value} {A C:List Ob} {p:Src} {hg ha hf hn:Value} {fs ns:List Value}
theorem Gu {x y z:Operand} {u v:Value} (H:ra p hg ha hf hn fs ns) (hI:Inv B K β (A++(gI p hg ha hf hn fs ns++C)) w) (hF:FR K β fr l) (hx:bb fr x=.agg [.v hg,.v ha,.v hf,.v hn]) (hy:bb fr y=.v u) (hz:bb fr z=.v v) :
  ∃ K1,lK K1 w/\jZ K1 (fun _=>.no) w/\bq K1 (fun _=>.no) ([x,y,z].map (ev l)) [.agg (av p),.v u,.v v]:=by
 obtain ⟨K1,_,F,I,h3⟩:=Cm H hI;have hr:=hF.ev x;rw [hx] at hr;have e:=BC hr;refine ⟨K1,F,I,?_⟩;show bq K1 _ [ev l x,ev l y,ev l z] _;rw [e,hF.jF hy,hF.jF hz];exact .cons (BE h3) (.cons (.v _) (.cons (.v _) .nil))
end
end Go.Xg
namespace Go.Xg
open GV (U)
open Go.RowKit Go.Xw Go.Proofs Tryz
open Go.Xp (Nd T Ar aK aB c6 eN bN ki sq bh x6 wM)
open Go.Sp (Src)
open Go.Im
theorem Dw:∀ (X A Δ:List Ob),X.length<=Δ.length->dG (A++X) (List.range' A.length X.length) Δ=A++Δ
 | [],A,Δ,h=>by
  show dG (A++[]) [] Δ=_;rw [dG,cY]
 | x::X,A,[],h=>by simp at h
 | x::X,A,y::Δ,h=>by
  rw [length_cons,List.range'_succ,dG]
  have e:oset (A++x::X) A.length y=(A++[y])++X:=by rw [pb];simp
  have:=Dw X (A++[y]) Δ (by simpa using h);rw [aO,List.length_singleton] at this;rw [e,this];simp
section
variable {P:Program} {m:Nat} {Q:dU} {fr:List GV} {Γ:List Ob} {ops:Array Oper} {rest:List Oper} {d:Option Tmp} {op:Op} {ty:TypeId} {pos:String} {af:Array Edge}
theorem GL.JO {f:FuncId} [hf:aJ P f] (A X:List Ob) {args:List Operand} {nq:Array TypeId} {gs:List GV} {R:GV->List Ob->Prop} (hc:GC P f gs X R) (bM:Γ=A++X) (hX:∀ x∈X,x.ko=true) (Ki:∀ r,Go.Xg.cV r gs=gs) (ha:lL (args.map (bb fr)) gs)
  (h:∀ g Δ,R g Δ->X.length<=Δ.length/\(∀ x∈Δ,x.ko=true)/\(∀ r,eC r g=g)/\GL P m ops Q rest (bJ fr d g) (A++Δ)) :
  GL P m ops Q (⟨d,.call ⟨.value (.func f),args.toArray,nq⟩,ty,pos,af,none⟩::rest) fr Γ:=by
 subst bM
 refine GL.F8 (List.range' A.length X.length) hc (by rw [Ki];exact ha) (Bn _ _ _ (by simp only [aO];omega)) ?_ fun g Δ hr=>?_
 ·have:=yw (cB (List.range' A.length X.length) (A++X).length) X A [] hX;rw [cY] at this;exact this
 obtain ⟨F,I,h3,h4⟩:=h g Δ hr;refine ⟨by rw [List.length_range'];exact F,?_⟩;rw [xb I,Dw _ _ _ F,h3];exact h4
end
def jK (bB:List Nd) (h:Value) (ns:List Value):List Ob:=.vech 62 5 (List.zipWith bs bB ns) h::List.zipWith bz bB ns
structure AP (bB:List Nd) (h:Value) (ns:List Value):Prop where
 head:∃ a c,h=.slice a bB.length c
 len:ns.length=bB.length
 kid:∀ (i:Nat) x y,bB[i]?=some x->ns[i]?=some y->Hd x.kids.length y
theorem rC {bB:List Nd} {h:Value} {ns:List Value}:∀ x∈jK bB h ns,x.ko=true:=fun x hx=>by
 rcases de hx with rfl | hx
 ·rfl
 ·exact eR (fun _ _=>rfl) x hx
theorem rD {bB:List Nd} {h:Value} {ns:List Value} (H:AP bB h ns):(jK bB h ns).length=bB.length+1:=by
 unfold jK;rw [length_cons,jE,H.len,Nat.min_self]
def fY (x:Nd) (ks:List Int):Nd:=⟨x.kind,x.at_,x.n,x.s,ks⟩
theorem AP.snoc {bB:List Nd} {h:Value} {ns:List Value} (H:AP bB h ns) (x:Nd) {a b:Option Addr} {c d:Nat}:AP (bB++[x]) (.slice a (bB.length+1) c) (ns++[.slice b x.kids.length d]):=by
 refine ⟨⟨a,c,by simp⟩,by simp [H.len],fun i y v F I=>?_⟩;have hl:=H.len
 rcases Nat.lt_or_ge i bB.length with hi | hi
 ·rw [fO hi] at F;rw [fO G] at I;exact H.kid i y v F I
 ·rw [fa hi] at F;rw [fa G,hl] at I
  cases hk:i - bB.length with
  | zero =>
   rw [hk] at F I
   cases F;cases I
   exact ⟨_,_,rfl⟩
  | succ k=>rw [hk] at F;simp at F
theorem Js {bB:List Nd} {ns:List Value} (hl:ns.length=bB.length) (x:Nd) (y h:Value):jK (bB++[x]) h (ns++[y])=.vech 62 5 (List.zipWith bs bB ns++[bs x y]) h::(List.zipWith bz bB ns++[bz x y]):=by
 unfold jK;rw [List.zipWith_append hl.symm,List.zipWith_append hl.symm];rfl
theorem AP.put {bB:List Nd} {h:Value} {ns:List Value} (H:AP bB h ns) {i:Nat} {x:Nd} (hx:bB[i]?=some x) (ks:List Int) {b:Option Addr} {d n:Nat} (hn:n=ks.length):AP (bB.set i (fY x ks)) h (ns.set i (.slice b n d)):=by
 subst hn;obtain ⟨a,c,e⟩:=H.head;refine ⟨⟨a,c,by rw [e,length_set]⟩,by simp [H.len],fun j y v F I=>?_⟩;rw [dx] at F I
 by_cases ir:i=j
 ·rw [ab ir] at F I;split at F
  ·cases F;split at I
   ·cases I;exact ⟨_,_,rfl⟩
   ·cases I
  ·cases F
 ·rw [L ir] at F I;exact H.kid j y v F I
theorem FK:∀ {bB:List Nd} {ns:List Value} {i:Nat} {x:Nd} (ks:List Int) (y:Value),ns.length=bB.length->bB[i]?=some x->dp (List.zipWith bs bB ns) i 4 (.v y)=List.zipWith bs (bB.set i (fY x ks)) (ns.set i y)
 | [],ns,i,x,ks,y,hl,h=>by simp at h
 | n::bB,[],i,x,ks,y,hl,h=>by simp at hl
 | n::bB,v::ns,0,x,ks,y,hl,h=>by cases h;rfl
 | n::bB,v::ns,i+1,x,ks,y,hl,h=>by
  have:=FK (bB:=bB) (ns:=ns) (i:=i) (x:=x) ks y (by simpa using hl) (by simpa using h);rw [zipWith_cons_cons,dp,this];rfl
theorem FF:∀ {bB:List Nd} {ns:List Value} {i:Nat} {x:Nd} (ks:List Int) (y:Value),ns.length=bB.length->bB[i]?=some x->oset (List.zipWith bz bB ns) i (.vech 3 1 (fK ks) y)=List.zipWith bz (bB.set i (fY x ks)) (ns.set i y)
 | [],ns,i,x,ks,y,hl,h=>by simp at h
 | n::bB,[],i,x,ks,y,hl,h=>by simp at hl
 | n::bB,v::ns,0,x,ks,y,hl,h=>by cases h;rfl
 | n::bB,v::ns,i+1,x,ks,y,hl,h=>by
  have:=FF (bB:=bB) (ns:=ns) (i:=i) (x:=x) ks y (by simpa using hl) (by simpa using h);rw [zipWith_cons_cons,oset,this];rfl
def kc (bB:List Nd) (n:Nd) (l:List T) (k:Nat):List Nd:=bB++fY n (bh (bB.length+1) (l.take k))::bN (bB.length+1) (l.take k)
theorem HP {bB:List Nd} {n:Nd} {l:List T} {k:Nat}:(kc bB n l k).length=bB.length+1+aB (l.take k):=by
 unfold kc;rw [aO,length_cons,ki];omega
theorem Vb {bB:List Nd} {n:Nd} {l:List T} {k:Nat}:(kc bB n l k)[bB.length]?=some (fY n (bh (bB.length+1) (l.take k))):=by
 unfold kc;rw [fa (aE _),gT];rfl
theorem PI {bB:List Nd} {n:Nd} {l:List T} {k:Nat} {u:T} (h:l[k]?=some u) :
  (kc bB n l k).set bB.length (fY (fY n (bh (bB.length+1) (l.take k))) (bh (bB.length+1) (l.take k)++[(((kc bB n l k).length:Nat):Int)]))++eN (kc bB n l k).length u=kc bB n l (k+1):=by
 have jU:l.take (k+1)=l.take k++[u]:=by rw [cq,h];rfl
 rw [HP];unfold kc;rw [set_append_right _ _ (aE _),gT,set_cons_zero,jU,x6,wM];simp only [bh,bN,cY,fY,cS,cons_append]
theorem Sb {bB:List Nd} {n:Nd} {l:List T}:kc bB n l l.length=bB++eN bB.length (.mk n l):=by
 unfold kc fY;rw [bW,eN]
attribute [local irreducible] GW GL GO YG GC GA be bg
theorem RQ:∀ (N:Nat) (t:T),aK t<=N->∀ (bB:List Nd) (h:Value) (ns:List Value),AP bB h ns->bB.length+aK t<=8388608 ->
  GC prog 28 [.v h,.agg (cT t)] (jK bB h ns) fun g Δ=>∃ h' rE,AP (bB++eN bB.length t) h' rE/\g=.v h'/\Δ=jK (bB++eN bB.length t) h' rE:=by
 intro N
 induction N with
 | zero=>intro t h;have:=jy t;omega
 | succ N ih =>
 intro t hN bB h ns H hb
 cases t with
 | mk n l =>
 rw [Go.Xp.aK] at hN hb;have rp:=c6 l;have eB:(aQ l).length=l.length:=aX l;have fJ:=rD H;have kX:=H.len;obtain ⟨a0,c0,rfl⟩:=H.head
 have l0:(List.zipWith bs bB ns).length=bB.length:=by rw [jE];omega
 have hOl:(List.zipWith bz bB ns).length=bB.length:=by rw [jE];omega
 have hOk:∀ q,lx q (List.zipWith bz bB ns)=true:=fun q=>pH (eR (fun _ _=>rfl))
 have hsn:=fun (y h:Value)=>Js kX (fY n []) y h
 have hHs:=fun (a:Option Addr) (c:Nat)=>H.snoc (fY n []) (a:=a) (c:=c) (b:=none) (d:=0)
 refine cL func28 ntmps28 ?_;rw [fJ];unfold jK;generalize List.zipWith bs bB ns=R at *;generalize List.zipWith bz bB ns=O at *;refine GW.seq ?_;refine GW.region ?_;refine GL.mo rfl rfl ?_;refine bm ?_;refine lU ?_;refine GL.HX rfl rfl rfl rfl rfl rfl ?_;refine bm ?_
 have hq:∀ x:Ob,(x::O).length=O.length+1:=fun x=>rfl
 simp only [hq,cons_append]
 have Fc:∀ x y:Ob,(x::(O++[y]))[O.length+1]?=some y:=fun x y=>uH (x::O) [] y
 have hsx:∀ x y z:Ob,oset (x::(O++[y])) (O.length+1) z=x::(O++[z]):=fun x y z=>pb (x::O) [] y z
 refine D ?_;refine GL.st rfl (Fc _ _) rfl rfl rfl rfl ?_;refine oL nU (hsx _ _ _) ?_;refine D ?_;refine GL.q (YG.B3 rfl (Fc _ _) rfl rfl) ?_;refine bm ?_;refine GL.pI 0 rfl rfl rfl rfl rfl rfl rfl rfl l0 sL ?_;intro a1 c1;refine dk ?_;refine D ?_;refine GW.range (aQ l).length (fun k fr Γ=>∃ h' rE,fr=[.v h',U,U,.box (cT (.mk n l)) 0,U,.v (ii (bB.length:Nat)),U,U,U,U,U,U,U,U,U,U,U,U,U,.sl 6 (aQ l),.v (ii ((aQ l).length:Int)),.v (ii (k:Nat)),U,U,U,U,U,U,U,U,U,U,U,U,U,U,U,U,U,U,U,U,U]/\AP (kc bB n l k) h' rE/\Γ=jK (kc bB n l k) h' rE) ?_ G ?_ ?_ ?_
 ·have e0:kc bB n l 0=bB++[fY n []]:=by unfold kc;rw [take_zero];rfl
  rw [e0];refine ⟨_,_,((Wk.Ae (A:=_::O) rfl (by rw [length_cons,hOl];exact aE _) (fun q=>by simp only [lx,hOk];rfl)).trans (Wk.kE 3 1)).trans (Wk.aH ar),_,ns++[.slice none 0 0],rfl,hHs a1 c1,?_⟩;rw [hsn];rfl
 ·rintro k _ _ ⟨h',rE,rfl,_,rfl⟩;exact dK
 ·rintro k _ _ ak ⟨h',rE,rfl,HM,rfl⟩;rw [eB] at ak;obtain ⟨u,hu⟩:∃ u,l[k]?=some u:=⟨l[k],by simp [ak]⟩;have hr:=df hu;have dr:=nS hu;have OC:=HP (bB:=bB) (n:=n) (l:=l) (k:=k);have Ke:=Vb (bB:=bB) (n:=n) (l:=l) (k:=k);have hMn:=PI (bB:=bB) (n:=n) hu;rw [<-hMn];obtain ⟨a2,c2,rfl⟩:=HM.head;have L8:=HM.len;obtain ⟨y,hy⟩:∃ y,rE[bB.length]?=some y:=⟨rE[bB.length]'G,dO _⟩;obtain ⟨a3,c3,rfl⟩:=HM.kid _ _ _ Ke hy
  have kD:=fun (a:Option Addr) (c:Nat)=>HM.put Ke (bh (bB.length+1) (l.take k)++[(((kc bB n l k).length:Nat):Int)]) (b:=a) (d:=c) (n:=(bh (bB.length+1) (l.take k)).length+1) (by simp)
  have hrk:=fun (y:Value)=>FK (bh (bB.length+1) (l.take k)++[(((kc bB n l k).length:Nat):Int)]) y L8 Ke
  have fx:=fun (y:Value)=>FF (bh (bB.length+1) (l.take k)++[(((kc bB n l k).length:Nat):Int)]) y L8 Ke
  have bK:(List.zipWith bs (kc bB n l k) rE)[bB.length]?=some (bs (fY n (bh (bB.length+1) (l.take k))) (.slice a3 (bh (bB.length+1) (l.take k)).length c3)):=by rw [getElem?_zipWith,Ke,hy];rfl
  have mZ:(List.zipWith bz (kc bB n l k) rE)[bB.length]?=some (.vech 3 1 (fK (bh (bB.length+1) (l.take k))) (.slice a3 (bh (bB.length+1) (l.take k)).length c3)):=by rw [getElem?_zipWith,Ke,hy];rfl
  have uS:bB.length < (List.zipWith bs (kc bB n l k) rE).length:=by rw [jE];omega
  have fH:(fK (bh (bB.length+1) (l.take k))).length=(bh (bB.length+1) (l.take k)).length:=by simp [fK]
  have mG:fK (bh (bB.length+1) (l.take k)++[(((kc bB n l k).length:Nat):Int)])=fK (bh (bB.length+1) (l.take k))++[[.v (ii ((kc bB n l k).length:Nat))]]:=by simp [fK]
  have oW:(bh (bB.length+1) (l.take k)).length<=8388608:=by
   rw [Go.Xp.dF,cX];omega
  rw [mG] at fx
  have zr:=fun (h:Value) (FA:List Value) H2=>ih u G ((kc bB n l k).set bB.length (fY (fY n (bh (bB.length+1) (l.take k))) (bh (bB.length+1) (l.take k)++[(((kc bB n l k).length:Nat):Int)]))) h FA H2 (by rw [length_set];omega)
  rw [length_set] at zr;unfold jK;generalize Kj:bh (bB.length+1) (l.take k)=ks at *;generalize hM:kc bB n l k=M at *;generalize hM2:M.set bB.length (fY (fY n ks) (ks++[((M.length:Nat):Int)]))=M2 at *
  have Zn:∀ x:Ob,(x::List.zipWith bz M rE)[bB.length+1]?=some (.vech 3 1 (fK ks) (.slice a3 ks.length c3)):=fun x=>mZ
  generalize List.zipWith bz M rE=O2 at *;generalize List.zipWith bs M rE=R2 at *;unfold bs fY at bK;refine lU ?_;refine GL.wm rfl rfl rfl rfl rfl rfl rfl ?_;refine bm ?_;refine D ?_;refine GL.pI (bB.length+1) rfl rfl rfl rfl rfl rfl rfl (Zn _) fH sL ?_;intro a4 c4;refine oL nU (by simp only [oset];rw [fx]) ?_;refine D ?_;refine kP ?_;simp only [cI];rw [hrk];have H2:=kD a4 c4;have kW:=rD H2;refine D ?_;refine GL.JO [] (jK M2 (.slice a2 M.length c2) (rE.set bB.length (.slice a4 (ks.length+1) c4))) (zr _ _ H2) rfl rC (fun _=>rfl) (lD) ?_;rintro _ _ ⟨h5,o9,H5,rfl,rfl⟩;have hl5:=rD H5;rw [aO] at hl5;refine ⟨by rw [kW,hl5];omega,rC,fun _=>rfl,?_⟩;rw [nil_append];refine bm ?_;refine D ?_;exact ⟨rfl,rfl,_,_,Wk.aH ar,h5,o9,rfl,H5,rfl⟩
 ·rintro _ _ ⟨h',rE,rfl,HM,rfl⟩;rw [eB] at HM |-;rw [Sb] at HM |-;have Hj:=rD HM;refine ba ?_;unfold jK;refine D ?_;refine ny ?_;refine xP (n:=(jK (bB++eN bB.length (.mk n l)) h' rE).length) rfl dI rfl (by rw [Hj,aO];omega) ?_ rfl ?_
  ·show zP _ (List.take _ (jK _ _ _))=true;rw [bW];exact pH rC
  ·show ∃ I FA,_/\_/\List.take _ (jK _ _ _)=_;rw [bW];exact ⟨h',rE,HM,rfl,rfl⟩
end Go.Xg
namespace Go.Im
open Go.Xp Go.Sp
theorem Qh (fr nw:ae) {l:List T} {k:Nat} {u:T} (h:l[k]?=some u):lP fr nw (l.take (k+1))=lP fr nw (l.take k)++[DC fr nw u]:=by
 have key:∀ a b:List T,lP fr nw (a++b)=lP fr nw a++lP fr nw b:=by
  intro a b
  induction a with
  | nil=>rw [lP];rfl
  | cons t a ih=>rw [cons_append,lP,lP,ih];rfl
 rw [cq,h,key];show _++lP fr nw [u]=_;rw [lP,lP]
end Go.Im
namespace Go.Xg
open GV (U)
open Go.RowKit Go.Xw Go.Proofs Tryz
open Go.Xp (Nd T Ar aK aB c6)
open Go.Sp (Src)
open Go.Im
attribute [local irreducible] GW GL GO YG GC GA be bg
theorem Px (fo nw:Go.Xp.ae):∀ (N:Nat) (t:T),aK t<=N->aK t<=8388608 ->
  GF prog 29 [.agg (cT t),.v (sv fo),.v (sv nw)] [] (.agg (cT (DC fo nw t))) []:=by
 intro N
 induction N with
 | zero=>intro t h;have:=jy t;omega
 | succ N ih =>
 intro t hN iD
 cases t with
 | mk n l =>
 rw [Go.Xp.aK] at hN iD;have rp:=c6 l;have eB:(aQ l).length=l.length:=aX l;have hS:=Fu n.s fo nw;rw [DC];obtain ⟨m,hm⟩:∃ m,DB fo nw n=m:=⟨_,rfl⟩;rw [hm]
 have tV:m.kind=n.kind/\m.at_=n.at_/\m.kids=n.kids:=by
  rw [<-hm];unfold DB;split
  ·exact dK
  split <;> exact dK
 unfold DB at hm;refine cL func29 ntmps29 ?_;refine ED ?_;refine GW.join (fun fr Γ=>fr=[U,.v (sv fo),.v (sv nw),.loc 0 0,U,U,.loc 1 0,.loc 2 0,U,U,U,U,U,U,U,U,U,U,U,U,U,U,U,U,U,U,U,U,U,U,U,U,U,U,U,U,U,U,U,U,U,U,U,U,U,U,U,U,U,U,U,U,U,U,U,U,U,U,U,U,U,U,U,U]/\Γ=[.box 65 (cT (.mk n l)),.box 65 zT,.box 65 [.v (ii m.kind),.v (ii m.at_),.v (ii m.n),.v (sv m.s),ints m.kids,.v (.slice none 0 0)]]) ?_ ?_
 ·cases q2:(n.kind==2) with
  | true =>
   rw [ab (.inl (by simpa using q2))] at hm
   cases q0:(n.n==0) with
   | true =>
    rw [ab (by simpa using q0)] at hm;subst hm;refine D ?_;refine V [] hS ?_;exact fL
   | false =>
    rw [L (by simpa using q0)] at hm;subst hm;exact fE
  | false =>
  cases q7:(n.kind==7) with
  | true =>
   rw [ab (.inr (.inl (by simpa using q7)))] at hm
   cases q0:(n.n==0) with
   | true =>
    rw [ab (by simpa using q0)] at hm;subst hm;refine D ?_;refine V [] hS ?_;exact fL
   | false =>
    rw [L (by simpa using q0)] at hm;subst hm;exact fE
  | false =>
  cases Dq:(n.kind==13) with
  | true =>
   rw [ab (.inr (.inr (by simpa using Dq)))] at hm
   cases q0:(n.n==0) with
   | true =>
    rw [ab (by simpa using q0)] at hm;subst hm;refine D ?_;refine V [] hS ?_;exact fL
   | false =>
    rw [L (by simpa using q0)] at hm;subst hm;exact fE
  | false =>
  rw [L (by rintro (h | h | h) <;> simp [h] at q2 q7 Dq)] at hm
  cases q3:(n.kind==3) with
  | true =>
   rw [ab (.inl (by simpa using q3))] at hm;subst hm;refine D ?_;refine V [] hS ?_;exact fL
  | false =>
  cases q8:(n.kind==8) with
  | true =>
   rw [ab (.inr (.inl (by simpa using q8)))] at hm;subst hm;refine D ?_;refine V [] hS ?_;exact fL
  | false =>
  cases q4:(n.kind==4) with
  | true =>
   rw [ab (.inr (.inr (by simpa using q4)))] at hm;subst hm;refine D ?_;refine V [] hS ?_;exact fL
  | false =>
   rw [L (by rintro (h | h | h) <;> simp [h] at q3 q8 q4)] at hm;subst hm;exact fE
 ·rintro _ _ ⟨rfl,rfl⟩;refine GW.wk (Wk.wo (i:=2) (o:=5) 65 6 rfl rfl) ?_;simp only [bp,oset,cons_append,nil_append];refine D ?_
  refine GW.range (aQ l).length (fun k fr Γ=>∃ rows,fr=[U,.v (sv fo),.v (sv nw),.loc 0 0,U,U,.loc 1 0,.loc 2 0,U,U,U,U,U,U,U,U,U,U,U,U,U,U,U,U,U,U,U,U,U,U,U,U,U,U,U,U,U,U,U,U,U,U,U,U,U,U,U,.sl 6 (aQ l),.v (ii ((aQ l).length:Int)),.v (ii (k:Nat)),U,U,U,U,U,U,U,U,U,U,U,U,U,U] /\
   Γ=[.box 65 (cT (.mk n l)),.box 65 zT,.box 65 [.v (ii m.kind),.v (ii m.at_),.v (ii m.n),.v (sv m.s),ints m.kids,.vec 3 k],.vec 65 6 0 rows] /\
   rows.length=k/\rows=aQ (lP fo nw (l.take k))) ?_ G ?_ ?_ ?_
  ·exact ⟨_,_,Wk.aH ar,[],rfl,rfl,rfl,by rw [take_zero,lP];rfl⟩
  ·rintro k _ _ ⟨_,rfl,rfl,_⟩;exact dK
  ·rintro k _ _ ak ⟨rows,rfl,rfl,oY,bK⟩;rw [eB] at ak;obtain ⟨u,hu⟩:∃ u,l[k]?=some u:=⟨l[k],by simp [ak]⟩;have hr:=df hu;have dr:=nS hu;have hi:=ih u G G
   have CX:aQ (lP fo nw (l.take (k+1)))=rows++[cT (DC fo nw u)]:=by
    rw [Qh fo nw hu,tj,<-bK];first | done | simp only [aQ,sn]
   rw [CX];clear bK;generalize DC fo nw u=bu at *;refine D ?_;refine aL (aD 0 5 (.a 5 (.a 6 (.a 7 (.q 8 (.a 9 .nil)))))) ?_;refine ao ?_;refine aI [] hi ?_;refine dC ?_;refine ao ?_;refine nu ?_;refine bx ?_;exact ⟨rfl,rfl,_,_,(Wk.cut (n:=4) (fq rfl) rfl).trans (Wk.aH ar),_,rfl,rfl,by rw [aO,oY];rfl,rfl⟩
  ·rintro _ _ ⟨rows,rfl,rfl,oY,bK⟩;rw [eB,bW] at bK;rw [eB] at oY |-;refine ba (GW.wk (Wk.qz (i:=2) (o:=5) rfl rfl rfl rfl oY) ?_);simp only [bp,oset];refine GW.Gz (cJ:=[U,.v (sv fo),.v (sv nw),.loc 0 0,U,U,.loc 1 0,.loc 2 0,U,U,U,U,U,U,U,U,U,U,U,U,U,U,U,U,U,U,U,U,U,U,U,U,U,U,U,U,U,U,U,U,U,U,U,U,U,U,U,U,U,U,U,U,U,U,U,U,U,U,U,U,U,U,U,U]) (aR:=[.box 65 (cT (.mk n l)),.box 65 zT,.box 65 [.v (ii m.kind),.v (ii m.at_),.v (ii m.n),.v (sv m.s),ints m.kids,.sl 6 rows],.vec 65 6 l.length rows]) ar rfl ?_;subst bK;exact kH
end Go.Xg
namespace Go.Im
open Go.Xp Go.Sp
def kM (b:Int) (l:List Int) (k:Nat):List Int:=(l.take k).map (·+b)++l.drop k
theorem XU (b:Int) (l:List Int) (k:Nat):(kM b l k).length=l.length:=by simp [kM];omega
theorem ZA {b:Int} {l:List Int} {k:Nat} {x:Int} (h:l[k]?=some x):(kM b l k)[k]?=some x:=by
 have hi:=(bo h).1;unfold kM;rw [fa (by simp;omega),bP,cX,show min k l.length=k by omega,gT,getElem?_drop];exact h
theorem UZ {b:Int} {l:List Int} {k:Nat} {x:Int} (h:l[k]?=some x):kM b l (k+1)=(kM b l k).set k (x+b):=by
 have hi:=(bo h).1
 have hg:l[k]=x:=by rw [dO hi] at h;exact uk h
 unfold kM;rw [set_append_right _ _ (by simp;omega),bP,cX,show min k l.length=k by omega,gT,ju hi,set_cons_zero,cq,h,gU];simp
theorem U0 (b:Int) (l:List Int):kM b l 0=l:=by simp [kM]
theorem XT (b:Int) (l:List Int):kM b l l.length=l.map (·+b):=by simp [kM]
theorem Fp:∀ (l:List T) (a:Nat),∀ z∈bh a l,0<=z/\z<=((a+aB l:Nat):Int)
 | [],a,z,h=>by cases h
 | t::l,a,z,h=>by
  rw [bh] at h;rw [aB]
  rcases de h with rfl | h
  ·omega
  ·have:=Fp l (a+aK t) z h;omega
mutual
theorem Ti:∀ (t:T) (a:Nat),∀ n∈eN a t,∀ z∈n.kids,0<=z/\z<=((a+aK t:Nat):Int)
 | .mk n l,a,m,h,z,hz=>by
  rw [eN] at h;rw [aK]
  rcases de h with rfl | h
  ·have:=Fp l (a+1) z hz;omega
  ·have:=N7 l (a+1) m h z hz;omega
theorem N7:∀ (l:List T) (a:Nat),∀ n∈bN a l,∀ z∈n.kids,0<=z/\z<=((a+aB l:Nat):Int)
 | [],a,m,h,z,hz=>by rw [bN] at h;cases h
 | t::l,a,m,h,z,hz=>by
  rw [bN] at h;rw [aB]
  rcases nA h with h | h
  ·have:=Ti t a m h z hz;omega
  ·have:=N7 l (a+aK t) m h z hz;omega
end
mutual
theorem Tj:∀ (t:T) (a:Nat),∀ n∈eN a t,n.kids.length<=aK t
 | .mk n l,a,m,h=>by
  rw [eN] at h;rw [aK]
  rcases de h with rfl | h
  ·show (bh (a+1) l).length<=_;rw [dF];have:=c6 l;omega
  ·have:=N8 l (a+1) m h;omega
theorem N8:∀ (l:List T) (a:Nat),∀ n∈bN a l,n.kids.length<=aB l
 | [],a,m,h=>by rw [bN] at h;cases h
 | t::l,a,m,h=>by
  rw [bN] at h;rw [aB]
  rcases nA h with h | h
  ·have:=Tj t a m h;omega
  ·have:=N8 l (a+aK t) m h;omega
end
end Go.Im
namespace Go.Xg
open Go.RowKit Go.Xw Go.Proofs
open Go.Xp (Nd T Ar aK aB bN eN)
open Go.Im
section
variable {P:Program} {m:Nat} {Q:dU} {fr:List GV} {Γ:List Ob} {ops:Array Oper} {rest:List Oper} {d:Option Tmp} {op:Op} {ty:TypeId} {pos:String} {af:Array Edge}
theorem CG {k:Nat}:∀ {rows:List (List GV)},iw k rows->∀ {i:Nat} {r:List GV},rows[i]?=some r->(rows.flatten.drop (i * k)).take k=r
 | [],hk,i,r,hr=>by simp at hr
 | a::rows,hk,0,r,hr=>by
  cases hr;have ha:a.length=k:=(hk a (List.mem_cons_self)).1;rw [Nat.zero_mul,List.drop_zero,List.flatten_cons,<-ha,List.take_left]
 | a::rows,hk,i+1,r,hr=>by
  have ha:a.length=k:=(hk a (List.mem_cons_self)).1;rw [List.flatten_cons,Nat.succ_mul,Nat.add_comm,<-List.drop_drop]
  have:(a++rows.flatten).drop k=rows.flatten:=by rw [<-ha,List.drop_left]
  rw [this];exact CG (fun r h=>hk r (dw _ h)) (by simpa using hr)
theorem YG.abD {x:Operand} {t:TypeId} {k:Nat} [hT:Ty P t true k] {i n idx E:Nat} {rows:List (List GV)} {v:Value} {r:List GV} (hx:bb fr x=.vp i n k idx 0) (bM:Γ[i]?=some (.vech E k rows v)) (hn:rows.length=n) (hr:rows[idx]?=some r) (hkp:0 < k):YG P (.load t x) fr Γ (.agg r):=fun B K β w l hI hF=>by
 have h:=hF.ev x;rw [hx] at h;generalize hv:ev l x=u at h
 cases h with
 | vp _ _ _ _ _ _ h =>
  obtain ⟨h0,m,F,I,h3⟩:=h;obtain ⟨xs,h4,h5,h6,h7,_⟩:=hI.ob i _ bM;rw [F] at h4;cases h4;obtain ⟨b,hb,rfl⟩:=h3 hn;have oY:r.length=k:=(h7 r (bA hr)).1;have hR:=(h6.drop (idx * k)).take k;rw [CG h7 hr] at hR
  have ct:xs≠[]:=by
   intro h0;rw [h0] at hR;have:=hR.1;simp at this;omega
  obtain ⟨b2,c,he,_,_,hc⟩:=h5.cells.2 ct;subst he;cases hb;refine ⟨.agg ((xs.drop (idx * k)).take k).toArray,R.X6 hv (by rw [hR.1,oY]) (fun j v hj=>?_),.agg _ _ hR.1 hR.2⟩;rw [List.getElem?_take] at hj;split at hj
  ·rw [getElem?_drop] at hj;have:=hc _ _ hj;rw [<-fP];simpa using this
  ·cases hj
theorem E8:∀ (fr:List GV) (t:Nat) (a b:GV),bp (bp fr t a) t b=bp fr t b
 | [],t,a,b=>rfl
 | x::fr,0,a,b=>rfl
 | x::fr,t+1,a,b=>by simp only [bp,E8 fr t a b]
theorem EZ:∀ (fr:List GV) (t:Nat) (g:GV),jj fr t=true->cz (bp fr t g) t=g
 | [],t,g,h=>by cases h
 | x::fr,0,g,h=>rfl
 | x::fr,t+1,g,h=>EZ fr t g h
theorem HB:∀ (fr:List GV) (t u:Nat) (g:GV),jj (bp fr t g) u=jj fr u
 | [],t,u,g=>rfl
 | x::fr,0,0,g=>rfl
 | x::fr,0,u+1,g=>rfl
 | x::fr,t+1,0,g=>rfl
 | x::fr,t+1,u+1,g=>HB fr t u g
theorem GL.V4 {s x:Operand} {t e k iM:Nat} [hT:pN P t e k iM] {i fz:Nat} {dt:Tmp} {news:List (List GV)} (hx:bb fr x=.sl k news) (hs:bb fr s=.vec i 0) (bM:Γ[i]?=some (.vec e k fz [])) (F:kT news=true) (gD:jj fr dt=true)
  (hb:0+news.length<=9223372036854775807/\(0+news.length) * iM<=140737488355328)
  (h:GL P m ops Q rest (bJ fr (some dt) (.sl k news)) (oset Γ i (.vec e k news.length news))) :
  GL P m ops Q (⟨some dt,.call ⟨.builtin .append,#[s,x],#[t,t]⟩,ty,pos,af,none⟩::rest) fr Γ:=by
 refine GL.Ab hx hs bM rfl F hb ?_;have hi:=(bo bM).1;refine GL.wk (Wk.jD (t:=dt) (i:=i) (n:=0+news.length) (E:=e) (k:=k) (fz:=fz) (rows:=[]++news) (EZ fr dt _ gD) (by show jj (bp fr dt _) dt=true;rw [HB];exact gD) ?_ (by simp)) ?_
 ·rw [aZ,dx,ab rfl,ab hi]
 ·show GL P m ops Q rest (bp (bp fr dt _) dt _) _;rw [E8,aZ,aZ,set_set,nil_append,cI,<-aZ];exact h
theorem Wk.Wb {A:List Ob} {x:Ob} {n:Nat} (bM:Γ=A++[x]) (hn:A.length=n) (hm:m<=n) (ha:zP n A=true):Wk m fr Γ (Rc n fr) A:=by
 subst bM;subst hn;have h:=Wk.cut (m:=m) (fr:=fr) (Γ:=A++[x]) (n:=A.length) hm (by simp [ha]);simpa using h
end
theorem Mr (a b c d e f g h x:Ob) (W:List Ob):(a::b::c::d::e::f::g::h::(W++[x]))[W.length+8]?=some x:=by
 simp
theorem Yd (a b c d e f g h x y:Ob) (W:List Ob):oset (a::b::c::d::e::f::g::h::(W++[x])) (W.length+8) y=a::b::c::d::e::f::g::h::(W++[y]):=by
 have:=pb (a::b::c::d::e::f::g::h::W) [] x y;simpa using this
theorem Yc (a b c d e f g h x k:Ob) {W:List Ob} {j:Nat} (hk:W[j]?=some k):(a::b::c::d::e::f::g::h::(W++[x]))[j+8]?=some k:=by
 have hi:=(bo hk).1;show (W++[x])[j]?=some k;rw [fO hi];exact hk
theorem KJ (a b c d e f g h x y:Ob) {W:List Ob} {j:Nat} (hj:j < W.length):oset (a::b::c::d::e::f::g::h::(W++[x])) (j+8) y=a::b::c::d::e::f::g::h::(oset W j y++[x]):=by
 show a::b::c::d::e::f::g::h::oset (W++[x]) j y=_;rw [aZ,aZ,List.set_append_left _ _ hj]
theorem HD:∀ (l:List Int) (k:Nat) (x:Int),dp (fK l) k 0 (.v (ii x))=fK (l.set k x)
 | [],k,x=>rfl
 | y::l,0,x=>rfl
 | y::l,k+1,x=>by
  have:=HD l k x;unfold fK at this |-;rw [List.map_cons,dp,this];rfl
end Go.Xg
namespace Go.Xg
open GV (U)
open Go.RowKit Go.Xw Go.Proofs Tryz
open Go.Xp (Nd T Ar aK aB bN eN ki sq)
open Go.Sp (Src bf word)
open Go.Im
attribute [local irreducible] GW GL GO YG GC GA be bg
theorem Nl (p:Src) (hw:fC p<=1048576) {l:List T} (ek:Go.Im.Good p l) (fo nw:Go.Xp.ae) (hwd:(bQ p).contains fo=true->word fo=true)
  (hG:GF prog 21 [.agg (av p)] [] (.v (.bool true)) []) (hN:GF prog 22 [.v (sv nw)] [] (.v (.bool true)) []) (hR:GF prog 23 [.v (sv nw)] [] (.v (.bool false)) []) :
  GC prog 7 [.agg (av p),.v (sv fo),.v (sv nw)] [] fun g Δ =>
   Δ=[]/\if ((!(bQ p).contains fo) || fo==Dh)=true then g=.tup [.agg (av eu),.v (ii 2)] else if (bQ p).contains nw=true then g=.tup [.agg (av eu),.v (ii 3)] else if o8 (o7 p l) nw=true then g=.tup [.agg (av eu),.v (ii 4)] else g=.tup [.agg (av (iv fo nw p l)),.v (ii 0)]:=by
 obtain ⟨⟨a1,a2⟩,⟨b1,b2⟩,⟨c1,c2⟩,⟨d1,d2⟩⟩:=jO p;have Tu:=Dd p hw fo;have Tv:=Dd p hw nw
 have qg:(p.fns.map au).length=p.fns.length:=by simp
 have hlen:=ek.len;have L7:(fo==Dh)=(fo==[109,97,105,110]):=rfl;rw [L7];generalize (bQ p).contains fo=c1' at *;generalize (bQ p).contains nw=c2' at *;refine cL func7 ntmps7 ?_;refine GW.seq ?_;refine GW.region ?_;refine GL.mo rfl rfl ?_;refine bm ?_;refine D ?_;refine V [] hG ?_;refine V [] hN ?_;refine V [] hR ?_;refine fR [] Tu ?_
 cases c1' with
 | false =>
  simp only [Bool.not_false,Bool.true_or,if_true];refine D ?_;refine px ?_;exact ⟨_,gS,rfl,rfl⟩
 | true =>
 cases I:(fo==[109,97,105,110]) with
 | true =>
  simp only [Bool.not_true,Bool.false_or,if_true];refine D ?_;refine px ?_;exact ⟨_,gS,rfl,rfl⟩
 | false =>
 simp only [Bool.not_true,Bool.or_self,Bool.false_eq_true,if_false];refine D ?_;refine fR [] Tv ?_
 cases c2' with
 | true =>
  simp only [if_true];refine D ?_;refine px ?_;exact ⟨_,gS,rfl,rfl⟩
 | false =>
 simp only [Bool.false_eq_true,if_false];refine D ?_
 have hb0:∀ (k:Nat) (fr:List GV) (Γ:List Ob),k<=k:=fun _ _ _=>aE _
 refine GW.range (p.fns.map au).length (fun k fr Γ=>fr=[U,.v (sv fo),.v (sv nw),.box (av p) 0,U,U,.loc 0 0,U,U,U,U,U,U,U,U,U,U,U,U,U,U,U,U,U,U,U,U,U,U,U,U,U,U,U,U,U,U,U,U,U,U,U,U,U,U,U,U,U,.sl 3 (p.fns.map au),.v (ii ((p.fns.map au).length:Int)),.v (ii (k:Nat)),U,U,U,U,U,U,U,U,U,U,U,U,U,U,U,U,U,U,U,U,U,U,U,U,U,U,U,U,U,U,U,U,U,U,U,U,U,U,U,U,U,U,U,U,U,U,U,U,U,U,U,U,U,U,U,U,U,U,U,U,U,U,U,U,U,U,U,U,U,U,U,U,U,U,U,U,U,U,U,U,U,U,U,U,U,U,U,U,U,U,U,U,U,U,U,U,U,U,U,U,U,U,U,U,U,U,U,U,U,U,U,U,U,U,U]/\Γ=[.box 33 [.v (.slice none 0 0),.v (.slice none 0 0),.v (.slice none 0 0),.v (.slice none 0 0)]]/\o8 ((o7 p l).take k) nw=false) ?_ G ?_ ?_ ?_
 ·exact kV
 ·exact jd
 ·rintro k _ _ hk ⟨rfl,rfl,aY⟩;rw [qg] at hk;obtain ⟨f,hf⟩:∃ f,p.fns[k]?=some f:=⟨p.fns[k],by simp [hk]⟩;obtain ⟨t,ht⟩:∃ t,l[k]?=some t:=⟨l[k]'G,dO _⟩;have hg:=ek.fn hf ht;have hL:=Be p k f t (fun n hn=>by have:=(d2 n hn).2;omega) hf (by have:=(c2 f (bA hf)).2.1;omega) hg.body hg.st (by have:=hg.sz;omega);have oE:=Fw hf ht;have qM:=Bh (s:=nw) oE
  have hit:=fun hc=>Dg (s:=nw) oE hc
  have TR:=hg.vars;have cZ:=(c2 f (bA hf)).2.1;have hC:=iG (f.params++dm t) nw (by rw [aO];omega)
  have e3:∀ x:List Go.Xp.ae,strs x=.sl 1 (br x):=fun _=>rfl
  rw [e3] at hC;generalize f.params++dm t=acA at *
  cases hc:acA.contains nw with
  | true =>
   rw [hc] at hC;rw [hit hc];simp only [if_true];refine D ?_;refine cM [] hL ?_;rintro _ _ ⟨ad,cp,rfl,rfl⟩;refine dH ?_;refine D ?_;refine GL.borrow hC (fun B K β w l hI hF=>fS (A:=[_]) (C:=[]) hI hF rfl rfl) ?_;refine bm ?_;refine D ?_;refine px ?_;exact ⟨_,gS,rfl,rfl⟩
  | false =>
   rw [hc] at hC qM;refine D ?_;refine cM [] hL ?_;rintro _ _ ⟨ad,cp,rfl,rfl⟩;refine dH ?_;refine D ?_;refine GL.borrow hC (fun B K β w l hI hF=>fS (A:=[_]) (C:=[]) hI hF rfl rfl) ?_;refine bm ?_;refine D ?_;exact ⟨rfl,rfl,_,_,(Wk.cut (n:=1) (fq rfl) rfl).trans (Wk.aH ar),rfl,rfl,by rw [qM,aY];rfl⟩
 ·rintro _ _ ⟨rfl,rfl,aY⟩;rw [qg,<-Df hlen,bW] at aY;rw [aY];simp only [Bool.false_eq_true,if_false];refine ba ?_;have hS:=Fu
  have He:(p.globals.map fun s=>[GV.v (sv s)]).length=p.globals.length:=by simp
  have CM:(p.arrays.map az).length=p.arrays.length:=by simp
  refine D ?_;refine GW.wk (Wk.wo (i:=1) (o:=0) 9 1 rfl rfl) ?_;simp only [bp,oset,cons_append,nil_append];refine GW.wk (Wk.wo (i:=1) (o:=1) 56 2 rfl rfl) ?_;simp only [bp,oset,cons_append,nil_append];refine GW.wk (Wk.wo (i:=1) (o:=2) 58 3 rfl rfl) ?_;simp only [bp,oset,cons_append,nil_append];refine GW.wk (Wk.wo (i:=1) (o:=3) 62 5 rfl rfl) ?_;simp only [bp,oset,cons_append,nil_append];generalize Tt:Ob.box 33 [.v (.slice none 0 0),.v (.slice none 0 0),.v (.slice none 0 0),.v (.slice none 0 0)]=B6
  have GY:∀ q,Ob.ok q B6=true:=fun q=>by rw [<-Tt];rfl
  refine GW.range (p.globals.map fun s=>[GV.v (sv s)]).length (fun k fr Γ=>fr=[U,.v (sv fo),.v (sv nw),.box (av p) 0,U,U,.loc 0 0,U,U,.loc 1 0,U,U,U,U,U,U,U,U,U,U,U,U,U,U,U,U,U,U,U,U,U,U,U,U,U,U,U,U,U,U,U,U,U,U,U,U,U,U,U,U,U,U,U,U,U,U,U,U,U,U,U,U,.sl 1 (p.globals.map fun s=>[GV.v (sv s)]),.v (ii ((p.globals.map fun s=>[GV.v (sv s)]).length:Int)),.v (ii (k:Nat)),U,U,U,U,U,U,U,U,U,U,U,U,U,U,U,U,U,U,U,U,U,U,U,U,U,U,U,U,U,U,U,U,U,U,U,U,U,U,U,U,U,U,U,U,U,U,U,U,U,U,U,U,U,U,U,U,U,U,U,U,U,U,U,U,U,U,U,U,U,U,U,U,U,U,U,U,U,U,U,U,U,U,U,U,U,U,U,U,U,U,U,U,U,U,U,U,U,U,U,U,U] /\
   Γ=[B6,.box 33 [.vec 2 k,.vec 3 0,.vec 4 0,.vec 5 0],.vec 9 1 0 ((p.globals.take k).map fun s=>[GV.v (sv (b8 fo nw s))]),.vec 56 2 0 [],.vec 58 3 0 [],.vec 62 5 0 []]) ?_ G ?_ ?_ ?_
  ·exact fL
  ·rintro k _ _ ⟨rfl,rfl⟩;exact dK
  ·rintro k _ _ hk ⟨rfl,rfl⟩;rw [He] at hk;obtain ⟨x,hx⟩:∃ x,p.globals[k]?=some x:=⟨p.globals[k],by simp [hk]⟩
   have hr:(p.globals.map fun s=>[GV.v (sv s)])[k]?=some [GV.v (sv x)]:=by rw [aP,hx];rfl
   have CX:((p.globals.take (k+1)).map fun s=>[GV.v (sv (b8 fo nw s))])=((p.globals.take k).map fun s=>[GV.v (sv (b8 fo nw s))])++[[GV.v (sv (b8 fo nw x))]]:=by rw [cq,hx,gU];rfl
   have oY:((p.globals.take k).map fun s=>[GV.v (sv (b8 fo nw s))]).length=k:=by rw [bP,cX];omega
   have Kg:=hS x fo nw;rw [CX];generalize ((p.globals.take k).map fun s=>[GV.v (sv (b8 fo nw s))])=R at *;generalize b8 fo nw x=y at *;refine D ?_;refine aL (aD 0 5 (.a 5 (.a 6 (.a 7 (.q 8 (.a 9 .nil)))))) ?_;refine ao ?_;refine aI [] Kg ?_;refine dC ?_;refine ao ?_;refine nu ?_;refine bx ?_;exact ⟨rfl,rfl,_,_,Wk.aH ar,rfl,rfl⟩
  ·rintro _ _ ⟨rfl,rfl⟩;refine ba ?_;rw [He];rw [kz (aE _)];generalize hVG:Ob.vec 9 1 0 (p.globals.map fun s=>[GV.v (sv (b8 fo nw s))])=VG
   have G2:∀ q,Ob.ok q VG=true:=fun q=>by rw [<-hVG];rfl
   refine D ?_
   refine GW.range (p.arrays.map az).length (fun k fr Γ=>fr=[U,.v (sv fo),.v (sv nw),.box (av p) 0,U,U,.loc 0 0,U,U,.loc 1 0,U,U,U,U,U,U,U,U,U,U,U,U,U,U,U,U,U,U,U,U,U,U,U,U,U,U,U,U,U,U,U,U,U,U,U,U,U,U,U,U,U,U,U,U,U,U,U,U,U,U,U,U,U,U,U,U,U,U,U,U,U,U,U,U,U,U,U,U,U,.sl 2 (p.arrays.map az),.v (ii ((p.arrays.map az).length:Int)),.v (ii (k:Nat)),U,U,U,U,U,U,U,U,U,U,U,U,U,U,U,U,U,U,U,U,U,U,U,U,U,U,U,U,U,U,U,U,U,U,U,U,U,U,U,U,U,U,U,U,U,U,U,U,U,U,U,U,U,U,U,U,U,U,U,U,U,U,U,U,U,U,U,U,U,U,U,U,U,U,U,U,U,U,U,U,U,U,U,U] /\
    Γ=[B6,.box 33 [.vec 2 p.globals.length,.vec 3 k,.vec 4 0,.vec 5 0],VG,.vec 56 2 0 ((p.arrays.take k).map fun a=>az (vQ a (b8 fo nw a.name))),.vec 58 3 0 [],.vec 62 5 0 []]) ?_ G ?_ ?_ ?_
   ·exact fL
   ·rintro k _ _ ⟨rfl,rfl⟩;exact dK
   ·rintro k _ _ hk ⟨rfl,rfl⟩;rw [CM] at hk;obtain ⟨x,hx⟩:∃ x,p.arrays[k]?=some x:=⟨p.arrays[k],by simp [hk]⟩
    have hr:(p.arrays.map az)[k]?=some (az x):=by rw [aP,hx];rfl
    have CX:((p.arrays.take (k+1)).map fun a=>az (vQ a (b8 fo nw a.name)))=((p.arrays.take k).map fun a=>az (vQ a (b8 fo nw a.name)))++[[GV.v (sv (b8 fo nw x.name)),.v (ii x.size)]]:=by rw [cq,hx,gU];rfl
    have oY:((p.arrays.take k).map fun a=>az (vQ a (b8 fo nw a.name))).length=k:=by rw [bP,cX];omega
    have Kg:=hS x.name fo nw;rw [CX];generalize ((p.arrays.take k).map fun a=>az (vQ a (b8 fo nw a.name)))=R at *;generalize b8 fo nw x.name=y at *;unfold az at hr;refine D ?_;refine aL (aD 0 6 (.q 7 (.q 8 (.a 6 (.q 9 (.a 10 (.a 11 (.q 12 (.a 13 .nil))))))))) ?_;refine ao ?_;refine aI [] Kg ?_;refine dC ?_;refine ao ?_;refine nu ?_;refine bx ?_;exact ⟨rfl,rfl,_,_,(Wk.cut (n:=6) (fq rfl) (by simp only [take_succ_cons,take_zero,lx,GY,G2];rfl)).trans (Wk.aH ar),rfl,rfl⟩
   ·rintro _ _ ⟨rfl,rfl⟩;refine ba ?_;rw [CM];rw [kz (aE _)];generalize hVA:Ob.vec 56 2 0 (p.arrays.map fun a=>az (vQ a (b8 fo nw a.name)))=VA
    have L0:∀ q,Ob.ok q VA=true:=fun q=>by rw [<-hVA];rfl
    refine D ?_
    have zB:∀ k,(bN 0 ((Go.Im.cV fo nw p.fns l).take k)).length=aB (l.take k):=fun k=>by rw [ki,yu]
    have abw:=ek.st.len;have aa3:=ek.st.few
    refine GW.range (p.fns.map au).length (fun k fr Γ=>fr=[U,.v (sv fo),.v (sv nw),.box (av p) 0,U,U,.loc 0 0,U,U,.loc 1 0,U,U,U,U,U,U,U,U,U,U,U,U,U,U,U,U,U,U,U,U,U,U,U,U,U,U,U,U,U,U,U,U,U,U,U,U,U,U,U,U,U,U,U,U,U,U,U,U,U,U,U,U,U,U,U,U,U,U,U,U,U,U,U,U,U,U,U,U,U,U,U,U,U,U,U,U,U,U,U,U,U,U,U,U,U,U,U,U,U,U,.sl 3 (p.fns.map au),.v (ii ((p.fns.map au).length:Int)),.v (ii (k:Nat)),U,U,U,U,U,U,U,U,U,U,U,U,U,U,U,U,U,U,U,U,U,U,U,U,U,U,U,U,U,U,U,U,U,U,U,U,U,U,U,U,U,U,U,U,U,U,U,U,U,U,U,U,U,U,U,U,U,U,U,U,U,U,U] /\
     Γ=[B6,.box 33 [.vec 2 p.globals.length,.vec 3 p.arrays.length,.vec 4 k,.vec 5 (aB (l.take k))],VG,VA,.vec 58 3 0 ((p.fns.take k).map fun f=>au (xn f (b8 fo nw f.name))),.vec 62 5 0 ((bN 0 ((Go.Im.cV fo nw p.fns l).take k)).map ax)]) ?_ G ?_ ?_ ?_
    ·exact fL
    ·rintro k _ _ ⟨rfl,rfl⟩;exact dK
    ·rintro k _ _ hk ⟨rfl,rfl⟩;rw [qg] at hk;obtain ⟨f,hf⟩:∃ f,p.fns[k]?=some f:=⟨p.fns[k],by simp [hk]⟩;obtain ⟨t,ht⟩:∃ t,l[k]?=some t:=⟨l[k]'G,dO _⟩;have hg:=ek.fn hf ht
     have hr:(p.fns.map au)[k]?=some (au f):=by rw [aP,hf];rfl
     unfold au at hr
     have CX:((p.fns.take (k+1)).map fun f=>au (xn f (b8 fo nw f.name)))=((p.fns.take k).map fun f=>au (xn f (b8 fo nw f.name)))++[[GV.v (sv (b8 fo nw f.name)),strs f.params,.v (ii f.body)]]:=by rw [cq,hf,gU];rfl
     have oY:((p.fns.take k).map fun f=>au (xn f (b8 fo nw f.name))).length=k:=by rw [bP,cX];omega
     have Kg:=hS f.name fo nw;have hBd:=UA p hw hg;have hwf:word fo=true:=hwd rfl;have hsw:=Qi fo nw (f.params++dm t) hwf t f.params hg.wf hg.z (ek.sg ht) hg.ok (fun s h=>List.mem_append_left _ h) (fun s h=>List.mem_append_right _ h);have WZ:=Px fo nw _ (mH (f.params++dm t) t f.params) (aE _) (by rw [IG];have:=hg.sz;omega);rw [hsw] at WZ;have Rz:aK (nO fo nw t f.params)=aK t:=og fo nw t f.params;have TC:=(gw.at_ ek.st.fns k f t hf ht).1;have hly:=Sm fo nw hf ht;have Hz:aB (l.take (k+1))=aB (l.take k)+aK t:=Go.Xp.td ht
     have hle:aB (l.take k)+aK t<=p.nodes.length:=by rw [<-Hz,<-abw];exact Go.Xp.s9 _ _
     have WQ:=RQ _ (nO fo nw t f.params) (aE _) [] (.slice none 0 0) [] ⟨⟨none,0,rfl⟩,rfl,fun i x y h=>by simp at h⟩ (by rw [Rz];have:=hg.sz;show 0+_<=_;omega);rw [CX,hly,Hz,show aB (l.take k)=0+aB (l.take k) by omega,GH (aB (l.take k)) _ 0,cI];rw [nil_append,length_nil] at WQ;generalize nO fo nw t f.params=t' at *;have aaO:=zB k;generalize (bN 0 ((Go.Im.cV fo nw p.fns l).take k))=N0 at *;generalize ((p.fns.take k).map fun f=>au (xn f (b8 fo nw f.name)))=R at *;refine D ?_;refine V [] hBd ?_;refine V [] WZ ?_;refine GL.wk (Wk.kE 62 5) ?_;simp only [cons_append,nil_append];refine GL.JO [B6,_,VG,VA,_,_,_] (jK [] (.slice none 0 0) []) WQ rfl rC (fun _=>rfl) (lD) ?_;rintro _ _ ⟨h5,o9,H5,rfl,rfl⟩;refine ⟨by simp [jK],rC,fun _=>rfl,?_⟩;refine bm ?_;have aca:=rD H5
     have OC:(eN 0 t').length=aK t:=by rw [sq,Rz]
     have WR:=Ti t' 0;have Tw:=Tj t' 0;rw [Rz] at WR Tw;rw [cI] at WR;have htz:=hg.sz;generalize eN 0 t'=M at *;generalize aB (l.take k)=b at *;generalize aK t=st at *;generalize f.body=fb at *;have abg:=H5.len;obtain ⟨a5,c5,rfl⟩:=H5.head;have Zo:=H5.kid;clear WQ WZ hsw H5 hBd;unfold jK;simp only [cons_append,nil_append];have hN0:N0.length=b:=aaO
     have Ba:(N0.map ax).length=b:=by rw [bP];exact hN0
     refine D ?_
     refine GW.range M.length (fun j fr Γ=>∃ S,fr=[U,.v (sv fo),.v (sv nw),.box (av p) 0,U,U,.loc 0 0,U,U,.loc 1 0,U,U,U,U,.v (ii (k:Nat)),.loc 6 0,U,.v (ii (b:Nat)),U,U,U,U,U,U,U,U,U,U,U,U,U,U,U,U,U,U,U,U,U,U,U,U,U,U,U,U,U,U,U,U,U,U,U,U,U,U,U,U,U,U,U,U,U,U,U,U,U,U,U,U,U,U,U,U,U,U,U,U,U,U,U,U,U,U,U,U,U,U,U,U,U,U,U,U,U,U,U,U,U,U,.sl 3 (p.fns.map au),.v (ii ((p.fns.map au).length:Int)),.v (ii (k:Nat)),U,U,U,U,U,U,U,U,U,U,U,U,U,U,.v (.slice a5 M.length c5),.v (ii (M.length:Int)),.v (ii (j:Nat)),U,U,U,U,U,U,U,U,U,U,U,U,U,U,U,U,U,U,U,U,U,U,U,U,U,U,U,U,U,U,U,U,U,U,U,U,U,U,U,U,U,U,U,U,U,U]/\S.length=j/\(∀ q,lx q S=true) /\
      Γ=B6::.box 33 [.vec 2 p.globals.length,.vec 3 p.arrays.length,.vec 4 k,.vec 5 (b+j)]::VG::VA::.vec 58 3 0 R::.vec 62 5 0 (N0.map ax++((M.take j).map (Bo (b:Int))).map ax)::.box 58 [.v (sv f.name),strs f.params,.v (ii fb)]::.vech 62 5 (List.zipWith bs M o9) (.slice a5 M.length c5)::(S++List.zipWith bz (M.drop j) (o9.drop j))) ?_ G ?_ ?_ ?_
     ·exact ⟨_,_,Wk.aH ar,[],rfl,rfl,fun _=>rfl,by simp;rfl⟩
     ·rintro j _ _ ⟨S,rfl,_,_,rfl⟩;exact dK
     ·rintro j _ _ hj ⟨S,rfl,Kf,WX,rfl⟩;obtain ⟨x,hx⟩:∃ x,M[j]?=some x:=⟨M[j],by simp [hj]⟩;obtain ⟨y,hy⟩:∃ y,o9[j]?=some y:=⟨o9[j]'G,dO _⟩;obtain ⟨a3,c3,rfl⟩:=Zo _ _ _ hx hy;have hxm:=bA hx
      have hzd:List.zipWith bz (M.drop j) (o9.drop j)=bz x (.slice a3 x.kids.length c3)::List.zipWith bz (M.drop (j+1)) (o9.drop (j+1)):=by
       have e1:M[j]=x:=by rw [dO hj] at hx;exact uk hx
       have e2:o9[j]'G=.slice a3 x.kids.length c3:=by rw [dO G] at hy;exact uk hy
       rw [ju hj,ju (l:=o9) G,zipWith_cons_cons,e1,e2]
      have OU:N0.map ax++((M.take (j+1)).map (Bo (b:Int))).map ax=(N0.map ax++((M.take j).map (Bo (b:Int))).map ax)++[ax (Bo (b:Int) x)]:=by rw [cq,hx,gU,gU,<-cS];rfl
      have kX:(N0.map ax++((M.take j).map (Bo (b:Int))).map ax).length=b+j:=by rw [aO,Ba,bP,bP,cX];omega
      have bK:(List.zipWith bs M o9)[j]?=some [.v (ii x.kind),.v (ii x.at_),.v (ii x.n),.v (sv x.s),.v (.slice a3 x.kids.length c3)]:=by rw [getElem?_zipWith,hx,hy];rfl
      have acn:(List.zipWith bs M o9).length=M.length:=by rw [jE,abg,Nat.min_self]
      have wV:j < (List.zipWith bs M o9).length:=by omega
      have hxb:=WR x hxm;have hxk:=Tw x hxm;rw [hzd]
      have hWk:(S++bz x (.slice a3 x.kids.length c3)::List.zipWith bz (M.drop (j+1)) (o9.drop (j+1)))[j]?=some (.vech 3 1 (fK x.kids) (.slice a3 x.kids.length c3)):=by
       have:=uH S (List.zipWith bz (M.drop (j+1)) (o9.drop (j+1))) (bz x (.slice a3 x.kids.length c3));rw [Kf] at this;exact this
      have hWs:∀ z,oset (S++bz x (.slice a3 x.kids.length c3)::List.zipWith bz (M.drop (j+1)) (o9.drop (j+1))) j z=(S++[z])++List.zipWith bz (M.drop (j+1)) (o9.drop (j+1)):=fun z=>by
       have:=pb S (List.zipWith bz (M.drop (j+1)) (o9.drop (j+1))) (bz x (.slice a3 x.kids.length c3)) z;rw [Kf] at this;rw [this];simp
      have hZk:∀ q,lx q (List.zipWith bz (M.drop (j+1)) (o9.drop (j+1)))=true:=fun q=>pH (eR (fun _ _=>rfl))
      have abS:(S++bz x (.slice a3 x.kids.length c3)::List.zipWith bz (M.drop (j+1)) (o9.drop (j+1))).length=S.length+1+(List.zipWith bz (M.drop (j+1)) (o9.drop (j+1))).length:=by rw [aO,length_cons];omega
      generalize hZe:List.zipWith bz (M.drop (j+1)) (o9.drop (j+1))=Z at *;generalize (S++bz x (.slice a3 x.kids.length c3)::Z)=W at *;have Xj:=(bo hWk).1;have hEN:ax (Bo (b:Int) x)=[.v (ii x.kind),.v (ii x.at_),.v (ii x.n),.v (sv x.s),.sl 1 (fK (x.kids.map (·+(b:Int))))]:=rfl;rw [OU,hEN];generalize N0.map ax++((M.take j).map (Bo (b:Int))).map ax=NR at *;generalize List.zipWith bs M o9=RR at *;generalize Kj:x.kids=ks at *;refine D ?_;refine GL.q (YG.cU 7 rfl rfl rfl wV) ?_;refine bm ?_;refine GL.q (YG.abD rfl rfl rfl bK aU) ?_;refine bm ?_;refine GL.HX rfl rfl rfl rfl rfl rfl ?_;refine bm ?_
      have hq:∀ a b c d e f g h:Ob,(a::b::c::d::e::f::g::h::W).length=W.length+8:=fun a b c d e f g h=>rfl
      simp only [hq,cons_append];refine D ?_;refine GL.q (YG.w9 rfl (Mr _ _ _ _ _ _ _ _ _ _) rfl) ?_;refine bm ?_;refine D ?_
      have hW2:∀ y:Ob,(oset W j y)[j]?=some y:=fun y=>by rw [aZ,dx,ab rfl,ab Xj]
      have hW3:∀ y z:Ob,oset (oset W j y) j z=oset W j z:=fun y z=>by rw [aZ,aZ,aZ,set_set]
      have Tx:∀ y:Ob,(oset W j y).length=W.length:=fun y=>by rw [aZ,length_set]
      have oE:∀ (a b c d e f g h x y:Ob),(a::b::c::d::e::f::g::h::(oset W j y++[x]))[W.length+8]?=some x:=fun a b c d e f g h x y=>by
       have:=Mr a b c d e f g h x (oset W j y);rw [Tx] at this;exact this
      have dy:∀ (a b c d e f g h x y:Ob),(a::b::c::d::e::f::g::h::(oset W j y++[x]))[j+8]?=some y:=fun a b c d e f g h x y=>Yc a b c d e f g h x y (hW2 y)
      generalize hB9:Ob.box 33 [.vec 2 p.globals.length,.vec 3 p.arrays.length,.vec 4 k,.vec 5 (b+j)]=B9;generalize hVF:Ob.vec 58 3 0 R=VF;generalize OG:Ob.vec 62 5 0 NR=VN;generalize hBf:Ob.box 58 [.v (sv f.name),strs f.params,.v (ii fb)]=Bf;generalize hBD:Ob.vech 62 5 RR (.slice a5 M.length c5)=BD
      refine GW.range ks.length (fun m fr Γ=>fr=[U,.v (sv fo),.v (sv nw),.box (av p) 0,U,U,.loc 0 0,U,U,.loc 1 0,U,U,U,U,.v (ii (k:Nat)),.loc 6 0,U,.v (ii (b:Nat)),U,.loc (W.length+8) 0,U,U,U,U,U,U,U,U,U,U,U,U,U,U,U,U,U,U,U,U,U,U,U,U,U,U,U,U,U,U,U,U,U,U,U,U,U,U,U,U,U,U,U,U,U,U,U,U,U,U,U,U,U,U,U,U,U,U,U,U,U,U,U,U,U,U,U,U,U,U,U,U,U,U,U,U,U,U,U,U,.sl 3 (p.fns.map au),.v (ii ((p.fns.map au).length:Int)),.v (ii (k:Nat)),U,U,U,U,U,U,U,U,U,U,U,U,U,U,.v (.slice a5 M.length c5),.v (ii (M.length:Int)),.v (ii (j:Nat)),U,U,U,U,.v (.slice a3 ks.length c3),.v (ii (ks.length:Int)),.v (ii (m:Nat)),U,U,U,U,U,U,U,U,U,U,U,U,U,U,U,U,U,U,U,U,U,U,U,U,U,U,U,U,U,U,U,U,U,U,U,U,U,U,U] /\
       Γ=B6::B9::VG::VA::VF::VN::Bf::BD::(oset W j (.vech 3 1 (fK (kM (b:Int) ks m)) (.slice a3 ks.length c3))++[.box 62 [.v (ii x.kind),.v (ii x.at_),.v (ii x.n),.v (sv x.s),.v (.slice a3 ks.length c3)]])) ?_ G ?_ ?_ ?_
      ·exact ⟨_,_,Wk.aH ar,rfl,by rw [U0,vP hWk]⟩
      ·rintro m _ _ ⟨rfl,rfl⟩;exact dK
      ·rintro m _ _ hm ⟨rfl,rfl⟩;obtain ⟨z,hz⟩:∃ z,ks[m]?=some z:=⟨ks[m],by simp [hm]⟩;have hzb:=hxb z (bA hz);have mG:=ZA (b:=(b:Int)) hz;have n8:=UZ (b:=(b:Int)) hz;have fH:=XU (b:Int) ks m;have hse:=HD (kM (b:Int) ks m) m (z+(b:Int));rw [n8];generalize kM (b:Int) ks m=acA at *
       have eg:(fK acA)[m]?=some [.v (ii z)]:=by unfold fK;rw [aP,mG];rfl
       have kW:(fK acA).length=acA.length:=by simp [fK]
       have Hj:m < (fK acA).length:=by omega
       rw [<-hse];generalize hLe:fK acA=LR at *;refine D ?_;refine aL (aD 0 11 (.a 11 .nil)) ?_;refine ao ?_;refine OQ rfl (YG.w9 rfl (oE _ _ _ _ _ _ _ _ _ _) rfl) ?_;refine vW ?_;refine ao ?_;refine OQ rfl (YG.w9 rfl (oE _ _ _ _ _ _ _ _ _ _) rfl) ?_;refine vW ?_;refine ao ?_;refine OQ rfl (YG.cU (j+8) rfl rfl (dy _ _ _ _ _ _ _ _ _ _) Hj) ?_;refine vW ?_;refine OQ rfl (YG.X5 rfl (dy _ _ _ _ _ _ _ _ _ _) rfl eg rfl) ?_;refine vW ?_;refine ao ?_;refine OQ rfl (YG.cU (j+8) rfl rfl (dy _ _ _ _ _ _ _ _ _ _) Hj) ?_;refine vW ?_;refine OA rfl rfl ?_;refine GL.stH rfl (dy _ _ _ _ _ _ _ _ _ _) rfl eg rfl rfl rfl rfl ?_
       have Xq:m < (dp LR m 0 (.v (ii (z+(b:Int))))).length:=by rw [iJ];exact Hj
       rw [KJ _ _ _ _ _ _ _ _ _ _ (by rw [Tx];exact Xj),hW3];refine GL.nil (ba (fv.mk (by repeat (first | exact jg.n | (apply jg.w;(· decide +kernel)) | (apply jg.y;(· first | (apply YQ.t;(· exact rfl);(· exact rfl);(· (first | exact YG.w9 rfl (oE _ _ _ _ _ _ _ _ _ _) rfl | exact YG.cU (j+8) rfl rfl (dy _ _ _ _ _ _ _ _ _ _) Xq | (first | exact tJ | (apply K.idx;first | exact YG.idxV rfl rfl rfl bj G | exact YG.cU 0 rfl rfl rfl cx | exact YG.cU 1 rfl rfl rfl cx | exact YG.cU 2 rfl rfl rfl cx | exact YG.cU 3 rfl rfl rfl cx | exact YG.cU 4 rfl rfl rfl cx | exact YG.cU 5 rfl rfl rfl cx | exact YG.cU 6 rfl rfl rfl cx) | exact tK | exact YG.tF 1 rfl rfl bj bj | exact YG.mv | exact YG.vr | (apply K.bin;first | exact YG.go rfl | exact YG.vZ rfl rfl G | exact YG.xM rfl rfl | exact YG.yk rfl rfl | exact YG.CE rfl rfl | exact YG.Dk rfl rfl | exact YG.cat rfl rfl G | exact YG.cat rfl rfl (by simp only [aO,length_cons,length_nil];omega) | exact YG.xE rfl rfl G | exact YG.add rfl rfl G | exact YG.sub rfl rfl G | exact YG.mul rfl rfl G | exact YG.Ct rfl rfl G | exact YG.quo rfl rfl G | exact YG.rem rfl rfl G | exact YG.uf rfl rfl) | exact rR | exact rQ | exact rS | exact py | exact qs | (apply K.idx;first | exact YG.ue rfl rfl cl | exact YG.kO rfl rfl cl rfl | exact YG.kO rfl rfl cl G | exact YG.wh rfl rfl G) | exact YG.ext rfl rfl | exact YG.go rfl | (apply K.Is;first | exact YG.Cr rfl rfl rfl G | exact YG.Co rfl rfl G | exact YG.Cn rfl rfl G | exact YG.vg 1 rfl rfl rfl bj) | exact YG.sx rfl rfl cl | exact YG.idxSC rfl rfl cl rfl | exact qt | exact YG.build rfl | exact YG.neg rfl G | exact YG.sr rfl rfl | exact YG.yZ rfl (by first | rfl | exact IntWalk.i64_in _ G | exact IntWalk.u8_in _ G | assumption) | exact YG.str rfl bj)))) | (apply YQ.t;(· exact rfl);(· apply BN;(· exact rfl);(· first | exact rfl | assumption));(· (first | exact YG.w9 rfl (oE _ _ _ _ _ _ _ _ _ _) rfl | exact YG.cU (j+8) rfl rfl (dy _ _ _ _ _ _ _ _ _ _) Xq | (first | exact tJ | (apply K.idx;first | exact YG.idxV rfl rfl rfl bj G | exact YG.cU 0 rfl rfl rfl cx | exact YG.cU 1 rfl rfl rfl cx | exact YG.cU 2 rfl rfl rfl cx | exact YG.cU 3 rfl rfl rfl cx | exact YG.cU 4 rfl rfl rfl cx | exact YG.cU 5 rfl rfl rfl cx | exact YG.cU 6 rfl rfl rfl cx) | exact tK | exact YG.tF 1 rfl rfl bj bj | exact YG.mv | exact YG.vr | (apply K.bin;first | exact YG.go rfl | exact YG.vZ rfl rfl G | exact YG.xM rfl rfl | exact YG.yk rfl rfl | exact YG.CE rfl rfl | exact YG.Dk rfl rfl | exact YG.cat rfl rfl G | exact YG.cat rfl rfl (by simp only [aO,length_cons,length_nil];omega) | exact YG.xE rfl rfl G | exact YG.add rfl rfl G | exact YG.sub rfl rfl G | exact YG.mul rfl rfl G | exact YG.Ct rfl rfl G | exact YG.quo rfl rfl G | exact YG.rem rfl rfl G | exact YG.uf rfl rfl) | exact rR | exact rQ | exact rS | exact py | exact qs | (apply K.idx;first | exact YG.ue rfl rfl cl | exact YG.kO rfl rfl cl rfl | exact YG.kO rfl rfl cl G | exact YG.wh rfl rfl G) | exact YG.ext rfl rfl | exact YG.go rfl | (apply K.Is;first | exact YG.Cr rfl rfl rfl G | exact YG.Co rfl rfl G | exact YG.Cn rfl rfl G | exact YG.vg 1 rfl rfl rfl bj) | exact YG.sx rfl rfl cl | exact YG.idxSC rfl rfl cl rfl | exact qt | exact YG.build rfl | exact YG.neg rfl G | exact YG.sr rfl rfl | exact YG.yZ rfl (by first | rfl | exact IntWalk.i64_in _ G | exact IntWalk.u8_in _ G | assumption) | exact YG.str rfl bj)))) | (apply YQ.f;(· exact rfl);(· apply D3;(· exact rfl);(· first | exact rfl | assumption))))))) ?_))
       refine vW ?_;refine bx ?_;exact ⟨rfl,rfl,_,_,Wk.aH ar,rfl,rfl⟩
      ·rintro _ _ ⟨rfl,rfl⟩;rw [XT];refine ba ?_;subst hB9 hVF OG hBf hBD
       have cj:∀ (a b c d e f g h x y z:Ob),oset (a::b::c::d::e::f::g::h::(oset W j y++[x])) (W.length+8) z=a::b::c::d::e::f::g::h::(oset W j y++[z]):=fun a b c d e f g h x y z=>by
        have:=Yd a b c d e f g h x z (oset W j y);rw [Tx] at this;exact this
       refine GW.wk (Wk.yv (i:=W.length+8) (o:=4) (j:=j+8) (oE _ _ _ _ _ _ _ _ _ _) rfl ?_ (dy _ _ _ _ _ _ _ _ _ _)) ?_
       ·cases pP:Nat.beq (W.length+8) (j+8) with
        | false=>rfl
        | true=>have:=Nat.eq_of_beq_eq_true pP;omega
       rw [KJ _ _ _ _ _ _ _ _ _ _ (by rw [Tx];exact Xj),hW3,cj,hWs];simp only [bp]
       have hSZ:∀ (a b c d e f g h:Ob) (k:Ob),(a::b::c::d::e::f::g::h::((S++[k])++Z)).length=W.length+8:=fun a b c d e f g h k=>by simp only [length_cons,aO,length_nil];omega
       have aaR:∀ (a b c d e f g h x y:Ob),(a::b::c::d::e::f::g::h::((S++[y])++Z++[x]))[W.length+8]?=some x:=fun a b c d e f g h x y=>by
        have:=Mr a b c d e f g h x ((S++[y])++Z);rw [show ((S++[y])++Z).length=W.length by simp only [length_cons,aO,length_nil];omega] at this;exact this
       refine D ?_;refine GL.q (YG.B3 rfl (aaR _ _ _ _ _ _ _ _ _ _) rfl rfl) ?_;refine bm ?_;refine fk ?_;refine D ?_;refine ⟨rfl,rfl,_,_,(Wk.Wb (A:=_::_::_::_::_::_::_::_::((S++[Ob.vec 3 1 (fK (ks.map (·+(b:Int)))).length (fK (ks.map (·+(b:Int))))])++Z)) rfl (hSZ _ _ _ _ _ _ _ _ _) (aM _) ?_).trans (Wk.aH ar),S++[Ob.vec 3 1 (fK (ks.map (·+(b:Int)))).length (fK (ks.map (·+(b:Int))))],rfl,by rw [aO,Kf];rfl,fun q=>by rw [uw,WX];rfl,?_⟩
       ·simp only [lx,uw,GY,G2,L0,WX,hZk,Bool.and_true,Bool.true_and];rfl
       ·rfl
     ·rintro _ _ ⟨S,rfl,Kf,WX,rfl⟩;rw [kz (aE _),List.drop_of_length_le (aE _)];refine ba ?_;refine GW.wk ((Wk.cut (n:=7) (aM _) (by simp only [take_succ_cons,take_zero,lx,GY,G2,L0];rfl)).trans (Wk.aH (cJ:=[U,.v (sv fo),.v (sv nw),.box (av p) 0,U,U,.loc 0 0,U,U,.loc 1 0,U,U,U,U,.v (ii (k:Nat)),.loc 6 0,U,.v (ii (b:Nat)),U,U,U,U,U,U,U,U,U,U,U,U,U,U,U,U,U,U,U,U,U,U,U,U,U,U,U,U,U,U,U,U,U,U,U,U,U,U,U,U,U,U,U,U,U,U,U,U,U,U,U,U,U,U,U,U,U,U,U,U,U,U,U,U,U,U,U,U,U,U,U,U,U,U,U,U,U,U,U,U,U,U,.sl 3 (p.fns.map au),.v (ii ((p.fns.map au).length:Int)),.v (ii (k:Nat)),U,U,U,U,U,U,U,U,U,U,U,U,U,U,U,U,U,U,U,U,U,U,U,U,U,U,U,U,U,U,U,U,U,U,U,U,U,U,U,U,U,U,U,U,U,U,U,U,U,U,U,U,U,U,U,U,U,U,U,U,U,U,U]) ar)) ?_;simp only [take_succ_cons,take_zero];have eO:=nN f.params
      have qN:(f.params.map fun s=>[GV.v (sv s)]).length=f.params.length:=by simp
      have cZ:=(c2 f (bA hf)).2.1;generalize OG:Ob.vec 62 5 0 (N0.map ax++(M.map (Bo (b:Int))).map ax)=VN
      have W0:∀ q,Ob.ok q VN=true:=fun q=>by rw [<-OG];rfl
      generalize b8 fo nw f.name=y at *;refine aL (aD 0 6 (.q 8 (.q 9 (.q 11 (.f 6 (.a 7 (.a 10 (.q 12 (.a 13 (.a 14 (.q 15 (.a 16 .nil))))))) 7 (.a 6 (.a 10 (.q 12 (.a 13 (.a 14 (.q 15 (.a 16 .nil)))))))))))) ?_;refine ao ?_;refine GO.fork ?_ ?_
      ·refine aI [] Kg ?_;refine qY ?_;refine ao ?_;refine OA rfl rfl ?_;refine GL.V4 (i:=7) rfl rfl rfl eO rfl (by rw [qN];refine ⟨?_,?_⟩ <;> omega) ?_;refine dd ?_;refine ao ?_;refine dC ?_;refine ao ?_;refine nu ?_;refine bx ?_;exact ⟨rfl,rfl,_,_,(Wk.cut (n:=6) (fq rfl) (by simp only [take_succ_cons,take_zero,lx,GY,G2,L0,W0];rfl)).trans (Wk.aH ar),rfl,by rw [<-OG,TC,cI,<-OC,gU];rfl⟩
      ·refine qY ?_;refine ao ?_;refine aI [] Kg ?_;refine OA rfl rfl ?_;refine GL.V4 (i:=7) rfl rfl rfl eO rfl (by rw [qN];refine ⟨?_,?_⟩ <;> omega) ?_;refine dd ?_;refine ao ?_;refine dC ?_;refine ao ?_;refine nu ?_;refine bx ?_;exact ⟨rfl,rfl,_,_,(Wk.cut (n:=6) (fq rfl) (by simp only [take_succ_cons,take_zero,lx,GY,G2,L0,W0];rfl)).trans (Wk.aH ar),rfl,by rw [<-OG,TC,cI,<-OC,gU];rfl⟩
    ·rintro _ _ ⟨rfl,rfl⟩;rw [qg];rw [kz (show l.length<=p.fns.length by omega),kz (aE _),kz (show (Go.Im.cV fo nw p.fns l).length<=p.fns.length by rw [Ch];omega)];subst hVG;subst hVA;subst Tt
     have e2:((p.arrays.map fun a=>az (vQ a (b8 fo nw a.name)))).length=p.arrays.length:=by simp
     have e1:(p.globals.map fun s=>[GV.v (sv (b8 fo nw s))]).length=p.globals.length:=by simp
     have e3:(p.fns.map fun f=>au (xn f (b8 fo nw f.name))).length=p.fns.length:=by simp
     have e4:((bN 0 (Go.Im.cV fo nw p.fns l)).map ax).length=aB l:=by rw [bP,ki,Az]
     have eS:av (iv fo nw p l)=[.sl 1 (p.globals.map fun s=>[GV.v (sv (b8 fo nw s))]),.sl 2 (p.arrays.map fun a=>az (vQ a (b8 fo nw a.name))),.sl 3 (p.fns.map fun f=>au (xn f (b8 fo nw f.name))),.sl 5 ((bN 0 (Go.Im.cV fo nw p.fns l)).map ax)]:=by
      unfold av iv strs;simp only [map_map];rfl
     rw [eS];generalize (p.globals.map fun s=>[GV.v (sv (b8 fo nw s))])=X1 at *;generalize (p.arrays.map fun a=>az (vQ a (b8 fo nw a.name)))=X2 at *;generalize (p.fns.map fun f=>au (xn f (b8 fo nw f.name)))=X3 at *;generalize ((bN 0 (Go.Im.cV fo nw p.fns l)).map ax)=X4 at *;refine ba (GW.wk (Wk.qz (i:=1) (o:=0) rfl rfl rfl rfl e1) ?_);simp only [bp,oset];refine (GW.wk (Wk.qz (i:=1) (o:=1) rfl rfl rfl rfl e2) ?_);simp only [bp,oset];refine (GW.wk (Wk.qz (i:=1) (o:=2) rfl rfl rfl rfl e3) ?_);simp only [bp,oset];refine (GW.wk (Wk.qz (i:=1) (o:=3) rfl rfl rfl rfl e4) ?_);simp only [bp,oset];refine D ?_;refine kJ ?_;exact ⟨rfl,rfl⟩
theorem Nn (p:Src) (hw:fC p<=1048576) (fo nw:Go.Xp.ae) (hl:nw.length<=1048576) (h:((lC p&&bf nw)&&!gE nw)=false) :
  GF prog 7 [.agg (av p),.v (sv fo),.v (sv nw)] [] (.tup [.agg (av eu),.v (ii 1)]) []:=by
 have hG:=J9 p hw;have hN:=ew nw G;have hR:=yc nw;generalize lC p=b1 at *;generalize bf nw=b2 at *;generalize gE nw=b3 at *
 cases b1 with
 | false =>
  refine cL func7 ntmps7 ?_;refine GW.seq ?_;refine GW.region ?_;refine GL.mo rfl rfl ?_;refine bm ?_;refine D ?_;refine V [] hG ?_;refine px ?_;exact ⟨_,gS,rfl,rfl⟩
 | true =>
  cases b2 with
  | false =>
   refine cL func7 ntmps7 ?_;refine GW.seq ?_;refine GW.region ?_;refine GL.mo rfl rfl ?_;refine bm ?_;refine D ?_;refine V [] hG ?_;refine V [] hN ?_;refine px ?_;exact ⟨_,gS,rfl,rfl⟩
  | true =>
   cases b3 with
   | false=>cases h
   | true =>
    refine cL func7 ntmps7 ?_;refine GW.seq ?_;refine GW.region ?_;refine GL.mo rfl rfl ?_;refine bm ?_;refine D ?_;refine V [] hG ?_;refine V [] hN ?_;refine V [] hR ?_;refine px ?_;exact ⟨_,gS,rfl,rfl⟩
theorem Np (p:Src) (hw:fC p<=1048576) (fo nw:Go.Xp.ae) (hl:nw.length<=1048576) :
  GF prog 7 [.agg (av p),.v (sv fo),.v (sv nw)] [] (.tup [.agg (av (renameI p fo nw).1),.v (ii (renameI p fo nw).2)]) []:=by
 have hG:=J9 p hw;have hN:=ew nw G;have hR:=yc nw
 cases hb:((lC p&&bf nw)&&!gE nw) with
 | false =>
  have e:renameI p fo nw=(eu,1):=by unfold renameI;rw [hb];rfl
  rw [e];exact Nn p hw fo nw hl hb
 | true =>
  have eA:=hb;rw [aC,aC,Bool.not_eq_true'] at eA;obtain ⟨⟨k1,k2⟩,k3⟩:=eA;obtain ⟨l,ek⟩:=D4 k1;rw [k1] at hG;rw [k2] at hN;rw [k3] at hR
  refine (Nl p hw ek fo nw (fun h=>ek.words (ij.1 h)) hG hN hR).mono fun g Δ h=>?_
  obtain ⟨h0,h⟩:=h;refine ⟨?_,h0⟩;unfold renameI;rw [hb,ab rfl,ek.EO];simp only;split
  ·rename_i e1;rw [ab e1] at h;exact h
  ·rename_i e1;rw [L e1] at h;split
   ·rename_i e2;rw [ab e2] at h;exact h
   ·rename_i e2;rw [L e2] at h;split
    ·rename_i e3;rw [ab e3] at h;exact h
    ·rename_i e3;rw [L e3] at h;exact h
end Go.Xg
