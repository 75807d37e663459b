/- Part 9 of proofs that are told in their last texts. -/
import Derived.Test.YthgncfaljaocoaaGreatDoorX8
import Derived.Test.YthgncfaljaocoaaGreatDoorX5
import Derived.Test.YthgncfaljaocoaaGreatDoorX6
import Derived.Test.YthgncfaljaocoaaGreatDoorX2
import Derived.Test.YthgncfaljaocoaaGreatDoorX7
import Derived.Test.YthgncfaljaocoaaGreatDoorX3
open List (all_eq_true append_nil ext_getElem? getElem?_map getElem?_mapIdx length_append length_drop length_map length_nil length_take mem_of_getElem? nil_append take_add_one take_length)
set_option linter.unusedVariables false
set_option linter.unusedSimpArgs false
set_option maxRecDepth 100000
set_option maxHeartbeats 1000000
namespace Go.Xg
open Go.RowKit Go.Xw Go.Proofs
open Go.Xp (Tok Nd T bc one levels fR dI dW dm c7 kF lP nE Ar ay aD dV lj)
open Go.Sp Go.Im
attribute [local irreducible] GW GL GO YG GC GA aS aW
theorem QG {f:Nat} (p:RS) (st:PS) (h:HW) (q:RS) (dM:PS) (n:Nat) (hp:p.ok) (hn:st.le n) (hb:n+f+4<=1099511627776) (hw:iW f p st=some (q,dM)) :
  GC Tryz.prog 145 [.loc 0 0] (tI p st h) (fun g aH=>g=.tup []/\∃ h',aH=tI q dM h'):=by
 cases h1:is p 0 kF with
 | true=>exact L5 p st h q dM n hp hn ah h1 hw
 | false =>
  cases h2:is p 0 lP with
  | true=>exact I7 p st h q dM n hp hn hb h1 h2 hw
  | false=>exact I6 p st h q dM hp h1 h2 hw
def mn (fns:List (ae × List ae)) (trees:List T) (k:Nat):List (List GV):=fns.mapIdx fun i x=>[.v (sv x.1),strs x.2,.v (ii (if i < k then ((ay (trees.take i):Nat):Int) else 0))]
theorem Eg:∀ (rows:List (List GV)) (i j o:Nat) (g:GV),(dw rows i o g)[j]?=if j=i then (rows[j]?).map (fun r=>bj r o g) else rows[j]?
 | [],i,j,o,g=>by simp [dw]
 | r::rs,0,0,o,g=>by simp [dw]
 | r::rs,0,j+1,o,g=>by simp [dw]
 | r::rs,i+1,0,o,g=>by simp [dw]
 | r::rs,i+1,j+1,o,g=>by
  rw [dw,List.getElem?_cons_succ,Eg rs i j o g];simp
theorem Qg (fns:List (ae × List ae)) (trees:List T):fns.map o8=mn fns trees 0:=by
 apply ext_getElem?;intro i;rw [mn,getElem?_mapIdx,getElem?_map]
 cases fns[i]? <;> simp [o8]
theorem Lv (fns:List (ae × List ae)) (trees:List T) (k:Nat):dw (mn fns trees k) k 2 (.v (ii ((ay (trees.take k):Nat):Int)))=mn fns trees (k+1):=by
 apply ext_getElem?;intro i;rw [Eg,mn,mn,getElem?_mapIdx,getElem?_mapIdx]
 by_cases h:i=k
 ·subst h;rw [if_pos rfl]
  cases fns[i]? with
  | none=>rfl
  | some x=>simp [bj]
 ·rw [if_neg h]
  cases fns[i]? with
  | none=>rfl
  | some x =>
   have:(i < k)=(i < k+1):=by simp;omega
   simp [this]
theorem NA {fns:List (ae × List ae)} {trees:List T} {k:Nat} (j:Nat) (h:k < fns.length):∃ x,(mn fns trees j)[k]?=some [.v (sv x.1),strs x.2,.v (ii (if k < j then ((ay (trees.take k):Nat):Int) else 0))]/\fns[k]?=some x:=by
 refine ⟨fns[k],?_,by simp [h]⟩;rw [mn,getElem?_mapIdx];simp [h]
def G6 (q:RS) (st:PS):GV :=
 if q.code=0 then
  if ay st.trees > 800 then .tup [.agg [.sl 1 [],.sl 2 [],.sl 3 [],.sl 5 []],.v (ii 10),.v (ii 0)]
  else .tup [.agg [.sl 1 (st.globals.map kv),.sl 2 (st.arrays.map pZ),.sl 3 (mn st.fns st.trees st.trees.length),.sl 5 ((dV 0 st.trees).map qS)],.v (ii 0),.v (ii 0)]
 else .tup [.agg [.sl 1 [],.sl 2 [],.sl 3 [],.sl 5 []],.v (ii q.code),.v (ii q.at_)]
theorem FA {G f:Nat} (ts:List Tok) (e:Int) (q:RS) (st:PS) (hl:ts.length<=1099511627776) (hb:G+f+4<=1099511627776) (hz:q.code=0->ay st.trees<=1099511627776) (h:mh G f ⟨ts,0,e,0,0⟩ .empty=some (q,st)) :
  GF Tryz.prog 114 [gQ ts,.v (ii e)] [] (G6 q st) []:=by
 unfold G6;refine ai Tryz.func114 Tryz.ntmps114 ?_;refine GW.wk (Wk.l8 123 1) ?_;refine GW.wk (Wk.l8 9 1) ?_;refine GW.wk (Wk.l8 86 2) ?_;refine GW.wk (Wk.l8 85 3) ?_;refine GW.loop (fun z:Nat × RS × PS=>z.1) (fun z fr Γ=>∃ h n,fr=[gQ ts,.v (ii e),.Zy,.Zy,.loc 0 0,.v (ii 0),.v (ii 0),.loc 1 0,.Zy,.Zy,.Zy,.Zy,.Zy,.Zy,.Zy,.Zy,.Zy,.Zy,.Zy,.Zy,.Zy,.Zy,.Zy,.Zy,.Zy,.Zy,.Zy,.Zy,.Zy,.Zy,.Zy,.Zy,.Zy,.Zy,.Zy,.Zy,.Zy,.Zy,.Zy,.Zy,.Zy,.Zy,.Zy,.Zy,.Zy,.Zy,.Zy,.Zy,.Zy,.Zy,.Zy,.Zy,.Zy,.Zy,.Zy,.Zy,.Zy,.Zy,.Zy,.Zy,.Zy,.Zy,.Zy,.Zy,.Zy,.Zy,.Zy,.Zy,.Zy,.Zy,.Zy,.Zy,.Zy,.Zy,.Zy,.Zy,.Zy,.Zy,.Zy]/\Γ=.box 34 [.v (.slice none 0 0),.v (.slice none 0 0),.v (.slice none 0 0),.v (.slice none 0 0)]::tI z.2.1 z.2.2 h/\z.2.1.l=ts/\z.2.1.ok/\z.2.2.le n/\n+z.1<=G/\mh z.1 f z.2.1 z.2.2=some (q,st)) (G,⟨ts,0,e,0,0⟩,.empty) ?_ ?_
 ·exact ⟨_,_,Wk.ax al,⟨none,0,none,0,none,0,none,0⟩,0,rfl,rfl,rfl,⟨Nat.zero_le _,hl⟩,⟨Nat.le_refl _,Nat.le_refl _,Nat.le_refl _,rfl⟩,by simp,h⟩
 clear h;rintro ⟨g,p,s⟩ _ _ ⟨hd,n,rfl,rfl,cJ,hp,hn,x9,h⟩;simp only at cJ hp hn x9 h
 cases g with
 | zero=>cases h
 | succ g =>
 rw [mh] at h
 by_cases hgo:p.code=0/\p.i < p.l.length
 ·rw [if_pos hgo] at h
  have dj:(p.code==0)=true:=by simpa using hgo.1
  have aq:decide ((p.i:Int) < ((ts.map cW).length:Int))=true:=by
   have:=hgo.2;rw [cJ] at this;simpa using this
  cases hw:iW f p s with
  | none=>rw [hw] at h;cases h
  | some r =>
   obtain ⟨p2,s2⟩:=r;rw [hw] at h;simp only at h;have jX:=TN hp hw;refine ab ?_;refine bZ [1,2,3,4,5] (QG p s hd p2 s2 n hp hn ah hw) ?_;rintro _ _ ⟨rfl,dk,rfl⟩;refine da ?_;refine ab ?_;exact ⟨(g,p2,s2),⟨_,_,Wk.ax al,dk,n+1,rfl,rfl,by rw [jX.1,cJ],jX.ok hp,TL hw hn,by show n+1+g<=G;omega,h⟩,by simp⟩
 ·rw [if_neg hgo] at h
  obtain ⟨rfl,rfl⟩:p=q/\s=st:=by simpa using h
  clear h
  have hex:∀ b1 b2:Bool,(p.code==0)=b1->decide ((p.i:Int) < ((ts.map cW).length:Int))=b2->b1=true->b2=false:=fun b1 b2 h1 h2 h3=>by
   subst h3
   cases b2 with
   | false=>rfl
   | true=>exact absurd ⟨by simpa using h1,by rw [cJ];simpa using h2⟩ hgo
  by_cases hc:p.code=0
  ·rw [if_pos hc];have hz:=hz hc
   have dj:(p.code==0)=true:=by simpa using hc
   have jh:(p.code != 0)=false:=by simpa using hc
   have aq:=hex _ _ dj rfl rfl;have lZ:=hn.trees;have Zm:=hn.fns;have rY:=lT s.trees;have ov:=Go.Xp.cK s.trees;refine ab ?_;refine aU ?_;refine ab ?_;refine GW.wk (by apply Wk.o9 (t:=52) (i:=2) <;> rfl) ?_;simp only [oset,bj];refine ab ?_;refine GW.wk (Wk.l8 53 5) ?_;rw [Qg s.fns s.trees]
   refine GW.range s.trees.length (fun k fr Γ=>∃ aN cN,fr=[.Zy,.Zy,.Zy,.Zy,.loc 0 0,.v (ii 0),.v (ii 0),.Zy,.loc 6 0,.Zy,.Zy,.Zy,.Zy,.Zy,.Zy,.Zy,.Zy,.Zy,.Zy,.Zy,.Zy,.Zy,.Zy,.Zy,.Zy,.Zy,.Zy,.Zy,.Zy,.Zy,.Zy,.Zy,.Zy,.Zy,.Zy,.Zy,.Zy,.Zy,.Zy,.Zy,.Zy,.Zy,.Zy,.Zy,.Zy,.Zy,.Zy,.Zy,.Zy,.Zy,.Zy,.Zy,.sl 1 (jB s.trees),.v (ii (s.trees.length:Int)),.v (ii (k:Nat)),.Zy,.Zy,.Zy,.Zy,.Zy,.Zy,.Zy,.Zy,.Zy,.Zy,.Zy,.Zy,.Zy,.Zy,.Zy,.Zy,.Zy,.Zy,.Zy,.Zy,.Zy,.Zy,.Zy,.Zy]/\Γ=[.box 34 [.v (.slice none 0 0),.v (.slice none 0 0),.v (.slice none 0 0),.v (.slice none 0 0)],bF p (hx s hd),.vec 123 1 (jB s.trees).length (jB s.trees),.vech 9 1 (s.globals.map kv) (.slice hd.aG s.globals.length hd.cG),.vech 86 2 (s.arrays.map pZ) (.slice hd.aA s.arrays.length hd.cA),.vech 85 3 (mn s.fns s.trees k) (.slice hd.aF s.fns.length hd.cF),
    .box 34 [.v (.slice hd.aG s.globals.length hd.cG),.v (.slice hd.aA s.arrays.length hd.cA),.v (.slice hd.aF s.fns.length hd.cF),.v (.slice aN (ay (s.trees.take k)) cN)],.vech 53 5 ((dV 0 (s.trees.take k)).map qS) (.slice aN (ay (s.trees.take k)) cN)]) ?_ ah ?_ ?_ ?_
   ·exact ⟨_,_,Wk.ax al,none,0,rfl,rfl⟩
   ·rintro k _ _ ⟨aN,cN,rfl,rfl⟩;exact ⟨rfl,rfl,rfl⟩
   ·rintro k _ _ aq ⟨aN,cN,rfl,rfl⟩;obtain ⟨t,ht⟩:∃ t,s.trees[k]?=some t:=⟨s.trees[k],by simp [aq]⟩;have hr:=Ab ht;have b8:=Go.Xp.tQ ht;have hle:=Go.Xp.tP s.trees (k+1)
    have jz:s.trees.take (k+1)=s.trees.take k++[t]:=by rw [take_add_one,ht];rfl
    obtain ⟨x,uy,Gw⟩:=NA (fns:=s.fns) (trees:=s.trees) (k:=k) k ah;rw [if_neg (Nat.lt_irrefl k)] at uy;have rZ:k < (mn s.fns s.trees k).length:=(List.getElem?_eq_some_iff.1 uy).1
    have hX:((dV 0 (s.trees.take k)).map qS).length=ay (s.trees.take k):=by rw [length_map,Go.Xp.xm]
    have iP:=JX (aD t) t (Nat.le_refl _) (ay (s.trees.take k)) _ aN cN hX ah;rw [<-Lv s.fns s.trees k,jz,Go.Xp.Ga,Go.Xp.lV];simp only [dV,ay,append_nil,Nat.add_zero,Nat.zero_add,List.map_append];generalize (dV 0 (s.trees.take k)).map qS=X at *;generalize ay (s.trees.take k)=z at *;generalize mn s.fns s.trees k=R at *;refine ab ?_;refine nU ?_;refine ab ?_;refine bZ [7] (iP) ?_;rintro _ _ ⟨a5,c5,rfl,rfl⟩;refine da ?_;refine ab ?_;exact ⟨rfl,rfl,_,_,Wk.ax al,a5,c5,rfl,rfl⟩
   ·rintro _ _ ⟨aN,cN,rfl,rfl⟩;rw [take_length]
    have hX:((dV 0 s.trees).map qS).length=ay s.trees:=by rw [length_map,Go.Xp.xm]
    by_cases h8:ay s.trees > 800
    ·rw [if_pos h8]
     have W8:decide ((800:Int) < (ay s.trees:Int))=true:=by simpa using by omega
     generalize ay s.trees=z at *;refine ab ?_;refine Ak ?_;exact ⟨_,iy,rfl,rfl⟩
    ·rw [if_neg h8]
     have W8:decide ((800:Int) < (((dV 0 s.trees).map qS).length:Int))=false:=by rw [hX];simpa using by omega
     refine aL ?_;refine GW.wk (by apply Wk.xC (i:=6) (o:=0) (j:=3) <;> rfl) ?_;simp only [oset,bj];refine GW.wk (by apply Wk.xC (i:=6) (o:=1) (j:=4) <;> rfl) ?_;simp only [oset,bj];refine GW.wk (by apply Wk.xC (i:=6) (o:=2) (j:=5) <;> rfl) ?_;simp only [oset,bj];refine GW.wk (by apply Wk.xC (i:=6) (o:=3) (j:=7) <;> rfl) ?_;simp only [oset,bj];refine ab ?_;refine lq ?_;exact ⟨rfl,rfl⟩
  ·rw [if_neg hc]
   have dj:(p.code==0)=false:=by simpa using hc
   have jh:(p.code != 0)=true:=by simpa using hc
   refine ab ?_;refine aU ?_;refine ab ?_;refine GW.draw (.q 0 (.q 1 (.q 2 (.q 3 (.q 4 (.q 5 (.q 6 (.q 7 (.q 8 (.a 9 (.q 10 (.q 11 .nil)))))))))))) (by kernel_rfl) (by kernel_rfl) ?_;refine aj ?_;refine ab ?_;refine Ak ?_;exact ⟨_,iy,rfl,rfl⟩
end Go.Xg
namespace Go.Xg
open Go.RowKit Go.Xw Go.Proofs
open Go.Xp (Tok Nd T)
open Go.Sp (small dO dK bq eL ej dy)
open Go.Im (kW jj b9 fO fu jg jn pe jG l7 oS)
attribute [local irreducible] GW GL GO YG GC GA aS aW
theorem xi (c:UInt8):GF Tryz.prog 172 [Bz c] [] (.v (.bool (dO c))) []:=by
 unfold dO;refine cP Tryz.func172 Tryz.ntmps172 ?_
 cases h:decide ((48:Int)<=(c.toNat:Int))
 all_goals
  exact av
theorem yR (c:UInt8):GF Tryz.prog 174 [Bz c] [] (.v (.bool (small c))) []:=by
 unfold small;refine cP Tryz.func174 Tryz.ntmps174 ?_
 cases h:decide ((97:Int)<=(c.toNat:Int))
 all_goals
  exact av
theorem IA (c:UInt8):GF Tryz.prog 175 [Bz c] [] (.v (.bool (dK c))) []:=by
 unfold dK;have hs:=yR c;have hd:=xi c;generalize small c=b1 at *;generalize dO c=b2 at *;refine ai Tryz.func175 Tryz.ntmps175 ?_;refine fQ [] (hs) ?_
 cases b1 with
 | true =>
  exact av
 | false =>
  cases h1:decide ((65:Int)<=(c.toNat:Int)) with
  | true =>
   cases h2:decide ((c.toNat:Int)<=90) with
   | true =>
    exact av
   | false =>
    refine ab ?_;refine fQ [] (hd) ?_
    cases b2 with
    | true =>
     exact av
    | false =>
     exact av
  | false =>
   refine ab ?_;refine fQ [] (hd) ?_
   cases b2 with
   | true =>
    exact av
   | false =>
    exact av
theorem O2 (test:FuncId) [hf:aB Tryz.prog test] (p:UInt8->Bool) (ht:∀ c,GF Tryz.prog test [Bz c] [] (.v (.bool (p c))) []) (s:ae) (a:Nat) (hs:s.length<=1099511627776) (ha:a<=s.length) :
  GF Tryz.prog 173 [.v (sv s),.v (ii (a:Nat)),.v (.func (.func test) #[] #[])] [] (.v (ii (Go.Sp.run s p (s.length+1) a:Nat))) []:=by
 generalize hR:Go.Sp.run s p (s.length+1) a=R;refine ai Tryz.func173 Tryz.ntmps173 ?_;refine GW.loop (fun x:Nat × Nat=>x.1) (fun x fr Γ=>fr=[.v (sv s),.v (ii (x.2:Nat)),.v (.func (.func test) #[] #[]),.Zy,.Zy,.Zy,.Zy,.Zy,.Zy,.Zy,.Zy,.Zy,.Zy,.Zy,.Zy,.Zy,.Zy,.Zy,.Zy,.Zy,.Zy]/\Γ=[]/\x.2<=s.length/\s.length < x.1+x.2/\Go.Sp.run s p x.1 x.2=R) (s.length+1,a) ?_ ?_
 ·exact ⟨_,_,Wk.ax al,rfl,rfl,ha,by simp only;omega,hR⟩
 ·rintro ⟨f,a⟩ _ _ ⟨rfl,rfl,ha,Xm,h⟩;simp only at ha Xm h
  cases f with
  | zero=>omega
  | succ f =>
  rw [Go.Sp.run] at h
  cases hc:s[a]? with
  | none =>
   rw [hc] at h;simp only at h;subst h;have kO:s.length<=a:=List.getElem?_eq_none_iff.1 hc
   have hd:decide ((a:Int) < (s.length:Int))=false:=by simpa using kO
   refine ab ?_;refine aU ?_;exact av
  | some c =>
   rw [hc] at h;simp only at h;have aq:a < s.length:=(List.getElem?_eq_some_iff.1 hc).1
   have hd:decide ((a:Int) < (s.length:Int))=true:=by simpa using aq
   have lL:=ht c
   cases hdc:p c with
   | false =>
    rw [hdc] at lL;rw [if_neg (by rw [hdc];simp)] at h;subst h;refine ab ?_;refine gR [] (lL) ?_;refine ab ?_;refine aU ?_;exact av
   | true =>
    rw [hdc] at lL;rw [if_pos hdc] at h;refine ab ?_;refine gR [] (lL) ?_;refine ab ?_;exact ⟨(f,a+1),⟨_,_,Wk.ax al,rfl,rfl,aq,by simp only;omega,h⟩,by simp⟩
theorem LB:Go.Lib.asciiSpaceTab=uS:=by decide
theorem JR:Go.Lib.fields [105,110,116,32,118,97,114,32,102,117,110,99,32,105,102,32,101,108,115,101,32,119,104,105,108,101,32,114,101,116,117,114,110,32,124,124,32,38,38,32,61,61,32,33,61,32,60,61,32,62,61,32,60,60,32,62,62,32,40,32,41,32,123,32,125,32,91,32,93,32,44,32,59,32,61,32,60,32,62,32,43,32,45,32,42,32,47,32,37,32,38,32,124,32,94,32,33,32,126]=kW:=by decide +kernel
end Go.Xg
namespace Go.Xg
open Go.RowKit Go.Xw Go.Proofs
open Go.Xp (Tok Nd T)
open Go.Sp (small dO dK bq eL ej dy)
open Go.Im (kW jj b9 fO fu jg jn pe jG l7 oS)
attribute [local irreducible] GW GL GO YG GC GA aS aW
theorem nG.yU {P:Program} {f:FuncId} {vs:List Value} {w:World} {R:Value->World->Prop} (h:Calls P f vs.toArray w fun e w'=>∃ v,e=.returned v/\R v w'):nG P f vs w R:=h
theorem Me:GF Tryz.prog 228 [.v (sv [105,110,116,32,118,97,114,32,102,117,110,99,32,105,102,32,101,108,115,101,32,119,104,105,108,101,32,114,101,116,117,114,110,32,124,124,32,38,38,32,61,61,32,33,61,32,60,61,32,62,61,32,60,60,32,62,62,32,40,32,41,32,123,32,125,32,91,32,93,32,44,32,59,32,61,32,60,32,62,32,43,32,45,32,42,32,47,32,37,32,38,32,124,32,94,32,33,32,126])] [] (strs kW) []:=by
 have:=GF.Wo (P:=Tryz.prog) (f:=228) (vs:=[sv [105,110,116,32,118,97,114,32,102,117,110,99,32,105,102,32,101,108,115,101,32,119,104,105,108,101,32,114,101,116,117,114,110,32,124,124,32,38,38,32,61,61,32,33,61,32,60,61,32,62,61,32,60,60,32,62,62,32,40,32,41,32,123,32,125,32,91,32,93,32,44,32,59,32,61,32,60,32,62,32,43,32,45,32,42,32,47,32,37,32,38,32,124,32,94,32,33,32,126]]) (us:=kW.map sv) (E:=9) fun K β w ht hf=>?_
 ·rw [List.map_map] at this;exact this
 ·obtain ⟨E,z,kE⟩:=rG.all ht hf ht.spc (zs:=uS.map fun z=>Value.int .u8 z) (by decide) (fun m o x hx=>by
   rw [getElem?_map] at hx;unfold vW;rw [if_neg (by decide),if_neg (by decide),if_pos rfl]
   cases hs:uS[o]? with
   | none=>rw [hs] at hx;cases hx
   | some y=>rw [hs] at hx;cases hx;rfl)
  have yL:Go.Lib.TabIs Tryz.prog w "strings.asciiSpace" .u8 Go.Lib.asciiSpaceTab:=by
   unfold Go.Lib.TabIs World.var?;rw [show Tryz.prog.globalNamed "strings.asciiSpace" = some 2 by kernel_rfl,LB];simp only [Option.bind_some,kE]
  have h:=Tryz.strings_Fields_laid ⟨[105,110,116,32,118,97,114,32,102,117,110,99,32,105,102,32,101,108,115,101,32,119,104,105,108,101,32,114,101,116,117,114,110,32,124,124,32,38,38,32,61,61,32,33,61,32,60,61,32,62,61,32,60,60,32,62,62,32,40,32,41,32,123,32,125,32,91,32,93,32,44,32,59,32,61,32,60,32,62,32,43,32,45,32,42,32,47,32,37,32,38,32,124,32,94,32,33,32,126].toArray⟩ w (by decide) (fun j b hb=>by
   have:∀ b∈([105,110,116,32,118,97,114,32,102,117,110,99,32,105,102,32,101,108,115,101,32,119,104,105,108,101,32,114,101,116,117,114,110,32,124,124,32,38,38,32,61,61,32,33,61,32,60,61,32,62,61,32,60,60,32,62,62,32,40,32,41,32,123,32,125,32,91,32,93,32,44,32,59,32,61,32,60,32,62,32,43,32,45,32,42,32,47,32,37,32,38,32,124,32,94,32,33,32,126]:List UInt8),b.toNat < 128:=by decide
   exact this b (mem_of_getElem? hb)) yL
  refine nG.yU (Calls.mono h ?_);rintro e w' ⟨h1,h2⟩;rw [show ((⟨[105,110,116,32,118,97,114,32,102,117,110,99,32,105,102,32,101,108,115,101,32,119,104,105,108,101,32,114,101,116,117,114,110,32,124,124,32,38,38,32,61,61,32,33,61,32,60,61,32,62,61,32,60,60,32,62,62,32,40,32,41,32,123,32,125,32,91,32,93,32,44,32,59,32,61,32,60,32,62,32,43,32,45,32,42,32,47,32,37,32,38,32,124,32,94,32,33,32,126].toArray⟩:ByteArray).data.toList)=[105,110,116,32,118,97,114,32,102,117,110,99,32,105,102,32,101,108,115,101,32,119,104,105,108,101,32,114,101,116,117,114,110,32,124,124,32,38,38,32,61,61,32,33,61,32,60,61,32,62,61,32,60,60,32,62,62,32,40,32,41,32,123,32,125,32,91,32,93,32,44,32,59,32,61,32,60,32,62,32,43,32,45,32,42,32,47,32,37,32,38,32,124,32,94,32,33,32,126] from rfl,JR] at h1 h2;exact ⟨_,h1,by rw [length_map],h2⟩
theorem Ql:GF Tryz.prog 209 [] [] (strs kW) []:=by
 have h:=Me;generalize kW=l at *;refine ai Tryz.func209 Tryz.ntmps209 ?_;refine U [] (h) ?_;exact ao
theorem yO (s:ae):GF Tryz.prog 176 [.v (sv s)] [] (.v (.bool (jj s))) []:=by
 have h:=Ql;have hc:=iH kW s (by decide);unfold jj;generalize kW=l at *;refine ai Tryz.func176 Tryz.ntmps176 ?_;refine U [] (h) ?_;refine U [] (hc) ?_;exact ao
end Go.Xg
namespace Go.Xg
open Go.RowKit Go.Xw Go.Proofs
open Go.Xp (Tok Nd T)
open Go.Sp (small dO dK bq eL ej dy)
open Go.Im (kW jj b9 fO fu jg jn pe jG l7 oS)
attribute [local irreducible] GW GL GO YG GC GA aS aW
theorem NH (s:ae) (a:Nat) (c:UInt8) (hs:s.length<=1099511627776) (hc:s[a]?=some c):GF Tryz.prog 177 [.v (sv s),.v (ii (a:Nat))] [] (.v (sv (fu s a))) []:=by
 have aq:a < s.length:=(List.getElem?_eq_some_iff.1 hc).1;have ij:=yR c;refine ai Tryz.func177 Tryz.ntmps177 ?_;refine GW.loop (fun x:Nat=>x) (fun x fr Γ=>fr=[.v (sv s),.v (ii (a:Nat)),.Zy,.Zy,.Zy,.v (ii (x:Nat)),.Zy,.Zy,.Zy,.Zy,.Zy,.Zy,.Zy,.Zy,.Zy,.Zy,.Zy,.Zy,.Zy,.Zy,.Zy,.Zy,.Zy,.Zy,.Zy,.Zy,.Zy,.Zy,.Zy,.Zy,.Zy,.Zy,.Zy,.Zy,.Zy,.Zy,.Zy,.Zy]/\Γ=[]/\x<=2/\∀ j,x < j->j<=2->fO s a j=false) 2 ?_ ?_
 ·exact ⟨_,_,Wk.ax al,rfl,rfl,Nat.le_refl _,fun j h1 h2=>by omega⟩
 ·rintro x _ _ ⟨rfl,rfl,hx,bV⟩
  have qk:∀ k,x=k+1->fO s a x=false->∀ j,k < j->j<=2->fO s a j=false:=fun k hk ht j h1 h2=>by
   by_cases hj:j=x
   ·rw [hj];exact ht
   ·exact bV j ah h2
  have LS:∀ k,fO s a k=(decide (a+k<=s.length)&&!(small c)&&jj (b9 s a (a+k))):=fun k=>by unfold fO;rw [hc]
  match x,hx,bV,qk with
  | 0,_,bV,_ =>
   have e:fu s a=[]:=by unfold fu;rw [bV 2 ah ah,bV 1 ah ah];rfl
   rw [e];refine ab ?_;refine aU ?_;exact av
  | 1,_,bV,qk =>
   have hle:decide (((a+1:Nat):Int)<=(s.length:Int))=true:=by simpa using by omega
   have hb:a<=a+1/\a+1<=s.length:=by omega
   have ht:=LS 1;rw [show decide (a+1<=s.length)=true from decide_eq_true ah] at ht
   cases hsc:small c with
   | true =>
    rw [hsc] at ij ht;refine ab ?_;refine U [] (ij) ?_;exact ⟨0,⟨_,_,Wk.ax al,rfl,rfl,by omega,qk 0 rfl ht⟩,by omega⟩
   | false =>
    rw [hsc] at ij ht;have dG:=yO (b9 s a (a+1))
    cases hg:jj (b9 s a (a+1)) with
    | false =>
     rw [hg] at dG ht;refine ab ?_;refine U [] (ij) ?_;refine U [] (dG) ?_;exact ⟨0,⟨_,_,Wk.ax al,rfl,rfl,by omega,qk 0 rfl ht⟩,by omega⟩
    | true =>
     rw [hg] at dG ht
     have e:fu s a=b9 s a (a+1):=by unfold fu;rw [bV 2 ah ah,ht];rfl
     rw [e];refine ab ?_;refine U [] (ij) ?_;refine U [] (dG) ?_;exact ao
  | 2,_,bV,qk =>
   have ht:=LS 2
   by_cases jR:a+2<=s.length
   ·have hle:decide (((a+2:Nat):Int)<=(s.length:Int))=true:=by simpa using by omega
    have hb:a<=a+2/\a+2<=s.length:=by omega
    rw [show decide (a+2<=s.length)=true by simpa using jR] at ht
    cases hsc:small c with
    | true =>
     rw [hsc] at ij ht;refine ab ?_;refine U [] (ij) ?_;exact ⟨1,⟨_,_,Wk.ax al,rfl,rfl,by omega,qk 1 rfl ht⟩,by omega⟩
    | false =>
     rw [hsc] at ij ht;have dG:=yO (b9 s a (a+2))
     cases hg:jj (b9 s a (a+2)) with
     | false =>
      rw [hg] at dG ht;refine ab ?_;refine U [] (ij) ?_;refine U [] (dG) ?_;exact ⟨1,⟨_,_,Wk.ax al,rfl,rfl,by omega,qk 1 rfl ht⟩,by omega⟩
     | true =>
      rw [hg] at dG ht
      have e:fu s a=b9 s a (a+2):=by unfold fu;rw [ht];rfl
      rw [e];refine ab ?_;refine U [] (ij) ?_;refine U [] (dG) ?_;exact ao
   ·have hle:decide (((a+2:Nat):Int)<=(s.length:Int))=false:=by simpa using by omega
    rw [show decide (a+2<=s.length)=false by simpa using jR] at ht;refine ab ?_;exact ⟨1,⟨_,_,Wk.ax al,rfl,rfl,by omega,qk 1 rfl ht⟩,by omega⟩
  | n+3,hx,_,_=>omega
def IC (n:Int) (e:Nat) (a:Nat):GV:=if n > 2147483647 then .tup [.agg (cW pe),.v (ii (a:Nat)),.v (ii 3)] else .tup [.agg (cW ⟨1,n,[],a⟩),.v (ii (e:Nat)),.v (ii 0)]
theorem LQ (s:ae) (a:Nat) (c:UInt8) (hs:s.length<=1099511627776) (hc:s[a]?=some c) (hd:dO c=true) :
  GF Tryz.prog 144 [.v (sv s),.v (ii (a:Nat))] [] (IC (jn (b9 s a (jg s a)) 0) (jg s a) a) []:=by
 have aq:a < s.length:=(List.getElem?_eq_some_iff.1 hc).1;have lL:=xi c;rw [hd] at lL;have l0:=O2 172 dO xi s a hs ah;obtain ⟨e1,e2,e3⟩:=Go.Sp.oA s dO (s.length+1) a ah ah;have aM:=Go.Im.Bd s dO (s.length+1) a ah;unfold jg;generalize Go.Sp.run s dO (s.length+1) a=e at *;clear e1;generalize hR:jn (b9 s a e) 0=R;refine ai Tryz.func144 Tryz.ntmps144 ?_;refine U [] (lL) ?_;refine U [] (l0) ?_;refine GW.loop (fun x:Nat × Int=>e - x.1) (fun x fr Γ=>fr=[.v (sv s),.v (ii (a:Nat)),.Zy,.Zy,.loc 0 0,.v (ii 0),.v (ii 0),.Zy,.v (ii (e:Nat)),.v (ii x.2),.v (ii (x.1:Nat)),.Zy,.Zy,.Zy,.Zy,.Zy,.Zy,.Zy,.Zy,.Zy,.Zy,.Zy,.Zy,.Zy,.Zy,.Zy,.Zy,.Zy,.Zy,.Zy,.Zy,.Zy,.Zy,.Zy,.Zy,.Zy,.Zy,.Zy,.Zy,.Zy,.Zy,.Zy,.Zy,.Zy,.Zy,.Zy,.Zy,.Zy,.Zy,.Zy,.Zy,.Zy,.Zy,.Zy,.Zy,.Zy,.Zy,.Zy,.Zy,.Zy,.Zy,.Zy,.Zy,.Zy,.Zy,.Zy,.Zy,.Zy,.Zy,.Zy,.Zy,.Zy,.Zy,.Zy,.Zy,.Zy,.Zy,.Zy,.Zy,.Zy,.Zy]/\Γ=[.box 162 (cW pe)]/\a<=x.1/\x.1<=e/\jn (b9 s x.1 e) x.2=R/\0<=x.2/\x.2<=21474836480) (a,0) ?_ ?_
 ·exact ⟨_,_,Wk.ax al,rfl,rfl,Nat.le_refl _,e2,hR,by simp,by simp⟩
 ·rintro ⟨i,n⟩ _ _ ⟨rfl,rfl,hi,Xu,h,BP,Dw⟩;simp only at hi Xu h BP Dw
  have fin:R=n->True:=fun _=>trivial
  by_cases lZ:i < e
  ·have Kn:decide ((i:Int) < (e:Int))=true:=by simpa using lZ
   by_cases hn:n<=2147483647
   ·have zG:decide (n<=2147483647)=true:=by simpa using hn
    have wA:i < s.length:=by omega
    obtain ⟨d,dk⟩:∃ d,s[i]?=some d:=⟨s[i],by simp [wA]⟩
    have ft:dO d=true:=by
     have:d∈b9 s a e:=by
      unfold b9;rw [List.mem_iff_getElem?];exact ⟨i - a,by rw [List.getElem?_drop,List.getElem?_take,show a+(i - a)=i by omega,if_pos lZ];exact dk⟩
     exact aM d this
    have wJ:(48:Int)<=(d.toNat:Int)/\(d.toNat:Int)<=57:=by
     simp only [dO,Bool.and_eq_true,decide_eq_true_eq] at ft;exact ft
    rw [Go.Im.og dk lZ e3,jn,if_pos hn] at h;refine ab ?_;exact ⟨(i+1,10 * n+((d.toNat:Int) - 48)),⟨_,_,Wk.ax al,rfl,rfl,by simp only;omega,lZ,h,by simp only;omega,by simp only;omega⟩,by simp only;omega⟩
   ·have zG:decide (n<=2147483647)=false:=by simpa using hn
    have ew:R=n:=by
     rw [<-h]
     cases hw:b9 s i e with
     | nil=>rw [jn]
     | cons d r=>rw [jn,if_neg hn]
    rw [ew];clear h ew hR fin
    have bI:decide (2147483647 < n)=true:=by simpa using by omega
    unfold IC;rw [if_pos ah];refine ab ?_;refine aU ?_;refine ab ?_;refine lq ?_;exact ⟨rfl,rfl⟩
  ·have Kn:decide ((i:Int) < (e:Int))=false:=by simpa using by omega
   have ew:R=n:=by
    rw [<-h];have:b9 s i e=[]:=List.eq_nil_of_length_eq_zero (by rw [Go.Im.km e3];omega);rw [this,jn]
   rw [ew];clear h ew hR fin;unfold IC
   by_cases hn:n > 2147483647
   ·have bI:decide (2147483647 < n)=true:=by simpa using hn
    rw [if_pos hn];refine ab ?_;refine aU ?_;refine ab ?_;refine lq ?_;exact ⟨rfl,rfl⟩
   ·have bI:decide (2147483647 < n)=false:=by simpa using hn
    rw [if_neg hn];refine ab ?_;refine aU ?_;refine ab ?_;refine lq ?_;exact ⟨rfl,rfl⟩
theorem QF (s:ae) (a:Nat) (c:UInt8) (hs:s.length<=1099511627776) (hc:s[a]?=some c) :
  GF Tryz.prog 144 [.v (sv s),.v (ii (a:Nat))] [] (.tup [.agg (cW (jG s a c).1),.v (ii ((jG s a c).2.1:Nat)),.v (ii (jG s a c).2.2)]) []:=by
 have aq:a < s.length:=(List.getElem?_eq_some_iff.1 hc).1;have lL:=xi c;have ij:=yR c
 by_cases hd:dO c=true
 ·have h:=LQ s a c hs hc hd;unfold IC at h;unfold jG;rw [if_pos hd];split at h
  ·rename_i hn;rw [if_pos hn];exact h
  ·rename_i hn;rw [if_neg hn];exact h
 ·have Km:dO c=false:=by simpa using hd
  unfold jG;rw [if_neg hd];rw [Km] at lL
  by_cases hsc:small c=true
  ·rw [if_pos hsc];rw [hsc] at ij;have l0:=O2 175 dK IA s a hs ah;obtain ⟨e1,e2,e3⟩:=Go.Sp.oA s dK (s.length+1) a ah ah;have hw:eL s a=(s.take (ej s a)).drop a:=rfl;have dG:=yO (eL s a);unfold ej at hw |-;rw [hw] at dG |-;generalize Go.Sp.run s dK (s.length+1) a=e at *;have hb:a<=e/\e<=s.length:=⟨e2,e3⟩
   cases hg:jj ((s.take e).drop a) with
   | true =>
    rw [hg] at dG;refine ai Tryz.func144 Tryz.ntmps144 ?_;refine U [] (lL) ?_;refine U [] (ij) ?_;refine U [] (l0) ?_;refine U [] (dG) ?_;refine lq ?_;exact ⟨rfl,rfl⟩
   | false =>
    rw [hg] at dG;refine ai Tryz.func144 Tryz.ntmps144 ?_;refine U [] (lL) ?_;refine U [] (ij) ?_;refine U [] (l0) ?_;refine U [] (dG) ?_;refine lq ?_;exact ⟨rfl,rfl⟩
  ·have V9:small c=false:=by simpa using hsc
   rw [if_neg hsc];rw [V9] at ij;have UY:=NH s a c hs hc
   have hlen:(fu s a).length<=2:=by
    have:(fu s a=b9 s a (a+2)\/fu s a=b9 s a (a+1))\/fu s a=[]:=by
     unfold fu;split
     ·exact .inl (.inl rfl)
     ·split
      ·exact .inl (.inr rfl)
      ·exact .inr rfl
    rcases this with (h | h) | h <;> rw [h]
    ·unfold b9;rw [length_drop,length_take];omega
    ·unfold b9;rw [length_drop,length_take];omega
    ·simp
   generalize fu s a=x at *
   by_cases hx:x=[]
   ·have Gv:(x==[])=true:=by simpa using hx
    rw [if_pos hx];refine ai Tryz.func144 Tryz.ntmps144 ?_;refine U [] (lL) ?_;refine U [] (ij) ?_;refine U [] (UY) ?_;refine lq ?_;exact ⟨rfl,rfl⟩
   ·have Gv:(x==[])=false:=by simpa using hx
    rw [if_neg hx];refine ai Tryz.func144 Tryz.ntmps144 ?_;refine U [] (lL) ?_;refine U [] (ij) ?_;refine U [] (UY) ?_;refine lq ?_;exact ⟨rfl,rfl⟩
end Go.Xg
namespace Go.Xg
open Go.RowKit Go.Xw Go.Proofs
open Go.Xp (Tok Nd T)
open Go.Sp (small dO dK bq eL ej dy)
open Go.Im (kW jj b9 fO fu jg jn pe jG l7 oS)
attribute [local irreducible] GW GL GO YG GC GA aS aW
def AQ (x t:ae):Bool:=decide (t.length<=x.length)&&(x.take t.length==t)
theorem HA (x t:ae) (hx:x.length<=1099511627776) (ht:t.length<=1099511627776):GF Tryz.prog 170 [.v (sv x),.v (sv t)] [] (.v (.bool (AQ x t))) []:=by
 unfold AQ
 by_cases h:t.length<=x.length
 ·have h1:decide ((t.length:Int)<=(x.length:Int))=true:=by simpa using h
  rw [decide_eq_true h];refine ai Tryz.func170 Tryz.ntmps170 ?_;exact ao
 ·have h1:decide ((t.length:Int)<=(x.length:Int))=false:=by simpa using by omega
  rw [decide_eq_false h];refine ai Tryz.func170 Tryz.ntmps170 ?_;exact ao
theorem E7 (x t:ae) (hx:x.length<=1099511627776) (ht:t.length<=1099511627776):GF Tryz.prog 142 [.v (sv x),.v (sv t)] [] (.v (.bool (AQ x t))) []:=by
 have h:=HA x t hx ht;generalize AQ x t=b at *;refine ai Tryz.func142 Tryz.ntmps142 ?_;refine U [] (h) ?_;exact ao
theorem Fj {s t:ae} {a:Nat} (ha:a<=s.length):AQ (s.drop a) t=bq s a t:=by
 unfold AQ bq;rw [length_drop,List.drop_take,show a+t.length - a=t.length by omega]
 congr 1
 rw [Bool.eq_iff_iff];simp;omega
theorem E8 (c:UInt8):GF Tryz.prog 141 [.v (sv [32,9,10,13]),Bz c] [] (.v (ii (Go.Lib.indexByte [32,9,10,13] c))) []:=by
 refine GF.So (vs:=[sv [32,9,10,13],.int .u8 (c.toNat:Int)]) fun K β w ht hf=>?_
 refine nG.yU (Calls.mono (Tryz.strings_IndexByte ⟨[32,9,10,13].toArray⟩ (c.toNat:Int) w) ?_);rintro e w' ⟨h1,h2⟩;refine ⟨_,h1,?_,by rw [h2];exact Ext.refl w⟩;simp
theorem Mg (x:ae) (hx:x.length<=4294967280):GF Tryz.prog 143 [.v (sv x),.v (sv [42,47])] [] (.v (ii (Go.Lib.index x [42,47]))) []:=by
 refine GF.So (vs:=[sv x,sv [42,47]]) fun K β w ht hf=>?_
 obtain ⟨m,hm⟩:=ht.maxLen hf;refine nG.yU (Calls.mono (Tryz.strings_Index ⟨x.toArray⟩ ⟨[42,47].toArray⟩ m w (by show (x.toArray).size < _;simp;omega) hm) ?_);rintro e w' ⟨h1,h2⟩;refine ⟨_,h1,?_,by rw [h2];exact Ext.refl w⟩;simp
theorem Mq (c:UInt8):decide ((0:Int)<=Go.Lib.indexByte [32,9,10,13] c)=dy c:=by
 have hb:dy c=((32:UInt8)==c || (9:UInt8)==c || (10:UInt8)==c || (13:UInt8)==c):=by
  have e:∀ k:UInt8,((c.toNat:Int)==(k.toNat:Int))=(k==c):=fun k=>by
   rw [Bool.eq_iff_iff];simp only [beq_iff_eq]
   exact ⟨fun h=>by
    have:c.toNat=k.toNat:=by omega
    exact (UInt8.toNat_inj.1 this).symm,fun h=>by rw [h]⟩
  have e1:=e 32;have e2:=e 9;have e3:=e 10;have e4:=e 13;unfold dy;rw [<-e1,<-e2,<-e3,<-e4];rfl
 rw [hb];unfold Go.Lib.indexByte Go.Lib.indexByte Go.Lib.indexByte Go.Lib.indexByte Go.Lib.indexByte
 cases (32:UInt8)==c <;> cases (9:UInt8)==c <;> cases (10:UInt8)==c <;> cases (13:UInt8)==c <;> decide
theorem KN (l:ae):Go.Lib.index l [42,47]=(match oS l with | none => -1 | some n=>(n:Int)):=by
 induction l with
 | nil=>rfl
 | cons b l ih =>
  rw [Go.Lib.index,oS];split
  ·rfl
  ·rw [ih]
   cases oS l with
   | none=>rfl
   | some n =>
    simp only;rw [if_neg (by simp <;> omega)];simp
theorem Np (s:ae) (f:Nat) (ts:List Tok) (c z:Int) (hs:s.length<=4294967280) (h:l7 s f 0 []=some (ts,c,z)) :
  GF Tryz.prog 113 [.v (sv s)] [] (.tup [gQ ts,.v (ii c),.v (ii z)]) []:=by
 refine ai Tryz.func113 Tryz.ntmps113 ?_;refine GW.wk (Wk.A6 (t:=5) (a:=none) (c:=0) 162 4 rfl) ?_;refine GW.loop (fun x:Nat × Nat × List Tok=>x.1) (fun x fr Γ=>∃ n rows,fr=[.v (sv s),.Zy,.v (.slice none 0 0),.v (ii 0),.v (ii 0),.vec 0 n,.v (ii (x.2.1:Nat)),.Zy,.Zy,.Zy,.Zy,.Zy,.Zy,.Zy,.Zy,.Zy,.Zy,.Zy,.Zy,.Zy,.Zy,.Zy,.Zy,.Zy,.Zy,.Zy,.Zy,.Zy,.Zy,.Zy,.Zy,.Zy,.Zy,.Zy,.Zy,.Zy,.Zy,.Zy,.Zy,.Zy,.Zy,.Zy,.Zy,.Zy,.Zy,.Zy,.Zy,.Zy,.Zy,.Zy,.Zy,.Zy,.Zy,.Zy,.Zy]/\Γ=[.vec 162 4 0 rows]/\rows.length=n/\rows=x.2.2.map cW/\x.2.1<=s.length/\n<=x.2.1/\l7 s x.1 x.2.1 x.2.2=some (ts,c,z)) (f,0,[]) ?_ ?_
 ·exact ⟨_,_,Wk.ax al,0,[],rfl,rfl,rfl,rfl,Nat.zero_le _,Nat.le_refl _,h⟩
 ·clear h;rintro ⟨f,a,acc⟩ _ _ ⟨n,rows,rfl,rfl,hn,bo,ha,Gq,h⟩;simp only at bo ha Gq h
  cases f with
  | zero=>cases h
  | succ f =>
  rw [l7] at h
  cases hc:s[a]? with
  | none =>
   rw [hc] at h;cases h;have kO:s.length<=a:=List.getElem?_eq_none_iff.1 hc
   have hd:decide ((a:Int) < (s.length:Int))=false:=by simpa using kO
   refine ab ?_;refine aU ?_;refine GW.wk (Wk.gD (t:=5) rfl rfl rfl hn) ?_;refine ab ?_;refine Hq ?_;exact ⟨by rw [bo];rfl,rfl⟩
  | some ch =>
   rw [hc] at h;simp only at h;have aq:a < s.length:=(List.getElem?_eq_some_iff.1 hc).1
   have hd:decide ((a:Int) < (s.length:Int))=true:=by simpa using aq
   have Ks:=E8 ch;have oq:=Mq ch
   cases hb:dy ch with
   | true =>
    rw [if_pos hb] at h;rw [hb] at oq;generalize Go.Lib.indexByte [32,9,10,13] ch=ib at *;refine ab ?_;refine U [] (Ks) ?_;refine aU ?_;exact ⟨(f,a+1,acc),⟨_,_,Wk.ax al,n,rows,rfl,rfl,hn,bo,aq,by simp only;omega,h⟩,by simp⟩
   | false =>
    rw [if_neg (by rw [hb];decide)] at h;rw [hb] at oq;generalize Go.Lib.indexByte [32,9,10,13] ch=ib at *;have mD:=E7 (s.drop a) [47,42] (by rw [length_drop];omega) (by decide);rw [Fj ha] at mD
    cases nM:bq s a [47,42] with
    | true =>
     rw [if_pos nM] at h;rw [nM] at mD;have me:=Go.Sp.iJ nM;simp only [List.length_cons,length_nil] at me;have wB:=Mg (s.drop (a+2)) (by rw [length_drop];omega);rw [KN] at wB
     have Kj:a+2<=s.length:=by omega
     cases hi:oS (s.drop (a+2)) with
     | none =>
      rw [hi] at wB h;cases h;refine ab ?_;refine U [] (Ks) ?_;refine U [] (mD) ?_;refine U [] (wB) ?_;refine qc ?_;exact ⟨_,iy,rfl,rfl⟩
     | some e =>
      rw [hi] at wB h;have dP:=Go.Im.AW hi;rw [length_drop] at dP
      have Rz:decide (((e:Nat):Int) < 0)=false:=by simp
      refine ab ?_;refine U [] (Ks) ?_;refine U [] (mD) ?_;refine U [] (wB) ?_;refine aU ?_;exact ⟨(f,a+(e+4),acc),⟨_,_,Wk.ax al,n,rows,rfl,rfl,hn,bo,by simp only;omega,by simp only;omega,h⟩,by simp⟩
    | false =>
     rw [if_neg (by rw [nM];decide)] at h;rw [nM] at mD;have jz:=QF s a ch ah hc
     have eQ:=fun h0=>Go.Im.Ho hc h0
     generalize jG s a ch=R at *;obtain ⟨t,e,code⟩:=R;simp only at jz h eQ
     by_cases h0:code=0
     ·rw [if_neg (by simpa using h0)] at h
      have rS:(code != 0)=false:=by simpa using h0
      obtain ⟨_,_,k3,k4⟩:=eQ h0;refine ab ?_;refine U [] (Ks) ?_;refine U [] (mD) ?_;refine U [] (jz) ?_;refine dX ?_;refine ab ?_;exact ⟨(f,e,acc++[t]),⟨_,_,(Wk.cut (n:=1) (Nat.le_of_ble_eq_true rfl) rfl).trans (Wk.ax al),_,_,rfl,rfl,by simp [hn],by rw [List.map_append,bo];rfl,k4,by simp only;omega,h⟩,by simp⟩
     ·rw [if_pos h0] at h
      have rS:(code != 0)=true:=by simpa using h0
      cases h;refine ab ?_;refine U [] (Ks) ?_;refine U [] (mD) ?_;refine U [] (jz) ?_;refine qc ?_;exact ⟨_,iy,rfl,rfl⟩
end Go.Xg
namespace Go.Xg
open Go.RowKit Go.Xw Go.Proofs
open Go.Xp (Tok Nd T aD ay)
open Go.Sp (Src)
open Go.Im (nt ph tr hY cM fA tL)
attribute [local irreducible] GW GL GO YG GC GA aS aW
theorem M5:∀ (N:Nat) (t:T),aD t<=N->aD t<=1099511627776->GF Tryz.prog 109 [uT t] [] (.v (.bool (fA t))) []:=by
 intro N
 induction N with
 | zero=>intro t h;rw [Go.Xp.eh] at h;omega
 | succ N ih =>
 intro t hN hb;rw [Go.Xp.eh] at hN hb;have eE:=Go.Xp.cK t.kids;have ow:=p8 t.kids;rw [Go.Im.wN,Go.Im.sd];unfold uT;generalize t.n.kind=kd;refine cP Tryz.func109 Tryz.ntmps109 ?_;refine Hs ?_;refine GW.join (fun fr Γ=>fr=[.box [.v (ii kd),.v (ii t.n.at_),.v (ii t.n.n),.v (sv t.n.s),ints t.n.kids,.sl 1 (bT t.kids)] 0,.Zy,.Zy,.Zy,.v (.bool (cM kd t.kids.length)),.Zy,.Zy,.Zy,.Zy,.Zy,.Zy,.Zy,.Zy,.Zy,.Zy,.Zy,.Zy,.Zy,.Zy,.Zy,.Zy,.Zy,.Zy,.Zy,.Zy,.Zy,.Zy,.Zy,.Zy,.Zy,.Zy,.Zy,.Zy,.Zy,.Zy,.Zy,.Zy,.Zy,.Zy,.Zy,.Zy,.Zy,.Zy,.Zy,.Zy,.Zy,.Zy,.Zy,.Zy,.Zy,.Zy,.Zy,.Zy,.Zy,.Zy,.Zy,.Zy,.Zy,.Zy,.Zy,.Zy,.Zy,.Zy,.Zy]/\Γ=[]) ?_ ?_
 ·rw [<-ow];generalize (bT t.kids)=l
  by_cases h1:kd=1
  ·subst h1
   have f1:((1:Int)==1)=true:=by decide
   rw [show cM 1 l.length=((l.length:Int)==0) by unfold cM;simp];refine ab ?_;exact ⟨_,_,Wk.ax al,rfl,rfl⟩
  by_cases h2:kd=2
  ·subst h2
   have f1:((2:Int)==1)=false:=by decide
   have f2:((2:Int)==2)=true:=by decide
   rw [show cM 2 l.length=((l.length:Int)==0) by unfold cM;simp];refine ab ?_;exact ⟨_,_,Wk.ax al,rfl,rfl⟩
  by_cases h4:kd=4
  ·subst h4
   have f1:((4:Int)==1)=false:=by decide
   have f2:((4:Int)==2)=false:=by decide
   have f4:((4:Int)==4)=true:=by decide
   rw [show cM 4 l.length=true by unfold cM;simp];refine ab ?_;exact ⟨_,_,Wk.ax al,rfl,rfl⟩
  by_cases zu:kd=14
  ·subst zu
   have f1:((14:Int)==1)=false:=by decide
   have f2:((14:Int)==2)=false:=by decide
   have f4:((14:Int)==4)=false:=by decide
   have f14:((14:Int)==14)=true:=by decide
   rw [show cM 14 l.length=true by unfold cM;simp];refine ab ?_;exact ⟨_,_,Wk.ax al,rfl,rfl⟩
  by_cases h3:kd=3
  ·subst h3
   have f1:((3:Int)==1)=false:=by decide
   have f2:((3:Int)==2)=false:=by decide
   have f4:((3:Int)==4)=false:=by decide
   have f14:((3:Int)==14)=false:=by decide
   have f3:((3:Int)==3)=true:=by decide
   rw [show cM 3 l.length=((l.length:Int)==1) by unfold cM;simp];refine ab ?_;exact ⟨_,_,Wk.ax al,rfl,rfl⟩
  by_cases h5:kd=5
  ·subst h5
   have f1:((5:Int)==1)=false:=by decide
   have f2:((5:Int)==2)=false:=by decide
   have f4:((5:Int)==4)=false:=by decide
   have f14:((5:Int)==14)=false:=by decide
   have f3:((5:Int)==3)=false:=by decide
   have f5:((5:Int)==5)=true:=by decide
   rw [show cM 5 l.length=((l.length:Int)==1) by unfold cM;simp];refine ab ?_;exact ⟨_,_,Wk.ax al,rfl,rfl⟩
  by_cases h7:kd=7
  ·subst h7
   have f1:((7:Int)==1)=false:=by decide
   have f2:((7:Int)==2)=false:=by decide
   have f4:((7:Int)==4)=false:=by decide
   have f14:((7:Int)==14)=false:=by decide
   have f3:((7:Int)==3)=false:=by decide
   have f5:((7:Int)==5)=false:=by decide
   have f7:((7:Int)==7)=true:=by decide
   rw [show cM 7 l.length=((l.length:Int)==1) by unfold cM;simp];refine ab ?_;exact ⟨_,_,Wk.ax al,rfl,rfl⟩
  by_cases nL:kd=11
  ·subst nL
   have f1:((11:Int)==1)=false:=by decide
   have f2:((11:Int)==2)=false:=by decide
   have f4:((11:Int)==4)=false:=by decide
   have f14:((11:Int)==14)=false:=by decide
   have f3:((11:Int)==3)=false:=by decide
   have f5:((11:Int)==5)=false:=by decide
   have f7:((11:Int)==7)=false:=by decide
   have f11:((11:Int)==11)=true:=by decide
   rw [show cM 11 l.length=((l.length:Int)==1) by unfold cM;simp];refine ab ?_;exact ⟨_,_,Wk.ax al,rfl,rfl⟩
  by_cases nm:kd=12
  ·subst nm
   have f1:((12:Int)==1)=false:=by decide
   have f2:((12:Int)==2)=false:=by decide
   have f4:((12:Int)==4)=false:=by decide
   have f14:((12:Int)==14)=false:=by decide
   have f3:((12:Int)==3)=false:=by decide
   have f5:((12:Int)==5)=false:=by decide
   have f7:((12:Int)==7)=false:=by decide
   have f11:((12:Int)==11)=false:=by decide
   have f12:((12:Int)==12)=true:=by decide
   rw [show cM 12 l.length=((l.length:Int)==1) by unfold cM;simp];refine ab ?_;exact ⟨_,_,Wk.ax al,rfl,rfl⟩
  by_cases eu:kd=13
  ·subst eu
   have f1:((13:Int)==1)=false:=by decide
   have f2:((13:Int)==2)=false:=by decide
   have f4:((13:Int)==4)=false:=by decide
   have f14:((13:Int)==14)=false:=by decide
   have f3:((13:Int)==3)=false:=by decide
   have f5:((13:Int)==5)=false:=by decide
   have f7:((13:Int)==7)=false:=by decide
   have f11:((13:Int)==11)=false:=by decide
   have f12:((13:Int)==12)=false:=by decide
   have f13:((13:Int)==13)=true:=by decide
   rw [show cM 13 l.length=((l.length:Int)==1) by unfold cM;simp];refine ab ?_;exact ⟨_,_,Wk.ax al,rfl,rfl⟩
  by_cases h6:kd=6
  ·subst h6
   have f1:((6:Int)==1)=false:=by decide
   have f2:((6:Int)==2)=false:=by decide
   have f4:((6:Int)==4)=false:=by decide
   have f14:((6:Int)==14)=false:=by decide
   have f3:((6:Int)==3)=false:=by decide
   have f5:((6:Int)==5)=false:=by decide
   have f7:((6:Int)==7)=false:=by decide
   have f11:((6:Int)==11)=false:=by decide
   have f12:((6:Int)==12)=false:=by decide
   have f13:((6:Int)==13)=false:=by decide
   have f6:((6:Int)==6)=true:=by decide
   rw [show cM 6 l.length=((l.length:Int)==2) by unfold cM;simp];refine ab ?_;exact ⟨_,_,Wk.ax al,rfl,rfl⟩
  by_cases h8:kd=8
  ·subst h8
   have f1:((8:Int)==1)=false:=by decide
   have f2:((8:Int)==2)=false:=by decide
   have f4:((8:Int)==4)=false:=by decide
   have f14:((8:Int)==14)=false:=by decide
   have f3:((8:Int)==3)=false:=by decide
   have f5:((8:Int)==5)=false:=by decide
   have f7:((8:Int)==7)=false:=by decide
   have f11:((8:Int)==11)=false:=by decide
   have f12:((8:Int)==12)=false:=by decide
   have f13:((8:Int)==13)=false:=by decide
   have f6:((8:Int)==6)=false:=by decide
   have f8:((8:Int)==8)=true:=by decide
   rw [show cM 8 l.length=((l.length:Int)==2) by unfold cM;simp];refine ab ?_;exact ⟨_,_,Wk.ax al,rfl,rfl⟩
  by_cases ky:kd=10
  ·subst ky
   have f1:((10:Int)==1)=false:=by decide
   have f2:((10:Int)==2)=false:=by decide
   have f4:((10:Int)==4)=false:=by decide
   have f14:((10:Int)==14)=false:=by decide
   have f3:((10:Int)==3)=false:=by decide
   have f5:((10:Int)==5)=false:=by decide
   have f7:((10:Int)==7)=false:=by decide
   have f11:((10:Int)==11)=false:=by decide
   have f12:((10:Int)==12)=false:=by decide
   have f13:((10:Int)==13)=false:=by decide
   have f6:((10:Int)==6)=false:=by decide
   have f8:((10:Int)==8)=false:=by decide
   have f10:((10:Int)==10)=true:=by decide
   rw [show cM 10 l.length=((l.length:Int)==2) by unfold cM;simp];refine ab ?_;exact ⟨_,_,Wk.ax al,rfl,rfl⟩
  by_cases h9:kd=9
  ·subst h9
   have f1:((9:Int)==1)=false:=by decide
   have f2:((9:Int)==2)=false:=by decide
   have f4:((9:Int)==4)=false:=by decide
   have f14:((9:Int)==14)=false:=by decide
   have f3:((9:Int)==3)=false:=by decide
   have f5:((9:Int)==5)=false:=by decide
   have f7:((9:Int)==7)=false:=by decide
   have f11:((9:Int)==11)=false:=by decide
   have f12:((9:Int)==12)=false:=by decide
   have f13:((9:Int)==13)=false:=by decide
   have f6:((9:Int)==6)=false:=by decide
   have f8:((9:Int)==8)=false:=by decide
   have f10:((9:Int)==10)=false:=by decide
   have f9:((9:Int)==9)=true:=by decide
   cases hq:((l.length:Int)==2) with
   | true =>
    rw [show cM 9 l.length=true by unfold cM;simp [hq]];refine ab ?_;exact ⟨_,_,Wk.ax al,rfl,rfl⟩
   | false =>
    rw [show cM 9 l.length=((l.length:Int)==3) by unfold cM;simp [hq]];refine ab ?_;exact ⟨_,_,Wk.ax al,rfl,rfl⟩
  have e:cM kd l.length=false:=by unfold cM;simp [h1,h2,h4,zu,h3,h5,h7,nL,nm,eu,h6,h8,ky,h9]
  rw [e]
  have g1:(kd==1)=false:=by simpa using h1
  have g2:(kd==2)=false:=by simpa using h2
  have g4:(kd==4)=false:=by simpa using h4
  have g14:(kd==14)=false:=by simpa using zu
  have g3:(kd==3)=false:=by simpa using h3
  have g5:(kd==5)=false:=by simpa using h5
  have g7:(kd==7)=false:=by simpa using h7
  have g11:(kd==11)=false:=by simpa using nL
  have g12:(kd==12)=false:=by simpa using nm
  have g13:(kd==13)=false:=by simpa using eu
  have g6:(kd==6)=false:=by simpa using h6
  have g8:(kd==8)=false:=by simpa using h8
  have g10:(kd==10)=false:=by simpa using ky
  have g9:(kd==9)=false:=by simpa using h9
  refine ab ?_;exact ⟨_,_,Wk.ax al,rfl,rfl⟩
 ·rintro _ _ ⟨rfl,rfl⟩;generalize cM kd t.kids.length=b0;refine ab ?_;refine GW.range (bT t.kids).length (fun k fr Γ=>fr=[.Zy,.Zy,.Zy,.Zy,.v (.bool (b0&&(t.kids.take k).all fA)),.Zy,.Zy,.Zy,.Zy,.Zy,.Zy,.Zy,.Zy,.Zy,.Zy,.Zy,.Zy,.Zy,.Zy,.Zy,.Zy,.Zy,.Zy,.Zy,.Zy,.Zy,.Zy,.Zy,.Zy,.Zy,.Zy,.Zy,.Zy,.Zy,.Zy,.Zy,.Zy,.Zy,.Zy,.Zy,.Zy,.Zy,.Zy,.Zy,.Zy,.Zy,.Zy,.Zy,.Zy,.Zy,.Zy,.sl 1 (bT t.kids),.v (ii ((bT t.kids).length:Int)),.v (ii (k:Nat)),.Zy,.Zy,.Zy,.Zy,.Zy,.Zy,.Zy,.Zy,.Zy,.Zy]/\Γ=[]) ?_ ah ?_ ?_ ?_
  ·refine ⟨_,_,Wk.ax (bQ:=[.Zy,.Zy,.Zy,.Zy,.v (.bool b0),.Zy,.Zy,.Zy,.Zy,.Zy,.Zy,.Zy,.Zy,.Zy,.Zy,.Zy,.Zy,.Zy,.Zy,.Zy,.Zy,.Zy,.Zy,.Zy,.Zy,.Zy,.Zy,.Zy,.Zy,.Zy,.Zy,.Zy,.Zy,.Zy,.Zy,.Zy,.Zy,.Zy,.Zy,.Zy,.Zy,.Zy,.Zy,.Zy,.Zy,.Zy,.Zy,.Zy,.Zy,.Zy,.Zy,.sl 1 (bT t.kids),.v (ii ((bT t.kids).length:Int)),.v (ii (0:Nat)),.Zy,.Zy,.Zy,.Zy,.Zy,.Zy,.Zy,.Zy,.Zy,.Zy]) al,?_,rfl⟩;rw [List.take_zero,List.all_nil,Bool.and_true]
  ·rintro k _ _ ⟨rfl,rfl⟩;exact ⟨rfl,rfl,rfl⟩
  ·rintro k _ _ aq ⟨rfl,rfl⟩;rw [ow] at aq;obtain ⟨wO,jD⟩:∃ wO,t.kids[k]?=some wO:=⟨t.kids[k],by simp [aq]⟩;have hr:=uP jD;have b8:=Go.Xp.tQ jD;have hle:=Go.Xp.tP t.kids (k+1);have BO:=ih wO ah ah
   have aM:(t.kids.take (k+1)).all fA=((t.kids.take k).all fA&&fA wO):=by rw [take_add_one,jD,List.all_append];simp
   rw [aM,<-Bool.and_assoc];generalize (b0&&(t.kids.take k).all fA)=b at *
   cases b with
   | true =>
    refine ab ?_;refine U [] (BO) ?_;exact ⟨rfl,rfl,_,_,Wk.ax al,rfl,rfl⟩
   | false =>
    refine ab ?_;exact ⟨rfl,rfl,_,_,Wk.ax al,rfl,rfl⟩
  ·rintro _ _ ⟨rfl,rfl⟩;rw [ow,take_length];exact av
def vA (l:List T):Int:=match l.findIdx? (fun t=>!(fA t)) with | some i=>(i:Int) | none => -1
theorem KP (t:T) (hb:aD t<=1099511627776):GF Tryz.prog 108 [uT t] [] (.v (.bool (!(fA t)))) []:=by
 have h:=M5 _ t (Nat.le_refl _) hb;generalize fA t=b at *;refine ai Tryz.func108 Tryz.ntmps108 ?_;refine U [] (h) ?_;exact ao
theorem Fa (l:List T) (hl:l.length<=1099511627776) (hb:∀ t∈l,aD t<=1099511627776) :
  GF Tryz.prog 133 [.sl 1 (bT l),.v (.func (.func 108) #[] #[])] [] (.v (ii (vA l))) []:=by
 have ow:=p8 l;refine ai Tryz.func133 Tryz.ntmps133 ?_;refine GW.range (bT l).length (fun k fr Γ=>fr=[.sl 1 (bT l),.v (.func (.func 108) #[] #[]),.Zy,.Zy,.Zy,.Zy,.Zy,.v (ii ((bT l).length:Int)),.v (ii (k:Nat)),.Zy,.Zy,.Zy,.Zy,.Zy,.Zy,.Zy,.Zy,.Zy,.Zy]/\Γ=[]/\(l.take k).all fA=true) ?_ ah ?_ ?_ ?_
 ·exact ⟨_,_,Wk.ax al,rfl,rfl,rfl⟩
 ·rintro k _ _ ⟨rfl,rfl,_⟩;exact ⟨rfl,rfl,rfl⟩
 ·rintro k _ _ aq ⟨rfl,rfl,aM⟩;rw [ow] at aq
  have cz:l[k]?=some l[k]:=by simp [aq]
  have hr:=uP cz;have bV:=KP l[k] (hb _ (List.getElem_mem aq))
  have bp:(l.take (k+1)).all fA=((l.take k).all fA&&fA l[k]):=by rw [take_add_one,cz,List.all_append];simp
  have x5:fA l[k]=false->vA l=(k:Int):=fun h0=>by
   have:l.findIdx? (fun t=>!(fA t))=some k:=by
    rw [List.findIdx?_eq_some_iff_getElem];refine ⟨aq,by simp [h0],fun j hj=>?_⟩;rw [all_eq_true] at aM;have:=aM l[j] (by rw [List.mem_take_iff_getElem];exact ⟨j,by omega,rfl⟩);simp [this]
   unfold vA;rw [this]
  generalize l[k]=t at *
  cases hk:fA t with
  | true =>
   rw [hk] at bV bp;refine ab ?_;refine gR [] (bV) ?_;refine ab ?_;exact ⟨rfl,rfl,_,_,Wk.ax al,rfl,rfl,by rw [bp,aM];rfl⟩
  | false =>
   rw [hk] at bV;rw [x5 hk];refine ab ?_;refine gR [] (bV) ?_;exact av
 ·rintro _ _ ⟨rfl,rfl,aM⟩;rw [ow,take_length] at aM
  have:l.findIdx? (fun t=>!(fA t))=none:=by
   rw [List.findIdx?_eq_none_iff];intro x hx;rw [all_eq_true] at aM;simp [aM x hx]
  unfold vA;rw [this];exact av
theorem Nu (l:List T):decide ((0:Int)<=vA l)=!(l.all fA):=by
 unfold vA
 cases h:l.findIdx? (fun t=>!(fA t)) with
 | some i =>
  rw [List.findIdx?_eq_some_iff_getElem] at h;obtain ⟨h1,h2,_⟩:=h
  have:l.all fA=false:=by
   rw [List.all_eq_false];exact ⟨l[i],List.getElem_mem _,by simpa using h2⟩
  rw [this];simp
 | none =>
  rw [List.findIdx?_eq_none_iff] at h
  have:l.all fA=true:=by rw [all_eq_true];intro x hx;simpa using h x hx
  rw [this];rfl
theorem tS (l:List T) (hl:l.length<=1099511627776) (hb:∀ t∈l,aD t<=1099511627776) :
  GF Tryz.prog 107 [.sl 1 (bT l),.v (.func (.func 108) #[] #[])] [] (.v (.bool (!(l.all fA)))) []:=by
 have h:=Fa l hl hb;rw [<-Nu];generalize vA l=z at *;refine ai Tryz.func107 Tryz.ntmps107 ?_;refine U [] (h) ?_;exact ao
end Go.Xg
set_option maxHeartbeats 2000000
namespace Go.Xg
open Go.RowKit Go.Xw Go.Proofs
open Go.Xp (Tok Nd T Ar aD ay dV)
open Go.Sp (Src)
open Go.Im
attribute [local irreducible] GW GL GO YG GC GA aS aW
theorem N8:Wr 111 112 cD fb :=
 ⟨fun a h1 h2 h3=>QB _ a (Nat.le_refl _) h1 h2 h3,fun l d h1 h2 h3=>MZ l d h1 h2,fun l d s h=>M0 h⟩
theorem CQ (p:Src) (h:p.nodes.length > 800):GF Tryz.prog 92 [.agg (ar p)] [] (.v (.bool false)) []:=by
 have hm:(p.nodes.map aw).length=p.nodes.length:=by simp
 have hd:decide ((800:Int) < ((p.nodes.map aw).length:Int))=true:=by rw [hm];simpa using by omega
 refine ai Tryz.func92 Tryz.ntmps92 ?_;exact ao
theorem Am (p:Src) (h:p.nodes.length<=800) (hk:∀ n∈p.nodes,n.kids.length<=1099511627776) (hf:p.fns.length<=1099511627776) (hb:hY p.nodes p.fns 0 []=none):GF Tryz.prog 92 [.agg (ar p)] [] (.v (.bool false)) []:=by
 have hm:(p.nodes.map aw).length=p.nodes.length:=by simp
 have hd:decide ((800:Int) < ((p.nodes.map aw).length:Int))=false:=by rw [hm];simpa using by omega
 have hB:=u7 p ah hk hf;rw [hb] at hB;unfold Ay at hB;refine ai Tryz.func92 Tryz.ntmps92 ?_;refine U [] (hB) ?_;exact ao
theorem EZ (p:Src) (l:List T) (e:Nat) (h:p.nodes.length<=800) (hk:∀ n∈p.nodes,n.kids.length<=1099511627776) (hf:p.fns.length<=1099511627776) (hb:hY p.nodes p.fns 0 []=some (l,e)) (he:e≠p.nodes.length):GF Tryz.prog 92 [.agg (ar p)] [] (.v (.bool false)) []:=by
 have hm:(p.nodes.map aw).length=p.nodes.length:=by simp
 have hd:decide ((800:Int) < ((p.nodes.map aw).length:Int))=false:=by rw [hm];simpa using by omega
 have hB:=u7 p ah hk hf;rw [hb] at hB;unfold Ay at hB;simp only at hB;rw [show ((e:Int)==(p.nodes.length:Int))=false by simp only [beq_eq_false_iff_ne,ne_eq];omega] at hB;refine ai Tryz.func92 Tryz.ntmps92 ?_;refine U [] (hB) ?_;exact ao
theorem CP (p:Src) (l:List T) (h:p.nodes.length<=800) (hk:∀ n∈p.nodes,n.kids.length<=1099511627776) (hf:p.fns.length<=1099511627776) (hb:hY p.nodes p.fns 0 []=some (l,p.nodes.length)) (hl:l.length<=1099511627776) (hs:∀ t∈l,aD t<=1099511627776) (hn:l.all fA=false):GF Tryz.prog 92 [.agg (ar p)] [] (.v (.bool false)) []:=by
 have hm:(p.nodes.map aw).length=p.nodes.length:=by simp
 have hd:decide ((800:Int) < ((p.nodes.map aw).length:Int))=false:=by rw [hm];simpa using by omega
 have hB:=u7 p ah hk hf;rw [hb] at hB;unfold Ay at hB;simp only at hB;rw [show ((p.nodes.length:Int)==(p.nodes.length:Int))=true by simp] at hB;have hC:=tS l hl hs;rw [hn] at hC;refine ai Tryz.func92 Tryz.ntmps92 ?_;refine U [] (hB) ?_;refine U [] (hC) ?_;exact ao
theorem Lu (st:PS) (h:st.fns.length=st.trees.length):mn st.fns st.trees st.trees.length=(nW st).map au:=by
 unfold mn nW;apply ext_getElem?;intro i;rw [getElem?_map,getElem?_mapIdx,getElem?_mapIdx]
 cases hx:st.fns[i]? with
 | none=>rfl
 | some x =>
  have hi:=(List.getElem?_eq_some_iff.1 hx).1;simp only [Option.map_some];rw [if_pos ah];rfl
def O3 (st:PS):Src:=⟨st.globals,st.arrays,nW st,dV 0 st.trees⟩
theorem SH {q:Go.Sp.RS} {st:PS} (hc:q.code=0) (h8:¬ ay st.trees > 800) (h:st.fns.length=st.trees.length):G6 q st=.tup [.agg (ar (O3 st)),.v (ii 0),.v (ii 0)]:=by
 unfold G6;rw [if_pos hc,if_neg h8,Lu st h];rfl
theorem E0 (p:Src) (l:List T) (x:ae) (ts:List Tok) (c z:Int) (h:p.nodes.length<=800) (hB:GF Tryz.prog 106 [.agg (ar p)] [] (.tup [.sl 1 (bT l),.v (.bool true)]) [])
  (hC:GF Tryz.prog 107 [.sl 1 (bT l),.v (.func (.func 108) #[] #[])] [] (.v (.bool false)) [])
  (hL:GF Tryz.prog 110 [.agg (ar p),.sl 1 (bT l),.v (gU 111),.v (gU 112)] [] (.v (sv x)) [])
  (hX:GF Tryz.prog 113 [.v (sv x)] [] (.tup [gQ ts,.v (ii c),.v (ii z)]) []) (hc:(c != 0)=true) :
  GF Tryz.prog 92 [.agg (ar p)] [] (.v (.bool false)) []:=by
 have hm:(p.nodes.map aw).length=p.nodes.length:=by simp
 have hd:decide ((800:Int) < ((p.nodes.map aw).length:Int))=false:=by rw [hm];simpa using by omega
 refine ai Tryz.func92 Tryz.ntmps92 ?_;refine U [] (hB) ?_;refine U [] (hC) ?_;refine U [] (hL) ?_;refine U [] (hX) ?_;exact ao
theorem xN (p:Src) (l:List T) (x:ae) (ts:List Tok) (c k a:Int) (h:p.nodes.length<=800) (hB:GF Tryz.prog 106 [.agg (ar p)] [] (.tup [.sl 1 (bT l),.v (.bool true)]) [])
  (hC:GF Tryz.prog 107 [.sl 1 (bT l),.v (.func (.func 108) #[] #[])] [] (.v (.bool false)) [])
  (hL:GF Tryz.prog 110 [.agg (ar p),.sl 1 (bT l),.v (gU 111),.v (gU 112)] [] (.v (sv x)) [])
  (hX:GF Tryz.prog 113 [.v (sv x)] [] (.tup [gQ ts,.v (ii 0),.v (ii c)]) [])
  (hP:GF Tryz.prog 114 [gQ ts,.v (ii (x.length:Int))] [] (.tup [.agg [.sl 1 [],.sl 2 [],.sl 3 [],.sl 5 []],.v (ii k),.v (ii a)]) []) (hk:(k==0)=false) :
  GF Tryz.prog 92 [.agg (ar p)] [] (.v (.bool false)) []:=by
 have hm:(p.nodes.map aw).length=p.nodes.length:=by simp
 have hd:decide ((800:Int) < ((p.nodes.map aw).length:Int))=false:=by rw [hm];simpa using by omega
 refine ai Tryz.func92 Tryz.ntmps92 ?_;refine U [] (hB) ?_;refine U [] (hC) ?_;refine U [] (hL) ?_;refine U [] (hX) ?_;refine U [] (hP) ?_;exact ao
theorem Hw (p r:Src) (l:List T) (x:ae) (ts:List Tok) (c:Int) (h:p.nodes.length<=800) (hB:GF Tryz.prog 106 [.agg (ar p)] [] (.tup [.sl 1 (bT l),.v (.bool true)]) [])
  (hC:GF Tryz.prog 107 [.sl 1 (bT l),.v (.func (.func 108) #[] #[])] [] (.v (.bool false)) [])
  (hL:GF Tryz.prog 110 [.agg (ar p),.sl 1 (bT l),.v (gU 111),.v (gU 112)] [] (.v (sv x)) [])
  (hX:GF Tryz.prog 113 [.v (sv x)] [] (.tup [gQ ts,.v (ii 0),.v (ii c)]) [])
   (hg:GF Tryz.prog 115 [strs p.globals,strs r.globals] [] (.v (.bool false)) [])
  (hP:GF Tryz.prog 114 [gQ ts,.v (ii (x.length:Int))] [] (.tup [.agg (ar r),.v (ii 0),.v (ii 0)]) []) :
  GF Tryz.prog 92 [.agg (ar p)] [] (.v (.bool false)) []:=by
 have hm:(p.nodes.map aw).length=p.nodes.length:=by simp
 have hd:decide ((800:Int) < ((p.nodes.map aw).length:Int))=false:=by rw [hm];simpa using by omega
 refine ai Tryz.func92 Tryz.ntmps92 ?_;refine U [] (hB) ?_;refine U [] (hC) ?_;refine U [] (hL) ?_;refine U [] (hX) ?_;refine U [] (hP) ?_;refine U [] (hg) ?_;exact ao
theorem Hx (p r:Src) (l:List T) (x:ae) (ts:List Tok) (c:Int) (h:p.nodes.length<=800) (hB:GF Tryz.prog 106 [.agg (ar p)] [] (.tup [.sl 1 (bT l),.v (.bool true)]) [])
  (hC:GF Tryz.prog 107 [.sl 1 (bT l),.v (.func (.func 108) #[] #[])] [] (.v (.bool false)) [])
  (hL:GF Tryz.prog 110 [.agg (ar p),.sl 1 (bT l),.v (gU 111),.v (gU 112)] [] (.v (sv x)) [])
  (hX:GF Tryz.prog 113 [.v (sv x)] [] (.tup [gQ ts,.v (ii 0),.v (ii c)]) [])
   (hg:GF Tryz.prog 115 [strs p.globals,strs r.globals] [] (.v (.bool true)) [])
  (ha:GF Tryz.prog 116 [(.sl 2 (p.arrays.map fun s=>az s)),(.sl 2 (r.arrays.map fun s=>az s))] [] (.v (.bool false)) [])
  (hP:GF Tryz.prog 114 [gQ ts,.v (ii (x.length:Int))] [] (.tup [.agg (ar r),.v (ii 0),.v (ii 0)]) []) :
  GF Tryz.prog 92 [.agg (ar p)] [] (.v (.bool false)) []:=by
 have hm:(p.nodes.map aw).length=p.nodes.length:=by simp
 have hd:decide ((800:Int) < ((p.nodes.map aw).length:Int))=false:=by rw [hm];simpa using by omega
 refine ai Tryz.func92 Tryz.ntmps92 ?_;refine U [] (hB) ?_;refine U [] (hC) ?_;refine U [] (hL) ?_;refine U [] (hX) ?_;refine U [] (hP) ?_;refine U [] (hg) ?_;refine U [] (ha) ?_;exact ao
theorem Hy (p r:Src) (l:List T) (x:ae) (ts:List Tok) (c:Int) (h:p.nodes.length<=800) (hB:GF Tryz.prog 106 [.agg (ar p)] [] (.tup [.sl 1 (bT l),.v (.bool true)]) [])
  (hC:GF Tryz.prog 107 [.sl 1 (bT l),.v (.func (.func 108) #[] #[])] [] (.v (.bool false)) [])
  (hL:GF Tryz.prog 110 [.agg (ar p),.sl 1 (bT l),.v (gU 111),.v (gU 112)] [] (.v (sv x)) [])
  (hX:GF Tryz.prog 113 [.v (sv x)] [] (.tup [gQ ts,.v (ii 0),.v (ii c)]) [])
   (hg:GF Tryz.prog 115 [strs p.globals,strs r.globals] [] (.v (.bool true)) [])
  (ha:GF Tryz.prog 116 [(.sl 2 (p.arrays.map fun s=>az s)),(.sl 2 (r.arrays.map fun s=>az s))] [] (.v (.bool true)) [])
  (hf:GF Tryz.prog 117 [.sl 3 (p.fns.map au),.sl 3 (r.fns.map au),.v (.func (.func 118) #[] #[])] [] (.v (.bool false)) [])
  (hP:GF Tryz.prog 114 [gQ ts,.v (ii (x.length:Int))] [] (.tup [.agg (ar r),.v (ii 0),.v (ii 0)]) []) :
  GF Tryz.prog 92 [.agg (ar p)] [] (.v (.bool false)) []:=by
 have hm:(p.nodes.map aw).length=p.nodes.length:=by simp
 have hd:decide ((800:Int) < ((p.nodes.map aw).length:Int))=false:=by rw [hm];simpa using by omega
 refine ai Tryz.func92 Tryz.ntmps92 ?_;refine U [] (hB) ?_;refine U [] (hC) ?_;refine U [] (hL) ?_;refine U [] (hX) ?_;refine U [] (hP) ?_;refine U [] (hg) ?_;refine U [] (ha) ?_;refine U [] (hf) ?_;exact ao
theorem Hz (p r:Src) (l:List T) (x:ae) (ts:List Tok) (c:Int) (b:Bool) (h:p.nodes.length<=800) (hB:GF Tryz.prog 106 [.agg (ar p)] [] (.tup [.sl 1 (bT l),.v (.bool true)]) [])
  (hC:GF Tryz.prog 107 [.sl 1 (bT l),.v (.func (.func 108) #[] #[])] [] (.v (.bool false)) [])
  (hL:GF Tryz.prog 110 [.agg (ar p),.sl 1 (bT l),.v (gU 111),.v (gU 112)] [] (.v (sv x)) [])
  (hX:GF Tryz.prog 113 [.v (sv x)] [] (.tup [gQ ts,.v (ii 0),.v (ii c)]) [])
   (hg:GF Tryz.prog 115 [strs p.globals,strs r.globals] [] (.v (.bool true)) [])
  (ha:GF Tryz.prog 116 [(.sl 2 (p.arrays.map fun s=>az s)),(.sl 2 (r.arrays.map fun s=>az s))] [] (.v (.bool true)) [])
  (hf:GF Tryz.prog 117 [.sl 3 (p.fns.map au),.sl 3 (r.fns.map au),.v (.func (.func 118) #[] #[])] [] (.v (.bool true)) [])
  (hn:GF Tryz.prog 119 [.sl 5 (p.nodes.map aw),.sl 5 (r.nodes.map aw),.v (.func (.func 120) #[] #[])] [] (.v (.bool b)) [])
  (hP:GF Tryz.prog 114 [gQ ts,.v (ii (x.length:Int))] [] (.tup [.agg (ar r),.v (ii 0),.v (ii 0)]) []) :
  GF Tryz.prog 92 [.agg (ar p)] [] (.v (.bool b)) []:=by
 have hm:(p.nodes.map aw).length=p.nodes.length:=by simp
 have hd:decide ((800:Int) < ((p.nodes.map aw).length:Int))=false:=by rw [hm];simpa using by omega
 refine ai Tryz.func92 Tryz.ntmps92 ?_;refine U [] (hB) ?_;refine U [] (hC) ?_;refine U [] (hL) ?_;refine U [] (hX) ?_;refine U [] (hP) ?_;refine U [] (hg) ?_;refine U [] (ha) ?_;refine U [] (hf) ?_;refine U [] (hn) ?_;exact ao
theorem CR (p r:Src) (l:List T) (x:ae) (ts:List Tok) (c:Int) (b1 b2 b3 b4:Bool) (h:p.nodes.length<=800) (hB:GF Tryz.prog 106 [.agg (ar p)] [] (.tup [.sl 1 (bT l),.v (.bool true)]) [])
  (hC:GF Tryz.prog 107 [.sl 1 (bT l),.v (.func (.func 108) #[] #[])] [] (.v (.bool false)) [])
  (hL:GF Tryz.prog 110 [.agg (ar p),.sl 1 (bT l),.v (gU 111),.v (gU 112)] [] (.v (sv x)) [])
  (hX:GF Tryz.prog 113 [.v (sv x)] [] (.tup [gQ ts,.v (ii 0),.v (ii c)]) [])
  (hg:GF Tryz.prog 115 [strs p.globals,strs r.globals] [] (.v (.bool b1)) [])
  (ha:GF Tryz.prog 116 [(.sl 2 (p.arrays.map fun s=>az s)),(.sl 2 (r.arrays.map fun s=>az s))] [] (.v (.bool b2)) [])
  (hf:GF Tryz.prog 117 [.sl 3 (p.fns.map au),.sl 3 (r.fns.map au),.v (.func (.func 118) #[] #[])] [] (.v (.bool b3)) [])
  (hn:GF Tryz.prog 119 [.sl 5 (p.nodes.map aw),.sl 5 (r.nodes.map aw),.v (.func (.func 120) #[] #[])] [] (.v (.bool b4)) [])
  (hP:GF Tryz.prog 114 [gQ ts,.v (ii (x.length:Int))] [] (.tup [.agg (ar r),.v (ii 0),.v (ii 0)]) []) :
  GF Tryz.prog 92 [.agg (ar p)] [] (.v (.bool (b1&&(b2&&(b3&&b4))))) []:=by
 cases b1 with
 | false=>exact Hw p r l x ts c h hB hC hL hX hg hP
 | true =>
  cases b2 with
  | false=>exact Hx p r l x ts c h hB hC hL hX hg ha hP
  | true =>
   cases b3 with
   | false=>exact Hy p r l x ts c h hB hC hL hX hg ha hf hP
   | true=>exact Hz p r l x ts c b4 h hB hC hL hX hg ha hf hn hP
end Go.Xg
set_option maxHeartbeats 1000000
namespace Go.Xg
open Go.RowKit Go.Xw Go.Proofs
open Go.Xp (Tok Nd T Ar aD ay dV)
open Go.Sp (Src)
open Go.Im
attribute [local irreducible] GW GL GO YG GC GA aS aW
theorem JZ {st:PS} {f:Go.Sp.Fn} (h:f∈nW st):∃ x∈st.fns,f.params=x.2:=by
 unfold nW at h;obtain ⟨i,hi⟩:=List.getElem?_of_mem h;rw [getElem?_mapIdx] at hi
 cases hx:st.fns[i]? with
 | none=>rw [hx] at hi;cases hi
 | some x=>rw [hx] at hi;cases hi;exact ⟨x,mem_of_getElem? hx,rfl⟩
theorem Je (p:Src) (hw:ek p<=1048576) (hn:rE p):GF Tryz.prog 92 [.agg (ar p)] [] (.v (.bool (fI p))) []:=by
 obtain ⟨⟨s1,s2⟩,⟨s3,s4⟩,⟨s5,s6⟩,⟨s7,s8⟩⟩:=ja p
 have eE:∀ n∈p.nodes,n.kids.length<=1099511627776:=fun n h=>by have:=(s8 n h).2;omega
 have hB:=u7 p ah eE ah;unfold fI
 by_cases h8:p.nodes.length > 800
 ·rw [if_pos h8];exact CQ p h8
 rw [if_neg h8]
 cases hb:hY p.nodes p.fns 0 [] with
 | none=>exact Am p ah eE ah hb
 | some y =>
  obtain ⟨l,e⟩:=y;simp only
  by_cases he:e≠p.nodes.length
  ·rw [if_pos he];exact EZ p l e ah eE ah hb he
  rw [if_neg he]
  have he:e=p.nodes.length:=by simpa using he
  subst he;obtain ⟨l',h1,h2,h3,h4,h5⟩:=Az _ _ _ _ _ hb;rw [nil_append] at h1;subst h1
  have hz:ay l=p.nodes.length:=by omega
  have YN:=PT hn h2 hz;have ow:=EJ h2 hz;have ov:=ff.len h3;have V5:=di.num hn.nodes l 0 h2
  by_cases hk:l.all fA=false
  ·rw [if_pos hk];exact CP p l ah eE ah hb ah (fun t ht=>by have:=(ow t ht).2;omega) hk
  rw [if_neg hk]
  have hk:l.all fA=true:=by simpa using hk
  obtain ⟨ts,c,z,q,st,hr⟩:=reads (l6 cD fb p l);rw [yX hr];rw [hb] at hB;unfold Ay at hB;simp only at hB;rw [show ((p.nodes.length:Int)==(p.nodes.length:Int))=true by simp] at hB;have hC:=tS l ah (fun t ht=>by have:=(ow t ht).2;omega);rw [hk] at hC;have hL:=Nc 111 112 cD fb N8 p l ah ah ah ah ah hn.arrays (fun f h=>by have:=(s6 f h).2.1;omega)
   (fun t ht=>⟨List.all_eq_true.1 hk t ht,iV V5 ht,by have:=(ow t ht).1;omega,by have:=(ow t ht).2;omega⟩)
  have hX:=Np _ _ ts c z ah hr.lex;have Y6:=hr.len;have hP:=FA ts (((l6 cD fb p l).length:Nat):Int) q st ah ah (fun h=>by have:=(hr.ok h).2;omega) hr.read;have ij:=KL _ _ _ _ _ _ (Nat.le_refl _) hr.read ⟨Nat.zero_le _,Nat.zero_le _,Nat.zero_le _,fun x h=>by cases h⟩;have eQ:=hr.ok;clear hr hb;generalize Zq:l6 cD fb p l=x at *
  by_cases hc:c≠0
  ·rw [if_pos hc];exact E0 p l x ts c z ah hB hC hL hX (by simpa using hc)
  rw [if_neg hc]
  have hc:c=0:=by simpa using hc
  subst hc
  by_cases hq:q.code≠0
  ·rw [if_pos hq];unfold G6 at hP;rw [if_neg hq] at hP;exact xN p l x ts z q.code q.at_ ah hB hC hL hX hP (by simpa using hq)
  rw [if_neg hq]
  have hq:q.code=0:=by simpa using hq
  obtain ⟨BS,KD⟩:=eQ hq
  by_cases h9:ay st.trees > 800
  ·rw [if_pos h9];unfold G6 at hP;rw [if_pos hq,if_pos h9] at hP;exact xN p l x ts z 10 0 ah hB hC hL hX hP (by decide)
  rw [if_neg h9];rw [SH hq h9 BS.len] at hP;obtain ⟨m1,m2,m3,m4⟩:=ij
  have iP:(dV 0 st.trees).length<=800:=by rw [Go.Xp.xm];omega
  unfold same;refine CR p (O3 st) l x ts z _ _ _ _ ah hB hC hL hX ?_ ?_ ?_ ?_ hP
  ·exact FI _ _ ah (by show st.globals.length<=_;omega)
  ·exact Pe _ _ ah (by show st.arrays.length<=_;omega)
  ·refine EX p.fns (nW st) ah ?_ (fun f h=>by have:=(s6 f h).2.1;omega) (fun f h=>?_)
   ·unfold nW;rw [List.length_mapIdx];omega
   ·obtain ⟨y,hy,h6⟩:=JZ h;rw [h6];have:=m4 y hy;omega
  ·exact EY p.nodes (dV 0 st.trees) ah ah eE (fun n h=>by have:=yD st.trees 0 n h;omega)
theorem N6 (n lo hi:Int):GF Tryz.prog 83 [.v (ii n),.v (ii lo),.v (ii hi)] [] (.v (.bool (decide (lo<=n)&&decide (n<=hi)))) []:=by
 cases h:decide (lo<=n)
 all_goals
  refine ai Tryz.func83 Tryz.ntmps83 ?_;exact ao
end Go.Xg
set_option maxHeartbeats 2000000
namespace Go.Im
open Go.Xp Go.Sp
theorem zW (p:Src):(cv p).length=p.globals.length+p.arrays.length+p.fns.length:=by simp [cv,eC,gK];omega
end Go.Im
namespace Go.Xg
open Go.RowKit Go.Xw Go.Proofs
open Go.Xp (Nd Ar)
open Go.Sp (Src)
open Go.Im
attribute [local irreducible] GW GL GO YG GC GA aS aW
theorem vD:∀ l:List ae,ml (aZ l)=true
 | []=>rfl
 | s::l=>by
  have:=vD l;unfold aZ at this |-;rw [List.map_cons,ml,this];rfl
theorem mJ (l:List ae):(aZ l).length=l.length:=by simp [aZ]
theorem HG (p:Src) (hw:ek p<=1048576):GC Tryz.prog 93 [.agg (ar p)] [] fun g Δ=>∃ a c,g=.v (.slice a (cv p).length c)/\Δ=[.vech 9 1 (aZ (cv p)) (.slice a (cv p).length c)]:=by
 obtain ⟨⟨a1,a2⟩,⟨b1,b2⟩,⟨c1,c2⟩,⟨d1,d2⟩⟩:=ja p
 have uq:(p.globals.map fun s=>[GV.v (sv s)]).length=p.globals.length:=by simp
 have eM:ml (p.globals.map fun s=>[GV.v (sv s)])=true:=vD p.globals;refine cP Tryz.func93 Tryz.ntmps93 ?_;refine GW.wk (Wk.l8 9 1) ?_;simp only [nil_append];refine ab ?_;refine GL.zi 0 rfl rfl rfl rfl eM (by refine ⟨?_,?_⟩;(· rw [uq];omega);(· rw [uq];omega)) ?_;intro a c;rw [uq];refine cy ?_;simp only [nil_append,length_nil,Nat.zero_add];refine ab ?_;refine GW.range (p.arrays.map az).length (fun k fr Γ=>∃ a c R n,fr=[.Zy,.loc 1 0,.Zy,.v (.slice a n c),.Zy,.Zy,.Zy,.Zy,.Zy,.Zy,.Zy,.Zy,.sl 2 (p.arrays.map az),.v (ii ((p.arrays.map az).length:Int)),.v (ii (k:Nat)),.Zy,.Zy,.Zy,.Zy,.Zy,.Zy,.Zy,.Zy,.Zy,.Zy,.Zy,.Zy,.Zy,.Zy,.Zy,.Zy,.Zy,.Zy,.Zy,.Zy,.Zy,.Zy,.Zy]/\Γ=[.vech 9 1 R (.slice a n c),.box 34 (ar p)]/\R.length=n/\R=aZ (p.globals++(eC p).take k)) ?_ (by rw [length_map];omega) ?_ ?_ ?_
 ·exact ⟨_,_,Wk.ax al,_,_,_,_,rfl,rfl,uq,by simp [aZ]⟩
 ·rintro k _ _ ⟨a,c,R,n,rfl,rfl,_⟩;exact ⟨rfl,rfl,rfl⟩
 ·rintro k _ _ hk ⟨a,c,R,n,rfl,rfl,ew,hR⟩
  have hk:k < p.arrays.length:=by simpa using hk
  have hx:p.arrays[k]?=some p.arrays[k]:=by simp [hk]
  have hr:=Ee hx
  have bp:aZ (p.globals++(eC p).take (k+1))=R++[[.v (sv p.arrays[k].name)]]:=by
   have:(eC p)[k]?=some p.arrays[k].name:=by rw [eC,getElem?_map,hx];rfl
   rw [take_add_one,this,hR];simp [aZ]
  have ur:n<=4194304:=by
   rw [<-ew,hR,mJ,length_append,length_take];omega
  clear hR;unfold az at hr;generalize p.arrays[k]=x at *;refine ab ?_;refine GL.ql 0 rfl rfl rfl rfl rfl rfl rfl rfl (by first | rfl | assumption) ⟨⟨by omega,by omega⟩,by decide⟩ ?_;intro a2 c2;refine cL ?_;refine ab ?_;exact ⟨rfl,rfl,_,_,(Wk.cut (n:=2) (Nat.zero_le _) rfl).trans (Wk.ax al),a2,c2,_,_,rfl,rfl,by simp [ew],bp.symm⟩
 ·rintro _ _ ⟨a,c,R,n,rfl,rfl,ew,hR⟩;rw [length_map,show p.arrays.length=(eC p).length by simp [eC],take_length] at hR;refine aL ?_;refine ab ?_;refine GW.range (p.fns.map au).length (fun k fr Γ=>∃ a c R n,fr=[.Zy,.loc 1 0,.Zy,.v (.slice a n c),.Zy,.Zy,.Zy,.Zy,.Zy,.Zy,.Zy,.Zy,.Zy,.Zy,.Zy,.Zy,.Zy,.Zy,.Zy,.Zy,.Zy,.Zy,.Zy,.Zy,.Zy,.sl 3 (p.fns.map au),.v (ii ((p.fns.map au).length:Int)),.v (ii (k:Nat)),.Zy,.Zy,.Zy,.Zy,.Zy,.Zy,.Zy,.Zy,.Zy,.Zy]/\Γ=[.vech 9 1 R (.slice a n c),.box 34 (ar p)]/\R.length=n/\R=aZ ((p.globals++eC p)++(gK p).take k)) ?_ (by rw [length_map];omega) ?_ ?_ ?_
  ·exact ⟨_,_,Wk.ax al,_,_,_,_,rfl,rfl,ew,by rw [hR];simp⟩
  ·rintro k _ _ ⟨a,c,R,n,rfl,rfl,_⟩;exact ⟨rfl,rfl,rfl⟩
  ·rintro k _ _ hk ⟨a,c,R,n,rfl,rfl,ew,hR⟩
   have hk:k < p.fns.length:=by simpa using hk
   have hx:p.fns[k]?=some p.fns[k]:=by simp [hk]
   have hr:=Aa hx
   have bp:aZ ((p.globals++eC p)++(gK p).take (k+1))=R++[[.v (sv p.fns[k].name)]]:=by
    have:(gK p)[k]?=some p.fns[k].name:=by rw [gK,getElem?_map,hx];rfl
    rw [take_add_one,this,hR];simp [aZ]
   have ur:n<=4194304:=by
    rw [<-ew,hR,mJ,length_append,length_append,length_take,eC,length_map];omega
   clear hR;unfold au at hr;generalize p.fns[k]=x at *;refine ab ?_;refine GL.ql 0 rfl rfl rfl rfl rfl rfl rfl rfl (by first | rfl | assumption) ⟨⟨by omega,by omega⟩,by decide⟩ ?_;intro a2 c2;refine cL ?_;refine ab ?_;exact ⟨rfl,rfl,_,_,(Wk.cut (n:=2) (Nat.zero_le _) rfl).trans (Wk.ax al),a2,c2,_,_,rfl,rfl,by simp [ew],bp.symm⟩
  ·rintro _ _ ⟨a,c,R,n,rfl,rfl,ew,hR⟩;rw [length_map,show p.fns.length=(gK p).length by simp [gK],take_length] at hR
   have uu:n=(cv p).length:=by rw [<-ew,hR,mJ];rfl
   subst uu;refine aL ?_;refine ab ?_
   (repeat (first | refine GW.ret ?_ | refine cI ?_ | refine cH ?_ | refine aL ?_ | refine bX ?_))
   exact pM (n:=1) rfl (by first | exact .inr rfl | exact .inl rfl) rfl (Nat.zero_le _) rfl rfl ⟨a,c,rfl,by rw [hR];rfl⟩
end Go.Xg
set_option maxHeartbeats 4000000
namespace Go.Im
open Go.Xp Go.Sp
def vT (l:List ae) (k:Nat):Int:=if (List.range k).any (jH l)=true then 21 else 0
theorem Nt (l:List ae) (k:Nat):vT l (k+1)=if jH l k=true then fw (vT l k) 21 else vT l k:=by
 unfold vT;rw [List.range_succ,List.any_append]
 cases h:(List.range k).any (jH l) with
 | true=>simp [fw]
 | false=>simp [fw]
theorem P5 (l:List ae):vT l l.length=if dT l=true then 21 else 0:=rfl
end Go.Im
namespace Go.Xg
open Go.RowKit Go.Xw Go.Proofs
open Go.Xp (Nd T Ar aD ay)
open Go.Sp (Src)
open Go.Im
attribute [local irreducible] GW GL GO YG GC GA aS aW
theorem Ip (p:Src) (hw:ek p<=1048576) :
  GF Tryz.prog 88 [.loc 0 0] [.box 108 (cC p (.slice none 0 0) ⟨[],0,0⟩)] (.tup []) [.box 108 (cC p (.slice none 0 0) ⟨[],(if dT (cv p)=true then 21 else 0),0⟩)]:=by
 obtain ⟨⟨a1,a2⟩,⟨b1,b2⟩,⟨c1,c2⟩,⟨d1,d2⟩⟩:=ja p
 have uq:(p.globals.map fun s=>[GV.v (sv s)]).length=p.globals.length:=by simp
 have eM:ml (p.globals.map fun s=>[GV.v (sv s)])=true:=vD p.globals;have uu:=zW p;rw [<-P5]
 have wm:=fun k=>AM p (.slice none 0 0) (vT (cv p) k) 21
 rw [show (0:Int)=vT (cv p) 0 from rfl];unfold cC at wm |-;refine ai Tryz.func88 Tryz.ntmps88 ?_;refine nT ?_;refine ab ?_;refine nT ?_;refine ab ?_;refine GL.zj rfl rfl rfl rfl eM (by refine ⟨?_,?_⟩;(· rw [uq];omega);(· rw [uq];omega)) ?_;rw [uq];refine cy ?_;simp only [Nat.zero_add];refine ab ?_;refine GW.range (p.arrays.map az).length (fun k fr Γ=>∃ R n,fr=[.loc 0 0,.Zy,.vec 1 0,.vec 2 n,.Zy,.Zy,.Zy,.Zy,.Zy,.Zy,.Zy,.Zy,.Zy,.Zy,.Zy,.Zy,.Zy,.Zy,.Zy,.Zy,.Zy,.Zy,.sl 2 (p.arrays.map az),.v (ii ((p.arrays.map az).length:Int)),.v (ii (k:Nat)),.Zy,.Zy,.Zy,.Zy,.Zy,.Zy,.Zy,.Zy,.Zy,.Zy,.Zy,.Zy,.Zy,.Zy,.Zy,.Zy,.Zy,.Zy,.Zy,.Zy,.Zy,.Zy,.Zy,.Zy,.Zy,.Zy,.Zy,.Zy,.Zy,.Zy,.Zy,.Zy,.Zy,.Zy,.Zy,.Zy,.Zy,.Zy,.Zy,.Zy,.Zy,.Zy,.Zy,.Zy,.Zy]/\Γ=[.box 108 [strs p.globals,.sl 2 (p.arrays.map az),.sl 3 (p.fns.map au),.sl 5 (p.nodes.map aw),.v (.slice none 0 0),.v (ii (vT (cv p) 0)),.v (ii 0)],.vec 9 1 0 [],.vec 9 1 0 R]/\R.length=n/\R=aZ (p.globals++(eC p).take k)) ?_ (by rw [length_map];omega) ?_ ?_ ?_
 ·exact ⟨_,_,Wk.ax al,_,_,rfl,rfl,uq,by simp [aZ,chunk]⟩
 ·rintro k _ _ ⟨R,n,rfl,rfl,_⟩;exact ⟨rfl,rfl,rfl⟩
 ·rintro k _ _ hk ⟨R,n,rfl,rfl,ew,hR⟩
  have hk:k < p.arrays.length:=by simpa using hk
  have hx:p.arrays[k]?=some p.arrays[k]:=by simp [hk]
  have hr:=Ee hx
  have bp:aZ (p.globals++(eC p).take (k+1))=R++[[.v (sv p.arrays[k].name)]]:=by
   have:(eC p)[k]?=some p.arrays[k].name:=by rw [eC,getElem?_map,hx];rfl
   rw [take_add_one,this,hR];simp [aZ]
  have ur:n<=4194304:=by
   rw [<-ew,hR,mJ,length_append,length_take];omega
  have hb:n+1<=9223372036854775807/\(n+1) * 16<=140737488355328:=by omega
  clear hR;unfold az at hr;generalize p.arrays[k]=x at *;refine ab ?_;refine dX ?_;refine ab ?_;exact ⟨rfl,rfl,_,_,(Wk.cut (n:=3) (Nat.le_of_ble_eq_true rfl) rfl).trans (Wk.ax al),_,_,rfl,rfl,by simp [ew],bp.symm⟩
 ·rintro _ _ ⟨R,n,rfl,rfl,ew,hR⟩;rw [length_map,show p.arrays.length=(eC p).length by simp [eC],take_length] at hR;refine aL ?_;refine ab ?_;refine GW.range (p.fns.map au).length (fun k fr Γ=>∃ R n,fr=[.loc 0 0,.Zy,.vec 1 0,.vec 2 n,.Zy,.Zy,.Zy,.Zy,.Zy,.Zy,.Zy,.Zy,.Zy,.Zy,.Zy,.Zy,.Zy,.Zy,.Zy,.Zy,.Zy,.Zy,.Zy,.Zy,.Zy,.Zy,.Zy,.Zy,.Zy,.Zy,.Zy,.Zy,.Zy,.Zy,.Zy,.Zy,.Zy,.Zy,.sl 3 (p.fns.map au),.v (ii ((p.fns.map au).length:Int)),.v (ii (k:Nat)),.Zy,.Zy,.Zy,.Zy,.Zy,.Zy,.Zy,.Zy,.Zy,.Zy,.Zy,.Zy,.Zy,.Zy,.Zy,.Zy,.Zy,.Zy,.Zy,.Zy,.Zy,.Zy,.Zy,.Zy,.Zy,.Zy,.Zy,.Zy,.Zy]/\Γ=[.box 108 [strs p.globals,.sl 2 (p.arrays.map az),.sl 3 (p.fns.map au),.sl 5 (p.nodes.map aw),.v (.slice none 0 0),.v (ii (vT (cv p) 0)),.v (ii 0)],.vec 9 1 0 [],.vec 9 1 0 R]/\R.length=n/\R=aZ ((p.globals++eC p)++(gK p).take k)) ?_ (by rw [length_map];omega) ?_ ?_ ?_
  ·exact ⟨_,_,Wk.ax al,_,_,rfl,rfl,ew,by rw [hR];simp⟩
  ·rintro k _ _ ⟨R,n,rfl,rfl,_⟩;exact ⟨rfl,rfl,rfl⟩
  ·rintro k _ _ hk ⟨R,n,rfl,rfl,ew,hR⟩
   have hk:k < p.fns.length:=by simpa using hk
   have hx:p.fns[k]?=some p.fns[k]:=by simp [hk]
   have hr:=Aa hx
   have bp:aZ ((p.globals++eC p)++(gK p).take (k+1))=R++[[.v (sv p.fns[k].name)]]:=by
    have:(gK p)[k]?=some p.fns[k].name:=by rw [gK,getElem?_map,hx];rfl
    rw [take_add_one,this,hR];simp [aZ]
   have ur:n<=4194304:=by
    rw [<-ew,hR,mJ,length_append,length_append,length_take,eC,length_map];omega
   have hb:n+1<=9223372036854775807/\(n+1) * 16<=140737488355328:=by omega
   clear hR;unfold au at hr;generalize p.fns[k]=x at *;refine ab ?_;refine dX ?_;refine ab ?_;exact ⟨rfl,rfl,_,_,(Wk.cut (n:=3) (Nat.le_of_ble_eq_true rfl) rfl).trans (Wk.ax al),_,_,rfl,rfl,by simp [ew],bp.symm⟩
  ·rintro _ _ ⟨R,n,rfl,rfl,ew,hR⟩;rw [length_map,show p.fns.length=(gK p).length by simp [gK],take_length] at hR;have hR:R=aZ (cv p):=hR
   have mA:R.length=(cv p).length:=by rw [hR,mJ]
   have RJ:n=R.length:=ew.symm;subst RJ;refine aL ?_;refine GW.wk (Wk.gD (t:=3) rfl rfl rfl rfl) ?_;refine GW.wk (Wk.cut (n:=2) (Nat.le_of_ble_eq_true rfl) rfl) ?_;refine GW.F5 (bQ:=[.loc 0 0,.Zy,.vec 1 0,.sl 1 R,.Zy,.Zy,.Zy,.Zy,.Zy,.Zy,.Zy,.Zy,.Zy,.Zy,.Zy,.Zy,.Zy,.Zy,.Zy,.Zy,.Zy,.Zy,.Zy,.Zy,.Zy,.Zy,.Zy,.Zy,.Zy,.Zy,.Zy,.Zy,.Zy,.Zy,.Zy,.Zy,.Zy,.Zy,.Zy,.Zy,.Zy,.Zy,.Zy,.Zy,.Zy,.Zy,.Zy,.Zy,.Zy,.Zy,.Zy,.Zy,.Zy,.Zy,.Zy,.Zy,.Zy,.Zy,.Zy,.Zy,.Zy,.Zy,.Zy,.Zy,.Zy,.Zy,.Zy,.Zy,.Zy,.Zy]) (aH:=[.box 108 [strs p.globals,.sl 2 (p.arrays.map az),.sl 3 (p.fns.map au),.sl 5 (p.nodes.map aw),.v (.slice none 0 0),.v (ii (vT (cv p) 0)),.v (ii 0)],.vec 9 1 0 []]) al rfl ?_;refine ab ?_;refine GW.range R.length (fun k fr Γ=>∃ S n fz,fr=[.loc 0 0,.Zy,.vec 1 n,.Zy,.Zy,.Zy,.Zy,.Zy,.Zy,.Zy,.Zy,.Zy,.Zy,.Zy,.Zy,.Zy,.Zy,.Zy,.Zy,.Zy,.Zy,.Zy,.Zy,.Zy,.Zy,.Zy,.Zy,.Zy,.Zy,.Zy,.Zy,.Zy,.Zy,.Zy,.Zy,.Zy,.Zy,.Zy,.Zy,.Zy,.Zy,.Zy,.Zy,.Zy,.Zy,.Zy,.Zy,.Zy,.Zy,.Zy,.sl 1 R,.v (ii (R.length:Int)),.v (ii (k:Nat)),.Zy,.Zy,.Zy,.Zy,.Zy,.Zy,.Zy,.Zy,.Zy,.Zy,.Zy,.Zy,.Zy,.Zy,.Zy,.Zy,.Zy]/\Γ=[.box 108 [strs p.globals,.sl 2 (p.arrays.map az),.sl 3 (p.fns.map au),.sl 5 (p.nodes.map aw),.v (.slice none 0 0),.v (ii (vT (cv p) k)),.v (ii 0)],.vec 9 1 fz S]/\S.length=n/\S=aZ ((cv p).take k)) ?_ ah ?_ ?_ ?_
   ·exact ⟨_,_,Wk.ax al,_,_,_,rfl,rfl,rfl,by simp [aZ]⟩
   ·rintro k _ _ ⟨S,n,fz,rfl,rfl,_⟩;exact ⟨rfl,rfl,rfl⟩
   ·rintro k _ _ hk ⟨S,n,fz,rfl,rfl,oN,hS⟩;rw [mA] at hk;obtain ⟨x,hx⟩:∃ x,(cv p)[k]?=some x:=⟨(cv p)[k],by simp [hk]⟩
    have Gt:R[k]?=some [.v (sv x)]:=by rw [hR,aZ,getElem?_map,hx];rfl
    have bp:aZ ((cv p).take (k+1))=S++[[.v (sv x)]]:=by rw [take_add_one,hx,hS];simp [aZ]
    have ur:n<=8388608:=by rw [<-oN,hS,mJ,length_take];omega
    have hb:n+1<=9223372036854775807/\(n+1) * 16<=140737488355328:=by omega
    have hd:jH (cv p) k=(lA x || ((cv p).take k).contains x):=by unfold jH;rw [hx]
    have Kh:=Iq x
    have hL:GF Tryz.prog 46 [.sl 1 S,.v (sv x)] [] (.v (.bool (((cv p).take k).contains x))) []:=by
     rw [hS];exact gL ((cv p).take k) x (by rw [length_take];omega)
    have hF:=wm k;rw [Nt];clear hS hR mA;generalize vT (cv p) k=cd at *;generalize jH (cv p) k=bn at *
    cases h1:lA x with
    | true =>
     rw [h1] at Kh hd;subst hd;rw [if_pos (by simp)];refine ab ?_;refine U [] (Kh) ?_;refine U [0] (hF) ?_;refine dX ?_;refine ab ?_;exact ⟨rfl,rfl,_,_,Wk.ax al,_,_,_,rfl,rfl,by simp [oN],bp.symm⟩
    | false =>
     rw [h1] at Kh hd
     cases h2:((cv p).take k).contains x with
     | true =>
      rw [h2] at hL hd;subst hd;rw [if_pos (by simp)];refine ab ?_;refine U [] (Kh) ?_;refine GL.wk (Wk.gD (t:=59) rfl rfl rfl oN) ?_;refine cL ?_;refine ab ?_;refine U [] (hL) ?_;refine U [0] (hF) ?_;refine dX ?_;refine ab ?_;exact ⟨rfl,rfl,_,_,Wk.ax al,_,_,_,rfl,rfl,by simp [oN],bp.symm⟩
     | false =>
      rw [h2] at hL hd;subst hd;rw [if_neg (by simp)];refine ab ?_;refine U [] (Kh) ?_;refine GL.wk (Wk.gD (t:=59) rfl rfl rfl oN) ?_;refine cL ?_;refine ab ?_;refine U [] (hL) ?_;refine dX ?_;refine ab ?_;exact ⟨rfl,rfl,_,_,Wk.ax al,_,_,_,rfl,rfl,by simp [oN],bp.symm⟩
   ·rintro _ _ ⟨S,n,fz,rfl,rfl,oN,hS⟩;rw [mA];exact eX
end Go.Xg
namespace Go.Im
open Go.Xp Go.Sp
mutual
theorem FU (ks:List Int) (name:ae) (loc:Bool):∀ t:T,qP ks name loc t<=aD t
 | .mk n l=>by
  rw [qP,aD];have:=yy ks name loc (n.kind==4&&n.s==c8) l;split <;> omega
theorem yy (ks:List Int) (name:ae) (loc:Bool):∀ (b:Bool) (l:List T),kD ks name loc b l<=ay l
 | b,[]=>by rw [kD];omega
 | b,t::r=>by
  rw [kD,ay];have h1:=FU ks name loc t;have h2:=yy ks name loc false r;split <;> omega
end
end Go.Im
namespace Go.Xg
open Go.RowKit Go.Xw Go.Proofs
open Go.Xp (Nd T Ar aD ay cK)
open Go.Sp (Src)
open Go.Im
attribute [local irreducible] GW GL GO YG GC GA aS aW
theorem YG.WR {P:Program} {fr:List GV} {Γ:List Ob} {x y:Operand} {t t':TypeId} {a b:Bool} (ht:P.underlying t=some .bool) (hx:aP fr x=.v (.bool a)) (hy:aP fr y=.v (.bool b)):YG P (.binOp .eql t x y t') fr Γ (.v (.bool (a==b))) :=
 YG.v2 hx hy fun l w h k=>fun d ty pos af=>by
  have e:(Op.equal t (.bool a) (.bool b)).run P w=.ok (a==b) w:=run_equalIn_bool w 9999 t a b ht;simp [execOp,eqGuard,h,k,binOp,e]
theorem Ir (ks:List Int) (name:ae) (loc:Bool) (ou:ks.length<=1099511627776):∀ (N:Nat) (t:T),aD t<=N->aD t<=1099511627776 ->
  GF Tryz.prog 30 [.agg (cT t),ints ks,.v (sv name),.v (.bool loc)] [] (.v (ii ((qP ks name loc t:Nat):Int))) []:=by
 intro N
 induction N with
 | zero=>intro t h;have:=gP t;omega
 | succ N ih =>
 intro t hN hb
 cases t with
 | mk n l =>
 have hC:=Na ks n.kind ou;have hle:=yy ks name loc (n.kind==4&&n.s==c8) l;rw [Go.Xp.aD] at hN hb;rw [qP];have ov:=cK l;have dP:(aJ l).length=l.length:=aO l;have hh:AR ks name loc n=((ks.contains n.kind&&n.s==name)&&(decide ((0:Int) < n.n)==loc)):=rfl
 have Gk:∀ k:Nat,((n.kind==4&&n.s==c8)&&k==0)=!((n.kind != 4 || n.s != [115,105,122,101]) || decide ((0:Int) < (k:Int))):=fun k=>by
  show _=!((!(n.kind==4) || !(n.s==c8)) || _)
  cases n.kind==4 <;> cases n.s==c8 <;> cases k <;> simp
 have h0:(n.kind==4&&n.s==c8)=((n.kind==4&&n.s==c8)&&(0:Nat)==0):=by simp
 rw [h0] at hle |-;rw [hh];generalize (n.kind==4&&n.s==c8)=bb at *;obtain ⟨z,DK⟩:∃ z:Nat,(if ((ks.contains n.kind&&n.s==name)&&(decide ((0:Int) < n.n)==loc))=true then 1 else 0)=z:=⟨_,rfl⟩
 have Sb:z<=1:=by rw [<-DK];split <;> omega
 rw [DK];obtain ⟨O5,MW⟩:∃ O5,z+kD ks name loc (bb&&(0:Nat)==0) l=O5:=⟨_,rfl⟩
 have yc:O5<=1+ay l:=by omega
 rw [MW]
 cases h1:ks.contains n.kind
 all_goals cases h2:(n.s==name)
 all_goals cases h3:(decide ((0:Int) < n.n)==loc)
 all_goals
  rw [h1] at hC;rw [h1,h2,h3] at DK;refine ai Tryz.func30 Tryz.ntmps30 ?_;refine U [] (hC) ?_
  try (refine GL.q (YG.WR (by kernel_rfl) rfl rfl) ?_;refine cy ?_;refine ab ?_)
  refine GW.range (aJ l).length (fun k fr Γ=>∃ c:Nat,fr=[.Zy,ints ks,.v (sv name),.v (.bool loc),.loc 0 0,.Zy,.Zy,.Zy,.Zy,.v (ii (c:Nat)),.Zy,.Zy,.Zy,.Zy,.Zy,.Zy,.Zy,.Zy,.Zy,.Zy,.Zy,.Zy,.Zy,.Zy,.Zy,.Zy,.Zy,.Zy,.Zy,.Zy,.Zy,.Zy,.Zy,.sl 6 (aJ l),.v (ii ((aJ l).length:Int)),.v (ii (k:Nat)),.Zy,.Zy,.Zy,.Zy,.Zy,.Zy,.Zy,.Zy,.Zy,.Zy,.Zy,.Zy,.Zy,.Zy,.Zy,.Zy,.Zy,.Zy,.Zy,.Zy,.Zy,.Zy,.Zy,.Zy,.Zy,.Zy,.Zy]/\Γ=[.box 56 (cT (.mk n l))]/\c+kD ks name loc (bb&&k==0) (l.drop k)=O5) ?_ ah ?_ ?_ ?_
  ·first
    | exact ⟨_,_,Wk.ax al,0,rfl,rfl,by rw [List.drop_zero,<-MW,<-DK];rfl⟩
    | exact ⟨_,_,Wk.ax al,1,rfl,rfl,by rw [List.drop_zero,<-MW,<-DK];rfl⟩
  ·rintro k _ _ ⟨c,rfl,rfl,_⟩;exact ⟨rfl,rfl,rfl⟩
  ·rintro k _ _ aq ⟨c,rfl,rfl,hc⟩;rw [dP] at aq;obtain ⟨u,hu⟩:∃ u,l[k]?=some u:=⟨l[k],by simp [aq]⟩;have hr:=cr hu
   have hd:l.drop k=u::l.drop (k+1):=by rw [List.drop_eq_getElem_cons aq];rw [List.getElem?_eq_getElem aq] at hu;rw [Option.some.inj hu]
   have b8:=mQ hu;have hi:=ih u ah ah;have Gl:=FU ks name loc u;rw [hd,kD] at hc
   have hz:(bb&&(k+1==0))=false:=by simp
   have ed:=Gk k
   cases g1:(n.kind != 4)
   all_goals cases g2:(n.s != [115,105,122,101])
   all_goals cases g3:decide ((0:Int) < (k:Int))
   all_goals rw [g1,g2,g3] at ed
   all_goals rw [ed] at hc
   all_goals
    refine ab ?_
    first
     | exact ⟨rfl,rfl,_,_,(Wk.cut (n:=1) (Nat.zero_le _) rfl).trans (Wk.ax al),c,rfl,rfl,by rw [hz];simpa using hc⟩
     | (refine fQ [] (hi) ?_;refine ab ?_;exact ⟨rfl,rfl,_,_,(Wk.cut (n:=1) (Nat.zero_le _) rfl).trans (Wk.ax al),c+qP ks name loc u,rfl,rfl,by rw [hz];simp at hc;omega⟩)
  ·rintro _ _ ⟨c,rfl,rfl,hc⟩;rw [dP,List.drop_length,kD,Nat.add_zero] at hc;rw [<-hc];exact av
end Go.Xg
namespace Go.Xg
open Go.RowKit Go.Xw Go.Proofs
open Go.Xp (Nd T Ar aD ay)
open Go.Sp (Src)
open Go.Im
attribute [local irreducible] GW GL GO YG GC GA aS aW
theorem GH (p:Src) (c z:Int) (h:GF Tryz.prog 71 [.agg (ar p)] [] (.tup [.v (ii c),.v (ii z)]) []):GF Tryz.prog 40 [.agg (ar p)] [] (.v (.bool (c==0))) []:=by
 refine ai Tryz.func40 Tryz.ntmps40 ?_;refine U [] (h) ?_;exact ao
theorem PR (p:Src) (fn:Int) (g:Bool) (hg:GF Tryz.prog 40 [.agg (ar p)] [] (.v (.bool g)) []) :
  GF Tryz.prog 29 [.agg (ar p),.v (ii fn)] [] (.v (.bool ((g&&decide ((0:Int)<=fn))&&decide (fn < ((p.fns.map au).length:Int))))) []:=by
 cases g
 all_goals cases h1:decide ((0:Int)<=fn)
 all_goals
  refine ai Tryz.func29 Tryz.ntmps29 ?_;refine U [] (hg) ?_;exact ao
theorem Jj (p:Src) (fn:Int) (name:ae) (hH:GF Tryz.prog 29 [.agg (ar p),.v (ii fn)] [] (.v (.bool false)) []) :
  GF Tryz.prog 9 [.agg (ar p),.v (ii fn),.v (sv name)] [] (.v (ii (-1))) []:=by
 refine ai Tryz.func9 Tryz.ntmps9 ?_;refine U [] (hH) ?_;exact ao
theorem HF (p:Src) (fn:Int) (name:ae) (t:T) (hH:GF Tryz.prog 29 [.agg (ar p),.v (ii fn)] [] (.v (.bool true)) [])
  (hB:GF Tryz.prog 31 [.agg (ar p),.v (ii fn)] [] (.agg (cT t)) []) (b8:aD t<=1099511627776) :
  GF Tryz.prog 9 [.agg (ar p),.v (ii fn),.v (sv name)] [] (.v (ii ((qP [2] name true t:Nat):Int))) []:=by
 have hN:=Ir [2] name true (by decide) _ t (Nat.le_refl _) b8;refine ai Tryz.func9 Tryz.ntmps9 ?_;refine U [] (hH) ?_;refine U [] (hB) ?_;refine bJ ?_;refine ab ?_;refine U [] (hN) ?_;exact ao
end Go.Xg
namespace Go.Im
open Go.Xp Go.Sp
def kL (p:Src) (fn:Int):Bool:=(gW p&&decide ((0:Int)<=fn))&&decide (fn < (p.fns.length:Int))
end Go.Im
namespace Go.Xg
open Go.RowKit Go.Xw Go.Proofs
open Go.Xp (Nd T Ar aD ay cK)
open Go.Sp (Src)
open Go.Im
attribute [local irreducible] GW GL GO YG GC GA aS aW
theorem Hi {l:List T} {t:T} (h:t∈l):aD t<=ay l:=by
 obtain ⟨k,hk⟩:=List.getElem?_of_mem h;have:=mQ hk;omega
theorem Df {p:Src} (h:fI p=false):gW p=false:=by unfold gW;rw [h];rfl
theorem BI {p:Src} {l:List T} (h:fI p=true) (hl:fv p l):gW p=((zm p l).1==0):=by
 unfold gW;rw [h,hl.Bx];simp only [Bool.true_and];rfl
theorem PJ (p:Src) (hw:ek p<=1048576) (hn:rE p):GF Tryz.prog 43 [.agg (ar p)] [] (.v (.bool (gW p))) []:=by
 obtain ⟨⟨a1,a2⟩,⟨b1,b2⟩,⟨c1,c2⟩,⟨d1,d2⟩⟩:=ja p;have hF:=Je p hw hn
 cases hf:fI p with
 | false =>
  rw [hf] at hF;have:=Kb p _ _ (Ja p hF);rw [Df hf];exact this
 | true =>
  rw [hf] at hF;obtain ⟨l,hl⟩:=qw hf;have hlen:=ff.len hl.fns;have uu:=zW p;have iF:=Bv hl
  have hc:=Hv p l (cv p) ah hlen ah hF (HG p hw) (LR p ah ah fun a ha=>⟨(iF a ha).1,by have:=(iF a ha).2;omega⟩) fun i f t h1 h2=>by
   obtain ⟨e1,_⟩:=ff.at_ hl.fns i f t h1 h2;have h7:=di.ix l 0 i _ hl.st h2;rw [Nat.zero_add] at e1 h7
   have hb:f.body.toNat=ay (l.take i):=by rw [e1,Int.toNat_natCast]
   have hz:=Hi (mem_of_getElem? h2);have:=hl.len;have:=JY p i f t ah (fun n h=>by have:=(d2 n h).2;omega) ah ah ah h1 (by have:=(c2 f (mem_of_getElem? h1)).2.1;omega) ah (by rw [hb];exact h7) ah;rw [hb] at this;exact this
  rw [BI hf hl];exact Kb p _ _ hc
theorem Gh (p:Src) (hw:ek p<=1048576):GF Tryz.prog 40 [.agg (ar p)] [] (.v (.bool (gW p))) []:=by
 obtain ⟨⟨a1,a2⟩,⟨b1,b2⟩,⟨c1,c2⟩,⟨d1,d2⟩⟩:=ja p;have hF:=Jd p hw
 cases hf:fI p with
 | false =>
  rw [hf] at hF;have:=GH p _ _ (I9 p hF);rw [Df hf];exact this
 | true =>
  rw [hf] at hF;obtain ⟨l,hl⟩:=qw hf;have hlen:=ff.len hl.fns;have iF:=Bv hl
  have R6:∀ a∈p.arrays,0<=a.size/\a.size<=2147483648:=fun a ha=>⟨(iF a ha).1,by have:=(iF a ha).2;omega⟩
  obtain ⟨ls,hm⟩:=hl.HU
  have hS:=fun k=>DN p (.slice none 0 0) k ah R6 fun h=>CD p (.slice none 0 0) k ah ah R6 h
  have hle:=hl.len
  have hc:=Hu p l _ _ hlen ah ah ah (fun f h=>by have:=(c2 f h).2.1;omega) (fun t ht=>by have:=Hi ht;omega) hF (Ip p hw) (hS _) fun i f t h1 h2=>by
   obtain ⟨e1,_⟩:=ff.at_ hl.fns i f t h1 h2;have h7:=di.ix l 0 i _ hl.st h2;rw [Nat.zero_add] at e1 h7;rw [e1];exact CM p (fun n h=>by have:=(d2 n h).2;omega) _ _ t ((uU _).1 t _ h7 (Nat.le_refl _))
  have:=GH p _ _ hc;have hs:=QQ (p:=p) (l:=l) (fun a ha=>(iF a ha).1) (fun t ht=>by obtain ⟨i,hi⟩:=List.getElem?_of_mem ht;exact (hm.wf hi).1)
  have e:((JA p l).code==0)=gW p:=by
   rw [BI hf hl]
   by_cases h0:(zm p l).1=0
   ·rw [h0,hs.1 h0]
   ·have h1:(JA p l).code≠0:=fun e=>h0 (hs.2 e)
    rw [show ((zm p l).1==0)=false by simpa using h0,show ((JA p l).code==0)=false by simpa using h1]
  rw [<-e];exact this
theorem Dm (p:Src) (fn:Int) (hw:ek p<=1048576) (hn:rE p):GF Tryz.prog 64 [.agg (ar p),.v (ii fn)] [] (.v (.bool (kL p fn))) []:=by
 obtain ⟨⟨a1,a2⟩,⟨b1,b2⟩,⟨c1,c2⟩,⟨d1,d2⟩⟩:=ja p;have h:=PN p fn _ _ ah (PJ p hw hn) (N6 fn 0 _)
 have e:kL p fn=((decide ((0:Int)<=fn)&&decide (fn<=(((p.fns.map au).length:Int) - 1)))&&gW p):=by
  unfold kL;rw [show decide (fn<=(((p.fns.map au).length:Int) - 1))=decide (fn < (p.fns.length:Int)) by rw [length_map];apply decide_eq_decide.2;omega]
  cases gW p <;> cases decide ((0:Int)<=fn) <;> cases decide (fn < (p.fns.length:Int)) <;> rfl
 rw [e];exact h
theorem MP (p:Src) (fn:Int) (hw:ek p<=1048576):GF Tryz.prog 29 [.agg (ar p),.v (ii fn)] [] (.v (.bool (kL p fn))) []:=by
 have h:=PR p fn _ (Gh p hw);rw [length_map] at h;exact h
end Go.Xg
namespace Go.Im
open Go.Xp Go.Sp
mutual
theorem EE (names:List ae):∀ (t:T) (known:List ae),aD (kC names t known)=aD t
 | .mk n l,known=>by rw [kC,aD,aD,ED names l]
theorem ED (names:List ae):∀ (l:List T) (known:List ae),ay (fF names l known)=ay l
 | [],known=>by rw [fF]
 | t::r,known=>by rw [fF,ay,ay,EE names t,ED names r]
end
end Go.Im
namespace Go.Xg
open Go.RowKit Go.Xw Go.Proofs
open Go.Xp (Nd T Ar aD ay cK)
open Go.Sp (Src)
open Go.Im
attribute [local irreducible] GW GL GO YG GC GA aS aW
theorem LG (p:Src) (hk:∀ n∈p.nodes,n.kids.length<=1000000000000) (f:Go.Sp.Fn) (t:T) (hb:0<=f.body) (bE:dx p.nodes f.body.toNat t):GF Tryz.prog 60 [.agg (ar p),.v (ii f.body)] [] (.agg (cT t)) []:=by
 have:=CM p hk _ _ t ((uU _).1 t _ bE (Nat.le_refl _))
 rwa [Int.toNat_of_nonneg hb] at this
theorem ye (p:Src) (i:Nat) (f:Go.Sp.Fn) (t:T) (hk:∀ n∈p.nodes,n.kids.length<=1000000000000) (hf:p.fns[i]?=some f) (nz:f.params.length<=1048576) (hb:0<=f.body) (bE:dx p.nodes f.body.toNat t) (b8:aD t<=1048576) :
  GC Tryz.prog 59 [.agg (ar p),.v (ii (i:Nat))] [] fun g Δ=>∃ ad cp,g=.v (.slice ad (f.params++cn t).length cp)/\Δ=[.vech 9 1 (aZ (f.params++cn t)) (.slice ad (f.params++cn t).length cp)]:=by
 have hr:(p.fns.map au)[i]?=some (au f):=by rw [getElem?_map,hf];rfl
 have uq:(f.params.map fun s=>[GV.v (sv s)]).length=f.params.length:=by simp
 have eM:=pY f.params;have hS:=LG p hk f t hb bE
 have hV:=fun ad cp=>KV _ t (Nat.le_refl _) f.params ad cp ah
 unfold au at hr;refine ai Tryz.func59 Tryz.ntmps59 ?_;refine GW.draw (.q 1 (.q 2 (.q 4 (.q 5 (.q 6 (.a 0 (.a 3 (.a 7 (.a 8 (.q 9 .nil)))))))))) (by kernel_rfl) (by kernel_rfl) ?_;refine aj ?_;refine rA ?_;refine aj ?_;refine OA rfl rfl (GL.zj rfl rfl rfl rfl eM (by refine ⟨?_,?_⟩;(· rw [uq];omega);(· rw [uq];omega)) ?_);rw [uq];refine GL.yI (t:=14) rfl rfl rfl (by simp [chunk]) ?_;intro ad cp;simp only [Nat.zero_add];refine de ?_;refine aj ?_;refine aC [] (hS) ?_;refine OA rfl rfl ?_;refine bZ [2] (hV ad cp) ?_;rintro _ _ ⟨jc,jd,rfl,rfl⟩;refine ⟨by simp,?_⟩;refine de ?_;refine aj ?_;refine ab ?_
 (repeat (first | refine GW.ret ?_ | refine cI ?_ | refine cH ?_ | refine aL ?_ | refine bX ?_))
 refine sT 2 rfl (by first | exact .inr rfl | exact .inl rfl) rfl ?_ ?_
 ·intro x hx;rw [List.mem_singleton.1 hx];rfl
 ·exact ⟨_,_,rfl,rfl⟩
theorem KY (p:Src) (i:Nat) (f:Go.Sp.Fn) (t:T) (hk:∀ n∈p.nodes,n.kids.length<=1000000000000) (hf:p.fns[i]?=some f) (nz:f.params.length<=1048576) (hb:0<=f.body) (bE:dx p.nodes f.body.toNat t) (b8:aD t<=1048576) :
  GF Tryz.prog 31 [.agg (ar p),.v (ii (i:Nat))] [] (.agg (cT (kC (f.params++cn t) t f.params))) []:=by
 have hr:(p.fns.map au)[i]?=some (au f):=by rw [getElem?_map,hf];rfl
 have hS:=LG p hk f t hb bE;have hL:=ye p i f t hk hf nz hb bE b8;have U4:=zd _ t (Nat.le_refl _);have hB:=KX (f.params++cn t) (by rw [length_append];omega) _ t (Nat.le_refl _) f.params ah;unfold au at hr;generalize f.params++cn t=ns at *;generalize kC ns t f.params=bt at *;refine ai Tryz.func31 Tryz.ntmps31 ?_;refine GW.draw (.q 0 (.q 1 (.q 3 (.q 4 (.q 5 (.q 6 (.q 7 (.q 8 (.q 9 (.q 10 (.q 11 (.q 12 (.q 13 (.q 14 (.q 15 (.f 2 (.f 16 (.f 17 (.q 18 (.q 19 (.q 20 (.a 21 (.a 22 (.q 23 .nil)))))) 21 (.a 17 (.q 18 (.q 19 (.q 20 (.a 22 (.q 23 .nil))))))) 21 (.a 16 (.a 17 (.q 18 (.q 19 (.q 20 (.a 22 (.q 23 .nil)))))))) 21 (.a 2 (.a 16 (.a 17 (.q 18 (.q 19 (.q 20 (.a 22 (.q 23 .nil)))))))))))))))))))))))) (by kernel_rfl) (by kernel_rfl) ?_;refine aj ?_;refine GO.fork ?_ ?_
 ·refine OA rfl rfl ?_;refine bZ [] (hL) ?_;rintro _ _ ⟨ad,cp,rfl,rfl⟩;refine ⟨by simp,?_⟩;refine GL.wk (Wk.o9 (t:=10) (i:=2) rfl rfl rfl) ?_;refine de ?_;refine aj ?_;refine GO.fork ?_ ?_
  ·refine aC [] (hS) ?_;refine GO.fork ?_ ?_
   ·refine aC [] (hB) ?_;exact jr
   ·refine aj ?_;refine aC [] (hB) ?_;exact jr
  ·refine aj ?_;refine aC [] (hS) ?_;refine aC [] (hB) ?_;exact jr
 ·refine aj ?_;refine OA rfl rfl ?_;refine bZ [] (hL) ?_;rintro _ _ ⟨ad,cp,rfl,rfl⟩;refine ⟨by simp,?_⟩;refine GL.wk (Wk.o9 (t:=10) (i:=3) rfl rfl rfl) ?_;refine de ?_;refine aj ?_;refine aC [] (hS) ?_;refine aC [] (hB) ?_;exact jr
end Go.Xg
namespace Go.Im
open Go.Xp Go.Sp
theorem Good.Bx {p:Src} {l:List T} (h:Good p l):hY p.nodes p.fns 0 []=some (l,p.nodes.length):=h.st.Bx
structure nD (p:Src) (l:List T) (i:Nat) (f:Go.Sp.Fn) (t:T):Prop where
 good:Good p l
 gf:p.fns[i]?=some f
 gt:l[i]?=some t
 ok:z7 p t f.params
 wf:eS t
 z:zT t
 st:dx p.nodes f.body.toNat t
 body:0<=f.body
 sz:aD t<=800
theorem um {p:Src} {fn:Int} (h:kL p fn=true):∃ (i:Nat) (l:List T) (f:Go.Sp.Fn) (t:T),fn=(i:Int)/\nD p l i f t:=by
 unfold kL at h;simp only [Bool.and_eq_true,decide_eq_true_eq] at h;obtain ⟨⟨h1,h2⟩,h3⟩:=h;obtain ⟨l,hl⟩:=PK h1;have hlen:=hl.len
 have hi:fn.toNat < p.fns.length:=by omega
 have e1:p.fns[fn.toNat]?=some p.fns[fn.toNat]:=List.getElem?_eq_getElem _;have e2:l[fn.toNat]?=some (l[fn.toNat]'(by omega)):=List.getElem?_eq_getElem _;obtain ⟨a1,a2,a3,a4,a5⟩:=hl.at_ _ _ _ e1 e2;refine ⟨fn.toNat,l,_,_,by omega,hl,e1,e2,a1,a2,a3,a4,a5,?_⟩;have:=hl.st.few;have:=a4.le;omega
theorem C4 {kinds:List Int} {p:Src} {fn:Int} {name:ae} (h:kL p fn=false):jM kinds p fn name = -1:=by
 unfold jM
 by_cases h1:fn < 0\/(p.fns.length:Int)<=fn
 ·rw [if_pos h1]
 ·rw [if_neg h1]
  have:gW p=false:=by
   cases hg:gW p with
   | false=>rfl
   | true =>
    unfold kL at h;rw [hg,decide_eq_true (show (0:Int)<=fn by omega),decide_eq_true (show fn < (p.fns.length:Int) by omega)] at h;cases h
  rw [if_pos this]
theorem BB {kinds:List Int} {p:Src} {l:List T} {i:Nat} {f:Go.Sp.Fn} {t:T} {name:ae} (hg:gW p=true) (h:nD p l i f t):jM kinds p (i:Int) name=((n7 (fa name kinds) t f.params:Nat):Int):=by
 have hi:=(List.getElem?_eq_some_iff.1 h.gf).1;unfold jM;rw [if_neg (by omega),if_neg (by rw [hg];decide),h.good.Bx];simp only [Int.toNat_natCast];rw [h.gf,h.gt]
theorem nD.Vs {kinds:List Int} {p:Src} {l:List T} {i:Nat} {f:Go.Sp.Fn} {t:T} {name:ae} (h:nD p l i f t) (hk:∀ k∈kinds,k=2\/k=7\/k=13) :
  qP kinds name true (kC (f.params++cn t) t f.params)=n7 (fa name kinds) t f.params :=
 FV p (f.params++cn t) name kinds hk t f.params h.wf h.z h.ok (fun s hs=>List.mem_append_left _ hs) (fun s hs=>List.mem_append_right _ hs)
end Go.Im
namespace Go.Xg
open Go.RowKit Go.Xw Go.Proofs
open Go.Xp (Nd T Ar aD ay cK)
open Go.Sp (Src)
open Go.Im
attribute [local irreducible] GW GL GO YG GC GA aS aW
theorem wq {p:Src} {fn:Int} (h:kL p fn=true):gW p=true:=by
 unfold kL at h;simp only [Bool.and_eq_true,decide_eq_true_eq] at h;exact h.1.1
theorem Pp (p:Src) (hw:ek p<=1048576) {l:List T} {i:Nat} {f:Go.Sp.Fn} {t:T} (h:nD p l i f t) :
  GF Tryz.prog 31 [.agg (ar p),.v (ii (i:Nat))] [] (.agg (cT (kC (f.params++cn t) t f.params))) []:=by
 obtain ⟨⟨a1,a2⟩,⟨b1,b2⟩,⟨c1,c2⟩,⟨d1,d2⟩⟩:=ja p;exact KY p i f t (fun n hn=>by have:=(d2 n hn).2;omega) h.gf (by have:=(c2 f (mem_of_getElem? h.gf)).2.1;omega) h.body h.st (by have:=h.sz;omega)
theorem MD (p:Src) (hw:ek p<=1048576) (hn:rE p) (fn:Int) (name:ae) (ks:List Int) (ou:ks.length<=1099511627776) :
  GF Tryz.prog 36 [.agg (ar p),.v (ii fn),.v (sv name),ints ks] [] (.v (ii (jM ks p fn name))) []:=by
 obtain ⟨⟨a1,a2⟩,⟨b1,b2⟩,⟨c1,c2⟩,⟨d1,d2⟩⟩:=ja p;have hH:=Dm p fn hw hn
 cases hh:kL p fn with
 | false =>
  rw [hh] at hH;rw [C4 hh];exact Cz p fn name ks hH
 | true =>
  rw [hh] at hH;obtain ⟨i,l,f,t,rfl,h⟩:=um hh;rw [BB (wq hh) h];exact AE p i name ks f t hH ah (fun n hn=>by have:=(d2 n hn).2;omega) ou h.gf (by have:=(c2 f (mem_of_getElem? h.gf)).2.1;omega) h.body h.st (by have:=h.sz;omega)
end Go.Xg
namespace Go.Im
open Go.Xp Go.Sp
end Go.Im
namespace Go.Xg
open Go.RowKit Go.Xw Go.Proofs
open Go.Xp (Nd T Ar aD ay)
open Go.Sp (Src)
open Go.Im
attribute [local irreducible] GW GL GO YG GC GA aS aW
end Go.Xg
namespace Go.Xg
open Go.RowKit Go.Xw Go.Proofs
open Go.Xp (Nd T Ar aD ay c6)
open Go.Sp (Src)
open Go.Im
attribute [local irreducible] GW GL GO YG GC GA aS aW
end Go.Xg
namespace Go.Im
open Go.Xp Go.Sp
end Go.Im
namespace Go.Xg
open Go.RowKit Go.Xw Go.Proofs
open Go.Xp (Nd T Ar aD ay cK)
open Go.Sp (Src)
open Go.Im
attribute [local irreducible] GW GL GO YG GC GA aS aW
end Go.Xg
namespace Go.Im
open Go.Xp Go.Sp
def eW (s:List ae) (_:Nat) (t:T) (_:List ae):List ae:=s++(if t.n.kind=13 then [t.n.s] else [])
theorem PY (s:List ae) (a:Nat) (t:T) (ls:List ae):(eW s a t ls).length<=s.length+1:=by unfold eW;rw [length_append];split <;> simp
mutual
def zV:T->List ae
 | .mk n l=>(if n.kind=13 then [n.s] else [])++mG l
def mG:List T->List ae
 | []=>[]
 | t::r=>zV t++mG r
end
mutual
theorem JP:∀ (t:T) (a:Nat) (s ls:List ae),(fy eW t a s ls).1=s++zV t
 | .mk n l,a,s,ls=>by
  rw [fy,zV];simp only;rw [AK l];unfold eW;show s++_++_=_;rw [List.append_assoc];rfl
theorem AK:∀ (l:List T) (a:Nat) (s ls:List ae),(cQ eW l a s ls).1=s++mG l
 | [],a,s,ls=>by rw [cQ,mG,append_nil]
 | t::r,a,s,ls=>by rw [cQ,AK r,JP t,mG,List.append_assoc]
end
mutual
theorem Ub:∀ t:T,pF t->zV t=[]
 | .mk n l,h=>by rw [pF] at h;rw [zV,D5 l h.2,if_neg h.1];rfl
theorem D5:∀ l:List T,iz l->mG l=[]
 | [],_=>by rw [mG]
 | t::r,h=>by rw [iz] at h;rw [mG,Ub t h.1,D5 r h.2];rfl
end
mutual
theorem P8:∀ t:T,pF t->cn t=[]
 | .mk n l,h=>by rw [pF] at h;rw [cn,yT l h.2,if_neg h.1];rfl
theorem yT:∀ l:List T,iz l->b7 l=[]
 | [],_=>by rw [b7]
 | t::r,h=>by rw [iz] at h;rw [b7,P8 t h.1,yT r h.2];rfl
end
mutual
theorem GJ:∀ t:T,eS t->zV t=cn t
 | .mk n l,h=>by
  rw [eS] at h;rw [zV,cn]
  by_cases hk:n.kind=13
  ·rw [D5 l (h.1 hk),yT l (h.1 hk),if_pos hk];rfl
  ·rw [if_neg hk,DR l h.2.2];simp
theorem DR:∀ l:List T,cY l->mG l=b7 l
 | [],_=>by rw [mG,b7]
 | t::r,h=>by rw [cY] at h;rw [mG,b7,GJ t h.1,DR r h.2]
end
theorem Nh:∀ (l:List T),(mG l).length<=ay l:=by
 have key:∀ (N:Nat) (t:T),aD t<=N->(zV t).length<=aD t:=by
  intro N
  induction N with
  | zero=>intro t h;have:=gP t;omega
  | succ N ih =>
   intro t h
   have k2:∀ l:List T,ay l<=N->(mG l).length<=ay l:=by
    intro l
    induction l with
    | nil=>intro _;simp [mG]
    | cons u l ih2 =>
     intro h;rw [ay] at h;have:=ih u (by omega);have:=ih2 (by omega);rw [mG,length_append,ay];omega
   cases t with
   | mk n l =>
    rw [aD] at h |-;have:=k2 l (by omega);rw [zV,length_append];split <;> simp <;> omega
 intro l
 induction l with
 | nil=>simp [mG]
 | cons u l ih =>
  have:=key _ u (Nat.le_refl _);rw [mG,length_append,ay];omega
end Go.Im
namespace Go.Xg
open Go.RowKit Go.Xw Go.Proofs
open Go.Xp (Nd T Ar aD ay)
open Go.Sp (Src)
open Go.Im
attribute [local irreducible] GW GL GO YG GC GA aS aW
theorem Qy (p:Src) (a:Nat) (n:Nd) (l:List T) (ls:List ae) (s:List ae) (E1:TypeId) (eb:Option Addr) (ec:Nat) (ad:Option Addr) (cp:Nat) (hn:p.nodes[a]?=some n) (hs:s.length<=1048576000) :
  GC Tryz.prog 99 [.v (ii (a:Nat)),.v (.slice ad ls.length cp),.box (ar p) 0,.loc 0 0] [.box E1 [.v (.slice eb s.length ec)],.vech 9 1 (aZ s) (.slice eb s.length ec),.vech 9 1 (aZ ls) (.slice ad ls.length cp)] fun g Δ=>g=.tup []/\∃ vM vN,
   Δ=[.box E1 [.v (.slice vM (eW s a (.mk n l) ls).length vN)],.vech 9 1 (aZ (eW s a (.mk n l) ls)) (.slice vM (eW s a (.mk n l) ls).length vN),.vech 9 1 (aZ ls) (.slice ad ls.length cp)]:=by
 have hr:=gM hn;have r6:=kX s;have e:eW s a (.mk n l) ls=s++(if n.kind=13 then [n.s] else []):=rfl;rw [e];unfold aw at hr;refine cP Tryz.func99 Tryz.ntmps99 ?_
 cases h1:(n.kind==13) with
 | false =>
  rw [if_neg (by simpa using h1),append_nil];refine ab ?_;refine cE ?_;exact ⟨rfl,eb,ec,rfl⟩
 | true =>
  rw [if_pos (by simpa using h1)];refine ab ?_;refine GW.draw (.q 0 (.q 1 (.q 2 (.q 3 (.q 4 (.q 5 (.q 6 (.a 7 (.a 8 (.a 9 .nil)))))))))) (by kernel_rfl) (by kernel_rfl) ?_;refine aj ?_;refine dv ?_;refine aj ?_;refine OA rfl rfl (GL.n5 1 (news:=[[.v (sv n.s)]]) rfl rfl rfl (by first | rfl | assumption) rfl rfl (by refine ⟨?_,?_⟩;(· show _+1<=_;omega);(· show (_+1) * _<=_;omega)) ?_);intro nH nI;refine de ?_;refine aj ?_;refine ab ?_;refine cE ?_;exact ⟨rfl,nH,nI,by simp [aZ]⟩
end Go.Xg
namespace Go.Xg
open Go.RowKit Go.Xw Go.Proofs
open Go.Xp (Nd T Ar aD ay c6)
open Go.Sp (Src)
open Go.Im
attribute [local irreducible] GW GL GO YG GC GA aS aW
def EG (p:Src):GV:=.fn (.func 99) [] [.box (ar p) 0,.loc 0 0]
def O7 (p:Src):GV:=.fn (.func 84) [] [.loc 2 0,.loc 3 0,.box (ar p) 0,.loc 4 0]
def O1 (E1:TypeId) (s:List ae) (eb:Option Addr) (ec:Nat):List Ob:=[.box E1 [.v (.slice eb s.length ec)],.vech 9 1 (aZ s) (.slice eb s.length ec)]
def Ch (p:Src) (E1 E2 E3 E4:TypeId) (s:List ae) (ls:List ae) (ad:Option Addr) (cp:Nat) (eb:Option Addr) (ec:Nat):List Ob :=
 [.box E1 [.v (.slice eb s.length ec)],.vech 9 1 (aZ s) (.slice eb s.length ec),.box E2 [EG p],.box E3 [.v (.slice ad ls.length cp)],.box E4 [O7 p],.vech 9 1 (aZ ls) (.slice ad ls.length cp)]
theorem N3 (p:Src) (E1 E2 E3 E4:TypeId) (hp:p.nodes.length<=1048576) (eE:∀ n∈p.nodes,n.kids.length<=1099511627776):∀ (N:Nat) (t:T),aD t<=N->∀ (a:Nat) (s:List ae) (ls:List ae) (ad:Option Addr) (cp:Nat) (eb:Option Addr) (ec:Nat),dx p.nodes a t->ls.length+aD t<=8388608->s.length+aD t<=8388608 ->
  GC Tryz.prog 84 [.v (ii (a:Nat)),.loc 2 0,.loc 3 0,.box (ar p) 0,.loc 4 0] (Ch p E1 E2 E3 E4 s ls ad cp eb ec) fun g Δ=>g=.tup []/\∃ jc jd vM vN,Δ=Ch p E1 E2 E3 E4 (fy eW t a s ls).1 (fy eW t a s ls).2 jc jd vM vN:=by
 intro N
 induction N with
 | zero=>intro t h;have:=gP t;omega
 | succ N ih =>
 intro t hN a s ls ad cp eb ec bE fV pB
 cases t with
 | mk n l =>
 rw [Go.Xp.aD] at hN fV pB;have R4:=bE;rw [dx] at bE;obtain ⟨hn,hk,r6⟩:=bE;rw [fy];have hr:=gM hn;have nq:=eE n (mem_of_getElem? hn);have ht:=Qy p a n l ls s E1 eb ec ad cp hn ah;have Y3:(eW s a (.mk n l) ls).length<=s.length+1:=PY _ _ _ _;generalize fH:eW s a (.mk n l) ls=s1 at *
 have sY:n.kids.length=l.length:=by rw [hk,c6]
 unfold aw at hr;unfold Ch EG O7;refine ai Tryz.func84 Tryz.ntmps84 ?_;refine GL.qh [0,1,5] ht rfl rfl rfl (by repeat (first | exact trivial | refine ⟨rfl,?_⟩)) ?_;rintro _ _ ⟨rfl,eb,ec,rfl⟩;refine da ?_;refine ab ?_;refine GW.range (n.kids.map fun i=>[GV.v (ii i)]).length (fun k fr Γ=>∃ jc jd vM vN,fr=[.v (ii (a:Nat)),.loc 2 0,.loc 3 0,.box (ar p) 0,.loc 4 0,.Zy,.Zy,.Zy,.Zy,.Zy,.Zy,.Zy,.Zy,.Zy,.Zy,.Zy,.Zy,ints n.kids,.v (ii ((n.kids.map fun i=>[GV.v (ii i)]).length:Int)),.v (ii (k:Nat)),.Zy,.Zy,.Zy,.Zy,.Zy,.Zy,.Zy,.Zy,.Zy,.Zy,.Zy,.Zy,.Zy,.Zy,.Zy,.Zy,.Zy,.Zy,.Zy,.Zy,.Zy,.Zy,.Zy]/\Γ=Ch p E1 E2 E3 E4 (cQ eW (l.take k) (a+1) s1 ls).1 (cQ eW (l.take k) (a+1) s1 ls).2 jc jd vM vN) ?_ (by rw [length_map];omega) ?_ ?_ ?_
 ·exact ⟨_,_,Wk.ax al,ad,cp,eb,ec,rfl,rfl⟩
 ·rintro k _ _ ⟨ad,cp,eb,ec,rfl,rfl⟩;exact ⟨rfl,rfl,rfl⟩
 ·rintro k _ _ aq ⟨ad,cp,eb,ec,rfl,rfl⟩;rw [length_map,sY] at aq;obtain ⟨u,hu⟩:∃ u,l[k]?=some u:=⟨l[k],by simp [aq]⟩;have jy:=td (n:=a+1) hu;rw [<-hk] at jy;have uw:=ng jy;have b8:=mQ hu;have Kz:dx p.nodes (a+1+ay (l.take k)) u:=di.ix l (a+1) k u r6 hu
  have hlen:(cQ eW (l.take k) (a+1) s1 ls).2.length<=ls.length+ay (l.take k):=by
   rw [mw,length_append];have:=iX (l.take k);omega
  have H6:(cQ eW (l.take k) (a+1) s1 ls).1.length<=s1.length+ay (l.take k):=by
   rw [AK,length_append];have:=Nh (l.take k);omega
  rw [yz _ hu];generalize (cQ eW (l.take k) (a+1) s1 ls).1=s2 at *;generalize (cQ eW (l.take k) (a+1) s1 ls).2=ls2 at *;have hv:=ih u ah (a+1+ay (l.take k)) s2 ls2 ad cp eb ec Kz ah ah;unfold Ch EG O7 at hv |-;refine ab ?_;refine GL.qh [0,1,2,3,4,5] hv rfl rfl rfl (by repeat (first | exact trivial | refine ⟨rfl,?_⟩)) ?_;rintro _ _ ⟨rfl,jc,jd,vM,vN,rfl⟩;refine da ?_;refine ab ?_;exact ⟨rfl,rfl,_,_,Wk.ax al,jc,jd,vM,vN,rfl,rfl⟩
 ·rintro _ _ ⟨ad,cp,eb,ec,rfl,rfl⟩;rw [length_map,sY,take_length]
  have hlen:(cQ eW l (a+1) s1 ls).2.length<=ls.length+ay l:=by
   rw [mw,length_append];have:=iX l;omega
  generalize (cQ eW l (a+1) s1 ls).1=s2 at *;generalize (cQ eW l (a+1) s1 ls).2=ls2 at *;have Gn:(aZ ls2).length=ls2.length:=kX ls2;unfold Ch EG O7;refine aL ?_
  cases hv:(n.kind==13) with
  | false =>
   rw [if_neg (by simpa using hv)];refine ab ?_;refine cE ?_;exact ⟨rfl,ad,cp,eb,ec,rfl⟩
  | true =>
   rw [if_pos (by simpa using hv)];refine ab ?_;refine GW.draw (.q 0 (.q 1 (.q 2 (.q 3 (.q 4 (.q 5 (.q 6 (.a 7 (.a 8 (.a 9 .nil)))))))))) (by kernel_rfl) (by kernel_rfl) ?_;refine aj ?_;refine dv ?_;refine aj ?_;refine OA rfl rfl (GL.n5 5 (news:=[[.v (sv n.s)]]) rfl rfl rfl (by first | rfl | assumption) rfl rfl (by refine ⟨?_,?_⟩;(· show _+1<=_;omega);(· show (_+1) * _<=_;omega)) ?_);intro nH nI;refine de ?_;refine aj ?_;refine ab ?_;refine cE ?_;exact ⟨rfl,nH,nI,eb,ec,by simp [aZ]⟩
theorem Pv (p:Src) (E1:TypeId) (i:Nat) (f:Go.Sp.Fn) (t:T) (s:List ae) (eb:Option Addr) (ec:Nat) (hp:p.nodes.length<=1048576) (eE:∀ n∈p.nodes,n.kids.length<=1099511627776)
  (hf:p.fns[i]?=some f) (nz:f.params.length<=1048576) (hb:0<=f.body) (bE:dx p.nodes f.body.toNat t) (b8:aD t<=1048576) (hs:s.length+aD t<=8388608) :
  GC Tryz.prog 65 [.agg (ar p),.v (ii (i:Nat)),EG p] (O1 E1 s eb ec) fun g Δ=>g=.tup []/\∃ vM vN,Δ=O1 E1 (fy eW t f.body.toNat s f.params).1 vM vN:=by
 have hr:(p.fns.map au)[i]?=some (au f):=by rw [getElem?_map,hf];rfl
 have cJ:(f.params.map fun s=>[GV.v (sv s)]).length=f.params.length:=by simp
 have eM:=pY f.params;obtain ⟨b,sV⟩:∃ b:Nat,f.body=(b:Int):=⟨f.body.toNat,by omega⟩;rw [sV,Int.toNat_natCast] at bE |-;unfold au at hr;rw [sV] at hr;unfold EG O1;refine cP Tryz.func65 Tryz.ntmps65 ?_;refine gT ?_;refine GL.wk (Wk.freeze (i:=2) rfl rfl rfl (Nat.le_refl _)) ?_;refine GN (by simp only [my,lY];rfl) ?_;refine GL.wk (Wk.ax (bQ:=[.Zy,.v (ii (i:Nat)),.Zy,.box (ar p) 0,.Zy,.loc 3 0,.Zy,.Zy,.Zy,.Zy,.Zy,.Zy,.Zy,strs f.params,.Zy,.Zy,.Zy,.Zy,.Zy,.Zy,.Zy,.Zy,.Zy,.Zy]) al) ?_;refine GL.wk (Wk.l8 9 1) ?_;refine GL.zi 4 rfl rfl rfl rfl eM (by refine ⟨?_,?_⟩;(· rw [cJ];omega);(· rw [cJ];omega)) ?_;intro ad cp;rw [cJ];refine cy ?_;simp only [nil_append,length_nil,Nat.zero_add];refine ab ?_;refine GW.F5 (bQ:=[.Zy,.v (ii (i:Nat)),.Zy,.box (ar p) 0,.Zy,.loc 3 0,.loc 5 0,.loc 6 0,.Zy,.Zy,.Zy,.Zy,.Zy,.Zy,.Zy,.Zy,.Zy,.Zy,.Zy,.Zy,.Zy,.Zy,.Zy,.Zy]) (aH:=[.box E1 [.v (.slice eb s.length ec)],.vech 9 1 (aZ s) (.slice eb s.length ec),.gone,.box _ [.fn (.func 99) [] [.box (ar p) 0,.loc 0 0]],.vech 9 1 (aZ f.params) (.slice ad f.params.length cp),.box _ [.v (.slice ad f.params.length cp)],.box _ [.fn (.func 84) [] [.loc 3 0,.loc 5 0,.box (ar p) 0,.loc 6 0]]]) al rfl ?_;refine GW.draw (.q 0 (.q 1 (.q 2 (.q 3 (.q 4 (.q 5 (.q 6 (.a 7 .nil)))))))) (by kernel_rfl) (by kernel_rfl) ?_;refine aj ?_;have hv:=N3 p E1;refine OA rfl rfl (GL.qh [0,1,3,5,6,4] (hv _ _ _ hp eE _ t (Nat.le_refl _) b s f.params ad cp eb ec bE ah hs) rfl rfl rfl (by repeat (first | exact trivial | refine ⟨rfl,?_⟩)) ?_);rintro _ _ ⟨rfl,jc,jd,vM,vN,rfl⟩;refine ⟨by simp [Ch],?_⟩;unfold Ch;refine de ?_;refine aj ?_;refine ab ?_;refine cE ?_;exact ⟨rfl,vM,vN,rfl⟩
end Go.Xg
namespace Go.Im
open Go.Xp Go.Sp
def il (p:Src) (fn:Int):List ae:=if kL p fn=true then (match hY p.nodes p.fns 0 [] with | some (l,_)=>OX p l fn.toNat | none=>[]) else []
theorem DQ {p:Src} {fn:Int} (h:kL p fn=false):il p fn=[]:=by unfold il;rw [h];rfl
theorem AZ {p:Src} {l:List T} {i:Nat} {f:Go.Sp.Fn} {t:T} (hh:kL p (i:Int)=true) (h:nD p l i f t):il p (i:Int)=f.params++cn t:=by
 unfold il;rw [if_pos hh,h.good.Bx];simp only [Int.toNat_natCast];unfold OX;rw [h.gf,h.gt]
theorem nD.vars {p:Src} {l:List T} {i:Nat} {f:Go.Sp.Fn} {t:T} (h:nD p l i f t):(cn t).length<=800:=by
 have:=zd _ t (Nat.le_refl _);have:=h.sz;omega
def vI (p:Src) (fn:Int):List ae:=(il p fn).filter fun s=>jM [2] p fn s==0
def tR (p:Src) (fn:Int) (k:Nat):List ae:=((il p fn).take k).filter fun s=>jM [2] p fn s==0
theorem Cu {p:Src} {fn:Int} {k:Nat} {s:ae} (h:(il p fn)[k]?=some s):tR p fn (k+1)=if (jM [2] p fn s==0)=true then tR p fn k++[s] else tR p fn k:=by
 unfold tR;rw [take_add_one,h,List.filter_append];show _++List.filter _ [s]=_;rw [List.filter_cons];split <;> simp
theorem EL (p:Src) (fn:Int) (k:Nat):(tR p fn k).length<=(il p fn).length:=by
 unfold tR;have:=List.length_filter_le (fun s=>jM [2] p fn s==0) ((il p fn).take k);rw [length_take] at this;omega
end Go.Im
namespace Go.Xg
open Go.RowKit Go.Xw Go.Proofs
open Go.Xp (Nd T Ar aD ay cK)
open Go.Sp (Src)
open Go.Im
attribute [local irreducible] GW GL GO YG GC GA aS aW
theorem Iv (p:Src) (hw:ek p<=1048576) {l:List T} {i:Nat} {f:Go.Sp.Fn} {t:T} (h:nD p l i f t) :
  GC Tryz.prog 77 [.agg (ar p),.v (ii (i:Nat))] [] fun g Δ=>∃ ad cp,g=.v (.slice ad (f.params++cn t).length cp)/\Δ=[.vech 9 1 (aZ (f.params++cn t)) (.slice ad (f.params++cn t).length cp)]:=by
 obtain ⟨⟨a1,a2⟩,⟨b1,b2⟩,⟨c1,c2⟩,⟨d1,d2⟩⟩:=ja p
 have hr:(p.fns.map au)[i]?=some (au f):=by rw [getElem?_map,h.gf];rfl
 have cJ:(f.params.map fun s=>[GV.v (sv s)]).length=f.params.length:=by simp
 have nz:f.params.length<=1048576:=by have:=(c2 f (mem_of_getElem? h.gf)).2.1;omega
 have eM:=pY f.params;have b8:=h.sz
 have hE:=fun eb ec=>Pv p 22 i f t f.params eb ec ah (fun n hn=>by have:=(d2 n hn).2;omega) h.gf nz h.body h.st ah ah
 rw [JP,GJ t h.wf] at hE;unfold EG O1 at hE;unfold au at hr;refine cP Tryz.func77 Tryz.ntmps77 ?_;refine GW.wk (Wk.l8 9 1) ?_;simp only [nil_append];refine ab ?_;refine GL.zi 0 rfl rfl rfl rfl eM (by refine ⟨?_,?_⟩;(· rw [cJ];omega);(· rw [cJ];omega)) ?_;intro ad cp;rw [cJ];refine cy ?_;simp only [nil_append,length_nil,Nat.zero_add];refine gT ?_;refine GL.wk (Wk.freeze (i:=1) rfl rfl rfl (Nat.zero_le _)) ?_;refine cy ?_;refine ab ?_;refine bZ [2,0] (hE ad cp) ?_;rintro _ _ ⟨rfl,eb,ec,rfl⟩;refine da ?_;refine ab ?_
 (repeat (first | refine GW.ret ?_ | refine cI ?_ | refine cH ?_ | refine aL ?_ | refine bX ?_))
 exact pM (n:=1) rfl (by first | exact .inr rfl | exact .inl rfl) rfl (Nat.le_of_ble_eq_true rfl) rfl rfl ⟨eb,ec,rfl,rfl⟩
theorem HD (p:Src) (hw:ek p<=1048576) (hn:rE p) (fn:Int) :
  GC Tryz.prog 49 [.agg (ar p),.v (ii fn)] [] fun g Δ=>∃ ad cp,g=.v (.slice ad (il p fn).length cp)/\Δ=[.vech 9 1 (aZ (il p fn)) (.slice ad (il p fn).length cp)]:=by
 have hH:=Dm p fn hw hn
 cases hh:kL p fn with
 | false =>
  rw [hh] at hH;rw [DQ hh];refine cP Tryz.func49 Tryz.ntmps49 ?_;refine GW.wk (Wk.l8 9 1) ?_;simp only [nil_append];refine ab ?_;refine U [] (hH) ?_
  (repeat (first | refine GW.ret ?_ | refine cI ?_ | refine cH ?_ | refine aL ?_ | refine bX ?_))
  exact pM (n:=1) rfl (by first | exact .inr rfl | exact .inl rfl) rfl (Nat.le_of_ble_eq_true rfl) rfl rfl ⟨none,0,rfl,rfl⟩
 | true =>
  rw [hh] at hH;obtain ⟨i,l,f,t,rfl,h⟩:=um hh;rw [AZ hh h];have hL:=Iv p hw h;refine ai Tryz.func49 Tryz.ntmps49 ?_;refine U [] (hH) ?_;refine bZ [] (hL) ?_;rintro _ _ ⟨ad,cp,rfl,rfl⟩;refine da ?_;refine ab ?_
  (repeat (first | refine GW.ret ?_ | refine cI ?_ | refine cH ?_ | refine aL ?_ | refine bX ?_))
  refine sT 1 rfl (by first | exact .inr rfl | exact .inl rfl) rfl ?_ ?_
  ·intro x hx;rw [List.mem_singleton.1 hx];rfl
  ·exact ⟨_,_,rfl,rfl⟩
theorem Lb (p:Src) (hw:ek p<=1048576) {l:List T} {i:Nat} {f:Go.Sp.Fn} {t:T} (h:nD p l i f t) :
  GC Tryz.prog 59 [.agg (ar p),.v (ii (i:Nat))] [] fun g Δ=>∃ ad cp,g=.v (.slice ad (f.params++cn t).length cp)/\Δ=[.vech 9 1 (aZ (f.params++cn t)) (.slice ad (f.params++cn t).length cp)]:=by
 obtain ⟨⟨a1,a2⟩,⟨b1,b2⟩,⟨c1,c2⟩,⟨d1,d2⟩⟩:=ja p;exact ye p i f t (fun n hn=>by have:=(d2 n hn).2;omega) h.gf (by have:=(c2 f (mem_of_getElem? h.gf)).2.1;omega) h.body h.st (by have:=h.sz;omega)
theorem HC (p:Src) (hw:ek p<=1048576) (fn:Int) :
  GC Tryz.prog 48 [.agg (ar p),.v (ii fn)] [] fun g Δ=>∃ ad cp,g=.v (.slice ad (il p fn).length cp)/\Δ=[.vech 9 1 (aZ (il p fn)) (.slice ad (il p fn).length cp)]:=by
 have hG:=Gh p hw
 have iP:(p.fns.map au).length=p.fns.length:=by simp
 cases hh:kL p fn with
 | false =>
  rw [DQ hh];unfold kL at hh
  cases h1:gW p with
  | false =>
   rw [h1] at hG;refine cP Tryz.func48 Tryz.ntmps48 ?_;refine GW.wk (Wk.l8 9 1) ?_;simp only [nil_append];refine ab ?_;refine U [] (hG) ?_
   (repeat (first | refine GW.ret ?_ | refine cI ?_ | refine cH ?_ | refine aL ?_ | refine bX ?_))
   exact pM (n:=1) rfl (by first | exact .inr rfl | exact .inl rfl) rfl (Nat.le_of_ble_eq_true rfl) rfl rfl ⟨none,0,rfl,rfl⟩
  | true =>
   rw [h1] at hG hh
   by_cases h2:0<=fn
   ·have q2:decide (fn < 0)=false:=by simpa using h2
    have q3:decide (((p.fns.map au).length:Int)<=fn)=true:=by
     rw [iP];simp [h2] at hh;simpa using hh
    refine cP Tryz.func48 Tryz.ntmps48 ?_;refine GW.wk (Wk.l8 9 1) ?_;simp only [nil_append];refine ab ?_;refine U [] (hG) ?_
    (repeat (first | refine GW.ret ?_ | refine cI ?_ | refine cH ?_ | refine aL ?_ | refine bX ?_))
    exact pM (n:=1) rfl (by first | exact .inr rfl | exact .inl rfl) rfl (Nat.le_of_ble_eq_true rfl) rfl rfl ⟨none,0,rfl,rfl⟩
   ·have q2:decide (fn < 0)=true:=by simpa using h2
    refine cP Tryz.func48 Tryz.ntmps48 ?_;refine GW.wk (Wk.l8 9 1) ?_;simp only [nil_append];refine ab ?_;refine U [] (hG) ?_
    (repeat (first | refine GW.ret ?_ | refine cI ?_ | refine cH ?_ | refine aL ?_ | refine bX ?_))
    exact pM (n:=1) rfl (by first | exact .inr rfl | exact .inl rfl) rfl (Nat.le_of_ble_eq_true rfl) rfl rfl ⟨none,0,rfl,rfl⟩
 | true =>
  obtain ⟨i,l,f,t,rfl,h⟩:=um hh;rw [AZ hh h];rw [wq hh] at hG;have hi:=(List.getElem?_eq_some_iff.1 h.gf).1;have hL:=Lb p hw h;have q2:decide ((i:Int) < 0)=false:=decide_eq_false ah;have q3:decide (((p.fns.map au).length:Int)<=(i:Int))=false:=decide_eq_false (by rw [iP];omega);refine ai Tryz.func48 Tryz.ntmps48 ?_;refine U [] (hG) ?_;refine bZ [] (hL) ?_;rintro _ _ ⟨ad,cp,rfl,rfl⟩;refine da ?_;refine ab ?_
  (repeat (first | refine GW.ret ?_ | refine cI ?_ | refine cH ?_ | refine aL ?_ | refine bX ?_))
  refine sT 1 rfl (by first | exact .inr rfl | exact .inl rfl) rfl ?_ ?_
  ·intro x hx;rw [List.mem_singleton.1 hx];rfl
  ·exact ⟨_,_,rfl,rfl⟩
end Go.Xg
namespace Go.Im
open Go.Xp Go.Sp
theorem MN {p:Src} (h:gW p=true):∀ f∈p.fns,f.params.length<=40:=by
 unfold gW at h;rw [Bool.and_eq_true] at h;obtain ⟨hf,h⟩:=h;obtain ⟨l,hl⟩:=qw hf;rw [hl.Bx] at h;simp only [decide_eq_true_eq] at h;unfold zm at h;split at h
 ·cases h
 split at h
 ·cases h
 rename_i h2
 have h3:fE p=false:=by simpa using h2
 unfold fE at h3;simp only [Bool.or_eq_false_iff,List.any_eq_false,decide_eq_true_eq] at h3;intro f hf;have:=h3.2.2 f hf;omega
theorem AY {p:Src} {fn:Int}:(il p fn).length<=840:=by
 cases hh:kL p fn with
 | false=>rw [DQ hh];simp
 | true =>
  have hg:gW p=true:=by
   unfold kL at hh;simp only [Bool.and_eq_true,decide_eq_true_eq] at hh;exact hh.1.1
  obtain ⟨i,l,f,t,rfl,h⟩:=um hh;rw [AZ hh h,length_append];have:=h.vars;have:=MN hg f (mem_of_getElem? h.gf);omega
theorem NZ {p:Src} {fn:Int} (hw:ek p<=1048576):(vI p fn).length<=1048576:=by
 have:=List.length_filter_le (fun s=>jM [2] p fn s==0) (il p fn);have:=@AY p fn;unfold vI;omega
theorem EK (p:Src) (fn:Int):tR p fn (il p fn).length=vI p fn:=by unfold tR vI;rw [take_length]
end Go.Im
namespace Go.Xg
open Go.RowKit Go.Xw Go.Proofs
open Go.Xp (Nd T Ar aD ay cK)
open Go.Sp (Src)
open Go.Im
attribute [local irreducible] GW GL GO YG GC GA aS aW
theorem Mi (p:Src) (hw:ek p<=1048576) (fn:Int) (name:ae):GF Tryz.prog 9 [.agg (ar p),.v (ii fn),.v (sv name)] [] (.v (ii (jM [2] p fn name))) []:=by
 have hH:=MP p fn hw
 cases hh:kL p fn with
 | false =>
  rw [hh] at hH;rw [C4 hh];exact Jj p fn name hH
 | true =>
  rw [hh] at hH;obtain ⟨i,l,f,t,rfl,h⟩:=um hh;rw [BB (wq hh) h,<-h.Vs (by decide)];exact HF p i name _ hH (Pp p hw h) (by rw [EE];have:=h.sz;omega)
theorem Mn (p:Src) (hw:ek p<=1048576) (hn:rE p) (fn:Int) :
  GC Tryz.prog 20 [.agg (ar p),.v (ii fn)] [] fun g Δ=>∃ ad cp,g=.v (.slice ad (vI p fn).length cp)/\Δ=[.vech 9 1 (aZ (vI p fn)) (.slice ad (vI p fn).length cp)]:=by
 have hL:=HD p hw hn fn;have ov:=@AY p fn
 have dq:((il p fn).map fun s=>[GV.v (sv s)]).length=(il p fn).length:=by simp
 rw [<-EK];refine cP Tryz.func20 Tryz.ntmps20 ?_;refine GW.wk (Wk.l8 9 1) ?_;simp only [nil_append];refine ab ?_;refine bZ [] (hL) ?_;rintro _ _ ⟨ad,cp,rfl,rfl⟩;refine da ?_;refine GL.wk (Wk.o9 (t:=10) (i:=2) rfl rfl rfl) ?_;refine cy ?_;refine ab ?_;refine GW.range ((il p fn).map fun s=>[GV.v (sv s)]).length (fun k fr Γ=>∃ a c n S o B,fr=[.Zy,.v (ii fn),.loc 1 0,.Zy,.Zy,.v (.slice a n c),.Zy,.Zy,.Zy,.Zy,strs (il p fn),.v (ii (((il p fn).map fun s=>[GV.v (sv s)]).length:Int)),.v (ii (k:Nat)),.Zy,.Zy,.Zy,.Zy,.Zy,.Zy,.Zy,.Zy,.Zy,.Zy,.Zy,.Zy,.Zy,.Zy]/\Γ=[.vech 9 1 S (.slice a n c),.box 34 (ar p),B]/\S.length=n/\S=aZ o/\o=tR p fn k) ?_ ah ?_ ?_ ?_
 ·exact ⟨_,_,Wk.ax al,none,0,0,[],[],_,rfl,rfl,rfl,rfl,rfl⟩
 ·rintro k _ _ ⟨a,c,n,S,o,B,rfl,rfl,_⟩;exact ⟨rfl,rfl,rfl⟩
 ·rintro k _ _ aq ⟨a,c,n,S,o,B,rfl,rfl,oN,hS,ho⟩;rw [dq] at aq;obtain ⟨x,hx⟩:∃ x,(il p fn)[k]?=some x:=⟨(il p fn)[k],by simp [aq]⟩
  have Gt:((il p fn).map fun s=>[GV.v (sv s)])[k]?=some [.v (sv x)]:=by rw [getElem?_map,hx];rfl
  have py:=Cu hx;have hR:=Mj p fn x _ (MD p hw hn fn x [2] (by decide))
  have zI:o.length<=840:=by have:=EL p fn k;rw [ho];omega
  have ur:n<=840:=by rw [<-oN,hS,kX];exact zI
  rw [py,<-ho];clear py ho
  cases h1:(jM [2] p fn x==0) with
  | true =>
   rw [if_pos rfl];generalize jM [2] p fn x=z at *;refine ab ?_;refine U [] (hR) ?_;refine GL.ql 0 rfl rfl rfl rfl rfl rfl rfl rfl (by first | rfl | assumption) ⟨⟨by omega,by omega⟩,by decide⟩ ?_;intro a2 c2;refine cL ?_;refine ab ?_;exact ⟨rfl,rfl,_,_,Wk.ax al,a2,c2,_,_,o++[x],_,rfl,rfl,by simp [oN],by rw [hS];simp [aZ],rfl⟩
  | false =>
   rw [if_neg (by decide)];generalize jM [2] p fn x=z at *;refine ab ?_;refine U [] (hR) ?_;exact ⟨rfl,rfl,_,_,Wk.ax al,a,c,n,S,o,_,rfl,rfl,oN,hS,rfl⟩
 ·rintro _ _ ⟨a,c,n,S,o,B,rfl,rfl,oN,hS,ho⟩;rw [dq] at ho;rw [<-ho];clear ho
  have bV:n=o.length:=by rw [<-oN,hS,kX]
  subst bV;subst hS;refine aL ?_;refine ab ?_
  (repeat (first | refine GW.ret ?_ | refine cI ?_ | refine cH ?_ | refine aL ?_ | refine bX ?_))
  exact pM (n:=1) rfl (by first | exact .inr rfl | exact .inl rfl) rfl (Nat.le_of_ble_eq_true rfl) rfl rfl ⟨a,c,rfl,rfl⟩
theorem Mm (p:Src) (hw:ek p<=1048576) (fn:Int) :
  GF Tryz.prog 19 [.agg (ar p),.v (ii fn)] [] (strs (vI p fn)) []:=by
 have hL:=HC p hw fn;have ov:=@AY p fn
 have dq:((il p fn).map fun s=>[GV.v (sv s)]).length=(il p fn).length:=by simp
 rw [<-EK];refine ai Tryz.func19 Tryz.ntmps19 ?_;refine nT ?_;refine ab ?_;refine bZ [] (hL) ?_;rintro _ _ ⟨ad,cp,rfl,rfl⟩;refine da ?_;refine GL.wk (Wk.o9 (t:=11) (i:=2) rfl rfl rfl) ?_;refine cy ?_;refine ab ?_;refine GW.range ((il p fn).map fun s=>[GV.v (sv s)]).length (fun k fr Γ=>∃ n S o B,fr=[.Zy,.v (ii fn),.loc 0 0,.Zy,.Zy,.vec 1 n,.Zy,.Zy,.Zy,.Zy,.Zy,strs (il p fn),.v (ii (((il p fn).map fun s=>[GV.v (sv s)]).length:Int)),.v (ii (k:Nat)),.Zy,.Zy,.Zy,.Zy,.Zy,.Zy,.Zy,.Zy,.Zy,.Zy,.Zy,.Zy,.Zy,.Zy]/\Γ=[.box 34 (ar p),.vec 9 1 0 S,B]/\S.length=n/\S=aZ o/\o=tR p fn k) ?_ ah ?_ ?_ ?_
 ·exact ⟨_,_,Wk.ax al,0,[],[],_,rfl,rfl,rfl,rfl,rfl⟩
 ·rintro k _ _ ⟨n,S,o,B,rfl,rfl,_⟩;exact ⟨rfl,rfl,rfl⟩
 ·rintro k _ _ aq ⟨n,S,o,B,rfl,rfl,oN,hS,ho⟩;rw [dq] at aq;obtain ⟨x,hx⟩:∃ x,(il p fn)[k]?=some x:=⟨(il p fn)[k],by simp [aq]⟩
  have Gt:((il p fn).map fun s=>[GV.v (sv s)])[k]?=some [.v (sv x)]:=by rw [getElem?_map,hx];rfl
  have py:=Cu hx;have hR:=Mi p hw fn x
  have zI:o.length<=840:=by have:=EL p fn k;rw [ho];omega
  have ur:n<=840:=by rw [<-oN,hS,kX];exact zI
  have hb:n+1<=9223372036854775807/\(n+1) * 16<=140737488355328:=by omega
  rw [py,<-ho];clear py ho
  cases h1:(jM [2] p fn x==0) with
  | true =>
   rw [if_pos rfl];generalize jM [2] p fn x=z at *;refine ab ?_;refine U [] (hR) ?_;refine dX ?_;refine ab ?_;exact ⟨rfl,rfl,_,_,Wk.ax al,_,_,o++[x],_,rfl,rfl,by simp [oN],by rw [hS];simp [aZ],rfl⟩
  | false =>
   rw [if_neg (by decide)];generalize jM [2] p fn x=z at *;refine ab ?_;refine U [] (hR) ?_;exact ⟨rfl,rfl,_,_,Wk.ax al,_,_,o,_,rfl,rfl,oN,hS,rfl⟩
 ·rintro _ _ ⟨n,S,o,B,rfl,rfl,oN,hS,ho⟩;rw [dq] at ho;rw [<-ho];clear ho;subst oN;refine aL ?_;refine ab ?_;refine GW.wk (Wk.gD (t:=4) rfl rfl rfl rfl) ?_;refine bK ?_;exact ⟨by rw [hS];rfl,rfl⟩
end Go.Xg
