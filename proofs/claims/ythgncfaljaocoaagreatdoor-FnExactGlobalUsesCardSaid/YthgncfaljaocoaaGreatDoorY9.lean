/- Part 9 of proofs that are told in their last texts. -/
import Derived.Test.YthgncfaljaocoaaGreatDoorY8
import Derived.Test.YthgncfaljaocoaaGreatDoorY5
import Derived.Test.YthgncfaljaocoaaGreatDoorY6
import Derived.Test.YthgncfaljaocoaaGreatDoorY2
import Derived.Test.YthgncfaljaocoaaGreatDoorY7
import Derived.Test.YthgncfaljaocoaaGreatDoorY3
open List (all_eq_true ext_getElem? getElem?_map getElem?_mapIdx length_append length_drop length_map length_take mem_of_getElem? nil_append take_add_one take_length)
set_option linter.unusedVariables false
set_option linter.unusedSimpArgs false
set_option maxRecDepth 100000
set_option maxHeartbeats 1000000
namespace Go.Xg
open Go.RowKit Go.Xw Go.Proofs
open Go.Xp (Tok Nd T aZ one levels gn dI dY dr db kY mg n8 Ar aw aB dX lG)
open Go.Sp Go.Im
attribute [local irreducible] GW GL GO YG GC GA aQ aR
theorem RT {f:Nat} (p:RS) (st:PS) (h:HW) (q:RS) (dN:PS) (n:Nat) (hp:p.ok) (hn:st.le n) (hb:n+f+4<=1099511627776) (hw:iW f p st=some (q,dN)) :
  GC Tryz.prog 145 [.loc 0 0] (uu p st h) (fun g aD=>g=.tup []/\∃ h',aD=uu q dN h'):=by
 cases h1:is p 0 kY with
 | true=>exact M4 p st h q dN n hp hn (by omega) h1 hw
 | false =>
  cases h2:is p 0 mg with
  | true=>exact J6 p st h q dN n hp hn hb h1 h2 hw
  | false=>exact J5 p st h q dN hp h1 h2 hw
def mQ (fns:List (ae × List ae)) (trees:List T) (k:Nat):List (List GV):=fns.mapIdx fun i x=>[.v (sv x.1),strs x.2,.v (ii (if i < k then ((aw (trees.take i):Nat):Int) else 0))]
theorem Fu:∀ (rows:List (List GV)) (i j o:Nat) (g:GV),(dz rows i o g)[j]?=if j=i then (rows[j]?).map (fun r=>bg r o g) else rows[j]?
 | [],i,j,o,g=>by simp [dz]
 | r::rs,0,0,o,g=>by simp [dz]
 | r::rs,0,j+1,o,g=>by simp [dz]
 | r::rs,i+1,0,o,g=>by simp [dz]
 | r::rs,i+1,j+1,o,g=>by
  rw [dz,List.getElem?_cons_succ,Fu rs i j o g];simp
theorem Rp (fns:List (ae × List ae)) (trees:List T):fns.map pM=mQ fns trees 0:=by
 apply ext_getElem?;intro i;rw [mQ,getElem?_mapIdx,getElem?_map]
 cases fns[i]? <;> simp [pM]
theorem MA (fns:List (ae × List ae)) (trees:List T) (k:Nat):dz (mQ fns trees k) k 2 (.v (ii ((aw (trees.take k):Nat):Int)))=mQ fns trees (k+1):=by
 apply ext_getElem?;intro i;rw [Fu,mQ,mQ,getElem?_mapIdx,getElem?_mapIdx]
 by_cases h:i=k
 ·subst h;rw [if_pos rfl]
  cases fns[i]? with
  | none=>rfl
  | some x=>simp [bg]
 ·rw [if_neg h]
  cases fns[i]? with
  | none=>rfl
  | some x =>
   have:(i < k)=(i < k+1):=by simp;omega
   simp [this]
theorem OG {fns:List (ae × List ae)} {trees:List T} {k:Nat} (j:Nat) (h:k < fns.length):∃ x,(mQ fns trees j)[k]?=some [.v (sv x.1),strs x.2,.v (ii (if k < j then ((aw (trees.take k):Nat):Int) else 0))]/\fns[k]?=some x:=by
 refine ⟨fns[k],?_,by simp [h]⟩;rw [mQ,getElem?_mapIdx];simp [h]
def H9 (q:RS) (st:PS):GV :=
 if q.code=0 then
  if aw st.trees > 800 then .tup [.agg [.sl 1 [],.sl 2 [],.sl 3 [],.sl 5 []],.v (ii 10),.v (ii 0)]
  else .tup [.agg [.sl 1 (st.globals.map kR),.sl 2 (st.arrays.map qz),.sl 3 (mQ st.fns st.trees st.trees.length),.sl 5 ((dX 0 st.trees).map rH)],.v (ii 0),.v (ii 0)]
 else .tup [.agg [.sl 1 [],.sl 2 [],.sl 3 [],.sl 5 []],.v (ii q.code),.v (ii q.at_)]
theorem GJ {G f:Nat} (ts:List Tok) (e:Int) (q:RS) (st:PS) (hl:ts.length<=1099511627776) (hb:G+f+4<=1099511627776) (hz:q.code=0->aw st.trees<=1099511627776) (h:mM G f ⟨ts,0,e,0,0⟩ .empty=some (q,st)) :
  GF Tryz.prog 114 [iv ts,.v (ii e)] [] (H9 q st) []:=by
 unfold H9;refine ah Tryz.func114 Tryz.ntmps114 ?_;refine GW.wk (Wk.lY 123 1) ?_;refine GW.wk (Wk.lY 9 1) ?_;refine GW.wk (Wk.lY 86 2) ?_;refine GW.wk (Wk.lY 85 3) ?_;refine GW.loop (fun z:Nat × RS × PS=>z.1) (fun z fr Γ=>∃ h n,fr=[iv ts,.v (ii e),.any,.any,.loc 0 0,.v (ii 0),.v (ii 0),.loc 1 0,.any,.any,.any,.any,.any,.any,.any,.any,.any,.any,.any,.any,.any,.any,.any,.any,.any,.any,.any,.any,.any,.any,.any,.any,.any,.any,.any,.any,.any,.any,.any,.any,.any,.any,.any,.any,.any,.any,.any,.any,.any,.any,.any,.any,.any,.any,.any,.any,.any,.any,.any,.any,.any,.any,.any,.any,.any,.any,.any,.any,.any,.any,.any,.any,.any,.any,.any,.any,.any,.any,.any]/\Γ=.box 34 [.v (.slice none 0 0),.v (.slice none 0 0),.v (.slice none 0 0),.v (.slice none 0 0)]::uu z.2.1 z.2.2 h/\z.2.1.l=ts/\z.2.1.ok/\z.2.2.le n/\n+z.1<=G/\mM z.1 f z.2.1 z.2.2=some (q,st)) (G,⟨ts,0,e,0,0⟩,.empty) ?_ ?_
 ·exact ⟨_,_,Wk.av aj,⟨none,0,none,0,none,0,none,0⟩,0,rfl,rfl,rfl,⟨Nat.zero_le _,hl⟩,⟨Nat.le_refl _,Nat.le_refl _,Nat.le_refl _,rfl⟩,by simp,h⟩
 clear h;rintro ⟨g,p,s⟩ _ _ ⟨hd,n,rfl,rfl,ct,hp,hn,zc,h⟩;simp only at ct hp hn zc h
 cases g with
 | zero=>cases h
 | succ g =>
 rw [mM] at h
 by_cases hgo:p.code=0/\p.i < p.l.length
 ·rw [if_pos hgo] at h
  have dp:(p.code==0)=true:=by simpa using hgo.1
  have ao:decide ((p.i:Int) < ((ts.map c6).length:Int))=true:=by
   have:=hgo.2;rw [ct] at this;simpa using this
  cases hw:iW f p s with
  | none=>rw [hw] at h;cases h
  | some r =>
   obtain ⟨p2,s2⟩:=r;rw [hw] at h;simp only at h;have kv:=UY hp hw;refine ab ?_;refine b9 [1,2,3,4,5] (RT p s hd p2 s2 n hp hn (by omega) hw) ?_;rintro _ _ ⟨rfl,dq,rfl⟩;refine cU ?_;refine ab ?_;exact ⟨(g,p2,s2),⟨_,_,Wk.av aj,dq,n+1,rfl,rfl,by rw [kv.1,ct],kv.ok hp,UW hw hn,by show n+1+g<=G;omega,h⟩,by simp⟩
 ·rw [if_neg hgo] at h
  obtain ⟨rfl,rfl⟩:p=q/\s=st:=by simpa using h
  clear h
  have hex:∀ b1 b2:Bool,(p.code==0)=b1->decide ((p.i:Int) < ((ts.map c6).length:Int))=b2->b1=true->b2=false:=fun b1 b2 h1 h2 h3=>by
   subst h3
   cases b2 with
   | false=>rfl
   | true=>exact absurd ⟨by simpa using h1,by rw [ct];simpa using h2⟩ hgo
  by_cases hc:p.code=0
  ·rw [if_pos hc];have hz:=hz hc
   have dp:(p.code==0)=true:=by simpa using hc
   have jB:(p.code != 0)=false:=by simpa using hc
   have ao:=hex _ _ dp rfl rfl;have my:=hn.trees;have hlf:=hn.fns;have sI:=mn s.trees;have oS:=Go.Xp.cR s.trees;refine ab ?_;refine aS ?_;refine ab ?_;refine GW.wk (by apply Wk.pN (t:=52) (i:=2) <;> rfl) ?_;simp only [oset,bg];refine ab ?_;refine GW.wk (Wk.lY 53 5) ?_;rw [Rp s.fns s.trees]
   refine GW.range s.trees.length (fun k fr Γ=>∃ aN cN,fr=[.any,.any,.any,.any,.loc 0 0,.v (ii 0),.v (ii 0),.any,.loc 6 0,.any,.any,.any,.any,.any,.any,.any,.any,.any,.any,.any,.any,.any,.any,.any,.any,.any,.any,.any,.any,.any,.any,.any,.any,.any,.any,.any,.any,.any,.any,.any,.any,.any,.any,.any,.any,.any,.any,.any,.any,.any,.any,.any,.sl 1 (jS s.trees),.v (ii (s.trees.length:Int)),.v (ii (k:Nat)),.any,.any,.any,.any,.any,.any,.any,.any,.any,.any,.any,.any,.any,.any,.any,.any,.any,.any,.any,.any,.any,.any,.any,.any]/\Γ=[.box 34 [.v (.slice none 0 0),.v (.slice none 0 0),.v (.slice none 0 0),.v (.slice none 0 0)],bE p (hx s hd),.vec 123 1 (jS s.trees).length (jS s.trees),.vech 9 1 (s.globals.map kR) (.slice hd.aG s.globals.length hd.cG),.vech 86 2 (s.arrays.map qz) (.slice hd.aA s.arrays.length hd.cA),.vech 85 3 (mQ s.fns s.trees k) (.slice hd.aF s.fns.length hd.cF),
    .box 34 [.v (.slice hd.aG s.globals.length hd.cG),.v (.slice hd.aA s.arrays.length hd.cA),.v (.slice hd.aF s.fns.length hd.cF),.v (.slice aN (aw (s.trees.take k)) cN)],.vech 53 5 ((dX 0 (s.trees.take k)).map rH) (.slice aN (aw (s.trees.take k)) cN)]) ?_ (by omega) ?_ ?_ ?_
   ·exact ⟨_,_,Wk.av aj,none,0,rfl,rfl⟩
   ·rintro k _ _ ⟨aN,cN,rfl,rfl⟩;exact ⟨rfl,rfl,rfl⟩
   ·rintro k _ _ ao ⟨aN,cN,rfl,rfl⟩;obtain ⟨t,ht⟩:∃ t,s.trees[k]?=some t:=⟨s.trees[k],by simp [ao]⟩;have hr:=Bf ht;have b6:=Go.Xp.uC ht;have hle:=Go.Xp.uB s.trees (k+1)
    have jR:s.trees.take (k+1)=s.trees.take k++[t]:=by rw [take_add_one,ht];rfl
    obtain ⟨x,lq,HJ⟩:=OG (fns:=s.fns) (trees:=s.trees) (k:=k) k (by omega);rw [if_neg (Nat.lt_irrefl k)] at lq;have sJ:k < (mQ s.fns s.trees k).length:=(List.getElem?_eq_some_iff.1 lq).1
    have hX:((dX 0 (s.trees.take k)).map rH).length=aw (s.trees.take k):=by rw [length_map,Go.Xp.yl]
    have gV:=KZ (aB t) t (Nat.le_refl _) (aw (s.trees.take k)) _ aN cN hX (by omega);rw [<-MA s.fns s.trees k,jR,Go.Xp.Ho,Go.Xp.mr];simp only [dX,aw,List.append_nil,Nat.add_zero,Nat.zero_add,List.map_append];generalize (dX 0 (s.trees.take k)).map rH=X at *;generalize aw (s.trees.take k)=z at *;generalize mQ s.fns s.trees k=R at *;refine ab ?_;refine ox ?_;refine ab ?_;refine b9 [7] (gV) ?_;rintro _ _ ⟨a5,c5,rfl,rfl⟩;refine cU ?_;refine ab ?_;exact ⟨rfl,rfl,_,_,Wk.av aj,a5,c5,rfl,rfl⟩
   ·rintro _ _ ⟨aN,cN,rfl,rfl⟩;rw [take_length]
    have hX:((dX 0 s.trees).map rH).length=aw s.trees:=by rw [length_map,Go.Xp.yl]
    by_cases h8:aw s.trees > 800
    ·rw [if_pos h8]
     have Yg:decide ((800:Int) < (aw s.trees:Int))=true:=by simpa using by omega
     generalize aw s.trees=z at *;refine ab ?_;refine Bp ?_;exact ⟨_,iZ,rfl,rfl⟩
    ·rw [if_neg h8]
     have Yg:decide ((800:Int) < (((dX 0 s.trees).map rH).length:Int))=false:=by rw [hX];simpa using by omega
     refine aJ ?_;refine GW.wk (by apply Wk.yD (i:=6) (o:=0) (j:=3) <;> rfl) ?_;simp only [oset,bg];refine GW.wk (by apply Wk.yD (i:=6) (o:=1) (j:=4) <;> rfl) ?_;simp only [oset,bg];refine GW.wk (by apply Wk.yD (i:=6) (o:=2) (j:=5) <;> rfl) ?_;simp only [oset,bg];refine GW.wk (by apply Wk.yD (i:=6) (o:=3) (j:=7) <;> rfl) ?_;simp only [oset,bg];refine ab ?_;refine lL ?_;exact ⟨rfl,rfl⟩
  ·rw [if_neg hc]
   have dp:(p.code==0)=false:=by simpa using hc
   have jB:(p.code != 0)=true:=by simpa using hc
   refine ab ?_;refine aS ?_;refine ab ?_;refine GW.draw (.q 0 (.q 1 (.q 2 (.q 3 (.q 4 (.q 5 (.q 6 (.q 7 (.q 8 (.a 9 (.q 10 (.q 11 .nil)))))))))))) (by kernel_rfl) (by kernel_rfl) ?_;refine ai ?_;refine ab ?_;refine Bp ?_;exact ⟨_,iZ,rfl,rfl⟩
end Go.Xg
namespace Go.Xg
open Go.RowKit Go.Xw Go.Proofs
open Go.Xp (Tok Nd T)
open Go.Sp (small dP dK bo eV et dA)
open Go.Im (lz jD cm gk fJ jA jH pS jY mC pC)
attribute [local irreducible] GW GL GO YG GC GA aQ aR
theorem yg (c:UInt8):GF Tryz.prog 172 [CE c] [] (.v (.bool (dP c))) []:=by
 unfold dP;refine cM Tryz.func172 Tryz.ntmps172 ?_
 cases h:decide ((48:Int)<=(c.toNat:Int))
 all_goals
  exact ar
theorem zY (c:UInt8):GF Tryz.prog 174 [CE c] [] (.v (.bool (small c))) []:=by
 unfold small;refine cM Tryz.func174 Tryz.ntmps174 ?_
 cases h:decide ((97:Int)<=(c.toNat:Int))
 all_goals
  exact ar
theorem JG (c:UInt8):GF Tryz.prog 175 [CE c] [] (.v (.bool (dK c))) []:=by
 unfold dK;have hs:=zY c;have hd:=yg c;generalize small c=b1 at *;generalize dP c=b2 at *;refine ah Tryz.func175 Tryz.ntmps175 ?_;refine gm [] (hs) ?_
 cases b1 with
 | true =>
  exact ar
 | false =>
  cases h1:decide ((65:Int)<=(c.toNat:Int)) with
  | true =>
   cases h2:decide ((c.toNat:Int)<=90) with
   | true =>
    exact ar
   | false =>
    refine ab ?_;refine gm [] (hd) ?_
    cases b2 with
    | true =>
     exact ar
    | false =>
     exact ar
  | false =>
   refine ab ?_;refine gm [] (hd) ?_
   cases b2 with
   | true =>
    exact ar
   | false =>
    exact ar
theorem Qb (test:FuncId) [hf:az Tryz.prog test] (p:UInt8->Bool) (ht:∀ c,GF Tryz.prog test [CE c] [] (.v (.bool (p c))) []) (s:ae) (a:Nat) (hs:s.length<=1099511627776) (ha:a<=s.length) :
  GF Tryz.prog 173 [.v (sv s),.v (ii (a:Nat)),.v (.func (.func test) #[] #[])] [] (.v (ii (Go.Sp.run s p (s.length+1) a:Nat))) []:=by
 generalize hR:Go.Sp.run s p (s.length+1) a=R;refine ah Tryz.func173 Tryz.ntmps173 ?_;refine GW.loop (fun x:Nat × Nat=>x.1) (fun x fr Γ=>fr=[.v (sv s),.v (ii (x.2:Nat)),.v (.func (.func test) #[] #[]),.any,.any,.any,.any,.any,.any,.any,.any,.any,.any,.any,.any,.any,.any,.any,.any,.any,.any]/\Γ=[]/\x.2<=s.length/\s.length < x.1+x.2/\Go.Sp.run s p x.1 x.2=R) (s.length+1,a) ?_ ?_
 ·exact ⟨_,_,Wk.av aj,rfl,rfl,ha,by simp only;omega,hR⟩
 ·rintro ⟨f,a⟩ _ _ ⟨rfl,rfl,ha,Yt,h⟩;simp only at ha Yt h
  cases f with
  | zero=>omega
  | succ f =>
  rw [Go.Sp.run] at h
  cases hc:s[a]? with
  | none =>
   rw [hc] at h;simp only at h;subst h;have lk:s.length<=a:=List.getElem?_eq_none_iff.1 hc
   have hd:decide ((a:Int) < (s.length:Int))=false:=by simpa using lk
   refine ab ?_;refine aS ?_;exact ar
  | some c =>
   rw [hc] at h;simp only at h;have ao:a < s.length:=(List.getElem?_eq_some_iff.1 hc).1
   have hd:decide ((a:Int) < (s.length:Int))=true:=by simpa using ao
   have mb:=ht c
   cases hdc:p c with
   | false =>
    rw [hdc] at mb;rw [if_neg (by rw [hdc];simp)] at h;subst h;refine ab ?_;refine iw [] (mb) ?_;refine ab ?_;refine aS ?_;exact ar
   | true =>
    rw [hdc] at mb;rw [if_pos hdc] at h;refine ab ?_;refine iw [] (mb) ?_;refine ab ?_;exact ⟨(f,a+1),⟨_,_,Wk.av aj,rfl,rfl,ao,by simp only;omega,h⟩,by simp⟩
theorem MG:Go.Lib.asciiSpaceTab=vA:=by decide
theorem KT:Go.Lib.fields [105,110,116,32,118,97,114,32,102,117,110,99,32,105,102,32,101,108,115,101,32,119,104,105,108,101,32,114,101,116,117,114,110,32,124,124,32,38,38,32,61,61,32,33,61,32,60,61,32,62,61,32,60,60,32,62,62,32,40,32,41,32,123,32,125,32,91,32,93,32,44,32,59,32,61,32,60,32,62,32,43,32,45,32,42,32,47,32,37,32,38,32,124,32,94,32,33,32,126]=lz:=by decide +kernel
end Go.Xg
namespace Go.Xg
open Go.RowKit Go.Xw Go.Proofs
open Go.Xp (Tok Nd T)
open Go.Sp (small dP dK bo eV et dA)
open Go.Im (lz jD cm gk fJ jA jH pS jY mC pC)
attribute [local irreducible] GW GL GO YG GC GA aQ aR
theorem oa.z7 {P:Program} {f:FuncId} {vs:List Value} {w:World} {R:Value->World->Prop} (h:Calls P f vs.toArray w fun e w'=>∃ v,e=.returned v/\R v w'):oa P f vs w R:=h
theorem Nf:GF Tryz.prog 228 [.v (sv [105,110,116,32,118,97,114,32,102,117,110,99,32,105,102,32,101,108,115,101,32,119,104,105,108,101,32,114,101,116,117,114,110,32,124,124,32,38,38,32,61,61,32,33,61,32,60,61,32,62,61,32,60,60,32,62,62,32,40,32,41,32,123,32,125,32,91,32,93,32,44,32,59,32,61,32,60,32,62,32,43,32,45,32,42,32,47,32,37,32,38,32,124,32,94,32,33,32,126])] [] (strs lz) []:=by
 have:=GF.Xz (P:=Tryz.prog) (f:=228) (vs:=[sv [105,110,116,32,118,97,114,32,102,117,110,99,32,105,102,32,101,108,115,101,32,119,104,105,108,101,32,114,101,116,117,114,110,32,124,124,32,38,38,32,61,61,32,33,61,32,60,61,32,62,61,32,60,60,32,62,62,32,40,32,41,32,123,32,125,32,91,32,93,32,44,32,59,32,61,32,60,32,62,32,43,32,45,32,42,32,47,32,37,32,38,32,124,32,94,32,33,32,126]]) (us:=lz.map sv) (E:=9) fun K β w ht hf=>?_
 ·rw [List.map_map] at this;exact this
 ·obtain ⟨E,z,kX⟩:=sk.all ht hf ht.spc (zs:=vA.map fun z=>Value.int .u8 z) (by decide) (fun m o x hx=>by
   rw [getElem?_map] at hx;unfold w8;rw [if_neg (by decide),if_neg (by decide),if_pos rfl]
   cases hs:vA[o]? with
   | none=>rw [hs] at hx;cases hx
   | some y=>rw [hs] at hx;cases hx;rfl)
  have zR:Go.Lib.TabIs Tryz.prog w "strings.asciiSpace" .u8 Go.Lib.asciiSpaceTab:=by
   unfold Go.Lib.TabIs World.var?;rw [show Tryz.prog.globalNamed "strings.asciiSpace" = some 2 by kernel_rfl,MG];simp only [Option.bind_some,kX]
  have h:=Tryz.strings_Fields_laid ⟨[105,110,116,32,118,97,114,32,102,117,110,99,32,105,102,32,101,108,115,101,32,119,104,105,108,101,32,114,101,116,117,114,110,32,124,124,32,38,38,32,61,61,32,33,61,32,60,61,32,62,61,32,60,60,32,62,62,32,40,32,41,32,123,32,125,32,91,32,93,32,44,32,59,32,61,32,60,32,62,32,43,32,45,32,42,32,47,32,37,32,38,32,124,32,94,32,33,32,126].toArray⟩ w (by decide) (fun j b hb=>by
   have:∀ b∈([105,110,116,32,118,97,114,32,102,117,110,99,32,105,102,32,101,108,115,101,32,119,104,105,108,101,32,114,101,116,117,114,110,32,124,124,32,38,38,32,61,61,32,33,61,32,60,61,32,62,61,32,60,60,32,62,62,32,40,32,41,32,123,32,125,32,91,32,93,32,44,32,59,32,61,32,60,32,62,32,43,32,45,32,42,32,47,32,37,32,38,32,124,32,94,32,33,32,126]:List UInt8),b.toNat < 128:=by decide
   exact this b (mem_of_getElem? hb)) zR
  refine oa.z7 (Calls.mono h ?_);rintro e w' ⟨h1,h2⟩;rw [show ((⟨[105,110,116,32,118,97,114,32,102,117,110,99,32,105,102,32,101,108,115,101,32,119,104,105,108,101,32,114,101,116,117,114,110,32,124,124,32,38,38,32,61,61,32,33,61,32,60,61,32,62,61,32,60,60,32,62,62,32,40,32,41,32,123,32,125,32,91,32,93,32,44,32,59,32,61,32,60,32,62,32,43,32,45,32,42,32,47,32,37,32,38,32,124,32,94,32,33,32,126].toArray⟩:ByteArray).data.toList)=[105,110,116,32,118,97,114,32,102,117,110,99,32,105,102,32,101,108,115,101,32,119,104,105,108,101,32,114,101,116,117,114,110,32,124,124,32,38,38,32,61,61,32,33,61,32,60,61,32,62,61,32,60,60,32,62,62,32,40,32,41,32,123,32,125,32,91,32,93,32,44,32,59,32,61,32,60,32,62,32,43,32,45,32,42,32,47,32,37,32,38,32,124,32,94,32,33,32,126] from rfl,KT] at h1 h2;exact ⟨_,h1,by rw [length_map],h2⟩
theorem Rv:GF Tryz.prog 209 [] [] (strs lz) []:=by
 have h:=Nf;generalize lz=l at *;refine ah Tryz.func209 Tryz.ntmps209 ?_;refine U [] (h) ?_;exact al
theorem zV (s:ae):GF Tryz.prog 176 [.v (sv s)] [] (.v (.bool (jD s))) []:=by
 have h:=Rv;have hc:=gz lz s (by decide);unfold jD;generalize lz=l at *;refine ah Tryz.func176 Tryz.ntmps176 ?_;refine U [] (h) ?_;refine U [] (hc) ?_;exact al
end Go.Xg
namespace Go.Xg
open Go.RowKit Go.Xw Go.Proofs
open Go.Xp (Tok Nd T)
open Go.Sp (small dP dK bo eV et dA)
open Go.Im (lz jD cm gk fJ jA jH pS jY mC pC)
attribute [local irreducible] GW GL GO YG GC GA aQ aR
theorem OM (s:ae) (a:Nat) (c:UInt8) (hs:s.length<=1099511627776) (hc:s[a]?=some c):GF Tryz.prog 177 [.v (sv s),.v (ii (a:Nat))] [] (.v (sv (fJ s a))) []:=by
 have ao:a < s.length:=(List.getElem?_eq_some_iff.1 hc).1;have iO:=zY c;refine ah Tryz.func177 Tryz.ntmps177 ?_;refine GW.loop (fun x:Nat=>x) (fun x fr Γ=>fr=[.v (sv s),.v (ii (a:Nat)),.any,.any,.any,.v (ii (x:Nat)),.any,.any,.any,.any,.any,.any,.any,.any,.any,.any,.any,.any,.any,.any,.any,.any,.any,.any,.any,.any,.any,.any,.any,.any,.any,.any,.any,.any,.any,.any,.any,.any]/\Γ=[]/\x<=2/\∀ j,x < j->j<=2->gk s a j=false) 2 ?_ ?_
 ·exact ⟨_,_,Wk.av aj,rfl,rfl,Nat.le_refl _,fun j h1 h2=>by omega⟩
 ·rintro x _ _ ⟨rfl,rfl,hx,bV⟩
  have qL:∀ k,x=k+1->gk s a x=false->∀ j,k < j->j<=2->gk s a j=false:=fun k hk ht j h1 h2=>by
   by_cases hj:j=x
   ·rw [hj];exact ht
   ·exact bV j (by omega) h2
  have MU:∀ k,gk s a k=(decide (a+k<=s.length)&&!(small c)&&jD (cm s a (a+k))):=fun k=>by unfold gk;rw [hc]
  match x,hx,bV,qL with
  | 0,_,bV,_ =>
   have e:fJ s a=[]:=by unfold fJ;rw [bV 2 (by omega) (by omega),bV 1 (by omega) (by omega)];rfl
   rw [e];refine ab ?_;refine aS ?_;exact ar
  | 1,_,bV,qL =>
   have hle:decide (((a+1:Nat):Int)<=(s.length:Int))=true:=by simpa using by omega
   have hb:a<=a+1/\a+1<=s.length:=by omega
   have ht:=MU 1;rw [show decide (a+1<=s.length)=true from decide_eq_true (by omega)] at ht
   cases hsc:small c with
   | true =>
    rw [hsc] at iO ht;refine ab ?_;refine U [] (iO) ?_;exact ⟨0,⟨_,_,Wk.av aj,rfl,rfl,by omega,qL 0 rfl ht⟩,by omega⟩
   | false =>
    rw [hsc] at iO ht;have dG:=zV (cm s a (a+1))
    cases hg:jD (cm s a (a+1)) with
    | false =>
     rw [hg] at dG ht;refine ab ?_;refine U [] (iO) ?_;refine U [] (dG) ?_;exact ⟨0,⟨_,_,Wk.av aj,rfl,rfl,by omega,qL 0 rfl ht⟩,by omega⟩
    | true =>
     rw [hg] at dG ht
     have e:fJ s a=cm s a (a+1):=by unfold fJ;rw [bV 2 (by omega) (by omega),ht];rfl
     rw [e];refine ab ?_;refine U [] (iO) ?_;refine U [] (dG) ?_;exact al
  | 2,_,bV,qL =>
   have ht:=MU 2
   by_cases ko:a+2<=s.length
   ·have hle:decide (((a+2:Nat):Int)<=(s.length:Int))=true:=by simpa using by omega
    have hb:a<=a+2/\a+2<=s.length:=by omega
    rw [show decide (a+2<=s.length)=true by simpa using ko] at ht
    cases hsc:small c with
    | true =>
     rw [hsc] at iO ht;refine ab ?_;refine U [] (iO) ?_;exact ⟨1,⟨_,_,Wk.av aj,rfl,rfl,by omega,qL 1 rfl ht⟩,by omega⟩
    | false =>
     rw [hsc] at iO ht;have dG:=zV (cm s a (a+2))
     cases hg:jD (cm s a (a+2)) with
     | false =>
      rw [hg] at dG ht;refine ab ?_;refine U [] (iO) ?_;refine U [] (dG) ?_;exact ⟨1,⟨_,_,Wk.av aj,rfl,rfl,by omega,qL 1 rfl ht⟩,by omega⟩
     | true =>
      rw [hg] at dG ht
      have e:fJ s a=cm s a (a+2):=by unfold fJ;rw [ht];rfl
      rw [e];refine ab ?_;refine U [] (iO) ?_;refine U [] (dG) ?_;exact al
   ·have hle:decide (((a+2:Nat):Int)<=(s.length:Int))=false:=by simpa using by omega
    rw [show decide (a+2<=s.length)=false by simpa using ko] at ht;refine ab ?_;exact ⟨1,⟨_,_,Wk.av aj,rfl,rfl,by omega,qL 1 rfl ht⟩,by omega⟩
  | n+3,hx,_,_=>omega
def JI (n:Int) (e:Nat) (a:Nat):GV:=if n > 2147483647 then .tup [.agg (c6 pS),.v (ii (a:Nat)),.v (ii 3)] else .tup [.agg (c6 ⟨1,n,[],a⟩),.v (ii (e:Nat)),.v (ii 0)]
theorem MS (s:ae) (a:Nat) (c:UInt8) (hs:s.length<=1099511627776) (hc:s[a]?=some c) (hd:dP c=true) :
  GF Tryz.prog 144 [.v (sv s),.v (ii (a:Nat))] [] (JI (jH (cm s a (jA s a)) 0) (jA s a) a) []:=by
 have ao:a < s.length:=(List.getElem?_eq_some_iff.1 hc).1;have mb:=yg c;rw [hd] at mb;have mz:=Qb 172 dP yg s a hs (by omega);obtain ⟨e1,e2,e3⟩:=Go.Sp.oX s dP (s.length+1) a (by omega) (by omega);have aK:=Go.Im.Cj s dP (s.length+1) a (by omega);unfold jA;generalize Go.Sp.run s dP (s.length+1) a=e at *;clear e1;generalize hR:jH (cm s a e) 0=R;refine ah Tryz.func144 Tryz.ntmps144 ?_;refine U [] (mb) ?_;refine U [] (mz) ?_;refine GW.loop (fun x:Nat × Int=>e - x.1) (fun x fr Γ=>fr=[.v (sv s),.v (ii (a:Nat)),.any,.any,.loc 0 0,.v (ii 0),.v (ii 0),.any,.v (ii (e:Nat)),.v (ii x.2),.v (ii (x.1:Nat)),.any,.any,.any,.any,.any,.any,.any,.any,.any,.any,.any,.any,.any,.any,.any,.any,.any,.any,.any,.any,.any,.any,.any,.any,.any,.any,.any,.any,.any,.any,.any,.any,.any,.any,.any,.any,.any,.any,.any,.any,.any,.any,.any,.any,.any,.any,.any,.any,.any,.any,.any,.any,.any,.any,.any,.any,.any,.any,.any,.any,.any,.any,.any,.any,.any,.any,.any,.any,.any,.any]/\Γ=[.box 162 (c6 pS)]/\a<=x.1/\x.1<=e/\jH (cm s x.1 e) x.2=R/\0<=x.2/\x.2<=21474836480) (a,0) ?_ ?_
 ·exact ⟨_,_,Wk.av aj,rfl,rfl,Nat.le_refl _,e2,hR,by simp,by simp⟩
 ·rintro ⟨i,n⟩ _ _ ⟨rfl,rfl,hi,Yz,h,CR,EA⟩;simp only at hi Yz h CR EA
  have fin:R=n->True:=fun _=>trivial
  by_cases my:i < e
  ·have Lw:decide ((i:Int) < (e:Int))=true:=by simpa using my
   by_cases hn:n<=2147483647
   ·have AQ:decide (n<=2147483647)=true:=by simpa using hn
    have u7:i < s.length:=by omega
    obtain ⟨d,dq⟩:∃ d,s[i]?=some d:=⟨s[i],by simp [u7]⟩
    have fH:dP d=true:=by
     have:d∈cm s a e:=by
      unfold cm;rw [List.mem_iff_getElem?];exact ⟨i - a,by rw [List.getElem?_drop,List.getElem?_take,show a+(i - a)=i by omega,if_pos my];exact dq⟩
     exact aK d this
    have xE:(48:Int)<=(d.toNat:Int)/\(d.toNat:Int)<=57:=by
     simp only [dP,Bool.and_eq_true,decide_eq_true_eq] at fH;exact fH
    rw [Go.Im.oL dq my e3,jH,if_pos hn] at h;refine ab ?_;exact ⟨(i+1,10 * n+((d.toNat:Int) - 48)),⟨_,_,Wk.av aj,rfl,rfl,by simp only;omega,my,h,by simp only;omega,by simp only;omega⟩,by simp only;omega⟩
   ·have AQ:decide (n<=2147483647)=false:=by simpa using hn
    have eF:R=n:=by
     rw [<-h]
     cases hw:cm s i e with
     | nil=>rw [jH]
     | cons d r=>rw [jH,if_neg hn]
    rw [eF];clear h eF hR fin
    have bH:decide (2147483647 < n)=true:=by simpa using by omega
    unfold JI;rw [if_pos (by omega)];refine ab ?_;refine aS ?_;refine ab ?_;refine lL ?_;exact ⟨rfl,rfl⟩
  ·have Lw:decide ((i:Int) < (e:Int))=false:=by simpa using by omega
   have eF:R=n:=by
    rw [<-h];have:cm s i e=[]:=List.eq_nil_of_length_eq_zero (by rw [Go.Im.kG e3];omega);rw [this,jH]
   rw [eF];clear h eF hR fin;unfold JI
   by_cases hn:n > 2147483647
   ·have bH:decide (2147483647 < n)=true:=by simpa using hn
    rw [if_pos hn];refine ab ?_;refine aS ?_;refine ab ?_;refine lL ?_;exact ⟨rfl,rfl⟩
   ·have bH:decide (2147483647 < n)=false:=by simpa using hn
    rw [if_neg hn];refine ab ?_;refine aS ?_;refine ab ?_;refine lL ?_;exact ⟨rfl,rfl⟩
theorem RR (s:ae) (a:Nat) (c:UInt8) (hs:s.length<=1099511627776) (hc:s[a]?=some c) :
  GF Tryz.prog 144 [.v (sv s),.v (ii (a:Nat))] [] (.tup [.agg (c6 (jY s a c).1),.v (ii ((jY s a c).2.1:Nat)),.v (ii (jY s a c).2.2)]) []:=by
 have ao:a < s.length:=(List.getElem?_eq_some_iff.1 hc).1;have mb:=yg c;have iO:=zY c
 by_cases hd:dP c=true
 ·have h:=MS s a c hs hc hd;unfold JI at h;unfold jY;rw [if_pos hd];split at h
  ·rename_i hn;rw [if_pos hn];exact h
  ·rename_i hn;rw [if_neg hn];exact h
 ·have Lv:dP c=false:=by simpa using hd
  unfold jY;rw [if_neg hd];rw [Lv] at mb
  by_cases hsc:small c=true
  ·rw [if_pos hsc];rw [hsc] at iO;have mz:=Qb 175 dK JG s a hs (by omega);obtain ⟨e1,e2,e3⟩:=Go.Sp.oX s dK (s.length+1) a (by omega) (by omega);have hw:eV s a=(s.take (et s a)).drop a:=rfl;have dG:=zV (eV s a);unfold et at hw |-;rw [hw] at dG |-;generalize Go.Sp.run s dK (s.length+1) a=e at *;have hb:a<=e/\e<=s.length:=⟨e2,e3⟩
   cases hg:jD ((s.take e).drop a) with
   | true =>
    rw [hg] at dG;refine ah Tryz.func144 Tryz.ntmps144 ?_;refine U [] (mb) ?_;refine U [] (iO) ?_;refine U [] (mz) ?_;refine U [] (dG) ?_;refine lL ?_;exact ⟨rfl,rfl⟩
   | false =>
    rw [hg] at dG;refine ah Tryz.func144 Tryz.ntmps144 ?_;refine U [] (mb) ?_;refine U [] (iO) ?_;refine U [] (mz) ?_;refine U [] (dG) ?_;refine lL ?_;exact ⟨rfl,rfl⟩
  ·have Xh:small c=false:=by simpa using hsc
   rw [if_neg hsc];rw [Xh] at iO;have V1:=OM s a c hs hc
   have hlen:(fJ s a).length<=2:=by
    have:(fJ s a=cm s a (a+2)\/fJ s a=cm s a (a+1))\/fJ s a=[]:=by
     unfold fJ;split
     ·exact .inl (.inl rfl)
     ·split
      ·exact .inl (.inr rfl)
      ·exact .inr rfl
    rcases this with (h | h) | h <;> rw [h]
    ·unfold cm;rw [length_drop,length_take];omega
    ·unfold cm;rw [length_drop,length_take];omega
    ·simp
   generalize fJ s a=x at *
   by_cases hx:x=[]
   ·have HI:(x==[])=true:=by simpa using hx
    rw [if_pos hx];refine ah Tryz.func144 Tryz.ntmps144 ?_;refine U [] (mb) ?_;refine U [] (iO) ?_;refine U [] (V1) ?_;refine lL ?_;exact ⟨rfl,rfl⟩
   ·have HI:(x==[])=false:=by simpa using hx
    rw [if_neg hx];refine ah Tryz.func144 Tryz.ntmps144 ?_;refine U [] (mb) ?_;refine U [] (iO) ?_;refine U [] (V1) ?_;refine lL ?_;exact ⟨rfl,rfl⟩
end Go.Xg
namespace Go.Xg
open Go.RowKit Go.Xw Go.Proofs
open Go.Xp (Tok Nd T)
open Go.Sp (small dP dK bo eV et dA)
open Go.Im (lz jD cm gk fJ jA jH pS jY mC pC)
attribute [local irreducible] GW GL GO YG GC GA aQ aR
def BV (x t:ae):Bool:=decide (t.length<=x.length)&&(x.take t.length==t)
theorem IH (x t:ae) (hx:x.length<=1099511627776) (ht:t.length<=1099511627776):GF Tryz.prog 170 [.v (sv x),.v (sv t)] [] (.v (.bool (BV x t))) []:=by
 unfold BV
 by_cases h:t.length<=x.length
 ·have h1:decide ((t.length:Int)<=(x.length:Int))=true:=by simpa using h
  rw [decide_eq_true h];refine ah Tryz.func170 Tryz.ntmps170 ?_;exact al
 ·have h1:decide ((t.length:Int)<=(x.length:Int))=false:=by simpa using by omega
  rw [decide_eq_false h];refine ah Tryz.func170 Tryz.ntmps170 ?_;exact al
theorem Ge (x t:ae) (hx:x.length<=1099511627776) (ht:t.length<=1099511627776):GF Tryz.prog 142 [.v (sv x),.v (sv t)] [] (.v (.bool (BV x t))) []:=by
 have h:=IH x t hx ht;generalize BV x t=b at *;refine ah Tryz.func142 Tryz.ntmps142 ?_;refine U [] (h) ?_;exact al
theorem Gq {s t:ae} {a:Nat} (ha:a<=s.length):BV (s.drop a) t=bo s a t:=by
 unfold BV bo;rw [length_drop,List.drop_take,show a+t.length - a=t.length by omega]
 congr 1
 rw [Bool.eq_iff_iff];simp;omega
theorem Gf (c:UInt8):GF Tryz.prog 141 [.v (sv [32,9,10,13]),CE c] [] (.v (ii (Go.Lib.indexByte [32,9,10,13] c))) []:=by
 refine GF.Tx (vs:=[sv [32,9,10,13],.int .u8 (c.toNat:Int)]) fun K β w ht hf=>?_
 refine oa.z7 (Calls.mono (Tryz.strings_IndexByte ⟨[32,9,10,13].toArray⟩ (c.toNat:Int) w) ?_);rintro e w' ⟨h1,h2⟩;refine ⟨_,h1,?_,by rw [h2];exact Ext.refl w⟩;simp
theorem Nh (x:ae) (hx:x.length<=4294967280):GF Tryz.prog 143 [.v (sv x),.v (sv [42,47])] [] (.v (ii (Go.Lib.index x [42,47]))) []:=by
 refine GF.Tx (vs:=[sv x,sv [42,47]]) fun K β w ht hf=>?_
 obtain ⟨m,hm⟩:=ht.maxLen hf;refine oa.z7 (Calls.mono (Tryz.strings_Index ⟨x.toArray⟩ ⟨[42,47].toArray⟩ m w (by show (x.toArray).size < _;simp;omega) hm) ?_);rintro e w' ⟨h1,h2⟩;refine ⟨_,h1,?_,by rw [h2];exact Ext.refl w⟩;simp
theorem Nu (c:UInt8):decide ((0:Int)<=Go.Lib.indexByte [32,9,10,13] c)=dA c:=by
 have hb:dA c=((32:UInt8)==c || (9:UInt8)==c || (10:UInt8)==c || (13:UInt8)==c):=by
  have e:∀ k:UInt8,((c.toNat:Int)==(k.toNat:Int))=(k==c):=fun k=>by
   rw [Bool.eq_iff_iff];simp only [beq_iff_eq]
   exact ⟨fun h=>by
    have:c.toNat=k.toNat:=by omega
    exact (UInt8.toNat_inj.1 this).symm,fun h=>by rw [h]⟩
  have e1:=e 32;have e2:=e 9;have e3:=e 10;have e4:=e 13;unfold dA;rw [<-e1,<-e2,<-e3,<-e4];rfl
 rw [hb];unfold Go.Lib.indexByte Go.Lib.indexByte Go.Lib.indexByte Go.Lib.indexByte Go.Lib.indexByte
 cases (32:UInt8)==c <;> cases (9:UInt8)==c <;> cases (10:UInt8)==c <;> cases (13:UInt8)==c <;> decide
theorem LY (l:ae):Go.Lib.index l [42,47]=(match pC l with | none => -1 | some n=>(n:Int)):=by
 induction l with
 | nil=>rfl
 | cons b l ih =>
  rw [Go.Lib.index,pC];split
  ·rfl
  ·rw [ih]
   cases pC l with
   | none=>rfl
   | some n =>
    simp only;rw [if_neg (by simp <;> omega)];simp
theorem Ou (s:ae) (f:Nat) (ts:List Tok) (c z:Int) (hs:s.length<=4294967280) (h:mC s f 0 []=some (ts,c,z)) :
  GF Tryz.prog 113 [.v (sv s)] [] (.tup [iv ts,.v (ii c),.v (ii z)]) []:=by
 refine ah Tryz.func113 Tryz.ntmps113 ?_;refine GW.wk (Wk.B9 (t:=5) (a:=none) (c:=0) 162 4 rfl) ?_;refine GW.loop (fun x:Nat × Nat × List Tok=>x.1) (fun x fr Γ=>∃ n rows,fr=[.v (sv s),.any,.v (.slice none 0 0),.v (ii 0),.v (ii 0),.vec 0 n,.v (ii (x.2.1:Nat)),.any,.any,.any,.any,.any,.any,.any,.any,.any,.any,.any,.any,.any,.any,.any,.any,.any,.any,.any,.any,.any,.any,.any,.any,.any,.any,.any,.any,.any,.any,.any,.any,.any,.any,.any,.any,.any,.any,.any,.any,.any,.any,.any,.any,.any,.any,.any,.any]/\Γ=[.vec 162 4 0 rows]/\rows.length=n/\rows=x.2.2.map c6/\x.2.1<=s.length/\n<=x.2.1/\mC s x.1 x.2.1 x.2.2=some (ts,c,z)) (f,0,[]) ?_ ?_
 ·exact ⟨_,_,Wk.av aj,0,[],rfl,rfl,rfl,rfl,Nat.zero_le _,Nat.le_refl _,h⟩
 ·clear h;rintro ⟨f,a,acc⟩ _ _ ⟨n,rows,rfl,rfl,hn,bj,ha,HB,h⟩;simp only at bj ha HB h
  cases f with
  | zero=>cases h
  | succ f =>
  rw [mC] at h
  cases hc:s[a]? with
  | none =>
   rw [hc] at h;cases h;have lk:s.length<=a:=List.getElem?_eq_none_iff.1 hc
   have hd:decide ((a:Int) < (s.length:Int))=false:=by simpa using lk
   refine ab ?_;refine aS ?_;refine GW.wk (Wk.hY (t:=5) rfl rfl rfl hn) ?_;refine ab ?_;refine Iw ?_;exact ⟨by rw [bj];rfl,rfl⟩
  | some ch =>
   rw [hc] at h;simp only at h;have ao:a < s.length:=(List.getElem?_eq_some_iff.1 hc).1
   have hd:decide ((a:Int) < (s.length:Int))=true:=by simpa using ao
   have LB:=Gf ch;have oP:=Nu ch
   cases hb:dA ch with
   | true =>
    rw [if_pos hb] at h;rw [hb] at oP;generalize Go.Lib.indexByte [32,9,10,13] ch=ib at *;refine ab ?_;refine U [] (LB) ?_;refine aS ?_;exact ⟨(f,a+1,acc),⟨_,_,Wk.av aj,n,rows,rfl,rfl,hn,bj,ao,by simp only;omega,h⟩,by simp⟩
   | false =>
    rw [if_neg (by rw [hb];decide)] at h;rw [hb] at oP;generalize Go.Lib.indexByte [32,9,10,13] ch=ib at *;have nk:=Ge (s.drop a) [47,42] (by rw [length_drop];omega) (by decide);rw [Gq ha] at nk
    cases og:bo s a [47,42] with
    | true =>
     rw [if_pos og] at h;rw [og] at nk;have mH:=Go.Sp.jk og;simp only [List.length_cons,List.length_nil] at mH;have xw:=Nh (s.drop (a+2)) (by rw [length_drop];omega);rw [LY] at xw
     have Ls:a+2<=s.length:=by omega
     cases hi:pC (s.drop (a+2)) with
     | none =>
      rw [hi] at xw h;cases h;refine ab ?_;refine U [] (LB) ?_;refine U [] (nk) ?_;refine U [] (xw) ?_;refine qE ?_;exact ⟨_,iZ,rfl,rfl⟩
     | some e =>
      rw [hi] at xw h;have dQ:=Go.Im.BX hi;rw [length_drop] at dQ
      have SN:decide (((e:Nat):Int) < 0)=false:=by simp
      refine ab ?_;refine U [] (LB) ?_;refine U [] (nk) ?_;refine U [] (xw) ?_;refine aS ?_;exact ⟨(f,a+(e+4),acc),⟨_,_,Wk.av aj,n,rows,rfl,rfl,hn,bj,by simp only;omega,by simp only;omega,h⟩,by simp⟩
    | false =>
     rw [if_neg (by rw [og];decide)] at h;rw [og] at nk;have jR:=RR s a ch (by omega) hc
     have fc:=fun h0=>Go.Im.Iu hc h0
     generalize jY s a ch=R at *;obtain ⟨t,e,code⟩:=R;simp only at jR h fc
     by_cases h0:code=0
     ·rw [if_neg (by simpa using h0)] at h
      have sD:(code != 0)=false:=by simpa using h0
      obtain ⟨_,_,k3,k4⟩:=fc h0;refine ab ?_;refine U [] (LB) ?_;refine U [] (nk) ?_;refine U [] (jR) ?_;refine ea ?_;refine ab ?_;exact ⟨(f,e,acc++[t]),⟨_,_,(Wk.cut (n:=1) (Nat.le_of_ble_eq_true rfl) rfl).trans (Wk.av aj),_,_,rfl,rfl,by simp [hn],by rw [List.map_append,bj];rfl,k4,by simp only;omega,h⟩,by simp⟩
     ·rw [if_pos h0] at h
      have sD:(code != 0)=true:=by simpa using h0
      cases h;refine ab ?_;refine U [] (LB) ?_;refine U [] (nk) ?_;refine U [] (jR) ?_;refine qE ?_;exact ⟨_,iZ,rfl,rfl⟩
end Go.Xg
namespace Go.Xg
open Go.RowKit Go.Xw Go.Proofs
open Go.Xp (Tok Nd T aB aw)
open Go.Sp (Src)
open Go.Im (nU pW tr iq cV fQ ux)
attribute [local irreducible] GW GL GO YG GC GA aQ aR
theorem N9:∀ (N:Nat) (t:T),aB t<=N->aB t<=1099511627776->GF Tryz.prog 109 [uT t] [] (.v (.bool (fQ t))) []:=by
 intro N
 induction N with
 | zero=>intro t h;rw [Go.Xp.eo] at h;omega
 | succ N ih =>
 intro t hN hb;rw [Go.Xp.eo] at hN hb;have ef:=Go.Xp.cR t.kids;have oT:=qB t.kids;rw [Go.Im.xI,Go.Im.sO];unfold uT;generalize t.n.kind=kd;refine cM Tryz.func109 Tryz.ntmps109 ?_;refine Iy ?_;refine GW.join (fun fr Γ=>fr=[.box [.v (ii kd),.v (ii t.n.at_),.v (ii t.n.n),.v (sv t.n.s),ints t.n.kids,.sl 1 (bS t.kids)] 0,.any,.any,.any,.v (.bool (cV kd t.kids.length)),.any,.any,.any,.any,.any,.any,.any,.any,.any,.any,.any,.any,.any,.any,.any,.any,.any,.any,.any,.any,.any,.any,.any,.any,.any,.any,.any,.any,.any,.any,.any,.any,.any,.any,.any,.any,.any,.any,.any,.any,.any,.any,.any,.any,.any,.any,.any,.any,.any,.any,.any,.any,.any,.any,.any,.any,.any,.any,.any]/\Γ=[]) ?_ ?_
 ·rw [<-oT];generalize (bS t.kids)=l
  by_cases h1:kd=1
  ·subst h1
   have f1:((1:Int)==1)=true:=by decide
   rw [show cV 1 l.length=((l.length:Int)==0) by unfold cV;simp];refine ab ?_;exact ⟨_,_,Wk.av aj,rfl,rfl⟩
  by_cases h2:kd=2
  ·subst h2
   have f1:((2:Int)==1)=false:=by decide
   have f2:((2:Int)==2)=true:=by decide
   rw [show cV 2 l.length=((l.length:Int)==0) by unfold cV;simp];refine ab ?_;exact ⟨_,_,Wk.av aj,rfl,rfl⟩
  by_cases h4:kd=4
  ·subst h4
   have f1:((4:Int)==1)=false:=by decide
   have f2:((4:Int)==2)=false:=by decide
   have f4:((4:Int)==4)=true:=by decide
   rw [show cV 4 l.length=true by unfold cV;simp];refine ab ?_;exact ⟨_,_,Wk.av aj,rfl,rfl⟩
  by_cases AG:kd=14
  ·subst AG
   have f1:((14:Int)==1)=false:=by decide
   have f2:((14:Int)==2)=false:=by decide
   have f4:((14:Int)==4)=false:=by decide
   have f14:((14:Int)==14)=true:=by decide
   rw [show cV 14 l.length=true by unfold cV;simp];refine ab ?_;exact ⟨_,_,Wk.av aj,rfl,rfl⟩
  by_cases h3:kd=3
  ·subst h3
   have f1:((3:Int)==1)=false:=by decide
   have f2:((3:Int)==2)=false:=by decide
   have f4:((3:Int)==4)=false:=by decide
   have f14:((3:Int)==14)=false:=by decide
   have f3:((3:Int)==3)=true:=by decide
   rw [show cV 3 l.length=((l.length:Int)==1) by unfold cV;simp];refine ab ?_;exact ⟨_,_,Wk.av aj,rfl,rfl⟩
  by_cases h5:kd=5
  ·subst h5
   have f1:((5:Int)==1)=false:=by decide
   have f2:((5:Int)==2)=false:=by decide
   have f4:((5:Int)==4)=false:=by decide
   have f14:((5:Int)==14)=false:=by decide
   have f3:((5:Int)==3)=false:=by decide
   have f5:((5:Int)==5)=true:=by decide
   rw [show cV 5 l.length=((l.length:Int)==1) by unfold cV;simp];refine ab ?_;exact ⟨_,_,Wk.av aj,rfl,rfl⟩
  by_cases h7:kd=7
  ·subst h7
   have f1:((7:Int)==1)=false:=by decide
   have f2:((7:Int)==2)=false:=by decide
   have f4:((7:Int)==4)=false:=by decide
   have f14:((7:Int)==14)=false:=by decide
   have f3:((7:Int)==3)=false:=by decide
   have f5:((7:Int)==5)=false:=by decide
   have f7:((7:Int)==7)=true:=by decide
   rw [show cV 7 l.length=((l.length:Int)==1) by unfold cV;simp];refine ab ?_;exact ⟨_,_,Wk.av aj,rfl,rfl⟩
  by_cases oe:kd=11
  ·subst oe
   have f1:((11:Int)==1)=false:=by decide
   have f2:((11:Int)==2)=false:=by decide
   have f4:((11:Int)==4)=false:=by decide
   have f14:((11:Int)==14)=false:=by decide
   have f3:((11:Int)==3)=false:=by decide
   have f5:((11:Int)==5)=false:=by decide
   have f7:((11:Int)==7)=false:=by decide
   have f11:((11:Int)==11)=true:=by decide
   rw [show cV 11 l.length=((l.length:Int)==1) by unfold cV;simp];refine ab ?_;exact ⟨_,_,Wk.av aj,rfl,rfl⟩
  by_cases nQ:kd=12
  ·subst nQ
   have f1:((12:Int)==1)=false:=by decide
   have f2:((12:Int)==2)=false:=by decide
   have f4:((12:Int)==4)=false:=by decide
   have f14:((12:Int)==14)=false:=by decide
   have f3:((12:Int)==3)=false:=by decide
   have f5:((12:Int)==5)=false:=by decide
   have f7:((12:Int)==7)=false:=by decide
   have f11:((12:Int)==11)=false:=by decide
   have f12:((12:Int)==12)=true:=by decide
   rw [show cV 12 l.length=((l.length:Int)==1) by unfold cV;simp];refine ab ?_;exact ⟨_,_,Wk.av aj,rfl,rfl⟩
  by_cases eE:kd=13
  ·subst eE
   have f1:((13:Int)==1)=false:=by decide
   have f2:((13:Int)==2)=false:=by decide
   have f4:((13:Int)==4)=false:=by decide
   have f14:((13:Int)==14)=false:=by decide
   have f3:((13:Int)==3)=false:=by decide
   have f5:((13:Int)==5)=false:=by decide
   have f7:((13:Int)==7)=false:=by decide
   have f11:((13:Int)==11)=false:=by decide
   have f12:((13:Int)==12)=false:=by decide
   have f13:((13:Int)==13)=true:=by decide
   rw [show cV 13 l.length=((l.length:Int)==1) by unfold cV;simp];refine ab ?_;exact ⟨_,_,Wk.av aj,rfl,rfl⟩
  by_cases h6:kd=6
  ·subst h6
   have f1:((6:Int)==1)=false:=by decide
   have f2:((6:Int)==2)=false:=by decide
   have f4:((6:Int)==4)=false:=by decide
   have f14:((6:Int)==14)=false:=by decide
   have f3:((6:Int)==3)=false:=by decide
   have f5:((6:Int)==5)=false:=by decide
   have f7:((6:Int)==7)=false:=by decide
   have f11:((6:Int)==11)=false:=by decide
   have f12:((6:Int)==12)=false:=by decide
   have f13:((6:Int)==13)=false:=by decide
   have f6:((6:Int)==6)=true:=by decide
   rw [show cV 6 l.length=((l.length:Int)==2) by unfold cV;simp];refine ab ?_;exact ⟨_,_,Wk.av aj,rfl,rfl⟩
  by_cases h8:kd=8
  ·subst h8
   have f1:((8:Int)==1)=false:=by decide
   have f2:((8:Int)==2)=false:=by decide
   have f4:((8:Int)==4)=false:=by decide
   have f14:((8:Int)==14)=false:=by decide
   have f3:((8:Int)==3)=false:=by decide
   have f5:((8:Int)==5)=false:=by decide
   have f7:((8:Int)==7)=false:=by decide
   have f11:((8:Int)==11)=false:=by decide
   have f12:((8:Int)==12)=false:=by decide
   have f13:((8:Int)==13)=false:=by decide
   have f6:((8:Int)==6)=false:=by decide
   have f8:((8:Int)==8)=true:=by decide
   rw [show cV 8 l.length=((l.length:Int)==2) by unfold cV;simp];refine ab ?_;exact ⟨_,_,Wk.av aj,rfl,rfl⟩
  by_cases kU:kd=10
  ·subst kU
   have f1:((10:Int)==1)=false:=by decide
   have f2:((10:Int)==2)=false:=by decide
   have f4:((10:Int)==4)=false:=by decide
   have f14:((10:Int)==14)=false:=by decide
   have f3:((10:Int)==3)=false:=by decide
   have f5:((10:Int)==5)=false:=by decide
   have f7:((10:Int)==7)=false:=by decide
   have f11:((10:Int)==11)=false:=by decide
   have f12:((10:Int)==12)=false:=by decide
   have f13:((10:Int)==13)=false:=by decide
   have f6:((10:Int)==6)=false:=by decide
   have f8:((10:Int)==8)=false:=by decide
   have f10:((10:Int)==10)=true:=by decide
   rw [show cV 10 l.length=((l.length:Int)==2) by unfold cV;simp];refine ab ?_;exact ⟨_,_,Wk.av aj,rfl,rfl⟩
  by_cases h9:kd=9
  ·subst h9
   have f1:((9:Int)==1)=false:=by decide
   have f2:((9:Int)==2)=false:=by decide
   have f4:((9:Int)==4)=false:=by decide
   have f14:((9:Int)==14)=false:=by decide
   have f3:((9:Int)==3)=false:=by decide
   have f5:((9:Int)==5)=false:=by decide
   have f7:((9:Int)==7)=false:=by decide
   have f11:((9:Int)==11)=false:=by decide
   have f12:((9:Int)==12)=false:=by decide
   have f13:((9:Int)==13)=false:=by decide
   have f6:((9:Int)==6)=false:=by decide
   have f8:((9:Int)==8)=false:=by decide
   have f10:((9:Int)==10)=false:=by decide
   have f9:((9:Int)==9)=true:=by decide
   cases hq:((l.length:Int)==2) with
   | true =>
    rw [show cV 9 l.length=true by unfold cV;simp [hq]];refine ab ?_;exact ⟨_,_,Wk.av aj,rfl,rfl⟩
   | false =>
    rw [show cV 9 l.length=((l.length:Int)==3) by unfold cV;simp [hq]];refine ab ?_;exact ⟨_,_,Wk.av aj,rfl,rfl⟩
  have e:cV kd l.length=false:=by unfold cV;simp [h1,h2,h4,AG,h3,h5,h7,oe,nQ,eE,h6,h8,kU,h9]
  rw [e]
  have g1:(kd==1)=false:=by simpa using h1
  have g2:(kd==2)=false:=by simpa using h2
  have g4:(kd==4)=false:=by simpa using h4
  have g14:(kd==14)=false:=by simpa using AG
  have g3:(kd==3)=false:=by simpa using h3
  have g5:(kd==5)=false:=by simpa using h5
  have g7:(kd==7)=false:=by simpa using h7
  have g11:(kd==11)=false:=by simpa using oe
  have g12:(kd==12)=false:=by simpa using nQ
  have g13:(kd==13)=false:=by simpa using eE
  have g6:(kd==6)=false:=by simpa using h6
  have g8:(kd==8)=false:=by simpa using h8
  have g10:(kd==10)=false:=by simpa using kU
  have g9:(kd==9)=false:=by simpa using h9
  refine ab ?_;exact ⟨_,_,Wk.av aj,rfl,rfl⟩
 ·rintro _ _ ⟨rfl,rfl⟩;generalize cV kd t.kids.length=b0;refine ab ?_;refine GW.range (bS t.kids).length (fun k fr Γ=>fr=[.any,.any,.any,.any,.v (.bool (b0&&(t.kids.take k).all fQ)),.any,.any,.any,.any,.any,.any,.any,.any,.any,.any,.any,.any,.any,.any,.any,.any,.any,.any,.any,.any,.any,.any,.any,.any,.any,.any,.any,.any,.any,.any,.any,.any,.any,.any,.any,.any,.any,.any,.any,.any,.any,.any,.any,.any,.any,.any,.sl 1 (bS t.kids),.v (ii ((bS t.kids).length:Int)),.v (ii (k:Nat)),.any,.any,.any,.any,.any,.any,.any,.any,.any,.any]/\Γ=[]) ?_ (by omega) ?_ ?_ ?_
  ·refine ⟨_,_,Wk.av (bM:=[.any,.any,.any,.any,.v (.bool b0),.any,.any,.any,.any,.any,.any,.any,.any,.any,.any,.any,.any,.any,.any,.any,.any,.any,.any,.any,.any,.any,.any,.any,.any,.any,.any,.any,.any,.any,.any,.any,.any,.any,.any,.any,.any,.any,.any,.any,.any,.any,.any,.any,.any,.any,.any,.sl 1 (bS t.kids),.v (ii ((bS t.kids).length:Int)),.v (ii (0:Nat)),.any,.any,.any,.any,.any,.any,.any,.any,.any,.any]) aj,?_,rfl⟩;rw [List.take_zero,List.all_nil,Bool.and_true]
  ·rintro k _ _ ⟨rfl,rfl⟩;exact ⟨rfl,rfl,rfl⟩
  ·rintro k _ _ ao ⟨rfl,rfl⟩;rw [oT] at ao;obtain ⟨xJ,jV⟩:∃ xJ,t.kids[k]?=some xJ:=⟨t.kids[k],by simp [ao]⟩;have hr:=vw jV;have b6:=Go.Xp.uC jV;have hle:=Go.Xp.uB t.kids (k+1);have CQ:=ih xJ (by omega) (by omega)
   have aK:(t.kids.take (k+1)).all fQ=((t.kids.take k).all fQ&&fQ xJ):=by rw [take_add_one,jV,List.all_append];simp
   rw [aK,<-Bool.and_assoc];generalize (b0&&(t.kids.take k).all fQ)=b at *
   cases b with
   | true =>
    refine ab ?_;refine U [] (CQ) ?_;exact ⟨rfl,rfl,_,_,Wk.av aj,rfl,rfl⟩
   | false =>
    refine ab ?_;exact ⟨rfl,rfl,_,_,Wk.av aj,rfl,rfl⟩
  ·rintro _ _ ⟨rfl,rfl⟩;rw [oT,take_length];exact ar
def wz (l:List T):Int:=match l.findIdx? (fun t=>!(fQ t)) with | some i=>(i:Int) | none => -1
theorem L0 (t:T) (hb:aB t<=1099511627776):GF Tryz.prog 108 [uT t] [] (.v (.bool (!(fQ t)))) []:=by
 have h:=N9 _ t (Nat.le_refl _) hb;generalize fQ t=b at *;refine ah Tryz.func108 Tryz.ntmps108 ?_;refine U [] (h) ?_;exact al
theorem Gh (l:List T) (hl:l.length<=1099511627776) (hb:∀ t∈l,aB t<=1099511627776) :
  GF Tryz.prog 133 [.sl 1 (bS l),.v (.func (.func 108) #[] #[])] [] (.v (ii (wz l))) []:=by
 have oT:=qB l;refine ah Tryz.func133 Tryz.ntmps133 ?_;refine GW.range (bS l).length (fun k fr Γ=>fr=[.sl 1 (bS l),.v (.func (.func 108) #[] #[]),.any,.any,.any,.any,.any,.v (ii ((bS l).length:Int)),.v (ii (k:Nat)),.any,.any,.any,.any,.any,.any,.any,.any,.any,.any]/\Γ=[]/\(l.take k).all fQ=true) ?_ (by omega) ?_ ?_ ?_
 ·exact ⟨_,_,Wk.av aj,rfl,rfl,rfl⟩
 ·rintro k _ _ ⟨rfl,rfl,_⟩;exact ⟨rfl,rfl,rfl⟩
 ·rintro k _ _ ao ⟨rfl,rfl,aK⟩;rw [oT] at ao
  have cH:l[k]?=some l[k]:=by simp [ao]
  have hr:=vw cH;have bV:=L0 l[k] (hb _ (List.getElem_mem ao))
  have bm:(l.take (k+1)).all fQ=((l.take k).all fQ&&fQ l[k]):=by rw [take_add_one,cH,List.all_append];simp
  have y8:fQ l[k]=false->wz l=(k:Int):=fun h0=>by
   have:l.findIdx? (fun t=>!(fQ t))=some k:=by
    rw [List.findIdx?_eq_some_iff_getElem];refine ⟨ao,by simp [h0],fun j hj=>?_⟩;rw [all_eq_true] at aK;have:=aK l[j] (by rw [List.mem_take_iff_getElem];exact ⟨j,by omega,rfl⟩);simp [this]
   unfold wz;rw [this]
  generalize l[k]=t at *
  cases hk:fQ t with
  | true =>
   rw [hk] at bV bm;refine ab ?_;refine iw [] (bV) ?_;refine ab ?_;exact ⟨rfl,rfl,_,_,Wk.av aj,rfl,rfl,by rw [bm,aK];rfl⟩
  | false =>
   rw [hk] at bV;rw [y8 hk];refine ab ?_;refine iw [] (bV) ?_;exact ar
 ·rintro _ _ ⟨rfl,rfl,aK⟩;rw [oT,take_length] at aK
  have:l.findIdx? (fun t=>!(fQ t))=none:=by
   rw [List.findIdx?_eq_none_iff];intro x hx;rw [all_eq_true] at aK;simp [aK x hx]
  unfold wz;rw [this];exact ar
theorem Oz (l:List T):decide ((0:Int)<=wz l)=!(l.all fQ):=by
 unfold wz
 cases h:l.findIdx? (fun t=>!(fQ t)) with
 | some i =>
  rw [List.findIdx?_eq_some_iff_getElem] at h;obtain ⟨h1,h2,_⟩:=h
  have:l.all fQ=false:=by
   rw [List.all_eq_false];exact ⟨l[i],List.getElem_mem _,by simpa using h2⟩
  rw [this];simp
 | none =>
  rw [List.findIdx?_eq_none_iff] at h
  have:l.all fQ=true:=by rw [all_eq_true];intro x hx;simpa using h x hx
  rw [this];rfl
theorem uE (l:List T) (hl:l.length<=1099511627776) (hb:∀ t∈l,aB t<=1099511627776) :
  GF Tryz.prog 107 [.sl 1 (bS l),.v (.func (.func 108) #[] #[])] [] (.v (.bool (!(l.all fQ)))) []:=by
 have h:=Gh l hl hb;rw [<-Oz];generalize wz l=z at *;refine ah Tryz.func107 Tryz.ntmps107 ?_;refine U [] (h) ?_;exact al
end Go.Xg
set_option maxHeartbeats 2000000
namespace Go.Xg
open Go.RowKit Go.Xw Go.Proofs
open Go.Xp (Tok Nd T Ar aB aw dX)
open Go.Sp (Src)
open Go.Im
attribute [local irreducible] GW GL GO YG GC GA aQ aR
theorem Pj:Wr 111 112 cJ fu :=
 ⟨fun a h1 h2 h3=>RN _ a (Nat.le_refl _) h1 h2 h3,fun l d h1 h2 h3=>N3 l d h1 h2,fun l d s h=>N4 h⟩
theorem DK (p:Src) (h:p.nodes.length > 800):GF Tryz.prog 92 [.agg (ak p)] [] (.v (.bool false)) []:=by
 have hm:(p.nodes.map au).length=p.nodes.length:=by simp
 have hd:decide ((800:Int) < ((p.nodes.map au).length:Int))=true:=by rw [hm];simpa using by omega
 refine ah Tryz.func92 Tryz.ntmps92 ?_;exact al
theorem Bu (p:Src) (h:p.nodes.length<=800) (hk:∀ n∈p.nodes,n.kids.length<=1099511627776) (hf:p.fns.length<=1099511627776) (hb:iq p.nodes p.fns 0 []=none):GF Tryz.prog 92 [.agg (ak p)] [] (.v (.bool false)) []:=by
 have hm:(p.nodes.map au).length=p.nodes.length:=by simp
 have hd:decide ((800:Int) < ((p.nodes.map au).length:Int))=false:=by rw [hm];simpa using by omega
 have hB:=vM p (by omega) hk hf;rw [hb] at hB;unfold BE at hB;refine ah Tryz.func92 Tryz.ntmps92 ?_;refine U [] (hB) ?_;exact al
theorem Gc (p:Src) (l:List T) (e:Nat) (h:p.nodes.length<=800) (hk:∀ n∈p.nodes,n.kids.length<=1099511627776) (hf:p.fns.length<=1099511627776) (hb:iq p.nodes p.fns 0 []=some (l,e)) (he:e≠p.nodes.length):GF Tryz.prog 92 [.agg (ak p)] [] (.v (.bool false)) []:=by
 have hm:(p.nodes.map au).length=p.nodes.length:=by simp
 have hd:decide ((800:Int) < ((p.nodes.map au).length:Int))=false:=by rw [hm];simpa using by omega
 have hB:=vM p (by omega) hk hf;rw [hb] at hB;unfold BE at hB;simp only at hB;rw [show ((e:Int)==(p.nodes.length:Int))=false by simp only [beq_eq_false_iff_ne,ne_eq];omega] at hB;refine ah Tryz.func92 Tryz.ntmps92 ?_;refine U [] (hB) ?_;exact al
theorem DJ (p:Src) (l:List T) (h:p.nodes.length<=800) (hk:∀ n∈p.nodes,n.kids.length<=1099511627776) (hf:p.fns.length<=1099511627776) (hb:iq p.nodes p.fns 0 []=some (l,p.nodes.length)) (hl:l.length<=1099511627776) (hs:∀ t∈l,aB t<=1099511627776) (hn:l.all fQ=false):GF Tryz.prog 92 [.agg (ak p)] [] (.v (.bool false)) []:=by
 have hm:(p.nodes.map au).length=p.nodes.length:=by simp
 have hd:decide ((800:Int) < ((p.nodes.map au).length:Int))=false:=by rw [hm];simpa using by omega
 have hB:=vM p (by omega) hk hf;rw [hb] at hB;unfold BE at hB;simp only at hB;rw [show ((p.nodes.length:Int)==(p.nodes.length:Int))=true by simp] at hB;have hC:=uE l hl hs;rw [hn] at hC;refine ah Tryz.func92 Tryz.ntmps92 ?_;refine U [] (hB) ?_;refine U [] (hC) ?_;exact al
theorem Mz (st:PS) (h:st.fns.length=st.trees.length):mQ st.fns st.trees st.trees.length=(oz st).map aq:=by
 unfold mQ oz;apply ext_getElem?;intro i;rw [getElem?_map,getElem?_mapIdx,getElem?_mapIdx]
 cases hx:st.fns[i]? with
 | none=>rfl
 | some x =>
  have hi:=(List.getElem?_eq_some_iff.1 hx).1;simp only [Option.map_some];rw [if_pos (by omega)];rfl
def Qc (st:PS):Src:=⟨st.globals,st.arrays,oz st,dX 0 st.trees⟩
theorem TP {q:Go.Sp.RS} {st:PS} (hc:q.code=0) (h8:¬ aw st.trees > 800) (h:st.fns.length=st.trees.length):H9 q st=.tup [.agg (ak (Qc st)),.v (ii 0),.v (ii 0)]:=by
 unfold H9;rw [if_pos hc,if_neg h8,Mz st h];rfl
theorem Gd (p:Src) (l:List T) (x:ae) (ts:List Tok) (c z:Int) (h:p.nodes.length<=800) (hB:GF Tryz.prog 106 [.agg (ak p)] [] (.tup [.sl 1 (bS l),.v (.bool true)]) [])
  (hC:GF Tryz.prog 107 [.sl 1 (bS l),.v (.func (.func 108) #[] #[])] [] (.v (.bool false)) [])
  (hL:GF Tryz.prog 110 [.agg (ak p),.sl 1 (bS l),.v (iy 111),.v (iy 112)] [] (.v (sv x)) [])
  (hX:GF Tryz.prog 113 [.v (sv x)] [] (.tup [iv ts,.v (ii c),.v (ii z)]) []) (hc:(c != 0)=true) :
  GF Tryz.prog 92 [.agg (ak p)] [] (.v (.bool false)) []:=by
 have hm:(p.nodes.map au).length=p.nodes.length:=by simp
 have hd:decide ((800:Int) < ((p.nodes.map au).length:Int))=false:=by rw [hm];simpa using by omega
 refine ah Tryz.func92 Tryz.ntmps92 ?_;refine U [] (hB) ?_;refine U [] (hC) ?_;refine U [] (hL) ?_;refine U [] (hX) ?_;exact al
theorem yO (p:Src) (l:List T) (x:ae) (ts:List Tok) (c k a:Int) (h:p.nodes.length<=800) (hB:GF Tryz.prog 106 [.agg (ak p)] [] (.tup [.sl 1 (bS l),.v (.bool true)]) [])
  (hC:GF Tryz.prog 107 [.sl 1 (bS l),.v (.func (.func 108) #[] #[])] [] (.v (.bool false)) [])
  (hL:GF Tryz.prog 110 [.agg (ak p),.sl 1 (bS l),.v (iy 111),.v (iy 112)] [] (.v (sv x)) [])
  (hX:GF Tryz.prog 113 [.v (sv x)] [] (.tup [iv ts,.v (ii 0),.v (ii c)]) [])
  (hP:GF Tryz.prog 114 [iv ts,.v (ii (x.length:Int))] [] (.tup [.agg [.sl 1 [],.sl 2 [],.sl 3 [],.sl 5 []],.v (ii k),.v (ii a)]) []) (hk:(k==0)=false) :
  GF Tryz.prog 92 [.agg (ak p)] [] (.v (.bool false)) []:=by
 have hm:(p.nodes.map au).length=p.nodes.length:=by simp
 have hd:decide ((800:Int) < ((p.nodes.map au).length:Int))=false:=by rw [hm];simpa using by omega
 refine ah Tryz.func92 Tryz.ntmps92 ?_;refine U [] (hB) ?_;refine U [] (hC) ?_;refine U [] (hL) ?_;refine U [] (hX) ?_;refine U [] (hP) ?_;exact al
theorem IC (p r:Src) (l:List T) (x:ae) (ts:List Tok) (c:Int) (h:p.nodes.length<=800) (hB:GF Tryz.prog 106 [.agg (ak p)] [] (.tup [.sl 1 (bS l),.v (.bool true)]) [])
  (hC:GF Tryz.prog 107 [.sl 1 (bS l),.v (.func (.func 108) #[] #[])] [] (.v (.bool false)) [])
  (hL:GF Tryz.prog 110 [.agg (ak p),.sl 1 (bS l),.v (iy 111),.v (iy 112)] [] (.v (sv x)) [])
  (hX:GF Tryz.prog 113 [.v (sv x)] [] (.tup [iv ts,.v (ii 0),.v (ii c)]) [])
   (hg:GF Tryz.prog 115 [strs p.globals,strs r.globals] [] (.v (.bool false)) [])
  (hP:GF Tryz.prog 114 [iv ts,.v (ii (x.length:Int))] [] (.tup [.agg (ak r),.v (ii 0),.v (ii 0)]) []) :
  GF Tryz.prog 92 [.agg (ak p)] [] (.v (.bool false)) []:=by
 have hm:(p.nodes.map au).length=p.nodes.length:=by simp
 have hd:decide ((800:Int) < ((p.nodes.map au).length:Int))=false:=by rw [hm];simpa using by omega
 refine ah Tryz.func92 Tryz.ntmps92 ?_;refine U [] (hB) ?_;refine U [] (hC) ?_;refine U [] (hL) ?_;refine U [] (hX) ?_;refine U [] (hP) ?_;refine U [] (hg) ?_;exact al
theorem ID (p r:Src) (l:List T) (x:ae) (ts:List Tok) (c:Int) (h:p.nodes.length<=800) (hB:GF Tryz.prog 106 [.agg (ak p)] [] (.tup [.sl 1 (bS l),.v (.bool true)]) [])
  (hC:GF Tryz.prog 107 [.sl 1 (bS l),.v (.func (.func 108) #[] #[])] [] (.v (.bool false)) [])
  (hL:GF Tryz.prog 110 [.agg (ak p),.sl 1 (bS l),.v (iy 111),.v (iy 112)] [] (.v (sv x)) [])
  (hX:GF Tryz.prog 113 [.v (sv x)] [] (.tup [iv ts,.v (ii 0),.v (ii c)]) [])
   (hg:GF Tryz.prog 115 [strs p.globals,strs r.globals] [] (.v (.bool true)) [])
  (ha:GF Tryz.prog 116 [(.sl 2 (p.arrays.map fun s=>ay s)),(.sl 2 (r.arrays.map fun s=>ay s))] [] (.v (.bool false)) [])
  (hP:GF Tryz.prog 114 [iv ts,.v (ii (x.length:Int))] [] (.tup [.agg (ak r),.v (ii 0),.v (ii 0)]) []) :
  GF Tryz.prog 92 [.agg (ak p)] [] (.v (.bool false)) []:=by
 have hm:(p.nodes.map au).length=p.nodes.length:=by simp
 have hd:decide ((800:Int) < ((p.nodes.map au).length:Int))=false:=by rw [hm];simpa using by omega
 refine ah Tryz.func92 Tryz.ntmps92 ?_;refine U [] (hB) ?_;refine U [] (hC) ?_;refine U [] (hL) ?_;refine U [] (hX) ?_;refine U [] (hP) ?_;refine U [] (hg) ?_;refine U [] (ha) ?_;exact al
theorem IF (p r:Src) (l:List T) (x:ae) (ts:List Tok) (c:Int) (h:p.nodes.length<=800) (hB:GF Tryz.prog 106 [.agg (ak p)] [] (.tup [.sl 1 (bS l),.v (.bool true)]) [])
  (hC:GF Tryz.prog 107 [.sl 1 (bS l),.v (.func (.func 108) #[] #[])] [] (.v (.bool false)) [])
  (hL:GF Tryz.prog 110 [.agg (ak p),.sl 1 (bS l),.v (iy 111),.v (iy 112)] [] (.v (sv x)) [])
  (hX:GF Tryz.prog 113 [.v (sv x)] [] (.tup [iv ts,.v (ii 0),.v (ii c)]) [])
   (hg:GF Tryz.prog 115 [strs p.globals,strs r.globals] [] (.v (.bool true)) [])
  (ha:GF Tryz.prog 116 [(.sl 2 (p.arrays.map fun s=>ay s)),(.sl 2 (r.arrays.map fun s=>ay s))] [] (.v (.bool true)) [])
  (hf:GF Tryz.prog 117 [.sl 3 (p.fns.map aq),.sl 3 (r.fns.map aq),.v (.func (.func 118) #[] #[])] [] (.v (.bool false)) [])
  (hP:GF Tryz.prog 114 [iv ts,.v (ii (x.length:Int))] [] (.tup [.agg (ak r),.v (ii 0),.v (ii 0)]) []) :
  GF Tryz.prog 92 [.agg (ak p)] [] (.v (.bool false)) []:=by
 have hm:(p.nodes.map au).length=p.nodes.length:=by simp
 have hd:decide ((800:Int) < ((p.nodes.map au).length:Int))=false:=by rw [hm];simpa using by omega
 refine ah Tryz.func92 Tryz.ntmps92 ?_;refine U [] (hB) ?_;refine U [] (hC) ?_;refine U [] (hL) ?_;refine U [] (hX) ?_;refine U [] (hP) ?_;refine U [] (hg) ?_;refine U [] (ha) ?_;refine U [] (hf) ?_;exact al
theorem IG (p r:Src) (l:List T) (x:ae) (ts:List Tok) (c:Int) (b:Bool) (h:p.nodes.length<=800) (hB:GF Tryz.prog 106 [.agg (ak p)] [] (.tup [.sl 1 (bS l),.v (.bool true)]) [])
  (hC:GF Tryz.prog 107 [.sl 1 (bS l),.v (.func (.func 108) #[] #[])] [] (.v (.bool false)) [])
  (hL:GF Tryz.prog 110 [.agg (ak p),.sl 1 (bS l),.v (iy 111),.v (iy 112)] [] (.v (sv x)) [])
  (hX:GF Tryz.prog 113 [.v (sv x)] [] (.tup [iv ts,.v (ii 0),.v (ii c)]) [])
   (hg:GF Tryz.prog 115 [strs p.globals,strs r.globals] [] (.v (.bool true)) [])
  (ha:GF Tryz.prog 116 [(.sl 2 (p.arrays.map fun s=>ay s)),(.sl 2 (r.arrays.map fun s=>ay s))] [] (.v (.bool true)) [])
  (hf:GF Tryz.prog 117 [.sl 3 (p.fns.map aq),.sl 3 (r.fns.map aq),.v (.func (.func 118) #[] #[])] [] (.v (.bool true)) [])
  (hn:GF Tryz.prog 119 [.sl 5 (p.nodes.map au),.sl 5 (r.nodes.map au),.v (.func (.func 120) #[] #[])] [] (.v (.bool b)) [])
  (hP:GF Tryz.prog 114 [iv ts,.v (ii (x.length:Int))] [] (.tup [.agg (ak r),.v (ii 0),.v (ii 0)]) []) :
  GF Tryz.prog 92 [.agg (ak p)] [] (.v (.bool b)) []:=by
 have hm:(p.nodes.map au).length=p.nodes.length:=by simp
 have hd:decide ((800:Int) < ((p.nodes.map au).length:Int))=false:=by rw [hm];simpa using by omega
 refine ah Tryz.func92 Tryz.ntmps92 ?_;refine U [] (hB) ?_;refine U [] (hC) ?_;refine U [] (hL) ?_;refine U [] (hX) ?_;refine U [] (hP) ?_;refine U [] (hg) ?_;refine U [] (ha) ?_;refine U [] (hf) ?_;refine U [] (hn) ?_;exact al
theorem DL (p r:Src) (l:List T) (x:ae) (ts:List Tok) (c:Int) (b1 b2 b3 b4:Bool) (h:p.nodes.length<=800) (hB:GF Tryz.prog 106 [.agg (ak p)] [] (.tup [.sl 1 (bS l),.v (.bool true)]) [])
  (hC:GF Tryz.prog 107 [.sl 1 (bS l),.v (.func (.func 108) #[] #[])] [] (.v (.bool false)) [])
  (hL:GF Tryz.prog 110 [.agg (ak p),.sl 1 (bS l),.v (iy 111),.v (iy 112)] [] (.v (sv x)) [])
  (hX:GF Tryz.prog 113 [.v (sv x)] [] (.tup [iv ts,.v (ii 0),.v (ii c)]) [])
  (hg:GF Tryz.prog 115 [strs p.globals,strs r.globals] [] (.v (.bool b1)) [])
  (ha:GF Tryz.prog 116 [(.sl 2 (p.arrays.map fun s=>ay s)),(.sl 2 (r.arrays.map fun s=>ay s))] [] (.v (.bool b2)) [])
  (hf:GF Tryz.prog 117 [.sl 3 (p.fns.map aq),.sl 3 (r.fns.map aq),.v (.func (.func 118) #[] #[])] [] (.v (.bool b3)) [])
  (hn:GF Tryz.prog 119 [.sl 5 (p.nodes.map au),.sl 5 (r.nodes.map au),.v (.func (.func 120) #[] #[])] [] (.v (.bool b4)) [])
  (hP:GF Tryz.prog 114 [iv ts,.v (ii (x.length:Int))] [] (.tup [.agg (ak r),.v (ii 0),.v (ii 0)]) []) :
  GF Tryz.prog 92 [.agg (ak p)] [] (.v (.bool (b1&&(b2&&(b3&&b4))))) []:=by
 cases b1 with
 | false=>exact IC p r l x ts c h hB hC hL hX hg hP
 | true =>
  cases b2 with
  | false=>exact ID p r l x ts c h hB hC hL hX hg ha hP
  | true =>
   cases b3 with
   | false=>exact IF p r l x ts c h hB hC hL hX hg ha hf hP
   | true=>exact IG p r l x ts c b4 h hB hC hL hX hg ha hf hn hP
end Go.Xg
set_option maxHeartbeats 1000000
namespace Go.Xg
open Go.RowKit Go.Xw Go.Proofs
open Go.Xp (Tok Nd T Ar aB aw dX)
open Go.Sp (Src)
open Go.Im
attribute [local irreducible] GW GL GO YG GC GA aQ aR
theorem K8 {st:PS} {f:Go.Sp.Fn} (h:f∈oz st):∃ x∈st.fns,f.params=x.2:=by
 unfold oz at h;obtain ⟨i,hi⟩:=List.getElem?_of_mem h;rw [getElem?_mapIdx] at hi
 cases hx:st.fns[i]? with
 | none=>rw [hx] at hi;cases hi
 | some x=>rw [hx] at hi;cases hi;exact ⟨x,mem_of_getElem? hx,rfl⟩
theorem Kd (p:Src) (hw:cj p<=1048576) (hn:im p):GF Tryz.prog 92 [.agg (ak p)] [] (.v (.bool (fI p))) []:=by
 obtain ⟨⟨s1,s2⟩,⟨s3,s4⟩,⟨s5,s6⟩,⟨s7,s8⟩⟩:=dZ p
 have ef:∀ n∈p.nodes,n.kids.length<=1099511627776:=fun n h=>by have:=(s8 n h).2;omega
 have hB:=vM p (by omega) ef (by omega);unfold fI
 by_cases h8:p.nodes.length > 800
 ·rw [if_pos h8];exact DK p h8
 rw [if_neg h8]
 cases hb:iq p.nodes p.fns 0 [] with
 | none=>exact Bu p (by omega) ef (by omega) hb
 | some y =>
  obtain ⟨l,e⟩:=y;simp only
  by_cases he:e≠p.nodes.length
  ·rw [if_pos he];exact Gc p l e (by omega) ef (by omega) hb he
  rw [if_neg he]
  have he:e=p.nodes.length:=by simpa using he
  subst he;obtain ⟨l',h1,h2,h3,h4,h5⟩:=BG _ _ _ _ _ hb;rw [nil_append] at h1;subst h1
  have hz:aw l=p.nodes.length:=by omega
  have ZP:=Q0 hn h2 hz;have oT:=FV h2 hz;have oS:=fw.len h3;have Xc:=dh.num hn.nodes l 0 h2
  by_cases hk:l.all fQ=false
  ·rw [if_pos hk];exact DJ p l (by omega) ef (by omega) hb (by omega) (fun t ht=>by have:=(oT t ht).2;omega) hk
  rw [if_neg hk]
  have hk:l.all fQ=true:=by simpa using hk
  obtain ⟨ts,c,z,q,st,hr⟩:=reads (mA cJ fu p l);rw [Aa hr];rw [hb] at hB;unfold BE at hB;simp only at hB;rw [show ((p.nodes.length:Int)==(p.nodes.length:Int))=true by simp] at hB;have hC:=uE l (by omega) (fun t ht=>by have:=(oT t ht).2;omega);rw [hk] at hC;have hL:=Og 111 112 cJ fu Pj p l (by omega) (by omega) (by omega) (by omega) (by omega) hn.arrays (fun f h=>by have:=(s6 f h).2.1;omega)
   (fun t ht=>⟨List.all_eq_true.1 hk t ht,jw Xc ht,by have:=(oT t ht).1;omega,by have:=(oT t ht).2;omega⟩)
  have hX:=Ou _ _ ts c z (by omega) hr.lex;have Z7:=hr.len;have hP:=GJ ts (((mA cJ fu p l).length:Nat):Int) q st (by omega) (by omega) (fun h=>by have:=(hr.ok h).2;omega) hr.read;have iO:=LW _ _ _ _ _ _ (Nat.le_refl _) hr.read ⟨Nat.zero_le _,Nat.zero_le _,Nat.zero_le _,fun x h=>by cases h⟩;have fc:=hr.ok;clear hr hb;generalize hxg:mA cJ fu p l=x at *
  by_cases hc:c≠0
  ·rw [if_pos hc];exact Gd p l x ts c z (by omega) hB hC hL hX (by simpa using hc)
  rw [if_neg hc]
  have hc:c=0:=by simpa using hc
  subst hc
  by_cases hq:q.code≠0
  ·rw [if_pos hq];unfold H9 at hP;rw [if_neg hq] at hP;exact yO p l x ts z q.code q.at_ (by omega) hB hC hL hX hP (by simpa using hq)
  rw [if_neg hq]
  have hq:q.code=0:=by simpa using hq
  obtain ⟨CV,LP⟩:=fc hq
  by_cases h9:aw st.trees > 800
  ·rw [if_pos h9];unfold H9 at hP;rw [if_pos hq,if_pos h9] at hP;exact yO p l x ts z 10 0 (by omega) hB hC hL hX hP (by decide)
  rw [if_neg h9];rw [TP hq h9 CV.len] at hP;obtain ⟨m1,m2,m3,m4⟩:=iO
  have gV:(dX 0 st.trees).length<=800:=by rw [Go.Xp.yl];omega
  unfold same;refine DL p (Qc st) l x ts z _ _ _ _ (by omega) hB hC hL hX ?_ ?_ ?_ ?_ hP
  ·exact GX _ _ (by omega) (by show st.globals.length<=_;omega)
  ·exact Qp _ _ (by omega) (by show st.arrays.length<=_;omega)
  ·refine Ga p.fns (oz st) (by omega) ?_ (fun f h=>by have:=(s6 f h).2.1;omega) (fun f h=>?_)
   ·unfold oz;rw [List.length_mapIdx];omega
   ·obtain ⟨y,hy,h6⟩:=K8 h;rw [h6];have:=m4 y hy;omega
  ·exact Gb p.nodes (dX 0 st.trees) (by omega) (by omega) ef (fun n h=>by have:=zI st.trees 0 n h;omega)
theorem Pg (n lo hi:Int):GF Tryz.prog 83 [.v (ii n),.v (ii lo),.v (ii hi)] [] (.v (.bool (decide (lo<=n)&&decide (n<=hi)))) []:=by
 cases h:decide (lo<=n)
 all_goals
  refine ah Tryz.func83 Tryz.ntmps83 ?_;exact al
end Go.Xg
set_option maxHeartbeats 2000000
namespace Go.Im
open Go.Xp Go.Sp
theorem A8 (p:Src):(bW p).length=p.globals.length+p.arrays.length+p.fns.length:=by simp [bW,dU,ir];omega
end Go.Im
namespace Go.Xg
open Go.RowKit Go.Xw Go.Proofs
open Go.Xp (Nd Ar)
open Go.Sp (Src)
open Go.Im
attribute [local irreducible] GW GL GO YG GC GA aQ aR
theorem wD:∀ l:List ae,mP (aX l)=true
 | []=>rfl
 | s::l=>by
  have:=wD l;unfold aX at this |-;rw [List.map_cons,mP,this];rfl
theorem nt (l:List ae):(aX l).length=l.length:=by simp [aX]
theorem IP (p:Src) (hw:cj p<=1048576):GC Tryz.prog 93 [.agg (ak p)] [] fun g Δ=>∃ a c,g=.v (.slice a (bW p).length c)/\Δ=[.vech 9 1 (aX (bW p)) (.slice a (bW p).length c)]:=by
 obtain ⟨⟨a1,a2⟩,⟨b1,b2⟩,⟨c1,c2⟩,⟨d1,d2⟩⟩:=dZ p
 have u6:(p.globals.map fun s=>[GV.v (sv s)]).length=p.globals.length:=by simp
 have eH:mP (p.globals.map fun s=>[GV.v (sv s)])=true:=wD p.globals;refine cM Tryz.func93 Tryz.ntmps93 ?_;refine GW.wk (Wk.lY 9 1) ?_;simp only [nil_append];refine ab ?_;refine GL.yb 0 rfl rfl rfl rfl eH (by refine ⟨?_,?_⟩;(· rw [u6];omega);(· rw [u6];omega)) ?_;intro a c;rw [u6];refine bZ ?_;simp only [nil_append,List.length_nil,Nat.zero_add];refine ab ?_;refine GW.range (p.arrays.map ay).length (fun k fr Γ=>∃ a c R n,fr=[.any,.loc 1 0,.any,.v (.slice a n c),.any,.any,.any,.any,.any,.any,.any,.any,.sl 2 (p.arrays.map ay),.v (ii ((p.arrays.map ay).length:Int)),.v (ii (k:Nat)),.any,.any,.any,.any,.any,.any,.any,.any,.any,.any,.any,.any,.any,.any,.any,.any,.any,.any,.any,.any,.any,.any,.any]/\Γ=[.vech 9 1 R (.slice a n c),.box 34 (ak p)]/\R.length=n/\R=aX (p.globals++(dU p).take k)) ?_ (by rw [length_map];omega) ?_ ?_ ?_
 ·exact ⟨_,_,Wk.av aj,_,_,_,_,rfl,rfl,u6,by simp [aX]⟩
 ·rintro k _ _ ⟨a,c,R,n,rfl,rfl,_⟩;exact ⟨rfl,rfl,rfl⟩
 ·rintro k _ _ hk ⟨a,c,R,n,rfl,rfl,eF,hR⟩
  have hk:k < p.arrays.length:=by simpa using hk
  have hx:p.arrays[k]?=some p.arrays[k]:=by simp [hk]
  have hr:=Fs hx
  have bm:aX (p.globals++(dU p).take (k+1))=R++[[.v (sv p.arrays[k].name)]]:=by
   have:(dU p)[k]?=some p.arrays[k].name:=by rw [dU,getElem?_map,hx];rfl
   rw [take_add_one,this,hR];simp [aX]
  have u9:n<=4194304:=by
   rw [<-eF,hR,nt,length_append,length_take];omega
  clear hR;unfold ay at hr;generalize p.arrays[k]=x at *;refine ab ?_;refine GL.qM 0 rfl rfl rfl rfl rfl rfl rfl rfl (by first | rfl | assumption) ⟨⟨by omega,by omega⟩,by decide⟩ ?_;intro a2 c2;refine cS ?_;refine ab ?_;exact ⟨rfl,rfl,_,_,(Wk.cut (n:=2) (Nat.zero_le _) rfl).trans (Wk.av aj),a2,c2,_,_,rfl,rfl,by simp [eF],bm.symm⟩
 ·rintro _ _ ⟨a,c,R,n,rfl,rfl,eF,hR⟩;rw [length_map,show p.arrays.length=(dU p).length by simp [dU],take_length] at hR;refine aJ ?_;refine ab ?_;refine GW.range (p.fns.map aq).length (fun k fr Γ=>∃ a c R n,fr=[.any,.loc 1 0,.any,.v (.slice a n c),.any,.any,.any,.any,.any,.any,.any,.any,.any,.any,.any,.any,.any,.any,.any,.any,.any,.any,.any,.any,.any,.sl 3 (p.fns.map aq),.v (ii ((p.fns.map aq).length:Int)),.v (ii (k:Nat)),.any,.any,.any,.any,.any,.any,.any,.any,.any,.any]/\Γ=[.vech 9 1 R (.slice a n c),.box 34 (ak p)]/\R.length=n/\R=aX ((p.globals++dU p)++(ir p).take k)) ?_ (by rw [length_map];omega) ?_ ?_ ?_
  ·exact ⟨_,_,Wk.av aj,_,_,_,_,rfl,rfl,eF,by rw [hR];simp⟩
  ·rintro k _ _ ⟨a,c,R,n,rfl,rfl,_⟩;exact ⟨rfl,rfl,rfl⟩
  ·rintro k _ _ hk ⟨a,c,R,n,rfl,rfl,eF,hR⟩
   have hk:k < p.fns.length:=by simpa using hk
   have hx:p.fns[k]?=some p.fns[k]:=by simp [hk]
   have hr:=Be hx
   have bm:aX ((p.globals++dU p)++(ir p).take (k+1))=R++[[.v (sv p.fns[k].name)]]:=by
    have:(ir p)[k]?=some p.fns[k].name:=by rw [ir,getElem?_map,hx];rfl
    rw [take_add_one,this,hR];simp [aX]
   have u9:n<=4194304:=by
    rw [<-eF,hR,nt,length_append,length_append,length_take,dU,length_map];omega
   clear hR;unfold aq at hr;generalize p.fns[k]=x at *;refine ab ?_;refine GL.qM 0 rfl rfl rfl rfl rfl rfl rfl rfl (by first | rfl | assumption) ⟨⟨by omega,by omega⟩,by decide⟩ ?_;intro a2 c2;refine cS ?_;refine ab ?_;exact ⟨rfl,rfl,_,_,(Wk.cut (n:=2) (Nat.zero_le _) rfl).trans (Wk.av aj),a2,c2,_,_,rfl,rfl,by simp [eF],bm.symm⟩
  ·rintro _ _ ⟨a,c,R,n,rfl,rfl,eF,hR⟩;rw [length_map,show p.fns.length=(ir p).length by simp [ir],take_length] at hR
   have va:n=(bW p).length:=by rw [<-eF,hR,nt];rfl
   subst va;refine aJ ?_;refine ab ?_
   (repeat (first | refine GW.ret ?_ | refine cL ?_ | refine cK ?_ | refine aJ ?_ | refine b7 ?_))
   exact ql (n:=1) rfl (by first | exact .inr rfl | exact .inl rfl) rfl (Nat.zero_le _) rfl rfl ⟨a,c,rfl,by rw [hR];rfl⟩
end Go.Xg
set_option maxHeartbeats 4000000
namespace Go.Im
open Go.Xp Go.Sp
def wV (l:List ae) (k:Nat):Int:=if (List.range k).any (jZ l)=true then 21 else 0
theorem Oy (l:List ae) (k:Nat):wV l (k+1)=if jZ l k=true then fL (wV l k) 21 else wV l k:=by
 unfold wV;rw [List.range_succ,List.any_append]
 cases h:(List.range k).any (jZ l) with
 | true=>simp [fL]
 | false=>simp [fL]
theorem Rb (l:List ae):wV l l.length=if dV l=true then 21 else 0:=rfl
end Go.Im
namespace Go.Xg
open Go.RowKit Go.Xw Go.Proofs
open Go.Xp (Nd T Ar aB aw)
open Go.Sp (Src)
open Go.Im
attribute [local irreducible] GW GL GO YG GC GA aQ aR
theorem Jv (p:Src) (hw:cj p<=1048576) :
  GF Tryz.prog 88 [.loc 0 0] [.box 108 (cC p (.slice none 0 0) ⟨[],0,0⟩)] (.tup []) [.box 108 (cC p (.slice none 0 0) ⟨[],(if dV (bW p)=true then 21 else 0),0⟩)]:=by
 obtain ⟨⟨a1,a2⟩,⟨b1,b2⟩,⟨c1,c2⟩,⟨d1,d2⟩⟩:=dZ p
 have u6:(p.globals.map fun s=>[GV.v (sv s)]).length=p.globals.length:=by simp
 have eH:mP (p.globals.map fun s=>[GV.v (sv s)])=true:=wD p.globals;have va:=A8 p;rw [<-Rb]
 have xn:=fun k=>BP p (.slice none 0 0) (wV (bW p) k) 21
 rw [show (0:Int)=wV (bW p) 0 from rfl];unfold cC at xn |-;refine ah Tryz.func88 Tryz.ntmps88 ?_;refine ow ?_;refine ab ?_;refine ow ?_;refine ab ?_;refine GL.Au rfl rfl rfl rfl eH (by refine ⟨?_,?_⟩;(· rw [u6];omega);(· rw [u6];omega)) ?_;rw [u6];refine bZ ?_;simp only [Nat.zero_add];refine ab ?_;refine GW.range (p.arrays.map ay).length (fun k fr Γ=>∃ R n,fr=[.loc 0 0,.any,.vec 1 0,.vec 2 n,.any,.any,.any,.any,.any,.any,.any,.any,.any,.any,.any,.any,.any,.any,.any,.any,.any,.any,.sl 2 (p.arrays.map ay),.v (ii ((p.arrays.map ay).length:Int)),.v (ii (k:Nat)),.any,.any,.any,.any,.any,.any,.any,.any,.any,.any,.any,.any,.any,.any,.any,.any,.any,.any,.any,.any,.any,.any,.any,.any,.any,.any,.any,.any,.any,.any,.any,.any,.any,.any,.any,.any,.any,.any,.any,.any,.any,.any,.any,.any,.any]/\Γ=[.box 108 [strs p.globals,.sl 2 (p.arrays.map ay),.sl 3 (p.fns.map aq),.sl 5 (p.nodes.map au),.v (.slice none 0 0),.v (ii (wV (bW p) 0)),.v (ii 0)],.vec 9 1 0 [],.vec 9 1 0 R]/\R.length=n/\R=aX (p.globals++(dU p).take k)) ?_ (by rw [length_map];omega) ?_ ?_ ?_
 ·exact ⟨_,_,Wk.av aj,_,_,rfl,rfl,u6,by simp [aX,chunk]⟩
 ·rintro k _ _ ⟨R,n,rfl,rfl,_⟩;exact ⟨rfl,rfl,rfl⟩
 ·rintro k _ _ hk ⟨R,n,rfl,rfl,eF,hR⟩
  have hk:k < p.arrays.length:=by simpa using hk
  have hx:p.arrays[k]?=some p.arrays[k]:=by simp [hk]
  have hr:=Fs hx
  have bm:aX (p.globals++(dU p).take (k+1))=R++[[.v (sv p.arrays[k].name)]]:=by
   have:(dU p)[k]?=some p.arrays[k].name:=by rw [dU,getElem?_map,hx];rfl
   rw [take_add_one,this,hR];simp [aX]
  have u9:n<=4194304:=by
   rw [<-eF,hR,nt,length_append,length_take];omega
  have hb:n+1<=9223372036854775807/\(n+1) * 16<=140737488355328:=by omega
  clear hR;unfold ay at hr;generalize p.arrays[k]=x at *;refine ab ?_;refine ea ?_;refine ab ?_;exact ⟨rfl,rfl,_,_,(Wk.cut (n:=3) (Nat.le_of_ble_eq_true rfl) rfl).trans (Wk.av aj),_,_,rfl,rfl,by simp [eF],bm.symm⟩
 ·rintro _ _ ⟨R,n,rfl,rfl,eF,hR⟩;rw [length_map,show p.arrays.length=(dU p).length by simp [dU],take_length] at hR;refine aJ ?_;refine ab ?_;refine GW.range (p.fns.map aq).length (fun k fr Γ=>∃ R n,fr=[.loc 0 0,.any,.vec 1 0,.vec 2 n,.any,.any,.any,.any,.any,.any,.any,.any,.any,.any,.any,.any,.any,.any,.any,.any,.any,.any,.any,.any,.any,.any,.any,.any,.any,.any,.any,.any,.any,.any,.any,.any,.any,.any,.sl 3 (p.fns.map aq),.v (ii ((p.fns.map aq).length:Int)),.v (ii (k:Nat)),.any,.any,.any,.any,.any,.any,.any,.any,.any,.any,.any,.any,.any,.any,.any,.any,.any,.any,.any,.any,.any,.any,.any,.any,.any,.any,.any,.any,.any]/\Γ=[.box 108 [strs p.globals,.sl 2 (p.arrays.map ay),.sl 3 (p.fns.map aq),.sl 5 (p.nodes.map au),.v (.slice none 0 0),.v (ii (wV (bW p) 0)),.v (ii 0)],.vec 9 1 0 [],.vec 9 1 0 R]/\R.length=n/\R=aX ((p.globals++dU p)++(ir p).take k)) ?_ (by rw [length_map];omega) ?_ ?_ ?_
  ·exact ⟨_,_,Wk.av aj,_,_,rfl,rfl,eF,by rw [hR];simp⟩
  ·rintro k _ _ ⟨R,n,rfl,rfl,_⟩;exact ⟨rfl,rfl,rfl⟩
  ·rintro k _ _ hk ⟨R,n,rfl,rfl,eF,hR⟩
   have hk:k < p.fns.length:=by simpa using hk
   have hx:p.fns[k]?=some p.fns[k]:=by simp [hk]
   have hr:=Be hx
   have bm:aX ((p.globals++dU p)++(ir p).take (k+1))=R++[[.v (sv p.fns[k].name)]]:=by
    have:(ir p)[k]?=some p.fns[k].name:=by rw [ir,getElem?_map,hx];rfl
    rw [take_add_one,this,hR];simp [aX]
   have u9:n<=4194304:=by
    rw [<-eF,hR,nt,length_append,length_append,length_take,dU,length_map];omega
   have hb:n+1<=9223372036854775807/\(n+1) * 16<=140737488355328:=by omega
   clear hR;unfold aq at hr;generalize p.fns[k]=x at *;refine ab ?_;refine ea ?_;refine ab ?_;exact ⟨rfl,rfl,_,_,(Wk.cut (n:=3) (Nat.le_of_ble_eq_true rfl) rfl).trans (Wk.av aj),_,_,rfl,rfl,by simp [eF],bm.symm⟩
  ·rintro _ _ ⟨R,n,rfl,rfl,eF,hR⟩;rw [length_map,show p.fns.length=(ir p).length by simp [ir],take_length] at hR;have hR:R=aX (bW p):=hR
   have nc:R.length=(bW p).length:=by rw [hR,nt]
   have SZ:n=R.length:=eF.symm;subst SZ;refine aJ ?_;refine GW.wk (Wk.hY (t:=3) rfl rfl rfl rfl) ?_;refine GW.wk (Wk.cut (n:=2) (Nat.le_of_ble_eq_true rfl) rfl) ?_;refine GW.D5 (bM:=[.loc 0 0,.any,.vec 1 0,.sl 1 R,.any,.any,.any,.any,.any,.any,.any,.any,.any,.any,.any,.any,.any,.any,.any,.any,.any,.any,.any,.any,.any,.any,.any,.any,.any,.any,.any,.any,.any,.any,.any,.any,.any,.any,.any,.any,.any,.any,.any,.any,.any,.any,.any,.any,.any,.any,.any,.any,.any,.any,.any,.any,.any,.any,.any,.any,.any,.any,.any,.any,.any,.any,.any,.any,.any,.any]) (aD:=[.box 108 [strs p.globals,.sl 2 (p.arrays.map ay),.sl 3 (p.fns.map aq),.sl 5 (p.nodes.map au),.v (.slice none 0 0),.v (ii (wV (bW p) 0)),.v (ii 0)],.vec 9 1 0 []]) aj rfl ?_;refine ab ?_;refine GW.range R.length (fun k fr Γ=>∃ S n fz,fr=[.loc 0 0,.any,.vec 1 n,.any,.any,.any,.any,.any,.any,.any,.any,.any,.any,.any,.any,.any,.any,.any,.any,.any,.any,.any,.any,.any,.any,.any,.any,.any,.any,.any,.any,.any,.any,.any,.any,.any,.any,.any,.any,.any,.any,.any,.any,.any,.any,.any,.any,.any,.any,.any,.sl 1 R,.v (ii (R.length:Int)),.v (ii (k:Nat)),.any,.any,.any,.any,.any,.any,.any,.any,.any,.any,.any,.any,.any,.any,.any,.any,.any]/\Γ=[.box 108 [strs p.globals,.sl 2 (p.arrays.map ay),.sl 3 (p.fns.map aq),.sl 5 (p.nodes.map au),.v (.slice none 0 0),.v (ii (wV (bW p) k)),.v (ii 0)],.vec 9 1 fz S]/\S.length=n/\S=aX ((bW p).take k)) ?_ (by omega) ?_ ?_ ?_
   ·exact ⟨_,_,Wk.av aj,_,_,_,rfl,rfl,rfl,by simp [aX]⟩
   ·rintro k _ _ ⟨S,n,fz,rfl,rfl,_⟩;exact ⟨rfl,rfl,rfl⟩
   ·rintro k _ _ hk ⟨S,n,fz,rfl,rfl,pk,hS⟩;rw [nc] at hk;obtain ⟨x,hx⟩:∃ x,(bW p)[k]?=some x:=⟨(bW p)[k],by simp [hk]⟩
    have HF:R[k]?=some [.v (sv x)]:=by rw [hR,aX,getElem?_map,hx];rfl
    have bm:aX ((bW p).take (k+1))=S++[[.v (sv x)]]:=by rw [take_add_one,hx,hS];simp [aX]
    have u9:n<=8388608:=by rw [<-pk,hS,nt,length_take];omega
    have hb:n+1<=9223372036854775807/\(n+1) * 16<=140737488355328:=by omega
    have hd:jZ (bW p) k=(lT x || ((bW p).take k).contains x):=by unfold jZ;rw [hx]
    have Lq:=Jw x
    have hL:GF Tryz.prog 46 [.sl 1 S,.v (sv x)] [] (.v (.bool (((bW p).take k).contains x))) []:=by
     rw [hS];exact gE ((bW p).take k) x (by rw [length_take];omega)
    have hF:=xn k;rw [Oy];clear hS hR nc;generalize wV (bW p) k=cd at *;generalize jZ (bW p) k=bn at *
    cases h1:lT x with
    | true =>
     rw [h1] at Lq hd;subst hd;rw [if_pos (by simp)];refine ab ?_;refine U [] (Lq) ?_;refine U [0] (hF) ?_;refine ea ?_;refine ab ?_;exact ⟨rfl,rfl,_,_,Wk.av aj,_,_,_,rfl,rfl,by simp [pk],bm.symm⟩
    | false =>
     rw [h1] at Lq hd
     cases h2:((bW p).take k).contains x with
     | true =>
      rw [h2] at hL hd;subst hd;rw [if_pos (by simp)];refine ab ?_;refine U [] (Lq) ?_;refine GL.wk (Wk.hY (t:=59) rfl rfl rfl pk) ?_;refine cS ?_;refine ab ?_;refine U [] (hL) ?_;refine U [0] (hF) ?_;refine ea ?_;refine ab ?_;exact ⟨rfl,rfl,_,_,Wk.av aj,_,_,_,rfl,rfl,by simp [pk],bm.symm⟩
     | false =>
      rw [h2] at hL hd;subst hd;rw [if_neg (by simp)];refine ab ?_;refine U [] (Lq) ?_;refine GL.wk (Wk.hY (t:=59) rfl rfl rfl pk) ?_;refine cS ?_;refine ab ?_;refine U [] (hL) ?_;refine ea ?_;refine ab ?_;exact ⟨rfl,rfl,_,_,Wk.av aj,_,_,_,rfl,rfl,by simp [pk],bm.symm⟩
   ·rintro _ _ ⟨S,n,fz,rfl,rfl,pk,hS⟩;rw [nc];exact fm
end Go.Xg
namespace Go.Im
open Go.Xp Go.Sp
mutual
theorem G7 (ks:List Int) (name:ae) (loc:Bool):∀ t:T,oD ks name loc t<=aB t
 | .mk n l=>by
  rw [oD,aB];have:=zD ks name loc (n.kind==4&&n.s==dc) l;split <;> omega
theorem zD (ks:List Int) (name:ae) (loc:Bool):∀ (b:Bool) (l:List T),jN ks name loc b l<=aw l
 | b,[]=>by rw [jN];omega
 | b,t::r=>by
  rw [jN,aw];have h1:=G7 ks name loc t;have h2:=zD ks name loc false r;split <;> omega
end
end Go.Im
namespace Go.Xg
open Go.RowKit Go.Xw Go.Proofs
open Go.Xp (Nd T Ar aB aw cR)
open Go.Sp (Src)
open Go.Im
attribute [local irreducible] GW GL GO YG GC GA aQ aR
theorem YG.XZ {P:Program} {fr:List GV} {Γ:List Ob} {x y:Operand} {t t':TypeId} {a b:Bool} (ht:P.underlying t=some .bool) (hx:aM fr x=.v (.bool a)) (hy:aM fr y=.v (.bool b)):YG P (.binOp .eql t x y t') fr Γ (.v (.bool (a==b))) :=
 YG.v2 hx hy fun l w h k=>fun d ty pos af=>by
  have e:(Op.equal t (.bool a) (.bool b)).run P w=.ok (a==b) w:=run_equalIn_bool w 9999 t a b ht;simp [execOp,eqGuard,h,k,binOp,e]
theorem wo (ks:List Int) (name:ae) (loc:Bool) (oR:ks.length<=1099511627776):∀ (N:Nat) (t:T),aB t<=N->aB t<=1099511627776 ->
  GF Tryz.prog 30 [.agg (cT t),ints ks,.v (sv name),.v (.bool loc)] [] (.v (ii ((oD ks name loc t:Nat):Int))) []:=by
 intro N
 induction N with
 | zero=>intro t h;have:=gO t;omega
 | succ N ih =>
 intro t hN hb
 cases t with
 | mk n l =>
 have hC:=Of ks n.kind oR;have hle:=zD ks name loc (n.kind==4&&n.s==dc) l;rw [Go.Xp.aB] at hN hb;rw [oD];have oS:=cR l;have dQ:(aH l).length=l.length:=aL l;have hh:xv ks name loc n=((ks.contains n.kind&&n.s==name)&&(decide ((0:Int) < n.n)==loc)):=rfl
 have Hx:∀ k:Nat,((n.kind==4&&n.s==dc)&&k==0)=!((n.kind != 4 || n.s != [115,105,122,101]) || decide ((0:Int) < (k:Int))):=fun k=>by
  show _=!((!(n.kind==4) || !(n.s==dc)) || _)
  cases n.kind==4 <;> cases n.s==dc <;> cases k <;> simp
 have h0:(n.kind==4&&n.s==dc)=((n.kind==4&&n.s==dc)&&(0:Nat)==0):=by simp
 rw [h0] at hle |-;rw [hh];generalize (n.kind==4&&n.s==dc)=bb at *;obtain ⟨z,ER⟩:∃ z:Nat,(if ((ks.contains n.kind&&n.s==name)&&(decide ((0:Int) < n.n)==loc))=true then 1 else 0)=z:=⟨_,rfl⟩
 have Tl:z<=1:=by rw [<-ER];split <;> omega
 rw [ER];obtain ⟨Qe,N0⟩:∃ Qe,z+jN ks name loc (bb&&(0:Nat)==0) l=Qe:=⟨_,rfl⟩
 have zf:Qe<=1+aw l:=by omega
 rw [N0]
 cases h1:ks.contains n.kind
 all_goals cases h2:(n.s==name)
 all_goals cases h3:(decide ((0:Int) < n.n)==loc)
 all_goals
  rw [h1] at hC;rw [h1,h2,h3] at ER;refine ah Tryz.func30 Tryz.ntmps30 ?_;refine U [] (hC) ?_
  try (refine GL.q (YG.XZ (by kernel_rfl) rfl rfl) ?_;refine bZ ?_;refine ab ?_)
  refine GW.range (aH l).length (fun k fr Γ=>∃ c:Nat,fr=[.any,ints ks,.v (sv name),.v (.bool loc),.loc 0 0,.any,.any,.any,.any,.v (ii (c:Nat)),.any,.any,.any,.any,.any,.any,.any,.any,.any,.any,.any,.any,.any,.any,.any,.any,.any,.any,.any,.any,.any,.any,.any,.sl 6 (aH l),.v (ii ((aH l).length:Int)),.v (ii (k:Nat)),.any,.any,.any,.any,.any,.any,.any,.any,.any,.any,.any,.any,.any,.any,.any,.any,.any,.any,.any,.any,.any,.any,.any,.any,.any,.any,.any]/\Γ=[.box 56 (cT (.mk n l))]/\c+jN ks name loc (bb&&k==0) (l.drop k)=Qe) ?_ (by omega) ?_ ?_ ?_
  ·first
    | exact ⟨_,_,Wk.av aj,0,rfl,rfl,by rw [List.drop_zero,<-N0,<-ER];rfl⟩
    | exact ⟨_,_,Wk.av aj,1,rfl,rfl,by rw [List.drop_zero,<-N0,<-ER];rfl⟩
  ·rintro k _ _ ⟨c,rfl,rfl,_⟩;exact ⟨rfl,rfl,rfl⟩
  ·rintro k _ _ ao ⟨c,rfl,rfl,hc⟩;rw [dQ] at ao;obtain ⟨u,hu⟩:∃ u,l[k]?=some u:=⟨l[k],by simp [ao]⟩;have hr:=cz hu
   have hd:l.drop k=u::l.drop (k+1):=by rw [List.drop_eq_getElem_cons ao];rw [List.getElem?_eq_getElem ao] at hu;rw [Option.some.inj hu]
   have b6:=jd hu;have hi:=ih u (by omega) (by omega);have Hy:=G7 ks name loc u;rw [hd,jN] at hc
   have hz:(bb&&(k+1==0))=false:=by simp
   have ej:=Hx k
   cases g1:(n.kind != 4)
   all_goals cases g2:(n.s != [115,105,122,101])
   all_goals cases g3:decide ((0:Int) < (k:Int))
   all_goals rw [g1,g2,g3] at ej
   all_goals rw [ej] at hc
   all_goals
    refine ab ?_
    first
     | exact ⟨rfl,rfl,_,_,(Wk.cut (n:=1) (Nat.zero_le _) rfl).trans (Wk.av aj),c,rfl,rfl,by rw [hz];simpa using hc⟩
     | (refine gm [] (hi) ?_;refine ab ?_;exact ⟨rfl,rfl,_,_,(Wk.cut (n:=1) (Nat.zero_le _) rfl).trans (Wk.av aj),c+oD ks name loc u,rfl,rfl,by rw [hz];simp at hc;omega⟩)
  ·rintro _ _ ⟨c,rfl,rfl,hc⟩;rw [dQ,List.drop_length,jN,Nat.add_zero] at hc;rw [<-hc];exact ar
end Go.Xg
namespace Go.Xg
open Go.RowKit Go.Xw Go.Proofs
open Go.Xp (Nd T Ar aB aw)
open Go.Sp (Src)
open Go.Im
attribute [local irreducible] GW GL GO YG GC GA aQ aR
theorem HQ (p:Src) (c z:Int) (h:GF Tryz.prog 71 [.agg (ak p)] [] (.tup [.v (ii c),.v (ii z)]) []):GF Tryz.prog 40 [.agg (ak p)] [] (.v (.bool (c==0))) []:=by
 refine ah Tryz.func40 Tryz.ntmps40 ?_;refine U [] (h) ?_;exact al
theorem QZ (p:Src) (fn:Int) (g:Bool) (hg:GF Tryz.prog 40 [.agg (ak p)] [] (.v (.bool g)) []) :
  GF Tryz.prog 29 [.agg (ak p),.v (ii fn)] [] (.v (.bool ((g&&decide ((0:Int)<=fn))&&decide (fn < ((p.fns.map aq).length:Int))))) []:=by
 cases g
 all_goals cases h1:decide ((0:Int)<=fn)
 all_goals
  refine ah Tryz.func29 Tryz.ntmps29 ?_;refine U [] (hg) ?_;exact al
theorem CB (p:Src) (fn:Int) (name:ae) (hH:GF Tryz.prog 29 [.agg (ak p),.v (ii fn)] [] (.v (.bool false)) []) :
  GF Tryz.prog 9 [.agg (ak p),.v (ii fn),.v (sv name)] [] (.v (ii (-1))) []:=by
 refine ah Tryz.func9 Tryz.ntmps9 ?_;refine U [] (hH) ?_;exact al
theorem Aq (p:Src) (fn:Int) (name:ae) (t:T) (hH:GF Tryz.prog 29 [.agg (ak p),.v (ii fn)] [] (.v (.bool true)) [])
  (hB:GF Tryz.prog 31 [.agg (ak p),.v (ii fn)] [] (.agg (cT t)) []) (b6:aB t<=1099511627776) :
  GF Tryz.prog 9 [.agg (ak p),.v (ii fn),.v (sv name)] [] (.v (ii ((oD [2] name true t:Nat):Int))) []:=by
 have hN:=wo [2] name true (by decide) _ t (Nat.le_refl _) b6;refine ah Tryz.func9 Tryz.ntmps9 ?_;refine U [] (hH) ?_;refine U [] (hB) ?_;refine bC ?_;refine ab ?_;refine U [] (hN) ?_;exact al
theorem IM (p:Src) (fn:Int) (name:ae) (hH:GF Tryz.prog 29 [.agg (ak p),.v (ii fn)] [] (.v (.bool false)) []) :
  GF Tryz.prog 13 [.agg (ak p),.v (ii fn),.v (sv name)] [] (.v (ii (-1))) []:=by
 refine ah Tryz.func13 Tryz.ntmps13 ?_;refine U [] (hH) ?_;exact al
theorem Gi (p:Src) (fn:Int) (name:ae) (t:T) (hH:GF Tryz.prog 29 [.agg (ak p),.v (ii fn)] [] (.v (.bool true)) [])
  (hB:GF Tryz.prog 31 [.agg (ak p),.v (ii fn)] [] (.agg (cT t)) []) (b6:aB t<=1099511627776) :
  GF Tryz.prog 13 [.agg (ak p),.v (ii fn),.v (sv name)] [] (.v (ii ((oD [7,13] name true t:Nat):Int))) []:=by
 have hN:=wo [7,13] name true (by decide) _ t (Nat.le_refl _) b6;refine ah Tryz.func13 Tryz.ntmps13 ?_;refine U [] (hH) ?_;refine U [] (hB) ?_;refine bC ?_;refine ab ?_;refine U [] (hN) ?_;exact al
end Go.Xg
namespace Go.Im
open Go.Xp Go.Sp
def jU (p:Src) (fn:Int):Bool:=(fq p&&decide ((0:Int)<=fn))&&decide (fn < (p.fns.length:Int))
end Go.Im
namespace Go.Xg
open Go.RowKit Go.Xw Go.Proofs
open Go.Xp (Nd T Ar aB aw cR)
open Go.Sp (Src)
open Go.Im
attribute [local irreducible] GW GL GO YG GC GA aQ aR
theorem Io {l:List T} {t:T} (h:t∈l):aB t<=aw l:=by
 obtain ⟨k,hk⟩:=List.getElem?_of_mem h;have:=jd hk;omega
theorem Ef {p:Src} (h:fI p=false):fq p=false:=by unfold fq;rw [h];rfl
theorem CL {p:Src} {l:List T} (h:fI p=true) (hl:fK p l):fq p=((Ax p l).1==0):=by
 unfold fq;rw [h,hl.Av];simp only [Bool.true_and];rfl
theorem BS (p:Src) (hw:cj p<=1048576) (hn:im p):GF Tryz.prog 43 [.agg (ak p)] [] (.v (.bool (fq p))) []:=by
 obtain ⟨⟨a1,a2⟩,⟨b1,b2⟩,⟨c1,c2⟩,⟨d1,d2⟩⟩:=dZ p;have hF:=Kd p hw hn
 cases hf:fI p with
 | false =>
  rw [hf] at hF;have:=Lk p _ _ (J9 p hF);rw [Ef hf];exact this
 | true =>
  rw [hf] at hF;obtain ⟨l,hl⟩:=qX hf;have hlen:=fw.len hl.fns;have va:=A8 p;have jg:=CD hl
  have hc:=IB p l (bW p) (by omega) hlen (by omega) hF (IP p hw) (MT p (by omega) (by omega) fun a ha=>⟨(jg a ha).1,by have:=(jg a ha).2;omega⟩) fun i f t h1 h2=>by
   obtain ⟨e1,_⟩:=fw.at_ hl.fns i f t h1 h2;have h7:=dh.ix l 0 i _ hl.st h2;rw [Nat.zero_add] at e1 h7
   have hb:f.body.toNat=aw (l.take i):=by rw [e1,Int.toNat_natCast]
   have hz:=Io (mem_of_getElem? h2);have:=hl.len;have:=K7 p i f t (by omega) (fun n h=>by have:=(d2 n h).2;omega) (by omega) (by omega) (by omega) h1 (by have:=(c2 f (mem_of_getElem? h1)).2.1;omega) (by omega) (by rw [hb];exact h7) (by omega);rw [hb] at this;exact this
  rw [CL hf hl];exact Lk p _ _ hc
theorem yr (p:Src) (hw:cj p<=1048576):GF Tryz.prog 40 [.agg (ak p)] [] (.v (.bool (fq p))) []:=by
 obtain ⟨⟨a1,a2⟩,⟨b1,b2⟩,⟨c1,c2⟩,⟨d1,d2⟩⟩:=dZ p;have hF:=Kc p hw
 cases hf:fI p with
 | false =>
  rw [hf] at hF;have:=HQ p _ _ (J8 p hF);rw [Ef hf];exact this
 | true =>
  rw [hf] at hF;obtain ⟨l,hl⟩:=qX hf;have hlen:=fw.len hl.fns;have jg:=CD hl
  have Tg:∀ a∈p.arrays,0<=a.size/\a.size<=2147483648:=fun a ha=>⟨(jg a ha).1,by have:=(jg a ha).2;omega⟩
  obtain ⟨ls,hm⟩:=hl.I6
  have hS:=fun k=>EU p (.slice none 0 0) k (by omega) Tg fun h=>Dz p (.slice none 0 0) k (by omega) (by omega) Tg h
  have hle:=hl.len
  have hc:=IA p l _ _ hlen (by omega) (by omega) (by omega) (fun f h=>by have:=(c2 f h).2.1;omega) (fun t ht=>by have:=Io ht;omega) hF (Jv p hw) (hS _) fun i f t h1 h2=>by
   obtain ⟨e1,_⟩:=fw.at_ hl.fns i f t h1 h2;have h7:=dh.ix l 0 i _ hl.st h2;rw [Nat.zero_add] at e1 h7;rw [e1];exact DH p (fun n h=>by have:=(d2 n h).2;omega) _ _ t ((vB _).1 t _ h7 (Nat.le_refl _))
  have:=HQ p _ _ hc;have hs:=R6 (p:=p) (l:=l) (fun a ha=>(jg a ha).1) (fun t ht=>by obtain ⟨i,hi⟩:=List.getElem?_of_mem ht;exact (hm.wf hi).1)
  have e:((KB p l).code==0)=fq p:=by
   rw [CL hf hl]
   by_cases h0:(Ax p l).1=0
   ·rw [h0,hs.1 h0]
   ·have h1:(KB p l).code≠0:=fun e=>h0 (hs.2 e)
    rw [show ((Ax p l).1==0)=false by simpa using h0,show ((KB p l).code==0)=false by simpa using h1]
  rw [<-e];exact this
theorem Em (p:Src) (fn:Int) (hw:cj p<=1048576) (hn:im p):GF Tryz.prog 64 [.agg (ak p),.v (ii fn)] [] (.v (.bool (jU p fn))) []:=by
 obtain ⟨⟨a1,a2⟩,⟨b1,b2⟩,⟨c1,c2⟩,⟨d1,d2⟩⟩:=dZ p;have h:=QW p fn _ _ (by omega) (BS p hw hn) (Pg fn 0 _)
 have e:jU p fn=((decide ((0:Int)<=fn)&&decide (fn<=(((p.fns.map aq).length:Int) - 1)))&&fq p):=by
  unfold jU;rw [show decide (fn<=(((p.fns.map aq).length:Int) - 1))=decide (fn < (p.fns.length:Int)) by rw [length_map];apply decide_eq_decide.2;omega]
  cases fq p <;> cases decide ((0:Int)<=fn) <;> cases decide (fn < (p.fns.length:Int)) <;> rfl
 rw [e];exact h
theorem zN (p:Src) (fn:Int) (hw:cj p<=1048576):GF Tryz.prog 29 [.agg (ak p),.v (ii fn)] [] (.v (.bool (jU p fn))) []:=by
 have h:=QZ p fn _ (yr p hw);rw [length_map] at h;exact h
end Go.Xg
namespace Go.Im
open Go.Xp Go.Sp
mutual
theorem tu (names:List ae):∀ (t:T) (known:List ae),aB (iN names t known)=aB t
 | .mk n l,known=>by rw [iN,aB,aB,FO names l]
theorem FO (names:List ae):∀ (l:List T) (known:List ae),aw (fg names l known)=aw l
 | [],known=>by rw [fg]
 | t::r,known=>by rw [fg,aw,aw,tu names t,FO names r]
end
end Go.Im
namespace Go.Xg
open Go.RowKit Go.Xw Go.Proofs
open Go.Xp (Nd T Ar aB aw cR)
open Go.Sp (Src)
open Go.Im
attribute [local irreducible] GW GL GO YG GC GA aQ aR
theorem MJ (p:Src) (hk:∀ n∈p.nodes,n.kids.length<=1000000000000) (f:Go.Sp.Fn) (t:T) (hb:0<=f.body) (bq:df p.nodes f.body.toNat t):GF Tryz.prog 60 [.agg (ak p),.v (ii f.body)] [] (.agg (cT t)) []:=by
 have:=DH p hk _ _ t ((vB _).1 t _ bq (Nat.le_refl _))
 rwa [Int.toNat_of_nonneg hb] at this
theorem zh (p:Src) (i:Nat) (f:Go.Sp.Fn) (t:T) (hk:∀ n∈p.nodes,n.kids.length<=1000000000000) (hf:p.fns[i]?=some f) (nj:f.params.length<=1048576) (hb:0<=f.body) (bq:df p.nodes f.body.toNat t) (b6:aB t<=1048576) :
  GC Tryz.prog 59 [.agg (ak p),.v (ii (i:Nat))] [] fun g Δ=>∃ ad cp,g=.v (.slice ad (f.params++bP t).length cp)/\Δ=[.vech 9 1 (aX (f.params++bP t)) (.slice ad (f.params++bP t).length cp)]:=by
 have hr:(p.fns.map aq)[i]?=some (aq f):=by rw [getElem?_map,hf];rfl
 have u6:(f.params.map fun s=>[GV.v (sv s)]).length=f.params.length:=by simp
 have eH:=oI f.params;have hS:=MJ p hk f t hb bq
 have hV:=fun ad cp=>L8 _ t (Nat.le_refl _) f.params ad cp (by omega)
 unfold aq at hr;refine ah Tryz.func59 Tryz.ntmps59 ?_;refine GW.draw (.q 1 (.q 2 (.q 4 (.q 5 (.q 6 (.a 0 (.a 3 (.a 7 (.a 8 (.q 9 .nil)))))))))) (by kernel_rfl) (by kernel_rfl) ?_;refine ai ?_;refine sd ?_;refine ai ?_;refine OA rfl rfl (GL.Au rfl rfl rfl rfl eH (by refine ⟨?_,?_⟩;(· rw [u6];omega);(· rw [u6];omega)) ?_);rw [u6];refine GL.zO (t:=14) rfl rfl rfl (by simp [chunk]) ?_;intro ad cp;simp only [Nat.zero_add];refine c8 ?_;refine ai ?_;refine ax [] (hS) ?_;refine OA rfl rfl ?_;refine b9 [2] (hV ad cp) ?_;rintro _ _ ⟨gR,gT,rfl,rfl⟩;refine ⟨by simp,?_⟩;refine c8 ?_;refine ai ?_;refine ab ?_
 (repeat (first | refine GW.ret ?_ | refine cL ?_ | refine cK ?_ | refine aJ ?_ | refine b7 ?_))
 refine tN 2 rfl (by first | exact .inr rfl | exact .inl rfl) rfl ?_ ?_
 ·intro x hx;rw [List.mem_singleton.1 hx];rfl
 ·exact ⟨_,_,rfl,rfl⟩
theorem Ma (p:Src) (i:Nat) (f:Go.Sp.Fn) (t:T) (hk:∀ n∈p.nodes,n.kids.length<=1000000000000) (hf:p.fns[i]?=some f) (nj:f.params.length<=1048576) (hb:0<=f.body) (bq:df p.nodes f.body.toNat t) (b6:aB t<=1048576) :
  GF Tryz.prog 31 [.agg (ak p),.v (ii (i:Nat))] [] (.agg (cT (iN (f.params++bP t) t f.params))) []:=by
 have hr:(p.fns.map aq)[i]?=some (aq f):=by rw [getElem?_map,hf];rfl
 have hS:=MJ p hk f t hb bq;have hL:=zh p i f t hk hf nj hb bq b6;have V6:=Ak _ t (Nat.le_refl _);have hB:=L9 (f.params++bP t) (by rw [length_append];omega) _ t (Nat.le_refl _) f.params (by omega);unfold aq at hr;generalize f.params++bP t=ns at *;generalize iN ns t f.params=bt at *;refine ah Tryz.func31 Tryz.ntmps31 ?_;refine GW.draw (.q 0 (.q 1 (.q 3 (.q 4 (.q 5 (.q 6 (.q 7 (.q 8 (.q 9 (.q 10 (.q 11 (.q 12 (.q 13 (.q 14 (.q 15 (.f 2 (.f 16 (.f 17 (.q 18 (.q 19 (.q 20 (.a 21 (.a 22 (.q 23 .nil)))))) 21 (.a 17 (.q 18 (.q 19 (.q 20 (.a 22 (.q 23 .nil))))))) 21 (.a 16 (.a 17 (.q 18 (.q 19 (.q 20 (.a 22 (.q 23 .nil)))))))) 21 (.a 2 (.a 16 (.a 17 (.q 18 (.q 19 (.q 20 (.a 22 (.q 23 .nil)))))))))))))))))))))))) (by kernel_rfl) (by kernel_rfl) ?_;refine ai ?_;refine GO.fork ?_ ?_
 ·refine OA rfl rfl ?_;refine b9 [] (hL) ?_;rintro _ _ ⟨ad,cp,rfl,rfl⟩;refine ⟨by simp,?_⟩;refine GL.wk (Wk.pN (t:=10) (i:=2) rfl rfl rfl) ?_;refine c8 ?_;refine ai ?_;refine GO.fork ?_ ?_
  ·refine ax [] (hS) ?_;refine GO.fork ?_ ?_
   ·refine ax [] (hB) ?_;exact jK
   ·refine ai ?_;refine ax [] (hB) ?_;exact jK
  ·refine ai ?_;refine ax [] (hS) ?_;refine ax [] (hB) ?_;exact jK
 ·refine ai ?_;refine OA rfl rfl ?_;refine b9 [] (hL) ?_;rintro _ _ ⟨ad,cp,rfl,rfl⟩;refine ⟨by simp,?_⟩;refine GL.wk (Wk.pN (t:=10) (i:=3) rfl rfl rfl) ?_;refine c8 ?_;refine ai ?_;refine ax [] (hS) ?_;refine ax [] (hB) ?_;exact jK
end Go.Xg
namespace Go.Im
open Go.Xp Go.Sp
theorem Good.Av {p:Src} {l:List T} (h:Good p l):iq p.nodes p.fns 0 []=some (l,p.nodes.length):=h.st.Av
structure lf (p:Src) (l:List T) (i:Nat) (f:Go.Sp.Fn) (t:T):Prop where
 good:Good p l
 gf:p.fns[i]?=some f
 gt:l[i]?=some t
 ok:xU p t f.params
 wf:eN t
 z:zT t
 st:df p.nodes f.body.toNat t
 body:0<=f.body
 sz:aB t<=800
theorem qn {p:Src} {fn:Int} (h:jU p fn=true):∃ (i:Nat) (l:List T) (f:Go.Sp.Fn) (t:T),fn=(i:Int)/\lf p l i f t:=by
 unfold jU at h;simp only [Bool.and_eq_true,decide_eq_true_eq] at h;obtain ⟨⟨h1,h2⟩,h3⟩:=h;obtain ⟨l,hl⟩:=uY h1;have hlen:=hl.len
 have hi:fn.toNat < p.fns.length:=by omega
 have e1:p.fns[fn.toNat]?=some p.fns[fn.toNat]:=List.getElem?_eq_getElem _;have e2:l[fn.toNat]?=some (l[fn.toNat]'(by omega)):=List.getElem?_eq_getElem _;obtain ⟨a1,a2,a3,a4,a5⟩:=hl.at_ _ _ _ e1 e2;refine ⟨fn.toNat,l,_,_,by omega,hl,e1,e2,a1,a2,a3,a4,a5,?_⟩;have:=hl.st.few;have:=a4.le;omega
theorem vS {kinds:List Int} {p:Src} {fn:Int} {name:ae} (h:jU p fn=false):gA kinds p fn name = -1:=by
 unfold gA
 by_cases h1:fn < 0\/(p.fns.length:Int)<=fn
 ·rw [if_pos h1]
 ·rw [if_neg h1]
  have:fq p=false:=by
   cases hg:fq p with
   | false=>rfl
   | true =>
    unfold jU at h;rw [hg,decide_eq_true (show (0:Int)<=fn by omega),decide_eq_true (show fn < (p.fns.length:Int) by omega)] at h;cases h
  rw [if_pos this]
theorem tK {kinds:List Int} {p:Src} {l:List T} {i:Nat} {f:Go.Sp.Fn} {t:T} {name:ae} (hg:fq p=true) (h:lf p l i f t):gA kinds p (i:Int) name=((jl (ft name kinds) t f.params:Nat):Int):=by
 have hi:=(List.getElem?_eq_some_iff.1 h.gf).1;unfold gA;rw [if_neg (by omega),if_neg (by rw [hg];decide),h.good.Av];simp only [Int.toNat_natCast];rw [h.gf,h.gt]
theorem lf.Nx {kinds:List Int} {p:Src} {l:List T} {i:Nat} {f:Go.Sp.Fn} {t:T} {name:ae} (h:lf p l i f t) (hk:∀ k∈kinds,k=2\/k=7\/k=13) :
  oD kinds name true (iN (f.params++bP t) t f.params)=jl (ft name kinds) t f.params :=
 G9 p (f.params++bP t) name kinds hk t f.params h.wf h.z h.ok (fun s hs=>List.mem_append_left _ hs) (fun s hs=>List.mem_append_right _ hs)
end Go.Im
namespace Go.Xg
open Go.RowKit Go.Xw Go.Proofs
open Go.Xp (Nd T Ar aB aw cR)
open Go.Sp (Src)
open Go.Im
attribute [local irreducible] GW GL GO YG GC GA aQ aR
theorem q9 {p:Src} {fn:Int} (h:jU p fn=true):fq p=true:=by
 unfold jU at h;simp only [Bool.and_eq_true,decide_eq_true_eq] at h;exact h.1.1
theorem yd (p:Src) (hw:cj p<=1048576) {l:List T} {i:Nat} {f:Go.Sp.Fn} {t:T} (h:lf p l i f t) :
  GF Tryz.prog 31 [.agg (ak p),.v (ii (i:Nat))] [] (.agg (cT (iN (f.params++bP t) t f.params))) []:=by
 obtain ⟨⟨a1,a2⟩,⟨b1,b2⟩,⟨c1,c2⟩,⟨d1,d2⟩⟩:=dZ p;exact Ma p i f t (fun n hn=>by have:=(d2 n hn).2;omega) h.gf (by have:=(c2 f (mem_of_getElem? h.gf)).2.1;omega) h.body h.st (by have:=h.sz;omega)
theorem zE (p:Src) (hw:cj p<=1048576) (hn:im p) (fn:Int) (name:ae) (ks:List Int) (oR:ks.length<=1099511627776) :
  GF Tryz.prog 36 [.agg (ak p),.v (ii fn),.v (sv name),ints ks] [] (.v (ii (gA ks p fn name))) []:=by
 obtain ⟨⟨a1,a2⟩,⟨b1,b2⟩,⟨c1,c2⟩,⟨d1,d2⟩⟩:=dZ p;have hH:=Em p fn hw hn
 cases hh:jU p fn with
 | false =>
  rw [hh] at hH;rw [vS hh];exact Dv p fn name ks hH
 | true =>
  rw [hh] at hH;obtain ⟨i,l,f,t,rfl,h⟩:=qn hh;rw [tK (q9 hh) h];exact BJ p i name ks f t hH (by omega) (fun n hn=>by have:=(d2 n hn).2;omega) oR h.gf (by have:=(c2 f (mem_of_getElem? h.gf)).2.1;omega) h.body h.st (by have:=h.sz;omega)
theorem Qu (p:Src) (hw:cj p<=1048576) (hn:im p) (fn:Int) (name:ae) (hl:name.length<=1048576) :
  GF Tryz.prog 11 [.agg (ak p),.v (ii fn),.v (sv name)] [] (.v (ii (gA [2] p fn name))) [] :=
 DR p fn name _ (zE p hw hn fn name [2] (by decide))
theorem Nr (p:Src) (hw:cj p<=1048576) (hn:im p) (fn:Int) (name:ae) (hl:name.length<=1048576) :
  GF Tryz.prog 14 [.agg (ak p),.v (ii fn),.v (sv name)] [] (.v (ii (gA [7,13] p fn name))) [] :=
 Kk p fn name _ (zE p hw hn fn name [7,13] (by decide))
theorem Qt (p:Src) (hw:cj p<=1048576) (hn:im p) (fn:Int) (name:ae) (hl:name.length<=1048576) :
  GF Tryz.prog 9 [.agg (ak p),.v (ii fn),.v (sv name)] [] (.v (ii (gA [2] p fn name))) []:=by
 have hH:=zN p fn hw
 cases hh:jU p fn with
 | false =>
  rw [hh] at hH;rw [vS hh];exact CB p fn name hH
 | true =>
  rw [hh] at hH;obtain ⟨i,l,f,t,rfl,h⟩:=qn hh;rw [tK (q9 hh) h,<-h.Nx (by decide)];exact Aq p i name _ hH (yd p hw h) (by rw [tu];have:=h.sz;omega)
theorem Nq (p:Src) (hw:cj p<=1048576) (hn:im p) (fn:Int) (name:ae) (hl:name.length<=1048576) :
  GF Tryz.prog 13 [.agg (ak p),.v (ii fn),.v (sv name)] [] (.v (ii (gA [7,13] p fn name))) []:=by
 have hH:=zN p fn hw
 cases hh:jU p fn with
 | false =>
  rw [hh] at hH;rw [vS hh];exact IM p fn name hH
 | true =>
  rw [hh] at hH;obtain ⟨i,l,f,t,rfl,h⟩:=qn hh;rw [tK (q9 hh) h,<-h.Nx (by decide)];exact Gi p i name _ hH (yd p hw h) (by rw [tu];have:=h.sz;omega)
end Go.Xg
