/- Part 9 of proofs that are told in their last texts. -/
import Derived.Test.YtfmnfhpifpjljaaGreatDoorQ8
import Derived.Test.YtfmnfhpifpjljaaGreatDoorQ3
import Derived.Lib.OwnBridge
import Derived.Lib.AppendIntMem
open List (cons_append ext_getElem? getElem?_zipWith length_cons length_nil length_replicate length_set nil_append)
set_option linter.unusedVariables false
set_option linter.unusedSimpArgs false
set_option linter.defProp false
set_option maxRecDepth 100000
set_option maxHeartbeats 2000000
namespace Go
def zaX{A:Prop}(s:A:=by exact GW.LA (fn:=f98) rfl rfl (by simp) rfl rfl rfl rfl (fun _ _ h=>by repeat (first|exact h|refine gV ?_|refine gU ?_))):A:=s
end Go
namespace Go.Xg
open Go.RowKit Go.Xw Go.Proofs
open Go.Xp (Nd)
def O7{K S:Fz}{β gi:Bt}{vs:List Value}{gs:am}(h:bF K β vs gs)(hg:∀g∈gs,∃x,g=.v x):bF S gi vs gs :=
 ⟨h.1,fun i v g o b=>by
  obtain⟨x,rfl⟩:=hg g (bP b)
  rw[Rel.eW (h.2 i v _ o b)];exact .v _⟩
def Ob.FH:Ob->Prop
 |.vech _ _ H _=>∀r∈H,∀g∈r,∃x,g=GV.v x
 |_=>False
def Mw:Ob->Bk
 |.vech _ _ H x=>.gr x H.length
 |_=>.no
def jq(N:ap):Bt:=fun i=>match N[i]? with
 |some x=>Mw x
 |none=>.no
structure Pk(N:ap)(h:Nat->Option Obj):Prop where
 plain:∀x∈N,x.FH
 dis:∀i j b,(jq N i).has b->(jq N j).has b->i=j
 dom:∀b,(h b).isSome=true↔∃i,(jq N i).has b
 own:∀w:World,(∀b o,h b=some o->w.heap[b]?=some o)->∀(i:Nat)E k rows x,N[i]?=some (.vech E k rows x)->gE k rows/\∃xs,iz w 0 E k x rows.length xs/\bF (fun _ _=>none) (fun _=>.no) xs rows.flatten
abbrev blob(N:ap):Ob:=.blob (Pk N)
def vg{N:ap}{i:Nat}{x:Ob}(h:N[i]?=some x):jq N i=Mw x:=by grind[jq]
theorem AG{N:ap}{i:Nat}(h:N.length<=i):jq N i=.no:=by grind[jq]
def Gi{w w':World}{base e k:Nat}{v:Value}{n:Nat}{xs:List Value}(h:iz w base e k v n xs)(G:∀b o,v.ownBlock=some b->w.heap[b]?=some o->w'.heap[b]?=some o):iz w' base e k v n xs:=by
 have⟨q,d⟩:=h;refine⟨q,?_⟩
 rcases d with d|⟨g,c,cur,rfl,i,X,r⟩
 ·grind
 ·exact .inr ⟨g,c,cur,rfl,i,G g _ rfl X,r⟩
def Pk.ob{N:ap}{h:Nat->Option Obj}{K:Fz}{β:Bt}{w:World}{i j:Nat}{x:Ob}(W:Pk N h)(Y:∀b o,h b=some o->w.heap[b]?=some o/\∀j,K b j=none)(hx:N[j]?=some x)(t:β i=jq N j):hO K β w i x:=by
 have c:=W.plain x (bP hx)
 cases x with
 |vech E k H v =>
  obtain⟨q,Z,d,G⟩:=W.own w (fun b o l=>(Y b o l).1) j E k H v hx;refine⟨Z,by rw[t,vg hx];rfl,d,O7 G (fun g X=>?_),q,fun b l o=>?_⟩
  ·have⟨r,z,s⟩:=List.mem_flatten.1 X;exact c r z g s
  ·have:(h b).isSome=true:=(W.dom b).2 ⟨j,by rw[vg hx];exact l⟩
   grind[Option.isSome_iff_exists]
 |_=>exact c.elim
def JP{K:Fz}{β:Bt}{w:World}{N:ap}(s:Nat)(C:∀x∈N,x.FH)(A:∀(j:Nat)x,N[j]?=some x->hO K β w (s+j) x)(hd:∀i j b,(β i).has b->(β j).has b->i=j) :
  ∃h:Nat->Option Obj,(∀b o,h b=some o->w.heap[b]?=some o/\∀j,K b j=none)/\Pk N h/\∀b,(h b).isSome=true->∃j,j<N.length/\(β (s+j)).has b:=by
 classical
 have R:∀j,j<N.length->β (s+j)=jq N j:=fun j Y=>by
  have hx:N[j]?=some N[j]:=cK Y;have W:=C _ (bP hx);have q:=A j _ hx;rw[vg hx];generalize N[j]=x at *
  cases x with
  |vech E k H v=>have⟨X,u,_⟩:=q;exact u
  |_=>exact W.elim
 have O:∀j b,(jq N j).has b->j<N.length:=fun j b l=>by
  rcases Nat.lt_or_ge j N.length with h|h
  ·exact h
  ·rw[AG h]at l;exact l.elim
 have M:∀j b,(jq N j).has b->b<w.heap.size:=fun j b l=>by
  have Y:=O j b l;exact(A j _ (cK Y)).lt zff
 refine⟨fun b=>if ∃j,(jq N j).has b then w.heap[b]? else none,fun b o l=>?_,⟨C,fun i j b S Y=>?_,fun b=>?_,fun T Z i E k H x hx=>?_⟩,fun b l=>?_⟩
 ·simp only at l;split at l
  ·rename_i Y;refine⟨l,fun o=>?_⟩;have⟨j,Y⟩:=Y;have n:=O j b Y;have hx:N[j]?=some N[j]:=cK n;have W:=C _ (bP hx);have q:=A j _ hx;rw[vg hx]at Y;generalize N[j]=x at *
   cases x with
   |vech E k H v=>have⟨X,_,_,_,_,e⟩:=q;exact e b Y o
   |_=>exact W.elim
  grind
 ·grind
 ·constructor
  ·grind
  ·rintro⟨j,Y⟩;rw[ak ⟨j,Y⟩]
   grind
 ·have W:=C _ (bP hx);have⟨X,u,c,G,F,_⟩:=A i _ hx;refine⟨F,X,Gi c fun b o l J=>Z b o ?_,O7 G fun g d=>?_⟩
  ·show(if ∃j,(jq N j).has b then w.heap[b]? else none)=some o;rw[ak ⟨i,by grind[Bk.has,jq]⟩];exact J
  ·have⟨r,z,t⟩:=List.mem_flatten.1 d;exact W r z g t
 grind
section
variable{B:Bs}{K:Fz}{β:Bt}{Γ:ap}{w:World}
theorem Inv.unpack{i:Nat}{N:ap}(k:Inv B K β Γ w)(o:Γ[i]?=some (blob N)) :
  ∃gi,dV β gi/\(∀j,j<N.length->gi (Γ.length+j)=jq N j)/\(∀j b,(gi j).has b->∃q,(β q).has b)/\Inv B K gi (oset Γ i .gone++N) w:=by
 have⟨h,e,n,W⟩:=k.ob i _ o;have t:=(bY o).1
 have R:∀b,(β i).has b↔(h b).isSome=true:=fun b=>by grind[Bk.has]
 have z:(oset Γ i .gone).length=Γ.length:=by grind[bI]
 have Z:∀j,j<Γ.length->(if j<Γ.length then(if j=i then Bk.no else β j)else jq N (j-Γ.length))=if j=i then Bk.no else β j:=fun j Y=>ak Y
 have G:∀j,Γ.length<=j->(if j<Γ.length then(if j=i then Bk.no else β j)else jq N (j-Γ.length))=jq N (j-Γ.length):=fun j Y=>ae V
 have O:dV β (fun j=>if j<Γ.length then(if j=i then Bk.no else β j)else jq N (j-Γ.length)):=fun j=>by
  rcases Nat.lt_or_ge j Γ.length with Y|Y
  ·simp only[Z j Y]
   by_cases u:j=i
   ·grind[kE]
   simp_all[ae,kE.refl]
  ·rw[k.out j Y];trivial
 have E:∀j b,(jq N j).has b->(β i).has b:=fun j b l=>(R b).2 ((W.dom b).2 ⟨j,l⟩)
 have d:∀j b,((fun j=>if j<Γ.length then(if j=i then Bk.no else β j)else jq N (j-Γ.length)) j).has b->(j<Γ.length/\j≠i/\(β j).has b)\/(Γ.length<=j/\(jq N (j-Γ.length)).has b):=fun j b l=>by
  grind[Bk.has,jq]
 have J:∀j b,((fun j=>if j<Γ.length then(if j=i then Bk.no else β j)else jq N (j-Γ.length)) j).has b->∃q,(β q).has b:=fun j b l=>by
  grind
 generalize T:(fun j=>if j<Γ.length then(if j=i then Bk.no else β j)else jq N (j-Γ.length))=gi at *;refine⟨gi,O,fun j Y=>?_,J,k.ext,k.kle,k.ble.trans O,k.loc,k.fz,fun j x Y=>?_,fun j Y=>?_,fun a c b v X=>?_,fun j b Y=>?_,k.kn,k.tab.step (S:=gS) (Ext.refl w) (fun _ h=>h.elim) (dm.refl K) (fun j b Y=>.inl (J j b Y))⟩
 ·grind
 ·rcases Nat.lt_or_ge j Γ.length with s|s
  ·rw[j1 V,bI,eY]at Y
   by_cases u:i=j
   ·grind[hO]
   ·rw[ae u]at Y;exact(k.ob j x Y).ext (S:=gS) (Ext.refl w) (fun _ _ h=>h) (dm.refl K) O zff (fun _ _ _ h=>h)
  ·rw[j0 V,z]at Y;exact W.ob n Y zff
 ·grind[AG]
 ·rcases d a b v with⟨a1,F,A⟩|⟨a1,F⟩<;>rcases d c b X with⟨r,M,C⟩|⟨r,M⟩
  ·exact k.dis a c b A C
  ·exact absurd (k.dis a i b A (E _ b M)) F
  ·exact absurd (k.dis c i b C (E _ b F)) M
  ·have:=W.dis _ _ b F M;omega
 ·have⟨q,J⟩:=J j b Y;exact k.own q b J
end
section
variable{P:Program}{m:Nat}{fr:am}{Γ:ap}
def Wk.unpack(i:Nat){N:ap}(o:Γ[i]?=some (blob N)):Wk m fr Γ fr (oset Γ i .gone++N):=fun B K β w l R j O=>by
 have⟨u,q,_,_,C⟩:=j.unpack o;exact⟨K,u,C,O.mono (dm.refl K) q⟩
theorem Wk.pack(A N:ap)(v:Γ=A++N)(M:m<=A.length)(F:∀x∈N,x.FH)(H:sO A.length A=true):Wk m fr Γ (u3 A.length fr) (A++[blob N]):=fun B K β w l R q O=>by
 have E:∀(j:Nat)x,N[j]?=some x->Γ[A.length+j]?=some x:=fun j x Y=>by grind
 obtain⟨h,X,Z,T⟩:=JP (K:=K) (β:=β) (w:=w) A.length F (fun j x Y=>q.ob _ x (E j x Y)) q.dis
 have d:Γ.take A.length=A:=by grind
 have W:=q.cut (n:=A.length) V zff;rw[d]at W;have t:dT (below A.length) β A.length=.no:=vS (yy (aY _));have C:dV (dT (below A.length) β) (fU (dT (below A.length) β) A.length (.set fun b=>(h b).isSome=true)):=iV zfu
 have r:∀b,(h b).isSome=true->∀i,¬(dT (below A.length) β i).has b:=fun b u i k=>by
  have⟨j,_,Y⟩:=T b u
  by_cases s:i<A.length
  ·rw[tj (yz s)]at k;have:=q.dis i _ b k Y;omega
  ·rw[vS (yy V)]at k;cases k
 refine⟨K,fU (dT (below A.length) β) A.length (.set fun b=>(h b).isSome=true),?_,(O.res).mono (dm.refl K) C⟩;refine⟨W.ext,W.kle,W.ble.trans C,W.loc,W.fz,fun i z k=>?_,fun i k=>?_,fun i J b k Y=>?_,fun i b k=>?_,W.kn,⟨W.tab.le,W.tab.pow,W.tab.spc,fun i b k=>?_⟩⟩
 ·by_cases G:i<A.length
  ·rw[j1 V]at k;exact(W.ob i z k).ext (S:=gS) (Ext.refl w) (fun _ _ h=>h) (dm.refl K) C (cR V) (fun _ _ _ h=>h)
  grind[hO,fU,dT,below]
 ·grind[br,List.length_singleton,cR,vS,yy]
 ·by_cases o:i=A.length<;>by_cases c:J=A.length
  ·omega
  ·subst o;rw[b7]at k;rw[cR c]at Y;exact absurd Y (r b k J)
  ·subst c;rw[b7]at Y;rw[cR o]at k;exact absurd k (r b Y i)
  ·rw[cR o]at k;rw[cR c]at Y;exact W.dis i J b k Y
 ·rcases nA k with o|o
  ·have⟨j,_,Y⟩:=T b o;exact q.own _ b Y
  ·exact W.own i b o
 ·rcases nA k with o|o
  ·have⟨j,_,Y⟩:=T b o;exact q.tab.free _ b Y
  ·exact W.tab.free i b o
end
def GC.blob{P:Program}{f:FuncId}{gs:am}{N:ap}{R:GV->ap->Prop}(hc:GC P f gs N R)(hR:∀g F,R g F->(∀x∈F,x.FH)/\∃x,g=.v x) :
  GC P f gs [Go.Xg.blob N] fun g F=>∃X,R g X/\F=[Go.Xg.blob X]:=fun B K β w Z hB l hF=>by
 have⟨h,e,hh,T⟩:=l.ob 0 _ rfl
 have M:∀b,(β 0).has b↔(h b).isSome=true:=fun b=>by grind[Bk.has]
 have Y:∀j b,(jq N j).has b->(β 0).has b:=fun j b n=>(M b).2 ((T.dom b).2 ⟨j,n⟩)
 have O:dV β (fun j=>jq N j)->bF K (jq N) Z gs:=fun n=>hF.mono (dm.refl K) n
 have Fq:∀i,0<i->β i=.no:=fun i c=>l.out i c
 have H:dV β (jq N):=fun j=>by
  grind[kE,jq]
 have J:Inv (cur K (jq N) N w) K (jq N) N w :=
  ⟨Ext.refl w,dm.refl K,dV.refl _,fun i c=>AG c,l.fz,fun i x hx=>T.ob hh hx rfl,fun i c=>AG c,T.dis,fun i b n=>.inl ⟨i,n⟩,fun _ _ _ h=>.inl h,l.tab.step (S:=gS) (Ext.refl w) (fun _ h=>h.elim) (dm.refl K) (fun j b q=>.inl ⟨0,Y j b q⟩)⟩
 refine(hc _ K (jq N) w Z rfl J (O H)).mono ?_;rintro v w'⟨G,A,g,s,d,hr,t⟩;obtain⟨W,x,rfl⟩:=hR g s t;obtain⟨C,hh',hp',hd'⟩:=JP (K:=G) (β:=A) (w:=w') 0 W (fun j x q=>by rw[dJ];exact d.ob j x q) d.dis
 have u:∀b,(C b).isSome=true->∃j,(A j).has b:=fun b n=>by grind
 have k:∀b,blocks (jq N) b->(β 0).has b:=fun b ⟨j,q⟩=>Y j b q
 refine⟨G,fun i=>if i=0 then .set (fun b=>(C b).isSome=true)else .no,.v x,[Go.Xg.blob s],?_,hr.pc rfl,s,t,rfl⟩
 have E:∀i b,((fun i=>if i=0 then Bk.set (fun b=>(C b).isSome=true)else .no) i).has b->i=0/\(C b).isSome=true:=fun i b n=>by
  simp only at n;split at n
  ·rename_i c;exact⟨c,n⟩
  ·exact n.elim
 refine⟨l.ext.step d.ext (fun j q=>(l.own 0 j (k j q)).symm),l.kle.trans d.kle,fun i=>?_,l.loc,d.fz,fun i z c=>?_,fun i c=>?_,fun i j b c q=>?_,fun i b c=>?_,fun b o g hg=>?_,d.tab.step (S:=gS) (Ext.refl w') (fun _ h=>h.elim) (dm.refl G) (fun i b c=>.inl (u b (E i b c).2))⟩
 ·have:=l.ble i
  rcases Nat.eq_zero_or_pos i with c|c
  ·subst c;rw[e]at this;generalize B.β0 0=y at this
   cases y with
   |no=>trivial
   |set S=>trivial
   |fix b=>cases this
   |gr a b=>grind[kE]
  grind
 ·grind[hO]
 ·grind
 ·rw[(E i b c).1,(E j b q).1]
 ·have⟨j,q⟩:=u b (E i b c).2
  rcases d.own j b q with r|r
  ·exact l.own 0 b (k b r)
  ·exact .inr (jk l.ext.size r)
 ·rcases d.kn b o g hg with r|r|r
  ·exact l.kn b o g r
  ·exact .inr (l.own 0 b (k b r))
  ·exact .inr (.inr (jk l.ext.size r))
theorem Bh{bg:List Nd}{h:Value}{ns:List Value}:∀x∈db bg h ns,x.FH:=fun x hx=>by
 rcases iY hx with rfl|hx
 ·intro r v g X;have⟨i,j⟩:=List.getElem?_of_mem v;rw[getElem?_zipWith]at j;split at j
  ·cases j;unfold bV at X;simp only[List.mem_cons,List.not_mem_nil,or_false]at X
   grind
  grind
 ·have⟨i,j⟩:=List.getElem?_of_mem hx;rw[getElem?_zipWith]at j;split at j
  ·cases j;intro r v g X;obtain⟨s,_,rfl⟩:=ra.1 v
   grind
  grind
def Inv.uQ{B:Bs}{K:Fz}{β:Bt}{Γ A:ap}{w:World}{bg:List Nd}{h:Value}{ns:List Value}(F:Inv B K β Γ w)(H:pn bg h ns)(c:Γ=A++db bg h ns)(G:B.m<=A.length)(X:sO A.length A=true) :
  ∃e,dm K e/\Rel e (fun _=>.no) h (.sl 5 (bg.map aN))/\Inv B e (dT (below A.length) β) A w:=by
 have Y:=H.len
 have d:∀i,i<bg.length->bg[i]?=some (bg.getD i ⟨0,0,0,[],[]⟩)/\ns[i]?=some (ui ns i):=fun i b=>by
  grind[ui]
 have z:Γ[A.length]?=some (.vech 82 5 (List.zipWith bV bg ns) h):=by rw[c,j0 (aY _),r9];rfl
 have C:∀i,i<bg.length->Γ[A.length+1+i]?=some (.vech 3 1 (fZ (bg.getD i ⟨0,0,0,[],[]⟩).aw) (ui ns i)):=fun i b=>by
  rw[c,j0 V,show A.length+1+i-A.length=i+1 by omega];unfold db;rw[List.getElem?_cons_succ,wj (d i b).1 (d i b).2];rfl
 obtain⟨W,l,u,O,J,r,Z,r2,S⟩:=F.Am (jf:=A.length) (N:=bg.length) (o:=4) (E:=3) (k':=1) (raw:=fun i=>bV (bg.getD i ⟨0,0,0,[],[]⟩) (ui ns i)) (fin:=fun i=>aN (bg.getD i ⟨0,0,0,[],[]⟩)) (ks:=fun i=>fZ (bg.getD i ⟨0,0,0,[],[]⟩).aw) (hd:=fun i=>ui ns i) (jp:=fun i=>A.length+1+i)
  z ⟨by grind,fun i b=>wj (d i b).1 (d i b).2⟩ (fun i b=>⟨rfl,rfl⟩) C (fun i b=>by omega) (fun i j _ _ h=>by omega)
 have v:u=bg.map aN:=by
  apply ext_getElem?
  grind
 rw[v]at r;have⟨t,R,T,M⟩:=J.pb r
 have k:(oset l A.length (.vec 82 5 (bg.map aN).length (bg.map aN))).take A.length=A:=by
  apply ext_getElem?;intro q;rw[List.getElem?_take];split
  ·rw[bI,eY,ae V,S q V (fun i _=>by omega),c,j1 V]
  grind
 have s:=M.cut (n:=A.length) G zff;rw[k]at s;exact⟨t,O.trans R,T.pc rfl,s⟩
def Wk.uQ{m:Nat}{fr:am}{Γ:ap}(A:ap){bg:List Nd}{h:Value}{ns:List Value}{i o:Nat}{T:TypeId}{cs:am}(H:pn bg h ns)(q:Γ=A++db bg h ns)(t:m<=A.length)(n:sO A.length A=true)(hi:A[i]?=some (.box T cs))(E:cs[o]?=some (.v h)) :
  Wk m fr Γ (u3 A.length fr) (oset A i (.box T (bJ cs o (.sl 5 (bg.map aN))))):=fun B K β w l N j O=>by
 have⟨S,k,z,F⟩:=j.uQ H q V n;have⟨b,s,r,c,G,C⟩:=F.ob i _ hi;exact⟨S,_,F.swap ⟨b,s,r,c,bF.bJ (z.pc rfl) G E,C⟩,(O.res).mono k (dV.refl _)⟩
def Ob.sr:Ob->Bool
 |.vech _ _ _ _=>true
 |.blob _=>true
 |.box _ O=>mZ O
 |_=>false
def Inv.TF{B:Bs}{K:Fz}{β:Bt}{Γ:ap}{w:World}(h:Inv B K β Γ w){bc:List Nat}(Z:∀j,j<B.m->bc[j]?=some j){u:ap}(W:u.length=bc.length)(hn:bc.Nodup)
  (hx:∀(j:Nat)x,u[j]?=some x->x.sr=true/\∀i,bc[j]?=some i->Γ[i]?=some x):Inv B K (ga β bc) u w:=by
 have n:∀i b,(ga β bc i).has b->∃q,bc[i]?=some q/\(β q).has b:=fun i b l=>by
  grind[ga,Bk.has]
 refine⟨h.ext,h.kle,fun i=>?_,h.loc,h.fz,fun i x l=>?_,fun i l=>?_,fun i j b l Y=>?_,fun i b l=>?_,h.kn,h.tab.step (S:=gS) (Ext.refl w) (fun _ h=>h.elim) (dm.refl K) (fun i M c=>?_)⟩
 ·rcases Nat.lt_or_ge i B.m with l|l
  ·have:ga β bc i=β i:=by grind[ga]
   rw[this];exact h.ble i
  ·rw[h.loc i l];trivial
 ·have⟨o,c⟩:=hx i x l;have N:=(bY l).1;have G:bc[i]?=some (bc[i]'V):=cK _
  have t:ga β bc i=β (bc[i]'V):=by grind[ga]
  cases x with
  |vech E k H v =>
   have⟨X,z,R,s,F,A⟩:=h.ob _ _ (c _ G);exact⟨X,t.trans z,R,s.mZ F.flat,F,A⟩
  |blob p =>
   have⟨g,z,R,s⟩:=h.ob _ _ (c _ G)
   grind[hO,ga]
  |box E O =>
   have⟨b,J,z,R,s,F⟩:=h.ob _ _ (c _ G);exact⟨b,J,t.trans z,R,s.mZ (lz o),F⟩
  |_=>cases o
 ·grind[ga]
 ·have⟨q,o,c⟩:=n i b l;have⟨r,T,C⟩:=n j b Y;have:=h.dis q r b c C
  grind[List.getElem?_eq_some_iff,List.getElem_inj]
 ·have⟨q,o,c⟩:=n i b l;exact h.own q b c
 grind
def I7{P:Program}{fn:Func}{R:GV->ap->Prop}{fr:am}{Γ:ap}{e:Exit}{t u s:Tmp}{T:TypeId}{k:Nat}[hT:Ty P T true k]{i:Nat}{E:TypeId}{cs:am}{y z:Value}(n:Nat)(Z:fn.results=#[.cell t T,.tmp u,.tmp s])(W:e=.normal\/e=.ret)(hg:bD fr t=.loc i 0)(H:Γ[i]?=some (.box E cs))(hk:cs.length=k)(X:mZ cs=true)(r:bD fr u=.v y)(A:bD fr s=.v z)
  (ha:∀x∈Γ.drop n,x.sr=true)(h:R (.tup [.agg cs,.v y,.v z]) (Γ.drop n)):qv P fn 0 R e fr Γ :=
 ⟨W,fun B K β w l hB M q=>by
  have⟨b,vs,h1,h2,O,h4⟩:=M.ob i _ H
  have G:nth l t=.pointer (some ⟨b,0,none⟩):=by
   have:=q.nth t;rw[hg]at this;generalize nth l t=v at this
   cases this with
   |loc _ _ b' S=>grind
  have Y:l.toArray.getD t undef=.pointer (some ⟨b,0,none⟩):=by rw[iJ,G]
  have F:=km (P:=P) (w:=w) (t:=T) (b:=b) (o:=0) (vs:=vs) (k:=k) V (fun j v C=>by
   grind[World.cell?])
  have d:l[t]?.getD undef=.pointer (some ⟨b,0,none⟩):=by simp_all
  have J:bF K (ga β ((List.range (Γ.length-n)).map (·+n))) vs cs:=O.mZ (lz X);have hu:nth l u=y:=Rel.eW (by rw[<-r];exact q.nth u);have hs:nth l s=z:=Rel.eW (by rw[<-A];exact q.nth s);have c:(Γ.drop n).length=((List.range (Γ.length-n)).map (·+n)).length/\((List.range (Γ.length-n)).map (·+n)).Nodup /\
   ∀(j:Nat)x,(Γ.drop n)[j]?=some x->x.sr=true/\∀i,((List.range (Γ.length-n)).map (·+n))[j]?=some i->Γ[i]?=some x:=by
   refine⟨by simp,?_,fun j x C=>⟨ha x (bP C),fun i hi=>?_⟩⟩
   ·grind[List.nodup_range]
   grind
  refine⟨.tuple #[.agg vs.toArray,y,z],K,ga β ((List.range (Γ.length-n)).map (·+n)),.tup [.agg cs,.v y,.v z],Γ.drop n,?_,M.TF (fun j C=>by omega) c.1 c.2.1 c.2.2,?_,h⟩
  ·rw[<-hu,<-hs,<-iJ l u,<-iJ l s];simp[results,Z,d,asAddr,F]
  ·have N:bF K (ga β ((List.range (Γ.length-n)).map (·+n))) [.agg vs.toArray,y,z] [.agg cs,.v y,.v z]:=.cons (.agg vs cs J.1 J.2) (.cons (.v _) (.cons (.v _) .nil))
   exact .tup [.agg vs.toArray,y,z] _ N.1 N.2⟩
def Wk.Lz{m:Nat}{fr:am}{Γ:ap}(j:m<=Γ.length)(n:sO Γ.length Γ=true):Wk m fr Γ (u3 Γ.length fr) (Γ++[blob (db [] y6 [])]) :=
 (Wk.gz 82 5).trans (Wk.pack Γ (db [] y6 []) rfl j Bh n)
theorem pn.nil:pn [] y6 []:=⟨⟨none,0,rfl⟩,rfl,fun i x y h=>by simp at h⟩
def Gl(Γ:ap):List Nat->ap->Prop
 |[],[]=>True
 |i::r,x::X=>(Γ[i]?=some x/\x.sr=true)/\Gl Γ r X
 |_,_=>False
def zC{Γ:ap}:∀{bc:List Nat}{k:ap},Gl Γ bc k->k.length=bc.length/\∀(j:Nat)x,k[j]?=some x->x.sr=true/\∀i,bc[j]?=some i->Γ[i]?=some x
 |[],[],_=>⟨rfl,fun j x h=>by simp at h⟩
 |i::r,x::X,h=>by
  have⟨o,b⟩:=zC h.2;refine⟨by simp[o],fun j y Y=>?_⟩
  cases j with
  |zero=>cases Y;exact⟨h.1.2,fun J l=>by cases l;exact h.1.1⟩
  |succ j=>grind
 |[],_::_,h=>h.elim
 |_::_,[],h=>h.elim
def SP{P:Program}{fn:Func}{m:Nat}{R:GV->ap->Prop}{fr:am}{Γ:ap}{e:Exit}{t:Tmp}{T:TypeId}{k:Nat}[hT:Ty P T true k]{i:Nat}{E:TypeId}{cs:am}(bc:List Nat)(r:ap)(O:fn.results=#[.cell t T])(H:e=.normal\/e=.ret)(hg:bD fr t=.loc i 0)(q:Γ[i]?=some (.box E cs))(hk:cs.length=k)(M:mZ cs=true)
  (S:bc.Nodup)(hm:bc.take m=List.range m)(hx:Gl Γ bc r)(h:R (.agg cs) r):qv P fn m R e fr Γ :=
 ⟨H,fun B K β w l C u F=>by
  have⟨b,vs,Z,h2,A,h4⟩:=u.ob i _ q
  have n:nth l t=.pointer (some ⟨b,0,none⟩):=by
   have:=F.nth t;rw[hg]at this;generalize nth l t=v at this
   cases this with
   |loc _ _ Y G=>grind
  have N:l.toArray.getD t undef=.pointer (some ⟨b,0,none⟩):=by rw[iJ,n]
  have d:=km (P:=P) (w:=w) (t:=T) (b:=b) (o:=0) (vs:=vs) (k:=k) V (fun j v z=>by
   grind[World.cell?])
  have c:l[t]?.getD undef=.pointer (some ⟨b,0,none⟩):=by simp_all
  have s:bF K (ga β bc) vs cs:=A.mZ (lz M);have⟨W,X⟩:=zC hx;refine⟨.agg vs.toArray,K,ga β bc,.agg cs,r,?_,u.TF (fun j z=>?_) W S X,.agg vs cs s.1 s.2,h⟩
  ·simp[results,O,c,asAddr,d]
  ·rw[C]at z
   have J:(bc.take m)[j]?=some j:=by grind
   grind⟩
def LD(n:Nat)(r:am):Bool:=match r with
 |[.v (.string b)]=>Nat.ble b.data.size n
 |_=>false
def VP{n m:Nat}{rows:List am}(h:rows.all (LD n)=true)(j:m<rows.length):∃s:ab,rows[m]?=some [.v (sv s)]/\s.length<=n:=by
 have hx:rows[m]?=some rows[m]:=cK j;have o:=ea.1 h rows[m] (bP hx);rw[hx];generalize rows[m]=r at *;unfold LD at o;split at o
 ·rename_i b;refine⟨b.data.toList,?_,by simp_all⟩;rfl
 grind
section
variable{P:Program}{m:Nat}{Q:dN}{fr:am}{Γ:ap}{ops:Array Oper}{rest:List Oper}{ty:TypeId}{pos:String}{af:Array Edge}
def xm{g:GV}:∀{fr:am}{t:Nat},il fr t=true->bD (bJ fr t g) t=g
 |[],t,h=>by cases h
 |x::fr,0,h=>rfl
 |x::fr,t+1,h=>xm (fr:=fr) (t:=t) h
def GL.yU{x y:Operand}{E W:Tmp}{t e i:TypeId}[u:lX P t e 1][R:Ty P i false 1]{j:TypeId}{C:String}{z:Array Edge}(n:Nat){q:Nat}{rows:List am}{H:IntKind}(hx:bf fr x=.sl 1 rows)(F:bf fr y=.v (.int H q))(A:rows.all (LD n)=true)(J:q<rows.length)(r:il fr E=true)
  (h:∀s:ab,s.length<=n->GL P m ops Q rest (bX (bX fr (some E) (.box [.v (sv s)] 0)) (some W) (.v (sv s))) Γ) :
  GL P m ops Q (⟨some E,.indexAddr t x y,ty,pos,af,none⟩::⟨some W,.load i (.tmp E),j,C,z,none⟩::rest) fr Γ:=by
 have⟨s,G,M⟩:=VP A J;refine GL.q (YG.gR hx F G) ?_;refine GL.q (YG.XN (cs:=[.v (sv s)]) (o:=0) ?_ rfl) (h s M);exact xm r
end
def YG.jh{P:Program}{fr:am}{Γ:ap}{x y:Operand}{t e:TypeId}{k:Nat}[q:lX P t e k](i:Nat){v:Value}{z:IntKind}{j E n:Nat}{rows:List am}(hx:bf fr x=.v v)(C:bf fr y=.v (.int z j))(o:Γ[i]?=some (.vech E k rows v))(hn:rows.length=n)(Y:j<n):YG P (.indexAddr t x y) fr Γ (.vp i n k j 0):=by
 subst hn;exact YG.a8 i hx C o Y
def YG.Tp{P:Program}{fr:am}{Γ:ap}{x y:Operand}{t e:TypeId}{k:Nat}[r:lX P t e k](i j:Nat){v:Value}{A:IntKind}{z:Int}{E n:Nat}{rows:List am}(hx:bf fr x=.v v)(C:bf fr y=.v (.int A z))(q:z=(j:Int))(o:Γ[i]?=some (.vech E k rows v))(hn:rows.length=n)(Y:j<n):YG P (.indexAddr t x y) fr Γ (.vp i n k j 0):=by
 subst q;exact YG.jh i hx C o hn Y
end Go.Xg
set_option maxHeartbeats 4000000
namespace Go.Xg
open Go.RowKit Go.Xw Go.Proofs Tryz Go.Sp Go.Im
open Go.Xp (Ar ji)
attribute [local irreducible] GW GL GO YG GC GA bo bq
def V2(p:RS)(gl:List ab)(e:List Ar)(hf hn:Value)(g:GV)(k:ap):Prop :=
 ∃q M Q H X,p.to q/\Hd M.length H/\Hd Q.length X/\(q.code=0->p.i<q.i/\∀w s,PB ⟨gl,e,w,s⟩ p.i->PB ⟨M,Q,w,s⟩ q.i) /\
  g=.agg [.v H,.v X,.v hf,.v hn]/\k=[cb q,.vech 9 1 (bs M) H,.vech 79 2 (Q.map aW) X]
def Bd{p:RS}{s:ab}(G:s≠[])(h:(p.ba s).code=0):p.i<(p.ba s).i:=by
 rw[(rF G h).1];grind[RS.next]
def Q6(p:RS)(r:p.ok)(hb:SB p)(gl:List ab)(d:List Ar)(hg ha hf hn:Value)(Hg:Hd gl.length hg)(Ha:Hd d.length ha){Y nn:Nat}(Hf:Hd Y hf)(Hn:Hd nn hn)(vw:gl.length<=1000000)(Ja:d.length<=1000000) :
  GC prog 169 [.loc 0 0,.agg [.v hg,.v ha,.v hf,.v hn]] [cb p,.vech 9 1 (bs gl) hg,.vech 79 2 (d.map aW) ha] (V2 p gl d hf hn):=by
 obtain⟨ag,cg,rfl⟩:=Hg;obtain⟨aa,ca,rfl⟩:=Ha;obtain⟨af,cf,rfl⟩:=Hf;obtain⟨an,cn,rfl⟩:=Hn;have abI:(bs gl).length=gl.length:=ct _;have m:(d.map aW).length=d.length:=ct _;have M:=da p ji r aR;have t1:=b0 r (s:=ji) aR;have o1:=t1.ok r;have i1:(p.ba ji).code=0->p.i<(p.ba ji).i:=Bd aR;generalize p.ba ji=G at *;have B:=ou G o1;have H:=t1.trans (eV o1);have F:=H.ok r;have Z:=oy G
 have ne:¬G.code=0->¬G.name.2.code=0:=fun h=>by grind[RS.name]
 have le:=(eV o1).2.2.2;generalize G.name=nm at *;have⟨s,b⟩:=nm;simp only at B H F Z ne le;have N:=dz b 0 F aR
 by_cases hs:b.aJ 0=[91]
 ·have T:(b.aJ 0==[91])=true:=by grind
  have o:=dH hs aR;have hz2:=o.2;have o:=o.1;rw[Nat.add_zero]at o;have vz:=F.2;have t3:=H.trans (cY o);have o3:=t3.ok r;have Q:=hb.to t3
  have li:b.next.i=b.i+1:=rfl
  have ls:b.next.l=b.l:=rfl
  have lc:b.next.code=b.code:=rfl
  have O:GF prog 172 [.loc 0 0] [cb b.next] (y4 b.next.place) [cb b.next]:=jY _ o3;have w:=t3.trans (Kn o3);have A:=w.ok r;have J:=R0 Q;have u:=(Kn o3).2.2.2
  have j:∀(z:Int)(q:RS),pY b.next=(z,q)->GF prog 223 [.loc 0 0,.v (sv [93])] [cb q] (.tup []) [cb (q.ba [93])]/\GF prog 223 [.loc 0 0,.v (sv [59])] [cb (q.ba [93])] (.tup []) [cb ((q.ba [93]).ba [59])] /\
    ∀a c n,n=d.length->V2 p gl d (.slice af Y cf) (.slice an nn cn) (.agg [.v (.slice ag gl.length cg),.v (.slice a (n+1) c),.v (.slice af Y cf),.v (.slice an nn cn)]) [cb ((q.ba [93]).ba [59]),.vech 9 1 (bs gl) (.slice ag gl.length cg),.vech 79 2 (d.map aW++[[.v (sv s),y4 z]]) (.slice a (n+1) c)]:=fun z q e=>by
   rw[e]at w A J u;simp only at w A J u;have t5:=w.trans (b0 A (s:=[93]) aR);have o5:=t5.ok r;have t6:=t5.trans (b0 o5 (s:=[59]) aR);refine⟨da _ _ A aR,da _ _ o5 aR,?_⟩;rintro a c n rfl;refine⟨_,gl,d++[⟨s,z⟩],_,_,t6,⟨_,_,rfl⟩,⟨a,c,by simp⟩,fun R=>?_,rfl,by rw[gJ];rfl⟩;have a1:=Bd aR R;have a2:=(b0 A (s:=[93]) aR).2.2.2;have a3:=(b0 o5 (s:=[59]) aR).2.2.2
   have k:p.i<((q.ba [93]).ba [59]).i:=by omega
   exact⟨k,fun fs X h=>h.arr ⟨s,z⟩ Z J k⟩
  clear w A J u
  cases W:b.l[b.i+1]? with
  |none =>
   have NI:=oP W
   have hd:decide (((b.i+1:Nat):Int)<((b.l.map dp).length:Int))=false:=by grind
   have e:pY b.next=(0,b.next.fail 7 b.next.place):=by grind[pY,RS.next,RS.fail,RS.place]
   exact zay
  |some t =>
   have abS:=(bY W).1
   have hd:decide (((b.i+1:Nat):Int)<((b.l.map dp).length:Int))=true:=by grind
   have hr:=lA W
   by_cases hk:t.ai=1
   ·have S:(t.ai==1)=true:=by grind
    have e:pY b.next=(t.n,b.next.next):=by grind[pY]
    have⟨C,E,j⟩:=j _ _ e;refine au func169 ntmps169 ?_;refine D [0] M ?_;refine D [0] B ?_;refine D [0] N ?_;refine aV (aL 0 24 .nil) ?_;refine bn ?_;refine aV (aL 0 12 .nil) ?_;refine bn ?_;refine D [0] C ?_;refine GL.kx 2 rfl rfl rfl rfl rfl rfl rfl rfl aQ np ?_;intro a c;refine zb0 ?_;refine D [0] E ?_;refine ej ?_;exact j _ _ _ m
   ·have S:(t.ai==1)=false:=by grind
    have e:pY b.next=(0,b.next.fail 7 b.next.place):=by grind[pY,RS.next,RS.fail,RS.place]
    exact zay
 ·have T:(b.aJ 0==[91])=false:=by
   grind
  have O:=da b [59] F aR;have w:=H.trans (b0 F (s:=[59]) aR);refine au func169 ntmps169 ?_;refine D [0] M ?_;refine D [0] B ?_;refine D [0] N ?_;refine zeW ?_;intro a c;refine zb0 ?_;refine D [0] O ?_;refine ej ?_;refine⟨_,gl++[s],d,_,_,w,⟨a,c,by grind⟩,⟨_,_,rfl⟩,fun R=>?_,rfl,by unfold bs;simp⟩;have a1:=Bd aR R;have a2:=H.2.2.2
  have k:p.i<(b.ba [59]).i:=by omega
  exact⟨k,fun fs X h=>h.glob s Z k⟩
open GV (U)
open Go.Xp (Nd T aU dW jv)
def FnR(p:RS)(av:List Go.Sp.Fn)(bg:List Nd)(hg ha:Value)(g:GV)(k:ap):Prop :=
 ∃q n m o r S,p.to q/\Hd n.length o/\pn m r S/\(q.code=0->p.i<q.i/\∀gl e,PB ⟨gl,e,av,bg⟩ p.i->PB ⟨gl,e,n,m⟩ q.i) /\
  g=.agg [.v hg,.v ha,.v o,.v r]/\k=[cb q,.vech 53 3 (n.map aD) o,blob (db m r S)]
def UM(p:RS)(J:p.ok)(hb:SB p)(h6:p.l.length<=6000)(av:List Go.Sp.Fn)(bg:List Nd)(hg ha hf hn:Value)(ns:List Value){ng na:Nat}(Hg:Hd ng hg)(Ha:Hd na ha)(Hf:Hd av.length hf)(Hn:pn bg hn ns)(hfl:av.length<=1000000)(Jh:bg.length<=1000000) :
  GC prog 170 [.loc 0 0,.agg [.v hg,.v ha,.v hf,.v hn]] [cb p,.vech 53 3 (av.map aD) hf,blob (db bg hn ns)] (FnR p av bg hg ha):=by
 obtain⟨ag,cg,rfl⟩:=Hg;obtain⟨aa,ca,rfl⟩:=Ha;obtain⟨F,G,rfl⟩:=Hf;have abG:(av.map aD).length=av.length:=ct _
 have R:=fun(t:T)(h:aU t<=1000000)=>GC.blob (FL (aU t) t (aY _) bg hn ns Hn V) (fun g Δ hR=>by
  grind[Bh])
 obtain⟨⟨an,H,rfl⟩,Hn2,Hn3⟩:=id Hn;have m1:=da p jv J aR;have t1:=b0 J (s:=jv) aR;have o1:=t1.ok J;have i1:(p.ba jv).code=0->p.i<(p.ba jv).i:=Bd aR;generalize p.ba jv=k at *;have m2:=ou k o1;have t2:=t1.trans (eV o1);have o2:=t2.ok J;have nl:=oy k
 have ne:¬k.code=0->¬k.name.2.code=0:=fun h=>by grind[RS.name]
 have le2:=(eV o1).2.2.2;generalize k.name=nm at *;have⟨s,p2⟩:=nm;simp only at m2 t2 o2 nl ne le2;have m3:=da p2 [40] o2 aR;have t3:=t2.trans (b0 o2 (s:=[40]) aR);have m:=t3.ok J
 have ne3:¬k.code=0->¬(p2.ba [40]).code=0:=fun h=>MK aR (ne h)
 have le3:=(b0 o2 (s:=[40]) aR).2.2.2;generalize p2.ba [40]=d at *;have m4:=dz d 0 m aR;refine au func170 ntmps170 ?_;refine D [0] m1 ?_;refine GW.join (fun Q Γ=>Q=.loc 0 0::U::U::.loc 3 0::.loc 4 0::.loc 5 0::zU 59 []/\Γ=[cb p2,.vech 53 3 (av.map aD) (.slice F av.length G),blob (db bg (.slice an bg.length H) ns),.box 28 [.v (.slice ag ng cg),.v (.slice aa na ca),.v (.slice F av.length G),.v (.slice an bg.length H)],.box 28 [.v y6,.v y6,.v y6,.v y6],.box 53 [.v (sv s),.v y6,y4 (bg.length:Nat)]]) ?_ ?_
 ·refine aV (.q 0 (aL 2 3 (.f 1 (.q 5 (.a 6 (.a 7 .nil))) 6 (.a 1 (.q 5 (.a 7 .nil)))))) ?_;refine ax ?_;refine GO.fork ?_ ?_
  ·refine aP [0] m2 ?_;exact fq
  ·refine OA rfl rfl (GL.alloc rfl ?_);refine cD ?_;refine ax ?_;refine aP [0] m2 ?_;exact fq
 rintro _ _⟨rfl,rfl⟩;refine I ?_;refine D [0] m3 ?_;refine GL.wk (Wk.gz 9 1) ?_;refine zbc ?_;refine D [0] m4 ?_
 refine GW.join (fun Q Γ=>∃q b a c,Q=.loc 0 0::U::U::.loc 3 0::.loc 4 0::.loc 5 0::zU 59 []/\Γ=[cb q,.vech 53 3 (av.map aD) (.slice F av.length G),blob (db bg (.slice an bg.length H) ns),.box 28 [.v (.slice ag ng cg),.v (.slice aa na ca),.v (.slice F av.length G),.v (.slice an bg.length H)],.box 28 [.v y6,.v y6,.v y6,.v y6],.box 53 [.v (sv s),.v (.slice a b.length c),y4 (bg.length:Nat)],.vech 9 1 (bs b) (.slice a b.length c)] /\
  d.to q/\b.length+d.i<=q.i+1/\(∀s∈b,s.length<=12)/\(¬k.code=0->¬q.code=0)) ?_ ?_
 ·by_cases hs:d.aJ 0=[41]
  ·have hs':(!(d.aJ 0==[41]))=false:=by grind
   refine I ?_;exact⟨_,_,Wk.aZ az,d,[],none,0,rfl,rfl,jV m,by simp,fun s h=>zfn,ne3⟩
  ·have hs':(!(d.aJ 0==[41]))=true:=by grind
   have X:=ou d m;have B:=eV m;have M:=B.ok m;have nl5:=oy d
   have Z:¬k.code=0->¬d.name.2.code=0:=fun h=>by grind[RS.name]
   generalize d.name=nm at *;have⟨s5,p5⟩:=nm;simp only at X B M nl5 Z;refine I ?_;have hl0:([]:List am).length=0:=rfl;refine zbR ?_;refine aP [0] X ?_;refine zap ?_;refine OA rfl rfl (GL.ml 6 (news:=[[.v (sv s5)]]) rfl rfl rfl aQ rfl rfl (by refine⟨?_,?_⟩;(· show _+1<=_;omega);(· show(_+1)*_<=_;omega)) ?_);intro a c;refine zdy ?_
   refine GW.loop (fun x:Nat=>6000-x) (fun x Q Γ=>∃q b a c,Q=.loc 0 0::U::U::.loc 3 0::.loc 4 0::.loc 5 0::zU 59 []/\Γ=[cb q,.vech 53 3 (av.map aD) (.slice F av.length G),blob (db bg (.slice an bg.length H) ns),.box 28 [.v (.slice ag ng cg),.v (.slice aa na ca),.v (.slice F av.length G),.v (.slice an bg.length H)],.box 28 [.v y6,.v y6,.v y6,.v y6],.box 53 [.v (sv s),.v (.slice a b.length c),y4 (bg.length:Nat)],.vech 9 1 (bs b) (.slice a b.length c)] /\
    d.to q/\b.length+d.i<=q.i+1/\(∀s∈b,s.length<=12)/\(¬k.code=0->¬q.code=0)/\x=q.i) p5.i ?_ ?_
   ·exact⟨_,_,(Wk.cut (n:=7) (ek rfl) rfl).trans (Wk.aZ az),p5,[s5],a,c,rfl,rfl,B,by have:=B.2.2.2;grind,fun s h=>by grind,Z,rfl⟩
   ·rintro _ _ _⟨q,b,a,c,rfl,rfl,E,u,w,W,rfl⟩;have N:=E.ok m;have Y:=dz q 0 N aR
    have hql:q.l.length<=6000:=by rw[E.1,t3.1];exact h6
    have oq1:=N.1;have hsl:(bs b).length=b.length:=ct _
    by_cases hc:q.aJ 0=[44]
    ·have z:(q.aJ 0==[44])=true:=by grind
     have e:=dH hc aR;have hq0:=e.2;have e:=e.1;rw[Nat.add_zero]at e;have tn:=cY e;have on:=tn.ok N
     have m7:GF prog 224 [.loc 0 0] [cb q.next] (.v (sv q.next.name.1)) [cb q.next.name.2]:=ou q.next on
     have t7:=E.trans (tn.trans (eV on))
     have nl7:=oy q.next
     have le7:=(eV on).2.2.2
     have hni:q.next.i=q.i+1:=rfl
     have Je:=(t7.ok m).1
     have NL:q.next.name.2.l.length<=6000:=by rw[t7.1,t3.1];exact h6
     have A:k.code=0:=by
      omega
     generalize q.next.name=nm at *
     have⟨s7,p7⟩:=nm;simp only at m7 t7 nl7 le7 Je NL;refine I ?_;refine D [0] Y ?_;refine zbR ?_;refine aP [0] m7 ?_;refine zap ?_;refine OA rfl rfl (GL.ml 6 (news:=[[.v (sv s7)]]) rfl rfl rfl aQ rfl rfl (by refine⟨?_,?_⟩;(· show _+1<=_;omega);(· show(_+1)*_<=_;omega)) ?_);intro a2 c2;refine zdy ?_
     exact⟨p7.i,⟨_,_,(Wk.cut (n:=7) (ek rfl) rfl).trans (Wk.aZ az),p7,b++[s7],a2,c2,rfl,by simp[bs],t7,by grind,fun s h=>by
      grind,fun h=>absurd A h,rfl⟩,by omega⟩
    ·have z:(q.aJ 0==[44])=false:=by
      grind
     refine I ?_;refine D [0] Y ?_;refine jE ?_;exact⟨_,_,Wk.aZ az,q,b,a,c,rfl,rfl,E,u,w,W⟩
 ·rintro _ _⟨q,b,a,c,rfl,rfl,E,u,w,W⟩;have N:=E.ok m;have X:=da q [41] N aR;have B:=E.trans (b0 N (s:=[41]) aR);have M:=B.ok m;have C:=t3.trans B;have sb5:=hb.to C
  have mk:(q.ba [41]).code=0->q.code=0/\(q.ba [41]).i=q.i+1:=fun h=>by
   obtain⟨h1,h2,-⟩:=rF aR h;exact⟨h2,by rw[h1];rfl⟩
  generalize q.ba [41]=r at *
  have hr6:r.l.length<=6000:=by rw[C.1];exact h6
  have⟨t,v,hS⟩:=(OE (5*r.left+4)).1 1 r M (aY _)
  have NK:r.left<=6000:=by grind[RS.left]
  have Y:=(sds (5*r.left+4)).block 1 r t v M V hS;have t6:=((pU (5*r.left+4)).1 _ _ _ _ M (fun a d' h=>by cases h) hS);have⟨bt,bz,bi⟩:=(TA (5*r.left+4)).1 1 r t v M sb5 hS;have tv:=C.trans t6;have ov:=tv.ok J
  have hv6:v.l.length<=6000:=by rw[tv.1];exact h6
  have hvi:=ov.1;have hL:=R t V
  have back:v.code=0->r.code=0:=fun h=>by
   grind[F3]
  by_cases hc:v.code=0
  ·have z:(v.code==0)=true:=by grind
   refine I ?_;refine D [0] X ?_;refine D [0] Y ?_;refine b6 [2] hL ?_;rintro _ _⟨_,⟨hn',ns',O,rfl,rfl⟩,rfl⟩;obtain⟨⟨an2,cn2,rfl⟩,-,-⟩:=id O;refine ch ?_;refine GL.wk (Wk.o9 (i:=5) (o:=1) (j:=6) rfl rfl rfl rfl) ?_;refine zb0 ?_;refine zeW ?_;intro a3 c3;refine zb0 ?_;refine ej ?_;have hr:=back hc;have⟨hq0,Th⟩:=mk hr
   have A:k.code=0:=by
    omega
   have hi:=i1 A
   have S:p.i<v.i:=by omega
   refine⟨v,av++[⟨s,b,bg.length⟩],bg++dW bg.length t,_,_,ns',tv,⟨a3,c3,by simp⟩,O,fun _=>⟨S,fun gl ars h=>h.fn ⟨s,b,bg.length⟩ t nl w bt b.length (v.i-r.i) (aY _) bz V⟩,rfl,by rw[gJ];rfl⟩
  ·have z:(v.code==0)=false:=by grind
   refine I ?_;refine D [0] X ?_;refine D [0] Y ?_;refine ej ?_;exact⟨v,av,bg,_,_,ns,tv,⟨_,_,rfl⟩,Hn,fun h=>absurd h hc,rfl,rfl⟩
def qU(p:Src)(hg ha hf hn:Value)(ns:List Value):ap :=
 [.vech 9 1 (bs p.aq) hg,.vech 79 2 (p.aj.map aW) ha,.vech 53 3 (p.av.map aD) hf,blob (db p.ah hn ns)]
structure sH(p:Src)(hg ha hf hn:Value)(ns:List Value):Prop where
 g:Hd p.aq.length hg
 a:Hd p.aj.length ha
 f:Hd p.av.length hf
 n:pn p.ah hn ns
def J8:sH Gc y6 y6 y6 y6 []:=⟨⟨none,0,rfl⟩,⟨none,0,rfl⟩,⟨none,0,rfl⟩,pn.nil⟩
def Qe(g:GV)(k:ap):Prop:=∃p X w l d o c z,sH p X w l d o/\cU p<=340000/\kF p/\g=.tup [.agg [.v X,.v w,.v l,.v d],y4 c,y4 z]/\k=qU p X w l d o
def Vf(c z:Int):Qe (.tup [.agg [.v y6,.v y6,.v y6,.v y6],y4 c,y4 z]) (qU Gc y6 y6 y6 y6 []) :=
 ⟨Gc,_,_,_,_,[],c,z,J8,bp _,PB.no.num,rfl,rfl⟩
def R1{p:Src}{hg ha hf hn:Value}{ns:List Value}:∀x∈qU p hg ha hf hn ns,x.sr=true:=fun x hx=>by
 unfold qU at hx
 grind[Ob.sr]
def GW.LA{P:Program}{fn:Func}{Q:dN}{t u s:Tmp}{T:TypeId}[q:Ty P T true 4]{i:Nat}{E:TypeId}{c z:Int}{fr:am}{Γ:ap}(w:fn.results=#[.cell t T,.tmp u,.tmp s])(hg:bD (u3 (Γ.length+3) fr) t=.loc i 0)(hi:i<Γ.length)(o:Γ[i]?=some (.box E [.v y6,.v y6,.v y6,.v y6]))(A:bD (u3 (Γ.length+3) fr) u=y4 c)(m:bD (u3 (Γ.length+3) fr) s=y4 z)
  (n:sO (Γ.length+3) Γ=true)(J:∀fr Γ,qv P fn 0 Qe .ret fr Γ->Q .ret fr Γ):GW P 0 .ret Q fr Γ:=by
 refine GW.wk (Wk.gz 9 1) ?_;refine GW.wk (Wk.gz 79 2) ?_;refine GW.wk (Wk.gz 53 3) ?_;simp only[dP,cons_append,nil_append]
 have M:(Γ++[Ob.vech 9 1 [] y6,.vech 79 2 [] y6,.vech 53 3 [] y6]).length=Γ.length+3:=by simp
 refine GW.wk (Wk.Lz (bp _) (by rw[M];show kW (below _) (Γ++_)=true;rw[rI,show kW (below (Γ.length+3)) Γ=true from n];rfl)) ?_;rw[M];refine GW.ret ?_;refine J _ _ ?_;refine I7 (k:=4) Γ.length w (.inr rfl) hg (by rw[dP,j1 hi];exact o) rfl rfl A m ?_ ?_
 ·simp[blob,db,Ob.sr]
 ·rw[dP,List.drop_left];exact Vf c z
def BR(s:ab)(hs:s.length<=1000000000000):GC prog 98 [.v (sv s)] [] Qe:=by
 refine au func98 ntmps98 ?_;refine b6 [] (Y7 s hs) ?_;rintro _ _⟨rfl,l,c,z,rfl,hL⟩;refine ch ?_
 by_cases B:c=0
 ·subst B;have⟨hs6,hl6,W⟩:=hL rfl;have AV:(l.map dp).length=l.length:=ct _;refine I ?_
  refine GW.A3 (fun O Γ=>∃q p hg ha hf hn ns,O=U::U::.loc 0 0::U::U::U::U::U::.loc 1 0::.loc 2 0::zU 67 []/\Γ=.box 28 [.v y6,.v y6,.v y6,.v y6]::cb q::.box 28 [.v hg,.v ha,.v hf,.v hn]::qU p hg ha hf hn ns /\
   sH p hg ha hf hn ns/\RS.to ⟨l,0,s.length,0,0⟩ q/\(q.code=0->PB p q.i)) ?_ ?_
  ·refine GW.loop (fun x:Nat=>x) (fun x O Γ=>∃q p hg ha hf hn ns,O=U::U::.loc 0 0::U::U::Go.Xg.iv l::U::U::.loc 1 0::.loc 2 0::zU 67 []/\Γ=.box 28 [.v y6,.v y6,.v y6,.v y6]::cb q::.box 28 [.v hg,.v ha,.v hf,.v hn]::qU p hg ha hf hn ns /\
    sH p hg ha hf hn ns/\RS.to ⟨l,0,s.length,0,0⟩ q/\(q.code=0->PB p q.i)/\x=if q.code=0 then 6001-q.i else 0) 6001 ?_ ?_
   ·exact⟨_,_,((((Wk.gz 9 1).trans (Wk.gz 79 2)).trans (Wk.gz 53 3)).trans (Wk.Lz (bp _) rfl)).trans (Wk.aZ az),⟨l,0,s.length,0,0⟩,Gc,_,_,_,_,[],rfl,rfl,J8,jV ⟨bp _,by grind⟩,fun _=>PB.no,rfl⟩
   ·rintro x _ _⟨q,p,hg,ha,hf,hn,ns,rfl,rfl,J,e,b,hx⟩;have o0:RS.ok ⟨l,0,s.length,0,0⟩:=⟨bp _,by grind⟩;have u:=e.ok o0;have sb0:SB ⟨l,0,s.length,0,0⟩:=⟨W,by grind⟩;have G:=sb0.to e;have hql:q.l=l:=e.1
    have X:q.i<=l.length:=by have:=u.1;grind
    unfold qU;have⟨n,j,m,o⟩:=J;obtain⟨ag,cg,rfl⟩:=id n;obtain⟨aa,ca,rfl⟩:=id j;obtain⟨af,cf,rfl⟩:=id m;obtain⟨⟨an,cn,rfl⟩,M,N⟩:=id o
    by_cases B:q.code=0
    ·have r:(q.code==0)=true:=by grind
     rw[ak B]at hx
     by_cases hi:q.i<l.length
     ·have hd:decide ((q.i:Int)<((l.map dp).length:Int))=true:=by grind
      have Y:=dz q 0 u aR;have b:=b B;have hw:=b.w
      have d:p.aq.length<=1000000/\p.aj.length<=1000000/\p.av.length<=1000000/\p.ah.length<=1000000:=by
       grind[Ao]
      by_cases h1:q.aJ 0=ji
      ·have R:(q.aJ 0==[105,110,116])=true:=by rw[h1];rfl
       refine I ?_;refine D [1] Y ?_;refine b6 [1,3,4] (Q6 q u G p.aq p.aj _ _ _ _ n j m o.head d.1 d.2.1) ?_;rintro _ _⟨t,Q,C,_,_,H,⟨ag2,cg2,rfl⟩,⟨aa2,ca2,rfl⟩,A,rfl,rfl⟩;refine ch ?_;refine zb4 ?_;refine⟨if t.code=0 then 6001-t.i else 0,⟨_,_,Wk.aZ az,t,⟨Q,C,p.av,p.ah⟩,_,_,_,_,ns,rfl,rfl,⟨⟨_,_,rfl⟩,⟨_,_,rfl⟩,m,o⟩,e.trans H,fun h=>(A h).2 _ _ b,rfl⟩,?_⟩
       grind
      ·have R:(q.aJ 0==[105,110,116])=false:=by
        cases h:(q.aJ 0==[105,110,116])with
        |false=>rfl
        |true=>exact absurd (eq_of_beq h) h1
       by_cases h2:q.aJ 0=jv
       ·have S:(q.aJ 0==[102,117,110,99])=true:=by rw[h2];rfl
        refine I ?_;refine D [1] Y ?_;refine b6 [1,5,6] (UM q u G zff p.av p.ah _ _ _ _ ns n j m o d.2.2.1 d.2.2.2) ?_;rintro _ _⟨t,E,F,_,_,Z,H,⟨af2,cf2,rfl⟩,⟨⟨an2,cn2,rfl⟩,N2,N3⟩,A,rfl,rfl⟩;refine ch ?_;refine zb4 ?_;refine⟨if t.code=0 then 6001-t.i else 0,⟨_,_,Wk.aZ az,t,⟨p.aq,p.aj,E,F⟩,_,_,_,_,Z,rfl,rfl,⟨n,j,⟨_,_,rfl⟩,⟨⟨_,_,rfl⟩,N2,N3⟩⟩,e.trans H,fun h=>(A h).2 _ _ b,rfl⟩,?_⟩
        grind
       ·have S:(q.aJ 0==[102,117,110,99])=false:=by
         cases h:(q.aJ 0==[102,117,110,99])with
         |false=>rfl
         |true=>exact absurd (eq_of_beq h) h2
        have m2:=jY q u;have m3:=kg q 7 q.place;have H:=ni u 7 q.place
        have h7:¬(q.fail 7 q.place).code=0:=by
         grind[RS.fail]
        generalize q.fail 7 q.place=t at *;refine I ?_;refine D [1] Y ?_;refine D [1] m2 ?_;refine D [1] m3 ?_;refine jE ?_;refine I ?_;refine⟨0,⟨_,_,Wk.aZ az,t,p,_,_,_,_,ns,rfl,rfl,⟨n,j,m,o⟩,e.trans H,fun h=>absurd h h7,by grind⟩,by omega⟩
     ·have hd:decide ((q.i:Int)<((l.map dp).length:Int))=false:=by grind
      exact zdK
    ·have r:(q.code==0)=false:=by grind
     exact zdK
  ·rintro _ _⟨q,p,hg,ha,hf,hn,ns,rfl,rfl,J,e,b⟩;have u:=e.ok ⟨bp _,by grind⟩
   have X:q.i<=l.length:=by have:=u.1;rw[e.1]at this;exact this
   unfold qU
   by_cases B:q.code=0
   ·have r:(q.code != 0)=false:=by grind
    have b:=b B;have hw:=b.w;have⟨n,j,m,o⟩:=J;obtain⟨ag,cg,rfl⟩:=id n;obtain⟨aa,ca,rfl⟩:=id j;obtain⟨af,cf,rfl⟩:=id m;obtain⟨⟨an,cn,rfl⟩,M,N⟩:=id o
    by_cases h8:p.ah.length<=800
    ·have T:decide ((800:Int)<(p.ah.length:Int))=false:=decide_eq_false V;refine zd1 ?_;refine I7 (k:=4) 3 rfl zfg rfl rfl rfl rfl rfl rfl (fun x hx=>R1 (p:=p) (hg:=.slice ag p.aq.length cg) (ha:=.slice aa p.aj.length ca) (hf:=.slice af p.av.length cf) (hn:=.slice an p.ah.length cn) (ns:=ns) x hx) ?_;exact⟨p,_,_,_,_,ns,0,0,⟨n,j,m,o⟩,by omega,b.num,rfl,rfl⟩
    ·have T:decide ((800:Int)<(p.ah.length:Int))=true:=decide_eq_true V;refine I ?_;exact zaX
   ·have r:(q.code != 0)=true:=by grind
    refine I ?_;refine aV (aL 0 9 (.a 9 (.q 10 (.q 11 .nil)))) ?_;refine bn ?_;exact zaX
 ·have r:(c != 0)=true:=by grind
  refine I ?_;exact zaX
attribute [local irreducible] p9 uk qD
def Oe(code:ab)(N:code.length<=1099511627776)(c:dk)(W:c.i<=code.length) :
  GC prog 99 [.loc 0 0] [fi code c] fun g k=>∃(s:ab)(J:dk),J.i<=code.length/\s.length<=1000000000/\g=.v (sv s)/\k=[fi code J]:=by
 have o:=wR code N 2 c V W;have m:=yY code 2 c;have H:=Ex (code:=code) 2 W;have S:yf 2=25800:=rfl;have r:yf 3=155400:=rfl;have E:xk 2=49:=rfl;rw[S]at m;generalize v8 code 2 c=a at *;have⟨B,q⟩:=a;simp only at o m H;have b:=Js code N 2 q V H;have n:=mN code 2 q;have R:=yH (code:=code) 2 H;rw[E]at n;generalize jG code 2 q=a at *;have⟨A,M⟩:=a;simp only at b n R;have G:=wR code N 3 M V R;have w:=yY code 3 M;have d:=Ex (code:=code) 3 R;rw[r]at w;generalize v8 code 3 M=a at *;have⟨C,z⟩:=a;simp only at G w d;refine au func99 ntmps99 ?_;refine D [0] o ?_;refine D [0] b ?_;refine D [0] G ?_;refine bB ?_;exact⟨_,z,d,by simp only[br,length_cons,length_nil];omega,rfl,rfl⟩
def Ec:GC prog 97 [] [] fun g k=>k=[]/\∃rows,g=.sl 1 rows/\rows.length=14/\rows.all (LD 1000)=true:=by
 refine au func97 ntmps97 ?_;refine zac ?_;refine bB ?_;exact⟨rfl,_,rfl,by decide +kernel,by decide +kernel⟩
def aam(code:ab)(g:GV)(k:ap):Prop:=∃(c:dk)(p:Src)(X w l d:Value)(o:List Value),c.i<=code.length/\sH p X w l d o/\cU p<=340000/\kF p/\g=.agg [.v X,.v w,.v l,.v d]/\k=fi code c::qU p X w l d o
def HR(code:ab)(B:code.length<=1099511627776)(c:dk)(hc:c.i<=code.length) :
  GC prog 32 [.loc 0 0] [fi code c] (aam code):=by
 have⟨k,c1,h1,i1,r1⟩:=nV B hc 14 V;have⟨j,t,h2,H,r2⟩:=qo B i1 3 V;have h3:=Oe code B t H;refine au func32 ntmps32 ?_;refine b6 [] Ec ?_;rintro _ _⟨rfl,M,rfl,l,C⟩;refine zas ?_;rw[l];refine D [0] h1 ?_;refine GL.yU 1000 rfl rfl C (by rw[l];omega) rfl ?_;intro s hs;refine bb ?_;refine b6 [] (BR s V) ?_;rintro _ _⟨p,_,_,_,_,J,z1,z2,⟨⟨W,Z,rfl⟩,⟨S,X,rfl⟩,⟨T,Y,rfl⟩,⟨⟨an,cn,rfl⟩,Q,R⟩⟩,hw,e,rfl,rfl⟩;refine ch ?_;unfold qU;refine I ?_;refine D [0] h2 ?_
 by_cases G:j=0
 ·have A:(j==0)=true:=by simpa using G
  refine I ?_;refine b6 [0] h3 ?_;rintro _ _⟨s2,F,i3,Fv,rfl,rfl⟩;refine zas ?_;refine b6 [] (BR s2 V) ?_;rintro _ _⟨d,_,_,_,_,m,z3,z4,⟨⟨q,w,rfl⟩,⟨n,u,rfl⟩,⟨o,v,rfl⟩,⟨⟨r,z,rfl⟩,N,O⟩⟩,E,b,rfl,rfl⟩;refine ch ?_;unfold qU;refine zd1 ?_;refine SP [0,7,8,9,10] (fi code F::qU d (.slice q d.aq.length w) (.slice n d.aj.length u) (.slice o d.av.length v) (.slice r d.ah.length z) m) rfl ir rfl rfl rfl rfl aR rfl ⟨⟨rfl,rfl⟩,⟨rfl,rfl⟩,⟨rfl,rfl⟩,⟨rfl,rfl⟩,⟨rfl,rfl⟩,trivial⟩ ?_;exact⟨F,d,_,_,_,_,m,i3,⟨⟨_,_,rfl⟩,⟨_,_,rfl⟩,⟨_,_,rfl⟩,⟨⟨_,_,rfl⟩,N,O⟩⟩,E,b,rfl,rfl⟩
 ·have A:(j==0)=false:=by simpa using G
  refine zd1 ?_;refine SP [0,2,3,4,5] (fi code t::qU p (.slice W p.aq.length Z) (.slice S p.aj.length X) (.slice T p.av.length Y) (.slice an p.ah.length cn) J) rfl ir rfl rfl rfl rfl aR rfl ⟨⟨rfl,rfl⟩,⟨rfl,rfl⟩,⟨rfl,rfl⟩,⟨rfl,rfl⟩,⟨rfl,rfl⟩,trivial⟩ ?_;exact⟨t,p,_,_,_,_,J,H,⟨⟨_,_,rfl⟩,⟨_,_,rfl⟩,⟨_,_,rfl⟩,⟨⟨_,_,rfl⟩,Q,R⟩⟩,hw,e,rfl,rfl⟩
end Go.Xg
namespace Go.Sp
open Go.Xp Go.Im
def G7{R:Type}(f:R->Nat):∀(l:List R)(i:Nat)(x y:R),l[i]?=some x->b9 f (l.set i y)+f x=b9 f l+f y
 |[],i,x,y,h=>by simp at h
 |z::l,0,x,y,h=>by grind[b9]
 |z::l,i+1,x,y,h=>by have:=G7 f l i x y zff;grind[b9]
theorem TU(p:Src)(i:Nat)(x y:Nd)(h:p.ah[i]?=some x):cU ⟨p.aq,p.aj,p.av,p.ah.set i y⟩+(x.s.length+x.aw.length+1)=cU p+(y.s.length+y.aw.length+1):=by
 have:=G7 (fun n:Nd=>n.s.length+n.aw.length+1) p.ah i x y h;unfold cU;grind
end Go.Sp
namespace Go.Xg
open Go.RowKit Go.Xw Go.Proofs Tryz Go.Sp Go.Im
open GV (U)
open Go.Xp (Nd)
def Gv{o:Nat}{g:GV}{x m:Nd}(hg:∀y,bJ (bV x y) o g=bV m y):∀{bg:List Nd}{ns:List Value}{i:Nat},ns.length=bg.length->bg[i]?=some x->df (List.zipWith bV bg ns) i o g=List.zipWith bV (bg.set i m) ns
 |[],ns,i,M,h=>by simp at h
 |n::bg,[],i,M,h=>by simp at M
 |n::bg,v::ns,0,M,h=>by
  grind[List.zipWith_cons_cons,df,bV]
 |n::bg,v::ns,i+1,M,h=>by
  have:=Gv hg (bg:=bg) (ns:=ns) (i:=i) zff zff;rw[List.zipWith_cons_cons,df,this];rfl
def Hx{x m:Nd}(N:m.aw=x.aw):∀{bg:List Nd}{ns:List Value}{i:Nat},bg[i]?=some x->List.zipWith cB (bg.set i m) ns=List.zipWith cB bg ns
 |[],ns,i,h=>by simp at h
 |n::bg,[],i,h=>by simp
 |n::bg,v::ns,0,h=>by
  grind[List.zipWith_cons_cons,cB]
 |n::bg,v::ns,i+1,h=>by
  have:=Hx N (bg:=bg) (ns:=ns) (i:=i) zff
  simp_all
def pn.same{bg:List Nd}{h:Value}{ns:List Value}(H:pn bg h ns){i:Nat}{x m:Nd}(hx:bg[i]?=some x)(N:m.aw=x.aw):pn (bg.set i m) h ns:=by
 have⟨a,c,e⟩:=H.head;refine⟨⟨a,c,by grind⟩,by rw[length_set];exact H.len,fun j y v o b=>?_⟩;rw[eY]at o
 by_cases S:i=j
 ·rw[ak S]at o;split at o
  ·cases o;subst S;rw[N];exact H.kid i x v hx b
  grind
 ·rw[ae S]at o;exact H.kid j y v o b
abbrev qI(code:ab)(c:dk)(p:Src)(hg ha hf hn:Value)(ns:List Value):ap :=
 [fi code c,.box 28 [.v y6,.v y6,.v y6,.v y6],.vech 9 1 (bs p.aq) hg,.vech 79 2 (p.aj.map aW) ha,.vech 53 3 (p.av.map aD) hf,.gone,.box 28 [.v hg,.v ha,.v hf,.v hn]]++db p.ah hn ns
def Wk.J4{m:Nat}{fr:am}{code:ab}{c:dk}{p:Src}{hg ha hf hn:Value}{ns:List Value}(u:sH p hg ha hf hn ns)(k:m<=7) :
  Wk m fr (qI code c p hg ha hf hn ns) (u3 7 fr) [fi code c,.box 28 [.v y6,.v y6,.v y6,.v y6],.vec 9 1 (bs p.aq).length (bs p.aq),.vec 79 2 (p.aj.map aW).length (p.aj.map aW),.vec 53 3 (p.av.map aD).length (p.av.map aD),.gone,.box 28 (aB p)]:=by
 refine(Wk.o9 (i:=6) (o:=0) (j:=2) (x:=hg) rfl rfl rfl rfl).trans ?_;refine(Wk.o9 (i:=6) (o:=1) (j:=3) (x:=ha) rfl rfl rfl rfl).trans ?_;refine(Wk.o9 (i:=6) (o:=2) (j:=4) (x:=hf) rfl rfl rfl rfl).trans ?_;exact Wk.uQ (i:=6) (o:=3) [fi code c,.box 28 [.v y6,.v y6,.v y6,.v y6],.vec 9 1 (bs p.aq).length (bs p.aq),.vec 79 2 (p.aj.map aW).length (p.aj.map aW),.vec 53 3 (p.av.map aD).length (p.av.map aD),.gone,.box 28 [.sl 1 (bs p.aq),.sl 2 (p.aj.map aW),.sl 3 (p.av.map aD),.v hn]] u.n rfl k rfl rfl rfl
def EO(code:ab)(g:GV)(k:ap):Prop:=∃(c:dk)(p:Src),c.i<=code.length/\cU p<=345000/\kF p/\g=.agg (aB p)/\k=[fi code c]
def hH(code:ab)(k i j:Nat)(fr:am)(Γ:ap):Prop:=∃(c:dk)(p:Src)(X w l d:Value)(o:List Value),fr=.loc 0 0::U::.loc 1 0::.loc 6 0::y4 (k:Nat)::y4 (i:Nat)::zU 97 []/\Γ=qI code c p X w l d o /\
 c.i<=code.length/\sH p X w l d o/\cU p<=340000+10*j/\kF p/\i<p.ah.length
theorem hH.next{code:ab}{k i j:Nat}{fr:am}{Γ:ap}(h:hH code k i j fr Γ):hH code k i (j+1) fr Γ:=by
 grind[hH]
def hH.go{code:ab}{k i j:Nat}{P:am->ap->Prop}(h:∀(c:dk)(p:Src)(z:Option Addr)(A:Nat)(d:Option Addr)(T:Nat)(m:Option Addr)(o:Nat)(an:Option Addr)(l:Nat)(ns:List Value),c.i<=code.length->sH p (.slice z p.aq.length A) (.slice d p.aj.length T) (.slice m p.av.length o) (.slice an p.ah.length l) ns->cU p<=340000+10*j->kF p->i<p.ah.length->P (.loc 0 0::U::.loc 1 0::.loc 6 0::y4 (k:Nat)::y4 (i:Nat)::zU 97 []) (qI code c p (.slice z p.aq.length A) (.slice d p.aj.length T) (.slice m p.av.length o) (.slice an p.ah.length l) ns)):∀fr Γ,hH code k i j fr Γ->P fr Γ:=by
 rintro _ _⟨c,p,_,_,_,_,ns,rfl,rfl,e,⟨⟨z,A,rfl⟩,⟨d,T,rfl⟩,⟨m,o,rfl⟩,⟨⟨an,l,rfl⟩,W,n⟩⟩,r,Y,q⟩;exact h c p z A d T m o an l ns e ⟨⟨_,_,rfl⟩,⟨_,_,rfl⟩,⟨_,_,rfl⟩,⟨⟨_,_,rfl⟩,W,n⟩⟩ r Y q
def hH.put{code:ab}{k i j:Nat}{c:dk}{p:Src}{hg ha hf hn:Value}{ns:List Value}{x:Nd}(y:Nd){o:Nat}{g:GV}(hx:p.ah[i]?=some x)(N:y.aw=x.aw)(G:y.s.length<=x.s.length+9)(B : -9223372036854775808<=y.n/\y.n<=9223372036854775807)(M:∀v,bJ (bV x v) o g=bV y v)(d:c.i<=code.length)(u:sH p hg ha hf hn ns)(l:cU p<=340000+10*j)(Y:kF p)(hi:i<p.ah.length) :
  hH code k i (j+1) (.loc 0 0::U::.loc 1 0::.loc 6 0::y4 (k:Nat)::y4 (i:Nat)::zU 97 []) ([fi code c,.box 28 [.v y6,.v y6,.v y6,.v y6],.vech 9 1 (bs p.aq) hg,.vech 79 2 (p.aj.map aW) ha,.vech 53 3 (p.av.map aD) hf,.gone,.box 28 [.v hg,.v ha,.v hf,.v hn],.vech 82 5 (df (List.zipWith bV p.ah ns) i o g) hn]++List.zipWith cB p.ah ns):=by
 refine⟨c,⟨p.aq,p.aj,p.av,p.ah.set i y⟩,hg,ha,hf,hn,ns,rfl,?_,d,⟨u.g,u.a,u.f,u.n.same hx N⟩,?_,JK Y i B,by grind⟩
 ·unfold qI db;simp only;rw[<-Gv M u.n.len hx,Hx N hx];rfl
 grind[TU]
def vd{bg:List Nd}{h:Value}{ns:List Value}(H:pn bg h ns){i:Nat}(hi:i<bg.length):∃x y,bg[i]?=some x/\ns[i]?=some y/\(List.zipWith bV bg ns)[i]?=some [y4 x.ai,y4 x.at_,y4 x.n,.v (sv x.s),.v y]/\(List.zipWith bV bg ns).length=bg.length:=by
 have hx:bg[i]?=some bg[i]:=cK _;have B:ns[i]?=some (ns[i]'(by rw[H.len];exact hi)):=cK _;exact⟨_,_,hx,B,by rw[getElem?_zipWith,hx,B];rfl,by rw[sY,H.len,Nat.min_self]⟩
attribute [local irreducible] GW GL GO YG GC GA bo bq p9 uk qD
def Q5(code:ab)(T:code.length<=1099511627776)(c:dk)(hc:c.i<=code.length) :
  GC prog 71 [.loc 0 0] [fi code c] (EO code):=by
 refine au func71 ntmps71 ?_;refine b6 [0] (HR code T c hc) ?_;rintro _ _⟨c1,p,_,_,_,_,C,i1,⟨⟨O,R,rfl⟩,⟨N,Q,rfl⟩,⟨J,M,rfl⟩,⟨⟨an,S,rfl⟩,N2,N3⟩⟩,F,e,rfl,rfl⟩;unfold qU;refine zas ?_;have u:sH p (.slice O p.aq.length R) (.slice N p.aj.length Q) (.slice J p.av.length M) (.slice an p.ah.length S) C:=⟨⟨_,_,rfl⟩,⟨_,_,rfl⟩,⟨_,_,rfl⟩,⟨⟨_,_,rfl⟩,N2,N3⟩⟩;have⟨k,c2,g1,i2,r1⟩:=nV T i1 14 V;refine GL.wk (Wk.unpack 5 rfl) ?_;simp only[oset,cons_append,nil_append];unfold db;refine ig [0] g1 ?_;simp only[eT]
 by_cases h0:p.ah.length=0
 ·have h0':(((p.ah.map aN).length:Int)==0)=true:=by grind
  refine GL.wk (dh:=.loc 0 0::U::.loc 1 0::.loc 6 0::U::U::U::U::U::y4 (k:Nat)::zU 93 []) (bM:=[fi code c2,.box 28 [.v y6,.v y6,.v y6,.v y6],.vec 9 1 (bs p.aq).length (bs p.aq),.vec 79 2 (p.aj.map aW).length (p.aj.map aW),.vec 53 3 (p.av.map aD).length (p.av.map aD),.gone,.box 28 (aB p)]) ?_ ?_
  ·refine Wk.trans (Wk.J4 (code:=code) (c:=c2) u ?_) ?_
   ·simp
   ·exact Wk.aZ az
  refine I ?_;refine ej ?_;exact⟨c2,p,i2,by omega,e,rfl,rfl⟩
 ·have h0':((p.ah.length:Int)==0)=false:=by grind
  have⟨i,c3,g2,i3,r2⟩:=nV T i2 (p.ah.length:Int) V
  have o:i<p.ah.length:=by omega
  have F:cU p<=340000+10*0:=F;refine I ?_;refine ig [0] g2 ?_;simp only[eT];refine I ?_;refine GW.join (hH code k i 1) ?_ ?_
  ·by_cases hk:(k:Int)=0
   ·have B:((k:Int)==0)=true:=by grind
    have⟨x,y,hx,hy,A,j⟩:=vd u.n o;have⟨z,W,H,E,r3⟩:=qo T i3 16 V;refine zbg ?_;refine OA rfl rfl (GL.xr rfl rfl j A rfl rfl rfl rfl ?_);refine GL.nil (bh (dL.mk zfc ?_))
    refine j4 du eb ?_;refine bn ?_;exact⟨_,_,Wk.aZ az,hH.put { x with ai:=z } hx rfl (Nat.le_add_right _ _) (e.ah x (bP hx)) (fun _=>rfl) E u F e o⟩
   ·have B:((k:Int)==0)=false:=by grind
    refine I ?_;exact⟨_,_,Wk.aZ az,hH.next ⟨c3,p,_,_,_,_,C,rfl,rfl,i3,u,F,e,o⟩⟩
  refine hH.go fun c p O R N Q J M an S C G u F e o=>?_
  refine zcZ ?_;refine GW.join (hH code k i 2) ?_ ?_
  ·by_cases hk:(k:Int)=1
   ·have B:((k:Int)==1)=true:=by grind
    have⟨x,y,hx,hy,A,j⟩:=vd u.n o;have⟨z,W,H,E,r3⟩:=qo T G 6 V;obtain⟨q,rfl⟩:∃q:Nat,z=(q:Int):=⟨z.toNat,by omega⟩;have hr:=oD (l:=[[],[88],[119,104,105,108,101],[111,107],[43],[45]]) (m:=q) zff;have hp:=mw (l:=[[],[88],[119,104,105,108,101],[111,107],[43],[45]]) (n:=5) aR (q:Int);generalize lL [[],[88],[119,104,105,108,101],[111,107],[43],[45]] (q:Int)=sg at *;refine I ?_;refine aV (aL 0 3 (.q 4 (.f 3 (.a 5 (aL 6 4 (.a 10 .nil))) 5 (.a 3 (aL 6 4 (.a 10 .nil)))))) ?_;refine ax ?_;refine GO.fork ?_ ?_
    ·refine zap ?_;refine mA [0] H ?_;simp only[eT];refine zaH ?_;refine OA rfl rfl (GL.xr rfl rfl j A rfl rfl rfl rfl ?_);refine GL.nil (bh (dL.mk zfc ?_))
     exact zb5
    ·refine mA [0] H ?_;simp only[eT];refine zdP ?_;refine OQ rfl (YG.jh 7 rfl rfl rfl j o) ?_;refine jj ?_;refine ax ?_;refine OA rfl rfl (GL.xr rfl rfl j A rfl rfl rfl rfl ?_);refine GL.nil (bh (dL.mk zfc ?_))
     exact zb5
   ·have B:((k:Int)==1)=false:=by grind
    exact zax
  refine hH.go fun c p O R N Q J M an S C G u F e o=>?_
  refine zcZ ?_;refine GW.join (hH code k i 3) ?_ ?_
  ·by_cases hk:(k:Int)=2
   ·have B:((k:Int)==2)=true:=by grind
    have⟨x,y,hx,hy,A,j⟩:=vd u.n o;have⟨z,W,H,E,r3⟩:=Et T G;refine zbg ?_;refine OA rfl rfl (GL.xr rfl rfl j A rfl rfl rfl rfl ?_);refine GL.nil (bh (dL.mk zfc ?_))
    refine j4 du eb ?_;refine bn ?_;exact⟨_,_,Wk.aZ az,hH.put { x with n:=z } hx rfl (Nat.le_add_right _ _) r3 (fun _=>rfl) E u F e o⟩
   ·have B:((k:Int)==2)=false:=by grind
    exact zax
  refine hH.go fun c p O R N Q J M an S C G u F e o=>?_
  refine zcZ ?_;refine GW.join (hH code k i 4) ?_ ?_
  ·by_cases hk:(k:Int)=3
   ·have B:((k:Int)==3)=true:=by grind
    have⟨x,y,hx,hy,A,j⟩:=vd u.n o;obtain⟨a3,d3,rfl⟩:=u.n.kid i x y hx hy
    have Jh:p.ah.length<=1000000:=by grind[Ao]
    have abP:x.aw.length<=1000000:=by have:=abn hx;omega
    have zr:(fZ x.aw).length=x.aw.length:=by simp[fZ]
    have aaV:(List.zipWith cB p.ah C)[i]?=some (.vech 3 1 (fZ x.aw) (.slice a3 x.aw.length d3)):=by rw[getElem?_zipWith,hx,hy];rfl
    have NS:=fun(y:Value)=>yb (x.aw++[((p.ah.length:Int)-1)]) y u.n.len hx
    have uC:=fun(y:Value)=>xY (x.aw++[((p.ah.length:Int)-1)]) y u.n.len hx
    have S9:fZ (x.aw++[((p.ah.length:Int)-1)])=fZ x.aw++[[y4 ((p.ah.length:Int)-1)]]:=by simp[fZ]
    rw[S9]at uC
    have aa5:=fun(a:Option Addr)(c:Nat)=>u.n.put hx (x.aw++[((p.ah.length:Int)-1)]) (b:=a) (d:=c) (n:=(fZ x.aw).length+1) zff
    have Z:∀x0 x1 x2 x3 x4 x5 x6 x7:Ob,(x0::x1::x2::x3::x4::x5::x6::x7::List.zipWith cB p.ah C)[i+8]?=some (.vech 3 1 (fZ x.aw) (.slice a3 x.aw.length d3)):=fun _ _ _ _ _ _ _ _=>aaV
    refine I ?_;refine aV (aL 0 13 (.a 13 (.a 14 (.q 15 (.q 16 (.a 17 .nil)))))) ?_;refine zaH ?_;refine OA rfl rfl (GL.X0 rfl rfl rfl rfl (GL.nil (bh (dL.mk zfd ?_))))
    refine j4 du eb ?_;refine ax ?_;refine OA rfl rfl (GL.ml (i+8) (news:=[[y4 ((p.ah.length:Int)-1)]]) rfl rfl (Z _ _ _ _ _ _ _ _) rfl rfl rfl ⟨by grind,by grind⟩ ?_);intro a4 W;refine GL.nil (bh (dL.mk zfd ?_))
    refine j4 du (by simp only[oset];rw[uC]) ?_;refine zaH ?_;refine OA rfl rfl (GL.xr rfl rfl j A rfl rfl rfl rfl ?_);refine GL.nil (bh (dL.mk zfc ?_))
    refine j4 du eb ?_;refine bn ?_;rw[NS];refine⟨_,_,Wk.aZ az,c,⟨p.aq,p.aj,p.av,p.ah.set i (eB x (x.aw++[((p.ah.length:Int)-1)]))⟩,_,_,_,_,_,rfl,rfl,G,⟨u.g,u.a,u.f,aa5 _ _⟩,?_,JK e i ?_,by grind⟩
    ·have:=TU p i x (eB x (x.aw++[((p.ah.length:Int)-1)])) hx;unfold eB at *
     grind
    ·exact e.ah x (bP hx)
   ·have B:((k:Int)==3)=false:=by grind
    exact zax
  refine hH.go fun c p O R N Q J M an S C G u F e o=>?_
  refine zcZ ?_;refine GW.join (hH code k i 5) ?_ ?_
  ·by_cases hk:(k:Int)=4
   ·have B:((k:Int)==4)=true:=by grind
    have⟨x,y,hx,hy,A,j⟩:=vd u.n o;have⟨z,W,H,E,r3⟩:=Et T G;refine zbg ?_;refine OA rfl rfl (GL.xr rfl rfl j A rfl rfl rfl rfl ?_);refine GL.nil (bh (dL.mk zfc ?_))
    refine j4 du eb ?_;refine bn ?_;exact⟨_,_,Wk.aZ az,hH.put { x with at_:=z } hx rfl (Nat.le_add_right _ _) (e.ah x (bP hx)) (fun _=>rfl) E u F e o⟩
   ·have B:((k:Int)==4)=false:=by grind
    exact zax
  refine hH.go fun c p O R N Q J M an S C G u F e o=>?_
  unfold qI db;refine zbc ?_;refine GW.seq ?_;refine GW.seq ?_;refine GW.join (fun fr Γ=>∃(b:Bool)(c:dk)(p:Src)(hg X hf hn:Value)(C:List Value),fr=.loc 0 0::U::.loc 1 0::.loc 6 0::y4 (k:Nat)::y4 (i:Nat)::zU 79 (.v (.bool b)::zU 17 [])/\Γ=qI code c p hg X hf hn C/\c.i<=code.length/\sH p hg X hf hn C/\cU p<=340000+10*5/\kF p/\i<p.ah.length/\(b=true->0<p.av.length)) ?_ ?_
  ·by_cases hk:(k:Int)=5
   ·have B:((k:Int)==5)=true:=by grind
    refine I ?_;exact⟨_,_,Wk.aZ az,decide ((0:Int)<(p.av.length:Int)),c,p,_,_,_,_,C,rfl,rfl,G,u,F,e,o,fun h=>by grind⟩
   ·have B:((k:Int)==5)=false:=by grind
    refine I ?_;exact⟨_,_,Wk.aZ az,false,c,p,_,_,_,_,C,rfl,rfl,G,u,F,e,o,fun h=>by cases h⟩
  rintro _ _⟨b,c,p,_,_,_,_,C,rfl,rfl,G,⟨⟨O,R,rfl⟩,⟨N,Q,rfl⟩,⟨J,M,rfl⟩,⟨⟨an,S,rfl⟩,N2,N3⟩⟩,F,e,o,NK⟩;have u:sH p (.slice O p.aq.length R) (.slice N p.aj.length Q) (.slice J p.av.length M) (.slice an p.ah.length S) C:=⟨⟨_,_,rfl⟩,⟨_,_,rfl⟩,⟨_,_,rfl⟩,⟨⟨_,_,rfl⟩,N2,N3⟩⟩;refine zcZ ?_;refine GW.join (hH code k i 6) ?_ ?_
  ·cases b with
   |true =>
    have NK:=NK rfl
    obtain⟨f,r,Y⟩:∃f r,p.av=f::r:=by
     cases hq:p.av with
     |nil=>grind
     |cons f r=>simp
    have⟨z,W,H,E,r3⟩:=Et T G
    have A:(p.av.map aD)[0]?=some [.v (sv f.name),strs f.params,y4 f.body]:=by rw[Y];rfl
    have AV:0<(p.av.map aD).length:=by grind
    refine I ?_;refine aV (aL 0 3 (.a 3 (.q 4 (.q 5 (.a 6 .nil))))) ?_;refine ax ?_;refine mA [0] H ?_;simp only[eT];refine ax ?_;refine OA rfl rfl (GL.xr rfl rfl rfl A rfl rfl rfl rfl ?_);refine GL.nil (bh (dL.mk (by repeat (first|exact dj.n|(apply dj.w;(· decide +kernel))|(apply dj.y;(· first|(apply YQ.t;(· exact rfl);(· exact rfl);(· (first|exact YG.Tp 4 0 rfl rfl rfl rfl (dR _ _ _ _) AV|(first|exact fP|(apply K.idx;first|exact YG.idxV rfl rfl rfl aQ V|exact YG.a8 0 rfl rfl rfl aS|exact YG.a8 1 rfl rfl rfl aS|exact YG.a8 2 rfl rfl rfl aS|exact YG.a8 3 rfl rfl rfl aS|exact YG.a8 4 rfl rfl rfl aS|exact YG.a8 5 rfl rfl rfl aS|exact YG.a8 6 rfl rfl rfl aS)|exact fR|exact YG.fO 1 rfl rfl aQ aQ|exact YG.mv|exact YG.lp|(apply K.bin;first|exact YG.go rfl|exact YG.jK rfl rfl V|exact YG.iM rfl rfl|exact YG.iO rfl rfl|exact YG.mM rfl rfl|exact YG.mV rfl rfl|exact YG.cat rfl rfl V|exact YG.cat rfl rfl zfm|exact YG.jR rfl rfl V|exact YG.add rfl rfl V|exact YG.sub rfl rfl V|exact YG.mul rfl rfl V|exact YG.kQ rfl rfl V|exact YG.quo rfl rfl V|exact YG.rem rfl rfl V|exact YG.ib rfl rfl)|exact fF|exact fE|exact gH|exact eR|exact ff|(apply K.idx;first|exact YG.gR rfl rfl aX|exact YG.cx rfl rfl aX rfl|exact YG.cx rfl rfl aX V|exact YG.ju rfl rfl V)|exact YG.ext rfl rfl|exact YG.go rfl|(apply K.nS;first|exact YG.kP rfl rfl rfl V|exact YG.kO rfl rfl V|exact YG.kL rfl rfl V|exact YG.gb 1 rfl rfl rfl aQ)|exact YG.iQ rfl rfl aX|exact YG.idxSC rfl rfl aX rfl|exact fg|exact YG.build rfl|exact YG.neg rfl V|exact YG.iP rfl rfl|exact YG.lZ rfl zfj|exact YG.str rfl aQ))))|(apply YQ.t;(· exact rfl);(· apply pz;(· exact rfl);(· first|exact rfl|assumption));(· (first|exact YG.Tp 4 0 rfl rfl rfl rfl (dR _ _ _ _) AV|(first|exact fP|(apply K.idx;first|exact YG.idxV rfl rfl rfl aQ V|exact YG.a8 0 rfl rfl rfl aS|exact YG.a8 1 rfl rfl rfl aS|exact YG.a8 2 rfl rfl rfl aS|exact YG.a8 3 rfl rfl rfl aS|exact YG.a8 4 rfl rfl rfl aS|exact YG.a8 5 rfl rfl rfl aS|exact YG.a8 6 rfl rfl rfl aS)|exact fR|exact YG.fO 1 rfl rfl aQ aQ|exact YG.mv|exact YG.lp|(apply K.bin;first|exact YG.go rfl|exact YG.jK rfl rfl V|exact YG.iM rfl rfl|exact YG.iO rfl rfl|exact YG.mM rfl rfl|exact YG.mV rfl rfl|exact YG.cat rfl rfl V|exact YG.cat rfl rfl zfm|exact YG.jR rfl rfl V|exact YG.add rfl rfl V|exact YG.sub rfl rfl V|exact YG.mul rfl rfl V|exact YG.kQ rfl rfl V|exact YG.quo rfl rfl V|exact YG.rem rfl rfl V|exact YG.ib rfl rfl)|exact fF|exact fE|exact gH|exact eR|exact ff|(apply K.idx;first|exact YG.gR rfl rfl aX|exact YG.cx rfl rfl aX rfl|exact YG.cx rfl rfl aX V|exact YG.ju rfl rfl V)|exact YG.ext rfl rfl|exact YG.go rfl|(apply K.nS;first|exact YG.kP rfl rfl rfl V|exact YG.kO rfl rfl V|exact YG.kL rfl rfl V|exact YG.gb 1 rfl rfl rfl aQ)|exact YG.iQ rfl rfl aX|exact YG.idxSC rfl rfl aX rfl|exact fg|exact YG.build rfl|exact YG.neg rfl V|exact YG.iP rfl rfl|exact YG.lZ rfl zfj|exact YG.str rfl aQ))))|(apply YQ.f;(· exact rfl);(· apply qb;(· exact rfl);(· first|exact rfl|assumption))))))) ?_))
    refine j4 du eb ?_;refine bn ?_;refine⟨_,_,Wk.aZ az,W,⟨p.aq,p.aj,({ name:=f.name,params:=f.params,body:=z }:Go.Sp.Fn)::r,p.ah⟩,_,_,.slice J p.av.length M,_,C,rfl,?_,E,⟨u.g,u.a,?_,u.n⟩,?_,⟨e.aj,e.ah⟩,o⟩
    ·unfold qI db;simp only;rw[Y];rfl
    ·exact⟨_,_,by rw[Y];rfl⟩
    grind[aaf]
   |false =>
    exact zax
  refine hH.go fun c p O R N Q J M an S C G u F e o=>?_
  refine zcZ ?_;refine GW.join (hH code k i 7) ?_ ?_
  ·by_cases hk:(k:Int)=6
   ·have B:((k:Int)==6)=true:=by grind
    have⟨z,W,H,E,r3⟩:=Et T G
    have Ja:p.aj.length<=1000000:=by grind[Ao]
    have j:(p.aj.map aW).length=p.aj.length:=ct _;refine I ?_;refine aV (aL 0 3 (.a 3 (.q 4 (.a 5 (.a 6 (.q 7 (.a 8 .nil))))))) ?_;refine ax ?_;refine mA [0] H ?_;simp only[eT];refine zdP ?_;refine OA rfl rfl (GL.ml 3 (news:=[[.v (sv [122,122]),y4 z]]) rfl rfl rfl j rfl rfl ⟨by grind,by grind⟩ ?_);intro a5 c5;refine zdy ?_;refine⟨_,_,Wk.aZ az,W,⟨p.aq,p.aj++[⟨[122,122],z⟩],p.av,p.ah⟩,_,.slice a5 (p.aj.length+1) c5,_,_,C,rfl,?_,E,⟨u.g,⟨a5,c5,?_⟩,u.f,u.n⟩,?_,⟨fun a X=>?_,e.ah⟩,o⟩
    ·unfold qI db;simp only;rw[gJ];rfl
    ·simp
    ·grind[aae,length_cons,length_nil]
    ·rcases oO X with X|X
     ·exact e.aj a X
     grind
   ·have B:((k:Int)==6)=false:=by grind
    exact zax
  refine hH.go fun c p O R N Q J M an S C G u F e o=>?_
  refine GW.wk (dh:=.loc 0 0::U::.loc 1 0::.loc 6 0::zU 99 []) (bM:=[fi code c,.box 28 [.v y6,.v y6,.v y6,.v y6],.vec 9 1 (bs p.aq).length (bs p.aq),.vec 79 2 (p.aj.map aW).length (p.aj.map aW),.vec 53 3 (p.av.map aD).length (p.av.map aD),.gone,.box 28 (aB p)]) ?_ ?_
  ·refine Wk.trans (Wk.J4 (code:=code) (c:=c) u ?_) ?_
   ·simp
   ·exact Wk.aZ az
  refine I ?_;refine ej ?_;exact⟨c,p,G,by omega,e,rfl,rfl⟩
end Go.Xg
namespace Go.Xg
open Go.RowKit Go.Xw Go.Proofs Tryz Go.Sp Go.Im
open GV (U)
def Vg{K:Fz}{β:Bt}{v a b c d x y:Value}(h:Rel K β v (.tup [.agg [.v a,.v b,.v c,.v d],.v x,.v y])):v=.tuple #[.agg #[a,b,c,d],x,y]:=by
 cases h with
 |tup l O M h =>
  match l,M with
  |[X,v1,v2],_ =>
   have o:=EP (h 0 _ _ rfl rfl);have q:=(h 1 _ _ rfl rfl).eW;have e:=(h 2 _ _ rfl rfl).eW
   grind
def Vh{K:Fz}(β:Bt){hg ha hf hn x y:Value}{p:Src}(e:bF K (fun _=>Bk.no) [hg,ha,hf,hn] (aB p)):Rel K β (.tuple #[.agg #[hg,ha,hf,hn],x,y]) (.tup [.agg (aB p),.v x,.v y]):=by
 have R:bF K β [hg,ha,hf,hn] (aB p):=bF.mZ e (De p);have W:bF K β [.agg #[hg,ha,hf,hn],x,y] [.agg (aB p),.v x,.v y]:=.cons (.agg [hg,ha,hf,hn] _ R.1 R.2) (.cons (.v _) (.cons (.v _) .nil));exact .tup [.agg #[hg,ha,hf,hn],x,y] _ W.1 W.2
def yv(s:ab)(Q:s.length<=1000000000000):GC prog 98 [.v (sv s)] [] fun g Δ=>Δ=[]/\∃p c z,cU p<=340000/\kF p/\g=.tup [.agg (aB p),y4 c,y4 z]:=fun B K β w vs M J H =>
 (BR s Q B K β w vs M J H).mono fun v w' ⟨K',gi,g,bM,j,O,p,u,r,t,C,ns,c,z,G,S,d,l,m⟩=>by
  subst l;subst m;have⟨β2,b1,_,_,T⟩:=j.unpack (i:=3) (N:=db p.ah C ns) rfl;have⟨K1,k1,q1,W⟩:=T.pb (i:=0) (E:=9) (k:=1) (rows:=bs p.aq) (x:=u) rfl;have⟨K2,k2,q2,X⟩:=W.pb (i:=1) (E:=79) (k:=2) (rows:=p.aj.map aW) (x:=r) rfl;have⟨K3,F,q3,Y⟩:=X.pb (i:=2) (E:=53) (k:=3) (rows:=p.av.map aD) (x:=t) rfl;have⟨q,o,q4,Z⟩:=Y.uQ (A:=[.vec 9 1 (bs p.aq).length (bs p.aq),.vec 79 2 (p.aj.map aW).length (p.aj.map aW),.vec 53 3 (p.av.map aD).length (p.av.map aD),.gone]) G.n rfl zff rfl;have R:=Vg O;subst R;have b:=dV.refl (fun _=>Bk.no);refine⟨q,_,.tup [.agg (aB p),y4 c,y4 z],[],Z.cut (n:=0) zff rfl,?_,rfl,p,c,z,S,d,rfl⟩;have e:bF q (fun _=>Bk.no) [u,r,t,C] (aB p):=.cons ((q1.pc (gi:=fun _=>Bk.no) rfl).mono (k2.trans (F.trans o)) b) (.cons ((q2.pc (gi:=fun _=>Bk.no) rfl).mono (F.trans o) b) (.cons ((q3.pc (gi:=fun _=>Bk.no) rfl).mono o b) (.cons q4 .nil)));exact Vh _ e
def V7(code:ab)(g:GV)(k:ap):Prop:=∃(s:ab)(c:dk),c.i<=code.length/\s.length<=1000/\g=.v (sv s)/\k=[fi code c]
attribute [local irreducible] GW GL GO YG GC GA bo bq p9 uk qD
section
variable(code:ab)
def Oi(M:code.length<=1099511627776)(c:dk)(W:c.i<=code.length) :
  GC prog 101 [.loc 0 0] [fi code c] (V7 code):=by
 have⟨k,q,o,H,d⟩:=nV M W 25 V;refine au func101 ntmps101 ?_;refine zac ?_;refine D [0] o ?_;refine GL.yU 1000 rfl rfl zfw (by show k<25;omega) rfl ?_;intro s G;exact zc0
def Oo(M:code.length<=1099511627776)(c:dk)(W:c.i<=code.length) :
  GC prog 237 [.loc 0 0] [fi code c] (V7 code):=by
 have⟨k,q,o,H,d⟩:=nV M W 8 V;refine au func237 ntmps237 ?_;refine zac ?_;refine D [0] o ?_;refine GL.yU 1000 rfl rfl zfw (by show k<8;omega) rfl ?_;intro s G;exact zc0
theorem zw(N:code.length<=1099511627776)(c:dk)(W:c.i<=code.length) :
  GC prog 34 [.loc 0 0] [fi code c] (EO code):=by
 obtain⟨k,q,o,H,-⟩:=qo N W 3 V
 by_cases O:0<k
 ·have R:decide ((0:Int)<k)=true:=by grind
  refine au func34 ntmps34 ?_;refine D [0] o ?_;refine b6 [0] (Q5 code N q H) ?_;rintro _ _⟨M,p,S,l,d,rfl,rfl⟩;exact ze9
 ·have R:decide ((0:Int)<k)=false:=by grind
  refine au func34 ntmps34 ?_;refine D [0] o ?_;refine b6 [0] (Oi code N q H) ?_;rintro _ _⟨s,M,S,G,rfl,rfl⟩;exact zb9
theorem HV(N:code.length<=1099511627776)(c:dk)(W:c.i<=code.length) :
  GC prog 178 [.loc 0 0] [fi code c] (EO code):=by
 obtain⟨k,q,o,H,-⟩:=qo N W 2 V
 by_cases O:k=0
 ·have R:(k==0)=true:=by grind
  refine au func178 ntmps178 ?_;refine D [0] o ?_;refine b6 [0] (zw code N q H) ?_;rintro _ _⟨M,p,S,l,d,rfl,rfl⟩;exact ze9
 ·have R:(k==0)=false:=by grind
  refine au func178 ntmps178 ?_;refine D [0] o ?_;refine b6 [0] (Oo code N q H) ?_;rintro _ _⟨s,M,S,G,rfl,rfl⟩;exact zb9
end
def nR:List ab:=[[97],[98],[100],[101],[109,97,105,110]]
def HX(code:ab)(j:code.length<=1099511627776)(c:dk)(b:c.i<=code.length) :
  GC prog 107 [.loc 0 0] [fi code c] (EO code):=by
 obtain⟨k,z,A,C,-⟩:=qo j b 3 V
 by_cases Q:k=0
 ·have r:(k==0)=true:=by grind
  refine au func107 ntmps107 ?_;refine D [0] A ?_;refine b6 [0] (HV code j z C) ?_;rintro _ _⟨o,p,w,B,s,rfl,rfl⟩;refine zas ?_;refine ej ?_;exact⟨o,p,w,B,s,rfl,rfl⟩
 ·have r:(k==0)=false:=by grind
  refine au func107 ntmps107 ?_;refine D [0] A ?_;refine zac ?_;refine GW.range 5 (fun k d e=>∃out c,d=.loc 0 0::U::.loc 1 0::.v (sv out)::strs nR::zU 12 (strs nR::y4 ((5:Nat):Int)::y4 (k:Nat)::zU 32 [])/\e=[fi code c,.box 28 [.v y6,.v y6,.v y6,.v y6]]/\c.i<=code.length/\out.length<=100*k) ?_ V ?_ ?_ ?_
  ·exact⟨_,_,Wk.aZ az,[],z,rfl,rfl,C,bp _⟩
  ·rintro k _ _⟨out,c,rfl,rfl,_,_⟩;exact dO
  ·rintro k _ _ H⟨out,c,rfl,rfl,b,t⟩;have S:=oD (l:=nR) (m:=k) (by show k<5;omega);have R:=mw (l:=nR) (n:=4) aR (k:Int);generalize lL nR (k:Int)=T at *;have⟨n,o,F,w,X⟩:=nV j b 3 V;refine I ?_;refine D [0] F ?_;refine GW.A3 (fun d e=>∃out c,d=.loc 0 0::U::.loc 1 0::.v (sv out)::strs nR::zU 12 (strs nR::y4 ((5:Nat):Int)::y4 (k:Nat)::zU 32 [])/\e=[fi code c,.box 28 [.v y6,.v y6,.v y6,.v y6]]/\c.i<=code.length/\out.length<=100*k+90) ?_ ?_
   ·refine GW.loop (fun x:Nat=>x) (fun x d e=>∃out c,d=.loc 0 0::U::.loc 1 0::.v (sv out)::strs nR::U::U::y4 (x:Nat)::U::U::U::U::U::U::U::U::U::strs nR::y4 ((5:Nat):Int)::y4 (k:Nat)::zU 32 []/\e=[fi code c,.box 28 [.v y6,.v y6,.v y6,.v y6]]/\c.i<=code.length/\out.length+10*x<=100*k+90) n ?_ ?_
    ·exact⟨_,_,Wk.aZ az,_,o,rfl,rfl,w,by grind⟩
    ·rintro x _ _⟨out,c,rfl,rfl,b,t⟩
     cases x with
     |zero =>
      refine eC ?_;exact⟨_,_,Wk.aZ az,out,c,rfl,rfl,b,by omega⟩
     |succ x =>
      have N:decide ((0:Int)<((x+1:Nat):Int))=true:=decide_eq_true V
      have u:(((x+1:Nat):Int)-1)=(x:Int):=by omega
      have⟨q,E,G,O,Y⟩:=nV j b 5 V;have M:=oD (l:=nR) (m:=q) (by show q<5;omega);have J:=mw (l:=nR) (n:=4) aR (q:Int);generalize lL nR (q:Int)=W at *;refine I ?_;refine D [0] G ?_;rw[u];exact⟨x,⟨_,_,Wk.aZ az,_,E,rfl,rfl,O,by grind⟩,by omega⟩
   ·rintro _ _⟨out,c,rfl,rfl,b,t⟩;refine I ?_;exact⟨rfl,rfl,_,_,Wk.aZ az,_,c,rfl,rfl,b,by grind⟩
  ·rintro _ _⟨out,c,rfl,rfl,b,t⟩;refine bh ?_;refine I ?_;refine b6 [] (yv out V) ?_;rintro _ _⟨rfl,p,Z,z2,B,s,rfl⟩;refine zas ?_;refine ej ?_;exact⟨c,p,b,by omega,s,rfl,rfl⟩
def HY(code:ab)(N:code.length<=1099511627776)(c:dk)(W:c.i<=code.length) :
  GC prog 42 [.loc 0 0] [fi code c] (EO code):=by
 obtain⟨k,r,o,H,-⟩:=qo N W 4 V
 by_cases O:k=0
 ·have S:(k==0)=true:=by grind
  refine au func42 ntmps42 ?_;refine D [0] o ?_;refine b6 [0] (HX code N r H) ?_;rintro _ _⟨M,p,R,l,d,rfl,rfl⟩;exact zfa
 ·have S:(k==0)=false:=by grind
  by_cases v:k=1
  ·have m:(k==1)=true:=by grind
   have⟨q,M,b,R,T⟩:=nV N H 3 V;refine au func42 ntmps42 ?_;refine D [0] o ?_;refine zac ?_;refine D [0] b ?_;refine GL.yU 1000 rfl rfl zfw (by show q<3;omega) rfl ?_;intro s G;refine bb ?_;refine b6 [] (yv s V) ?_;rintro _ _⟨rfl,p,Z,e,l,d,rfl⟩;refine zas ?_;refine ej ?_;exact⟨M,p,R,by omega,d,rfl,rfl⟩
  ·have m:(k==1)=false:=by grind
   refine au func42 ntmps42 ?_;refine D [0] o ?_;refine b6 [0] (zw code N r H) ?_;rintro _ _⟨M,p,R,l,d,rfl,rfl⟩;exact zfa
end Go.Xg
namespace Go.Xg
open Go.RowKit Go.Xw Go.Proofs Go.Sp Go.Im
def Ua{K:Fz}(β:Bt){hg ha hf hn:Value}{p:Src}(e:bF K (fun _=>Bk.no) [hg,ha,hf,hn] (aB p)):Rel K β (.agg #[hg,ha,hf,hn]) (.agg (aB p)):=by
 have R:bF K β [hg,ha,hf,hn] (aB p):=bF.mZ e (De p);exact .agg [hg,ha,hf,hn] _ R.1 R.2
attribute [local irreducible] GW GL GO YG GC GA bo bq p9 uk qD
end Go.Xg
namespace Go.Xg
open Go.RowKit Go.Xw
def za{A:Prop}(s:A:=by repeat (first|exact trivial|refine⟨rfl,?_⟩)):A:=s
section
variable{A B C:Prop}(bc:List Nat)
def a7(c:C)(h:B)(s:rb bc C->Hid B->A:=by intro Q J;(refine GL.sk Q n9 rfl za rfl ?_;refine oc du eb ?_);exact J.1):A:=s ⟨c⟩ ⟨h⟩
def PL(c:C)(h:B)(s:rb bc C->Hid B->A:=by intro Q J;(refine OA rfl rfl (GL.sk Q n9 rfl za rfl (GL.nil (bh (dL.mk jQ ?_))));refine j4 du eb ?_);exact J.1):A:=s ⟨c⟩ ⟨h⟩
def D4(c:C)(h:B)(s:rb bc C->Hid B->A:=by intro Q J;(refine GL.EZ Q n9 rfl za ?_);exact J.1):A:=s ⟨c⟩ ⟨h⟩
end
open Go.Xp (bL)
open Go.Mn
def Jl(n:Int):IntKind.i32.wrap n=bL n:=by
 rw[IntKind.wrap_i32];unfold bL;split<;>omega
def FA{n:Int}(h:qF n):IntKind.i64.wrap n=n:=by
 unfold qF at h;rw[IntKind.wrap_i64];omega
def YT(n:Int):IntKind.u32.wrap n=((nb n:Nat):Int):=by
 rw[IntKind.wrap_u32,O1]
def CZ{n:Nat}(h:n<4294967296):IntKind.u32.wrap (n:Int)=(n:Int):=by
 rw[IntKind.wrap_u32];omega
def B7{n:Nat}(h:n<4294967296):(BitVec.ofInt 32 (n:Int)).toNat=n:=by
 rw[BitVec.toNat_ofInt];simp;omega
section
variable{P:Program}{fr:am}{Γ:ap}{x y:Operand}{t t':TypeId}
def YG.E4{s t:TypeId}{k k':IntKind}{a:Int}[Q:nC P s k'][n:nC P t k](hx:bf fr x=.v (.int k' a)):YG P (.convert s t x) fr Γ (.v (.int k (k.wrap a))) :=
 YG.v1 hx fun l w h d o G m=>by simp[execOp,h,convert,run_underlying Q.und,run_underlying n.und,Conv.intToInt]
def YG.Zh{s t:TypeId}{a:Int}[Q:nC P s .i64][n:nC P t .i32](hx:bf fr x=y4 a):YG P (.convert s t x) fr Γ (.v (.int .i32 (bL a))):=by
 rw[<-Jl];exact YG.E4 hx
def YG.tI{s t:TypeId}{a:Int}[Q:nC P s .i64][n:nC P t .u32](hx:bf fr x=y4 a):YG P (.convert s t x) fr Γ (.v (.int .u32 ((nb a:Nat):Int))):=by
 rw[<-YT];exact YG.E4 hx
def YG.El{s t:TypeId}{a:Nat}[Q:nC P s .u32][n:nC P t .i32](hx:bf fr x=.v (.int .u32 (a:Int))):YG P (.convert s t x) fr Γ (.v (.int .i32 (bL (a:Int)))):=by
 rw[<-Jl];exact YG.E4 hx
def YG.E3{s t:TypeId}{a:Int}[Q:nC P s .i32][n:nC P t .i64](hx:bf fr x=.v (.int .i32 a))(h:qF a):YG P (.convert s t x) fr Γ (y4 a):=by
 have:=YG.E4 (P:=P) (Γ:=Γ) (s:=s) (t:=t) (k:=.i64) hx;rw[FA h]at this;exact this
def YG.Cb{s t:TypeId}{a:Nat}[Q:nC P s .u32][n:nC P t .i64](hx:bf fr x=.v (.int .u32 (a:Int)))(h:a<4294967296):YG P (.convert s t x) fr Γ (y4 (a:Int)):=by
 have:=YG.E4 (P:=P) (Γ:=Γ) (s:=s) (t:=t) (k:=.i64) hx;rw[show IntKind.i64.wrap (a:Int)=(a:Int) by rw[IntKind.wrap_i64];omega]at this;exact this
def YG.Yo{a b:Int}(hx:bf fr x=y4 a)(B:bf fr y=y4 b)(i:b≠0)(z:qF (a.tdiv b)):YG P (.binOp .quo t x y t') fr Γ (y4 (a.tdiv b)) :=
 YG.v2 hx B fun l w h k d n G m=>by simp[execOp,eqGuard,h,k,binOp,Op.intDiv,i,FA z]
def YG.abr{a b:Int}(hx:bf fr x=y4 a)(B:bf fr y=y4 b)(i:b≠0):YG P (.binOp .rem t x y t') fr Γ (y4 (a.tmod b)) :=
 YG.v2 hx B fun l w h k d n G m=>by simp[execOp,eqGuard,h,k,binOp,Op.intDiv,i]
variable{a b:Nat}
def YG.aan(hx:bf fr x=.v (.int .u32 (a:Int)))(B:bf fr y=.v (.int .u32 (b:Int)))(ha:a<4294967296)(i:b<4294967296):YG P (.binOp .and t x y t') fr Γ (.v (.int .u32 ((a &&& b:Nat):Int))) :=
 YG.v2 hx B fun l w h k d q H m=>by
  have o:(BitVec.ofInt 32 (a:Int) &&& BitVec.ofInt 32 (b:Int)).toNat=a &&& b:=by rw[BitVec.toNat_and,B7 ha,B7 i]
  have G:=CZ (n:=a &&& b) (Nat.lt_of_le_of_lt Nat.and_le_left ha);exact zaQ
def YG.orU(hx:bf fr x=.v (.int .u32 (a:Int)))(B:bf fr y=.v (.int .u32 (b:Int)))(ha:a<4294967296)(i:b<4294967296):YG P (.binOp .or t x y t') fr Γ (.v (.int .u32 ((a |||b:Nat):Int))) :=
 YG.v2 hx B fun l w h k d q H m=>by
  have o:(BitVec.ofInt 32 (a:Int) |||BitVec.ofInt 32 (b:Int)).toNat=a |||b:=by rw[BitVec.toNat_or,B7 ha,B7 i]
  have G:=CZ (n:=a |||b) (Nat.or_lt_two_pow (n:=32) ha i);exact zaQ
def YG.abx(hx:bf fr x=.v (.int .u32 (a:Int)))(B:bf fr y=.v (.int .u32 (b:Int)))(ha:a<4294967296)(i:b<4294967296):YG P (.binOp .xor t x y t') fr Γ (.v (.int .u32 ((a ^^^ b:Nat):Int))) :=
 YG.v2 hx B fun l w h k d q H m=>by
  have o:(BitVec.ofInt 32 (a:Int) ^^^ BitVec.ofInt 32 (b:Int)).toNat=a ^^^ b:=by rw[BitVec.toNat_xor,B7 ha,B7 i]
  have G:=CZ (n:=a ^^^ b) (Nat.xor_lt_two_pow (n:=32) ha i);exact zaQ
def YG.Gn(hx:bf fr x=.v (.int .u32 (a:Int)))(B:bf fr y=.v (.int .u32 (b:Int)))(i:1<=b):YG P (.binOp .rem t x y t') fr Γ (.v (.int .u32 ((a%b:Nat):Int))) :=
 YG.v2 hx B fun l w h k d o G n=>by
  have m:(b:Int)≠0:=by omega
  have e:(a:Int).tmod (b:Int)=((a%b:Nat):Int):=by rw[Int.ofNat_tmod]
  simp only[execOp,eqGuard,h,k,binOp,Op.intDiv,ae m,e];rfl
def YG.abt{n:Nat}{z:IntKind}(hx:bf fr x=.v (.int .u32 (a:Int)))(B:bf fr y=.v (.int z (n:Int)))(hn:n<=31):YG P (.binOp .shl t x y t') fr Γ (.v (.int .u32 ((a*2^n%4294967296:Nat):Int))) :=
 YG.v2 hx B fun l w h k d r H m=>by
  have o:¬((n:Int)<0):=by omega
  have c:Min.min n 32=n:=by omega
  have G:IntKind.u32.wrap ((a:Int)*2^n)=((a*2^n%4294967296:Nat):Int):=by
   have e:(a:Int)*2^n=((a*2^n:Nat):Int):=by rw[Int.natCast_mul,Int.natCast_pow];rfl
   rw[e,IntKind.wrap_u32];generalize a*2^n=q;omega
  simp[execOp,eqGuard,h,k,binOp,Op.shift,o,IntKind.bits,c,G]
end
open Go.Proofs Tryz
attribute [local irreducible] GW GL GO YG GC GA bo bq
def fu(n:Int):GF prog 293 [y4 n] [] (y4 (bL n)) []:=by
 refine au func293 ntmps293 ?_;refine GL.q (YG.Zh rfl) ?_;refine bb ?_;refine GL.q (YG.E3 rfl (nt n)) ?_;refine zad ?_;refine bB ?_
 grind[bD]
def lu(n:Int):GF prog 294 [y4 n] [] (y4 (n%4294967296)) []:=by
 rw[<-O1];refine au func294 ntmps294 ?_;refine GL.q (YG.tI rfl) ?_;refine bb ?_;refine GL.q (YG.Cb rfl (kj n)) ?_;refine zad ?_;refine bB ?_
 grind[bD]
def sP(b:Bool):GF prog 296 [.v (.bool b)] [] (y4 (oT b)) []:=by
 cases b with
 |true =>
  refine au func296 ntmps296 ?_;exact ay
 |false =>
  refine au func296 ntmps296 ?_;exact ay
def X6{x y:Int}(hx:qF x)(B:qF y) : -9223372036854775808<=x*y/\x*y<=9223372036854775807:=by
 unfold qF at hx B;have h:=Int.natAbs_mul x y;have o:x.natAbs*y.natAbs<=2147483648*2147483648:=Nat.mul_le_mul V V;omega
section
variable(a b:Int)
theorem Y4:GF prog 339 [y4 a,y4 b] [] (y4 (KM a b)) []:=by
 unfold KM;have m:=fu a;have N:=fu b;have Q:=fu (bL a+bL b);have w:=nt a;have i:=nt b;unfold qF at w i;generalize bL a=x at *;generalize bL b=y at *;refine au func339 ntmps339 ?_;refine D [] m ?_;refine zaG ?_;refine bB ?_
 grind[bD]
theorem Sv:GF prog 295 [y4 a,y4 b] [] (y4 (Ey a b)) []:=by
 unfold Ey;have m:=fu a;have N:=fu b;have Q:=fu (bL a-bL b);have w:=nt a;have i:=nt b;unfold qF at w i;generalize bL a=x at *;generalize bL b=y at *;refine au func295 ntmps295 ?_;refine D [] m ?_;refine zaG ?_;refine bB ?_
 grind[bD]
theorem Y8:GF prog 340 [y4 a,y4 b] [] (y4 (Lx a b)) []:=by
 unfold Lx;have m:=fu a;have N:=fu b;have Q:=fu (bL a*bL b);have w:=nt a;have i:=nt b;have j:=X6 w i;unfold qF at w i;generalize bL a=x at *;generalize bL b=y at *;refine au func340 ntmps340 ?_;refine D [] m ?_;refine zaG ?_;refine bB ?_
 grind[bD]
theorem V0:GF prog 337 [y4 a,y4 b] [] (.tup [.v (ii (yD a b).1),.v (ii (yD a b).2)]) []:=by
 have w:=Wl a b;unfold yD at w |-;have m:=fu a;have N:=fu b;generalize bL a=x at *;generalize bL b=y at *
 by_cases o:y=0
 ·rw[ak o]
  have r:(y==0)=true:=by grind
  refine au func337 ntmps337 ?_;refine zdZ ?_;refine lW ?_
  grind[bD]
 ·rw[ae o]at w |-
  have r:(y==0)=false:=by grind
  by_cases s:x = -2147483648
  ·have C:(x == -2147483648)=true:=by grind
   by_cases c:y = -1
   ·have i:(y == -1)=true:=by grind
    rw[ak ⟨s,c⟩];refine au func337 ntmps337 ?_;refine zdZ ?_;refine lW ?_
    grind[bD]
   ·have i:(y == -1)=false:=by grind
    rw[ae (fun h=>c h.2)]at w |-;refine au func337 ntmps337 ?_;refine zdZ ?_;refine GL.q (YG.Yo rfl rfl o w) ?_;refine zad ?_;refine lW ?_
    grind[bD]
  ·have C:(x == -2147483648)=false:=by grind
   rw[ae (fun h=>s h.1)]at w |-;refine au func337 ntmps337 ?_;refine zdZ ?_;refine GL.q (YG.Yo rfl rfl o w) ?_;refine zad ?_;refine lW ?_
   grind[bD]
theorem V3:GF prog 338 [y4 a,y4 b] [] (.tup [.v (ii (Eu a b).1),.v (ii (Eu a b).2)]) []:=by
 unfold Eu;have m:=fu a;have N:=fu b;generalize bL a=x at *;generalize bL b=y at *
 by_cases o:y=0
 ·rw[ak o]
  have r:(y==0)=true:=by grind
  refine au func338 ntmps338 ?_;refine zdZ ?_;refine lW ?_
  grind[bD]
 ·rw[ae o]
  have r:(y==0)=false:=by grind
  refine au func338 ntmps338 ?_;refine zdZ ?_;refine GL.q (YG.abr rfl rfl o) ?_;refine zad ?_;refine lW ?_
  grind[bD]
end
def VZ(m:Nat):bL ((m%4294967296:Nat):Int)=bL (m:Int):=by simp[bL]
section
variable(a b:Int)
def TY:GF prog 297 [y4 1,y4 a,y4 b] [] (y4 (oh 1 a b)) []:=by
 have N:=kj b;have A:=kj a
 have j:nb b%32<=31:=by omega
 refine au func297 ntmps297 ?_;refine zb6 ?_;refine GL.q (YG.aan rfl rfl (kj a) (kj b)) ?_;exact za8
def TZ:GF prog 297 [y4 2,y4 a,y4 b] [] (y4 (oh 2 a b)) []:=by
 have N:=kj b;have A:=kj a
 have j:nb b%32<=31:=by omega
 refine au func297 ntmps297 ?_;refine zb6 ?_;refine GL.q (YG.orU rfl rfl (kj a) (kj b)) ?_;exact za8
def Ii:GF prog 297 [y4 3,y4 a,y4 b] [] (y4 (oh 3 a b)) []:=by
 have N:=kj b;have A:=kj a
 have j:nb b%32<=31:=by omega
 refine au func297 ntmps297 ?_;refine zb6 ?_;refine GL.q (YG.abx rfl rfl (kj a) (kj b)) ?_;exact za8
def T0:GF prog 297 [y4 4,y4 a,y4 b] [] (y4 (oh 4 a b)) []:=by
 have N:=kj b;have A:=kj a
 have j:nb b%32<=31:=by omega
 refine au func297 ntmps297 ?_;refine zb6 ?_;refine GL.q (YG.abt rfl rfl V) ?_;refine zad ?_;refine GL.q (YG.El rfl) ?_;rw[VZ];refine bb ?_;refine GL.q (YG.E3 rfl (nt _)) ?_;exact zc6
def T6:GF prog 297 [y4 5,y4 a,y4 b] [] (y4 (oh 5 a b)) []:=by
 have N:=kj b;have A:=kj a
 have j:nb b%32<=31:=by omega
 have H:=fu a;refine au func297 ntmps297 ?_;refine zb6 ?_;refine D [] H ?_;refine GL.q (YG.GK (n:=nb b%32) rfl rfl) ?_;rw[show min (nb b%32) 64=nb b%32 by omega];exact zc6
theorem Kv:GF prog 341 [y4 1,y4 a,y4 b] [] (.v (.bool (jg 1 a b))) []:=by
 have m:=fu a;have N:=fu b;have Q:=lu a;have e:=lu b;unfold jg;generalize bL a=x at *;generalize bL b=y at *;refine au func341 ntmps341 ?_;refine za9 ?_
 grind[bD]
theorem Kw:GF prog 341 [y4 2,y4 a,y4 b] [] (.v (.bool (jg 2 a b))) []:=by
 have m:=fu a;have N:=fu b;have Q:=lu a;have e:=lu b;unfold jg;generalize bL a=x at *;generalize bL b=y at *;refine au func341 ntmps341 ?_;refine za9 ?_
 grind[bD]
theorem Kx:GF prog 341 [y4 3,y4 a,y4 b] [] (.v (.bool (jg 3 a b))) []:=by
 have m:=fu a;have N:=fu b;have Q:=lu a;have e:=lu b;unfold jg;generalize bL a=x at *;generalize bL b=y at *;refine au func341 ntmps341 ?_;refine za9 ?_
 grind[bD]
theorem Ky:GF prog 341 [y4 5,y4 a,y4 b] [] (.v (.bool (jg 5 a b))) []:=by
 have m:=fu a;have N:=fu b;have Q:=lu a;have e:=lu b;unfold jg;generalize bL a=x at *;generalize bL b=y at *;refine au func341 ntmps341 ?_;refine za9 ?_
 grind[bD]
theorem Kz:GF prog 341 [y4 7,y4 a,y4 b] [] (.v (.bool (jg 7 a b))) []:=by
 have m:=fu a;have N:=fu b;have Q:=lu a;have e:=lu b;unfold jg;generalize bL a=x at *;generalize bL b=y at *;refine au func341 ntmps341 ?_;refine za9 ?_
 grind[bD]
theorem KA:GF prog 341 [y4 9,y4 a,y4 b] [] (.v (.bool (jg 9 a b))) []:=by
 have m:=fu a;have N:=fu b;have Q:=lu a;have e:=lu b;unfold jg;generalize bL a=x at *;generalize bL b=y at *;refine au func341 ntmps341 ?_;refine za9 ?_
 grind[bD]
end
def PF(o:ab)(a:Int)(h:o=[45]\/o=[33]\/o=[126]):GF prog 228 [.v (sv o),y4 a] [] (y4 (YV o a)) []:=by
 rcases h with rfl|rfl|rfl
 ·have Q:=Sv 0 a;exact zcU
 ·have Q:=sP (a==0);exact zcU
 ·have Q:=Ii a (-1);exact zcU
def rn:List ab:=[[47],[37],[43],[45],[42],[61,61],[33,61],[60],[62],[60,61],[62,61],[38],[124],[94],[60,60],[62,62]]
def KQ(o:ab)(a b:Int)(h:o∈rn):GF prog 298 [.v (sv o),y4 a,y4 b] [] (.tup [.v (ii (rm o a b).1),.v (ii (rm o a b).2)]) []:=by
 unfold rn at h;simp only[List.mem_cons,List.not_mem_nil,or_false]at h
 rcases h with rfl|rfl|rfl|rfl|rfl|rfl|rfl|rfl|rfl|rfl|rfl|rfl|rfl|rfl|rfl|rfl
 ·have Q:=V0 a b;exact zbj
 ·have Q:=V3 a b;exact zbj
 ·have Q:=Y4 a b;exact zbj
 ·have Q:=Sv a b;exact zbj
 ·have Q:=Y8 a b;exact zbj
 ·have i:GF _ _ _ _ (y4 0) _:=gO [[61,61],[33,61],[60],[],[62],[],[60,61],[],[62,61]] [61,61] aR;have Q:=Kv a b;have n:=sP (jg 1 a b);exact zak
 ·have i:GF _ _ _ _ (y4 1) _:=gO [[61,61],[33,61],[60],[],[62],[],[60,61],[],[62,61]] [33,61] aR;have Q:=Kw a b;have n:=sP (jg 2 a b);exact zak
 ·have i:GF _ _ _ _ (y4 2) _:=gO [[61,61],[33,61],[60],[],[62],[],[60,61],[],[62,61]] [60] aR;have Q:=Kx a b;have n:=sP (jg 3 a b);exact zak
 ·have i:GF _ _ _ _ (y4 4) _:=gO [[61,61],[33,61],[60],[],[62],[],[60,61],[],[62,61]] [62] aR;have Q:=Ky a b;have n:=sP (jg 5 a b);exact zak
 ·have i:GF _ _ _ _ (y4 6) _:=gO [[61,61],[33,61],[60],[],[62],[],[60,61],[],[62,61]] [60,61] aR;have Q:=Kz a b;have n:=sP (jg 7 a b);exact zak
 ·have i:GF _ _ _ _ (y4 8) _:=gO [[61,61],[33,61],[60],[],[62],[],[60,61],[],[62,61]] [62,61] aR;have Q:=KA a b;have n:=sP (jg 9 a b);exact zak
 ·have i:GF _ _ _ _ (y4 (-1)) _:=gO [[61,61],[33,61],[60],[],[62],[],[60,61],[],[62,61]] [38] aR;have z:GF _ _ _ _ (y4 0) _:=gO [[38],[124],[94],[60,60],[62,62]] [38] aR;have Q:=TY a b;exact zar
 ·have i:GF _ _ _ _ (y4 (-1)) _:=gO [[61,61],[33,61],[60],[],[62],[],[60,61],[],[62,61]] [124] aR;have z:GF _ _ _ _ (y4 1) _:=gO [[38],[124],[94],[60,60],[62,62]] [124] aR;have Q:=TZ a b;exact zar
 ·have i:GF _ _ _ _ (y4 (-1)) _:=gO [[61,61],[33,61],[60],[],[62],[],[60,61],[],[62,61]] [94] aR;have z:GF _ _ _ _ (y4 2) _:=gO [[38],[124],[94],[60,60],[62,62]] [94] aR;have Q:=Ii a b;exact zar
 ·have i:GF _ _ _ _ (y4 (-1)) _:=gO [[61,61],[33,61],[60],[],[62],[],[60,61],[],[62,61]] [60,60] aR;have z:GF _ _ _ _ (y4 3) _:=gO [[38],[124],[94],[60,60],[62,62]] [60,60] aR;have Q:=T0 a b;exact zar
 ·have i:GF _ _ _ _ (y4 (-1)) _:=gO [[61,61],[33,61],[60],[],[62],[],[60,61],[],[62,61]] [62,62] aR;have z:GF _ _ _ _ (y4 4) _:=gO [[38],[124],[94],[60,60],[62,62]] [62,62] aR;have Q:=T6 a b;exact zar
end Go.Xg
set_option maxHeartbeats 2000000
namespace Go.Xg
open Go.RowKit Go.Xw Go.Proofs
section
variable{P:Program}{m:Nat}{Q:dN}{fr:am}{Γ:ap}{ops:Array Oper}{rest:List Oper}{d:Option Tmp}{ty:TypeId}{pos:String}{af:Array Edge}
def YG.abd{x y:Operand}{t e:TypeId}{k:Nat}[r:lX P t e k]{b o n c:Nat}{z:IntKind}{q:Nat}(hx:bf fr x=.v (.slice (some ⟨b,o,none⟩) n c))(C:bf fr y=.v (.int z q))(J:q<n):YG P (.indexAddr t x y) fr Γ (.v (.pointer (some ⟨b,o+q*k,none⟩))):=fun B K s w l i O =>
 ⟨_,R.ju (O.gq hx) (O.gq C) J,.v _⟩
theorem YG.ldQ{x:Operand}{t:TypeId}[W:Ty P t false 1](i j:Nat){b idx n c E:Nat}{N:ap}{rows:List am}{u:Value}(hx:bf fr x=.v (.pointer (some ⟨b,idx,none⟩)))(s:Γ[i]?=some (blob N))(C:N[j]?=some (.vech E 1 rows (.slice (some ⟨b,0,none⟩) n c)))(O:rows[idx]?=some [.v u]):YG P (.load t x) fr Γ (.v u):=fun B K β w l A z=>by
 have⟨h,e,H,M⟩:=A.ob i _ s;obtain⟨J,Z,q,k⟩:=M.own w (fun b o F=>(H b o F).1) j E 1 rows _ C;have⟨v,Y,r⟩:=k.at (sA J O (j:=0) rfl);have:=Rel.eW r;subst this;have⟨S,T,G,_,_,X⟩:=q.cells.2 zff;cases G;refine⟨_,R.ld (z.gq hx) (by grind[fS]),.v _⟩
theorem Gm{K:Fz}{β:Bt}{u:Value}{g:GV}(M:Rel K β u g):∀(vs:List Value)(cs:am)(q:Nat),bF K β vs cs->bF K β (fc vs q u) (bJ cs q g)
 |[],cs,q,h=>by have:cs=[]:=ll h.1.symm;subst this;exact h
 |v::vs,[],q,h=>by grind
 |v::vs,c::cs,0,h=>by have⟨a1,F⟩:=h.oI;exact .cons M F
 |v::vs,c::cs,q+1,h=>by have⟨a1,F⟩:=h.oI;exact .cons a1 (Gm M vs cs q F)
theorem Ud{N:ap}{j:Nat}{x y:Ob}(h:N[j]?=some x)(i:Mw y=Mw x):jq (N.set j y)=jq N:=by
 grind[jq]
theorem GL.stQ{x y:Operand}{t:TypeId}[hT:Ty P t false 1](i j:Nat){b idx n c E:Nat}{N:ap}{rows:List am}{u:Value}(hx:bf fr x=.v (.pointer (some ⟨b,idx,none⟩)))(vA:Γ[i]?=some (blob N))(hN:N[j]?=some (.vech E 1 rows (.slice (some ⟨b,0,none⟩) n c)))(hr:idx<rows.length)(hy:bf fr y=.v u)(hu:CC u=true)
  (h:GL P m ops Q rest (bX fr d (.v undef)) (oset Γ i (blob (N.set j (.vech E 1 (df rows idx 0 (.v u)) (.slice (some ⟨b,0,none⟩) n c)))))):GL P m ops Q (⟨d,.store t x y,ty,pos,af,none⟩::rest) fr Γ:=fun B K β w l hm C hF=>by
 have⟨A,e,hh,M⟩:=C.ob i _ vA
 have hbk:∀q,(β i).has q↔(A q).isSome=true:=fun q=>by grind[Bk.has]
 obtain⟨hk,xs,how,Xm⟩:=M.own w (fun b o hb=>(hh b o hb).1) j E 1 rows _ hN
 have hjb:(jq N j).has b:=by rw[vg hN];rfl
 have Xe:(A b).isSome=true:=(M.dom b).2 ⟨j,hjb⟩
 rcases how.2 with⟨e5,Z⟩|⟨g0,cap,cur,e5,R,hg,Ds,ND,sM,Fx⟩
 ·cases e5
 ·have e5':=e5
  injection e5 with Z e7 e8
  injection Z with Z
  injection Z with Z _ _
  subst Z;subst e7;subst e8
  have hq:idx<rows.length*1:=by omega
  refine WL.st (t:=t) (k:=1) (hF.gq hx) rfl hg (by rw[hF.gq hy];grind[l9]) V (by rw[hF.gq hy,(l9 hu).1];simp_all[l9,Xw.lS]) fun w' O=>?_
  rw[hF.gq hy]at O
  have NF:setL cur idx u.cells.toList=(fc cur.toList idx u).toArray:=by
   rw[(l9 hu).1];simp only[setL];rw[<-ym]
  rw[NF]at O
  have aa1:∀w2:World,w2.heap[b]?=w'.heap[b]?->iz w2 0 E 1 (.slice (some ⟨b,0,none⟩) rows.length c) (df rows idx 0 (.v u)).length (fc xs idx u):=fun w2 H=>by
   rw[dR];exact⟨by grind[q6],.inr ⟨b,c,_,rfl,R,by rw[H];exact O.blk,Ds,ND,by simp[q6,sM],by simp_all[List.toList_toArray,Aw]⟩⟩
  have W:bF (fun _ _=>none) (fun _=>.no) (fc xs idx u) (df rows idx 0 (.v u)).flatten:=by
   rw[sB V hk hr,Nat.mul_one,Nat.add_zero];exact Gm (.v u) _ _ _ Xm
  let F:Nat->Option Obj:=fun q=>if q=b then w'.heap[b]? else A q
  have aaX:F b=w'.heap[b]?:=ak rfl
  have aaY:∀q,q≠b->F q=A q:=fun q h=>ae h
  have X:∀q,(F q).isSome=(A q).isSome:=fun q=>by
   by_cases s:q=b
   ·subst s;rw[aaX,O.blk,Xe];rfl
   grind
  have S5:=Ud (y:=.vech E 1 (df rows idx 0 (.v u)) (.slice (some ⟨b,0,none⟩) rows.length c)) hN (by simp only[Mw,dR])
  have Xk:Pk (N.set j (.vech E 1 (df rows idx 0 (.v u)) (.slice (some ⟨b,0,none⟩) rows.length c))) F:=by
   refine⟨fun z hz=>?_,fun a a' q h1 H=>?_,fun q=>?_,fun w2 Xz a E' k' Y x' G=>?_⟩
   ·rcases List.mem_or_eq_of_mem_set hz with hz|rfl
    ·exact M.plain z hz
    ·have vz:=M.plain _ (bP hN);show ∀r∈df rows idx 0 (.v u),∀g∈r,∃x,g=GV.v x;intro r NQ g xO
     have:∀(rows:List am)(i:Nat),(∀r∈rows,∀g∈r,∃x,g=GV.v x)->r∈df rows i 0 (.v u)->∃x,g=GV.v x:=by
      intro rows
      induction rows with
      |nil=>simp[df]
      |cons a rows ih =>
       intro i h H
       cases i with
       |zero =>
        rw[df]at H
        rcases iY H with rfl|H
        ·rcases Fk xO with h3|h3
         ·grind
         grind
        grind
       |succ i =>
        grind[df,List.mem_cons_self,ec]
     exact this rows idx vz NQ
   ·rw[S5]at h1 H;exact M.dis a a' q h1 H
   ·rw[X,S5];exact M.dom q
   ·by_cases S:a=j
    ·subst S;rw[List.getElem?_set_self (bY hN).1]at G;cases G;refine⟨vV rfl hk,_,aa1 w2 ?_,W⟩
     grind
    ·rw[List.getElem?_set_ne (fun h=>S h.symm)]at G;obtain⟨a1,ys,a2,a3⟩:=M.own w (fun b o hb=>(hh b o hb).1) a E' k' Y x' G;refine⟨a1,ys,Gi a2 fun q o' s ho'=>?_,a3⟩
     have S3:(jq N a).has q:=by rw[vg G];exact s
     have NN:q≠b:=fun h=>by subst h;exact S (M.dis a j q S3 hjb)
     have⟨y',hy'⟩:=Option.isSome_iff_exists.1 ((M.dom q).2 ⟨a,S3⟩)
     grind
  have hib:(β i).has b:=(hbk b).2 Xe
  have hKb:∀o,K b o=none:=by
   grind[Option.isSome_iff_exists]
  have hI':Inv B K β (oset Γ i (blob (N.set j (.vech E 1 (df rows idx 0 (.v u)) (.slice (some ⟨b,0,none⟩) rows.length c))))) w':=by
   refine⟨C.ext.step O.ext (fun j J=>?_),C.kle,C.ble,C.loc,C.fz.ext O.ext (fun q o' g' xO he=>?_),fun a y J=>?_,fun a J=>C.out a zfl,C.dis,C.own,C.kn,C.tab.step O.ext (fun a J=>⟨i,by grind⟩) (dm.refl K) (fun i b2 h=>.inl ⟨i,h⟩)⟩
   ·subst J;exact(C.own i _ hib).symm
   ·grind
   ·rw[bI,eY]at J;split at J
    ·rename_i T;split at J
     ·cases J;subst T
      refine⟨F,?_,fun q o' s=>?_,Xk⟩
      ·grind
      ·by_cases xM:q=b
       ·grind
       ·rw[aaY q xM]at s;have⟨h1,H⟩:=hh q o' s;exact⟨O.ext.blk h1 (fun h=>xM h),H⟩
     grind
    ·rename_i T;refine(C.ob a y J).ext O.ext (fun q s he=>?_) (dm.refl K) (dV.refl β) rfl (fun _ _ _ h=>h);subst he;exact T (C.dis i a _ hib s)
  exact h B K β w' _ hm hI' (hF.put d (.v _))
end
end Go.Xg
namespace Go.Xw
open Go.RowKit
section
variable{P:Program}(w:World)(t b ty e:TypeId)(i:TypeInfo)(z:Value)
theorem vX(k B:IntKind)(M:P.underlying t=some (.slice e))(j:P.underlying b=some (.int B))(hi:P.info? e=some i)(q:i.zero=some z)
  (m:Nat)(r:0<m)(G:i.size=1)(Z:(m:Int)<=9223372036854775807)(T:m*i.bytes<=281474976710656) :
  (Builtin.append_ #[t,b] ty #[.slice none 0 0,.int k m]).run P w =
   .ok (.slice (some ⟨w.heap.size,0,none⟩) m (grownCap w m 0 e)) (w.drew.alloc (.cells (Builtin.zeroCells z.cells m++Builtin.zeroCells z.cells (grownCap w m 0 e-m)) e)):=by
 have n:m≠0:=by omega
 have o:IntKind.i64.wrap (m:Int)=m:=by rw[IntKind.wrap_i64];omega
 have F:¬(9223372036854775807<(m:Int)):=by omega
 have A:¬(281474976710656<Builtin.nextslicecap m 0*i.bytes):=by grind[nextslicecap_zero]
 have C:¬(281474976710656<(m:Int)*(i.bytes:Int)):=by omega
 have c:¬((m:Int)<0):=by omega
 simp[Builtin.append_,run_underlying M,run_underlying j,sizeOf,typeInfo,zeroValue,hi,q,G,asInt,asIntOf,o,n,c,F,A,C,Question.forced,run_firstCells_none,newRow,grownCap]
def vW(v B:IntKind)(M:P.underlying t=some (.slice e))(k:P.underlying b=some (.int B))(hi:P.info? e=some i)(s:i.zero=some z)
  (base:Option Addr)(n c:Nat)(u:List Value)(E:(Builtin.firstCells 1 n (.slice base n c)).run P w.drew=.ok u.toArray w.drew)
  (m:Nat)(H:0<m)(G:i.size=1)(hg:c<n+m)(Z:((n+m:Nat):Int)<=9223372036854775807)(T:m*i.bytes<=281474976710656)(o:Builtin.nextslicecap (n+m) c*i.bytes<=281474976710656) :
  (Builtin.append_ #[t,b] ty #[.slice base n c,.int v m]).run P w =
   .ok (.slice (some ⟨w.heap.size,0,none⟩) (n+m) (grownCap w (n+m) c e)) (w.drew.alloc (.cells (u.toArray++Builtin.zeroCells z.cells m++Builtin.zeroCells z.cells (grownCap w (n+m) c e-(n+m))) e)):=by
 have N:m≠0:=by omega
 have r:IntKind.i64.wrap (m:Int)=m:=by rw[IntKind.wrap_i64];omega
 have q:¬(n+m<=c):=by omega
 have F:¬(9223372036854775807<((n:Int)+(m:Int))):=by omega
 have A:¬(281474976710656<Builtin.nextslicecap (n+m) c*i.bytes):=by omega
 have C:¬(281474976710656<(m:Int)*(i.bytes:Int)):=by omega
 have j:¬((m:Int)<0):=by omega
 simp[Builtin.append_,run_underlying M,run_underlying k,sizeOf,typeInfo,zeroValue,hi,s,G,asInt,asIntOf,r,N,q,j,F,A,C,Question.forced,E,newRow,grownCap]
end
def vY{P:Program}{w:World}(t b ty e:TypeId)(i:TypeInfo)(z u:Value)(k B:IntKind)(M:P.underlying t=some (.slice e))(j:P.underlying b=some (.int B))(hi:P.info? e=some i)(v:i.zero=some z)(o:z.cells=#[u])(N:u.oneCell'=true)(H:i.size=1)
  (g A T m:Nat)(cur:Array Value)(hg:w.heap[g]?=some (.cells cur e (0,0)))(F:0<m)(Z:(m:Int)<=9223372036854775807)(W:m*i.bytes<=281474976710656)
  (E:A+m<=T)(n:A+m<=cur.size) :
  (Builtin.append_ #[t,b] ty #[.slice (some ⟨g,0,none⟩) A T,.int k m]).run P w =
   .ok (.slice (some ⟨g,0,none⟩) (A+m) T) (w.setRow g (cur.toList.take A++List.replicate m u++cur.toList.drop (A+m)).toArray):=by
 have q:m≠0:=by omega
 have s:IntKind.i64.wrap (m:Int)=m:=by rw[IntKind.wrap_i64];omega
 have C:¬(281474976710656<(m:Int)*(i.bytes:Int)):=by
  omega
 have c:¬((m:Int)<0):=by omega
 have G:(Builtin.zeroCells #[u] m).toList=List.replicate m u:=by
  unfold Builtin.zeroCells;rw[Array.toList_map,Array.toList_range];simp[List.size_toArray,List.length_singleton,Nat.mul_one,Nat.mod_one,List.eq_replicate_iff,ra]
 have r:=run_storeCells_at P g A e (List.replicate m u) 0 cur w hg zff (fun x hx=>by grind);simp only[Nat.add_zero,length_replicate]at r;simp[Builtin.append_,run_underlying M,run_underlying j,sizeOf,typeInfo,zeroValue,hi,v,H,asInt,asIntOf,s,q,c,C,E,Addr.add_lit,o,G,r]
section
variable{P:Program}{Q:mj}{l:List Value}{w:World}{ops:Array Oper}{rest:List Oper}{d:Option Tmp}{ty:TypeId}{pos:String}{af:Array Edge}
theorem P6{u:Value}(m:Nat):Builtin.zeroCells #[u] m=(List.replicate m u).toArray:=by
 grind[Builtin.zeroCells]
theorem WL.KO{s x:Operand}{t R e N:Nat}{u:Value}{X Y:IntKind}[hT:nu P t e 1 N][hZ:od P t e 1 [u]](J:P.underlying R=some (.int X)){base n m:Nat}{xs:List Value}{v:Value}(hs:ev l s=v)(c:iz w base e 1 v n xs)
  (hx:ev l x=.int Y (m:Int))(Z:0<m)(hu:u.oneCell'=true)(h63:n+m<=9223372036854775807)(S:(n+m)*N<=140737488355328)(E:base<=w.heap.size)
  (h:∀v' w',iz w' base e 1 v' (n+m) (xs++List.replicate m u)->Ext (fun b=>v.ownBlock=some b) w w'->(∀b,v'.ownBlock=some b->v.ownBlock=some b\/w.heap.size<=b)->WL P ops Q rest (put l d v') w') :
  WL P ops Q (⟨d,.call ⟨.builtin .append,#[s,x],#[t,R]⟩,ty,pos,af,none⟩::rest) l w:=by
 have⟨M,⟨i,z,T,W,NW,H,S6⟩,hk⟩:=hT.parts
 have hzc:z.cells=#[u]:=by
  have h4:=hZ.zero;rw[T]at h4;simp only[Option.bind_some,W,Option.some.injEq,if_true,List.headD_cons]at h4;rw[h4];exact hZ.one rfl
 have Xe:m*i.bytes<=140737488355328:=by grind
 have A:∀(r:Nat),r<n+m->iz (w.drew.alloc (.cells (xs.toArray++Builtin.zeroCells z.cells m++Builtin.zeroCells z.cells (grownCap w (n+m) r e-(n+m))) e)) base e 1 (.slice (some ⟨w.heap.size,0,none⟩) (n+m) (grownCap w (n+m) r e)) (n+m) (xs++List.replicate m u):=fun r ho=>by
  have NI:=grownCap_ge w (n+m) r e;have F:grownCap w (n+m) r e<=maxLen:=grownCap_le_maxLen w (n+m) r e zfr;have hxl:=c.1;refine⟨by grind,.inr ⟨w.heap.size,_,_,rfl,E,heap_alloc_new w.drew _,NI,F,?_,?_⟩⟩
  ·grind[Builtin.zeroCells,Value.cells,grownCap]
  grind[P6,Array.toList_append,dP,br,length_replicate,List.take_left]
 have B:∀o,Ext (fun b=>v.ownBlock=some b) w (w.drew.alloc o):=fun o=>⟨rfl,rfl,rfl,by simp,fun k hk _=>Below.heap_alloc _ _ _ (by simp_all)⟩
 have abB:=c
 rcases c.2 with⟨rfl,rfl⟩|⟨g,q,cur,rfl,S4,hg,Ds,F,NF,abD⟩
 ·have XA:xs=[]:=ll (by simpa using c.1);subst XA;have O:=vX (P:=P) w t R ty e i z Y X M J T W m Z H zfh zfh;have hgr:=A 0 zfh;simp only[dJ,nil_append,Array.empty_append]at hgr;refine WL.val (v:=.slice (some ⟨w.heap.size,0,none⟩) m (grownCap w m 0 e)) (w':=w.drew.alloc (.cells (Builtin.zeroCells z.cells m++Builtin.zeroCells z.cells (grownCap w m 0 e-m)) e)) zft (h _ _ zff (B _) fun b hb=>?_)
  exact zbU
 ·by_cases C:n+m<=q
  ·have O:=vY (P:=P) (w:=w) t R ty e i z u Y X M J T W hzc hu H g n q m cur hg Z zfh zfh C zfh;have Xb:=c.1;refine WL.val (v:=.slice (some ⟨g,0,none⟩) (n+m) q) (w':=w.setRow g (cur.toList.take n++List.replicate m u++cur.toList.drop (n+m)).toArray) zft (h _ _ ⟨by grind,.inr ⟨g,q,_,rfl,S4,setRow_heap w g cur _ e _ hg,C,F,?_,?_⟩⟩ ⟨rfl,rfl,rfl,by simp,fun k _ hk=>setRow_other w g k _ (fun e=>hk (by simp[Value.ownBlock,e]))⟩ fun b hb=>.inl hb)
   ·grind
   grind
  ·have G:∀j u,xs[j]?=some u->w.cell? ((⟨g,0,none⟩:Addr).add j)=some u:=World.ownsRow.cells (g:=g) c rfl;have hf:=run_firstCells_some (P:=P) w.drew 1 n ⟨g,0,none⟩ n q xs c.1 G;have O:=vW (P:=P) w t R ty e i z Y X M J T W (some ⟨g,0,none⟩) n q xs zfh m Z H zfh zfh zfh (growslice_fits zfh zff);refine WL.val (v:=.slice (some ⟨w.heap.size,0,none⟩) (n+m) (grownCap w (n+m) q e)) (w':=w.drew.alloc (.cells (xs.toArray++Builtin.zeroCells z.cells m++Builtin.zeroCells z.cells (grownCap w (n+m) q e-(n+m))) e)) zft (h _ _ (A q zfh) (B _) fun b hb=>?_)
   exact zbU
end
end Go.Xw
namespace Go.Xg
open Go.RowKit Go.Xw Go.Proofs
section
variable{P:Program}{m:Nat}{Q:dN}{fr:am}{Γ:ap}{ops:Array Oper}{rest:List Oper}{d:Option Tmp}{ty:TypeId}{pos:String}{af:Array Edge}
theorem GL.Zd{s x:Operand}{t Z e A:Nat}{u:Value}{kn kq:IntKind}[hT:nu P t e 1 A][hZ:od P t e 1 [u]][hN:nC P Z kn](i:Nat){n q:Nat}{G:Tmp}{S:Option Addr}{T:Nat}{rows:List am}(hx:bf fr x=.v (.int kq (q:Int)))(hs:bf fr s=.v (.slice S n T))
  (k:Γ[i]?=some (.vech e 1 rows (.slice S n T)))(hn:rows.length=n)(h0:0<q)(hu:CC u=true)(X:n+q<=9223372036854775807/\(n+q)*A<=140737488355328)
  (h:∀a c,GL P m ops Q rest (bX fr (some G) (.v (.slice a (n+q) c))) (oset Γ i (.vech e 1 (rows++List.replicate q [.v u]) (.slice a (n+q) c)))) :
  GL P m ops Q (⟨some G,.call ⟨.builtin .append,#[s,x],#[t,Z]⟩,ty,pos,af,none⟩::rest) fr Γ:=fun B K β w l hm W H=>by
 subst hn;have⟨xs,o1,Y,o3,o4,o5⟩:=W.ob i _ k;have O:=H.gq hs;have R:=H.gq hx
 refine WL.KO (base:=0) (n:=rows.length) (m:=q) (xs:=xs) hN.und O Y R h0 (by simp_all[l9,Xw.lS]) X.1 X.2 (bp _) fun v' w' N E M=>?_
 have J:(List.replicate q [GV.v u]).flatten=(List.replicate q u).map .v:=by
  simp
 have hk:gE 1 (List.replicate q [GV.v u]):=fun r hr=>by
  grind[GV.pc]
 obtain⟨K',hK,F,C⟩:=(W.yk k).grow (fz:=0) (nI k) o1 ⟨Y,o3⟩ (news:=List.replicate q [.v u]) (ns:=List.replicate q u) zff E M (by rw[J];exact bF.self) hk zff (fun b Nz o v ho hv=>by omega);rw[<-bI,ma]at C;have⟨a,c,j,z⟩:=C.wH (nI k);rw[ma]at z;obtain⟨a',c',rfl⟩:=N.shape;rw[b7]at j;simp only[br,length_replicate]at j z F;cases j;exact h _ _ B K' _ w' _ hm z ((H.mono hK F).put (some G) (.v _))
theorem GL.abm{x:Operand}{t e k u:Nat}{z:List Value}[hT:nu P t e k u][E:od P t e k z]{J:Tmp}{n:Nat}(hx:bf fr x=y4 (n:Nat))(hb:n<=1099511627776/\u*n<=281474976710656)
  (h:∀b c,GL P m ops Q rest (bX fr (some J) (.v (.slice (some ⟨b,0,none⟩) n c))) (Γ++[.vech e k (List.replicate n (gZ z)) (.slice (some ⟨b,0,none⟩) n c)])) :
  GL P m ops Q (⟨some J,.makeSlice t x x,ty,pos,af,none⟩::rest) fr Γ:=fun B K β w l hm Z Y=>by
 have⟨hu,⟨i,W,hi,hz,NW,S,S6⟩,hk⟩:=hT.parts;have T:ev l x=ii (n:Nat):=Y.gq hx;obtain⟨w',hr,X,A⟩:=run_make_full (P:=P) (w:=w) 0 t e i W k hu hi hz S .i64 .i64 n zff zfr (bp _)
 have XB:W.cells.toList=z:=by
  have H:=E.zero;rw[hi]at H;simp only[Option.bind_some,hz,Option.some.injEq]at H;have hl:=E.zl
  by_cases M:k=1
  ·rw[ak M]at H;rw[H,E.one M];subst M
   match z,hl with
   |[a],_=>rfl
  grind[Value.cells]
 have o:(madeCells W.cells (n*k)).toList=(List.range (n*k)).map fun j=>z.getD (j%k) undef:=by
  unfold madeCells;rw[Array.toList_map,Array.toList_range]
  exact zey
 rw[o]at X;have s:=BN (K:=K) (β:=β) (n:=n) E.zl E.pos;rw[<-Kt]at s
 have O:gE k (List.replicate n (gZ z)):=fun r hr=>by
  grind[gZ,GV.pc]
 have F:Ext gS w w':=⟨A.os,A.tape,A.output,A.size,fun j hj _=>A.block j hj zfg⟩;have N:=Z.BV (x:=.slice (some ⟨w.heap.size,0,none⟩) n n) (rows:=List.replicate n (gZ z)) F (by rw[length_replicate];exact X) (fun b hb=>by cases hb;simp) s O
 have G:(Γ++[Ob.vec e k 0 (List.replicate n (gZ z))])[Γ.length]?=some (Ob.vec e k 0 (List.replicate n (gZ z))):=by simp
 have⟨a,c,q,C⟩:=N.wH G;rw[b7]at q
 injection q with Jb xM
 injection Jb with NA hb4 hb5
 subst NA hb5
 have R:oset (Γ++[.vec e k 0 (List.replicate n (gZ z))]) Γ.length (.vech e k (List.replicate n (gZ z)) (.slice (some ⟨w.heap.size,0,none⟩) (List.replicate n (gZ z)).length n))=Γ++[.vech e k (List.replicate n (gZ z)) (.slice (some ⟨w.heap.size,0,none⟩) (List.replicate n (gZ z)).length n)]:=by
  rw[bI];simp
 rw[R,length_replicate]at C;exact zba
variable{x y:Operand}{t t':TypeId}
def YG.QF[n:uV P t]{a:Option Addr}(hx:bf fr x=.v (.pointer a))(C:bf fr y=.v (.pointer none)):YG P (.binOp .eql t x y t') fr Γ (.v (.bool a.isNone)):=fun B K q w l i O=>by
 have⟨e,j,o,b⟩:=n.und
 have W:P.pointee t=e:=by simp[Program.pointee,o]
 have:=run_eql_pointer_nil (P:=P) w t a zff;exact zdD
def YG.X8[n:uV P t]{a:Option Addr}(hx:bf fr x=.v (.pointer a))(C:bf fr y=.v (.pointer none)):YG P (.binOp .neq t x y t') fr Γ (.v (.bool a.isSome)):=fun B K q w l i O=>by
 have⟨e,j,o,b⟩:=n.und
 have W:P.pointee t=e:=by simp[Program.pointee,o]
 have:=run_neq_pointer_nil (P:=P) w t a zff;exact zdD
theorem YG.YK{x lo:Operand}{t e:TypeId}{k:Nat}[n:lX P t e k]{rows:List am}{A:IntKind}{i:Nat}(hx:bf fr x=.sl k rows)(G:bf fr lo=.v (.int A (i:Int)))(hi:i=rows.length)(q:0<i):YG P (.slice t x (some lo) none none) fr Γ (.sl k []):=fun B K s w l r O=>by
 have h:=O.ev x;rw[hx]at h;have z:=O.gq G;generalize j:ev l x=v at h
 cases h with
 |sl0 a c=>grind
 |sl b o c _ _ h W =>
  have N:(i:Int)<=(rows.length:Int):=by omega
  by_cases C:c=i
  ·refine⟨.slice (some ⟨b,o,none⟩) 0 0,fun d ty pos af=>?_,.sl0 _ _ _⟩;subst C;simp[execOp,Instr.sliceAt,Instr.slice,Instr.sliceBounds,Instr.sliceBound,asIntOf,j,z,run_underlying n.und,iK n.siz,hi,qH]
  ·refine⟨.slice (some ⟨b,o+i*k,none⟩) 0 (c-i),fun d ty pos af=>?_,.sl0 _ _ _⟩;simp[execOp,Instr.sliceAt,Instr.slice,Instr.sliceBounds,Instr.sliceBound,asIntOf,j,z,run_underlying n.und,iK n.siz,C,W,<-hi,qH]
def YG.YJ{x lo:Operand}{t e:TypeId}{k:Nat}[n:lX P t e k]{r:am}{rows:List am}{z:IntKind}(hx:bf fr x=.sl k (r::rows))(G:bf fr lo=.v (.int z 1)):YG P (.slice t x (some lo) none none) fr Γ (.sl k rows):=by
 cases rows with
 |nil=>exact YG.YK (i:=1) hx G rfl aR
 |cons a rows=>exact YG.TL (i:=1) hx G rfl
theorem YG.ZE{e:TypeId}[o:lX P t e 1]{b n c:Nat}{z:IntKind}{q:Nat}(hx:bf fr x=.v (.slice (some ⟨b,0,none⟩) n c))(B:bf fr y=.v (.int z (q:Int)))(J:q<n):YG P (.indexAddr t x y) fr Γ (.v (.pointer (some ⟨b,q,none⟩))):=by
 have:=YG.abd (P:=P) (Γ:=Γ) (t:=t) (k:=1) (q:=q) hx B J
 grind
def YG.Ya{a:Addr}(hx:bf fr x=.v (.pointer (some a))):YG P (.nilCheck x) fr Γ (.v (.pointer (some a))):=fun B K n w l i O=>⟨_,R.Eo (O.gq hx),.v _⟩
end
end Go.Xg
set_option maxHeartbeats 4000000
namespace Go.Xg
open Go.RowKit Go.Xw Go.Proofs Tryz Go.Im Go.Mn
open Go.Xp (Nd Ar)
open Go.Sp (Src)
attribute [local irreducible] GW GL GO YG GC GA bo bq
instance:uV prog 234:=uV.mk' (e:=3) (aO) (aO)
abbrev cI(l:List Int):List am:=l.map fun i=>[.v (ii i)]
def xP(xs:List ab)(s:ab):idxOf xs s=bN (fun x=>x==s) xs:=by
 unfold idxOf bN
 grind
structure MH where
 ag:Option Addr
 cg:Nat
 ac:Option Addr
 cc:Nat
 hs:List (Nat × Nat)
def Fm(row:List Int)(h:Nat × Nat):Value:=.slice (some ⟨h.1,0,none⟩) row.length h.2
def uB(row:List Int)(h:Nat × Nat):am:=[.v (Fm row h)]
def tE(row:List Int)(h:Nat × Nat):Ob:=.vech 3 1 (cI row) (Fm row h)
def dE(p:Src)(own:List Int)(F:Nat)(H:MH)(s:M):Ob:=.box 64 [strs p.aq,.sl 2 (p.aj.map aW),.sl 3 (p.av.map aD),.sl 5 (p.ah.map aN),ints own,ints s.inp,y4 (F:Nat),
 y4 s.fin,y4 s.why,y4 0,.vec 1 s.out.length,y4 (s.be:Nat),.v (.slice H.ag s.cS.length H.cg),.v (.slice H.ac s.cells.length H.cc),y4 (s.a6:Nat)]
def pK(s:M):Ob:=.vec 3 1 0 (cI s.out)
def rh(H:MH)(s:M):Ob:=.vech 3 1 (cI s.cS) (.slice H.ag s.cS.length H.cg)
def qJ(H:MH)(s:M):Ob:=.vech 29 1 (List.zipWith uB s.cells H.hs) (.slice H.ac s.cells.length H.cc)
def sj(H:MH)(s:M):Ob:=blob (List.zipWith tE s.cells H.hs)
def pr(al:Option Addr)(cl:Nat)(s:M):Ob:=.box 181 [.v (.slice al s.locs.length cl),.v (.bool s.left),y4 s.q5]
def pJ(al:Option Addr)(cl:Nat)(s:M):Ob:=.vech 3 1 (cI s.locs) (.slice al s.locs.length cl)
def mS(p:Src)(own:List Int)(F:Nat)(H:MH)(al:Option Addr)(cl:Nat)(s:M):ap:=[dE p own F H s,pK s,rh H s,qJ H s,sj H s,pr al cl s,pJ al cl s]
section
variable(p:Src)(own:List Int)(F:Nat)(H:MH)(al:Option Addr)(cl:Nat)
def AL(s:M)(c w:Int):GF prog 102 [.loc 0 0,y4 c,y4 w] [dE p own F H s,pK s] (y4 0) [dE p own F H (s.stop c w),pK s]:=by
 unfold dE pK;refine au func102 ntmps102 ?_;exact ay
def ki(s:M):GF prog 231 [.loc 0 0,.loc 2 0] [dE p own F H s,pK s,pr al cl s,pJ al cl s] (.v (.bool s.over)) [dE p own F H s,pK s,pr al cl s,pJ al cl s]:=by
 unfold M.over dE pK pr pJ
 cases h:(s.fin != 0)with
 |true =>
  refine au func231 ntmps231 ?_;exact ay
 |false =>
  refine au func231 ntmps231 ?_;exact ay
variable{p own F H al cl}
def VV{a k j:Nat}{n:Nd}{s t:M}{v:Int}(hn:p.ah[a]?=some n)(N:n.aw[k]?=some (j:Int))(hd:GF prog 176 [.loc 0 0,.loc 5 0,y4 (j:Nat)] (mS p own F H al cl s) (y4 v) (mS p own F H al cl t)) :
  GF prog 229 [.loc 0 0,.loc 5 0,y4 (a:Nat),y4 (k:Nat)] (mS p own F H al cl s) (y4 v) (mS p own F H al cl t):=by
 have z:=cr hn;have w:=ic N;unfold aN at z;unfold mS dE at *;refine au func229 ntmps229 ?_;refine a7 [0,1,2,3,4,5,6] hd ?_;exact aK
def Ek(H:MH)(s:M)(k:Nat)(n:Int):Value:=if s.over=true then .pointer none else if vB (row s k) n=true then .pointer (some ⟨(H.hs.getD k (0,0)).1,n.toNat,none⟩)else .pointer none
def Ej(s:M)(k:Nat)(n:Int):M:=if s.over=true then s else if vB (row s k) n=true then s else s.stop 2 6
theorem wv{s:M}{k:Nat}(h:k<s.cells.length):s.cells[k]?=some (row s k):=by
 grind[row]
theorem MG{a k:Nat}{n:Nd}{C:Ar}{s t:M}{v:Int}(Y:p.aj.length<=1099511627776)(hn:p.ah[a]?=some n)(O:fo p n.s=(k:Int))(N:p.aj[k]?=some C)(G:0<=C.size/\C.size<=2147483647)(j:nN p F t)(X:H.hs.length=p.aj.length)
  (o:GF prog 229 [.loc 0 0,.loc 5 0,y4 (a:Nat),y4 0] (mS p own F H al cl s) (y4 v) (mS p own F H al cl t)) :
  GF prog 226 [.loc 0 0,.loc 5 0,y4 (a:Nat)] (mS p own F H al cl s) (.v (Ek H t k v)) (mS p own F H al cl (Ej t k v)):=by
 have E:=cr hn;have b:=vT N;have m:=sf p n.s Y;have z:bN (fun x:Ar=>x.name==n.s) p.aj=(k:Int):=O;rw[z]at m;have J:=Sl v 0 (C.size-1);have u:=j.rows k C N
 have i:k<t.cells.length:=by rw[j.cells];grind
 have l:(decide ((0:Int)<=v)&&decide (v<=C.size-1))=vB (row t k) v:=by
  grind[vB]
 rw[l]at J;have A:=ki p own F H al cl t;have e:=AL p own F H t 2 6;have W:=wv i
 have w:H.hs[k]?=some (H.hs.getD k (0,0)):=by
  grind
 have R:(List.zipWith uB t.cells H.hs)[k]?=some [.v (.slice (some ⟨(H.hs.getD k (0,0)).1,0,none⟩) (row t k).length (H.hs.getD k (0,0)).2)]:=by
  rw[getElem?_zipWith,W,w];rfl
 have Z:k<(List.zipWith uB t.cells H.hs).length:=(bY R).1
 have T:(List.zipWith uB t.cells H.hs).length=t.cells.length:=by rw[sY,X,<-j.cells,Nat.min_self]
 unfold Ek Ej;generalize H.hs.getD k (0,0)=c at *;unfold aN at E;unfold aW at b
 have S:vB (row t k) v=true->∃q:Nat,v=(q:Int)/\q<(row t k).length:=fun h=>by
  unfold vB at h;simp only[aI,decide_eq_true_eq]at h;exact⟨v.toNat,by omega,by omega⟩
 cases B:t.over with
 |true =>
  rw[B]at A;rw[ak rfl,ak rfl];unfold mS at *;unfold dE at *;refine au func226 ntmps226 ?_;refine za6 ?_;exact aK
 |false =>
  rw[B]at A;refine zbw ?_
  cases r:vB (row t k) v with
  |false =>
   rw[r]at J;refine zbw ?_;unfold mS at *;unfold dE at *;refine au func226 ntmps226 ?_;refine za6 ?_;refine zdG ?_;refine D [0,1] e ?_;exact ay
  |true =>
   rw[r]at J;simp only[if_true];obtain⟨q,rfl,Q⟩:=S r;rw[ik];unfold mS at *;unfold dE qJ at *;refine au func226 ntmps226 ?_;refine za6 ?_;refine zdG ?_;refine GL.q (YG.ZE rfl rfl Q) ?_;exact zc6
end
end Go.Xg
namespace Go.Im
open Go.Xp Go.Sp
section
variable{p:Src}{Yn:Bool}
end
section
variable(p:Src)(l:List T)(Yn:Bool)
end
section
variable{p:Src}{l:List T}{Yn:Bool}
def XJ(hg:Good p l){i:Nat}{t:T}(M:l[i]?=some t):iG t=true:=ea.1 hg.st.k t (bP M)
end
def Kr:∀{l:List T}{k:Nat}{t:T},eK l->l[k]?=some t->gh t
 |[],k,t,h,N=>by simp at N
 |a::l,0,t,h,N=>by grind[eK]
 |a::l,k+1,t,h,N=>by rw[eK]at h;exact Kr (l:=l) h.2 N
open Go.Mn
structure xu(p:Src)(own:List Int)(a:Nat)(t:T)(ls:List ab):Prop where
 st:dM p.ah a t
 ow:tz own a t ls
 ok:ri p t ls
 wf:gh t
 k:iG t=true
 sx:lr t
 len:ls.length<=40
def Gg{p:Src}:∀{l:List T}{ls:List ab}{k:Nat}{t:T},pB p l ls->l[k]?=some t->ri p t (ls++bC (l.take k))
 |[],ls,k,t,_,h=>by simp at h
 |u::l,ls,0,t,h,N=>by
  rw[pB]at h
  grind[bC]
 |u::l,ls,k+1,t,h,N=>by
  rw[pB]at h;have:=Gg h.2 (show l[k]?=some t by grind)
  grind[bC]
theorem D2:∀(l:List T)(k:Nat),(bC (l.take k)).length<=(bC l).length
 |[],k=>by simp
 |t::l,0=>by simp[ab,bC]
 |t::l,k+1=>by
  rw[List.take_succ_cons,bC,bC,br,br];have:=D2 l k;omega
def J0{p:Src}:∀{l:List T}{ls:List ab}{k:Nat}{t:T},l[k]?=some t->(jl p l ls)[k]?=some (uO p t (ls++bC (l.take k)))
 |[],ls,k,t,h=>by simp at h
 |u::l,ls,0,t,N=>by
  cases N;simp[jl,uO,ab,bC]
 |u::l,ls,k+1,t,N=>by
  rw[jl,List.getElem?_cons_succ,J0 (show l[k]?=some t by grind),List.take_succ_cons,bC,<-dP]
def UL:∀{l:List T}{k:Nat}{t:T},xS l=true->l[k]?=some t->iG t=true:=fun{l}{k}{t}h N=>by
 grind[qd,ea,bP]
section
variable{p:Src}{own:List Int}{a:Nat}{n:Nd}{l:List T}{ls:List ab}
theorem xu.kid(h:xu p own a (.mk n l) ls)(m:bU (.mk n l)=false){k:Nat}{u:T}(M:l[k]?=some u) :
  xu p own (a+1+aM (l.take k)) u (ls++bC (l.take k))/\n.aw[k]?=some ((a+1+aM (l.take k):Nat):Int)/\(jl p l ls)[k]?=some (uO p u (ls++bC (l.take k))):=by
 have⟨o,b,G,C,e,q,O⟩:=h;rw[dM]at o;rw[tz]at b;rw[ri]at G;rw[gh]at C;rw[iG,aI]at e;rw[lr]at q;have N:=qw (n:=a+1) M;rw[<-o.2.1]at N;refine⟨⟨dn.ix l (a+1) k u o.2.2 M,b.2.at_ M,Gg (G.2 m) M,Kr C.2.2 M,UL e.2 M,Kf q.2 M,?_⟩,N,J0 M⟩;have S:=CA l ls (G.2 m) C.2.2 O
 grind[D2,br]
theorem xu.node(h:xu p own a (.mk n l) ls):p.ah[a]?=some n/\own[a]?=some (w9 n ls)/\bG p (.mk n l) ls=0/\eG n.ai l.length=true/\YM n/\n.aw.length=l.length:=by
 have⟨o,b,G,C,e,q,O⟩:=h;rw[dM]at o
 simp_all[tz,ri,iG,aI,lr,dw]
end
structure MW(p:Src)(l:List T)(own:List Int)(F:Nat)(H:Go.Xg.MH):Prop where
 w:cU p<=1048576
 gd:eu p=true
 gl:Good p l
 ow:∀(i:Nat)f t,p.av[i]?=some f->l[i]?=some t->tz own f.body.toNat t f.params
 F:F<=20000
 hs:H.hs.length=p.aj.length
end Go.Im
namespace Go.Xg
open Go.RowKit Go.Xw Go.MapKept
class aai (P:Program) (t:TypeId):Prop where
 und:∃k e,P.underlying t=some (.map k e)/\P.underlying k=some (.int .i64)/\(P.info? e).bind (·.zero)=some (ii 0)
section
variable{P:Program}{w:World}{t:TypeId}[hT:aai P t]{f:Int->Option Int}{b:Nat}{o:Obj}
end
section
variable{P:Program}{m:Nat}{Q:dN}{fr:am}{Γ:ap}{ops:Array Oper}{rest:List Oper}{d:Option Tmp}{op:Op}{ty:TypeId}{pos:String}{af:Array Edge}
def YG.min{x y:Operand}{Z e:TypeId}{a b:Int}(hx:bf fr x=y4 a)(B:bf fr y=y4 b):YG P (.call ⟨.builtin .min,#[x,y],#[Z,e]⟩) fr Γ (y4 (if b<a then b else a)) :=
 YG.v2 hx B fun l w h k=>fun d ty pos af=>by simp[execOp,resolve,invoke,builtin,Builtin.min_,Builtin.min2,h,k]
theorem YG.max{x y:Operand}{Z e:TypeId}{a b:Int}(hx:bf fr x=y4 a)(B:bf fr y=y4 b):YG P (.call ⟨.builtin .max,#[x,y],#[Z,e]⟩) fr Γ (y4 (if a<b then b else a)) :=
 YG.v2 hx B fun l w h k=>fun d ty pos af=>by simp[execOp,resolve,invoke,builtin,Builtin.max_,Builtin.max2,h,k]
end
end Go.Xg
namespace Go.Xg
open Go.RowKit Go.Xw Go.Proofs Tryz Go.Im Go.Mn
open Go.Xp (Nd T aM dw)
open Go.Sp (Src)
attribute [local irreducible] GW GL GO YG GC GA bo bq
theorem uP:∀(l:List Int)(k:Nat)(x:Int),df (cI l) k 0 (y4 x)=cI (l.set k x)
 |[],k,x=>rfl
 |a::l,0,x=>rfl
 |a::l,k+1,x=>by
  show[y4 a]::df (cI l) k 0 (y4 x)=_;rw[uP l k x];rfl
section
variable{p:Src}{l:List T}{own:List Int}{F:Nat}{H:MH}{al:Option Addr}{cl:Nat}
theorem Pg{a k:Nat}{s:M}(R:own[a]?=some (k:Int))(N:k<s.locs.length)(x:Int) :
  GF prog 299 [.loc 0 0,.loc 5 0,y4 (a:Nat),y4 x] (mS p own F H al cl s) (.tup []) (mS p own F H al cl { s with locs:=s.locs.set k x }):=by
 have o:=ic R;have O:(cI s.locs)[k]?=some [.v (ii s.locs[k])]:=ic (cK N)
 have m:k<(cI s.locs).length:=by grind
 have S:(cI s.locs).length=s.locs.length:=ct _
 have T:decide ((0:Int)<=(k:Int))=true:=by simp
 have e:mS p own F H al cl { s with locs:=s.locs.set k x }=[dE p own F H s,pK s,rh H s,qJ H s,sj H s,pr al cl s,.vech 3 1 (df (cI s.locs) k 0 (y4 x)) (.slice al s.locs.length cl)]:=by
  rw[uP];unfold mS pr pJ;simp only[length_set];rfl
 rw[e];unfold mS dE pr pJ;refine au func299 ntmps299 ?_;refine pP ?_;exact zcg
theorem Yv{a k:Nat}{o:Int}{n:Nd}{s:M}(hg:p.aq.length<=1099511627776)(hn:p.ah[a]?=some n)(R:own[a]?=some o)(A:o<0)(hx:bN (fun x=>x==n.s) p.aq=(k:Int))(N:k<s.cS.length)(x:Int) :
  GF prog 299 [.loc 0 0,.loc 5 0,y4 (a:Nat),y4 x] (mS p own F H al cl s) (.tup []) (mS p own F H al cl { s with cS:=s.cS.set k x }):=by
 have r:=ic R;have w:=cr hn;have i:=gO p.aq n.s hg;rw[xP,hx]at i;have O:(cI s.cS)[k]?=some [.v (ii s.cS[k])]:=ic (cK N)
 have m:k<(cI s.cS).length:=by grind
 have S:(cI s.cS).length=s.cS.length:=ct _
 have T:decide ((0:Int)<=o)=false:=by grind
 have e:mS p own F H al cl { s with cS:=s.cS.set k x }=[dE p own F H s,pK s,.vech 3 1 (df (cI s.cS) k 0 (y4 x)) (.slice H.ag s.cS.length H.cg),qJ H s,sj H s,pr al cl s,pJ al cl s]:=by
  rw[uP];unfold mS dE rh;simp only[length_set];rfl
 rw[e];unfold aN at w;unfold mS dE rh;refine au func299 ntmps299 ?_;refine aV (aL 0 19 (.q 20 (.a 19 (.q 21 (.a 22 .nil))))) ?_;refine ax ?_;refine aP [] i ?_;refine OA rfl rfl ?_;refine GL.xr rfl rfl rfl aQ rfl rfl rfl rfl ?_;refine zaO ?_;simp
def iu(p:Src)(own:List Int)(F:Nat)(H:MH)(al:Option Addr)(cl:Nat)(a k:Nat)(s t:M)(v:Int):Prop :=
 GF prog 229 [.loc 0 0,.loc 5 0,y4 (a:Nat),y4 (k:Nat)] (mS p own F H al cl s) (y4 v) (mS p own F H al cl t)
section
variable{a:Nat}{n:Nd}
theorem zM{s t:M}{v:Int}(hn:p.ah[a]?=some n)(j:iu p own F H al cl a 0 s t v)(A:t.over=true) :
  GF prog 230 [.loc 0 0,.loc 5 0,y4 (a:Nat)] (mS p own F H al cl s) (y4 0) (mS p own F H al cl t):=by
 have w:=cr hn;have o:=ki p own F H al cl t;rw[A]at o;unfold iu at j;unfold aN at w;unfold mS at *;unfold dE at *;refine au func230 ntmps230 ?_;refine a7 [0,1,2,3,4,5,6] j ?_;refine I ?_;refine a7 [0,1,5,6] o ?_;exact aK
theorem zN{s t u:M}{v w:Int}(hn:p.ah[a]?=some n)(j:iu p own F H al cl a 0 s t v)(A:t.over=false)(J:(n.s=[124,124]->v=0)/\(n.s=[38,38]->v≠0))(m:iu p own F H al cl a 1 t u w)(O:u.over=true) :
  GF prog 230 [.loc 0 0,.loc 5 0,y4 (a:Nat)] (mS p own F H al cl s) (y4 0) (mS p own F H al cl u):=by
 have B:=cr hn;have o:=ki p own F H al cl t;have b:=ki p own F H al cl u;rw[A]at o;rw[O]at b;unfold iu at j m;unfold aN at B;unfold mS at *;unfold dE at *
 cases q:(n.s==[124,124])with
 |true =>
  have z:(v != 0)=false:=by grind
  have N:(n.s==[38,38])=false:=by grind
  exact zbX
 |false =>
  cases N:(n.s==[38,38])with
  |true =>
   have z:(v==0)=false:=by grind
   exact zbX
  |false =>
   exact zbX
theorem EU{s t:M}{v:Int}(hn:p.ah[a]?=some n)(j:iu p own F H al cl a 0 s t v)(A:t.over=false)(J:n.s=[124,124]/\v≠0\/n.s=[38,38]/\v=0) :
  GF prog 230 [.loc 0 0,.loc 5 0,y4 (a:Nat)] (mS p own F H al cl s) (y4 (oT (v != 0))) (mS p own F H al cl t):=by
 have B:=cr hn;have o:=ki p own F H al cl t;rw[A]at o;have i:=sP (v != 0);unfold iu at j;unfold aN at B;unfold mS at *;unfold dE at *
 rcases J with⟨q,N⟩|⟨q,N⟩
 ·have w:(v != 0)=true:=by grind
  have G:(n.s==[124,124])=true:=by grind
  exact zcb
 ·have w:(v != 0)=false:=by grind
  have z:(v==0)=true:=by grind
  have G:(n.s==[38,38])=true:=by grind
  have E:(n.s==[124,124])=false:=by grind
  exact zcb
theorem EV{s t u:M}{v w:Int}(hn:p.ah[a]?=some n)(j:iu p own F H al cl a 0 s t v)(A:t.over=false)(J:n.s=[124,124]/\v=0\/n.s=[38,38]/\v≠0)(m:iu p own F H al cl a 1 t u w)(O:u.over=false) :
  GF prog 230 [.loc 0 0,.loc 5 0,y4 (a:Nat)] (mS p own F H al cl s) (y4 (oT (w != 0))) (mS p own F H al cl u):=by
 have B:=cr hn;have o:=ki p own F H al cl t;rw[A]at o;have b:=ki p own F H al cl u;rw[O]at b;have i:=sP (w != 0);unfold iu at j m;unfold aN at B;unfold mS at *;unfold dE at *
 rcases J with⟨q,N⟩|⟨q,N⟩
 ·have z:(v != 0)=false:=by grind
  have G:(n.s==[124,124])=true:=by grind
  have E:(n.s==[38,38])=false:=by grind
  exact zbe
 ·have z:(v==0)=false:=by grind
  have G:(n.s==[38,38])=true:=by grind
  have E:(n.s==[124,124])=false:=by grind
  exact zbe
theorem Qn{s t u:M}{v w:Int}(hn:p.ah[a]?=some n)(j:iu p own F H al cl a 0 s t v)(A:t.over=false)(J:n.s∈rn)(m:iu p own F H al cl a 1 t u w)(N:u.over=false) :
  GF prog 230 [.loc 0 0,.loc 5 0,y4 (a:Nat)] (mS p own F H al cl s) (y4 (if(rm n.s v w).2≠0 then 0 else(rm n.s v w).1)) (mS p own F H al cl (if(rm n.s v w).2≠0 then u.stop 2 (rm n.s v w).2 else u)):=by
 have z:=cr hn;have o:=ki p own F H al cl t;rw[A]at o;have b:=ki p own F H al cl u;rw[N]at b;have i:=KQ n.s v w J;have e:=AL p own F H u 2 (rm n.s v w).2
 have G:(n.s==[124,124])=false:=by
  cases h:(n.s==[124,124])with
  |false=>rfl
  |true=>rw[show n.s=[124,124] by grind]at J;revert J;decide
 have E:(n.s==[38,38])=false:=by
  cases h:(n.s==[38,38])with
  |false=>rfl
  |true=>rw[show n.s=[38,38] by grind]at J;revert J;decide
 generalize(rm n.s v w).1=x at *;generalize(rm n.s v w).2=c at *;unfold iu at j m;unfold aN at z;unfold mS at *;unfold dE at *
 cases W:(c != 0)with
 |true =>
  rw[ak zff,ak zff];refine au func230 ntmps230 ?_;refine zag ?_;refine a7 [0,1,5,6] b ?_;refine I ?_;refine D [] i ?_;refine D [0,1] e ?_;exact ay
 |false =>
  rw[ae zff,ae zff];exact zbe
end
end
end Go.Xg
namespace Go.Mn
open Go.Xp (ab bL)
def mH(O:Op)(F:Nat)(B:Nat->R)(x:Int)(s':M)(K:List Int->M->Prop):Nat->List R->List Int->M->Prop
 |_,[],T,s=>K T s
 |0,_::_,_,_=>False
 |g+1,r::l,T,s=>∃v t,ev O F B g r s=some (v,t)/\(t.over=true->x=0/\s'=t)/\(t.over=false->mH O F B x s' K g l (T++[v]) t)
section
variable{O:Op}{F:Nat}{B:Nat->R}{x:Int}{s':M}{K:List Int->M->Prop}
theorem C9:∀(g:Nat)(l:List R)(T:List Int)(s:M)(args:List Int)(t:M),rf O F B g l T s=some (args,t)->s.over=false->(t.over=true->x=0/\s'=t)->(t.over=false->K args t)->mH O F B x s' K g l T s
 |0,l,T,s,args,t,h,G,o,b=>by grind[rf]
 |g+1,[],T,s,args,t,h,G,o,b=>by
  grind[rf,Option.some.injEq,Prod.mk.injEq,mH]
 |g+1,r::l,T,s,args,t,h,G,o,b=>by
  simp only[rf]at h;have⟨v,u,w,S⟩:=c8 h;rw[mH];refine⟨v,u,w,fun N=>?_,fun N=>?_⟩
  ·grind
  ·rw[ae zff]at S;exact C9 g l _ u args t S N o b
end
end Go.Mn
namespace Go.Im
open Go.Xp Go.Sp Go.Mn
def xt(p:Src)(F:Nat)(B:Nat->R)(G:Nat)(n:Nd)(x:Int)(s':M)(args:List Int)(t:M):Prop :=
 (n.s=jw/\((t.inp=[]/\x = -1/\s'=t)\/∃a r,t.inp=a::r/\x=bL a/\s'={ t with inp:=r })) \/
 (n.s=jM/\∃v,args=[v]/\x=0/\s'={ t with out:=t.out++[v%4294967296%256] }) \/
 (n.s≠jw/\n.s≠jM/\∃i:Nat,iN p n.s=(i:Int)/\((100<=t.a6/\x=0/\s'=t.stop 5 0)\/(t.a6<100/\∃g w u,g<=G/\ev qP F B g (B i) (t.enter args)=some (w,u)/\x=u.q5/\s'=t.leave u)))
def Ru{p:Src}{F:Nat}{B:Nat->R}{g:Nat}{n:Nd}{l:List T}{ls:List ab}{s s':M}{x:Int}(C:n.ai=4)(o:n.s≠dY)(A:bG p (.mk n l) ls=0)(G:s.over=false)(h:cQ qP F B g (qS p n l ls (jl p l ls)) s=some (x,s')) :
  ∃Y,Y<=g/\mH qP F B x s' (xt p F B g n x s') Y (jl p l ls) [] s:=by
 cases g with
 |zero=>grind[cQ]
 |succ g =>
 unfold bG at A;rw[ae (show ¬(T.mk n l).n.ai=13 by grind[T.n]),ae (show ¬((T.mk n l).n.ai=2\/(T.mk n l).n.ai=7) by grind[T.n]),ae (show ¬((T.mk n l).n.ai=3\/(T.mk n l).n.ai=8) by grind[T.n]),ak (show(T.mk n l).n.ai=4 from C)]at A;unfold dv bU at A;simp only[show(T.mk n l).n=n from rfl,show(T.mk n l).aw=l from rfl]at A;rw[ae zff]at A
 have k:gD p n.s ≠ -1:=fun e=>by omega
 have c:gD p n.s=(l.length:Int):=by
  omega
 unfold qS at h;rw[ae (show ¬n.ai=1 by omega),ae (show ¬n.ai=2 by omega),ae (show ¬n.ai=3 by omega),ak C,ae o]at h
 by_cases X:n.s=jw
 ·rw[ak X]at h;have N:l=[]:=ll (by grind[gD]);subst N;refine⟨g+1,aY _,?_⟩;rw[jl,mH];refine .inl ⟨X,?_⟩;simp only[cQ]at h
  cases j:s.inp with
  |nil =>
   grind
  |cons a r =>
   rw[j]at h;simp only[Option.some.injEq,Prod.mk.injEq]at h;exact .inr ⟨a,r,rfl,h.1.symm,h.2.symm⟩
 rw[ae X]at h
 by_cases W:n.s=jM
 ·rw[ak W]at h
  have N:l.length=1:=by grind[gD]
  obtain⟨a,rfl⟩:∃a,l=[a]:=by
   match l,N with
   |[a],_=>simp
  rw[jl,jl]at h |-;simp only[cQ,r0,List.getElem?_cons_zero]at h;have⟨v,t,z,S⟩:=c8 h;refine⟨g+1,aY _,?_⟩;rw[mH];refine⟨v,t,z,fun Q=>?_,fun Q=>?_⟩
  ·grind
  grind[mH,qP,xt]
 rw[ae W]at h;simp only[cQ]at h;have⟨args,t,z,S⟩:=c8 h
 refine⟨g,Nat.le_succ _,C9 (x:=x) (s':=s') (K:=xt p F B (g+1) n x s') g _ _ _ _ _ z G (fun Q=>by
  grind) (fun Q=>by
  rw[ae zff]at S
  have m:∃i:Nat,iN p n.s=(i:Int):=by
   unfold gD at k;rw[ae X,ae zff]at k;unfold iN bN
   grind
  have⟨i,j⟩:=m;refine .inr (.inr ⟨X,W,i,j,?_⟩);rw[j,ik]at S
  by_cases Z:100<=t.a6
  ·grind
  ·rw[ae Z]at S;have⟨w,u,q,E⟩:=c8 S
   grind)⟩
end Go.Im
namespace Go.Xg
open Go.RowKit Go.Xw Go.Proofs Tryz Go.Im Go.Mn
open Go.Xp (Nd T)
open Go.Sp (Src)
attribute [local irreducible] GW GL GO YG GC GA bo bq
def mC(p:Src)(own:List Int)(F:Nat)(H:MH)(s:M)(x:Ob):ap:=[dE p own F H s,pK s,rh H s,qJ H s,sj H s,x]
def Az(p:Src)(own:List Int)(F:Nat)(H:MH)(i:Nat)(args:List Int)(s s':M)(x:Int):Prop:=∀(c:Option Addr)(T:Nat),
 GC prog 104 [.loc 0 0,y4 (i:Nat),.v (.slice c args.length T)] (mC p own F H s (.vech 3 1 (cI args) (.slice c args.length T))) fun g k=>g=y4 x/\∃o,k=mC p own F H s' o
section
variable{p:Src}{l:List T}{own:List Int}{F:Nat}{H:MH}
theorem MC{i:Nat}{args:List Int}{s:M}(hd:100<=s.a6):Az p own F H i args s (s.stop 5 0) 0:=fun c T=>by
 have t:decide ((100:Int)<=(s.a6:Int))=true:=decide_eq_true V;have e:=AL p own F H s 5 0;unfold mC dE at *;refine au func104 ntmps104 ?_;refine D [0,1] e ?_;refine nq ?_;exact qc (n:=6) rfl zfg rfl (ek rfl) rfl rfl ⟨rfl,_,rfl⟩
def Rm(o:Option Addr)(Q:Nat)(s:M)(args:List Int):mS p own F H o Q (s.enter args)=[dE p own F H { s with a6:=s.a6+1 },pK s,rh H s,qJ H s,sj H s,
  .box 181 [.v (.slice o (args.length+40) Q),.v (.bool false),y4 0],.vech 3 1 (cI args++List.replicate 40 [y4 0]) (.slice o (args.length+40) Q)]:=by
 unfold mS pr pJ M.enter;simp only[br,length_replicate,cI,gJ,List.map_replicate];rfl
def IG{i:Nat}{f:Go.Sp.Fn}{args:List Int}{s u:M}{w:Int}(hf:p.av[i]?=some f)(j:0<=f.body)(hd:s.a6<100)(ha:args.length<=1048576)(N:u.a6=s.a6+1)
  (G:∀o Q,GF prog 176 [.loc 0 0,.loc 5 0,y4 (f.body.toNat:Nat)] (mS p own F H o Q (s.enter args)) (y4 w) (mS p own F H o Q u)):Az p own F H i args s (s.leave u) u.q5:=fun c T=>by
 have t:decide ((100:Int)<=(s.a6:Int))=false:=decide_eq_false V;have A:=x9 hf;obtain⟨b,m⟩:∃b:Nat,f.body=(b:Int):=⟨f.body.toNat,by omega⟩;rw[m,ik]at G;unfold aD at A;rw[m]at A;have z:(cI args).length=args.length:=ct _
 have e:((u.a6-1:Nat):Int)=(u.a6:Int)-1:=by omega
 unfold mC dE;refine au func104 ntmps104 ?_;refine GL.Zd 5 (q:=40) rfl rfl rfl z aR rfl ⟨by omega,by omega⟩ ?_;intro o Q;refine zb0 ?_;have G:=G o Q;rw[Rm]at G;unfold dE mS at G;refine a7 [0,1,2,3,4,6,5] G ?_;refine zd1 ?_;refine qc (n:=6) rfl zfg rfl (ek rfl) rfl rfl ⟨rfl,pJ o Q u,?_⟩;unfold M.leave;simp only[e];rfl
end
end Go.Xg
set_option maxHeartbeats 8000000
namespace Go.Im
open Go.Xp Go.Sp Go.Mn
def BZ{p:Src}{s:ab}(h:0<=fo p s):∃(k:Nat)(a:Ar),fo p s=(k:Int)/\p.aj[k]?=some a:=by
 have o:=zV h;refine⟨(fo p s).toNat,_,by omega,cK o⟩
def B0{p:Src}{l:List T}(h:Good p l){k:Nat}{a:Ar}(ha:p.aj[k]?=some a):0<=a.size/\a.size<=2147483647:=by
 have:=ea.1 h.st.aj a (bP ha)
 exact zeT
end Go.Im
namespace Go.Xg
open Go.RowKit Go.Xw Go.Proofs Tryz Go.Im Go.Mn
open GV (U)
open Go.Xp (Nd T Ar)
open Go.Sp (Src)
attribute [local irreducible] GW GL GO YG GC GA bo bq
section
variable{p:Src}{l0:List T}{own:List Int}{F:Nat}{H:MH}{al:Option Addr}{cl:Nat}
theorem Ly(W:MW p l0 own F H){a:Nat}{n:Nd}{l:List T}{ls:List ab}(m:xu p own a (.mk n l) ls)(N:n.ai=4)(B:n.s=dY)(s:M) :
  GF prog 227 [.loc 0 0,.loc 5 0,y4 (a:Nat)] (mS p own F H al cl s) (y4 (sX p (ke (.mk n l)).s)) (mS p own F H al cl s):=by
 have⟨⟨a1,Z⟩,⟨b1,b2⟩,⟨c1,c2⟩,⟨d1,d2⟩⟩:=gn p;have hw:=W.w;obtain⟨S,-,O,-,-,-⟩:=m.node;have d:=m.st;obtain⟨k,e,-,-,j,-,-⟩:=CM m.wf O N B;have e:l=[k]:=e;subst e;rw[dM]at d;obtain⟨-,r,c⟩:=d;have⟨b,Y⟩:=k;rw[dn,dM]at c;have Q:=c.1.1;have o:ke (.mk n [.mk b Y])=b:=rfl;rw[o];have j:0<=fo p b.s:=j;have⟨q,C,E,G⟩:=BZ j;have z:=sf p b.s V;have J:bN (fun x:Ar=>x.name==b.s) p.aj=(q:Int):=E;rw[J]at z
 have X:sX p b.s=C.size:=by grind[sX]
 rw[X];have A:=cr S;have u:=cr Q;have t:=vT G
 have R:(n.aw.map fun i=>[GV.v (ii i)])[0]?=some [y4 ((a+1:Nat):Int)]:=by rw[r];rfl
 unfold aN at A u;rw[B]at A;unfold aW at t;unfold mS dE;refine au func227 ntmps227 ?_;refine aV (aL 0 21 (.a 21 (aL 22 4 .nil))) ?_;refine ax ?_;refine aP [] z ?_;exact aK
def Vk(s:M)(x:Int):mS p own F H al cl { s with out:=s.out++[x] }=[.box 64 [strs p.aq,.sl 2 (p.aj.map aW),.sl 3 (p.av.map aD),.sl 5 (p.ah.map aN),ints own,ints s.inp,y4 (F:Nat),
 y4 s.fin,y4 s.why,y4 0,.vec 1 (s.out.length+1),y4 (s.be:Nat),.v (.slice H.ag s.cS.length H.cg),.v (.slice H.ac s.cells.length H.cc),y4 (s.a6:Nat)],.vec 3 1 0 (cI s.out++[[y4 x]]),rh H s,qJ H s,sj H s,pr al cl s,pJ al cl s]:=by
 unfold mS dE pK;simp only[br,List.length_singleton,cI,gJ,List.map_cons,List.map_nil];rfl
theorem U2(W:MW p l0 own F H){a:Nat}{n:Nd}{l:List T}{ls:List ab}{G g:Nat}{s s':M}{x:Int}{B:Nat->R}(hN:xu p own a (.mk n l) ls)(h4:n.ai=4)(hz:n.s≠dY)
  (acm:∀(k:Nat)(r:R)(s t:M)(v:Int)(e:Nat),e<g->(jl p l ls)[k]?=some r->nN p F s->s.over=false->ev qP F B e r s=some (v,t)->iu p own F H al cl a k s t v)
  (C:∀(i:Nat)(args:List Int)(t:M)(e:Nat)(w:Int)(u:M),e<=G->t.over=false->t.a6<100->args.length<=1048576->nN p F t->iN p n.s=(i:Int)->ev qP F B e (B i) (t.enter args)=some (w,u)->Az p own F H i args t (t.leave u) u.q5)
  (h:mH qP F B x s' (xt p F B G n x s') g (jl p l ls) [] s)(hm:nN p F s)(hs:s.over=false) :
  GF prog 227 [.loc 0 0,.loc 5 0,y4 (a:Nat)] (mS p own F H al cl s) (y4 x) (mS p own F H al cl s'):=by
 have⟨⟨a1,a2⟩,⟨b1,b2⟩,⟨c1,c2⟩,⟨d1,d2⟩⟩:=gn p;have hw:=W.w;have hF:=W.F;obtain⟨hn,-,hf,-,-,zr⟩:=hN.node;have hr:=cr hn;have vy:=(d2 n (bP hn)).2;have hz':(n.s==[115,105,122,101])=false:=beq_eq_false_iff_ne.2 (show n.s≠[115,105,122,101]from hz);have xo:=ub p l ls;have J:(n.aw.map fun i=>[GV.v (ii i)]).length=n.aw.length:=ct _;unfold aN at hr
 have z:∀s,mS p own F H al cl s=[dE p own F H s,pK s,rh H s,qJ H s,sj H s,pr al cl s,pJ al cl s]:=fun _=>rfl
 rw[z s];unfold dE;refine dc func227 ntmps227 ?_;refine y9 ?_;refine GW.wk (Wk.gz 3 1) ?_;refine zbc ?_;refine GW.block ?_
 refine GW.range (n.aw.map fun i=>[GV.v (ii i)]).length (fun k fr Γ=>∃(e:Nat)(c:List Int)(d:M)(O:Option Addr)(Q:Nat),e<=g/\mH qP F B x s' (xt p F B G n x s') e ((jl p l ls).drop k) c d/\nN p F d/\d.over=false/\c.length=k /\
  fr=[.loc 0 0,.loc 5 0,y4 (a:Nat),U,U,U,U,.loc 7 0,.v (.slice O k Q),U,U,U,U,U,U,U,U,U,U,U,U,U,U,U,U,U,U,U,U,U,U,U,U,U,U,U,U,U,U,U,U,U,U,U,U,U,U,U,ints n.aw,y4 ((n.aw.map fun i=>[GV.v (ii i)]).length:Int),y4 (k:Nat),U,U,U,U,U,U,U,U,U,U,U,U,U,U,U,U,U,U,U,U,U,U,U,U,U,U,U,U,U,U,U,U,U,U,U,U,U,U,U,U,U,U,U,U,U,U,U,U,U,U,U,U,U,U,U,U,U,U,U,U,U,U,U,U,U,U,U,U]/\Γ=[dE p own F H d,pK d,rh H d,qJ H d,sj H d,pr al cl d,pJ al cl d,.box 82 [y4 n.ai,y4 n.at_,y4 n.n,.v (sv n.s),ints n.aw],.vech 3 1 (cI c) (.slice O k Q)]) ?_ V ?_ ?_ ?_
 ·exact⟨_,_,Wk.aZ az,g,[],s,none,0,aY _,h,hm,hs,rfl,rfl,rfl⟩
 ·rintro k _ _⟨e,c,d,O,Q,-,-,-,-,-,rfl,rfl⟩;exact dO
 ·rintro k _ _ N⟨e,c,d,O,Q,xO,E,j,hsk,m,rfl,rfl⟩;rw[J,zr,<-xo]at N;have NS:(jl p l ls)[k]?=some (jl p l ls)[k]:=cK N;rw[j3 N]at E
  cases e with
  |zero=>rw[mH]at E;grind
  |succ e =>
  rw[mH]at E;have⟨v,t,he,Xu,Xv⟩:=E;have hv:=acm k _ d t v e V NS j hsk he;have hmt:=j.ev he;have A:=ki p own F H al cl t
  have Ja:(cI c).length=k:=by grind
  unfold iu at hv
  cases ho:t.over with
  |true =>
   obtain⟨rfl,rfl⟩:=Xu ho;rw[ho]at A;unfold mS at *;unfold dE at *;refine zdI ?_;intro X Y;refine dA ?_;refine zaF ?_;exact aK
  |false =>
   have hA2:=Xv ho;rw[ho]at A;unfold mS at *;unfold dE at *;refine zdI ?_;intro X Y;refine dA ?_;refine zaF ?_;refine I ?_;exact⟨rfl,rfl,_,_,Wk.aZ az,e,c++[v],t,X,Y,by omega,hA2,hmt,ho,by simp[m],rfl,by rw[show cI (c++[v])=cI c++[[y4 v]] by simp];rfl⟩
 ·rintro _ _⟨e,c,d,O,Q,xO,E,j,hsk,m,rfl,rfl⟩;rw[J,zr,<-xo,List.drop_length,mH]at E;rw[J]at m |-;refine bh ?_;have hob:=j.out;have hsb:=j.be
  rcases E with⟨S,hh⟩|⟨S,v,rfl,rfl,rfl⟩|⟨S,hp,i,hi,hh⟩
  ·have c1:(n.s==[103,101,116])=true:=beq_iff_eq.2 (show n.s=[103,101,116]from S)
   rcases hh with⟨hi,rfl,rfl⟩|⟨b,r,hi,rfl,rfl⟩
   ·rw[z];unfold dE;rw[hi];exact aK
   ·have c2:(((cI (b::r)).length:Int)==0)=false:=by rfl
    have c3:(cI (b::r))[0]?=some [y4 b]:=rfl;have hW:=fu b;rw[z];unfold dE;rw[hi];refine I ?_;refine D [] hW ?_;refine GL.q (YG.YJ rfl rfl) ?_;exact zc6
  ·have c1:(n.s==[103,101,116])=false:=by rw[show n.s=[112,117,116]from S];decide
   have c2:(n.s==[112,117,116])=true:=beq_iff_eq.2 (show n.s=[112,117,116]from S);have hW:=lu v
   have hb0:0<=v%4294967296:=by omega
   rw[Vk];unfold dE pK;refine I ?_;have c3:(cI [v])[0]?=some [y4 v]:=rfl;have hol:(cI d.out).length=d.out.length:=ct _;refine GW.wk ((Wk.Bw (t:=8) (i:=8) rfl rfl rfl).trans (Wk.aZ (dh:=.loc 0 0::.loc 5 0::y4 (a:Nat)::U::U::U::U::U::.sl 1 (cI [v])::zU 110 []) az)) ?_;simp only[oset];refine aV (aL 0 9 (.a 9 (.q 10 (.a 11 (.a 12 (aL 13 3 (.a 16 .nil))))))) ?_;refine ax ?_;refine aP [] hW ?_;refine zap ?_;refine lV ?_;exact zbv
  ·have c1:(n.s==[103,101,116])=false:=beq_eq_false_iff_ne.2 (show n.s≠[103,101,116]from S);have c2:(n.s==[112,117,116])=false:=beq_eq_false_iff_ne.2 (show n.s≠[112,117,116]from hp);have hFa:=AN p n.s V;have e1:bN (fun x:Go.Sp.Fn=>x.name==n.s) p.av=(i:Int):=hi;rw[e1]at hFa
   have Z:Az p own F H i c d s' x:=by
    grind[MC]
   have hsf:pr al cl s'=pr al cl d/\pJ al cl s'=pJ al cl d:=by
    rcases hh with⟨hd,rfl,rfl⟩|⟨hd,g2,w,u,hg2,Fo,rfl,rfl⟩
    ·exact zah
    ·exact zah
   have Z:=Z O Q;rw[m]at Z;unfold mC at Z;rw[z,hsf.1,hsf.2];unfold dE at *;refine I ?_;refine aV (aL 0 7 (.q 8 (.a 7 (.a 9 (.q 10 .nil))))) ?_;refine ax ?_;refine aP [] hFa ?_;refine OA rfl rfl (GL.EZ (bc:=[0,1,2,3,4,8]) ⟨Z⟩ n9 rfl za ?_);rintro _ _⟨rfl,o,rfl⟩;refine⟨by simp,?_⟩;refine cD ?_;exact zbv
end
section
variable(s:M)(G:List (Nat × Nat))(k q:Nat)(x:Int)
theorem QQ:List.zipWith uB (rM s k (q:Int) x).cells G=List.zipWith uB s.cells G:=by
 refine ext_getElem? fun j=>?_
 unfold rM;rw[getElem?_zipWith,getElem?_zipWith,ik,eY]
 by_cases Y:k=j
 ·subst Y;rw[ak rfl]
  by_cases N:k<s.cells.length
  ·rw[ak N,wv N]
   grind[Fm,row,uB]
  grind
 grind
theorem Ql(h:Nat × Nat)(N:k<s.cells.length)(W:G[k]?=some h):List.zipWith tE (rM s k (q:Int) x).cells G=(List.zipWith tE s.cells G).set k (.vech 3 1 (df (cI (row s k)) q 0 (y4 x)) (Fm (row s k) h)):=by
 refine ext_getElem? fun j=>?_
 unfold rM;rw[getElem?_zipWith,eY,ik,eY,sY,getElem?_zipWith];have O:=(bY W).1
 by_cases Y:k=j
 ·subst Y;rw[ak rfl,ak N,ak rfl,ak V,W];show some (tE _ _)=_;unfold tE Fm
  grind[uP]
 grind
end
def UY{p:Src}{own:List Int}{F:Nat}{H:MH}{al:Option Addr}{cl:Nat}(s:M)(k q:Nat)(x:Int)(h:Nat × Nat)(N:k<s.cells.length)(W:H.hs[k]?=some h):mS p own F H al cl (rM s k (q:Int) x) =
  [dE p own F H s,pK s,rh H s,qJ H s,blob ((List.zipWith tE s.cells H.hs).set k (.vech 3 1 (df (cI (row s k)) q 0 (y4 x)) (Fm (row s k) h))),pr al cl s,pJ al cl s]:=by
 have o:=QQ s H.hs k q x;have b:=Ql s H.hs k q x h N W
 have G:(rM s k (q:Int) x).cells.length=s.cells.length:=by simp[M.cells,rM]
 unfold mS qJ sj dE;rw[o,b,G];rfl
section
variable{p:Src}{l0:List T}{own:List Int}{F:Nat}{H:MH}{al:Option Addr}{cl:Nat}
def G2{a k:Nat}{n:Nd}{h:Nat × Nat}{s t u:M}{c:Value}{v:Int}(hn:p.ah[a]?=some n)(S:n.ai=8)
  (W:GF prog 226 [.loc 0 0,.loc 5 0,y4 (a:Nat)] (mS p own F H al cl s) (.v c) (mS p own F H al cl t))
  (hx:c=.pointer none\/∃q:Nat,c=.pointer (some ⟨h.1,q,none⟩)/\q<(row t k).length/\k<t.cells.length/\H.hs[k]?=some h/\iu p own F H al cl a 1 t u v/\(u.over=false->(row u k).length=(row t k).length/\u.cells.length=t.cells.length))(s':M)
  (o:(c=.pointer none->s'=t)/\∀q:Nat,c=.pointer (some ⟨h.1,q,none⟩)->s'=if u.over=true then u else rM u k (q:Int) v) :
  GF prog 232 [.loc 0 0,.loc 5 0,y4 (a:Nat)] (mS p own F H al cl s) (.tup []) (mS p own F H al cl s'):=by
 have w:=cr hn;unfold aN at w;rw[S]at w
 have r:∀s,mS p own F H al cl s=[dE p own F H s,pK s,rh H s,qJ H s,sj H s,pr al cl s,pJ al cl s]:=fun _=>rfl
 rcases hx with rfl|⟨q,rfl,J,O,X,j,N⟩
 ·have e:=o.1 rfl;subst e;unfold mS at *;unfold dE at *;refine au func232 ntmps232 ?_;refine zc3 ?_;refine bb ?_;exact dF
 ·have e:=o.2 q rfl;have A:=ki p own F H al cl u;unfold iu at j
  cases B:u.over with
  |true =>
   rw[B]at A;rw[B,ak rfl]at e;subst e;unfold mS at *;unfold dE at *;refine au func232 ntmps232 ?_;refine zc3 ?_;refine zad ?_;refine a7 [0,1,2,3,4,5,6] j ?_;refine zaF ?_;exact dF
  |false =>
   rw[B]at A;rw[B,ae aR]at e;have⟨l,z⟩:=N B;subst e;rw[UY u k q v h V X]
   have C:(List.zipWith tE u.cells H.hs)[k]?=some (.vech 3 1 (cI (row u k)) (.slice (some ⟨h.1,0,none⟩) (row u k).length h.2)):=by
    rw[getElem?_zipWith,wv V,X];rfl
   unfold mS at *;unfold dE sj at *;refine au func232 ntmps232 ?_;refine zc3 ?_;refine zad ?_;refine a7 [0,1,2,3,4,5,6] j ?_;refine zaF ?_;refine I ?_;refine GL.q (YG.Ya rfl) ?_;refine bb ?_;refine GL.stQ 4 k rfl rfl C zff rfl rfl ?_;refine dA ?_;exact dF
section
variable{a:Nat}{n:Nd}
def rO{s t s':M}{v:Int}(hn:p.ah[a]?=some n)(N:n.ai=7\/n.ai=13)(j:iu p own F H al cl a 0 s t v)(o:t.over=true->s'=t)
  (b:t.over=false->GF prog 299 [.loc 0 0,.loc 5 0,y4 (a:Nat),y4 v] (mS p own F H al cl t) (.tup []) (mS p own F H al cl s')) :
  GF prog 232 [.loc 0 0,.loc 5 0,y4 (a:Nat)] (mS p own F H al cl s) (.tup []) (mS p own F H al cl s'):=by
 have w:=cr hn;have A:=ki p own F H al cl t;unfold aN at w;unfold iu at j
 cases B:t.over with
 |true =>
  rw[B]at A;have e:=o B;subst e;unfold mS at *;unfold dE at *
  rcases N with N|N
  all_goals
   rw[N]at w;exact zaj
 |false =>
  rw[B]at A;have Q:=b B;unfold mS at *;unfold dE at *
  rcases N with N|N
  all_goals
   rw[N]at w;refine au func232 ntmps232 ?_;refine a7 [0,1,2,3,4,5,6] j ?_;refine zaF ?_;refine I ?_;refine a7 [0,1,2,3,4,5,6] Q ?_;exact dF
def G3{s t:M}{v:Int}(hn:p.ah[a]?=some n)(N:n.ai=11\/n.ai=12)(j:iu p own F H al cl a 0 s t v) :
  GF prog 232 [.loc 0 0,.loc 5 0,y4 (a:Nat)] (mS p own F H al cl s) (.tup []) (mS p own F H al cl (if t.over=true then t else if n.ai=11 then{ t with left:=true,q5:=v }else t)):=by
 have w:=cr hn;have A:=ki p own F H al cl t;unfold aN at w;unfold iu at j
 cases B:t.over with
 |true =>
  rw[B]at A;rw[ak rfl];unfold mS at *;unfold dE at *
  rcases N with N|N
  all_goals
   rw[N]at w;exact zaj
 |false =>
  rw[B]at A;rw[ae aR]
  rcases N with N|N
  ·rw[ak N];rw[N]at w;unfold mS at *;unfold dE pr at *;exact zaj
  ·rw[ae V];rw[N]at w;exact zee
theorem tu{s t s':M}{v:Int}(hn:p.ah[a]?=some n)(O:n.ai=9)(j:iu p own F H al cl a 0 s t v)(o:t.over=true->s'=t)
  (b:t.over=false->(v≠0/\∃w,iu p own F H al cl a 1 t s' w)\/(v=0/\n.aw.length=3/\∃w,iu p own F H al cl a 2 t s' w)\/(v=0/\n.aw.length≠3/\s'=t)) :
  GF prog 232 [.loc 0 0,.loc 5 0,y4 (a:Nat)] (mS p own F H al cl s) (.tup []) (mS p own F H al cl s'):=by
 have C:=cr hn;have A:=ki p own F H al cl t;unfold aN at C;rw[O]at C;unfold iu at j
 cases B:t.over with
 |true =>
  rw[B]at A;have e:=o B;subst e;exact zee
 |false =>
  rw[B]at A
  rcases b B with⟨q,w,l⟩|⟨q,N,w,l⟩|⟨q,N,e⟩
  ·have z:(v != 0)=true:=by grind
   exact zbG
  ·have z:(v != 0)=false:=by grind
   have G:(((n.aw.map fun i=>[GV.v (ii i)]).length:Int)==3)=true:=by grind
   exact zbG
  ·subst e
   have z:(v != 0)=false:=by grind
   have G:(((n.aw.map fun i=>[GV.v (ii i)]).length:Int)==3)=false:=by grind
   exact zee
end
end
section
variable{p:Src}{l0:List T}{own:List Int}{F:Nat}{H:MH}{al:Option Addr}{cl:Nat}{B:Nat->R}
def EI(p:Src)(own:List Int)(F:Nat)(H:MH)(al:Option Addr)(cl:Nat)(B:Nat->R)(a:Nat)(rs:List R)(G:Nat):Prop :=
 ∀(k:Nat)(r:R)(s t:M)(v:Int)(Q:Nat),Q<=G->rs[k]?=some r->nN p F s->s.over=false->ev qP F B Q r s=some (v,t)->iu p own F H al cl a k s t v
def L0{a g:Nat}{n:Nd}{c b:R}{rs:List R}{s s':M}(hn:p.ah[a]?=some n)(Z:n.ai=10)(acm:EI p own F H al cl B a rs g)(X:rs[0]?=some c)(i:rs[1]?=some b)(j:nN p F s)(G:s.over=false)(h:tN qP F B g c b s=some ((),s')) :
  GF prog 232 [.loc 0 0,.loc 5 0,y4 (a:Nat)] (mS p own F H al cl s) (.tup []) (mS p own F H al cl s'):=by
 have O:=cr hn;unfold aN at O;rw[Z]at O
 have r:∀s,mS p own F H al cl s=[dE p own F H s,pK s,rh H s,qJ H s,sj H s,pr al cl s,pJ al cl s]:=fun _=>rfl
 rw[r s];unfold dE;refine au func232 ntmps232 ?_;refine GW.loop (fun z:Nat × M=>z.1) (fun z W e=>W=.loc 0 0::.loc 5 0::y4 (a:Nat)::U::U::U::.loc 7 0::zU 111 []/\e=[dE p own F H z.2,pK z.2,rh H z.2,qJ H z.2,sj H z.2,pr al cl z.2,pJ al cl z.2,.box 82 [y4 10,y4 n.at_,y4 n.n,.v (sv n.s),ints n.aw]]/\z.1<=g/\nN p F z.2/\z.2.over=false/\tN qP F B z.1 c b z.2=some ((),s')) (g,s) ?_ ?_
 ·exact⟨_,_,Wk.aZ az,rfl,rfl,aY _,j,G,h⟩
 ·clear h G j;rintro⟨Q,s⟩_ _⟨rfl,rfl,Y,j,G,h⟩;simp only at Y j G h |-
  cases Q with
  |zero=>simp only[tN]at h;cases h
  |succ Q =>
  rw[tN]at h;have⟨v,t,J,h⟩:=c8 h;have k:=acm 0 c s t v Q V X j G J;have C:=j.ev J;have A:=ki p own F H al cl t;unfold iu at k
  cases E:t.over with
  |true =>
   rw[E]at A;rw[ak E]at h;exact zbO
  |false =>
   rw[E]at A;rw[ae zff]at h
   cases m:(v==0)with
   |true =>
    rw[ak zff]at h;exact zbO
   |false =>
    rw[ae zff]at h;have⟨w,u,T,h⟩:=c8 h;have l:=acm 1 b t u w Q V i C E T;have S:=C.ev T;have d:=ki p own F H al cl u;unfold iu at l
    cases N:u.over with
    |true =>
     rw[N]at d;rw[ak N]at h;simp only[Option.some.injEq,Prod.mk.injEq,true_and]at h;subst h;unfold mS at *;unfold dE at *;refine I ?_;refine zdp ?_;exact dF
    |false =>
     rw[N]at d;rw[ae zff]at h;unfold mS at *;unfold dE at *;refine I ?_;refine zdp ?_;refine I ?_;exact⟨(Q,u),⟨_,_,Wk.aZ az,rfl,rfl,by omega,S,N,h⟩,by simp⟩
theorem Wn{a:Nat}{s:M}(N:F<=s.be):GF prog 176 [.loc 0 0,.loc 5 0,y4 (a:Nat)] (mS p own F H al cl s) (y4 0) (mS p own F H al cl (s.stop 3 0)):=by
 have T:decide (((F:Nat):Int)<=((s.be:Nat):Int))=true:=by grind
 have e:=AL p own F H s 3 0;unfold mS;unfold dE at *;refine au func176 ntmps176 ?_;refine zaP ?_;refine D [0,1] e ?_;exact ay
theorem Wp{a:Nat}{n:Nd}{s:M}(hn:p.ah[a]?=some n)(N:n.ai=1)(O:s.be<F)(Q:F<=20000):GF prog 176 [.loc 0 0,.loc 5 0,y4 (a:Nat)] (mS p own F H al cl s) (y4 n.n) (mS p own F H al cl { s with be:=s.be+1 }):=by
 have T:decide (((F:Nat):Int)<=((s.be:Nat):Int))=false:=by grind
 have w:=cr hn;unfold aN at w;rw[N]at w;unfold mS dE;exact zek
theorem Wo{a k:Nat}{n:Nd}{s:M}(hn:p.ah[a]?=some n)(N:n.ai=2)(O:s.be<F)(Q:F<=20000)(R:own[a]?=some (k:Int))(W:k<s.locs.length) :
  GF prog 176 [.loc 0 0,.loc 5 0,y4 (a:Nat)] (mS p own F H al cl s) (y4 (s.locs.getD k 0)) (mS p own F H al cl { s with be:=s.be+1 }):=by
 have T:decide (((F:Nat):Int)<=((s.be:Nat):Int))=false:=by grind
 have w:=cr hn;have o:=ic R
 have X:decide ((0:Int)<=(k:Int))=true:=by simp
 have hx:(cI s.locs)[k]?=some [y4 (s.locs.getD k 0)]:=ic zff
 have m:k<(cI s.locs).length:=by grind
 have S:(cI s.locs).length=s.locs.length:=ct _;unfold aN at w;rw[N]at w;unfold mS dE pJ pr;exact zek
theorem Un{a k:Nat}{o:Int}{n:Nd}{s:M}(hg:p.aq.length<=1099511627776)(hn:p.ah[a]?=some n)(N:n.ai=2)(O:s.be<F)(Q:F<=20000)(R:own[a]?=some o)(A:o<0)(hx:bN (fun x=>x==n.s) p.aq=(k:Int))(W:k<s.cS.length) :
  GF prog 176 [.loc 0 0,.loc 5 0,y4 (a:Nat)] (mS p own F H al cl s) (y4 (s.cS.getD k 0)) (mS p own F H al cl { s with be:=s.be+1 }):=by
 have T:decide (((F:Nat):Int)<=((s.be:Nat):Int))=false:=by grind
 have w:=cr hn;have q:=ic R
 have X:decide ((0:Int)<=o)=false:=by grind
 have i:=gO p.aq n.s hg;rw[xP,hx]at i;have C:(cI s.cS)[k]?=some [y4 (s.cS.getD k 0)]:=ic zff
 have m:k<(cI s.cS).length:=by grind
 have S:(cI s.cS).length=s.cS.length:=ct _;unfold aN at w;rw[N]at w;unfold mS dE rh;refine au func176 ntmps176 ?_;refine zaP ?_;refine aV (aL 0 12 (.a 12 (aL 13 3 .nil))) ?_;refine ax ?_;refine aP [] i ?_;exact aK
theorem K7{a k q:Nat}{n:Nd}{h:Nat × Nat}{s t:M}{c:Value}(hn:p.ah[a]?=some n)(N:n.ai=3)(O:s.be<F)(Q:F<=20000)
  (W:GF prog 226 [.loc 0 0,.loc 5 0,y4 (a:Nat)] (mS p own F H al cl { s with be:=s.be+1 }) (.v c) (mS p own F H al cl t))(x:Int)
  (hx:c=.pointer none/\x=0\/c=.pointer (some ⟨h.1,q,none⟩)/\q<(row t k).length/\k<t.cells.length/\H.hs[k]?=some h/\x=(row t k).getD q 0) :
  GF prog 176 [.loc 0 0,.loc 5 0,y4 (a:Nat)] (mS p own F H al cl s) (y4 x) (mS p own F H al cl t):=by
 have T:decide (((F:Nat):Int)<=((s.be:Nat):Int))=false:=by grind
 have w:=cr hn;unfold aN at w;rw[N]at w
 rcases hx with⟨rfl,rfl⟩|⟨rfl,J,e,X,rfl⟩
 ·unfold mS at *;unfold dE at *;refine au func176 ntmps176 ?_;refine zaP ?_;refine a7 [0,1,2,3,4,5,6] W ?_;refine I ?_;refine GL.q (YG.X8 rfl rfl) ?_;exact zc6
 ·have C:(List.zipWith tE t.cells H.hs)[k]?=some (.vech 3 1 (cI (row t k)) (.slice (some ⟨h.1,0,none⟩) (row t k).length h.2)):=by
   rw[getElem?_zipWith,wv e,X];rfl
  have hx:(cI (row t k))[q]?=some [y4 ((row t k).getD q 0)]:=ic zff;unfold mS at *;unfold dE sj at *;refine au func176 ntmps176 ?_;refine zaP ?_;refine a7 [0,1,2,3,4,5,6] W ?_;refine I ?_;refine GL.q (YG.X8 rfl rfl) ?_;refine zad ?_;refine GL.q (YG.Ya rfl) ?_;refine bb ?_;refine GL.q (YG.ldQ 4 k rfl rfl C hx) ?_;exact zc6
section
variable{a:Nat}{n:Nd}
theorem IK{s s':M}{x:Int}(hn:p.ah[a]?=some n)(N:n.ai=4)(O:s.be<F)(Q:F<=20000)
  (W:GF prog 227 [.loc 0 0,.loc 5 0,y4 (a:Nat)] (mS p own F H al cl { s with be:=s.be+1 }) (y4 x) (mS p own F H al cl s')) :
  GF prog 176 [.loc 0 0,.loc 5 0,y4 (a:Nat)] (mS p own F H al cl s) (y4 x) (mS p own F H al cl s'):=by
 have T:decide (((F:Nat):Int)<=((s.be:Nat):Int))=false:=by grind
 have w:=cr hn;unfold aN at w;rw[N]at w;exact zbu
theorem Wm{s s':M}{x:Int}(hn:p.ah[a]?=some n)(N:n.ai=6)(O:s.be<F)(Q:F<=20000)
  (W:GF prog 230 [.loc 0 0,.loc 5 0,y4 (a:Nat)] (mS p own F H al cl { s with be:=s.be+1 }) (y4 x) (mS p own F H al cl s')) :
  GF prog 176 [.loc 0 0,.loc 5 0,y4 (a:Nat)] (mS p own F H al cl s) (y4 x) (mS p own F H al cl s'):=by
 have T:decide (((F:Nat):Int)<=((s.be:Nat):Int))=false:=by grind
 have w:=cr hn;unfold aN at w;rw[N]at w;exact zbu
theorem Zj{s t:M}{v:Int}(hn:p.ah[a]?=some n)(N:n.ai=5)(O:s.be<F)(Q:F<=20000)(l:n.s=[45]\/n.s=[33]\/n.s=[126])(j:iu p own F H al cl a 0 { s with be:=s.be+1 } t v) :
  GF prog 176 [.loc 0 0,.loc 5 0,y4 (a:Nat)] (mS p own F H al cl s) (y4 (YV n.s v)) (mS p own F H al cl t):=by
 have T:decide (((F:Nat):Int)<=((s.be:Nat):Int))=false:=by grind
 have w:=cr hn;have J:=PF n.s v l;unfold aN at w;rw[N]at w;unfold iu at j;unfold mS at *;unfold dE at *;refine au func176 ntmps176 ?_;refine zaP ?_;refine aV (aL 0 5 (.a 5 (.a 6 (.q 7 .nil)))) ?_;refine ax ?_;refine PL [0,1,2,3,4,5,6] j ?_;refine ax ?_;refine aP [] J ?_;exact aK
theorem Zi{s s':M}(hn:p.ah[a]?=some n)(Q:7<=n.ai/\n.ai<=13)(N:s.be<F)(O:F<=20000)
  (W:GF prog 232 [.loc 0 0,.loc 5 0,y4 (a:Nat)] (mS p own F H al cl { s with be:=s.be+1 }) (.tup []) (mS p own F H al cl s')) :
  GF prog 176 [.loc 0 0,.loc 5 0,y4 (a:Nat)] (mS p own F H al cl s) (y4 0) (mS p own F H al cl s'):=by
 have T:decide (((F:Nat):Int)<=((s.be:Nat):Int))=false:=by grind
 have w:=cr hn
 have R:(n.ai==1)=false:=by grind
 have S:(n.ai==2)=false:=by grind
 have X:(n.ai==3)=false:=by grind
 have z:(n.ai==4)=false:=by grind
 have d:(n.ai==5)=false:=by grind
 have Y:(n.ai==6)=false:=by grind
 have C:(n.ai==14)=false:=by grind
 unfold aN at w;exact zbu
end
theorem QD{a g:Nat}{n:Nd}{rs:List R}{s s':M}(hn:p.ah[a]?=some n)(W:n.ai=14)(X:s.be<F)(b:F<=20000)(j:n.aw.length=rs.length)(q:n.aw.length<=1048576)(acm:EI p own F H al cl B a rs g)(m:nN p F { s with be:=s.be+1 })(Y:s.over=false)
  (h:qq qP F B g rs { s with be:=s.be+1 }=some ((),s')):GF prog 176 [.loc 0 0,.loc 5 0,y4 (a:Nat)] (mS p own F H al cl s) (y4 0) (mS p own F H al cl s'):=by
 have c:decide (((F:Nat):Int)<=((s.be:Nat):Int))=false:=by grind
 have N:=cr hn;have T:(n.aw.map fun i=>[GV.v (ii i)]).length=n.aw.length:=ct _;unfold aN at N;rw[W]at N
 have r:∀s,mS p own F H al cl s=[dE p own F H s,pK s,rh H s,qJ H s,sj H s,pr al cl s,pJ al cl s]:=fun _=>rfl
 rw[r s];unfold dE;refine au func176 ntmps176 ?_;refine zaP ?_
 refine GW.range (n.aw.map fun i=>[GV.v (ii i)]).length (fun k O Z=>∃(S:Nat)(Q:M),S<=g/\qq qP F B S (rs.drop k) Q=some ((),s')/\nN p F Q/\Q.over=false/\O=[.loc 0 0,.loc 5 0,y4 (a:Nat),U,U,U,U,U,U,U,U,U,U,U,U,U,U,U,U,U,U,U,U,U,U,U,U,U,U,U,U,U,U,U,U,U,U,U,U,U,U,U,U,U,U,U,U,U,U,U,U,U,U,U,U,U,U,U,U,U,U,U,U,U,U,U,U,U,U,U,U,U,U,U,U,U,U,U,U,U,U,U,U,U,U,U,U,U,U,U,U,U,U,U,U,U,U,U,U,U,U,U,U,U,U,U,U,U,U,U,U,U,U,U,ints n.aw,y4 ((n.aw.map fun i=>[GV.v (ii i)]).length:Int),y4 (k:Nat),U,U,U,U,U,U,U,U,U,U,U,U,U,U,U] /\
  Z=[dE p own F H Q,pK Q,rh H Q,qJ H Q,sj H Q,pr al cl Q,pJ al cl Q,.box 82 [y4 14,y4 n.at_,y4 n.n,.v (sv n.s),ints n.aw]]) ?_ V ?_ ?_ ?_
 ·exact⟨_,_,Wk.aZ az,g,{ s with be:=s.be+1 },aY _,h,m,Y,rfl,rfl⟩
 ·rintro k _ _⟨S,Q,-,-,-,-,rfl,rfl⟩;exact dO
 ·rintro k _ _ o⟨S,Q,J,e,w,u,rfl,rfl⟩;rw[T,j]at o;have G:rs[k]?=some rs[k]:=cK o;rw[j3 o]at e
  cases S with
  |zero=>simp only[qq]at e;cases e
  |succ S =>
  rw[qq]at e;have⟨v,t,z,e⟩:=c8 e;have l:=acm k _ Q t v S V G w u z;have E:=w.ev z;have A:=ki p own F H al cl t;unfold iu at l
  cases C:t.over with
  |true =>
   rw[C]at A;rw[ak C]at e;simp only[Option.some.injEq,Prod.mk.injEq,true_and]at e;subst e;unfold mS at *;unfold dE at *;refine I ?_;refine a7 [0,1,2,3,4,5,6] l ?_;refine zaF ?_;exact zc4
  |false =>
   rw[C]at A;rw[ae zff]at e;unfold mS at *;unfold dE at *;refine I ?_;refine a7 [0,1,2,3,4,5,6] l ?_;refine zaF ?_;refine I ?_;exact⟨rfl,rfl,_,_,Wk.aZ az,S,t,by omega,e,E,C,rfl,rfl⟩
 ·rintro _ _⟨S,Q,J,e,w,u,rfl,rfl⟩;rw[T,j,List.drop_length]at e
  cases S with
  |zero=>simp only[qq]at e;cases e
  |succ S =>
  simp only[qq,Option.some.injEq,Prod.mk.injEq,true_and]at e;subst e;refine bh ?_;rw[r];exact aK
end
end Go.Xg
namespace Go.Im
open Go.Xp Go.Sp Go.Mn
variable{p:Src}
def Dk{l:List T}(j:eu p=true)(h:Good p l):∃(i:Nat)(f:Go.Sp.Fn)(t:T),iN p iI=(i:Int)/\u9 p l i f t/\f.params=[]:=by
 have n:p.av.any kd=true:=by
  unfold eu at j;rw[h.st.si]at j;simp only[aI,decide_eq_true_eq]at j;have:=j.2;unfold xj at this;rw[ae (by rw[h.names];decide)]at this;split at this
  ·cases this
  split at this
  ·cases this
  ·rename_i G;simpa using G
 have k:=(Ad h.names).1 n;unfold ly at k
 cases J:p.av.findIdx? (fun f:Go.Sp.Fn=>f.name==iI)with
 |none=>rw[J]at k;cases k
 |some i =>
  rw[J]at k;obtain⟨o,b,-⟩:=List.findIdx?_eq_some_iff_getElem.1 J;have N:=h.len;have m:p.av[i]?=some p.av[i]:=cK o;have M:l[i]?=some (l[i]'zfh):=cK zfh;refine⟨i,_,_,by unfold iN bN;rw[J],h.fn m M,?_⟩;simp only[decide_eq_false_iff_not]at k;unfold iq at k;rw[m]at k;exact ll (by simp only at k;omega)
def Pd{l:List T}{i:Nat}{f:Go.Sp.Fn}{t:T}(hf:p.av[i]?=some f)(M:l[i]?=some t):qR p l i=uO p t f.params:=by unfold qR;rw[hf,M]
end Go.Im
