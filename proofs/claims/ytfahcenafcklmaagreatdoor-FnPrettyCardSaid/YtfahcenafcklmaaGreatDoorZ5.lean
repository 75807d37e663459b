/- Part 5 of proofs that are told in their last texts. -/
import Derived.Test.YtfahcenafcklmaaGreatDoorZ4
open List (all_cons cons_append flatMap_cons length_cons length_nil map_map mem_cons_self mem_singleton nil_append zip_cons_cons)
set_option linter.unusedVariables false
set_option linter.unusedSimpArgs false
set_option maxRecDepth 100000
namespace Go.Im
open Go.Xp Go.Sp
abbrev rn (ts:List Tok):Prop:=∀ t∈ts,Al t
def EF (t:T):Prop:=∃ a:E,a.ok=true/\er t=a.tree
def Kd (l:List T):Prop:=∃ es:List E,E.bW es=true/\aK l=E.trees es
def Sf (ts r:List Tok) (n:Nat):Prop:=∃ pre,ts=pre++r/\n<=pre.length
theorem Sf.nil (ts:List Tok):Sf ts ts 0:=⟨[],rfl,aY _⟩
theorem Sf.one (t:Tok) (ts:List Tok):Sf (t::ts) ts 1:=⟨[t],rfl,aD _⟩
theorem Sf.trans {a b c:List Tok} {n m:Nat} (h:Sf a b n) (k:Sf b c m):Sf a c (n+m):=by
 obtain ⟨p,rfl,h⟩:=h;obtain ⟨q,rfl,k⟩:=k;exact ⟨p++q,by simp,by rw [aJ];omega⟩
theorem Sf.le {a b:List Tok} {n m:Nat} (h:Sf a b n) (k:m<=n):Sf a b m:=by
 obtain ⟨p,rfl,h⟩:=h;exact ⟨p,rfl,by omega⟩
theorem Sf.ok {a b:List Tok} {n:Nat} (h:Sf a b n) (k:rn a):rn b:=by
 obtain ⟨p,rfl,h⟩:=h
 exact fun t ht=>k t (List.mem_append_right _ ht)
theorem Sf.aI {e:Int} {s:ae} {ts r:List Tok} (hs:s≠[]) (h:aI e s ts=.ok r):Sf ts r 1:=by
 obtain ⟨u,rfl,_⟩:=wC hs h;exact .one u r
theorem Sf.sign {s:ae} {ts:List Tok} (hs:s≠[]) (h:sign ts 0=s):Sf ts ts.tail 1:=by
 obtain ⟨u,D,_⟩:=tH hs h;rw [D];exact .one u _
theorem O8 {s:ae} (h:lq s=false):words.contains s=false:=by
 unfold lq at h;rw [xQ] at h
 cases hc:words.contains s with
 | false=>rfl
 | true =>
  rw [mH] at hc
  have:(words++bQ).contains s=true:=by rw [mH];exact List.mem_append_left _ hc
  rw [h] at this;cases this
theorem Vj {t:Tok} (h:Al t) (hk:t.kind=2) (hl:t.s.length<=12):bC t.s=true:=by
 obtain ⟨D,I⟩:=h.name hk;unfold bC;rw [D,O8 I];simpa using hl
theorem Sf.name {e:Int} {s:ae} {ts r:List Tok} (h:name e ts=.ok (s,r)) (ho:rn ts):Sf ts r 1/\bC s=true:=by
 obtain ⟨u,rfl,D,rfl,h3⟩:=Fy h;exact ⟨.one u r,Vj (ho u mem_cons_self) D h3⟩
theorem QO {s:ae} {k:Nat} (h:s∈levels.getD k []):fm s=true:=by
 unfold fm;rw [yK];rw [List.getD_eq_getElem?_getD] at h
 cases hk:levels[k]? with
 | none=>rw [hk] at h;simp at h
 | some l =>
  rw [hk] at h;exact ⟨l,bM hk,by rw [mH];exact h⟩
theorem ju (k a:Int) (s:ae) (l:List T):aQ (one k a s l)=aB l+1:=by unfold one;rw [aQ]
theorem Kd.snoc {l:List T} {t:T} (h:Kd l) (k:EF t):Kd (l++[t]):=by
 obtain ⟨es,D,I⟩:=h;obtain ⟨a,h3,h4⟩:=k
 have key:∀ es:List E,E.bW es=true->E.bW (es++[a])=true/\E.trees (es++[a])=E.trees es++[a.tree]:=by
  intro es
  induction es with
  | nil=>intro _;simp [E.bW,E.trees,h3]
  | cons b es ih =>
   intro h;simp only [E.bW,au] at h;obtain ⟨k1,k2⟩:=ih h.2;simp only [cons_append,E.bW,E.trees,k1,k2,h.1];simp
 exact zdb
def vg:sM->Nat
 | .loop _ _ out=>aQ out
 | _=>0
def ZE:sM->Prop
 | .loop _ _ out=>EF out
 | _=>True
theorem Rw (e:Int):∀ f,(∀ j ts t r,rn ts->ZE j->rd e f j ts=.ok (t,r)->EF t/\∃ n,Sf ts r n/\aQ t<=n+vg j) /\
  (∀ d acc ts l r,rn ts->Kd acc->rd.args e f d acc ts=.ok (l,r)->Kd l/\∃ n,Sf ts r n/\aB l+1<=n+aB acc):=by
 intro f
 induction f with
 | zero=>exact ⟨fun j ts t r _ _ h=>by simp [rd] at h,fun d acc ts l r _ _ h=>by simp [rd.args] at h⟩
 | succ f ih =>
  obtain ⟨ih,xE⟩:=ih;refine ⟨fun j ts t r ho hj h=>?_,fun d acc ts l r ho hj h=>?_⟩
  ·cases j with
   | expr d =>
    rw [rd] at h;split at h
    ·cases h
    ·exact ih (.level 0 (d+1)) ts t r ho trivial h
   | level k d =>
    rw [rd] at h;split at h
    ·exact ih (.operand d) ts t r ho trivial h
    ·split at h
     ·cases h
     ·rename_i out iz hx;obtain ⟨D,n,I,h3⟩:=ih (.level (k+1) d) ts out iz ho trivial hx;obtain ⟨k1,m,k2,k3⟩:=ih (.loop k d out) iz t r (I.ok ho) D h;exact ⟨k1,n+m,I.trans k2,by simp only [vg] at *;omega⟩
   | loop k d out =>
    cases ts with
    | nil=>rw [rd] at h;cases h;exact ⟨hj,0,.nil _,by simp only [vg];omega⟩
    | cons t0 r0 =>
     rw [rd] at h;split at h
     ·rename_i hc;split at h
      ·cases h
      ·rename_i b r1 hx;obtain ⟨⟨b',h0,D⟩,n,I,h3⟩:=ih (.level (k+1) d) r0 b r1 (fun t ht=>ho t (di _ ht)) trivial hx;obtain ⟨o',h4,h5⟩:=hj;have h6:=(Sf.one t0 r0).trans I;obtain ⟨k1,m,k2,k3⟩:=ih (.loop k d (one 6 t0.at_ t0.s [out,b])) r1 t r (h6.ok ho) ⟨.bin t0.s o' b',by simp only [E.ok,QO hc.2,h4,h0];rfl,by rw [dO,aK,aK,aK,h5,D,E.tree]⟩ h;refine ⟨k1,_,h6.trans k2,?_⟩;exact zdg
     ·cases h;exact ⟨hj,0,.nil _,by simp only [vg];omega⟩
   | operand d =>
    cases ts with
    | nil =>
     rw [rd] at h;exact zed
    | cons t0 r0 =>
     rw [rd] at h;split at h
     ·cases h
     ·have Wi:rn r0:=fun t ht=>ho t (di _ ht)
      have xA:=Sf.one t0 r0;split at h
      ·split at h
       ·rename_i hu;split at h
        ·cases h
        ·rename_i a r1 hx;cases h;obtain ⟨⟨a',h0,D⟩,n,I,h3⟩:=ih (.operand (d+1)) r0 a r Wi trivial hx;refine ⟨⟨.un t0.s a',?_,by rw [dO,aK,aK,D,E.tree]⟩,_,xA.trans I,?_⟩
         ·simp only [E.ok,h0]
          rcases hu with hu | hu | hu <;> simp [hu]
         ·exact zdg
       ·split at h
        ·split at h
         ·cases h
         ·rename_i a r1 hx;split at h
          ·cases h
          ·rename_i r2 hm;cases h;obtain ⟨D,n,I,h3⟩:=ih (.expr (d+1)) r0 t r1 Wi trivial hx;exact ⟨D,_,(xA.trans I).trans (Sf.aI ai hm),by simp only [vg] at *;omega⟩
        ·cases h
      ·split at h
       ·rename_i hk;cases h;obtain ⟨k1,k2,k3⟩:=(ho t0 mem_cons_self).num hk;exact ⟨⟨.num t0.n,by simp only [E.ok];simp [k1,k2],by rw [er,aK,E.tree]⟩,1,xA,by simp only [vg,aQ,aB];omega⟩
       ·split at h
        ·cases h
        ·rename_i s r1 cL;obtain ⟨k1,k2⟩:=Sf.name cL ho;split at h
         ·rename_i hb;have k3:=k1.trans (Sf.sign ai hb);split at h
          ·cases h
          ·rename_i a r2 hx;split at h
           ·cases h
           ·rename_i r3 hm;cases h;obtain ⟨⟨a',h0,D⟩,n,I,h3⟩:=ih (.expr (d+1)) _ a r2 (k3.ok ho) trivial hx;refine ⟨⟨.at_ s a',by simp only [E.ok,k2,h0];rfl,by rw [dO,aK,aK,D,E.tree]⟩,_,(k3.trans I).trans (Sf.aI ai hm),?_⟩;exact zdg
         ·split at h
          ·rename_i hb;have k3:=k1.trans (Sf.sign ai hb);split at h
           ·cases h
           ·rename_i l r2 hx;cases h;obtain ⟨⟨es,h0,D⟩,n,I,h3⟩:=xE _ _ _ l r (k3.ok ho) ⟨[],rfl,rfl⟩ hx;refine ⟨⟨.call s es,by simp only [E.ok,k2,h0];rfl,by rw [dO,D,E.tree]⟩,_,k3.trans I,?_⟩;exact zdg
          ·cases h;exact ⟨⟨.name s,by simp only [E.ok,k2],by rw [dO,aK,E.tree]⟩,1,k1,by simp only [vg,ju,aB];omega⟩
  ·rw [rd.args] at h;split at h
   ·rename_i hc;cases h;exact ⟨hj,1,Sf.sign ai hc,by omega⟩
   ·split at h
    ·cases h
    ·rename_i xW hx
     have h0:Sf ts xW 0:=by
      split at hx
      ·cases hx;exact .nil _
      ·exact (Sf.aI ai hx).le (aY _)
     split at h
     ·cases h
     ·rename_i a vJ hy;obtain ⟨D,n,I,h3⟩:=ih (.expr d) xW a vJ (h0.ok ho) trivial hy;have h4:=h0.trans I;obtain ⟨k1,m,k2,k3⟩:=xE _ (acc++[a]) vJ l r (h4.ok ho) (hj.snoc D) h;refine ⟨k1,_,h4.trans k2,?_⟩;simp only [vg,oe,aB] at *;omega
theorem xh {e:Int} {d:Nat} {ts r:List Tok} {t:T} (ho:rn ts) (h:expr e d ts=.ok (t,r)):EF t/\Sf ts r (aQ t):=by
 obtain ⟨D,n,I,h3⟩:=(Rw e _).1 (.expr d) ts t r ho trivial h;exact ⟨D,I.le (by simpa [vg] using h3)⟩
theorem wj {e:Int} {d:Nat} {a b:ae} {ts r:List Tok} {t:T} (ha:a≠[]) (hb:b≠[]) (ho:rn ts) (h:inner e d a b ts=.ok (t,r)):EF t/\Sf ts r (aQ t+2):=by
 unfold inner at h;split at h
 ·cases h
 ·rename_i xW D;have k1:=Sf.aI ha D;split at h
  ·cases h
  ·rename_i t' vJ I;obtain ⟨k2,k3⟩:=xh (k1.ok ho) I;split at h
   ·cases h
   ·rename_i ts3 h3;cases h;exact ⟨k2,((k1.trans k3).trans (Sf.aI hb h3)).le ak⟩
theorem Bg {e:Int} {d:Nat} {ts r:List Tok} {s:ae} {t:T} (ho:rn ts) (h:kW e d ts=.ok ((s,t),r)):bC s=true/\EF t/\Sf ts r (aQ t+3):=by
 unfold kW at h;split at h
 ·cases h
 ·rename_i s' xW D;obtain ⟨k1,k2⟩:=Sf.name D ho;split at h
  ·cases h
  ·rename_i t' vJ I;cases h;obtain ⟨k3,k4⟩:=wj ai ai (k1.ok ho) I;exact ⟨k2,k3,(k1.trans k4).le ak⟩
def SF (t:T):Prop:=∃ a:S,a.ok=true/\er t=a.tree
def Ko (l:List T):Prop:=∃ es:List S,S.bW es=true/\aK l=S.trees es
def BF (t:T):Prop:=∃ l:List S,S.bW l=true/\er t=aZ l
theorem Ko.snoc {l:List T} {t:T} (h:Ko l) (k:SF t):Ko (l++[t]):=by
 obtain ⟨es,D,I⟩:=h;obtain ⟨a,h3,h4⟩:=k
 have key:∀ es:List S,S.bW es=true->S.bW (es++[a])=true/\S.trees (es++[a])=S.trees es++[a.tree]:=by
  intro es
  induction es with
  | nil=>intro _;simp [S.bW,S.trees,h3]
  | cons b es ih =>
   intro h;simp only [S.bW,au] at h;obtain ⟨k1,k2⟩:=ih h.2;simp only [cons_append,S.bW,S.trees,k1,k2,h.1];simp
 exact zdb
theorem O0 {t:T} (h:EF t) (hk:t.n.kind=3):∃ (s:ae) (a:T),t.kids=[a]/\t.n.s=s/\bC s=true/\EF a:=by
 obtain ⟨a,D,I⟩:=h;have h3:=congrArg (fun x=>x.n.kind) I;simp only [rV,hk] at h3
 cases a with
 | at_ s b =>
  simp only [E.ok,au] at D
  have h4:t.n.s=s:=by have:=congrArg (fun x=>x.n.s) I;simp only [rV] at this;exact this
  have h5:aK t.kids=[b.tree]:=by rw [<-QZ,I];rfl
  match hl:t.kids,h5 with
  | [x],h5 =>
   rw [aK,aK] at h5
   injection h5 with h6
   exact ⟨s,x,rfl,h4,D.1,b,D.2,h6⟩
  | [],h5=>rw [aK] at h5;cases h5
  | x::y::r,h5=>rw [aK,aK] at h5;injection h5 with h6 h7;cases h7
 | num n=>exact zdZ
 | name n=>exact zdZ
 | call s l=>exact zdZ
 | un s a=>exact zdZ
 | bin s a b=>exact zdZ
theorem G3 {e:Int} {d:Nat} {ts r:List Tok} {t:T} (ho:rn ts) (h:simple e d ts=.ok (t,r)):SF t/\Sf ts r (aQ t):=by
 unfold simple at h;split at h
 ·exact zed
 ·rename_i t0 r0;split at h
  ·split at h
   ·cases h
   ·rename_i s a xW D;cases h;obtain ⟨k1,⟨a',k2,k3⟩,k4⟩:=Bg ho D;exact ⟨⟨.set s a',by simp only [S.ok,k1,k2];rfl,by rw [dO,aK,aK,k3,S.tree]⟩,k4.le zeV⟩
  ·split at h
   ·cases h
   ·rename_i a xW D;obtain ⟨k1,k2⟩:=xh ho D;split at h
    ·rename_i hc;split at h
     ·cases h
     ·rename_i v vJ I;cases h;obtain ⟨⟨v',k3,k4⟩,k5⟩:=wj ai ai (k2.ok ho) I;obtain ⟨s,x,k6,k7,k8,x',k9,ZG⟩:=O0 k1 hc.1;have hz:=eg a;rw [k6] at hz;simp only [aB] at hz;rw [k6];refine ⟨⟨.put s x' v',by simp only [S.ok,k8,k9,k3];rfl,?_⟩,(k2.trans k5).le ?_⟩
      ·rw [dO,k7];simp only [List.take_succ_cons,List.take_zero,cons_append,nil_append,aK,ZG,k4,S.tree]
      ·simp only [List.take_succ_cons,List.take_zero,cons_append,nil_append,ju,aB];omega
    ·split at h
     ·cases h
     ·rename_i vJ I;cases h;obtain ⟨a',k3,k4⟩:=k1;exact ⟨⟨.do_ a',by simp only [S.ok,k3],by rw [dO,aK,aK,k4,S.tree]⟩,(k2.trans (Sf.aI ai I)).le zeV⟩
theorem RA (e:Int):∀ f,(∀ d ts t r,rn ts->rs e f (.block d) ts=.ok (t,r)->BF t/\Sf ts r (aQ t))/\(∀ d ts t r,rn ts->rs e f (.stmt d) ts=.ok (t,r)->SF t/\Sf ts r (aQ t)) /\
  (∀ d acc ts l r,rn ts->Ko acc->rs.body e f d acc ts=.ok (l,r)->Ko l/\∃ n,Sf ts r n/\aB l+1<=n+aB acc):=by
 intro f
 induction f with
 | zero=>exact ⟨fun d ts t r _ h=>by simp [rs] at h,fun d ts t r _ h=>by simp [rs] at h,fun d acc ts l r _ _ h=>by simp [rs.body] at h⟩
 | succ f ih =>
  obtain ⟨Wx,ZA,Qk⟩:=ih;refine ⟨fun d ts t r ho h=>?_,fun d ts t r ho h=>?_,fun d acc ts l r ho hj h=>?_⟩
  ·rw [rs] at h;split at h
   ·cases h
   ·split at h
    ·cases h
    ·rename_i r1 D;have k1:=Sf.aI ai D;split at h
     ·cases h
     ·rename_i l r2 I;cases h;obtain ⟨⟨es,k2,k3⟩,n,k4,k5⟩:=Qk _ [] r1 l r (k1.ok ho) ⟨[],rfl,rfl⟩ I;exact ⟨⟨es,k2,by rw [dO,k3,aZ]⟩,(k1.trans k4).le (by simp only [ju,aB] at *;omega)⟩
  ·rw [rs] at h;split at h
   ·cases h
   ·simp only at h;split at h
    ·rename_i hs;have k0:=Sf.sign ai hs;split at h
     ·cases h
     ·rename_i s a xW D;cases h;obtain ⟨k1,⟨a',k2,k3⟩,k4⟩:=Bg (k0.ok ho) D;exact ⟨⟨.var s a',by simp only [S.ok,k1,k2];rfl,by rw [dO,aK,aK,k3,S.tree]⟩,(k0.trans k4).le zeV⟩
    ·split at h
     ·rename_i hs
      have k0:Sf ts ts.tail 1:=by
       rcases hs with hs | hs
       ·exact Sf.sign ai hs
       ·exact Sf.sign ai hs
      split at h
      ·cases h
      ·rename_i c r1 D;obtain ⟨⟨c',k1,k2⟩,k3⟩:=wj ai ai (k0.ok ho) D;have k4:=k0.trans k3;split at h
       ·cases h
       ·rename_i b r2 I;obtain ⟨⟨lb,k5,k6⟩,k7⟩:=Wx _ _ b r2 (k4.ok ho) I;have k8:=k4.trans k7;split at h
        ·split at h
         ·rename_i jc;have k9:=k8.trans (Sf.sign ai jc);split at h
          ·cases h
          ·rename_i b2 r3 h3;cases h;obtain ⟨⟨ZL,j5,j6⟩,j7⟩:=Wx _ _ b2 r (k9.ok ho) h3;refine ⟨⟨.if2 c' lb ZL,by simp only [S.ok,k1,k5,j5];rfl,?_⟩,(k9.trans j7).le zeV⟩;rw [dO,aK,aK,aK,aK,k2,k6,j6,S.tree,aZ,aZ]
         ·cases h;refine ⟨⟨.if1 c' lb,by simp only [S.ok,k1,k5];rfl,?_⟩,k8.le zeV⟩;rw [dO,aK,aK,aK,k2,k6,S.tree,aZ]
        ·cases h;refine ⟨⟨.while_ c' lb,by simp only [S.ok,k1,k5];rfl,?_⟩,k8.le zeV⟩;rw [dO,aK,aK,aK,k2,k6,S.tree,aZ]
     ·split at h
      ·rename_i hs;have k0:=Sf.sign ai hs;split at h
       ·cases h
       ·rename_i a xW D;obtain ⟨⟨a',k1,k2⟩,k3⟩:=xh (k0.ok ho) D;split at h
        ·cases h
        ·rename_i vJ I;cases h;exact ⟨⟨.ret a',by simp only [S.ok,k1],by rw [dO,aK,aK,k2,S.tree]⟩,((k0.trans k3).trans (Sf.aI ai I)).le zeV⟩
      ·exact G3 ho h
  ·rw [rs.body] at h;split at h
   ·rename_i hc;cases h;exact ⟨hj,1,Sf.sign ai hc,by omega⟩
   ·split at h
    ·cases h
    ·rename_i a xW D;obtain ⟨k1,k2⟩:=ZA _ ts a xW ho D;obtain ⟨k3,m,k4,k5⟩:=Qk _ (acc++[a]) xW l r (k2.ok ho) (hj.snoc k1) h;refine ⟨k3,_,k2.trans k4,?_⟩;simp only [oe,aB] at *;omega
theorem I8 {e:Int} {d:Nat} {ts r:List Tok} {t:T} (ho:rn ts) (h:block e d ts=.ok (t,r)):BF t/\Sf ts r (aQ t):=(RA e _).1 _ ts t r ho h
end Go.Im
namespace Go.Sp
open Go.Xp
def cV (x:ae) (l:List K):Prop:=∀ pre post:ae,∃ ts,ts.map kf=l/\Tz (pre++(x++post)) pre.length ts (pre.length+x.length)
def gT (x:ae) (l:List K):Prop:=∀ pre post:ae,Sep post->∃ ts,ts.map kf=l/\Tz (pre++(x++post)) pre.length ts (pre.length+x.length)
theorem cV.s {x:ae} {l:List K} (h:cV x l):gT x l:=fun pre post _=>h pre post
theorem cV.app {x y:ae} {l m:List K} (h:cV x l) (k:cV y m):cV (x++y) (l++m):=by
 intro pre post;obtain ⟨ts,D,I⟩:=h pre (y++post);obtain ⟨us,h3,h4⟩:=k (pre++x) post;exact za7
theorem cV.apps {x y:ae} {l m:List K} (h:cV x l) (k:gT y m):gT (x++y) (l++m):=by
 intro pre post hp;obtain ⟨ts,D,I⟩:=h pre (y++post);obtain ⟨us,h3,h4⟩:=k (pre++x) post hp;exact za7
theorem gT.BJ {x y:ae} {l m:List K} (h:gT x l) (k:cV y m) (hs:∀ post,Sep (y++post)):cV (x++y) (l++m):=by
 intro pre post;obtain ⟨ts,D,I⟩:=h pre (y++post) (hs post);obtain ⟨us,h3,h4⟩:=k (pre++x) post;exact za7
theorem cV.nil:cV [] []:=fun pre post=>⟨[],rfl,.nil _⟩
theorem vD {c:UInt8} {x:ae} (h:c∈Cy):∀ post,Sep (c::x++post):=fun post d hd=>by cases hd;exact h
theorem sS {pre x:ae}:(pre++x).drop pre.length=x:=List.drop_left
theorem Tz.one {s:ae} {a a':Nat} {c:UInt8} {t:Tok} (hc:s[a]?=some c) (hb:eH c=false) (hr:bR s a [47,42]=false) (ht:eR s a c=(t,a')) (hk:t.kind=1\/t.kind=2\/t.kind=3) (hn:t.n<=2147483647) (ha:a < a'):Tz s a [t] a' :=
 .tok hc hb hr ht hk hn ha (.nil _)
theorem pJ {c:UInt8} (h:eH c=true):cV [c] []:=by
 intro pre post;have hd:(pre++([c]++post)).drop pre.length=c::post:=sS;obtain ⟨D,_,_⟩:=mU hd;exact ⟨[],rfl,.blank D h (.nil _)⟩
theorem gB {c:UInt8} (hm:c∈[40,41,91,93,44,59,123,125]):cV [c] [kS [c]]:=by
 intro pre post;have hd:(pre++([c]++post)).drop pre.length=c::post:=sS;obtain ⟨D,_,h4⟩:=mU hd;obtain ⟨I,h3,h5⟩:=N9 (Nat.le_of_lt h4) hd hm;exact ⟨[_],rfl,Tz.one D h3 h5 I zeL zeL zeL⟩
theorem zU {w:ae} (hm:w∈bQ):gT w [kS w]:=by
 intro pre post hp;have hd:(pre++(w++post)).drop pre.length=w++post:=sS
 have bZ:w≠[]:=by rintro rfl;revert hm;decide
 obtain ⟨c,r,hw⟩:=List.exists_cons_of_ne_nil bZ;have nE:=hd;rw [hw,cons_append] at nE;obtain ⟨D,_,h4⟩:=mU nE;rw [<-cons_append,<-hw] at D h4;obtain ⟨I,h3,h5⟩:=Pb (Nat.le_of_lt h4) hd hw hm hp
 have:0 < w.length:=by rw [hw];simp
 exact ⟨[_],rfl,Tz.one D h3 h5 I zeL zeL ak⟩
theorem G4 {c:UInt8} (h:small c=true):eH c=false/\c≠47:=by
 simp only [small,au] at h;have D:=lJ h.1;refine ⟨?_,fun h0=>?_⟩
 ·exact zeg
 ·subst h0;revert D;decide
theorem Dp {s r:ae} {a:Nat} {c:UInt8} (h:s.drop a=c::r) (hc:c≠47):bR s a [47,42]=false:=by
 obtain ⟨_,_,h4⟩:=mU h;rw [ur h (Nat.le_of_lt h4)];simp only [List.isPrefixOf]
 have:((47:UInt8)==c)=false:=by rw [beq_eq_false_iff_ne];exact fun h=>hc h.symm
 rw [this,Bool.false_and]
theorem Fq {w:ae} (hw:word w=true):gT w [if words.contains w then kS w else kN w]:=by
 intro pre post hp;have hd:(pre++(w++post)).drop pre.length=w++post:=sS;simp only [word,au,fV] at hw
 match w,hw,hd with
 | [],hw,_=>simp at hw
 | c::r,hw,hd =>
  obtain ⟨cp,hs⟩:=hw;have nE:=hd;rw [cons_append] at nE;obtain ⟨D,_,h4⟩:=mU nE;obtain ⟨h3,h5⟩:=G4 hs;have ht:=Pr (Nat.le_of_lt h4) hd rfl hs cp hp.dV;refine ⟨[_],?_,Tz.one D h3 (Dp nE h5) ht ?_ zeL zeL⟩
  ·simp only [List.map_cons,List.map_nil,kf,kS,kN];split <;> rfl
  ·simp only;split <;> simp
theorem iN {w:ae} (hw:bC w=true):gT w [kN w]:=by
 simp only [bC,au,Bool.not_eq_true'] at hw;have:=Fq hw.1.1;rw [ad (by rw [hw.2];decide)] at this;exact this
theorem Fp {w:ae} (hw:w∈words):gT w [kS w]:=by
 have D:∀ w∈words,word w=true:=by decide
 have:=Fq (D w hw);rw [ah (by simpa using hw)] at this;exact this
theorem H8 {n:Nat} (hn:n<=2147483647):gT (eV n) [kI n]:=by
 intro pre post hp;have hd:(pre++(eV n++post)).drop pre.length=eV n++post:=sS;obtain ⟨D,I,h3⟩:=Hq n;obtain ⟨c,r,hw⟩:=List.exists_cons_of_ne_nil h3;have nE:=hd;rw [hw,cons_append] at nE;obtain ⟨h4,_,h5⟩:=mU nE;rw [<-cons_append,<-hw] at h4 h5;have hc:dN c=true:=D c (by rw [hw];exact mem_cons_self)
 have Wd:eH c=false/\c≠47:=by
  simp only [dN,au] at hc;have D:=lJ hc.1;refine ⟨?_,fun h0=>?_⟩
  ·exact zeg
  ·subst h0;revert D;decide
 have ht:=Rs (Nat.le_of_lt h5) hd hw hn hp.dN
 have:0 < (eV n).length:=by rw [hw];simp
 refine ⟨[_],rfl,Tz.one h4 Wd.1 ?_ ht zeL (by simpa using by omega) ak⟩;have S6:=nE;rw [<-cons_append,<-hw] at S6;rw [hw] at S6 |-;exact Dp S6 Wd.2
theorem TS {s:ae} (h:fm s=true):s∈bQ:=by
 have hm:s∈levels.flatten:=by
  exact zce
 have key:∀ s∈levels.flatten,s∈bQ:=by decide
 exact key s hm
theorem xR:cV [32] []:=pJ ai
theorem gT.then {x:ae} {l:List K} (h:gT x l) {c:UInt8} (hm:c∈[40,41,91,93,44,59,123,125]):cV (x++[c]) (l++[kS [c]]) :=
 h.BJ (gB hm) (vD (by revert hm;unfold Cy;simp only [List.mem_cons,List.not_mem_nil,or_false];rintro (h | h | h | h | h | h | h | h) <;> simp [h]))
theorem gT.sp {x:ae} {l:List K} (h:gT x l):cV (x++[32]) l:=by
 have:=h.BJ xR (vD ai);rw [fk] at this;exact this
theorem gT.eq {x:ae} {l l':List K} (h:gT x l) (e:l=l'):gT x l':=e ▸ h
theorem cV.eq {x:ae} {l l':List K} (h:cV x l) (e:l=l'):cV x l':=e ▸ h
theorem B8 {lv k:Nat} {x:ae} {l:List K} (h:gT x l):gT (mj lv k x) (brk lv k l):=by
 unfold mj brk;split
 ·have:=((gB (c:=40) ai).apps h).then (c:=41) ai;exact this.s.eq zeL
 ·exact h
mutual
theorem mZ:∀ a:E,a.ok=true->gT a.txt a.tk
 | .num n,h=>by
  simp only [E.ok,au] at h;have D:=lJ h.1;have I:=lJ h.2;have:=H8 (n:=n.toNat) ak;rw [E.txt,E.tk];rw [Int.toNat_of_nonneg D] at this;exact this
 | .name s,h=>by rw [E.txt,E.tk];exact iN h
 | .at_ s a,h=>by
  simp only [E.ok,au] at h;rw [E.txt,E.tk];exact ((((iN h.1).then (c:=91) ai).apps (mZ a h.2)).then (c:=93) ai).s.eq zeL
 | .call s l,h=>by
  simp only [E.ok,au] at h;rw [E.txt,E.tk];exact ((((iN h.1).then (c:=40) ai).apps (Vf l h.2)).then (c:=41) ai).s.eq zeL
 | .un s a,h=>by
  simp only [E.ok,au,Bool.or_eq_true,beq_iff_eq] at h;rw [E.txt,E.tk]
  have hs:s∈bQ:=by rcases h.1 with (h | h) | h <;> (rw [h];decide)
  exact ((zU hs).sp.apps (B8 (mZ a h.2))).eq zeL
 | .bin s a b,h=>by
  simp only [E.ok,au] at h;rw [E.txt,E.tk];exact ((((B8 (mZ a h.1.2)).sp.apps (zU (TS h.1.1))).sp).apps (B8 (mZ b h.2))).eq zeL
theorem Vf:∀ l:List E,E.bW l=true->gT (bp (E.cC l)) (E.kY l)
 | [],_=>cV.nil.s
 | a::l,h=>by
  simp only [E.bW,au] at h;rw [E.cC,E.kY,bp];exact Qn l h.2 _ _ (mZ a h.1)
theorem Qn:∀ l:List E,E.bW l=true->∀ x m,gT x m->gT (x++(E.cC l).flatMap fun y=>44::32::y) (m++E.qj l)
 | [],_,x,m,hx=>by rw [E.cC,E.qj];simpa using hx
 | a::l,h,x,m,hx=>by
  simp only [E.bW,au] at h;have D:=((hx.then (c:=44) ai).app xR).apps (mZ a h.1);have I:=Qn l h.2 _ _ D;rw [E.cC,E.qj,flatMap_cons]
  have e1:x++((44::32::a.txt)++(E.cC l).flatMap fun y=>44::32::y)=(x++[44]++[32]++a.txt)++(E.cC l).flatMap fun y=>44::32::y:=by simp
  rw [e1];exact I.eq zeL
end
theorem gT.set {x:ae} {l:List K} (h:gT x l):cV (x++[32,61,32]) (l++[kS [61]]):=by
 have:=(h.sp.apps (zU (w:=[61]) ai)).sp;exact zcb
theorem n8 {w:ae} (hw:w∈words):cV (w++[32]) [kS w]:=(Fp hw).sp
mutual
theorem yo:∀ s:S,s.ok=true->cV (s.txt E.txt) s.tk
 | .set s a,h=>by
  simp only [S.ok,au] at h;rw [S.txt,S.tk];exact (((iN h.1).set.apps (mZ a h.2)).then (c:=59) ai).eq zeL
 | .put s a b,h=>by
  simp only [S.ok,au] at h;rw [S.txt,S.tk];have D:=((((iN h.1).then (c:=91) ai).apps (mZ a h.2.1)).then (c:=93) ai).s.set;have I:=(D.apps (mZ b h.2.2)).then (c:=59) ai
  have e:s++[91]++a.txt++[93,32,61,32]++b.txt++[59]=s++[91]++a.txt++[93]++[32,61,32]++b.txt++[59]:=by simp
  rw [e];exact I.eq zeL
 | .if1 c b,h=>by
  simp only [S.ok,au] at h;rw [S.txt,S.tk];have D:=((((n8 (w:=[105,102]) ai).app (gB (c:=40) ai)).apps (mZ c h.1)).then (c:=41) ai).s.sp;have I:=D.app (lexB b h.2)
  have e:[105,102,32,40]++c.txt++[41,32]++(S.cC E.txt [123,32] b++[125])=[105,102]++[32]++[40]++c.txt++[41]++[32]++(S.cC E.txt [123,32] b++[125]):=by simp
  rw [e];exact I.eq (by simp [eW])
 | .if2 c b b2,h=>by
  simp only [S.ok,au] at h;rw [S.txt,S.tk];have D:=((((n8 (w:=[105,102]) ai).app (gB (c:=40) ai)).apps (mZ c h.1)).then (c:=41) ai).s.sp;have I:=D.app (lexB b h.2.1);have h3:=((I.s.sp.apps (Fp (w:=[101,108,115,101]) ai)).sp).app (lexB b2 h.2.2)
  have e:[105,102,32,40]++c.txt++[41,32]++(S.cC E.txt [123,32] b++[125])++[32,101,108,115,101,32]++(S.cC E.txt [123,32] b2++[125])=[105,102]++[32]++[40]++c.txt++[41]++[32]++(S.cC E.txt [123,32] b++[125])++[32]++[101,108,115,101]++[32]++(S.cC E.txt [123,32] b2++[125]):=by simp
  rw [e];exact h3.eq (by simp [eW,gF])
 | .while_ c b,h=>by
  simp only [S.ok,au] at h;rw [S.txt,S.tk];have D:=((((n8 (w:=[119,104,105,108,101]) ai).app (gB (c:=40) ai)).apps (mZ c h.1)).then (c:=41) ai).s.sp;have I:=D.app (lexB b h.2)
  have e:[119,104,105,108,101,32,40]++c.txt++[41,32]++(S.cC E.txt [123,32] b++[125])=[119,104,105,108,101]++[32]++[40]++c.txt++[41]++[32]++(S.cC E.txt [123,32] b++[125]):=by simp
  rw [e];exact I.eq (by simp [fC])
 | .ret a,h=>by
  simp only [S.ok] at h;rw [S.txt,S.tk];have D:=((n8 (w:=[114,101,116,117,114,110]) ai).apps (mZ a h)).then (c:=59) ai;exact D.eq (by simp [fL])
 | .do_ a,h=>by
  simp only [S.ok] at h;rw [S.txt,S.tk];exact (mZ a h).then (c:=59) ai
 | .var s a,h=>by
  simp only [S.ok,au] at h;rw [S.txt,S.tk];have D:=((((n8 (w:=[118,97,114]) ai).apps (iN h.1)).set).apps (mZ a h.2)).then (c:=59) ai;exact D.eq (by simp [lF])
theorem lexB:∀ l:List S,S.bW l=true->cV (S.cC E.txt [123,32] l++[125]) (kS [123]::(S.kY l++[kS [125]]))
 | l,h=>by
  have h0:cV [123,32] [kS [123]]:=by
   have:=(gB (c:=123) ai).s.sp;exact zcb
  exact ((Qo l h _ _ h0).s.then (c:=125) ai).eq zeL
theorem Qo:∀ l:List S,S.bW l=true->∀ acc m,cV acc m->cV (S.cC E.txt acc l) (m++S.kY l)
 | [],_,acc,m,h=>by rw [S.cC,S.kY,fk];exact h
 | a::l,ho,acc,m,h=>by
  simp only [S.bW,au] at ho;rw [S.cC,S.kY];have D:=(h.app (yo a ho.1)).s.sp;exact (Qo l ho.2 _ _ D).eq zeL
end
theorem cV.all {x:ae} {l:List K} (h:cV x l):∃ ts,ts.map kf=l/\Tz x 0 ts x.length:=by
 obtain ⟨ts,D,I⟩:=h [] [];exact ⟨ts,D,by simpa using I⟩
theorem H6 {l:List S} (h:S.bW l=true):cV (dD E.txt l) (Aq l):=lexB l h
end Go.Sp
namespace Go.Im
open Go.Xp Go.Sp
def Aw (s:ae):List K:=[kS gQ,kN s,kS [59]]
def yP (a:Ar):List K:=[kS gQ,kN a.name,kS [91],kI a.size,kS [93],kS [59]]
def uz:List ae->List K
 | []=>[]
 | s::r=>kS [44]::kN s::uz r
def Dv:List ae->List K
 | []=>[]
 | s::r=>kN s::uz r
def r8 (x:Fn × List S):List K:=kS fv::kN x.1.name::kS [40]::(Dv x.1.params++kS [41]::Aq x.2)
def lQ (x:Fn × List S):ae:=((((([102,117,110,99,32]++x.1.name)++[40])++bp x.1.params)++[41,32])++dD E.txt x.2)++[10]
theorem H7:cV [59,10] [kS [59]]:=(gB (c:=59) ai).app (pJ (c:=10) ai)
theorem Qq {s:ae} (h:bC s=true):cV (g1 s) (Aw s) :=
 ((n8 (w:=gQ) ai).apps (iN h)).BJ H7 (vD (c:=59) (x:=[10]) ai)
theorem Qp {a:Ar} (h:nA a=true):cV (a1 a) (yP a):=by
 unfold nA at h;simp only [au,Bool.not_eq_true',decide_eq_false_iff_not] at h;obtain ⟨⟨D,I⟩,h3⟩:=h
 have hz:mx a.size=eV a.size.toNat:=by unfold mx;rw [ad I]
 have hk:kI a.size=kI ((a.size.toNat:Nat):Int):=by rw [Int.toNat_of_nonneg ak]
 have x1:=((n8 (w:=gQ) ai).apps (iN D)).then (c:=91) ai;have x2:=x1.apps (H8 (n:=a.size.toNat) ak);have x3:=x2.BJ ((gB (c:=93) ai).app H7) (vD (c:=93) (x:=[59,10]) ai);unfold a1 yP;rw [hz,hk];exact x3
theorem L8:∀ (ps:List ae),cy ps=true->∀ x m,gT x m->gT (x++ps.flatMap fun y=>44::32::y) (m++uz ps)
 | [],_,x,m,h=>by rw [List.flatMap_nil,fk,uz,fk];exact h
 | s::r,hp,x,m,h=>by
  unfold cy at hp;rw [all_cons,au] at hp;have D:=(h.then (c:=44) ai).app xR;have I:=D.apps (iN hp.1);have h3:=L8 r hp.2 _ _ I;rw [flatMap_cons,uz];refine gT.eq (cast (congrArg (fun z=>gT z _) ?_) h3) ?_
  ·simp
  ·simp
theorem Qr {ps:List ae} (h:cy ps=true):gT (bp ps) (Dv ps):=by
 match ps,h with
 | [],_=>exact cV.nil.s
 | s::r,h =>
  unfold cy at h;rw [all_cons,au] at h;exact L8 r h.2 s [kN s] (iN h.1)
theorem Vg {x:Fn × List S} (D:bC x.1.name=true) (I:cy x.1.params=true) (h3:S.bW x.2=true):cV (lQ x) (r8 x):=by
 have x1:=((n8 (w:=fv) ai).apps (iN D)).then (c:=40) ai;have x2:=(x1.apps (Qr I)).BJ ((gB (c:=41) ai).app xR) (vD (c:=41) (x:=[32]) ai);have x3:=(x2.app (H6 h3)).app (pJ (c:=10) ai);refine cV.eq x3 ?_;simp [r8]
theorem qL {α:Type} {f:α->ae} {k:α->List K}:∀ (l:List α),(∀ x∈l,cV (f x) (k x))->∀ acc m,cV acc m->cV (bH f acc l) (m++l.flatMap k)
 | [],_,acc,m,h=>by rw [bH,List.flatMap_nil,fk];exact h
 | x::l,hl,acc,m,h=>by
  rw [bH,flatMap_cons,<-fF];exact qL l (fun y hy=>hl y (di _ hy)) _ _ (h.app (hl x mem_cons_self))
theorem KE {inl:List ae->Nat->ae}:∀ (fns:List Fn) (l:List T) (ls:List (List S)) (acc:ae),ls.length=l.length->(∀ (i:Nat) t b,l[i]?=some t->ls[i]?=some b->iT cM inl 0 t=dD E.txt b) ->
  bH (cI cM inl) acc (fns.zip l)=bH lQ acc (fns.zip ls)
 | [],l,ls,acc,_,_=>by simp [bH]
 | f::r,[],[],acc,_,_=>by simp [bH]
 | f::r,t::l,b::ls,acc,hl,h=>by
  have h0:=h 0 t b rfl rfl;rw [zip_cons_cons,zip_cons_cons,bH,bH,KE r l ls _ zeQ fun i t' b' D I=>h (i+1) t' b' ze7 zfe];simp only [cI,lQ,h0]
 | f::r,[],b::ls,acc,hl,_=>by simp at hl
 | f::r,t::l,[],acc,hl,_=>by simp at hl
section
variable {p q:RS} {ts r rest:List Tok} {u:Tok} {s:ae}
theorem o7 (h:On p (u::r)):tok p 0=u:=by rw [On.tok h];rfl
theorem xF (h:On p (u::r)) (hk:kf u=kS s):is p 0 s=true:=by
 obtain ⟨D,I⟩:=dZ hk;unfold is;rw [o7 h,D,I];simp
theorem Fa (h:On p (u::r)) {k:K} (hk:kf u=k) (hn:k.1=3->k.2.2≠s):is p 0 s=false:=by
 unfold is;rw [o7 h];subst hk
 by_cases h3:u.kind=3
 ·have:=hn h3;simp only [kf] at this;simp [h3,this]
 ·simp [h3]
theorem rN (h:On p (u::r)) (hk:kf u=kS s):want p s=p.next:=by unfold want;rw [ah h.code,ah (xF h hk)]
theorem vk (h:On p (u::r)) (hk:kf u=kN s) (hl:bC s=true):bx p=p.next:=by
 obtain ⟨D,I⟩:=pd hk;have:=iY hl;unfold bx;rw [ah h.code,o7 h,ah D,ad (by rw [I];omega)]
theorem nx (h:On p (u::r)):On p.next r:=h.next.1
theorem dM (h:On p (u::r)):p.next.l=p.l/\p.next.e=p.e:=⟨h.next.2.1,h.next.2.2⟩
theorem XU (h:On p (u::r)):p.i < p.l.length:=by
 have:=congrArg List.length h.rest;rw [jw,length_cons] at this;omega
theorem TU (h:On p []):¬ p.i < p.l.length:=by
 have:=congrArg List.length h.rest;rw [jw,length_nil] at this;omega
theorem B3 {G f:Nat} {st:PS} (h:p.code≠0) (hg:1<=G):kD G f p st=some (p,st):=by
 obtain ⟨G,rfl⟩:∃ g',G=g'+1:=⟨G - 1,by omega⟩;rw [kD,ad (fun hc=>h hc.1)]
theorem yn {f:Nat} {acc:List ae} (h:p.code≠0) (hg:1<=f):oP f acc p=some (acc,p):=by
 obtain ⟨f,rfl⟩:∃ g',f=g'+1:=⟨f - 1,by omega⟩;rw [oP,ad (fun hc=>h hc.1),fP h]
end
theorem XP {f:Nat} {p:RS} {st:PS} {ts rest:List Tok} {s:ae} (hp:On p (ts++rest)) (ht:ts.map kf=Aw s) (hs:bC s=true) :
  ∃ q,iW f p st=some (q,{ st with globals:=st.globals++[s] })/\bV p q (.ok rest):=by
 obtain ⟨u,r,rfl,D,ht⟩:=map_cons ht;obtain ⟨v,r,rfl,I,ht⟩:=map_cons ht;obtain ⟨w,rfl,h3⟩:=iq ht;simp only [cons_append,nil_append] at hp;have p1:=nx hp;have p2:=nx p1;have p3:=nx p2;refine ⟨p.next.next.next,?_,p3,by rw [(dM p2).1,(dM p1).1,(dM hp).1],by rw [(dM p2).2,(dM p1).2,(dM hp).2]⟩;unfold iW;rw [ah (xF hp D),vk p1 I hs,Fa p2 h3 ai,ad (by rintro ⟨_,h⟩;cases h),rN p2 h3,o7 p1,(pd I).2]
theorem XN {f:Nat} {p:RS} {st:PS} {ts rest:List Tok} {a:Ar} (hp:On p (ts++rest)) (ht:ts.map kf=yP a) (hs:bC a.name=true) :
  ∃ q,iW f p st=some (q,{ st with arrays:=st.arrays++[a] })/\bV p q (.ok rest):=by
 obtain ⟨u,r,rfl,D,ht⟩:=map_cons ht;obtain ⟨v,r,rfl,I,ht⟩:=map_cons ht;obtain ⟨w,r,rfl,h3,ht⟩:=map_cons ht;obtain ⟨x,r,rfl,h4,ht⟩:=map_cons ht;obtain ⟨y,r,rfl,h5,ht⟩:=map_cons ht;obtain ⟨z,rfl,h6⟩:=iq ht;simp only [cons_append,nil_append] at hp;have p1:=nx hp;have p2:=nx p1;have p3:=nx p2;have p4:=nx p3;have p5:=nx p4;have p6:=nx p5;refine ⟨p.next.next.next.next.next.next,?_,p6,by rw [(dM p5).1,(dM p4).1,(dM p3).1,(dM p2).1,(dM p1).1,(dM hp).1],by rw [(dM p5).2,(dM p4).2,(dM p3).2,(dM p2).2,(dM p1).2,(dM hp).2]⟩;unfold iW;rw [ah (xF hp D),vk p1 I hs,ah ⟨p2.code,xF p2 h3⟩,o7 p3,ah (OB h4).1,rN p4 h5,rN p5 h6,o7 p1,(pd I).2,(OB h4).2]
theorem Qf {rest:List Tok} {u:Tok} (hu:kf u=kS [41]):∀ (ps:List ae) (f:Nat) (acc:List ae) (p:RS) (ts:List Tok),ps.length < f->acc≠[]->cy ps=true->On p (ts++u::rest)->ts.map kf=uz ps ->
  ∃ q,oP f acc p=some (acc++ps,q)/\bV p q (.ok rest)
 | [],f,acc,p,ts,hf,ha,_,hp,ht=>by
  obtain ⟨f,rfl⟩:∃ g',f=g'+1:=⟨f - 1,by omega⟩
  have:ts=[]:=by simpa [uz] using ht
  subst this;rw [nil_append] at hp;refine ⟨p.next,?_,nx hp,dM hp⟩;rw [oP,ad zfF,rN hp hu,fk]
 | s::ps,f,acc,p,ts,hf,ha,hn,hp,ht=>by
  obtain ⟨f,rfl⟩:∃ g',f=g'+1:=⟨f - 1,by omega⟩;rw [uz] at ht;obtain ⟨v,r,rfl,D,ht⟩:=map_cons ht;obtain ⟨w,r,rfl,I,ht⟩:=map_cons ht;unfold cy at hn;rw [all_cons,au] at hn;simp only [cons_append] at hp;have p1:=nx hp;have p2:=nx p1
  have S1:acc.length≠0:=fun h=>ha (gk h)
  rw [length_cons] at hf
  obtain ⟨q,h3,h4⟩:=Qf hu ps f (acc++[s]) p.next.next r ak zeL hn.2 p2 ht
  refine ⟨q,?_,h4.1,by rw [h4.2.1,(dM p1).1,(dM hp).1],by rw [h4.2.2,(dM p1).2,(dM hp).2]⟩;rw [oP,ah ⟨hp.code,Fa hp D ai⟩,ad S1,rN hp D,o7 p1,(pd I).2,vk p1 I hn.1,h3];simp
theorem Qg {rest:List Tok} {u:Tok} (hu:kf u=kS [41]) (ps:List ae) (f:Nat) (p:RS) (ts:List Tok) (hf:ps.length < f) (hn:cy ps=true) (hp:On p (ts++u::rest)) (ht:ts.map kf=Dv ps) :
  ∃ q,oP f [] p=some (ps,q)/\bV p q (.ok rest):=by
 obtain ⟨f,rfl⟩:∃ g',f=g'+1:=⟨f - 1,by omega⟩
 match ps,hn,ht,hf with
 | [],_,ht,_ =>
  have:ts=[]:=by simpa [Dv] using ht
  subst this;rw [nil_append] at hp;refine ⟨p.next,?_,nx hp,dM hp⟩;rw [oP,ad zfF,rN hp hu]
 | s::ps,hn,ht,hf =>
  rw [Dv] at ht;obtain ⟨w,r,rfl,I,ht⟩:=map_cons ht;unfold cy at hn;rw [all_cons,au] at hn;simp only [cons_append] at hp;have p2:=nx hp;rw [length_cons] at hf
  obtain ⟨q,h3,h4⟩:=Qf hu ps f ([]++[s]) p.next r ak zeL hn.2 p2 ht
  refine ⟨q,?_,h4.1,by rw [h4.2.1,(dM hp).1],by rw [h4.2.2,(dM hp).2]⟩;rw [oP,ah ⟨hp.code,Fa hp I (fun h=>by cases h)⟩,ah (by rfl),o7 hp,(pd I).2,vk hp I hn.1,h3];rfl
def fW (p:RS):Nat:=40 * p.l.length+100
theorem FC:∀ ps:List ae,ps.length<=(uz ps).length
 | []=>aY _
 | s::r=>by have:=FC r;rw [uz,length_cons,length_cons,length_cons];omega
theorem Il (ps:List ae):ps.length<=(Dv ps).length:=by
 cases ps with
 | nil=>exact aY _
 | cons s r=>have:=FC r;rw [Dv,length_cons,length_cons];omega
theorem On.len {p:RS} {ts:List Tok} (h:Go.Sp.On p ts):ts.length<=p.l.length:=by
 rw [<-h.rest,jw];omega
theorem Ou {f:Nat} {q:RS} {ts:List Tok} (hq:Go.Sp.On q ts) (hs:pP q.l) (hf:fW q<=f):∃ t q',iS f (.block 1) q=some (t,q')/\jm q q' t (block q.e 1 ts):=by
 obtain ⟨t,q',D,I⟩:=(ZB (mO ts)).block 1 ts q hq hs vS;have:=On.len hq;exact ⟨t,q',D f (by unfold KI mO;unfold fW at hf;omega),I⟩
theorem XO {f:Nat} {p:RS} {st:PS} {ts rest:List Tok} {x:Fn × List S} (hp:On p (ts++rest)) (hs:pP p.l) (hf:fW p<=f) (ht:ts.map kf=r8 x) (D:bC x.1.name=true) (I:cy x.1.params=true) (h3:S.bW x.2=true) :
  (dc x.2 1=true->∃ q t,iW f p st=some (q,{ st with trees:=st.trees++[t],fns:=st.fns++[(x.1.name,x.1.params)] })/\er t=aZ x.2/\bV p q (.ok rest)) /\
  (dc x.2 1=false->∃ q c9,iW f p st=some (q,c9)/\q.code≠0):=by
 obtain ⟨u,r,rfl,k1,ht⟩:=map_cons ht;obtain ⟨v,r,rfl,k2,ht⟩:=map_cons ht;obtain ⟨w,r,rfl,k3,ht⟩:=map_cons ht;obtain ⟨A,r,rfl,k4,ht⟩:=c8 ht;obtain ⟨y,r,rfl,k5,ht⟩:=map_cons ht;simp only [cons_append,fF] at hp;have p1:=nx hp;have p2:=nx p1;have p3:=nx p2
 have hl:p.next.next.next.l=p.l:=by rw [(dM p2).1,(dM p1).1,(dM hp).1]
 have hA:x.1.params.length<=A.length:=by have:=Il x.1.params;rw [<-k4,cU] at this;exact this
 have dv:=On.len p3;simp only [aJ] at dv;rw [hl] at dv
 have Lq:x.1.params.length < f:=by unfold fW at hf;omega
 obtain ⟨q,h4,h5⟩:=Qg k5 x.1.params f p.next.next.next A Lq I p3 k4
 have jZ:q.l=p.l:=h5.2.1.trans hl;obtain ⟨t,q',h6,h7⟩:=Ou (f:=f) h5.1 ze3 zeX;obtain ⟨r1,r2⟩:=zx (e:=q.e) (d:=1) (rest:=rest) h3 ht
 have hw:iW f p st=some (q',{ st with trees:=st.trees++[t],fns:=st.fns++[(x.1.name,x.1.params)] }):=by
  exact zbF
 refine ⟨fun jI=>?_,fun jI=>?_⟩
 ·obtain ⟨t',j1,j2⟩:=r1 jI;rw [j2] at h7;obtain ⟨rfl,j3⟩:=h7;exact ⟨q',t,hw,j1,j3.1,j3.2.1.trans jZ,j3.2.2.trans (h5.2.2.trans (by rw [(dM p2).2,(dM p1).2,(dM hp).2]))⟩
 ·obtain ⟨pos,j2⟩:=r2 jI;rw [j2] at h7;exact ⟨q',_,hw,bV.err h7⟩
theorem pb {G f:Nat} {p q:RS} {st c9:PS} {u:Tok} {r:List Tok} (hp:On p (u::r)) (h:iW f p st=some (q,c9)):kD (G+1) f p st=kD G f q c9:=by
 rw [kD,ah ⟨hp.code,XU hp⟩,h]
theorem Jt {f:Nat} {rest:List Tok}:∀ (gs:List ae) (p:RS) (st:PS) (ts:List Tok),On p (ts++rest)->ts.map kf=gs.flatMap Aw->cy gs=true ->
  ∃ q,bV p q (.ok rest)/\∀ G,kD (G+gs.length) f p st=kD G f q { st with globals:=st.globals++gs }
 | [],p,st,ts,hp,ht,_=>by
  have:ts=[]:=by simpa using ht
  subst this;exact ⟨p,On.self hp,fun G=>by simp⟩
 | s::gs,p,st,ts,hp,ht,hn=>by
  rw [flatMap_cons] at ht;obtain ⟨A,B,rfl,D,I⟩:=c8 ht;unfold cy at hn;rw [all_cons,au] at hn;rw [fF] at hp;obtain ⟨q,h3,h4⟩:=XP (f:=f) (st:=st) hp D hn.1;obtain ⟨q',h5,h6⟩:=Jt gs q { st with globals:=st.globals++[s] } B h4.1 I hn.2;exact zb7
theorem Jr {f:Nat} {rest:List Tok}:∀ (as:List Ar) (p:RS) (st:PS) (ts:List Tok),On p (ts++rest)->ts.map kf=as.flatMap yP->as.all nA=true ->
  ∃ q,bV p q (.ok rest)/\∀ G,kD (G+as.length) f p st=kD G f q { st with arrays:=st.arrays++as }
 | [],p,st,ts,hp,ht,_=>by
  have:ts=[]:=by simpa using ht
  subst this;exact ⟨p,On.self hp,fun G=>by simp⟩
 | s::gs,p,st,ts,hp,ht,hn=>by
  rw [flatMap_cons] at ht;obtain ⟨A,B,rfl,D,I⟩:=c8 ht;rw [all_cons,au] at hn;rw [fF] at hp
  have cL:bC s.name=true:=by have:=hn.1;unfold nA at this;simp only [au] at this;exact this.1.1
  obtain ⟨q,h3,h4⟩:=XN (f:=f) (st:=st) hp D cL;obtain ⟨q',h5,h6⟩:=Jr gs q { st with arrays:=st.arrays++[s] } B h4.1 I hn.2;exact zb7
def Gk (x:Fn × List S):Prop:=bC x.1.name=true/\cy x.1.params=true/\S.bW x.2=true
theorem Js {f:Nat}:∀ (xs:List (Fn × List S)) (p:RS) (st:PS) (ts:List Tok),On p ts->pP p.l->fW p<=f->ts.map kf=xs.flatMap r8->(∀ x∈xs,Gk x) ->
  ((xs.all fun x=>dc x.2 1)=true->∃ q l,(∀ G,xs.length < G->kD G f p st=some (q,{ st with trees:=st.trees++l,fns:=st.fns++xs.map fun x=>(x.1.name,x.1.params) }))/\q.code=0/\aK l=xs.map fun x=>aZ x.2) /\
  ((xs.all fun x=>dc x.2 1)=false->∃ q c9,(∀ G,xs.length < G->kD G f p st=some (q,c9))/\q.code≠0)
 | [],p,st,ts,hp,_,_,ht,_=>by
  have:ts=[]:=by simpa using ht
  subst this;refine ⟨fun _=>⟨p,[],fun G hG=>?_,hp.code,by rw [aK];rfl⟩,fun h=>by cases h⟩;obtain ⟨G,rfl⟩:∃ g',G=g'+1:=⟨G - 1,by rw [length_nil] at hG;omega⟩;rw [kD,ad (fun hc=>TU hp hc.2)];simp
 | x::xs,p,st,ts,hp,hs,hf,ht,hx=>by
  rw [flatMap_cons] at ht;obtain ⟨A,B,rfl,D,I⟩:=c8 ht;obtain ⟨x1,x2,x3⟩:=hx x mem_cons_self;obtain ⟨k1,k2⟩:=XO (st:=st) hp hs hf D x1 x2 x3
  have bZ:∃ u r,A++B=u::r:=by obtain ⟨u,r,rfl,_,_⟩:=map_cons D;exact ⟨u,_,rfl⟩
  obtain ⟨u,r,hu⟩:=bZ;rw [hu] at hp
  cases hb:dc x.2 1 with
  | false =>
   obtain ⟨q,c9,k3,k4⟩:=k2 hb;refine ⟨fun h=>(by rw [all_cons,hb] at h;cases h),fun _=>⟨q,c9,fun G hG=>?_,k4⟩⟩;obtain ⟨G,rfl⟩:∃ g',G=g'+1:=⟨G - 1,by rw [length_cons] at hG;omega⟩;rw [pb hp k3,B3 k4 zfk]
  | true =>
   obtain ⟨q,t,k3,k4,k5⟩:=k1 hb;have jZ:q.l=p.l:=k5.2.1;obtain ⟨j1,j2⟩:=Js (f:=f) xs q { st with trees:=st.trees++[t],fns:=st.fns++[(x.1.name,x.1.params)] } B k5.1 ze3 zeX I (fun y hy=>hx y (di _ hy));rw [all_cons,hb,Bool.true_and];refine ⟨fun h=>?_,fun h=>?_⟩
   ·obtain ⟨q',l,j3,j4,j5⟩:=j1 h;refine ⟨q',t::l,fun G hG=>?_,j4,by rw [aK,k4,j5];rfl⟩;obtain ⟨G,rfl⟩:∃ g',G=g'+1:=⟨G - 1,by rw [length_cons] at hG;omega⟩;rw [pb hp k3,j3 G zfk];simp
   ·obtain ⟨q',c9,j3,j4⟩:=j2 h;refine ⟨q',c9,fun G hG=>?_,j4⟩;obtain ⟨G,rfl⟩:∃ g',G=g'+1:=⟨G - 1,by rw [length_cons] at hG;omega⟩;rw [pb hp k3,j3 G zfk]
theorem Mm (G:List ae) (As:List Ar) (xs:List (Fn × List S)) (D:cy G=true) (I:As.all nA=true) (h3:∀ x∈xs,Gk x) :
  ∃ ts,Tz (bH lQ (bH a1 (bH g1 [] G) As) xs) 0 ts (bH lQ (bH a1 (bH g1 [] G) As) xs).length /\
  (pP ts->∀ (e:Int) (g f:Nat),ts.length+1<=g->40 * ts.length+100<=f ->
   ((xs.all fun x=>dc x.2 1)=true->∃ q l,kD g f ⟨ts,0,e,0,0⟩ .empty=some (q,⟨l,G,As,xs.map fun x=>(x.1.name,x.1.params)⟩)/\q.code=0/\aK l=xs.map fun x=>aZ x.2) /\
   ((xs.all fun x=>dc x.2 1)=false->∃ q c9,kD g f ⟨ts,0,e,0,0⟩ .empty=some (q,c9)/\q.code≠0)):=by
 have l1:=qL (f:=g1) (k:=Aw) G (fun s hs=>Qq (fV.1 D s hs)) [] [] cV.nil;have l2:=qL (f:=a1) (k:=yP) As (fun s hs=>Qp (fV.1 I s hs)) _ _ l1;have l3:=qL (f:=lQ) (k:=r8) xs (fun x hx=>by obtain ⟨a,b,c⟩:=h3 x hx;exact Vg a b c) _ _ l2;obtain ⟨ts,k1,k2⟩:=l3.all;refine ⟨ts,k2,fun hs e g f hg hf=>?_⟩;rw [nil_append] at k1;obtain ⟨A,C,rfl,k3,k4⟩:=c8 k1;obtain ⟨A,B,rfl,k5,k6⟩:=c8 k3;have qw:On ⟨(A++B)++C,0,e,0,0⟩ (A++(B++C)):=⟨rfl,aY _,by simp,k2.kinds⟩;obtain ⟨q1,j1,j2⟩:=Jt (f:=f) G _ .empty A qw k5 D;obtain ⟨q2,j3,j4⟩:=Jr (f:=f) As q1 _ B j1.1 k6 I;have jZ:q2.l=(A++B)++C:=(j1.tr j3).2.1;obtain ⟨j5,j6⟩:=Js (f:=f) xs q2 { ({ PS.empty with globals:=PS.empty.globals++G }:PS) with arrays:=PS.empty.arrays++As } C j3.1 ze3 (by unfold fW;rw [jZ];exact hf) k4 h3
 have c1:G.length<=A.length:=by
  have:=congrArg List.length k5;rw [cU] at this;rw [this];clear this k5 j1 j2 j3 j4 j5 j6 jZ qw hs k1 k2 k3 l1 l2 l3 hf hg D
  induction G with
  | nil=>exact aD _
  | cons s G ih=>refine zdx ?_;simp only [Aw,length_cons,length_nil];omega
 have c2:As.length<=B.length:=by
  have:=congrArg List.length k6;rw [cU] at this;rw [this];clear this k6 j1 j2 j3 j4 j5 j6 jZ qw hs k1 k2 k3 l1 l2 l3 hf hg I
  induction As with
  | nil=>exact aD _
  | cons s G ih=>refine zdx ?_;simp only [yP,length_cons,length_nil];omega
 have c3:xs.length<=C.length:=by
  have:=congrArg List.length k4;rw [cU] at this;rw [this];clear this k4 j1 j2 j3 j4 j5 j6 jZ qw hs k1 k2 k3 l1 l2 l3 hf hg h3
  induction xs with
  | nil=>exact aD _
  | cons s G ih=>refine zdx ?_;simp only [r8,length_cons];omega
 rw [aJ,aJ] at hg;have oA:∃ g',xs.length < g'/\g=g'+As.length+G.length:=⟨g - As.length - G.length,by omega,by omega⟩;obtain ⟨g',jX,rfl⟩:=oA;rw [j2,j4];refine ⟨fun h=>?_,fun h=>?_⟩
 ·exact zeb
 ·exact zeo
structure BB (st:PS):Prop where
 globals:cy st.globals=true
 arrays:st.arrays.all nA=true
 fns:∀ x∈st.fns,bC x.1=true/\cy x.2=true
 trees:∀ t∈st.trees,BF t
 len:st.fns.length=st.trees.length
theorem zi {a b:List ae} (h:cy a=true) (k:cy b=true):cy (a++b)=true:=by
 unfold cy at *;rw [List.all_append,h,k];rfl
theorem zj {s:ae} (h:bC s=true):cy [s]=true:=by
 unfold cy;rw [all_cons,h];rfl
theorem Sf.len {a b:List Tok} {n:Nat} (h:Sf a b n):b.length+n<=a.length:=by
 obtain ⟨p,rfl,h⟩:=h;rw [aJ];omega
theorem HT:∀ (f:Nat) (acc:List ae) (p:RS) (ts:List Tok),On p ts->rn ts->ts.length+1 < f->cy acc=true ->
  ∃ l q,oP f acc p=some (l,q)/\((∃ r n,bV p q (.ok r)/\cy l=true/\Sf ts r n)\/q.code≠0)
 | 0,acc,p,ts,_,_,hf,_=>by omega
 | f+1,acc,p,ts,hp,ho,hf,hn=>by
  rw [oP]
  by_cases hc:p.code=0/\is p 0 [41]=false
  ·rw [ah hc]
   have jP:(∃ r,bV p (if acc.length=0 then p else want p [44]) (.ok r)/\Sf ts r 0)\/(if acc.length=0 then p else want p [44]).code≠0:=by
    by_cases ha:acc.length=0
    ·rw [ah ha];exact .inl ⟨ts,On.self hp,.nil _⟩
    ·rw [ad ha]
     rcases mi hp (s:=[44]) ai with ⟨r,D,I⟩ | ⟨x,D,I⟩
     ·exact .inl ⟨r,I,(Sf.aI ai D).le (aY _)⟩
     ·exact .inr (bV.err I)
   generalize (if acc.length=0 then p else want p [44])=p' at *
   rcases jP with ⟨r,D,I⟩ | D
   ·rcases tw D.1 with ⟨r2,h3,h4⟩ | ⟨x,h3,h4⟩
    ·obtain ⟨k1,k2⟩:=Sf.name h3 (I.ok ho);have hlen:=(I.trans k1).len;obtain ⟨l,q,k3,k4⟩:=HT f (acc++[(tok p' 0).s]) (bx p') r2 h4.1 ((I.trans k1).ok ho) ak (zi hn (zj k2));refine ⟨l,q,k3,?_⟩
     rcases k4 with ⟨r3,n,k5,k6,k7⟩ | k5
     ·exact .inl ⟨r3,_,(D.tr h4).tr k5,k6,(I.trans k1).trans k7⟩
     ·exact .inr k5
    ·exact ⟨_,_,yn (bV.err h4) ak,.inr (bV.err h4)⟩
   ·rw [Md D];exact ⟨_,_,yn D ak,.inr D⟩
  ·rw [ad hc]
   rcases mi hp (s:=[41]) ai with ⟨r,D,I⟩ | ⟨x,D,I⟩
   ·exact ⟨acc,_,rfl,.inl ⟨r,1,I,hn,Sf.aI ai D⟩⟩
   ·exact ⟨acc,_,rfl,.inr (bV.err I)⟩
theorem TJ {f:Nat} {p:RS} {st:PS} {u:Tok} {r0:List Tok} (hp:On p (u::r0)) (ho:rn (u::r0)) (hs:pP p.l) (hf:fW p<=f) (dI:BB st) :
  ∃ q c9,iW f p st=some (q,c9)/\((∃ r n,bV p q (.ok r)/\BB c9/\Sf (u::r0) r (n+1)/\aB c9.trees<=n+1+aB st.trees)\/q.code≠0):=by
 have p1:=nx hp;have lC:=Sf.one u r0;unfold iW
 by_cases D:is p 0 gQ=true
 ·rw [ah D]
  rcases tw p1 with ⟨r1,a1,a2⟩ | ⟨x,a1,a2⟩
  ·obtain ⟨b1,b2⟩:=Sf.name a1 (lC.ok ho);have b3:=lC.trans b1;have a3:bV p (bx p.next) (.ok r1):=(On.next hp).tr a2
   by_cases I:(bx p.next).code=0/\is (bx p.next) 0 [91]=true
   ·rw [ah I]
    have h3:sign r1 0=[91]:=by
     have:=On.is a2.1 0 (s:=[91]) ai;rw [I.2] at this;simpa using this.symm
    obtain ⟨v,h4,_⟩:=tH ai h3;have b4:=b3.trans (Sf.sign ai h3);have p2:=a2.1;rw [h4] at p2
    have a4:bV p (bx p.next).next (.ok r1.tail):=a3.tr (On.next p2)
    have p3:=nx p2
    by_cases h5:(tok (bx p.next).next 0).kind=1
    ·rw [ah h5]
     cases hr:r1.tail with
     | nil =>
      rw [hr] at p3;have:=On.tok p3 0;rw [this] at h5;cases h5
     | cons w r3 =>
      rw [hr] at p3 a4 b4;have p4:=nx p3;have b5:=b4.trans (Sf.one w r3);have a5:=a4.tr (On.next p3);rw [o7 p3] at h5;have hw:=(b4.ok ho w mem_cons_self).num h5
      rcases mi p4 (s:=[93]) ai with ⟨r4,c1,c2⟩ | ⟨x,c1,c2⟩
      ·rcases mi c2.1 (s:=[59]) ai with ⟨r5,d1,d2⟩ | ⟨x,d1,d2⟩
       ·refine ⟨_,_,rfl,.inl ⟨r5,0,(a5.tr c2).tr d2,⟨dI.globals,?_,dI.fns,dI.trees,dI.len⟩,((b5.trans (Sf.aI ai c1)).trans (Sf.aI ai d1)).le ak,by simp only;omega⟩⟩;simp only;rw [List.all_append,dI.arrays,all_cons,List.all_nil,Bool.and_true,Bool.true_and];unfold nA;rw [o7 p3,b2];simp only [au,Bool.not_eq_true',decide_eq_false_iff_not];exact ⟨⟨trivial,by omega⟩,by omega⟩
       ·exact ⟨_,_,rfl,.inr (bV.err d2)⟩
      ·refine ⟨_,_,rfl,.inr ?_⟩;rw [fP (bV.err c2)];exact bV.err c2
    ·rw [ad h5];exact ⟨_,_,rfl,.inr (bV.err (On.kx p3))⟩
   ·rw [ad I]
    rcases mi a2.1 (s:=[59]) ai with ⟨r4,c1,c2⟩ | ⟨x,c1,c2⟩
    ·exact ⟨_,_,rfl,.inl ⟨r4,0,a3.tr c2,⟨zi dI.globals (zj b2),dI.arrays,dI.fns,dI.trees,dI.len⟩,(b3.trans (Sf.aI ai c1)).le ak,by simp only;omega⟩⟩
    ·exact ⟨_,_,rfl,.inr (bV.err c2)⟩
  ·rw [ad (fun h=>bV.err a2 h.1),fP (bV.err a2)];exact ⟨_,_,rfl,.inr (bV.err a2)⟩
 ·rw [ad D]
  by_cases I:is p 0 fv=true
  ·rw [ah I]
   rcases tw p1 with ⟨r1,a1,a2⟩ | ⟨x,a1,a2⟩
   ·obtain ⟨b1,b2⟩:=Sf.name a1 (lC.ok ho);have b3:=lC.trans b1;have a3:bV p (bx p.next) (.ok r1):=(On.next hp).tr a2
    rcases mi a2.1 (s:=[40]) ai with ⟨r2,c1,c2⟩ | ⟨x,c1,c2⟩
    ·have b4:=b3.trans (Sf.aI ai c1);have a4:=a3.tr c2;have hl:=On.len c2.1;have kP:(want (bx p.next) [40]).l=p.l:=a4.2.1;obtain ⟨l,q,k1,k2⟩:=HT f [] _ r2 c2.1 (b4.ok ho) (by rw [kP] at hl;unfold fW at hf;omega) rfl;rw [k1];simp only
     rcases k2 with ⟨r3,n,k3,k4,k5⟩ | k3
     ·have a5:=a4.tr k3;have jZ:q.l=p.l:=a5.2.1;rw [ah k3.1.code];obtain ⟨t,q',k6,k7⟩:=Ou (f:=f) k3.1 ze3 zeX;rw [k6];simp only;have b5:=b4.trans k5
      cases hb:block q.e 1 r3 with
      | error x=>rw [hb] at k7;exact ⟨_,_,rfl,.inr (bV.err k7)⟩
      | ok y =>
       obtain ⟨t',r4⟩:=y;rw [hb] at k7;obtain ⟨rfl,k7⟩:=k7;obtain ⟨k8,k9⟩:=I8 (b5.ok ho) hb;refine ⟨_,_,rfl,.inl ⟨r4,n+aQ t+2,a5.tr k7,⟨dI.globals,dI.arrays,?_,?_,?_⟩,(b5.trans k9).le ak,?_⟩⟩
       ·intro x hx
        rcases nY hx with hx | hx
        ·exact dI.fns x hx
        ·rw [mem_singleton] at hx;subst hx;exact ⟨b2,k4⟩
       ·intro x hx
        rcases nY hx with hx | hx
        ·exact dI.trees x hx
        ·rw [mem_singleton] at hx;subst hx;exact k8
       ·simp only [aJ,length_cons,length_nil];have:=dI.len;omega
       ·simp only [oe,aB];omega
     ·rw [ad k3];exact ⟨_,_,rfl,.inr k3⟩
    ·rw [yn (bV.err c2) (by unfold fW at hf;omega)];simp only;rw [ad (bV.err c2)];exact ⟨_,_,rfl,.inr (bV.err c2)⟩
   ·rw [fP (bV.err a2),yn (bV.err a2) (by unfold fW at hf;omega)];simp only;rw [ad (bV.err a2)];exact ⟨_,_,rfl,.inr (bV.err a2)⟩
  ·rw [ad I];exact ⟨_,_,rfl,.inr (bV.err (On.kx hp))⟩
theorem HU {f:Nat}:∀ (G:Nat) (p:RS) (st:PS) (ts:List Tok),On p ts->rn ts->pP p.l->fW p<=f->BB st->ts.length < G ->
  ∃ q c9,kD G f p st=some (q,c9)/\(q.code=0->BB c9/\aB c9.trees<=ts.length+aB st.trees)
 | 0,p,st,ts,_,_,_,_,_,hG=>by omega
 | G+1,p,st,ts,hp,ho,hs,hf,dI,hG=>by
  cases ts with
  | nil =>
   rw [kD,ad (fun hc=>TU hp hc.2)];exact ⟨p,st,rfl,fun _=>⟨dI,by simp⟩⟩
  | cons u r0 =>
   obtain ⟨q,c9,D,I⟩:=TJ hp ho hs hf dI;rw [pb hp D];rw [length_cons] at hG
   rcases I with ⟨r,n,h3,h4,h5,h6⟩ | h3
   ·have hl:=h5.len;rw [length_cons] at hl;have jZ:q.l=p.l:=h3.2.1;obtain ⟨q',Z0,k1,k2⟩:=HU G q c9 r h3.1 (h5.ok ho) ze3 zeX h4 ak;exact ⟨q',Z0,k1,fun hc=>by obtain ⟨k3,k4⟩:=k2 hc;exact ⟨k3,by rw [length_cons];omega⟩⟩
   ·exact ⟨q,c9,B3 h3 ak,fun hc=>absurd hc h3⟩
def iU (st:PS):List Fn:=st.fns.mapIdx fun i x=>⟨x.1,x.2,((aB (st.trees.take i):Nat):Int)⟩
def same (p:Src) (st:PS):Bool:=eU (fun x y=>x==y) p.globals st.globals&&(eU yR p.arrays st.arrays&&(eU rf p.fns (iU st)&&eU jL p.nodes (cD 0 st.trees)))
structure Reads (x:ae) (ts:List Tok) (c z:Int) (q:RS) (st:PS):Prop where
 lex:oB x (x.length+1) 0 []=some (ts,c,z)
 len:ts.length<=x.length
 read:kD (ts.length+1) (40 * ts.length+100) ⟨ts,0,(x.length:Int),0,0⟩ .empty=some (q,st)
 ok:q.code=0->BB st/\aB st.trees<=ts.length
theorem reads (x:ae):∃ ts c z q st,Reads x ts c z q st:=by
 obtain ⟨ts,c,z,D,I,h3,h4⟩:=nL x (x.length+1) 0 [] (aY _) ak (fun t h=>by simp at h) .nil (fun t h=>by simp at h) (aD _);have qw:On ⟨ts,0,(x.length:Int),0,0⟩ ts:=⟨rfl,aY _,rfl,fun t ht=>(I t ht).kinds⟩;obtain ⟨q,st,h5,h6⟩:=HU (f:=40 * ts.length+100) (ts.length+1) _ .empty ts qw I h3 (aD _) ⟨rfl,rfl,fun x h=>zeT,fun x h=>zeT,rfl⟩ ak;exact ⟨ts,c,z,q,st,D,h4,h5,fun h=>by obtain ⟨a,b⟩:=h6 h;exact ⟨a,by simpa [PS.empty,aB] using b⟩⟩
structure Forms (l:List T) (ls:List (List S)):Prop where
 len:ls.length=l.length
 at_:∀ (i:Nat) t b,l[i]?=some t->ls[i]?=some b->S.bW b=true/\er t=aZ b
theorem Ez:∀ (l:List T),(∀ t∈l,BF t)->∃ ls,Forms l ls
 | [],_=>⟨[],rfl,fun i t b h=>by simp at h⟩
 | t::l,h=>by
  obtain ⟨b,D,I⟩:=h t mem_cons_self
  obtain ⟨ls,h3⟩:=Ez l fun u hu=>h u (di _ hu)
  refine ⟨b::ls,by simp [h3.len],fun i t' b' k1 k2=>?_⟩
  cases i with
  | zero=>cases k1;cases k2;exact ⟨D,I⟩
  | succ i=>exact h3.at_ i t' b' (by simpa using k1) (by simpa using k2)
theorem dH.mem {Q:Fn->T->Prop}:∀ {fns:List Fn} {a:Nat} {l:List T},dH Q fns a l->(∀ f∈fns,∃ t∈l,Q f t)/\(∀ t∈l,∃ f∈fns,Q f t)
 | [],_,[],_=>⟨fun f h=>zeT,fun f h=>zeT⟩
 | f::r,a,t::l,h=>by
  rw [dH] at h;obtain ⟨k1,k2⟩:=dH.mem h.2.2;refine ⟨fun g hg=>?_,fun u hu=>?_⟩
  ·rcases ew hg with rfl | hg
   ·exact ⟨t,mem_cons_self,h.2.1⟩
   ·obtain ⟨u,a,b⟩:=k1 g hg;exact ⟨u,di _ a,b⟩
  ·rcases ew hu with rfl | hu
   ·exact ⟨f,mem_cons_self,h.2.1⟩
   ·obtain ⟨g,a,b⟩:=k2 u hu;exact ⟨g,di _ a,b⟩
 | [],_,t::l,h=>by cases h
 | f::r,_,[],h=>by cases h
theorem b8.v8 {p:Src} {l:List T} (h:b8 p l):∃ ls,Forms l ls:=by
 refine Ez l fun t ht=>?_
 obtain ⟨f,_,D⟩:=(dH.mem h.fns).2 t ht;exact Z3 D.all D.kind
theorem b8.at_ {p:Src} {l:List T} (h:b8 p l):cz l:=by
 have:∀ l:List T,(∀ t∈l,cX t=true)->cz l:=by
  intro l
  induction l with
  | nil=>intro _;trivial
  | cons t l ih=>intro h;rw [cz];exact ⟨Am t (h t mem_cons_self),ih fun u hu=>h u (di _ hu)⟩
 refine this l fun t ht=>?_
 obtain ⟨f,_,D⟩:=(dH.mem h.fns).2 t ht;exact D.all
theorem b8.Kz {p:Src} {l:List T} (h:b8 p l):lh p.nodes p.fns 0 []=some (l,p.nodes.length):=by
 rw [Hm p.fns 0 [] l h.st h.fns h.at_,h.len];simp
theorem b8.k {p:Src} {l:List T} (h:b8 p l):l.all gq=true:=by
 rw [fV];intro t ht;obtain ⟨f,_,D⟩:=(dH.mem h.fns).2 t ht;exact I5 t D.all
theorem C5 {l:List T} {ls:List (List S)} (h:Forms l ls):aK l=ls.map aZ:=by
 rw [sy];apply List.ext_getElem?;intro i;rw [bP,bP];have hl:=h.len
 cases D:l[i]? with
 | none =>
  rw [List.getElem?_eq_none_iff] at D;rw [List.getElem?_eq_none_iff.2 ak];rfl
 | some t =>
  have hi:=(bh D).1
  have I:ls[i]?=some (ls[i]'ak):=by simp [hl,hi]
  rw [I];exact congrArg some (h.at_ i t _ D I).2
theorem zip_fst {α β:Type}:∀ (a:List α) (b:List β),a.length=b.length->(a.zip b).map Prod.fst=a
 | [],[],_=>rfl
 | x::a,y::b,h=>by rw [zip_cons_cons,List.map_cons,zip_fst a b zeO]
 | [],y::b,h=>by simp at h
 | x::a,[],h=>by simp at h
theorem vM {α β:Type}:∀ (a:List α) (b:List β),a.length=b.length->(a.zip b).map Prod.snd=b
 | [],[],_=>rfl
 | x::a,y::b,h=>by rw [zip_cons_cons,List.map_cons,vM a b zeO]
 | [],y::b,h=>by simp at h
 | x::a,[],h=>by simp at h
theorem xV (l:List T) (i:Nat):aB (l.take i)=aB ((aK l).take i):=by
 rw [sy,<-List.map_take,<-sy,og]
theorem Uo {p:Src} {l:List T} {l':List T} {ls:List (List S)} (h:b8 p l) (he:aK l'=aK l):same p ⟨l',p.globals,p.arrays,p.fns.map fun x=>(x.name,x.params)⟩=true:=by
 unfold same;simp only [au];refine ⟨qG (fun x=>by simp) _,qG (fun x=>by simp [yR]) _,?_,?_⟩
 ·have:iU ⟨l',p.globals,p.arrays,p.fns.map fun x=>(x.name,x.params)⟩=p.fns:=by
   unfold iU;apply List.ext_getElem?;intro i;simp only [List.getElem?_mapIdx,bP]
   cases hf:p.fns[i]? with
   | none=>rfl
   | some f =>
    have hlen:=dH.len h.fns;have hi:=(bh hf).1
    have ht:l[i]?=some (l[i]'ak):=by simp [<-hlen,hi]
    have hb:=(dH.at_ h.fns i f _ hf ht).1;rw [eo,xV,<-he,<-xV] at hb;simp only [Option.map_some];rw [<-hb]
  rw [this];refine qG (fun x=>?_) _;simp [rf,qG]
 ·rw [da.all h.st h.len];exact uU _ _ 0 he.symm
theorem TM {p:Src} {l:List T} {ls:List (List S)} (h:b8 p l) (hf:Forms l ls):jJ cM dk p l=bH lQ (bH a1 (bH g1 [] p.globals) p.arrays) (p.fns.zip ls):=by
 unfold jJ
 refine KE _ _ _ _ hf.len fun i t b D I=>?_
 obtain ⟨h3,h4⟩:=hf.at_ i t b D I;rw [<-Ei,h4];exact uM b h3 0
theorem J2 {p:Src} {l:List T} {ls:List (List S)} (h:b8 p l) (hf:Forms l ls) {ts:List Tok} {c z:Int} {q:RS} {st:PS} (hr:Reads (jJ cM dk p l) ts c z q st) :
  c=0/\((ls.all fun b=>dc b 1)=true->q.code=0/\aB st.trees<=800/\same p st=true)/\((ls.all fun b=>dc b 1)=false->q.code≠0):=by
 have hx:=TM h hf;have hlen:=dH.len h.fns;have ow:=hf.len
 have th:∀ x∈p.fns.zip ls,Gk x:=by
  intro x hx;obtain ⟨f,b⟩:=x;obtain ⟨i,hi⟩:=List.getElem?_of_mem hx;rw [List.getElem?_zip_eq_some] at hi;have nF:=(bh hi.2).1
  have ht:l[i]?=some (l[i]'ak):=by simp [<-ow,nF]
  exact zbg
 obtain ⟨us,D,I⟩:=Mm p.globals p.arrays (p.fns.zip ls) h.globals h.arrays th;rw [<-hx] at D;have h3:=B7 D rfl ((jJ cM dk p l).length+1) [] ak;rw [nil_append,hr.lex] at h3;simp only [Option.some.injEq,Prod.mk.injEq] at h3;obtain ⟨rfl,rfl,rfl⟩:=h3
 have EZ:pP ts:=by
  obtain ⟨iz,c',z',k1,k2,k3,k4⟩:=nL (jJ cM dk p l) ((jJ cM dk p l).length+1) 0 [] (aY _) ak (fun t h=>by simp at h) .nil (fun t h=>by simp at h) (aD _);rw [hr.lex] at k1;cases k1;exact k3
 obtain ⟨h4,h5⟩:=I EZ ((jJ cM dk p l).length:Int) (ts.length+1) (40 * ts.length+100) (aD _) (aD _)
 have cp:((p.fns.zip ls).all fun x=>dc x.2 1)=ls.all fun b=>dc b 1:=by
  have:ls=(p.fns.zip ls).map Prod.snd:=(vM _ _ ak).symm
  conv=>rhs;rw [this]
  rw [List.all_map];rfl
 rw [cp] at h4 h5;refine ⟨rfl,fun jI=>?_,fun jI=>?_⟩
 ·obtain ⟨q',l',k1,k2,k3⟩:=h4 jI;rw [hr.read] at k1;simp only [Option.some.injEq,Prod.mk.injEq] at k1;obtain ⟨rfl,rfl⟩:=k1
  have e1:((p.fns.zip ls).map fun x=>aZ x.2)=ls.map aZ:=by
   have:ls=(p.fns.zip ls).map Prod.snd:=(vM _ _ ak).symm
   conv=>rhs;rw [this]
   rw [map_map];rfl
  have e2:((p.fns.zip ls).map fun x=>(x.1.name,x.1.params))=p.fns.map fun x=>(x.name,x.params):=by
   have:p.fns=(p.fns.zip ls).map Prod.fst:=(zip_fst _ _ ak).symm
   conv=>rhs;rw [this]
   rw [map_map];rfl
  have he:aK l'=aK l:=by rw [k3,e1,C5 hf]
  refine ⟨k2,?_,?_⟩
  ·simp only;rw [<-og,he,og,h.len];exact h.few
  ·rw [e2];exact Uo (ls:=ls) h he
 ·obtain ⟨q',c9,k1,k2⟩:=h5 jI;rw [hr.read] at k1;simp only [Option.some.injEq,Prod.mk.injEq] at k1;obtain ⟨rfl,rfl⟩:=k1;exact k2
theorem BS {α:Type} {p:α->α->Bool} {a b:List α} (h:eU p a b=true) {x:α} (hx:x∈a):∃ y∈b,p x y=true:=by
 obtain ⟨i,hi⟩:=List.getElem?_of_mem hx;have hl:=uQ h;have ar:=(bh hi).1
 have hb:b[i]?=some (b[i]'ak):=by simp [<-hl,ar]
 exact ⟨_,bM hb,Ep hi hb h⟩
theorem JU {p:Src} {l:List T} (hn:p.nodes.length<=800) (hb:lh p.nodes p.fns 0 []=some (l,p.nodes.length)) {st:PS} (ei:BB st) (hs:same p st=true):b8 p l:=by
 obtain ⟨l',D,I,h3,h4,h5⟩:=BO _ _ _ _ _ hb;rw [nil_append] at D;subst D;unfold same at hs;simp only [au] at hs;obtain ⟨s1,s2,s3,s4⟩:=hs
 have hz:aB l=p.nodes.length:=by omega
 have To:=da.all I hz;rw [To] at s4
 have hlen:l.length=st.trees.length:=by
  have a1:=dH.len h3;have a2:=uQ s3;unfold iU at a2;rw [List.length_mapIdx] at a2;have:=ei.len;omega
 have he:=RF hlen s4
 have HH:∀ f∈p.fns,bC f.name=true/\cy f.params=true:=by
  intro f hf;obtain ⟨g,hg,hp⟩:=BS s3 hf;unfold iU at hg;obtain ⟨i,hi⟩:=List.getElem?_of_mem hg;rw [List.getElem?_mapIdx] at hi
  cases hx:st.fns[i]? with
  | none=>rw [hx] at hi;cases hi
  | some x =>
   rw [hx] at hi;cases hi;simp only [rf,au,beq_iff_eq] at hp;obtain ⟨⟨k1,k2⟩,_⟩:=hp;obtain ⟨k3,k4⟩:=ei.fns x (bM hx);rw [k1,yf k2];exact ⟨k3,k4⟩
 have Wp:∀ t∈l,t.n.kind=14/\cX t=true:=by
  intro t ht
  have h6:er t∈aK l:=by rw [sy];exact List.mem_map_of_mem ht
  rw [he,sy] at h6;obtain ⟨u,hu,h7⟩:=yJ.1 h6;obtain ⟨b,k1,k2⟩:=ei.trees u hu;rw [h7] at k2
  have pY:jn t:=by
   have:∀ l:List T,cz l->t∈l->jn t:=by
    intro l
    induction l with
    | nil=>intro _ h;cases h
    | cons v l ih =>
     intro h hm;rw [cz] at h
     rcases ew hm with rfl | hm
     ·exact h.1
     ·exact ih h.2 hm
   exact this l h5 ht
  refine ⟨?_,An t (by rw [k2];exact S.pk b k1) pY⟩;have:=congrArg (fun x=>x.n.kind) k2;simp only [rV] at this;exact this
 refine ⟨?_,?_,I,dH.mono h3 fun f t hf ht _=>⟨(HH f hf).1,(HH f hf).2,(Wp t ht).1,(Wp t ht).2⟩,hz,hn⟩
 ·rw [yf s1];exact ei.globals
 ·rw [fV];intro a ha;obtain ⟨b,hb,hp⟩:=BS s2 ha;have h6:=fV.1 ei.arrays b hb;simp only [yR,au,beq_iff_eq] at hp;unfold nA at h6 |-;rw [hp.1,hp.2];exact h6
def aV {α:Type} (f:α->Nat):List α->Nat
 | []=>0
 | x::l=>f x+aV f l
theorem nS {α:Type} (f:α->Nat) (a b:List α):aV f (a++b)=aV f a+aV f b:=by
 induction a with
 | nil=>simp [aV]
 | cons x a ih=>simp only [cons_append,aV,ih];omega
theorem CG {α:Type} {f g:α->Nat} {l:List α} (h:∀ x∈l,f x<=g x):aV f l<=aV g l:=by
 induction l with
 | nil=>exact aD _
 | cons x l ih =>
  have D:=h x mem_cons_self
  have I:=ih fun y hy=>h y (di _ hy)
  simp only [aV];omega
theorem pg {α:Type} {f:α->Nat} {l:List α} {x:α} (h:x∈l):f x<=aV f l:=by
 induction l with
 | nil=>cases h
 | cons y l ih =>
  rw [aV]
  rcases ew h with rfl | h
  ·omega
  ·have:=ih h;omega
theorem fx {α:Type} {f g:α->Nat} {k:Nat} {l:List α} (h:∀ x∈l,f x<=k * g x):aV f l<=k * aV g l:=by
 induction l with
 | nil=>exact aY _
 | cons x l ih =>
  have D:=h x mem_cons_self
  have I:=ih fun y hy=>h y (di _ hy)
  simp only [aV,Nat.mul_add];omega
theorem tI {α:Type} (f:α->Nat) (l:List α) (h:∀ x∈l,1<=f x):l.length<=aV f l:=by
 induction l with
 | nil=>exact aY _
 | cons x l ih =>
  have D:=h x mem_cons_self
  have I:=ih fun y hy=>h y (di _ hy)
  rw [aV,length_cons];omega
theorem wL {α β:Type} (f:α->Nat) (g:β->Nat):∀ (a:List α) (b:List β),aV (fun x:α × β=>f x.1+g x.2) (a.zip b)<=aV f a+aV g b
 | [],b=>by simp [aV]
 | x::a,[]=>by simp [aV]
 | x::a,y::b=>by
  have:=wL f g a b;simp only [zip_cons_cons,aV] at *;omega
theorem lj {α:Type} (f:α->ae):∀ (l:List α) (acc:ae),(bH f acc l).length=acc.length+aV (fun x=>(f x).length) l
 | [],acc=>by simp [bH,aV]
 | x::l,acc=>by rw [bH,lj f l,aJ,aV];omega
def lG (n:Nd):Nat:=n.s.length+60
mutual
theorem Nf:∀ (t:T) (a:Nat),gw t=aV lG (fQ a t)
 | .mk n l,a=>by rw [gw,fQ,aV,vL l (a+1),lG]
theorem vL:∀ (l:List T) (a:Nat),eY l=aV lG (cD a l)
 | [],a=>rfl
 | t::r,a=>by rw [eY,cD,nS,Nf t a,vL r (a+aQ t)]
end
def wi (l:List T) (i:Nat):Nat:=match l[i]? with | some t=>gw t | none=>0
theorem Pq (l:List T):wi l 0+wi l 1+wi l 2<=eY l:=by
 match l with
 | []=>simp [wi]
 | [a]=>simp only [wi,eY];simp
 | [a,b]=>simp only [wi,eY];simp
 | a::b::c::r=>simp only [wi,eY];simp;omega
theorem uZ {l:List T} {f:T->ae} (h:∀ t∈l,(f t).length<=gw t) (i:Nat):((l.map f).getD i []).length<=wi l i:=by
 rw [List.getD_eq_getElem?_getD,bP];unfold wi
 cases hi:l[i]? with
 | none=>simp
 | some t=>exact h t (bM hi)
theorem vI {l:List T} {t:T} (h:t∈l):aQ t<=aB l:=by
 induction l with
 | nil=>cases h
 | cons a l ih =>
  rw [aB]
  rcases ew h with rfl | h
  ·omega
  ·have:=ih h;omega
theorem CH {f:T->ae}:∀ {l:List T},(∀ t∈l,(f t).length+4<=gw t)->ko (l.map f)<=eY l
 | [],_=>aY _
 | t::l,h=>by
  have D:=h t mem_cons_self
  have I:=CH (l:=l) fun y hy=>h y (di _ hy)
  rw [List.map_cons,ko,eY];omega
theorem Uu:∀ (N:Nat) (t:T),aQ t<=N->nO t->∀ d,(eb cM dk d t).length+4<=gw t/\(iT cM dk d t).length<=gw t:=by
 intro N
 induction N with
 | zero=>intro t h;have:=iQ t;omega
 | succ N ih =>
  intro t hN hn d;have fJ:=eg t;rw [l6] at hn
  have hk:∀ a∈t.kids,∀ d,(eb cM dk d a).length+4<=gw a/\(iT cM dk d a).length<=gw a:=fun a ha d=>ih a zfJ (eC hn.2 ha) d
  have hx:=uZ (l:=t.kids) (f:=cM) (fun a ha=>by have:=sJ (aQ a) a (aD _) (eC hn.2 ha);omega);have hb:=uZ (l:=t.kids) (f:=iT cM dk d) (fun a ha=>(hk a ha d).2);have h3:=Pq t.kids;have hw:=jC t;have gz:=sJ (aQ t) t (aD _) ((l6 t).2 hn);have x0:=hx 0;have x1:=hx 1;have b1:=hb 1;have b2:=hb 2;constructor
  ·rw [F1,BN];unfold kX;split
   ·exact zab
   split
   ·exact zab
   split
   ·exact zab
   split
   ·split
    ·exact zab
    ·exact zab
   split
   ·exact zab
   split
   ·exact zab
   split
   ·exact zab
   ·omega
  ·rw [Eh,CE]
   have:=CH (f:=eb cM dk (d+1)) (l:=t.kids) fun a ha=>(hk a ha (d+1)).1
   have e:∀ l:List ae,(dk l d).length=3+ko l:=fun l=>by
    unfold dk;rw [aJ,qD];exact zdq
   rw [e];omega
def wS (l:List ae):Nat:=aV (fun s=>s.length+1) l
def cv (p:Src):Nat:=wS p.globals+aV (fun a:Ar=>a.name.length+1) p.arrays+aV (fun f:Fn=>f.name.length+wS f.params+1) p.fns+aV (fun n:Nd=>n.s.length+n.kids.length+1) p.nodes
structure gY (p:Src):Prop where
 arrays:∀ a∈p.arrays,-9223372036854775808<=a.size/\a.size<=9223372036854775807
 nodes:∀ n∈p.nodes,-9223372036854775808<=n.n/\n.n<=9223372036854775807
mutual
theorem eL.num {nodes:List Nd} (h:∀ n∈nodes,-9223372036854775808<=n.n/\n.n<=9223372036854775807):∀ (t:T) (a:Nat),eL nodes a t->nO t
 | .mk n l,a,hs=>by
  rw [eL] at hs;rw [nO];exact ⟨h n (bM hs.1),da.num h l _ hs.2.2⟩
theorem da.num {nodes:List Nd} (h:∀ n∈nodes,-9223372036854775808<=n.n/\n.n<=9223372036854775807):∀ (l:List T) (a:Nat),da nodes a l->oY l
 | [],a,_=>trivial
 | t::r,a,hs=>by
  rw [da] at hs;rw [oY];exact ⟨eL.num h t a hs.1,da.num h r _ hs.2⟩
end
theorem wM (l:List ae):(l.map fun y=>y.length+2).sum=aV (fun s=>s.length+2) l:=by
 induction l with
 | nil=>rfl
 | cons s l ih=>rw [List.map_cons,List.sum_cons,ih,aV]
theorem Ae (l:List T):eY l=aV gw l:=by
 induction l with
 | nil=>rfl
 | cons t l ih=>rw [eY,aV,ih]
theorem Rb {p:Src} {l:List T} (hn:gY p) (hs:da p.nodes 0 l) (hz:aB l=p.nodes.length):(jJ cM dk p l).length<=100 * cv p:=by
 have hY:=da.num hn.nodes l 0 hs
 have e1:aV (fun s=>(g1 s).length) p.globals<=100 * wS p.globals:=fx fun s _=>by simp only [g1,aJ,length_cons,length_nil];omega
 have e2:aV (fun a=>(a1 a).length) p.arrays<=100 * aV (fun a:Ar=>a.name.length+1) p.arrays:=fx fun a ha=>by
  have:=pH (hn.arrays a ha);exact zcR
 have e3:aV (fun x=>(cI cM dk x).length) (p.fns.zip l)<=aV (fun x:Fn × T=>(fun f:Fn=>100 * (f.name.length+wS f.params+1)) x.1+gw x.2) (p.fns.zip l):=CG fun x hx=>by
  have D:=(Uu (aQ x.2) x.2 (aD _) (eC hY (List.of_mem_zip hx).2) 0).2;have I:=nI x.1.params;rw [wM] at I
  have h3:aV (fun s=>s.length+2) x.1.params<=2 * wS x.1.params:=fx fun s _=>by omega
  simp only [cI,aJ,length_cons,length_nil];omega
 have e4:=wL (fun f:Fn=>100 * (f.name.length+wS f.params+1)) gw p.fns l
 have e5:aV (fun f:Fn=>100 * (f.name.length+wS f.params+1)) p.fns<=100 * aV (fun f:Fn=>f.name.length+wS f.params+1) p.fns:=fx fun f _=>aD _
 have e6:aV lG p.nodes<=100 * aV (fun n:Nd=>n.s.length+n.kids.length+1) p.nodes:=fx fun n _=>by unfold lG;omega
 have e7:aV gw l=aV lG p.nodes:=by rw [<-Ae,vL l 0,<-da.all hs hz]
 unfold jJ cv;rw [lj,lj,lj];simp only [length_nil];have e8:=gm e3 e4;generalize aV (fun x=>(cI cM dk x).length) (p.fns.zip l)=v3 at *;exact zaP
theorem tK {p:Src} {l:List T} (hs:da p.nodes 0 l) (hz:aB l=p.nodes.length):∀ t∈l,gw t<=100 * cv p/\aQ t<=cv p:=fun t ht=>by
 have e6:aV lG p.nodes<=100 * aV (fun n:Nd=>n.s.length+n.kids.length+1) p.nodes:=fx fun n _=>by unfold lG;omega
 have e7:aV gw l=aV lG p.nodes:=by rw [<-Ae,vL l 0,<-da.all hs hz]
 have e8:=pg (f:=gw) ht;have e9:=vI ht
 have V0:=tI (fun n:Nd=>n.s.length+n.kids.length+1) p.nodes fun n _=>by omega
 unfold cv;omega
theorem MU (l:List ae):l.length<=wS l:=tI _ l fun s _=>by omega
theorem MV {l:List ae} {s:ae} (h:s∈l):s.length+1<=wS l:=pg (f:=fun s:ae=>s.length+1) h
structure Small (p:Src) (n:Nat):Prop where
 globals:p.globals.length<=n/\∀ s∈p.globals,s.length<=n
 arrays:p.arrays.length<=n/\∀ a∈p.arrays,a.name.length<=n
 fns:p.fns.length<=n/\∀ f∈p.fns,f.name.length<=n/\f.params.length<=n/\∀ s∈f.params,s.length<=n
 nodes:p.nodes.length<=n/\∀ x∈p.nodes,x.s.length<=n/\x.kids.length<=n
theorem sI (p:Src):Small p (cv p):=by
 have a1:=MU p.globals
 have a2:=tI (fun a:Ar=>a.name.length+1) p.arrays fun a _=>by omega
 have a3:=tI (fun f:Fn=>f.name.length+wS f.params+1) p.fns fun a _=>by omega
 have a4:=tI (fun n:Nd=>n.s.length+n.kids.length+1) p.nodes fun a _=>by omega
 unfold cv;refine ⟨⟨by omega,fun s hs=>?_⟩,⟨by omega,fun a ha=>?_⟩,⟨by omega,fun f hf=>?_⟩,⟨by omega,fun n hn=>?_⟩⟩
 ·have:=MV hs;omega
 ·have:=pg (f:=fun a:Ar=>a.name.length+1) ha;omega
 ·have:=pg (f:=fun f:Fn=>f.name.length+wS f.params+1) hf;refine ⟨by omega,by have:=MU f.params;omega,fun s hs=>by have:=MV hs;omega⟩
 ·have:=pg (f:=fun n:Nd=>n.s.length+n.kids.length+1) hn;exact ⟨by omega,by omega⟩
structure zq (st:PS) (n:Nat):Prop where
 globals:st.globals.length<=n
 arrays:st.arrays.length<=n
 fns:st.fns.length<=n
 params:∀ x∈st.fns,x.2.length<=n
theorem LQ:∀ (f:Nat) (acc:List ae) (p:RS) (l:List ae) (q:RS),oP f acc p=some (l,q)->l.length<=acc.length+f
 | 0,_,_,_,_,h=>by cases h
 | f+1,acc,p,l,q,h=>by
  rw [oP] at h;split at h
  ·have:=LQ f _ _ l q h;rw [aJ,length_cons,length_nil] at this;omega
  ·cases h;omega
theorem zq.up {st:PS} {n:Nat} (h:zq st n):zq st (n+1):=by
 obtain ⟨a,b,c,d⟩:=h;exact zdu
theorem Vc {f n:Nat} {p q:RS} {st c9:PS} (hf:f<=n) (h:iW f p st=some (q,c9)) (hs:zq st n):zq c9 (n+1):=by
 have key:=hs.up;obtain ⟨a,b,c,d⟩:=hs;unfold iW at h;split at h
 ·split at h
  ·split at h
   ·cases h;exact zcK
   ·cases h;exact key
  ·cases h;exact zcK
 ·split at h
  ·cases hm:oP f [] (want (bx p.next) [40]) with
   | none=>rw [hm] at h;cases h
   | some r =>
    obtain ⟨l,q1⟩:=r;rw [hm] at h;simp only at h;have hl:=LQ _ _ _ _ _ hm;split at h
    ·split at h
     ·cases h
     ·cases h;refine ⟨by simp;omega,by simp;omega,by simp;omega,fun x hx=>?_⟩
      rcases nY hx with hx | hx
      ·have:=d x hx;omega
      ·rw [mem_singleton] at hx;subst hx;simp at hl |-;omega
    ·cases h;exact key
  ·cases h;exact key
theorem LS {f:Nat}:∀ (G n:Nat) (p q:RS) (st c9:PS),f<=n->kD G f p st=some (q,c9)->zq st n->zq c9 (n+G)
 | 0,n,p,q,st,c9,_,h,_=>by cases h
 | G+1,n,p,q,st,c9,hf,h,hs=>by
  rw [kD] at h;split at h
  ·cases hw:iW f p st with
   | none=>rw [hw] at h;cases h
   | some r =>
    obtain ⟨q1,s1⟩:=r;rw [hw] at h;simp only at h;have:=LS G (n+1) q1 q s1 c9 ak h (Vc hf hw hs);rw [show n+(G+1)=n+1+G by omega];exact this
  ·cases h;obtain ⟨a,b,c,d⟩:=hs;exact zdu
mutual
theorem N6:∀ (t:T) (a:Nat),∀ n∈fQ a t,n.kids.length<=aQ t
 | .mk m l,a,n,h=>by
  rw [fQ] at h;rw [aQ]
  rcases ew h with rfl | h
  ·simp only [my];have:=jK l;omega
  ·have:=zE l (a+1) n h;omega
theorem zE:∀ (l:List T) (a:Nat),∀ n∈cD a l,n.kids.length<=aB l
 | [],a,n,h=>by rw [cD] at h;cases h
 | t::r,a,n,h=>by
  rw [cD] at h;rw [aB]
  rcases nY h with h | h
  ·have:=N6 t a n h;omega
  ·have:=zE r _ n h;omega
end
end Go.Im
namespace Go.Sp
open Go.Xp
structure DX (p:Src) (ls:List (List S)):Prop where
 len:ls.length=p.fns.length
 at_:∀ (i:Nat) f l,p.fns[i]?=some f->ls[i]?=some l->0<=f.body/\S.bW l=true/\wt (aZ l)<=1000000000/\∃ t,sub p.nodes (fN p.nodes) f.body.toNat=some t/\er t=aZ l
theorem Ik (a:E) (ho:a.ok=true):(a.txt).length+4<=wt a.tree:=(E.len a ho).1
theorem QP {l:List S} (ho:S.bW l=true) (hw:wt (aZ l)<=1000000000) :
  ∃ ts t q f,Go.Sp.eI (dD E.txt l)=some ts/\(dD E.txt l).length<=1000000000/\ts.length<=1000000000/\1+f<=1099511627776/\mS f (.block 1) ⟨ts,0,(dD E.txt l).length,0,0⟩=some (t,q)/\q.l=ts/\((q.code=0/\q.i=ts.length/\dc l 1=true)\/(q.code≠0/\dc l 1=false)):=by
 have hlen:=sr E.txt Ik ho;generalize hx:dD E.txt l=x at *;obtain ⟨ts,D,I⟩:=(H6 ho).all;rw [hx] at I;have h3:=I.len;have qw:On ⟨ts,0,x.length,0,0⟩ ts:=⟨rfl,aY _,rfl,I.kinds⟩;have bZ:rs (x.length:Int) (mO ts) (.block 1) ts≠.error be:=vS;obtain ⟨t,q,h4,h5⟩:=(js (mO ts)).block 1 ts _ qw bZ;have LD:=zx (e:=(x.length:Int)) (d:=1) (rest:=[]) ho D;rw [fk] at LD
 change jm _ q t (block (x.length:Int) 1 ts) at h5
 refine ⟨ts,t,q,KF (mO ts),I.all,by omega,by omega,by unfold KF mO;omega,h4 _ (aD _),?_⟩
 cases hf:dc l 1 with
 | true =>
  obtain ⟨t',_,h6⟩:=LD.1 hf;rw [h6] at h5;obtain ⟨_,h7,h8,_⟩:=h5;have h8:q.l=ts:=h8;refine ⟨h8,.inl ⟨h7.code,?_,rfl⟩⟩;have hr:=congrArg List.length h7.rest;have hle:=h7.le;rw [jw] at hr;rw [h8] at hr hle;simp only [length_nil] at hr;omega
 | false =>
  obtain ⟨pos,h6⟩:=LD.2 hf;rw [h6] at h5;exact ⟨h5.2.2.2.1,.inr ⟨bV.err h5,rfl⟩⟩
end Go.Sp
namespace Go.Im
open Go.Xp Go.Sp
def JT (p:Src) (x:ae):Bool:=match oB x (x.length+1) 0 [] with
 | none=>false
 | some (ts,c,z)=>if c≠0 then false else match kD (ts.length+1) (40 * ts.length+100) ⟨ts,0,(x.length:Int),0,0⟩ .empty with
  | none=>false
  | some (q,st)=>if q.code≠0 then false else if aB st.trees > 800 then false else same p st
def fI (p:Src):Bool:=if p.nodes.length > 800 then false else match lh p.nodes p.fns 0 [] with
 | none=>false
 | some (l,e)=>if e≠p.nodes.length then false else if l.all gq=false then false else JT p (jJ cM dk p l)
theorem zX {p:Src} {x:ae} {ts:List Tok} {c z:Int} {q:RS} {st:PS} (h:Reads x ts c z q st):JT p x=if c≠0 then false else if q.code≠0 then false else if aB st.trees > 800 then false else same p st:=by
 unfold JT;rw [h.lex];simp only;rw [h.read]
theorem Ew {p:Src} {l:List T} {ls:List (List S)} (h:b8 p l) (hf:Forms l ls):fI p=ls.all fun b=>dc b 1:=by
 unfold fI;have h8:=h.few;rw [ad ak,h.Kz];simp only;rw [ad zeL,ad (by rw [h.k];decide)];obtain ⟨ts,c,z,q,st,hr⟩:=reads (jJ cM dk p l);obtain ⟨D,I,h3⟩:=J2 h hf hr;rw [zX hr,ad ze7]
 cases hb:ls.all fun b=>dc b 1 with
 | false=>rw [ah (h3 hb)]
 | true =>
  obtain ⟨k1,k2,k3⟩:=I hb;rw [ad (by simpa using k1),ad ak,k3]
theorem kL {p:Src} (h:fI p=true):∃ l,b8 p l:=by
 unfold fI at h
 by_cases h8:p.nodes.length > 800
 ·rw [ah h8] at h;cases h
 rw [ad h8] at h
 cases hb:lh p.nodes p.fns 0 [] with
 | none=>exact zaS
 | some y =>
  obtain ⟨l,e⟩:=y;rw [hb] at h;simp only at h
  by_cases he:e=p.nodes.length
  ·subst he;rw [ad zeL] at h
   by_cases hk:l.all gq=false
   ·rw [ah hk] at h;cases h
   rw [ad hk] at h;obtain ⟨ts,c,z,q,st,hr⟩:=reads (jJ cM dk p l);rw [zX hr] at h;split at h
   ·cases h
   split at h
   ·cases h
   ·rename_i hc;split at h
    ·cases h
    ·exact ⟨l,JU ak hb (hr.ok zfu).1 h⟩
  ·rw [ah he] at h;cases h
theorem W4 {p:Src} (h:od p=some false):fI p=false:=by
 cases hf:fI p with
 | false=>rfl
 | true =>
  obtain ⟨l,D⟩:=kL hf;rw [D.od] at h;cases h
theorem da.ix {nodes:List Nd}:∀ (l:List T) (a i:Nat) (t:T),da nodes a l->l[i]?=some t->eL nodes (a+aB (l.take i)) t
 | [],a,i,t,_,h=>by simp at h
 | u::r,a,0,t,h,hi=>by
  cases hi;rw [da] at h;exact h.1
 | u::r,a,i+1,t,h,hi=>by
  rw [da] at h;have:=da.ix r (a+aQ u) i t h.2 (by simpa using hi);rw [List.take_succ_cons,aB,<-iD];exact this
mutual
theorem Bx:∀ t:T,wt t<=gw t
 | .mk n l=>by have:=Gj l;rw [wt,gw];omega
theorem Gj:∀ l:List T,dJ l<=eY l
 | []=>aD _
 | t::r=>by have:=Bx t;have:=Gj r;rw [dJ,eY];omega
end
theorem C0 {p:Src} {l:List T} {ls:List (List S)} (h:b8 p l) (hf:Forms l ls) (hw:cv p<=1048576):DX p ls:=by
 have hl:=dH.len h.fns;refine ⟨by rw [hf.len];omega,fun i f b D I=>?_⟩;have hi:=(bh I).1;have hlen:=hf.len
 have ht:l[i]?=some (l[i]'ak):=by simp [<-hlen,hi]
 obtain ⟨h3,h4⟩:=hf.at_ i _ b ht I;obtain ⟨h5,h6⟩:=dH.at_ h.fns i f _ D ht;have h7:=da.ix l 0 i _ h.st ht;rw [eo] at h5 h7;have hm:=bM ht;have h8:=tK h.st h.len _ hm;have h9:=Bx (l[i]'ak);have ly:=eL.le _ _ h7;refine ⟨by omega,h3,by rw [<-h4,DV];omega,_,?_,h4⟩;rw [h5,mI];exact (xU _).1 _ _ h7 ze5
end Go.Im
