/- Part 2 of proofs that are told in their last texts. -/
import Derived.Test.YtfahcenafcklmaaGreatDoorZ1
open List (cons_append length_cons)
set_option linter.unusedVariables false
set_option linter.unusedSimpArgs false
set_option maxRecDepth 100000
namespace Go.Xp
theorem VC (e:Int):∀ f,(∀ j ts,rd e f j ts=.error be\/rd e (f+1) j ts=rd e f j ts)/\(∀ d acc ts,rd.args e f d acc ts=.error be\/rd.args e (f+1) d acc ts=rd.args e f d acc ts):=by
 intro f
 induction f with
 | zero=>exact ⟨fun j ts=>.inl (by simp [rd]),fun d acc ts=>.inl (by simp [rd.args])⟩
 | succ f ih =>
  obtain ⟨i1,i2⟩:=ih;refine ⟨fun j ts=>?_,fun d acc ts=>?_⟩
  ·rw [rd.eq_def e (f+1+1),rd.eq_def e (f+1)]
   cases j with
   | expr d =>
    simp only;split
    ·exact zbd
    ·exact i1 _ _
   | level k d =>
    simp only;split
    ·exact i1 _ _
    ·rcases i1 (.level (k+1) d) ts with h | h
     ·left;rw [h]
     ·rw [h]
      cases rd e f (.level (k+1) d) ts with
      | error x=>exact zbd
      | ok r=>exact i1 _ _
   | loop k d out =>
    cases ts with
    | nil=>exact zbd
    | cons t r =>
     simp only;split
     ·rcases i1 (.level (k+1) d) r with h | h
      ·left;rw [h]
      ·rw [h]
       cases rd e f (.level (k+1) d) r with
       | error x=>exact zbd
       | ok r=>exact i1 _ _
     ·exact zbd
   | operand d =>
    simp only;split
    ·exact zbd
    ·cases ts with
     | nil=>exact zbd
     | cons t r =>
      simp only;split
      ·split
       ·rcases i1 (.operand (d+1)) r with h | h
        ·left;rw [h]
        ·rw [h];exact zbd
       ·split
        ·rcases i1 (.expr (d+1)) r with h | h
         ·left;rw [h]
         ·rw [h];exact zbd
        ·exact zbd
      ·split
       ·exact zbd
       ·cases name e (t::r) with
        | error x=>exact zbd
        | ok y =>
         obtain ⟨s,r⟩:=y;simp only;split
         ·rcases i1 (.expr (d+1)) r.tail with h | h
          ·left;rw [h]
          ·rw [h];exact zbd
         ·split
          ·rcases i2 (d+1) [] r.tail with h | h
           ·left;rw [h]
           ·rw [h];exact zbd
          ·exact zbd
  ·rw [rd.args,rd.args];split
   ·exact zbd
   ·cases (if acc=[] then .ok ts else aI e [44] ts:Except Er (List Tok)) with
    | error x=>exact zbd
    | ok ts =>
     simp only
     rcases i1 (.expr d) ts with h | h
     ·left;rw [h]
     ·rw [h]
      cases rd e f (.expr d) ts with
      | error x=>exact zbd
      | ok y=>exact i2 _ _ _
theorem Ir {e:Int} {f f':Nat} {j:sM} {ts:List Tok} (h:rd e f j ts≠.error be) (hf:f<=f'):rd e f' j ts=rd e f j ts:=by
 obtain ⟨k,rfl⟩:=Nat.exists_eq_add_of_le hf;clear hf
 induction k with
 | zero=>rfl
 | succ k ih =>
  rcases (VC e (f+k)).1 j ts with D | D
  ·rw [ih] at D;exact absurd D h
  ·rw [<-iD,D,ih]
theorem BU {e:Int} {f d:Nat} {ts:List Tok} (h:20 * ts.length+12<=f):rd e f (.expr d) ts=expr e d ts:=by
 have h0:rd e (20 * ts.length+12) (.expr d) ts≠.error be:=yx (j:=.expr d) trivial (aD _);rw [Ir h0 h];unfold expr mO;exact (Ir h0 ak).symm
def VS (t:T):Prop:=t.n.kind=3->∃ a,t.kids=[a]
theorem Mp (e:Int):∀ f j,(∀ k d out,j≠.loop k d out)->∀ t r,rd e f j []≠.ok (t,r):=by
 intro f
 induction f with
 | zero=>intro j _ t r h;simp [rd] at h
 | succ f ih =>
  intro j hj t r h;rw [rd.eq_def] at h
  cases j with
  | expr d =>
   simp only at h;split at h
   ·cases h
   ·exact ih _ (fun k d out h=>by cases h) _ _ h
  | level k d =>
   simp only at h;split at h
   ·exact ih _ (fun k d out h=>by cases h) _ _ h
   ·split at h
    ·cases h
    ·rename_i he;exact ih _ (fun k d out h=>by cases h) _ _ he
  | loop k d out=>exact hj _ _ _ rfl
  | operand d =>
   simp only at h;exact zed
theorem Mo (e:Int):∀ f j ts t r,(∀ k d out,j=.loop k d out->VS out)->rd e f j ts=.ok (t,r)->VS t:=by
 intro f
 induction f with
 | zero=>intro j ts t r _ h;simp [rd] at h
 | succ f ih =>
  intro j ts t r hj h;rw [rd.eq_def] at h
  cases j with
  | expr d =>
   simp only at h;split at h
   ·cases h
   ·exact ih _ _ _ _ (fun k d out h=>by cases h) h
  | level k d =>
   simp only at h;split at h
   ·exact ih _ _ _ _ (fun k d out h=>by cases h) h
   ·split at h
    ·cases h
    ·rename_i out iz he;exact ih _ _ _ _ (fun k' d' X0 lA=>by cases lA;exact ih _ _ _ _ (fun k d out h=>by cases h) he) h
  | loop k d out =>
   cases ts with
   | nil=>cases h;exact hj k d _ rfl
   | cons a r' =>
    simp only at h;split at h
    ·split at h
     ·cases h
     ·exact ih _ _ _ _ (fun k' d' X0 lA=>by cases lA;intro h3;exact absurd h3 (by simp [one,T.n])) h
    ·cases h;exact hj k d _ rfl
  | operand d =>
   simp only at h;split at h
   ·cases h
   ·cases ts with
    | nil=>cases h
    | cons a r' =>
     simp only at h;split at h
     ·split at h
      ·split at h
       ·cases h
       ·cases h;intro h3;exact zee
      ·split at h
       ·split at h
        ·cases h
        ·rename_i he;split at h
         ·cases h
         ·cases h;exact ih _ _ _ _ (fun k d out h=>by cases h) he
       ·cases h
     ·split at h
      ·cases h;intro h3;exact absurd h3 (by simp [T.n])
      ·split at h
       ·cases h
       ·split at h
        ·split at h
         ·cases h
         ·split at h
          ·cases h
          ·cases h;exact fun _=>⟨_,rfl⟩
        ·split at h
         ·split at h
          ·cases h
          ·cases h;intro h3;exact zee
         ·cases h;intro h3;exact zee
end Go.Xp
namespace Go.Sp
open Go.Xp
theorem Vh {d:Nat} {ts:List Tok} {p:RS} (hp:On p ts):∃ t q,mX d p=some (t,q)/\jm p q t (expr p.e d ts):=by
 have hl:ts.length<=p.l.length:=by rw [<-hp.rest,jw];omega
 have hf:rd p.e (20 * ts.length+12) (.expr d) ts≠.error be:=yx (j:=.expr d) trivial (aD _);obtain ⟨t,q,D,I⟩:=(je _).expr d ts p hp hf;rw [BU (aD _)] at I;exact ⟨t,q,D _ (by unfold KF fe;omega),I⟩
theorem Fu {d:Nat} {p:RS} (h:p.code≠0):mX d p=some (T.zero,p):=TV h (by unfold fe;omega)
theorem Ft {p:RS} (h:p.code≠0) {g d:Nat} (hg:2<=g):mS g (.block d) p=some (one 14 p.place [] [],p):=by
 obtain ⟨g,rfl⟩:∃ g',g=g'+2:=⟨g - 2,by omega⟩;rw [mS,qF h,gC h ai];simp only [mB,h,false_and,if_false];rw [gC h ai]
theorem MF {p:RS} (h:p.code≠0) {g d:Nat} (hg:1<=g):mS g (.stmt d) p=some (one 12 p.place [] [T.zero],p):=by
 obtain ⟨g,rfl⟩:∃ g',g=g'+1:=⟨g - 1,by omega⟩;rw [mS,qF h];simp only [lu h];rw [ad ai,ad ai,ad ai,ad (fun x=>h x.1),Fu h]
 have Yv:¬ (T.zero.n.kind=3/\T.zero.n.at_=p.place/\p.sign 0=[61]):=fun x=>absurd x.1 ai
 simp only;rw [ad Yv,gC h ai]
structure X9 (f:Nat):Prop where
 block:∀ d ts p,On p ts->rs p.e f (.block d) ts≠.error be->∃ t q,(∀ g,KF f<=g->mS g (.block d) p=some (t,q))/\jm p q t (rs p.e f (.block d) ts)
 stmt:∀ d ts p,On p ts->rs p.e f (.stmt d) ts≠.error be->∃ t q,(∀ g,KF f<=g->mS g (.stmt d) p=some (t,q))/\jm p q t (rs p.e f (.stmt d) ts)
 body:∀ d acc ts p,On p ts->rs.body p.e f d acc ts≠.error be->∃ t q,(∀ g,KF f<=g->mB g d acc p=some (t,q))/\jm p (q.aI [125]) t (rs.body p.e f d acc ts)
theorem JG {d:Nat} {ts:List Tok} {p:RS} (hp:On p ts):(∃ t q r,mX d p=some (t,q)/\expr p.e d ts=.ok (t,r)/\bV p q (.ok r))\/(∃ t q x,mX d p=some (t,q)/\expr p.e d ts=.error x/\bV p q (.error x)):=by
 obtain ⟨t,q,D,I⟩:=Vh (d:=d) hp
 cases he:expr p.e d ts with
 | error x=>rw [he] at I;exact .inr ⟨t,q,x,D,rfl,I⟩
 | ok y =>
  obtain ⟨t',r⟩:=y;rw [he] at I;obtain ⟨rfl,I⟩:=I;exact .inl ⟨t,q,r,D,rfl,I⟩
theorem yv {s:ae} {ts:List Tok} {p:RS} (hp:On p ts) (hs:s≠[]):(∃ r,Go.Xp.aI p.e s ts=.ok r/\bV p (p.aI s) (.ok r))\/(∃ x,Go.Xp.aI p.e s ts=.error x/\bV p (p.aI s) (.error x)):=by
 have h:=hp.aI hs
 cases he:Go.Xp.aI p.e s ts with
 | ok r=>rw [he] at h;exact .inl ⟨r,rfl,h⟩
 | error x=>exact zdV
theorem Rp {ts:List Tok} {p:RS} (hp:On p ts):(∃ r,Go.Xp.name p.e ts=.ok (p.name.1,r)/\bV p p.name.2 (.ok r))\/(∃ x,Go.Xp.name p.e ts=.error x/\bV p p.name.2 (.error x)):=by
 rcases hp.name with h | h
 ·cases he:Go.Xp.name p.e ts with
  | ok y =>
   obtain ⟨s,r⟩:=y;rw [he] at h;obtain ⟨rfl,h⟩:=h;exact .inl ⟨r,rfl,h⟩
  | error x=>exact zdV
 ·exact .inr h
theorem zA {d:Nat} {ts:List Tok} {p:RS} {b:ae} (hp:On p ts) (hb:b≠[]):∃ t q,mX d p=some (t,q)/\((∃ r r',expr p.e d ts=.ok (t,r)/\Go.Xp.aI p.e b r=.ok r'/\bV p (q.aI b) (.ok r'))\/(∃ r x,expr p.e d ts=.ok (t,r)/\Go.Xp.aI p.e b r=.error x/\bV p (q.aI b) (.error x))\/(∃ x,expr p.e d ts=.error x/\bV p (q.aI b) (.error x))):=by
 rcases JG (d:=d) hp with ⟨t,q,r,D,I,h3⟩ | ⟨t,q,x,D,I,h3⟩
 ·refine ⟨t,q,D,?_⟩
  rcases yv h3.1 hb with ⟨r',h4,h5⟩ | ⟨x,h4,h5⟩
  ·rw [h3.2.2] at h4;exact .inl ⟨r,r',I,h4,h3.tr h5⟩
  ·exact zej
 ·exact ⟨t,q,D,.inr (.inr ⟨x,I,by rw [gC h3.err hb];exact h3⟩)⟩
theorem On.nH {ts:List Tok} {p:RS} (hp:On p ts):p.nH=(match ts with | t::_=>decide (t.kind=2) | []=>false):=by
 have h:=hp.at 0;rw [Nat.add_zero] at h;unfold RS.nH;rw [h]
 cases ts <;> rfl
theorem E9 {d:Nat} {ts:List Tok} {p:RS} {a b:ae} (hp:On p ts) (ha:a≠[]) (hb:b≠[]):∃ t q,mX d (p.aI a)=some (t,q)/\((∃ r,inner p.e d a b ts=.ok (t,r)/\bV p (q.aI b) (.ok r))\/∃ x,inner p.e d a b ts=.error x/\bV p (q.aI b) (.error x)):=by
 unfold Go.Xp.inner
 rcases yv hp ha with ⟨r,D,I⟩ | ⟨x,D,I⟩
 ·rw [D];obtain ⟨t,q,h3,h4⟩:=zA (d:=d) (b:=b) I.1 hb;rw [I.2.2] at h4;refine ⟨t,q,h3,?_⟩;simp only
  rcases h4 with ⟨r,r',k1,k2,k3⟩ | ⟨r,x,k1,k2,k3⟩ | ⟨x,k1,k3⟩
  ·exact zeu
  ·rw [k1];simp only;rw [k2];exact za2
  ·rw [k1];exact za2
 ·rw [D];exact ⟨T.zero,p.aI a,Fu I.err,.inr ⟨x,rfl,by rw [gC I.err hb];exact I⟩⟩
theorem FT {d:Nat} {ts:List Tok} {p:RS} (hp:On p ts):∃ t q,mX d (p.name.2.aI [61])=some (t,q)/\((∃ r,kW p.e d ts=.ok ((p.name.1,t),r)/\bV p (q.aI [59]) (.ok r))\/∃ x,kW p.e d ts=.error x/\bV p (q.aI [59]) (.error x)):=by
 unfold Go.Xp.kW
 rcases Rp hp with ⟨r,D,I⟩ | ⟨x,D,I⟩
 ·rw [D];obtain ⟨t,q,h3,h4⟩:=E9 (d:=d) (a:=[61]) (b:=[59]) I.1 ai ai;rw [I.2.2] at h4;refine ⟨t,q,h3,?_⟩;simp only
  rcases h4 with ⟨r,k1,k3⟩ | ⟨x,k1,k3⟩
  ·rw [k1];exact .inl ⟨r,rfl,I.tr k3⟩
  ·rw [k1];exact za2
 ·rw [D];refine ⟨T.zero,p.name.2,by rw [gC I.err ai];exact Fu I.err,.inr ⟨x,rfl,by rw [gC I.err ai];exact I⟩⟩
theorem js (f:Nat):X9 f:=by
 induction f with
 | zero=>exact ⟨fun d ts p _ h=>absurd zfy h,fun d ts p _ h=>absurd zfy h,fun d acc ts p _ h=>absurd (by simp [rs.body]) h⟩
 | succ f C =>
  refine ⟨fun d ts p hp h=>?_,fun d ts p hp h=>?_,fun d acc ts p hp h=>?_⟩
  ·rw [rs] at h |-
   by_cases hd:d > 60
   ·rw [ah hd] at h |-;have hf:=hp.fail 9 p.place ai;refine ⟨one 14 (p.fail 9 p.place).place [] [],p.fail 9 p.place,fun g hg=>?_,by rw [<-hp.place];exact hf⟩
    have S8:p.deep d=p.fail 9 p.place:=by unfold RS.deep;rw [ah hd]
    have:=Ft (g:=g) (d:=d) hf.err zfg;exact zcC
   ·rw [ad hd] at h |-
    have dP:p.deep d=p:=by unfold RS.deep;rw [ad hd]
    rcases yv hp (s:=[123]) ai with ⟨r,D,I⟩ | ⟨x,D,I⟩
    ·rw [D] at h |-;simp only at h |-;rw [<-I.2.2] at h |-
     have hb:rs.body (p.aI [123]).e f (d+1) [] r≠.error be:=fun h0=>h zeS
     obtain ⟨l,q,h3,h4⟩:=C.body (d+1) [] r (p.aI [123]) I.1 hb
     have dv:place (p.aI [123]).e ts=p.place:=by rw [I.2.2,hp.place]
     refine ⟨one 14 p.place [] l,q.aI [125],fun g hg=>?_,?_⟩
     ·obtain ⟨g,rfl,hg⟩:=up hg;rw [mS,dP,h3 g ak]
     ·cases he:rs.body (p.aI [123]).e f (d+1) [] r with
      | error x=>rw [he] at h4;exact I.tr (y:=.error x) h4
      | ok y=>exact zcx
    ·rw [D] at h |-;refine ⟨one 14 p.place [] [],p.aI [123],fun g hg=>?_,I⟩;obtain ⟨g,rfl,hg⟩:=up hg;rw [mS,dP];obtain ⟨g,rfl⟩:∃ g',g=g'+1:=⟨g - 1,by omega⟩;simp only [mB,I.err,false_and,if_false];rw [gC I.err ai]
  ·rw [rs] at h |-
   by_cases hd:d > 60
   ·rw [ah hd] at h |-;have hf:=hp.fail 9 p.place ai
    have S8:p.deep d=p.fail 9 p.place:=by unfold RS.deep;rw [ah hd]
    refine ⟨one 12 (p.fail 9 p.place).place [] [T.zero],p.fail 9 p.place,fun g hg=>?_,by rw [<-hp.place];exact hf⟩;have:=MF (g:=g) (d:=d) hf.err zfg;exact zcC
   ·rw [ad hd] at h |-
    have dP:p.deep d=p:=by unfold RS.deep;rw [ad hd]
    have dE:p.sign 0=sign ts 0:=hp.sign 0;have TB:p.sign 1=sign ts 1:=hp.sign 1;have dv:=hp.place;simp only at h |-
    by_cases hv:sign ts 0=lF
    ·rw [ah hv];obtain ⟨tv,xC,_⟩:=dC ai hv;have hn:=hp;rw [xC] at hn
     have hn:=hn.next
     rw [show p.e=p.next.e from rfl]
     rcases FT (d:=d+1) hn.1 with ⟨t,q,D,⟨r,I,h3⟩ | ⟨x,I,h3⟩⟩
     ·rw [I];refine ⟨one 13 p.place p.next.name.1 [t],q.aI [59],fun g hg=>?_,by rw [dv];rfl,hn.tr h3⟩;exact zdW
     ·rw [I];refine ⟨one 13 p.place p.next.name.1 [t],q.aI [59],fun g hg=>?_,hn.tr (y:=.error x) h3⟩;exact zdW
    rw [ad hv] at h |-
    by_cases hc:sign ts 0=eW\/sign ts 0=fC
    ·rw [ah hc] at h |-
     obtain ⟨tv,xC,PW,tf⟩:∃ t,ts=t::ts.tail/\t.kind=3/\t.s=sign ts 0:=by
      rcases hc with hc | hc
      ·exact zdR
      ·exact zdR
     have hn:=hp;rw [xC] at hn
     have hn:=hn.next
     have qu:p.ck=if sign ts 0=eW then 9 else 10:=by unfold RS.ck;rw [dE]
     have key:∀ (t:T) (q:RS),(∀ g,KF f<=g->mS (g+1) (.cond p.place d) p=some (t,q))->∀ g,KF (f+1)<=g->mS g (.stmt d) p=some (t,q):=by
      intro t q hk g hg;obtain ⟨g,rfl,hg⟩:=up hg;rw [mS,dP];rw [ad (by rw [dE];exact hv),ah (by rw [dE];exact hc)];exact zdD
     rcases E9 (d:=d+1) (a:=[40]) (b:=[41]) hn.1 ai ai with ⟨c,q,D,⟨r,I,h3⟩ | ⟨x,I,h3⟩⟩
     ·rw [show p.next.e=p.e from rfl] at I;rw [I] at h |-;simp only at h |-;have h3:=hn.tr h3
      have hb:rs p.e f (.block (d+1)) r≠.error be:=fun h0=>h zeS
      rw [<-h3.2.2] at hb;obtain ⟨b,q2,h4,h5⟩:=C.block (d+1) r (q.aI [41]) h3.1 hb;rw [h3.2.2] at h5
      cases he:rs p.e f (.block (d+1)) r with
      | error x =>
       rw [he] at h5;refine ⟨one p.ck p.place [] [c,b],q2,key _ _ fun g hg=>?_,h3.tr (y:=.error x) h5⟩;refine zef ?_;rw [ad (by rw [lu (bV.err h5)];exact fun x=>absurd x.2 ai)]
      | ok y =>
       obtain ⟨b',r2⟩:=y;rw [he] at h5 h;obtain ⟨rfl,h5⟩:=h5;simp only at h |-;have h5:=h3.tr h5;have jQ:q2.sign 0=sign r2 0:=h5.1.sign 0
       by_cases hi:sign ts 0=eW
       ·rw [ah hi] at h qu |-
        by_cases jc:sign r2 0=gF
        ·rw [ah jc] at h |-;obtain ⟨te,LH,_⟩:=dC ai jc;have bL:=h5.1;rw [LH] at bL
         have bL:=h5.tr bL.next
         have hb:rs p.e f (.block (d+1)) r2.tail≠.error be:=fun h0=>h zeS
         rw [<-bL.2.2] at hb
         obtain ⟨b2,q3,h6,h7⟩:=C.block (d+1) r2.tail q2.next bL.1 hb
         rw [bL.2.2] at h7;refine ⟨one p.ck p.place [] [c,b,b2],q3,key _ _ fun g hg=>?_,?_⟩
         ·refine zef ?_;rw [ah ⟨qu,by rw [jQ,jc]⟩,h6 g hg]
         ·cases kO:rs p.e f (.block (d+1)) r2.tail with
          | error x=>rw [kO] at h7;exact bL.tr (y:=.error x) h7
          | ok y=>obtain ⟨b3,r3⟩:=y;rw [kO] at h7;obtain ⟨rfl,h7⟩:=h7;exact ⟨by rw [qu,dv],bL.tr h7⟩
        ·rw [ad jc];refine ⟨one p.ck p.place [] [c,b],q2,key _ _ fun g hg=>?_,by rw [qu,dv],h5⟩;refine zef ?_;rw [ad (fun x=>jc (by rw [<-jQ];exact x.2))]
       ·rw [ad hi] at qu |-;refine ⟨one p.ck p.place [] [c,b],q2,key _ _ fun g hg=>?_,by rw [qu,dv],h5⟩;refine zef ?_;rw [ad (by rw [qu];exact fun x=>absurd x.1 ai)]
     ·rw [show p.next.e=p.e from rfl] at I;rw [I] at h |-;have h3:=hn.tr (y:=.error x) h3;refine ⟨one p.ck p.place [] [c,one 14 (q.aI [41]).place [] []],q.aI [41],key _ _ fun g hg=>?_,h3⟩;rw [mS,D];simp only;rw [Ft h3.err zfg];simp only;rw [ad (by rw [lu h3.err];exact fun x=>absurd x.2 ai)]
    rw [ad hc] at h |-
    have EJ:¬ (p.sign 0=eW\/p.sign 0=fC):=by rw [dE];exact hc
    by_cases hr:sign ts 0=fL
    ·rw [ah hr];obtain ⟨tv,xC,_⟩:=dC ai hr;have hn:=hp;rw [xC] at hn
     have hn:=hn.next
     obtain ⟨t,q,D,I⟩:=zA (d:=d+1) (b:=[59]) hn.1 ai;rw [show p.next.e=p.e from rfl] at I;refine ⟨one 11 p.place [] [t],q.aI [59],fun g hg=>?_,?_⟩
     ·obtain ⟨g,rfl,hg⟩:=up hg;rw [mS,dP];rw [ad (by rw [dE];exact hv),ad EJ,ah (by rw [dE,hr]),D]
     ·rcases I with ⟨r,r',I,h3,h4⟩ | ⟨r,x,I,h3,h4⟩ | ⟨x,I,h4⟩
      ·exact zeB
      ·exact zcN
      ·rw [I];exact zbz
    rw [ad hr] at h |-
    have HP:¬ p.sign 0=fL:=by rw [dE];exact hr
    have HR:¬ p.sign 0=lF:=by rw [dE];exact hv
    have cL:=hp.nH
    cases ts with
    | nil =>
     have kT:¬ (p.code=0/\p.nH=true/\p.sign 1=[61]):=fun hx=>by have:=hx.2.1;rw [cL] at this;cases this
     rcases JG (d:=d+1) hp with ⟨t,q,r,D,I,h3⟩ | ⟨t,q,x,D,I,h3⟩
     ·exact zev
     ·have kR:¬ (t.n.kind=3/\t.n.at_=p.place/\q.sign 0=[61]):=by rw [lu h3.err];exact fun x=>absurd x.2.2 ai
      refine ⟨one 12 p.place [] [t],q.aI [59],fun g hg=>?_,by unfold simple;rw [I,gC h3.err ai];exact h3⟩;exact zbf
    | cons a r0 =>
     simp only [simple] at h |-;simp only at cL
     by_cases iM:a.kind=2/\sign (a::r0) 1=[61]
     ·rw [ah iM];have kT:p.code=0/\p.nH=true/\p.sign 1=[61]:=⟨hp.code,by rw [cL];simpa using iM.1,by rw [TB];exact iM.2⟩
      rcases FT (d:=d+1) hp with ⟨t,q,D,⟨r,I,h3⟩ | ⟨x,I,h3⟩⟩
      ·rw [I];refine ⟨one 7 p.place p.name.1 [t],q.aI [59],fun g hg=>?_,by rw [dv];rfl,h3⟩;exact zdt
      ·rw [I];refine ⟨one 7 p.place p.name.1 [t],q.aI [59],fun g hg=>?_,h3⟩;exact zdt
     ·rw [ad iM]
      have kT:¬ (p.code=0/\p.nH=true/\p.sign 1=[61]):=fun hx=>iM ⟨by have:=hx.2.1;rw [cL] at this;simpa using this,by rw [<-TB];exact hx.2.2⟩
      have Jm:p.place=a.at_:=dv
      rcases JG (d:=d+1) hp with ⟨t,q,r,D,I,h3⟩ | ⟨t,q,x,D,I,h3⟩
      ·rw [I];simp only;have jQ:q.sign 0=sign r 0:=h3.1.sign 0
       by_cases iK:t.n.kind=3/\t.n.at_=a.at_/\sign r 0=[61]
       ·rw [ah iK]
        have kR:t.n.kind=3/\t.n.at_=p.place/\q.sign 0=[61]:=by rw [Jm,jQ];exact iK
        obtain ⟨te,LH,_⟩:=dC ai iK.2.2;have hn:=h3.1;rw [LH] at hn
        have hn:=h3.tr hn.next
        obtain ⟨ix,xp⟩:=Mo _ _ _ _ _ _ (fun k d out hj=>by cases hj) I iK.1
        have lW:∀ iz,Go.Xp.inner p.e (d+1) [61] [59] iz=Go.Xp.inner p.e (d+1) [61] [59] iz:=fun _=>rfl
        have dq:Go.Xp.aI p.e [61] r=.ok r.tail:=by unfold Go.Xp.aI;rw [ah iK.2.2]
        obtain ⟨v,q2,h4,h5⟩:=zA (d:=d+1) (b:=[59]) hn.1 ai;rw [hn.2.2] at h5;refine ⟨one 8 p.place t.n.s [ix,v],q2.aI [59],fun g hg=>?_,?_⟩
        ·obtain ⟨g,rfl,hg⟩:=up hg;rw [mS,dP];rw [ad HR,ad EJ,ad HP,ad kT,D];simp only;rw [ah kR,xp,h4]
        ·unfold Go.Xp.inner;rw [dq];simp only
         rcases h5 with ⟨r2,r',I,h3,h4⟩ | ⟨r2,x,I,h3,h4⟩ | ⟨x,I,h4⟩
         ·rw [I];simp only;rw [h3];exact ⟨by rw [Jm,xp];rfl,hn.tr h4⟩
         ·exact zcN
         ·rw [I];exact zbz
       ·rw [ad iK]
        have kR:¬ (t.n.kind=3/\t.n.at_=p.place/\q.sign 0=[61]):=by rw [Jm,jQ];exact iK
        refine ⟨one 12 p.place [] [t],q.aI [59],fun g hg=>?_,?_⟩
        ·exact zbf
        ·rcases yv h3.1 (s:=[59]) ai with ⟨r',h4,h5⟩ | ⟨x,h4,h5⟩
         ·rw [h3.2.2] at h4;rw [h4];exact ⟨by rw [Jm],h3.tr h5⟩
         ·rw [h3.2.2] at h4;rw [h4];exact h3.tr (y:=.error x) h5
      ·rw [I]
       have kR:¬ (t.n.kind=3/\t.n.at_=p.place/\q.sign 0=[61]):=by rw [lu h3.err];exact fun x=>absurd x.2.2 ai
       refine ⟨one 12 p.place [] [t],q.aI [59],fun g hg=>?_,by rw [gC h3.err ai];exact h3⟩;exact zbf
  ·rw [rs.body] at h |-;have dE:p.sign 0=sign ts 0:=hp.sign 0
   by_cases hb:sign ts 0=[125]
   ·rw [ah hb];have hm:=hp.aI (s:=[125]) ai;unfold Go.Xp.aI at hm;rw [ah hb] at hm;refine ⟨acc,p,fun g hg=>?_,rfl,hm⟩;obtain ⟨g,rfl,hg⟩:=up hg;rw [mB,ad (fun h0=>h0.2 (by rw [dE,hb]))]
   ·rw [ad hb] at h |-
    have hs:rs p.e f (.stmt d) ts≠.error be:=fun h0=>h zeS
    obtain ⟨a,q,D,I⟩:=C.stmt d ts p hp hs;have hc:p.code=0/\¬ p.sign 0=[125]:=⟨hp.code,by rw [dE];exact hb⟩
    cases he:rs p.e f (.stmt d) ts with
    | error x =>
     rw [he] at I h;refine ⟨acc++[a],q,fun g hg=>?_,by rw [gC (bV.err I) ai];exact I⟩;obtain ⟨g,rfl,hg⟩:=up hg;rw [mB,ah hc,D g ak];simp only;obtain ⟨g,rfl⟩:∃ g',g=g'+1:=⟨g - 1,by omega⟩;rw [mB,ad (fun h0=>bV.err I h0.1)]
    | ok y =>
     obtain ⟨a',r⟩:=y;rw [he] at I h;obtain ⟨rfl,I⟩:=I;simp only at h |-;rw [<-I.2.2] at h |-;obtain ⟨l,q3,h3,h4⟩:=C.body d (acc++[a]) r q I.1 h;refine ⟨l,q3,fun g hg=>?_,jm.tr I h4⟩;obtain ⟨g,rfl,hg⟩:=up hg;rw [mB,ah hc,D g ak];exact h3 g ak
end Go.Sp
namespace Go.Im
open Go.Xp Go.Sp
def tok (p:RS) (k:Nat):Tok:=match p.l[p.i+k]? with | some t=>t | none=>⟨0,0,[],p.e⟩
def is (p:RS) (k:Nat) (s:ae):Bool:=(tok p k).kind==3&&(tok p k).s==s
def kx (p:RS):RS:=p.fail 7 (tok p 0).at_
def want (p:RS) (s:ae):RS:=if p.code=0 then (if is p 0 s=true then p.next else kx p) else p
def bx (p:RS):RS:=if p.code=0 then (if (tok p 0).kind=2 then (if (tok p 0).s.length > 12 then p.fail 8 (tok p 0).at_ else p.next) else kx p) else p
def b9 (p:RS) (d:Nat):RS:=if d > 60 then p.fail 9 (tok p 0).at_ else p
mutual
def iE:Nat->sM->RS->Option (T × RS)
 | 0,_,_=>none
 | f+1,.expr d,p=>if (b9 p d).code=0 then iE f (.level 0 (d+1)) (b9 p d) else some (T.zero,b9 p d)
 | f+1,.level k d,p =>
  if k=9 then iE f (.operand d) p
  else match iE f (.level (k+1) d) p with
   | none=>none
   | some (out,p)=>iE f (.loop k d out) p
 | f+1,.loop k d out,p =>
  if p.code=0/\(tok p 0).kind=3/\(levels.getD k []).contains (tok p 0).s=true then
   match iE f (.level (k+1) d) p.next with
   | none=>none
   | some (b,q)=>iE f (.loop k d (one 6 (tok p 0).at_ (tok p 0).s [out,b])) q
  else some (out,p)
 | f+1,.operand d,p =>
  if (b9 p d).code=0 then
   if is p 0 [45]=true\/is p 0 [33]=true\/is p 0 [126]=true then match iE f (.operand (d+1)) p.next with
    | none=>none
    | some (a,q)=>some (one 5 (tok p 0).at_ (tok p 0).s [a],q)
   else if (tok p 0).kind=1 then some (.mk ⟨1,(tok p 0).at_,(tok p 0).n,[],[]⟩ [],p.next)
   else if is p 0 [40]=true then match iE f (.expr (d+1)) p.next with
    | none=>none
    | some (a,q)=>some (a,want q [41])
   else if (bx p).code=0 then
    if is (bx p) 0 [91]=true then match iE f (.expr (d+1)) (bx p).next with
     | none=>none
     | some (a,q)=>some (one 3 (tok p 0).at_ (tok p 0).s [a],want q [93])
    else if is (bx p) 0 [40]=true then match iA f (d+1) [] (bx p).next with
     | none=>none
     | some (l,q)=>some (one 4 (tok p 0).at_ (tok p 0).s l,q)
    else some (one 2 (tok p 0).at_ (tok p 0).s [],bx p)
   else some (one 2 (tok p 0).at_ (tok p 0).s [],bx p)
  else some (T.zero,b9 p d)
def iA:Nat->Nat->List T->RS->Option (List T × RS)
 | 0,_,_,_=>none
 | f+1,d,acc,p =>
  if p.code=0/\is p 0 [41]=false then match iE f (.expr d) (if acc.length=0 then p else want p [44]) with
   | none=>none
   | some (a,q)=>iA f d (acc++[a]) q
  else some (acc,want p [41])
end
section
variable {p q:RS} {ts r:List Tok}
theorem On.tok (h:On p ts) (k:Nat):tok p k=(match ts[k]? with | some t=>t | none=>⟨0,0,[],p.e⟩):=by unfold Im.tok;rw [h.at]
theorem On.tJ (h:On p ts):(Im.tok p 0).at_=Go.Xp.place p.e ts:=by
 rw [On.tok h]
 cases ts with
 | nil=>rfl
 | cons t r=>rfl
theorem On.is (h:On p ts) (k:Nat) {s:ae} (hs:s≠[]):is p k s=decide (sign ts k=s):=by
 unfold Im.is
 have he:sign ts k=(if (Im.tok p k).kind=3 then (Im.tok p k).s else []):=by
  unfold Go.Xp.sign;rw [On.tok h]
  cases hk:ts[k]? with
  | none=>simp
  | some t=>rfl
 rw [he]
 by_cases h3:(Im.tok p k).kind=3
 ·rw [ah h3,Bool.eq_iff_iff];simp [h3]
 ·rw [ad h3,Bool.eq_iff_iff];simp [h3];exact hs
theorem fP (h:p.code≠0) (s:ae):want p s=p:=by unfold want;rw [ad h]
theorem Au (h:p.code≠0) (d:Nat):b9 p d=p:=by unfold b9;split <;> simp [sU h]
theorem Md (h:p.code≠0):bx p=p:=by unfold bx;rw [ad h]
theorem On.kx (h:On p ts):bV p (kx p) (.error (7,place p.e ts)):=by
 unfold Im.kx;rw [On.tJ h];exact h.fail 7 _ ai
theorem On.want (h:On p ts) {s:ae} (hs:s≠[]):bV p (want p s) (Go.Xp.aI p.e s ts):=by
 unfold Im.want Go.Xp.aI;rw [ah h.code,On.is h 0 hs]
 by_cases h0:sign ts 0=s
 ·rw [ah zfi,ah h0];obtain ⟨t,ht,_⟩:=dC hs h0;rw [ht] at h
  exact h.next
 ·rw [ad zfi,ad h0];exact On.kx h
theorem mi (h:On p ts) {s:ae} (hs:s≠[]):(∃ r,Go.Xp.aI p.e s ts=.ok r/\bV p (Im.want p s) (.ok r))\/(∃ x,Go.Xp.aI p.e s ts=.error x/\bV p (Im.want p s) (.error x)):=by
 have h:=On.want h hs
 cases he:Go.Xp.aI p.e s ts with
 | ok r=>rw [he] at h;exact .inl ⟨r,rfl,h⟩
 | error x=>exact zdV
theorem tw (h:On p ts):(∃ r,Go.Xp.name p.e ts=.ok ((Im.tok p 0).s,r)/\bV p (Im.bx p) (.ok r))\/(∃ x,Go.Xp.name p.e ts=.error x/\bV p (Im.bx p) (.error x)):=by
 have ht:=On.tok h 0;have hw:=On.kx h;unfold Im.bx;rw [ah h.code]
 cases ts with
 | nil =>
  simp only [List.getElem?_nil] at ht;rw [ht];exact .inr ⟨_,rfl,by rw [ad zeL];exact hw⟩
 | cons t r =>
  simp only [List.getElem?_cons_zero] at ht;rw [ht];simp only [Go.Xp.name]
  by_cases I:t.kind=2
  ·rw [ah I,ah I]
   by_cases hl:t.s.length > 12
   ·rw [ah hl,ah hl];exact .inr ⟨_,rfl,h.fail 8 _ ai⟩
   ·rw [ad hl,ad hl];exact .inl ⟨r,rfl,h.next⟩
  ·rw [ad I,ad I];exact .inr ⟨_,rfl,hw⟩
theorem E4 (h:p.code≠0) {g d:Nat} (hg:1<=g):iE g (.expr d) p=some (T.zero,p):=by
 obtain ⟨g,rfl⟩:∃ g',g=g'+1:=⟨g - 1,by omega⟩;rw [iE,Au h,ad h]
theorem LP (h:p.code≠0) {g k d:Nat} {out:T} (hg:1<=g):iE g (.loop k d out) p=some (out,p):=by
 obtain ⟨g,rfl⟩:∃ g',g=g'+1:=⟨g - 1,by omega⟩;rw [iE,ad (fun h0=>h h0.1)]
end
structure IE (f:Nat):Prop where
 expr:∀ d ts p,On p ts->rd p.e f (.expr d) ts≠.error be->∃ t q,(∀ g,f+2<=g->iE g (.expr d) p=some (t,q))/\jm p q t (rd p.e f (.expr d) ts)
 level:∀ k d ts p,k<=9->On p ts->rd p.e f (.level k d) ts≠.error be->∃ t q,(∀ g,f+2<=g->iE g (.level k d) p=some (t,q))/\jm p q t (rd p.e f (.level k d) ts)
 loop:∀ k d out ts p,k < 9->On p ts->rd p.e f (.loop k d out) ts≠.error be->∃ t q,(∀ g,f+2<=g->iE g (.loop k d out) p=some (t,q))/\jm p q t (rd p.e f (.loop k d out) ts)
 operand:∀ d ts p,On p ts->rd p.e f (.operand d) ts≠.error be->∃ t q,(∀ g,f+2<=g->iE g (.operand d) p=some (t,q))/\jm p q t (rd p.e f (.operand d) ts)
 args:∀ d acc ts p,On p ts->rd.args p.e f d acc ts≠.error be->∃ t q,(∀ g,f+2<=g->iA g d acc p=some (t,q))/\jm p q t (rd.args p.e f d acc ts)
theorem mg {f g:Nat} (h:f+1+2<=g):∃ g',g=g'+1/\f+2<=g':=⟨g - 1,by omega,by omega⟩
theorem ie (f:Nat):IE f:=by
 induction f with
 | zero =>
  refine ⟨fun d ts p _ h=>absurd ?_ h,fun k d ts p _ _ h=>absurd ?_ h,fun k d out ts p _ _ h=>absurd ?_ h,fun d ts p _ h=>absurd ?_ h,fun d acc ts p _ h=>absurd ?_ h⟩ <;> simp [rd,rd.args]
 | succ f C =>
  refine ⟨fun d ts p hp h=>?_,fun k d ts p hk hp h=>?_,fun k d out ts p hk hp h=>?_,fun d ts p hp h=>?_,fun d acc ts p hp h=>?_⟩
  ·rw [rd] at h |-
   by_cases hd:d > 60
   ·rw [ah hd] at h |-;have hf:=hp.fail 9 (tok p 0).at_ ai;refine ⟨T.zero,p.fail 9 (tok p 0).at_,fun g hg=>?_,by rw [<-On.tJ hp];exact hf⟩;obtain ⟨g,rfl,hg⟩:=mg hg
    have fG:b9 p d=p.fail 9 (tok p 0).at_:=by unfold b9;rw [ah hd]
    rw [iE,fG,ad hf.err]
   ·rw [ad hd] at h |-
    have fG:b9 p d=p:=by unfold b9;rw [ad hd]
    obtain ⟨t,q,D,I⟩:=C.level 0 (d+1) ts p ak hp h;refine ⟨t,q,fun g hg=>?_,I⟩;obtain ⟨g,rfl,hg⟩:=mg hg;rw [iE,fG,ah hp.code];exact D g ak
  ·rw [rd] at h |-
   by_cases h9:k=9
   ·rw [ah h9] at h |-;obtain ⟨t,q,D,I⟩:=C.operand d ts p hp h;refine ⟨t,q,fun g hg=>?_,I⟩;obtain ⟨g,rfl,hg⟩:=mg hg;rw [iE,ah h9];exact D g ak
   ·rw [ad h9] at h |-
    cases he:rd p.e f (.level (k+1) d) ts with
    | error x =>
     rw [he] at h
     have hx:x≠be:=fun h0=>h zeS
     obtain ⟨t,q,D,I⟩:=C.level (k+1) d ts p ak hp zeK;rw [he] at I;refine ⟨t,q,fun g hg=>?_,I⟩;obtain ⟨g,rfl,hg⟩:=mg hg;rw [iE,ad h9,D g ak];exact LP (bV.err I) ak
    | ok r =>
     obtain ⟨t',r⟩:=r;rw [he] at h;simp only at h |-;obtain ⟨t,q,D,I⟩:=C.level (k+1) d ts p ak hp zeN;rw [he] at I;obtain ⟨rfl,I⟩:=I;rw [<-I.2.2] at h |-;obtain ⟨t3,q3,h3,h4⟩:=C.loop k d t r q ak I.1 h;refine ⟨t3,q3,fun g hg=>?_,jm.tr I h4⟩;obtain ⟨g,rfl,hg⟩:=mg hg;rw [iE,ad h9,D g ak];exact h3 g ak
  ·cases ts with
   | nil =>
    rw [rd];refine ⟨out,p,fun g hg=>?_,rfl,hp.self⟩;obtain ⟨g,rfl,hg⟩:=mg hg;rw [iE,ad];rintro ⟨_,h0,_⟩;rw [On.tok hp] at h0;simp at h0
   | cons t r =>
    rw [rd] at h |-
    have ht:tok p 0=t:=by rw [On.tok hp];rfl
    by_cases hc:t.kind=3/\t.s∈levels.getD k []
    ·rw [ah hc] at h |-
     have hn:=hp.next
     have nj:p.code=0/\(tok p 0).kind=3/\(levels.getD k []).contains (tok p 0).s=true:=by rw [ht];exact ⟨hp.code,hc.1,by simpa using hc.2⟩
     rw [show p.e=p.next.e from rfl] at h |-
     cases he:rd p.next.e f (.level (k+1) d) r with
     | error x =>
      rw [he] at h
      have hx:x≠be:=fun h0=>h zeS
      obtain ⟨b,q,D,I⟩:=C.level (k+1) d r p.next ak hn.1 zeK
      rw [he] at I;refine ⟨one 6 t.at_ t.s [out,b],q,fun g hg=>?_,hn.tr (y:=.error x) I⟩;obtain ⟨g,rfl,hg⟩:=mg hg;rw [iE,ah nj,D g ak,ht];exact LP (bV.err I) ak
     | ok x =>
      obtain ⟨b',r'⟩:=x;rw [he] at h;simp only at h |-
      obtain ⟨b,q,D,I⟩:=C.level (k+1) d r p.next ak hn.1 zeN
      rw [he] at I;obtain ⟨rfl,I⟩:=I;rw [<-I.2.2] at h |-;obtain ⟨t3,q3,h3,h4⟩:=C.loop k d (one 6 t.at_ t.s [out,b]) r' q hk I.1 h;refine ⟨t3,q3,fun g hg=>?_,jm.tr (hn.tr I) h4⟩;obtain ⟨g,rfl,hg⟩:=mg hg;rw [iE,ah nj,D g ak,ht];exact h3 g ak
    ·rw [ad hc];refine ⟨out,p,fun g hg=>?_,rfl,hp.self⟩;obtain ⟨g,rfl,hg⟩:=mg hg;rw [iE,ad];rw [ht];rintro ⟨_,h0,D⟩;exact hc ⟨h0,by simpa using D⟩
  ·rw [rd.eq_def] at h |-;simp only at h |-
   by_cases hd:d > 60
   ·rw [ah hd] at h |-;have hf:=hp.fail 9 (tok p 0).at_ ai;refine ⟨T.zero,p.fail 9 (tok p 0).at_,fun g hg=>?_,by rw [<-On.tJ hp];exact hf⟩;obtain ⟨g,rfl,hg⟩:=mg hg
    have fG:b9 p d=p.fail 9 (tok p 0).at_:=by unfold b9;rw [ah hd]
    rw [iE,fG,ad hf.err]
   ·rw [ad hd] at h |-
    have fG:b9 p d=p:=by unfold b9;rw [ad hd]
    have hi:∀ s:ae,s≠[]->is p 0 s=decide (sign ts 0=s):=fun s hs=>On.is hp 0 hs
    cases ts with
    | nil =>
     simp only
     have ht:tok p 0=⟨0,0,[],p.e⟩:=by rw [On.tok hp];rfl
     have cE:∀ s:ae,s≠[]->is p 0 s=false:=fun s hs=>by rw [hi s hs];exact decide_eq_false (fun h=>hs h.symm)
     have Dc:bx p=p.fail 7 p.e:=by unfold bx;rw [ah hp.code,ht,ad zeL];unfold kx;rw [ht]
     have hf:=hp.fail 7 p.e ai;refine ⟨one 2 p.e [] [],p.fail 7 p.e,fun g hg=>?_,hf⟩;obtain ⟨g,rfl,hg⟩:=mg hg;rw [iE,fG,ah hp.code,cE _ ai,cE _ ai,cE _ ai,ad ai,ad (by rw [ht];simp),cE _ ai,ad ai,Dc,ad hf.err,ht]
    | cons t r =>
     simp only at h |-
     have ht:tok p 0=t:=by rw [On.tok hp];rfl
     have hn:=hp.next
     by_cases h3:t.kind=3
     ·rw [ah h3] at h |-
      have dE:sign (t::r) 0=t.s:=by simp only [sign,List.getElem?_cons_zero,df,h3,if_true]
      have AD:¬ t.kind=1:=by omega
      have oN:∀ s:ae,s≠[]->is p 0 s=decide (t.s=s):=fun s hs=>by rw [hi s hs,dE]
      by_cases hu:t.s=[45]\/t.s=[33]\/t.s=[126]
      ·rw [ah hu] at h |-
       have uc:is p 0 [45]=true\/is p 0 [33]=true\/is p 0 [126]=true:=by
        rw [oN _ ai,oN _ ai,oN _ ai];simpa using hu
       rw [show p.e=p.next.e from rfl] at h |-
       cases he:rd p.next.e f (.operand (d+1)) r with
       | error x =>
        rw [he] at h
        have hx:x≠be:=fun h0=>h zeS
        obtain ⟨b,q,D,I⟩:=C.operand (d+1) r p.next hn.1 zeK
        rw [he] at I;refine ⟨one 5 t.at_ t.s [b],q,fun g hg=>?_,hn.tr (y:=.error x) I⟩;exact zdS
       | ok x =>
        obtain ⟨b',r'⟩:=x;rw [he] at h;simp only at h |-
        obtain ⟨b,q,D,I⟩:=C.operand (d+1) r p.next hn.1 zeN
        rw [he] at I;obtain ⟨rfl,I⟩:=I;refine ⟨one 5 t.at_ t.s [b],q,fun g hg=>?_,rfl,hn.tr I⟩;exact zdS
      ·rw [ad hu] at h |-
       have uc:¬ (is p 0 [45]=true\/is p 0 [33]=true\/is p 0 [126]=true):=by
        rw [oN _ ai,oN _ ai,oN _ ai];simpa using hu
       by_cases hb:t.s=[40]
       ·rw [ah hb] at h |-
        have bA:is p 0 [40]=true:=by rw [oN _ ai];simpa using hb
        rw [show p.e=p.next.e from rfl] at h |-
        cases he:rd p.next.e f (.expr (d+1)) r with
        | error x =>
         rw [he] at h
         have hx:x≠be:=fun h0=>h zeS
         obtain ⟨b,q,D,I⟩:=C.expr (d+1) r p.next hn.1 zeK
         rw [he] at I;refine ⟨b,want q [41],fun g hg=>?_,?_⟩
         ·exact zcq
         ·rw [fP (bV.err I)];exact hn.tr (y:=.error x) I
        | ok x =>
         obtain ⟨b',r'⟩:=x;rw [he] at h;simp only at h |-
         obtain ⟨b,q,D,I⟩:=C.expr (d+1) r p.next hn.1 zeN
         rw [he] at I;obtain ⟨rfl,I⟩:=I;have cp:=(hn.tr I).tr (On.want I.1 (s:=[41]) ai);rw [I.2.2] at cp;refine ⟨b,want q [41],fun g hg=>?_,?_⟩
         ·exact zcq
         ·cases u7:aI p.next.e [41] r' with
          | error x=>rw [u7] at cp;exact cp
          | ok r2=>exact zc7
       ·rw [ad hb] at h |-
        have bA:¬ is p 0 [40]=true:=by rw [oN _ ai];simpa using hb
        have Dc:bx p=p.fail 7 t.at_:=by unfold bx;rw [ah hp.code,ht,ad ak];unfold kx;rw [ht]
        have hf:=hp.fail 7 t.at_ ai;refine ⟨one 2 t.at_ t.s [],p.fail 7 t.at_,fun g hg=>?_,hf⟩;obtain ⟨g,rfl,hg⟩:=mg hg;rw [iE,fG,ah hp.code,ad uc,ad (by rw [ht];exact AD),ad bA,Dc,ad hf.err,ht]
     ·rw [ad h3] at h |-
      have cE:∀ s:ae,s≠[]->is p 0 s=false:=fun s hs=>by unfold is;rw [ht];simp [h3]
      have uc:¬ (is p 0 [45]=true\/is p 0 [33]=true\/is p 0 [126]=true):=by rw [cE _ ai,cE _ ai,cE _ ai];decide
      by_cases D:t.kind=1
      ·rw [ah D];refine ⟨_,p.next,fun g hg=>?_,rfl,hn⟩;obtain ⟨g,rfl,hg⟩:=mg hg;rw [iE,fG,ah hp.code,ad uc,ah (by rw [ht];exact D),ht]
      ·rw [ad D] at h |-
       have cY:¬ (tok p 0).kind=1:=by rw [ht];exact D
       have bA:¬ is p 0 [40]=true:=by rw [cE _ ai];decide
       rcases tw hp with ⟨r',k1,k2⟩ | ⟨x,k1,k2⟩
       ·rw [k1] at h |-;simp only at h |-
        have nF:∀ s:ae,s≠[]->is (bx p) 0 s=decide (sign r' 0=s):=fun s hs=>On.is k2.1 0 hs
        by_cases hb:sign r' 0=[91]
        ·rw [ah hb] at h |-
         have u4:is (bx p) 0 [91]=true:=by rw [nF _ ai];simpa using hb
         obtain ⟨tb,AQ,_⟩:=dC ai hb;have bL:=k2.1;rw [AQ] at bL
         have bL:=k2.tr bL.next
         rw [<-bL.2.2] at h |-
         cases he:rd (bx p).next.e f (.expr (d+1)) r'.tail with
         | error x =>
          rw [he] at h
          have hx:x≠be:=fun h0=>h zeS
          obtain ⟨b,q,k3,k4⟩:=C.expr (d+1) r'.tail (bx p).next bL.1 zeK
          rw [he] at k4;refine ⟨one 3 t.at_ (tok p 0).s [b],want q [93],fun g hg=>?_,?_⟩
          ·exact zb6
          ·rw [fP (bV.err k4)];exact bL.tr (y:=.error x) k4
         | ok x =>
          obtain ⟨b',r2⟩:=x;rw [he] at h;simp only at h |-
          obtain ⟨b,q,k3,k4⟩:=C.expr (d+1) r'.tail (bx p).next bL.1 zeN
          rw [he] at k4;obtain ⟨rfl,k4⟩:=k4;have cp:=(bL.tr k4).tr (On.want k4.1 (s:=[93]) ai);rw [k4.2.2] at cp;refine ⟨one 3 t.at_ (tok p 0).s [b],want q [93],fun g hg=>?_,?_⟩
          ·exact zb6
          ·cases u7:aI (bx p).next.e [93] r2 with
           | error x=>rw [u7] at cp;exact cp
           | ok r3=>exact zc7
        ·rw [ad hb] at h |-
         have u4:¬ is (bx p) 0 [91]=true:=by rw [nF _ ai];simpa using hb
         by_cases hc:sign r' 0=[40]
         ·rw [ah hc] at h |-
          have pC:is (bx p) 0 [40]=true:=by rw [nF _ ai];simpa using hc
          obtain ⟨tb,AQ,_⟩:=dC ai hc;have bL:=k2.1;rw [AQ] at bL
          have bL:=k2.tr bL.next
          rw [<-bL.2.2] at h |-
          cases he:rd.args (bx p).next.e f (d+1) [] r'.tail with
          | error x =>
           rw [he] at h
           have hx:x≠be:=fun h0=>h zeS
           obtain ⟨b,q,k3,k4⟩:=C.args (d+1) [] r'.tail (bx p).next bL.1 zeK
           rw [he] at k4;refine ⟨one 4 t.at_ (tok p 0).s b,q,fun g hg=>?_,bL.tr (y:=.error x) k4⟩;exact zbX
          | ok x =>
           obtain ⟨b',r2⟩:=x;rw [he] at h
           obtain ⟨b,q,k3,k4⟩:=C.args (d+1) [] r'.tail (bx p).next bL.1 zeN
           rw [he] at k4;obtain ⟨rfl,k4⟩:=k4;refine ⟨one 4 t.at_ (tok p 0).s b,q,fun g hg=>?_,rfl,bL.tr k4⟩;exact zbX
         ·rw [ad hc] at h |-
          have pC:¬ is (bx p) 0 [40]=true:=by rw [nF _ ai];simpa using hc
          refine ⟨one 2 t.at_ (tok p 0).s [],bx p,fun g hg=>?_,rfl,k2⟩;obtain ⟨g,rfl,hg⟩:=mg hg;rw [iE,fG,ah hp.code,ad uc,ad cY,ad bA,ah k2.1.code,ad u4,ad pC];simp only [ht]
       ·rw [k1] at h |-;refine ⟨one 2 t.at_ (tok p 0).s [],bx p,fun g hg=>?_,k2⟩;obtain ⟨g,rfl,hg⟩:=mg hg;rw [iE,fG,ah hp.code,ad uc,ad cY,ad bA,ad k2.err];simp only [ht]
  ·rw [rd.args] at h |-;have hi:is p 0 [41]=decide (sign ts 0=[41]):=On.is hp 0 ai
   by_cases hb:sign ts 0=[41]
   ·rw [ah hb];have hm:=On.want hp (s:=[41]) ai;unfold Go.Xp.aI at hm;rw [ah hb] at hm;refine ⟨acc,want p [41],fun g hg=>?_,rfl,hm⟩;obtain ⟨g,rfl,hg⟩:=mg hg;rw [iA,ad (fun h0=>by rw [hi] at h0;simp [hb] at h0)]
   ·rw [ad hb] at h |-;have nj:p.code=0/\is p 0 [41]=false:=⟨hp.code,by rw [hi];simpa using hb⟩;have key:∀ (p':RS) (iz:List Tok),bV p p' (.ok iz)->(if acc.length=0 then p else want p [44])=p'->(match rd p.e f (.expr d) iz with | .error x=>.error x | .ok (a,ts)=>rd.args p.e f d (acc++[a]) ts:Rd (List T))≠.error be ->
      ∃ t q,(∀ g,f+1+2<=g->iA g d acc p=some (t,q))/\jm p q t (match rd p.e f (.expr d) iz with | .error x=>.error x | .ok (a,ts)=>rd.args p.e f d (acc++[a]) ts):=by
     intro p' iz hn EL h;rw [<-hn.2.2] at h |-
     cases he:rd p'.e f (.expr d) iz with
     | error x =>
      rw [he] at h
      have hx:x≠be:=fun h0=>h zeS
      obtain ⟨b,q,k1,k2⟩:=C.expr d iz p' hn.1 zeK;rw [he] at k2;refine ⟨acc++[b],q,fun g hg=>?_,hn.tr (y:=.error x) k2⟩;obtain ⟨g,rfl,hg⟩:=mg hg;rw [iA,ah nj,EL,k1 g ak];simp only;obtain ⟨g,rfl⟩:∃ g',g=g'+1:=⟨g - 1,by omega⟩;rw [iA,ad (fun h0=>bV.err k2 h0.1),fP (bV.err k2)]
     | ok x =>
      obtain ⟨b',r'⟩:=x;rw [he] at h;simp only at h |-;obtain ⟨b,q,k1,k2⟩:=C.expr d iz p' hn.1 zeN;rw [he] at k2;obtain ⟨rfl,k2⟩:=k2;rw [<-k2.2.2] at h |-;obtain ⟨t3,q3,h3,h4⟩:=C.args d (acc++[b]) r' q k2.1 h;refine ⟨t3,q3,fun g hg=>?_,jm.tr (hn.tr k2) h4⟩;obtain ⟨g,rfl,hg⟩:=mg hg;rw [iA,ah nj,EL,k1 g ak];exact h3 g ak
    cases acc with
    | nil =>
     rw [ah rfl] at h |-;exact key p ts hp.self rfl h
    | cons a0 acc0 =>
     rw [ad zeL] at h |-
     rcases mi hp (s:=[44]) ai with ⟨r',k1,k2⟩ | ⟨x,k1,k2⟩
     ·rw [k1] at h |-;exact key _ r' k2 (ad zeL) h
     ·rw [k1];refine ⟨a0::acc0++[T.zero],want p [44],fun g hg=>?_,k2⟩;obtain ⟨g,rfl,hg⟩:=mg hg;rw [iA,ah nj,ad zeL,E4 k2.err ak];simp only;obtain ⟨g,rfl⟩:∃ g',g=g'+1:=⟨g - 1,by omega⟩;rw [iA,ad (fun h0=>k2.err h0.1),fP k2.err]
end Go.Im
namespace Go.Xp
abbrev pP (ts:List Tok):Prop:=ts.Pairwise fun a b=>a.at_ < b.at_
theorem wC {e:Int} {s:ae} {ts r:List Tok} (hs:s≠[]) (h:aI e s ts=.ok r):∃ u,ts=u::r/\u.kind=3/\u.s=s:=by
 obtain ⟨D,I⟩:=Cg h;obtain ⟨t,h3,h4,h5⟩:=Go.Sp.dC hs I;exact ⟨t,by rw [D];exact h3,h4,h5⟩
theorem Fy {e:Int} {s:ae} {ts r:List Tok} (h:name e ts=.ok (s,r)):∃ u,ts=u::r/\u.kind=2/\u.s=s/\s.length<=12:=by
 cases ts with
 | nil=>cases h
 | cons t ts =>
  rw [name] at h;split at h
  ·split at h
   ·cases h
   ·cases h;exact ⟨t,rfl,by assumption,rfl,by omega⟩
  ·cases h
theorem tH {s:ae} {ts:List Tok} (hs:s≠[]) (h:sign ts 0=s):∃ u,ts=u::ts.tail/\u.kind=3/\u.s=s:=Go.Sp.dC hs h
def R1 (ts r:List Tok) (t:T):Prop:=∃ a pre,ts=a::(pre++r)/\(pP ts->a.at_<=t.n.at_/\(t.n.kind=3->t.n.at_=a.at_->a.kind=2/\∃ Uk w,a::pre=Uk++[w]/\w.s=[93]))
def R0 (ts r:List Tok) (out t:T):Prop:=(t=out/\r=ts)\/(t.n.kind=6/\∃ pre,ts=pre++r/\∃ u∈ts,t.n.at_=u.at_)
theorem Ry (e:Int):∀ f,(∀ j ts t r,(∀ k d out,j≠.loop k d out)->rd e f j ts=.ok (t,r)->R1 ts r t)/\(∀ k d out ts t r,rd e f (.loop k d out) ts=.ok (t,r)->R0 ts r out t)/\(∀ d acc ts l r,rd.args e f d acc ts=.ok (l,r)->∃ pre,ts=pre++r/\pre≠[]):=by
 intro f
 induction f with
 | zero=>exact ⟨fun j ts t r _ h=>by simp [rd] at h,fun k d out ts t r h=>by simp [rd] at h,fun d acc ts l r h=>by simp [rd.args] at h⟩
 | succ f ih =>
  obtain ⟨i1,i2,i3⟩:=ih;refine ⟨fun j ts t r hj h=>?_,fun k d out ts t r h=>?_,fun d acc ts l r h=>?_⟩
  ·rw [rd.eq_def] at h
   cases j with
   | expr d =>
    simp only at h;split at h
    ·cases h
    ·exact i1 _ _ _ _ (fun k d out h=>by cases h) h
   | level k d =>
    simp only at h;split at h
    ·exact i1 _ _ _ _ (fun k d out h=>by cases h) h
    ·split at h
     ·cases h
     ·rename_i out iz he;have D:=i1 _ _ _ _ (fun k d out h=>by cases h) he;have I:=i2 _ _ _ _ _ _ h
      rcases I with ⟨rfl,rfl⟩ | ⟨h3,Co,rfl,u,hu,h4⟩
      ·exact D
      ·obtain ⟨a,pre,rfl,h5⟩:=D;refine ⟨a,pre++Co,by simp,fun hs=>⟨?_,fun h6=>by omega⟩⟩;rw [h4];rw [pP,List.pairwise_cons] at hs;exact Int.le_of_lt (hs.1 u (List.mem_append_right _ hu))
   | loop k d out=>exact absurd rfl (hj _ _ _)
   | operand d =>
    simp only at h;split at h
    ·cases h
    ·cases ts with
     | nil=>cases h
     | cons a r' =>
      simp only at h;split at h
      ·rename_i h3;split at h
       ·split at h
        ·cases h
        ·rename_i b r2 he;cases h;obtain ⟨a2,pre,rfl,_⟩:=i1 _ _ _ _ (fun k d out h=>by cases h) he;exact ⟨a,a2::pre,by simp,fun _=>⟨by simp [one,T.n],fun h=>by simp [one,T.n] at h⟩⟩
       ·split at h
        ·split at h
         ·cases h
         ·rename_i b r2 he;split at h
          ·cases h
          ·rename_i r3 hm;cases h;obtain ⟨a2,pre,rfl,h5⟩:=i1 _ _ _ _ (fun k d out h=>by cases h) he;obtain ⟨w,rfl,_,_⟩:=wC ai hm;refine ⟨a,a2::(pre++[w]),by simp,fun hs=>?_⟩;rw [pP,List.pairwise_cons] at hs;have h6:=(h5 hs.2).1;have h7:=hs.1 a2 zeL;exact ⟨by omega,fun _ h8=>by omega⟩
        ·cases h
      ·split at h
       ·cases h;exact ⟨a,[],rfl,fun _=>⟨Int.le_refl _,fun h=>by simp [T.n] at h⟩⟩
       ·split at h
        ·cases h
        ·rename_i s r2 hn;obtain ⟨u,hu,hk,_⟩:=Fy hn;cases hu;split at h
         ·rename_i hs;obtain ⟨w,hw,_,_⟩:=tH ai hs;split at h
          ·cases h
          ·rename_i b r3 he;split at h
           ·cases h
           ·rename_i r4 hm;cases h;obtain ⟨a2,pre,h4,h5⟩:=i1 _ _ _ _ (fun k d out h=>by cases h) he;obtain ⟨z,rfl,_,hz⟩:=wC ai hm;refine ⟨a,w::a2::(pre++[z]),by rw [hw,h4];simp,fun _=>⟨Int.le_refl _,fun _ _=>⟨hk,a::w::a2::pre,z,by simp,hz⟩⟩⟩
         ·split at h
          ·rename_i hs;obtain ⟨w,hw,_,_⟩:=tH ai hs;split at h
           ·cases h
           ·rename_i l r3 he;cases h;obtain ⟨pre,h4,_⟩:=i3 _ _ _ _ _ he;exact ⟨a,w::pre,by rw [hw,h4];simp,fun _=>⟨Int.le_refl _,fun h=>by simp [one,T.n] at h⟩⟩
          ·cases h;exact ⟨a,[],rfl,fun _=>⟨Int.le_refl _,fun h=>by simp [one,T.n] at h⟩⟩
  ·cases ts with
   | nil=>rw [rd] at h;cases h;exact .inl ⟨rfl,rfl⟩
   | cons a r' =>
    rw [rd] at h;split at h
    ·split at h
     ·cases h
     ·rename_i b r2 he;obtain ⟨a2,pre,rfl,_⟩:=i1 _ _ _ _ (fun k d out h=>by cases h) he
      rcases i2 _ _ _ _ _ _ h with ⟨rfl,rfl⟩ | ⟨h3,Co,rfl,u,hu,h4⟩
      ·exact .inr ⟨rfl,a::a2::pre,by simp,a,by simp,rfl⟩
      ·exact .inr ⟨h3,a::a2::(pre++Co),by simp,u,by simp at hu |-;rcases hu with h | h <;> simp [h],h4⟩
    ·cases h;exact .inl ⟨rfl,rfl⟩
  ·rw [rd.args] at h;split at h
   ·rename_i hs;obtain ⟨w,hw,_,_⟩:=tH ai hs;cases h;exact ⟨[w],by rw [hw];rfl,by simp⟩
   ·split at h
    ·cases h
    ·rename_i iz tf;split at h
     ·cases h
     ·rename_i a r' he;obtain ⟨a2,pre,h4,_⟩:=i1 _ _ _ _ (fun k d out h=>by cases h) he;obtain ⟨Co,h5,_⟩:=i3 _ _ _ _ _ h;split at tf
      ·cases tf;exact ⟨a2::(pre++Co),by rw [h4,h5];simp,by simp⟩
      ·obtain ⟨w,hw,_,_⟩:=wC ai tf;exact ⟨w::a2::(pre++Co),by rw [hw,h4,h5];simp,by simp⟩
theorem KU {e:Int} {d:Nat} {ts r:List Tok} {t:T} (h:expr e d ts=.ok (t,r)):R1 ts r t:=(Ry e _).1 _ _ _ _ (fun k d out h=>by cases h) h
end Go.Xp
namespace Go.Im
open Go.Xp Go.Sp
def uf (p:RS):ae:=match p.l[p.i - 1]? with | some t=>t.s | none=>[]
def wH (p q:RS) (e:T):Prop:=e.n.kind=3/\q.code=0/\uf q=[93]/\e.n.at_=(tok p 0).at_/\(tok p 0).kind=2/\is q 0 [61]=true
instance (p q:RS) (e:T):Decidable (wH p q e):=by unfold wH;infer_instance
mutual
def iS:Nat->rS->RS->Option (T × RS)
 | 0,_,_=>none
 | f+1,.block d,p =>
  if (b9 p d).code=0 then match iB f (d+1) [] (want p [123]) with
   | none=>none
   | some (l,q)=>some (one 14 (tok p 0).at_ [] l,want q [125])
  else some (one 14 (tok p 0).at_ [] [],b9 p d)
 | f+1,.stmt d,p =>
  if (b9 p d).code=0 then
   if is p 0 lF=true then match iE f (.expr (d+1)) (want (bx p.next) [61]) with
    | none=>none
    | some (e,q)=>some (one 13 (tok p 0).at_ (tok p.next 0).s [e],want q [59])
   else if is p 0 eW=true\/is p 0 fC=true then match iE f (.expr (d+1)) (want p.next [40]) with
    | none=>none
    | some (c,q)=>match iS f (.block (d+1)) (want q [41]) with
     | none=>none
     | some (b,q) =>
      if is p 0 eW=true/\q.code=0/\is q 0 gF=true then match iS f (.block (d+1)) q.next with
       | none=>none
       | some (b2,q)=>some (one 9 (tok p 0).at_ [] [c,b,b2],q)
      else some (one (if is p 0 eW=true then 9 else 10) (tok p 0).at_ [] [c,b],q)
   else if is p 0 fL=true then match iE f (.expr (d+1)) p.next with
    | none=>none
    | some (e,q)=>some (one 11 (tok p 0).at_ [] [e],want q [59])
   else if (tok p 0).kind=2/\is p 1 [61]=true then match iE f (.expr (d+1)) (want (bx p) [61]) with
    | none=>none
    | some (e,q)=>some (one 7 (tok p 0).at_ (tok p 0).s [e],want q [59])
   else match iE f (.expr (d+1)) p with
    | none=>none
    | some (e,q) =>
     if wH p q e then match e.kids,iE f (.expr (d+1)) (want q [61]) with
      | a::_,some (v,q)=>some (one 8 (tok p 0).at_ e.n.s [a,v],want q [59])
      | _,_=>none
     else some (one 12 (tok p 0).at_ [] [e],want q [59])
  else some (T.zero,b9 p d)
def iB:Nat->Nat->List T->RS->Option (List T × RS)
 | 0,_,_,_=>none
 | f+1,d,acc,p=>if p.code=0/\is p 0 [125]=false then match iS f (.stmt d) p with
   | none=>none
   | some (a,q)=>iB f d (acc++[a]) q
  else some (acc,p)
end
def KI (p:RS) (f:Nat):Nat:=f+20 * p.l.length+40
section
variable {p q:RS} {ts r:List Tok}
theorem Jv {d g:Nat} (hp:On p ts) (hg:20 * p.l.length+20<=g):∃ t q,(∀ g,20 * p.l.length+20<=g->iE g (.expr d) p=some (t,q))/\((∃ r,expr p.e d ts=.ok (t,r)/\bV p q (.ok r))\/(∃ x,expr p.e d ts=.error x/\bV p q (.error x))):=by
 have hl:ts.length<=p.l.length:=by rw [<-hp.rest,jw];omega
 have hf:rd p.e (20 * ts.length+12) (.expr d) ts≠.error be:=yx (j:=.expr d) trivial (aD _);obtain ⟨t,q,D,I⟩:=(ie _).expr d ts p hp hf;rw [BU (aD _)] at I;refine ⟨t,q,fun g hg=>D g ak,?_⟩
 cases he:expr p.e d ts with
 | error x=>rw [he] at I;exact .inr ⟨x,rfl,I⟩
 | ok y=>obtain ⟨t',r⟩:=y;rw [he] at I;obtain ⟨rfl,I⟩:=I;exact .inl ⟨r,rfl,I⟩
theorem Ju {d:Nat} {b:ae} (hp:On p ts) (hb:b≠[]):∃ t q,(∀ g,20 * p.l.length+20<=g->iE g (.expr d) p=some (t,q))/\((∃ r r',expr p.e d ts=.ok (t,r)/\Go.Xp.aI p.e b r=.ok r'/\bV p (want q b) (.ok r'))\/(∃ r x,expr p.e d ts=.ok (t,r)/\Go.Xp.aI p.e b r=.error x/\bV p (want q b) (.error x))\/(∃ x,expr p.e d ts=.error x/\bV p (want q b) (.error x))):=by
 obtain ⟨t,q,D,I⟩:=Jv (d:=d) hp (aD _);refine ⟨t,q,D,?_⟩
 rcases I with ⟨r,I,h3⟩ | ⟨x,I,h3⟩
 ·rcases mi h3.1 hb with ⟨r',h4,h5⟩ | ⟨x,h4,h5⟩
  ·rw [h3.2.2] at h4;exact .inl ⟨r,r',I,h4,h3.tr h5⟩
  ·exact zej
 ·exact .inr (.inr ⟨x,I,by rw [fP h3.err];exact h3⟩)
theorem LO {d:Nat} {a b:ae} (hp:On p ts) (ha:a≠[]) (hb:b≠[]):∃ t q,(∀ g,20 * p.l.length+20<=g->iE g (.expr d) (want p a)=some (t,q))/\((∃ r,inner p.e d a b ts=.ok (t,r)/\bV p (want q b) (.ok r))\/∃ x,inner p.e d a b ts=.error x/\bV p (want q b) (.error x)):=by
 unfold Go.Xp.inner
 rcases mi hp ha with ⟨r,D,I⟩ | ⟨x,D,I⟩
 ·rw [D];obtain ⟨t,q,h3,h4⟩:=Ju (d:=d) (b:=b) I.1 hb;rw [I.2.2] at h4;rw [I.2.1] at h3;refine ⟨t,q,h3,?_⟩;simp only
  rcases h4 with ⟨r,r',k1,k2,k3⟩ | ⟨r,x,k1,k2,k3⟩ | ⟨x,k1,k3⟩
  ·exact zeu
  ·rw [k1];simp only;rw [k2];exact za2
  ·rw [k1];exact za2
 ·rw [D];exact ⟨T.zero,want p a,fun g hg=>E4 I.err ak,.inr ⟨x,rfl,by rw [fP I.err];exact I⟩⟩
theorem LU {d:Nat} (hp:On p ts):∃ t q,(∀ g,20 * p.l.length+20<=g->iE g (.expr d) (want (bx p) [61])=some (t,q))/\((∃ r,kW p.e d ts=.ok (((tok p 0).s,t),r)/\bV p (want q [59]) (.ok r))\/∃ x,kW p.e d ts=.error x/\bV p (want q [59]) (.error x)):=by
 unfold Go.Xp.kW
 rcases tw hp with ⟨r,D,I⟩ | ⟨x,D,I⟩
 ·rw [D];obtain ⟨t,q,h3,h4⟩:=LO (d:=d) (a:=[61]) (b:=[59]) I.1 ai ai;rw [I.2.2] at h4;rw [I.2.1] at h3;refine ⟨t,q,h3,?_⟩;simp only
  rcases h4 with ⟨r,k1,k3⟩ | ⟨x,k1,k3⟩
  ·rw [k1];exact .inl ⟨r,rfl,I.tr k3⟩
  ·rw [k1];exact za2
 ·rw [D];refine ⟨T.zero,bx p,fun g hg=>by rw [fP I.err];exact E4 I.err ak,.inr ⟨x,rfl,by rw [fP I.err];exact I⟩⟩
theorem Ov (h:p.code≠0) {g d:Nat} (hg:1<=g):iS g (.block d) p=some (one 14 (tok p 0).at_ [] [],p):=by
 obtain ⟨g,rfl⟩:∃ g',g=g'+1:=⟨g - 1,by omega⟩;rw [iS,Au h,ad h]
theorem On.ZY (h:On p ts) (hs:pP p.l):pP ts:=by rw [<-h.rest];exact hs.drop
theorem On.last (h:On p ts) {pre r:List Tok} {w:Tok} (hq:bV p q (.ok r)) (ht:ts=(pre++[w])++r):uf q=w.s:=by
 have D:p.l=p.l.take p.i++(pre++w::r):=by
  have:=List.take_append_drop p.i p.l;rw [h.rest,ht] at this;simp only [fF,List.singleton_append,cons_append,List.nil_append] at this;exact this.symm
 have hr:=congrArg List.length hq.1.rest;have hl:=congrArg List.length D;have hle:=hq.1.le;have dv:=h.le;rw [hq.2.1] at hr hle;simp only [jw,aJ,length_cons,lH] at hr hl;unfold uf;rw [hq.2.1,D,jO (by rw [lH];omega),jO (by rw [lH];omega)]
 have:q.i - 1 - (p.l.take p.i).length - pre.length=0:=by rw [lH];omega
 rw [this];rfl
end
structure X8 (f:Nat):Prop where
 block:∀ d ts p,On p ts->pP p.l->rs p.e f (.block d) ts≠.error be->∃ t q,(∀ g,KI p f<=g->iS g (.block d) p=some (t,q))/\jm p q t (rs p.e f (.block d) ts)
 stmt:∀ d ts p,On p ts->pP p.l->rs p.e f (.stmt d) ts≠.error be->∃ t q,(∀ g,KI p f<=g->iS g (.stmt d) p=some (t,q))/\jm p q t (rs p.e f (.stmt d) ts)
 body:∀ d acc ts p,On p ts->pP p.l->rs.body p.e f d acc ts≠.error be->∃ t q,(∀ g,KI p f<=g->iB g d acc p=some (t,q))/\jm p (want q [125]) t (rs.body p.e f d acc ts)
theorem oU {p:RS} {f g:Nat} (h:KI p (f+1)<=g):∃ g',g=g'+1/\KI p f<=g'/\20 * p.l.length+20<=g':=⟨g - 1,by unfold KI at h;omega,by unfold KI at *;omega,by unfold KI at h;omega⟩
theorem DM {p q:RS} (h:q.l=p.l) (f:Nat):KI q f=KI p f:=by unfold KI;rw [h]
theorem ZB (f:Nat):X8 f:=by
 induction f with
 | zero=>exact ⟨fun d ts p _ _ h=>absurd zfy h,fun d ts p _ _ h=>absurd zfy h,fun d acc ts p _ _ h=>absurd (by simp [rs.body]) h⟩
 | succ f C =>
  refine ⟨fun d ts p hp hs h=>?_,fun d ts p hp hs h=>?_,fun d acc ts p hp hs h=>?_⟩
  ·rw [rs] at h |-;have dv:=On.tJ hp
   by_cases hd:d > 60
   ·rw [ah hd] at h |-;have hf:=hp.fail 9 (tok p 0).at_ ai;refine ⟨one 14 (tok p 0).at_ [] [],p.fail 9 (tok p 0).at_,fun g hg=>?_,by rw [<-dv];exact hf⟩;obtain ⟨g,rfl,lz,fH⟩:=oU hg
    have fG:b9 p d=p.fail 9 (tok p 0).at_:=by unfold b9;rw [ah hd]
    rw [iS,fG,ad hf.err]
   ·rw [ad hd] at h |-
    have fG:b9 p d=p:=by unfold b9;rw [ad hd]
    rcases mi hp (s:=[123]) ai with ⟨r,D,I⟩ | ⟨x,D,I⟩
    ·rw [D] at h |-;simp only at h |-
     have hb:rs.body p.e f (d+1) [] r≠.error be:=fun h0=>h zeS
     rw [<-I.2.2] at hb;obtain ⟨l,q,h3,h4⟩:=C.body (d+1) [] r (want p [123]) I.1 (by rw [I.2.1];exact hs) hb;rw [I.2.2] at h4;rw [DM I.2.1] at h3;refine ⟨one 14 (tok p 0).at_ [] l,want q [125],fun g hg=>?_,?_⟩
     ·obtain ⟨g,rfl,lz,fH⟩:=oU hg;rw [iS,fG,ah hp.code,h3 g ak]
     ·cases he:rs.body p.e f (d+1) [] r with
      | error x=>rw [he] at h4;exact I.tr (y:=.error x) h4
      | ok y=>exact zcx
    ·rw [D] at h |-;refine ⟨one 14 (tok p 0).at_ [] [],want p [123],fun g hg=>?_,I⟩;obtain ⟨g,rfl,lz,fH⟩:=oU hg;rw [iS,fG,ah hp.code];obtain ⟨g,rfl⟩:∃ g',g=g'+1:=⟨g - 1,by omega⟩;rw [iB,ad (fun h0=>I.err h0.1)];simp only;rw [fP I.err]
  ·rw [rs] at h |-;have dv:=On.tJ hp
   by_cases hd:d > 60
   ·rw [ah hd] at h |-;have hf:=hp.fail 9 (tok p 0).at_ ai;refine ⟨T.zero,p.fail 9 (tok p 0).at_,fun g hg=>?_,by rw [<-dv];exact hf⟩;obtain ⟨g,rfl,lz,fH⟩:=oU hg
    have fG:b9 p d=p.fail 9 (tok p 0).at_:=by unfold b9;rw [ah hd]
    rw [iS,fG,ad hf.err]
   ·rw [ad hd] at h |-
    have fG:b9 p d=p:=by unfold b9;rw [ad hd]
    have hi:∀ s:ae,s≠[]->is p 0 s=decide (sign ts 0=s):=fun s hs=>On.is hp 0 hs
    have yY:is p 1 [61]=decide (sign ts 1=[61]):=On.is hp 1 ai;simp only at h |-
    by_cases hv:sign ts 0=lF
    ·rw [ah hv]
     have sf:is p 0 lF=true:=by rw [hi _ ai];simpa using hv
     obtain ⟨tv,xC,_⟩:=dC ai hv;have hn:=hp;rw [xC] at hn
     have hn:=hn.next
     rw [show p.e=p.next.e from rfl];obtain ⟨t,q,D,I⟩:=LU (d:=d+1) hn.1
     rcases I with ⟨r,I,h3⟩ | ⟨x,I,h3⟩
     ·rw [I];refine ⟨one 13 (tok p 0).at_ (tok p.next 0).s [t],want q [59],fun g hg=>?_,by rw [dv];rfl,hn.tr h3⟩;exact zdT
     ·rw [I];refine ⟨one 13 (tok p 0).at_ (tok p.next 0).s [t],want q [59],fun g hg=>?_,hn.tr (y:=.error x) h3⟩;exact zdT
    rw [ad hv] at h |-
    have sf:¬ is p 0 lF=true:=by rw [hi _ ai];simpa using hv
    by_cases hc:sign ts 0=eW\/sign ts 0=fC
    ·rw [ah hc] at h |-
     have pC:is p 0 eW=true\/is p 0 fC=true:=by rw [hi _ ai,hi _ ai];simpa using hc
     obtain ⟨tv,xC⟩:∃ t,ts=t::ts.tail:=by
      rcases hc with hc | hc
      ·obtain ⟨t,D,_⟩:=dC ai hc;exact ⟨t,D⟩
      ·obtain ⟨t,D,_⟩:=dC ai hc;exact ⟨t,D⟩
     have hn:=hp;rw [xC] at hn
     have hn:=hn.next
     have qu:(if is p 0 eW=true then (9:Int) else 10)=if sign ts 0=eW then 9 else 10:=by rw [hi _ ai];simp
     obtain ⟨c,q,D,I⟩:=LO (d:=d+1) (a:=[40]) (b:=[41]) hn.1 ai ai
     rcases I with ⟨r,I,h3⟩ | ⟨x,I,h3⟩
     ·rw [show p.next.e=p.e from rfl] at I;rw [I] at h |-;simp only at h |-;have h3:=hn.tr h3
      have hb:rs p.e f (.block (d+1)) r≠.error be:=fun h0=>h zeS
      rw [<-h3.2.2] at hb;obtain ⟨b,q2,h4,h5⟩:=C.block (d+1) r (want q [41]) h3.1 (by rw [h3.2.1];exact hs) hb;rw [h3.2.2] at h5;rw [DM h3.2.1] at h4
      cases he:rs p.e f (.block (d+1)) r with
      | error x =>
       rw [he] at h5;refine ⟨one (if is p 0 eW=true then 9 else 10) (tok p 0).at_ [] [c,b],q2,fun g hg=>?_,h3.tr (y:=.error x) h5⟩;obtain ⟨g,rfl,lz,fH⟩:=oU hg;refine zbq ?_;rw [ad (fun h0=>bV.err h5 h0.2.1)]
      | ok y =>
       obtain ⟨b',r2⟩:=y;rw [he] at h5 h;obtain ⟨rfl,h5⟩:=h5;simp only at h |-;have h5:=h3.tr h5;have jQ:is q2 0 gF=decide (sign r2 0=gF):=On.is h5.1 0 ai
       by_cases EL:sign ts 0=eW
       ·rw [ah EL] at h qu |-
        have Oi:is p 0 eW=true:=by rw [hi _ ai];simpa using EL
        by_cases jc:sign r2 0=gF
        ·rw [ah jc] at h |-;obtain ⟨te,LH,_⟩:=dC ai jc;have bL:=h5.1;rw [LH] at bL
         have bL:=h5.tr bL.next
         have hb:rs p.e f (.block (d+1)) r2.tail≠.error be:=fun h0=>h zeS
         rw [<-bL.2.2] at hb
         obtain ⟨b2,q3,h6,h7⟩:=C.block (d+1) r2.tail q2.next bL.1 (by rw [bL.2.1];exact hs) hb
         rw [bL.2.2] at h7;rw [DM bL.2.1] at h6;refine ⟨one 9 (tok p 0).at_ [] [c,b,b2],q3,fun g hg=>?_,?_⟩
         ·obtain ⟨g,rfl,lz,fH⟩:=oU hg;refine zbq ?_;rw [ah ⟨Oi,h5.1.code,by rw [jQ];simpa using jc⟩,h6 g lz]
         ·cases kO:rs p.e f (.block (d+1)) r2.tail with
          | error x=>rw [kO] at h7;exact bL.tr (y:=.error x) h7
          | ok y=>obtain ⟨b3,r3⟩:=y;rw [kO] at h7;obtain ⟨rfl,h7⟩:=h7;exact ⟨by rw [dv],bL.tr h7⟩
        ·rw [ad jc];refine ⟨one (if is p 0 eW=true then 9 else 10) (tok p 0).at_ [] [c,b],q2,fun g hg=>?_,by rw [qu,dv],h5⟩;obtain ⟨g,rfl,lz,fH⟩:=oU hg;refine zbq ?_;rw [ad (fun h0=>by have:=h0.2.2;rw [jQ] at this;exact jc (by simpa using this))]
       ·rw [ad EL] at qu |-
        have Oi:¬ is p 0 eW=true:=by rw [hi _ ai];simpa using EL
        refine ⟨one (if is p 0 eW=true then 9 else 10) (tok p 0).at_ [] [c,b],q2,fun g hg=>?_,by rw [qu,dv],h5⟩;obtain ⟨g,rfl,lz,fH⟩:=oU hg;refine zbq ?_;rw [ad (fun h0=>Oi h0.1)]
     ·rw [show p.next.e=p.e from rfl] at I;rw [I] at h |-;have h3:=hn.tr (y:=.error x) h3;refine ⟨one (if is p 0 eW=true then 9 else 10) (tok p 0).at_ [] [c,one 14 (tok (want q [41]) 0).at_ [] []],want q [41],fun g hg=>?_,h3⟩;obtain ⟨g,rfl,lz,fH⟩:=oU hg;rw [iS,fG,ah hp.code,ad sf,ah pC,D g fH];simp only;rw [Ov h3.err ak];simp only;rw [ad (fun h0=>h3.err h0.2.1)]
    rw [ad hc] at h |-
    have pC:¬ (is p 0 eW=true\/is p 0 fC=true):=by rw [hi _ ai,hi _ ai];simpa using hc
    by_cases hr:sign ts 0=fL
    ·rw [ah hr]
     have xz:is p 0 fL=true:=by rw [hi _ ai];simpa using hr
     obtain ⟨tv,xC,_⟩:=dC ai hr;have hn:=hp;rw [xC] at hn
     have hn:=hn.next
     obtain ⟨t,q,D,I⟩:=Ju (d:=d+1) (b:=[59]) hn.1 ai;rw [show p.next.e=p.e from rfl] at I;refine ⟨one 11 (tok p 0).at_ [] [t],want q [59],fun g hg=>?_,?_⟩
     ·obtain ⟨g,rfl,lz,fH⟩:=oU hg;rw [iS,fG,ah hp.code,ad sf,ad pC,ah xz,D g fH]
     ·rcases I with ⟨r,r',I,h3,h4⟩ | ⟨r,x,I,h3,h4⟩ | ⟨x,I,h4⟩
      ·exact zeB
      ·exact zcN
      ·rw [I];exact zbz
    rw [ad hr] at h |-
    have xz:¬ is p 0 fL=true:=by rw [hi _ ai];simpa using hr
    cases ts with
    | nil =>
     have ht:tok p 0=⟨0,0,[],p.e⟩:=by rw [On.tok hp];rfl
     have kT:¬ ((tok p 0).kind=2/\is p 1 [61]=true):=fun hx=>by have:=hx.1;rw [ht] at this;simp at this
     obtain ⟨t,q,D,I⟩:=Jv (d:=d+1) hp (aD _)
     rcases I with ⟨r,I,h3⟩ | ⟨x,I,h3⟩
     ·exact zev
     ·have kR:¬ wH p q t:=fun h0=>h3.err h0.2.1
      refine ⟨one 12 (tok p 0).at_ [] [t],want q [59],fun g hg=>?_,by unfold simple;rw [I,fP h3.err];exact h3⟩;exact zaW
    | cons a r0 =>
     simp only [simple] at h |-
     have ht:tok p 0=a:=by rw [On.tok hp];rfl
     by_cases iM:a.kind=2/\sign (a::r0) 1=[61]
     ·rw [ah iM];have kT:(tok p 0).kind=2/\is p 1 [61]=true:=⟨by rw [ht];exact iM.1,by rw [yY];simpa using iM.2⟩;obtain ⟨t,q,D,I⟩:=LU (d:=d+1) hp
      rcases I with ⟨r,I,h3⟩ | ⟨x,I,h3⟩
      ·rw [I];refine ⟨one 7 (tok p 0).at_ (tok p 0).s [t],want q [59],fun g hg=>?_,by rw [dv];rfl,h3⟩;exact zcO
      ·rw [I];refine ⟨one 7 (tok p 0).at_ (tok p 0).s [t],want q [59],fun g hg=>?_,h3⟩;exact zcO
     ·rw [ad iM]
      have kT:¬ ((tok p 0).kind=2/\is p 1 [61]=true):=fun hx=>iM ⟨by rw [<-ht];exact hx.1,by have:=hx.2;rw [yY] at this;simpa using this⟩
      obtain ⟨t,q,D,I⟩:=Jv (d:=d+1) hp (aD _)
      rcases I with ⟨r,I,h3⟩ | ⟨x,I,h3⟩
      ·rw [I];simp only;have jQ:is q 0 [61]=decide (sign r 0=[61]):=On.is h3.1 0 ai
       by_cases iK:t.n.kind=3/\t.n.at_=a.at_/\sign r 0=[61]
       ·rw [ah iK];obtain ⟨a',pre,Zp,Qb⟩:=KU I;cases Zp;obtain ⟨yZ,Uk,w,LJ,oO⟩:=(Qb (On.ZY hp hs)).2 iK.1 iK.2.1
        have U5:uf q=[93]:=by rw [<-oO];exact On.last hp h3 (by rw [<-LJ];rfl)
        have kR:wH p q t:=⟨iK.1,h3.1.code,U5,by rw [ht];exact iK.2.1,by rw [ht];exact yZ,by rw [jQ];simpa using iK.2.2⟩;obtain ⟨ix,xp⟩:=Mo _ _ _ _ _ _ (fun k d out hj=>by cases hj) I iK.1
        have dq:Go.Xp.aI p.e [61] r=.ok r.tail:=by unfold Go.Xp.aI;rw [ah iK.2.2]
        have Qd:=On.want h3.1 (s:=[61]) ai;rw [h3.2.2,dq] at Qd;have hn:=h3.tr Qd;obtain ⟨v,q2,h4,h5⟩:=Ju (d:=d+1) (b:=[59]) hn.1 ai;rw [hn.2.2] at h5;rw [hn.2.1] at h4;refine ⟨one 8 (tok p 0).at_ t.n.s [ix,v],want q2 [59],fun g hg=>?_,?_⟩
        ·obtain ⟨g,rfl,lz,fH⟩:=oU hg;rw [iS,fG,ah hp.code,ad sf,ad pC,ad xz,ad kT,D g fH];simp only;rw [ah kR,xp,h4 g fH]
        ·unfold Go.Xp.inner;rw [dq];simp only
         rcases h5 with ⟨r2,r',I,h3,h4⟩ | ⟨r2,x,I,h3,h4⟩ | ⟨x,I,h4⟩
         ·rw [I];simp only;rw [h3];exact ⟨by rw [ht,xp];rfl,hn.tr h4⟩
         ·exact zcN
         ·rw [I];exact zbz
       ·rw [ad iK]
        have kR:¬ wH p q t:=fun h0=>iK ⟨h0.1,by rw [<-ht];exact h0.2.2.2.1,by have:=h0.2.2.2.2.2;rw [jQ] at this;simpa using this⟩
        refine ⟨one 12 (tok p 0).at_ [] [t],want q [59],fun g hg=>?_,?_⟩
        ·exact zaW
        ·rcases mi h3.1 (s:=[59]) ai with ⟨r',h4,h5⟩ | ⟨x,h4,h5⟩
         ·rw [h3.2.2] at h4;rw [h4];exact ⟨by rw [ht],h3.tr h5⟩
         ·rw [h3.2.2] at h4;rw [h4];exact h3.tr (y:=.error x) h5
      ·rw [I]
       have kR:¬ wH p q t:=fun h0=>h3.err h0.2.1
       refine ⟨one 12 (tok p 0).at_ [] [t],want q [59],fun g hg=>?_,by rw [fP h3.err];exact h3⟩;exact zaW
  ·rw [rs.body] at h |-;have hi:is p 0 [125]=decide (sign ts 0=[125]):=On.is hp 0 ai
   by_cases hb:sign ts 0=[125]
   ·rw [ah hb];have hm:=On.want hp (s:=[125]) ai;unfold Go.Xp.aI at hm;rw [ah hb] at hm;refine ⟨acc,p,fun g hg=>?_,rfl,hm⟩;obtain ⟨g,rfl,lz,fH⟩:=oU hg;rw [iB,ad (fun h0=>by have:=h0.2;rw [hi] at this;simp [hb] at this)]
   ·rw [ad hb] at h |-
    have dI:rs p.e f (.stmt d) ts≠.error be:=fun h0=>h zeS
    obtain ⟨a,q,D,I⟩:=C.stmt d ts p hp hs dI;have hc:p.code=0/\is p 0 [125]=false:=⟨hp.code,by rw [hi];simpa using hb⟩
    cases he:rs p.e f (.stmt d) ts with
    | error x =>
     rw [he] at I h;refine ⟨acc++[a],q,fun g hg=>?_,by rw [fP (bV.err I)];exact I⟩;obtain ⟨g,rfl,lz,fH⟩:=oU hg;rw [iB,ah hc,D g lz];simp only;obtain ⟨g,rfl⟩:∃ g',g=g'+1:=⟨g - 1,by omega⟩;rw [iB,ad (fun h0=>bV.err I h0.1)]
    | ok y =>
     obtain ⟨a',r⟩:=y;rw [he] at I h;obtain ⟨rfl,I⟩:=I;simp only at h |-;rw [<-I.2.2] at h |-;obtain ⟨l,q3,h3,h4⟩:=C.body d (acc++[a]) r q I.1 (by rw [I.2.1];exact hs) h;rw [DM I.2.1] at h3;refine ⟨l,q3,fun g hg=>?_,jm.tr I h4⟩;obtain ⟨g,rfl,lz,fH⟩:=oU hg;rw [iB,ah hc,D g lz];exact h3 g lz
section
variable {p q:RS}
theorem qk {k:Nat} (h:(tok p k).kind≠0):p.i+k < p.l.length:=by
 unfold tok at h
 refine Nat.lt_of_not_le fun hn=>?_
 rw [List.getElem?_eq_none_iff.2 hn] at h;exact h rfl
theorem is_lt {k:Nat} {s:ae} (h:is p k s=true):p.i+k < p.l.length:=by
 unfold is at h;rw [au] at h;exact qk (by have:=h.1;simp at this;omega)
theorem fp {s:ae} (h:is p 0 s=true):p.to p.next:=cl (is_lt h)
theorem wN (hp:p.ok):p.to (kx p):=jv hp _ _
theorem bS (hp:p.ok) (s:ae):p.to (want p s):=by
 unfold want;split
 ·split
  ·rename_i h;exact fp h
  ·exact wN hp
 ·exact iv hp
theorem eX (hp:p.ok):p.to (bx p):=by
 unfold bx;split
 ·split
  ·rename_i h;split
   ·exact zet
   ·exact cl (qk (k:=0) ak)
  ·exact wN hp
 ·exact iv hp
theorem rK (hp:p.ok) (d:Nat):p.to (b9 p d):=by
 unfold b9;split
 ·exact zet
 ·exact iv hp
theorem oJ {d:Nat} (h:(b9 p d).code=0):b9 p d=p:=by
 unfold b9 at h |-;split at h
 ·unfold RS.fail at h;split at h
  ·cases h
  ·rename_i hd hc;exact absurd h hc
 ·rename_i hd;rw [ad hd]
end
theorem iC:∀ (f:Nat),(∀ j p t q,p.ok->iE f j p=some (t,q)->p.to q)/\(∀ d acc p l q,p.ok->iA f d acc p=some (l,q)->p.to q)
 | 0=>⟨fun j p t q _ h=>by simp [iE] at h,fun d acc p l q _ h=>by simp [iA] at h⟩
 | f+1=>by
  obtain ⟨D,I⟩:=iC f;refine ⟨fun j p t q hp h=>?_,fun d acc p l q hp h=>?_⟩
  ·cases j with
   | expr d =>
    rw [iE] at h;have hd:=rK hp d;split at h
    ·exact hd.trans (D _ _ _ _ (hd.ok hp) h)
    ·cases h;exact hd
   | level k d =>
    rw [iE] at h;split at h
    ·exact D _ _ _ _ hp h
    ·split at h
     ·cases h
     ·rename_i out p' he;have:=D _ _ _ _ hp he;exact zb3
   | loop k d out =>
    rw [iE] at h;split at h
    ·rename_i hc;have hn:=cl (p:=p) (qk (k:=0) (by have:=hc.2.1;omega));split at h
     ·cases h
     ·exact zdK
    ·cases h;exact iv hp
   | operand d =>
    rw [iE] at h;split at h
    ·split at h
     ·rename_i hc
      have hn:p.to p.next:=by rcases hc with hc | hc | hc <;> exact fp hc
      split at h
      ·cases h
      ·rename_i a p' he
       cases h;exact hn.trans (D _ _ _ _ (hn.ok hp) he)
     ·split at h
      ·rename_i hk
       cases h;exact cl (qk (k:=0) ak)
      ·split at h
       ·rename_i hc;have hn:=fp hc;split at h
        ·cases h
        ·rename_i a p' he;have:=hn.trans (D _ _ _ _ (hn.ok hp) he)
         cases h;exact zbi
       ·have hn:=eX hp;split at h
        ·split at h
         ·rename_i hc;have bL:=hn.trans (fp hc);split at h
          ·cases h
          ·rename_i a p' he;have:=bL.trans (D _ _ _ _ (bL.ok hp) he)
           cases h;exact zbi
         ·split at h
          ·rename_i hc;have bL:=hn.trans (fp hc);split at h
           ·cases h
           ·rename_i a p' he
            cases h;exact bL.trans (I _ _ _ _ _ (bL.ok hp) he)
          ·cases h;exact hn
        ·cases h;exact hn
    ·cases h;exact rK hp d
  ·rw [iA] at h;split at h
   ·have hn:p.to (if acc.length=0 then p else want p [44]):=by
     split
     ·exact iv hp
     ·exact bS hp _
    split at h
    ·cases h
    ·rename_i a p' he;have:=hn.trans (D _ _ _ _ (hn.ok hp) he);exact zcY
   ·cases h;exact bS hp _
theorem AR:∀ (f:Nat),(∀ j p t q,p.ok->iS f j p=some (t,q)->p.to q)/\(∀ d acc p l q,p.ok->iB f d acc p=some (l,q)->p.to q)
 | 0=>⟨fun j p t q _ h=>by simp [iS] at h,fun d acc p l q _ h=>by simp [iB] at h⟩
 | f+1=>by
  obtain ⟨D,I⟩:=AR f;have pD:=(iC f).1;refine ⟨fun j p t q hp h=>?_,fun d acc p l q hp h=>?_⟩
  ·cases j with
   | block d =>
    rw [iS] at h;split at h
    ·have hm:=bS hp [123];split at h
     ·cases h
     ·rename_i l p' he;have:=hm.trans (I _ _ _ _ _ (hm.ok hp) he)
      cases h;exact zbi
    ·cases h;exact rK hp d
   | stmt d =>
    rw [iS] at h;split at h
    ·split at h
     ·rename_i hs;have hn:=fp hs;have cL:=hn.trans (eX (hn.ok hp));have dq:=cL.trans (bS (cL.ok hp) [61]);split at h
      ·cases h
      ·rename_i e p' he;have:=dq.trans (pD _ _ _ _ (dq.ok hp) he)
       cases h;exact zbi
     ·split at h
      ·rename_i hs
       have hn:p.to p.next:=by rcases hs with hs | hs <;> exact fp hs
       have dq:=hn.trans (bS (hn.ok hp) [40]);split at h
       ·cases h
       ·rename_i e p' he;have:=dq.trans (pD _ _ _ _ (dq.ok hp) he);have nk:=this.trans (bS (this.ok hp) [41]);split at h
        ·cases h
        ·rename_i b p2 hb;have dS:=nk.trans (D _ _ _ _ (nk.ok hp) hb);split at h
         ·rename_i hc;have bL:=dS.trans (fp hc.2.2);split at h
          ·cases h
          ·rename_i b2 p3 rB
           cases h;exact bL.trans (D _ _ _ _ (bL.ok hp) rB)
         ·cases h;exact dS
      ·split at h
       ·rename_i hs;have hn:=fp hs;split at h
        ·cases h
        ·rename_i e p' he;have:=hn.trans (pD _ _ _ _ (hn.ok hp) he)
         cases h;exact zbi
       ·split at h
        ·have cL:=eX hp;have dq:=cL.trans (bS (cL.ok hp) [61]);split at h
         ·cases h
         ·rename_i e p' he;have:=dq.trans (pD _ _ _ _ (dq.ok hp) he)
          cases h;exact zbi
        ·split at h
         ·cases h
         ·rename_i e p' he;have hx:=pD _ _ _ _ hp he;split at h
          ·have hn:=hx.trans (bS (hx.ok hp) [61]);split at h
           ·rename_i a r v p2 hk kO;have:=hn.trans (pD _ _ _ _ (hn.ok hp) kO)
            cases h;exact zbi
           ·cases h
          ·cases h;exact hx.trans (bS (hx.ok hp) _)
    ·cases h;exact rK hp d
  ·rw [iB] at h;split at h
   ·split at h
    ·cases h
    ·rename_i a p' he;have:=D _ _ _ _ hp he;exact zcY
   ·cases h;exact iv hp
theorem vl (p:RS):p.next.i=p.i+1:=rfl
theorem TI:∀ (f:Nat) j p t q,p.ok->iE f j p=some (t,q)->q.code=0->(∀ k d out,j≠.loop k d out)->p.i < q.i:=by
 intro f
 induction f with
 | zero=>intro j p t q _ h;simp [iE] at h
 | succ f ih =>
  intro j p t q hp h hq hj
  cases j with
  | loop k d out=>exact absurd rfl (hj k d out)
  | expr d =>
   rw [iE] at h;split at h
   ·rename_i hc;rw [oJ hc] at h;exact ih _ _ _ _ hp h hq (fun k d out h=>by cases h)
   ·rename_i hc;cases h;exact absurd hq hc
  | level k d =>
   rw [iE] at h;split at h
   ·exact ih _ _ _ _ hp h hq (fun k d out h=>by cases h)
   ·split at h
    ·cases h
    ·rename_i out p' he;have jP:=(iC f).1 _ _ _ _ hp he
     have ar:p'.code=0:=by
      by_cases hc:p'.code=0
      ·exact hc
      ·cases f with
       | zero=>simp [iE] at h
       | succ f =>
        rw [iE,ad (fun h0=>hc h0.1)] at h
        cases h;exact hq
     have D:=ih _ _ _ _ hp he ar (fun k d out h=>by cases h);have I:=(iC f).1 _ _ _ _ (jP.ok hp) h;have:=I.2.2.2;omega
  | operand d =>
   rw [iE] at h;split at h
   ·split at h
    ·rename_i hc
     have hn:p.to p.next:=by rcases hc with hc | hc | hc <;> exact fp hc
     split at h
     ·cases h
     ·rename_i a p' he;cases h;have:=((iC f).1 _ _ _ _ (hn.ok hp) he).2.2.2;rw [vl] at this;omega
    ·split at h
     ·cases h;rw [vl];omega
     ·split at h
      ·rename_i hc;have hn:=fp hc;split at h
       ·cases h
       ·rename_i a p' he;cases h;have D:=(iC f).1 _ _ _ _ (hn.ok hp) he;have I:=(bS ((D.ok (hn.ok hp))) [41]).2.2.2;have:=D.2.2.2;rw [vl] at this;omega
      ·have hn:=eX hp;split at h
       ·rename_i ou
        have ar:p.i < (bx p).i:=by
         unfold bx at ou |-;split at ou
         ·rename_i h0;split at ou
          ·rename_i I;split at ou
           ·unfold RS.fail at ou;rw [ah h0] at ou;cases ou
           ·rename_i hl;rw [ah h0,ah I,ad hl,vl];omega
          ·unfold kx RS.fail at ou;rw [ah h0] at ou;cases ou
         ·rename_i h0;exact absurd ou h0
        split at h
        ·rename_i hc;have bL:=hn.trans (fp hc);split at h
         ·cases h
         ·rename_i a p' he;cases h;have D:=(iC f).1 _ _ _ _ (bL.ok hp) he;have I:=(bS ((D.ok (bL.ok hp))) [93]).2.2.2;have:=D.2.2.2;rw [vl] at this;omega
        ·split at h
         ·rename_i hc;have bL:=hn.trans (fp hc);split at h
          ·cases h
          ·rename_i a p' he;cases h;have:=((iC f).2 _ _ _ _ _ (bL.ok hp) he).2.2.2;rw [vl] at this;omega
         ·cases h;exact ar
       ·rename_i ou;cases h;exact absurd hq ou
   ·rename_i hc;cases h;exact absurd hq hc
end Go.Im
namespace Go.Xp
mutual
def aQ:T->Nat
 | .mk _ l=>aB l+1
def aB:List T->Nat
 | []=>0
 | t::r=>aQ t+aB r
end
def bj:Nat->List T->List Int
 | _,[]=>[]
 | n,t::r=>(n:Int)::bj (n+aQ t) r
mutual
def fQ:Nat->T->List Nd
 | n,.mk nd l=>⟨nd.kind,nd.at_,nd.n,nd.s,bj (n+1) l⟩::cD (n+1) l
def cD:Nat->List T->List Nd
 | _,[]=>[]
 | n,t::r=>fQ n t++cD (n+aQ t) r
end
theorem eg (t:T):aQ t=aB t.kids+1:=by cases t;rw [aQ];rfl
theorem KZ (n:Nat) (t:T):fQ n t=⟨t.n.kind,t.n.at_,t.n.n,t.n.s,bj (n+1) t.kids⟩::cD (n+1) t.kids:=by cases t;rw [fQ];rfl
theorem oe (a b:List T):aB (a++b)=aB a+aB b:=by
 induction a with
 | nil=>simp [aB]
 | cons t a ih=>simp only [cons_append,aB,ih];omega
theorem wo (a b:List T) (n:Nat):bj n (a++b)=bj n a++bj (n+aB a) b:=by
 induction a generalizing n with
 | nil=>simp [bj,aB]
 | cons t a ih=>simp only [cons_append,bj,aB,ih,iD]
theorem yg (a b:List T) (n:Nat):cD n (a++b)=cD n a++cD (n+aB a) b:=by
 induction a generalizing n with
 | nil=>simp [cD,aB]
 | cons t a ih=>simp only [cons_append,cD,aB,ih,iD,fF]
theorem my (a:List T) (n:Nat):(bj n a).length=a.length:=by
 induction a generalizing n with
 | nil=>rfl
 | cons t a ih=>simp [bj,ih]
theorem K1:∀ (N:Nat),(∀ t:T,aQ t<=N->∀ n,(fQ n t).length=aQ t)/\(∀ l:List T,aB l<=N->∀ n,(cD n l).length=aB l):=by
 intro N
 induction N with
 | zero =>
  refine ⟨fun t h=>by rw [eg] at h;omega,fun l h n=>?_⟩
  cases l with
  | nil=>rfl
  | cons t l=>rw [aB,eg] at h;omega
 | succ N ih =>
  have D:∀ t:T,aQ t<=N+1->∀ n,(fQ n t).length=aQ t:=fun t h n=>by
   rw [eg] at h;rw [KZ,eg,length_cons,ih.2 _ ak]
  refine ⟨D,fun l=>?_⟩
  induction l with
  | nil=>intro _ n;rfl
  | cons t l lD =>
   intro h n;rw [aB] at h;rw [cD,aJ,D t ak,lD ak,aB]
theorem uV (t:T) (n:Nat):(fQ n t).length=aQ t:=(K1 (aQ t)).1 t (aD _) n
theorem mV (l:List T) (n:Nat):(cD n l).length=aB l:=(K1 (aB l)).2 l (aD _) n
theorem uB (l:List T) (k:Nat):aB (l.take k)<=aB l:=by
 have:aB l=aB (l.take k)+aB (l.drop k):=by rw [<-oe,List.take_append_drop]
 omega
theorem uC {l:List T} {k:Nat} {t:T} (h:l[k]?=some t):aB (l.take (k+1))=aB (l.take k)+aQ t:=by
 have:l.take (k+1)=l.take k++[t]:=by rw [eK,h];rfl
 rw [this,oe,aB,aB];rfl
theorem jK (l:List T):l.length<=aB l:=by
 induction l with
 | nil=>simp
 | cons t l ih=>rw [aB,eg,length_cons];omega
end Go.Xp
