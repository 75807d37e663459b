/- Part 1 of proofs that are told in their last texts. -/
open List (append_assoc cons_append getElem?_cons_zero length_cons length_drop length_take mem_of_getElem? nil_append tail_cons)
set_option linter.unusedVariables false
set_option linter.unusedSimpArgs false
set_option maxRecDepth 100000
namespace Go.Xp
abbrev ai:=List UInt8
structure Tok where
 kind:Int
 n:Int
 s:ai
 at_:Int
structure Nd where
 kind:Int
 at_:Int
 n:Int
 s:ai
 kids:List Int
inductive T where
 | mk (n:Nd) (kids:List T)
def T.n:T->Nd | .mk n _=>n
def T.kids:T->List T | .mk _ k=>k
abbrev Er:=Int × Int
abbrev Rd (α:Type):=Except Er (α × List Tok)
def bd (t:Tok):ai:=if t.kind=3 then t.s else []
def sign (ts:List Tok) (k:Nat):ai:=match ts[k]? with | some t=>bd t | none=>[]
def place (e:Int):List Tok->Int
 | t::_=>t.at_
 | []=>e
def aI (e:Int) (s:ai) (ts:List Tok):Except Er (List Tok) :=
 if sign ts 0=s then .ok ts.tail else .error (7,place e ts)
def name (e:Int):List Tok->Rd ai
 | []=>.error (7,e)
 | t::r=>if t.kind=2 then (if t.s.length > 12 then .error (8,t.at_) else .ok (t.s,r)) else .error (7,t.at_)
def one (kind at_:Int) (s:ai) (kids:List T):T:=.mk ⟨kind,at_,0,s,[]⟩ kids
def levels:List (List ai):=[[[124,124]],[[38,38]],[[61,61],[33,61],[60],[62],[60,61],[62,61]],[[124]],[[94]],[[38]],[[60,60],[62,62]],[[43],[45]],[[42],[47],[37]]]
def aV:Er:=(-1,-1)
inductive nP where
 | expr (deep:Nat)
 | level (k deep:Nat)
 | loop (k deep:Nat) (out:T)
 | operand (deep:Nat)
def rd (e:Int):Nat->nP->List Tok->Rd T
 | 0,_,_=>.error aV
 | f+1,.expr deep,ts=>if deep > 60 then .error (9,place e ts) else rd e f (.level 0 (deep+1)) ts
 | f+1,.level k deep,ts =>
  if k=9 then rd e f (.operand deep) ts
  else match rd e f (.level (k+1) deep) ts with
   | .error x=>.error x
   | .ok (out,ts)=>rd e f (.loop k deep out) ts
 | f+1,.loop k deep out,ts =>
  match ts with
  | []=>.ok (out,ts)
  | t::r =>
   if t.kind=3/\t.s∈levels.getD k [] then
    match rd e f (.level (k+1) deep) r with
    | .error x=>.error x
    | .ok (b,r)=>rd e f (.loop k deep (one 6 t.at_ t.s [out,b])) r
   else .ok (out,ts)
 | f+1,.operand deep,ts =>
  if deep > 60 then .error (9,place e ts)
  else match ts with
  | []=>.error (7,e)
  | t::r =>
   if t.kind=3 then
    if t.s=[45]\/t.s=[33]\/t.s=[126] then
     match rd e f (.operand (deep+1)) r with
     | .error x=>.error x
     | .ok (a,r)=>.ok (one 5 t.at_ t.s [a],r)
    else if t.s=[40] then
     match rd e f (.expr (deep+1)) r with
     | .error x=>.error x
     | .ok (a,r)=>match aI e [41] r with
      | .error x=>.error x
      | .ok r=>.ok (a,r)
    else .error (7,t.at_)
   else if t.kind=1 then .ok (.mk ⟨1,t.at_,t.n,[],[]⟩ [],r)
   else match name e ts with
    | .error x=>.error x
    | .ok (s,r) =>
     if sign r 0=[91] then
      match rd e f (.expr (deep+1)) r.tail with
      | .error x=>.error x
      | .ok (a,r)=>match aI e [93] r with
       | .error x=>.error x
       | .ok r=>.ok (one 3 t.at_ s [a],r)
     else if sign r 0=[40] then
      match args e f (deep+1) [] r.tail with
      | .error x=>.error x
      | .ok (l,r)=>.ok (one 4 t.at_ s l,r)
     else .ok (one 2 t.at_ s [],r)
where
 args (e:Int):Nat->Nat->List T->List Tok->Rd (List T)
  | 0,_,_,_=>.error aV
  | f+1,deep,acc,ts =>
   if sign ts 0=[41] then .ok (acc,ts.tail)
   else match (if acc=[] then .ok ts else aI e [44] ts) with
    | .error x=>.error x
    | .ok ts=>match rd e f (.expr deep) ts with
     | .error x=>.error x
     | .ok (a,ts)=>args e f deep (acc++[a]) ts
def fX:ai:=[118,97,114]
def dE:ai:=[105,102]
def dW:ai:=[101,108,115,101]
def df:ai:=[119,104,105,108,101]
def cY:ai:=[114,101,116,117,114,110]
def kK:ai:=[105,110,116]
def lU:ai:=[102,117,110,99]
inductive pU where
 | block (deep:Nat)
 | stmt (deep:Nat)
def lM (ts:List Tok):Nat:=20 * ts.length+20
def expr (e:Int) (deep:Nat) (ts:List Tok):Rd T:=rd e (lM ts) (.expr deep) ts
def inner (e:Int) (deep:Nat) (a b:ai) (ts:List Tok):Rd T :=
 match aI e a ts with
 | .error x=>.error x
 | .ok ts=>match expr e deep ts with
  | .error x=>.error x
  | .ok (t,ts)=>match aI e b ts with
   | .error x=>.error x
   | .ok ts=>.ok (t,ts)
def kj (e:Int) (deep:Nat) (ts:List Tok):Rd (ai × T) :=
 match name e ts with
 | .error x=>.error x
 | .ok (s,ts)=>match inner e deep [61] [59] ts with
  | .error x=>.error x
  | .ok (t,ts)=>.ok ((s,t),ts)
def simple (e:Int) (deep:Nat) (ts:List Tok):Rd T :=
 match ts with
 | []=>match expr e (deep+1) [] with
  | .error x=>.error x
  | .ok _=>.error (7,e)
 | t::_ =>
  if t.kind=2/\sign ts 1=[61] then
   match kj e (deep+1) ts with
   | .error x=>.error x
   | .ok ((s,a),ts)=>.ok (one 7 t.at_ s [a],ts)
  else match expr e (deep+1) ts with
   | .error x=>.error x
   | .ok (a,ts) =>
    if a.n.kind=3/\a.n.at_=t.at_/\sign ts 0=[61] then
     match inner e (deep+1) [61] [59] ts with
     | .error x=>.error x
     | .ok (v,ts)=>.ok (one 8 t.at_ a.n.s (a.kids.take 1++[v]),ts)
    else match aI e [59] ts with
     | .error x=>.error x
     | .ok ts=>.ok (one 12 t.at_ [] [a],ts)
def rs (e:Int):Nat->pU->List Tok->Rd T
 | 0,_,_=>.error aV
 | f+1,.block deep,ts =>
  if deep > 60 then .error (9,place e ts)
  else match aI e [123] ts with
   | .error x=>.error x
   | .ok r=>match body e f (deep+1) [] r with
    | .error x=>.error x
    | .ok (l,r)=>.ok (one 14 (place e ts) [] l,r)
 | f+1,.stmt deep,ts =>
  if deep > 60 then .error (9,place e ts)
  else
   let at_:=place e ts
   if sign ts 0=fX then
    match kj e (deep+1) ts.tail with
    | .error x=>.error x
    | .ok ((s,a),ts)=>.ok (one 13 at_ s [a],ts)
   else if sign ts 0=dE\/sign ts 0=df then
    match inner e (deep+1) [40] [41] ts.tail with
    | .error x=>.error x
    | .ok (c,r)=>match rs e f (.block (deep+1)) r with
     | .error x=>.error x
     | .ok (b,r) =>
      if sign ts 0=dE then
       if sign r 0=dW then
        match rs e f (.block (deep+1)) r.tail with
        | .error x=>.error x
        | .ok (b2,r)=>.ok (one 9 at_ [] [c,b,b2],r)
       else .ok (one 9 at_ [] [c,b],r)
      else .ok (one 10 at_ [] [c,b],r)
   else if sign ts 0=cY then
    match expr e (deep+1) ts.tail with
    | .error x=>.error x
    | .ok (a,ts)=>match aI e [59] ts with
     | .error x=>.error x
     | .ok ts=>.ok (one 11 at_ [] [a],ts)
   else simple e deep ts
where
 body (e:Int):Nat->Nat->List T->List Tok->Rd (List T)
  | 0,_,_,_=>.error aV
  | f+1,deep,acc,ts =>
   if sign ts 0=[125] then .ok (acc,ts.tail)
   else match rs e f (.stmt deep) ts with
    | .error x=>.error x
    | .ok (a,ts)=>body e f deep (acc++[a]) ts
def block (e:Int) (deep:Nat) (ts:List Tok):Rd T:=rs e (lM ts) (.block deep) ts
structure Ar where
 name:ai
 size:Int
structure aD where
 name:ai
 params:List ai
 tree:T
structure Prog where
 globals:List ai
 arrays:List Ar
 fns:List aD
end Go.Xp
namespace Go.Sp
open Go.Xp
structure RS where
 l:List Tok
 i:Nat
 e:Int
 code:Int
 at_:Int
def RS.ok (p:RS):Prop:=p.i<=p.l.length/\p.l.length<=1099511627776
def RS.place (p:RS):Int:=match p.l[p.i]? with | some t=>t.at_ | none=>p.e
def RS.fail (p:RS) (c a:Int):RS:=if p.code=0 then ⟨p.l,p.i,p.e,c,a⟩ else p
def RS.sign (p:RS) (k:Nat):ai:=if p.code=0 then (match p.l[p.i+k]? with | some t=>bd t | none=>[]) else []
def RS.next (p:RS):RS:=⟨p.l,p.i+1,p.e,p.code,p.at_⟩
def RS.aI (p:RS) (s:ai):RS:=if p.sign 0=s then p.next else p.fail 7 p.place
def RS.name (p:RS):ai × RS :=
 if p.code=0 then match p.l[p.i]? with
  | some t=>if t.kind=2 then (if t.s.length > 12 then ([],p.fail 8 t.at_) else (t.s,p.next)) else ([],p.fail 7 p.place)
  | none=>([],p.fail 7 p.place)
 else ([],p)
def RS.deep (p:RS) (d:Nat):RS:=if d > 60 then p.fail 9 p.place else p
def T.zero:T:=.mk ⟨0,0,0,[],[]⟩ []
inductive J where
 | expr (d:Nat)
 | level (k d:Nat)
 | loop (k d:Nat) (out:T)
 | operand (d:Nat)
 | named (at_:Int) (s:ai) (d:Nat)
mutual
def mE:Nat->J->RS->Option (T × RS)
 | 0,_,_=>none
 | f+1,.expr d,p=>mE f (.level 0 d) (p.deep d)
 | f+1,.level k d,p =>
  if k=9 then mE f (.operand (d+1)) p
  else match mE f (.level (k+1) d) p with
   | none=>none
   | some (out,p)=>mE f (.loop k d out) p
 | f+1,.loop k d out,p =>
  if p.code=0/\(levels.getD k []).contains (p.sign 0)=true then
   match p.l[p.i]? with
   | none=>none
   | some t=>match mE f (.level (k+1) d) p.next with
    | none=>none
    | some (b,p)=>mE f (.loop k d (one 6 t.at_ t.s [out,b])) p
  else some (out,p)
 | f+1,.operand d,p =>
  let p:=p.deep d
  if p.code=0 then match p.l[p.i]? with
   | none=>some (T.zero,p.fail 7 p.place)
   | some t =>
    if t.kind=1 then some (.mk ⟨1,t.at_,t.n,[],[]⟩ [],p.next)
    else if t.kind=2 then mE f (.named t.at_ p.name.1 d) p.name.2
    else if t.s=[45]\/t.s=[33]\/t.s=[126] then match mE f (.operand (d+1)) p.next with
     | none=>none
     | some (a,p)=>some (one 5 t.at_ t.s [a],p)
    else if t.s=[40] then match mE f (.expr (d+1)) p.next with
     | none=>none
     | some (a,p)=>some (a,p.aI [41])
    else some (T.zero,p.fail 7 t.at_)
  else some (T.zero,p.fail 7 p.place)
 | f+1,.named at_ s d,p =>
  if p.sign 0=[91] then match mE f (.expr (d+1)) p.next with
   | none=>none
   | some (a,p)=>some (one 3 at_ s [a],p.aI [93])
  else if p.sign 0=[40] then match mL f (d+1) p.next with
   | none=>none
   | some (l,p)=>some (one 4 at_ s l,p)
  else some (one 2 at_ s [],p)
def mL:Nat->Nat->RS->Option (List T × RS)
 | 0,_,_=>none
 | f+1,d,p=>if p.sign 0=[41] then some ([],p.aI [41]) else match mE f (.expr d) p with
  | none=>none
  | some (a,p)=>sy f d [a] p
def sy:Nat->Nat->List T->RS->Option (List T × RS)
 | 0,_,_,_=>none
 | f+1,d,acc,p=>if p.sign 0=[44] then match mE f (.expr d) p.next with
   | none=>none
   | some (a,p)=>sy f d (acc++[a]) p
  else some (acc,p.aI [41])
end
def RS.mN (p:RS):Bool:=match p.l[p.i]? with | some t=>decide (t.kind=2) | none=>false
def RS.ck (p:RS):Int:=if p.sign 0=dE then 9 else 10
inductive JS where
 | block (d:Nat)
 | stmt (d:Nat)
 | cond (at_:Int) (d:Nat)
def fe (p:RS):Nat:=100 * p.l.length+2000
def mX (d:Nat) (p:RS):Option (T × RS):=mE (fe p) (.expr d) p
mutual
def mS:Nat->JS->RS->Option (T × RS)
 | 0,_,_=>none
 | f+1,.block d,p =>
  let p:=p.deep d
  match mB f (d+1) [] (p.aI [123]) with
  | none=>none
  | some (l,q)=>some (one 14 p.place [] l,q.aI [125])
 | f+1,.stmt d,p =>
  let p:=p.deep d
  let at_:=p.place
  let s:=p.sign 0
  if s=fX then match mX (d+1) ((p.next.name.2).aI [61]) with
   | none=>none
   | some (e,q)=>some (one 13 at_ p.next.name.1 [e],q.aI [59])
  else if s=dE\/s=df then mS f (.cond at_ d) p
  else if s=cY then match mX (d+1) p.next with
   | none=>none
   | some (e,q)=>some (one 11 at_ [] [e],q.aI [59])
  else if p.code=0/\p.mN=true/\p.sign 1=[61] then match mX (d+1) (p.name.2.aI [61]) with
   | none=>none
   | some (e,q)=>some (one 7 at_ p.name.1 [e],q.aI [59])
  else match mX (d+1) p with
   | none=>none
   | some (e,q) =>
    if e.n.kind=3/\e.n.at_=at_/\q.sign 0=[61] then match e.kids,mX (d+1) q.next with
     | a::_,some (v,q)=>some (one 8 at_ e.n.s [a,v],q.aI [59])
     | _,_=>none
    else some (one 12 at_ [] [e],q.aI [59])
 | f+1,.cond at_ d,p =>
  match mX (d+1) (p.next.aI [40]) with
  | none=>none
  | some (e,q)=>match mS f (.block (d+1)) (q.aI [41]) with
   | none=>none
   | some (b,q) =>
    if p.ck=9/\q.sign 0=dW then match mS f (.block (d+1)) q.next with
     | none=>none
     | some (b2,q)=>some (one p.ck at_ [] [e,b,b2],q)
    else some (one p.ck at_ [] [e,b],q)
def mB:Nat->Nat->List T->RS->Option (List T × RS)
 | 0,_,_,_=>none
 | f+1,d,acc,p=>if p.code=0/\¬ p.sign 0=[125] then match mS f (.stmt d) p with
   | none=>none
   | some (a,p)=>mB f d (acc++[a]) p
  else some (acc,p)
end
end Go.Sp
namespace Go.Sp
open Go.Xp
theorem fi {p:RS} {k:Nat} {s:ai} (h:p.sign k=s) (hs:s≠[]):p.i+k < p.l.length/\p.code=0:=by
 unfold RS.sign at h;split at h
 ·rename_i hc;refine ⟨Nat.lt_of_not_le fun hn=>?_,hc⟩;rw [List.getElem?_eq_none_iff.2 hn] at h;exact hs h.symm
 ·exact absurd h.symm hs
def RS.to (p q:RS):Prop:=q.l=p.l/\q.e=p.e/\q.i<=q.l.length/\p.i<=q.i
theorem RS.to.ok {p q:RS} (h:p.to q) (hp:p.ok):q.ok:=⟨h.2.2.1,by rw [h.1];exact hp.2⟩
theorem RS.to.trans {p q r:RS} (h:p.to q) (k:q.to r):p.to r:=⟨k.1.trans h.1,k.2.1.trans h.2.1,k.2.2.1,Nat.le_trans h.2.2.2 k.2.2.2⟩
theorem ji {p:RS} (hp:p.ok):p.to p:=⟨rfl,rfl,hp.1,Nat.le_refl _⟩
theorem lg {p:RS} (hp:p.ok) (c a:Int):p.to (p.fail c a):=by
 unfold RS.fail;split
 ·exact ⟨rfl,rfl,hp.1,Nat.le_refl _⟩
 ·exact ji hp
theorem di {p:RS} (h:p.i < p.l.length):p.to p.next:=⟨rfl,rfl,h,Nat.le_succ _⟩
theorem eY {p:RS} (hp:p.ok) {s:ai} (hs:s≠[]):p.to (p.aI s):=by
 unfold RS.aI;split
 ·rename_i h;exact di (by have:=(fi h hs).1;omega)
 ·exact lg hp _ _
theorem ql {p:RS} (hp:p.ok):p.to p.name.2:=by
 unfold RS.name;split
 ·cases ht:p.l[p.i]? with
  | none=>exact lg hp _ _
  | some t =>
   simp only;have ar:=(List.getElem?_eq_some_iff.1 ht).1;split
   ·split
    ·exact lg hp _ _
    ·exact di ar
   ·exact lg hp _ _
 ·exact ji hp
theorem ny {p:RS} (hp:p.ok) (d:Nat):p.to (p.deep d):=by
 unfold RS.deep;split
 ·exact lg hp _ _
 ·exact ji hp
theorem iL {p:RS} {s:ai} (h:p.sign 0=s) (hs:s≠[]):p.to p.next:=di (by have:=(fi h hs).1;omega)
theorem tu:∀ (f:Nat),(∀ j p t q,p.ok->mE f j p=some (t,q)->p.to q)/\(∀ d p l q,p.ok->mL f d p=some (l,q)->p.to q)/\(∀ d acc p l q,p.ok->sy f d acc p=some (l,q)->p.to q)
 | 0=>⟨fun j p t q _ h=>by simp [mE] at h,fun d p l q _ h=>by simp [mL] at h,fun d acc p l q _ h=>by simp [sy] at h⟩
 | f+1=>by
  obtain ⟨h1,h2,h3⟩:=tu f;refine ⟨fun j p t q hp h=>?_,fun d p l q hp h=>?_,fun d acc p l q hp h=>?_⟩
  ·cases j with
   | expr d=>rw [mE] at h;exact (ny hp d).trans (h1 _ _ _ _ ((ny hp d).ok hp) h)
   | level k d =>
    rw [mE] at h;split at h
    ·exact h1 _ _ _ _ hp h
    ·split at h
     ·cases h
     ·rename_i out p' he;have:=h1 _ _ _ _ hp he;exact this.trans (h1 _ _ _ _ (this.ok hp) h)
   | loop k d out =>
    rw [mE] at h;split at h
    ·split at h
     ·cases h
     ·rename_i t' ht;have hn:=di (p:=p) (List.getElem?_eq_some_iff.1 ht).1;split at h
      ·cases h
      ·rename_i b p' he;have:=hn.trans (h1 _ _ _ _ (hn.ok hp) he);exact this.trans (h1 _ _ _ _ (this.ok hp) h)
    ·cases h;exact ji hp
   | operand d =>
    rw [mE] at h;have hd:=ny hp d;have jT:=hd.ok hp;refine hd.trans ?_;generalize p.deep d=p at *
    try simp only at h
    split at h
    ·split at h
     ·cases h;exact lg jT _ _
     ·rename_i t' ht;have hn:=di (p:=p) (List.getElem?_eq_some_iff.1 ht).1;split at h
      ·cases h;exact hn
      ·split at h
       ·exact (ql jT).trans (h1 _ _ _ _ ((ql jT).ok jT) h)
       ·split at h
        ·split at h
         ·cases h
         ·rename_i a p' he
          cases h;exact hn.trans (h1 _ _ _ _ (hn.ok jT) he)
        ·split at h
         ·split at h
          ·cases h
          ·rename_i a p' he;have:=hn.trans (h1 _ _ _ _ (hn.ok jT) he)
           cases h;exact this.trans (eY (this.ok jT) (by decide))
         ·cases h;exact lg jT _ _
    ·cases h;exact lg jT _ _
   | named a s d =>
    rw [mE] at h;split at h
    ·rename_i hs;have hn:=iL hs (by decide);split at h
     ·cases h
     ·rename_i a' p' he;have:=hn.trans (h1 _ _ _ _ (hn.ok hp) he)
      cases h;exact this.trans (eY (this.ok hp) (by decide))
    ·split at h
     ·rename_i hs;have hn:=iL hs (by decide);split at h
      ·cases h
      ·rename_i a' p' he
       cases h;exact hn.trans (h2 _ _ _ _ (hn.ok hp) he)
     ·cases h;exact ji hp
  ·rw [mL] at h;split at h
   ·cases h;exact eY hp (by decide)
   ·split at h
    ·cases h
    ·rename_i a p' he;have:=h1 _ _ _ _ hp he;exact this.trans (h3 _ _ _ _ _ (this.ok hp) h)
  ·rw [sy] at h;split at h
   ·rename_i hs;have hn:=iL hs (by decide);split at h
    ·cases h
    ·rename_i a p' he;have:=hn.trans (h1 _ _ _ _ (hn.ok hp) he);exact this.trans (h3 _ _ _ _ _ (this.ok hp) h)
   ·cases h;exact eY hp (by decide)
end Go.Sp
namespace Go.Sp
open Go.Xp
def small (c:UInt8):Bool:=decide ((97:Int)<=(c.toNat:Int))&&decide ((c.toNat:Int)<=122)
def dO (c:UInt8):Bool:=decide ((48:Int)<=(c.toNat:Int))&&decide ((c.toNat:Int)<=57)
def dG (c:UInt8):Bool:=small c || (decide ((65:Int)<=(c.toNat:Int))&&decide ((c.toNat:Int)<=90)) || dO c || ((c.toNat:Int)==95)
def dv (c:UInt8):Bool:=((c.toNat:Int)==32) || ((c.toNat:Int)==9) || ((c.toNat:Int)==10) || ((c.toNat:Int)==13)
def br (s:ai) (at_:Nat) (t:ai):Bool:=decide (at_+t.length<=s.length)&&((s.take (at_+t.length)).drop at_==t)
def eI (s:ai):Nat->Nat->Nat
 | 0,e=>e
 | f+1,e=>if e < s.length/\br s e [42,47]=false then eI s f (e+1) else e
def skip (s:ai):Nat->Nat->Nat × Int
 | 0,at_=>(at_,-1)
 | f+1,at_=>match s[at_]? with
  | none=>(at_,-1)
  | some c =>
   if dv c=true then skip s f (at_+1)
   else if br s at_ [47,42]=true then
    let e:=eI s s.length (at_+2)
    if s.length<=e then (at_,(at_:Int)) else skip s f (e+2)
   else (at_,-1)
theorem iX {s t:ai} {a:Nat} (h:br s a t=true):a+t.length<=s.length:=by
 simp only [br,Bool.and_eq_true,decide_eq_true_eq] at h;exact h.1
theorem rv (s:ai):∀ (f e:Nat),e<=s.length->e<=eI s f e/\eI s f e<=s.length
 | 0,e,h=>⟨Nat.le_refl _,h⟩
 | f+1,e,h=>by
  rw [eI];split
  ·rename_i hc;have:=rv s f (e+1) hc.1;omega
  ·exact ⟨Nat.le_refl _,h⟩
theorem qv (s:ai):∀ (f e:Nat),e<=s.length->s.length<=f+e->¬ (eI s f e < s.length/\br s (eI s f e) [42,47]=false)
 | 0,e,h,hf=>by rw [eI];omega
 | f+1,e,h,hf=>by
  rw [eI];split
  ·rename_i hc;exact qv s f (e+1) hc.1 (by omega)
  ·assumption
end Go.Sp
namespace Go.Sp
open Go.Xp
def number (s:ai):Nat->Int->Nat->Int × Nat
 | 0,n,a=>(n,a)
 | f+1,n,a=>match s[a]? with
  | none=>(n,a)
  | some c=>if dO c=true then number s f (if n<=2147483647 then n * 10+((c.toNat:Int) - 48) else n) (a+1) else (n,a)
def run (s:ai) (p:UInt8->Bool):Nat->Nat->Nat
 | 0,a=>a
 | f+1,a=>match s[a]? with
  | none=>a
  | some c=>if p c=true then run s p f (a+1) else a
def words:List ai:=[[105,110,116],[118,97,114],[102,117,110,99],[105,102],[101,108,115,101],[119,104,105,108,101],[114,101,116,117,114,110]]
def bD:List ai:=[[124,124],[38,38],[61,61],[33,61],[60,61],[62,61],[60,60],[62,62],[40],[41],[123],[125],[91],[93],[44],[59],[61],[60],[62],[43],[45],[42],[47],[37],[38],[124],[94],[33],[126]]
def ek (s:ai) (a:Nat):Nat:=run s dG (s.length+1) a
def eR (s:ai) (a:Nat):ai:=(s.take (ek s a)).drop a
def iq (s:ai) (a:Nat) (c:UInt8):Tok × Nat :=
 if dO c=true then (⟨1,(number s (s.length+1) 0 a).1,[],a⟩,(number s (s.length+1) 0 a).2)
 else if small c=true then (⟨if words.contains (eR s a)=true then 3 else 2,0,eR s a,a⟩,ek s a)
 else match bD.find? (br s a) with
  | some x=>(⟨3,0,x,a⟩,a+x.length)
  | none=>(⟨0,0,[],0⟩,a)
def pD (s:ai):Nat->Nat->List Tok->Option (List Tok)
 | 0,_,_=>none
 | f+1,a,acc=>match s[a]? with
  | none=>some acc
  | some c=>pD s f (skip s (s.length+1) (iq s a c).2).1 (acc++[(iq s a c).1])
def ia (s:ai):Option (List Tok):=pD s (s.length+2) (skip s (s.length+1) 0).1 []
end Go.Sp
namespace Go.Sp
open Go.Xp
def word (s:ai):Bool:=s.all dG&&(match s with | []=>false | c::_=>small c)
def bh (s:ai):Bool:=word s&&decide (s.length<=12)&&!(words.contains s)
theorem vH (s:ai):∀ (f:Nat) (n:Int) (a:Nat),a<=s.length->s.length < f+a->(∀ c,s[(number s f n a).2]?=some c->dO c=false)/\a<=(number s f n a).2/\(number s f n a).2<=s.length
 | 0,n,a,h1,h2=>by omega
 | f+1,n,a,h1,h2=>by
  rw [number]
  cases hc:s[a]? with
  | none=>exact ⟨fun c h=>(by rw [hc] at h;cases h),Nat.le_refl _,h1⟩
  | some c =>
   simp only;have ar:=(List.getElem?_eq_some_iff.1 hc).1
   by_cases hd:dO c=true
   ·rw [if_pos hd];obtain ⟨h3,h4,h5⟩:=vH s f (if n<=2147483647 then n * 10+((c.toNat:Int) - 48) else n) (a+1) (by omega) (by omega);exact ⟨h3,by omega,h5⟩
   ·rw [if_neg hd];exact ⟨fun c' h=>(by rw [hc] at h;cases h;simpa using hd),Nat.le_refl _,h1⟩
theorem oS (s:ai) (p:UInt8->Bool):∀ (f:Nat) (a:Nat),a<=s.length->s.length < f+a->(∀ c,s[run s p f a]?=some c->p c=false)/\a<=run s p f a/\run s p f a<=s.length
 | 0,a,h1,h2=>by omega
 | f+1,a,h1,h2=>by
  rw [run]
  cases hc:s[a]? with
  | none=>exact ⟨fun c h=>(by rw [hc] at h;cases h),Nat.le_refl _,h1⟩
  | some c =>
   simp only;have ar:=(List.getElem?_eq_some_iff.1 hc).1
   by_cases hd:p c=true
   ·rw [if_pos hd];obtain ⟨h3,h4,h5⟩:=oS s p f (a+1) (by omega) (by omega);exact ⟨h3,by omega,h5⟩
   ·rw [if_neg hd];exact ⟨fun c' h=>(by rw [hc] at h;cases h;simpa using hd),Nat.le_refl _,h1⟩
theorem ya (s:ai):∀ (f a:Nat),a<=s.length->a<=(skip s f a).1/\(skip s f a).1<=s.length
 | 0,a,h=>⟨Nat.le_refl _,h⟩
 | f+1,a,h=>by
  rw [skip]
  cases hc:s[a]? with
  | none=>exact ⟨Nat.le_refl _,h⟩
  | some c =>
   simp only;have ar:=(List.getElem?_eq_some_iff.1 hc).1;split
   ·have:=ya s f (a+1) ar;omega
   ·split
    ·rename_i hb;have hb:=iX hb;have hb:a+2<=s.length:=hb;have h1:=rv s s.length (a+2) hb;have h2:=qv s s.length (a+2) hb (by omega);split
     ·exact ⟨Nat.le_refl _,h⟩
     ·rename_i hn
      have h3:br s (eI s s.length (a+2)) [42,47]=true:=by
       cases oG:br s (eI s s.length (a+2)) [42,47] with
       | true=>rfl
       | false=>exact absurd ⟨by omega,oG⟩ h2
      have h3:=iX h3;have h3:eI s s.length (a+2)+2<=s.length:=h3;have:=ya s f (eI s s.length (a+2)+2) h3;omega
    ·exact ⟨Nat.le_refl _,h⟩
end Go.Sp
namespace Go.Sp
open Go.Xp
theorem om {d:Nat} {p q:RS} {t:T} (hp:p.ok) (h:mX d p=some (t,q)):p.to q:=(tu _).1 _ _ _ _ hp h
theorem JL:∀ (f:Nat),(∀ j p t q,p.ok->(∀ a d,j=.cond a d->p.i < p.l.length)->mS f j p=some (t,q)->p.to q)/\(∀ d acc p l q,p.ok->mB f d acc p=some (l,q)->p.to q)
 | 0=>⟨fun j p t q _ _ h=>by simp [mS] at h,fun d acc p l q _ h=>by simp [mB] at h⟩
 | f+1=>by
  obtain ⟨h1,h2⟩:=JL f
  have dq:∀ d (p:RS) t q,p.ok->mS f (.block d) p=some (t,q)->p.to q:=fun d p t q hp h=>h1 _ _ _ _ hp (fun a d' h=>by cases h) h
  refine ⟨fun j p t q hp mj h=>?_,fun d acc p l q hp h=>?_⟩
  ·cases j with
   | block d =>
    rw [mS] at h;have hd:=ny hp d;refine hd.trans ?_;have jT:=hd.ok hp;generalize p.deep d=p at *
    try simp only at h
    have hm:=eY jT (s:=[123]) (by decide);split at h
    ·cases h
    ·rename_i l p' he;have:=hm.trans (h2 _ _ _ _ _ (hm.ok jT) he)
     cases h;exact this.trans (eY (this.ok jT) (by decide))
   | stmt d =>
    rw [mS] at h;have hd:=ny hp d;refine hd.trans ?_;have jT:=hd.ok hp;generalize p.deep d=p at *
    try simp only at h
    split at h
    ·rename_i hs;have hn:=iL hs (by decide);have eD:=hn.trans (ql (hn.ok jT));have jn:=eD.trans (eY (eD.ok jT) (s:=[61]) (by decide));split at h
     ·cases h
     ·rename_i e p' he;have:=jn.trans (om (jn.ok jT) he)
      cases h;exact this.trans (eY (this.ok jT) (by decide))
    ·split at h
     ·rename_i hs;refine h1 _ _ _ _ jT (fun a d' _=>?_) h
      rcases hs with hs | hs
      ·exact (fi hs (by decide)).1
      ·exact (fi hs (by decide)).1
     ·split at h
      ·rename_i hs;have hn:=iL hs (by decide);split at h
       ·cases h
       ·rename_i e p' he;have:=hn.trans (om (hn.ok jT) he)
        cases h;exact this.trans (eY (this.ok jT) (by decide))
      ·split at h
       ·have eD:=ql jT;have jn:=eD.trans (eY (eD.ok jT) (s:=[61]) (by decide));split at h
        ·cases h
        ·rename_i e p' he;have:=jn.trans (om (jn.ok jT) he)
         cases h;exact this.trans (eY (this.ok jT) (by decide))
       ·split at h
        ·cases h
        ·rename_i e p' he;have hx:=om jT he;split at h
         ·rename_i hs;have hn:=hx.trans (iL hs.2.2 (by decide));split at h
          ·rename_i a r v p2 hk oH;have:=hn.trans (om (hn.ok jT) oH)
           cases h;exact this.trans (eY (this.ok jT) (by decide))
          ·cases h
         ·cases h;exact hx.trans (eY (hx.ok jT) (by decide))
   | cond a d =>
    rw [mS] at h;have hn:=di (mj a d rfl);have hm:=hn.trans (eY (hn.ok hp) (s:=[40]) (by decide))
    try simp only at h
    split at h
    ·cases h
    ·rename_i e p' he;have hx:=hm.trans (om (hm.ok hp) he);have Ey:=hx.trans (eY (hx.ok hp) (s:=[41]) (by decide));split at h
     ·cases h
     ·rename_i b p2 hb;have eC:=Ey.trans (dq _ _ _ _ (Ey.ok hp) hb);split at h
      ·rename_i hs;have bJ:=eC.trans (iL hs.2 (by decide));split at h
       ·cases h
       ·rename_i b2 p3 wW
        cases h;exact bJ.trans (dq _ _ _ _ (bJ.ok hp) wW)
      ·cases h;exact eC
  ·rw [mB] at h;split at h
   ·split at h
    ·cases h
    ·rename_i a p' he;have:=h1 _ _ _ _ hp (fun a d' h=>by cases h) he;exact this.trans (h2 _ _ _ _ _ (this.ok hp) h)
   ·cases h;exact ji hp
end Go.Sp
namespace Go.Sp
open Go.Xp
structure Fn where
 name:ai
 params:List ai
 body:Int
structure Src where
 globals:List ai
 arrays:List Ar
 fns:List Fn
 nodes:List Nd
def lS (k:Int):Bool:=decide ((1:Int)<=k)&&decide (k<=6)
def fS (k:Int):Bool:=decide ((7:Int)<=k)&&decide (k<=13)
def be (from_:Nat):Nat->List T->Bool
 | _,[]=>true
 | i,t::r=>(if i < from_ then lS t.n.kind else t.n.kind==14)&&be from_ (i+1) r
def ej (s:ai):Bool:=levels.any fun l=>l.contains s
mutual
def sub (nodes:List Nd):Nat->Nat->Option T
 | 0,_=>none
 | f+1,a=>match nodes[a]? with
  | none=>none
  | some n=>match nN nodes f n.kids [] with
   | none=>none
   | some l=>some (.mk n l)
def nN (nodes:List Nd):Nat->List Int->List T->Option (List T)
 | _,[],acc=>some acc
 | 0,_::_,_=>none
 | f+1,k::r,acc=>if k < 0 then none else match sub nodes f k.toNat with
  | none=>none
  | some t=>nN nodes f r (acc++[t])
end
mutual
def nJ (nodes:List Nd):Nat->Nat->Nat->Option Int
 | 0,_,_=>none
 | f+1,a,d=>if nodes.length<=a\/d > 800 then some (-1) else match nodes[a]? with
  | none=>none
  | some n=>mC nodes f n.kids (a+1) d
def mC (nodes:List Nd):Nat->List Int->Int->Nat->Option Int
 | _,[],next,_=>some next
 | 0,_::_,_,_=>none
 | f+1,k::r,next,d=>if k=next then match nJ nodes f k.toNat (d+1) with
   | none=>none
   | some e=>if e < 0 then some (-1) else mC nodes f r e d
  else some (-1)
end
def own (n:Nd) (k:Nat) (kd:Nat->Bool) (bl:Bool):Bool :=
 if decide (n.at_ < 0) then false else if n.kind != 1&&n.n != 0 then false
 else if n.kind==1 then decide ((0:Int)<=n.n)&&(decide (n.n<=2147483647)&&(n.s==[]&&(k:Int)==0))
 else if n.kind==2 then bh n.s&&(k:Int)==0
 else if n.kind==3 || n.kind==7 || n.kind==13 then bh n.s&&((k:Int)==1&&kd 1)
 else if n.kind==4 then bh n.s&&kd k
 else if n.kind==5 then (n.s==[45] || n.s==[33] || n.s==[126])&&((k:Int)==1&&kd 1)
 else if n.kind==6 then ej n.s&&((k:Int)==2&&kd 2)
 else if n.kind==8 then bh n.s&&((k:Int)==2&&kd 2)
 else if n.kind==9 then n.s==[]&&(((k:Int)==2 || (k:Int)==3)&&kd 1)
 else if n.kind==10 then n.s==[]&&((k:Int)==2&&kd 1)
 else if n.kind==11 || n.kind==12 then n.s==[]&&((k:Int)==1&&kd 1)
 else if n.kind==14 then bl&&n.s==[]
 else false
def bH (t:T):Bool:=own t.n t.kids.length (fun m=>be m 0 t.kids) (t.kids.all fun x=>fS x.n.kind)
mutual
def cU:T->Bool
 | .mk n l=>bP l&&bH (.mk n l)
def bP:List T->Bool
 | []=>true
 | t::r=>cU t&&bP r
end
mutual
def FI:T->Prop
 | .mk n l=>n.s.length<=1099511627776/\l.length<=1099511627776/\vN l
def vN:List T->Prop
 | []=>True
 | t::r=>FI t/\vN r
end
theorem FK:∀ {l:List T} {t:T},vN l->t∈l->FI t
 | [],_,_,h=>by cases h
 | a::r,t,h,hm=>by
  rw [vN] at h
  rcases List.mem_cons.mp hm with rfl | hm
  ·exact h.1
  ·exact FK h.2 hm
theorem FJ:∀ {l:List T} {t:T},vN l->FI t->vN (l++[t])
 | [],t,_,ht=>⟨ht,trivial⟩
 | a::r,t,h,ht=>by
  rw [vN] at h;exact ⟨h.1,FJ h.2 ht⟩
theorem U4 {nodes:List Nd} (hk:∀ n∈nodes,n.s.length<=1099511627776/\n.kids.length<=1099511627776):∀ f:Nat,(∀ a t,sub nodes f a=some t->FI t)/\(∀ ks acc l,nN nodes f ks acc=some l->acc.length+ks.length=l.length/\(vN acc->vN l)):=by
 intro f
 induction f with
 | zero =>
  refine ⟨fun a t h=>by simp [sub] at h,fun ks acc l h=>?_⟩
  cases ks with
  | nil=>rw [nN] at h;cases h;exact ⟨by simp,id⟩
  | cons k r=>simp [nN] at h
 | succ f ih =>
  constructor
  ·intro a t h;rw [sub] at h
   cases hn:nodes[a]? with
   | none=>rw [hn] at h;cases h
   | some n =>
   rw [hn] at h;simp only at h
   cases hs:nN nodes f n.kids [] with
   | none=>rw [hs] at h;cases h
   | some l =>
   rw [hs] at h;cases h;have hi:=ih.2 _ _ _ hs;have hb:=hk n (mem_of_getElem? hn);exact ⟨hb.1,by have:=hi.1;simp at this;omega,hi.2 trivial⟩
  ·intro ks acc l h
   cases ks with
   | nil=>rw [nN] at h;cases h;exact ⟨by simp,id⟩
   | cons k r =>
    rw [nN] at h
    by_cases yF:k < 0
    ·rw [if_pos yF] at h;cases h
    rw [if_neg yF] at h
    cases hs:sub nodes f k.toNat with
    | none=>rw [hs] at h;cases h
    | some t =>
    rw [hs] at h;simp only at h;have h2:=ih.2 _ _ _ h;refine ⟨by have:=h2.1;simp at this |-;omega,fun ha=>h2.2 (FJ ha (ih.1 _ _ hs))⟩
def ca:List ai->Bool:=fun l=>l.all bh
def nH (a:Ar):Bool:=bh a.name&&!(decide (a.size < 0))&&!(decide (2147483647 < a.size))
def fN (nodes:List Nd):Nat:=2 * nodes.length+4
def fJ (nodes:List Nd):List Fn->Int->Option (Option Int)
 | [],next=>some (some next)
 | f::r,next=>match nJ nodes (fN nodes) next.toNat 0 with
  | none=>none
  | some e=>if f.body≠next\/bh f.name=false\/e < 0 then some none else if ca f.params=false then some none else match sub nodes (fN nodes) next.toNat with
   | none=>none
   | some t=>if t.n.kind≠14\/cU t=false then some none else fJ nodes r e
def nw (p:Src):Option Bool :=
 if ca p.globals=false then some false else if p.arrays.all nH=false then some false else match fJ p.nodes p.fns 0 with
  | none=>none
  | some none=>some false
  | some (some next)=>some (next==(p.nodes.length:Int)&&decide (next<=800))
end Go.Sp
namespace Go.Xp
theorem BP {e:Int} {s:ai} {ts r:List Tok} (h:aI e s ts=.ok r):r=ts.tail/\sign ts 0=s:=by
 unfold aI at h;split at h
 ·cases h;exact ⟨rfl,by assumption⟩
 ·cases h
theorem vC {e:Int} {s:ai} {ts r:List Tok} (h:aI e s ts=.ok r):r.length<=ts.length:=by
 rw [(BP h).1,List.length_tail];omega
theorem xZ {e:Int} {s:ai} {ts r:List Tok} (hs:s≠[]) (h:aI e s ts=.ok r):r.length < ts.length:=by
 obtain ⟨h1,h2⟩:=BP h;rw [h1,List.length_tail]
 cases ts with
 | nil=>exact absurd h2.symm hs
 | cons=>simp
theorem fi {s:ai} {ts:List Tok} (hs:s≠[]) (h:sign ts 0=s):ts.tail.length < ts.length:=by
 cases ts with
 | nil=>exact absurd h.symm hs
 | cons=>simp
theorem oN {e:Int} {s:ai} {ts:List Tok} {x:Er} (h:aI e s ts=.error x):x≠aV:=by
 unfold aI at h;split at h
 ·cases h
 ·cases h;intro h0;cases h0
theorem Fc {e:Int} {s:ai} {ts r:List Tok} (h:name e ts=.ok (s,r)):r.length < ts.length:=by
 unfold name at h;split at h
 ·cases h
 ·split at h
  ·split at h
   ·cases h
   ·cases h;simp
  ·cases h
theorem Ic {e:Int} {ts:List Tok} {x:Er} (h:name e ts=.error x):x≠aV:=by
 unfold name at h;split at h
 ·cases h;intro h0;cases h0
 ·split at h
  ·split at h <;> cases h;intro h0;cases h0
  ·cases h;intro h0;cases h0
def nL:nP->Nat->Nat
 | .operand _,n=>20 * n+1
 | .loop _ _ _,n=>20 * n+1
 | .level k _,n=>20 * n+2+(9 - k)
 | .expr _,n=>20 * n+12
def vF (acc:List T) (n:Nat):Nat:=match acc with | []=>20 * n+14 | _=>20 * n+1
def Jx:nP->Prop
 | .level k _=>k<=9
 | .loop k _ _=>k < 9
 | _=>True
def good (e:Int) (f:Nat) (j:nP) (ts:List Tok):Prop :=
 Jx j->(∀ t r,rd e f j ts=.ok (t,r)->r.length<=ts.length)/\(nL j ts.length<=f->rd e f j ts≠.error aV)
def Qk (e:Int) (f deep:Nat) (acc:List T) (ts:List Tok):Prop :=
 (∀ t r,rd.args e f deep acc ts=.ok (t,r)->r.length<=ts.length)/\(vF acc ts.length<=f->rd.args e f deep acc ts≠.error aV)
theorem YF {a:Int}:((7,a):Er)≠aV:=by intro h;cases h
theorem er9 {a:Int}:((9,a):Er)≠aV:=by intro h;cases h
theorem BU (e:Int):∀ f,(∀ j ts,good e f j ts)/\(∀ deep acc ts,Qk e f deep acc ts)
 | 0=>by
  refine ⟨fun j ts _=>⟨fun t r h=>?_,fun h=>?_⟩,fun deep acc ts=>⟨fun t r h=>?_,fun h=>?_⟩⟩
  ·rw [rd] at h;cases h
  ·cases j <;> simp only [nL] at h <;> omega
  ·rw [rd.args] at h;cases h
  ·unfold vF at h;split at h <;> omega
 | f+1=>by
  obtain ⟨ih,xg⟩:=BU e f;constructor
  ·intro j ts hj
   cases j with
   | expr deep =>
    obtain ⟨h1,h2⟩:=ih (.level 0 (deep+1)) ts (Nat.zero_le _);rw [rd];split
    ·exact ⟨fun t r h=>(by cases h),fun _ h=>(by cases h)⟩
    ·exact ⟨h1,fun h=>h2 (by simp only [nL] at h |-;omega)⟩
   | level k deep =>
    have hj:k<=9:=hj;rw [rd];split
    ·obtain ⟨h1,h2⟩:=ih (.operand deep) ts trivial;exact ⟨h1,fun h=>h2 (by simp only [nL] at h |-;omega)⟩
    ·obtain ⟨h1,h2⟩:=ih (.level (k+1) deep) ts (by show k+1<=9;omega);split
     ·rename_i x hx;exact ⟨fun t r h=>(by cases h),fun h h0=>h2 (by simp only [nL] at h |-;omega) (hx.trans h0)⟩
     ·rename_i out il hx;obtain ⟨h3,h4⟩:=ih (.loop k deep out) il (by show k < 9;omega);have:=h1 _ _ hx;exact ⟨fun t r h=>Nat.le_trans (h3 t r h) this,fun h=>h4 (by simp only [nL] at h |-;omega)⟩
   | loop k deep out =>
    have hj:k < 9:=hj
    cases ts with
    | nil=>rw [rd];exact ⟨fun t r h=>(by cases h;exact Nat.le_refl _),fun _ h=>(by cases h)⟩
    | cons t0 r0 =>
     rw [rd];split
     ·obtain ⟨h1,h2⟩:=ih (.level (k+1) deep) r0 (by show k+1<=9;omega);split
      ·rename_i x hx;exact ⟨fun t r h=>(by cases h),fun h h0=>h2 (by simp only [nL,length_cons] at h |-;omega) (hx.trans h0)⟩
      ·rename_i b r hx;obtain ⟨h3,h4⟩:=ih (.loop k deep (one 6 t0.at_ t0.s [out,b])) r hj;have:=h1 _ _ hx;exact ⟨fun t r h=>by have:=h3 t r h;simp only [length_cons];omega,fun h=>h4 (by simp only [nL,length_cons] at h |-;omega)⟩
     ·exact ⟨fun t r h=>(by cases h;exact Nat.le_refl _),fun _ h=>(by cases h)⟩
   | operand deep =>
    cases ts with
    | nil=>rw [rd];split <;> exact ⟨fun t r h=>(by cases h),fun _ h=>(by cases h)⟩
    | cons t0 r0 =>
    rw [rd];split
    ·exact ⟨fun t r h=>(by cases h),fun _ h=>(by cases h)⟩
    split
    ·split
     ·obtain ⟨h1,h2⟩:=ih (.operand (deep+1)) r0 trivial;split
      ·rename_i x hx;exact ⟨fun t r h=>(by cases h),fun h h0=>h2 (by simp only [nL,length_cons] at h |-;omega) (hx.trans h0)⟩
      ·rename_i a r hx;have:=h1 _ _ hx;exact ⟨fun t r h=>(by cases h;simp only [length_cons];omega),fun _ h=>(by cases h)⟩
     split
     ·obtain ⟨h1,h2⟩:=ih (.expr (deep+1)) r0 trivial;split
      ·rename_i x hx;exact ⟨fun t r h=>(by cases h),fun h h0=>h2 (by simp only [nL,length_cons] at h |-;omega) (hx.trans h0)⟩
      ·rename_i a r hx;have:=h1 _ _ hx;split
       ·rename_i x hm;exact ⟨fun t r h=>(by cases h),fun _ h=>oN hm (by cases h;rfl)⟩
       ·rename_i r' hm;have:=vC hm;exact ⟨fun t r h=>(by cases h;simp only [length_cons];omega),fun _ h=>(by cases h)⟩
     ·exact ⟨fun t r h=>(by cases h),fun _ h=>(by cases h)⟩
    split
    ·exact ⟨fun t r h=>(by cases h;simp),fun _ h=>(by cases h)⟩
    split
    ·rename_i x hm;exact ⟨fun t r h=>(by cases h),fun _ h=>Ic hm (by cases h;rfl)⟩
    ·rename_i s r hn;have hl:=Fc hn;simp only [length_cons] at hl
     have ar:r.tail.length<=r.length:=by simp
     split
     ·obtain ⟨h1,h2⟩:=ih (.expr (deep+1)) r.tail trivial;split
      ·rename_i x hx;exact ⟨fun t r h=>(by cases h),fun h h0=>h2 (by simp only [nL,length_cons] at h |-;omega) (hx.trans h0)⟩
      ·rename_i a r' hx;have:=h1 _ _ hx;split
       ·rename_i x hm;exact ⟨fun t r h=>(by cases h),fun _ h=>oN hm (by cases h;rfl)⟩
       ·rename_i r'' hm;have:=vC hm;exact ⟨fun t r h=>(by cases h;simp only [length_cons];omega),fun _ h=>(by cases h)⟩
     split
     ·obtain ⟨h1,h2⟩:=xg (deep+1) [] r.tail;split
      ·rename_i x hx;exact ⟨fun t r h=>(by cases h),fun h h0=>h2 (by simp only [nL,vF,length_cons] at h |-;omega) (hx.trans (by cases h0;rfl))⟩
      ·rename_i a r' hx;have:=h1 _ _ hx;exact ⟨fun t r h=>(by cases h;simp only [length_cons];omega),fun _ h=>(by cases h)⟩
     ·exact ⟨fun t r h=>(by cases h;simp only [length_cons];omega),fun _ h=>(by cases h)⟩
  ·intro deep acc ts;unfold Qk;rw [rd.args];split
   ·exact ⟨fun t r h=>(by cases h;simp),fun _ h=>(by cases h)⟩
   ·by_cases kB:acc=[]
    ·subst kB;simp only [if_true];obtain ⟨h1,h2⟩:=ih (.expr deep) ts trivial;split
     ·rename_i x hx;exact ⟨fun t r h=>(by cases h),fun h h0=>h2 (by simp only [nL,vF] at h |-;omega) (hx.trans (by cases h0;rfl))⟩
     ·rename_i a r hx;have:=h1 _ _ hx;obtain ⟨h3,h4⟩:=xg deep ([]++[a]) r;exact ⟨fun t r h=>by have:=h3 t r h;omega,fun h=>h4 (by simp only [nil_append,vF] at h |-;omega)⟩
    ·rw [if_neg kB]
     have HK:∀ n,vF acc n=20 * n+1:=by cases acc with | nil=>exact absurd rfl kB | cons=>exact fun _=>rfl
     split
     ·rename_i x hm;exact ⟨fun t r h=>(by cases h),fun _ h=>oN hm (by cases h;rfl)⟩
     ·rename_i il hm;have ar:=xZ (by decide) hm;obtain ⟨h1,h2⟩:=ih (.expr deep) il trivial;split
      ·rename_i x hx;exact ⟨fun t r h=>(by cases h),fun h h0=>h2 (by simp only [nL,HK] at h |-;omega) (hx.trans (by cases h0;rfl))⟩
      ·rename_i a r hx;have:=h1 _ _ hx;obtain ⟨h3,h4⟩:=xg deep (acc++[a]) r
       have XT:vF (acc++[a]) r.length=20 * r.length+1:=by
        cases acc with
        | nil=>exact absurd rfl kB
        | cons=>rfl
       exact ⟨fun t r h=>by have:=h3 t r h;omega,fun h=>h4 (by rw [XT] ;simp only [HK] at h;omega)⟩
theorem UP {e:Int} {f:Nat} {j:nP} {ts:List Tok} {t:T} {r:List Tok} (hj:Jx j) (h:rd e f j ts=.ok (t,r)):r.length<=ts.length:=((BU e f).1 j ts hj).1 t r h
theorem x7 {e:Int} {f:Nat} {j:nP} {ts:List Tok} (hj:Jx j) (h:nL j ts.length<=f):rd e f j ts≠.error aV:=((BU e f).1 j ts hj).2 h
theorem Cw {e:Int} {deep:Nat} {ts:List Tok}:expr e deep ts≠.error aV:=x7 (j:=.expr deep) trivial (by simp only [nL,lM];omega)
theorem zf {e:Int} {deep:Nat} {ts:List Tok} {t:T} {r:List Tok} (h:expr e deep ts=.ok (t,r)):r.length<=ts.length:=UP (j:=.expr deep) trivial h
end Go.Xp
namespace Go.Xp
theorem zq {e:Int} {deep:Nat} {a b:ai} {ts r:List Tok} {t:T} (ha:a≠[]) (h:inner e deep a b ts=.ok (t,r)):r.length < ts.length:=by
 unfold inner at h;split at h
 ·cases h
 ·rename_i t1 h1;split at h
  ·cases h
  ·rename_i a1 t2 h2;split at h
   ·cases h
   ·rename_i t3 h3;cases h;have:=xZ ha h1;have:=zf h2;have:=vC h3;omega
theorem zp {e:Int} {deep:Nat} {a b:ai} {ts:List Tok} {x:Er} (h:inner e deep a b ts=.error x):x≠aV:=by
 unfold inner at h;split at h
 ·rename_i h1;cases h;exact oN h1
 ·split at h
  ·rename_i x2 h2;cases h;intro h0;exact Cw (h2.trans (by rw [h0]))
  ·split at h
   ·rename_i h3;cases h;exact oN h3
   ·cases h
theorem FG {e:Int} {deep:Nat} {ts r:List Tok} {t:ai × T} (h:kj e deep ts=.ok (t,r)):r.length < ts.length:=by
 unfold kj at h;split at h
 ·cases h
 ·rename_i s t1 h1;split at h
  ·cases h
  ·rename_i a t2 h2;cases h;have:=Fc h1;have:=zq (by decide) h2;omega
theorem FF {e:Int} {deep:Nat} {ts:List Tok} {x:Er} (h:kj e deep ts=.error x):x≠aV:=by
 unfold kj at h;split at h
 ·rename_i h1;cases h;exact Ic h1
 ·split at h
  ·rename_i h2;cases h;exact zp h2
  ·cases h
theorem ze {e:Int} {deep:Nat} {ts:List Tok} {x:Er} (h:expr e deep ts=.error x):x≠aV:=fun h0=>Cw (h.trans (by rw [h0]))
theorem M4 {e:Int} {deep:Nat} {ts r:List Tok} {t:T} (h:simple e deep ts=.ok (t,r)):r.length < ts.length:=by
 unfold simple at h;split at h
 ·split at h <;> cases h
 ·rename_i t0 r0;split at h
  ·split at h
   ·cases h
   ·rename_i s a t1 h1;cases h;exact FG h1
  ·split at h
   ·cases h
   ·rename_i a t1 h1;have:=zf h1;split at h
    ·split at h
     ·cases h
     ·rename_i v t2 h2;cases h;have:=zq (by decide) h2;omega
    ·split at h
     ·cases h
     ·rename_i t2 h2;cases h;have:=xZ (by decide) h2;omega
theorem M3 {e:Int} {deep:Nat} {ts:List Tok} {x:Er} (h:simple e deep ts=.error x):x≠aV:=by
 unfold simple at h;split at h
 ·split at h
  ·rename_i h1;cases h;exact ze h1
  ·cases h;exact YF
 ·split at h
  ·split at h
   ·rename_i h1;cases h;exact FF h1
   ·cases h
  ·split at h
   ·rename_i h1;cases h;exact ze h1
   ·split at h
    ·split at h
     ·rename_i h2;cases h;exact zp h2
     ·cases h
    ·split at h
     ·rename_i h2;cases h;exact oN h2
     ·cases h
def Qm (e:Int) (f:Nat) (j:pU) (ts:List Tok):Prop :=
 (∀ t r,rs e f j ts=.ok (t,r)->r.length < ts.length)/\(3 * ts.length+1<=f->rs e f j ts≠.error aV)
def Ql (e:Int) (f deep:Nat) (acc:List T) (ts:List Tok):Prop :=
 (∀ t r,rs.body e f deep acc ts=.ok (t,r)->r.length < ts.length)/\(3 * ts.length+2<=f->rs.body e f deep acc ts≠.error aV)
theorem BW (e:Int):∀ f,(∀ j ts,Qm e f j ts)/\(∀ deep acc ts,Ql e f deep acc ts)
 | 0=>by
  refine ⟨fun j ts=>⟨fun t r h=>?_,fun h=>by omega⟩,fun deep acc ts=>⟨fun t r h=>?_,fun h=>by omega⟩⟩
  ·rw [rs] at h;cases h
  ·rw [rs.body] at h;cases h
 | f+1=>by
  obtain ⟨ih,xg⟩:=BW e f;constructor
  ·intro j ts;unfold Qm
   cases j with
   | block deep =>
    rw [rs];split
    ·exact ⟨fun t r h=>(by cases h),fun _ h=>(by cases h)⟩
    ·split
     ·rename_i x hm;exact ⟨fun t r h=>(by cases h),fun _ h=>oN hm (by cases h;rfl)⟩
     ·rename_i r0 hm;have h0:=xZ (by decide) hm;obtain ⟨h1,h2⟩:=xg (deep+1) [] r0;split
      ·rename_i x hx;exact ⟨fun t r h=>(by cases h),fun h h0=>h2 (by omega) (hx.trans (by cases h0;rfl))⟩
      ·rename_i l r hx;have:=h1 _ _ hx;exact ⟨fun t r h=>(by cases h;omega),fun _ h=>(by cases h)⟩
   | stmt deep =>
    rw [rs];split
    ·exact ⟨fun t r h=>(by cases h),fun _ h=>(by cases h)⟩
    ·simp only;split
     ·rename_i hv;have h0:=fi (by decide) hv;split
      ·rename_i x hx;exact ⟨fun t r h=>(by cases h),fun _ h=>FF hx (by cases h;rfl)⟩
      ·rename_i s a t1 hx;have:=FG hx;exact ⟨fun t r h=>(by cases h;omega),fun _ h=>(by cases h)⟩
     split
     ·rename_i hv
      have h0:ts.tail.length < ts.length:=by
       rcases hv with hv | hv <;> exact fi (by decide) hv
      split
      ·rename_i x hx;exact ⟨fun t r h=>(by cases h),fun _ h=>zp hx (by cases h;rfl)⟩
      ·rename_i c r1 hx;have hc:=zq (by decide) hx;obtain ⟨h1,h2⟩:=ih (.block (deep+1)) r1;split
       ·rename_i x HP;exact ⟨fun t r h=>(by cases h),fun h h0=>h2 (by omega) (HP.trans h0)⟩
       ·rename_i b r2 HP;have hb:=h1 _ _ HP;split
        ·split
         ·obtain ⟨h3,h4⟩:=ih (.block (deep+1)) r2.tail
          have ht:r2.tail.length<=r2.length:=by simp
          split
          ·rename_i x Mg;exact ⟨fun t r h=>(by cases h),fun h h0=>h4 (by omega) (Mg.trans h0)⟩
          ·rename_i b2 r3 Mg;have:=h3 _ _ Mg;exact ⟨fun t r h=>(by cases h;omega),fun _ h=>(by cases h)⟩
         ·exact ⟨fun t r h=>(by cases h;omega),fun _ h=>(by cases h)⟩
        ·exact ⟨fun t r h=>(by cases h;omega),fun _ h=>(by cases h)⟩
     split
     ·rename_i hv;have h0:=fi (by decide) hv;split
      ·rename_i x hx;exact ⟨fun t r h=>(by cases h),fun _ h=>ze hx (by cases h;rfl)⟩
      ·rename_i a r1 hx;have:=zf hx;split
       ·rename_i x hm;exact ⟨fun t r h=>(by cases h),fun _ h=>oN hm (by cases h;rfl)⟩
       ·rename_i r2 hm;have:=vC hm;exact ⟨fun t r h=>(by cases h;omega),fun _ h=>(by cases h)⟩
     ·exact ⟨fun t r h=>M4 h,fun _ h=>M3 h rfl⟩
  ·intro deep acc ts;unfold Ql;rw [rs.body];split
   ·rename_i hv;have h0:=fi (by decide) hv;exact ⟨fun t r h=>(by cases h;exact h0),fun _ h=>(by cases h)⟩
   ·obtain ⟨h1,h2⟩:=ih (.stmt deep) ts;split
    ·rename_i x hx;exact ⟨fun t r h=>(by cases h),fun h h0=>h2 (by omega) (hx.trans (by cases h0;rfl))⟩
    ·rename_i a r hx;have:=h1 _ _ hx;obtain ⟨h3,h4⟩:=xg deep (acc++[a]) r;exact ⟨fun t r h=>by have:=h3 t r h;omega,fun h=>h4 (by omega)⟩
theorem UR {e:Int} {f:Nat} {j:pU} {ts:List Tok} {t:T} {r:List Tok} (h:rs e f j ts=.ok (t,r)):r.length < ts.length:=((BW e f).1 j ts).1 t r h
theorem va {e:Int} {deep:Nat} {ts:List Tok}:block e deep ts≠.error aV:=((BW e _).1 (.block deep) ts).2 (by simp only [lM];omega)
theorem Wy {e:Int} {deep:Nat} {ts:List Tok} {t:T} {r:List Tok} (h:block e deep ts=.ok (t,r)):r.length < ts.length:=UR h
end Go.Xp
namespace Go.Sp
open Go.Xp
structure On (p:RS) (ts:List Tok):Prop where
 code:p.code=0
 le:p.i<=p.l.length
 rest:p.l.drop p.i=ts
 kinds:∀ t∈p.l,t.kind=1\/t.kind=2\/t.kind=3
def bB (p q:RS):Except Er (List Tok)->Prop
 | .ok r=>On q r/\q.l=p.l/\q.e=p.e
 | .error x=>q.code=x.1/\x.1≠0/\q.at_=x.2/\q.l=p.l/\q.e=p.e
def iy {α:Type} (p q:RS) (t:α):Rd α->Prop
 | .ok (t',r)=>t=t'/\bB p q (.ok r)
 | .error x=>bB p q (.error x)
section
variable {p q q':RS} {ts r:List Tok} {x:Er}
theorem bB.err (h:bB p q (.error x)):q.code≠0:=by rw [h.1];exact h.2.1
theorem bB.tr {y:Except Er (List Tok)} (h:bB p q (.ok r)) (k:bB q q' y):bB p q' y:=by
 obtain ⟨_,h1,h2⟩:=h
 cases y with
 | ok r=>exact ⟨k.1,k.2.1.trans h1,k.2.2.trans h2⟩
 | error x=>exact ⟨k.1,k.2.1,k.2.2.1,k.2.2.2.1.trans h1,k.2.2.2.2.trans h2⟩
theorem iy.tr {α:Type} {t:α} {y:Rd α} (h:bB p q (.ok r)) (k:iy q q' t y):iy p q' t y:=by
 cases y with
 | ok r=>obtain ⟨t',r⟩:=r;exact ⟨k.1,h.tr k.2⟩
 | error x=>exact h.tr (y:=.error x) k
theorem On.self (h:On p ts):bB p p (.ok ts):=⟨h,rfl,rfl⟩
theorem On.at (h:On p ts) (k:Nat):p.l[p.i+k]?=ts[k]?:=by rw [<-h.rest,List.getElem?_drop]
theorem On.sign (h:On p ts) (k:Nat):p.sign k=Go.Xp.sign ts k:=by
 unfold RS.sign Go.Xp.sign;rw [if_pos h.code,h.at]
 all_goals (cases ts[k]? <;> rfl)
theorem On.place (h:On p ts):p.place=Go.Xp.place p.e ts:=by
 have h0:=h.at 0;unfold RS.place;rw [Nat.add_zero] at h0;rw [h0]
 cases ts with
 | nil=>rfl
 | cons t r=>rfl
theorem On.next {t:Tok} (h:On p (t::r)):bB p p.next (.ok r):=by
 have h1:p.i < p.l.length:=by
  have:=congrArg List.length h.rest;simp at this;omega
 refine ⟨⟨h.code,h1,?_,h.kinds⟩,rfl,rfl⟩;show p.l.drop (p.i+1)=r;rw [<-List.tail_drop,h.rest];rfl
theorem On.fail (h:On p ts) (c a:Int) (hc:c≠0):bB p (p.fail c a) (.error (c,a)):=by
 unfold RS.fail;rw [if_pos h.code];exact ⟨rfl,hc,rfl,rfl,rfl⟩
theorem r6 (h:p.code≠0) (c a:Int):p.fail c a=p:=by unfold RS.fail;rw [if_neg h]
theorem kE (h:p.code≠0) (k:Nat):p.sign k=[]:=by unfold RS.sign;rw [if_neg h]
theorem fL (h:p.code≠0) {s:ai} (hs:s≠[]):p.aI s=p:=by
 unfold RS.aI;rw [kE h,if_neg (fun e=>hs e.symm),r6 h]
theorem pX (h:p.code≠0) (d:Nat):p.deep d=p:=by unfold RS.deep;split <;> simp [r6 h]
theorem dh {s:ai} (hs:s≠[]) (h:Go.Xp.sign ts 0=s):∃ t,ts=t::ts.tail/\t.kind=3/\t.s=s:=by
 cases ts with
 | nil=>exact absurd h.symm hs
 | cons t r =>
  refine ⟨t,rfl,?_⟩;simp only [Go.Xp.sign,getElem?_cons_zero,bd] at h;split at h
  ·exact ⟨by assumption,h⟩
  ·exact absurd h.symm hs
theorem On.aI (h:On p ts) {s:ai} (hs:s≠[]):bB p (p.aI s) (Go.Xp.aI p.e s ts):=by
 unfold RS.aI Go.Xp.aI;rw [h.sign]
 by_cases h0:Go.Xp.sign ts 0=s
 ·rw [if_pos h0,if_pos h0];obtain ⟨t,ht,_⟩:=dh hs h0;rw [ht] at h
  exact h.next
 ·rw [if_neg h0,if_neg h0,h.place];exact h.fail 7 _ (by decide)
theorem On.name (h:On p ts):iy p p.name.2 p.name.1 (Go.Xp.name p.e ts)\/∃ x,Go.Xp.name p.e ts=.error x/\bB p p.name.2 (.error x):=by
 have h0:=h.at 0;rw [Nat.add_zero] at h0;unfold RS.name;rw [if_pos h.code,h0]
 cases ts with
 | nil=>exact .inr ⟨_,rfl,by rw [h.place];exact h.fail 7 _ (by decide)⟩
 | cons t r =>
  simp only [getElem?_cons_zero,Go.Xp.name];split
  ·split
   ·exact .inr ⟨_,rfl,h.fail 8 _ (by decide)⟩
   ·exact .inl ⟨rfl,h.next⟩
  ·refine .inr ⟨_,rfl,?_⟩;have:p.place=t.at_:=h.place;rw [this];exact h.fail 7 _ (by decide)
end
theorem Az {p:RS} (h:p.code≠0):(∀ g d,1<=g->mE g (.operand d) p=some (T.zero,p))/\(∀ g k d out,1<=g->mE g (.loop k d out) p=some (out,p))/\(∀ n g k d,k+n=9->n+2<=g->mE g (.level k d) p=some (T.zero,p)):=by
 have h1:∀ g d,1<=g->mE g (.operand d) p=some (T.zero,p):=by
  intro g d hg
  cases g with
  | zero=>omega
  | succ g=>rw [mE];simp [pX h,h,r6 h]
 have h2:∀ g k d out,1<=g->mE g (.loop k d out) p=some (out,p):=by
  intro g k d out hg
  cases g with
  | zero=>omega
  | succ g=>rw [mE];simp [h]
 refine ⟨h1,h2,fun n=>?_⟩
 induction n with
 | zero =>
  intro g k d hk hg
  cases g with
  | zero=>omega
  | succ g=>rw [mE,if_pos (by omega)];exact h1 g _ (by omega)
 | succ n ih =>
  intro g k d hk hg
  cases g with
  | zero=>omega
  | succ g =>
   rw [mE,if_neg (by omega),ih g (k+1) d (by omega) (by omega)];exact h2 g _ _ _ (by omega)
theorem UA {p:RS} (h:p.code≠0) {g d:Nat} (hg:12<=g):mE g (.expr d) p=some (T.zero,p):=by
 cases g with
 | zero=>omega
 | succ g=>rw [mE,pX h];exact (Az h).2.2 9 g 0 d rfl (by omega)
def KF (f:Nat):Nat:=2 * f+20
structure JE (f:Nat):Prop where
 expr:∀ d ts p,On p ts->rd p.e f (.expr d) ts≠.error aV->∃ t q,(∀ g,KF f<=g->mE g (.expr d) p=some (t,q))/\iy p q t (rd p.e f (.expr d) ts)
 level:∀ k d ts p,k<=9->On p ts->rd p.e f (.level k (d+1)) ts≠.error aV->∃ t q,(∀ g,KF f<=g->mE g (.level k d) p=some (t,q))/\iy p q t (rd p.e f (.level k (d+1)) ts)
 loop:∀ k d out ts p,k < 9->On p ts->rd p.e f (.loop k (d+1) out) ts≠.error aV->∃ t q,(∀ g,KF f<=g->mE g (.loop k d out) p=some (t,q))/\iy p q t (rd p.e f (.loop k (d+1) out) ts)
 operand:∀ d ts p,On p ts->rd p.e f (.operand d) ts≠.error aV->∃ t q,(∀ g,KF f<=g->mE g (.operand d) p=some (t,q))/\iy p q t (rd p.e f (.operand d) ts)
 args:∀ d acc ts p,acc≠[]->On p ts->rd.args p.e f d acc ts≠.error aV->∃ t q,(∀ g,KF f<=g->sy g d acc p=some (t,q))/\iy p q t (rd.args p.e f d acc ts)
 args0:∀ d ts p,On p ts->rd.args p.e f d [] ts≠.error aV->∃ t q,(∀ g,KF f<=g->mL g d p=some (t,q))/\iy p q t (rd.args p.e f d [] ts)
theorem AJ:∀ k,(levels.getD k []).contains []=false:=by
 intro k
 have h:∀ l∈levels,l.contains ([]:ai)=false:=by decide
 rw [List.getD_eq_getElem?_getD]
 cases hk:levels[k]? with
 | none=>rfl
 | some l=>exact h l (mem_of_getElem? hk)
theorem up {f g:Nat} (h:KF (f+1)<=g):∃ g',g=g'+1/\KF f+1<=g':=⟨g - 1,by unfold KF at h;omega,by unfold KF at *;omega⟩
theorem je (f:Nat):JE f:=by
 induction f with
 | zero =>
  refine ⟨fun d ts p _ h=>absurd ?_ h,fun k d ts p _ _ h=>absurd ?_ h,fun k d out ts p _ _ h=>absurd ?_ h,fun d ts p _ h=>absurd ?_ h,fun d acc ts p _ _ h=>absurd ?_ h,fun d ts p _ h=>absurd ?_ h⟩ <;> simp [rd,rd.args]
 | succ f C =>
  refine ⟨fun d ts p hp h=>?_,fun k d ts p hk hp h=>?_,fun k d out ts p hk hp h=>?_,fun d ts p hp h=>?_,fun d acc ts p kB hp h=>?_,fun d ts p hp h=>?_⟩
  ·rw [rd] at h |-
   by_cases hd:d > 60
   ·rw [if_pos hd] at h |-;have hf:=hp.fail 9 p.place (by decide);refine ⟨T.zero,p.fail 9 p.place,fun g hg=>?_,by rw [<-hp.place];exact hf⟩;obtain ⟨g,rfl,hg⟩:=up hg;rw [mE];unfold RS.deep;rw [if_pos hd];exact (Az hf.err).2.2 9 g 0 d rfl (by unfold KF at hg;omega)
   ·rw [if_neg hd] at h |-;obtain ⟨t,q,h1,h2⟩:=C.level 0 d ts p (by omega) hp h;refine ⟨t,q,fun g hg=>?_,h2⟩;obtain ⟨g,rfl,hg⟩:=up hg;rw [mE];unfold RS.deep;rw [if_neg hd];exact h1 g (by omega)
  ·rw [rd] at h |-
   by_cases h9:k=9
   ·rw [if_pos h9] at h |-;obtain ⟨t,q,h1,h2⟩:=C.operand (d+1) ts p hp h;refine ⟨t,q,fun g hg=>?_,h2⟩;obtain ⟨g,rfl,hg⟩:=up hg;rw [mE,if_pos h9];exact h1 g (by omega)
   ·rw [if_neg h9] at h |-
    cases he:rd p.e f (.level (k+1) (d+1)) ts with
    | error x =>
     rw [he] at h
     have hx:x≠aV:=fun h0=>h (by rw [h0])
     obtain ⟨t,q,h1,h2⟩:=C.level (k+1) d ts p (by omega) hp (by rw [he];intro h0;cases h0;exact hx rfl);rw [he] at h2;refine ⟨t,q,fun g hg=>?_,h2⟩;obtain ⟨g,rfl,hg⟩:=up hg;rw [mE,if_neg h9,h1 g (by omega)];exact (Az (bB.err h2)).2.1 g _ _ _ (by unfold KF at hg;omega)
    | ok r =>
     obtain ⟨t',r⟩:=r;rw [he] at h;simp only at h |-;obtain ⟨t,q,h1,h2⟩:=C.level (k+1) d ts p (by omega) hp (by rw [he];intro h0;cases h0);rw [he] at h2;obtain ⟨rfl,h2⟩:=h2;rw [<-h2.2.2] at h |-;obtain ⟨t3,q3,h3,h4⟩:=C.loop k d t r q (by omega) h2.1 h;refine ⟨t3,q3,fun g hg=>?_,iy.tr h2 h4⟩;obtain ⟨g,rfl,hg⟩:=up hg;rw [mE,if_neg h9,h1 g (by omega)];exact h3 g (by omega)
  ·cases ts with
   | nil =>
    rw [rd];refine ⟨out,p,fun g hg=>?_,rfl,hp.self⟩;obtain ⟨g,rfl,hg⟩:=up hg;rw [mE,if_neg];rw [hp.sign];rintro ⟨_,h0⟩;rw [show sign ([]:List Tok) 0=[] from rfl,AJ] at h0;cases h0
   | cons t r =>
    rw [rd] at h |-;have hs:p.sign 0=bd t:=hp.sign 0
    by_cases hc:t.kind=3/\t.s∈levels.getD k []
    ·rw [if_pos hc] at h |-
     have hn:=hp.next
     have sn:p.l[p.i]?=some t:=hp.at 0;have mj:p.code=0/\(levels.getD k []).contains (p.sign 0)=true:=⟨hp.code,by rw [hs];unfold bd;rw [if_pos hc.1];simpa using hc.2⟩;rw [show p.e=p.next.e from rfl] at h |-
     cases he:rd p.next.e f (.level (k+1) (d+1)) r with
     | error x =>
      rw [he] at h
      have hx:x≠aV:=fun h0=>h (by rw [h0])
      obtain ⟨b,q,h1,h2⟩:=C.level (k+1) d r p.next (by omega) hn.1 (by rw [he];intro h0;cases h0;exact hx rfl)
      rw [he] at h2;refine ⟨one 6 t.at_ t.s [out,b],q,fun g hg=>?_,hn.tr (y:=.error x) h2⟩;obtain ⟨g,rfl,hg⟩:=up hg;rw [mE,if_pos mj,sn];simp only;rw [h1 g (by omega)];exact (Az (bB.err h2)).2.1 g _ _ _ (by unfold KF at hg;omega)
     | ok x =>
      obtain ⟨b',r'⟩:=x;rw [he] at h;simp only at h |-
      obtain ⟨b,q,h1,h2⟩:=C.level (k+1) d r p.next (by omega) hn.1 (by rw [he];intro h0;cases h0)
      rw [he] at h2;obtain ⟨rfl,h2⟩:=h2;rw [<-h2.2.2] at h |-;obtain ⟨t3,q3,h3,h4⟩:=C.loop k d (one 6 t.at_ t.s [out,b]) r' q hk h2.1 h;refine ⟨t3,q3,fun g hg=>?_,iy.tr (hn.tr h2) h4⟩;obtain ⟨g,rfl,hg⟩:=up hg;rw [mE,if_pos mj,sn];simp only;rw [h1 g (by omega)];exact h3 g (by omega)
    ·rw [if_neg hc];refine ⟨out,p,fun g hg=>?_,rfl,hp.self⟩;obtain ⟨g,rfl,hg⟩:=up hg;rw [mE,if_neg];rintro ⟨_,h0⟩;rw [hs] at h0;unfold bd at h0;split at h0
     ·rename_i h3;exact hc ⟨h3,by simpa using h0⟩
     ·rw [AJ] at h0;cases h0
  ·rw [rd.eq_def] at h |-;simp only at h |-
   by_cases hd:d > 60
   ·rw [if_pos hd] at h |-;have hf:=hp.fail 9 p.place (by decide);refine ⟨T.zero,p.fail 9 p.place,fun g hg=>?_,by rw [<-hp.place];exact hf⟩;obtain ⟨g,rfl,hg⟩:=up hg;rw [mE];unfold RS.deep;rw [if_pos hd];simp [hf.err,r6 hf.err]
   ·rw [if_neg hd] at h |-
    have dy:p.deep d=p:=by unfold RS.deep;rw [if_neg hd]
    cases ts with
    | nil =>
     simp only;have h0:p.l[p.i]?=none:=hp.at 0;refine ⟨T.zero,p.fail 7 p.place,fun g hg=>?_,?_⟩
     ·obtain ⟨g,rfl,hg⟩:=up hg;rw [mE];simp [dy,hp.code,h0]
     ·rw [hp.place];exact hp.fail 7 _ (by decide)
    | cons t r =>
     simp only at h |-;have sn:p.l[p.i]?=some t:=hp.at 0
     have hn:=hp.next
     by_cases h3:t.kind=3
     ·rw [if_pos h3] at h |-
      have Aa:¬ t.kind=1:=by omega
      have LJ:¬ t.kind=2:=by omega
      by_cases hu:t.s=[45]\/t.s=[33]\/t.s=[126]
      ·rw [if_pos hu] at h |-;rw [show p.e=p.next.e from rfl] at h |-
       cases he:rd p.next.e f (.operand (d+1)) r with
       | error x =>
        rw [he] at h
        have hx:x≠aV:=fun h0=>h (by rw [h0])
        obtain ⟨b,q,h1,h2⟩:=C.operand (d+1) r p.next hn.1 (by rw [he];intro h0;cases h0;exact hx rfl)
        rw [he] at h2;refine ⟨one 5 t.at_ t.s [b],q,fun g hg=>?_,hn.tr (y:=.error x) h2⟩;obtain ⟨g,rfl,hg⟩:=up hg;rw [mE];simp only [dy,hp.code,sn,if_true,if_neg Aa,if_neg LJ,if_pos hu];rw [h1 g (by omega)]
       | ok x =>
        obtain ⟨b',r'⟩:=x;rw [he] at h;simp only at h |-
        obtain ⟨b,q,h1,h2⟩:=C.operand (d+1) r p.next hn.1 (by rw [he];intro h0;cases h0)
        rw [he] at h2;obtain ⟨rfl,h2⟩:=h2;refine ⟨one 5 t.at_ t.s [b],q,fun g hg=>?_,rfl,hn.tr h2⟩;obtain ⟨g,rfl,hg⟩:=up hg;rw [mE];simp only [dy,hp.code,sn,if_true,if_neg Aa,if_neg LJ,if_pos hu];rw [h1 g (by omega)]
      ·rw [if_neg hu] at h |-
       by_cases hb:t.s=[40]
       ·rw [if_pos hb] at h |-;rw [show p.e=p.next.e from rfl] at h |-
        cases he:rd p.next.e f (.expr (d+1)) r with
        | error x =>
         rw [he] at h
         have hx:x≠aV:=fun h0=>h (by rw [h0])
         obtain ⟨b,q,h1,h2⟩:=C.expr (d+1) r p.next hn.1 (by rw [he];intro h0;cases h0;exact hx rfl)
         rw [he] at h2;refine ⟨b,q.aI [41],fun g hg=>?_,?_⟩
         ·obtain ⟨g,rfl,hg⟩:=up hg;rw [mE];simp only [dy,hp.code,sn,if_true,if_neg Aa,if_neg LJ,if_neg hu,if_pos hb];rw [h1 g (by omega)]
         ·rw [fL (bB.err h2) (by decide)];exact hn.tr (y:=.error x) h2
        | ok x =>
         obtain ⟨b',r'⟩:=x;rw [he] at h;simp only at h |-
         obtain ⟨b,q,h1,h2⟩:=C.expr (d+1) r p.next hn.1 (by rw [he];intro h0;cases h0)
         rw [he] at h2;obtain ⟨rfl,h2⟩:=h2;have hm:=h2.1.aI (s:=[41]) (by decide);have aR:=(hn.tr h2).tr hm;rw [h2.2.2] at aR;refine ⟨b,q.aI [41],fun g hg=>?_,?_⟩
         ·obtain ⟨g,rfl,hg⟩:=up hg;rw [mE];simp only [dy,hp.code,sn,if_true,if_neg Aa,if_neg LJ,if_neg hu,if_pos hb];rw [h1 g (by omega)]
         ·cases qK:aI p.next.e [41] r' with
          | error x=>rw [qK] at aR;exact aR
          | ok r2=>rw [qK] at aR;exact ⟨rfl,aR⟩
       ·rw [if_neg hb] at h |-;refine ⟨T.zero,p.fail 7 t.at_,fun g hg=>?_,hp.fail 7 _ (by decide)⟩;obtain ⟨g,rfl,hg⟩:=up hg;rw [mE];simp only [dy,hp.code,sn,if_true,if_neg Aa,if_neg LJ,if_neg hu,if_neg hb]
     ·rw [if_neg h3] at h |-
      by_cases h1:t.kind=1
      ·rw [if_pos h1];refine ⟨_,p.next,fun g hg=>?_,rfl,hn⟩;obtain ⟨g,rfl,hg⟩:=up hg;rw [mE];simp only [dy,hp.code,sn,if_true,if_pos h1]
      ·rw [if_neg h1] at h |-
       by_cases h2:t.kind=2
       ·by_cases hlen:t.s.length > 12
        ·have eD:name p.e (t::r)=.error (8,t.at_):=by simp [name,h2,hlen]
         rw [eD] at h |-;have hf:=hp.fail 8 t.at_ (by decide);refine ⟨one 2 t.at_ [] [],p.fail 8 t.at_,fun g hg=>?_,hf⟩;obtain ⟨g,rfl,hg⟩:=up hg
         have cZ:p.name=([],p.fail 8 t.at_):=by unfold RS.name;simp [hp.code,sn,h2,hlen]
         rw [mE];simp only [dy,hp.code,sn,if_true,if_neg h1,if_pos h2,cZ];obtain ⟨g,rfl⟩:∃ g',g=g'+1:=⟨g - 1,by omega⟩;rw [mE,if_neg (by rw [kE hf.err];decide),if_neg (by rw [kE hf.err];decide)]
        ·have eD:name p.e (t::r)=.ok (t.s,r):=by simp [name,h2,hlen]
         have cZ:p.name=(t.s,p.next):=by unfold RS.name;simp [hp.code,sn,h2,hlen]
         rw [eD] at h |-;simp only at h |-
         have dD:p.next.sign 0=sign r 0:=hn.1.sign 0
         have key:∀ (t':T) (q:RS),(∀ g,KF f<=g->mE (g+1) (.named t.at_ t.s d) p.next=some (t',q))->∀ g,KF (f+1)<=g->mE g (.operand d) p=some (t',q):=by
          intro t' q hk g hg;obtain ⟨g,rfl,hg⟩:=up hg;rw [mE];simp only [dy,hp.code,sn,if_true,if_neg h1,if_pos h2,cZ];obtain ⟨g,rfl⟩:∃ g',g=g'+1:=⟨g - 1,by omega⟩;exact hk g (by omega)
         by_cases hb:sign r 0=[91]
         ·rw [if_pos hb] at h |-;obtain ⟨tb,Au,_⟩:=dh (by decide) hb;have bJ:=hn.1;rw [Au] at bJ
          have bJ:=hn.tr bJ.next
          rw [show p.e=p.next.next.e from rfl] at h |-
          cases he:rd p.next.next.e f (.expr (d+1)) r.tail with
          | error x =>
           rw [he] at h
           have hx:x≠aV:=fun h0=>h (by rw [h0])
           obtain ⟨b,q,k1,k2⟩:=C.expr (d+1) r.tail p.next.next bJ.1 (by rw [he];intro h0;cases h0;exact hx rfl)
           rw [he] at k2;refine ⟨one 3 t.at_ t.s [b],q.aI [93],key _ _ fun g hg=>?_,?_⟩
           ·rw [mE,if_pos (by rw [dD];exact hb),k1 g hg]
           ·rw [fL (bB.err k2) (by decide)];exact bJ.tr (y:=.error x) k2
          | ok x =>
           obtain ⟨b',r'⟩:=x;rw [he] at h;simp only at h |-
           obtain ⟨b,q,k1,k2⟩:=C.expr (d+1) r.tail p.next.next bJ.1 (by rw [he];intro h0;cases h0)
           rw [he] at k2;obtain ⟨rfl,k2⟩:=k2;have hm:=k2.1.aI (s:=[93]) (by decide);have aR:=(bJ.tr k2).tr hm;rw [k2.2.2] at aR;refine ⟨one 3 t.at_ t.s [b],q.aI [93],key _ _ fun g hg=>?_,?_⟩
           ·rw [mE,if_pos (by rw [dD];exact hb),k1 g hg]
           ·cases qK:aI p.next.next.e [93] r' with
            | error x=>rw [qK] at aR;exact aR
            | ok r2=>rw [qK] at aR;exact ⟨rfl,aR⟩
         ·rw [if_neg hb] at h |-
          by_cases hc:sign r 0=[40]
          ·rw [if_pos hc] at h |-;obtain ⟨tb,Au,_⟩:=dh (by decide) hc;have bJ:=hn.1;rw [Au] at bJ
           have bJ:=hn.tr bJ.next
           rw [show p.e=p.next.next.e from rfl] at h |-
           cases he:rd.args p.next.next.e f (d+1) [] r.tail with
           | error x =>
            rw [he] at h
            have hx:x≠aV:=fun h0=>h (by rw [h0])
            obtain ⟨b,q,k1,k2⟩:=C.args0 (d+1) r.tail p.next.next bJ.1 (by rw [he];intro h0;cases h0;exact hx rfl)
            rw [he] at k2;refine ⟨one 4 t.at_ t.s b,q,key _ _ fun g hg=>?_,bJ.tr (y:=.error x) k2⟩;rw [mE,if_neg (by rw [dD];exact hb),if_pos (by rw [dD];exact hc),k1 g hg]
           | ok x =>
            obtain ⟨b',r'⟩:=x;rw [he] at h
            obtain ⟨b,q,k1,k2⟩:=C.args0 (d+1) r.tail p.next.next bJ.1 (by rw [he];intro h0;cases h0)
            rw [he] at k2;obtain ⟨rfl,k2⟩:=k2;refine ⟨one 4 t.at_ t.s b,q,key _ _ fun g hg=>?_,rfl,bJ.tr k2⟩;rw [mE,if_neg (by rw [dD];exact hb),if_pos (by rw [dD];exact hc),k1 g hg]
          ·rw [if_neg hc] at h |-;refine ⟨one 2 t.at_ t.s [],p.next,key _ _ fun g hg=>?_,rfl,hn⟩;rw [mE,if_neg (by rw [dD];exact hb),if_neg (by rw [dD];exact hc)]
       ·have eD:name p.e (t::r)=.error (7,t.at_):=by simp [name,h2]
        rw [eD] at h |-;have:=hp.kinds t (mem_of_getElem? sn);omega
  ·rw [rd.args] at h |-;have dD:p.sign 0=sign ts 0:=hp.sign 0
   by_cases hb:sign ts 0=[41]
   ·rw [if_pos hb];have hm:=hp.aI (s:=[41]) (by decide);unfold Go.Xp.aI at hm;rw [if_pos hb] at hm;refine ⟨acc,p.aI [41],fun g hg=>?_,rfl,hm⟩;obtain ⟨g,rfl,hg⟩:=up hg;rw [sy,if_neg (by rw [dD,hb];decide)]
   ·rw [if_neg hb,if_neg kB] at h |-
    by_cases hc:sign ts 0=[44]
    ·have jn:Go.Xp.aI p.e [44] ts=.ok ts.tail:=by unfold Go.Xp.aI;rw [if_pos hc]
     rw [jn] at h |-;simp only at h |-;obtain ⟨tb,Au,_⟩:=dh (by decide) hc;have hn:=hp;rw [Au] at hn
     have hn:=hn.next
     rw [show p.e=p.next.e from rfl] at h |-
     cases he:rd p.next.e f (.expr d) ts.tail with
     | error x =>
      rw [he] at h
      have hx:x≠aV:=fun h0=>h (by rw [h0])
      obtain ⟨b,q,k1,k2⟩:=C.expr d ts.tail p.next hn.1 (by rw [he];intro h0;cases h0;exact hx rfl)
      rw [he] at k2;refine ⟨acc++[b],q,fun g hg=>?_,hn.tr (y:=.error x) k2⟩;obtain ⟨g,rfl,hg⟩:=up hg;rw [sy,if_pos (by rw [dD,hc]),k1 g (by omega)];simp only;obtain ⟨g,rfl⟩:∃ g',g=g'+1:=⟨g - 1,by omega⟩;rw [sy,if_neg (by rw [kE (bB.err k2)];decide),fL (bB.err k2) (by decide)]
     | ok x =>
      obtain ⟨b',r'⟩:=x;rw [he] at h;simp only at h |-
      obtain ⟨b,q,k1,k2⟩:=C.expr d ts.tail p.next hn.1 (by rw [he];intro h0;cases h0)
      rw [he] at k2;obtain ⟨rfl,k2⟩:=k2;rw [<-k2.2.2] at h |-;obtain ⟨t3,q3,h3,h4⟩:=C.args d (acc++[b]) r' q (by simp) k2.1 h;refine ⟨t3,q3,fun g hg=>?_,iy.tr (hn.tr k2) h4⟩;obtain ⟨g,rfl,hg⟩:=up hg;rw [sy,if_pos (by rw [dD,hc]),k1 g (by omega)];exact h3 g (by omega)
    ·have jn:Go.Xp.aI p.e [44] ts=.error (7,place p.e ts):=by unfold Go.Xp.aI;rw [if_neg hc]
     rw [jn];have hm:=hp.aI (s:=[41]) (by decide);unfold Go.Xp.aI at hm;rw [if_neg hb] at hm;refine ⟨acc,p.aI [41],fun g hg=>?_,hm⟩;obtain ⟨g,rfl,hg⟩:=up hg;rw [sy,if_neg (by rw [dD];exact hc)]
  ·rw [rd.args] at h |-;have dD:p.sign 0=sign ts 0:=hp.sign 0
   by_cases hb:sign ts 0=[41]
   ·rw [if_pos hb];have hm:=hp.aI (s:=[41]) (by decide);unfold Go.Xp.aI at hm;rw [if_pos hb] at hm;refine ⟨[],p.aI [41],fun g hg=>?_,rfl,hm⟩;obtain ⟨g,rfl,hg⟩:=up hg;rw [mL,if_pos (by rw [dD,hb])]
   ·rw [if_neg hb,if_pos rfl] at h |-;simp only at h |-
    cases he:rd p.e f (.expr d) ts with
    | error x =>
     rw [he] at h
     have hx:x≠aV:=fun h0=>h (by rw [h0])
     obtain ⟨b,q,k1,k2⟩:=C.expr d ts p hp (by rw [he];intro h0;cases h0;exact hx rfl);rw [he] at k2;refine ⟨[b],q,fun g hg=>?_,k2⟩;obtain ⟨g,rfl,hg⟩:=up hg;rw [mL,if_neg (by rw [dD];exact hb),k1 g (by omega)];simp only;obtain ⟨g,rfl⟩:∃ g',g=g'+1:=⟨g - 1,by omega⟩;rw [sy,if_neg (by rw [kE (bB.err k2)];decide),fL (bB.err k2) (by decide)]
    | ok x =>
     obtain ⟨b',r'⟩:=x;rw [he] at h;simp only at h |-;obtain ⟨b,q,k1,k2⟩:=C.expr d ts p hp (by rw [he];intro h0;cases h0);rw [he] at k2;obtain ⟨rfl,k2⟩:=k2;rw [<-k2.2.2] at h |-;obtain ⟨t3,q3,h3,h4⟩:=C.args d ([]++[b]) r' q (by simp) k2.1 h;refine ⟨t3,q3,fun g hg=>?_,iy.tr k2 h4⟩;obtain ⟨g,rfl,hg⟩:=up hg;rw [mL,if_neg (by rw [dD];exact hb),k1 g (by omega)];exact h3 g (by omega)
end Go.Sp
namespace Go.Xp
theorem Wo (e:Int):∀ f,(∀ j ts,rd e f j ts=.error aV\/rd e (f+1) j ts=rd e f j ts)/\(∀ d acc ts,rd.args e f d acc ts=.error aV\/rd.args e (f+1) d acc ts=rd.args e f d acc ts):=by
 intro f
 induction f with
 | zero=>exact ⟨fun j ts=>.inl (by simp [rd]),fun d acc ts=>.inl (by simp [rd.args])⟩
 | succ f ih =>
  obtain ⟨i1,i2⟩:=ih;refine ⟨fun j ts=>?_,fun d acc ts=>?_⟩
  ·rw [rd.eq_def e (f+1+1),rd.eq_def e (f+1)]
   cases j with
   | expr d =>
    simp only;split
    ·exact .inr rfl
    ·exact i1 _ _
   | level k d =>
    simp only;split
    ·exact i1 _ _
    ·rcases i1 (.level (k+1) d) ts with h | h
     ·left;rw [h]
     ·rw [h]
      cases rd e f (.level (k+1) d) ts with
      | error x=>exact .inr rfl
      | ok r=>exact i1 _ _
   | loop k d out =>
    cases ts with
    | nil=>exact .inr rfl
    | cons t r =>
     simp only;split
     ·rcases i1 (.level (k+1) d) r with h | h
      ·left;rw [h]
      ·rw [h]
       cases rd e f (.level (k+1) d) r with
       | error x=>exact .inr rfl
       | ok r=>exact i1 _ _
     ·exact .inr rfl
   | operand d =>
    simp only;split
    ·exact .inr rfl
    ·cases ts with
     | nil=>exact .inr rfl
     | cons t r =>
      simp only;split
      ·split
       ·rcases i1 (.operand (d+1)) r with h | h
        ·left;rw [h]
        ·rw [h];exact .inr rfl
       ·split
        ·rcases i1 (.expr (d+1)) r with h | h
         ·left;rw [h]
         ·rw [h];exact .inr rfl
        ·exact .inr rfl
      ·split
       ·exact .inr rfl
       ·cases name e (t::r) with
        | error x=>exact .inr rfl
        | ok y =>
         obtain ⟨s,r⟩:=y;simp only;split
         ·rcases i1 (.expr (d+1)) r.tail with h | h
          ·left;rw [h]
          ·rw [h];exact .inr rfl
         ·split
          ·rcases i2 (d+1) [] r.tail with h | h
           ·left;rw [h]
           ·rw [h];exact .inr rfl
          ·exact .inr rfl
  ·rw [rd.args,rd.args];split
   ·exact .inr rfl
   ·cases (if acc=[] then .ok ts else aI e [44] ts:Except Er (List Tok)) with
    | error x=>exact .inr rfl
    | ok ts =>
     simp only
     rcases i1 (.expr d) ts with h | h
     ·left;rw [h]
     ·rw [h]
      cases rd e f (.expr d) ts with
      | error x=>exact .inr rfl
      | ok y=>exact i2 _ _ _
theorem Ip {e:Int} {f f':Nat} {j:nP} {ts:List Tok} (h:rd e f j ts≠.error aV) (hf:f<=f'):rd e f' j ts=rd e f j ts:=by
 obtain ⟨k,rfl⟩:=Nat.exists_eq_add_of_le hf;clear hf
 induction k with
 | zero=>rfl
 | succ k ih =>
  rcases (Wo e (f+k)).1 j ts with h1 | h1
  ·rw [ih] at h1;exact absurd h1 h
  ·rw [<-Nat.add_assoc,h1,ih]
theorem Bp {e:Int} {f d:Nat} {ts:List Tok} (h:20 * ts.length+12<=f):rd e f (.expr d) ts=expr e d ts:=by
 have h0:rd e (20 * ts.length+12) (.expr d) ts≠.error aV:=x7 (j:=.expr d) trivial (Nat.le_refl _);rw [Ip h0 h];unfold expr lM;exact (Ip h0 (by omega)).symm
end Go.Xp
namespace Go.Xp
def Wx (t:T):Prop:=t.n.kind=3->∃ a,t.kids=[a]
theorem MX (e:Int):∀ f j,(∀ k d out,j≠.loop k d out)->∀ t r,rd e f j []≠.ok (t,r):=by
 intro f
 induction f with
 | zero=>intro j _ t r h;simp [rd] at h
 | succ f ih =>
  intro j hj t r h;rw [rd.eq_def] at h
  cases j with
  | expr d =>
   simp only at h;split at h
   ·cases h
   ·exact ih _ (fun k d out h=>by cases h) _ _ h
  | level k d =>
   simp only at h;split at h
   ·exact ih _ (fun k d out h=>by cases h) _ _ h
   ·split at h
    ·cases h
    ·rename_i he;exact ih _ (fun k d out h=>by cases h) _ _ he
  | loop k d out=>exact hj _ _ _ rfl
  | operand d =>
   simp only at h;split at h <;> cases h
theorem MW (e:Int):∀ f j ts t r,(∀ k d out,j=.loop k d out->Wx out)->rd e f j ts=.ok (t,r)->Wx t:=by
 intro f
 induction f with
 | zero=>intro j ts t r _ h;simp [rd] at h
 | succ f ih =>
  intro j ts t r hj h;rw [rd.eq_def] at h
  cases j with
  | expr d =>
   simp only at h;split at h
   ·cases h
   ·exact ih _ _ _ _ (fun k d out h=>by cases h) h
  | level k d =>
   simp only at h;split at h
   ·exact ih _ _ _ _ (fun k d out h=>by cases h) h
   ·split at h
    ·cases h
    ·rename_i out il he;exact ih _ _ _ _ (fun k' d' Yh lp=>by cases lp;exact ih _ _ _ _ (fun k d out h=>by cases h) he) h
  | loop k d out =>
   cases ts with
   | nil=>cases h;exact hj k d _ rfl
   | cons a r' =>
    simp only at h;split at h
    ·split at h
     ·cases h
     ·exact ih _ _ _ _ (fun k' d' Yh lp=>by cases lp;intro h3;exact absurd h3 (by simp [one,T.n])) h
    ·cases h;exact hj k d _ rfl
  | operand d =>
   simp only at h;split at h
   ·cases h
   ·cases ts with
    | nil=>cases h
    | cons a r' =>
     simp only at h;split at h
     ·split at h
      ·split at h
       ·cases h
       ·cases h;intro h3;exact absurd h3 (by simp [one,T.n])
      ·split at h
       ·split at h
        ·cases h
        ·rename_i he;split at h
         ·cases h
         ·cases h;exact ih _ _ _ _ (fun k d out h=>by cases h) he
       ·cases h
     ·split at h
      ·cases h;intro h3;exact absurd h3 (by simp [T.n])
      ·split at h
       ·cases h
       ·split at h
        ·split at h
         ·cases h
         ·split at h
          ·cases h
          ·cases h;exact fun _=>⟨_,rfl⟩
        ·split at h
         ·split at h
          ·cases h
          ·cases h;intro h3;exact absurd h3 (by simp [one,T.n])
         ·cases h;intro h3;exact absurd h3 (by simp [one,T.n])
end Go.Xp
namespace Go.Sp
open Go.Xp
theorem V2 {d:Nat} {ts:List Tok} {p:RS} (hp:On p ts):∃ t q,mX d p=some (t,q)/\iy p q t (expr p.e d ts):=by
 have hl:ts.length<=p.l.length:=by rw [<-hp.rest,length_drop];omega
 have hf:rd p.e (20 * ts.length+12) (.expr d) ts≠.error aV:=x7 (j:=.expr d) trivial (Nat.le_refl _);obtain ⟨t,q,h1,h2⟩:=(je _).expr d ts p hp hf;rw [Bp (Nat.le_refl _)] at h2;exact ⟨t,q,h1 _ (by unfold KF fe;omega),h2⟩
theorem E8 {d:Nat} {p:RS} (h:p.code≠0):mX d p=some (T.zero,p):=UA h (by unfold fe;omega)
theorem MG {p:RS} (h:p.code≠0) {g d:Nat} (hg:2<=g):mS g (.block d) p=some (one 14 p.place [] [],p):=by
 obtain ⟨g,rfl⟩:∃ g',g=g'+2:=⟨g - 2,by omega⟩;rw [mS,pX h,fL h (by decide)];simp only [mB,h,false_and,if_false];rw [fL h (by decide)]
theorem Na {p:RS} (h:p.code≠0) {g d:Nat} (hg:1<=g):mS g (.stmt d) p=some (one 12 p.place [] [T.zero],p):=by
 obtain ⟨g,rfl⟩:∃ g',g=g'+1:=⟨g - 1,by omega⟩;rw [mS,pX h];simp only [kE h];rw [if_neg (by decide),if_neg (by decide),if_neg (by decide),if_neg (fun x=>h x.1),E8 h]
 have YP:¬ (T.zero.n.kind=3/\T.zero.n.at_=p.place/\p.sign 0=[61]):=fun x=>absurd x.1 (by decide)
 simp only;rw [if_neg YP,fL h (by decide)]
structure Yr (f:Nat):Prop where
 block:∀ d ts p,On p ts->rs p.e f (.block d) ts≠.error aV->∃ t q,(∀ g,KF f<=g->mS g (.block d) p=some (t,q))/\iy p q t (rs p.e f (.block d) ts)
 stmt:∀ d ts p,On p ts->rs p.e f (.stmt d) ts≠.error aV->∃ t q,(∀ g,KF f<=g->mS g (.stmt d) p=some (t,q))/\iy p q t (rs p.e f (.stmt d) ts)
 body:∀ d acc ts p,On p ts->rs.body p.e f d acc ts≠.error aV->∃ t q,(∀ g,KF f<=g->mB g d acc p=some (t,q))/\iy p (q.aI [125]) t (rs.body p.e f d acc ts)
theorem JM {d:Nat} {ts:List Tok} {p:RS} (hp:On p ts):(∃ t q r,mX d p=some (t,q)/\expr p.e d ts=.ok (t,r)/\bB p q (.ok r))\/(∃ t q x,mX d p=some (t,q)/\expr p.e d ts=.error x/\bB p q (.error x)):=by
 obtain ⟨t,q,h1,h2⟩:=V2 (d:=d) hp
 cases he:expr p.e d ts with
 | error x=>rw [he] at h2;exact .inr ⟨t,q,x,h1,rfl,h2⟩
 | ok y =>
  obtain ⟨t',r⟩:=y;rw [he] at h2;obtain ⟨rfl,h2⟩:=h2;exact .inl ⟨t,q,r,h1,rfl,h2⟩
theorem x5 {s:ai} {ts:List Tok} {p:RS} (hp:On p ts) (hs:s≠[]):(∃ r,Go.Xp.aI p.e s ts=.ok r/\bB p (p.aI s) (.ok r))\/(∃ x,Go.Xp.aI p.e s ts=.error x/\bB p (p.aI s) (.error x)):=by
 have h:=hp.aI hs
 cases he:Go.Xp.aI p.e s ts with
 | ok r=>rw [he] at h;exact .inl ⟨r,rfl,h⟩
 | error x=>rw [he] at h;exact .inr ⟨x,rfl,h⟩
theorem RV {ts:List Tok} {p:RS} (hp:On p ts):(∃ r,Go.Xp.name p.e ts=.ok (p.name.1,r)/\bB p p.name.2 (.ok r))\/(∃ x,Go.Xp.name p.e ts=.error x/\bB p p.name.2 (.error x)):=by
 rcases hp.name with h | h
 ·cases he:Go.Xp.name p.e ts with
  | ok y =>
   obtain ⟨s,r⟩:=y;rw [he] at h;obtain ⟨rfl,h⟩:=h;exact .inl ⟨r,rfl,h⟩
  | error x=>rw [he] at h;exact .inr ⟨x,rfl,h⟩
 ·exact .inr h
theorem zd {d:Nat} {ts:List Tok} {p:RS} {b:ai} (hp:On p ts) (hb:b≠[]):∃ t q,mX d p=some (t,q)/\((∃ r r',expr p.e d ts=.ok (t,r)/\Go.Xp.aI p.e b r=.ok r'/\bB p (q.aI b) (.ok r'))\/(∃ r x,expr p.e d ts=.ok (t,r)/\Go.Xp.aI p.e b r=.error x/\bB p (q.aI b) (.error x))\/(∃ x,expr p.e d ts=.error x/\bB p (q.aI b) (.error x))):=by
 rcases JM (d:=d) hp with ⟨t,q,r,h1,h2,h3⟩ | ⟨t,q,x,h1,h2,h3⟩
 ·refine ⟨t,q,h1,?_⟩
  rcases x5 h3.1 hb with ⟨r',h4,h5⟩ | ⟨x,h4,h5⟩
  ·rw [h3.2.2] at h4;exact .inl ⟨r,r',h2,h4,h3.tr h5⟩
  ·rw [h3.2.2] at h4;exact .inr (.inl ⟨r,x,h2,h4,h3.tr h5⟩)
 ·exact ⟨t,q,h1,.inr (.inr ⟨x,h2,by rw [fL h3.err hb];exact h3⟩)⟩
theorem On.mN {ts:List Tok} {p:RS} (hp:On p ts):p.mN=(match ts with | t::_=>decide (t.kind=2) | []=>false):=by
 have h:=hp.at 0;rw [Nat.add_zero] at h;unfold RS.mN;rw [h]
 cases ts <;> rfl
theorem ES {d:Nat} {ts:List Tok} {p:RS} {a b:ai} (hp:On p ts) (ha:a≠[]) (hb:b≠[]):∃ t q,mX d (p.aI a)=some (t,q)/\((∃ r,inner p.e d a b ts=.ok (t,r)/\bB p (q.aI b) (.ok r))\/∃ x,inner p.e d a b ts=.error x/\bB p (q.aI b) (.error x)):=by
 unfold Go.Xp.inner
 rcases x5 hp ha with ⟨r,h1,h2⟩ | ⟨x,h1,h2⟩
 ·rw [h1];obtain ⟨t,q,h3,h4⟩:=zd (d:=d) (b:=b) h2.1 hb;rw [h2.2.2] at h4;refine ⟨t,q,h3,?_⟩;simp only
  rcases h4 with ⟨r,r',k1,k2,k3⟩ | ⟨r,x,k1,k2,k3⟩ | ⟨x,k1,k3⟩
  ·rw [k1];simp only;rw [k2];exact .inl ⟨r',rfl,h2.tr k3⟩
  ·rw [k1];simp only;rw [k2];exact .inr ⟨x,rfl,h2.tr (y:=.error x) k3⟩
  ·rw [k1];exact .inr ⟨x,rfl,h2.tr (y:=.error x) k3⟩
 ·rw [h1];exact ⟨T.zero,p.aI a,E8 h2.err,.inr ⟨x,rfl,by rw [fL h2.err hb];exact h2⟩⟩
theorem FH {d:Nat} {ts:List Tok} {p:RS} (hp:On p ts):∃ t q,mX d (p.name.2.aI [61])=some (t,q)/\((∃ r,kj p.e d ts=.ok ((p.name.1,t),r)/\bB p (q.aI [59]) (.ok r))\/∃ x,kj p.e d ts=.error x/\bB p (q.aI [59]) (.error x)):=by
 unfold Go.Xp.kj
 rcases RV hp with ⟨r,h1,h2⟩ | ⟨x,h1,h2⟩
 ·rw [h1];obtain ⟨t,q,h3,h4⟩:=ES (d:=d) (a:=[61]) (b:=[59]) h2.1 (by decide) (by decide);rw [h2.2.2] at h4;refine ⟨t,q,h3,?_⟩;simp only
  rcases h4 with ⟨r,k1,k3⟩ | ⟨x,k1,k3⟩
  ·rw [k1];exact .inl ⟨r,rfl,h2.tr k3⟩
  ·rw [k1];exact .inr ⟨x,rfl,h2.tr (y:=.error x) k3⟩
 ·rw [h1];refine ⟨T.zero,p.name.2,by rw [fL h2.err (by decide)];exact E8 h2.err,.inr ⟨x,rfl,by rw [fL h2.err (by decide)];exact h2⟩⟩
theorem js (f:Nat):Yr f:=by
 induction f with
 | zero=>exact ⟨fun d ts p _ h=>absurd (by simp [rs]) h,fun d ts p _ h=>absurd (by simp [rs]) h,fun d acc ts p _ h=>absurd (by simp [rs.body]) h⟩
 | succ f C =>
  refine ⟨fun d ts p hp h=>?_,fun d ts p hp h=>?_,fun d acc ts p hp h=>?_⟩
  ·rw [rs] at h |-
   by_cases hd:d > 60
   ·rw [if_pos hd] at h |-;have hf:=hp.fail 9 p.place (by decide);refine ⟨one 14 (p.fail 9 p.place).place [] [],p.fail 9 p.place,fun g hg=>?_,by rw [<-hp.place];exact hf⟩
    have TF:p.deep d=p.fail 9 p.place:=by unfold RS.deep;rw [if_pos hd]
    have:=MG (g:=g) (d:=d) hf.err (by unfold KF at hg;omega);obtain ⟨g,rfl,hg⟩:=up hg;rw [mS] at this |-;rw [pX hf.err] at this;rw [TF];exact this
   ·rw [if_neg hd] at h |-
    have dy:p.deep d=p:=by unfold RS.deep;rw [if_neg hd]
    rcases x5 hp (s:=[123]) (by decide) with ⟨r,h1,h2⟩ | ⟨x,h1,h2⟩
    ·rw [h1] at h |-;simp only at h |-;rw [<-h2.2.2] at h |-
     have hb:rs.body (p.aI [123]).e f (d+1) [] r≠.error aV:=fun h0=>h (by rw [h0])
     obtain ⟨l,q,h3,h4⟩:=C.body (d+1) [] r (p.aI [123]) h2.1 hb
     have cE:place (p.aI [123]).e ts=p.place:=by rw [h2.2.2,hp.place]
     refine ⟨one 14 p.place [] l,q.aI [125],fun g hg=>?_,?_⟩
     ·obtain ⟨g,rfl,hg⟩:=up hg;rw [mS,dy,h3 g (by omega)]
     ·cases he:rs.body (p.aI [123]).e f (d+1) [] r with
      | error x=>rw [he] at h4;exact h2.tr (y:=.error x) h4
      | ok y=>obtain ⟨l',r'⟩:=y;rw [he] at h4;obtain ⟨rfl,h4⟩:=h4;rw [cE];exact ⟨rfl,h2.tr h4⟩
    ·rw [h1] at h |-;refine ⟨one 14 p.place [] [],p.aI [123],fun g hg=>?_,h2⟩;obtain ⟨g,rfl,hg⟩:=up hg;rw [mS,dy];obtain ⟨g,rfl⟩:∃ g',g=g'+1:=⟨g - 1,by omega⟩;simp only [mB,h2.err,false_and,if_false];rw [fL h2.err (by decide)]
  ·rw [rs] at h |-
   by_cases hd:d > 60
   ·rw [if_pos hd] at h |-;have hf:=hp.fail 9 p.place (by decide)
    have TF:p.deep d=p.fail 9 p.place:=by unfold RS.deep;rw [if_pos hd]
    refine ⟨one 12 (p.fail 9 p.place).place [] [T.zero],p.fail 9 p.place,fun g hg=>?_,by rw [<-hp.place];exact hf⟩;have:=Na (g:=g) (d:=d) hf.err (by unfold KF at hg;omega);obtain ⟨g,rfl,hg⟩:=up hg;rw [mS] at this |-;rw [pX hf.err] at this;rw [TF];exact this
   ·rw [if_neg hd] at h |-
    have dy:p.deep d=p:=by unfold RS.deep;rw [if_neg hd]
    have dD:p.sign 0=sign ts 0:=hp.sign 0;have T9:p.sign 1=sign ts 1:=hp.sign 1;have cE:=hp.place;simp only at h |-
    by_cases hv:sign ts 0=fX
    ·rw [if_pos hv];obtain ⟨tv,xe,_⟩:=dh (by decide) hv;have hn:=hp;rw [xe] at hn
     have hn:=hn.next
     rw [show p.e=p.next.e from rfl]
     rcases FH (d:=d+1) hn.1 with ⟨t,q,h1,⟨r,h2,h3⟩ | ⟨x,h2,h3⟩⟩
     ·rw [h2];refine ⟨one 13 p.place p.next.name.1 [t],q.aI [59],fun g hg=>?_,by rw [cE];rfl,hn.tr h3⟩;obtain ⟨g,rfl,hg⟩:=up hg;rw [mS,dy];rw [if_pos (by rw [dD,hv]),h1]
     ·rw [h2];refine ⟨one 13 p.place p.next.name.1 [t],q.aI [59],fun g hg=>?_,hn.tr (y:=.error x) h3⟩;obtain ⟨g,rfl,hg⟩:=up hg;rw [mS,dy];rw [if_pos (by rw [dD,hv]),h1]
    rw [if_neg hv] at h |-
    by_cases hc:sign ts 0=dE\/sign ts 0=df
    ·rw [if_pos hc] at h |-
     obtain ⟨tv,xe,hk3,sq⟩:∃ t,ts=t::ts.tail/\t.kind=3/\t.s=sign ts 0:=by
      rcases hc with hc | hc
      ·obtain ⟨t,h1,h2,h3⟩:=dh (by decide) hc;exact ⟨t,h1,h2,h3.trans hc.symm⟩
      ·obtain ⟨t,h1,h2,h3⟩:=dh (by decide) hc;exact ⟨t,h1,h2,h3.trans hc.symm⟩
     have hn:=hp;rw [xe] at hn
     have hn:=hn.next
     have sd:p.ck=if sign ts 0=dE then 9 else 10:=by unfold RS.ck;rw [dD]
     have key:∀ (t:T) (q:RS),(∀ g,KF f<=g->mS (g+1) (.cond p.place d) p=some (t,q))->∀ g,KF (f+1)<=g->mS g (.stmt d) p=some (t,q):=by
      intro t q hk g hg;obtain ⟨g,rfl,hg⟩:=up hg;rw [mS,dy];rw [if_neg (by rw [dD];exact hv),if_pos (by rw [dD];exact hc)];obtain ⟨g,rfl⟩:∃ g',g=g'+1:=⟨g - 1,by omega⟩;exact hk g (by omega)
     rcases ES (d:=d+1) (a:=[40]) (b:=[41]) hn.1 (by decide) (by decide) with ⟨c,q,h1,⟨r,h2,h3⟩ | ⟨x,h2,h3⟩⟩
     ·rw [show p.next.e=p.e from rfl] at h2;rw [h2] at h |-;simp only at h |-;have h3:=hn.tr h3
      have hb:rs p.e f (.block (d+1)) r≠.error aV:=fun h0=>h (by rw [h0])
      rw [<-h3.2.2] at hb;obtain ⟨b,q2,h4,h5⟩:=C.block (d+1) r (q.aI [41]) h3.1 hb;rw [h3.2.2] at h5
      cases he:rs p.e f (.block (d+1)) r with
      | error x =>
       rw [he] at h5;refine ⟨one p.ck p.place [] [c,b],q2,key _ _ fun g hg=>?_,h3.tr (y:=.error x) h5⟩;rw [mS,h1];simp only;rw [h4 g hg];simp only;rw [if_neg (by rw [kE (bB.err h5)];exact fun x=>absurd x.2 (by decide))]
      | ok y =>
       obtain ⟨b',r2⟩:=y;rw [he] at h5 h;obtain ⟨rfl,h5⟩:=h5;simp only at h |-;have h5:=h3.tr h5;have iC:q2.sign 0=sign r2 0:=h5.1.sign 0
       by_cases hi:sign ts 0=dE
       ·rw [if_pos hi] at h sd |-
        by_cases eP:sign r2 0=dW
        ·rw [if_pos eP] at h |-;obtain ⟨te,Mf,_⟩:=dh (by decide) eP;have bJ:=h5.1;rw [Mf] at bJ
         have bJ:=h5.tr bJ.next
         have hb:rs p.e f (.block (d+1)) r2.tail≠.error aV:=fun h0=>h (by rw [h0])
         rw [<-bJ.2.2] at hb
         obtain ⟨b2,q3,h6,h7⟩:=C.block (d+1) r2.tail q2.next bJ.1 hb
         rw [bJ.2.2] at h7;refine ⟨one p.ck p.place [] [c,b,b2],q3,key _ _ fun g hg=>?_,?_⟩
         ·rw [mS,h1];simp only;rw [h4 g hg];simp only;rw [if_pos ⟨sd,by rw [iC,eP]⟩,h6 g hg]
         ·cases oH:rs p.e f (.block (d+1)) r2.tail with
          | error x=>rw [oH] at h7;exact bJ.tr (y:=.error x) h7
          | ok y=>obtain ⟨b3,r3⟩:=y;rw [oH] at h7;obtain ⟨rfl,h7⟩:=h7;exact ⟨by rw [sd,cE],bJ.tr h7⟩
        ·rw [if_neg eP];refine ⟨one p.ck p.place [] [c,b],q2,key _ _ fun g hg=>?_,by rw [sd,cE],h5⟩;rw [mS,h1];simp only;rw [h4 g hg];simp only;rw [if_neg (fun x=>eP (by rw [<-iC];exact x.2))]
       ·rw [if_neg hi] at sd |-;refine ⟨one p.ck p.place [] [c,b],q2,key _ _ fun g hg=>?_,by rw [sd,cE],h5⟩;rw [mS,h1];simp only;rw [h4 g hg];simp only;rw [if_neg (by rw [sd];exact fun x=>absurd x.1 (by decide))]
     ·rw [show p.next.e=p.e from rfl] at h2;rw [h2] at h |-;have h3:=hn.tr (y:=.error x) h3;refine ⟨one p.ck p.place [] [c,one 14 (q.aI [41]).place [] []],q.aI [41],key _ _ fun g hg=>?_,h3⟩;rw [mS,h1];simp only;rw [MG h3.err (by unfold KF at hg;omega)];simp only;rw [if_neg (by rw [kE h3.err];exact fun x=>absurd x.2 (by decide))]
    rw [if_neg hc] at h |-
    have Ep:¬ (p.sign 0=dE\/p.sign 0=df):=by rw [dD];exact hc
    by_cases hr:sign ts 0=cY
    ·rw [if_pos hr];obtain ⟨tv,xe,_⟩:=dh (by decide) hr;have hn:=hp;rw [xe] at hn
     have hn:=hn.next
     obtain ⟨t,q,h1,h2⟩:=zd (d:=d+1) (b:=[59]) hn.1 (by decide);rw [show p.next.e=p.e from rfl] at h2;refine ⟨one 11 p.place [] [t],q.aI [59],fun g hg=>?_,?_⟩
     ·obtain ⟨g,rfl,hg⟩:=up hg;rw [mS,dy];rw [if_neg (by rw [dD];exact hv),if_neg Ep,if_pos (by rw [dD,hr]),h1]
     ·rcases h2 with ⟨r,r',h2,h3,h4⟩ | ⟨r,x,h2,h3,h4⟩ | ⟨x,h2,h4⟩
      ·rw [h2];simp only;rw [h3];exact ⟨by rw [cE],hn.tr h4⟩
      ·rw [h2];simp only;rw [h3];exact hn.tr (y:=.error x) h4
      ·rw [h2];exact hn.tr (y:=.error x) h4
    rw [if_neg hr] at h |-
    have HM:¬ p.sign 0=cY:=by rw [dD];exact hr
    have HN:¬ p.sign 0=fX:=by rw [dD];exact hv
    have eD:=hp.mN
    cases ts with
    | nil =>
     have j0:¬ (p.code=0/\p.mN=true/\p.sign 1=[61]):=fun hx=>by have:=hx.2.1;rw [eD] at this;cases this
     rcases JM (d:=d+1) hp with ⟨t,q,r,h1,h2,h3⟩ | ⟨t,q,x,h1,h2,h3⟩
     ·exact absurd h2 (MX _ _ _ (fun k d out h=>by cases h) _ _)
     ·have jZ:¬ (t.n.kind=3/\t.n.at_=p.place/\q.sign 0=[61]):=by rw [kE h3.err];exact fun x=>absurd x.2.2 (by decide)
      refine ⟨one 12 p.place [] [t],q.aI [59],fun g hg=>?_,by unfold simple;rw [h2,fL h3.err (by decide)];exact h3⟩;obtain ⟨g,rfl,hg⟩:=up hg;rw [mS,dy];rw [if_neg HN,if_neg Ep,if_neg HM,if_neg j0,h1];simp only;rw [if_neg jZ]
    | cons a r0 =>
     simp only [simple] at h |-;simp only at eD
     by_cases b8:a.kind=2/\sign (a::r0) 1=[61]
     ·rw [if_pos b8];have j0:p.code=0/\p.mN=true/\p.sign 1=[61]:=⟨hp.code,by rw [eD];simpa using b8.1,by rw [T9];exact b8.2⟩
      rcases FH (d:=d+1) hp with ⟨t,q,h1,⟨r,h2,h3⟩ | ⟨x,h2,h3⟩⟩
      ·rw [h2];refine ⟨one 7 p.place p.name.1 [t],q.aI [59],fun g hg=>?_,by rw [cE];rfl,h3⟩;obtain ⟨g,rfl,hg⟩:=up hg;rw [mS,dy];rw [if_neg HN,if_neg Ep,if_neg HM,if_pos j0,h1]
      ·rw [h2];refine ⟨one 7 p.place p.name.1 [t],q.aI [59],fun g hg=>?_,h3⟩;obtain ⟨g,rfl,hg⟩:=up hg;rw [mS,dy];rw [if_neg HN,if_neg Ep,if_neg HM,if_pos j0,h1]
     ·rw [if_neg b8]
      have j0:¬ (p.code=0/\p.mN=true/\p.sign 1=[61]):=fun hx=>b8 ⟨by have:=hx.2.1;rw [eD] at this;simpa using this,by rw [<-T9];exact hx.2.2⟩
      have Jq:p.place=a.at_:=cE
      rcases JM (d:=d+1) hp with ⟨t,q,r,h1,h2,h3⟩ | ⟨t,q,x,h1,h2,h3⟩
      ·rw [h2];simp only;have iC:q.sign 0=sign r 0:=h3.1.sign 0
       by_cases hput:t.n.kind=3/\t.n.at_=a.at_/\sign r 0=[61]
       ·rw [if_pos hput]
        have jZ:t.n.kind=3/\t.n.at_=p.place/\q.sign 0=[61]:=by rw [Jq,iC];exact hput
        obtain ⟨te,Mf,_⟩:=dh (by decide) hput.2.2;have hn:=h3.1;rw [Mf] at hn
        have hn:=h3.tr hn.next
        obtain ⟨ix,w7⟩:=MW _ _ _ _ _ _ (fun k d out hj=>by cases hj) h2 hput.1
        have gI:∀ il,Go.Xp.inner p.e (d+1) [61] [59] il=Go.Xp.inner p.e (d+1) [61] [59] il:=fun _=>rfl
        have jn:Go.Xp.aI p.e [61] r=.ok r.tail:=by unfold Go.Xp.aI;rw [if_pos hput.2.2]
        obtain ⟨v,q2,h4,h5⟩:=zd (d:=d+1) (b:=[59]) hn.1 (by decide);rw [hn.2.2] at h5;refine ⟨one 8 p.place t.n.s [ix,v],q2.aI [59],fun g hg=>?_,?_⟩
        ·obtain ⟨g,rfl,hg⟩:=up hg;rw [mS,dy];rw [if_neg HN,if_neg Ep,if_neg HM,if_neg j0,h1];simp only;rw [if_pos jZ,w7,h4]
        ·unfold Go.Xp.inner;rw [jn];simp only
         rcases h5 with ⟨r2,r',h2,h3,h4⟩ | ⟨r2,x,h2,h3,h4⟩ | ⟨x,h2,h4⟩
         ·rw [h2];simp only;rw [h3];exact ⟨by rw [Jq,w7];rfl,hn.tr h4⟩
         ·rw [h2];simp only;rw [h3];exact hn.tr (y:=.error x) h4
         ·rw [h2];exact hn.tr (y:=.error x) h4
       ·rw [if_neg hput]
        have jZ:¬ (t.n.kind=3/\t.n.at_=p.place/\q.sign 0=[61]):=by rw [Jq,iC];exact hput
        refine ⟨one 12 p.place [] [t],q.aI [59],fun g hg=>?_,?_⟩
        ·obtain ⟨g,rfl,hg⟩:=up hg;rw [mS,dy];rw [if_neg HN,if_neg Ep,if_neg HM,if_neg j0,h1];simp only;rw [if_neg jZ]
        ·rcases x5 h3.1 (s:=[59]) (by decide) with ⟨r',h4,h5⟩ | ⟨x,h4,h5⟩
         ·rw [h3.2.2] at h4;rw [h4];exact ⟨by rw [Jq],h3.tr h5⟩
         ·rw [h3.2.2] at h4;rw [h4];exact h3.tr (y:=.error x) h5
      ·rw [h2]
       have jZ:¬ (t.n.kind=3/\t.n.at_=p.place/\q.sign 0=[61]):=by rw [kE h3.err];exact fun x=>absurd x.2.2 (by decide)
       refine ⟨one 12 p.place [] [t],q.aI [59],fun g hg=>?_,by rw [fL h3.err (by decide)];exact h3⟩;obtain ⟨g,rfl,hg⟩:=up hg;rw [mS,dy];rw [if_neg HN,if_neg Ep,if_neg HM,if_neg j0,h1];simp only;rw [if_neg jZ]
  ·rw [rs.body] at h |-;have dD:p.sign 0=sign ts 0:=hp.sign 0
   by_cases hb:sign ts 0=[125]
   ·rw [if_pos hb];have hm:=hp.aI (s:=[125]) (by decide);unfold Go.Xp.aI at hm;rw [if_pos hb] at hm;refine ⟨acc,p,fun g hg=>?_,rfl,hm⟩;obtain ⟨g,rfl,hg⟩:=up hg;rw [mB,if_neg (fun h0=>h0.2 (by rw [dD,hb]))]
   ·rw [if_neg hb] at h |-
    have hs:rs p.e f (.stmt d) ts≠.error aV:=fun h0=>h (by rw [h0])
    obtain ⟨a,q,h1,h2⟩:=C.stmt d ts p hp hs;have hc:p.code=0/\¬ p.sign 0=[125]:=⟨hp.code,by rw [dD];exact hb⟩
    cases he:rs p.e f (.stmt d) ts with
    | error x =>
     rw [he] at h2 h;refine ⟨acc++[a],q,fun g hg=>?_,by rw [fL (bB.err h2) (by decide)];exact h2⟩;obtain ⟨g,rfl,hg⟩:=up hg;rw [mB,if_pos hc,h1 g (by omega)];simp only;obtain ⟨g,rfl⟩:∃ g',g=g'+1:=⟨g - 1,by omega⟩;rw [mB,if_neg (fun h0=>bB.err h2 h0.1)]
    | ok y =>
     obtain ⟨a',r⟩:=y;rw [he] at h2 h;obtain ⟨rfl,h2⟩:=h2;simp only at h |-;rw [<-h2.2.2] at h |-;obtain ⟨l,q3,h3,h4⟩:=C.body d (acc++[a]) r q h2.1 h;refine ⟨l,q3,fun g hg=>?_,iy.tr h2 h4⟩;obtain ⟨g,rfl,hg⟩:=up hg;rw [mB,if_pos hc,h1 g (by omega)];exact h3 g (by omega)
end Go.Sp
namespace Go.Im
open Go.Xp Go.Sp
def tok (p:RS) (k:Nat):Tok:=match p.l[p.i+k]? with | some t=>t | none=>⟨0,0,[],p.e⟩
def is (p:RS) (k:Nat) (s:ai):Bool:=(tok p k).kind==3&&(tok p k).s==s
def jB (p:RS):RS:=p.fail 7 (tok p 0).at_
def want (p:RS) (s:ai):RS:=if p.code=0 then (if is p 0 s=true then p.next else jB p) else p
def bg (p:RS):RS:=if p.code=0 then (if (tok p 0).kind=2 then (if (tok p 0).s.length > 12 then p.fail 8 (tok p 0).at_ else p.next) else jB p) else p
def bG (p:RS) (d:Nat):RS:=if d > 60 then p.fail 9 (tok p 0).at_ else p
mutual
def iE:Nat->nP->RS->Option (T × RS)
 | 0,_,_=>none
 | f+1,.expr d,p=>if (bG p d).code=0 then iE f (.level 0 (d+1)) (bG p d) else some (T.zero,bG p d)
 | f+1,.level k d,p =>
  if k=9 then iE f (.operand d) p
  else match iE f (.level (k+1) d) p with
   | none=>none
   | some (out,p)=>iE f (.loop k d out) p
 | f+1,.loop k d out,p =>
  if p.code=0/\(tok p 0).kind=3/\(levels.getD k []).contains (tok p 0).s=true then
   match iE f (.level (k+1) d) p.next with
   | none=>none
   | some (b,q)=>iE f (.loop k d (one 6 (tok p 0).at_ (tok p 0).s [out,b])) q
  else some (out,p)
 | f+1,.operand d,p =>
  if (bG p d).code=0 then
   if is p 0 [45]=true\/is p 0 [33]=true\/is p 0 [126]=true then match iE f (.operand (d+1)) p.next with
    | none=>none
    | some (a,q)=>some (one 5 (tok p 0).at_ (tok p 0).s [a],q)
   else if (tok p 0).kind=1 then some (.mk ⟨1,(tok p 0).at_,(tok p 0).n,[],[]⟩ [],p.next)
   else if is p 0 [40]=true then match iE f (.expr (d+1)) p.next with
    | none=>none
    | some (a,q)=>some (a,want q [41])
   else if (bg p).code=0 then
    if is (bg p) 0 [91]=true then match iE f (.expr (d+1)) (bg p).next with
     | none=>none
     | some (a,q)=>some (one 3 (tok p 0).at_ (tok p 0).s [a],want q [93])
    else if is (bg p) 0 [40]=true then match iA f (d+1) [] (bg p).next with
     | none=>none
     | some (l,q)=>some (one 4 (tok p 0).at_ (tok p 0).s l,q)
    else some (one 2 (tok p 0).at_ (tok p 0).s [],bg p)
   else some (one 2 (tok p 0).at_ (tok p 0).s [],bg p)
  else some (T.zero,bG p d)
def iA:Nat->Nat->List T->RS->Option (List T × RS)
 | 0,_,_,_=>none
 | f+1,d,acc,p =>
  if p.code=0/\is p 0 [41]=false then match iE f (.expr d) (if acc.length=0 then p else want p [44]) with
   | none=>none
   | some (a,q)=>iA f d (acc++[a]) q
  else some (acc,want p [41])
end
section
variable {p q:RS} {ts r:List Tok}
theorem On.tok (h:On p ts) (k:Nat):tok p k=(match ts[k]? with | some t=>t | none=>⟨0,0,[],p.e⟩):=by unfold Im.tok;rw [h.at]
theorem On.pB (h:On p ts):(Im.tok p 0).at_=Go.Xp.place p.e ts:=by
 rw [On.tok h]
 cases ts with
 | nil=>rfl
 | cons t r=>rfl
theorem On.is (h:On p ts) (k:Nat) {s:ai} (hs:s≠[]):is p k s=decide (sign ts k=s):=by
 unfold Im.is
 have he:sign ts k=(if (Im.tok p k).kind=3 then (Im.tok p k).s else []):=by
  unfold Go.Xp.sign;rw [On.tok h]
  cases hk:ts[k]? with
  | none=>simp
  | some t=>rfl
 rw [he]
 by_cases h3:(Im.tok p k).kind=3
 ·rw [if_pos h3,Bool.eq_iff_iff];simp [h3]
 ·rw [if_neg h3,Bool.eq_iff_iff];simp [h3];exact hs
theorem ft (h:p.code≠0) (s:ai):want p s=p:=by unfold want;rw [if_neg h]
theorem zU (h:p.code≠0) (d:Nat):bG p d=p:=by unfold bG;split <;> simp [r6 h]
theorem MK (h:p.code≠0):bg p=p:=by unfold bg;rw [if_neg h]
theorem On.jB (h:On p ts):bB p (jB p) (.error (7,place p.e ts)):=by
 unfold Im.jB;rw [On.pB h];exact h.fail 7 _ (by decide)
theorem On.want (h:On p ts) {s:ai} (hs:s≠[]):bB p (want p s) (Go.Xp.aI p.e s ts):=by
 unfold Im.want Go.Xp.aI;rw [if_pos h.code,On.is h 0 hs]
 by_cases h0:sign ts 0=s
 ·rw [if_pos (by simpa using h0),if_pos h0];obtain ⟨t,ht,_⟩:=dh hs h0;rw [ht] at h
  exact h.next
 ·rw [if_neg (by simpa using h0),if_neg h0];exact On.jB h
theorem lk (h:On p ts) {s:ai} (hs:s≠[]):(∃ r,Go.Xp.aI p.e s ts=.ok r/\bB p (Im.want p s) (.ok r))\/(∃ x,Go.Xp.aI p.e s ts=.error x/\bB p (Im.want p s) (.error x)):=by
 have h:=On.want h hs
 cases he:Go.Xp.aI p.e s ts with
 | ok r=>rw [he] at h;exact .inl ⟨r,rfl,h⟩
 | error x=>rw [he] at h;exact .inr ⟨x,rfl,h⟩
theorem sA (h:On p ts):(∃ r,Go.Xp.name p.e ts=.ok ((Im.tok p 0).s,r)/\bB p (Im.bg p) (.ok r))\/(∃ x,Go.Xp.name p.e ts=.error x/\bB p (Im.bg p) (.error x)):=by
 have ht:=On.tok h 0;have hw:=On.jB h;unfold Im.bg;rw [if_pos h.code]
 cases ts with
 | nil =>
  simp only [List.getElem?_nil] at ht;rw [ht];exact .inr ⟨_,rfl,by rw [if_neg (by simp)];exact hw⟩
 | cons t r =>
  simp only [getElem?_cons_zero] at ht;rw [ht];simp only [Go.Xp.name]
  by_cases h2:t.kind=2
  ·rw [if_pos h2,if_pos h2]
   by_cases hl:t.s.length > 12
   ·rw [if_pos hl,if_pos hl];exact .inr ⟨_,rfl,h.fail 8 _ (by decide)⟩
   ·rw [if_neg hl,if_neg hl];exact .inl ⟨r,rfl,h.next⟩
  ·rw [if_neg h2,if_neg h2];exact .inr ⟨_,rfl,hw⟩
theorem ER (h:p.code≠0) {g d:Nat} (hg:1<=g):iE g (.expr d) p=some (T.zero,p):=by
 obtain ⟨g,rfl⟩:∃ g',g=g'+1:=⟨g - 1,by omega⟩;rw [iE,zU h,if_neg h]
theorem Mk (h:p.code≠0) {g k d:Nat} {out:T} (hg:1<=g):iE g (.loop k d out) p=some (out,p):=by
 obtain ⟨g,rfl⟩:∃ g',g=g'+1:=⟨g - 1,by omega⟩;rw [iE,if_neg (fun h0=>h h0.1)]
end
structure IE (f:Nat):Prop where
 expr:∀ d ts p,On p ts->rd p.e f (.expr d) ts≠.error aV->∃ t q,(∀ g,f+2<=g->iE g (.expr d) p=some (t,q))/\iy p q t (rd p.e f (.expr d) ts)
 level:∀ k d ts p,k<=9->On p ts->rd p.e f (.level k d) ts≠.error aV->∃ t q,(∀ g,f+2<=g->iE g (.level k d) p=some (t,q))/\iy p q t (rd p.e f (.level k d) ts)
 loop:∀ k d out ts p,k < 9->On p ts->rd p.e f (.loop k d out) ts≠.error aV->∃ t q,(∀ g,f+2<=g->iE g (.loop k d out) p=some (t,q))/\iy p q t (rd p.e f (.loop k d out) ts)
 operand:∀ d ts p,On p ts->rd p.e f (.operand d) ts≠.error aV->∃ t q,(∀ g,f+2<=g->iE g (.operand d) p=some (t,q))/\iy p q t (rd p.e f (.operand d) ts)
 args:∀ d acc ts p,On p ts->rd.args p.e f d acc ts≠.error aV->∃ t q,(∀ g,f+2<=g->iA g d acc p=some (t,q))/\iy p q t (rd.args p.e f d acc ts)
theorem lh {f g:Nat} (h:f+1+2<=g):∃ g',g=g'+1/\f+2<=g':=⟨g - 1,by omega,by omega⟩
theorem ie (f:Nat):IE f:=by
 induction f with
 | zero =>
  refine ⟨fun d ts p _ h=>absurd ?_ h,fun k d ts p _ _ h=>absurd ?_ h,fun k d out ts p _ _ h=>absurd ?_ h,fun d ts p _ h=>absurd ?_ h,fun d acc ts p _ h=>absurd ?_ h⟩ <;> simp [rd,rd.args]
 | succ f C =>
  refine ⟨fun d ts p hp h=>?_,fun k d ts p hk hp h=>?_,fun k d out ts p hk hp h=>?_,fun d ts p hp h=>?_,fun d acc ts p hp h=>?_⟩
  ·rw [rd] at h |-
   by_cases hd:d > 60
   ·rw [if_pos hd] at h |-;have hf:=hp.fail 9 (tok p 0).at_ (by decide);refine ⟨T.zero,p.fail 9 (tok p 0).at_,fun g hg=>?_,by rw [<-On.pB hp];exact hf⟩;obtain ⟨g,rfl,hg⟩:=lh hg
    have fv:bG p d=p.fail 9 (tok p 0).at_:=by unfold bG;rw [if_pos hd]
    rw [iE,fv,if_neg hf.err]
   ·rw [if_neg hd] at h |-
    have fv:bG p d=p:=by unfold bG;rw [if_neg hd]
    obtain ⟨t,q,h1,h2⟩:=C.level 0 (d+1) ts p (by omega) hp h;refine ⟨t,q,fun g hg=>?_,h2⟩;obtain ⟨g,rfl,hg⟩:=lh hg;rw [iE,fv,if_pos hp.code];exact h1 g (by omega)
  ·rw [rd] at h |-
   by_cases h9:k=9
   ·rw [if_pos h9] at h |-;obtain ⟨t,q,h1,h2⟩:=C.operand d ts p hp h;refine ⟨t,q,fun g hg=>?_,h2⟩;obtain ⟨g,rfl,hg⟩:=lh hg;rw [iE,if_pos h9];exact h1 g (by omega)
   ·rw [if_neg h9] at h |-
    cases he:rd p.e f (.level (k+1) d) ts with
    | error x =>
     rw [he] at h
     have hx:x≠aV:=fun h0=>h (by rw [h0])
     obtain ⟨t,q,h1,h2⟩:=C.level (k+1) d ts p (by omega) hp (by rw [he];intro h0;cases h0;exact hx rfl);rw [he] at h2;refine ⟨t,q,fun g hg=>?_,h2⟩;obtain ⟨g,rfl,hg⟩:=lh hg;rw [iE,if_neg h9,h1 g (by omega)];exact Mk (bB.err h2) (by omega)
    | ok r =>
     obtain ⟨t',r⟩:=r;rw [he] at h;simp only at h |-;obtain ⟨t,q,h1,h2⟩:=C.level (k+1) d ts p (by omega) hp (by rw [he];intro h0;cases h0);rw [he] at h2;obtain ⟨rfl,h2⟩:=h2;rw [<-h2.2.2] at h |-;obtain ⟨t3,q3,h3,h4⟩:=C.loop k d t r q (by omega) h2.1 h;refine ⟨t3,q3,fun g hg=>?_,iy.tr h2 h4⟩;obtain ⟨g,rfl,hg⟩:=lh hg;rw [iE,if_neg h9,h1 g (by omega)];exact h3 g (by omega)
  ·cases ts with
   | nil =>
    rw [rd];refine ⟨out,p,fun g hg=>?_,rfl,hp.self⟩;obtain ⟨g,rfl,hg⟩:=lh hg;rw [iE,if_neg];rintro ⟨_,h0,_⟩;rw [On.tok hp] at h0;simp at h0
   | cons t r =>
    rw [rd] at h |-
    have ht:tok p 0=t:=by rw [On.tok hp];rfl
    by_cases hc:t.kind=3/\t.s∈levels.getD k []
    ·rw [if_pos hc] at h |-
     have hn:=hp.next
     have mj:p.code=0/\(tok p 0).kind=3/\(levels.getD k []).contains (tok p 0).s=true:=by rw [ht];exact ⟨hp.code,hc.1,by simpa using hc.2⟩
     rw [show p.e=p.next.e from rfl] at h |-
     cases he:rd p.next.e f (.level (k+1) d) r with
     | error x =>
      rw [he] at h
      have hx:x≠aV:=fun h0=>h (by rw [h0])
      obtain ⟨b,q,h1,h2⟩:=C.level (k+1) d r p.next (by omega) hn.1 (by rw [he];intro h0;cases h0;exact hx rfl)
      rw [he] at h2;refine ⟨one 6 t.at_ t.s [out,b],q,fun g hg=>?_,hn.tr (y:=.error x) h2⟩;obtain ⟨g,rfl,hg⟩:=lh hg;rw [iE,if_pos mj,h1 g (by omega),ht];exact Mk (bB.err h2) (by omega)
     | ok x =>
      obtain ⟨b',r'⟩:=x;rw [he] at h;simp only at h |-
      obtain ⟨b,q,h1,h2⟩:=C.level (k+1) d r p.next (by omega) hn.1 (by rw [he];intro h0;cases h0)
      rw [he] at h2;obtain ⟨rfl,h2⟩:=h2;rw [<-h2.2.2] at h |-;obtain ⟨t3,q3,h3,h4⟩:=C.loop k d (one 6 t.at_ t.s [out,b]) r' q hk h2.1 h;refine ⟨t3,q3,fun g hg=>?_,iy.tr (hn.tr h2) h4⟩;obtain ⟨g,rfl,hg⟩:=lh hg;rw [iE,if_pos mj,h1 g (by omega),ht];exact h3 g (by omega)
    ·rw [if_neg hc];refine ⟨out,p,fun g hg=>?_,rfl,hp.self⟩;obtain ⟨g,rfl,hg⟩:=lh hg;rw [iE,if_neg];rw [ht];rintro ⟨_,h0,h1⟩;exact hc ⟨h0,by simpa using h1⟩
  ·rw [rd.eq_def] at h |-;simp only at h |-
   by_cases hd:d > 60
   ·rw [if_pos hd] at h |-;have hf:=hp.fail 9 (tok p 0).at_ (by decide);refine ⟨T.zero,p.fail 9 (tok p 0).at_,fun g hg=>?_,by rw [<-On.pB hp];exact hf⟩;obtain ⟨g,rfl,hg⟩:=lh hg
    have fv:bG p d=p.fail 9 (tok p 0).at_:=by unfold bG;rw [if_pos hd]
    rw [iE,fv,if_neg hf.err]
   ·rw [if_neg hd] at h |-
    have fv:bG p d=p:=by unfold bG;rw [if_neg hd]
    have hi:∀ s:ai,s≠[]->is p 0 s=decide (sign ts 0=s):=fun s hs=>On.is hp 0 hs
    cases ts with
    | nil =>
     simp only
     have ht:tok p 0=⟨0,0,[],p.e⟩:=by rw [On.tok hp];rfl
     have bT:∀ s:ai,s≠[]->is p 0 s=false:=fun s hs=>by rw [hi s hs];exact decide_eq_false (fun h=>hs h.symm)
     have Am:bg p=p.fail 7 p.e:=by unfold bg;rw [if_pos hp.code,ht,if_neg (by simp)];unfold jB;rw [ht]
     have hf:=hp.fail 7 p.e (by decide);refine ⟨one 2 p.e [] [],p.fail 7 p.e,fun g hg=>?_,hf⟩;obtain ⟨g,rfl,hg⟩:=lh hg;rw [iE,fv,if_pos hp.code,bT _ (by decide),bT _ (by decide),bT _ (by decide),if_neg (by decide),if_neg (by rw [ht];simp),bT _ (by decide),if_neg (by decide),Am,if_neg hf.err,ht]
    | cons t r =>
     simp only at h |-
     have ht:tok p 0=t:=by rw [On.tok hp];rfl
     have hn:=hp.next
     by_cases h3:t.kind=3
     ·rw [if_pos h3] at h |-
      have dD:sign (t::r) 0=t.s:=by simp only [sign,getElem?_cons_zero,bd,h3,if_true]
      have Aa:¬ t.kind=1:=by omega
      have nX:∀ s:ai,s≠[]->is p 0 s=decide (t.s=s):=fun s hs=>by rw [hi s hs,dD]
      by_cases hu:t.s=[45]\/t.s=[33]\/t.s=[126]
      ·rw [if_pos hu] at h |-
       have tg:is p 0 [45]=true\/is p 0 [33]=true\/is p 0 [126]=true:=by
        rw [nX _ (by decide),nX _ (by decide),nX _ (by decide)];simpa using hu
       rw [show p.e=p.next.e from rfl] at h |-
       cases he:rd p.next.e f (.operand (d+1)) r with
       | error x =>
        rw [he] at h
        have hx:x≠aV:=fun h0=>h (by rw [h0])
        obtain ⟨b,q,h1,h2⟩:=C.operand (d+1) r p.next hn.1 (by rw [he];intro h0;cases h0;exact hx rfl)
        rw [he] at h2;refine ⟨one 5 t.at_ t.s [b],q,fun g hg=>?_,hn.tr (y:=.error x) h2⟩;obtain ⟨g,rfl,hg⟩:=lh hg;rw [iE,fv,if_pos hp.code,if_pos tg,h1 g (by omega),ht]
       | ok x =>
        obtain ⟨b',r'⟩:=x;rw [he] at h;simp only at h |-
        obtain ⟨b,q,h1,h2⟩:=C.operand (d+1) r p.next hn.1 (by rw [he];intro h0;cases h0)
        rw [he] at h2;obtain ⟨rfl,h2⟩:=h2;refine ⟨one 5 t.at_ t.s [b],q,fun g hg=>?_,rfl,hn.tr h2⟩;obtain ⟨g,rfl,hg⟩:=lh hg;rw [iE,fv,if_pos hp.code,if_pos tg,h1 g (by omega),ht]
      ·rw [if_neg hu] at h |-
       have tg:¬ (is p 0 [45]=true\/is p 0 [33]=true\/is p 0 [126]=true):=by
        rw [nX _ (by decide),nX _ (by decide),nX _ (by decide)];simpa using hu
       by_cases hb:t.s=[40]
       ·rw [if_pos hb] at h |-
        have bj:is p 0 [40]=true:=by rw [nX _ (by decide)];simpa using hb
        rw [show p.e=p.next.e from rfl] at h |-
        cases he:rd p.next.e f (.expr (d+1)) r with
        | error x =>
         rw [he] at h
         have hx:x≠aV:=fun h0=>h (by rw [h0])
         obtain ⟨b,q,h1,h2⟩:=C.expr (d+1) r p.next hn.1 (by rw [he];intro h0;cases h0;exact hx rfl)
         rw [he] at h2;refine ⟨b,want q [41],fun g hg=>?_,?_⟩
         ·obtain ⟨g,rfl,hg⟩:=lh hg;rw [iE,fv,if_pos hp.code,if_neg tg,if_neg (by rw [ht];exact Aa),if_pos bj,h1 g (by omega)]
         ·rw [ft (bB.err h2)];exact hn.tr (y:=.error x) h2
        | ok x =>
         obtain ⟨b',r'⟩:=x;rw [he] at h;simp only at h |-
         obtain ⟨b,q,h1,h2⟩:=C.expr (d+1) r p.next hn.1 (by rw [he];intro h0;cases h0)
         rw [he] at h2;obtain ⟨rfl,h2⟩:=h2;have aR:=(hn.tr h2).tr (On.want h2.1 (s:=[41]) (by decide));rw [h2.2.2] at aR;refine ⟨b,want q [41],fun g hg=>?_,?_⟩
         ·obtain ⟨g,rfl,hg⟩:=lh hg;rw [iE,fv,if_pos hp.code,if_neg tg,if_neg (by rw [ht];exact Aa),if_pos bj,h1 g (by omega)]
         ·cases qK:aI p.next.e [41] r' with
          | error x=>rw [qK] at aR;exact aR
          | ok r2=>rw [qK] at aR;exact ⟨rfl,aR⟩
       ·rw [if_neg hb] at h |-
        have bj:¬ is p 0 [40]=true:=by rw [nX _ (by decide)];simpa using hb
        have Am:bg p=p.fail 7 t.at_:=by unfold bg;rw [if_pos hp.code,ht,if_neg (by omega)];unfold jB;rw [ht]
        have hf:=hp.fail 7 t.at_ (by decide);refine ⟨one 2 t.at_ t.s [],p.fail 7 t.at_,fun g hg=>?_,hf⟩;obtain ⟨g,rfl,hg⟩:=lh hg;rw [iE,fv,if_pos hp.code,if_neg tg,if_neg (by rw [ht];exact Aa),if_neg bj,Am,if_neg hf.err,ht]
     ·rw [if_neg h3] at h |-
      have bT:∀ s:ai,s≠[]->is p 0 s=false:=fun s hs=>by unfold is;rw [ht];simp [h3]
      have tg:¬ (is p 0 [45]=true\/is p 0 [33]=true\/is p 0 [126]=true):=by rw [bT _ (by decide),bT _ (by decide),bT _ (by decide)];decide
      by_cases h1:t.kind=1
      ·rw [if_pos h1];refine ⟨_,p.next,fun g hg=>?_,rfl,hn⟩;obtain ⟨g,rfl,hg⟩:=lh hg;rw [iE,fv,if_pos hp.code,if_neg tg,if_pos (by rw [ht];exact h1),ht]
      ·rw [if_neg h1] at h |-
       have cv:¬ (tok p 0).kind=1:=by rw [ht];exact h1
       have bj:¬ is p 0 [40]=true:=by rw [bT _ (by decide)];decide
       rcases sA hp with ⟨r',k1,k2⟩ | ⟨x,k1,k2⟩
       ·rw [k1] at h |-;simp only at h |-
        have rm:∀ s:ai,s≠[]->is (bg p) 0 s=decide (sign r' 0=s):=fun s hs=>On.is k2.1 0 hs
        by_cases hb:sign r' 0=[91]
        ·rw [if_pos hb] at h |-
         have uu:is (bg p) 0 [91]=true:=by rw [rm _ (by decide)];simpa using hb
         obtain ⟨tb,Au,_⟩:=dh (by decide) hb;have bJ:=k2.1;rw [Au] at bJ
         have bJ:=k2.tr bJ.next
         rw [<-bJ.2.2] at h |-
         cases he:rd (bg p).next.e f (.expr (d+1)) r'.tail with
         | error x =>
          rw [he] at h
          have hx:x≠aV:=fun h0=>h (by rw [h0])
          obtain ⟨b,q,k3,k4⟩:=C.expr (d+1) r'.tail (bg p).next bJ.1 (by rw [he];intro h0;cases h0;exact hx rfl)
          rw [he] at k4;refine ⟨one 3 t.at_ (tok p 0).s [b],want q [93],fun g hg=>?_,?_⟩
          ·obtain ⟨g,rfl,hg⟩:=lh hg;rw [iE,fv,if_pos hp.code,if_neg tg,if_neg cv,if_neg bj,if_pos k2.1.code,if_pos uu,k3 g (by omega)];simp only [ht]
          ·rw [ft (bB.err k4)];exact bJ.tr (y:=.error x) k4
         | ok x =>
          obtain ⟨b',r2⟩:=x;rw [he] at h;simp only at h |-
          obtain ⟨b,q,k3,k4⟩:=C.expr (d+1) r'.tail (bg p).next bJ.1 (by rw [he];intro h0;cases h0)
          rw [he] at k4;obtain ⟨rfl,k4⟩:=k4;have aR:=(bJ.tr k4).tr (On.want k4.1 (s:=[93]) (by decide));rw [k4.2.2] at aR;refine ⟨one 3 t.at_ (tok p 0).s [b],want q [93],fun g hg=>?_,?_⟩
          ·obtain ⟨g,rfl,hg⟩:=lh hg;rw [iE,fv,if_pos hp.code,if_neg tg,if_neg cv,if_neg bj,if_pos k2.1.code,if_pos uu,k3 g (by omega)];simp only [ht]
          ·cases qK:aI (bg p).next.e [93] r2 with
           | error x=>rw [qK] at aR;exact aR
           | ok r3=>rw [qK] at aR;exact ⟨rfl,aR⟩
        ·rw [if_neg hb] at h |-
         have uu:¬ is (bg p) 0 [91]=true:=by rw [rm _ (by decide)];simpa using hb
         by_cases hc:sign r' 0=[40]
         ·rw [if_pos hc] at h |-
          have nD:is (bg p) 0 [40]=true:=by rw [rm _ (by decide)];simpa using hc
          obtain ⟨tb,Au,_⟩:=dh (by decide) hc;have bJ:=k2.1;rw [Au] at bJ
          have bJ:=k2.tr bJ.next
          rw [<-bJ.2.2] at h |-
          cases he:rd.args (bg p).next.e f (d+1) [] r'.tail with
          | error x =>
           rw [he] at h
           have hx:x≠aV:=fun h0=>h (by rw [h0])
           obtain ⟨b,q,k3,k4⟩:=C.args (d+1) [] r'.tail (bg p).next bJ.1 (by rw [he];intro h0;cases h0;exact hx rfl)
           rw [he] at k4;refine ⟨one 4 t.at_ (tok p 0).s b,q,fun g hg=>?_,bJ.tr (y:=.error x) k4⟩;obtain ⟨g,rfl,hg⟩:=lh hg;rw [iE,fv,if_pos hp.code,if_neg tg,if_neg cv,if_neg bj,if_pos k2.1.code,if_neg uu,if_pos nD,k3 g (by omega)];simp only [ht]
          | ok x =>
           obtain ⟨b',r2⟩:=x;rw [he] at h
           obtain ⟨b,q,k3,k4⟩:=C.args (d+1) [] r'.tail (bg p).next bJ.1 (by rw [he];intro h0;cases h0)
           rw [he] at k4;obtain ⟨rfl,k4⟩:=k4;refine ⟨one 4 t.at_ (tok p 0).s b,q,fun g hg=>?_,rfl,bJ.tr k4⟩;obtain ⟨g,rfl,hg⟩:=lh hg;rw [iE,fv,if_pos hp.code,if_neg tg,if_neg cv,if_neg bj,if_pos k2.1.code,if_neg uu,if_pos nD,k3 g (by omega)];simp only [ht]
         ·rw [if_neg hc] at h |-
          have nD:¬ is (bg p) 0 [40]=true:=by rw [rm _ (by decide)];simpa using hc
          refine ⟨one 2 t.at_ (tok p 0).s [],bg p,fun g hg=>?_,rfl,k2⟩;obtain ⟨g,rfl,hg⟩:=lh hg;rw [iE,fv,if_pos hp.code,if_neg tg,if_neg cv,if_neg bj,if_pos k2.1.code,if_neg uu,if_neg nD];simp only [ht]
       ·rw [k1] at h |-;refine ⟨one 2 t.at_ (tok p 0).s [],bg p,fun g hg=>?_,k2⟩;obtain ⟨g,rfl,hg⟩:=lh hg;rw [iE,fv,if_pos hp.code,if_neg tg,if_neg cv,if_neg bj,if_neg k2.err];simp only [ht]
  ·rw [rd.args] at h |-;have hi:is p 0 [41]=decide (sign ts 0=[41]):=On.is hp 0 (by decide)
   by_cases hb:sign ts 0=[41]
   ·rw [if_pos hb];have hm:=On.want hp (s:=[41]) (by decide);unfold Go.Xp.aI at hm;rw [if_pos hb] at hm;refine ⟨acc,want p [41],fun g hg=>?_,rfl,hm⟩;obtain ⟨g,rfl,hg⟩:=lh hg;rw [iA,if_neg (fun h0=>by rw [hi] at h0;simp [hb] at h0)]
   ·rw [if_neg hb] at h |-;have mj:p.code=0/\is p 0 [41]=false:=⟨hp.code,by rw [hi];simpa using hb⟩;have key:∀ (p':RS) (il:List Tok),bB p p' (.ok il)->(if acc.length=0 then p else want p [44])=p'->(match rd p.e f (.expr d) il with | .error x=>.error x | .ok (a,ts)=>rd.args p.e f d (acc++[a]) ts:Rd (List T))≠.error aV ->
      ∃ t q,(∀ g,f+1+2<=g->iA g d acc p=some (t,q))/\iy p q t (match rd p.e f (.expr d) il with | .error x=>.error x | .ok (a,ts)=>rd.args p.e f d (acc++[a]) ts):=by
     intro p' il hn Eu h;rw [<-hn.2.2] at h |-
     cases he:rd p'.e f (.expr d) il with
     | error x =>
      rw [he] at h
      have hx:x≠aV:=fun h0=>h (by rw [h0])
      obtain ⟨b,q,k1,k2⟩:=C.expr d il p' hn.1 (by rw [he];intro h0;cases h0;exact hx rfl);rw [he] at k2;refine ⟨acc++[b],q,fun g hg=>?_,hn.tr (y:=.error x) k2⟩;obtain ⟨g,rfl,hg⟩:=lh hg;rw [iA,if_pos mj,Eu,k1 g (by omega)];simp only;obtain ⟨g,rfl⟩:∃ g',g=g'+1:=⟨g - 1,by omega⟩;rw [iA,if_neg (fun h0=>bB.err k2 h0.1),ft (bB.err k2)]
     | ok x =>
      obtain ⟨b',r'⟩:=x;rw [he] at h;simp only at h |-;obtain ⟨b,q,k1,k2⟩:=C.expr d il p' hn.1 (by rw [he];intro h0;cases h0);rw [he] at k2;obtain ⟨rfl,k2⟩:=k2;rw [<-k2.2.2] at h |-;obtain ⟨t3,q3,h3,h4⟩:=C.args d (acc++[b]) r' q k2.1 h;refine ⟨t3,q3,fun g hg=>?_,iy.tr (hn.tr k2) h4⟩;obtain ⟨g,rfl,hg⟩:=lh hg;rw [iA,if_pos mj,Eu,k1 g (by omega)];exact h3 g (by omega)
    cases acc with
    | nil =>
     rw [if_pos rfl] at h |-;exact key p ts hp.self rfl h
    | cons a0 acc0 =>
     rw [if_neg (by simp)] at h |-
     rcases lk hp (s:=[44]) (by decide) with ⟨r',k1,k2⟩ | ⟨x,k1,k2⟩
     ·rw [k1] at h |-;exact key _ r' k2 (if_neg (by simp)) h
     ·rw [k1];refine ⟨a0::acc0++[T.zero],want p [44],fun g hg=>?_,k2⟩;obtain ⟨g,rfl,hg⟩:=lh hg;rw [iA,if_pos mj,if_neg (by simp),ER k2.err (by omega)];simp only;obtain ⟨g,rfl⟩:∃ g',g=g'+1:=⟨g - 1,by omega⟩;rw [iA,if_neg (fun h0=>k2.err h0.1),ft k2.err]
end Go.Im
namespace Go.Xp
abbrev rQ (ts:List Tok):Prop:=ts.Pairwise fun a b=>a.at_ < b.at_
theorem vD {e:Int} {s:ai} {ts r:List Tok} (hs:s≠[]) (h:aI e s ts=.ok r):∃ u,ts=u::r/\u.kind=3/\u.s=s:=by
 obtain ⟨h1,h2⟩:=BP h;obtain ⟨t,h3,h4,h5⟩:=Go.Sp.dh hs h2;exact ⟨t,by rw [h1];exact h3,h4,h5⟩
theorem Fe {e:Int} {s:ai} {ts r:List Tok} (h:name e ts=.ok (s,r)):∃ u,ts=u::r/\u.kind=2/\u.s=s/\s.length<=12:=by
 cases ts with
 | nil=>cases h
 | cons t ts =>
  rw [name] at h;split at h
  ·split at h
   ·cases h
   ·cases h;exact ⟨t,rfl,by assumption,rfl,by omega⟩
  ·cases h
theorem sF {s:ai} {ts:List Tok} (hs:s≠[]) (h:sign ts 0=s):∃ u,ts=u::ts.tail/\u.kind=3/\u.s=s:=Go.Sp.dh hs h
def SJ (ts r:List Tok) (t:T):Prop:=∃ a pre,ts=a::(pre++r)/\(rQ ts->a.at_<=t.n.at_/\(t.n.kind=3->t.n.at_=a.at_->a.kind=2/\∃ UN w,a::pre=UN++[w]/\w.s=[93]))
def SH (ts r:List Tok) (out t:T):Prop:=(t=out/\r=ts)\/(t.n.kind=6/\∃ pre,ts=pre++r/\∃ u∈ts,t.n.at_=u.at_)
theorem Sb (e:Int):∀ f,(∀ j ts t r,(∀ k d out,j≠.loop k d out)->rd e f j ts=.ok (t,r)->SJ ts r t)/\(∀ k d out ts t r,rd e f (.loop k d out) ts=.ok (t,r)->SH ts r out t)/\(∀ d acc ts l r,rd.args e f d acc ts=.ok (l,r)->∃ pre,ts=pre++r/\pre≠[]):=by
 intro f
 induction f with
 | zero=>exact ⟨fun j ts t r _ h=>by simp [rd] at h,fun k d out ts t r h=>by simp [rd] at h,fun d acc ts l r h=>by simp [rd.args] at h⟩
 | succ f ih =>
  obtain ⟨i1,i2,i3⟩:=ih;refine ⟨fun j ts t r hj h=>?_,fun k d out ts t r h=>?_,fun d acc ts l r h=>?_⟩
  ·rw [rd.eq_def] at h
   cases j with
   | expr d =>
    simp only at h;split at h
    ·cases h
    ·exact i1 _ _ _ _ (fun k d out h=>by cases h) h
   | level k d =>
    simp only at h;split at h
    ·exact i1 _ _ _ _ (fun k d out h=>by cases h) h
    ·split at h
     ·cases h
     ·rename_i out il he;have h1:=i1 _ _ _ _ (fun k d out h=>by cases h) he;have h2:=i2 _ _ _ _ _ _ h
      rcases h2 with ⟨rfl,rfl⟩ | ⟨h3,BS,rfl,u,hu,h4⟩
      ·exact h1
      ·obtain ⟨a,pre,rfl,h5⟩:=h1;refine ⟨a,pre++BS,by simp,fun hs=>⟨?_,fun h6=>by omega⟩⟩;rw [h4];rw [rQ,List.pairwise_cons] at hs;exact Int.le_of_lt (hs.1 u (List.mem_append_right _ hu))
   | loop k d out=>exact absurd rfl (hj _ _ _)
   | operand d =>
    simp only at h;split at h
    ·cases h
    ·cases ts with
     | nil=>cases h
     | cons a r' =>
      simp only at h;split at h
      ·rename_i h3;split at h
       ·split at h
        ·cases h
        ·rename_i b r2 he;cases h;obtain ⟨a2,pre,rfl,_⟩:=i1 _ _ _ _ (fun k d out h=>by cases h) he;exact ⟨a,a2::pre,by simp,fun _=>⟨by simp [one,T.n],fun h=>by simp [one,T.n] at h⟩⟩
       ·split at h
        ·split at h
         ·cases h
         ·rename_i b r2 he;split at h
          ·cases h
          ·rename_i r3 hm;cases h;obtain ⟨a2,pre,rfl,h5⟩:=i1 _ _ _ _ (fun k d out h=>by cases h) he;obtain ⟨w,rfl,_,_⟩:=vD (by decide) hm;refine ⟨a,a2::(pre++[w]),by simp,fun hs=>?_⟩;rw [rQ,List.pairwise_cons] at hs;have h6:=(h5 hs.2).1;have h7:=hs.1 a2 (by simp);exact ⟨by omega,fun _ h8=>by omega⟩
        ·cases h
      ·split at h
       ·cases h;exact ⟨a,[],rfl,fun _=>⟨Int.le_refl _,fun h=>by simp [T.n] at h⟩⟩
       ·split at h
        ·cases h
        ·rename_i s r2 hn;obtain ⟨u,hu,hk,_⟩:=Fe hn;cases hu;split at h
         ·rename_i hs;obtain ⟨w,hw,_,_⟩:=sF (by decide) hs;split at h
          ·cases h
          ·rename_i b r3 he;split at h
           ·cases h
           ·rename_i r4 hm;cases h;obtain ⟨a2,pre,h4,h5⟩:=i1 _ _ _ _ (fun k d out h=>by cases h) he;obtain ⟨z,rfl,_,hz⟩:=vD (by decide) hm;refine ⟨a,w::a2::(pre++[z]),by rw [hw,h4];simp,fun _=>⟨Int.le_refl _,fun _ _=>⟨hk,a::w::a2::pre,z,by simp,hz⟩⟩⟩
         ·split at h
          ·rename_i hs;obtain ⟨w,hw,_,_⟩:=sF (by decide) hs;split at h
           ·cases h
           ·rename_i l r3 he;cases h;obtain ⟨pre,h4,_⟩:=i3 _ _ _ _ _ he;exact ⟨a,w::pre,by rw [hw,h4];simp,fun _=>⟨Int.le_refl _,fun h=>by simp [one,T.n] at h⟩⟩
          ·cases h;exact ⟨a,[],rfl,fun _=>⟨Int.le_refl _,fun h=>by simp [one,T.n] at h⟩⟩
  ·cases ts with
   | nil=>rw [rd] at h;cases h;exact .inl ⟨rfl,rfl⟩
   | cons a r' =>
    rw [rd] at h;split at h
    ·split at h
     ·cases h
     ·rename_i b r2 he;obtain ⟨a2,pre,rfl,_⟩:=i1 _ _ _ _ (fun k d out h=>by cases h) he
      rcases i2 _ _ _ _ _ _ h with ⟨rfl,rfl⟩ | ⟨h3,BS,rfl,u,hu,h4⟩
      ·exact .inr ⟨rfl,a::a2::pre,by simp,a,by simp,rfl⟩
      ·exact .inr ⟨h3,a::a2::(pre++BS),by simp,u,by simp at hu |-;rcases hu with h | h <;> simp [h],h4⟩
    ·cases h;exact .inl ⟨rfl,rfl⟩
  ·rw [rd.args] at h;split at h
   ·rename_i hs;obtain ⟨w,hw,_,_⟩:=sF (by decide) hs;cases h;exact ⟨[w],by rw [hw];rfl,by simp⟩
   ·split at h
    ·cases h
    ·rename_i il sq;split at h
     ·cases h
     ·rename_i a r' he;obtain ⟨a2,pre,h4,_⟩:=i1 _ _ _ _ (fun k d out h=>by cases h) he;obtain ⟨BS,h5,_⟩:=i3 _ _ _ _ _ h;split at sq
      ·cases sq;exact ⟨a2::(pre++BS),by rw [h4,h5];simp,by simp⟩
      ·obtain ⟨w,hw,_,_⟩:=vD (by decide) sq;exact ⟨w::a2::(pre++BS),by rw [hw,h4,h5];simp,by simp⟩
theorem Ll {e:Int} {d:Nat} {ts r:List Tok} {t:T} (h:expr e d ts=.ok (t,r)):SJ ts r t:=(Sb e _).1 _ _ _ _ (fun k d out h=>by cases h) h
end Go.Xp
namespace Go.Im
open Go.Xp Go.Sp
def tt (p:RS):ai:=match p.l[p.i - 1]? with | some t=>t.s | none=>[]
def vK (p q:RS) (e:T):Prop:=e.n.kind=3/\q.code=0/\tt q=[93]/\e.n.at_=(tok p 0).at_/\(tok p 0).kind=2/\is q 0 [61]=true
instance (p q:RS) (e:T):Decidable (vK p q e):=by unfold vK;infer_instance
mutual
def iS:Nat->pU->RS->Option (T × RS)
 | 0,_,_=>none
 | f+1,.block d,p =>
  if (bG p d).code=0 then match iB f (d+1) [] (want p [123]) with
   | none=>none
   | some (l,q)=>some (one 14 (tok p 0).at_ [] l,want q [125])
  else some (one 14 (tok p 0).at_ [] [],bG p d)
 | f+1,.stmt d,p =>
  if (bG p d).code=0 then
   if is p 0 fX=true then match iE f (.expr (d+1)) (want (bg p.next) [61]) with
    | none=>none
    | some (e,q)=>some (one 13 (tok p 0).at_ (tok p.next 0).s [e],want q [59])
   else if is p 0 dE=true\/is p 0 df=true then match iE f (.expr (d+1)) (want p.next [40]) with
    | none=>none
    | some (c,q)=>match iS f (.block (d+1)) (want q [41]) with
     | none=>none
     | some (b,q) =>
      if is p 0 dE=true/\q.code=0/\is q 0 dW=true then match iS f (.block (d+1)) q.next with
       | none=>none
       | some (b2,q)=>some (one 9 (tok p 0).at_ [] [c,b,b2],q)
      else some (one (if is p 0 dE=true then 9 else 10) (tok p 0).at_ [] [c,b],q)
   else if is p 0 cY=true then match iE f (.expr (d+1)) p.next with
    | none=>none
    | some (e,q)=>some (one 11 (tok p 0).at_ [] [e],want q [59])
   else if (tok p 0).kind=2/\is p 1 [61]=true then match iE f (.expr (d+1)) (want (bg p) [61]) with
    | none=>none
    | some (e,q)=>some (one 7 (tok p 0).at_ (tok p 0).s [e],want q [59])
   else match iE f (.expr (d+1)) p with
    | none=>none
    | some (e,q) =>
     if vK p q e then match e.kids,iE f (.expr (d+1)) (want q [61]) with
      | a::_,some (v,q)=>some (one 8 (tok p 0).at_ e.n.s [a,v],want q [59])
      | _,_=>none
     else some (one 12 (tok p 0).at_ [] [e],want q [59])
  else some (T.zero,bG p d)
def iB:Nat->Nat->List T->RS->Option (List T × RS)
 | 0,_,_,_=>none
 | f+1,d,acc,p=>if p.code=0/\is p 0 [125]=false then match iS f (.stmt d) p with
   | none=>none
   | some (a,q)=>iB f d (acc++[a]) q
  else some (acc,p)
end
def KI (p:RS) (f:Nat):Nat:=f+20 * p.l.length+40
section
variable {p q:RS} {ts r:List Tok}
theorem Jv {d g:Nat} (hp:On p ts) (hg:20 * p.l.length+20<=g):∃ t q,(∀ g,20 * p.l.length+20<=g->iE g (.expr d) p=some (t,q))/\((∃ r,expr p.e d ts=.ok (t,r)/\bB p q (.ok r))\/(∃ x,expr p.e d ts=.error x/\bB p q (.error x))):=by
 have hl:ts.length<=p.l.length:=by rw [<-hp.rest,length_drop];omega
 have hf:rd p.e (20 * ts.length+12) (.expr d) ts≠.error aV:=x7 (j:=.expr d) trivial (Nat.le_refl _);obtain ⟨t,q,h1,h2⟩:=(ie _).expr d ts p hp hf;rw [Bp (Nat.le_refl _)] at h2;refine ⟨t,q,fun g hg=>h1 g (by omega),?_⟩
 cases he:expr p.e d ts with
 | error x=>rw [he] at h2;exact .inr ⟨x,rfl,h2⟩
 | ok y=>obtain ⟨t',r⟩:=y;rw [he] at h2;obtain ⟨rfl,h2⟩:=h2;exact .inl ⟨r,rfl,h2⟩
theorem Ju {d:Nat} {b:ai} (hp:On p ts) (hb:b≠[]):∃ t q,(∀ g,20 * p.l.length+20<=g->iE g (.expr d) p=some (t,q))/\((∃ r r',expr p.e d ts=.ok (t,r)/\Go.Xp.aI p.e b r=.ok r'/\bB p (want q b) (.ok r'))\/(∃ r x,expr p.e d ts=.ok (t,r)/\Go.Xp.aI p.e b r=.error x/\bB p (want q b) (.error x))\/(∃ x,expr p.e d ts=.error x/\bB p (want q b) (.error x))):=by
 obtain ⟨t,q,h1,h2⟩:=Jv (d:=d) hp (Nat.le_refl _);refine ⟨t,q,h1,?_⟩
 rcases h2 with ⟨r,h2,h3⟩ | ⟨x,h2,h3⟩
 ·rcases lk h3.1 hb with ⟨r',h4,h5⟩ | ⟨x,h4,h5⟩
  ·rw [h3.2.2] at h4;exact .inl ⟨r,r',h2,h4,h3.tr h5⟩
  ·rw [h3.2.2] at h4;exact .inr (.inl ⟨r,x,h2,h4,h3.tr h5⟩)
 ·exact .inr (.inr ⟨x,h2,by rw [ft h3.err];exact h3⟩)
theorem Mj {d:Nat} {a b:ai} (hp:On p ts) (ha:a≠[]) (hb:b≠[]):∃ t q,(∀ g,20 * p.l.length+20<=g->iE g (.expr d) (want p a)=some (t,q))/\((∃ r,inner p.e d a b ts=.ok (t,r)/\bB p (want q b) (.ok r))\/∃ x,inner p.e d a b ts=.error x/\bB p (want q b) (.error x)):=by
 unfold Go.Xp.inner
 rcases lk hp ha with ⟨r,h1,h2⟩ | ⟨x,h1,h2⟩
 ·rw [h1];obtain ⟨t,q,h3,h4⟩:=Ju (d:=d) (b:=b) h2.1 hb;rw [h2.2.2] at h4;rw [h2.2.1] at h3;refine ⟨t,q,h3,?_⟩;simp only
  rcases h4 with ⟨r,r',k1,k2,k3⟩ | ⟨r,x,k1,k2,k3⟩ | ⟨x,k1,k3⟩
  ·rw [k1];simp only;rw [k2];exact .inl ⟨r',rfl,h2.tr k3⟩
  ·rw [k1];simp only;rw [k2];exact .inr ⟨x,rfl,h2.tr (y:=.error x) k3⟩
  ·rw [k1];exact .inr ⟨x,rfl,h2.tr (y:=.error x) k3⟩
 ·rw [h1];exact ⟨T.zero,want p a,fun g hg=>ER h2.err (by omega),.inr ⟨x,rfl,by rw [ft h2.err];exact h2⟩⟩
theorem Mo {d:Nat} (hp:On p ts):∃ t q,(∀ g,20 * p.l.length+20<=g->iE g (.expr d) (want (bg p) [61])=some (t,q))/\((∃ r,kj p.e d ts=.ok (((tok p 0).s,t),r)/\bB p (want q [59]) (.ok r))\/∃ x,kj p.e d ts=.error x/\bB p (want q [59]) (.error x)):=by
 unfold Go.Xp.kj
 rcases sA hp with ⟨r,h1,h2⟩ | ⟨x,h1,h2⟩
 ·rw [h1];obtain ⟨t,q,h3,h4⟩:=Mj (d:=d) (a:=[61]) (b:=[59]) h2.1 (by decide) (by decide);rw [h2.2.2] at h4;rw [h2.2.1] at h3;refine ⟨t,q,h3,?_⟩;simp only
  rcases h4 with ⟨r,k1,k3⟩ | ⟨x,k1,k3⟩
  ·rw [k1];exact .inl ⟨r,rfl,h2.tr k3⟩
  ·rw [k1];exact .inr ⟨x,rfl,h2.tr (y:=.error x) k3⟩
 ·rw [h1];refine ⟨T.zero,bg p,fun g hg=>by rw [ft h2.err];exact ER h2.err (by omega),.inr ⟨x,rfl,by rw [ft h2.err];exact h2⟩⟩
theorem OU (h:p.code≠0) {g d:Nat} (hg:1<=g):iS g (.block d) p=some (one 14 (tok p 0).at_ [] [],p):=by
 obtain ⟨g,rfl⟩:∃ g',g=g'+1:=⟨g - 1,by omega⟩;rw [iS,zU h,if_neg h]
theorem On.srt (h:On p ts) (hs:rQ p.l):rQ ts:=by rw [<-h.rest];exact hs.drop
theorem On.last (h:On p ts) {pre r:List Tok} {w:Tok} (hq:bB p q (.ok r)) (ht:ts=(pre++[w])++r):tt q=w.s:=by
 have h1:p.l=p.l.take p.i++(pre++w::r):=by
  have:=List.take_append_drop p.i p.l;rw [h.rest,ht] at this;simp only [append_assoc,List.singleton_append,cons_append,nil_append] at this;exact this.symm
 have hr:=congrArg List.length hq.1.rest;have hl:=congrArg List.length h1;have hle:=hq.1.le;have cE:=h.le;rw [hq.2.1] at hr hle;simp only [length_drop,List.length_append,length_cons,length_take] at hr hl;unfold tt;rw [hq.2.1,h1,List.getElem?_append_right (by rw [length_take];omega),List.getElem?_append_right (by rw [length_take];omega)]
 have:q.i - 1 - (p.l.take p.i).length - pre.length=0:=by rw [length_take];omega
 rw [this];rfl
end
structure Yq (f:Nat):Prop where
 block:∀ d ts p,On p ts->rQ p.l->rs p.e f (.block d) ts≠.error aV->∃ t q,(∀ g,KI p f<=g->iS g (.block d) p=some (t,q))/\iy p q t (rs p.e f (.block d) ts)
 stmt:∀ d ts p,On p ts->rQ p.l->rs p.e f (.stmt d) ts≠.error aV->∃ t q,(∀ g,KI p f<=g->iS g (.stmt d) p=some (t,q))/\iy p q t (rs p.e f (.stmt d) ts)
 body:∀ d acc ts p,On p ts->rQ p.l->rs.body p.e f d acc ts≠.error aV->∃ t q,(∀ g,KI p f<=g->iB g d acc p=some (t,q))/\iy p (want q [125]) t (rs.body p.e f d acc ts)
theorem oa {p:RS} {f g:Nat} (h:KI p (f+1)<=g):∃ g',g=g'+1/\KI p f<=g'/\20 * p.l.length+20<=g':=⟨g - 1,by unfold KI at h;omega,by unfold KI at *;omega,by unfold KI at h;omega⟩
theorem Dt {p q:RS} (h:q.l=p.l) (f:Nat):KI q f=KI p f:=by unfold KI;rw [h]
theorem ZY (f:Nat):Yq f:=by
 induction f with
 | zero=>exact ⟨fun d ts p _ _ h=>absurd (by simp [rs]) h,fun d ts p _ _ h=>absurd (by simp [rs]) h,fun d acc ts p _ _ h=>absurd (by simp [rs.body]) h⟩
 | succ f C =>
  refine ⟨fun d ts p hp hs h=>?_,fun d ts p hp hs h=>?_,fun d acc ts p hp hs h=>?_⟩
  ·rw [rs] at h |-;have cE:=On.pB hp
   by_cases hd:d > 60
   ·rw [if_pos hd] at h |-;have hf:=hp.fail 9 (tok p 0).at_ (by decide);refine ⟨one 14 (tok p 0).at_ [] [],p.fail 9 (tok p 0).at_,fun g hg=>?_,by rw [<-cE];exact hf⟩;obtain ⟨g,rfl,kG,fQ⟩:=oa hg
    have fv:bG p d=p.fail 9 (tok p 0).at_:=by unfold bG;rw [if_pos hd]
    rw [iS,fv,if_neg hf.err]
   ·rw [if_neg hd] at h |-
    have fv:bG p d=p:=by unfold bG;rw [if_neg hd]
    rcases lk hp (s:=[123]) (by decide) with ⟨r,h1,h2⟩ | ⟨x,h1,h2⟩
    ·rw [h1] at h |-;simp only at h |-
     have hb:rs.body p.e f (d+1) [] r≠.error aV:=fun h0=>h (by rw [h0])
     rw [<-h2.2.2] at hb;obtain ⟨l,q,h3,h4⟩:=C.body (d+1) [] r (want p [123]) h2.1 (by rw [h2.2.1];exact hs) hb;rw [h2.2.2] at h4;rw [Dt h2.2.1] at h3;refine ⟨one 14 (tok p 0).at_ [] l,want q [125],fun g hg=>?_,?_⟩
     ·obtain ⟨g,rfl,kG,fQ⟩:=oa hg;rw [iS,fv,if_pos hp.code,h3 g (by omega)]
     ·cases he:rs.body p.e f (d+1) [] r with
      | error x=>rw [he] at h4;exact h2.tr (y:=.error x) h4
      | ok y=>obtain ⟨l',r'⟩:=y;rw [he] at h4;obtain ⟨rfl,h4⟩:=h4;rw [cE];exact ⟨rfl,h2.tr h4⟩
    ·rw [h1] at h |-;refine ⟨one 14 (tok p 0).at_ [] [],want p [123],fun g hg=>?_,h2⟩;obtain ⟨g,rfl,kG,fQ⟩:=oa hg;rw [iS,fv,if_pos hp.code];obtain ⟨g,rfl⟩:∃ g',g=g'+1:=⟨g - 1,by omega⟩;rw [iB,if_neg (fun h0=>h2.err h0.1)];simp only;rw [ft h2.err]
  ·rw [rs] at h |-;have cE:=On.pB hp
   by_cases hd:d > 60
   ·rw [if_pos hd] at h |-;have hf:=hp.fail 9 (tok p 0).at_ (by decide);refine ⟨T.zero,p.fail 9 (tok p 0).at_,fun g hg=>?_,by rw [<-cE];exact hf⟩;obtain ⟨g,rfl,kG,fQ⟩:=oa hg
    have fv:bG p d=p.fail 9 (tok p 0).at_:=by unfold bG;rw [if_pos hd]
    rw [iS,fv,if_neg hf.err]
   ·rw [if_neg hd] at h |-
    have fv:bG p d=p:=by unfold bG;rw [if_neg hd]
    have hi:∀ s:ai,s≠[]->is p 0 s=decide (sign ts 0=s):=fun s hs=>On.is hp 0 hs
    have yE:is p 1 [61]=decide (sign ts 1=[61]):=On.is hp 1 (by decide);simp only at h |-
    by_cases hv:sign ts 0=fX
    ·rw [if_pos hv]
     have sr:is p 0 fX=true:=by rw [hi _ (by decide)];simpa using hv
     obtain ⟨tv,xe,_⟩:=dh (by decide) hv;have hn:=hp;rw [xe] at hn
     have hn:=hn.next
     rw [show p.e=p.next.e from rfl];obtain ⟨t,q,h1,h2⟩:=Mo (d:=d+1) hn.1
     rcases h2 with ⟨r,h2,h3⟩ | ⟨x,h2,h3⟩
     ·rw [h2];refine ⟨one 13 (tok p 0).at_ (tok p.next 0).s [t],want q [59],fun g hg=>?_,by rw [cE];rfl,hn.tr h3⟩;obtain ⟨g,rfl,kG,fQ⟩:=oa hg;rw [iS,fv,if_pos hp.code,if_pos sr,h1 g fQ]
     ·rw [h2];refine ⟨one 13 (tok p 0).at_ (tok p.next 0).s [t],want q [59],fun g hg=>?_,hn.tr (y:=.error x) h3⟩;obtain ⟨g,rfl,kG,fQ⟩:=oa hg;rw [iS,fv,if_pos hp.code,if_pos sr,h1 g fQ]
    rw [if_neg hv] at h |-
    have sr:¬ is p 0 fX=true:=by rw [hi _ (by decide)];simpa using hv
    by_cases hc:sign ts 0=dE\/sign ts 0=df
    ·rw [if_pos hc] at h |-
     have nD:is p 0 dE=true\/is p 0 df=true:=by rw [hi _ (by decide),hi _ (by decide)];simpa using hc
     obtain ⟨tv,xe⟩:∃ t,ts=t::ts.tail:=by
      rcases hc with hc | hc
      ·obtain ⟨t,h1,_⟩:=dh (by decide) hc;exact ⟨t,h1⟩
      ·obtain ⟨t,h1,_⟩:=dh (by decide) hc;exact ⟨t,h1⟩
     have hn:=hp;rw [xe] at hn
     have hn:=hn.next
     have sd:(if is p 0 dE=true then (9:Int) else 10)=if sign ts 0=dE then 9 else 10:=by rw [hi _ (by decide)];simp
     obtain ⟨c,q,h1,h2⟩:=Mj (d:=d+1) (a:=[40]) (b:=[41]) hn.1 (by decide) (by decide)
     rcases h2 with ⟨r,h2,h3⟩ | ⟨x,h2,h3⟩
     ·rw [show p.next.e=p.e from rfl] at h2;rw [h2] at h |-;simp only at h |-;have h3:=hn.tr h3
      have hb:rs p.e f (.block (d+1)) r≠.error aV:=fun h0=>h (by rw [h0])
      rw [<-h3.2.2] at hb;obtain ⟨b,q2,h4,h5⟩:=C.block (d+1) r (want q [41]) h3.1 (by rw [h3.2.1];exact hs) hb;rw [h3.2.2] at h5;rw [Dt h3.2.1] at h4
      cases he:rs p.e f (.block (d+1)) r with
      | error x =>
       rw [he] at h5;refine ⟨one (if is p 0 dE=true then 9 else 10) (tok p 0).at_ [] [c,b],q2,fun g hg=>?_,h3.tr (y:=.error x) h5⟩;obtain ⟨g,rfl,kG,fQ⟩:=oa hg;rw [iS,fv,if_pos hp.code,if_neg sr,if_pos nD,h1 g fQ];simp only;rw [h4 g kG];simp only;rw [if_neg (fun h0=>bB.err h5 h0.2.1)]
      | ok y =>
       obtain ⟨b',r2⟩:=y;rw [he] at h5 h;obtain ⟨rfl,h5⟩:=h5;simp only at h |-;have h5:=h3.tr h5;have iC:is q2 0 dW=decide (sign r2 0=dW):=On.is h5.1 0 (by decide)
       by_cases Eu:sign ts 0=dE
       ·rw [if_pos Eu] at h sd |-
        have OM:is p 0 dE=true:=by rw [hi _ (by decide)];simpa using Eu
        by_cases eP:sign r2 0=dW
        ·rw [if_pos eP] at h |-;obtain ⟨te,Mf,_⟩:=dh (by decide) eP;have bJ:=h5.1;rw [Mf] at bJ
         have bJ:=h5.tr bJ.next
         have hb:rs p.e f (.block (d+1)) r2.tail≠.error aV:=fun h0=>h (by rw [h0])
         rw [<-bJ.2.2] at hb
         obtain ⟨b2,q3,h6,h7⟩:=C.block (d+1) r2.tail q2.next bJ.1 (by rw [bJ.2.1];exact hs) hb
         rw [bJ.2.2] at h7;rw [Dt bJ.2.1] at h6;refine ⟨one 9 (tok p 0).at_ [] [c,b,b2],q3,fun g hg=>?_,?_⟩
         ·obtain ⟨g,rfl,kG,fQ⟩:=oa hg;rw [iS,fv,if_pos hp.code,if_neg sr,if_pos nD,h1 g fQ];simp only;rw [h4 g kG];simp only;rw [if_pos ⟨OM,h5.1.code,by rw [iC];simpa using eP⟩,h6 g kG]
         ·cases oH:rs p.e f (.block (d+1)) r2.tail with
          | error x=>rw [oH] at h7;exact bJ.tr (y:=.error x) h7
          | ok y=>obtain ⟨b3,r3⟩:=y;rw [oH] at h7;obtain ⟨rfl,h7⟩:=h7;exact ⟨by rw [cE],bJ.tr h7⟩
        ·rw [if_neg eP];refine ⟨one (if is p 0 dE=true then 9 else 10) (tok p 0).at_ [] [c,b],q2,fun g hg=>?_,by rw [sd,cE],h5⟩;obtain ⟨g,rfl,kG,fQ⟩:=oa hg;rw [iS,fv,if_pos hp.code,if_neg sr,if_pos nD,h1 g fQ];simp only;rw [h4 g kG];simp only;rw [if_neg (fun h0=>by have:=h0.2.2;rw [iC] at this;exact eP (by simpa using this))]
       ·rw [if_neg Eu] at sd |-
        have OM:¬ is p 0 dE=true:=by rw [hi _ (by decide)];simpa using Eu
        refine ⟨one (if is p 0 dE=true then 9 else 10) (tok p 0).at_ [] [c,b],q2,fun g hg=>?_,by rw [sd,cE],h5⟩;obtain ⟨g,rfl,kG,fQ⟩:=oa hg;rw [iS,fv,if_pos hp.code,if_neg sr,if_pos nD,h1 g fQ];simp only;rw [h4 g kG];simp only;rw [if_neg (fun h0=>OM h0.1)]
     ·rw [show p.next.e=p.e from rfl] at h2;rw [h2] at h |-;have h3:=hn.tr (y:=.error x) h3;refine ⟨one (if is p 0 dE=true then 9 else 10) (tok p 0).at_ [] [c,one 14 (tok (want q [41]) 0).at_ [] []],want q [41],fun g hg=>?_,h3⟩;obtain ⟨g,rfl,kG,fQ⟩:=oa hg;rw [iS,fv,if_pos hp.code,if_neg sr,if_pos nD,h1 g fQ];simp only;rw [OU h3.err (by omega)];simp only;rw [if_neg (fun h0=>h3.err h0.2.1)]
    rw [if_neg hc] at h |-
    have nD:¬ (is p 0 dE=true\/is p 0 df=true):=by rw [hi _ (by decide),hi _ (by decide)];simpa using hc
    by_cases hr:sign ts 0=cY
    ·rw [if_pos hr]
     have wh:is p 0 cY=true:=by rw [hi _ (by decide)];simpa using hr
     obtain ⟨tv,xe,_⟩:=dh (by decide) hr;have hn:=hp;rw [xe] at hn
     have hn:=hn.next
     obtain ⟨t,q,h1,h2⟩:=Ju (d:=d+1) (b:=[59]) hn.1 (by decide);rw [show p.next.e=p.e from rfl] at h2;refine ⟨one 11 (tok p 0).at_ [] [t],want q [59],fun g hg=>?_,?_⟩
     ·obtain ⟨g,rfl,kG,fQ⟩:=oa hg;rw [iS,fv,if_pos hp.code,if_neg sr,if_neg nD,if_pos wh,h1 g fQ]
     ·rcases h2 with ⟨r,r',h2,h3,h4⟩ | ⟨r,x,h2,h3,h4⟩ | ⟨x,h2,h4⟩
      ·rw [h2];simp only;rw [h3];exact ⟨by rw [cE],hn.tr h4⟩
      ·rw [h2];simp only;rw [h3];exact hn.tr (y:=.error x) h4
      ·rw [h2];exact hn.tr (y:=.error x) h4
    rw [if_neg hr] at h |-
    have wh:¬ is p 0 cY=true:=by rw [hi _ (by decide)];simpa using hr
    cases ts with
    | nil =>
     have ht:tok p 0=⟨0,0,[],p.e⟩:=by rw [On.tok hp];rfl
     have j0:¬ ((tok p 0).kind=2/\is p 1 [61]=true):=fun hx=>by have:=hx.1;rw [ht] at this;simp at this
     obtain ⟨t,q,h1,h2⟩:=Jv (d:=d+1) hp (Nat.le_refl _)
     rcases h2 with ⟨r,h2,h3⟩ | ⟨x,h2,h3⟩
     ·exact absurd h2 (MX _ _ _ (fun k d out h=>by cases h) _ _)
     ·have jZ:¬ vK p q t:=fun h0=>h3.err h0.2.1
      refine ⟨one 12 (tok p 0).at_ [] [t],want q [59],fun g hg=>?_,by unfold simple;rw [h2,ft h3.err];exact h3⟩;obtain ⟨g,rfl,kG,fQ⟩:=oa hg;rw [iS,fv,if_pos hp.code,if_neg sr,if_neg nD,if_neg wh,if_neg j0,h1 g fQ];simp only;rw [if_neg jZ]
    | cons a r0 =>
     simp only [simple] at h |-
     have ht:tok p 0=a:=by rw [On.tok hp];rfl
     by_cases b8:a.kind=2/\sign (a::r0) 1=[61]
     ·rw [if_pos b8];have j0:(tok p 0).kind=2/\is p 1 [61]=true:=⟨by rw [ht];exact b8.1,by rw [yE];simpa using b8.2⟩;obtain ⟨t,q,h1,h2⟩:=Mo (d:=d+1) hp
      rcases h2 with ⟨r,h2,h3⟩ | ⟨x,h2,h3⟩
      ·rw [h2];refine ⟨one 7 (tok p 0).at_ (tok p 0).s [t],want q [59],fun g hg=>?_,by rw [cE];rfl,h3⟩;obtain ⟨g,rfl,kG,fQ⟩:=oa hg;rw [iS,fv,if_pos hp.code,if_neg sr,if_neg nD,if_neg wh,if_pos j0,h1 g fQ]
      ·rw [h2];refine ⟨one 7 (tok p 0).at_ (tok p 0).s [t],want q [59],fun g hg=>?_,h3⟩;obtain ⟨g,rfl,kG,fQ⟩:=oa hg;rw [iS,fv,if_pos hp.code,if_neg sr,if_neg nD,if_neg wh,if_pos j0,h1 g fQ]
     ·rw [if_neg b8]
      have j0:¬ ((tok p 0).kind=2/\is p 1 [61]=true):=fun hx=>b8 ⟨by rw [<-ht];exact hx.1,by have:=hx.2;rw [yE] at this;simpa using this⟩
      obtain ⟨t,q,h1,h2⟩:=Jv (d:=d+1) hp (Nat.le_refl _)
      rcases h2 with ⟨r,h2,h3⟩ | ⟨x,h2,h3⟩
      ·rw [h2];simp only;have iC:is q 0 [61]=decide (sign r 0=[61]):=On.is h3.1 0 (by decide)
       by_cases hput:t.n.kind=3/\t.n.at_=a.at_/\sign r 0=[61]
       ·rw [if_pos hput];obtain ⟨a',pre,ZM,QH⟩:=Ll h2;cases ZM;obtain ⟨qJ,UN,w,EL,n5⟩:=(QH (On.srt hp hs)).2 hput.1 hput.2.1
        have VK:tt q=[93]:=by rw [<-n5];exact On.last hp h3 (by rw [<-EL];rfl)
        have jZ:vK p q t:=⟨hput.1,h3.1.code,VK,by rw [ht];exact hput.2.1,by rw [ht];exact qJ,by rw [iC];simpa using hput.2.2⟩;obtain ⟨ix,w7⟩:=MW _ _ _ _ _ _ (fun k d out hj=>by cases hj) h2 hput.1
        have jn:Go.Xp.aI p.e [61] r=.ok r.tail:=by unfold Go.Xp.aI;rw [if_pos hput.2.2]
        have W1:=On.want h3.1 (s:=[61]) (by decide);rw [h3.2.2,jn] at W1;have hn:=h3.tr W1;obtain ⟨v,q2,h4,h5⟩:=Ju (d:=d+1) (b:=[59]) hn.1 (by decide);rw [hn.2.2] at h5;rw [hn.2.1] at h4;refine ⟨one 8 (tok p 0).at_ t.n.s [ix,v],want q2 [59],fun g hg=>?_,?_⟩
        ·obtain ⟨g,rfl,kG,fQ⟩:=oa hg;rw [iS,fv,if_pos hp.code,if_neg sr,if_neg nD,if_neg wh,if_neg j0,h1 g fQ];simp only;rw [if_pos jZ,w7,h4 g fQ]
        ·unfold Go.Xp.inner;rw [jn];simp only
         rcases h5 with ⟨r2,r',h2,h3,h4⟩ | ⟨r2,x,h2,h3,h4⟩ | ⟨x,h2,h4⟩
         ·rw [h2];simp only;rw [h3];exact ⟨by rw [ht,w7];rfl,hn.tr h4⟩
         ·rw [h2];simp only;rw [h3];exact hn.tr (y:=.error x) h4
         ·rw [h2];exact hn.tr (y:=.error x) h4
       ·rw [if_neg hput]
        have jZ:¬ vK p q t:=fun h0=>hput ⟨h0.1,by rw [<-ht];exact h0.2.2.2.1,by have:=h0.2.2.2.2.2;rw [iC] at this;simpa using this⟩
        refine ⟨one 12 (tok p 0).at_ [] [t],want q [59],fun g hg=>?_,?_⟩
        ·obtain ⟨g,rfl,kG,fQ⟩:=oa hg;rw [iS,fv,if_pos hp.code,if_neg sr,if_neg nD,if_neg wh,if_neg j0,h1 g fQ];simp only;rw [if_neg jZ]
        ·rcases lk h3.1 (s:=[59]) (by decide) with ⟨r',h4,h5⟩ | ⟨x,h4,h5⟩
         ·rw [h3.2.2] at h4;rw [h4];exact ⟨by rw [ht],h3.tr h5⟩
         ·rw [h3.2.2] at h4;rw [h4];exact h3.tr (y:=.error x) h5
      ·rw [h2]
       have jZ:¬ vK p q t:=fun h0=>h3.err h0.2.1
       refine ⟨one 12 (tok p 0).at_ [] [t],want q [59],fun g hg=>?_,by rw [ft h3.err];exact h3⟩;obtain ⟨g,rfl,kG,fQ⟩:=oa hg;rw [iS,fv,if_pos hp.code,if_neg sr,if_neg nD,if_neg wh,if_neg j0,h1 g fQ];simp only;rw [if_neg jZ]
  ·rw [rs.body] at h |-;have hi:is p 0 [125]=decide (sign ts 0=[125]):=On.is hp 0 (by decide)
   by_cases hb:sign ts 0=[125]
   ·rw [if_pos hb];have hm:=On.want hp (s:=[125]) (by decide);unfold Go.Xp.aI at hm;rw [if_pos hb] at hm;refine ⟨acc,p,fun g hg=>?_,rfl,hm⟩;obtain ⟨g,rfl,kG,fQ⟩:=oa hg;rw [iB,if_neg (fun h0=>by have:=h0.2;rw [hi] at this;simp [hb] at this)]
   ·rw [if_neg hb] at h |-
    have b6:rs p.e f (.stmt d) ts≠.error aV:=fun h0=>h (by rw [h0])
    obtain ⟨a,q,h1,h2⟩:=C.stmt d ts p hp hs b6;have hc:p.code=0/\is p 0 [125]=false:=⟨hp.code,by rw [hi];simpa using hb⟩
    cases he:rs p.e f (.stmt d) ts with
    | error x =>
     rw [he] at h2 h;refine ⟨acc++[a],q,fun g hg=>?_,by rw [ft (bB.err h2)];exact h2⟩;obtain ⟨g,rfl,kG,fQ⟩:=oa hg;rw [iB,if_pos hc,h1 g kG];simp only;obtain ⟨g,rfl⟩:∃ g',g=g'+1:=⟨g - 1,by omega⟩;rw [iB,if_neg (fun h0=>bB.err h2 h0.1)]
    | ok y =>
     obtain ⟨a',r⟩:=y;rw [he] at h2 h;obtain ⟨rfl,h2⟩:=h2;simp only at h |-;rw [<-h2.2.2] at h |-;obtain ⟨l,q3,h3,h4⟩:=C.body d (acc++[a]) r q h2.1 (by rw [h2.2.1];exact hs) h;rw [Dt h2.2.1] at h3;refine ⟨l,q3,fun g hg=>?_,iy.tr h2 h4⟩;obtain ⟨g,rfl,kG,fQ⟩:=oa hg;rw [iB,if_pos hc,h1 g kG];exact h3 g kG
end Go.Im
namespace Go.Im
open Go.Xp Go.Sp
section
variable {p q:RS}
theorem qX {k:Nat} (h:(tok p k).kind≠0):p.i+k < p.l.length:=by
 unfold tok at h
 refine Nat.lt_of_not_le fun hn=>?_
 rw [List.getElem?_eq_none_iff.2 hn] at h;exact h rfl
theorem is_lt {k:Nat} {s:ai} (h:is p k s=true):p.i+k < p.l.length:=by
 unfold is at h;rw [Bool.and_eq_true] at h;exact qX (by have:=h.1;simp at this;omega)
theorem iZ {s:ai} (h:is p 0 s=true):p.to p.next:=di (is_lt h)
theorem vQ (hp:p.ok):p.to (jB p):=lg hp _ _
theorem bY (hp:p.ok) (s:ai):p.to (want p s):=by
 unfold want;split
 ·split
  ·rename_i h;exact iZ h
  ·exact vQ hp
 ·exact ji hp
theorem gx (hp:p.ok):p.to (bg p):=by
 unfold bg;split
 ·split
  ·rename_i h;split
   ·exact lg hp _ _
   ·exact di (qX (k:=0) (by omega))
  ·exact vQ hp
 ·exact ji hp
theorem tE (hp:p.ok) (d:Nat):p.to (bG p d):=by
 unfold bG;split
 ·exact lg hp _ _
 ·exact ji hp
theorem nU {d:Nat} (h:(bG p d).code=0):bG p d=p:=by
 unfold bG at h |-;split at h
 ·unfold RS.fail at h;split at h
  ·cases h
  ·rename_i hd hc;exact absurd h hc
 ·rename_i hd;rw [if_neg hd]
end
theorem iG:∀ (f:Nat),(∀ j p t q,p.ok->iE f j p=some (t,q)->p.to q)/\(∀ d acc p l q,p.ok->iA f d acc p=some (l,q)->p.to q)
 | 0=>⟨fun j p t q _ h=>by simp [iE] at h,fun d acc p l q _ h=>by simp [iA] at h⟩
 | f+1=>by
  obtain ⟨h1,h2⟩:=iG f;refine ⟨fun j p t q hp h=>?_,fun d acc p l q hp h=>?_⟩
  ·cases j with
   | expr d =>
    rw [iE] at h;have hd:=tE hp d;split at h
    ·exact hd.trans (h1 _ _ _ _ (hd.ok hp) h)
    ·cases h;exact hd
   | level k d =>
    rw [iE] at h;split at h
    ·exact h1 _ _ _ _ hp h
    ·split at h
     ·cases h
     ·rename_i out p' he;have:=h1 _ _ _ _ hp he;exact this.trans (h1 _ _ _ _ (this.ok hp) h)
   | loop k d out =>
    rw [iE] at h;split at h
    ·rename_i hc;have hn:=di (p:=p) (qX (k:=0) (by have:=hc.2.1;omega));split at h
     ·cases h
     ·rename_i b p' he;have:=hn.trans (h1 _ _ _ _ (hn.ok hp) he);exact this.trans (h1 _ _ _ _ (this.ok hp) h)
    ·cases h;exact ji hp
   | operand d =>
    rw [iE] at h;split at h
    ·split at h
     ·rename_i hc
      have hn:p.to p.next:=by rcases hc with hc | hc | hc <;> exact iZ hc
      split at h
      ·cases h
      ·rename_i a p' he
       cases h;exact hn.trans (h1 _ _ _ _ (hn.ok hp) he)
     ·split at h
      ·rename_i hk
       cases h;exact di (qX (k:=0) (by omega))
      ·split at h
       ·rename_i hc;have hn:=iZ hc;split at h
        ·cases h
        ·rename_i a p' he;have:=hn.trans (h1 _ _ _ _ (hn.ok hp) he)
         cases h;exact this.trans (bY (this.ok hp) _)
       ·have hn:=gx hp;split at h
        ·split at h
         ·rename_i hc;have bJ:=hn.trans (iZ hc);split at h
          ·cases h
          ·rename_i a p' he;have:=bJ.trans (h1 _ _ _ _ (bJ.ok hp) he)
           cases h;exact this.trans (bY (this.ok hp) _)
         ·split at h
          ·rename_i hc;have bJ:=hn.trans (iZ hc);split at h
           ·cases h
           ·rename_i a p' he
            cases h;exact bJ.trans (h2 _ _ _ _ _ (bJ.ok hp) he)
          ·cases h;exact hn
        ·cases h;exact hn
    ·cases h;exact tE hp d
  ·rw [iA] at h;split at h
   ·have hn:p.to (if acc.length=0 then p else want p [44]):=by
     split
     ·exact ji hp
     ·exact bY hp _
    split at h
    ·cases h
    ·rename_i a p' he;have:=hn.trans (h1 _ _ _ _ (hn.ok hp) he);exact this.trans (h2 _ _ _ _ _ (this.ok hp) h)
   ·cases h;exact bY hp _
theorem Dz:∀ (f:Nat),(∀ j p t q,p.ok->iS f j p=some (t,q)->p.to q)/\(∀ d acc p l q,p.ok->iB f d acc p=some (l,q)->p.to q)
 | 0=>⟨fun j p t q _ h=>by simp [iS] at h,fun d acc p l q _ h=>by simp [iB] at h⟩
 | f+1=>by
  obtain ⟨h1,h2⟩:=Dz f;have w6:=(iG f).1;refine ⟨fun j p t q hp h=>?_,fun d acc p l q hp h=>?_⟩
  ·cases j with
   | block d =>
    rw [iS] at h;split at h
    ·have hm:=bY hp [123];split at h
     ·cases h
     ·rename_i l p' he;have:=hm.trans (h2 _ _ _ _ _ (hm.ok hp) he)
      cases h;exact this.trans (bY (this.ok hp) _)
    ·cases h;exact tE hp d
   | stmt d =>
    rw [iS] at h;split at h
    ·split at h
     ·rename_i hs;have hn:=iZ hs;have eD:=hn.trans (gx (hn.ok hp));have jn:=eD.trans (bY (eD.ok hp) [61]);split at h
      ·cases h
      ·rename_i e p' he;have:=jn.trans (w6 _ _ _ _ (jn.ok hp) he)
       cases h;exact this.trans (bY (this.ok hp) _)
     ·split at h
      ·rename_i hs
       have hn:p.to p.next:=by rcases hs with hs | hs <;> exact iZ hs
       have jn:=hn.trans (bY (hn.ok hp) [40]);split at h
       ·cases h
       ·rename_i e p' he;have:=jn.trans (w6 _ _ _ _ (jn.ok hp) he);have Ey:=this.trans (bY (this.ok hp) [41]);split at h
        ·cases h
        ·rename_i b p2 hb;have eC:=Ey.trans (h1 _ _ _ _ (Ey.ok hp) hb);split at h
         ·rename_i hc;have bJ:=eC.trans (iZ hc.2.2);split at h
          ·cases h
          ·rename_i b2 p3 wW
           cases h;exact bJ.trans (h1 _ _ _ _ (bJ.ok hp) wW)
         ·cases h;exact eC
      ·split at h
       ·rename_i hs;have hn:=iZ hs;split at h
        ·cases h
        ·rename_i e p' he;have:=hn.trans (w6 _ _ _ _ (hn.ok hp) he)
         cases h;exact this.trans (bY (this.ok hp) _)
       ·split at h
        ·have eD:=gx hp;have jn:=eD.trans (bY (eD.ok hp) [61]);split at h
         ·cases h
         ·rename_i e p' he;have:=jn.trans (w6 _ _ _ _ (jn.ok hp) he)
          cases h;exact this.trans (bY (this.ok hp) _)
        ·split at h
         ·cases h
         ·rename_i e p' he;have hx:=w6 _ _ _ _ hp he;split at h
          ·have hn:=hx.trans (bY (hx.ok hp) [61]);split at h
           ·rename_i a r v p2 hk oH;have:=hn.trans (w6 _ _ _ _ (hn.ok hp) oH)
            cases h;exact this.trans (bY (this.ok hp) _)
           ·cases h
          ·cases h;exact hx.trans (bY (hx.ok hp) _)
    ·cases h;exact tE hp d
  ·rw [iB] at h;split at h
   ·split at h
    ·cases h
    ·rename_i a p' he;have:=h1 _ _ _ _ hp he;exact this.trans (h2 _ _ _ _ _ (this.ok hp) h)
   ·cases h;exact ji hp
end Go.Im
namespace Go.Im
open Go.Xp Go.Sp
theorem uI (p:RS):p.next.i=p.i+1:=rfl
theorem Uo:∀ (f:Nat) j p t q,p.ok->iE f j p=some (t,q)->q.code=0->(∀ k d out,j≠.loop k d out)->p.i < q.i:=by
 intro f
 induction f with
 | zero=>intro j p t q _ h;simp [iE] at h
 | succ f ih =>
  intro j p t q hp h hq hj
  cases j with
  | loop k d out=>exact absurd rfl (hj k d out)
  | expr d =>
   rw [iE] at h;split at h
   ·rename_i hc;rw [nU hc] at h;exact ih _ _ _ _ hp h hq (fun k d out h=>by cases h)
   ·rename_i hc;cases h;exact absurd hq hc
  | level k d =>
   rw [iE] at h;split at h
   ·exact ih _ _ _ _ hp h hq (fun k d out h=>by cases h)
   ·split at h
    ·cases h
    ·rename_i out p' he;have kH:=(iG f).1 _ _ _ _ hp he
     have ar:p'.code=0:=by
      by_cases hc:p'.code=0
      ·exact hc
      ·cases f with
       | zero=>simp [iE] at h
       | succ f =>
        rw [iE,if_neg (fun h0=>hc h0.1)] at h
        cases h;exact hq
     have h1:=ih _ _ _ _ hp he ar (fun k d out h=>by cases h);have h2:=(iG f).1 _ _ _ _ (kH.ok hp) h;have:=h2.2.2.2;omega
  | operand d =>
   rw [iE] at h;split at h
   ·split at h
    ·rename_i hc
     have hn:p.to p.next:=by rcases hc with hc | hc | hc <;> exact iZ hc
     split at h
     ·cases h
     ·rename_i a p' he;cases h;have:=((iG f).1 _ _ _ _ (hn.ok hp) he).2.2.2;rw [uI] at this;omega
    ·split at h
     ·cases h;rw [uI];omega
     ·split at h
      ·rename_i hc;have hn:=iZ hc;split at h
       ·cases h
       ·rename_i a p' he;cases h;have h1:=(iG f).1 _ _ _ _ (hn.ok hp) he;have h2:=(bY ((h1.ok (hn.ok hp))) [41]).2.2.2;have:=h1.2.2.2;rw [uI] at this;omega
      ·have hn:=gx hp;split at h
       ·rename_i gE
        have ar:p.i < (bg p).i:=by
         unfold bg at gE |-;split at gE
         ·rename_i h0;split at gE
          ·rename_i h2;split at gE
           ·unfold RS.fail at gE;rw [if_pos h0] at gE;cases gE
           ·rename_i hl;rw [if_pos h0,if_pos h2,if_neg hl,uI];omega
          ·unfold jB RS.fail at gE;rw [if_pos h0] at gE;cases gE
         ·rename_i h0;exact absurd gE h0
        split at h
        ·rename_i hc;have bJ:=hn.trans (iZ hc);split at h
         ·cases h
         ·rename_i a p' he;cases h;have h1:=(iG f).1 _ _ _ _ (bJ.ok hp) he;have h2:=(bY ((h1.ok (bJ.ok hp))) [93]).2.2.2;have:=h1.2.2.2;rw [uI] at this;omega
        ·split at h
         ·rename_i hc;have bJ:=hn.trans (iZ hc);split at h
          ·cases h
          ·rename_i a p' he;cases h;have:=((iG f).2 _ _ _ _ _ (bJ.ok hp) he).2.2.2;rw [uI] at this;omega
         ·cases h;exact ar
       ·rename_i gE;cases h;exact absurd hq gE
   ·rename_i hc;cases h;exact absurd hq hc
end Go.Im
namespace Go.Xp
mutual
def aO:T->Nat
 | .mk _ l=>az l+1
def az:List T->Nat
 | []=>0
 | t::r=>aO t+az r
end
def bQ:Nat->List T->List Int
 | _,[]=>[]
 | n,t::r=>(n:Int)::bQ (n+aO t) r
mutual
def ln:Nat->T->List Nd
 | n,.mk nd l=>⟨nd.kind,nd.at_,nd.n,nd.s,bQ (n+1) l⟩::dV (n+1) l
def dV:Nat->List T->List Nd
 | _,[]=>[]
 | n,t::r=>ln n t++dV (n+aO t) r
end
theorem dX (t:T):aO t=az t.kids+1:=by cases t;rw [aO];rfl
theorem Lp (n:Nat) (t:T):ln n t=⟨t.n.kind,t.n.at_,t.n.n,t.n.s,bQ (n+1) t.kids⟩::dV (n+1) t.kids:=by cases t;rw [ln];rfl
theorem l7 (a b:List T):az (a++b)=az a+az b:=by
 induction a with
 | nil=>simp [az]
 | cons t a ih=>simp only [cons_append,az,ih];omega
theorem Jy (a b:List T) (n:Nat):bQ n (a++b)=bQ n a++bQ (n+az a) b:=by
 induction a generalizing n with
 | nil=>simp [bQ,az]
 | cons t a ih=>simp only [cons_append,bQ,az,ih,Nat.add_assoc]
theorem Hx (a b:List T) (n:Nat):dV n (a++b)=dV n a++dV (n+az a) b:=by
 induction a generalizing n with
 | nil=>simp [dV,az]
 | cons t a ih=>simp only [cons_append,dV,az,ih,Nat.add_assoc,append_assoc]
theorem dQ (a:List T) (n:Nat):(bQ n a).length=a.length:=by
 induction a generalizing n with
 | nil=>rfl
 | cons t a ih=>simp [bQ,ih]
theorem Lq:∀ (N:Nat),(∀ t:T,aO t<=N->∀ n,(ln n t).length=aO t)/\(∀ l:List T,az l<=N->∀ n,(dV n l).length=az l):=by
 intro N
 induction N with
 | zero =>
  refine ⟨fun t h=>by rw [dX] at h;omega,fun l h n=>?_⟩
  cases l with
  | nil=>rfl
  | cons t l=>rw [az,dX] at h;omega
 | succ N ih =>
  have h1:∀ t:T,aO t<=N+1->∀ n,(ln n t).length=aO t:=fun t h n=>by
   rw [dX] at h;rw [Lp,dX,length_cons,ih.2 _ (by omega)]
  refine ⟨h1,fun l=>?_⟩
  induction l with
  | nil=>intro _ n;rfl
  | cons t l ih2 =>
   intro h n;rw [az] at h;rw [dV,List.length_append,h1 t (by omega),ih2 (by omega),az]
theorem Hy (t:T) (n:Nat):(ln n t).length=aO t:=(Lq (aO t)).1 t (Nat.le_refl _) n
theorem xO (l:List T) (n:Nat):(dV n l).length=az l:=(Lq (az l)).2 l (Nat.le_refl _) n
theorem tS (l:List T) (k:Nat):az (l.take k)<=az l:=by
 have:az l=az (l.take k)+az (l.drop k):=by rw [<-l7,List.take_append_drop]
 omega
theorem tU {l:List T} {k:Nat} {t:T} (h:l[k]?=some t):az (l.take (k+1))=az (l.take k)+aO t:=by
 have:l.take (k+1)=l.take k++[t]:=by rw [List.take_add_one,h];rfl
 rw [this,l7,az,az];rfl
theorem cx (l:List T):l.length<=az l:=by
 induction l with
 | nil=>simp
 | cons t l ih=>rw [az,dX,length_cons];omega
end Go.Xp
namespace Go.Xp
open Go.Sp (bh ej)
abbrev K:=Int × Int × ai
def kf (t:Tok):K:=(t.kind,t.n,t.s)
abbrev kS (s:ai):K:=(3,0,s)
abbrev kN (s:ai):K:=(2,0,s)
abbrev kI (n:Int):K:=(1,n,[])
inductive E where
 | num (n:Int)
 | name (s:ai)
 | at_ (s:ai) (a:E)
 | call (s:ai) (l:List E)
 | un (s:ai) (a:E)
 | bin (s:ai) (a b:E)
def dF (s:ai):Nat:=(levels.findIdx? fun l=>l.contains s).getD 9
def E.lv:E->Nat
 | .bin s _ _=>dF s
 | _=>9
def brk (lv k:Nat) (x:List K):List K:=if lv < k then kS [40]::(x++[kS [41]]) else x
mutual
def E.tk:E->List K
 | .num n=>[kI n]
 | .name s=>[kN s]
 | .at_ s a=>kN s::kS [91]::(a.tk++[kS [93]])
 | .call s l=>kN s::kS [40]::(E.lV l++[kS [41]])
 | .un s a=>kS s::brk a.lv 9 a.tk
 | .bin s a b=>brk a.lv (dF s) a.tk++kS s::brk b.lv (dF s+1) b.tk
def E.lV:List E->List K
 | []=>[]
 | a::l=>a.tk++E.pz l
def E.pz:List E->List K
 | []=>[]
 | a::l=>kS [44]::(a.tk++E.pz l)
end
mutual
def E.tree:E->T
 | .num n=>.mk ⟨1,0,n,[],[]⟩ []
 | .name s=>.mk ⟨2,0,0,s,[]⟩ []
 | .at_ s a=>.mk ⟨3,0,0,s,[]⟩ [a.tree]
 | .call s l=>.mk ⟨4,0,0,s,[]⟩ (E.trees l)
 | .un s a=>.mk ⟨5,0,0,s,[]⟩ [a.tree]
 | .bin s a b=>.mk ⟨6,0,0,s,[]⟩ [a.tree,b.tree]
def E.trees:List E->List T
 | []=>[]
 | a::l=>a.tree::E.trees l
end
def Hg (lv k d:Nat) (f:Nat->Bool):Bool:=if lv < k then decide (d<=60)&&decide (d+1<=60)&&f (d+2) else f d
mutual
def E.fit:E->Nat->Bool
 | .num _,d=>decide (d<=60)
 | .name _,d=>decide (d<=60)
 | .at_ _ a,d=>decide (d<=60)&&decide (d+1<=60)&&a.fit (d+2)
 | .call _ l,d=>decide (d<=60)&&E.fits l (d+1)
 | .un _ a,d=>decide (d<=60)&&(if a.lv < 9 then decide (d+1<=60)&&decide (d+2<=60)&&a.fit (d+3) else a.fit (d+1))
 | .bin s a b,d=>(if a.lv < dF s then decide (d<=60)&&decide (d+1<=60)&&a.fit (d+2) else a.fit d)&&(if b.lv < dF s+1 then decide (d<=60)&&decide (d+1<=60)&&b.fit (d+2) else b.fit d)
def E.fits:List E->Nat->Bool
 | [],_=>true
 | a::l,d=>decide (d<=60)&&a.fit (d+1)&&E.fits l d
end
mutual
def E.ok:E->Bool
 | .num n=>decide (0<=n)&&decide (n<=2147483647)
 | .name s=>bh s
 | .at_ s a=>bh s&&a.ok
 | .call s l=>bh s&&E.cH l
 | .un s a=>(s==[45] || s==[33] || s==[126])&&a.ok
 | .bin s a b=>ej s&&a.ok&&b.ok
def E.cH:List E->Bool
 | []=>true
 | a::l=>a.ok&&E.cH l
end
mutual
def er:T->T
 | .mk n l=>.mk ⟨n.kind,0,n.n,n.s,[]⟩ (aL l)
def aL:List T->List T
 | []=>[]
 | t::l=>er t::aL l
end
theorem Hr (l k:List T):aL (l++k)=aL l++aL k:=by
 induction l with
 | nil=>rfl
 | cons t l ih=>simp [aL,ih]
theorem rG (l:List T):aL l=l.map er:=by
 induction l with
 | nil=>rfl
 | cons t l ih=>simp [aL,ih]
theorem dx (k a:Int) (s:ai) (l:List T):er (one k a s l)=.mk ⟨k,0,0,s,[]⟩ (aL l):=by unfold one;rw [er]
def Ev (e:Int) (j:nP) (ts:List Tok) (x:Rd T):Prop:=∃ f0,∀ f,f0<=f->rd e f j ts=x
def Ea (e:Int) (d:Nat) (acc:List T) (ts:List Tok) (x:Rd (List T)):Prop:=∃ f0,∀ f,f0<=f->rd.args e f d acc ts=x
section
variable {e:Int} {d k:Nat} {ts r:List Tok} {t out:T} {x:Rd T} {y:Er}
theorem yv {j j':nP} {ts il:List Tok} {x x':Rd T} (h:Ev e j ts x) (hs:∀ f,rd e f j ts=x->rd e (f+1) j' il=x'):Ev e j' il x':=by
 obtain ⟨f0,h0⟩:=h;refine ⟨f0+1,fun f hf=>?_⟩;obtain ⟨f,rfl⟩:∃ g,f=g+1:=⟨f - 1,by omega⟩;exact hs f (h0 f (by omega))
theorem WA {j j' j2:nP} {ts il uY:List Tok} {x x' x2:Rd T} (h:Ev e j ts x) (h2:Ev e j2 uY x2) (hs:∀ f,rd e f j ts=x->rd e f j2 uY=x2->rd e (f+1) j' il=x'):Ev e j' il x':=by
 obtain ⟨f0,h0⟩:=h;obtain ⟨f1,h1⟩:=h2;refine ⟨f0+f1+1,fun f hf=>?_⟩;obtain ⟨f,rfl⟩:∃ g,f=g+1:=⟨f - 1,by omega⟩;exact hs f (h0 f (by omega)) (h1 f (by omega))
theorem Lk {j':nP} {il:List Tok} {x':Rd T} (hs:∀ f,rd e (f+1) j' il=x'):Ev e j' il x' :=
 ⟨1,fun f hf=>by obtain ⟨f,rfl⟩:∃ g,f=g+1:=⟨f - 1,by omega⟩;exact hs f⟩
theorem Ev.expr (hd:d<=60) (h:Ev e (.level 0 (d+1)) ts x):Ev e (.expr d) ts x:=yv h fun f h=>by rw [rd,if_neg (by omega)];exact h
theorem Ev.Vz (hd:60 < d):Ev e (.expr d) ts (.error (9,place e ts)):=Lk fun f=>by rw [rd,if_pos hd]
theorem Ev.level (hk:k≠9) (h:Ev e (.level (k+1) d) ts (.ok (out,r))) (h2:Ev e (.loop k d out) r x):Ev e (.level k d) ts x:=WA h h2 fun f h h2=>by rw [rd,if_neg hk,h];exact h2
theorem Ev.Uv (hk:k≠9) (h:Ev e (.level (k+1) d) ts (.error y)):Ev e (.level k d) ts (.error y):=yv h fun f h=>by rw [rd,if_neg hk,h]
theorem Ev.E0 (h:Ev e (.operand d) ts x):Ev e (.level 9 d) ts x:=yv h fun f h=>by rw [rd,if_pos rfl];exact h
theorem Ev.stop (h:sign ts 0 ∉ levels.getD k []):Ev e (.loop k d out) ts (.ok (out,ts)):=Lk fun f=>by
 cases ts with
 | nil=>rw [rd]
 | cons t r =>
  rw [rd,if_neg];rintro ⟨h3,h4⟩;apply h;simp only [sign,getElem?_cons_zero,bd,h3,if_true];exact h4
theorem Ev.go {t:Tok} {b:T} {r':List Tok} (h3:t.kind=3) (hs:t.s∈levels.getD k []) (h:Ev e (.level (k+1) d) r (.ok (b,r'))) (h2:Ev e (.loop k d (one 6 t.at_ t.s [out,b])) r' x):Ev e (.loop k d out) (t::r) x :=
 WA h h2 fun f h h2=>by rw [rd,if_pos ⟨h3,hs⟩,h];exact h2
theorem Ev.YL {t:Tok} (h3:t.kind=3) (hs:t.s∈levels.getD k []) (h:Ev e (.level (k+1) d) r (.error y)):Ev e (.loop k d out) (t::r) (.error y) :=
 yv h fun f h=>by rw [rd,if_pos ⟨h3,hs⟩,h]
theorem Ev.Qg (hd:60 < d):Ev e (.operand d) ts (.error (9,place e ts)):=Lk fun f=>by rw [rd.eq_def];simp only;rw [if_pos hd]
theorem Ev.num {t:Tok} (hd:d<=60) (h:t.kind=1):Ev e (.operand d) (t::r) (.ok (.mk ⟨1,t.at_,t.n,[],[]⟩ [],r)):=Lk fun f=>by
 rw [rd.eq_def];simp only;rw [if_neg (by omega),if_neg (by omega),if_pos h]
theorem Ev.un {t:Tok} {a:T} {r':List Tok} (hd:d<=60) (h3:t.kind=3) (hs:t.s=[45]\/t.s=[33]\/t.s=[126]) (h:Ev e (.operand (d+1)) r (.ok (a,r'))):Ev e (.operand d) (t::r) (.ok (one 5 t.at_ t.s [a],r')) :=
 yv h fun f h=>by rw [rd.eq_def];simp only;rw [if_neg (by omega),if_pos h3,if_pos hs,h]
theorem Ev.unX {t:Tok} (hd:d<=60) (h3:t.kind=3) (hs:t.s=[45]\/t.s=[33]\/t.s=[126]) (h:Ev e (.operand (d+1)) r (.error y)):Ev e (.operand d) (t::r) (.error y) :=
 yv h fun f h=>by rw [rd.eq_def];simp only;rw [if_neg (by omega),if_pos h3,if_pos hs,h]
theorem Ev.par {t u:Tok} {a:T} {r':List Tok} (hd:d<=60) (h3:t.kind=3) (hs:t.s=[40]) (hu:u.kind=3) (fk:u.s=[41]) (h:Ev e (.expr (d+1)) r (.ok (a,u::r'))):Ev e (.operand d) (t::r) (.ok (a,r')) :=
 yv h fun f h=>by
  rw [rd.eq_def];simp only;rw [if_neg (by omega),if_pos h3,if_neg (by rw [hs];decide),if_pos hs,h];simp only [aI,sign,getElem?_cons_zero,bd,hu,if_true,fk,tail_cons]
theorem Ev.Yi {t:Tok} (hd:d<=60) (h3:t.kind=3) (hs:t.s=[40]) (h:Ev e (.expr (d+1)) r (.error y)):Ev e (.operand d) (t::r) (.error y) :=
 yv h fun f h=>by rw [rd.eq_def];simp only;rw [if_neg (by omega),if_pos h3,if_neg (by rw [hs];decide),if_pos hs,h]
theorem rH {t:Tok} (h2:t.kind=2) (hl:t.s.length<=12):name e (t::r)=.ok (t.s,r):=by
 simp only [name,h2,if_true];rw [if_neg (by omega)]
theorem Ev.name {t:Tok} (hd:d<=60) (h2:t.kind=2) (hl:t.s.length<=12) (n1:sign r 0≠[91]) (n2:sign r 0≠[40]):Ev e (.operand d) (t::r) (.ok (one 2 t.at_ t.s [],r)):=Lk fun f=>by
 rw [rd.eq_def];simp only;rw [if_neg (by omega),if_neg (by omega),if_neg (by omega),rH h2 hl];simp only;rw [if_neg n1,if_neg n2]
theorem Ev.ix {t u w:Tok} {a:T} {r':List Tok} (hd:d<=60) (h2:t.kind=2) (hl:t.s.length<=12) (hu:u.kind=3) (fk:u.s=[91]) (hw:w.kind=3) (CN:w.s=[93]) (h:Ev e (.expr (d+1)) r (.ok (a,w::r'))):Ev e (.operand d) (t::u::r) (.ok (one 3 t.at_ t.s [a],r')) :=
 yv h fun f h=>by
  rw [rd.eq_def];simp only;rw [if_neg (by omega),if_neg (by omega),if_neg (by omega),rH h2 hl];simp only;rw [if_pos (by simp only [sign,getElem?_cons_zero,bd,hu,if_true,fk]),tail_cons,h];simp only [aI,sign,getElem?_cons_zero,bd,hw,if_true,CN,tail_cons]
theorem Ev.W8 {t u:Tok} (hd:d<=60) (h2:t.kind=2) (hl:t.s.length<=12) (hu:u.kind=3) (fk:u.s=[91]) (h:Ev e (.expr (d+1)) r (.error y)):Ev e (.operand d) (t::u::r) (.error y) :=
 yv h fun f h=>by
  rw [rd.eq_def];simp only;rw [if_neg (by omega),if_neg (by omega),if_neg (by omega),rH h2 hl];simp only;rw [if_pos (by simp only [sign,getElem?_cons_zero,bd,hu,if_true,fk]),tail_cons,h]
theorem Ev.call {t u:Tok} {l:List T} {r':List Tok} (hd:d<=60) (h2:t.kind=2) (hl:t.s.length<=12) (hu:u.kind=3) (fk:u.s=[40]) (h:Ea e (d+1) [] r (.ok (l,r'))):Ev e (.operand d) (t::u::r) (.ok (one 4 t.at_ t.s l,r')):=by
 obtain ⟨f0,h0⟩:=h;refine ⟨f0+1,fun f hf=>?_⟩;obtain ⟨f,rfl⟩:∃ g,f=g+1:=⟨f - 1,by omega⟩
 have hs:sign (u::r) 0=[40]:=by simp only [sign,getElem?_cons_zero,bd,hu,if_true,fk]
 rw [rd.eq_def];simp only;rw [if_neg (by omega),if_neg (by omega),if_neg (by omega),rH h2 hl];simp only;rw [if_neg (by rw [hs];decide),if_pos hs,tail_cons,h0 f (by omega)]
theorem Ev.Vt {t u:Tok} (hd:d<=60) (h2:t.kind=2) (hl:t.s.length<=12) (hu:u.kind=3) (fk:u.s=[40]) (h:Ea e (d+1) [] r (.error y)):Ev e (.operand d) (t::u::r) (.error y):=by
 obtain ⟨f0,h0⟩:=h;refine ⟨f0+1,fun f hf=>?_⟩;obtain ⟨f,rfl⟩:∃ g,f=g+1:=⟨f - 1,by omega⟩
 have hs:sign (u::r) 0=[40]:=by simp only [sign,getElem?_cons_zero,bd,hu,if_true,fk]
 rw [rd.eq_def];simp only;rw [if_neg (by omega),if_neg (by omega),if_neg (by omega),rH h2 hl];simp only;rw [if_neg (by rw [hs];decide),if_pos hs,tail_cons,h0 f (by omega)]
theorem Ea.nil {u:Tok} {acc:List T} (hu:u.kind=3) (fk:u.s=[41]):Ea e d acc (u::r) (.ok (acc,r)):=⟨1,fun f hf=>by
 obtain ⟨f,rfl⟩:∃ g,f=g+1:=⟨f - 1,by omega⟩
 have hs:sign (u::r) 0=[41]:=by simp only [sign,getElem?_cons_zero,bd,hu,if_true,fk]
 rw [rd.args,if_pos hs];rfl⟩
theorem Ea.first {a:T} {r':List Tok} {x:Rd (List T)} (hs:sign r 0≠[41]) (h:Ev e (.expr d) r (.ok (a,r'))) (h2:Ea e d [a] r' x):Ea e d [] r x:=by
 obtain ⟨f0,h0⟩:=h;obtain ⟨f1,h1⟩:=h2;refine ⟨f0+f1+1,fun f hf=>?_⟩;obtain ⟨f,rfl⟩:∃ g,f=g+1:=⟨f - 1,by omega⟩;rw [rd.args,if_neg hs,if_pos rfl];simp only;rw [h0 f (by omega)];exact h1 f (by omega)
theorem Ea.Tc {a:T} (hs:sign r 0≠[41]) (h:Ev e (.expr d) r (.error y)):Ea e d [] r (.error y):=by
 obtain ⟨f0,h0⟩:=h;refine ⟨f0+1,fun f hf=>?_⟩;obtain ⟨f,rfl⟩:∃ g,f=g+1:=⟨f - 1,by omega⟩;rw [rd.args,if_neg hs,if_pos rfl];simp only;rw [h0 f (by omega)]
theorem Ea.more {u:Tok} {acc:List T} {a:T} {r':List Tok} {x:Rd (List T)} (ha:acc≠[]) (hu:u.kind=3) (fk:u.s=[44]) (h:Ev e (.expr d) r (.ok (a,r'))) (h2:Ea e d (acc++[a]) r' x):Ea e d acc (u::r) x:=by
 obtain ⟨f0,h0⟩:=h;obtain ⟨f1,h1⟩:=h2;refine ⟨f0+f1+1,fun f hf=>?_⟩;obtain ⟨f,rfl⟩:∃ g,f=g+1:=⟨f - 1,by omega⟩
 have hs:sign (u::r) 0=[44]:=by simp only [sign,getElem?_cons_zero,bd,hu,if_true,fk]
 rw [rd.args,if_neg (by rw [hs];decide),if_neg ha,aI,if_pos hs];simp only [tail_cons];rw [h0 f (by omega)];exact h1 f (by omega)
theorem Ea.V3 {u:Tok} {acc:List T} (ha:acc≠[]) (hu:u.kind=3) (fk:u.s=[44]) (h:Ev e (.expr d) r (.error y)):Ea e d acc (u::r) (.error y):=by
 obtain ⟨f0,h0⟩:=h;refine ⟨f0+1,fun f hf=>?_⟩;obtain ⟨f,rfl⟩:∃ g,f=g+1:=⟨f - 1,by omega⟩
 have hs:sign (u::r) 0=[44]:=by simp only [sign,getElem?_cons_zero,bd,hu,if_true,fk]
 rw [rd.args,if_neg (by rw [hs];decide),if_neg ha,aI,if_pos hs];simp only [tail_cons];rw [h0 f (by omega)]
structure Stop (r:List Tok) (k:Nat):Prop where
 a:sign r 0≠[91]
 b:sign r 0≠[40]
 c:∀ j,k < j->sign r 0 ∉ levels.getD j []
theorem Stop.mono {k':Nat} (h:Stop r k) (hk:k<=k'):Stop r k':=⟨h.a,h.b,fun j hj=>h.c j (by omega)⟩
theorem Ev.lift {m:Nat} (h:Ev e (.level m d) ts (.ok (t,r))) (hm:m<=9) (hs:Stop r k):∀ n,m=k+1+n->Ev e (.loop k d t) r x->Ev e (.level k d) ts x:=by
 intro n
 induction n generalizing m with
 | zero=>intro he h2;exact Ev.level (by omega) (by rw [<-he];exact h) h2
 | succ n ih =>
  intro he h2;exact ih (m:=k+1+n) (Ev.level (by omega) (by rw [show k+1+n+1=m by omega];exact h) (Ev.stop (hs.c _ (by omega)))) (by omega) rfl h2
theorem Ev.QS {m:Nat} (h:Ev e (.level m d) ts (.error y)) (hm:m<=9):∀ n,m=k+n->Ev e (.level k d) ts (.error y):=by
 intro n
 induction n generalizing m with
 | zero=>intro he;subst he;exact h
 | succ n ih=>intro he;exact ih (m:=k+n) (Ev.Uv (by omega) (by rw [show k+n+1=m by omega];exact h)) (by omega) rfl
def Rt (e:Int) (k d:Nat) (ts rest:List Tok) (Q:T->Prop) (b:Bool):Prop :=
 (b=true->∃ t,Q t/\(k < 9->∀ x,Ev e (.loop k d t) rest x->Ev e (.level k d) ts x)/\(k=9->Ev e (.level 9 d) ts (.ok (t,rest))))/\(b=false->∃ pos,Ev e (.level k d) ts (.error (9,pos)))
def Ro (e:Int) (d:Nat) (ts rest:List Tok) (Q:T->Prop) (b:Bool):Prop :=
 (b=true->∃ t,Q t/\Ev e (.operand d) ts (.ok (t,rest)))/\(b=false->∃ pos,Ev e (.operand d) ts (.error (9,pos)))
def Rx (e:Int) (d:Nat) (ts rest:List Tok) (Q:T->Prop) (b:Bool):Prop :=
 (b=true->∃ t,Q t/\Ev e (.expr d) ts (.ok (t,rest)))/\(b=false->∃ pos,Ev e (.expr d) ts (.error (9,pos)))
theorem Ro.rt {rest:List Tok} {Q:T->Prop} {b:Bool} (h:Ro e d ts rest Q b) (hk:k<=9) (hs:Stop rest k):Rt e k d ts rest Q b:=by
 refine ⟨fun hb=>?_,fun hb=>?_⟩
 ·obtain ⟨t,h1,h2⟩:=h.1 hb;exact ⟨t,h1,fun Aj x h3=>Ev.lift (Ev.E0 h2) (Nat.le_refl _) hs (8 - k) (by omega) h3,fun _=>Ev.E0 h2⟩
 ·obtain ⟨pos,h1⟩:=h.2 hb;exact ⟨pos,Ev.QS (Ev.E0 h1) (Nat.le_refl _) (9 - k) (by omega)⟩
theorem Rt.down {rest:List Tok} {Q:T->Prop} {b:Bool} {m:Nat} (h:Rt e m d ts rest Q b) (hm:m < 9) (hk:k<=m) (hs:Stop rest k):Rt e k d ts rest Q b:=by
 rcases Nat.lt_or_ge k m with ar | kQ
 ·refine ⟨fun hb=>?_,fun hb=>?_⟩
  ·obtain ⟨t,h1,h2,_⟩:=h.1 hb;have h3:=h2 hm _ (Ev.stop (hs.c m ar));exact ⟨t,h1,fun Aj x h4=>Ev.lift h3 (by omega) hs (m - 1 - k) (by omega) h4,fun h9=>by omega⟩
  ·obtain ⟨pos,h1⟩:=h.2 hb;exact ⟨pos,Ev.QS h1 (by omega) (m - k) (by omega)⟩
 ·obtain rfl:k=m:=by omega
  exact h
theorem Rt.rx {rest:List Tok} {Q:T->Prop} {b:Bool} (h:Rt e 0 (d+1) ts rest Q b) (hs:sign rest 0 ∉ levels.getD 0 []):Rx e d ts rest Q (decide (d<=60)&&b):=by
 by_cases hd:d<=60
 ·have:(decide (d<=60)&&b)=b:=by simp [hd]
  rw [this];refine ⟨fun hb=>?_,fun hb=>?_⟩
  ·obtain ⟨t,h1,h2,_⟩:=h.1 hb;exact ⟨t,h1,Ev.expr hd (h2 (by omega) _ (Ev.stop hs))⟩
  ·obtain ⟨pos,h1⟩:=h.2 hb;exact ⟨pos,Ev.expr hd h1⟩
 ·have:(decide (d<=60)&&b)=false:=by simp [hd]
  rw [this];exact ⟨fun hb=>(by cases hb),fun _=>⟨_,Ev.Vz (by omega)⟩⟩
end
end Go.Xp
namespace Go.Xp
open Go.Sp (bh ej)
theorem Ev.QV {e:Int} {d:Nat} {ts:List Tok} {x:Rd T} (h:Ev e (.level 9 d) ts x):Ev e (.operand d) ts x:=by
 obtain ⟨f0,h0⟩:=h;refine ⟨f0,fun f hf=>?_⟩;have:=h0 (f+1) (by omega);rw [rd,if_pos rfl] at this;exact this
theorem Ro.QV {e:Int} {d:Nat} {ts rest:List Tok} {Q:T->Prop} {b:Bool} (h:Rt e 9 d ts rest Q b):Ro e d ts rest Q b :=
 ⟨fun hb=>by obtain ⟨t,h1,_,h2⟩:=h.1 hb;exact ⟨t,h1,(h2 rfl).QV⟩,fun hb=>by obtain ⟨pos,h1⟩:=h.2 hb;exact ⟨pos,h1.QV⟩⟩
theorem rM {t:Tok} {r:List Tok} {s:ai} (h:kf t=kS s):sign (t::r) 0=s:=by
 simp only [kf,kS,Prod.mk.injEq] at h;simp only [sign,getElem?_cons_zero,bd,h.1,if_true,h.2.2]
theorem B1 {t:Tok} {r:List Tok} (h:t.kind≠3):sign (t::r) 0=[]:=by
 simp only [sign,getElem?_cons_zero,bd,if_neg h]
theorem H6 {j:Nat} (h:9<=j):levels.getD j []=[]:=by
 rw [List.getD_eq_getElem?_getD,List.getElem?_eq_none (by simpa [levels] using h)];rfl
theorem Dh {r:List Tok} {s:ai} (h:sign r 0=s) (hs:s=[]\/s=[41]\/s=[93]\/s=[44]\/s=[59]\/s=[61]):Stop r 0:=by
 have h9:∀ j,j < 9->∀ s:ai,(s=[]\/s=[41]\/s=[93]\/s=[44]\/s=[59]\/s=[61])->s ∉ levels.getD j []:=by
  intro j hj s hs
  have:∀ j,j < 9->∀ s∈([[],[41],[93],[44],[59],[61]]:List ai),s ∉ levels.getD j []:=by decide
  exact this j hj s (by simpa using hs)
 refine ⟨?_,?_,fun j _=>?_⟩
 ·rw [h];rcases hs with rfl | rfl | rfl | rfl | rfl | rfl <;> decide
 ·rw [h];rcases hs with rfl | rfl | rfl | rfl | rfl | rfl <;> decide
 ·rw [h]
  rcases Nat.lt_or_ge j 9 with h0 | h0
  ·exact h9 j h0 s hs
  ·rw [H6 h0];simp
theorem AX {r:List Tok} {s:ai} (h:sign r 0=s) (hs:s=[]\/s=[41]\/s=[93]\/s=[44]\/s=[59]\/s=[61]):sign r 0 ∉ levels.getD 0 []:=by
 rw [h];rcases hs with rfl | rfl | rfl | rfl | rfl | rfl <;> decide
theorem oM {s:ai} (h:ej s=true):dF s < 9/\s∈levels.getD (dF s) []/\s≠[91]/\s≠[40]/\∀ j,dF s < j->s ∉ levels.getD j []:=by
 have hm:s∈levels.flatten:=by
  unfold ej at h;rw [List.any_eq_true] at h;obtain ⟨l,hl,hc⟩:=h;exact List.mem_flatten.2 ⟨l,hl,by simpa using hc⟩
 have key:∀ s∈levels.flatten,dF s < 9/\s∈levels.getD (dF s) []/\s≠[91]/\s≠[40]/\∀ j,j < 9->dF s < j->s ∉ levels.getD j []:=by decide
 obtain ⟨h1,h2,h3,h4,h5⟩:=key s hm;refine ⟨h1,h2,h3,h4,fun j hj=>?_⟩
 rcases Nat.lt_or_ge j 9 with h0 | h0
 ·exact h5 j h0 hj
 ·rw [H6 h0];simp
theorem E.aad {a:E} (h:a.ok=true):a.lv<=9:=by
 cases a with
 | bin s a b=>simp only [E.ok,Bool.and_eq_true] at h;exact Nat.le_of_lt (oM h.1.1).1
 | _=>exact Nat.le_refl _
def jy (a:E):Prop:=∀ (e:Int) (k d:Nat) (ts rest:List Tok),k<=a.lv->a.ok=true->ts.map kf=a.tk->Stop rest k->Rt e k d (ts++rest) rest (fun t=>er t=a.tree) (a.fit d)
def Vk (a:E):Prop:=∀ (e:Int) (k d:Nat) (ts rest:List Tok),k<=9->a.ok=true->ts.map kf=brk a.lv k a.tk->Stop rest k->Rt e k d (ts++rest) rest (fun t=>er t=a.tree) (Hg a.lv k d a.fit)
theorem map_cons {ts:List Tok} {k:K} {l:List K} (h:ts.map kf=k::l):∃ t r,ts=t::r/\kf t=k/\r.map kf=l:=List.map_eq_cons_iff.1 h
theorem cW {ts:List Tok} {l l':List K} (h:ts.map kf=l++l'):∃ a b,ts=a++b/\a.map kf=l/\b.map kf=l':=List.map_eq_append_iff.1 h
theorem gz {ts:List Tok} {k:K} (h:ts.map kf=[k]):∃ t,ts=[t]/\kf t=k:=by
 obtain ⟨t,r,rfl,h1,h2⟩:=map_cons h
 have:r=[]:=by simpa using h2
 subst this;exact ⟨t,rfl,h1⟩
theorem dM {t:Tok} {s:ai} (h:kf t=kS s):t.kind=3/\t.s=s:=by simp only [kf,kS,Prod.mk.injEq] at h;exact ⟨h.1,h.2.2⟩
theorem pg {t:Tok} {s:ai} (h:kf t=kN s):t.kind=2/\t.s=s:=by simp only [kf,kN,Prod.mk.injEq] at h;exact ⟨h.1,h.2.2⟩
theorem O1 {t:Tok} {n:Int} (h:kf t=kI n):t.kind=1/\t.n=n:=by simp only [kf,kI,Prod.mk.injEq] at h;exact ⟨h.1,h.2.1⟩
theorem jy.rx {a:E} (h:jy a) {e:Int} {d:Nat} {ts rest:List Tok} {s:ai} (ho:a.ok=true) (ht:ts.map kf=a.tk) (hs:sign rest 0=s) (nE:s=[]\/s=[41]\/s=[93]\/s=[44]\/s=[59]\/s=[61]) :
  Rx e d (ts++rest) rest (fun t=>er t=a.tree) (decide (d<=60)&&a.fit (d+1)):=(h e 0 (d+1) ts rest (Nat.zero_le _) ho ht (Dh hs nE)).rx (AX hs nE)
theorem jy.good {a:E} (h:jy a):Vk a:=by
 intro e k d ts rest hk ho ht hs;unfold brk at ht;unfold Hg
 by_cases hl:a.lv < k
 ·rw [if_pos hl] at ht |-;obtain ⟨t,r,rfl,h1,h2⟩:=map_cons ht;obtain ⟨A,B,rfl,h3,h4⟩:=cW h2;obtain ⟨u,rfl,h5⟩:=gz h4;obtain ⟨h1,cv⟩:=dM h1;obtain ⟨h5,Qo⟩:=dM h5;have hx:=h.rx (e:=e) (d:=d+1) (rest:=u::rest) (s:=[41]) ho h3 (by simp only [sign,getElem?_cons_zero,bd,h5,if_true,Qo]) (by simp);refine Ro.rt ?_ hk hs
  have he:t::(A++[u])++rest=t::(A++u::rest):=by simp
  rw [he]
  by_cases hd:d<=60
  ·have:(decide (d<=60)&&decide (d+1<=60)&&a.fit (d+2))=(decide (d+1<=60)&&a.fit (d+1+1)):=by simp [hd]
   rw [this];refine ⟨fun hb=>?_,fun hb=>?_⟩
   ·obtain ⟨t',k1,k2⟩:=hx.1 hb;exact ⟨t',k1,Ev.par hd h1 cv h5 Qo k2⟩
   ·obtain ⟨pos,k1⟩:=hx.2 hb;exact ⟨pos,Ev.Yi hd h1 cv k1⟩
  ·have:(decide (d<=60)&&decide (d+1<=60)&&a.fit (d+2))=false:=by simp [hd]
   rw [this];exact ⟨fun hb=>(by cases hb),fun _=>⟨_,Ev.Qg (by omega)⟩⟩
 ·rw [if_neg hl] at ht |-;exact h e k d ts rest (by omega) ho ht hs
theorem rK {e:Int} {d:Nat} {ts rest:List Tok} {Q:T->Prop} {b:Bool} (h:d<=60->Ro e d ts rest Q b):Ro e d ts rest Q (decide (d<=60)&&b):=by
 by_cases hd:d<=60
 ·have:(decide (d<=60)&&b)=b:=by simp [hd]
  rw [this];exact h hd
 ·have:(decide (d<=60)&&b)=false:=by simp [hd]
  rw [this];exact ⟨fun hb=>(by cases hb),fun _=>⟨_,Ev.Qg (by omega)⟩⟩
theorem lE {s:ai} (h:bh s=true):s.length<=12:=by
 simp only [Go.Sp.bh,Bool.and_eq_true,decide_eq_true_eq] at h;exact h.1.2
theorem NX (n:Int):jy (.num n):=by
 intro e k d ts rest hk ho ht hs;obtain ⟨t,rfl,h1⟩:=gz ht;obtain ⟨h1,h2⟩:=O1 h1;refine Ro.rt ?_ hk hs
 have:=rK (e:=e) (d:=d) (ts:=[t]++rest) (rest:=rest) (Q:=fun t=>er t=(E.num n).tree) (b:=true) fun hd=>⟨fun _=>⟨_,?_,Ev.num hd h1⟩,fun h=>by cases h⟩
 ·simpa [E.fit] using this
 ·show er _=_;rw [er,E.tree,h2];rfl
theorem Lc (s:ai):jy (.name s):=by
 intro e k d ts rest hk ho ht hs;obtain ⟨t,rfl,h1⟩:=gz ht;obtain ⟨h1,h2⟩:=pg h1;simp only [E.ok] at ho;refine Ro.rt ?_ hk hs
 have:=rK (e:=e) (d:=d) (ts:=[t]++rest) (rest:=rest) (Q:=fun t=>er t=(E.name s).tree) (b:=true) fun hd=>⟨fun _=>⟨_,?_,Ev.name hd h1 (by rw [h2];exact lE ho) hs.a hs.b⟩,fun h=>by cases h⟩
 ·simpa [E.fit] using this
 ·show er _=_;rw [dx,E.tree,h2];rfl
theorem Rl (s:ai) {a:E} (C:jy a):jy (.at_ s a):=by
 intro e k d ts rest hk ho ht hs;simp only [E.ok,Bool.and_eq_true] at ho;rw [E.tk] at ht;obtain ⟨t,r,rfl,h1,h2⟩:=map_cons ht;obtain ⟨u,r,rfl,h3,h4⟩:=map_cons h2;obtain ⟨A,B,rfl,h5,h6⟩:=cW h4;obtain ⟨w,rfl,h7⟩:=gz h6;obtain ⟨h1,cv⟩:=pg h1;obtain ⟨h3,jC⟩:=dM h3;obtain ⟨h7,jS⟩:=dM h7
 have hl:t.s.length<=12:=by rw [cv];exact lE ho.1
 have hx:=C.rx (e:=e) (d:=d+1) (rest:=w::rest) (s:=[93]) ho.2 h5 (by simp only [sign,getElem?_cons_zero,bd,h7,if_true,jS]) (by simp);refine Ro.rt ?_ hk hs
 have he:t::u::(A++[w])++rest=t::u::(A++w::rest):=by simp
 rw [he,E.fit,Bool.and_assoc]
 refine rK fun hd=>⟨fun hb=>?_,fun hb=>?_⟩
 ·obtain ⟨t',k1,k2⟩:=hx.1 hb;exact ⟨_,by show er _=_;rw [dx,aL,k1,cv,E.tree];rfl,Ev.ix hd h1 hl h3 jC h7 jS k2⟩
 ·obtain ⟨pos,k1⟩:=hx.2 hb;exact ⟨pos,Ev.W8 hd h1 hl h3 jC k1⟩
theorem Rn (s:ai) {a:E} (C:jy a):jy (.un s a):=by
 intro e k d ts rest hk ho ht hs;simp only [E.ok,Bool.and_eq_true,Bool.or_eq_true,beq_iff_eq] at ho;rw [E.tk] at ht;obtain ⟨t,r,rfl,h1,h2⟩:=map_cons ht;obtain ⟨h1,cv⟩:=dM h1;have Aj:k<=9:=hk;have hg:=Ro.QV (C.good e 9 (d+1) r rest (Nat.le_refl _) ho.2 h2 (hs.mono Aj));refine Ro.rt ?_ hk hs
 have sq:t.s=[45]\/t.s=[33]\/t.s=[126]:=by rw [cv];rcases ho.1 with (h | h) | h <;> simp [h]
 rw [E.fit]
 refine rK fun hd=>⟨fun hb=>?_,fun hb=>?_⟩
 ·obtain ⟨t',k1,k2⟩:=hg.1 hb;exact ⟨_,by show er _=_;rw [dx,aL,k1,cv,E.tree];rfl,Ev.un hd h1 sq k2⟩
 ·obtain ⟨pos,k1⟩:=hg.2 hb;exact ⟨pos,Ev.unX hd h1 sq k1⟩
theorem NU (s:ai) {a b:E} (Ca:jy a) (Cb:jy b):jy (.bin s a b):=by
 intro e k d ts rest hk ho ht hs;simp only [E.ok,Bool.and_eq_true] at ho;obtain ⟨l1,l2,l3,l4,l5⟩:=oM ho.1.1;rw [E.tk] at ht;obtain ⟨A,B,rfl,h1,h2⟩:=cW ht;obtain ⟨t,r,rfl,h3,h4⟩:=map_cons h2;obtain ⟨h3,jC⟩:=dM h3;have kR:k<=dF s:=hk;have iD:=hs.mono kR;refine Rt.down (m:=dF s) ?_ l1 kR hs
 have dD:sign (t::(r++rest)) 0=s:=by simp only [sign,getElem?_cons_zero,bd,h3,if_true,jC]
 have ga:=Ca.good e (dF s) d A (t::(r++rest)) (by omega) ho.1.2 h1 ⟨by rw [dD];exact l3,by rw [dD];exact l4,fun j hj=>by rw [dD];exact l5 j hj⟩;have gb:=Cb.good e (dF s+1) d r rest (by omega) ho.2 h4 (iD.mono (by omega))
 have he:A++t::r++rest=A++t::(r++rest):=by simp
 rw [he,E.fit]
 change Rt e (dF s) d _ rest _ (Hg a.lv (dF s) d a.fit&&Hg b.lv (dF s+1) d b.fit)
 have sq:t.s∈levels.getD (dF s) []:=by rw [jC];exact l2
 cases hfa:Hg a.lv (dF s) d a.fit with
 | false =>
  refine ⟨fun hb=>(by cases hb),fun _=>ga.2 hfa⟩
 | true =>
  obtain ⟨ta,k1,k2,_⟩:=ga.1 hfa
  cases hfb:Hg b.lv (dF s+1) d b.fit with
  | false =>
   refine ⟨fun hb=>(by cases hb),fun _=>?_⟩;obtain ⟨pos,k3⟩:=gb.2 hfb;exact ⟨pos,k2 l1 _ (Ev.YL h3 sq k3)⟩
  | true =>
   refine ⟨fun _=>?_,fun hb=>(by cases hb)⟩;obtain ⟨tb,k3,k4,k5⟩:=gb.1 hfb
   have k6:Ev e (.level (dF s+1) d) (r++rest) (.ok (tb,rest)):=by
    rcases Nat.lt_or_ge (dF s+1) 9 with h9 | h9
    ·exact k4 h9 _ (Ev.stop (iD.c _ (by omega)))
    ·have:dF s+1=9:=by omega
     rw [this] at k5 |-;exact k5 rfl
   exact ⟨one 6 t.at_ t.s [ta,tb],by show er _=_;rw [dx,aL,aL,aL,k1,k3,jC,E.tree],fun _ x hx=>k2 l1 x (Ev.go h3 sq k6 hx),fun h9=>by omega⟩
def Qj (k:K):Prop:=k.1=1\/k.1=2\/(k.1=3/\(k.2.2=[45]\/k.2.2=[33]\/k.2.2=[126]\/k.2.2=[40]))
theorem E.head:∀ (a:E),a.ok=true->∃ k r,a.tk=k::r/\Qj k
 | .num n,_=>⟨_,_,rfl,.inl rfl⟩
 | .name s,_=>⟨_,_,rfl,.inr (.inl rfl)⟩
 | .at_ s a,_=>⟨_,_,rfl,.inr (.inl rfl)⟩
 | .call s l,_=>⟨_,_,rfl,.inr (.inl rfl)⟩
 | .un s a,h=>⟨_,_,rfl,.inr (.inr ⟨rfl,by simp only [E.ok,Bool.and_eq_true,Bool.or_eq_true,beq_iff_eq] at h;rcases h.1 with (h | h) | h <;> simp [h]⟩)⟩
 | .bin s a b,h=>by
  simp only [E.ok,Bool.and_eq_true] at h;obtain ⟨k,r,h1,h2⟩:=E.head a h.1.2;rw [E.tk,brk];split
  ·exact ⟨_,_,rfl,.inr (.inr ⟨rfl,by simp⟩)⟩
  ·rw [h1];exact ⟨k,_,rfl,h2⟩
theorem zh {t:Tok} {r:List Tok} (h:Qj (kf t)):sign (t::r) 0=[]\/sign (t::r) 0=[45]\/sign (t::r) 0=[33]\/sign (t::r) 0=[126]\/sign (t::r) 0=[40]:=by
 rcases h with h | h | ⟨h,h'⟩
 ·left;exact B1 (by simp only [kf] at h;omega)
 ·left;exact B1 (by simp only [kf] at h;omega)
 ·right
  have:sign (t::r) 0=t.s:=by simp only [kf] at h;simp only [sign,getElem?_cons_zero,bd,h,if_true]
  rw [this];exact h'
def xE (l:List E):Prop:=∀ (e:Int) (d:Nat) (acc:List T) (ts rest:List Tok) (u:Tok),E.cH l=true->acc≠[]->ts.map kf=E.pz l->u.kind=3->u.s=[41] ->
 (E.fits l d=true->∃ ys,aL ys=E.trees l/\Ea e d acc (ts++u::rest) (.ok (acc++ys,rest)))/\(E.fits l d=false->∃ pos,Ea e d acc (ts++u::rest) (.error (9,pos)))
theorem K9:xE []:=by
 intro e d acc ts rest u _ ha ht hu fk
 have:ts=[]:=by simpa [E.pz] using ht
 subst this;exact ⟨fun _=>⟨[],rfl,by rw [List.append_nil];exact Ea.nil hu fk⟩,fun h=>by simp [E.fits] at h⟩
theorem Di {l:List E} {ts rest:List Tok} {u:Tok} (ht:ts.map kf=E.pz l) (hu:u.kind=3) (fk:u.s=[41]):∃ s,sign (ts++u::rest) 0=s/\(s=[]\/s=[41]\/s=[93]\/s=[44]\/s=[59]\/s=[61]):=by
 cases l with
 | nil =>
  have:ts=[]:=by simpa [E.pz] using ht
  subst this;exact ⟨[41],by simp only [nil_append,sign,getElem?_cons_zero,bd,hu,if_true,fk],by simp⟩
 | cons a l =>
  rw [E.pz] at ht;obtain ⟨t,r,rfl,h1,_⟩:=map_cons ht;exact ⟨[44],rM h1,by simp⟩
theorem I7 {a:E} {l:List E} (Ca:jy a) (Cl:xE l):xE (a::l):=by
 intro e d acc ts rest u ho ha ht hu fk;simp only [E.cH,Bool.and_eq_true] at ho;rw [E.pz] at ht;obtain ⟨t,r,rfl,h1,h2⟩:=map_cons ht;obtain ⟨A,B,rfl,h3,h4⟩:=cW h2;obtain ⟨h1,cv⟩:=dM h1;obtain ⟨s,fF,iC⟩:=Di (rest:=rest) h4 hu fk;have hx:=Ca.rx (e:=e) (d:=d) (rest:=B++u::rest) (s:=s) ho.1 h3 fF iC
 have he:t::(A++B)++u::rest=t::(A++(B++u::rest)):=by simp
 rw [he,E.fits]
 cases hfa:decide (d<=60)&&a.fit (d+1) with
 | false =>
  refine ⟨fun hb=>(by simp at hb),fun _=>?_⟩;obtain ⟨pos,k1⟩:=hx.2 hfa;exact ⟨pos,Ea.V3 ha h1 cv k1⟩
 | true =>
  obtain ⟨ta,k1,k2⟩:=hx.1 hfa;have hl:=Cl e d (acc++[ta]) B rest u ho.2 (by simp) h4 hu fk;refine ⟨fun hb=>?_,fun hb=>?_⟩
  ·obtain ⟨ys,k3,k4⟩:=hl.1 (by simpa using hb);exact ⟨ta::ys,by rw [aL,k1,k3,E.trees],Ea.more ha h1 cv k2 (by rw [append_assoc] at k4;exact k4)⟩
  ·obtain ⟨pos,k3⟩:=hl.2 (by simpa using hb);exact ⟨pos,Ea.more ha h1 cv k2 k3⟩
theorem Lb (s:ai) {l:List E} (Cf:∀ a r,l=a::r->jy a/\xE r):jy (.call s l):=by
 intro e k d ts rest hk ho ht hs;simp only [E.ok,Bool.and_eq_true] at ho;rw [E.tk] at ht;obtain ⟨t,r,rfl,h1,h2⟩:=map_cons ht;obtain ⟨u,r,rfl,h3,h4⟩:=map_cons h2;obtain ⟨A,B,rfl,h5,h6⟩:=cW h4;obtain ⟨w,rfl,h7⟩:=gz h6;obtain ⟨h1,cv⟩:=pg h1;obtain ⟨h3,jC⟩:=dM h3;obtain ⟨h7,jS⟩:=dM h7
 have hl:t.s.length<=12:=by rw [cv];exact lE ho.1
 refine Ro.rt ?_ hk hs
 have he:t::u::(A++[w])++rest=t::u::(A++w::rest):=by simp
 rw [he,E.fit]
 refine rK fun hd=>?_
 have key:(E.fits l (d+1)=true->∃ ys,aL ys=E.trees l/\Ea e (d+1) [] (A++w::rest) (.ok (ys,rest)))/\(E.fits l (d+1)=false->∃ pos,Ea e (d+1) [] (A++w::rest) (.error (9,pos))):=by
  cases l with
  | nil =>
   have:A=[]:=by simpa [E.lV] using h5
   subst this;exact ⟨fun _=>⟨[],rfl,Ea.nil h7 jS⟩,fun h=>by simp [E.fits] at h⟩
  | cons a l =>
   obtain ⟨Ca,Cl⟩:=Cf a l rfl;have yH:=ho.2;simp only [E.cH,Bool.and_eq_true] at yH;rw [E.lV] at h5;obtain ⟨A,B,rfl,h3,h4⟩:=cW h5;obtain ⟨s,fF,iC⟩:=Di (rest:=rest) h4 h7 jS;have hx:=Ca.rx (e:=e) (d:=d+1) (rest:=B++w::rest) (s:=s) yH.1 h3 fF iC;rw [append_assoc]
   have bL:sign (A++(B++w::rest)) 0≠[41]:=by
    obtain ⟨kk,rr,k1,k2⟩:=E.head a yH.1;rw [k1] at h3;obtain ⟨t0,r0,rfl,k3,_⟩:=map_cons h3
    rcases zh (r:=r0++(B++w::rest)) (by rw [k3];exact k2) with h | h | h | h | h <;> (rw [cons_append,h];decide)
   rw [E.fits]
   cases hfa:decide (d+1<=60)&&a.fit (d+1+1) with
   | false =>
    refine ⟨fun hb=>(by simp at hb),fun _=>?_⟩;obtain ⟨pos,k1⟩:=hx.2 hfa;exact ⟨pos,Ea.Tc (a:=T.mk ⟨0,0,0,[],[]⟩ []) bL k1⟩
   | true =>
    obtain ⟨ta,k1,k2⟩:=hx.1 hfa;have pb:=Cl e (d+1) [ta] B rest w yH.2 (by simp) h4 h7 jS;refine ⟨fun hb=>?_,fun hb=>?_⟩
    ·obtain ⟨ys,k3,k4⟩:=pb.1 (by simpa using hb);exact ⟨ta::ys,by rw [aL,k1,k3,E.trees],Ea.first bL k2 k4⟩
    ·obtain ⟨pos,k3⟩:=pb.2 (by simpa using hb);exact ⟨pos,Ea.first bL k2 k3⟩
 refine ⟨fun hb=>?_,fun hb=>?_⟩
 ·obtain ⟨ys,k1,k2⟩:=key.1 hb;exact ⟨_,by show er _=_;rw [dx,k1,cv,E.tree],Ev.call hd h1 hl h3 jC k2⟩
 ·obtain ⟨pos,k1⟩:=key.2 hb;exact ⟨pos,Ev.Vt hd h1 hl h3 jC k1⟩
mutual
theorem core:∀ (a:E),jy a
 | .num n=>NX n
 | .name s=>Lc s
 | .at_ s a=>Rl s (core a)
 | .call s l=>Lb s (Vu l)
 | .un s a=>Rn s (core a)
 | .bin s a b=>NU s (core a) (core b)
theorem Vu:∀ (l:List E),∀ a r,l=a::r->jy a/\xE r
 | []=>fun a r h=>by cases h
 | a::r=>fun a' r' h=>by cases h;exact ⟨core a,La r⟩
theorem La:∀ (l:List E),xE l
 | []=>K9
 | a::l=>I7 (core a) (La l)
end
end Go.Xp
namespace Go.Xp
open Go.Sp (bh ej)
inductive S where
 | set (s:ai) (a:E)
 | put (s:ai) (a b:E)
 | if1 (c:E) (b:List S)
 | if2 (c:E) (b b2:List S)
 | while_ (c:E) (b:List S)
 | ret (a:E)
 | do_ (a:E)
 | var (s:ai) (a:E)
mutual
def S.tk:S->List K
 | .set s a=>kN s::kS [61]::(a.tk++[kS [59]])
 | .put s a b=>kN s::kS [91]::(a.tk++kS [93]::kS [61]::(b.tk++[kS [59]]))
 | .if1 c b=>kS dE::kS [40]::(c.tk++kS [41]::kS [123]::(S.lV b++[kS [125]]))
 | .if2 c b b2=>kS dE::kS [40]::(c.tk++kS [41]::kS [123]::(S.lV b++kS [125]::kS dW::kS [123]::(S.lV b2++[kS [125]])))
 | .while_ c b=>kS df::kS [40]::(c.tk++kS [41]::kS [123]::(S.lV b++[kS [125]]))
 | .ret a=>kS cY::(a.tk++[kS [59]])
 | .do_ a=>a.tk++[kS [59]]
 | .var s a=>kS fX::kN s::kS [61]::(a.tk++[kS [59]])
def S.lV:List S->List K
 | []=>[]
 | a::l=>a.tk++S.lV l
end
mutual
def S.tree:S->T
 | .set s a=>.mk ⟨7,0,0,s,[]⟩ [a.tree]
 | .put s a b=>.mk ⟨8,0,0,s,[]⟩ [a.tree,b.tree]
 | .if1 c b=>.mk ⟨9,0,0,[],[]⟩ [c.tree,.mk ⟨14,0,0,[],[]⟩ (S.trees b)]
 | .if2 c b b2=>.mk ⟨9,0,0,[],[]⟩ [c.tree,.mk ⟨14,0,0,[],[]⟩ (S.trees b),.mk ⟨14,0,0,[],[]⟩ (S.trees b2)]
 | .while_ c b=>.mk ⟨10,0,0,[],[]⟩ [c.tree,.mk ⟨14,0,0,[],[]⟩ (S.trees b)]
 | .ret a=>.mk ⟨11,0,0,[],[]⟩ [a.tree]
 | .do_ a=>.mk ⟨12,0,0,[],[]⟩ [a.tree]
 | .var s a=>.mk ⟨13,0,0,s,[]⟩ [a.tree]
def S.trees:List S->List T
 | []=>[]
 | a::l=>a.tree::S.trees l
end
def oZ (a:E) (d:Nat):Bool:=decide (d<=60)&&a.fit (d+1)
mutual
def S.fit:S->Nat->Bool
 | .set _ a,d=>decide (d<=60)&&oZ a (d+1)
 | .put s a b,d=>decide (d<=60)&&(oZ (.at_ s a) (d+1)&&oZ b (d+1))
 | .if1 c b,d=>decide (d<=60)&&(oZ c (d+1)&&(decide (d+1<=60)&&S.fits b (d+2)))
 | .if2 c b b2,d=>decide (d<=60)&&(oZ c (d+1)&&((decide (d+1<=60)&&S.fits b (d+2))&&(decide (d+1<=60)&&S.fits b2 (d+2))))
 | .while_ c b,d=>decide (d<=60)&&(oZ c (d+1)&&(decide (d+1<=60)&&S.fits b (d+2)))
 | .ret a,d=>decide (d<=60)&&oZ a (d+1)
 | .do_ a,d=>decide (d<=60)&&oZ a (d+1)
 | .var _ a,d=>decide (d<=60)&&oZ a (d+1)
def S.fits:List S->Nat->Bool
 | [],_=>true
 | a::l,d=>a.fit d&&S.fits l d
end
mutual
def S.ok:S->Bool
 | .set s a=>bh s&&a.ok
 | .put s a b=>bh s&&(a.ok&&b.ok)
 | .if1 c b=>c.ok&&S.cH b
 | .if2 c b b2=>c.ok&&(S.cH b&&S.cH b2)
 | .while_ c b=>c.ok&&S.cH b
 | .ret a=>a.ok
 | .do_ a=>a.ok
 | .var s a=>bh s&&a.ok
def S.cH:List S->Bool
 | []=>true
 | a::l=>a.ok&&S.cH l
end
def Es (e:Int) (j:pU) (ts:List Tok) (x:Rd T):Prop:=∃ f0,∀ f,f0<=f->rs e f j ts=x
def Eb (e:Int) (d:Nat) (acc:List T) (ts:List Tok) (x:Rd (List T)):Prop:=∃ f0,∀ f,f0<=f->rs.body e f d acc ts=x
theorem Ev.ex {e:Int} {d:Nat} {ts:List Tok} {x:Rd T} (h:Ev e (.expr d) ts x):Go.Xp.expr e d ts=x:=by
 obtain ⟨f0,h0⟩:=h;rw [<-Bp (e:=e) (d:=d) (ts:=ts) (f:=f0+(20 * ts.length+12)) (by omega)];exact h0 _ (by omega)
def Xx (e:Int) (d:Nat) (ts rest:List Tok) (Q:T->Prop) (b:Bool):Prop :=
 (b=true->∃ t,Q t/\expr e d ts=.ok (t,rest))/\(b=false->∃ pos,expr e d ts=.error (9,pos))
theorem Rx.xx {e:Int} {d:Nat} {ts rest:List Tok} {Q:T->Prop} {b:Bool} (h:Rx e d ts rest Q b):Xx e d ts rest Q b :=
 ⟨fun hb=>by obtain ⟨t,h1,h2⟩:=h.1 hb;exact ⟨t,h1,h2.ex⟩,fun hb=>by obtain ⟨pos,h1⟩:=h.2 hb;exact ⟨pos,h1.ex⟩⟩
theorem E.xx {a:E} {e:Int} {d:Nat} {ts rest:List Tok} {s:ai} (ho:a.ok=true) (ht:ts.map kf=a.tk) (hs:sign rest 0=s) (nE:s=[]\/s=[41]\/s=[93]\/s=[44]\/s=[59]\/s=[61]) :
  Xx e d (ts++rest) rest (fun t=>er t=a.tree) (oZ a d):=((core a).rx ho ht hs nE).xx
def Sx (e:Int) (j:pU) (ts rest:List Tok) (Q:T->Prop) (b:Bool):Prop :=
 (b=true->∃ t,Q t/\Es e j ts (.ok (t,rest)))/\(b=false->∃ pos,Es e j ts (.error (9,pos)))
section
variable {e:Int} {d:Nat} {ts rest:List Tok} {Q:T->Prop} {b:Bool}
theorem rl {j:pU} {x:Rd T} (hs:∀ f,rs e (f+1) j ts=x):Es e j ts x :=
 ⟨1,fun f hf=>by obtain ⟨f,rfl⟩:∃ g,f=g+1:=⟨f - 1,by omega⟩;exact hs f⟩
theorem oT (h:d<=60->Sx e (.stmt d) ts rest Q b):Sx e (.stmt d) ts rest Q (decide (d<=60)&&b):=by
 by_cases hd:d<=60
 ·have:(decide (d<=60)&&b)=b:=by simp [hd]
  rw [this];exact h hd
 ·have:(decide (d<=60)&&b)=false:=by simp [hd]
  rw [this];exact ⟨fun hb=>(by cases hb),fun _=>⟨_,rl fun f=>by rw [rs,if_pos (by omega)]⟩⟩
theorem qc {u:Tok} {s:ai} (hu:u.kind=3) (fk:u.s=s):aI e s (u::rest)=.ok rest:=by
 have hs:sign (u::rest) 0=s:=by simp only [sign,getElem?_cons_zero,bd,hu,if_true,fk]
 unfold aI;rw [if_pos hs];rfl
theorem sE {u:Tok} {s:ai} (hu:u.kind=3) (fk:u.s=s):sign (u::rest) 0=s:=by simp only [sign,getElem?_cons_zero,bd,hu,if_true,fk]
theorem uB {a:E} {u w:Tok} {A:List Tok} {sa sb:ai} (ho:a.ok=true) (ht:A.map kf=a.tk) (hu:u.kind=3) (fk:u.s=sa) (hw:w.kind=3) (CN:w.s=sb) (T0:sb=[]\/sb=[41]\/sb=[93]\/sb=[44]\/sb=[59]\/sb=[61]) :
  (oZ a d=true->∃ t,er t=a.tree/\inner e d sa sb (u::(A++w::rest))=.ok (t,rest))/\(oZ a d=false->∃ pos,inner e d sa sb (u::(A++w::rest))=.error (9,pos)):=by
 have hx:=E.xx (e:=e) (d:=d) (rest:=w::rest) ho ht (sE hw CN) T0;unfold inner;rw [qc hu fk];refine ⟨fun hb=>?_,fun hb=>?_⟩
 ·obtain ⟨t,h1,h2⟩:=hx.1 hb;exact ⟨t,h1,by simp only;rw [h2];simp only;rw [qc hw CN]⟩
 ·obtain ⟨pos,h1⟩:=hx.2 hb;exact ⟨pos,by simp only;rw [h1]⟩
theorem It {a:E} {v u w:Tok} {A:List Tok} (ho:a.ok=true) (hv:v.kind=2) (ZR:v.s.length<=12) (ht:A.map kf=a.tk) (hu:u.kind=3) (fk:u.s=[61]) (hw:w.kind=3) (CN:w.s=[59]) :
  (oZ a d=true->∃ t,er t=a.tree/\kj e d (v::u::(A++w::rest))=.ok ((v.s,t),rest))/\(oZ a d=false->∃ pos,kj e d (v::u::(A++w::rest))=.error (9,pos)):=by
 have hi:=uB (e:=e) (d:=d) (rest:=rest) ho ht hu fk hw CN (by simp);unfold kj;rw [rH hv ZR];refine ⟨fun hb=>?_,fun hb=>?_⟩
 ·obtain ⟨t,h1,h2⟩:=hi.1 hb;exact ⟨t,h1,by simp only;rw [h2]⟩
 ·obtain ⟨pos,h1⟩:=hi.2 hb;exact ⟨pos,by simp only;rw [h1]⟩
theorem hY {t:Tok} {s:ai} (h:t.kind=2) (hs:s≠[]):sign (t::rest) 0≠s:=by rw [B1 (by omega)];exact fun h=>hs h.symm
def qt (s:S):Prop:=∀ (e:Int) (d:Nat) (ts rest:List Tok),s.ok=true->ts.map kf=s.tk->sign rest 0≠dW->Sx e (.stmt d) (ts++rest) rest (fun t=>er t=s.tree) (s.fit d)
theorem N0 (s:ai) (a:E):qt (.set s a):=by
 intro e d ts rest ho ht _;simp only [S.ok,Bool.and_eq_true] at ho;rw [S.tk] at ht;obtain ⟨t,r,rfl,h1,h2⟩:=map_cons ht;obtain ⟨u,r,rfl,h3,h4⟩:=map_cons h2;obtain ⟨A,B,rfl,h5,h6⟩:=cW h4;obtain ⟨w,rfl,h7⟩:=gz h6;obtain ⟨h1,cv⟩:=pg h1;obtain ⟨h3,jC⟩:=dM h3;obtain ⟨h7,jS⟩:=dM h7
 have he:t::u::(A++[w])++rest=t::u::(A++w::rest):=by simp
 have hx:=It (e:=e) (d:=d+1) (rest:=rest) ho.2 h1 (by rw [cv];exact lE ho.1) h5 h3 jC h7 jS;rw [he,S.fit];have b8:t.kind=2/\sign (t::u::(A++w::rest)) 1=[61]:=⟨h1,by simp only [sign,List.getElem?_cons_succ,getElem?_cons_zero,bd,h3,if_true,jC]⟩
 refine oT fun hd=>⟨fun hb=>?_,fun hb=>?_⟩
 ·obtain ⟨t',k1,k2⟩:=hx.1 hb;refine ⟨one 7 t.at_ t.s [t'],by show er _=_;rw [dx,aL,k1,cv,S.tree];rfl,rl fun f=>?_⟩;rw [rs,if_neg (by omega)];simp only;rw [if_neg (hY h1 (by decide)),if_neg (fun h=>h.elim (hY h1 (by decide)) (hY h1 (by decide))),if_neg (hY h1 (by decide))];simp only [simple];rw [if_pos b8,k2]
 ·obtain ⟨pos,k1⟩:=hx.2 hb;refine ⟨pos,rl fun f=>?_⟩;rw [rs,if_neg (by omega)];simp only;rw [if_neg (hY h1 (by decide)),if_neg (fun h=>h.elim (hY h1 (by decide)) (hY h1 (by decide))),if_neg (hY h1 (by decide))];simp only [simple];rw [if_pos b8,k1]
theorem N1 (s:ai) (a:E):qt (.var s a):=by
 intro e d ts rest ho ht _;simp only [S.ok,Bool.and_eq_true] at ho;rw [S.tk] at ht;obtain ⟨v,r,rfl,h0,ht⟩:=map_cons ht;obtain ⟨t,r,rfl,h1,h2⟩:=map_cons ht;obtain ⟨u,r,rfl,h3,h4⟩:=map_cons h2;obtain ⟨A,B,rfl,h5,h6⟩:=cW h4;obtain ⟨w,rfl,h7⟩:=gz h6;obtain ⟨h0,r8⟩:=dM h0;obtain ⟨h1,cv⟩:=pg h1;obtain ⟨h3,jC⟩:=dM h3;obtain ⟨h7,jS⟩:=dM h7
 have he:v::t::u::(A++[w])++rest=v::t::u::(A++w::rest):=by simp
 have hx:=It (e:=e) (d:=d+1) (rest:=rest) ho.2 h1 (by rw [cv];exact lE ho.1) h5 h3 jC h7 jS;rw [he,S.fit]
 refine oT fun hd=>⟨fun hb=>?_,fun hb=>?_⟩
 ·obtain ⟨t',k1,k2⟩:=hx.1 hb;refine ⟨one 13 v.at_ t.s [t'],by show er _=_;rw [dx,aL,k1,cv,S.tree];rfl,rl fun f=>?_⟩;rw [rs,if_neg (by omega)];simp only;rw [if_pos (sE h0 r8),tail_cons,k2];rfl
 ·obtain ⟨pos,k1⟩:=hx.2 hb;refine ⟨pos,rl fun f=>?_⟩;rw [rs,if_neg (by omega)];simp only;rw [if_pos (sE h0 r8),tail_cons,k1]
theorem NZ (a:E):qt (.ret a):=by
 intro e d ts rest ho ht _;simp only [S.ok] at ho;rw [S.tk] at ht;obtain ⟨v,r,rfl,h0,h4⟩:=map_cons ht;obtain ⟨A,B,rfl,h5,h6⟩:=cW h4;obtain ⟨w,rfl,h7⟩:=gz h6;obtain ⟨h0,r8⟩:=dM h0;obtain ⟨h7,jS⟩:=dM h7
 have he:v::(A++[w])++rest=v::(A++w::rest):=by simp
 have hx:=E.xx (e:=e) (d:=d+1) (rest:=w::rest) ho h5 (sE h7 jS) (by simp);rw [he,S.fit];have hs:=sE (rest:=A++w::rest) h0 r8
 refine oT fun hd=>⟨fun hb=>?_,fun hb=>?_⟩
 ·obtain ⟨t',k1,k2⟩:=hx.1 hb;refine ⟨one 11 v.at_ [] [t'],by show er _=_;rw [dx,aL,k1,S.tree];rfl,rl fun f=>?_⟩;rw [rs,if_neg (by omega)];simp only;rw [if_neg (by rw [hs];decide),if_neg (by rw [hs];decide),if_pos hs,tail_cons,k2];simp only;rw [qc h7 jS];rfl
 ·obtain ⟨pos,k1⟩:=hx.2 hb;refine ⟨pos,rl fun f=>?_⟩;rw [rs,if_neg (by omega)];simp only;rw [if_neg (by rw [hs];decide),if_neg (by rw [hs];decide),if_pos hs,tail_cons,k1]
def qe (l:List K):Prop:=∀ k∈l,k.1=3->k.2.2≠[61]
theorem qf {l l':List K}:qe (l++l')↔qe l/\qe l':=by
 unfold qe;constructor
 ·intro h;exact ⟨fun k hk=>h k (List.mem_append_left _ hk),fun k hk=>h k (List.mem_append_right _ hk)⟩
 ·rintro ⟨h1,h2⟩ k hk;rcases List.mem_append.1 hk with hk | hk
  ·exact h1 k hk
  ·exact h2 k hk
theorem fT {a:K} {l:List K}:qe (a::l)↔(a.1=3->a.2.2≠[61])/\qe l:=by
 unfold qe;simp only [List.mem_cons,forall_eq_or_imp]
theorem ov:qe []:=fun k hk=>by cases hk
theorem xq {lv k:Nat} {x:List K} (h:qe x):qe (brk lv k x):=by
 unfold brk;split
 ·rw [fT,qf,fT];exact ⟨fun _=>by decide,h,fun _=>by decide,ov⟩
 ·exact h
mutual
theorem E.x6:∀ (a:E),a.ok=true->qe a.tk
 | .num n,_=>by rw [E.tk,fT];exact ⟨fun h=>(by cases h),ov⟩
 | .name s,_=>by rw [E.tk,fT];exact ⟨fun h=>(by cases h),ov⟩
 | .at_ s a,h=>by
  simp only [E.ok,Bool.and_eq_true] at h;rw [E.tk,fT,fT,qf,fT];exact ⟨fun h=>(by cases h),fun _=>(by decide),E.x6 a h.2,fun _=>(by decide),ov⟩
 | .call s l,h=>by
  simp only [E.ok,Bool.and_eq_true] at h;rw [E.tk,fT,fT,qf,fT];exact ⟨fun h=>(by cases h),fun _=>(by decide),(E.MP l h.2).1,fun _=>(by decide),ov⟩
 | .un s a,h=>by
  simp only [E.ok,Bool.and_eq_true,Bool.or_eq_true,beq_iff_eq] at h;rw [E.tk,fT];exact ⟨fun _=>(by rcases h.1 with (h | h) | h <;> (simp only [kS,h];decide)),xq (E.x6 a h.2)⟩
 | .bin s a b,h=>by
  simp only [E.ok,Bool.and_eq_true] at h;rw [E.tk,qf,fT];exact ⟨xq (E.x6 a h.1.2),fun _ h0=>(by simp only [kS] at h0;rw [h0] at h;exact absurd h.1.1 (by decide)),xq (E.x6 b h.2)⟩
theorem E.MP:∀ (l:List E),E.cH l=true->qe (E.lV l)/\qe (E.pz l)
 | [],_=>by rw [E.lV,E.pz];exact ⟨ov,ov⟩
 | a::l,h=>by
  simp only [E.cH,Bool.and_eq_true] at h;have h1:=E.x6 a h.1;have h2:=E.MP l h.2;rw [E.lV,E.pz,qf,fT,qf];exact ⟨⟨h1,h2.2⟩,fun _=>(by decide),h1,h2.2⟩
end
theorem J9 {ts:List Tok} {k:Nat} {s:ai} (h:∀ t,ts[k]?=some t->t.kind=3->t.s≠s) (hs:s≠[]):sign ts k≠s:=by
 unfold sign
 cases hk:ts[k]? with
 | none=>exact fun h=>hs h.symm
 | some t =>
  simp only [bd];split
  ·rename_i h3;exact h t hk h3
  ·exact fun h=>hs h.symm
theorem Gr {a:E} {A:List Tok} {w:Tok} (ho:a.ok=true) (h5:A.map kf=a.tk) (hw:w.s≠[61]):sign (A++w::rest) 1≠[61]:=by
 obtain ⟨k0,r0,hh,_⟩:=E.head a ho;refine J9 (fun t ht h3 sq=>?_) (by decide)
 have hlen:1<=A.length:=by
  have:=congrArg List.length h5;rw [hh] at this;simp at this;omega
 rw [List.getElem?_append] at ht;split at ht
 ·have hm:kf t∈a.tk:=by rw [<-h5];exact List.mem_map_of_mem (mem_of_getElem? ht)
  exact E.x6 a ho _ hm h3 sq
 ·have:1 - A.length=0:=by omega
  rw [this] at ht;cases ht;exact hw sq
theorem Rm (a:E):qt (.do_ a):=by
 intro e d ts rest ho ht _;simp only [S.ok] at ho;rw [S.tk] at ht;obtain ⟨A,B,rfl,h5,h6⟩:=cW ht;obtain ⟨w,rfl,h7⟩:=gz h6;obtain ⟨h7,jS⟩:=dM h7
 have he:A++[w]++rest=A++w::rest:=by simp
 have hx:=E.xx (e:=e) (d:=d+1) (rest:=w::rest) ho h5 (sE h7 jS) (by simp);have Am:=Gr (rest:=rest) (w:=w) ho h5 (by rw [jS];decide);obtain ⟨k0,r0,hh,hf⟩:=E.head a ho;obtain ⟨t,r,rfl,h8,_⟩:=map_cons (by rw [<-hh];exact h5);rw [he,S.fit];rw [cons_append] at hx Am |-;have Zh:=zh (r:=r++w::rest) (by rw [h8];exact hf)
 have b8:¬ (t.kind=2/\sign (t::(r++w::rest)) 1=[61]):=fun h=>Am h.2
 have bT:∀ s:ai,s=fX\/s=dE\/s=df\/s=cY->sign (t::(r++w::rest)) 0≠s:=by
  intro s hs;rcases Zh with h | h | h | h | h <;> rcases hs with rfl | rfl | rfl | rfl <;> (rw [h];decide)
 refine oT fun hd=>⟨fun hb=>?_,fun hb=>?_⟩
 ·obtain ⟨t',k1,k2⟩:=hx.1 hb;refine ⟨one 12 t.at_ [] [t'],by show er _=_;rw [dx,aL,k1,S.tree];rfl,rl fun f=>?_⟩;rw [rs,if_neg (by omega)];simp only;rw [if_neg (bT _ (by simp)),if_neg (fun h=>h.elim (bT _ (by simp)) (bT _ (by simp))),if_neg (bT _ (by simp))];simp only [simple];rw [if_neg b8,k2];simp only;rw [if_neg (fun h=>by have:=h.2.2;rw [sE h7 jS] at this;revert this;decide),qc h7 jS]
 ·obtain ⟨pos,k1⟩:=hx.2 hb;refine ⟨pos,rl fun f=>?_⟩;rw [rs,if_neg (by omega)];simp only;rw [if_neg (bT _ (by simp)),if_neg (fun h=>h.elim (bT _ (by simp)) (bT _ (by simp))),if_neg (bT _ (by simp))];simp only [simple];rw [if_neg b8,k1]
theorem Xj {s:ai} {a:E} {t u w:Tok} {A:List Tok} {sg:ai} (hn:bh s=true) (ho:a.ok=true) (h1:t.kind=2) (cv:t.s=s) (h3:u.kind=3) (jC:u.s=[91]) (h5:A.map kf=a.tk) (h7:w.kind=3) (jS:w.s=[93]) (hs:sign rest 0=sg) (nE:sg=[]\/sg=[41]\/sg=[93]\/sg=[44]\/sg=[59]\/sg=[61]) :
  Xx e d (t::u::(A++w::rest)) rest (fun x=>er x=(E.at_ s a).tree/\x.n.kind=3/\x.n.at_=t.at_/\x.n.s=s/\∃ y,x.kids=[y]/\er y=a.tree) (oZ (.at_ s a) d):=by
 have hl:t.s.length<=12:=by rw [cv];exact lE hn
 have hx:=(core a).rx (e:=e) (d:=d+1+1) (rest:=w::rest) (s:=[93]) ho h5 (sE h7 jS) (by simp)
 have ZF:Ro e (d+1) (t::u::(A++w::rest)) rest (fun x=>er x=(E.at_ s a).tree/\x.n.kind=3/\x.n.at_=t.at_/\x.n.s=s/\∃ y,x.kids=[y]/\er y=a.tree) ((E.at_ s a).fit (d+1)):=by
  rw [E.fit,Bool.and_assoc]
  refine rK fun hd=>⟨fun hb=>?_,fun hb=>?_⟩
  ·obtain ⟨t',k1,k2⟩:=hx.1 hb;exact ⟨one 3 t.at_ t.s [t'],⟨by rw [dx,aL,k1,cv,E.tree];rfl,rfl,rfl,cv,_,rfl,k1⟩,Ev.ix hd h1 hl h3 jC h7 jS k2⟩
  ·obtain ⟨pos,k1⟩:=hx.2 hb;exact ⟨pos,Ev.W8 hd h1 hl h3 jC k1⟩
 exact ((ZF.rt (Nat.zero_le 9) (Dh hs nE)).rx (AX hs nE)).xx
theorem NY (s:ai) (a b:E):qt (.put s a b):=by
 intro e d ts rest ho ht _;simp only [S.ok,Bool.and_eq_true] at ho;rw [S.tk] at ht;obtain ⟨t,r,rfl,h1,h2⟩:=map_cons ht;obtain ⟨u,r,rfl,h3,h4⟩:=map_cons h2;obtain ⟨A,B,rfl,h5,h6⟩:=cW h4;obtain ⟨w,r,rfl,h7,h8⟩:=map_cons h6;obtain ⟨q,r,rfl,h9,kF⟩:=map_cons h8;obtain ⟨B,C,rfl,nW,nB⟩:=cW kF;obtain ⟨z,rfl,eB⟩:=gz nB;obtain ⟨h1,cv⟩:=pg h1;obtain ⟨h3,jC⟩:=dM h3;obtain ⟨h7,jS⟩:=dM h7;obtain ⟨h9,CC⟩:=dM h9;obtain ⟨eB,zk⟩:=dM eB
 have he:t::u::(A++w::q::(B++[z]))++rest=t::u::(A++w::(q::(B++z::rest))):=by simp
 have Uc:=sE (rest:=B++z::rest) h9 CC;have hx:=Xj (e:=e) (d:=d+1) (rest:=q::(B++z::rest)) ho.1 ho.2.1 h1 cv h3 jC h5 h7 jS Uc (by simp);have hv:=uB (e:=e) (d:=d+1) (rest:=rest) ho.2.2 nW h9 CC eB zk (by simp);rw [he,S.fit]
 have b8:¬ (t.kind=2/\sign (t::u::(A++w::(q::(B++z::rest)))) 1=[61]):=fun h=>by
  have:=h.2;simp only [sign,List.getElem?_cons_succ,getElem?_cons_zero,bd,h3,if_true,jC] at this
  revert this;decide
 have bT:∀ s:ai,s≠[]->sign (t::u::(A++w::(q::(B++z::rest)))) 0≠s:=fun s hs=>hY h1 hs
 refine oT fun hd=>?_
 cases hfa:oZ (.at_ s a) (d+1) with
 | false =>
  refine ⟨fun hb=>(by cases hb),fun _=>?_⟩;obtain ⟨pos,k1⟩:=hx.2 hfa;refine ⟨pos,rl fun f=>?_⟩;rw [rs,if_neg (by omega)];simp only;rw [if_neg (bT _ (by decide)),if_neg (fun h=>h.elim (bT _ (by decide)) (bT _ (by decide))),if_neg (bT _ (by decide))];simp only [simple];rw [if_neg b8,k1]
 | true =>
  obtain ⟨x,⟨_,k1,k2,k3,y,k4,k5⟩,k6⟩:=hx.1 hfa;refine ⟨fun hb=>?_,fun hb=>?_⟩
  ·obtain ⟨v,k7,k8⟩:=hv.1 (by simpa using hb);refine ⟨one 8 t.at_ s [y,v],by show er _=_;rw [dx,aL,aL,k5,k7,S.tree];rfl,rl fun f=>?_⟩;rw [rs,if_neg (by omega)];simp only;rw [if_neg (bT _ (by decide)),if_neg (fun h=>h.elim (bT _ (by decide)) (bT _ (by decide))),if_neg (bT _ (by decide))];simp only [simple];rw [if_neg b8,k6];simp only;rw [if_pos ⟨k1,k2,Uc⟩,k8];simp only;rw [k3,k4];rfl
  ·obtain ⟨pos,k7⟩:=hv.2 (by simpa using hb);refine ⟨pos,rl fun f=>?_⟩;rw [rs,if_neg (by omega)];simp only;rw [if_neg (bT _ (by decide)),if_neg (fun h=>h.elim (bT _ (by decide)) (bT _ (by decide))),if_neg (bT _ (by decide))];simp only [simple];rw [if_neg b8,k6];simp only;rw [if_pos ⟨k1,k2,Uc⟩,k7]
end
end Go.Xp
