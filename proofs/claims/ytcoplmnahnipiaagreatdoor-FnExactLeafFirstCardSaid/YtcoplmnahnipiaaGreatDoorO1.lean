/- Part 1 of proofs that are told in their last texts. -/
open List (append_assoc cons_append getElem?_cons_zero length_cons length_drop length_take mem_of_getElem? nil_append tail_cons)
set_option linter.unusedVariables false
set_option linter.unusedSimpArgs false
set_option maxRecDepth 100000
namespace Go
theorem aq {A:Prop} (s:A:=by omega):A:=s
theorem av {A:Prop} (s:A:=by decide):A:=s
end Go
namespace Go.Xp
abbrev ai:=List UInt8
structure Tok where
 kind:Int
 n:Int
 s:ai
 at_:Int
structure Nd where
 kind:Int
 at_:Int
 n:Int
 s:ai
 kids:List Int
inductive T where
 | mk (n:Nd) (kids:List T)
def T.n:T->Nd | .mk n _=>n
def T.kids:T->List T | .mk _ k=>k
abbrev Er:=Int × Int
abbrev Rd (α:Type):=Except Er (α × List Tok)
def bo (t:Tok):ai:=if t.kind=3 then t.s else []
def sign (ts:List Tok) (k:Nat):ai:=match ts[k]? with | some t=>bo t | none=>[]
def place (e:Int):List Tok->Int
 | t::_=>t.at_
 | []=>e
def aO (e:Int) (s:ai) (ts:List Tok):Except Er (List Tok) :=
 if sign ts 0=s then .ok ts.tail else .error (7,place e ts)
def name (e:Int):List Tok->Rd ai
 | []=>.error (7,e)
 | t::r=>if t.kind=2 then (if t.s.length > 12 then .error (8,t.at_) else .ok (t.s,r)) else .error (7,t.at_)
def one (kind at_:Int) (s:ai) (kids:List T):T:=.mk ⟨kind,at_,0,s,[]⟩ kids
def levels:List (List ai):=[[[124,124]],[[38,38]],[[61,61],[33,61],[60],[62],[60,61],[62,61]],[[124]],[[94]],[[38]],[[60,60],[62,62]],[[43],[45]],[[42],[47],[37]]]
def aX:Er:=(-1,-1)
inductive ow where
 | expr (deep:Nat)
 | level (k deep:Nat)
 | loop (k deep:Nat) (out:T)
 | operand (deep:Nat)
def rd (e:Int):Nat->ow->List Tok->Rd T
 | 0,_,_=>.error aX
 | f+1,.expr deep,ts=>if deep > 60 then .error (9,place e ts) else rd e f (.level 0 (deep+1)) ts
 | f+1,.level k deep,ts =>
  if k=9 then rd e f (.operand deep) ts
  else match rd e f (.level (k+1) deep) ts with
   | .error x=>.error x
   | .ok (out,ts)=>rd e f (.loop k deep out) ts
 | f+1,.loop k deep out,ts =>
  match ts with
  | []=>.ok (out,ts)
  | t::r =>
   if t.kind=3/\t.s∈levels.getD k [] then
    match rd e f (.level (k+1) deep) r with
    | .error x=>.error x
    | .ok (b,r)=>rd e f (.loop k deep (one 6 t.at_ t.s [out,b])) r
   else .ok (out,ts)
 | f+1,.operand deep,ts =>
  if deep > 60 then .error (9,place e ts)
  else match ts with
  | []=>.error (7,e)
  | t::r =>
   if t.kind=3 then
    if t.s=[45]\/t.s=[33]\/t.s=[126] then
     match rd e f (.operand (deep+1)) r with
     | .error x=>.error x
     | .ok (a,r)=>.ok (one 5 t.at_ t.s [a],r)
    else if t.s=[40] then
     match rd e f (.expr (deep+1)) r with
     | .error x=>.error x
     | .ok (a,r)=>match aO e [41] r with
      | .error x=>.error x
      | .ok r=>.ok (a,r)
    else .error (7,t.at_)
   else if t.kind=1 then .ok (.mk ⟨1,t.at_,t.n,[],[]⟩ [],r)
   else match name e ts with
    | .error x=>.error x
    | .ok (s,r) =>
     if sign r 0=[91] then
      match rd e f (.expr (deep+1)) r.tail with
      | .error x=>.error x
      | .ok (a,r)=>match aO e [93] r with
       | .error x=>.error x
       | .ok r=>.ok (one 3 t.at_ s [a],r)
     else if sign r 0=[40] then
      match args e f (deep+1) [] r.tail with
      | .error x=>.error x
      | .ok (l,r)=>.ok (one 4 t.at_ s l,r)
     else .ok (one 2 t.at_ s [],r)
where
 args (e:Int):Nat->Nat->List T->List Tok->Rd (List T)
  | 0,_,_,_=>.error aX
  | f+1,deep,acc,ts =>
   if sign ts 0=[41] then .ok (acc,ts.tail)
   else match (if acc=[] then .ok ts else aO e [44] ts) with
    | .error x=>.error x
    | .ok ts=>match rd e f (.expr deep) ts with
     | .error x=>.error x
     | .ok (a,ts)=>args e f deep (acc++[a]) ts
def gw:ai:=[118,97,114]
def dL:ai:=[105,102]
def ei:ai:=[101,108,115,101]
def du:ai:=[119,104,105,108,101]
def db:ai:=[114,101,116,117,114,110]
def lp:ai:=[105,110,116]
def mD:ai:=[102,117,110,99]
inductive qo where
 | block (deep:Nat)
 | stmt (deep:Nat)
def mn (ts:List Tok):Nat:=20 * ts.length+20
def expr (e:Int) (deep:Nat) (ts:List Tok):Rd T:=rd e (mn ts) (.expr deep) ts
def inner (e:Int) (deep:Nat) (a b:ai) (ts:List Tok):Rd T :=
 match aO e a ts with
 | .error x=>.error x
 | .ok ts=>match expr e deep ts with
  | .error x=>.error x
  | .ok (t,ts)=>match aO e b ts with
   | .error x=>.error x
   | .ok ts=>.ok (t,ts)
def kP (e:Int) (deep:Nat) (ts:List Tok):Rd (ai × T) :=
 match name e ts with
 | .error x=>.error x
 | .ok (s,ts)=>match inner e deep [61] [59] ts with
  | .error x=>.error x
  | .ok (t,ts)=>.ok ((s,t),ts)
def simple (e:Int) (deep:Nat) (ts:List Tok):Rd T :=
 match ts with
 | []=>match expr e (deep+1) [] with
  | .error x=>.error x
  | .ok _=>.error (7,e)
 | t::_ =>
  if t.kind=2/\sign ts 1=[61] then
   match kP e (deep+1) ts with
   | .error x=>.error x
   | .ok ((s,a),ts)=>.ok (one 7 t.at_ s [a],ts)
  else match expr e (deep+1) ts with
   | .error x=>.error x
   | .ok (a,ts) =>
    if a.n.kind=3/\a.n.at_=t.at_/\sign ts 0=[61] then
     match inner e (deep+1) [61] [59] ts with
     | .error x=>.error x
     | .ok (v,ts)=>.ok (one 8 t.at_ a.n.s (a.kids.take 1++[v]),ts)
    else match aO e [59] ts with
     | .error x=>.error x
     | .ok ts=>.ok (one 12 t.at_ [] [a],ts)
def rs (e:Int):Nat->qo->List Tok->Rd T
 | 0,_,_=>.error aX
 | f+1,.block deep,ts =>
  if deep > 60 then .error (9,place e ts)
  else match aO e [123] ts with
   | .error x=>.error x
   | .ok r=>match body e f (deep+1) [] r with
    | .error x=>.error x
    | .ok (l,r)=>.ok (one 14 (place e ts) [] l,r)
 | f+1,.stmt deep,ts =>
  if deep > 60 then .error (9,place e ts)
  else
   let at_:=place e ts
   if sign ts 0=gw then
    match kP e (deep+1) ts.tail with
    | .error x=>.error x
    | .ok ((s,a),ts)=>.ok (one 13 at_ s [a],ts)
   else if sign ts 0=dL\/sign ts 0=du then
    match inner e (deep+1) [40] [41] ts.tail with
    | .error x=>.error x
    | .ok (c,r)=>match rs e f (.block (deep+1)) r with
     | .error x=>.error x
     | .ok (b,r) =>
      if sign ts 0=dL then
       if sign r 0=ei then
        match rs e f (.block (deep+1)) r.tail with
        | .error x=>.error x
        | .ok (b2,r)=>.ok (one 9 at_ [] [c,b,b2],r)
       else .ok (one 9 at_ [] [c,b],r)
      else .ok (one 10 at_ [] [c,b],r)
   else if sign ts 0=db then
    match expr e (deep+1) ts.tail with
    | .error x=>.error x
    | .ok (a,ts)=>match aO e [59] ts with
     | .error x=>.error x
     | .ok ts=>.ok (one 11 at_ [] [a],ts)
   else simple e deep ts
where
 body (e:Int):Nat->Nat->List T->List Tok->Rd (List T)
  | 0,_,_,_=>.error aX
  | f+1,deep,acc,ts =>
   if sign ts 0=[125] then .ok (acc,ts.tail)
   else match rs e f (.stmt deep) ts with
    | .error x=>.error x
    | .ok (a,ts)=>body e f deep (acc++[a]) ts
def block (e:Int) (deep:Nat) (ts:List Tok):Rd T:=rs e (mn ts) (.block deep) ts
structure Ar where
 name:ai
 size:Int
structure aI where
 name:ai
 params:List ai
 tree:T
structure Prog where
 globals:List ai
 arrays:List Ar
 fns:List aI
end Go.Xp
namespace Go.Sp
open Go.Xp
structure RS where
 l:List Tok
 i:Nat
 e:Int
 code:Int
 at_:Int
def RS.ok (p:RS):Prop:=p.i<=p.l.length/\p.l.length<=1099511627776
def RS.place (p:RS):Int:=match p.l[p.i]? with | some t=>t.at_ | none=>p.e
def RS.fail (p:RS) (c a:Int):RS:=if p.code=0 then ⟨p.l,p.i,p.e,c,a⟩ else p
def RS.sign (p:RS) (k:Nat):ai:=if p.code=0 then (match p.l[p.i+k]? with | some t=>bo t | none=>[]) else []
def RS.next (p:RS):RS:=⟨p.l,p.i+1,p.e,p.code,p.at_⟩
def RS.aO (p:RS) (s:ai):RS:=if p.sign 0=s then p.next else p.fail 7 p.place
def RS.name (p:RS):ai × RS :=
 if p.code=0 then match p.l[p.i]? with
  | some t=>if t.kind=2 then (if t.s.length > 12 then ([],p.fail 8 t.at_) else (t.s,p.next)) else ([],p.fail 7 p.place)
  | none=>([],p.fail 7 p.place)
 else ([],p)
def RS.deep (p:RS) (d:Nat):RS:=if d > 60 then p.fail 9 p.place else p
def T.zero:T:=.mk ⟨0,0,0,[],[]⟩ []
inductive J where
 | expr (d:Nat)
 | level (k d:Nat)
 | loop (k d:Nat) (out:T)
 | operand (d:Nat)
 | named (at_:Int) (s:ai) (d:Nat)
mutual
def mE:Nat->J->RS->Option (T × RS)
 | 0,_,_=>none
 | f+1,.expr d,p=>mE f (.level 0 d) (p.deep d)
 | f+1,.level k d,p =>
  if k=9 then mE f (.operand (d+1)) p
  else match mE f (.level (k+1) d) p with
   | none=>none
   | some (out,p)=>mE f (.loop k d out) p
 | f+1,.loop k d out,p =>
  if p.code=0/\(levels.getD k []).contains (p.sign 0)=true then
   match p.l[p.i]? with
   | none=>none
   | some t=>match mE f (.level (k+1) d) p.next with
    | none=>none
    | some (b,p)=>mE f (.loop k d (one 6 t.at_ t.s [out,b])) p
  else some (out,p)
 | f+1,.operand d,p =>
  let p:=p.deep d
  if p.code=0 then match p.l[p.i]? with
   | none=>some (T.zero,p.fail 7 p.place)
   | some t =>
    if t.kind=1 then some (.mk ⟨1,t.at_,t.n,[],[]⟩ [],p.next)
    else if t.kind=2 then mE f (.named t.at_ p.name.1 d) p.name.2
    else if t.s=[45]\/t.s=[33]\/t.s=[126] then match mE f (.operand (d+1)) p.next with
     | none=>none
     | some (a,p)=>some (one 5 t.at_ t.s [a],p)
    else if t.s=[40] then match mE f (.expr (d+1)) p.next with
     | none=>none
     | some (a,p)=>some (a,p.aO [41])
    else some (T.zero,p.fail 7 t.at_)
  else some (T.zero,p.fail 7 p.place)
 | f+1,.named at_ s d,p =>
  if p.sign 0=[91] then match mE f (.expr (d+1)) p.next with
   | none=>none
   | some (a,p)=>some (one 3 at_ s [a],p.aO [93])
  else if p.sign 0=[40] then match mL f (d+1) p.next with
   | none=>none
   | some (l,p)=>some (one 4 at_ s l,p)
  else some (one 2 at_ s [],p)
def mL:Nat->Nat->RS->Option (List T × RS)
 | 0,_,_=>none
 | f+1,d,p=>if p.sign 0=[41] then some ([],p.aO [41]) else match mE f (.expr d) p with
  | none=>none
  | some (a,p)=>th f d [a] p
def th:Nat->Nat->List T->RS->Option (List T × RS)
 | 0,_,_,_=>none
 | f+1,d,acc,p=>if p.sign 0=[44] then match mE f (.expr d) p.next with
   | none=>none
   | some (a,p)=>th f d (acc++[a]) p
  else some (acc,p.aO [41])
end
def RS.nD (p:RS):Bool:=match p.l[p.i]? with | some t=>decide (t.kind=2) | none=>false
def RS.ck (p:RS):Int:=if p.sign 0=dL then 9 else 10
inductive JS where
 | block (d:Nat)
 | stmt (d:Nat)
 | cond (at_:Int) (d:Nat)
def fe (p:RS):Nat:=100 * p.l.length+2000
def mX (d:Nat) (p:RS):Option (T × RS):=mE (fe p) (.expr d) p
mutual
def mS:Nat->JS->RS->Option (T × RS)
 | 0,_,_=>none
 | f+1,.block d,p =>
  let p:=p.deep d
  match mB f (d+1) [] (p.aO [123]) with
  | none=>none
  | some (l,q)=>some (one 14 p.place [] l,q.aO [125])
 | f+1,.stmt d,p =>
  let p:=p.deep d
  let at_:=p.place
  let s:=p.sign 0
  if s=gw then match mX (d+1) ((p.next.name.2).aO [61]) with
   | none=>none
   | some (e,q)=>some (one 13 at_ p.next.name.1 [e],q.aO [59])
  else if s=dL\/s=du then mS f (.cond at_ d) p
  else if s=db then match mX (d+1) p.next with
   | none=>none
   | some (e,q)=>some (one 11 at_ [] [e],q.aO [59])
  else if p.code=0/\p.nD=true/\p.sign 1=[61] then match mX (d+1) (p.name.2.aO [61]) with
   | none=>none
   | some (e,q)=>some (one 7 at_ p.name.1 [e],q.aO [59])
  else match mX (d+1) p with
   | none=>none
   | some (e,q) =>
    if e.n.kind=3/\e.n.at_=at_/\q.sign 0=[61] then match e.kids,mX (d+1) q.next with
     | a::_,some (v,q)=>some (one 8 at_ e.n.s [a,v],q.aO [59])
     | _,_=>none
    else some (one 12 at_ [] [e],q.aO [59])
 | f+1,.cond at_ d,p =>
  match mX (d+1) (p.next.aO [40]) with
  | none=>none
  | some (e,q)=>match mS f (.block (d+1)) (q.aO [41]) with
   | none=>none
   | some (b,q) =>
    if p.ck=9/\q.sign 0=ei then match mS f (.block (d+1)) q.next with
     | none=>none
     | some (b2,q)=>some (one p.ck at_ [] [e,b,b2],q)
    else some (one p.ck at_ [] [e,b],q)
def mB:Nat->Nat->List T->RS->Option (List T × RS)
 | 0,_,_,_=>none
 | f+1,d,acc,p=>if p.code=0/\¬ p.sign 0=[125] then match mS f (.stmt d) p with
   | none=>none
   | some (a,p)=>mB f d (acc++[a]) p
  else some (acc,p)
end
theorem fv {p:RS} {k:Nat} {s:ai} (h:p.sign k=s) (hs:s≠[]):p.i+k < p.l.length/\p.code=0:=by
 unfold RS.sign at h;split at h
 ·rename_i hc;refine ⟨Nat.lt_of_not_le fun hn=>?_,hc⟩;rw [List.getElem?_eq_none_iff.2 hn] at h;exact hs h.symm
 ·exact absurd h.symm hs
def RS.to (p q:RS):Prop:=q.l=p.l/\q.e=p.e/\q.i<=q.l.length/\p.i<=q.i
theorem RS.to.ok {p q:RS} (h:p.to q) (hp:p.ok):q.ok:=⟨h.2.2.1,by rw [h.1];exact hp.2⟩
theorem RS.to.trans {p q r:RS} (h:p.to q) (k:q.to r):p.to r:=⟨k.1.trans h.1,k.2.1.trans h.2.1,k.2.2.1,Nat.le_trans h.2.2.2 k.2.2.2⟩
theorem jJ {p:RS} (hp:p.ok):p.to p:=⟨rfl,rfl,hp.1,Nat.le_refl _⟩
theorem lK {p:RS} (hp:p.ok) (c a:Int):p.to (p.fail c a):=by
 unfold RS.fail;split
 ·exact ⟨rfl,rfl,hp.1,Nat.le_refl _⟩
 ·exact jJ hp
theorem dw {p:RS} (h:p.i < p.l.length):p.to p.next:=⟨rfl,rfl,h,Nat.le_succ _⟩
theorem fi {p:RS} (hp:p.ok) {s:ai} (hs:s≠[]):p.to (p.aO s):=by
 unfold RS.aO;split
 ·rename_i h;exact dw (by have:=(fv h hs).1;omega)
 ·exact lK hp _ _
theorem qI {p:RS} (hp:p.ok):p.to p.name.2:=by
 unfold RS.name;split
 ·cases ht:p.l[p.i]? with
  | none=>exact lK hp _ _
  | some t =>
   simp only;have ao:=(List.getElem?_eq_some_iff.1 ht).1;split
   ·split
    ·exact lK hp _ _
    ·exact dw ao
   ·exact lK hp _ _
 ·exact jJ hp
theorem nX {p:RS} (hp:p.ok) (d:Nat):p.to (p.deep d):=by
 unfold RS.deep;split
 ·exact lK hp _ _
 ·exact jJ hp
theorem jc {p:RS} {s:ai} (h:p.sign 0=s) (hs:s≠[]):p.to p.next:=dw (by have:=(fv h hs).1;omega)
theorem ue:∀ (f:Nat),(∀ j p t q,p.ok->mE f j p=some (t,q)->p.to q)/\(∀ d p l q,p.ok->mL f d p=some (l,q)->p.to q)/\(∀ d acc p l q,p.ok->th f d acc p=some (l,q)->p.to q)
 | 0=>⟨fun j p t q _ h=>by simp [mE] at h,fun d p l q _ h=>by simp [mL] at h,fun d acc p l q _ h=>by simp [th] at h⟩
 | f+1=>by
  obtain ⟨h1,h2,h3⟩:=ue f;refine ⟨fun j p t q hp h=>?_,fun d p l q hp h=>?_,fun d acc p l q hp h=>?_⟩
  ·cases j with
   | expr d=>rw [mE] at h;exact (nX hp d).trans (h1 _ _ _ _ ((nX hp d).ok hp) h)
   | level k d =>
    rw [mE] at h;split at h
    ·exact h1 _ _ _ _ hp h
    ·split at h
     ·cases h
     ·rename_i out p' he;have:=h1 _ _ _ _ hp he;exact this.trans (h1 _ _ _ _ (this.ok hp) h)
   | loop k d out =>
    rw [mE] at h;split at h
    ·split at h
     ·cases h
     ·rename_i t' ht;have hn:=dw (p:=p) (List.getElem?_eq_some_iff.1 ht).1;split at h
      ·cases h
      ·rename_i b p' he;have:=hn.trans (h1 _ _ _ _ (hn.ok hp) he);exact this.trans (h1 _ _ _ _ (this.ok hp) h)
    ·cases h;exact jJ hp
   | operand d =>
    rw [mE] at h;have hd:=nX hp d;have kD:=hd.ok hp;refine hd.trans ?_;generalize p.deep d=p at *
    try simp only at h
    split at h
    ·split at h
     ·cases h;exact lK kD _ _
     ·rename_i t' ht;have hn:=dw (p:=p) (List.getElem?_eq_some_iff.1 ht).1;split at h
      ·cases h;exact hn
      ·split at h
       ·exact (qI kD).trans (h1 _ _ _ _ ((qI kD).ok kD) h)
       ·split at h
        ·split at h
         ·cases h
         ·rename_i a p' he
          cases h;exact hn.trans (h1 _ _ _ _ (hn.ok kD) he)
        ·split at h
         ·split at h
          ·cases h
          ·rename_i a p' he;have:=hn.trans (h1 _ _ _ _ (hn.ok kD) he)
           cases h;exact this.trans (fi (this.ok kD) av)
         ·cases h;exact lK kD _ _
    ·cases h;exact lK kD _ _
   | named a s d =>
    rw [mE] at h;split at h
    ·rename_i hs;have hn:=jc hs av;split at h
     ·cases h
     ·rename_i a' p' he;have:=hn.trans (h1 _ _ _ _ (hn.ok hp) he)
      cases h;exact this.trans (fi (this.ok hp) av)
    ·split at h
     ·rename_i hs;have hn:=jc hs av;split at h
      ·cases h
      ·rename_i a' p' he
       cases h;exact hn.trans (h2 _ _ _ _ (hn.ok hp) he)
     ·cases h;exact jJ hp
  ·rw [mL] at h;split at h
   ·cases h;exact fi hp av
   ·split at h
    ·cases h
    ·rename_i a p' he;have:=h1 _ _ _ _ hp he;exact this.trans (h3 _ _ _ _ _ (this.ok hp) h)
  ·rw [th] at h;split at h
   ·rename_i hs;have hn:=jc hs av;split at h
    ·cases h
    ·rename_i a p' he;have:=hn.trans (h1 _ _ _ _ (hn.ok hp) he);exact this.trans (h3 _ _ _ _ _ (this.ok hp) h)
   ·cases h;exact fi hp av
def small (c:UInt8):Bool:=decide ((97:Int)<=(c.toNat:Int))&&decide ((c.toNat:Int)<=122)
def dW (c:UInt8):Bool:=decide ((48:Int)<=(c.toNat:Int))&&decide ((c.toNat:Int)<=57)
def dN (c:UInt8):Bool:=small c || (decide ((65:Int)<=(c.toNat:Int))&&decide ((c.toNat:Int)<=90)) || dW c || ((c.toNat:Int)==95)
def dD (c:UInt8):Bool:=((c.toNat:Int)==32) || ((c.toNat:Int)==9) || ((c.toNat:Int)==10) || ((c.toNat:Int)==13)
def bA (s:ai) (at_:Nat) (t:ai):Bool:=decide (at_+t.length<=s.length)&&((s.take (at_+t.length)).drop at_==t)
def eQ (s:ai):Nat->Nat->Nat
 | 0,e=>e
 | f+1,e=>if e < s.length/\bA s e [42,47]=false then eQ s f (e+1) else e
def skip (s:ai):Nat->Nat->Nat × Int
 | 0,at_=>(at_,-1)
 | f+1,at_=>match s[at_]? with
  | none=>(at_,-1)
  | some c =>
   if dD c=true then skip s f (at_+1)
   else if bA s at_ [47,42]=true then
    let e:=eQ s s.length (at_+2)
    if s.length<=e then (at_,(at_:Int)) else skip s f (e+2)
   else (at_,-1)
theorem jt {s t:ai} {a:Nat} (h:bA s a t=true):a+t.length<=s.length:=by
 simp only [bA,Bool.and_eq_true,decide_eq_true_eq] at h;exact h.1
theorem rV (s:ai):∀ (f e:Nat),e<=s.length->e<=eQ s f e/\eQ s f e<=s.length
 | 0,e,h=>⟨Nat.le_refl _,h⟩
 | f+1,e,h=>by
  rw [eQ];split
  ·rename_i hc;have:=rV s f (e+1) hc.1;omega
  ·exact ⟨Nat.le_refl _,h⟩
theorem qP (s:ai):∀ (f e:Nat),e<=s.length->s.length<=f+e->¬ (eQ s f e < s.length/\bA s (eQ s f e) [42,47]=false)
 | 0,e,h,hf=>by rw [eQ];omega
 | f+1,e,h,hf=>by
  rw [eQ];split
  ·rename_i hc;exact qP s f (e+1) hc.1 aq
  ·assumption
def number (s:ai):Nat->Int->Nat->Int × Nat
 | 0,n,a=>(n,a)
 | f+1,n,a=>match s[a]? with
  | none=>(n,a)
  | some c=>if dW c=true then number s f (if n<=2147483647 then n * 10+((c.toNat:Int) - 48) else n) (a+1) else (n,a)
def run (s:ai) (p:UInt8->Bool):Nat->Nat->Nat
 | 0,a=>a
 | f+1,a=>match s[a]? with
  | none=>a
  | some c=>if p c=true then run s p f (a+1) else a
def words:List ai:=[[105,110,116],[118,97,114],[102,117,110,99],[105,102],[101,108,115,101],[119,104,105,108,101],[114,101,116,117,114,110]]
def bI:List ai:=[[124,124],[38,38],[61,61],[33,61],[60,61],[62,61],[60,60],[62,62],[40],[41],[123],[125],[91],[93],[44],[59],[61],[60],[62],[43],[45],[42],[47],[37],[38],[124],[94],[33],[126]]
def eB (s:ai) (a:Nat):Nat:=run s dN (s.length+1) a
def eZ (s:ai) (a:Nat):ai:=(s.take (eB s a)).drop a
def iK (s:ai) (a:Nat) (c:UInt8):Tok × Nat :=
 if dW c=true then (⟨1,(number s (s.length+1) 0 a).1,[],a⟩,(number s (s.length+1) 0 a).2)
 else if small c=true then (⟨if words.contains (eZ s a)=true then 3 else 2,0,eZ s a,a⟩,eB s a)
 else match bI.find? (bA s a) with
  | some x=>(⟨3,0,x,a⟩,a+x.length)
  | none=>(⟨0,0,[],0⟩,a)
def qb (s:ai):Nat->Nat->List Tok->Option (List Tok)
 | 0,_,_=>none
 | f+1,a,acc=>match s[a]? with
  | none=>some acc
  | some c=>qb s f (skip s (s.length+1) (iK s a c).2).1 (acc++[(iK s a c).1])
def iz (s:ai):Option (List Tok):=qb s (s.length+2) (skip s (s.length+1) 0).1 []
def word (s:ai):Bool:=s.all dN&&(match s with | []=>false | c::_=>small c)
def bs (s:ai):Bool:=word s&&decide (s.length<=12)&&!(words.contains s)
theorem wy (s:ai):∀ (f:Nat) (n:Int) (a:Nat),a<=s.length->s.length < f+a->(∀ c,s[(number s f n a).2]?=some c->dW c=false)/\a<=(number s f n a).2/\(number s f n a).2<=s.length
 | 0,n,a,h1,h2=>by omega
 | f+1,n,a,h1,h2=>by
  rw [number]
  cases hc:s[a]? with
  | none=>exact ⟨fun c h=>(by rw [hc] at h;cases h),Nat.le_refl _,h1⟩
  | some c =>
   simp only;have ao:=(List.getElem?_eq_some_iff.1 hc).1
   by_cases hd:dW c=true
   ·rw [if_pos hd];obtain ⟨h3,h4,h5⟩:=wy s f (if n<=2147483647 then n * 10+((c.toNat:Int) - 48) else n) (a+1) aq aq;exact ⟨h3,by omega,h5⟩
   ·rw [if_neg hd];exact ⟨fun c' h=>(by rw [hc] at h;cases h;simpa using hd),Nat.le_refl _,h1⟩
theorem py (s:ai) (p:UInt8->Bool):∀ (f:Nat) (a:Nat),a<=s.length->s.length < f+a->(∀ c,s[run s p f a]?=some c->p c=false)/\a<=run s p f a/\run s p f a<=s.length
 | 0,a,h1,h2=>by omega
 | f+1,a,h1,h2=>by
  rw [run]
  cases hc:s[a]? with
  | none=>exact ⟨fun c h=>(by rw [hc] at h;cases h),Nat.le_refl _,h1⟩
  | some c =>
   simp only;have ao:=(List.getElem?_eq_some_iff.1 hc).1
   by_cases hd:p c=true
   ·rw [if_pos hd];obtain ⟨h3,h4,h5⟩:=py s p f (a+1) aq aq;exact ⟨h3,by omega,h5⟩
   ·rw [if_neg hd];exact ⟨fun c' h=>(by rw [hc] at h;cases h;simpa using hd),Nat.le_refl _,h1⟩
theorem yK (s:ai):∀ (f a:Nat),a<=s.length->a<=(skip s f a).1/\(skip s f a).1<=s.length
 | 0,a,h=>⟨Nat.le_refl _,h⟩
 | f+1,a,h=>by
  rw [skip]
  cases hc:s[a]? with
  | none=>exact ⟨Nat.le_refl _,h⟩
  | some c =>
   simp only;have ao:=(List.getElem?_eq_some_iff.1 hc).1;split
   ·have:=yK s f (a+1) ao;omega
   ·split
    ·rename_i hb;have hb:=jt hb;have hb:a+2<=s.length:=hb;have h1:=rV s s.length (a+2) hb;have h2:=qP s s.length (a+2) hb aq;split
     ·exact ⟨Nat.le_refl _,h⟩
     ·rename_i hn
      have h3:bA s (eQ s s.length (a+2)) [42,47]=true:=by
       cases n8:bA s (eQ s s.length (a+2)) [42,47] with
       | true=>rfl
       | false=>exact absurd ⟨by omega,n8⟩ h2
      have h3:=jt h3;have h3:eQ s s.length (a+2)+2<=s.length:=h3;have:=yK s f (eQ s s.length (a+2)+2) h3;omega
    ·exact ⟨Nat.le_refl _,h⟩
theorem oT {d:Nat} {p q:RS} {t:T} (hp:p.ok) (h:mX d p=some (t,q)):p.to q:=(ue _).1 _ _ _ _ hp h
theorem Kh:∀ (f:Nat),(∀ j p t q,p.ok->(∀ a d,j=.cond a d->p.i < p.l.length)->mS f j p=some (t,q)->p.to q)/\(∀ d acc p l q,p.ok->mB f d acc p=some (l,q)->p.to q)
 | 0=>⟨fun j p t q _ _ h=>by simp [mS] at h,fun d acc p l q _ h=>by simp [mB] at h⟩
 | f+1=>by
  obtain ⟨h1,h2⟩:=Kh f
  have dA:∀ d (p:RS) t q,p.ok->mS f (.block d) p=some (t,q)->p.to q:=fun d p t q hp h=>h1 _ _ _ _ hp (fun a d' h=>by cases h) h
  refine ⟨fun j p t q hp nf h=>?_,fun d acc p l q hp h=>?_⟩
  ·cases j with
   | block d =>
    rw [mS] at h;have hd:=nX hp d;refine hd.trans ?_;have kD:=hd.ok hp;generalize p.deep d=p at *
    try simp only at h
    have hm:=fi kD (s:=[123]) av;split at h
    ·cases h
    ·rename_i l p' he;have:=hm.trans (h2 _ _ _ _ _ (hm.ok kD) he)
     cases h;exact this.trans (fi (this.ok kD) av)
   | stmt d =>
    rw [mS] at h;have hd:=nX hp d;refine hd.trans ?_;have kD:=hd.ok hp;generalize p.deep d=p at *
    try simp only at h
    split at h
    ·rename_i hs;have hn:=jc hs av;have eN:=hn.trans (qI (hn.ok kD));have jS:=eN.trans (fi (eN.ok kD) (s:=[61]) av);split at h
     ·cases h
     ·rename_i e p' he;have:=jS.trans (oT (jS.ok kD) he)
      cases h;exact this.trans (fi (this.ok kD) av)
    ·split at h
     ·rename_i hs;refine h1 _ _ _ _ kD (fun a d' _=>?_) h
      rcases hs with hs | hs
      ·exact (fv hs av).1
      ·exact (fv hs av).1
     ·split at h
      ·rename_i hs;have hn:=jc hs av;split at h
       ·cases h
       ·rename_i e p' he;have:=hn.trans (oT (hn.ok kD) he)
        cases h;exact this.trans (fi (this.ok kD) av)
      ·split at h
       ·have eN:=qI kD;have jS:=eN.trans (fi (eN.ok kD) (s:=[61]) av);split at h
        ·cases h
        ·rename_i e p' he;have:=jS.trans (oT (jS.ok kD) he)
         cases h;exact this.trans (fi (this.ok kD) av)
       ·split at h
        ·cases h
        ·rename_i e p' he;have hx:=oT kD he;split at h
         ·rename_i hs;have hn:=hx.trans (jc hs.2.2 av);split at h
          ·rename_i a r v p2 hk pg;have:=hn.trans (oT (hn.ok kD) pg)
           cases h;exact this.trans (fi (this.ok kD) av)
          ·cases h
         ·cases h;exact hx.trans (fi (hx.ok kD) av)
   | cond a d =>
    rw [mS] at h;have hn:=dw (nf a d rfl);have hm:=hn.trans (fi (hn.ok hp) (s:=[40]) av)
    try simp only at h
    split at h
    ·cases h
    ·rename_i e p' he;have hx:=hm.trans (oT (hm.ok hp) he);have Fb:=hx.trans (fi (hx.ok hp) (s:=[41]) av);split at h
     ·cases h
     ·rename_i b p2 hb;have eL:=Fb.trans (dA _ _ _ _ (Fb.ok hp) hb);split at h
      ·rename_i hs;have bP:=eL.trans (jc hs.2 av);split at h
       ·cases h
       ·rename_i b2 p3 xy
        cases h;exact bP.trans (dA _ _ _ _ (bP.ok hp) xy)
      ·cases h;exact eL
  ·rw [mB] at h;split at h
   ·split at h
    ·cases h
    ·rename_i a p' he;have:=h1 _ _ _ _ hp (fun a d' h=>by cases h) he;exact this.trans (h2 _ _ _ _ _ (this.ok hp) h)
   ·cases h;exact jJ hp
structure Fn where
 name:ai
 params:List ai
 body:Int
structure Src where
 globals:List ai
 arrays:List Ar
 fns:List Fn
 nodes:List Nd
def mA (k:Int):Bool:=decide ((1:Int)<=k)&&decide (k<=6)
def gi (k:Int):Bool:=decide ((7:Int)<=k)&&decide (k<=13)
def bp (from_:Nat):Nat->List T->Bool
 | _,[]=>true
 | i,t::r=>(if i < from_ then mA t.n.kind else t.n.kind==14)&&bp from_ (i+1) r
def eA (s:ai):Bool:=levels.any fun l=>l.contains s
mutual
def sub (nodes:List Nd):Nat->Nat->Option T
 | 0,_=>none
 | f+1,a=>match nodes[a]? with
  | none=>none
  | some n=>match ou nodes f n.kids [] with
   | none=>none
   | some l=>some (.mk n l)
def ou (nodes:List Nd):Nat->List Int->List T->Option (List T)
 | _,[],acc=>some acc
 | 0,_::_,_=>none
 | f+1,k::r,acc=>if k < 0 then none else match sub nodes f k.toNat with
  | none=>none
  | some t=>ou nodes f r (acc++[t])
end
mutual
def oh (nodes:List Nd):Nat->Nat->Nat->Option Int
 | 0,_,_=>none
 | f+1,a,d=>if nodes.length<=a\/d > 800 then some (-1) else match nodes[a]? with
  | none=>none
  | some n=>nr nodes f n.kids (a+1) d
def nr (nodes:List Nd):Nat->List Int->Int->Nat->Option Int
 | _,[],next,_=>some next
 | 0,_::_,_,_=>none
 | f+1,k::r,next,d=>if k=next then match oh nodes f k.toNat (d+1) with
   | none=>none
   | some e=>if e < 0 then some (-1) else nr nodes f r e d
  else some (-1)
end
def own (n:Nd) (k:Nat) (kd:Nat->Bool) (bl:Bool):Bool :=
 if decide (n.at_ < 0) then false else if n.kind != 1&&n.n != 0 then false
 else if n.kind==1 then decide ((0:Int)<=n.n)&&(decide (n.n<=2147483647)&&(n.s==[]&&(k:Int)==0))
 else if n.kind==2 then bs n.s&&(k:Int)==0
 else if n.kind==3 || n.kind==7 || n.kind==13 then bs n.s&&((k:Int)==1&&kd 1)
 else if n.kind==4 then bs n.s&&kd k
 else if n.kind==5 then (n.s==[45] || n.s==[33] || n.s==[126])&&((k:Int)==1&&kd 1)
 else if n.kind==6 then eA n.s&&((k:Int)==2&&kd 2)
 else if n.kind==8 then bs n.s&&((k:Int)==2&&kd 2)
 else if n.kind==9 then n.s==[]&&(((k:Int)==2 || (k:Int)==3)&&kd 1)
 else if n.kind==10 then n.s==[]&&((k:Int)==2&&kd 1)
 else if n.kind==11 || n.kind==12 then n.s==[]&&((k:Int)==1&&kd 1)
 else if n.kind==14 then bl&&n.s==[]
 else false
def bO (t:T):Bool:=own t.n t.kids.length (fun m=>bp m 0 t.kids) (t.kids.all fun x=>gi x.n.kind)
mutual
def c6:T->Bool
 | .mk n l=>bX l&&bO (.mk n l)
def bX:List T->Bool
 | []=>true
 | t::r=>c6 t&&bX r
end
mutual
def F9:T->Prop
 | .mk n l=>n.s.length<=1099511627776/\l.length<=1099511627776/\wE l
def wE:List T->Prop
 | []=>True
 | t::r=>F9 t/\wE r
end
theorem Gb:∀ {l:List T} {t:T},wE l->t∈l->F9 t
 | [],_,_,h=>by cases h
 | a::r,t,h,hm=>by
  rw [wE] at h
  rcases List.mem_cons.mp hm with rfl | hm
  ·exact h.1
  ·exact Gb h.2 hm
theorem Ga:∀ {l:List T} {t:T},wE l->F9 t->wE (l++[t])
 | [],t,_,ht=>⟨ht,trivial⟩
 | a::r,t,h,ht=>by
  rw [wE] at h;exact ⟨h.1,Ga h.2 ht⟩
theorem VO {nodes:List Nd} (hk:∀ n∈nodes,n.s.length<=1099511627776/\n.kids.length<=1099511627776):∀ f:Nat,(∀ a t,sub nodes f a=some t->F9 t)/\(∀ ks acc l,ou nodes f ks acc=some l->acc.length+ks.length=l.length/\(wE acc->wE l)):=by
 intro f
 induction f with
 | zero =>
  refine ⟨fun a t h=>by simp [sub] at h,fun ks acc l h=>?_⟩
  cases ks with
  | nil=>rw [ou] at h;cases h;exact ⟨by simp,id⟩
  | cons k r=>simp [ou] at h
 | succ f ih =>
  constructor
  ·intro a t h;rw [sub] at h
   cases hn:nodes[a]? with
   | none=>rw [hn] at h;cases h
   | some n =>
   rw [hn] at h;simp only at h
   cases hs:ou nodes f n.kids [] with
   | none=>rw [hs] at h;cases h
   | some l =>
   rw [hs] at h;cases h;have hi:=ih.2 _ _ _ hs;have hb:=hk n (mem_of_getElem? hn);exact ⟨hb.1,by have:=hi.1;simp at this;omega,hi.2 trivial⟩
  ·intro ks acc l h
   cases ks with
   | nil=>rw [ou] at h;cases h;exact ⟨by simp,id⟩
   | cons k r =>
    rw [ou] at h
    by_cases zh:k < 0
    ·rw [if_pos zh] at h;cases h
    rw [if_neg zh] at h
    cases hs:sub nodes f k.toNat with
    | none=>rw [hs] at h;cases h
    | some t =>
    rw [hs] at h;simp only at h;have h2:=ih.2 _ _ _ h;refine ⟨by have:=h2.1;simp at this |-;omega,fun ha=>h2.2 (Ga ha (ih.1 _ _ hs))⟩
def cw:List ai->Bool:=fun l=>l.all bs
def og (a:Ar):Bool:=bs a.name&&!(decide (a.size < 0))&&!(decide (2147483647 < a.size))
def fN (nodes:List Nd):Nat:=2 * nodes.length+4
def fR (nodes:List Nd):List Fn->Int->Option (Option Int)
 | [],next=>some (some next)
 | f::r,next=>match oh nodes (fN nodes) next.toNat 0 with
  | none=>none
  | some e=>if f.body≠next\/bs f.name=false\/e < 0 then some none else if cw f.params=false then some none else match sub nodes (fN nodes) next.toNat with
   | none=>none
   | some t=>if t.n.kind≠14\/c6 t=false then some none else fR nodes r e
def nW (p:Src):Option Bool :=
 if cw p.globals=false then some false else if p.arrays.all og=false then some false else match fR p.nodes p.fns 0 with
  | none=>none
  | some none=>some false
  | some (some next)=>some (next==(p.nodes.length:Int)&&decide (next<=800))
end Go.Sp
namespace Go.Xp
theorem Ch {e:Int} {s:ai} {ts r:List Tok} (h:aO e s ts=.ok r):r=ts.tail/\sign ts 0=s:=by
 unfold aO at h;split at h
 ·cases h;exact ⟨rfl,by assumption⟩
 ·cases h
theorem wo {e:Int} {s:ai} {ts r:List Tok} (h:aO e s ts=.ok r):r.length<=ts.length:=by
 rw [(Ch h).1,List.length_tail];omega
theorem yE {e:Int} {s:ai} {ts r:List Tok} (hs:s≠[]) (h:aO e s ts=.ok r):r.length < ts.length:=by
 obtain ⟨h1,h2⟩:=Ch h;rw [h1,List.length_tail]
 cases ts with
 | nil=>exact absurd h2.symm hs
 | cons=>simp
theorem fv {s:ai} {ts:List Tok} (hs:s≠[]) (h:sign ts 0=s):ts.tail.length < ts.length:=by
 cases ts with
 | nil=>exact absurd h.symm hs
 | cons=>simp
theorem pn {e:Int} {s:ai} {ts:List Tok} {x:Er} (h:aO e s ts=.error x):x≠aX:=by
 unfold aO at h;split at h
 ·cases h
 ·cases h;intro h0;cases h0
theorem FK {e:Int} {s:ai} {ts r:List Tok} (h:name e ts=.ok (s,r)):r.length < ts.length:=by
 unfold name at h;split at h
 ·cases h
 ·split at h
  ·split at h
   ·cases h
   ·cases h;simp
  ·cases h
theorem IJ {e:Int} {ts:List Tok} {x:Er} (h:name e ts=.error x):x≠aX:=by
 unfold name at h;split at h
 ·cases h;intro h0;cases h0
 ·split at h
  ·split at h <;> cases h;intro h0;cases h0
  ·cases h;intro h0;cases h0
def oo:ow->Nat->Nat
 | .operand _,n=>20 * n+1
 | .loop _ _ _,n=>20 * n+1
 | .level k _,n=>20 * n+2+(9 - k)
 | .expr _,n=>20 * n+12
def wv (acc:List T) (n:Nat):Nat:=match acc with | []=>20 * n+14 | _=>20 * n+1
def J4:ow->Prop
 | .level k _=>k<=9
 | .loop k _ _=>k < 9
 | _=>True
def good (e:Int) (f:Nat) (j:ow) (ts:List Tok):Prop :=
 J4 j->(∀ t r,rd e f j ts=.ok (t,r)->r.length<=ts.length)/\(oo j ts.length<=f->rd e f j ts≠.error aX)
def QP (e:Int) (f deep:Nat) (acc:List T) (ts:List Tok):Prop :=
 (∀ t r,rd.args e f deep acc ts=.ok (t,r)->r.length<=ts.length)/\(wv acc ts.length<=f->rd.args e f deep acc ts≠.error aX)
theorem Z6 {a:Int}:((7,a):Er)≠aX:=by intro h;cases h
theorem er9 {a:Int}:((9,a):Er)≠aX:=by intro h;cases h
theorem Cm (e:Int):∀ f,(∀ j ts,good e f j ts)/\(∀ deep acc ts,QP e f deep acc ts)
 | 0=>by
  refine ⟨fun j ts _=>⟨fun t r h=>?_,fun h=>?_⟩,fun deep acc ts=>⟨fun t r h=>?_,fun h=>?_⟩⟩
  ·rw [rd] at h;cases h
  ·cases j <;> simp only [oo] at h <;> omega
  ·rw [rd.args] at h;cases h
  ·unfold wv at h;split at h <;> omega
 | f+1=>by
  obtain ⟨ih,xP⟩:=Cm e f;constructor
  ·intro j ts hj
   cases j with
   | expr deep =>
    obtain ⟨h1,h2⟩:=ih (.level 0 (deep+1)) ts (Nat.zero_le _);rw [rd];split
    ·exact ⟨fun t r h=>(by cases h),fun _ h=>(by cases h)⟩
    ·exact ⟨h1,fun h=>h2 (by simp only [oo] at h |-;omega)⟩
   | level k deep =>
    have hj:k<=9:=hj;rw [rd];split
    ·obtain ⟨h1,h2⟩:=ih (.operand deep) ts trivial;exact ⟨h1,fun h=>h2 (by simp only [oo] at h |-;omega)⟩
    ·obtain ⟨h1,h2⟩:=ih (.level (k+1) deep) ts (by show k+1<=9;omega);split
     ·rename_i x hx;exact ⟨fun t r h=>(by cases h),fun h h0=>h2 (by simp only [oo] at h |-;omega) (hx.trans h0)⟩
     ·rename_i out iI hx;obtain ⟨h3,h4⟩:=ih (.loop k deep out) iI (by show k < 9;omega);have:=h1 _ _ hx;exact ⟨fun t r h=>Nat.le_trans (h3 t r h) this,fun h=>h4 (by simp only [oo] at h |-;omega)⟩
   | loop k deep out =>
    have hj:k < 9:=hj
    cases ts with
    | nil=>rw [rd];exact ⟨fun t r h=>(by cases h;exact Nat.le_refl _),fun _ h=>(by cases h)⟩
    | cons t0 r0 =>
     rw [rd];split
     ·obtain ⟨h1,h2⟩:=ih (.level (k+1) deep) r0 (by show k+1<=9;omega);split
      ·rename_i x hx;exact ⟨fun t r h=>(by cases h),fun h h0=>h2 (by simp only [oo,length_cons] at h |-;omega) (hx.trans h0)⟩
      ·rename_i b r hx;obtain ⟨h3,h4⟩:=ih (.loop k deep (one 6 t0.at_ t0.s [out,b])) r hj;have:=h1 _ _ hx;exact ⟨fun t r h=>by have:=h3 t r h;simp only [length_cons];omega,fun h=>h4 (by simp only [oo,length_cons] at h |-;omega)⟩
     ·exact ⟨fun t r h=>(by cases h;exact Nat.le_refl _),fun _ h=>(by cases h)⟩
   | operand deep =>
    cases ts with
    | nil=>rw [rd];split <;> exact ⟨fun t r h=>(by cases h),fun _ h=>(by cases h)⟩
    | cons t0 r0 =>
    rw [rd];split
    ·exact ⟨fun t r h=>(by cases h),fun _ h=>(by cases h)⟩
    split
    ·split
     ·obtain ⟨h1,h2⟩:=ih (.operand (deep+1)) r0 trivial;split
      ·rename_i x hx;exact ⟨fun t r h=>(by cases h),fun h h0=>h2 (by simp only [oo,length_cons] at h |-;omega) (hx.trans h0)⟩
      ·rename_i a r hx;have:=h1 _ _ hx;exact ⟨fun t r h=>(by cases h;simp only [length_cons];omega),fun _ h=>(by cases h)⟩
     split
     ·obtain ⟨h1,h2⟩:=ih (.expr (deep+1)) r0 trivial;split
      ·rename_i x hx;exact ⟨fun t r h=>(by cases h),fun h h0=>h2 (by simp only [oo,length_cons] at h |-;omega) (hx.trans h0)⟩
      ·rename_i a r hx;have:=h1 _ _ hx;split
       ·rename_i x hm;exact ⟨fun t r h=>(by cases h),fun _ h=>pn hm (by cases h;rfl)⟩
       ·rename_i r' hm;have:=wo hm;exact ⟨fun t r h=>(by cases h;simp only [length_cons];omega),fun _ h=>(by cases h)⟩
     ·exact ⟨fun t r h=>(by cases h),fun _ h=>(by cases h)⟩
    split
    ·exact ⟨fun t r h=>(by cases h;simp),fun _ h=>(by cases h)⟩
    split
    ·rename_i x hm;exact ⟨fun t r h=>(by cases h),fun _ h=>IJ hm (by cases h;rfl)⟩
    ·rename_i s r hn;have hl:=FK hn;simp only [length_cons] at hl
     have ao:r.tail.length<=r.length:=by simp
     split
     ·obtain ⟨h1,h2⟩:=ih (.expr (deep+1)) r.tail trivial;split
      ·rename_i x hx;exact ⟨fun t r h=>(by cases h),fun h h0=>h2 (by simp only [oo,length_cons] at h |-;omega) (hx.trans h0)⟩
      ·rename_i a r' hx;have:=h1 _ _ hx;split
       ·rename_i x hm;exact ⟨fun t r h=>(by cases h),fun _ h=>pn hm (by cases h;rfl)⟩
       ·rename_i r'' hm;have:=wo hm;exact ⟨fun t r h=>(by cases h;simp only [length_cons];omega),fun _ h=>(by cases h)⟩
     split
     ·obtain ⟨h1,h2⟩:=xP (deep+1) [] r.tail;split
      ·rename_i x hx;exact ⟨fun t r h=>(by cases h),fun h h0=>h2 (by simp only [oo,wv,length_cons] at h |-;omega) (hx.trans (by cases h0;rfl))⟩
      ·rename_i a r' hx;have:=h1 _ _ hx;exact ⟨fun t r h=>(by cases h;simp only [length_cons];omega),fun _ h=>(by cases h)⟩
     ·exact ⟨fun t r h=>(by cases h;simp only [length_cons];omega),fun _ h=>(by cases h)⟩
  ·intro deep acc ts;unfold QP;rw [rd.args];split
   ·exact ⟨fun t r h=>(by cases h;simp),fun _ h=>(by cases h)⟩
   ·by_cases la:acc=[]
    ·subst la;simp only [if_true];obtain ⟨h1,h2⟩:=ih (.expr deep) ts trivial;split
     ·rename_i x hx;exact ⟨fun t r h=>(by cases h),fun h h0=>h2 (by simp only [oo,wv] at h |-;omega) (hx.trans (by cases h0;rfl))⟩
     ·rename_i a r hx;have:=h1 _ _ hx;obtain ⟨h3,h4⟩:=xP deep ([]++[a]) r;exact ⟨fun t r h=>by have:=h3 t r h;omega,fun h=>h4 (by simp only [nil_append,wv] at h |-;omega)⟩
    ·rw [if_neg la]
     have Ih:∀ n,wv acc n=20 * n+1:=by cases acc with | nil=>exact absurd rfl la | cons=>exact fun _=>rfl
     split
     ·rename_i x hm;exact ⟨fun t r h=>(by cases h),fun _ h=>pn hm (by cases h;rfl)⟩
     ·rename_i iI hm;have ao:=yE av hm;obtain ⟨h1,h2⟩:=ih (.expr deep) iI trivial;split
      ·rename_i x hx;exact ⟨fun t r h=>(by cases h),fun h h0=>h2 (by simp only [oo,Ih] at h |-;omega) (hx.trans (by cases h0;rfl))⟩
      ·rename_i a r hx;have:=h1 _ _ hx;obtain ⟨h3,h4⟩:=xP deep (acc++[a]) r
       have Zc:wv (acc++[a]) r.length=20 * r.length+1:=by
        cases acc with
        | nil=>exact absurd rfl la
        | cons=>rfl
       exact ⟨fun t r h=>by have:=h3 t r h;omega,fun h=>h4 (by rw [Zc] ;simp only [Ih] at h;omega)⟩
theorem Vz {e:Int} {f:Nat} {j:ow} {ts:List Tok} {t:T} {r:List Tok} (hj:J4 j) (h:rd e f j ts=.ok (t,r)):r.length<=ts.length:=((Cm e f).1 j ts hj).1 t r h
theorem yH {e:Int} {f:Nat} {j:ow} {ts:List Tok} (hj:J4 j) (h:oo j ts.length<=f):rd e f j ts≠.error aX:=((Cm e f).1 j ts hj).2 h
theorem CW {e:Int} {deep:Nat} {ts:List Tok}:expr e deep ts≠.error aX:=yH (j:=.expr deep) trivial (by simp only [oo,mn];omega)
theorem zG {e:Int} {deep:Nat} {ts:List Tok} {t:T} {r:List Tok} (h:expr e deep ts=.ok (t,r)):r.length<=ts.length:=Vz (j:=.expr deep) trivial h
theorem zV {e:Int} {deep:Nat} {a b:ai} {ts r:List Tok} {t:T} (ha:a≠[]) (h:inner e deep a b ts=.ok (t,r)):r.length < ts.length:=by
 unfold inner at h;split at h
 ·cases h
 ·rename_i t1 h1;split at h
  ·cases h
  ·rename_i a1 t2 h2;split at h
   ·cases h
   ·rename_i t3 h3;cases h;have:=yE ha h1;have:=zG h2;have:=wo h3;omega
theorem zU {e:Int} {deep:Nat} {a b:ai} {ts:List Tok} {x:Er} (h:inner e deep a b ts=.error x):x≠aX:=by
 unfold inner at h;split at h
 ·rename_i h1;cases h;exact pn h1
 ·split at h
  ·rename_i x2 h2;cases h;intro h0;exact CW (h2.trans (by rw [h0]))
  ·split at h
   ·rename_i h3;cases h;exact pn h3
   ·cases h
theorem F7 {e:Int} {deep:Nat} {ts r:List Tok} {t:ai × T} (h:kP e deep ts=.ok (t,r)):r.length < ts.length:=by
 unfold kP at h;split at h
 ·cases h
 ·rename_i s t1 h1;split at h
  ·cases h
  ·rename_i a t2 h2;cases h;have:=FK h1;have:=zV av h2;omega
theorem F6 {e:Int} {deep:Nat} {ts:List Tok} {x:Er} (h:kP e deep ts=.error x):x≠aX:=by
 unfold kP at h;split at h
 ·rename_i h1;cases h;exact IJ h1
 ·split at h
  ·rename_i h2;cases h;exact zU h2
  ·cases h
theorem zF {e:Int} {deep:Nat} {ts:List Tok} {x:Er} (h:expr e deep ts=.error x):x≠aX:=fun h0=>CW (h.trans (by rw [h0]))
theorem NS {e:Int} {deep:Nat} {ts r:List Tok} {t:T} (h:simple e deep ts=.ok (t,r)):r.length < ts.length:=by
 unfold simple at h;split at h
 ·split at h <;> cases h
 ·rename_i t0 r0;split at h
  ·split at h
   ·cases h
   ·rename_i s a t1 h1;cases h;exact F7 h1
  ·split at h
   ·cases h
   ·rename_i a t1 h1;have:=zG h1;split at h
    ·split at h
     ·cases h
     ·rename_i v t2 h2;cases h;have:=zV av h2;omega
    ·split at h
     ·cases h
     ·rename_i t2 h2;cases h;have:=yE av h2;omega
theorem NR {e:Int} {deep:Nat} {ts:List Tok} {x:Er} (h:simple e deep ts=.error x):x≠aX:=by
 unfold simple at h;split at h
 ·split at h
  ·rename_i h1;cases h;exact zF h1
  ·cases h;exact Z6
 ·split at h
  ·split at h
   ·rename_i h1;cases h;exact F6 h1
   ·cases h
  ·split at h
   ·rename_i h1;cases h;exact zF h1
   ·split at h
    ·split at h
     ·rename_i h2;cases h;exact zU h2
     ·cases h
    ·split at h
     ·rename_i h2;cases h;exact pn h2
     ·cases h
def QR (e:Int) (f:Nat) (j:qo) (ts:List Tok):Prop :=
 (∀ t r,rs e f j ts=.ok (t,r)->r.length < ts.length)/\(3 * ts.length+1<=f->rs e f j ts≠.error aX)
def QQ (e:Int) (f deep:Nat) (acc:List T) (ts:List Tok):Prop :=
 (∀ t r,rs.body e f deep acc ts=.ok (t,r)->r.length < ts.length)/\(3 * ts.length+2<=f->rs.body e f deep acc ts≠.error aX)
theorem Co (e:Int):∀ f,(∀ j ts,QR e f j ts)/\(∀ deep acc ts,QQ e f deep acc ts)
 | 0=>by
  refine ⟨fun j ts=>⟨fun t r h=>?_,fun h=>by omega⟩,fun deep acc ts=>⟨fun t r h=>?_,fun h=>by omega⟩⟩
  ·rw [rs] at h;cases h
  ·rw [rs.body] at h;cases h
 | f+1=>by
  obtain ⟨ih,xP⟩:=Co e f;constructor
  ·intro j ts;unfold QR
   cases j with
   | block deep =>
    rw [rs];split
    ·exact ⟨fun t r h=>(by cases h),fun _ h=>(by cases h)⟩
    ·split
     ·rename_i x hm;exact ⟨fun t r h=>(by cases h),fun _ h=>pn hm (by cases h;rfl)⟩
     ·rename_i r0 hm;have h0:=yE av hm;obtain ⟨h1,h2⟩:=xP (deep+1) [] r0;split
      ·rename_i x hx;exact ⟨fun t r h=>(by cases h),fun h h0=>h2 aq (hx.trans (by cases h0;rfl))⟩
      ·rename_i l r hx;have:=h1 _ _ hx;exact ⟨fun t r h=>(by cases h;omega),fun _ h=>(by cases h)⟩
   | stmt deep =>
    rw [rs];split
    ·exact ⟨fun t r h=>(by cases h),fun _ h=>(by cases h)⟩
    ·simp only;split
     ·rename_i hv;have h0:=fv av hv;split
      ·rename_i x hx;exact ⟨fun t r h=>(by cases h),fun _ h=>F6 hx (by cases h;rfl)⟩
      ·rename_i s a t1 hx;have:=F7 hx;exact ⟨fun t r h=>(by cases h;omega),fun _ h=>(by cases h)⟩
     split
     ·rename_i hv
      have h0:ts.tail.length < ts.length:=by
       rcases hv with hv | hv <;> exact fv av hv
      split
      ·rename_i x hx;exact ⟨fun t r h=>(by cases h),fun _ h=>zU hx (by cases h;rfl)⟩
      ·rename_i c r1 hx;have hc:=zV av hx;obtain ⟨h1,h2⟩:=ih (.block (deep+1)) r1;split
       ·rename_i x Io;exact ⟨fun t r h=>(by cases h),fun h h0=>h2 aq (Io.trans h0)⟩
       ·rename_i b r2 Io;have hb:=h1 _ _ Io;split
        ·split
         ·obtain ⟨h3,h4⟩:=ih (.block (deep+1)) r2.tail
          have ht:r2.tail.length<=r2.length:=by simp
          split
          ·rename_i x MW;exact ⟨fun t r h=>(by cases h),fun h h0=>h4 aq (MW.trans h0)⟩
          ·rename_i b2 r3 MW;have:=h3 _ _ MW;exact ⟨fun t r h=>(by cases h;omega),fun _ h=>(by cases h)⟩
         ·exact ⟨fun t r h=>(by cases h;omega),fun _ h=>(by cases h)⟩
        ·exact ⟨fun t r h=>(by cases h;omega),fun _ h=>(by cases h)⟩
     split
     ·rename_i hv;have h0:=fv av hv;split
      ·rename_i x hx;exact ⟨fun t r h=>(by cases h),fun _ h=>zF hx (by cases h;rfl)⟩
      ·rename_i a r1 hx;have:=zG hx;split
       ·rename_i x hm;exact ⟨fun t r h=>(by cases h),fun _ h=>pn hm (by cases h;rfl)⟩
       ·rename_i r2 hm;have:=wo hm;exact ⟨fun t r h=>(by cases h;omega),fun _ h=>(by cases h)⟩
     ·exact ⟨fun t r h=>NS h,fun _ h=>NR h rfl⟩
  ·intro deep acc ts;unfold QQ;rw [rs.body];split
   ·rename_i hv;have h0:=fv av hv;exact ⟨fun t r h=>(by cases h;exact h0),fun _ h=>(by cases h)⟩
   ·obtain ⟨h1,h2⟩:=ih (.stmt deep) ts;split
    ·rename_i x hx;exact ⟨fun t r h=>(by cases h),fun h h0=>h2 aq (hx.trans (by cases h0;rfl))⟩
    ·rename_i a r hx;have:=h1 _ _ hx;obtain ⟨h3,h4⟩:=xP deep (acc++[a]) r;exact ⟨fun t r h=>by have:=h3 t r h;omega,fun h=>h4 aq⟩
theorem VB {e:Int} {f:Nat} {j:qo} {ts:List Tok} {t:T} {r:List Tok} (h:rs e f j ts=.ok (t,r)):r.length < ts.length:=((Co e f).1 j ts).1 t r h
theorem vL {e:Int} {deep:Nat} {ts:List Tok}:block e deep ts≠.error aX:=((Co e _).1 (.block deep) ts).2 (by simp only [mn];omega)
theorem Xo {e:Int} {deep:Nat} {ts:List Tok} {t:T} {r:List Tok} (h:block e deep ts=.ok (t,r)):r.length < ts.length:=VB h
end Go.Xp
namespace Go.Sp
open Go.Xp
structure On (p:RS) (ts:List Tok):Prop where
 code:p.code=0
 le:p.i<=p.l.length
 rest:p.l.drop p.i=ts
 kinds:∀ t∈p.l,t.kind=1\/t.kind=2\/t.kind=3
def bF (p q:RS):Except Er (List Tok)->Prop
 | .ok r=>On q r/\q.l=p.l/\q.e=p.e
 | .error x=>q.code=x.1/\x.1≠0/\q.at_=x.2/\q.l=p.l/\q.e=p.e
def iQ {α:Type} (p q:RS) (t:α):Rd α->Prop
 | .ok (t',r)=>t=t'/\bF p q (.ok r)
 | .error x=>bF p q (.error x)
section
variable {p q q':RS} {ts r:List Tok} {x:Er}
theorem bF.err (h:bF p q (.error x)):q.code≠0:=by rw [h.1];exact h.2.1
theorem bF.tr {y:Except Er (List Tok)} (h:bF p q (.ok r)) (k:bF q q' y):bF p q' y:=by
 obtain ⟨_,h1,h2⟩:=h
 cases y with
 | ok r=>exact ⟨k.1,k.2.1.trans h1,k.2.2.trans h2⟩
 | error x=>exact ⟨k.1,k.2.1,k.2.2.1,k.2.2.2.1.trans h1,k.2.2.2.2.trans h2⟩
theorem iQ.tr {α:Type} {t:α} {y:Rd α} (h:bF p q (.ok r)) (k:iQ q q' t y):iQ p q' t y:=by
 cases y with
 | ok r=>obtain ⟨t',r⟩:=r;exact ⟨k.1,h.tr k.2⟩
 | error x=>exact h.tr (y:=.error x) k
theorem On.self (h:On p ts):bF p p (.ok ts):=⟨h,rfl,rfl⟩
theorem On.at (h:On p ts) (k:Nat):p.l[p.i+k]?=ts[k]?:=by rw [<-h.rest,List.getElem?_drop]
theorem On.sign (h:On p ts) (k:Nat):p.sign k=Go.Xp.sign ts k:=by
 unfold RS.sign Go.Xp.sign;rw [if_pos h.code,h.at]
 all_goals (cases ts[k]? <;> rfl)
theorem On.place (h:On p ts):p.place=Go.Xp.place p.e ts:=by
 have h0:=h.at 0;unfold RS.place;rw [Nat.add_zero] at h0;rw [h0]
 cases ts with
 | nil=>rfl
 | cons t r=>rfl
theorem On.next {t:Tok} (h:On p (t::r)):bF p p.next (.ok r):=by
 have h1:p.i < p.l.length:=by
  have:=congrArg List.length h.rest;simp at this;omega
 refine ⟨⟨h.code,h1,?_,h.kinds⟩,rfl,rfl⟩;show p.l.drop (p.i+1)=r;rw [<-List.tail_drop,h.rest];rfl
theorem On.fail (h:On p ts) (c a:Int) (hc:c≠0):bF p (p.fail c a) (.error (c,a)):=by
 unfold RS.fail;rw [if_pos h.code];exact ⟨rfl,hc,rfl,rfl,rfl⟩
theorem sJ (h:p.code≠0) (c a:Int):p.fail c a=p:=by unfold RS.fail;rw [if_neg h]
theorem lh (h:p.code≠0) (k:Nat):p.sign k=[]:=by unfold RS.sign;rw [if_neg h]
theorem fU (h:p.code≠0) {s:ai} (hs:s≠[]):p.aO s=p:=by
 unfold RS.aO;rw [lh h,if_neg (fun e=>hs e.symm),sJ h]
theorem qs (h:p.code≠0) (d:Nat):p.deep d=p:=by unfold RS.deep;split <;> simp [sJ h]
theorem dv {s:ai} (hs:s≠[]) (h:Go.Xp.sign ts 0=s):∃ t,ts=t::ts.tail/\t.kind=3/\t.s=s:=by
 cases ts with
 | nil=>exact absurd h.symm hs
 | cons t r =>
  refine ⟨t,rfl,?_⟩;simp only [Go.Xp.sign,getElem?_cons_zero,bo] at h;split at h
  ·exact ⟨by assumption,h⟩
  ·exact absurd h.symm hs
theorem On.aO (h:On p ts) {s:ai} (hs:s≠[]):bF p (p.aO s) (Go.Xp.aO p.e s ts):=by
 unfold RS.aO Go.Xp.aO;rw [h.sign]
 by_cases h0:Go.Xp.sign ts 0=s
 ·rw [if_pos h0,if_pos h0];obtain ⟨t,ht,_⟩:=dv hs h0;rw [ht] at h
  exact h.next
 ·rw [if_neg h0,if_neg h0,h.place];exact h.fail 7 _ av
theorem On.name (h:On p ts):iQ p p.name.2 p.name.1 (Go.Xp.name p.e ts)\/∃ x,Go.Xp.name p.e ts=.error x/\bF p p.name.2 (.error x):=by
 have h0:=h.at 0;rw [Nat.add_zero] at h0;unfold RS.name;rw [if_pos h.code,h0]
 cases ts with
 | nil=>exact .inr ⟨_,rfl,by rw [h.place];exact h.fail 7 _ av⟩
 | cons t r =>
  simp only [getElem?_cons_zero,Go.Xp.name];split
  ·split
   ·exact .inr ⟨_,rfl,h.fail 8 _ av⟩
   ·exact .inl ⟨rfl,h.next⟩
  ·refine .inr ⟨_,rfl,?_⟩;have:p.place=t.at_:=h.place;rw [this];exact h.fail 7 _ av
end
theorem Bb {p:RS} (h:p.code≠0):(∀ g d,1<=g->mE g (.operand d) p=some (T.zero,p))/\(∀ g k d out,1<=g->mE g (.loop k d out) p=some (out,p))/\(∀ n g k d,k+n=9->n+2<=g->mE g (.level k d) p=some (T.zero,p)):=by
 have h1:∀ g d,1<=g->mE g (.operand d) p=some (T.zero,p):=by
  intro g d hg
  cases g with
  | zero=>omega
  | succ g=>rw [mE];simp [qs h,h,sJ h]
 have h2:∀ g k d out,1<=g->mE g (.loop k d out) p=some (out,p):=by
  intro g k d out hg
  cases g with
  | zero=>omega
  | succ g=>rw [mE];simp [h]
 refine ⟨h1,h2,fun n=>?_⟩
 induction n with
 | zero =>
  intro g k d hk hg
  cases g with
  | zero=>omega
  | succ g=>rw [mE,if_pos aq];exact h1 g _ aq
 | succ n ih =>
  intro g k d hk hg
  cases g with
  | zero=>omega
  | succ g =>
   rw [mE,if_neg aq,ih g (k+1) d aq aq];exact h2 g _ _ _ aq
theorem Vl {p:RS} (h:p.code≠0) {g d:Nat} (hg:12<=g):mE g (.expr d) p=some (T.zero,p):=by
 cases g with
 | zero=>omega
 | succ g=>rw [mE,qs h];exact (Bb h).2.2 9 g 0 d rfl aq
def KF (f:Nat):Nat:=2 * f+20
structure JE (f:Nat):Prop where
 expr:∀ d ts p,On p ts->rd p.e f (.expr d) ts≠.error aX->∃ t q,(∀ g,KF f<=g->mE g (.expr d) p=some (t,q))/\iQ p q t (rd p.e f (.expr d) ts)
 level:∀ k d ts p,k<=9->On p ts->rd p.e f (.level k (d+1)) ts≠.error aX->∃ t q,(∀ g,KF f<=g->mE g (.level k d) p=some (t,q))/\iQ p q t (rd p.e f (.level k (d+1)) ts)
 loop:∀ k d out ts p,k < 9->On p ts->rd p.e f (.loop k (d+1) out) ts≠.error aX->∃ t q,(∀ g,KF f<=g->mE g (.loop k d out) p=some (t,q))/\iQ p q t (rd p.e f (.loop k (d+1) out) ts)
 operand:∀ d ts p,On p ts->rd p.e f (.operand d) ts≠.error aX->∃ t q,(∀ g,KF f<=g->mE g (.operand d) p=some (t,q))/\iQ p q t (rd p.e f (.operand d) ts)
 args:∀ d acc ts p,acc≠[]->On p ts->rd.args p.e f d acc ts≠.error aX->∃ t q,(∀ g,KF f<=g->th g d acc p=some (t,q))/\iQ p q t (rd.args p.e f d acc ts)
 args0:∀ d ts p,On p ts->rd.args p.e f d [] ts≠.error aX->∃ t q,(∀ g,KF f<=g->mL g d p=some (t,q))/\iQ p q t (rd.args p.e f d [] ts)
theorem Bi:∀ k,(levels.getD k []).contains []=false:=by
 intro k
 have h:∀ l∈levels,l.contains ([]:ai)=false:=by decide
 rw [List.getD_eq_getElem?_getD]
 cases hk:levels[k]? with
 | none=>rfl
 | some l=>exact h l (mem_of_getElem? hk)
theorem up {f g:Nat} (h:KF (f+1)<=g):∃ g',g=g'+1/\KF f+1<=g':=⟨g - 1,by unfold KF at h;omega,by unfold KF at *;omega⟩
theorem je (f:Nat):JE f:=by
 induction f with
 | zero =>
  refine ⟨fun d ts p _ h=>absurd ?_ h,fun k d ts p _ _ h=>absurd ?_ h,fun k d out ts p _ _ h=>absurd ?_ h,fun d ts p _ h=>absurd ?_ h,fun d acc ts p _ _ h=>absurd ?_ h,fun d ts p _ h=>absurd ?_ h⟩ <;> simp [rd,rd.args]
 | succ f C =>
  refine ⟨fun d ts p hp h=>?_,fun k d ts p hk hp h=>?_,fun k d out ts p hk hp h=>?_,fun d ts p hp h=>?_,fun d acc ts p la hp h=>?_,fun d ts p hp h=>?_⟩
  ·rw [rd] at h |-
   by_cases hd:d > 60
   ·rw [if_pos hd] at h |-;have hf:=hp.fail 9 p.place av;refine ⟨T.zero,p.fail 9 p.place,fun g hg=>?_,by rw [<-hp.place];exact hf⟩;obtain ⟨g,rfl,hg⟩:=up hg;rw [mE];unfold RS.deep;rw [if_pos hd];exact (Bb hf.err).2.2 9 g 0 d rfl (by unfold KF at hg;omega)
   ·rw [if_neg hd] at h |-;obtain ⟨t,q,h1,h2⟩:=C.level 0 d ts p aq hp h;refine ⟨t,q,fun g hg=>?_,h2⟩;obtain ⟨g,rfl,hg⟩:=up hg;rw [mE];unfold RS.deep;rw [if_neg hd];exact h1 g aq
  ·rw [rd] at h |-
   by_cases h9:k=9
   ·rw [if_pos h9] at h |-;obtain ⟨t,q,h1,h2⟩:=C.operand (d+1) ts p hp h;refine ⟨t,q,fun g hg=>?_,h2⟩;obtain ⟨g,rfl,hg⟩:=up hg;rw [mE,if_pos h9];exact h1 g aq
   ·rw [if_neg h9] at h |-
    cases he:rd p.e f (.level (k+1) (d+1)) ts with
    | error x =>
     rw [he] at h
     have hx:x≠aX:=fun h0=>h (by rw [h0])
     obtain ⟨t,q,h1,h2⟩:=C.level (k+1) d ts p aq hp (by rw [he];intro h0;cases h0;exact hx rfl);rw [he] at h2;refine ⟨t,q,fun g hg=>?_,h2⟩;obtain ⟨g,rfl,hg⟩:=up hg;rw [mE,if_neg h9,h1 g aq];exact (Bb (bF.err h2)).2.1 g _ _ _ (by unfold KF at hg;omega)
    | ok r =>
     obtain ⟨t',r⟩:=r;rw [he] at h;simp only at h |-;obtain ⟨t,q,h1,h2⟩:=C.level (k+1) d ts p aq hp (by rw [he];intro h0;cases h0);rw [he] at h2;obtain ⟨rfl,h2⟩:=h2;rw [<-h2.2.2] at h |-;obtain ⟨t3,q3,h3,h4⟩:=C.loop k d t r q aq h2.1 h;refine ⟨t3,q3,fun g hg=>?_,iQ.tr h2 h4⟩;obtain ⟨g,rfl,hg⟩:=up hg;rw [mE,if_neg h9,h1 g aq];exact h3 g aq
  ·cases ts with
   | nil =>
    rw [rd];refine ⟨out,p,fun g hg=>?_,rfl,hp.self⟩;obtain ⟨g,rfl,hg⟩:=up hg;rw [mE,if_neg];rw [hp.sign];rintro ⟨_,h0⟩;rw [show sign ([]:List Tok) 0=[] from rfl,Bi] at h0;cases h0
   | cons t r =>
    rw [rd] at h |-;have hs:p.sign 0=bo t:=hp.sign 0
    by_cases hc:t.kind=3/\t.s∈levels.getD k []
    ·rw [if_pos hc] at h |-
     have hn:=hp.next
     have sU:p.l[p.i]?=some t:=hp.at 0;have nf:p.code=0/\(levels.getD k []).contains (p.sign 0)=true:=⟨hp.code,by rw [hs];unfold bo;rw [if_pos hc.1];simpa using hc.2⟩;rw [show p.e=p.next.e from rfl] at h |-
     cases he:rd p.next.e f (.level (k+1) (d+1)) r with
     | error x =>
      rw [he] at h
      have hx:x≠aX:=fun h0=>h (by rw [h0])
      obtain ⟨b,q,h1,h2⟩:=C.level (k+1) d r p.next aq hn.1 (by rw [he];intro h0;cases h0;exact hx rfl)
      rw [he] at h2;refine ⟨one 6 t.at_ t.s [out,b],q,fun g hg=>?_,hn.tr (y:=.error x) h2⟩;obtain ⟨g,rfl,hg⟩:=up hg;rw [mE,if_pos nf,sU];simp only;rw [h1 g aq];exact (Bb (bF.err h2)).2.1 g _ _ _ (by unfold KF at hg;omega)
     | ok x =>
      obtain ⟨b',r'⟩:=x;rw [he] at h;simp only at h |-
      obtain ⟨b,q,h1,h2⟩:=C.level (k+1) d r p.next aq hn.1 (by rw [he];intro h0;cases h0)
      rw [he] at h2;obtain ⟨rfl,h2⟩:=h2;rw [<-h2.2.2] at h |-;obtain ⟨t3,q3,h3,h4⟩:=C.loop k d (one 6 t.at_ t.s [out,b]) r' q hk h2.1 h;refine ⟨t3,q3,fun g hg=>?_,iQ.tr (hn.tr h2) h4⟩;obtain ⟨g,rfl,hg⟩:=up hg;rw [mE,if_pos nf,sU];simp only;rw [h1 g aq];exact h3 g aq
    ·rw [if_neg hc];refine ⟨out,p,fun g hg=>?_,rfl,hp.self⟩;obtain ⟨g,rfl,hg⟩:=up hg;rw [mE,if_neg];rintro ⟨_,h0⟩;rw [hs] at h0;unfold bo at h0;split at h0
     ·rename_i h3;exact hc ⟨h3,by simpa using h0⟩
     ·rw [Bi] at h0;cases h0
  ·rw [rd.eq_def] at h |-;simp only at h |-
   by_cases hd:d > 60
   ·rw [if_pos hd] at h |-;have hf:=hp.fail 9 p.place av;refine ⟨T.zero,p.fail 9 p.place,fun g hg=>?_,by rw [<-hp.place];exact hf⟩;obtain ⟨g,rfl,hg⟩:=up hg;rw [mE];unfold RS.deep;rw [if_pos hd];simp [hf.err,sJ hf.err]
   ·rw [if_neg hd] at h |-
    have dG:p.deep d=p:=by unfold RS.deep;rw [if_neg hd]
    cases ts with
    | nil =>
     simp only;have h0:p.l[p.i]?=none:=hp.at 0;refine ⟨T.zero,p.fail 7 p.place,fun g hg=>?_,?_⟩
     ·obtain ⟨g,rfl,hg⟩:=up hg;rw [mE];simp [dG,hp.code,h0]
     ·rw [hp.place];exact hp.fail 7 _ av
    | cons t r =>
     simp only at h |-;have sU:p.l[p.i]?=some t:=hp.at 0
     have hn:=hp.next
     by_cases h3:t.kind=3
     ·rw [if_pos h3] at h |-
      have AO:¬ t.kind=1:=by omega
      have Mv:¬ t.kind=2:=by omega
      by_cases hu:t.s=[45]\/t.s=[33]\/t.s=[126]
      ·rw [if_pos hu] at h |-;rw [show p.e=p.next.e from rfl] at h |-
       cases he:rd p.next.e f (.operand (d+1)) r with
       | error x =>
        rw [he] at h
        have hx:x≠aX:=fun h0=>h (by rw [h0])
        obtain ⟨b,q,h1,h2⟩:=C.operand (d+1) r p.next hn.1 (by rw [he];intro h0;cases h0;exact hx rfl)
        rw [he] at h2;refine ⟨one 5 t.at_ t.s [b],q,fun g hg=>?_,hn.tr (y:=.error x) h2⟩;obtain ⟨g,rfl,hg⟩:=up hg;rw [mE];simp only [dG,hp.code,sU,if_true,if_neg AO,if_neg Mv,if_pos hu];rw [h1 g aq]
       | ok x =>
        obtain ⟨b',r'⟩:=x;rw [he] at h;simp only at h |-
        obtain ⟨b,q,h1,h2⟩:=C.operand (d+1) r p.next hn.1 (by rw [he];intro h0;cases h0)
        rw [he] at h2;obtain ⟨rfl,h2⟩:=h2;refine ⟨one 5 t.at_ t.s [b],q,fun g hg=>?_,rfl,hn.tr h2⟩;obtain ⟨g,rfl,hg⟩:=up hg;rw [mE];simp only [dG,hp.code,sU,if_true,if_neg AO,if_neg Mv,if_pos hu];rw [h1 g aq]
      ·rw [if_neg hu] at h |-
       by_cases hb:t.s=[40]
       ·rw [if_pos hb] at h |-;rw [show p.e=p.next.e from rfl] at h |-
        cases he:rd p.next.e f (.expr (d+1)) r with
        | error x =>
         rw [he] at h
         have hx:x≠aX:=fun h0=>h (by rw [h0])
         obtain ⟨b,q,h1,h2⟩:=C.expr (d+1) r p.next hn.1 (by rw [he];intro h0;cases h0;exact hx rfl)
         rw [he] at h2;refine ⟨b,q.aO [41],fun g hg=>?_,?_⟩
         ·obtain ⟨g,rfl,hg⟩:=up hg;rw [mE];simp only [dG,hp.code,sU,if_true,if_neg AO,if_neg Mv,if_neg hu,if_pos hb];rw [h1 g aq]
         ·rw [fU (bF.err h2) av];exact hn.tr (y:=.error x) h2
        | ok x =>
         obtain ⟨b',r'⟩:=x;rw [he] at h;simp only at h |-
         obtain ⟨b,q,h1,h2⟩:=C.expr (d+1) r p.next hn.1 (by rw [he];intro h0;cases h0)
         rw [he] at h2;obtain ⟨rfl,h2⟩:=h2;have hm:=h2.1.aO (s:=[41]) av;have aM:=(hn.tr h2).tr hm;rw [h2.2.2] at aM;refine ⟨b,q.aO [41],fun g hg=>?_,?_⟩
         ·obtain ⟨g,rfl,hg⟩:=up hg;rw [mE];simp only [dG,hp.code,sU,if_true,if_neg AO,if_neg Mv,if_neg hu,if_pos hb];rw [h1 g aq]
         ·cases rh:aO p.next.e [41] r' with
          | error x=>rw [rh] at aM;exact aM
          | ok r2=>rw [rh] at aM;exact ⟨rfl,aM⟩
       ·rw [if_neg hb] at h |-;refine ⟨T.zero,p.fail 7 t.at_,fun g hg=>?_,hp.fail 7 _ av⟩;obtain ⟨g,rfl,hg⟩:=up hg;rw [mE];simp only [dG,hp.code,sU,if_true,if_neg AO,if_neg Mv,if_neg hu,if_neg hb]
     ·rw [if_neg h3] at h |-
      by_cases h1:t.kind=1
      ·rw [if_pos h1];refine ⟨_,p.next,fun g hg=>?_,rfl,hn⟩;obtain ⟨g,rfl,hg⟩:=up hg;rw [mE];simp only [dG,hp.code,sU,if_true,if_pos h1]
      ·rw [if_neg h1] at h |-
       by_cases h2:t.kind=2
       ·by_cases hlen:t.s.length > 12
        ·have eN:name p.e (t::r)=.error (8,t.at_):=by simp [name,h2,hlen]
         rw [eN] at h |-;have hf:=hp.fail 8 t.at_ av;refine ⟨one 2 t.at_ [] [],p.fail 8 t.at_,fun g hg=>?_,hf⟩;obtain ⟨g,rfl,hg⟩:=up hg
         have dc:p.name=([],p.fail 8 t.at_):=by unfold RS.name;simp [hp.code,sU,h2,hlen]
         rw [mE];simp only [dG,hp.code,sU,if_true,if_neg h1,if_pos h2,dc];obtain ⟨g,rfl⟩:∃ g',g=g'+1:=⟨g - 1,by omega⟩;rw [mE,if_neg (by rw [lh hf.err];decide),if_neg (by rw [lh hf.err];decide)]
        ·have eN:name p.e (t::r)=.ok (t.s,r):=by simp [name,h2,hlen]
         have dc:p.name=(t.s,p.next):=by unfold RS.name;simp [hp.code,sU,h2,hlen]
         rw [eN] at h |-;simp only at h |-
         have dK:p.next.sign 0=sign r 0:=hn.1.sign 0
         have key:∀ (t':T) (q:RS),(∀ g,KF f<=g->mE (g+1) (.named t.at_ t.s d) p.next=some (t',q))->∀ g,KF (f+1)<=g->mE g (.operand d) p=some (t',q):=by
          intro t' q hk g hg;obtain ⟨g,rfl,hg⟩:=up hg;rw [mE];simp only [dG,hp.code,sU,if_true,if_neg h1,if_pos h2,dc];obtain ⟨g,rfl⟩:∃ g',g=g'+1:=⟨g - 1,by omega⟩;exact hk g aq
         by_cases hb:sign r 0=[91]
         ·rw [if_pos hb] at h |-;obtain ⟨tb,A7,_⟩:=dv av hb;have bP:=hn.1;rw [A7] at bP
          have bP:=hn.tr bP.next
          rw [show p.e=p.next.next.e from rfl] at h |-
          cases he:rd p.next.next.e f (.expr (d+1)) r.tail with
          | error x =>
           rw [he] at h
           have hx:x≠aX:=fun h0=>h (by rw [h0])
           obtain ⟨b,q,k1,k2⟩:=C.expr (d+1) r.tail p.next.next bP.1 (by rw [he];intro h0;cases h0;exact hx rfl)
           rw [he] at k2;refine ⟨one 3 t.at_ t.s [b],q.aO [93],key _ _ fun g hg=>?_,?_⟩
           ·rw [mE,if_pos (by rw [dK];exact hb),k1 g hg]
           ·rw [fU (bF.err k2) av];exact bP.tr (y:=.error x) k2
          | ok x =>
           obtain ⟨b',r'⟩:=x;rw [he] at h;simp only at h |-
           obtain ⟨b,q,k1,k2⟩:=C.expr (d+1) r.tail p.next.next bP.1 (by rw [he];intro h0;cases h0)
           rw [he] at k2;obtain ⟨rfl,k2⟩:=k2;have hm:=k2.1.aO (s:=[93]) av;have aM:=(bP.tr k2).tr hm;rw [k2.2.2] at aM;refine ⟨one 3 t.at_ t.s [b],q.aO [93],key _ _ fun g hg=>?_,?_⟩
           ·rw [mE,if_pos (by rw [dK];exact hb),k1 g hg]
           ·cases rh:aO p.next.next.e [93] r' with
            | error x=>rw [rh] at aM;exact aM
            | ok r2=>rw [rh] at aM;exact ⟨rfl,aM⟩
         ·rw [if_neg hb] at h |-
          by_cases hc:sign r 0=[40]
          ·rw [if_pos hc] at h |-;obtain ⟨tb,A7,_⟩:=dv av hc;have bP:=hn.1;rw [A7] at bP
           have bP:=hn.tr bP.next
           rw [show p.e=p.next.next.e from rfl] at h |-
           cases he:rd.args p.next.next.e f (d+1) [] r.tail with
           | error x =>
            rw [he] at h
            have hx:x≠aX:=fun h0=>h (by rw [h0])
            obtain ⟨b,q,k1,k2⟩:=C.args0 (d+1) r.tail p.next.next bP.1 (by rw [he];intro h0;cases h0;exact hx rfl)
            rw [he] at k2;refine ⟨one 4 t.at_ t.s b,q,key _ _ fun g hg=>?_,bP.tr (y:=.error x) k2⟩;rw [mE,if_neg (by rw [dK];exact hb),if_pos (by rw [dK];exact hc),k1 g hg]
           | ok x =>
            obtain ⟨b',r'⟩:=x;rw [he] at h
            obtain ⟨b,q,k1,k2⟩:=C.args0 (d+1) r.tail p.next.next bP.1 (by rw [he];intro h0;cases h0)
            rw [he] at k2;obtain ⟨rfl,k2⟩:=k2;refine ⟨one 4 t.at_ t.s b,q,key _ _ fun g hg=>?_,rfl,bP.tr k2⟩;rw [mE,if_neg (by rw [dK];exact hb),if_pos (by rw [dK];exact hc),k1 g hg]
          ·rw [if_neg hc] at h |-;refine ⟨one 2 t.at_ t.s [],p.next,key _ _ fun g hg=>?_,rfl,hn⟩;rw [mE,if_neg (by rw [dK];exact hb),if_neg (by rw [dK];exact hc)]
       ·have eN:name p.e (t::r)=.error (7,t.at_):=by simp [name,h2]
        rw [eN] at h |-;have:=hp.kinds t (mem_of_getElem? sU);omega
  ·rw [rd.args] at h |-;have dK:p.sign 0=sign ts 0:=hp.sign 0
   by_cases hb:sign ts 0=[41]
   ·rw [if_pos hb];have hm:=hp.aO (s:=[41]) av;unfold Go.Xp.aO at hm;rw [if_pos hb] at hm;refine ⟨acc,p.aO [41],fun g hg=>?_,rfl,hm⟩;obtain ⟨g,rfl,hg⟩:=up hg;rw [th,if_neg (by rw [dK,hb];decide)]
   ·rw [if_neg hb,if_neg la] at h |-
    by_cases hc:sign ts 0=[44]
    ·have jS:Go.Xp.aO p.e [44] ts=.ok ts.tail:=by unfold Go.Xp.aO;rw [if_pos hc]
     rw [jS] at h |-;simp only at h |-;obtain ⟨tb,A7,_⟩:=dv av hc;have hn:=hp;rw [A7] at hn
     have hn:=hn.next
     rw [show p.e=p.next.e from rfl] at h |-
     cases he:rd p.next.e f (.expr d) ts.tail with
     | error x =>
      rw [he] at h
      have hx:x≠aX:=fun h0=>h (by rw [h0])
      obtain ⟨b,q,k1,k2⟩:=C.expr d ts.tail p.next hn.1 (by rw [he];intro h0;cases h0;exact hx rfl)
      rw [he] at k2;refine ⟨acc++[b],q,fun g hg=>?_,hn.tr (y:=.error x) k2⟩;obtain ⟨g,rfl,hg⟩:=up hg;rw [th,if_pos (by rw [dK,hc]),k1 g aq];simp only;obtain ⟨g,rfl⟩:∃ g',g=g'+1:=⟨g - 1,by omega⟩;rw [th,if_neg (by rw [lh (bF.err k2)];decide),fU (bF.err k2) av]
     | ok x =>
      obtain ⟨b',r'⟩:=x;rw [he] at h;simp only at h |-
      obtain ⟨b,q,k1,k2⟩:=C.expr d ts.tail p.next hn.1 (by rw [he];intro h0;cases h0)
      rw [he] at k2;obtain ⟨rfl,k2⟩:=k2;rw [<-k2.2.2] at h |-;obtain ⟨t3,q3,h3,h4⟩:=C.args d (acc++[b]) r' q (by simp) k2.1 h;refine ⟨t3,q3,fun g hg=>?_,iQ.tr (hn.tr k2) h4⟩;obtain ⟨g,rfl,hg⟩:=up hg;rw [th,if_pos (by rw [dK,hc]),k1 g aq];exact h3 g aq
    ·have jS:Go.Xp.aO p.e [44] ts=.error (7,place p.e ts):=by unfold Go.Xp.aO;rw [if_neg hc]
     rw [jS];have hm:=hp.aO (s:=[41]) av;unfold Go.Xp.aO at hm;rw [if_neg hb] at hm;refine ⟨acc,p.aO [41],fun g hg=>?_,hm⟩;obtain ⟨g,rfl,hg⟩:=up hg;rw [th,if_neg (by rw [dK];exact hc)]
  ·rw [rd.args] at h |-;have dK:p.sign 0=sign ts 0:=hp.sign 0
   by_cases hb:sign ts 0=[41]
   ·rw [if_pos hb];have hm:=hp.aO (s:=[41]) av;unfold Go.Xp.aO at hm;rw [if_pos hb] at hm;refine ⟨[],p.aO [41],fun g hg=>?_,rfl,hm⟩;obtain ⟨g,rfl,hg⟩:=up hg;rw [mL,if_pos (by rw [dK,hb])]
   ·rw [if_neg hb,if_pos rfl] at h |-;simp only at h |-
    cases he:rd p.e f (.expr d) ts with
    | error x =>
     rw [he] at h
     have hx:x≠aX:=fun h0=>h (by rw [h0])
     obtain ⟨b,q,k1,k2⟩:=C.expr d ts p hp (by rw [he];intro h0;cases h0;exact hx rfl);rw [he] at k2;refine ⟨[b],q,fun g hg=>?_,k2⟩;obtain ⟨g,rfl,hg⟩:=up hg;rw [mL,if_neg (by rw [dK];exact hb),k1 g aq];simp only;obtain ⟨g,rfl⟩:∃ g',g=g'+1:=⟨g - 1,by omega⟩;rw [th,if_neg (by rw [lh (bF.err k2)];decide),fU (bF.err k2) av]
    | ok x =>
     obtain ⟨b',r'⟩:=x;rw [he] at h;simp only at h |-;obtain ⟨b,q,k1,k2⟩:=C.expr d ts p hp (by rw [he];intro h0;cases h0);rw [he] at k2;obtain ⟨rfl,k2⟩:=k2;rw [<-k2.2.2] at h |-;obtain ⟨t3,q3,h3,h4⟩:=C.args d ([]++[b]) r' q (by simp) k2.1 h;refine ⟨t3,q3,fun g hg=>?_,iQ.tr k2 h4⟩;obtain ⟨g,rfl,hg⟩:=up hg;rw [mL,if_neg (by rw [dK];exact hb),k1 g aq];exact h3 g aq
end Go.Sp
namespace Go.Xp
theorem Xe (e:Int):∀ f,(∀ j ts,rd e f j ts=.error aX\/rd e (f+1) j ts=rd e f j ts)/\(∀ d acc ts,rd.args e f d acc ts=.error aX\/rd.args e (f+1) d acc ts=rd.args e f d acc ts):=by
 intro f
 induction f with
 | zero=>exact ⟨fun j ts=>.inl (by simp [rd]),fun d acc ts=>.inl (by simp [rd.args])⟩
 | succ f ih =>
  obtain ⟨i1,i2⟩:=ih;refine ⟨fun j ts=>?_,fun d acc ts=>?_⟩
  ·rw [rd.eq_def e (f+1+1),rd.eq_def e (f+1)]
   cases j with
   | expr d =>
    simp only;split
    ·exact .inr rfl
    ·exact i1 _ _
   | level k d =>
    simp only;split
    ·exact i1 _ _
    ·rcases i1 (.level (k+1) d) ts with h | h
     ·left;rw [h]
     ·rw [h]
      cases rd e f (.level (k+1) d) ts with
      | error x=>exact .inr rfl
      | ok r=>exact i1 _ _
   | loop k d out =>
    cases ts with
    | nil=>exact .inr rfl
    | cons t r =>
     simp only;split
     ·rcases i1 (.level (k+1) d) r with h | h
      ·left;rw [h]
      ·rw [h]
       cases rd e f (.level (k+1) d) r with
       | error x=>exact .inr rfl
       | ok r=>exact i1 _ _
     ·exact .inr rfl
   | operand d =>
    simp only;split
    ·exact .inr rfl
    ·cases ts with
     | nil=>exact .inr rfl
     | cons t r =>
      simp only;split
      ·split
       ·rcases i1 (.operand (d+1)) r with h | h
        ·left;rw [h]
        ·rw [h];exact .inr rfl
       ·split
        ·rcases i1 (.expr (d+1)) r with h | h
         ·left;rw [h]
         ·rw [h];exact .inr rfl
        ·exact .inr rfl
      ·split
       ·exact .inr rfl
       ·cases name e (t::r) with
        | error x=>exact .inr rfl
        | ok y =>
         obtain ⟨s,r⟩:=y;simp only;split
         ·rcases i1 (.expr (d+1)) r.tail with h | h
          ·left;rw [h]
          ·rw [h];exact .inr rfl
         ·split
          ·rcases i2 (d+1) [] r.tail with h | h
           ·left;rw [h]
           ·rw [h];exact .inr rfl
          ·exact .inr rfl
  ·rw [rd.args,rd.args];split
   ·exact .inr rfl
   ·cases (if acc=[] then .ok ts else aO e [44] ts:Except Er (List Tok)) with
    | error x=>exact .inr rfl
    | ok ts =>
     simp only
     rcases i1 (.expr d) ts with h | h
     ·left;rw [h]
     ·rw [h]
      cases rd e f (.expr d) ts with
      | error x=>exact .inr rfl
      | ok y=>exact i2 _ _ _
theorem IX {e:Int} {f f':Nat} {j:ow} {ts:List Tok} (h:rd e f j ts≠.error aX) (hf:f<=f'):rd e f' j ts=rd e f j ts:=by
 obtain ⟨k,rfl⟩:=Nat.exists_eq_add_of_le hf;clear hf
 induction k with
 | zero=>rfl
 | succ k ih =>
  rcases (Xe e (f+k)).1 j ts with h1 | h1
  ·rw [ih] at h1;exact absurd h1 h
  ·rw [<-Nat.add_assoc,h1,ih]
theorem BZ {e:Int} {f d:Nat} {ts:List Tok} (h:20 * ts.length+12<=f):rd e f (.expr d) ts=expr e d ts:=by
 have h0:rd e (20 * ts.length+12) (.expr d) ts≠.error aX:=yH (j:=.expr d) trivial (Nat.le_refl _);rw [IX h0 h];unfold expr mn;exact (IX h0 aq).symm
def Xn (t:T):Prop:=t.n.kind=3->∃ a,t.kids=[a]
theorem NL (e:Int):∀ f j,(∀ k d out,j≠.loop k d out)->∀ t r,rd e f j []≠.ok (t,r):=by
 intro f
 induction f with
 | zero=>intro j _ t r h;simp [rd] at h
 | succ f ih =>
  intro j hj t r h;rw [rd.eq_def] at h
  cases j with
  | expr d =>
   simp only at h;split at h
   ·cases h
   ·exact ih _ (fun k d out h=>by cases h) _ _ h
  | level k d =>
   simp only at h;split at h
   ·exact ih _ (fun k d out h=>by cases h) _ _ h
   ·split at h
    ·cases h
    ·rename_i he;exact ih _ (fun k d out h=>by cases h) _ _ he
  | loop k d out=>exact hj _ _ _ rfl
  | operand d =>
   simp only at h;split at h <;> cases h
theorem NK (e:Int):∀ f j ts t r,(∀ k d out,j=.loop k d out->Xn out)->rd e f j ts=.ok (t,r)->Xn t:=by
 intro f
 induction f with
 | zero=>intro j ts t r _ h;simp [rd] at h
 | succ f ih =>
  intro j ts t r hj h;rw [rd.eq_def] at h
  cases j with
  | expr d =>
   simp only at h;split at h
   ·cases h
   ·exact ih _ _ _ _ (fun k d out h=>by cases h) h
  | level k d =>
   simp only at h;split at h
   ·exact ih _ _ _ _ (fun k d out h=>by cases h) h
   ·split at h
    ·cases h
    ·rename_i out iI he;exact ih _ _ _ _ (fun k' d' ZG lQ=>by cases lQ;exact ih _ _ _ _ (fun k d out h=>by cases h) he) h
  | loop k d out =>
   cases ts with
   | nil=>cases h;exact hj k d _ rfl
   | cons a r' =>
    simp only at h;split at h
    ·split at h
     ·cases h
     ·exact ih _ _ _ _ (fun k' d' ZG lQ=>by cases lQ;intro h3;exact absurd h3 (by simp [one,T.n])) h
    ·cases h;exact hj k d _ rfl
  | operand d =>
   simp only at h;split at h
   ·cases h
   ·cases ts with
    | nil=>cases h
    | cons a r' =>
     simp only at h;split at h
     ·split at h
      ·split at h
       ·cases h
       ·cases h;intro h3;exact absurd h3 (by simp [one,T.n])
      ·split at h
       ·split at h
        ·cases h
        ·rename_i he;split at h
         ·cases h
         ·cases h;exact ih _ _ _ _ (fun k d out h=>by cases h) he
       ·cases h
     ·split at h
      ·cases h;intro h3;exact absurd h3 (by simp [T.n])
      ·split at h
       ·cases h
       ·split at h
        ·split at h
         ·cases h
         ·split at h
          ·cases h
          ·cases h;exact fun _=>⟨_,rfl⟩
        ·split at h
         ·split at h
          ·cases h
          ·cases h;intro h3;exact absurd h3 (by simp [one,T.n])
         ·cases h;intro h3;exact absurd h3 (by simp [one,T.n])
end Go.Xp
namespace Go.Sp
open Go.Xp
theorem WT {d:Nat} {ts:List Tok} {p:RS} (hp:On p ts):∃ t q,mX d p=some (t,q)/\iQ p q t (expr p.e d ts):=by
 have hl:ts.length<=p.l.length:=by rw [<-hp.rest,length_drop];omega
 have hf:rd p.e (20 * ts.length+12) (.expr d) ts≠.error aX:=yH (j:=.expr d) trivial (Nat.le_refl _);obtain ⟨t,q,h1,h2⟩:=(je _).expr d ts p hp hf;rw [BZ (Nat.le_refl _)] at h2;exact ⟨t,q,h1 _ (by unfold KF fe;omega),h2⟩
theorem FF {d:Nat} {p:RS} (h:p.code≠0):mX d p=some (T.zero,p):=Vl h (by unfold fe;omega)
theorem Nu {p:RS} (h:p.code≠0) {g d:Nat} (hg:2<=g):mS g (.block d) p=some (one 14 p.place [] [],p):=by
 obtain ⟨g,rfl⟩:∃ g',g=g'+2:=⟨g - 2,by omega⟩;rw [mS,qs h,fU h av];simp only [mB,h,false_and,if_false];rw [fU h av]
theorem NY {p:RS} (h:p.code≠0) {g d:Nat} (hg:1<=g):mS g (.stmt d) p=some (one 12 p.place [] [T.zero],p):=by
 obtain ⟨g,rfl⟩:∃ g',g=g'+1:=⟨g - 1,by omega⟩;rw [mS,qs h];simp only [lh h];rw [if_neg av,if_neg av,if_neg av,if_neg (fun x=>h x.1),FF h]
 have h03:¬ (T.zero.n.kind=3/\T.zero.n.at_=p.place/\p.sign 0=[61]):=fun x=>absurd x.1 av
 simp only;rw [if_neg h03,fU h av]
structure ZR (f:Nat):Prop where
 block:∀ d ts p,On p ts->rs p.e f (.block d) ts≠.error aX->∃ t q,(∀ g,KF f<=g->mS g (.block d) p=some (t,q))/\iQ p q t (rs p.e f (.block d) ts)
 stmt:∀ d ts p,On p ts->rs p.e f (.stmt d) ts≠.error aX->∃ t q,(∀ g,KF f<=g->mS g (.stmt d) p=some (t,q))/\iQ p q t (rs p.e f (.stmt d) ts)
 body:∀ d acc ts p,On p ts->rs.body p.e f d acc ts≠.error aX->∃ t q,(∀ g,KF f<=g->mB g d acc p=some (t,q))/\iQ p (q.aO [125]) t (rs.body p.e f d acc ts)
theorem Ki {d:Nat} {ts:List Tok} {p:RS} (hp:On p ts):(∃ t q r,mX d p=some (t,q)/\expr p.e d ts=.ok (t,r)/\bF p q (.ok r))\/(∃ t q x,mX d p=some (t,q)/\expr p.e d ts=.error x/\bF p q (.error x)):=by
 obtain ⟨t,q,h1,h2⟩:=WT (d:=d) hp
 cases he:expr p.e d ts with
 | error x=>rw [he] at h2;exact .inr ⟨t,q,x,h1,rfl,h2⟩
 | ok y =>
  obtain ⟨t',r⟩:=y;rw [he] at h2;obtain ⟨rfl,h2⟩:=h2;exact .inl ⟨t,q,r,h1,rfl,h2⟩
theorem yF {s:ai} {ts:List Tok} {p:RS} (hp:On p ts) (hs:s≠[]):(∃ r,Go.Xp.aO p.e s ts=.ok r/\bF p (p.aO s) (.ok r))\/(∃ x,Go.Xp.aO p.e s ts=.error x/\bF p (p.aO s) (.error x)):=by
 have h:=hp.aO hs
 cases he:Go.Xp.aO p.e s ts with
 | ok r=>rw [he] at h;exact .inl ⟨r,rfl,h⟩
 | error x=>rw [he] at h;exact .inr ⟨x,rfl,h⟩
theorem SL {ts:List Tok} {p:RS} (hp:On p ts):(∃ r,Go.Xp.name p.e ts=.ok (p.name.1,r)/\bF p p.name.2 (.ok r))\/(∃ x,Go.Xp.name p.e ts=.error x/\bF p p.name.2 (.error x)):=by
 rcases hp.name with h | h
 ·cases he:Go.Xp.name p.e ts with
  | ok y =>
   obtain ⟨s,r⟩:=y;rw [he] at h;obtain ⟨rfl,h⟩:=h;exact .inl ⟨r,rfl,h⟩
  | error x=>rw [he] at h;exact .inr ⟨x,rfl,h⟩
 ·exact .inr h
theorem zE {d:Nat} {ts:List Tok} {p:RS} {b:ai} (hp:On p ts) (hb:b≠[]):∃ t q,mX d p=some (t,q)/\((∃ r r',expr p.e d ts=.ok (t,r)/\Go.Xp.aO p.e b r=.ok r'/\bF p (q.aO b) (.ok r'))\/(∃ r x,expr p.e d ts=.ok (t,r)/\Go.Xp.aO p.e b r=.error x/\bF p (q.aO b) (.error x))\/(∃ x,expr p.e d ts=.error x/\bF p (q.aO b) (.error x))):=by
 rcases Ki (d:=d) hp with ⟨t,q,r,h1,h2,h3⟩ | ⟨t,q,x,h1,h2,h3⟩
 ·refine ⟨t,q,h1,?_⟩
  rcases yF h3.1 hb with ⟨r',h4,h5⟩ | ⟨x,h4,h5⟩
  ·rw [h3.2.2] at h4;exact .inl ⟨r,r',h2,h4,h3.tr h5⟩
  ·rw [h3.2.2] at h4;exact .inr (.inl ⟨r,x,h2,h4,h3.tr h5⟩)
 ·exact ⟨t,q,h1,.inr (.inr ⟨x,h2,by rw [fU h3.err hb];exact h3⟩)⟩
theorem On.nD {ts:List Tok} {p:RS} (hp:On p ts):p.nD=(match ts with | t::_=>decide (t.kind=2) | []=>false):=by
 have h:=hp.at 0;rw [Nat.add_zero] at h;unfold RS.nD;rw [h]
 cases ts <;> rfl
theorem Fx {d:Nat} {ts:List Tok} {p:RS} {a b:ai} (hp:On p ts) (ha:a≠[]) (hb:b≠[]):∃ t q,mX d (p.aO a)=some (t,q)/\((∃ r,inner p.e d a b ts=.ok (t,r)/\bF p (q.aO b) (.ok r))\/∃ x,inner p.e d a b ts=.error x/\bF p (q.aO b) (.error x)):=by
 unfold Go.Xp.inner
 rcases yF hp ha with ⟨r,h1,h2⟩ | ⟨x,h1,h2⟩
 ·rw [h1];obtain ⟨t,q,h3,h4⟩:=zE (d:=d) (b:=b) h2.1 hb;rw [h2.2.2] at h4;refine ⟨t,q,h3,?_⟩;simp only
  rcases h4 with ⟨r,r',k1,k2,k3⟩ | ⟨r,x,k1,k2,k3⟩ | ⟨x,k1,k3⟩
  ·rw [k1];simp only;rw [k2];exact .inl ⟨r',rfl,h2.tr k3⟩
  ·rw [k1];simp only;rw [k2];exact .inr ⟨x,rfl,h2.tr (y:=.error x) k3⟩
  ·rw [k1];exact .inr ⟨x,rfl,h2.tr (y:=.error x) k3⟩
 ·rw [h1];exact ⟨T.zero,p.aO a,FF h2.err,.inr ⟨x,rfl,by rw [fU h2.err hb];exact h2⟩⟩
theorem F8 {d:Nat} {ts:List Tok} {p:RS} (hp:On p ts):∃ t q,mX d (p.name.2.aO [61])=some (t,q)/\((∃ r,kP p.e d ts=.ok ((p.name.1,t),r)/\bF p (q.aO [59]) (.ok r))\/∃ x,kP p.e d ts=.error x/\bF p (q.aO [59]) (.error x)):=by
 unfold Go.Xp.kP
 rcases SL hp with ⟨r,h1,h2⟩ | ⟨x,h1,h2⟩
 ·rw [h1];obtain ⟨t,q,h3,h4⟩:=Fx (d:=d) (a:=[61]) (b:=[59]) h2.1 av av;rw [h2.2.2] at h4;refine ⟨t,q,h3,?_⟩;simp only
  rcases h4 with ⟨r,k1,k3⟩ | ⟨x,k1,k3⟩
  ·rw [k1];exact .inl ⟨r,rfl,h2.tr k3⟩
  ·rw [k1];exact .inr ⟨x,rfl,h2.tr (y:=.error x) k3⟩
 ·rw [h1];refine ⟨T.zero,p.name.2,by rw [fU h2.err av];exact FF h2.err,.inr ⟨x,rfl,by rw [fU h2.err av];exact h2⟩⟩
theorem js (f:Nat):ZR f:=by
 induction f with
 | zero=>exact ⟨fun d ts p _ h=>absurd (by simp [rs]) h,fun d ts p _ h=>absurd (by simp [rs]) h,fun d acc ts p _ h=>absurd (by simp [rs.body]) h⟩
 | succ f C =>
  refine ⟨fun d ts p hp h=>?_,fun d ts p hp h=>?_,fun d acc ts p hp h=>?_⟩
  ·rw [rs] at h |-
   by_cases hd:d > 60
   ·rw [if_pos hd] at h |-;have hf:=hp.fail 9 p.place av;refine ⟨one 14 (p.fail 9 p.place).place [] [],p.fail 9 p.place,fun g hg=>?_,by rw [<-hp.place];exact hf⟩
    have Uu:p.deep d=p.fail 9 p.place:=by unfold RS.deep;rw [if_pos hd]
    have:=Nu (g:=g) (d:=d) hf.err (by unfold KF at hg;omega);obtain ⟨g,rfl,hg⟩:=up hg;rw [mS] at this |-;rw [qs hf.err] at this;rw [Uu];exact this
   ·rw [if_neg hd] at h |-
    have dG:p.deep d=p:=by unfold RS.deep;rw [if_neg hd]
    rcases yF hp (s:=[123]) av with ⟨r,h1,h2⟩ | ⟨x,h1,h2⟩
    ·rw [h1] at h |-;simp only at h |-;rw [<-h2.2.2] at h |-
     have hb:rs.body (p.aO [123]).e f (d+1) [] r≠.error aX:=fun h0=>h (by rw [h0])
     obtain ⟨l,q,h3,h4⟩:=C.body (d+1) [] r (p.aO [123]) h2.1 hb
     have cW:place (p.aO [123]).e ts=p.place:=by rw [h2.2.2,hp.place]
     refine ⟨one 14 p.place [] l,q.aO [125],fun g hg=>?_,?_⟩
     ·obtain ⟨g,rfl,hg⟩:=up hg;rw [mS,dG,h3 g aq]
     ·cases he:rs.body (p.aO [123]).e f (d+1) [] r with
      | error x=>rw [he] at h4;exact h2.tr (y:=.error x) h4
      | ok y=>obtain ⟨l',r'⟩:=y;rw [he] at h4;obtain ⟨rfl,h4⟩:=h4;rw [cW];exact ⟨rfl,h2.tr h4⟩
    ·rw [h1] at h |-;refine ⟨one 14 p.place [] [],p.aO [123],fun g hg=>?_,h2⟩;obtain ⟨g,rfl,hg⟩:=up hg;rw [mS,dG];obtain ⟨g,rfl⟩:∃ g',g=g'+1:=⟨g - 1,by omega⟩;simp only [mB,h2.err,false_and,if_false];rw [fU h2.err av]
  ·rw [rs] at h |-
   by_cases hd:d > 60
   ·rw [if_pos hd] at h |-;have hf:=hp.fail 9 p.place av
    have Uu:p.deep d=p.fail 9 p.place:=by unfold RS.deep;rw [if_pos hd]
    refine ⟨one 12 (p.fail 9 p.place).place [] [T.zero],p.fail 9 p.place,fun g hg=>?_,by rw [<-hp.place];exact hf⟩;have:=NY (g:=g) (d:=d) hf.err (by unfold KF at hg;omega);obtain ⟨g,rfl,hg⟩:=up hg;rw [mS] at this |-;rw [qs hf.err] at this;rw [Uu];exact this
   ·rw [if_neg hd] at h |-
    have dG:p.deep d=p:=by unfold RS.deep;rw [if_neg hd]
    have dK:p.sign 0=sign ts 0:=hp.sign 0;have UT:p.sign 1=sign ts 1:=hp.sign 1;have cW:=hp.place;simp only at h |-
    by_cases hv:sign ts 0=gw
    ·rw [if_pos hv];obtain ⟨tv,xN,_⟩:=dv av hv;have hn:=hp;rw [xN] at hn
     have hn:=hn.next
     rw [show p.e=p.next.e from rfl]
     rcases F8 (d:=d+1) hn.1 with ⟨t,q,h1,⟨r,h2,h3⟩ | ⟨x,h2,h3⟩⟩
     ·rw [h2];refine ⟨one 13 p.place p.next.name.1 [t],q.aO [59],fun g hg=>?_,by rw [cW];rfl,hn.tr h3⟩;obtain ⟨g,rfl,hg⟩:=up hg;rw [mS,dG];rw [if_pos (by rw [dK,hv]),h1]
     ·rw [h2];refine ⟨one 13 p.place p.next.name.1 [t],q.aO [59],fun g hg=>?_,hn.tr (y:=.error x) h3⟩;obtain ⟨g,rfl,hg⟩:=up hg;rw [mS,dG];rw [if_pos (by rw [dK,hv]),h1]
    rw [if_neg hv] at h |-
    by_cases hc:sign ts 0=dL\/sign ts 0=du
    ·rw [if_pos hc] at h |-
     obtain ⟨tv,xN,hk3,sX⟩:∃ t,ts=t::ts.tail/\t.kind=3/\t.s=sign ts 0:=by
      rcases hc with hc | hc
      ·obtain ⟨t,h1,h2,h3⟩:=dv av hc;exact ⟨t,h1,h2,h3.trans hc.symm⟩
      ·obtain ⟨t,h1,h2,h3⟩:=dv av hc;exact ⟨t,h1,h2,h3.trans hc.symm⟩
     have hn:=hp;rw [xN] at hn
     have hn:=hn.next
     have sP:p.ck=if sign ts 0=dL then 9 else 10:=by unfold RS.ck;rw [dK]
     have key:∀ (t:T) (q:RS),(∀ g,KF f<=g->mS (g+1) (.cond p.place d) p=some (t,q))->∀ g,KF (f+1)<=g->mS g (.stmt d) p=some (t,q):=by
      intro t q hk g hg;obtain ⟨g,rfl,hg⟩:=up hg;rw [mS,dG];rw [if_neg (by rw [dK];exact hv),if_pos (by rw [dK];exact hc)];obtain ⟨g,rfl⟩:∃ g',g=g'+1:=⟨g - 1,by omega⟩;exact hk g aq
     rcases Fx (d:=d+1) (a:=[40]) (b:=[41]) hn.1 av av with ⟨c,q,h1,⟨r,h2,h3⟩ | ⟨x,h2,h3⟩⟩
     ·rw [show p.next.e=p.e from rfl] at h2;rw [h2] at h |-;simp only at h |-;have h3:=hn.tr h3
      have hb:rs p.e f (.block (d+1)) r≠.error aX:=fun h0=>h (by rw [h0])
      rw [<-h3.2.2] at hb;obtain ⟨b,q2,h4,h5⟩:=C.block (d+1) r (q.aO [41]) h3.1 hb;rw [h3.2.2] at h5
      cases he:rs p.e f (.block (d+1)) r with
      | error x =>
       rw [he] at h5;refine ⟨one p.ck p.place [] [c,b],q2,key _ _ fun g hg=>?_,h3.tr (y:=.error x) h5⟩;rw [mS,h1];simp only;rw [h4 g hg];simp only;rw [if_neg (by rw [lh (bF.err h5)];exact fun x=>absurd x.2 av)]
      | ok y =>
       obtain ⟨b',r2⟩:=y;rw [he] at h5 h;obtain ⟨rfl,h5⟩:=h5;simp only at h |-;have h5:=h3.tr h5;have jD:q2.sign 0=sign r2 0:=h5.1.sign 0
       by_cases hi:sign ts 0=dL
       ·rw [if_pos hi] at h sP |-
        by_cases eW:sign r2 0=ei
        ·rw [if_pos eW] at h |-;obtain ⟨te,MV,_⟩:=dv av eW;have bP:=h5.1;rw [MV] at bP
         have bP:=h5.tr bP.next
         have hb:rs p.e f (.block (d+1)) r2.tail≠.error aX:=fun h0=>h (by rw [h0])
         rw [<-bP.2.2] at hb
         obtain ⟨b2,q3,h6,h7⟩:=C.block (d+1) r2.tail q2.next bP.1 hb
         rw [bP.2.2] at h7;refine ⟨one p.ck p.place [] [c,b,b2],q3,key _ _ fun g hg=>?_,?_⟩
         ·rw [mS,h1];simp only;rw [h4 g hg];simp only;rw [if_pos ⟨sP,by rw [jD,eW]⟩,h6 g hg]
         ·cases pg:rs p.e f (.block (d+1)) r2.tail with
          | error x=>rw [pg] at h7;exact bP.tr (y:=.error x) h7
          | ok y=>obtain ⟨b3,r3⟩:=y;rw [pg] at h7;obtain ⟨rfl,h7⟩:=h7;exact ⟨by rw [sP,cW],bP.tr h7⟩
        ·rw [if_neg eW];refine ⟨one p.ck p.place [] [c,b],q2,key _ _ fun g hg=>?_,by rw [sP,cW],h5⟩;rw [mS,h1];simp only;rw [h4 g hg];simp only;rw [if_neg (fun x=>eW (by rw [<-jD];exact x.2))]
       ·rw [if_neg hi] at sP |-;refine ⟨one p.ck p.place [] [c,b],q2,key _ _ fun g hg=>?_,by rw [sP,cW],h5⟩;rw [mS,h1];simp only;rw [h4 g hg];simp only;rw [if_neg (by rw [sP];exact fun x=>absurd x.1 av)]
     ·rw [show p.next.e=p.e from rfl] at h2;rw [h2] at h |-;have h3:=hn.tr (y:=.error x) h3;refine ⟨one p.ck p.place [] [c,one 14 (q.aO [41]).place [] []],q.aO [41],key _ _ fun g hg=>?_,h3⟩;rw [mS,h1];simp only;rw [Nu h3.err (by unfold KF at hg;omega)];simp only;rw [if_neg (by rw [lh h3.err];exact fun x=>absurd x.2 av)]
    rw [if_neg hc] at h |-
    have EZ:¬ (p.sign 0=dL\/p.sign 0=du):=by rw [dK];exact hc
    by_cases hr:sign ts 0=db
    ·rw [if_pos hr];obtain ⟨tv,xN,_⟩:=dv av hr;have hn:=hp;rw [xN] at hn
     have hn:=hn.next
     obtain ⟨t,q,h1,h2⟩:=zE (d:=d+1) (b:=[59]) hn.1 av;rw [show p.next.e=p.e from rfl] at h2;refine ⟨one 11 p.place [] [t],q.aO [59],fun g hg=>?_,?_⟩
     ·obtain ⟨g,rfl,hg⟩:=up hg;rw [mS,dG];rw [if_neg (by rw [dK];exact hv),if_neg EZ,if_pos (by rw [dK,hr]),h1]
     ·rcases h2 with ⟨r,r',h2,h3,h4⟩ | ⟨r,x,h2,h3,h4⟩ | ⟨x,h2,h4⟩
      ·rw [h2];simp only;rw [h3];exact ⟨by rw [cW],hn.tr h4⟩
      ·rw [h2];simp only;rw [h3];exact hn.tr (y:=.error x) h4
      ·rw [h2];exact hn.tr (y:=.error x) h4
    rw [if_neg hr] at h |-
    have Ij:¬ p.sign 0=db:=by rw [dK];exact hr
    have Ik:¬ p.sign 0=gw:=by rw [dK];exact hv
    have eN:=hp.nD
    cases ts with
    | nil =>
     have kH:¬ (p.code=0/\p.nD=true/\p.sign 1=[61]):=fun hx=>by have:=hx.2.1;rw [eN] at this;cases this
     rcases Ki (d:=d+1) hp with ⟨t,q,r,h1,h2,h3⟩ | ⟨t,q,x,h1,h2,h3⟩
     ·exact absurd h2 (NL _ _ _ (fun k d out h=>by cases h) _ _)
     ·have kG:¬ (t.n.kind=3/\t.n.at_=p.place/\q.sign 0=[61]):=by rw [lh h3.err];exact fun x=>absurd x.2.2 av
      refine ⟨one 12 p.place [] [t],q.aO [59],fun g hg=>?_,by unfold simple;rw [h2,fU h3.err av];exact h3⟩;obtain ⟨g,rfl,hg⟩:=up hg;rw [mS,dG];rw [if_neg Ik,if_neg EZ,if_neg Ij,if_neg kH,h1];simp only;rw [if_neg kG]
    | cons a r0 =>
     simp only [simple] at h |-;simp only at eN
     by_cases b9:a.kind=2/\sign (a::r0) 1=[61]
     ·rw [if_pos b9];have kH:p.code=0/\p.nD=true/\p.sign 1=[61]:=⟨hp.code,by rw [eN];simpa using b9.1,by rw [UT];exact b9.2⟩
      rcases F8 (d:=d+1) hp with ⟨t,q,h1,⟨r,h2,h3⟩ | ⟨x,h2,h3⟩⟩
      ·rw [h2];refine ⟨one 7 p.place p.name.1 [t],q.aO [59],fun g hg=>?_,by rw [cW];rfl,h3⟩;obtain ⟨g,rfl,hg⟩:=up hg;rw [mS,dG];rw [if_neg Ik,if_neg EZ,if_neg Ij,if_pos kH,h1]
      ·rw [h2];refine ⟨one 7 p.place p.name.1 [t],q.aO [59],fun g hg=>?_,h3⟩;obtain ⟨g,rfl,hg⟩:=up hg;rw [mS,dG];rw [if_neg Ik,if_neg EZ,if_neg Ij,if_pos kH,h1]
     ·rw [if_neg b9]
      have kH:¬ (p.code=0/\p.nD=true/\p.sign 1=[61]):=fun hx=>b9 ⟨by have:=hx.2.1;rw [eN] at this;simpa using this,by rw [<-UT];exact hx.2.2⟩
      have JX:p.place=a.at_:=cW
      rcases Ki (d:=d+1) hp with ⟨t,q,r,h1,h2,h3⟩ | ⟨t,q,x,h1,h2,h3⟩
      ·rw [h2];simp only;have jD:q.sign 0=sign r 0:=h3.1.sign 0
       by_cases hput:t.n.kind=3/\t.n.at_=a.at_/\sign r 0=[61]
       ·rw [if_pos hput]
        have kG:t.n.kind=3/\t.n.at_=p.place/\q.sign 0=[61]:=by rw [JX,jD];exact hput
        obtain ⟨te,MV,_⟩:=dv av hput.2.2;have hn:=h3.1;rw [MV] at hn
        have hn:=h3.tr hn.next
        obtain ⟨ix,xF⟩:=NK _ _ _ _ _ _ (fun k d out hj=>by cases hj) h2 hput.1
        have gV:∀ iI,Go.Xp.inner p.e (d+1) [61] [59] iI=Go.Xp.inner p.e (d+1) [61] [59] iI:=fun _=>rfl
        have jS:Go.Xp.aO p.e [61] r=.ok r.tail:=by unfold Go.Xp.aO;rw [if_pos hput.2.2]
        obtain ⟨v,q2,h4,h5⟩:=zE (d:=d+1) (b:=[59]) hn.1 av;rw [hn.2.2] at h5;refine ⟨one 8 p.place t.n.s [ix,v],q2.aO [59],fun g hg=>?_,?_⟩
        ·obtain ⟨g,rfl,hg⟩:=up hg;rw [mS,dG];rw [if_neg Ik,if_neg EZ,if_neg Ij,if_neg kH,h1];simp only;rw [if_pos kG,xF,h4]
        ·unfold Go.Xp.inner;rw [jS];simp only
         rcases h5 with ⟨r2,r',h2,h3,h4⟩ | ⟨r2,x,h2,h3,h4⟩ | ⟨x,h2,h4⟩
         ·rw [h2];simp only;rw [h3];exact ⟨by rw [JX,xF];rfl,hn.tr h4⟩
         ·rw [h2];simp only;rw [h3];exact hn.tr (y:=.error x) h4
         ·rw [h2];exact hn.tr (y:=.error x) h4
       ·rw [if_neg hput]
        have kG:¬ (t.n.kind=3/\t.n.at_=p.place/\q.sign 0=[61]):=by rw [JX,jD];exact hput
        refine ⟨one 12 p.place [] [t],q.aO [59],fun g hg=>?_,?_⟩
        ·obtain ⟨g,rfl,hg⟩:=up hg;rw [mS,dG];rw [if_neg Ik,if_neg EZ,if_neg Ij,if_neg kH,h1];simp only;rw [if_neg kG]
        ·rcases yF h3.1 (s:=[59]) av with ⟨r',h4,h5⟩ | ⟨x,h4,h5⟩
         ·rw [h3.2.2] at h4;rw [h4];exact ⟨by rw [JX],h3.tr h5⟩
         ·rw [h3.2.2] at h4;rw [h4];exact h3.tr (y:=.error x) h5
      ·rw [h2]
       have kG:¬ (t.n.kind=3/\t.n.at_=p.place/\q.sign 0=[61]):=by rw [lh h3.err];exact fun x=>absurd x.2.2 av
       refine ⟨one 12 p.place [] [t],q.aO [59],fun g hg=>?_,by rw [fU h3.err av];exact h3⟩;obtain ⟨g,rfl,hg⟩:=up hg;rw [mS,dG];rw [if_neg Ik,if_neg EZ,if_neg Ij,if_neg kH,h1];simp only;rw [if_neg kG]
  ·rw [rs.body] at h |-;have dK:p.sign 0=sign ts 0:=hp.sign 0
   by_cases hb:sign ts 0=[125]
   ·rw [if_pos hb];have hm:=hp.aO (s:=[125]) av;unfold Go.Xp.aO at hm;rw [if_pos hb] at hm;refine ⟨acc,p,fun g hg=>?_,rfl,hm⟩;obtain ⟨g,rfl,hg⟩:=up hg;rw [mB,if_neg (fun h0=>h0.2 (by rw [dK,hb]))]
   ·rw [if_neg hb] at h |-
    have hs:rs p.e f (.stmt d) ts≠.error aX:=fun h0=>h (by rw [h0])
    obtain ⟨a,q,h1,h2⟩:=C.stmt d ts p hp hs;have hc:p.code=0/\¬ p.sign 0=[125]:=⟨hp.code,by rw [dK];exact hb⟩
    cases he:rs p.e f (.stmt d) ts with
    | error x =>
     rw [he] at h2 h;refine ⟨acc++[a],q,fun g hg=>?_,by rw [fU (bF.err h2) av];exact h2⟩;obtain ⟨g,rfl,hg⟩:=up hg;rw [mB,if_pos hc,h1 g aq];simp only;obtain ⟨g,rfl⟩:∃ g',g=g'+1:=⟨g - 1,by omega⟩;rw [mB,if_neg (fun h0=>bF.err h2 h0.1)]
    | ok y =>
     obtain ⟨a',r⟩:=y;rw [he] at h2 h;obtain ⟨rfl,h2⟩:=h2;simp only at h |-;rw [<-h2.2.2] at h |-;obtain ⟨l,q3,h3,h4⟩:=C.body d (acc++[a]) r q h2.1 h;refine ⟨l,q3,fun g hg=>?_,iQ.tr h2 h4⟩;obtain ⟨g,rfl,hg⟩:=up hg;rw [mB,if_pos hc,h1 g aq];exact h3 g aq
end Go.Sp
namespace Go.Im
open Go.Xp Go.Sp
def tok (p:RS) (k:Nat):Tok:=match p.l[p.i+k]? with | some t=>t | none=>⟨0,0,[],p.e⟩
def is (p:RS) (k:Nat) (s:ai):Bool:=(tok p k).kind==3&&(tok p k).s==s
def kg (p:RS):RS:=p.fail 7 (tok p 0).at_
def want (p:RS) (s:ai):RS:=if p.code=0 then (if is p 0 s=true then p.next else kg p) else p
def br (p:RS):RS:=if p.code=0 then (if (tok p 0).kind=2 then (if (tok p 0).s.length > 12 then p.fail 8 (tok p 0).at_ else p.next) else kg p) else p
def bL (p:RS) (d:Nat):RS:=if d > 60 then p.fail 9 (tok p 0).at_ else p
mutual
def iE:Nat->ow->RS->Option (T × RS)
 | 0,_,_=>none
 | f+1,.expr d,p=>if (bL p d).code=0 then iE f (.level 0 (d+1)) (bL p d) else some (T.zero,bL p d)
 | f+1,.level k d,p =>
  if k=9 then iE f (.operand d) p
  else match iE f (.level (k+1) d) p with
   | none=>none
   | some (out,p)=>iE f (.loop k d out) p
 | f+1,.loop k d out,p =>
  if p.code=0/\(tok p 0).kind=3/\(levels.getD k []).contains (tok p 0).s=true then
   match iE f (.level (k+1) d) p.next with
   | none=>none
   | some (b,q)=>iE f (.loop k d (one 6 (tok p 0).at_ (tok p 0).s [out,b])) q
  else some (out,p)
 | f+1,.operand d,p =>
  if (bL p d).code=0 then
   if is p 0 [45]=true\/is p 0 [33]=true\/is p 0 [126]=true then match iE f (.operand (d+1)) p.next with
    | none=>none
    | some (a,q)=>some (one 5 (tok p 0).at_ (tok p 0).s [a],q)
   else if (tok p 0).kind=1 then some (.mk ⟨1,(tok p 0).at_,(tok p 0).n,[],[]⟩ [],p.next)
   else if is p 0 [40]=true then match iE f (.expr (d+1)) p.next with
    | none=>none
    | some (a,q)=>some (a,want q [41])
   else if (br p).code=0 then
    if is (br p) 0 [91]=true then match iE f (.expr (d+1)) (br p).next with
     | none=>none
     | some (a,q)=>some (one 3 (tok p 0).at_ (tok p 0).s [a],want q [93])
    else if is (br p) 0 [40]=true then match iA f (d+1) [] (br p).next with
     | none=>none
     | some (l,q)=>some (one 4 (tok p 0).at_ (tok p 0).s l,q)
    else some (one 2 (tok p 0).at_ (tok p 0).s [],br p)
   else some (one 2 (tok p 0).at_ (tok p 0).s [],br p)
  else some (T.zero,bL p d)
def iA:Nat->Nat->List T->RS->Option (List T × RS)
 | 0,_,_,_=>none
 | f+1,d,acc,p =>
  if p.code=0/\is p 0 [41]=false then match iE f (.expr d) (if acc.length=0 then p else want p [44]) with
   | none=>none
   | some (a,q)=>iA f d (acc++[a]) q
  else some (acc,want p [41])
end
section
variable {p q:RS} {ts r:List Tok}
theorem On.tok (h:On p ts) (k:Nat):tok p k=(match ts[k]? with | some t=>t | none=>⟨0,0,[],p.e⟩):=by unfold Im.tok;rw [h.at]
theorem On.p9 (h:On p ts):(Im.tok p 0).at_=Go.Xp.place p.e ts:=by
 rw [On.tok h]
 cases ts with
 | nil=>rfl
 | cons t r=>rfl
theorem On.is (h:On p ts) (k:Nat) {s:ai} (hs:s≠[]):is p k s=decide (sign ts k=s):=by
 unfold Im.is
 have he:sign ts k=(if (Im.tok p k).kind=3 then (Im.tok p k).s else []):=by
  unfold Go.Xp.sign;rw [On.tok h]
  cases hk:ts[k]? with
  | none=>simp
  | some t=>rfl
 rw [he]
 by_cases h3:(Im.tok p k).kind=3
 ·rw [if_pos h3,Bool.eq_iff_iff];simp [h3]
 ·rw [if_neg h3,Bool.eq_iff_iff];simp [h3];exact hs
theorem fF (h:p.code≠0) (s:ai):want p s=p:=by unfold want;rw [if_neg h]
theorem AA (h:p.code≠0) (d:Nat):bL p d=p:=by unfold bL;split <;> simp [sJ h]
theorem Ny (h:p.code≠0):br p=p:=by unfold br;rw [if_neg h]
theorem On.kg (h:On p ts):bF p (kg p) (.error (7,place p.e ts)):=by
 unfold Im.kg;rw [On.p9 h];exact h.fail 7 _ av
theorem On.want (h:On p ts) {s:ai} (hs:s≠[]):bF p (want p s) (Go.Xp.aO p.e s ts):=by
 unfold Im.want Go.Xp.aO;rw [if_pos h.code,On.is h 0 hs]
 by_cases h0:sign ts 0=s
 ·rw [if_pos (by simpa using h0),if_pos h0];obtain ⟨t,ht,_⟩:=dv hs h0;rw [ht] at h
  exact h.next
 ·rw [if_neg (by simpa using h0),if_neg h0];exact On.kg h
theorem lN (h:On p ts) {s:ai} (hs:s≠[]):(∃ r,Go.Xp.aO p.e s ts=.ok r/\bF p (Im.want p s) (.ok r))\/(∃ x,Go.Xp.aO p.e s ts=.error x/\bF p (Im.want p s) (.error x)):=by
 have h:=On.want h hs
 cases he:Go.Xp.aO p.e s ts with
 | ok r=>rw [he] at h;exact .inl ⟨r,rfl,h⟩
 | error x=>rw [he] at h;exact .inr ⟨x,rfl,h⟩
theorem tj (h:On p ts):(∃ r,Go.Xp.name p.e ts=.ok ((Im.tok p 0).s,r)/\bF p (Im.br p) (.ok r))\/(∃ x,Go.Xp.name p.e ts=.error x/\bF p (Im.br p) (.error x)):=by
 have ht:=On.tok h 0;have hw:=On.kg h;unfold Im.br;rw [if_pos h.code]
 cases ts with
 | nil =>
  simp only [List.getElem?_nil] at ht;rw [ht];exact .inr ⟨_,rfl,by rw [if_neg (by simp)];exact hw⟩
 | cons t r =>
  simp only [getElem?_cons_zero] at ht;rw [ht];simp only [Go.Xp.name]
  by_cases h2:t.kind=2
  ·rw [if_pos h2,if_pos h2]
   by_cases hl:t.s.length > 12
   ·rw [if_pos hl,if_pos hl];exact .inr ⟨_,rfl,h.fail 8 _ av⟩
   ·rw [if_neg hl,if_neg hl];exact .inl ⟨r,rfl,h.next⟩
  ·rw [if_neg h2,if_neg h2];exact .inr ⟨_,rfl,hw⟩
theorem Fw (h:p.code≠0) {g d:Nat} (hg:1<=g):iE g (.expr d) p=some (T.zero,p):=by
 obtain ⟨g,rfl⟩:∃ g',g=g'+1:=⟨g - 1,by omega⟩;rw [iE,AA h,if_neg h]
theorem M0 (h:p.code≠0) {g k d:Nat} {out:T} (hg:1<=g):iE g (.loop k d out) p=some (out,p):=by
 obtain ⟨g,rfl⟩:∃ g',g=g'+1:=⟨g - 1,by omega⟩;rw [iE,if_neg (fun h0=>h h0.1)]
end
structure IE (f:Nat):Prop where
 expr:∀ d ts p,On p ts->rd p.e f (.expr d) ts≠.error aX->∃ t q,(∀ g,f+2<=g->iE g (.expr d) p=some (t,q))/\iQ p q t (rd p.e f (.expr d) ts)
 level:∀ k d ts p,k<=9->On p ts->rd p.e f (.level k d) ts≠.error aX->∃ t q,(∀ g,f+2<=g->iE g (.level k d) p=some (t,q))/\iQ p q t (rd p.e f (.level k d) ts)
 loop:∀ k d out ts p,k < 9->On p ts->rd p.e f (.loop k d out) ts≠.error aX->∃ t q,(∀ g,f+2<=g->iE g (.loop k d out) p=some (t,q))/\iQ p q t (rd p.e f (.loop k d out) ts)
 operand:∀ d ts p,On p ts->rd p.e f (.operand d) ts≠.error aX->∃ t q,(∀ g,f+2<=g->iE g (.operand d) p=some (t,q))/\iQ p q t (rd p.e f (.operand d) ts)
 args:∀ d acc ts p,On p ts->rd.args p.e f d acc ts≠.error aX->∃ t q,(∀ g,f+2<=g->iA g d acc p=some (t,q))/\iQ p q t (rd.args p.e f d acc ts)
theorem lL {f g:Nat} (h:f+1+2<=g):∃ g',g=g'+1/\f+2<=g':=⟨g - 1,by omega,by omega⟩
theorem ie (f:Nat):IE f:=by
 induction f with
 | zero =>
  refine ⟨fun d ts p _ h=>absurd ?_ h,fun k d ts p _ _ h=>absurd ?_ h,fun k d out ts p _ _ h=>absurd ?_ h,fun d ts p _ h=>absurd ?_ h,fun d acc ts p _ h=>absurd ?_ h⟩ <;> simp [rd,rd.args]
 | succ f C =>
  refine ⟨fun d ts p hp h=>?_,fun k d ts p hk hp h=>?_,fun k d out ts p hk hp h=>?_,fun d ts p hp h=>?_,fun d acc ts p hp h=>?_⟩
  ·rw [rd] at h |-
   by_cases hd:d > 60
   ·rw [if_pos hd] at h |-;have hf:=hp.fail 9 (tok p 0).at_ av;refine ⟨T.zero,p.fail 9 (tok p 0).at_,fun g hg=>?_,by rw [<-On.p9 hp];exact hf⟩;obtain ⟨g,rfl,hg⟩:=lL hg
    have fJ:bL p d=p.fail 9 (tok p 0).at_:=by unfold bL;rw [if_pos hd]
    rw [iE,fJ,if_neg hf.err]
   ·rw [if_neg hd] at h |-
    have fJ:bL p d=p:=by unfold bL;rw [if_neg hd]
    obtain ⟨t,q,h1,h2⟩:=C.level 0 (d+1) ts p aq hp h;refine ⟨t,q,fun g hg=>?_,h2⟩;obtain ⟨g,rfl,hg⟩:=lL hg;rw [iE,fJ,if_pos hp.code];exact h1 g aq
  ·rw [rd] at h |-
   by_cases h9:k=9
   ·rw [if_pos h9] at h |-;obtain ⟨t,q,h1,h2⟩:=C.operand d ts p hp h;refine ⟨t,q,fun g hg=>?_,h2⟩;obtain ⟨g,rfl,hg⟩:=lL hg;rw [iE,if_pos h9];exact h1 g aq
   ·rw [if_neg h9] at h |-
    cases he:rd p.e f (.level (k+1) d) ts with
    | error x =>
     rw [he] at h
     have hx:x≠aX:=fun h0=>h (by rw [h0])
     obtain ⟨t,q,h1,h2⟩:=C.level (k+1) d ts p aq hp (by rw [he];intro h0;cases h0;exact hx rfl);rw [he] at h2;refine ⟨t,q,fun g hg=>?_,h2⟩;obtain ⟨g,rfl,hg⟩:=lL hg;rw [iE,if_neg h9,h1 g aq];exact M0 (bF.err h2) aq
    | ok r =>
     obtain ⟨t',r⟩:=r;rw [he] at h;simp only at h |-;obtain ⟨t,q,h1,h2⟩:=C.level (k+1) d ts p aq hp (by rw [he];intro h0;cases h0);rw [he] at h2;obtain ⟨rfl,h2⟩:=h2;rw [<-h2.2.2] at h |-;obtain ⟨t3,q3,h3,h4⟩:=C.loop k d t r q aq h2.1 h;refine ⟨t3,q3,fun g hg=>?_,iQ.tr h2 h4⟩;obtain ⟨g,rfl,hg⟩:=lL hg;rw [iE,if_neg h9,h1 g aq];exact h3 g aq
  ·cases ts with
   | nil =>
    rw [rd];refine ⟨out,p,fun g hg=>?_,rfl,hp.self⟩;obtain ⟨g,rfl,hg⟩:=lL hg;rw [iE,if_neg];rintro ⟨_,h0,_⟩;rw [On.tok hp] at h0;simp at h0
   | cons t r =>
    rw [rd] at h |-
    have ht:tok p 0=t:=by rw [On.tok hp];rfl
    by_cases hc:t.kind=3/\t.s∈levels.getD k []
    ·rw [if_pos hc] at h |-
     have hn:=hp.next
     have nf:p.code=0/\(tok p 0).kind=3/\(levels.getD k []).contains (tok p 0).s=true:=by rw [ht];exact ⟨hp.code,hc.1,by simpa using hc.2⟩
     rw [show p.e=p.next.e from rfl] at h |-
     cases he:rd p.next.e f (.level (k+1) d) r with
     | error x =>
      rw [he] at h
      have hx:x≠aX:=fun h0=>h (by rw [h0])
      obtain ⟨b,q,h1,h2⟩:=C.level (k+1) d r p.next aq hn.1 (by rw [he];intro h0;cases h0;exact hx rfl)
      rw [he] at h2;refine ⟨one 6 t.at_ t.s [out,b],q,fun g hg=>?_,hn.tr (y:=.error x) h2⟩;obtain ⟨g,rfl,hg⟩:=lL hg;rw [iE,if_pos nf,h1 g aq,ht];exact M0 (bF.err h2) aq
     | ok x =>
      obtain ⟨b',r'⟩:=x;rw [he] at h;simp only at h |-
      obtain ⟨b,q,h1,h2⟩:=C.level (k+1) d r p.next aq hn.1 (by rw [he];intro h0;cases h0)
      rw [he] at h2;obtain ⟨rfl,h2⟩:=h2;rw [<-h2.2.2] at h |-;obtain ⟨t3,q3,h3,h4⟩:=C.loop k d (one 6 t.at_ t.s [out,b]) r' q hk h2.1 h;refine ⟨t3,q3,fun g hg=>?_,iQ.tr (hn.tr h2) h4⟩;obtain ⟨g,rfl,hg⟩:=lL hg;rw [iE,if_pos nf,h1 g aq,ht];exact h3 g aq
    ·rw [if_neg hc];refine ⟨out,p,fun g hg=>?_,rfl,hp.self⟩;obtain ⟨g,rfl,hg⟩:=lL hg;rw [iE,if_neg];rw [ht];rintro ⟨_,h0,h1⟩;exact hc ⟨h0,by simpa using h1⟩
  ·rw [rd.eq_def] at h |-;simp only at h |-
   by_cases hd:d > 60
   ·rw [if_pos hd] at h |-;have hf:=hp.fail 9 (tok p 0).at_ av;refine ⟨T.zero,p.fail 9 (tok p 0).at_,fun g hg=>?_,by rw [<-On.p9 hp];exact hf⟩;obtain ⟨g,rfl,hg⟩:=lL hg
    have fJ:bL p d=p.fail 9 (tok p 0).at_:=by unfold bL;rw [if_pos hd]
    rw [iE,fJ,if_neg hf.err]
   ·rw [if_neg hd] at h |-
    have fJ:bL p d=p:=by unfold bL;rw [if_neg hd]
    have hi:∀ s:ai,s≠[]->is p 0 s=decide (sign ts 0=s):=fun s hs=>On.is hp 0 hs
    cases ts with
    | nil =>
     simp only
     have ht:tok p 0=⟨0,0,[],p.e⟩:=by rw [On.tok hp];rfl
     have bN:∀ s:ai,s≠[]->is p 0 s=false:=fun s hs=>by rw [hi s hs];exact decide_eq_false (fun h=>hs h.symm)
     have A2:br p=p.fail 7 p.e:=by unfold br;rw [if_pos hp.code,ht,if_neg (by simp)];unfold kg;rw [ht]
     have hf:=hp.fail 7 p.e av;refine ⟨one 2 p.e [] [],p.fail 7 p.e,fun g hg=>?_,hf⟩;obtain ⟨g,rfl,hg⟩:=lL hg;rw [iE,fJ,if_pos hp.code,bN _ av,bN _ av,bN _ av,if_neg av,if_neg (by rw [ht];simp),bN _ av,if_neg av,A2,if_neg hf.err,ht]
    | cons t r =>
     simp only at h |-
     have ht:tok p 0=t:=by rw [On.tok hp];rfl
     have hn:=hp.next
     by_cases h3:t.kind=3
     ·rw [if_pos h3] at h |-
      have dK:sign (t::r) 0=t.s:=by simp only [sign,getElem?_cons_zero,bo,h3,if_true]
      have AO:¬ t.kind=1:=by omega
      have oE:∀ s:ai,s≠[]->is p 0 s=decide (t.s=s):=fun s hs=>by rw [hi s hs,dK]
      by_cases hu:t.s=[45]\/t.s=[33]\/t.s=[126]
      ·rw [if_pos hu] at h |-
       have tY:is p 0 [45]=true\/is p 0 [33]=true\/is p 0 [126]=true:=by
        rw [oE _ av,oE _ av,oE _ av];simpa using hu
       rw [show p.e=p.next.e from rfl] at h |-
       cases he:rd p.next.e f (.operand (d+1)) r with
       | error x =>
        rw [he] at h
        have hx:x≠aX:=fun h0=>h (by rw [h0])
        obtain ⟨b,q,h1,h2⟩:=C.operand (d+1) r p.next hn.1 (by rw [he];intro h0;cases h0;exact hx rfl)
        rw [he] at h2;refine ⟨one 5 t.at_ t.s [b],q,fun g hg=>?_,hn.tr (y:=.error x) h2⟩;obtain ⟨g,rfl,hg⟩:=lL hg;rw [iE,fJ,if_pos hp.code,if_pos tY,h1 g aq,ht]
       | ok x =>
        obtain ⟨b',r'⟩:=x;rw [he] at h;simp only at h |-
        obtain ⟨b,q,h1,h2⟩:=C.operand (d+1) r p.next hn.1 (by rw [he];intro h0;cases h0)
        rw [he] at h2;obtain ⟨rfl,h2⟩:=h2;refine ⟨one 5 t.at_ t.s [b],q,fun g hg=>?_,rfl,hn.tr h2⟩;obtain ⟨g,rfl,hg⟩:=lL hg;rw [iE,fJ,if_pos hp.code,if_pos tY,h1 g aq,ht]
      ·rw [if_neg hu] at h |-
       have tY:¬ (is p 0 [45]=true\/is p 0 [33]=true\/is p 0 [126]=true):=by
        rw [oE _ av,oE _ av,oE _ av];simpa using hu
       by_cases hb:t.s=[40]
       ·rw [if_pos hb] at h |-
        have bt:is p 0 [40]=true:=by rw [oE _ av];simpa using hb
        rw [show p.e=p.next.e from rfl] at h |-
        cases he:rd p.next.e f (.expr (d+1)) r with
        | error x =>
         rw [he] at h
         have hx:x≠aX:=fun h0=>h (by rw [h0])
         obtain ⟨b,q,h1,h2⟩:=C.expr (d+1) r p.next hn.1 (by rw [he];intro h0;cases h0;exact hx rfl)
         rw [he] at h2;refine ⟨b,want q [41],fun g hg=>?_,?_⟩
         ·obtain ⟨g,rfl,hg⟩:=lL hg;rw [iE,fJ,if_pos hp.code,if_neg tY,if_neg (by rw [ht];exact AO),if_pos bt,h1 g aq]
         ·rw [fF (bF.err h2)];exact hn.tr (y:=.error x) h2
        | ok x =>
         obtain ⟨b',r'⟩:=x;rw [he] at h;simp only at h |-
         obtain ⟨b,q,h1,h2⟩:=C.expr (d+1) r p.next hn.1 (by rw [he];intro h0;cases h0)
         rw [he] at h2;obtain ⟨rfl,h2⟩:=h2;have aM:=(hn.tr h2).tr (On.want h2.1 (s:=[41]) av);rw [h2.2.2] at aM;refine ⟨b,want q [41],fun g hg=>?_,?_⟩
         ·obtain ⟨g,rfl,hg⟩:=lL hg;rw [iE,fJ,if_pos hp.code,if_neg tY,if_neg (by rw [ht];exact AO),if_pos bt,h1 g aq]
         ·cases rh:aO p.next.e [41] r' with
          | error x=>rw [rh] at aM;exact aM
          | ok r2=>rw [rh] at aM;exact ⟨rfl,aM⟩
       ·rw [if_neg hb] at h |-
        have bt:¬ is p 0 [40]=true:=by rw [oE _ av];simpa using hb
        have A2:br p=p.fail 7 t.at_:=by unfold br;rw [if_pos hp.code,ht,if_neg aq];unfold kg;rw [ht]
        have hf:=hp.fail 7 t.at_ av;refine ⟨one 2 t.at_ t.s [],p.fail 7 t.at_,fun g hg=>?_,hf⟩;obtain ⟨g,rfl,hg⟩:=lL hg;rw [iE,fJ,if_pos hp.code,if_neg tY,if_neg (by rw [ht];exact AO),if_neg bt,A2,if_neg hf.err,ht]
     ·rw [if_neg h3] at h |-
      have bN:∀ s:ai,s≠[]->is p 0 s=false:=fun s hs=>by unfold is;rw [ht];simp [h3]
      have tY:¬ (is p 0 [45]=true\/is p 0 [33]=true\/is p 0 [126]=true):=by rw [bN _ av,bN _ av,bN _ av];decide
      by_cases h1:t.kind=1
      ·rw [if_pos h1];refine ⟨_,p.next,fun g hg=>?_,rfl,hn⟩;obtain ⟨g,rfl,hg⟩:=lL hg;rw [iE,fJ,if_pos hp.code,if_neg tY,if_pos (by rw [ht];exact h1),ht]
      ·rw [if_neg h1] at h |-
       have cI:¬ (tok p 0).kind=1:=by rw [ht];exact h1
       have bt:¬ is p 0 [40]=true:=by rw [bN _ av];decide
       rcases tj hp with ⟨r',k1,k2⟩ | ⟨x,k1,k2⟩
       ·rw [k1] at h |-;simp only at h |-
        have rM:∀ s:ai,s≠[]->is (br p) 0 s=decide (sign r' 0=s):=fun s hs=>On.is k2.1 0 hs
        by_cases hb:sign r' 0=[91]
        ·rw [if_pos hb] at h |-
         have u5:is (br p) 0 [91]=true:=by rw [rM _ av];simpa using hb
         obtain ⟨tb,A7,_⟩:=dv av hb;have bP:=k2.1;rw [A7] at bP
         have bP:=k2.tr bP.next
         rw [<-bP.2.2] at h |-
         cases he:rd (br p).next.e f (.expr (d+1)) r'.tail with
         | error x =>
          rw [he] at h
          have hx:x≠aX:=fun h0=>h (by rw [h0])
          obtain ⟨b,q,k3,k4⟩:=C.expr (d+1) r'.tail (br p).next bP.1 (by rw [he];intro h0;cases h0;exact hx rfl)
          rw [he] at k4;refine ⟨one 3 t.at_ (tok p 0).s [b],want q [93],fun g hg=>?_,?_⟩
          ·obtain ⟨g,rfl,hg⟩:=lL hg;rw [iE,fJ,if_pos hp.code,if_neg tY,if_neg cI,if_neg bt,if_pos k2.1.code,if_pos u5,k3 g aq];simp only [ht]
          ·rw [fF (bF.err k4)];exact bP.tr (y:=.error x) k4
         | ok x =>
          obtain ⟨b',r2⟩:=x;rw [he] at h;simp only at h |-
          obtain ⟨b,q,k3,k4⟩:=C.expr (d+1) r'.tail (br p).next bP.1 (by rw [he];intro h0;cases h0)
          rw [he] at k4;obtain ⟨rfl,k4⟩:=k4;have aM:=(bP.tr k4).tr (On.want k4.1 (s:=[93]) av);rw [k4.2.2] at aM;refine ⟨one 3 t.at_ (tok p 0).s [b],want q [93],fun g hg=>?_,?_⟩
          ·obtain ⟨g,rfl,hg⟩:=lL hg;rw [iE,fJ,if_pos hp.code,if_neg tY,if_neg cI,if_neg bt,if_pos k2.1.code,if_pos u5,k3 g aq];simp only [ht]
          ·cases rh:aO (br p).next.e [93] r2 with
           | error x=>rw [rh] at aM;exact aM
           | ok r3=>rw [rh] at aM;exact ⟨rfl,aM⟩
        ·rw [if_neg hb] at h |-
         have u5:¬ is (br p) 0 [91]=true:=by rw [rM _ av];simpa using hb
         by_cases hc:sign r' 0=[40]
         ·rw [if_pos hc] at h |-
          have n9:is (br p) 0 [40]=true:=by rw [rM _ av];simpa using hc
          obtain ⟨tb,A7,_⟩:=dv av hc;have bP:=k2.1;rw [A7] at bP
          have bP:=k2.tr bP.next
          rw [<-bP.2.2] at h |-
          cases he:rd.args (br p).next.e f (d+1) [] r'.tail with
          | error x =>
           rw [he] at h
           have hx:x≠aX:=fun h0=>h (by rw [h0])
           obtain ⟨b,q,k3,k4⟩:=C.args (d+1) [] r'.tail (br p).next bP.1 (by rw [he];intro h0;cases h0;exact hx rfl)
           rw [he] at k4;refine ⟨one 4 t.at_ (tok p 0).s b,q,fun g hg=>?_,bP.tr (y:=.error x) k4⟩;obtain ⟨g,rfl,hg⟩:=lL hg;rw [iE,fJ,if_pos hp.code,if_neg tY,if_neg cI,if_neg bt,if_pos k2.1.code,if_neg u5,if_pos n9,k3 g aq];simp only [ht]
          | ok x =>
           obtain ⟨b',r2⟩:=x;rw [he] at h
           obtain ⟨b,q,k3,k4⟩:=C.args (d+1) [] r'.tail (br p).next bP.1 (by rw [he];intro h0;cases h0)
           rw [he] at k4;obtain ⟨rfl,k4⟩:=k4;refine ⟨one 4 t.at_ (tok p 0).s b,q,fun g hg=>?_,rfl,bP.tr k4⟩;obtain ⟨g,rfl,hg⟩:=lL hg;rw [iE,fJ,if_pos hp.code,if_neg tY,if_neg cI,if_neg bt,if_pos k2.1.code,if_neg u5,if_pos n9,k3 g aq];simp only [ht]
         ·rw [if_neg hc] at h |-
          have n9:¬ is (br p) 0 [40]=true:=by rw [rM _ av];simpa using hc
          refine ⟨one 2 t.at_ (tok p 0).s [],br p,fun g hg=>?_,rfl,k2⟩;obtain ⟨g,rfl,hg⟩:=lL hg;rw [iE,fJ,if_pos hp.code,if_neg tY,if_neg cI,if_neg bt,if_pos k2.1.code,if_neg u5,if_neg n9];simp only [ht]
       ·rw [k1] at h |-;refine ⟨one 2 t.at_ (tok p 0).s [],br p,fun g hg=>?_,k2⟩;obtain ⟨g,rfl,hg⟩:=lL hg;rw [iE,fJ,if_pos hp.code,if_neg tY,if_neg cI,if_neg bt,if_neg k2.err];simp only [ht]
  ·rw [rd.args] at h |-;have hi:is p 0 [41]=decide (sign ts 0=[41]):=On.is hp 0 av
   by_cases hb:sign ts 0=[41]
   ·rw [if_pos hb];have hm:=On.want hp (s:=[41]) av;unfold Go.Xp.aO at hm;rw [if_pos hb] at hm;refine ⟨acc,want p [41],fun g hg=>?_,rfl,hm⟩;obtain ⟨g,rfl,hg⟩:=lL hg;rw [iA,if_neg (fun h0=>by rw [hi] at h0;simp [hb] at h0)]
   ·rw [if_neg hb] at h |-;have nf:p.code=0/\is p 0 [41]=false:=⟨hp.code,by rw [hi];simpa using hb⟩;have key:∀ (p':RS) (iI:List Tok),bF p p' (.ok iI)->(if acc.length=0 then p else want p [44])=p'->(match rd p.e f (.expr d) iI with | .error x=>.error x | .ok (a,ts)=>rd.args p.e f d (acc++[a]) ts:Rd (List T))≠.error aX ->
      ∃ t q,(∀ g,f+1+2<=g->iA g d acc p=some (t,q))/\iQ p q t (match rd p.e f (.expr d) iI with | .error x=>.error x | .ok (a,ts)=>rd.args p.e f d (acc++[a]) ts):=by
     intro p' iI hn E8 h;rw [<-hn.2.2] at h |-
     cases he:rd p'.e f (.expr d) iI with
     | error x =>
      rw [he] at h
      have hx:x≠aX:=fun h0=>h (by rw [h0])
      obtain ⟨b,q,k1,k2⟩:=C.expr d iI p' hn.1 (by rw [he];intro h0;cases h0;exact hx rfl);rw [he] at k2;refine ⟨acc++[b],q,fun g hg=>?_,hn.tr (y:=.error x) k2⟩;obtain ⟨g,rfl,hg⟩:=lL hg;rw [iA,if_pos nf,E8,k1 g aq];simp only;obtain ⟨g,rfl⟩:∃ g',g=g'+1:=⟨g - 1,by omega⟩;rw [iA,if_neg (fun h0=>bF.err k2 h0.1),fF (bF.err k2)]
     | ok x =>
      obtain ⟨b',r'⟩:=x;rw [he] at h;simp only at h |-;obtain ⟨b,q,k1,k2⟩:=C.expr d iI p' hn.1 (by rw [he];intro h0;cases h0);rw [he] at k2;obtain ⟨rfl,k2⟩:=k2;rw [<-k2.2.2] at h |-;obtain ⟨t3,q3,h3,h4⟩:=C.args d (acc++[b]) r' q k2.1 h;refine ⟨t3,q3,fun g hg=>?_,iQ.tr (hn.tr k2) h4⟩;obtain ⟨g,rfl,hg⟩:=lL hg;rw [iA,if_pos nf,E8,k1 g aq];exact h3 g aq
    cases acc with
    | nil =>
     rw [if_pos rfl] at h |-;exact key p ts hp.self rfl h
    | cons a0 acc0 =>
     rw [if_neg (by simp)] at h |-
     rcases lN hp (s:=[44]) av with ⟨r',k1,k2⟩ | ⟨x,k1,k2⟩
     ·rw [k1] at h |-;exact key _ r' k2 (if_neg (by simp)) h
     ·rw [k1];refine ⟨a0::acc0++[T.zero],want p [44],fun g hg=>?_,k2⟩;obtain ⟨g,rfl,hg⟩:=lL hg;rw [iA,if_pos nf,if_neg (by simp),Fw k2.err aq];simp only;obtain ⟨g,rfl⟩:∃ g',g=g'+1:=⟨g - 1,by omega⟩;rw [iA,if_neg (fun h0=>k2.err h0.1),fF k2.err]
end Go.Im
namespace Go.Xp
abbrev sy (ts:List Tok):Prop:=ts.Pairwise fun a b=>a.at_ < b.at_
theorem wq {e:Int} {s:ai} {ts r:List Tok} (hs:s≠[]) (h:aO e s ts=.ok r):∃ u,ts=u::r/\u.kind=3/\u.s=s:=by
 obtain ⟨h1,h2⟩:=Ch h;obtain ⟨t,h3,h4,h5⟩:=Go.Sp.dv hs h2;exact ⟨t,by rw [h1];exact h3,h4,h5⟩
theorem FL {e:Int} {s:ai} {ts r:List Tok} (h:name e ts=.ok (s,r)):∃ u,ts=u::r/\u.kind=2/\u.s=s/\s.length<=12:=by
 cases ts with
 | nil=>cases h
 | cons t ts =>
  rw [name] at h;split at h
  ·split at h
   ·cases h
   ·cases h;exact ⟨t,rfl,by assumption,rfl,by omega⟩
  ·cases h
theorem tz {s:ai} {ts:List Tok} (hs:s≠[]) (h:sign ts 0=s):∃ u,ts=u::ts.tail/\u.kind=3/\u.s=s:=Go.Sp.dv hs h
def Tx (ts r:List Tok) (t:T):Prop:=∃ a pre,ts=a::(pre++r)/\(sy ts->a.at_<=t.n.at_/\(t.n.kind=3->t.n.at_=a.at_->a.kind=2/\∃ Vx w,a::pre=Vx++[w]/\w.s=[93]))
def Tv (ts r:List Tok) (out t:T):Prop:=(t=out/\r=ts)\/(t.n.kind=6/\∃ pre,ts=pre++r/\∃ u∈ts,t.n.at_=u.at_)
theorem S1 (e:Int):∀ f,(∀ j ts t r,(∀ k d out,j≠.loop k d out)->rd e f j ts=.ok (t,r)->Tx ts r t)/\(∀ k d out ts t r,rd e f (.loop k d out) ts=.ok (t,r)->Tv ts r out t)/\(∀ d acc ts l r,rd.args e f d acc ts=.ok (l,r)->∃ pre,ts=pre++r/\pre≠[]):=by
 intro f
 induction f with
 | zero=>exact ⟨fun j ts t r _ h=>by simp [rd] at h,fun k d out ts t r h=>by simp [rd] at h,fun d acc ts l r h=>by simp [rd.args] at h⟩
 | succ f ih =>
  obtain ⟨i1,i2,i3⟩:=ih;refine ⟨fun j ts t r hj h=>?_,fun k d out ts t r h=>?_,fun d acc ts l r h=>?_⟩
  ·rw [rd.eq_def] at h
   cases j with
   | expr d =>
    simp only at h;split at h
    ·cases h
    ·exact i1 _ _ _ _ (fun k d out h=>by cases h) h
   | level k d =>
    simp only at h;split at h
    ·exact i1 _ _ _ _ (fun k d out h=>by cases h) h
    ·split at h
     ·cases h
     ·rename_i out iI he;have h1:=i1 _ _ _ _ (fun k d out h=>by cases h) he;have h2:=i2 _ _ _ _ _ _ h
      rcases h2 with ⟨rfl,rfl⟩ | ⟨h3,Ck,rfl,u,hu,h4⟩
      ·exact h1
      ·obtain ⟨a,pre,rfl,h5⟩:=h1;refine ⟨a,pre++Ck,by simp,fun hs=>⟨?_,fun h6=>by omega⟩⟩;rw [h4];rw [sy,List.pairwise_cons] at hs;exact Int.le_of_lt (hs.1 u (List.mem_append_right _ hu))
   | loop k d out=>exact absurd rfl (hj _ _ _)
   | operand d =>
    simp only at h;split at h
    ·cases h
    ·cases ts with
     | nil=>cases h
     | cons a r' =>
      simp only at h;split at h
      ·rename_i h3;split at h
       ·split at h
        ·cases h
        ·rename_i b r2 he;cases h;obtain ⟨a2,pre,rfl,_⟩:=i1 _ _ _ _ (fun k d out h=>by cases h) he;exact ⟨a,a2::pre,by simp,fun _=>⟨by simp [one,T.n],fun h=>by simp [one,T.n] at h⟩⟩
       ·split at h
        ·split at h
         ·cases h
         ·rename_i b r2 he;split at h
          ·cases h
          ·rename_i r3 hm;cases h;obtain ⟨a2,pre,rfl,h5⟩:=i1 _ _ _ _ (fun k d out h=>by cases h) he;obtain ⟨w,rfl,_,_⟩:=wq av hm;refine ⟨a,a2::(pre++[w]),by simp,fun hs=>?_⟩;rw [sy,List.pairwise_cons] at hs;have h6:=(h5 hs.2).1;have h7:=hs.1 a2 (by simp);exact ⟨by omega,fun _ h8=>by omega⟩
        ·cases h
      ·split at h
       ·cases h;exact ⟨a,[],rfl,fun _=>⟨Int.le_refl _,fun h=>by simp [T.n] at h⟩⟩
       ·split at h
        ·cases h
        ·rename_i s r2 hn;obtain ⟨u,hu,hk,_⟩:=FL hn;cases hu;split at h
         ·rename_i hs;obtain ⟨w,hw,_,_⟩:=tz av hs;split at h
          ·cases h
          ·rename_i b r3 he;split at h
           ·cases h
           ·rename_i r4 hm;cases h;obtain ⟨a2,pre,h4,h5⟩:=i1 _ _ _ _ (fun k d out h=>by cases h) he;obtain ⟨z,rfl,_,hz⟩:=wq av hm;refine ⟨a,w::a2::(pre++[z]),by rw [hw,h4];simp,fun _=>⟨Int.le_refl _,fun _ _=>⟨hk,a::w::a2::pre,z,by simp,hz⟩⟩⟩
         ·split at h
          ·rename_i hs;obtain ⟨w,hw,_,_⟩:=tz av hs;split at h
           ·cases h
           ·rename_i l r3 he;cases h;obtain ⟨pre,h4,_⟩:=i3 _ _ _ _ _ he;exact ⟨a,w::pre,by rw [hw,h4];simp,fun _=>⟨Int.le_refl _,fun h=>by simp [one,T.n] at h⟩⟩
          ·cases h;exact ⟨a,[],rfl,fun _=>⟨Int.le_refl _,fun h=>by simp [one,T.n] at h⟩⟩
  ·cases ts with
   | nil=>rw [rd] at h;cases h;exact .inl ⟨rfl,rfl⟩
   | cons a r' =>
    rw [rd] at h;split at h
    ·split at h
     ·cases h
     ·rename_i b r2 he;obtain ⟨a2,pre,rfl,_⟩:=i1 _ _ _ _ (fun k d out h=>by cases h) he
      rcases i2 _ _ _ _ _ _ h with ⟨rfl,rfl⟩ | ⟨h3,Ck,rfl,u,hu,h4⟩
      ·exact .inr ⟨rfl,a::a2::pre,by simp,a,by simp,rfl⟩
      ·exact .inr ⟨h3,a::a2::(pre++Ck),by simp,u,by simp at hu |-;rcases hu with h | h <;> simp [h],h4⟩
    ·cases h;exact .inl ⟨rfl,rfl⟩
  ·rw [rd.args] at h;split at h
   ·rename_i hs;obtain ⟨w,hw,_,_⟩:=tz av hs;cases h;exact ⟨[w],by rw [hw];rfl,by simp⟩
   ·split at h
    ·cases h
    ·rename_i iI sX;split at h
     ·cases h
     ·rename_i a r' he;obtain ⟨a2,pre,h4,_⟩:=i1 _ _ _ _ (fun k d out h=>by cases h) he;obtain ⟨Ck,h5,_⟩:=i3 _ _ _ _ _ h;split at sX
      ·cases sX;exact ⟨a2::(pre++Ck),by rw [h4,h5];simp,by simp⟩
      ·obtain ⟨w,hw,_,_⟩:=wq av sX;exact ⟨w::a2::(pre++Ck),by rw [hw,h4,h5];simp,by simp⟩
theorem L7 {e:Int} {d:Nat} {ts r:List Tok} {t:T} (h:expr e d ts=.ok (t,r)):Tx ts r t:=(S1 e _).1 _ _ _ _ (fun k d out h=>by cases h) h
end Go.Xp
namespace Go.Im
open Go.Xp Go.Sp
def ud (p:RS):ai:=match p.l[p.i - 1]? with | some t=>t.s | none=>[]
def wB (p q:RS) (e:T):Prop:=e.n.kind=3/\q.code=0/\ud q=[93]/\e.n.at_=(tok p 0).at_/\(tok p 0).kind=2/\is q 0 [61]=true
instance (p q:RS) (e:T):Decidable (wB p q e):=by unfold wB;infer_instance
mutual
def iS:Nat->qo->RS->Option (T × RS)
 | 0,_,_=>none
 | f+1,.block d,p =>
  if (bL p d).code=0 then match iB f (d+1) [] (want p [123]) with
   | none=>none
   | some (l,q)=>some (one 14 (tok p 0).at_ [] l,want q [125])
  else some (one 14 (tok p 0).at_ [] [],bL p d)
 | f+1,.stmt d,p =>
  if (bL p d).code=0 then
   if is p 0 gw=true then match iE f (.expr (d+1)) (want (br p.next) [61]) with
    | none=>none
    | some (e,q)=>some (one 13 (tok p 0).at_ (tok p.next 0).s [e],want q [59])
   else if is p 0 dL=true\/is p 0 du=true then match iE f (.expr (d+1)) (want p.next [40]) with
    | none=>none
    | some (c,q)=>match iS f (.block (d+1)) (want q [41]) with
     | none=>none
     | some (b,q) =>
      if is p 0 dL=true/\q.code=0/\is q 0 ei=true then match iS f (.block (d+1)) q.next with
       | none=>none
       | some (b2,q)=>some (one 9 (tok p 0).at_ [] [c,b,b2],q)
      else some (one (if is p 0 dL=true then 9 else 10) (tok p 0).at_ [] [c,b],q)
   else if is p 0 db=true then match iE f (.expr (d+1)) p.next with
    | none=>none
    | some (e,q)=>some (one 11 (tok p 0).at_ [] [e],want q [59])
   else if (tok p 0).kind=2/\is p 1 [61]=true then match iE f (.expr (d+1)) (want (br p) [61]) with
    | none=>none
    | some (e,q)=>some (one 7 (tok p 0).at_ (tok p 0).s [e],want q [59])
   else match iE f (.expr (d+1)) p with
    | none=>none
    | some (e,q) =>
     if wB p q e then match e.kids,iE f (.expr (d+1)) (want q [61]) with
      | a::_,some (v,q)=>some (one 8 (tok p 0).at_ e.n.s [a,v],want q [59])
      | _,_=>none
     else some (one 12 (tok p 0).at_ [] [e],want q [59])
  else some (T.zero,bL p d)
def iB:Nat->Nat->List T->RS->Option (List T × RS)
 | 0,_,_,_=>none
 | f+1,d,acc,p=>if p.code=0/\is p 0 [125]=false then match iS f (.stmt d) p with
   | none=>none
   | some (a,q)=>iB f d (acc++[a]) q
  else some (acc,p)
end
def KI (p:RS) (f:Nat):Nat:=f+20 * p.l.length+40
section
variable {p q:RS} {ts r:List Tok}
theorem J2 {d g:Nat} (hp:On p ts) (hg:20 * p.l.length+20<=g):∃ t q,(∀ g,20 * p.l.length+20<=g->iE g (.expr d) p=some (t,q))/\((∃ r,expr p.e d ts=.ok (t,r)/\bF p q (.ok r))\/(∃ x,expr p.e d ts=.error x/\bF p q (.error x))):=by
 have hl:ts.length<=p.l.length:=by rw [<-hp.rest,length_drop];omega
 have hf:rd p.e (20 * ts.length+12) (.expr d) ts≠.error aX:=yH (j:=.expr d) trivial (Nat.le_refl _);obtain ⟨t,q,h1,h2⟩:=(ie _).expr d ts p hp hf;rw [BZ (Nat.le_refl _)] at h2;refine ⟨t,q,fun g hg=>h1 g aq,?_⟩
 cases he:expr p.e d ts with
 | error x=>rw [he] at h2;exact .inr ⟨x,rfl,h2⟩
 | ok y=>obtain ⟨t',r⟩:=y;rw [he] at h2;obtain ⟨rfl,h2⟩:=h2;exact .inl ⟨r,rfl,h2⟩
theorem J1 {d:Nat} {b:ai} (hp:On p ts) (hb:b≠[]):∃ t q,(∀ g,20 * p.l.length+20<=g->iE g (.expr d) p=some (t,q))/\((∃ r r',expr p.e d ts=.ok (t,r)/\Go.Xp.aO p.e b r=.ok r'/\bF p (want q b) (.ok r'))\/(∃ r x,expr p.e d ts=.ok (t,r)/\Go.Xp.aO p.e b r=.error x/\bF p (want q b) (.error x))\/(∃ x,expr p.e d ts=.error x/\bF p (want q b) (.error x))):=by
 obtain ⟨t,q,h1,h2⟩:=J2 (d:=d) hp (Nat.le_refl _);refine ⟨t,q,h1,?_⟩
 rcases h2 with ⟨r,h2,h3⟩ | ⟨x,h2,h3⟩
 ·rcases lN h3.1 hb with ⟨r',h4,h5⟩ | ⟨x,h4,h5⟩
  ·rw [h3.2.2] at h4;exact .inl ⟨r,r',h2,h4,h3.tr h5⟩
  ·rw [h3.2.2] at h4;exact .inr (.inl ⟨r,x,h2,h4,h3.tr h5⟩)
 ·exact .inr (.inr ⟨x,h2,by rw [fF h3.err];exact h3⟩)
theorem MZ {d:Nat} {a b:ai} (hp:On p ts) (ha:a≠[]) (hb:b≠[]):∃ t q,(∀ g,20 * p.l.length+20<=g->iE g (.expr d) (want p a)=some (t,q))/\((∃ r,inner p.e d a b ts=.ok (t,r)/\bF p (want q b) (.ok r))\/∃ x,inner p.e d a b ts=.error x/\bF p (want q b) (.error x)):=by
 unfold Go.Xp.inner
 rcases lN hp ha with ⟨r,h1,h2⟩ | ⟨x,h1,h2⟩
 ·rw [h1];obtain ⟨t,q,h3,h4⟩:=J1 (d:=d) (b:=b) h2.1 hb;rw [h2.2.2] at h4;rw [h2.2.1] at h3;refine ⟨t,q,h3,?_⟩;simp only
  rcases h4 with ⟨r,r',k1,k2,k3⟩ | ⟨r,x,k1,k2,k3⟩ | ⟨x,k1,k3⟩
  ·rw [k1];simp only;rw [k2];exact .inl ⟨r',rfl,h2.tr k3⟩
  ·rw [k1];simp only;rw [k2];exact .inr ⟨x,rfl,h2.tr (y:=.error x) k3⟩
  ·rw [k1];exact .inr ⟨x,rfl,h2.tr (y:=.error x) k3⟩
 ·rw [h1];exact ⟨T.zero,want p a,fun g hg=>Fw h2.err aq,.inr ⟨x,rfl,by rw [fF h2.err];exact h2⟩⟩
theorem M4 {d:Nat} (hp:On p ts):∃ t q,(∀ g,20 * p.l.length+20<=g->iE g (.expr d) (want (br p) [61])=some (t,q))/\((∃ r,kP p.e d ts=.ok (((tok p 0).s,t),r)/\bF p (want q [59]) (.ok r))\/∃ x,kP p.e d ts=.error x/\bF p (want q [59]) (.error x)):=by
 unfold Go.Xp.kP
 rcases tj hp with ⟨r,h1,h2⟩ | ⟨x,h1,h2⟩
 ·rw [h1];obtain ⟨t,q,h3,h4⟩:=MZ (d:=d) (a:=[61]) (b:=[59]) h2.1 av av;rw [h2.2.2] at h4;rw [h2.2.1] at h3;refine ⟨t,q,h3,?_⟩;simp only
  rcases h4 with ⟨r,k1,k3⟩ | ⟨x,k1,k3⟩
  ·rw [k1];exact .inl ⟨r,rfl,h2.tr k3⟩
  ·rw [k1];exact .inr ⟨x,rfl,h2.tr (y:=.error x) k3⟩
 ·rw [h1];refine ⟨T.zero,br p,fun g hg=>by rw [fF h2.err];exact Fw h2.err aq,.inr ⟨x,rfl,by rw [fF h2.err];exact h2⟩⟩
theorem Pp (h:p.code≠0) {g d:Nat} (hg:1<=g):iS g (.block d) p=some (one 14 (tok p 0).at_ [] [],p):=by
 obtain ⟨g,rfl⟩:∃ g',g=g'+1:=⟨g - 1,by omega⟩;rw [iS,AA h,if_neg h]
theorem On.srt (h:On p ts) (hs:sy p.l):sy ts:=by rw [<-h.rest];exact hs.drop
theorem On.last (h:On p ts) {pre r:List Tok} {w:Tok} (hq:bF p q (.ok r)) (ht:ts=(pre++[w])++r):ud q=w.s:=by
 have h1:p.l=p.l.take p.i++(pre++w::r):=by
  have:=List.take_append_drop p.i p.l;rw [h.rest,ht] at this;simp only [append_assoc,List.singleton_append,cons_append,nil_append] at this;exact this.symm
 have hr:=congrArg List.length hq.1.rest;have hl:=congrArg List.length h1;have hle:=hq.1.le;have cW:=h.le;rw [hq.2.1] at hr hle;simp only [length_drop,List.length_append,length_cons,length_take] at hr hl;unfold ud;rw [hq.2.1,h1,List.getElem?_append_right (by rw [length_take];omega),List.getElem?_append_right (by rw [length_take];omega)]
 have:q.i - 1 - (p.l.take p.i).length - pre.length=0:=by rw [length_take];omega
 rw [this];rfl
end
structure ZQ (f:Nat):Prop where
 block:∀ d ts p,On p ts->sy p.l->rs p.e f (.block d) ts≠.error aX->∃ t q,(∀ g,KI p f<=g->iS g (.block d) p=some (t,q))/\iQ p q t (rs p.e f (.block d) ts)
 stmt:∀ d ts p,On p ts->sy p.l->rs p.e f (.stmt d) ts≠.error aX->∃ t q,(∀ g,KI p f<=g->iS g (.stmt d) p=some (t,q))/\iQ p q t (rs p.e f (.stmt d) ts)
 body:∀ d acc ts p,On p ts->sy p.l->rs.body p.e f d acc ts≠.error aX->∃ t q,(∀ g,KI p f<=g->iB g d acc p=some (t,q))/\iQ p (want q [125]) t (rs.body p.e f d acc ts)
theorem oN {p:RS} {f g:Nat} (h:KI p (f+1)<=g):∃ g',g=g'+1/\KI p f<=g'/\20 * p.l.length+20<=g':=⟨g - 1,by unfold KI at h;omega,by unfold KI at *;omega,by unfold KI at h;omega⟩
theorem DV {p q:RS} (h:q.l=p.l) (f:Nat):KI q f=KI p f:=by unfold KI;rw [h]
theorem is_ (f:Nat):ZQ f:=by
 induction f with
 | zero=>exact ⟨fun d ts p _ _ h=>absurd (by simp [rs]) h,fun d ts p _ _ h=>absurd (by simp [rs]) h,fun d acc ts p _ _ h=>absurd (by simp [rs.body]) h⟩
 | succ f C =>
  refine ⟨fun d ts p hp hs h=>?_,fun d ts p hp hs h=>?_,fun d acc ts p hp hs h=>?_⟩
  ·rw [rs] at h |-;have cW:=On.p9 hp
   by_cases hd:d > 60
   ·rw [if_pos hd] at h |-;have hf:=hp.fail 9 (tok p 0).at_ av;refine ⟨one 14 (tok p 0).at_ [] [],p.fail 9 (tok p 0).at_,fun g hg=>?_,by rw [<-cW];exact hf⟩;obtain ⟨g,rfl,lk,fZ⟩:=oN hg
    have fJ:bL p d=p.fail 9 (tok p 0).at_:=by unfold bL;rw [if_pos hd]
    rw [iS,fJ,if_neg hf.err]
   ·rw [if_neg hd] at h |-
    have fJ:bL p d=p:=by unfold bL;rw [if_neg hd]
    rcases lN hp (s:=[123]) av with ⟨r,h1,h2⟩ | ⟨x,h1,h2⟩
    ·rw [h1] at h |-;simp only at h |-
     have hb:rs.body p.e f (d+1) [] r≠.error aX:=fun h0=>h (by rw [h0])
     rw [<-h2.2.2] at hb;obtain ⟨l,q,h3,h4⟩:=C.body (d+1) [] r (want p [123]) h2.1 (by rw [h2.2.1];exact hs) hb;rw [h2.2.2] at h4;rw [DV h2.2.1] at h3;refine ⟨one 14 (tok p 0).at_ [] l,want q [125],fun g hg=>?_,?_⟩
     ·obtain ⟨g,rfl,lk,fZ⟩:=oN hg;rw [iS,fJ,if_pos hp.code,h3 g aq]
     ·cases he:rs.body p.e f (d+1) [] r with
      | error x=>rw [he] at h4;exact h2.tr (y:=.error x) h4
      | ok y=>obtain ⟨l',r'⟩:=y;rw [he] at h4;obtain ⟨rfl,h4⟩:=h4;rw [cW];exact ⟨rfl,h2.tr h4⟩
    ·rw [h1] at h |-;refine ⟨one 14 (tok p 0).at_ [] [],want p [123],fun g hg=>?_,h2⟩;obtain ⟨g,rfl,lk,fZ⟩:=oN hg;rw [iS,fJ,if_pos hp.code];obtain ⟨g,rfl⟩:∃ g',g=g'+1:=⟨g - 1,by omega⟩;rw [iB,if_neg (fun h0=>h2.err h0.1)];simp only;rw [fF h2.err]
  ·rw [rs] at h |-;have cW:=On.p9 hp
   by_cases hd:d > 60
   ·rw [if_pos hd] at h |-;have hf:=hp.fail 9 (tok p 0).at_ av;refine ⟨T.zero,p.fail 9 (tok p 0).at_,fun g hg=>?_,by rw [<-cW];exact hf⟩;obtain ⟨g,rfl,lk,fZ⟩:=oN hg
    have fJ:bL p d=p.fail 9 (tok p 0).at_:=by unfold bL;rw [if_pos hd]
    rw [iS,fJ,if_neg hf.err]
   ·rw [if_neg hd] at h |-
    have fJ:bL p d=p:=by unfold bL;rw [if_neg hd]
    have hi:∀ s:ai,s≠[]->is p 0 s=decide (sign ts 0=s):=fun s hs=>On.is hp 0 hs
    have zg:is p 1 [61]=decide (sign ts 1=[61]):=On.is hp 1 av;simp only at h |-
    by_cases hv:sign ts 0=gw
    ·rw [if_pos hv]
     have sY:is p 0 gw=true:=by rw [hi _ av];simpa using hv
     obtain ⟨tv,xN,_⟩:=dv av hv;have hn:=hp;rw [xN] at hn
     have hn:=hn.next
     rw [show p.e=p.next.e from rfl];obtain ⟨t,q,h1,h2⟩:=M4 (d:=d+1) hn.1
     rcases h2 with ⟨r,h2,h3⟩ | ⟨x,h2,h3⟩
     ·rw [h2];refine ⟨one 13 (tok p 0).at_ (tok p.next 0).s [t],want q [59],fun g hg=>?_,by rw [cW];rfl,hn.tr h3⟩;obtain ⟨g,rfl,lk,fZ⟩:=oN hg;rw [iS,fJ,if_pos hp.code,if_pos sY,h1 g fZ]
     ·rw [h2];refine ⟨one 13 (tok p 0).at_ (tok p.next 0).s [t],want q [59],fun g hg=>?_,hn.tr (y:=.error x) h3⟩;obtain ⟨g,rfl,lk,fZ⟩:=oN hg;rw [iS,fJ,if_pos hp.code,if_pos sY,h1 g fZ]
    rw [if_neg hv] at h |-
    have sY:¬ is p 0 gw=true:=by rw [hi _ av];simpa using hv
    by_cases hc:sign ts 0=dL\/sign ts 0=du
    ·rw [if_pos hc] at h |-
     have n9:is p 0 dL=true\/is p 0 du=true:=by rw [hi _ av,hi _ av];simpa using hc
     obtain ⟨tv,xN⟩:∃ t,ts=t::ts.tail:=by
      rcases hc with hc | hc
      ·obtain ⟨t,h1,_⟩:=dv av hc;exact ⟨t,h1⟩
      ·obtain ⟨t,h1,_⟩:=dv av hc;exact ⟨t,h1⟩
     have hn:=hp;rw [xN] at hn
     have hn:=hn.next
     have sP:(if is p 0 dL=true then (9:Int) else 10)=if sign ts 0=dL then 9 else 10:=by rw [hi _ av];simp
     obtain ⟨c,q,h1,h2⟩:=MZ (d:=d+1) (a:=[40]) (b:=[41]) hn.1 av av
     rcases h2 with ⟨r,h2,h3⟩ | ⟨x,h2,h3⟩
     ·rw [show p.next.e=p.e from rfl] at h2;rw [h2] at h |-;simp only at h |-;have h3:=hn.tr h3
      have hb:rs p.e f (.block (d+1)) r≠.error aX:=fun h0=>h (by rw [h0])
      rw [<-h3.2.2] at hb;obtain ⟨b,q2,h4,h5⟩:=C.block (d+1) r (want q [41]) h3.1 (by rw [h3.2.1];exact hs) hb;rw [h3.2.2] at h5;rw [DV h3.2.1] at h4
      cases he:rs p.e f (.block (d+1)) r with
      | error x =>
       rw [he] at h5;refine ⟨one (if is p 0 dL=true then 9 else 10) (tok p 0).at_ [] [c,b],q2,fun g hg=>?_,h3.tr (y:=.error x) h5⟩;obtain ⟨g,rfl,lk,fZ⟩:=oN hg;rw [iS,fJ,if_pos hp.code,if_neg sY,if_pos n9,h1 g fZ];simp only;rw [h4 g lk];simp only;rw [if_neg (fun h0=>bF.err h5 h0.2.1)]
      | ok y =>
       obtain ⟨b',r2⟩:=y;rw [he] at h5 h;obtain ⟨rfl,h5⟩:=h5;simp only at h |-;have h5:=h3.tr h5;have jD:is q2 0 ei=decide (sign r2 0=ei):=On.is h5.1 0 av
       by_cases E8:sign ts 0=dL
       ·rw [if_pos E8] at h sP |-
        have Ph:is p 0 dL=true:=by rw [hi _ av];simpa using E8
        by_cases eW:sign r2 0=ei
        ·rw [if_pos eW] at h |-;obtain ⟨te,MV,_⟩:=dv av eW;have bP:=h5.1;rw [MV] at bP
         have bP:=h5.tr bP.next
         have hb:rs p.e f (.block (d+1)) r2.tail≠.error aX:=fun h0=>h (by rw [h0])
         rw [<-bP.2.2] at hb
         obtain ⟨b2,q3,h6,h7⟩:=C.block (d+1) r2.tail q2.next bP.1 (by rw [bP.2.1];exact hs) hb
         rw [bP.2.2] at h7;rw [DV bP.2.1] at h6;refine ⟨one 9 (tok p 0).at_ [] [c,b,b2],q3,fun g hg=>?_,?_⟩
         ·obtain ⟨g,rfl,lk,fZ⟩:=oN hg;rw [iS,fJ,if_pos hp.code,if_neg sY,if_pos n9,h1 g fZ];simp only;rw [h4 g lk];simp only;rw [if_pos ⟨Ph,h5.1.code,by rw [jD];simpa using eW⟩,h6 g lk]
         ·cases pg:rs p.e f (.block (d+1)) r2.tail with
          | error x=>rw [pg] at h7;exact bP.tr (y:=.error x) h7
          | ok y=>obtain ⟨b3,r3⟩:=y;rw [pg] at h7;obtain ⟨rfl,h7⟩:=h7;exact ⟨by rw [cW],bP.tr h7⟩
        ·rw [if_neg eW];refine ⟨one (if is p 0 dL=true then 9 else 10) (tok p 0).at_ [] [c,b],q2,fun g hg=>?_,by rw [sP,cW],h5⟩;obtain ⟨g,rfl,lk,fZ⟩:=oN hg;rw [iS,fJ,if_pos hp.code,if_neg sY,if_pos n9,h1 g fZ];simp only;rw [h4 g lk];simp only;rw [if_neg (fun h0=>by have:=h0.2.2;rw [jD] at this;exact eW (by simpa using this))]
       ·rw [if_neg E8] at sP |-
        have Ph:¬ is p 0 dL=true:=by rw [hi _ av];simpa using E8
        refine ⟨one (if is p 0 dL=true then 9 else 10) (tok p 0).at_ [] [c,b],q2,fun g hg=>?_,by rw [sP,cW],h5⟩;obtain ⟨g,rfl,lk,fZ⟩:=oN hg;rw [iS,fJ,if_pos hp.code,if_neg sY,if_pos n9,h1 g fZ];simp only;rw [h4 g lk];simp only;rw [if_neg (fun h0=>Ph h0.1)]
     ·rw [show p.next.e=p.e from rfl] at h2;rw [h2] at h |-;have h3:=hn.tr (y:=.error x) h3;refine ⟨one (if is p 0 dL=true then 9 else 10) (tok p 0).at_ [] [c,one 14 (tok (want q [41]) 0).at_ [] []],want q [41],fun g hg=>?_,h3⟩;obtain ⟨g,rfl,lk,fZ⟩:=oN hg;rw [iS,fJ,if_pos hp.code,if_neg sY,if_pos n9,h1 g fZ];simp only;rw [Pp h3.err aq];simp only;rw [if_neg (fun h0=>h3.err h0.2.1)]
    rw [if_neg hc] at h |-
    have n9:¬ (is p 0 dL=true\/is p 0 du=true):=by rw [hi _ av,hi _ av];simpa using hc
    by_cases hr:sign ts 0=db
    ·rw [if_pos hr]
     have tW:is p 0 db=true:=by rw [hi _ av];simpa using hr
     obtain ⟨tv,xN,_⟩:=dv av hr;have hn:=hp;rw [xN] at hn
     have hn:=hn.next
     obtain ⟨t,q,h1,h2⟩:=J1 (d:=d+1) (b:=[59]) hn.1 av;rw [show p.next.e=p.e from rfl] at h2;refine ⟨one 11 (tok p 0).at_ [] [t],want q [59],fun g hg=>?_,?_⟩
     ·obtain ⟨g,rfl,lk,fZ⟩:=oN hg;rw [iS,fJ,if_pos hp.code,if_neg sY,if_neg n9,if_pos tW,h1 g fZ]
     ·rcases h2 with ⟨r,r',h2,h3,h4⟩ | ⟨r,x,h2,h3,h4⟩ | ⟨x,h2,h4⟩
      ·rw [h2];simp only;rw [h3];exact ⟨by rw [cW],hn.tr h4⟩
      ·rw [h2];simp only;rw [h3];exact hn.tr (y:=.error x) h4
      ·rw [h2];exact hn.tr (y:=.error x) h4
    rw [if_neg hr] at h |-
    have tW:¬ is p 0 db=true:=by rw [hi _ av];simpa using hr
    cases ts with
    | nil =>
     have ht:tok p 0=⟨0,0,[],p.e⟩:=by rw [On.tok hp];rfl
     have kH:¬ ((tok p 0).kind=2/\is p 1 [61]=true):=fun hx=>by have:=hx.1;rw [ht] at this;simp at this
     obtain ⟨t,q,h1,h2⟩:=J2 (d:=d+1) hp (Nat.le_refl _)
     rcases h2 with ⟨r,h2,h3⟩ | ⟨x,h2,h3⟩
     ·exact absurd h2 (NL _ _ _ (fun k d out h=>by cases h) _ _)
     ·have kG:¬ wB p q t:=fun h0=>h3.err h0.2.1
      refine ⟨one 12 (tok p 0).at_ [] [t],want q [59],fun g hg=>?_,by unfold simple;rw [h2,fF h3.err];exact h3⟩;obtain ⟨g,rfl,lk,fZ⟩:=oN hg;rw [iS,fJ,if_pos hp.code,if_neg sY,if_neg n9,if_neg tW,if_neg kH,h1 g fZ];simp only;rw [if_neg kG]
    | cons a r0 =>
     simp only [simple] at h |-
     have ht:tok p 0=a:=by rw [On.tok hp];rfl
     by_cases b9:a.kind=2/\sign (a::r0) 1=[61]
     ·rw [if_pos b9];have kH:(tok p 0).kind=2/\is p 1 [61]=true:=⟨by rw [ht];exact b9.1,by rw [zg];simpa using b9.2⟩;obtain ⟨t,q,h1,h2⟩:=M4 (d:=d+1) hp
      rcases h2 with ⟨r,h2,h3⟩ | ⟨x,h2,h3⟩
      ·rw [h2];refine ⟨one 7 (tok p 0).at_ (tok p 0).s [t],want q [59],fun g hg=>?_,by rw [cW];rfl,h3⟩;obtain ⟨g,rfl,lk,fZ⟩:=oN hg;rw [iS,fJ,if_pos hp.code,if_neg sY,if_neg n9,if_neg tW,if_pos kH,h1 g fZ]
      ·rw [h2];refine ⟨one 7 (tok p 0).at_ (tok p 0).s [t],want q [59],fun g hg=>?_,h3⟩;obtain ⟨g,rfl,lk,fZ⟩:=oN hg;rw [iS,fJ,if_pos hp.code,if_neg sY,if_neg n9,if_neg tW,if_pos kH,h1 g fZ]
     ·rw [if_neg b9]
      have kH:¬ ((tok p 0).kind=2/\is p 1 [61]=true):=fun hx=>b9 ⟨by rw [<-ht];exact hx.1,by have:=hx.2;rw [zg] at this;simpa using this⟩
      obtain ⟨t,q,h1,h2⟩:=J2 (d:=d+1) hp (Nat.le_refl _)
      rcases h2 with ⟨r,h2,h3⟩ | ⟨x,h2,h3⟩
      ·rw [h2];simp only;have jD:is q 0 [61]=decide (sign r 0=[61]):=On.is h3.1 0 av
       by_cases hput:t.n.kind=3/\t.n.at_=a.at_/\sign r 0=[61]
       ·rw [if_pos hput];obtain ⟨a',pre,ht1,Rf⟩:=L7 h2;cases ht1;obtain ⟨rf,Vx,w,Fq,oJ⟩:=(Rf (On.srt hp hs)).2 hput.1 hput.2.1
        have Wx:ud q=[93]:=by rw [<-oJ];exact On.last hp h3 (by rw [<-Fq];rfl)
        have kG:wB p q t:=⟨hput.1,h3.1.code,Wx,by rw [ht];exact hput.2.1,by rw [ht];exact rf,by rw [jD];simpa using hput.2.2⟩;obtain ⟨ix,xF⟩:=NK _ _ _ _ _ _ (fun k d out hj=>by cases hj) h2 hput.1
        have jS:Go.Xp.aO p.e [61] r=.ok r.tail:=by unfold Go.Xp.aO;rw [if_pos hput.2.2]
        have XW:=On.want h3.1 (s:=[61]) av;rw [h3.2.2,jS] at XW;have hn:=h3.tr XW;obtain ⟨v,q2,h4,h5⟩:=J1 (d:=d+1) (b:=[59]) hn.1 av;rw [hn.2.2] at h5;rw [hn.2.1] at h4;refine ⟨one 8 (tok p 0).at_ t.n.s [ix,v],want q2 [59],fun g hg=>?_,?_⟩
        ·obtain ⟨g,rfl,lk,fZ⟩:=oN hg;rw [iS,fJ,if_pos hp.code,if_neg sY,if_neg n9,if_neg tW,if_neg kH,h1 g fZ];simp only;rw [if_pos kG,xF,h4 g fZ]
        ·unfold Go.Xp.inner;rw [jS];simp only
         rcases h5 with ⟨r2,r',h2,h3,h4⟩ | ⟨r2,x,h2,h3,h4⟩ | ⟨x,h2,h4⟩
         ·rw [h2];simp only;rw [h3];exact ⟨by rw [ht,xF];rfl,hn.tr h4⟩
         ·rw [h2];simp only;rw [h3];exact hn.tr (y:=.error x) h4
         ·rw [h2];exact hn.tr (y:=.error x) h4
       ·rw [if_neg hput]
        have kG:¬ wB p q t:=fun h0=>hput ⟨h0.1,by rw [<-ht];exact h0.2.2.2.1,by have:=h0.2.2.2.2.2;rw [jD] at this;simpa using this⟩
        refine ⟨one 12 (tok p 0).at_ [] [t],want q [59],fun g hg=>?_,?_⟩
        ·obtain ⟨g,rfl,lk,fZ⟩:=oN hg;rw [iS,fJ,if_pos hp.code,if_neg sY,if_neg n9,if_neg tW,if_neg kH,h1 g fZ];simp only;rw [if_neg kG]
        ·rcases lN h3.1 (s:=[59]) av with ⟨r',h4,h5⟩ | ⟨x,h4,h5⟩
         ·rw [h3.2.2] at h4;rw [h4];exact ⟨by rw [ht],h3.tr h5⟩
         ·rw [h3.2.2] at h4;rw [h4];exact h3.tr (y:=.error x) h5
      ·rw [h2]
       have kG:¬ wB p q t:=fun h0=>h3.err h0.2.1
       refine ⟨one 12 (tok p 0).at_ [] [t],want q [59],fun g hg=>?_,by rw [fF h3.err];exact h3⟩;obtain ⟨g,rfl,lk,fZ⟩:=oN hg;rw [iS,fJ,if_pos hp.code,if_neg sY,if_neg n9,if_neg tW,if_neg kH,h1 g fZ];simp only;rw [if_neg kG]
  ·rw [rs.body] at h |-;have hi:is p 0 [125]=decide (sign ts 0=[125]):=On.is hp 0 av
   by_cases hb:sign ts 0=[125]
   ·rw [if_pos hb];have hm:=On.want hp (s:=[125]) av;unfold Go.Xp.aO at hm;rw [if_pos hb] at hm;refine ⟨acc,p,fun g hg=>?_,rfl,hm⟩;obtain ⟨g,rfl,lk,fZ⟩:=oN hg;rw [iB,if_neg (fun h0=>by have:=h0.2;rw [hi] at this;simp [hb] at this)]
   ·rw [if_neg hb] at h |-
    have b7:rs p.e f (.stmt d) ts≠.error aX:=fun h0=>h (by rw [h0])
    obtain ⟨a,q,h1,h2⟩:=C.stmt d ts p hp hs b7;have hc:p.code=0/\is p 0 [125]=false:=⟨hp.code,by rw [hi];simpa using hb⟩
    cases he:rs p.e f (.stmt d) ts with
    | error x =>
     rw [he] at h2 h;refine ⟨acc++[a],q,fun g hg=>?_,by rw [fF (bF.err h2)];exact h2⟩;obtain ⟨g,rfl,lk,fZ⟩:=oN hg;rw [iB,if_pos hc,h1 g lk];simp only;obtain ⟨g,rfl⟩:∃ g',g=g'+1:=⟨g - 1,by omega⟩;rw [iB,if_neg (fun h0=>bF.err h2 h0.1)]
    | ok y =>
     obtain ⟨a',r⟩:=y;rw [he] at h2 h;obtain ⟨rfl,h2⟩:=h2;simp only at h |-;rw [<-h2.2.2] at h |-;obtain ⟨l,q3,h3,h4⟩:=C.body d (acc++[a]) r q h2.1 (by rw [h2.2.1];exact hs) h;rw [DV h2.2.1] at h3;refine ⟨l,q3,fun g hg=>?_,iQ.tr h2 h4⟩;obtain ⟨g,rfl,lk,fZ⟩:=oN hg;rw [iB,if_pos hc,h1 g lk];exact h3 g lk
section
variable {p q:RS}
theorem ry {k:Nat} (h:(tok p k).kind≠0):p.i+k < p.l.length:=by
 unfold tok at h
 refine Nat.lt_of_not_le fun hn=>?_
 rw [List.getElem?_eq_none_iff.2 hn] at h;exact h rfl
theorem is_lt {k:Nat} {s:ai} (h:is p k s=true):p.i+k < p.l.length:=by
 unfold is at h;rw [Bool.and_eq_true] at h;exact ry (by have:=h.1;simp at this;omega)
theorem jz {s:ai} (h:is p 0 s=true):p.to p.next:=dw (is_lt h)
theorem wF (hp:p.ok):p.to (kg p):=lK hp _ _
theorem cn (hp:p.ok) (s:ai):p.to (want p s):=by
 unfold want;split
 ·split
  ·rename_i h;exact jz h
  ·exact wF hp
 ·exact jJ hp
theorem gL (hp:p.ok):p.to (br p):=by
 unfold br;split
 ·split
  ·rename_i h;split
   ·exact lK hp _ _
   ·exact dw (ry (k:=0) aq)
  ·exact wF hp
 ·exact jJ hp
theorem um (hp:p.ok) (d:Nat):p.to (bL p d):=by
 unfold bL;split
 ·exact lK hp _ _
 ·exact jJ hp
theorem oz {d:Nat} (h:(bL p d).code=0):bL p d=p:=by
 unfold bL at h |-;split at h
 ·unfold RS.fail at h;split at h
  ·cases h
  ·rename_i hd hc;exact absurd h hc
 ·rename_i hd;rw [if_neg hd]
end
theorem iX:∀ (f:Nat),(∀ j p t q,p.ok->iE f j p=some (t,q)->p.to q)/\(∀ d acc p l q,p.ok->iA f d acc p=some (l,q)->p.to q)
 | 0=>⟨fun j p t q _ h=>by simp [iE] at h,fun d acc p l q _ h=>by simp [iA] at h⟩
 | f+1=>by
  obtain ⟨h1,h2⟩:=iX f;refine ⟨fun j p t q hp h=>?_,fun d acc p l q hp h=>?_⟩
  ·cases j with
   | expr d =>
    rw [iE] at h;have hd:=um hp d;split at h
    ·exact hd.trans (h1 _ _ _ _ (hd.ok hp) h)
    ·cases h;exact hd
   | level k d =>
    rw [iE] at h;split at h
    ·exact h1 _ _ _ _ hp h
    ·split at h
     ·cases h
     ·rename_i out p' he;have:=h1 _ _ _ _ hp he;exact this.trans (h1 _ _ _ _ (this.ok hp) h)
   | loop k d out =>
    rw [iE] at h;split at h
    ·rename_i hc;have hn:=dw (p:=p) (ry (k:=0) (by have:=hc.2.1;omega));split at h
     ·cases h
     ·rename_i b p' he;have:=hn.trans (h1 _ _ _ _ (hn.ok hp) he);exact this.trans (h1 _ _ _ _ (this.ok hp) h)
    ·cases h;exact jJ hp
   | operand d =>
    rw [iE] at h;split at h
    ·split at h
     ·rename_i hc
      have hn:p.to p.next:=by rcases hc with hc | hc | hc <;> exact jz hc
      split at h
      ·cases h
      ·rename_i a p' he
       cases h;exact hn.trans (h1 _ _ _ _ (hn.ok hp) he)
     ·split at h
      ·rename_i hk
       cases h;exact dw (ry (k:=0) aq)
      ·split at h
       ·rename_i hc;have hn:=jz hc;split at h
        ·cases h
        ·rename_i a p' he;have:=hn.trans (h1 _ _ _ _ (hn.ok hp) he)
         cases h;exact this.trans (cn (this.ok hp) _)
       ·have hn:=gL hp;split at h
        ·split at h
         ·rename_i hc;have bP:=hn.trans (jz hc);split at h
          ·cases h
          ·rename_i a p' he;have:=bP.trans (h1 _ _ _ _ (bP.ok hp) he)
           cases h;exact this.trans (cn (this.ok hp) _)
         ·split at h
          ·rename_i hc;have bP:=hn.trans (jz hc);split at h
           ·cases h
           ·rename_i a p' he
            cases h;exact bP.trans (h2 _ _ _ _ _ (bP.ok hp) he)
          ·cases h;exact hn
        ·cases h;exact hn
    ·cases h;exact um hp d
  ·rw [iA] at h;split at h
   ·have hn:p.to (if acc.length=0 then p else want p [44]):=by
     split
     ·exact jJ hp
     ·exact cn hp _
    split at h
    ·cases h
    ·rename_i a p' he;have:=hn.trans (h1 _ _ _ _ (hn.ok hp) he);exact this.trans (h2 _ _ _ _ _ (this.ok hp) h)
   ·cases h;exact cn hp _
theorem D1:∀ (f:Nat),(∀ j p t q,p.ok->iS f j p=some (t,q)->p.to q)/\(∀ d acc p l q,p.ok->iB f d acc p=some (l,q)->p.to q)
 | 0=>⟨fun j p t q _ h=>by simp [iS] at h,fun d acc p l q _ h=>by simp [iB] at h⟩
 | f+1=>by
  obtain ⟨h1,h2⟩:=D1 f;have xD:=(iX f).1;refine ⟨fun j p t q hp h=>?_,fun d acc p l q hp h=>?_⟩
  ·cases j with
   | block d =>
    rw [iS] at h;split at h
    ·have hm:=cn hp [123];split at h
     ·cases h
     ·rename_i l p' he;have:=hm.trans (h2 _ _ _ _ _ (hm.ok hp) he)
      cases h;exact this.trans (cn (this.ok hp) _)
    ·cases h;exact um hp d
   | stmt d =>
    rw [iS] at h;split at h
    ·split at h
     ·rename_i hs;have hn:=jz hs;have eN:=hn.trans (gL (hn.ok hp));have jS:=eN.trans (cn (eN.ok hp) [61]);split at h
      ·cases h
      ·rename_i e p' he;have:=jS.trans (xD _ _ _ _ (jS.ok hp) he)
       cases h;exact this.trans (cn (this.ok hp) _)
     ·split at h
      ·rename_i hs
       have hn:p.to p.next:=by rcases hs with hs | hs <;> exact jz hs
       have jS:=hn.trans (cn (hn.ok hp) [40]);split at h
       ·cases h
       ·rename_i e p' he;have:=jS.trans (xD _ _ _ _ (jS.ok hp) he);have Fb:=this.trans (cn (this.ok hp) [41]);split at h
        ·cases h
        ·rename_i b p2 hb;have eL:=Fb.trans (h1 _ _ _ _ (Fb.ok hp) hb);split at h
         ·rename_i hc;have bP:=eL.trans (jz hc.2.2);split at h
          ·cases h
          ·rename_i b2 p3 xy
           cases h;exact bP.trans (h1 _ _ _ _ (bP.ok hp) xy)
         ·cases h;exact eL
      ·split at h
       ·rename_i hs;have hn:=jz hs;split at h
        ·cases h
        ·rename_i e p' he;have:=hn.trans (xD _ _ _ _ (hn.ok hp) he)
         cases h;exact this.trans (cn (this.ok hp) _)
       ·split at h
        ·have eN:=gL hp;have jS:=eN.trans (cn (eN.ok hp) [61]);split at h
         ·cases h
         ·rename_i e p' he;have:=jS.trans (xD _ _ _ _ (jS.ok hp) he)
          cases h;exact this.trans (cn (this.ok hp) _)
        ·split at h
         ·cases h
         ·rename_i e p' he;have hx:=xD _ _ _ _ hp he;split at h
          ·have hn:=hx.trans (cn (hx.ok hp) [61]);split at h
           ·rename_i a r v p2 hk pg;have:=hn.trans (xD _ _ _ _ (hn.ok hp) pg)
            cases h;exact this.trans (cn (this.ok hp) _)
           ·cases h
          ·cases h;exact hx.trans (cn (hx.ok hp) _)
    ·cases h;exact um hp d
  ·rw [iB] at h;split at h
   ·split at h
    ·cases h
    ·rename_i a p' he;have:=h1 _ _ _ _ hp he;exact this.trans (h2 _ _ _ _ _ (this.ok hp) h)
   ·cases h;exact jJ hp
theorem vk (p:RS):p.next.i=p.i+1:=rfl
theorem U7:∀ (f:Nat) j p t q,p.ok->iE f j p=some (t,q)->q.code=0->(∀ k d out,j≠.loop k d out)->p.i < q.i:=by
 intro f
 induction f with
 | zero=>intro j p t q _ h;simp [iE] at h
 | succ f ih =>
  intro j p t q hp h hq hj
  cases j with
  | loop k d out=>exact absurd rfl (hj k d out)
  | expr d =>
   rw [iE] at h;split at h
   ·rename_i hc;rw [oz hc] at h;exact ih _ _ _ _ hp h hq (fun k d out h=>by cases h)
   ·rename_i hc;cases h;exact absurd hq hc
  | level k d =>
   rw [iE] at h;split at h
   ·exact ih _ _ _ _ hp h hq (fun k d out h=>by cases h)
   ·split at h
    ·cases h
    ·rename_i out p' he;have iT:=(iX f).1 _ _ _ _ hp he
     have ao:p'.code=0:=by
      by_cases hc:p'.code=0
      ·exact hc
      ·cases f with
       | zero=>simp [iE] at h
       | succ f =>
        rw [iE,if_neg (fun h0=>hc h0.1)] at h
        cases h;exact hq
     have h1:=ih _ _ _ _ hp he ao (fun k d out h=>by cases h);have h2:=(iX f).1 _ _ _ _ (iT.ok hp) h;have:=h2.2.2.2;omega
  | operand d =>
   rw [iE] at h;split at h
   ·split at h
    ·rename_i hc
     have hn:p.to p.next:=by rcases hc with hc | hc | hc <;> exact jz hc
     split at h
     ·cases h
     ·rename_i a p' he;cases h;have:=((iX f).1 _ _ _ _ (hn.ok hp) he).2.2.2;rw [vk] at this;omega
    ·split at h
     ·cases h;rw [vk];omega
     ·split at h
      ·rename_i hc;have hn:=jz hc;split at h
       ·cases h
       ·rename_i a p' he;cases h;have h1:=(iX f).1 _ _ _ _ (hn.ok hp) he;have h2:=(cn ((h1.ok (hn.ok hp))) [41]).2.2.2;have:=h1.2.2.2;rw [vk] at this;omega
      ·have hn:=gL hp;split at h
       ·rename_i gT
        have ao:p.i < (br p).i:=by
         unfold br at gT |-;split at gT
         ·rename_i h0;split at gT
          ·rename_i h2;split at gT
           ·unfold RS.fail at gT;rw [if_pos h0] at gT;cases gT
           ·rename_i hl;rw [if_pos h0,if_pos h2,if_neg hl,vk];omega
          ·unfold kg RS.fail at gT;rw [if_pos h0] at gT;cases gT
         ·rename_i h0;exact absurd gT h0
        split at h
        ·rename_i hc;have bP:=hn.trans (jz hc);split at h
         ·cases h
         ·rename_i a p' he;cases h;have h1:=(iX f).1 _ _ _ _ (bP.ok hp) he;have h2:=(cn ((h1.ok (bP.ok hp))) [93]).2.2.2;have:=h1.2.2.2;rw [vk] at this;omega
        ·split at h
         ·rename_i hc;have bP:=hn.trans (jz hc);split at h
          ·cases h
          ·rename_i a p' he;cases h;have:=((iX f).2 _ _ _ _ _ (bP.ok hp) he).2.2.2;rw [vk] at this;omega
         ·cases h;exact ao
       ·rename_i gT;cases h;exact absurd hq gT
   ·rename_i hc;cases h;exact absurd hq hc
end Go.Im
namespace Go.Xp
mutual
def aR:T->Nat
 | .mk _ l=>aB l+1
def aB:List T->Nat
 | []=>0
 | t::r=>aR t+aB r
end
def bY:Nat->List T->List Int
 | _,[]=>[]
 | n,t::r=>(n:Int)::bY (n+aR t) r
mutual
def lP:Nat->T->List Nd
 | n,.mk nd l=>⟨nd.kind,nd.at_,nd.n,nd.s,bY (n+1) l⟩::eg (n+1) l
def eg:Nat->List T->List Nd
 | _,[]=>[]
 | n,t::r=>lP n t++eg (n+aR t) r
end
theorem ej (t:T):aR t=aB t.kids+1:=by cases t;rw [aR];rfl
theorem Mc (n:Nat) (t:T):lP n t=⟨t.n.kind,t.n.at_,t.n.n,t.n.s,bY (n+1) t.kids⟩::eg (n+1) t.kids:=by cases t;rw [lP];rfl
theorem mO (a b:List T):aB (a++b)=aB a+aB b:=by
 induction a with
 | nil=>simp [aB]
 | cons t a ih=>simp only [cons_append,aB,ih];omega
theorem J5 (a b:List T) (n:Nat):bY n (a++b)=bY n a++bY (n+aB a) b:=by
 induction a generalizing n with
 | nil=>simp [bY,aB]
 | cons t a ih=>simp only [cons_append,bY,aB,ih,Nat.add_assoc]
theorem HY (a b:List T) (n:Nat):eg n (a++b)=eg n a++eg (n+aB a) b:=by
 induction a generalizing n with
 | nil=>simp [eg,aB]
 | cons t a ih=>simp only [cons_append,eg,aB,ih,Nat.add_assoc,append_assoc]
theorem dY (a:List T) (n:Nat):(bY n a).length=a.length:=by
 induction a generalizing n with
 | nil=>rfl
 | cons t a ih=>simp [bY,ih]
theorem Md:∀ (N:Nat),(∀ t:T,aR t<=N->∀ n,(lP n t).length=aR t)/\(∀ l:List T,aB l<=N->∀ n,(eg n l).length=aB l):=by
 intro N
 induction N with
 | zero =>
  refine ⟨fun t h=>by rw [ej] at h;omega,fun l h n=>?_⟩
  cases l with
  | nil=>rfl
  | cons t l=>rw [aB,ej] at h;omega
 | succ N ih =>
  have h1:∀ t:T,aR t<=N+1->∀ n,(lP n t).length=aR t:=fun t h n=>by
   rw [ej] at h;rw [Mc,ej,length_cons,ih.2 _ aq]
  refine ⟨h1,fun l=>?_⟩
  induction l with
  | nil=>intro _ n;rfl
  | cons t l ih2 =>
   intro h n;rw [aB] at h;rw [eg,List.length_append,h1 t aq,ih2 aq,aB]
theorem HZ (t:T) (n:Nat):(lP n t).length=aR t:=(Md (aR t)).1 t (Nat.le_refl _) n
theorem yu (l:List T) (n:Nat):(eg n l).length=aB l:=(Md (aB l)).2 l (Nat.le_refl _) n
theorem uF (l:List T) (k:Nat):aB (l.take k)<=aB l:=by
 have:aB l=aB (l.take k)+aB (l.drop k):=by rw [<-mO,List.take_append_drop]
 omega
theorem uG {l:List T} {k:Nat} {t:T} (h:l[k]?=some t):aB (l.take (k+1))=aB (l.take k)+aR t:=by
 have:l.take (k+1)=l.take k++[t]:=by rw [List.take_add_one,h];rfl
 rw [this,mO,aB,aB];rfl
theorem bR (l:List T):l.length<=aB l:=by
 induction l with
 | nil=>simp
 | cons t l ih=>rw [aB,ej,length_cons];omega
open Go.Sp (bs eA)
abbrev K:=Int × Int × ai
def kf (t:Tok):K:=(t.kind,t.n,t.s)
abbrev kS (s:ai):K:=(3,0,s)
abbrev kN (s:ai):K:=(2,0,s)
abbrev kI (n:Int):K:=(1,n,[])
inductive E where
 | num (n:Int)
 | name (s:ai)
 | at_ (s:ai) (a:E)
 | call (s:ai) (l:List E)
 | un (s:ai) (a:E)
 | bin (s:ai) (a b:E)
def dM (s:ai):Nat:=(levels.findIdx? fun l=>l.contains s).getD 9
def E.lv:E->Nat
 | .bin s _ _=>dM s
 | _=>9
def brk (lv k:Nat) (x:List K):List K:=if lv < k then kS [40]::(x++[kS [41]]) else x
mutual
def E.tk:E->List K
 | .num n=>[kI n]
 | .name s=>[kN s]
 | .at_ s a=>kN s::kS [91]::(a.tk++[kS [93]])
 | .call s l=>kN s::kS [40]::(E.mF l++[kS [41]])
 | .un s a=>kS s::brk a.lv 9 a.tk
 | .bin s a b=>brk a.lv (dM s) a.tk++kS s::brk b.lv (dM s+1) b.tk
def E.mF:List E->List K
 | []=>[]
 | a::l=>a.tk++E.p7 l
def E.p7:List E->List K
 | []=>[]
 | a::l=>kS [44]::(a.tk++E.p7 l)
end
mutual
def E.tree:E->T
 | .num n=>.mk ⟨1,0,n,[],[]⟩ []
 | .name s=>.mk ⟨2,0,0,s,[]⟩ []
 | .at_ s a=>.mk ⟨3,0,0,s,[]⟩ [a.tree]
 | .call s l=>.mk ⟨4,0,0,s,[]⟩ (E.trees l)
 | .un s a=>.mk ⟨5,0,0,s,[]⟩ [a.tree]
 | .bin s a b=>.mk ⟨6,0,0,s,[]⟩ [a.tree,b.tree]
def E.trees:List E->List T
 | []=>[]
 | a::l=>a.tree::E.trees l
end
def HG (lv k d:Nat) (f:Nat->Bool):Bool:=if lv < k then decide (d<=60)&&decide (d+1<=60)&&f (d+2) else f d
mutual
def E.fit:E->Nat->Bool
 | .num _,d=>decide (d<=60)
 | .name _,d=>decide (d<=60)
 | .at_ _ a,d=>decide (d<=60)&&decide (d+1<=60)&&a.fit (d+2)
 | .call _ l,d=>decide (d<=60)&&E.fits l (d+1)
 | .un _ a,d=>decide (d<=60)&&(if a.lv < 9 then decide (d+1<=60)&&decide (d+2<=60)&&a.fit (d+3) else a.fit (d+1))
 | .bin s a b,d=>(if a.lv < dM s then decide (d<=60)&&decide (d+1<=60)&&a.fit (d+2) else a.fit d)&&(if b.lv < dM s+1 then decide (d<=60)&&decide (d+1<=60)&&b.fit (d+2) else b.fit d)
def E.fits:List E->Nat->Bool
 | [],_=>true
 | a::l,d=>decide (d<=60)&&a.fit (d+1)&&E.fits l d
end
mutual
def E.ok:E->Bool
 | .num n=>decide (0<=n)&&decide (n<=2147483647)
 | .name s=>bs s
 | .at_ s a=>bs s&&a.ok
 | .call s l=>bs s&&E.cM l
 | .un s a=>(s==[45] || s==[33] || s==[126])&&a.ok
 | .bin s a b=>eA s&&a.ok&&b.ok
def E.cM:List E->Bool
 | []=>true
 | a::l=>a.ok&&E.cM l
end
mutual
def er:T->T
 | .mk n l=>.mk ⟨n.kind,0,n.n,n.s,[]⟩ (aP l)
def aP:List T->List T
 | []=>[]
 | t::l=>er t::aP l
end
theorem HR (l k:List T):aP (l++k)=aP l++aP k:=by
 induction l with
 | nil=>rfl
 | cons t l ih=>simp [aP,ih]
theorem sd (l:List T):aP l=l.map er:=by
 induction l with
 | nil=>rfl
 | cons t l ih=>simp [aP,ih]
theorem dF (k a:Int) (s:ai) (l:List T):er (one k a s l)=.mk ⟨k,0,0,s,[]⟩ (aP l):=by unfold one;rw [er]
def Ev (e:Int) (j:ow) (ts:List Tok) (x:Rd T):Prop:=∃ f0,∀ f,f0<=f->rd e f j ts=x
def Ea (e:Int) (d:Nat) (acc:List T) (ts:List Tok) (x:Rd (List T)):Prop:=∃ f0,∀ f,f0<=f->rd.args e f d acc ts=x
section
variable {e:Int} {d k:Nat} {ts r:List Tok} {t out:T} {x:Rd T} {y:Er}
theorem y9 {j j':ow} {ts iI:List Tok} {x x':Rd T} (h:Ev e j ts x) (hs:∀ f,rd e f j ts=x->rd e (f+1) j' iI=x'):Ev e j' iI x':=by
 obtain ⟨f0,h0⟩:=h;refine ⟨f0+1,fun f hf=>?_⟩;obtain ⟨f,rfl⟩:∃ g,f=g+1:=⟨f - 1,by omega⟩;exact hs f (h0 f aq)
theorem Xr {j j' j2:ow} {ts iI vE:List Tok} {x x' x2:Rd T} (h:Ev e j ts x) (h2:Ev e j2 vE x2) (hs:∀ f,rd e f j ts=x->rd e f j2 vE=x2->rd e (f+1) j' iI=x'):Ev e j' iI x':=by
 obtain ⟨f0,h0⟩:=h;obtain ⟨f1,h1⟩:=h2;refine ⟨f0+f1+1,fun f hf=>?_⟩;obtain ⟨f,rfl⟩:∃ g,f=g+1:=⟨f - 1,by omega⟩;exact hs f (h0 f aq) (h1 f aq)
theorem L6 {j':ow} {iI:List Tok} {x':Rd T} (hs:∀ f,rd e (f+1) j' iI=x'):Ev e j' iI x' :=
 ⟨1,fun f hf=>by obtain ⟨f,rfl⟩:∃ g,f=g+1:=⟨f - 1,by omega⟩;exact hs f⟩
theorem Ev.expr (hd:d<=60) (h:Ev e (.level 0 (d+1)) ts x):Ev e (.expr d) ts x:=y9 h fun f h=>by rw [rd,if_neg aq];exact h
theorem Ev.Wj (hd:60 < d):Ev e (.expr d) ts (.error (9,place e ts)):=L6 fun f=>by rw [rd,if_pos hd]
theorem Ev.level (hk:k≠9) (h:Ev e (.level (k+1) d) ts (.ok (out,r))) (h2:Ev e (.loop k d out) r x):Ev e (.level k d) ts x:=Xr h h2 fun f h h2=>by rw [rd,if_neg hk,h];exact h2
theorem Ev.Vg (hk:k≠9) (h:Ev e (.level (k+1) d) ts (.error y)):Ev e (.level k d) ts (.error y):=y9 h fun f h=>by rw [rd,if_neg hk,h]
theorem Ev.FD (h:Ev e (.operand d) ts x):Ev e (.level 9 d) ts x:=y9 h fun f h=>by rw [rd,if_pos rfl];exact h
theorem Ev.stop (h:sign ts 0 ∉ levels.getD k []):Ev e (.loop k d out) ts (.ok (out,ts)):=L6 fun f=>by
 cases ts with
 | nil=>rw [rd]
 | cons t r =>
  rw [rd,if_neg];rintro ⟨h3,h4⟩;apply h;simp only [sign,getElem?_cons_zero,bo,h3,if_true];exact h4
theorem Ev.go {t:Tok} {b:T} {r':List Tok} (h3:t.kind=3) (hs:t.s∈levels.getD k []) (h:Ev e (.level (k+1) d) r (.ok (b,r'))) (h2:Ev e (.loop k d (one 6 t.at_ t.s [out,b])) r' x):Ev e (.loop k d out) (t::r) x :=
 Xr h h2 fun f h h2=>by rw [rd,if_pos ⟨h3,hs⟩,h];exact h2
theorem Ev.goX {t:Tok} (h3:t.kind=3) (hs:t.s∈levels.getD k []) (h:Ev e (.level (k+1) d) r (.error y)):Ev e (.loop k d out) (t::r) (.error y) :=
 y9 h fun f h=>by rw [rd,if_pos ⟨h3,hs⟩,h]
theorem Ev.QL (hd:60 < d):Ev e (.operand d) ts (.error (9,place e ts)):=L6 fun f=>by rw [rd.eq_def];simp only;rw [if_pos hd]
theorem Ev.num {t:Tok} (hd:d<=60) (h:t.kind=1):Ev e (.operand d) (t::r) (.ok (.mk ⟨1,t.at_,t.n,[],[]⟩ [],r)):=L6 fun f=>by
 rw [rd.eq_def];simp only;rw [if_neg aq,if_neg aq,if_pos h]
theorem Ev.un {t:Tok} {a:T} {r':List Tok} (hd:d<=60) (h3:t.kind=3) (hs:t.s=[45]\/t.s=[33]\/t.s=[126]) (h:Ev e (.operand (d+1)) r (.ok (a,r'))):Ev e (.operand d) (t::r) (.ok (one 5 t.at_ t.s [a],r')) :=
 y9 h fun f h=>by rw [rd.eq_def];simp only;rw [if_neg aq,if_pos h3,if_pos hs,h]
theorem Ev.unX {t:Tok} (hd:d<=60) (h3:t.kind=3) (hs:t.s=[45]\/t.s=[33]\/t.s=[126]) (h:Ev e (.operand (d+1)) r (.error y)):Ev e (.operand d) (t::r) (.error y) :=
 y9 h fun f h=>by rw [rd.eq_def];simp only;rw [if_neg aq,if_pos h3,if_pos hs,h]
theorem Ev.par {t u:Tok} {a:T} {r':List Tok} (hd:d<=60) (h3:t.kind=3) (hs:t.s=[40]) (hu:u.kind=3) (fx:u.s=[41]) (h:Ev e (.expr (d+1)) r (.ok (a,u::r'))):Ev e (.operand d) (t::r) (.ok (a,r')) :=
 y9 h fun f h=>by
  rw [rd.eq_def];simp only;rw [if_neg aq,if_pos h3,if_neg (by rw [hs];decide),if_pos hs,h];simp only [aO,sign,getElem?_cons_zero,bo,hu,if_true,fx,tail_cons]
theorem Ev.ZH {t:Tok} (hd:d<=60) (h3:t.kind=3) (hs:t.s=[40]) (h:Ev e (.expr (d+1)) r (.error y)):Ev e (.operand d) (t::r) (.error y) :=
 y9 h fun f h=>by rw [rd.eq_def];simp only;rw [if_neg aq,if_pos h3,if_neg (by rw [hs];decide),if_pos hs,h]
theorem si {t:Tok} (h2:t.kind=2) (hl:t.s.length<=12):name e (t::r)=.ok (t.s,r):=by
 simp only [name,h2,if_true];rw [if_neg aq]
theorem Ev.name {t:Tok} (hd:d<=60) (h2:t.kind=2) (hl:t.s.length<=12) (n1:sign r 0≠[91]) (n2:sign r 0≠[40]):Ev e (.operand d) (t::r) (.ok (one 2 t.at_ t.s [],r)):=L6 fun f=>by
 rw [rd.eq_def];simp only;rw [if_neg aq,if_neg aq,if_neg aq,si h2 hl];simp only;rw [if_neg n1,if_neg n2]
theorem Ev.ix {t u w:Tok} {a:T} {r':List Tok} (hd:d<=60) (h2:t.kind=2) (hl:t.s.length<=12) (hu:u.kind=3) (fx:u.s=[91]) (hw:w.kind=3) (Dg:w.s=[93]) (h:Ev e (.expr (d+1)) r (.ok (a,w::r'))):Ev e (.operand d) (t::u::r) (.ok (one 3 t.at_ t.s [a],r')) :=
 y9 h fun f h=>by
  rw [rd.eq_def];simp only;rw [if_neg aq,if_neg aq,if_neg aq,si h2 hl];simp only;rw [if_pos (by simp only [sign,getElem?_cons_zero,bo,hu,if_true,fx]),tail_cons,h];simp only [aO,sign,getElem?_cons_zero,bo,hw,if_true,Dg,tail_cons]
theorem Ev.X4 {t u:Tok} (hd:d<=60) (h2:t.kind=2) (hl:t.s.length<=12) (hu:u.kind=3) (fx:u.s=[91]) (h:Ev e (.expr (d+1)) r (.error y)):Ev e (.operand d) (t::u::r) (.error y) :=
 y9 h fun f h=>by
  rw [rd.eq_def];simp only;rw [if_neg aq,if_neg aq,if_neg aq,si h2 hl];simp only;rw [if_pos (by simp only [sign,getElem?_cons_zero,bo,hu,if_true,fx]),tail_cons,h]
theorem Ev.call {t u:Tok} {l:List T} {r':List Tok} (hd:d<=60) (h2:t.kind=2) (hl:t.s.length<=12) (hu:u.kind=3) (fx:u.s=[40]) (h:Ea e (d+1) [] r (.ok (l,r'))):Ev e (.operand d) (t::u::r) (.ok (one 4 t.at_ t.s l,r')):=by
 obtain ⟨f0,h0⟩:=h;refine ⟨f0+1,fun f hf=>?_⟩;obtain ⟨f,rfl⟩:∃ g,f=g+1:=⟨f - 1,by omega⟩
 have hs:sign (u::r) 0=[40]:=by simp only [sign,getElem?_cons_zero,bo,hu,if_true,fx]
 rw [rd.eq_def];simp only;rw [if_neg aq,if_neg aq,if_neg aq,si h2 hl];simp only;rw [if_neg (by rw [hs];decide),if_pos hs,tail_cons,h0 f aq]
theorem Ev.Wd {t u:Tok} (hd:d<=60) (h2:t.kind=2) (hl:t.s.length<=12) (hu:u.kind=3) (fx:u.s=[40]) (h:Ea e (d+1) [] r (.error y)):Ev e (.operand d) (t::u::r) (.error y):=by
 obtain ⟨f0,h0⟩:=h;refine ⟨f0+1,fun f hf=>?_⟩;obtain ⟨f,rfl⟩:∃ g,f=g+1:=⟨f - 1,by omega⟩
 have hs:sign (u::r) 0=[40]:=by simp only [sign,getElem?_cons_zero,bo,hu,if_true,fx]
 rw [rd.eq_def];simp only;rw [if_neg aq,if_neg aq,if_neg aq,si h2 hl];simp only;rw [if_neg (by rw [hs];decide),if_pos hs,tail_cons,h0 f aq]
theorem Ea.nil {u:Tok} {acc:List T} (hu:u.kind=3) (fx:u.s=[41]):Ea e d acc (u::r) (.ok (acc,r)):=⟨1,fun f hf=>by
 obtain ⟨f,rfl⟩:∃ g,f=g+1:=⟨f - 1,by omega⟩
 have hs:sign (u::r) 0=[41]:=by simp only [sign,getElem?_cons_zero,bo,hu,if_true,fx]
 rw [rd.args,if_pos hs];rfl⟩
theorem Ea.first {a:T} {r':List Tok} {x:Rd (List T)} (hs:sign r 0≠[41]) (h:Ev e (.expr d) r (.ok (a,r'))) (h2:Ea e d [a] r' x):Ea e d [] r x:=by
 obtain ⟨f0,h0⟩:=h;obtain ⟨f1,h1⟩:=h2;refine ⟨f0+f1+1,fun f hf=>?_⟩;obtain ⟨f,rfl⟩:∃ g,f=g+1:=⟨f - 1,by omega⟩;rw [rd.args,if_neg hs,if_pos rfl];simp only;rw [h0 f aq];exact h1 f aq
theorem Ea.TP {a:T} (hs:sign r 0≠[41]) (h:Ev e (.expr d) r (.error y)):Ea e d [] r (.error y):=by
 obtain ⟨f0,h0⟩:=h;refine ⟨f0+1,fun f hf=>?_⟩;obtain ⟨f,rfl⟩:∃ g,f=g+1:=⟨f - 1,by omega⟩;rw [rd.args,if_neg hs,if_pos rfl];simp only;rw [h0 f aq]
theorem Ea.more {u:Tok} {acc:List T} {a:T} {r':List Tok} {x:Rd (List T)} (ha:acc≠[]) (hu:u.kind=3) (fx:u.s=[44]) (h:Ev e (.expr d) r (.ok (a,r'))) (h2:Ea e d (acc++[a]) r' x):Ea e d acc (u::r) x:=by
 obtain ⟨f0,h0⟩:=h;obtain ⟨f1,h1⟩:=h2;refine ⟨f0+f1+1,fun f hf=>?_⟩;obtain ⟨f,rfl⟩:∃ g,f=g+1:=⟨f - 1,by omega⟩
 have hs:sign (u::r) 0=[44]:=by simp only [sign,getElem?_cons_zero,bo,hu,if_true,fx]
 rw [rd.args,if_neg (by rw [hs];decide),if_neg ha,aO,if_pos hs];simp only [tail_cons];rw [h0 f aq];exact h1 f aq
theorem Ea.WU {u:Tok} {acc:List T} (ha:acc≠[]) (hu:u.kind=3) (fx:u.s=[44]) (h:Ev e (.expr d) r (.error y)):Ea e d acc (u::r) (.error y):=by
 obtain ⟨f0,h0⟩:=h;refine ⟨f0+1,fun f hf=>?_⟩;obtain ⟨f,rfl⟩:∃ g,f=g+1:=⟨f - 1,by omega⟩
 have hs:sign (u::r) 0=[44]:=by simp only [sign,getElem?_cons_zero,bo,hu,if_true,fx]
 rw [rd.args,if_neg (by rw [hs];decide),if_neg ha,aO,if_pos hs];simp only [tail_cons];rw [h0 f aq]
structure Stop (r:List Tok) (k:Nat):Prop where
 a:sign r 0≠[91]
 b:sign r 0≠[40]
 c:∀ j,k < j->sign r 0 ∉ levels.getD j []
theorem Stop.mono {k':Nat} (h:Stop r k) (hk:k<=k'):Stop r k':=⟨h.a,h.b,fun j hj=>h.c j aq⟩
theorem Ev.lift {m:Nat} (h:Ev e (.level m d) ts (.ok (t,r))) (hm:m<=9) (hs:Stop r k):∀ n,m=k+1+n->Ev e (.loop k d t) r x->Ev e (.level k d) ts x:=by
 intro n
 induction n generalizing m with
 | zero=>intro he h2;exact Ev.level aq (by rw [<-he];exact h) h2
 | succ n ih =>
  intro he h2;exact ih (m:=k+1+n) (Ev.level aq (by rw [show k+1+n+1=m by omega];exact h) (Ev.stop (hs.c _ aq))) aq rfl h2
theorem Ev.Rs {m:Nat} (h:Ev e (.level m d) ts (.error y)) (hm:m<=9):∀ n,m=k+n->Ev e (.level k d) ts (.error y):=by
 intro n
 induction n generalizing m with
 | zero=>intro he;subst he;exact h
 | succ n ih=>intro he;exact ih (m:=k+n) (Ev.Vg aq (by rw [show k+n+1=m by omega];exact h)) aq rfl
def Rt (e:Int) (k d:Nat) (ts rest:List Tok) (Q:T->Prop) (b:Bool):Prop :=
 (b=true->∃ t,Q t/\(k < 9->∀ x,Ev e (.loop k d t) rest x->Ev e (.level k d) ts x)/\(k=9->Ev e (.level 9 d) ts (.ok (t,rest))))/\(b=false->∃ pos,Ev e (.level k d) ts (.error (9,pos)))
def Ro (e:Int) (d:Nat) (ts rest:List Tok) (Q:T->Prop) (b:Bool):Prop :=
 (b=true->∃ t,Q t/\Ev e (.operand d) ts (.ok (t,rest)))/\(b=false->∃ pos,Ev e (.operand d) ts (.error (9,pos)))
def Rx (e:Int) (d:Nat) (ts rest:List Tok) (Q:T->Prop) (b:Bool):Prop :=
 (b=true->∃ t,Q t/\Ev e (.expr d) ts (.ok (t,rest)))/\(b=false->∃ pos,Ev e (.expr d) ts (.error (9,pos)))
theorem Ro.rt {rest:List Tok} {Q:T->Prop} {b:Bool} (h:Ro e d ts rest Q b) (hk:k<=9) (hs:Stop rest k):Rt e k d ts rest Q b:=by
 refine ⟨fun hb=>?_,fun hb=>?_⟩
 ·obtain ⟨t,h1,h2⟩:=h.1 hb;exact ⟨t,h1,fun AZ x h3=>Ev.lift (Ev.FD h2) (Nat.le_refl _) hs (8 - k) aq h3,fun _=>Ev.FD h2⟩
 ·obtain ⟨pos,h1⟩:=h.2 hb;exact ⟨pos,Ev.Rs (Ev.FD h1) (Nat.le_refl _) (9 - k) aq⟩
theorem Rt.down {rest:List Tok} {Q:T->Prop} {b:Bool} {m:Nat} (h:Rt e m d ts rest Q b) (hm:m < 9) (hk:k<=m) (hs:Stop rest k):Rt e k d ts rest Q b:=by
 rcases Nat.lt_or_ge k m with ao | ly
 ·refine ⟨fun hb=>?_,fun hb=>?_⟩
  ·obtain ⟨t,h1,h2,_⟩:=h.1 hb;have h3:=h2 hm _ (Ev.stop (hs.c m ao));exact ⟨t,h1,fun AZ x h4=>Ev.lift h3 aq hs (m - 1 - k) aq h4,fun h9=>by omega⟩
  ·obtain ⟨pos,h1⟩:=h.2 hb;exact ⟨pos,Ev.Rs h1 aq (m - k) aq⟩
 ·obtain rfl:k=m:=by omega
  exact h
theorem Rt.rx {rest:List Tok} {Q:T->Prop} {b:Bool} (h:Rt e 0 (d+1) ts rest Q b) (hs:sign rest 0 ∉ levels.getD 0 []):Rx e d ts rest Q (decide (d<=60)&&b):=by
 by_cases hd:d<=60
 ·have:(decide (d<=60)&&b)=b:=by simp [hd]
  rw [this];refine ⟨fun hb=>?_,fun hb=>?_⟩
  ·obtain ⟨t,h1,h2,_⟩:=h.1 hb;exact ⟨t,h1,Ev.expr hd (h2 aq _ (Ev.stop hs))⟩
  ·obtain ⟨pos,h1⟩:=h.2 hb;exact ⟨pos,Ev.expr hd h1⟩
 ·have:(decide (d<=60)&&b)=false:=by simp [hd]
  rw [this];exact ⟨fun hb=>(by cases hb),fun _=>⟨_,Ev.Wj aq⟩⟩
end
theorem Ev.Rw {e:Int} {d:Nat} {ts:List Tok} {x:Rd T} (h:Ev e (.level 9 d) ts x):Ev e (.operand d) ts x:=by
 obtain ⟨f0,h0⟩:=h;refine ⟨f0,fun f hf=>?_⟩;have:=h0 (f+1) aq;rw [rd,if_pos rfl] at this;exact this
theorem Ro.Rw {e:Int} {d:Nat} {ts rest:List Tok} {Q:T->Prop} {b:Bool} (h:Rt e 9 d ts rest Q b):Ro e d ts rest Q b :=
 ⟨fun hb=>by obtain ⟨t,h1,_,h2⟩:=h.1 hb;exact ⟨t,h1,(h2 rfl).Rw⟩,fun hb=>by obtain ⟨pos,h1⟩:=h.2 hb;exact ⟨pos,h1.Rw⟩⟩
theorem sq {t:Tok} {r:List Tok} {s:ai} (h:kf t=kS s):sign (t::r) 0=s:=by
 simp only [kf,kS,Prod.mk.injEq] at h;simp only [sign,getElem?_cons_zero,bo,h.1,if_true,h.2.2]
theorem Cv {t:Tok} {r:List Tok} (h:t.kind≠3):sign (t::r) 0=[]:=by
 simp only [sign,getElem?_cons_zero,bo,if_neg h]
theorem IB {j:Nat} (h:9<=j):levels.getD j []=[]:=by
 rw [List.getD_eq_getElem?_getD,List.getElem?_eq_none (by simpa [levels] using h)];rfl
theorem DJ {r:List Tok} {s:ai} (h:sign r 0=s) (hs:s=[]\/s=[41]\/s=[93]\/s=[44]\/s=[59]\/s=[61]):Stop r 0:=by
 have h9:∀ j,j < 9->∀ s:ai,(s=[]\/s=[41]\/s=[93]\/s=[44]\/s=[59]\/s=[61])->s ∉ levels.getD j []:=by
  intro j hj s hs
  have:∀ j,j < 9->∀ s∈([[],[41],[93],[44],[59],[61]]:List ai),s ∉ levels.getD j []:=by decide
  exact this j hj s (by simpa using hs)
 refine ⟨?_,?_,fun j _=>?_⟩
 ·rw [h];rcases hs with rfl | rfl | rfl | rfl | rfl | rfl <;> decide
 ·rw [h];rcases hs with rfl | rfl | rfl | rfl | rfl | rfl <;> decide
 ·rw [h]
  rcases Nat.lt_or_ge j 9 with h0 | h0
  ·exact h9 j h0 s hs
  ·rw [IB h0];simp
theorem Bx {r:List Tok} {s:ai} (h:sign r 0=s) (hs:s=[]\/s=[41]\/s=[93]\/s=[44]\/s=[59]\/s=[61]):sign r 0 ∉ levels.getD 0 []:=by
 rw [h];rcases hs with rfl | rfl | rfl | rfl | rfl | rfl <;> decide
theorem pk {s:ai} (h:eA s=true):dM s < 9/\s∈levels.getD (dM s) []/\s≠[91]/\s≠[40]/\∀ j,dM s < j->s ∉ levels.getD j []:=by
 have hm:s∈levels.flatten:=by
  unfold eA at h;rw [List.any_eq_true] at h;obtain ⟨l,hl,hc⟩:=h;exact List.mem_flatten.2 ⟨l,hl,by simpa using hc⟩
 have key:∀ s∈levels.flatten,dM s < 9/\s∈levels.getD (dM s) []/\s≠[91]/\s≠[40]/\∀ j,j < 9->dM s < j->s ∉ levels.getD j []:=by decide
 obtain ⟨h1,h2,h3,h4,h5⟩:=key s hm;refine ⟨h1,h2,h3,h4,fun j hj=>?_⟩
 rcases Nat.lt_or_ge j 9 with h0 | h0
 ·exact h5 j h0 hj
 ·rw [IB h0];simp
theorem E.aad {a:E} (h:a.ok=true):a.lv<=9:=by
 cases a with
 | bin s a b=>simp only [E.ok,Bool.and_eq_true] at h;exact Nat.le_of_lt (pk h.1.1).1
 | _=>exact Nat.le_refl _
def kc (a:E):Prop:=∀ (e:Int) (k d:Nat) (ts rest:List Tok),k<=a.lv->a.ok=true->ts.map kf=a.tk->Stop rest k->Rt e k d (ts++rest) rest (fun t=>er t=a.tree) (a.fit d)
def V4 (a:E):Prop:=∀ (e:Int) (k d:Nat) (ts rest:List Tok),k<=9->a.ok=true->ts.map kf=brk a.lv k a.tk->Stop rest k->Rt e k d (ts++rest) rest (fun t=>er t=a.tree) (HG a.lv k d a.fit)
theorem map_cons {ts:List Tok} {k:K} {l:List K} (h:ts.map kf=k::l):∃ t r,ts=t::r/\kf t=k/\r.map kf=l:=List.map_eq_cons_iff.1 h
theorem da {ts:List Tok} {l l':List K} (h:ts.map kf=l++l'):∃ a b,ts=a++b/\a.map kf=l/\b.map kf=l':=List.map_eq_append_iff.1 h
theorem gP {ts:List Tok} {k:K} (h:ts.map kf=[k]):∃ t,ts=[t]/\kf t=k:=by
 obtain ⟨t,r,rfl,h1,h2⟩:=map_cons h
 have:r=[]:=by simpa using h2
 subst this;exact ⟨t,rfl,h1⟩
theorem dV {t:Tok} {s:ai} (h:kf t=kS s):t.kind=3/\t.s=s:=by simp only [kf,kS,Prod.mk.injEq] at h;exact ⟨h.1,h.2.2⟩
theorem pP {t:Tok} {s:ai} (h:kf t=kN s):t.kind=2/\t.s=s:=by simp only [kf,kN,Prod.mk.injEq] at h;exact ⟨h.1,h.2.2⟩
theorem Px {t:Tok} {n:Int} (h:kf t=kI n):t.kind=1/\t.n=n:=by simp only [kf,kI,Prod.mk.injEq] at h;exact ⟨h.1,h.2.1⟩
theorem kc.rx {a:E} (h:kc a) {e:Int} {d:Nat} {ts rest:List Tok} {s:ai} (ho:a.ok=true) (ht:ts.map kf=a.tk) (hs:sign rest 0=s) (oc:s=[]\/s=[41]\/s=[93]\/s=[44]\/s=[59]\/s=[61]) :
  Rx e d (ts++rest) rest (fun t=>er t=a.tree) (decide (d<=60)&&a.fit (d+1)):=(h e 0 (d+1) ts rest (Nat.zero_le _) ho ht (DJ hs oc)).rx (Bx hs oc)
theorem kc.good {a:E} (h:kc a):V4 a:=by
 intro e k d ts rest hk ho ht hs;unfold brk at ht;unfold HG
 by_cases hl:a.lv < k
 ·rw [if_pos hl] at ht |-;obtain ⟨t,r,rfl,h1,h2⟩:=map_cons ht;obtain ⟨A,B,rfl,h3,h4⟩:=da h2;obtain ⟨u,rfl,h5⟩:=gP h4;obtain ⟨h1,cI⟩:=dV h1;obtain ⟨h5,QT⟩:=dV h5;have hx:=h.rx (e:=e) (d:=d+1) (rest:=u::rest) (s:=[41]) ho h3 (by simp only [sign,getElem?_cons_zero,bo,h5,if_true,QT]) (by simp);refine Ro.rt ?_ hk hs
  have he:t::(A++[u])++rest=t::(A++u::rest):=by simp
  rw [he]
  by_cases hd:d<=60
  ·have:(decide (d<=60)&&decide (d+1<=60)&&a.fit (d+2))=(decide (d+1<=60)&&a.fit (d+1+1)):=by simp [hd]
   rw [this];refine ⟨fun hb=>?_,fun hb=>?_⟩
   ·obtain ⟨t',k1,k2⟩:=hx.1 hb;exact ⟨t',k1,Ev.par hd h1 cI h5 QT k2⟩
   ·obtain ⟨pos,k1⟩:=hx.2 hb;exact ⟨pos,Ev.ZH hd h1 cI k1⟩
  ·have:(decide (d<=60)&&decide (d+1<=60)&&a.fit (d+2))=false:=by simp [hd]
   rw [this];exact ⟨fun hb=>(by cases hb),fun _=>⟨_,Ev.QL aq⟩⟩
 ·rw [if_neg hl] at ht |-;exact h e k d ts rest aq ho ht hs
theorem sn {e:Int} {d:Nat} {ts rest:List Tok} {Q:T->Prop} {b:Bool} (h:d<=60->Ro e d ts rest Q b):Ro e d ts rest Q (decide (d<=60)&&b):=by
 by_cases hd:d<=60
 ·have:(decide (d<=60)&&b)=b:=by simp [hd]
  rw [this];exact h hd
 ·have:(decide (d<=60)&&b)=false:=by simp [hd]
  rw [this];exact ⟨fun hb=>(by cases hb),fun _=>⟨_,Ev.QL aq⟩⟩
theorem l7 {s:ai} (h:bs s=true):s.length<=12:=by
 simp only [Go.Sp.bs,Bool.and_eq_true,decide_eq_true_eq] at h;exact h.1.2
theorem OU (n:Int):kc (.num n):=by
 intro e k d ts rest hk ho ht hs;obtain ⟨t,rfl,h1⟩:=gP ht;obtain ⟨h1,h2⟩:=Px h1;refine Ro.rt ?_ hk hs
 have:=sn (e:=e) (d:=d) (ts:=[t]++rest) (rest:=rest) (Q:=fun t=>er t=(E.num n).tree) (b:=true) fun hd=>⟨fun _=>⟨_,?_,Ev.num hd h1⟩,fun h=>by cases h⟩
 ·simpa [E.fit] using this
 ·show er _=_;rw [er,E.tree,h2];rfl
theorem LV (s:ai):kc (.name s):=by
 intro e k d ts rest hk ho ht hs;obtain ⟨t,rfl,h1⟩:=gP ht;obtain ⟨h1,h2⟩:=pP h1;simp only [E.ok] at ho;refine Ro.rt ?_ hk hs
 have:=sn (e:=e) (d:=d) (ts:=[t]++rest) (rest:=rest) (Q:=fun t=>er t=(E.name s).tree) (b:=true) fun hd=>⟨fun _=>⟨_,?_,Ev.name hd h1 (by rw [h2];exact l7 ho) hs.a hs.b⟩,fun h=>by cases h⟩
 ·simpa [E.fit] using this
 ·show er _=_;rw [dF,E.tree,h2];rfl
theorem R8 (s:ai) {a:E} (C:kc a):kc (.at_ s a):=by
 intro e k d ts rest hk ho ht hs;simp only [E.ok,Bool.and_eq_true] at ho;rw [E.tk] at ht;obtain ⟨t,r,rfl,h1,h2⟩:=map_cons ht;obtain ⟨u,r,rfl,h3,h4⟩:=map_cons h2;obtain ⟨A,B,rfl,h5,h6⟩:=da h4;obtain ⟨w,rfl,h7⟩:=gP h6;obtain ⟨h1,cI⟩:=pP h1;obtain ⟨h3,kh⟩:=dV h3;obtain ⟨h7,kC⟩:=dV h7
 have hl:t.s.length<=12:=by rw [cI];exact l7 ho.1
 have hx:=C.rx (e:=e) (d:=d+1) (rest:=w::rest) (s:=[93]) ho.2 h5 (by simp only [sign,getElem?_cons_zero,bo,h7,if_true,kC]) (by simp);refine Ro.rt ?_ hk hs
 have he:t::u::(A++[w])++rest=t::u::(A++w::rest):=by simp
 rw [he,E.fit,Bool.and_assoc]
 refine sn fun hd=>⟨fun hb=>?_,fun hb=>?_⟩
 ·obtain ⟨t',k1,k2⟩:=hx.1 hb;exact ⟨_,by show er _=_;rw [dF,aP,k1,cI,E.tree];rfl,Ev.ix hd h1 hl h3 kh h7 kC k2⟩
 ·obtain ⟨pos,k1⟩:=hx.2 hb;exact ⟨pos,Ev.X4 hd h1 hl h3 kh k1⟩
theorem Sa (s:ai) {a:E} (C:kc a):kc (.un s a):=by
 intro e k d ts rest hk ho ht hs;simp only [E.ok,Bool.and_eq_true,Bool.or_eq_true,beq_iff_eq] at ho;rw [E.tk] at ht;obtain ⟨t,r,rfl,h1,h2⟩:=map_cons ht;obtain ⟨h1,cI⟩:=dV h1;have AZ:k<=9:=hk;have hg:=Ro.Rw (C.good e 9 (d+1) r rest (Nat.le_refl _) ho.2 h2 (hs.mono AZ));refine Ro.rt ?_ hk hs
 have sX:t.s=[45]\/t.s=[33]\/t.s=[126]:=by rw [cI];rcases ho.1 with (h | h) | h <;> simp [h]
 rw [E.fit]
 refine sn fun hd=>⟨fun hb=>?_,fun hb=>?_⟩
 ·obtain ⟨t',k1,k2⟩:=hg.1 hb;exact ⟨_,by show er _=_;rw [dF,aP,k1,cI,E.tree];rfl,Ev.un hd h1 sX k2⟩
 ·obtain ⟨pos,k1⟩:=hg.2 hb;exact ⟨pos,Ev.unX hd h1 sX k1⟩
theorem OR (s:ai) {a b:E} (Ca:kc a) (Cb:kc b):kc (.bin s a b):=by
 intro e k d ts rest hk ho ht hs;simp only [E.ok,Bool.and_eq_true] at ho;obtain ⟨l1,l2,l3,l4,l5⟩:=pk ho.1.1;rw [E.tk] at ht;obtain ⟨A,B,rfl,h1,h2⟩:=da ht;obtain ⟨t,r,rfl,h3,h4⟩:=map_cons h2;obtain ⟨h3,kh⟩:=dV h3;have lz:k<=dM s:=hk;have iU:=hs.mono lz;refine Rt.down (m:=dM s) ?_ l1 lz hs
 have dK:sign (t::(r++rest)) 0=s:=by simp only [sign,getElem?_cons_zero,bo,h3,if_true,kh]
 have ga:=Ca.good e (dM s) d A (t::(r++rest)) aq ho.1.2 h1 ⟨by rw [dK];exact l3,by rw [dK];exact l4,fun j hj=>by rw [dK];exact l5 j hj⟩;have gb:=Cb.good e (dM s+1) d r rest aq ho.2 h4 (iU.mono aq)
 have he:A++t::r++rest=A++t::(r++rest):=by simp
 rw [he,E.fit]
 change Rt e (dM s) d _ rest _ (HG a.lv (dM s) d a.fit&&HG b.lv (dM s+1) d b.fit)
 have sX:t.s∈levels.getD (dM s) []:=by rw [kh];exact l2
 cases hfa:HG a.lv (dM s) d a.fit with
 | false =>
  refine ⟨fun hb=>(by cases hb),fun _=>ga.2 hfa⟩
 | true =>
  obtain ⟨ta,k1,k2,_⟩:=ga.1 hfa
  cases hfb:HG b.lv (dM s+1) d b.fit with
  | false =>
   refine ⟨fun hb=>(by cases hb),fun _=>?_⟩;obtain ⟨pos,k3⟩:=gb.2 hfb;exact ⟨pos,k2 l1 _ (Ev.goX h3 sX k3)⟩
  | true =>
   refine ⟨fun _=>?_,fun hb=>(by cases hb)⟩;obtain ⟨tb,k3,k4,k5⟩:=gb.1 hfb
   have k6:Ev e (.level (dM s+1) d) (r++rest) (.ok (tb,rest)):=by
    rcases Nat.lt_or_ge (dM s+1) 9 with h9 | h9
    ·exact k4 h9 _ (Ev.stop (iU.c _ aq))
    ·have:dM s+1=9:=by omega
     rw [this] at k5 |-;exact k5 rfl
   exact ⟨one 6 t.at_ t.s [ta,tb],by show er _=_;rw [dF,aP,aP,aP,k1,k3,kh,E.tree],fun _ x hx=>k2 l1 x (Ev.go h3 sX k6 hx),fun h9=>by omega⟩
def QO (k:K):Prop:=k.1=1\/k.1=2\/(k.1=3/\(k.2.2=[45]\/k.2.2=[33]\/k.2.2=[126]\/k.2.2=[40]))
theorem E.head:∀ (a:E),a.ok=true->∃ k r,a.tk=k::r/\QO k
 | .num n,_=>⟨_,_,rfl,.inl rfl⟩
 | .name s,_=>⟨_,_,rfl,.inr (.inl rfl)⟩
 | .at_ s a,_=>⟨_,_,rfl,.inr (.inl rfl)⟩
 | .call s l,_=>⟨_,_,rfl,.inr (.inl rfl)⟩
 | .un s a,h=>⟨_,_,rfl,.inr (.inr ⟨rfl,by simp only [E.ok,Bool.and_eq_true,Bool.or_eq_true,beq_iff_eq] at h;rcases h.1 with (h | h) | h <;> simp [h]⟩)⟩
 | .bin s a b,h=>by
  simp only [E.ok,Bool.and_eq_true] at h;obtain ⟨k,r,h1,h2⟩:=E.head a h.1.2;rw [E.tk,brk];split
  ·exact ⟨_,_,rfl,.inr (.inr ⟨rfl,by simp⟩)⟩
  ·rw [h1];exact ⟨k,_,rfl,h2⟩
theorem zK {t:Tok} {r:List Tok} (h:QO (kf t)):sign (t::r) 0=[]\/sign (t::r) 0=[45]\/sign (t::r) 0=[33]\/sign (t::r) 0=[126]\/sign (t::r) 0=[40]:=by
 rcases h with h | h | ⟨h,h'⟩
 ·left;exact Cv (by simp only [kf] at h;omega)
 ·left;exact Cv (by simp only [kf] at h;omega)
 ·right
  have:sign (t::r) 0=t.s:=by simp only [kf] at h;simp only [sign,getElem?_cons_zero,bo,h,if_true]
  rw [this];exact h'
def yh (l:List E):Prop:=∀ (e:Int) (d:Nat) (acc:List T) (ts rest:List Tok) (u:Tok),E.cM l=true->acc≠[]->ts.map kf=E.p7 l->u.kind=3->u.s=[41] ->
 (E.fits l d=true->∃ ys,aP ys=E.trees l/\Ea e d acc (ts++u::rest) (.ok (acc++ys,rest)))/\(E.fits l d=false->∃ pos,Ea e d acc (ts++u::rest) (.error (9,pos)))
theorem LR:yh []:=by
 intro e d acc ts rest u _ ha ht hu fx
 have:ts=[]:=by simpa [E.p7] using ht
 subst this;exact ⟨fun _=>⟨[],rfl,by rw [List.append_nil];exact Ea.nil hu fx⟩,fun h=>by simp [E.fits] at h⟩
theorem DK {l:List E} {ts rest:List Tok} {u:Tok} (ht:ts.map kf=E.p7 l) (hu:u.kind=3) (fx:u.s=[41]):∃ s,sign (ts++u::rest) 0=s/\(s=[]\/s=[41]\/s=[93]\/s=[44]\/s=[59]\/s=[61]):=by
 cases l with
 | nil =>
  have:ts=[]:=by simpa [E.p7] using ht
  subst this;exact ⟨[41],by simp only [nil_append,sign,getElem?_cons_zero,bo,hu,if_true,fx],by simp⟩
 | cons a l =>
  rw [E.p7] at ht;obtain ⟨t,r,rfl,h1,_⟩:=map_cons ht;exact ⟨[44],sq h1,by simp⟩
theorem JA {a:E} {l:List E} (Ca:kc a) (Cl:yh l):yh (a::l):=by
 intro e d acc ts rest u ho ha ht hu fx;simp only [E.cM,Bool.and_eq_true] at ho;rw [E.p7] at ht;obtain ⟨t,r,rfl,h1,h2⟩:=map_cons ht;obtain ⟨A,B,rfl,h3,h4⟩:=da h2;obtain ⟨h1,cI⟩:=dV h1;obtain ⟨s,gz,jD⟩:=DK (rest:=rest) h4 hu fx;have hx:=Ca.rx (e:=e) (d:=d) (rest:=B++u::rest) (s:=s) ho.1 h3 gz jD
 have he:t::(A++B)++u::rest=t::(A++(B++u::rest)):=by simp
 rw [he,E.fits]
 cases hfa:decide (d<=60)&&a.fit (d+1) with
 | false =>
  refine ⟨fun hb=>(by simp at hb),fun _=>?_⟩;obtain ⟨pos,k1⟩:=hx.2 hfa;exact ⟨pos,Ea.WU ha h1 cI k1⟩
 | true =>
  obtain ⟨ta,k1,k2⟩:=hx.1 hfa;have hl:=Cl e d (acc++[ta]) B rest u ho.2 (by simp) h4 hu fx;refine ⟨fun hb=>?_,fun hb=>?_⟩
  ·obtain ⟨ys,k3,k4⟩:=hl.1 (by simpa using hb);exact ⟨ta::ys,by rw [aP,k1,k3,E.trees],Ea.more ha h1 cI k2 (by rw [append_assoc] at k4;exact k4)⟩
  ·obtain ⟨pos,k3⟩:=hl.2 (by simpa using hb);exact ⟨pos,Ea.more ha h1 cI k2 k3⟩
theorem LU (s:ai) {l:List E} (Cf:∀ a r,l=a::r->kc a/\yh r):kc (.call s l):=by
 intro e k d ts rest hk ho ht hs;simp only [E.ok,Bool.and_eq_true] at ho;rw [E.tk] at ht;obtain ⟨t,r,rfl,h1,h2⟩:=map_cons ht;obtain ⟨u,r,rfl,h3,h4⟩:=map_cons h2;obtain ⟨A,B,rfl,h5,h6⟩:=da h4;obtain ⟨w,rfl,h7⟩:=gP h6;obtain ⟨h1,cI⟩:=pP h1;obtain ⟨h3,kh⟩:=dV h3;obtain ⟨h7,kC⟩:=dV h7
 have hl:t.s.length<=12:=by rw [cI];exact l7 ho.1
 refine Ro.rt ?_ hk hs
 have he:t::u::(A++[w])++rest=t::u::(A++w::rest):=by simp
 rw [he,E.fit]
 refine sn fun hd=>?_
 have key:(E.fits l (d+1)=true->∃ ys,aP ys=E.trees l/\Ea e (d+1) [] (A++w::rest) (.ok (ys,rest)))/\(E.fits l (d+1)=false->∃ pos,Ea e (d+1) [] (A++w::rest) (.error (9,pos))):=by
  cases l with
  | nil =>
   have:A=[]:=by simpa [E.mF] using h5
   subst this;exact ⟨fun _=>⟨[],rfl,Ea.nil h7 kC⟩,fun h=>by simp [E.fits] at h⟩
  | cons a l =>
   obtain ⟨Ca,Cl⟩:=Cf a l rfl;have zj:=ho.2;simp only [E.cM,Bool.and_eq_true] at zj;rw [E.mF] at h5;obtain ⟨A,B,rfl,h3,h4⟩:=da h5;obtain ⟨s,gz,jD⟩:=DK (rest:=rest) h4 h7 kC;have hx:=Ca.rx (e:=e) (d:=d+1) (rest:=B++w::rest) (s:=s) zj.1 h3 gz jD;rw [append_assoc]
   have bJ:sign (A++(B++w::rest)) 0≠[41]:=by
    obtain ⟨kk,rr,k1,k2⟩:=E.head a zj.1;rw [k1] at h3;obtain ⟨t0,r0,rfl,k3,_⟩:=map_cons h3
    rcases zK (r:=r0++(B++w::rest)) (by rw [k3];exact k2) with h | h | h | h | h <;> (rw [cons_append,h];decide)
   rw [E.fits]
   cases hfa:decide (d+1<=60)&&a.fit (d+1+1) with
   | false =>
    refine ⟨fun hb=>(by simp at hb),fun _=>?_⟩;obtain ⟨pos,k1⟩:=hx.2 hfa;exact ⟨pos,Ea.TP (a:=T.mk ⟨0,0,0,[],[]⟩ []) bJ k1⟩
   | true =>
    obtain ⟨ta,k1,k2⟩:=hx.1 hfa;have pL:=Cl e (d+1) [ta] B rest w zj.2 (by simp) h4 h7 kC;refine ⟨fun hb=>?_,fun hb=>?_⟩
    ·obtain ⟨ys,k3,k4⟩:=pL.1 (by simpa using hb);exact ⟨ta::ys,by rw [aP,k1,k3,E.trees],Ea.first bJ k2 k4⟩
    ·obtain ⟨pos,k3⟩:=pL.2 (by simpa using hb);exact ⟨pos,Ea.first bJ k2 k3⟩
 refine ⟨fun hb=>?_,fun hb=>?_⟩
 ·obtain ⟨ys,k1,k2⟩:=key.1 hb;exact ⟨_,by show er _=_;rw [dF,k1,cI,E.tree],Ev.call hd h1 hl h3 kh k2⟩
 ·obtain ⟨pos,k1⟩:=key.2 hb;exact ⟨pos,Ev.Wd hd h1 hl h3 kh k1⟩
mutual
theorem core:∀ (a:E),kc a
 | .num n=>OU n
 | .name s=>LV s
 | .at_ s a=>R8 s (core a)
 | .call s l=>LU s (We l)
 | .un s a=>Sa s (core a)
 | .bin s a b=>OR s (core a) (core b)
theorem We:∀ (l:List E),∀ a r,l=a::r->kc a/\yh r
 | []=>fun a r h=>by cases h
 | a::r=>fun a' r' h=>by cases h;exact ⟨core a,LS r⟩
theorem LS:∀ (l:List E),yh l
 | []=>LR
 | a::l=>JA (core a) (LS l)
end
inductive S where
 | set (s:ai) (a:E)
 | put (s:ai) (a b:E)
 | if1 (c:E) (b:List S)
 | if2 (c:E) (b b2:List S)
 | while_ (c:E) (b:List S)
 | ret (a:E)
 | do_ (a:E)
 | var (s:ai) (a:E)
mutual
def S.tk:S->List K
 | .set s a=>kN s::kS [61]::(a.tk++[kS [59]])
 | .put s a b=>kN s::kS [91]::(a.tk++kS [93]::kS [61]::(b.tk++[kS [59]]))
 | .if1 c b=>kS dL::kS [40]::(c.tk++kS [41]::kS [123]::(S.mF b++[kS [125]]))
 | .if2 c b b2=>kS dL::kS [40]::(c.tk++kS [41]::kS [123]::(S.mF b++kS [125]::kS ei::kS [123]::(S.mF b2++[kS [125]])))
 | .while_ c b=>kS du::kS [40]::(c.tk++kS [41]::kS [123]::(S.mF b++[kS [125]]))
 | .ret a=>kS db::(a.tk++[kS [59]])
 | .do_ a=>a.tk++[kS [59]]
 | .var s a=>kS gw::kN s::kS [61]::(a.tk++[kS [59]])
def S.mF:List S->List K
 | []=>[]
 | a::l=>a.tk++S.mF l
end
mutual
def S.tree:S->T
 | .set s a=>.mk ⟨7,0,0,s,[]⟩ [a.tree]
 | .put s a b=>.mk ⟨8,0,0,s,[]⟩ [a.tree,b.tree]
 | .if1 c b=>.mk ⟨9,0,0,[],[]⟩ [c.tree,.mk ⟨14,0,0,[],[]⟩ (S.trees b)]
 | .if2 c b b2=>.mk ⟨9,0,0,[],[]⟩ [c.tree,.mk ⟨14,0,0,[],[]⟩ (S.trees b),.mk ⟨14,0,0,[],[]⟩ (S.trees b2)]
 | .while_ c b=>.mk ⟨10,0,0,[],[]⟩ [c.tree,.mk ⟨14,0,0,[],[]⟩ (S.trees b)]
 | .ret a=>.mk ⟨11,0,0,[],[]⟩ [a.tree]
 | .do_ a=>.mk ⟨12,0,0,[],[]⟩ [a.tree]
 | .var s a=>.mk ⟨13,0,0,s,[]⟩ [a.tree]
def S.trees:List S->List T
 | []=>[]
 | a::l=>a.tree::S.trees l
end
def pG (a:E) (d:Nat):Bool:=decide (d<=60)&&a.fit (d+1)
mutual
def S.fit:S->Nat->Bool
 | .set _ a,d=>decide (d<=60)&&pG a (d+1)
 | .put s a b,d=>decide (d<=60)&&(pG (.at_ s a) (d+1)&&pG b (d+1))
 | .if1 c b,d=>decide (d<=60)&&(pG c (d+1)&&(decide (d+1<=60)&&S.fits b (d+2)))
 | .if2 c b b2,d=>decide (d<=60)&&(pG c (d+1)&&((decide (d+1<=60)&&S.fits b (d+2))&&(decide (d+1<=60)&&S.fits b2 (d+2))))
 | .while_ c b,d=>decide (d<=60)&&(pG c (d+1)&&(decide (d+1<=60)&&S.fits b (d+2)))
 | .ret a,d=>decide (d<=60)&&pG a (d+1)
 | .do_ a,d=>decide (d<=60)&&pG a (d+1)
 | .var _ a,d=>decide (d<=60)&&pG a (d+1)
def S.fits:List S->Nat->Bool
 | [],_=>true
 | a::l,d=>a.fit d&&S.fits l d
end
mutual
def S.ok:S->Bool
 | .set s a=>bs s&&a.ok
 | .put s a b=>bs s&&(a.ok&&b.ok)
 | .if1 c b=>c.ok&&S.cM b
 | .if2 c b b2=>c.ok&&(S.cM b&&S.cM b2)
 | .while_ c b=>c.ok&&S.cM b
 | .ret a=>a.ok
 | .do_ a=>a.ok
 | .var s a=>bs s&&a.ok
def S.cM:List S->Bool
 | []=>true
 | a::l=>a.ok&&S.cM l
end
def Es (e:Int) (j:qo) (ts:List Tok) (x:Rd T):Prop:=∃ f0,∀ f,f0<=f->rs e f j ts=x
def Eb (e:Int) (d:Nat) (acc:List T) (ts:List Tok) (x:Rd (List T)):Prop:=∃ f0,∀ f,f0<=f->rs.body e f d acc ts=x
theorem Ev.ex {e:Int} {d:Nat} {ts:List Tok} {x:Rd T} (h:Ev e (.expr d) ts x):Go.Xp.expr e d ts=x:=by
 obtain ⟨f0,h0⟩:=h;rw [<-BZ (e:=e) (d:=d) (ts:=ts) (f:=f0+(20 * ts.length+12)) aq];exact h0 _ aq
def Xx (e:Int) (d:Nat) (ts rest:List Tok) (Q:T->Prop) (b:Bool):Prop :=
 (b=true->∃ t,Q t/\expr e d ts=.ok (t,rest))/\(b=false->∃ pos,expr e d ts=.error (9,pos))
theorem Rx.xx {e:Int} {d:Nat} {ts rest:List Tok} {Q:T->Prop} {b:Bool} (h:Rx e d ts rest Q b):Xx e d ts rest Q b :=
 ⟨fun hb=>by obtain ⟨t,h1,h2⟩:=h.1 hb;exact ⟨t,h1,h2.ex⟩,fun hb=>by obtain ⟨pos,h1⟩:=h.2 hb;exact ⟨pos,h1.ex⟩⟩
theorem E.xx {a:E} {e:Int} {d:Nat} {ts rest:List Tok} {s:ai} (ho:a.ok=true) (ht:ts.map kf=a.tk) (hs:sign rest 0=s) (oc:s=[]\/s=[41]\/s=[93]\/s=[44]\/s=[59]\/s=[61]) :
  Xx e d (ts++rest) rest (fun t=>er t=a.tree) (pG a d):=((core a).rx ho ht hs oc).xx
def Sx (e:Int) (j:qo) (ts rest:List Tok) (Q:T->Prop) (b:Bool):Prop :=
 (b=true->∃ t,Q t/\Es e j ts (.ok (t,rest)))/\(b=false->∃ pos,Es e j ts (.error (9,pos)))
section
variable {e:Int} {d:Nat} {ts rest:List Tok} {Q:T->Prop} {b:Bool}
theorem rL {j:qo} {x:Rd T} (hs:∀ f,rs e (f+1) j ts=x):Es e j ts x :=
 ⟨1,fun f hf=>by obtain ⟨f,rfl⟩:∃ g,f=g+1:=⟨f - 1,by omega⟩;exact hs f⟩
theorem pz (h:d<=60->Sx e (.stmt d) ts rest Q b):Sx e (.stmt d) ts rest Q (decide (d<=60)&&b):=by
 by_cases hd:d<=60
 ·have:(decide (d<=60)&&b)=b:=by simp [hd]
  rw [this];exact h hd
 ·have:(decide (d<=60)&&b)=false:=by simp [hd]
  rw [this];exact ⟨fun hb=>(by cases hb),fun _=>⟨_,rL fun f=>by rw [rs,if_pos aq]⟩⟩
theorem qz {u:Tok} {s:ai} (hu:u.kind=3) (fx:u.s=s):aO e s (u::rest)=.ok rest:=by
 have hs:sign (u::rest) 0=s:=by simp only [sign,getElem?_cons_zero,bo,hu,if_true,fx]
 unfold aO;rw [if_pos hs];rfl
theorem tw {u:Tok} {s:ai} (hu:u.kind=3) (fx:u.s=s):sign (u::rest) 0=s:=by simp only [sign,getElem?_cons_zero,bo,hu,if_true,fx]
theorem vd {a:E} {u w:Tok} {A:List Tok} {sa sb:ai} (ho:a.ok=true) (ht:A.map kf=a.tk) (hu:u.kind=3) (fx:u.s=sa) (hw:w.kind=3) (Dg:w.s=sb) (UR:sb=[]\/sb=[41]\/sb=[93]\/sb=[44]\/sb=[59]\/sb=[61]) :
  (pG a d=true->∃ t,er t=a.tree/\inner e d sa sb (u::(A++w::rest))=.ok (t,rest))/\(pG a d=false->∃ pos,inner e d sa sb (u::(A++w::rest))=.error (9,pos)):=by
 have hx:=E.xx (e:=e) (d:=d) (rest:=w::rest) ho ht (tw hw Dg) UR;unfold inner;rw [qz hu fx];refine ⟨fun hb=>?_,fun hb=>?_⟩
 ·obtain ⟨t,h1,h2⟩:=hx.1 hb;exact ⟨t,h1,by simp only;rw [h2];simp only;rw [qz hw Dg]⟩
 ·obtain ⟨pos,h1⟩:=hx.2 hb;exact ⟨pos,by simp only;rw [h1]⟩
theorem I1 {a:E} {v u w:Tok} {A:List Tok} (ho:a.ok=true) (hv:v.kind=2) (hvl:v.s.length<=12) (ht:A.map kf=a.tk) (hu:u.kind=3) (fx:u.s=[61]) (hw:w.kind=3) (Dg:w.s=[59]) :
  (pG a d=true->∃ t,er t=a.tree/\kP e d (v::u::(A++w::rest))=.ok ((v.s,t),rest))/\(pG a d=false->∃ pos,kP e d (v::u::(A++w::rest))=.error (9,pos)):=by
 have hi:=vd (e:=e) (d:=d) (rest:=rest) ho ht hu fx hw Dg (by simp);unfold kP;rw [si hv hvl];refine ⟨fun hb=>?_,fun hb=>?_⟩
 ·obtain ⟨t,h1,h2⟩:=hi.1 hb;exact ⟨t,h1,by simp only;rw [h2]⟩
 ·obtain ⟨pos,h1⟩:=hi.2 hb;exact ⟨pos,by simp only;rw [h1]⟩
theorem iy {t:Tok} {s:ai} (h:t.kind=2) (hs:s≠[]):sign (t::rest) 0≠s:=by rw [Cv aq];exact fun h=>hs h.symm
def qO (s:S):Prop:=∀ (e:Int) (d:Nat) (ts rest:List Tok),s.ok=true->ts.map kf=s.tk->sign rest 0≠ei->Sx e (.stmt d) (ts++rest) rest (fun t=>er t=s.tree) (s.fit d)
theorem OX (s:ai) (a:E):qO (.set s a):=by
 intro e d ts rest ho ht _;simp only [S.ok,Bool.and_eq_true] at ho;rw [S.tk] at ht;obtain ⟨t,r,rfl,h1,h2⟩:=map_cons ht;obtain ⟨u,r,rfl,h3,h4⟩:=map_cons h2;obtain ⟨A,B,rfl,h5,h6⟩:=da h4;obtain ⟨w,rfl,h7⟩:=gP h6;obtain ⟨h1,cI⟩:=pP h1;obtain ⟨h3,kh⟩:=dV h3;obtain ⟨h7,kC⟩:=dV h7
 have he:t::u::(A++[w])++rest=t::u::(A++w::rest):=by simp
 have hx:=I1 (e:=e) (d:=d+1) (rest:=rest) ho.2 h1 (by rw [cI];exact l7 ho.1) h5 h3 kh h7 kC;rw [he,S.fit];have b9:t.kind=2/\sign (t::u::(A++w::rest)) 1=[61]:=⟨h1,by simp only [sign,List.getElem?_cons_succ,getElem?_cons_zero,bo,h3,if_true,kh]⟩
 refine pz fun hd=>⟨fun hb=>?_,fun hb=>?_⟩
 ·obtain ⟨t',k1,k2⟩:=hx.1 hb;refine ⟨one 7 t.at_ t.s [t'],by show er _=_;rw [dF,aP,k1,cI,S.tree];rfl,rL fun f=>?_⟩;rw [rs,if_neg aq];simp only;rw [if_neg (iy h1 av),if_neg (fun h=>h.elim (iy h1 av) (iy h1 av)),if_neg (iy h1 av)];simp only [simple];rw [if_pos b9,k2]
 ·obtain ⟨pos,k1⟩:=hx.2 hb;refine ⟨pos,rL fun f=>?_⟩;rw [rs,if_neg aq];simp only;rw [if_neg (iy h1 av),if_neg (fun h=>h.elim (iy h1 av) (iy h1 av)),if_neg (iy h1 av)];simp only [simple];rw [if_pos b9,k1]
theorem OY (s:ai) (a:E):qO (.var s a):=by
 intro e d ts rest ho ht _;simp only [S.ok,Bool.and_eq_true] at ho;rw [S.tk] at ht;obtain ⟨v,r,rfl,h0,ht⟩:=map_cons ht;obtain ⟨t,r,rfl,h1,h2⟩:=map_cons ht;obtain ⟨u,r,rfl,h3,h4⟩:=map_cons h2;obtain ⟨A,B,rfl,h5,h6⟩:=da h4;obtain ⟨w,rfl,h7⟩:=gP h6;obtain ⟨h0,sM⟩:=dV h0;obtain ⟨h1,cI⟩:=pP h1;obtain ⟨h3,kh⟩:=dV h3;obtain ⟨h7,kC⟩:=dV h7
 have he:v::t::u::(A++[w])++rest=v::t::u::(A++w::rest):=by simp
 have hx:=I1 (e:=e) (d:=d+1) (rest:=rest) ho.2 h1 (by rw [cI];exact l7 ho.1) h5 h3 kh h7 kC;rw [he,S.fit]
 refine pz fun hd=>⟨fun hb=>?_,fun hb=>?_⟩
 ·obtain ⟨t',k1,k2⟩:=hx.1 hb;refine ⟨one 13 v.at_ t.s [t'],by show er _=_;rw [dF,aP,k1,cI,S.tree];rfl,rL fun f=>?_⟩;rw [rs,if_neg aq];simp only;rw [if_pos (tw h0 sM),tail_cons,k2];rfl
 ·obtain ⟨pos,k1⟩:=hx.2 hb;refine ⟨pos,rL fun f=>?_⟩;rw [rs,if_neg aq];simp only;rw [if_pos (tw h0 sM),tail_cons,k1]
theorem OW (a:E):qO (.ret a):=by
 intro e d ts rest ho ht _;simp only [S.ok] at ho;rw [S.tk] at ht;obtain ⟨v,r,rfl,h0,h4⟩:=map_cons ht;obtain ⟨A,B,rfl,h5,h6⟩:=da h4;obtain ⟨w,rfl,h7⟩:=gP h6;obtain ⟨h0,sM⟩:=dV h0;obtain ⟨h7,kC⟩:=dV h7
 have he:v::(A++[w])++rest=v::(A++w::rest):=by simp
 have hx:=E.xx (e:=e) (d:=d+1) (rest:=w::rest) ho h5 (tw h7 kC) (by simp);rw [he,S.fit];have hs:=tw (rest:=A++w::rest) h0 sM
 refine pz fun hd=>⟨fun hb=>?_,fun hb=>?_⟩
 ·obtain ⟨t',k1,k2⟩:=hx.1 hb;refine ⟨one 11 v.at_ [] [t'],by show er _=_;rw [dF,aP,k1,S.tree];rfl,rL fun f=>?_⟩;rw [rs,if_neg aq];simp only;rw [if_neg (by rw [hs];decide),if_neg (by rw [hs];decide),if_pos hs,tail_cons,k2];simp only;rw [qz h7 kC];rfl
 ·obtain ⟨pos,k1⟩:=hx.2 hb;refine ⟨pos,rL fun f=>?_⟩;rw [rs,if_neg aq];simp only;rw [if_neg (by rw [hs];decide),if_neg (by rw [hs];decide),if_pos hs,tail_cons,k1]
def qB (l:List K):Prop:=∀ k∈l,k.1=3->k.2.2≠[61]
theorem qC {l l':List K}:qB (l++l')↔qB l/\qB l':=by
 unfold qB;constructor
 ·intro h;exact ⟨fun k hk=>h k (List.mem_append_left _ hk),fun k hk=>h k (List.mem_append_right _ hk)⟩
 ·rintro ⟨h1,h2⟩ k hk;rcases List.mem_append.1 hk with hk | hk
  ·exact h1 k hk
  ·exact h2 k hk
theorem gk {a:K} {l:List K}:qB (a::l)↔(a.1=3->a.2.2≠[61])/\qB l:=by
 unfold qB;simp only [List.mem_cons,forall_eq_or_imp]
theorem oX:qB []:=fun k hk=>by cases hk
theorem xZ {lv k:Nat} {x:List K} (h:qB x):qB (brk lv k x):=by
 unfold brk;split
 ·rw [gk,qC,gk];exact ⟨fun _=>by decide,h,fun _=>by decide,oX⟩
 ·exact h
mutual
theorem E.yG:∀ (a:E),a.ok=true->qB a.tk
 | .num n,_=>by rw [E.tk,gk];exact ⟨fun h=>(by cases h),oX⟩
 | .name s,_=>by rw [E.tk,gk];exact ⟨fun h=>(by cases h),oX⟩
 | .at_ s a,h=>by
  simp only [E.ok,Bool.and_eq_true] at h;rw [E.tk,gk,gk,qC,gk];exact ⟨fun h=>(by cases h),fun _=>av,E.yG a h.2,fun _=>av,oX⟩
 | .call s l,h=>by
  simp only [E.ok,Bool.and_eq_true] at h;rw [E.tk,gk,gk,qC,gk];exact ⟨fun h=>(by cases h),fun _=>av,(E.NC l h.2).1,fun _=>av,oX⟩
 | .un s a,h=>by
  simp only [E.ok,Bool.and_eq_true,Bool.or_eq_true,beq_iff_eq] at h;rw [E.tk,gk];exact ⟨fun _=>(by rcases h.1 with (h | h) | h <;> (simp only [kS,h];decide)),xZ (E.yG a h.2)⟩
 | .bin s a b,h=>by
  simp only [E.ok,Bool.and_eq_true] at h;rw [E.tk,qC,gk];exact ⟨xZ (E.yG a h.1.2),fun _ h0=>(by simp only [kS] at h0;rw [h0] at h;exact absurd h.1.1 av),xZ (E.yG b h.2)⟩
theorem E.NC:∀ (l:List E),E.cM l=true->qB (E.mF l)/\qB (E.p7 l)
 | [],_=>by rw [E.mF,E.p7];exact ⟨oX,oX⟩
 | a::l,h=>by
  simp only [E.cM,Bool.and_eq_true] at h;have h1:=E.yG a h.1;have h2:=E.NC l h.2;rw [E.mF,E.p7,qC,gk,qC];exact ⟨⟨h1,h2.2⟩,fun _=>av,h1,h2.2⟩
end
theorem KL {ts:List Tok} {k:Nat} {s:ai} (h:∀ t,ts[k]?=some t->t.kind=3->t.s≠s) (hs:s≠[]):sign ts k≠s:=by
 unfold sign
 cases hk:ts[k]? with
 | none=>exact fun h=>hs h.symm
 | some t =>
  simp only [bo];split
  ·rename_i h3;exact h t hk h3
  ·exact fun h=>hs h.symm
theorem G4 {a:E} {A:List Tok} {w:Tok} (ho:a.ok=true) (h5:A.map kf=a.tk) (hw:w.s≠[61]):sign (A++w::rest) 1≠[61]:=by
 obtain ⟨k0,r0,hh,_⟩:=E.head a ho;refine KL (fun t ht h3 sX=>?_) av
 have hlen:1<=A.length:=by
  have:=congrArg List.length h5;rw [hh] at this;simp at this;omega
 rw [List.getElem?_append] at ht;split at ht
 ·have hm:kf t∈a.tk:=by rw [<-h5];exact List.mem_map_of_mem (mem_of_getElem? ht)
  exact E.yG a ho _ hm h3 sX
 ·have:1 - A.length=0:=by omega
  rw [this] at ht;cases ht;exact hw sX
theorem R9 (a:E):qO (.do_ a):=by
 intro e d ts rest ho ht _;simp only [S.ok] at ho;rw [S.tk] at ht;obtain ⟨A,B,rfl,h5,h6⟩:=da ht;obtain ⟨w,rfl,h7⟩:=gP h6;obtain ⟨h7,kC⟩:=dV h7
 have he:A++[w]++rest=A++w::rest:=by simp
 have hx:=E.xx (e:=e) (d:=d+1) (rest:=w::rest) ho h5 (tw h7 kC) (by simp);have A2:=G4 (rest:=rest) (w:=w) ho h5 (by rw [kC];decide);obtain ⟨k0,r0,hh,hf⟩:=E.head a ho;obtain ⟨t,r,rfl,h8,_⟩:=map_cons (by rw [<-hh];exact h5);rw [he,S.fit];rw [cons_append] at hx A2 |-;have hfs:=zK (r:=r++w::rest) (by rw [h8];exact hf)
 have b9:¬ (t.kind=2/\sign (t::(r++w::rest)) 1=[61]):=fun h=>A2 h.2
 have bN:∀ s:ai,s=gw\/s=dL\/s=du\/s=db->sign (t::(r++w::rest)) 0≠s:=by
  intro s hs;rcases hfs with h | h | h | h | h <;> rcases hs with rfl | rfl | rfl | rfl <;> (rw [h];decide)
 refine pz fun hd=>⟨fun hb=>?_,fun hb=>?_⟩
 ·obtain ⟨t',k1,k2⟩:=hx.1 hb;refine ⟨one 12 t.at_ [] [t'],by show er _=_;rw [dF,aP,k1,S.tree];rfl,rL fun f=>?_⟩;rw [rs,if_neg aq];simp only;rw [if_neg (bN _ (by simp)),if_neg (fun h=>h.elim (bN _ (by simp)) (bN _ (by simp))),if_neg (bN _ (by simp))];simp only [simple];rw [if_neg b9,k2];simp only;rw [if_neg (fun h=>by have:=h.2.2;rw [tw h7 kC] at this;revert this;decide),qz h7 kC]
 ·obtain ⟨pos,k1⟩:=hx.2 hb;refine ⟨pos,rL fun f=>?_⟩;rw [rs,if_neg aq];simp only;rw [if_neg (bN _ (by simp)),if_neg (fun h=>h.elim (bN _ (by simp)) (bN _ (by simp))),if_neg (bN _ (by simp))];simp only [simple];rw [if_neg b9,k1]
theorem Yi {s:ai} {a:E} {t u w:Tok} {A:List Tok} {sg:ai} (hn:bs s=true) (ho:a.ok=true) (h1:t.kind=2) (cI:t.s=s) (h3:u.kind=3) (kh:u.s=[91]) (h5:A.map kf=a.tk) (h7:w.kind=3) (kC:w.s=[93]) (hs:sign rest 0=sg) (oc:sg=[]\/sg=[41]\/sg=[93]\/sg=[44]\/sg=[59]\/sg=[61]) :
  Xx e d (t::u::(A++w::rest)) rest (fun x=>er x=(E.at_ s a).tree/\x.n.kind=3/\x.n.at_=t.at_/\x.n.s=s/\∃ y,x.kids=[y]/\er y=a.tree) (pG (.at_ s a) d):=by
 have hl:t.s.length<=12:=by rw [cI];exact l7 hn
 have hx:=(core a).rx (e:=e) (d:=d+1+1) (rest:=w::rest) (s:=[93]) ho h5 (tw h7 kC) (by simp)
 have hro:Ro e (d+1) (t::u::(A++w::rest)) rest (fun x=>er x=(E.at_ s a).tree/\x.n.kind=3/\x.n.at_=t.at_/\x.n.s=s/\∃ y,x.kids=[y]/\er y=a.tree) ((E.at_ s a).fit (d+1)):=by
  rw [E.fit,Bool.and_assoc]
  refine sn fun hd=>⟨fun hb=>?_,fun hb=>?_⟩
  ·obtain ⟨t',k1,k2⟩:=hx.1 hb;exact ⟨one 3 t.at_ t.s [t'],⟨by rw [dF,aP,k1,cI,E.tree];rfl,rfl,rfl,cI,_,rfl,k1⟩,Ev.ix hd h1 hl h3 kh h7 kC k2⟩
  ·obtain ⟨pos,k1⟩:=hx.2 hb;exact ⟨pos,Ev.X4 hd h1 hl h3 kh k1⟩
 exact ((hro.rt (Nat.zero_le 9) (DJ hs oc)).rx (Bx hs oc)).xx
theorem OV (s:ai) (a b:E):qO (.put s a b):=by
 intro e d ts rest ho ht _;simp only [S.ok,Bool.and_eq_true] at ho;rw [S.tk] at ht;obtain ⟨t,r,rfl,h1,h2⟩:=map_cons ht;obtain ⟨u,r,rfl,h3,h4⟩:=map_cons h2;obtain ⟨A,B,rfl,h5,h6⟩:=da h4;obtain ⟨w,r,rfl,h7,h8⟩:=map_cons h6;obtain ⟨q,r,rfl,h9,lj⟩:=map_cons h8;obtain ⟨B,C,rfl,oB,n5⟩:=da lj;obtain ⟨z,rfl,eK⟩:=gP n5;obtain ⟨h1,cI⟩:=pP h1;obtain ⟨h3,kh⟩:=dV h3;obtain ⟨h7,kC⟩:=dV h7;obtain ⟨h9,C3⟩:=dV h9;obtain ⟨eK,zP⟩:=dV eK
 have he:t::u::(A++w::q::(B++[z]))++rest=t::u::(A++w::(q::(B++z::rest))):=by simp
 have UW:=tw (rest:=B++z::rest) h9 C3;have hx:=Yi (e:=e) (d:=d+1) (rest:=q::(B++z::rest)) ho.1 ho.2.1 h1 cI h3 kh h5 h7 kC UW (by simp);have hv:=vd (e:=e) (d:=d+1) (rest:=rest) ho.2.2 oB h9 C3 eK zP (by simp);rw [he,S.fit]
 have b9:¬ (t.kind=2/\sign (t::u::(A++w::(q::(B++z::rest)))) 1=[61]):=fun h=>by
  have:=h.2;simp only [sign,List.getElem?_cons_succ,getElem?_cons_zero,bo,h3,if_true,kh] at this
  revert this;decide
 have bN:∀ s:ai,s≠[]->sign (t::u::(A++w::(q::(B++z::rest)))) 0≠s:=fun s hs=>iy h1 hs
 refine pz fun hd=>?_
 cases hfa:pG (.at_ s a) (d+1) with
 | false =>
  refine ⟨fun hb=>(by cases hb),fun _=>?_⟩;obtain ⟨pos,k1⟩:=hx.2 hfa;refine ⟨pos,rL fun f=>?_⟩;rw [rs,if_neg aq];simp only;rw [if_neg (bN _ av),if_neg (fun h=>h.elim (bN _ av) (bN _ av)),if_neg (bN _ av)];simp only [simple];rw [if_neg b9,k1]
 | true =>
  obtain ⟨x,⟨_,k1,k2,k3,y,k4,k5⟩,k6⟩:=hx.1 hfa;refine ⟨fun hb=>?_,fun hb=>?_⟩
  ·obtain ⟨v,k7,k8⟩:=hv.1 (by simpa using hb);refine ⟨one 8 t.at_ s [y,v],by show er _=_;rw [dF,aP,aP,k5,k7,S.tree];rfl,rL fun f=>?_⟩;rw [rs,if_neg aq];simp only;rw [if_neg (bN _ av),if_neg (fun h=>h.elim (bN _ av) (bN _ av)),if_neg (bN _ av)];simp only [simple];rw [if_neg b9,k6];simp only;rw [if_pos ⟨k1,k2,UW⟩,k8];simp only;rw [k3,k4];rfl
  ·obtain ⟨pos,k7⟩:=hv.2 (by simpa using hb);refine ⟨pos,rL fun f=>?_⟩;rw [rs,if_neg aq];simp only;rw [if_neg (bN _ av),if_neg (fun h=>h.elim (bN _ av) (bN _ av)),if_neg (bN _ av)];simp only [simple];rw [if_neg b9,k6];simp only;rw [if_pos ⟨k1,k2,UW⟩,k7]
end
end Go.Xp
