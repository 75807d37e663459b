/- Part 1 of proofs that are told in their last texts. -/
set_option linter.unusedVariables false
set_option linter.unusedSimpArgs false
namespace Go.Xp
abbrev Str:=List UInt8
structure Tok where
 kind:Int
 n:Int
 s:Str
 at_:Int
structure Nd where
 kind:Int
 at_:Int
 n:Int
 s:Str
 kids:List Int
inductive T where
 | mk (n:Nd) (kids:List T)
def T.n:T→Nd | .mk n _=>n
def T.kids:T→List T | .mk _ k=>k
abbrev Er:=Int × Int
abbrev Rd (α:Type):=Except Er (α × List Tok)
def signOf (t:Tok):Str:=if t.kind=3 then t.s else []
def sign (ts:List Tok) (k:Nat):Str:=match ts[k]? with | some t=>signOf t | none=>[]
def place (e:Int):List Tok→Int
 | t::_=>t.at_
 | []=>e
def must (e:Int) (s:Str) (ts:List Tok):Except Er (List Tok) :=
 if sign ts 0=s then .ok ts.tail else .error (7,place e ts)
def name (e:Int):List Tok→Rd Str
 | []=>.error (7,e)
 | t::r=>if t.kind=2 then (if t.s.length > 12 then .error (8,t.at_) else .ok (t.s,r)) else .error (7,t.at_)
def one (kind at_:Int) (s:Str) (kids:List T):T:=.mk ⟨kind,at_,0,s,[]⟩ kids
def levels:List (List Str):=[[[124,124]],[[38,38]],[[61,61],[33,61],[60],[62],[60,61],[62,61]],[[124]],[[94]],[[38]],[[60,60],[62,62]],[[43],[45]],[[42],[47],[37]]]
def fuelOut:Er:=(-1,-1)
inductive Job where
 | expr (deep:Nat)
 | level (k deep:Nat)
 | loop (k deep:Nat) (out:T)
 | operand (deep:Nat)
def rd (e:Int):Nat→Job→List Tok→Rd T
 | 0,_,_=>.error fuelOut
 | f+1,.expr deep,ts=>if deep > 60 then .error (9,place e ts) else rd e f (.level 0 (deep+1)) ts
 | f+1,.level k deep,ts =>
  if k=9 then rd e f (.operand deep) ts
  else match rd e f (.level (k+1) deep) ts with
   | .error x=>.error x
   | .ok (out,ts)=>rd e f (.loop k deep out) ts
 | f+1,.loop k deep out,ts =>
  match ts with
  | []=>.ok (out,ts)
  | t::r =>
   if t.kind=3∧t.s∈levels.getD k [] then
    match rd e f (.level (k+1) deep) r with
    | .error x=>.error x
    | .ok (b,r)=>rd e f (.loop k deep (one 6 t.at_ t.s [out,b])) r
   else .ok (out,ts)
 | f+1,.operand deep,ts =>
  if deep > 60 then .error (9,place e ts)
  else match ts with
  | []=>.error (7,e)
  | t::r =>
   if t.kind=3 then
    if t.s=[45]∨t.s=[33]∨t.s=[126] then
     match rd e f (.operand (deep+1)) r with
     | .error x=>.error x
     | .ok (a,r)=>.ok (one 5 t.at_ t.s [a],r)
    else if t.s=[40] then
     match rd e f (.expr (deep+1)) r with
     | .error x=>.error x
     | .ok (a,r)=>match must e [41] r with
      | .error x=>.error x
      | .ok r=>.ok (a,r)
    else .error (7,t.at_)
   else if t.kind=1 then .ok (.mk ⟨1,t.at_,t.n,[],[]⟩ [],r)
   else match name e ts with
    | .error x=>.error x
    | .ok (s,r) =>
     if sign r 0=[91] then
      match rd e f (.expr (deep+1)) r.tail with
      | .error x=>.error x
      | .ok (a,r)=>match must e [93] r with
       | .error x=>.error x
       | .ok r=>.ok (one 3 t.at_ s [a],r)
     else if sign r 0=[40] then
      match args e f (deep+1) [] r.tail with
      | .error x=>.error x
      | .ok (l,r)=>.ok (one 4 t.at_ s l,r)
     else .ok (one 2 t.at_ s [],r)
where
 args (e:Int):Nat→Nat→List T→List Tok→Rd (List T)
  | 0,_,_,_=>.error fuelOut
  | f+1,deep,acc,ts =>
   if sign ts 0=[41] then .ok (acc,ts.tail)
   else match (if acc=[] then .ok ts else must e [44] ts) with
    | .error x=>.error x
    | .ok ts=>match rd e f (.expr deep) ts with
     | .error x=>.error x
     | .ok (a,ts)=>args e f deep (acc++[a]) ts
def kwVar:Str:=[118,97,114]
def kwIf:Str:=[105,102]
def kwElse:Str:=[101,108,115,101]
def kwWhile:Str:=[119,104,105,108,101]
def kwReturn:Str:=[114,101,116,117,114,110]
def kwInt:Str:=[105,110,116]
def kwFunc:Str:=[102,117,110,99]
inductive SJob where
 | block (deep:Nat)
 | stmt (deep:Nat)
def fuelOf (ts:List Tok):Nat:=20 * ts.length+20
def expr (e:Int) (deep:Nat) (ts:List Tok):Rd T:=rd e (fuelOf ts) (.expr deep) ts
def inner (e:Int) (deep:Nat) (a b:Str) (ts:List Tok):Rd T :=
 match must e a ts with
 | .error x=>.error x
 | .ok ts=>match expr e deep ts with
  | .error x=>.error x
  | .ok (t,ts)=>match must e b ts with
   | .error x=>.error x
   | .ok ts=>.ok (t,ts)
def setTo (e:Int) (deep:Nat) (ts:List Tok):Rd (Str × T) :=
 match name e ts with
 | .error x=>.error x
 | .ok (s,ts)=>match inner e deep [61] [59] ts with
  | .error x=>.error x
  | .ok (t,ts)=>.ok ((s,t),ts)
def simple (e:Int) (deep:Nat) (ts:List Tok):Rd T :=
 match ts with
 | []=>match expr e (deep+1) [] with
  | .error x=>.error x
  | .ok _=>.error (7,e)
 | t::_ =>
  if t.kind=2∧sign ts 1=[61] then
   match setTo e (deep+1) ts with
   | .error x=>.error x
   | .ok ((s,a),ts)=>.ok (one 7 t.at_ s [a],ts)
  else match expr e (deep+1) ts with
   | .error x=>.error x
   | .ok (a,ts) =>
    if a.n.kind=3∧a.n.at_=t.at_∧sign ts 0=[61] then
     match inner e (deep+1) [61] [59] ts with
     | .error x=>.error x
     | .ok (v,ts)=>.ok (one 8 t.at_ a.n.s (a.kids.take 1++[v]),ts)
    else match must e [59] ts with
     | .error x=>.error x
     | .ok ts=>.ok (one 12 t.at_ [] [a],ts)
def rs (e:Int):Nat→SJob→List Tok→Rd T
 | 0,_,_=>.error fuelOut
 | f+1,.block deep,ts =>
  if deep > 60 then .error (9,place e ts)
  else match must e [123] ts with
   | .error x=>.error x
   | .ok r=>match body e f (deep+1) [] r with
    | .error x=>.error x
    | .ok (l,r)=>.ok (one 14 (place e ts) [] l,r)
 | f+1,.stmt deep,ts =>
  if deep > 60 then .error (9,place e ts)
  else
   let at_:=place e ts
   if sign ts 0=kwVar then
    match setTo e (deep+1) ts.tail with
    | .error x=>.error x
    | .ok ((s,a),ts)=>.ok (one 13 at_ s [a],ts)
   else if sign ts 0=kwIf∨sign ts 0=kwWhile then
    match inner e (deep+1) [40] [41] ts.tail with
    | .error x=>.error x
    | .ok (c,r)=>match rs e f (.block (deep+1)) r with
     | .error x=>.error x
     | .ok (b,r) =>
      if sign ts 0=kwIf then
       if sign r 0=kwElse then
        match rs e f (.block (deep+1)) r.tail with
        | .error x=>.error x
        | .ok (b2,r)=>.ok (one 9 at_ [] [c,b,b2],r)
       else .ok (one 9 at_ [] [c,b],r)
      else .ok (one 10 at_ [] [c,b],r)
   else if sign ts 0=kwReturn then
    match expr e (deep+1) ts.tail with
    | .error x=>.error x
    | .ok (a,ts)=>match must e [59] ts with
     | .error x=>.error x
     | .ok ts=>.ok (one 11 at_ [] [a],ts)
   else simple e deep ts
where
 body (e:Int):Nat→Nat→List T→List Tok→Rd (List T)
  | 0,_,_,_=>.error fuelOut
  | f+1,deep,acc,ts =>
   if sign ts 0=[125] then .ok (acc,ts.tail)
   else match rs e f (.stmt deep) ts with
    | .error x=>.error x
    | .ok (a,ts)=>body e f deep (acc++[a]) ts
def block (e:Int) (deep:Nat) (ts:List Tok):Rd T:=rs e (fuelOf ts) (.block deep) ts
structure Ar where
 name:Str
 size:Int
structure Fun where
 name:Str
 params:List Str
 tree:T
structure Prog where
 globals:List Str
 arrays:List Ar
 fns:List Fun
end Go.Xp
namespace Go.Sp
open Go.Xp
structure RS where
 l:List Tok
 i:Nat
 e:Int
 code:Int
 at_:Int
def RS.ok (p:RS):Prop:=p.i≤p.l.length∧p.l.length≤1099511627776
def RS.place (p:RS):Int:=match p.l[p.i]? with | some t=>t.at_ | none=>p.e
def RS.fail (p:RS) (c a:Int):RS:=if p.code=0 then ⟨p.l,p.i,p.e,c,a⟩ else p
def RS.sign (p:RS) (k:Nat):Str:=if p.code=0 then (match p.l[p.i+k]? with | some t=>signOf t | none=>[]) else []
def RS.next (p:RS):RS:=⟨p.l,p.i+1,p.e,p.code,p.at_⟩
def RS.must (p:RS) (s:Str):RS:=if p.sign 0=s then p.next else p.fail 7 p.place
def RS.name (p:RS):Str × RS :=
 if p.code=0 then match p.l[p.i]? with
  | some t=>if t.kind=2 then (if t.s.length > 12 then ([],p.fail 8 t.at_) else (t.s,p.next)) else ([],p.fail 7 p.place)
  | none=>([],p.fail 7 p.place)
 else ([],p)
def RS.deep (p:RS) (d:Nat):RS:=if d > 60 then p.fail 9 p.place else p
def T.zero:T:=.mk ⟨0,0,0,[],[]⟩ []
inductive J where
 | expr (d:Nat)
 | level (k d:Nat)
 | loop (k d:Nat) (out:T)
 | operand (d:Nat)
 | named (at_:Int) (s:Str) (d:Nat)
mutual
def mE:Nat→J→RS→Option (T × RS)
 | 0,_,_=>none
 | f+1,.expr d,p=>mE f (.level 0 d) (p.deep d)
 | f+1,.level k d,p =>
  if k=9 then mE f (.operand (d+1)) p
  else match mE f (.level (k+1) d) p with
   | none=>none
   | some (out,p)=>mE f (.loop k d out) p
 | f+1,.loop k d out,p =>
  if p.code=0∧(levels.getD k []).contains (p.sign 0)=true then
   match p.l[p.i]? with
   | none=>none
   | some t=>match mE f (.level (k+1) d) p.next with
    | none=>none
    | some (b,p)=>mE f (.loop k d (one 6 t.at_ t.s [out,b])) p
  else some (out,p)
 | f+1,.operand d,p =>
  let p:=p.deep d
  if p.code=0 then match p.l[p.i]? with
   | none=>some (T.zero,p.fail 7 p.place)
   | some t =>
    if t.kind=1 then some (.mk ⟨1,t.at_,t.n,[],[]⟩ [],p.next)
    else if t.kind=2 then mE f (.named t.at_ p.name.1 d) p.name.2
    else if t.s=[45]∨t.s=[33]∨t.s=[126] then match mE f (.operand (d+1)) p.next with
     | none=>none
     | some (a,p)=>some (one 5 t.at_ t.s [a],p)
    else if t.s=[40] then match mE f (.expr (d+1)) p.next with
     | none=>none
     | some (a,p)=>some (a,p.must [41])
    else some (T.zero,p.fail 7 t.at_)
  else some (T.zero,p.fail 7 p.place)
 | f+1,.named at_ s d,p =>
  if p.sign 0=[91] then match mE f (.expr (d+1)) p.next with
   | none=>none
   | some (a,p)=>some (one 3 at_ s [a],p.must [93])
  else if p.sign 0=[40] then match mL f (d+1) p.next with
   | none=>none
   | some (l,p)=>some (one 4 at_ s l,p)
  else some (one 2 at_ s [],p)
def mL:Nat→Nat→RS→Option (List T × RS)
 | 0,_,_=>none
 | f+1,d,p=>if p.sign 0=[41] then some ([],p.must [41]) else match mE f (.expr d) p with
  | none=>none
  | some (a,p)=>mLs f d [a] p
def mLs:Nat→Nat→List T→RS→Option (List T × RS)
 | 0,_,_,_=>none
 | f+1,d,acc,p=>if p.sign 0=[44] then match mE f (.expr d) p.next with
   | none=>none
   | some (a,p)=>mLs f d (acc++[a]) p
  else some (acc,p.must [41])
end
def RS.isName (p:RS):Bool:=match p.l[p.i]? with | some t=>decide (t.kind=2) | none=>false
def RS.ck (p:RS):Int:=if p.sign 0=kwIf then 9 else 10
inductive JS where
 | block (d:Nat)
 | stmt (d:Nat)
 | cond (at_:Int) (d:Nat)
def fe (p:RS):Nat:=100 * p.l.length+2000
def mX (d:Nat) (p:RS):Option (T × RS):=mE (fe p) (.expr d) p
mutual
def mS:Nat→JS→RS→Option (T × RS)
 | 0,_,_=>none
 | f+1,.block d,p =>
  let p:=p.deep d
  match mB f (d+1) [] (p.must [123]) with
  | none=>none
  | some (l,q)=>some (one 14 p.place [] l,q.must [125])
 | f+1,.stmt d,p =>
  let p:=p.deep d
  let at_:=p.place
  let s:=p.sign 0
  if s=kwVar then match mX (d+1) ((p.next.name.2).must [61]) with
   | none=>none
   | some (e,q)=>some (one 13 at_ p.next.name.1 [e],q.must [59])
  else if s=kwIf∨s=kwWhile then mS f (.cond at_ d) p
  else if s=kwReturn then match mX (d+1) p.next with
   | none=>none
   | some (e,q)=>some (one 11 at_ [] [e],q.must [59])
  else if p.code=0∧p.isName=true∧p.sign 1=[61] then match mX (d+1) (p.name.2.must [61]) with
   | none=>none
   | some (e,q)=>some (one 7 at_ p.name.1 [e],q.must [59])
  else match mX (d+1) p with
   | none=>none
   | some (e,q) =>
    if e.n.kind=3∧e.n.at_=at_∧q.sign 0=[61] then match e.kids,mX (d+1) q.next with
     | a::_,some (v,q)=>some (one 8 at_ e.n.s [a,v],q.must [59])
     | _,_=>none
    else some (one 12 at_ [] [e],q.must [59])
 | f+1,.cond at_ d,p =>
  match mX (d+1) (p.next.must [40]) with
  | none=>none
  | some (e,q)=>match mS f (.block (d+1)) (q.must [41]) with
   | none=>none
   | some (b,q) =>
    if p.ck=9∧q.sign 0=kwElse then match mS f (.block (d+1)) q.next with
     | none=>none
     | some (b2,q)=>some (one p.ck at_ [] [e,b,b2],q)
    else some (one p.ck at_ [] [e,b],q)
def mB:Nat→Nat→List T→RS→Option (List T × RS)
 | 0,_,_,_=>none
 | f+1,d,acc,p=>if p.code=0∧¬ p.sign 0=[125] then match mS f (.stmt d) p with
   | none=>none
   | some (a,p)=>mB f d (acc++[a]) p
  else some (acc,p)
end
end Go.Sp
namespace Go.Sp
open Go.Xp
theorem sign_lt {p:RS} {k:Nat} {s:Str} (h:p.sign k=s) (hs:s≠[]):p.i+k < p.l.length∧p.code=0:=by
 unfold RS.sign at h
 split at h
 ·rename_i hc
  refine ⟨Nat.lt_of_not_le fun hn=>?_,hc⟩
  rw [List.getElem?_eq_none_iff.2 hn] at h
  exact hs h.symm
 ·exact absurd h.symm hs
def RS.to (p q:RS):Prop:=q.l=p.l∧q.e=p.e∧q.i≤q.l.length∧p.i≤q.i
theorem RS.to.ok {p q:RS} (h:p.to q) (hp:p.ok):q.ok:=⟨h.2.2.1,by rw [h.1];exact hp.2⟩
theorem RS.to.trans {p q r:RS} (h:p.to q) (k:q.to r):p.to r:=⟨k.1.trans h.1,k.2.1.trans h.2.1,k.2.2.1,Nat.le_trans h.2.2.2 k.2.2.2⟩
theorem to_self {p:RS} (hp:p.ok):p.to p:=⟨rfl,rfl,hp.1,Nat.le_refl _⟩
theorem to_fail {p:RS} (hp:p.ok) (c a:Int):p.to (p.fail c a):=by
 unfold RS.fail
 split
 ·exact ⟨rfl,rfl,hp.1,Nat.le_refl _⟩
 ·exact to_self hp
theorem to_next {p:RS} (h:p.i < p.l.length):p.to p.next:=⟨rfl,rfl,h,Nat.le_succ _⟩
theorem to_must {p:RS} (hp:p.ok) {s:Str} (hs:s≠[]):p.to (p.must s):=by
 unfold RS.must
 split
 ·rename_i h;exact to_next (by have:=(sign_lt h hs).1;omega)
 ·exact to_fail hp _ _
theorem to_name {p:RS} (hp:p.ok):p.to p.name.2:=by
 unfold RS.name
 split
 ·cases ht:p.l[p.i]? with
  | none=>exact to_fail hp _ _
  | some t =>
   simp only
   have hlt:=(List.getElem?_eq_some_iff.1 ht).1
   split
   ·split
    ·exact to_fail hp _ _
    ·exact to_next hlt
   ·exact to_fail hp _ _
 ·exact to_self hp
theorem to_deep {p:RS} (hp:p.ok) (d:Nat):p.to (p.deep d):=by
 unfold RS.deep
 split
 ·exact to_fail hp _ _
 ·exact to_self hp
theorem to_sign {p:RS} {s:Str} (h:p.sign 0=s) (hs:s≠[]):p.to p.next:=to_next (by have:=(sign_lt h hs).1;omega)
theorem mE_to:∀ (f:Nat),(∀ j p t q,p.ok→mE f j p=some (t,q)→p.to q)∧(∀ d p l q,p.ok→mL f d p=some (l,q)→p.to q)∧(∀ d acc p l q,p.ok→mLs f d acc p=some (l,q)→p.to q)
 | 0=>⟨fun j p t q _ h=>by simp [mE] at h,fun d p l q _ h=>by simp [mL] at h,fun d acc p l q _ h=>by simp [mLs] at h⟩
 | f+1=>by
  obtain ⟨h1,h2,h3⟩:=mE_to f
  refine ⟨fun j p t q hp h=>?_,fun d p l q hp h=>?_,fun d acc p l q hp h=>?_⟩
  ·cases j with
   | expr d=>rw [mE] at h;exact (to_deep hp d).trans (h1 _ _ _ _ ((to_deep hp d).ok hp) h)
   | level k d =>
    rw [mE] at h
    split at h
    ·exact h1 _ _ _ _ hp h
    ·split at h
     ·cases h
     ·rename_i out p' he
      have:=h1 _ _ _ _ hp he
      exact this.trans (h1 _ _ _ _ (this.ok hp) h)
   | loop k d out =>
    rw [mE] at h
    split at h
    ·split at h
     ·cases h
     ·rename_i t' ht
      have hn:=to_next (p:=p) (List.getElem?_eq_some_iff.1 ht).1
      split at h
      ·cases h
      ·rename_i b p' he
       have:=hn.trans (h1 _ _ _ _ (hn.ok hp) he)
       exact this.trans (h1 _ _ _ _ (this.ok hp) h)
    ·cases h;exact to_self hp
   | operand d =>
    rw [mE] at h
    have hd:=to_deep hp d
    have hdo:=hd.ok hp
    refine hd.trans ?_
    generalize p.deep d=p at *
    try simp only at h
    split at h
    ·split at h
     ·cases h;exact to_fail hdo _ _
     ·rename_i t' ht
      have hn:=to_next (p:=p) (List.getElem?_eq_some_iff.1 ht).1
      split at h
      ·cases h;exact hn
      ·split at h
       ·exact (to_name hdo).trans (h1 _ _ _ _ ((to_name hdo).ok hdo) h)
       ·split at h
        ·split at h
         ·cases h
         ·rename_i a p' he
          cases h;exact hn.trans (h1 _ _ _ _ (hn.ok hdo) he)
        ·split at h
         ·split at h
          ·cases h
          ·rename_i a p' he
           have:=hn.trans (h1 _ _ _ _ (hn.ok hdo) he)
           cases h;exact this.trans (to_must (this.ok hdo) (by decide))
         ·cases h;exact to_fail hdo _ _
    ·cases h;exact to_fail hdo _ _
   | named a s d =>
    rw [mE] at h
    split at h
    ·rename_i hs
     have hn:=to_sign hs (by decide)
     split at h
     ·cases h
     ·rename_i a' p' he
      have:=hn.trans (h1 _ _ _ _ (hn.ok hp) he)
      cases h;exact this.trans (to_must (this.ok hp) (by decide))
    ·split at h
     ·rename_i hs
      have hn:=to_sign hs (by decide)
      split at h
      ·cases h
      ·rename_i a' p' he
       cases h;exact hn.trans (h2 _ _ _ _ (hn.ok hp) he)
     ·cases h;exact to_self hp
  ·rw [mL] at h
   split at h
   ·cases h;exact to_must hp (by decide)
   ·split at h
    ·cases h
    ·rename_i a p' he
     have:=h1 _ _ _ _ hp he
     exact this.trans (h3 _ _ _ _ _ (this.ok hp) h)
  ·rw [mLs] at h
   split at h
   ·rename_i hs
    have hn:=to_sign hs (by decide)
    split at h
    ·cases h
    ·rename_i a p' he
     have:=hn.trans (h1 _ _ _ _ (hn.ok hp) he)
     exact this.trans (h3 _ _ _ _ _ (this.ok hp) h)
   ·cases h;exact to_must hp (by decide)
end Go.Sp
namespace Go.Sp
open Go.Xp
def small (c:UInt8):Bool:=decide ((97:Int)≤(c.toNat:Int))&&decide ((c.toNat:Int)≤122)
def dig (c:UInt8):Bool:=decide ((48:Int)≤(c.toNat:Int))&&decide ((c.toNat:Int)≤57)
def namb (c:UInt8):Bool:=small c || (decide ((65:Int)≤(c.toNat:Int))&&decide ((c.toNat:Int)≤90)) || dig c || ((c.toNat:Int)==95)
def isBlank (c:UInt8):Bool:=((c.toNat:Int)==32) || ((c.toNat:Int)==9) || ((c.toNat:Int)==10) || ((c.toNat:Int)==13)
def begins (s:Str) (at_:Nat) (t:Str):Bool:=decide (at_+t.length≤s.length)&&((s.take (at_+t.length)).drop at_==t)
def closeAt (s:Str):Nat→Nat→Nat
 | 0,e=>e
 | f+1,e=>if e < s.length∧begins s e [42,47]=false then closeAt s f (e+1) else e
def skip (s:Str):Nat→Nat→Nat × Int
 | 0,at_=>(at_,-1)
 | f+1,at_=>match s[at_]? with
  | none=>(at_,-1)
  | some c =>
   if isBlank c=true then skip s f (at_+1)
   else if begins s at_ [47,42]=true then
    let e:=closeAt s s.length (at_+2)
    if s.length≤e then (at_,(at_:Int)) else skip s f (e+2)
   else (at_,-1)
theorem begins_len {s t:Str} {a:Nat} (h:begins s a t=true):a+t.length≤s.length:=by
 simp only [begins,Bool.and_eq_true,decide_eq_true_eq] at h;exact h.1
theorem closeAt_le (s:Str):∀ (f e:Nat),e≤s.length→e≤closeAt s f e∧closeAt s f e≤s.length
 | 0,e,h=>⟨Nat.le_refl _,h⟩
 | f+1,e,h=>by
  rw [closeAt]
  split
  ·rename_i hc;have:=closeAt_le s f (e+1) hc.1;omega
  ·exact ⟨Nat.le_refl _,h⟩
theorem closeAt_end (s:Str):∀ (f e:Nat),e≤s.length→s.length≤f+e→¬ (closeAt s f e < s.length∧begins s (closeAt s f e) [42,47]=false)
 | 0,e,h,hf=>by rw [closeAt];omega
 | f+1,e,h,hf=>by
  rw [closeAt]
  split
  ·rename_i hc;exact closeAt_end s f (e+1) hc.1 (by omega)
  ·assumption
end Go.Sp
namespace Go.Sp
open Go.Xp
def number (s:Str):Nat→Int→Nat→Int × Nat
 | 0,n,a=>(n,a)
 | f+1,n,a=>match s[a]? with
  | none=>(n,a)
  | some c=>if dig c=true then number s f (if n≤2147483647 then n * 10+((c.toNat:Int) - 48) else n) (a+1) else (n,a)
def run (s:Str) (p:UInt8→Bool):Nat→Nat→Nat
 | 0,a=>a
 | f+1,a=>match s[a]? with
  | none=>a
  | some c=>if p c=true then run s p f (a+1) else a
def words:List Str:=[[105,110,116],[118,97,114],[102,117,110,99],[105,102],[101,108,115,101],[119,104,105,108,101],[114,101,116,117,114,110]]
def signs:List Str:=[[124,124],[38,38],[61,61],[33,61],[60,61],[62,61],[60,60],[62,62],[40],[41],[123],[125],[91],[93],[44],[59],[61],[60],[62],[43],[45],[42],[47],[37],[38],[124],[94],[33],[126]]
def wordEnd (s:Str) (a:Nat):Nat:=run s namb (s.length+1) a
def wordAt (s:Str) (a:Nat):Str:=(s.take (wordEnd s a)).drop a
def tokAt (s:Str) (a:Nat) (c:UInt8):Tok × Nat :=
 if dig c=true then (⟨1,(number s (s.length+1) 0 a).1,[],a⟩,(number s (s.length+1) 0 a).2)
 else if small c=true then (⟨if words.contains (wordAt s a)=true then 3 else 2,0,wordAt s a,a⟩,wordEnd s a)
 else match signs.find? (begins s a) with
  | some x=>(⟨3,0,x,a⟩,a+x.length)
  | none=>(⟨0,0,[],0⟩,a)
def toksAt (s:Str):Nat→Nat→List Tok→Option (List Tok)
 | 0,_,_=>none
 | f+1,a,acc=>match s[a]? with
  | none=>some acc
  | some c=>toksAt s f (skip s (s.length+1) (tokAt s a c).2).1 (acc++[(tokAt s a c).1])
def toks (s:Str):Option (List Tok):=toksAt s (s.length+2) (skip s (s.length+1) 0).1 []
end Go.Sp
namespace Go.Sp
open Go.Xp
def word (s:Str):Bool:=s.all namb&&(match s with | []=>false | c::_=>small c)
def nameOk (s:Str):Bool:=word s&&decide (s.length≤12)&&!(words.contains s)
theorem number_end (s:Str):∀ (f:Nat) (n:Int) (a:Nat),a≤s.length→s.length < f+a→(∀ c,s[(number s f n a).2]?=some c→dig c=false)∧a≤(number s f n a).2∧(number s f n a).2≤s.length
 | 0,n,a,h1,h2=>by omega
 | f+1,n,a,h1,h2=>by
  rw [number]
  cases hc:s[a]? with
  | none=>exact ⟨fun c h=>(by rw [hc] at h;cases h),Nat.le_refl _,h1⟩
  | some c =>
   simp only
   have hlt:=(List.getElem?_eq_some_iff.1 hc).1
   by_cases hd:dig c=true
   ·rw [if_pos hd]
    obtain ⟨h3,h4,h5⟩:=number_end s f (if n≤2147483647 then n * 10+((c.toNat:Int) - 48) else n) (a+1) (by omega) (by omega)
    exact ⟨h3,by omega,h5⟩
   ·rw [if_neg hd]
    exact ⟨fun c' h=>(by rw [hc] at h;cases h;simpa using hd),Nat.le_refl _,h1⟩
theorem run_end (s:Str) (p:UInt8→Bool):∀ (f:Nat) (a:Nat),a≤s.length→s.length < f+a→(∀ c,s[run s p f a]?=some c→p c=false)∧a≤run s p f a∧run s p f a≤s.length
 | 0,a,h1,h2=>by omega
 | f+1,a,h1,h2=>by
  rw [run]
  cases hc:s[a]? with
  | none=>exact ⟨fun c h=>(by rw [hc] at h;cases h),Nat.le_refl _,h1⟩
  | some c =>
   simp only
   have hlt:=(List.getElem?_eq_some_iff.1 hc).1
   by_cases hd:p c=true
   ·rw [if_pos hd]
    obtain ⟨h3,h4,h5⟩:=run_end s p f (a+1) (by omega) (by omega)
    exact ⟨h3,by omega,h5⟩
   ·rw [if_neg hd]
    exact ⟨fun c' h=>(by rw [hc] at h;cases h;simpa using hd),Nat.le_refl _,h1⟩
theorem skip_le (s:Str):∀ (f a:Nat),a≤s.length→a≤(skip s f a).1∧(skip s f a).1≤s.length
 | 0,a,h=>⟨Nat.le_refl _,h⟩
 | f+1,a,h=>by
  rw [skip]
  cases hc:s[a]? with
  | none=>exact ⟨Nat.le_refl _,h⟩
  | some c =>
   simp only
   have hlt:=(List.getElem?_eq_some_iff.1 hc).1
   split
   ·have:=skip_le s f (a+1) hlt;omega
   ·split
    ·rename_i hb
     have hb:=begins_len hb
     have hb:a+2≤s.length:=hb
     have h1:=closeAt_le s s.length (a+2) hb
     have h2:=closeAt_end s s.length (a+2) hb (by omega)
     split
     ·exact ⟨Nat.le_refl _,h⟩
     ·rename_i hn
      have h3:begins s (closeAt s s.length (a+2)) [42,47]=true:=by
       cases hbe:begins s (closeAt s s.length (a+2)) [42,47] with
       | true=>rfl
       | false=>exact absurd ⟨by omega,hbe⟩ h2
      have h3:=begins_len h3
      have h3:closeAt s s.length (a+2)+2≤s.length:=h3
      have:=skip_le s f (closeAt s s.length (a+2)+2) h3
      omega
    ·exact ⟨Nat.le_refl _,h⟩
end Go.Sp
namespace Go.Sp
open Go.Xp
theorem mX_to {d:Nat} {p q:RS} {t:T} (hp:p.ok) (h:mX d p=some (t,q)):p.to q:=(mE_to _).1 _ _ _ _ hp h
theorem mS_to:∀ (f:Nat),(∀ j p t q,p.ok→(∀ a d,j=.cond a d→p.i < p.l.length)→mS f j p=some (t,q)→p.to q)∧(∀ d acc p l q,p.ok→mB f d acc p=some (l,q)→p.to q)
 | 0=>⟨fun j p t q _ _ h=>by simp [mS] at h,fun d acc p l q _ h=>by simp [mB] at h⟩
 | f+1=>by
  obtain ⟨h1,h2⟩:=mS_to f
  have hblk:∀ d (p:RS) t q,p.ok→mS f (.block d) p=some (t,q)→p.to q:=fun d p t q hp h=>h1 _ _ _ _ hp (fun a d' h=>by cases h) h
  refine ⟨fun j p t q hp hcond h=>?_,fun d acc p l q hp h=>?_⟩
  ·cases j with
   | block d =>
    rw [mS] at h
    have hd:=to_deep hp d
    refine hd.trans ?_
    have hdo:=hd.ok hp
    generalize p.deep d=p at *
    try simp only at h
    have hm:=to_must hdo (s:=[123]) (by decide)
    split at h
    ·cases h
    ·rename_i l p' he
     have:=hm.trans (h2 _ _ _ _ _ (hm.ok hdo) he)
     cases h;exact this.trans (to_must (this.ok hdo) (by decide))
   | stmt d =>
    rw [mS] at h
    have hd:=to_deep hp d
    refine hd.trans ?_
    have hdo:=hd.ok hp
    generalize p.deep d=p at *
    try simp only at h
    split at h
    ·rename_i hs
     have hn:=to_sign hs (by decide)
     have hnm:=hn.trans (to_name (hn.ok hdo))
     have hmu:=hnm.trans (to_must (hnm.ok hdo) (s:=[61]) (by decide))
     split at h
     ·cases h
     ·rename_i e p' he
      have:=hmu.trans (mX_to (hmu.ok hdo) he)
      cases h;exact this.trans (to_must (this.ok hdo) (by decide))
    ·split at h
     ·rename_i hs
      refine h1 _ _ _ _ hdo (fun a d' _=>?_) h
      rcases hs with hs | hs
      ·exact (sign_lt hs (by decide)).1
      ·exact (sign_lt hs (by decide)).1
     ·split at h
      ·rename_i hs
       have hn:=to_sign hs (by decide)
       split at h
       ·cases h
       ·rename_i e p' he
        have:=hn.trans (mX_to (hn.ok hdo) he)
        cases h;exact this.trans (to_must (this.ok hdo) (by decide))
      ·split at h
       ·have hnm:=to_name hdo
        have hmu:=hnm.trans (to_must (hnm.ok hdo) (s:=[61]) (by decide))
        split at h
        ·cases h
        ·rename_i e p' he
         have:=hmu.trans (mX_to (hmu.ok hdo) he)
         cases h;exact this.trans (to_must (this.ok hdo) (by decide))
       ·split at h
        ·cases h
        ·rename_i e p' he
         have hx:=mX_to hdo he
         split at h
         ·rename_i hs
          have hn:=hx.trans (to_sign hs.2.2 (by decide))
          split at h
          ·rename_i a r v p2 hk he2
           have:=hn.trans (mX_to (hn.ok hdo) he2)
           cases h;exact this.trans (to_must (this.ok hdo) (by decide))
          ·cases h
         ·cases h;exact hx.trans (to_must (hx.ok hdo) (by decide))
   | cond a d =>
    rw [mS] at h
    have hn:=to_next (hcond a d rfl)
    have hm:=hn.trans (to_must (hn.ok hp) (s:=[40]) (by decide))
    try simp only at h
    split at h
    ·cases h
    ·rename_i e p' he
     have hx:=hm.trans (mX_to (hm.ok hp) he)
     have hm2:=hx.trans (to_must (hx.ok hp) (s:=[41]) (by decide))
     split at h
     ·cases h
     ·rename_i b p2 hb
      have hb2:=hm2.trans (hblk _ _ _ _ (hm2.ok hp) hb)
      split at h
      ·rename_i hs
       have hn2:=hb2.trans (to_sign hs.2 (by decide))
       split at h
       ·cases h
       ·rename_i b2 p3 hb3
        cases h;exact hn2.trans (hblk _ _ _ _ (hn2.ok hp) hb3)
      ·cases h;exact hb2
  ·rw [mB] at h
   split at h
   ·split at h
    ·cases h
    ·rename_i a p' he
     have:=h1 _ _ _ _ hp (fun a d' h=>by cases h) he
     exact this.trans (h2 _ _ _ _ _ (this.ok hp) h)
   ·cases h;exact to_self hp
end Go.Sp
namespace Go.Sp
open Go.Xp
structure Fn where
 name:Str
 params:List Str
 body:Int
structure Src where
 globals:List Str
 arrays:List Ar
 fns:List Fn
 nodes:List Nd
def isExpr (k:Int):Bool:=decide ((1:Int)≤k)&&decide (k≤6)
def isStmt (k:Int):Bool:=decide ((7:Int)≤k)&&decide (k≤13)
def kindsFrom (from_:Nat):Nat→List T→Bool
 | _,[]=>true
 | i,t::r=>(if i < from_ then isExpr t.n.kind else t.n.kind==14)&&kindsFrom from_ (i+1) r
def anySign (s:Str):Bool:=levels.any fun l=>l.contains s
mutual
def sub (nodes:List Nd):Nat→Nat→Option T
 | 0,_=>none
 | f+1,a=>match nodes[a]? with
  | none=>none
  | some n=>match subs nodes f n.kids [] with
   | none=>none
   | some l=>some (.mk n l)
def subs (nodes:List Nd):Nat→List Int→List T→Option (List T)
 | _,[],acc=>some acc
 | 0,_::_,_=>none
 | f+1,k::r,acc=>if k < 0 then none else match sub nodes f k.toNat with
  | none=>none
  | some t=>subs nodes f r (acc++[t])
end
mutual
def endN (nodes:List Nd):Nat→Nat→Nat→Option Int
 | 0,_,_=>none
 | f+1,a,d=>if nodes.length≤a∨d > 800 then some (-1) else match nodes[a]? with
  | none=>none
  | some n=>endL nodes f n.kids (a+1) d
def endL (nodes:List Nd):Nat→List Int→Int→Nat→Option Int
 | _,[],next,_=>some next
 | 0,_::_,_,_=>none
 | f+1,k::r,next,d=>if k=next then match endN nodes f k.toNat (d+1) with
   | none=>none
   | some e=>if e < 0 then some (-1) else endL nodes f r e d
  else some (-1)
end
def own (n:Nd) (k:Nat) (kd:Nat→Bool) (bl:Bool):Bool :=
 if decide (n.at_ < 0) then false else if n.kind != 1&&n.n != 0 then false
 else if n.kind==1 then decide ((0:Int)≤n.n)&&(decide (n.n≤2147483647)&&(n.s==[]&&(k:Int)==0))
 else if n.kind==2 then nameOk n.s&&(k:Int)==0
 else if n.kind==3 || n.kind==7 || n.kind==13 then nameOk n.s&&((k:Int)==1&&kd 1)
 else if n.kind==4 then nameOk n.s&&kd k
 else if n.kind==5 then (n.s==[45] || n.s==[33] || n.s==[126])&&((k:Int)==1&&kd 1)
 else if n.kind==6 then anySign n.s&&((k:Int)==2&&kd 2)
 else if n.kind==8 then nameOk n.s&&((k:Int)==2&&kd 2)
 else if n.kind==9 then n.s==[]&&(((k:Int)==2 || (k:Int)==3)&&kd 1)
 else if n.kind==10 then n.s==[]&&((k:Int)==2&&kd 1)
 else if n.kind==11 || n.kind==12 then n.s==[]&&((k:Int)==1&&kd 1)
 else if n.kind==14 then bl&&n.s==[]
 else false
def ownT (t:T):Bool:=own t.n t.kids.length (fun m=>kindsFrom m 0 t.kids) (t.kids.all fun x=>isStmt x.n.kind)
mutual
def allT:T→Bool
 | .mk n l=>allTs l&&ownT (.mk n l)
def allTs:List T→Bool
 | []=>true
 | t::r=>allT t&&allTs r
end
mutual
def smT:T→Prop
 | .mk n l=>n.s.length≤1099511627776∧l.length≤1099511627776∧smTs l
def smTs:List T→Prop
 | []=>True
 | t::r=>smT t∧smTs r
end
theorem smTs_mem:∀ {l:List T} {t:T},smTs l→t∈l→smT t
 | [],_,_,h=>by cases h
 | a::r,t,h,hm=>by
  rw [smTs] at h
  rcases List.mem_cons.mp hm with rfl | hm
  ·exact h.1
  ·exact smTs_mem h.2 hm
theorem smTs_app:∀ {l:List T} {t:T},smTs l→smT t→smTs (l++[t])
 | [],t,_,ht=>⟨ht,trivial⟩
 | a::r,t,h,ht=>by
  rw [smTs] at h
  exact ⟨h.1,smTs_app h.2 ht⟩
theorem sub_sm {nodes:List Nd} (hk:∀ n∈nodes,n.s.length≤1099511627776∧n.kids.length≤1099511627776):∀ f:Nat,(∀ a t,sub nodes f a=some t→smT t)∧(∀ ks acc l,subs nodes f ks acc=some l→acc.length+ks.length=l.length∧(smTs acc→smTs l)):=by
 intro f
 induction f with
 | zero =>
  refine ⟨fun a t h=>by simp [sub] at h,fun ks acc l h=>?_⟩
  cases ks with
  | nil=>rw [subs] at h;cases h;exact ⟨by simp,id⟩
  | cons k r=>simp [subs] at h
 | succ f ih =>
  constructor
  ·intro a t h
   rw [sub] at h
   cases hn:nodes[a]? with
   | none=>rw [hn] at h;cases h
   | some n =>
   rw [hn] at h
   simp only at h
   cases hs:subs nodes f n.kids [] with
   | none=>rw [hs] at h;cases h
   | some l =>
   rw [hs] at h
   cases h
   have hi:=ih.2 _ _ _ hs
   have hb:=hk n (List.mem_of_getElem? hn)
   exact ⟨hb.1,by have:=hi.1;simp at this;omega,hi.2 trivial⟩
  ·intro ks acc l h
   cases ks with
   | nil=>rw [subs] at h;cases h;exact ⟨by simp,id⟩
   | cons k r =>
    rw [subs] at h
    by_cases hk0:k < 0
    ·rw [if_pos hk0] at h;cases h
    rw [if_neg hk0] at h
    cases hs:sub nodes f k.toNat with
    | none=>rw [hs] at h;cases h
    | some t =>
    rw [hs] at h
    simp only at h
    have h2:=ih.2 _ _ _ h
    refine ⟨by have:=h2.1;simp at this ⊢;omega,fun ha=>h2.2 (smTs_app ha (ih.1 _ _ hs))⟩
def namesOk:List Str→Bool:=fun l=>l.all nameOk
def arOk (a:Ar):Bool:=nameOk a.name&&!(decide (a.size < 0))&&!(decide (2147483647 < a.size))
def fN (nodes:List Nd):Nat:=2 * nodes.length+4
def fnsStand (nodes:List Nd):List Fn→Int→Option (Option Int)
 | [],next=>some (some next)
 | f::r,next=>match endN nodes (fN nodes) next.toNat 0 with
  | none=>none
  | some e=>if f.body≠next∨nameOk f.name=false∨e < 0 then some none else if namesOk f.params=false then some none else match sub nodes (fN nodes) next.toNat with
   | none=>none
   | some t=>if t.n.kind≠14∨allT t=false then some none else fnsStand nodes r e
def stand (p:Src):Option Bool :=
 if namesOk p.globals=false then some false else if p.arrays.all arOk=false then some false else match fnsStand p.nodes p.fns 0 with
  | none=>none
  | some none=>some false
  | some (some next)=>some (next==(p.nodes.length:Int)&&decide (next≤800))
end Go.Sp
namespace Go.Xp
theorem must_ok {e:Int} {s:Str} {ts r:List Tok} (h:must e s ts=.ok r):r=ts.tail∧sign ts 0=s:=by
 unfold must at h;split at h
 ·cases h;exact ⟨rfl,by assumption⟩
 ·cases h
theorem must_len {e:Int} {s:Str} {ts r:List Tok} (h:must e s ts=.ok r):r.length≤ts.length:=by
 rw [(must_ok h).1,List.length_tail];omega
theorem must_lt {e:Int} {s:Str} {ts r:List Tok} (hs:s≠[]) (h:must e s ts=.ok r):r.length < ts.length:=by
 obtain ⟨h1,h2⟩:=must_ok h
 rw [h1,List.length_tail]
 cases ts with
 | nil=>exact absurd h2.symm hs
 | cons=>simp
theorem sign_lt {s:Str} {ts:List Tok} (hs:s≠[]) (h:sign ts 0=s):ts.tail.length < ts.length:=by
 cases ts with
 | nil=>exact absurd h.symm hs
 | cons=>simp
theorem must_er {e:Int} {s:Str} {ts:List Tok} {x:Er} (h:must e s ts=.error x):x≠fuelOut:=by
 unfold must at h;split at h
 ·cases h
 ·cases h;intro h0;cases h0
theorem name_len {e:Int} {s:Str} {ts r:List Tok} (h:name e ts=.ok (s,r)):r.length < ts.length:=by
 unfold name at h;split at h
 ·cases h
 ·split at h
  ·split at h
   ·cases h
   ·cases h;simp
  ·cases h
theorem name_er {e:Int} {ts:List Tok} {x:Er} (h:name e ts=.error x):x≠fuelOut:=by
 unfold name at h;split at h
 ·cases h;intro h0;cases h0
 ·split at h
  ·split at h <;> cases h
   intro h0;cases h0
  ·cases h;intro h0;cases h0
def need:Job→Nat→Nat
 | .operand _,n=>20 * n+1
 | .loop _ _ _,n=>20 * n+1
 | .level k _,n=>20 * n+2+(9 - k)
 | .expr _,n=>20 * n+12
def needA (acc:List T) (n:Nat):Nat:=match acc with | []=>20 * n+14 | _=>20 * n+1
def jobOk:Job→Prop
 | .level k _=>k≤9
 | .loop k _ _=>k < 9
 | _=>True
def good (e:Int) (f:Nat) (j:Job) (ts:List Tok):Prop :=
 jobOk j→(∀ t r,rd e f j ts=.ok (t,r)→r.length≤ts.length)∧(need j ts.length≤f→rd e f j ts≠.error fuelOut)
def goodA (e:Int) (f deep:Nat) (acc:List T) (ts:List Tok):Prop :=
 (∀ t r,rd.args e f deep acc ts=.ok (t,r)→r.length≤ts.length)∧(needA acc ts.length≤f→rd.args e f deep acc ts≠.error fuelOut)
theorem er7 {a:Int}:((7,a):Er)≠fuelOut:=by intro h;cases h
theorem er9 {a:Int}:((9,a):Er)≠fuelOut:=by intro h;cases h
theorem rd_good (e:Int):∀ f,(∀ j ts,good e f j ts)∧(∀ deep acc ts,goodA e f deep acc ts)
 | 0=>by
  refine ⟨fun j ts _=>⟨fun t r h=>?_,fun h=>?_⟩,fun deep acc ts=>⟨fun t r h=>?_,fun h=>?_⟩⟩
  ·rw [rd] at h;cases h
  ·cases j <;> simp only [need] at h <;> omega
  ·rw [rd.args] at h;cases h
  ·unfold needA at h;split at h <;> omega
 | f+1=>by
  obtain ⟨ih,iha⟩:=rd_good e f
  constructor
  ·intro j ts hj
   cases j with
   | expr deep =>
    obtain ⟨h1,h2⟩:=ih (.level 0 (deep+1)) ts (Nat.zero_le _)
    rw [rd]
    split
    ·exact ⟨fun t r h=>(by cases h),fun _ h=>(by cases h)⟩
    ·exact ⟨h1,fun h=>h2 (by simp only [need] at h ⊢;omega)⟩
   | level k deep =>
    have hj:k≤9:=hj
    rw [rd]
    split
    ·obtain ⟨h1,h2⟩:=ih (.operand deep) ts trivial
     exact ⟨h1,fun h=>h2 (by simp only [need] at h ⊢;omega)⟩
    ·obtain ⟨h1,h2⟩:=ih (.level (k+1) deep) ts (by show k+1≤9;omega)
     split
     ·rename_i x hx
      exact ⟨fun t r h=>(by cases h),fun h h0=>h2 (by simp only [need] at h ⊢;omega) (hx.trans h0)⟩
     ·rename_i out ts' hx
      obtain ⟨h3,h4⟩:=ih (.loop k deep out) ts' (by show k < 9;omega)
      have:=h1 _ _ hx
      exact ⟨fun t r h=>Nat.le_trans (h3 t r h) this,fun h=>h4 (by simp only [need] at h ⊢;omega)⟩
   | loop k deep out =>
    have hj:k < 9:=hj
    cases ts with
    | nil=>rw [rd];exact ⟨fun t r h=>(by cases h;exact Nat.le_refl _),fun _ h=>(by cases h)⟩
    | cons t0 r0 =>
     rw [rd]
     split
     ·obtain ⟨h1,h2⟩:=ih (.level (k+1) deep) r0 (by show k+1≤9;omega)
      split
      ·rename_i x hx
       exact ⟨fun t r h=>(by cases h),fun h h0=>h2 (by simp only [need,List.length_cons] at h ⊢;omega) (hx.trans h0)⟩
      ·rename_i b r hx
       obtain ⟨h3,h4⟩:=ih (.loop k deep (one 6 t0.at_ t0.s [out,b])) r hj
       have:=h1 _ _ hx
       exact ⟨fun t r h=>by have:=h3 t r h;simp only [List.length_cons];omega,fun h=>h4 (by simp only [need,List.length_cons] at h ⊢;omega)⟩
     ·exact ⟨fun t r h=>(by cases h;exact Nat.le_refl _),fun _ h=>(by cases h)⟩
   | operand deep =>
    cases ts with
    | nil=>rw [rd];split <;> exact ⟨fun t r h=>(by cases h),fun _ h=>(by cases h)⟩
    | cons t0 r0 =>
    rw [rd]
    split
    ·exact ⟨fun t r h=>(by cases h),fun _ h=>(by cases h)⟩
    split
    ·split
     ·obtain ⟨h1,h2⟩:=ih (.operand (deep+1)) r0 trivial
      split
      ·rename_i x hx
       exact ⟨fun t r h=>(by cases h),fun h h0=>h2 (by simp only [need,List.length_cons] at h ⊢;omega) (hx.trans h0)⟩
      ·rename_i a r hx
       have:=h1 _ _ hx
       exact ⟨fun t r h=>(by cases h;simp only [List.length_cons];omega),fun _ h=>(by cases h)⟩
     split
     ·obtain ⟨h1,h2⟩:=ih (.expr (deep+1)) r0 trivial
      split
      ·rename_i x hx
       exact ⟨fun t r h=>(by cases h),fun h h0=>h2 (by simp only [need,List.length_cons] at h ⊢;omega) (hx.trans h0)⟩
      ·rename_i a r hx
       have:=h1 _ _ hx
       split
       ·rename_i x hm
        exact ⟨fun t r h=>(by cases h),fun _ h=>must_er hm (by cases h;rfl)⟩
       ·rename_i r' hm
        have:=must_len hm
        exact ⟨fun t r h=>(by cases h;simp only [List.length_cons];omega),fun _ h=>(by cases h)⟩
     ·exact ⟨fun t r h=>(by cases h),fun _ h=>(by cases h)⟩
    split
    ·exact ⟨fun t r h=>(by cases h;simp),fun _ h=>(by cases h)⟩
    split
    ·rename_i x hm
     exact ⟨fun t r h=>(by cases h),fun _ h=>name_er hm (by cases h;rfl)⟩
    ·rename_i s r hn
     have hl:=name_len hn
     simp only [List.length_cons] at hl
     have hlt:r.tail.length≤r.length:=by simp
     split
     ·obtain ⟨h1,h2⟩:=ih (.expr (deep+1)) r.tail trivial
      split
      ·rename_i x hx
       exact ⟨fun t r h=>(by cases h),fun h h0=>h2 (by simp only [need,List.length_cons] at h ⊢;omega) (hx.trans h0)⟩
      ·rename_i a r' hx
       have:=h1 _ _ hx
       split
       ·rename_i x hm
        exact ⟨fun t r h=>(by cases h),fun _ h=>must_er hm (by cases h;rfl)⟩
       ·rename_i r'' hm
        have:=must_len hm
        exact ⟨fun t r h=>(by cases h;simp only [List.length_cons];omega),fun _ h=>(by cases h)⟩
     split
     ·obtain ⟨h1,h2⟩:=iha (deep+1) [] r.tail
      split
      ·rename_i x hx
       exact ⟨fun t r h=>(by cases h),fun h h0=>h2 (by simp only [need,needA,List.length_cons] at h ⊢;omega) (hx.trans (by cases h0;rfl))⟩
      ·rename_i a r' hx
       have:=h1 _ _ hx
       exact ⟨fun t r h=>(by cases h;simp only [List.length_cons];omega),fun _ h=>(by cases h)⟩
     ·exact ⟨fun t r h=>(by cases h;simp only [List.length_cons];omega),fun _ h=>(by cases h)⟩
  ·intro deep acc ts
   unfold goodA
   rw [rd.args]
   split
   ·exact ⟨fun t r h=>(by cases h;simp),fun _ h=>(by cases h)⟩
   ·by_cases hacc:acc=[]
    ·subst hacc
     simp only [if_true]
     obtain ⟨h1,h2⟩:=ih (.expr deep) ts trivial
     split
     ·rename_i x hx
      exact ⟨fun t r h=>(by cases h),fun h h0=>h2 (by simp only [need,needA] at h ⊢;omega) (hx.trans (by cases h0;rfl))⟩
     ·rename_i a r hx
      have:=h1 _ _ hx
      obtain ⟨h3,h4⟩:=iha deep ([]++[a]) r
      exact ⟨fun t r h=>by have:=h3 t r h;omega,fun h=>h4 (by simp only [List.nil_append,needA] at h ⊢;omega)⟩
    ·rw [if_neg hacc]
     have hna:∀ n,needA acc n=20 * n+1:=by cases acc with | nil=>exact absurd rfl hacc | cons=>exact fun _=>rfl
     split
     ·rename_i x hm
      exact ⟨fun t r h=>(by cases h),fun _ h=>must_er hm (by cases h;rfl)⟩
     ·rename_i ts' hm
      have hlt:=must_lt (by decide) hm
      obtain ⟨h1,h2⟩:=ih (.expr deep) ts' trivial
      split
      ·rename_i x hx
       exact ⟨fun t r h=>(by cases h),fun h h0=>h2 (by simp only [need,hna] at h ⊢;omega) (hx.trans (by cases h0;rfl))⟩
      ·rename_i a r hx
       have:=h1 _ _ hx
       obtain ⟨h3,h4⟩:=iha deep (acc++[a]) r
       have hna':needA (acc++[a]) r.length=20 * r.length+1:=by
        cases acc with
        | nil=>exact absurd rfl hacc
        | cons=>rfl
       exact ⟨fun t r h=>by have:=h3 t r h;omega,fun h=>h4 (by rw [hna'] ;simp only [hna] at h;omega)⟩
theorem rd_len {e:Int} {f:Nat} {j:Job} {ts:List Tok} {t:T} {r:List Tok} (hj:jobOk j) (h:rd e f j ts=.ok (t,r)):r.length≤ts.length:=((rd_good e f).1 j ts hj).1 t r h
theorem rd_fuel {e:Int} {f:Nat} {j:Job} {ts:List Tok} (hj:jobOk j) (h:need j ts.length≤f):rd e f j ts≠.error fuelOut:=((rd_good e f).1 j ts hj).2 h
theorem expr_fuel {e:Int} {deep:Nat} {ts:List Tok}:expr e deep ts≠.error fuelOut:=rd_fuel (j:=.expr deep) trivial (by simp only [need,fuelOf];omega)
theorem expr_len {e:Int} {deep:Nat} {ts:List Tok} {t:T} {r:List Tok} (h:expr e deep ts=.ok (t,r)):r.length≤ts.length:=rd_len (j:=.expr deep) trivial h
end Go.Xp
namespace Go.Xp
theorem inner_ok {e:Int} {deep:Nat} {a b:Str} {ts r:List Tok} {t:T} (ha:a≠[]) (h:inner e deep a b ts=.ok (t,r)):r.length < ts.length:=by
 unfold inner at h
 split at h
 ·cases h
 ·rename_i t1 h1
  split at h
  ·cases h
  ·rename_i a1 t2 h2
   split at h
   ·cases h
   ·rename_i t3 h3
    cases h
    have:=must_lt ha h1
    have:=expr_len h2
    have:=must_len h3
    omega
theorem inner_er {e:Int} {deep:Nat} {a b:Str} {ts:List Tok} {x:Er} (h:inner e deep a b ts=.error x):x≠fuelOut:=by
 unfold inner at h
 split at h
 ·rename_i h1;cases h;exact must_er h1
 ·split at h
  ·rename_i x2 h2;cases h;intro h0;exact expr_fuel (h2.trans (by rw [h0]))
  ·split at h
   ·rename_i h3;cases h;exact must_er h3
   ·cases h
theorem setTo_ok {e:Int} {deep:Nat} {ts r:List Tok} {t:Str × T} (h:setTo e deep ts=.ok (t,r)):r.length < ts.length:=by
 unfold setTo at h
 split at h
 ·cases h
 ·rename_i s t1 h1
  split at h
  ·cases h
  ·rename_i a t2 h2
   cases h
   have:=name_len h1
   have:=inner_ok (by decide) h2
   omega
theorem setTo_er {e:Int} {deep:Nat} {ts:List Tok} {x:Er} (h:setTo e deep ts=.error x):x≠fuelOut:=by
 unfold setTo at h
 split at h
 ·rename_i h1;cases h;exact name_er h1
 ·split at h
  ·rename_i h2;cases h;exact inner_er h2
  ·cases h
theorem expr_er' {e:Int} {deep:Nat} {ts:List Tok} {x:Er} (h:expr e deep ts=.error x):x≠fuelOut:=fun h0=>expr_fuel (h.trans (by rw [h0]))
theorem simple_ok {e:Int} {deep:Nat} {ts r:List Tok} {t:T} (h:simple e deep ts=.ok (t,r)):r.length < ts.length:=by
 unfold simple at h
 split at h
 ·split at h <;> cases h
 ·rename_i t0 r0
  split at h
  ·split at h
   ·cases h
   ·rename_i s a t1 h1;cases h;exact setTo_ok h1
  ·split at h
   ·cases h
   ·rename_i a t1 h1
    have:=expr_len h1
    split at h
    ·split at h
     ·cases h
     ·rename_i v t2 h2;cases h;have:=inner_ok (by decide) h2;omega
    ·split at h
     ·cases h
     ·rename_i t2 h2;cases h;have:=must_lt (by decide) h2;omega
theorem simple_er {e:Int} {deep:Nat} {ts:List Tok} {x:Er} (h:simple e deep ts=.error x):x≠fuelOut:=by
 unfold simple at h
 split at h
 ·split at h
  ·rename_i h1;cases h;exact expr_er' h1
  ·cases h;exact er7
 ·split at h
  ·split at h
   ·rename_i h1;cases h;exact setTo_er h1
   ·cases h
  ·split at h
   ·rename_i h1;cases h;exact expr_er' h1
   ·split at h
    ·split at h
     ·rename_i h2;cases h;exact inner_er h2
     ·cases h
    ·split at h
     ·rename_i h2;cases h;exact must_er h2
     ·cases h
def goodS (e:Int) (f:Nat) (j:SJob) (ts:List Tok):Prop :=
 (∀ t r,rs e f j ts=.ok (t,r)→r.length < ts.length)∧(3 * ts.length+1≤f→rs e f j ts≠.error fuelOut)
def goodB (e:Int) (f deep:Nat) (acc:List T) (ts:List Tok):Prop :=
 (∀ t r,rs.body e f deep acc ts=.ok (t,r)→r.length < ts.length)∧(3 * ts.length+2≤f→rs.body e f deep acc ts≠.error fuelOut)
theorem rs_good (e:Int):∀ f,(∀ j ts,goodS e f j ts)∧(∀ deep acc ts,goodB e f deep acc ts)
 | 0=>by
  refine ⟨fun j ts=>⟨fun t r h=>?_,fun h=>by omega⟩,fun deep acc ts=>⟨fun t r h=>?_,fun h=>by omega⟩⟩
  ·rw [rs] at h;cases h
  ·rw [rs.body] at h;cases h
 | f+1=>by
  obtain ⟨ih,iha⟩:=rs_good e f
  constructor
  ·intro j ts
   unfold goodS
   cases j with
   | block deep =>
    rw [rs]
    split
    ·exact ⟨fun t r h=>(by cases h),fun _ h=>(by cases h)⟩
    ·split
     ·rename_i x hm
      exact ⟨fun t r h=>(by cases h),fun _ h=>must_er hm (by cases h;rfl)⟩
     ·rename_i r0 hm
      have h0:=must_lt (by decide) hm
      obtain ⟨h1,h2⟩:=iha (deep+1) [] r0
      split
      ·rename_i x hx
       exact ⟨fun t r h=>(by cases h),fun h h0=>h2 (by omega) (hx.trans (by cases h0;rfl))⟩
      ·rename_i l r hx
       have:=h1 _ _ hx
       exact ⟨fun t r h=>(by cases h;omega),fun _ h=>(by cases h)⟩
   | stmt deep =>
    rw [rs]
    split
    ·exact ⟨fun t r h=>(by cases h),fun _ h=>(by cases h)⟩
    ·simp only
     split
     ·rename_i hv
      have h0:=sign_lt (by decide) hv
      split
      ·rename_i x hx
       exact ⟨fun t r h=>(by cases h),fun _ h=>setTo_er hx (by cases h;rfl)⟩
      ·rename_i s a t1 hx
       have:=setTo_ok hx
       exact ⟨fun t r h=>(by cases h;omega),fun _ h=>(by cases h)⟩
     split
     ·rename_i hv
      have h0:ts.tail.length < ts.length:=by
       rcases hv with hv | hv <;> exact sign_lt (by decide) hv
      split
      ·rename_i x hx
       exact ⟨fun t r h=>(by cases h),fun _ h=>inner_er hx (by cases h;rfl)⟩
      ·rename_i c r1 hx
       have hc:=inner_ok (by decide) hx
       obtain ⟨h1,h2⟩:=ih (.block (deep+1)) r1
       split
       ·rename_i x hx2
        exact ⟨fun t r h=>(by cases h),fun h h0=>h2 (by omega) (hx2.trans h0)⟩
       ·rename_i b r2 hx2
        have hb:=h1 _ _ hx2
        split
        ·split
         ·obtain ⟨h3,h4⟩:=ih (.block (deep+1)) r2.tail
          have ht:r2.tail.length≤r2.length:=by simp
          split
          ·rename_i x hx3
           exact ⟨fun t r h=>(by cases h),fun h h0=>h4 (by omega) (hx3.trans h0)⟩
          ·rename_i b2 r3 hx3
           have:=h3 _ _ hx3
           exact ⟨fun t r h=>(by cases h;omega),fun _ h=>(by cases h)⟩
         ·exact ⟨fun t r h=>(by cases h;omega),fun _ h=>(by cases h)⟩
        ·exact ⟨fun t r h=>(by cases h;omega),fun _ h=>(by cases h)⟩
     split
     ·rename_i hv
      have h0:=sign_lt (by decide) hv
      split
      ·rename_i x hx
       exact ⟨fun t r h=>(by cases h),fun _ h=>expr_er' hx (by cases h;rfl)⟩
      ·rename_i a r1 hx
       have:=expr_len hx
       split
       ·rename_i x hm
        exact ⟨fun t r h=>(by cases h),fun _ h=>must_er hm (by cases h;rfl)⟩
       ·rename_i r2 hm
        have:=must_len hm
        exact ⟨fun t r h=>(by cases h;omega),fun _ h=>(by cases h)⟩
     ·exact ⟨fun t r h=>simple_ok h,fun _ h=>simple_er h rfl⟩
  ·intro deep acc ts
   unfold goodB
   rw [rs.body]
   split
   ·rename_i hv
    have h0:=sign_lt (by decide) hv
    exact ⟨fun t r h=>(by cases h;exact h0),fun _ h=>(by cases h)⟩
   ·obtain ⟨h1,h2⟩:=ih (.stmt deep) ts
    split
    ·rename_i x hx
     exact ⟨fun t r h=>(by cases h),fun h h0=>h2 (by omega) (hx.trans (by cases h0;rfl))⟩
    ·rename_i a r hx
     have:=h1 _ _ hx
     obtain ⟨h3,h4⟩:=iha deep (acc++[a]) r
     exact ⟨fun t r h=>by have:=h3 t r h;omega,fun h=>h4 (by omega)⟩
theorem rs_len {e:Int} {f:Nat} {j:SJob} {ts:List Tok} {t:T} {r:List Tok} (h:rs e f j ts=.ok (t,r)):r.length < ts.length:=((rs_good e f).1 j ts).1 t r h
theorem block_fuel {e:Int} {deep:Nat} {ts:List Tok}:block e deep ts≠.error fuelOut:=((rs_good e _).1 (.block deep) ts).2 (by simp only [fuelOf];omega)
theorem block_len {e:Int} {deep:Nat} {ts:List Tok} {t:T} {r:List Tok} (h:block e deep ts=.ok (t,r)):r.length < ts.length:=rs_len h
end Go.Xp
namespace Go.Sp
open Go.Xp
structure On (p:RS) (ts:List Tok):Prop where
 code:p.code=0
 le:p.i≤p.l.length
 rest:p.l.drop p.i=ts
 kinds:∀ t∈p.l,t.kind=1∨t.kind=2∨t.kind=3
def Aft (p q:RS):Except Er (List Tok)→Prop
 | .ok r=>On q r∧q.l=p.l∧q.e=p.e
 | .error x=>q.code=x.1∧x.1≠0∧q.at_=x.2∧q.l=p.l∧q.e=p.e
def Res {α:Type} (p q:RS) (t:α):Rd α→Prop
 | .ok (t',r)=>t=t'∧Aft p q (.ok r)
 | .error x=>Aft p q (.error x)
section
variable {p q q':RS} {ts r:List Tok} {x:Er}
theorem Aft.err (h:Aft p q (.error x)):q.code≠0:=by rw [h.1];exact h.2.1
theorem Aft.tr {y:Except Er (List Tok)} (h:Aft p q (.ok r)) (k:Aft q q' y):Aft p q' y:=by
 obtain ⟨_,h1,h2⟩:=h
 cases y with
 | ok r=>exact ⟨k.1,k.2.1.trans h1,k.2.2.trans h2⟩
 | error x=>exact ⟨k.1,k.2.1,k.2.2.1,k.2.2.2.1.trans h1,k.2.2.2.2.trans h2⟩
theorem Res.tr {α:Type} {t:α} {y:Rd α} (h:Aft p q (.ok r)) (k:Res q q' t y):Res p q' t y:=by
 cases y with
 | ok r=>obtain ⟨t',r⟩:=r;exact ⟨k.1,h.tr k.2⟩
 | error x=>exact h.tr (y:=.error x) k
theorem On.self (h:On p ts):Aft p p (.ok ts):=⟨h,rfl,rfl⟩
theorem On.at (h:On p ts) (k:Nat):p.l[p.i+k]?=ts[k]?:=by rw [←h.rest,List.getElem?_drop]
theorem On.sign (h:On p ts) (k:Nat):p.sign k=Go.Xp.sign ts k:=by
 unfold RS.sign Go.Xp.sign
 rw [if_pos h.code,h.at]
 all_goals (cases ts[k]? <;> rfl)
theorem On.place (h:On p ts):p.place=Go.Xp.place p.e ts:=by
 have h0:=h.at 0
 unfold RS.place
 rw [Nat.add_zero] at h0;rw [h0]
 cases ts with
 | nil=>rfl
 | cons t r=>rfl
theorem On.next {t:Tok} (h:On p (t::r)):Aft p p.next (.ok r):=by
 have h1:p.i < p.l.length:=by
  have:=congrArg List.length h.rest
  simp at this;omega
 refine ⟨⟨h.code,h1,?_,h.kinds⟩,rfl,rfl⟩
 show p.l.drop (p.i+1)=r
 rw [←List.tail_drop,h.rest];rfl
theorem On.fail (h:On p ts) (c a:Int) (hc:c≠0):Aft p (p.fail c a) (.error (c,a)):=by
 unfold RS.fail
 rw [if_pos h.code]
 exact ⟨rfl,hc,rfl,rfl,rfl⟩
theorem fail_err (h:p.code≠0) (c a:Int):p.fail c a=p:=by unfold RS.fail;rw [if_neg h]
theorem sign_err (h:p.code≠0) (k:Nat):p.sign k=[]:=by unfold RS.sign;rw [if_neg h]
theorem must_err (h:p.code≠0) {s:Str} (hs:s≠[]):p.must s=p:=by
 unfold RS.must
 rw [sign_err h,if_neg (fun e=>hs e.symm),fail_err h]
theorem deep_err (h:p.code≠0) (d:Nat):p.deep d=p:=by unfold RS.deep;split <;> simp [fail_err h]
theorem sign_cons {s:Str} (hs:s≠[]) (h:Go.Xp.sign ts 0=s):∃ t,ts=t::ts.tail∧t.kind=3∧t.s=s:=by
 cases ts with
 | nil=>exact absurd h.symm hs
 | cons t r =>
  refine ⟨t,rfl,?_⟩
  simp only [Go.Xp.sign,List.getElem?_cons_zero,signOf] at h
  split at h
  ·exact ⟨by assumption,h⟩
  ·exact absurd h.symm hs
theorem On.must (h:On p ts) {s:Str} (hs:s≠[]):Aft p (p.must s) (Go.Xp.must p.e s ts):=by
 unfold RS.must Go.Xp.must
 rw [h.sign]
 by_cases h0:Go.Xp.sign ts 0=s
 ·rw [if_pos h0,if_pos h0]
  obtain ⟨t,ht,_⟩:=sign_cons hs h0
  rw [ht] at h
  exact h.next
 ·rw [if_neg h0,if_neg h0,h.place]
  exact h.fail 7 _ (by decide)
theorem On.name (h:On p ts):Res p p.name.2 p.name.1 (Go.Xp.name p.e ts)∨∃ x,Go.Xp.name p.e ts=.error x∧Aft p p.name.2 (.error x):=by
 have h0:=h.at 0
 rw [Nat.add_zero] at h0
 unfold RS.name
 rw [if_pos h.code,h0]
 cases ts with
 | nil=>exact .inr ⟨_,rfl,by rw [h.place];exact h.fail 7 _ (by decide)⟩
 | cons t r =>
  simp only [List.getElem?_cons_zero,Go.Xp.name]
  split
  ·split
   ·exact .inr ⟨_,rfl,h.fail 8 _ (by decide)⟩
   ·exact .inl ⟨rfl,h.next⟩
  ·refine .inr ⟨_,rfl,?_⟩
   have:p.place=t.at_:=h.place
   rw [this];exact h.fail 7 _ (by decide)
end
theorem jE_err {p:RS} (h:p.code≠0):(∀ g d,1≤g→mE g (.operand d) p=some (T.zero,p))∧(∀ g k d out,1≤g→mE g (.loop k d out) p=some (out,p))∧(∀ n g k d,k+n=9→n+2≤g→mE g (.level k d) p=some (T.zero,p)):=by
 have h1:∀ g d,1≤g→mE g (.operand d) p=some (T.zero,p):=by
  intro g d hg
  cases g with
  | zero=>omega
  | succ g=>rw [mE];simp [deep_err h,h,fail_err h]
 have h2:∀ g k d out,1≤g→mE g (.loop k d out) p=some (out,p):=by
  intro g k d out hg
  cases g with
  | zero=>omega
  | succ g=>rw [mE];simp [h]
 refine ⟨h1,h2,fun n=>?_⟩
 induction n with
 | zero =>
  intro g k d hk hg
  cases g with
  | zero=>omega
  | succ g=>rw [mE,if_pos (by omega)];exact h1 g _ (by omega)
 | succ n ih =>
  intro g k d hk hg
  cases g with
  | zero=>omega
  | succ g =>
   rw [mE,if_neg (by omega),ih g (k+1) d (by omega) (by omega)]
   exact h2 g _ _ _ (by omega)
theorem mE_err {p:RS} (h:p.code≠0) {g d:Nat} (hg:12≤g):mE g (.expr d) p=some (T.zero,p):=by
 cases g with
 | zero=>omega
 | succ g=>rw [mE,deep_err h];exact (jE_err h).2.2 9 g 0 d rfl (by omega)
def KF (f:Nat):Nat:=2 * f+20
structure JE (f:Nat):Prop where
 expr:∀ d ts p,On p ts→rd p.e f (.expr d) ts≠.error fuelOut→∃ t q,(∀ g,KF f≤g→mE g (.expr d) p=some (t,q))∧Res p q t (rd p.e f (.expr d) ts)
 level:∀ k d ts p,k≤9→On p ts→rd p.e f (.level k (d+1)) ts≠.error fuelOut→∃ t q,(∀ g,KF f≤g→mE g (.level k d) p=some (t,q))∧Res p q t (rd p.e f (.level k (d+1)) ts)
 loop:∀ k d out ts p,k < 9→On p ts→rd p.e f (.loop k (d+1) out) ts≠.error fuelOut→∃ t q,(∀ g,KF f≤g→mE g (.loop k d out) p=some (t,q))∧Res p q t (rd p.e f (.loop k (d+1) out) ts)
 operand:∀ d ts p,On p ts→rd p.e f (.operand d) ts≠.error fuelOut→∃ t q,(∀ g,KF f≤g→mE g (.operand d) p=some (t,q))∧Res p q t (rd p.e f (.operand d) ts)
 args:∀ d acc ts p,acc≠[]→On p ts→rd.args p.e f d acc ts≠.error fuelOut→∃ t q,(∀ g,KF f≤g→mLs g d acc p=some (t,q))∧Res p q t (rd.args p.e f d acc ts)
 args0:∀ d ts p,On p ts→rd.args p.e f d [] ts≠.error fuelOut→∃ t q,(∀ g,KF f≤g→mL g d p=some (t,q))∧Res p q t (rd.args p.e f d [] ts)
theorem nil_levels:∀ k,(levels.getD k []).contains []=false:=by
 intro k
 have h:∀ l∈levels,l.contains ([]:Str)=false:=by decide
 rw [List.getD_eq_getElem?_getD]
 cases hk:levels[k]? with
 | none=>rfl
 | some l=>exact h l (List.mem_of_getElem? hk)
theorem up {f g:Nat} (h:KF (f+1)≤g):∃ g',g=g'+1∧KF f+1≤g':=⟨g - 1,by unfold KF at h;omega,by unfold KF at *;omega⟩
theorem je (f:Nat):JE f:=by
 induction f with
 | zero =>
  refine ⟨fun d ts p _ h=>absurd ?_ h,fun k d ts p _ _ h=>absurd ?_ h,fun k d out ts p _ _ h=>absurd ?_ h,fun d ts p _ h=>absurd ?_ h,fun d acc ts p _ _ h=>absurd ?_ h,fun d ts p _ h=>absurd ?_ h⟩ <;> simp [rd,rd.args]
 | succ f C =>
  refine ⟨fun d ts p hp h=>?_,fun k d ts p hk hp h=>?_,fun k d out ts p hk hp h=>?_,fun d ts p hp h=>?_,fun d acc ts p hacc hp h=>?_,fun d ts p hp h=>?_⟩
  ·rw [rd] at h ⊢
   by_cases hd:d > 60
   ·rw [if_pos hd] at h ⊢
    have hf:=hp.fail 9 p.place (by decide)
    refine ⟨T.zero,p.fail 9 p.place,fun g hg=>?_,by rw [←hp.place];exact hf⟩
    obtain ⟨g,rfl,hg⟩:=up hg
    rw [mE];unfold RS.deep;rw [if_pos hd]
    exact (jE_err hf.err).2.2 9 g 0 d rfl (by unfold KF at hg;omega)
   ·rw [if_neg hd] at h ⊢
    obtain ⟨t,q,h1,h2⟩:=C.level 0 d ts p (by omega) hp h
    refine ⟨t,q,fun g hg=>?_,h2⟩
    obtain ⟨g,rfl,hg⟩:=up hg
    rw [mE];unfold RS.deep;rw [if_neg hd]
    exact h1 g (by omega)
  ·rw [rd] at h ⊢
   by_cases h9:k=9
   ·rw [if_pos h9] at h ⊢
    obtain ⟨t,q,h1,h2⟩:=C.operand (d+1) ts p hp h
    refine ⟨t,q,fun g hg=>?_,h2⟩
    obtain ⟨g,rfl,hg⟩:=up hg
    rw [mE,if_pos h9]
    exact h1 g (by omega)
   ·rw [if_neg h9] at h ⊢
    cases he:rd p.e f (.level (k+1) (d+1)) ts with
    | error x =>
     rw [he] at h
     have hx:x≠fuelOut:=fun h0=>h (by rw [h0])
     obtain ⟨t,q,h1,h2⟩:=C.level (k+1) d ts p (by omega) hp (by rw [he];intro h0;cases h0;exact hx rfl)
     rw [he] at h2
     refine ⟨t,q,fun g hg=>?_,h2⟩
     obtain ⟨g,rfl,hg⟩:=up hg
     rw [mE,if_neg h9,h1 g (by omega)]
     exact (jE_err (Aft.err h2)).2.1 g _ _ _ (by unfold KF at hg;omega)
    | ok r =>
     obtain ⟨t',r⟩:=r
     rw [he] at h
     simp only at h ⊢
     obtain ⟨t,q,h1,h2⟩:=C.level (k+1) d ts p (by omega) hp (by rw [he];intro h0;cases h0)
     rw [he] at h2
     obtain ⟨rfl,h2⟩:=h2
     rw [←h2.2.2] at h ⊢
     obtain ⟨t3,q3,h3,h4⟩:=C.loop k d t r q (by omega) h2.1 h
     refine ⟨t3,q3,fun g hg=>?_,Res.tr h2 h4⟩
     obtain ⟨g,rfl,hg⟩:=up hg
     rw [mE,if_neg h9,h1 g (by omega)]
     exact h3 g (by omega)
  ·cases ts with
   | nil =>
    rw [rd]
    refine ⟨out,p,fun g hg=>?_,rfl,hp.self⟩
    obtain ⟨g,rfl,hg⟩:=up hg
    rw [mE,if_neg]
    rw [hp.sign];rintro ⟨_,h0⟩
    rw [show sign ([]:List Tok) 0=[] from rfl,nil_levels] at h0;cases h0
   | cons t r =>
    rw [rd] at h ⊢
    have hs:p.sign 0=signOf t:=hp.sign 0
    by_cases hc:t.kind=3∧t.s∈levels.getD k []
    ·rw [if_pos hc] at h ⊢
     have hn:=hp.next
     have hpt:p.l[p.i]?=some t:=hp.at 0
     have hcond:p.code=0∧(levels.getD k []).contains (p.sign 0)=true:=⟨hp.code,by rw [hs];unfold signOf;rw [if_pos hc.1];simpa using hc.2⟩
     rw [show p.e=p.next.e from rfl] at h ⊢
     cases he:rd p.next.e f (.level (k+1) (d+1)) r with
     | error x =>
      rw [he] at h
      have hx:x≠fuelOut:=fun h0=>h (by rw [h0])
      obtain ⟨b,q,h1,h2⟩:=C.level (k+1) d r p.next (by omega) hn.1 (by rw [he];intro h0;cases h0;exact hx rfl)
      rw [he] at h2
      refine ⟨one 6 t.at_ t.s [out,b],q,fun g hg=>?_,hn.tr (y:=.error x) h2⟩
      obtain ⟨g,rfl,hg⟩:=up hg
      rw [mE,if_pos hcond,hpt]
      simp only
      rw [h1 g (by omega)]
      exact (jE_err (Aft.err h2)).2.1 g _ _ _ (by unfold KF at hg;omega)
     | ok x =>
      obtain ⟨b',r'⟩:=x
      rw [he] at h
      simp only at h ⊢
      obtain ⟨b,q,h1,h2⟩:=C.level (k+1) d r p.next (by omega) hn.1 (by rw [he];intro h0;cases h0)
      rw [he] at h2
      obtain ⟨rfl,h2⟩:=h2
      rw [←h2.2.2] at h ⊢
      obtain ⟨t3,q3,h3,h4⟩:=C.loop k d (one 6 t.at_ t.s [out,b]) r' q hk h2.1 h
      refine ⟨t3,q3,fun g hg=>?_,Res.tr (hn.tr h2) h4⟩
      obtain ⟨g,rfl,hg⟩:=up hg
      rw [mE,if_pos hcond,hpt]
      simp only
      rw [h1 g (by omega)]
      exact h3 g (by omega)
    ·rw [if_neg hc]
     refine ⟨out,p,fun g hg=>?_,rfl,hp.self⟩
     obtain ⟨g,rfl,hg⟩:=up hg
     rw [mE,if_neg]
     rintro ⟨_,h0⟩
     rw [hs] at h0
     unfold signOf at h0
     split at h0
     ·rename_i h3;exact hc ⟨h3,by simpa using h0⟩
     ·rw [nil_levels] at h0;cases h0
  ·rw [rd.eq_def] at h ⊢
   simp only at h ⊢
   by_cases hd:d > 60
   ·rw [if_pos hd] at h ⊢
    have hf:=hp.fail 9 p.place (by decide)
    refine ⟨T.zero,p.fail 9 p.place,fun g hg=>?_,by rw [←hp.place];exact hf⟩
    obtain ⟨g,rfl,hg⟩:=up hg
    rw [mE];unfold RS.deep;rw [if_pos hd]
    simp [hf.err,fail_err hf.err]
   ·rw [if_neg hd] at h ⊢
    have hdp:p.deep d=p:=by unfold RS.deep;rw [if_neg hd]
    cases ts with
    | nil =>
     simp only
     have h0:p.l[p.i]?=none:=hp.at 0
     refine ⟨T.zero,p.fail 7 p.place,fun g hg=>?_,?_⟩
     ·obtain ⟨g,rfl,hg⟩:=up hg
      rw [mE];simp [hdp,hp.code,h0]
     ·rw [hp.place];exact hp.fail 7 _ (by decide)
    | cons t r =>
     simp only at h ⊢
     have hpt:p.l[p.i]?=some t:=hp.at 0
     have hn:=hp.next
     by_cases h3:t.kind=3
     ·rw [if_pos h3] at h ⊢
      have h31:¬ t.kind=1:=by omega
      have h32:¬ t.kind=2:=by omega
      by_cases hu:t.s=[45]∨t.s=[33]∨t.s=[126]
      ·rw [if_pos hu] at h ⊢
       rw [show p.e=p.next.e from rfl] at h ⊢
       cases he:rd p.next.e f (.operand (d+1)) r with
       | error x =>
        rw [he] at h
        have hx:x≠fuelOut:=fun h0=>h (by rw [h0])
        obtain ⟨b,q,h1,h2⟩:=C.operand (d+1) r p.next hn.1 (by rw [he];intro h0;cases h0;exact hx rfl)
        rw [he] at h2
        refine ⟨one 5 t.at_ t.s [b],q,fun g hg=>?_,hn.tr (y:=.error x) h2⟩
        obtain ⟨g,rfl,hg⟩:=up hg
        rw [mE];simp only [hdp,hp.code,hpt,if_true,if_neg h31,if_neg h32,if_pos hu]
        rw [h1 g (by omega)]
       | ok x =>
        obtain ⟨b',r'⟩:=x
        rw [he] at h
        simp only at h ⊢
        obtain ⟨b,q,h1,h2⟩:=C.operand (d+1) r p.next hn.1 (by rw [he];intro h0;cases h0)
        rw [he] at h2
        obtain ⟨rfl,h2⟩:=h2
        refine ⟨one 5 t.at_ t.s [b],q,fun g hg=>?_,rfl,hn.tr h2⟩
        obtain ⟨g,rfl,hg⟩:=up hg
        rw [mE];simp only [hdp,hp.code,hpt,if_true,if_neg h31,if_neg h32,if_pos hu]
        rw [h1 g (by omega)]
      ·rw [if_neg hu] at h ⊢
       by_cases hb:t.s=[40]
       ·rw [if_pos hb] at h ⊢
        rw [show p.e=p.next.e from rfl] at h ⊢
        cases he:rd p.next.e f (.expr (d+1)) r with
        | error x =>
         rw [he] at h
         have hx:x≠fuelOut:=fun h0=>h (by rw [h0])
         obtain ⟨b,q,h1,h2⟩:=C.expr (d+1) r p.next hn.1 (by rw [he];intro h0;cases h0;exact hx rfl)
         rw [he] at h2
         refine ⟨b,q.must [41],fun g hg=>?_,?_⟩
         ·obtain ⟨g,rfl,hg⟩:=up hg
          rw [mE];simp only [hdp,hp.code,hpt,if_true,if_neg h31,if_neg h32,if_neg hu,if_pos hb]
          rw [h1 g (by omega)]
         ·rw [must_err (Aft.err h2) (by decide)];exact hn.tr (y:=.error x) h2
        | ok x =>
         obtain ⟨b',r'⟩:=x
         rw [he] at h
         simp only at h ⊢
         obtain ⟨b,q,h1,h2⟩:=C.expr (d+1) r p.next hn.1 (by rw [he];intro h0;cases h0)
         rw [he] at h2
         obtain ⟨rfl,h2⟩:=h2
         have hm:=h2.1.must (s:=[41]) (by decide)
         have hall:=(hn.tr h2).tr hm
         rw [h2.2.2] at hall
         refine ⟨b,q.must [41],fun g hg=>?_,?_⟩
         ·obtain ⟨g,rfl,hg⟩:=up hg
          rw [mE];simp only [hdp,hp.code,hpt,if_true,if_neg h31,if_neg h32,if_neg hu,if_pos hb]
          rw [h1 g (by omega)]
         ·cases hmm:must p.next.e [41] r' with
          | error x=>rw [hmm] at hall;exact hall
          | ok r2=>rw [hmm] at hall;exact ⟨rfl,hall⟩
       ·rw [if_neg hb] at h ⊢
        refine ⟨T.zero,p.fail 7 t.at_,fun g hg=>?_,hp.fail 7 _ (by decide)⟩
        obtain ⟨g,rfl,hg⟩:=up hg
        rw [mE];simp only [hdp,hp.code,hpt,if_true,if_neg h31,if_neg h32,if_neg hu,if_neg hb]
     ·rw [if_neg h3] at h ⊢
      by_cases h1:t.kind=1
      ·rw [if_pos h1]
       refine ⟨_,p.next,fun g hg=>?_,rfl,hn⟩
       obtain ⟨g,rfl,hg⟩:=up hg
       rw [mE];simp only [hdp,hp.code,hpt,if_true,if_pos h1]
      ·rw [if_neg h1] at h ⊢
       by_cases h2:t.kind=2
       ·by_cases hlen:t.s.length > 12
        ·have hnm:name p.e (t::r)=.error (8,t.at_):=by simp [name,h2,hlen]
         rw [hnm] at h ⊢
         have hf:=hp.fail 8 t.at_ (by decide)
         refine ⟨one 2 t.at_ [] [],p.fail 8 t.at_,fun g hg=>?_,hf⟩
         obtain ⟨g,rfl,hg⟩:=up hg
         have hpn:p.name=([],p.fail 8 t.at_):=by unfold RS.name;simp [hp.code,hpt,h2,hlen]
         rw [mE];simp only [hdp,hp.code,hpt,if_true,if_neg h1,if_pos h2,hpn]
         obtain ⟨g,rfl⟩:∃ g',g=g'+1:=⟨g - 1,by omega⟩
         rw [mE,if_neg (by rw [sign_err hf.err];decide),if_neg (by rw [sign_err hf.err];decide)]
        ·have hnm:name p.e (t::r)=.ok (t.s,r):=by simp [name,h2,hlen]
         have hpn:p.name=(t.s,p.next):=by unfold RS.name;simp [hp.code,hpt,h2,hlen]
         rw [hnm] at h ⊢
         simp only at h ⊢
         have hsg:p.next.sign 0=sign r 0:=hn.1.sign 0
         have key:∀ (t':T) (q:RS),(∀ g,KF f≤g→mE (g+1) (.named t.at_ t.s d) p.next=some (t',q))→∀ g,KF (f+1)≤g→mE g (.operand d) p=some (t',q):=by
          intro t' q hk g hg
          obtain ⟨g,rfl,hg⟩:=up hg
          rw [mE];simp only [hdp,hp.code,hpt,if_true,if_neg h1,if_pos h2,hpn]
          obtain ⟨g,rfl⟩:∃ g',g=g'+1:=⟨g - 1,by omega⟩
          exact hk g (by omega)
         by_cases hb:sign r 0=[91]
         ·rw [if_pos hb] at h ⊢
          obtain ⟨tb,htb,_⟩:=sign_cons (by decide) hb
          have hn2:=hn.1;rw [htb] at hn2
          have hn2:=hn.tr hn2.next
          rw [show p.e=p.next.next.e from rfl] at h ⊢
          cases he:rd p.next.next.e f (.expr (d+1)) r.tail with
          | error x =>
           rw [he] at h
           have hx:x≠fuelOut:=fun h0=>h (by rw [h0])
           obtain ⟨b,q,k1,k2⟩:=C.expr (d+1) r.tail p.next.next hn2.1 (by rw [he];intro h0;cases h0;exact hx rfl)
           rw [he] at k2
           refine ⟨one 3 t.at_ t.s [b],q.must [93],key _ _ fun g hg=>?_,?_⟩
           ·rw [mE,if_pos (by rw [hsg];exact hb),k1 g hg]
           ·rw [must_err (Aft.err k2) (by decide)];exact hn2.tr (y:=.error x) k2
          | ok x =>
           obtain ⟨b',r'⟩:=x
           rw [he] at h
           simp only at h ⊢
           obtain ⟨b,q,k1,k2⟩:=C.expr (d+1) r.tail p.next.next hn2.1 (by rw [he];intro h0;cases h0)
           rw [he] at k2
           obtain ⟨rfl,k2⟩:=k2
           have hm:=k2.1.must (s:=[93]) (by decide)
           have hall:=(hn2.tr k2).tr hm
           rw [k2.2.2] at hall
           refine ⟨one 3 t.at_ t.s [b],q.must [93],key _ _ fun g hg=>?_,?_⟩
           ·rw [mE,if_pos (by rw [hsg];exact hb),k1 g hg]
           ·cases hmm:must p.next.next.e [93] r' with
            | error x=>rw [hmm] at hall;exact hall
            | ok r2=>rw [hmm] at hall;exact ⟨rfl,hall⟩
         ·rw [if_neg hb] at h ⊢
          by_cases hc:sign r 0=[40]
          ·rw [if_pos hc] at h ⊢
           obtain ⟨tb,htb,_⟩:=sign_cons (by decide) hc
           have hn2:=hn.1;rw [htb] at hn2
           have hn2:=hn.tr hn2.next
           rw [show p.e=p.next.next.e from rfl] at h ⊢
           cases he:rd.args p.next.next.e f (d+1) [] r.tail with
           | error x =>
            rw [he] at h
            have hx:x≠fuelOut:=fun h0=>h (by rw [h0])
            obtain ⟨b,q,k1,k2⟩:=C.args0 (d+1) r.tail p.next.next hn2.1 (by rw [he];intro h0;cases h0;exact hx rfl)
            rw [he] at k2
            refine ⟨one 4 t.at_ t.s b,q,key _ _ fun g hg=>?_,hn2.tr (y:=.error x) k2⟩
            rw [mE,if_neg (by rw [hsg];exact hb),if_pos (by rw [hsg];exact hc),k1 g hg]
           | ok x =>
            obtain ⟨b',r'⟩:=x
            rw [he] at h
            obtain ⟨b,q,k1,k2⟩:=C.args0 (d+1) r.tail p.next.next hn2.1 (by rw [he];intro h0;cases h0)
            rw [he] at k2
            obtain ⟨rfl,k2⟩:=k2
            refine ⟨one 4 t.at_ t.s b,q,key _ _ fun g hg=>?_,rfl,hn2.tr k2⟩
            rw [mE,if_neg (by rw [hsg];exact hb),if_pos (by rw [hsg];exact hc),k1 g hg]
          ·rw [if_neg hc] at h ⊢
           refine ⟨one 2 t.at_ t.s [],p.next,key _ _ fun g hg=>?_,rfl,hn⟩
           rw [mE,if_neg (by rw [hsg];exact hb),if_neg (by rw [hsg];exact hc)]
       ·have hnm:name p.e (t::r)=.error (7,t.at_):=by simp [name,h2]
        rw [hnm] at h ⊢
        have:=hp.kinds t (List.mem_of_getElem? hpt)
        omega
  ·rw [rd.args] at h ⊢
   have hsg:p.sign 0=sign ts 0:=hp.sign 0
   by_cases hb:sign ts 0=[41]
   ·rw [if_pos hb]
    have hm:=hp.must (s:=[41]) (by decide)
    unfold Go.Xp.must at hm
    rw [if_pos hb] at hm
    refine ⟨acc,p.must [41],fun g hg=>?_,rfl,hm⟩
    obtain ⟨g,rfl,hg⟩:=up hg
    rw [mLs,if_neg (by rw [hsg,hb];decide)]
   ·rw [if_neg hb,if_neg hacc] at h ⊢
    by_cases hc:sign ts 0=[44]
    ·have hmu:Go.Xp.must p.e [44] ts=.ok ts.tail:=by unfold Go.Xp.must;rw [if_pos hc]
     rw [hmu] at h ⊢
     simp only at h ⊢
     obtain ⟨tb,htb,_⟩:=sign_cons (by decide) hc
     have hn:=hp;rw [htb] at hn
     have hn:=hn.next
     rw [show p.e=p.next.e from rfl] at h ⊢
     cases he:rd p.next.e f (.expr d) ts.tail with
     | error x =>
      rw [he] at h
      have hx:x≠fuelOut:=fun h0=>h (by rw [h0])
      obtain ⟨b,q,k1,k2⟩:=C.expr d ts.tail p.next hn.1 (by rw [he];intro h0;cases h0;exact hx rfl)
      rw [he] at k2
      refine ⟨acc++[b],q,fun g hg=>?_,hn.tr (y:=.error x) k2⟩
      obtain ⟨g,rfl,hg⟩:=up hg
      rw [mLs,if_pos (by rw [hsg,hc]),k1 g (by omega)]
      simp only
      obtain ⟨g,rfl⟩:∃ g',g=g'+1:=⟨g - 1,by omega⟩
      rw [mLs,if_neg (by rw [sign_err (Aft.err k2)];decide),must_err (Aft.err k2) (by decide)]
     | ok x =>
      obtain ⟨b',r'⟩:=x
      rw [he] at h
      simp only at h ⊢
      obtain ⟨b,q,k1,k2⟩:=C.expr d ts.tail p.next hn.1 (by rw [he];intro h0;cases h0)
      rw [he] at k2
      obtain ⟨rfl,k2⟩:=k2
      rw [←k2.2.2] at h ⊢
      obtain ⟨t3,q3,h3,h4⟩:=C.args d (acc++[b]) r' q (by simp) k2.1 h
      refine ⟨t3,q3,fun g hg=>?_,Res.tr (hn.tr k2) h4⟩
      obtain ⟨g,rfl,hg⟩:=up hg
      rw [mLs,if_pos (by rw [hsg,hc]),k1 g (by omega)]
      exact h3 g (by omega)
    ·have hmu:Go.Xp.must p.e [44] ts=.error (7,place p.e ts):=by unfold Go.Xp.must;rw [if_neg hc]
     rw [hmu]
     have hm:=hp.must (s:=[41]) (by decide)
     unfold Go.Xp.must at hm
     rw [if_neg hb] at hm
     refine ⟨acc,p.must [41],fun g hg=>?_,hm⟩
     obtain ⟨g,rfl,hg⟩:=up hg
     rw [mLs,if_neg (by rw [hsg];exact hc)]
  ·rw [rd.args] at h ⊢
   have hsg:p.sign 0=sign ts 0:=hp.sign 0
   by_cases hb:sign ts 0=[41]
   ·rw [if_pos hb]
    have hm:=hp.must (s:=[41]) (by decide)
    unfold Go.Xp.must at hm
    rw [if_pos hb] at hm
    refine ⟨[],p.must [41],fun g hg=>?_,rfl,hm⟩
    obtain ⟨g,rfl,hg⟩:=up hg
    rw [mL,if_pos (by rw [hsg,hb])]
   ·rw [if_neg hb,if_pos rfl] at h ⊢
    simp only at h ⊢
    cases he:rd p.e f (.expr d) ts with
    | error x =>
     rw [he] at h
     have hx:x≠fuelOut:=fun h0=>h (by rw [h0])
     obtain ⟨b,q,k1,k2⟩:=C.expr d ts p hp (by rw [he];intro h0;cases h0;exact hx rfl)
     rw [he] at k2
     refine ⟨[b],q,fun g hg=>?_,k2⟩
     obtain ⟨g,rfl,hg⟩:=up hg
     rw [mL,if_neg (by rw [hsg];exact hb),k1 g (by omega)]
     simp only
     obtain ⟨g,rfl⟩:∃ g',g=g'+1:=⟨g - 1,by omega⟩
     rw [mLs,if_neg (by rw [sign_err (Aft.err k2)];decide),must_err (Aft.err k2) (by decide)]
    | ok x =>
     obtain ⟨b',r'⟩:=x
     rw [he] at h
     simp only at h ⊢
     obtain ⟨b,q,k1,k2⟩:=C.expr d ts p hp (by rw [he];intro h0;cases h0)
     rw [he] at k2
     obtain ⟨rfl,k2⟩:=k2
     rw [←k2.2.2] at h ⊢
     obtain ⟨t3,q3,h3,h4⟩:=C.args d ([]++[b]) r' q (by simp) k2.1 h
     refine ⟨t3,q3,fun g hg=>?_,Res.tr k2 h4⟩
     obtain ⟨g,rfl,hg⟩:=up hg
     rw [mL,if_neg (by rw [hsg];exact hb),k1 g (by omega)]
     exact h3 g (by omega)
end Go.Sp
namespace Go.Xp
theorem rd_up (e:Int):∀ f,(∀ j ts,rd e f j ts=.error fuelOut∨rd e (f+1) j ts=rd e f j ts)∧(∀ d acc ts,rd.args e f d acc ts=.error fuelOut∨rd.args e (f+1) d acc ts=rd.args e f d acc ts):=by
 intro f
 induction f with
 | zero=>exact ⟨fun j ts=>.inl (by simp [rd]),fun d acc ts=>.inl (by simp [rd.args])⟩
 | succ f ih =>
  obtain ⟨i1,i2⟩:=ih
  refine ⟨fun j ts=>?_,fun d acc ts=>?_⟩
  ·rw [rd.eq_def e (f+1+1),rd.eq_def e (f+1)]
   cases j with
   | expr d =>
    simp only
    split
    ·exact .inr rfl
    ·exact i1 _ _
   | level k d =>
    simp only
    split
    ·exact i1 _ _
    ·rcases i1 (.level (k+1) d) ts with h | h
     ·left;rw [h]
     ·rw [h]
      cases rd e f (.level (k+1) d) ts with
      | error x=>exact .inr rfl
      | ok r=>exact i1 _ _
   | loop k d out =>
    cases ts with
    | nil=>exact .inr rfl
    | cons t r =>
     simp only
     split
     ·rcases i1 (.level (k+1) d) r with h | h
      ·left;rw [h]
      ·rw [h]
       cases rd e f (.level (k+1) d) r with
       | error x=>exact .inr rfl
       | ok r=>exact i1 _ _
     ·exact .inr rfl
   | operand d =>
    simp only
    split
    ·exact .inr rfl
    ·cases ts with
     | nil=>exact .inr rfl
     | cons t r =>
      simp only
      split
      ·split
       ·rcases i1 (.operand (d+1)) r with h | h
        ·left;rw [h]
        ·rw [h];exact .inr rfl
       ·split
        ·rcases i1 (.expr (d+1)) r with h | h
         ·left;rw [h]
         ·rw [h];exact .inr rfl
        ·exact .inr rfl
      ·split
       ·exact .inr rfl
       ·cases name e (t::r) with
        | error x=>exact .inr rfl
        | ok y =>
         obtain ⟨s,r⟩:=y
         simp only
         split
         ·rcases i1 (.expr (d+1)) r.tail with h | h
          ·left;rw [h]
          ·rw [h];exact .inr rfl
         ·split
          ·rcases i2 (d+1) [] r.tail with h | h
           ·left;rw [h]
           ·rw [h];exact .inr rfl
          ·exact .inr rfl
  ·rw [rd.args,rd.args]
   split
   ·exact .inr rfl
   ·cases (if acc=[] then .ok ts else must e [44] ts:Except Er (List Tok)) with
    | error x=>exact .inr rfl
    | ok ts =>
     simp only
     rcases i1 (.expr d) ts with h | h
     ·left;rw [h]
     ·rw [h]
      cases rd e f (.expr d) ts with
      | error x=>exact .inr rfl
      | ok y=>exact i2 _ _ _
theorem rd_mono {e:Int} {f f':Nat} {j:Job} {ts:List Tok} (h:rd e f j ts≠.error fuelOut) (hf:f≤f'):rd e f' j ts=rd e f j ts:=by
 obtain ⟨k,rfl⟩:=Nat.exists_eq_add_of_le hf
 clear hf
 induction k with
 | zero=>rfl
 | succ k ih =>
  rcases (rd_up e (f+k)).1 j ts with h1 | h1
  ·rw [ih] at h1;exact absurd h1 h
  ·rw [←Nat.add_assoc,h1,ih]
theorem expr_at {e:Int} {f d:Nat} {ts:List Tok} (h:20 * ts.length+12≤f):rd e f (.expr d) ts=expr e d ts:=by
 have h0:rd e (20 * ts.length+12) (.expr d) ts≠.error fuelOut:=rd_fuel (j:=.expr d) trivial (Nat.le_refl _)
 rw [rd_mono h0 h]
 unfold expr fuelOf
 exact (rd_mono h0 (by omega)).symm
end Go.Xp
namespace Go.Xp
def at3 (t:T):Prop:=t.n.kind=3→∃ a,t.kids=[a]
theorem rd_nil (e:Int):∀ f j,(∀ k d out,j≠.loop k d out)→∀ t r,rd e f j []≠.ok (t,r):=by
 intro f
 induction f with
 | zero=>intro j _ t r h;simp [rd] at h
 | succ f ih =>
  intro j hj t r h
  rw [rd.eq_def] at h
  cases j with
  | expr d =>
   simp only at h
   split at h
   ·cases h
   ·exact ih _ (fun k d out h=>by cases h) _ _ h
  | level k d =>
   simp only at h
   split at h
   ·exact ih _ (fun k d out h=>by cases h) _ _ h
   ·split at h
    ·cases h
    ·rename_i he
     exact ih _ (fun k d out h=>by cases h) _ _ he
  | loop k d out=>exact hj _ _ _ rfl
  | operand d =>
   simp only at h
   split at h <;> cases h
theorem rd_at3 (e:Int):∀ f j ts t r,(∀ k d out,j=.loop k d out→at3 out)→rd e f j ts=.ok (t,r)→at3 t:=by
 intro f
 induction f with
 | zero=>intro j ts t r _ h;simp [rd] at h
 | succ f ih =>
  intro j ts t r hj h
  rw [rd.eq_def] at h
  cases j with
  | expr d =>
   simp only at h
   split at h
   ·cases h
   ·exact ih _ _ _ _ (fun k d out h=>by cases h) h
  | level k d =>
   simp only at h
   split at h
   ·exact ih _ _ _ _ (fun k d out h=>by cases h) h
   ·split at h
    ·cases h
    ·rename_i out ts' he
     exact ih _ _ _ _ (fun k' d' out' hj'=>by cases hj';exact ih _ _ _ _ (fun k d out h=>by cases h) he) h
  | loop k d out =>
   cases ts with
   | nil=>cases h;exact hj k d _ rfl
   | cons a r' =>
    simp only at h
    split at h
    ·split at h
     ·cases h
     ·exact ih _ _ _ _ (fun k' d' out' hj'=>by cases hj';intro h3;exact absurd h3 (by simp [one,T.n])) h
    ·cases h;exact hj k d _ rfl
  | operand d =>
   simp only at h
   split at h
   ·cases h
   ·cases ts with
    | nil=>cases h
    | cons a r' =>
     simp only at h
     split at h
     ·split at h
      ·split at h
       ·cases h
       ·cases h;intro h3;exact absurd h3 (by simp [one,T.n])
      ·split at h
       ·split at h
        ·cases h
        ·rename_i he
         split at h
         ·cases h
         ·cases h;exact ih _ _ _ _ (fun k d out h=>by cases h) he
       ·cases h
     ·split at h
      ·cases h;intro h3;exact absurd h3 (by simp [T.n])
      ·split at h
       ·cases h
       ·split at h
        ·split at h
         ·cases h
         ·split at h
          ·cases h
          ·cases h;exact fun _=>⟨_,rfl⟩
        ·split at h
         ·split at h
          ·cases h
          ·cases h;intro h3;exact absurd h3 (by simp [one,T.n])
         ·cases h;intro h3;exact absurd h3 (by simp [one,T.n])
end Go.Xp
namespace Go.Sp
open Go.Xp
theorem mX_rd {d:Nat} {ts:List Tok} {p:RS} (hp:On p ts):∃ t q,mX d p=some (t,q)∧Res p q t (expr p.e d ts):=by
 have hl:ts.length≤p.l.length:=by rw [←hp.rest,List.length_drop];omega
 have hf:rd p.e (20 * ts.length+12) (.expr d) ts≠.error fuelOut:=rd_fuel (j:=.expr d) trivial (Nat.le_refl _)
 obtain ⟨t,q,h1,h2⟩:=(je _).expr d ts p hp hf
 rw [expr_at (Nat.le_refl _)] at h2
 exact ⟨t,q,h1 _ (by unfold KF fe;omega),h2⟩
theorem mX_err {d:Nat} {p:RS} (h:p.code≠0):mX d p=some (T.zero,p):=mE_err h (by unfold fe;omega)
theorem mS_err {p:RS} (h:p.code≠0) {g d:Nat} (hg:2≤g):mS g (.block d) p=some (one 14 p.place [] [],p):=by
 obtain ⟨g,rfl⟩:∃ g',g=g'+2:=⟨g - 2,by omega⟩
 rw [mS,deep_err h,must_err h (by decide)]
 simp only [mB,h,false_and,if_false]
 rw [must_err h (by decide)]
theorem stmt_err' {p:RS} (h:p.code≠0) {g d:Nat} (hg:1≤g):mS g (.stmt d) p=some (one 12 p.place [] [T.zero],p):=by
 obtain ⟨g,rfl⟩:∃ g',g=g'+1:=⟨g - 1,by omega⟩
 rw [mS,deep_err h]
 simp only [sign_err h]
 rw [if_neg (by decide),if_neg (by decide),if_neg (by decide),if_neg (fun x=>h x.1),mX_err h]
 have h03:¬ (T.zero.n.kind=3∧T.zero.n.at_=p.place∧p.sign 0=[61]):=fun x=>absurd x.1 (by decide)
 simp only
 rw [if_neg h03,must_err h (by decide)]
structure JS' (f:Nat):Prop where
 block:∀ d ts p,On p ts→rs p.e f (.block d) ts≠.error fuelOut→∃ t q,(∀ g,KF f≤g→mS g (.block d) p=some (t,q))∧Res p q t (rs p.e f (.block d) ts)
 stmt:∀ d ts p,On p ts→rs p.e f (.stmt d) ts≠.error fuelOut→∃ t q,(∀ g,KF f≤g→mS g (.stmt d) p=some (t,q))∧Res p q t (rs p.e f (.stmt d) ts)
 body:∀ d acc ts p,On p ts→rs.body p.e f d acc ts≠.error fuelOut→∃ t q,(∀ g,KF f≤g→mB g d acc p=some (t,q))∧Res p (q.must [125]) t (rs.body p.e f d acc ts)
theorem mX_or {d:Nat} {ts:List Tok} {p:RS} (hp:On p ts):(∃ t q r,mX d p=some (t,q)∧expr p.e d ts=.ok (t,r)∧Aft p q (.ok r))∨(∃ t q x,mX d p=some (t,q)∧expr p.e d ts=.error x∧Aft p q (.error x)):=by
 obtain ⟨t,q,h1,h2⟩:=mX_rd (d:=d) hp
 cases he:expr p.e d ts with
 | error x=>rw [he] at h2;exact .inr ⟨t,q,x,h1,rfl,h2⟩
 | ok y =>
  obtain ⟨t',r⟩:=y
  rw [he] at h2
  obtain ⟨rfl,h2⟩:=h2
  exact .inl ⟨t,q,r,h1,rfl,h2⟩
theorem must_or {s:Str} {ts:List Tok} {p:RS} (hp:On p ts) (hs:s≠[]):(∃ r,Go.Xp.must p.e s ts=.ok r∧Aft p (p.must s) (.ok r))∨(∃ x,Go.Xp.must p.e s ts=.error x∧Aft p (p.must s) (.error x)):=by
 have h:=hp.must hs
 cases he:Go.Xp.must p.e s ts with
 | ok r=>rw [he] at h;exact .inl ⟨r,rfl,h⟩
 | error x=>rw [he] at h;exact .inr ⟨x,rfl,h⟩
theorem name_or {ts:List Tok} {p:RS} (hp:On p ts):(∃ r,Go.Xp.name p.e ts=.ok (p.name.1,r)∧Aft p p.name.2 (.ok r))∨(∃ x,Go.Xp.name p.e ts=.error x∧Aft p p.name.2 (.error x)):=by
 rcases hp.name with h | h
 ·cases he:Go.Xp.name p.e ts with
  | ok y =>
   obtain ⟨s,r⟩:=y
   rw [he] at h
   obtain ⟨rfl,h⟩:=h
   exact .inl ⟨r,rfl,h⟩
  | error x=>rw [he] at h;exact .inr ⟨x,rfl,h⟩
 ·exact .inr h
theorem exprThen {d:Nat} {ts:List Tok} {p:RS} {b:Str} (hp:On p ts) (hb:b≠[]):∃ t q,mX d p=some (t,q)∧((∃ r r',expr p.e d ts=.ok (t,r)∧Go.Xp.must p.e b r=.ok r'∧Aft p (q.must b) (.ok r'))∨(∃ r x,expr p.e d ts=.ok (t,r)∧Go.Xp.must p.e b r=.error x∧Aft p (q.must b) (.error x))∨(∃ x,expr p.e d ts=.error x∧Aft p (q.must b) (.error x))):=by
 rcases mX_or (d:=d) hp with ⟨t,q,r,h1,h2,h3⟩ | ⟨t,q,x,h1,h2,h3⟩
 ·refine ⟨t,q,h1,?_⟩
  rcases must_or h3.1 hb with ⟨r',h4,h5⟩ | ⟨x,h4,h5⟩
  ·rw [h3.2.2] at h4;exact .inl ⟨r,r',h2,h4,h3.tr h5⟩
  ·rw [h3.2.2] at h4;exact .inr (.inl ⟨r,x,h2,h4,h3.tr h5⟩)
 ·exact ⟨t,q,h1,.inr (.inr ⟨x,h2,by rw [must_err h3.err hb];exact h3⟩)⟩
theorem On.isName {ts:List Tok} {p:RS} (hp:On p ts):p.isName=(match ts with | t::_=>decide (t.kind=2) | []=>false):=by
 have h:=hp.at 0
 rw [Nat.add_zero] at h
 unfold RS.isName
 rw [h]
 cases ts <;> rfl
theorem inner_or {d:Nat} {ts:List Tok} {p:RS} {a b:Str} (hp:On p ts) (ha:a≠[]) (hb:b≠[]):∃ t q,mX d (p.must a)=some (t,q)∧((∃ r,inner p.e d a b ts=.ok (t,r)∧Aft p (q.must b) (.ok r))∨∃ x,inner p.e d a b ts=.error x∧Aft p (q.must b) (.error x)):=by
 unfold Go.Xp.inner
 rcases must_or hp ha with ⟨r,h1,h2⟩ | ⟨x,h1,h2⟩
 ·rw [h1]
  obtain ⟨t,q,h3,h4⟩:=exprThen (d:=d) (b:=b) h2.1 hb
  rw [h2.2.2] at h4
  refine ⟨t,q,h3,?_⟩
  simp only
  rcases h4 with ⟨r,r',k1,k2,k3⟩ | ⟨r,x,k1,k2,k3⟩ | ⟨x,k1,k3⟩
  ·rw [k1];simp only;rw [k2];exact .inl ⟨r',rfl,h2.tr k3⟩
  ·rw [k1];simp only;rw [k2];exact .inr ⟨x,rfl,h2.tr (y:=.error x) k3⟩
  ·rw [k1];exact .inr ⟨x,rfl,h2.tr (y:=.error x) k3⟩
 ·rw [h1]
  exact ⟨T.zero,p.must a,mX_err h2.err,.inr ⟨x,rfl,by rw [must_err h2.err hb];exact h2⟩⟩
theorem setTo_or {d:Nat} {ts:List Tok} {p:RS} (hp:On p ts):∃ t q,mX d (p.name.2.must [61])=some (t,q)∧((∃ r,setTo p.e d ts=.ok ((p.name.1,t),r)∧Aft p (q.must [59]) (.ok r))∨∃ x,setTo p.e d ts=.error x∧Aft p (q.must [59]) (.error x)):=by
 unfold Go.Xp.setTo
 rcases name_or hp with ⟨r,h1,h2⟩ | ⟨x,h1,h2⟩
 ·rw [h1]
  obtain ⟨t,q,h3,h4⟩:=inner_or (d:=d) (a:=[61]) (b:=[59]) h2.1 (by decide) (by decide)
  rw [h2.2.2] at h4
  refine ⟨t,q,h3,?_⟩
  simp only
  rcases h4 with ⟨r,k1,k3⟩ | ⟨x,k1,k3⟩
  ·rw [k1];exact .inl ⟨r,rfl,h2.tr k3⟩
  ·rw [k1];exact .inr ⟨x,rfl,h2.tr (y:=.error x) k3⟩
 ·rw [h1]
  refine ⟨T.zero,p.name.2,by rw [must_err h2.err (by decide)];exact mX_err h2.err,.inr ⟨x,rfl,by rw [must_err h2.err (by decide)];exact h2⟩⟩
theorem js (f:Nat):JS' f:=by
 induction f with
 | zero=>exact ⟨fun d ts p _ h=>absurd (by simp [rs]) h,fun d ts p _ h=>absurd (by simp [rs]) h,fun d acc ts p _ h=>absurd (by simp [rs.body]) h⟩
 | succ f C =>
  refine ⟨fun d ts p hp h=>?_,fun d ts p hp h=>?_,fun d acc ts p hp h=>?_⟩
  ·rw [rs] at h ⊢
   by_cases hd:d > 60
   ·rw [if_pos hd] at h ⊢
    have hf:=hp.fail 9 p.place (by decide)
    refine ⟨one 14 (p.fail 9 p.place).place [] [],p.fail 9 p.place,fun g hg=>?_,by rw [←hp.place];exact hf⟩
    have hdf:p.deep d=p.fail 9 p.place:=by unfold RS.deep;rw [if_pos hd]
    have:=mS_err (g:=g) (d:=d) hf.err (by unfold KF at hg;omega)
    obtain ⟨g,rfl,hg⟩:=up hg
    rw [mS] at this ⊢
    rw [deep_err hf.err] at this
    rw [hdf];exact this
   ·rw [if_neg hd] at h ⊢
    have hdp:p.deep d=p:=by unfold RS.deep;rw [if_neg hd]
    rcases must_or hp (s:=[123]) (by decide) with ⟨r,h1,h2⟩ | ⟨x,h1,h2⟩
    ·rw [h1] at h ⊢
     simp only at h ⊢
     rw [←h2.2.2] at h ⊢
     have hb:rs.body (p.must [123]).e f (d+1) [] r≠.error fuelOut:=fun h0=>h (by rw [h0])
     obtain ⟨l,q,h3,h4⟩:=C.body (d+1) [] r (p.must [123]) h2.1 hb
     have hpl:place (p.must [123]).e ts=p.place:=by rw [h2.2.2,hp.place]
     refine ⟨one 14 p.place [] l,q.must [125],fun g hg=>?_,?_⟩
     ·obtain ⟨g,rfl,hg⟩:=up hg
      rw [mS,hdp,h3 g (by omega)]
     ·cases he:rs.body (p.must [123]).e f (d+1) [] r with
      | error x=>rw [he] at h4;exact h2.tr (y:=.error x) h4
      | ok y=>obtain ⟨l',r'⟩:=y;rw [he] at h4;obtain ⟨rfl,h4⟩:=h4;rw [hpl];exact ⟨rfl,h2.tr h4⟩
    ·rw [h1] at h ⊢
     refine ⟨one 14 p.place [] [],p.must [123],fun g hg=>?_,h2⟩
     obtain ⟨g,rfl,hg⟩:=up hg
     rw [mS,hdp]
     obtain ⟨g,rfl⟩:∃ g',g=g'+1:=⟨g - 1,by omega⟩
     simp only [mB,h2.err,false_and,if_false]
     rw [must_err h2.err (by decide)]
  ·rw [rs] at h ⊢
   by_cases hd:d > 60
   ·rw [if_pos hd] at h ⊢
    have hf:=hp.fail 9 p.place (by decide)
    have hdf:p.deep d=p.fail 9 p.place:=by unfold RS.deep;rw [if_pos hd]
    refine ⟨one 12 (p.fail 9 p.place).place [] [T.zero],p.fail 9 p.place,fun g hg=>?_,by rw [←hp.place];exact hf⟩
    have:=stmt_err' (g:=g) (d:=d) hf.err (by unfold KF at hg;omega)
    obtain ⟨g,rfl,hg⟩:=up hg
    rw [mS] at this ⊢
    rw [deep_err hf.err] at this
    rw [hdf];exact this
   ·rw [if_neg hd] at h ⊢
    have hdp:p.deep d=p:=by unfold RS.deep;rw [if_neg hd]
    have hsg:p.sign 0=sign ts 0:=hp.sign 0
    have hsg1:p.sign 1=sign ts 1:=hp.sign 1
    have hpl:=hp.place
    simp only at h ⊢
    by_cases hv:sign ts 0=kwVar
    ·rw [if_pos hv]
     obtain ⟨tv,htv,_⟩:=sign_cons (by decide) hv
     have hn:=hp;rw [htv] at hn
     have hn:=hn.next
     rw [show p.e=p.next.e from rfl]
     rcases setTo_or (d:=d+1) hn.1 with ⟨t,q,h1,⟨r,h2,h3⟩ | ⟨x,h2,h3⟩⟩
     ·rw [h2]
      refine ⟨one 13 p.place p.next.name.1 [t],q.must [59],fun g hg=>?_,by rw [hpl];rfl,hn.tr h3⟩
      obtain ⟨g,rfl,hg⟩:=up hg
      rw [mS,hdp]
      rw [if_pos (by rw [hsg,hv]),h1]
     ·rw [h2]
      refine ⟨one 13 p.place p.next.name.1 [t],q.must [59],fun g hg=>?_,hn.tr (y:=.error x) h3⟩
      obtain ⟨g,rfl,hg⟩:=up hg
      rw [mS,hdp]
      rw [if_pos (by rw [hsg,hv]),h1]
    rw [if_neg hv] at h ⊢
    by_cases hc:sign ts 0=kwIf∨sign ts 0=kwWhile
    ·rw [if_pos hc] at h ⊢
     obtain ⟨tv,htv,hk3,hts⟩:∃ t,ts=t::ts.tail∧t.kind=3∧t.s=sign ts 0:=by
      rcases hc with hc | hc
      ·obtain ⟨t,h1,h2,h3⟩:=sign_cons (by decide) hc;exact ⟨t,h1,h2,h3.trans hc.symm⟩
      ·obtain ⟨t,h1,h2,h3⟩:=sign_cons (by decide) hc;exact ⟨t,h1,h2,h3.trans hc.symm⟩
     have hn:=hp;rw [htv] at hn
     have hn:=hn.next
     have hck:p.ck=if sign ts 0=kwIf then 9 else 10:=by unfold RS.ck;rw [hsg]
     have key:∀ (t:T) (q:RS),(∀ g,KF f≤g→mS (g+1) (.cond p.place d) p=some (t,q))→∀ g,KF (f+1)≤g→mS g (.stmt d) p=some (t,q):=by
      intro t q hk g hg
      obtain ⟨g,rfl,hg⟩:=up hg
      rw [mS,hdp]
      rw [if_neg (by rw [hsg];exact hv),if_pos (by rw [hsg];exact hc)]
      obtain ⟨g,rfl⟩:∃ g',g=g'+1:=⟨g - 1,by omega⟩
      exact hk g (by omega)
     rcases inner_or (d:=d+1) (a:=[40]) (b:=[41]) hn.1 (by decide) (by decide) with ⟨c,q,h1,⟨r,h2,h3⟩ | ⟨x,h2,h3⟩⟩
     ·rw [show p.next.e=p.e from rfl] at h2
      rw [h2] at h ⊢
      simp only at h ⊢
      have h3:=hn.tr h3
      have hb:rs p.e f (.block (d+1)) r≠.error fuelOut:=fun h0=>h (by rw [h0])
      rw [←h3.2.2] at hb
      obtain ⟨b,q2,h4,h5⟩:=C.block (d+1) r (q.must [41]) h3.1 hb
      rw [h3.2.2] at h5
      cases he:rs p.e f (.block (d+1)) r with
      | error x =>
       rw [he] at h5
       refine ⟨one p.ck p.place [] [c,b],q2,key _ _ fun g hg=>?_,h3.tr (y:=.error x) h5⟩
       rw [mS,h1];simp only
       rw [h4 g hg];simp only
       rw [if_neg (by rw [sign_err (Aft.err h5)];exact fun x=>absurd x.2 (by decide))]
      | ok y =>
       obtain ⟨b',r2⟩:=y
       rw [he] at h5 h
       obtain ⟨rfl,h5⟩:=h5
       simp only at h ⊢
       have h5:=h3.tr h5
       have hs2:q2.sign 0=sign r2 0:=h5.1.sign 0
       by_cases hi:sign ts 0=kwIf
       ·rw [if_pos hi] at h hck ⊢
        by_cases hel:sign r2 0=kwElse
        ·rw [if_pos hel] at h ⊢
         obtain ⟨te,hte,_⟩:=sign_cons (by decide) hel
         have hn2:=h5.1;rw [hte] at hn2
         have hn2:=h5.tr hn2.next
         have hb:rs p.e f (.block (d+1)) r2.tail≠.error fuelOut:=fun h0=>h (by rw [h0])
         rw [←hn2.2.2] at hb
         obtain ⟨b2,q3,h6,h7⟩:=C.block (d+1) r2.tail q2.next hn2.1 hb
         rw [hn2.2.2] at h7
         refine ⟨one p.ck p.place [] [c,b,b2],q3,key _ _ fun g hg=>?_,?_⟩
         ·rw [mS,h1];simp only
          rw [h4 g hg];simp only
          rw [if_pos ⟨hck,by rw [hs2,hel]⟩,h6 g hg]
         ·cases he2:rs p.e f (.block (d+1)) r2.tail with
          | error x=>rw [he2] at h7;exact hn2.tr (y:=.error x) h7
          | ok y=>obtain ⟨b3,r3⟩:=y;rw [he2] at h7;obtain ⟨rfl,h7⟩:=h7;exact ⟨by rw [hck,hpl],hn2.tr h7⟩
        ·rw [if_neg hel]
         refine ⟨one p.ck p.place [] [c,b],q2,key _ _ fun g hg=>?_,by rw [hck,hpl],h5⟩
         rw [mS,h1];simp only
         rw [h4 g hg];simp only
         rw [if_neg (fun x=>hel (by rw [←hs2];exact x.2))]
       ·rw [if_neg hi] at hck ⊢
        refine ⟨one p.ck p.place [] [c,b],q2,key _ _ fun g hg=>?_,by rw [hck,hpl],h5⟩
        rw [mS,h1];simp only
        rw [h4 g hg];simp only
        rw [if_neg (by rw [hck];exact fun x=>absurd x.1 (by decide))]
     ·rw [show p.next.e=p.e from rfl] at h2
      rw [h2] at h ⊢
      have h3:=hn.tr (y:=.error x) h3
      refine ⟨one p.ck p.place [] [c,one 14 (q.must [41]).place [] []],q.must [41],key _ _ fun g hg=>?_,h3⟩
      rw [mS,h1];simp only
      rw [mS_err h3.err (by unfold KF at hg;omega)];simp only
      rw [if_neg (by rw [sign_err h3.err];exact fun x=>absurd x.2 (by decide))]
    rw [if_neg hc] at h ⊢
    have hcp:¬ (p.sign 0=kwIf∨p.sign 0=kwWhile):=by rw [hsg];exact hc
    by_cases hr:sign ts 0=kwReturn
    ·rw [if_pos hr]
     obtain ⟨tv,htv,_⟩:=sign_cons (by decide) hr
     have hn:=hp;rw [htv] at hn
     have hn:=hn.next
     obtain ⟨t,q,h1,h2⟩:=exprThen (d:=d+1) (b:=[59]) hn.1 (by decide)
     rw [show p.next.e=p.e from rfl] at h2
     refine ⟨one 11 p.place [] [t],q.must [59],fun g hg=>?_,?_⟩
     ·obtain ⟨g,rfl,hg⟩:=up hg
      rw [mS,hdp]
      rw [if_neg (by rw [hsg];exact hv),if_neg hcp,if_pos (by rw [hsg,hr]),h1]
     ·rcases h2 with ⟨r,r',h2,h3,h4⟩ | ⟨r,x,h2,h3,h4⟩ | ⟨x,h2,h4⟩
      ·rw [h2];simp only;rw [h3];exact ⟨by rw [hpl],hn.tr h4⟩
      ·rw [h2];simp only;rw [h3];exact hn.tr (y:=.error x) h4
      ·rw [h2];exact hn.tr (y:=.error x) h4
    rw [if_neg hr] at h ⊢
    have hrp:¬ p.sign 0=kwReturn:=by rw [hsg];exact hr
    have hvp:¬ p.sign 0=kwVar:=by rw [hsg];exact hv
    have hnm:=hp.isName
    cases ts with
    | nil =>
     have hset':¬ (p.code=0∧p.isName=true∧p.sign 1=[61]):=fun hx=>by have:=hx.2.1;rw [hnm] at this;cases this
     rcases mX_or (d:=d+1) hp with ⟨t,q,r,h1,h2,h3⟩ | ⟨t,q,x,h1,h2,h3⟩
     ·exact absurd h2 (rd_nil _ _ _ (fun k d out h=>by cases h) _ _)
     ·have hput':¬ (t.n.kind=3∧t.n.at_=p.place∧q.sign 0=[61]):=by rw [sign_err h3.err];exact fun x=>absurd x.2.2 (by decide)
      refine ⟨one 12 p.place [] [t],q.must [59],fun g hg=>?_,by unfold simple;rw [h2,must_err h3.err (by decide)];exact h3⟩
      obtain ⟨g,rfl,hg⟩:=up hg
      rw [mS,hdp]
      rw [if_neg hvp,if_neg hcp,if_neg hrp,if_neg hset',h1];simp only
      rw [if_neg hput']
    | cons a r0 =>
     simp only [simple] at h ⊢
     simp only at hnm
     by_cases hset:a.kind=2∧sign (a::r0) 1=[61]
     ·rw [if_pos hset]
      have hset':p.code=0∧p.isName=true∧p.sign 1=[61]:=⟨hp.code,by rw [hnm];simpa using hset.1,by rw [hsg1];exact hset.2⟩
      rcases setTo_or (d:=d+1) hp with ⟨t,q,h1,⟨r,h2,h3⟩ | ⟨x,h2,h3⟩⟩
      ·rw [h2]
       refine ⟨one 7 p.place p.name.1 [t],q.must [59],fun g hg=>?_,by rw [hpl];rfl,h3⟩
       obtain ⟨g,rfl,hg⟩:=up hg
       rw [mS,hdp]
       rw [if_neg hvp,if_neg hcp,if_neg hrp,if_pos hset',h1]
      ·rw [h2]
       refine ⟨one 7 p.place p.name.1 [t],q.must [59],fun g hg=>?_,h3⟩
       obtain ⟨g,rfl,hg⟩:=up hg
       rw [mS,hdp]
       rw [if_neg hvp,if_neg hcp,if_neg hrp,if_pos hset',h1]
     ·rw [if_neg hset]
      have hset':¬ (p.code=0∧p.isName=true∧p.sign 1=[61]):=fun hx=>hset ⟨by have:=hx.2.1;rw [hnm] at this;simpa using this,by rw [←hsg1];exact hx.2.2⟩
      have hpl':p.place=a.at_:=hpl
      rcases mX_or (d:=d+1) hp with ⟨t,q,r,h1,h2,h3⟩ | ⟨t,q,x,h1,h2,h3⟩
      ·rw [h2];simp only
       have hs2:q.sign 0=sign r 0:=h3.1.sign 0
       by_cases hput:t.n.kind=3∧t.n.at_=a.at_∧sign r 0=[61]
       ·rw [if_pos hput]
        have hput':t.n.kind=3∧t.n.at_=p.place∧q.sign 0=[61]:=by rw [hpl',hs2];exact hput
        obtain ⟨te,hte,_⟩:=sign_cons (by decide) hput.2.2
        have hn:=h3.1;rw [hte] at hn
        have hn:=h3.tr hn.next
        obtain ⟨ix,hix⟩:=rd_at3 _ _ _ _ _ _ (fun k d out hj=>by cases hj) h2 hput.1
        have hin:∀ ts',Go.Xp.inner p.e (d+1) [61] [59] ts'=Go.Xp.inner p.e (d+1) [61] [59] ts':=fun _=>rfl
        have hmu:Go.Xp.must p.e [61] r=.ok r.tail:=by unfold Go.Xp.must;rw [if_pos hput.2.2]
        obtain ⟨v,q2,h4,h5⟩:=exprThen (d:=d+1) (b:=[59]) hn.1 (by decide)
        rw [hn.2.2] at h5
        refine ⟨one 8 p.place t.n.s [ix,v],q2.must [59],fun g hg=>?_,?_⟩
        ·obtain ⟨g,rfl,hg⟩:=up hg
         rw [mS,hdp]
         rw [if_neg hvp,if_neg hcp,if_neg hrp,if_neg hset',h1];simp only
         rw [if_pos hput',hix,h4]
        ·unfold Go.Xp.inner
         rw [hmu];simp only
         rcases h5 with ⟨r2,r',h2,h3,h4⟩ | ⟨r2,x,h2,h3,h4⟩ | ⟨x,h2,h4⟩
         ·rw [h2];simp only;rw [h3];exact ⟨by rw [hpl',hix];rfl,hn.tr h4⟩
         ·rw [h2];simp only;rw [h3];exact hn.tr (y:=.error x) h4
         ·rw [h2];exact hn.tr (y:=.error x) h4
       ·rw [if_neg hput]
        have hput':¬ (t.n.kind=3∧t.n.at_=p.place∧q.sign 0=[61]):=by rw [hpl',hs2];exact hput
        refine ⟨one 12 p.place [] [t],q.must [59],fun g hg=>?_,?_⟩
        ·obtain ⟨g,rfl,hg⟩:=up hg
         rw [mS,hdp]
         rw [if_neg hvp,if_neg hcp,if_neg hrp,if_neg hset',h1];simp only
         rw [if_neg hput']
        ·rcases must_or h3.1 (s:=[59]) (by decide) with ⟨r',h4,h5⟩ | ⟨x,h4,h5⟩
         ·rw [h3.2.2] at h4;rw [h4];exact ⟨by rw [hpl'],h3.tr h5⟩
         ·rw [h3.2.2] at h4;rw [h4];exact h3.tr (y:=.error x) h5
      ·rw [h2]
       have hput':¬ (t.n.kind=3∧t.n.at_=p.place∧q.sign 0=[61]):=by rw [sign_err h3.err];exact fun x=>absurd x.2.2 (by decide)
       refine ⟨one 12 p.place [] [t],q.must [59],fun g hg=>?_,by rw [must_err h3.err (by decide)];exact h3⟩
       obtain ⟨g,rfl,hg⟩:=up hg
       rw [mS,hdp]
       rw [if_neg hvp,if_neg hcp,if_neg hrp,if_neg hset',h1];simp only
       rw [if_neg hput']
  ·rw [rs.body] at h ⊢
   have hsg:p.sign 0=sign ts 0:=hp.sign 0
   by_cases hb:sign ts 0=[125]
   ·rw [if_pos hb]
    have hm:=hp.must (s:=[125]) (by decide)
    unfold Go.Xp.must at hm
    rw [if_pos hb] at hm
    refine ⟨acc,p,fun g hg=>?_,rfl,hm⟩
    obtain ⟨g,rfl,hg⟩:=up hg
    rw [mB,if_neg (fun h0=>h0.2 (by rw [hsg,hb]))]
   ·rw [if_neg hb] at h ⊢
    have hs:rs p.e f (.stmt d) ts≠.error fuelOut:=fun h0=>h (by rw [h0])
    obtain ⟨a,q,h1,h2⟩:=C.stmt d ts p hp hs
    have hc:p.code=0∧¬ p.sign 0=[125]:=⟨hp.code,by rw [hsg];exact hb⟩
    cases he:rs p.e f (.stmt d) ts with
    | error x =>
     rw [he] at h2 h
     refine ⟨acc++[a],q,fun g hg=>?_,by rw [must_err (Aft.err h2) (by decide)];exact h2⟩
     obtain ⟨g,rfl,hg⟩:=up hg
     rw [mB,if_pos hc,h1 g (by omega)]
     simp only
     obtain ⟨g,rfl⟩:∃ g',g=g'+1:=⟨g - 1,by omega⟩
     rw [mB,if_neg (fun h0=>Aft.err h2 h0.1)]
    | ok y =>
     obtain ⟨a',r⟩:=y
     rw [he] at h2 h
     obtain ⟨rfl,h2⟩:=h2
     simp only at h ⊢
     rw [←h2.2.2] at h ⊢
     obtain ⟨l,q3,h3,h4⟩:=C.body d (acc++[a]) r q h2.1 h
     refine ⟨l,q3,fun g hg=>?_,Res.tr h2 h4⟩
     obtain ⟨g,rfl,hg⟩:=up hg
     rw [mB,if_pos hc,h1 g (by omega)]
     exact h3 g (by omega)
end Go.Sp
namespace Go.Im
open Go.Xp Go.Sp
def tok (p:RS) (k:Nat):Tok:=match p.l[p.i+k]? with | some t=>t | none=>⟨0,0,[],p.e⟩
def is (p:RS) (k:Nat) (s:Str):Bool:=(tok p k).kind==3&&(tok p k).s==s
def wrong (p:RS):RS:=p.fail 7 (tok p 0).at_
def want (p:RS) (s:Str):RS:=if p.code=0 then (if is p 0 s=true then p.next else wrong p) else p
def nameS (p:RS):RS:=if p.code=0 then (if (tok p 0).kind=2 then (if (tok p 0).s.length > 12 then p.fail 8 (tok p 0).at_ else p.next) else wrong p) else p
def deeper (p:RS) (d:Nat):RS:=if d > 60 then p.fail 9 (tok p 0).at_ else p
mutual
def iE:Nat→Job→RS→Option (T × RS)
 | 0,_,_=>none
 | f+1,.expr d,p=>if (deeper p d).code=0 then iE f (.level 0 (d+1)) (deeper p d) else some (T.zero,deeper p d)
 | f+1,.level k d,p =>
  if k=9 then iE f (.operand d) p
  else match iE f (.level (k+1) d) p with
   | none=>none
   | some (out,p)=>iE f (.loop k d out) p
 | f+1,.loop k d out,p =>
  if p.code=0∧(tok p 0).kind=3∧(levels.getD k []).contains (tok p 0).s=true then
   match iE f (.level (k+1) d) p.next with
   | none=>none
   | some (b,q)=>iE f (.loop k d (one 6 (tok p 0).at_ (tok p 0).s [out,b])) q
  else some (out,p)
 | f+1,.operand d,p =>
  if (deeper p d).code=0 then
   if is p 0 [45]=true∨is p 0 [33]=true∨is p 0 [126]=true then match iE f (.operand (d+1)) p.next with
    | none=>none
    | some (a,q)=>some (one 5 (tok p 0).at_ (tok p 0).s [a],q)
   else if (tok p 0).kind=1 then some (.mk ⟨1,(tok p 0).at_,(tok p 0).n,[],[]⟩ [],p.next)
   else if is p 0 [40]=true then match iE f (.expr (d+1)) p.next with
    | none=>none
    | some (a,q)=>some (a,want q [41])
   else if (nameS p).code=0 then
    if is (nameS p) 0 [91]=true then match iE f (.expr (d+1)) (nameS p).next with
     | none=>none
     | some (a,q)=>some (one 3 (tok p 0).at_ (tok p 0).s [a],want q [93])
    else if is (nameS p) 0 [40]=true then match iA f (d+1) [] (nameS p).next with
     | none=>none
     | some (l,q)=>some (one 4 (tok p 0).at_ (tok p 0).s l,q)
    else some (one 2 (tok p 0).at_ (tok p 0).s [],nameS p)
   else some (one 2 (tok p 0).at_ (tok p 0).s [],nameS p)
  else some (T.zero,deeper p d)
def iA:Nat→Nat→List T→RS→Option (List T × RS)
 | 0,_,_,_=>none
 | f+1,d,acc,p =>
  if p.code=0∧is p 0 [41]=false then match iE f (.expr d) (if acc.length=0 then p else want p [44]) with
   | none=>none
   | some (a,q)=>iA f d (acc++[a]) q
  else some (acc,want p [41])
end
section
variable {p q:RS} {ts r:List Tok}
theorem On.tok (h:On p ts) (k:Nat):tok p k=(match ts[k]? with | some t=>t | none=>⟨0,0,[],p.e⟩):=by unfold Im.tok;rw [h.at]
theorem On.tok0 (h:On p ts):(Im.tok p 0).at_=Go.Xp.place p.e ts:=by
 rw [On.tok h]
 cases ts with
 | nil=>rfl
 | cons t r=>rfl
theorem On.is (h:On p ts) (k:Nat) {s:Str} (hs:s≠[]):is p k s=decide (sign ts k=s):=by
 unfold Im.is
 have he:sign ts k=(if (Im.tok p k).kind=3 then (Im.tok p k).s else []):=by
  unfold Go.Xp.sign
  rw [On.tok h]
  cases hk:ts[k]? with
  | none=>simp
  | some t=>rfl
 rw [he]
 by_cases h3:(Im.tok p k).kind=3
 ·rw [if_pos h3,Bool.eq_iff_iff];simp [h3]
 ·rw [if_neg h3,Bool.eq_iff_iff];simp [h3];exact hs
theorem want_err (h:p.code≠0) (s:Str):want p s=p:=by unfold want;rw [if_neg h]
theorem deeper_err (h:p.code≠0) (d:Nat):deeper p d=p:=by unfold deeper;split <;> simp [fail_err h]
theorem nameS_err (h:p.code≠0):nameS p=p:=by unfold nameS;rw [if_neg h]
theorem On.wrong (h:On p ts):Aft p (wrong p) (.error (7,place p.e ts)):=by
 unfold Im.wrong;rw [On.tok0 h];exact h.fail 7 _ (by decide)
theorem On.want (h:On p ts) {s:Str} (hs:s≠[]):Aft p (want p s) (Go.Xp.must p.e s ts):=by
 unfold Im.want Go.Xp.must
 rw [if_pos h.code,On.is h 0 hs]
 by_cases h0:sign ts 0=s
 ·rw [if_pos (by simpa using h0),if_pos h0]
  obtain ⟨t,ht,_⟩:=sign_cons hs h0
  rw [ht] at h
  exact h.next
 ·rw [if_neg (by simpa using h0),if_neg h0]
  exact On.wrong h
theorem want_or (h:On p ts) {s:Str} (hs:s≠[]):(∃ r,Go.Xp.must p.e s ts=.ok r∧Aft p (Im.want p s) (.ok r))∨(∃ x,Go.Xp.must p.e s ts=.error x∧Aft p (Im.want p s) (.error x)):=by
 have h:=On.want h hs
 cases he:Go.Xp.must p.e s ts with
 | ok r=>rw [he] at h;exact .inl ⟨r,rfl,h⟩
 | error x=>rw [he] at h;exact .inr ⟨x,rfl,h⟩
theorem nameS_or (h:On p ts):(∃ r,Go.Xp.name p.e ts=.ok ((Im.tok p 0).s,r)∧Aft p (Im.nameS p) (.ok r))∨(∃ x,Go.Xp.name p.e ts=.error x∧Aft p (Im.nameS p) (.error x)):=by
 have ht:=On.tok h 0
 have hw:=On.wrong h
 unfold Im.nameS
 rw [if_pos h.code]
 cases ts with
 | nil =>
  simp only [List.getElem?_nil] at ht
  rw [ht];exact .inr ⟨_,rfl,by rw [if_neg (by simp)];exact hw⟩
 | cons t r =>
  simp only [List.getElem?_cons_zero] at ht
  rw [ht]
  simp only [Go.Xp.name]
  by_cases h2:t.kind=2
  ·rw [if_pos h2,if_pos h2]
   by_cases hl:t.s.length > 12
   ·rw [if_pos hl,if_pos hl];exact .inr ⟨_,rfl,h.fail 8 _ (by decide)⟩
   ·rw [if_neg hl,if_neg hl];exact .inl ⟨r,rfl,h.next⟩
  ·rw [if_neg h2,if_neg h2];exact .inr ⟨_,rfl,hw⟩
theorem iE_err (h:p.code≠0) {g d:Nat} (hg:1≤g):iE g (.expr d) p=some (T.zero,p):=by
 obtain ⟨g,rfl⟩:∃ g',g=g'+1:=⟨g - 1,by omega⟩
 rw [iE,deeper_err h,if_neg h]
theorem iL_err (h:p.code≠0) {g k d:Nat} {out:T} (hg:1≤g):iE g (.loop k d out) p=some (out,p):=by
 obtain ⟨g,rfl⟩:∃ g',g=g'+1:=⟨g - 1,by omega⟩
 rw [iE,if_neg (fun h0=>h h0.1)]
end
structure IE (f:Nat):Prop where
 expr:∀ d ts p,On p ts→rd p.e f (.expr d) ts≠.error fuelOut→∃ t q,(∀ g,f+2≤g→iE g (.expr d) p=some (t,q))∧Res p q t (rd p.e f (.expr d) ts)
 level:∀ k d ts p,k≤9→On p ts→rd p.e f (.level k d) ts≠.error fuelOut→∃ t q,(∀ g,f+2≤g→iE g (.level k d) p=some (t,q))∧Res p q t (rd p.e f (.level k d) ts)
 loop:∀ k d out ts p,k < 9→On p ts→rd p.e f (.loop k d out) ts≠.error fuelOut→∃ t q,(∀ g,f+2≤g→iE g (.loop k d out) p=some (t,q))∧Res p q t (rd p.e f (.loop k d out) ts)
 operand:∀ d ts p,On p ts→rd p.e f (.operand d) ts≠.error fuelOut→∃ t q,(∀ g,f+2≤g→iE g (.operand d) p=some (t,q))∧Res p q t (rd p.e f (.operand d) ts)
 args:∀ d acc ts p,On p ts→rd.args p.e f d acc ts≠.error fuelOut→∃ t q,(∀ g,f+2≤g→iA g d acc p=some (t,q))∧Res p q t (rd.args p.e f d acc ts)
theorem up1 {f g:Nat} (h:f+1+2≤g):∃ g',g=g'+1∧f+2≤g':=⟨g - 1,by omega,by omega⟩
theorem ie (f:Nat):IE f:=by
 induction f with
 | zero =>
  refine ⟨fun d ts p _ h=>absurd ?_ h,fun k d ts p _ _ h=>absurd ?_ h,fun k d out ts p _ _ h=>absurd ?_ h,fun d ts p _ h=>absurd ?_ h,fun d acc ts p _ h=>absurd ?_ h⟩ <;> simp [rd,rd.args]
 | succ f C =>
  refine ⟨fun d ts p hp h=>?_,fun k d ts p hk hp h=>?_,fun k d out ts p hk hp h=>?_,fun d ts p hp h=>?_,fun d acc ts p hp h=>?_⟩
  ·rw [rd] at h ⊢
   by_cases hd:d > 60
   ·rw [if_pos hd] at h ⊢
    have hf:=hp.fail 9 (tok p 0).at_ (by decide)
    refine ⟨T.zero,p.fail 9 (tok p 0).at_,fun g hg=>?_,by rw [←On.tok0 hp];exact hf⟩
    obtain ⟨g,rfl,hg⟩:=up1 hg
    have hdd:deeper p d=p.fail 9 (tok p 0).at_:=by unfold deeper;rw [if_pos hd]
    rw [iE,hdd,if_neg hf.err]
   ·rw [if_neg hd] at h ⊢
    have hdd:deeper p d=p:=by unfold deeper;rw [if_neg hd]
    obtain ⟨t,q,h1,h2⟩:=C.level 0 (d+1) ts p (by omega) hp h
    refine ⟨t,q,fun g hg=>?_,h2⟩
    obtain ⟨g,rfl,hg⟩:=up1 hg
    rw [iE,hdd,if_pos hp.code]
    exact h1 g (by omega)
  ·rw [rd] at h ⊢
   by_cases h9:k=9
   ·rw [if_pos h9] at h ⊢
    obtain ⟨t,q,h1,h2⟩:=C.operand d ts p hp h
    refine ⟨t,q,fun g hg=>?_,h2⟩
    obtain ⟨g,rfl,hg⟩:=up1 hg
    rw [iE,if_pos h9]
    exact h1 g (by omega)
   ·rw [if_neg h9] at h ⊢
    cases he:rd p.e f (.level (k+1) d) ts with
    | error x =>
     rw [he] at h
     have hx:x≠fuelOut:=fun h0=>h (by rw [h0])
     obtain ⟨t,q,h1,h2⟩:=C.level (k+1) d ts p (by omega) hp (by rw [he];intro h0;cases h0;exact hx rfl)
     rw [he] at h2
     refine ⟨t,q,fun g hg=>?_,h2⟩
     obtain ⟨g,rfl,hg⟩:=up1 hg
     rw [iE,if_neg h9,h1 g (by omega)]
     exact iL_err (Aft.err h2) (by omega)
    | ok r =>
     obtain ⟨t',r⟩:=r
     rw [he] at h
     simp only at h ⊢
     obtain ⟨t,q,h1,h2⟩:=C.level (k+1) d ts p (by omega) hp (by rw [he];intro h0;cases h0)
     rw [he] at h2
     obtain ⟨rfl,h2⟩:=h2
     rw [←h2.2.2] at h ⊢
     obtain ⟨t3,q3,h3,h4⟩:=C.loop k d t r q (by omega) h2.1 h
     refine ⟨t3,q3,fun g hg=>?_,Res.tr h2 h4⟩
     obtain ⟨g,rfl,hg⟩:=up1 hg
     rw [iE,if_neg h9,h1 g (by omega)]
     exact h3 g (by omega)
  ·cases ts with
   | nil =>
    rw [rd]
    refine ⟨out,p,fun g hg=>?_,rfl,hp.self⟩
    obtain ⟨g,rfl,hg⟩:=up1 hg
    rw [iE,if_neg]
    rintro ⟨_,h0,_⟩
    rw [On.tok hp] at h0;simp at h0
   | cons t r =>
    rw [rd] at h ⊢
    have ht:tok p 0=t:=by rw [On.tok hp];rfl
    by_cases hc:t.kind=3∧t.s∈levels.getD k []
    ·rw [if_pos hc] at h ⊢
     have hn:=hp.next
     have hcond:p.code=0∧(tok p 0).kind=3∧(levels.getD k []).contains (tok p 0).s=true:=by rw [ht];exact ⟨hp.code,hc.1,by simpa using hc.2⟩
     rw [show p.e=p.next.e from rfl] at h ⊢
     cases he:rd p.next.e f (.level (k+1) d) r with
     | error x =>
      rw [he] at h
      have hx:x≠fuelOut:=fun h0=>h (by rw [h0])
      obtain ⟨b,q,h1,h2⟩:=C.level (k+1) d r p.next (by omega) hn.1 (by rw [he];intro h0;cases h0;exact hx rfl)
      rw [he] at h2
      refine ⟨one 6 t.at_ t.s [out,b],q,fun g hg=>?_,hn.tr (y:=.error x) h2⟩
      obtain ⟨g,rfl,hg⟩:=up1 hg
      rw [iE,if_pos hcond,h1 g (by omega),ht]
      exact iL_err (Aft.err h2) (by omega)
     | ok x =>
      obtain ⟨b',r'⟩:=x
      rw [he] at h
      simp only at h ⊢
      obtain ⟨b,q,h1,h2⟩:=C.level (k+1) d r p.next (by omega) hn.1 (by rw [he];intro h0;cases h0)
      rw [he] at h2
      obtain ⟨rfl,h2⟩:=h2
      rw [←h2.2.2] at h ⊢
      obtain ⟨t3,q3,h3,h4⟩:=C.loop k d (one 6 t.at_ t.s [out,b]) r' q hk h2.1 h
      refine ⟨t3,q3,fun g hg=>?_,Res.tr (hn.tr h2) h4⟩
      obtain ⟨g,rfl,hg⟩:=up1 hg
      rw [iE,if_pos hcond,h1 g (by omega),ht]
      exact h3 g (by omega)
    ·rw [if_neg hc]
     refine ⟨out,p,fun g hg=>?_,rfl,hp.self⟩
     obtain ⟨g,rfl,hg⟩:=up1 hg
     rw [iE,if_neg]
     rw [ht];rintro ⟨_,h0,h1⟩
     exact hc ⟨h0,by simpa using h1⟩
  ·rw [rd.eq_def] at h ⊢
   simp only at h ⊢
   by_cases hd:d > 60
   ·rw [if_pos hd] at h ⊢
    have hf:=hp.fail 9 (tok p 0).at_ (by decide)
    refine ⟨T.zero,p.fail 9 (tok p 0).at_,fun g hg=>?_,by rw [←On.tok0 hp];exact hf⟩
    obtain ⟨g,rfl,hg⟩:=up1 hg
    have hdd:deeper p d=p.fail 9 (tok p 0).at_:=by unfold deeper;rw [if_pos hd]
    rw [iE,hdd,if_neg hf.err]
   ·rw [if_neg hd] at h ⊢
    have hdd:deeper p d=p:=by unfold deeper;rw [if_neg hd]
    have hi:∀ s:Str,s≠[]→is p 0 s=decide (sign ts 0=s):=fun s hs=>On.is hp 0 hs
    cases ts with
    | nil =>
     simp only
     have ht:tok p 0=⟨0,0,[],p.e⟩:=by rw [On.tok hp];rfl
     have hno:∀ s:Str,s≠[]→is p 0 s=false:=fun s hs=>by rw [hi s hs];exact decide_eq_false (fun h=>hs h.symm)
     have hns:nameS p=p.fail 7 p.e:=by unfold nameS;rw [if_pos hp.code,ht,if_neg (by simp)];unfold wrong;rw [ht]
     have hf:=hp.fail 7 p.e (by decide)
     refine ⟨one 2 p.e [] [],p.fail 7 p.e,fun g hg=>?_,hf⟩
     obtain ⟨g,rfl,hg⟩:=up1 hg
     rw [iE,hdd,if_pos hp.code,hno _ (by decide),hno _ (by decide),hno _ (by decide),if_neg (by decide),if_neg (by rw [ht];simp),hno _ (by decide),if_neg (by decide),hns,if_neg hf.err,ht]
    | cons t r =>
     simp only at h ⊢
     have ht:tok p 0=t:=by rw [On.tok hp];rfl
     have hn:=hp.next
     by_cases h3:t.kind=3
     ·rw [if_pos h3] at h ⊢
      have hsg:sign (t::r) 0=t.s:=by simp only [sign,List.getElem?_cons_zero,signOf,h3,if_true]
      have h31:¬ t.kind=1:=by omega
      have hi':∀ s:Str,s≠[]→is p 0 s=decide (t.s=s):=fun s hs=>by rw [hi s hs,hsg]
      by_cases hu:t.s=[45]∨t.s=[33]∨t.s=[126]
      ·rw [if_pos hu] at h ⊢
       have hu':is p 0 [45]=true∨is p 0 [33]=true∨is p 0 [126]=true:=by
        rw [hi' _ (by decide),hi' _ (by decide),hi' _ (by decide)];simpa using hu
       rw [show p.e=p.next.e from rfl] at h ⊢
       cases he:rd p.next.e f (.operand (d+1)) r with
       | error x =>
        rw [he] at h
        have hx:x≠fuelOut:=fun h0=>h (by rw [h0])
        obtain ⟨b,q,h1,h2⟩:=C.operand (d+1) r p.next hn.1 (by rw [he];intro h0;cases h0;exact hx rfl)
        rw [he] at h2
        refine ⟨one 5 t.at_ t.s [b],q,fun g hg=>?_,hn.tr (y:=.error x) h2⟩
        obtain ⟨g,rfl,hg⟩:=up1 hg
        rw [iE,hdd,if_pos hp.code,if_pos hu',h1 g (by omega),ht]
       | ok x =>
        obtain ⟨b',r'⟩:=x
        rw [he] at h
        simp only at h ⊢
        obtain ⟨b,q,h1,h2⟩:=C.operand (d+1) r p.next hn.1 (by rw [he];intro h0;cases h0)
        rw [he] at h2
        obtain ⟨rfl,h2⟩:=h2
        refine ⟨one 5 t.at_ t.s [b],q,fun g hg=>?_,rfl,hn.tr h2⟩
        obtain ⟨g,rfl,hg⟩:=up1 hg
        rw [iE,hdd,if_pos hp.code,if_pos hu',h1 g (by omega),ht]
      ·rw [if_neg hu] at h ⊢
       have hu':¬ (is p 0 [45]=true∨is p 0 [33]=true∨is p 0 [126]=true):=by
        rw [hi' _ (by decide),hi' _ (by decide),hi' _ (by decide)];simpa using hu
       by_cases hb:t.s=[40]
       ·rw [if_pos hb] at h ⊢
        have hb':is p 0 [40]=true:=by rw [hi' _ (by decide)];simpa using hb
        rw [show p.e=p.next.e from rfl] at h ⊢
        cases he:rd p.next.e f (.expr (d+1)) r with
        | error x =>
         rw [he] at h
         have hx:x≠fuelOut:=fun h0=>h (by rw [h0])
         obtain ⟨b,q,h1,h2⟩:=C.expr (d+1) r p.next hn.1 (by rw [he];intro h0;cases h0;exact hx rfl)
         rw [he] at h2
         refine ⟨b,want q [41],fun g hg=>?_,?_⟩
         ·obtain ⟨g,rfl,hg⟩:=up1 hg
          rw [iE,hdd,if_pos hp.code,if_neg hu',if_neg (by rw [ht];exact h31),if_pos hb',h1 g (by omega)]
         ·rw [want_err (Aft.err h2)];exact hn.tr (y:=.error x) h2
        | ok x =>
         obtain ⟨b',r'⟩:=x
         rw [he] at h
         simp only at h ⊢
         obtain ⟨b,q,h1,h2⟩:=C.expr (d+1) r p.next hn.1 (by rw [he];intro h0;cases h0)
         rw [he] at h2
         obtain ⟨rfl,h2⟩:=h2
         have hall:=(hn.tr h2).tr (On.want h2.1 (s:=[41]) (by decide))
         rw [h2.2.2] at hall
         refine ⟨b,want q [41],fun g hg=>?_,?_⟩
         ·obtain ⟨g,rfl,hg⟩:=up1 hg
          rw [iE,hdd,if_pos hp.code,if_neg hu',if_neg (by rw [ht];exact h31),if_pos hb',h1 g (by omega)]
         ·cases hmm:must p.next.e [41] r' with
          | error x=>rw [hmm] at hall;exact hall
          | ok r2=>rw [hmm] at hall;exact ⟨rfl,hall⟩
       ·rw [if_neg hb] at h ⊢
        have hb':¬ is p 0 [40]=true:=by rw [hi' _ (by decide)];simpa using hb
        have hns:nameS p=p.fail 7 t.at_:=by unfold nameS;rw [if_pos hp.code,ht,if_neg (by omega)];unfold wrong;rw [ht]
        have hf:=hp.fail 7 t.at_ (by decide)
        refine ⟨one 2 t.at_ t.s [],p.fail 7 t.at_,fun g hg=>?_,hf⟩
        obtain ⟨g,rfl,hg⟩:=up1 hg
        rw [iE,hdd,if_pos hp.code,if_neg hu',if_neg (by rw [ht];exact h31),if_neg hb',hns,if_neg hf.err,ht]
     ·rw [if_neg h3] at h ⊢
      have hno:∀ s:Str,s≠[]→is p 0 s=false:=fun s hs=>by unfold is;rw [ht];simp [h3]
      have hu':¬ (is p 0 [45]=true∨is p 0 [33]=true∨is p 0 [126]=true):=by rw [hno _ (by decide),hno _ (by decide),hno _ (by decide)];decide
      by_cases h1:t.kind=1
      ·rw [if_pos h1]
       refine ⟨_,p.next,fun g hg=>?_,rfl,hn⟩
       obtain ⟨g,rfl,hg⟩:=up1 hg
       rw [iE,hdd,if_pos hp.code,if_neg hu',if_pos (by rw [ht];exact h1),ht]
      ·rw [if_neg h1] at h ⊢
       have h1':¬ (tok p 0).kind=1:=by rw [ht];exact h1
       have hb':¬ is p 0 [40]=true:=by rw [hno _ (by decide)];decide
       rcases nameS_or hp with ⟨r',k1,k2⟩ | ⟨x,k1,k2⟩
       ·rw [k1] at h ⊢
        simp only at h ⊢
        have hi2:∀ s:Str,s≠[]→is (nameS p) 0 s=decide (sign r' 0=s):=fun s hs=>On.is k2.1 0 hs
        by_cases hb:sign r' 0=[91]
        ·rw [if_pos hb] at h ⊢
         have hbi:is (nameS p) 0 [91]=true:=by rw [hi2 _ (by decide)];simpa using hb
         obtain ⟨tb,htb,_⟩:=sign_cons (by decide) hb
         have hn2:=k2.1;rw [htb] at hn2
         have hn2:=k2.tr hn2.next
         rw [←hn2.2.2] at h ⊢
         cases he:rd (nameS p).next.e f (.expr (d+1)) r'.tail with
         | error x =>
          rw [he] at h
          have hx:x≠fuelOut:=fun h0=>h (by rw [h0])
          obtain ⟨b,q,k3,k4⟩:=C.expr (d+1) r'.tail (nameS p).next hn2.1 (by rw [he];intro h0;cases h0;exact hx rfl)
          rw [he] at k4
          refine ⟨one 3 t.at_ (tok p 0).s [b],want q [93],fun g hg=>?_,?_⟩
          ·obtain ⟨g,rfl,hg⟩:=up1 hg
           rw [iE,hdd,if_pos hp.code,if_neg hu',if_neg h1',if_neg hb',if_pos k2.1.code,if_pos hbi,k3 g (by omega)]
           simp only [ht]
          ·rw [want_err (Aft.err k4)];exact hn2.tr (y:=.error x) k4
         | ok x =>
          obtain ⟨b',r2⟩:=x
          rw [he] at h
          simp only at h ⊢
          obtain ⟨b,q,k3,k4⟩:=C.expr (d+1) r'.tail (nameS p).next hn2.1 (by rw [he];intro h0;cases h0)
          rw [he] at k4
          obtain ⟨rfl,k4⟩:=k4
          have hall:=(hn2.tr k4).tr (On.want k4.1 (s:=[93]) (by decide))
          rw [k4.2.2] at hall
          refine ⟨one 3 t.at_ (tok p 0).s [b],want q [93],fun g hg=>?_,?_⟩
          ·obtain ⟨g,rfl,hg⟩:=up1 hg
           rw [iE,hdd,if_pos hp.code,if_neg hu',if_neg h1',if_neg hb',if_pos k2.1.code,if_pos hbi,k3 g (by omega)]
           simp only [ht]
          ·cases hmm:must (nameS p).next.e [93] r2 with
           | error x=>rw [hmm] at hall;exact hall
           | ok r3=>rw [hmm] at hall;exact ⟨rfl,hall⟩
        ·rw [if_neg hb] at h ⊢
         have hbi:¬ is (nameS p) 0 [91]=true:=by rw [hi2 _ (by decide)];simpa using hb
         by_cases hc:sign r' 0=[40]
         ·rw [if_pos hc] at h ⊢
          have hci:is (nameS p) 0 [40]=true:=by rw [hi2 _ (by decide)];simpa using hc
          obtain ⟨tb,htb,_⟩:=sign_cons (by decide) hc
          have hn2:=k2.1;rw [htb] at hn2
          have hn2:=k2.tr hn2.next
          rw [←hn2.2.2] at h ⊢
          cases he:rd.args (nameS p).next.e f (d+1) [] r'.tail with
          | error x =>
           rw [he] at h
           have hx:x≠fuelOut:=fun h0=>h (by rw [h0])
           obtain ⟨b,q,k3,k4⟩:=C.args (d+1) [] r'.tail (nameS p).next hn2.1 (by rw [he];intro h0;cases h0;exact hx rfl)
           rw [he] at k4
           refine ⟨one 4 t.at_ (tok p 0).s b,q,fun g hg=>?_,hn2.tr (y:=.error x) k4⟩
           obtain ⟨g,rfl,hg⟩:=up1 hg
           rw [iE,hdd,if_pos hp.code,if_neg hu',if_neg h1',if_neg hb',if_pos k2.1.code,if_neg hbi,if_pos hci,k3 g (by omega)]
           simp only [ht]
          | ok x =>
           obtain ⟨b',r2⟩:=x
           rw [he] at h
           obtain ⟨b,q,k3,k4⟩:=C.args (d+1) [] r'.tail (nameS p).next hn2.1 (by rw [he];intro h0;cases h0)
           rw [he] at k4
           obtain ⟨rfl,k4⟩:=k4
           refine ⟨one 4 t.at_ (tok p 0).s b,q,fun g hg=>?_,rfl,hn2.tr k4⟩
           obtain ⟨g,rfl,hg⟩:=up1 hg
           rw [iE,hdd,if_pos hp.code,if_neg hu',if_neg h1',if_neg hb',if_pos k2.1.code,if_neg hbi,if_pos hci,k3 g (by omega)]
           simp only [ht]
         ·rw [if_neg hc] at h ⊢
          have hci:¬ is (nameS p) 0 [40]=true:=by rw [hi2 _ (by decide)];simpa using hc
          refine ⟨one 2 t.at_ (tok p 0).s [],nameS p,fun g hg=>?_,rfl,k2⟩
          obtain ⟨g,rfl,hg⟩:=up1 hg
          rw [iE,hdd,if_pos hp.code,if_neg hu',if_neg h1',if_neg hb',if_pos k2.1.code,if_neg hbi,if_neg hci]
          simp only [ht]
       ·rw [k1] at h ⊢
        refine ⟨one 2 t.at_ (tok p 0).s [],nameS p,fun g hg=>?_,k2⟩
        obtain ⟨g,rfl,hg⟩:=up1 hg
        rw [iE,hdd,if_pos hp.code,if_neg hu',if_neg h1',if_neg hb',if_neg k2.err]
        simp only [ht]
  ·rw [rd.args] at h ⊢
   have hi:is p 0 [41]=decide (sign ts 0=[41]):=On.is hp 0 (by decide)
   by_cases hb:sign ts 0=[41]
   ·rw [if_pos hb]
    have hm:=On.want hp (s:=[41]) (by decide)
    unfold Go.Xp.must at hm
    rw [if_pos hb] at hm
    refine ⟨acc,want p [41],fun g hg=>?_,rfl,hm⟩
    obtain ⟨g,rfl,hg⟩:=up1 hg
    rw [iA,if_neg (fun h0=>by rw [hi] at h0;simp [hb] at h0)]
   ·rw [if_neg hb] at h ⊢
    have hcond:p.code=0∧is p 0 [41]=false:=⟨hp.code,by rw [hi];simpa using hb⟩
    have key:∀ (p':RS) (ts':List Tok),Aft p p' (.ok ts')→(if acc.length=0 then p else want p [44])=p'→(match rd p.e f (.expr d) ts' with | .error x=>.error x | .ok (a,ts)=>rd.args p.e f d (acc++[a]) ts:Rd (List T))≠.error fuelOut →
      ∃ t q,(∀ g,f+1+2≤g→iA g d acc p=some (t,q))∧Res p q t (match rd p.e f (.expr d) ts' with | .error x=>.error x | .ok (a,ts)=>rd.args p.e f d (acc++[a]) ts):=by
     intro p' ts' hn hif h
     rw [←hn.2.2] at h ⊢
     cases he:rd p'.e f (.expr d) ts' with
     | error x =>
      rw [he] at h
      have hx:x≠fuelOut:=fun h0=>h (by rw [h0])
      obtain ⟨b,q,k1,k2⟩:=C.expr d ts' p' hn.1 (by rw [he];intro h0;cases h0;exact hx rfl)
      rw [he] at k2
      refine ⟨acc++[b],q,fun g hg=>?_,hn.tr (y:=.error x) k2⟩
      obtain ⟨g,rfl,hg⟩:=up1 hg
      rw [iA,if_pos hcond,hif,k1 g (by omega)]
      simp only
      obtain ⟨g,rfl⟩:∃ g',g=g'+1:=⟨g - 1,by omega⟩
      rw [iA,if_neg (fun h0=>Aft.err k2 h0.1),want_err (Aft.err k2)]
     | ok x =>
      obtain ⟨b',r'⟩:=x
      rw [he] at h
      simp only at h ⊢
      obtain ⟨b,q,k1,k2⟩:=C.expr d ts' p' hn.1 (by rw [he];intro h0;cases h0)
      rw [he] at k2
      obtain ⟨rfl,k2⟩:=k2
      rw [←k2.2.2] at h ⊢
      obtain ⟨t3,q3,h3,h4⟩:=C.args d (acc++[b]) r' q k2.1 h
      refine ⟨t3,q3,fun g hg=>?_,Res.tr (hn.tr k2) h4⟩
      obtain ⟨g,rfl,hg⟩:=up1 hg
      rw [iA,if_pos hcond,hif,k1 g (by omega)]
      exact h3 g (by omega)
    cases acc with
    | nil =>
     rw [if_pos rfl] at h ⊢
     exact key p ts hp.self rfl h
    | cons a0 acc0 =>
     rw [if_neg (by simp)] at h ⊢
     rcases want_or hp (s:=[44]) (by decide) with ⟨r',k1,k2⟩ | ⟨x,k1,k2⟩
     ·rw [k1] at h ⊢
      exact key _ r' k2 (if_neg (by simp)) h
     ·rw [k1]
      refine ⟨a0::acc0++[T.zero],want p [44],fun g hg=>?_,k2⟩
      obtain ⟨g,rfl,hg⟩:=up1 hg
      rw [iA,if_pos hcond,if_neg (by simp),iE_err k2.err (by omega)]
      simp only
      obtain ⟨g,rfl⟩:∃ g',g=g'+1:=⟨g - 1,by omega⟩
      rw [iA,if_neg (fun h0=>k2.err h0.1),want_err k2.err]
end Go.Im
namespace Go.Xp
abbrev Srt (ts:List Tok):Prop:=ts.Pairwise fun a b=>a.at_ < b.at_
theorem must_suf {e:Int} {s:Str} {ts r:List Tok} (hs:s≠[]) (h:must e s ts=.ok r):∃ u,ts=u::r∧u.kind=3∧u.s=s:=by
 obtain ⟨h1,h2⟩:=must_ok h
 obtain ⟨t,h3,h4,h5⟩:=Go.Sp.sign_cons hs h2
 exact ⟨t,by rw [h1];exact h3,h4,h5⟩
theorem name_suf {e:Int} {s:Str} {ts r:List Tok} (h:name e ts=.ok (s,r)):∃ u,ts=u::r∧u.kind=2∧u.s=s∧s.length≤12:=by
 cases ts with
 | nil=>cases h
 | cons t ts =>
  rw [name] at h
  split at h
  ·split at h
   ·cases h
   ·cases h;exact ⟨t,rfl,by assumption,rfl,by omega⟩
  ·cases h
theorem sign_suf {s:Str} {ts:List Tok} (hs:s≠[]) (h:sign ts 0=s):∃ u,ts=u::ts.tail∧u.kind=3∧u.s=s:=Go.Sp.sign_cons hs h
def Took (ts r:List Tok) (t:T):Prop:=∃ a pre,ts=a::(pre++r)∧(Srt ts→a.at_≤t.n.at_∧(t.n.kind=3→t.n.at_=a.at_→a.kind=2∧∃ pre' w,a::pre=pre'++[w]∧w.s=[93]))
def Looped (ts r:List Tok) (out t:T):Prop:=(t=out∧r=ts)∨(t.n.kind=6∧∃ pre,ts=pre++r∧∃ u∈ts,t.n.at_=u.at_)
theorem rd_took (e:Int):∀ f,(∀ j ts t r,(∀ k d out,j≠.loop k d out)→rd e f j ts=.ok (t,r)→Took ts r t)∧(∀ k d out ts t r,rd e f (.loop k d out) ts=.ok (t,r)→Looped ts r out t)∧(∀ d acc ts l r,rd.args e f d acc ts=.ok (l,r)→∃ pre,ts=pre++r∧pre≠[]):=by
 intro f
 induction f with
 | zero=>exact ⟨fun j ts t r _ h=>by simp [rd] at h,fun k d out ts t r h=>by simp [rd] at h,fun d acc ts l r h=>by simp [rd.args] at h⟩
 | succ f ih =>
  obtain ⟨i1,i2,i3⟩:=ih
  refine ⟨fun j ts t r hj h=>?_,fun k d out ts t r h=>?_,fun d acc ts l r h=>?_⟩
  ·rw [rd.eq_def] at h
   cases j with
   | expr d =>
    simp only at h
    split at h
    ·cases h
    ·exact i1 _ _ _ _ (fun k d out h=>by cases h) h
   | level k d =>
    simp only at h
    split at h
    ·exact i1 _ _ _ _ (fun k d out h=>by cases h) h
    ·split at h
     ·cases h
     ·rename_i out ts' he
      have h1:=i1 _ _ _ _ (fun k d out h=>by cases h) he
      have h2:=i2 _ _ _ _ _ _ h
      rcases h2 with ⟨rfl,rfl⟩ | ⟨h3,pre2,rfl,u,hu,h4⟩
      ·exact h1
      ·obtain ⟨a,pre,rfl,h5⟩:=h1
       refine ⟨a,pre++pre2,by simp,fun hs=>⟨?_,fun h6=>by omega⟩⟩
       rw [h4]
       rw [Srt,List.pairwise_cons] at hs
       exact Int.le_of_lt (hs.1 u (List.mem_append_right _ hu))
   | loop k d out=>exact absurd rfl (hj _ _ _)
   | operand d =>
    simp only at h
    split at h
    ·cases h
    ·cases ts with
     | nil=>cases h
     | cons a r' =>
      simp only at h
      split at h
      ·rename_i h3
       split at h
       ·split at h
        ·cases h
        ·rename_i b r2 he
         cases h
         obtain ⟨a2,pre,rfl,_⟩:=i1 _ _ _ _ (fun k d out h=>by cases h) he
         exact ⟨a,a2::pre,by simp,fun _=>⟨by simp [one,T.n],fun h=>by simp [one,T.n] at h⟩⟩
       ·split at h
        ·split at h
         ·cases h
         ·rename_i b r2 he
          split at h
          ·cases h
          ·rename_i r3 hm
           cases h
           obtain ⟨a2,pre,rfl,h5⟩:=i1 _ _ _ _ (fun k d out h=>by cases h) he
           obtain ⟨w,rfl,_,_⟩:=must_suf (by decide) hm
           refine ⟨a,a2::(pre++[w]),by simp,fun hs=>?_⟩
           rw [Srt,List.pairwise_cons] at hs
           have h6:=(h5 hs.2).1
           have h7:=hs.1 a2 (by simp)
           exact ⟨by omega,fun _ h8=>by omega⟩
        ·cases h
      ·split at h
       ·cases h
        exact ⟨a,[],rfl,fun _=>⟨Int.le_refl _,fun h=>by simp [T.n] at h⟩⟩
       ·split at h
        ·cases h
        ·rename_i s r2 hn
         obtain ⟨u,hu,hk,_⟩:=name_suf hn
         cases hu
         split at h
         ·rename_i hs
          obtain ⟨w,hw,_,_⟩:=sign_suf (by decide) hs
          split at h
          ·cases h
          ·rename_i b r3 he
           split at h
           ·cases h
           ·rename_i r4 hm
            cases h
            obtain ⟨a2,pre,h4,h5⟩:=i1 _ _ _ _ (fun k d out h=>by cases h) he
            obtain ⟨z,rfl,_,hz⟩:=must_suf (by decide) hm
            refine ⟨a,w::a2::(pre++[z]),by rw [hw,h4];simp,fun _=>⟨Int.le_refl _,fun _ _=>⟨hk,a::w::a2::pre,z,by simp,hz⟩⟩⟩
         ·split at h
          ·rename_i hs
           obtain ⟨w,hw,_,_⟩:=sign_suf (by decide) hs
           split at h
           ·cases h
           ·rename_i l r3 he
            cases h
            obtain ⟨pre,h4,_⟩:=i3 _ _ _ _ _ he
            exact ⟨a,w::pre,by rw [hw,h4];simp,fun _=>⟨Int.le_refl _,fun h=>by simp [one,T.n] at h⟩⟩
          ·cases h
           exact ⟨a,[],rfl,fun _=>⟨Int.le_refl _,fun h=>by simp [one,T.n] at h⟩⟩
  ·cases ts with
   | nil=>rw [rd] at h;cases h;exact .inl ⟨rfl,rfl⟩
   | cons a r' =>
    rw [rd] at h
    split at h
    ·split at h
     ·cases h
     ·rename_i b r2 he
      obtain ⟨a2,pre,rfl,_⟩:=i1 _ _ _ _ (fun k d out h=>by cases h) he
      rcases i2 _ _ _ _ _ _ h with ⟨rfl,rfl⟩ | ⟨h3,pre2,rfl,u,hu,h4⟩
      ·exact .inr ⟨rfl,a::a2::pre,by simp,a,by simp,rfl⟩
      ·exact .inr ⟨h3,a::a2::(pre++pre2),by simp,u,by simp at hu ⊢;rcases hu with h | h <;> simp [h],h4⟩
    ·cases h;exact .inl ⟨rfl,rfl⟩
  ·rw [rd.args] at h
   split at h
   ·rename_i hs
    obtain ⟨w,hw,_,_⟩:=sign_suf (by decide) hs
    cases h
    exact ⟨[w],by rw [hw];rfl,by simp⟩
   ·split at h
    ·cases h
    ·rename_i ts' hts
     split at h
     ·cases h
     ·rename_i a r' he
      obtain ⟨a2,pre,h4,_⟩:=i1 _ _ _ _ (fun k d out h=>by cases h) he
      obtain ⟨pre2,h5,_⟩:=i3 _ _ _ _ _ h
      split at hts
      ·cases hts
       exact ⟨a2::(pre++pre2),by rw [h4,h5];simp,by simp⟩
      ·obtain ⟨w,hw,_,_⟩:=must_suf (by decide) hts
       exact ⟨w::a2::(pre++pre2),by rw [hw,h4,h5];simp,by simp⟩
theorem expr_took {e:Int} {d:Nat} {ts r:List Tok} {t:T} (h:expr e d ts=.ok (t,r)):Took ts r t:=(rd_took e _).1 _ _ _ _ (fun k d out h=>by cases h) h
end Go.Xp
namespace Go.Im
open Go.Xp Go.Sp
def lastS (p:RS):Str:=match p.l[p.i - 1]? with | some t=>t.s | none=>[]
def putC (p q:RS) (e:T):Prop:=e.n.kind=3∧q.code=0∧lastS q=[93]∧e.n.at_=(tok p 0).at_∧(tok p 0).kind=2∧is q 0 [61]=true
instance (p q:RS) (e:T):Decidable (putC p q e):=by unfold putC;infer_instance
mutual
def iS:Nat→SJob→RS→Option (T × RS)
 | 0,_,_=>none
 | f+1,.block d,p =>
  if (deeper p d).code=0 then match iB f (d+1) [] (want p [123]) with
   | none=>none
   | some (l,q)=>some (one 14 (tok p 0).at_ [] l,want q [125])
  else some (one 14 (tok p 0).at_ [] [],deeper p d)
 | f+1,.stmt d,p =>
  if (deeper p d).code=0 then
   if is p 0 kwVar=true then match iE f (.expr (d+1)) (want (nameS p.next) [61]) with
    | none=>none
    | some (e,q)=>some (one 13 (tok p 0).at_ (tok p.next 0).s [e],want q [59])
   else if is p 0 kwIf=true∨is p 0 kwWhile=true then match iE f (.expr (d+1)) (want p.next [40]) with
    | none=>none
    | some (c,q)=>match iS f (.block (d+1)) (want q [41]) with
     | none=>none
     | some (b,q) =>
      if is p 0 kwIf=true∧q.code=0∧is q 0 kwElse=true then match iS f (.block (d+1)) q.next with
       | none=>none
       | some (b2,q)=>some (one 9 (tok p 0).at_ [] [c,b,b2],q)
      else some (one (if is p 0 kwIf=true then 9 else 10) (tok p 0).at_ [] [c,b],q)
   else if is p 0 kwReturn=true then match iE f (.expr (d+1)) p.next with
    | none=>none
    | some (e,q)=>some (one 11 (tok p 0).at_ [] [e],want q [59])
   else if (tok p 0).kind=2∧is p 1 [61]=true then match iE f (.expr (d+1)) (want (nameS p) [61]) with
    | none=>none
    | some (e,q)=>some (one 7 (tok p 0).at_ (tok p 0).s [e],want q [59])
   else match iE f (.expr (d+1)) p with
    | none=>none
    | some (e,q) =>
     if putC p q e then match e.kids,iE f (.expr (d+1)) (want q [61]) with
      | a::_,some (v,q)=>some (one 8 (tok p 0).at_ e.n.s [a,v],want q [59])
      | _,_=>none
     else some (one 12 (tok p 0).at_ [] [e],want q [59])
  else some (T.zero,deeper p d)
def iB:Nat→Nat→List T→RS→Option (List T × RS)
 | 0,_,_,_=>none
 | f+1,d,acc,p=>if p.code=0∧is p 0 [125]=false then match iS f (.stmt d) p with
   | none=>none
   | some (a,q)=>iB f d (acc++[a]) q
  else some (acc,p)
end
def KI (p:RS) (f:Nat):Nat:=f+20 * p.l.length+40
section
variable {p q:RS} {ts r:List Tok}
theorem iX_or {d g:Nat} (hp:On p ts) (hg:20 * p.l.length+20≤g):∃ t q,(∀ g,20 * p.l.length+20≤g→iE g (.expr d) p=some (t,q))∧((∃ r,expr p.e d ts=.ok (t,r)∧Aft p q (.ok r))∨(∃ x,expr p.e d ts=.error x∧Aft p q (.error x))):=by
 have hl:ts.length≤p.l.length:=by rw [←hp.rest,List.length_drop];omega
 have hf:rd p.e (20 * ts.length+12) (.expr d) ts≠.error fuelOut:=rd_fuel (j:=.expr d) trivial (Nat.le_refl _)
 obtain ⟨t,q,h1,h2⟩:=(ie _).expr d ts p hp hf
 rw [expr_at (Nat.le_refl _)] at h2
 refine ⟨t,q,fun g hg=>h1 g (by omega),?_⟩
 cases he:expr p.e d ts with
 | error x=>rw [he] at h2;exact .inr ⟨x,rfl,h2⟩
 | ok y=>obtain ⟨t',r⟩:=y;rw [he] at h2;obtain ⟨rfl,h2⟩:=h2;exact .inl ⟨r,rfl,h2⟩
theorem iThen {d:Nat} {b:Str} (hp:On p ts) (hb:b≠[]):∃ t q,(∀ g,20 * p.l.length+20≤g→iE g (.expr d) p=some (t,q))∧((∃ r r',expr p.e d ts=.ok (t,r)∧Go.Xp.must p.e b r=.ok r'∧Aft p (want q b) (.ok r'))∨(∃ r x,expr p.e d ts=.ok (t,r)∧Go.Xp.must p.e b r=.error x∧Aft p (want q b) (.error x))∨(∃ x,expr p.e d ts=.error x∧Aft p (want q b) (.error x))):=by
 obtain ⟨t,q,h1,h2⟩:=iX_or (d:=d) hp (Nat.le_refl _)
 refine ⟨t,q,h1,?_⟩
 rcases h2 with ⟨r,h2,h3⟩ | ⟨x,h2,h3⟩
 ·rcases want_or h3.1 hb with ⟨r',h4,h5⟩ | ⟨x,h4,h5⟩
  ·rw [h3.2.2] at h4;exact .inl ⟨r,r',h2,h4,h3.tr h5⟩
  ·rw [h3.2.2] at h4;exact .inr (.inl ⟨r,x,h2,h4,h3.tr h5⟩)
 ·exact .inr (.inr ⟨x,h2,by rw [want_err h3.err];exact h3⟩)
theorem iInner {d:Nat} {a b:Str} (hp:On p ts) (ha:a≠[]) (hb:b≠[]):∃ t q,(∀ g,20 * p.l.length+20≤g→iE g (.expr d) (want p a)=some (t,q))∧((∃ r,inner p.e d a b ts=.ok (t,r)∧Aft p (want q b) (.ok r))∨∃ x,inner p.e d a b ts=.error x∧Aft p (want q b) (.error x)):=by
 unfold Go.Xp.inner
 rcases want_or hp ha with ⟨r,h1,h2⟩ | ⟨x,h1,h2⟩
 ·rw [h1]
  obtain ⟨t,q,h3,h4⟩:=iThen (d:=d) (b:=b) h2.1 hb
  rw [h2.2.2] at h4
  rw [h2.2.1] at h3
  refine ⟨t,q,h3,?_⟩
  simp only
  rcases h4 with ⟨r,r',k1,k2,k3⟩ | ⟨r,x,k1,k2,k3⟩ | ⟨x,k1,k3⟩
  ·rw [k1];simp only;rw [k2];exact .inl ⟨r',rfl,h2.tr k3⟩
  ·rw [k1];simp only;rw [k2];exact .inr ⟨x,rfl,h2.tr (y:=.error x) k3⟩
  ·rw [k1];exact .inr ⟨x,rfl,h2.tr (y:=.error x) k3⟩
 ·rw [h1]
  exact ⟨T.zero,want p a,fun g hg=>iE_err h2.err (by omega),.inr ⟨x,rfl,by rw [want_err h2.err];exact h2⟩⟩
theorem iSetTo {d:Nat} (hp:On p ts):∃ t q,(∀ g,20 * p.l.length+20≤g→iE g (.expr d) (want (nameS p) [61])=some (t,q))∧((∃ r,setTo p.e d ts=.ok (((tok p 0).s,t),r)∧Aft p (want q [59]) (.ok r))∨∃ x,setTo p.e d ts=.error x∧Aft p (want q [59]) (.error x)):=by
 unfold Go.Xp.setTo
 rcases nameS_or hp with ⟨r,h1,h2⟩ | ⟨x,h1,h2⟩
 ·rw [h1]
  obtain ⟨t,q,h3,h4⟩:=iInner (d:=d) (a:=[61]) (b:=[59]) h2.1 (by decide) (by decide)
  rw [h2.2.2] at h4
  rw [h2.2.1] at h3
  refine ⟨t,q,h3,?_⟩
  simp only
  rcases h4 with ⟨r,k1,k3⟩ | ⟨x,k1,k3⟩
  ·rw [k1];exact .inl ⟨r,rfl,h2.tr k3⟩
  ·rw [k1];exact .inr ⟨x,rfl,h2.tr (y:=.error x) k3⟩
 ·rw [h1]
  refine ⟨T.zero,nameS p,fun g hg=>by rw [want_err h2.err];exact iE_err h2.err (by omega),.inr ⟨x,rfl,by rw [want_err h2.err];exact h2⟩⟩
theorem iBlk_err (h:p.code≠0) {g d:Nat} (hg:1≤g):iS g (.block d) p=some (one 14 (tok p 0).at_ [] [],p):=by
 obtain ⟨g,rfl⟩:∃ g',g=g'+1:=⟨g - 1,by omega⟩
 rw [iS,deeper_err h,if_neg h]
theorem On.srt (h:On p ts) (hs:Srt p.l):Srt ts:=by rw [←h.rest];exact hs.drop
theorem On.last (h:On p ts) {pre r:List Tok} {w:Tok} (hq:Aft p q (.ok r)) (ht:ts=(pre++[w])++r):lastS q=w.s:=by
 have h1:p.l=p.l.take p.i++(pre++w::r):=by
  have:=List.take_append_drop p.i p.l
  rw [h.rest,ht] at this
  simp only [List.append_assoc,List.singleton_append,List.cons_append,List.nil_append] at this
  exact this.symm
 have hr:=congrArg List.length hq.1.rest
 have hl:=congrArg List.length h1
 have hle:=hq.1.le
 have hpl:=h.le
 rw [hq.2.1] at hr hle
 simp only [List.length_drop,List.length_append,List.length_cons,List.length_take] at hr hl
 unfold lastS
 rw [hq.2.1,h1,List.getElem?_append_right (by rw [List.length_take];omega),List.getElem?_append_right (by rw [List.length_take];omega)]
 have:q.i - 1 - (p.l.take p.i).length - pre.length=0:=by rw [List.length_take];omega
 rw [this];rfl
end
structure IS' (f:Nat):Prop where
 block:∀ d ts p,On p ts→Srt p.l→rs p.e f (.block d) ts≠.error fuelOut→∃ t q,(∀ g,KI p f≤g→iS g (.block d) p=some (t,q))∧Res p q t (rs p.e f (.block d) ts)
 stmt:∀ d ts p,On p ts→Srt p.l→rs p.e f (.stmt d) ts≠.error fuelOut→∃ t q,(∀ g,KI p f≤g→iS g (.stmt d) p=some (t,q))∧Res p q t (rs p.e f (.stmt d) ts)
 body:∀ d acc ts p,On p ts→Srt p.l→rs.body p.e f d acc ts≠.error fuelOut→∃ t q,(∀ g,KI p f≤g→iB g d acc p=some (t,q))∧Res p (want q [125]) t (rs.body p.e f d acc ts)
theorem upI {p:RS} {f g:Nat} (h:KI p (f+1)≤g):∃ g',g=g'+1∧KI p f≤g'∧20 * p.l.length+20≤g':=⟨g - 1,by unfold KI at h;omega,by unfold KI at *;omega,by unfold KI at h;omega⟩
theorem KI_eq {p q:RS} (h:q.l=p.l) (f:Nat):KI q f=KI p f:=by unfold KI;rw [h]
theorem is_ (f:Nat):IS' f:=by
 induction f with
 | zero=>exact ⟨fun d ts p _ _ h=>absurd (by simp [rs]) h,fun d ts p _ _ h=>absurd (by simp [rs]) h,fun d acc ts p _ _ h=>absurd (by simp [rs.body]) h⟩
 | succ f C =>
  refine ⟨fun d ts p hp hs h=>?_,fun d ts p hp hs h=>?_,fun d acc ts p hp hs h=>?_⟩
  ·rw [rs] at h ⊢
   have hpl:=On.tok0 hp
   by_cases hd:d > 60
   ·rw [if_pos hd] at h ⊢
    have hf:=hp.fail 9 (tok p 0).at_ (by decide)
    refine ⟨one 14 (tok p 0).at_ [] [],p.fail 9 (tok p 0).at_,fun g hg=>?_,by rw [←hpl];exact hf⟩
    obtain ⟨g,rfl,hg1,hg2⟩:=upI hg
    have hdd:deeper p d=p.fail 9 (tok p 0).at_:=by unfold deeper;rw [if_pos hd]
    rw [iS,hdd,if_neg hf.err]
   ·rw [if_neg hd] at h ⊢
    have hdd:deeper p d=p:=by unfold deeper;rw [if_neg hd]
    rcases want_or hp (s:=[123]) (by decide) with ⟨r,h1,h2⟩ | ⟨x,h1,h2⟩
    ·rw [h1] at h ⊢
     simp only at h ⊢
     have hb:rs.body p.e f (d+1) [] r≠.error fuelOut:=fun h0=>h (by rw [h0])
     rw [←h2.2.2] at hb
     obtain ⟨l,q,h3,h4⟩:=C.body (d+1) [] r (want p [123]) h2.1 (by rw [h2.2.1];exact hs) hb
     rw [h2.2.2] at h4
     rw [KI_eq h2.2.1] at h3
     refine ⟨one 14 (tok p 0).at_ [] l,want q [125],fun g hg=>?_,?_⟩
     ·obtain ⟨g,rfl,hg1,hg2⟩:=upI hg
      rw [iS,hdd,if_pos hp.code,h3 g (by omega)]
     ·cases he:rs.body p.e f (d+1) [] r with
      | error x=>rw [he] at h4;exact h2.tr (y:=.error x) h4
      | ok y=>obtain ⟨l',r'⟩:=y;rw [he] at h4;obtain ⟨rfl,h4⟩:=h4;rw [hpl];exact ⟨rfl,h2.tr h4⟩
    ·rw [h1] at h ⊢
     refine ⟨one 14 (tok p 0).at_ [] [],want p [123],fun g hg=>?_,h2⟩
     obtain ⟨g,rfl,hg1,hg2⟩:=upI hg
     rw [iS,hdd,if_pos hp.code]
     obtain ⟨g,rfl⟩:∃ g',g=g'+1:=⟨g - 1,by omega⟩
     rw [iB,if_neg (fun h0=>h2.err h0.1)]
     simp only
     rw [want_err h2.err]
  ·rw [rs] at h ⊢
   have hpl:=On.tok0 hp
   by_cases hd:d > 60
   ·rw [if_pos hd] at h ⊢
    have hf:=hp.fail 9 (tok p 0).at_ (by decide)
    refine ⟨T.zero,p.fail 9 (tok p 0).at_,fun g hg=>?_,by rw [←hpl];exact hf⟩
    obtain ⟨g,rfl,hg1,hg2⟩:=upI hg
    have hdd:deeper p d=p.fail 9 (tok p 0).at_:=by unfold deeper;rw [if_pos hd]
    rw [iS,hdd,if_neg hf.err]
   ·rw [if_neg hd] at h ⊢
    have hdd:deeper p d=p:=by unfold deeper;rw [if_neg hd]
    have hi:∀ s:Str,s≠[]→is p 0 s=decide (sign ts 0=s):=fun s hs=>On.is hp 0 hs
    have hi1:is p 1 [61]=decide (sign ts 1=[61]):=On.is hp 1 (by decide)
    simp only at h ⊢
    by_cases hv:sign ts 0=kwVar
    ·rw [if_pos hv]
     have hvi:is p 0 kwVar=true:=by rw [hi _ (by decide)];simpa using hv
     obtain ⟨tv,htv,_⟩:=sign_cons (by decide) hv
     have hn:=hp;rw [htv] at hn
     have hn:=hn.next
     rw [show p.e=p.next.e from rfl]
     obtain ⟨t,q,h1,h2⟩:=iSetTo (d:=d+1) hn.1
     rcases h2 with ⟨r,h2,h3⟩ | ⟨x,h2,h3⟩
     ·rw [h2]
      refine ⟨one 13 (tok p 0).at_ (tok p.next 0).s [t],want q [59],fun g hg=>?_,by rw [hpl];rfl,hn.tr h3⟩
      obtain ⟨g,rfl,hg1,hg2⟩:=upI hg
      rw [iS,hdd,if_pos hp.code,if_pos hvi,h1 g hg2]
     ·rw [h2]
      refine ⟨one 13 (tok p 0).at_ (tok p.next 0).s [t],want q [59],fun g hg=>?_,hn.tr (y:=.error x) h3⟩
      obtain ⟨g,rfl,hg1,hg2⟩:=upI hg
      rw [iS,hdd,if_pos hp.code,if_pos hvi,h1 g hg2]
    rw [if_neg hv] at h ⊢
    have hvi:¬ is p 0 kwVar=true:=by rw [hi _ (by decide)];simpa using hv
    by_cases hc:sign ts 0=kwIf∨sign ts 0=kwWhile
    ·rw [if_pos hc] at h ⊢
     have hci:is p 0 kwIf=true∨is p 0 kwWhile=true:=by rw [hi _ (by decide),hi _ (by decide)];simpa using hc
     obtain ⟨tv,htv⟩:∃ t,ts=t::ts.tail:=by
      rcases hc with hc | hc
      ·obtain ⟨t,h1,_⟩:=sign_cons (by decide) hc;exact ⟨t,h1⟩
      ·obtain ⟨t,h1,_⟩:=sign_cons (by decide) hc;exact ⟨t,h1⟩
     have hn:=hp;rw [htv] at hn
     have hn:=hn.next
     have hck:(if is p 0 kwIf=true then (9:Int) else 10)=if sign ts 0=kwIf then 9 else 10:=by rw [hi _ (by decide)];simp
     obtain ⟨c,q,h1,h2⟩:=iInner (d:=d+1) (a:=[40]) (b:=[41]) hn.1 (by decide) (by decide)
     rcases h2 with ⟨r,h2,h3⟩ | ⟨x,h2,h3⟩
     ·rw [show p.next.e=p.e from rfl] at h2
      rw [h2] at h ⊢
      simp only at h ⊢
      have h3:=hn.tr h3
      have hb:rs p.e f (.block (d+1)) r≠.error fuelOut:=fun h0=>h (by rw [h0])
      rw [←h3.2.2] at hb
      obtain ⟨b,q2,h4,h5⟩:=C.block (d+1) r (want q [41]) h3.1 (by rw [h3.2.1];exact hs) hb
      rw [h3.2.2] at h5
      rw [KI_eq h3.2.1] at h4
      cases he:rs p.e f (.block (d+1)) r with
      | error x =>
       rw [he] at h5
       refine ⟨one (if is p 0 kwIf=true then 9 else 10) (tok p 0).at_ [] [c,b],q2,fun g hg=>?_,h3.tr (y:=.error x) h5⟩
       obtain ⟨g,rfl,hg1,hg2⟩:=upI hg
       rw [iS,hdd,if_pos hp.code,if_neg hvi,if_pos hci,h1 g hg2];simp only
       rw [h4 g hg1];simp only
       rw [if_neg (fun h0=>Aft.err h5 h0.2.1)]
      | ok y =>
       obtain ⟨b',r2⟩:=y
       rw [he] at h5 h
       obtain ⟨rfl,h5⟩:=h5
       simp only at h ⊢
       have h5:=h3.tr h5
       have hs2:is q2 0 kwElse=decide (sign r2 0=kwElse):=On.is h5.1 0 (by decide)
       by_cases hif:sign ts 0=kwIf
       ·rw [if_pos hif] at h hck ⊢
        have hifi:is p 0 kwIf=true:=by rw [hi _ (by decide)];simpa using hif
        by_cases hel:sign r2 0=kwElse
        ·rw [if_pos hel] at h ⊢
         obtain ⟨te,hte,_⟩:=sign_cons (by decide) hel
         have hn2:=h5.1;rw [hte] at hn2
         have hn2:=h5.tr hn2.next
         have hb:rs p.e f (.block (d+1)) r2.tail≠.error fuelOut:=fun h0=>h (by rw [h0])
         rw [←hn2.2.2] at hb
         obtain ⟨b2,q3,h6,h7⟩:=C.block (d+1) r2.tail q2.next hn2.1 (by rw [hn2.2.1];exact hs) hb
         rw [hn2.2.2] at h7
         rw [KI_eq hn2.2.1] at h6
         refine ⟨one 9 (tok p 0).at_ [] [c,b,b2],q3,fun g hg=>?_,?_⟩
         ·obtain ⟨g,rfl,hg1,hg2⟩:=upI hg
          rw [iS,hdd,if_pos hp.code,if_neg hvi,if_pos hci,h1 g hg2];simp only
          rw [h4 g hg1];simp only
          rw [if_pos ⟨hifi,h5.1.code,by rw [hs2];simpa using hel⟩,h6 g hg1]
         ·cases he2:rs p.e f (.block (d+1)) r2.tail with
          | error x=>rw [he2] at h7;exact hn2.tr (y:=.error x) h7
          | ok y=>obtain ⟨b3,r3⟩:=y;rw [he2] at h7;obtain ⟨rfl,h7⟩:=h7;exact ⟨by rw [hpl],hn2.tr h7⟩
        ·rw [if_neg hel]
         refine ⟨one (if is p 0 kwIf=true then 9 else 10) (tok p 0).at_ [] [c,b],q2,fun g hg=>?_,by rw [hck,hpl],h5⟩
         obtain ⟨g,rfl,hg1,hg2⟩:=upI hg
         rw [iS,hdd,if_pos hp.code,if_neg hvi,if_pos hci,h1 g hg2];simp only
         rw [h4 g hg1];simp only
         rw [if_neg (fun h0=>by have:=h0.2.2;rw [hs2] at this;exact hel (by simpa using this))]
       ·rw [if_neg hif] at hck ⊢
        have hifi:¬ is p 0 kwIf=true:=by rw [hi _ (by decide)];simpa using hif
        refine ⟨one (if is p 0 kwIf=true then 9 else 10) (tok p 0).at_ [] [c,b],q2,fun g hg=>?_,by rw [hck,hpl],h5⟩
        obtain ⟨g,rfl,hg1,hg2⟩:=upI hg
        rw [iS,hdd,if_pos hp.code,if_neg hvi,if_pos hci,h1 g hg2];simp only
        rw [h4 g hg1];simp only
        rw [if_neg (fun h0=>hifi h0.1)]
     ·rw [show p.next.e=p.e from rfl] at h2
      rw [h2] at h ⊢
      have h3:=hn.tr (y:=.error x) h3
      refine ⟨one (if is p 0 kwIf=true then 9 else 10) (tok p 0).at_ [] [c,one 14 (tok (want q [41]) 0).at_ [] []],want q [41],fun g hg=>?_,h3⟩
      obtain ⟨g,rfl,hg1,hg2⟩:=upI hg
      rw [iS,hdd,if_pos hp.code,if_neg hvi,if_pos hci,h1 g hg2];simp only
      rw [iBlk_err h3.err (by omega)];simp only
      rw [if_neg (fun h0=>h3.err h0.2.1)]
    rw [if_neg hc] at h ⊢
    have hci:¬ (is p 0 kwIf=true∨is p 0 kwWhile=true):=by rw [hi _ (by decide),hi _ (by decide)];simpa using hc
    by_cases hr:sign ts 0=kwReturn
    ·rw [if_pos hr]
     have hri:is p 0 kwReturn=true:=by rw [hi _ (by decide)];simpa using hr
     obtain ⟨tv,htv,_⟩:=sign_cons (by decide) hr
     have hn:=hp;rw [htv] at hn
     have hn:=hn.next
     obtain ⟨t,q,h1,h2⟩:=iThen (d:=d+1) (b:=[59]) hn.1 (by decide)
     rw [show p.next.e=p.e from rfl] at h2
     refine ⟨one 11 (tok p 0).at_ [] [t],want q [59],fun g hg=>?_,?_⟩
     ·obtain ⟨g,rfl,hg1,hg2⟩:=upI hg
      rw [iS,hdd,if_pos hp.code,if_neg hvi,if_neg hci,if_pos hri,h1 g hg2]
     ·rcases h2 with ⟨r,r',h2,h3,h4⟩ | ⟨r,x,h2,h3,h4⟩ | ⟨x,h2,h4⟩
      ·rw [h2];simp only;rw [h3];exact ⟨by rw [hpl],hn.tr h4⟩
      ·rw [h2];simp only;rw [h3];exact hn.tr (y:=.error x) h4
      ·rw [h2];exact hn.tr (y:=.error x) h4
    rw [if_neg hr] at h ⊢
    have hri:¬ is p 0 kwReturn=true:=by rw [hi _ (by decide)];simpa using hr
    cases ts with
    | nil =>
     have ht:tok p 0=⟨0,0,[],p.e⟩:=by rw [On.tok hp];rfl
     have hset':¬ ((tok p 0).kind=2∧is p 1 [61]=true):=fun hx=>by have:=hx.1;rw [ht] at this;simp at this
     obtain ⟨t,q,h1,h2⟩:=iX_or (d:=d+1) hp (Nat.le_refl _)
     rcases h2 with ⟨r,h2,h3⟩ | ⟨x,h2,h3⟩
     ·exact absurd h2 (rd_nil _ _ _ (fun k d out h=>by cases h) _ _)
     ·have hput':¬ putC p q t:=fun h0=>h3.err h0.2.1
      refine ⟨one 12 (tok p 0).at_ [] [t],want q [59],fun g hg=>?_,by unfold simple;rw [h2,want_err h3.err];exact h3⟩
      obtain ⟨g,rfl,hg1,hg2⟩:=upI hg
      rw [iS,hdd,if_pos hp.code,if_neg hvi,if_neg hci,if_neg hri,if_neg hset',h1 g hg2];simp only
      rw [if_neg hput']
    | cons a r0 =>
     simp only [simple] at h ⊢
     have ht:tok p 0=a:=by rw [On.tok hp];rfl
     by_cases hset:a.kind=2∧sign (a::r0) 1=[61]
     ·rw [if_pos hset]
      have hset':(tok p 0).kind=2∧is p 1 [61]=true:=⟨by rw [ht];exact hset.1,by rw [hi1];simpa using hset.2⟩
      obtain ⟨t,q,h1,h2⟩:=iSetTo (d:=d+1) hp
      rcases h2 with ⟨r,h2,h3⟩ | ⟨x,h2,h3⟩
      ·rw [h2]
       refine ⟨one 7 (tok p 0).at_ (tok p 0).s [t],want q [59],fun g hg=>?_,by rw [hpl];rfl,h3⟩
       obtain ⟨g,rfl,hg1,hg2⟩:=upI hg
       rw [iS,hdd,if_pos hp.code,if_neg hvi,if_neg hci,if_neg hri,if_pos hset',h1 g hg2]
      ·rw [h2]
       refine ⟨one 7 (tok p 0).at_ (tok p 0).s [t],want q [59],fun g hg=>?_,h3⟩
       obtain ⟨g,rfl,hg1,hg2⟩:=upI hg
       rw [iS,hdd,if_pos hp.code,if_neg hvi,if_neg hci,if_neg hri,if_pos hset',h1 g hg2]
     ·rw [if_neg hset]
      have hset':¬ ((tok p 0).kind=2∧is p 1 [61]=true):=fun hx=>hset ⟨by rw [←ht];exact hx.1,by have:=hx.2;rw [hi1] at this;simpa using this⟩
      obtain ⟨t,q,h1,h2⟩:=iX_or (d:=d+1) hp (Nat.le_refl _)
      rcases h2 with ⟨r,h2,h3⟩ | ⟨x,h2,h3⟩
      ·rw [h2];simp only
       have hs2:is q 0 [61]=decide (sign r 0=[61]):=On.is h3.1 0 (by decide)
       by_cases hput:t.n.kind=3∧t.n.at_=a.at_∧sign r 0=[61]
       ·rw [if_pos hput]
        obtain ⟨a',pre,ht1,ht2⟩:=expr_took h2
        cases ht1
        obtain ⟨hk2,pre',w,hw1,hw2⟩:=(ht2 (On.srt hp hs)).2 hput.1 hput.2.1
        have hlast:lastS q=[93]:=by rw [←hw2];exact On.last hp h3 (by rw [←hw1];rfl)
        have hput':putC p q t:=⟨hput.1,h3.1.code,hlast,by rw [ht];exact hput.2.1,by rw [ht];exact hk2,by rw [hs2];simpa using hput.2.2⟩
        obtain ⟨ix,hix⟩:=rd_at3 _ _ _ _ _ _ (fun k d out hj=>by cases hj) h2 hput.1
        have hmu:Go.Xp.must p.e [61] r=.ok r.tail:=by unfold Go.Xp.must;rw [if_pos hput.2.2]
        have hwa:=On.want h3.1 (s:=[61]) (by decide)
        rw [h3.2.2,hmu] at hwa
        have hn:=h3.tr hwa
        obtain ⟨v,q2,h4,h5⟩:=iThen (d:=d+1) (b:=[59]) hn.1 (by decide)
        rw [hn.2.2] at h5
        rw [hn.2.1] at h4
        refine ⟨one 8 (tok p 0).at_ t.n.s [ix,v],want q2 [59],fun g hg=>?_,?_⟩
        ·obtain ⟨g,rfl,hg1,hg2⟩:=upI hg
         rw [iS,hdd,if_pos hp.code,if_neg hvi,if_neg hci,if_neg hri,if_neg hset',h1 g hg2];simp only
         rw [if_pos hput',hix,h4 g hg2]
        ·unfold Go.Xp.inner
         rw [hmu];simp only
         rcases h5 with ⟨r2,r',h2,h3,h4⟩ | ⟨r2,x,h2,h3,h4⟩ | ⟨x,h2,h4⟩
         ·rw [h2];simp only;rw [h3];exact ⟨by rw [ht,hix];rfl,hn.tr h4⟩
         ·rw [h2];simp only;rw [h3];exact hn.tr (y:=.error x) h4
         ·rw [h2];exact hn.tr (y:=.error x) h4
       ·rw [if_neg hput]
        have hput':¬ putC p q t:=fun h0=>hput ⟨h0.1,by rw [←ht];exact h0.2.2.2.1,by have:=h0.2.2.2.2.2;rw [hs2] at this;simpa using this⟩
        refine ⟨one 12 (tok p 0).at_ [] [t],want q [59],fun g hg=>?_,?_⟩
        ·obtain ⟨g,rfl,hg1,hg2⟩:=upI hg
         rw [iS,hdd,if_pos hp.code,if_neg hvi,if_neg hci,if_neg hri,if_neg hset',h1 g hg2];simp only
         rw [if_neg hput']
        ·rcases want_or h3.1 (s:=[59]) (by decide) with ⟨r',h4,h5⟩ | ⟨x,h4,h5⟩
         ·rw [h3.2.2] at h4;rw [h4];exact ⟨by rw [ht],h3.tr h5⟩
         ·rw [h3.2.2] at h4;rw [h4];exact h3.tr (y:=.error x) h5
      ·rw [h2]
       have hput':¬ putC p q t:=fun h0=>h3.err h0.2.1
       refine ⟨one 12 (tok p 0).at_ [] [t],want q [59],fun g hg=>?_,by rw [want_err h3.err];exact h3⟩
       obtain ⟨g,rfl,hg1,hg2⟩:=upI hg
       rw [iS,hdd,if_pos hp.code,if_neg hvi,if_neg hci,if_neg hri,if_neg hset',h1 g hg2];simp only
       rw [if_neg hput']
  ·rw [rs.body] at h ⊢
   have hi:is p 0 [125]=decide (sign ts 0=[125]):=On.is hp 0 (by decide)
   by_cases hb:sign ts 0=[125]
   ·rw [if_pos hb]
    have hm:=On.want hp (s:=[125]) (by decide)
    unfold Go.Xp.must at hm
    rw [if_pos hb] at hm
    refine ⟨acc,p,fun g hg=>?_,rfl,hm⟩
    obtain ⟨g,rfl,hg1,hg2⟩:=upI hg
    rw [iB,if_neg (fun h0=>by have:=h0.2;rw [hi] at this;simp [hb] at this)]
   ·rw [if_neg hb] at h ⊢
    have hst:rs p.e f (.stmt d) ts≠.error fuelOut:=fun h0=>h (by rw [h0])
    obtain ⟨a,q,h1,h2⟩:=C.stmt d ts p hp hs hst
    have hc:p.code=0∧is p 0 [125]=false:=⟨hp.code,by rw [hi];simpa using hb⟩
    cases he:rs p.e f (.stmt d) ts with
    | error x =>
     rw [he] at h2 h
     refine ⟨acc++[a],q,fun g hg=>?_,by rw [want_err (Aft.err h2)];exact h2⟩
     obtain ⟨g,rfl,hg1,hg2⟩:=upI hg
     rw [iB,if_pos hc,h1 g hg1]
     simp only
     obtain ⟨g,rfl⟩:∃ g',g=g'+1:=⟨g - 1,by omega⟩
     rw [iB,if_neg (fun h0=>Aft.err h2 h0.1)]
    | ok y =>
     obtain ⟨a',r⟩:=y
     rw [he] at h2 h
     obtain ⟨rfl,h2⟩:=h2
     simp only at h ⊢
     rw [←h2.2.2] at h ⊢
     obtain ⟨l,q3,h3,h4⟩:=C.body d (acc++[a]) r q h2.1 (by rw [h2.2.1];exact hs) h
     rw [KI_eq h2.2.1] at h3
     refine ⟨l,q3,fun g hg=>?_,Res.tr h2 h4⟩
     obtain ⟨g,rfl,hg1,hg2⟩:=upI hg
     rw [iB,if_pos hc,h1 g hg1]
     exact h3 g hg1
end Go.Im
namespace Go.Im
open Go.Xp Go.Sp
section
variable {p q:RS}
theorem tok_lt {k:Nat} (h:(tok p k).kind≠0):p.i+k < p.l.length:=by
 unfold tok at h
 refine Nat.lt_of_not_le fun hn=>?_
 rw [List.getElem?_eq_none_iff.2 hn] at h;exact h rfl
theorem is_lt {k:Nat} {s:Str} (h:is p k s=true):p.i+k < p.l.length:=by
 unfold is at h
 rw [Bool.and_eq_true] at h
 exact tok_lt (by have:=h.1;simp at this;omega)
theorem to_is {s:Str} (h:is p 0 s=true):p.to p.next:=to_next (is_lt h)
theorem to_wrong (hp:p.ok):p.to (wrong p):=to_fail hp _ _
theorem to_want (hp:p.ok) (s:Str):p.to (want p s):=by
 unfold want
 split
 ·split
  ·rename_i h;exact to_is h
  ·exact to_wrong hp
 ·exact to_self hp
theorem to_nameS (hp:p.ok):p.to (nameS p):=by
 unfold nameS
 split
 ·split
  ·rename_i h
   split
   ·exact to_fail hp _ _
   ·exact to_next (tok_lt (k:=0) (by omega))
  ·exact to_wrong hp
 ·exact to_self hp
theorem to_deeper (hp:p.ok) (d:Nat):p.to (deeper p d):=by
 unfold deeper
 split
 ·exact to_fail hp _ _
 ·exact to_self hp
theorem deeper_same {d:Nat} (h:(deeper p d).code=0):deeper p d=p:=by
 unfold deeper at h ⊢
 split at h
 ·unfold RS.fail at h
  split at h
  ·cases h
  ·rename_i hd hc;exact absurd h hc
 ·rename_i hd;rw [if_neg hd]
end
theorem iE_to:∀ (f:Nat),(∀ j p t q,p.ok→iE f j p=some (t,q)→p.to q)∧(∀ d acc p l q,p.ok→iA f d acc p=some (l,q)→p.to q)
 | 0=>⟨fun j p t q _ h=>by simp [iE] at h,fun d acc p l q _ h=>by simp [iA] at h⟩
 | f+1=>by
  obtain ⟨h1,h2⟩:=iE_to f
  refine ⟨fun j p t q hp h=>?_,fun d acc p l q hp h=>?_⟩
  ·cases j with
   | expr d =>
    rw [iE] at h
    have hd:=to_deeper hp d
    split at h
    ·exact hd.trans (h1 _ _ _ _ (hd.ok hp) h)
    ·cases h;exact hd
   | level k d =>
    rw [iE] at h
    split at h
    ·exact h1 _ _ _ _ hp h
    ·split at h
     ·cases h
     ·rename_i out p' he
      have:=h1 _ _ _ _ hp he
      exact this.trans (h1 _ _ _ _ (this.ok hp) h)
   | loop k d out =>
    rw [iE] at h
    split at h
    ·rename_i hc
     have hn:=to_next (p:=p) (tok_lt (k:=0) (by have:=hc.2.1;omega))
     split at h
     ·cases h
     ·rename_i b p' he
      have:=hn.trans (h1 _ _ _ _ (hn.ok hp) he)
      exact this.trans (h1 _ _ _ _ (this.ok hp) h)
    ·cases h;exact to_self hp
   | operand d =>
    rw [iE] at h
    split at h
    ·split at h
     ·rename_i hc
      have hn:p.to p.next:=by rcases hc with hc | hc | hc <;> exact to_is hc
      split at h
      ·cases h
      ·rename_i a p' he
       cases h;exact hn.trans (h1 _ _ _ _ (hn.ok hp) he)
     ·split at h
      ·rename_i hk
       cases h;exact to_next (tok_lt (k:=0) (by omega))
      ·split at h
       ·rename_i hc
        have hn:=to_is hc
        split at h
        ·cases h
        ·rename_i a p' he
         have:=hn.trans (h1 _ _ _ _ (hn.ok hp) he)
         cases h;exact this.trans (to_want (this.ok hp) _)
       ·have hn:=to_nameS hp
        split at h
        ·split at h
         ·rename_i hc
          have hn2:=hn.trans (to_is hc)
          split at h
          ·cases h
          ·rename_i a p' he
           have:=hn2.trans (h1 _ _ _ _ (hn2.ok hp) he)
           cases h;exact this.trans (to_want (this.ok hp) _)
         ·split at h
          ·rename_i hc
           have hn2:=hn.trans (to_is hc)
           split at h
           ·cases h
           ·rename_i a p' he
            cases h;exact hn2.trans (h2 _ _ _ _ _ (hn2.ok hp) he)
          ·cases h;exact hn
        ·cases h;exact hn
    ·cases h;exact to_deeper hp d
  ·rw [iA] at h
   split at h
   ·have hn:p.to (if acc.length=0 then p else want p [44]):=by
     split
     ·exact to_self hp
     ·exact to_want hp _
    split at h
    ·cases h
    ·rename_i a p' he
     have:=hn.trans (h1 _ _ _ _ (hn.ok hp) he)
     exact this.trans (h2 _ _ _ _ _ (this.ok hp) h)
   ·cases h;exact to_want hp _
theorem iS_to:∀ (f:Nat),(∀ j p t q,p.ok→iS f j p=some (t,q)→p.to q)∧(∀ d acc p l q,p.ok→iB f d acc p=some (l,q)→p.to q)
 | 0=>⟨fun j p t q _ h=>by simp [iS] at h,fun d acc p l q _ h=>by simp [iB] at h⟩
 | f+1=>by
  obtain ⟨h1,h2⟩:=iS_to f
  have he1:=(iE_to f).1
  refine ⟨fun j p t q hp h=>?_,fun d acc p l q hp h=>?_⟩
  ·cases j with
   | block d =>
    rw [iS] at h
    split at h
    ·have hm:=to_want hp [123]
     split at h
     ·cases h
     ·rename_i l p' he
      have:=hm.trans (h2 _ _ _ _ _ (hm.ok hp) he)
      cases h;exact this.trans (to_want (this.ok hp) _)
    ·cases h;exact to_deeper hp d
   | stmt d =>
    rw [iS] at h
    split at h
    ·split at h
     ·rename_i hs
      have hn:=to_is hs
      have hnm:=hn.trans (to_nameS (hn.ok hp))
      have hmu:=hnm.trans (to_want (hnm.ok hp) [61])
      split at h
      ·cases h
      ·rename_i e p' he
       have:=hmu.trans (he1 _ _ _ _ (hmu.ok hp) he)
       cases h;exact this.trans (to_want (this.ok hp) _)
     ·split at h
      ·rename_i hs
       have hn:p.to p.next:=by rcases hs with hs | hs <;> exact to_is hs
       have hmu:=hn.trans (to_want (hn.ok hp) [40])
       split at h
       ·cases h
       ·rename_i e p' he
        have:=hmu.trans (he1 _ _ _ _ (hmu.ok hp) he)
        have hm2:=this.trans (to_want (this.ok hp) [41])
        split at h
        ·cases h
        ·rename_i b p2 hb
         have hb2:=hm2.trans (h1 _ _ _ _ (hm2.ok hp) hb)
         split at h
         ·rename_i hc
          have hn2:=hb2.trans (to_is hc.2.2)
          split at h
          ·cases h
          ·rename_i b2 p3 hb3
           cases h;exact hn2.trans (h1 _ _ _ _ (hn2.ok hp) hb3)
         ·cases h;exact hb2
      ·split at h
       ·rename_i hs
        have hn:=to_is hs
        split at h
        ·cases h
        ·rename_i e p' he
         have:=hn.trans (he1 _ _ _ _ (hn.ok hp) he)
         cases h;exact this.trans (to_want (this.ok hp) _)
       ·split at h
        ·have hnm:=to_nameS hp
         have hmu:=hnm.trans (to_want (hnm.ok hp) [61])
         split at h
         ·cases h
         ·rename_i e p' he
          have:=hmu.trans (he1 _ _ _ _ (hmu.ok hp) he)
          cases h;exact this.trans (to_want (this.ok hp) _)
        ·split at h
         ·cases h
         ·rename_i e p' he
          have hx:=he1 _ _ _ _ hp he
          split at h
          ·have hn:=hx.trans (to_want (hx.ok hp) [61])
           split at h
           ·rename_i a r v p2 hk he2
            have:=hn.trans (he1 _ _ _ _ (hn.ok hp) he2)
            cases h;exact this.trans (to_want (this.ok hp) _)
           ·cases h
          ·cases h;exact hx.trans (to_want (hx.ok hp) _)
    ·cases h;exact to_deeper hp d
  ·rw [iB] at h
   split at h
   ·split at h
    ·cases h
    ·rename_i a p' he
     have:=h1 _ _ _ _ hp he
     exact this.trans (h2 _ _ _ _ _ (this.ok hp) h)
   ·cases h;exact to_self hp
end Go.Im
namespace Go.Im
open Go.Xp Go.Sp
theorem next_i (p:RS):p.next.i=p.i+1:=rfl
theorem iE_adv:∀ (f:Nat) j p t q,p.ok→iE f j p=some (t,q)→q.code=0→(∀ k d out,j≠.loop k d out)→p.i < q.i:=by
 intro f
 induction f with
 | zero=>intro j p t q _ h;simp [iE] at h
 | succ f ih =>
  intro j p t q hp h hq hj
  cases j with
  | loop k d out=>exact absurd rfl (hj k d out)
  | expr d =>
   rw [iE] at h
   split at h
   ·rename_i hc
    rw [deeper_same hc] at h
    exact ih _ _ _ _ hp h hq (fun k d out h=>by cases h)
   ·rename_i hc;cases h;exact absurd hq hc
  | level k d =>
   rw [iE] at h
   split at h
   ·exact ih _ _ _ _ hp h hq (fun k d out h=>by cases h)
   ·split at h
    ·cases h
    ·rename_i out p' he
     have hp':=(iE_to f).1 _ _ _ _ hp he
     have hlt:p'.code=0:=by
      by_cases hc:p'.code=0
      ·exact hc
      ·cases f with
       | zero=>simp [iE] at h
       | succ f =>
        rw [iE,if_neg (fun h0=>hc h0.1)] at h
        cases h;exact hq
     have h1:=ih _ _ _ _ hp he hlt (fun k d out h=>by cases h)
     have h2:=(iE_to f).1 _ _ _ _ (hp'.ok hp) h
     have:=h2.2.2.2
     omega
  | operand d =>
   rw [iE] at h
   split at h
   ·split at h
    ·rename_i hc
     have hn:p.to p.next:=by rcases hc with hc | hc | hc <;> exact to_is hc
     split at h
     ·cases h
     ·rename_i a p' he
      cases h
      have:=((iE_to f).1 _ _ _ _ (hn.ok hp) he).2.2.2
      rw [next_i] at this;omega
    ·split at h
     ·cases h;rw [next_i];omega
     ·split at h
      ·rename_i hc
       have hn:=to_is hc
       split at h
       ·cases h
       ·rename_i a p' he
        cases h
        have h1:=(iE_to f).1 _ _ _ _ (hn.ok hp) he
        have h2:=(to_want ((h1.ok (hn.ok hp))) [41]).2.2.2
        have:=h1.2.2.2
        rw [next_i] at this;omega
      ·have hn:=to_nameS hp
       split at h
       ·rename_i hcn
        have hlt:p.i < (nameS p).i:=by
         unfold nameS at hcn ⊢
         split at hcn
         ·rename_i h0
          split at hcn
          ·rename_i h2
           split at hcn
           ·unfold RS.fail at hcn;rw [if_pos h0] at hcn;cases hcn
           ·rename_i hl
            rw [if_pos h0,if_pos h2,if_neg hl,next_i];omega
          ·unfold wrong RS.fail at hcn;rw [if_pos h0] at hcn;cases hcn
         ·rename_i h0;exact absurd hcn h0
        split at h
        ·rename_i hc
         have hn2:=hn.trans (to_is hc)
         split at h
         ·cases h
         ·rename_i a p' he
          cases h
          have h1:=(iE_to f).1 _ _ _ _ (hn2.ok hp) he
          have h2:=(to_want ((h1.ok (hn2.ok hp))) [93]).2.2.2
          have:=h1.2.2.2
          rw [next_i] at this;omega
        ·split at h
         ·rename_i hc
          have hn2:=hn.trans (to_is hc)
          split at h
          ·cases h
          ·rename_i a p' he
           cases h
           have:=((iE_to f).2 _ _ _ _ _ (hn2.ok hp) he).2.2.2
           rw [next_i] at this;omega
         ·cases h;exact hlt
       ·rename_i hcn;cases h;exact absurd hq hcn
   ·rename_i hc;cases h;exact absurd hq hc
end Go.Im
namespace Go.Xp
mutual
def szT:T→Nat
 | .mk _ l=>szL l+1
def szL:List T→Nat
 | []=>0
 | t::r=>szT t+szL r
end
def kidsAt:Nat→List T→List Int
 | _,[]=>[]
 | n,t::r=>(n:Int)::kidsAt (n+szT t) r
mutual
def flT:Nat→T→List Nd
 | n,.mk nd l=>⟨nd.kind,nd.at_,nd.n,nd.s,kidsAt (n+1) l⟩::flL (n+1) l
def flL:Nat→List T→List Nd
 | _,[]=>[]
 | n,t::r=>flT n t++flL (n+szT t) r
end
theorem szT_eq (t:T):szT t=szL t.kids+1:=by cases t;rw [szT];rfl
theorem flT_eq (n:Nat) (t:T):flT n t=⟨t.n.kind,t.n.at_,t.n.n,t.n.s,kidsAt (n+1) t.kids⟩::flL (n+1) t.kids:=by cases t;rw [flT];rfl
theorem szL_app (a b:List T):szL (a++b)=szL a+szL b:=by
 induction a with
 | nil=>simp [szL]
 | cons t a ih=>simp only [List.cons_append,szL,ih];omega
theorem kidsAt_app (a b:List T) (n:Nat):kidsAt n (a++b)=kidsAt n a++kidsAt (n+szL a) b:=by
 induction a generalizing n with
 | nil=>simp [kidsAt,szL]
 | cons t a ih=>simp only [List.cons_append,kidsAt,szL,ih,Nat.add_assoc]
theorem flL_app (a b:List T) (n:Nat):flL n (a++b)=flL n a++flL (n+szL a) b:=by
 induction a generalizing n with
 | nil=>simp [flL,szL]
 | cons t a ih=>simp only [List.cons_append,flL,szL,ih,Nat.add_assoc,List.append_assoc]
theorem kidsAt_len (a:List T) (n:Nat):(kidsAt n a).length=a.length:=by
 induction a generalizing n with
 | nil=>rfl
 | cons t a ih=>simp [kidsAt,ih]
theorem fl_len:∀ (N:Nat),(∀ t:T,szT t≤N→∀ n,(flT n t).length=szT t)∧(∀ l:List T,szL l≤N→∀ n,(flL n l).length=szL l):=by
 intro N
 induction N with
 | zero =>
  refine ⟨fun t h=>by rw [szT_eq] at h;omega,fun l h n=>?_⟩
  cases l with
  | nil=>rfl
  | cons t l=>rw [szL,szT_eq] at h;omega
 | succ N ih =>
  have h1:∀ t:T,szT t≤N+1→∀ n,(flT n t).length=szT t:=fun t h n=>by
   rw [szT_eq] at h
   rw [flT_eq,szT_eq,List.length_cons,ih.2 _ (by omega)]
  refine ⟨h1,fun l=>?_⟩
  induction l with
  | nil=>intro _ n;rfl
  | cons t l ih2 =>
   intro h n
   rw [szL] at h
   rw [flL,List.length_append,h1 t (by omega),ih2 (by omega),szL]
theorem flT_len (t:T) (n:Nat):(flT n t).length=szT t:=(fl_len (szT t)).1 t (Nat.le_refl _) n
theorem flL_len (l:List T) (n:Nat):(flL n l).length=szL l:=(fl_len (szL l)).2 l (Nat.le_refl _) n
theorem szL_take_le (l:List T) (k:Nat):szL (l.take k)≤szL l:=by
 have:szL l=szL (l.take k)+szL (l.drop k):=by rw [←szL_app,List.take_append_drop]
 omega
theorem szL_take_lt {l:List T} {k:Nat} {t:T} (h:l[k]?=some t):szL (l.take (k+1))=szL (l.take k)+szT t:=by
 have:l.take (k+1)=l.take k++[t]:=by rw [List.take_add_one,h];rfl
 rw [this,szL_app,szL,szL];rfl
theorem len_le_szL (l:List T):l.length≤szL l:=by
 induction l with
 | nil=>simp
 | cons t l ih=>rw [szL,szT_eq,List.length_cons];omega
end Go.Xp
namespace Go.Xp
open Go.Sp (nameOk anySign)
abbrev K:=Int × Int × Str
def kf (t:Tok):K:=(t.kind,t.n,t.s)
abbrev kS (s:Str):K:=(3,0,s)
abbrev kN (s:Str):K:=(2,0,s)
abbrev kI (n:Int):K:=(1,n,[])
inductive E where
 | num (n:Int)
 | name (s:Str)
 | at_ (s:Str) (a:E)
 | call (s:Str) (l:List E)
 | un (s:Str) (a:E)
 | bin (s:Str) (a b:E)
def lvOf (s:Str):Nat:=(levels.findIdx? fun l=>l.contains s).getD 9
def E.lv:E→Nat
 | .bin s _ _=>lvOf s
 | _=>9
def brk (lv k:Nat) (x:List K):List K:=if lv < k then kS [40]::(x++[kS [41]]) else x
mutual
def E.tk:E→List K
 | .num n=>[kI n]
 | .name s=>[kN s]
 | .at_ s a=>kN s::kS [91]::(a.tk++[kS [93]])
 | .call s l=>kN s::kS [40]::(E.tks l++[kS [41]])
 | .un s a=>kS s::brk a.lv 9 a.tk
 | .bin s a b=>brk a.lv (lvOf s) a.tk++kS s::brk b.lv (lvOf s+1) b.tk
def E.tks:List E→List K
 | []=>[]
 | a::l=>a.tk++E.tksC l
def E.tksC:List E→List K
 | []=>[]
 | a::l=>kS [44]::(a.tk++E.tksC l)
end
mutual
def E.tree:E→T
 | .num n=>.mk ⟨1,0,n,[],[]⟩ []
 | .name s=>.mk ⟨2,0,0,s,[]⟩ []
 | .at_ s a=>.mk ⟨3,0,0,s,[]⟩ [a.tree]
 | .call s l=>.mk ⟨4,0,0,s,[]⟩ (E.trees l)
 | .un s a=>.mk ⟨5,0,0,s,[]⟩ [a.tree]
 | .bin s a b=>.mk ⟨6,0,0,s,[]⟩ [a.tree,b.tree]
def E.trees:List E→List T
 | []=>[]
 | a::l=>a.tree::E.trees l
end
def brf (lv k d:Nat) (f:Nat→Bool):Bool:=if lv < k then decide (d≤60)&&decide (d+1≤60)&&f (d+2) else f d
mutual
def E.fit:E→Nat→Bool
 | .num _,d=>decide (d≤60)
 | .name _,d=>decide (d≤60)
 | .at_ _ a,d=>decide (d≤60)&&decide (d+1≤60)&&a.fit (d+2)
 | .call _ l,d=>decide (d≤60)&&E.fits l (d+1)
 | .un _ a,d=>decide (d≤60)&&(if a.lv < 9 then decide (d+1≤60)&&decide (d+2≤60)&&a.fit (d+3) else a.fit (d+1))
 | .bin s a b,d=>(if a.lv < lvOf s then decide (d≤60)&&decide (d+1≤60)&&a.fit (d+2) else a.fit d)&&(if b.lv < lvOf s+1 then decide (d≤60)&&decide (d+1≤60)&&b.fit (d+2) else b.fit d)
def E.fits:List E→Nat→Bool
 | [],_=>true
 | a::l,d=>decide (d≤60)&&a.fit (d+1)&&E.fits l d
end
mutual
def E.ok:E→Bool
 | .num n=>decide (0≤n)&&decide (n≤2147483647)
 | .name s=>nameOk s
 | .at_ s a=>nameOk s&&a.ok
 | .call s l=>nameOk s&&E.oks l
 | .un s a=>(s==[45] || s==[33] || s==[126])&&a.ok
 | .bin s a b=>anySign s&&a.ok&&b.ok
def E.oks:List E→Bool
 | []=>true
 | a::l=>a.ok&&E.oks l
end
mutual
def er:T→T
 | .mk n l=>.mk ⟨n.kind,0,n.n,n.s,[]⟩ (ers l)
def ers:List T→List T
 | []=>[]
 | t::l=>er t::ers l
end
theorem ers_app (l k:List T):ers (l++k)=ers l++ers k:=by
 induction l with
 | nil=>rfl
 | cons t l ih=>simp [ers,ih]
theorem ers_map (l:List T):ers l=l.map er:=by
 induction l with
 | nil=>rfl
 | cons t l ih=>simp [ers,ih]
theorem er_one (k a:Int) (s:Str) (l:List T):er (one k a s l)=.mk ⟨k,0,0,s,[]⟩ (ers l):=by unfold one;rw [er]
def Ev (e:Int) (j:Job) (ts:List Tok) (x:Rd T):Prop:=∃ f0,∀ f,f0≤f→rd e f j ts=x
def Ea (e:Int) (d:Nat) (acc:List T) (ts:List Tok) (x:Rd (List T)):Prop:=∃ f0,∀ f,f0≤f→rd.args e f d acc ts=x
section
variable {e:Int} {d k:Nat} {ts r:List Tok} {t out:T} {x:Rd T} {y:Er}
theorem ev1 {j j':Job} {ts ts':List Tok} {x x':Rd T} (h:Ev e j ts x) (hs:∀ f,rd e f j ts=x→rd e (f+1) j' ts'=x'):Ev e j' ts' x':=by
 obtain ⟨f0,h0⟩:=h
 refine ⟨f0+1,fun f hf=>?_⟩
 obtain ⟨f,rfl⟩:∃ g,f=g+1:=⟨f - 1,by omega⟩
 exact hs f (h0 f (by omega))
theorem ev2 {j j' j2:Job} {ts ts' ts2:List Tok} {x x' x2:Rd T} (h:Ev e j ts x) (h2:Ev e j2 ts2 x2) (hs:∀ f,rd e f j ts=x→rd e f j2 ts2=x2→rd e (f+1) j' ts'=x'):Ev e j' ts' x':=by
 obtain ⟨f0,h0⟩:=h
 obtain ⟨f1,h1⟩:=h2
 refine ⟨f0+f1+1,fun f hf=>?_⟩
 obtain ⟨f,rfl⟩:∃ g,f=g+1:=⟨f - 1,by omega⟩
 exact hs f (h0 f (by omega)) (h1 f (by omega))
theorem ev0 {j':Job} {ts':List Tok} {x':Rd T} (hs:∀ f,rd e (f+1) j' ts'=x'):Ev e j' ts' x' :=
 ⟨1,fun f hf=>by obtain ⟨f,rfl⟩:∃ g,f=g+1:=⟨f - 1,by omega⟩;exact hs f⟩
theorem Ev.expr (hd:d≤60) (h:Ev e (.level 0 (d+1)) ts x):Ev e (.expr d) ts x:=ev1 h fun f h=>by rw [rd,if_neg (by omega)];exact h
theorem Ev.exprX (hd:60 < d):Ev e (.expr d) ts (.error (9,place e ts)):=ev0 fun f=>by rw [rd,if_pos hd]
theorem Ev.level (hk:k≠9) (h:Ev e (.level (k+1) d) ts (.ok (out,r))) (h2:Ev e (.loop k d out) r x):Ev e (.level k d) ts x:=ev2 h h2 fun f h h2=>by rw [rd,if_neg hk,h];exact h2
theorem Ev.levelX (hk:k≠9) (h:Ev e (.level (k+1) d) ts (.error y)):Ev e (.level k d) ts (.error y):=ev1 h fun f h=>by rw [rd,if_neg hk,h]
theorem Ev.level9 (h:Ev e (.operand d) ts x):Ev e (.level 9 d) ts x:=ev1 h fun f h=>by rw [rd,if_pos rfl];exact h
theorem Ev.stop (h:sign ts 0 ∉ levels.getD k []):Ev e (.loop k d out) ts (.ok (out,ts)):=ev0 fun f=>by
 cases ts with
 | nil=>rw [rd]
 | cons t r =>
  rw [rd,if_neg]
  rintro ⟨h3,h4⟩
  apply h
  simp only [sign,List.getElem?_cons_zero,signOf,h3,if_true];exact h4
theorem Ev.go {t:Tok} {b:T} {r':List Tok} (h3:t.kind=3) (hs:t.s∈levels.getD k []) (h:Ev e (.level (k+1) d) r (.ok (b,r'))) (h2:Ev e (.loop k d (one 6 t.at_ t.s [out,b])) r' x):Ev e (.loop k d out) (t::r) x :=
 ev2 h h2 fun f h h2=>by rw [rd,if_pos ⟨h3,hs⟩,h];exact h2
theorem Ev.goX {t:Tok} (h3:t.kind=3) (hs:t.s∈levels.getD k []) (h:Ev e (.level (k+1) d) r (.error y)):Ev e (.loop k d out) (t::r) (.error y) :=
 ev1 h fun f h=>by rw [rd,if_pos ⟨h3,hs⟩,h]
theorem Ev.deepX (hd:60 < d):Ev e (.operand d) ts (.error (9,place e ts)):=ev0 fun f=>by rw [rd.eq_def];simp only;rw [if_pos hd]
theorem Ev.num {t:Tok} (hd:d≤60) (h:t.kind=1):Ev e (.operand d) (t::r) (.ok (.mk ⟨1,t.at_,t.n,[],[]⟩ [],r)):=ev0 fun f=>by
 rw [rd.eq_def];simp only;rw [if_neg (by omega),if_neg (by omega),if_pos h]
theorem Ev.un {t:Tok} {a:T} {r':List Tok} (hd:d≤60) (h3:t.kind=3) (hs:t.s=[45]∨t.s=[33]∨t.s=[126]) (h:Ev e (.operand (d+1)) r (.ok (a,r'))):Ev e (.operand d) (t::r) (.ok (one 5 t.at_ t.s [a],r')) :=
 ev1 h fun f h=>by rw [rd.eq_def];simp only;rw [if_neg (by omega),if_pos h3,if_pos hs,h]
theorem Ev.unX {t:Tok} (hd:d≤60) (h3:t.kind=3) (hs:t.s=[45]∨t.s=[33]∨t.s=[126]) (h:Ev e (.operand (d+1)) r (.error y)):Ev e (.operand d) (t::r) (.error y) :=
 ev1 h fun f h=>by rw [rd.eq_def];simp only;rw [if_neg (by omega),if_pos h3,if_pos hs,h]
theorem Ev.par {t u:Tok} {a:T} {r':List Tok} (hd:d≤60) (h3:t.kind=3) (hs:t.s=[40]) (hu:u.kind=3) (hus:u.s=[41]) (h:Ev e (.expr (d+1)) r (.ok (a,u::r'))):Ev e (.operand d) (t::r) (.ok (a,r')) :=
 ev1 h fun f h=>by
  rw [rd.eq_def];simp only;rw [if_neg (by omega),if_pos h3,if_neg (by rw [hs];decide),if_pos hs,h]
  simp only [must,sign,List.getElem?_cons_zero,signOf,hu,if_true,hus,List.tail_cons]
theorem Ev.parX {t:Tok} (hd:d≤60) (h3:t.kind=3) (hs:t.s=[40]) (h:Ev e (.expr (d+1)) r (.error y)):Ev e (.operand d) (t::r) (.error y) :=
 ev1 h fun f h=>by rw [rd.eq_def];simp only;rw [if_neg (by omega),if_pos h3,if_neg (by rw [hs];decide),if_pos hs,h]
theorem name_at {t:Tok} (h2:t.kind=2) (hl:t.s.length≤12):name e (t::r)=.ok (t.s,r):=by
 simp only [name,h2,if_true];rw [if_neg (by omega)]
theorem Ev.name {t:Tok} (hd:d≤60) (h2:t.kind=2) (hl:t.s.length≤12) (n1:sign r 0≠[91]) (n2:sign r 0≠[40]):Ev e (.operand d) (t::r) (.ok (one 2 t.at_ t.s [],r)):=ev0 fun f=>by
 rw [rd.eq_def];simp only;rw [if_neg (by omega),if_neg (by omega),if_neg (by omega),name_at h2 hl];simp only;rw [if_neg n1,if_neg n2]
theorem Ev.ix {t u w:Tok} {a:T} {r':List Tok} (hd:d≤60) (h2:t.kind=2) (hl:t.s.length≤12) (hu:u.kind=3) (hus:u.s=[91]) (hw:w.kind=3) (hws:w.s=[93]) (h:Ev e (.expr (d+1)) r (.ok (a,w::r'))):Ev e (.operand d) (t::u::r) (.ok (one 3 t.at_ t.s [a],r')) :=
 ev1 h fun f h=>by
  rw [rd.eq_def];simp only;rw [if_neg (by omega),if_neg (by omega),if_neg (by omega),name_at h2 hl];simp only
  rw [if_pos (by simp only [sign,List.getElem?_cons_zero,signOf,hu,if_true,hus]),List.tail_cons,h]
  simp only [must,sign,List.getElem?_cons_zero,signOf,hw,if_true,hws,List.tail_cons]
theorem Ev.ixX {t u:Tok} (hd:d≤60) (h2:t.kind=2) (hl:t.s.length≤12) (hu:u.kind=3) (hus:u.s=[91]) (h:Ev e (.expr (d+1)) r (.error y)):Ev e (.operand d) (t::u::r) (.error y) :=
 ev1 h fun f h=>by
  rw [rd.eq_def];simp only;rw [if_neg (by omega),if_neg (by omega),if_neg (by omega),name_at h2 hl];simp only
  rw [if_pos (by simp only [sign,List.getElem?_cons_zero,signOf,hu,if_true,hus]),List.tail_cons,h]
theorem Ev.call {t u:Tok} {l:List T} {r':List Tok} (hd:d≤60) (h2:t.kind=2) (hl:t.s.length≤12) (hu:u.kind=3) (hus:u.s=[40]) (h:Ea e (d+1) [] r (.ok (l,r'))):Ev e (.operand d) (t::u::r) (.ok (one 4 t.at_ t.s l,r')):=by
 obtain ⟨f0,h0⟩:=h
 refine ⟨f0+1,fun f hf=>?_⟩
 obtain ⟨f,rfl⟩:∃ g,f=g+1:=⟨f - 1,by omega⟩
 have hs:sign (u::r) 0=[40]:=by simp only [sign,List.getElem?_cons_zero,signOf,hu,if_true,hus]
 rw [rd.eq_def];simp only;rw [if_neg (by omega),if_neg (by omega),if_neg (by omega),name_at h2 hl];simp only
 rw [if_neg (by rw [hs];decide),if_pos hs,List.tail_cons,h0 f (by omega)]
theorem Ev.callX {t u:Tok} (hd:d≤60) (h2:t.kind=2) (hl:t.s.length≤12) (hu:u.kind=3) (hus:u.s=[40]) (h:Ea e (d+1) [] r (.error y)):Ev e (.operand d) (t::u::r) (.error y):=by
 obtain ⟨f0,h0⟩:=h
 refine ⟨f0+1,fun f hf=>?_⟩
 obtain ⟨f,rfl⟩:∃ g,f=g+1:=⟨f - 1,by omega⟩
 have hs:sign (u::r) 0=[40]:=by simp only [sign,List.getElem?_cons_zero,signOf,hu,if_true,hus]
 rw [rd.eq_def];simp only;rw [if_neg (by omega),if_neg (by omega),if_neg (by omega),name_at h2 hl];simp only
 rw [if_neg (by rw [hs];decide),if_pos hs,List.tail_cons,h0 f (by omega)]
theorem Ea.nil {u:Tok} {acc:List T} (hu:u.kind=3) (hus:u.s=[41]):Ea e d acc (u::r) (.ok (acc,r)):=⟨1,fun f hf=>by
 obtain ⟨f,rfl⟩:∃ g,f=g+1:=⟨f - 1,by omega⟩
 have hs:sign (u::r) 0=[41]:=by simp only [sign,List.getElem?_cons_zero,signOf,hu,if_true,hus]
 rw [rd.args,if_pos hs];rfl⟩
theorem Ea.first {a:T} {r':List Tok} {x:Rd (List T)} (hs:sign r 0≠[41]) (h:Ev e (.expr d) r (.ok (a,r'))) (h2:Ea e d [a] r' x):Ea e d [] r x:=by
 obtain ⟨f0,h0⟩:=h
 obtain ⟨f1,h1⟩:=h2
 refine ⟨f0+f1+1,fun f hf=>?_⟩
 obtain ⟨f,rfl⟩:∃ g,f=g+1:=⟨f - 1,by omega⟩
 rw [rd.args,if_neg hs,if_pos rfl];simp only;rw [h0 f (by omega)];exact h1 f (by omega)
theorem Ea.firstX {a:T} (hs:sign r 0≠[41]) (h:Ev e (.expr d) r (.error y)):Ea e d [] r (.error y):=by
 obtain ⟨f0,h0⟩:=h
 refine ⟨f0+1,fun f hf=>?_⟩
 obtain ⟨f,rfl⟩:∃ g,f=g+1:=⟨f - 1,by omega⟩
 rw [rd.args,if_neg hs,if_pos rfl];simp only;rw [h0 f (by omega)]
theorem Ea.more {u:Tok} {acc:List T} {a:T} {r':List Tok} {x:Rd (List T)} (ha:acc≠[]) (hu:u.kind=3) (hus:u.s=[44]) (h:Ev e (.expr d) r (.ok (a,r'))) (h2:Ea e d (acc++[a]) r' x):Ea e d acc (u::r) x:=by
 obtain ⟨f0,h0⟩:=h
 obtain ⟨f1,h1⟩:=h2
 refine ⟨f0+f1+1,fun f hf=>?_⟩
 obtain ⟨f,rfl⟩:∃ g,f=g+1:=⟨f - 1,by omega⟩
 have hs:sign (u::r) 0=[44]:=by simp only [sign,List.getElem?_cons_zero,signOf,hu,if_true,hus]
 rw [rd.args,if_neg (by rw [hs];decide),if_neg ha,must,if_pos hs];simp only [List.tail_cons];rw [h0 f (by omega)];exact h1 f (by omega)
theorem Ea.moreX {u:Tok} {acc:List T} (ha:acc≠[]) (hu:u.kind=3) (hus:u.s=[44]) (h:Ev e (.expr d) r (.error y)):Ea e d acc (u::r) (.error y):=by
 obtain ⟨f0,h0⟩:=h
 refine ⟨f0+1,fun f hf=>?_⟩
 obtain ⟨f,rfl⟩:∃ g,f=g+1:=⟨f - 1,by omega⟩
 have hs:sign (u::r) 0=[44]:=by simp only [sign,List.getElem?_cons_zero,signOf,hu,if_true,hus]
 rw [rd.args,if_neg (by rw [hs];decide),if_neg ha,must,if_pos hs];simp only [List.tail_cons];rw [h0 f (by omega)]
structure Stop (r:List Tok) (k:Nat):Prop where
 a:sign r 0≠[91]
 b:sign r 0≠[40]
 c:∀ j,k < j→sign r 0 ∉ levels.getD j []
theorem Stop.mono {k':Nat} (h:Stop r k) (hk:k≤k'):Stop r k':=⟨h.a,h.b,fun j hj=>h.c j (by omega)⟩
theorem Ev.lift {m:Nat} (h:Ev e (.level m d) ts (.ok (t,r))) (hm:m≤9) (hs:Stop r k):∀ n,m=k+1+n→Ev e (.loop k d t) r x→Ev e (.level k d) ts x:=by
 intro n
 induction n generalizing m with
 | zero=>intro he h2;exact Ev.level (by omega) (by rw [←he];exact h) h2
 | succ n ih =>
  intro he h2
  exact ih (m:=k+1+n) (Ev.level (by omega) (by rw [show k+1+n+1=m by omega];exact h) (Ev.stop (hs.c _ (by omega)))) (by omega) rfl h2
theorem Ev.liftX {m:Nat} (h:Ev e (.level m d) ts (.error y)) (hm:m≤9):∀ n,m=k+n→Ev e (.level k d) ts (.error y):=by
 intro n
 induction n generalizing m with
 | zero=>intro he;subst he;exact h
 | succ n ih=>intro he;exact ih (m:=k+n) (Ev.levelX (by omega) (by rw [show k+n+1=m by omega];exact h)) (by omega) rfl
def Rt (e:Int) (k d:Nat) (ts rest:List Tok) (Q:T→Prop) (b:Bool):Prop :=
 (b=true→∃ t,Q t∧(k < 9→∀ x,Ev e (.loop k d t) rest x→Ev e (.level k d) ts x)∧(k=9→Ev e (.level 9 d) ts (.ok (t,rest))))∧(b=false→∃ pos,Ev e (.level k d) ts (.error (9,pos)))
def Ro (e:Int) (d:Nat) (ts rest:List Tok) (Q:T→Prop) (b:Bool):Prop :=
 (b=true→∃ t,Q t∧Ev e (.operand d) ts (.ok (t,rest)))∧(b=false→∃ pos,Ev e (.operand d) ts (.error (9,pos)))
def Rx (e:Int) (d:Nat) (ts rest:List Tok) (Q:T→Prop) (b:Bool):Prop :=
 (b=true→∃ t,Q t∧Ev e (.expr d) ts (.ok (t,rest)))∧(b=false→∃ pos,Ev e (.expr d) ts (.error (9,pos)))
theorem Ro.rt {rest:List Tok} {Q:T→Prop} {b:Bool} (h:Ro e d ts rest Q b) (hk:k≤9) (hs:Stop rest k):Rt e k d ts rest Q b:=by
 refine ⟨fun hb=>?_,fun hb=>?_⟩
 ·obtain ⟨t,h1,h2⟩:=h.1 hb
  exact ⟨t,h1,fun hk9 x h3=>Ev.lift (Ev.level9 h2) (Nat.le_refl _) hs (8 - k) (by omega) h3,fun _=>Ev.level9 h2⟩
 ·obtain ⟨pos,h1⟩:=h.2 hb
  exact ⟨pos,Ev.liftX (Ev.level9 h1) (Nat.le_refl _) (9 - k) (by omega)⟩
theorem Rt.down {rest:List Tok} {Q:T→Prop} {b:Bool} {m:Nat} (h:Rt e m d ts rest Q b) (hm:m < 9) (hk:k≤m) (hs:Stop rest k):Rt e k d ts rest Q b:=by
 rcases Nat.lt_or_ge k m with hlt | hge
 ·refine ⟨fun hb=>?_,fun hb=>?_⟩
  ·obtain ⟨t,h1,h2,_⟩:=h.1 hb
   have h3:=h2 hm _ (Ev.stop (hs.c m hlt))
   exact ⟨t,h1,fun hk9 x h4=>Ev.lift h3 (by omega) hs (m - 1 - k) (by omega) h4,fun h9=>by omega⟩
  ·obtain ⟨pos,h1⟩:=h.2 hb
   exact ⟨pos,Ev.liftX h1 (by omega) (m - k) (by omega)⟩
 ·obtain rfl:k=m:=by omega
  exact h
theorem Rt.rx {rest:List Tok} {Q:T→Prop} {b:Bool} (h:Rt e 0 (d+1) ts rest Q b) (hs:sign rest 0 ∉ levels.getD 0 []):Rx e d ts rest Q (decide (d≤60)&&b):=by
 by_cases hd:d≤60
 ·have:(decide (d≤60)&&b)=b:=by simp [hd]
  rw [this]
  refine ⟨fun hb=>?_,fun hb=>?_⟩
  ·obtain ⟨t,h1,h2,_⟩:=h.1 hb
   exact ⟨t,h1,Ev.expr hd (h2 (by omega) _ (Ev.stop hs))⟩
  ·obtain ⟨pos,h1⟩:=h.2 hb
   exact ⟨pos,Ev.expr hd h1⟩
 ·have:(decide (d≤60)&&b)=false:=by simp [hd]
  rw [this]
  exact ⟨fun hb=>(by cases hb),fun _=>⟨_,Ev.exprX (by omega)⟩⟩
end
end Go.Xp
namespace Go.Xp
open Go.Sp (nameOk anySign)
theorem Ev.of9 {e:Int} {d:Nat} {ts:List Tok} {x:Rd T} (h:Ev e (.level 9 d) ts x):Ev e (.operand d) ts x:=by
 obtain ⟨f0,h0⟩:=h
 refine ⟨f0,fun f hf=>?_⟩
 have:=h0 (f+1) (by omega)
 rw [rd,if_pos rfl] at this;exact this
theorem Ro.of9 {e:Int} {d:Nat} {ts rest:List Tok} {Q:T→Prop} {b:Bool} (h:Rt e 9 d ts rest Q b):Ro e d ts rest Q b :=
 ⟨fun hb=>by obtain ⟨t,h1,_,h2⟩:=h.1 hb;exact ⟨t,h1,(h2 rfl).of9⟩,fun hb=>by obtain ⟨pos,h1⟩:=h.2 hb;exact ⟨pos,h1.of9⟩⟩
theorem sign_kf {t:Tok} {r:List Tok} {s:Str} (h:kf t=kS s):sign (t::r) 0=s:=by
 simp only [kf,kS,Prod.mk.injEq] at h
 simp only [sign,List.getElem?_cons_zero,signOf,h.1,if_true,h.2.2]
theorem sign_nk {t:Tok} {r:List Tok} (h:t.kind≠3):sign (t::r) 0=[]:=by
 simp only [sign,List.getElem?_cons_zero,signOf,if_neg h]
theorem lev_big {j:Nat} (h:9≤j):levels.getD j []=[]:=by
 rw [List.getD_eq_getElem?_getD,List.getElem?_eq_none (by simpa [levels] using h)];rfl
theorem stop_sign {r:List Tok} {s:Str} (h:sign r 0=s) (hs:s=[]∨s=[41]∨s=[93]∨s=[44]∨s=[59]∨s=[61]):Stop r 0:=by
 have h9:∀ j,j < 9→∀ s:Str,(s=[]∨s=[41]∨s=[93]∨s=[44]∨s=[59]∨s=[61])→s ∉ levels.getD j []:=by
  intro j hj s hs
  have:∀ j,j < 9→∀ s∈([[],[41],[93],[44],[59],[61]]:List Str),s ∉ levels.getD j []:=by decide
  exact this j hj s (by simpa using hs)
 refine ⟨?_,?_,fun j _=>?_⟩
 ·rw [h];rcases hs with rfl | rfl | rfl | rfl | rfl | rfl <;> decide
 ·rw [h];rcases hs with rfl | rfl | rfl | rfl | rfl | rfl <;> decide
 ·rw [h]
  rcases Nat.lt_or_ge j 9 with h0 | h0
  ·exact h9 j h0 s hs
  ·rw [lev_big h0];simp
theorem stop_sign0 {r:List Tok} {s:Str} (h:sign r 0=s) (hs:s=[]∨s=[41]∨s=[93]∨s=[44]∨s=[59]∨s=[61]):sign r 0 ∉ levels.getD 0 []:=by
 rw [h];rcases hs with rfl | rfl | rfl | rfl | rfl | rfl <;> decide
theorem lvOf_spec {s:Str} (h:anySign s=true):lvOf s < 9∧s∈levels.getD (lvOf s) []∧s≠[91]∧s≠[40]∧∀ j,lvOf s < j→s ∉ levels.getD j []:=by
 have hm:s∈levels.flatten:=by
  unfold anySign at h
  rw [List.any_eq_true] at h
  obtain ⟨l,hl,hc⟩:=h
  exact List.mem_flatten.2 ⟨l,hl,by simpa using hc⟩
 have key:∀ s∈levels.flatten,lvOf s < 9∧s∈levels.getD (lvOf s) []∧s≠[91]∧s≠[40]∧∀ j,j < 9→lvOf s < j→s ∉ levels.getD j []:=by decide
 obtain ⟨h1,h2,h3,h4,h5⟩:=key s hm
 refine ⟨h1,h2,h3,h4,fun j hj=>?_⟩
 rcases Nat.lt_or_ge j 9 with h0 | h0
 ·exact h5 j h0 hj
 ·rw [lev_big h0];simp
theorem E.lv_le {a:E} (h:a.ok=true):a.lv≤9:=by
 cases a with
 | bin s a b=>simp only [E.ok,Bool.and_eq_true] at h;exact Nat.le_of_lt (lvOf_spec h.1.1).1
 | _=>exact Nat.le_refl _
def CoreE (a:E):Prop:=∀ (e:Int) (k d:Nat) (ts rest:List Tok),k≤a.lv→a.ok=true→ts.map kf=a.tk→Stop rest k→Rt e k d (ts++rest) rest (fun t=>er t=a.tree) (a.fit d)
def GoodE (a:E):Prop:=∀ (e:Int) (k d:Nat) (ts rest:List Tok),k≤9→a.ok=true→ts.map kf=brk a.lv k a.tk→Stop rest k→Rt e k d (ts++rest) rest (fun t=>er t=a.tree) (brf a.lv k d a.fit)
theorem map_cons {ts:List Tok} {k:K} {l:List K} (h:ts.map kf=k::l):∃ t r,ts=t::r∧kf t=k∧r.map kf=l:=List.map_eq_cons_iff.1 h
theorem map_app {ts:List Tok} {l l':List K} (h:ts.map kf=l++l'):∃ a b,ts=a++b∧a.map kf=l∧b.map kf=l':=List.map_eq_append_iff.1 h
theorem map_one {ts:List Tok} {k:K} (h:ts.map kf=[k]):∃ t,ts=[t]∧kf t=k:=by
 obtain ⟨t,r,rfl,h1,h2⟩:=map_cons h
 have:r=[]:=by simpa using h2
 subst this;exact ⟨t,rfl,h1⟩
theorem kf_s {t:Tok} {s:Str} (h:kf t=kS s):t.kind=3∧t.s=s:=by simp only [kf,kS,Prod.mk.injEq] at h;exact ⟨h.1,h.2.2⟩
theorem kf_n {t:Tok} {s:Str} (h:kf t=kN s):t.kind=2∧t.s=s:=by simp only [kf,kN,Prod.mk.injEq] at h;exact ⟨h.1,h.2.2⟩
theorem kf_i {t:Tok} {n:Int} (h:kf t=kI n):t.kind=1∧t.n=n:=by simp only [kf,kI,Prod.mk.injEq] at h;exact ⟨h.1,h.2.1⟩
theorem CoreE.rx {a:E} (h:CoreE a) {e:Int} {d:Nat} {ts rest:List Tok} {s:Str} (ho:a.ok=true) (ht:ts.map kf=a.tk) (hs:sign rest 0=s) (hs':s=[]∨s=[41]∨s=[93]∨s=[44]∨s=[59]∨s=[61]) :
  Rx e d (ts++rest) rest (fun t=>er t=a.tree) (decide (d≤60)&&a.fit (d+1)):=(h e 0 (d+1) ts rest (Nat.zero_le _) ho ht (stop_sign hs hs')).rx (stop_sign0 hs hs')
theorem CoreE.good {a:E} (h:CoreE a):GoodE a:=by
 intro e k d ts rest hk ho ht hs
 unfold brk at ht
 unfold brf
 by_cases hl:a.lv < k
 ·rw [if_pos hl] at ht ⊢
  obtain ⟨t,r,rfl,h1,h2⟩:=map_cons ht
  obtain ⟨A,B,rfl,h3,h4⟩:=map_app h2
  obtain ⟨u,rfl,h5⟩:=map_one h4
  obtain ⟨h1,h1'⟩:=kf_s h1
  obtain ⟨h5,h5'⟩:=kf_s h5
  have hx:=h.rx (e:=e) (d:=d+1) (rest:=u::rest) (s:=[41]) ho h3 (by simp only [sign,List.getElem?_cons_zero,signOf,h5,if_true,h5']) (by simp)
  refine Ro.rt ?_ hk hs
  have he:t::(A++[u])++rest=t::(A++u::rest):=by simp
  rw [he]
  by_cases hd:d≤60
  ·have:(decide (d≤60)&&decide (d+1≤60)&&a.fit (d+2))=(decide (d+1≤60)&&a.fit (d+1+1)):=by simp [hd]
   rw [this]
   refine ⟨fun hb=>?_,fun hb=>?_⟩
   ·obtain ⟨t',k1,k2⟩:=hx.1 hb
    exact ⟨t',k1,Ev.par hd h1 h1' h5 h5' k2⟩
   ·obtain ⟨pos,k1⟩:=hx.2 hb
    exact ⟨pos,Ev.parX hd h1 h1' k1⟩
  ·have:(decide (d≤60)&&decide (d+1≤60)&&a.fit (d+2))=false:=by simp [hd]
   rw [this]
   exact ⟨fun hb=>(by cases hb),fun _=>⟨_,Ev.deepX (by omega)⟩⟩
 ·rw [if_neg hl] at ht ⊢
  exact h e k d ts rest (by omega) ho ht hs
theorem ro_deep {e:Int} {d:Nat} {ts rest:List Tok} {Q:T→Prop} {b:Bool} (h:d≤60→Ro e d ts rest Q b):Ro e d ts rest Q (decide (d≤60)&&b):=by
 by_cases hd:d≤60
 ·have:(decide (d≤60)&&b)=b:=by simp [hd]
  rw [this];exact h hd
 ·have:(decide (d≤60)&&b)=false:=by simp [hd]
  rw [this]
  exact ⟨fun hb=>(by cases hb),fun _=>⟨_,Ev.deepX (by omega)⟩⟩
theorem nameOk_len {s:Str} (h:nameOk s=true):s.length≤12:=by
 simp only [Go.Sp.nameOk,Bool.and_eq_true,decide_eq_true_eq] at h;exact h.1.2
theorem core_num (n:Int):CoreE (.num n):=by
 intro e k d ts rest hk ho ht hs
 obtain ⟨t,rfl,h1⟩:=map_one ht
 obtain ⟨h1,h2⟩:=kf_i h1
 refine Ro.rt ?_ hk hs
 have:=ro_deep (e:=e) (d:=d) (ts:=[t]++rest) (rest:=rest) (Q:=fun t=>er t=(E.num n).tree) (b:=true) fun hd=>⟨fun _=>⟨_,?_,Ev.num hd h1⟩,fun h=>by cases h⟩
 ·simpa [E.fit] using this
 ·show er _=_;rw [er,E.tree,h2];rfl
theorem core_name (s:Str):CoreE (.name s):=by
 intro e k d ts rest hk ho ht hs
 obtain ⟨t,rfl,h1⟩:=map_one ht
 obtain ⟨h1,h2⟩:=kf_n h1
 simp only [E.ok] at ho
 refine Ro.rt ?_ hk hs
 have:=ro_deep (e:=e) (d:=d) (ts:=[t]++rest) (rest:=rest) (Q:=fun t=>er t=(E.name s).tree) (b:=true) fun hd=>⟨fun _=>⟨_,?_,Ev.name hd h1 (by rw [h2];exact nameOk_len ho) hs.a hs.b⟩,fun h=>by cases h⟩
 ·simpa [E.fit] using this
 ·show er _=_;rw [er_one,E.tree,h2];rfl
theorem core_at (s:Str) {a:E} (C:CoreE a):CoreE (.at_ s a):=by
 intro e k d ts rest hk ho ht hs
 simp only [E.ok,Bool.and_eq_true] at ho
 rw [E.tk] at ht
 obtain ⟨t,r,rfl,h1,h2⟩:=map_cons ht
 obtain ⟨u,r,rfl,h3,h4⟩:=map_cons h2
 obtain ⟨A,B,rfl,h5,h6⟩:=map_app h4
 obtain ⟨w,rfl,h7⟩:=map_one h6
 obtain ⟨h1,h1'⟩:=kf_n h1
 obtain ⟨h3,h3'⟩:=kf_s h3
 obtain ⟨h7,h7'⟩:=kf_s h7
 have hl:t.s.length≤12:=by rw [h1'];exact nameOk_len ho.1
 have hx:=C.rx (e:=e) (d:=d+1) (rest:=w::rest) (s:=[93]) ho.2 h5 (by simp only [sign,List.getElem?_cons_zero,signOf,h7,if_true,h7']) (by simp)
 refine Ro.rt ?_ hk hs
 have he:t::u::(A++[w])++rest=t::u::(A++w::rest):=by simp
 rw [he,E.fit,Bool.and_assoc]
 refine ro_deep fun hd=>⟨fun hb=>?_,fun hb=>?_⟩
 ·obtain ⟨t',k1,k2⟩:=hx.1 hb
  exact ⟨_,by show er _=_;rw [er_one,ers,k1,h1',E.tree];rfl,Ev.ix hd h1 hl h3 h3' h7 h7' k2⟩
 ·obtain ⟨pos,k1⟩:=hx.2 hb
  exact ⟨pos,Ev.ixX hd h1 hl h3 h3' k1⟩
theorem core_un (s:Str) {a:E} (C:CoreE a):CoreE (.un s a):=by
 intro e k d ts rest hk ho ht hs
 simp only [E.ok,Bool.and_eq_true,Bool.or_eq_true,beq_iff_eq] at ho
 rw [E.tk] at ht
 obtain ⟨t,r,rfl,h1,h2⟩:=map_cons ht
 obtain ⟨h1,h1'⟩:=kf_s h1
 have hk9:k≤9:=hk
 have hg:=Ro.of9 (C.good e 9 (d+1) r rest (Nat.le_refl _) ho.2 h2 (hs.mono hk9))
 refine Ro.rt ?_ hk hs
 have hts:t.s=[45]∨t.s=[33]∨t.s=[126]:=by rw [h1'];rcases ho.1 with (h | h) | h <;> simp [h]
 rw [E.fit]
 refine ro_deep fun hd=>⟨fun hb=>?_,fun hb=>?_⟩
 ·obtain ⟨t',k1,k2⟩:=hg.1 hb
  exact ⟨_,by show er _=_;rw [er_one,ers,k1,h1',E.tree];rfl,Ev.un hd h1 hts k2⟩
 ·obtain ⟨pos,k1⟩:=hg.2 hb
  exact ⟨pos,Ev.unX hd h1 hts k1⟩
theorem core_bin (s:Str) {a b:E} (Ca:CoreE a) (Cb:CoreE b):CoreE (.bin s a b):=by
 intro e k d ts rest hk ho ht hs
 simp only [E.ok,Bool.and_eq_true] at ho
 obtain ⟨l1,l2,l3,l4,l5⟩:=lvOf_spec ho.1.1
 rw [E.tk] at ht
 obtain ⟨A,B,rfl,h1,h2⟩:=map_app ht
 obtain ⟨t,r,rfl,h3,h4⟩:=map_cons h2
 obtain ⟨h3,h3'⟩:=kf_s h3
 have hk':k≤lvOf s:=hk
 have hsm:=hs.mono hk'
 refine Rt.down (m:=lvOf s) ?_ l1 hk' hs
 have hsg:sign (t::(r++rest)) 0=s:=by simp only [sign,List.getElem?_cons_zero,signOf,h3,if_true,h3']
 have ga:=Ca.good e (lvOf s) d A (t::(r++rest)) (by omega) ho.1.2 h1 ⟨by rw [hsg];exact l3,by rw [hsg];exact l4,fun j hj=>by rw [hsg];exact l5 j hj⟩
 have gb:=Cb.good e (lvOf s+1) d r rest (by omega) ho.2 h4 (hsm.mono (by omega))
 have he:A++t::r++rest=A++t::(r++rest):=by simp
 rw [he,E.fit]
 change Rt e (lvOf s) d _ rest _ (brf a.lv (lvOf s) d a.fit&&brf b.lv (lvOf s+1) d b.fit)
 have hts:t.s∈levels.getD (lvOf s) []:=by rw [h3'];exact l2
 cases hfa:brf a.lv (lvOf s) d a.fit with
 | false =>
  refine ⟨fun hb=>(by cases hb),fun _=>ga.2 hfa⟩
 | true =>
  obtain ⟨ta,k1,k2,_⟩:=ga.1 hfa
  cases hfb:brf b.lv (lvOf s+1) d b.fit with
  | false =>
   refine ⟨fun hb=>(by cases hb),fun _=>?_⟩
   obtain ⟨pos,k3⟩:=gb.2 hfb
   exact ⟨pos,k2 l1 _ (Ev.goX h3 hts k3)⟩
  | true =>
   refine ⟨fun _=>?_,fun hb=>(by cases hb)⟩
   obtain ⟨tb,k3,k4,k5⟩:=gb.1 hfb
   have k6:Ev e (.level (lvOf s+1) d) (r++rest) (.ok (tb,rest)):=by
    rcases Nat.lt_or_ge (lvOf s+1) 9 with h9 | h9
    ·exact k4 h9 _ (Ev.stop (hsm.c _ (by omega)))
    ·have:lvOf s+1=9:=by omega
     rw [this] at k5 ⊢;exact k5 rfl
   exact ⟨one 6 t.at_ t.s [ta,tb],by show er _=_;rw [er_one,ers,ers,ers,k1,k3,h3',E.tree],fun _ x hx=>k2 l1 x (Ev.go h3 hts k6 hx),fun h9=>by omega⟩
def fstOk (k:K):Prop:=k.1=1∨k.1=2∨(k.1=3∧(k.2.2=[45]∨k.2.2=[33]∨k.2.2=[126]∨k.2.2=[40]))
theorem E.head:∀ (a:E),a.ok=true→∃ k r,a.tk=k::r∧fstOk k
 | .num n,_=>⟨_,_,rfl,.inl rfl⟩
 | .name s,_=>⟨_,_,rfl,.inr (.inl rfl)⟩
 | .at_ s a,_=>⟨_,_,rfl,.inr (.inl rfl)⟩
 | .call s l,_=>⟨_,_,rfl,.inr (.inl rfl)⟩
 | .un s a,h=>⟨_,_,rfl,.inr (.inr ⟨rfl,by simp only [E.ok,Bool.and_eq_true,Bool.or_eq_true,beq_iff_eq] at h;rcases h.1 with (h | h) | h <;> simp [h]⟩)⟩
 | .bin s a b,h=>by
  simp only [E.ok,Bool.and_eq_true] at h
  obtain ⟨k,r,h1,h2⟩:=E.head a h.1.2
  rw [E.tk,brk]
  split
  ·exact ⟨_,_,rfl,.inr (.inr ⟨rfl,by simp⟩)⟩
  ·rw [h1];exact ⟨k,_,rfl,h2⟩
theorem fst_sign {t:Tok} {r:List Tok} (h:fstOk (kf t)):sign (t::r) 0=[]∨sign (t::r) 0=[45]∨sign (t::r) 0=[33]∨sign (t::r) 0=[126]∨sign (t::r) 0=[40]:=by
 rcases h with h | h | ⟨h,h'⟩
 ·left;exact sign_nk (by simp only [kf] at h;omega)
 ·left;exact sign_nk (by simp only [kf] at h;omega)
 ·right
  have:sign (t::r) 0=t.s:=by simp only [kf] at h;simp only [sign,List.getElem?_cons_zero,signOf,h,if_true]
  rw [this];exact h'
def CoreL (l:List E):Prop:=∀ (e:Int) (d:Nat) (acc:List T) (ts rest:List Tok) (u:Tok),E.oks l=true→acc≠[]→ts.map kf=E.tksC l→u.kind=3→u.s=[41] →
 (E.fits l d=true→∃ ys,ers ys=E.trees l∧Ea e d acc (ts++u::rest) (.ok (acc++ys,rest)))∧(E.fits l d=false→∃ pos,Ea e d acc (ts++u::rest) (.error (9,pos)))
theorem coreL_nil:CoreL []:=by
 intro e d acc ts rest u _ ha ht hu hus
 have:ts=[]:=by simpa [E.tksC] using ht
 subst this
 exact ⟨fun _=>⟨[],rfl,by rw [List.append_nil];exact Ea.nil hu hus⟩,fun h=>by simp [E.fits] at h⟩
theorem tksC_sign {l:List E} {ts rest:List Tok} {u:Tok} (ht:ts.map kf=E.tksC l) (hu:u.kind=3) (hus:u.s=[41]):∃ s,sign (ts++u::rest) 0=s∧(s=[]∨s=[41]∨s=[93]∨s=[44]∨s=[59]∨s=[61]):=by
 cases l with
 | nil =>
  have:ts=[]:=by simpa [E.tksC] using ht
  subst this
  exact ⟨[41],by simp only [List.nil_append,sign,List.getElem?_cons_zero,signOf,hu,if_true,hus],by simp⟩
 | cons a l =>
  rw [E.tksC] at ht
  obtain ⟨t,r,rfl,h1,_⟩:=map_cons ht
  exact ⟨[44],sign_kf h1,by simp⟩
theorem coreL_cons {a:E} {l:List E} (Ca:CoreE a) (Cl:CoreL l):CoreL (a::l):=by
 intro e d acc ts rest u ho ha ht hu hus
 simp only [E.oks,Bool.and_eq_true] at ho
 rw [E.tksC] at ht
 obtain ⟨t,r,rfl,h1,h2⟩:=map_cons ht
 obtain ⟨A,B,rfl,h3,h4⟩:=map_app h2
 obtain ⟨h1,h1'⟩:=kf_s h1
 obtain ⟨s,hs1,hs2⟩:=tksC_sign (rest:=rest) h4 hu hus
 have hx:=Ca.rx (e:=e) (d:=d) (rest:=B++u::rest) (s:=s) ho.1 h3 hs1 hs2
 have he:t::(A++B)++u::rest=t::(A++(B++u::rest)):=by simp
 rw [he,E.fits]
 cases hfa:decide (d≤60)&&a.fit (d+1) with
 | false =>
  refine ⟨fun hb=>(by simp at hb),fun _=>?_⟩
  obtain ⟨pos,k1⟩:=hx.2 hfa
  exact ⟨pos,Ea.moreX ha h1 h1' k1⟩
 | true =>
  obtain ⟨ta,k1,k2⟩:=hx.1 hfa
  have hl:=Cl e d (acc++[ta]) B rest u ho.2 (by simp) h4 hu hus
  refine ⟨fun hb=>?_,fun hb=>?_⟩
  ·obtain ⟨ys,k3,k4⟩:=hl.1 (by simpa using hb)
   exact ⟨ta::ys,by rw [ers,k1,k3,E.trees],Ea.more ha h1 h1' k2 (by rw [List.append_assoc] at k4;exact k4)⟩
  ·obtain ⟨pos,k3⟩:=hl.2 (by simpa using hb)
   exact ⟨pos,Ea.more ha h1 h1' k2 k3⟩
theorem core_call (s:Str) {l:List E} (Cf:∀ a r,l=a::r→CoreE a∧CoreL r):CoreE (.call s l):=by
 intro e k d ts rest hk ho ht hs
 simp only [E.ok,Bool.and_eq_true] at ho
 rw [E.tk] at ht
 obtain ⟨t,r,rfl,h1,h2⟩:=map_cons ht
 obtain ⟨u,r,rfl,h3,h4⟩:=map_cons h2
 obtain ⟨A,B,rfl,h5,h6⟩:=map_app h4
 obtain ⟨w,rfl,h7⟩:=map_one h6
 obtain ⟨h1,h1'⟩:=kf_n h1
 obtain ⟨h3,h3'⟩:=kf_s h3
 obtain ⟨h7,h7'⟩:=kf_s h7
 have hl:t.s.length≤12:=by rw [h1'];exact nameOk_len ho.1
 refine Ro.rt ?_ hk hs
 have he:t::u::(A++[w])++rest=t::u::(A++w::rest):=by simp
 rw [he,E.fit]
 refine ro_deep fun hd=>?_
 have key:(E.fits l (d+1)=true→∃ ys,ers ys=E.trees l∧Ea e (d+1) [] (A++w::rest) (.ok (ys,rest)))∧(E.fits l (d+1)=false→∃ pos,Ea e (d+1) [] (A++w::rest) (.error (9,pos))):=by
  cases l with
  | nil =>
   have:A=[]:=by simpa [E.tks] using h5
   subst this
   exact ⟨fun _=>⟨[],rfl,Ea.nil h7 h7'⟩,fun h=>by simp [E.fits] at h⟩
  | cons a l =>
   obtain ⟨Ca,Cl⟩:=Cf a l rfl
   have ho':=ho.2
   simp only [E.oks,Bool.and_eq_true] at ho'
   rw [E.tks] at h5
   obtain ⟨A,B,rfl,h3,h4⟩:=map_app h5
   obtain ⟨s,hs1,hs2⟩:=tksC_sign (rest:=rest) h4 h7 h7'
   have hx:=Ca.rx (e:=e) (d:=d+1) (rest:=B++w::rest) (s:=s) ho'.1 h3 hs1 hs2
   rw [List.append_assoc]
   have hne:sign (A++(B++w::rest)) 0≠[41]:=by
    obtain ⟨kk,rr,k1,k2⟩:=E.head a ho'.1
    rw [k1] at h3
    obtain ⟨t0,r0,rfl,k3,_⟩:=map_cons h3
    rcases fst_sign (r:=r0++(B++w::rest)) (by rw [k3];exact k2) with h | h | h | h | h <;> (rw [List.cons_append,h];decide)
   rw [E.fits]
   cases hfa:decide (d+1≤60)&&a.fit (d+1+1) with
   | false =>
    refine ⟨fun hb=>(by simp at hb),fun _=>?_⟩
    obtain ⟨pos,k1⟩:=hx.2 hfa
    exact ⟨pos,Ea.firstX (a:=T.mk ⟨0,0,0,[],[]⟩ []) hne k1⟩
   | true =>
    obtain ⟨ta,k1,k2⟩:=hx.1 hfa
    have hll:=Cl e (d+1) [ta] B rest w ho'.2 (by simp) h4 h7 h7'
    refine ⟨fun hb=>?_,fun hb=>?_⟩
    ·obtain ⟨ys,k3,k4⟩:=hll.1 (by simpa using hb)
     exact ⟨ta::ys,by rw [ers,k1,k3,E.trees],Ea.first hne k2 k4⟩
    ·obtain ⟨pos,k3⟩:=hll.2 (by simpa using hb)
     exact ⟨pos,Ea.first hne k2 k3⟩
 refine ⟨fun hb=>?_,fun hb=>?_⟩
 ·obtain ⟨ys,k1,k2⟩:=key.1 hb
  exact ⟨_,by show er _=_;rw [er_one,k1,h1',E.tree],Ev.call hd h1 hl h3 h3' k2⟩
 ·obtain ⟨pos,k1⟩:=key.2 hb
  exact ⟨pos,Ev.callX hd h1 hl h3 h3' k1⟩
mutual
theorem core:∀ (a:E),CoreE a
 | .num n=>core_num n
 | .name s=>core_name s
 | .at_ s a=>core_at s (core a)
 | .call s l=>core_call s (cores l)
 | .un s a=>core_un s (core a)
 | .bin s a b=>core_bin s (core a) (core b)
theorem cores:∀ (l:List E),∀ a r,l=a::r→CoreE a∧CoreL r
 | []=>fun a r h=>by cases h
 | a::r=>fun a' r' h=>by cases h;exact ⟨core a,coreLs r⟩
theorem coreLs:∀ (l:List E),CoreL l
 | []=>coreL_nil
 | a::l=>coreL_cons (core a) (coreLs l)
end
end Go.Xp
