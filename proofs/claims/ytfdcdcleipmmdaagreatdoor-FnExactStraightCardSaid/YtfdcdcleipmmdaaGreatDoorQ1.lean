/- Part 1 of proofs that are told in their last texts. -/
open List (cons_append getElem?_append getElem?_cons_zero getElem?_eq_none length_cons mem_map nil_append tail_cons)
set_option linter.unusedVariables false
set_option linter.unusedSimpArgs false
set_option maxRecDepth 100000
namespace Go
theorem aq {A:Prop} (s:A:=by omega):A:=s
theorem aw {A:Prop} (s:A:=by decide):A:=s
theorem bh {α:Type _} {l:List α} {i:Nat} {a:α} (h:l[i]?=some a):∃ (h:i<l.length),l[i]=a:=List.getElem?_eq_some_iff.1 h
theorem ei {α:Type _} {a b:α} {l:List α} (h:a∈b::l):a=b\/a∈l:=List.mem_cons.1 h
theorem qp {α:Type _} {a:α} {s t:List α} (h:a∈s++t):a∈s\/a∈t:=List.mem_append.1 h
theorem Ek {α:Type _} {a b:α} (h:a∈[b]):a=b:=List.mem_singleton.1 h
theorem py {α:Type _} {l:List α} {i:Nat} (h:l[i]?=none):l.length<=i:=List.getElem?_eq_none_iff.1 h
theorem ab:type_of% @if_neg:=@if_neg
theorem ae:type_of% @if_pos:=@if_pos
theorem aE:type_of% @Bool.and_eq_true:=@Bool.and_eq_true
theorem bm:type_of% @List.mem_of_getElem?:=@List.mem_of_getElem?
theorem aZ:type_of% @List.length_append:=@List.length_append
theorem aH:type_of% @Nat.le_refl:=@Nat.le_refl
theorem aV:type_of% @List.getElem?_map:=@List.getElem?_map
theorem aX:type_of% @Nat.zero_le:=@Nat.zero_le
theorem eF:type_of% @List.getElem?_eq_getElem:=@List.getElem?_eq_getElem
theorem bS:type_of% @List.length_map:=@List.length_map
theorem gQ:type_of% @List.eq_nil_of_length_eq_zero:=@List.eq_nil_of_length_eq_zero
theorem cq:type_of% @List.take_add_one:=@List.take_add_one
theorem fi:type_of% @Nat.le_of_ble_eq_true:=@Nat.le_of_ble_eq_true
theorem cy:type_of% @List.take_length:=@List.take_length
theorem iw:type_of% @List.append_assoc:=@List.append_assoc
theorem fk:type_of% @Nat.zero_add:=@Nat.zero_add
theorem cV:type_of% @List.mem_cons_of_mem:=@List.mem_cons_of_mem
theorem nk:type_of% @List.getElem?_append_right:=@List.getElem?_append_right
theorem fV:type_of% @List.length_take:=@List.length_take
theorem iy:type_of% @List.append_nil:=@List.append_nil
theorem kl:type_of% @List.getElem?_append_left:=@List.getElem?_append_left
theorem iz:type_of% @List.getElem?_set:=@List.getElem?_set
theorem gW:type_of% @Nat.add_assoc:=@Nat.add_assoc
theorem vA:type_of% @Nat.sub_self:=@Nat.sub_self
theorem nl:type_of% @List.drop_eq_getElem_cons:=@List.drop_eq_getElem_cons
theorem jS:type_of% @List.take_of_length_le:=@List.take_of_length_le
theorem km:type_of% @Nat.le_trans:=@Nat.le_trans
theorem iM:type_of% @List.length_drop:=@List.length_drop
theorem Ae:type_of% @Option.some.inj:=@Option.some.inj
theorem o0:type_of% @List.map_append:=@List.map_append
theorem ej:type_of% @List.contains_iff_mem:=@List.contains_iff_mem
theorem lS:type_of% @of_decide_eq_true:=@of_decide_eq_true
theorem fE:type_of% @List.all_eq_true:=@List.all_eq_true
theorem gA:type_of% @Int.toNat_natCast:=@Int.toNat_natCast
theorem ru:type_of% @Nat.mul_le_mul_right:=@Nat.mul_le_mul_right
theorem xS:type_of% @Nat.lt_of_lt_of_le:=@Nat.lt_of_lt_of_le
theorem tI:type_of% @mem_map:=@mem_map
theorem p7:type_of% @List.any_eq_true:=@List.any_eq_true
end Go
namespace Go.Xp
abbrev ah:=List UInt8
structure Tok where
 kind:Int
 n:Int
 s:ah
 at_:Int
structure Nd where
 kind:Int
 at_:Int
 n:Int
 s:ah
 kids:List Int
inductive T where
 | mk (n:Nd) (kids:List T)
def T.n:T->Nd | .mk n _=>n
def T.kids:T->List T | .mk _ k=>k
abbrev Er:=Int × Int
abbrev Rd (α:Type):=Except Er (α × List Tok)
def br (t:Tok):ah:=if t.kind=3 then t.s else []
def sign (ts:List Tok) (k:Nat):ah:=match ts[k]? with | some t=>br t | none=>[]
def place (e:Int):List Tok->Int
 | t::_=>t.at_
 | []=>e
def aP (e:Int) (s:ah) (ts:List Tok):Except Er (List Tok) :=
 if sign ts 0=s then .ok ts.tail else .error (7,place e ts)
def name (e:Int):List Tok->Rd ah
 | []=>.error (7,e)
 | t::r=>if t.kind=2 then (if t.s.length > 12 then .error (8,t.at_) else .ok (t.s,r)) else .error (7,t.at_)
def one (kind at_:Int) (s:ah) (kids:List T):T:=.mk ⟨kind,at_,0,s,[]⟩ kids
def levels:List (List ah):=[[[124,124]],[[38,38]],[[61,61],[33,61],[60],[62],[60,61],[62,61]],[[124]],[[94]],[[38]],[[60,60],[62,62]],[[43],[45]],[[42],[47],[37]]]
def bb:Er:=(-1,-1)
inductive pA where
 | expr (deep:Nat)
 | level (k deep:Nat)
 | loop (k deep:Nat) (out:T)
 | operand (deep:Nat)
def rd (e:Int):Nat->pA->List Tok->Rd T
 | 0,_,_=>.error bb
 | f+1,.expr deep,ts=>if deep > 60 then .error (9,place e ts) else rd e f (.level 0 (deep+1)) ts
 | f+1,.level k deep,ts =>
  if k=9 then rd e f (.operand deep) ts
  else match rd e f (.level (k+1) deep) ts with
   | .error x=>.error x
   | .ok (out,ts)=>rd e f (.loop k deep out) ts
 | f+1,.loop k deep out,ts =>
  match ts with
  | []=>.ok (out,ts)
  | t::r =>
   if t.kind=3/\t.s∈levels.getD k [] then
    match rd e f (.level (k+1) deep) r with
    | .error x=>.error x
    | .ok (b,r)=>rd e f (.loop k deep (one 6 t.at_ t.s [out,b])) r
   else .ok (out,ts)
 | f+1,.operand deep,ts =>
  if deep > 60 then .error (9,place e ts)
  else match ts with
  | []=>.error (7,e)
  | t::r =>
   if t.kind=3 then
    if t.s=[45]\/t.s=[33]\/t.s=[126] then
     match rd e f (.operand (deep+1)) r with
     | .error x=>.error x
     | .ok (a,r)=>.ok (one 5 t.at_ t.s [a],r)
    else if t.s=[40] then
     match rd e f (.expr (deep+1)) r with
     | .error x=>.error x
     | .ok (a,r)=>match aP e [41] r with
      | .error x=>.error x
      | .ok r=>.ok (a,r)
    else .error (7,t.at_)
   else if t.kind=1 then .ok (.mk ⟨1,t.at_,t.n,[],[]⟩ [],r)
   else match name e ts with
    | .error x=>.error x
    | .ok (s,r) =>
     if sign r 0=[91] then
      match rd e f (.expr (deep+1)) r.tail with
      | .error x=>.error x
      | .ok (a,r)=>match aP e [93] r with
       | .error x=>.error x
       | .ok r=>.ok (one 3 t.at_ s [a],r)
     else if sign r 0=[40] then
      match args e f (deep+1) [] r.tail with
      | .error x=>.error x
      | .ok (l,r)=>.ok (one 4 t.at_ s l,r)
     else .ok (one 2 t.at_ s [],r)
where
 args (e:Int):Nat->Nat->List T->List Tok->Rd (List T)
  | 0,_,_,_=>.error bb
  | f+1,deep,acc,ts =>
   if sign ts 0=[41] then .ok (acc,ts.tail)
   else match (if acc=[] then .ok ts else aP e [44] ts) with
    | .error x=>.error x
    | .ok ts=>match rd e f (.expr deep) ts with
     | .error x=>.error x
     | .ok (a,ts)=>args e f deep (acc++[a]) ts
def iv:ah:=[118,97,114]
def eo:ah:=[105,102]
def eM:ah:=[101,108,115,101]
def dL:ah:=[119,104,105,108,101]
def dy:ah:=[114,101,116,117,114,110]
def mg:ah:=[105,110,116]
def nB:ah:=[102,117,110,99]
inductive rH where
 | block (deep:Nat)
 | stmt (deep:Nat)
def nr (ts:List Tok):Nat:=20 * ts.length+20
def expr (e:Int) (deep:Nat) (ts:List Tok):Rd T:=rd e (nr ts) (.expr deep) ts
def inner (e:Int) (deep:Nat) (a b:ah) (ts:List Tok):Rd T :=
 match aP e a ts with
 | .error x=>.error x
 | .ok ts=>match expr e deep ts with
  | .error x=>.error x
  | .ok (t,ts)=>match aP e b ts with
   | .error x=>.error x
   | .ok ts=>.ok (t,ts)
def lR (e:Int) (deep:Nat) (ts:List Tok):Rd (ah × T) :=
 match name e ts with
 | .error x=>.error x
 | .ok (s,ts)=>match inner e deep [61] [59] ts with
  | .error x=>.error x
  | .ok (t,ts)=>.ok ((s,t),ts)
def simple (e:Int) (deep:Nat) (ts:List Tok):Rd T :=
 match ts with
 | []=>match expr e (deep+1) [] with
  | .error x=>.error x
  | .ok _=>.error (7,e)
 | t::_ =>
  if t.kind=2/\sign ts 1=[61] then
   match lR e (deep+1) ts with
   | .error x=>.error x
   | .ok ((s,a),ts)=>.ok (one 7 t.at_ s [a],ts)
  else match expr e (deep+1) ts with
   | .error x=>.error x
   | .ok (a,ts) =>
    if a.n.kind=3/\a.n.at_=t.at_/\sign ts 0=[61] then
     match inner e (deep+1) [61] [59] ts with
     | .error x=>.error x
     | .ok (v,ts)=>.ok (one 8 t.at_ a.n.s (a.kids.take 1++[v]),ts)
    else match aP e [59] ts with
     | .error x=>.error x
     | .ok ts=>.ok (one 12 t.at_ [] [a],ts)
def rs (e:Int):Nat->rH->List Tok->Rd T
 | 0,_,_=>.error bb
 | f+1,.block deep,ts =>
  if deep > 60 then .error (9,place e ts)
  else match aP e [123] ts with
   | .error x=>.error x
   | .ok r=>match body e f (deep+1) [] r with
    | .error x=>.error x
    | .ok (l,r)=>.ok (one 14 (place e ts) [] l,r)
 | f+1,.stmt deep,ts =>
  if deep > 60 then .error (9,place e ts)
  else
   let at_:=place e ts
   if sign ts 0=iv then
    match lR e (deep+1) ts.tail with
    | .error x=>.error x
    | .ok ((s,a),ts)=>.ok (one 13 at_ s [a],ts)
   else if sign ts 0=eo\/sign ts 0=dL then
    match inner e (deep+1) [40] [41] ts.tail with
    | .error x=>.error x
    | .ok (c,r)=>match rs e f (.block (deep+1)) r with
     | .error x=>.error x
     | .ok (b,r) =>
      if sign ts 0=eo then
       if sign r 0=eM then
        match rs e f (.block (deep+1)) r.tail with
        | .error x=>.error x
        | .ok (b2,r)=>.ok (one 9 at_ [] [c,b,b2],r)
       else .ok (one 9 at_ [] [c,b],r)
      else .ok (one 10 at_ [] [c,b],r)
   else if sign ts 0=dy then
    match expr e (deep+1) ts.tail with
    | .error x=>.error x
    | .ok (a,ts)=>match aP e [59] ts with
     | .error x=>.error x
     | .ok ts=>.ok (one 11 at_ [] [a],ts)
   else simple e deep ts
where
 body (e:Int):Nat->Nat->List T->List Tok->Rd (List T)
  | 0,_,_,_=>.error bb
  | f+1,deep,acc,ts =>
   if sign ts 0=[125] then .ok (acc,ts.tail)
   else match rs e f (.stmt deep) ts with
    | .error x=>.error x
    | .ok (a,ts)=>body e f deep (acc++[a]) ts
def block (e:Int) (deep:Nat) (ts:List Tok):Rd T:=rs e (nr ts) (.block deep) ts
structure Ar where
 name:ah
 size:Int
structure aI where
 name:ah
 params:List ah
 tree:T
end Go.Xp
namespace Go.Sp
open Go.Xp
structure RS where
 l:List Tok
 i:Nat
 e:Int
 code:Int
 at_:Int
def RS.ok (p:RS):Prop:=p.i<=p.l.length/\p.l.length<=1099511627776
def RS.place (p:RS):Int:=match p.l[p.i]? with | some t=>t.at_ | none=>p.e
def RS.fail (p:RS) (c a:Int):RS:=if p.code=0 then ⟨p.l,p.i,p.e,c,a⟩ else p
def RS.sign (p:RS) (k:Nat):ah:=if p.code=0 then (match p.l[p.i+k]? with | some t=>br t | none=>[]) else []
def RS.next (p:RS):RS:=⟨p.l,p.i+1,p.e,p.code,p.at_⟩
def RS.aP (p:RS) (s:ah):RS:=if p.sign 0=s then p.next else p.fail 7 p.place
def RS.name (p:RS):ah × RS :=
 if p.code=0 then match p.l[p.i]? with
  | some t=>if t.kind=2 then (if t.s.length > 12 then ([],p.fail 8 t.at_) else (t.s,p.next)) else ([],p.fail 7 p.place)
  | none=>([],p.fail 7 p.place)
 else ([],p)
def RS.deep (p:RS) (d:Nat):RS:=if d > 60 then p.fail 9 p.place else p
def T.zero:T:=.mk ⟨0,0,0,[],[]⟩ []
inductive J where
 | expr (d:Nat)
 | level (k d:Nat)
 | loop (k d:Nat) (out:T)
 | operand (d:Nat)
 | named (at_:Int) (s:ah) (d:Nat)
mutual
def mE:Nat->J->RS->Option (T × RS)
 | 0,_,_=>none
 | f+1,.expr d,p=>mE f (.level 0 d) (p.deep d)
 | f+1,.level k d,p =>
  if k=9 then mE f (.operand (d+1)) p
  else match mE f (.level (k+1) d) p with
   | none=>none
   | some (out,p)=>mE f (.loop k d out) p
 | f+1,.loop k d out,p =>
  if p.code=0/\(levels.getD k []).contains (p.sign 0)=true then
   match p.l[p.i]? with
   | none=>none
   | some t=>match mE f (.level (k+1) d) p.next with
    | none=>none
    | some (b,p)=>mE f (.loop k d (one 6 t.at_ t.s [out,b])) p
  else some (out,p)
 | f+1,.operand d,p =>
  let p:=p.deep d
  if p.code=0 then match p.l[p.i]? with
   | none=>some (T.zero,p.fail 7 p.place)
   | some t =>
    if t.kind=1 then some (.mk ⟨1,t.at_,t.n,[],[]⟩ [],p.next)
    else if t.kind=2 then mE f (.named t.at_ p.name.1 d) p.name.2
    else if t.s=[45]\/t.s=[33]\/t.s=[126] then match mE f (.operand (d+1)) p.next with
     | none=>none
     | some (a,p)=>some (one 5 t.at_ t.s [a],p)
    else if t.s=[40] then match mE f (.expr (d+1)) p.next with
     | none=>none
     | some (a,p)=>some (a,p.aP [41])
    else some (T.zero,p.fail 7 t.at_)
  else some (T.zero,p.fail 7 p.place)
 | f+1,.named at_ s d,p =>
  if p.sign 0=[91] then match mE f (.expr (d+1)) p.next with
   | none=>none
   | some (a,p)=>some (one 3 at_ s [a],p.aP [93])
  else if p.sign 0=[40] then match mL f (d+1) p.next with
   | none=>none
   | some (l,p)=>some (one 4 at_ s l,p)
  else some (one 2 at_ s [],p)
def mL:Nat->Nat->RS->Option (List T × RS)
 | 0,_,_=>none
 | f+1,d,p=>if p.sign 0=[41] then some ([],p.aP [41]) else match mE f (.expr d) p with
  | none=>none
  | some (a,p)=>uM f d [a] p
def uM:Nat->Nat->List T->RS->Option (List T × RS)
 | 0,_,_,_=>none
 | f+1,d,acc,p=>if p.sign 0=[44] then match mE f (.expr d) p.next with
   | none=>none
   | some (a,p)=>uM f d (acc++[a]) p
  else some (acc,p.aP [41])
end
def RS.oB (p:RS):Bool:=match p.l[p.i]? with | some t=>decide (t.kind=2) | none=>false
def RS.ck (p:RS):Int:=if p.sign 0=eo then 9 else 10
inductive JS where
 | block (d:Nat)
 | stmt (d:Nat)
 | cond (at_:Int) (d:Nat)
def fe (p:RS):Nat:=100 * p.l.length+2000
def mX (d:Nat) (p:RS):Option (T × RS):=mE (fe p) (.expr d) p
mutual
def mS:Nat->JS->RS->Option (T × RS)
 | 0,_,_=>none
 | f+1,.block d,p =>
  let p:=p.deep d
  match mB f (d+1) [] (p.aP [123]) with
  | none=>none
  | some (l,q)=>some (one 14 p.place [] l,q.aP [125])
 | f+1,.stmt d,p =>
  let p:=p.deep d
  let at_:=p.place
  let s:=p.sign 0
  if s=iv then match mX (d+1) ((p.next.name.2).aP [61]) with
   | none=>none
   | some (e,q)=>some (one 13 at_ p.next.name.1 [e],q.aP [59])
  else if s=eo\/s=dL then mS f (.cond at_ d) p
  else if s=dy then match mX (d+1) p.next with
   | none=>none
   | some (e,q)=>some (one 11 at_ [] [e],q.aP [59])
  else if p.code=0/\p.oB=true/\p.sign 1=[61] then match mX (d+1) (p.name.2.aP [61]) with
   | none=>none
   | some (e,q)=>some (one 7 at_ p.name.1 [e],q.aP [59])
  else match mX (d+1) p with
   | none=>none
   | some (e,q) =>
    if e.n.kind=3/\e.n.at_=at_/\q.sign 0=[61] then match e.kids,mX (d+1) q.next with
     | a::_,some (v,q)=>some (one 8 at_ e.n.s [a,v],q.aP [59])
     | _,_=>none
    else some (one 12 at_ [] [e],q.aP [59])
 | f+1,.cond at_ d,p =>
  match mX (d+1) (p.next.aP [40]) with
  | none=>none
  | some (e,q)=>match mS f (.block (d+1)) (q.aP [41]) with
   | none=>none
   | some (b,q) =>
    if p.ck=9/\q.sign 0=eM then match mS f (.block (d+1)) q.next with
     | none=>none
     | some (b2,q)=>some (one p.ck at_ [] [e,b,b2],q)
    else some (one p.ck at_ [] [e,b],q)
def mB:Nat->Nat->List T->RS->Option (List T × RS)
 | 0,_,_,_=>none
 | f+1,d,acc,p=>if p.code=0/\¬ p.sign 0=[125] then match mS f (.stmt d) p with
   | none=>none
   | some (a,p)=>mB f d (acc++[a]) p
  else some (acc,p)
end
theorem gw {p:RS} {k:Nat} {s:ah} (h:p.sign k=s) (hs:s≠[]):p.i+k < p.l.length/\p.code=0:=by
 unfold RS.sign at h;split at h
 ·rename_i hc;refine ⟨Nat.lt_of_not_le fun hn=>?_,hc⟩;rw [List.getElem?_eq_none_iff.2 hn] at h;exact hs h.symm
 ·exact absurd h.symm hs
def RS.to (p q:RS):Prop:=q.l=p.l/\q.e=p.e/\q.i<=q.l.length/\p.i<=q.i
theorem RS.to.ok {p q:RS} (h:p.to q) (hp:p.ok):q.ok:=⟨h.2.2.1,by rw [h.1];exact hp.2⟩
theorem RS.to.trans {p q r:RS} (h:p.to q) (k:q.to r):p.to r:=⟨k.1.trans h.1,k.2.1.trans h.2.1,k.2.2.1,km h.2.2.2 k.2.2.2⟩
theorem ky {p:RS} (hp:p.ok):p.to p:=⟨rfl,rfl,hp.1,aH _⟩
theorem mz {p:RS} (hp:p.ok) (c a:Int):p.to (p.fail c a):=by
 unfold RS.fail;split
 ·exact ⟨rfl,rfl,hp.1,aH _⟩
 ·exact ky hp
theorem dO {p:RS} (h:p.i < p.l.length):p.to p.next:=⟨rfl,rfl,h,Nat.le_succ _⟩
theorem fR {p:RS} (hp:p.ok) {s:ah} (hs:s≠[]):p.to (p.aP s):=by
 unfold RS.aP;split
 ·rename_i h;exact dO (by have:=(gw h hs).1;omega)
 ·exact mz hp _ _
theorem rZ {p:RS} (hp:p.ok):p.to p.name.2:=by
 unfold RS.name;split
 ·cases ht:p.l[p.i]? with
  | none=>exact mz hp _ _
  | some t =>
   simp only;have ar:=(bh ht).1;split
   ·split
    ·exact mz hp _ _
    ·exact dO ar
   ·exact mz hp _ _
 ·exact ky hp
theorem oY {p:RS} (hp:p.ok) (d:Nat):p.to (p.deep d):=by
 unfold RS.deep;split
 ·exact mz hp _ _
 ·exact ky hp
theorem jP {p:RS} {s:ah} (h:p.sign 0=s) (hs:s≠[]):p.to p.next:=dO (by have:=(gw h hs).1;omega)
theorem vt:∀ (f:Nat),(∀ j p t q,p.ok->mE f j p=some (t,q)->p.to q)/\(∀ d p l q,p.ok->mL f d p=some (l,q)->p.to q)/\(∀ d acc p l q,p.ok->uM f d acc p=some (l,q)->p.to q)
 | 0=>⟨fun j p t q _ h=>by simp [mE] at h,fun d p l q _ h=>by simp [mL] at h,fun d acc p l q _ h=>by simp [uM] at h⟩
 | f+1=>by
  obtain ⟨I,F,h3⟩:=vt f;refine ⟨fun j p t q hp h=>?_,fun d p l q hp h=>?_,fun d acc p l q hp h=>?_⟩
  ·cases j with
   | expr d=>rw [mE] at h;exact (oY hp d).trans (I _ _ _ _ ((oY hp d).ok hp) h)
   | level k d =>
    rw [mE] at h;split at h
    ·exact I _ _ _ _ hp h
    ·split at h
     ·cases h
     ·rename_i out p' he;have:=I _ _ _ _ hp he;exact this.trans (I _ _ _ _ (this.ok hp) h)
   | loop k d out =>
    rw [mE] at h;split at h
    ·split at h
     ·cases h
     ·rename_i t' ht;have hn:=dO (p:=p) (bh ht).1;split at h
      ·cases h
      ·rename_i b p' he;have:=hn.trans (I _ _ _ _ (hn.ok hp) he);exact this.trans (I _ _ _ _ (this.ok hp) h)
    ·cases h;exact ky hp
   | operand d =>
    rw [mE] at h;have hd:=oY hp d;have lD:=hd.ok hp;refine hd.trans ?_;generalize p.deep d=p at *
    try simp only at h
    split at h
    ·split at h
     ·cases h;exact mz lD _ _
     ·rename_i t' ht;have hn:=dO (p:=p) (bh ht).1;split at h
      ·cases h;exact hn
      ·split at h
       ·exact (rZ lD).trans (I _ _ _ _ ((rZ lD).ok lD) h)
       ·split at h
        ·split at h
         ·cases h
         ·rename_i a p' he
          cases h;exact hn.trans (I _ _ _ _ (hn.ok lD) he)
        ·split at h
         ·split at h
          ·cases h
          ·rename_i a p' he;have:=hn.trans (I _ _ _ _ (hn.ok lD) he)
           cases h;exact this.trans (fR (this.ok lD) aw)
         ·cases h;exact mz lD _ _
    ·cases h;exact mz lD _ _
   | named a s d =>
    rw [mE] at h;split at h
    ·rename_i hs;have hn:=jP hs aw;split at h
     ·cases h
     ·rename_i a' p' he;have:=hn.trans (I _ _ _ _ (hn.ok hp) he)
      cases h;exact this.trans (fR (this.ok hp) aw)
    ·split at h
     ·rename_i hs;have hn:=jP hs aw;split at h
      ·cases h
      ·rename_i a' p' he
       cases h;exact hn.trans (F _ _ _ _ (hn.ok hp) he)
     ·cases h;exact ky hp
  ·rw [mL] at h;split at h
   ·cases h;exact fR hp aw
   ·split at h
    ·cases h
    ·rename_i a p' he;have:=I _ _ _ _ hp he;exact this.trans (h3 _ _ _ _ _ (this.ok hp) h)
  ·rw [uM] at h;split at h
   ·rename_i hs;have hn:=jP hs aw;split at h
    ·cases h
    ·rename_i a p' he;have:=hn.trans (I _ _ _ _ (hn.ok hp) he);exact this.trans (h3 _ _ _ _ _ (this.ok hp) h)
   ·cases h;exact fR hp aw
def small (c:UInt8):Bool:=decide ((97:Int)<=(c.toNat:Int))&&decide ((c.toNat:Int)<=122)
def eD (c:UInt8):Bool:=decide ((48:Int)<=(c.toNat:Int))&&decide ((c.toNat:Int)<=57)
def et (c:UInt8):Bool:=small c || (decide ((65:Int)<=(c.toNat:Int))&&decide ((c.toNat:Int)<=90)) || eD c || ((c.toNat:Int)==95)
def dU (c:UInt8):Bool:=((c.toNat:Int)==32) || ((c.toNat:Int)==9) || ((c.toNat:Int)==10) || ((c.toNat:Int)==13)
def bF (s:ah) (at_:Nat) (t:ah):Bool:=decide (at_+t.length<=s.length)&&((s.take (at_+t.length)).drop at_==t)
def fF (s:ah):Nat->Nat->Nat
 | 0,e=>e
 | f+1,e=>if e < s.length/\bF s e [42,47]=false then fF s f (e+1) else e
def skip (s:ah):Nat->Nat->Nat × Int
 | 0,at_=>(at_,-1)
 | f+1,at_=>match s[at_]? with
  | none=>(at_,-1)
  | some c =>
   if dU c=true then skip s f (at_+1)
   else if bF s at_ [47,42]=true then
    let e:=fF s s.length (at_+2)
    if s.length<=e then (at_,(at_:Int)) else skip s f (e+2)
   else (at_,-1)
theorem kc {s t:ah} {a:Nat} (h:bF s a t=true):a+t.length<=s.length:=by
 simp only [bF,aE,decide_eq_true_eq] at h;exact h.1
theorem tw (s:ah):∀ (f e:Nat),e<=s.length->e<=fF s f e/\fF s f e<=s.length
 | 0,e,h=>⟨aH _,h⟩
 | f+1,e,h=>by
  rw [fF];split
  ·rename_i hc;have:=tw s f (e+1) hc.1;omega
  ·exact ⟨aH _,h⟩
theorem si (s:ah):∀ (f e:Nat),e<=s.length->s.length<=f+e->¬ (fF s f e < s.length/\bF s (fF s f e) [42,47]=false)
 | 0,e,h,hf=>by rw [fF];omega
 | f+1,e,h,hf=>by
  rw [fF];split
  ·rename_i hc;exact si s f (e+1) hc.1 aq
  ·assumption
def number (s:ah):Nat->Int->Nat->Int × Nat
 | 0,n,a=>(n,a)
 | f+1,n,a=>match s[a]? with
  | none=>(n,a)
  | some c=>if eD c=true then number s f (if n<=2147483647 then n * 10+((c.toNat:Int) - 48) else n) (a+1) else (n,a)
def run (s:ah) (p:UInt8->Bool):Nat->Nat->Nat
 | 0,a=>a
 | f+1,a=>match s[a]? with
  | none=>a
  | some c=>if p c=true then run s p f (a+1) else a
def words:List ah:=[[105,110,116],[118,97,114],[102,117,110,99],[105,102],[101,108,115,101],[119,104,105,108,101],[114,101,116,117,114,110]]
def bQ:List ah:=[[124,124],[38,38],[61,61],[33,61],[60,61],[62,61],[60,60],[62,62],[40],[41],[123],[125],[91],[93],[44],[59],[61],[60],[62],[43],[45],[42],[47],[37],[38],[124],[94],[33],[126]]
def fc (s:ah) (a:Nat):Nat:=run s et (s.length+1) a
def fO (s:ah) (a:Nat):ah:=(s.take (fc s a)).drop a
def jC (s:ah) (a:Nat) (c:UInt8):Tok × Nat :=
 if eD c=true then (⟨1,(number s (s.length+1) 0 a).1,[],a⟩,(number s (s.length+1) 0 a).2)
 else if small c=true then (⟨if words.contains (fO s a)=true then 3 else 2,0,fO s a,a⟩,fc s a)
 else match bQ.find? (bF s a) with
  | some x=>(⟨3,0,x,a⟩,a+x.length)
  | none=>(⟨0,0,[],0⟩,a)
def rn (s:ah):Nat->Nat->List Tok->Option (List Tok)
 | 0,_,_=>none
 | f+1,a,acc=>match s[a]? with
  | none=>some acc
  | some c=>rn s f (skip s (s.length+1) (jC s a c).2).1 (acc++[(jC s a c).1])
def jr (s:ah):Option (List Tok):=rn s (s.length+2) (skip s (s.length+1) 0).1 []
def word (s:ah):Bool:=s.all et&&(match s with | []=>false | c::_=>small c)
def bx (s:ah):Bool:=word s&&decide (s.length<=12)&&!(words.contains s)
theorem xE (s:ah):∀ (f:Nat) (n:Int) (a:Nat),a<=s.length->s.length < f+a->(∀ c,s[(number s f n a).2]?=some c->eD c=false)/\a<=(number s f n a).2/\(number s f n a).2<=s.length
 | 0,n,a,I,F=>by omega
 | f+1,n,a,I,F=>by
  rw [number]
  cases hc:s[a]? with
  | none=>exact ⟨fun c h=>(by rw [hc] at h;cases h),aH _,I⟩
  | some c =>
   simp only;have ar:=(bh hc).1
   by_cases hd:eD c=true
   ·rw [ae hd];obtain ⟨h3,h4,h5⟩:=xE s f (if n<=2147483647 then n * 10+((c.toNat:Int) - 48) else n) (a+1) aq aq;exact ⟨h3,by omega,h5⟩
   ·rw [ab hd];exact ⟨fun c' h=>(by rw [hc] at h;cases h;simpa using hd),aH _,I⟩
theorem qD (s:ah) (p:UInt8->Bool):∀ (f:Nat) (a:Nat),a<=s.length->s.length < f+a->(∀ c,s[run s p f a]?=some c->p c=false)/\a<=run s p f a/\run s p f a<=s.length
 | 0,a,I,F=>by omega
 | f+1,a,I,F=>by
  rw [run]
  cases hc:s[a]? with
  | none=>exact ⟨fun c h=>(by rw [hc] at h;cases h),aH _,I⟩
  | some c =>
   simp only;have ar:=(bh hc).1
   by_cases hd:p c=true
   ·rw [ae hd];obtain ⟨h3,h4,h5⟩:=qD s p f (a+1) aq aq;exact ⟨h3,by omega,h5⟩
   ·rw [ab hd];exact ⟨fun c' h=>(by rw [hc] at h;cases h;simpa using hd),aH _,I⟩
theorem zX (s:ah):∀ (f a:Nat),a<=s.length->a<=(skip s f a).1/\(skip s f a).1<=s.length
 | 0,a,h=>⟨aH _,h⟩
 | f+1,a,h=>by
  rw [skip]
  cases hc:s[a]? with
  | none=>exact ⟨aH _,h⟩
  | some c =>
   simp only;have ar:=(bh hc).1;split
   ·have:=zX s f (a+1) ar;omega
   ·split
    ·rename_i hb;have hb:=kc hb;have hb:a+2<=s.length:=hb;have I:=tw s s.length (a+2) hb;have F:=si s s.length (a+2) hb aq;split
     ·exact ⟨aH _,h⟩
     ·rename_i hn
      have h3:bF s (fF s s.length (a+2)) [42,47]=true:=by
       cases qx:bF s (fF s s.length (a+2)) [42,47] with
       | true=>rfl
       | false=>exact absurd ⟨by omega,qx⟩ F
      have h3:=kc h3;have h3:fF s s.length (a+2)+2<=s.length:=h3;have:=zX s f (fF s s.length (a+2)+2) h3;omega
    ·exact ⟨aH _,h⟩
theorem pX {d:Nat} {p q:RS} {t:T} (hp:p.ok) (h:mX d p=some (t,q)):p.to q:=(vt _).1 _ _ _ _ hp h
theorem L4:∀ (f:Nat),(∀ j p t q,p.ok->(∀ a d,j=.cond a d->p.i < p.l.length)->mS f j p=some (t,q)->p.to q)/\(∀ d acc p l q,p.ok->mB f d acc p=some (l,q)->p.to q)
 | 0=>⟨fun j p t q _ _ h=>by simp [mS] at h,fun d acc p l q _ h=>by simp [mB] at h⟩
 | f+1=>by
  obtain ⟨I,F⟩:=L4 f
  have eA:∀ d (p:RS) t q,p.ok->mS f (.block d) p=some (t,q)->p.to q:=fun d p t q hp h=>I _ _ _ _ hp (fun a d' h=>by cases h) h
  refine ⟨fun j p t q hp nW h=>?_,fun d acc p l q hp h=>?_⟩
  ·cases j with
   | block d =>
    rw [mS] at h;have hd:=oY hp d;refine hd.trans ?_;have lD:=hd.ok hp;generalize p.deep d=p at *
    try simp only at h
    have hm:=fR lD (s:=[123]) aw;split at h
    ·cases h
    ·rename_i l p' he;have:=hm.trans (F _ _ _ _ _ (hm.ok lD) he)
     cases h;exact this.trans (fR (this.ok lD) aw)
   | stmt d =>
    rw [mS] at h;have hd:=oY hp d;refine hd.trans ?_;have lD:=hd.ok hp;generalize p.deep d=p at *
    try simp only at h
    split at h
    ·rename_i hs;have hn:=jP hs aw;have fy:=hn.trans (rZ (hn.ok lD));have kF:=fy.trans (fR (fy.ok lD) (s:=[61]) aw);split at h
     ·cases h
     ·rename_i e p' he;have:=kF.trans (pX (kF.ok lD) he)
      cases h;exact this.trans (fR (this.ok lD) aw)
    ·split at h
     ·rename_i hs;refine I _ _ _ _ lD (fun a d' _=>?_) h
      rcases hs with hs | hs
      ·exact (gw hs aw).1
      ·exact (gw hs aw).1
     ·split at h
      ·rename_i hs;have hn:=jP hs aw;split at h
       ·cases h
       ·rename_i e p' he;have:=hn.trans (pX (hn.ok lD) he)
        cases h;exact this.trans (fR (this.ok lD) aw)
      ·split at h
       ·have fy:=rZ lD;have kF:=fy.trans (fR (fy.ok lD) (s:=[61]) aw);split at h
        ·cases h
        ·rename_i e p' he;have:=kF.trans (pX (kF.ok lD) he)
         cases h;exact this.trans (fR (this.ok lD) aw)
       ·split at h
        ·cases h
        ·rename_i e p' he;have hx:=pX lD he;split at h
         ·rename_i hs;have hn:=hx.trans (jP hs.2.2 aw);split at h
          ·rename_i a r v p2 hk qz;have:=hn.trans (pX (hn.ok lD) qz)
           cases h;exact this.trans (fR (this.ok lD) aw)
          ·cases h
         ·cases h;exact hx.trans (fR (hx.ok lD) aw)
   | cond a d =>
    rw [mS] at h;have hn:=dO (nW a d rfl);have hm:=hn.trans (fR (hn.ok hp) (s:=[40]) aw)
    try simp only at h
    split at h
    ·cases h
    ·rename_i e p' he;have hx:=hm.trans (pX (hm.ok hp) he);have He:=hx.trans (fR (hx.ok hp) (s:=[41]) aw);split at h
     ·cases h
     ·rename_i b p2 hb;have fv:=He.trans (eA _ _ _ _ (He.ok hp) hb);split at h
      ·rename_i hs;have bW:=fv.trans (jP hs.2 aw);split at h
       ·cases h
       ·rename_i b2 p3 yE
        cases h;exact bW.trans (eA _ _ _ _ (bW.ok hp) yE)
      ·cases h;exact fv
  ·rw [mB] at h;split at h
   ·split at h
    ·cases h
    ·rename_i a p' he;have:=I _ _ _ _ hp (fun a d' h=>by cases h) he;exact this.trans (F _ _ _ _ _ (this.ok hp) h)
   ·cases h;exact ky hp
structure Fn where
 name:ah
 params:List ah
 body:Int
structure Src where
 globals:List ah
 arrays:List Ar
 fns:List Fn
 nodes:List Nd
def nz (k:Int):Bool:=decide ((1:Int)<=k)&&decide (k<=6)
def im (k:Int):Bool:=decide ((7:Int)<=k)&&decide (k<=13)
def bt (from_:Nat):Nat->List T->Bool
 | _,[]=>true
 | i,t::r=>(if i < from_ then nz t.n.kind else t.n.kind==14)&&bt from_ (i+1) r
def fa (s:ah):Bool:=levels.any fun l=>l.contains s
mutual
def sub (nodes:List Nd):Nat->Nat->Option T
 | 0,_=>none
 | f+1,a=>match nodes[a]? with
  | none=>none
  | some n=>match px nodes f n.kids [] with
   | none=>none
   | some l=>some (.mk n l)
def px (nodes:List Nd):Nat->List Int->List T->Option (List T)
 | _,[],acc=>some acc
 | 0,_::_,_=>none
 | f+1,k::r,acc=>if k < 0 then none else match sub nodes f k.toNat with
  | none=>none
  | some t=>px nodes f r (acc++[t])
end
mutual
def pj (nodes:List Nd):Nat->Nat->Nat->Option Int
 | 0,_,_=>none
 | f+1,a,d=>if nodes.length<=a\/d > 800 then some (-1) else match nodes[a]? with
  | none=>none
  | some n=>oa nodes f n.kids (a+1) d
def oa (nodes:List Nd):Nat->List Int->Int->Nat->Option Int
 | _,[],next,_=>some next
 | 0,_::_,_,_=>none
 | f+1,k::r,next,d=>if k=next then match pj nodes f k.toNat (d+1) with
   | none=>none
   | some e=>if e < 0 then some (-1) else oa nodes f r e d
  else some (-1)
end
def own (n:Nd) (k:Nat) (kd:Nat->Bool) (bl:Bool):Bool :=
 if decide (n.at_ < 0) then false else if n.kind != 1&&n.n != 0 then false
 else if n.kind==1 then decide ((0:Int)<=n.n)&&(decide (n.n<=2147483647)&&(n.s==[]&&(k:Int)==0))
 else if n.kind==2 then bx n.s&&(k:Int)==0
 else if n.kind==3 || n.kind==7 || n.kind==13 then bx n.s&&((k:Int)==1&&kd 1)
 else if n.kind==4 then bx n.s&&kd k
 else if n.kind==5 then (n.s==[45] || n.s==[33] || n.s==[126])&&((k:Int)==1&&kd 1)
 else if n.kind==6 then fa n.s&&((k:Int)==2&&kd 2)
 else if n.kind==8 then bx n.s&&((k:Int)==2&&kd 2)
 else if n.kind==9 then n.s==[]&&(((k:Int)==2 || (k:Int)==3)&&kd 1)
 else if n.kind==10 then n.s==[]&&((k:Int)==2&&kd 1)
 else if n.kind==11 || n.kind==12 then n.s==[]&&((k:Int)==1&&kd 1)
 else if n.kind==14 then bl&&n.s==[]
 else false
def bU (t:T):Bool:=own t.n t.kids.length (fun m=>bt m 0 t.kids) (t.kids.all fun x=>im x.n.kind)
mutual
def du:T->Bool
 | .mk n l=>b8 l&&bU (.mk n l)
def b8:List T->Bool
 | []=>true
 | t::r=>du t&&b8 r
end
mutual
def H7:T->Prop
 | .mk n l=>n.s.length<=1099511627776/\l.length<=1099511627776/\xM l
def xM:List T->Prop
 | []=>True
 | t::r=>H7 t/\xM r
end
theorem H9:∀ {l:List T} {t:T},xM l->t∈l->H7 t
 | [],_,_,h=>by cases h
 | a::r,t,h,hm=>by
  rw [xM] at h
  rcases List.mem_cons.mp hm with rfl | hm
  ·exact h.1
  ·exact H9 h.2 hm
theorem H8:∀ {l:List T} {t:T},xM l->H7 t->xM (l++[t])
 | [],t,_,ht=>⟨ht,trivial⟩
 | a::r,t,h,ht=>by
  rw [xM] at h;exact ⟨h.1,H8 h.2 ht⟩
theorem Xc {nodes:List Nd} (hk:∀ n∈nodes,n.s.length<=1099511627776/\n.kids.length<=1099511627776):∀ f:Nat,(∀ a t,sub nodes f a=some t->H7 t)/\(∀ ks acc l,px nodes f ks acc=some l->acc.length+ks.length=l.length/\(xM acc->xM l)):=by
 intro f
 induction f with
 | zero =>
  refine ⟨fun a t h=>by simp [sub] at h,fun ks acc l h=>?_⟩
  cases ks with
  | nil=>rw [px] at h;cases h;exact ⟨by simp,id⟩
  | cons k r=>simp [px] at h
 | succ f ih =>
  constructor
  ·intro a t h;rw [sub] at h
   cases hn:nodes[a]? with
   | none=>rw [hn] at h;cases h
   | some n =>
   rw [hn] at h;simp only at h
   cases hs:px nodes f n.kids [] with
   | none=>rw [hs] at h;cases h
   | some l =>
   rw [hs] at h;cases h;have hi:=ih.2 _ _ _ hs;have hb:=hk n (bm hn);exact ⟨hb.1,by have:=hi.1;simp at this;omega,hi.2 trivial⟩
  ·intro ks acc l h
   cases ks with
   | nil=>rw [px] at h;cases h;exact ⟨by simp,id⟩
   | cons k r =>
    rw [px] at h
    by_cases AD:k < 0
    ·rw [ae AD] at h;cases h
    rw [ab AD] at h
    cases hs:sub nodes f k.toNat with
    | none=>rw [hs] at h;cases h
    | some t =>
    rw [hs] at h;simp only at h;have F:=ih.2 _ _ _ h;refine ⟨by have:=F.1;simp at this |-;omega,fun ha=>F.2 (H8 ha (ih.1 _ _ hs))⟩
def cH:List ah->Bool:=fun l=>l.all bx
def ph (a:Ar):Bool:=bx a.name&&!(decide (a.size < 0))&&!(decide (2147483647 < a.size))
def fN (nodes:List Nd):Nat:=2 * nodes.length+4
def gY (nodes:List Nd):List Fn->Int->Option (Option Int)
 | [],next=>some (some next)
 | f::r,next=>match pj nodes (fN nodes) next.toNat 0 with
  | none=>none
  | some e=>if f.body≠next\/bx f.name=false\/e < 0 then some none else if cH f.params=false then some none else match sub nodes (fN nodes) next.toNat with
   | none=>none
   | some t=>if t.n.kind≠14\/du t=false then some none else gY nodes r e
def oX (p:Src):Option Bool :=
 if cH p.globals=false then some false else if p.arrays.all ph=false then some false else match gY p.nodes p.fns 0 with
  | none=>none
  | some none=>some false
  | some (some next)=>some (next==(p.nodes.length:Int)&&decide (next<=800))
end Go.Sp
namespace Go.Xp
theorem DX {e:Int} {s:ah} {ts r:List Tok} (h:aP e s ts=.ok r):r=ts.tail/\sign ts 0=s:=by
 unfold aP at h;split at h
 ·cases h;exact ⟨rfl,by assumption⟩
 ·cases h
theorem xy {e:Int} {s:ah} {ts r:List Tok} (h:aP e s ts=.ok r):r.length<=ts.length:=by
 rw [(DX h).1,List.length_tail];omega
theorem zR {e:Int} {s:ah} {ts r:List Tok} (hs:s≠[]) (h:aP e s ts=.ok r):r.length < ts.length:=by
 obtain ⟨I,F⟩:=DX h;rw [I,List.length_tail]
 cases ts with
 | nil=>exact absurd F.symm hs
 | cons=>simp
theorem gw {s:ah} {ts:List Tok} (hs:s≠[]) (h:sign ts 0=s):ts.tail.length < ts.length:=by
 cases ts with
 | nil=>exact absurd h.symm hs
 | cons=>simp
theorem qB {e:Int} {s:ah} {ts:List Tok} {x:Er} (h:aP e s ts=.error x):x≠bb:=by
 unfold aP at h;split at h
 ·cases h
 ·cases h;intro h0;cases h0
theorem HI {e:Int} {s:ah} {ts r:List Tok} (h:name e ts=.ok (s,r)):r.length < ts.length:=by
 unfold name at h;split at h
 ·cases h
 ·split at h
  ·split at h
   ·cases h
   ·cases h;simp
  ·cases h
theorem Ko {e:Int} {ts:List Tok} {x:Er} (h:name e ts=.error x):x≠bb:=by
 unfold name at h;split at h
 ·cases h;intro h0;cases h0
 ·split at h
  ·split at h <;> cases h;intro h0;cases h0
  ·cases h;intro h0;cases h0
def pn:pA->Nat->Nat
 | .operand _,n=>20 * n+1
 | .loop _ _ _,n=>20 * n+1
 | .level k _,n=>20 * n+2+(9 - k)
 | .expr _,n=>20 * n+12
def xB (acc:List T) (n:Nat):Nat:=match acc with | []=>20 * n+14 | _=>20 * n+1
def LN:pA->Prop
 | .level k _=>k<=9
 | .loop k _ _=>k < 9
 | _=>True
def good (e:Int) (f:Nat) (j:pA) (ts:List Tok):Prop :=
 LN j->(∀ t r,rd e f j ts=.ok (t,r)->r.length<=ts.length)/\(pn j ts.length<=f->rd e f j ts≠.error bb)
def Sj (e:Int) (f deep:Nat) (acc:List T) (ts:List Tok):Prop :=
 (∀ t r,rd.args e f deep acc ts=.ok (t,r)->r.length<=ts.length)/\(xB acc ts.length<=f->rd.args e f deep acc ts≠.error bb)
theorem er7 {a:Int}:((7,a):Er)≠bb:=by intro h;cases h
theorem er9 {a:Int}:((9,a):Er)≠bb:=by intro h;cases h
theorem D1 (e:Int):∀ f,(∀ j ts,good e f j ts)/\(∀ deep acc ts,Sj e f deep acc ts)
 | 0=>by
  refine ⟨fun j ts _=>⟨fun t r h=>?_,fun h=>?_⟩,fun deep acc ts=>⟨fun t r h=>?_,fun h=>?_⟩⟩
  ·rw [rd] at h;cases h
  ·cases j <;> simp only [pn] at h <;> omega
  ·rw [rd.args] at h;cases h
  ·unfold xB at h;split at h <;> omega
 | f+1=>by
  obtain ⟨ih,yU⟩:=D1 e f;constructor
  ·intro j ts hj
   cases j with
   | expr deep =>
    obtain ⟨I,F⟩:=ih (.level 0 (deep+1)) ts (aX _);rw [rd];split
    ·exact ⟨fun t r h=>(by cases h),fun _ h=>(by cases h)⟩
    ·exact ⟨I,fun h=>F (by simp only [pn] at h |-;omega)⟩
   | level k deep =>
    have hj:k<=9:=hj;rw [rd];split
    ·obtain ⟨I,F⟩:=ih (.operand deep) ts trivial;exact ⟨I,fun h=>F (by simp only [pn] at h |-;omega)⟩
    ·obtain ⟨I,F⟩:=ih (.level (k+1) deep) ts (by show k+1<=9;omega);split
     ·rename_i x hx;exact ⟨fun t r h=>(by cases h),fun h h0=>F (by simp only [pn] at h |-;omega) (hx.trans h0)⟩
     ·rename_i out jz hx;obtain ⟨h3,h4⟩:=ih (.loop k deep out) jz (by show k < 9;omega);have:=I _ _ hx;exact ⟨fun t r h=>km (h3 t r h) this,fun h=>h4 (by simp only [pn] at h |-;omega)⟩
   | loop k deep out =>
    have hj:k < 9:=hj
    cases ts with
    | nil=>rw [rd];exact ⟨fun t r h=>(by cases h;exact aH _),fun _ h=>(by cases h)⟩
    | cons t0 r0 =>
     rw [rd];split
     ·obtain ⟨I,F⟩:=ih (.level (k+1) deep) r0 (by show k+1<=9;omega);split
      ·rename_i x hx;exact ⟨fun t r h=>(by cases h),fun h h0=>F (by simp only [pn,length_cons] at h |-;omega) (hx.trans h0)⟩
      ·rename_i b r hx;obtain ⟨h3,h4⟩:=ih (.loop k deep (one 6 t0.at_ t0.s [out,b])) r hj;have:=I _ _ hx;exact ⟨fun t r h=>by have:=h3 t r h;simp only [length_cons];omega,fun h=>h4 (by simp only [pn,length_cons] at h |-;omega)⟩
     ·exact ⟨fun t r h=>(by cases h;exact aH _),fun _ h=>(by cases h)⟩
   | operand deep =>
    cases ts with
    | nil=>rw [rd];split <;> exact ⟨fun t r h=>(by cases h),fun _ h=>(by cases h)⟩
    | cons t0 r0 =>
    rw [rd];split
    ·exact ⟨fun t r h=>(by cases h),fun _ h=>(by cases h)⟩
    split
    ·split
     ·obtain ⟨I,F⟩:=ih (.operand (deep+1)) r0 trivial;split
      ·rename_i x hx;exact ⟨fun t r h=>(by cases h),fun h h0=>F (by simp only [pn,length_cons] at h |-;omega) (hx.trans h0)⟩
      ·rename_i a r hx;have:=I _ _ hx;exact ⟨fun t r h=>(by cases h;simp only [length_cons];omega),fun _ h=>(by cases h)⟩
     split
     ·obtain ⟨I,F⟩:=ih (.expr (deep+1)) r0 trivial;split
      ·rename_i x hx;exact ⟨fun t r h=>(by cases h),fun h h0=>F (by simp only [pn,length_cons] at h |-;omega) (hx.trans h0)⟩
      ·rename_i a r hx;have:=I _ _ hx;split
       ·rename_i x hm;exact ⟨fun t r h=>(by cases h),fun _ h=>qB hm (by cases h;rfl)⟩
       ·rename_i r' hm;have:=xy hm;exact ⟨fun t r h=>(by cases h;simp only [length_cons];omega),fun _ h=>(by cases h)⟩
     ·exact ⟨fun t r h=>(by cases h),fun _ h=>(by cases h)⟩
    split
    ·exact ⟨fun t r h=>(by cases h;simp),fun _ h=>(by cases h)⟩
    split
    ·rename_i x hm;exact ⟨fun t r h=>(by cases h),fun _ h=>Ko hm (by cases h;rfl)⟩
    ·rename_i s r hn;have hl:=HI hn;simp only [length_cons] at hl
     have ar:r.tail.length<=r.length:=by simp
     split
     ·obtain ⟨I,F⟩:=ih (.expr (deep+1)) r.tail trivial;split
      ·rename_i x hx;exact ⟨fun t r h=>(by cases h),fun h h0=>F (by simp only [pn,length_cons] at h |-;omega) (hx.trans h0)⟩
      ·rename_i a r' hx;have:=I _ _ hx;split
       ·rename_i x hm;exact ⟨fun t r h=>(by cases h),fun _ h=>qB hm (by cases h;rfl)⟩
       ·rename_i r'' hm;have:=xy hm;exact ⟨fun t r h=>(by cases h;simp only [length_cons];omega),fun _ h=>(by cases h)⟩
     split
     ·obtain ⟨I,F⟩:=yU (deep+1) [] r.tail;split
      ·rename_i x hx;exact ⟨fun t r h=>(by cases h),fun h h0=>F (by simp only [pn,xB,length_cons] at h |-;omega) (hx.trans (by cases h0;rfl))⟩
      ·rename_i a r' hx;have:=I _ _ hx;exact ⟨fun t r h=>(by cases h;simp only [length_cons];omega),fun _ h=>(by cases h)⟩
     ·exact ⟨fun t r h=>(by cases h;simp only [length_cons];omega),fun _ h=>(by cases h)⟩
  ·intro deep acc ts;unfold Sj;rw [rd.args];split
   ·exact ⟨fun t r h=>(by cases h;simp),fun _ h=>(by cases h)⟩
   ·by_cases lY:acc=[]
    ·subst lY;simp only [if_true];obtain ⟨I,F⟩:=ih (.expr deep) ts trivial;split
     ·rename_i x hx;exact ⟨fun t r h=>(by cases h),fun h h0=>F (by simp only [pn,xB] at h |-;omega) (hx.trans (by cases h0;rfl))⟩
     ·rename_i a r hx;have:=I _ _ hx;obtain ⟨h3,h4⟩:=yU deep ([]++[a]) r;exact ⟨fun t r h=>by have:=h3 t r h;omega,fun h=>h4 (by simp only [nil_append,xB] at h |-;omega)⟩
    ·rw [ab lY]
     have J3:∀ n,xB acc n=20 * n+1:=by cases acc with | nil=>exact absurd rfl lY | cons=>exact fun _=>rfl
     split
     ·rename_i x hm;exact ⟨fun t r h=>(by cases h),fun _ h=>qB hm (by cases h;rfl)⟩
     ·rename_i jz hm;have ar:=zR aw hm;obtain ⟨I,F⟩:=ih (.expr deep) jz trivial;split
      ·rename_i x hx;exact ⟨fun t r h=>(by cases h),fun h h0=>F (by simp only [pn,J3] at h |-;omega) (hx.trans (by cases h0;rfl))⟩
      ·rename_i a r hx;have:=I _ _ hx;obtain ⟨h3,h4⟩:=yU deep (acc++[a]) r
       have aaa:xB (acc++[a]) r.length=20 * r.length+1:=by
        cases acc with
        | nil=>exact absurd rfl lY
        | cons=>rfl
       exact ⟨fun t r h=>by have:=h3 t r h;omega,fun h=>h4 (by rw [aaa] ;simp only [J3] at h;omega)⟩
theorem WY {e:Int} {f:Nat} {j:pA} {ts:List Tok} {t:T} {r:List Tok} (hj:LN j) (h:rd e f j ts=.ok (t,r)):r.length<=ts.length:=((D1 e f).1 j ts hj).1 t r h
theorem zV {e:Int} {f:Nat} {j:pA} {ts:List Tok} (hj:LN j) (h:pn j ts.length<=f):rd e f j ts≠.error bb:=((D1 e f).1 j ts hj).2 h
theorem EN {e:Int} {deep:Nat} {ts:List Tok}:expr e deep ts≠.error bb:=zV (j:=.expr deep) trivial (by simp only [pn,nr];omega)
theorem A8 {e:Int} {deep:Nat} {ts:List Tok} {t:T} {r:List Tok} (h:expr e deep ts=.ok (t,r)):r.length<=ts.length:=WY (j:=.expr deep) trivial h
theorem BK {e:Int} {deep:Nat} {a b:ah} {ts r:List Tok} {t:T} (ha:a≠[]) (h:inner e deep a b ts=.ok (t,r)):r.length < ts.length:=by
 unfold inner at h;split at h
 ·cases h
 ·rename_i t1 I;split at h
  ·cases h
  ·rename_i a1 t2 F;split at h
   ·cases h
   ·rename_i t3 h3;cases h;have:=zR ha I;have:=A8 F;have:=xy h3;omega
theorem BJ {e:Int} {deep:Nat} {a b:ah} {ts:List Tok} {x:Er} (h:inner e deep a b ts=.error x):x≠bb:=by
 unfold inner at h;split at h
 ·rename_i I;cases h;exact qB I
 ·split at h
  ·rename_i x2 F;cases h;intro h0;exact EN (F.trans (by rw [h0]))
  ·split at h
   ·rename_i h3;cases h;exact qB h3
   ·cases h
theorem H5 {e:Int} {deep:Nat} {ts r:List Tok} {t:ah × T} (h:lR e deep ts=.ok (t,r)):r.length < ts.length:=by
 unfold lR at h;split at h
 ·cases h
 ·rename_i s t1 I;split at h
  ·cases h
  ·rename_i a t2 F;cases h;have:=HI I;have:=BK aw F;omega
theorem H4 {e:Int} {deep:Nat} {ts:List Tok} {x:Er} (h:lR e deep ts=.error x):x≠bb:=by
 unfold lR at h;split at h
 ·rename_i I;cases h;exact Ko I
 ·split at h
  ·rename_i F;cases h;exact BJ F
  ·cases h
theorem A7 {e:Int} {deep:Nat} {ts:List Tok} {x:Er} (h:expr e deep ts=.error x):x≠bb:=fun h0=>EN (h.trans (by rw [h0]))
theorem Pg {e:Int} {deep:Nat} {ts r:List Tok} {t:T} (h:simple e deep ts=.ok (t,r)):r.length < ts.length:=by
 unfold simple at h;split at h
 ·split at h <;> cases h
 ·rename_i t0 r0;split at h
  ·split at h
   ·cases h
   ·rename_i s a t1 I;cases h;exact H5 I
  ·split at h
   ·cases h
   ·rename_i a t1 I;have:=A8 I;split at h
    ·split at h
     ·cases h
     ·rename_i v t2 F;cases h;have:=BK aw F;omega
    ·split at h
     ·cases h
     ·rename_i t2 F;cases h;have:=zR aw F;omega
theorem Pf {e:Int} {deep:Nat} {ts:List Tok} {x:Er} (h:simple e deep ts=.error x):x≠bb:=by
 unfold simple at h;split at h
 ·split at h
  ·rename_i I;cases h;exact A7 I
  ·cases h;exact er7
 ·split at h
  ·split at h
   ·rename_i I;cases h;exact H4 I
   ·cases h
  ·split at h
   ·rename_i I;cases h;exact A7 I
   ·split at h
    ·split at h
     ·rename_i F;cases h;exact BJ F
     ·cases h
    ·split at h
     ·rename_i F;cases h;exact qB F
     ·cases h
def Sl (e:Int) (f:Nat) (j:rH) (ts:List Tok):Prop :=
 (∀ t r,rs e f j ts=.ok (t,r)->r.length < ts.length)/\(3 * ts.length+1<=f->rs e f j ts≠.error bb)
def Sk (e:Int) (f deep:Nat) (acc:List T) (ts:List Tok):Prop :=
 (∀ t r,rs.body e f deep acc ts=.ok (t,r)->r.length < ts.length)/\(3 * ts.length+2<=f->rs.body e f deep acc ts≠.error bb)
theorem D3 (e:Int):∀ f,(∀ j ts,Sl e f j ts)/\(∀ deep acc ts,Sk e f deep acc ts)
 | 0=>by
  refine ⟨fun j ts=>⟨fun t r h=>?_,fun h=>by omega⟩,fun deep acc ts=>⟨fun t r h=>?_,fun h=>by omega⟩⟩
  ·rw [rs] at h;cases h
  ·rw [rs.body] at h;cases h
 | f+1=>by
  obtain ⟨ih,yU⟩:=D3 e f;constructor
  ·intro j ts;unfold Sl
   cases j with
   | block deep =>
    rw [rs];split
    ·exact ⟨fun t r h=>(by cases h),fun _ h=>(by cases h)⟩
    ·split
     ·rename_i x hm;exact ⟨fun t r h=>(by cases h),fun _ h=>qB hm (by cases h;rfl)⟩
     ·rename_i r0 hm;have h0:=zR aw hm;obtain ⟨I,F⟩:=yU (deep+1) [] r0;split
      ·rename_i x hx;exact ⟨fun t r h=>(by cases h),fun h h0=>F aq (hx.trans (by cases h0;rfl))⟩
      ·rename_i l r hx;have:=I _ _ hx;exact ⟨fun t r h=>(by cases h;omega),fun _ h=>(by cases h)⟩
   | stmt deep =>
    rw [rs];split
    ·exact ⟨fun t r h=>(by cases h),fun _ h=>(by cases h)⟩
    ·simp only;split
     ·rename_i hv;have h0:=gw aw hv;split
      ·rename_i x hx;exact ⟨fun t r h=>(by cases h),fun _ h=>H4 hx (by cases h;rfl)⟩
      ·rename_i s a t1 hx;have:=H5 hx;exact ⟨fun t r h=>(by cases h;omega),fun _ h=>(by cases h)⟩
     split
     ·rename_i hv
      have h0:ts.tail.length < ts.length:=by
       rcases hv with hv | hv <;> exact gw aw hv
      split
      ·rename_i x hx;exact ⟨fun t r h=>(by cases h),fun _ h=>BJ hx (by cases h;rfl)⟩
      ·rename_i c r1 hx;have hc:=BK aw hx;obtain ⟨I,F⟩:=ih (.block (deep+1)) r1;split
       ·rename_i x J7;exact ⟨fun t r h=>(by cases h),fun h h0=>F aq (J7.trans h0)⟩
       ·rename_i b r2 J7;have hb:=I _ _ J7;split
        ·split
         ·obtain ⟨h3,h4⟩:=ih (.block (deep+1)) r2.tail
          have ht:r2.tail.length<=r2.length:=by simp
          split
          ·rename_i x Oj;exact ⟨fun t r h=>(by cases h),fun h h0=>h4 aq (Oj.trans h0)⟩
          ·rename_i b2 r3 Oj;have:=h3 _ _ Oj;exact ⟨fun t r h=>(by cases h;omega),fun _ h=>(by cases h)⟩
         ·exact ⟨fun t r h=>(by cases h;omega),fun _ h=>(by cases h)⟩
        ·exact ⟨fun t r h=>(by cases h;omega),fun _ h=>(by cases h)⟩
     split
     ·rename_i hv;have h0:=gw aw hv;split
      ·rename_i x hx;exact ⟨fun t r h=>(by cases h),fun _ h=>A7 hx (by cases h;rfl)⟩
      ·rename_i a r1 hx;have:=A8 hx;split
       ·rename_i x hm;exact ⟨fun t r h=>(by cases h),fun _ h=>qB hm (by cases h;rfl)⟩
       ·rename_i r2 hm;have:=xy hm;exact ⟨fun t r h=>(by cases h;omega),fun _ h=>(by cases h)⟩
     ·exact ⟨fun t r h=>Pg h,fun _ h=>Pf h rfl⟩
  ·intro deep acc ts;unfold Sk;rw [rs.body];split
   ·rename_i hv;have h0:=gw aw hv;exact ⟨fun t r h=>(by cases h;exact h0),fun _ h=>(by cases h)⟩
   ·obtain ⟨I,F⟩:=ih (.stmt deep) ts;split
    ·rename_i x hx;exact ⟨fun t r h=>(by cases h),fun h h0=>F aq (hx.trans (by cases h0;rfl))⟩
    ·rename_i a r hx;have:=I _ _ hx;obtain ⟨h3,h4⟩:=yU deep (acc++[a]) r;exact ⟨fun t r h=>by have:=h3 t r h;omega,fun h=>h4 aq⟩
theorem W0 {e:Int} {f:Nat} {j:rH} {ts:List Tok} {t:T} {r:List Tok} (h:rs e f j ts=.ok (t,r)):r.length < ts.length:=((D3 e f).1 j ts).1 t r h
theorem w7 {e:Int} {deep:Nat} {ts:List Tok}:block e deep ts≠.error bb:=((D3 e _).1 (.block deep) ts).2 (by simp only [nr];omega)
theorem YK {e:Int} {deep:Nat} {ts:List Tok} {t:T} {r:List Tok} (h:block e deep ts=.ok (t,r)):r.length < ts.length:=W0 h
end Go.Xp
namespace Go.Sp
open Go.Xp
structure On (p:RS) (ts:List Tok):Prop where
 code:p.code=0
 le:p.i<=p.l.length
 rest:p.l.drop p.i=ts
 kinds:∀ t∈p.l,t.kind=1\/t.kind=2\/t.kind=3
def bN (p q:RS):Except Er (List Tok)->Prop
 | .ok r=>On q r/\q.l=p.l/\q.e=p.e
 | .error x=>q.code=x.1/\x.1≠0/\q.at_=x.2/\q.l=p.l/\q.e=p.e
def jI {α:Type} (p q:RS) (t:α):Rd α->Prop
 | .ok (t',r)=>t=t'/\bN p q (.ok r)
 | .error x=>bN p q (.error x)
section
variable {p q q':RS} {ts r:List Tok} {x:Er}
theorem bN.err (h:bN p q (.error x)):q.code≠0:=by rw [h.1];exact h.2.1
theorem bN.tr {y:Except Er (List Tok)} (h:bN p q (.ok r)) (k:bN q q' y):bN p q' y:=by
 obtain ⟨_,I,F⟩:=h
 cases y with
 | ok r=>exact ⟨k.1,k.2.1.trans I,k.2.2.trans F⟩
 | error x=>exact ⟨k.1,k.2.1,k.2.2.1,k.2.2.2.1.trans I,k.2.2.2.2.trans F⟩
theorem jI.tr {α:Type} {t:α} {y:Rd α} (h:bN p q (.ok r)) (k:jI q q' t y):jI p q' t y:=by
 cases y with
 | ok r=>obtain ⟨t',r⟩:=r;exact ⟨k.1,h.tr k.2⟩
 | error x=>exact h.tr (y:=.error x) k
theorem On.self (h:On p ts):bN p p (.ok ts):=⟨h,rfl,rfl⟩
theorem On.at (h:On p ts) (k:Nat):p.l[p.i+k]?=ts[k]?:=by rw [<-h.rest,List.getElem?_drop]
theorem On.sign (h:On p ts) (k:Nat):p.sign k=Go.Xp.sign ts k:=by
 unfold RS.sign Go.Xp.sign;rw [ae h.code,h.at]
 all_goals (cases ts[k]? <;> rfl)
theorem On.place (h:On p ts):p.place=Go.Xp.place p.e ts:=by
 have h0:=h.at 0;unfold RS.place;rw [Nat.add_zero] at h0;rw [h0]
 cases ts with
 | nil=>rfl
 | cons t r=>rfl
theorem On.next {t:Tok} (h:On p (t::r)):bN p p.next (.ok r):=by
 have I:p.i < p.l.length:=by
  have:=congrArg List.length h.rest;simp at this;omega
 refine ⟨⟨h.code,I,?_,h.kinds⟩,rfl,rfl⟩;show p.l.drop (p.i+1)=r;rw [<-List.tail_drop,h.rest];rfl
theorem On.fail (h:On p ts) (c a:Int) (hc:c≠0):bN p (p.fail c a) (.error (c,a)):=by
 unfold RS.fail;rw [ae h.code];exact ⟨rfl,hc,rfl,rfl,rfl⟩
theorem uj (h:p.code≠0) (c a:Int):p.fail c a=p:=by unfold RS.fail;rw [ab h]
theorem l7 (h:p.code≠0) (k:Nat):p.sign k=[]:=by unfold RS.sign;rw [ab h]
theorem hY (h:p.code≠0) {s:ah} (hs:s≠[]):p.aP s=p:=by
 unfold RS.aP;rw [l7 h,ab (fun e=>hs e.symm),uj h]
theorem rJ (h:p.code≠0) (d:Nat):p.deep d=p:=by unfold RS.deep;split <;> simp [uj h]
theorem dM {s:ah} (hs:s≠[]) (h:Go.Xp.sign ts 0=s):∃ t,ts=t::ts.tail/\t.kind=3/\t.s=s:=by
 cases ts with
 | nil=>exact absurd h.symm hs
 | cons t r =>
  refine ⟨t,rfl,?_⟩;simp only [Go.Xp.sign,getElem?_cons_zero,br] at h;split at h
  ·exact ⟨by assumption,h⟩
  ·exact absurd h.symm hs
theorem On.aP (h:On p ts) {s:ah} (hs:s≠[]):bN p (p.aP s) (Go.Xp.aP p.e s ts):=by
 unfold RS.aP Go.Xp.aP;rw [h.sign]
 by_cases h0:Go.Xp.sign ts 0=s
 ·rw [ae h0,ae h0];obtain ⟨t,ht,_⟩:=dM hs h0;rw [ht] at h
  exact h.next
 ·rw [ab h0,ab h0,h.place];exact h.fail 7 _ aw
theorem On.name (h:On p ts):jI p p.name.2 p.name.1 (Go.Xp.name p.e ts)\/∃ x,Go.Xp.name p.e ts=.error x/\bN p p.name.2 (.error x):=by
 have h0:=h.at 0;rw [Nat.add_zero] at h0;unfold RS.name;rw [ae h.code,h0]
 cases ts with
 | nil=>exact .inr ⟨_,rfl,by rw [h.place];exact h.fail 7 _ aw⟩
 | cons t r =>
  simp only [getElem?_cons_zero,Go.Xp.name];split
  ·split
   ·exact .inr ⟨_,rfl,h.fail 8 _ aw⟩
   ·exact .inl ⟨rfl,h.next⟩
  ·refine .inr ⟨_,rfl,?_⟩;have:p.place=t.at_:=h.place;rw [this];exact h.fail 7 _ aw
end
theorem CR {p:RS} (h:p.code≠0):(∀ g d,1<=g->mE g (.operand d) p=some (T.zero,p))/\(∀ g k d out,1<=g->mE g (.loop k d out) p=some (out,p))/\(∀ n g k d,k+n=9->n+2<=g->mE g (.level k d) p=some (T.zero,p)):=by
 have I:∀ g d,1<=g->mE g (.operand d) p=some (T.zero,p):=by
  intro g d hg
  cases g with
  | zero=>omega
  | succ g=>rw [mE];simp [rJ h,h,uj h]
 have F:∀ g k d out,1<=g->mE g (.loop k d out) p=some (out,p):=by
  intro g k d out hg
  cases g with
  | zero=>omega
  | succ g=>rw [mE];simp [h]
 refine ⟨I,F,fun n=>?_⟩
 induction n with
 | zero =>
  intro g k d hk hg
  cases g with
  | zero=>omega
  | succ g=>rw [mE,ae aq];exact I g _ aq
 | succ n ih =>
  intro g k d hk hg
  cases g with
  | zero=>omega
  | succ g =>
   rw [mE,ab aq,ih g (k+1) d aq aq];exact F g _ _ _ aq
theorem WG {p:RS} (h:p.code≠0) {g d:Nat} (hg:12<=g):mE g (.expr d) p=some (T.zero,p):=by
 cases g with
 | zero=>omega
 | succ g=>rw [mE,rJ h];exact (CR h).2.2 9 g 0 d rfl aq
def KF (f:Nat):Nat:=2 * f+20
structure JE (f:Nat):Prop where
 expr:∀ d ts p,On p ts->rd p.e f (.expr d) ts≠.error bb->∃ t q,(∀ g,KF f<=g->mE g (.expr d) p=some (t,q))/\jI p q t (rd p.e f (.expr d) ts)
 level:∀ k d ts p,k<=9->On p ts->rd p.e f (.level k (d+1)) ts≠.error bb->∃ t q,(∀ g,KF f<=g->mE g (.level k d) p=some (t,q))/\jI p q t (rd p.e f (.level k (d+1)) ts)
 loop:∀ k d out ts p,k < 9->On p ts->rd p.e f (.loop k (d+1) out) ts≠.error bb->∃ t q,(∀ g,KF f<=g->mE g (.loop k d out) p=some (t,q))/\jI p q t (rd p.e f (.loop k (d+1) out) ts)
 operand:∀ d ts p,On p ts->rd p.e f (.operand d) ts≠.error bb->∃ t q,(∀ g,KF f<=g->mE g (.operand d) p=some (t,q))/\jI p q t (rd p.e f (.operand d) ts)
 args:∀ d acc ts p,acc≠[]->On p ts->rd.args p.e f d acc ts≠.error bb->∃ t q,(∀ g,KF f<=g->uM g d acc p=some (t,q))/\jI p q t (rd.args p.e f d acc ts)
 args0:∀ d ts p,On p ts->rd.args p.e f d [] ts≠.error bb->∃ t q,(∀ g,KF f<=g->mL g d p=some (t,q))/\jI p q t (rd.args p.e f d [] ts)
theorem C0:∀ k,(levels.getD k []).contains []=false:=by
 intro k
 have h:∀ l∈levels,l.contains ([]:ah)=false:=by decide
 rw [List.getD_eq_getElem?_getD]
 cases hk:levels[k]? with
 | none=>rfl
 | some l=>exact h l (bm hk)
theorem up {f g:Nat} (h:KF (f+1)<=g):∃ g',g=g'+1/\KF f+1<=g':=⟨g - 1,by unfold KF at h;omega,by unfold KF at *;omega⟩
theorem je (f:Nat):JE f:=by
 induction f with
 | zero =>
  refine ⟨fun d ts p _ h=>absurd ?_ h,fun k d ts p _ _ h=>absurd ?_ h,fun k d out ts p _ _ h=>absurd ?_ h,fun d ts p _ h=>absurd ?_ h,fun d acc ts p _ _ h=>absurd ?_ h,fun d ts p _ h=>absurd ?_ h⟩ <;> simp [rd,rd.args]
 | succ f C =>
  refine ⟨fun d ts p hp h=>?_,fun k d ts p hk hp h=>?_,fun k d out ts p hk hp h=>?_,fun d ts p hp h=>?_,fun d acc ts p lY hp h=>?_,fun d ts p hp h=>?_⟩
  ·rw [rd] at h |-
   by_cases hd:d > 60
   ·rw [ae hd] at h |-;have hf:=hp.fail 9 p.place aw;refine ⟨T.zero,p.fail 9 p.place,fun g hg=>?_,by rw [<-hp.place];exact hf⟩;obtain ⟨g,rfl,hg⟩:=up hg;rw [mE];unfold RS.deep;rw [ae hd];exact (CR hf.err).2.2 9 g 0 d rfl (by unfold KF at hg;omega)
   ·rw [ab hd] at h |-;obtain ⟨t,q,I,F⟩:=C.level 0 d ts p aq hp h;refine ⟨t,q,fun g hg=>?_,F⟩;obtain ⟨g,rfl,hg⟩:=up hg;rw [mE];unfold RS.deep;rw [ab hd];exact I g aq
  ·rw [rd] at h |-
   by_cases h9:k=9
   ·rw [ae h9] at h |-;obtain ⟨t,q,I,F⟩:=C.operand (d+1) ts p hp h;refine ⟨t,q,fun g hg=>?_,F⟩;obtain ⟨g,rfl,hg⟩:=up hg;rw [mE,ae h9];exact I g aq
   ·rw [ab h9] at h |-
    cases he:rd p.e f (.level (k+1) (d+1)) ts with
    | error x =>
     rw [he] at h
     have hx:x≠bb:=fun h0=>h (by rw [h0])
     obtain ⟨t,q,I,F⟩:=C.level (k+1) d ts p aq hp (by rw [he];intro h0;cases h0;exact hx rfl);rw [he] at F;refine ⟨t,q,fun g hg=>?_,F⟩;obtain ⟨g,rfl,hg⟩:=up hg;rw [mE,ab h9,I g aq];exact (CR (bN.err F)).2.1 g _ _ _ (by unfold KF at hg;omega)
    | ok r =>
     obtain ⟨t',r⟩:=r;rw [he] at h;simp only at h |-;obtain ⟨t,q,I,F⟩:=C.level (k+1) d ts p aq hp (by rw [he];intro h0;cases h0);rw [he] at F;obtain ⟨rfl,F⟩:=F;rw [<-F.2.2] at h |-;obtain ⟨t3,q3,h3,h4⟩:=C.loop k d t r q aq F.1 h;refine ⟨t3,q3,fun g hg=>?_,jI.tr F h4⟩;obtain ⟨g,rfl,hg⟩:=up hg;rw [mE,ab h9,I g aq];exact h3 g aq
  ·cases ts with
   | nil =>
    rw [rd];refine ⟨out,p,fun g hg=>?_,rfl,hp.self⟩;obtain ⟨g,rfl,hg⟩:=up hg;rw [mE,ab];rw [hp.sign];rintro ⟨_,h0⟩;rw [show sign ([]:List Tok) 0=[] from rfl,C0] at h0;cases h0
   | cons t r =>
    rw [rd] at h |-;have hs:p.sign 0=br t:=hp.sign 0
    by_cases hc:t.kind=3/\t.s∈levels.getD k []
    ·rw [ae hc] at h |-
     have hn:=hp.next
     have uC:p.l[p.i]?=some t:=hp.at 0;have nW:p.code=0/\(levels.getD k []).contains (p.sign 0)=true:=⟨hp.code,by rw [hs];unfold br;rw [ae hc.1];simpa using hc.2⟩;rw [show p.e=p.next.e from rfl] at h |-
     cases he:rd p.next.e f (.level (k+1) (d+1)) r with
     | error x =>
      rw [he] at h
      have hx:x≠bb:=fun h0=>h (by rw [h0])
      obtain ⟨b,q,I,F⟩:=C.level (k+1) d r p.next aq hn.1 (by rw [he];intro h0;cases h0;exact hx rfl)
      rw [he] at F;refine ⟨one 6 t.at_ t.s [out,b],q,fun g hg=>?_,hn.tr (y:=.error x) F⟩;obtain ⟨g,rfl,hg⟩:=up hg;rw [mE,ae nW,uC];simp only;rw [I g aq];exact (CR (bN.err F)).2.1 g _ _ _ (by unfold KF at hg;omega)
     | ok x =>
      obtain ⟨b',r'⟩:=x;rw [he] at h;simp only at h |-
      obtain ⟨b,q,I,F⟩:=C.level (k+1) d r p.next aq hn.1 (by rw [he];intro h0;cases h0)
      rw [he] at F;obtain ⟨rfl,F⟩:=F;rw [<-F.2.2] at h |-;obtain ⟨t3,q3,h3,h4⟩:=C.loop k d (one 6 t.at_ t.s [out,b]) r' q hk F.1 h;refine ⟨t3,q3,fun g hg=>?_,jI.tr (hn.tr F) h4⟩;obtain ⟨g,rfl,hg⟩:=up hg;rw [mE,ae nW,uC];simp only;rw [I g aq];exact h3 g aq
    ·rw [ab hc];refine ⟨out,p,fun g hg=>?_,rfl,hp.self⟩;obtain ⟨g,rfl,hg⟩:=up hg;rw [mE,ab];rintro ⟨_,h0⟩;rw [hs] at h0;unfold br at h0;split at h0
     ·rename_i h3;exact hc ⟨h3,by simpa using h0⟩
     ·rw [C0] at h0;cases h0
  ·rw [rd.eq_def] at h |-;simp only at h |-
   by_cases hd:d > 60
   ·rw [ae hd] at h |-;have hf:=hp.fail 9 p.place aw;refine ⟨T.zero,p.fail 9 p.place,fun g hg=>?_,by rw [<-hp.place];exact hf⟩;obtain ⟨g,rfl,hg⟩:=up hg;rw [mE];unfold RS.deep;rw [ae hd];simp [hf.err,uj hf.err]
   ·rw [ab hd] at h |-
    have ea:p.deep d=p:=by unfold RS.deep;rw [ab hd]
    cases ts with
    | nil =>
     simp only;have h0:p.l[p.i]?=none:=hp.at 0;refine ⟨T.zero,p.fail 7 p.place,fun g hg=>?_,?_⟩
     ·obtain ⟨g,rfl,hg⟩:=up hg;rw [mE];simp [ea,hp.code,h0]
     ·rw [hp.place];exact hp.fail 7 _ aw
    | cons t r =>
     simp only at h |-;have uC:p.l[p.i]?=some t:=hp.at 0
     have hn:=hp.next
     by_cases h3:t.kind=3
     ·rw [ae h3] at h |-
      have CB:¬ t.kind=1:=by omega
      have NR:¬ t.kind=2:=by omega
      by_cases hu:t.s=[45]\/t.s=[33]\/t.s=[126]
      ·rw [ae hu] at h |-;rw [show p.e=p.next.e from rfl] at h |-
       cases he:rd p.next.e f (.operand (d+1)) r with
       | error x =>
        rw [he] at h
        have hx:x≠bb:=fun h0=>h (by rw [h0])
        obtain ⟨b,q,I,F⟩:=C.operand (d+1) r p.next hn.1 (by rw [he];intro h0;cases h0;exact hx rfl)
        rw [he] at F;refine ⟨one 5 t.at_ t.s [b],q,fun g hg=>?_,hn.tr (y:=.error x) F⟩;obtain ⟨g,rfl,hg⟩:=up hg;rw [mE];simp only [ea,hp.code,uC,if_true,ab CB,ab NR,ae hu];rw [I g aq]
       | ok x =>
        obtain ⟨b',r'⟩:=x;rw [he] at h;simp only at h |-
        obtain ⟨b,q,I,F⟩:=C.operand (d+1) r p.next hn.1 (by rw [he];intro h0;cases h0)
        rw [he] at F;obtain ⟨rfl,F⟩:=F;refine ⟨one 5 t.at_ t.s [b],q,fun g hg=>?_,rfl,hn.tr F⟩;obtain ⟨g,rfl,hg⟩:=up hg;rw [mE];simp only [ea,hp.code,uC,if_true,ab CB,ab NR,ae hu];rw [I g aq]
      ·rw [ab hu] at h |-
       by_cases hb:t.s=[40]
       ·rw [ae hb] at h |-;rw [show p.e=p.next.e from rfl] at h |-
        cases he:rd p.next.e f (.expr (d+1)) r with
        | error x =>
         rw [he] at h
         have hx:x≠bb:=fun h0=>h (by rw [h0])
         obtain ⟨b,q,I,F⟩:=C.expr (d+1) r p.next hn.1 (by rw [he];intro h0;cases h0;exact hx rfl)
         rw [he] at F;refine ⟨b,q.aP [41],fun g hg=>?_,?_⟩
         ·obtain ⟨g,rfl,hg⟩:=up hg;rw [mE];simp only [ea,hp.code,uC,if_true,ab CB,ab NR,ab hu,ae hb];rw [I g aq]
         ·rw [hY (bN.err F) aw];exact hn.tr (y:=.error x) F
        | ok x =>
         obtain ⟨b',r'⟩:=x;rw [he] at h;simp only at h |-
         obtain ⟨b,q,I,F⟩:=C.expr (d+1) r p.next hn.1 (by rw [he];intro h0;cases h0)
         rw [he] at F;obtain ⟨rfl,F⟩:=F;have hm:=F.1.aP (s:=[41]) aw;have aY:=(hn.tr F).tr hm;rw [F.2.2] at aY;refine ⟨b,q.aP [41],fun g hg=>?_,?_⟩
         ·obtain ⟨g,rfl,hg⟩:=up hg;rw [mE];simp only [ea,hp.code,uC,if_true,ab CB,ab NR,ab hu,ae hb];rw [I g aq]
         ·cases sD:aP p.next.e [41] r' with
          | error x=>rw [sD] at aY;exact aY
          | ok r2=>rw [sD] at aY;exact ⟨rfl,aY⟩
       ·rw [ab hb] at h |-;refine ⟨T.zero,p.fail 7 t.at_,fun g hg=>?_,hp.fail 7 _ aw⟩;obtain ⟨g,rfl,hg⟩:=up hg;rw [mE];simp only [ea,hp.code,uC,if_true,ab CB,ab NR,ab hu,ab hb]
     ·rw [ab h3] at h |-
      by_cases I:t.kind=1
      ·rw [ae I];refine ⟨_,p.next,fun g hg=>?_,rfl,hn⟩;obtain ⟨g,rfl,hg⟩:=up hg;rw [mE];simp only [ea,hp.code,uC,if_true,ae I]
      ·rw [ab I] at h |-
       by_cases F:t.kind=2
       ·by_cases hlen:t.s.length > 12
        ·have fy:name p.e (t::r)=.error (8,t.at_):=by simp [name,F,hlen]
         rw [fy] at h |-;have hf:=hp.fail 8 t.at_ aw;refine ⟨one 2 t.at_ [] [],p.fail 8 t.at_,fun g hg=>?_,hf⟩;obtain ⟨g,rfl,hg⟩:=up hg
         have dA:p.name=([],p.fail 8 t.at_):=by unfold RS.name;simp [hp.code,uC,F,hlen]
         rw [mE];simp only [ea,hp.code,uC,if_true,ab I,ae F,dA];obtain ⟨g,rfl⟩:∃ g',g=g'+1:=⟨g - 1,by omega⟩;rw [mE,ab (by rw [l7 hf.err];decide),ab (by rw [l7 hf.err];decide)]
        ·have fy:name p.e (t::r)=.ok (t.s,r):=by simp [name,F,hlen]
         have dA:p.name=(t.s,p.next):=by unfold RS.name;simp [hp.code,uC,F,hlen]
         rw [fy] at h |-;simp only at h |-
         have ek:p.next.sign 0=sign r 0:=hn.1.sign 0
         have key:∀ (t':T) (q:RS),(∀ g,KF f<=g->mE (g+1) (.named t.at_ t.s d) p.next=some (t',q))->∀ g,KF (f+1)<=g->mE g (.operand d) p=some (t',q):=by
          intro t' q hk g hg;obtain ⟨g,rfl,hg⟩:=up hg;rw [mE];simp only [ea,hp.code,uC,if_true,ab I,ae F,dA];obtain ⟨g,rfl⟩:∃ g',g=g'+1:=⟨g - 1,by omega⟩;exact hk g aq
         by_cases hb:sign r 0=[91]
         ·rw [ae hb] at h |-;obtain ⟨tb,CM,_⟩:=dM aw hb;have bW:=hn.1;rw [CM] at bW
          have bW:=hn.tr bW.next
          rw [show p.e=p.next.next.e from rfl] at h |-
          cases he:rd p.next.next.e f (.expr (d+1)) r.tail with
          | error x =>
           rw [he] at h
           have hx:x≠bb:=fun h0=>h (by rw [h0])
           obtain ⟨b,q,k1,k2⟩:=C.expr (d+1) r.tail p.next.next bW.1 (by rw [he];intro h0;cases h0;exact hx rfl)
           rw [he] at k2;refine ⟨one 3 t.at_ t.s [b],q.aP [93],key _ _ fun g hg=>?_,?_⟩
           ·rw [mE,ae (by rw [ek];exact hb),k1 g hg]
           ·rw [hY (bN.err k2) aw];exact bW.tr (y:=.error x) k2
          | ok x =>
           obtain ⟨b',r'⟩:=x;rw [he] at h;simp only at h |-
           obtain ⟨b,q,k1,k2⟩:=C.expr (d+1) r.tail p.next.next bW.1 (by rw [he];intro h0;cases h0)
           rw [he] at k2;obtain ⟨rfl,k2⟩:=k2;have hm:=k2.1.aP (s:=[93]) aw;have aY:=(bW.tr k2).tr hm;rw [k2.2.2] at aY;refine ⟨one 3 t.at_ t.s [b],q.aP [93],key _ _ fun g hg=>?_,?_⟩
           ·rw [mE,ae (by rw [ek];exact hb),k1 g hg]
           ·cases sD:aP p.next.next.e [93] r' with
            | error x=>rw [sD] at aY;exact aY
            | ok r2=>rw [sD] at aY;exact ⟨rfl,aY⟩
         ·rw [ab hb] at h |-
          by_cases hc:sign r 0=[40]
          ·rw [ae hc] at h |-;obtain ⟨tb,CM,_⟩:=dM aw hc;have bW:=hn.1;rw [CM] at bW
           have bW:=hn.tr bW.next
           rw [show p.e=p.next.next.e from rfl] at h |-
           cases he:rd.args p.next.next.e f (d+1) [] r.tail with
           | error x =>
            rw [he] at h
            have hx:x≠bb:=fun h0=>h (by rw [h0])
            obtain ⟨b,q,k1,k2⟩:=C.args0 (d+1) r.tail p.next.next bW.1 (by rw [he];intro h0;cases h0;exact hx rfl)
            rw [he] at k2;refine ⟨one 4 t.at_ t.s b,q,key _ _ fun g hg=>?_,bW.tr (y:=.error x) k2⟩;rw [mE,ab (by rw [ek];exact hb),ae (by rw [ek];exact hc),k1 g hg]
           | ok x =>
            obtain ⟨b',r'⟩:=x;rw [he] at h
            obtain ⟨b,q,k1,k2⟩:=C.args0 (d+1) r.tail p.next.next bW.1 (by rw [he];intro h0;cases h0)
            rw [he] at k2;obtain ⟨rfl,k2⟩:=k2;refine ⟨one 4 t.at_ t.s b,q,key _ _ fun g hg=>?_,rfl,bW.tr k2⟩;rw [mE,ab (by rw [ek];exact hb),ae (by rw [ek];exact hc),k1 g hg]
          ·rw [ab hc] at h |-;refine ⟨one 2 t.at_ t.s [],p.next,key _ _ fun g hg=>?_,rfl,hn⟩;rw [mE,ab (by rw [ek];exact hb),ab (by rw [ek];exact hc)]
       ·have fy:name p.e (t::r)=.error (7,t.at_):=by simp [name,F]
        rw [fy] at h |-;have:=hp.kinds t (bm uC);omega
  ·rw [rd.args] at h |-;have ek:p.sign 0=sign ts 0:=hp.sign 0
   by_cases hb:sign ts 0=[41]
   ·rw [ae hb];have hm:=hp.aP (s:=[41]) aw;unfold Go.Xp.aP at hm;rw [ae hb] at hm;refine ⟨acc,p.aP [41],fun g hg=>?_,rfl,hm⟩;obtain ⟨g,rfl,hg⟩:=up hg;rw [uM,ab (by rw [ek,hb];decide)]
   ·rw [ab hb,ab lY] at h |-
    by_cases hc:sign ts 0=[44]
    ·have kF:Go.Xp.aP p.e [44] ts=.ok ts.tail:=by unfold Go.Xp.aP;rw [ae hc]
     rw [kF] at h |-;simp only at h |-;obtain ⟨tb,CM,_⟩:=dM aw hc;have hn:=hp;rw [CM] at hn
     have hn:=hn.next
     rw [show p.e=p.next.e from rfl] at h |-
     cases he:rd p.next.e f (.expr d) ts.tail with
     | error x =>
      rw [he] at h
      have hx:x≠bb:=fun h0=>h (by rw [h0])
      obtain ⟨b,q,k1,k2⟩:=C.expr d ts.tail p.next hn.1 (by rw [he];intro h0;cases h0;exact hx rfl)
      rw [he] at k2;refine ⟨acc++[b],q,fun g hg=>?_,hn.tr (y:=.error x) k2⟩;obtain ⟨g,rfl,hg⟩:=up hg;rw [uM,ae (by rw [ek,hc]),k1 g aq];simp only;obtain ⟨g,rfl⟩:∃ g',g=g'+1:=⟨g - 1,by omega⟩;rw [uM,ab (by rw [l7 (bN.err k2)];decide),hY (bN.err k2) aw]
     | ok x =>
      obtain ⟨b',r'⟩:=x;rw [he] at h;simp only at h |-
      obtain ⟨b,q,k1,k2⟩:=C.expr d ts.tail p.next hn.1 (by rw [he];intro h0;cases h0)
      rw [he] at k2;obtain ⟨rfl,k2⟩:=k2;rw [<-k2.2.2] at h |-;obtain ⟨t3,q3,h3,h4⟩:=C.args d (acc++[b]) r' q (by simp) k2.1 h;refine ⟨t3,q3,fun g hg=>?_,jI.tr (hn.tr k2) h4⟩;obtain ⟨g,rfl,hg⟩:=up hg;rw [uM,ae (by rw [ek,hc]),k1 g aq];exact h3 g aq
    ·have kF:Go.Xp.aP p.e [44] ts=.error (7,place p.e ts):=by unfold Go.Xp.aP;rw [ab hc]
     rw [kF];have hm:=hp.aP (s:=[41]) aw;unfold Go.Xp.aP at hm;rw [ab hb] at hm;refine ⟨acc,p.aP [41],fun g hg=>?_,hm⟩;obtain ⟨g,rfl,hg⟩:=up hg;rw [uM,ab (by rw [ek];exact hc)]
  ·rw [rd.args] at h |-;have ek:p.sign 0=sign ts 0:=hp.sign 0
   by_cases hb:sign ts 0=[41]
   ·rw [ae hb];have hm:=hp.aP (s:=[41]) aw;unfold Go.Xp.aP at hm;rw [ae hb] at hm;refine ⟨[],p.aP [41],fun g hg=>?_,rfl,hm⟩;obtain ⟨g,rfl,hg⟩:=up hg;rw [mL,ae (by rw [ek,hb])]
   ·rw [ab hb,ae rfl] at h |-;simp only at h |-
    cases he:rd p.e f (.expr d) ts with
    | error x =>
     rw [he] at h
     have hx:x≠bb:=fun h0=>h (by rw [h0])
     obtain ⟨b,q,k1,k2⟩:=C.expr d ts p hp (by rw [he];intro h0;cases h0;exact hx rfl);rw [he] at k2;refine ⟨[b],q,fun g hg=>?_,k2⟩;obtain ⟨g,rfl,hg⟩:=up hg;rw [mL,ab (by rw [ek];exact hb),k1 g aq];simp only;obtain ⟨g,rfl⟩:∃ g',g=g'+1:=⟨g - 1,by omega⟩;rw [uM,ab (by rw [l7 (bN.err k2)];decide),hY (bN.err k2) aw]
    | ok x =>
     obtain ⟨b',r'⟩:=x;rw [he] at h;simp only at h |-;obtain ⟨b,q,k1,k2⟩:=C.expr d ts p hp (by rw [he];intro h0;cases h0);rw [he] at k2;obtain ⟨rfl,k2⟩:=k2;rw [<-k2.2.2] at h |-;obtain ⟨t3,q3,h3,h4⟩:=C.args d ([]++[b]) r' q (by simp) k2.1 h;refine ⟨t3,q3,fun g hg=>?_,jI.tr k2 h4⟩;obtain ⟨g,rfl,hg⟩:=up hg;rw [mL,ab (by rw [ek];exact hb),k1 g aq];exact h3 g aq
end Go.Sp
namespace Go.Xp
theorem Yz (e:Int):∀ f,(∀ j ts,rd e f j ts=.error bb\/rd e (f+1) j ts=rd e f j ts)/\(∀ d acc ts,rd.args e f d acc ts=.error bb\/rd.args e (f+1) d acc ts=rd.args e f d acc ts):=by
 intro f
 induction f with
 | zero=>exact ⟨fun j ts=>.inl (by simp [rd]),fun d acc ts=>.inl (by simp [rd.args])⟩
 | succ f ih =>
  obtain ⟨i1,i2⟩:=ih;refine ⟨fun j ts=>?_,fun d acc ts=>?_⟩
  ·rw [rd.eq_def e (f+1+1),rd.eq_def e (f+1)]
   cases j with
   | expr d =>
    simp only;split
    ·exact .inr rfl
    ·exact i1 _ _
   | level k d =>
    simp only;split
    ·exact i1 _ _
    ·rcases i1 (.level (k+1) d) ts with h | h
     ·left;rw [h]
     ·rw [h]
      cases rd e f (.level (k+1) d) ts with
      | error x=>exact .inr rfl
      | ok r=>exact i1 _ _
   | loop k d out =>
    cases ts with
    | nil=>exact .inr rfl
    | cons t r =>
     simp only;split
     ·rcases i1 (.level (k+1) d) r with h | h
      ·left;rw [h]
      ·rw [h]
       cases rd e f (.level (k+1) d) r with
       | error x=>exact .inr rfl
       | ok r=>exact i1 _ _
     ·exact .inr rfl
   | operand d =>
    simp only;split
    ·exact .inr rfl
    ·cases ts with
     | nil=>exact .inr rfl
     | cons t r =>
      simp only;split
      ·split
       ·rcases i1 (.operand (d+1)) r with h | h
        ·left;rw [h]
        ·rw [h];exact .inr rfl
       ·split
        ·rcases i1 (.expr (d+1)) r with h | h
         ·left;rw [h]
         ·rw [h];exact .inr rfl
        ·exact .inr rfl
      ·split
       ·exact .inr rfl
       ·cases name e (t::r) with
        | error x=>exact .inr rfl
        | ok y =>
         obtain ⟨s,r⟩:=y;simp only;split
         ·rcases i1 (.expr (d+1)) r.tail with h | h
          ·left;rw [h]
          ·rw [h];exact .inr rfl
         ·split
          ·rcases i2 (d+1) [] r.tail with h | h
           ·left;rw [h]
           ·rw [h];exact .inr rfl
          ·exact .inr rfl
  ·rw [rd.args,rd.args];split
   ·exact .inr rfl
   ·cases (if acc=[] then .ok ts else aP e [44] ts:Except Er (List Tok)) with
    | error x=>exact .inr rfl
    | ok ts =>
     simp only
     rcases i1 (.expr d) ts with h | h
     ·left;rw [h]
     ·rw [h]
      cases rd e f (.expr d) ts with
      | error x=>exact .inr rfl
      | ok y=>exact i2 _ _ _
theorem Kz {e:Int} {f f':Nat} {j:pA} {ts:List Tok} (h:rd e f j ts≠.error bb) (hf:f<=f'):rd e f' j ts=rd e f j ts:=by
 obtain ⟨k,rfl⟩:=Nat.exists_eq_add_of_le hf;clear hf
 induction k with
 | zero=>rfl
 | succ k ih =>
  rcases (Yz e (f+k)).1 j ts with I | I
  ·rw [ih] at I;exact absurd I h
  ·rw [<-gW,I,ih]
theorem DE {e:Int} {f d:Nat} {ts:List Tok} (h:20 * ts.length+12<=f):rd e f (.expr d) ts=expr e d ts:=by
 have h0:rd e (20 * ts.length+12) (.expr d) ts≠.error bb:=zV (j:=.expr d) trivial (aH _);rw [Kz h0 h];unfold expr nr;exact (Kz h0 aq).symm
def YJ (t:T):Prop:=t.n.kind=3->∃ a,t.kids=[a]
theorem O9 (e:Int):∀ f j,(∀ k d out,j≠.loop k d out)->∀ t r,rd e f j []≠.ok (t,r):=by
 intro f
 induction f with
 | zero=>intro j _ t r h;simp [rd] at h
 | succ f ih =>
  intro j hj t r h;rw [rd.eq_def] at h
  cases j with
  | expr d =>
   simp only at h;split at h
   ·cases h
   ·exact ih _ (fun k d out h=>by cases h) _ _ h
  | level k d =>
   simp only at h;split at h
   ·exact ih _ (fun k d out h=>by cases h) _ _ h
   ·split at h
    ·cases h
    ·rename_i he;exact ih _ (fun k d out h=>by cases h) _ _ he
  | loop k d out=>exact hj _ _ _ rfl
  | operand d =>
   simp only at h;split at h <;> cases h
theorem O8 (e:Int):∀ f j ts t r,(∀ k d out,j=.loop k d out->YJ out)->rd e f j ts=.ok (t,r)->YJ t:=by
 intro f
 induction f with
 | zero=>intro j ts t r _ h;simp [rd] at h
 | succ f ih =>
  intro j ts t r hj h;rw [rd.eq_def] at h
  cases j with
  | expr d =>
   simp only at h;split at h
   ·cases h
   ·exact ih _ _ _ _ (fun k d out h=>by cases h) h
  | level k d =>
   simp only at h;split at h
   ·exact ih _ _ _ _ (fun k d out h=>by cases h) h
   ·split at h
    ·cases h
    ·rename_i out jz he;exact ih _ _ _ _ (fun k' d' aaA mJ=>by cases mJ;exact ih _ _ _ _ (fun k d out h=>by cases h) he) h
  | loop k d out =>
   cases ts with
   | nil=>cases h;exact hj k d _ rfl
   | cons a r' =>
    simp only at h;split at h
    ·split at h
     ·cases h
     ·exact ih _ _ _ _ (fun k' d' aaA mJ=>by cases mJ;intro h3;exact absurd h3 (by simp [one,T.n])) h
    ·cases h;exact hj k d _ rfl
  | operand d =>
   simp only at h;split at h
   ·cases h
   ·cases ts with
    | nil=>cases h
    | cons a r' =>
     simp only at h;split at h
     ·split at h
      ·split at h
       ·cases h
       ·cases h;intro h3;exact absurd h3 (by simp [one,T.n])
      ·split at h
       ·split at h
        ·cases h
        ·rename_i he;split at h
         ·cases h
         ·cases h;exact ih _ _ _ _ (fun k d out h=>by cases h) he
       ·cases h
     ·split at h
      ·cases h;intro h3;exact absurd h3 (by simp [T.n])
      ·split at h
       ·cases h
       ·split at h
        ·split at h
         ·cases h
         ·split at h
          ·cases h
          ·cases h;exact fun _=>⟨_,rfl⟩
        ·split at h
         ·split at h
          ·cases h
          ·cases h;intro h3;exact absurd h3 (by simp [one,T.n])
         ·cases h;intro h3;exact absurd h3 (by simp [one,T.n])
end Go.Xp
namespace Go.Sp
open Go.Xp
theorem Yf {d:Nat} {ts:List Tok} {p:RS} (hp:On p ts):∃ t q,mX d p=some (t,q)/\jI p q t (expr p.e d ts):=by
 have hl:ts.length<=p.l.length:=by rw [<-hp.rest,iM];omega
 have hf:rd p.e (20 * ts.length+12) (.expr d) ts≠.error bb:=zV (j:=.expr d) trivial (aH _);obtain ⟨t,q,I,F⟩:=(je _).expr d ts p hp hf;rw [DE (aH _)] at F;exact ⟨t,q,I _ (by unfold KF fe;omega),F⟩
theorem HG {d:Nat} {p:RS} (h:p.code≠0):mX d p=some (T.zero,p):=WG h (by unfold fe;omega)
theorem OW {p:RS} (h:p.code≠0) {g d:Nat} (hg:2<=g):mS g (.block d) p=some (one 14 p.place [] [],p):=by
 obtain ⟨g,rfl⟩:∃ g',g=g'+2:=⟨g - 2,by omega⟩;rw [mS,rJ h,hY h aw];simp only [mB,h,false_and,if_false];rw [hY h aw]
theorem Po {p:RS} (h:p.code≠0) {g d:Nat} (hg:1<=g):mS g (.stmt d) p=some (one 12 p.place [] [T.zero],p):=by
 obtain ⟨g,rfl⟩:∃ g',g=g'+1:=⟨g - 1,by omega⟩;rw [mS,rJ h];simp only [l7 h];rw [ab aw,ab aw,ab aw,ab (fun x=>h x.1),HG h]
 have h03:¬ (T.zero.n.kind=3/\T.zero.n.at_=p.place/\p.sign 0=[61]):=fun x=>absurd x.1 aw
 simp only;rw [ab h03,hY h aw]
structure JS' (f:Nat):Prop where
 block:∀ d ts p,On p ts->rs p.e f (.block d) ts≠.error bb->∃ t q,(∀ g,KF f<=g->mS g (.block d) p=some (t,q))/\jI p q t (rs p.e f (.block d) ts)
 stmt:∀ d ts p,On p ts->rs p.e f (.stmt d) ts≠.error bb->∃ t q,(∀ g,KF f<=g->mS g (.stmt d) p=some (t,q))/\jI p q t (rs p.e f (.stmt d) ts)
 body:∀ d acc ts p,On p ts->rs.body p.e f d acc ts≠.error bb->∃ t q,(∀ g,KF f<=g->mB g d acc p=some (t,q))/\jI p (q.aP [125]) t (rs.body p.e f d acc ts)
theorem L5 {d:Nat} {ts:List Tok} {p:RS} (hp:On p ts):(∃ t q r,mX d p=some (t,q)/\expr p.e d ts=.ok (t,r)/\bN p q (.ok r))\/(∃ t q x,mX d p=some (t,q)/\expr p.e d ts=.error x/\bN p q (.error x)):=by
 obtain ⟨t,q,I,F⟩:=Yf (d:=d) hp
 cases he:expr p.e d ts with
 | error x=>rw [he] at F;exact .inr ⟨t,q,x,I,rfl,F⟩
 | ok y =>
  obtain ⟨t',r⟩:=y;rw [he] at F;obtain ⟨rfl,F⟩:=F;exact .inl ⟨t,q,r,I,rfl,F⟩
theorem zS {s:ah} {ts:List Tok} {p:RS} (hp:On p ts) (hs:s≠[]):(∃ r,Go.Xp.aP p.e s ts=.ok r/\bN p (p.aP s) (.ok r))\/(∃ x,Go.Xp.aP p.e s ts=.error x/\bN p (p.aP s) (.error x)):=by
 have h:=hp.aP hs
 cases he:Go.Xp.aP p.e s ts with
 | ok r=>rw [he] at h;exact .inl ⟨r,rfl,h⟩
 | error x=>rw [he] at h;exact .inr ⟨x,rfl,h⟩
theorem Uo {ts:List Tok} {p:RS} (hp:On p ts):(∃ r,Go.Xp.name p.e ts=.ok (p.name.1,r)/\bN p p.name.2 (.ok r))\/(∃ x,Go.Xp.name p.e ts=.error x/\bN p p.name.2 (.error x)):=by
 rcases hp.name with h | h
 ·cases he:Go.Xp.name p.e ts with
  | ok y =>
   obtain ⟨s,r⟩:=y;rw [he] at h;obtain ⟨rfl,h⟩:=h;exact .inl ⟨r,rfl,h⟩
  | error x=>rw [he] at h;exact .inr ⟨x,rfl,h⟩
 ·exact .inr h
theorem A6 {d:Nat} {ts:List Tok} {p:RS} {b:ah} (hp:On p ts) (hb:b≠[]):∃ t q,mX d p=some (t,q)/\((∃ r r',expr p.e d ts=.ok (t,r)/\Go.Xp.aP p.e b r=.ok r'/\bN p (q.aP b) (.ok r'))\/(∃ r x,expr p.e d ts=.ok (t,r)/\Go.Xp.aP p.e b r=.error x/\bN p (q.aP b) (.error x))\/(∃ x,expr p.e d ts=.error x/\bN p (q.aP b) (.error x))):=by
 rcases L5 (d:=d) hp with ⟨t,q,r,I,F,h3⟩ | ⟨t,q,x,I,F,h3⟩
 ·refine ⟨t,q,I,?_⟩
  rcases zS h3.1 hb with ⟨r',h4,h5⟩ | ⟨x,h4,h5⟩
  ·rw [h3.2.2] at h4;exact .inl ⟨r,r',F,h4,h3.tr h5⟩
  ·rw [h3.2.2] at h4;exact .inr (.inl ⟨r,x,F,h4,h3.tr h5⟩)
 ·exact ⟨t,q,I,.inr (.inr ⟨x,F,by rw [hY h3.err hb];exact h3⟩)⟩
theorem On.oB {ts:List Tok} {p:RS} (hp:On p ts):p.oB=(match ts with | t::_=>decide (t.kind=2) | []=>false):=by
 have h:=hp.at 0;rw [Nat.add_zero] at h;unfold RS.oB;rw [h]
 cases ts <;> rfl
theorem Hx {d:Nat} {ts:List Tok} {p:RS} {a b:ah} (hp:On p ts) (ha:a≠[]) (hb:b≠[]):∃ t q,mX d (p.aP a)=some (t,q)/\((∃ r,inner p.e d a b ts=.ok (t,r)/\bN p (q.aP b) (.ok r))\/∃ x,inner p.e d a b ts=.error x/\bN p (q.aP b) (.error x)):=by
 unfold Go.Xp.inner
 rcases zS hp ha with ⟨r,I,F⟩ | ⟨x,I,F⟩
 ·rw [I];obtain ⟨t,q,h3,h4⟩:=A6 (d:=d) (b:=b) F.1 hb;rw [F.2.2] at h4;refine ⟨t,q,h3,?_⟩;simp only
  rcases h4 with ⟨r,r',k1,k2,k3⟩ | ⟨r,x,k1,k2,k3⟩ | ⟨x,k1,k3⟩
  ·rw [k1];simp only;rw [k2];exact .inl ⟨r',rfl,F.tr k3⟩
  ·rw [k1];simp only;rw [k2];exact .inr ⟨x,rfl,F.tr (y:=.error x) k3⟩
  ·rw [k1];exact .inr ⟨x,rfl,F.tr (y:=.error x) k3⟩
 ·rw [I];exact ⟨T.zero,p.aP a,HG F.err,.inr ⟨x,rfl,by rw [hY F.err hb];exact F⟩⟩
theorem H6 {d:Nat} {ts:List Tok} {p:RS} (hp:On p ts):∃ t q,mX d (p.name.2.aP [61])=some (t,q)/\((∃ r,lR p.e d ts=.ok ((p.name.1,t),r)/\bN p (q.aP [59]) (.ok r))\/∃ x,lR p.e d ts=.error x/\bN p (q.aP [59]) (.error x)):=by
 unfold Go.Xp.lR
 rcases Uo hp with ⟨r,I,F⟩ | ⟨x,I,F⟩
 ·rw [I];obtain ⟨t,q,h3,h4⟩:=Hx (d:=d) (a:=[61]) (b:=[59]) F.1 aw aw;rw [F.2.2] at h4;refine ⟨t,q,h3,?_⟩;simp only
  rcases h4 with ⟨r,k1,k3⟩ | ⟨x,k1,k3⟩
  ·rw [k1];exact .inl ⟨r,rfl,F.tr k3⟩
  ·rw [k1];exact .inr ⟨x,rfl,F.tr (y:=.error x) k3⟩
 ·rw [I];refine ⟨T.zero,p.name.2,by rw [hY F.err aw];exact HG F.err,.inr ⟨x,rfl,by rw [hY F.err aw];exact F⟩⟩
theorem js (f:Nat):JS' f:=by
 induction f with
 | zero=>exact ⟨fun d ts p _ h=>absurd (by simp [rs]) h,fun d ts p _ h=>absurd (by simp [rs]) h,fun d acc ts p _ h=>absurd (by simp [rs.body]) h⟩
 | succ f C =>
  refine ⟨fun d ts p hp h=>?_,fun d ts p hp h=>?_,fun d acc ts p hp h=>?_⟩
  ·rw [rs] at h |-
   by_cases hd:d > 60
   ·rw [ae hd] at h |-;have hf:=hp.fail 9 p.place aw;refine ⟨one 14 (p.fail 9 p.place).place [] [],p.fail 9 p.place,fun g hg=>?_,by rw [<-hp.place];exact hf⟩
    have VV:p.deep d=p.fail 9 p.place:=by unfold RS.deep;rw [ae hd]
    have:=OW (g:=g) (d:=d) hf.err (by unfold KF at hg;omega);obtain ⟨g,rfl,hg⟩:=up hg;rw [mS] at this |-;rw [rJ hf.err] at this;rw [VV];exact this
   ·rw [ab hd] at h |-
    have ea:p.deep d=p:=by unfold RS.deep;rw [ab hd]
    rcases zS hp (s:=[123]) aw with ⟨r,I,F⟩ | ⟨x,I,F⟩
    ·rw [I] at h |-;simp only at h |-;rw [<-F.2.2] at h |-
     have hb:rs.body (p.aP [123]).e f (d+1) [] r≠.error bb:=fun h0=>h (by rw [h0])
     obtain ⟨l,q,h3,h4⟩:=C.body (d+1) [] r (p.aP [123]) F.1 hb
     have cX:place (p.aP [123]).e ts=p.place:=by rw [F.2.2,hp.place]
     refine ⟨one 14 p.place [] l,q.aP [125],fun g hg=>?_,?_⟩
     ·obtain ⟨g,rfl,hg⟩:=up hg;rw [mS,ea,h3 g aq]
     ·cases he:rs.body (p.aP [123]).e f (d+1) [] r with
      | error x=>rw [he] at h4;exact F.tr (y:=.error x) h4
      | ok y=>obtain ⟨l',r'⟩:=y;rw [he] at h4;obtain ⟨rfl,h4⟩:=h4;rw [cX];exact ⟨rfl,F.tr h4⟩
    ·rw [I] at h |-;refine ⟨one 14 p.place [] [],p.aP [123],fun g hg=>?_,F⟩;obtain ⟨g,rfl,hg⟩:=up hg;rw [mS,ea];obtain ⟨g,rfl⟩:∃ g',g=g'+1:=⟨g - 1,by omega⟩;simp only [mB,F.err,false_and,if_false];rw [hY F.err aw]
  ·rw [rs] at h |-
   by_cases hd:d > 60
   ·rw [ae hd] at h |-;have hf:=hp.fail 9 p.place aw
    have VV:p.deep d=p.fail 9 p.place:=by unfold RS.deep;rw [ae hd]
    refine ⟨one 12 (p.fail 9 p.place).place [] [T.zero],p.fail 9 p.place,fun g hg=>?_,by rw [<-hp.place];exact hf⟩;have:=Po (g:=g) (d:=d) hf.err (by unfold KF at hg;omega);obtain ⟨g,rfl,hg⟩:=up hg;rw [mS] at this |-;rw [rJ hf.err] at this;rw [VV];exact this
   ·rw [ab hd] at h |-
    have ea:p.deep d=p:=by unfold RS.deep;rw [ab hd]
    have ek:p.sign 0=sign ts 0:=hp.sign 0;have We:p.sign 1=sign ts 1:=hp.sign 1;have cX:=hp.place;simp only at h |-
    by_cases hv:sign ts 0=iv
    ·rw [ae hv];obtain ⟨tv,yS,_⟩:=dM aw hv;have hn:=hp;rw [yS] at hn
     have hn:=hn.next
     rw [show p.e=p.next.e from rfl]
     rcases H6 (d:=d+1) hn.1 with ⟨t,q,I,⟨r,F,h3⟩ | ⟨x,F,h3⟩⟩
     ·rw [F];refine ⟨one 13 p.place p.next.name.1 [t],q.aP [59],fun g hg=>?_,by rw [cX];rfl,hn.tr h3⟩;obtain ⟨g,rfl,hg⟩:=up hg;rw [mS,ea];rw [ae (by rw [ek,hv]),I]
     ·rw [F];refine ⟨one 13 p.place p.next.name.1 [t],q.aP [59],fun g hg=>?_,hn.tr (y:=.error x) h3⟩;obtain ⟨g,rfl,hg⟩:=up hg;rw [mS,ea];rw [ae (by rw [ek,hv]),I]
    rw [ab hv] at h |-
    by_cases hc:sign ts 0=eo\/sign ts 0=dL
    ·rw [ae hc] at h |-
     obtain ⟨tv,yS,hk3,uF⟩:∃ t,ts=t::ts.tail/\t.kind=3/\t.s=sign ts 0:=by
      rcases hc with hc | hc
      ·obtain ⟨t,I,F,h3⟩:=dM aw hc;exact ⟨t,I,F,h3.trans hc.symm⟩
      ·obtain ⟨t,I,F,h3⟩:=dM aw hc;exact ⟨t,I,F,h3.trans hc.symm⟩
     have hn:=hp;rw [yS] at hn
     have hn:=hn.next
     have uv:p.ck=if sign ts 0=eo then 9 else 10:=by unfold RS.ck;rw [ek]
     have key:∀ (t:T) (q:RS),(∀ g,KF f<=g->mS (g+1) (.cond p.place d) p=some (t,q))->∀ g,KF (f+1)<=g->mS g (.stmt d) p=some (t,q):=by
      intro t q hk g hg;obtain ⟨g,rfl,hg⟩:=up hg;rw [mS,ea];rw [ab (by rw [ek];exact hv),ae (by rw [ek];exact hc)];obtain ⟨g,rfl⟩:∃ g',g=g'+1:=⟨g - 1,by omega⟩;exact hk g aq
     rcases Hx (d:=d+1) (a:=[40]) (b:=[41]) hn.1 aw aw with ⟨c,q,I,⟨r,F,h3⟩ | ⟨x,F,h3⟩⟩
     ·rw [show p.next.e=p.e from rfl] at F;rw [F] at h |-;simp only at h |-;have h3:=hn.tr h3
      have hb:rs p.e f (.block (d+1)) r≠.error bb:=fun h0=>h (by rw [h0])
      rw [<-h3.2.2] at hb;obtain ⟨b,q2,h4,h5⟩:=C.block (d+1) r (q.aP [41]) h3.1 hb;rw [h3.2.2] at h5
      cases he:rs p.e f (.block (d+1)) r with
      | error x =>
       rw [he] at h5;refine ⟨one p.ck p.place [] [c,b],q2,key _ _ fun g hg=>?_,h3.tr (y:=.error x) h5⟩;rw [mS,I];simp only;rw [h4 g hg];simp only;rw [ab (by rw [l7 (bN.err h5)];exact fun x=>absurd x.2 aw)]
      | ok y =>
       obtain ⟨b',r2⟩:=y;rw [he] at h5 h;obtain ⟨rfl,h5⟩:=h5;simp only at h |-;have h5:=h3.tr h5;have ji:q2.sign 0=sign r2 0:=h5.1.sign 0
       by_cases hi:sign ts 0=eo
       ·rw [ae hi] at h uv |-
        by_cases eR:sign r2 0=eM
        ·rw [ae eR] at h |-;obtain ⟨te,CN,_⟩:=dM aw eR;have bW:=h5.1;rw [CN] at bW
         have bW:=h5.tr bW.next
         have hb:rs p.e f (.block (d+1)) r2.tail≠.error bb:=fun h0=>h (by rw [h0])
         rw [<-bW.2.2] at hb
         obtain ⟨b2,q3,h6,h7⟩:=C.block (d+1) r2.tail q2.next bW.1 hb
         rw [bW.2.2] at h7;refine ⟨one p.ck p.place [] [c,b,b2],q3,key _ _ fun g hg=>?_,?_⟩
         ·rw [mS,I];simp only;rw [h4 g hg];simp only;rw [ae ⟨uv,by rw [ji,eR]⟩,h6 g hg]
         ·cases qz:rs p.e f (.block (d+1)) r2.tail with
          | error x=>rw [qz] at h7;exact bW.tr (y:=.error x) h7
          | ok y=>obtain ⟨b3,r3⟩:=y;rw [qz] at h7;obtain ⟨rfl,h7⟩:=h7;exact ⟨by rw [uv,cX],bW.tr h7⟩
        ·rw [ab eR];refine ⟨one p.ck p.place [] [c,b],q2,key _ _ fun g hg=>?_,by rw [uv,cX],h5⟩;rw [mS,I];simp only;rw [h4 g hg];simp only;rw [ab (fun x=>eR (by rw [<-ji];exact x.2))]
       ·rw [ab hi] at uv |-;refine ⟨one p.ck p.place [] [c,b],q2,key _ _ fun g hg=>?_,by rw [uv,cX],h5⟩;rw [mS,I];simp only;rw [h4 g hg];simp only;rw [ab (by rw [uv];exact fun x=>absurd x.1 aw)]
     ·rw [show p.next.e=p.e from rfl] at F;rw [F] at h |-;have h3:=hn.tr (y:=.error x) h3;refine ⟨one p.ck p.place [] [c,one 14 (q.aP [41]).place [] []],q.aP [41],key _ _ fun g hg=>?_,h3⟩;rw [mS,I];simp only;rw [OW h3.err (by unfold KF at hg;omega)];simp only;rw [ab (by rw [l7 h3.err];exact fun x=>absurd x.2 aw)]
    rw [ab hc] at h |-
    have s9:¬ (p.sign 0=eo\/p.sign 0=dL):=by rw [ek];exact hc
    by_cases hr:sign ts 0=dy
    ·rw [ae hr];obtain ⟨tv,yS,_⟩:=dM aw hr;have hn:=hp;rw [yS] at hn
     have hn:=hn.next
     obtain ⟨t,q,I,F⟩:=A6 (d:=d+1) (b:=[59]) hn.1 aw;rw [show p.next.e=p.e from rfl] at F;refine ⟨one 11 p.place [] [t],q.aP [59],fun g hg=>?_,?_⟩
     ·obtain ⟨g,rfl,hg⟩:=up hg;rw [mS,ea];rw [ab (by rw [ek];exact hv),ab s9,ae (by rw [ek,hr]),I]
     ·rcases F with ⟨r,r',F,h3,h4⟩ | ⟨r,x,F,h3,h4⟩ | ⟨x,F,h4⟩
      ·rw [F];simp only;rw [h3];exact ⟨by rw [cX],hn.tr h4⟩
      ·rw [F];simp only;rw [h3];exact hn.tr (y:=.error x) h4
      ·rw [F];exact hn.tr (y:=.error x) h4
    rw [ab hr] at h |-
    have J5:¬ p.sign 0=dy:=by rw [ek];exact hr
    have J6:¬ p.sign 0=iv:=by rw [ek];exact hv
    have fy:=hp.oB
    cases ts with
    | nil =>
     have lK:¬ (p.code=0/\p.oB=true/\p.sign 1=[61]):=fun hx=>by have:=hx.2.1;rw [fy] at this;cases this
     rcases L5 (d:=d+1) hp with ⟨t,q,r,I,F,h3⟩ | ⟨t,q,x,I,F,h3⟩
     ·exact absurd F (O9 _ _ _ (fun k d out h=>by cases h) _ _)
     ·have lJ:¬ (t.n.kind=3/\t.n.at_=p.place/\q.sign 0=[61]):=by rw [l7 h3.err];exact fun x=>absurd x.2.2 aw
      refine ⟨one 12 p.place [] [t],q.aP [59],fun g hg=>?_,by unfold simple;rw [F,hY h3.err aw];exact h3⟩;obtain ⟨g,rfl,hg⟩:=up hg;rw [mS,ea];rw [ab J6,ab s9,ab J5,ab lK,I];simp only;rw [ab lJ]
    | cons a r0 =>
     simp only [simple] at h |-;simp only at fy
     by_cases eV:a.kind=2/\sign (a::r0) 1=[61]
     ·rw [ae eV];have lK:p.code=0/\p.oB=true/\p.sign 1=[61]:=⟨hp.code,by rw [fy];simpa using eV.1,by rw [We];exact eV.2⟩
      rcases H6 (d:=d+1) hp with ⟨t,q,I,⟨r,F,h3⟩ | ⟨x,F,h3⟩⟩
      ·rw [F];refine ⟨one 7 p.place p.name.1 [t],q.aP [59],fun g hg=>?_,by rw [cX];rfl,h3⟩;obtain ⟨g,rfl,hg⟩:=up hg;rw [mS,ea];rw [ab J6,ab s9,ab J5,ae lK,I]
      ·rw [F];refine ⟨one 7 p.place p.name.1 [t],q.aP [59],fun g hg=>?_,h3⟩;obtain ⟨g,rfl,hg⟩:=up hg;rw [mS,ea];rw [ab J6,ab s9,ab J5,ae lK,I]
     ·rw [ab eV]
      have lK:¬ (p.code=0/\p.oB=true/\p.sign 1=[61]):=fun hx=>eV ⟨by have:=hx.2.1;rw [fy] at this;simpa using this,by rw [<-We];exact hx.2.2⟩
      have LG:p.place=a.at_:=cX
      rcases L5 (d:=d+1) hp with ⟨t,q,r,I,F,h3⟩ | ⟨t,q,x,I,F,h3⟩
      ·rw [F];simp only;have ji:q.sign 0=sign r 0:=h3.1.sign 0
       by_cases hput:t.n.kind=3/\t.n.at_=a.at_/\sign r 0=[61]
       ·rw [ae hput]
        have lJ:t.n.kind=3/\t.n.at_=p.place/\q.sign 0=[61]:=by rw [LG,ji];exact hput
        obtain ⟨te,CN,_⟩:=dM aw hput.2.2;have hn:=h3.1;rw [CN] at hn
        have hn:=h3.tr hn.next
        obtain ⟨ix,yL⟩:=O8 _ _ _ _ _ _ (fun k d out hj=>by cases hj) F hput.1
        have kC:∀ jz,Go.Xp.inner p.e (d+1) [61] [59] jz=Go.Xp.inner p.e (d+1) [61] [59] jz:=fun _=>rfl
        have kF:Go.Xp.aP p.e [61] r=.ok r.tail:=by unfold Go.Xp.aP;rw [ae hput.2.2]
        obtain ⟨v,q2,h4,h5⟩:=A6 (d:=d+1) (b:=[59]) hn.1 aw;rw [hn.2.2] at h5;refine ⟨one 8 p.place t.n.s [ix,v],q2.aP [59],fun g hg=>?_,?_⟩
        ·obtain ⟨g,rfl,hg⟩:=up hg;rw [mS,ea];rw [ab J6,ab s9,ab J5,ab lK,I];simp only;rw [ae lJ,yL,h4]
        ·unfold Go.Xp.inner;rw [kF];simp only
         rcases h5 with ⟨r2,r',F,h3,h4⟩ | ⟨r2,x,F,h3,h4⟩ | ⟨x,F,h4⟩
         ·rw [F];simp only;rw [h3];exact ⟨by rw [LG,yL];rfl,hn.tr h4⟩
         ·rw [F];simp only;rw [h3];exact hn.tr (y:=.error x) h4
         ·rw [F];exact hn.tr (y:=.error x) h4
       ·rw [ab hput]
        have lJ:¬ (t.n.kind=3/\t.n.at_=p.place/\q.sign 0=[61]):=by rw [LG,ji];exact hput
        refine ⟨one 12 p.place [] [t],q.aP [59],fun g hg=>?_,?_⟩
        ·obtain ⟨g,rfl,hg⟩:=up hg;rw [mS,ea];rw [ab J6,ab s9,ab J5,ab lK,I];simp only;rw [ab lJ]
        ·rcases zS h3.1 (s:=[59]) aw with ⟨r',h4,h5⟩ | ⟨x,h4,h5⟩
         ·rw [h3.2.2] at h4;rw [h4];exact ⟨by rw [LG],h3.tr h5⟩
         ·rw [h3.2.2] at h4;rw [h4];exact h3.tr (y:=.error x) h5
      ·rw [F]
       have lJ:¬ (t.n.kind=3/\t.n.at_=p.place/\q.sign 0=[61]):=by rw [l7 h3.err];exact fun x=>absurd x.2.2 aw
       refine ⟨one 12 p.place [] [t],q.aP [59],fun g hg=>?_,by rw [hY h3.err aw];exact h3⟩;obtain ⟨g,rfl,hg⟩:=up hg;rw [mS,ea];rw [ab J6,ab s9,ab J5,ab lK,I];simp only;rw [ab lJ]
  ·rw [rs.body] at h |-;have ek:p.sign 0=sign ts 0:=hp.sign 0
   by_cases hb:sign ts 0=[125]
   ·rw [ae hb];have hm:=hp.aP (s:=[125]) aw;unfold Go.Xp.aP at hm;rw [ae hb] at hm;refine ⟨acc,p,fun g hg=>?_,rfl,hm⟩;obtain ⟨g,rfl,hg⟩:=up hg;rw [mB,ab (fun h0=>h0.2 (by rw [ek,hb]))]
   ·rw [ab hb] at h |-
    have hs:rs p.e f (.stmt d) ts≠.error bb:=fun h0=>h (by rw [h0])
    obtain ⟨a,q,I,F⟩:=C.stmt d ts p hp hs;have hc:p.code=0/\¬ p.sign 0=[125]:=⟨hp.code,by rw [ek];exact hb⟩
    cases he:rs p.e f (.stmt d) ts with
    | error x =>
     rw [he] at F h;refine ⟨acc++[a],q,fun g hg=>?_,by rw [hY (bN.err F) aw];exact F⟩;obtain ⟨g,rfl,hg⟩:=up hg;rw [mB,ae hc,I g aq];simp only;obtain ⟨g,rfl⟩:∃ g',g=g'+1:=⟨g - 1,by omega⟩;rw [mB,ab (fun h0=>bN.err F h0.1)]
    | ok y =>
     obtain ⟨a',r⟩:=y;rw [he] at F h;obtain ⟨rfl,F⟩:=F;simp only at h |-;rw [<-F.2.2] at h |-;obtain ⟨l,q3,h3,h4⟩:=C.body d (acc++[a]) r q F.1 h;refine ⟨l,q3,fun g hg=>?_,jI.tr F h4⟩;obtain ⟨g,rfl,hg⟩:=up hg;rw [mB,ae hc,I g aq];exact h3 g aq
end Go.Sp
namespace Go.Im
open Go.Xp Go.Sp
def tok (p:RS) (k:Nat):Tok:=match p.l[p.i+k]? with | some t=>t | none=>⟨0,0,[],p.e⟩
def is (p:RS) (k:Nat) (s:ah):Bool:=(tok p k).kind==3&&(tok p k).s==s
def kX (p:RS):RS:=p.fail 7 (tok p 0).at_
def want (p:RS) (s:ah):RS:=if p.code=0 then (if is p 0 s=true then p.next else kX p) else p
def bu (p:RS):RS:=if p.code=0 then (if (tok p 0).kind=2 then (if (tok p 0).s.length > 12 then p.fail 8 (tok p 0).at_ else p.next) else kX p) else p
def bT (p:RS) (d:Nat):RS:=if d > 60 then p.fail 9 (tok p 0).at_ else p
mutual
def iE:Nat->pA->RS->Option (T × RS)
 | 0,_,_=>none
 | f+1,.expr d,p=>if (bT p d).code=0 then iE f (.level 0 (d+1)) (bT p d) else some (T.zero,bT p d)
 | f+1,.level k d,p =>
  if k=9 then iE f (.operand d) p
  else match iE f (.level (k+1) d) p with
   | none=>none
   | some (out,p)=>iE f (.loop k d out) p
 | f+1,.loop k d out,p =>
  if p.code=0/\(tok p 0).kind=3/\(levels.getD k []).contains (tok p 0).s=true then
   match iE f (.level (k+1) d) p.next with
   | none=>none
   | some (b,q)=>iE f (.loop k d (one 6 (tok p 0).at_ (tok p 0).s [out,b])) q
  else some (out,p)
 | f+1,.operand d,p =>
  if (bT p d).code=0 then
   if is p 0 [45]=true\/is p 0 [33]=true\/is p 0 [126]=true then match iE f (.operand (d+1)) p.next with
    | none=>none
    | some (a,q)=>some (one 5 (tok p 0).at_ (tok p 0).s [a],q)
   else if (tok p 0).kind=1 then some (.mk ⟨1,(tok p 0).at_,(tok p 0).n,[],[]⟩ [],p.next)
   else if is p 0 [40]=true then match iE f (.expr (d+1)) p.next with
    | none=>none
    | some (a,q)=>some (a,want q [41])
   else if (bu p).code=0 then
    if is (bu p) 0 [91]=true then match iE f (.expr (d+1)) (bu p).next with
     | none=>none
     | some (a,q)=>some (one 3 (tok p 0).at_ (tok p 0).s [a],want q [93])
    else if is (bu p) 0 [40]=true then match iA f (d+1) [] (bu p).next with
     | none=>none
     | some (l,q)=>some (one 4 (tok p 0).at_ (tok p 0).s l,q)
    else some (one 2 (tok p 0).at_ (tok p 0).s [],bu p)
   else some (one 2 (tok p 0).at_ (tok p 0).s [],bu p)
  else some (T.zero,bT p d)
def iA:Nat->Nat->List T->RS->Option (List T × RS)
 | 0,_,_,_=>none
 | f+1,d,acc,p =>
  if p.code=0/\is p 0 [41]=false then match iE f (.expr d) (if acc.length=0 then p else want p [44]) with
   | none=>none
   | some (a,q)=>iA f d (acc++[a]) q
  else some (acc,want p [41])
end
section
variable {p q:RS} {ts r:List Tok}
theorem On.tok (h:On p ts) (k:Nat):tok p k=(match ts[k]? with | some t=>t | none=>⟨0,0,[],p.e⟩):=by unfold Im.tok;rw [h.at]
theorem On.rl (h:On p ts):(Im.tok p 0).at_=Go.Xp.place p.e ts:=by
 rw [On.tok h]
 cases ts with
 | nil=>rfl
 | cons t r=>rfl
theorem On.is (h:On p ts) (k:Nat) {s:ah} (hs:s≠[]):is p k s=decide (sign ts k=s):=by
 unfold Im.is
 have he:sign ts k=(if (Im.tok p k).kind=3 then (Im.tok p k).s else []):=by
  unfold Go.Xp.sign;rw [On.tok h]
  cases hk:ts[k]? with
  | none=>simp
  | some t=>rfl
 rw [he]
 by_cases h3:(Im.tok p k).kind=3
 ·rw [ae h3,Bool.eq_iff_iff];simp [h3]
 ·rw [ab h3,Bool.eq_iff_iff];simp [h3];exact hs
theorem gM (h:p.code≠0) (s:ah):want p s=p:=by unfold want;rw [ab h]
theorem Ct (h:p.code≠0) (d:Nat):bT p d=p:=by unfold bT;split <;> simp [uj h]
theorem OX (h:p.code≠0):bu p=p:=by unfold bu;rw [ab h]
theorem On.kX (h:On p ts):bN p (kX p) (.error (7,place p.e ts)):=by
 unfold Im.kX;rw [On.rl h];exact h.fail 7 _ aw
theorem On.want (h:On p ts) {s:ah} (hs:s≠[]):bN p (want p s) (Go.Xp.aP p.e s ts):=by
 unfold Im.want Go.Xp.aP;rw [ae h.code,On.is h 0 hs]
 by_cases h0:sign ts 0=s
 ·rw [ae (by simpa using h0),ae h0];obtain ⟨t,ht,_⟩:=dM hs h0;rw [ht] at h
  exact h.next
 ·rw [ab (by simpa using h0),ab h0];exact On.kX h
theorem mD (h:On p ts) {s:ah} (hs:s≠[]):(∃ r,Go.Xp.aP p.e s ts=.ok r/\bN p (Im.want p s) (.ok r))\/(∃ x,Go.Xp.aP p.e s ts=.error x/\bN p (Im.want p s) (.error x)):=by
 have h:=On.want h hs
 cases he:Go.Xp.aP p.e s ts with
 | ok r=>rw [he] at h;exact .inl ⟨r,rfl,h⟩
 | error x=>rw [he] at h;exact .inr ⟨x,rfl,h⟩
theorem uN (h:On p ts):(∃ r,Go.Xp.name p.e ts=.ok ((Im.tok p 0).s,r)/\bN p (Im.bu p) (.ok r))\/(∃ x,Go.Xp.name p.e ts=.error x/\bN p (Im.bu p) (.error x)):=by
 have ht:=On.tok h 0;have hw:=On.kX h;unfold Im.bu;rw [ae h.code]
 cases ts with
 | nil =>
  simp only [List.getElem?_nil] at ht;rw [ht];exact .inr ⟨_,rfl,by rw [ab (by simp)];exact hw⟩
 | cons t r =>
  simp only [getElem?_cons_zero] at ht;rw [ht];simp only [Go.Xp.name]
  by_cases F:t.kind=2
  ·rw [ae F,ae F]
   by_cases hl:t.s.length > 12
   ·rw [ae hl,ae hl];exact .inr ⟨_,rfl,h.fail 8 _ aw⟩
   ·rw [ab hl,ab hl];exact .inl ⟨r,rfl,h.next⟩
  ·rw [ab F,ab F];exact .inr ⟨_,rfl,hw⟩
theorem Hw (h:p.code≠0) {g d:Nat} (hg:1<=g):iE g (.expr d) p=some (T.zero,p):=by
 obtain ⟨g,rfl⟩:∃ g',g=g'+1:=⟨g - 1,by omega⟩;rw [iE,Ct h,ab h]
theorem Oq (h:p.code≠0) {g k d:Nat} {out:T} (hg:1<=g):iE g (.loop k d out) p=some (out,p):=by
 obtain ⟨g,rfl⟩:∃ g',g=g'+1:=⟨g - 1,by omega⟩;rw [iE,ab (fun h0=>h h0.1)]
end
structure IE (f:Nat):Prop where
 expr:∀ d ts p,On p ts->rd p.e f (.expr d) ts≠.error bb->∃ t q,(∀ g,f+2<=g->iE g (.expr d) p=some (t,q))/\jI p q t (rd p.e f (.expr d) ts)
 level:∀ k d ts p,k<=9->On p ts->rd p.e f (.level k d) ts≠.error bb->∃ t q,(∀ g,f+2<=g->iE g (.level k d) p=some (t,q))/\jI p q t (rd p.e f (.level k d) ts)
 loop:∀ k d out ts p,k < 9->On p ts->rd p.e f (.loop k d out) ts≠.error bb->∃ t q,(∀ g,f+2<=g->iE g (.loop k d out) p=some (t,q))/\jI p q t (rd p.e f (.loop k d out) ts)
 operand:∀ d ts p,On p ts->rd p.e f (.operand d) ts≠.error bb->∃ t q,(∀ g,f+2<=g->iE g (.operand d) p=some (t,q))/\jI p q t (rd p.e f (.operand d) ts)
 args:∀ d acc ts p,On p ts->rd.args p.e f d acc ts≠.error bb->∃ t q,(∀ g,f+2<=g->iA g d acc p=some (t,q))/\jI p q t (rd.args p.e f d acc ts)
theorem mA {f g:Nat} (h:f+1+2<=g):∃ g',g=g'+1/\f+2<=g':=⟨g - 1,by omega,by omega⟩
theorem ie (f:Nat):IE f:=by
 induction f with
 | zero =>
  refine ⟨fun d ts p _ h=>absurd ?_ h,fun k d ts p _ _ h=>absurd ?_ h,fun k d out ts p _ _ h=>absurd ?_ h,fun d ts p _ h=>absurd ?_ h,fun d acc ts p _ h=>absurd ?_ h⟩ <;> simp [rd,rd.args]
 | succ f C =>
  refine ⟨fun d ts p hp h=>?_,fun k d ts p hk hp h=>?_,fun k d out ts p hk hp h=>?_,fun d ts p hp h=>?_,fun d acc ts p hp h=>?_⟩
  ·rw [rd] at h |-
   by_cases hd:d > 60
   ·rw [ae hd] at h |-;have hf:=hp.fail 9 (tok p 0).at_ aw;refine ⟨T.zero,p.fail 9 (tok p 0).at_,fun g hg=>?_,by rw [<-On.rl hp];exact hf⟩;obtain ⟨g,rfl,hg⟩:=mA hg
    have gO:bT p d=p.fail 9 (tok p 0).at_:=by unfold bT;rw [ae hd]
    rw [iE,gO,ab hf.err]
   ·rw [ab hd] at h |-
    have gO:bT p d=p:=by unfold bT;rw [ab hd]
    obtain ⟨t,q,I,F⟩:=C.level 0 (d+1) ts p aq hp h;refine ⟨t,q,fun g hg=>?_,F⟩;obtain ⟨g,rfl,hg⟩:=mA hg;rw [iE,gO,ae hp.code];exact I g aq
  ·rw [rd] at h |-
   by_cases h9:k=9
   ·rw [ae h9] at h |-;obtain ⟨t,q,I,F⟩:=C.operand d ts p hp h;refine ⟨t,q,fun g hg=>?_,F⟩;obtain ⟨g,rfl,hg⟩:=mA hg;rw [iE,ae h9];exact I g aq
   ·rw [ab h9] at h |-
    cases he:rd p.e f (.level (k+1) d) ts with
    | error x =>
     rw [he] at h
     have hx:x≠bb:=fun h0=>h (by rw [h0])
     obtain ⟨t,q,I,F⟩:=C.level (k+1) d ts p aq hp (by rw [he];intro h0;cases h0;exact hx rfl);rw [he] at F;refine ⟨t,q,fun g hg=>?_,F⟩;obtain ⟨g,rfl,hg⟩:=mA hg;rw [iE,ab h9,I g aq];exact Oq (bN.err F) aq
    | ok r =>
     obtain ⟨t',r⟩:=r;rw [he] at h;simp only at h |-;obtain ⟨t,q,I,F⟩:=C.level (k+1) d ts p aq hp (by rw [he];intro h0;cases h0);rw [he] at F;obtain ⟨rfl,F⟩:=F;rw [<-F.2.2] at h |-;obtain ⟨t3,q3,h3,h4⟩:=C.loop k d t r q aq F.1 h;refine ⟨t3,q3,fun g hg=>?_,jI.tr F h4⟩;obtain ⟨g,rfl,hg⟩:=mA hg;rw [iE,ab h9,I g aq];exact h3 g aq
  ·cases ts with
   | nil =>
    rw [rd];refine ⟨out,p,fun g hg=>?_,rfl,hp.self⟩;obtain ⟨g,rfl,hg⟩:=mA hg;rw [iE,ab];rintro ⟨_,h0,_⟩;rw [On.tok hp] at h0;simp at h0
   | cons t r =>
    rw [rd] at h |-
    have ht:tok p 0=t:=by rw [On.tok hp];rfl
    by_cases hc:t.kind=3/\t.s∈levels.getD k []
    ·rw [ae hc] at h |-
     have hn:=hp.next
     have nW:p.code=0/\(tok p 0).kind=3/\(levels.getD k []).contains (tok p 0).s=true:=by rw [ht];exact ⟨hp.code,hc.1,by simpa using hc.2⟩
     rw [show p.e=p.next.e from rfl] at h |-
     cases he:rd p.next.e f (.level (k+1) d) r with
     | error x =>
      rw [he] at h
      have hx:x≠bb:=fun h0=>h (by rw [h0])
      obtain ⟨b,q,I,F⟩:=C.level (k+1) d r p.next aq hn.1 (by rw [he];intro h0;cases h0;exact hx rfl)
      rw [he] at F;refine ⟨one 6 t.at_ t.s [out,b],q,fun g hg=>?_,hn.tr (y:=.error x) F⟩;obtain ⟨g,rfl,hg⟩:=mA hg;rw [iE,ae nW,I g aq,ht];exact Oq (bN.err F) aq
     | ok x =>
      obtain ⟨b',r'⟩:=x;rw [he] at h;simp only at h |-
      obtain ⟨b,q,I,F⟩:=C.level (k+1) d r p.next aq hn.1 (by rw [he];intro h0;cases h0)
      rw [he] at F;obtain ⟨rfl,F⟩:=F;rw [<-F.2.2] at h |-;obtain ⟨t3,q3,h3,h4⟩:=C.loop k d (one 6 t.at_ t.s [out,b]) r' q hk F.1 h;refine ⟨t3,q3,fun g hg=>?_,jI.tr (hn.tr F) h4⟩;obtain ⟨g,rfl,hg⟩:=mA hg;rw [iE,ae nW,I g aq,ht];exact h3 g aq
    ·rw [ab hc];refine ⟨out,p,fun g hg=>?_,rfl,hp.self⟩;obtain ⟨g,rfl,hg⟩:=mA hg;rw [iE,ab];rw [ht];rintro ⟨_,h0,I⟩;exact hc ⟨h0,by simpa using I⟩
  ·rw [rd.eq_def] at h |-;simp only at h |-
   by_cases hd:d > 60
   ·rw [ae hd] at h |-;have hf:=hp.fail 9 (tok p 0).at_ aw;refine ⟨T.zero,p.fail 9 (tok p 0).at_,fun g hg=>?_,by rw [<-On.rl hp];exact hf⟩;obtain ⟨g,rfl,hg⟩:=mA hg
    have gO:bT p d=p.fail 9 (tok p 0).at_:=by unfold bT;rw [ae hd]
    rw [iE,gO,ab hf.err]
   ·rw [ab hd] at h |-
    have gO:bT p d=p:=by unfold bT;rw [ab hd]
    have hi:∀ s:ah,s≠[]->is p 0 s=decide (sign ts 0=s):=fun s hs=>On.is hp 0 hs
    cases ts with
    | nil =>
     simp only
     have ht:tok p 0=⟨0,0,[],p.e⟩:=by rw [On.tok hp];rfl
     have bX:∀ s:ah,s≠[]->is p 0 s=false:=fun s hs=>by rw [hi s hs];exact decide_eq_false (fun h=>hs h.symm)
     have CI:bu p=p.fail 7 p.e:=by unfold bu;rw [ae hp.code,ht,ab (by simp)];unfold kX;rw [ht]
     have hf:=hp.fail 7 p.e aw;refine ⟨one 2 p.e [] [],p.fail 7 p.e,fun g hg=>?_,hf⟩;obtain ⟨g,rfl,hg⟩:=mA hg;rw [iE,gO,ae hp.code,bX _ aw,bX _ aw,bX _ aw,ab aw,ab (by rw [ht];simp),bX _ aw,ab aw,CI,ab hf.err,ht]
    | cons t r =>
     simp only at h |-
     have ht:tok p 0=t:=by rw [On.tok hp];rfl
     have hn:=hp.next
     by_cases h3:t.kind=3
     ·rw [ae h3] at h |-
      have ek:sign (t::r) 0=t.s:=by simp only [sign,getElem?_cons_zero,br,h3,if_true]
      have CB:¬ t.kind=1:=by omega
      have pG:∀ s:ah,s≠[]->is p 0 s=decide (t.s=s):=fun s hs=>by rw [hi s hs,ek]
      by_cases hu:t.s=[45]\/t.s=[33]\/t.s=[126]
      ·rw [ae hu] at h |-
       have vn:is p 0 [45]=true\/is p 0 [33]=true\/is p 0 [126]=true:=by
        rw [pG _ aw,pG _ aw,pG _ aw];simpa using hu
       rw [show p.e=p.next.e from rfl] at h |-
       cases he:rd p.next.e f (.operand (d+1)) r with
       | error x =>
        rw [he] at h
        have hx:x≠bb:=fun h0=>h (by rw [h0])
        obtain ⟨b,q,I,F⟩:=C.operand (d+1) r p.next hn.1 (by rw [he];intro h0;cases h0;exact hx rfl)
        rw [he] at F;refine ⟨one 5 t.at_ t.s [b],q,fun g hg=>?_,hn.tr (y:=.error x) F⟩;obtain ⟨g,rfl,hg⟩:=mA hg;rw [iE,gO,ae hp.code,ae vn,I g aq,ht]
       | ok x =>
        obtain ⟨b',r'⟩:=x;rw [he] at h;simp only at h |-
        obtain ⟨b,q,I,F⟩:=C.operand (d+1) r p.next hn.1 (by rw [he];intro h0;cases h0)
        rw [he] at F;obtain ⟨rfl,F⟩:=F;refine ⟨one 5 t.at_ t.s [b],q,fun g hg=>?_,rfl,hn.tr F⟩;obtain ⟨g,rfl,hg⟩:=mA hg;rw [iE,gO,ae hp.code,ae vn,I g aq,ht]
      ·rw [ab hu] at h |-
       have vn:¬ (is p 0 [45]=true\/is p 0 [33]=true\/is p 0 [126]=true):=by
        rw [pG _ aw,pG _ aw,pG _ aw];simpa using hu
       by_cases hb:t.s=[40]
       ·rw [ae hb] at h |-
        have bo:is p 0 [40]=true:=by rw [pG _ aw];simpa using hb
        rw [show p.e=p.next.e from rfl] at h |-
        cases he:rd p.next.e f (.expr (d+1)) r with
        | error x =>
         rw [he] at h
         have hx:x≠bb:=fun h0=>h (by rw [h0])
         obtain ⟨b,q,I,F⟩:=C.expr (d+1) r p.next hn.1 (by rw [he];intro h0;cases h0;exact hx rfl)
         rw [he] at F;refine ⟨b,want q [41],fun g hg=>?_,?_⟩
         ·obtain ⟨g,rfl,hg⟩:=mA hg;rw [iE,gO,ae hp.code,ab vn,ab (by rw [ht];exact CB),ae bo,I g aq]
         ·rw [gM (bN.err F)];exact hn.tr (y:=.error x) F
        | ok x =>
         obtain ⟨b',r'⟩:=x;rw [he] at h;simp only at h |-
         obtain ⟨b,q,I,F⟩:=C.expr (d+1) r p.next hn.1 (by rw [he];intro h0;cases h0)
         rw [he] at F;obtain ⟨rfl,F⟩:=F;have aY:=(hn.tr F).tr (On.want F.1 (s:=[41]) aw);rw [F.2.2] at aY;refine ⟨b,want q [41],fun g hg=>?_,?_⟩
         ·obtain ⟨g,rfl,hg⟩:=mA hg;rw [iE,gO,ae hp.code,ab vn,ab (by rw [ht];exact CB),ae bo,I g aq]
         ·cases sD:aP p.next.e [41] r' with
          | error x=>rw [sD] at aY;exact aY
          | ok r2=>rw [sD] at aY;exact ⟨rfl,aY⟩
       ·rw [ab hb] at h |-
        have bo:¬ is p 0 [40]=true:=by rw [pG _ aw];simpa using hb
        have CI:bu p=p.fail 7 t.at_:=by unfold bu;rw [ae hp.code,ht,ab aq];unfold kX;rw [ht]
        have hf:=hp.fail 7 t.at_ aw;refine ⟨one 2 t.at_ t.s [],p.fail 7 t.at_,fun g hg=>?_,hf⟩;obtain ⟨g,rfl,hg⟩:=mA hg;rw [iE,gO,ae hp.code,ab vn,ab (by rw [ht];exact CB),ab bo,CI,ab hf.err,ht]
     ·rw [ab h3] at h |-
      have bX:∀ s:ah,s≠[]->is p 0 s=false:=fun s hs=>by unfold is;rw [ht];simp [h3]
      have vn:¬ (is p 0 [45]=true\/is p 0 [33]=true\/is p 0 [126]=true):=by rw [bX _ aw,bX _ aw,bX _ aw];decide
      by_cases I:t.kind=1
      ·rw [ae I];refine ⟨_,p.next,fun g hg=>?_,rfl,hn⟩;obtain ⟨g,rfl,hg⟩:=mA hg;rw [iE,gO,ae hp.code,ab vn,ae (by rw [ht];exact I),ht]
      ·rw [ab I] at h |-
       have c7:¬ (tok p 0).kind=1:=by rw [ht];exact I
       have bo:¬ is p 0 [40]=true:=by rw [bX _ aw];decide
       rcases uN hp with ⟨r',k1,k2⟩ | ⟨x,k1,k2⟩
       ·rw [k1] at h |-;simp only at h |-
        have td:∀ s:ah,s≠[]->is (bu p) 0 s=decide (sign r' 0=s):=fun s hs=>On.is k2.1 0 hs
        by_cases hb:sign r' 0=[91]
        ·rw [ae hb] at h |-
         have wh:is (bu p) 0 [91]=true:=by rw [td _ aw];simpa using hb
         obtain ⟨tb,CM,_⟩:=dM aw hb;have bW:=k2.1;rw [CM] at bW
         have bW:=k2.tr bW.next
         rw [<-bW.2.2] at h |-
         cases he:rd (bu p).next.e f (.expr (d+1)) r'.tail with
         | error x =>
          rw [he] at h
          have hx:x≠bb:=fun h0=>h (by rw [h0])
          obtain ⟨b,q,k3,k4⟩:=C.expr (d+1) r'.tail (bu p).next bW.1 (by rw [he];intro h0;cases h0;exact hx rfl)
          rw [he] at k4;refine ⟨one 3 t.at_ (tok p 0).s [b],want q [93],fun g hg=>?_,?_⟩
          ·obtain ⟨g,rfl,hg⟩:=mA hg;rw [iE,gO,ae hp.code,ab vn,ab c7,ab bo,ae k2.1.code,ae wh,k3 g aq];simp only [ht]
          ·rw [gM (bN.err k4)];exact bW.tr (y:=.error x) k4
         | ok x =>
          obtain ⟨b',r2⟩:=x;rw [he] at h;simp only at h |-
          obtain ⟨b,q,k3,k4⟩:=C.expr (d+1) r'.tail (bu p).next bW.1 (by rw [he];intro h0;cases h0)
          rw [he] at k4;obtain ⟨rfl,k4⟩:=k4;have aY:=(bW.tr k4).tr (On.want k4.1 (s:=[93]) aw);rw [k4.2.2] at aY;refine ⟨one 3 t.at_ (tok p 0).s [b],want q [93],fun g hg=>?_,?_⟩
          ·obtain ⟨g,rfl,hg⟩:=mA hg;rw [iE,gO,ae hp.code,ab vn,ab c7,ab bo,ae k2.1.code,ae wh,k3 g aq];simp only [ht]
          ·cases sD:aP (bu p).next.e [93] r2 with
           | error x=>rw [sD] at aY;exact aY
           | ok r3=>rw [sD] at aY;exact ⟨rfl,aY⟩
        ·rw [ab hb] at h |-
         have wh:¬ is (bu p) 0 [91]=true:=by rw [td _ aw];simpa using hb
         by_cases hc:sign r' 0=[40]
         ·rw [ae hc] at h |-
          have o9:is (bu p) 0 [40]=true:=by rw [td _ aw];simpa using hc
          obtain ⟨tb,CM,_⟩:=dM aw hc;have bW:=k2.1;rw [CM] at bW
          have bW:=k2.tr bW.next
          rw [<-bW.2.2] at h |-
          cases he:rd.args (bu p).next.e f (d+1) [] r'.tail with
          | error x =>
           rw [he] at h
           have hx:x≠bb:=fun h0=>h (by rw [h0])
           obtain ⟨b,q,k3,k4⟩:=C.args (d+1) [] r'.tail (bu p).next bW.1 (by rw [he];intro h0;cases h0;exact hx rfl)
           rw [he] at k4;refine ⟨one 4 t.at_ (tok p 0).s b,q,fun g hg=>?_,bW.tr (y:=.error x) k4⟩;obtain ⟨g,rfl,hg⟩:=mA hg;rw [iE,gO,ae hp.code,ab vn,ab c7,ab bo,ae k2.1.code,ab wh,ae o9,k3 g aq];simp only [ht]
          | ok x =>
           obtain ⟨b',r2⟩:=x;rw [he] at h
           obtain ⟨b,q,k3,k4⟩:=C.args (d+1) [] r'.tail (bu p).next bW.1 (by rw [he];intro h0;cases h0)
           rw [he] at k4;obtain ⟨rfl,k4⟩:=k4;refine ⟨one 4 t.at_ (tok p 0).s b,q,fun g hg=>?_,rfl,bW.tr k4⟩;obtain ⟨g,rfl,hg⟩:=mA hg;rw [iE,gO,ae hp.code,ab vn,ab c7,ab bo,ae k2.1.code,ab wh,ae o9,k3 g aq];simp only [ht]
         ·rw [ab hc] at h |-
          have o9:¬ is (bu p) 0 [40]=true:=by rw [td _ aw];simpa using hc
          refine ⟨one 2 t.at_ (tok p 0).s [],bu p,fun g hg=>?_,rfl,k2⟩;obtain ⟨g,rfl,hg⟩:=mA hg;rw [iE,gO,ae hp.code,ab vn,ab c7,ab bo,ae k2.1.code,ab wh,ab o9];simp only [ht]
       ·rw [k1] at h |-;refine ⟨one 2 t.at_ (tok p 0).s [],bu p,fun g hg=>?_,k2⟩;obtain ⟨g,rfl,hg⟩:=mA hg;rw [iE,gO,ae hp.code,ab vn,ab c7,ab bo,ab k2.err];simp only [ht]
  ·rw [rd.args] at h |-;have hi:is p 0 [41]=decide (sign ts 0=[41]):=On.is hp 0 aw
   by_cases hb:sign ts 0=[41]
   ·rw [ae hb];have hm:=On.want hp (s:=[41]) aw;unfold Go.Xp.aP at hm;rw [ae hb] at hm;refine ⟨acc,want p [41],fun g hg=>?_,rfl,hm⟩;obtain ⟨g,rfl,hg⟩:=mA hg;rw [iA,ab (fun h0=>by rw [hi] at h0;simp [hb] at h0)]
   ·rw [ab hb] at h |-;have nW:p.code=0/\is p 0 [41]=false:=⟨hp.code,by rw [hi];simpa using hb⟩;have key:∀ (p':RS) (jz:List Tok),bN p p' (.ok jz)->(if acc.length=0 then p else want p [44])=p'->(match rd p.e f (.expr d) jz with | .error x=>.error x | .ok (a,ts)=>rd.args p.e f d (acc++[a]) ts:Rd (List T))≠.error bb ->
      ∃ t q,(∀ g,f+1+2<=g->iA g d acc p=some (t,q))/\jI p q t (match rd p.e f (.expr d) jz with | .error x=>.error x | .ok (a,ts)=>rd.args p.e f d (acc++[a]) ts):=by
     intro p' jz hn Hd h;rw [<-hn.2.2] at h |-
     cases he:rd p'.e f (.expr d) jz with
     | error x =>
      rw [he] at h
      have hx:x≠bb:=fun h0=>h (by rw [h0])
      obtain ⟨b,q,k1,k2⟩:=C.expr d jz p' hn.1 (by rw [he];intro h0;cases h0;exact hx rfl);rw [he] at k2;refine ⟨acc++[b],q,fun g hg=>?_,hn.tr (y:=.error x) k2⟩;obtain ⟨g,rfl,hg⟩:=mA hg;rw [iA,ae nW,Hd,k1 g aq];simp only;obtain ⟨g,rfl⟩:∃ g',g=g'+1:=⟨g - 1,by omega⟩;rw [iA,ab (fun h0=>bN.err k2 h0.1),gM (bN.err k2)]
     | ok x =>
      obtain ⟨b',r'⟩:=x;rw [he] at h;simp only at h |-;obtain ⟨b,q,k1,k2⟩:=C.expr d jz p' hn.1 (by rw [he];intro h0;cases h0);rw [he] at k2;obtain ⟨rfl,k2⟩:=k2;rw [<-k2.2.2] at h |-;obtain ⟨t3,q3,h3,h4⟩:=C.args d (acc++[b]) r' q k2.1 h;refine ⟨t3,q3,fun g hg=>?_,jI.tr (hn.tr k2) h4⟩;obtain ⟨g,rfl,hg⟩:=mA hg;rw [iA,ae nW,Hd,k1 g aq];exact h3 g aq
    cases acc with
    | nil =>
     rw [ae rfl] at h |-;exact key p ts hp.self rfl h
    | cons a0 acc0 =>
     rw [ab (by simp)] at h |-
     rcases mD hp (s:=[44]) aw with ⟨r',k1,k2⟩ | ⟨x,k1,k2⟩
     ·rw [k1] at h |-;exact key _ r' k2 (ab (by simp)) h
     ·rw [k1];refine ⟨a0::acc0++[T.zero],want p [44],fun g hg=>?_,k2⟩;obtain ⟨g,rfl,hg⟩:=mA hg;rw [iA,ae nW,ab (by simp),Hw k2.err aq];simp only;obtain ⟨g,rfl⟩:∃ g',g=g'+1:=⟨g - 1,by omega⟩;rw [iA,ab (fun h0=>k2.err h0.1),gM k2.err]
end Go.Im
namespace Go.Xp
abbrev tZ (ts:List Tok):Prop:=ts.Pairwise fun a b=>a.at_ < b.at_
theorem xz {e:Int} {s:ah} {ts r:List Tok} (hs:s≠[]) (h:aP e s ts=.ok r):∃ u,ts=u::r/\u.kind=3/\u.s=s:=by
 obtain ⟨I,F⟩:=DX h;obtain ⟨t,h3,h4,h5⟩:=Go.Sp.dM hs F;exact ⟨t,by rw [I];exact h3,h4,h5⟩
theorem HJ {e:Int} {s:ah} {ts r:List Tok} (h:name e ts=.ok (s,r)):∃ u,ts=u::r/\u.kind=2/\u.s=s/\s.length<=12:=by
 cases ts with
 | nil=>cases h
 | cons t ts =>
  rw [name] at h;split at h
  ·split at h
   ·cases h
   ·cases h;exact ⟨t,rfl,by assumption,rfl,by omega⟩
  ·cases h
theorem uW {s:ah} {ts:List Tok} (hs:s≠[]) (h:sign ts 0=s):∃ u,ts=u::ts.tail/\u.kind=3/\u.s=s:=Go.Sp.dM hs h
def U9 (ts r:List Tok) (t:T):Prop:=∃ a pre,ts=a::(pre++r)/\(tZ ts->a.at_<=t.n.at_/\(t.n.kind=3->t.n.at_=a.at_->a.kind=2/\∃ WW w,a::pre=WW++[w]/\w.s=[93]))
def U5 (ts r:List Tok) (out t:T):Prop:=(t=out/\r=ts)\/(t.n.kind=6/\∃ pre,ts=pre++r/\∃ u∈ts,t.n.at_=u.at_)
theorem UC (e:Int):∀ f,(∀ j ts t r,(∀ k d out,j≠.loop k d out)->rd e f j ts=.ok (t,r)->U9 ts r t)/\(∀ k d out ts t r,rd e f (.loop k d out) ts=.ok (t,r)->U5 ts r out t)/\(∀ d acc ts l r,rd.args e f d acc ts=.ok (l,r)->∃ pre,ts=pre++r/\pre≠[]):=by
 intro f
 induction f with
 | zero=>exact ⟨fun j ts t r _ h=>by simp [rd] at h,fun k d out ts t r h=>by simp [rd] at h,fun d acc ts l r h=>by simp [rd.args] at h⟩
 | succ f ih =>
  obtain ⟨i1,i2,i3⟩:=ih;refine ⟨fun j ts t r hj h=>?_,fun k d out ts t r h=>?_,fun d acc ts l r h=>?_⟩
  ·rw [rd.eq_def] at h
   cases j with
   | expr d =>
    simp only at h;split at h
    ·cases h
    ·exact i1 _ _ _ _ (fun k d out h=>by cases h) h
   | level k d =>
    simp only at h;split at h
    ·exact i1 _ _ _ _ (fun k d out h=>by cases h) h
    ·split at h
     ·cases h
     ·rename_i out jz he;have I:=i1 _ _ _ _ (fun k d out h=>by cases h) he;have F:=i2 _ _ _ _ _ _ h
      rcases F with ⟨rfl,rfl⟩ | ⟨h3,D0,rfl,u,hu,h4⟩
      ·exact I
      ·obtain ⟨a,pre,rfl,h5⟩:=I;refine ⟨a,pre++D0,by simp,fun hs=>⟨?_,fun h6=>by omega⟩⟩;rw [h4];rw [tZ,List.pairwise_cons] at hs;exact Int.le_of_lt (hs.1 u (List.mem_append_right _ hu))
   | loop k d out=>exact absurd rfl (hj _ _ _)
   | operand d =>
    simp only at h;split at h
    ·cases h
    ·cases ts with
     | nil=>cases h
     | cons a r' =>
      simp only at h;split at h
      ·rename_i h3;split at h
       ·split at h
        ·cases h
        ·rename_i b r2 he;cases h;obtain ⟨a2,pre,rfl,_⟩:=i1 _ _ _ _ (fun k d out h=>by cases h) he;exact ⟨a,a2::pre,by simp,fun _=>⟨by simp [one,T.n],fun h=>by simp [one,T.n] at h⟩⟩
       ·split at h
        ·split at h
         ·cases h
         ·rename_i b r2 he;split at h
          ·cases h
          ·rename_i r3 hm;cases h;obtain ⟨a2,pre,rfl,h5⟩:=i1 _ _ _ _ (fun k d out h=>by cases h) he;obtain ⟨w,rfl,_,_⟩:=xz aw hm;refine ⟨a,a2::(pre++[w]),by simp,fun hs=>?_⟩;rw [tZ,List.pairwise_cons] at hs;have h6:=(h5 hs.2).1;have h7:=hs.1 a2 (by simp);exact ⟨by omega,fun _ h8=>by omega⟩
        ·cases h
      ·split at h
       ·cases h;exact ⟨a,[],rfl,fun _=>⟨Int.le_refl _,fun h=>by simp [T.n] at h⟩⟩
       ·split at h
        ·cases h
        ·rename_i s r2 hn;obtain ⟨u,hu,hk,_⟩:=HJ hn;cases hu;split at h
         ·rename_i hs;obtain ⟨w,hw,_,_⟩:=uW aw hs;split at h
          ·cases h
          ·rename_i b r3 he;split at h
           ·cases h
           ·rename_i r4 hm;cases h;obtain ⟨a2,pre,h4,h5⟩:=i1 _ _ _ _ (fun k d out h=>by cases h) he;obtain ⟨z,rfl,_,hz⟩:=xz aw hm;refine ⟨a,w::a2::(pre++[z]),by rw [hw,h4];simp,fun _=>⟨Int.le_refl _,fun _ _=>⟨hk,a::w::a2::pre,z,by simp,hz⟩⟩⟩
         ·split at h
          ·rename_i hs;obtain ⟨w,hw,_,_⟩:=uW aw hs;split at h
           ·cases h
           ·rename_i l r3 he;cases h;obtain ⟨pre,h4,_⟩:=i3 _ _ _ _ _ he;exact ⟨a,w::pre,by rw [hw,h4];simp,fun _=>⟨Int.le_refl _,fun h=>by simp [one,T.n] at h⟩⟩
          ·cases h;exact ⟨a,[],rfl,fun _=>⟨Int.le_refl _,fun h=>by simp [one,T.n] at h⟩⟩
  ·cases ts with
   | nil=>rw [rd] at h;cases h;exact .inl ⟨rfl,rfl⟩
   | cons a r' =>
    rw [rd] at h;split at h
    ·split at h
     ·cases h
     ·rename_i b r2 he;obtain ⟨a2,pre,rfl,_⟩:=i1 _ _ _ _ (fun k d out h=>by cases h) he
      rcases i2 _ _ _ _ _ _ h with ⟨rfl,rfl⟩ | ⟨h3,D0,rfl,u,hu,h4⟩
      ·exact .inr ⟨rfl,a::a2::pre,by simp,a,by simp,rfl⟩
      ·exact .inr ⟨h3,a::a2::(pre++D0),by simp,u,by simp at hu |-;rcases hu with h | h <;> simp [h],h4⟩
    ·cases h;exact .inl ⟨rfl,rfl⟩
  ·rw [rd.args] at h;split at h
   ·rename_i hs;obtain ⟨w,hw,_,_⟩:=uW aw hs;cases h;exact ⟨[w],by rw [hw];rfl,by simp⟩
   ·split at h
    ·cases h
    ·rename_i jz uF;split at h
     ·cases h
     ·rename_i a r' he;obtain ⟨a2,pre,h4,_⟩:=i1 _ _ _ _ (fun k d out h=>by cases h) he;obtain ⟨D0,h5,_⟩:=i3 _ _ _ _ _ h;split at uF
      ·cases uF;exact ⟨a2::(pre++D0),by rw [h4,h5];simp,by simp⟩
      ·obtain ⟨w,hw,_,_⟩:=xz aw uF;exact ⟨w::a2::(pre++D0),by rw [hw,h4,h5];simp,by simp⟩
theorem Nw {e:Int} {d:Nat} {ts r:List Tok} {t:T} (h:expr e d ts=.ok (t,r)):U9 ts r t:=(UC e _).1 _ _ _ _ (fun k d out h=>by cases h) h
end Go.Xp
namespace Go.Im
open Go.Xp Go.Sp
def vr (p:RS):ah:=match p.l[p.i - 1]? with | some t=>t.s | none=>[]
def xJ (p q:RS) (e:T):Prop:=e.n.kind=3/\q.code=0/\vr q=[93]/\e.n.at_=(tok p 0).at_/\(tok p 0).kind=2/\is q 0 [61]=true
instance (p q:RS) (e:T):Decidable (xJ p q e):=by unfold xJ;infer_instance
mutual
def iS:Nat->rH->RS->Option (T × RS)
 | 0,_,_=>none
 | f+1,.block d,p =>
  if (bT p d).code=0 then match iB f (d+1) [] (want p [123]) with
   | none=>none
   | some (l,q)=>some (one 14 (tok p 0).at_ [] l,want q [125])
  else some (one 14 (tok p 0).at_ [] [],bT p d)
 | f+1,.stmt d,p =>
  if (bT p d).code=0 then
   if is p 0 iv=true then match iE f (.expr (d+1)) (want (bu p.next) [61]) with
    | none=>none
    | some (e,q)=>some (one 13 (tok p 0).at_ (tok p.next 0).s [e],want q [59])
   else if is p 0 eo=true\/is p 0 dL=true then match iE f (.expr (d+1)) (want p.next [40]) with
    | none=>none
    | some (c,q)=>match iS f (.block (d+1)) (want q [41]) with
     | none=>none
     | some (b,q) =>
      if is p 0 eo=true/\q.code=0/\is q 0 eM=true then match iS f (.block (d+1)) q.next with
       | none=>none
       | some (b2,q)=>some (one 9 (tok p 0).at_ [] [c,b,b2],q)
      else some (one (if is p 0 eo=true then 9 else 10) (tok p 0).at_ [] [c,b],q)
   else if is p 0 dy=true then match iE f (.expr (d+1)) p.next with
    | none=>none
    | some (e,q)=>some (one 11 (tok p 0).at_ [] [e],want q [59])
   else if (tok p 0).kind=2/\is p 1 [61]=true then match iE f (.expr (d+1)) (want (bu p) [61]) with
    | none=>none
    | some (e,q)=>some (one 7 (tok p 0).at_ (tok p 0).s [e],want q [59])
   else match iE f (.expr (d+1)) p with
    | none=>none
    | some (e,q) =>
     if xJ p q e then match e.kids,iE f (.expr (d+1)) (want q [61]) with
      | a::_,some (v,q)=>some (one 8 (tok p 0).at_ e.n.s [a,v],want q [59])
      | _,_=>none
     else some (one 12 (tok p 0).at_ [] [e],want q [59])
  else some (T.zero,bT p d)
def iB:Nat->Nat->List T->RS->Option (List T × RS)
 | 0,_,_,_=>none
 | f+1,d,acc,p=>if p.code=0/\is p 0 [125]=false then match iS f (.stmt d) p with
   | none=>none
   | some (a,q)=>iB f d (acc++[a]) q
  else some (acc,p)
end
def KI (p:RS) (f:Nat):Nat:=f+20 * p.l.length+40
section
variable {p q:RS} {ts r:List Tok}
theorem LL {d g:Nat} (hp:On p ts) (hg:20 * p.l.length+20<=g):∃ t q,(∀ g,20 * p.l.length+20<=g->iE g (.expr d) p=some (t,q))/\((∃ r,expr p.e d ts=.ok (t,r)/\bN p q (.ok r))\/(∃ x,expr p.e d ts=.error x/\bN p q (.error x))):=by
 have hl:ts.length<=p.l.length:=by rw [<-hp.rest,iM];omega
 have hf:rd p.e (20 * ts.length+12) (.expr d) ts≠.error bb:=zV (j:=.expr d) trivial (aH _);obtain ⟨t,q,I,F⟩:=(ie _).expr d ts p hp hf;rw [DE (aH _)] at F;refine ⟨t,q,fun g hg=>I g aq,?_⟩
 cases he:expr p.e d ts with
 | error x=>rw [he] at F;exact .inr ⟨x,rfl,F⟩
 | ok y=>obtain ⟨t',r⟩:=y;rw [he] at F;obtain ⟨rfl,F⟩:=F;exact .inl ⟨r,rfl,F⟩
theorem LK {d:Nat} {b:ah} (hp:On p ts) (hb:b≠[]):∃ t q,(∀ g,20 * p.l.length+20<=g->iE g (.expr d) p=some (t,q))/\((∃ r r',expr p.e d ts=.ok (t,r)/\Go.Xp.aP p.e b r=.ok r'/\bN p (want q b) (.ok r'))\/(∃ r x,expr p.e d ts=.ok (t,r)/\Go.Xp.aP p.e b r=.error x/\bN p (want q b) (.error x))\/(∃ x,expr p.e d ts=.error x/\bN p (want q b) (.error x))):=by
 obtain ⟨t,q,I,F⟩:=LL (d:=d) hp (aH _);refine ⟨t,q,I,?_⟩
 rcases F with ⟨r,F,h3⟩ | ⟨x,F,h3⟩
 ·rcases mD h3.1 hb with ⟨r',h4,h5⟩ | ⟨x,h4,h5⟩
  ·rw [h3.2.2] at h4;exact .inl ⟨r,r',F,h4,h3.tr h5⟩
  ·rw [h3.2.2] at h4;exact .inr (.inl ⟨r,x,F,h4,h3.tr h5⟩)
 ·exact .inr (.inr ⟨x,F,by rw [gM h3.err];exact h3⟩)
theorem Oo {d:Nat} {a b:ah} (hp:On p ts) (ha:a≠[]) (hb:b≠[]):∃ t q,(∀ g,20 * p.l.length+20<=g->iE g (.expr d) (want p a)=some (t,q))/\((∃ r,inner p.e d a b ts=.ok (t,r)/\bN p (want q b) (.ok r))\/∃ x,inner p.e d a b ts=.error x/\bN p (want q b) (.error x)):=by
 unfold Go.Xp.inner
 rcases mD hp ha with ⟨r,I,F⟩ | ⟨x,I,F⟩
 ·rw [I];obtain ⟨t,q,h3,h4⟩:=LK (d:=d) (b:=b) F.1 hb;rw [F.2.2] at h4;rw [F.2.1] at h3;refine ⟨t,q,h3,?_⟩;simp only
  rcases h4 with ⟨r,r',k1,k2,k3⟩ | ⟨r,x,k1,k2,k3⟩ | ⟨x,k1,k3⟩
  ·rw [k1];simp only;rw [k2];exact .inl ⟨r',rfl,F.tr k3⟩
  ·rw [k1];simp only;rw [k2];exact .inr ⟨x,rfl,F.tr (y:=.error x) k3⟩
  ·rw [k1];exact .inr ⟨x,rfl,F.tr (y:=.error x) k3⟩
 ·rw [I];exact ⟨T.zero,want p a,fun g hg=>Hw F.err aq,.inr ⟨x,rfl,by rw [gM F.err];exact F⟩⟩
theorem Ox {d:Nat} (hp:On p ts):∃ t q,(∀ g,20 * p.l.length+20<=g->iE g (.expr d) (want (bu p) [61])=some (t,q))/\((∃ r,lR p.e d ts=.ok (((tok p 0).s,t),r)/\bN p (want q [59]) (.ok r))\/∃ x,lR p.e d ts=.error x/\bN p (want q [59]) (.error x)):=by
 unfold Go.Xp.lR
 rcases uN hp with ⟨r,I,F⟩ | ⟨x,I,F⟩
 ·rw [I];obtain ⟨t,q,h3,h4⟩:=Oo (d:=d) (a:=[61]) (b:=[59]) F.1 aw aw;rw [F.2.2] at h4;rw [F.2.1] at h3;refine ⟨t,q,h3,?_⟩;simp only
  rcases h4 with ⟨r,k1,k3⟩ | ⟨x,k1,k3⟩
  ·rw [k1];exact .inl ⟨r,rfl,F.tr k3⟩
  ·rw [k1];exact .inr ⟨x,rfl,F.tr (y:=.error x) k3⟩
 ·rw [I];refine ⟨T.zero,bu p,fun g hg=>by rw [gM F.err];exact Hw F.err aq,.inr ⟨x,rfl,by rw [gM F.err];exact F⟩⟩
theorem QF (h:p.code≠0) {g d:Nat} (hg:1<=g):iS g (.block d) p=some (one 14 (tok p 0).at_ [] [],p):=by
 obtain ⟨g,rfl⟩:∃ g',g=g'+1:=⟨g - 1,by omega⟩;rw [iS,Ct h,ab h]
theorem On.srt (h:On p ts) (hs:tZ p.l):tZ ts:=by rw [<-h.rest];exact hs.drop
theorem On.last (h:On p ts) {pre r:List Tok} {w:Tok} (hq:bN p q (.ok r)) (ht:ts=(pre++[w])++r):vr q=w.s:=by
 have I:p.l=p.l.take p.i++(pre++w::r):=by
  have:=List.take_append_drop p.i p.l;rw [h.rest,ht] at this;simp only [iw,List.singleton_append,cons_append,nil_append] at this;exact this.symm
 have hr:=congrArg List.length hq.1.rest;have hl:=congrArg List.length I;have hle:=hq.1.le;have cX:=h.le;rw [hq.2.1] at hr hle;simp only [iM,aZ,length_cons,fV] at hr hl;unfold vr;rw [hq.2.1,I,nk (by rw [fV];omega),nk (by rw [fV];omega)]
 have:q.i - 1 - (p.l.take p.i).length - pre.length=0:=by rw [fV];omega
 rw [this];rfl
end
structure IS' (f:Nat):Prop where
 block:∀ d ts p,On p ts->tZ p.l->rs p.e f (.block d) ts≠.error bb->∃ t q,(∀ g,KI p f<=g->iS g (.block d) p=some (t,q))/\jI p q t (rs p.e f (.block d) ts)
 stmt:∀ d ts p,On p ts->tZ p.l->rs p.e f (.stmt d) ts≠.error bb->∃ t q,(∀ g,KI p f<=g->iS g (.stmt d) p=some (t,q))/\jI p q t (rs p.e f (.stmt d) ts)
 body:∀ d acc ts p,On p ts->tZ p.l->rs.body p.e f d acc ts≠.error bb->∃ t q,(∀ g,KI p f<=g->iB g d acc p=some (t,q))/\jI p (want q [125]) t (rs.body p.e f d acc ts)
theorem pQ {p:RS} {f g:Nat} (h:KI p (f+1)<=g):∃ g',g=g'+1/\KI p f<=g'/\20 * p.l.length+20<=g':=⟨g - 1,by unfold KI at h;omega,by unfold KI at *;omega,by unfold KI at h;omega⟩
theorem FP {p q:RS} (h:q.l=p.l) (f:Nat):KI q f=KI p f:=by unfold KI;rw [h]
theorem is_ (f:Nat):IS' f:=by
 induction f with
 | zero=>exact ⟨fun d ts p _ _ h=>absurd (by simp [rs]) h,fun d ts p _ _ h=>absurd (by simp [rs]) h,fun d acc ts p _ _ h=>absurd (by simp [rs.body]) h⟩
 | succ f C =>
  refine ⟨fun d ts p hp hs h=>?_,fun d ts p hp hs h=>?_,fun d acc ts p hp hs h=>?_⟩
  ·rw [rs] at h |-;have cX:=On.rl hp
   by_cases hd:d > 60
   ·rw [ae hd] at h |-;have hf:=hp.fail 9 (tok p 0).at_ aw;refine ⟨one 14 (tok p 0).at_ [] [],p.fail 9 (tok p 0).at_,fun g hg=>?_,by rw [<-cX];exact hf⟩;obtain ⟨g,rfl,mb,ik⟩:=pQ hg
    have gO:bT p d=p.fail 9 (tok p 0).at_:=by unfold bT;rw [ae hd]
    rw [iS,gO,ab hf.err]
   ·rw [ab hd] at h |-
    have gO:bT p d=p:=by unfold bT;rw [ab hd]
    rcases mD hp (s:=[123]) aw with ⟨r,I,F⟩ | ⟨x,I,F⟩
    ·rw [I] at h |-;simp only at h |-
     have hb:rs.body p.e f (d+1) [] r≠.error bb:=fun h0=>h (by rw [h0])
     rw [<-F.2.2] at hb;obtain ⟨l,q,h3,h4⟩:=C.body (d+1) [] r (want p [123]) F.1 (by rw [F.2.1];exact hs) hb;rw [F.2.2] at h4;rw [FP F.2.1] at h3;refine ⟨one 14 (tok p 0).at_ [] l,want q [125],fun g hg=>?_,?_⟩
     ·obtain ⟨g,rfl,mb,ik⟩:=pQ hg;rw [iS,gO,ae hp.code,h3 g aq]
     ·cases he:rs.body p.e f (d+1) [] r with
      | error x=>rw [he] at h4;exact F.tr (y:=.error x) h4
      | ok y=>obtain ⟨l',r'⟩:=y;rw [he] at h4;obtain ⟨rfl,h4⟩:=h4;rw [cX];exact ⟨rfl,F.tr h4⟩
    ·rw [I] at h |-;refine ⟨one 14 (tok p 0).at_ [] [],want p [123],fun g hg=>?_,F⟩;obtain ⟨g,rfl,mb,ik⟩:=pQ hg;rw [iS,gO,ae hp.code];obtain ⟨g,rfl⟩:∃ g',g=g'+1:=⟨g - 1,by omega⟩;rw [iB,ab (fun h0=>F.err h0.1)];simp only;rw [gM F.err]
  ·rw [rs] at h |-;have cX:=On.rl hp
   by_cases hd:d > 60
   ·rw [ae hd] at h |-;have hf:=hp.fail 9 (tok p 0).at_ aw;refine ⟨T.zero,p.fail 9 (tok p 0).at_,fun g hg=>?_,by rw [<-cX];exact hf⟩;obtain ⟨g,rfl,mb,ik⟩:=pQ hg
    have gO:bT p d=p.fail 9 (tok p 0).at_:=by unfold bT;rw [ae hd]
    rw [iS,gO,ab hf.err]
   ·rw [ab hd] at h |-
    have gO:bT p d=p:=by unfold bT;rw [ab hd]
    have hi:∀ s:ah,s≠[]->is p 0 s=decide (sign ts 0=s):=fun s hs=>On.is hp 0 hs
    have AB:is p 1 [61]=decide (sign ts 1=[61]):=On.is hp 1 aw;simp only at h |-
    by_cases hv:sign ts 0=iv
    ·rw [ae hv]
     have uG:is p 0 iv=true:=by rw [hi _ aw];simpa using hv
     obtain ⟨tv,yS,_⟩:=dM aw hv;have hn:=hp;rw [yS] at hn
     have hn:=hn.next
     rw [show p.e=p.next.e from rfl];obtain ⟨t,q,I,F⟩:=Ox (d:=d+1) hn.1
     rcases F with ⟨r,F,h3⟩ | ⟨x,F,h3⟩
     ·rw [F];refine ⟨one 13 (tok p 0).at_ (tok p.next 0).s [t],want q [59],fun g hg=>?_,by rw [cX];rfl,hn.tr h3⟩;obtain ⟨g,rfl,mb,ik⟩:=pQ hg;rw [iS,gO,ae hp.code,ae uG,I g ik]
     ·rw [F];refine ⟨one 13 (tok p 0).at_ (tok p.next 0).s [t],want q [59],fun g hg=>?_,hn.tr (y:=.error x) h3⟩;obtain ⟨g,rfl,mb,ik⟩:=pQ hg;rw [iS,gO,ae hp.code,ae uG,I g ik]
    rw [ab hv] at h |-
    have uG:¬ is p 0 iv=true:=by rw [hi _ aw];simpa using hv
    by_cases hc:sign ts 0=eo\/sign ts 0=dL
    ·rw [ae hc] at h |-
     have o9:is p 0 eo=true\/is p 0 dL=true:=by rw [hi _ aw,hi _ aw];simpa using hc
     obtain ⟨tv,yS⟩:∃ t,ts=t::ts.tail:=by
      rcases hc with hc | hc
      ·obtain ⟨t,I,_⟩:=dM aw hc;exact ⟨t,I⟩
      ·obtain ⟨t,I,_⟩:=dM aw hc;exact ⟨t,I⟩
     have hn:=hp;rw [yS] at hn
     have hn:=hn.next
     have uv:(if is p 0 eo=true then (9:Int) else 10)=if sign ts 0=eo then 9 else 10:=by rw [hi _ aw];simp
     obtain ⟨c,q,I,F⟩:=Oo (d:=d+1) (a:=[40]) (b:=[41]) hn.1 aw aw
     rcases F with ⟨r,F,h3⟩ | ⟨x,F,h3⟩
     ·rw [show p.next.e=p.e from rfl] at F;rw [F] at h |-;simp only at h |-;have h3:=hn.tr h3
      have hb:rs p.e f (.block (d+1)) r≠.error bb:=fun h0=>h (by rw [h0])
      rw [<-h3.2.2] at hb;obtain ⟨b,q2,h4,h5⟩:=C.block (d+1) r (want q [41]) h3.1 (by rw [h3.2.1];exact hs) hb;rw [h3.2.2] at h5;rw [FP h3.2.1] at h4
      cases he:rs p.e f (.block (d+1)) r with
      | error x =>
       rw [he] at h5;refine ⟨one (if is p 0 eo=true then 9 else 10) (tok p 0).at_ [] [c,b],q2,fun g hg=>?_,h3.tr (y:=.error x) h5⟩;obtain ⟨g,rfl,mb,ik⟩:=pQ hg;rw [iS,gO,ae hp.code,ab uG,ae o9,I g ik];simp only;rw [h4 g mb];simp only;rw [ab (fun h0=>bN.err h5 h0.2.1)]
      | ok y =>
       obtain ⟨b',r2⟩:=y;rw [he] at h5 h;obtain ⟨rfl,h5⟩:=h5;simp only at h |-;have h5:=h3.tr h5;have ji:is q2 0 eM=decide (sign r2 0=eM):=On.is h5.1 0 aw
       by_cases Hd:sign ts 0=eo
       ·rw [ae Hd] at h uv |-
        have Qy:is p 0 eo=true:=by rw [hi _ aw];simpa using Hd
        by_cases eR:sign r2 0=eM
        ·rw [ae eR] at h |-;obtain ⟨te,CN,_⟩:=dM aw eR;have bW:=h5.1;rw [CN] at bW
         have bW:=h5.tr bW.next
         have hb:rs p.e f (.block (d+1)) r2.tail≠.error bb:=fun h0=>h (by rw [h0])
         rw [<-bW.2.2] at hb
         obtain ⟨b2,q3,h6,h7⟩:=C.block (d+1) r2.tail q2.next bW.1 (by rw [bW.2.1];exact hs) hb
         rw [bW.2.2] at h7;rw [FP bW.2.1] at h6;refine ⟨one 9 (tok p 0).at_ [] [c,b,b2],q3,fun g hg=>?_,?_⟩
         ·obtain ⟨g,rfl,mb,ik⟩:=pQ hg;rw [iS,gO,ae hp.code,ab uG,ae o9,I g ik];simp only;rw [h4 g mb];simp only;rw [ae ⟨Qy,h5.1.code,by rw [ji];simpa using eR⟩,h6 g mb]
         ·cases qz:rs p.e f (.block (d+1)) r2.tail with
          | error x=>rw [qz] at h7;exact bW.tr (y:=.error x) h7
          | ok y=>obtain ⟨b3,r3⟩:=y;rw [qz] at h7;obtain ⟨rfl,h7⟩:=h7;exact ⟨by rw [cX],bW.tr h7⟩
        ·rw [ab eR];refine ⟨one (if is p 0 eo=true then 9 else 10) (tok p 0).at_ [] [c,b],q2,fun g hg=>?_,by rw [uv,cX],h5⟩;obtain ⟨g,rfl,mb,ik⟩:=pQ hg;rw [iS,gO,ae hp.code,ab uG,ae o9,I g ik];simp only;rw [h4 g mb];simp only;rw [ab (fun h0=>by have:=h0.2.2;rw [ji] at this;exact eR (by simpa using this))]
       ·rw [ab Hd] at uv |-
        have Qy:¬ is p 0 eo=true:=by rw [hi _ aw];simpa using Hd
        refine ⟨one (if is p 0 eo=true then 9 else 10) (tok p 0).at_ [] [c,b],q2,fun g hg=>?_,by rw [uv,cX],h5⟩;obtain ⟨g,rfl,mb,ik⟩:=pQ hg;rw [iS,gO,ae hp.code,ab uG,ae o9,I g ik];simp only;rw [h4 g mb];simp only;rw [ab (fun h0=>Qy h0.1)]
     ·rw [show p.next.e=p.e from rfl] at F;rw [F] at h |-;have h3:=hn.tr (y:=.error x) h3;refine ⟨one (if is p 0 eo=true then 9 else 10) (tok p 0).at_ [] [c,one 14 (tok (want q [41]) 0).at_ [] []],want q [41],fun g hg=>?_,h3⟩;obtain ⟨g,rfl,mb,ik⟩:=pQ hg;rw [iS,gO,ae hp.code,ab uG,ae o9,I g ik];simp only;rw [QF h3.err aq];simp only;rw [ab (fun h0=>h3.err h0.2.1)]
    rw [ab hc] at h |-
    have o9:¬ (is p 0 eo=true\/is p 0 dL=true):=by rw [hi _ aw,hi _ aw];simpa using hc
    by_cases hr:sign ts 0=dy
    ·rw [ae hr]
     have uD:is p 0 dy=true:=by rw [hi _ aw];simpa using hr
     obtain ⟨tv,yS,_⟩:=dM aw hr;have hn:=hp;rw [yS] at hn
     have hn:=hn.next
     obtain ⟨t,q,I,F⟩:=LK (d:=d+1) (b:=[59]) hn.1 aw;rw [show p.next.e=p.e from rfl] at F;refine ⟨one 11 (tok p 0).at_ [] [t],want q [59],fun g hg=>?_,?_⟩
     ·obtain ⟨g,rfl,mb,ik⟩:=pQ hg;rw [iS,gO,ae hp.code,ab uG,ab o9,ae uD,I g ik]
     ·rcases F with ⟨r,r',F,h3,h4⟩ | ⟨r,x,F,h3,h4⟩ | ⟨x,F,h4⟩
      ·rw [F];simp only;rw [h3];exact ⟨by rw [cX],hn.tr h4⟩
      ·rw [F];simp only;rw [h3];exact hn.tr (y:=.error x) h4
      ·rw [F];exact hn.tr (y:=.error x) h4
    rw [ab hr] at h |-
    have uD:¬ is p 0 dy=true:=by rw [hi _ aw];simpa using hr
    cases ts with
    | nil =>
     have ht:tok p 0=⟨0,0,[],p.e⟩:=by rw [On.tok hp];rfl
     have lK:¬ ((tok p 0).kind=2/\is p 1 [61]=true):=fun hx=>by have:=hx.1;rw [ht] at this;simp at this
     obtain ⟨t,q,I,F⟩:=LL (d:=d+1) hp (aH _)
     rcases F with ⟨r,F,h3⟩ | ⟨x,F,h3⟩
     ·exact absurd F (O9 _ _ _ (fun k d out h=>by cases h) _ _)
     ·have lJ:¬ xJ p q t:=fun h0=>h3.err h0.2.1
      refine ⟨one 12 (tok p 0).at_ [] [t],want q [59],fun g hg=>?_,by unfold simple;rw [F,gM h3.err];exact h3⟩;obtain ⟨g,rfl,mb,ik⟩:=pQ hg;rw [iS,gO,ae hp.code,ab uG,ab o9,ab uD,ab lK,I g ik];simp only;rw [ab lJ]
    | cons a r0 =>
     simp only [simple] at h |-
     have ht:tok p 0=a:=by rw [On.tok hp];rfl
     by_cases eV:a.kind=2/\sign (a::r0) 1=[61]
     ·rw [ae eV];have lK:(tok p 0).kind=2/\is p 1 [61]=true:=⟨by rw [ht];exact eV.1,by rw [AB];simpa using eV.2⟩;obtain ⟨t,q,I,F⟩:=Ox (d:=d+1) hp
      rcases F with ⟨r,F,h3⟩ | ⟨x,F,h3⟩
      ·rw [F];refine ⟨one 7 (tok p 0).at_ (tok p 0).s [t],want q [59],fun g hg=>?_,by rw [cX];rfl,h3⟩;obtain ⟨g,rfl,mb,ik⟩:=pQ hg;rw [iS,gO,ae hp.code,ab uG,ab o9,ab uD,ae lK,I g ik]
      ·rw [F];refine ⟨one 7 (tok p 0).at_ (tok p 0).s [t],want q [59],fun g hg=>?_,h3⟩;obtain ⟨g,rfl,mb,ik⟩:=pQ hg;rw [iS,gO,ae hp.code,ab uG,ab o9,ab uD,ae lK,I g ik]
     ·rw [ab eV]
      have lK:¬ ((tok p 0).kind=2/\is p 1 [61]=true):=fun hx=>eV ⟨by rw [<-ht];exact hx.1,by have:=hx.2;rw [AB] at this;simpa using this⟩
      obtain ⟨t,q,I,F⟩:=LL (d:=d+1) hp (aH _)
      rcases F with ⟨r,F,h3⟩ | ⟨x,F,h3⟩
      ·rw [F];simp only;have ji:is q 0 [61]=decide (sign r 0=[61]):=On.is h3.1 0 aw
       by_cases hput:t.n.kind=3/\t.n.at_=a.at_/\sign r 0=[61]
       ·rw [ae hput];obtain ⟨a',pre,SO,SP⟩:=Nw F;cases SO;obtain ⟨sB,WW,w,Hs,pK⟩:=(SP (On.srt hp hs)).2 hput.1 hput.2.1
        have XW:vr q=[93]:=by rw [<-pK];exact On.last hp h3 (by rw [<-Hs];rfl)
        have lJ:xJ p q t:=⟨hput.1,h3.1.code,XW,by rw [ht];exact hput.2.1,by rw [ht];exact sB,by rw [ji];simpa using hput.2.2⟩;obtain ⟨ix,yL⟩:=O8 _ _ _ _ _ _ (fun k d out hj=>by cases hj) F hput.1
        have kF:Go.Xp.aP p.e [61] r=.ok r.tail:=by unfold Go.Xp.aP;rw [ae hput.2.2]
        have Zh:=On.want h3.1 (s:=[61]) aw;rw [h3.2.2,kF] at Zh;have hn:=h3.tr Zh;obtain ⟨v,q2,h4,h5⟩:=LK (d:=d+1) (b:=[59]) hn.1 aw;rw [hn.2.2] at h5;rw [hn.2.1] at h4;refine ⟨one 8 (tok p 0).at_ t.n.s [ix,v],want q2 [59],fun g hg=>?_,?_⟩
        ·obtain ⟨g,rfl,mb,ik⟩:=pQ hg;rw [iS,gO,ae hp.code,ab uG,ab o9,ab uD,ab lK,I g ik];simp only;rw [ae lJ,yL,h4 g ik]
        ·unfold Go.Xp.inner;rw [kF];simp only
         rcases h5 with ⟨r2,r',F,h3,h4⟩ | ⟨r2,x,F,h3,h4⟩ | ⟨x,F,h4⟩
         ·rw [F];simp only;rw [h3];exact ⟨by rw [ht,yL];rfl,hn.tr h4⟩
         ·rw [F];simp only;rw [h3];exact hn.tr (y:=.error x) h4
         ·rw [F];exact hn.tr (y:=.error x) h4
       ·rw [ab hput]
        have lJ:¬ xJ p q t:=fun h0=>hput ⟨h0.1,by rw [<-ht];exact h0.2.2.2.1,by have:=h0.2.2.2.2.2;rw [ji] at this;simpa using this⟩
        refine ⟨one 12 (tok p 0).at_ [] [t],want q [59],fun g hg=>?_,?_⟩
        ·obtain ⟨g,rfl,mb,ik⟩:=pQ hg;rw [iS,gO,ae hp.code,ab uG,ab o9,ab uD,ab lK,I g ik];simp only;rw [ab lJ]
        ·rcases mD h3.1 (s:=[59]) aw with ⟨r',h4,h5⟩ | ⟨x,h4,h5⟩
         ·rw [h3.2.2] at h4;rw [h4];exact ⟨by rw [ht],h3.tr h5⟩
         ·rw [h3.2.2] at h4;rw [h4];exact h3.tr (y:=.error x) h5
      ·rw [F]
       have lJ:¬ xJ p q t:=fun h0=>h3.err h0.2.1
       refine ⟨one 12 (tok p 0).at_ [] [t],want q [59],fun g hg=>?_,by rw [gM h3.err];exact h3⟩;obtain ⟨g,rfl,mb,ik⟩:=pQ hg;rw [iS,gO,ae hp.code,ab uG,ab o9,ab uD,ab lK,I g ik];simp only;rw [ab lJ]
  ·rw [rs.body] at h |-;have hi:is p 0 [125]=decide (sign ts 0=[125]):=On.is hp 0 aw
   by_cases hb:sign ts 0=[125]
   ·rw [ae hb];have hm:=On.want hp (s:=[125]) aw;unfold Go.Xp.aP at hm;rw [ae hb] at hm;refine ⟨acc,p,fun g hg=>?_,rfl,hm⟩;obtain ⟨g,rfl,mb,ik⟩:=pQ hg;rw [iB,ab (fun h0=>by have:=h0.2;rw [hi] at this;simp [hb] at this)]
   ·rw [ab hb] at h |-
    have bI:rs p.e f (.stmt d) ts≠.error bb:=fun h0=>h (by rw [h0])
    obtain ⟨a,q,I,F⟩:=C.stmt d ts p hp hs bI;have hc:p.code=0/\is p 0 [125]=false:=⟨hp.code,by rw [hi];simpa using hb⟩
    cases he:rs p.e f (.stmt d) ts with
    | error x =>
     rw [he] at F h;refine ⟨acc++[a],q,fun g hg=>?_,by rw [gM (bN.err F)];exact F⟩;obtain ⟨g,rfl,mb,ik⟩:=pQ hg;rw [iB,ae hc,I g mb];simp only;obtain ⟨g,rfl⟩:∃ g',g=g'+1:=⟨g - 1,by omega⟩;rw [iB,ab (fun h0=>bN.err F h0.1)]
    | ok y =>
     obtain ⟨a',r⟩:=y;rw [he] at F h;obtain ⟨rfl,F⟩:=F;simp only at h |-;rw [<-F.2.2] at h |-;obtain ⟨l,q3,h3,h4⟩:=C.body d (acc++[a]) r q F.1 (by rw [F.2.1];exact hs) h;rw [FP F.2.1] at h3;refine ⟨l,q3,fun g hg=>?_,jI.tr F h4⟩;obtain ⟨g,rfl,mb,ik⟩:=pQ hg;rw [iB,ae hc,I g mb];exact h3 g mb
section
variable {p q:RS}
theorem sO {k:Nat} (h:(tok p k).kind≠0):p.i+k < p.l.length:=by
 unfold tok at h
 refine Nat.lt_of_not_le fun hn=>?_
 rw [List.getElem?_eq_none_iff.2 hn] at h;exact h rfl
theorem is_lt {k:Nat} {s:ah} (h:is p k s=true):p.i+k < p.l.length:=by
 unfold is at h;rw [aE] at h;exact sO (by have:=h.1;simp at this;omega)
theorem kj {s:ah} (h:is p 0 s=true):p.to p.next:=dO (is_lt h)
theorem xN (hp:p.ok):p.to (kX p):=mz hp _ _
theorem cw (hp:p.ok) (s:ah):p.to (want p s):=by
 unfold want;split
 ·split
  ·rename_i h;exact kj h
  ·exact xN hp
 ·exact ky hp
theorem iL (hp:p.ok):p.to (bu p):=by
 unfold bu;split
 ·split
  ·rename_i h;split
   ·exact mz hp _ _
   ·exact dO (sO (k:=0) aq)
  ·exact xN hp
 ·exact ky hp
theorem vy (hp:p.ok) (d:Nat):p.to (bT p d):=by
 unfold bT;split
 ·exact mz hp _ _
 ·exact ky hp
theorem pC {d:Nat} (h:(bT p d).code=0):bT p d=p:=by
 unfold bT at h |-;split at h
 ·unfold RS.fail at h;split at h
  ·cases h
  ·rename_i hd hc;exact absurd h hc
 ·rename_i hd;rw [ab hd]
end
theorem jL:∀ (f:Nat),(∀ j p t q,p.ok->iE f j p=some (t,q)->p.to q)/\(∀ d acc p l q,p.ok->iA f d acc p=some (l,q)->p.to q)
 | 0=>⟨fun j p t q _ h=>by simp [iE] at h,fun d acc p l q _ h=>by simp [iA] at h⟩
 | f+1=>by
  obtain ⟨I,F⟩:=jL f;refine ⟨fun j p t q hp h=>?_,fun d acc p l q hp h=>?_⟩
  ·cases j with
   | expr d =>
    rw [iE] at h;have hd:=vy hp d;split at h
    ·exact hd.trans (I _ _ _ _ (hd.ok hp) h)
    ·cases h;exact hd
   | level k d =>
    rw [iE] at h;split at h
    ·exact I _ _ _ _ hp h
    ·split at h
     ·cases h
     ·rename_i out p' he;have:=I _ _ _ _ hp he;exact this.trans (I _ _ _ _ (this.ok hp) h)
   | loop k d out =>
    rw [iE] at h;split at h
    ·rename_i hc;have hn:=dO (p:=p) (sO (k:=0) (by have:=hc.2.1;omega));split at h
     ·cases h
     ·rename_i b p' he;have:=hn.trans (I _ _ _ _ (hn.ok hp) he);exact this.trans (I _ _ _ _ (this.ok hp) h)
    ·cases h;exact ky hp
   | operand d =>
    rw [iE] at h;split at h
    ·split at h
     ·rename_i hc
      have hn:p.to p.next:=by rcases hc with hc | hc | hc <;> exact kj hc
      split at h
      ·cases h
      ·rename_i a p' he
       cases h;exact hn.trans (I _ _ _ _ (hn.ok hp) he)
     ·split at h
      ·rename_i hk
       cases h;exact dO (sO (k:=0) aq)
      ·split at h
       ·rename_i hc;have hn:=kj hc;split at h
        ·cases h
        ·rename_i a p' he;have:=hn.trans (I _ _ _ _ (hn.ok hp) he)
         cases h;exact this.trans (cw (this.ok hp) _)
       ·have hn:=iL hp;split at h
        ·split at h
         ·rename_i hc;have bW:=hn.trans (kj hc);split at h
          ·cases h
          ·rename_i a p' he;have:=bW.trans (I _ _ _ _ (bW.ok hp) he)
           cases h;exact this.trans (cw (this.ok hp) _)
         ·split at h
          ·rename_i hc;have bW:=hn.trans (kj hc);split at h
           ·cases h
           ·rename_i a p' he
            cases h;exact bW.trans (F _ _ _ _ _ (bW.ok hp) he)
          ·cases h;exact hn
        ·cases h;exact hn
    ·cases h;exact vy hp d
  ·rw [iA] at h;split at h
   ·have hn:p.to (if acc.length=0 then p else want p [44]):=by
     split
     ·exact ky hp
     ·exact cw hp _
    split at h
    ·cases h
    ·rename_i a p' he;have:=hn.trans (I _ _ _ _ (hn.ok hp) he);exact this.trans (F _ _ _ _ _ (this.ok hp) h)
   ·cases h;exact cw hp _
theorem FY:∀ (f:Nat),(∀ j p t q,p.ok->iS f j p=some (t,q)->p.to q)/\(∀ d acc p l q,p.ok->iB f d acc p=some (l,q)->p.to q)
 | 0=>⟨fun j p t q _ h=>by simp [iS] at h,fun d acc p l q _ h=>by simp [iB] at h⟩
 | f+1=>by
  obtain ⟨I,F⟩:=FY f;have yJ:=(jL f).1;refine ⟨fun j p t q hp h=>?_,fun d acc p l q hp h=>?_⟩
  ·cases j with
   | block d =>
    rw [iS] at h;split at h
    ·have hm:=cw hp [123];split at h
     ·cases h
     ·rename_i l p' he;have:=hm.trans (F _ _ _ _ _ (hm.ok hp) he)
      cases h;exact this.trans (cw (this.ok hp) _)
    ·cases h;exact vy hp d
   | stmt d =>
    rw [iS] at h;split at h
    ·split at h
     ·rename_i hs;have hn:=kj hs;have fy:=hn.trans (iL (hn.ok hp));have kF:=fy.trans (cw (fy.ok hp) [61]);split at h
      ·cases h
      ·rename_i e p' he;have:=kF.trans (yJ _ _ _ _ (kF.ok hp) he)
       cases h;exact this.trans (cw (this.ok hp) _)
     ·split at h
      ·rename_i hs
       have hn:p.to p.next:=by rcases hs with hs | hs <;> exact kj hs
       have kF:=hn.trans (cw (hn.ok hp) [40]);split at h
       ·cases h
       ·rename_i e p' he;have:=kF.trans (yJ _ _ _ _ (kF.ok hp) he);have He:=this.trans (cw (this.ok hp) [41]);split at h
        ·cases h
        ·rename_i b p2 hb;have fv:=He.trans (I _ _ _ _ (He.ok hp) hb);split at h
         ·rename_i hc;have bW:=fv.trans (kj hc.2.2);split at h
          ·cases h
          ·rename_i b2 p3 yE
           cases h;exact bW.trans (I _ _ _ _ (bW.ok hp) yE)
         ·cases h;exact fv
      ·split at h
       ·rename_i hs;have hn:=kj hs;split at h
        ·cases h
        ·rename_i e p' he;have:=hn.trans (yJ _ _ _ _ (hn.ok hp) he)
         cases h;exact this.trans (cw (this.ok hp) _)
       ·split at h
        ·have fy:=iL hp;have kF:=fy.trans (cw (fy.ok hp) [61]);split at h
         ·cases h
         ·rename_i e p' he;have:=kF.trans (yJ _ _ _ _ (kF.ok hp) he)
          cases h;exact this.trans (cw (this.ok hp) _)
        ·split at h
         ·cases h
         ·rename_i e p' he;have hx:=yJ _ _ _ _ hp he;split at h
          ·have hn:=hx.trans (cw (hx.ok hp) [61]);split at h
           ·rename_i a r v p2 hk qz;have:=hn.trans (yJ _ _ _ _ (hn.ok hp) qz)
            cases h;exact this.trans (cw (this.ok hp) _)
           ·cases h
          ·cases h;exact hx.trans (cw (hx.ok hp) _)
    ·cases h;exact vy hp d
  ·rw [iB] at h;split at h
   ·split at h
    ·cases h
    ·rename_i a p' he;have:=I _ _ _ _ hp he;exact this.trans (F _ _ _ _ _ (this.ok hp) h)
   ·cases h;exact ky hp
theorem wC (p:RS):p.next.i=p.i+1:=rfl
theorem Wp:∀ (f:Nat) j p t q,p.ok->iE f j p=some (t,q)->q.code=0->(∀ k d out,j≠.loop k d out)->p.i < q.i:=by
 intro f
 induction f with
 | zero=>intro j p t q _ h;simp [iE] at h
 | succ f ih =>
  intro j p t q hp h hq hj
  cases j with
  | loop k d out=>exact absurd rfl (hj k d out)
  | expr d =>
   rw [iE] at h;split at h
   ·rename_i hc;rw [pC hc] at h;exact ih _ _ _ _ hp h hq (fun k d out h=>by cases h)
   ·rename_i hc;cases h;exact absurd hq hc
  | level k d =>
   rw [iE] at h;split at h
   ·exact ih _ _ _ _ hp h hq (fun k d out h=>by cases h)
   ·split at h
    ·cases h
    ·rename_i out p' he;have kp:=(jL f).1 _ _ _ _ hp he
     have ar:p'.code=0:=by
      by_cases hc:p'.code=0
      ·exact hc
      ·cases f with
       | zero=>simp [iE] at h
       | succ f =>
        rw [iE,ab (fun h0=>hc h0.1)] at h
        cases h;exact hq
     have I:=ih _ _ _ _ hp he ar (fun k d out h=>by cases h);have F:=(jL f).1 _ _ _ _ (kp.ok hp) h;have:=F.2.2.2;omega
  | operand d =>
   rw [iE] at h;split at h
   ·split at h
    ·rename_i hc
     have hn:p.to p.next:=by rcases hc with hc | hc | hc <;> exact kj hc
     split at h
     ·cases h
     ·rename_i a p' he;cases h;have:=((jL f).1 _ _ _ _ (hn.ok hp) he).2.2.2;rw [wC] at this;omega
    ·split at h
     ·cases h;rw [wC];omega
     ·split at h
      ·rename_i hc;have hn:=kj hc;split at h
       ·cases h
       ·rename_i a p' he;cases h;have I:=(jL f).1 _ _ _ _ (hn.ok hp) he;have F:=(cw ((I.ok (hn.ok hp))) [41]).2.2.2;have:=I.2.2.2;rw [wC] at this;omega
      ·have hn:=iL hp;split at h
       ·rename_i iX
        have ar:p.i < (bu p).i:=by
         unfold bu at iX |-;split at iX
         ·rename_i h0;split at iX
          ·rename_i F;split at iX
           ·unfold RS.fail at iX;rw [ae h0] at iX;cases iX
           ·rename_i hl;rw [ae h0,ae F,ab hl,wC];omega
          ·unfold kX RS.fail at iX;rw [ae h0] at iX;cases iX
         ·rename_i h0;exact absurd iX h0
        split at h
        ·rename_i hc;have bW:=hn.trans (kj hc);split at h
         ·cases h
         ·rename_i a p' he;cases h;have I:=(jL f).1 _ _ _ _ (bW.ok hp) he;have F:=(cw ((I.ok (bW.ok hp))) [93]).2.2.2;have:=I.2.2.2;rw [wC] at this;omega
        ·split at h
         ·rename_i hc;have bW:=hn.trans (kj hc);split at h
          ·cases h
          ·rename_i a p' he;cases h;have:=((jL f).2 _ _ _ _ _ (bW.ok hp) he).2.2.2;rw [wC] at this;omega
         ·cases h;exact ar
       ·rename_i iX;cases h;exact absurd hq iX
   ·rename_i hc;cases h;exact absurd hq hc
end Go.Im
namespace Go.Xp
mutual
def aO:T->Nat
 | .mk _ l=>aC l+1
def aC:List T->Nat
 | []=>0
 | t::r=>aO t+aC r
end
def b9:Nat->List T->List Int
 | _,[]=>[]
 | n,t::r=>(n:Int)::b9 (n+aO t) r
mutual
def mH:Nat->T->List Nd
 | n,.mk nd l=>⟨nd.kind,nd.at_,nd.n,nd.s,b9 (n+1) l⟩::eK (n+1) l
def eK:Nat->List T->List Nd
 | _,[]=>[]
 | n,t::r=>mH n t++eK (n+aO t) r
end
theorem eO (t:T):aO t=aC t.kids+1:=by cases t;rw [aO];rfl
theorem NA (n:Nat) (t:T):mH n t=⟨t.n.kind,t.n.at_,t.n.n,t.n.s,b9 (n+1) t.kids⟩::eK (n+1) t.kids:=by cases t;rw [mH];rfl
theorem nJ (a b:List T):aC (a++b)=aC a+aC b:=by
 induction a with
 | nil=>simp [aC]
 | cons t a ih=>simp only [cons_append,aC,ih];omega
theorem LP (a b:List T) (n:Nat):b9 n (a++b)=b9 n a++b9 (n+aC a) b:=by
 induction a generalizing n with
 | nil=>simp [b9,aC]
 | cons t a ih=>simp only [cons_append,b9,aC,ih,gW]
theorem JQ (a b:List T) (n:Nat):eK n (a++b)=eK n a++eK (n+aC a) b:=by
 induction a generalizing n with
 | nil=>simp [eK,aC]
 | cons t a ih=>simp only [cons_append,eK,aC,ih,gW,iw]
theorem da (a:List T) (n:Nat):(b9 n a).length=a.length:=by
 induction a generalizing n with
 | nil=>rfl
 | cons t a ih=>simp [b9,ih]
theorem NB:∀ (N:Nat),(∀ t:T,aO t<=N->∀ n,(mH n t).length=aO t)/\(∀ l:List T,aC l<=N->∀ n,(eK n l).length=aC l):=by
 intro N
 induction N with
 | zero =>
  refine ⟨fun t h=>by rw [eO] at h;omega,fun l h n=>?_⟩
  cases l with
  | nil=>rfl
  | cons t l=>rw [aC,eO] at h;omega
 | succ N ih =>
  have I:∀ t:T,aO t<=N+1->∀ n,(mH n t).length=aO t:=fun t h n=>by
   rw [eO] at h;rw [NA,eO,length_cons,ih.2 _ aq]
  refine ⟨I,fun l=>?_⟩
  induction l with
  | nil=>intro _ n;rfl
  | cons t l ih2 =>
   intro h n;rw [aC] at h;rw [eK,aZ,I t aq,ih2 aq,aC]
theorem JR (t:T) (n:Nat):(mH n t).length=aO t:=(NB (aO t)).1 t (aH _) n
theorem zH (l:List T) (n:Nat):(eK n l).length=aC l:=(NB (aC l)).2 l (aH _) n
theorem vM (l:List T) (k:Nat):aC (l.take k)<=aC l:=by
 have:aC l=aC (l.take k)+aC (l.drop k):=by rw [<-nJ,List.take_append_drop]
 omega
theorem vN {l:List T} {k:Nat} {t:T} (h:l[k]?=some t):aC (l.take (k+1))=aC (l.take k)+aO t:=by
 have:l.take (k+1)=l.take k++[t]:=by rw [cq,h];rfl
 rw [this,nJ,aC,aC];rfl
theorem bZ (l:List T):l.length<=aC l:=by
 induction l with
 | nil=>simp
 | cons t l ih=>rw [aC,eO,length_cons];omega
open Go.Sp (bx fa)
abbrev K:=Int × Int × ah
def kf (t:Tok):K:=(t.kind,t.n,t.s)
abbrev kS (s:ah):K:=(3,0,s)
abbrev kN (s:ah):K:=(2,0,s)
abbrev kI (n:Int):K:=(1,n,[])
inductive E where
 | num (n:Int)
 | name (s:ah)
 | at_ (s:ah) (a:E)
 | call (s:ah) (l:List E)
 | un (s:ah) (a:E)
 | bin (s:ah) (a b:E)
def ep (s:ah):Nat:=(levels.findIdx? fun l=>l.contains s).getD 9
def E.lv:E->Nat
 | .bin s _ _=>ep s
 | _=>9
def brk (lv k:Nat) (x:List K):List K:=if lv < k then kS [40]::(x++[kS [41]]) else x
mutual
def E.tk:E->List K
 | .num n=>[kI n]
 | .name s=>[kN s]
 | .at_ s a=>kN s::kS [91]::(a.tk++[kS [93]])
 | .call s l=>kN s::kS [40]::(E.nC l++[kS [41]])
 | .un s a=>kS s::brk a.lv 9 a.tk
 | .bin s a b=>brk a.lv (ep s) a.tk++kS s::brk b.lv (ep s+1) b.tk
def E.nC:List E->List K
 | []=>[]
 | a::l=>a.tk++E.rj l
def E.rj:List E->List K
 | []=>[]
 | a::l=>kS [44]::(a.tk++E.rj l)
end
mutual
def E.tree:E->T
 | .num n=>.mk ⟨1,0,n,[],[]⟩ []
 | .name s=>.mk ⟨2,0,0,s,[]⟩ []
 | .at_ s a=>.mk ⟨3,0,0,s,[]⟩ [a.tree]
 | .call s l=>.mk ⟨4,0,0,s,[]⟩ (E.trees l)
 | .un s a=>.mk ⟨5,0,0,s,[]⟩ [a.tree]
 | .bin s a b=>.mk ⟨6,0,0,s,[]⟩ [a.tree,b.tree]
def E.trees:List E->List T
 | []=>[]
 | a::l=>a.tree::E.trees l
end
def Jv (lv k d:Nat) (f:Nat->Bool):Bool:=if lv < k then decide (d<=60)&&decide (d+1<=60)&&f (d+2) else f d
mutual
def E.fit:E->Nat->Bool
 | .num _,d=>decide (d<=60)
 | .name _,d=>decide (d<=60)
 | .at_ _ a,d=>decide (d<=60)&&decide (d+1<=60)&&a.fit (d+2)
 | .call _ l,d=>decide (d<=60)&&E.fits l (d+1)
 | .un _ a,d=>decide (d<=60)&&(if a.lv < 9 then decide (d+1<=60)&&decide (d+2<=60)&&a.fit (d+3) else a.fit (d+1))
 | .bin s a b,d=>(if a.lv < ep s then decide (d<=60)&&decide (d+1<=60)&&a.fit (d+2) else a.fit d)&&(if b.lv < ep s+1 then decide (d<=60)&&decide (d+1<=60)&&b.fit (d+2) else b.fit d)
def E.fits:List E->Nat->Bool
 | [],_=>true
 | a::l,d=>decide (d<=60)&&a.fit (d+1)&&E.fits l d
end
mutual
def E.ok:E->Bool
 | .num n=>decide (0<=n)&&decide (n<=2147483647)
 | .name s=>bx s
 | .at_ s a=>bx s&&a.ok
 | .call s l=>bx s&&E.df l
 | .un s a=>(s==[45] || s==[33] || s==[126])&&a.ok
 | .bin s a b=>fa s&&a.ok&&b.ok
def E.df:List E->Bool
 | []=>true
 | a::l=>a.ok&&E.df l
end
mutual
def er:T->T
 | .mk n l=>.mk ⟨n.kind,0,n.n,n.s,[]⟩ (aQ l)
def aQ:List T->List T
 | []=>[]
 | t::l=>er t::aQ l
end
theorem JK (l k:List T):aQ (l++k)=aQ l++aQ k:=by
 induction l with
 | nil=>rfl
 | cons t l ih=>simp [aQ,ih]
theorem tM (l:List T):aQ l=l.map er:=by
 induction l with
 | nil=>rfl
 | cons t l ih=>simp [aQ,ih]
theorem dZ (k a:Int) (s:ah) (l:List T):er (one k a s l)=.mk ⟨k,0,0,s,[]⟩ (aQ l):=by unfold one;rw [er]
def Ev (e:Int) (j:pA) (ts:List Tok) (x:Rd T):Prop:=∃ f0,∀ f,f0<=f->rd e f j ts=x
def Ea (e:Int) (d:Nat) (acc:List T) (ts:List Tok) (x:Rd (List T)):Prop:=∃ f0,∀ f,f0<=f->rd.args e f d acc ts=x
section
variable {e:Int} {d k:Nat} {ts r:List Tok} {t out:T} {x:Rd T} {y:Er}
theorem Av {j j':pA} {ts jz:List Tok} {x x':Rd T} (h:Ev e j ts x) (hs:∀ f,rd e f j ts=x->rd e (f+1) j' jz=x'):Ev e j' jz x':=by
 obtain ⟨f0,h0⟩:=h;refine ⟨f0+1,fun f hf=>?_⟩;obtain ⟨f,rfl⟩:∃ g,f=g+1:=⟨f - 1,by omega⟩;exact hs f (h0 f aq)
theorem YM {j j' j2:pA} {ts jz wT:List Tok} {x x' x2:Rd T} (h:Ev e j ts x) (F:Ev e j2 wT x2) (hs:∀ f,rd e f j ts=x->rd e f j2 wT=x2->rd e (f+1) j' jz=x'):Ev e j' jz x':=by
 obtain ⟨f0,h0⟩:=h;obtain ⟨c8,I⟩:=F;refine ⟨f0+c8+1,fun f hf=>?_⟩;obtain ⟨f,rfl⟩:∃ g,f=g+1:=⟨f - 1,by omega⟩;exact hs f (h0 f aq) (I f aq)
theorem Nu {j':pA} {jz:List Tok} {x':Rd T} (hs:∀ f,rd e (f+1) j' jz=x'):Ev e j' jz x' :=
 ⟨1,fun f hf=>by obtain ⟨f,rfl⟩:∃ g,f=g+1:=⟨f - 1,by omega⟩;exact hs f⟩
theorem Ev.expr (hd:d<=60) (h:Ev e (.level 0 (d+1)) ts x):Ev e (.expr d) ts x:=Av h fun f h=>by rw [rd,ab aq];exact h
theorem Ev.XM (hd:60 < d):Ev e (.expr d) ts (.error (9,place e ts)):=Nu fun f=>by rw [rd,ae hd]
theorem Ev.level (hk:k≠9) (h:Ev e (.level (k+1) d) ts (.ok (out,r))) (F:Ev e (.loop k d out) r x):Ev e (.level k d) ts x:=YM h F fun f h F=>by rw [rd,ab hk,h];exact F
theorem Ev.Wz (hk:k≠9) (h:Ev e (.level (k+1) d) ts (.error y)):Ev e (.level k d) ts (.error y):=Av h fun f h=>by rw [rd,ab hk,h]
theorem Ev.HE (h:Ev e (.operand d) ts x):Ev e (.level 9 d) ts x:=Av h fun f h=>by rw [rd,ae rfl];exact h
theorem Ev.stop (h:sign ts 0 ∉ levels.getD k []):Ev e (.loop k d out) ts (.ok (out,ts)):=Nu fun f=>by
 cases ts with
 | nil=>rw [rd]
 | cons t r =>
  rw [rd,ab];rintro ⟨h3,h4⟩;apply h;simp only [sign,getElem?_cons_zero,br,h3,if_true];exact h4
theorem Ev.go {t:Tok} {b:T} {r':List Tok} (h3:t.kind=3) (hs:t.s∈levels.getD k []) (h:Ev e (.level (k+1) d) r (.ok (b,r'))) (F:Ev e (.loop k d (one 6 t.at_ t.s [out,b])) r' x):Ev e (.loop k d out) (t::r) x :=
 YM h F fun f h F=>by rw [rd,ae ⟨h3,hs⟩,h];exact F
theorem Ev.goX {t:Tok} (h3:t.kind=3) (hs:t.s∈levels.getD k []) (h:Ev e (.level (k+1) d) r (.error y)):Ev e (.loop k d out) (t::r) (.error y) :=
 Av h fun f h=>by rw [rd,ae ⟨h3,hs⟩,h]
theorem Ev.Sd (hd:60 < d):Ev e (.operand d) ts (.error (9,place e ts)):=Nu fun f=>by rw [rd.eq_def];simp only;rw [ae hd]
theorem Ev.num {t:Tok} (hd:d<=60) (h:t.kind=1):Ev e (.operand d) (t::r) (.ok (.mk ⟨1,t.at_,t.n,[],[]⟩ [],r)):=Nu fun f=>by
 rw [rd.eq_def];simp only;rw [ab aq,ab aq,ae h]
theorem Ev.un {t:Tok} {a:T} {r':List Tok} (hd:d<=60) (h3:t.kind=3) (hs:t.s=[45]\/t.s=[33]\/t.s=[126]) (h:Ev e (.operand (d+1)) r (.ok (a,r'))):Ev e (.operand d) (t::r) (.ok (one 5 t.at_ t.s [a],r')) :=
 Av h fun f h=>by rw [rd.eq_def];simp only;rw [ab aq,ae h3,ae hs,h]
theorem Ev.unX {t:Tok} (hd:d<=60) (h3:t.kind=3) (hs:t.s=[45]\/t.s=[33]\/t.s=[126]) (h:Ev e (.operand (d+1)) r (.error y)):Ev e (.operand d) (t::r) (.error y) :=
 Av h fun f h=>by rw [rd.eq_def];simp only;rw [ab aq,ae h3,ae hs,h]
theorem Ev.par {t u:Tok} {a:T} {r':List Tok} (hd:d<=60) (h3:t.kind=3) (hs:t.s=[40]) (hu:u.kind=3) (gD:u.s=[41]) (h:Ev e (.expr (d+1)) r (.ok (a,u::r'))):Ev e (.operand d) (t::r) (.ok (a,r')) :=
 Av h fun f h=>by
  rw [rd.eq_def];simp only;rw [ab aq,ae h3,ab (by rw [hs];decide),ae hs,h];simp only [aP,sign,getElem?_cons_zero,br,hu,if_true,gD,tail_cons]
theorem Ev.aaB {t:Tok} (hd:d<=60) (h3:t.kind=3) (hs:t.s=[40]) (h:Ev e (.expr (d+1)) r (.error y)):Ev e (.operand d) (t::r) (.error y) :=
 Av h fun f h=>by rw [rd.eq_def];simp only;rw [ab aq,ae h3,ab (by rw [hs];decide),ae hs,h]
theorem tQ {t:Tok} (F:t.kind=2) (hl:t.s.length<=12):name e (t::r)=.ok (t.s,r):=by
 simp only [name,F,if_true];rw [ab aq]
theorem Ev.name {t:Tok} (hd:d<=60) (F:t.kind=2) (hl:t.s.length<=12) (n1:sign r 0≠[91]) (n2:sign r 0≠[40]):Ev e (.operand d) (t::r) (.ok (one 2 t.at_ t.s [],r)):=Nu fun f=>by
 rw [rd.eq_def];simp only;rw [ab aq,ab aq,ab aq,tQ F hl];simp only;rw [ab n1,ab n2]
theorem Ev.ix {t u w:Tok} {a:T} {r':List Tok} (hd:d<=60) (F:t.kind=2) (hl:t.s.length<=12) (hu:u.kind=3) (gD:u.s=[91]) (hw:w.kind=3) (Fa:w.s=[93]) (h:Ev e (.expr (d+1)) r (.ok (a,w::r'))):Ev e (.operand d) (t::u::r) (.ok (one 3 t.at_ t.s [a],r')) :=
 Av h fun f h=>by
  rw [rd.eq_def];simp only;rw [ab aq,ab aq,ab aq,tQ F hl];simp only;rw [ae (by simp only [sign,getElem?_cons_zero,br,hu,if_true,gD]),tail_cons,h];simp only [aP,sign,getElem?_cons_zero,br,hw,if_true,Fa,tail_cons]
theorem Ev.Zo {t u:Tok} (hd:d<=60) (F:t.kind=2) (hl:t.s.length<=12) (hu:u.kind=3) (gD:u.s=[91]) (h:Ev e (.expr (d+1)) r (.error y)):Ev e (.operand d) (t::u::r) (.error y) :=
 Av h fun f h=>by
  rw [rd.eq_def];simp only;rw [ab aq,ab aq,ab aq,tQ F hl];simp only;rw [ae (by simp only [sign,getElem?_cons_zero,br,hu,if_true,gD]),tail_cons,h]
theorem Ev.call {t u:Tok} {l:List T} {r':List Tok} (hd:d<=60) (F:t.kind=2) (hl:t.s.length<=12) (hu:u.kind=3) (gD:u.s=[40]) (h:Ea e (d+1) [] r (.ok (l,r'))):Ev e (.operand d) (t::u::r) (.ok (one 4 t.at_ t.s l,r')):=by
 obtain ⟨f0,h0⟩:=h;refine ⟨f0+1,fun f hf=>?_⟩;obtain ⟨f,rfl⟩:∃ g,f=g+1:=⟨f - 1,by omega⟩
 have hs:sign (u::r) 0=[40]:=by simp only [sign,getElem?_cons_zero,br,hu,if_true,gD]
 rw [rd.eq_def];simp only;rw [ab aq,ab aq,ab aq,tQ F hl];simp only;rw [ab (by rw [hs];decide),ae hs,tail_cons,h0 f aq]
theorem Ev.XF {t u:Tok} (hd:d<=60) (F:t.kind=2) (hl:t.s.length<=12) (hu:u.kind=3) (gD:u.s=[40]) (h:Ea e (d+1) [] r (.error y)):Ev e (.operand d) (t::u::r) (.error y):=by
 obtain ⟨f0,h0⟩:=h;refine ⟨f0+1,fun f hf=>?_⟩;obtain ⟨f,rfl⟩:∃ g,f=g+1:=⟨f - 1,by omega⟩
 have hs:sign (u::r) 0=[40]:=by simp only [sign,getElem?_cons_zero,br,hu,if_true,gD]
 rw [rd.eq_def];simp only;rw [ab aq,ab aq,ab aq,tQ F hl];simp only;rw [ab (by rw [hs];decide),ae hs,tail_cons,h0 f aq]
theorem Ea.nil {u:Tok} {acc:List T} (hu:u.kind=3) (gD:u.s=[41]):Ea e d acc (u::r) (.ok (acc,r)):=⟨1,fun f hf=>by
 obtain ⟨f,rfl⟩:∃ g,f=g+1:=⟨f - 1,by omega⟩
 have hs:sign (u::r) 0=[41]:=by simp only [sign,getElem?_cons_zero,br,hu,if_true,gD]
 rw [rd.args,ae hs];rfl⟩
theorem Ea.first {a:T} {r':List Tok} {x:Rd (List T)} (hs:sign r 0≠[41]) (h:Ev e (.expr d) r (.ok (a,r'))) (F:Ea e d [a] r' x):Ea e d [] r x:=by
 obtain ⟨f0,h0⟩:=h;obtain ⟨c8,I⟩:=F;refine ⟨f0+c8+1,fun f hf=>?_⟩;obtain ⟨f,rfl⟩:∃ g,f=g+1:=⟨f - 1,by omega⟩;rw [rd.args,ab hs,ae rfl];simp only;rw [h0 f aq];exact I f aq
theorem Ea.Vr {a:T} (hs:sign r 0≠[41]) (h:Ev e (.expr d) r (.error y)):Ea e d [] r (.error y):=by
 obtain ⟨f0,h0⟩:=h;refine ⟨f0+1,fun f hf=>?_⟩;obtain ⟨f,rfl⟩:∃ g,f=g+1:=⟨f - 1,by omega⟩;rw [rd.args,ab hs,ae rfl];simp only;rw [h0 f aq]
theorem Ea.more {u:Tok} {acc:List T} {a:T} {r':List Tok} {x:Rd (List T)} (ha:acc≠[]) (hu:u.kind=3) (gD:u.s=[44]) (h:Ev e (.expr d) r (.ok (a,r'))) (F:Ea e d (acc++[a]) r' x):Ea e d acc (u::r) x:=by
 obtain ⟨f0,h0⟩:=h;obtain ⟨c8,I⟩:=F;refine ⟨f0+c8+1,fun f hf=>?_⟩;obtain ⟨f,rfl⟩:∃ g,f=g+1:=⟨f - 1,by omega⟩
 have hs:sign (u::r) 0=[44]:=by simp only [sign,getElem?_cons_zero,br,hu,if_true,gD]
 rw [rd.args,ab (by rw [hs];decide),ab ha,aP,ae hs];simp only [tail_cons];rw [h0 f aq];exact I f aq
theorem Ea.Yg {u:Tok} {acc:List T} (ha:acc≠[]) (hu:u.kind=3) (gD:u.s=[44]) (h:Ev e (.expr d) r (.error y)):Ea e d acc (u::r) (.error y):=by
 obtain ⟨f0,h0⟩:=h;refine ⟨f0+1,fun f hf=>?_⟩;obtain ⟨f,rfl⟩:∃ g,f=g+1:=⟨f - 1,by omega⟩
 have hs:sign (u::r) 0=[44]:=by simp only [sign,getElem?_cons_zero,br,hu,if_true,gD]
 rw [rd.args,ab (by rw [hs];decide),ab ha,aP,ae hs];simp only [tail_cons];rw [h0 f aq]
structure Stop (r:List Tok) (k:Nat):Prop where
 a:sign r 0≠[91]
 b:sign r 0≠[40]
 c:∀ j,k < j->sign r 0 ∉ levels.getD j []
theorem Stop.mono {k':Nat} (h:Stop r k) (hk:k<=k'):Stop r k':=⟨h.a,h.b,fun j hj=>h.c j aq⟩
theorem Ev.lift {m:Nat} (h:Ev e (.level m d) ts (.ok (t,r))) (hm:m<=9) (hs:Stop r k):∀ n,m=k+1+n->Ev e (.loop k d t) r x->Ev e (.level k d) ts x:=by
 intro n
 induction n generalizing m with
 | zero=>intro he F;exact Ev.level aq (by rw [<-he];exact h) F
 | succ n ih =>
  intro he F;exact ih (m:=k+1+n) (Ev.level aq (by rw [show k+1+n+1=m by omega];exact h) (Ev.stop (hs.c _ aq))) aq rfl F
theorem Ev.S5 {m:Nat} (h:Ev e (.level m d) ts (.error y)) (hm:m<=9):∀ n,m=k+n->Ev e (.level k d) ts (.error y):=by
 intro n
 induction n generalizing m with
 | zero=>intro he;subst he;exact h
 | succ n ih=>intro he;exact ih (m:=k+n) (Ev.Wz aq (by rw [show k+n+1=m by omega];exact h)) aq rfl
def Rt (e:Int) (k d:Nat) (ts rest:List Tok) (Q:T->Prop) (b:Bool):Prop :=
 (b=true->∃ t,Q t/\(k < 9->∀ x,Ev e (.loop k d t) rest x->Ev e (.level k d) ts x)/\(k=9->Ev e (.level 9 d) ts (.ok (t,rest))))/\(b=false->∃ pos,Ev e (.level k d) ts (.error (9,pos)))
def Ro (e:Int) (d:Nat) (ts rest:List Tok) (Q:T->Prop) (b:Bool):Prop :=
 (b=true->∃ t,Q t/\Ev e (.operand d) ts (.ok (t,rest)))/\(b=false->∃ pos,Ev e (.operand d) ts (.error (9,pos)))
def Rx (e:Int) (d:Nat) (ts rest:List Tok) (Q:T->Prop) (b:Bool):Prop :=
 (b=true->∃ t,Q t/\Ev e (.expr d) ts (.ok (t,rest)))/\(b=false->∃ pos,Ev e (.expr d) ts (.error (9,pos)))
theorem Ro.rt {rest:List Tok} {Q:T->Prop} {b:Bool} (h:Ro e d ts rest Q b) (hk:k<=9) (hs:Stop rest k):Rt e k d ts rest Q b:=by
 refine ⟨fun hb=>?_,fun hb=>?_⟩
 ·obtain ⟨t,I,F⟩:=h.1 hb;exact ⟨t,I,fun wo x h3=>Ev.lift (Ev.HE F) (aH _) hs (8 - k) aq h3,fun _=>Ev.HE F⟩
 ·obtain ⟨pos,I⟩:=h.2 hb;exact ⟨pos,Ev.S5 (Ev.HE I) (aH _) (9 - k) aq⟩
theorem Rt.down {rest:List Tok} {Q:T->Prop} {b:Bool} {m:Nat} (h:Rt e m d ts rest Q b) (hm:m < 9) (hk:k<=m) (hs:Stop rest k):Rt e k d ts rest Q b:=by
 rcases Nat.lt_or_ge k m with ar | ko
 ·refine ⟨fun hb=>?_,fun hb=>?_⟩
  ·obtain ⟨t,I,F,_⟩:=h.1 hb;have h3:=F hm _ (Ev.stop (hs.c m ar));exact ⟨t,I,fun wo x h4=>Ev.lift h3 aq hs (m - 1 - k) aq h4,fun h9=>by omega⟩
  ·obtain ⟨pos,I⟩:=h.2 hb;exact ⟨pos,Ev.S5 I aq (m - k) aq⟩
 ·obtain rfl:k=m:=by omega
  exact h
theorem Rt.rx {rest:List Tok} {Q:T->Prop} {b:Bool} (h:Rt e 0 (d+1) ts rest Q b) (hs:sign rest 0 ∉ levels.getD 0 []):Rx e d ts rest Q (decide (d<=60)&&b):=by
 by_cases hd:d<=60
 ·have:(decide (d<=60)&&b)=b:=by simp [hd]
  rw [this];refine ⟨fun hb=>?_,fun hb=>?_⟩
  ·obtain ⟨t,I,F,_⟩:=h.1 hb;exact ⟨t,I,Ev.expr hd (F aq _ (Ev.stop hs))⟩
  ·obtain ⟨pos,I⟩:=h.2 hb;exact ⟨pos,Ev.expr hd I⟩
 ·have:(decide (d<=60)&&b)=false:=by simp [hd]
  rw [this];exact ⟨fun hb=>(by cases hb),fun _=>⟨_,Ev.XM aq⟩⟩
end
theorem Ev.S8 {e:Int} {d:Nat} {ts:List Tok} {x:Rd T} (h:Ev e (.level 9 d) ts x):Ev e (.operand d) ts x:=by
 obtain ⟨f0,h0⟩:=h;refine ⟨f0,fun f hf=>?_⟩;have:=h0 (f+1) aq;rw [rd,ae rfl] at this;exact this
theorem Ro.S8 {e:Int} {d:Nat} {ts rest:List Tok} {Q:T->Prop} {b:Bool} (h:Rt e 9 d ts rest Q b):Ro e d ts rest Q b :=
 ⟨fun hb=>by obtain ⟨t,I,_,F⟩:=h.1 hb;exact ⟨t,I,(F rfl).S8⟩,fun hb=>by obtain ⟨pos,I⟩:=h.2 hb;exact ⟨pos,I.S8⟩⟩
theorem tU {t:Tok} {r:List Tok} {s:ah} (h:kf t=kS s):sign (t::r) 0=s:=by
 simp only [kf,kS,Prod.mk.injEq] at h;simp only [sign,getElem?_cons_zero,br,h.1,if_true,h.2.2]
theorem D8 {t:Tok} {r:List Tok} (h:t.kind≠3):sign (t::r) 0=[]:=by
 simp only [sign,getElem?_cons_zero,br,ab h]
theorem Kh {j:Nat} (h:9<=j):levels.getD j []=[]:=by
 rw [List.getD_eq_getElem?_getD,getElem?_eq_none (by simpa [levels] using h)];rfl
theorem FF {r:List Tok} {s:ah} (h:sign r 0=s) (hs:s=[]\/s=[41]\/s=[93]\/s=[44]\/s=[59]\/s=[61]):Stop r 0:=by
 have h9:∀ j,j < 9->∀ s:ah,(s=[]\/s=[41]\/s=[93]\/s=[44]\/s=[59]\/s=[61])->s ∉ levels.getD j []:=by
  intro j hj s hs
  have:∀ j,j < 9->∀ s∈([[],[41],[93],[44],[59],[61]]:List ah),s ∉ levels.getD j []:=by decide
  exact this j hj s (by simpa using hs)
 refine ⟨?_,?_,fun j _=>?_⟩
 ·rw [h];rcases hs with rfl | rfl | rfl | rfl | rfl | rfl <;> decide
 ·rw [h];rcases hs with rfl | rfl | rfl | rfl | rfl | rfl <;> decide
 ·rw [h]
  rcases Nat.lt_or_ge j 9 with h0 | h0
  ·exact h9 j h0 s hs
  ·rw [Kh h0];simp
theorem Df {r:List Tok} {s:ah} (h:sign r 0=s) (hs:s=[]\/s=[41]\/s=[93]\/s=[44]\/s=[59]\/s=[61]):sign r 0 ∉ levels.getD 0 []:=by
 rw [h];rcases hs with rfl | rfl | rfl | rfl | rfl | rfl <;> decide
theorem qA {s:ah} (h:fa s=true):ep s < 9/\s∈levels.getD (ep s) []/\s≠[91]/\s≠[40]/\∀ j,ep s < j->s ∉ levels.getD j []:=by
 have hm:s∈levels.flatten:=by
  unfold fa at h;rw [p7] at h;obtain ⟨l,hl,hc⟩:=h;exact List.mem_flatten.2 ⟨l,hl,by simpa using hc⟩
 have key:∀ s∈levels.flatten,ep s < 9/\s∈levels.getD (ep s) []/\s≠[91]/\s≠[40]/\∀ j,j < 9->ep s < j->s ∉ levels.getD j []:=by decide
 obtain ⟨I,F,h3,h4,h5⟩:=key s hm;refine ⟨I,F,h3,h4,fun j hj=>?_⟩
 rcases Nat.lt_or_ge j 9 with h0 | h0
 ·exact h5 j h0 hj
 ·rw [Kh h0];simp
theorem E.aaK {a:E} (h:a.ok=true):a.lv<=9:=by
 cases a with
 | bin s a b=>simp only [E.ok,aE] at h;exact Nat.le_of_lt (qA h.1.1).1
 | _=>exact aH _
def kV (a:E):Prop:=∀ (e:Int) (k d:Nat) (ts rest:List Tok),k<=a.lv->a.ok=true->ts.map kf=a.tk->Stop rest k->Rt e k d (ts++rest) rest (fun t=>er t=a.tree) (a.fit d)
def Xv (a:E):Prop:=∀ (e:Int) (k d:Nat) (ts rest:List Tok),k<=9->a.ok=true->ts.map kf=brk a.lv k a.tk->Stop rest k->Rt e k d (ts++rest) rest (fun t=>er t=a.tree) (Jv a.lv k d a.fit)
theorem map_cons {ts:List Tok} {k:K} {l:List K} (h:ts.map kf=k::l):∃ t r,ts=t::r/\kf t=k/\r.map kf=l:=List.map_eq_cons_iff.1 h
theorem dx {ts:List Tok} {l l':List K} (h:ts.map kf=l++l'):∃ a b,ts=a++b/\a.map kf=l/\b.map kf=l':=List.map_eq_append_iff.1 h
theorem iP {ts:List Tok} {k:K} (h:ts.map kf=[k]):∃ t,ts=[t]/\kf t=k:=by
 obtain ⟨t,r,rfl,I,F⟩:=map_cons h
 have:r=[]:=by simpa using F
 subst this;exact ⟨t,rfl,I⟩
theorem eC {t:Tok} {s:ah} (h:kf t=kS s):t.kind=3/\t.s=s:=by simp only [kf,kS,Prod.mk.injEq] at h;exact ⟨h.1,h.2.2⟩
theorem qX {t:Tok} {s:ah} (h:kf t=kN s):t.kind=2/\t.s=s:=by simp only [kf,kN,Prod.mk.injEq] at h;exact ⟨h.1,h.2.2⟩
theorem QM {t:Tok} {n:Int} (h:kf t=kI n):t.kind=1/\t.n=n:=by simp only [kf,kI,Prod.mk.injEq] at h;exact ⟨h.1,h.2.1⟩
theorem kV.rx {a:E} (h:kV a) {e:Int} {d:Nat} {ts rest:List Tok} {s:ah} (ho:a.ok=true) (ht:ts.map kf=a.tk) (hs:sign rest 0=s) (pe:s=[]\/s=[41]\/s=[93]\/s=[44]\/s=[59]\/s=[61]) :
  Rx e d (ts++rest) rest (fun t=>er t=a.tree) (decide (d<=60)&&a.fit (d+1)):=(h e 0 (d+1) ts rest (aX _) ho ht (FF hs pe)).rx (Df hs pe)
theorem kV.good {a:E} (h:kV a):Xv a:=by
 intro e k d ts rest hk ho ht hs;unfold brk at ht;unfold Jv
 by_cases hl:a.lv < k
 ·rw [ae hl] at ht |-;obtain ⟨t,r,rfl,I,F⟩:=map_cons ht;obtain ⟨A,B,rfl,h3,h4⟩:=dx F;obtain ⟨u,rfl,h5⟩:=iP h4;obtain ⟨I,c7⟩:=eC I;obtain ⟨h5,Sn⟩:=eC h5;have hx:=h.rx (e:=e) (d:=d+1) (rest:=u::rest) (s:=[41]) ho h3 (by simp only [sign,getElem?_cons_zero,br,h5,if_true,Sn]) (by simp);refine Ro.rt ?_ hk hs
  have he:t::(A++[u])++rest=t::(A++u::rest):=by simp
  rw [he]
  by_cases hd:d<=60
  ·have:(decide (d<=60)&&decide (d+1<=60)&&a.fit (d+2))=(decide (d+1<=60)&&a.fit (d+1+1)):=by simp [hd]
   rw [this];refine ⟨fun hb=>?_,fun hb=>?_⟩
   ·obtain ⟨t',k1,k2⟩:=hx.1 hb;exact ⟨t',k1,Ev.par hd I c7 h5 Sn k2⟩
   ·obtain ⟨pos,k1⟩:=hx.2 hb;exact ⟨pos,Ev.aaB hd I c7 k1⟩
  ·have:(decide (d<=60)&&decide (d+1<=60)&&a.fit (d+2))=false:=by simp [hd]
   rw [this];exact ⟨fun hb=>(by cases hb),fun _=>⟨_,Ev.Sd aq⟩⟩
 ·rw [ab hl] at ht |-;exact h e k d ts rest aq ho ht hs
theorem tS {e:Int} {d:Nat} {ts rest:List Tok} {Q:T->Prop} {b:Bool} (h:d<=60->Ro e d ts rest Q b):Ro e d ts rest Q (decide (d<=60)&&b):=by
 by_cases hd:d<=60
 ·have:(decide (d<=60)&&b)=b:=by simp [hd]
  rw [this];exact h hd
 ·have:(decide (d<=60)&&b)=false:=by simp [hd]
  rw [this];exact ⟨fun hb=>(by cases hb),fun _=>⟨_,Ev.Sd aq⟩⟩
theorem nb {s:ah} (h:bx s=true):s.length<=12:=by
 simp only [Go.Sp.bx,aE,decide_eq_true_eq] at h;exact h.1.2
theorem Qe (n:Int):kV (.num n):=by
 intro e k d ts rest hk ho ht hs;obtain ⟨t,rfl,I⟩:=iP ht;obtain ⟨I,F⟩:=QM I;refine Ro.rt ?_ hk hs
 have:=tS (e:=e) (d:=d) (ts:=[t]++rest) (rest:=rest) (Q:=fun t=>er t=(E.num n).tree) (b:=true) fun hd=>⟨fun _=>⟨_,?_,Ev.num hd I⟩,fun h=>by cases h⟩
 ·simpa [E.fit] using this
 ·show er _=_;rw [er,E.tree,F];rfl
theorem Nj (s:ah):kV (.name s):=by
 intro e k d ts rest hk ho ht hs;obtain ⟨t,rfl,I⟩:=iP ht;obtain ⟨I,F⟩:=qX I;simp only [E.ok] at ho;refine Ro.rt ?_ hk hs
 have:=tS (e:=e) (d:=d) (ts:=[t]++rest) (rest:=rest) (Q:=fun t=>er t=(E.name s).tree) (b:=true) fun hd=>⟨fun _=>⟨_,?_,Ev.name hd I (by rw [F];exact nb ho) hs.a hs.b⟩,fun h=>by cases h⟩
 ·simpa [E.fit] using this
 ·show er _=_;rw [dZ,E.tree,F];rfl
theorem TH (s:ah) {a:E} (C:kV a):kV (.at_ s a):=by
 intro e k d ts rest hk ho ht hs;simp only [E.ok,aE] at ho;rw [E.tk] at ht;obtain ⟨t,r,rfl,I,F⟩:=map_cons ht;obtain ⟨u,r,rfl,h3,h4⟩:=map_cons F;obtain ⟨A,B,rfl,h5,h6⟩:=dx h4;obtain ⟨w,rfl,h7⟩:=iP h6;obtain ⟨I,c7⟩:=qX I;obtain ⟨h3,kZ⟩:=eC h3;obtain ⟨h7,lB⟩:=eC h7
 have hl:t.s.length<=12:=by rw [c7];exact nb ho.1
 have hx:=C.rx (e:=e) (d:=d+1) (rest:=w::rest) (s:=[93]) ho.2 h5 (by simp only [sign,getElem?_cons_zero,br,h7,if_true,lB]) (by simp);refine Ro.rt ?_ hk hs
 have he:t::u::(A++[w])++rest=t::u::(A++w::rest):=by simp
 rw [he,E.fit,Bool.and_assoc]
 refine tS fun hd=>⟨fun hb=>?_,fun hb=>?_⟩
 ·obtain ⟨t',k1,k2⟩:=hx.1 hb;exact ⟨_,by show er _=_;rw [dZ,aQ,k1,c7,E.tree];rfl,Ev.ix hd I hl h3 kZ h7 lB k2⟩
 ·obtain ⟨pos,k1⟩:=hx.2 hb;exact ⟨pos,Ev.Zo hd I hl h3 kZ k1⟩
theorem TJ (s:ah) {a:E} (C:kV a):kV (.un s a):=by
 intro e k d ts rest hk ho ht hs;simp only [E.ok,aE,Bool.or_eq_true,beq_iff_eq] at ho;rw [E.tk] at ht;obtain ⟨t,r,rfl,I,F⟩:=map_cons ht;obtain ⟨I,c7⟩:=eC I;have wo:k<=9:=hk;have hg:=Ro.S8 (C.good e 9 (d+1) r rest (aH _) ho.2 F (hs.mono wo));refine Ro.rt ?_ hk hs
 have uF:t.s=[45]\/t.s=[33]\/t.s=[126]:=by rw [c7];rcases ho.1 with (h | h) | h <;> simp [h]
 rw [E.fit]
 refine tS fun hd=>⟨fun hb=>?_,fun hb=>?_⟩
 ·obtain ⟨t',k1,k2⟩:=hg.1 hb;exact ⟨_,by show er _=_;rw [dZ,aQ,k1,c7,E.tree];rfl,Ev.un hd I uF k2⟩
 ·obtain ⟨pos,k1⟩:=hg.2 hb;exact ⟨pos,Ev.unX hd I uF k1⟩
theorem Qb (s:ah) {a b:E} (Ca:kV a) (Cb:kV b):kV (.bin s a b):=by
 intro e k d ts rest hk ho ht hs;simp only [E.ok,aE] at ho;obtain ⟨l1,l2,l3,l4,l5⟩:=qA ho.1.1;rw [E.tk] at ht;obtain ⟨A,B,rfl,I,F⟩:=dx ht;obtain ⟨t,r,rfl,h3,h4⟩:=map_cons F;obtain ⟨h3,kZ⟩:=eC h3;have mq:k<=ep s:=hk;have jK:=hs.mono mq;refine Rt.down (m:=ep s) ?_ l1 mq hs
 have ek:sign (t::(r++rest)) 0=s:=by simp only [sign,getElem?_cons_zero,br,h3,if_true,kZ]
 have ga:=Ca.good e (ep s) d A (t::(r++rest)) aq ho.1.2 I ⟨by rw [ek];exact l3,by rw [ek];exact l4,fun j hj=>by rw [ek];exact l5 j hj⟩;have gb:=Cb.good e (ep s+1) d r rest aq ho.2 h4 (jK.mono aq)
 have he:A++t::r++rest=A++t::(r++rest):=by simp
 rw [he,E.fit]
 change Rt e (ep s) d _ rest _ (Jv a.lv (ep s) d a.fit&&Jv b.lv (ep s+1) d b.fit)
 have uF:t.s∈levels.getD (ep s) []:=by rw [kZ];exact l2
 cases hfa:Jv a.lv (ep s) d a.fit with
 | false =>
  refine ⟨fun hb=>(by cases hb),fun _=>ga.2 hfa⟩
 | true =>
  obtain ⟨ta,k1,k2,_⟩:=ga.1 hfa
  cases hfb:Jv b.lv (ep s+1) d b.fit with
  | false =>
   refine ⟨fun hb=>(by cases hb),fun _=>?_⟩;obtain ⟨pos,k3⟩:=gb.2 hfb;exact ⟨pos,k2 l1 _ (Ev.goX h3 uF k3)⟩
  | true =>
   refine ⟨fun _=>?_,fun hb=>(by cases hb)⟩;obtain ⟨tb,k3,k4,k5⟩:=gb.1 hfb
   have k6:Ev e (.level (ep s+1) d) (r++rest) (.ok (tb,rest)):=by
    rcases Nat.lt_or_ge (ep s+1) 9 with h9 | h9
    ·exact k4 h9 _ (Ev.stop (jK.c _ aq))
    ·have:ep s+1=9:=by omega
     rw [this] at k5 |-;exact k5 rfl
   exact ⟨one 6 t.at_ t.s [ta,tb],by show er _=_;rw [dZ,aQ,aQ,aQ,k1,k3,kZ,E.tree],fun _ x hx=>k2 l1 x (Ev.go h3 uF k6 hx),fun h9=>by omega⟩
def Si (k:K):Prop:=k.1=1\/k.1=2\/(k.1=3/\(k.2.2=[45]\/k.2.2=[33]\/k.2.2=[126]\/k.2.2=[40]))
theorem E.head:∀ (a:E),a.ok=true->∃ k r,a.tk=k::r/\Si k
 | .num n,_=>⟨_,_,rfl,.inl rfl⟩
 | .name s,_=>⟨_,_,rfl,.inr (.inl rfl)⟩
 | .at_ s a,_=>⟨_,_,rfl,.inr (.inl rfl)⟩
 | .call s l,_=>⟨_,_,rfl,.inr (.inl rfl)⟩
 | .un s a,h=>⟨_,_,rfl,.inr (.inr ⟨rfl,by simp only [E.ok,aE,Bool.or_eq_true,beq_iff_eq] at h;rcases h.1 with (h | h) | h <;> simp [h]⟩)⟩
 | .bin s a b,h=>by
  simp only [E.ok,aE] at h;obtain ⟨k,r,I,F⟩:=E.head a h.1.2;rw [E.tk,brk];split
  ·exact ⟨_,_,rfl,.inr (.inr ⟨rfl,by simp⟩)⟩
  ·rw [I];exact ⟨k,_,rfl,F⟩
theorem BD {t:Tok} {r:List Tok} (h:Si (kf t)):sign (t::r) 0=[]\/sign (t::r) 0=[45]\/sign (t::r) 0=[33]\/sign (t::r) 0=[126]\/sign (t::r) 0=[40]:=by
 rcases h with h | h | ⟨h,h'⟩
 ·left;exact D8 (by simp only [kf] at h;omega)
 ·left;exact D8 (by simp only [kf] at h;omega)
 ·right
  have:sign (t::r) 0=t.s:=by simp only [kf] at h;simp only [sign,getElem?_cons_zero,br,h,if_true]
  rw [this];exact h'
def zq (l:List E):Prop:=∀ (e:Int) (d:Nat) (acc:List T) (ts rest:List Tok) (u:Tok),E.df l=true->acc≠[]->ts.map kf=E.rj l->u.kind=3->u.s=[41] ->
 (E.fits l d=true->∃ ys,aQ ys=E.trees l/\Ea e d acc (ts++u::rest) (.ok (acc++ys,rest)))/\(E.fits l d=false->∃ pos,Ea e d acc (ts++u::rest) (.error (9,pos)))
theorem Ng:zq []:=by
 intro e d acc ts rest u _ ha ht hu gD
 have:ts=[]:=by simpa [E.rj] using ht
 subst this;exact ⟨fun _=>⟨[],rfl,by rw [iy];exact Ea.nil hu gD⟩,fun h=>by simp [E.fits] at h⟩
theorem FG {l:List E} {ts rest:List Tok} {u:Tok} (ht:ts.map kf=E.rj l) (hu:u.kind=3) (gD:u.s=[41]):∃ s,sign (ts++u::rest) 0=s/\(s=[]\/s=[41]\/s=[93]\/s=[44]\/s=[59]\/s=[61]):=by
 cases l with
 | nil =>
  have:ts=[]:=by simpa [E.rj] using ht
  subst this;exact ⟨[41],by simp only [nil_append,sign,getElem?_cons_zero,br,hu,if_true,gD],by simp⟩
 | cons a l =>
  rw [E.rj] at ht;obtain ⟨t,r,rfl,I,_⟩:=map_cons ht;exact ⟨[44],tU I,by simp⟩
theorem Lo {a:E} {l:List E} (Ca:kV a) (Cl:zq l):zq (a::l):=by
 intro e d acc ts rest u ho ha ht hu gD;simp only [E.df,aE] at ho;rw [E.rj] at ht;obtain ⟨t,r,rfl,I,F⟩:=map_cons ht;obtain ⟨A,B,rfl,h3,h4⟩:=dx F;obtain ⟨I,c7⟩:=eC I;obtain ⟨s,gk,ji⟩:=FG (rest:=rest) h4 hu gD;have hx:=Ca.rx (e:=e) (d:=d) (rest:=B++u::rest) (s:=s) ho.1 h3 gk ji
 have he:t::(A++B)++u::rest=t::(A++(B++u::rest)):=by simp
 rw [he,E.fits]
 cases hfa:decide (d<=60)&&a.fit (d+1) with
 | false =>
  refine ⟨fun hb=>(by simp at hb),fun _=>?_⟩;obtain ⟨pos,k1⟩:=hx.2 hfa;exact ⟨pos,Ea.Yg ha I c7 k1⟩
 | true =>
  obtain ⟨ta,k1,k2⟩:=hx.1 hfa;have hl:=Cl e d (acc++[ta]) B rest u ho.2 (by simp) h4 hu gD;refine ⟨fun hb=>?_,fun hb=>?_⟩
  ·obtain ⟨ys,k3,k4⟩:=hl.1 (by simpa using hb);exact ⟨ta::ys,by rw [aQ,k1,k3,E.trees],Ea.more ha I c7 k2 (by rw [iw] at k4;exact k4)⟩
  ·obtain ⟨pos,k3⟩:=hl.2 (by simpa using hb);exact ⟨pos,Ea.more ha I c7 k2 k3⟩
theorem Ni (s:ah) {l:List E} (Cf:∀ a r,l=a::r->kV a/\zq r):kV (.call s l):=by
 intro e k d ts rest hk ho ht hs;simp only [E.ok,aE] at ho;rw [E.tk] at ht;obtain ⟨t,r,rfl,I,F⟩:=map_cons ht;obtain ⟨u,r,rfl,h3,h4⟩:=map_cons F;obtain ⟨A,B,rfl,h5,h6⟩:=dx h4;obtain ⟨w,rfl,h7⟩:=iP h6;obtain ⟨I,c7⟩:=qX I;obtain ⟨h3,kZ⟩:=eC h3;obtain ⟨h7,lB⟩:=eC h7
 have hl:t.s.length<=12:=by rw [c7];exact nb ho.1
 refine Ro.rt ?_ hk hs
 have he:t::u::(A++[w])++rest=t::u::(A++w::rest):=by simp
 rw [he,E.fit]
 refine tS fun hd=>?_
 have key:(E.fits l (d+1)=true->∃ ys,aQ ys=E.trees l/\Ea e (d+1) [] (A++w::rest) (.ok (ys,rest)))/\(E.fits l (d+1)=false->∃ pos,Ea e (d+1) [] (A++w::rest) (.error (9,pos))):=by
  cases l with
  | nil =>
   have:A=[]:=by simpa [E.nC] using h5
   subst this;exact ⟨fun _=>⟨[],rfl,Ea.nil h7 lB⟩,fun h=>by simp [E.fits] at h⟩
  | cons a l =>
   obtain ⟨Ca,Cl⟩:=Cf a l rfl;have AF:=ho.2;simp only [E.df,aE] at AF;rw [E.nC] at h5;obtain ⟨A,B,rfl,h3,h4⟩:=dx h5;obtain ⟨s,gk,ji⟩:=FG (rest:=rest) h4 h7 lB;have hx:=Ca.rx (e:=e) (d:=d+1) (rest:=B++w::rest) (s:=s) AF.1 h3 gk ji;rw [iw]
   have cj:sign (A++(B++w::rest)) 0≠[41]:=by
    obtain ⟨kk,rr,k1,k2⟩:=E.head a AF.1;rw [k1] at h3;obtain ⟨t0,r0,rfl,k3,_⟩:=map_cons h3
    rcases BD (r:=r0++(B++w::rest)) (by rw [k3];exact k2) with h | h | h | h | h <;> (rw [cons_append,h];decide)
   rw [E.fits]
   cases hfa:decide (d+1<=60)&&a.fit (d+1+1) with
   | false =>
    refine ⟨fun hb=>(by simp at hb),fun _=>?_⟩;obtain ⟨pos,k1⟩:=hx.2 hfa;exact ⟨pos,Ea.Vr (a:=T.mk ⟨0,0,0,[],[]⟩ []) cj k1⟩
   | true =>
    obtain ⟨ta,k1,k2⟩:=hx.1 hfa;have ow:=Cl e (d+1) [ta] B rest w AF.2 (by simp) h4 h7 lB;refine ⟨fun hb=>?_,fun hb=>?_⟩
    ·obtain ⟨ys,k3,k4⟩:=ow.1 (by simpa using hb);exact ⟨ta::ys,by rw [aQ,k1,k3,E.trees],Ea.first cj k2 k4⟩
    ·obtain ⟨pos,k3⟩:=ow.2 (by simpa using hb);exact ⟨pos,Ea.first cj k2 k3⟩
 refine ⟨fun hb=>?_,fun hb=>?_⟩
 ·obtain ⟨ys,k1,k2⟩:=key.1 hb;exact ⟨_,by show er _=_;rw [dZ,k1,c7,E.tree],Ev.call hd I hl h3 kZ k2⟩
 ·obtain ⟨pos,k1⟩:=key.2 hb;exact ⟨pos,Ev.XF hd I hl h3 kZ k1⟩
mutual
theorem core:∀ (a:E),kV a
 | .num n=>Qe n
 | .name s=>Nj s
 | .at_ s a=>TH s (core a)
 | .call s l=>Ni s (XH l)
 | .un s a=>TJ s (core a)
 | .bin s a b=>Qb s (core a) (core b)
theorem XH:∀ (l:List E),∀ a r,l=a::r->kV a/\zq r
 | []=>fun a r h=>by cases h
 | a::r=>fun a' r' h=>by cases h;exact ⟨core a,Nh r⟩
theorem Nh:∀ (l:List E),zq l
 | []=>Ng
 | a::l=>Lo (core a) (Nh l)
end
inductive S where
 | set (s:ah) (a:E)
 | put (s:ah) (a b:E)
 | if1 (c:E) (b:List S)
 | if2 (c:E) (b b2:List S)
 | while_ (c:E) (b:List S)
 | ret (a:E)
 | do_ (a:E)
 | var (s:ah) (a:E)
mutual
def S.tk:S->List K
 | .set s a=>kN s::kS [61]::(a.tk++[kS [59]])
 | .put s a b=>kN s::kS [91]::(a.tk++kS [93]::kS [61]::(b.tk++[kS [59]]))
 | .if1 c b=>kS eo::kS [40]::(c.tk++kS [41]::kS [123]::(S.nC b++[kS [125]]))
 | .if2 c b b2=>kS eo::kS [40]::(c.tk++kS [41]::kS [123]::(S.nC b++kS [125]::kS eM::kS [123]::(S.nC b2++[kS [125]])))
 | .while_ c b=>kS dL::kS [40]::(c.tk++kS [41]::kS [123]::(S.nC b++[kS [125]]))
 | .ret a=>kS dy::(a.tk++[kS [59]])
 | .do_ a=>a.tk++[kS [59]]
 | .var s a=>kS iv::kN s::kS [61]::(a.tk++[kS [59]])
def S.nC:List S->List K
 | []=>[]
 | a::l=>a.tk++S.nC l
end
mutual
def S.tree:S->T
 | .set s a=>.mk ⟨7,0,0,s,[]⟩ [a.tree]
 | .put s a b=>.mk ⟨8,0,0,s,[]⟩ [a.tree,b.tree]
 | .if1 c b=>.mk ⟨9,0,0,[],[]⟩ [c.tree,.mk ⟨14,0,0,[],[]⟩ (S.trees b)]
 | .if2 c b b2=>.mk ⟨9,0,0,[],[]⟩ [c.tree,.mk ⟨14,0,0,[],[]⟩ (S.trees b),.mk ⟨14,0,0,[],[]⟩ (S.trees b2)]
 | .while_ c b=>.mk ⟨10,0,0,[],[]⟩ [c.tree,.mk ⟨14,0,0,[],[]⟩ (S.trees b)]
 | .ret a=>.mk ⟨11,0,0,[],[]⟩ [a.tree]
 | .do_ a=>.mk ⟨12,0,0,[],[]⟩ [a.tree]
 | .var s a=>.mk ⟨13,0,0,s,[]⟩ [a.tree]
def S.trees:List S->List T
 | []=>[]
 | a::l=>a.tree::S.trees l
end
def qO (a:E) (d:Nat):Bool:=decide (d<=60)&&a.fit (d+1)
mutual
def S.fit:S->Nat->Bool
 | .set _ a,d=>decide (d<=60)&&qO a (d+1)
 | .put s a b,d=>decide (d<=60)&&(qO (.at_ s a) (d+1)&&qO b (d+1))
 | .if1 c b,d=>decide (d<=60)&&(qO c (d+1)&&(decide (d+1<=60)&&S.fits b (d+2)))
 | .if2 c b b2,d=>decide (d<=60)&&(qO c (d+1)&&((decide (d+1<=60)&&S.fits b (d+2))&&(decide (d+1<=60)&&S.fits b2 (d+2))))
 | .while_ c b,d=>decide (d<=60)&&(qO c (d+1)&&(decide (d+1<=60)&&S.fits b (d+2)))
 | .ret a,d=>decide (d<=60)&&qO a (d+1)
 | .do_ a,d=>decide (d<=60)&&qO a (d+1)
 | .var _ a,d=>decide (d<=60)&&qO a (d+1)
def S.fits:List S->Nat->Bool
 | [],_=>true
 | a::l,d=>a.fit d&&S.fits l d
end
mutual
def S.ok:S->Bool
 | .set s a=>bx s&&a.ok
 | .put s a b=>bx s&&(a.ok&&b.ok)
 | .if1 c b=>c.ok&&S.df b
 | .if2 c b b2=>c.ok&&(S.df b&&S.df b2)
 | .while_ c b=>c.ok&&S.df b
 | .ret a=>a.ok
 | .do_ a=>a.ok
 | .var s a=>bx s&&a.ok
def S.df:List S->Bool
 | []=>true
 | a::l=>a.ok&&S.df l
end
def Es (e:Int) (j:rH) (ts:List Tok) (x:Rd T):Prop:=∃ f0,∀ f,f0<=f->rs e f j ts=x
def Eb (e:Int) (d:Nat) (acc:List T) (ts:List Tok) (x:Rd (List T)):Prop:=∃ f0,∀ f,f0<=f->rs.body e f d acc ts=x
theorem Ev.ex {e:Int} {d:Nat} {ts:List Tok} {x:Rd T} (h:Ev e (.expr d) ts x):Go.Xp.expr e d ts=x:=by
 obtain ⟨f0,h0⟩:=h;rw [<-DE (e:=e) (d:=d) (ts:=ts) (f:=f0+(20 * ts.length+12)) aq];exact h0 _ aq
def Xx (e:Int) (d:Nat) (ts rest:List Tok) (Q:T->Prop) (b:Bool):Prop :=
 (b=true->∃ t,Q t/\expr e d ts=.ok (t,rest))/\(b=false->∃ pos,expr e d ts=.error (9,pos))
theorem Rx.xx {e:Int} {d:Nat} {ts rest:List Tok} {Q:T->Prop} {b:Bool} (h:Rx e d ts rest Q b):Xx e d ts rest Q b :=
 ⟨fun hb=>by obtain ⟨t,I,F⟩:=h.1 hb;exact ⟨t,I,F.ex⟩,fun hb=>by obtain ⟨pos,I⟩:=h.2 hb;exact ⟨pos,I.ex⟩⟩
theorem E.xx {a:E} {e:Int} {d:Nat} {ts rest:List Tok} {s:ah} (ho:a.ok=true) (ht:ts.map kf=a.tk) (hs:sign rest 0=s) (pe:s=[]\/s=[41]\/s=[93]\/s=[44]\/s=[59]\/s=[61]) :
  Xx e d (ts++rest) rest (fun t=>er t=a.tree) (qO a d):=((core a).rx ho ht hs pe).xx
def Sx (e:Int) (j:rH) (ts rest:List Tok) (Q:T->Prop) (b:Bool):Prop :=
 (b=true->∃ t,Q t/\Es e j ts (.ok (t,rest)))/\(b=false->∃ pos,Es e j ts (.error (9,pos)))
section
variable {e:Int} {d:Nat} {ts rest:List Tok} {Q:T->Prop} {b:Bool}
theorem sZ {j:rH} {x:Rd T} (hs:∀ f,rs e (f+1) j ts=x):Es e j ts x :=
 ⟨1,fun f hf=>by obtain ⟨f,rfl⟩:∃ g,f=g+1:=⟨f - 1,by omega⟩;exact hs f⟩
theorem qE (h:d<=60->Sx e (.stmt d) ts rest Q b):Sx e (.stmt d) ts rest Q (decide (d<=60)&&b):=by
 by_cases hd:d<=60
 ·have:(decide (d<=60)&&b)=b:=by simp [hd]
  rw [this];exact h hd
 ·have:(decide (d<=60)&&b)=false:=by simp [hd]
  rw [this];exact ⟨fun hb=>(by cases hb),fun _=>⟨_,sZ fun f=>by rw [rs,ae aq]⟩⟩
theorem rO {u:Tok} {s:ah} (hu:u.kind=3) (gD:u.s=s):aP e s (u::rest)=.ok rest:=by
 have hs:sign (u::rest) 0=s:=by simp only [sign,getElem?_cons_zero,br,hu,if_true,gD]
 unfold aP;rw [ae hs];rfl
theorem uV {u:Tok} {s:ah} (hu:u.kind=3) (gD:u.s=s):sign (u::rest) 0=s:=by simp only [sign,getElem?_cons_zero,br,hu,if_true,gD]
theorem wv {a:E} {u w:Tok} {A:List Tok} {sa sb:ah} (ho:a.ok=true) (ht:A.map kf=a.tk) (hu:u.kind=3) (gD:u.s=sa) (hw:w.kind=3) (Fa:w.s=sb) (Wc:sb=[]\/sb=[41]\/sb=[93]\/sb=[44]\/sb=[59]\/sb=[61]) :
  (qO a d=true->∃ t,er t=a.tree/\inner e d sa sb (u::(A++w::rest))=.ok (t,rest))/\(qO a d=false->∃ pos,inner e d sa sb (u::(A++w::rest))=.error (9,pos)):=by
 have hx:=E.xx (e:=e) (d:=d) (rest:=w::rest) ho ht (uV hw Fa) Wc;unfold inner;rw [rO hu gD];refine ⟨fun hb=>?_,fun hb=>?_⟩
 ·obtain ⟨t,I,F⟩:=hx.1 hb;exact ⟨t,I,by simp only;rw [F];simp only;rw [rO hw Fa]⟩
 ·obtain ⟨pos,I⟩:=hx.2 hb;exact ⟨pos,by simp only;rw [I]⟩
theorem KC {a:E} {v u w:Tok} {A:List Tok} (ho:a.ok=true) (hv:v.kind=2) (hvl:v.s.length<=12) (ht:A.map kf=a.tk) (hu:u.kind=3) (gD:u.s=[61]) (hw:w.kind=3) (Fa:w.s=[59]) :
  (qO a d=true->∃ t,er t=a.tree/\lR e d (v::u::(A++w::rest))=.ok ((v.s,t),rest))/\(qO a d=false->∃ pos,lR e d (v::u::(A++w::rest))=.error (9,pos)):=by
 have hi:=wv (e:=e) (d:=d) (rest:=rest) ho ht hu gD hw Fa (by simp);unfold lR;rw [tQ hv hvl];refine ⟨fun hb=>?_,fun hb=>?_⟩
 ·obtain ⟨t,I,F⟩:=hi.1 hb;exact ⟨t,I,by simp only;rw [F]⟩
 ·obtain ⟨pos,I⟩:=hi.2 hb;exact ⟨pos,by simp only;rw [I]⟩
theorem jo {t:Tok} {s:ah} (h:t.kind=2) (hs:s≠[]):sign (t::rest) 0≠s:=by rw [D8 aq];exact fun h=>hs h.symm
def se (s:S):Prop:=∀ (e:Int) (d:Nat) (ts rest:List Tok),s.ok=true->ts.map kf=s.tk->sign rest 0≠eM->Sx e (.stmt d) (ts++rest) rest (fun t=>er t=s.tree) (s.fit d)
theorem Qh (s:ah) (a:E):se (.set s a):=by
 intro e d ts rest ho ht _;simp only [S.ok,aE] at ho;rw [S.tk] at ht;obtain ⟨t,r,rfl,I,F⟩:=map_cons ht;obtain ⟨u,r,rfl,h3,h4⟩:=map_cons F;obtain ⟨A,B,rfl,h5,h6⟩:=dx h4;obtain ⟨w,rfl,h7⟩:=iP h6;obtain ⟨I,c7⟩:=qX I;obtain ⟨h3,kZ⟩:=eC h3;obtain ⟨h7,lB⟩:=eC h7
 have he:t::u::(A++[w])++rest=t::u::(A++w::rest):=by simp
 have hx:=KC (e:=e) (d:=d+1) (rest:=rest) ho.2 I (by rw [c7];exact nb ho.1) h5 h3 kZ h7 lB;rw [he,S.fit];have eV:t.kind=2/\sign (t::u::(A++w::rest)) 1=[61]:=⟨I,by simp only [sign,List.getElem?_cons_succ,getElem?_cons_zero,br,h3,if_true,kZ]⟩
 refine qE fun hd=>⟨fun hb=>?_,fun hb=>?_⟩
 ·obtain ⟨t',k1,k2⟩:=hx.1 hb;refine ⟨one 7 t.at_ t.s [t'],by show er _=_;rw [dZ,aQ,k1,c7,S.tree];rfl,sZ fun f=>?_⟩;rw [rs,ab aq];simp only;rw [ab (jo I aw),ab (fun h=>h.elim (jo I aw) (jo I aw)),ab (jo I aw)];simp only [simple];rw [ae eV,k2]
 ·obtain ⟨pos,k1⟩:=hx.2 hb;refine ⟨pos,sZ fun f=>?_⟩;rw [rs,ab aq];simp only;rw [ab (jo I aw),ab (fun h=>h.elim (jo I aw) (jo I aw)),ab (jo I aw)];simp only [simple];rw [ae eV,k1]
theorem Qi (s:ah) (a:E):se (.var s a):=by
 intro e d ts rest ho ht _;simp only [S.ok,aE] at ho;rw [S.tk] at ht;obtain ⟨v,r,rfl,h0,ht⟩:=map_cons ht;obtain ⟨t,r,rfl,I,F⟩:=map_cons ht;obtain ⟨u,r,rfl,h3,h4⟩:=map_cons F;obtain ⟨A,B,rfl,h5,h6⟩:=dx h4;obtain ⟨w,rfl,h7⟩:=iP h6;obtain ⟨h0,um⟩:=eC h0;obtain ⟨I,c7⟩:=qX I;obtain ⟨h3,kZ⟩:=eC h3;obtain ⟨h7,lB⟩:=eC h7
 have he:v::t::u::(A++[w])++rest=v::t::u::(A++w::rest):=by simp
 have hx:=KC (e:=e) (d:=d+1) (rest:=rest) ho.2 I (by rw [c7];exact nb ho.1) h5 h3 kZ h7 lB;rw [he,S.fit]
 refine qE fun hd=>⟨fun hb=>?_,fun hb=>?_⟩
 ·obtain ⟨t',k1,k2⟩:=hx.1 hb;refine ⟨one 13 v.at_ t.s [t'],by show er _=_;rw [dZ,aQ,k1,c7,S.tree];rfl,sZ fun f=>?_⟩;rw [rs,ab aq];simp only;rw [ae (uV h0 um),tail_cons,k2];rfl
 ·obtain ⟨pos,k1⟩:=hx.2 hb;refine ⟨pos,sZ fun f=>?_⟩;rw [rs,ab aq];simp only;rw [ae (uV h0 um),tail_cons,k1]
theorem Qg (a:E):se (.ret a):=by
 intro e d ts rest ho ht _;simp only [S.ok] at ho;rw [S.tk] at ht;obtain ⟨v,r,rfl,h0,h4⟩:=map_cons ht;obtain ⟨A,B,rfl,h5,h6⟩:=dx h4;obtain ⟨w,rfl,h7⟩:=iP h6;obtain ⟨h0,um⟩:=eC h0;obtain ⟨h7,lB⟩:=eC h7
 have he:v::(A++[w])++rest=v::(A++w::rest):=by simp
 have hx:=E.xx (e:=e) (d:=d+1) (rest:=w::rest) ho h5 (uV h7 lB) (by simp);rw [he,S.fit];have hs:=uV (rest:=A++w::rest) h0 um
 refine qE fun hd=>⟨fun hb=>?_,fun hb=>?_⟩
 ·obtain ⟨t',k1,k2⟩:=hx.1 hb;refine ⟨one 11 v.at_ [] [t'],by show er _=_;rw [dZ,aQ,k1,S.tree];rfl,sZ fun f=>?_⟩;rw [rs,ab aq];simp only;rw [ab (by rw [hs];decide),ab (by rw [hs];decide),ae hs,tail_cons,k2];simp only;rw [rO h7 lB];rfl
 ·obtain ⟨pos,k1⟩:=hx.2 hb;refine ⟨pos,sZ fun f=>?_⟩;rw [rs,ab aq];simp only;rw [ab (by rw [hs];decide),ab (by rw [hs];decide),ae hs,tail_cons,k1]
def rQ (l:List K):Prop:=∀ k∈l,k.1=3->k.2.2≠[61]
theorem rR {l l':List K}:rQ (l++l')↔rQ l/\rQ l':=by
 unfold rQ;constructor
 ·intro h;exact ⟨fun k hk=>h k (List.mem_append_left _ hk),fun k hk=>h k (List.mem_append_right _ hk)⟩
 ·rintro ⟨I,F⟩ k hk;rcases qp hk with hk | hk
  ·exact I k hk
  ·exact F k hk
theorem iq {a:K} {l:List K}:rQ (a::l)↔(a.1=3->a.2.2≠[61])/\rQ l:=by
 unfold rQ;simp only [List.mem_cons,forall_eq_or_imp]
theorem qj:rQ []:=fun k hk=>by cases hk
theorem y8 {lv k:Nat} {x:List K} (h:rQ x):rQ (brk lv k x):=by
 unfold brk;split
 ·rw [iq,rR,iq];exact ⟨fun _=>by decide,h,fun _=>by decide,qj⟩
 ·exact h
mutual
theorem E.zU:∀ (a:E),a.ok=true->rQ a.tk
 | .num n,_=>by rw [E.tk,iq];exact ⟨fun h=>(by cases h),qj⟩
 | .name s,_=>by rw [E.tk,iq];exact ⟨fun h=>(by cases h),qj⟩
 | .at_ s a,h=>by
  simp only [E.ok,aE] at h;rw [E.tk,iq,iq,rR,iq];exact ⟨fun h=>(by cases h),fun _=>aw,E.zU a h.2,fun _=>aw,qj⟩
 | .call s l,h=>by
  simp only [E.ok,aE] at h;rw [E.tk,iq,iq,rR,iq];exact ⟨fun h=>(by cases h),fun _=>aw,(E.O1 l h.2).1,fun _=>aw,qj⟩
 | .un s a,h=>by
  simp only [E.ok,aE,Bool.or_eq_true,beq_iff_eq] at h;rw [E.tk,iq];exact ⟨fun _=>(by rcases h.1 with (h | h) | h <;> (simp only [kS,h];decide)),y8 (E.zU a h.2)⟩
 | .bin s a b,h=>by
  simp only [E.ok,aE] at h;rw [E.tk,rR,iq];exact ⟨y8 (E.zU a h.1.2),fun _ h0=>(by simp only [kS] at h0;rw [h0] at h;exact absurd h.1.1 aw),y8 (E.zU b h.2)⟩
theorem E.O1:∀ (l:List E),E.df l=true->rQ (E.nC l)/\rQ (E.rj l)
 | [],_=>by rw [E.nC,E.rj];exact ⟨qj,qj⟩
 | a::l,h=>by
  simp only [E.df,aE] at h;have I:=E.zU a h.1;have F:=E.O1 l h.2;rw [E.nC,E.rj,rR,iq,rR];exact ⟨⟨I,F.2⟩,fun _=>aw,I,F.2⟩
end
theorem Mm {ts:List Tok} {k:Nat} {s:ah} (h:∀ t,ts[k]?=some t->t.kind=3->t.s≠s) (hs:s≠[]):sign ts k≠s:=by
 unfold sign
 cases hk:ts[k]? with
 | none=>exact fun h=>hs h.symm
 | some t =>
  simp only [br];split
  ·rename_i h3;exact h t hk h3
  ·exact fun h=>hs h.symm
theorem IV {a:E} {A:List Tok} {w:Tok} (ho:a.ok=true) (h5:A.map kf=a.tk) (hw:w.s≠[61]):sign (A++w::rest) 1≠[61]:=by
 obtain ⟨k0,r0,hh,_⟩:=E.head a ho;refine Mm (fun t ht h3 uF=>?_) aw
 have hlen:1<=A.length:=by
  have:=congrArg List.length h5;rw [hh] at this;simp at this;omega
 rw [getElem?_append] at ht;split at ht
 ·have hm:kf t∈a.tk:=by rw [<-h5];exact List.mem_map_of_mem (bm ht)
  exact E.zU a ho _ hm h3 uF
 ·have:1 - A.length=0:=by omega
  rw [this] at ht;cases ht;exact hw uF
theorem TI (a:E):se (.do_ a):=by
 intro e d ts rest ho ht _;simp only [S.ok] at ho;rw [S.tk] at ht;obtain ⟨A,B,rfl,h5,h6⟩:=dx ht;obtain ⟨w,rfl,h7⟩:=iP h6;obtain ⟨h7,lB⟩:=eC h7
 have he:A++[w]++rest=A++w::rest:=by simp
 have hx:=E.xx (e:=e) (d:=d+1) (rest:=w::rest) ho h5 (uV h7 lB) (by simp);have CI:=IV (rest:=rest) (w:=w) ho h5 (by rw [lB];decide);obtain ⟨k0,r0,hh,hf⟩:=E.head a ho;obtain ⟨t,r,rfl,h8,_⟩:=map_cons (by rw [<-hh];exact h5);rw [he,S.fit];rw [cons_append] at hx CI |-;have hfs:=BD (r:=r++w::rest) (by rw [h8];exact hf)
 have eV:¬ (t.kind=2/\sign (t::(r++w::rest)) 1=[61]):=fun h=>CI h.2
 have bX:∀ s:ah,s=iv\/s=eo\/s=dL\/s=dy->sign (t::(r++w::rest)) 0≠s:=by
  intro s hs;rcases hfs with h | h | h | h | h <;> rcases hs with rfl | rfl | rfl | rfl <;> (rw [h];decide)
 refine qE fun hd=>⟨fun hb=>?_,fun hb=>?_⟩
 ·obtain ⟨t',k1,k2⟩:=hx.1 hb;refine ⟨one 12 t.at_ [] [t'],by show er _=_;rw [dZ,aQ,k1,S.tree];rfl,sZ fun f=>?_⟩;rw [rs,ab aq];simp only;rw [ab (bX _ (by simp)),ab (fun h=>h.elim (bX _ (by simp)) (bX _ (by simp))),ab (bX _ (by simp))];simp only [simple];rw [ab eV,k2];simp only;rw [ab (fun h=>by have:=h.2.2;rw [uV h7 lB] at this;revert this;decide),rO h7 lB]
 ·obtain ⟨pos,k1⟩:=hx.2 hb;refine ⟨pos,sZ fun f=>?_⟩;rw [rs,ab aq];simp only;rw [ab (bX _ (by simp)),ab (fun h=>h.elim (bX _ (by simp)) (bX _ (by simp))),ab (bX _ (by simp))];simp only [simple];rw [ab eV,k1]
theorem ZD {s:ah} {a:E} {t u w:Tok} {A:List Tok} {sg:ah} (hn:bx s=true) (ho:a.ok=true) (I:t.kind=2) (c7:t.s=s) (h3:u.kind=3) (kZ:u.s=[91]) (h5:A.map kf=a.tk) (h7:w.kind=3) (lB:w.s=[93]) (hs:sign rest 0=sg) (pe:sg=[]\/sg=[41]\/sg=[93]\/sg=[44]\/sg=[59]\/sg=[61]) :
  Xx e d (t::u::(A++w::rest)) rest (fun x=>er x=(E.at_ s a).tree/\x.n.kind=3/\x.n.at_=t.at_/\x.n.s=s/\∃ y,x.kids=[y]/\er y=a.tree) (qO (.at_ s a) d):=by
 have hl:t.s.length<=12:=by rw [c7];exact nb hn
 have hx:=(core a).rx (e:=e) (d:=d+1+1) (rest:=w::rest) (s:=[93]) ho h5 (uV h7 lB) (by simp)
 have hro:Ro e (d+1) (t::u::(A++w::rest)) rest (fun x=>er x=(E.at_ s a).tree/\x.n.kind=3/\x.n.at_=t.at_/\x.n.s=s/\∃ y,x.kids=[y]/\er y=a.tree) ((E.at_ s a).fit (d+1)):=by
  rw [E.fit,Bool.and_assoc]
  refine tS fun hd=>⟨fun hb=>?_,fun hb=>?_⟩
  ·obtain ⟨t',k1,k2⟩:=hx.1 hb;exact ⟨one 3 t.at_ t.s [t'],⟨by rw [dZ,aQ,k1,c7,E.tree];rfl,rfl,rfl,c7,_,rfl,k1⟩,Ev.ix hd I hl h3 kZ h7 lB k2⟩
  ·obtain ⟨pos,k1⟩:=hx.2 hb;exact ⟨pos,Ev.Zo hd I hl h3 kZ k1⟩
 exact ((hro.rt (aX 9) (FF hs pe)).rx (Df hs pe)).xx
theorem Qf (s:ah) (a b:E):se (.put s a b):=by
 intro e d ts rest ho ht _;simp only [S.ok,aE] at ho;rw [S.tk] at ht;obtain ⟨t,r,rfl,I,F⟩:=map_cons ht;obtain ⟨u,r,rfl,h3,h4⟩:=map_cons F;obtain ⟨A,B,rfl,h5,h6⟩:=dx h4;obtain ⟨w,r,rfl,h7,h8⟩:=map_cons h6;obtain ⟨q,r,rfl,h9,ma⟩:=map_cons h8;obtain ⟨B,C,rfl,pE,o7⟩:=dx ma;obtain ⟨z,rfl,fu⟩:=iP o7;obtain ⟨I,c7⟩:=qX I;obtain ⟨h3,kZ⟩:=eC h3;obtain ⟨h7,lB⟩:=eC h7;obtain ⟨h9,EV⟩:=eC h9;obtain ⟨fu,BG⟩:=eC fu
 have he:t::u::(A++w::q::(B++[z]))++rest=t::u::(A++w::(q::(B++z::rest))):=by simp
 have Wi:=uV (rest:=B++z::rest) h9 EV;have hx:=ZD (e:=e) (d:=d+1) (rest:=q::(B++z::rest)) ho.1 ho.2.1 I c7 h3 kZ h5 h7 lB Wi (by simp);have hv:=wv (e:=e) (d:=d+1) (rest:=rest) ho.2.2 pE h9 EV fu BG (by simp);rw [he,S.fit]
 have eV:¬ (t.kind=2/\sign (t::u::(A++w::(q::(B++z::rest)))) 1=[61]):=fun h=>by
  have:=h.2;simp only [sign,List.getElem?_cons_succ,getElem?_cons_zero,br,h3,if_true,kZ] at this
  revert this;decide
 have bX:∀ s:ah,s≠[]->sign (t::u::(A++w::(q::(B++z::rest)))) 0≠s:=fun s hs=>jo I hs
 refine qE fun hd=>?_
 cases hfa:qO (.at_ s a) (d+1) with
 | false =>
  refine ⟨fun hb=>(by cases hb),fun _=>?_⟩;obtain ⟨pos,k1⟩:=hx.2 hfa;refine ⟨pos,sZ fun f=>?_⟩;rw [rs,ab aq];simp only;rw [ab (bX _ aw),ab (fun h=>h.elim (bX _ aw) (bX _ aw)),ab (bX _ aw)];simp only [simple];rw [ab eV,k1]
 | true =>
  obtain ⟨x,⟨_,k1,k2,k3,y,k4,k5⟩,k6⟩:=hx.1 hfa;refine ⟨fun hb=>?_,fun hb=>?_⟩
  ·obtain ⟨v,k7,k8⟩:=hv.1 (by simpa using hb);refine ⟨one 8 t.at_ s [y,v],by show er _=_;rw [dZ,aQ,aQ,k5,k7,S.tree];rfl,sZ fun f=>?_⟩;rw [rs,ab aq];simp only;rw [ab (bX _ aw),ab (fun h=>h.elim (bX _ aw) (bX _ aw)),ab (bX _ aw)];simp only [simple];rw [ab eV,k6];simp only;rw [ae ⟨k1,k2,Wi⟩,k8];simp only;rw [k3,k4];rfl
  ·obtain ⟨pos,k7⟩:=hv.2 (by simpa using hb);refine ⟨pos,sZ fun f=>?_⟩;rw [rs,ab aq];simp only;rw [ab (bX _ aw),ab (fun h=>h.elim (bX _ aw) (bX _ aw)),ab (bX _ aw)];simp only [simple];rw [ab eV,k6];simp only;rw [ae ⟨k1,k2,Wi⟩,k7]
end
end Go.Xp
