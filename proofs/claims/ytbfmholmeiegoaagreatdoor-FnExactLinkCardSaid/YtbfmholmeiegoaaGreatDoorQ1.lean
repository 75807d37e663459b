/- Part 1 of proofs that are told in their last texts. -/
open List (cons_append getElem?_append getElem?_cons_zero getElem?_eq_none length_cons mem_map nil_append tail_cons)
set_option linter.unusedVariables false
set_option linter.unusedSimpArgs false
set_option maxRecDepth 100000
namespace Go
theorem aq {A:Prop} (s:A:=by omega):A:=s
theorem av {A:Prop} (s:A:=by decide):A:=s
theorem bp {α:Type _} {l:List α} {i:Nat} {a:α} (h:l[i]?=some a):∃ (h:i<l.length),l[i]=a:=List.getElem?_eq_some_iff.1 h
theorem dA {α:Type _} {a b:α} {l:List α} (h:a∈b::l):a=b\/a∈l:=List.mem_cons.1 h
theorem oI {α:Type _} {a:α} {s t:List α} (h:a∈s++t):a∈s\/a∈t:=List.mem_append.1 h
theorem sP {α:Type _} {a b:α} (h:a∈[b]):a=b:=List.mem_singleton.1 h
theorem qV {α:Type _} {l:List α} {i:Nat} (h:l[i]?=none):l.length<=i:=List.getElem?_eq_none_iff.1 h
theorem M:type_of% @if_neg:=@if_neg
theorem ab:type_of% @if_pos:=@if_pos
theorem aH:type_of% @Bool.and_eq_true:=@Bool.and_eq_true
theorem bF:type_of% @List.mem_of_getElem?:=@List.mem_of_getElem?
theorem aU:type_of% @List.length_append:=@List.length_append
theorem aD:type_of% @Nat.le_refl:=@Nat.le_refl
theorem aV:type_of% @List.getElem?_map:=@List.getElem?_map
theorem aM:type_of% @Nat.zero_le:=@Nat.zero_le
theorem fM:type_of% @List.getElem?_eq_getElem:=@List.getElem?_eq_getElem
theorem bP:type_of% @List.length_map:=@List.length_map
theorem gJ:type_of% @List.eq_nil_of_length_eq_zero:=@List.eq_nil_of_length_eq_zero
theorem cm:type_of% @List.take_add_one:=@List.take_add_one
theorem fO:type_of% @Nat.le_of_ble_eq_true:=@Nat.le_of_ble_eq_true
theorem b7:type_of% @List.take_length:=@List.take_length
theorem cK:type_of% @List.append_assoc:=@List.append_assoc
theorem cL:type_of% @Nat.zero_add:=@Nat.zero_add
theorem di:type_of% @List.mem_cons_of_mem:=@List.mem_cons_of_mem
theorem eE:type_of% @List.getElem?_append_right:=@List.getElem?_append_right
theorem cS:type_of% @List.length_take:=@List.length_take
theorem cq:type_of% @List.append_nil:=@List.append_nil
theorem ff:type_of% @List.getElem?_append_left:=@List.getElem?_append_left
theorem dB:type_of% @List.getElem?_set:=@List.getElem?_set
theorem lR:type_of% @List.length_zipWith:=@List.length_zipWith
theorem fP:type_of% @Nat.add_assoc:=@Nat.add_assoc
theorem iJ:type_of% @Nat.sub_self:=@Nat.sub_self
theorem kW:type_of% @List.drop_eq_getElem_cons:=@List.drop_eq_getElem_cons
theorem lS:type_of% @List.take_of_length_le:=@List.take_of_length_le
theorem jZ:type_of% @Nat.le_trans:=@Nat.le_trans
theorem iK:type_of% @List.length_drop:=@List.length_drop
theorem Cu:type_of% @Option.some.inj:=@Option.some.inj
theorem iL:type_of% @List.map_append:=@List.map_append
theorem nu:type_of% @List.contains_iff_mem:=@List.contains_iff_mem
theorem nw:type_of% @of_decide_eq_true:=@of_decide_eq_true
theorem gK:type_of% @List.all_eq_true:=@List.all_eq_true
theorem qU:type_of% @Int.toNat_natCast:=@Int.toNat_natCast
theorem qW:type_of% @Nat.mul_le_mul_right:=@Nat.mul_le_mul_right
theorem xE:type_of% @Nat.lt_of_lt_of_le:=@Nat.lt_of_lt_of_le
theorem qX:type_of% @mem_map:=@mem_map
theorem oY:type_of% @List.any_eq_true:=@List.any_eq_true
end Go
namespace Go.Xp
abbrev ae:=List UInt8
structure Tok where
 kind:Int
 n:Int
 s:ae
 at_:Int
structure Nd where
 kind:Int
 at_:Int
 n:Int
 s:ae
 kids:List Int
inductive T where
 | mk (n:Nd) (kids:List T)
def T.n:T->Nd | .mk n _=>n
def T.kids:T->List T | .mk _ k=>k
abbrev Er:=Int × Int
abbrev Rd (α:Type):=Except Er (α × List Tok)
def bz (t:Tok):ae:=if t.kind=3 then t.s else []
def sign (ts:List Tok) (k:Nat):ae:=match ts[k]? with | some t=>bz t | none=>[]
def place (e:Int):List Tok->Int
 | t::_=>t.at_
 | []=>e
def aP (e:Int) (s:ae) (ts:List Tok):Except Er (List Tok) :=
 if sign ts 0=s then .ok ts.tail else .error (7,place e ts)
def name (e:Int):List Tok->Rd ae
 | []=>.error (7,e)
 | t::r=>if t.kind=2 then (if t.s.length > 12 then .error (8,t.at_) else .ok (t.s,r)) else .error (7,t.at_)
def one (kind at_:Int) (s:ae) (kids:List T):T:=.mk ⟨kind,at_,0,s,[]⟩ kids
def levels:List (List ae):=[[[124,124]],[[38,38]],[[61,61],[33,61],[60],[62],[60,61],[62,61]],[[124]],[[94]],[[38]],[[60,60],[62,62]],[[43],[45]],[[42],[47],[37]]]
def bc:Er:=(-1,-1)
inductive pj where
 | expr (deep:Nat)
 | level (k deep:Nat)
 | loop (k deep:Nat) (out:T)
 | operand (deep:Nat)
def rd (e:Int):Nat->pj->List Tok->Rd T
 | 0,_,_=>.error bc
 | f+1,.expr deep,ts=>if deep > 60 then .error (9,place e ts) else rd e f (.level 0 (deep+1)) ts
 | f+1,.level k deep,ts =>
  if k=9 then rd e f (.operand deep) ts
  else match rd e f (.level (k+1) deep) ts with
   | .error x=>.error x
   | .ok (out,ts)=>rd e f (.loop k deep out) ts
 | f+1,.loop k deep out,ts =>
  match ts with
  | []=>.ok (out,ts)
  | t::r =>
   if t.kind=3/\t.s∈levels.getD k [] then
    match rd e f (.level (k+1) deep) r with
    | .error x=>.error x
    | .ok (b,r)=>rd e f (.loop k deep (one 6 t.at_ t.s [out,b])) r
   else .ok (out,ts)
 | f+1,.operand deep,ts =>
  if deep > 60 then .error (9,place e ts)
  else match ts with
  | []=>.error (7,e)
  | t::r =>
   if t.kind=3 then
    if t.s=[45]\/t.s=[33]\/t.s=[126] then
     match rd e f (.operand (deep+1)) r with
     | .error x=>.error x
     | .ok (a,r)=>.ok (one 5 t.at_ t.s [a],r)
    else if t.s=[40] then
     match rd e f (.expr (deep+1)) r with
     | .error x=>.error x
     | .ok (a,r)=>match aP e [41] r with
      | .error x=>.error x
      | .ok r=>.ok (a,r)
    else .error (7,t.at_)
   else if t.kind=1 then .ok (.mk ⟨1,t.at_,t.n,[],[]⟩ [],r)
   else match name e ts with
    | .error x=>.error x
    | .ok (s,r) =>
     if sign r 0=[91] then
      match rd e f (.expr (deep+1)) r.tail with
      | .error x=>.error x
      | .ok (a,r)=>match aP e [93] r with
       | .error x=>.error x
       | .ok r=>.ok (one 3 t.at_ s [a],r)
     else if sign r 0=[40] then
      match args e f (deep+1) [] r.tail with
      | .error x=>.error x
      | .ok (l,r)=>.ok (one 4 t.at_ s l,r)
     else .ok (one 2 t.at_ s [],r)
where
 args (e:Int):Nat->Nat->List T->List Tok->Rd (List T)
  | 0,_,_,_=>.error bc
  | f+1,deep,acc,ts =>
   if sign ts 0=[41] then .ok (acc,ts.tail)
   else match (if acc=[] then .ok ts else aP e [44] ts) with
    | .error x=>.error x
    | .ok ts=>match rd e f (.expr deep) ts with
     | .error x=>.error x
     | .ok (a,ts)=>args e f deep (acc++[a]) ts
def ia:ae:=[118,97,114]
def eo:ae:=[105,102]
def eL:ae:=[101,108,115,101]
def dQ:ae:=[119,104,105,108,101]
def dz:ae:=[114,101,116,117,114,110]
def mi:ae:=[105,110,116]
def nH:ae:=[102,117,110,99]
inductive rv where
 | block (deep:Nat)
 | stmt (deep:Nat)
def nz (ts:List Tok):Nat:=20 * ts.length+20
def expr (e:Int) (deep:Nat) (ts:List Tok):Rd T:=rd e (nz ts) (.expr deep) ts
def inner (e:Int) (deep:Nat) (a b:ae) (ts:List Tok):Rd T :=
 match aP e a ts with
 | .error x=>.error x
 | .ok ts=>match expr e deep ts with
  | .error x=>.error x
  | .ok (t,ts)=>match aP e b ts with
   | .error x=>.error x
   | .ok ts=>.ok (t,ts)
def lO (e:Int) (deep:Nat) (ts:List Tok):Rd (ae × T) :=
 match name e ts with
 | .error x=>.error x
 | .ok (s,ts)=>match inner e deep [61] [59] ts with
  | .error x=>.error x
  | .ok (t,ts)=>.ok ((s,t),ts)
def simple (e:Int) (deep:Nat) (ts:List Tok):Rd T :=
 match ts with
 | []=>match expr e (deep+1) [] with
  | .error x=>.error x
  | .ok _=>.error (7,e)
 | t::_ =>
  if t.kind=2/\sign ts 1=[61] then
   match lO e (deep+1) ts with
   | .error x=>.error x
   | .ok ((s,a),ts)=>.ok (one 7 t.at_ s [a],ts)
  else match expr e (deep+1) ts with
   | .error x=>.error x
   | .ok (a,ts) =>
    if a.n.kind=3/\a.n.at_=t.at_/\sign ts 0=[61] then
     match inner e (deep+1) [61] [59] ts with
     | .error x=>.error x
     | .ok (v,ts)=>.ok (one 8 t.at_ a.n.s (a.kids.take 1++[v]),ts)
    else match aP e [59] ts with
     | .error x=>.error x
     | .ok ts=>.ok (one 12 t.at_ [] [a],ts)
def rs (e:Int):Nat->rv->List Tok->Rd T
 | 0,_,_=>.error bc
 | f+1,.block deep,ts =>
  if deep > 60 then .error (9,place e ts)
  else match aP e [123] ts with
   | .error x=>.error x
   | .ok r=>match body e f (deep+1) [] r with
    | .error x=>.error x
    | .ok (l,r)=>.ok (one 14 (place e ts) [] l,r)
 | f+1,.stmt deep,ts =>
  if deep > 60 then .error (9,place e ts)
  else
   let at_:=place e ts
   if sign ts 0=ia then
    match lO e (deep+1) ts.tail with
    | .error x=>.error x
    | .ok ((s,a),ts)=>.ok (one 13 at_ s [a],ts)
   else if sign ts 0=eo\/sign ts 0=dQ then
    match inner e (deep+1) [40] [41] ts.tail with
    | .error x=>.error x
    | .ok (c,r)=>match rs e f (.block (deep+1)) r with
     | .error x=>.error x
     | .ok (b,r) =>
      if sign ts 0=eo then
       if sign r 0=eL then
        match rs e f (.block (deep+1)) r.tail with
        | .error x=>.error x
        | .ok (b2,r)=>.ok (one 9 at_ [] [c,b,b2],r)
       else .ok (one 9 at_ [] [c,b],r)
      else .ok (one 10 at_ [] [c,b],r)
   else if sign ts 0=dz then
    match expr e (deep+1) ts.tail with
    | .error x=>.error x
    | .ok (a,ts)=>match aP e [59] ts with
     | .error x=>.error x
     | .ok ts=>.ok (one 11 at_ [] [a],ts)
   else simple e deep ts
where
 body (e:Int):Nat->Nat->List T->List Tok->Rd (List T)
  | 0,_,_,_=>.error bc
  | f+1,deep,acc,ts =>
   if sign ts 0=[125] then .ok (acc,ts.tail)
   else match rs e f (.stmt deep) ts with
    | .error x=>.error x
    | .ok (a,ts)=>body e f deep (acc++[a]) ts
def block (e:Int) (deep:Nat) (ts:List Tok):Rd T:=rs e (nz ts) (.block deep) ts
structure Ar where
 name:ae
 size:Int
structure aJ where
 name:ae
 params:List ae
 tree:T
end Go.Xp
namespace Go.Sp
open Go.Xp
structure RS where
 l:List Tok
 i:Nat
 e:Int
 code:Int
 at_:Int
def RS.ok (p:RS):Prop:=p.i<=p.l.length/\p.l.length<=1099511627776
def RS.place (p:RS):Int:=match p.l[p.i]? with | some t=>t.at_ | none=>p.e
def RS.fail (p:RS) (c a:Int):RS:=if p.code=0 then ⟨p.l,p.i,p.e,c,a⟩ else p
def RS.sign (p:RS) (k:Nat):ae:=if p.code=0 then (match p.l[p.i+k]? with | some t=>bz t | none=>[]) else []
def RS.next (p:RS):RS:=⟨p.l,p.i+1,p.e,p.code,p.at_⟩
def RS.aP (p:RS) (s:ae):RS:=if p.sign 0=s then p.next else p.fail 7 p.place
def RS.name (p:RS):ae × RS :=
 if p.code=0 then match p.l[p.i]? with
  | some t=>if t.kind=2 then (if t.s.length > 12 then ([],p.fail 8 t.at_) else (t.s,p.next)) else ([],p.fail 7 p.place)
  | none=>([],p.fail 7 p.place)
 else ([],p)
def RS.deep (p:RS) (d:Nat):RS:=if d > 60 then p.fail 9 p.place else p
def T.zero:T:=.mk ⟨0,0,0,[],[]⟩ []
inductive J where
 | expr (d:Nat)
 | level (k d:Nat)
 | loop (k d:Nat) (out:T)
 | operand (d:Nat)
 | named (at_:Int) (s:ae) (d:Nat)
mutual
def mE:Nat->J->RS->Option (T × RS)
 | 0,_,_=>none
 | f+1,.expr d,p=>mE f (.level 0 d) (p.deep d)
 | f+1,.level k d,p =>
  if k=9 then mE f (.operand (d+1)) p
  else match mE f (.level (k+1) d) p with
   | none=>none
   | some (out,p)=>mE f (.loop k d out) p
 | f+1,.loop k d out,p =>
  if p.code=0/\(levels.getD k []).contains (p.sign 0)=true then
   match p.l[p.i]? with
   | none=>none
   | some t=>match mE f (.level (k+1) d) p.next with
    | none=>none
    | some (b,p)=>mE f (.loop k d (one 6 t.at_ t.s [out,b])) p
  else some (out,p)
 | f+1,.operand d,p =>
  let p:=p.deep d
  if p.code=0 then match p.l[p.i]? with
   | none=>some (T.zero,p.fail 7 p.place)
   | some t =>
    if t.kind=1 then some (.mk ⟨1,t.at_,t.n,[],[]⟩ [],p.next)
    else if t.kind=2 then mE f (.named t.at_ p.name.1 d) p.name.2
    else if t.s=[45]\/t.s=[33]\/t.s=[126] then match mE f (.operand (d+1)) p.next with
     | none=>none
     | some (a,p)=>some (one 5 t.at_ t.s [a],p)
    else if t.s=[40] then match mE f (.expr (d+1)) p.next with
     | none=>none
     | some (a,p)=>some (a,p.aP [41])
    else some (T.zero,p.fail 7 t.at_)
  else some (T.zero,p.fail 7 p.place)
 | f+1,.named at_ s d,p =>
  if p.sign 0=[91] then match mE f (.expr (d+1)) p.next with
   | none=>none
   | some (a,p)=>some (one 3 at_ s [a],p.aP [93])
  else if p.sign 0=[40] then match mL f (d+1) p.next with
   | none=>none
   | some (l,p)=>some (one 4 at_ s l,p)
  else some (one 2 at_ s [],p)
def mL:Nat->Nat->RS->Option (List T × RS)
 | 0,_,_=>none
 | f+1,d,p=>if p.sign 0=[41] then some ([],p.aP [41]) else match mE f (.expr d) p with
  | none=>none
  | some (a,p)=>uu f d [a] p
def uu:Nat->Nat->List T->RS->Option (List T × RS)
 | 0,_,_,_=>none
 | f+1,d,acc,p=>if p.sign 0=[44] then match mE f (.expr d) p.next with
   | none=>none
   | some (a,p)=>uu f d (acc++[a]) p
  else some (acc,p.aP [41])
end
def RS.ov (p:RS):Bool:=match p.l[p.i]? with | some t=>decide (t.kind=2) | none=>false
def RS.ck (p:RS):Int:=if p.sign 0=eo then 9 else 10
inductive JS where
 | block (d:Nat)
 | stmt (d:Nat)
 | cond (at_:Int) (d:Nat)
def fe (p:RS):Nat:=100 * p.l.length+2000
def mX (d:Nat) (p:RS):Option (T × RS):=mE (fe p) (.expr d) p
mutual
def mS:Nat->JS->RS->Option (T × RS)
 | 0,_,_=>none
 | f+1,.block d,p =>
  let p:=p.deep d
  match mB f (d+1) [] (p.aP [123]) with
  | none=>none
  | some (l,q)=>some (one 14 p.place [] l,q.aP [125])
 | f+1,.stmt d,p =>
  let p:=p.deep d
  let at_:=p.place
  let s:=p.sign 0
  if s=ia then match mX (d+1) ((p.next.name.2).aP [61]) with
   | none=>none
   | some (e,q)=>some (one 13 at_ p.next.name.1 [e],q.aP [59])
  else if s=eo\/s=dQ then mS f (.cond at_ d) p
  else if s=dz then match mX (d+1) p.next with
   | none=>none
   | some (e,q)=>some (one 11 at_ [] [e],q.aP [59])
  else if p.code=0/\p.ov=true/\p.sign 1=[61] then match mX (d+1) (p.name.2.aP [61]) with
   | none=>none
   | some (e,q)=>some (one 7 at_ p.name.1 [e],q.aP [59])
  else match mX (d+1) p with
   | none=>none
   | some (e,q) =>
    if e.n.kind=3/\e.n.at_=at_/\q.sign 0=[61] then match e.kids,mX (d+1) q.next with
     | a::_,some (v,q)=>some (one 8 at_ e.n.s [a,v],q.aP [59])
     | _,_=>none
    else some (one 12 at_ [] [e],q.aP [59])
 | f+1,.cond at_ d,p =>
  match mX (d+1) (p.next.aP [40]) with
  | none=>none
  | some (e,q)=>match mS f (.block (d+1)) (q.aP [41]) with
   | none=>none
   | some (b,q) =>
    if p.ck=9/\q.sign 0=eL then match mS f (.block (d+1)) q.next with
     | none=>none
     | some (b2,q)=>some (one p.ck at_ [] [e,b,b2],q)
    else some (one p.ck at_ [] [e,b],q)
def mB:Nat->Nat->List T->RS->Option (List T × RS)
 | 0,_,_,_=>none
 | f+1,d,acc,p=>if p.code=0/\¬ p.sign 0=[125] then match mS f (.stmt d) p with
   | none=>none
   | some (a,p)=>mB f d (acc++[a]) p
  else some (acc,p)
end
theorem fZ {p:RS} {k:Nat} {s:ae} (h:p.sign k=s) (hs:s≠[]):p.i+k < p.l.length/\p.code=0:=by
 unfold RS.sign at h;split at h
 ·rename_i hc;refine ⟨Nat.lt_of_not_le fun hn=>?_,hc⟩;rw [List.getElem?_eq_none_iff.2 hn] at h;exact hs h.symm
 ·exact absurd h.symm hs
def RS.to (p q:RS):Prop:=q.l=p.l/\q.e=p.e/\q.i<=q.l.length/\p.i<=q.i
theorem RS.to.ok {p q:RS} (h:p.to q) (hp:p.ok):q.ok:=⟨h.2.2.1,by rw [h.1];exact hp.2⟩
theorem RS.to.trans {p q r:RS} (h:p.to q) (k:q.to r):p.to r:=⟨k.1.trans h.1,k.2.1.trans h.2.1,k.2.2.1,jZ h.2.2.2 k.2.2.2⟩
theorem kB {p:RS} (hp:p.ok):p.to p:=⟨rfl,rfl,hp.1,aD _⟩
theorem mJ {p:RS} (hp:p.ok) (c a:Int):p.to (p.fail c a):=by
 unfold RS.fail;split
 ·exact ⟨rfl,rfl,hp.1,aD _⟩
 ·exact kB hp
theorem dT {p:RS} (h:p.i < p.l.length):p.to p.next:=⟨rfl,rfl,h,Nat.le_succ _⟩
theorem fJ {p:RS} (hp:p.ok) {s:ae} (hs:s≠[]):p.to (p.aP s):=by
 unfold RS.aP;split
 ·rename_i h;exact dT (by have:=(fZ h hs).1;omega)
 ·exact mJ hp _ _
theorem rQ {p:RS} (hp:p.ok):p.to p.name.2:=by
 unfold RS.name;split
 ·cases ht:p.l[p.i]? with
  | none=>exact mJ hp _ _
  | some t =>
   simp only;have ak:=(bp ht).1;split
   ·split
    ·exact mJ hp _ _
    ·exact dT ak
   ·exact mJ hp _ _
 ·exact kB hp
theorem oW {p:RS} (hp:p.ok) (d:Nat):p.to (p.deep d):=by
 unfold RS.deep;split
 ·exact mJ hp _ _
 ·exact kB hp
theorem jX {p:RS} {s:ae} (h:p.sign 0=s) (hs:s≠[]):p.to p.next:=dT (by have:=(fZ h hs).1;omega)
theorem vd:∀ (f:Nat),(∀ j p t q,p.ok->mE f j p=some (t,q)->p.to q)/\(∀ d p l q,p.ok->mL f d p=some (l,q)->p.to q)/\(∀ d acc p l q,p.ok->uu f d acc p=some (l,q)->p.to q)
 | 0=>⟨fun j p t q _ h=>by simp [mE] at h,fun d p l q _ h=>by simp [mL] at h,fun d acc p l q _ h=>by simp [uu] at h⟩
 | f+1=>by
  obtain ⟨L,I,h3⟩:=vd f;refine ⟨fun j p t q hp h=>?_,fun d p l q hp h=>?_,fun d acc p l q hp h=>?_⟩
  ·cases j with
   | expr d=>rw [mE] at h;exact (oW hp d).trans (L _ _ _ _ ((oW hp d).ok hp) h)
   | level k d =>
    rw [mE] at h;split at h
    ·exact L _ _ _ _ hp h
    ·split at h
     ·cases h
     ·rename_i out p' he;have:=L _ _ _ _ hp he;exact this.trans (L _ _ _ _ (this.ok hp) h)
   | loop k d out =>
    rw [mE] at h;split at h
    ·split at h
     ·cases h
     ·rename_i t' ht;have hn:=dT (p:=p) (bp ht).1;split at h
      ·cases h
      ·rename_i b p' he;have:=hn.trans (L _ _ _ _ (hn.ok hp) he);exact this.trans (L _ _ _ _ (this.ok hp) h)
    ·cases h;exact kB hp
   | operand d =>
    rw [mE] at h;have hd:=oW hp d;have lC:=hd.ok hp;refine hd.trans ?_;generalize p.deep d=p at *
    try simp only at h
    split at h
    ·split at h
     ·cases h;exact mJ lC _ _
     ·rename_i t' ht;have hn:=dT (p:=p) (bp ht).1;split at h
      ·cases h;exact hn
      ·split at h
       ·exact (rQ lC).trans (L _ _ _ _ ((rQ lC).ok lC) h)
       ·split at h
        ·split at h
         ·cases h
         ·rename_i a p' he
          cases h;exact hn.trans (L _ _ _ _ (hn.ok lC) he)
        ·split at h
         ·split at h
          ·cases h
          ·rename_i a p' he;have:=hn.trans (L _ _ _ _ (hn.ok lC) he)
           cases h;exact this.trans (fJ (this.ok lC) av)
         ·cases h;exact mJ lC _ _
    ·cases h;exact mJ lC _ _
   | named a s d =>
    rw [mE] at h;split at h
    ·rename_i hs;have hn:=jX hs av;split at h
     ·cases h
     ·rename_i a' p' he;have:=hn.trans (L _ _ _ _ (hn.ok hp) he)
      cases h;exact this.trans (fJ (this.ok hp) av)
    ·split at h
     ·rename_i hs;have hn:=jX hs av;split at h
      ·cases h
      ·rename_i a' p' he
       cases h;exact hn.trans (I _ _ _ _ (hn.ok hp) he)
     ·cases h;exact kB hp
  ·rw [mL] at h;split at h
   ·cases h;exact fJ hp av
   ·split at h
    ·cases h
    ·rename_i a p' he;have:=L _ _ _ _ hp he;exact this.trans (h3 _ _ _ _ _ (this.ok hp) h)
  ·rw [uu] at h;split at h
   ·rename_i hs;have hn:=jX hs av;split at h
    ·cases h
    ·rename_i a p' he;have:=hn.trans (L _ _ _ _ (hn.ok hp) he);exact this.trans (h3 _ _ _ _ _ (this.ok hp) h)
   ·cases h;exact fJ hp av
def small (c:UInt8):Bool:=decide ((97:Int)<=(c.toNat:Int))&&decide ((c.toNat:Int)<=122)
def ew (c:UInt8):Bool:=decide ((48:Int)<=(c.toNat:Int))&&decide ((c.toNat:Int)<=57)
def ei (c:UInt8):Bool:=small c || (decide ((65:Int)<=(c.toNat:Int))&&decide ((c.toNat:Int)<=90)) || ew c || ((c.toNat:Int)==95)
def eb (c:UInt8):Bool:=((c.toNat:Int)==32) || ((c.toNat:Int)==9) || ((c.toNat:Int)==10) || ((c.toNat:Int)==13)
def bM (s:ae) (at_:Nat) (t:ae):Bool:=decide (at_+t.length<=s.length)&&((s.take (at_+t.length)).drop at_==t)
def fp (s:ae):Nat->Nat->Nat
 | 0,e=>e
 | f+1,e=>if e < s.length/\bM s e [42,47]=false then fp s f (e+1) else e
def skip (s:ae):Nat->Nat->Nat × Int
 | 0,at_=>(at_,-1)
 | f+1,at_=>match s[at_]? with
  | none=>(at_,-1)
  | some c =>
   if eb c=true then skip s f (at_+1)
   else if bM s at_ [47,42]=true then
    let e:=fp s s.length (at_+2)
    if s.length<=e then (at_,(at_:Int)) else skip s f (e+2)
   else (at_,-1)
theorem kq {s t:ae} {a:Nat} (h:bM s a t=true):a+t.length<=s.length:=by
 simp only [bM,aH,decide_eq_true_eq] at h;exact h.1
theorem tg (s:ae):∀ (f e:Nat),e<=s.length->e<=fp s f e/\fp s f e<=s.length
 | 0,e,h=>⟨aD _,h⟩
 | f+1,e,h=>by
  rw [fp];split
  ·rename_i hc;have:=tg s f (e+1) hc.1;omega
  ·exact ⟨aD _,h⟩
theorem rY (s:ae):∀ (f e:Nat),e<=s.length->s.length<=f+e->¬ (fp s f e < s.length/\bM s (fp s f e) [42,47]=false)
 | 0,e,h,hf=>by rw [fp];omega
 | f+1,e,h,hf=>by
  rw [fp];split
  ·rename_i hc;exact rY s f (e+1) hc.1 aq
  ·assumption
def number (s:ae):Nat->Int->Nat->Int × Nat
 | 0,n,a=>(n,a)
 | f+1,n,a=>match s[a]? with
  | none=>(n,a)
  | some c=>if ew c=true then number s f (if n<=2147483647 then n * 10+((c.toNat:Int) - 48) else n) (a+1) else (n,a)
def run (s:ae) (p:UInt8->Bool):Nat->Nat->Nat
 | 0,a=>a
 | f+1,a=>match s[a]? with
  | none=>a
  | some c=>if p c=true then run s p f (a+1) else a
def words:List ae:=[[105,110,116],[118,97,114],[102,117,110,99],[105,102],[101,108,115,101],[119,104,105,108,101],[114,101,116,117,114,110]]
def bX:List ae:=[[124,124],[38,38],[61,61],[33,61],[60,61],[62,61],[60,60],[62,62],[40],[41],[123],[125],[91],[93],[44],[59],[61],[60],[62],[43],[45],[42],[47],[37],[38],[124],[94],[33],[126]]
def fa (s:ae) (a:Nat):Nat:=run s ei (s.length+1) a
def fE (s:ae) (a:Nat):ae:=(s.take (fa s a)).drop a
def jG (s:ae) (a:Nat) (c:UInt8):Tok × Nat :=
 if ew c=true then (⟨1,(number s (s.length+1) 0 a).1,[],a⟩,(number s (s.length+1) 0 a).2)
 else if small c=true then (⟨if words.contains (fE s a)=true then 3 else 2,0,fE s a,a⟩,fa s a)
 else match bX.find? (bM s a) with
  | some x=>(⟨3,0,x,a⟩,a+x.length)
  | none=>(⟨0,0,[],0⟩,a)
def qP (s:ae):Nat->Nat->List Tok->Option (List Tok)
 | 0,_,_=>none
 | f+1,a,acc=>match s[a]? with
  | none=>some acc
  | some c=>qP s f (skip s (s.length+1) (jG s a c).2).1 (acc++[(jG s a c).1])
def jx (s:ae):Option (List Tok):=qP s (s.length+2) (skip s (s.length+1) 0).1 []
def word (s:ae):Bool:=s.all ei&&(match s with | []=>false | c::_=>small c)
def bt (s:ae):Bool:=word s&&decide (s.length<=12)&&!(words.contains s)
theorem xr (s:ae):∀ (f:Nat) (n:Int) (a:Nat),a<=s.length->s.length < f+a->(∀ c,s[(number s f n a).2]?=some c->ew c=false)/\a<=(number s f n a).2/\(number s f n a).2<=s.length
 | 0,n,a,L,I=>by omega
 | f+1,n,a,L,I=>by
  rw [number]
  cases hc:s[a]? with
  | none=>exact ⟨fun c h=>(by rw [hc] at h;cases h),aD _,L⟩
  | some c =>
   simp only;have ak:=(bp hc).1
   by_cases hd:ew c=true
   ·rw [ab hd];obtain ⟨h3,h4,h5⟩:=xr s f (if n<=2147483647 then n * 10+((c.toNat:Int) - 48) else n) (a+1) aq aq;exact ⟨h3,by omega,h5⟩
   ·rw [M hd];exact ⟨fun c' h=>(by rw [hc] at h;cases h;simpa using hd),aD _,L⟩
theorem qh (s:ae) (p:UInt8->Bool):∀ (f:Nat) (a:Nat),a<=s.length->s.length < f+a->(∀ c,s[run s p f a]?=some c->p c=false)/\a<=run s p f a/\run s p f a<=s.length
 | 0,a,L,I=>by omega
 | f+1,a,L,I=>by
  rw [run]
  cases hc:s[a]? with
  | none=>exact ⟨fun c h=>(by rw [hc] at h;cases h),aD _,L⟩
  | some c =>
   simp only;have ak:=(bp hc).1
   by_cases hd:p c=true
   ·rw [ab hd];obtain ⟨h3,h4,h5⟩:=qh s p f (a+1) aq aq;exact ⟨h3,by omega,h5⟩
   ·rw [M hd];exact ⟨fun c' h=>(by rw [hc] at h;cases h;simpa using hd),aD _,L⟩
theorem zC (s:ae):∀ (f a:Nat),a<=s.length->a<=(skip s f a).1/\(skip s f a).1<=s.length
 | 0,a,h=>⟨aD _,h⟩
 | f+1,a,h=>by
  rw [skip]
  cases hc:s[a]? with
  | none=>exact ⟨aD _,h⟩
  | some c =>
   simp only;have ak:=(bp hc).1;split
   ·have:=zC s f (a+1) ak;omega
   ·split
    ·rename_i hb;have hb:=kq hb;have hb:a+2<=s.length:=hb;have L:=tg s s.length (a+2) hb;have I:=rY s s.length (a+2) hb aq;split
     ·exact ⟨aD _,h⟩
     ·rename_i hn
      have h3:bM s (fp s s.length (a+2)) [42,47]=true:=by
       cases qb:bM s (fp s s.length (a+2)) [42,47] with
       | true=>rfl
       | false=>exact absurd ⟨by omega,qb⟩ I
      have h3:=kq h3;have h3:fp s s.length (a+2)+2<=s.length:=h3;have:=zC s f (fp s s.length (a+2)+2) h3;omega
    ·exact ⟨aD _,h⟩
theorem pP {d:Nat} {p q:RS} {t:T} (hp:p.ok) (h:mX d p=some (t,q)):p.to q:=(vd _).1 _ _ _ _ hp h
theorem KJ:∀ (f:Nat),(∀ j p t q,p.ok->(∀ a d,j=.cond a d->p.i < p.l.length)->mS f j p=some (t,q)->p.to q)/\(∀ d acc p l q,p.ok->mB f d acc p=some (l,q)->p.to q)
 | 0=>⟨fun j p t q _ _ h=>by simp [mS] at h,fun d acc p l q _ h=>by simp [mB] at h⟩
 | f+1=>by
  obtain ⟨L,I⟩:=KJ f
  have dZ:∀ d (p:RS) t q,p.ok->mS f (.block d) p=some (t,q)->p.to q:=fun d p t q hp h=>L _ _ _ _ hp (fun a d' h=>by cases h) h
  refine ⟨fun j p t q hp n7 h=>?_,fun d acc p l q hp h=>?_⟩
  ·cases j with
   | block d =>
    rw [mS] at h;have hd:=oW hp d;refine hd.trans ?_;have lC:=hd.ok hp;generalize p.deep d=p at *
    try simp only at h
    have hm:=fJ lC (s:=[123]) av;split at h
    ·cases h
    ·rename_i l p' he;have:=hm.trans (I _ _ _ _ _ (hm.ok lC) he)
     cases h;exact this.trans (fJ (this.ok lC) av)
   | stmt d =>
    rw [mS] at h;have hd:=oW hp d;refine hd.trans ?_;have lC:=hd.ok hp;generalize p.deep d=p at *
    try simp only at h
    split at h
    ·rename_i hs;have hn:=jX hs av;have eV:=hn.trans (rQ (hn.ok lC));have kH:=eV.trans (fJ (eV.ok lC) (s:=[61]) av);split at h
     ·cases h
     ·rename_i e p' he;have:=kH.trans (pP (kH.ok lC) he)
      cases h;exact this.trans (fJ (this.ok lC) av)
    ·split at h
     ·rename_i hs;refine L _ _ _ _ lC (fun a d' _=>?_) h
      rcases hs with hs | hs
      ·exact (fZ hs av).1
      ·exact (fZ hs av).1
     ·split at h
      ·rename_i hs;have hn:=jX hs av;split at h
       ·cases h
       ·rename_i e p' he;have:=hn.trans (pP (hn.ok lC) he)
        cases h;exact this.trans (fJ (this.ok lC) av)
      ·split at h
       ·have eV:=rQ lC;have kH:=eV.trans (fJ (eV.ok lC) (s:=[61]) av);split at h
        ·cases h
        ·rename_i e p' he;have:=kH.trans (pP (kH.ok lC) he)
         cases h;exact this.trans (fJ (this.ok lC) av)
       ·split at h
        ·cases h
        ·rename_i e p' he;have hx:=pP lC he;split at h
         ·rename_i hs;have hn:=hx.trans (jX hs.2.2 av);split at h
          ·rename_i a r v p2 hk qc;have:=hn.trans (pP (hn.ok lC) qc)
           cases h;exact this.trans (fJ (this.ok lC) av)
          ·cases h
         ·cases h;exact hx.trans (fJ (hx.ok lC) av)
   | cond a d =>
    rw [mS] at h;have hn:=dT (n7 a d rfl);have hm:=hn.trans (fJ (hn.ok hp) (s:=[40]) av)
    try simp only at h
    split at h
    ·cases h
    ·rename_i e p' he;have hx:=hm.trans (pP (hm.ok hp) he);have z8:=hx.trans (fJ (hx.ok hp) (s:=[41]) av);split at h
     ·cases h
     ·rename_i b p2 hb;have fg:=z8.trans (dZ _ _ _ _ (z8.ok hp) hb);split at h
      ·rename_i hs;have bV:=fg.trans (jX hs.2 av);split at h
       ·cases h
       ·rename_i b2 p3 ym
        cases h;exact bV.trans (dZ _ _ _ _ (bV.ok hp) ym)
      ·cases h;exact fg
  ·rw [mB] at h;split at h
   ·split at h
    ·cases h
    ·rename_i a p' he;have:=L _ _ _ _ hp (fun a d' h=>by cases h) he;exact this.trans (I _ _ _ _ _ (this.ok hp) h)
   ·cases h;exact kB hp
structure Fn where
 name:ae
 params:List ae
 body:Int
structure Src where
 globals:List ae
 arrays:List Ar
 fns:List Fn
 nodes:List Nd
def nF (k:Int):Bool:=decide ((1:Int)<=k)&&decide (k<=6)
def gU (k:Int):Bool:=decide ((7:Int)<=k)&&decide (k<=13)
def bB (from_:Nat):Nat->List T->Bool
 | _,[]=>true
 | i,t::r=>(if i < from_ then nF t.n.kind else t.n.kind==14)&&bB from_ (i+1) r
def eZ (s:ae):Bool:=levels.any fun l=>l.contains s
mutual
def sub (nodes:List Nd):Nat->Nat->Option T
 | 0,_=>none
 | f+1,a=>match nodes[a]? with
  | none=>none
  | some n=>match ph nodes f n.kids [] with
   | none=>none
   | some l=>some (.mk n l)
def ph (nodes:List Nd):Nat->List Int->List T->Option (List T)
 | _,[],acc=>some acc
 | 0,_::_,_=>none
 | f+1,k::r,acc=>if k < 0 then none else match sub nodes f k.toNat with
  | none=>none
  | some t=>ph nodes f r (acc++[t])
end
mutual
def pe (nodes:List Nd):Nat->Nat->Nat->Option Int
 | 0,_,_=>none
 | f+1,a,d=>if nodes.length<=a\/d > 800 then some (-1) else match nodes[a]? with
  | none=>none
  | some n=>om nodes f n.kids (a+1) d
def om (nodes:List Nd):Nat->List Int->Int->Nat->Option Int
 | _,[],next,_=>some next
 | 0,_::_,_,_=>none
 | f+1,k::r,next,d=>if k=next then match pe nodes f k.toNat (d+1) with
   | none=>none
   | some e=>if e < 0 then some (-1) else om nodes f r e d
  else some (-1)
end
def own (n:Nd) (k:Nat) (kd:Nat->Bool) (bl:Bool):Bool :=
 if decide (n.at_ < 0) then false else if n.kind != 1&&n.n != 0 then false
 else if n.kind==1 then decide ((0:Int)<=n.n)&&(decide (n.n<=2147483647)&&(n.s==[]&&(k:Int)==0))
 else if n.kind==2 then bt n.s&&(k:Int)==0
 else if n.kind==3 || n.kind==7 || n.kind==13 then bt n.s&&((k:Int)==1&&kd 1)
 else if n.kind==4 then bt n.s&&kd k
 else if n.kind==5 then (n.s==[45] || n.s==[33] || n.s==[126])&&((k:Int)==1&&kd 1)
 else if n.kind==6 then eZ n.s&&((k:Int)==2&&kd 2)
 else if n.kind==8 then bt n.s&&((k:Int)==2&&kd 2)
 else if n.kind==9 then n.s==[]&&(((k:Int)==2 || (k:Int)==3)&&kd 1)
 else if n.kind==10 then n.s==[]&&((k:Int)==2&&kd 1)
 else if n.kind==11 || n.kind==12 then n.s==[]&&((k:Int)==1&&kd 1)
 else if n.kind==14 then bl&&n.s==[]
 else false
def b9 (t:T):Bool:=own t.n t.kids.length (fun m=>bB m 0 t.kids) (t.kids.all fun x=>gU x.n.kind)
mutual
def dv:T->Bool
 | .mk n l=>cy l&&b9 (.mk n l)
def cy:List T->Bool
 | []=>true
 | t::r=>dv t&&cy r
end
mutual
def GG:T->Prop
 | .mk n l=>n.s.length<=1099511627776/\l.length<=1099511627776/\xz l
def xz:List T->Prop
 | []=>True
 | t::r=>GG t/\xz r
end
theorem GJ:∀ {l:List T} {t:T},xz l->t∈l->GG t
 | [],_,_,h=>by cases h
 | a::r,t,h,hm=>by
  rw [xz] at h
  rcases List.mem_cons.mp hm with rfl | hm
  ·exact h.1
  ·exact GJ h.2 hm
theorem GH:∀ {l:List T} {t:T},xz l->GG t->xz (l++[t])
 | [],t,_,ht=>⟨ht,trivial⟩
 | a::r,t,h,ht=>by
  rw [xz] at h;exact ⟨h.1,GH h.2 ht⟩
theorem VB {nodes:List Nd} (hk:∀ n∈nodes,n.s.length<=1099511627776/\n.kids.length<=1099511627776):∀ f:Nat,(∀ a t,sub nodes f a=some t->GG t)/\(∀ ks acc l,ph nodes f ks acc=some l->acc.length+ks.length=l.length/\(xz acc->xz l)):=by
 intro f
 induction f with
 | zero =>
  refine ⟨fun a t h=>by simp [sub] at h,fun ks acc l h=>?_⟩
  cases ks with
  | nil=>rw [ph] at h;cases h;exact ⟨by simp,id⟩
  | cons k r=>simp [ph] at h
 | succ f ih =>
  constructor
  ·intro a t h;rw [sub] at h
   cases hn:nodes[a]? with
   | none=>rw [hn] at h;cases h
   | some n =>
   rw [hn] at h;simp only at h
   cases hs:ph nodes f n.kids [] with
   | none=>rw [hs] at h;cases h
   | some l =>
   rw [hs] at h;cases h;have hi:=ih.2 _ _ _ hs;have hb:=hk n (bF hn);exact ⟨hb.1,by have:=hi.1;simp at this;omega,hi.2 trivial⟩
  ·intro ks acc l h
   cases ks with
   | nil=>rw [ph] at h;cases h;exact ⟨by simp,id⟩
   | cons k r =>
    rw [ph] at h
    by_cases z7:k < 0
    ·rw [ab z7] at h;cases h
    rw [M z7] at h
    cases hs:sub nodes f k.toNat with
    | none=>rw [hs] at h;cases h
    | some t =>
    rw [hs] at h;simp only at h;have I:=ih.2 _ _ _ h;refine ⟨by have:=I.1;simp at this |-;omega,fun ha=>I.2 (GH ha (ih.1 _ _ hs))⟩
def cQ:List ae->Bool:=fun l=>l.all bt
def pd (a:Ar):Bool:=bt a.name&&!(decide (a.size < 0))&&!(decide (2147483647 < a.size))
def fN (nodes:List Nd):Nat:=2 * nodes.length+4
def gM (nodes:List Nd):List Fn->Int->Option (Option Int)
 | [],next=>some (some next)
 | f::r,next=>match pe nodes (fN nodes) next.toNat 0 with
  | none=>none
  | some e=>if f.body≠next\/bt f.name=false\/e < 0 then some none else if cQ f.params=false then some none else match sub nodes (fN nodes) next.toNat with
   | none=>none
   | some t=>if t.n.kind≠14\/dv t=false then some none else gM nodes r e
def oV (p:Src):Option Bool :=
 if cQ p.globals=false then some false else if p.arrays.all pd=false then some false else match gM p.nodes p.fns 0 with
  | none=>none
  | some none=>some false
  | some (some next)=>some (next==(p.nodes.length:Int)&&decide (next<=800))
end Go.Sp
namespace Go.Xp
theorem C0 {e:Int} {s:ae} {ts r:List Tok} (h:aP e s ts=.ok r):r=ts.tail/\sign ts 0=s:=by
 unfold aP at h;split at h
 ·cases h;exact ⟨rfl,by assumption⟩
 ·cases h
theorem xm {e:Int} {s:ae} {ts r:List Tok} (h:aP e s ts=.ok r):r.length<=ts.length:=by
 rw [(C0 h).1,List.length_tail];omega
theorem zu {e:Int} {s:ae} {ts r:List Tok} (hs:s≠[]) (h:aP e s ts=.ok r):r.length < ts.length:=by
 obtain ⟨L,I⟩:=C0 h;rw [L,List.length_tail]
 cases ts with
 | nil=>exact absurd I.symm hs
 | cons=>simp
theorem fZ {s:ae} {ts:List Tok} (hs:s≠[]) (h:sign ts 0=s):ts.tail.length < ts.length:=by
 cases ts with
 | nil=>exact absurd h.symm hs
 | cons=>simp
theorem qf {e:Int} {s:ae} {ts:List Tok} {x:Er} (h:aP e s ts=.error x):x≠bc:=by
 unfold aP at h;split at h
 ·cases h
 ·cases h;intro h0;cases h0
theorem Gf {e:Int} {s:ae} {ts r:List Tok} (h:name e ts=.ok (s,r)):r.length < ts.length:=by
 unfold name at h;split at h
 ·cases h
 ·split at h
  ·split at h
   ·cases h
   ·cases h;simp
  ·cases h
theorem Ja {e:Int} {ts:List Tok} {x:Er} (h:name e ts=.error x):x≠bc:=by
 unfold name at h;split at h
 ·cases h;intro h0;cases h0
 ·split at h
  ·split at h <;> cases h;intro h0;cases h0
  ·cases h;intro h0;cases h0
def pg:pj->Nat->Nat
 | .operand _,n=>20 * n+1
 | .loop _ _ _,n=>20 * n+1
 | .level k _,n=>20 * n+2+(9 - k)
 | .expr _,n=>20 * n+12
def xp (acc:List T) (n:Nat):Nat:=match acc with | []=>20 * n+14 | _=>20 * n+1
def Ks:pj->Prop
 | .level k _=>k<=9
 | .loop k _ _=>k < 9
 | _=>True
def Fj (e:Int) (f:Nat) (j:pj) (ts:List Tok):Prop :=
 Ks j->(∀ t r,rd e f j ts=.ok (t,r)->r.length<=ts.length)/\(pg j ts.length<=f->rd e f j ts≠.error bc)
def QJ (e:Int) (f deep:Nat) (acc:List T) (ts:List Tok):Prop :=
 (∀ t r,rd.args e f deep acc ts=.ok (t,r)->r.length<=ts.length)/\(xp acc ts.length<=f->rd.args e f deep acc ts≠.error bc)
theorem ZU {a:Int}:((7,a):Er)≠bc:=by intro h;cases h
theorem er9 {a:Int}:((9,a):Er)≠bc:=by intro h;cases h
theorem C7 (e:Int):∀ f,(∀ j ts,Fj e f j ts)/\(∀ deep acc ts,QJ e f deep acc ts)
 | 0=>by
  refine ⟨fun j ts _=>⟨fun t r h=>?_,fun h=>?_⟩,fun deep acc ts=>⟨fun t r h=>?_,fun h=>?_⟩⟩
  ·rw [rd] at h;cases h
  ·cases j <;> simp only [pg] at h <;> omega
  ·rw [rd.args] at h;cases h
  ·unfold xp at h;split at h <;> omega
 | f+1=>by
  obtain ⟨ih,yI⟩:=C7 e f;constructor
  ·intro j ts hj
   cases j with
   | expr deep =>
    obtain ⟨L,I⟩:=ih (.level 0 (deep+1)) ts (aM _);rw [rd];split
    ·exact ⟨fun t r h=>(by cases h),fun _ h=>(by cases h)⟩
    ·exact ⟨L,fun h=>I (by simp only [pg] at h |-;omega)⟩
   | level k deep =>
    have hj:k<=9:=hj;rw [rd];split
    ·obtain ⟨L,I⟩:=ih (.operand deep) ts trivial;exact ⟨L,fun h=>I (by simp only [pg] at h |-;omega)⟩
    ·obtain ⟨L,I⟩:=ih (.level (k+1) deep) ts (by show k+1<=9;omega);split
     ·rename_i x hx;exact ⟨fun t r h=>(by cases h),fun h h0=>I (by simp only [pg] at h |-;omega) (hx.trans h0)⟩
     ·rename_i out jC hx;obtain ⟨h3,h4⟩:=ih (.loop k deep out) jC (by show k < 9;omega);have:=L _ _ hx;exact ⟨fun t r h=>jZ (h3 t r h) this,fun h=>h4 (by simp only [pg] at h |-;omega)⟩
   | loop k deep out =>
    have hj:k < 9:=hj
    cases ts with
    | nil=>rw [rd];exact ⟨fun t r h=>(by cases h;exact aD _),fun _ h=>(by cases h)⟩
    | cons t0 r0 =>
     rw [rd];split
     ·obtain ⟨L,I⟩:=ih (.level (k+1) deep) r0 (by show k+1<=9;omega);split
      ·rename_i x hx;exact ⟨fun t r h=>(by cases h),fun h h0=>I (by simp only [pg,length_cons] at h |-;omega) (hx.trans h0)⟩
      ·rename_i b r hx;obtain ⟨h3,h4⟩:=ih (.loop k deep (one 6 t0.at_ t0.s [out,b])) r hj;have:=L _ _ hx;exact ⟨fun t r h=>by have:=h3 t r h;simp only [length_cons];omega,fun h=>h4 (by simp only [pg,length_cons] at h |-;omega)⟩
     ·exact ⟨fun t r h=>(by cases h;exact aD _),fun _ h=>(by cases h)⟩
   | operand deep =>
    cases ts with
    | nil=>rw [rd];split <;> exact ⟨fun t r h=>(by cases h),fun _ h=>(by cases h)⟩
    | cons t0 r0 =>
    rw [rd];split
    ·exact ⟨fun t r h=>(by cases h),fun _ h=>(by cases h)⟩
    split
    ·split
     ·obtain ⟨L,I⟩:=ih (.operand (deep+1)) r0 trivial;split
      ·rename_i x hx;exact ⟨fun t r h=>(by cases h),fun h h0=>I (by simp only [pg,length_cons] at h |-;omega) (hx.trans h0)⟩
      ·rename_i a r hx;have:=L _ _ hx;exact ⟨fun t r h=>(by cases h;simp only [length_cons];omega),fun _ h=>(by cases h)⟩
     split
     ·obtain ⟨L,I⟩:=ih (.expr (deep+1)) r0 trivial;split
      ·rename_i x hx;exact ⟨fun t r h=>(by cases h),fun h h0=>I (by simp only [pg,length_cons] at h |-;omega) (hx.trans h0)⟩
      ·rename_i a r hx;have:=L _ _ hx;split
       ·rename_i x hm;exact ⟨fun t r h=>(by cases h),fun _ h=>qf hm (by cases h;rfl)⟩
       ·rename_i r' hm;have:=xm hm;exact ⟨fun t r h=>(by cases h;simp only [length_cons];omega),fun _ h=>(by cases h)⟩
     ·exact ⟨fun t r h=>(by cases h),fun _ h=>(by cases h)⟩
    split
    ·exact ⟨fun t r h=>(by cases h;simp),fun _ h=>(by cases h)⟩
    split
    ·rename_i x hm;exact ⟨fun t r h=>(by cases h),fun _ h=>Ja hm (by cases h;rfl)⟩
    ·rename_i s r hn;have hl:=Gf hn;simp only [length_cons] at hl
     have ak:r.tail.length<=r.length:=by simp
     split
     ·obtain ⟨L,I⟩:=ih (.expr (deep+1)) r.tail trivial;split
      ·rename_i x hx;exact ⟨fun t r h=>(by cases h),fun h h0=>I (by simp only [pg,length_cons] at h |-;omega) (hx.trans h0)⟩
      ·rename_i a r' hx;have:=L _ _ hx;split
       ·rename_i x hm;exact ⟨fun t r h=>(by cases h),fun _ h=>qf hm (by cases h;rfl)⟩
       ·rename_i r'' hm;have:=xm hm;exact ⟨fun t r h=>(by cases h;simp only [length_cons];omega),fun _ h=>(by cases h)⟩
     split
     ·obtain ⟨L,I⟩:=yI (deep+1) [] r.tail;split
      ·rename_i x hx;exact ⟨fun t r h=>(by cases h),fun h h0=>I (by simp only [pg,xp,length_cons] at h |-;omega) (hx.trans (by cases h0;rfl))⟩
      ·rename_i a r' hx;have:=L _ _ hx;exact ⟨fun t r h=>(by cases h;simp only [length_cons];omega),fun _ h=>(by cases h)⟩
     ·exact ⟨fun t r h=>(by cases h;simp only [length_cons];omega),fun _ h=>(by cases h)⟩
  ·intro deep acc ts;unfold QJ;rw [rd.args];split
   ·exact ⟨fun t r h=>(by cases h;simp),fun _ h=>(by cases h)⟩
   ·by_cases l0:acc=[]
    ·subst l0;simp only [if_true];obtain ⟨L,I⟩:=ih (.expr deep) ts trivial;split
     ·rename_i x hx;exact ⟨fun t r h=>(by cases h),fun h h0=>I (by simp only [pg,xp] at h |-;omega) (hx.trans (by cases h0;rfl))⟩
     ·rename_i a r hx;have:=L _ _ hx;obtain ⟨h3,h4⟩:=yI deep ([]++[a]) r;exact ⟨fun t r h=>by have:=h3 t r h;omega,fun h=>h4 (by simp only [nil_append,xp] at h |-;omega)⟩
    ·rw [M l0]
     have IJ:∀ n,xp acc n=20 * n+1:=by cases acc with | nil=>exact absurd rfl l0 | cons=>exact fun _=>rfl
     split
     ·rename_i x hm;exact ⟨fun t r h=>(by cases h),fun _ h=>qf hm (by cases h;rfl)⟩
     ·rename_i jC hm;have ak:=zu av hm;obtain ⟨L,I⟩:=ih (.expr deep) jC trivial;split
      ·rename_i x hx;exact ⟨fun t r h=>(by cases h),fun h h0=>I (by simp only [pg,IJ] at h |-;omega) (hx.trans (by cases h0;rfl))⟩
      ·rename_i a r hx;have:=L _ _ hx;obtain ⟨h3,h4⟩:=yI deep (acc++[a]) r
       have Y7:xp (acc++[a]) r.length=20 * r.length+1:=by
        cases acc with
        | nil=>exact absurd rfl l0
        | cons=>rfl
       exact ⟨fun t r h=>by have:=h3 t r h;omega,fun h=>h4 (by rw [Y7] ;simp only [IJ] at h;omega)⟩
theorem Vn {e:Int} {f:Nat} {j:pj} {ts:List Tok} {t:T} {r:List Tok} (hj:Ks j) (h:rd e f j ts=.ok (t,r)):r.length<=ts.length:=((C7 e f).1 j ts hj).1 t r h
theorem zy {e:Int} {f:Nat} {j:pj} {ts:List Tok} (hj:Ks j) (h:pg j ts.length<=f):rd e f j ts≠.error bc:=((C7 e f).1 j ts hj).2 h
theorem DB {e:Int} {deep:Nat} {ts:List Tok}:expr e deep ts≠.error bc:=zy (j:=.expr deep) trivial (by simp only [pg,nz];omega)
theorem AD {e:Int} {deep:Nat} {ts:List Tok} {t:T} {r:List Tok} (h:expr e deep ts=.ok (t,r)):r.length<=ts.length:=Vn (j:=.expr deep) trivial h
theorem AP {e:Int} {deep:Nat} {a b:ae} {ts r:List Tok} {t:T} (ha:a≠[]) (h:inner e deep a b ts=.ok (t,r)):r.length < ts.length:=by
 unfold inner at h;split at h
 ·cases h
 ·rename_i t1 L;split at h
  ·cases h
  ·rename_i a1 t2 I;split at h
   ·cases h
   ·rename_i t3 h3;cases h;have:=zu ha L;have:=AD I;have:=xm h3;omega
theorem AO {e:Int} {deep:Nat} {a b:ae} {ts:List Tok} {x:Er} (h:inner e deep a b ts=.error x):x≠bc:=by
 unfold inner at h;split at h
 ·rename_i L;cases h;exact qf L
 ·split at h
  ·rename_i x2 I;cases h;intro h0;exact DB (I.trans (by rw [h0]))
  ·split at h
   ·rename_i h3;cases h;exact qf h3
   ·cases h
theorem GB {e:Int} {deep:Nat} {ts r:List Tok} {t:ae × T} (h:lO e deep ts=.ok (t,r)):r.length < ts.length:=by
 unfold lO at h;split at h
 ·cases h
 ·rename_i s t1 L;split at h
  ·cases h
  ·rename_i a t2 I;cases h;have:=Gf L;have:=AP av I;omega
theorem Gz {e:Int} {deep:Nat} {ts:List Tok} {x:Er} (h:lO e deep ts=.error x):x≠bc:=by
 unfold lO at h;split at h
 ·rename_i L;cases h;exact Ja L
 ·split at h
  ·rename_i I;cases h;exact AO I
  ·cases h
theorem AB {e:Int} {deep:Nat} {ts:List Tok} {x:Er} (h:expr e deep ts=.error x):x≠bc:=fun h0=>DB (h.trans (by rw [h0]))
theorem NN {e:Int} {deep:Nat} {ts r:List Tok} {t:T} (h:simple e deep ts=.ok (t,r)):r.length < ts.length:=by
 unfold simple at h;split at h
 ·split at h <;> cases h
 ·rename_i t0 r0;split at h
  ·split at h
   ·cases h
   ·rename_i s a t1 L;cases h;exact GB L
  ·split at h
   ·cases h
   ·rename_i a t1 L;have:=AD L;split at h
    ·split at h
     ·cases h
     ·rename_i v t2 I;cases h;have:=AP av I;omega
    ·split at h
     ·cases h
     ·rename_i t2 I;cases h;have:=zu av I;omega
theorem NM {e:Int} {deep:Nat} {ts:List Tok} {x:Er} (h:simple e deep ts=.error x):x≠bc:=by
 unfold simple at h;split at h
 ·split at h
  ·rename_i L;cases h;exact AB L
  ·cases h;exact ZU
 ·split at h
  ·split at h
   ·rename_i L;cases h;exact Gz L
   ·cases h
  ·split at h
   ·rename_i L;cases h;exact AB L
   ·split at h
    ·split at h
     ·rename_i I;cases h;exact AO I
     ·cases h
    ·split at h
     ·rename_i I;cases h;exact qf I
     ·cases h
def QL (e:Int) (f:Nat) (j:rv) (ts:List Tok):Prop :=
 (∀ t r,rs e f j ts=.ok (t,r)->r.length < ts.length)/\(3 * ts.length+1<=f->rs e f j ts≠.error bc)
def QK (e:Int) (f deep:Nat) (acc:List T) (ts:List Tok):Prop :=
 (∀ t r,rs.body e f deep acc ts=.ok (t,r)->r.length < ts.length)/\(3 * ts.length+2<=f->rs.body e f deep acc ts≠.error bc)
theorem C9 (e:Int):∀ f,(∀ j ts,QL e f j ts)/\(∀ deep acc ts,QK e f deep acc ts)
 | 0=>by
  refine ⟨fun j ts=>⟨fun t r h=>?_,fun h=>by omega⟩,fun deep acc ts=>⟨fun t r h=>?_,fun h=>by omega⟩⟩
  ·rw [rs] at h;cases h
  ·rw [rs.body] at h;cases h
 | f+1=>by
  obtain ⟨ih,yI⟩:=C9 e f;constructor
  ·intro j ts;unfold QL
   cases j with
   | block deep =>
    rw [rs];split
    ·exact ⟨fun t r h=>(by cases h),fun _ h=>(by cases h)⟩
    ·split
     ·rename_i x hm;exact ⟨fun t r h=>(by cases h),fun _ h=>qf hm (by cases h;rfl)⟩
     ·rename_i r0 hm;have h0:=zu av hm;obtain ⟨L,I⟩:=yI (deep+1) [] r0;split
      ·rename_i x hx;exact ⟨fun t r h=>(by cases h),fun h h0=>I aq (hx.trans (by cases h0;rfl))⟩
      ·rename_i l r hx;have:=L _ _ hx;exact ⟨fun t r h=>(by cases h;omega),fun _ h=>(by cases h)⟩
   | stmt deep =>
    rw [rs];split
    ·exact ⟨fun t r h=>(by cases h),fun _ h=>(by cases h)⟩
    ·simp only;split
     ·rename_i hv;have h0:=fZ av hv;split
      ·rename_i x hx;exact ⟨fun t r h=>(by cases h),fun _ h=>Gz hx (by cases h;rfl)⟩
      ·rename_i s a t1 hx;have:=GB hx;exact ⟨fun t r h=>(by cases h;omega),fun _ h=>(by cases h)⟩
     split
     ·rename_i hv
      have h0:ts.tail.length < ts.length:=by
       rcases hv with hv | hv <;> exact fZ av hv
      split
      ·rename_i x hx;exact ⟨fun t r h=>(by cases h),fun _ h=>AO hx (by cases h;rfl)⟩
      ·rename_i c r1 hx;have hc:=AP av hx;obtain ⟨L,I⟩:=ih (.block (deep+1)) r1;split
       ·rename_i x IP;exact ⟨fun t r h=>(by cases h),fun h h0=>I aq (IP.trans h0)⟩
       ·rename_i b r2 IP;have hb:=L _ _ IP;split
        ·split
         ·obtain ⟨h3,h4⟩:=ih (.block (deep+1)) r2.tail
          have ht:r2.tail.length<=r2.length:=by simp
          split
          ·rename_i x MQ;exact ⟨fun t r h=>(by cases h),fun h h0=>h4 aq (MQ.trans h0)⟩
          ·rename_i b2 r3 MQ;have:=h3 _ _ MQ;exact ⟨fun t r h=>(by cases h;omega),fun _ h=>(by cases h)⟩
         ·exact ⟨fun t r h=>(by cases h;omega),fun _ h=>(by cases h)⟩
        ·exact ⟨fun t r h=>(by cases h;omega),fun _ h=>(by cases h)⟩
     split
     ·rename_i hv;have h0:=fZ av hv;split
      ·rename_i x hx;exact ⟨fun t r h=>(by cases h),fun _ h=>AB hx (by cases h;rfl)⟩
      ·rename_i a r1 hx;have:=AD hx;split
       ·rename_i x hm;exact ⟨fun t r h=>(by cases h),fun _ h=>qf hm (by cases h;rfl)⟩
       ·rename_i r2 hm;have:=xm hm;exact ⟨fun t r h=>(by cases h;omega),fun _ h=>(by cases h)⟩
     ·exact ⟨fun t r h=>NN h,fun _ h=>NM h rfl⟩
  ·intro deep acc ts;unfold QK;rw [rs.body];split
   ·rename_i hv;have h0:=fZ av hv;exact ⟨fun t r h=>(by cases h;exact h0),fun _ h=>(by cases h)⟩
   ·obtain ⟨L,I⟩:=ih (.stmt deep) ts;split
    ·rename_i x hx;exact ⟨fun t r h=>(by cases h),fun h h0=>I aq (hx.trans (by cases h0;rfl))⟩
    ·rename_i a r hx;have:=L _ _ hx;obtain ⟨h3,h4⟩:=yI deep (acc++[a]) r;exact ⟨fun t r h=>by have:=h3 t r h;omega,fun h=>h4 aq⟩
theorem Vp {e:Int} {f:Nat} {j:rv} {ts:List Tok} {t:T} {r:List Tok} (h:rs e f j ts=.ok (t,r)):r.length < ts.length:=((C9 e f).1 j ts).1 t r h
theorem wP {e:Int} {deep:Nat} {ts:List Tok}:block e deep ts≠.error bc:=((C9 e _).1 (.block deep) ts).2 (by simp only [nz];omega)
theorem W8 {e:Int} {deep:Nat} {ts:List Tok} {t:T} {r:List Tok} (h:block e deep ts=.ok (t,r)):r.length < ts.length:=Vp h
end Go.Xp
namespace Go.Sp
open Go.Xp
structure On (p:RS) (ts:List Tok):Prop where
 code:p.code=0
 le:p.i<=p.l.length
 rest:p.l.drop p.i=ts
 kinds:∀ t∈p.l,t.kind=1\/t.kind=2\/t.kind=3
def bS (p q:RS):Except Er (List Tok)->Prop
 | .ok r=>On q r/\q.l=p.l/\q.e=p.e
 | .error x=>q.code=x.1/\x.1≠0/\q.at_=x.2/\q.l=p.l/\q.e=p.e
def jP {α:Type} (p q:RS) (t:α):Rd α->Prop
 | .ok (t',r)=>t=t'/\bS p q (.ok r)
 | .error x=>bS p q (.error x)
section
variable {p q q':RS} {ts r:List Tok} {x:Er}
theorem bS.err (h:bS p q (.error x)):q.code≠0:=by rw [h.1];exact h.2.1
theorem bS.tr {y:Except Er (List Tok)} (h:bS p q (.ok r)) (k:bS q q' y):bS p q' y:=by
 obtain ⟨_,L,I⟩:=h
 cases y with
 | ok r=>exact ⟨k.1,k.2.1.trans L,k.2.2.trans I⟩
 | error x=>exact ⟨k.1,k.2.1,k.2.2.1,k.2.2.2.1.trans L,k.2.2.2.2.trans I⟩
theorem jP.tr {α:Type} {t:α} {y:Rd α} (h:bS p q (.ok r)) (k:jP q q' t y):jP p q' t y:=by
 cases y with
 | ok r=>obtain ⟨t',r⟩:=r;exact ⟨k.1,h.tr k.2⟩
 | error x=>exact h.tr (y:=.error x) k
theorem On.self (h:On p ts):bS p p (.ok ts):=⟨h,rfl,rfl⟩
theorem On.at (h:On p ts) (k:Nat):p.l[p.i+k]?=ts[k]?:=by rw [<-h.rest,List.getElem?_drop]
theorem On.sign (h:On p ts) (k:Nat):p.sign k=Go.Xp.sign ts k:=by
 unfold RS.sign Go.Xp.sign;rw [ab h.code,h.at]
 all_goals (cases ts[k]? <;> rfl)
theorem On.place (h:On p ts):p.place=Go.Xp.place p.e ts:=by
 have h0:=h.at 0;unfold RS.place;rw [Nat.add_zero] at h0;rw [h0]
 cases ts with
 | nil=>rfl
 | cons t r=>rfl
theorem On.next {t:Tok} (h:On p (t::r)):bS p p.next (.ok r):=by
 have L:p.i < p.l.length:=by
  have:=congrArg List.length h.rest;simp at this;omega
 refine ⟨⟨h.code,L,?_,h.kinds⟩,rfl,rfl⟩;show p.l.drop (p.i+1)=r;rw [<-List.tail_drop,h.rest];rfl
theorem On.fail (h:On p ts) (c a:Int) (hc:c≠0):bS p (p.fail c a) (.error (c,a)):=by
 unfold RS.fail;rw [ab h.code];exact ⟨rfl,hc,rfl,rfl,rfl⟩
theorem tZ (h:p.code≠0) (c a:Int):p.fail c a=p:=by unfold RS.fail;rw [M h]
theorem ma (h:p.code≠0) (k:Nat):p.sign k=[]:=by unfold RS.sign;rw [M h]
theorem gP (h:p.code≠0) {s:ae} (hs:s≠[]):p.aP s=p:=by
 unfold RS.aP;rw [ma h,M (fun e=>hs e.symm),tZ h]
theorem rB (h:p.code≠0) (d:Nat):p.deep d=p:=by unfold RS.deep;split <;> simp [tZ h]
theorem dS {s:ae} (hs:s≠[]) (h:Go.Xp.sign ts 0=s):∃ t,ts=t::ts.tail/\t.kind=3/\t.s=s:=by
 cases ts with
 | nil=>exact absurd h.symm hs
 | cons t r =>
  refine ⟨t,rfl,?_⟩;simp only [Go.Xp.sign,getElem?_cons_zero,bz] at h;split at h
  ·exact ⟨by assumption,h⟩
  ·exact absurd h.symm hs
theorem On.aP (h:On p ts) {s:ae} (hs:s≠[]):bS p (p.aP s) (Go.Xp.aP p.e s ts):=by
 unfold RS.aP Go.Xp.aP;rw [h.sign]
 by_cases h0:Go.Xp.sign ts 0=s
 ·rw [ab h0,ab h0];obtain ⟨t,ht,_⟩:=dS hs h0;rw [ht] at h
  exact h.next
 ·rw [M h0,M h0,h.place];exact h.fail 7 _ av
theorem On.name (h:On p ts):jP p p.name.2 p.name.1 (Go.Xp.name p.e ts)\/∃ x,Go.Xp.name p.e ts=.error x/\bS p p.name.2 (.error x):=by
 have h0:=h.at 0;rw [Nat.add_zero] at h0;unfold RS.name;rw [ab h.code,h0]
 cases ts with
 | nil=>exact .inr ⟨_,rfl,by rw [h.place];exact h.fail 7 _ av⟩
 | cons t r =>
  simp only [getElem?_cons_zero,Go.Xp.name];split
  ·split
   ·exact .inr ⟨_,rfl,h.fail 8 _ av⟩
   ·exact .inl ⟨rfl,h.next⟩
  ·refine .inr ⟨_,rfl,?_⟩;have:p.place=t.at_:=h.place;rw [this];exact h.fail 7 _ av
end
theorem BR {p:RS} (h:p.code≠0):(∀ g d,1<=g->mE g (.operand d) p=some (T.zero,p))/\(∀ g k d out,1<=g->mE g (.loop k d out) p=some (out,p))/\(∀ n g k d,k+n=9->n+2<=g->mE g (.level k d) p=some (T.zero,p)):=by
 have L:∀ g d,1<=g->mE g (.operand d) p=some (T.zero,p):=by
  intro g d hg
  cases g with
  | zero=>omega
  | succ g=>rw [mE];simp [rB h,h,tZ h]
 have I:∀ g k d out,1<=g->mE g (.loop k d out) p=some (out,p):=by
  intro g k d out hg
  cases g with
  | zero=>omega
  | succ g=>rw [mE];simp [h]
 refine ⟨L,I,fun n=>?_⟩
 induction n with
 | zero =>
  intro g k d hk hg
  cases g with
  | zero=>omega
  | succ g=>rw [mE,ab aq];exact L g _ aq
 | succ n ih =>
  intro g k d hk hg
  cases g with
  | zero=>omega
  | succ g =>
   rw [mE,M aq,ih g (k+1) d aq aq];exact I g _ _ _ aq
theorem U7 {p:RS} (h:p.code≠0) {g d:Nat} (hg:12<=g):mE g (.expr d) p=some (T.zero,p):=by
 cases g with
 | zero=>omega
 | succ g=>rw [mE,rB h];exact (BR h).2.2 9 g 0 d rfl aq
def KF (f:Nat):Nat:=2 * f+20
structure JE (f:Nat):Prop where
 expr:∀ d ts p,On p ts->rd p.e f (.expr d) ts≠.error bc->∃ t q,(∀ g,KF f<=g->mE g (.expr d) p=some (t,q))/\jP p q t (rd p.e f (.expr d) ts)
 level:∀ k d ts p,k<=9->On p ts->rd p.e f (.level k (d+1)) ts≠.error bc->∃ t q,(∀ g,KF f<=g->mE g (.level k d) p=some (t,q))/\jP p q t (rd p.e f (.level k (d+1)) ts)
 loop:∀ k d out ts p,k < 9->On p ts->rd p.e f (.loop k (d+1) out) ts≠.error bc->∃ t q,(∀ g,KF f<=g->mE g (.loop k d out) p=some (t,q))/\jP p q t (rd p.e f (.loop k (d+1) out) ts)
 operand:∀ d ts p,On p ts->rd p.e f (.operand d) ts≠.error bc->∃ t q,(∀ g,KF f<=g->mE g (.operand d) p=some (t,q))/\jP p q t (rd p.e f (.operand d) ts)
 args:∀ d acc ts p,acc≠[]->On p ts->rd.args p.e f d acc ts≠.error bc->∃ t q,(∀ g,KF f<=g->uu g d acc p=some (t,q))/\jP p q t (rd.args p.e f d acc ts)
 args0:∀ d ts p,On p ts->rd.args p.e f d [] ts≠.error bc->∃ t q,(∀ g,KF f<=g->mL g d p=some (t,q))/\jP p q t (rd.args p.e f d [] ts)
theorem B1:∀ k,(levels.getD k []).contains []=false:=by
 intro k
 have h:∀ l∈levels,l.contains ([]:ae)=false:=by decide
 rw [List.getD_eq_getElem?_getD]
 cases hk:levels[k]? with
 | none=>rfl
 | some l=>exact h l (bF hk)
theorem up {f g:Nat} (h:KF (f+1)<=g):∃ g',g=g'+1/\KF f+1<=g':=⟨g - 1,by unfold KF at h;omega,by unfold KF at *;omega⟩
theorem je (f:Nat):JE f:=by
 induction f with
 | zero =>
  refine ⟨fun d ts p _ h=>absurd ?_ h,fun k d ts p _ _ h=>absurd ?_ h,fun k d out ts p _ _ h=>absurd ?_ h,fun d ts p _ h=>absurd ?_ h,fun d acc ts p _ _ h=>absurd ?_ h,fun d ts p _ h=>absurd ?_ h⟩ <;> simp [rd,rd.args]
 | succ f C =>
  refine ⟨fun d ts p hp h=>?_,fun k d ts p hk hp h=>?_,fun k d out ts p hk hp h=>?_,fun d ts p hp h=>?_,fun d acc ts p l0 hp h=>?_,fun d ts p hp h=>?_⟩
  ·rw [rd] at h |-
   by_cases hd:d > 60
   ·rw [ab hd] at h |-;have hf:=hp.fail 9 p.place av;refine ⟨T.zero,p.fail 9 p.place,fun g hg=>?_,by rw [<-hp.place];exact hf⟩;obtain ⟨g,rfl,hg⟩:=up hg;rw [mE];unfold RS.deep;rw [ab hd];exact (BR hf.err).2.2 9 g 0 d rfl (by unfold KF at hg;omega)
   ·rw [M hd] at h |-;obtain ⟨t,q,L,I⟩:=C.level 0 d ts p aq hp h;refine ⟨t,q,fun g hg=>?_,I⟩;obtain ⟨g,rfl,hg⟩:=up hg;rw [mE];unfold RS.deep;rw [M hd];exact L g aq
  ·rw [rd] at h |-
   by_cases h9:k=9
   ·rw [ab h9] at h |-;obtain ⟨t,q,L,I⟩:=C.operand (d+1) ts p hp h;refine ⟨t,q,fun g hg=>?_,I⟩;obtain ⟨g,rfl,hg⟩:=up hg;rw [mE,ab h9];exact L g aq
   ·rw [M h9] at h |-
    cases he:rd p.e f (.level (k+1) (d+1)) ts with
    | error x =>
     rw [he] at h
     have hx:x≠bc:=fun h0=>h (by rw [h0])
     obtain ⟨t,q,L,I⟩:=C.level (k+1) d ts p aq hp (by rw [he];intro h0;cases h0;exact hx rfl);rw [he] at I;refine ⟨t,q,fun g hg=>?_,I⟩;obtain ⟨g,rfl,hg⟩:=up hg;rw [mE,M h9,L g aq];exact (BR (bS.err I)).2.1 g _ _ _ (by unfold KF at hg;omega)
    | ok r =>
     obtain ⟨t',r⟩:=r;rw [he] at h;simp only at h |-;obtain ⟨t,q,L,I⟩:=C.level (k+1) d ts p aq hp (by rw [he];intro h0;cases h0);rw [he] at I;obtain ⟨rfl,I⟩:=I;rw [<-I.2.2] at h |-;obtain ⟨t3,q3,h3,h4⟩:=C.loop k d t r q aq I.1 h;refine ⟨t3,q3,fun g hg=>?_,jP.tr I h4⟩;obtain ⟨g,rfl,hg⟩:=up hg;rw [mE,M h9,L g aq];exact h3 g aq
  ·cases ts with
   | nil =>
    rw [rd];refine ⟨out,p,fun g hg=>?_,rfl,hp.self⟩;obtain ⟨g,rfl,hg⟩:=up hg;rw [mE,M];rw [hp.sign];rintro ⟨_,h0⟩;rw [show sign ([]:List Tok) 0=[] from rfl,B1] at h0;cases h0
   | cons t r =>
    rw [rd] at h |-;have hs:p.sign 0=bz t:=hp.sign 0
    by_cases hc:t.kind=3/\t.s∈levels.getD k []
    ·rw [ab hc] at h |-
     have hn:=hp.next
     have sY:p.l[p.i]?=some t:=hp.at 0;have n7:p.code=0/\(levels.getD k []).contains (p.sign 0)=true:=⟨hp.code,by rw [hs];unfold bz;rw [ab hc.1];simpa using hc.2⟩;rw [show p.e=p.next.e from rfl] at h |-
     cases he:rd p.next.e f (.level (k+1) (d+1)) r with
     | error x =>
      rw [he] at h
      have hx:x≠bc:=fun h0=>h (by rw [h0])
      obtain ⟨b,q,L,I⟩:=C.level (k+1) d r p.next aq hn.1 (by rw [he];intro h0;cases h0;exact hx rfl)
      rw [he] at I;refine ⟨one 6 t.at_ t.s [out,b],q,fun g hg=>?_,hn.tr (y:=.error x) I⟩;obtain ⟨g,rfl,hg⟩:=up hg;rw [mE,ab n7,sY];simp only;rw [L g aq];exact (BR (bS.err I)).2.1 g _ _ _ (by unfold KF at hg;omega)
     | ok x =>
      obtain ⟨b',r'⟩:=x;rw [he] at h;simp only at h |-
      obtain ⟨b,q,L,I⟩:=C.level (k+1) d r p.next aq hn.1 (by rw [he];intro h0;cases h0)
      rw [he] at I;obtain ⟨rfl,I⟩:=I;rw [<-I.2.2] at h |-;obtain ⟨t3,q3,h3,h4⟩:=C.loop k d (one 6 t.at_ t.s [out,b]) r' q hk I.1 h;refine ⟨t3,q3,fun g hg=>?_,jP.tr (hn.tr I) h4⟩;obtain ⟨g,rfl,hg⟩:=up hg;rw [mE,ab n7,sY];simp only;rw [L g aq];exact h3 g aq
    ·rw [M hc];refine ⟨out,p,fun g hg=>?_,rfl,hp.self⟩;obtain ⟨g,rfl,hg⟩:=up hg;rw [mE,M];rintro ⟨_,h0⟩;rw [hs] at h0;unfold bz at h0;split at h0
     ·rename_i h3;exact hc ⟨h3,by simpa using h0⟩
     ·rw [B1] at h0;cases h0
  ·rw [rd.eq_def] at h |-;simp only at h |-
   by_cases hd:d > 60
   ·rw [ab hd] at h |-;have hf:=hp.fail 9 p.place av;refine ⟨T.zero,p.fail 9 p.place,fun g hg=>?_,by rw [<-hp.place];exact hf⟩;obtain ⟨g,rfl,hg⟩:=up hg;rw [mE];unfold RS.deep;rw [ab hd];simp [hf.err,tZ hf.err]
   ·rw [M hd] at h |-
    have eg:p.deep d=p:=by unfold RS.deep;rw [M hd]
    cases ts with
    | nil =>
     simp only;have h0:p.l[p.i]?=none:=hp.at 0;refine ⟨T.zero,p.fail 7 p.place,fun g hg=>?_,?_⟩
     ·obtain ⟨g,rfl,hg⟩:=up hg;rw [mE];simp [eg,hp.code,h0]
     ·rw [hp.place];exact hp.fail 7 _ av
    | cons t r =>
     simp only at h |-;have sY:p.l[p.i]?=some t:=hp.at 0
     have hn:=hp.next
     by_cases h3:t.kind=3
     ·rw [ab h3] at h |-
      have Bu:¬ t.kind=1:=by omega
      have Mo:¬ t.kind=2:=by omega
      by_cases hu:t.s=[45]\/t.s=[33]\/t.s=[126]
      ·rw [ab hu] at h |-;rw [show p.e=p.next.e from rfl] at h |-
       cases he:rd p.next.e f (.operand (d+1)) r with
       | error x =>
        rw [he] at h
        have hx:x≠bc:=fun h0=>h (by rw [h0])
        obtain ⟨b,q,L,I⟩:=C.operand (d+1) r p.next hn.1 (by rw [he];intro h0;cases h0;exact hx rfl)
        rw [he] at I;refine ⟨one 5 t.at_ t.s [b],q,fun g hg=>?_,hn.tr (y:=.error x) I⟩;obtain ⟨g,rfl,hg⟩:=up hg;rw [mE];simp only [eg,hp.code,sY,if_true,M Bu,M Mo,ab hu];rw [L g aq]
       | ok x =>
        obtain ⟨b',r'⟩:=x;rw [he] at h;simp only at h |-
        obtain ⟨b,q,L,I⟩:=C.operand (d+1) r p.next hn.1 (by rw [he];intro h0;cases h0)
        rw [he] at I;obtain ⟨rfl,I⟩:=I;refine ⟨one 5 t.at_ t.s [b],q,fun g hg=>?_,rfl,hn.tr I⟩;obtain ⟨g,rfl,hg⟩:=up hg;rw [mE];simp only [eg,hp.code,sY,if_true,M Bu,M Mo,ab hu];rw [L g aq]
      ·rw [M hu] at h |-
       by_cases hb:t.s=[40]
       ·rw [ab hb] at h |-;rw [show p.e=p.next.e from rfl] at h |-
        cases he:rd p.next.e f (.expr (d+1)) r with
        | error x =>
         rw [he] at h
         have hx:x≠bc:=fun h0=>h (by rw [h0])
         obtain ⟨b,q,L,I⟩:=C.expr (d+1) r p.next hn.1 (by rw [he];intro h0;cases h0;exact hx rfl)
         rw [he] at I;refine ⟨b,q.aP [41],fun g hg=>?_,?_⟩
         ·obtain ⟨g,rfl,hg⟩:=up hg;rw [mE];simp only [eg,hp.code,sY,if_true,M Bu,M Mo,M hu,ab hb];rw [L g aq]
         ·rw [gP (bS.err I) av];exact hn.tr (y:=.error x) I
        | ok x =>
         obtain ⟨b',r'⟩:=x;rw [he] at h;simp only at h |-
         obtain ⟨b,q,L,I⟩:=C.expr (d+1) r p.next hn.1 (by rw [he];intro h0;cases h0)
         rw [he] at I;obtain ⟨rfl,I⟩:=I;have hm:=I.1.aP (s:=[41]) av;have aY:=(hn.tr I).tr hm;rw [I.2.2] at aY;refine ⟨b,q.aP [41],fun g hg=>?_,?_⟩
         ·obtain ⟨g,rfl,hg⟩:=up hg;rw [mE];simp only [eg,hp.code,sY,if_true,M Bu,M Mo,M hu,ab hb];rw [L g aq]
         ·cases sn:aP p.next.e [41] r' with
          | error x=>rw [sn] at aY;exact aY
          | ok r2=>rw [sn] at aY;exact ⟨rfl,aY⟩
       ·rw [M hb] at h |-;refine ⟨T.zero,p.fail 7 t.at_,fun g hg=>?_,hp.fail 7 _ av⟩;obtain ⟨g,rfl,hg⟩:=up hg;rw [mE];simp only [eg,hp.code,sY,if_true,M Bu,M Mo,M hu,M hb]
     ·rw [M h3] at h |-
      by_cases L:t.kind=1
      ·rw [ab L];refine ⟨_,p.next,fun g hg=>?_,rfl,hn⟩;obtain ⟨g,rfl,hg⟩:=up hg;rw [mE];simp only [eg,hp.code,sY,if_true,ab L]
      ·rw [M L] at h |-
       by_cases I:t.kind=2
       ·by_cases hlen:t.s.length > 12
        ·have eV:name p.e (t::r)=.error (8,t.at_):=by simp [name,I,hlen]
         rw [eV] at h |-;have hf:=hp.fail 8 t.at_ av;refine ⟨one 2 t.at_ [] [],p.fail 8 t.at_,fun g hg=>?_,hf⟩;obtain ⟨g,rfl,hg⟩:=up hg
         have dD:p.name=([],p.fail 8 t.at_):=by unfold RS.name;simp [hp.code,sY,I,hlen]
         rw [mE];simp only [eg,hp.code,sY,if_true,M L,ab I,dD];obtain ⟨g,rfl⟩:∃ g',g=g'+1:=⟨g - 1,by omega⟩;rw [mE,M (by rw [ma hf.err];decide),M (by rw [ma hf.err];decide)]
        ·have eV:name p.e (t::r)=.ok (t.s,r):=by simp [name,I,hlen]
         have dD:p.name=(t.s,p.next):=by unfold RS.name;simp [hp.code,sY,I,hlen]
         rw [eV] at h |-;simp only at h |-
         have en:p.next.sign 0=sign r 0:=hn.1.sign 0
         have key:∀ (t':T) (q:RS),(∀ g,KF f<=g->mE (g+1) (.named t.at_ t.s d) p.next=some (t',q))->∀ g,KF (f+1)<=g->mE g (.operand d) p=some (t',q):=by
          intro t' q hk g hg;obtain ⟨g,rfl,hg⟩:=up hg;rw [mE];simp only [eg,hp.code,sY,if_true,M L,ab I,dD];obtain ⟨g,rfl⟩:∃ g',g=g'+1:=⟨g - 1,by omega⟩;exact hk g aq
         by_cases hb:sign r 0=[91]
         ·rw [ab hb] at h |-;obtain ⟨tb,BM,_⟩:=dS av hb;have bV:=hn.1;rw [BM] at bV
          have bV:=hn.tr bV.next
          rw [show p.e=p.next.next.e from rfl] at h |-
          cases he:rd p.next.next.e f (.expr (d+1)) r.tail with
          | error x =>
           rw [he] at h
           have hx:x≠bc:=fun h0=>h (by rw [h0])
           obtain ⟨b,q,k1,k2⟩:=C.expr (d+1) r.tail p.next.next bV.1 (by rw [he];intro h0;cases h0;exact hx rfl)
           rw [he] at k2;refine ⟨one 3 t.at_ t.s [b],q.aP [93],key _ _ fun g hg=>?_,?_⟩
           ·rw [mE,ab (by rw [en];exact hb),k1 g hg]
           ·rw [gP (bS.err k2) av];exact bV.tr (y:=.error x) k2
          | ok x =>
           obtain ⟨b',r'⟩:=x;rw [he] at h;simp only at h |-
           obtain ⟨b,q,k1,k2⟩:=C.expr (d+1) r.tail p.next.next bV.1 (by rw [he];intro h0;cases h0)
           rw [he] at k2;obtain ⟨rfl,k2⟩:=k2;have hm:=k2.1.aP (s:=[93]) av;have aY:=(bV.tr k2).tr hm;rw [k2.2.2] at aY;refine ⟨one 3 t.at_ t.s [b],q.aP [93],key _ _ fun g hg=>?_,?_⟩
           ·rw [mE,ab (by rw [en];exact hb),k1 g hg]
           ·cases sn:aP p.next.next.e [93] r' with
            | error x=>rw [sn] at aY;exact aY
            | ok r2=>rw [sn] at aY;exact ⟨rfl,aY⟩
         ·rw [M hb] at h |-
          by_cases hc:sign r 0=[40]
          ·rw [ab hc] at h |-;obtain ⟨tb,BM,_⟩:=dS av hc;have bV:=hn.1;rw [BM] at bV
           have bV:=hn.tr bV.next
           rw [show p.e=p.next.next.e from rfl] at h |-
           cases he:rd.args p.next.next.e f (d+1) [] r.tail with
           | error x =>
            rw [he] at h
            have hx:x≠bc:=fun h0=>h (by rw [h0])
            obtain ⟨b,q,k1,k2⟩:=C.args0 (d+1) r.tail p.next.next bV.1 (by rw [he];intro h0;cases h0;exact hx rfl)
            rw [he] at k2;refine ⟨one 4 t.at_ t.s b,q,key _ _ fun g hg=>?_,bV.tr (y:=.error x) k2⟩;rw [mE,M (by rw [en];exact hb),ab (by rw [en];exact hc),k1 g hg]
           | ok x =>
            obtain ⟨b',r'⟩:=x;rw [he] at h
            obtain ⟨b,q,k1,k2⟩:=C.args0 (d+1) r.tail p.next.next bV.1 (by rw [he];intro h0;cases h0)
            rw [he] at k2;obtain ⟨rfl,k2⟩:=k2;refine ⟨one 4 t.at_ t.s b,q,key _ _ fun g hg=>?_,rfl,bV.tr k2⟩;rw [mE,M (by rw [en];exact hb),ab (by rw [en];exact hc),k1 g hg]
          ·rw [M hc] at h |-;refine ⟨one 2 t.at_ t.s [],p.next,key _ _ fun g hg=>?_,rfl,hn⟩;rw [mE,M (by rw [en];exact hb),M (by rw [en];exact hc)]
       ·have eV:name p.e (t::r)=.error (7,t.at_):=by simp [name,I]
        rw [eV] at h |-;have:=hp.kinds t (bF sY);omega
  ·rw [rd.args] at h |-;have en:p.sign 0=sign ts 0:=hp.sign 0
   by_cases hb:sign ts 0=[41]
   ·rw [ab hb];have hm:=hp.aP (s:=[41]) av;unfold Go.Xp.aP at hm;rw [ab hb] at hm;refine ⟨acc,p.aP [41],fun g hg=>?_,rfl,hm⟩;obtain ⟨g,rfl,hg⟩:=up hg;rw [uu,M (by rw [en,hb];decide)]
   ·rw [M hb,M l0] at h |-
    by_cases hc:sign ts 0=[44]
    ·have kH:Go.Xp.aP p.e [44] ts=.ok ts.tail:=by unfold Go.Xp.aP;rw [ab hc]
     rw [kH] at h |-;simp only at h |-;obtain ⟨tb,BM,_⟩:=dS av hc;have hn:=hp;rw [BM] at hn
     have hn:=hn.next
     rw [show p.e=p.next.e from rfl] at h |-
     cases he:rd p.next.e f (.expr d) ts.tail with
     | error x =>
      rw [he] at h
      have hx:x≠bc:=fun h0=>h (by rw [h0])
      obtain ⟨b,q,k1,k2⟩:=C.expr d ts.tail p.next hn.1 (by rw [he];intro h0;cases h0;exact hx rfl)
      rw [he] at k2;refine ⟨acc++[b],q,fun g hg=>?_,hn.tr (y:=.error x) k2⟩;obtain ⟨g,rfl,hg⟩:=up hg;rw [uu,ab (by rw [en,hc]),k1 g aq];simp only;obtain ⟨g,rfl⟩:∃ g',g=g'+1:=⟨g - 1,by omega⟩;rw [uu,M (by rw [ma (bS.err k2)];decide),gP (bS.err k2) av]
     | ok x =>
      obtain ⟨b',r'⟩:=x;rw [he] at h;simp only at h |-
      obtain ⟨b,q,k1,k2⟩:=C.expr d ts.tail p.next hn.1 (by rw [he];intro h0;cases h0)
      rw [he] at k2;obtain ⟨rfl,k2⟩:=k2;rw [<-k2.2.2] at h |-;obtain ⟨t3,q3,h3,h4⟩:=C.args d (acc++[b]) r' q (by simp) k2.1 h;refine ⟨t3,q3,fun g hg=>?_,jP.tr (hn.tr k2) h4⟩;obtain ⟨g,rfl,hg⟩:=up hg;rw [uu,ab (by rw [en,hc]),k1 g aq];exact h3 g aq
    ·have kH:Go.Xp.aP p.e [44] ts=.error (7,place p.e ts):=by unfold Go.Xp.aP;rw [M hc]
     rw [kH];have hm:=hp.aP (s:=[41]) av;unfold Go.Xp.aP at hm;rw [M hb] at hm;refine ⟨acc,p.aP [41],fun g hg=>?_,hm⟩;obtain ⟨g,rfl,hg⟩:=up hg;rw [uu,M (by rw [en];exact hc)]
  ·rw [rd.args] at h |-;have en:p.sign 0=sign ts 0:=hp.sign 0
   by_cases hb:sign ts 0=[41]
   ·rw [ab hb];have hm:=hp.aP (s:=[41]) av;unfold Go.Xp.aP at hm;rw [ab hb] at hm;refine ⟨[],p.aP [41],fun g hg=>?_,rfl,hm⟩;obtain ⟨g,rfl,hg⟩:=up hg;rw [mL,ab (by rw [en,hb])]
   ·rw [M hb,ab rfl] at h |-;simp only at h |-
    cases he:rd p.e f (.expr d) ts with
    | error x =>
     rw [he] at h
     have hx:x≠bc:=fun h0=>h (by rw [h0])
     obtain ⟨b,q,k1,k2⟩:=C.expr d ts p hp (by rw [he];intro h0;cases h0;exact hx rfl);rw [he] at k2;refine ⟨[b],q,fun g hg=>?_,k2⟩;obtain ⟨g,rfl,hg⟩:=up hg;rw [mL,M (by rw [en];exact hb),k1 g aq];simp only;obtain ⟨g,rfl⟩:∃ g',g=g'+1:=⟨g - 1,by omega⟩;rw [uu,M (by rw [ma (bS.err k2)];decide),gP (bS.err k2) av]
    | ok x =>
     obtain ⟨b',r'⟩:=x;rw [he] at h;simp only at h |-;obtain ⟨b,q,k1,k2⟩:=C.expr d ts p hp (by rw [he];intro h0;cases h0);rw [he] at k2;obtain ⟨rfl,k2⟩:=k2;rw [<-k2.2.2] at h |-;obtain ⟨t3,q3,h3,h4⟩:=C.args d ([]++[b]) r' q (by simp) k2.1 h;refine ⟨t3,q3,fun g hg=>?_,jP.tr k2 h4⟩;obtain ⟨g,rfl,hg⟩:=up hg;rw [mL,M (by rw [en];exact hb),k1 g aq];exact h3 g aq
end Go.Sp
namespace Go.Xp
theorem W1 (e:Int):∀ f,(∀ j ts,rd e f j ts=.error bc\/rd e (f+1) j ts=rd e f j ts)/\(∀ d acc ts,rd.args e f d acc ts=.error bc\/rd.args e (f+1) d acc ts=rd.args e f d acc ts):=by
 intro f
 induction f with
 | zero=>exact ⟨fun j ts=>.inl (by simp [rd]),fun d acc ts=>.inl (by simp [rd.args])⟩
 | succ f ih =>
  obtain ⟨i1,i2⟩:=ih;refine ⟨fun j ts=>?_,fun d acc ts=>?_⟩
  ·rw [rd.eq_def e (f+1+1),rd.eq_def e (f+1)]
   cases j with
   | expr d =>
    simp only;split
    ·exact .inr rfl
    ·exact i1 _ _
   | level k d =>
    simp only;split
    ·exact i1 _ _
    ·rcases i1 (.level (k+1) d) ts with h | h
     ·left;rw [h]
     ·rw [h]
      cases rd e f (.level (k+1) d) ts with
      | error x=>exact .inr rfl
      | ok r=>exact i1 _ _
   | loop k d out =>
    cases ts with
    | nil=>exact .inr rfl
    | cons t r =>
     simp only;split
     ·rcases i1 (.level (k+1) d) r with h | h
      ·left;rw [h]
      ·rw [h]
       cases rd e f (.level (k+1) d) r with
       | error x=>exact .inr rfl
       | ok r=>exact i1 _ _
     ·exact .inr rfl
   | operand d =>
    simp only;split
    ·exact .inr rfl
    ·cases ts with
     | nil=>exact .inr rfl
     | cons t r =>
      simp only;split
      ·split
       ·rcases i1 (.operand (d+1)) r with h | h
        ·left;rw [h]
        ·rw [h];exact .inr rfl
       ·split
        ·rcases i1 (.expr (d+1)) r with h | h
         ·left;rw [h]
         ·rw [h];exact .inr rfl
        ·exact .inr rfl
      ·split
       ·exact .inr rfl
       ·cases name e (t::r) with
        | error x=>exact .inr rfl
        | ok y =>
         obtain ⟨s,r⟩:=y;simp only;split
         ·rcases i1 (.expr (d+1)) r.tail with h | h
          ·left;rw [h]
          ·rw [h];exact .inr rfl
         ·split
          ·rcases i2 (d+1) [] r.tail with h | h
           ·left;rw [h]
           ·rw [h];exact .inr rfl
          ·exact .inr rfl
  ·rw [rd.args,rd.args];split
   ·exact .inr rfl
   ·cases (if acc=[] then .ok ts else aP e [44] ts:Except Er (List Tok)) with
    | error x=>exact .inr rfl
    | ok ts =>
     simp only
     rcases i1 (.expr d) ts with h | h
     ·left;rw [h]
     ·rw [h]
      cases rd e f (.expr d) ts with
      | error x=>exact .inr rfl
      | ok y=>exact i2 _ _ _
theorem Jn {e:Int} {f f':Nat} {j:pj} {ts:List Tok} (h:rd e f j ts≠.error bc) (hf:f<=f'):rd e f' j ts=rd e f j ts:=by
 obtain ⟨k,rfl⟩:=Nat.exists_eq_add_of_le hf;clear hf
 induction k with
 | zero=>rfl
 | succ k ih =>
  rcases (W1 e (f+k)).1 j ts with L | L
  ·rw [ih] at L;exact absurd L h
  ·rw [<-fP,L,ih]
theorem CI {e:Int} {f d:Nat} {ts:List Tok} (h:20 * ts.length+12<=f):rd e f (.expr d) ts=expr e d ts:=by
 have h0:rd e (20 * ts.length+12) (.expr d) ts≠.error bc:=zy (j:=.expr d) trivial (aD _);rw [Jn h0 h];unfold expr nz;exact (Jn h0 aq).symm
def W7 (t:T):Prop:=t.n.kind=3->∃ a,t.kids=[a]
theorem NG (e:Int):∀ f j,(∀ k d out,j≠.loop k d out)->∀ t r,rd e f j []≠.ok (t,r):=by
 intro f
 induction f with
 | zero=>intro j _ t r h;simp [rd] at h
 | succ f ih =>
  intro j hj t r h;rw [rd.eq_def] at h
  cases j with
  | expr d =>
   simp only at h;split at h
   ·cases h
   ·exact ih _ (fun k d out h=>by cases h) _ _ h
  | level k d =>
   simp only at h;split at h
   ·exact ih _ (fun k d out h=>by cases h) _ _ h
   ·split at h
    ·cases h
    ·rename_i he;exact ih _ (fun k d out h=>by cases h) _ _ he
  | loop k d out=>exact hj _ _ _ rfl
  | operand d =>
   simp only at h;split at h <;> cases h
theorem NF (e:Int):∀ f j ts t r,(∀ k d out,j=.loop k d out->W7 out)->rd e f j ts=.ok (t,r)->W7 t:=by
 intro f
 induction f with
 | zero=>intro j ts t r _ h;simp [rd] at h
 | succ f ih =>
  intro j ts t r hj h;rw [rd.eq_def] at h
  cases j with
  | expr d =>
   simp only at h;split at h
   ·cases h
   ·exact ih _ _ _ _ (fun k d out h=>by cases h) h
  | level k d =>
   simp only at h;split at h
   ·exact ih _ _ _ _ (fun k d out h=>by cases h) h
   ·split at h
    ·cases h
    ·rename_i out jC he;exact ih _ _ _ _ (fun k' d' Zy mR=>by cases mR;exact ih _ _ _ _ (fun k d out h=>by cases h) he) h
  | loop k d out =>
   cases ts with
   | nil=>cases h;exact hj k d _ rfl
   | cons a r' =>
    simp only at h;split at h
    ·split at h
     ·cases h
     ·exact ih _ _ _ _ (fun k' d' Zy mR=>by cases mR;intro h3;exact absurd h3 (by simp [one,T.n])) h
    ·cases h;exact hj k d _ rfl
  | operand d =>
   simp only at h;split at h
   ·cases h
   ·cases ts with
    | nil=>cases h
    | cons a r' =>
     simp only at h;split at h
     ·split at h
      ·split at h
       ·cases h
       ·cases h;intro h3;exact absurd h3 (by simp [one,T.n])
      ·split at h
       ·split at h
        ·cases h
        ·rename_i he;split at h
         ·cases h
         ·cases h;exact ih _ _ _ _ (fun k d out h=>by cases h) he
       ·cases h
     ·split at h
      ·cases h;intro h3;exact absurd h3 (by simp [T.n])
      ·split at h
       ·cases h
       ·split at h
        ·split at h
         ·cases h
         ·split at h
          ·cases h
          ·cases h;exact fun _=>⟨_,rfl⟩
        ·split at h
         ·split at h
          ·cases h
          ·cases h;intro h3;exact absurd h3 (by simp [one,T.n])
         ·cases h;intro h3;exact absurd h3 (by simp [one,T.n])
end Go.Xp
namespace Go.Sp
open Go.Xp
theorem WC {d:Nat} {ts:List Tok} {p:RS} (hp:On p ts):∃ t q,mX d p=some (t,q)/\jP p q t (expr p.e d ts):=by
 have hl:ts.length<=p.l.length:=by rw [<-hp.rest,iK];omega
 have hf:rd p.e (20 * ts.length+12) (.expr d) ts≠.error bc:=zy (j:=.expr d) trivial (aD _);obtain ⟨t,q,L,I⟩:=(je _).expr d ts p hp hf;rw [CI (aD _)] at I;exact ⟨t,q,L _ (by unfold KF fe;omega),I⟩
theorem F9 {d:Nat} {p:RS} (h:p.code≠0):mX d p=some (T.zero,p):=U7 h (by unfold fe;omega)
theorem Nk {p:RS} (h:p.code≠0) {g d:Nat} (hg:2<=g):mS g (.block d) p=some (one 14 p.place [] [],p):=by
 obtain ⟨g,rfl⟩:∃ g',g=g'+2:=⟨g - 2,by omega⟩;rw [mS,rB h,gP h av];simp only [mB,h,false_and,if_false];rw [gP h av]
theorem NT {p:RS} (h:p.code≠0) {g d:Nat} (hg:1<=g):mS g (.stmt d) p=some (one 12 p.place [] [T.zero],p):=by
 obtain ⟨g,rfl⟩:∃ g',g=g'+1:=⟨g - 1,by omega⟩;rw [mS,rB h];simp only [ma h];rw [M av,M av,M av,M (fun x=>h x.1),F9 h]
 have h03:¬ (T.zero.n.kind=3/\T.zero.n.at_=p.place/\p.sign 0=[61]):=fun x=>absurd x.1 av
 simp only;rw [M h03,gP h av]
structure ZH (f:Nat):Prop where
 block:∀ d ts p,On p ts->rs p.e f (.block d) ts≠.error bc->∃ t q,(∀ g,KF f<=g->mS g (.block d) p=some (t,q))/\jP p q t (rs p.e f (.block d) ts)
 stmt:∀ d ts p,On p ts->rs p.e f (.stmt d) ts≠.error bc->∃ t q,(∀ g,KF f<=g->mS g (.stmt d) p=some (t,q))/\jP p q t (rs p.e f (.stmt d) ts)
 body:∀ d acc ts p,On p ts->rs.body p.e f d acc ts≠.error bc->∃ t q,(∀ g,KF f<=g->mB g d acc p=some (t,q))/\jP p (q.aP [125]) t (rs.body p.e f d acc ts)
theorem KK {d:Nat} {ts:List Tok} {p:RS} (hp:On p ts):(∃ t q r,mX d p=some (t,q)/\expr p.e d ts=.ok (t,r)/\bS p q (.ok r))\/(∃ t q x,mX d p=some (t,q)/\expr p.e d ts=.error x/\bS p q (.error x)):=by
 obtain ⟨t,q,L,I⟩:=WC (d:=d) hp
 cases he:expr p.e d ts with
 | error x=>rw [he] at I;exact .inr ⟨t,q,x,L,rfl,I⟩
 | ok y =>
  obtain ⟨t',r⟩:=y;rw [he] at I;obtain ⟨rfl,I⟩:=I;exact .inl ⟨t,q,r,L,rfl,I⟩
theorem zw {s:ae} {ts:List Tok} {p:RS} (hp:On p ts) (hs:s≠[]):(∃ r,Go.Xp.aP p.e s ts=.ok r/\bS p (p.aP s) (.ok r))\/(∃ x,Go.Xp.aP p.e s ts=.error x/\bS p (p.aP s) (.error x)):=by
 have h:=hp.aP hs
 cases he:Go.Xp.aP p.e s ts with
 | ok r=>rw [he] at h;exact .inl ⟨r,rfl,h⟩
 | error x=>rw [he] at h;exact .inr ⟨x,rfl,h⟩
theorem Sy {ts:List Tok} {p:RS} (hp:On p ts):(∃ r,Go.Xp.name p.e ts=.ok (p.name.1,r)/\bS p p.name.2 (.ok r))\/(∃ x,Go.Xp.name p.e ts=.error x/\bS p p.name.2 (.error x)):=by
 rcases hp.name with h | h
 ·cases he:Go.Xp.name p.e ts with
  | ok y =>
   obtain ⟨s,r⟩:=y;rw [he] at h;obtain ⟨rfl,h⟩:=h;exact .inl ⟨r,rfl,h⟩
  | error x=>rw [he] at h;exact .inr ⟨x,rfl,h⟩
 ·exact .inr h
theorem AA {d:Nat} {ts:List Tok} {p:RS} {b:ae} (hp:On p ts) (hb:b≠[]):∃ t q,mX d p=some (t,q)/\((∃ r r',expr p.e d ts=.ok (t,r)/\Go.Xp.aP p.e b r=.ok r'/\bS p (q.aP b) (.ok r'))\/(∃ r x,expr p.e d ts=.ok (t,r)/\Go.Xp.aP p.e b r=.error x/\bS p (q.aP b) (.error x))\/(∃ x,expr p.e d ts=.error x/\bS p (q.aP b) (.error x))):=by
 rcases KK (d:=d) hp with ⟨t,q,r,L,I,h3⟩ | ⟨t,q,x,L,I,h3⟩
 ·refine ⟨t,q,L,?_⟩
  rcases zw h3.1 hb with ⟨r',h4,h5⟩ | ⟨x,h4,h5⟩
  ·rw [h3.2.2] at h4;exact .inl ⟨r,r',I,h4,h3.tr h5⟩
  ·rw [h3.2.2] at h4;exact .inr (.inl ⟨r,x,I,h4,h3.tr h5⟩)
 ·exact ⟨t,q,L,.inr (.inr ⟨x,I,by rw [gP h3.err hb];exact h3⟩)⟩
theorem On.ov {ts:List Tok} {p:RS} (hp:On p ts):p.ov=(match ts with | t::_=>decide (t.kind=2) | []=>false):=by
 have h:=hp.at 0;rw [Nat.add_zero] at h;unfold RS.ov;rw [h]
 cases ts <;> rfl
theorem F0 {d:Nat} {ts:List Tok} {p:RS} {a b:ae} (hp:On p ts) (ha:a≠[]) (hb:b≠[]):∃ t q,mX d (p.aP a)=some (t,q)/\((∃ r,inner p.e d a b ts=.ok (t,r)/\bS p (q.aP b) (.ok r))\/∃ x,inner p.e d a b ts=.error x/\bS p (q.aP b) (.error x)):=by
 unfold Go.Xp.inner
 rcases zw hp ha with ⟨r,L,I⟩ | ⟨x,L,I⟩
 ·rw [L];obtain ⟨t,q,h3,h4⟩:=AA (d:=d) (b:=b) I.1 hb;rw [I.2.2] at h4;refine ⟨t,q,h3,?_⟩;simp only
  rcases h4 with ⟨r,r',k1,k2,k3⟩ | ⟨r,x,k1,k2,k3⟩ | ⟨x,k1,k3⟩
  ·rw [k1];simp only;rw [k2];exact .inl ⟨r',rfl,I.tr k3⟩
  ·rw [k1];simp only;rw [k2];exact .inr ⟨x,rfl,I.tr (y:=.error x) k3⟩
  ·rw [k1];exact .inr ⟨x,rfl,I.tr (y:=.error x) k3⟩
 ·rw [L];exact ⟨T.zero,p.aP a,F9 I.err,.inr ⟨x,rfl,by rw [gP I.err hb];exact I⟩⟩
theorem GD {d:Nat} {ts:List Tok} {p:RS} (hp:On p ts):∃ t q,mX d (p.name.2.aP [61])=some (t,q)/\((∃ r,lO p.e d ts=.ok ((p.name.1,t),r)/\bS p (q.aP [59]) (.ok r))\/∃ x,lO p.e d ts=.error x/\bS p (q.aP [59]) (.error x)):=by
 unfold Go.Xp.lO
 rcases Sy hp with ⟨r,L,I⟩ | ⟨x,L,I⟩
 ·rw [L];obtain ⟨t,q,h3,h4⟩:=F0 (d:=d) (a:=[61]) (b:=[59]) I.1 av av;rw [I.2.2] at h4;refine ⟨t,q,h3,?_⟩;simp only
  rcases h4 with ⟨r,k1,k3⟩ | ⟨x,k1,k3⟩
  ·rw [k1];exact .inl ⟨r,rfl,I.tr k3⟩
  ·rw [k1];exact .inr ⟨x,rfl,I.tr (y:=.error x) k3⟩
 ·rw [L];refine ⟨T.zero,p.name.2,by rw [gP I.err av];exact F9 I.err,.inr ⟨x,rfl,by rw [gP I.err av];exact I⟩⟩
theorem js (f:Nat):ZH f:=by
 induction f with
 | zero=>exact ⟨fun d ts p _ h=>absurd (by simp [rs]) h,fun d ts p _ h=>absurd (by simp [rs]) h,fun d acc ts p _ h=>absurd (by simp [rs.body]) h⟩
 | succ f C =>
  refine ⟨fun d ts p hp h=>?_,fun d ts p hp h=>?_,fun d acc ts p hp h=>?_⟩
  ·rw [rs] at h |-
   by_cases hd:d > 60
   ·rw [ab hd] at h |-;have hf:=hp.fail 9 p.place av;refine ⟨one 14 (p.fail 9 p.place).place [] [],p.fail 9 p.place,fun g hg=>?_,by rw [<-hp.place];exact hf⟩
    have Uk:p.deep d=p.fail 9 p.place:=by unfold RS.deep;rw [ab hd]
    have:=Nk (g:=g) (d:=d) hf.err (by unfold KF at hg;omega);obtain ⟨g,rfl,hg⟩:=up hg;rw [mS] at this |-;rw [rB hf.err] at this;rw [Uk];exact this
   ·rw [M hd] at h |-
    have eg:p.deep d=p:=by unfold RS.deep;rw [M hd]
    rcases zw hp (s:=[123]) av with ⟨r,L,I⟩ | ⟨x,L,I⟩
    ·rw [L] at h |-;simp only at h |-;rw [<-I.2.2] at h |-
     have hb:rs.body (p.aP [123]).e f (d+1) [] r≠.error bc:=fun h0=>h (by rw [h0])
     obtain ⟨l,q,h3,h4⟩:=C.body (d+1) [] r (p.aP [123]) I.1 hb
     have dJ:place (p.aP [123]).e ts=p.place:=by rw [I.2.2,hp.place]
     refine ⟨one 14 p.place [] l,q.aP [125],fun g hg=>?_,?_⟩
     ·obtain ⟨g,rfl,hg⟩:=up hg;rw [mS,eg,h3 g aq]
     ·cases he:rs.body (p.aP [123]).e f (d+1) [] r with
      | error x=>rw [he] at h4;exact I.tr (y:=.error x) h4
      | ok y=>obtain ⟨l',r'⟩:=y;rw [he] at h4;obtain ⟨rfl,h4⟩:=h4;rw [dJ];exact ⟨rfl,I.tr h4⟩
    ·rw [L] at h |-;refine ⟨one 14 p.place [] [],p.aP [123],fun g hg=>?_,I⟩;obtain ⟨g,rfl,hg⟩:=up hg;rw [mS,eg];obtain ⟨g,rfl⟩:∃ g',g=g'+1:=⟨g - 1,by omega⟩;simp only [mB,I.err,false_and,if_false];rw [gP I.err av]
  ·rw [rs] at h |-
   by_cases hd:d > 60
   ·rw [ab hd] at h |-;have hf:=hp.fail 9 p.place av
    have Uk:p.deep d=p.fail 9 p.place:=by unfold RS.deep;rw [ab hd]
    refine ⟨one 12 (p.fail 9 p.place).place [] [T.zero],p.fail 9 p.place,fun g hg=>?_,by rw [<-hp.place];exact hf⟩;have:=NT (g:=g) (d:=d) hf.err (by unfold KF at hg;omega);obtain ⟨g,rfl,hg⟩:=up hg;rw [mS] at this |-;rw [rB hf.err] at this;rw [Uk];exact this
   ·rw [M hd] at h |-
    have eg:p.deep d=p:=by unfold RS.deep;rw [M hd]
    have en:p.sign 0=sign ts 0:=hp.sign 0;have UJ:p.sign 1=sign ts 1:=hp.sign 1;have dJ:=hp.place;simp only at h |-
    by_cases hv:sign ts 0=ia
    ·rw [ab hv];obtain ⟨tv,yE,_⟩:=dS av hv;have hn:=hp;rw [yE] at hn
     have hn:=hn.next
     rw [show p.e=p.next.e from rfl]
     rcases GD (d:=d+1) hn.1 with ⟨t,q,L,⟨r,I,h3⟩ | ⟨x,I,h3⟩⟩
     ·rw [I];refine ⟨one 13 p.place p.next.name.1 [t],q.aP [59],fun g hg=>?_,by rw [dJ];rfl,hn.tr h3⟩;obtain ⟨g,rfl,hg⟩:=up hg;rw [mS,eg];rw [ab (by rw [en,hv]),L]
     ·rw [I];refine ⟨one 13 p.place p.next.name.1 [t],q.aP [59],fun g hg=>?_,hn.tr (y:=.error x) h3⟩;obtain ⟨g,rfl,hg⟩:=up hg;rw [mS,eg];rw [ab (by rw [en,hv]),L]
    rw [M hv] at h |-
    by_cases hc:sign ts 0=eo\/sign ts 0=dQ
    ·rw [ab hc] at h |-
     obtain ⟨tv,yE,hk3,ui⟩:∃ t,ts=t::ts.tail/\t.kind=3/\t.s=sign ts 0:=by
      rcases hc with hc | hc
      ·obtain ⟨t,L,I,h3⟩:=dS av hc;exact ⟨t,L,I,h3.trans hc.symm⟩
      ·obtain ⟨t,L,I,h3⟩:=dS av hc;exact ⟨t,L,I,h3.trans hc.symm⟩
     have hn:=hp;rw [yE] at hn
     have hn:=hn.next
     have ue:p.ck=if sign ts 0=eo then 9 else 10:=by unfold RS.ck;rw [en]
     have key:∀ (t:T) (q:RS),(∀ g,KF f<=g->mS (g+1) (.cond p.place d) p=some (t,q))->∀ g,KF (f+1)<=g->mS g (.stmt d) p=some (t,q):=by
      intro t q hk g hg;obtain ⟨g,rfl,hg⟩:=up hg;rw [mS,eg];rw [M (by rw [en];exact hv),ab (by rw [en];exact hc)];obtain ⟨g,rfl⟩:∃ g',g=g'+1:=⟨g - 1,by omega⟩;exact hk g aq
     rcases F0 (d:=d+1) (a:=[40]) (b:=[41]) hn.1 av av with ⟨c,q,L,⟨r,I,h3⟩ | ⟨x,I,h3⟩⟩
     ·rw [show p.next.e=p.e from rfl] at I;rw [I] at h |-;simp only at h |-;have h3:=hn.tr h3
      have hb:rs p.e f (.block (d+1)) r≠.error bc:=fun h0=>h (by rw [h0])
      rw [<-h3.2.2] at hb;obtain ⟨b,q2,h4,h5⟩:=C.block (d+1) r (q.aP [41]) h3.1 hb;rw [h3.2.2] at h5
      cases he:rs p.e f (.block (d+1)) r with
      | error x =>
       rw [he] at h5;refine ⟨one p.ck p.place [] [c,b],q2,key _ _ fun g hg=>?_,h3.tr (y:=.error x) h5⟩;rw [mS,L];simp only;rw [h4 g hg];simp only;rw [M (by rw [ma (bS.err h5)];exact fun x=>absurd x.2 av)]
      | ok y =>
       obtain ⟨b',r2⟩:=y;rw [he] at h5 h;obtain ⟨rfl,h5⟩:=h5;simp only at h |-;have h5:=h3.tr h5;have jR:q2.sign 0=sign r2 0:=h5.1.sign 0
       by_cases hi:sign ts 0=eo
       ·rw [ab hi] at h ue |-
        by_cases eI:sign r2 0=eL
        ·rw [ab eI] at h |-;obtain ⟨te,MN,_⟩:=dS av eI;have bV:=h5.1;rw [MN] at bV
         have bV:=h5.tr bV.next
         have hb:rs p.e f (.block (d+1)) r2.tail≠.error bc:=fun h0=>h (by rw [h0])
         rw [<-bV.2.2] at hb
         obtain ⟨b2,q3,h6,h7⟩:=C.block (d+1) r2.tail q2.next bV.1 hb
         rw [bV.2.2] at h7;refine ⟨one p.ck p.place [] [c,b,b2],q3,key _ _ fun g hg=>?_,?_⟩
         ·rw [mS,L];simp only;rw [h4 g hg];simp only;rw [ab ⟨ue,by rw [jR,eI]⟩,h6 g hg]
         ·cases qc:rs p.e f (.block (d+1)) r2.tail with
          | error x=>rw [qc] at h7;exact bV.tr (y:=.error x) h7
          | ok y=>obtain ⟨b3,r3⟩:=y;rw [qc] at h7;obtain ⟨rfl,h7⟩:=h7;exact ⟨by rw [ue,dJ],bV.tr h7⟩
        ·rw [M eI];refine ⟨one p.ck p.place [] [c,b],q2,key _ _ fun g hg=>?_,by rw [ue,dJ],h5⟩;rw [mS,L];simp only;rw [h4 g hg];simp only;rw [M (fun x=>eI (by rw [<-jR];exact x.2))]
       ·rw [M hi] at ue |-;refine ⟨one p.ck p.place [] [c,b],q2,key _ _ fun g hg=>?_,by rw [ue,dJ],h5⟩;rw [mS,L];simp only;rw [h4 g hg];simp only;rw [M (by rw [ue];exact fun x=>absurd x.1 av)]
     ·rw [show p.next.e=p.e from rfl] at I;rw [I] at h |-;have h3:=hn.tr (y:=.error x) h3;refine ⟨one p.ck p.place [] [c,one 14 (q.aP [41]).place [] []],q.aP [41],key _ _ fun g hg=>?_,h3⟩;rw [mS,L];simp only;rw [Nk h3.err (by unfold KF at hg;omega)];simp only;rw [M (by rw [ma h3.err];exact fun x=>absurd x.2 av)]
    rw [M hc] at h |-
    have Fw:¬ (p.sign 0=eo\/p.sign 0=dQ):=by rw [en];exact hc
    by_cases hr:sign ts 0=dz
    ·rw [ab hr];obtain ⟨tv,yE,_⟩:=dS av hr;have hn:=hp;rw [yE] at hn
     have hn:=hn.next
     obtain ⟨t,q,L,I⟩:=AA (d:=d+1) (b:=[59]) hn.1 av;rw [show p.next.e=p.e from rfl] at I;refine ⟨one 11 p.place [] [t],q.aP [59],fun g hg=>?_,?_⟩
     ·obtain ⟨g,rfl,hg⟩:=up hg;rw [mS,eg];rw [M (by rw [en];exact hv),M Fw,ab (by rw [en,hr]),L]
     ·rcases I with ⟨r,r',I,h3,h4⟩ | ⟨r,x,I,h3,h4⟩ | ⟨x,I,h4⟩
      ·rw [I];simp only;rw [h3];exact ⟨by rw [dJ],hn.tr h4⟩
      ·rw [I];simp only;rw [h3];exact hn.tr (y:=.error x) h4
      ·rw [I];exact hn.tr (y:=.error x) h4
    rw [M hr] at h |-
    have IK:¬ p.sign 0=dz:=by rw [en];exact hr
    have IM:¬ p.sign 0=ia:=by rw [en];exact hv
    have eV:=hp.ov
    cases ts with
    | nil =>
     have lH:¬ (p.code=0/\p.ov=true/\p.sign 1=[61]):=fun hx=>by have:=hx.2.1;rw [eV] at this;cases this
     rcases KK (d:=d+1) hp with ⟨t,q,r,L,I,h3⟩ | ⟨t,q,x,L,I,h3⟩
     ·exact absurd I (NG _ _ _ (fun k d out h=>by cases h) _ _)
     ·have lG:¬ (t.n.kind=3/\t.n.at_=p.place/\q.sign 0=[61]):=by rw [ma h3.err];exact fun x=>absurd x.2.2 av
      refine ⟨one 12 p.place [] [t],q.aP [59],fun g hg=>?_,by unfold simple;rw [I,gP h3.err av];exact h3⟩;obtain ⟨g,rfl,hg⟩:=up hg;rw [mS,eg];rw [M IM,M Fw,M IK,M lH,L];simp only;rw [M lG]
    | cons a r0 =>
     simp only [simple] at h |-;simp only at eV
     by_cases bY:a.kind=2/\sign (a::r0) 1=[61]
     ·rw [ab bY];have lH:p.code=0/\p.ov=true/\p.sign 1=[61]:=⟨hp.code,by rw [eV];simpa using bY.1,by rw [UJ];exact bY.2⟩
      rcases GD (d:=d+1) hp with ⟨t,q,L,⟨r,I,h3⟩ | ⟨x,I,h3⟩⟩
      ·rw [I];refine ⟨one 7 p.place p.name.1 [t],q.aP [59],fun g hg=>?_,by rw [dJ];rfl,h3⟩;obtain ⟨g,rfl,hg⟩:=up hg;rw [mS,eg];rw [M IM,M Fw,M IK,ab lH,L]
      ·rw [I];refine ⟨one 7 p.place p.name.1 [t],q.aP [59],fun g hg=>?_,h3⟩;obtain ⟨g,rfl,hg⟩:=up hg;rw [mS,eg];rw [M IM,M Fw,M IK,ab lH,L]
     ·rw [M bY]
      have lH:¬ (p.code=0/\p.ov=true/\p.sign 1=[61]):=fun hx=>bY ⟨by have:=hx.2.1;rw [eV] at this;simpa using this,by rw [<-UJ];exact hx.2.2⟩
      have Kl:p.place=a.at_:=dJ
      rcases KK (d:=d+1) hp with ⟨t,q,r,L,I,h3⟩ | ⟨t,q,x,L,I,h3⟩
      ·rw [I];simp only;have jR:q.sign 0=sign r 0:=h3.1.sign 0
       by_cases ke:t.n.kind=3/\t.n.at_=a.at_/\sign r 0=[61]
       ·rw [ab ke]
        have lG:t.n.kind=3/\t.n.at_=p.place/\q.sign 0=[61]:=by rw [Kl,jR];exact ke
        obtain ⟨te,MN,_⟩:=dS av ke.2.2;have hn:=h3.1;rw [MN] at hn
        have hn:=h3.tr hn.next
        obtain ⟨ix,yu⟩:=NF _ _ _ _ _ _ (fun k d out hj=>by cases hj) I ke.1
        have fi:∀ jC,Go.Xp.inner p.e (d+1) [61] [59] jC=Go.Xp.inner p.e (d+1) [61] [59] jC:=fun _=>rfl
        have kH:Go.Xp.aP p.e [61] r=.ok r.tail:=by unfold Go.Xp.aP;rw [ab ke.2.2]
        obtain ⟨v,q2,h4,h5⟩:=AA (d:=d+1) (b:=[59]) hn.1 av;rw [hn.2.2] at h5;refine ⟨one 8 p.place t.n.s [ix,v],q2.aP [59],fun g hg=>?_,?_⟩
        ·obtain ⟨g,rfl,hg⟩:=up hg;rw [mS,eg];rw [M IM,M Fw,M IK,M lH,L];simp only;rw [ab lG,yu,h4]
        ·unfold Go.Xp.inner;rw [kH];simp only
         rcases h5 with ⟨r2,r',I,h3,h4⟩ | ⟨r2,x,I,h3,h4⟩ | ⟨x,I,h4⟩
         ·rw [I];simp only;rw [h3];exact ⟨by rw [Kl,yu];rfl,hn.tr h4⟩
         ·rw [I];simp only;rw [h3];exact hn.tr (y:=.error x) h4
         ·rw [I];exact hn.tr (y:=.error x) h4
       ·rw [M ke]
        have lG:¬ (t.n.kind=3/\t.n.at_=p.place/\q.sign 0=[61]):=by rw [Kl,jR];exact ke
        refine ⟨one 12 p.place [] [t],q.aP [59],fun g hg=>?_,?_⟩
        ·obtain ⟨g,rfl,hg⟩:=up hg;rw [mS,eg];rw [M IM,M Fw,M IK,M lH,L];simp only;rw [M lG]
        ·rcases zw h3.1 (s:=[59]) av with ⟨r',h4,h5⟩ | ⟨x,h4,h5⟩
         ·rw [h3.2.2] at h4;rw [h4];exact ⟨by rw [Kl],h3.tr h5⟩
         ·rw [h3.2.2] at h4;rw [h4];exact h3.tr (y:=.error x) h5
      ·rw [I]
       have lG:¬ (t.n.kind=3/\t.n.at_=p.place/\q.sign 0=[61]):=by rw [ma h3.err];exact fun x=>absurd x.2.2 av
       refine ⟨one 12 p.place [] [t],q.aP [59],fun g hg=>?_,by rw [gP h3.err av];exact h3⟩;obtain ⟨g,rfl,hg⟩:=up hg;rw [mS,eg];rw [M IM,M Fw,M IK,M lH,L];simp only;rw [M lG]
  ·rw [rs.body] at h |-;have en:p.sign 0=sign ts 0:=hp.sign 0
   by_cases hb:sign ts 0=[125]
   ·rw [ab hb];have hm:=hp.aP (s:=[125]) av;unfold Go.Xp.aP at hm;rw [ab hb] at hm;refine ⟨acc,p,fun g hg=>?_,rfl,hm⟩;obtain ⟨g,rfl,hg⟩:=up hg;rw [mB,M (fun h0=>h0.2 (by rw [en,hb]))]
   ·rw [M hb] at h |-
    have hs:rs p.e f (.stmt d) ts≠.error bc:=fun h0=>h (by rw [h0])
    obtain ⟨a,q,L,I⟩:=C.stmt d ts p hp hs;have hc:p.code=0/\¬ p.sign 0=[125]:=⟨hp.code,by rw [en];exact hb⟩
    cases he:rs p.e f (.stmt d) ts with
    | error x =>
     rw [he] at I h;refine ⟨acc++[a],q,fun g hg=>?_,by rw [gP (bS.err I) av];exact I⟩;obtain ⟨g,rfl,hg⟩:=up hg;rw [mB,ab hc,L g aq];simp only;obtain ⟨g,rfl⟩:∃ g',g=g'+1:=⟨g - 1,by omega⟩;rw [mB,M (fun h0=>bS.err I h0.1)]
    | ok y =>
     obtain ⟨a',r⟩:=y;rw [he] at I h;obtain ⟨rfl,I⟩:=I;simp only at h |-;rw [<-I.2.2] at h |-;obtain ⟨l,q3,h3,h4⟩:=C.body d (acc++[a]) r q I.1 h;refine ⟨l,q3,fun g hg=>?_,jP.tr I h4⟩;obtain ⟨g,rfl,hg⟩:=up hg;rw [mB,ab hc,L g aq];exact h3 g aq
end Go.Sp
namespace Go.Im
open Go.Xp Go.Sp
def tok (p:RS) (k:Nat):Tok:=match p.l[p.i+k]? with | some t=>t | none=>⟨0,0,[],p.e⟩
def is (p:RS) (k:Nat) (s:ae):Bool:=(tok p k).kind==3&&(tok p k).s==s
def kV (p:RS):RS:=p.fail 7 (tok p 0).at_
def want (p:RS) (s:ae):RS:=if p.code=0 then (if is p 0 s=true then p.next else kV p) else p
def bD (p:RS):RS:=if p.code=0 then (if (tok p 0).kind=2 then (if (tok p 0).s.length > 12 then p.fail 8 (tok p 0).at_ else p.next) else kV p) else p
def b8 (p:RS) (d:Nat):RS:=if d > 60 then p.fail 9 (tok p 0).at_ else p
mutual
def iE:Nat->pj->RS->Option (T × RS)
 | 0,_,_=>none
 | f+1,.expr d,p=>if (b8 p d).code=0 then iE f (.level 0 (d+1)) (b8 p d) else some (T.zero,b8 p d)
 | f+1,.level k d,p =>
  if k=9 then iE f (.operand d) p
  else match iE f (.level (k+1) d) p with
   | none=>none
   | some (out,p)=>iE f (.loop k d out) p
 | f+1,.loop k d out,p =>
  if p.code=0/\(tok p 0).kind=3/\(levels.getD k []).contains (tok p 0).s=true then
   match iE f (.level (k+1) d) p.next with
   | none=>none
   | some (b,q)=>iE f (.loop k d (one 6 (tok p 0).at_ (tok p 0).s [out,b])) q
  else some (out,p)
 | f+1,.operand d,p =>
  if (b8 p d).code=0 then
   if is p 0 [45]=true\/is p 0 [33]=true\/is p 0 [126]=true then match iE f (.operand (d+1)) p.next with
    | none=>none
    | some (a,q)=>some (one 5 (tok p 0).at_ (tok p 0).s [a],q)
   else if (tok p 0).kind=1 then some (.mk ⟨1,(tok p 0).at_,(tok p 0).n,[],[]⟩ [],p.next)
   else if is p 0 [40]=true then match iE f (.expr (d+1)) p.next with
    | none=>none
    | some (a,q)=>some (a,want q [41])
   else if (bD p).code=0 then
    if is (bD p) 0 [91]=true then match iE f (.expr (d+1)) (bD p).next with
     | none=>none
     | some (a,q)=>some (one 3 (tok p 0).at_ (tok p 0).s [a],want q [93])
    else if is (bD p) 0 [40]=true then match iA f (d+1) [] (bD p).next with
     | none=>none
     | some (l,q)=>some (one 4 (tok p 0).at_ (tok p 0).s l,q)
    else some (one 2 (tok p 0).at_ (tok p 0).s [],bD p)
   else some (one 2 (tok p 0).at_ (tok p 0).s [],bD p)
  else some (T.zero,b8 p d)
def iA:Nat->Nat->List T->RS->Option (List T × RS)
 | 0,_,_,_=>none
 | f+1,d,acc,p =>
  if p.code=0/\is p 0 [41]=false then match iE f (.expr d) (if acc.length=0 then p else want p [44]) with
   | none=>none
   | some (a,q)=>iA f d (acc++[a]) q
  else some (acc,want p [41])
end
section
variable {p q:RS} {ts r:List Tok}
theorem On.tok (h:On p ts) (k:Nat):tok p k=(match ts[k]? with | some t=>t | none=>⟨0,0,[],p.e⟩):=by unfold Im.tok;rw [h.at]
theorem On.qN (h:On p ts):(Im.tok p 0).at_=Go.Xp.place p.e ts:=by
 rw [On.tok h]
 cases ts with
 | nil=>rfl
 | cons t r=>rfl
theorem On.is (h:On p ts) (k:Nat) {s:ae} (hs:s≠[]):is p k s=decide (sign ts k=s):=by
 unfold Im.is
 have he:sign ts k=(if (Im.tok p k).kind=3 then (Im.tok p k).s else []):=by
  unfold Go.Xp.sign;rw [On.tok h]
  cases hk:ts[k]? with
  | none=>simp
  | some t=>rfl
 rw [he]
 by_cases h3:(Im.tok p k).kind=3
 ·rw [ab h3,Bool.eq_iff_iff];simp [h3]
 ·rw [M h3,Bool.eq_iff_iff];simp [h3];exact hs
theorem gm (h:p.code≠0) (s:ae):want p s=p:=by unfold want;rw [M h]
theorem Bi (h:p.code≠0) (d:Nat):b8 p d=p:=by unfold b8;split <;> simp [tZ h]
theorem Nr (h:p.code≠0):bD p=p:=by unfold bD;rw [M h]
theorem On.kV (h:On p ts):bS p (kV p) (.error (7,place p.e ts)):=by
 unfold Im.kV;rw [On.qN h];exact h.fail 7 _ av
theorem On.want (h:On p ts) {s:ae} (hs:s≠[]):bS p (want p s) (Go.Xp.aP p.e s ts):=by
 unfold Im.want Go.Xp.aP;rw [ab h.code,On.is h 0 hs]
 by_cases h0:sign ts 0=s
 ·rw [ab (by simpa using h0),ab h0];obtain ⟨t,ht,_⟩:=dS hs h0;rw [ht] at h
  exact h.next
 ·rw [M (by simpa using h0),M h0];exact On.kV h
theorem mN (h:On p ts) {s:ae} (hs:s≠[]):(∃ r,Go.Xp.aP p.e s ts=.ok r/\bS p (Im.want p s) (.ok r))\/(∃ x,Go.Xp.aP p.e s ts=.error x/\bS p (Im.want p s) (.error x)):=by
 have h:=On.want h hs
 cases he:Go.Xp.aP p.e s ts with
 | ok r=>rw [he] at h;exact .inl ⟨r,rfl,h⟩
 | error x=>rw [he] at h;exact .inr ⟨x,rfl,h⟩
theorem uw (h:On p ts):(∃ r,Go.Xp.name p.e ts=.ok ((Im.tok p 0).s,r)/\bS p (Im.bD p) (.ok r))\/(∃ x,Go.Xp.name p.e ts=.error x/\bS p (Im.bD p) (.error x)):=by
 have ht:=On.tok h 0;have hw:=On.kV h;unfold Im.bD;rw [ab h.code]
 cases ts with
 | nil =>
  simp only [List.getElem?_nil] at ht;rw [ht];exact .inr ⟨_,rfl,by rw [M (by simp)];exact hw⟩
 | cons t r =>
  simp only [getElem?_cons_zero] at ht;rw [ht];simp only [Go.Xp.name]
  by_cases I:t.kind=2
  ·rw [ab I,ab I]
   by_cases hl:t.s.length > 12
   ·rw [ab hl,ab hl];exact .inr ⟨_,rfl,h.fail 8 _ av⟩
   ·rw [M hl,M hl];exact .inl ⟨r,rfl,h.next⟩
  ·rw [M I,M I];exact .inr ⟨_,rfl,hw⟩
theorem FY (h:p.code≠0) {g d:Nat} (hg:1<=g):iE g (.expr d) p=some (T.zero,p):=by
 obtain ⟨g,rfl⟩:∃ g',g=g'+1:=⟨g - 1,by omega⟩;rw [iE,Bi h,M h]
theorem MX (h:p.code≠0) {g k d:Nat} {out:T} (hg:1<=g):iE g (.loop k d out) p=some (out,p):=by
 obtain ⟨g,rfl⟩:∃ g',g=g'+1:=⟨g - 1,by omega⟩;rw [iE,M (fun h0=>h h0.1)]
end
structure IE (f:Nat):Prop where
 expr:∀ d ts p,On p ts->rd p.e f (.expr d) ts≠.error bc->∃ t q,(∀ g,f+2<=g->iE g (.expr d) p=some (t,q))/\jP p q t (rd p.e f (.expr d) ts)
 level:∀ k d ts p,k<=9->On p ts->rd p.e f (.level k d) ts≠.error bc->∃ t q,(∀ g,f+2<=g->iE g (.level k d) p=some (t,q))/\jP p q t (rd p.e f (.level k d) ts)
 loop:∀ k d out ts p,k < 9->On p ts->rd p.e f (.loop k d out) ts≠.error bc->∃ t q,(∀ g,f+2<=g->iE g (.loop k d out) p=some (t,q))/\jP p q t (rd p.e f (.loop k d out) ts)
 operand:∀ d ts p,On p ts->rd p.e f (.operand d) ts≠.error bc->∃ t q,(∀ g,f+2<=g->iE g (.operand d) p=some (t,q))/\jP p q t (rd p.e f (.operand d) ts)
 args:∀ d acc ts p,On p ts->rd.args p.e f d acc ts≠.error bc->∃ t q,(∀ g,f+2<=g->iA g d acc p=some (t,q))/\jP p q t (rd.args p.e f d acc ts)
theorem mK {f g:Nat} (h:f+1+2<=g):∃ g',g=g'+1/\f+2<=g':=⟨g - 1,by omega,by omega⟩
theorem ie (f:Nat):IE f:=by
 induction f with
 | zero =>
  refine ⟨fun d ts p _ h=>absurd ?_ h,fun k d ts p _ _ h=>absurd ?_ h,fun k d out ts p _ _ h=>absurd ?_ h,fun d ts p _ h=>absurd ?_ h,fun d acc ts p _ h=>absurd ?_ h⟩ <;> simp [rd,rd.args]
 | succ f C =>
  refine ⟨fun d ts p hp h=>?_,fun k d ts p hk hp h=>?_,fun k d out ts p hk hp h=>?_,fun d ts p hp h=>?_,fun d acc ts p hp h=>?_⟩
  ·rw [rd] at h |-
   by_cases hd:d > 60
   ·rw [ab hd] at h |-;have hf:=hp.fail 9 (tok p 0).at_ av;refine ⟨T.zero,p.fail 9 (tok p 0).at_,fun g hg=>?_,by rw [<-On.qN hp];exact hf⟩;obtain ⟨g,rfl,hg⟩:=mK hg
    have gw:b8 p d=p.fail 9 (tok p 0).at_:=by unfold b8;rw [ab hd]
    rw [iE,gw,M hf.err]
   ·rw [M hd] at h |-
    have gw:b8 p d=p:=by unfold b8;rw [M hd]
    obtain ⟨t,q,L,I⟩:=C.level 0 (d+1) ts p aq hp h;refine ⟨t,q,fun g hg=>?_,I⟩;obtain ⟨g,rfl,hg⟩:=mK hg;rw [iE,gw,ab hp.code];exact L g aq
  ·rw [rd] at h |-
   by_cases h9:k=9
   ·rw [ab h9] at h |-;obtain ⟨t,q,L,I⟩:=C.operand d ts p hp h;refine ⟨t,q,fun g hg=>?_,I⟩;obtain ⟨g,rfl,hg⟩:=mK hg;rw [iE,ab h9];exact L g aq
   ·rw [M h9] at h |-
    cases he:rd p.e f (.level (k+1) d) ts with
    | error x =>
     rw [he] at h
     have hx:x≠bc:=fun h0=>h (by rw [h0])
     obtain ⟨t,q,L,I⟩:=C.level (k+1) d ts p aq hp (by rw [he];intro h0;cases h0;exact hx rfl);rw [he] at I;refine ⟨t,q,fun g hg=>?_,I⟩;obtain ⟨g,rfl,hg⟩:=mK hg;rw [iE,M h9,L g aq];exact MX (bS.err I) aq
    | ok r =>
     obtain ⟨t',r⟩:=r;rw [he] at h;simp only at h |-;obtain ⟨t,q,L,I⟩:=C.level (k+1) d ts p aq hp (by rw [he];intro h0;cases h0);rw [he] at I;obtain ⟨rfl,I⟩:=I;rw [<-I.2.2] at h |-;obtain ⟨t3,q3,h3,h4⟩:=C.loop k d t r q aq I.1 h;refine ⟨t3,q3,fun g hg=>?_,jP.tr I h4⟩;obtain ⟨g,rfl,hg⟩:=mK hg;rw [iE,M h9,L g aq];exact h3 g aq
  ·cases ts with
   | nil =>
    rw [rd];refine ⟨out,p,fun g hg=>?_,rfl,hp.self⟩;obtain ⟨g,rfl,hg⟩:=mK hg;rw [iE,M];rintro ⟨_,h0,_⟩;rw [On.tok hp] at h0;simp at h0
   | cons t r =>
    rw [rd] at h |-
    have ht:tok p 0=t:=by rw [On.tok hp];rfl
    by_cases hc:t.kind=3/\t.s∈levels.getD k []
    ·rw [ab hc] at h |-
     have hn:=hp.next
     have n7:p.code=0/\(tok p 0).kind=3/\(levels.getD k []).contains (tok p 0).s=true:=by rw [ht];exact ⟨hp.code,hc.1,by simpa using hc.2⟩
     rw [show p.e=p.next.e from rfl] at h |-
     cases he:rd p.next.e f (.level (k+1) d) r with
     | error x =>
      rw [he] at h
      have hx:x≠bc:=fun h0=>h (by rw [h0])
      obtain ⟨b,q,L,I⟩:=C.level (k+1) d r p.next aq hn.1 (by rw [he];intro h0;cases h0;exact hx rfl)
      rw [he] at I;refine ⟨one 6 t.at_ t.s [out,b],q,fun g hg=>?_,hn.tr (y:=.error x) I⟩;obtain ⟨g,rfl,hg⟩:=mK hg;rw [iE,ab n7,L g aq,ht];exact MX (bS.err I) aq
     | ok x =>
      obtain ⟨b',r'⟩:=x;rw [he] at h;simp only at h |-
      obtain ⟨b,q,L,I⟩:=C.level (k+1) d r p.next aq hn.1 (by rw [he];intro h0;cases h0)
      rw [he] at I;obtain ⟨rfl,I⟩:=I;rw [<-I.2.2] at h |-;obtain ⟨t3,q3,h3,h4⟩:=C.loop k d (one 6 t.at_ t.s [out,b]) r' q hk I.1 h;refine ⟨t3,q3,fun g hg=>?_,jP.tr (hn.tr I) h4⟩;obtain ⟨g,rfl,hg⟩:=mK hg;rw [iE,ab n7,L g aq,ht];exact h3 g aq
    ·rw [M hc];refine ⟨out,p,fun g hg=>?_,rfl,hp.self⟩;obtain ⟨g,rfl,hg⟩:=mK hg;rw [iE,M];rw [ht];rintro ⟨_,h0,L⟩;exact hc ⟨h0,by simpa using L⟩
  ·rw [rd.eq_def] at h |-;simp only at h |-
   by_cases hd:d > 60
   ·rw [ab hd] at h |-;have hf:=hp.fail 9 (tok p 0).at_ av;refine ⟨T.zero,p.fail 9 (tok p 0).at_,fun g hg=>?_,by rw [<-On.qN hp];exact hf⟩;obtain ⟨g,rfl,hg⟩:=mK hg
    have gw:b8 p d=p.fail 9 (tok p 0).at_:=by unfold b8;rw [ab hd]
    rw [iE,gw,M hf.err]
   ·rw [M hd] at h |-
    have gw:b8 p d=p:=by unfold b8;rw [M hd]
    have hi:∀ s:ae,s≠[]->is p 0 s=decide (sign ts 0=s):=fun s hs=>On.is hp 0 hs
    cases ts with
    | nil =>
     simp only
     have ht:tok p 0=⟨0,0,[],p.e⟩:=by rw [On.tok hp];rfl
     have cV:∀ s:ae,s≠[]->is p 0 s=false:=fun s hs=>by rw [hi s hs];exact decide_eq_false (fun h=>hs h.symm)
     have BG:bD p=p.fail 7 p.e:=by unfold bD;rw [ab hp.code,ht,M (by simp)];unfold kV;rw [ht]
     have hf:=hp.fail 7 p.e av;refine ⟨one 2 p.e [] [],p.fail 7 p.e,fun g hg=>?_,hf⟩;obtain ⟨g,rfl,hg⟩:=mK hg;rw [iE,gw,ab hp.code,cV _ av,cV _ av,cV _ av,M av,M (by rw [ht];simp),cV _ av,M av,BG,M hf.err,ht]
    | cons t r =>
     simp only at h |-
     have ht:tok p 0=t:=by rw [On.tok hp];rfl
     have hn:=hp.next
     by_cases h3:t.kind=3
     ·rw [ab h3] at h |-
      have en:sign (t::r) 0=t.s:=by simp only [sign,getElem?_cons_zero,bz,h3,if_true]
      have Bu:¬ t.kind=1:=by omega
      have pB:∀ s:ae,s≠[]->is p 0 s=decide (t.s=s):=fun s hs=>by rw [hi s hs,en]
      by_cases hu:t.s=[45]\/t.s=[33]\/t.s=[126]
      ·rw [ab hu] at h |-
       have td:is p 0 [45]=true\/is p 0 [33]=true\/is p 0 [126]=true:=by
        rw [pB _ av,pB _ av,pB _ av];simpa using hu
       rw [show p.e=p.next.e from rfl] at h |-
       cases he:rd p.next.e f (.operand (d+1)) r with
       | error x =>
        rw [he] at h
        have hx:x≠bc:=fun h0=>h (by rw [h0])
        obtain ⟨b,q,L,I⟩:=C.operand (d+1) r p.next hn.1 (by rw [he];intro h0;cases h0;exact hx rfl)
        rw [he] at I;refine ⟨one 5 t.at_ t.s [b],q,fun g hg=>?_,hn.tr (y:=.error x) I⟩;obtain ⟨g,rfl,hg⟩:=mK hg;rw [iE,gw,ab hp.code,ab td,L g aq,ht]
       | ok x =>
        obtain ⟨b',r'⟩:=x;rw [he] at h;simp only at h |-
        obtain ⟨b,q,L,I⟩:=C.operand (d+1) r p.next hn.1 (by rw [he];intro h0;cases h0)
        rw [he] at I;obtain ⟨rfl,I⟩:=I;refine ⟨one 5 t.at_ t.s [b],q,fun g hg=>?_,rfl,hn.tr I⟩;obtain ⟨g,rfl,hg⟩:=mK hg;rw [iE,gw,ab hp.code,ab td,L g aq,ht]
      ·rw [M hu] at h |-
       have td:¬ (is p 0 [45]=true\/is p 0 [33]=true\/is p 0 [126]=true):=by
        rw [pB _ av,pB _ av,pB _ av];simpa using hu
       by_cases hb:t.s=[40]
       ·rw [ab hb] at h |-
        have bC:is p 0 [40]=true:=by rw [pB _ av];simpa using hb
        rw [show p.e=p.next.e from rfl] at h |-
        cases he:rd p.next.e f (.expr (d+1)) r with
        | error x =>
         rw [he] at h
         have hx:x≠bc:=fun h0=>h (by rw [h0])
         obtain ⟨b,q,L,I⟩:=C.expr (d+1) r p.next hn.1 (by rw [he];intro h0;cases h0;exact hx rfl)
         rw [he] at I;refine ⟨b,want q [41],fun g hg=>?_,?_⟩
         ·obtain ⟨g,rfl,hg⟩:=mK hg;rw [iE,gw,ab hp.code,M td,M (by rw [ht];exact Bu),ab bC,L g aq]
         ·rw [gm (bS.err I)];exact hn.tr (y:=.error x) I
        | ok x =>
         obtain ⟨b',r'⟩:=x;rw [he] at h;simp only at h |-
         obtain ⟨b,q,L,I⟩:=C.expr (d+1) r p.next hn.1 (by rw [he];intro h0;cases h0)
         rw [he] at I;obtain ⟨rfl,I⟩:=I;have aY:=(hn.tr I).tr (On.want I.1 (s:=[41]) av);rw [I.2.2] at aY;refine ⟨b,want q [41],fun g hg=>?_,?_⟩
         ·obtain ⟨g,rfl,hg⟩:=mK hg;rw [iE,gw,ab hp.code,M td,M (by rw [ht];exact Bu),ab bC,L g aq]
         ·cases sn:aP p.next.e [41] r' with
          | error x=>rw [sn] at aY;exact aY
          | ok r2=>rw [sn] at aY;exact ⟨rfl,aY⟩
       ·rw [M hb] at h |-
        have bC:¬ is p 0 [40]=true:=by rw [pB _ av];simpa using hb
        have BG:bD p=p.fail 7 t.at_:=by unfold bD;rw [ab hp.code,ht,M aq];unfold kV;rw [ht]
        have hf:=hp.fail 7 t.at_ av;refine ⟨one 2 t.at_ t.s [],p.fail 7 t.at_,fun g hg=>?_,hf⟩;obtain ⟨g,rfl,hg⟩:=mK hg;rw [iE,gw,ab hp.code,M td,M (by rw [ht];exact Bu),M bC,BG,M hf.err,ht]
     ·rw [M h3] at h |-
      have cV:∀ s:ae,s≠[]->is p 0 s=false:=fun s hs=>by unfold is;rw [ht];simp [h3]
      have td:¬ (is p 0 [45]=true\/is p 0 [33]=true\/is p 0 [126]=true):=by rw [cV _ av,cV _ av,cV _ av];decide
      by_cases L:t.kind=1
      ·rw [ab L];refine ⟨_,p.next,fun g hg=>?_,rfl,hn⟩;obtain ⟨g,rfl,hg⟩:=mK hg;rw [iE,gw,ab hp.code,M td,ab (by rw [ht];exact L),ht]
      ·rw [M L] at h |-
       have c7:¬ (tok p 0).kind=1:=by rw [ht];exact L
       have bC:¬ is p 0 [40]=true:=by rw [cV _ av];decide
       rcases uw hp with ⟨r',k1,k2⟩ | ⟨x,k1,k2⟩
       ·rw [k1] at h |-;simp only at h |-
        have sU:∀ s:ae,s≠[]->is (bD p) 0 s=decide (sign r' 0=s):=fun s hs=>On.is k2.1 0 hs
        by_cases hb:sign r' 0=[91]
        ·rw [ab hb] at h |-
         have vR:is (bD p) 0 [91]=true:=by rw [sU _ av];simpa using hb
         obtain ⟨tb,BM,_⟩:=dS av hb;have bV:=k2.1;rw [BM] at bV
         have bV:=k2.tr bV.next
         rw [<-bV.2.2] at h |-
         cases he:rd (bD p).next.e f (.expr (d+1)) r'.tail with
         | error x =>
          rw [he] at h
          have hx:x≠bc:=fun h0=>h (by rw [h0])
          obtain ⟨b,q,k3,k4⟩:=C.expr (d+1) r'.tail (bD p).next bV.1 (by rw [he];intro h0;cases h0;exact hx rfl)
          rw [he] at k4;refine ⟨one 3 t.at_ (tok p 0).s [b],want q [93],fun g hg=>?_,?_⟩
          ·obtain ⟨g,rfl,hg⟩:=mK hg;rw [iE,gw,ab hp.code,M td,M c7,M bC,ab k2.1.code,ab vR,k3 g aq];simp only [ht]
          ·rw [gm (bS.err k4)];exact bV.tr (y:=.error x) k4
         | ok x =>
          obtain ⟨b',r2⟩:=x;rw [he] at h;simp only at h |-
          obtain ⟨b,q,k3,k4⟩:=C.expr (d+1) r'.tail (bD p).next bV.1 (by rw [he];intro h0;cases h0)
          rw [he] at k4;obtain ⟨rfl,k4⟩:=k4;have aY:=(bV.tr k4).tr (On.want k4.1 (s:=[93]) av);rw [k4.2.2] at aY;refine ⟨one 3 t.at_ (tok p 0).s [b],want q [93],fun g hg=>?_,?_⟩
          ·obtain ⟨g,rfl,hg⟩:=mK hg;rw [iE,gw,ab hp.code,M td,M c7,M bC,ab k2.1.code,ab vR,k3 g aq];simp only [ht]
          ·cases sn:aP (bD p).next.e [93] r2 with
           | error x=>rw [sn] at aY;exact aY
           | ok r3=>rw [sn] at aY;exact ⟨rfl,aY⟩
        ·rw [M hb] at h |-
         have vR:¬ is (bD p) 0 [91]=true:=by rw [sU _ av];simpa using hb
         by_cases hc:sign r' 0=[40]
         ·rw [ab hc] at h |-
          have o7:is (bD p) 0 [40]=true:=by rw [sU _ av];simpa using hc
          obtain ⟨tb,BM,_⟩:=dS av hc;have bV:=k2.1;rw [BM] at bV
          have bV:=k2.tr bV.next
          rw [<-bV.2.2] at h |-
          cases he:rd.args (bD p).next.e f (d+1) [] r'.tail with
          | error x =>
           rw [he] at h
           have hx:x≠bc:=fun h0=>h (by rw [h0])
           obtain ⟨b,q,k3,k4⟩:=C.args (d+1) [] r'.tail (bD p).next bV.1 (by rw [he];intro h0;cases h0;exact hx rfl)
           rw [he] at k4;refine ⟨one 4 t.at_ (tok p 0).s b,q,fun g hg=>?_,bV.tr (y:=.error x) k4⟩;obtain ⟨g,rfl,hg⟩:=mK hg;rw [iE,gw,ab hp.code,M td,M c7,M bC,ab k2.1.code,M vR,ab o7,k3 g aq];simp only [ht]
          | ok x =>
           obtain ⟨b',r2⟩:=x;rw [he] at h
           obtain ⟨b,q,k3,k4⟩:=C.args (d+1) [] r'.tail (bD p).next bV.1 (by rw [he];intro h0;cases h0)
           rw [he] at k4;obtain ⟨rfl,k4⟩:=k4;refine ⟨one 4 t.at_ (tok p 0).s b,q,fun g hg=>?_,rfl,bV.tr k4⟩;obtain ⟨g,rfl,hg⟩:=mK hg;rw [iE,gw,ab hp.code,M td,M c7,M bC,ab k2.1.code,M vR,ab o7,k3 g aq];simp only [ht]
         ·rw [M hc] at h |-
          have o7:¬ is (bD p) 0 [40]=true:=by rw [sU _ av];simpa using hc
          refine ⟨one 2 t.at_ (tok p 0).s [],bD p,fun g hg=>?_,rfl,k2⟩;obtain ⟨g,rfl,hg⟩:=mK hg;rw [iE,gw,ab hp.code,M td,M c7,M bC,ab k2.1.code,M vR,M o7];simp only [ht]
       ·rw [k1] at h |-;refine ⟨one 2 t.at_ (tok p 0).s [],bD p,fun g hg=>?_,k2⟩;obtain ⟨g,rfl,hg⟩:=mK hg;rw [iE,gw,ab hp.code,M td,M c7,M bC,M k2.err];simp only [ht]
  ·rw [rd.args] at h |-;have hi:is p 0 [41]=decide (sign ts 0=[41]):=On.is hp 0 av
   by_cases hb:sign ts 0=[41]
   ·rw [ab hb];have hm:=On.want hp (s:=[41]) av;unfold Go.Xp.aP at hm;rw [ab hb] at hm;refine ⟨acc,want p [41],fun g hg=>?_,rfl,hm⟩;obtain ⟨g,rfl,hg⟩:=mK hg;rw [iA,M (fun h0=>by rw [hi] at h0;simp [hb] at h0)]
   ·rw [M hb] at h |-;have n7:p.code=0/\is p 0 [41]=false:=⟨hp.code,by rw [hi];simpa using hb⟩;have key:∀ (p':RS) (jC:List Tok),bS p p' (.ok jC)->(if acc.length=0 then p else want p [44])=p'->(match rd p.e f (.expr d) jC with | .error x=>.error x | .ok (a,ts)=>rd.args p.e f d (acc++[a]) ts:Rd (List T))≠.error bc ->
      ∃ t q,(∀ g,f+1+2<=g->iA g d acc p=some (t,q))/\jP p q t (match rd p.e f (.expr d) jC with | .error x=>.error x | .ok (a,ts)=>rd.args p.e f d (acc++[a]) ts):=by
     intro p' jC hn FB h;rw [<-hn.2.2] at h |-
     cases he:rd p'.e f (.expr d) jC with
     | error x =>
      rw [he] at h
      have hx:x≠bc:=fun h0=>h (by rw [h0])
      obtain ⟨b,q,k1,k2⟩:=C.expr d jC p' hn.1 (by rw [he];intro h0;cases h0;exact hx rfl);rw [he] at k2;refine ⟨acc++[b],q,fun g hg=>?_,hn.tr (y:=.error x) k2⟩;obtain ⟨g,rfl,hg⟩:=mK hg;rw [iA,ab n7,FB,k1 g aq];simp only;obtain ⟨g,rfl⟩:∃ g',g=g'+1:=⟨g - 1,by omega⟩;rw [iA,M (fun h0=>bS.err k2 h0.1),gm (bS.err k2)]
     | ok x =>
      obtain ⟨b',r'⟩:=x;rw [he] at h;simp only at h |-;obtain ⟨b,q,k1,k2⟩:=C.expr d jC p' hn.1 (by rw [he];intro h0;cases h0);rw [he] at k2;obtain ⟨rfl,k2⟩:=k2;rw [<-k2.2.2] at h |-;obtain ⟨t3,q3,h3,h4⟩:=C.args d (acc++[b]) r' q k2.1 h;refine ⟨t3,q3,fun g hg=>?_,jP.tr (hn.tr k2) h4⟩;obtain ⟨g,rfl,hg⟩:=mK hg;rw [iA,ab n7,FB,k1 g aq];exact h3 g aq
    cases acc with
    | nil =>
     rw [ab rfl] at h |-;exact key p ts hp.self rfl h
    | cons a0 acc0 =>
     rw [M (by simp)] at h |-
     rcases mN hp (s:=[44]) av with ⟨r',k1,k2⟩ | ⟨x,k1,k2⟩
     ·rw [k1] at h |-;exact key _ r' k2 (M (by simp)) h
     ·rw [k1];refine ⟨a0::acc0++[T.zero],want p [44],fun g hg=>?_,k2⟩;obtain ⟨g,rfl,hg⟩:=mK hg;rw [iA,ab n7,M (by simp),FY k2.err aq];simp only;obtain ⟨g,rfl⟩:∃ g',g=g'+1:=⟨g - 1,by omega⟩;rw [iA,M (fun h0=>k2.err h0.1),gm k2.err]
end Go.Im
namespace Go.Xp
abbrev tN (ts:List Tok):Prop:=ts.Pairwise fun a b=>a.at_ < b.at_
theorem xn {e:Int} {s:ae} {ts r:List Tok} (hs:s≠[]) (h:aP e s ts=.ok r):∃ u,ts=u::r/\u.kind=3/\u.s=s:=by
 obtain ⟨L,I⟩:=C0 h;obtain ⟨t,h3,h4,h5⟩:=Go.Sp.dS hs I;exact ⟨t,by rw [L];exact h3,h4,h5⟩
theorem Gg {e:Int} {s:ae} {ts r:List Tok} (h:name e ts=.ok (s,r)):∃ u,ts=u::r/\u.kind=2/\u.s=s/\s.length<=12:=by
 cases ts with
 | nil=>cases h
 | cons t ts =>
  rw [name] at h;split at h
  ·split at h
   ·cases h
   ·cases h;exact ⟨t,rfl,by assumption,rfl,by omega⟩
  ·cases h
theorem uC {s:ae} {ts:List Tok} (hs:s≠[]) (h:sign ts 0=s):∃ u,ts=u::ts.tail/\u.kind=3/\u.s=s:=Go.Sp.dS hs h
def Tj (ts r:List Tok) (t:T):Prop:=∃ a pre,ts=a::(pre++r)/\(tN ts->a.at_<=t.n.at_/\(t.n.kind=3->t.n.at_=a.at_->a.kind=2/\∃ Vl w,a::pre=Vl++[w]/\w.s=[93]))
def Ti (ts r:List Tok) (out t:T):Prop:=(t=out/\r=ts)\/(t.n.kind=6/\∃ pre,ts=pre++r/\∃ u∈ts,t.n.at_=u.at_)
theorem SK (e:Int):∀ f,(∀ j ts t r,(∀ k d out,j≠.loop k d out)->rd e f j ts=.ok (t,r)->Tj ts r t)/\(∀ k d out ts t r,rd e f (.loop k d out) ts=.ok (t,r)->Ti ts r out t)/\(∀ d acc ts l r,rd.args e f d acc ts=.ok (l,r)->∃ pre,ts=pre++r/\pre≠[]):=by
 intro f
 induction f with
 | zero=>exact ⟨fun j ts t r _ h=>by simp [rd] at h,fun k d out ts t r h=>by simp [rd] at h,fun d acc ts l r h=>by simp [rd.args] at h⟩
 | succ f ih =>
  obtain ⟨i1,i2,i3⟩:=ih;refine ⟨fun j ts t r hj h=>?_,fun k d out ts t r h=>?_,fun d acc ts l r h=>?_⟩
  ·rw [rd.eq_def] at h
   cases j with
   | expr d =>
    simp only at h;split at h
    ·cases h
    ·exact i1 _ _ _ _ (fun k d out h=>by cases h) h
   | level k d =>
    simp only at h;split at h
    ·exact i1 _ _ _ _ (fun k d out h=>by cases h) h
    ·split at h
     ·cases h
     ·rename_i out jC he;have L:=i1 _ _ _ _ (fun k d out h=>by cases h) he;have I:=i2 _ _ _ _ _ _ h
      rcases I with ⟨rfl,rfl⟩ | ⟨h3,C6,rfl,u,hu,h4⟩
      ·exact L
      ·obtain ⟨a,pre,rfl,h5⟩:=L;refine ⟨a,pre++C6,by simp,fun hs=>⟨?_,fun h6=>by omega⟩⟩;rw [h4];rw [tN,List.pairwise_cons] at hs;exact Int.le_of_lt (hs.1 u (List.mem_append_right _ hu))
   | loop k d out=>exact absurd rfl (hj _ _ _)
   | operand d =>
    simp only at h;split at h
    ·cases h
    ·cases ts with
     | nil=>cases h
     | cons a r' =>
      simp only at h;split at h
      ·rename_i h3;split at h
       ·split at h
        ·cases h
        ·rename_i b r2 he;cases h;obtain ⟨a2,pre,rfl,_⟩:=i1 _ _ _ _ (fun k d out h=>by cases h) he;exact ⟨a,a2::pre,by simp,fun _=>⟨by simp [one,T.n],fun h=>by simp [one,T.n] at h⟩⟩
       ·split at h
        ·split at h
         ·cases h
         ·rename_i b r2 he;split at h
          ·cases h
          ·rename_i r3 hm;cases h;obtain ⟨a2,pre,rfl,h5⟩:=i1 _ _ _ _ (fun k d out h=>by cases h) he;obtain ⟨w,rfl,_,_⟩:=xn av hm;refine ⟨a,a2::(pre++[w]),by simp,fun hs=>?_⟩;rw [tN,List.pairwise_cons] at hs;have h6:=(h5 hs.2).1;have h7:=hs.1 a2 (by simp);exact ⟨by omega,fun _ h8=>by omega⟩
        ·cases h
      ·split at h
       ·cases h;exact ⟨a,[],rfl,fun _=>⟨Int.le_refl _,fun h=>by simp [T.n] at h⟩⟩
       ·split at h
        ·cases h
        ·rename_i s r2 hn;obtain ⟨u,hu,hk,_⟩:=Gg hn;cases hu;split at h
         ·rename_i hs;obtain ⟨w,hw,_,_⟩:=uC av hs;split at h
          ·cases h
          ·rename_i b r3 he;split at h
           ·cases h
           ·rename_i r4 hm;cases h;obtain ⟨a2,pre,h4,h5⟩:=i1 _ _ _ _ (fun k d out h=>by cases h) he;obtain ⟨z,rfl,_,hz⟩:=xn av hm;refine ⟨a,w::a2::(pre++[z]),by rw [hw,h4];simp,fun _=>⟨Int.le_refl _,fun _ _=>⟨hk,a::w::a2::pre,z,by simp,hz⟩⟩⟩
         ·split at h
          ·rename_i hs;obtain ⟨w,hw,_,_⟩:=uC av hs;split at h
           ·cases h
           ·rename_i l r3 he;cases h;obtain ⟨pre,h4,_⟩:=i3 _ _ _ _ _ he;exact ⟨a,w::pre,by rw [hw,h4];simp,fun _=>⟨Int.le_refl _,fun h=>by simp [one,T.n] at h⟩⟩
          ·cases h;exact ⟨a,[],rfl,fun _=>⟨Int.le_refl _,fun h=>by simp [one,T.n] at h⟩⟩
  ·cases ts with
   | nil=>rw [rd] at h;cases h;exact .inl ⟨rfl,rfl⟩
   | cons a r' =>
    rw [rd] at h;split at h
    ·split at h
     ·cases h
     ·rename_i b r2 he;obtain ⟨a2,pre,rfl,_⟩:=i1 _ _ _ _ (fun k d out h=>by cases h) he
      rcases i2 _ _ _ _ _ _ h with ⟨rfl,rfl⟩ | ⟨h3,C6,rfl,u,hu,h4⟩
      ·exact .inr ⟨rfl,a::a2::pre,by simp,a,by simp,rfl⟩
      ·exact .inr ⟨h3,a::a2::(pre++C6),by simp,u,by simp at hu |-;rcases hu with h | h <;> simp [h],h4⟩
    ·cases h;exact .inl ⟨rfl,rfl⟩
  ·rw [rd.args] at h;split at h
   ·rename_i hs;obtain ⟨w,hw,_,_⟩:=uC av hs;cases h;exact ⟨[w],by rw [hw];rfl,by simp⟩
   ·split at h
    ·cases h
    ·rename_i jC ui;split at h
     ·cases h
     ·rename_i a r' he;obtain ⟨a2,pre,h4,_⟩:=i1 _ _ _ _ (fun k d out h=>by cases h) he;obtain ⟨C6,h5,_⟩:=i3 _ _ _ _ _ h;split at ui
      ·cases ui;exact ⟨a2::(pre++C6),by rw [h4,h5];simp,by simp⟩
      ·obtain ⟨w,hw,_,_⟩:=xn av ui;exact ⟨w::a2::(pre++C6),by rw [hw,h4,h5];simp,by simp⟩
theorem L3 {e:Int} {d:Nat} {ts r:List Tok} {t:T} (h:expr e d ts=.ok (t,r)):Tj ts r t:=(SK e _).1 _ _ _ _ (fun k d out h=>by cases h) h
end Go.Xp
namespace Go.Im
open Go.Xp Go.Sp
def vc (p:RS):ae:=match p.l[p.i - 1]? with | some t=>t.s | none=>[]
def xv (p q:RS) (e:T):Prop:=e.n.kind=3/\q.code=0/\vc q=[93]/\e.n.at_=(tok p 0).at_/\(tok p 0).kind=2/\is q 0 [61]=true
instance (p q:RS) (e:T):Decidable (xv p q e):=by unfold xv;infer_instance
mutual
def iS:Nat->rv->RS->Option (T × RS)
 | 0,_,_=>none
 | f+1,.block d,p =>
  if (b8 p d).code=0 then match iB f (d+1) [] (want p [123]) with
   | none=>none
   | some (l,q)=>some (one 14 (tok p 0).at_ [] l,want q [125])
  else some (one 14 (tok p 0).at_ [] [],b8 p d)
 | f+1,.stmt d,p =>
  if (b8 p d).code=0 then
   if is p 0 ia=true then match iE f (.expr (d+1)) (want (bD p.next) [61]) with
    | none=>none
    | some (e,q)=>some (one 13 (tok p 0).at_ (tok p.next 0).s [e],want q [59])
   else if is p 0 eo=true\/is p 0 dQ=true then match iE f (.expr (d+1)) (want p.next [40]) with
    | none=>none
    | some (c,q)=>match iS f (.block (d+1)) (want q [41]) with
     | none=>none
     | some (b,q) =>
      if is p 0 eo=true/\q.code=0/\is q 0 eL=true then match iS f (.block (d+1)) q.next with
       | none=>none
       | some (b2,q)=>some (one 9 (tok p 0).at_ [] [c,b,b2],q)
      else some (one (if is p 0 eo=true then 9 else 10) (tok p 0).at_ [] [c,b],q)
   else if is p 0 dz=true then match iE f (.expr (d+1)) p.next with
    | none=>none
    | some (e,q)=>some (one 11 (tok p 0).at_ [] [e],want q [59])
   else if (tok p 0).kind=2/\is p 1 [61]=true then match iE f (.expr (d+1)) (want (bD p) [61]) with
    | none=>none
    | some (e,q)=>some (one 7 (tok p 0).at_ (tok p 0).s [e],want q [59])
   else match iE f (.expr (d+1)) p with
    | none=>none
    | some (e,q) =>
     if xv p q e then match e.kids,iE f (.expr (d+1)) (want q [61]) with
      | a::_,some (v,q)=>some (one 8 (tok p 0).at_ e.n.s [a,v],want q [59])
      | _,_=>none
     else some (one 12 (tok p 0).at_ [] [e],want q [59])
  else some (T.zero,b8 p d)
def iB:Nat->Nat->List T->RS->Option (List T × RS)
 | 0,_,_,_=>none
 | f+1,d,acc,p=>if p.code=0/\is p 0 [125]=false then match iS f (.stmt d) p with
   | none=>none
   | some (a,q)=>iB f d (acc++[a]) q
  else some (acc,p)
end
def KI (p:RS) (f:Nat):Nat:=f+20 * p.l.length+40
section
variable {p q:RS} {ts r:List Tok}
theorem Kq {d g:Nat} (hp:On p ts) (hg:20 * p.l.length+20<=g):∃ t q,(∀ g,20 * p.l.length+20<=g->iE g (.expr d) p=some (t,q))/\((∃ r,expr p.e d ts=.ok (t,r)/\bS p q (.ok r))\/(∃ x,expr p.e d ts=.error x/\bS p q (.error x))):=by
 have hl:ts.length<=p.l.length:=by rw [<-hp.rest,iK];omega
 have hf:rd p.e (20 * ts.length+12) (.expr d) ts≠.error bc:=zy (j:=.expr d) trivial (aD _);obtain ⟨t,q,L,I⟩:=(ie _).expr d ts p hp hf;rw [CI (aD _)] at I;refine ⟨t,q,fun g hg=>L g aq,?_⟩
 cases he:expr p.e d ts with
 | error x=>rw [he] at I;exact .inr ⟨x,rfl,I⟩
 | ok y=>obtain ⟨t',r⟩:=y;rw [he] at I;obtain ⟨rfl,I⟩:=I;exact .inl ⟨r,rfl,I⟩
theorem Kp {d:Nat} {b:ae} (hp:On p ts) (hb:b≠[]):∃ t q,(∀ g,20 * p.l.length+20<=g->iE g (.expr d) p=some (t,q))/\((∃ r r',expr p.e d ts=.ok (t,r)/\Go.Xp.aP p.e b r=.ok r'/\bS p (want q b) (.ok r'))\/(∃ r x,expr p.e d ts=.ok (t,r)/\Go.Xp.aP p.e b r=.error x/\bS p (want q b) (.error x))\/(∃ x,expr p.e d ts=.error x/\bS p (want q b) (.error x))):=by
 obtain ⟨t,q,L,I⟩:=Kq (d:=d) hp (aD _);refine ⟨t,q,L,?_⟩
 rcases I with ⟨r,I,h3⟩ | ⟨x,I,h3⟩
 ·rcases mN h3.1 hb with ⟨r',h4,h5⟩ | ⟨x,h4,h5⟩
  ·rw [h3.2.2] at h4;exact .inl ⟨r,r',I,h4,h3.tr h5⟩
  ·rw [h3.2.2] at h4;exact .inr (.inl ⟨r,x,I,h4,h3.tr h5⟩)
 ·exact .inr (.inr ⟨x,I,by rw [gm h3.err];exact h3⟩)
theorem MW {d:Nat} {a b:ae} (hp:On p ts) (ha:a≠[]) (hb:b≠[]):∃ t q,(∀ g,20 * p.l.length+20<=g->iE g (.expr d) (want p a)=some (t,q))/\((∃ r,inner p.e d a b ts=.ok (t,r)/\bS p (want q b) (.ok r))\/∃ x,inner p.e d a b ts=.error x/\bS p (want q b) (.error x)):=by
 unfold Go.Xp.inner
 rcases mN hp ha with ⟨r,L,I⟩ | ⟨x,L,I⟩
 ·rw [L];obtain ⟨t,q,h3,h4⟩:=Kp (d:=d) (b:=b) I.1 hb;rw [I.2.2] at h4;rw [I.2.1] at h3;refine ⟨t,q,h3,?_⟩;simp only
  rcases h4 with ⟨r,r',k1,k2,k3⟩ | ⟨r,x,k1,k2,k3⟩ | ⟨x,k1,k3⟩
  ·rw [k1];simp only;rw [k2];exact .inl ⟨r',rfl,I.tr k3⟩
  ·rw [k1];simp only;rw [k2];exact .inr ⟨x,rfl,I.tr (y:=.error x) k3⟩
  ·rw [k1];exact .inr ⟨x,rfl,I.tr (y:=.error x) k3⟩
 ·rw [L];exact ⟨T.zero,want p a,fun g hg=>FY I.err aq,.inr ⟨x,rfl,by rw [gm I.err];exact I⟩⟩
theorem M1 {d:Nat} (hp:On p ts):∃ t q,(∀ g,20 * p.l.length+20<=g->iE g (.expr d) (want (bD p) [61])=some (t,q))/\((∃ r,lO p.e d ts=.ok (((tok p 0).s,t),r)/\bS p (want q [59]) (.ok r))\/∃ x,lO p.e d ts=.error x/\bS p (want q [59]) (.error x)):=by
 unfold Go.Xp.lO
 rcases uw hp with ⟨r,L,I⟩ | ⟨x,L,I⟩
 ·rw [L];obtain ⟨t,q,h3,h4⟩:=MW (d:=d) (a:=[61]) (b:=[59]) I.1 av av;rw [I.2.2] at h4;rw [I.2.1] at h3;refine ⟨t,q,h3,?_⟩;simp only
  rcases h4 with ⟨r,k1,k3⟩ | ⟨x,k1,k3⟩
  ·rw [k1];exact .inl ⟨r,rfl,I.tr k3⟩
  ·rw [k1];exact .inr ⟨x,rfl,I.tr (y:=.error x) k3⟩
 ·rw [L];refine ⟨T.zero,bD p,fun g hg=>by rw [gm I.err];exact FY I.err aq,.inr ⟨x,rfl,by rw [gm I.err];exact I⟩⟩
theorem Pj (h:p.code≠0) {g d:Nat} (hg:1<=g):iS g (.block d) p=some (one 14 (tok p 0).at_ [] [],p):=by
 obtain ⟨g,rfl⟩:∃ g',g=g'+1:=⟨g - 1,by omega⟩;rw [iS,Bi h,M h]
theorem On.srt (h:On p ts) (hs:tN p.l):tN ts:=by rw [<-h.rest];exact hs.drop
theorem On.last (h:On p ts) {pre r:List Tok} {w:Tok} (hq:bS p q (.ok r)) (ht:ts=(pre++[w])++r):vc q=w.s:=by
 have L:p.l=p.l.take p.i++(pre++w::r):=by
  have:=List.take_append_drop p.i p.l;rw [h.rest,ht] at this;simp only [cK,List.singleton_append,cons_append,nil_append] at this;exact this.symm
 have hr:=congrArg List.length hq.1.rest;have hl:=congrArg List.length L;have hle:=hq.1.le;have dJ:=h.le;rw [hq.2.1] at hr hle;simp only [iK,aU,length_cons,cS] at hr hl;unfold vc;rw [hq.2.1,L,eE (by rw [cS];omega),eE (by rw [cS];omega)]
 have:q.i - 1 - (p.l.take p.i).length - pre.length=0:=by rw [cS];omega
 rw [this];rfl
end
structure ZG (f:Nat):Prop where
 block:∀ d ts p,On p ts->tN p.l->rs p.e f (.block d) ts≠.error bc->∃ t q,(∀ g,KI p f<=g->iS g (.block d) p=some (t,q))/\jP p q t (rs p.e f (.block d) ts)
 stmt:∀ d ts p,On p ts->tN p.l->rs p.e f (.stmt d) ts≠.error bc->∃ t q,(∀ g,KI p f<=g->iS g (.stmt d) p=some (t,q))/\jP p q t (rs p.e f (.stmt d) ts)
 body:∀ d acc ts p,On p ts->tN p.l->rs.body p.e f d acc ts≠.error bc->∃ t q,(∀ g,KI p f<=g->iB g d acc p=some (t,q))/\jP p (want q [125]) t (rs.body p.e f d acc ts)
theorem pJ {p:RS} {f g:Nat} (h:KI p (f+1)<=g):∃ g',g=g'+1/\KI p f<=g'/\20 * p.l.length+20<=g':=⟨g - 1,by unfold KI at h;omega,by unfold KI at *;omega,by unfold KI at h;omega⟩
theorem EA {p q:RS} (h:q.l=p.l) (f:Nat):KI q f=KI p f:=by unfold KI;rw [h]
theorem is_ (f:Nat):ZG f:=by
 induction f with
 | zero=>exact ⟨fun d ts p _ _ h=>absurd (by simp [rs]) h,fun d ts p _ _ h=>absurd (by simp [rs]) h,fun d acc ts p _ _ h=>absurd (by simp [rs.body]) h⟩
 | succ f C =>
  refine ⟨fun d ts p hp hs h=>?_,fun d ts p hp hs h=>?_,fun d acc ts p hp hs h=>?_⟩
  ·rw [rs] at h |-;have dJ:=On.qN hp
   by_cases hd:d > 60
   ·rw [ab hd] at h |-;have hf:=hp.fail 9 (tok p 0).at_ av;refine ⟨one 14 (tok p 0).at_ [] [],p.fail 9 (tok p 0).at_,fun g hg=>?_,by rw [<-dJ];exact hf⟩;obtain ⟨g,rfl,kY,fu⟩:=pJ hg
    have gw:b8 p d=p.fail 9 (tok p 0).at_:=by unfold b8;rw [ab hd]
    rw [iS,gw,M hf.err]
   ·rw [M hd] at h |-
    have gw:b8 p d=p:=by unfold b8;rw [M hd]
    rcases mN hp (s:=[123]) av with ⟨r,L,I⟩ | ⟨x,L,I⟩
    ·rw [L] at h |-;simp only at h |-
     have hb:rs.body p.e f (d+1) [] r≠.error bc:=fun h0=>h (by rw [h0])
     rw [<-I.2.2] at hb;obtain ⟨l,q,h3,h4⟩:=C.body (d+1) [] r (want p [123]) I.1 (by rw [I.2.1];exact hs) hb;rw [I.2.2] at h4;rw [EA I.2.1] at h3;refine ⟨one 14 (tok p 0).at_ [] l,want q [125],fun g hg=>?_,?_⟩
     ·obtain ⟨g,rfl,kY,fu⟩:=pJ hg;rw [iS,gw,ab hp.code,h3 g aq]
     ·cases he:rs.body p.e f (d+1) [] r with
      | error x=>rw [he] at h4;exact I.tr (y:=.error x) h4
      | ok y=>obtain ⟨l',r'⟩:=y;rw [he] at h4;obtain ⟨rfl,h4⟩:=h4;rw [dJ];exact ⟨rfl,I.tr h4⟩
    ·rw [L] at h |-;refine ⟨one 14 (tok p 0).at_ [] [],want p [123],fun g hg=>?_,I⟩;obtain ⟨g,rfl,kY,fu⟩:=pJ hg;rw [iS,gw,ab hp.code];obtain ⟨g,rfl⟩:∃ g',g=g'+1:=⟨g - 1,by omega⟩;rw [iB,M (fun h0=>I.err h0.1)];simp only;rw [gm I.err]
  ·rw [rs] at h |-;have dJ:=On.qN hp
   by_cases hd:d > 60
   ·rw [ab hd] at h |-;have hf:=hp.fail 9 (tok p 0).at_ av;refine ⟨T.zero,p.fail 9 (tok p 0).at_,fun g hg=>?_,by rw [<-dJ];exact hf⟩;obtain ⟨g,rfl,kY,fu⟩:=pJ hg
    have gw:b8 p d=p.fail 9 (tok p 0).at_:=by unfold b8;rw [ab hd]
    rw [iS,gw,M hf.err]
   ·rw [M hd] at h |-
    have gw:b8 p d=p:=by unfold b8;rw [M hd]
    have hi:∀ s:ae,s≠[]->is p 0 s=decide (sign ts 0=s):=fun s hs=>On.is hp 0 hs
    have z6:is p 1 [61]=decide (sign ts 1=[61]):=On.is hp 1 av;simp only at h |-
    by_cases hv:sign ts 0=ia
    ·rw [ab hv]
     have uj:is p 0 ia=true:=by rw [hi _ av];simpa using hv
     obtain ⟨tv,yE,_⟩:=dS av hv;have hn:=hp;rw [yE] at hn
     have hn:=hn.next
     rw [show p.e=p.next.e from rfl];obtain ⟨t,q,L,I⟩:=M1 (d:=d+1) hn.1
     rcases I with ⟨r,I,h3⟩ | ⟨x,I,h3⟩
     ·rw [I];refine ⟨one 13 (tok p 0).at_ (tok p.next 0).s [t],want q [59],fun g hg=>?_,by rw [dJ];rfl,hn.tr h3⟩;obtain ⟨g,rfl,kY,fu⟩:=pJ hg;rw [iS,gw,ab hp.code,ab uj,L g fu]
     ·rw [I];refine ⟨one 13 (tok p 0).at_ (tok p.next 0).s [t],want q [59],fun g hg=>?_,hn.tr (y:=.error x) h3⟩;obtain ⟨g,rfl,kY,fu⟩:=pJ hg;rw [iS,gw,ab hp.code,ab uj,L g fu]
    rw [M hv] at h |-
    have uj:¬ is p 0 ia=true:=by rw [hi _ av];simpa using hv
    by_cases hc:sign ts 0=eo\/sign ts 0=dQ
    ·rw [ab hc] at h |-
     have o7:is p 0 eo=true\/is p 0 dQ=true:=by rw [hi _ av,hi _ av];simpa using hc
     obtain ⟨tv,yE⟩:∃ t,ts=t::ts.tail:=by
      rcases hc with hc | hc
      ·obtain ⟨t,L,_⟩:=dS av hc;exact ⟨t,L⟩
      ·obtain ⟨t,L,_⟩:=dS av hc;exact ⟨t,L⟩
     have hn:=hp;rw [yE] at hn
     have hn:=hn.next
     have ue:(if is p 0 eo=true then (9:Int) else 10)=if sign ts 0=eo then 9 else 10:=by rw [hi _ av];simp
     obtain ⟨c,q,L,I⟩:=MW (d:=d+1) (a:=[40]) (b:=[41]) hn.1 av av
     rcases I with ⟨r,I,h3⟩ | ⟨x,I,h3⟩
     ·rw [show p.next.e=p.e from rfl] at I;rw [I] at h |-;simp only at h |-;have h3:=hn.tr h3
      have hb:rs p.e f (.block (d+1)) r≠.error bc:=fun h0=>h (by rw [h0])
      rw [<-h3.2.2] at hb;obtain ⟨b,q2,h4,h5⟩:=C.block (d+1) r (want q [41]) h3.1 (by rw [h3.2.1];exact hs) hb;rw [h3.2.2] at h5;rw [EA h3.2.1] at h4
      cases he:rs p.e f (.block (d+1)) r with
      | error x =>
       rw [he] at h5;refine ⟨one (if is p 0 eo=true then 9 else 10) (tok p 0).at_ [] [c,b],q2,fun g hg=>?_,h3.tr (y:=.error x) h5⟩;obtain ⟨g,rfl,kY,fu⟩:=pJ hg;rw [iS,gw,ab hp.code,M uj,ab o7,L g fu];simp only;rw [h4 g kY];simp only;rw [M (fun h0=>bS.err h5 h0.2.1)]
      | ok y =>
       obtain ⟨b',r2⟩:=y;rw [he] at h5 h;obtain ⟨rfl,h5⟩:=h5;simp only at h |-;have h5:=h3.tr h5;have jR:is q2 0 eL=decide (sign r2 0=eL):=On.is h5.1 0 av
       by_cases FB:sign ts 0=eo
       ·rw [ab FB] at h ue |-
        have Pe:is p 0 eo=true:=by rw [hi _ av];simpa using FB
        by_cases eI:sign r2 0=eL
        ·rw [ab eI] at h |-;obtain ⟨te,MN,_⟩:=dS av eI;have bV:=h5.1;rw [MN] at bV
         have bV:=h5.tr bV.next
         have hb:rs p.e f (.block (d+1)) r2.tail≠.error bc:=fun h0=>h (by rw [h0])
         rw [<-bV.2.2] at hb
         obtain ⟨b2,q3,h6,h7⟩:=C.block (d+1) r2.tail q2.next bV.1 (by rw [bV.2.1];exact hs) hb
         rw [bV.2.2] at h7;rw [EA bV.2.1] at h6;refine ⟨one 9 (tok p 0).at_ [] [c,b,b2],q3,fun g hg=>?_,?_⟩
         ·obtain ⟨g,rfl,kY,fu⟩:=pJ hg;rw [iS,gw,ab hp.code,M uj,ab o7,L g fu];simp only;rw [h4 g kY];simp only;rw [ab ⟨Pe,h5.1.code,by rw [jR];simpa using eI⟩,h6 g kY]
         ·cases qc:rs p.e f (.block (d+1)) r2.tail with
          | error x=>rw [qc] at h7;exact bV.tr (y:=.error x) h7
          | ok y=>obtain ⟨b3,r3⟩:=y;rw [qc] at h7;obtain ⟨rfl,h7⟩:=h7;exact ⟨by rw [dJ],bV.tr h7⟩
        ·rw [M eI];refine ⟨one (if is p 0 eo=true then 9 else 10) (tok p 0).at_ [] [c,b],q2,fun g hg=>?_,by rw [ue,dJ],h5⟩;obtain ⟨g,rfl,kY,fu⟩:=pJ hg;rw [iS,gw,ab hp.code,M uj,ab o7,L g fu];simp only;rw [h4 g kY];simp only;rw [M (fun h0=>by have:=h0.2.2;rw [jR] at this;exact eI (by simpa using this))]
       ·rw [M FB] at ue |-
        have Pe:¬ is p 0 eo=true:=by rw [hi _ av];simpa using FB
        refine ⟨one (if is p 0 eo=true then 9 else 10) (tok p 0).at_ [] [c,b],q2,fun g hg=>?_,by rw [ue,dJ],h5⟩;obtain ⟨g,rfl,kY,fu⟩:=pJ hg;rw [iS,gw,ab hp.code,M uj,ab o7,L g fu];simp only;rw [h4 g kY];simp only;rw [M (fun h0=>Pe h0.1)]
     ·rw [show p.next.e=p.e from rfl] at I;rw [I] at h |-;have h3:=hn.tr (y:=.error x) h3;refine ⟨one (if is p 0 eo=true then 9 else 10) (tok p 0).at_ [] [c,one 14 (tok (want q [41]) 0).at_ [] []],want q [41],fun g hg=>?_,h3⟩;obtain ⟨g,rfl,kY,fu⟩:=pJ hg;rw [iS,gw,ab hp.code,M uj,ab o7,L g fu];simp only;rw [Pj h3.err aq];simp only;rw [M (fun h0=>h3.err h0.2.1)]
    rw [M hc] at h |-
    have o7:¬ (is p 0 eo=true\/is p 0 dQ=true):=by rw [hi _ av,hi _ av];simpa using hc
    by_cases hr:sign ts 0=dz
    ·rw [ab hr]
     have yD:is p 0 dz=true:=by rw [hi _ av];simpa using hr
     obtain ⟨tv,yE,_⟩:=dS av hr;have hn:=hp;rw [yE] at hn
     have hn:=hn.next
     obtain ⟨t,q,L,I⟩:=Kp (d:=d+1) (b:=[59]) hn.1 av;rw [show p.next.e=p.e from rfl] at I;refine ⟨one 11 (tok p 0).at_ [] [t],want q [59],fun g hg=>?_,?_⟩
     ·obtain ⟨g,rfl,kY,fu⟩:=pJ hg;rw [iS,gw,ab hp.code,M uj,M o7,ab yD,L g fu]
     ·rcases I with ⟨r,r',I,h3,h4⟩ | ⟨r,x,I,h3,h4⟩ | ⟨x,I,h4⟩
      ·rw [I];simp only;rw [h3];exact ⟨by rw [dJ],hn.tr h4⟩
      ·rw [I];simp only;rw [h3];exact hn.tr (y:=.error x) h4
      ·rw [I];exact hn.tr (y:=.error x) h4
    rw [M hr] at h |-
    have yD:¬ is p 0 dz=true:=by rw [hi _ av];simpa using hr
    cases ts with
    | nil =>
     have ht:tok p 0=⟨0,0,[],p.e⟩:=by rw [On.tok hp];rfl
     have lH:¬ ((tok p 0).kind=2/\is p 1 [61]=true):=fun hx=>by have:=hx.1;rw [ht] at this;simp at this
     obtain ⟨t,q,L,I⟩:=Kq (d:=d+1) hp (aD _)
     rcases I with ⟨r,I,h3⟩ | ⟨x,I,h3⟩
     ·exact absurd I (NG _ _ _ (fun k d out h=>by cases h) _ _)
     ·have lG:¬ xv p q t:=fun h0=>h3.err h0.2.1
      refine ⟨one 12 (tok p 0).at_ [] [t],want q [59],fun g hg=>?_,by unfold simple;rw [I,gm h3.err];exact h3⟩;obtain ⟨g,rfl,kY,fu⟩:=pJ hg;rw [iS,gw,ab hp.code,M uj,M o7,M yD,M lH,L g fu];simp only;rw [M lG]
    | cons a r0 =>
     simp only [simple] at h |-
     have ht:tok p 0=a:=by rw [On.tok hp];rfl
     by_cases bY:a.kind=2/\sign (a::r0) 1=[61]
     ·rw [ab bY];have lH:(tok p 0).kind=2/\is p 1 [61]=true:=⟨by rw [ht];exact bY.1,by rw [z6];simpa using bY.2⟩;obtain ⟨t,q,L,I⟩:=M1 (d:=d+1) hp
      rcases I with ⟨r,I,h3⟩ | ⟨x,I,h3⟩
      ·rw [I];refine ⟨one 7 (tok p 0).at_ (tok p 0).s [t],want q [59],fun g hg=>?_,by rw [dJ];rfl,h3⟩;obtain ⟨g,rfl,kY,fu⟩:=pJ hg;rw [iS,gw,ab hp.code,M uj,M o7,M yD,ab lH,L g fu]
      ·rw [I];refine ⟨one 7 (tok p 0).at_ (tok p 0).s [t],want q [59],fun g hg=>?_,h3⟩;obtain ⟨g,rfl,kY,fu⟩:=pJ hg;rw [iS,gw,ab hp.code,M uj,M o7,M yD,ab lH,L g fu]
     ·rw [M bY]
      have lH:¬ ((tok p 0).kind=2/\is p 1 [61]=true):=fun hx=>bY ⟨by rw [<-ht];exact hx.1,by have:=hx.2;rw [z6] at this;simpa using this⟩
      obtain ⟨t,q,L,I⟩:=Kq (d:=d+1) hp (aD _)
      rcases I with ⟨r,I,h3⟩ | ⟨x,I,h3⟩
      ·rw [I];simp only;have jR:is q 0 [61]=decide (sign r 0=[61]):=On.is h3.1 0 av
       by_cases ke:t.n.kind=3/\t.n.at_=a.at_/\sign r 0=[61]
       ·rw [ab ke];obtain ⟨a',pre,ht1,Q7⟩:=L3 I;cases ht1;obtain ⟨sW,Vl,w,FV,pE⟩:=(Q7 (On.srt hp hs)).2 ke.1 ke.2.1
        have Wg:vc q=[93]:=by rw [<-pE];exact On.last hp h3 (by rw [<-FV];rfl)
        have lG:xv p q t:=⟨ke.1,h3.1.code,Wg,by rw [ht];exact ke.2.1,by rw [ht];exact sW,by rw [jR];simpa using ke.2.2⟩;obtain ⟨ix,yu⟩:=NF _ _ _ _ _ _ (fun k d out hj=>by cases hj) I ke.1
        have kH:Go.Xp.aP p.e [61] r=.ok r.tail:=by unfold Go.Xp.aP;rw [ab ke.2.2]
        have XM:=On.want h3.1 (s:=[61]) av;rw [h3.2.2,kH] at XM;have hn:=h3.tr XM;obtain ⟨v,q2,h4,h5⟩:=Kp (d:=d+1) (b:=[59]) hn.1 av;rw [hn.2.2] at h5;rw [hn.2.1] at h4;refine ⟨one 8 (tok p 0).at_ t.n.s [ix,v],want q2 [59],fun g hg=>?_,?_⟩
        ·obtain ⟨g,rfl,kY,fu⟩:=pJ hg;rw [iS,gw,ab hp.code,M uj,M o7,M yD,M lH,L g fu];simp only;rw [ab lG,yu,h4 g fu]
        ·unfold Go.Xp.inner;rw [kH];simp only
         rcases h5 with ⟨r2,r',I,h3,h4⟩ | ⟨r2,x,I,h3,h4⟩ | ⟨x,I,h4⟩
         ·rw [I];simp only;rw [h3];exact ⟨by rw [ht,yu];rfl,hn.tr h4⟩
         ·rw [I];simp only;rw [h3];exact hn.tr (y:=.error x) h4
         ·rw [I];exact hn.tr (y:=.error x) h4
       ·rw [M ke]
        have lG:¬ xv p q t:=fun h0=>ke ⟨h0.1,by rw [<-ht];exact h0.2.2.2.1,by have:=h0.2.2.2.2.2;rw [jR] at this;simpa using this⟩
        refine ⟨one 12 (tok p 0).at_ [] [t],want q [59],fun g hg=>?_,?_⟩
        ·obtain ⟨g,rfl,kY,fu⟩:=pJ hg;rw [iS,gw,ab hp.code,M uj,M o7,M yD,M lH,L g fu];simp only;rw [M lG]
        ·rcases mN h3.1 (s:=[59]) av with ⟨r',h4,h5⟩ | ⟨x,h4,h5⟩
         ·rw [h3.2.2] at h4;rw [h4];exact ⟨by rw [ht],h3.tr h5⟩
         ·rw [h3.2.2] at h4;rw [h4];exact h3.tr (y:=.error x) h5
      ·rw [I]
       have lG:¬ xv p q t:=fun h0=>h3.err h0.2.1
       refine ⟨one 12 (tok p 0).at_ [] [t],want q [59],fun g hg=>?_,by rw [gm h3.err];exact h3⟩;obtain ⟨g,rfl,kY,fu⟩:=pJ hg;rw [iS,gw,ab hp.code,M uj,M o7,M yD,M lH,L g fu];simp only;rw [M lG]
  ·rw [rs.body] at h |-;have hi:is p 0 [125]=decide (sign ts 0=[125]):=On.is hp 0 av
   by_cases hb:sign ts 0=[125]
   ·rw [ab hb];have hm:=On.want hp (s:=[125]) av;unfold Go.Xp.aP at hm;rw [ab hb] at hm;refine ⟨acc,p,fun g hg=>?_,rfl,hm⟩;obtain ⟨g,rfl,kY,fu⟩:=pJ hg;rw [iB,M (fun h0=>by have:=h0.2;rw [hi] at this;simp [hb] at this)]
   ·rw [M hb] at h |-
    have cz:rs p.e f (.stmt d) ts≠.error bc:=fun h0=>h (by rw [h0])
    obtain ⟨a,q,L,I⟩:=C.stmt d ts p hp hs cz;have hc:p.code=0/\is p 0 [125]=false:=⟨hp.code,by rw [hi];simpa using hb⟩
    cases he:rs p.e f (.stmt d) ts with
    | error x =>
     rw [he] at I h;refine ⟨acc++[a],q,fun g hg=>?_,by rw [gm (bS.err I)];exact I⟩;obtain ⟨g,rfl,kY,fu⟩:=pJ hg;rw [iB,ab hc,L g kY];simp only;obtain ⟨g,rfl⟩:∃ g',g=g'+1:=⟨g - 1,by omega⟩;rw [iB,M (fun h0=>bS.err I h0.1)]
    | ok y =>
     obtain ⟨a',r⟩:=y;rw [he] at I h;obtain ⟨rfl,I⟩:=I;simp only at h |-;rw [<-I.2.2] at h |-;obtain ⟨l,q3,h3,h4⟩:=C.body d (acc++[a]) r q I.1 (by rw [I.2.1];exact hs) h;rw [EA I.2.1] at h3;refine ⟨l,q3,fun g hg=>?_,jP.tr I h4⟩;obtain ⟨g,rfl,kY,fu⟩:=pJ hg;rw [iB,ab hc,L g kY];exact h3 g kY
section
variable {p q:RS}
theorem sF {k:Nat} (h:(tok p k).kind≠0):p.i+k < p.l.length:=by
 unfold tok at h
 refine Nat.lt_of_not_le fun hn=>?_
 rw [List.getElem?_eq_none_iff.2 hn] at h;exact h rfl
theorem is_lt {k:Nat} {s:ae} (h:is p k s=true):p.i+k < p.l.length:=by
 unfold is at h;rw [aH] at h;exact sF (by have:=h.1;simp at this;omega)
theorem kv {s:ae} (h:is p 0 s=true):p.to p.next:=dT (is_lt h)
theorem xA (hp:p.ok):p.to (kV p):=mJ hp _ _
theorem cM (hp:p.ok) (s:ae):p.to (want p s):=by
 unfold want;split
 ·split
  ·rename_i h;exact kv h
  ·exact xA hp
 ·exact kB hp
theorem iG (hp:p.ok):p.to (bD p):=by
 unfold bD;split
 ·split
  ·rename_i h;split
   ·exact mJ hp _ _
   ·exact dT (sF (k:=0) aq)
  ·exact xA hp
 ·exact kB hp
theorem vj (hp:p.ok) (d:Nat):p.to (b8 p d):=by
 unfold b8;split
 ·exact mJ hp _ _
 ·exact kB hp
theorem px {d:Nat} (h:(b8 p d).code=0):b8 p d=p:=by
 unfold b8 at h |-;split at h
 ·unfold RS.fail at h;split at h
  ·cases h
  ·rename_i hd hc;exact absurd h hc
 ·rename_i hd;rw [M hd]
end
theorem jT:∀ (f:Nat),(∀ j p t q,p.ok->iE f j p=some (t,q)->p.to q)/\(∀ d acc p l q,p.ok->iA f d acc p=some (l,q)->p.to q)
 | 0=>⟨fun j p t q _ h=>by simp [iE] at h,fun d acc p l q _ h=>by simp [iA] at h⟩
 | f+1=>by
  obtain ⟨L,I⟩:=jT f;refine ⟨fun j p t q hp h=>?_,fun d acc p l q hp h=>?_⟩
  ·cases j with
   | expr d =>
    rw [iE] at h;have hd:=vj hp d;split at h
    ·exact hd.trans (L _ _ _ _ (hd.ok hp) h)
    ·cases h;exact hd
   | level k d =>
    rw [iE] at h;split at h
    ·exact L _ _ _ _ hp h
    ·split at h
     ·cases h
     ·rename_i out p' he;have:=L _ _ _ _ hp he;exact this.trans (L _ _ _ _ (this.ok hp) h)
   | loop k d out =>
    rw [iE] at h;split at h
    ·rename_i hc;have hn:=dT (p:=p) (sF (k:=0) (by have:=hc.2.1;omega));split at h
     ·cases h
     ·rename_i b p' he;have:=hn.trans (L _ _ _ _ (hn.ok hp) he);exact this.trans (L _ _ _ _ (this.ok hp) h)
    ·cases h;exact kB hp
   | operand d =>
    rw [iE] at h;split at h
    ·split at h
     ·rename_i hc
      have hn:p.to p.next:=by rcases hc with hc | hc | hc <;> exact kv hc
      split at h
      ·cases h
      ·rename_i a p' he
       cases h;exact hn.trans (L _ _ _ _ (hn.ok hp) he)
     ·split at h
      ·rename_i hk
       cases h;exact dT (sF (k:=0) aq)
      ·split at h
       ·rename_i hc;have hn:=kv hc;split at h
        ·cases h
        ·rename_i a p' he;have:=hn.trans (L _ _ _ _ (hn.ok hp) he)
         cases h;exact this.trans (cM (this.ok hp) _)
       ·have hn:=iG hp;split at h
        ·split at h
         ·rename_i hc;have bV:=hn.trans (kv hc);split at h
          ·cases h
          ·rename_i a p' he;have:=bV.trans (L _ _ _ _ (bV.ok hp) he)
           cases h;exact this.trans (cM (this.ok hp) _)
         ·split at h
          ·rename_i hc;have bV:=hn.trans (kv hc);split at h
           ·cases h
           ·rename_i a p' he
            cases h;exact bV.trans (I _ _ _ _ _ (bV.ok hp) he)
          ·cases h;exact hn
        ·cases h;exact hn
    ·cases h;exact vj hp d
  ·rw [iA] at h;split at h
   ·have hn:p.to (if acc.length=0 then p else want p [44]):=by
     split
     ·exact kB hp
     ·exact cM hp _
    split at h
    ·cases h
    ·rename_i a p' he;have:=hn.trans (L _ _ _ _ (hn.ok hp) he);exact this.trans (I _ _ _ _ _ (this.ok hp) h)
   ·cases h;exact cM hp _
theorem EI:∀ (f:Nat),(∀ j p t q,p.ok->iS f j p=some (t,q)->p.to q)/\(∀ d acc p l q,p.ok->iB f d acc p=some (l,q)->p.to q)
 | 0=>⟨fun j p t q _ h=>by simp [iS] at h,fun d acc p l q _ h=>by simp [iB] at h⟩
 | f+1=>by
  obtain ⟨L,I⟩:=EI f;have yt:=(jT f).1;refine ⟨fun j p t q hp h=>?_,fun d acc p l q hp h=>?_⟩
  ·cases j with
   | block d =>
    rw [iS] at h;split at h
    ·have hm:=cM hp [123];split at h
     ·cases h
     ·rename_i l p' he;have:=hm.trans (I _ _ _ _ _ (hm.ok hp) he)
      cases h;exact this.trans (cM (this.ok hp) _)
    ·cases h;exact vj hp d
   | stmt d =>
    rw [iS] at h;split at h
    ·split at h
     ·rename_i hs;have hn:=kv hs;have eV:=hn.trans (iG (hn.ok hp));have kH:=eV.trans (cM (eV.ok hp) [61]);split at h
      ·cases h
      ·rename_i e p' he;have:=kH.trans (yt _ _ _ _ (kH.ok hp) he)
       cases h;exact this.trans (cM (this.ok hp) _)
     ·split at h
      ·rename_i hs
       have hn:p.to p.next:=by rcases hs with hs | hs <;> exact kv hs
       have kH:=hn.trans (cM (hn.ok hp) [40]);split at h
       ·cases h
       ·rename_i e p' he;have:=kH.trans (yt _ _ _ _ (kH.ok hp) he);have z8:=this.trans (cM (this.ok hp) [41]);split at h
        ·cases h
        ·rename_i b p2 hb;have fg:=z8.trans (L _ _ _ _ (z8.ok hp) hb);split at h
         ·rename_i hc;have bV:=fg.trans (kv hc.2.2);split at h
          ·cases h
          ·rename_i b2 p3 ym
           cases h;exact bV.trans (L _ _ _ _ (bV.ok hp) ym)
         ·cases h;exact fg
      ·split at h
       ·rename_i hs;have hn:=kv hs;split at h
        ·cases h
        ·rename_i e p' he;have:=hn.trans (yt _ _ _ _ (hn.ok hp) he)
         cases h;exact this.trans (cM (this.ok hp) _)
       ·split at h
        ·have eV:=iG hp;have kH:=eV.trans (cM (eV.ok hp) [61]);split at h
         ·cases h
         ·rename_i e p' he;have:=kH.trans (yt _ _ _ _ (kH.ok hp) he)
          cases h;exact this.trans (cM (this.ok hp) _)
        ·split at h
         ·cases h
         ·rename_i e p' he;have hx:=yt _ _ _ _ hp he;split at h
          ·have hn:=hx.trans (cM (hx.ok hp) [61]);split at h
           ·rename_i a r v p2 hk qc;have:=hn.trans (yt _ _ _ _ (hn.ok hp) qc)
            cases h;exact this.trans (cM (this.ok hp) _)
           ·cases h
          ·cases h;exact hx.trans (cM (hx.ok hp) _)
    ·cases h;exact vj hp d
  ·rw [iB] at h;split at h
   ·split at h
    ·cases h
    ·rename_i a p' he;have:=L _ _ _ _ hp he;exact this.trans (I _ _ _ _ _ (this.ok hp) h)
   ·cases h;exact kB hp
theorem wh (p:RS):p.next.i=p.i+1:=rfl
theorem UR:∀ (f:Nat) j p t q,p.ok->iE f j p=some (t,q)->q.code=0->(∀ k d out,j≠.loop k d out)->p.i < q.i:=by
 intro f
 induction f with
 | zero=>intro j p t q _ h;simp [iE] at h
 | succ f ih =>
  intro j p t q hp h hq hj
  cases j with
  | loop k d out=>exact absurd rfl (hj k d out)
  | expr d =>
   rw [iE] at h;split at h
   ·rename_i hc;rw [px hc] at h;exact ih _ _ _ _ hp h hq (fun k d out h=>by cases h)
   ·rename_i hc;cases h;exact absurd hq hc
  | level k d =>
   rw [iE] at h;split at h
   ·exact ih _ _ _ _ hp h hq (fun k d out h=>by cases h)
   ·split at h
    ·cases h
    ·rename_i out p' he;have kZ:=(jT f).1 _ _ _ _ hp he
     have ak:p'.code=0:=by
      by_cases hc:p'.code=0
      ·exact hc
      ·cases f with
       | zero=>simp [iE] at h
       | succ f =>
        rw [iE,M (fun h0=>hc h0.1)] at h
        cases h;exact hq
     have L:=ih _ _ _ _ hp he ak (fun k d out h=>by cases h);have I:=(jT f).1 _ _ _ _ (kZ.ok hp) h;have:=I.2.2.2;omega
  | operand d =>
   rw [iE] at h;split at h
   ·split at h
    ·rename_i hc
     have hn:p.to p.next:=by rcases hc with hc | hc | hc <;> exact kv hc
     split at h
     ·cases h
     ·rename_i a p' he;cases h;have:=((jT f).1 _ _ _ _ (hn.ok hp) he).2.2.2;rw [wh] at this;omega
    ·split at h
     ·cases h;rw [wh];omega
     ·split at h
      ·rename_i hc;have hn:=kv hc;split at h
       ·cases h
       ·rename_i a p' he;cases h;have L:=(jT f).1 _ _ _ _ (hn.ok hp) he;have I:=(cM ((L.ok (hn.ok hp))) [41]).2.2.2;have:=L.2.2.2;rw [wh] at this;omega
      ·have hn:=iG hp;split at h
       ·rename_i mQ
        have ak:p.i < (bD p).i:=by
         unfold bD at mQ |-;split at mQ
         ·rename_i h0;split at mQ
          ·rename_i I;split at mQ
           ·unfold RS.fail at mQ;rw [ab h0] at mQ;cases mQ
           ·rename_i hl;rw [ab h0,ab I,M hl,wh];omega
          ·unfold kV RS.fail at mQ;rw [ab h0] at mQ;cases mQ
         ·rename_i h0;exact absurd mQ h0
        split at h
        ·rename_i hc;have bV:=hn.trans (kv hc);split at h
         ·cases h
         ·rename_i a p' he;cases h;have L:=(jT f).1 _ _ _ _ (bV.ok hp) he;have I:=(cM ((L.ok (bV.ok hp))) [93]).2.2.2;have:=L.2.2.2;rw [wh] at this;omega
        ·split at h
         ·rename_i hc;have bV:=hn.trans (kv hc);split at h
          ·cases h
          ·rename_i a p' he;cases h;have:=((jT f).2 _ _ _ _ _ (bV.ok hp) he).2.2.2;rw [wh] at this;omega
         ·cases h;exact ak
       ·rename_i mQ;cases h;exact absurd hq mQ
   ·rename_i hc;cases h;exact absurd hq hc
end Go.Im
namespace Go.Xp
mutual
def aQ:T->Nat
 | .mk _ l=>aB l+1
def aB:List T->Nat
 | []=>0
 | t::r=>aQ t+aB r
end
def bg:Nat->List T->List Int
 | _,[]=>[]
 | n,t::r=>(n:Int)::bg (n+aQ t) r
mutual
def fS:Nat->T->List Nd
 | n,.mk nd l=>⟨nd.kind,nd.at_,nd.n,nd.s,bg (n+1) l⟩::bO (n+1) l
def bO:Nat->List T->List Nd
 | _,[]=>[]
 | n,t::r=>fS n t++bO (n+aQ t) r
end
theorem eA (t:T):aQ t=aB t.kids+1:=by cases t;rw [aQ];rfl
theorem Fe (n:Nat) (t:T):fS n t=⟨t.n.kind,t.n.at_,t.n.n,t.n.s,bg (n+1) t.kids⟩::bO (n+1) t.kids:=by cases t;rw [fS];rfl
theorem gZ (a b:List T):aB (a++b)=aB a+aB b:=by
 induction a with
 | nil=>simp [aB]
 | cons t a ih=>simp only [cons_append,aB,ih];omega
theorem oQ (a b:List T) (n:Nat):bg n (a++b)=bg n a++bg (n+aB a) b:=by
 induction a generalizing n with
 | nil=>simp [bg,aB]
 | cons t a ih=>simp only [cons_append,bg,aB,ih,fP]
theorem kz (a b:List T) (n:Nat):bO n (a++b)=bO n a++bO (n+aB a) b:=by
 induction a generalizing n with
 | nil=>simp [bO,aB]
 | cons t a ih=>simp only [cons_append,bO,aB,ih,fP,cK]
theorem dy (a:List T) (n:Nat):(bg n a).length=a.length:=by
 induction a generalizing n with
 | nil=>rfl
 | cons t a ih=>simp [bg,ih]
theorem L7:∀ (N:Nat),(∀ t:T,aQ t<=N->∀ n,(fS n t).length=aQ t)/\(∀ l:List T,aB l<=N->∀ n,(bO n l).length=aB l):=by
 intro N
 induction N with
 | zero =>
  refine ⟨fun t h=>by rw [eA] at h;omega,fun l h n=>?_⟩
  cases l with
  | nil=>rfl
  | cons t l=>rw [aB,eA] at h;omega
 | succ N ih =>
  have L:∀ t:T,aQ t<=N+1->∀ n,(fS n t).length=aQ t:=fun t h n=>by
   rw [eA] at h;rw [Fe,eA,length_cons,ih.2 _ aq]
  refine ⟨L,fun l=>?_⟩
  induction l with
  | nil=>intro _ n;rfl
  | cons t l ih2 =>
   intro h n;rw [aB] at h;rw [bO,aU,L t aq,ih2 aq,aB]
theorem rD (t:T) (n:Nat):(fS n t).length=aQ t:=(L7 (aQ t)).1 t (aD _) n
theorem iN (l:List T) (n:Nat):(bO n l).length=aB l:=(L7 (aB l)).2 l (aD _) n
theorem ir (l:List T) (k:Nat):aB (l.take k)<=aB l:=by
 have:aB l=aB (l.take k)+aB (l.drop k):=by rw [<-gZ,List.take_append_drop]
 omega
theorem iu {l:List T} {k:Nat} {t:T} (h:l[k]?=some t):aB (l.take (k+1))=aB (l.take k)+aQ t:=by
 have:l.take (k+1)=l.take k++[t]:=by rw [cm,h];rfl
 rw [this,gZ,aB,aB];rfl
theorem bW (l:List T):l.length<=aB l:=by
 induction l with
 | nil=>simp
 | cons t l ih=>rw [aB,eA,length_cons];omega
open Go.Sp (bt eZ)
abbrev K:=Int × Int × ae
def kf (t:Tok):K:=(t.kind,t.n,t.s)
abbrev kS (s:ae):K:=(3,0,s)
abbrev kN (s:ae):K:=(2,0,s)
abbrev kI (n:Int):K:=(1,n,[])
inductive E where
 | num (n:Int)
 | name (s:ae)
 | at_ (s:ae) (a:E)
 | call (s:ae) (l:List E)
 | un (s:ae) (a:E)
 | bin (s:ae) (a b:E)
def ep (s:ae):Nat:=(levels.findIdx? fun l=>l.contains s).getD 9
def E.lv:E->Nat
 | .bin s _ _=>ep s
 | _=>9
def brk (lv k:Nat) (x:List K):List K:=if lv < k then kS [40]::(x++[kS [41]]) else x
mutual
def E.tk:E->List K
 | .num n=>[kI n]
 | .name s=>[kN s]
 | .at_ s a=>kN s::kS [91]::(a.tk++[kS [93]])
 | .call s l=>kN s::kS [40]::(E.nJ l++[kS [41]])
 | .un s a=>kS s::brk a.lv 9 a.tk
 | .bin s a b=>brk a.lv (ep s) a.tk++kS s::brk b.lv (ep s+1) b.tk
def E.nJ:List E->List K
 | []=>[]
 | a::l=>a.tk++E.qM l
def E.qM:List E->List K
 | []=>[]
 | a::l=>kS [44]::(a.tk++E.qM l)
end
mutual
def E.tree:E->T
 | .num n=>.mk ⟨1,0,n,[],[]⟩ []
 | .name s=>.mk ⟨2,0,0,s,[]⟩ []
 | .at_ s a=>.mk ⟨3,0,0,s,[]⟩ [a.tree]
 | .call s l=>.mk ⟨4,0,0,s,[]⟩ (E.trees l)
 | .un s a=>.mk ⟨5,0,0,s,[]⟩ [a.tree]
 | .bin s a b=>.mk ⟨6,0,0,s,[]⟩ [a.tree,b.tree]
def E.trees:List E->List T
 | []=>[]
 | a::l=>a.tree::E.trees l
end
def Ig (lv k d:Nat) (f:Nat->Bool):Bool:=if lv < k then decide (d<=60)&&decide (d+1<=60)&&f (d+2) else f d
mutual
def E.fit:E->Nat->Bool
 | .num _,d=>decide (d<=60)
 | .name _,d=>decide (d<=60)
 | .at_ _ a,d=>decide (d<=60)&&decide (d+1<=60)&&a.fit (d+2)
 | .call _ l,d=>decide (d<=60)&&E.fits l (d+1)
 | .un _ a,d=>decide (d<=60)&&(if a.lv < 9 then decide (d+1<=60)&&decide (d+2<=60)&&a.fit (d+3) else a.fit (d+1))
 | .bin s a b,d=>(if a.lv < ep s then decide (d<=60)&&decide (d+1<=60)&&a.fit (d+2) else a.fit d)&&(if b.lv < ep s+1 then decide (d<=60)&&decide (d+1<=60)&&b.fit (d+2) else b.fit d)
def E.fits:List E->Nat->Bool
 | [],_=>true
 | a::l,d=>decide (d<=60)&&a.fit (d+1)&&E.fits l d
end
mutual
def E.ok:E->Bool
 | .num n=>decide (0<=n)&&decide (n<=2147483647)
 | .name s=>bt s
 | .at_ s a=>bt s&&a.ok
 | .call s l=>bt s&&E.db l
 | .un s a=>(s==[45] || s==[33] || s==[126])&&a.ok
 | .bin s a b=>eZ s&&a.ok&&b.ok
def E.db:List E->Bool
 | []=>true
 | a::l=>a.ok&&E.db l
end
mutual
def er:T->T
 | .mk n l=>.mk ⟨n.kind,0,n.n,n.s,[]⟩ (aS l)
def aS:List T->List T
 | []=>[]
 | t::l=>er t::aS l
end
theorem It (l k:List T):aS (l++k)=aS l++aS k:=by
 induction l with
 | nil=>rfl
 | cons t l ih=>simp [aS,ih]
theorem tD (l:List T):aS l=l.map er:=by
 induction l with
 | nil=>rfl
 | cons t l ih=>simp [aS,ih]
theorem ed (k a:Int) (s:ae) (l:List T):er (one k a s l)=.mk ⟨k,0,0,s,[]⟩ (aS l):=by unfold one;rw [er]
def Ev (e:Int) (j:pj) (ts:List Tok) (x:Rd T):Prop:=∃ f0,∀ f,f0<=f->rd e f j ts=x
def Ea (e:Int) (d:Nat) (acc:List T) (ts:List Tok) (x:Rd (List T)):Prop:=∃ f0,∀ f,f0<=f->rd.args e f d acc ts=x
section
variable {e:Int} {d k:Nat} {ts r:List Tok} {t out:T} {x:Rd T} {y:Er}
theorem zS {j j':pj} {ts jC:List Tok} {x x':Rd T} (h:Ev e j ts x) (hs:∀ f,rd e f j ts=x->rd e (f+1) j' jC=x'):Ev e j' jC x':=by
 obtain ⟨f0,h0⟩:=h;refine ⟨f0+1,fun f hf=>?_⟩;obtain ⟨f,rfl⟩:∃ g,f=g+1:=⟨f - 1,by omega⟩;exact hs f (h0 f aq)
theorem Xa {j j' j2:pj} {ts jC wG:List Tok} {x x' x2:Rd T} (h:Ev e j ts x) (I:Ev e j2 wG x2) (hs:∀ f,rd e f j ts=x->rd e f j2 wG=x2->rd e (f+1) j' jC=x'):Ev e j' jC x':=by
 obtain ⟨f0,h0⟩:=h;obtain ⟨cX,L⟩:=I;refine ⟨f0+cX+1,fun f hf=>?_⟩;obtain ⟨f,rfl⟩:∃ g,f=g+1:=⟨f - 1,by omega⟩;exact hs f (h0 f aq) (L f aq)
theorem L2 {j':pj} {jC:List Tok} {x':Rd T} (hs:∀ f,rd e (f+1) j' jC=x'):Ev e j' jC x' :=
 ⟨1,fun f hf=>by obtain ⟨f,rfl⟩:∃ g,f=g+1:=⟨f - 1,by omega⟩;exact hs f⟩
theorem Ev.expr (hd:d<=60) (h:Ev e (.level 0 (d+1)) ts x):Ev e (.expr d) ts x:=zS h fun f h=>by rw [rd,M aq];exact h
theorem Ev.V5 (hd:60 < d):Ev e (.expr d) ts (.error (9,place e ts)):=L2 fun f=>by rw [rd,ab hd]
theorem Ev.level (hk:k≠9) (h:Ev e (.level (k+1) d) ts (.ok (out,r))) (I:Ev e (.loop k d out) r x):Ev e (.level k d) ts x:=Xa h I fun f h I=>by rw [rd,M hk,h];exact I
theorem Ev.U1 (hk:k≠9) (h:Ev e (.level (k+1) d) ts (.error y)):Ev e (.level k d) ts (.error y):=zS h fun f h=>by rw [rd,M hk,h]
theorem Ev.F7 (h:Ev e (.operand d) ts x):Ev e (.level 9 d) ts x:=zS h fun f h=>by rw [rd,ab rfl];exact h
theorem Ev.stop (h:sign ts 0 ∉ levels.getD k []):Ev e (.loop k d out) ts (.ok (out,ts)):=L2 fun f=>by
 cases ts with
 | nil=>rw [rd]
 | cons t r =>
  rw [rd,M];rintro ⟨h3,h4⟩;apply h;simp only [sign,getElem?_cons_zero,bz,h3,if_true];exact h4
theorem Ev.go {t:Tok} {b:T} {r':List Tok} (h3:t.kind=3) (hs:t.s∈levels.getD k []) (h:Ev e (.level (k+1) d) r (.ok (b,r'))) (I:Ev e (.loop k d (one 6 t.at_ t.s [out,b])) r' x):Ev e (.loop k d out) (t::r) x :=
 Xa h I fun f h I=>by rw [rd,ab ⟨h3,hs⟩,h];exact I
theorem Ev.Z9 {t:Tok} (h3:t.kind=3) (hs:t.s∈levels.getD k []) (h:Ev e (.level (k+1) d) r (.error y)):Ev e (.loop k d out) (t::r) (.error y) :=
 zS h fun f h=>by rw [rd,ab ⟨h3,hs⟩,h]
theorem Ev.QD (hd:60 < d):Ev e (.operand d) ts (.error (9,place e ts)):=L2 fun f=>by rw [rd.eq_def];simp only;rw [ab hd]
theorem Ev.num {t:Tok} (hd:d<=60) (h:t.kind=1):Ev e (.operand d) (t::r) (.ok (.mk ⟨1,t.at_,t.n,[],[]⟩ [],r)):=L2 fun f=>by
 rw [rd.eq_def];simp only;rw [M aq,M aq,ab h]
theorem Ev.un {t:Tok} {a:T} {r':List Tok} (hd:d<=60) (h3:t.kind=3) (hs:t.s=[45]\/t.s=[33]\/t.s=[126]) (h:Ev e (.operand (d+1)) r (.ok (a,r'))):Ev e (.operand d) (t::r) (.ok (one 5 t.at_ t.s [a],r')) :=
 zS h fun f h=>by rw [rd.eq_def];simp only;rw [M aq,ab h3,ab hs,h]
theorem Ev.unX {t:Tok} (hd:d<=60) (h3:t.kind=3) (hs:t.s=[45]\/t.s=[33]\/t.s=[126]) (h:Ev e (.operand (d+1)) r (.error y)):Ev e (.operand d) (t::r) (.error y) :=
 zS h fun f h=>by rw [rd.eq_def];simp only;rw [M aq,ab h3,ab hs,h]
theorem Ev.par {t u:Tok} {a:T} {r':List Tok} (hd:d<=60) (h3:t.kind=3) (hs:t.s=[40]) (hu:u.kind=3) (gh:u.s=[41]) (h:Ev e (.expr (d+1)) r (.ok (a,u::r'))):Ev e (.operand d) (t::r) (.ok (a,r')) :=
 zS h fun f h=>by
  rw [rd.eq_def];simp only;rw [M aq,ab h3,M (by rw [hs];decide),ab hs,h];simp only [aP,sign,getElem?_cons_zero,bz,hu,if_true,gh,tail_cons]
theorem Ev.Zz {t:Tok} (hd:d<=60) (h3:t.kind=3) (hs:t.s=[40]) (h:Ev e (.expr (d+1)) r (.error y)):Ev e (.operand d) (t::r) (.error y) :=
 zS h fun f h=>by rw [rd.eq_def];simp only;rw [M aq,ab h3,M (by rw [hs];decide),ab hs,h]
theorem tE {t:Tok} (I:t.kind=2) (hl:t.s.length<=12):name e (t::r)=.ok (t.s,r):=by
 simp only [name,I,if_true];rw [M aq]
theorem Ev.name {t:Tok} (hd:d<=60) (I:t.kind=2) (hl:t.s.length<=12) (n1:sign r 0≠[91]) (n2:sign r 0≠[40]):Ev e (.operand d) (t::r) (.ok (one 2 t.at_ t.s [],r)):=L2 fun f=>by
 rw [rd.eq_def];simp only;rw [M aq,M aq,M aq,tE I hl];simp only;rw [M n1,M n2]
theorem Ev.ix {t u w:Tok} {a:T} {r':List Tok} (hd:d<=60) (I:t.kind=2) (hl:t.s.length<=12) (hu:u.kind=3) (gh:u.s=[91]) (hw:w.kind=3) (DV:w.s=[93]) (h:Ev e (.expr (d+1)) r (.ok (a,w::r'))):Ev e (.operand d) (t::u::r) (.ok (one 3 t.at_ t.s [a],r')) :=
 zS h fun f h=>by
  rw [rd.eq_def];simp only;rw [M aq,M aq,M aq,tE I hl];simp only;rw [ab (by simp only [sign,getElem?_cons_zero,bz,hu,if_true,gh]),tail_cons,h];simp only [aP,sign,getElem?_cons_zero,bz,hw,if_true,DV,tail_cons]
theorem Ev.XS {t u:Tok} (hd:d<=60) (I:t.kind=2) (hl:t.s.length<=12) (hu:u.kind=3) (gh:u.s=[91]) (h:Ev e (.expr (d+1)) r (.error y)):Ev e (.operand d) (t::u::r) (.error y) :=
 zS h fun f h=>by
  rw [rd.eq_def];simp only;rw [M aq,M aq,M aq,tE I hl];simp only;rw [ab (by simp only [sign,getElem?_cons_zero,bz,hu,if_true,gh]),tail_cons,h]
theorem Ev.call {t u:Tok} {l:List T} {r':List Tok} (hd:d<=60) (I:t.kind=2) (hl:t.s.length<=12) (hu:u.kind=3) (gh:u.s=[40]) (h:Ea e (d+1) [] r (.ok (l,r'))):Ev e (.operand d) (t::u::r) (.ok (one 4 t.at_ t.s l,r')):=by
 obtain ⟨f0,h0⟩:=h;refine ⟨f0+1,fun f hf=>?_⟩;obtain ⟨f,rfl⟩:∃ g,f=g+1:=⟨f - 1,by omega⟩
 have hs:sign (u::r) 0=[40]:=by simp only [sign,getElem?_cons_zero,bz,hu,if_true,gh]
 rw [rd.eq_def];simp only;rw [M aq,M aq,M aq,tE I hl];simp only;rw [M (by rw [hs];decide),ab hs,tail_cons,h0 f aq]
theorem Ev.VZ {t u:Tok} (hd:d<=60) (I:t.kind=2) (hl:t.s.length<=12) (hu:u.kind=3) (gh:u.s=[40]) (h:Ea e (d+1) [] r (.error y)):Ev e (.operand d) (t::u::r) (.error y):=by
 obtain ⟨f0,h0⟩:=h;refine ⟨f0+1,fun f hf=>?_⟩;obtain ⟨f,rfl⟩:∃ g,f=g+1:=⟨f - 1,by omega⟩
 have hs:sign (u::r) 0=[40]:=by simp only [sign,getElem?_cons_zero,bz,hu,if_true,gh]
 rw [rd.eq_def];simp only;rw [M aq,M aq,M aq,tE I hl];simp only;rw [M (by rw [hs];decide),ab hs,tail_cons,h0 f aq]
theorem Ea.nil {u:Tok} {acc:List T} (hu:u.kind=3) (gh:u.s=[41]):Ea e d acc (u::r) (.ok (acc,r)):=⟨1,fun f hf=>by
 obtain ⟨f,rfl⟩:∃ g,f=g+1:=⟨f - 1,by omega⟩
 have hs:sign (u::r) 0=[41]:=by simp only [sign,getElem?_cons_zero,bz,hu,if_true,gh]
 rw [rd.args,ab hs];rfl⟩
theorem Ea.first {a:T} {r':List Tok} {x:Rd (List T)} (hs:sign r 0≠[41]) (h:Ev e (.expr d) r (.ok (a,r'))) (I:Ea e d [a] r' x):Ea e d [] r x:=by
 obtain ⟨f0,h0⟩:=h;obtain ⟨cX,L⟩:=I;refine ⟨f0+cX+1,fun f hf=>?_⟩;obtain ⟨f,rfl⟩:∃ g,f=g+1:=⟨f - 1,by omega⟩;rw [rd.args,M hs,ab rfl];simp only;rw [h0 f aq];exact L f aq
theorem Ea.TB {a:T} (hs:sign r 0≠[41]) (h:Ev e (.expr d) r (.error y)):Ea e d [] r (.error y):=by
 obtain ⟨f0,h0⟩:=h;refine ⟨f0+1,fun f hf=>?_⟩;obtain ⟨f,rfl⟩:∃ g,f=g+1:=⟨f - 1,by omega⟩;rw [rd.args,M hs,ab rfl];simp only;rw [h0 f aq]
theorem Ea.more {u:Tok} {acc:List T} {a:T} {r':List Tok} {x:Rd (List T)} (ha:acc≠[]) (hu:u.kind=3) (gh:u.s=[44]) (h:Ev e (.expr d) r (.ok (a,r'))) (I:Ea e d (acc++[a]) r' x):Ea e d acc (u::r) x:=by
 obtain ⟨f0,h0⟩:=h;obtain ⟨cX,L⟩:=I;refine ⟨f0+cX+1,fun f hf=>?_⟩;obtain ⟨f,rfl⟩:∃ g,f=g+1:=⟨f - 1,by omega⟩
 have hs:sign (u::r) 0=[44]:=by simp only [sign,getElem?_cons_zero,bz,hu,if_true,gh]
 rw [rd.args,M (by rw [hs];decide),M ha,aP,ab hs];simp only [tail_cons];rw [h0 f aq];exact L f aq
theorem Ea.WD {u:Tok} {acc:List T} (ha:acc≠[]) (hu:u.kind=3) (gh:u.s=[44]) (h:Ev e (.expr d) r (.error y)):Ea e d acc (u::r) (.error y):=by
 obtain ⟨f0,h0⟩:=h;refine ⟨f0+1,fun f hf=>?_⟩;obtain ⟨f,rfl⟩:∃ g,f=g+1:=⟨f - 1,by omega⟩
 have hs:sign (u::r) 0=[44]:=by simp only [sign,getElem?_cons_zero,bz,hu,if_true,gh]
 rw [rd.args,M (by rw [hs];decide),M ha,aP,ab hs];simp only [tail_cons];rw [h0 f aq]
structure Stop (r:List Tok) (k:Nat):Prop where
 a:sign r 0≠[91]
 b:sign r 0≠[40]
 c:∀ j,k < j->sign r 0 ∉ levels.getD j []
theorem Stop.mono {k':Nat} (h:Stop r k) (hk:k<=k'):Stop r k':=⟨h.a,h.b,fun j hj=>h.c j aq⟩
theorem Ev.lift {m:Nat} (h:Ev e (.level m d) ts (.ok (t,r))) (hm:m<=9) (hs:Stop r k):∀ n,m=k+1+n->Ev e (.loop k d t) r x->Ev e (.level k d) ts x:=by
 intro n
 induction n generalizing m with
 | zero=>intro he I;exact Ev.level aq (by rw [<-he];exact h) I
 | succ n ih =>
  intro he I;exact ih (m:=k+1+n) (Ev.level aq (by rw [show k+1+n+1=m by omega];exact h) (Ev.stop (hs.c _ aq))) aq rfl I
theorem Ev.Rl {m:Nat} (h:Ev e (.level m d) ts (.error y)) (hm:m<=9):∀ n,m=k+n->Ev e (.level k d) ts (.error y):=by
 intro n
 induction n generalizing m with
 | zero=>intro he;subst he;exact h
 | succ n ih=>intro he;exact ih (m:=k+n) (Ev.U1 aq (by rw [show k+n+1=m by omega];exact h)) aq rfl
def Rt (e:Int) (k d:Nat) (ts rest:List Tok) (Q:T->Prop) (b:Bool):Prop :=
 (b=true->∃ t,Q t/\(k < 9->∀ x,Ev e (.loop k d t) rest x->Ev e (.level k d) ts x)/\(k=9->Ev e (.level 9 d) ts (.ok (t,rest))))/\(b=false->∃ pos,Ev e (.level k d) ts (.error (9,pos)))
def Ro (e:Int) (d:Nat) (ts rest:List Tok) (Q:T->Prop) (b:Bool):Prop :=
 (b=true->∃ t,Q t/\Ev e (.operand d) ts (.ok (t,rest)))/\(b=false->∃ pos,Ev e (.operand d) ts (.error (9,pos)))
def Rx (e:Int) (d:Nat) (ts rest:List Tok) (Q:T->Prop) (b:Bool):Prop :=
 (b=true->∃ t,Q t/\Ev e (.expr d) ts (.ok (t,rest)))/\(b=false->∃ pos,Ev e (.expr d) ts (.error (9,pos)))
theorem Ro.rt {rest:List Tok} {Q:T->Prop} {b:Bool} (h:Ro e d ts rest Q b) (hk:k<=9) (hs:Stop rest k):Rt e k d ts rest Q b:=by
 refine ⟨fun hb=>?_,fun hb=>?_⟩
 ·obtain ⟨t,L,I⟩:=h.1 hb;exact ⟨t,L,fun BB x h3=>Ev.lift (Ev.F7 I) (aD _) hs (8 - k) aq h3,fun _=>Ev.F7 I⟩
 ·obtain ⟨pos,L⟩:=h.2 hb;exact ⟨pos,Ev.Rl (Ev.F7 L) (aD _) (9 - k) aq⟩
theorem Rt.down {rest:List Tok} {Q:T->Prop} {b:Bool} {m:Nat} (h:Rt e m d ts rest Q b) (hm:m < 9) (hk:k<=m) (hs:Stop rest k):Rt e k d ts rest Q b:=by
 rcases Nat.lt_or_ge k m with ak | mw
 ·refine ⟨fun hb=>?_,fun hb=>?_⟩
  ·obtain ⟨t,L,I,_⟩:=h.1 hb;have h3:=I hm _ (Ev.stop (hs.c m ak));exact ⟨t,L,fun BB x h4=>Ev.lift h3 aq hs (m - 1 - k) aq h4,fun h9=>by omega⟩
  ·obtain ⟨pos,L⟩:=h.2 hb;exact ⟨pos,Ev.Rl L aq (m - k) aq⟩
 ·obtain rfl:k=m:=by omega
  exact h
theorem Rt.rx {rest:List Tok} {Q:T->Prop} {b:Bool} (h:Rt e 0 (d+1) ts rest Q b) (hs:sign rest 0 ∉ levels.getD 0 []):Rx e d ts rest Q (decide (d<=60)&&b):=by
 by_cases hd:d<=60
 ·have:(decide (d<=60)&&b)=b:=by simp [hd]
  rw [this];refine ⟨fun hb=>?_,fun hb=>?_⟩
  ·obtain ⟨t,L,I,_⟩:=h.1 hb;exact ⟨t,L,Ev.expr hd (I aq _ (Ev.stop hs))⟩
  ·obtain ⟨pos,L⟩:=h.2 hb;exact ⟨pos,Ev.expr hd L⟩
 ·have:(decide (d<=60)&&b)=false:=by simp [hd]
  rw [this];exact ⟨fun hb=>(by cases hb),fun _=>⟨_,Ev.V5 aq⟩⟩
end
theorem Ev.Rn {e:Int} {d:Nat} {ts:List Tok} {x:Rd T} (h:Ev e (.level 9 d) ts x):Ev e (.operand d) ts x:=by
 obtain ⟨f0,h0⟩:=h;refine ⟨f0,fun f hf=>?_⟩;have:=h0 (f+1) aq;rw [rd,ab rfl] at this;exact this
theorem Ro.Rn {e:Int} {d:Nat} {ts rest:List Tok} {Q:T->Prop} {b:Bool} (h:Rt e 9 d ts rest Q b):Ro e d ts rest Q b :=
 ⟨fun hb=>by obtain ⟨t,L,_,I⟩:=h.1 hb;exact ⟨t,L,(I rfl).Rn⟩,fun hb=>by obtain ⟨pos,L⟩:=h.2 hb;exact ⟨pos,L.Rn⟩⟩
theorem tI {t:Tok} {r:List Tok} {s:ae} (h:kf t=kS s):sign (t::r) 0=s:=by
 simp only [kf,kS,Prod.mk.injEq] at h;simp only [sign,getElem?_cons_zero,bz,h.1,if_true,h.2.2]
theorem De {t:Tok} {r:List Tok} (h:t.kind≠3):sign (t::r) 0=[]:=by
 simp only [sign,getElem?_cons_zero,bz,M h]
theorem I3 {j:Nat} (h:9<=j):levels.getD j []=[]:=by
 rw [List.getD_eq_getElem?_getD,getElem?_eq_none (by simpa [levels] using h)];rfl
theorem Ek {r:List Tok} {s:ae} (h:sign r 0=s) (hs:s=[]\/s=[41]\/s=[93]\/s=[44]\/s=[59]\/s=[61]):Stop r 0:=by
 have h9:∀ j,j < 9->∀ s:ae,(s=[]\/s=[41]\/s=[93]\/s=[44]\/s=[59]\/s=[61])->s ∉ levels.getD j []:=by
  intro j hj s hs
  have:∀ j,j < 9->∀ s∈([[],[41],[93],[44],[59],[61]]:List ae),s ∉ levels.getD j []:=by decide
  exact this j hj s (by simpa using hs)
 refine ⟨?_,?_,fun j _=>?_⟩
 ·rw [h];rcases hs with rfl | rfl | rfl | rfl | rfl | rfl <;> decide
 ·rw [h];rcases hs with rfl | rfl | rfl | rfl | rfl | rfl <;> decide
 ·rw [h]
  rcases Nat.lt_or_ge j 9 with h0 | h0
  ·exact h9 j h0 s hs
  ·rw [I3 h0];simp
theorem Ce {r:List Tok} {s:ae} (h:sign r 0=s) (hs:s=[]\/s=[41]\/s=[93]\/s=[44]\/s=[59]\/s=[61]):sign r 0 ∉ levels.getD 0 []:=by
 rw [h];rcases hs with rfl | rfl | rfl | rfl | rfl | rfl <;> decide
theorem qe {s:ae} (h:eZ s=true):ep s < 9/\s∈levels.getD (ep s) []/\s≠[91]/\s≠[40]/\∀ j,ep s < j->s ∉ levels.getD j []:=by
 have hm:s∈levels.flatten:=by
  unfold eZ at h;rw [oY] at h;obtain ⟨l,hl,hc⟩:=h;exact List.mem_flatten.2 ⟨l,hl,by simpa using hc⟩
 have key:∀ s∈levels.flatten,ep s < 9/\s∈levels.getD (ep s) []/\s≠[91]/\s≠[40]/\∀ j,j < 9->ep s < j->s ∉ levels.getD j []:=by decide
 obtain ⟨L,I,h3,h4,h5⟩:=key s hm;refine ⟨L,I,h3,h4,fun j hj=>?_⟩
 rcases Nat.lt_or_ge j 9 with h0 | h0
 ·exact h5 j h0 hj
 ·rw [I3 h0];simp
theorem E.aad {a:E} (h:a.ok=true):a.lv<=9:=by
 cases a with
 | bin s a b=>simp only [E.ok,aH] at h;exact Nat.le_of_lt (qe h.1.1).1
 | _=>exact aD _
def kT (a:E):Prop:=∀ (e:Int) (k d:Nat) (ts rest:List Tok),k<=a.lv->a.ok=true->ts.map kf=a.tk->Stop rest k->Rt e k d (ts++rest) rest (fun t=>er t=a.tree) (a.fit d)
def VS (a:E):Prop:=∀ (e:Int) (k d:Nat) (ts rest:List Tok),k<=9->a.ok=true->ts.map kf=brk a.lv k a.tk->Stop rest k->Rt e k d (ts++rest) rest (fun t=>er t=a.tree) (Ig a.lv k d a.fit)
theorem map_cons {ts:List Tok} {k:K} {l:List K} (h:ts.map kf=k::l):∃ t r,ts=t::r/\kf t=k/\r.map kf=l:=List.map_eq_cons_iff.1 h
theorem dx {ts:List Tok} {l l':List K} (h:ts.map kf=l++l'):∃ a b,ts=a++b/\a.map kf=l/\b.map kf=l':=List.map_eq_append_iff.1 h
theorem iO {ts:List Tok} {k:K} (h:ts.map kf=[k]):∃ t,ts=[t]/\kf t=k:=by
 obtain ⟨t,r,rfl,L,I⟩:=map_cons h
 have:r=[]:=by simpa using I
 subst this;exact ⟨t,rfl,L⟩
theorem eC {t:Tok} {s:ae} (h:kf t=kS s):t.kind=3/\t.s=s:=by simp only [kf,kS,Prod.mk.injEq] at h;exact ⟨h.1,h.2.2⟩
theorem qE {t:Tok} {s:ae} (h:kf t=kN s):t.kind=2/\t.s=s:=by simp only [kf,kN,Prod.mk.injEq] at h;exact ⟨h.1,h.2.2⟩
theorem Ps {t:Tok} {n:Int} (h:kf t=kI n):t.kind=1/\t.n=n:=by simp only [kf,kI,Prod.mk.injEq] at h;exact ⟨h.1,h.2.1⟩
theorem kT.rx {a:E} (h:kT a) {e:Int} {d:Nat} {ts rest:List Tok} {s:ae} (ho:a.ok=true) (ht:ts.map kf=a.tk) (hs:sign rest 0=s) (o9:s=[]\/s=[41]\/s=[93]\/s=[44]\/s=[59]\/s=[61]) :
  Rx e d (ts++rest) rest (fun t=>er t=a.tree) (decide (d<=60)&&a.fit (d+1)):=(h e 0 (d+1) ts rest (aM _) ho ht (Ek hs o9)).rx (Ce hs o9)
theorem kT.Fj {a:E} (h:kT a):VS a:=by
 intro e k d ts rest hk ho ht hs;unfold brk at ht;unfold Ig
 by_cases hl:a.lv < k
 ·rw [ab hl] at ht |-;obtain ⟨t,r,rfl,L,I⟩:=map_cons ht;obtain ⟨A,B,rfl,h3,h4⟩:=dx I;obtain ⟨u,rfl,h5⟩:=iO h4;obtain ⟨L,c7⟩:=eC L;obtain ⟨h5,QN⟩:=eC h5;have hx:=h.rx (e:=e) (d:=d+1) (rest:=u::rest) (s:=[41]) ho h3 (by simp only [sign,getElem?_cons_zero,bz,h5,if_true,QN]) (by simp);refine Ro.rt ?_ hk hs
  have he:t::(A++[u])++rest=t::(A++u::rest):=by simp
  rw [he]
  by_cases hd:d<=60
  ·have:(decide (d<=60)&&decide (d+1<=60)&&a.fit (d+2))=(decide (d+1<=60)&&a.fit (d+1+1)):=by simp [hd]
   rw [this];refine ⟨fun hb=>?_,fun hb=>?_⟩
   ·obtain ⟨t',k1,k2⟩:=hx.1 hb;exact ⟨t',k1,Ev.par hd L c7 h5 QN k2⟩
   ·obtain ⟨pos,k1⟩:=hx.2 hb;exact ⟨pos,Ev.Zz hd L c7 k1⟩
  ·have:(decide (d<=60)&&decide (d+1<=60)&&a.fit (d+2))=false:=by simp [hd]
   rw [this];exact ⟨fun hb=>(by cases hb),fun _=>⟨_,Ev.QD aq⟩⟩
 ·rw [M hl] at ht |-;exact h e k d ts rest aq ho ht hs
theorem tG {e:Int} {d:Nat} {ts rest:List Tok} {Q:T->Prop} {b:Bool} (h:d<=60->Ro e d ts rest Q b):Ro e d ts rest Q (decide (d<=60)&&b):=by
 by_cases hd:d<=60
 ·have:(decide (d<=60)&&b)=b:=by simp [hd]
  rw [this];exact h hd
 ·have:(decide (d<=60)&&b)=false:=by simp [hd]
  rw [this];exact ⟨fun hb=>(by cases hb),fun _=>⟨_,Ev.QD aq⟩⟩
theorem nj {s:ae} (h:bt s=true):s.length<=12:=by
 simp only [Go.Sp.bt,aH,decide_eq_true_eq] at h;exact h.1.2
theorem OS (n:Int):kT (.num n):=by
 intro e k d ts rest hk ho ht hs;obtain ⟨t,rfl,L⟩:=iO ht;obtain ⟨L,I⟩:=Ps L;refine Ro.rt ?_ hk hs
 have:=tG (e:=e) (d:=d) (ts:=[t]++rest) (rest:=rest) (Q:=fun t=>er t=(E.num n).tree) (b:=true) fun hd=>⟨fun _=>⟨_,?_,Ev.num hd L⟩,fun h=>by cases h⟩
 ·simpa [E.fit] using this
 ·show er _=_;rw [er,E.tree,I];rfl
theorem LV (s:ae):kT (.name s):=by
 intro e k d ts rest hk ho ht hs;obtain ⟨t,rfl,L⟩:=iO ht;obtain ⟨L,I⟩:=qE L;simp only [E.ok] at ho;refine Ro.rt ?_ hk hs
 have:=tG (e:=e) (d:=d) (ts:=[t]++rest) (rest:=rest) (Q:=fun t=>er t=(E.name s).tree) (b:=true) fun hd=>⟨fun _=>⟨_,?_,Ev.name hd L (by rw [I];exact nj ho) hs.a hs.b⟩,fun h=>by cases h⟩
 ·simpa [E.fit] using this
 ·show er _=_;rw [ed,E.tree,I];rfl
theorem RX (s:ae) {a:E} (C:kT a):kT (.at_ s a):=by
 intro e k d ts rest hk ho ht hs;simp only [E.ok,aH] at ho;rw [E.tk] at ht;obtain ⟨t,r,rfl,L,I⟩:=map_cons ht;obtain ⟨u,r,rfl,h3,h4⟩:=map_cons I;obtain ⟨A,B,rfl,h5,h6⟩:=dx h4;obtain ⟨w,rfl,h7⟩:=iO h6;obtain ⟨L,c7⟩:=qE L;obtain ⟨h3,kX⟩:=eC h3;obtain ⟨h7,lB⟩:=eC h7
 have hl:t.s.length<=12:=by rw [c7];exact nj ho.1
 have hx:=C.rx (e:=e) (d:=d+1) (rest:=w::rest) (s:=[93]) ho.2 h5 (by simp only [sign,getElem?_cons_zero,bz,h7,if_true,lB]) (by simp);refine Ro.rt ?_ hk hs
 have he:t::u::(A++[w])++rest=t::u::(A++w::rest):=by simp
 rw [he,E.fit,Bool.and_assoc]
 refine tG fun hd=>⟨fun hb=>?_,fun hb=>?_⟩
 ·obtain ⟨t',k1,k2⟩:=hx.1 hb;exact ⟨_,by show er _=_;rw [ed,aS,k1,c7,E.tree];rfl,Ev.ix hd L hl h3 kX h7 lB k2⟩
 ·obtain ⟨pos,k1⟩:=hx.2 hb;exact ⟨pos,Ev.XS hd L hl h3 kX k1⟩
theorem RZ (s:ae) {a:E} (C:kT a):kT (.un s a):=by
 intro e k d ts rest hk ho ht hs;simp only [E.ok,aH,Bool.or_eq_true,beq_iff_eq] at ho;rw [E.tk] at ht;obtain ⟨t,r,rfl,L,I⟩:=map_cons ht;obtain ⟨L,c7⟩:=eC L;have BB:k<=9:=hk;have hg:=Ro.Rn (C.Fj e 9 (d+1) r rest (aD _) ho.2 I (hs.mono BB));refine Ro.rt ?_ hk hs
 have ui:t.s=[45]\/t.s=[33]\/t.s=[126]:=by rw [c7];rcases ho.1 with (h | h) | h <;> simp [h]
 rw [E.fit]
 refine tG fun hd=>⟨fun hb=>?_,fun hb=>?_⟩
 ·obtain ⟨t',k1,k2⟩:=hg.1 hb;exact ⟨_,by show er _=_;rw [ed,aS,k1,c7,E.tree];rfl,Ev.un hd L ui k2⟩
 ·obtain ⟨pos,k1⟩:=hg.2 hb;exact ⟨pos,Ev.unX hd L ui k1⟩
theorem ON (s:ae) {a b:E} (Ca:kT a) (Cb:kT b):kT (.bin s a b):=by
 intro e k d ts rest hk ho ht hs;simp only [E.ok,aH] at ho;obtain ⟨l1,l2,l3,l4,l5⟩:=qe ho.1.1;rw [E.tk] at ht;obtain ⟨A,B,rfl,L,I⟩:=dx ht;obtain ⟨t,r,rfl,h3,h4⟩:=map_cons I;obtain ⟨h3,kX⟩:=eC h3;have mx:k<=ep s:=hk;have jh:=hs.mono mx;refine Rt.down (m:=ep s) ?_ l1 mx hs
 have en:sign (t::(r++rest)) 0=s:=by simp only [sign,getElem?_cons_zero,bz,h3,if_true,kX]
 have ga:=Ca.Fj e (ep s) d A (t::(r++rest)) aq ho.1.2 L ⟨by rw [en];exact l3,by rw [en];exact l4,fun j hj=>by rw [en];exact l5 j hj⟩;have gb:=Cb.Fj e (ep s+1) d r rest aq ho.2 h4 (jh.mono aq)
 have he:A++t::r++rest=A++t::(r++rest):=by simp
 rw [he,E.fit]
 change Rt e (ep s) d _ rest _ (Ig a.lv (ep s) d a.fit&&Ig b.lv (ep s+1) d b.fit)
 have ui:t.s∈levels.getD (ep s) []:=by rw [kX];exact l2
 cases hfa:Ig a.lv (ep s) d a.fit with
 | false =>
  refine ⟨fun hb=>(by cases hb),fun _=>ga.2 hfa⟩
 | true =>
  obtain ⟨ta,k1,k2,_⟩:=ga.1 hfa
  cases hfb:Ig b.lv (ep s+1) d b.fit with
  | false =>
   refine ⟨fun hb=>(by cases hb),fun _=>?_⟩;obtain ⟨pos,k3⟩:=gb.2 hfb;exact ⟨pos,k2 l1 _ (Ev.Z9 h3 ui k3)⟩
  | true =>
   refine ⟨fun _=>?_,fun hb=>(by cases hb)⟩;obtain ⟨tb,k3,k4,k5⟩:=gb.1 hfb
   have k6:Ev e (.level (ep s+1) d) (r++rest) (.ok (tb,rest)):=by
    rcases Nat.lt_or_ge (ep s+1) 9 with h9 | h9
    ·exact k4 h9 _ (Ev.stop (jh.c _ aq))
    ·have:ep s+1=9:=by omega
     rw [this] at k5 |-;exact k5 rfl
   exact ⟨one 6 t.at_ t.s [ta,tb],by show er _=_;rw [ed,aS,aS,aS,k1,k3,kX,E.tree],fun _ x hx=>k2 l1 x (Ev.go h3 ui k6 hx),fun h9=>by omega⟩
def QG (k:K):Prop:=k.1=1\/k.1=2\/(k.1=3/\(k.2.2=[45]\/k.2.2=[33]\/k.2.2=[126]\/k.2.2=[40]))
theorem E.head:∀ (a:E),a.ok=true->∃ k r,a.tk=k::r/\QG k
 | .num n,_=>⟨_,_,rfl,.inl rfl⟩
 | .name s,_=>⟨_,_,rfl,.inr (.inl rfl)⟩
 | .at_ s a,_=>⟨_,_,rfl,.inr (.inl rfl)⟩
 | .call s l,_=>⟨_,_,rfl,.inr (.inl rfl)⟩
 | .un s a,h=>⟨_,_,rfl,.inr (.inr ⟨rfl,by simp only [E.ok,aH,Bool.or_eq_true,beq_iff_eq] at h;rcases h.1 with (h | h) | h <;> simp [h]⟩)⟩
 | .bin s a b,h=>by
  simp only [E.ok,aH] at h;obtain ⟨k,r,L,I⟩:=E.head a h.1.2;rw [E.tk,brk];split
  ·exact ⟨_,_,rfl,.inr (.inr ⟨rfl,by simp⟩)⟩
  ·rw [L];exact ⟨k,_,rfl,I⟩
theorem AF {t:Tok} {r:List Tok} (h:QG (kf t)):sign (t::r) 0=[]\/sign (t::r) 0=[45]\/sign (t::r) 0=[33]\/sign (t::r) 0=[126]\/sign (t::r) 0=[40]:=by
 rcases h with h | h | ⟨h,h'⟩
 ·left;exact De (by simp only [kf] at h;omega)
 ·left;exact De (by simp only [kf] at h;omega)
 ·right
  have:sign (t::r) 0=t.s:=by simp only [kf] at h;simp only [sign,getElem?_cons_zero,bz,h,if_true]
  rw [this];exact h'
def za (l:List E):Prop:=∀ (e:Int) (d:Nat) (acc:List T) (ts rest:List Tok) (u:Tok),E.db l=true->acc≠[]->ts.map kf=E.qM l->u.kind=3->u.s=[41] ->
 (E.fits l d=true->∃ ys,aS ys=E.trees l/\Ea e d acc (ts++u::rest) (.ok (acc++ys,rest)))/\(E.fits l d=false->∃ pos,Ea e d acc (ts++u::rest) (.error (9,pos)))
theorem LR:za []:=by
 intro e d acc ts rest u _ ha ht hu gh
 have:ts=[]:=by simpa [E.qM] using ht
 subst this;exact ⟨fun _=>⟨[],rfl,by rw [cq];exact Ea.nil hu gh⟩,fun h=>by simp [E.fits] at h⟩
theorem El {l:List E} {ts rest:List Tok} {u:Tok} (ht:ts.map kf=E.qM l) (hu:u.kind=3) (gh:u.s=[41]):∃ s,sign (ts++u::rest) 0=s/\(s=[]\/s=[41]\/s=[93]\/s=[44]\/s=[59]\/s=[61]):=by
 cases l with
 | nil =>
  have:ts=[]:=by simpa [E.qM] using ht
  subst this;exact ⟨[41],by simp only [nil_append,sign,getElem?_cons_zero,bz,hu,if_true,gh],by simp⟩
 | cons a l =>
  rw [E.qM] at ht;obtain ⟨t,r,rfl,L,_⟩:=map_cons ht;exact ⟨[44],tI L,by simp⟩
theorem J3 {a:E} {l:List E} (Ca:kT a) (Cl:za l):za (a::l):=by
 intro e d acc ts rest u ho ha ht hu gh;simp only [E.db,aH] at ho;rw [E.qM] at ht;obtain ⟨t,r,rfl,L,I⟩:=map_cons ht;obtain ⟨A,B,rfl,h3,h4⟩:=dx I;obtain ⟨L,c7⟩:=eC L;obtain ⟨s,iy,jR⟩:=El (rest:=rest) h4 hu gh;have hx:=Ca.rx (e:=e) (d:=d) (rest:=B++u::rest) (s:=s) ho.1 h3 iy jR
 have he:t::(A++B)++u::rest=t::(A++(B++u::rest)):=by simp
 rw [he,E.fits]
 cases hfa:decide (d<=60)&&a.fit (d+1) with
 | false =>
  refine ⟨fun hb=>(by simp at hb),fun _=>?_⟩;obtain ⟨pos,k1⟩:=hx.2 hfa;exact ⟨pos,Ea.WD ha L c7 k1⟩
 | true =>
  obtain ⟨ta,k1,k2⟩:=hx.1 hfa;have hl:=Cl e d (acc++[ta]) B rest u ho.2 (by simp) h4 hu gh;refine ⟨fun hb=>?_,fun hb=>?_⟩
  ·obtain ⟨ys,k3,k4⟩:=hl.1 (by simpa using hb);exact ⟨ta::ys,by rw [aS,k1,k3,E.trees],Ea.more ha L c7 k2 (by rw [cK] at k4;exact k4)⟩
  ·obtain ⟨pos,k3⟩:=hl.2 (by simpa using hb);exact ⟨pos,Ea.more ha L c7 k2 k3⟩
theorem LU (s:ae) {l:List E} (Cf:∀ a r,l=a::r->kT a/\za r):kT (.call s l):=by
 intro e k d ts rest hk ho ht hs;simp only [E.ok,aH] at ho;rw [E.tk] at ht;obtain ⟨t,r,rfl,L,I⟩:=map_cons ht;obtain ⟨u,r,rfl,h3,h4⟩:=map_cons I;obtain ⟨A,B,rfl,h5,h6⟩:=dx h4;obtain ⟨w,rfl,h7⟩:=iO h6;obtain ⟨L,c7⟩:=qE L;obtain ⟨h3,kX⟩:=eC h3;obtain ⟨h7,lB⟩:=eC h7
 have hl:t.s.length<=12:=by rw [c7];exact nj ho.1
 refine Ro.rt ?_ hk hs
 have he:t::u::(A++[w])++rest=t::u::(A++w::rest):=by simp
 rw [he,E.fit]
 refine tG fun hd=>?_
 have key:(E.fits l (d+1)=true->∃ ys,aS ys=E.trees l/\Ea e (d+1) [] (A++w::rest) (.ok (ys,rest)))/\(E.fits l (d+1)=false->∃ pos,Ea e (d+1) [] (A++w::rest) (.error (9,pos))):=by
  cases l with
  | nil =>
   have:A=[]:=by simpa [E.nJ] using h5
   subst this;exact ⟨fun _=>⟨[],rfl,Ea.nil h7 lB⟩,fun h=>by simp [E.fits] at h⟩
  | cons a l =>
   obtain ⟨Ca,Cl⟩:=Cf a l rfl;have Ab:=ho.2;simp only [E.db,aH] at Ab;rw [E.nJ] at h5;obtain ⟨A,B,rfl,h3,h4⟩:=dx h5;obtain ⟨s,iy,jR⟩:=El (rest:=rest) h4 h7 lB;have hx:=Ca.rx (e:=e) (d:=d+1) (rest:=B++w::rest) (s:=s) Ab.1 h3 iy jR;rw [cK]
   have cr:sign (A++(B++w::rest)) 0≠[41]:=by
    obtain ⟨kk,rr,k1,k2⟩:=E.head a Ab.1;rw [k1] at h3;obtain ⟨t0,r0,rfl,k3,_⟩:=map_cons h3
    rcases AF (r:=r0++(B++w::rest)) (by rw [k3];exact k2) with h | h | h | h | h <;> (rw [cons_append,h];decide)
   rw [E.fits]
   cases hfa:decide (d+1<=60)&&a.fit (d+1+1) with
   | false =>
    refine ⟨fun hb=>(by simp at hb),fun _=>?_⟩;obtain ⟨pos,k1⟩:=hx.2 hfa;exact ⟨pos,Ea.TB (a:=T.mk ⟨0,0,0,[],[]⟩ []) cr k1⟩
   | true =>
    obtain ⟨ta,k1,k2⟩:=hx.1 hfa;have re:=Cl e (d+1) [ta] B rest w Ab.2 (by simp) h4 h7 lB;refine ⟨fun hb=>?_,fun hb=>?_⟩
    ·obtain ⟨ys,k3,k4⟩:=re.1 (by simpa using hb);exact ⟨ta::ys,by rw [aS,k1,k3,E.trees],Ea.first cr k2 k4⟩
    ·obtain ⟨pos,k3⟩:=re.2 (by simpa using hb);exact ⟨pos,Ea.first cr k2 k3⟩
 refine ⟨fun hb=>?_,fun hb=>?_⟩
 ·obtain ⟨ys,k1,k2⟩:=key.1 hb;exact ⟨_,by show er _=_;rw [ed,k1,c7,E.tree],Ev.call hd L hl h3 kX k2⟩
 ·obtain ⟨pos,k1⟩:=key.2 hb;exact ⟨pos,Ev.VZ hd L hl h3 kX k1⟩
mutual
theorem core:∀ (a:E),kT a
 | .num n=>OS n
 | .name s=>LV s
 | .at_ s a=>RX s (core a)
 | .call s l=>LU s (V0 l)
 | .un s a=>RZ s (core a)
 | .bin s a b=>ON s (core a) (core b)
theorem V0:∀ (l:List E),∀ a r,l=a::r->kT a/\za r
 | []=>fun a r h=>by cases h
 | a::r=>fun a' r' h=>by cases h;exact ⟨core a,LS r⟩
theorem LS:∀ (l:List E),za l
 | []=>LR
 | a::l=>J3 (core a) (LS l)
end
inductive S where
 | set (s:ae) (a:E)
 | put (s:ae) (a b:E)
 | if1 (c:E) (b:List S)
 | if2 (c:E) (b b2:List S)
 | while_ (c:E) (b:List S)
 | ret (a:E)
 | do_ (a:E)
 | var (s:ae) (a:E)
mutual
def S.tk:S->List K
 | .set s a=>kN s::kS [61]::(a.tk++[kS [59]])
 | .put s a b=>kN s::kS [91]::(a.tk++kS [93]::kS [61]::(b.tk++[kS [59]]))
 | .if1 c b=>kS eo::kS [40]::(c.tk++kS [41]::kS [123]::(S.nJ b++[kS [125]]))
 | .if2 c b b2=>kS eo::kS [40]::(c.tk++kS [41]::kS [123]::(S.nJ b++kS [125]::kS eL::kS [123]::(S.nJ b2++[kS [125]])))
 | .while_ c b=>kS dQ::kS [40]::(c.tk++kS [41]::kS [123]::(S.nJ b++[kS [125]]))
 | .ret a=>kS dz::(a.tk++[kS [59]])
 | .do_ a=>a.tk++[kS [59]]
 | .var s a=>kS ia::kN s::kS [61]::(a.tk++[kS [59]])
def S.nJ:List S->List K
 | []=>[]
 | a::l=>a.tk++S.nJ l
end
mutual
def S.tree:S->T
 | .set s a=>.mk ⟨7,0,0,s,[]⟩ [a.tree]
 | .put s a b=>.mk ⟨8,0,0,s,[]⟩ [a.tree,b.tree]
 | .if1 c b=>.mk ⟨9,0,0,[],[]⟩ [c.tree,.mk ⟨14,0,0,[],[]⟩ (S.trees b)]
 | .if2 c b b2=>.mk ⟨9,0,0,[],[]⟩ [c.tree,.mk ⟨14,0,0,[],[]⟩ (S.trees b),.mk ⟨14,0,0,[],[]⟩ (S.trees b2)]
 | .while_ c b=>.mk ⟨10,0,0,[],[]⟩ [c.tree,.mk ⟨14,0,0,[],[]⟩ (S.trees b)]
 | .ret a=>.mk ⟨11,0,0,[],[]⟩ [a.tree]
 | .do_ a=>.mk ⟨12,0,0,[],[]⟩ [a.tree]
 | .var s a=>.mk ⟨13,0,0,s,[]⟩ [a.tree]
def S.trees:List S->List T
 | []=>[]
 | a::l=>a.tree::S.trees l
end
def qt (a:E) (d:Nat):Bool:=decide (d<=60)&&a.fit (d+1)
mutual
def S.fit:S->Nat->Bool
 | .set _ a,d=>decide (d<=60)&&qt a (d+1)
 | .put s a b,d=>decide (d<=60)&&(qt (.at_ s a) (d+1)&&qt b (d+1))
 | .if1 c b,d=>decide (d<=60)&&(qt c (d+1)&&(decide (d+1<=60)&&S.fits b (d+2)))
 | .if2 c b b2,d=>decide (d<=60)&&(qt c (d+1)&&((decide (d+1<=60)&&S.fits b (d+2))&&(decide (d+1<=60)&&S.fits b2 (d+2))))
 | .while_ c b,d=>decide (d<=60)&&(qt c (d+1)&&(decide (d+1<=60)&&S.fits b (d+2)))
 | .ret a,d=>decide (d<=60)&&qt a (d+1)
 | .do_ a,d=>decide (d<=60)&&qt a (d+1)
 | .var _ a,d=>decide (d<=60)&&qt a (d+1)
def S.fits:List S->Nat->Bool
 | [],_=>true
 | a::l,d=>a.fit d&&S.fits l d
end
mutual
def S.ok:S->Bool
 | .set s a=>bt s&&a.ok
 | .put s a b=>bt s&&(a.ok&&b.ok)
 | .if1 c b=>c.ok&&S.db b
 | .if2 c b b2=>c.ok&&(S.db b&&S.db b2)
 | .while_ c b=>c.ok&&S.db b
 | .ret a=>a.ok
 | .do_ a=>a.ok
 | .var s a=>bt s&&a.ok
def S.db:List S->Bool
 | []=>true
 | a::l=>a.ok&&S.db l
end
def Es (e:Int) (j:rv) (ts:List Tok) (x:Rd T):Prop:=∃ f0,∀ f,f0<=f->rs e f j ts=x
def Eb (e:Int) (d:Nat) (acc:List T) (ts:List Tok) (x:Rd (List T)):Prop:=∃ f0,∀ f,f0<=f->rs.body e f d acc ts=x
theorem Ev.ex {e:Int} {d:Nat} {ts:List Tok} {x:Rd T} (h:Ev e (.expr d) ts x):Go.Xp.expr e d ts=x:=by
 obtain ⟨f0,h0⟩:=h;rw [<-CI (e:=e) (d:=d) (ts:=ts) (f:=f0+(20 * ts.length+12)) aq];exact h0 _ aq
def Xx (e:Int) (d:Nat) (ts rest:List Tok) (Q:T->Prop) (b:Bool):Prop :=
 (b=true->∃ t,Q t/\expr e d ts=.ok (t,rest))/\(b=false->∃ pos,expr e d ts=.error (9,pos))
theorem Rx.xx {e:Int} {d:Nat} {ts rest:List Tok} {Q:T->Prop} {b:Bool} (h:Rx e d ts rest Q b):Xx e d ts rest Q b :=
 ⟨fun hb=>by obtain ⟨t,L,I⟩:=h.1 hb;exact ⟨t,L,I.ex⟩,fun hb=>by obtain ⟨pos,L⟩:=h.2 hb;exact ⟨pos,L.ex⟩⟩
theorem E.xx {a:E} {e:Int} {d:Nat} {ts rest:List Tok} {s:ae} (ho:a.ok=true) (ht:ts.map kf=a.tk) (hs:sign rest 0=s) (o9:s=[]\/s=[41]\/s=[93]\/s=[44]\/s=[59]\/s=[61]) :
  Xx e d (ts++rest) rest (fun t=>er t=a.tree) (qt a d):=((core a).rx ho ht hs o9).xx
def Sx (e:Int) (j:rv) (ts rest:List Tok) (Q:T->Prop) (b:Bool):Prop :=
 (b=true->∃ t,Q t/\Es e j ts (.ok (t,rest)))/\(b=false->∃ pos,Es e j ts (.error (9,pos)))
section
variable {e:Int} {d:Nat} {ts rest:List Tok} {Q:T->Prop} {b:Bool}
theorem sS {j:rv} {x:Rd T} (hs:∀ f,rs e (f+1) j ts=x):Es e j ts x :=
 ⟨1,fun f hf=>by obtain ⟨f,rfl⟩:∃ g,f=g+1:=⟨f - 1,by omega⟩;exact hs f⟩
theorem qj (h:d<=60->Sx e (.stmt d) ts rest Q b):Sx e (.stmt d) ts rest Q (decide (d<=60)&&b):=by
 by_cases hd:d<=60
 ·have:(decide (d<=60)&&b)=b:=by simp [hd]
  rw [this];exact h hd
 ·have:(decide (d<=60)&&b)=false:=by simp [hd]
  rw [this];exact ⟨fun hb=>(by cases hb),fun _=>⟨_,sS fun f=>by rw [rs,ab aq]⟩⟩
theorem rH {u:Tok} {s:ae} (hu:u.kind=3) (gh:u.s=s):aP e s (u::rest)=.ok rest:=by
 have hs:sign (u::rest) 0=s:=by simp only [sign,getElem?_cons_zero,bz,hu,if_true,gh]
 unfold aP;rw [ab hs];rfl
theorem uB {u:Tok} {s:ae} (hu:u.kind=3) (gh:u.s=s):sign (u::rest) 0=s:=by simp only [sign,getElem?_cons_zero,bz,hu,if_true,gh]
theorem vY {a:E} {u w:Tok} {A:List Tok} {sa sb:ae} (ho:a.ok=true) (ht:A.map kf=a.tk) (hu:u.kind=3) (gh:u.s=sa) (hw:w.kind=3) (DV:w.s=sb) (UH:sb=[]\/sb=[41]\/sb=[93]\/sb=[44]\/sb=[59]\/sb=[61]) :
  (qt a d=true->∃ t,er t=a.tree/\inner e d sa sb (u::(A++w::rest))=.ok (t,rest))/\(qt a d=false->∃ pos,inner e d sa sb (u::(A++w::rest))=.error (9,pos)):=by
 have hx:=E.xx (e:=e) (d:=d) (rest:=w::rest) ho ht (uB hw DV) UH;unfold inner;rw [rH hu gh];refine ⟨fun hb=>?_,fun hb=>?_⟩
 ·obtain ⟨t,L,I⟩:=hx.1 hb;exact ⟨t,L,by simp only;rw [I];simp only;rw [rH hw DV]⟩
 ·obtain ⟨pos,L⟩:=hx.2 hb;exact ⟨pos,by simp only;rw [L]⟩
theorem Jr {a:E} {v u w:Tok} {A:List Tok} (ho:a.ok=true) (hv:v.kind=2) (hvl:v.s.length<=12) (ht:A.map kf=a.tk) (hu:u.kind=3) (gh:u.s=[61]) (hw:w.kind=3) (DV:w.s=[59]) :
  (qt a d=true->∃ t,er t=a.tree/\lO e d (v::u::(A++w::rest))=.ok ((v.s,t),rest))/\(qt a d=false->∃ pos,lO e d (v::u::(A++w::rest))=.error (9,pos)):=by
 have hi:=vY (e:=e) (d:=d) (rest:=rest) ho ht hu gh hw DV (by simp);unfold lO;rw [tE hv hvl];refine ⟨fun hb=>?_,fun hb=>?_⟩
 ·obtain ⟨t,L,I⟩:=hi.1 hb;exact ⟨t,L,by simp only;rw [I]⟩
 ·obtain ⟨pos,L⟩:=hi.2 hb;exact ⟨pos,by simp only;rw [L]⟩
theorem jt {t:Tok} {s:ae} (h:t.kind=2) (hs:s≠[]):sign (t::rest) 0≠s:=by rw [De aq];exact fun h=>hs h.symm
def rX (s:S):Prop:=∀ (e:Int) (d:Nat) (ts rest:List Tok),s.ok=true->ts.map kf=s.tk->sign rest 0≠eL->Sx e (.stmt d) (ts++rest) rest (fun t=>er t=s.tree) (s.fit d)
theorem OV (s:ae) (a:E):rX (.set s a):=by
 intro e d ts rest ho ht _;simp only [S.ok,aH] at ho;rw [S.tk] at ht;obtain ⟨t,r,rfl,L,I⟩:=map_cons ht;obtain ⟨u,r,rfl,h3,h4⟩:=map_cons I;obtain ⟨A,B,rfl,h5,h6⟩:=dx h4;obtain ⟨w,rfl,h7⟩:=iO h6;obtain ⟨L,c7⟩:=qE L;obtain ⟨h3,kX⟩:=eC h3;obtain ⟨h7,lB⟩:=eC h7
 have he:t::u::(A++[w])++rest=t::u::(A++w::rest):=by simp
 have hx:=Jr (e:=e) (d:=d+1) (rest:=rest) ho.2 L (by rw [c7];exact nj ho.1) h5 h3 kX h7 lB;rw [he,S.fit];have bY:t.kind=2/\sign (t::u::(A++w::rest)) 1=[61]:=⟨L,by simp only [sign,List.getElem?_cons_succ,getElem?_cons_zero,bz,h3,if_true,kX]⟩
 refine qj fun hd=>⟨fun hb=>?_,fun hb=>?_⟩
 ·obtain ⟨t',k1,k2⟩:=hx.1 hb;refine ⟨one 7 t.at_ t.s [t'],by show er _=_;rw [ed,aS,k1,c7,S.tree];rfl,sS fun f=>?_⟩;rw [rs,M aq];simp only;rw [M (jt L av),M (fun h=>h.elim (jt L av) (jt L av)),M (jt L av)];simp only [simple];rw [ab bY,k2]
 ·obtain ⟨pos,k1⟩:=hx.2 hb;refine ⟨pos,sS fun f=>?_⟩;rw [rs,M aq];simp only;rw [M (jt L av),M (fun h=>h.elim (jt L av) (jt L av)),M (jt L av)];simp only [simple];rw [ab bY,k1]
theorem OW (s:ae) (a:E):rX (.var s a):=by
 intro e d ts rest ho ht _;simp only [S.ok,aH] at ho;rw [S.tk] at ht;obtain ⟨v,r,rfl,h0,ht⟩:=map_cons ht;obtain ⟨t,r,rfl,L,I⟩:=map_cons ht;obtain ⟨u,r,rfl,h3,h4⟩:=map_cons I;obtain ⟨A,B,rfl,h5,h6⟩:=dx h4;obtain ⟨w,rfl,h7⟩:=iO h6;obtain ⟨h0,ub⟩:=eC h0;obtain ⟨L,c7⟩:=qE L;obtain ⟨h3,kX⟩:=eC h3;obtain ⟨h7,lB⟩:=eC h7
 have he:v::t::u::(A++[w])++rest=v::t::u::(A++w::rest):=by simp
 have hx:=Jr (e:=e) (d:=d+1) (rest:=rest) ho.2 L (by rw [c7];exact nj ho.1) h5 h3 kX h7 lB;rw [he,S.fit]
 refine qj fun hd=>⟨fun hb=>?_,fun hb=>?_⟩
 ·obtain ⟨t',k1,k2⟩:=hx.1 hb;refine ⟨one 13 v.at_ t.s [t'],by show er _=_;rw [ed,aS,k1,c7,S.tree];rfl,sS fun f=>?_⟩;rw [rs,M aq];simp only;rw [ab (uB h0 ub),tail_cons,k2];rfl
 ·obtain ⟨pos,k1⟩:=hx.2 hb;refine ⟨pos,sS fun f=>?_⟩;rw [rs,M aq];simp only;rw [ab (uB h0 ub),tail_cons,k1]
theorem OU (a:E):rX (.ret a):=by
 intro e d ts rest ho ht _;simp only [S.ok] at ho;rw [S.tk] at ht;obtain ⟨v,r,rfl,h0,h4⟩:=map_cons ht;obtain ⟨A,B,rfl,h5,h6⟩:=dx h4;obtain ⟨w,rfl,h7⟩:=iO h6;obtain ⟨h0,ub⟩:=eC h0;obtain ⟨h7,lB⟩:=eC h7
 have he:v::(A++[w])++rest=v::(A++w::rest):=by simp
 have hx:=E.xx (e:=e) (d:=d+1) (rest:=w::rest) ho h5 (uB h7 lB) (by simp);rw [he,S.fit];have hs:=uB (rest:=A++w::rest) h0 ub
 refine qj fun hd=>⟨fun hb=>?_,fun hb=>?_⟩
 ·obtain ⟨t',k1,k2⟩:=hx.1 hb;refine ⟨one 11 v.at_ [] [t'],by show er _=_;rw [ed,aS,k1,S.tree];rfl,sS fun f=>?_⟩;rw [rs,M aq];simp only;rw [M (by rw [hs];decide),M (by rw [hs];decide),ab hs,tail_cons,k2];simp only;rw [rH h7 lB];rfl
 ·obtain ⟨pos,k1⟩:=hx.2 hb;refine ⟨pos,sS fun f=>?_⟩;rw [rs,M aq];simp only;rw [M (by rw [hs];decide),M (by rw [hs];decide),ab hs,tail_cons,k1]
def rJ (l:List K):Prop:=∀ k∈l,k.1=3->k.2.2≠[61]
theorem rK {l l':List K}:rJ (l++l')↔rJ l/\rJ l':=by
 unfold rJ;constructor
 ·intro h;exact ⟨fun k hk=>h k (List.mem_append_left _ hk),fun k hk=>h k (List.mem_append_right _ hk)⟩
 ·rintro ⟨L,I⟩ k hk;rcases oI hk with hk | hk
  ·exact L k hk
  ·exact I k hk
theorem gW {a:K} {l:List K}:rJ (a::l)↔(a.1=3->a.2.2≠[61])/\rJ l:=by
 unfold rJ;simp only [List.mem_cons,forall_eq_or_imp]
theorem pV:rJ []:=fun k hk=>by cases hk
theorem yR {lv k:Nat} {x:List K} (h:rJ x):rJ (brk lv k x):=by
 unfold brk;split
 ·rw [gW,rK,gW];exact ⟨fun _=>by decide,h,fun _=>by decide,pV⟩
 ·exact h
mutual
theorem E.zx:∀ (a:E),a.ok=true->rJ a.tk
 | .num n,_=>by rw [E.tk,gW];exact ⟨fun h=>(by cases h),pV⟩
 | .name s,_=>by rw [E.tk,gW];exact ⟨fun h=>(by cases h),pV⟩
 | .at_ s a,h=>by
  simp only [E.ok,aH] at h;rw [E.tk,gW,gW,rK,gW];exact ⟨fun h=>(by cases h),fun _=>av,E.zx a h.2,fun _=>av,pV⟩
 | .call s l,h=>by
  simp only [E.ok,aH] at h;rw [E.tk,gW,gW,rK,gW];exact ⟨fun h=>(by cases h),fun _=>av,(E.Nv l h.2).1,fun _=>av,pV⟩
 | .un s a,h=>by
  simp only [E.ok,aH,Bool.or_eq_true,beq_iff_eq] at h;rw [E.tk,gW];exact ⟨fun _=>(by rcases h.1 with (h | h) | h <;> (simp only [kS,h];decide)),yR (E.zx a h.2)⟩
 | .bin s a b,h=>by
  simp only [E.ok,aH] at h;rw [E.tk,rK,gW];exact ⟨yR (E.zx a h.1.2),fun _ h0=>(by simp only [kS] at h0;rw [h0] at h;exact absurd h.1.1 av),yR (E.zx b h.2)⟩
theorem E.Nv:∀ (l:List E),E.db l=true->rJ (E.nJ l)/\rJ (E.qM l)
 | [],_=>by rw [E.nJ,E.qM];exact ⟨pV,pV⟩
 | a::l,h=>by
  simp only [E.db,aH] at h;have L:=E.zx a h.1;have I:=E.Nv l h.2;rw [E.nJ,E.qM,rK,gW,rK];exact ⟨⟨L,I.2⟩,fun _=>av,L,I.2⟩
end
theorem K8 {ts:List Tok} {k:Nat} {s:ae} (h:∀ t,ts[k]?=some t->t.kind=3->t.s≠s) (hs:s≠[]):sign ts k≠s:=by
 unfold sign
 cases hk:ts[k]? with
 | none=>exact fun h=>hs h.symm
 | some t =>
  simp only [bz];split
  ·rename_i h3;exact h t hk h3
  ·exact fun h=>hs h.symm
theorem Hu {a:E} {A:List Tok} {w:Tok} (ho:a.ok=true) (h5:A.map kf=a.tk) (hw:w.s≠[61]):sign (A++w::rest) 1≠[61]:=by
 obtain ⟨k0,r0,hh,_⟩:=E.head a ho;refine K8 (fun t ht h3 ui=>?_) av
 have hlen:1<=A.length:=by
  have:=congrArg List.length h5;rw [hh] at this;simp at this;omega
 rw [getElem?_append] at ht;split at ht
 ·have hm:kf t∈a.tk:=by rw [<-h5];exact List.mem_map_of_mem (bF ht)
  exact E.zx a ho _ hm h3 ui
 ·have:1 - A.length=0:=by omega
  rw [this] at ht;cases ht;exact hw ui
theorem RY (a:E):rX (.do_ a):=by
 intro e d ts rest ho ht _;simp only [S.ok] at ho;rw [S.tk] at ht;obtain ⟨A,B,rfl,h5,h6⟩:=dx ht;obtain ⟨w,rfl,h7⟩:=iO h6;obtain ⟨h7,lB⟩:=eC h7
 have he:A++[w]++rest=A++w::rest:=by simp
 have hx:=E.xx (e:=e) (d:=d+1) (rest:=w::rest) ho h5 (uB h7 lB) (by simp);have BG:=Hu (rest:=rest) (w:=w) ho h5 (by rw [lB];decide);obtain ⟨k0,r0,hh,hf⟩:=E.head a ho;obtain ⟨t,r,rfl,h8,_⟩:=map_cons (by rw [<-hh];exact h5);rw [he,S.fit];rw [cons_append] at hx BG |-;have hfs:=AF (r:=r++w::rest) (by rw [h8];exact hf)
 have bY:¬ (t.kind=2/\sign (t::(r++w::rest)) 1=[61]):=fun h=>BG h.2
 have cV:∀ s:ae,s=ia\/s=eo\/s=dQ\/s=dz->sign (t::(r++w::rest)) 0≠s:=by
  intro s hs;rcases hfs with h | h | h | h | h <;> rcases hs with rfl | rfl | rfl | rfl <;> (rw [h];decide)
 refine qj fun hd=>⟨fun hb=>?_,fun hb=>?_⟩
 ·obtain ⟨t',k1,k2⟩:=hx.1 hb;refine ⟨one 12 t.at_ [] [t'],by show er _=_;rw [ed,aS,k1,S.tree];rfl,sS fun f=>?_⟩;rw [rs,M aq];simp only;rw [M (cV _ (by simp)),M (fun h=>h.elim (cV _ (by simp)) (cV _ (by simp))),M (cV _ (by simp))];simp only [simple];rw [M bY,k2];simp only;rw [M (fun h=>by have:=h.2.2;rw [uB h7 lB] at this;revert this;decide),rH h7 lB]
 ·obtain ⟨pos,k1⟩:=hx.2 hb;refine ⟨pos,sS fun f=>?_⟩;rw [rs,M aq];simp only;rw [M (cV _ (by simp)),M (fun h=>h.elim (cV _ (by simp)) (cV _ (by simp))),M (cV _ (by simp))];simp only [simple];rw [M bY,k1]
theorem Yc {s:ae} {a:E} {t u w:Tok} {A:List Tok} {sg:ae} (hn:bt s=true) (ho:a.ok=true) (L:t.kind=2) (c7:t.s=s) (h3:u.kind=3) (kX:u.s=[91]) (h5:A.map kf=a.tk) (h7:w.kind=3) (lB:w.s=[93]) (hs:sign rest 0=sg) (o9:sg=[]\/sg=[41]\/sg=[93]\/sg=[44]\/sg=[59]\/sg=[61]) :
  Xx e d (t::u::(A++w::rest)) rest (fun x=>er x=(E.at_ s a).tree/\x.n.kind=3/\x.n.at_=t.at_/\x.n.s=s/\∃ y,x.kids=[y]/\er y=a.tree) (qt (.at_ s a) d):=by
 have hl:t.s.length<=12:=by rw [c7];exact nj hn
 have hx:=(core a).rx (e:=e) (d:=d+1+1) (rest:=w::rest) (s:=[93]) ho h5 (uB h7 lB) (by simp)
 have hro:Ro e (d+1) (t::u::(A++w::rest)) rest (fun x=>er x=(E.at_ s a).tree/\x.n.kind=3/\x.n.at_=t.at_/\x.n.s=s/\∃ y,x.kids=[y]/\er y=a.tree) ((E.at_ s a).fit (d+1)):=by
  rw [E.fit,Bool.and_assoc]
  refine tG fun hd=>⟨fun hb=>?_,fun hb=>?_⟩
  ·obtain ⟨t',k1,k2⟩:=hx.1 hb;exact ⟨one 3 t.at_ t.s [t'],⟨by rw [ed,aS,k1,c7,E.tree];rfl,rfl,rfl,c7,_,rfl,k1⟩,Ev.ix hd L hl h3 kX h7 lB k2⟩
  ·obtain ⟨pos,k1⟩:=hx.2 hb;exact ⟨pos,Ev.XS hd L hl h3 kX k1⟩
 exact ((hro.rt (aM 9) (Ek hs o9)).rx (Ce hs o9)).xx
theorem OT (s:ae) (a b:E):rX (.put s a b):=by
 intro e d ts rest ho ht _;simp only [S.ok,aH] at ho;rw [S.tk] at ht;obtain ⟨t,r,rfl,L,I⟩:=map_cons ht;obtain ⟨u,r,rfl,h3,h4⟩:=map_cons I;obtain ⟨A,B,rfl,h5,h6⟩:=dx h4;obtain ⟨w,r,rfl,h7,h8⟩:=map_cons h6;obtain ⟨q,r,rfl,h9,mc⟩:=map_cons h8;obtain ⟨B,C,rfl,pz,o0⟩:=dx mc;obtain ⟨z,rfl,fm⟩:=iO o0;obtain ⟨L,c7⟩:=qE L;obtain ⟨h3,kX⟩:=eC h3;obtain ⟨h7,lB⟩:=eC h7;obtain ⟨h9,DH⟩:=eC h9;obtain ⟨fm,AH⟩:=eC fm
 have he:t::u::(A++w::q::(B++[z]))++rest=t::u::(A++w::(q::(B++z::rest))):=by simp
 have UL:=uB (rest:=B++z::rest) h9 DH;have hx:=Yc (e:=e) (d:=d+1) (rest:=q::(B++z::rest)) ho.1 ho.2.1 L c7 h3 kX h5 h7 lB UL (by simp);have hv:=vY (e:=e) (d:=d+1) (rest:=rest) ho.2.2 pz h9 DH fm AH (by simp);rw [he,S.fit]
 have bY:¬ (t.kind=2/\sign (t::u::(A++w::(q::(B++z::rest)))) 1=[61]):=fun h=>by
  have:=h.2;simp only [sign,List.getElem?_cons_succ,getElem?_cons_zero,bz,h3,if_true,kX] at this
  revert this;decide
 have cV:∀ s:ae,s≠[]->sign (t::u::(A++w::(q::(B++z::rest)))) 0≠s:=fun s hs=>jt L hs
 refine qj fun hd=>?_
 cases hfa:qt (.at_ s a) (d+1) with
 | false =>
  refine ⟨fun hb=>(by cases hb),fun _=>?_⟩;obtain ⟨pos,k1⟩:=hx.2 hfa;refine ⟨pos,sS fun f=>?_⟩;rw [rs,M aq];simp only;rw [M (cV _ av),M (fun h=>h.elim (cV _ av) (cV _ av)),M (cV _ av)];simp only [simple];rw [M bY,k1]
 | true =>
  obtain ⟨x,⟨_,k1,k2,k3,y,k4,k5⟩,k6⟩:=hx.1 hfa;refine ⟨fun hb=>?_,fun hb=>?_⟩
  ·obtain ⟨v,k7,k8⟩:=hv.1 (by simpa using hb);refine ⟨one 8 t.at_ s [y,v],by show er _=_;rw [ed,aS,aS,k5,k7,S.tree];rfl,sS fun f=>?_⟩;rw [rs,M aq];simp only;rw [M (cV _ av),M (fun h=>h.elim (cV _ av) (cV _ av)),M (cV _ av)];simp only [simple];rw [M bY,k6];simp only;rw [ab ⟨k1,k2,UL⟩,k8];simp only;rw [k3,k4];rfl
  ·obtain ⟨pos,k7⟩:=hv.2 (by simpa using hb);refine ⟨pos,sS fun f=>?_⟩;rw [rs,M aq];simp only;rw [M (cV _ av),M (fun h=>h.elim (cV _ av) (cV _ av)),M (cV _ av)];simp only [simple];rw [M bY,k6];simp only;rw [ab ⟨k1,k2,UL⟩,k7]
end
end Go.Xp
