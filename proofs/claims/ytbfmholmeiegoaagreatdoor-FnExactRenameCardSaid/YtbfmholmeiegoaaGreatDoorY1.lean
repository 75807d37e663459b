/- Part 1 of proofs that are told in their last texts. -/
open List (cons_append getElem?_append getElem?_cons_zero getElem?_eq_none length_cons mem_map nil_append tail_cons)
set_option linter.unusedVariables false
set_option linter.unusedSimpArgs false
set_option maxRecDepth 100000
namespace Go
theorem aq {A:Prop} (s:A:=by omega):A:=s
theorem aw {A:Prop} (s:A:=by decide):A:=s
theorem bo {α:Type _} {l:List α} {i:Nat} {a:α} (h:l[i]?=some a):∃ (h:i<l.length),l[i]=a:=List.getElem?_eq_some_iff.1 h
theorem de {α:Type _} {a b:α} {l:List α} (h:a∈b::l):a=b\/a∈l:=List.mem_cons.1 h
theorem nA {α:Type _} {a:α} {s t:List α} (h:a∈s++t):a∈s\/a∈t:=List.mem_append.1 h
theorem sP {α:Type _} {a b:α} (h:a∈[b]):a=b:=List.mem_singleton.1 h
theorem qG {α:Type _} {l:List α} {i:Nat} (h:l[i]?=none):l.length<=i:=List.getElem?_eq_none_iff.1 h
theorem L:type_of% @if_neg:=@if_neg
theorem ab:type_of% @if_pos:=@if_pos
theorem aC:type_of% @Bool.and_eq_true:=@Bool.and_eq_true
theorem bA:type_of% @List.mem_of_getElem?:=@List.mem_of_getElem?
theorem aO:type_of% @List.length_append:=@List.length_append
theorem aE:type_of% @Nat.le_refl:=@Nat.le_refl
theorem aP:type_of% @List.getElem?_map:=@List.getElem?_map
theorem aM:type_of% @Nat.zero_le:=@Nat.zero_le
theorem dO:type_of% @List.getElem?_eq_getElem:=@List.getElem?_eq_getElem
theorem bP:type_of% @List.length_map:=@List.length_map
theorem iC:type_of% @List.eq_nil_of_length_eq_zero:=@List.eq_nil_of_length_eq_zero
theorem cq:type_of% @List.take_add_one:=@List.take_add_one
theorem fq:type_of% @Nat.le_of_ble_eq_true:=@Nat.le_of_ble_eq_true
theorem bW:type_of% @List.take_length:=@List.take_length
theorem cS:type_of% @List.append_assoc:=@List.append_assoc
theorem cI:type_of% @Nat.zero_add:=@Nat.zero_add
theorem dw:type_of% @List.mem_cons_of_mem:=@List.mem_cons_of_mem
theorem fa:type_of% @List.getElem?_append_right:=@List.getElem?_append_right
theorem cX:type_of% @List.length_take:=@List.length_take
theorem cY:type_of% @List.append_nil:=@List.append_nil
theorem fO:type_of% @List.getElem?_append_left:=@List.getElem?_append_left
theorem dx:type_of% @List.getElem?_set:=@List.getElem?_set
theorem jE:type_of% @List.length_zipWith:=@List.length_zipWith
theorem gn:type_of% @Nat.add_assoc:=@Nat.add_assoc
theorem gT:type_of% @Nat.sub_self:=@Nat.sub_self
theorem ju:type_of% @List.drop_eq_getElem_cons:=@List.drop_eq_getElem_cons
theorem kz:type_of% @List.take_of_length_le:=@List.take_of_length_le
theorem kA:type_of% @Nat.le_trans:=@Nat.le_trans
theorem jv:type_of% @List.length_drop:=@List.length_drop
theorem uk:type_of% @Option.some.inj:=@Option.some.inj
theorem gU:type_of% @List.map_append:=@List.map_append
theorem ij:type_of% @List.contains_iff_mem:=@List.contains_iff_mem
theorem nW:type_of% @of_decide_eq_true:=@of_decide_eq_true
theorem gV:type_of% @List.all_eq_true:=@List.all_eq_true
theorem pM:type_of% @Int.toNat_natCast:=@Int.toNat_natCast
theorem rT:type_of% @Nat.mul_le_mul_right:=@Nat.mul_le_mul_right
theorem yD:type_of% @Nat.lt_of_lt_of_le:=@Nat.lt_of_lt_of_le
theorem mP:type_of% @mem_map:=@mem_map
theorem nX:type_of% @List.any_eq_true:=@List.any_eq_true
end Go
namespace Go.Xp
abbrev ae:=List UInt8
structure Tok where
 kind:Int
 n:Int
 s:ae
 at_:Int
structure Nd where
 kind:Int
 at_:Int
 n:Int
 s:ae
 kids:List Int
inductive T where
 | mk (n:Nd) (kids:List T)
def T.n:T->Nd | .mk n _=>n
def T.kids:T->List T | .mk _ k=>k
abbrev Er:=Int × Int
abbrev Rd (α:Type):=Except Er (α × List Tok)
def bH (t:Tok):ae:=if t.kind=3 then t.s else []
def sign (ts:List Tok) (k:Nat):ae:=match ts[k]? with | some t=>bH t | none=>[]
def place (e:Int):List Tok->Int
 | t::_=>t.at_
 | []=>e
def aW (e:Int) (s:ae) (ts:List Tok):Except Er (List Tok) :=
 if sign ts 0=s then .ok ts.tail else .error (7,place e ts)
def name (e:Int):List Tok->Rd ae
 | []=>.error (7,e)
 | t::r=>if t.kind=2 then (if t.s.length > 12 then .error (8,t.at_) else .ok (t.s,r)) else .error (7,t.at_)
def one (kind at_:Int) (s:ae) (kids:List T):T:=.mk ⟨kind,at_,0,s,[]⟩ kids
def levels:List (List ae):=[[[124,124]],[[38,38]],[[61,61],[33,61],[60],[62],[60,61],[62,61]],[[124]],[[94]],[[38]],[[60,60],[62,62]],[[43],[45]],[[42],[47],[37]]]
def bd:Er:=(-1,-1)
inductive pY where
 | expr (deep:Nat)
 | level (k deep:Nat)
 | loop (k deep:Nat) (out:T)
 | operand (deep:Nat)
def rd (e:Int):Nat->pY->List Tok->Rd T
 | 0,_,_=>.error bd
 | f+1,.expr deep,ts=>if deep > 60 then .error (9,place e ts) else rd e f (.level 0 (deep+1)) ts
 | f+1,.level k deep,ts =>
  if k=9 then rd e f (.operand deep) ts
  else match rd e f (.level (k+1) deep) ts with
   | .error x=>.error x
   | .ok (out,ts)=>rd e f (.loop k deep out) ts
 | f+1,.loop k deep out,ts =>
  match ts with
  | []=>.ok (out,ts)
  | t::r =>
   if t.kind=3/\t.s∈levels.getD k [] then
    match rd e f (.level (k+1) deep) r with
    | .error x=>.error x
    | .ok (b,r)=>rd e f (.loop k deep (one 6 t.at_ t.s [out,b])) r
   else .ok (out,ts)
 | f+1,.operand deep,ts =>
  if deep > 60 then .error (9,place e ts)
  else match ts with
  | []=>.error (7,e)
  | t::r =>
   if t.kind=3 then
    if t.s=[45]\/t.s=[33]\/t.s=[126] then
     match rd e f (.operand (deep+1)) r with
     | .error x=>.error x
     | .ok (a,r)=>.ok (one 5 t.at_ t.s [a],r)
    else if t.s=[40] then
     match rd e f (.expr (deep+1)) r with
     | .error x=>.error x
     | .ok (a,r)=>match aW e [41] r with
      | .error x=>.error x
      | .ok r=>.ok (a,r)
    else .error (7,t.at_)
   else if t.kind=1 then .ok (.mk ⟨1,t.at_,t.n,[],[]⟩ [],r)
   else match name e ts with
    | .error x=>.error x
    | .ok (s,r) =>
     if sign r 0=[91] then
      match rd e f (.expr (deep+1)) r.tail with
      | .error x=>.error x
      | .ok (a,r)=>match aW e [93] r with
       | .error x=>.error x
       | .ok r=>.ok (one 3 t.at_ s [a],r)
     else if sign r 0=[40] then
      match args e f (deep+1) [] r.tail with
      | .error x=>.error x
      | .ok (l,r)=>.ok (one 4 t.at_ s l,r)
     else .ok (one 2 t.at_ s [],r)
where
 args (e:Int):Nat->Nat->List T->List Tok->Rd (List T)
  | 0,_,_,_=>.error bd
  | f+1,deep,acc,ts =>
   if sign ts 0=[41] then .ok (acc,ts.tail)
   else match (if acc=[] then .ok ts else aW e [44] ts) with
    | .error x=>.error x
    | .ok ts=>match rd e f (.expr deep) ts with
     | .error x=>.error x
     | .ok (a,ts)=>args e f deep (acc++[a]) ts
def ja:ae:=[118,97,114]
def eP:ae:=[105,102]
def fi:ae:=[101,108,115,101]
def en:ae:=[119,104,105,108,101]
def dV:ae:=[114,101,116,117,114,110]
def mK:ae:=[105,110,116]
def od:ae:=[102,117,110,99]
inductive si where
 | block (deep:Nat)
 | stmt (deep:Nat)
def nZ (ts:List Tok):Nat:=20 * ts.length+20
def expr (e:Int) (deep:Nat) (ts:List Tok):Rd T:=rd e (nZ ts) (.expr deep) ts
def inner (e:Int) (deep:Nat) (a b:ae) (ts:List Tok):Rd T :=
 match aW e a ts with
 | .error x=>.error x
 | .ok ts=>match expr e deep ts with
  | .error x=>.error x
  | .ok (t,ts)=>match aW e b ts with
   | .error x=>.error x
   | .ok ts=>.ok (t,ts)
def mj (e:Int) (deep:Nat) (ts:List Tok):Rd (ae × T) :=
 match name e ts with
 | .error x=>.error x
 | .ok (s,ts)=>match inner e deep [61] [59] ts with
  | .error x=>.error x
  | .ok (t,ts)=>.ok ((s,t),ts)
def simple (e:Int) (deep:Nat) (ts:List Tok):Rd T :=
 match ts with
 | []=>match expr e (deep+1) [] with
  | .error x=>.error x
  | .ok _=>.error (7,e)
 | t::_ =>
  if t.kind=2/\sign ts 1=[61] then
   match mj e (deep+1) ts with
   | .error x=>.error x
   | .ok ((s,a),ts)=>.ok (one 7 t.at_ s [a],ts)
  else match expr e (deep+1) ts with
   | .error x=>.error x
   | .ok (a,ts) =>
    if a.n.kind=3/\a.n.at_=t.at_/\sign ts 0=[61] then
     match inner e (deep+1) [61] [59] ts with
     | .error x=>.error x
     | .ok (v,ts)=>.ok (one 8 t.at_ a.n.s (a.kids.take 1++[v]),ts)
    else match aW e [59] ts with
     | .error x=>.error x
     | .ok ts=>.ok (one 12 t.at_ [] [a],ts)
def rs (e:Int):Nat->si->List Tok->Rd T
 | 0,_,_=>.error bd
 | f+1,.block deep,ts =>
  if deep > 60 then .error (9,place e ts)
  else match aW e [123] ts with
   | .error x=>.error x
   | .ok r=>match body e f (deep+1) [] r with
    | .error x=>.error x
    | .ok (l,r)=>.ok (one 14 (place e ts) [] l,r)
 | f+1,.stmt deep,ts =>
  if deep > 60 then .error (9,place e ts)
  else
   let at_:=place e ts
   if sign ts 0=ja then
    match mj e (deep+1) ts.tail with
    | .error x=>.error x
    | .ok ((s,a),ts)=>.ok (one 13 at_ s [a],ts)
   else if sign ts 0=eP\/sign ts 0=en then
    match inner e (deep+1) [40] [41] ts.tail with
    | .error x=>.error x
    | .ok (c,r)=>match rs e f (.block (deep+1)) r with
     | .error x=>.error x
     | .ok (b,r) =>
      if sign ts 0=eP then
       if sign r 0=fi then
        match rs e f (.block (deep+1)) r.tail with
        | .error x=>.error x
        | .ok (b2,r)=>.ok (one 9 at_ [] [c,b,b2],r)
       else .ok (one 9 at_ [] [c,b],r)
      else .ok (one 10 at_ [] [c,b],r)
   else if sign ts 0=dV then
    match expr e (deep+1) ts.tail with
    | .error x=>.error x
    | .ok (a,ts)=>match aW e [59] ts with
     | .error x=>.error x
     | .ok ts=>.ok (one 11 at_ [] [a],ts)
   else simple e deep ts
where
 body (e:Int):Nat->Nat->List T->List Tok->Rd (List T)
  | 0,_,_,_=>.error bd
  | f+1,deep,acc,ts =>
   if sign ts 0=[125] then .ok (acc,ts.tail)
   else match rs e f (.stmt deep) ts with
    | .error x=>.error x
    | .ok (a,ts)=>body e f deep (acc++[a]) ts
def block (e:Int) (deep:Nat) (ts:List Tok):Rd T:=rs e (nZ ts) (.block deep) ts
structure Ar where
 name:ae
 size:Int
structure aJ where
 name:ae
 params:List ae
 tree:T
end Go.Xp
namespace Go.Sp
open Go.Xp
structure RS where
 l:List Tok
 i:Nat
 e:Int
 code:Int
 at_:Int
def RS.ok (p:RS):Prop:=p.i<=p.l.length/\p.l.length<=1099511627776
def RS.place (p:RS):Int:=match p.l[p.i]? with | some t=>t.at_ | none=>p.e
def RS.fail (p:RS) (c a:Int):RS:=if p.code=0 then ⟨p.l,p.i,p.e,c,a⟩ else p
def RS.sign (p:RS) (k:Nat):ae:=if p.code=0 then (match p.l[p.i+k]? with | some t=>bH t | none=>[]) else []
def RS.next (p:RS):RS:=⟨p.l,p.i+1,p.e,p.code,p.at_⟩
def RS.aW (p:RS) (s:ae):RS:=if p.sign 0=s then p.next else p.fail 7 p.place
def RS.name (p:RS):ae × RS :=
 if p.code=0 then match p.l[p.i]? with
  | some t=>if t.kind=2 then (if t.s.length > 12 then ([],p.fail 8 t.at_) else (t.s,p.next)) else ([],p.fail 7 p.place)
  | none=>([],p.fail 7 p.place)
 else ([],p)
def RS.deep (p:RS) (d:Nat):RS:=if d > 60 then p.fail 9 p.place else p
def T.zero:T:=.mk ⟨0,0,0,[],[]⟩ []
inductive J where
 | expr (d:Nat)
 | level (k d:Nat)
 | loop (k d:Nat) (out:T)
 | operand (d:Nat)
 | named (at_:Int) (s:ae) (d:Nat)
mutual
def mE:Nat->J->RS->Option (T × RS)
 | 0,_,_=>none
 | f+1,.expr d,p=>mE f (.level 0 d) (p.deep d)
 | f+1,.level k d,p =>
  if k=9 then mE f (.operand (d+1)) p
  else match mE f (.level (k+1) d) p with
   | none=>none
   | some (out,p)=>mE f (.loop k d out) p
 | f+1,.loop k d out,p =>
  if p.code=0/\(levels.getD k []).contains (p.sign 0)=true then
   match p.l[p.i]? with
   | none=>none
   | some t=>match mE f (.level (k+1) d) p.next with
    | none=>none
    | some (b,p)=>mE f (.loop k d (one 6 t.at_ t.s [out,b])) p
  else some (out,p)
 | f+1,.operand d,p =>
  let p:=p.deep d
  if p.code=0 then match p.l[p.i]? with
   | none=>some (T.zero,p.fail 7 p.place)
   | some t =>
    if t.kind=1 then some (.mk ⟨1,t.at_,t.n,[],[]⟩ [],p.next)
    else if t.kind=2 then mE f (.named t.at_ p.name.1 d) p.name.2
    else if t.s=[45]\/t.s=[33]\/t.s=[126] then match mE f (.operand (d+1)) p.next with
     | none=>none
     | some (a,p)=>some (one 5 t.at_ t.s [a],p)
    else if t.s=[40] then match mE f (.expr (d+1)) p.next with
     | none=>none
     | some (a,p)=>some (a,p.aW [41])
    else some (T.zero,p.fail 7 t.at_)
  else some (T.zero,p.fail 7 p.place)
 | f+1,.named at_ s d,p =>
  if p.sign 0=[91] then match mE f (.expr (d+1)) p.next with
   | none=>none
   | some (a,p)=>some (one 3 at_ s [a],p.aW [93])
  else if p.sign 0=[40] then match mL f (d+1) p.next with
   | none=>none
   | some (l,p)=>some (one 4 at_ s l,p)
  else some (one 2 at_ s [],p)
def mL:Nat->Nat->RS->Option (List T × RS)
 | 0,_,_=>none
 | f+1,d,p=>if p.sign 0=[41] then some ([],p.aW [41]) else match mE f (.expr d) p with
  | none=>none
  | some (a,p)=>u9 f d [a] p
def u9:Nat->Nat->List T->RS->Option (List T × RS)
 | 0,_,_,_=>none
 | f+1,d,acc,p=>if p.sign 0=[44] then match mE f (.expr d) p.next with
   | none=>none
   | some (a,p)=>u9 f d (acc++[a]) p
  else some (acc,p.aW [41])
end
def RS.oZ (p:RS):Bool:=match p.l[p.i]? with | some t=>decide (t.kind=2) | none=>false
def RS.ck (p:RS):Int:=if p.sign 0=eP then 9 else 10
inductive JS where
 | block (d:Nat)
 | stmt (d:Nat)
 | cond (at_:Int) (d:Nat)
def fe (p:RS):Nat:=100 * p.l.length+2000
def mX (d:Nat) (p:RS):Option (T × RS):=mE (fe p) (.expr d) p
mutual
def mS:Nat->JS->RS->Option (T × RS)
 | 0,_,_=>none
 | f+1,.block d,p =>
  let p:=p.deep d
  match mB f (d+1) [] (p.aW [123]) with
  | none=>none
  | some (l,q)=>some (one 14 p.place [] l,q.aW [125])
 | f+1,.stmt d,p =>
  let p:=p.deep d
  let at_:=p.place
  let s:=p.sign 0
  if s=ja then match mX (d+1) ((p.next.name.2).aW [61]) with
   | none=>none
   | some (e,q)=>some (one 13 at_ p.next.name.1 [e],q.aW [59])
  else if s=eP\/s=en then mS f (.cond at_ d) p
  else if s=dV then match mX (d+1) p.next with
   | none=>none
   | some (e,q)=>some (one 11 at_ [] [e],q.aW [59])
  else if p.code=0/\p.oZ=true/\p.sign 1=[61] then match mX (d+1) (p.name.2.aW [61]) with
   | none=>none
   | some (e,q)=>some (one 7 at_ p.name.1 [e],q.aW [59])
  else match mX (d+1) p with
   | none=>none
   | some (e,q) =>
    if e.n.kind=3/\e.n.at_=at_/\q.sign 0=[61] then match e.kids,mX (d+1) q.next with
     | a::_,some (v,q)=>some (one 8 at_ e.n.s [a,v],q.aW [59])
     | _,_=>none
    else some (one 12 at_ [] [e],q.aW [59])
 | f+1,.cond at_ d,p =>
  match mX (d+1) (p.next.aW [40]) with
  | none=>none
  | some (e,q)=>match mS f (.block (d+1)) (q.aW [41]) with
   | none=>none
   | some (b,q) =>
    if p.ck=9/\q.sign 0=fi then match mS f (.block (d+1)) q.next with
     | none=>none
     | some (b2,q)=>some (one p.ck at_ [] [e,b,b2],q)
    else some (one p.ck at_ [] [e,b],q)
def mB:Nat->Nat->List T->RS->Option (List T × RS)
 | 0,_,_,_=>none
 | f+1,d,acc,p=>if p.code=0/\¬ p.sign 0=[125] then match mS f (.stmt d) p with
   | none=>none
   | some (a,p)=>mB f d (acc++[a]) p
  else some (acc,p)
end
theorem gR {p:RS} {k:Nat} {s:ae} (h:p.sign k=s) (hs:s≠[]):p.i+k < p.l.length/\p.code=0:=by
 unfold RS.sign at h;split at h
 ·rename_i hc;refine ⟨Nat.lt_of_not_le fun hn=>?_,hc⟩;rw [List.getElem?_eq_none_iff.2 hn] at h;exact hs h.symm
 ·exact absurd h.symm hs
def RS.to (p q:RS):Prop:=q.l=p.l/\q.e=p.e/\q.i<=q.l.length/\p.i<=q.i
theorem RS.to.ok {p q:RS} (h:p.to q) (hp:p.ok):q.ok:=⟨h.2.2.1,by rw [h.1];exact hp.2⟩
theorem RS.to.trans {p q r:RS} (h:p.to q) (k:q.to r):p.to r:=⟨k.1.trans h.1,k.2.1.trans h.2.1,k.2.2.1,kA h.2.2.2 k.2.2.2⟩
theorem lg {p:RS} (hp:p.ok):p.to p:=⟨rfl,rfl,hp.1,aE _⟩
theorem np {p:RS} (hp:p.ok) (c a:Int):p.to (p.fail c a):=by
 unfold RS.fail;split
 ·exact ⟨rfl,rfl,hp.1,aE _⟩
 ·exact lg hp
theorem ep {p:RS} (h:p.i < p.l.length):p.to p.next:=⟨rfl,rfl,h,Nat.le_succ _⟩
theorem gz {p:RS} (hp:p.ok) {s:ae} (hs:s≠[]):p.to (p.aW s):=by
 unfold RS.aW;split
 ·rename_i h;exact ep (by have:=(gR h hs).1;omega)
 ·exact np hp _ _
theorem sK {p:RS} (hp:p.ok):p.to p.name.2:=by
 unfold RS.name;split
 ·cases ht:p.l[p.i]? with
  | none=>exact np hp _ _
  | some t =>
   simp only;have ak:=(bo ht).1;split
   ·split
    ·exact np hp _ _
    ·exact ep ak
   ·exact np hp _ _
 ·exact lg hp
theorem pK {p:RS} (hp:p.ok) (d:Nat):p.to (p.deep d):=by
 unfold RS.deep;split
 ·exact np hp _ _
 ·exact lg hp
theorem kx {p:RS} {s:ae} (h:p.sign 0=s) (hs:s≠[]):p.to p.next:=ep (by have:=(gR h hs).1;omega)
theorem vN:∀ (f:Nat),(∀ j p t q,p.ok->mE f j p=some (t,q)->p.to q)/\(∀ d p l q,p.ok->mL f d p=some (l,q)->p.to q)/\(∀ d acc p l q,p.ok->u9 f d acc p=some (l,q)->p.to q)
 | 0=>⟨fun j p t q _ h=>by simp [mE] at h,fun d p l q _ h=>by simp [mL] at h,fun d acc p l q _ h=>by simp [u9] at h⟩
 | f+1=>by
  obtain ⟨F,I,h3⟩:=vN f;refine ⟨fun j p t q hp h=>?_,fun d p l q hp h=>?_,fun d acc p l q hp h=>?_⟩
  ·cases j with
   | expr d=>rw [mE] at h;exact (pK hp d).trans (F _ _ _ _ ((pK hp d).ok hp) h)
   | level k d =>
    rw [mE] at h;split at h
    ·exact F _ _ _ _ hp h
    ·split at h
     ·cases h
     ·rename_i out p' he;have:=F _ _ _ _ hp he;exact this.trans (F _ _ _ _ (this.ok hp) h)
   | loop k d out =>
    rw [mE] at h;split at h
    ·split at h
     ·cases h
     ·rename_i t' ht;have hn:=ep (p:=p) (bo ht).1;split at h
      ·cases h
      ·rename_i b p' he;have:=hn.trans (F _ _ _ _ (hn.ok hp) he);exact this.trans (F _ _ _ _ (this.ok hp) h)
    ·cases h;exact lg hp
   | operand d =>
    rw [mE] at h;have hd:=pK hp d;have l6:=hd.ok hp;refine hd.trans ?_;generalize p.deep d=p at *
    try simp only at h
    split at h
    ·split at h
     ·cases h;exact np l6 _ _
     ·rename_i t' ht;have hn:=ep (p:=p) (bo ht).1;split at h
      ·cases h;exact hn
      ·split at h
       ·exact (sK l6).trans (F _ _ _ _ ((sK l6).ok l6) h)
       ·split at h
        ·split at h
         ·cases h
         ·rename_i a p' he
          cases h;exact hn.trans (F _ _ _ _ (hn.ok l6) he)
        ·split at h
         ·split at h
          ·cases h
          ·rename_i a p' he;have:=hn.trans (F _ _ _ _ (hn.ok l6) he)
           cases h;exact this.trans (gz (this.ok l6) aw)
         ·cases h;exact np l6 _ _
    ·cases h;exact np l6 _ _
   | named a s d =>
    rw [mE] at h;split at h
    ·rename_i hs;have hn:=kx hs aw;split at h
     ·cases h
     ·rename_i a' p' he;have:=hn.trans (F _ _ _ _ (hn.ok hp) he)
      cases h;exact this.trans (gz (this.ok hp) aw)
    ·split at h
     ·rename_i hs;have hn:=kx hs aw;split at h
      ·cases h
      ·rename_i a' p' he
       cases h;exact hn.trans (I _ _ _ _ (hn.ok hp) he)
     ·cases h;exact lg hp
  ·rw [mL] at h;split at h
   ·cases h;exact gz hp aw
   ·split at h
    ·cases h
    ·rename_i a p' he;have:=F _ _ _ _ hp he;exact this.trans (h3 _ _ _ _ _ (this.ok hp) h)
  ·rw [u9] at h;split at h
   ·rename_i hs;have hn:=kx hs aw;split at h
    ·cases h
    ·rename_i a p' he;have:=hn.trans (F _ _ _ _ (hn.ok hp) he);exact this.trans (h3 _ _ _ _ _ (this.ok hp) h)
   ·cases h;exact gz hp aw
def small (c:UInt8):Bool:=decide ((97:Int)<=(c.toNat:Int))&&decide ((c.toNat:Int)<=122)
def eV (c:UInt8):Bool:=decide ((48:Int)<=(c.toNat:Int))&&decide ((c.toNat:Int)<=57)
def dR (c:UInt8):Bool:=small c || (decide ((65:Int)<=(c.toNat:Int))&&decide ((c.toNat:Int)<=90)) || eV c || ((c.toNat:Int)==95)
def eE (c:UInt8):Bool:=((c.toNat:Int)==32) || ((c.toNat:Int)==9) || ((c.toNat:Int)==10) || ((c.toNat:Int)==13)
def bS (s:ae) (at_:Nat) (t:ae):Bool:=decide (at_+t.length<=s.length)&&((s.take (at_+t.length)).drop at_==t)
def fQ (s:ae):Nat->Nat->Nat
 | 0,e=>e
 | f+1,e=>if e < s.length/\bS s e [42,47]=false then fQ s f (e+1) else e
def skip (s:ae):Nat->Nat->Nat × Int
 | 0,at_=>(at_,-1)
 | f+1,at_=>match s[at_]? with
  | none=>(at_,-1)
  | some c =>
   if eE c=true then skip s f (at_+1)
   else if bS s at_ [47,42]=true then
    let e:=fQ s s.length (at_+2)
    if s.length<=e then (at_,(at_:Int)) else skip s f (e+2)
   else (at_,-1)
theorem kQ {s t:ae} {a:Nat} (h:bS s a t=true):a+t.length<=s.length:=by
 simp only [bS,aC,decide_eq_true_eq] at h;exact h.1
theorem uc (s:ae):∀ (f e:Nat),e<=s.length->e<=fQ s f e/\fQ s f e<=s.length
 | 0,e,h=>⟨aE _,h⟩
 | f+1,e,h=>by
  rw [fQ];split
  ·rename_i hc;have:=uc s f (e+1) hc.1;omega
  ·exact ⟨aE _,h⟩
theorem sW (s:ae):∀ (f e:Nat),e<=s.length->s.length<=f+e->¬ (fQ s f e < s.length/\bS s (fQ s f e) [42,47]=false)
 | 0,e,h,hf=>by rw [fQ];omega
 | f+1,e,h,hf=>by
  rw [fQ];split
  ·rename_i hc;exact sW s f (e+1) hc.1 aq
  ·assumption
def number (s:ae):Nat->Int->Nat->Int × Nat
 | 0,n,a=>(n,a)
 | f+1,n,a=>match s[a]? with
  | none=>(n,a)
  | some c=>if eV c=true then number s f (if n<=2147483647 then n * 10+((c.toNat:Int) - 48) else n) (a+1) else (n,a)
def run (s:ae) (p:UInt8->Bool):Nat->Nat->Nat
 | 0,a=>a
 | f+1,a=>match s[a]? with
  | none=>a
  | some c=>if p c=true then run s p f (a+1) else a
def words:List ae:=[[105,110,116],[118,97,114],[102,117,110,99],[105,102],[101,108,115,101],[119,104,105,108,101],[114,101,116,117,114,110]]
def bZ:List ae:=[[124,124],[38,38],[61,61],[33,61],[60,61],[62,61],[60,60],[62,62],[40],[41],[123],[125],[91],[93],[44],[59],[61],[60],[62],[43],[45],[42],[47],[37],[38],[124],[94],[33],[126]]
def fB (s:ae) (a:Nat):Nat:=run s dR (s.length+1) a
def gm (s:ae) (a:Nat):ae:=(s.take (fB s a)).drop a
def jY (s:ae) (a:Nat) (c:UInt8):Tok × Nat :=
 if eV c=true then (⟨1,(number s (s.length+1) 0 a).1,[],a⟩,(number s (s.length+1) 0 a).2)
 else if small c=true then (⟨if words.contains (gm s a)=true then 3 else 2,0,gm s a,a⟩,fB s a)
 else match bZ.find? (bS s a) with
  | some x=>(⟨3,0,x,a⟩,a+x.length)
  | none=>(⟨0,0,[],0⟩,a)
def rN (s:ae):Nat->Nat->List Tok->Option (List Tok)
 | 0,_,_=>none
 | f+1,a,acc=>match s[a]? with
  | none=>some acc
  | some c=>rN s f (skip s (s.length+1) (jY s a c).2).1 (acc++[(jY s a c).1])
def jP (s:ae):Option (List Tok):=rN s (s.length+2) (skip s (s.length+1) 0).1 []
def word (s:ae):Bool:=s.all dR&&(match s with | []=>false | c::_=>small c)
def bf (s:ae):Bool:=word s&&decide (s.length<=12)&&!(words.contains s)
theorem yn (s:ae):∀ (f:Nat) (n:Int) (a:Nat),a<=s.length->s.length < f+a->(∀ c,s[(number s f n a).2]?=some c->eV c=false)/\a<=(number s f n a).2/\(number s f n a).2<=s.length
 | 0,n,a,F,I=>by omega
 | f+1,n,a,F,I=>by
  rw [number]
  cases hc:s[a]? with
  | none=>exact ⟨fun c h=>(by rw [hc] at h;cases h),aE _,F⟩
  | some c =>
   simp only;have ak:=(bo hc).1
   by_cases hd:eV c=true
   ·rw [ab hd];obtain ⟨h3,h4,h5⟩:=yn s f (if n<=2147483647 then n * 10+((c.toNat:Int) - 48) else n) (a+1) aq aq;exact ⟨h3,by omega,h5⟩
   ·rw [L hd];exact ⟨fun c' h=>(by rw [hc] at h;cases h;simpa using hd),aE _,F⟩
theorem ni (s:ae) (p:UInt8->Bool):∀ (f:Nat) (a:Nat),a<=s.length->s.length < f+a->(∀ c,s[run s p f a]?=some c->p c=false)/\a<=run s p f a/\run s p f a<=s.length
 | 0,a,F,I=>by omega
 | f+1,a,F,I=>by
  rw [run]
  cases hc:s[a]? with
  | none=>exact ⟨fun c h=>(by rw [hc] at h;cases h),aE _,F⟩
  | some c =>
   simp only;have ak:=(bo hc).1
   by_cases hd:p c=true
   ·rw [ab hd];obtain ⟨h3,h4,h5⟩:=ni s p f (a+1) aq aq;exact ⟨h3,by omega,h5⟩
   ·rw [L hd];exact ⟨fun c' h=>(by rw [hc] at h;cases h;simpa using hd),aE _,F⟩
theorem AB (s:ae):∀ (f a:Nat),a<=s.length->a<=(skip s f a).1/\(skip s f a).1<=s.length
 | 0,a,h=>⟨aE _,h⟩
 | f+1,a,h=>by
  rw [skip]
  cases hc:s[a]? with
  | none=>exact ⟨aE _,h⟩
  | some c =>
   simp only;have ak:=(bo hc).1;split
   ·have:=AB s f (a+1) ak;omega
   ·split
    ·rename_i hb;have hb:=kQ hb;have hb:a+2<=s.length:=hb;have F:=uc s s.length (a+2) hb;have I:=sW s s.length (a+2) hb aq;split
     ·exact ⟨aE _,h⟩
     ·rename_i hn
      have h3:bS s (fQ s s.length (a+2)) [42,47]=true:=by
       cases pP:bS s (fQ s s.length (a+2)) [42,47] with
       | true=>rfl
       | false=>exact absurd ⟨by omega,pP⟩ I
      have h3:=kQ h3;have h3:fQ s s.length (a+2)+2<=s.length:=h3;have:=AB s f (fQ s s.length (a+2)+2) h3;omega
    ·exact ⟨aE _,h⟩
theorem qy {d:Nat} {p q:RS} {t:T} (hp:p.ok) (h:mX d p=some (t,q)):p.to q:=(vN _).1 _ _ _ _ hp h
theorem Ms:∀ (f:Nat),(∀ j p t q,p.ok->(∀ a d,j=.cond a d->p.i < p.l.length)->mS f j p=some (t,q)->p.to q)/\(∀ d acc p l q,p.ok->mB f d acc p=some (l,q)->p.to q)
 | 0=>⟨fun j p t q _ _ h=>by simp [mS] at h,fun d acc p l q _ h=>by simp [mB] at h⟩
 | f+1=>by
  obtain ⟨F,I⟩:=Ms f
  have ey:∀ d (p:RS) t q,p.ok->mS f (.block d) p=some (t,q)->p.to q:=fun d p t q hp h=>F _ _ _ _ hp (fun a d' h=>by cases h) h
  refine ⟨fun j p t q hp oG h=>?_,fun d acc p l q hp h=>?_⟩
  ·cases j with
   | block d =>
    rw [mS] at h;have hd:=pK hp d;refine hd.trans ?_;have l6:=hd.ok hp;generalize p.deep d=p at *
    try simp only at h
    have hm:=gz l6 (s:=[123]) aw;split at h
    ·cases h
    ·rename_i l p' he;have:=hm.trans (I _ _ _ _ _ (hm.ok l6) he)
     cases h;exact this.trans (gz (this.ok l6) aw)
   | stmt d =>
    rw [mS] at h;have hd:=pK hp d;refine hd.trans ?_;have l6:=hd.ok hp;generalize p.deep d=p at *
    try simp only at h
    split at h
    ·rename_i hs;have hn:=kx hs aw;have eK:=hn.trans (sK (hn.ok l6));have lp:=eK.trans (gz (eK.ok l6) (s:=[61]) aw);split at h
     ·cases h
     ·rename_i e p' he;have:=lp.trans (qy (lp.ok l6) he)
      cases h;exact this.trans (gz (this.ok l6) aw)
    ·split at h
     ·rename_i hs;refine F _ _ _ _ l6 (fun a d' _=>?_) h
      rcases hs with hs | hs
      ·exact (gR hs aw).1
      ·exact (gR hs aw).1
     ·split at h
      ·rename_i hs;have hn:=kx hs aw;split at h
       ·cases h
       ·rename_i e p' he;have:=hn.trans (qy (hn.ok l6) he)
        cases h;exact this.trans (gz (this.ok l6) aw)
      ·split at h
       ·have eK:=sK l6;have lp:=eK.trans (gz (eK.ok l6) (s:=[61]) aw);split at h
        ·cases h
        ·rename_i e p' he;have:=lp.trans (qy (lp.ok l6) he)
         cases h;exact this.trans (gz (this.ok l6) aw)
       ·split at h
        ·cases h
        ·rename_i e p' he;have hx:=qy l6 he;split at h
         ·rename_i hs;have hn:=hx.trans (kx hs.2.2 aw);split at h
          ·rename_i a r v p2 hk qL;have:=hn.trans (qy (hn.ok l6) qL)
           cases h;exact this.trans (gz (this.ok l6) aw)
          ·cases h
         ·cases h;exact hx.trans (gz (hx.ok l6) aw)
   | cond a d =>
    rw [mS] at h;have hn:=ep (oG a d rfl);have hm:=hn.trans (gz (hn.ok hp) (s:=[40]) aw)
    try simp only at h
    split at h
    ·cases h
    ·rename_i e p' he;have hx:=hm.trans (qy (hm.ok hp) he);have A9:=hx.trans (gz (hx.ok hp) (s:=[41]) aw);split at h
     ·cases h
     ·rename_i b p2 hb;have eA:=A9.trans (ey _ _ _ _ (A9.ok hp) hb);split at h
      ·rename_i hs;have b9:=eA.trans (kx hs.2 aw);split at h
       ·cases h
       ·rename_i b2 p3 zm
        cases h;exact b9.trans (ey _ _ _ _ (b9.ok hp) zm)
      ·cases h;exact eA
  ·rw [mB] at h;split at h
   ·split at h
    ·cases h
    ·rename_i a p' he;have:=F _ _ _ _ hp (fun a d' h=>by cases h) he;exact this.trans (I _ _ _ _ _ (this.ok hp) h)
   ·cases h;exact lg hp
structure Fn where
 name:ae
 params:List ae
 body:Int
structure Src where
 globals:List ae
 arrays:List Ar
 fns:List Fn
 nodes:List Nd
def oa (k:Int):Bool:=decide ((1:Int)<=k)&&decide (k<=6)
def iR (k:Int):Bool:=decide ((7:Int)<=k)&&decide (k<=13)
def bI (from_:Nat):Nat->List T->Bool
 | _,[]=>true
 | i,t::r=>(if i < from_ then oa t.n.kind else t.n.kind==14)&&bI from_ (i+1) r
def eT (s:ae):Bool:=levels.any fun l=>l.contains s
mutual
def sub (nodes:List Nd):Nat->Nat->Option T
 | 0,_=>none
 | f+1,a=>match nodes[a]? with
  | none=>none
  | some n=>match pX nodes f n.kids [] with
   | none=>none
   | some l=>some (.mk n l)
def pX (nodes:List Nd):Nat->List Int->List T->Option (List T)
 | _,[],acc=>some acc
 | 0,_::_,_=>none
 | f+1,k::r,acc=>if k < 0 then none else match sub nodes f k.toNat with
  | none=>none
  | some t=>pX nodes f r (acc++[t])
end
mutual
def pU (nodes:List Nd):Nat->Nat->Nat->Option Int
 | 0,_,_=>none
 | f+1,a,d=>if nodes.length<=a\/d > 800 then some (-1) else match nodes[a]? with
  | none=>none
  | some n=>oQ nodes f n.kids (a+1) d
def oQ (nodes:List Nd):Nat->List Int->Int->Nat->Option Int
 | _,[],next,_=>some next
 | 0,_::_,_,_=>none
 | f+1,k::r,next,d=>if k=next then match pU nodes f k.toNat (d+1) with
   | none=>none
   | some e=>if e < 0 then some (-1) else oQ nodes f r e d
  else some (-1)
end
def own (n:Nd) (k:Nat) (kd:Nat->Bool) (bl:Bool):Bool :=
 if decide (n.at_ < 0) then false else if n.kind != 1&&n.n != 0 then false
 else if n.kind==1 then decide ((0:Int)<=n.n)&&(decide (n.n<=2147483647)&&(n.s==[]&&(k:Int)==0))
 else if n.kind==2 then bf n.s&&(k:Int)==0
 else if n.kind==3 || n.kind==7 || n.kind==13 then bf n.s&&((k:Int)==1&&kd 1)
 else if n.kind==4 then bf n.s&&kd k
 else if n.kind==5 then (n.s==[45] || n.s==[33] || n.s==[126])&&((k:Int)==1&&kd 1)
 else if n.kind==6 then eT n.s&&((k:Int)==2&&kd 2)
 else if n.kind==8 then bf n.s&&((k:Int)==2&&kd 2)
 else if n.kind==9 then n.s==[]&&(((k:Int)==2 || (k:Int)==3)&&kd 1)
 else if n.kind==10 then n.s==[]&&((k:Int)==2&&kd 1)
 else if n.kind==11 || n.kind==12 then n.s==[]&&((k:Int)==1&&kd 1)
 else if n.kind==14 then bl&&n.s==[]
 else false
def cv (t:T):Bool:=own t.n t.kids.length (fun m=>bI m 0 t.kids) (t.kids.all fun x=>iR x.n.kind)
mutual
def dP:T->Bool
 | .mk n l=>cE l&&cv (.mk n l)
def cE:List T->Bool
 | []=>true
 | t::r=>dP t&&cE r
end
mutual
def It:T->Prop
 | .mk n l=>n.s.length<=1099511627776/\l.length<=1099511627776/\yx l
def yx:List T->Prop
 | []=>True
 | t::r=>It t/\yx r
end
theorem Iv:∀ {l:List T} {t:T},yx l->t∈l->It t
 | [],_,_,h=>by cases h
 | a::r,t,h,hm=>by
  rw [yx] at h
  rcases List.mem_cons.mp hm with rfl | hm
  ·exact h.1
  ·exact Iv h.2 hm
theorem Iu:∀ {l:List T} {t:T},yx l->It t->yx (l++[t])
 | [],t,_,ht=>⟨ht,trivial⟩
 | a::r,t,h,ht=>by
  rw [yx] at h;exact ⟨h.1,Iu h.2 ht⟩
theorem YJ {nodes:List Nd} (hk:∀ n∈nodes,n.s.length<=1099511627776/\n.kids.length<=1099511627776):∀ f:Nat,(∀ a t,sub nodes f a=some t->It t)/\(∀ ks acc l,pX nodes f ks acc=some l->acc.length+ks.length=l.length/\(yx acc->yx l)):=by
 intro f
 induction f with
 | zero =>
  refine ⟨fun a t h=>by simp [sub] at h,fun ks acc l h=>?_⟩
  cases ks with
  | nil=>rw [pX] at h;cases h;exact ⟨by simp,id⟩
  | cons k r=>simp [pX] at h
 | succ f ih =>
  constructor
  ·intro a t h;rw [sub] at h
   cases hn:nodes[a]? with
   | none=>rw [hn] at h;cases h
   | some n =>
   rw [hn] at h;simp only at h
   cases hs:pX nodes f n.kids [] with
   | none=>rw [hs] at h;cases h
   | some l =>
   rw [hs] at h;cases h;have hi:=ih.2 _ _ _ hs;have hb:=hk n (bA hn);exact ⟨hb.1,by have:=hi.1;simp at this;omega,hi.2 trivial⟩
  ·intro ks acc l h
   cases ks with
   | nil=>rw [pX] at h;cases h;exact ⟨by simp,id⟩
   | cons k r =>
    rw [pX] at h
    by_cases A8:k < 0
    ·rw [ab A8] at h;cases h
    rw [L A8] at h
    cases hs:sub nodes f k.toNat with
    | none=>rw [hs] at h;cases h
    | some t =>
    rw [hs] at h;simp only at h;have I:=ih.2 _ _ _ h;refine ⟨by have:=I.1;simp at this |-;omega,fun ha=>I.2 (Iu ha (ih.1 _ _ hs))⟩
def c8:List ae->Bool:=fun l=>l.all bf
def oP (a:Ar):Bool:=bf a.name&&!(decide (a.size < 0))&&!(decide (2147483647 < a.size))
def fN (nodes:List Nd):Nat:=2 * nodes.length+4
def iF (nodes:List Nd):List Fn->Int->Option (Option Int)
 | [],next=>some (some next)
 | f::r,next=>match pU nodes (fN nodes) next.toNat 0 with
  | none=>none
  | some e=>if f.body≠next\/bf f.name=false\/e < 0 then some none else if c8 f.params=false then some none else match sub nodes (fN nodes) next.toNat with
   | none=>none
   | some t=>if t.n.kind≠14\/dP t=false then some none else iF nodes r e
def pJ (p:Src):Option Bool :=
 if c8 p.globals=false then some false else if p.arrays.all oP=false then some false else match iF p.nodes p.fns 0 with
  | none=>none
  | some none=>some false
  | some (some next)=>some (next==(p.nodes.length:Int)&&decide (next<=800))
end Go.Sp
namespace Go.Xp
theorem Ej {e:Int} {s:ae} {ts r:List Tok} (h:aW e s ts=.ok r):r=ts.tail/\sign ts 0=s:=by
 unfold aW at h;split at h
 ·cases h;exact ⟨rfl,by assumption⟩
 ·cases h
theorem yg {e:Int} {s:ae} {ts r:List Tok} (h:aW e s ts=.ok r):r.length<=ts.length:=by
 rw [(Ej h).1,List.length_tail];omega
theorem Av {e:Int} {s:ae} {ts r:List Tok} (hs:s≠[]) (h:aW e s ts=.ok r):r.length < ts.length:=by
 obtain ⟨F,I⟩:=Ej h;rw [F,List.length_tail]
 cases ts with
 | nil=>exact absurd I.symm hs
 | cons=>simp
theorem gR {s:ae} {ts:List Tok} (hs:s≠[]) (h:sign ts 0=s):ts.tail.length < ts.length:=by
 cases ts with
 | nil=>exact absurd h.symm hs
 | cons=>simp
theorem qQ {e:Int} {s:ae} {ts:List Tok} {x:Er} (h:aW e s ts=.error x):x≠bd:=by
 unfold aW at h;split at h
 ·cases h
 ·cases h;intro h0;cases h0
theorem HT {e:Int} {s:ae} {ts r:List Tok} (h:name e ts=.ok (s,r)):r.length < ts.length:=by
 unfold name at h;split at h
 ·cases h
 ·split at h
  ·split at h
   ·cases h
   ·cases h;simp
  ·cases h
theorem KM {e:Int} {ts:List Tok} {x:Er} (h:name e ts=.error x):x≠bd:=by
 unfold name at h;split at h
 ·cases h;intro h0;cases h0
 ·split at h
  ·split at h <;> cases h;intro h0;cases h0
  ·cases h;intro h0;cases h0
def pW:pY->Nat->Nat
 | .operand _,n=>20 * n+1
 | .loop _ _ _,n=>20 * n+1
 | .level k _,n=>20 * n+2+(9 - k)
 | .expr _,n=>20 * n+12
def yl (acc:List T) (n:Nat):Nat:=match acc with | []=>20 * n+14 | _=>20 * n+1
def Mg:pY->Prop
 | .level k _=>k<=9
 | .loop k _ _=>k < 9
 | _=>True
def good (e:Int) (f:Nat) (j:pY) (ts:List Tok):Prop :=
 Mg j->(∀ t r,rd e f j ts=.ok (t,r)->r.length<=ts.length)/\(pW j ts.length<=f->rd e f j ts≠.error bd)
def Tn (e:Int) (f deep:Nat) (acc:List T) (ts:List Tok):Prop :=
 (∀ t r,rd.args e f deep acc ts=.ok (t,r)->r.length<=ts.length)/\(yl acc ts.length<=f->rd.args e f deep acc ts≠.error bd)
theorem er7 {a:Int}:((7,a):Er)≠bd:=by intro h;cases h
theorem er9 {a:Int}:((9,a):Er)≠bd:=by intro h;cases h
theorem Eo (e:Int):∀ f,(∀ j ts,good e f j ts)/\(∀ deep acc ts,Tn e f deep acc ts)
 | 0=>by
  refine ⟨fun j ts _=>⟨fun t r h=>?_,fun h=>?_⟩,fun deep acc ts=>⟨fun t r h=>?_,fun h=>?_⟩⟩
  ·rw [rd] at h;cases h
  ·cases j <;> simp only [pW] at h <;> omega
  ·rw [rd.args] at h;cases h
  ·unfold yl at h;split at h <;> omega
 | f+1=>by
  obtain ⟨ih,zD⟩:=Eo e f;constructor
  ·intro j ts hj
   cases j with
   | expr deep =>
    obtain ⟨F,I⟩:=ih (.level 0 (deep+1)) ts (aM _);rw [rd];split
    ·exact ⟨fun t r h=>(by cases h),fun _ h=>(by cases h)⟩
    ·exact ⟨F,fun h=>I (by simp only [pW] at h |-;omega)⟩
   | level k deep =>
    have hj:k<=9:=hj;rw [rd];split
    ·obtain ⟨F,I⟩:=ih (.operand deep) ts trivial;exact ⟨F,fun h=>I (by simp only [pW] at h |-;omega)⟩
    ·obtain ⟨F,I⟩:=ih (.level (k+1) deep) ts (by show k+1<=9;omega);split
     ·rename_i x hx;exact ⟨fun t r h=>(by cases h),fun h h0=>I (by simp only [pW] at h |-;omega) (hx.trans h0)⟩
     ·rename_i out jV hx;obtain ⟨h3,h4⟩:=ih (.loop k deep out) jV (by show k < 9;omega);have:=F _ _ hx;exact ⟨fun t r h=>kA (h3 t r h) this,fun h=>h4 (by simp only [pW] at h |-;omega)⟩
   | loop k deep out =>
    have hj:k < 9:=hj
    cases ts with
    | nil=>rw [rd];exact ⟨fun t r h=>(by cases h;exact aE _),fun _ h=>(by cases h)⟩
    | cons t0 r0 =>
     rw [rd];split
     ·obtain ⟨F,I⟩:=ih (.level (k+1) deep) r0 (by show k+1<=9;omega);split
      ·rename_i x hx;exact ⟨fun t r h=>(by cases h),fun h h0=>I (by simp only [pW,length_cons] at h |-;omega) (hx.trans h0)⟩
      ·rename_i b r hx;obtain ⟨h3,h4⟩:=ih (.loop k deep (one 6 t0.at_ t0.s [out,b])) r hj;have:=F _ _ hx;exact ⟨fun t r h=>by have:=h3 t r h;simp only [length_cons];omega,fun h=>h4 (by simp only [pW,length_cons] at h |-;omega)⟩
     ·exact ⟨fun t r h=>(by cases h;exact aE _),fun _ h=>(by cases h)⟩
   | operand deep =>
    cases ts with
    | nil=>rw [rd];split <;> exact ⟨fun t r h=>(by cases h),fun _ h=>(by cases h)⟩
    | cons t0 r0 =>
    rw [rd];split
    ·exact ⟨fun t r h=>(by cases h),fun _ h=>(by cases h)⟩
    split
    ·split
     ·obtain ⟨F,I⟩:=ih (.operand (deep+1)) r0 trivial;split
      ·rename_i x hx;exact ⟨fun t r h=>(by cases h),fun h h0=>I (by simp only [pW,length_cons] at h |-;omega) (hx.trans h0)⟩
      ·rename_i a r hx;have:=F _ _ hx;exact ⟨fun t r h=>(by cases h;simp only [length_cons];omega),fun _ h=>(by cases h)⟩
     split
     ·obtain ⟨F,I⟩:=ih (.expr (deep+1)) r0 trivial;split
      ·rename_i x hx;exact ⟨fun t r h=>(by cases h),fun h h0=>I (by simp only [pW,length_cons] at h |-;omega) (hx.trans h0)⟩
      ·rename_i a r hx;have:=F _ _ hx;split
       ·rename_i x hm;exact ⟨fun t r h=>(by cases h),fun _ h=>qQ hm (by cases h;rfl)⟩
       ·rename_i r' hm;have:=yg hm;exact ⟨fun t r h=>(by cases h;simp only [length_cons];omega),fun _ h=>(by cases h)⟩
     ·exact ⟨fun t r h=>(by cases h),fun _ h=>(by cases h)⟩
    split
    ·exact ⟨fun t r h=>(by cases h;simp),fun _ h=>(by cases h)⟩
    split
    ·rename_i x hm;exact ⟨fun t r h=>(by cases h),fun _ h=>KM hm (by cases h;rfl)⟩
    ·rename_i s r hn;have hl:=HT hn;simp only [length_cons] at hl
     have ak:r.tail.length<=r.length:=by simp
     split
     ·obtain ⟨F,I⟩:=ih (.expr (deep+1)) r.tail trivial;split
      ·rename_i x hx;exact ⟨fun t r h=>(by cases h),fun h h0=>I (by simp only [pW,length_cons] at h |-;omega) (hx.trans h0)⟩
      ·rename_i a r' hx;have:=F _ _ hx;split
       ·rename_i x hm;exact ⟨fun t r h=>(by cases h),fun _ h=>qQ hm (by cases h;rfl)⟩
       ·rename_i r'' hm;have:=yg hm;exact ⟨fun t r h=>(by cases h;simp only [length_cons];omega),fun _ h=>(by cases h)⟩
     split
     ·obtain ⟨F,I⟩:=zD (deep+1) [] r.tail;split
      ·rename_i x hx;exact ⟨fun t r h=>(by cases h),fun h h0=>I (by simp only [pW,yl,length_cons] at h |-;omega) (hx.trans (by cases h0;rfl))⟩
      ·rename_i a r' hx;have:=F _ _ hx;exact ⟨fun t r h=>(by cases h;simp only [length_cons];omega),fun _ h=>(by cases h)⟩
     ·exact ⟨fun t r h=>(by cases h;simp only [length_cons];omega),fun _ h=>(by cases h)⟩
  ·intro deep acc ts;unfold Tn;rw [rd.args];split
   ·exact ⟨fun t r h=>(by cases h;simp),fun _ h=>(by cases h)⟩
   ·by_cases mz:acc=[]
    ·subst mz;simp only [if_true];obtain ⟨F,I⟩:=ih (.expr deep) ts trivial;split
     ·rename_i x hx;exact ⟨fun t r h=>(by cases h),fun h h0=>I (by simp only [pW,yl] at h |-;omega) (hx.trans (by cases h0;rfl))⟩
     ·rename_i a r hx;have:=F _ _ hx;obtain ⟨h3,h4⟩:=zD deep ([]++[a]) r;exact ⟨fun t r h=>by have:=h3 t r h;omega,fun h=>h4 (by simp only [nil_append,yl] at h |-;omega)⟩
    ·rw [L mz]
     have Km:∀ n,yl acc n=20 * n+1:=by cases acc with | nil=>exact absurd rfl mz | cons=>exact fun _=>rfl
     split
     ·rename_i x hm;exact ⟨fun t r h=>(by cases h),fun _ h=>qQ hm (by cases h;rfl)⟩
     ·rename_i jV hm;have ak:=Av aw hm;obtain ⟨F,I⟩:=ih (.expr deep) jV trivial;split
      ·rename_i x hx;exact ⟨fun t r h=>(by cases h),fun h h0=>I (by simp only [pW,Km] at h |-;omega) (hx.trans (by cases h0;rfl))⟩
      ·rename_i a r hx;have:=F _ _ hx;obtain ⟨h3,h4⟩:=zD deep (acc++[a]) r
       have abd:yl (acc++[a]) r.length=20 * r.length+1:=by
        cases acc with
        | nil=>exact absurd rfl mz
        | cons=>rfl
       exact ⟨fun t r h=>by have:=h3 t r h;omega,fun h=>h4 (by rw [abd] ;simp only [Km] at h;omega)⟩
theorem Yt {e:Int} {f:Nat} {j:pY} {ts:List Tok} {t:T} {r:List Tok} (hj:Mg j) (h:rd e f j ts=.ok (t,r)):r.length<=ts.length:=((Eo e f).1 j ts hj).1 t r h
theorem Ay {e:Int} {f:Nat} {j:pY} {ts:List Tok} (hj:Mg j) (h:pW j ts.length<=f):rd e f j ts≠.error bd:=((Eo e f).1 j ts hj).2 h
theorem EX {e:Int} {deep:Nat} {ts:List Tok}:expr e deep ts≠.error bd:=Ay (j:=.expr deep) trivial (by simp only [pW,nZ];omega)
theorem BK {e:Int} {deep:Nat} {ts:List Tok} {t:T} {r:List Tok} (h:expr e deep ts=.ok (t,r)):r.length<=ts.length:=Yt (j:=.expr deep) trivial h
theorem BZ {e:Int} {deep:Nat} {a b:ae} {ts r:List Tok} {t:T} (ha:a≠[]) (h:inner e deep a b ts=.ok (t,r)):r.length < ts.length:=by
 unfold inner at h;split at h
 ·cases h
 ·rename_i t1 F;split at h
  ·cases h
  ·rename_i a1 t2 I;split at h
   ·cases h
   ·rename_i t3 h3;cases h;have:=Av ha F;have:=BK I;have:=yg h3;omega
theorem BW {e:Int} {deep:Nat} {a b:ae} {ts:List Tok} {x:Er} (h:inner e deep a b ts=.error x):x≠bd:=by
 unfold inner at h;split at h
 ·rename_i F;cases h;exact qQ F
 ·split at h
  ·rename_i x2 I;cases h;intro h0;exact EX (I.trans (by rw [h0]))
  ·split at h
   ·rename_i h3;cases h;exact qQ h3
   ·cases h
theorem Ip {e:Int} {deep:Nat} {ts r:List Tok} {t:ae × T} (h:mj e deep ts=.ok (t,r)):r.length < ts.length:=by
 unfold mj at h;split at h
 ·cases h
 ·rename_i s t1 F;split at h
  ·cases h
  ·rename_i a t2 I;cases h;have:=HT F;have:=BZ aw I;omega
theorem Io {e:Int} {deep:Nat} {ts:List Tok} {x:Er} (h:mj e deep ts=.error x):x≠bd:=by
 unfold mj at h;split at h
 ·rename_i F;cases h;exact KM F
 ·split at h
  ·rename_i I;cases h;exact BW I
  ·cases h
theorem BJ {e:Int} {deep:Nat} {ts:List Tok} {x:Er} (h:expr e deep ts=.error x):x≠bd:=fun h0=>EX (h.trans (by rw [h0]))
theorem P9 {e:Int} {deep:Nat} {ts r:List Tok} {t:T} (h:simple e deep ts=.ok (t,r)):r.length < ts.length:=by
 unfold simple at h;split at h
 ·split at h <;> cases h
 ·rename_i t0 r0;split at h
  ·split at h
   ·cases h
   ·rename_i s a t1 F;cases h;exact Ip F
  ·split at h
   ·cases h
   ·rename_i a t1 F;have:=BK F;split at h
    ·split at h
     ·cases h
     ·rename_i v t2 I;cases h;have:=BZ aw I;omega
    ·split at h
     ·cases h
     ·rename_i t2 I;cases h;have:=Av aw I;omega
theorem P8 {e:Int} {deep:Nat} {ts:List Tok} {x:Er} (h:simple e deep ts=.error x):x≠bd:=by
 unfold simple at h;split at h
 ·split at h
  ·rename_i F;cases h;exact BJ F
  ·cases h;exact er7
 ·split at h
  ·split at h
   ·rename_i F;cases h;exact Io F
   ·cases h
  ·split at h
   ·rename_i F;cases h;exact BJ F
   ·split at h
    ·split at h
     ·rename_i I;cases h;exact BW I
     ·cases h
    ·split at h
     ·rename_i I;cases h;exact qQ I
     ·cases h
def Tp (e:Int) (f:Nat) (j:si) (ts:List Tok):Prop :=
 (∀ t r,rs e f j ts=.ok (t,r)->r.length < ts.length)/\(3 * ts.length+1<=f->rs e f j ts≠.error bd)
def To (e:Int) (f deep:Nat) (acc:List T) (ts:List Tok):Prop :=
 (∀ t r,rs.body e f deep acc ts=.ok (t,r)->r.length < ts.length)/\(3 * ts.length+2<=f->rs.body e f deep acc ts≠.error bd)
theorem Eu (e:Int):∀ f,(∀ j ts,Tp e f j ts)/\(∀ deep acc ts,To e f deep acc ts)
 | 0=>by
  refine ⟨fun j ts=>⟨fun t r h=>?_,fun h=>by omega⟩,fun deep acc ts=>⟨fun t r h=>?_,fun h=>by omega⟩⟩
  ·rw [rs] at h;cases h
  ·rw [rs.body] at h;cases h
 | f+1=>by
  obtain ⟨ih,zD⟩:=Eu e f;constructor
  ·intro j ts;unfold Tp
   cases j with
   | block deep =>
    rw [rs];split
    ·exact ⟨fun t r h=>(by cases h),fun _ h=>(by cases h)⟩
    ·split
     ·rename_i x hm;exact ⟨fun t r h=>(by cases h),fun _ h=>qQ hm (by cases h;rfl)⟩
     ·rename_i r0 hm;have h0:=Av aw hm;obtain ⟨F,I⟩:=zD (deep+1) [] r0;split
      ·rename_i x hx;exact ⟨fun t r h=>(by cases h),fun h h0=>I aq (hx.trans (by cases h0;rfl))⟩
      ·rename_i l r hx;have:=F _ _ hx;exact ⟨fun t r h=>(by cases h;omega),fun _ h=>(by cases h)⟩
   | stmt deep =>
    rw [rs];split
    ·exact ⟨fun t r h=>(by cases h),fun _ h=>(by cases h)⟩
    ·simp only;split
     ·rename_i hv;have h0:=gR aw hv;split
      ·rename_i x hx;exact ⟨fun t r h=>(by cases h),fun _ h=>Io hx (by cases h;rfl)⟩
      ·rename_i s a t1 hx;have:=Ip hx;exact ⟨fun t r h=>(by cases h;omega),fun _ h=>(by cases h)⟩
     split
     ·rename_i hv
      have h0:ts.tail.length < ts.length:=by
       rcases hv with hv | hv <;> exact gR aw hv
      split
      ·rename_i x hx;exact ⟨fun t r h=>(by cases h),fun _ h=>BW hx (by cases h;rfl)⟩
      ·rename_i c r1 hx;have hc:=BZ aw hx;obtain ⟨F,I⟩:=ih (.block (deep+1)) r1;split
       ·rename_i x Kr;exact ⟨fun t r h=>(by cases h),fun h h0=>I aq (Kr.trans h0)⟩
       ·rename_i b r2 Kr;have hb:=F _ _ Kr;split
        ·split
         ·obtain ⟨h3,h4⟩:=ih (.block (deep+1)) r2.tail
          have ht:r2.tail.length<=r2.length:=by simp
          split
          ·rename_i x O9;exact ⟨fun t r h=>(by cases h),fun h h0=>h4 aq (O9.trans h0)⟩
          ·rename_i b2 r3 O9;have:=h3 _ _ O9;exact ⟨fun t r h=>(by cases h;omega),fun _ h=>(by cases h)⟩
         ·exact ⟨fun t r h=>(by cases h;omega),fun _ h=>(by cases h)⟩
        ·exact ⟨fun t r h=>(by cases h;omega),fun _ h=>(by cases h)⟩
     split
     ·rename_i hv;have h0:=gR aw hv;split
      ·rename_i x hx;exact ⟨fun t r h=>(by cases h),fun _ h=>BJ hx (by cases h;rfl)⟩
      ·rename_i a r1 hx;have:=BK hx;split
       ·rename_i x hm;exact ⟨fun t r h=>(by cases h),fun _ h=>qQ hm (by cases h;rfl)⟩
       ·rename_i r2 hm;have:=yg hm;exact ⟨fun t r h=>(by cases h;omega),fun _ h=>(by cases h)⟩
     ·exact ⟨fun t r h=>P9 h,fun _ h=>P8 h rfl⟩
  ·intro deep acc ts;unfold To;rw [rs.body];split
   ·rename_i hv;have h0:=gR aw hv;exact ⟨fun t r h=>(by cases h;exact h0),fun _ h=>(by cases h)⟩
   ·obtain ⟨F,I⟩:=ih (.stmt deep) ts;split
    ·rename_i x hx;exact ⟨fun t r h=>(by cases h),fun h h0=>I aq (hx.trans (by cases h0;rfl))⟩
    ·rename_i a r hx;have:=F _ _ hx;obtain ⟨h3,h4⟩:=zD deep (acc++[a]) r;exact ⟨fun t r h=>by have:=h3 t r h;omega,fun h=>h4 aq⟩
theorem Yv {e:Int} {f:Nat} {j:si} {ts:List Tok} {t:T} {r:List Tok} (h:rs e f j ts=.ok (t,r)):r.length < ts.length:=((Eu e f).1 j ts).1 t r h
theorem xF {e:Int} {deep:Nat} {ts:List Tok}:block e deep ts≠.error bd:=((Eu e _).1 (.block deep) ts).2 (by simp only [nZ];omega)
theorem aab {e:Int} {deep:Nat} {ts:List Tok} {t:T} {r:List Tok} (h:block e deep ts=.ok (t,r)):r.length < ts.length:=Yv h
end Go.Xp
namespace Go.Sp
open Go.Xp
structure On (p:RS) (ts:List Tok):Prop where
 code:p.code=0
 le:p.i<=p.l.length
 rest:p.l.drop p.i=ts
 kinds:∀ t∈p.l,t.kind=1\/t.kind=2\/t.kind=3
def b7 (p q:RS):Except Er (List Tok)->Prop
 | .ok r=>On q r/\q.l=p.l/\q.e=p.e
 | .error x=>q.code=x.1/\x.1≠0/\q.at_=x.2/\q.l=p.l/\q.e=p.e
def kh {α:Type} (p q:RS) (t:α):Rd α->Prop
 | .ok (t',r)=>t=t'/\b7 p q (.ok r)
 | .error x=>b7 p q (.error x)
section
variable {p q q':RS} {ts r:List Tok} {x:Er}
theorem b7.err (h:b7 p q (.error x)):q.code≠0:=by rw [h.1];exact h.2.1
theorem b7.tr {y:Except Er (List Tok)} (h:b7 p q (.ok r)) (k:b7 q q' y):b7 p q' y:=by
 obtain ⟨_,F,I⟩:=h
 cases y with
 | ok r=>exact ⟨k.1,k.2.1.trans F,k.2.2.trans I⟩
 | error x=>exact ⟨k.1,k.2.1,k.2.2.1,k.2.2.2.1.trans F,k.2.2.2.2.trans I⟩
theorem kh.tr {α:Type} {t:α} {y:Rd α} (h:b7 p q (.ok r)) (k:kh q q' t y):kh p q' t y:=by
 cases y with
 | ok r=>obtain ⟨t',r⟩:=r;exact ⟨k.1,h.tr k.2⟩
 | error x=>exact h.tr (y:=.error x) k
theorem On.self (h:On p ts):b7 p p (.ok ts):=⟨h,rfl,rfl⟩
theorem On.at (h:On p ts) (k:Nat):p.l[p.i+k]?=ts[k]?:=by rw [<-h.rest,List.getElem?_drop]
theorem On.sign (h:On p ts) (k:Nat):p.sign k=Go.Xp.sign ts k:=by
 unfold RS.sign Go.Xp.sign;rw [ab h.code,h.at]
 all_goals (cases ts[k]? <;> rfl)
theorem On.place (h:On p ts):p.place=Go.Xp.place p.e ts:=by
 have h0:=h.at 0;unfold RS.place;rw [Nat.add_zero] at h0;rw [h0]
 cases ts with
 | nil=>rfl
 | cons t r=>rfl
theorem On.next {t:Tok} (h:On p (t::r)):b7 p p.next (.ok r):=by
 have F:p.i < p.l.length:=by
  have:=congrArg List.length h.rest;simp at this;omega
 refine ⟨⟨h.code,F,?_,h.kinds⟩,rfl,rfl⟩;show p.l.drop (p.i+1)=r;rw [<-List.tail_drop,h.rest];rfl
theorem On.fail (h:On p ts) (c a:Int) (hc:c≠0):b7 p (p.fail c a) (.error (c,a)):=by
 unfold RS.fail;rw [ab h.code];exact ⟨rfl,hc,rfl,rfl,rfl⟩
theorem uM (h:p.code≠0) (c a:Int):p.fail c a=p:=by unfold RS.fail;rw [L h]
theorem mC (h:p.code≠0) (k:Nat):p.sign k=[]:=by unfold RS.sign;rw [L h]
theorem iI (h:p.code≠0) {s:ae} (hs:s≠[]):p.aW s=p:=by
 unfold RS.aW;rw [mC h,L (fun e=>hs e.symm),uM h]
theorem sk (h:p.code≠0) (d:Nat):p.deep d=p:=by unfold RS.deep;split <;> simp [uM h]
theorem eo {s:ae} (hs:s≠[]) (h:Go.Xp.sign ts 0=s):∃ t,ts=t::ts.tail/\t.kind=3/\t.s=s:=by
 cases ts with
 | nil=>exact absurd h.symm hs
 | cons t r =>
  refine ⟨t,rfl,?_⟩;simp only [Go.Xp.sign,getElem?_cons_zero,bH] at h;split at h
  ·exact ⟨by assumption,h⟩
  ·exact absurd h.symm hs
theorem On.aW (h:On p ts) {s:ae} (hs:s≠[]):b7 p (p.aW s) (Go.Xp.aW p.e s ts):=by
 unfold RS.aW Go.Xp.aW;rw [h.sign]
 by_cases h0:Go.Xp.sign ts 0=s
 ·rw [ab h0,ab h0];obtain ⟨t,ht,_⟩:=eo hs h0;rw [ht] at h
  exact h.next
 ·rw [L h0,L h0,h.place];exact h.fail 7 _ aw
theorem On.name (h:On p ts):kh p p.name.2 p.name.1 (Go.Xp.name p.e ts)\/∃ x,Go.Xp.name p.e ts=.error x/\b7 p p.name.2 (.error x):=by
 have h0:=h.at 0;rw [Nat.add_zero] at h0;unfold RS.name;rw [ab h.code,h0]
 cases ts with
 | nil=>exact .inr ⟨_,rfl,by rw [h.place];exact h.fail 7 _ aw⟩
 | cons t r =>
  simp only [getElem?_cons_zero,Go.Xp.name];split
  ·split
   ·exact .inr ⟨_,rfl,h.fail 8 _ aw⟩
   ·exact .inl ⟨rfl,h.next⟩
  ·refine .inr ⟨_,rfl,?_⟩;have:p.place=t.at_:=h.place;rw [this];exact h.fail 7 _ aw
end
theorem C9 {p:RS} (h:p.code≠0):(∀ g d,1<=g->mE g (.operand d) p=some (T.zero,p))/\(∀ g k d out,1<=g->mE g (.loop k d out) p=some (out,p))/\(∀ n g k d,k+n=9->n+2<=g->mE g (.level k d) p=some (T.zero,p)):=by
 have F:∀ g d,1<=g->mE g (.operand d) p=some (T.zero,p):=by
  intro g d hg
  cases g with
  | zero=>omega
  | succ g=>rw [mE];simp [sk h,h,uM h]
 have I:∀ g k d out,1<=g->mE g (.loop k d out) p=some (out,p):=by
  intro g k d out hg
  cases g with
  | zero=>omega
  | succ g=>rw [mE];simp [h]
 refine ⟨F,I,fun n=>?_⟩
 induction n with
 | zero =>
  intro g k d hk hg
  cases g with
  | zero=>omega
  | succ g=>rw [mE,ab aq];exact F g _ aq
 | succ n ih =>
  intro g k d hk hg
  cases g with
  | zero=>omega
  | succ g =>
   rw [mE,L aq,ih g (k+1) d aq aq];exact I g _ _ _ aq
theorem Ye {p:RS} (h:p.code≠0) {g d:Nat} (hg:12<=g):mE g (.expr d) p=some (T.zero,p):=by
 cases g with
 | zero=>omega
 | succ g=>rw [mE,sk h];exact (C9 h).2.2 9 g 0 d rfl aq
def KF (f:Nat):Nat:=2 * f+20
structure JE (f:Nat):Prop where
 expr:∀ d ts p,On p ts->rd p.e f (.expr d) ts≠.error bd->∃ t q,(∀ g,KF f<=g->mE g (.expr d) p=some (t,q))/\kh p q t (rd p.e f (.expr d) ts)
 level:∀ k d ts p,k<=9->On p ts->rd p.e f (.level k (d+1)) ts≠.error bd->∃ t q,(∀ g,KF f<=g->mE g (.level k d) p=some (t,q))/\kh p q t (rd p.e f (.level k (d+1)) ts)
 loop:∀ k d out ts p,k < 9->On p ts->rd p.e f (.loop k (d+1) out) ts≠.error bd->∃ t q,(∀ g,KF f<=g->mE g (.loop k d out) p=some (t,q))/\kh p q t (rd p.e f (.loop k (d+1) out) ts)
 operand:∀ d ts p,On p ts->rd p.e f (.operand d) ts≠.error bd->∃ t q,(∀ g,KF f<=g->mE g (.operand d) p=some (t,q))/\kh p q t (rd p.e f (.operand d) ts)
 args:∀ d acc ts p,acc≠[]->On p ts->rd.args p.e f d acc ts≠.error bd->∃ t q,(∀ g,KF f<=g->u9 g d acc p=some (t,q))/\kh p q t (rd.args p.e f d acc ts)
 args0:∀ d ts p,On p ts->rd.args p.e f d [] ts≠.error bd->∃ t q,(∀ g,KF f<=g->mL g d p=some (t,q))/\kh p q t (rd.args p.e f d [] ts)
theorem Dl:∀ k,(levels.getD k []).contains []=false:=by
 intro k
 have h:∀ l∈levels,l.contains ([]:ae)=false:=by decide
 rw [List.getD_eq_getElem?_getD]
 cases hk:levels[k]? with
 | none=>rfl
 | some l=>exact h l (bA hk)
theorem up {f g:Nat} (h:KF (f+1)<=g):∃ g',g=g'+1/\KF f+1<=g':=⟨g - 1,by unfold KF at h;omega,by unfold KF at *;omega⟩
theorem je (f:Nat):JE f:=by
 induction f with
 | zero =>
  refine ⟨fun d ts p _ h=>absurd ?_ h,fun k d ts p _ _ h=>absurd ?_ h,fun k d out ts p _ _ h=>absurd ?_ h,fun d ts p _ h=>absurd ?_ h,fun d acc ts p _ _ h=>absurd ?_ h,fun d ts p _ h=>absurd ?_ h⟩ <;> simp [rd,rd.args]
 | succ f C =>
  refine ⟨fun d ts p hp h=>?_,fun k d ts p hk hp h=>?_,fun k d out ts p hk hp h=>?_,fun d ts p hp h=>?_,fun d acc ts p mz hp h=>?_,fun d ts p hp h=>?_⟩
  ·rw [rd] at h |-
   by_cases hd:d > 60
   ·rw [ab hd] at h |-;have hf:=hp.fail 9 p.place aw;refine ⟨T.zero,p.fail 9 p.place,fun g hg=>?_,by rw [<-hp.place];exact hf⟩;obtain ⟨g,rfl,hg⟩:=up hg;rw [mE];unfold RS.deep;rw [ab hd];exact (C9 hf.err).2.2 9 g 0 d rfl (by unfold KF at hg;omega)
   ·rw [L hd] at h |-;obtain ⟨t,q,F,I⟩:=C.level 0 d ts p aq hp h;refine ⟨t,q,fun g hg=>?_,I⟩;obtain ⟨g,rfl,hg⟩:=up hg;rw [mE];unfold RS.deep;rw [L hd];exact F g aq
  ·rw [rd] at h |-
   by_cases h9:k=9
   ·rw [ab h9] at h |-;obtain ⟨t,q,F,I⟩:=C.operand (d+1) ts p hp h;refine ⟨t,q,fun g hg=>?_,I⟩;obtain ⟨g,rfl,hg⟩:=up hg;rw [mE,ab h9];exact F g aq
   ·rw [L h9] at h |-
    cases he:rd p.e f (.level (k+1) (d+1)) ts with
    | error x =>
     rw [he] at h
     have hx:x≠bd:=fun h0=>h (by rw [h0])
     obtain ⟨t,q,F,I⟩:=C.level (k+1) d ts p aq hp (by rw [he];intro h0;cases h0;exact hx rfl);rw [he] at I;refine ⟨t,q,fun g hg=>?_,I⟩;obtain ⟨g,rfl,hg⟩:=up hg;rw [mE,L h9,F g aq];exact (C9 (b7.err I)).2.1 g _ _ _ (by unfold KF at hg;omega)
    | ok r =>
     obtain ⟨t',r⟩:=r;rw [he] at h;simp only at h |-;obtain ⟨t,q,F,I⟩:=C.level (k+1) d ts p aq hp (by rw [he];intro h0;cases h0);rw [he] at I;obtain ⟨rfl,I⟩:=I;rw [<-I.2.2] at h |-;obtain ⟨t3,q3,h3,h4⟩:=C.loop k d t r q aq I.1 h;refine ⟨t3,q3,fun g hg=>?_,kh.tr I h4⟩;obtain ⟨g,rfl,hg⟩:=up hg;rw [mE,L h9,F g aq];exact h3 g aq
  ·cases ts with
   | nil =>
    rw [rd];refine ⟨out,p,fun g hg=>?_,rfl,hp.self⟩;obtain ⟨g,rfl,hg⟩:=up hg;rw [mE,L];rw [hp.sign];rintro ⟨_,h0⟩;rw [show sign ([]:List Tok) 0=[] from rfl,Dl] at h0;cases h0
   | cons t r =>
    rw [rd] at h |-;have hs:p.sign 0=bH t:=hp.sign 0
    by_cases hc:t.kind=3/\t.s∈levels.getD k []
    ·rw [ab hc] at h |-
     have hn:=hp.next
     have tX:p.l[p.i]?=some t:=hp.at 0;have oG:p.code=0/\(levels.getD k []).contains (p.sign 0)=true:=⟨hp.code,by rw [hs];unfold bH;rw [ab hc.1];simpa using hc.2⟩;rw [show p.e=p.next.e from rfl] at h |-
     cases he:rd p.next.e f (.level (k+1) (d+1)) r with
     | error x =>
      rw [he] at h
      have hx:x≠bd:=fun h0=>h (by rw [h0])
      obtain ⟨b,q,F,I⟩:=C.level (k+1) d r p.next aq hn.1 (by rw [he];intro h0;cases h0;exact hx rfl)
      rw [he] at I;refine ⟨one 6 t.at_ t.s [out,b],q,fun g hg=>?_,hn.tr (y:=.error x) I⟩;obtain ⟨g,rfl,hg⟩:=up hg;rw [mE,ab oG,tX];simp only;rw [F g aq];exact (C9 (b7.err I)).2.1 g _ _ _ (by unfold KF at hg;omega)
     | ok x =>
      obtain ⟨b',r'⟩:=x;rw [he] at h;simp only at h |-
      obtain ⟨b,q,F,I⟩:=C.level (k+1) d r p.next aq hn.1 (by rw [he];intro h0;cases h0)
      rw [he] at I;obtain ⟨rfl,I⟩:=I;rw [<-I.2.2] at h |-;obtain ⟨t3,q3,h3,h4⟩:=C.loop k d (one 6 t.at_ t.s [out,b]) r' q hk I.1 h;refine ⟨t3,q3,fun g hg=>?_,kh.tr (hn.tr I) h4⟩;obtain ⟨g,rfl,hg⟩:=up hg;rw [mE,ab oG,tX];simp only;rw [F g aq];exact h3 g aq
    ·rw [L hc];refine ⟨out,p,fun g hg=>?_,rfl,hp.self⟩;obtain ⟨g,rfl,hg⟩:=up hg;rw [mE,L];rintro ⟨_,h0⟩;rw [hs] at h0;unfold bH at h0;split at h0
     ·rename_i h3;exact hc ⟨h3,by simpa using h0⟩
     ·rw [Dl] at h0;cases h0
  ·rw [rd.eq_def] at h |-;simp only at h |-
   by_cases hd:d > 60
   ·rw [ab hd] at h |-;have hf:=hp.fail 9 p.place aw;refine ⟨T.zero,p.fail 9 p.place,fun g hg=>?_,by rw [<-hp.place];exact hf⟩;obtain ⟨g,rfl,hg⟩:=up hg;rw [mE];unfold RS.deep;rw [ab hd];simp [hf.err,uM hf.err]
   ·rw [L hd] at h |-
    have eJ:p.deep d=p:=by unfold RS.deep;rw [L hd]
    cases ts with
    | nil =>
     simp only;have h0:p.l[p.i]?=none:=hp.at 0;refine ⟨T.zero,p.fail 7 p.place,fun g hg=>?_,?_⟩
     ·obtain ⟨g,rfl,hg⟩:=up hg;rw [mE];simp [eJ,hp.code,h0]
     ·rw [hp.place];exact hp.fail 7 _ aw
    | cons t r =>
     simp only at h |-;have tX:p.l[p.i]?=some t:=hp.at 0
     have hn:=hp.next
     by_cases h3:t.kind=3
     ·rw [ab h3] at h |-
      have CL:¬ t.kind=1:=by omega
      have Ox:¬ t.kind=2:=by omega
      by_cases hu:t.s=[45]\/t.s=[33]\/t.s=[126]
      ·rw [ab hu] at h |-;rw [show p.e=p.next.e from rfl] at h |-
       cases he:rd p.next.e f (.operand (d+1)) r with
       | error x =>
        rw [he] at h
        have hx:x≠bd:=fun h0=>h (by rw [h0])
        obtain ⟨b,q,F,I⟩:=C.operand (d+1) r p.next hn.1 (by rw [he];intro h0;cases h0;exact hx rfl)
        rw [he] at I;refine ⟨one 5 t.at_ t.s [b],q,fun g hg=>?_,hn.tr (y:=.error x) I⟩;obtain ⟨g,rfl,hg⟩:=up hg;rw [mE];simp only [eJ,hp.code,tX,if_true,L CL,L Ox,ab hu];rw [F g aq]
       | ok x =>
        obtain ⟨b',r'⟩:=x;rw [he] at h;simp only at h |-
        obtain ⟨b,q,F,I⟩:=C.operand (d+1) r p.next hn.1 (by rw [he];intro h0;cases h0)
        rw [he] at I;obtain ⟨rfl,I⟩:=I;refine ⟨one 5 t.at_ t.s [b],q,fun g hg=>?_,rfl,hn.tr I⟩;obtain ⟨g,rfl,hg⟩:=up hg;rw [mE];simp only [eJ,hp.code,tX,if_true,L CL,L Ox,ab hu];rw [F g aq]
      ·rw [L hu] at h |-
       by_cases hb:t.s=[40]
       ·rw [ab hb] at h |-;rw [show p.e=p.next.e from rfl] at h |-
        cases he:rd p.next.e f (.expr (d+1)) r with
        | error x =>
         rw [he] at h
         have hx:x≠bd:=fun h0=>h (by rw [h0])
         obtain ⟨b,q,F,I⟩:=C.expr (d+1) r p.next hn.1 (by rw [he];intro h0;cases h0;exact hx rfl)
         rw [he] at I;refine ⟨b,q.aW [41],fun g hg=>?_,?_⟩
         ·obtain ⟨g,rfl,hg⟩:=up hg;rw [mE];simp only [eJ,hp.code,tX,if_true,L CL,L Ox,L hu,ab hb];rw [F g aq]
         ·rw [iI (b7.err I) aw];exact hn.tr (y:=.error x) I
        | ok x =>
         obtain ⟨b',r'⟩:=x;rw [he] at h;simp only at h |-
         obtain ⟨b,q,F,I⟩:=C.expr (d+1) r p.next hn.1 (by rw [he];intro h0;cases h0)
         rw [he] at I;obtain ⟨rfl,I⟩:=I;have hm:=I.1.aW (s:=[41]) aw;have aY:=(hn.tr I).tr hm;rw [I.2.2] at aY;refine ⟨b,q.aW [41],fun g hg=>?_,?_⟩
         ·obtain ⟨g,rfl,hg⟩:=up hg;rw [mE];simp only [eJ,hp.code,tX,if_true,L CL,L Ox,L hu,ab hb];rw [F g aq]
         ·cases tu:aW p.next.e [41] r' with
          | error x=>rw [tu] at aY;exact aY
          | ok r2=>rw [tu] at aY;exact ⟨rfl,aY⟩
       ·rw [L hb] at h |-;refine ⟨T.zero,p.fail 7 t.at_,fun g hg=>?_,hp.fail 7 _ aw⟩;obtain ⟨g,rfl,hg⟩:=up hg;rw [mE];simp only [eJ,hp.code,tX,if_true,L CL,L Ox,L hu,L hb]
     ·rw [L h3] at h |-
      by_cases F:t.kind=1
      ·rw [ab F];refine ⟨_,p.next,fun g hg=>?_,rfl,hn⟩;obtain ⟨g,rfl,hg⟩:=up hg;rw [mE];simp only [eJ,hp.code,tX,if_true,ab F]
      ·rw [L F] at h |-
       by_cases I:t.kind=2
       ·by_cases hlen:t.s.length > 12
        ·have eK:name p.e (t::r)=.error (8,t.at_):=by simp [name,I,hlen]
         rw [eK] at h |-;have hf:=hp.fail 8 t.at_ aw;refine ⟨one 2 t.at_ [] [],p.fail 8 t.at_,fun g hg=>?_,hf⟩;obtain ⟨g,rfl,hg⟩:=up hg
         have dL:p.name=([],p.fail 8 t.at_):=by unfold RS.name;simp [hp.code,tX,I,hlen]
         rw [mE];simp only [eJ,hp.code,tX,if_true,L F,ab I,dL];obtain ⟨g,rfl⟩:∃ g',g=g'+1:=⟨g - 1,by omega⟩;rw [mE,L (by rw [mC hf.err];decide),L (by rw [mC hf.err];decide)]
        ·have eK:name p.e (t::r)=.ok (t.s,r):=by simp [name,I,hlen]
         have dL:p.name=(t.s,p.next):=by unfold RS.name;simp [hp.code,tX,I,hlen]
         rw [eK] at h |-;simp only at h |-
         have dE:p.next.sign 0=sign r 0:=hn.1.sign 0
         have key:∀ (t':T) (q:RS),(∀ g,KF f<=g->mE (g+1) (.named t.at_ t.s d) p.next=some (t',q))->∀ g,KF (f+1)<=g->mE g (.operand d) p=some (t',q):=by
          intro t' q hk g hg;obtain ⟨g,rfl,hg⟩:=up hg;rw [mE];simp only [eJ,hp.code,tX,if_true,L F,ab I,dL];obtain ⟨g,rfl⟩:∃ g',g=g'+1:=⟨g - 1,by omega⟩;exact hk g aq
         by_cases hb:sign r 0=[91]
         ·rw [ab hb] at h |-;obtain ⟨tb,C4,_⟩:=eo aw hb;have b9:=hn.1;rw [C4] at b9
          have b9:=hn.tr b9.next
          rw [show p.e=p.next.next.e from rfl] at h |-
          cases he:rd p.next.next.e f (.expr (d+1)) r.tail with
          | error x =>
           rw [he] at h
           have hx:x≠bd:=fun h0=>h (by rw [h0])
           obtain ⟨b,q,k1,k2⟩:=C.expr (d+1) r.tail p.next.next b9.1 (by rw [he];intro h0;cases h0;exact hx rfl)
           rw [he] at k2;refine ⟨one 3 t.at_ t.s [b],q.aW [93],key _ _ fun g hg=>?_,?_⟩
           ·rw [mE,ab (by rw [dE];exact hb),k1 g hg]
           ·rw [iI (b7.err k2) aw];exact b9.tr (y:=.error x) k2
          | ok x =>
           obtain ⟨b',r'⟩:=x;rw [he] at h;simp only at h |-
           obtain ⟨b,q,k1,k2⟩:=C.expr (d+1) r.tail p.next.next b9.1 (by rw [he];intro h0;cases h0)
           rw [he] at k2;obtain ⟨rfl,k2⟩:=k2;have hm:=k2.1.aW (s:=[93]) aw;have aY:=(b9.tr k2).tr hm;rw [k2.2.2] at aY;refine ⟨one 3 t.at_ t.s [b],q.aW [93],key _ _ fun g hg=>?_,?_⟩
           ·rw [mE,ab (by rw [dE];exact hb),k1 g hg]
           ·cases tu:aW p.next.next.e [93] r' with
            | error x=>rw [tu] at aY;exact aY
            | ok r2=>rw [tu] at aY;exact ⟨rfl,aY⟩
         ·rw [L hb] at h |-
          by_cases hc:sign r 0=[40]
          ·rw [ab hc] at h |-;obtain ⟨tb,C4,_⟩:=eo aw hc;have b9:=hn.1;rw [C4] at b9
           have b9:=hn.tr b9.next
           rw [show p.e=p.next.next.e from rfl] at h |-
           cases he:rd.args p.next.next.e f (d+1) [] r.tail with
           | error x =>
            rw [he] at h
            have hx:x≠bd:=fun h0=>h (by rw [h0])
            obtain ⟨b,q,k1,k2⟩:=C.args0 (d+1) r.tail p.next.next b9.1 (by rw [he];intro h0;cases h0;exact hx rfl)
            rw [he] at k2;refine ⟨one 4 t.at_ t.s b,q,key _ _ fun g hg=>?_,b9.tr (y:=.error x) k2⟩;rw [mE,L (by rw [dE];exact hb),ab (by rw [dE];exact hc),k1 g hg]
           | ok x =>
            obtain ⟨b',r'⟩:=x;rw [he] at h
            obtain ⟨b,q,k1,k2⟩:=C.args0 (d+1) r.tail p.next.next b9.1 (by rw [he];intro h0;cases h0)
            rw [he] at k2;obtain ⟨rfl,k2⟩:=k2;refine ⟨one 4 t.at_ t.s b,q,key _ _ fun g hg=>?_,rfl,b9.tr k2⟩;rw [mE,L (by rw [dE];exact hb),ab (by rw [dE];exact hc),k1 g hg]
          ·rw [L hc] at h |-;refine ⟨one 2 t.at_ t.s [],p.next,key _ _ fun g hg=>?_,rfl,hn⟩;rw [mE,L (by rw [dE];exact hb),L (by rw [dE];exact hc)]
       ·have eK:name p.e (t::r)=.error (7,t.at_):=by simp [name,I]
        rw [eK] at h |-;have:=hp.kinds t (bA tX);omega
  ·rw [rd.args] at h |-;have dE:p.sign 0=sign ts 0:=hp.sign 0
   by_cases hb:sign ts 0=[41]
   ·rw [ab hb];have hm:=hp.aW (s:=[41]) aw;unfold Go.Xp.aW at hm;rw [ab hb] at hm;refine ⟨acc,p.aW [41],fun g hg=>?_,rfl,hm⟩;obtain ⟨g,rfl,hg⟩:=up hg;rw [u9,L (by rw [dE,hb];decide)]
   ·rw [L hb,L mz] at h |-
    by_cases hc:sign ts 0=[44]
    ·have lp:Go.Xp.aW p.e [44] ts=.ok ts.tail:=by unfold Go.Xp.aW;rw [ab hc]
     rw [lp] at h |-;simp only at h |-;obtain ⟨tb,C4,_⟩:=eo aw hc;have hn:=hp;rw [C4] at hn
     have hn:=hn.next
     rw [show p.e=p.next.e from rfl] at h |-
     cases he:rd p.next.e f (.expr d) ts.tail with
     | error x =>
      rw [he] at h
      have hx:x≠bd:=fun h0=>h (by rw [h0])
      obtain ⟨b,q,k1,k2⟩:=C.expr d ts.tail p.next hn.1 (by rw [he];intro h0;cases h0;exact hx rfl)
      rw [he] at k2;refine ⟨acc++[b],q,fun g hg=>?_,hn.tr (y:=.error x) k2⟩;obtain ⟨g,rfl,hg⟩:=up hg;rw [u9,ab (by rw [dE,hc]),k1 g aq];simp only;obtain ⟨g,rfl⟩:∃ g',g=g'+1:=⟨g - 1,by omega⟩;rw [u9,L (by rw [mC (b7.err k2)];decide),iI (b7.err k2) aw]
     | ok x =>
      obtain ⟨b',r'⟩:=x;rw [he] at h;simp only at h |-
      obtain ⟨b,q,k1,k2⟩:=C.expr d ts.tail p.next hn.1 (by rw [he];intro h0;cases h0)
      rw [he] at k2;obtain ⟨rfl,k2⟩:=k2;rw [<-k2.2.2] at h |-;obtain ⟨t3,q3,h3,h4⟩:=C.args d (acc++[b]) r' q (by simp) k2.1 h;refine ⟨t3,q3,fun g hg=>?_,kh.tr (hn.tr k2) h4⟩;obtain ⟨g,rfl,hg⟩:=up hg;rw [u9,ab (by rw [dE,hc]),k1 g aq];exact h3 g aq
    ·have lp:Go.Xp.aW p.e [44] ts=.error (7,place p.e ts):=by unfold Go.Xp.aW;rw [L hc]
     rw [lp];have hm:=hp.aW (s:=[41]) aw;unfold Go.Xp.aW at hm;rw [L hb] at hm;refine ⟨acc,p.aW [41],fun g hg=>?_,hm⟩;obtain ⟨g,rfl,hg⟩:=up hg;rw [u9,L (by rw [dE];exact hc)]
  ·rw [rd.args] at h |-;have dE:p.sign 0=sign ts 0:=hp.sign 0
   by_cases hb:sign ts 0=[41]
   ·rw [ab hb];have hm:=hp.aW (s:=[41]) aw;unfold Go.Xp.aW at hm;rw [ab hb] at hm;refine ⟨[],p.aW [41],fun g hg=>?_,rfl,hm⟩;obtain ⟨g,rfl,hg⟩:=up hg;rw [mL,ab (by rw [dE,hb])]
   ·rw [L hb,ab rfl] at h |-;simp only at h |-
    cases he:rd p.e f (.expr d) ts with
    | error x =>
     rw [he] at h
     have hx:x≠bd:=fun h0=>h (by rw [h0])
     obtain ⟨b,q,k1,k2⟩:=C.expr d ts p hp (by rw [he];intro h0;cases h0;exact hx rfl);rw [he] at k2;refine ⟨[b],q,fun g hg=>?_,k2⟩;obtain ⟨g,rfl,hg⟩:=up hg;rw [mL,L (by rw [dE];exact hb),k1 g aq];simp only;obtain ⟨g,rfl⟩:∃ g',g=g'+1:=⟨g - 1,by omega⟩;rw [u9,L (by rw [mC (b7.err k2)];decide),iI (b7.err k2) aw]
    | ok x =>
     obtain ⟨b',r'⟩:=x;rw [he] at h;simp only at h |-;obtain ⟨b,q,k1,k2⟩:=C.expr d ts p hp (by rw [he];intro h0;cases h0);rw [he] at k2;obtain ⟨rfl,k2⟩:=k2;rw [<-k2.2.2] at h |-;obtain ⟨t3,q3,h3,h4⟩:=C.args d ([]++[b]) r' q (by simp) k2.1 h;refine ⟨t3,q3,fun g hg=>?_,kh.tr k2 h4⟩;obtain ⟨g,rfl,hg⟩:=up hg;rw [mL,L (by rw [dE];exact hb),k1 g aq];exact h3 g aq
end Go.Sp
namespace Go.Xp
theorem Z6 (e:Int):∀ f,(∀ j ts,rd e f j ts=.error bd\/rd e (f+1) j ts=rd e f j ts)/\(∀ d acc ts,rd.args e f d acc ts=.error bd\/rd.args e (f+1) d acc ts=rd.args e f d acc ts):=by
 intro f
 induction f with
 | zero=>exact ⟨fun j ts=>.inl (by simp [rd]),fun d acc ts=>.inl (by simp [rd.args])⟩
 | succ f ih =>
  obtain ⟨i1,i2⟩:=ih;refine ⟨fun j ts=>?_,fun d acc ts=>?_⟩
  ·rw [rd.eq_def e (f+1+1),rd.eq_def e (f+1)]
   cases j with
   | expr d =>
    simp only;split
    ·exact .inr rfl
    ·exact i1 _ _
   | level k d =>
    simp only;split
    ·exact i1 _ _
    ·rcases i1 (.level (k+1) d) ts with h | h
     ·left;rw [h]
     ·rw [h]
      cases rd e f (.level (k+1) d) ts with
      | error x=>exact .inr rfl
      | ok r=>exact i1 _ _
   | loop k d out =>
    cases ts with
    | nil=>exact .inr rfl
    | cons t r =>
     simp only;split
     ·rcases i1 (.level (k+1) d) r with h | h
      ·left;rw [h]
      ·rw [h]
       cases rd e f (.level (k+1) d) r with
       | error x=>exact .inr rfl
       | ok r=>exact i1 _ _
     ·exact .inr rfl
   | operand d =>
    simp only;split
    ·exact .inr rfl
    ·cases ts with
     | nil=>exact .inr rfl
     | cons t r =>
      simp only;split
      ·split
       ·rcases i1 (.operand (d+1)) r with h | h
        ·left;rw [h]
        ·rw [h];exact .inr rfl
       ·split
        ·rcases i1 (.expr (d+1)) r with h | h
         ·left;rw [h]
         ·rw [h];exact .inr rfl
        ·exact .inr rfl
      ·split
       ·exact .inr rfl
       ·cases name e (t::r) with
        | error x=>exact .inr rfl
        | ok y =>
         obtain ⟨s,r⟩:=y;simp only;split
         ·rcases i1 (.expr (d+1)) r.tail with h | h
          ·left;rw [h]
          ·rw [h];exact .inr rfl
         ·split
          ·rcases i2 (d+1) [] r.tail with h | h
           ·left;rw [h]
           ·rw [h];exact .inr rfl
          ·exact .inr rfl
  ·rw [rd.args,rd.args];split
   ·exact .inr rfl
   ·cases (if acc=[] then .ok ts else aW e [44] ts:Except Er (List Tok)) with
    | error x=>exact .inr rfl
    | ok ts =>
     simp only
     rcases i1 (.expr d) ts with h | h
     ·left;rw [h]
     ·rw [h]
      cases rd e f (.expr d) ts with
      | error x=>exact .inr rfl
      | ok y=>exact i2 _ _ _
theorem KY {e:Int} {f f':Nat} {j:pY} {ts:List Tok} (h:rd e f j ts≠.error bd) (hf:f<=f'):rd e f' j ts=rd e f j ts:=by
 obtain ⟨k,rfl⟩:=Nat.exists_eq_add_of_le hf;clear hf
 induction k with
 | zero=>rfl
 | succ k ih =>
  rcases (Z6 e (f+k)).1 j ts with F | F
  ·rw [ih] at F;exact absurd F h
  ·rw [<-gn,F,ih]
theorem D0 {e:Int} {f d:Nat} {ts:List Tok} (h:20 * ts.length+12<=f):rd e f (.expr d) ts=expr e d ts:=by
 have h0:rd e (20 * ts.length+12) (.expr d) ts≠.error bd:=Ay (j:=.expr d) trivial (aE _);rw [KY h0 h];unfold expr nZ;exact (KY h0 aq).symm
def at3 (t:T):Prop:=t.n.kind=3->∃ a,t.kids=[a]
theorem PZ (e:Int):∀ f j,(∀ k d out,j≠.loop k d out)->∀ t r,rd e f j []≠.ok (t,r):=by
 intro f
 induction f with
 | zero=>intro j _ t r h;simp [rd] at h
 | succ f ih =>
  intro j hj t r h;rw [rd.eq_def] at h
  cases j with
  | expr d =>
   simp only at h;split at h
   ·cases h
   ·exact ih _ (fun k d out h=>by cases h) _ _ h
  | level k d =>
   simp only at h;split at h
   ·exact ih _ (fun k d out h=>by cases h) _ _ h
   ·split at h
    ·cases h
    ·rename_i he;exact ih _ (fun k d out h=>by cases h) _ _ he
  | loop k d out=>exact hj _ _ _ rfl
  | operand d =>
   simp only at h;split at h <;> cases h
theorem PY (e:Int):∀ f j ts t r,(∀ k d out,j=.loop k d out->at3 out)->rd e f j ts=.ok (t,r)->at3 t:=by
 intro f
 induction f with
 | zero=>intro j ts t r _ h;simp [rd] at h
 | succ f ih =>
  intro j ts t r hj h;rw [rd.eq_def] at h
  cases j with
  | expr d =>
   simp only at h;split at h
   ·cases h
   ·exact ih _ _ _ _ (fun k d out h=>by cases h) h
  | level k d =>
   simp only at h;split at h
   ·exact ih _ _ _ _ (fun k d out h=>by cases h) h
   ·split at h
    ·cases h
    ·rename_i out jV he;exact ih _ _ _ _ (fun k' d' abK nD=>by cases nD;exact ih _ _ _ _ (fun k d out h=>by cases h) he) h
  | loop k d out =>
   cases ts with
   | nil=>cases h;exact hj k d _ rfl
   | cons a r' =>
    simp only at h;split at h
    ·split at h
     ·cases h
     ·exact ih _ _ _ _ (fun k' d' abK nD=>by cases nD;intro h3;exact absurd h3 (by simp [one,T.n])) h
    ·cases h;exact hj k d _ rfl
  | operand d =>
   simp only at h;split at h
   ·cases h
   ·cases ts with
    | nil=>cases h
    | cons a r' =>
     simp only at h;split at h
     ·split at h
      ·split at h
       ·cases h
       ·cases h;intro h3;exact absurd h3 (by simp [one,T.n])
      ·split at h
       ·split at h
        ·cases h
        ·rename_i he;split at h
         ·cases h
         ·cases h;exact ih _ _ _ _ (fun k d out h=>by cases h) he
       ·cases h
     ·split at h
      ·cases h;intro h3;exact absurd h3 (by simp [T.n])
      ·split at h
       ·cases h
       ·split at h
        ·split at h
         ·cases h
         ·split at h
          ·cases h
          ·cases h;exact fun _=>⟨_,rfl⟩
        ·split at h
         ·split at h
          ·cases h
          ·cases h;intro h3;exact absurd h3 (by simp [one,T.n])
         ·cases h;intro h3;exact absurd h3 (by simp [one,T.n])
end Go.Xp
namespace Go.Sp
open Go.Xp
theorem ZL {d:Nat} {ts:List Tok} {p:RS} (hp:On p ts):∃ t q,mX d p=some (t,q)/\kh p q t (expr p.e d ts):=by
 have hl:ts.length<=p.l.length:=by rw [<-hp.rest,jv];omega
 have hf:rd p.e (20 * ts.length+12) (.expr d) ts≠.error bd:=Ay (j:=.expr d) trivial (aE _);obtain ⟨t,q,F,I⟩:=(je _).expr d ts p hp hf;rw [D0 (aE _)] at I;exact ⟨t,q,F _ (by unfold KF fe;omega),I⟩
theorem HL {d:Nat} {p:RS} (h:p.code≠0):mX d p=some (T.zero,p):=Ye h (by unfold fe;omega)
theorem PE {p:RS} (h:p.code≠0) {g d:Nat} (hg:2<=g):mS g (.block d) p=some (one 14 p.place [] [],p):=by
 obtain ⟨g,rfl⟩:∃ g',g=g'+2:=⟨g - 2,by omega⟩;rw [mS,sk h,iI h aw];simp only [mB,h,false_and,if_false];rw [iI h aw]
theorem Qe {p:RS} (h:p.code≠0) {g d:Nat} (hg:1<=g):mS g (.stmt d) p=some (one 12 p.place [] [T.zero],p):=by
 obtain ⟨g,rfl⟩:∃ g',g=g'+1:=⟨g - 1,by omega⟩;rw [mS,sk h];simp only [mC h];rw [L aw,L aw,L aw,L (fun x=>h x.1),HL h]
 have h03:¬ (T.zero.n.kind=3/\T.zero.n.at_=p.place/\p.sign 0=[61]):=fun x=>absurd x.1 aw
 simp only;rw [L h03,iI h aw]
structure JS' (f:Nat):Prop where
 block:∀ d ts p,On p ts->rs p.e f (.block d) ts≠.error bd->∃ t q,(∀ g,KF f<=g->mS g (.block d) p=some (t,q))/\kh p q t (rs p.e f (.block d) ts)
 stmt:∀ d ts p,On p ts->rs p.e f (.stmt d) ts≠.error bd->∃ t q,(∀ g,KF f<=g->mS g (.stmt d) p=some (t,q))/\kh p q t (rs p.e f (.stmt d) ts)
 body:∀ d acc ts p,On p ts->rs.body p.e f d acc ts≠.error bd->∃ t q,(∀ g,KF f<=g->mB g d acc p=some (t,q))/\kh p (q.aW [125]) t (rs.body p.e f d acc ts)
theorem Mt {d:Nat} {ts:List Tok} {p:RS} (hp:On p ts):(∃ t q r,mX d p=some (t,q)/\expr p.e d ts=.ok (t,r)/\b7 p q (.ok r))\/(∃ t q x,mX d p=some (t,q)/\expr p.e d ts=.error x/\b7 p q (.error x)):=by
 obtain ⟨t,q,F,I⟩:=ZL (d:=d) hp
 cases he:expr p.e d ts with
 | error x=>rw [he] at I;exact .inr ⟨t,q,x,F,rfl,I⟩
 | ok y =>
  obtain ⟨t',r⟩:=y;rw [he] at I;obtain ⟨rfl,I⟩:=I;exact .inl ⟨t,q,r,F,rfl,I⟩
theorem Aw {s:ae} {ts:List Tok} {p:RS} (hp:On p ts) (hs:s≠[]):(∃ r,Go.Xp.aW p.e s ts=.ok r/\b7 p (p.aW s) (.ok r))\/(∃ x,Go.Xp.aW p.e s ts=.error x/\b7 p (p.aW s) (.error x)):=by
 have h:=hp.aW hs
 cases he:Go.Xp.aW p.e s ts with
 | ok r=>rw [he] at h;exact .inl ⟨r,rfl,h⟩
 | error x=>rw [he] at h;exact .inr ⟨x,rfl,h⟩
theorem Vd {ts:List Tok} {p:RS} (hp:On p ts):(∃ r,Go.Xp.name p.e ts=.ok (p.name.1,r)/\b7 p p.name.2 (.ok r))\/(∃ x,Go.Xp.name p.e ts=.error x/\b7 p p.name.2 (.error x)):=by
 rcases hp.name with h | h
 ·cases he:Go.Xp.name p.e ts with
  | ok y =>
   obtain ⟨s,r⟩:=y;rw [he] at h;obtain ⟨rfl,h⟩:=h;exact .inl ⟨r,rfl,h⟩
  | error x=>rw [he] at h;exact .inr ⟨x,rfl,h⟩
 ·exact .inr h
theorem BI {d:Nat} {ts:List Tok} {p:RS} {b:ae} (hp:On p ts) (hb:b≠[]):∃ t q,mX d p=some (t,q)/\((∃ r r',expr p.e d ts=.ok (t,r)/\Go.Xp.aW p.e b r=.ok r'/\b7 p (q.aW b) (.ok r'))\/(∃ r x,expr p.e d ts=.ok (t,r)/\Go.Xp.aW p.e b r=.error x/\b7 p (q.aW b) (.error x))\/(∃ x,expr p.e d ts=.error x/\b7 p (q.aW b) (.error x))):=by
 rcases Mt (d:=d) hp with ⟨t,q,r,F,I,h3⟩ | ⟨t,q,x,F,I,h3⟩
 ·refine ⟨t,q,F,?_⟩
  rcases Aw h3.1 hb with ⟨r',h4,h5⟩ | ⟨x,h4,h5⟩
  ·rw [h3.2.2] at h4;exact .inl ⟨r,r',I,h4,h3.tr h5⟩
  ·rw [h3.2.2] at h4;exact .inr (.inl ⟨r,x,I,h4,h3.tr h5⟩)
 ·exact ⟨t,q,F,.inr (.inr ⟨x,I,by rw [iI h3.err hb];exact h3⟩)⟩
theorem On.oZ {ts:List Tok} {p:RS} (hp:On p ts):p.oZ=(match ts with | t::_=>decide (t.kind=2) | []=>false):=by
 have h:=hp.at 0;rw [Nat.add_zero] at h;unfold RS.oZ;rw [h]
 cases ts <;> rfl
theorem HC {d:Nat} {ts:List Tok} {p:RS} {a b:ae} (hp:On p ts) (ha:a≠[]) (hb:b≠[]):∃ t q,mX d (p.aW a)=some (t,q)/\((∃ r,inner p.e d a b ts=.ok (t,r)/\b7 p (q.aW b) (.ok r))\/∃ x,inner p.e d a b ts=.error x/\b7 p (q.aW b) (.error x)):=by
 unfold Go.Xp.inner
 rcases Aw hp ha with ⟨r,F,I⟩ | ⟨x,F,I⟩
 ·rw [F];obtain ⟨t,q,h3,h4⟩:=BI (d:=d) (b:=b) I.1 hb;rw [I.2.2] at h4;refine ⟨t,q,h3,?_⟩;simp only
  rcases h4 with ⟨r,r',k1,k2,k3⟩ | ⟨r,x,k1,k2,k3⟩ | ⟨x,k1,k3⟩
  ·rw [k1];simp only;rw [k2];exact .inl ⟨r',rfl,I.tr k3⟩
  ·rw [k1];simp only;rw [k2];exact .inr ⟨x,rfl,I.tr (y:=.error x) k3⟩
  ·rw [k1];exact .inr ⟨x,rfl,I.tr (y:=.error x) k3⟩
 ·rw [F];exact ⟨T.zero,p.aW a,HL I.err,.inr ⟨x,rfl,by rw [iI I.err hb];exact I⟩⟩
theorem Iq {d:Nat} {ts:List Tok} {p:RS} (hp:On p ts):∃ t q,mX d (p.name.2.aW [61])=some (t,q)/\((∃ r,mj p.e d ts=.ok ((p.name.1,t),r)/\b7 p (q.aW [59]) (.ok r))\/∃ x,mj p.e d ts=.error x/\b7 p (q.aW [59]) (.error x)):=by
 unfold Go.Xp.mj
 rcases Vd hp with ⟨r,F,I⟩ | ⟨x,F,I⟩
 ·rw [F];obtain ⟨t,q,h3,h4⟩:=HC (d:=d) (a:=[61]) (b:=[59]) I.1 aw aw;rw [I.2.2] at h4;refine ⟨t,q,h3,?_⟩;simp only
  rcases h4 with ⟨r,k1,k3⟩ | ⟨x,k1,k3⟩
  ·rw [k1];exact .inl ⟨r,rfl,I.tr k3⟩
  ·rw [k1];exact .inr ⟨x,rfl,I.tr (y:=.error x) k3⟩
 ·rw [F];refine ⟨T.zero,p.name.2,by rw [iI I.err aw];exact HL I.err,.inr ⟨x,rfl,by rw [iI I.err aw];exact I⟩⟩
theorem js (f:Nat):JS' f:=by
 induction f with
 | zero=>exact ⟨fun d ts p _ h=>absurd (by simp [rs]) h,fun d ts p _ h=>absurd (by simp [rs]) h,fun d acc ts p _ h=>absurd (by simp [rs.body]) h⟩
 | succ f C =>
  refine ⟨fun d ts p hp h=>?_,fun d ts p hp h=>?_,fun d acc ts p hp h=>?_⟩
  ·rw [rs] at h |-
   by_cases hd:d > 60
   ·rw [ab hd] at h |-;have hf:=hp.fail 9 p.place aw;refine ⟨one 14 (p.fail 9 p.place).place [] [],p.fail 9 p.place,fun g hg=>?_,by rw [<-hp.place];exact hf⟩
    have Xa:p.deep d=p.fail 9 p.place:=by unfold RS.deep;rw [ab hd]
    have:=PE (g:=g) (d:=d) hf.err (by unfold KF at hg;omega);obtain ⟨g,rfl,hg⟩:=up hg;rw [mS] at this |-;rw [sk hf.err] at this;rw [Xa];exact this
   ·rw [L hd] at h |-
    have eJ:p.deep d=p:=by unfold RS.deep;rw [L hd]
    rcases Aw hp (s:=[123]) aw with ⟨r,F,I⟩ | ⟨x,F,I⟩
    ·rw [F] at h |-;simp only at h |-;rw [<-I.2.2] at h |-
     have hb:rs.body (p.aW [123]).e f (d+1) [] r≠.error bd:=fun h0=>h (by rw [h0])
     obtain ⟨l,q,h3,h4⟩:=C.body (d+1) [] r (p.aW [123]) I.1 hb
     have cZ:place (p.aW [123]).e ts=p.place:=by rw [I.2.2,hp.place]
     refine ⟨one 14 p.place [] l,q.aW [125],fun g hg=>?_,?_⟩
     ·obtain ⟨g,rfl,hg⟩:=up hg;rw [mS,eJ,h3 g aq]
     ·cases he:rs.body (p.aW [123]).e f (d+1) [] r with
      | error x=>rw [he] at h4;exact I.tr (y:=.error x) h4
      | ok y=>obtain ⟨l',r'⟩:=y;rw [he] at h4;obtain ⟨rfl,h4⟩:=h4;rw [cZ];exact ⟨rfl,I.tr h4⟩
    ·rw [F] at h |-;refine ⟨one 14 p.place [] [],p.aW [123],fun g hg=>?_,I⟩;obtain ⟨g,rfl,hg⟩:=up hg;rw [mS,eJ];obtain ⟨g,rfl⟩:∃ g',g=g'+1:=⟨g - 1,by omega⟩;simp only [mB,I.err,false_and,if_false];rw [iI I.err aw]
  ·rw [rs] at h |-
   by_cases hd:d > 60
   ·rw [ab hd] at h |-;have hf:=hp.fail 9 p.place aw
    have Xa:p.deep d=p.fail 9 p.place:=by unfold RS.deep;rw [ab hd]
    refine ⟨one 12 (p.fail 9 p.place).place [] [T.zero],p.fail 9 p.place,fun g hg=>?_,by rw [<-hp.place];exact hf⟩;have:=Qe (g:=g) (d:=d) hf.err (by unfold KF at hg;omega);obtain ⟨g,rfl,hg⟩:=up hg;rw [mS] at this |-;rw [sk hf.err] at this;rw [Xa];exact this
   ·rw [L hd] at h |-
    have eJ:p.deep d=p:=by unfold RS.deep;rw [L hd]
    have dE:p.sign 0=sign ts 0:=hp.sign 0;have XH:p.sign 1=sign ts 1:=hp.sign 1;have cZ:=hp.place;simp only at h |-
    by_cases hv:sign ts 0=ja
    ·rw [ab hv];obtain ⟨tv,zC,_⟩:=eo aw hv;have hn:=hp;rw [zC] at hn
     have hn:=hn.next
     rw [show p.e=p.next.e from rfl]
     rcases Iq (d:=d+1) hn.1 with ⟨t,q,F,⟨r,I,h3⟩ | ⟨x,I,h3⟩⟩
     ·rw [I];refine ⟨one 13 p.place p.next.name.1 [t],q.aW [59],fun g hg=>?_,by rw [cZ];rfl,hn.tr h3⟩;obtain ⟨g,rfl,hg⟩:=up hg;rw [mS,eJ];rw [ab (by rw [dE,hv]),F]
     ·rw [I];refine ⟨one 13 p.place p.next.name.1 [t],q.aW [59],fun g hg=>?_,hn.tr (y:=.error x) h3⟩;obtain ⟨g,rfl,hg⟩:=up hg;rw [mS,eJ];rw [ab (by rw [dE,hv]),F]
    rw [L hv] at h |-
    by_cases hc:sign ts 0=eP\/sign ts 0=en
    ·rw [ab hc] at h |-
     obtain ⟨tv,zC,hk3,tZ⟩:∃ t,ts=t::ts.tail/\t.kind=3/\t.s=sign ts 0:=by
      rcases hc with hc | hc
      ·obtain ⟨t,F,I,h3⟩:=eo aw hc;exact ⟨t,F,I,h3.trans hc.symm⟩
      ·obtain ⟨t,F,I,h3⟩:=eo aw hc;exact ⟨t,F,I,h3.trans hc.symm⟩
     have hn:=hp;rw [zC] at hn
     have hn:=hn.next
     have uR:p.ck=if sign ts 0=eP then 9 else 10:=by unfold RS.ck;rw [dE]
     have key:∀ (t:T) (q:RS),(∀ g,KF f<=g->mS (g+1) (.cond p.place d) p=some (t,q))->∀ g,KF (f+1)<=g->mS g (.stmt d) p=some (t,q):=by
      intro t q hk g hg;obtain ⟨g,rfl,hg⟩:=up hg;rw [mS,eJ];rw [L (by rw [dE];exact hv),ab (by rw [dE];exact hc)];obtain ⟨g,rfl⟩:∃ g',g=g'+1:=⟨g - 1,by omega⟩;exact hk g aq
     rcases HC (d:=d+1) (a:=[40]) (b:=[41]) hn.1 aw aw with ⟨c,q,F,⟨r,I,h3⟩ | ⟨x,I,h3⟩⟩
     ·rw [show p.next.e=p.e from rfl] at I;rw [I] at h |-;simp only at h |-;have h3:=hn.tr h3
      have hb:rs p.e f (.block (d+1)) r≠.error bd:=fun h0=>h (by rw [h0])
      rw [<-h3.2.2] at hb;obtain ⟨b,q2,h4,h5⟩:=C.block (d+1) r (q.aW [41]) h3.1 hb;rw [h3.2.2] at h5
      cases he:rs p.e f (.block (d+1)) r with
      | error x =>
       rw [he] at h5;refine ⟨one p.ck p.place [] [c,b],q2,key _ _ fun g hg=>?_,h3.tr (y:=.error x) h5⟩;rw [mS,F];simp only;rw [h4 g hg];simp only;rw [L (by rw [mC (b7.err h5)];exact fun x=>absurd x.2 aw)]
      | ok y =>
       obtain ⟨b',r2⟩:=y;rw [he] at h5 h;obtain ⟨rfl,h5⟩:=h5;simp only at h |-;have h5:=h3.tr h5;have kj:q2.sign 0=sign r2 0:=h5.1.sign 0
       by_cases hi:sign ts 0=eP
       ·rw [ab hi] at h uR |-
        by_cases eB:sign r2 0=fi
        ·rw [ab eB] at h |-;obtain ⟨te,O6,_⟩:=eo aw eB;have b9:=h5.1;rw [O6] at b9
         have b9:=h5.tr b9.next
         have hb:rs p.e f (.block (d+1)) r2.tail≠.error bd:=fun h0=>h (by rw [h0])
         rw [<-b9.2.2] at hb
         obtain ⟨b2,q3,h6,h7⟩:=C.block (d+1) r2.tail q2.next b9.1 hb
         rw [b9.2.2] at h7;refine ⟨one p.ck p.place [] [c,b,b2],q3,key _ _ fun g hg=>?_,?_⟩
         ·rw [mS,F];simp only;rw [h4 g hg];simp only;rw [ab ⟨uR,by rw [kj,eB]⟩,h6 g hg]
         ·cases qL:rs p.e f (.block (d+1)) r2.tail with
          | error x=>rw [qL] at h7;exact b9.tr (y:=.error x) h7
          | ok y=>obtain ⟨b3,r3⟩:=y;rw [qL] at h7;obtain ⟨rfl,h7⟩:=h7;exact ⟨by rw [uR,cZ],b9.tr h7⟩
        ·rw [L eB];refine ⟨one p.ck p.place [] [c,b],q2,key _ _ fun g hg=>?_,by rw [uR,cZ],h5⟩;rw [mS,F];simp only;rw [h4 g hg];simp only;rw [L (fun x=>eB (by rw [<-kj];exact x.2))]
       ·rw [L hi] at uR |-;refine ⟨one p.ck p.place [] [c,b],q2,key _ _ fun g hg=>?_,by rw [uR,cZ],h5⟩;rw [mS,F];simp only;rw [h4 g hg];simp only;rw [L (by rw [uR];exact fun x=>absurd x.1 aw)]
     ·rw [show p.next.e=p.e from rfl] at I;rw [I] at h |-;have h3:=hn.tr (y:=.error x) h3;refine ⟨one p.ck p.place [] [c,one 14 (q.aW [41]).place [] []],q.aW [41],key _ _ fun g hg=>?_,h3⟩;rw [mS,F];simp only;rw [PE h3.err (by unfold KF at hg;omega)];simp only;rw [L (by rw [mC h3.err];exact fun x=>absurd x.2 aw)]
    rw [L hc] at h |-
    have G7:¬ (p.sign 0=eP\/p.sign 0=en):=by rw [dE];exact hc
    by_cases hr:sign ts 0=dV
    ·rw [ab hr];obtain ⟨tv,zC,_⟩:=eo aw hr;have hn:=hp;rw [zC] at hn
     have hn:=hn.next
     obtain ⟨t,q,F,I⟩:=BI (d:=d+1) (b:=[59]) hn.1 aw;rw [show p.next.e=p.e from rfl] at I;refine ⟨one 11 p.place [] [t],q.aW [59],fun g hg=>?_,?_⟩
     ·obtain ⟨g,rfl,hg⟩:=up hg;rw [mS,eJ];rw [L (by rw [dE];exact hv),L G7,ab (by rw [dE,hr]),F]
     ·rcases I with ⟨r,r',I,h3,h4⟩ | ⟨r,x,I,h3,h4⟩ | ⟨x,I,h4⟩
      ·rw [I];simp only;rw [h3];exact ⟨by rw [cZ],hn.tr h4⟩
      ·rw [I];simp only;rw [h3];exact hn.tr (y:=.error x) h4
      ·rw [I];exact hn.tr (y:=.error x) h4
    rw [L hr] at h |-
    have Ko:¬ p.sign 0=dV:=by rw [dE];exact hr
    have Kp:¬ p.sign 0=ja:=by rw [dE];exact hv
    have eK:=hp.oZ
    cases ts with
    | nil =>
     have mb:¬ (p.code=0/\p.oZ=true/\p.sign 1=[61]):=fun hx=>by have:=hx.2.1;rw [eK] at this;cases this
     rcases Mt (d:=d+1) hp with ⟨t,q,r,F,I,h3⟩ | ⟨t,q,x,F,I,h3⟩
     ·exact absurd I (PZ _ _ _ (fun k d out h=>by cases h) _ _)
     ·have ma:¬ (t.n.kind=3/\t.n.at_=p.place/\q.sign 0=[61]):=by rw [mC h3.err];exact fun x=>absurd x.2.2 aw
      refine ⟨one 12 p.place [] [t],q.aW [59],fun g hg=>?_,by unfold simple;rw [I,iI h3.err aw];exact h3⟩;obtain ⟨g,rfl,hg⟩:=up hg;rw [mS,eJ];rw [L Kp,L G7,L Ko,L mb,F];simp only;rw [L ma]
    | cons a r0 =>
     simp only [simple] at h |-;simp only at eK
     by_cases bR:a.kind=2/\sign (a::r0) 1=[61]
     ·rw [ab bR];have mb:p.code=0/\p.oZ=true/\p.sign 1=[61]:=⟨hp.code,by rw [eK];simpa using bR.1,by rw [XH];exact bR.2⟩
      rcases Iq (d:=d+1) hp with ⟨t,q,F,⟨r,I,h3⟩ | ⟨x,I,h3⟩⟩
      ·rw [I];refine ⟨one 7 p.place p.name.1 [t],q.aW [59],fun g hg=>?_,by rw [cZ];rfl,h3⟩;obtain ⟨g,rfl,hg⟩:=up hg;rw [mS,eJ];rw [L Kp,L G7,L Ko,ab mb,F]
      ·rw [I];refine ⟨one 7 p.place p.name.1 [t],q.aW [59],fun g hg=>?_,h3⟩;obtain ⟨g,rfl,hg⟩:=up hg;rw [mS,eJ];rw [L Kp,L G7,L Ko,ab mb,F]
     ·rw [L bR]
      have mb:¬ (p.code=0/\p.oZ=true/\p.sign 1=[61]):=fun hx=>bR ⟨by have:=hx.2.1;rw [eK] at this;simpa using this,by rw [<-XH];exact hx.2.2⟩
      have L9:p.place=a.at_:=cZ
      rcases Mt (d:=d+1) hp with ⟨t,q,r,F,I,h3⟩ | ⟨t,q,x,F,I,h3⟩
      ·rw [I];simp only;have kj:q.sign 0=sign r 0:=h3.1.sign 0
       by_cases kD:t.n.kind=3/\t.n.at_=a.at_/\sign r 0=[61]
       ·rw [ab kD]
        have ma:t.n.kind=3/\t.n.at_=p.place/\q.sign 0=[61]:=by rw [L9,kj];exact kD
        obtain ⟨te,O6,_⟩:=eo aw kD.2.2;have hn:=h3.1;rw [O6] at hn
        have hn:=h3.tr hn.next
        obtain ⟨ix,zt⟩:=PY _ _ _ _ _ _ (fun k d out hj=>by cases hj) I kD.1
        have gD:∀ jV,Go.Xp.inner p.e (d+1) [61] [59] jV=Go.Xp.inner p.e (d+1) [61] [59] jV:=fun _=>rfl
        have lp:Go.Xp.aW p.e [61] r=.ok r.tail:=by unfold Go.Xp.aW;rw [ab kD.2.2]
        obtain ⟨v,q2,h4,h5⟩:=BI (d:=d+1) (b:=[59]) hn.1 aw;rw [hn.2.2] at h5;refine ⟨one 8 p.place t.n.s [ix,v],q2.aW [59],fun g hg=>?_,?_⟩
        ·obtain ⟨g,rfl,hg⟩:=up hg;rw [mS,eJ];rw [L Kp,L G7,L Ko,L mb,F];simp only;rw [ab ma,zt,h4]
        ·unfold Go.Xp.inner;rw [lp];simp only
         rcases h5 with ⟨r2,r',I,h3,h4⟩ | ⟨r2,x,I,h3,h4⟩ | ⟨x,I,h4⟩
         ·rw [I];simp only;rw [h3];exact ⟨by rw [L9,zt];rfl,hn.tr h4⟩
         ·rw [I];simp only;rw [h3];exact hn.tr (y:=.error x) h4
         ·rw [I];exact hn.tr (y:=.error x) h4
       ·rw [L kD]
        have ma:¬ (t.n.kind=3/\t.n.at_=p.place/\q.sign 0=[61]):=by rw [L9,kj];exact kD
        refine ⟨one 12 p.place [] [t],q.aW [59],fun g hg=>?_,?_⟩
        ·obtain ⟨g,rfl,hg⟩:=up hg;rw [mS,eJ];rw [L Kp,L G7,L Ko,L mb,F];simp only;rw [L ma]
        ·rcases Aw h3.1 (s:=[59]) aw with ⟨r',h4,h5⟩ | ⟨x,h4,h5⟩
         ·rw [h3.2.2] at h4;rw [h4];exact ⟨by rw [L9],h3.tr h5⟩
         ·rw [h3.2.2] at h4;rw [h4];exact h3.tr (y:=.error x) h5
      ·rw [I]
       have ma:¬ (t.n.kind=3/\t.n.at_=p.place/\q.sign 0=[61]):=by rw [mC h3.err];exact fun x=>absurd x.2.2 aw
       refine ⟨one 12 p.place [] [t],q.aW [59],fun g hg=>?_,by rw [iI h3.err aw];exact h3⟩;obtain ⟨g,rfl,hg⟩:=up hg;rw [mS,eJ];rw [L Kp,L G7,L Ko,L mb,F];simp only;rw [L ma]
  ·rw [rs.body] at h |-;have dE:p.sign 0=sign ts 0:=hp.sign 0
   by_cases hb:sign ts 0=[125]
   ·rw [ab hb];have hm:=hp.aW (s:=[125]) aw;unfold Go.Xp.aW at hm;rw [ab hb] at hm;refine ⟨acc,p,fun g hg=>?_,rfl,hm⟩;obtain ⟨g,rfl,hg⟩:=up hg;rw [mB,L (fun h0=>h0.2 (by rw [dE,hb]))]
   ·rw [L hb] at h |-
    have hs:rs p.e f (.stmt d) ts≠.error bd:=fun h0=>h (by rw [h0])
    obtain ⟨a,q,F,I⟩:=C.stmt d ts p hp hs;have hc:p.code=0/\¬ p.sign 0=[125]:=⟨hp.code,by rw [dE];exact hb⟩
    cases he:rs p.e f (.stmt d) ts with
    | error x =>
     rw [he] at I h;refine ⟨acc++[a],q,fun g hg=>?_,by rw [iI (b7.err I) aw];exact I⟩;obtain ⟨g,rfl,hg⟩:=up hg;rw [mB,ab hc,F g aq];simp only;obtain ⟨g,rfl⟩:∃ g',g=g'+1:=⟨g - 1,by omega⟩;rw [mB,L (fun h0=>b7.err I h0.1)]
    | ok y =>
     obtain ⟨a',r⟩:=y;rw [he] at I h;obtain ⟨rfl,I⟩:=I;simp only at h |-;rw [<-I.2.2] at h |-;obtain ⟨l,q3,h3,h4⟩:=C.body d (acc++[a]) r q I.1 h;refine ⟨l,q3,fun g hg=>?_,kh.tr I h4⟩;obtain ⟨g,rfl,hg⟩:=up hg;rw [mB,ab hc,F g aq];exact h3 g aq
end Go.Sp
namespace Go.Im
open Go.Xp Go.Sp
def tok (p:RS) (k:Nat):Tok:=match p.l[p.i+k]? with | some t=>t | none=>⟨0,0,[],p.e⟩
def is (p:RS) (k:Nat) (s:ae):Bool:=(tok p k).kind==3&&(tok p k).s==s
def lE (p:RS):RS:=p.fail 7 (tok p 0).at_
def want (p:RS) (s:ae):RS:=if p.code=0 then (if is p 0 s=true then p.next else lE p) else p
def bL (p:RS):RS:=if p.code=0 then (if (tok p 0).kind=2 then (if (tok p 0).s.length > 12 then p.fail 8 (tok p 0).at_ else p.next) else lE p) else p
def cr (p:RS) (d:Nat):RS:=if d > 60 then p.fail 9 (tok p 0).at_ else p
mutual
def iE:Nat->pY->RS->Option (T × RS)
 | 0,_,_=>none
 | f+1,.expr d,p=>if (cr p d).code=0 then iE f (.level 0 (d+1)) (cr p d) else some (T.zero,cr p d)
 | f+1,.level k d,p =>
  if k=9 then iE f (.operand d) p
  else match iE f (.level (k+1) d) p with
   | none=>none
   | some (out,p)=>iE f (.loop k d out) p
 | f+1,.loop k d out,p =>
  if p.code=0/\(tok p 0).kind=3/\(levels.getD k []).contains (tok p 0).s=true then
   match iE f (.level (k+1) d) p.next with
   | none=>none
   | some (b,q)=>iE f (.loop k d (one 6 (tok p 0).at_ (tok p 0).s [out,b])) q
  else some (out,p)
 | f+1,.operand d,p =>
  if (cr p d).code=0 then
   if is p 0 [45]=true\/is p 0 [33]=true\/is p 0 [126]=true then match iE f (.operand (d+1)) p.next with
    | none=>none
    | some (a,q)=>some (one 5 (tok p 0).at_ (tok p 0).s [a],q)
   else if (tok p 0).kind=1 then some (.mk ⟨1,(tok p 0).at_,(tok p 0).n,[],[]⟩ [],p.next)
   else if is p 0 [40]=true then match iE f (.expr (d+1)) p.next with
    | none=>none
    | some (a,q)=>some (a,want q [41])
   else if (bL p).code=0 then
    if is (bL p) 0 [91]=true then match iE f (.expr (d+1)) (bL p).next with
     | none=>none
     | some (a,q)=>some (one 3 (tok p 0).at_ (tok p 0).s [a],want q [93])
    else if is (bL p) 0 [40]=true then match iA f (d+1) [] (bL p).next with
     | none=>none
     | some (l,q)=>some (one 4 (tok p 0).at_ (tok p 0).s l,q)
    else some (one 2 (tok p 0).at_ (tok p 0).s [],bL p)
   else some (one 2 (tok p 0).at_ (tok p 0).s [],bL p)
  else some (T.zero,cr p d)
def iA:Nat->Nat->List T->RS->Option (List T × RS)
 | 0,_,_,_=>none
 | f+1,d,acc,p =>
  if p.code=0/\is p 0 [41]=false then match iE f (.expr d) (if acc.length=0 then p else want p [44]) with
   | none=>none
   | some (a,q)=>iA f d (acc++[a]) q
  else some (acc,want p [41])
end
section
variable {p q:RS} {ts r:List Tok}
theorem On.tok (h:On p ts) (k:Nat):tok p k=(match ts[k]? with | some t=>t | none=>⟨0,0,[],p.e⟩):=by unfold Im.tok;rw [h.at]
theorem On.rL (h:On p ts):(Im.tok p 0).at_=Go.Xp.place p.e ts:=by
 rw [On.tok h]
 cases ts with
 | nil=>rfl
 | cons t r=>rfl
theorem On.is (h:On p ts) (k:Nat) {s:ae} (hs:s≠[]):is p k s=decide (sign ts k=s):=by
 unfold Im.is
 have he:sign ts k=(if (Im.tok p k).kind=3 then (Im.tok p k).s else []):=by
  unfold Go.Xp.sign;rw [On.tok h]
  cases hk:ts[k]? with
  | none=>simp
  | some t=>rfl
 rw [he]
 by_cases h3:(Im.tok p k).kind=3
 ·rw [ab h3,Bool.eq_iff_iff];simp [h3]
 ·rw [L h3,Bool.eq_iff_iff];simp [h3];exact hs
theorem hY (h:p.code≠0) (s:ae):want p s=p:=by unfold want;rw [L h]
theorem CD (h:p.code≠0) (d:Nat):cr p d=p:=by unfold cr;split <;> simp [uM h]
theorem PJ (h:p.code≠0):bL p=p:=by unfold bL;rw [L h]
theorem On.lE (h:On p ts):b7 p (lE p) (.error (7,place p.e ts)):=by
 unfold Im.lE;rw [On.rL h];exact h.fail 7 _ aw
theorem On.want (h:On p ts) {s:ae} (hs:s≠[]):b7 p (want p s) (Go.Xp.aW p.e s ts):=by
 unfold Im.want Go.Xp.aW;rw [ab h.code,On.is h 0 hs]
 by_cases h0:sign ts 0=s
 ·rw [ab (by simpa using h0),ab h0];obtain ⟨t,ht,_⟩:=eo hs h0;rw [ht] at h
  exact h.next
 ·rw [L (by simpa using h0),L h0];exact On.lE h
theorem nz (h:On p ts) {s:ae} (hs:s≠[]):(∃ r,Go.Xp.aW p.e s ts=.ok r/\b7 p (Im.want p s) (.ok r))\/(∃ x,Go.Xp.aW p.e s ts=.error x/\b7 p (Im.want p s) (.error x)):=by
 have h:=On.want h hs
 cases he:Go.Xp.aW p.e s ts with
 | ok r=>rw [he] at h;exact .inl ⟨r,rfl,h⟩
 | error x=>rw [he] at h;exact .inr ⟨x,rfl,h⟩
theorem va (h:On p ts):(∃ r,Go.Xp.name p.e ts=.ok ((Im.tok p 0).s,r)/\b7 p (Im.bL p) (.ok r))\/(∃ x,Go.Xp.name p.e ts=.error x/\b7 p (Im.bL p) (.error x)):=by
 have ht:=On.tok h 0;have hw:=On.lE h;unfold Im.bL;rw [ab h.code]
 cases ts with
 | nil =>
  simp only [List.getElem?_nil] at ht;rw [ht];exact .inr ⟨_,rfl,by rw [L (by simp)];exact hw⟩
 | cons t r =>
  simp only [getElem?_cons_zero] at ht;rw [ht];simp only [Go.Xp.name]
  by_cases I:t.kind=2
  ·rw [ab I,ab I]
   by_cases hl:t.s.length > 12
   ·rw [ab hl,ab hl];exact .inr ⟨_,rfl,h.fail 8 _ aw⟩
   ·rw [L hl,L hl];exact .inl ⟨r,rfl,h.next⟩
  ·rw [L I,L I];exact .inr ⟨_,rfl,hw⟩
theorem HA (h:p.code≠0) {g d:Nat} (hg:1<=g):iE g (.expr d) p=some (T.zero,p):=by
 obtain ⟨g,rfl⟩:∃ g',g=g'+1:=⟨g - 1,by omega⟩;rw [iE,CD h,L h]
theorem Pf (h:p.code≠0) {g k d:Nat} {out:T} (hg:1<=g):iE g (.loop k d out) p=some (out,p):=by
 obtain ⟨g,rfl⟩:∃ g',g=g'+1:=⟨g - 1,by omega⟩;rw [iE,L (fun h0=>h h0.1)]
end
structure IE (f:Nat):Prop where
 expr:∀ d ts p,On p ts->rd p.e f (.expr d) ts≠.error bd->∃ t q,(∀ g,f+2<=g->iE g (.expr d) p=some (t,q))/\kh p q t (rd p.e f (.expr d) ts)
 level:∀ k d ts p,k<=9->On p ts->rd p.e f (.level k d) ts≠.error bd->∃ t q,(∀ g,f+2<=g->iE g (.level k d) p=some (t,q))/\kh p q t (rd p.e f (.level k d) ts)
 loop:∀ k d out ts p,k < 9->On p ts->rd p.e f (.loop k d out) ts≠.error bd->∃ t q,(∀ g,f+2<=g->iE g (.loop k d out) p=some (t,q))/\kh p q t (rd p.e f (.loop k d out) ts)
 operand:∀ d ts p,On p ts->rd p.e f (.operand d) ts≠.error bd->∃ t q,(∀ g,f+2<=g->iE g (.operand d) p=some (t,q))/\kh p q t (rd p.e f (.operand d) ts)
 args:∀ d acc ts p,On p ts->rd.args p.e f d acc ts≠.error bd->∃ t q,(∀ g,f+2<=g->iA g d acc p=some (t,q))/\kh p q t (rd.args p.e f d acc ts)
theorem nr {f g:Nat} (h:f+1+2<=g):∃ g',g=g'+1/\f+2<=g':=⟨g - 1,by omega,by omega⟩
theorem ie (f:Nat):IE f:=by
 induction f with
 | zero =>
  refine ⟨fun d ts p _ h=>absurd ?_ h,fun k d ts p _ _ h=>absurd ?_ h,fun k d out ts p _ _ h=>absurd ?_ h,fun d ts p _ h=>absurd ?_ h,fun d acc ts p _ h=>absurd ?_ h⟩ <;> simp [rd,rd.args]
 | succ f C =>
  refine ⟨fun d ts p hp h=>?_,fun k d ts p hk hp h=>?_,fun k d out ts p hk hp h=>?_,fun d ts p hp h=>?_,fun d acc ts p hp h=>?_⟩
  ·rw [rd] at h |-
   by_cases hd:d > 60
   ·rw [ab hd] at h |-;have hf:=hp.fail 9 (tok p 0).at_ aw;refine ⟨T.zero,p.fail 9 (tok p 0).at_,fun g hg=>?_,by rw [<-On.rL hp];exact hf⟩;obtain ⟨g,rfl,hg⟩:=nr hg
    have ic:cr p d=p.fail 9 (tok p 0).at_:=by unfold cr;rw [ab hd]
    rw [iE,ic,L hf.err]
   ·rw [L hd] at h |-
    have ic:cr p d=p:=by unfold cr;rw [L hd]
    obtain ⟨t,q,F,I⟩:=C.level 0 (d+1) ts p aq hp h;refine ⟨t,q,fun g hg=>?_,I⟩;obtain ⟨g,rfl,hg⟩:=nr hg;rw [iE,ic,ab hp.code];exact F g aq
  ·rw [rd] at h |-
   by_cases h9:k=9
   ·rw [ab h9] at h |-;obtain ⟨t,q,F,I⟩:=C.operand d ts p hp h;refine ⟨t,q,fun g hg=>?_,I⟩;obtain ⟨g,rfl,hg⟩:=nr hg;rw [iE,ab h9];exact F g aq
   ·rw [L h9] at h |-
    cases he:rd p.e f (.level (k+1) d) ts with
    | error x =>
     rw [he] at h
     have hx:x≠bd:=fun h0=>h (by rw [h0])
     obtain ⟨t,q,F,I⟩:=C.level (k+1) d ts p aq hp (by rw [he];intro h0;cases h0;exact hx rfl);rw [he] at I;refine ⟨t,q,fun g hg=>?_,I⟩;obtain ⟨g,rfl,hg⟩:=nr hg;rw [iE,L h9,F g aq];exact Pf (b7.err I) aq
    | ok r =>
     obtain ⟨t',r⟩:=r;rw [he] at h;simp only at h |-;obtain ⟨t,q,F,I⟩:=C.level (k+1) d ts p aq hp (by rw [he];intro h0;cases h0);rw [he] at I;obtain ⟨rfl,I⟩:=I;rw [<-I.2.2] at h |-;obtain ⟨t3,q3,h3,h4⟩:=C.loop k d t r q aq I.1 h;refine ⟨t3,q3,fun g hg=>?_,kh.tr I h4⟩;obtain ⟨g,rfl,hg⟩:=nr hg;rw [iE,L h9,F g aq];exact h3 g aq
  ·cases ts with
   | nil =>
    rw [rd];refine ⟨out,p,fun g hg=>?_,rfl,hp.self⟩;obtain ⟨g,rfl,hg⟩:=nr hg;rw [iE,L];rintro ⟨_,h0,_⟩;rw [On.tok hp] at h0;simp at h0
   | cons t r =>
    rw [rd] at h |-
    have ht:tok p 0=t:=by rw [On.tok hp];rfl
    by_cases hc:t.kind=3/\t.s∈levels.getD k []
    ·rw [ab hc] at h |-
     have hn:=hp.next
     have oG:p.code=0/\(tok p 0).kind=3/\(levels.getD k []).contains (tok p 0).s=true:=by rw [ht];exact ⟨hp.code,hc.1,by simpa using hc.2⟩
     rw [show p.e=p.next.e from rfl] at h |-
     cases he:rd p.next.e f (.level (k+1) d) r with
     | error x =>
      rw [he] at h
      have hx:x≠bd:=fun h0=>h (by rw [h0])
      obtain ⟨b,q,F,I⟩:=C.level (k+1) d r p.next aq hn.1 (by rw [he];intro h0;cases h0;exact hx rfl)
      rw [he] at I;refine ⟨one 6 t.at_ t.s [out,b],q,fun g hg=>?_,hn.tr (y:=.error x) I⟩;obtain ⟨g,rfl,hg⟩:=nr hg;rw [iE,ab oG,F g aq,ht];exact Pf (b7.err I) aq
     | ok x =>
      obtain ⟨b',r'⟩:=x;rw [he] at h;simp only at h |-
      obtain ⟨b,q,F,I⟩:=C.level (k+1) d r p.next aq hn.1 (by rw [he];intro h0;cases h0)
      rw [he] at I;obtain ⟨rfl,I⟩:=I;rw [<-I.2.2] at h |-;obtain ⟨t3,q3,h3,h4⟩:=C.loop k d (one 6 t.at_ t.s [out,b]) r' q hk I.1 h;refine ⟨t3,q3,fun g hg=>?_,kh.tr (hn.tr I) h4⟩;obtain ⟨g,rfl,hg⟩:=nr hg;rw [iE,ab oG,F g aq,ht];exact h3 g aq
    ·rw [L hc];refine ⟨out,p,fun g hg=>?_,rfl,hp.self⟩;obtain ⟨g,rfl,hg⟩:=nr hg;rw [iE,L];rw [ht];rintro ⟨_,h0,F⟩;exact hc ⟨h0,by simpa using F⟩
  ·rw [rd.eq_def] at h |-;simp only at h |-
   by_cases hd:d > 60
   ·rw [ab hd] at h |-;have hf:=hp.fail 9 (tok p 0).at_ aw;refine ⟨T.zero,p.fail 9 (tok p 0).at_,fun g hg=>?_,by rw [<-On.rL hp];exact hf⟩;obtain ⟨g,rfl,hg⟩:=nr hg
    have ic:cr p d=p.fail 9 (tok p 0).at_:=by unfold cr;rw [ab hd]
    rw [iE,ic,L hf.err]
   ·rw [L hd] at h |-
    have ic:cr p d=p:=by unfold cr;rw [L hd]
    have hi:∀ s:ae,s≠[]->is p 0 s=decide (sign ts 0=s):=fun s hs=>On.is hp 0 hs
    cases ts with
    | nil =>
     simp only
     have ht:tok p 0=⟨0,0,[],p.e⟩:=by rw [On.tok hp];rfl
     have da:∀ s:ae,s≠[]->is p 0 s=false:=fun s hs=>by rw [hi s hs];exact decide_eq_false (fun h=>hs h.symm)
     have CY:bL p=p.fail 7 p.e:=by unfold bL;rw [ab hp.code,ht,L (by simp)];unfold lE;rw [ht]
     have hf:=hp.fail 7 p.e aw;refine ⟨one 2 p.e [] [],p.fail 7 p.e,fun g hg=>?_,hf⟩;obtain ⟨g,rfl,hg⟩:=nr hg;rw [iE,ic,ab hp.code,da _ aw,da _ aw,da _ aw,L aw,L (by rw [ht];simp),da _ aw,L aw,CY,L hf.err,ht]
    | cons t r =>
     simp only at h |-
     have ht:tok p 0=t:=by rw [On.tok hp];rfl
     have hn:=hp.next
     by_cases h3:t.kind=3
     ·rw [ab h3] at h |-
      have dE:sign (t::r) 0=t.s:=by simp only [sign,getElem?_cons_zero,bH,h3,if_true]
      have CL:¬ t.kind=1:=by omega
      have qh:∀ s:ae,s≠[]->is p 0 s=decide (t.s=s):=fun s hs=>by rw [hi s hs,dE]
      by_cases hu:t.s=[45]\/t.s=[33]\/t.s=[126]
      ·rw [ab hu] at h |-
       have vG:is p 0 [45]=true\/is p 0 [33]=true\/is p 0 [126]=true:=by
        rw [qh _ aw,qh _ aw,qh _ aw];simpa using hu
       rw [show p.e=p.next.e from rfl] at h |-
       cases he:rd p.next.e f (.operand (d+1)) r with
       | error x =>
        rw [he] at h
        have hx:x≠bd:=fun h0=>h (by rw [h0])
        obtain ⟨b,q,F,I⟩:=C.operand (d+1) r p.next hn.1 (by rw [he];intro h0;cases h0;exact hx rfl)
        rw [he] at I;refine ⟨one 5 t.at_ t.s [b],q,fun g hg=>?_,hn.tr (y:=.error x) I⟩;obtain ⟨g,rfl,hg⟩:=nr hg;rw [iE,ic,ab hp.code,ab vG,F g aq,ht]
       | ok x =>
        obtain ⟨b',r'⟩:=x;rw [he] at h;simp only at h |-
        obtain ⟨b,q,F,I⟩:=C.operand (d+1) r p.next hn.1 (by rw [he];intro h0;cases h0)
        rw [he] at I;obtain ⟨rfl,I⟩:=I;refine ⟨one 5 t.at_ t.s [b],q,fun g hg=>?_,rfl,hn.tr I⟩;obtain ⟨g,rfl,hg⟩:=nr hg;rw [iE,ic,ab hp.code,ab vG,F g aq,ht]
      ·rw [L hu] at h |-
       have vG:¬ (is p 0 [45]=true\/is p 0 [33]=true\/is p 0 [126]=true):=by
        rw [qh _ aw,qh _ aw,qh _ aw];simpa using hu
       by_cases hb:t.s=[40]
       ·rw [ab hb] at h |-
        have bD:is p 0 [40]=true:=by rw [qh _ aw];simpa using hb
        rw [show p.e=p.next.e from rfl] at h |-
        cases he:rd p.next.e f (.expr (d+1)) r with
        | error x =>
         rw [he] at h
         have hx:x≠bd:=fun h0=>h (by rw [h0])
         obtain ⟨b,q,F,I⟩:=C.expr (d+1) r p.next hn.1 (by rw [he];intro h0;cases h0;exact hx rfl)
         rw [he] at I;refine ⟨b,want q [41],fun g hg=>?_,?_⟩
         ·obtain ⟨g,rfl,hg⟩:=nr hg;rw [iE,ic,ab hp.code,L vG,L (by rw [ht];exact CL),ab bD,F g aq]
         ·rw [hY (b7.err I)];exact hn.tr (y:=.error x) I
        | ok x =>
         obtain ⟨b',r'⟩:=x;rw [he] at h;simp only at h |-
         obtain ⟨b,q,F,I⟩:=C.expr (d+1) r p.next hn.1 (by rw [he];intro h0;cases h0)
         rw [he] at I;obtain ⟨rfl,I⟩:=I;have aY:=(hn.tr I).tr (On.want I.1 (s:=[41]) aw);rw [I.2.2] at aY;refine ⟨b,want q [41],fun g hg=>?_,?_⟩
         ·obtain ⟨g,rfl,hg⟩:=nr hg;rw [iE,ic,ab hp.code,L vG,L (by rw [ht];exact CL),ab bD,F g aq]
         ·cases tu:aW p.next.e [41] r' with
          | error x=>rw [tu] at aY;exact aY
          | ok r2=>rw [tu] at aY;exact ⟨rfl,aY⟩
       ·rw [L hb] at h |-
        have bD:¬ is p 0 [40]=true:=by rw [qh _ aw];simpa using hb
        have CY:bL p=p.fail 7 t.at_:=by unfold bL;rw [ab hp.code,ht,L aq];unfold lE;rw [ht]
        have hf:=hp.fail 7 t.at_ aw;refine ⟨one 2 t.at_ t.s [],p.fail 7 t.at_,fun g hg=>?_,hf⟩;obtain ⟨g,rfl,hg⟩:=nr hg;rw [iE,ic,ab hp.code,L vG,L (by rw [ht];exact CL),L bD,CY,L hf.err,ht]
     ·rw [L h3] at h |-
      have da:∀ s:ae,s≠[]->is p 0 s=false:=fun s hs=>by unfold is;rw [ht];simp [h3]
      have vG:¬ (is p 0 [45]=true\/is p 0 [33]=true\/is p 0 [126]=true):=by rw [da _ aw,da _ aw,da _ aw];decide
      by_cases F:t.kind=1
      ·rw [ab F];refine ⟨_,p.next,fun g hg=>?_,rfl,hn⟩;obtain ⟨g,rfl,hg⟩:=nr hg;rw [iE,ic,ab hp.code,L vG,ab (by rw [ht];exact F),ht]
      ·rw [L F] at h |-
       have dq:¬ (tok p 0).kind=1:=by rw [ht];exact F
       have bD:¬ is p 0 [40]=true:=by rw [da _ aw];decide
       rcases va hp with ⟨r',k1,k2⟩ | ⟨x,k1,k2⟩
       ·rw [k1] at h |-;simp only at h |-
        have tU:∀ s:ae,s≠[]->is (bL p) 0 s=decide (sign r' 0=s):=fun s hs=>On.is k2.1 0 hs
        by_cases hb:sign r' 0=[91]
        ·rw [ab hb] at h |-
         have wR:is (bL p) 0 [91]=true:=by rw [tU _ aw];simpa using hb
         obtain ⟨tb,C4,_⟩:=eo aw hb;have b9:=k2.1;rw [C4] at b9
         have b9:=k2.tr b9.next
         rw [<-b9.2.2] at h |-
         cases he:rd (bL p).next.e f (.expr (d+1)) r'.tail with
         | error x =>
          rw [he] at h
          have hx:x≠bd:=fun h0=>h (by rw [h0])
          obtain ⟨b,q,k3,k4⟩:=C.expr (d+1) r'.tail (bL p).next b9.1 (by rw [he];intro h0;cases h0;exact hx rfl)
          rw [he] at k4;refine ⟨one 3 t.at_ (tok p 0).s [b],want q [93],fun g hg=>?_,?_⟩
          ·obtain ⟨g,rfl,hg⟩:=nr hg;rw [iE,ic,ab hp.code,L vG,L dq,L bD,ab k2.1.code,ab wR,k3 g aq];simp only [ht]
          ·rw [hY (b7.err k4)];exact b9.tr (y:=.error x) k4
         | ok x =>
          obtain ⟨b',r2⟩:=x;rw [he] at h;simp only at h |-
          obtain ⟨b,q,k3,k4⟩:=C.expr (d+1) r'.tail (bL p).next b9.1 (by rw [he];intro h0;cases h0)
          rw [he] at k4;obtain ⟨rfl,k4⟩:=k4;have aY:=(b9.tr k4).tr (On.want k4.1 (s:=[93]) aw);rw [k4.2.2] at aY;refine ⟨one 3 t.at_ (tok p 0).s [b],want q [93],fun g hg=>?_,?_⟩
          ·obtain ⟨g,rfl,hg⟩:=nr hg;rw [iE,ic,ab hp.code,L vG,L dq,L bD,ab k2.1.code,ab wR,k3 g aq];simp only [ht]
          ·cases tu:aW (bL p).next.e [93] r2 with
           | error x=>rw [tu] at aY;exact aY
           | ok r3=>rw [tu] at aY;exact ⟨rfl,aY⟩
        ·rw [L hb] at h |-
         have wR:¬ is (bL p) 0 [91]=true:=by rw [tU _ aw];simpa using hb
         by_cases hc:sign r' 0=[40]
         ·rw [ab hc] at h |-
          have pQ:is (bL p) 0 [40]=true:=by rw [tU _ aw];simpa using hc
          obtain ⟨tb,C4,_⟩:=eo aw hc;have b9:=k2.1;rw [C4] at b9
          have b9:=k2.tr b9.next
          rw [<-b9.2.2] at h |-
          cases he:rd.args (bL p).next.e f (d+1) [] r'.tail with
          | error x =>
           rw [he] at h
           have hx:x≠bd:=fun h0=>h (by rw [h0])
           obtain ⟨b,q,k3,k4⟩:=C.args (d+1) [] r'.tail (bL p).next b9.1 (by rw [he];intro h0;cases h0;exact hx rfl)
           rw [he] at k4;refine ⟨one 4 t.at_ (tok p 0).s b,q,fun g hg=>?_,b9.tr (y:=.error x) k4⟩;obtain ⟨g,rfl,hg⟩:=nr hg;rw [iE,ic,ab hp.code,L vG,L dq,L bD,ab k2.1.code,L wR,ab pQ,k3 g aq];simp only [ht]
          | ok x =>
           obtain ⟨b',r2⟩:=x;rw [he] at h
           obtain ⟨b,q,k3,k4⟩:=C.args (d+1) [] r'.tail (bL p).next b9.1 (by rw [he];intro h0;cases h0)
           rw [he] at k4;obtain ⟨rfl,k4⟩:=k4;refine ⟨one 4 t.at_ (tok p 0).s b,q,fun g hg=>?_,rfl,b9.tr k4⟩;obtain ⟨g,rfl,hg⟩:=nr hg;rw [iE,ic,ab hp.code,L vG,L dq,L bD,ab k2.1.code,L wR,ab pQ,k3 g aq];simp only [ht]
         ·rw [L hc] at h |-
          have pQ:¬ is (bL p) 0 [40]=true:=by rw [tU _ aw];simpa using hc
          refine ⟨one 2 t.at_ (tok p 0).s [],bL p,fun g hg=>?_,rfl,k2⟩;obtain ⟨g,rfl,hg⟩:=nr hg;rw [iE,ic,ab hp.code,L vG,L dq,L bD,ab k2.1.code,L wR,L pQ];simp only [ht]
       ·rw [k1] at h |-;refine ⟨one 2 t.at_ (tok p 0).s [],bL p,fun g hg=>?_,k2⟩;obtain ⟨g,rfl,hg⟩:=nr hg;rw [iE,ic,ab hp.code,L vG,L dq,L bD,L k2.err];simp only [ht]
  ·rw [rd.args] at h |-;have hi:is p 0 [41]=decide (sign ts 0=[41]):=On.is hp 0 aw
   by_cases hb:sign ts 0=[41]
   ·rw [ab hb];have hm:=On.want hp (s:=[41]) aw;unfold Go.Xp.aW at hm;rw [ab hb] at hm;refine ⟨acc,want p [41],fun g hg=>?_,rfl,hm⟩;obtain ⟨g,rfl,hg⟩:=nr hg;rw [iA,L (fun h0=>by rw [hi] at h0;simp [hb] at h0)]
   ·rw [L hb] at h |-;have oG:p.code=0/\is p 0 [41]=false:=⟨hp.code,by rw [hi];simpa using hb⟩;have key:∀ (p':RS) (jV:List Tok),b7 p p' (.ok jV)->(if acc.length=0 then p else want p [44])=p'->(match rd p.e f (.expr d) jV with | .error x=>.error x | .ok (a,ts)=>rd.args p.e f d (acc++[a]) ts:Rd (List T))≠.error bd ->
      ∃ t q,(∀ g,f+1+2<=g->iA g d acc p=some (t,q))/\kh p q t (match rd p.e f (.expr d) jV with | .error x=>.error x | .ok (a,ts)=>rd.args p.e f d (acc++[a]) ts):=by
     intro p' jV hn Hg h;rw [<-hn.2.2] at h |-
     cases he:rd p'.e f (.expr d) jV with
     | error x =>
      rw [he] at h
      have hx:x≠bd:=fun h0=>h (by rw [h0])
      obtain ⟨b,q,k1,k2⟩:=C.expr d jV p' hn.1 (by rw [he];intro h0;cases h0;exact hx rfl);rw [he] at k2;refine ⟨acc++[b],q,fun g hg=>?_,hn.tr (y:=.error x) k2⟩;obtain ⟨g,rfl,hg⟩:=nr hg;rw [iA,ab oG,Hg,k1 g aq];simp only;obtain ⟨g,rfl⟩:∃ g',g=g'+1:=⟨g - 1,by omega⟩;rw [iA,L (fun h0=>b7.err k2 h0.1),hY (b7.err k2)]
     | ok x =>
      obtain ⟨b',r'⟩:=x;rw [he] at h;simp only at h |-;obtain ⟨b,q,k1,k2⟩:=C.expr d jV p' hn.1 (by rw [he];intro h0;cases h0);rw [he] at k2;obtain ⟨rfl,k2⟩:=k2;rw [<-k2.2.2] at h |-;obtain ⟨t3,q3,h3,h4⟩:=C.args d (acc++[b]) r' q k2.1 h;refine ⟨t3,q3,fun g hg=>?_,kh.tr (hn.tr k2) h4⟩;obtain ⟨g,rfl,hg⟩:=nr hg;rw [iA,ab oG,Hg,k1 g aq];exact h3 g aq
    cases acc with
    | nil =>
     rw [ab rfl] at h |-;exact key p ts hp.self rfl h
    | cons a0 acc0 =>
     rw [L (by simp)] at h |-
     rcases nz hp (s:=[44]) aw with ⟨r',k1,k2⟩ | ⟨x,k1,k2⟩
     ·rw [k1] at h |-;exact key _ r' k2 (L (by simp)) h
     ·rw [k1];refine ⟨a0::acc0++[T.zero],want p [44],fun g hg=>?_,k2⟩;obtain ⟨g,rfl,hg⟩:=nr hg;rw [iA,ab oG,L (by simp),HA k2.err aq];simp only;obtain ⟨g,rfl⟩:∃ g',g=g'+1:=⟨g - 1,by omega⟩;rw [iA,L (fun h0=>k2.err h0.1),hY k2.err]
end Go.Im
namespace Go.Xp
abbrev uD (ts:List Tok):Prop:=ts.Pairwise fun a b=>a.at_ < b.at_
theorem yh {e:Int} {s:ae} {ts r:List Tok} (hs:s≠[]) (h:aW e s ts=.ok r):∃ u,ts=u::r/\u.kind=3/\u.s=s:=by
 obtain ⟨F,I⟩:=Ej h;obtain ⟨t,h3,h4,h5⟩:=Go.Sp.eo hs I;exact ⟨t,by rw [F];exact h3,h4,h5⟩
theorem HU {e:Int} {s:ae} {ts r:List Tok} (h:name e ts=.ok (s,r)):∃ u,ts=u::r/\u.kind=2/\u.s=s/\s.length<=12:=by
 cases ts with
 | nil=>cases h
 | cons t ts =>
  rw [name] at h;split at h
  ·split at h
   ·cases h
   ·cases h;exact ⟨t,rfl,by assumption,rfl,by omega⟩
  ·cases h
theorem vf {s:ae} {ts:List Tok} (hs:s≠[]) (h:sign ts 0=s):∃ u,ts=u::ts.tail/\u.kind=3/\u.s=s:=Go.Sp.eo hs h
def V0 (ts r:List Tok) (t:T):Prop:=∃ a pre,ts=a::(pre++r)/\(uD ts->a.at_<=t.n.at_/\(t.n.kind=3->t.n.at_=a.at_->a.kind=2/\∃ Yr w,a::pre=Yr++[w]/\w.s=[93]))
def VZ (ts r:List Tok) (out t:T):Prop:=(t=out/\r=ts)\/(t.n.kind=6/\∃ pre,ts=pre++r/\∃ u∈ts,t.n.at_=u.at_)
theorem Vp (e:Int):∀ f,(∀ j ts t r,(∀ k d out,j≠.loop k d out)->rd e f j ts=.ok (t,r)->V0 ts r t)/\(∀ k d out ts t r,rd e f (.loop k d out) ts=.ok (t,r)->VZ ts r out t)/\(∀ d acc ts l r,rd.args e f d acc ts=.ok (l,r)->∃ pre,ts=pre++r/\pre≠[]):=by
 intro f
 induction f with
 | zero=>exact ⟨fun j ts t r _ h=>by simp [rd] at h,fun k d out ts t r h=>by simp [rd] at h,fun d acc ts l r h=>by simp [rd.args] at h⟩
 | succ f ih =>
  obtain ⟨i1,i2,i3⟩:=ih;refine ⟨fun j ts t r hj h=>?_,fun k d out ts t r h=>?_,fun d acc ts l r h=>?_⟩
  ·rw [rd.eq_def] at h
   cases j with
   | expr d =>
    simp only at h;split at h
    ·cases h
    ·exact i1 _ _ _ _ (fun k d out h=>by cases h) h
   | level k d =>
    simp only at h;split at h
    ·exact i1 _ _ _ _ (fun k d out h=>by cases h) h
    ·split at h
     ·cases h
     ·rename_i out jV he;have F:=i1 _ _ _ _ (fun k d out h=>by cases h) he;have I:=i2 _ _ _ _ _ _ h
      rcases I with ⟨rfl,rfl⟩ | ⟨h3,En,rfl,u,hu,h4⟩
      ·exact F
      ·obtain ⟨a,pre,rfl,h5⟩:=F;refine ⟨a,pre++En,by simp,fun hs=>⟨?_,fun h6=>by omega⟩⟩;rw [h4];rw [uD,List.pairwise_cons] at hs;exact Int.le_of_lt (hs.1 u (List.mem_append_right _ hu))
   | loop k d out=>exact absurd rfl (hj _ _ _)
   | operand d =>
    simp only at h;split at h
    ·cases h
    ·cases ts with
     | nil=>cases h
     | cons a r' =>
      simp only at h;split at h
      ·rename_i h3;split at h
       ·split at h
        ·cases h
        ·rename_i b r2 he;cases h;obtain ⟨a2,pre,rfl,_⟩:=i1 _ _ _ _ (fun k d out h=>by cases h) he;exact ⟨a,a2::pre,by simp,fun _=>⟨by simp [one,T.n],fun h=>by simp [one,T.n] at h⟩⟩
       ·split at h
        ·split at h
         ·cases h
         ·rename_i b r2 he;split at h
          ·cases h
          ·rename_i r3 hm;cases h;obtain ⟨a2,pre,rfl,h5⟩:=i1 _ _ _ _ (fun k d out h=>by cases h) he;obtain ⟨w,rfl,_,_⟩:=yh aw hm;refine ⟨a,a2::(pre++[w]),by simp,fun hs=>?_⟩;rw [uD,List.pairwise_cons] at hs;have h6:=(h5 hs.2).1;have h7:=hs.1 a2 (by simp);exact ⟨by omega,fun _ h8=>by omega⟩
        ·cases h
      ·split at h
       ·cases h;exact ⟨a,[],rfl,fun _=>⟨Int.le_refl _,fun h=>by simp [T.n] at h⟩⟩
       ·split at h
        ·cases h
        ·rename_i s r2 hn;obtain ⟨u,hu,hk,_⟩:=HU hn;cases hu;split at h
         ·rename_i hs;obtain ⟨w,hw,_,_⟩:=vf aw hs;split at h
          ·cases h
          ·rename_i b r3 he;split at h
           ·cases h
           ·rename_i r4 hm;cases h;obtain ⟨a2,pre,h4,h5⟩:=i1 _ _ _ _ (fun k d out h=>by cases h) he;obtain ⟨z,rfl,_,hz⟩:=yh aw hm;refine ⟨a,w::a2::(pre++[z]),by rw [hw,h4];simp,fun _=>⟨Int.le_refl _,fun _ _=>⟨hk,a::w::a2::pre,z,by simp,hz⟩⟩⟩
         ·split at h
          ·rename_i hs;obtain ⟨w,hw,_,_⟩:=vf aw hs;split at h
           ·cases h
           ·rename_i l r3 he;cases h;obtain ⟨pre,h4,_⟩:=i3 _ _ _ _ _ he;exact ⟨a,w::pre,by rw [hw,h4];simp,fun _=>⟨Int.le_refl _,fun h=>by simp [one,T.n] at h⟩⟩
          ·cases h;exact ⟨a,[],rfl,fun _=>⟨Int.le_refl _,fun h=>by simp [one,T.n] at h⟩⟩
  ·cases ts with
   | nil=>rw [rd] at h;cases h;exact .inl ⟨rfl,rfl⟩
   | cons a r' =>
    rw [rd] at h;split at h
    ·split at h
     ·cases h
     ·rename_i b r2 he;obtain ⟨a2,pre,rfl,_⟩:=i1 _ _ _ _ (fun k d out h=>by cases h) he
      rcases i2 _ _ _ _ _ _ h with ⟨rfl,rfl⟩ | ⟨h3,En,rfl,u,hu,h4⟩
      ·exact .inr ⟨rfl,a::a2::pre,by simp,a,by simp,rfl⟩
      ·exact .inr ⟨h3,a::a2::(pre++En),by simp,u,by simp at hu |-;rcases hu with h | h <;> simp [h],h4⟩
    ·cases h;exact .inl ⟨rfl,rfl⟩
  ·rw [rd.args] at h;split at h
   ·rename_i hs;obtain ⟨w,hw,_,_⟩:=vf aw hs;cases h;exact ⟨[w],by rw [hw];rfl,by simp⟩
   ·split at h
    ·cases h
    ·rename_i jV tZ;split at h
     ·cases h
     ·rename_i a r' he;obtain ⟨a2,pre,h4,_⟩:=i1 _ _ _ _ (fun k d out h=>by cases h) he;obtain ⟨En,h5,_⟩:=i3 _ _ _ _ _ h;split at tZ
      ·cases tZ;exact ⟨a2::(pre++En),by rw [h4,h5];simp,by simp⟩
      ·obtain ⟨w,hw,_,_⟩:=yh aw tZ;exact ⟨w::a2::(pre++En),by rw [hw,h4,h5];simp,by simp⟩
theorem NZ {e:Int} {d:Nat} {ts r:List Tok} {t:T} (h:expr e d ts=.ok (t,r)):V0 ts r t:=(Vp e _).1 _ _ _ _ (fun k d out h=>by cases h) h
end Go.Xp
namespace Go.Im
open Go.Xp Go.Sp
def vM (p:RS):ae:=match p.l[p.i - 1]? with | some t=>t.s | none=>[]
def yt (p q:RS) (e:T):Prop:=e.n.kind=3/\q.code=0/\vM q=[93]/\e.n.at_=(tok p 0).at_/\(tok p 0).kind=2/\is q 0 [61]=true
instance (p q:RS) (e:T):Decidable (yt p q e):=by unfold yt;infer_instance
mutual
def iS:Nat->si->RS->Option (T × RS)
 | 0,_,_=>none
 | f+1,.block d,p =>
  if (cr p d).code=0 then match iB f (d+1) [] (want p [123]) with
   | none=>none
   | some (l,q)=>some (one 14 (tok p 0).at_ [] l,want q [125])
  else some (one 14 (tok p 0).at_ [] [],cr p d)
 | f+1,.stmt d,p =>
  if (cr p d).code=0 then
   if is p 0 ja=true then match iE f (.expr (d+1)) (want (bL p.next) [61]) with
    | none=>none
    | some (e,q)=>some (one 13 (tok p 0).at_ (tok p.next 0).s [e],want q [59])
   else if is p 0 eP=true\/is p 0 en=true then match iE f (.expr (d+1)) (want p.next [40]) with
    | none=>none
    | some (c,q)=>match iS f (.block (d+1)) (want q [41]) with
     | none=>none
     | some (b,q) =>
      if is p 0 eP=true/\q.code=0/\is q 0 fi=true then match iS f (.block (d+1)) q.next with
       | none=>none
       | some (b2,q)=>some (one 9 (tok p 0).at_ [] [c,b,b2],q)
      else some (one (if is p 0 eP=true then 9 else 10) (tok p 0).at_ [] [c,b],q)
   else if is p 0 dV=true then match iE f (.expr (d+1)) p.next with
    | none=>none
    | some (e,q)=>some (one 11 (tok p 0).at_ [] [e],want q [59])
   else if (tok p 0).kind=2/\is p 1 [61]=true then match iE f (.expr (d+1)) (want (bL p) [61]) with
    | none=>none
    | some (e,q)=>some (one 7 (tok p 0).at_ (tok p 0).s [e],want q [59])
   else match iE f (.expr (d+1)) p with
    | none=>none
    | some (e,q) =>
     if yt p q e then match e.kids,iE f (.expr (d+1)) (want q [61]) with
      | a::_,some (v,q)=>some (one 8 (tok p 0).at_ e.n.s [a,v],want q [59])
      | _,_=>none
     else some (one 12 (tok p 0).at_ [] [e],want q [59])
  else some (T.zero,cr p d)
def iB:Nat->Nat->List T->RS->Option (List T × RS)
 | 0,_,_,_=>none
 | f+1,d,acc,p=>if p.code=0/\is p 0 [125]=false then match iS f (.stmt d) p with
   | none=>none
   | some (a,q)=>iB f d (acc++[a]) q
  else some (acc,p)
end
def KI (p:RS) (f:Nat):Nat:=f+20 * p.l.length+40
section
variable {p q:RS} {ts r:List Tok}
theorem Me {d g:Nat} (hp:On p ts) (hg:20 * p.l.length+20<=g):∃ t q,(∀ g,20 * p.l.length+20<=g->iE g (.expr d) p=some (t,q))/\((∃ r,expr p.e d ts=.ok (t,r)/\b7 p q (.ok r))\/(∃ x,expr p.e d ts=.error x/\b7 p q (.error x))):=by
 have hl:ts.length<=p.l.length:=by rw [<-hp.rest,jv];omega
 have hf:rd p.e (20 * ts.length+12) (.expr d) ts≠.error bd:=Ay (j:=.expr d) trivial (aE _);obtain ⟨t,q,F,I⟩:=(ie _).expr d ts p hp hf;rw [D0 (aE _)] at I;refine ⟨t,q,fun g hg=>F g aq,?_⟩
 cases he:expr p.e d ts with
 | error x=>rw [he] at I;exact .inr ⟨x,rfl,I⟩
 | ok y=>obtain ⟨t',r⟩:=y;rw [he] at I;obtain ⟨rfl,I⟩:=I;exact .inl ⟨r,rfl,I⟩
theorem Md {d:Nat} {b:ae} (hp:On p ts) (hb:b≠[]):∃ t q,(∀ g,20 * p.l.length+20<=g->iE g (.expr d) p=some (t,q))/\((∃ r r',expr p.e d ts=.ok (t,r)/\Go.Xp.aW p.e b r=.ok r'/\b7 p (want q b) (.ok r'))\/(∃ r x,expr p.e d ts=.ok (t,r)/\Go.Xp.aW p.e b r=.error x/\b7 p (want q b) (.error x))\/(∃ x,expr p.e d ts=.error x/\b7 p (want q b) (.error x))):=by
 obtain ⟨t,q,F,I⟩:=Me (d:=d) hp (aE _);refine ⟨t,q,F,?_⟩
 rcases I with ⟨r,I,h3⟩ | ⟨x,I,h3⟩
 ·rcases nz h3.1 hb with ⟨r',h4,h5⟩ | ⟨x,h4,h5⟩
  ·rw [h3.2.2] at h4;exact .inl ⟨r,r',I,h4,h3.tr h5⟩
  ·rw [h3.2.2] at h4;exact .inr (.inl ⟨r,x,I,h4,h3.tr h5⟩)
 ·exact .inr (.inr ⟨x,I,by rw [hY h3.err];exact h3⟩)
theorem Pe {d:Nat} {a b:ae} (hp:On p ts) (ha:a≠[]) (hb:b≠[]):∃ t q,(∀ g,20 * p.l.length+20<=g->iE g (.expr d) (want p a)=some (t,q))/\((∃ r,inner p.e d a b ts=.ok (t,r)/\b7 p (want q b) (.ok r))\/∃ x,inner p.e d a b ts=.error x/\b7 p (want q b) (.error x)):=by
 unfold Go.Xp.inner
 rcases nz hp ha with ⟨r,F,I⟩ | ⟨x,F,I⟩
 ·rw [F];obtain ⟨t,q,h3,h4⟩:=Md (d:=d) (b:=b) I.1 hb;rw [I.2.2] at h4;rw [I.2.1] at h3;refine ⟨t,q,h3,?_⟩;simp only
  rcases h4 with ⟨r,r',k1,k2,k3⟩ | ⟨r,x,k1,k2,k3⟩ | ⟨x,k1,k3⟩
  ·rw [k1];simp only;rw [k2];exact .inl ⟨r',rfl,I.tr k3⟩
  ·rw [k1];simp only;rw [k2];exact .inr ⟨x,rfl,I.tr (y:=.error x) k3⟩
  ·rw [k1];exact .inr ⟨x,rfl,I.tr (y:=.error x) k3⟩
 ·rw [F];exact ⟨T.zero,want p a,fun g hg=>HA I.err aq,.inr ⟨x,rfl,by rw [hY I.err];exact I⟩⟩
theorem Pk {d:Nat} (hp:On p ts):∃ t q,(∀ g,20 * p.l.length+20<=g->iE g (.expr d) (want (bL p) [61])=some (t,q))/\((∃ r,mj p.e d ts=.ok (((tok p 0).s,t),r)/\b7 p (want q [59]) (.ok r))\/∃ x,mj p.e d ts=.error x/\b7 p (want q [59]) (.error x)):=by
 unfold Go.Xp.mj
 rcases va hp with ⟨r,F,I⟩ | ⟨x,F,I⟩
 ·rw [F];obtain ⟨t,q,h3,h4⟩:=Pe (d:=d) (a:=[61]) (b:=[59]) I.1 aw aw;rw [I.2.2] at h4;rw [I.2.1] at h3;refine ⟨t,q,h3,?_⟩;simp only
  rcases h4 with ⟨r,k1,k3⟩ | ⟨x,k1,k3⟩
  ·rw [k1];exact .inl ⟨r,rfl,I.tr k3⟩
  ·rw [k1];exact .inr ⟨x,rfl,I.tr (y:=.error x) k3⟩
 ·rw [F];refine ⟨T.zero,bL p,fun g hg=>by rw [hY I.err];exact HA I.err aq,.inr ⟨x,rfl,by rw [hY I.err];exact I⟩⟩
theorem RB (h:p.code≠0) {g d:Nat} (hg:1<=g):iS g (.block d) p=some (one 14 (tok p 0).at_ [] [],p):=by
 obtain ⟨g,rfl⟩:∃ g',g=g'+1:=⟨g - 1,by omega⟩;rw [iS,CD h,L h]
theorem On.srt (h:On p ts) (hs:uD p.l):uD ts:=by rw [<-h.rest];exact hs.drop
theorem On.last (h:On p ts) {pre r:List Tok} {w:Tok} (hq:b7 p q (.ok r)) (ht:ts=(pre++[w])++r):vM q=w.s:=by
 have F:p.l=p.l.take p.i++(pre++w::r):=by
  have:=List.take_append_drop p.i p.l;rw [h.rest,ht] at this;simp only [cS,List.singleton_append,cons_append,nil_append] at this;exact this.symm
 have hr:=congrArg List.length hq.1.rest;have hl:=congrArg List.length F;have hle:=hq.1.le;have cZ:=h.le;rw [hq.2.1] at hr hle;simp only [jv,aO,length_cons,cX] at hr hl;unfold vM;rw [hq.2.1,F,fa (by rw [cX];omega),fa (by rw [cX];omega)]
 have:q.i - 1 - (p.l.take p.i).length - pre.length=0:=by rw [cX];omega
 rw [this];rfl
end
structure IS' (f:Nat):Prop where
 block:∀ d ts p,On p ts->uD p.l->rs p.e f (.block d) ts≠.error bd->∃ t q,(∀ g,KI p f<=g->iS g (.block d) p=some (t,q))/\kh p q t (rs p.e f (.block d) ts)
 stmt:∀ d ts p,On p ts->uD p.l->rs p.e f (.stmt d) ts≠.error bd->∃ t q,(∀ g,KI p f<=g->iS g (.stmt d) p=some (t,q))/\kh p q t (rs p.e f (.stmt d) ts)
 body:∀ d acc ts p,On p ts->uD p.l->rs.body p.e f d acc ts≠.error bd->∃ t q,(∀ g,KI p f<=g->iB g d acc p=some (t,q))/\kh p (want q [125]) t (rs.body p.e f d acc ts)
theorem qp {p:RS} {f g:Nat} (h:KI p (f+1)<=g):∃ g',g=g'+1/\KI p f<=g'/\20 * p.l.length+20<=g':=⟨g - 1,by unfold KI at h;omega,by unfold KI at *;omega,by unfold KI at h;omega⟩
theorem F7 {p q:RS} (h:q.l=p.l) (f:Nat):KI q f=KI p f:=by unfold KI;rw [h]
theorem is_ (f:Nat):IS' f:=by
 induction f with
 | zero=>exact ⟨fun d ts p _ _ h=>absurd (by simp [rs]) h,fun d ts p _ _ h=>absurd (by simp [rs]) h,fun d acc ts p _ _ h=>absurd (by simp [rs.body]) h⟩
 | succ f C =>
  refine ⟨fun d ts p hp hs h=>?_,fun d ts p hp hs h=>?_,fun d acc ts p hp hs h=>?_⟩
  ·rw [rs] at h |-;have cZ:=On.rL hp
   by_cases hd:d > 60
   ·rw [ab hd] at h |-;have hf:=hp.fail 9 (tok p 0).at_ aw;refine ⟨one 14 (tok p 0).at_ [] [],p.fail 9 (tok p 0).at_,fun g hg=>?_,by rw [<-cZ];exact hf⟩;obtain ⟨g,rfl,ln,fU⟩:=qp hg
    have ic:cr p d=p.fail 9 (tok p 0).at_:=by unfold cr;rw [ab hd]
    rw [iS,ic,L hf.err]
   ·rw [L hd] at h |-
    have ic:cr p d=p:=by unfold cr;rw [L hd]
    rcases nz hp (s:=[123]) aw with ⟨r,F,I⟩ | ⟨x,F,I⟩
    ·rw [F] at h |-;simp only at h |-
     have hb:rs.body p.e f (d+1) [] r≠.error bd:=fun h0=>h (by rw [h0])
     rw [<-I.2.2] at hb;obtain ⟨l,q,h3,h4⟩:=C.body (d+1) [] r (want p [123]) I.1 (by rw [I.2.1];exact hs) hb;rw [I.2.2] at h4;rw [F7 I.2.1] at h3;refine ⟨one 14 (tok p 0).at_ [] l,want q [125],fun g hg=>?_,?_⟩
     ·obtain ⟨g,rfl,ln,fU⟩:=qp hg;rw [iS,ic,ab hp.code,h3 g aq]
     ·cases he:rs.body p.e f (d+1) [] r with
      | error x=>rw [he] at h4;exact I.tr (y:=.error x) h4
      | ok y=>obtain ⟨l',r'⟩:=y;rw [he] at h4;obtain ⟨rfl,h4⟩:=h4;rw [cZ];exact ⟨rfl,I.tr h4⟩
    ·rw [F] at h |-;refine ⟨one 14 (tok p 0).at_ [] [],want p [123],fun g hg=>?_,I⟩;obtain ⟨g,rfl,ln,fU⟩:=qp hg;rw [iS,ic,ab hp.code];obtain ⟨g,rfl⟩:∃ g',g=g'+1:=⟨g - 1,by omega⟩;rw [iB,L (fun h0=>I.err h0.1)];simp only;rw [hY I.err]
  ·rw [rs] at h |-;have cZ:=On.rL hp
   by_cases hd:d > 60
   ·rw [ab hd] at h |-;have hf:=hp.fail 9 (tok p 0).at_ aw;refine ⟨T.zero,p.fail 9 (tok p 0).at_,fun g hg=>?_,by rw [<-cZ];exact hf⟩;obtain ⟨g,rfl,ln,fU⟩:=qp hg
    have ic:cr p d=p.fail 9 (tok p 0).at_:=by unfold cr;rw [ab hd]
    rw [iS,ic,L hf.err]
   ·rw [L hd] at h |-
    have ic:cr p d=p:=by unfold cr;rw [L hd]
    have hi:∀ s:ae,s≠[]->is p 0 s=decide (sign ts 0=s):=fun s hs=>On.is hp 0 hs
    have A7:is p 1 [61]=decide (sign ts 1=[61]):=On.is hp 1 aw;simp only at h |-
    by_cases hv:sign ts 0=ja
    ·rw [ab hv]
     have uY:is p 0 ja=true:=by rw [hi _ aw];simpa using hv
     obtain ⟨tv,zC,_⟩:=eo aw hv;have hn:=hp;rw [zC] at hn
     have hn:=hn.next
     rw [show p.e=p.next.e from rfl];obtain ⟨t,q,F,I⟩:=Pk (d:=d+1) hn.1
     rcases I with ⟨r,I,h3⟩ | ⟨x,I,h3⟩
     ·rw [I];refine ⟨one 13 (tok p 0).at_ (tok p.next 0).s [t],want q [59],fun g hg=>?_,by rw [cZ];rfl,hn.tr h3⟩;obtain ⟨g,rfl,ln,fU⟩:=qp hg;rw [iS,ic,ab hp.code,ab uY,F g fU]
     ·rw [I];refine ⟨one 13 (tok p 0).at_ (tok p.next 0).s [t],want q [59],fun g hg=>?_,hn.tr (y:=.error x) h3⟩;obtain ⟨g,rfl,ln,fU⟩:=qp hg;rw [iS,ic,ab hp.code,ab uY,F g fU]
    rw [L hv] at h |-
    have uY:¬ is p 0 ja=true:=by rw [hi _ aw];simpa using hv
    by_cases hc:sign ts 0=eP\/sign ts 0=en
    ·rw [ab hc] at h |-
     have pQ:is p 0 eP=true\/is p 0 en=true:=by rw [hi _ aw,hi _ aw];simpa using hc
     obtain ⟨tv,zC⟩:∃ t,ts=t::ts.tail:=by
      rcases hc with hc | hc
      ·obtain ⟨t,F,_⟩:=eo aw hc;exact ⟨t,F⟩
      ·obtain ⟨t,F,_⟩:=eo aw hc;exact ⟨t,F⟩
     have hn:=hp;rw [zC] at hn
     have hn:=hn.next
     have uR:(if is p 0 eP=true then (9:Int) else 10)=if sign ts 0=eP then 9 else 10:=by rw [hi _ aw];simp
     obtain ⟨c,q,F,I⟩:=Pe (d:=d+1) (a:=[40]) (b:=[41]) hn.1 aw aw
     rcases I with ⟨r,I,h3⟩ | ⟨x,I,h3⟩
     ·rw [show p.next.e=p.e from rfl] at I;rw [I] at h |-;simp only at h |-;have h3:=hn.tr h3
      have hb:rs p.e f (.block (d+1)) r≠.error bd:=fun h0=>h (by rw [h0])
      rw [<-h3.2.2] at hb;obtain ⟨b,q2,h4,h5⟩:=C.block (d+1) r (want q [41]) h3.1 (by rw [h3.2.1];exact hs) hb;rw [h3.2.2] at h5;rw [F7 h3.2.1] at h4
      cases he:rs p.e f (.block (d+1)) r with
      | error x =>
       rw [he] at h5;refine ⟨one (if is p 0 eP=true then 9 else 10) (tok p 0).at_ [] [c,b],q2,fun g hg=>?_,h3.tr (y:=.error x) h5⟩;obtain ⟨g,rfl,ln,fU⟩:=qp hg;rw [iS,ic,ab hp.code,L uY,ab pQ,F g fU];simp only;rw [h4 g ln];simp only;rw [L (fun h0=>b7.err h5 h0.2.1)]
      | ok y =>
       obtain ⟨b',r2⟩:=y;rw [he] at h5 h;obtain ⟨rfl,h5⟩:=h5;simp only at h |-;have h5:=h3.tr h5;have kj:is q2 0 fi=decide (sign r2 0=fi):=On.is h5.1 0 aw
       by_cases Hg:sign ts 0=eP
       ·rw [ab Hg] at h uR |-
        have Ru:is p 0 eP=true:=by rw [hi _ aw];simpa using Hg
        by_cases eB:sign r2 0=fi
        ·rw [ab eB] at h |-;obtain ⟨te,O6,_⟩:=eo aw eB;have b9:=h5.1;rw [O6] at b9
         have b9:=h5.tr b9.next
         have hb:rs p.e f (.block (d+1)) r2.tail≠.error bd:=fun h0=>h (by rw [h0])
         rw [<-b9.2.2] at hb
         obtain ⟨b2,q3,h6,h7⟩:=C.block (d+1) r2.tail q2.next b9.1 (by rw [b9.2.1];exact hs) hb
         rw [b9.2.2] at h7;rw [F7 b9.2.1] at h6;refine ⟨one 9 (tok p 0).at_ [] [c,b,b2],q3,fun g hg=>?_,?_⟩
         ·obtain ⟨g,rfl,ln,fU⟩:=qp hg;rw [iS,ic,ab hp.code,L uY,ab pQ,F g fU];simp only;rw [h4 g ln];simp only;rw [ab ⟨Ru,h5.1.code,by rw [kj];simpa using eB⟩,h6 g ln]
         ·cases qL:rs p.e f (.block (d+1)) r2.tail with
          | error x=>rw [qL] at h7;exact b9.tr (y:=.error x) h7
          | ok y=>obtain ⟨b3,r3⟩:=y;rw [qL] at h7;obtain ⟨rfl,h7⟩:=h7;exact ⟨by rw [cZ],b9.tr h7⟩
        ·rw [L eB];refine ⟨one (if is p 0 eP=true then 9 else 10) (tok p 0).at_ [] [c,b],q2,fun g hg=>?_,by rw [uR,cZ],h5⟩;obtain ⟨g,rfl,ln,fU⟩:=qp hg;rw [iS,ic,ab hp.code,L uY,ab pQ,F g fU];simp only;rw [h4 g ln];simp only;rw [L (fun h0=>by have:=h0.2.2;rw [kj] at this;exact eB (by simpa using this))]
       ·rw [L Hg] at uR |-
        have Ru:¬ is p 0 eP=true:=by rw [hi _ aw];simpa using Hg
        refine ⟨one (if is p 0 eP=true then 9 else 10) (tok p 0).at_ [] [c,b],q2,fun g hg=>?_,by rw [uR,cZ],h5⟩;obtain ⟨g,rfl,ln,fU⟩:=qp hg;rw [iS,ic,ab hp.code,L uY,ab pQ,F g fU];simp only;rw [h4 g ln];simp only;rw [L (fun h0=>Ru h0.1)]
     ·rw [show p.next.e=p.e from rfl] at I;rw [I] at h |-;have h3:=hn.tr (y:=.error x) h3;refine ⟨one (if is p 0 eP=true then 9 else 10) (tok p 0).at_ [] [c,one 14 (tok (want q [41]) 0).at_ [] []],want q [41],fun g hg=>?_,h3⟩;obtain ⟨g,rfl,ln,fU⟩:=qp hg;rw [iS,ic,ab hp.code,L uY,ab pQ,F g fU];simp only;rw [RB h3.err aq];simp only;rw [L (fun h0=>h3.err h0.2.1)]
    rw [L hc] at h |-
    have pQ:¬ (is p 0 eP=true\/is p 0 en=true):=by rw [hi _ aw,hi _ aw];simpa using hc
    by_cases hr:sign ts 0=dV
    ·rw [ab hr]
     have wY:is p 0 dV=true:=by rw [hi _ aw];simpa using hr
     obtain ⟨tv,zC,_⟩:=eo aw hr;have hn:=hp;rw [zC] at hn
     have hn:=hn.next
     obtain ⟨t,q,F,I⟩:=Md (d:=d+1) (b:=[59]) hn.1 aw;rw [show p.next.e=p.e from rfl] at I;refine ⟨one 11 (tok p 0).at_ [] [t],want q [59],fun g hg=>?_,?_⟩
     ·obtain ⟨g,rfl,ln,fU⟩:=qp hg;rw [iS,ic,ab hp.code,L uY,L pQ,ab wY,F g fU]
     ·rcases I with ⟨r,r',I,h3,h4⟩ | ⟨r,x,I,h3,h4⟩ | ⟨x,I,h4⟩
      ·rw [I];simp only;rw [h3];exact ⟨by rw [cZ],hn.tr h4⟩
      ·rw [I];simp only;rw [h3];exact hn.tr (y:=.error x) h4
      ·rw [I];exact hn.tr (y:=.error x) h4
    rw [L hr] at h |-
    have wY:¬ is p 0 dV=true:=by rw [hi _ aw];simpa using hr
    cases ts with
    | nil =>
     have ht:tok p 0=⟨0,0,[],p.e⟩:=by rw [On.tok hp];rfl
     have mb:¬ ((tok p 0).kind=2/\is p 1 [61]=true):=fun hx=>by have:=hx.1;rw [ht] at this;simp at this
     obtain ⟨t,q,F,I⟩:=Me (d:=d+1) hp (aE _)
     rcases I with ⟨r,I,h3⟩ | ⟨x,I,h3⟩
     ·exact absurd I (PZ _ _ _ (fun k d out h=>by cases h) _ _)
     ·have ma:¬ yt p q t:=fun h0=>h3.err h0.2.1
      refine ⟨one 12 (tok p 0).at_ [] [t],want q [59],fun g hg=>?_,by unfold simple;rw [I,hY h3.err];exact h3⟩;obtain ⟨g,rfl,ln,fU⟩:=qp hg;rw [iS,ic,ab hp.code,L uY,L pQ,L wY,L mb,F g fU];simp only;rw [L ma]
    | cons a r0 =>
     simp only [simple] at h |-
     have ht:tok p 0=a:=by rw [On.tok hp];rfl
     by_cases bR:a.kind=2/\sign (a::r0) 1=[61]
     ·rw [ab bR];have mb:(tok p 0).kind=2/\is p 1 [61]=true:=⟨by rw [ht];exact bR.1,by rw [A7];simpa using bR.2⟩;obtain ⟨t,q,F,I⟩:=Pk (d:=d+1) hp
      rcases I with ⟨r,I,h3⟩ | ⟨x,I,h3⟩
      ·rw [I];refine ⟨one 7 (tok p 0).at_ (tok p 0).s [t],want q [59],fun g hg=>?_,by rw [cZ];rfl,h3⟩;obtain ⟨g,rfl,ln,fU⟩:=qp hg;rw [iS,ic,ab hp.code,L uY,L pQ,L wY,ab mb,F g fU]
      ·rw [I];refine ⟨one 7 (tok p 0).at_ (tok p 0).s [t],want q [59],fun g hg=>?_,h3⟩;obtain ⟨g,rfl,ln,fU⟩:=qp hg;rw [iS,ic,ab hp.code,L uY,L pQ,L wY,ab mb,F g fU]
     ·rw [L bR]
      have mb:¬ ((tok p 0).kind=2/\is p 1 [61]=true):=fun hx=>bR ⟨by rw [<-ht];exact hx.1,by have:=hx.2;rw [A7] at this;simpa using this⟩
      obtain ⟨t,q,F,I⟩:=Me (d:=d+1) hp (aE _)
      rcases I with ⟨r,I,h3⟩ | ⟨x,I,h3⟩
      ·rw [I];simp only;have kj:is q 0 [61]=decide (sign r 0=[61]):=On.is h3.1 0 aw
       by_cases kD:t.n.kind=3/\t.n.at_=a.at_/\sign r 0=[61]
       ·rw [ab kD];obtain ⟨a',pre,ht1,TP⟩:=NZ I;cases ht1;obtain ⟨tt,Yr,w,Hw,qj⟩:=(TP (On.srt hp hs)).2 kD.1 kD.2.1
        have Zq:vM q=[93]:=by rw [<-qj];exact On.last hp h3 (by rw [<-Hw];rfl)
        have ma:yt p q t:=⟨kD.1,h3.1.code,Zq,by rw [ht];exact kD.2.1,by rw [ht];exact tt,by rw [kj];simpa using kD.2.2⟩;obtain ⟨ix,zt⟩:=PY _ _ _ _ _ _ (fun k d out hj=>by cases hj) I kD.1
        have lp:Go.Xp.aW p.e [61] r=.ok r.tail:=by unfold Go.Xp.aW;rw [ab kD.2.2]
        have hwa:=On.want h3.1 (s:=[61]) aw;rw [h3.2.2,lp] at hwa;have hn:=h3.tr hwa;obtain ⟨v,q2,h4,h5⟩:=Md (d:=d+1) (b:=[59]) hn.1 aw;rw [hn.2.2] at h5;rw [hn.2.1] at h4;refine ⟨one 8 (tok p 0).at_ t.n.s [ix,v],want q2 [59],fun g hg=>?_,?_⟩
        ·obtain ⟨g,rfl,ln,fU⟩:=qp hg;rw [iS,ic,ab hp.code,L uY,L pQ,L wY,L mb,F g fU];simp only;rw [ab ma,zt,h4 g fU]
        ·unfold Go.Xp.inner;rw [lp];simp only
         rcases h5 with ⟨r2,r',I,h3,h4⟩ | ⟨r2,x,I,h3,h4⟩ | ⟨x,I,h4⟩
         ·rw [I];simp only;rw [h3];exact ⟨by rw [ht,zt];rfl,hn.tr h4⟩
         ·rw [I];simp only;rw [h3];exact hn.tr (y:=.error x) h4
         ·rw [I];exact hn.tr (y:=.error x) h4
       ·rw [L kD]
        have ma:¬ yt p q t:=fun h0=>kD ⟨h0.1,by rw [<-ht];exact h0.2.2.2.1,by have:=h0.2.2.2.2.2;rw [kj] at this;simpa using this⟩
        refine ⟨one 12 (tok p 0).at_ [] [t],want q [59],fun g hg=>?_,?_⟩
        ·obtain ⟨g,rfl,ln,fU⟩:=qp hg;rw [iS,ic,ab hp.code,L uY,L pQ,L wY,L mb,F g fU];simp only;rw [L ma]
        ·rcases nz h3.1 (s:=[59]) aw with ⟨r',h4,h5⟩ | ⟨x,h4,h5⟩
         ·rw [h3.2.2] at h4;rw [h4];exact ⟨by rw [ht],h3.tr h5⟩
         ·rw [h3.2.2] at h4;rw [h4];exact h3.tr (y:=.error x) h5
      ·rw [I]
       have ma:¬ yt p q t:=fun h0=>h3.err h0.2.1
       refine ⟨one 12 (tok p 0).at_ [] [t],want q [59],fun g hg=>?_,by rw [hY h3.err];exact h3⟩;obtain ⟨g,rfl,ln,fU⟩:=qp hg;rw [iS,ic,ab hp.code,L uY,L pQ,L wY,L mb,F g fU];simp only;rw [L ma]
  ·rw [rs.body] at h |-;have hi:is p 0 [125]=decide (sign ts 0=[125]):=On.is hp 0 aw
   by_cases hb:sign ts 0=[125]
   ·rw [ab hb];have hm:=On.want hp (s:=[125]) aw;unfold Go.Xp.aW at hm;rw [ab hb] at hm;refine ⟨acc,p,fun g hg=>?_,rfl,hm⟩;obtain ⟨g,rfl,ln,fU⟩:=qp hg;rw [iB,L (fun h0=>by have:=h0.2;rw [hi] at this;simp [hb] at this)]
   ·rw [L hb] at h |-
    have cj:rs p.e f (.stmt d) ts≠.error bd:=fun h0=>h (by rw [h0])
    obtain ⟨a,q,F,I⟩:=C.stmt d ts p hp hs cj;have hc:p.code=0/\is p 0 [125]=false:=⟨hp.code,by rw [hi];simpa using hb⟩
    cases he:rs p.e f (.stmt d) ts with
    | error x =>
     rw [he] at I h;refine ⟨acc++[a],q,fun g hg=>?_,by rw [hY (b7.err I)];exact I⟩;obtain ⟨g,rfl,ln,fU⟩:=qp hg;rw [iB,ab hc,F g ln];simp only;obtain ⟨g,rfl⟩:∃ g',g=g'+1:=⟨g - 1,by omega⟩;rw [iB,L (fun h0=>b7.err I h0.1)]
    | ok y =>
     obtain ⟨a',r⟩:=y;rw [he] at I h;obtain ⟨rfl,I⟩:=I;simp only at h |-;rw [<-I.2.2] at h |-;obtain ⟨l,q3,h3,h4⟩:=C.body d (acc++[a]) r q I.1 (by rw [I.2.1];exact hs) h;rw [F7 I.2.1] at h3;refine ⟨l,q3,fun g hg=>?_,kh.tr I h4⟩;obtain ⟨g,rfl,ln,fU⟩:=qp hg;rw [iB,ab hc,F g ln];exact h3 g ln
section
variable {p q:RS}
theorem tH {k:Nat} (h:(tok p k).kind≠0):p.i+k < p.l.length:=by
 unfold tok at h
 refine Nat.lt_of_not_le fun hn=>?_
 rw [List.getElem?_eq_none_iff.2 hn] at h;exact h rfl
theorem is_lt {k:Nat} {s:ae} (h:is p k s=true):p.i+k < p.l.length:=by
 unfold is at h;rw [aC] at h;exact tH (by have:=h.1;simp at this;omega)
theorem kU {s:ae} (h:is p 0 s=true):p.to p.next:=ep (is_lt h)
theorem yy (hp:p.ok):p.to (lE p):=np hp _ _
theorem cR (hp:p.ok) (s:ae):p.to (want p s):=by
 unfold want;split
 ·split
  ·rename_i h;exact kU h
  ·exact yy hp
 ·exact lg hp
theorem jt (hp:p.ok):p.to (bL p):=by
 unfold bL;split
 ·split
  ·rename_i h;split
   ·exact np hp _ _
   ·exact ep (tH (k:=0) aq)
  ·exact yy hp
 ·exact lg hp
theorem vV (hp:p.ok) (d:Nat):p.to (cr p d):=by
 unfold cr;split
 ·exact np hp _ _
 ·exact lg hp
theorem qb {d:Nat} (h:(cr p d).code=0):cr p d=p:=by
 unfold cr at h |-;split at h
 ·unfold RS.fail at h;split at h
  ·cases h
  ·rename_i hd hc;exact absurd h hc
 ·rename_i hd;rw [L hd]
end
theorem km:∀ (f:Nat),(∀ j p t q,p.ok->iE f j p=some (t,q)->p.to q)/\(∀ d acc p l q,p.ok->iA f d acc p=some (l,q)->p.to q)
 | 0=>⟨fun j p t q _ h=>by simp [iE] at h,fun d acc p l q _ h=>by simp [iA] at h⟩
 | f+1=>by
  obtain ⟨F,I⟩:=km f;refine ⟨fun j p t q hp h=>?_,fun d acc p l q hp h=>?_⟩
  ·cases j with
   | expr d =>
    rw [iE] at h;have hd:=vV hp d;split at h
    ·exact hd.trans (F _ _ _ _ (hd.ok hp) h)
    ·cases h;exact hd
   | level k d =>
    rw [iE] at h;split at h
    ·exact F _ _ _ _ hp h
    ·split at h
     ·cases h
     ·rename_i out p' he;have:=F _ _ _ _ hp he;exact this.trans (F _ _ _ _ (this.ok hp) h)
   | loop k d out =>
    rw [iE] at h;split at h
    ·rename_i hc;have hn:=ep (p:=p) (tH (k:=0) (by have:=hc.2.1;omega));split at h
     ·cases h
     ·rename_i b p' he;have:=hn.trans (F _ _ _ _ (hn.ok hp) he);exact this.trans (F _ _ _ _ (this.ok hp) h)
    ·cases h;exact lg hp
   | operand d =>
    rw [iE] at h;split at h
    ·split at h
     ·rename_i hc
      have hn:p.to p.next:=by rcases hc with hc | hc | hc <;> exact kU hc
      split at h
      ·cases h
      ·rename_i a p' he
       cases h;exact hn.trans (F _ _ _ _ (hn.ok hp) he)
     ·split at h
      ·rename_i hk
       cases h;exact ep (tH (k:=0) aq)
      ·split at h
       ·rename_i hc;have hn:=kU hc;split at h
        ·cases h
        ·rename_i a p' he;have:=hn.trans (F _ _ _ _ (hn.ok hp) he)
         cases h;exact this.trans (cR (this.ok hp) _)
       ·have hn:=jt hp;split at h
        ·split at h
         ·rename_i hc;have b9:=hn.trans (kU hc);split at h
          ·cases h
          ·rename_i a p' he;have:=b9.trans (F _ _ _ _ (b9.ok hp) he)
           cases h;exact this.trans (cR (this.ok hp) _)
         ·split at h
          ·rename_i hc;have b9:=hn.trans (kU hc);split at h
           ·cases h
           ·rename_i a p' he
            cases h;exact b9.trans (I _ _ _ _ _ (b9.ok hp) he)
          ·cases h;exact hn
        ·cases h;exact hn
    ·cases h;exact vV hp d
  ·rw [iA] at h;split at h
   ·have hn:p.to (if acc.length=0 then p else want p [44]):=by
     split
     ·exact lg hp
     ·exact cR hp _
    split at h
    ·cases h
    ·rename_i a p' he;have:=hn.trans (F _ _ _ _ (hn.ok hp) he);exact this.trans (I _ _ _ _ _ (this.ok hp) h)
   ·cases h;exact cR hp _
theorem Ge:∀ (f:Nat),(∀ j p t q,p.ok->iS f j p=some (t,q)->p.to q)/\(∀ d acc p l q,p.ok->iB f d acc p=some (l,q)->p.to q)
 | 0=>⟨fun j p t q _ h=>by simp [iS] at h,fun d acc p l q _ h=>by simp [iB] at h⟩
 | f+1=>by
  obtain ⟨F,I⟩:=Ge f;have zq:=(km f).1;refine ⟨fun j p t q hp h=>?_,fun d acc p l q hp h=>?_⟩
  ·cases j with
   | block d =>
    rw [iS] at h;split at h
    ·have hm:=cR hp [123];split at h
     ·cases h
     ·rename_i l p' he;have:=hm.trans (I _ _ _ _ _ (hm.ok hp) he)
      cases h;exact this.trans (cR (this.ok hp) _)
    ·cases h;exact vV hp d
   | stmt d =>
    rw [iS] at h;split at h
    ·split at h
     ·rename_i hs;have hn:=kU hs;have eK:=hn.trans (jt (hn.ok hp));have lp:=eK.trans (cR (eK.ok hp) [61]);split at h
      ·cases h
      ·rename_i e p' he;have:=lp.trans (zq _ _ _ _ (lp.ok hp) he)
       cases h;exact this.trans (cR (this.ok hp) _)
     ·split at h
      ·rename_i hs
       have hn:p.to p.next:=by rcases hs with hs | hs <;> exact kU hs
       have lp:=hn.trans (cR (hn.ok hp) [40]);split at h
       ·cases h
       ·rename_i e p' he;have:=lp.trans (zq _ _ _ _ (lp.ok hp) he);have A9:=this.trans (cR (this.ok hp) [41]);split at h
        ·cases h
        ·rename_i b p2 hb;have eA:=A9.trans (F _ _ _ _ (A9.ok hp) hb);split at h
         ·rename_i hc;have b9:=eA.trans (kU hc.2.2);split at h
          ·cases h
          ·rename_i b2 p3 zm
           cases h;exact b9.trans (F _ _ _ _ (b9.ok hp) zm)
         ·cases h;exact eA
      ·split at h
       ·rename_i hs;have hn:=kU hs;split at h
        ·cases h
        ·rename_i e p' he;have:=hn.trans (zq _ _ _ _ (hn.ok hp) he)
         cases h;exact this.trans (cR (this.ok hp) _)
       ·split at h
        ·have eK:=jt hp;have lp:=eK.trans (cR (eK.ok hp) [61]);split at h
         ·cases h
         ·rename_i e p' he;have:=lp.trans (zq _ _ _ _ (lp.ok hp) he)
          cases h;exact this.trans (cR (this.ok hp) _)
        ·split at h
         ·cases h
         ·rename_i e p' he;have hx:=zq _ _ _ _ hp he;split at h
          ·have hn:=hx.trans (cR (hx.ok hp) [61]);split at h
           ·rename_i a r v p2 hk qL;have:=hn.trans (zq _ _ _ _ (hn.ok hp) qL)
            cases h;exact this.trans (cR (this.ok hp) _)
           ·cases h
          ·cases h;exact hx.trans (cR (hx.ok hp) _)
    ·cases h;exact vV hp d
  ·rw [iB] at h;split at h
   ·split at h
    ·cases h
    ·rename_i a p' he;have:=F _ _ _ _ hp he;exact this.trans (I _ _ _ _ _ (this.ok hp) h)
   ·cases h;exact lg hp
theorem xh (p:RS):p.next.i=p.i+1:=rfl
theorem XP:∀ (f:Nat) j p t q,p.ok->iE f j p=some (t,q)->q.code=0->(∀ k d out,j≠.loop k d out)->p.i < q.i:=by
 intro f
 induction f with
 | zero=>intro j p t q _ h;simp [iE] at h
 | succ f ih =>
  intro j p t q hp h hq hj
  cases j with
  | loop k d out=>exact absurd rfl (hj k d out)
  | expr d =>
   rw [iE] at h;split at h
   ·rename_i hc;rw [qb hc] at h;exact ih _ _ _ _ hp h hq (fun k d out h=>by cases h)
   ·rename_i hc;cases h;exact absurd hq hc
  | level k d =>
   rw [iE] at h;split at h
   ·exact ih _ _ _ _ hp h hq (fun k d out h=>by cases h)
   ·split at h
    ·cases h
    ·rename_i out p' he;have lG:=(km f).1 _ _ _ _ hp he
     have ak:p'.code=0:=by
      by_cases hc:p'.code=0
      ·exact hc
      ·cases f with
       | zero=>simp [iE] at h
       | succ f =>
        rw [iE,L (fun h0=>hc h0.1)] at h
        cases h;exact hq
     have F:=ih _ _ _ _ hp he ak (fun k d out h=>by cases h);have I:=(km f).1 _ _ _ _ (lG.ok hp) h;have:=I.2.2.2;omega
  | operand d =>
   rw [iE] at h;split at h
   ·split at h
    ·rename_i hc
     have hn:p.to p.next:=by rcases hc with hc | hc | hc <;> exact kU hc
     split at h
     ·cases h
     ·rename_i a p' he;cases h;have:=((km f).1 _ _ _ _ (hn.ok hp) he).2.2.2;rw [xh] at this;omega
    ·split at h
     ·cases h;rw [xh];omega
     ·split at h
      ·rename_i hc;have hn:=kU hc;split at h
       ·cases h
       ·rename_i a p' he;cases h;have F:=(km f).1 _ _ _ _ (hn.ok hp) he;have I:=(cR ((F.ok (hn.ok hp))) [41]).2.2.2;have:=F.2.2.2;rw [xh] at this;omega
      ·have hn:=jt hp;split at h
       ·rename_i nC
        have ak:p.i < (bL p).i:=by
         unfold bL at nC |-;split at nC
         ·rename_i h0;split at nC
          ·rename_i I;split at nC
           ·unfold RS.fail at nC;rw [ab h0] at nC;cases nC
           ·rename_i hl;rw [ab h0,ab I,L hl,xh];omega
          ·unfold lE RS.fail at nC;rw [ab h0] at nC;cases nC
         ·rename_i h0;exact absurd nC h0
        split at h
        ·rename_i hc;have b9:=hn.trans (kU hc);split at h
         ·cases h
         ·rename_i a p' he;cases h;have F:=(km f).1 _ _ _ _ (b9.ok hp) he;have I:=(cR ((F.ok (b9.ok hp))) [93]).2.2.2;have:=F.2.2.2;rw [xh] at this;omega
        ·split at h
         ·rename_i hc;have b9:=hn.trans (kU hc);split at h
          ·cases h
          ·rename_i a p' he;cases h;have:=((km f).2 _ _ _ _ _ (b9.ok hp) he).2.2.2;rw [xh] at this;omega
         ·cases h;exact ak
       ·rename_i nC;cases h;exact absurd hq nC
   ·rename_i hc;cases h;exact absurd hq hc
end Go.Im
namespace Go.Xp
mutual
def aK:T->Nat
 | .mk _ l=>aB l+1
def aB:List T->Nat
 | []=>0
 | t::r=>aK t+aB r
end
def bh:Nat->List T->List Int
 | _,[]=>[]
 | n,t::r=>(n:Int)::bh (n+aK t) r
mutual
def eN:Nat->T->List Nd
 | n,.mk nd l=>⟨nd.kind,nd.at_,nd.n,nd.s,bh (n+1) l⟩::bN (n+1) l
def bN:Nat->List T->List Nd
 | _,[]=>[]
 | n,t::r=>eN n t++bN (n+aK t) r
end
theorem fA (t:T):aK t=aB t.kids+1:=by cases t;rw [aK];rfl
theorem N4 (n:Nat) (t:T):eN n t=⟨t.n.kind,t.n.at_,t.n.n,t.n.s,bh (n+1) t.kids⟩::bN (n+1) t.kids:=by cases t;rw [eN];rfl
theorem oq (a b:List T):aB (a++b)=aB a+aB b:=by
 induction a with
 | nil=>simp [aB]
 | cons t a ih=>simp only [cons_append,aB,ih];omega
theorem x6 (a b:List T) (n:Nat):bh n (a++b)=bh n a++bh (n+aB a) b:=by
 induction a generalizing n with
 | nil=>simp [bh,aB]
 | cons t a ih=>simp only [cons_append,bh,aB,ih,gn]
theorem wM (a b:List T) (n:Nat):bN n (a++b)=bN n a++bN (n+aB a) b:=by
 induction a generalizing n with
 | nil=>simp [bN,aB]
 | cons t a ih=>simp only [cons_append,bN,aB,ih,gn,cS]
theorem dF (a:List T) (n:Nat):(bh n a).length=a.length:=by
 induction a generalizing n with
 | nil=>rfl
 | cons t a ih=>simp [bh,ih]
theorem N5:∀ (N:Nat),(∀ t:T,aK t<=N->∀ n,(eN n t).length=aK t)/\(∀ l:List T,aB l<=N->∀ n,(bN n l).length=aB l):=by
 intro N
 induction N with
 | zero =>
  refine ⟨fun t h=>by rw [fA] at h;omega,fun l h n=>?_⟩
  cases l with
  | nil=>rfl
  | cons t l=>rw [aB,fA] at h;omega
 | succ N ih =>
  have F:∀ t:T,aK t<=N+1->∀ n,(eN n t).length=aK t:=fun t h n=>by
   rw [fA] at h;rw [N4,fA,length_cons,ih.2 _ aq]
  refine ⟨F,fun l=>?_⟩
  induction l with
  | nil=>intro _ n;rfl
  | cons t l ih2 =>
   intro h n;rw [aB] at h;rw [bN,aO,F t aq,ih2 aq,aB]
theorem sq (t:T) (n:Nat):(eN n t).length=aK t:=(N5 (aK t)).1 t (aE _) n
theorem ki (l:List T) (n:Nat):(bN n l).length=aB l:=(N5 (aB l)).2 l (aE _) n
theorem s9 (l:List T) (k:Nat):aB (l.take k)<=aB l:=by
 have:aB l=aB (l.take k)+aB (l.drop k):=by rw [<-oq,List.take_append_drop]
 omega
theorem td {l:List T} {k:Nat} {t:T} (h:l[k]?=some t):aB (l.take (k+1))=aB (l.take k)+aK t:=by
 have:l.take (k+1)=l.take k++[t]:=by rw [cq,h];rfl
 rw [this,oq,aB,aB];rfl
theorem c6 (l:List T):l.length<=aB l:=by
 induction l with
 | nil=>simp
 | cons t l ih=>rw [aB,fA,length_cons];omega
open Go.Sp (bf eT)
abbrev K:=Int × Int × ae
def kf (t:Tok):K:=(t.kind,t.n,t.s)
abbrev kS (s:ae):K:=(3,0,s)
abbrev kN (s:ae):K:=(2,0,s)
abbrev kI (n:Int):K:=(1,n,[])
inductive E where
 | num (n:Int)
 | name (s:ae)
 | at_ (s:ae) (a:E)
 | call (s:ae) (l:List E)
 | un (s:ae) (a:E)
 | bin (s:ae) (a b:E)
def eQ (s:ae):Nat:=(levels.findIdx? fun l=>l.contains s).getD 9
def E.lv:E->Nat
 | .bin s _ _=>eQ s
 | _=>9
def brk (lv k:Nat) (x:List K):List K:=if lv < k then kS [40]::(x++[kS [41]]) else x
mutual
def E.tk:E->List K
 | .num n=>[kI n]
 | .name s=>[kN s]
 | .at_ s a=>kN s::kS [91]::(a.tk++[kS [93]])
 | .call s l=>kN s::kS [40]::(E.oh l++[kS [41]])
 | .un s a=>kS s::brk a.lv 9 a.tk
 | .bin s a b=>brk a.lv (eQ s) a.tk++kS s::brk b.lv (eQ s+1) b.tk
def E.oh:List E->List K
 | []=>[]
 | a::l=>a.tk++E.rK l
def E.rK:List E->List K
 | []=>[]
 | a::l=>kS [44]::(a.tk++E.rK l)
end
mutual
def E.tree:E->T
 | .num n=>.mk ⟨1,0,n,[],[]⟩ []
 | .name s=>.mk ⟨2,0,0,s,[]⟩ []
 | .at_ s a=>.mk ⟨3,0,0,s,[]⟩ [a.tree]
 | .call s l=>.mk ⟨4,0,0,s,[]⟩ (E.trees l)
 | .un s a=>.mk ⟨5,0,0,s,[]⟩ [a.tree]
 | .bin s a b=>.mk ⟨6,0,0,s,[]⟩ [a.tree,b.tree]
def E.trees:List E->List T
 | []=>[]
 | a::l=>a.tree::E.trees l
end
def JN (lv k d:Nat) (f:Nat->Bool):Bool:=if lv < k then decide (d<=60)&&decide (d+1<=60)&&f (d+2) else f d
mutual
def E.fit:E->Nat->Bool
 | .num _,d=>decide (d<=60)
 | .name _,d=>decide (d<=60)
 | .at_ _ a,d=>decide (d<=60)&&decide (d+1<=60)&&a.fit (d+2)
 | .call _ l,d=>decide (d<=60)&&E.fits l (d+1)
 | .un _ a,d=>decide (d<=60)&&(if a.lv < 9 then decide (d+1<=60)&&decide (d+2<=60)&&a.fit (d+3) else a.fit (d+1))
 | .bin s a b,d=>(if a.lv < eQ s then decide (d<=60)&&decide (d+1<=60)&&a.fit (d+2) else a.fit d)&&(if b.lv < eQ s+1 then decide (d<=60)&&decide (d+1<=60)&&b.fit (d+2) else b.fit d)
def E.fits:List E->Nat->Bool
 | [],_=>true
 | a::l,d=>decide (d<=60)&&a.fit (d+1)&&E.fits l d
end
mutual
def E.ok:E->Bool
 | .num n=>decide (0<=n)&&decide (n<=2147483647)
 | .name s=>bf s
 | .at_ s a=>bf s&&a.ok
 | .call s l=>bf s&&E.db l
 | .un s a=>(s==[45] || s==[33] || s==[126])&&a.ok
 | .bin s a b=>eT s&&a.ok&&b.ok
def E.db:List E->Bool
 | []=>true
 | a::l=>a.ok&&E.db l
end
mutual
def er:T->T
 | .mk n l=>.mk ⟨n.kind,0,n.n,n.s,[]⟩ (aV l)
def aV:List T->List T
 | []=>[]
 | t::l=>er t::aV l
end
theorem JY (l k:List T):aV (l++k)=aV l++aV k:=by
 induction l with
 | nil=>rfl
 | cons t l ih=>simp [aV,ih]
theorem ur (l:List T):aV l=l.map er:=by
 induction l with
 | nil=>rfl
 | cons t l ih=>simp [aV,ih]
theorem eI (k a:Int) (s:ae) (l:List T):er (one k a s l)=.mk ⟨k,0,0,s,[]⟩ (aV l):=by unfold one;rw [er]
def Ev (e:Int) (j:pY) (ts:List Tok) (x:Rd T):Prop:=∃ f0,∀ f,f0<=f->rd e f j ts=x
def Ea (e:Int) (d:Nat) (acc:List T) (ts:List Tok) (x:Rd (List T)):Prop:=∃ f0,∀ f,f0<=f->rd.args e f d acc ts=x
section
variable {e:Int} {d k:Nat} {ts r:List Tok} {t out:T} {x:Rd T} {y:Er}
theorem AX {j j':pY} {ts jV:List Tok} {x x':Rd T} (h:Ev e j ts x) (hs:∀ f,rd e f j ts=x->rd e (f+1) j' jV=x'):Ev e j' jV x':=by
 obtain ⟨f0,h0⟩:=h;refine ⟨f0+1,fun f hf=>?_⟩;obtain ⟨f,rfl⟩:∃ g,f=g+1:=⟨f - 1,by omega⟩;exact hs f (h0 f aq)
theorem ev2 {j j' j2:pY} {ts jV xz:List Tok} {x x' x2:Rd T} (h:Ev e j ts x) (I:Ev e j2 xz x2) (hs:∀ f,rd e f j ts=x->rd e f j2 xz=x2->rd e (f+1) j' jV=x'):Ev e j' jV x':=by
 obtain ⟨f0,h0⟩:=h;obtain ⟨cy,F⟩:=I;refine ⟨f0+cy+1,fun f hf=>?_⟩;obtain ⟨f,rfl⟩:∃ g,f=g+1:=⟨f - 1,by omega⟩;exact hs f (h0 f aq) (F f aq)
theorem NW {j':pY} {jV:List Tok} {x':Rd T} (hs:∀ f,rd e (f+1) j' jV=x'):Ev e j' jV x' :=
 ⟨1,fun f hf=>by obtain ⟨f,rfl⟩:∃ g,f=g+1:=⟨f - 1,by omega⟩;exact hs f⟩
theorem Ev.expr (hd:d<=60) (h:Ev e (.level 0 (d+1)) ts x):Ev e (.expr d) ts x:=AX h fun f h=>by rw [rd,L aq];exact h
theorem Ev.Ze (hd:60 < d):Ev e (.expr d) ts (.error (9,place e ts)):=NW fun f=>by rw [rd,ab hd]
theorem Ev.level (hk:k≠9) (h:Ev e (.level (k+1) d) ts (.ok (out,r))) (I:Ev e (.loop k d out) r x):Ev e (.level k d) ts x:=ev2 h I fun f h I=>by rw [rd,L hk,h];exact I
theorem Ev.X7 (hk:k≠9) (h:Ev e (.level (k+1) d) ts (.error y)):Ev e (.level k d) ts (.error y):=AX h fun f h=>by rw [rd,L hk,h]
theorem Ev.HJ (h:Ev e (.operand d) ts x):Ev e (.level 9 d) ts x:=AX h fun f h=>by rw [rd,ab rfl];exact h
theorem Ev.stop (h:sign ts 0 ∉ levels.getD k []):Ev e (.loop k d out) ts (.ok (out,ts)):=NW fun f=>by
 cases ts with
 | nil=>rw [rd]
 | cons t r =>
  rw [rd,L];rintro ⟨h3,h4⟩;apply h;simp only [sign,getElem?_cons_zero,bH,h3,if_true];exact h4
theorem Ev.go {t:Tok} {b:T} {r':List Tok} (h3:t.kind=3) (hs:t.s∈levels.getD k []) (h:Ev e (.level (k+1) d) r (.ok (b,r'))) (I:Ev e (.loop k d (one 6 t.at_ t.s [out,b])) r' x):Ev e (.loop k d out) (t::r) x :=
 ev2 h I fun f h I=>by rw [rd,ab ⟨h3,hs⟩,h];exact I
theorem Ev.goX {t:Tok} (h3:t.kind=3) (hs:t.s∈levels.getD k []) (h:Ev e (.level (k+1) d) r (.error y)):Ev e (.loop k d out) (t::r) (.error y) :=
 AX h fun f h=>by rw [rd,ab ⟨h3,hs⟩,h]
theorem Ev.Tg (hd:60 < d):Ev e (.operand d) ts (.error (9,place e ts)):=NW fun f=>by rw [rd.eq_def];simp only;rw [ab hd]
theorem Ev.num {t:Tok} (hd:d<=60) (h:t.kind=1):Ev e (.operand d) (t::r) (.ok (.mk ⟨1,t.at_,t.n,[],[]⟩ [],r)):=NW fun f=>by
 rw [rd.eq_def];simp only;rw [L aq,L aq,ab h]
theorem Ev.un {t:Tok} {a:T} {r':List Tok} (hd:d<=60) (h3:t.kind=3) (hs:t.s=[45]\/t.s=[33]\/t.s=[126]) (h:Ev e (.operand (d+1)) r (.ok (a,r'))):Ev e (.operand d) (t::r) (.ok (one 5 t.at_ t.s [a],r')) :=
 AX h fun f h=>by rw [rd.eq_def];simp only;rw [L aq,ab h3,ab hs,h]
theorem Ev.unX {t:Tok} (hd:d<=60) (h3:t.kind=3) (hs:t.s=[45]\/t.s=[33]\/t.s=[126]) (h:Ev e (.operand (d+1)) r (.error y)):Ev e (.operand d) (t::r) (.error y) :=
 AX h fun f h=>by rw [rd.eq_def];simp only;rw [L aq,ab h3,ab hs,h]
theorem Ev.par {t u:Tok} {a:T} {r':List Tok} (hd:d<=60) (h3:t.kind=3) (hs:t.s=[40]) (hu:u.kind=3) (gX:u.s=[41]) (h:Ev e (.expr (d+1)) r (.ok (a,u::r'))):Ev e (.operand d) (t::r) (.ok (a,r')) :=
 AX h fun f h=>by
  rw [rd.eq_def];simp only;rw [L aq,ab h3,L (by rw [hs];decide),ab hs,h];simp only [aW,sign,getElem?_cons_zero,bH,hu,if_true,gX,tail_cons]
theorem Ev.abL {t:Tok} (hd:d<=60) (h3:t.kind=3) (hs:t.s=[40]) (h:Ev e (.expr (d+1)) r (.error y)):Ev e (.operand d) (t::r) (.error y) :=
 AX h fun f h=>by rw [rd.eq_def];simp only;rw [L aq,ab h3,L (by rw [hs];decide),ab hs,h]
theorem uu {t:Tok} (I:t.kind=2) (hl:t.s.length<=12):name e (t::r)=.ok (t.s,r):=by
 simp only [name,I,if_true];rw [L aq]
theorem Ev.name {t:Tok} (hd:d<=60) (I:t.kind=2) (hl:t.s.length<=12) (n1:sign r 0≠[91]) (n2:sign r 0≠[40]):Ev e (.operand d) (t::r) (.ok (one 2 t.at_ t.s [],r)):=NW fun f=>by
 rw [rd.eq_def];simp only;rw [L aq,L aq,L aq,uu I hl];simp only;rw [L n1,L n2]
theorem Ev.ix {t u w:Tok} {a:T} {r':List Tok} (hd:d<=60) (I:t.kind=2) (hl:t.s.length<=12) (hu:u.kind=3) (gX:u.s=[91]) (hw:w.kind=3) (Fk:w.s=[93]) (h:Ev e (.expr (d+1)) r (.ok (a,w::r'))):Ev e (.operand d) (t::u::r) (.ok (one 3 t.at_ t.s [a],r')) :=
 AX h fun f h=>by
  rw [rd.eq_def];simp only;rw [L aq,L aq,L aq,uu I hl];simp only;rw [ab (by simp only [sign,getElem?_cons_zero,bH,hu,if_true,gX]),tail_cons,h];simp only [aW,sign,getElem?_cons_zero,bH,hw,if_true,Fk,tail_cons]
theorem Ev.ixX {t u:Tok} (hd:d<=60) (I:t.kind=2) (hl:t.s.length<=12) (hu:u.kind=3) (gX:u.s=[91]) (h:Ev e (.expr (d+1)) r (.error y)):Ev e (.operand d) (t::u::r) (.error y) :=
 AX h fun f h=>by
  rw [rd.eq_def];simp only;rw [L aq,L aq,L aq,uu I hl];simp only;rw [ab (by simp only [sign,getElem?_cons_zero,bH,hu,if_true,gX]),tail_cons,h]
theorem Ev.call {t u:Tok} {l:List T} {r':List Tok} (hd:d<=60) (I:t.kind=2) (hl:t.s.length<=12) (hu:u.kind=3) (gX:u.s=[40]) (h:Ea e (d+1) [] r (.ok (l,r'))):Ev e (.operand d) (t::u::r) (.ok (one 4 t.at_ t.s l,r')):=by
 obtain ⟨f0,h0⟩:=h;refine ⟨f0+1,fun f hf=>?_⟩;obtain ⟨f,rfl⟩:∃ g,f=g+1:=⟨f - 1,by omega⟩
 have hs:sign (u::r) 0=[40]:=by simp only [sign,getElem?_cons_zero,bH,hu,if_true,gX]
 rw [rd.eq_def];simp only;rw [L aq,L aq,L aq,uu I hl];simp only;rw [L (by rw [hs];decide),ab hs,tail_cons,h0 f aq]
theorem Ev.Y8 {t u:Tok} (hd:d<=60) (I:t.kind=2) (hl:t.s.length<=12) (hu:u.kind=3) (gX:u.s=[40]) (h:Ea e (d+1) [] r (.error y)):Ev e (.operand d) (t::u::r) (.error y):=by
 obtain ⟨f0,h0⟩:=h;refine ⟨f0+1,fun f hf=>?_⟩;obtain ⟨f,rfl⟩:∃ g,f=g+1:=⟨f - 1,by omega⟩
 have hs:sign (u::r) 0=[40]:=by simp only [sign,getElem?_cons_zero,bH,hu,if_true,gX]
 rw [rd.eq_def];simp only;rw [L aq,L aq,L aq,uu I hl];simp only;rw [L (by rw [hs];decide),ab hs,tail_cons,h0 f aq]
theorem Ea.nil {u:Tok} {acc:List T} (hu:u.kind=3) (gX:u.s=[41]):Ea e d acc (u::r) (.ok (acc,r)):=⟨1,fun f hf=>by
 obtain ⟨f,rfl⟩:∃ g,f=g+1:=⟨f - 1,by omega⟩
 have hs:sign (u::r) 0=[41]:=by simp only [sign,getElem?_cons_zero,bH,hu,if_true,gX]
 rw [rd.args,ab hs];rfl⟩
theorem Ea.first {a:T} {r':List Tok} {x:Rd (List T)} (hs:sign r 0≠[41]) (h:Ev e (.expr d) r (.ok (a,r'))) (I:Ea e d [a] r' x):Ea e d [] r x:=by
 obtain ⟨f0,h0⟩:=h;obtain ⟨cy,F⟩:=I;refine ⟨f0+cy+1,fun f hf=>?_⟩;obtain ⟨f,rfl⟩:∃ g,f=g+1:=⟨f - 1,by omega⟩;rw [rd.args,L hs,ab rfl];simp only;rw [h0 f aq];exact F f aq
theorem Ea.Wj {a:T} (hs:sign r 0≠[41]) (h:Ev e (.expr d) r (.error y)):Ea e d [] r (.error y):=by
 obtain ⟨f0,h0⟩:=h;refine ⟨f0+1,fun f hf=>?_⟩;obtain ⟨f,rfl⟩:∃ g,f=g+1:=⟨f - 1,by omega⟩;rw [rd.args,L hs,ab rfl];simp only;rw [h0 f aq]
theorem Ea.more {u:Tok} {acc:List T} {a:T} {r':List Tok} {x:Rd (List T)} (ha:acc≠[]) (hu:u.kind=3) (gX:u.s=[44]) (h:Ev e (.expr d) r (.ok (a,r'))) (I:Ea e d (acc++[a]) r' x):Ea e d acc (u::r) x:=by
 obtain ⟨f0,h0⟩:=h;obtain ⟨cy,F⟩:=I;refine ⟨f0+cy+1,fun f hf=>?_⟩;obtain ⟨f,rfl⟩:∃ g,f=g+1:=⟨f - 1,by omega⟩
 have hs:sign (u::r) 0=[44]:=by simp only [sign,getElem?_cons_zero,bH,hu,if_true,gX]
 rw [rd.args,L (by rw [hs];decide),L ha,aW,ab hs];simp only [tail_cons];rw [h0 f aq];exact F f aq
theorem Ea.ZM {u:Tok} {acc:List T} (ha:acc≠[]) (hu:u.kind=3) (gX:u.s=[44]) (h:Ev e (.expr d) r (.error y)):Ea e d acc (u::r) (.error y):=by
 obtain ⟨f0,h0⟩:=h;refine ⟨f0+1,fun f hf=>?_⟩;obtain ⟨f,rfl⟩:∃ g,f=g+1:=⟨f - 1,by omega⟩
 have hs:sign (u::r) 0=[44]:=by simp only [sign,getElem?_cons_zero,bH,hu,if_true,gX]
 rw [rd.args,L (by rw [hs];decide),L ha,aW,ab hs];simp only [tail_cons];rw [h0 f aq]
structure Stop (r:List Tok) (k:Nat):Prop where
 a:sign r 0≠[91]
 b:sign r 0≠[40]
 c:∀ j,k < j->sign r 0 ∉ levels.getD j []
theorem Stop.mono {k':Nat} (h:Stop r k) (hk:k<=k'):Stop r k':=⟨h.a,h.b,fun j hj=>h.c j aq⟩
theorem Ev.lift {m:Nat} (h:Ev e (.level m d) ts (.ok (t,r))) (hm:m<=9) (hs:Stop r k):∀ n,m=k+1+n->Ev e (.loop k d t) r x->Ev e (.level k d) ts x:=by
 intro n
 induction n generalizing m with
 | zero=>intro he I;exact Ev.level aq (by rw [<-he];exact h) I
 | succ n ih =>
  intro he I;exact ih (m:=k+1+n) (Ev.level aq (by rw [show k+1+n+1=m by omega];exact h) (Ev.stop (hs.c _ aq))) aq rfl I
theorem Ev.T0 {m:Nat} (h:Ev e (.level m d) ts (.error y)) (hm:m<=9):∀ n,m=k+n->Ev e (.level k d) ts (.error y):=by
 intro n
 induction n generalizing m with
 | zero=>intro he;subst he;exact h
 | succ n ih=>intro he;exact ih (m:=k+n) (Ev.X7 aq (by rw [show k+n+1=m by omega];exact h)) aq rfl
def Rt (e:Int) (k d:Nat) (ts rest:List Tok) (Q:T->Prop) (b:Bool):Prop :=
 (b=true->∃ t,Q t/\(k < 9->∀ x,Ev e (.loop k d t) rest x->Ev e (.level k d) ts x)/\(k=9->Ev e (.level 9 d) ts (.ok (t,rest))))/\(b=false->∃ pos,Ev e (.level k d) ts (.error (9,pos)))
def Ro (e:Int) (d:Nat) (ts rest:List Tok) (Q:T->Prop) (b:Bool):Prop :=
 (b=true->∃ t,Q t/\Ev e (.operand d) ts (.ok (t,rest)))/\(b=false->∃ pos,Ev e (.operand d) ts (.error (9,pos)))
def Rx (e:Int) (d:Nat) (ts rest:List Tok) (Q:T->Prop) (b:Bool):Prop :=
 (b=true->∃ t,Q t/\Ev e (.expr d) ts (.ok (t,rest)))/\(b=false->∃ pos,Ev e (.expr d) ts (.error (9,pos)))
theorem Ro.rt {rest:List Tok} {Q:T->Prop} {b:Bool} (h:Ro e d ts rest Q b) (hk:k<=9) (hs:Stop rest k):Rt e k d ts rest Q b:=by
 refine ⟨fun hb=>?_,fun hb=>?_⟩
 ·obtain ⟨t,F,I⟩:=h.1 hb;exact ⟨t,F,fun CQ x h3=>Ev.lift (Ev.HJ I) (aE _) hs (8 - k) aq h3,fun _=>Ev.HJ I⟩
 ·obtain ⟨pos,F⟩:=h.2 hb;exact ⟨pos,Ev.T0 (Ev.HJ F) (aE _) (9 - k) aq⟩
theorem Rt.down {rest:List Tok} {Q:T->Prop} {b:Bool} {m:Nat} (h:Rt e m d ts rest Q b) (hm:m < 9) (hk:k<=m) (hs:Stop rest k):Rt e k d ts rest Q b:=by
 rcases Nat.lt_or_ge k m with ak | mV
 ·refine ⟨fun hb=>?_,fun hb=>?_⟩
  ·obtain ⟨t,F,I,_⟩:=h.1 hb;have h3:=I hm _ (Ev.stop (hs.c m ak));exact ⟨t,F,fun CQ x h4=>Ev.lift h3 aq hs (m - 1 - k) aq h4,fun h9=>by omega⟩
  ·obtain ⟨pos,F⟩:=h.2 hb;exact ⟨pos,Ev.T0 F aq (m - k) aq⟩
 ·obtain rfl:k=m:=by omega
  exact h
theorem Rt.rx {rest:List Tok} {Q:T->Prop} {b:Bool} (h:Rt e 0 (d+1) ts rest Q b) (hs:sign rest 0 ∉ levels.getD 0 []):Rx e d ts rest Q (decide (d<=60)&&b):=by
 by_cases hd:d<=60
 ·have:(decide (d<=60)&&b)=b:=by simp [hd]
  rw [this];refine ⟨fun hb=>?_,fun hb=>?_⟩
  ·obtain ⟨t,F,I,_⟩:=h.1 hb;exact ⟨t,F,Ev.expr hd (I aq _ (Ev.stop hs))⟩
  ·obtain ⟨pos,F⟩:=h.2 hb;exact ⟨pos,Ev.expr hd F⟩
 ·have:(decide (d<=60)&&b)=false:=by simp [hd]
  rw [this];exact ⟨fun hb=>(by cases hb),fun _=>⟨_,Ev.Ze aq⟩⟩
end
theorem Ev.T9 {e:Int} {d:Nat} {ts:List Tok} {x:Rd T} (h:Ev e (.level 9 d) ts x):Ev e (.operand d) ts x:=by
 obtain ⟨f0,h0⟩:=h;refine ⟨f0,fun f hf=>?_⟩;have:=h0 (f+1) aq;rw [rd,ab rfl] at this;exact this
theorem Ro.T9 {e:Int} {d:Nat} {ts rest:List Tok} {Q:T->Prop} {b:Bool} (h:Rt e 9 d ts rest Q b):Ro e d ts rest Q b :=
 ⟨fun hb=>by obtain ⟨t,F,_,I⟩:=h.1 hb;exact ⟨t,F,(I rfl).T9⟩,fun hb=>by obtain ⟨pos,F⟩:=h.2 hb;exact ⟨pos,F.T9⟩⟩
theorem uy {t:Tok} {r:List Tok} {s:ae} (h:kf t=kS s):sign (t::r) 0=s:=by
 simp only [kf,kS,Prod.mk.injEq] at h;simp only [sign,getElem?_cons_zero,bH,h.1,if_true,h.2.2]
theorem Ez {t:Tok} {r:List Tok} (h:t.kind≠3):sign (t::r) 0=[]:=by
 simp only [sign,getElem?_cons_zero,bH,L h]
theorem KC {j:Nat} (h:9<=j):levels.getD j []=[]:=by
 rw [List.getD_eq_getElem?_getD,getElem?_eq_none (by simpa [levels] using h)];rfl
theorem FT {r:List Tok} {s:ae} (h:sign r 0=s) (hs:s=[]\/s=[41]\/s=[93]\/s=[44]\/s=[59]\/s=[61]):Stop r 0:=by
 have h9:∀ j,j < 9->∀ s:ae,(s=[]\/s=[41]\/s=[93]\/s=[44]\/s=[59]\/s=[61])->s ∉ levels.getD j []:=by
  intro j hj s hs
  have:∀ j,j < 9->∀ s∈([[],[41],[93],[44],[59],[61]]:List ae),s ∉ levels.getD j []:=by decide
  exact this j hj s (by simpa using hs)
 refine ⟨?_,?_,fun j _=>?_⟩
 ·rw [h];rcases hs with rfl | rfl | rfl | rfl | rfl | rfl <;> decide
 ·rw [h];rcases hs with rfl | rfl | rfl | rfl | rfl | rfl <;> decide
 ·rw [h]
  rcases Nat.lt_or_ge j 9 with h0 | h0
  ·exact h9 j h0 s hs
  ·rw [KC h0];simp
theorem DA {r:List Tok} {s:ae} (h:sign r 0=s) (hs:s=[]\/s=[41]\/s=[93]\/s=[44]\/s=[59]\/s=[61]):sign r 0 ∉ levels.getD 0 []:=by
 rw [h];rcases hs with rfl | rfl | rfl | rfl | rfl | rfl <;> decide
theorem qP {s:ae} (h:eT s=true):eQ s < 9/\s∈levels.getD (eQ s) []/\s≠[91]/\s≠[40]/\∀ j,eQ s < j->s ∉ levels.getD j []:=by
 have hm:s∈levels.flatten:=by
  unfold eT at h;rw [nX] at h;obtain ⟨l,hl,hc⟩:=h;exact List.mem_flatten.2 ⟨l,hl,by simpa using hc⟩
 have key:∀ s∈levels.flatten,eQ s < 9/\s∈levels.getD (eQ s) []/\s≠[91]/\s≠[40]/\∀ j,j < 9->eQ s < j->s ∉ levels.getD j []:=by decide
 obtain ⟨F,I,h3,h4,h5⟩:=key s hm;refine ⟨F,I,h3,h4,fun j hj=>?_⟩
 rcases Nat.lt_or_ge j 9 with h0 | h0
 ·exact h5 j h0 hj
 ·rw [KC h0];simp
theorem E.abW {a:E} (h:a.ok=true):a.lv<=9:=by
 cases a with
 | bin s a b=>simp only [E.ok,aC] at h;exact Nat.le_of_lt (qP h.1.1).1
 | _=>exact aE _
def lB (a:E):Prop:=∀ (e:Int) (k d:Nat) (ts rest:List Tok),k<=a.lv->a.ok=true->ts.map kf=a.tk->Stop rest k->Rt e k d (ts++rest) rest (fun t=>er t=a.tree) (a.fit d)
def Y1 (a:E):Prop:=∀ (e:Int) (k d:Nat) (ts rest:List Tok),k<=9->a.ok=true->ts.map kf=brk a.lv k a.tk->Stop rest k->Rt e k d (ts++rest) rest (fun t=>er t=a.tree) (JN a.lv k d a.fit)
theorem map_cons {ts:List Tok} {k:K} {l:List K} (h:ts.map kf=k::l):∃ t r,ts=t::r/\kf t=k/\r.map kf=l:=List.map_eq_cons_iff.1 h
theorem dT {ts:List Tok} {l l':List K} (h:ts.map kf=l++l'):∃ a b,ts=a++b/\a.map kf=l/\b.map kf=l':=List.map_eq_append_iff.1 h
theorem jx {ts:List Tok} {k:K} (h:ts.map kf=[k]):∃ t,ts=[t]/\kf t=k:=by
 obtain ⟨t,r,rfl,F,I⟩:=map_cons h
 have:r=[]:=by simpa using I
 subst this;exact ⟨t,rfl,F⟩
theorem eY {t:Tok} {s:ae} (h:kf t=kS s):t.kind=3/\t.s=s:=by simp only [kf,kS,Prod.mk.injEq] at h;exact ⟨h.1,h.2.2⟩
theorem rz {t:Tok} {s:ae} (h:kf t=kN s):t.kind=2/\t.s=s:=by simp only [kf,kN,Prod.mk.injEq] at h;exact ⟨h.1,h.2.2⟩
theorem RL {t:Tok} {n:Int} (h:kf t=kI n):t.kind=1/\t.n=n:=by simp only [kf,kI,Prod.mk.injEq] at h;exact ⟨h.1,h.2.1⟩
theorem lB.rx {a:E} (h:lB a) {e:Int} {d:Nat} {ts rest:List Tok} {s:ae} (ho:a.ok=true) (ht:ts.map kf=a.tk) (hs:sign rest 0=s) (pR:s=[]\/s=[41]\/s=[93]\/s=[44]\/s=[59]\/s=[61]) :
  Rx e d (ts++rest) rest (fun t=>er t=a.tree) (decide (d<=60)&&a.fit (d+1)):=(h e 0 (d+1) ts rest (aM _) ho ht (FT hs pR)).rx (DA hs pR)
theorem lB.good {a:E} (h:lB a):Y1 a:=by
 intro e k d ts rest hk ho ht hs;unfold brk at ht;unfold JN
 by_cases hl:a.lv < k
 ·rw [ab hl] at ht |-;obtain ⟨t,r,rfl,F,I⟩:=map_cons ht;obtain ⟨A,B,rfl,h3,h4⟩:=dT I;obtain ⟨u,rfl,h5⟩:=jx h4;obtain ⟨F,dq⟩:=eY F;obtain ⟨h5,Ts⟩:=eY h5;have hx:=h.rx (e:=e) (d:=d+1) (rest:=u::rest) (s:=[41]) ho h3 (by simp only [sign,getElem?_cons_zero,bH,h5,if_true,Ts]) (by simp);refine Ro.rt ?_ hk hs
  have he:t::(A++[u])++rest=t::(A++u::rest):=by simp
  rw [he]
  by_cases hd:d<=60
  ·have:(decide (d<=60)&&decide (d+1<=60)&&a.fit (d+2))=(decide (d+1<=60)&&a.fit (d+1+1)):=by simp [hd]
   rw [this];refine ⟨fun hb=>?_,fun hb=>?_⟩
   ·obtain ⟨t',k1,k2⟩:=hx.1 hb;exact ⟨t',k1,Ev.par hd F dq h5 Ts k2⟩
   ·obtain ⟨pos,k1⟩:=hx.2 hb;exact ⟨pos,Ev.abL hd F dq k1⟩
  ·have:(decide (d<=60)&&decide (d+1<=60)&&a.fit (d+2))=false:=by simp [hd]
   rw [this];exact ⟨fun hb=>(by cases hb),fun _=>⟨_,Ev.Tg aq⟩⟩
 ·rw [L hl] at ht |-;exact h e k d ts rest aq ho ht hs
theorem ux {e:Int} {d:Nat} {ts rest:List Tok} {Q:T->Prop} {b:Bool} (h:d<=60->Ro e d ts rest Q b):Ro e d ts rest Q (decide (d<=60)&&b):=by
 by_cases hd:d<=60
 ·have:(decide (d<=60)&&b)=b:=by simp [hd]
  rw [this];exact h hd
 ·have:(decide (d<=60)&&b)=false:=by simp [hd]
  rw [this];exact ⟨fun hb=>(by cases hb),fun _=>⟨_,Ev.Tg aq⟩⟩
theorem nM {s:ae} (h:bf s=true):s.length<=12:=by
 simp only [Go.Sp.bf,aC,decide_eq_true_eq] at h;exact h.1.2
theorem Q7 (n:Int):lB (.num n):=by
 intro e k d ts rest hk ho ht hs;obtain ⟨t,rfl,F⟩:=jx ht;obtain ⟨F,I⟩:=RL F;refine Ro.rt ?_ hk hs
 have:=ux (e:=e) (d:=d) (ts:=[t]++rest) (rest:=rest) (Q:=fun t=>er t=(E.num n).tree) (b:=true) fun hd=>⟨fun _=>⟨_,?_,Ev.num hd F⟩,fun h=>by cases h⟩
 ·simpa [E.fit] using this
 ·show er _=_;rw [er,E.tree,I];rfl
theorem NN (s:ae):lB (.name s):=by
 intro e k d ts rest hk ho ht hs;obtain ⟨t,rfl,F⟩:=jx ht;obtain ⟨F,I⟩:=rz F;simp only [E.ok] at ho;refine Ro.rt ?_ hk hs
 have:=ux (e:=e) (d:=d) (ts:=[t]++rest) (rest:=rest) (Q:=fun t=>er t=(E.name s).tree) (b:=true) fun hd=>⟨fun _=>⟨_,?_,Ev.name hd F (by rw [I];exact nM ho) hs.a hs.b⟩,fun h=>by cases h⟩
 ·simpa [E.fit] using this
 ·show er _=_;rw [eI,E.tree,I];rfl
theorem UC (s:ae) {a:E} (C:lB a):lB (.at_ s a):=by
 intro e k d ts rest hk ho ht hs;simp only [E.ok,aC] at ho;rw [E.tk] at ht;obtain ⟨t,r,rfl,F,I⟩:=map_cons ht;obtain ⟨u,r,rfl,h3,h4⟩:=map_cons I;obtain ⟨A,B,rfl,h5,h6⟩:=dT h4;obtain ⟨w,rfl,h7⟩:=jx h6;obtain ⟨F,dq⟩:=rz F;obtain ⟨h3,lF⟩:=eY h3;obtain ⟨h7,lZ⟩:=eY h7
 have hl:t.s.length<=12:=by rw [dq];exact nM ho.1
 have hx:=C.rx (e:=e) (d:=d+1) (rest:=w::rest) (s:=[93]) ho.2 h5 (by simp only [sign,getElem?_cons_zero,bH,h7,if_true,lZ]) (by simp);refine Ro.rt ?_ hk hs
 have he:t::u::(A++[w])++rest=t::u::(A++w::rest):=by simp
 rw [he,E.fit,Bool.and_assoc]
 refine ux fun hd=>⟨fun hb=>?_,fun hb=>?_⟩
 ·obtain ⟨t',k1,k2⟩:=hx.1 hb;exact ⟨_,by show er _=_;rw [eI,aV,k1,dq,E.tree];rfl,Ev.ix hd F hl h3 lF h7 lZ k2⟩
 ·obtain ⟨pos,k1⟩:=hx.2 hb;exact ⟨pos,Ev.ixX hd F hl h3 lF k1⟩
theorem UE (s:ae) {a:E} (C:lB a):lB (.un s a):=by
 intro e k d ts rest hk ho ht hs;simp only [E.ok,aC,Bool.or_eq_true,beq_iff_eq] at ho;rw [E.tk] at ht;obtain ⟨t,r,rfl,F,I⟩:=map_cons ht;obtain ⟨F,dq⟩:=eY F;have CQ:k<=9:=hk;have hg:=Ro.T9 (C.good e 9 (d+1) r rest (aE _) ho.2 I (hs.mono CQ));refine Ro.rt ?_ hk hs
 have tZ:t.s=[45]\/t.s=[33]\/t.s=[126]:=by rw [dq];rcases ho.1 with (h | h) | h <;> simp [h]
 rw [E.fit]
 refine ux fun hd=>⟨fun hb=>?_,fun hb=>?_⟩
 ·obtain ⟨t',k1,k2⟩:=hg.1 hb;exact ⟨_,by show er _=_;rw [eI,aV,k1,dq,E.tree];rfl,Ev.un hd F tZ k2⟩
 ·obtain ⟨pos,k1⟩:=hg.2 hb;exact ⟨pos,Ev.unX hd F tZ k1⟩
theorem Q4 (s:ae) {a b:E} (Ca:lB a) (Cb:lB b):lB (.bin s a b):=by
 intro e k d ts rest hk ho ht hs;simp only [E.ok,aC] at ho;obtain ⟨l1,l2,l3,l4,l5⟩:=qP ho.1.1;rw [E.tk] at ht;obtain ⟨A,B,rfl,F,I⟩:=dT ht;obtain ⟨t,r,rfl,h3,h4⟩:=map_cons I;obtain ⟨h3,lF⟩:=eY h3;have mW:k<=eQ s:=hk;have kl:=hs.mono mW;refine Rt.down (m:=eQ s) ?_ l1 mW hs
 have dE:sign (t::(r++rest)) 0=s:=by simp only [sign,getElem?_cons_zero,bH,h3,if_true,lF]
 have ga:=Ca.good e (eQ s) d A (t::(r++rest)) aq ho.1.2 F ⟨by rw [dE];exact l3,by rw [dE];exact l4,fun j hj=>by rw [dE];exact l5 j hj⟩;have gb:=Cb.good e (eQ s+1) d r rest aq ho.2 h4 (kl.mono aq)
 have he:A++t::r++rest=A++t::(r++rest):=by simp
 rw [he,E.fit]
 change Rt e (eQ s) d _ rest _ (JN a.lv (eQ s) d a.fit&&JN b.lv (eQ s+1) d b.fit)
 have tZ:t.s∈levels.getD (eQ s) []:=by rw [lF];exact l2
 cases hfa:JN a.lv (eQ s) d a.fit with
 | false =>
  refine ⟨fun hb=>(by cases hb),fun _=>ga.2 hfa⟩
 | true =>
  obtain ⟨ta,k1,k2,_⟩:=ga.1 hfa
  cases hfb:JN b.lv (eQ s+1) d b.fit with
  | false =>
   refine ⟨fun hb=>(by cases hb),fun _=>?_⟩;obtain ⟨pos,k3⟩:=gb.2 hfb;exact ⟨pos,k2 l1 _ (Ev.goX h3 tZ k3)⟩
  | true =>
   refine ⟨fun _=>?_,fun hb=>(by cases hb)⟩;obtain ⟨tb,k3,k4,k5⟩:=gb.1 hfb
   have k6:Ev e (.level (eQ s+1) d) (r++rest) (.ok (tb,rest)):=by
    rcases Nat.lt_or_ge (eQ s+1) 9 with h9 | h9
    ·exact k4 h9 _ (Ev.stop (kl.c _ aq))
    ·have:eQ s+1=9:=by omega
     rw [this] at k5 |-;exact k5 rfl
   exact ⟨one 6 t.at_ t.s [ta,tb],by show er _=_;rw [eI,aV,aV,aV,k1,k3,lF,E.tree],fun _ x hx=>k2 l1 x (Ev.go h3 tZ k6 hx),fun h9=>by omega⟩
def Tk (k:K):Prop:=k.1=1\/k.1=2\/(k.1=3/\(k.2.2=[45]\/k.2.2=[33]\/k.2.2=[126]\/k.2.2=[40]))
theorem E.head:∀ (a:E),a.ok=true->∃ k r,a.tk=k::r/\Tk k
 | .num n,_=>⟨_,_,rfl,.inl rfl⟩
 | .name s,_=>⟨_,_,rfl,.inr (.inl rfl)⟩
 | .at_ s a,_=>⟨_,_,rfl,.inr (.inl rfl)⟩
 | .call s l,_=>⟨_,_,rfl,.inr (.inl rfl)⟩
 | .un s a,h=>⟨_,_,rfl,.inr (.inr ⟨rfl,by simp only [E.ok,aC,Bool.or_eq_true,beq_iff_eq] at h;rcases h.1 with (h | h) | h <;> simp [h]⟩)⟩
 | .bin s a b,h=>by
  simp only [E.ok,aC] at h;obtain ⟨k,r,F,I⟩:=E.head a h.1.2;rw [E.tk,brk];split
  ·exact ⟨_,_,rfl,.inr (.inr ⟨rfl,by simp⟩)⟩
  ·rw [F];exact ⟨k,_,rfl,I⟩
theorem BM {t:Tok} {r:List Tok} (h:Tk (kf t)):sign (t::r) 0=[]\/sign (t::r) 0=[45]\/sign (t::r) 0=[33]\/sign (t::r) 0=[126]\/sign (t::r) 0=[40]:=by
 rcases h with h | h | ⟨h,h'⟩
 ·left;exact Ez (by simp only [kf] at h;omega)
 ·left;exact Ez (by simp only [kf] at h;omega)
 ·right
  have:sign (t::r) 0=t.s:=by simp only [kf] at h;simp only [sign,getElem?_cons_zero,bH,h,if_true]
  rw [this];exact h'
def z8 (l:List E):Prop:=∀ (e:Int) (d:Nat) (acc:List T) (ts rest:List Tok) (u:Tok),E.db l=true->acc≠[]->ts.map kf=E.rK l->u.kind=3->u.s=[41] ->
 (E.fits l d=true->∃ ys,aV ys=E.trees l/\Ea e d acc (ts++u::rest) (.ok (acc++ys,rest)))/\(E.fits l d=false->∃ pos,Ea e d acc (ts++u::rest) (.error (9,pos)))
theorem NJ:z8 []:=by
 intro e d acc ts rest u _ ha ht hu gX
 have:ts=[]:=by simpa [E.rK] using ht
 subst this;exact ⟨fun _=>⟨[],rfl,by rw [cY];exact Ea.nil hu gX⟩,fun h=>by simp [E.fits] at h⟩
theorem FU {l:List E} {ts rest:List Tok} {u:Tok} (ht:ts.map kf=E.rK l) (hu:u.kind=3) (gX:u.s=[41]):∃ s,sign (ts++u::rest) 0=s/\(s=[]\/s=[41]\/s=[93]\/s=[44]\/s=[59]\/s=[61]):=by
 cases l with
 | nil =>
  have:ts=[]:=by simpa [E.rK] using ht
  subst this;exact ⟨[41],by simp only [nil_append,sign,getElem?_cons_zero,bH,hu,if_true,gX],by simp⟩
 | cons a l =>
  rw [E.rK] at ht;obtain ⟨t,r,rfl,F,_⟩:=map_cons ht;exact ⟨[44],uy F,by simp⟩
theorem LM {a:E} {l:List E} (Ca:lB a) (Cl:z8 l):z8 (a::l):=by
 intro e d acc ts rest u ho ha ht hu gX;simp only [E.db,aC] at ho;rw [E.rK] at ht;obtain ⟨t,r,rfl,F,I⟩:=map_cons ht;obtain ⟨A,B,rfl,h3,h4⟩:=dT I;obtain ⟨F,dq⟩:=eY F;obtain ⟨s,iQ,kj⟩:=FU (rest:=rest) h4 hu gX;have hx:=Ca.rx (e:=e) (d:=d) (rest:=B++u::rest) (s:=s) ho.1 h3 iQ kj
 have he:t::(A++B)++u::rest=t::(A++(B++u::rest)):=by simp
 rw [he,E.fits]
 cases hfa:decide (d<=60)&&a.fit (d+1) with
 | false =>
  refine ⟨fun hb=>(by simp at hb),fun _=>?_⟩;obtain ⟨pos,k1⟩:=hx.2 hfa;exact ⟨pos,Ea.ZM ha F dq k1⟩
 | true =>
  obtain ⟨ta,k1,k2⟩:=hx.1 hfa;have hl:=Cl e d (acc++[ta]) B rest u ho.2 (by simp) h4 hu gX;refine ⟨fun hb=>?_,fun hb=>?_⟩
  ·obtain ⟨ys,k3,k4⟩:=hl.1 (by simpa using hb);exact ⟨ta::ys,by rw [aV,k1,k3,E.trees],Ea.more ha F dq k2 (by rw [cS] at k4;exact k4)⟩
  ·obtain ⟨pos,k3⟩:=hl.2 (by simpa using hb);exact ⟨pos,Ea.more ha F dq k2 k3⟩
theorem NL (s:ae) {l:List E} (Cf:∀ a r,l=a::r->lB a/\z8 r):lB (.call s l):=by
 intro e k d ts rest hk ho ht hs;simp only [E.ok,aC] at ho;rw [E.tk] at ht;obtain ⟨t,r,rfl,F,I⟩:=map_cons ht;obtain ⟨u,r,rfl,h3,h4⟩:=map_cons I;obtain ⟨A,B,rfl,h5,h6⟩:=dT h4;obtain ⟨w,rfl,h7⟩:=jx h6;obtain ⟨F,dq⟩:=rz F;obtain ⟨h3,lF⟩:=eY h3;obtain ⟨h7,lZ⟩:=eY h7
 have hl:t.s.length<=12:=by rw [dq];exact nM ho.1
 refine Ro.rt ?_ hk hs
 have he:t::u::(A++[w])++rest=t::u::(A++w::rest):=by simp
 rw [he,E.fit]
 refine ux fun hd=>?_
 have key:(E.fits l (d+1)=true->∃ ys,aV ys=E.trees l/\Ea e (d+1) [] (A++w::rest) (.ok (ys,rest)))/\(E.fits l (d+1)=false->∃ pos,Ea e (d+1) [] (A++w::rest) (.error (9,pos))):=by
  cases l with
  | nil =>
   have:A=[]:=by simpa [E.oh] using h5
   subst this;exact ⟨fun _=>⟨[],rfl,Ea.nil h7 lZ⟩,fun h=>by simp [E.fits] at h⟩
  | cons a l =>
   obtain ⟨Ca,Cl⟩:=Cf a l rfl;have Bc:=ho.2;simp only [E.db,aC] at Bc;rw [E.oh] at h5;obtain ⟨A,B,rfl,h3,h4⟩:=dT h5;obtain ⟨s,iQ,kj⟩:=FU (rest:=rest) h4 h7 lZ;have hx:=Ca.rx (e:=e) (d:=d+1) (rest:=B++w::rest) (s:=s) Bc.1 h3 iQ kj;rw [cS]
   have ct:sign (A++(B++w::rest)) 0≠[41]:=by
    obtain ⟨kk,rr,k1,k2⟩:=E.head a Bc.1;rw [k1] at h3;obtain ⟨t0,r0,rfl,k3,_⟩:=map_cons h3
    rcases BM (r:=r0++(B++w::rest)) (by rw [k3];exact k2) with h | h | h | h | h <;> (rw [cons_append,h];decide)
   rw [E.fits]
   cases hfa:decide (d+1<=60)&&a.fit (d+1+1) with
   | false =>
    refine ⟨fun hb=>(by simp at hb),fun _=>?_⟩;obtain ⟨pos,k1⟩:=hx.2 hfa;exact ⟨pos,Ea.Wj (a:=T.mk ⟨0,0,0,[],[]⟩ []) ct k1⟩
   | true =>
    obtain ⟨ta,k1,k2⟩:=hx.1 hfa;have rp:=Cl e (d+1) [ta] B rest w Bc.2 (by simp) h4 h7 lZ;refine ⟨fun hb=>?_,fun hb=>?_⟩
    ·obtain ⟨ys,k3,k4⟩:=rp.1 (by simpa using hb);exact ⟨ta::ys,by rw [aV,k1,k3,E.trees],Ea.first ct k2 k4⟩
    ·obtain ⟨pos,k3⟩:=rp.2 (by simpa using hb);exact ⟨pos,Ea.first ct k2 k3⟩
 refine ⟨fun hb=>?_,fun hb=>?_⟩
 ·obtain ⟨ys,k1,k2⟩:=key.1 hb;exact ⟨_,by show er _=_;rw [eI,k1,dq,E.tree],Ev.call hd F hl h3 lF k2⟩
 ·obtain ⟨pos,k1⟩:=key.2 hb;exact ⟨pos,Ev.Y8 hd F hl h3 lF k1⟩
mutual
theorem core:∀ (a:E),lB a
 | .num n=>Q7 n
 | .name s=>NN s
 | .at_ s a=>UC s (core a)
 | .call s l=>NL s (Y9 l)
 | .un s a=>UE s (core a)
 | .bin s a b=>Q4 s (core a) (core b)
theorem Y9:∀ (l:List E),∀ a r,l=a::r->lB a/\z8 r
 | []=>fun a r h=>by cases h
 | a::r=>fun a' r' h=>by cases h;exact ⟨core a,NK r⟩
theorem NK:∀ (l:List E),z8 l
 | []=>NJ
 | a::l=>LM (core a) (NK l)
end
inductive S where
 | set (s:ae) (a:E)
 | put (s:ae) (a b:E)
 | if1 (c:E) (b:List S)
 | if2 (c:E) (b b2:List S)
 | while_ (c:E) (b:List S)
 | ret (a:E)
 | do_ (a:E)
 | var (s:ae) (a:E)
mutual
def S.tk:S->List K
 | .set s a=>kN s::kS [61]::(a.tk++[kS [59]])
 | .put s a b=>kN s::kS [91]::(a.tk++kS [93]::kS [61]::(b.tk++[kS [59]]))
 | .if1 c b=>kS eP::kS [40]::(c.tk++kS [41]::kS [123]::(S.oh b++[kS [125]]))
 | .if2 c b b2=>kS eP::kS [40]::(c.tk++kS [41]::kS [123]::(S.oh b++kS [125]::kS fi::kS [123]::(S.oh b2++[kS [125]])))
 | .while_ c b=>kS en::kS [40]::(c.tk++kS [41]::kS [123]::(S.oh b++[kS [125]]))
 | .ret a=>kS dV::(a.tk++[kS [59]])
 | .do_ a=>a.tk++[kS [59]]
 | .var s a=>kS ja::kN s::kS [61]::(a.tk++[kS [59]])
def S.oh:List S->List K
 | []=>[]
 | a::l=>a.tk++S.oh l
end
mutual
def S.tree:S->T
 | .set s a=>.mk ⟨7,0,0,s,[]⟩ [a.tree]
 | .put s a b=>.mk ⟨8,0,0,s,[]⟩ [a.tree,b.tree]
 | .if1 c b=>.mk ⟨9,0,0,[],[]⟩ [c.tree,.mk ⟨14,0,0,[],[]⟩ (S.trees b)]
 | .if2 c b b2=>.mk ⟨9,0,0,[],[]⟩ [c.tree,.mk ⟨14,0,0,[],[]⟩ (S.trees b),.mk ⟨14,0,0,[],[]⟩ (S.trees b2)]
 | .while_ c b=>.mk ⟨10,0,0,[],[]⟩ [c.tree,.mk ⟨14,0,0,[],[]⟩ (S.trees b)]
 | .ret a=>.mk ⟨11,0,0,[],[]⟩ [a.tree]
 | .do_ a=>.mk ⟨12,0,0,[],[]⟩ [a.tree]
 | .var s a=>.mk ⟨13,0,0,s,[]⟩ [a.tree]
def S.trees:List S->List T
 | []=>[]
 | a::l=>a.tree::S.trees l
end
def ri (a:E) (d:Nat):Bool:=decide (d<=60)&&a.fit (d+1)
mutual
def S.fit:S->Nat->Bool
 | .set _ a,d=>decide (d<=60)&&ri a (d+1)
 | .put s a b,d=>decide (d<=60)&&(ri (.at_ s a) (d+1)&&ri b (d+1))
 | .if1 c b,d=>decide (d<=60)&&(ri c (d+1)&&(decide (d+1<=60)&&S.fits b (d+2)))
 | .if2 c b b2,d=>decide (d<=60)&&(ri c (d+1)&&((decide (d+1<=60)&&S.fits b (d+2))&&(decide (d+1<=60)&&S.fits b2 (d+2))))
 | .while_ c b,d=>decide (d<=60)&&(ri c (d+1)&&(decide (d+1<=60)&&S.fits b (d+2)))
 | .ret a,d=>decide (d<=60)&&ri a (d+1)
 | .do_ a,d=>decide (d<=60)&&ri a (d+1)
 | .var _ a,d=>decide (d<=60)&&ri a (d+1)
def S.fits:List S->Nat->Bool
 | [],_=>true
 | a::l,d=>a.fit d&&S.fits l d
end
mutual
def S.ok:S->Bool
 | .set s a=>bf s&&a.ok
 | .put s a b=>bf s&&(a.ok&&b.ok)
 | .if1 c b=>c.ok&&S.db b
 | .if2 c b b2=>c.ok&&(S.db b&&S.db b2)
 | .while_ c b=>c.ok&&S.db b
 | .ret a=>a.ok
 | .do_ a=>a.ok
 | .var s a=>bf s&&a.ok
def S.db:List S->Bool
 | []=>true
 | a::l=>a.ok&&S.db l
end
def Es (e:Int) (j:si) (ts:List Tok) (x:Rd T):Prop:=∃ f0,∀ f,f0<=f->rs e f j ts=x
def Eb (e:Int) (d:Nat) (acc:List T) (ts:List Tok) (x:Rd (List T)):Prop:=∃ f0,∀ f,f0<=f->rs.body e f d acc ts=x
theorem Ev.ex {e:Int} {d:Nat} {ts:List Tok} {x:Rd T} (h:Ev e (.expr d) ts x):Go.Xp.expr e d ts=x:=by
 obtain ⟨f0,h0⟩:=h;rw [<-D0 (e:=e) (d:=d) (ts:=ts) (f:=f0+(20 * ts.length+12)) aq];exact h0 _ aq
def Xx (e:Int) (d:Nat) (ts rest:List Tok) (Q:T->Prop) (b:Bool):Prop :=
 (b=true->∃ t,Q t/\expr e d ts=.ok (t,rest))/\(b=false->∃ pos,expr e d ts=.error (9,pos))
theorem Rx.xx {e:Int} {d:Nat} {ts rest:List Tok} {Q:T->Prop} {b:Bool} (h:Rx e d ts rest Q b):Xx e d ts rest Q b :=
 ⟨fun hb=>by obtain ⟨t,F,I⟩:=h.1 hb;exact ⟨t,F,I.ex⟩,fun hb=>by obtain ⟨pos,F⟩:=h.2 hb;exact ⟨pos,F.ex⟩⟩
theorem E.xx {a:E} {e:Int} {d:Nat} {ts rest:List Tok} {s:ae} (ho:a.ok=true) (ht:ts.map kf=a.tk) (hs:sign rest 0=s) (pR:s=[]\/s=[41]\/s=[93]\/s=[44]\/s=[59]\/s=[61]) :
  Xx e d (ts++rest) rest (fun t=>er t=a.tree) (ri a d):=((core a).rx ho ht hs pR).xx
def Sx (e:Int) (j:si) (ts rest:List Tok) (Q:T->Prop) (b:Bool):Prop :=
 (b=true->∃ t,Q t/\Es e j ts (.ok (t,rest)))/\(b=false->∃ pos,Es e j ts (.error (9,pos)))
section
variable {e:Int} {d:Nat} {ts rest:List Tok} {Q:T->Prop} {b:Bool}
theorem tS {j:si} {x:Rd T} (hs:∀ f,rs e (f+1) j ts=x):Es e j ts x :=
 ⟨1,fun f hf=>by obtain ⟨f,rfl⟩:∃ g,f=g+1:=⟨f - 1,by omega⟩;exact hs f⟩
theorem qW (h:d<=60->Sx e (.stmt d) ts rest Q b):Sx e (.stmt d) ts rest Q (decide (d<=60)&&b):=by
 by_cases hd:d<=60
 ·have:(decide (d<=60)&&b)=b:=by simp [hd]
  rw [this];exact h hd
 ·have:(decide (d<=60)&&b)=false:=by simp [hd]
  rw [this];exact ⟨fun hb=>(by cases hb),fun _=>⟨_,tS fun f=>by rw [rs,ab aq]⟩⟩
theorem sy {u:Tok} {s:ae} (hu:u.kind=3) (gX:u.s=s):aW e s (u::rest)=.ok rest:=by
 have hs:sign (u::rest) 0=s:=by simp only [sign,getElem?_cons_zero,bH,hu,if_true,gX]
 unfold aW;rw [ab hs];rfl
theorem ve {u:Tok} {s:ae} (hu:u.kind=3) (gX:u.s=s):sign (u::rest) 0=s:=by simp only [sign,getElem?_cons_zero,bH,hu,if_true,gX]
theorem w6 {a:E} {u w:Tok} {A:List Tok} {sa sb:ae} (ho:a.ok=true) (ht:A.map kf=a.tk) (hu:u.kind=3) (gX:u.s=sa) (hw:w.kind=3) (Fk:w.s=sb) (XF:sb=[]\/sb=[41]\/sb=[93]\/sb=[44]\/sb=[59]\/sb=[61]) :
  (ri a d=true->∃ t,er t=a.tree/\inner e d sa sb (u::(A++w::rest))=.ok (t,rest))/\(ri a d=false->∃ pos,inner e d sa sb (u::(A++w::rest))=.error (9,pos)):=by
 have hx:=E.xx (e:=e) (d:=d) (rest:=w::rest) ho ht (ve hw Fk) XF;unfold inner;rw [sy hu gX];refine ⟨fun hb=>?_,fun hb=>?_⟩
 ·obtain ⟨t,F,I⟩:=hx.1 hb;exact ⟨t,F,by simp only;rw [I];simp only;rw [sy hw Fk]⟩
 ·obtain ⟨pos,F⟩:=hx.2 hb;exact ⟨pos,by simp only;rw [F]⟩
theorem Lb {a:E} {v u w:Tok} {A:List Tok} (ho:a.ok=true) (hv:v.kind=2) (TR:v.s.length<=12) (ht:A.map kf=a.tk) (hu:u.kind=3) (gX:u.s=[61]) (hw:w.kind=3) (Fk:w.s=[59]) :
  (ri a d=true->∃ t,er t=a.tree/\mj e d (v::u::(A++w::rest))=.ok ((v.s,t),rest))/\(ri a d=false->∃ pos,mj e d (v::u::(A++w::rest))=.error (9,pos)):=by
 have hi:=w6 (e:=e) (d:=d) (rest:=rest) ho ht hu gX hw Fk (by simp);unfold mj;rw [uu hv TR];refine ⟨fun hb=>?_,fun hb=>?_⟩
 ·obtain ⟨t,F,I⟩:=hi.1 hb;exact ⟨t,F,by simp only;rw [I]⟩
 ·obtain ⟨pos,F⟩:=hi.2 hb;exact ⟨pos,by simp only;rw [F]⟩
theorem jN {t:Tok} {s:ae} (h:t.kind=2) (hs:s≠[]):sign (t::rest) 0≠s:=by rw [Ez aq];exact fun h=>hs h.symm
def sS (s:S):Prop:=∀ (e:Int) (d:Nat) (ts rest:List Tok),s.ok=true->ts.map kf=s.tk->sign rest 0≠fi->Sx e (.stmt d) (ts++rest) rest (fun t=>er t=s.tree) (s.fit d)
theorem Ra (s:ae) (a:E):sS (.set s a):=by
 intro e d ts rest ho ht _;simp only [S.ok,aC] at ho;rw [S.tk] at ht;obtain ⟨t,r,rfl,F,I⟩:=map_cons ht;obtain ⟨u,r,rfl,h3,h4⟩:=map_cons I;obtain ⟨A,B,rfl,h5,h6⟩:=dT h4;obtain ⟨w,rfl,h7⟩:=jx h6;obtain ⟨F,dq⟩:=rz F;obtain ⟨h3,lF⟩:=eY h3;obtain ⟨h7,lZ⟩:=eY h7
 have he:t::u::(A++[w])++rest=t::u::(A++w::rest):=by simp
 have hx:=Lb (e:=e) (d:=d+1) (rest:=rest) ho.2 F (by rw [dq];exact nM ho.1) h5 h3 lF h7 lZ;rw [he,S.fit];have bR:t.kind=2/\sign (t::u::(A++w::rest)) 1=[61]:=⟨F,by simp only [sign,List.getElem?_cons_succ,getElem?_cons_zero,bH,h3,if_true,lF]⟩
 refine qW fun hd=>⟨fun hb=>?_,fun hb=>?_⟩
 ·obtain ⟨t',k1,k2⟩:=hx.1 hb;refine ⟨one 7 t.at_ t.s [t'],by show er _=_;rw [eI,aV,k1,dq,S.tree];rfl,tS fun f=>?_⟩;rw [rs,L aq];simp only;rw [L (jN F aw),L (fun h=>h.elim (jN F aw) (jN F aw)),L (jN F aw)];simp only [simple];rw [ab bR,k2]
 ·obtain ⟨pos,k1⟩:=hx.2 hb;refine ⟨pos,tS fun f=>?_⟩;rw [rs,L aq];simp only;rw [L (jN F aw),L (fun h=>h.elim (jN F aw) (jN F aw)),L (jN F aw)];simp only [simple];rw [ab bR,k1]
theorem Rb (s:ae) (a:E):sS (.var s a):=by
 intro e d ts rest ho ht _;simp only [S.ok,aC] at ho;rw [S.tk] at ht;obtain ⟨v,r,rfl,h0,ht⟩:=map_cons ht;obtain ⟨t,r,rfl,F,I⟩:=map_cons ht;obtain ⟨u,r,rfl,h3,h4⟩:=map_cons I;obtain ⟨A,B,rfl,h5,h6⟩:=dT h4;obtain ⟨w,rfl,h7⟩:=jx h6;obtain ⟨h0,uN⟩:=eY h0;obtain ⟨F,dq⟩:=rz F;obtain ⟨h3,lF⟩:=eY h3;obtain ⟨h7,lZ⟩:=eY h7
 have he:v::t::u::(A++[w])++rest=v::t::u::(A++w::rest):=by simp
 have hx:=Lb (e:=e) (d:=d+1) (rest:=rest) ho.2 F (by rw [dq];exact nM ho.1) h5 h3 lF h7 lZ;rw [he,S.fit]
 refine qW fun hd=>⟨fun hb=>?_,fun hb=>?_⟩
 ·obtain ⟨t',k1,k2⟩:=hx.1 hb;refine ⟨one 13 v.at_ t.s [t'],by show er _=_;rw [eI,aV,k1,dq,S.tree];rfl,tS fun f=>?_⟩;rw [rs,L aq];simp only;rw [ab (ve h0 uN),tail_cons,k2];rfl
 ·obtain ⟨pos,k1⟩:=hx.2 hb;refine ⟨pos,tS fun f=>?_⟩;rw [rs,L aq];simp only;rw [ab (ve h0 uN),tail_cons,k1]
theorem Q9 (a:E):sS (.ret a):=by
 intro e d ts rest ho ht _;simp only [S.ok] at ho;rw [S.tk] at ht;obtain ⟨v,r,rfl,h0,h4⟩:=map_cons ht;obtain ⟨A,B,rfl,h5,h6⟩:=dT h4;obtain ⟨w,rfl,h7⟩:=jx h6;obtain ⟨h0,uN⟩:=eY h0;obtain ⟨h7,lZ⟩:=eY h7
 have he:v::(A++[w])++rest=v::(A++w::rest):=by simp
 have hx:=E.xx (e:=e) (d:=d+1) (rest:=w::rest) ho h5 (ve h7 lZ) (by simp);rw [he,S.fit];have hs:=ve (rest:=A++w::rest) h0 uN
 refine qW fun hd=>⟨fun hb=>?_,fun hb=>?_⟩
 ·obtain ⟨t',k1,k2⟩:=hx.1 hb;refine ⟨one 11 v.at_ [] [t'],by show er _=_;rw [eI,aV,k1,S.tree];rfl,tS fun f=>?_⟩;rw [rs,L aq];simp only;rw [L (by rw [hs];decide),L (by rw [hs];decide),ab hs,tail_cons,k2];simp only;rw [sy h7 lZ];rfl
 ·obtain ⟨pos,k1⟩:=hx.2 hb;refine ⟨pos,tS fun f=>?_⟩;rw [rs,L aq];simp only;rw [L (by rw [hs];decide),L (by rw [hs];decide),ab hs,tail_cons,k1]
def sB (l:List K):Prop:=∀ k∈l,k.1=3->k.2.2≠[61]
theorem sC {l l':List K}:sB (l++l')↔sB l/\sB l':=by
 unfold sB;constructor
 ·intro h;exact ⟨fun k hk=>h k (List.mem_append_left _ hk),fun k hk=>h k (List.mem_append_right _ hk)⟩
 ·rintro ⟨F,I⟩ k hk;rcases nA hk with hk | hk
  ·exact F k hk
  ·exact I k hk
theorem iU {a:K} {l:List K}:sB (a::l)↔(a.1=3->a.2.2≠[61])/\sB l:=by
 unfold sB;simp only [List.mem_cons,forall_eq_or_imp]
theorem qE:sB []:=fun k hk=>by cases hk
theorem zO {lv k:Nat} {x:List K} (h:sB x):sB (brk lv k x):=by
 unfold brk;split
 ·rw [iU,sC,iU];exact ⟨fun _=>by decide,h,fun _=>by decide,qE⟩
 ·exact h
mutual
theorem E.Ax:∀ (a:E),a.ok=true->sB a.tk
 | .num n,_=>by rw [E.tk,iU];exact ⟨fun h=>(by cases h),qE⟩
 | .name s,_=>by rw [E.tk,iU];exact ⟨fun h=>(by cases h),qE⟩
 | .at_ s a,h=>by
  simp only [E.ok,aC] at h;rw [E.tk,iU,iU,sC,iU];exact ⟨fun h=>(by cases h),fun _=>aw,E.Ax a h.2,fun _=>aw,qE⟩
 | .call s l,h=>by
  simp only [E.ok,aC] at h;rw [E.tk,iU,iU,sC,iU];exact ⟨fun h=>(by cases h),fun _=>aw,(E.PN l h.2).1,fun _=>aw,qE⟩
 | .un s a,h=>by
  simp only [E.ok,aC,Bool.or_eq_true,beq_iff_eq] at h;rw [E.tk,iU];exact ⟨fun _=>(by rcases h.1 with (h | h) | h <;> (simp only [kS,h];decide)),zO (E.Ax a h.2)⟩
 | .bin s a b,h=>by
  simp only [E.ok,aC] at h;rw [E.tk,sC,iU];exact ⟨zO (E.Ax a h.1.2),fun _ h0=>(by simp only [kS] at h0;rw [h0] at h;exact absurd h.1.1 aw),zO (E.Ax b h.2)⟩
theorem E.PN:∀ (l:List E),E.db l=true->sB (E.oh l)/\sB (E.rK l)
 | [],_=>by rw [E.oh,E.rK];exact ⟨qE,qE⟩
 | a::l,h=>by
  simp only [E.db,aC] at h;have F:=E.Ax a h.1;have I:=E.PN l h.2;rw [E.oh,E.rK,sC,iU,sC];exact ⟨⟨F,I.2⟩,fun _=>aw,F,I.2⟩
end
theorem MN {ts:List Tok} {k:Nat} {s:ae} (h:∀ t,ts[k]?=some t->t.kind=3->t.s≠s) (hs:s≠[]):sign ts k≠s:=by
 unfold sign
 cases hk:ts[k]? with
 | none=>exact fun h=>hs h.symm
 | some t =>
  simp only [bH];split
  ·rename_i h3;exact h t hk h3
  ·exact fun h=>hs h.symm
theorem Ja {a:E} {A:List Tok} {w:Tok} (ho:a.ok=true) (h5:A.map kf=a.tk) (hw:w.s≠[61]):sign (A++w::rest) 1≠[61]:=by
 obtain ⟨k0,r0,hh,_⟩:=E.head a ho;refine MN (fun t ht h3 tZ=>?_) aw
 have hlen:1<=A.length:=by
  have:=congrArg List.length h5;rw [hh] at this;simp at this;omega
 rw [getElem?_append] at ht;split at ht
 ·have hm:kf t∈a.tk:=by rw [<-h5];exact List.mem_map_of_mem (bA ht)
  exact E.Ax a ho _ hm h3 tZ
 ·have:1 - A.length=0:=by omega
  rw [this] at ht;cases ht;exact hw tZ
theorem UD (a:E):sS (.do_ a):=by
 intro e d ts rest ho ht _;simp only [S.ok] at ho;rw [S.tk] at ht;obtain ⟨A,B,rfl,h5,h6⟩:=dT ht;obtain ⟨w,rfl,h7⟩:=jx h6;obtain ⟨h7,lZ⟩:=eY h7
 have he:A++[w]++rest=A++w::rest:=by simp
 have hx:=E.xx (e:=e) (d:=d+1) (rest:=w::rest) ho h5 (ve h7 lZ) (by simp);have CY:=Ja (rest:=rest) (w:=w) ho h5 (by rw [lZ];decide);obtain ⟨k0,r0,hh,hf⟩:=E.head a ho;obtain ⟨t,r,rfl,h8,_⟩:=map_cons (by rw [<-hh];exact h5);rw [he,S.fit];rw [cons_append] at hx CY |-;have hfs:=BM (r:=r++w::rest) (by rw [h8];exact hf)
 have bR:¬ (t.kind=2/\sign (t::(r++w::rest)) 1=[61]):=fun h=>CY h.2
 have da:∀ s:ae,s=ja\/s=eP\/s=en\/s=dV->sign (t::(r++w::rest)) 0≠s:=by
  intro s hs;rcases hfs with h | h | h | h | h <;> rcases hs with rfl | rfl | rfl | rfl <;> (rw [h];decide)
 refine qW fun hd=>⟨fun hb=>?_,fun hb=>?_⟩
 ·obtain ⟨t',k1,k2⟩:=hx.1 hb;refine ⟨one 12 t.at_ [] [t'],by show er _=_;rw [eI,aV,k1,S.tree];rfl,tS fun f=>?_⟩;rw [rs,L aq];simp only;rw [L (da _ (by simp)),L (fun h=>h.elim (da _ (by simp)) (da _ (by simp))),L (da _ (by simp))];simp only [simple];rw [L bR,k2];simp only;rw [L (fun h=>by have:=h.2.2;rw [ve h7 lZ] at this;revert this;decide),sy h7 lZ]
 ·obtain ⟨pos,k1⟩:=hx.2 hb;refine ⟨pos,tS fun f=>?_⟩;rw [rs,L aq];simp only;rw [L (da _ (by simp)),L (fun h=>h.elim (da _ (by simp)) (da _ (by simp))),L (da _ (by simp))];simp only [simple];rw [L bR,k1]
theorem aag {s:ae} {a:E} {t u w:Tok} {A:List Tok} {sg:ae} (hn:bf s=true) (ho:a.ok=true) (F:t.kind=2) (dq:t.s=s) (h3:u.kind=3) (lF:u.s=[91]) (h5:A.map kf=a.tk) (h7:w.kind=3) (lZ:w.s=[93]) (hs:sign rest 0=sg) (pR:sg=[]\/sg=[41]\/sg=[93]\/sg=[44]\/sg=[59]\/sg=[61]) :
  Xx e d (t::u::(A++w::rest)) rest (fun x=>er x=(E.at_ s a).tree/\x.n.kind=3/\x.n.at_=t.at_/\x.n.s=s/\∃ y,x.kids=[y]/\er y=a.tree) (ri (.at_ s a) d):=by
 have hl:t.s.length<=12:=by rw [dq];exact nM hn
 have hx:=(core a).rx (e:=e) (d:=d+1+1) (rest:=w::rest) (s:=[93]) ho h5 (ve h7 lZ) (by simp)
 have hro:Ro e (d+1) (t::u::(A++w::rest)) rest (fun x=>er x=(E.at_ s a).tree/\x.n.kind=3/\x.n.at_=t.at_/\x.n.s=s/\∃ y,x.kids=[y]/\er y=a.tree) ((E.at_ s a).fit (d+1)):=by
  rw [E.fit,Bool.and_assoc]
  refine ux fun hd=>⟨fun hb=>?_,fun hb=>?_⟩
  ·obtain ⟨t',k1,k2⟩:=hx.1 hb;exact ⟨one 3 t.at_ t.s [t'],⟨by rw [eI,aV,k1,dq,E.tree];rfl,rfl,rfl,dq,_,rfl,k1⟩,Ev.ix hd F hl h3 lF h7 lZ k2⟩
  ·obtain ⟨pos,k1⟩:=hx.2 hb;exact ⟨pos,Ev.ixX hd F hl h3 lF k1⟩
 exact ((hro.rt (aM 9) (FT hs pR)).rx (DA hs pR)).xx
theorem Q8 (s:ae) (a b:E):sS (.put s a b):=by
 intro e d ts rest ho ht _;simp only [S.ok,aC] at ho;rw [S.tk] at ht;obtain ⟨t,r,rfl,F,I⟩:=map_cons ht;obtain ⟨u,r,rfl,h3,h4⟩:=map_cons I;obtain ⟨A,B,rfl,h5,h6⟩:=dT h4;obtain ⟨w,r,rfl,h7,h8⟩:=map_cons h6;obtain ⟨q,r,rfl,h9,mF⟩:=map_cons h8;obtain ⟨B,C,rfl,qd,pO⟩:=dT mF;obtain ⟨z,rfl,eW⟩:=jx pO;obtain ⟨F,dq⟩:=rz F;obtain ⟨h3,lF⟩:=eY h3;obtain ⟨h7,lZ⟩:=eY h7;obtain ⟨h9,E9⟩:=eY h9;obtain ⟨eW,BP⟩:=eY eW
 have he:t::u::(A++w::q::(B++[z]))++rest=t::u::(A++w::(q::(B++z::rest))):=by simp
 have O3:=ve (rest:=B++z::rest) h9 E9;have hx:=aag (e:=e) (d:=d+1) (rest:=q::(B++z::rest)) ho.1 ho.2.1 F dq h3 lF h5 h7 lZ O3 (by simp);have hv:=w6 (e:=e) (d:=d+1) (rest:=rest) ho.2.2 qd h9 E9 eW BP (by simp);rw [he,S.fit]
 have bR:¬ (t.kind=2/\sign (t::u::(A++w::(q::(B++z::rest)))) 1=[61]):=fun h=>by
  have:=h.2;simp only [sign,List.getElem?_cons_succ,getElem?_cons_zero,bH,h3,if_true,lF] at this
  revert this;decide
 have da:∀ s:ae,s≠[]->sign (t::u::(A++w::(q::(B++z::rest)))) 0≠s:=fun s hs=>jN F hs
 refine qW fun hd=>?_
 cases hfa:ri (.at_ s a) (d+1) with
 | false =>
  refine ⟨fun hb=>(by cases hb),fun _=>?_⟩;obtain ⟨pos,k1⟩:=hx.2 hfa;refine ⟨pos,tS fun f=>?_⟩;rw [rs,L aq];simp only;rw [L (da _ aw),L (fun h=>h.elim (da _ aw) (da _ aw)),L (da _ aw)];simp only [simple];rw [L bR,k1]
 | true =>
  obtain ⟨x,⟨_,k1,k2,k3,y,k4,k5⟩,k6⟩:=hx.1 hfa;refine ⟨fun hb=>?_,fun hb=>?_⟩
  ·obtain ⟨v,k7,k8⟩:=hv.1 (by simpa using hb);refine ⟨one 8 t.at_ s [y,v],by show er _=_;rw [eI,aV,aV,k5,k7,S.tree];rfl,tS fun f=>?_⟩;rw [rs,L aq];simp only;rw [L (da _ aw),L (fun h=>h.elim (da _ aw) (da _ aw)),L (da _ aw)];simp only [simple];rw [L bR,k6];simp only;rw [ab ⟨k1,k2,O3⟩,k8];simp only;rw [k3,k4];rfl
  ·obtain ⟨pos,k7⟩:=hv.2 (by simpa using hb);refine ⟨pos,tS fun f=>?_⟩;rw [rs,L aq];simp only;rw [L (da _ aw),L (fun h=>h.elim (da _ aw) (da _ aw)),L (da _ aw)];simp only [simple];rw [L bR,k6];simp only;rw [ab ⟨k1,k2,O3⟩,k7]
end
end Go.Xp
