/- Part 4 of proofs that are told in their last texts. -/
import Derived.Test.YtfmnfhpifpjljaaGreatDoorZ1
import Derived.WalkKit
open List (flatten_cons map_toArray)
set_option linter.unusedVariables false
set_option linter.unusedSimpArgs false
set_option linter.defProp false
set_option maxRecDepth 100000
namespace Go.Xw
open Go.RowKit
def nth:List Value->Nat->Value
 |[],_=>undef
 |v::_,0=>v
 |_::l,n+1=>nth l n
def eN:List Value->Nat->Value->List Value
 |[],_,_=>[]
 |_::l,0,v=>v::l
 |x::l,n+1,v=>x::eN l n v
def ev(l:List Value):Operand->Value
 |.tmp t=>nth l t
 |.const v=>v
 |.global g=>.pointer (some ⟨g,0,none⟩)
 |.func f=>.func (.func f) #[] #[]
def put(l:List Value)(d:Option Tmp)(v:Value):List Value :=
 match d with|some d=>eN l d v|none=>l
def jJ(l:List Value)(t:Nat):l.toArray.getD t undef=nth l t:=by
 induction l generalizing t with
 |nil=>simp[nth]
 |cons x l q =>
  cases t with
  |zero=>simp[nth]
  |succ t=>rw[nth,<-q];simp
def xN(l:List Value)(t:Nat)(v:Value):l.toArray.setIfInBounds t v=(eN l t v).toArray:=by
 have h:∀(l:List Value)t,eN l t v=l.set t v:=by
  intro l
  induction l with
  |nil=>intro t;rfl
  |cons x l q=>intro t;cases t with|zero=>rfl|succ t=>simp[eN,q]
 grind
def act(l:List Value):Act:=⟨l.toArray,[]⟩
theorem pO(l:List Value):(act l).eval=ev l:=by
 funext x;cases x<;>first|rfl|exact jJ l _
theorem p9(l:List Value)(d:Option Tmp)(v:Value):(act l).put d v=act (put l d v):=by
 cases d with
 |none=>rfl
 |some d=>simp only[act,Act.put,put];rw[xN]
abbrev mf:=Exit->List Value->World->Prop
def lift(Q:mf):Exit->Act->World->Prop:=fun e a w=>∃l,a=act l/\Q e l w
def W(P:Program)(c:Code)(Q:mf)(l:List Value)(w:World):Prop:=c.wp P (lift Q) (act l) w
def WL(P:Program)(ops:Array Oper)(Q:mf)(rest:List Oper)(l:List Value)(w:World):Prop :=
 wpList P ops (lift Q) rest (act l) w
def WK(next:List Value->World->Prop)(Q:mf):mf
 |.normal,l,w=>next l w
 |e,l,w=>Q e l w
def VJ(id:Nat)(Q:mf):mf
 |.exit wR,l,w=>if wR=id then Q .normal l w else Q (.exit wR) l w
 |e,l,w=>Q e l w
section
variable{P:Program}{Q:mf}{l:List Value}{w:World}{ops:Array Oper}{rest:List Oper}
def W.seq{x y:Code}(h:W P x (WK (W P y Q) Q) l w):W P (.seq x y) Q l w:=by
 refine wp_seq (wp_mono h ?_);rintro e a w⟨l,rfl,T⟩
 cases e<;>first|exact T|exact⟨l,rfl,T⟩
theorem W.skip(h:Q .normal l w):W P .skip Q l w:=wp_skip ⟨l,rfl,h⟩
def W.exit{n:Nat}(h:Q (.exit n) l w):W P (.exit n) Q l w:=wp_exit ⟨l,rfl,h⟩
def W.ret(h:Q .ret l w):W P .ret Q l w:=wp_ret ⟨l,rfl,h⟩
theorem W.block{id:Nat}{c:Code}(h:W P c (VJ id Q) l w):W P (.block id c) Q l w:=by
 refine wp_block (wp_mono h ?_);rintro e a w⟨l,rfl,T⟩
 cases e with
 |exit wR =>
  simp only[VJ]at T
  grind[Exit.inBlock,lift,act]
 |normal=>exact⟨l,rfl,T⟩
 |goto _=>exact⟨l,rfl,T⟩
 |ret=>exact⟨l,rfl,T⟩
 |panic _=>exact⟨l,rfl,T⟩
 |outgrown=>exact⟨l,rfl,T⟩
def W.cond{c:Operand}{x y:Code}{t:Bool}(o:ev l c=.bool t)(H:t=true->W P x Q l w)(hf:t=false->W P y Q l w):W P (.cond c x y) Q l w:=by
 refine wp_cond_split (t:=t) (by rw[pO];exact o) H hf
theorem W.mono{c:Code}{Q':mf}(h:W P c Q l w)(T:∀e l w,Q e l w->Q' e l w):W P c Q' l w :=
 wp_mono h fun _ _ _ ⟨l,O,q⟩=>⟨l,O,T _ _ _ q⟩
def W.loop{c:Code}{C:Type}(o:C->Nat)(I:C->List Value->World->Prop)(x:C)(N:I x l w)
  (v:∀x l w,I x l w->W P c (WK (fun G w'=>∃y,I y G w'/\o y<o x) Q) l w):W P (.loop c) Q l w:=by
 have u:∀n x l w,o x=n->I x l w->∀(b:Frame)(k:List Item)(j:List Frame),
   ∃e m w',lift Q e m w'/\Arrives P (lone (b.at (act l) (.code c::.inLoop c::k)) j w) b k j e m w':=by
  intro n
  induction n using Nat.strongRecOn with
  |_ n F =>
   intro x l w E S b k j;have⟨e,B,r,T,A⟩:=v x l w S b (.inLoop c::k) j;obtain⟨z,rfl,T⟩:=T
   cases e with
   |normal =>
    have⟨y,q,s⟩:=T;have⟨i,d,t,R,M⟩:=F (o y) (E ▸ s) y z r rfl q b k j;exact⟨i,d,t,R,.of_steps (Steps.trans A (.one step_inLoop)) M⟩
   |exit id=>exact zaG
   |goto _=>exact zaG
   |ret=>exact zaG
   |panic H=>exact zaG
   |outgrown=>exact zaG
 intro b k j;have⟨e,m,w',T,A⟩:=u _ x l w rfl N b k j;exact⟨e,m,w',T,.of_steps (.one step_loop) A⟩
def W.region{id:Nat}{M:List Oper}(h:WL P M.toArray Q M l w):W P (.region id M.toArray false) Q l w :=
 wp_region_lit h
theorem WL.nil(h:Q .normal l w):WL P ops Q [] l w:=⟨l,rfl,h⟩
def WL.val{d:Option Tmp}{m:Op}{ty:TypeId}{r:String}{B:Array Edge}{v:Value}{w':World}
  (i:(execOp (ev l) ⟨d,m,ty,r,B,none⟩).run P w=.ok (.value v) w')
  (h:WL P ops Q rest (put l d v) w'):WL P ops Q (⟨d,m,ty,r,B,none⟩::rest) l w:=by
 refine wpList_plain rfl fun K b=>?_
 simp only[Oper.wp,pO,i,Oper.upon_value,p9];exact b _ _ h
def WL.skp{d:Option Tmp}{m:Op}{ty:TypeId}{r:String}{B:Array Edge}{w':World}
  (i:(execOp (ev l) ⟨d,m,ty,r,B,none⟩).run P w=.ok .skip w')
  (h:WL P ops Q rest (put l d undef) w'):WL P ops Q (⟨d,m,ty,r,B,none⟩::rest) l w:=by
 refine wpList_plain rfl fun K b=>?_
 simp only[Oper.wp,pO,i,Oper.upon_skip,p9];exact b _ _ h
def WL.gt{d:Option Tmp}{m:Op}{ty:TypeId}{r:String}{B:Array Edge}{g:Option (Nat × Bool)}
  (e:Region.wanted ⟨d,m,ty,r,B,g⟩ (yielded ops (act l).tmps)=true)
  (h:WL P ops Q (⟨d,m,ty,r,B,none⟩::rest) l w):WL P ops Q (⟨d,m,ty,r,B,g⟩::rest) l w:=by
 unfold WL wpList at *;rw[ae e];rw[ae zfQ]at h;exact h
def WL.gf{d:Option Tmp}{m:Op}{ty:TypeId}{r:String}{B:Array Edge}{g:Option (Nat × Bool)}
  (e:Region.wanted ⟨d,m,ty,r,B,g⟩ (yielded ops (act l).tmps)=false)
  (h:WL P ops Q rest (put l d undef) w):WL P ops Q (⟨d,m,ty,r,B,g⟩::rest) l w:=by
 unfold WL wpList;rw[ab zfk];show wpList P ops (lift Q) rest ((act l).put d undef) w;rw[p9];exact h
end
section
variable{next:List Value->World->Prop}{Q:mf}{l:List Value}{w:World}{id wR:Nat}
end
structure Ext(S:Nat->Prop)(w w':World):Prop where
 os:w'.os=w.os
 tape:w'.tape=w.tape
 output:w'.output=w.output
 size:w.heap.size<=w'.heap.size
 block:∀k,k<w.heap.size->¬S k->w'.heap[k]?=w.heap[k]?
abbrev fT:Nat->Prop:=fun _=>False
theorem Ext.refl{S:Nat->Prop}(w:World):Ext S w w:=⟨rfl,rfl,rfl,a8 _,fun _ _ _=>rfl⟩
def Ext.trans{S:Nat->Prop}{a b c:World}(h:Ext S a b)(k:Ext S b c):Ext S a c :=
 ⟨k.os.trans h.os,k.tape.trans h.tape,k.output.trans h.output,ju h.size k.size,
  fun i M q=>(k.block i (Bf M h.size) q).trans (h.block i M q)⟩
def Ext.step{r S:Nat->Prop}{a b c:World}(h:Ext r a b)(k:Ext S b c)(q:∀j,S j->a.heap.size<=j\/r j):Ext r a c :=
 ⟨k.os.trans h.os,k.tape.trans h.tape,k.output.trans h.output,ju h.size k.size,
  fun i M Q=>(k.block i (Bf M h.size) fun F=>by
   grind).trans (h.block i M Q)⟩
theorem Ext.mono{S A:Nat->Prop}{a b:World}(h:Ext S a b)(q:∀k,k<a.heap.size->S k->A k):Ext A a b :=
 ⟨h.os,h.tape,h.output,h.size,fun i M Q=>h.block i M fun x=>Q (q i M x)⟩
def Ext.blk{S:Nat->Prop}{a b:World}(h:Ext S a b){k:Nat}{o:Obj}(N:a.heap[k]?=some o)(q:¬S k):b.heap[k]?=some o:=by
 rw[h.block k zfk q,N]
def K6{w:World}{b o:Nat}{cs:Array Value}{E:TypeId}{fz:Nat × Nat}{v:Value}(r:w.heap[b]?=some (.cells cs E fz))(N:cs[o]?=some v):w.cell? ⟨b,o,none⟩=some v:=by
 grind[World.cell?]
theorem Ext.below{a b:World}(h:Ext fT a b):Below a.heap.size a b:=⟨h.os,h.tape,h.output,h.size,fun k G=>h.block k G (fun x=>x)⟩
structure uQ(w w':World)(b:Nat)(o:Obj):Prop where
 fresh:b=w.heap.size
 size:w'.heap.size=b+1
 blk:w'.heap[b]?=some o
 ext:Ext fT w w'
def uQ.of(w:World)(o:Obj):uQ w (w.alloc o) w.heap.size o :=
 ⟨rfl,by simp,heap_alloc_new w o,⟨rfl,rfl,rfl,by simp,fun k G _=>Below.heap_alloc _ _ _ G⟩⟩
def xU:TypeDesc->Bool
 |.struct _=>true
 |.array _ _=>true
 |_=>false
class Ty (P:Program) (t:TypeId) (agg:outParam Bool) (k:outParam Nat):Prop where
 und:(P.underlying t).map xU=some agg
 siz:(P.info? t).map (·.size)=some k
class lC (P:Program) (t:TypeId) (e:outParam TypeId) (k:outParam Nat):Prop where
 und:P.underlying t=some (.slice e)
 siz:(P.info? e).map (·.size)=some k
class qo (P:Program) (t:TypeId):Prop where
 und:P.underlying t=some .string
def JM(P:Program)(s:TypeId)(i:Nat)(m:Nat)(k:Nat)(agg:Bool):Bool :=
 match P.underlying s with
 |some (.struct M)=>match M[i]? with
  |some f=>f.offset==m&&(match P.info? f.type with|some x=>x.size==k|none=>false)&&k != 0&&((P.underlying f.type).map xU==some agg)
  |none=>false
 |_=>false
class dr (P:Program) (s:TypeId) (i:Nat) (off:outParam Nat) (k:outParam Nat) (agg:outParam Bool):Prop where
 is:JM P s i off k agg=true
section
variable{P:Program}{w:World}
theorem C8{t:TypeId}{agg:Bool}{k:Nat}[h:Ty P t agg k]:(isAgg t).run P w=.ok agg w:=by
 have⟨W,_⟩:=h
 cases n:P.underlying t with
 |none=>grind
 |some d =>
  rw[n]at W;unfold isAgg;rw[Sem.run_bind,run_underlying n w]
  cases d<;>simp_all[xU]
theorem fw{t:TypeId}{k:Nat}(h:(P.info? t).map (·.size)=some k):(sizeOf t).run P w=.ok k w:=by
 cases T:P.info? t with
 |none=>grind
 |some i=>simp[T]at h;simp[sizeOf,typeInfo,T,h]
theorem n8(b o n:Nat):(⟨b,o,none⟩:Addr).add n=⟨b,o+n,none⟩:=by
 simp[Addr.add]
theorem Fm{t:TypeId}[h:Ty P t false 1]{a:Addr}{v:Value}(N:w.cell? a=some v):(loadVar t a).run P w=.ok v w:=by
 unfold loadVar
 simp_all[Sem.run_bind,C8]
theorem mQ{t:TypeId}{k:Nat}[h:Ty P t true k]{b o:Nat}{vs:List Value}(W:vs.length=k)(N:∀j v,vs[j]?=some v->w.cell? ⟨b,o+j,none⟩=some v) :
  (loadVar t ⟨b,o,none⟩).run P w=.ok (.agg vs.toArray) w:=by
 unfold loadVar;rw[Sem.run_bind,C8 (agg:=true) (k:=k)]
 have q:(loadCells ⟨b,o,none⟩ k).run P w=.ok vs.toArray w:=by
  grind[run_loadCells_list,n8]
 simp[fw h.siz,q]
end
def fA(P:Program)(l:List Value)(w:World)(m:Op)(v:Value):Prop :=
 ∀(d:Option Tmp)(I:TypeId)(r:String)(B:Array Edge),(execOp (ev l) ⟨d,m,I,r,B,none⟩).run P w=.ok (.value v) w
def WL.v{P:Program}{Q:mf}{l:List Value}{w:World}{A:Array Oper}{rest:List Oper}{d:Option Tmp}{m:Op}{ty:TypeId}{r:String}{B:Array Edge}{v:Value}
  (i:fA P l w m v)(h:WL P A Q rest (put l d v) w):WL P A Q (⟨d,m,ty,r,B,none⟩::rest) l w:=WL.val (i d ty r B) h
section
variable{P:Program}{l:List Value}{w:World}
theorem R.mv{x:Operand}:fA P l w (.move x) ((ev l x)):=fun d I r B=>by rfl
theorem R.kj{x:Operand}:fA P l w (.assign x) ((ev l x)):=fun d I r B=>by rfl
theorem R.pick{c a b:Operand}{t:Bool}(q:ev l c=.bool t):fA P l w (.pick c a b) ((if t then ev l a else ev l b)):=fun d I r B=>by simp[execOp,q,asBool]
theorem R.DE{x:Operand}{a:Addr}(hx:ev l x=.pointer (some a)):fA P l w (.nilCheck x) ((.pointer (some a))):=fun d I r B=>by simp[execOp,hx]
theorem R.extract{x:Operand}{i:Nat}{vs:Array Value}{v:Value}(hx:ev l x=.tuple vs)(N:vs[i]?=some v):fA P l w (.extract x i) (v):=fun d I r B=>by simp[execOp,hx,Instr.extract,N]
theorem R.BV{fn:Fn}{first C:Array Operand}:fA P l w (.makeFunc fn first C) ((.func fn (first.map (ev l)) (C.map (ev l)))):=fun d I r B=>by rfl
abbrev ai:=List UInt8
def sv(s:ai):Value:=.string ⟨s.toArray⟩
def toList_mk(s:ai):(⟨s.toArray⟩:ByteArray).toList=s:=by
 simp
theorem yv(s:ai):(⟨s.toArray⟩:ByteArray).size=s.length:=by
 rfl
def K5(a b:ai):(⟨a.toArray⟩:ByteArray)++⟨b.toArray⟩=⟨(a++b).toArray⟩:=by
 rfl
theorem extract_mk(s:ai)(i j:Nat):(⟨s.toArray⟩:ByteArray).extract i j=⟨((s.take j).drop i).toArray⟩:=by
 apply ByteArray.ext
 grind[ByteArray.data_extract,Nat.add_sub_cancel',List.drop_eq_nil_of_le]
abbrev ii(n:Int):Value:=.int .i64 n
def Cr{n:Int}(z : -9223372036854775808<=n)(v:n<=9223372036854775807):IntKind.i64.wrap n=n:=IntWalk.i64_in _ ⟨z,v⟩
def R.PG{x:Operand}{t:TypeId}[I:qo P t]{s:ai}(hx:ev l x=sv s):fA P l w (.call ⟨.builtin .len,#[x],#[t]⟩) ((ii s.length)):=fun d J r B=>by simp[execOp,resolve,invoke,builtin,hx,sv,Builtin.len_,goInt,run_underlying I.und,yv]
def R.J6{x:Operand}{t e:TypeId}{k:Nat}[I:lC P t e k]{a:Option Addr}{n c:Nat}(hx:ev l x=.slice a n c):fA P l w (.call ⟨.builtin .len,#[x],#[t]⟩) ((ii n)):=fun d J r B=>by simp[execOp,resolve,invoke,builtin,hx,Builtin.len_,goInt,run_underlying I.und]
theorem R.add{x y:Operand}{t t':TypeId}{a b:Int}(hx:ev l x=ii a)(m:ev l y=ii b)(z : -9223372036854775808<=a+b)(v:a+b<=9223372036854775807):fA P l w (.binOp .add t x y t') ((ii (a+b))):=fun d I r B=>by simp[execOp,eqGuard,hx,m,binOp,Op.intArith,Cr z v]
theorem R.sub{x y:Operand}{t t':TypeId}{a b:Int}(hx:ev l x=ii a)(m:ev l y=ii b)(z : -9223372036854775808<=a-b)(v:a-b<=9223372036854775807):fA P l w (.binOp .sub t x y t') ((ii (a-b))):=fun d I r B=>by simp[execOp,eqGuard,hx,m,binOp,Op.intArith,Cr z v]
def R.mul{x y:Operand}{t t':TypeId}{a b:Int}(hx:ev l x=ii a)(m:ev l y=ii b)(z : -9223372036854775808<=a*b)(v:a*b<=9223372036854775807):fA P l w (.binOp .mul t x y t') ((ii (a*b))):=fun d I r B=>by simp[execOp,eqGuard,hx,m,binOp,Op.intArith,Cr z v]
theorem R.cat{x y:Operand}{t t':TypeId}{a b:ai}(hx:ev l x=sv a)(m:ev l y=sv b)(z:a.length+b.length<=9223372036854775807):fA P l w (.binOp .add t x y t') ((sv (a++b))):=fun d I r B=>by
  have v:¬((((⟨a.toArray⟩:ByteArray).size+(⟨b.toArray⟩:ByteArray).size:Nat):Int)>IntKind.i64.max):=by
   grind[yv,IntKind.signed,IntKind.bits,IntKind.max]
  simp only[execOp,eqGuard,hx,m,binOp,sv,Op.stringOp,ab v,K5];simp
theorem R.eq{x y:Operand}{t t':TypeId}{k:IntKind}{a b:Int}(hx:ev l x=.int k a)(m:ev l y=.int k b):fA P l w (.binOp .eql t x y t') ((.bool (a==b))):=fun d I r B=>by simp[execOp,eqGuard,hx,m,binOp,Op.intCmp]
theorem R.ne{x y:Operand}{t t':TypeId}{k:IntKind}{a b:Int}(hx:ev l x=.int k a)(m:ev l y=.int k b):fA P l w (.binOp .neq t x y t') ((.bool (a != b))):=fun d I r B=>by simp[execOp,eqGuard,hx,m,binOp,Op.intCmp]
theorem R.lt{x y:Operand}{t t':TypeId}{k:IntKind}{a b:Int}(hx:ev l x=.int k a)(m:ev l y=.int k b):fA P l w (.binOp .lss t x y t') ((.bool (decide (a<b)))):=fun d I r B=>by simp[execOp,eqGuard,hx,m,binOp,Op.intCmp]
theorem R.le{x y:Operand}{t t':TypeId}{k:IntKind}{a b:Int}(hx:ev l x=.int k a)(m:ev l y=.int k b):fA P l w (.binOp .leq t x y t') ((.bool (decide (a<=b)))):=fun d I r B=>by simp[execOp,eqGuard,hx,m,binOp,Op.intCmp]
theorem R.gt'{x y:Operand}{t t':TypeId}{k:IntKind}{a b:Int}(hx:ev l x=.int k a)(m:ev l y=.int k b):fA P l w (.binOp .gtr t x y t') ((.bool (decide (b<a)))):=fun d I r B=>by simp[execOp,eqGuard,hx,m,binOp,Op.intCmp]
theorem R.ge{x y:Operand}{t t':TypeId}{k:IntKind}{a b:Int}(hx:ev l x=.int k a)(m:ev l y=.int k b):fA P l w (.binOp .geq t x y t') ((.bool (decide (b<=a)))):=fun d I r B=>by simp[execOp,eqGuard,hx,m,binOp,Op.intCmp]
def R.lV{x y:Operand}{t t':TypeId}{a b:ai}(hx:ev l x=sv a)(m:ev l y=sv b):fA P l w (.binOp .eql t x y t') ((.bool (a==b))):=fun d I r B=>by simp only[execOp,eqGuard,hx,m,binOp,sv,Op.stringOp,toList_mk];simp
def R.lZ{x y:Operand}{t t':TypeId}{a b:ai}(hx:ev l x=sv a)(m:ev l y=sv b):fA P l w (.binOp .neq t x y t') ((.bool (!(a==b)))):=fun d I r B=>by simp only[execOp,eqGuard,hx,m,binOp,sv,Op.stringOp,toList_mk];simp
theorem R.not{x:Operand}{t:TypeId}{b:Bool}(hx:ev l x=.bool b):fA P l w (.unOp .not t x) ((.bool (!b))):=fun d I r B=>by simp[execOp,hx,Op.unary]
theorem R.hY{x y:Operand}{t:TypeId}[I:qo P t]{s:ai}{k:IntKind}{i:Nat}{c:UInt8}(hx:ev l x=sv s)(m:ev l y=.int k i)(q:s[i]?=some c):fA P l w (.index t x y) ((.int .u8 c.toNat)):=fun d J r B=>by
  have F:(⟨s.toArray⟩:ByteArray)[i]?=some c:=by
   grind[List.getElem?_eq_some_iff,yv,ByteArray.getElem_eq_getElem_data]
  simp[execOp,Instr.index,hx,m,asIntOf,run_underlying I.und,sv,F]
def R.Qh{x:Operand}{t:TypeId}[I:qo P t]{s:ai}{lo hi:Option Operand}{i j:Nat}(hx:ev l x=sv s)
  (r:match lo with|some y=>∃k,ev l y=.int k i|none=>i=0)(C:match hi with|some y=>∃k,ev l y=.int k j|none=>j=s.length)
  (z:i<=j)(v:j<=s.length):fA P l w (.slice t x lo hi none) ((sv ((s.take j).drop i))):=fun d J u B=>by
  have N:=yv s
  cases lo<;>cases hi<;>simp only at r C
  ·subst r;subst C;simp[execOp,Instr.sliceAt,Instr.slice,Instr.sliceBounds,hx,sv,run_underlying I.und,N,extract_mk]
  ·have⟨k,G⟩:=C;subst r;simp[execOp,Instr.sliceAt,Instr.slice,Instr.sliceBounds,Instr.sliceBound,asIntOf,hx,G,sv,run_underlying I.und,N,extract_mk,v]
  ·have⟨k,G⟩:=r;subst C;simp[execOp,Instr.sliceAt,Instr.slice,Instr.sliceBounds,Instr.sliceBound,asIntOf,hx,G,sv,run_underlying I.und,N,extract_mk,z]
  ·have⟨k,G⟩:=r;have⟨A,O⟩:=C;simp[execOp,Instr.sliceAt,Instr.slice,Instr.sliceBounds,Instr.sliceBound,asIntOf,hx,G,O,sv,run_underlying I.und,N,extract_mk,z,v]
def R.iI{x y:Operand}{t e:TypeId}{k:Nat}[I:lC P t e k]{b o n c:Nat}{q:IntKind}{i:Nat}(hx:ev l x=.slice (some ⟨b,o,none⟩) n c)(m:ev l y=.int q i)(hi:i<n):fA P l w (.indexAddr t x y) ((.pointer (some ⟨b,o+i*k,none⟩))):=fun d J r B=>by
  simp[execOp,Instr.indexAt,hx,m,asIntOf,run_underlying I.und,hi,fw I.siz,n8]
theorem R.O7{x:Operand}{s:TypeId}{i m k:Nat}{agg:Bool}[I:dr P s i m k agg]{b o:Nat}(hx:ev l x=.pointer (some ⟨b,o,none⟩)):fA P l w (.fieldAddr s x i) ((.pointer (some ⟨b,o+m,none⟩))):=fun d N r B=>by
  have⟨I⟩:=I;unfold JM at I;split at I
  ·rename_i M W;split at I
   ·rename_i f t;simp only[a6,beq_iff_eq,bne_iff_ne,ne_eq]at I;have⟨⟨⟨z,v⟩,J⟩,c⟩:=I;split at v
    ·rename_i x T
     have q:(P.info? f.type).map (·.size)=some k:=by grind
     simp[execOp,Instr.fieldAt,hx,run_underlying W,t,Instr.sureAddr,fieldPlace,fw q,J,n8,z]
    grind
   grind
  grind
def R.ld1{x:Operand}{t:TypeId}[I:Ty P t false 1]{a:Addr}{v:Value}(hx:ev l x=.pointer (some a))(N:w.cell? a=some v):fA P l w (.load t x) (v):=fun d J r B=>by simp[execOp,Instr.loadAt,hx,Instr.sureAddr,Fm N]
def R.ldN{x:Operand}{t:TypeId}{k:Nat}[I:Ty P t true k]{b o:Nat}{vs:List Value}(hx:ev l x=.pointer (some ⟨b,o,none⟩))(W:vs.length=k)
  (N:∀j v,vs[j]?=some v->w.cell? ⟨b,o+j,none⟩=some v):fA P l w (.load t x) ((.agg vs.toArray)):=fun d J r B=>by simp[execOp,Instr.loadAt,hx,Instr.sureAddr,mQ W N]
end
def iU(H:Array Obj)(b o:Nat):Option Value :=
 match H[b]? with
 |some (.cells c _ _)=>c[o]?
 |_=>none
theorem fZ(w:World)(b o:Nat):w.cell? ⟨b,o,none⟩=iU w.heap b o:=by
 rfl
def D0{H:Array Obj}{b o:Nat}{v:Value}(h:iU H b o=some v):b<H.size:=by
 grind[iU,Array.getElem?_eq_some_iff]
def Ext.c{S:Nat->Prop}{w w':World}(hx:Ext S w w'){b o:Nat}{v:Value}(h:iU w.heap b o=some v)(q:¬S b):iU w'.heap b o=some v:=by
 unfold iU at *;rw[hx.block b (D0 (H:=w.heap) (by unfold iU;exact h)) q];exact h
theorem zk{H:Array Obj}{b o:Nat}{cs:Array Value}{E:TypeId}{fz:Nat × Nat}{v:Value}(r:H[b]?=some (.cells cs E fz))(N:cs[o]?=some v):iU H b o=some v:=by
 grind[iU]
def Ext.drew{S:Nat->Prop}(w:World):Ext S w w.drew:=⟨rfl,rfl,rfl,a8 _,fun _ _ _=>rfl⟩
theorem R.ld{P:Program}{l:List Value}{w:World}{x:Operand}{t:TypeId}[I:Ty P t false 1]{b o:Nat}{v:Value}(hx:ev l x=.pointer (some ⟨b,o,none⟩))(N:iU w.heap b o=some v):fA P l w (.load t x) v:=R.ld1 hx (by grind[fZ])
def R.Zj{P:Program}{l:List Value}{w:World}{x:Operand}{t:TypeId}{k:Nat}[I:Ty P t true k]{b o:Nat}{vs:List Value}(hx:ev l x=.pointer (some ⟨b,o,none⟩))(W:vs.length=k)
  (N:∀j v,vs[j]?=some v->iU w.heap b (o+j)=some v):fA P l w (.load t x) (.agg vs.toArray):=R.ldN hx W (fun j v h=>by grind[fZ])
section
variable{H:Array Obj}{b o:Nat}{v0 v1 v2 v3 v4 v5:Value}
end
class p8 (P:Program) (t:TypeId) (z:outParam Value):Prop where
 is:(P.info? t).bind (·.zero)=some z
structure tV(w w':World)(b:Nat)(cs:Array Value)(E:TypeId):Prop where
 blk:w'.heap[b]?=some (.cells cs E (0,0))
 ext:Ext (·=b) w w'
 size:w'.heap.size=w.heap.size
def setL(cs:Array Value)(o:Nat):List Value->Array Value
 |[]=>cs
 |v::r=>setL (cs.setIfInBounds o v) (o+1) r
def lI(vs:List Value):Bool:=vs.all (·.oneCell')
section
variable{P:Program}{w:World}
theorem zM{t:TypeId}{z:Value}[h:p8 P t z]:(zeroValue t).run P w=.ok z w:=by
 have⟨h⟩:=h
 cases T:P.info? t with
 |none=>grind
 |some i=>simp[T]at h;simp[zeroValue,typeInfo,T,h]
theorem tV.refl{b:Nat}{cs:Array Value}{E:TypeId}(r:w.heap[b]?=some (.cells cs E (0,0))):tV w w b cs E:=⟨r,Ext.refl _,rfl⟩
def tV.trans{M o:World}{b:Nat}{cs C:Array Value}{E:TypeId}(h:tV w M b cs E)(k:tV M o b C E):tV w o b C E :=
 ⟨k.blk,h.ext.trans k.ext,k.size.trans h.size⟩
theorem tV.setCell{b o:Nat}{cs:Array Value}{E:TypeId}(r:w.heap[b]?=some (.cells cs E (0,0)))(v:Value) :
  tV w (w.setCell ⟨b,o,none⟩ v) b (cs.setIfInBounds o v) E :=
 ⟨heap_setCell_same w b o cs E v r,⟨rfl,rfl,rfl,by simp,fun k _ q=>heap_setCell_other w _ k v q⟩,by simp⟩
theorem vB{b o:Nat}{E:TypeId}:∀(vs:List Value)(i:Nat)(w:World)(cs:Array Value),w.heap[b]?=some (.cells cs E (0,0))->o+i+vs.length<=cs.size->lI vs=true ->
  ∃w',(storeCells ⟨b,o,none⟩ vs i).run P w=.ok () w'/\tV w w' b (setL cs (o+i) vs) E
 |[],i,w,cs,s,_,_=>⟨w,by rfl,tV.refl s⟩
 |v::r,i,w,cs,s,W,z=>by
  simp only[lI,List.all_cons,a6]at z;simp only[List.length_cons]at W;have q:=tV.setCell (w:=w) (o:=o+i) s v;obtain⟨w',j,e⟩:=vB (b:=b) (o:=o) (E:=E) r (i+1) _ _ q.blk zfk z.2;refine⟨w',?_,q.trans (by grind[World.setCell,setL])⟩;have B:w.cell? ⟨b,o+i,none⟩=cs[o+i]?:=cell_of_row w b (o+i) cs E (0,0) s;have C:∃u,w.cell? ⟨b,o+i,none⟩=some u:=⟨cs[o+i]'zfn,by grind⟩;have⟨u,c⟩:=C;have A:w.frozen? ⟨b,o+i,none⟩=false:=frozen_of_row w b _ cs E s
  have t:(store ((⟨b,o,none⟩:Addr).add i) v).run P w=.ok () (w.setCell ⟨b,o+i,none⟩ v):=by
   rw[n8]
   cases v<;>first|(simp[Value.oneCell']at z;done)|simp[store,Sem.run,c,A]
  grind[Sem.run_bind,Result.andThen_ok,Sem.run,storeCells]
def Fo{t:TypeId}{agg:Bool}{k:Nat}[H:Ty P t agg k]{b o:Nat}{E:TypeId}{cs:Array Value}{v:Value}(r:w.heap[b]?=some (.cells cs E (0,0)))
  (W:v.cells.size=k)(S:o+k<=cs.size)(z:lI v.cells.toList=true) :
  ∃w',(storeVar t ⟨b,o,none⟩ v).run P w=.ok () w'/\tV w w' b (setL cs o v.cells.toList) E:=by
 have⟨w',i,q⟩:=vB (P:=P) (o:=o) v.cells.toList 0 w cs r zfk z;refine⟨w',?_,by omega⟩;simp[storeVar,fw H.siz,W,i]
end
def mT:List Value->Nat->List Value->List Value
 |cs,_,[]=>cs
 |cs,o,v::r=>mT (eN cs o v) (o+1) r
def qv(q:Nat->Option (Nat × Nat)):List Value->List (Nat × Value)->Option (List Value)
 |cs,[]=>some cs
 |cs,(i,v)::r=>match q i with
  |none=>none
  |some (o,k)=>if v.cells.size≠k ||decide (o+v.cells.size>cs.length)then none else qv q (mT cs o v.cells.toList) r
def Ae:∀(vs:List Value)(cs:List Value)(o n:Nat),
  (vs.zipIdx n).foldl (fun(cs:Array Value)(x:Value × Nat)=>cs.setIfInBounds (o+x.2) x.1) cs.toArray=(mT cs (o+n) vs).toArray
 |[],cs,o,n=>by rfl
 |v::r,cs,o,n=>by
  simp only[List.zipIdx_cons,List.foldl_cons,xN,mT];rw[Ae r];rfl
def xa(q:Nat->Option (Nat × Nat)):∀(parts:List (Nat × Value))(cs:List Value),
  Instr.fill q cs.toArray parts=(qv q cs parts).map List.toArray
 |[],cs=>by rfl
 |(i,v)::r,cs=>by
  simp only[Instr.fill,qv]
  cases R:q i with
  |none=>rfl
  |some x =>
   have⟨o,k⟩:=x;simp only[List.size_toArray];split
   ·rfl
   ·have h:(v.cells.zipIdx.foldl (fun(cs:Array Value)(x:Value × Nat)=>cs.setIfInBounds (o+x.2) x.1) cs.toArray)=(mT cs o v.cells.toList).toArray:=by
     have:=Ae v.cells.toList cs o 0
     grind[Array.toList_zipIdx]
    have z:=xa q r (mT cs o v.cells.toList)
    grind
def RJ(P:Program)(t:TypeId)(o:List (Nat × Nat)):Bool :=
 match P.underlying t with
 |some (.struct M)=>(M.toList.map fun f=>(f.offset,(P.info? f.type).map (·.size)))==o.map fun x=>(x.1,some x.2)
 |_=>false
class p6 (P:Program) (t:TypeId) (pl:outParam (List (Nat × Nat))) (z:outParam (List Value)):Prop where
 is:RJ P t pl=true
 zero:(P.info? t).bind (·.zero)=some (.agg z.toArray)
section
variable{P:Program}{w:World}
theorem AZ{M:List Field}:∀{o:List (Nat × Nat)},(M.map fun f=>(f.offset,(P.info? f.type).map (·.size)))=(o.map fun x=>(x.1,some x.2)) ->
  (List.mapM (m:=Sem) (fun(f:Field)=>Functor.map (Prod.mk f.offset) (sizeOf f.type)) M).run P w=.ok o w:=by
 induction M with
 |nil=>simp
 |cons f M q =>
  intro o h
  cases o with
  |nil=>simp at h
  |cons x o =>
   simp only[List.map_cons,List.cons.injEq,Prod.mk.injEq]at h;have⟨⟨z,v⟩,I⟩:=h;have:=q I;have F:=fw (w:=w) v
   simp_all
theorem run_build{t:TypeId}{o:List (Nat × Nat)}{z:List Value}[H:p6 P t o z]{parts:List (Nat × Value)}{cs:List Value}(hf:qv (fun i=>o[i]?) z parts=some cs) :
  (Instr.build t parts.toArray).run P w=.ok (.agg cs.toArray) w:=by
 have⟨M,E⟩:=H
 have r:(zeroValue t).run P w=.ok (.agg z.toArray) w:=by
  haveI:p8 P t (.agg z.toArray):=⟨E⟩
  exact zM
 unfold RJ at M;split at M
 ·rename_i N W;have O:=AZ (P:=P) (w:=w) (eq_of_beq M)
  have k:(Array.mapM (m:=Sem) (fun(f:Field)=>Functor.map (Prod.mk f.offset) (sizeOf f.type)) N).run P w=.ok o.toArray w:=by
   simp_all[Array.mapM_eq_mapM_toList]
  have j:=xa (fun i=>o[i]?) parts z;rw[hf]at j;simp[Instr.build,Sem.run_bind,r,run_underlying W,k,Value.cells];simp[j]
 grind
end
section
variable{P:Program}{Q:mf}{l:List Value}{w:World}{ops:Array Oper}{rest:List Oper}{d:Option Tmp}{ty:TypeId}{pos:String}{af:Array Edge}
def A0(t:TypeId)(v:Value):(newVar t v).run P w=.ok ⟨w.heap.size,0,none⟩ (w.alloc (.cells v.cells t)):=by
 rfl
def WL.alloc{t:TypeId}{z:Value}[H:p8 P t z](h:∀b w',uQ w w' b (.cells z.cells t)->WL P ops Q rest (put l d (.pointer (some ⟨b,0,none⟩))) w') :
  WL P ops Q (⟨d,.alloc t,ty,pos,af,none⟩::rest) l w :=
 WL.val (w':=w.alloc (.cells z.cells t)) (by simp[execOp,Instr.alloc,zM (w:=w) (z:=z),A0]) (h _ _ (uQ.of w _))
def WL.box{t:TypeId}{x:Operand}{v:Value}(hx:ev l x=v)(h:∀b w',uQ w w' b (.cells v.cells t)->WL P ops Q rest (put l d (.pointer (some ⟨b,0,none⟩))) w') :
  WL P ops Q (⟨d,.box t x,ty,pos,af,none⟩::rest) l w :=
 WL.val (w':=w.alloc (.cells v.cells t)) (by simp[execOp,Instr.box,A0,hx]) (h _ _ (uQ.of w _))
def R.build{t:TypeId}{o:List (Nat × Nat)}{z:List Value}[H:p6 P t o z]{parts:List (Nat × Operand)}{cs:List Value}
  (hf:qv (fun i=>o[i]?) z (parts.map fun x=>(x.1,ev l x.2))=some cs):fA P l w (.build t parts.toArray) (.agg cs.toArray):=fun d ty pos af=>by
  have j:=run_build (P:=P) (w:=w) (t:=t) hf;simp only[execOp,map_toArray];simp[j]
class nS (P:Program) (t:TypeId) (e:outParam TypeId) (k:outParam Nat) (z:outParam (List Value)):Prop where
 und:P.underlying t=some (.slice e)
 siz:(P.info? e).map (·.size)=some k
 zero:(P.info? e).bind (·.zero)=some (if k=1 then z.headD undef else .agg z.toArray)
 zl:z.length=k
 pos:0<k
 one:k=1->(z.headD undef).cells=#[z.headD undef]
theorem nS.cells{t e:TypeId}{k:Nat}{z:List Value}(h:nS P t e k z):(if k=1 then z.headD undef else .agg z.toArray).cells=z.toArray:=by
 split
 ·rename_i G;rw[h.one G];have:=h.zl;rw[G]at this
  match z,this with
  |[a],_=>rfl
 ·rfl
theorem WL.BW{t e:TypeId}{k:Nat}{z:List Value}[H:nS P t e k z]{n:Nat}{parts:List (Nat × Operand)}{cs:List Value}(hn:n*k<=16777216)
  (hf:qv (fun i=>some (i*k,k)) ((List.range (n*k)).map fun j=>z.getD (j%k) undef) (parts.map fun x=>(x.1,ev l x.2))=some cs)
  (h:∀b w',uQ w w' b (.cells cs.toArray e)->WL P ops Q rest (put l d (.slice (some ⟨b,0,none⟩) n n)) w') :
  WL P ops Q (⟨d,.buildSlice t n parts.toArray,ty,pos,af,none⟩::rest) l w :=
 WL.val (w':=w.alloc (.cells cs.toArray e)) (by
  have E:(zeroValue e).run P w=.ok (if k=1 then z.headD undef else .agg z.toArray) w:=by
   haveI:p8 P e (if k=1 then z.headD undef else .agg z.toArray):=⟨H.zero⟩
   exact zM
  have q:=H.cells;generalize(if k=1 then z.headD undef else .agg z.toArray:Value)=O at E q;have m:=xa (fun i=>some (i*k,k)) (parts.map fun x=>(x.1,ev l x.2)) ((List.range (n*k)).map fun j=>z.getD (j%k) undef);rw[hf]at m
  have R:¬(16777216<n*k):=by omega
  by_cases M:n*k=0
  ·have S:n=0:=by
    rcases Nat.mul_eq_zero.1 M with h|h
    ·exact h
    ·have:=H.pos;omega
   subst S;simp only[Nat.zero_mul,List.range_zero,List.map_nil]at m;simp only[execOp,map_toArray];have I:(Array.range 0)=#[]:=rfl;simp[Instr.buildSlice,run_underlying H.und,fw H.siz,I,m];rfl
  ·have r:(Array.range (n*k)).map (fun j=>z.toArray[j%z.toArray.size]!)=((List.range (n*k)).map fun j=>z.getD (j%k) undef).toArray:=by
    apply Array.ext';simp only[Array.toList_map,Array.toList_range];apply List.map_congr_left;intro j _;have G:=H.pos
    have o:j%k<z.length:=by rw[H.zl];exact Nat.mod_lt _ G
    rw[List.getD_eq_getElem?_getD,cq o];simp[H.zl]
    grind
   rw[<-r]at m;simp only[execOp,map_toArray];simp[Instr.buildSlice,run_underlying H.und,fw H.siz,R,M,E,q];simp only[List.size_toArray]at m;simp at m;simp[m]
   rfl) (h _ _ (uQ.of w _))
def WL.st{x y:Operand}{t:TypeId}{agg:Bool}{k:Nat}[H:Ty P t agg k]{b o:Nat}{E:TypeId}{cs:Array Value}{v:Value}(hx:ev l x=.pointer (some ⟨b,o,none⟩))(m:ev l y=v)
  (r:w.heap[b]?=some (.cells cs E (0,0)))(W:v.cells.size=k)(S:o+k<=cs.size)(z:lI v.cells.toList=true)
  (h:∀w',tV w w' b (setL cs o v.cells.toList) E->WL P ops Q rest (put l d undef) w'):WL P ops Q (⟨d,.store t x y,ty,pos,af,none⟩::rest) l w:=by
 have⟨w',i,q⟩:=Fo (P:=P) (t:=t) r W S z;exact WL.skp (w':=w') (by simp[execOp,Instr.storeAt,hx,m,Instr.sureAddr,i]) (h w' q)
end
def qQ(P:Program)(f:FuncId):Bool :=
 match P.funcs[f]? with
 |some fn=>fn.name != "runtime.NumGoroutine" && fn.body.isSome
 |none=>false
class gM (P:Program) (f:FuncId):Prop where
 ok:qQ P f=true
def pn(P:Program)(f:FuncId)(args:List Value)(w:World)(R:Value->World->Prop):Prop :=
 Calls P f args.toArray w fun e j=>∃v,e=.returned v/\R v j
theorem pn.mono{P:Program}{f:FuncId}{args:List Value}{w:World}{R z:Value->World->Prop}(h:pn P f args w R)(i:∀v w',R v w'->z v w'):pn P f args w z :=
 Calls.mono h fun _ _ ⟨v,e,r⟩=>⟨v,e,i _ _ r⟩
def oC{P:Program}{w:World}{f:FuncId}[h:gM P f](args:Array Value):(callFunc f args).run P w=.ok (.enter f args) w:=by
 have⟨h⟩:=h;unfold qQ at h;split at h
 ·rename_i fn s;simp only[a6,bne_iff_ne,ne_eq]at h
  have v:fn.body.isNone=false:=by simp_all
  simp[callFunc,program,Sem.run,s,h.1,v]
  grind
 ·cases h
section
variable{P:Program}{Q:mf}{l:List Value}{w:World}{ops:Array Oper}{rest:List Oper}{d:Option Tmp}{ty:TypeId}{pos:String}{af:Array Edge}
def WL.calls{m:Op}{f:FuncId}{Br:List Value}(i:(execOp (ev l) ⟨d,m,ty,pos,af,none⟩).run P w=.ok (.enter f Br.toArray) w){R:Value->World->Prop}
  (o:pn P f Br w R)(h:∀v w',R v w'->WL P ops Q rest (put l d v) w'):WL P ops Q (⟨d,m,ty,pos,af,none⟩::rest) l w:=by
 refine wpList_plain rfl fun K b=>?_
 simp only[Oper.wp,pO,i,Oper.upon_enter];refine Calls.mono o ?_;rintro e w'⟨v,rfl,N⟩;simp only[p9];exact b _ _ (h v w' N)
def WL.call{f:FuncId}[hf:gM P f]{args:List Operand}{e:Array TypeId}{Br:List Value}(ha:args.map (ev l)=Br){R:Value->World->Prop}
  (o:pn P f Br w R)(h:∀v w',R v w'->WL P ops Q rest (put l d v) w'):WL P ops Q (⟨d,.call ⟨.value (.func f),args.toArray,e⟩,ty,pos,af,none⟩::rest) l w :=
 WL.calls (by simp[execOp,resolve,ev,Deferred.ofValue,invoke,oC,ha]) o h
end
def Fg:Nat->List Value
 |0=>[]
 |n+1=>undef::Fg n
def frame:List Value->Nat->List Value
 |[],n=>Fg n
 |a::r,n=>a::frame r (n-1)
def Ws(n:Nat):Fg n=List.replicate n undef:=by
 induction n with
 |zero=>rfl
 |succ n q=>grind[Fg]
def O9(args:List Value)(n:Nat):frame args n=args++List.replicate (n-args.length) undef:=by
 induction args generalizing n with
 |nil=>simp[frame,Ws]
 |cons a r q=>grind[frame,undef]
def JB(P:Program)(fn:Func)(R:Value->World->Prop):mf
 |.normal,l,w|.ret,l,w=>∃v,(results fn l.toArray).run P w=.ok v w/\R v w
 |_,_,_=>False
theorem pn.enter{P:Program}{f:FuncId}{fn:Func}{c:Code}{args:List Value}{w:World}{R:Value->World->Prop}{n:Nat}{l:List Value}
  (hf:P.funcs[f]?=some fn)(hn:fn.ntmps=n)(r:fn.body=some c)(b:frame args n=l)(h:W P c (JB P fn R) l w):pn P f args w R:=by
 subst b;refine calls_of_wp hf r ?_
 have A:(args.toArray++Array.replicate (fn.ntmps-args.toArray.size) undef)=(frame args n).toArray:=by
  simp[O9,hn]
 rw[A];refine wp_mono h ?_;rintro e a w⟨l,rfl,T⟩
 cases e<;>simp only[JB]at T<;>simp only[bodyPost]
 ·have⟨v,i,N⟩:=T;exact⟨rfl,v,i,v,rfl,N⟩
 ·have⟨v,i,N⟩:=T;exact⟨rfl,v,i,v,rfl,N⟩
def Uq(P:Program)(t e k j:Nat):Bool :=
 (match P.underlying t with|some (.slice m)=>m==e|_=>false) &&
 (match P.info? e with
  |some i=>(match i.zero with|some z=>z.cells.size==k|none=>false)&&i.size==k&&i.bytes==j
  |none=>false)&&k != 0
class lP (P:Program) (t:TypeId) (e:outParam TypeId) (k:outParam Nat) (by':outParam Nat):Prop where
 is:Uq P t e k by'=true
def lP.parts{P:Program}{t e k j:Nat}(h:lP P t e k j) :
  P.underlying t=some (.slice e)/\(∃i z,P.info? e=some i/\i.zero=some z/\z.cells.size=k/\i.size=k/\i.bytes=j)/\0<k:=by
 have⟨h⟩:=h;simp only[Uq,a6,bne_iff_ne,ne_eq]at h
 grind
abbrev ik(w:World)(base:Nat)(e k:Nat)(v:Value)(n:Nat)(xs:List Value):Prop:=w.ownsRow base e k v n xs
theorem ik.nil(w:World)(base e k:Nat):ik w base e k (.slice none 0 0) 0 []:=World.ownsRow_nil w base e k
def ik.ext{S:Nat->Prop}{w w':World}{base e k:Nat}{v:Value}{n:Nat}{xs:List Value}(h:ik w base e k v n xs)(hx:Ext S w w')(o:∀b,v.ownBlock=some b->¬S b):ik w' base e k v n xs:=by
 have⟨A,z⟩:=h;refine⟨A,?_⟩
 rcases z with z|⟨g,C,cur,rfl,s,F,r⟩
 ·grind
 ·exact .inr ⟨g,C,cur,rfl,s,hx.blk F (o g rfl),r⟩
theorem ik.lt{w:World}{base e k:Nat}{v:Value}{n:Nat}{xs:List Value}(h:ik w base e k v n xs){b:Nat}(N:v.ownBlock=some b):base<=b/\b<w.heap.size:=by
 have⟨z,A⟩:=h
 grind[Value.ownBlock,Option.some.injEq]
def ik.shape{w:World}{base e k:Nat}{v:Value}{n:Nat}{xs:List Value}(h:ik w base e k v n xs):∃a c,v=.slice a n c:=by
 have⟨z,A⟩:=h
 grind
def ik.base{w:World}{base E e k:Nat}{v:Value}{n:Nat}{xs:List Value}(h:ik w base e k v n xs)(t:E<=base):ik w E e k v n xs:=by
 have⟨A,z⟩:=h;refine⟨A,?_⟩
 rcases z with z|⟨g,C,cur,rfl,s,r⟩
 ·grind
 ·exact .inr ⟨g,C,cur,rfl,ju t s,r⟩
theorem ik.cells{w:World}{base e k:Nat}{v:Value}{n:Nat}{xs:List Value}(h:ik w base e k v n xs) :
  xs.length=n*k/\(xs≠[]->∃b c,v=.slice (some ⟨b,0,none⟩) n c/\base<=b/\b<w.heap.size/\∀j u,xs[j]?=some u->w.cell? ⟨b,j,none⟩=some u):=by
 have⟨z,A⟩:=h;refine⟨z,fun B=>?_⟩
 rcases A with⟨rfl,rfl⟩|⟨g,C,cur,rfl,r,F,R,O,N,H⟩
 ·grind
 grind[World.cell?]
def ik.V9{w w':World}{b e k n:Nat}{cs:List Value}(h:uQ w w' b (.cells cs.toArray e))(W:cs.length=n*k)(N:n<=maxLen):ik w' w.heap.size e k (.slice (some ⟨b,0,none⟩) n n) n cs :=
 ⟨W,.inr ⟨b,n,cs.toArray,rfl,by rw[h.fresh];simp,h.blk,a8 _,N,by omega,by grind⟩⟩
section
variable{P:Program}{Q:mf}{l:List Value}{w:World}{ops:Array Oper}{rest:List Oper}{d:Option Tmp}{ty:TypeId}{pos:String}{af:Array Edge}
theorem WL.app{s x:Operand}{t e k M:Nat}[hT:lP P t e k M]{base n m c b o:Nat}{xs news:List Value}{v:Value}(hs:ev l s=v)(r:ik w base e k v n xs)
  (hx:ev l x=.slice (some ⟨b,o,none⟩) m c)(hl:news.length=m*k)(aaP:∀j u,news[j]?=some u->w.cell? ⟨b,o+j,none⟩=some u)(h1:lI news=true)
  (h63:n+m<=9223372036854775807)(I:(n+m)*M<=140737488355328)(N:base<=w.heap.size)
  (h:∀S w',ik w' base e k S (n+m) (xs++news)->Ext (fun b=>v.ownBlock=some b) w w'->(∀b,S.ownBlock=some b->v.ownBlock=some b\/w.heap.size<=b)->(Ext fT w w'\/S.ownBlock=v.ownBlock)->WL P ops Q rest (put l d S) w') :
  WL P ops Q (⟨d,.call ⟨.builtin .append,#[s,x],#[t,t]⟩,ty,pos,af,none⟩::rest) l w:=by
 have⟨W,⟨i,z,T,hz,H0,H,L5⟩,hk⟩:=hT.parts;have⟨S,w',hr,h2,h3,h4⟩:=run_append_own (P:=P) w base t ty e i z k M W T hz H L5 H0 hk v n xs r ⟨b,o,none⟩ m c news hl
  (fun j u hj=>by grind[Addr.add]) (by grind[lI]) zfz I N
 have Pe:Ext (fun b=>v.ownBlock=some b) w w':=⟨h3.os,h3.tape,h3.output,h3.size,fun j hj hn=>h3.block j hj fun he=>hn he.symm⟩
 have q:∀j u,news[j]?=some u->w.cell? ((⟨b,o,none⟩:Addr).add j)=some u:=fun j u hj=>by grind[Addr.add]
 have C:news.length=m*i.size:=by grind
 have J:(n+m)*i.bytes<=140737488355328:=by grind
 refine WL.val (v:=S) (w':=w') (by simp[execOp,resolve,invoke,builtin,hs,hx,hr]) (h S w' h2 Pe ?_ ?_)
 ·intro b' Ak;have F:=r.2
  rcases F with⟨rfl,rfl⟩|⟨g,B,cur,rfl,HM,hg,CO,Am,O,R⟩
  ·by_cases hm:m=0
   ·grind
   ·have G:=run_append_nil (P:=P) w t ty e i z W T hz ⟨b,o,none⟩ m c news C q zfn zfn zfk
    exact zbQ
  ·by_cases A:n+m<=B
   ·have G:=run_append_room (P:=P) w t ty e i W T g n B cur hg ⟨b,o,none⟩ m c news C q (by grind[lI]) A
     zga
    exact zbQ
   ·have E:∀j u,xs[j]?=some u->w.cell? ((⟨g,0,none⟩:Addr).add j)=some u:=World.ownsRow.cells (g:=g) r rfl;have G:=run_append_grow (P:=P) w t ty e i z W T hz ⟨g,0,none⟩ n B xs (by rw[H];exact r.1) E ⟨b,o,none⟩ m c news C q zfn zfn (growslice_fits zfn J)
    exact zbQ
 ·have F:=r.2
  rcases F with⟨rfl,rfl⟩|⟨g,B,cur,rfl,HM,hg,CO,Am,O,R⟩
  ·exact zbQ
  ·by_cases A:n+m<=B
   ·have G:=run_append_room (P:=P) w t ty e i W T g n B cur hg ⟨b,o,none⟩ m c news C q (by grind[lI]) A
     zga
    exact zbQ
   ·have E:∀j u,xs[j]?=some u->w.cell? ((⟨g,0,none⟩:Addr).add j)=some u:=World.ownsRow.cells (g:=g) r rfl;have G:=run_append_grow (P:=P) w t ty e i z W T hz ⟨g,0,none⟩ n B xs (by rw[H];exact r.1) E ⟨b,o,none⟩ m c news C q zfn zfn (growslice_fits zfn J);rw[hr]at G;cases G;exact zdt
theorem WL.push{x s:Operand}{t e k I:Nat}{z:List Value}[hT:lP P t e k I][hZ:nS P t e k z]{base n:Nat}{xs vs:List Value}{v val:Value}{G:Tmp}{NU:TypeId}{M:String}{O:Array Edge}
  (hx:ev l x=val)(hs:∀u,ev (put l (some G) u) s=v)(hd:∀u,ev (put l (some G) u) (.tmp G)=u)(hc:val.cells=vs.toArray)(hk:vs.length=k)(h1:lI vs=true)
  (J:ik w base e k v n xs)(S:n+1<=9223372036854775807)(B:(n+1)*I<=140737488355328)(aaY:k<=16777216)(C:base<=w.heap.size)
  (h:∀u H w',ik w' base e k H (n+1) (xs++vs)->Ext (fun b=>v.ownBlock=some b) w w'->(∀b,H.ownBlock=some b->v.ownBlock=some b\/w.heap.size<=b)->(Ext fT w w'\/H.ownBlock=v.ownBlock)->WL P ops Q rest (put (put l (some G) u) d H) w') :
  WL P ops Q (⟨some G,.buildSlice t 1 #[(0,x)],NU,M,O,none⟩::⟨d,.call ⟨.builtin .append,#[s,.tmp G],#[t,t]⟩,ty,pos,af,none⟩::rest) l w:=by
 have hkp:=hZ.pos
 have ps:val.cells.size=k:=by grind
 have ED:∀(vs q:List Value),vs.length=q.length->mT q 0 vs=vs:=by
  have R:∀(vs o q:List Value),vs.length=q.length->mT (o++q) o.length vs=o++vs:=by
   intro vs
   induction vs with
   |nil=>grind[mT]
   |cons a r ih =>
    intro o q N
    cases q with
    |nil=>simp at N
    |cons c q =>
     have hu:eN (o++c::q) o.length a=o++a::q:=by
      clear N
      induction o with
      |nil=>rfl
      |cons p o ihp=>simp[eN,ihp]
     rw[mT,hu];have:=ih (o++[a]) q zfk
     grind
  intro vs q N;exact R vs [] q N
 have E:qv (fun i=>some (i*k,k)) ((List.range (1*k)).map fun j=>z.getD (j%k) undef) ([((0:Nat),x)].map fun y=>(y.1,ev l y.2))=some vs:=by
  grind[qv,undef,ev]
 refine WL.BW (n:=1) (parts:=[(0,x)]) zfn E ?_;intro b2 w2 A;have F:ik w2 base e k v n xs:=J.ext A.ext (fun _ _ h=>h);refine WL.app (base:=base) (v:=v) (n:=n) (xs:=xs) (news:=vs) (m:=1) (hs _) F (hd _) zfn (fun j u hj=>?_) h1 S B (ju C A.ext.size) ?_
 ·rw[gW];exact K6 A.blk zfk
 ·intro H w3 ho hx3 hb W;refine h _ H w3 ho ((A.ext.mono (fun _ _ h=>h.elim)).trans hx3) (fun b T=>?_) (W.imp (fun h5=>A.ext.trans h5) id)
  rcases hb b T with h4|h4
  ·grind
  ·exact .inr (ju A.ext.size h4)
end
section
variable{P:Program}{ops:Array Oper}{S:Nat->Prop}
end
def q9:List Oper->Nat->Oper
 |[],_=>default
 |o::_,0=>o
 |_::r,n+1=>q9 r n
theorem Tf(M:List Oper)(i:Nat)(o:Oper)(h:M.toArray[i]?=some o):q9 M i=o:=by
 have W:M[i]?=some o:=by grind
 clear h
 induction M generalizing i with
 |nil=>simp at W
 |cons x r q =>
  cases i with
  |zero=>grind[q9]
  |succ i=>grind[q9]
section
variable{P:Program}{ops:Array Oper}{S:Nat->Prop}{Q:mf}{l:List Value}{w:World}{r:List (Oper × Bool)}{d:Option Tmp}{op:Op}{ty:TypeId}{pos:String}{af:Array Edge}
end
def Kq:IntKind->IntKind->Bool
 |.i8,.i8|.i16,.i16|.i32,.i32|.i64,.i64|.u8,.u8|.u16,.u16|.u32,.u32|.u64,.u64=>true
 |_,_=>false
def P5{a b:IntKind}(h:Kq a b=true):a=b:=by cases a<;>cases b<;>first|rfl|cases h
def JN(op:BinOp)(a b:Int):Option Value :=
 match op with
 |.eql=>some (.bool (a==b))
 |.neq=>some (.bool (a != b))
 |.lss=>some (.bool (decide (a<b)))
 |.leq=>some (.bool (decide (a<=b)))
 |.gtr=>some (.bool (decide (b<a)))
 |.geq=>some (.bool (decide (b<=a)))
 |_=>none
def DA(op:BinOp):Value->Value->Option Value
 |.int k a,.int s b=>match Kq k s with
  |true=>JN op a b
  |false=>none
 |_,_=>none
def vZ(c:Op)(x:Value):Option Value :=
 match c with
 |.nilCheck _=>match x with
  |.pointer (some a)=>some (.pointer (some a))
  |_=>none
 |.unOp .not _ _=>match x with
  |.bool b=>some (.bool (!b))
  |_=>none
 |.extract _ i=>match x with
  |.tuple j=>j[i]?
  |_=>none
 |_=>none
def go(B:Operand->Value)(o:Op):Option Value :=
 match o with
 |.move x=>some (B x)
 |.assign x=>some (B x)
 |.makeFunc fn f c=>some (.func fn (f.map B) (c.map B))
 |.binOp op _ x y _=>DA op (B x) (B y)
 |.nilCheck x=>vZ o (B x)
 |.unOp _ _ x=>vZ o (B x)
 |.extract x _=>vZ o (B x)
 |_=>none
section
variable{P:Program}{l:List Value}{w:World}
theorem SQ{o:Op}{v:Value}(h:go (ev l) o=some v):fA P l w o v:=by
 unfold go at h;split at h
 ·grind[R.mv]
 ·grind[R.kj]
 ·grind[R.BV]
 ·rename_i op t x y O;unfold DA at h;split at h
  ·rename_i k a s b hx m;split at h
   ·rename_i G;have:=P5 G;subst this;unfold JN at h
    grind[R.eq,R.ne,R.lt,R.le,R.gt',R.ge]
   ·cases h
  ·cases h
 ·unfold vZ at h
  grind[R.DE]
 ·rename_i op t x;unfold vZ at h
  grind[R.not]
 ·unfold vZ at h
  grind[R.extract]
 ·cases h
def R.ji{x y:Operand}{t t':TypeId}{a b:Nat}(hx:ev l x=ii a)(m:ev l y=ii b)(s:a+b<=9223372036854775807):fA P l w (.binOp .add t x y t') (ii ((a+b:Nat):Int)):=R.add hx m zfn zfn
def R.iZ{x y:Operand}{t t':TypeId}{a:Nat}(hx:ev l x=ii a)(m:ev l y=ii 1)(s:a+1<=9223372036854775807):fA P l w (.binOp .add t x y t') (ii ((a+1:Nat):Int)):=R.add hx m zfn zfn
theorem R.RE{c a b:Operand}{t:Bool}(o:ev l c=.bool t)(H:t=true):fA P l w (.pick c a b) (ev l a):=by
 grind[R.pick]
theorem R.RD{c a b:Operand}{t:Bool}(o:ev l c=.bool t)(H:t=false):fA P l w (.pick c a b) (ev l b):=by
 grind[R.pick]
end
section
variable{P:Program}{Q:mf}{l:List Value}{w:World}{ops:Array Oper}{rest:List Oper}{d:Option Tmp}{op:Op}{ty:TypeId}{pos:String}{af:Array Edge}{v:Value}{S:Nat->Prop}{r:List (Oper × Bool)}
end
def uA(ops:List Oper)(l:List Value):Option (Nat × Bool)->Bool
 |none=>true
 |some (j,b)=>match(q9 ops j).dst with
  |some t=>match nth l t with
   |.bool c=>c==b
   |_=>false
  |none=>false
def gN{C:Type}:List C->Nat->Bool
 |[],_=>false
 |_::_,0=>true
 |_::r,n+1=>gN r n
def Ay{C:Type}:∀{l:List C}{n:Nat},gN l n=true->n<l.length
 |[],_,h=>by cases h
 |_::_,0,_=>by simp
 |_::r,n+1,h=>by have:=Ay (l:=r) (n:=n) h;grind
def tt:Option (Nat × Bool)->List Oper->List Value->Bool
 |some (j,_),ops,l=>gN ops j&&(match(q9 ops j).dst with
  |some t=>gN l t&&(match nth l t with|.bool _=>true|.tuple _=>true|_=>false)
  |none=>false)
 |none,_,_=>true
def Iw(M:List Oper)(j:Nat)(h:j<M.length):M.toArray[j]?=some (q9 M j):=by
 grind[Tf]
def V8(l:List Value)(t:Nat)(h:t<l.length):l[t]?=some (nth l t):=by
 induction l generalizing t with
 |nil=>simp at h
 |cons x l q=>cases t with
  |zero=>rfl
  |succ t=>grind[nth]
theorem vJ{ops:Array Oper}{d:Option Tmp}{op:Op}{ty:TypeId}{pos:String}{af:Array Edge}{gd:Option (Nat × Bool)}{l:List Value}(s:tt gd ops.toList l=true) :
  Region.wanted ⟨d,op,ty,pos,af,gd⟩ (yielded ops (act l).tmps)=uA ops.toList l gd:=by
 cases gd with
 |none=>rfl
 |some x =>
  have⟨j,b⟩:=x;simp only[tt,a6]at s;have⟨A,z⟩:=s;have o:=Iw ops.toList j (Ay A);simp only[Array.toArray_toList]at o;simp only[Region.wanted,uA,yielded,o,Option.bind_some]
  cases n:(q9 ops.toList j).dst with
  |none=>rfl
  |some t =>
   rw[n]at z;simp only[a6]at z;have H:=V8 l t (Ay z.1);simp only[Option.bind_some,act]
   grind
def gv(ops:List Oper)(l:List Value)(gd:Nat × Bool):Option Bool :=
 match(q9 ops gd.1).dst with
 |some t=>match nth l t with
  |.bool c=>some c
  |_=>none
 |none=>none
section
variable{ops:List Oper}{l:List Value}{gd:Nat × Bool}
theorem N9{c:Bool}(N:gv ops l gd=some c)(o:c=gd.2):uA ops l (some gd)=true:=by
 grind[gv,uA]
theorem N8{c:Bool}(N:gv ops l gd=some c)(o:c=!gd.2):uA ops l (some gd)=false:=by
 grind[gv,uA]
theorem Oa(N:gv ops l gd=none):uA ops l (some gd)=false:=by
 grind[gv,uA]
end
section
variable{P:Program}{Q:mf}{l:List Value}{w:World}{ops:Array Oper}{rest:List Oper}{d:Option Tmp}{op:Op}{ty:TypeId}{pos:String}{af:Array Edge}{v:Value}{S:Nat->Prop}{r:List (Oper × Bool)}{gd:Nat × Bool}
def GT{c:Bool}(s:tt (some gd) ops.toList l=true)(N:gv ops.toList l gd=some c)(o:c=gd.2)(h:WL P ops Q (⟨d,op,ty,pos,af,none⟩::rest) l w):WL P ops Q (⟨d,op,ty,pos,af,some gd⟩::rest) l w:=WL.gt ((vJ s).trans (N9 N o)) h
def GF{c:Bool}(s:tt (some gd) ops.toList l=true)(N:gv ops.toList l gd=some c)(o:c=!gd.2)(h:WL P ops Q rest (put l d undef) w):WL P ops Q (⟨d,op,ty,pos,af,some gd⟩::rest) l w:=WL.gf ((vJ s).trans (N8 N o)) h
def GU(s:tt (some gd) ops.toList l=true)(N:gv ops.toList l gd=none)(h:WL P ops Q rest (put l d undef) w):WL P ops Q (⟨d,op,ty,pos,af,some gd⟩::rest) l w:=WL.gf ((vJ s).trans (Oa N)) h
end
def zJ:Value->Bool
 |.agg _=>false
 |.tuple _=>false
 |_=>true
def l7{v:Value}(h:zJ v=true):v.cells=#[v]/\v.oneCell'=true:=by
 cases v<;>first|exact⟨rfl,rfl⟩|cases h
end Go.Xw
namespace Go.Xg
open Go.RowKit Go.Xw
inductive GV where
 |v (x:Value)
 |U
 |agg (cs:List GV)
 |tup (cs:List GV)
 |sl (k:Nat) (rows:List (List GV))
 |box (cs:List GV) (o:Nat)
 |loc (i o:Nat)
 |vec (i n:Nat)
 |vp (i n k idx off:Nat)
 |arr (i o n:Nat)
 |fn (f:Fn) (first cap:List GV)
abbrev _root_.am:=List GV
instance:Inhabited GV:=⟨.U⟩
open GV (U)
abbrev y4(n:Int):GV:=.v (ii n)
abbrev y6:Value:=.slice none 0 0
def zU:Nat->am->am
 |0,l=>l
 |n+1,l=>U::zU n l
abbrev Fz:=Nat->Nat->Option GV
inductive Bk where
 |no
 |fix (b:Nat)
 |gr (h:Value) (m:Nat)
 |set (S:Nat->Prop)
def Bk.has:Bk->Nat->Prop
 |.no,_=>False
 |.fix b,c=>b=c
 |.gr h _,c=>h.ownBlock=some c
 |.set S,c=>S c
abbrev Bt:=Nat->Bk
def c7(K O:Fz):Prop:=∀b o g,K b o=some g->O b o=some g
def kz:Bk->Bk->Prop
 |.no,_=>True
 |.fix b,x=>x=.fix b
 |.set _,_=>True
 |.gr h m,x=>∃W E,x=.gr W E/\m<=E/\(E=m->W=h)
def dO(β fu:Bt):Prop:=∀i,kz (β i) (fu i)
theorem c7.refl(K:Fz):c7 K K:=fun _ _ _ h=>h
def c7.trans{a b c:Fz}(h:c7 a b)(k:c7 b c):c7 a c:=fun x y z E=>k x y z (h x y z E)
theorem kz.refl(x:Bk):kz x x:=by cases x with|no=>trivial|fix b=>rfl|gr h m=>grind[kz]|set S=>trivial
def kz.trans{a b c:Bk}(h:kz a b)(k:kz b c):kz a c:=by
 cases a with
 |no=>trivial
 |set S=>trivial
 |fix x=>cases h;exact k
 |gr x m =>
  grind[kz]
theorem dO.refl(β:Bt):dO β β:=fun i=>kz.refl _
def dO.trans{a b c:Bt}(h:dO a b)(k:dO b c):dO a c:=fun i=>(h i).trans (k i)
inductive Rel(K:Fz)(β:Bt):Value->GV->Prop
 |v (x:Value):Rel K β x (.v x)
 |U (x:Value):Rel K β x .U
 |agg (vs:List Value) (cs:am) (hl:vs.length=cs.length) (h:∀(i:Nat)v g,vs[i]?=some v->cs[i]?=some g->Rel K β v g):Rel K β (.agg vs.toArray) (.agg cs)
 |tup (vs:List Value) (cs:am) (hl:vs.length=cs.length) (h:∀(i:Nat)v g,vs[i]?=some v->cs[i]?=some g->Rel K β v g):Rel K β (.tuple vs.toArray) (.tup cs)
 |sl0 (a:Option Addr) (c k:Nat):Rel K β (.slice a 0 c) (.sl k [])
 |sl (b o c k:Nat) (rows:List am) (h:∀(i:Nat)r,rows[i]?=some r->r.length=k/\∀(j:Nat)g,r[j]?=some g->K b (o+i*k+j)=some g) (hc:rows.length<=c):Rel K β (.slice (some ⟨b,o,none⟩) rows.length c) (.sl k rows)
 |box (b o' o:Nat) (cs:am) (h:∀(j:Nat)g,cs[j]?=some g->K b (o'+j)=some g):Rel K β (.pointer (some ⟨b,o'+o,none⟩)) (.box cs o)
 |loc (i o b:Nat) (h:β i=.fix b):Rel K β (.pointer (some ⟨b,o,none⟩)) (.loc i o)
 |vec (i n:Nat) (a:Option Addr) (c:Nat) (h:∃h m,β i=.gr h m/\n<=m/\(m=n->.slice a n c=h)):Rel K β (.slice a n c) (.vec i n)
 |vp (i n k idx off:Nat) (x:Value) (h:∃h m,β i=.gr h m/\n<=m/\(m=n->∃b,h.ownBlock=some b/\x=.pointer (some ⟨b,idx*k+off,none⟩))):Rel K β x (.vp i n k idx off)
 |arr (i o n b c:Nat) (h:β i=.fix b):Rel K β (.slice (some ⟨b,o,none⟩) n c) (.arr i o n)
 |fn (f:Fn) (xs ys:List Value) (first cap:am) (hl:xs.length=first.length) (hl':ys.length=cap.length) (h:∀(i:Nat)v g,xs[i]?=some v->first[i]?=some g->Rel K β v g)
   (h':∀(i:Nat)v g,ys[i]?=some v->cap[i]?=some g->Rel K β v g):Rel K β (.func f xs.toArray ys.toArray) (.fn f first cap)
theorem Rel.mono{K M:Fz}{β fu:Bt}{x:Value}{g:GV}(h:Rel K β x g)(N:c7 K M)(u:dO β fu):Rel M fu x g:=by
 induction h with
 |v x=>exact .v x
 |U x=>exact .U x
 |agg J d l h q=>exact .agg J d l q
 |tup J d l h q=>exact .tup J d l q
 |sl0 a c k=>exact .sl0 a c k
 |sl b o c k s h hc=>exact .sl b o c k s (fun i r O=>⟨(h i r O).1,fun j g E=>N _ _ _ ((h i r O).2 j g E)⟩) hc
 |box b o' o d h=>exact .box b o' o d fun j g E=>N _ _ _ (h j g E)
 |loc i o b h=>exact .loc i o b (by have:=u i;rw[h]at this;exact this)
 |vec i n a c h =>
  have⟨Q,m,A,R,S⟩:=h;have e:=u i;rw[A]at e;have⟨t,H,C,T,W⟩:=e;exact .vec i n a c ⟨t,H,C,by omega,fun he=>by grind⟩
 |vp i n k idx I x h =>
  have⟨Q,m,A,R,S⟩:=h;have e:=u i;rw[A]at e;have⟨t,H,C,T,W⟩:=e;exact .vp i n k idx I x ⟨t,H,C,by omega,fun he=>by grind⟩
 |arr i o n b c h=>exact .arr i o n b c (by have:=u i;rw[h]at this;exact this)
 |fn f xs ys first z l F h t q G=>exact .fn f xs ys first z l F q G
def GV.pc:GV->Bool
 |.v _=>true
 |.sl _ _=>true
 |.box _ _=>true
 |_=>false
theorem Rel.pc{K:Fz}{β fu:Bt}{x:Value}{g:GV}(h:Rel K β x g)(R:g.pc=true):Rel K fu x g:=by
 cases h<;>first|(cases R;done)|skip
 ·exact .v _
 ·exact .sl0 _ _ _
 ·rename_i h o;exact .sl _ _ _ _ _ h o
 ·rename_i h;exact .box _ _ _ _ h
def GV.one:GV->Bool
 |.v x=>zJ x
 |.U=>false
 |.agg _=>false
 |.tup _=>false
 |.vp _ _ _ _ _=>false
 |_=>true
theorem Rel.one{K:Fz}{β:Bt}{x:Value}{g:GV}(h:Rel K β x g)(S:g.one=true):zJ x=true:=by
 cases h<;>first|exact S|rfl|(cases S;done)
abbrev bJ(K:Fz)(β:Bt)(vs:List Value)(gs:am):Prop:=vs.length=gs.length/\∀(i:Nat)v g,vs[i]?=some v->gs[i]?=some g->Rel K β v g
theorem bJ.mono{K O:Fz}{β fu:Bt}{vs:List Value}{gs:am}(h:bJ K β vs gs)(G:c7 K O)(r:dO β fu):bJ O fu vs gs:=⟨h.1,fun i v g z A=>(h.2 i v g z A).mono G r⟩
theorem bJ.nil{K:Fz}{β:Bt}:bJ K β [] []:=⟨rfl,fun i v g h=>by simp at h⟩
def bJ.cons{K:Fz}{β:Bt}{v:Value}{g:GV}{vs:List Value}{gs:am}(h:Rel K β v g)(o:bJ K β vs gs):bJ K β (v::vs) (g::gs):=by
 grind
def bJ.oF{K:Fz}{β:Bt}{v:Value}{g:GV}{vs:List Value}{gs:am}(h:bJ K β (v::vs) (g::gs)):Rel K β v g/\bJ K β vs gs :=
 ⟨h.2 0 v g rfl rfl,by grind,fun i x y z A=>h.2 (i+1) x y z A⟩
def bJ.app{K:Fz}{β:Bt}{vs us:List Value}{gs o:am}(h:bJ K β vs gs)(k:bJ K β us o):bJ K β (vs++us) (gs++o):=by
 grind
def bJ.at{K:Fz}{β:Bt}{vs:List Value}{gs:am}(h:bJ K β vs gs){i:Nat}{g:GV}(hg:gs[i]?=some g):∃v,vs[i]?=some v/\Rel K β v g:=by
 have M:i<vs.length:=by grind
 exact⟨vs[i],by simp[M],h.2 i _ g zfR hg⟩
def bJ.take{K:Fz}{β:Bt}{vs:List Value}{gs:am}(h:bJ K β vs gs)(n:Nat):bJ K β (vs.take n) (gs.take n):=by
 grind
def bJ.drop{K:Fz}{β:Bt}{vs:List Value}{gs:am}(h:bJ K β vs gs)(n:Nat):bJ K β (vs.drop n) (gs.drop n):=by
 grind
def cQ:am->Nat->GV
 |[],_=>.U
 |g::_,0=>g
 |_::l,n+1=>cQ l n
def bN:am->Nat->GV->am
 |[],_,_=>[]
 |_::l,0,g=>g::l
 |x::l,n+1,g=>x::bN l n g
def bd(l:am):Operand->GV
 |.tmp t=>cQ l t
 |.const v=>.v v
 |.global g=>.v (.pointer (some ⟨g,0,none⟩))
 |.func f=>.v (.func (.func f) #[] #[])
def bQ(l:am)(d:Option Tmp)(g:GV):am:=match d with|some d=>bN l d g|none=>l
inductive FR(K:Fz)(β:Bt):am->List Value->Prop
 |nil:FR K β [] []
 |cons {g:GV} {v:Value} {gs:am} {vs:List Value} (h:Rel K β v g) (t:FR K β gs vs):FR K β (g::gs) (v::vs)
theorem FR.mono{K O:Fz}{β fu:Bt}{gs:am}{vs:List Value}(h:FR K β gs vs)(G:c7 K O)(r:dO β fu):FR O fu gs vs:=by
 induction h with
 |nil=>exact .nil
 |cons h t q=>exact .cons (h.mono G r) q
theorem FR.nth{K:Fz}{β:Bt}{gs:am}{vs:List Value}(h:FR K β gs vs)(t:Nat):Rel K β (nth vs t) (cQ gs t):=by
 induction h generalizing t with
 |nil=>exact .U _
 |cons h _ q=>cases t with|zero=>exact h|succ t=>exact q t
theorem FR.ev{K:Fz}{β:Bt}{gs:am}{vs:List Value}(h:FR K β gs vs)(x:Operand):Rel K β (ev vs x) (bd gs x):=by
 cases x with
 |tmp t=>exact h.nth t
 |const v=>exact .v _
 |global g=>exact .v _
 |func f=>exact .v _
theorem FR.eN{K:Fz}{β:Bt}{gs:am}{vs:List Value}(h:FR K β gs vs)(t:Nat){v:Value}{g:GV}(N:Rel K β v g):FR K β (bN gs t g) (eN vs t v):=by
 induction h generalizing t with
 |nil=>exact .nil
 |cons h H q=>cases t with|zero=>exact .cons N H|succ t=>exact .cons h (q t)
def FR.put{K:Fz}{β:Bt}{gs:am}{vs:List Value}(h:FR K β gs vs)(d:Option Tmp){v:Value}{g:GV}(N:Rel K β v g):FR K β (bQ gs d g) (put vs d v):=by
 cases d with|none=>exact h|some d=>exact h.eN d N
theorem FR.args{K:Fz}{β:Bt}{gs:am}{vs:List Value}(h:FR K β gs vs)(xs:List Operand):bJ K β (xs.map (Xw.ev vs)) (xs.map (bd gs)):=by
 induction xs with
 |nil=>exact .nil
 |cons x xs q=>exact .cons (h.ev x) q
inductive Ob where
 |gone
 |box (E:TypeId) (cs:am)
 |vec (E:TypeId) (k fz:Nat) (rows:List am)
 |vech (E:TypeId) (k:Nat) (rows:List am) (x:Value)
 |lost
 |blk (b:Nat) (p:Obj->Prop)
 |blob (p:(Nat->Option Obj)->Prop)
abbrev _root_.ap:=List Ob
def n5(K:Fz)(w:World):Prop:=∀b o g,K b o=some g->g.pc=true/\∃v,iU w.heap b o=some v/\Rel K (fun _=>.no) v g
def gL(k:Nat)(rows:List am):Prop:=∀r∈rows,r.length=k/\∀g∈r,g.pc=true
def gP(K:Fz)(β:Bt)(w:World)(i:Nat):Ob->Prop
 |.gone=>β i=.no
 |.box E q=>∃b n,β i=.fix b/\w.heap[b]?=some (.cells n.toArray E (0,0))/\bJ K β n q/\∀o,K b o=none
 |.vec E k c l=>∃h m,β i=.gr h l.length/\ik w 0 E k h l.length m/\bJ K β m l.flatten/\gL k l /\
   (∀b,h.ownBlock=some b->(∀o,c*k<=o->K b o=none)/\∀o g,o<c*k->l.flatten[o]?=some g->K b o=some g)/\c<=l.length
 |.vech E k l x=>∃m,β i=.gr x l.length/\ik w 0 E k x l.length m/\bJ K β m l.flatten/\gL k l/\∀b,x.ownBlock=some b->∀o,K b o=none
 |.lost=>∀b,(β i).has b->b<w.heap.size
 |.blk b p=>β i=.fix b/\(∃o,w.heap[b]?=some o/\p o)/\∀o,K b o=none
 |.blob p=>∃h:Nat->Option Obj,β i=.set (fun b=>(h b).isSome=true)/\(∀b o,h b=some o->w.heap[b]?=some o/\∀j,K b j=none)/\p h
def vq:List Int:=(List.range 20).map fun i=>((10^i:Nat):Int)
def vC:List Int:=(List.range 256).map fun i=>if i=9\/i=10\/i=11\/i=12\/i=13\/i=32 then 1 else 0
def ze(m:Int):Fz:=fun b o =>
 if b=0 then(match o with|0=>some (.v (.int .i64 m))|_=>none)
 else if b=3 then vq[o]?.map fun z=>.v (.int .u64 z)
 else if b=1 then vC[o]?.map fun z=>.v (.int .u8 z)
 else none
def sW(w:World)(b n:Nat):Prop:=∃j E z,w.heap[b]?=some (.cells j E z)/\j.size=n
theorem sW.lt{w:World}{b n:Nat}(h:sW w b n):b<w.heap.size:=by have⟨j,E,z,h,_⟩:=h;grind
structure mD(K:Fz)(β:Bt)(w:World):Prop where
 le:∃m,c7 (ze m) K
 pow:sW w 3 20
 spc:sW w 1 256
 free:∀i b,(β i).has b->b≠3/\b≠1
def mD.step{S:Nat->Prop}{K O:Fz}{β fu:Bt}{w w':World}(h:mD K β w)(hx:Ext S w w')(R:∀b,S b->∃i,(β i).has b)(G:c7 K O)(d:∀i b,(fu i).has b->(∃j,(β j).has b)\/w.heap.size<=b):mD O fu w':=by
 have⟨⟨m,A⟩,v,I,l⟩:=h
 have c:∀{b n:Nat},sW w b n->¬S b->sW w' b n:=fun⟨k,E,z,a,e⟩Q=>⟨k,E,z,hx.blk a Q,e⟩
 refine⟨⟨m,A.trans G⟩,c v (fun o=>?_),c I (fun o=>?_),fun i b r=>?_⟩
 ·grind
 ·grind
 ·rcases d i b r with⟨j,q⟩|o
  ·grind
  ·have:=v.lt;omega
structure Bs where
 w0:World
 foot:Nat->Prop
 K0:Fz
 β0:Bt
 m:Nat
structure Inv(B:Bs)(K:Fz)(β:Bt)(Γ:ap)(w:World):Prop where
 ext:Ext B.foot B.w0 w
 kle:c7 B.K0 K
 ble:dO B.β0 β
 loc:∀i,B.m<=i->B.β0 i=.no
 fz:n5 K w
 ob:∀i x,Γ[i]?=some x->gP K β w i x
 out:∀i,Γ.length<=i->β i=.no
 dis:∀i j b,(β i).has b->(β j).has b->i=j
 own:∀i b,(β i).has b->B.foot b\/B.w0.heap.size<=b
 kn:∀b o g,K b o=some g->B.K0 b o=some g\/B.foot b\/B.w0.heap.size<=b
 tab:mD K β w
section
variable{B:Bs}{K:Fz}{β:Bt}{Γ:ap}{w:World}
theorem gP.lt{i:Nat}{x:Ob}(h:gP K β w i x){b:Nat}(r:(β i).has b):b<w.heap.size:=by
 cases x with
 |gone=>simp only[gP]at h;rw[h]at r;cases r
 |box E n =>
  have⟨l,q,z,v,_⟩:=h;rw[z]at r;cases r
  grind
 |vec E k c j =>
  have⟨W,m,z,v,_⟩:=h;rw[z]at r;exact(v.lt r).2
 |vech E k j x =>
  have⟨m,z,v,_⟩:=h;rw[z]at r;exact(v.lt r).2
 |lost=>exact h b r
 |blk l p =>
  have⟨z,⟨o,v,_⟩,_⟩:=h;rw[z]at r;cases r
  grind
 |blob p =>
  have⟨g,z,v,_⟩:=h;rw[z]at r;have⟨o,S⟩:=Option.isSome_iff_exists.1 r
  grind
theorem Inv.lt(h:Inv B K β Γ w){i b:Nat}(r:(β i).has b):b<w.heap.size:=by
 by_cases M:i<Γ.length
 ·exact(h.ob i Γ[i] zfR).lt r
 ·rw[h.out i zfn]at r;cases r
theorem n5.lt(h:n5 K w){b o:Nat}{g:GV}(hg:K b o=some g):b<w.heap.size:=by
 have⟨_,v,N,_⟩:=h b o g hg;exact D0 N
def blocks(β:Bt):Nat->Prop:=fun b=>∃i,(β i).has b
def cur(K:Fz)(β:Bt)(Γ:ap)(w:World):Bs:=⟨w,blocks β,K,β,Γ.length⟩
def Inv.here(h:Inv B K β Γ w):Inv (cur K β Γ w) K β Γ w :=
 ⟨Ext.refl w,c7.refl K,dO.refl β,h.out,h.fz,h.ob,h.out,h.dis,fun i b r=>.inl ⟨i,r⟩,fun _ _ _ h=>.inl h,h.tab⟩
def Inv.Nr{O:Fz}{fu:Bt}{bO Zt:ap}{w':World}(h:Inv B K β Γ w)(k:Inv (cur K β Zt w) O fu bO w'):Inv B O fu bO w' :=
 ⟨h.ext.step k.ext (fun j q=>by have⟨i,M⟩:=q;exact(h.own i j M).symm),h.kle.trans k.kle,h.ble.trans k.ble,h.loc,k.fz,k.ob,k.out,k.dis,
  fun i b r=>by
   rcases k.own i b r with z|z
   ·have⟨j,q⟩:=z;exact h.own j b q
   ·exact .inr (ju h.ext.size z),
  fun b o g F=>by
   rcases k.kn b o g F with z|⟨j,q⟩|z
   ·exact h.kn b o g z
   ·exact .inr (h.own j b q)
   ·exact .inr (.inr (ju h.ext.size z)),k.tab⟩
theorem gP.ext{S:Nat->Prop}{O:Fz}{fu:Bt}{w':World}{i:Nat}{x:Ob}(h:gP K β w i x)(hx:Ext S w w')(t:∀b,(β i).has b->¬S b)(G:c7 K O)(s:dO β fu)
  (e:fu i=β i)(hn:∀b o,(β i).has b->K b o=none->O b o=none):gP O fu w' i x:=by
 cases x with
 |gone=>grind[gP]
 |box E u =>
  have⟨b,n,z,v,I,c⟩:=h
  have q:(β i).has b:=by rw[z];exact rfl
  exact⟨b,n,e.trans z,hx.blk v (t b q),I.mono G s,fun o=>hn b o q (c o)⟩
 |vec E k d l =>
  have⟨W,m,z,v,I,c,F,H⟩:=h
  have q:∀b,W.ownBlock=some b->(β i).has b:=fun b s=>by rw[z];exact s
  exact⟨W,m,e.trans z,v.ext hx (fun b r=>t b (q b r)),I.mono G s,c,fun b r=>⟨fun o T=>hn b o (q b r) ((F b r).1 o T),fun o g T J=>G _ _ _ ((F b r).2 o g T J)⟩,H⟩
 |vech E k l x =>
  have⟨m,z,v,I,c,F⟩:=h
  have q:∀b,x.ownBlock=some b->(β i).has b:=fun b s=>by rw[z];exact s
  exact⟨m,e.trans z,v.ext hx (fun b r=>t b (q b r)),I.mono G s,c,fun b r o=>hn b o (q b r) (F b r o)⟩
 |lost=>exact fun b r=>Bf (h b zfk) hx.size
 |blk b p =>
  have⟨z,⟨o,v,I⟩,c⟩:=h
  have q:(β i).has b:=by rw[z];exact rfl
  exact⟨e.trans z,⟨o,hx.blk v (t b q),I⟩,fun o=>hn b o q (c o)⟩
 |blob p =>
  have⟨g,z,v,I⟩:=h
  have q:∀b o,g b=some o->(β i).has b:=fun b o T=>by grind[Bk.has]
  exact⟨g,e.trans z,fun b o T=>⟨hx.blk (v b o T).1 (t b (q b o T)),fun j=>hn b j (q b o T) ((v b o T).2 j)⟩,I⟩
def n5.ext{S:Nat->Prop}{w':World}(h:n5 K w)(hx:Ext S w w')(q:∀b o g,K b o=some g->¬S b):n5 K w':=fun b o g F=>by
 have⟨z,v,N,i⟩:=h b o g F;exact⟨z,v,hx.c N (q b o g F),i⟩
def Inv.same{w':World}(h:Inv B K β Γ w)(hx:Ext fT w w'):Inv B K β Γ w' :=
 ⟨h.ext.step hx (fun j o=>o.elim),h.kle,h.ble,h.loc,h.fz.ext hx (fun _ _ _ _ h=>h),fun i x M=>(h.ob i x M).ext hx (fun _ _ h=>h) (c7.refl K) (dO.refl β) rfl (fun _ _ _ h=>h),h.out,h.dis,h.own,h.kn,h.tab.step hx (fun _ h=>h.elim) (c7.refl K) (fun i b h=>.inl ⟨i,h⟩)⟩
def dH(p:Nat->Bool)(β:Bt):Bt:=fun i=>match p i with
 |true=>β i
 |false=>.no
section
variable{p:Nat->Bool}{β:Bt}{i:Nat}
theorem qh(h:p i=true):dH p β i=β i:=by simp[dH,h]
theorem sN(h:p i=false):dH p β i=.no:=by simp[dH,h]
end
end
section
variable{B:Bs}{K:Fz}{β:Bt}{Γ:ap}{w:World}
def fU(β:Bt)(i:Nat)(x:Bk):Bt:=fun j=>if j=i then x else β j
theorem bV{i:Nat}{x:Bk}:fU β i x i=x:=by simp[fU]
theorem cB{i j:Nat}{x:Bk}(h:j≠i):fU β i x j=β j:=by simp[fU,h]
theorem nq{i j b:Nat}{x:Bk}(h:(fU β i x j).has b):x.has b\/(β j).has b:=by
 grind[bV,cB]
theorem iL{i:Nat}{x:Bk}(h:kz (β i) x):dO β (fU β i x):=fun j=>by
 grind[bV,cB,kz.refl]
def bJ.self{vs:List Value}:bJ K β vs (vs.map .v):=⟨by simp,fun i v g A z=>by
 rw[b6,A]at z;cases z;exact .v _⟩
theorem Inv.add{w':World}{b:Nat}{vs:List Value}{cs:am}{E:TypeId}(h:Inv B K β Γ w)(hn:uQ w w' b (.cells vs.toArray E))(m:bJ K β vs cs) :
  Inv B K (fU β Γ.length (.fix b)) (Γ++[.box E cs]) w':=by
 have t:β Γ.length=.no:=h.out _ (a8 _);have T:dO β (fU β Γ.length (.fix b)):=iL zfO
 have l:∀i k,(β i).has k->k≠b:=fun i k r=>by have:=h.lt r;have:=hn.fresh;omega
 have c:∀o,K b o=none:=fun o=>by
  cases G:K b o with
  |none=>rfl
  |some g=>have:=h.fz.lt G;have:=hn.fresh;omega
 refine⟨h.ext.step hn.ext (fun j q=>q.elim),h.kle,h.ble.trans T,h.loc,h.fz.ext hn.ext (fun _ _ _ _ h=>h),fun i x M=>?_,fun i M=>?_,fun i j k M q=>?_,fun i k M=>?_,h.kn,h.tab.step hn.ext (fun _ h=>h.elim) (c7.refl K) (fun i d M=>by rcases nq M with z|z;(· cases z;exact .inr (by have:=hn.fresh;omega));grind)⟩
 ·by_cases W:i<Γ.length
  ·rw[n1 W]at M
   have C:i≠Γ.length:=by omega
   exact(h.ob i x M).ext hn.ext (fun _ _ h=>h) (c7.refl K) T (cB C) (fun _ _ _ h=>h)
  ·have:i=Γ.length:=by grind
   subst this;simp at M;subst M;exact⟨b,vs,bV,hn.blk,m.mono (c7.refl K) T,c⟩
 ·simp at M;rw[cB zfn];exact h.out i zfn
 ·by_cases z:i=Γ.length<;>by_cases v:j=Γ.length
  ·omega
  ·subst z;rw[bV]at M;rw[cB v]at q;cases M;grind
  ·subst v;rw[bV]at q;rw[cB z]at M;cases q;grind
  ·rw[cB z]at M;rw[cB v]at q;exact h.dis i j k M q
 ·by_cases z:i=Γ.length
  ·subst z;rw[bV]at M;cases M;exact .inr zgb
  ·rw[cB z]at M;exact h.own i k M
theorem Inv.Bo{w':World}{E k:Nat}{x:Value}{xs:List Value}{rows:List am}(h:Inv B K β Γ w)(hx:Ext fT w w')(S:ik w' 0 E k x rows.length xs)(hf:∀b,x.ownBlock=some b->w.heap.size<=b)
  (n:bJ K β xs rows.flatten)(G:gL k rows):Inv B K (fU β Γ.length (.gr x rows.length)) (Γ++[.vec E k 0 rows]) w':=by
 have t:β Γ.length=.no:=h.out _ (a8 _);have T:dO β (fU β Γ.length (.gr x rows.length)):=iL zfO
 have m:∀i l,(β i).has l->x.ownBlock≠some l:=fun i l r e=>by have:=h.lt r;grind
 have c:∀b,x.ownBlock=some b->∀o,K b o=none:=fun b s o=>by
  cases G:K b o with
  |none=>rfl
  |some g=>have:=h.fz.lt G;grind
 refine⟨h.ext.step hx (fun j q=>q.elim),h.kle,h.ble.trans T,h.loc,h.fz.ext hx (fun _ _ _ _ h=>h),fun i y M=>?_,fun i M=>?_,fun i j l M q=>?_,fun i l M=>?_,h.kn,h.tab.step hx (fun _ h=>h.elim) (c7.refl K) (fun i d M=>by rcases nq M with z|z;(· grind[Bk.has]);grind)⟩
 ·by_cases W:i<Γ.length
  ·rw[n1 W]at M
   have C:i≠Γ.length:=by omega
   exact(h.ob i y M).ext hx (fun _ _ h=>h) (c7.refl K) T (cB C) (fun _ _ _ h=>h)
  ·have:i=Γ.length:=by grind
   subst this;simp at M;subst M;exact⟨x,xs,bV,S,n.mono (c7.refl K) T,G,fun b s=>⟨fun o _=>c b s o,fun o g S _=>by omega⟩,bj _⟩
 ·simp at M;rw[cB zfn];exact h.out i zfn
 ·by_cases z:i=Γ.length<;>by_cases v:j=Γ.length
  ·omega
  ·subst z;rw[bV]at M;rw[cB v]at q;exact absurd M (m j _ q)
  ·subst v;rw[bV]at q;rw[cB z]at M;exact absurd q (m i _ M)
  ·rw[cB z]at M;rw[cB v]at q;exact h.dis i j l M q
 ·by_cases z:i=Γ.length
  ·subst z;rw[bV]at M;exact .inr (ju h.ext.size (hf l M))
  ·rw[cB z]at M;exact h.own i l M
def j4(K:Fz)(b:Nat)(cs:am):Fz:=fun j o=>if j=b then cs[o]? else K j o
theorem Sa{b o:Nat}{cs:am}{g:GV}(h:cs[o]?=some g):j4 K b cs b o=some g:=by simp[j4,h]
theorem Inv.ud{w':World}{b:Nat}{vs:List Value}{cs:am}{E:TypeId}(h:Inv B K β Γ w)(hn:uQ w w' b (.cells vs.toArray E))(l:bJ K β vs cs)(R:∀g∈cs,g.pc=true) :
  c7 K (j4 K b cs)/\Inv B (j4 K b cs) β Γ w':=by
 have d:∀o,K b o=none:=fun o=>by
  cases G:K b o with
  |none=>rfl
  |some g=>have:=h.fz.lt G;have:=hn.fresh;omega
 have T:c7 K (j4 K b cs):=fun k o g F=>by
  grind[j4]
 refine⟨T,h.ext.step hn.ext (fun j s=>s.elim),h.kle.trans T,h.ble,h.loc,fun k o g F=>?_,fun i x M=>?_,h.out,h.dis,h.own,fun k o g F=>?_,h.tab.step hn.ext (fun _ h=>h.elim) T (fun i W h=>.inl ⟨i,h⟩)⟩
 ·by_cases r:k=b
  ·subst r;simp[j4]at F;have⟨v,N,e⟩:=l.at F;have q:=R g (bR F);exact⟨q,v,zk hn.blk zfk,(e.mono T (dO.refl β)).pc q⟩
  ·have z:K k o=some g:=by grind[j4]
   have⟨A,v,C,I⟩:=h.fz k o g z;exact⟨A,v,hn.ext.c C (fun h=>h),I.mono T (dO.refl _)⟩
 ·refine(h.ob i x M).ext hn.ext (fun _ _ h=>h) T (dO.refl β) rfl (fun k o r G=>?_)
  have:k≠b:=by have:=h.lt r;have:=hn.fresh;omega
  grind[j4]
 ·by_cases r:k=b
  ·exact .inr (.inr zgb)
  ·exact h.kn k o g (by grind[j4])
theorem Inv.store{w':World}{i b:Nat}{E:TypeId}{cs C:am}{r:List Value}(h:Inv B K β Γ w)(hi:Γ[i]?=some (.box E cs))(u:β i=.fix b)(t:tV w w' b r.toArray E)
  (l:bJ K β r C):Inv B K β (Γ.set i (.box E C)) w':=by
 have⟨G,m,z,A,I,c⟩:=h.ob i _ hi;rw[u]at z;cases z
 have s:(β i).has b:=by rw[u];exact rfl
 refine⟨h.ext.step t.ext (fun j q=>?_),h.kle,h.ble,h.loc,h.fz.ext t.ext (fun k o g H e=>?_),fun j x q=>?_,fun j q=>h.out j zfk,h.dis,h.own,h.kn,h.tab.step t.ext (fun j q=>⟨i,by grind⟩) (c7.refl K) (fun i T h=>.inl ⟨i,h⟩)⟩
 ·subst q;exact(h.own i _ s).symm
 ·grind
 ·rw[iY]at q;split at q
  ·rename_i F;split at q
   ·cases q;subst F
    exact⟨b,r,u,t.blk,l,c⟩
   grind
  ·rename_i F;refine(h.ob j x q).ext t.ext (fun k v e=>?_) (c7.refl K) (dO.refl β) rfl (fun _ _ _ h=>h);subst e;exact F (h.dis i j _ s v)
def uf(K:Fz)(x:Value)(n:Nat)(fl:am):Fz:=fun b o=>if x.ownBlock=some b/\o<n then fl[o]? else K b o
section
variable{x:Value}{n b o:Nat}{fl:am}
theorem Q0(z:x.ownBlock=some b)(v:o<n):uf K x n fl b o=fl[o]?:=by grind[uf]
theorem Ah(h:¬(x.ownBlock=some b/\o<n)):uf K x n fl b o=K b o:=by grind[uf]
theorem Ai{g:GV}(h:uf K x n fl b o=some g):(x.ownBlock=some b/\o<n/\fl[o]?=some g)\/(¬(x.ownBlock=some b/\o<n)/\K b o=some g):=by
 grind[Q0,Ah]
end
theorem Inv.grow{w':World}{i:Nat}{E k fz:Nat}{rows news:List am}{F x:Value}{xs ns:List Value}(h:Inv B K β Γ w)(hi:Γ[i]?=some (.vec E k fz rows))(R:β i=.gr F rows.length)
  (C:ik w 0 E k F rows.length xs/\bJ K β xs rows.flatten)(ho:ik w' 0 E k x (rows.length+news.length) (xs++ns))(hx:Ext (fun b=>F.ownBlock=some b) w w')(hf:∀b,x.ownBlock=some b->F.ownBlock=some b\/w.heap.size<=b)
  (hr:bJ K β ns news.flatten)(hk:gL k news)(yT:news≠[])(T:∀b,F.ownBlock=some b->∀o v,o<fz*k->iU w.heap b o=some v->iU w'.heap b o=some v) :
  ∃K',c7 K K'/\dO β (fU β i (.gr x (rows++news).length))/\Inv B K' (fU β i (.gr x (rows++news).length)) (Γ.set i (.vec E k fz (rows++news))) w':=by
 have⟨YE,xs',u,H,h3,h4,h5,h6⟩:=h.ob i _ hi;rw[R]at u;cases u;clear H h3
 have hlen:news.length≠0:=fun h=>yT (ky h)
 have t:dO β (fU β i (.gr x (rows++news).length)):=iL (by rw[R];exact⟨x,_,rfl,by simp,fun I=>by grind⟩)
 have e:∀b,F.ownBlock=some b->(β i).has b:=fun b d=>by rw[R];exact d
 have W:rows.flatten.length=rows.length*k:=by rw[<-C.2.1];exact C.1.1
 have aaV:fz*k<=rows.flatten.length:=by simp_all[rF]
 have n:c7 K (uf K x (fz*k) rows.flatten):=fun b o g s=>by
  by_cases Q:x.ownBlock=some b/\o<fz*k
  ·rw[Q0 Q.1 Q.2]
   rcases hf b Q.1 with m|m
   ·grind
   ·have:=h.fz.lt s;omega
  grind[uf]
 refine⟨uf K x (fz*k) rows.flatten,n,t,h.ext.step hx (fun j l=>(h.own i j (e j l)).symm),h.kle.trans n,h.ble.trans t,h.loc,fun b o g s=>?_,fun j y l=>?_,fun j l=>?_,fun j j' b l q=>?_,fun j b l=>?_,fun b o g s=>?_,h.tab.step hx (fun j l=>⟨i,e j l⟩) n (fun j b2 hi=>by rcases nq hi with u|u;(· grind[Bk.has]);grind)⟩
 ·rcases Ai s with⟨d,M,s⟩|⟨Q,s⟩
  ·have N:g.pc=true:=by
    have⟨r,xl,Rb⟩:=List.mem_flatten.1 (bR s);exact(h4 r xl).2 g Rb
   have⟨v,hv,A⟩:=C.2.at s;have⟨b2,c,Mq,_,_,yR⟩:=ho.cells.2 zfA
   have S:b2=b:=by rw[Mq]at d;cases d;rfl
   subst S;have oo:o<xs.length:=(bG hv).1;refine⟨N,v,?_,(A.mono n t).pc N⟩
   simp_all[fZ,n1]
  ·have⟨hp,v,hv,A⟩:=h.fz b o g s;refine⟨hp,v,?_,A.mono n (dO.refl _)⟩
   by_cases m:F.ownBlock=some b
   ·grind
   ·exact hx.c hv m
 ·rw[iY]at l;split at l
  ·rename_i z;split at l
   ·cases l;subst z
    refine⟨x,xs++ns,bV,by grind,?_,?_,fun b d=>⟨fun o M=>?_,fun o g M s=>?_⟩,by grind⟩
    ·rw[List.flatten_append];exact(C.2.mono n t).app (hr.mono n t)
    ·grind[gL]
    ·rw[Ah zfn]
     rcases hf b d with m|m
     ·grind
     ·cases G:K b o with
      |none=>rfl
      |some g=>have:=h.fz.lt G;omega
    grind[uf]
   grind
  ·rename_i z;refine(h.ob j y l).ext hx (fun b d I=>?_) n t (cB (fun I=>z I.symm)) (fun b o d G=>?_)
   ·exact z (h.dis i j b (e b I) d)
   ·rw[Ah];exact G;rintro⟨m,_⟩
    rcases hf b m with h8|h8
    ·exact z (h.dis i j b (e b h8) d)
    ·have:=h.lt d;omega
 ·have q:Γ.length<=j:=by grind
  have:i<Γ.length:=(bG hi).1;rw[cB zfn];exact h.out j q
 ·have O:∀j b,j≠i->(β j).has b->x.ownBlock≠some b:=fun j b J d I=>by
   rcases hf b I with m|m
   ·exact J (h.dis j i b d (e b m))
   ·have:=h.lt d;omega
  by_cases u:j=i<;>by_cases H:j'=i
  ·omega
  ·subst u;rw[bV]at l;rw[cB H]at q;exact absurd l (O j' b H q)
  ·subst H;rw[bV]at q;rw[cB u]at l;exact absurd q (O j b u l)
  ·rw[cB u]at l;rw[cB H]at q;exact h.dis j j' b l q
 ·by_cases u:j=i
  ·subst u;rw[bV]at l
   rcases hf b l with m|m
   ·exact h.own j b (e b m)
   ·exact .inr (ju h.ext.size m)
  ·rw[cB u]at l;exact h.own j b l
 ·rcases Ai s with⟨d,_,_⟩|⟨_,s⟩
  ·rcases hf b d with m|m
   ·exact .inr (h.own i b (e b m))
   ·exact .inr (.inr (ju h.ext.size m))
  ·exact h.kn b o g s
theorem Inv.iC{i E k fz:Nat}{rows:List am}(h:Inv B K β Γ w)(hi:Γ[i]?=some (.vec E k fz rows)) :
  ∃z,c7 K z/\(∀x b,β i=.gr x rows.length->x.ownBlock=some b->∀(o:Nat)g,rows.flatten[o]?=some g->z b o=some g)/\Inv B z β (Γ.set i (.vec E k rows.length rows)) w:=by
 have⟨x,xs,Q,A,C,R,W,h6⟩:=h.ob i _ hi
 have H:rows.flatten.length=rows.length*k:=by rw[<-C.1];exact A.1
 have q:∀b,x.ownBlock=some b->(β i).has b:=fun b u=>by rw[Q];exact u
 have d:c7 K (uf K x (rows.length*k) rows.flatten):=fun b o g l=>by
  grind[uf]
 refine⟨uf K x (rows.length*k) rows.flatten,d,fun x' b hx' u o g l=>?_,h.ext,h.kle.trans d,h.ble,h.loc,fun b o g l=>?_,fun j y n=>?_,fun j n=>h.out j zfk,h.dis,h.own,fun b o g l=>?_,h.tab.step (S:=fT) (Ext.refl w) (fun _ h=>h.elim) d (fun i O h=>.inl ⟨i,h⟩)⟩
 ·grind[uf]
 ·rcases Ai l with⟨e,Y4,l⟩|⟨hc,l⟩
  ·have s:g.pc=true:=by
    have⟨r,J,M⟩:=List.mem_flatten.1 (bR l);exact(R r J).2 g M
   have⟨v,hv,t⟩:=C.at l;have⟨O,c,N,_,_,yR⟩:=A.cells.2 zfk
   have G:O=b:=by rw[N]at e;cases e;rfl
   subst G;exact⟨s,v,by grind[fZ],(t.mono d (dO.refl β)).pc s⟩
  ·have⟨F,v,h8,h9⟩:=h.fz b o g l;exact⟨F,v,h8,h9.mono d (dO.refl _)⟩
 ·rw[iY]at n;split at n
  ·rename_i m;split at n
   ·cases n;subst m
    refine⟨x,xs,Q,A,C.mono d (dO.refl β),R,fun b u=>⟨fun o T=>?_,fun o g T l=>?_⟩,a8 _⟩
    ·rw[Ah zfn];exact(W b u).1 o (ju (rF k h6) T)
    grind[uf]
   grind
  ·rename_i m;refine(h.ob j y n).ext (Ext.refl w) (fun _ _ h=>h) d (dO.refl β) rfl (fun b o e I=>?_) (S:=fT);rw[Ah];exact I;rintro⟨F,_⟩;exact m (h.dis i j b (q b F) e)
 ·rcases Ai l with⟨e,_,_⟩|⟨_,l⟩
  ·exact .inr (h.own i b (q b e))
  ·exact h.kn b o g l
end
mutual
def eM(f:Nat->Nat):GV->GV
 |.v x=>.v x
 |.U=>.U
 |.agg j=>.agg (mP f j)
 |.tup j=>.tup (mP f j)
 |.sl k l=>.sl k l
 |.box j o=>.box j o
 |.loc i o=>.loc (f i) o
 |.vec i n=>.vec (f i) n
 |.vp i n k idx q=>.vp (f i) n k idx q
 |.arr i o n=>.arr (f i) o n
 |.fn g a c=>.fn g (mP f a) (mP f c)
def mP(f:Nat->Nat):am->am
 |[]=>[]
 |g::s=>eM f g::mP f s
end
def ll(f:Nat->Nat)(gs:am):mP f gs=gs.map (eM f):=by
 induction gs with
 |nil=>rfl
 |cons g gs q=>simp[mP,q]
def Rel.Ba{K:Fz}{β:Bt}{f:Nat->Nat}{x:Value}{g:GV}(h:Rel K (fun j=>β (f j)) x g):Rel K β x (eM f g):=by
 induction h with
 |v x=>exact .v x
 |U x=>exact .U x
 |agg s q W h t =>
  rw[eM,ll]
  refine .agg s _ zfk fun i v g z A=>?_
  grind
 |tup s q W h t =>
  rw[eM,ll]
  refine .tup s _ zfk fun i v g z A=>?_
  grind
 |sl0 a c k=>exact .sl0 a c k
 |sl b o c k l h u=>exact .sl b o c k l h u
 |box b G o q h=>exact .box b G o q h
 |loc i o b h=>exact .loc _ o b h
 |vec i n a c h=>exact .vec _ n a c h
 |vp i n k idx r x h=>exact .vp _ n k idx r x h
 |arr i o n b c h=>exact .arr _ o n b c h
 |fn g F I first C W E h d t N =>
  rw[eM,ll,ll];refine .fn g F I _ _ zfk zfk (fun i v g z A=>?_) (fun i v g z A=>?_)
  ·grind
  grind
def Rel.AR{K:Fz}{β:Bt}{f:Nat->Nat}{x:Value}{g:GV}(h:Rel K β x (eM f g)):Rel K (fun j=>β (f j)) x g:=by
 generalize l:eM f g=F at h
 induction h generalizing g with
 |v x =>
  cases g<;>simp only[eM]at l<;>first|(cases l;done)|skip
  cases l;exact .v x
 |U x =>
  cases g<;>simp only[eM]at l<;>first|(cases l;done)|skip
  exact .U x
 |agg C t W h r =>
  cases g<;>simp only[eM]at l<;>first|(cases l;done)|skip
  rename_i q;rw[ll]at l;cases l
  exact .agg C q zfk fun i v g z A=>r i v (eM f g) z zfk rfl
 |tup C t W h r =>
  cases g<;>simp only[eM]at l<;>first|(cases l;done)|skip
  rename_i q;rw[ll]at l;cases l
  exact .tup C q zfk fun i v g z A=>r i v (eM f g) z zfk rfl
 |sl0 a c k =>
  cases g<;>simp only[eM]at l<;>first|(cases l;done)|skip
  cases l;exact .sl0 a c _
 |sl b o c k s h G =>
  cases g<;>simp only[eM]at l<;>first|(cases l;done)|skip
  cases l;exact .sl b o c k s h G
 |box b I o t h =>
  cases g<;>simp only[eM]at l<;>first|(cases l;done)|skip
  cases l;exact .box b I o t h
 |loc i o b h =>
  cases g<;>simp only[eM]at l<;>first|(cases l;done)|skip
  cases l;exact .loc _ o b h
 |vec i n a c h =>
  cases g<;>simp only[eM]at l<;>first|(cases l;done)|skip
  cases l;exact .vec _ n a c h
 |vp i n k idx u x h =>
  cases g<;>simp only[eM]at l<;>first|(cases l;done)|skip
  cases l;exact .vp _ n k idx u x h
 |arr i o n b c h =>
  cases g<;>simp only[eM]at l<;>first|(cases l;done)|skip
  cases l;exact .arr _ o n b c h
 |fn F M O first E W H h d r N =>
  cases g<;>simp only[eM]at l<;>first|(cases l;done)|skip
  rename_i S q J;rw[ll,ll]at l;cases l;exact .fn _ M O q J zfk zfk (fun i v g z A=>r i v (eM f g) z zfk rfl)
   (fun i v g z A=>N i v (eM f g) z zfk rfl)
mutual
def GV.ok(p:Nat->Bool):GV->Bool
 |.loc i _=>p i
 |.vec i _=>p i
 |.vp i _ _ _ _=>p i
 |.arr i _ _=>p i
 |.agg j=>C3 p j
 |.tup j=>C3 p j
 |.fn _ a c=>C3 p a&&C3 p c
 |.v _=>true
 |.U=>true
 |.sl _ _=>true
 |.box _ _=>true
def C3(p:Nat->Bool):am->Bool
 |[]=>true
 |g::s=>GV.ok p g&&C3 p s
end
def below(n:Nat):Nat->Bool:=fun i=>Nat.blt i n
def other(n:Nat):Nat->Bool:=fun i=>!Nat.beq i n
abbrev GV.lt(n:Nat)(g:GV):Bool:=g.ok (below n)
def vl{p:Nat->Bool}{gs:am}(h:C3 p gs=true){g:GV}(hg:g∈gs):g.ok p=true:=by
 induction gs with
 |nil=>cases hg
 |cons x gs q =>
  grind[C3]
def Rel.res{K:Fz}{β:Bt}{p:Nat->Bool}{x:Value}{g:GV}(h:Rel K β x g)(W:g.ok p=true):Rel K (dH p β) x g:=by
 induction h with
 |v x=>exact .v x
 |U x=>exact .U x
 |agg s j q h r=>simp only[GV.ok]at W;exact .agg s j q fun i v g A z=>r i v g A z (vl W (bR z))
 |tup s j q h r=>simp only[GV.ok]at W;exact .tup s j q fun i v g A z=>r i v g A z (vl W (bR z))
 |sl0 a c k=>exact .sl0 a c k
 |sl b o c k l h t=>exact .sl b o c k l h t
 |box b G o j h=>exact .box b G o j h
 |loc i o b h=>simp only[GV.ok]at W;exact .loc _ o b (by grind[dH])
 |vec i m a c h=>simp only[GV.ok]at W;exact .vec _ m a c (by grind[dH])
 |vp i m k idx n x h=>simp only[GV.ok]at W;exact .vp _ m k idx n x (by grind[dH])
 |arr i o m b c h=>simp only[GV.ok]at W;exact .arr _ o m b c (by grind[dH])
 |fn F u I first C q E h d r N =>
  simp only[GV.ok,a6]at W
  exact .fn _ u I first C q E (fun i v g A z=>r i v g A z (vl W.1 (bR z))) (fun i v g A z=>N i v g A z (vl W.2 (bR z)))
def Ob.ok(p:Nat->Bool):Ob->Bool
 |.box _ j=>C3 p j
 |_=>true
def Ob.eM(f:Nat->Nat):Ob->Ob
 |.box E j=>.box E (mP f j)
 |x=>x
def qz(p:Nat->Bool):ap->Bool
 |[]=>true
 |x::r=>Ob.ok p x&&qz p r
abbrev tD(n:Nat)(Γ:ap):Bool:=qz (below n) Γ
def B0{p:Nat->Bool}{gs:ap}(h:qz p gs=true){g:Ob}(hg:g∈gs):g.ok p=true:=by
 induction gs with
 |nil=>cases hg
 |cons x gs q =>
  grind[qz]
def Fh(p:Nat->Bool):am->am
 |[]=>[]
 |g::s=>(match GV.ok p g with|true=>g|false=>.U)::Fh p s
abbrev vT(n:Nat)(fr:am):am:=Fh (below n) fr
def FR.res{K:Fz}{β:Bt}{p:Nat->Bool}{fr:am}{l:List Value}(h:FR K β fr l):FR K (dH p β) (Fh p fr) l:=by
 induction h with
 |nil=>exact .nil
 |cons h t q =>
  rw[Fh];split
  ·rename_i W;exact .cons (h.res W) q
  ·exact .cons (.U _) q
def gP.res{K:Fz}{β:Bt}{w:World}{p:Nat->Bool}{i:Nat}{x:Ob}(h:gP K β w i x)(hi:p i=true)(hx:x.ok p=true):gP K (dH p β) w i x:=by
 cases x with
 |gone=>grind[gP,dH]
 |box E s =>
  have⟨b,o,A,z,I,c⟩:=h;exact⟨b,o,by grind[dH],z,⟨I.1,fun i v g F H=>(I.2 i v g F H).res (vl hx (bR H))⟩,c⟩
 |vec E k d j =>
  have⟨M,l,A,z,I,c,F⟩:=h;refine⟨M,l,by grind[dH],z,⟨I.1,fun i v g H W=>(I.2 i v g H W).pc ?_⟩,c,F⟩;exact zbz
 |vech E k j x =>
  have⟨l,A,z,I,c,F⟩:=h;refine⟨l,by grind[dH],z,⟨I.1,fun i v g H W=>(I.2 i v g H W).pc ?_⟩,c,F⟩;exact zbz
 |lost=>grind[gP,dH]
 |blk b q=>grind[gP,dH]
 |blob q =>
  grind[gP,dH]
section
variable{B:Bs}{K:Fz}{β:Bt}{Γ:ap}{w:World}
def xX{n i:Nat}(h:i<n):below n i=true:=by simpa[below]using h
theorem xW{n i:Nat}(h:n<=i):below n i=false:=by
 cases r:below n i with
 |false=>rfl
 |true=>simp[below]at r;omega
theorem Inv.cut{n:Nat}(h:Inv B K β Γ w)(N:B.m<=n)(c:tD n (Γ.take n)=true):Inv B K (dH (below n) β) (Γ.take n) w:=by
 have T:∀i b,(dH (below n) β i).has b->(β i).has b:=fun i b M=>by
  grind[dH,Bk.has]
 refine⟨h.ext,h.kle,fun i=>?_,h.loc,h.fz,fun i x M=>?_,fun i M=>?_,fun i j b M o=>h.dis i j b (T i b M) (T j b o),fun i b M=>h.own i b (T i b M),h.kn,h.tab.step (S:=fT) (Ext.refl w) (fun _ h=>h.elim) (c7.refl K) (fun i W v=>.inl ⟨i,T i W v⟩)⟩
 ·by_cases A:i<n
  ·rw[qh (xX A)];exact h.ble i
  ·rw[h.loc i zfn];trivial
 ·have k:=B0 c (bR M);rw[List.getElem?_take]at M;split at M
  ·rename_i A;exact(h.ob i x M).res (xX A) k
  grind
 ·by_cases A:i<n
  ·rw[qh (xX A)];exact h.out i zfk
  grind[sN,xW]
theorem Tj{i:Nat}:other i i=false:=by simp[other]
theorem vn{i j:Nat}(h:j≠i):other i j=true:=by
 grind[Nat.eq_of_beq_eq_true,other]
theorem Inv.freeze{i:Nat}{E:TypeId}{cs:am}(h:Inv B K β Γ w)(hi:Γ[i]?=some (.box E cs))(hp:∀g∈cs,g.pc=true)(J:qz (other i) (Γ.set i .gone)=true)(hm:B.m<=i) :
  ∃C,c7 K C/\(∀b,β i=.fix b->∀(j:Nat)g,cs[j]?=some g->C b j=some g)/\Inv B C (dH (other i) β) (Γ.set i .gone) w:=by
 have⟨b,vs,T,F,W,h4⟩:=h.ob i _ hi
 have s:(β i).has b:=by rw[T];exact rfl
 have k:c7 K (j4 K b cs):=fun c o g q=>by
  grind[j4]
 have d:∀j c,(dH (other i) β j).has c->j≠i/\(β j).has c:=fun j c l=>by
  grind[sN,Tj,qh,vn,Bk.has]
 refine⟨j4 K b cs,k,fun c r j g q=>?_,h.ext,h.kle.trans k,fun j=>?_,h.loc,fun c o g q=>?_,fun j x l=>?_,fun j l=>?_,fun j N c l n=>?_,fun j c l=>?_,fun c o g q=>?_,h.tab.step (S:=fT) (Ext.refl w) (fun _ h=>h.elim) k (fun i O F=>.inl ⟨i,(d i O F).2⟩)⟩
 ·grind[j4]
 ·by_cases u:j=i
  ·subst u;rw[h.loc j hm];trivial
  ·rw[qh (vn u)];exact h.ble j
 ·by_cases G:c=b
  ·subst G;simp[j4]at q;have⟨v,hv,A⟩:=W.at q;have z:=hp g (bR q);exact⟨z,v,zk F zfk,(A.mono k (dO.refl β)).pc z⟩
  ·have I:K c o=some g:=by grind[j4]
   have⟨h5,v,h6,h7⟩:=h.fz c o g I;exact⟨h5,v,h6,h7.mono k (dO.refl _)⟩
 ·have M:=B0 J (bR l);rw[iY]at l;split at l
  ·grind[gP,j4,dH,other]
  ·rename_i t;refine gP.res ?_ (vn (fun H=>t H.symm)) M;refine(h.ob j x l).ext (Ext.refl w) (fun _ _ h=>h) k (dO.refl β) rfl (fun c o r hk=>?_) (S:=fT)
   have:c≠b:=fun H=>by subst H;exact t (h.dis i j _ s r)
   grind[j4]
 ·have:i<Γ.length:=(bG hi).1
  have n:Γ.length<=j:=by grind
  rw[qh (vn zfn)];exact h.out j n
 ·exact h.dis j N c (d j c l).2 (d N c n).2
 ·exact h.own j c (d j c l).2
 ·by_cases G:c=b
  ·subst G;exact .inr (h.own i _ s)
  ·exact h.kn c o g (by grind[j4])
end
abbrev dF:=Exit->am->ap->Prop
def gl(B:Bs)(Q:dF):mf:=fun e l w=>∃K β fr Γ,Inv B K β Γ w/\FR K β fr l/\Q e fr Γ
def GW(P:Program)(m:Nat)(c:Code)(Q:dF)(fr:am)(Γ:ap):Prop :=
 ∀B K β w l,B.m=m->Inv B K β Γ w->FR K β fr l->W P c (gl B Q) l w
def GL(P:Program)(m:Nat)(ops:Array Oper)(Q:dF)(rest:List Oper)(fr:am)(Γ:ap):Prop :=
 ∀B K β w l,B.m=m->Inv B K β Γ w->FR K β fr l->WL P ops (gl B Q) rest l w
def bh(next:am->ap->Prop)(Q:dF):dF
 |.normal,fr,Γ=>next fr Γ
 |e,fr,Γ=>Q e fr Γ
def bm(id:Nat)(Q:dF):dF
 |.exit wR,fr,Γ=>if wR=id then Q .normal fr Γ else Q (.exit wR) fr Γ
 |e,fr,Γ=>Q e fr Γ
def Wk(m:Nat)(fr:am)(Γ:ap)(dh:am)(bO:ap):Prop :=
 ∀B K β w l,B.m=m->Inv B K β Γ w->FR K β fr l->∃O c,Inv B O c bO w/\FR O c dh l
section
variable{P:Program}{m:Nat}{Q:dF}{fr:am}{Γ:ap}{ops:Array Oper}{rest:List Oper}
def Wk.trans{dh i:am}{bO C:ap}(h:Wk m fr Γ dh bO)(k:Wk m dh bO i C):Wk m fr Γ i C:=fun B K β w l N S j=>by
 have⟨O,c,E,n⟩:=h B K β w l N S j;exact k B O c w l N E n
def GW.wk{c:Code}{dh:am}{bO:ap}(h:Wk m fr Γ dh bO)(k:GW P m c Q dh bO):GW P m c Q fr Γ:=fun B K β w l N S j=>by
 have⟨O,d,C,n⟩:=h B K β w l N S j;exact k B O d w l N C n
def GL.wk{dh:am}{bO:ap}(h:Wk m fr Γ dh bO)(k:GL P m ops Q rest dh bO):GL P m ops Q rest fr Γ:=fun B K β w l N S j=>by
 have⟨O,c,C,n⟩:=h B K β w l N S j;exact k B O c w l N C n
def Wk.cut{n:Nat}(N:m<=n)(W:tD n (Γ.take n)=true):Wk m fr Γ (vT n fr) (Γ.take n):=fun B K β w l i S j =>
 ⟨K,dH (below n) β,S.cut zfn W,j.res⟩
inductive sX:am->am->Prop
 |nil:sX [] []
 |U {f:GV} {fs gs:am} (h:sX fs gs):sX (f::fs) (.U::gs)
 |eq {f g:GV} {fs gs:am} (he:f=g) (h:sX fs gs):sX (f::fs) (g::gs)
def FR.aaK{K:Fz}{β:Bt}{l:List Value}{fr dh:am}(h:sX fr dh)(k:FR K β fr l):FR K β dh l:=by
 induction h generalizing l with
 |nil=>exact k
 |U h q=>cases k with|cons s i=>exact .cons (.U _) (q i)
 |eq j h q=>subst j;cases k with|cons s i=>exact .cons s (q i)
def Wk.bb{dh:am}(h:sX fr dh):Wk m fr Γ dh Γ:=fun B K β w l _ S j=>⟨K,β,S,j.aaK h⟩
def GW.seq{x y:Code}(h:GW P m x (bh (GW P m y Q) Q) fr Γ):GW P m (.seq x y) Q fr Γ:=fun B K β w l N S j=>by
 refine W.seq (W.mono (h B K β w l N S j) ?_);rintro e l w⟨K,β,fr,Γ,S,j,T⟩
 cases e with
 |normal=>exact T B K β w l N S j
 |_=>exact⟨K,β,fr,Γ,S,j,T⟩
theorem GW.skip(h:Q .normal fr Γ):GW P m .skip Q fr Γ:=fun B K β w l N S j=>W.skip ⟨K,β,fr,Γ,S,j,h⟩
def GW.exit{n:Nat}(h:Q (.exit n) fr Γ):GW P m (.exit n) Q fr Γ:=fun B K β w l N S j=>W.exit ⟨K,β,fr,Γ,S,j,h⟩
def GW.ret(h:Q .ret fr Γ):GW P m .ret Q fr Γ:=fun B K β w l N S j=>W.ret ⟨K,β,fr,Γ,S,j,h⟩
theorem GW.block{id:Nat}{c:Code}(h:GW P m c (bm id Q) fr Γ):GW P m (.block id c) Q fr Γ:=fun B K β w l N S j=>by
 refine W.block (W.mono (h B K β w l N S j) ?_);rintro e l w⟨K,β,fr,Γ,S,j,T⟩
 cases e with
 |exit wR =>
  simp only[bm]at T
  grind[VJ,gl]
 |_=>exact⟨K,β,fr,Γ,S,j,T⟩
theorem Rel.fx{K:Fz}{β:Bt}{x a:Value}(h:Rel K β x (.v a)):x=a:=by cases h;rfl
def FR.fC{K:Fz}{β:Bt}{l:List Value}{x:Operand}{a:Value}(h:FR K β fr l)(hx:bd fr x=.v a):Xw.ev l x=a:=Rel.fx (by rw[<-hx];exact h.ev x)
def GW.cond{c:Operand}{x y:Code}{t:Bool}(o:bd fr c=.v (.bool t))(H:t=true->GW P m x Q fr Γ)(hf:t=false->GW P m y Q fr Γ):GW P m (.cond c x y) Q fr Γ:=fun B K β w l N S j =>
 W.cond (j.fC o) (fun h=>H h B K β w l N S j) (fun h=>hf h B K β w l N S j)
section
variable{c:Operand}{x y:Code}{t:Bool}
def KP(o:bd fr c=.v (.bool t))(H:t=true)(h:GW P m x Q fr Γ):GW P m (.cond c x y) Q fr Γ:=GW.cond o (fun _=>h) (fun z=>by rw[H]at z;cases z)
def KO(o:bd fr c=.v (.bool t))(H:t=false)(h:GW P m y Q fr Γ):GW P m (.cond c x y) Q fr Γ:=GW.cond o (fun z=>by rw[H]at z;cases z) (fun _=>h)
end
theorem GW.mono{c:Code}{Q':dF}(h:GW P m c Q fr Γ)(T:∀e fr Γ,Q e fr Γ->Q' e fr Γ):GW P m c Q' fr Γ:=fun B K β w l N S j =>
 W.mono (h B K β w l N S j) fun e l w ⟨K,β,fr,Γ,S,j,q⟩=>⟨K,β,fr,Γ,S,j,T _ _ _ q⟩
def yH(m:Nat)(K:am->ap->Prop)(fr:am)(Γ:ap):Prop:=∃W t,Wk m fr Γ W t/\K W t
theorem GW.loop{c:Code}{E:Type}(n:E->Nat)(I:E->am->ap->Prop)(x:E)(M:yH m (I x) fr Γ)
  (v:∀x fr Γ,I x fr Γ->GW P m c (bh (fun dh bO=>∃y,yH m (I y) dh bO/\n y<n x) Q) fr Γ):GW P m (.loop c) Q fr Γ:=fun B K β w l N S j=>by
 have⟨dh,bO,i,M⟩:=M;have⟨O,d,C,k⟩:=i B K β w l N S j;refine W.loop n (fun x l w=>∃K β fr Γ,Inv B K β Γ w/\FR K β fr l/\I x fr Γ) x ⟨O,d,dh,bO,C,k,M⟩ ?_;rintro x l w⟨K,β,fr,Γ,S,j,b⟩;refine W.mono (v x fr Γ b B K β w l N S j) ?_;rintro e l w⟨K,β,fr,Γ,S,j,T⟩
 cases e with
 |normal =>
  have⟨y,⟨dh,bO,i,q⟩,o⟩:=T;have⟨O,d,C,k⟩:=i B K β w l N S j
  grind[WK]
 |_=>exact⟨K,β,fr,Γ,S,j,T⟩
def GW.region{id:Nat}{M:List Oper}(h:GL P m M.toArray Q M fr Γ):GW P m (.region id M.toArray false) Q fr Γ:=fun B K β w l N S j=>W.region (h B K β w l N S j)
theorem GL.nil(h:Q .normal fr Γ):GL P m ops Q [] fr Γ:=fun B K β w l N S j=>WL.nil ⟨K,β,fr,Γ,S,j,h⟩
end
section
variable{next:am->ap->Prop}{Q:dF}{fr:am}{Γ:ap}{id wR:Nat}
def bx(h:next fr Γ):bh next Q .normal fr Γ:=h
def En(h:Q (.exit id) fr Γ):bh next Q (.exit id) fr Γ:=h
def lh(h:Q .ret fr Γ):bh next Q .ret fr Γ:=h
def ke(h:Q .normal fr Γ):bm id Q .normal fr Γ:=h
def lg(h:Q .ret fr Γ):bm id Q .ret fr Γ:=h
def HH(h:Q .normal fr Γ):bm id Q (.exit id) fr Γ:=by simpa[bm]using h
theorem SO(hn:(wR==id)=false)(h:Q (.exit wR) fr Γ):bm id Q (.exit wR) fr Γ:=by
 simp only[bm];grind
end
def GC(P:Program)(f:FuncId)(gs:am)(Γ:ap)(R:GV->ap->Prop):Prop :=
 ∀B K β w j,B.m=Γ.length->Inv B K β Γ w->bJ K β j gs->pn P f j w fun v k=>∃O c g t,Inv B O c t k/\Rel O c v g/\R g t
abbrev GF(P:Program)(f:FuncId)(gs:am)(Γ:ap)(g:GV)(bO:ap):Prop:=GC P f gs Γ fun x I=>x=g/\I=bO
def Em:Nat->am
 |0=>[]
 |n+1=>.v undef::Em n
def u9:am->Nat->am
 |[],n=>Em n
 |a::r,n=>a::u9 r (n-1)
theorem FR.Fg{K:Fz}{β:Bt}(n:Nat):FR K β (Em n) (Fg n):=by
 induction n with
 |zero=>exact .nil
 |succ n q=>exact .cons (.v _) q
theorem FR.frame{K:Fz}{β:Bt}{vs:List Value}{gs:am}(h:bJ K β vs gs)(n:Nat):FR K β (u9 gs n) (frame vs n):=by
 induction gs generalizing vs n with
 |nil =>
  grind[ky,FR.Fg,u9,Xw.frame]
 |cons g gs q =>
  cases vs with
  |nil=>grind
  |cons v vs=>have⟨z,A⟩:=h.oF;exact .cons z (q A _)
def tl(P:Program)(fn:Func)(m:Nat)(R:GV->ap->Prop):dF:=fun e fr Γ =>
 (e=.normal\/e=.ret)/\∀B K β w l,B.m=m->Inv B K β Γ w->FR K β fr l->∃v O c g t,(results fn l.toArray).run P w=.ok v w/\Inv B O c t w/\Rel O c v g/\R g t
theorem GC.enter{P:Program}{f:FuncId}{fn:Func}{c:Code}{gs:am}{Γ:ap}{R:GV->ap->Prop}{n:Nat}{fr:am}
  (hf:P.funcs[f]?=some fn)(hn:fn.ntmps=n)(r:fn.body=some c)(b:u9 gs n=fr)(h:GW P Γ.length c (tl P fn Γ.length R) fr Γ):GC P f gs Γ R:=fun B K β w k N S j=>by
 subst b;refine pn.enter hf hn r rfl (W.mono (h B K β w _ N S (FR.frame j n)) ?_);rintro e l w⟨K,β,fr,Γ,S,j,i,T⟩
 grind[JB]
section
variable{P:Program}{fn:Func}{m:Nat}{R:GV->ap->Prop}{fr:am}{Γ:ap}{e:Exit}
section
variable{n:Nat}
def U4(k:fn.results=#[])(j:e=.normal\/e=.ret)(N:m<=n)(W:tD n (Γ.take n)=true)(h:R (.tup []) (Γ.take n)):tl P fn m R e fr Γ :=
 ⟨j,fun B K β w l o S q=>⟨.tuple #[],K,dH (below n) β,.tup [],Γ.take n,by rw[results_none k],S.cut zfn W,.tup [] [] rfl (fun i v g h=>by simp at h),h⟩⟩
def oj{t:Tmp}{g:GV}(k:fn.results=#[.tmp t])(i:e=.normal\/e=.ret)(hg:cQ fr t=g)(N:m<=n)(W:tD n (Γ.take n)=true)(S:g.lt n=true)(h:R g (Γ.take n)):tl P fn m R e fr Γ :=
 ⟨i,fun B K β w l o T j=>⟨nth l t,K,dH (below n) β,g,Γ.take n,by rw[results_tmp k,jJ],T.cut zfn W,by rw[<-hg]at S |-;exact(j.nth t).res S,h⟩⟩
def U5{t u:Tmp}{g r:GV}(k:fn.results=#[.tmp t,.tmp u])(i:e=.normal\/e=.ret)(hg:cQ fr t=g)(z:cQ fr u=r)(N:m<=n)(W:tD n (Γ.take n)=true)(S:(GV.tup [g,r]).lt n=true)(h:R (.tup [g,r]) (Γ.take n)):tl P fn m R e fr Γ :=
 ⟨i,fun B K β w l q T j=>⟨.tuple #[nth l t,nth l u],K,dH (below n) β,.tup [g,r],Γ.take n,by rw[results_tmp2 k,jJ,jJ],T.cut zfn W,by
  refine Rel.res ?_ S;subst hg z;have o:bJ K β [nth l t,nth l u] [cQ fr t,cQ fr u]:=.cons (j.nth t) (.cons (j.nth u) .nil)
  exact .tup [nth l t,nth l u] _ o.1 o.2,h⟩⟩
def U6{t u s:Tmp}{g r S:GV}(k:fn.results=#[.tmp t,.tmp u,.tmp s])(i:e=.normal\/e=.ret)(hg:cQ fr t=g)(z:cQ fr u=r)(d:cQ fr s=S)(N:m<=n)(b:tD n (Γ.take n)=true)(T:(GV.tup [g,r,S]).lt n=true)
  (h:R (.tup [g,r,S]) (Γ.take n)):tl P fn m R e fr Γ :=
 ⟨i,fun B K β w l q W j=>⟨.tuple #[nth l t,nth l u,nth l s],K,dH (below n) β,.tup [g,r,S],Γ.take n,by
   rw[<-jJ l t,<-jJ l u,<-jJ l s];simp[results,k],W.cut zfn b,by
  refine Rel.res ?_ T;subst hg z d;have o:bJ K β [nth l t,nth l u,nth l s] [cQ fr t,cQ fr u,cQ fr s]:=.cons (j.nth t) (.cons (j.nth u) (.cons (j.nth s) .nil))
  exact .tup [nth l t,nth l u,nth l s] _ o.1 o.2,h⟩⟩
theorem U7{t:Tmp}{T:TypeId}{k:Nat}[W:Ty P T true k]{i:Nat}{E:TypeId}{cs:am}(I:fn.results=#[.cell t T])(C:e=.normal\/e=.ret)(hg:cQ fr t=.loc i 0)(r:Γ[i]?=some (.box E cs))(hk:cs.length=k)
  (hm:m<=n)(F:tD n (Γ.take n)=true)(d:(GV.agg cs).lt n=true)(h:R (.agg cs) (Γ.take n)):tl P fn m R e fr Γ :=
 ⟨C,fun B K β w l S u z=>by
  have⟨b,vs,M,N,s,O⟩:=u.ob i _ r
  have G:nth l t=.pointer (some ⟨b,0,none⟩):=by
   have:=z.nth t;rw[hg]at this;generalize nth l t=v at this
   cases this with
   |loc _ _ J A=>grind
  have H:l.toArray.getD t undef=.pointer (some ⟨b,0,none⟩):=by rw[jJ,G]
  have q:=mQ (P:=P) (w:=w) (t:=T) (b:=b) (o:=0) (vs:=vs) (k:=k) zfn (fun j v hj=>by
   grind[World.cell?])
  have c:l[t]?.getD undef=.pointer (some ⟨b,0,none⟩):=by simp_all
  exact⟨.agg vs.toArray,K,dH (below n) β,.agg cs,Γ.take n,by simp[results,I,c,asAddr,q],u.cut zfn F,Rel.res (.agg vs cs s.1 s.2) d,h⟩⟩
end
end
def V(P:Program)(op:Op)(fr:am)(Γ:ap)(g:GV):Prop :=
 ∀B K W w l,Inv B K W Γ w->FR K W fr l->∃v,fA P l w op v/\Rel K W v g
section
variable{P:Program}{m:Nat}{Q:dF}{fr:am}{Γ:ap}{ops:Array Oper}{rest:List Oper}{d:Option Tmp}{op:Op}{ty:TypeId}{pos:String}{af:Array Edge}
def GL.q{g:GV}(n:V P op fr Γ g)(h:GL P m ops Q rest (bQ fr d g) Γ):GL P m ops Q (⟨d,op,ty,pos,af,none⟩::rest) fr Γ:=fun B K W w l N R j=>by
 have⟨v,i,O⟩:=n B K W w l R j;exact WL.v i (h B K W w _ N R (j.put d O))
def rG{dh:am}{bO:ap}(z:fr=dh)(v:Γ=bO)(h:GL P m ops Q rest dh bO):GL P m ops Q rest fr Γ:=by subst z;subst v;exact h
def GN{dh:am}(z:fr=dh)(h:GL P m ops Q rest dh Γ):GL P m ops Q rest fr Γ:=by subst z;exact h
def V.v1{x:Operand}{a v:Value}(hx:bd fr x=.v a)(h:∀l w,ev l x=a->fA P l w op v):V P op fr Γ (.v v):=fun B K W w l R j=>⟨v,h l w (j.fC hx),.v v⟩
def V.v2{x y:Operand}{a b v:Value}(hx:bd fr x=.v a)(n:bd fr y=.v b)(h:∀l w,ev l x=a->ev l y=b->fA P l w op v):V P op fr Γ (.v v):=fun B K W w l R j=>⟨v,h l w (j.fC hx) (j.fC n),.v v⟩
theorem V.mv{x:Operand}:V P (.move x) fr Γ (bd fr x):=fun B K W w l S j=>⟨_,R.mv,j.ev x⟩
theorem V.kj{x:Operand}:V P (.assign x) fr Γ (bd fr x):=fun B K W w l S j=>⟨_,R.kj,j.ev x⟩
theorem V.BV{fn:Fn}{first C:List Operand}:V P (.makeFunc fn first.toArray C.toArray) fr Γ (.fn fn (first.map (bd fr)) (C.map (bd fr))):=fun B K W w l S j =>
 ⟨_,R.BV,by
  have z:=j.args first
  have v:=j.args C
  simpa using Rel.fn fn _ _ _ _ z.1 v.1 z.2 v.2⟩
def BL:GV->Value
 |.v x=>x
 |_=>.nilFunc
def U9(B:Operand->Value)(op:Op):Option Value :=
 match op with
 |.binOp _ _ _ _ _=>go B op
 |.unOp _ _ _=>go B op
 |_=>none
def SU{K:Fz}{β:Bt}{x:Value}{g:GV}(h:Rel K β x g):BL g=x\/BL g=.nilFunc:=by
 cases h<;>first|exact .inl rfl|exact .inr rfl
theorem V.go{v:Value}(h:U9 (fun x=>BL (bd fr x)) op=some v):V P op fr Γ (.v v):=fun B K W w l R j=>by
 refine⟨v,SQ ?_,.v v⟩
 have c:∀x,BL (bd fr x)=ev l x\/BL (bd fr x)=.nilFunc:=fun x=>SU (j.ev x)
 unfold U9 at h;split at h
 ·rename_i o t x y O;simp only[Xw.go]at h |-
  grind[DA,ev]
 ·rename_i o t x;simp only[Xw.go,vZ]at h |-
  grind
 ·cases h
def V.RE{c a b:Operand}{t:Bool}(o:bd fr c=.v (.bool t))(H:t=true):V P (.pick c a b) fr Γ (bd fr a):=fun B K W w l S j=>⟨_,R.RE (j.fC o) H,j.ev a⟩
def V.RD{c a b:Operand}{t:Bool}(o:bd fr c=.v (.bool t))(H:t=false):V P (.pick c a b) fr Γ (bd fr b):=fun B K W w l S j=>⟨_,R.RD (j.fC o) H,j.ev b⟩
def V.aay{x:Operand}{i o:Nat}(hx:bd fr x=.loc i o):V P (.nilCheck x) fr Γ (.loc i o):=fun B K W w l S j=>by
 have h:=j.ev x;rw[hx]at h;generalize N:ev l x=v at h
 cases h with|loc _ _ b r=>exact⟨_,R.DE N,.loc i o b r⟩
def V.Kb{x:Operand}{cs:am}{o:Nat}(hx:bd fr x=.box cs o):V P (.nilCheck x) fr Γ (.box cs o):=fun B K W w l S j=>by
 have h:=j.ev x;rw[hx]at h;generalize N:ev l x=v at h
 cases h with|box b G _ _ r=>exact⟨_,R.DE N,.box b G o cs r⟩
def V.PG{x:Operand}{t:TypeId}[H:qo P t]{s:ai}(hx:bd fr x=.v (sv s)):V P (.call ⟨.builtin .len,#[x],#[t]⟩) fr Γ (.v (ii s.length)):=V.v1 hx fun l w h=>R.PG h
def V.XV{x:Operand}{t e:TypeId}{k:Nat}[H:lC P t e k]{k':Nat}{rows:List am}(hx:bd fr x=.sl k' rows):V P (.call ⟨.builtin .len,#[x],#[t]⟩) fr Γ (.v (ii rows.length)):=fun B K W w l S j=>by
 have h:=j.ev x;rw[hx]at h;generalize N:ev l x=v at h
 cases h with
 |sl0 a c=>exact⟨_,R.J6 N,.v _⟩
 |sl b o c _ _ h _=>exact⟨_,R.J6 N,.v _⟩
def V.aat{x:Operand}{t e:TypeId}{k:Nat}[H:lC P t e k]{i n:Nat}(hx:bd fr x=.vec i n):V P (.call ⟨.builtin .len,#[x],#[t]⟩) fr Γ (.v (ii n)):=fun B K W w l S j=>by
 have h:=j.ev x;rw[hx]at h;generalize N:ev l x=v at h
 cases h with|vec _ _ a c h=>exact⟨_,R.J6 N,.v _⟩
def V.aas{x:Operand}{t e:TypeId}{k:Nat}[H:lC P t e k]{a:Option Addr}{n c:Nat}(hx:bd fr x=.v (.slice a n c)):V P (.call ⟨.builtin .len,#[x],#[t]⟩) fr Γ (.v (ii n)):=V.v1 hx fun l w h=>R.J6 h
def V.lV{x y:Operand}{t t':TypeId}{a b:ai}(hx:bd fr x=.v (sv a))(n:bd fr y=.v (sv b)):V P (.binOp .eql t x y t') fr Γ (.v (.bool (a==b))):=V.v2 hx n fun l w h k=>R.lV h k
def V.lZ{x y:Operand}{t t':TypeId}{a b:ai}(hx:bd fr x=.v (sv a))(n:bd fr y=.v (sv b)):V P (.binOp .neq t x y t') fr Γ (.v (.bool (!(a==b)))):=V.v2 hx n fun l w h k=>R.lZ h k
def V.hY{x y:Operand}{t:TypeId}[H:qo P t]{s:ai}{k:IntKind}{i:Nat}{c:UInt8}(hx:bd fr x=.v (sv s))(n:bd fr y=.v (.int k i))(o:s[i]?=some c):V P (.index t x y) fr Γ (.v (.int .u8 c.toNat)):=V.v2 hx n fun l w h k=>R.hY h k o
theorem V.add{x y:Operand}{t t':TypeId}{a b:Int}(hx:bd fr x=.v (ii a))(n:bd fr y=.v (ii b))(r : -9223372036854775808<=a+b/\a+b<=9223372036854775807):V P (.binOp .add t x y t') fr Γ (.v (ii (a+b))):=V.v2 hx n fun l w h k=>R.add h k r.1 r.2
def V.ji{x y:Operand}{t t':TypeId}{a b:Nat}(hx:bd fr x=.v (ii a))(n:bd fr y=.v (ii b))(r:a+b<=9223372036854775807):V P (.binOp .add t x y t') fr Γ (.v (ii ((a+b:Nat):Int))):=V.v2 hx n fun l w h k=>R.ji h k r
def V.iZ{x y:Operand}{t t':TypeId}{a:Nat}(hx:bd fr x=.v (ii a))(n:bd fr y=.v (ii 1))(r:a+1<=9223372036854775807):V P (.binOp .add t x y t') fr Γ (.v (ii ((a+1:Nat):Int))):=V.v2 hx n fun l w h k=>R.iZ h k r
theorem V.sub{x y:Operand}{t t':TypeId}{a b:Int}(hx:bd fr x=.v (ii a))(n:bd fr y=.v (ii b))(r : -9223372036854775808<=a-b/\a-b<=9223372036854775807):V P (.binOp .sub t x y t') fr Γ (.v (ii (a-b))):=V.v2 hx n fun l w h k=>R.sub h k r.1 r.2
def V.mul{x y:Operand}{t t':TypeId}{a b:Int}(hx:bd fr x=.v (ii a))(n:bd fr y=.v (ii b))(r : -9223372036854775808<=a*b/\a*b<=9223372036854775807):V P (.binOp .mul t x y t') fr Γ (.v (ii (a*b))):=V.v2 hx n fun l w h k=>R.mul h k r.1 r.2
def V.cat{x y:Operand}{t t':TypeId}{a b:ai}(hx:bd fr x=.v (sv a))(n:bd fr y=.v (sv b))(r:a.length+b.length<=9223372036854775807):V P (.binOp .add t x y t') fr Γ (.v (sv (a++b))):=V.v2 hx n fun l w h k=>R.cat h k r
def V.jT{x:Operand}{t:TypeId}[H:qo P t]{s:ai}{lo hi:Operand}{k k':IntKind}{i j:Nat}(hx:bd fr x=.v (sv s))(r:bd fr lo=.v (.int k i))(C:bd fr hi=.v (.int k' j))(u:i<=j/\j<=s.length):V P (.slice t x (some lo) (some hi) none) fr Γ (.v (sv ((s.take j).drop i))) :=
 fun B K W w l S n=>⟨_,R.Qh (n.fC hx) ⟨k,n.fC r⟩ ⟨k',n.fC C⟩ u.1 u.2,.v _⟩
theorem V.jS{x:Operand}{t:TypeId}[H:qo P t]{s:ai}{lo:Operand}{k:IntKind}{i:Nat}(hx:bd fr x=.v (sv s))(r:bd fr lo=.v (.int k i))(u:i<=s.length):V P (.slice t x (some lo) none none) fr Γ (.v (sv (s.drop i))) :=
 fun B K W w l S n=>⟨_,by
  have:=R.Qh (P:=P) (w:=w) (l:=l) (t:=t) (lo:=some lo) (hi:=none) (i:=i) (j:=s.length) (n.fC hx) ⟨k,n.fC r⟩ rfl u (a8 _)
  grind,.v _⟩
def V.jR{x:Operand}{t:TypeId}[H:qo P t]{s:ai}{hi:Operand}{k:IntKind}{j:Nat}(hx:bd fr x=.v (sv s))(C:bd fr hi=.v (.int k j))(r:j<=s.length):V P (.slice t x none (some hi) none) fr Γ (.v (sv (s.take j))) :=
 fun B K W w l S n=>⟨_,R.Qh (P:=P) (w:=w) (l:=l) (t:=t) (lo:=none) (hi:=some hi) (i:=0) (j:=j) (n.fC hx) rfl ⟨k,n.fC C⟩ (bj _) r,.v _⟩
theorem V.ext{x:Operand}{i:Nat}{cs:am}{g:GV}(hx:bd fr x=.tup cs)(hg:cs[i]?=some g):V P (.extract x i) fr Γ g:=fun B K b w l S k=>by
 have h:=k.ev x;rw[hx]at h;generalize N:ev l x=v at h
 cases h with
 |tup j _ W h =>
  have M:i<j.length:=by grind
  exact⟨j[i],R.extract N zfR,h i _ g zfR hg⟩
def V.fR{x y:Operand}{t e:TypeId}{k:Nat}[H:lC P t e k]{rows:List am}{s:IntKind}{i:Nat}{r:am}(hx:bd fr x=.sl k rows)(q:bd fr y=.v (.int s i))(n:rows[i]?=some r):V P (.indexAddr t x y) fr Γ (.box r 0):=fun B K W w l S j=>by
 have h:=j.ev x;rw[hx]at h;have M:=(bG n).1;generalize N:ev l x=v at h
 cases h with
 |sl0 a c=>simp at M
 |sl b o c _ _ h _=>exact⟨_,R.iI N (j.fC q) M,.box b (o+i*k) 0 r (h i r n).2⟩
def V.UY{x:Operand}{s:TypeId}{f n k:Nat}{agg:Bool}[H:dr P s f n k agg]{i o:Nat}(hx:bd fr x=.loc i o):V P (.fieldAddr s x f) fr Γ (.loc i (o+n)):=fun B K W w l S j=>by
 have h:=j.ev x;rw[hx]at h;generalize N:ev l x=v at h
 cases h with|loc _ _ b r=>exact⟨_,R.O7 N,.loc i _ b r⟩
def V.UW{x:Operand}{s:TypeId}{f n k:Nat}{agg:Bool}[H:dr P s f n k agg]{cs:am}{o:Nat}(hx:bd fr x=.box cs o):V P (.fieldAddr s x f) fr Γ (.box cs (o+n)):=fun B K W w l S j=>by
 have h:=j.ev x;rw[hx]at h;generalize N:ev l x=v at h
 cases h with|box b G _ _ r=>exact⟨_,R.O7 N,by rw[nE];exact .box b G _ cs r⟩
theorem V.Zh{x:Operand}{t:TypeId}[H:Ty P t false 1]{i o:Nat}{E:TypeId}{cs:am}{g:GV}(hx:bd fr x=.loc i o)(n:Γ[i]?=some (.box E cs))(hg:cs[o]?=some g):V P (.load t x) fr Γ g:=fun B K e w l S j=>by
 have h:=j.ev x;rw[hx]at h;generalize N:ev l x=v at h
 cases h with
 |loc _ _ b r =>
  have⟨k,s,z,A,I,c⟩:=S.ob i _ n;rw[r]at z;cases z;have⟨u,W,q⟩:=I.at hg
  grind[R.ld,zk]
def V.VQ{x:Operand}{t:TypeId}[H:Ty P t false 1]{cs:am}{o:Nat}{g:GV}(hx:bd fr x=.box cs o)(hg:cs[o]?=some g):V P (.load t x) fr Γ g:=fun B K c w l S j=>by
 have h:=j.ev x;rw[hx]at h;generalize N:ev l x=v at h
 cases h with
 |box b G _ _ r =>
  have⟨T,u,W,i⟩:=S.fz _ _ _ (r o g hg);exact⟨u,R.ld N W,i.pc T⟩
theorem rR{k:Nat}{rows:List am}(G:gL k rows){i j:Nat}{r:am}{g:GV}(l:rows[i]?=some r)(hg:r[j]?=some g):rows.flatten[i*k+j]?=some g:=by
 induction rows generalizing i with
 |nil=>simp at l
 |cons a rows q =>
  have O:a.length=k:=(G a (List.mem_cons_self)).1
  cases i with
  |zero =>
   grind
  |succ i =>
   rw[flatten_cons,mb zfk,O];rw[show(i+1)*k+j-k=i*k+j by grind];exact q (fun r l=>G r (ey _ l)) zfk
theorem V.PD{x:Operand}{t:TypeId}{k:Nat}[H:Ty P t true k]{i o:Nat}{E:TypeId}{cs gs:am}(hx:bd fr x=.loc i o)(n:Γ[i]?=some (.box E cs))(hg:(cs.drop o).take k=gs)(G:gs.length=k):V P (.load t x) fr Γ (.agg gs):=fun B K W w l S q=>by
 have h:=q.ev x;rw[hx]at h;generalize N:ev l x=v at h
 cases h with
 |loc _ _ b r =>
  have⟨u,s,z,A,I,c⟩:=S.ob i _ n;rw[r]at z;cases z;have F:=(I.drop o).take k;rw[hg]at F;refine⟨.agg ((s.drop o).take k).toArray,R.Zj N zfn (fun j v C=>?_),.agg _ _ F.1 F.2⟩
  grind[iU]
theorem vR{K:Fz}{β:Bt}{H:Array Obj}{b:Nat}:∀(gs:am)(o:Nat),(∀(j:Nat)g,gs[j]?=some g->∃v,iU H b (o+j)=some v/\Rel K β v g)->∃vs:List Value,bJ K β vs gs/\∀(j:Nat)v,vs[j]?=some v->iU H b (o+j)=some v
 |[],o,_=>⟨[],.nil,fun j v h=>by simp at h⟩
 |g::gs,o,h=>by
  have⟨v,N,i⟩:=h 0 g rfl;obtain⟨vs,z,w⟩:=vR gs (o+1) (fun j r F=>by rw[show o+1+j=o+(j+1) by omega];exact h (j+1) r F);refine⟨v::vs,.cons i z,fun j u q=>?_⟩
  grind
theorem V.VR{x:Operand}{t:TypeId}{k:Nat}[I:Ty P t true k]{cs gs:am}{o:Nat}(hx:bd fr x=.box cs o)(hg:(cs.drop o).take k=gs)(J:gs.length=k):V P (.load t x) fr Γ (.agg gs):=fun B K β w l S n=>by
 have h:=n.ev x;rw[hx]at h;generalize N:ev l x=v at h
 cases h with
 |box b G _ _ s =>
  obtain⟨q,z,A⟩:=vR (K:=K) (β:=β) (H:=w.heap) (b:=b) gs (G+o) (fun j g C=>by
   have r:cs[o+j]?=some g:=by
    grind
   have⟨T,u,W,i⟩:=S.fz _ _ _ (s (o+j) g r)
   exact⟨u,by grind,i.pc T⟩)
  exact⟨.agg q.toArray,R.Zj N zfn A,.agg _ _ z.1 z.2⟩
def mI:GV->Option am
 |.v x=>match zJ x with
  |true=>some [.v x]
  |false=>none
 |.agg l=>some l
 |.U=>none
 |.tup _=>none
 |.vp _ _ _ _ _=>none
 |.sl k j=>some [.sl k j]
 |.box l o=>some [.box l o]
 |.loc i o=>some [.loc i o]
 |.vec i n=>some [.vec i n]
 |.arr i o n=>some [.arr i o n]
 |.fn f a c=>some [.fn f a c]
def pF:am->Nat->am->am
 |cs,_,[]=>cs
 |cs,o,v::r=>pF (bN cs o v) (o+1) r
def yd(q:Nat->Option (Nat × Nat)):am->List (Nat × GV)->Option am
 |cs,[]=>some cs
 |cs,(i,g)::r=>match q i with
  |none=>none
  |some (o,k)=>match mI g with
   |none=>none
   |some s=>if s.length≠k ||decide (o+s.length>cs.length)then none else yd q (pF cs o s) r
theorem Rel.cells{K:Fz}{β:Bt}{x:Value}{g:GV}{gs:am}(h:Rel K β x g)(hg:mI g=some gs):∃vs:List Value,x.cells=vs.toArray/\bJ K β vs gs:=by
 have one:∀{x:Value}{g:GV},Rel K β x g->x.cells=#[x]->∃vs:List Value,x.cells=vs.toArray/\bJ K β vs [g]:=fun r q=>⟨[_],q,.cons r .nil⟩
 cases h with
 |v x =>
  simp only[mI]at hg;split at hg
  ·rename_i S;cases hg;exact one (.v _) (l7 S).1
  grind
 |U x=>cases hg
 |agg vs l W h=>cases hg;grind[Value.cells]
 |tup vs l W h=>cases hg
 |sl0 a c k=>cases hg;exact one (.sl0 a c k) rfl
 |sl b o c k j h q=>cases hg;exact one (.sl b o c k j h q) rfl
 |box b G o l h=>cases hg;exact one (.box b G o l h) rfl
 |loc i o b h=>cases hg;exact one (.loc i o b h) rfl
 |vec i n a c h=>cases hg;exact one (.vec i n a c h) rfl
 |vp i n k idx s x h=>cases hg
 |arr i o n b c h=>cases hg;exact one (.arr i o n b c h) rfl
 |fn f t I first C W z h e=>cases hg;exact one (.fn f t I first C W z h e) rfl
def nW:am->Bool
 |[]=>true
 |g::s=>g.one&&nW s
def oA:am->Bool
 |[]=>true
 |g::s=>g.pc&&oA s
theorem mO{gs:am}(h:oA gs=true):∀g∈gs,g.pc=true:=by
 induction gs with
 |nil=>simp
 |cons x gs q =>
  simp_all[oA,a6,List.mem_cons]
theorem bJ.lI{K:Fz}{β:Bt}{vs:List Value}{gs:am}(h:bJ K β vs gs)(S:nW gs=true):lI vs=true:=by
 induction gs generalizing vs with
 |nil=>grind[Xw.lI]
 |cons g gs q =>
  cases vs with
  |nil=>rfl
  |cons v vs =>
   simp only[nW,a6]at S;have⟨z,w⟩:=h.oF;have I:=(l7 (z.one S.1)).2
   grind[Xw.lI]
end
theorem bJ.mT{K:Fz}{β:Bt}{us:List Value}{q:am}(k:bJ K β us q):∀{vs:List Value}{gs:am}(o:Nat),bJ K β vs gs->bJ K β (mT vs o us) (pF gs o q):=by
 have W:∀{vs:List Value}{gs:am}(o:Nat){v:Value}{g:GV},Rel K β v g->bJ K β vs gs->bJ K β (eN vs o v) (bN gs o g):=by
  intro vs
  induction vs with
  |nil =>
   intro gs o v g N h;have:gs=[]:=ky h.1.symm;subst this;exact .nil
  |cons x vs r =>
   intro gs o v g N h
   cases gs with
   |nil=>grind
   |cons y gs =>
    have⟨z,w⟩:=h.oF
    cases o with
    |zero=>exact .cons N w
    |succ o=>exact .cons z (r o N w)
 induction us generalizing q with
 |nil =>
  intro vs gs o h;have:q=[]:=ky k.1.symm;subst this;exact h
 |cons u us r =>
  intro vs gs o h
  cases q with
  |nil=>grind
  |cons g q =>
   have⟨z,w⟩:=k.oF;exact r w (o+1) (W o z h)
def vX{K:Fz}{β:Bt}{q:Nat->Option (Nat × Nat)}{l:List Value}{fr:am}(n:FR K β fr l):∀(parts:List (Nat × Operand))(vs:List Value)(gs cs:am),bJ K β vs gs ->
  yd q gs (parts.map fun x=>(x.1,bd fr x.2))=some cs->∃us,qv q vs (parts.map fun x=>(x.1,ev l x.2))=some us/\bJ K β us cs
 |[],vs,gs,cs,h,s=>by cases s;grind[qv]
 |(i,x)::r,vs,gs,cs,h,s=>by
  simp only[List.map_cons,yd]at s;simp only[List.map_cons,qv]
  cases R:q i with
  |none=>grind
  |some y =>
   have⟨o,k⟩:=y;rw[R]at s;simp only at s |-
   cases F:mI (bd fr x)with
   |none=>grind
   |some u =>
    rw[F]at s;simp only at s;have⟨us,e,C⟩:=(n.ev x).cells F
    have N:(ev l x).cells.size=u.length:=by grind
    rw[N,h.1];split at s
    ·cases s
    ·rename_i t;rw[ab t]
     have j:(ev l x).cells.toList=us:=by rw[e]
     rw[j];exact vX n r _ _ cs (C.mT o h) s
section
variable{P:Program}{m:Nat}{Q:dF}{fr:am}{Γ:ap}{ops:Array Oper}{rest:List Oper}{d:Option Tmp}{op:Op}{ty:TypeId}{pos:String}{af:Array Edge}
def gO(z:List Value):am:=z.map .v
def V.build{t:TypeId}{o:List (Nat × Nat)}{z:List Value}[H:p6 P t o z]{parts:List (Nat × Operand)}{cs:am}(hf:yd (fun i=>o[i]?) (gO z) (parts.map fun x=>(x.1,bd fr x.2))=some cs) :
  V P (.build t parts.toArray) fr Γ (.agg cs):=fun B K W w l S j=>by
 have⟨k,A,v⟩:=vX j parts z _ cs bJ.self hf;exact⟨_,R.build A,.agg k cs v.1 v.2⟩
theorem mJ{K:Fz}{β:Bt}{l:List Value}{t:Nat}(h:FR K β fr l)(H:gN fr t=true):gN l t=true:=by
 induction h generalizing t with
 |nil=>cases H
 |cons _ _ q=>cases t with|zero=>rfl|succ t=>exact q H
def sM{l:List Value}{t:Nat}(h:gN l t=true)(u:Value):nth (eN l t u) t=u:=by
 induction l generalizing t with
 |nil=>cases h
 |cons x l q=>cases t with|zero=>rfl|succ t=>exact q h
theorem oT{l:List Value}{t t':Nat}(h:t'≠t)(u:Value):nth (eN l t u) t'=nth l t':=by
 induction l generalizing t t' with
 |nil=>rfl
 |cons x l q=>cases t with
  |zero=>cases t' with|zero=>omega|succ t'=>rfl
  |succ t=>cases t' with|zero=>rfl|succ t'=>grind[nth,eN]
def GL.alloc{t:TypeId}{z:Value}{cs:am}[H:p8 P t z](F:gO z.cells.toList=cs)(h:GL P m ops Q rest (bQ fr d (.loc Γ.length 0)) (Γ++[.box t cs])):GL P m ops Q (⟨d,.alloc t,ty,pos,af,none⟩::rest) fr Γ:=fun B K W w l N R j=>by
 refine WL.alloc (z:=z) fun b k S=>?_
 have C:=R.add (vs:=z.cells.toList) (cs:=cs) (E:=t) (by simpa using S) (by rw[<-F];exact bJ.self);exact zcN
def GL.box{t:TypeId}{x:Operand}{cs:am}(hx:mI (bd fr x)=some cs)(h:GL P m ops Q rest (bQ fr d (.loc Γ.length 0)) (Γ++[.box t cs])):GL P m ops Q (⟨d,.box t x,ty,pos,af,none⟩::rest) fr Γ:=fun B K W w l N R j=>by
 have⟨n,z,v⟩:=(j.ev x).cells hx
 refine WL.box rfl fun b k S=>?_
 rw[z]at S;have C:=R.add S v;exact zcN
def oset:ap->Nat->Ob->ap
 |[],_,_=>[]
 |_::l,0,x=>x::l
 |y::l,n+1,x=>y::oset l n x
theorem bU(l:ap)(i:Nat)(x:Ob):oset l i x=l.set i x:=by
 induction l generalizing i with
 |nil=>rfl
 |cons y l q=>cases i with|zero=>rfl|succ i=>simp[oset,q]
def xG:∀(us:List Value)(vs:List Value)(o:Nat),setL vs.toArray o us=(mT vs o us).toArray
 |[],vs,o=>rfl
 |u::us,vs,o=>by rw[setL,mT,xN];exact xG us _ _
theorem GL.st{x y:Operand}{t:TypeId}{agg:Bool}{k:Nat}[T:Ty P t agg k]{i o:Nat}{E:TypeId}{cs gs:am}(hx:bd fr x=.loc i o)(n:Γ[i]?=some (.box E cs))(M:mI (bd fr y)=some gs)(W:gs.length=k)(C:nW gs=true)
  (hl:Nat.ble (o+k) cs.length=true)(h:GL P m ops Q rest (bQ fr d (.v undef)) (oset Γ i (.box E (pF cs o gs)))):GL P m ops Q (⟨d,.store t x y,ty,pos,af,none⟩::rest) fr Γ:=fun B K O w l I u q=>by
 have r:=q.ev x;rw[hx]at r;generalize J:ev l x=v at r
 cases r with
 |loc _ _ b z =>
  have⟨R,vs,s,F,G,S⟩:=u.ob i _ n;rw[z]at s;cases s;have⟨us,e,j⟩:=(q.ev y).cells M
  have H:o+k<=cs.length:=by simp_all
  refine WL.st (t:=t) J rfl F zfk zfk (by rw[e];simpa using j.lI C) fun N A=>?_
  rw[e,List.toList_toArray,xG]at A;have c:=u.store n z A (j.mT o G);rw[<-bU]at c;exact h B K O N _ I c (q.put d (.v _))
def chunk:Nat->Nat->am->List am
 |0,_,_=>[]
 |n+1,k,s=>s.take k::chunk n k (s.drop k)
theorem vS{k:Nat}:∀(n:Nat)(gs:am),gs.length=n*k->(chunk n k gs).flatten=gs/\(chunk n k gs).length=n/\∀r∈chunk n k gs,r.length=k/\∀g∈r,g∈gs
 |0,gs,h=>by
  grind[chunk]
 |n+1,gs,h=>by
  have G:k<=gs.length:=by grind
  have⟨z,v,I⟩:=vS (k:=k) n (gs.drop k) zfk
  grind[flatten_cons,List.take_append_drop,List.length_cons,List.mem_of_mem_take,List.mem_of_mem_drop,chunk]
def zs:Nat->List Value->am
 |0,_=>[]
 |n+1,z=>gO z++zs n z
theorem Bg{K:Fz}{β:Bt}{n k:Nat}{z:List Value}(E:z.length=k)(G:0<k):bJ K β ((List.range (n*k)).map fun j=>z.getD (j%k) undef) (zs n z):=by
 induction n with
 |zero=>grind[zs]
 |succ n q =>
  have e:(List.range ((n+1)*k)).map (fun j=>z.getD (j%k) undef)=(List.range k).map (fun j=>z.getD (j%k) undef)++(List.range (n*k)).map fun j=>z.getD (j%k) undef:=by
   simp[Nat.succ_mul,Nat.add_comm,List.range_add,jH,List.map_map,List.map_congr_left]
  rw[e,zs];refine bJ.app ?_ q
  have:(List.range k).map (fun j=>z.getD (j%k) undef)=z:=by
   apply List.ext_getElem
   ·simp[E]
   grind[Nat.mod_eq_of_lt,cq]
  rw[this];exact bJ.self
theorem GL.VZ{t e:TypeId}{k:Nat}{z:List Value}[H:nS P t e k z]{n:Nat}{parts:List (Nat × Operand)}{cs:am}(hn:Nat.ble (n*k) 16777216=true)(hf:yd (fun i=>some (i*k,k)) (zs n z) (parts.map fun x=>(x.1,bd fr x.2))=some cs)
  (u:Nat.beq cs.length (n*k)=true)(R:oA cs=true)(h:GL P m ops Q rest (bQ fr d (.sl k (chunk n k cs))) Γ):GL P m ops Q (⟨d,.buildSlice t n parts.toArray,ty,pos,af,none⟩::rest) fr Γ:=fun B K β w l N S q=>by
 have⟨I,G,v⟩:=vX q parts _ _ cs (Bg (n:=n) H.zl H.pos) hf
 have A:cs.length=n*k:=by simp_all
 refine WL.BW (by simp_all) G fun b s c=>?_
 have⟨T,C⟩:=S.ud c v (mO R);have⟨O,W,E⟩:=vS n cs A;refine h B _ β s _ N C ((q.mono T (dO.refl β)).put d ?_)
 have M:gL k (chunk n k cs):=fun r o=>⟨(E r o).1,fun g F=>mO R g ((E r o).2 g F)⟩
 have:=Rel.sl (K:=j4 K b cs) (β:=β) b 0 n k (chunk n k cs) (fun i r o=>⟨(M r (bR o)).1,fun j g F=>by
  rw[gW];grind[Sa,rR]⟩) zfn
 grind
theorem GL.Zk{t e:TypeId}{k:Nat}{z:List Value}[s:nS P t e k z]{n:Nat}{parts:List (Nat × Operand)}{cs:am}(hn:Nat.ble (n*k) 16777216=true)(hf:yd (fun i=>some (i*k,k)) (zs n z) (parts.map fun x=>(x.1,bd fr x.2))=some cs)
  (hl:Nat.beq cs.length (n*k)=true)(O:oA cs=true)(h:GL P m ops Q rest (bQ fr d (.vec Γ.length n)) (Γ++[.vec e k 0 (chunk n k cs)])):GL P m ops Q (⟨d,.buildSlice t n parts.toArray,ty,pos,af,none⟩::rest) fr Γ:=fun B K β w l M F E=>by
 have⟨R,I,h2⟩:=vX E parts _ _ cs (Bg (n:=n) s.zl s.pos) hf
 have v:cs.length=n*k:=by simp_all
 have o:n*k<=16777216:=by simp_all
 have N:n<=16777216:=ju (Nat.le_mul_of_pos_right n s.pos) o
 refine WL.BW o I fun b S c=>?_
 have⟨W,H,C⟩:=vS n cs v
 have j:gL k (chunk n k cs):=fun r G=>⟨(C r G).1,fun g J=>mO O g ((C r G).2 g J)⟩
 have A:=ik.V9 c (n:=n) (k:=k) zfn zfz;have q:=F.Bo (x:=.slice (some ⟨b,0,none⟩) n n) (xs:=R) (rows:=chunk n k cs) c.ext (by rw[H];exact A.base (bj _)) (fun T u=>by cases u;rw[c.fresh];simp) zfk j;refine h B K _ S _ M q ((E.mono (c7.refl K) (iL (by rw[F.out _ (a8 _)];trivial))).put d ?_);exact .vec _ n _ n ⟨_,_,bV,by omega,fun _=>rfl⟩
def P7(x:Operand)(t:Tmp):Bool :=
 match x with
 |.tmp O=>!Nat.beq O t
 |_=>true
theorem UN{l:List Value}{x:Operand}{t:Tmp}(h:P7 x t=true)(u:Value):ev (put l (some t) u) x=ev l x:=by
 cases x with
 |tmp O=>exact oT (fun e=>by simp_all[P7]) u
 |_=>rfl
theorem GL.push{x s:Operand}{t e k E:Nat}{z:List Value}[hT:lP P t e k E][hZ:nS P t e k z]{C:Tmp}{NU:TypeId}{J:String}{R:Array Edge}{i n fz:Nat}{rows:List am}{gs:am}
  (hx:mI (bd fr x)=some gs)(hk:Nat.beq gs.length k=true)(h1:nW gs=true)(hp:oA gs=true)(hs:bd fr s=.vec i n)(hsd:P7 s C=true)(hd:gN fr C=true)(I:Γ[i]?=some (.vec e k fz rows))(hn:rows.length=n)
  (S:(n+1<=9223372036854775807/\(n+1)*E<=140737488355328)/\k<=16777216)
  (h:GL P m ops Q rest (bQ (bQ fr (some C) U) d (.vec i (n+1))) (oset Γ i (.vec e k fz (rows++[gs])))) :
  GL P m ops Q (⟨some C,.buildSlice t 1 #[(0,x)],NU,J,R,none⟩::⟨d,.call ⟨.builtin .append,#[s,.tmp C],#[t,t]⟩,ty,pos,af,none⟩::rest) fr Γ:=fun B K β w l hm hI N=>by
 subst hn;have⟨us,VC,Mp⟩:=(N.ev x).cells hx;have⟨h0,xs,o1,O,o3,o4,o5,o6⟩:=hI.ob i _ I;have A:=N.ev s;rw[hs]at A
 have HY:ev l s=h0:=by
  generalize hv:ev l s=v at A
  cases A with
  |vec _ _ a c hh =>
   grind
 have Q2:=mJ N hd
 have HS:gs.length=k:=by simp_all
 refine WL.push (base:=0) (v:=h0) (vs:=us) (val:=ev l x) (xs:=xs) (n:=rows.length) rfl (fun u=>by grind[UN]) (fun u=>sM Q2 u) VC zfn (Mp.lI h1) O S.1.1 S.1.2 S.2 (bj _) ?_;intro u v' w' q G HP xj
 obtain⟨K',hK,CP,F⟩:=hI.grow I o1 ⟨O,o3⟩ (news:=[gs]) (ns:=us) q G HP zfk (fun r hr=>by grind[mO]) zfm (fun b j o v ho hv=>by
  rcases xj with M|M
  ·exact M.c hv (fun h=>h)
  ·have Au:o<xs.length:=by rw[O.1];exact Bf ho (rF k o6)
   have⟨b2,c2,xg,_,_,yR⟩:=O.cells.2 zfk
   have T:b2=b:=by rw[xg]at j;cases j;rfl
   subst T;have H:=yR o xs[o] (by simp[Au]);rw[fZ,hv]at H;cases H;have⟨b3,c3,Ve,_,_,YO⟩:=q.cells.2 zfA
   have W:b3=b2:=by rw[Ve,j]at M;cases M;rfl
   subst W
   rw[<-fZ];grind)
 rw[<-bU]at F;refine h B K' _ w' _ hm F (((N.mono hK CP).put (some C) (.U u)).put d ?_);obtain⟨a,c,rfl⟩:=q.shape;exact .vec i _ a c ⟨_,_,bV,by simp,fun _=>rfl⟩
theorem Wk.BZ{t:Nat}{a:Option Addr}{c:Nat}(E k:Nat)(H:cQ fr t=.v (.slice none 0 0)):Wk m fr Γ (bN fr t (.vec Γ.length 0)) (Γ++[.vec E k 0 []]):=fun B K W w l N R j=>by
 have u:W Γ.length=.no:=R.out _ (a8 _);have C:=R.Bo (w':=w) (E:=E) (k:=k) (x:=.slice none 0 0) (xs:=[]) (rows:=[]) (Ext.refl w) (ik.nil w 0 E k) (fun b s=>by cases s) bJ.nil (fun r q=>by cases q);refine⟨K,_,C,?_⟩;have o:=j.mono (c7.refl K) (iL (i:=Γ.length) (x:=.gr (.slice none 0 0) ([]:List am).length) zfO);have O:nth l t=.slice none 0 0:=Rel.fx (by rw[<-H];exact j.nth t)
 have e:∀(l:List Value)(t:Nat)(v:Value),nth l t=v->(∃a n c,v=.slice a n c)->eN l t v=l:=by
  intro l
  induction l with
  |nil=>grind[eN]
  |cons x l F =>
   intro t v z A
   cases t with
   |zero=>grind[nth,eN]
   |succ t=>grind[nth,eN]
 have:=o.eN t (v:=.slice none 0 0) (g:=.vec Γ.length 0) (.vec _ 0 none 0 ⟨_,_,bV,a8 _,fun _=>rfl⟩)
 simp_all
theorem wJ{l:List Value}{t:Nat}(h:gN l t=true):eN l t (nth l t)=l:=by
 induction l generalizing t with
 |nil=>cases h
 |cons x l q=>cases t with|zero=>rfl|succ t=>simp only[eN,nth];rw[q h]
theorem Wk.iC{t i n E k fz:Nat}{rows:List am}(ht:cQ fr t=.vec i n)(HR:gN fr t=true)(s:Γ[i]?=some (.vec E k fz rows))(hn:rows.length=n):Wk m fr Γ (bN fr t (.sl k rows)) (oset Γ i (.vec E k n rows)):=fun B K F w l hm M J=>by
 subst hn;have⟨h0,xs,N,o2,o3,O,o5,o6⟩:=M.ob i _ s;have⟨G,hK,z,e⟩:=M.iC s;rw[<-bU]at e;refine⟨G,F,e,?_⟩;have b:=J.nth t;rw[ht]at b
 have o:Rel G F (nth l t) (.sl k rows):=by
  generalize nth l t=v at b
  cases b with
  |vec _ _ a c hh =>
   have⟨h',m',H,e2,S⟩:=hh;rw[N]at H;cases H;have I:=S rfl
   rcases o2.2 with⟨u,T⟩|⟨g,R,cu,u,_,_,C,_⟩
   ·have:rows=[]:=ky T;subst this;exact .sl0 _ _ _
   ·rw[u]at I;cases I;refine .sl g 0 _ k rows (fun j r b=>⟨(O r (bR b)).1,fun q W A=>?_⟩) C;rw[gW];exact z _ g N (by rw[u];rfl) _ W (rR O b A)
 have:=(J.mono hK (dO.refl F)).eN t o
 grind[wJ,mJ]
def og(i:Nat)(cs:am):GV->GV
 |.loc j o=>match Nat.beq j i with
  |true=>.box cs o
  |false=>.loc j o
 |g=>match g.ok (other i)with
  |true=>g
  |false=>.U
theorem Rel.frz{K O:Fz}{β:Bt}{i b:Nat}{cs:am}{x:Value}{g:GV}(h:Rel K β x g)(G:c7 K O)(t:β i=.fix b)(u:∀(j:Nat)g,cs[j]?=some g->O b j=some g):Rel O (dH (other i) β) x (og i cs g):=by
 have I:∀{g:GV},Rel K β x g->Rel O (dH (other i) β) x (match g.ok (other i)with|true=>g|false=>.U):=by
  intro g h;split
  ·rename_i S;exact(h.mono G (dO.refl β)).res S
  ·exact .U _
 cases g with
 |loc j o =>
  simp only[og];split
  ·rename_i s
   have s:j=i:=by simp_all
   subst s
   cases h with
   |loc _ _ k r =>
    rw[t]at r;cases r;have:=Rel.box (K:=O) (β:=dH (other j) β) b 0 o cs (fun q g F=>by grind)
    grind
  ·rename_i s
   have s:j≠i:=by intro e;simp_all
   exact(h.mono G (dO.refl β)).res (vn s)
 |_=>exact I h
def pf(i:Nat)(cs:am):am->am
 |[]=>[]
 |g::s=>og i cs g::pf i cs s
theorem Wk.freeze{i:Nat}{E:TypeId}{cs:am}(n:Γ[i]?=some (.box E cs))(S:oA cs=true)(u:qz (other i) (oset Γ i .gone)=true)(N:m<=i):Wk m fr Γ (pf i cs fr) (oset Γ i .gone):=fun B K W w l o R j=>by
 rw[bU]at u |-;have⟨b,r,z,v,I,k⟩:=R.ob i _ n;have⟨O,e,c,C⟩:=R.freeze n (mO S) u zfn;refine⟨O,_,C,?_⟩;clear R C u n
 induction j with
 |nil=>exact .nil
 |cons h t q=>exact .cons (h.frz e z (c b z)) q
end
def cR:List Nat->Nat->Nat->Nat
 |[],n,j=>n+j
 |i::_,_,0=>i
 |_::r,n,j+1=>cR r n j
def fE:ap->List Nat->ap->ap
 |Γ,[],l=>Γ++l
 |Γ,_::_,[]=>Γ
 |Γ,i::r,x::l=>fE (oset Γ i x) r l
def kp:List Nat->Nat->Bool
 |[],_=>true
 |i::r,n=>Nat.blt i n&&!(r.contains i)&&kp r n
section
variable{bf:List Nat}
theorem B9{n j:Nat}(h:bf.length<=j):cR bf n j=n+(j-bf.length):=by
 induction bf generalizing j with
 |nil=>rfl
 |cons i r q =>
  cases j with
  |zero=>simp at h
  |succ j=>grind[cR]
theorem TF{n j:Nat}(h:j<bf.length):∃i∈bf,cR bf n j=i:=by
 induction bf generalizing j with
 |nil=>simp at h
 |cons i r q =>
  cases j with
  |zero=>simp[cR]
  |succ j=>have⟨x,z,v⟩:=q (j:=j) zfk;grind[cR]
theorem E7{n:Nat}(h:kp bf n=true):∀i∈bf,i<n:=by
 induction bf with
 |nil=>simp
 |cons x r q =>
  simp_all[kp,a6,List.mem_cons]
theorem zN{n:Nat}(h:kp bf n=true):∀{j C:Nat},cR bf n j=cR bf n C->j=C:=by
 induction bf with
 |nil=>simp[cR]
 |cons x r q =>
  have k:=E7 h;simp only[kp,a6,Bool.not_eq_true']at h
  have hx:∀j,cR r n j≠x:=fun j e=>by
   by_cases o:j<r.length
   ·have⟨i,M,v⟩:=TF (n:=n) o
    grind
   ·have:=B9 (n:=n) (Nat.le_of_not_lt o);have:=k x zfm;omega
  intro j C e
  cases j with
  |zero=>cases C with
   |zero=>rfl
   |succ C=>exact absurd e.symm (hx C)
  |succ j=>cases C with
   |zero=>exact absurd e (hx j)
   |succ C=>rw[q h.2 e]
theorem Gy{n:Nat}:∀{Γ xs:ap},Γ.length=n->kp bf n=true->bf.length<=xs.length ->
  (∀j,(fE Γ bf xs)[cR bf n j]?=xs[j]?)/\(∀i,(∀j,cR bf n j≠i)->(fE Γ bf xs)[i]?=Γ[i]?)/\(fE Γ bf xs).length=n+(xs.length-bf.length):=by
 induction bf with
 |nil =>
  intro Γ xs R _ _;refine⟨fun j=>?_,fun i M=>?_,by simp[fE,R]⟩
  ·grind[fE,cR]
  ·simp only[fE,cR]at M |-
   by_cases l:i<n
   ·grind
   ·exact absurd zfn (M (i-n))
 |cons x r q =>
  intro Γ xs R k W;have Vj:=@zN (x::r) n k;have l:=E7 k x zfm
  cases xs with
  |nil=>simp at W
  |cons y I =>
   simp only[kp,a6,Bool.not_eq_true']at k;have⟨z,v,J⟩:=q (Γ:=oset Γ x y) (xs:=I) zfw k.2 zfk
   have hx:∀j,cR r n j≠x:=fun j o=>by
    have:=@Vj (j+1) 0 o;omega
   refine⟨fun j=>?_,fun i M=>?_,by grind[fE]⟩
   ·cases j with
    |zero =>
     simp only[fE,cR];rw[v x hx,bU,iY];grind
    |succ j=>simp only[fE,cR];exact z j
   ·simp only[fE];rw[v i (fun j=>M (j+1)),bU,iY];rw[ab (by intro e;exact M 0 e)]
end
def gP.AR{K:Fz}{β:Bt}{w:World}{f:Nat->Nat}{j:Nat}{x:Ob}(h:gP K β w (f j) (x.eM f)):gP K (fun j=>β (f j)) w j x:=by
 cases x with
 |gone=>exact h
 |box E t =>
  have⟨b,s,z,A,I,c⟩:=h;rw[ll]at I;exact⟨b,s,z,A,⟨by grind,fun i v g F H=>(I.2 i v (eM f g) F zfk).AR⟩,c⟩
 |vec E k e l =>
  have⟨M,o,z,A,I,c,F⟩:=h;refine⟨M,o,z,A,⟨I.1,fun i v g H W=>(I.2 i v g H W).pc ?_⟩,c,F⟩;exact zbz
 |vech E k l x =>
  have⟨o,z,A,I,c,F⟩:=h;refine⟨o,z,A,⟨I.1,fun i v g H W=>(I.2 i v g H W).pc ?_⟩,c,F⟩;exact zbz
 |lost=>exact h
 |blk b q=>exact h
 |blob q=>exact h
def gP.Ba{K:Fz}{β:Bt}{w:World}{f:Nat->Nat}{j:Nat}{x:Ob}(h:gP K (fun j=>β (f j)) w j x):gP K β w (f j) (x.eM f):=by
 cases x with
 |gone=>exact h
 |box E t =>
  have⟨b,u,z,A,I,e⟩:=h;refine⟨b,u,z,A,?_,e⟩;rw[ll];refine⟨by grind,fun i v g F H=>?_⟩;rw[b6]at H
  cases s:t[i]? with
  |none=>grind
  |some c=>rw[s]at H;cases H;exact(I.2 i v c F s).Ba
 |vec E k C l =>
  have⟨M,o,z,A,I,e,F⟩:=h;refine⟨M,o,z,A,⟨I.1,fun i v g H W=>(I.2 i v g H W).pc ?_⟩,e,F⟩;exact zez
 |vech E k l x =>
  have⟨o,z,A,I,e,F⟩:=h;refine⟨o,z,A,⟨I.1,fun i v g H W=>(I.2 i v g H W).pc ?_⟩,e,F⟩;exact zez
 |lost=>exact h
 |blk b q=>exact h
 |blob q=>exact h
section
variable{K:Fz}{β:Bt}{Γ:ap}{w:World}{B:Bs}
theorem Inv.enter{bf:List Nat}{u:ap}(h:Inv B K β Γ w)(k:kp bf Γ.length=true)(W:u.length=bf.length)(n:∀j x,u[j]?=some x->Γ[cR bf Γ.length j]?=some (x.eM (cR bf Γ.length))) :
  Inv (cur K (fun j=>β (cR bf Γ.length j)) u w) K (fun j=>β (cR bf Γ.length j)) u w:=by
 have t:∀i,u.length<=i->β (cR bf Γ.length i)=.no:=fun i M=>by
  rw[B9 zfn];exact h.out _ zfn
 exact⟨Ext.refl w,c7.refl K,dO.refl _,t,h.fz,fun i x M=>(h.ob _ _ (n i x M)).AR,t,fun i j b M o=>zN k (h.dis _ _ b M o),fun i b r=>.inl ⟨i,r⟩,fun _ _ _ h=>.inl h,h.tab.step (S:=fT) (Ext.refl w) (fun _ h=>h.elim) (c7.refl K) (fun i T v=>.inl ⟨_,v⟩)⟩
theorem Inv.leave{bf:List Nat}{T u:ap}{W:Fz}{v:Bt}{w':World}(h:Inv B K β Γ w)(S:kp bf Γ.length=true)(hl:T.length=bf.length)(hl':bf.length<=u.length)
  (s:Inv (cur K (fun j=>β (cR bf Γ.length j)) T w) W v u w') :
  ∃fu,c7 K W/\dO β fu/\(∀j,fu (cR bf Γ.length j)=v j)/\Inv B W fu (fE Γ bf (u.map (Ob.eM (cR bf Γ.length)))) w':=by
 have⟨s1,s2,s3⟩:=Gy (bf:=bf) (n:=Γ.length) (Γ:=Γ) (xs:=u.map (Ob.eM (cR bf Γ.length))) rfl S zfk;rw[bI]at s3;generalize hf:cR bf Γ.length=f at *
 have Vj:∀{j M},f j=f M->j=M:=by subst hf;exact zN S
 have Mb:∀j,bf.length<=j->f j=Γ.length+(j-bf.length):=fun j C=>by subst hf;exact B9 C
 have R:∀i,Γ.length<=i->f (bf.length+(i-Γ.length))=i:=fun i l=>by grind
 have⟨fu,e,t⟩:∃fu:Bt,(∀j,fu (f j)=v j)/\∀i,(∀j,f j≠i)->fu i=β i:=by
  classical
  refine⟨fun i=>if h:∃j,f j=i then v (Classical.choose h)else β i,fun j=>?_,fun i l=>?_⟩
  ·have hex:∃M,f M=f j:=⟨j,rfl⟩
   grind
  grind
 have H:dO β fu:=fun i=>by
  by_cases l:∃j,f j=i
  ·obtain⟨j,rfl⟩:=l;rw[e];exact s.ble j
  grind[kz.refl]
 have z:∀b,blocks (fun j=>β (f j)) b->blocks β b:=fun b ⟨j,C⟩=>⟨f j,C⟩
 have G:∀i b,(fu i).has b->blocks β b\/w.heap.size<=b:=fun i b A=>by
  by_cases l:∃j,f j=i
  ·obtain⟨j,rfl⟩:=l;rw[e]at A;exact(s.own j b A).imp (z b) id
  grind[blocks]
 have F:∀i b,(∀j,f j≠i)->(β i).has b->¬blocks (fun j=>β (f j)) b:=fun i b l A ⟨j,C⟩=>l j (h.dis _ _ b C A)
 refine⟨fu,s.kle,H,e,h.Nr (Zt:=Γ) ?_⟩;refine⟨s.ext.mono (fun k _ hk=>z k hk),s.kle,H,h.out,s.fz,fun i x l=>?_,fun i l=>?_,fun i J b l r=>?_,G,fun b o g hg=>?_,⟨s.tab.le,s.tab.pow,s.tab.spc,fun i b A=>(G i b A).elim (fun⟨j,C⟩=>h.tab.free j b C) (fun hs=>⟨by have:=h.tab.pow.lt;omega,by have:=h.tab.spc.lt;omega⟩)⟩⟩
 ·by_cases C:∃j,f j=i
  ·obtain⟨j,rfl⟩:=C;rw[s1 j,b6]at l
   cases hc:u[j]? with
   |none=>grind
   |some c =>
    rw[hc]at l;cases l;refine gP.Ba ?_;have:=s.ob j c hc;rw[show(fun j=>fu (f j))=v from funext e];exact this
  ·have E:∀j,f j≠i:=fun j h=>C ⟨j,h⟩
   rw[s2 i E]at l;refine(h.ob i x l).ext s.ext (fun b A=>F i b E A) s.kle H (t i E) (fun b o A hk=>?_)
   cases HS:W b o with
   |none=>rfl
   |some g =>
    rcases s.kn b o g HS with q|q|q
    ·have q:K b o=some g:=q
     grind
    ·exact absurd q (F i b E A)
    ·have:=h.lt A;have q:w.heap.size<=b:=q;omega
 ·rw[s3]at l;have I:=R i zfn;rw[<-I,e];exact s.out _ zfn
 ·by_cases I:∃j,f j=i<;>by_cases h2:∃j,f j=J
  ·obtain⟨j,rfl⟩:=I;obtain⟨M,rfl⟩:=h2;rw[e]at l r;rw[s.dis j M b l r]
  ·obtain⟨j,rfl⟩:=I
   have O:∀j,f j≠J:=fun j h=>h2 ⟨j,h⟩
   rw[e]at l;rw[t J O]at r
   rcases s.own j b l with q|q
   ·exact absurd q (F J b O r)
   ·have:=h.lt r;have q:w.heap.size<=b:=q;omega
  ·obtain⟨j,rfl⟩:=h2
   have N:∀j,f j≠i:=fun j h=>I ⟨j,h⟩
   rw[e]at r;rw[t i N]at l
   rcases s.own j b r with q|q
   ·exact absurd q (F i b N l)
   ·have:=h.lt l;have q:w.heap.size<=b:=q;omega
  ·rw[t i (fun j h=>I ⟨j,h⟩)]at l;rw[t J (fun j h=>h2 ⟨j,h⟩)]at r;exact h.dis i J b l r
 ·rcases s.kn b o g hg with q|q|q
  ·exact .inl q
  ·exact .inr (.inl (z b q))
  ·exact .inr (.inr q)
end
section
variable{P:Program}{m:Nat}{Q:dF}{fr:am}{Γ:ap}{ops:Array Oper}{rest:List Oper}{d:Option Tmp}{op:Op}{ty:TypeId}{pos:String}{af:Array Edge}
def seen(f:Nat->Nat)(Γ:ap):List Nat->ap->Prop
 |[],[]=>True
 |i::r,x::l=>Γ[i]?=some (x.eM f)/\seen f Γ r l
 |_,_=>False
theorem C9{f:Nat->Nat}{Γ:ap}{n:Nat}:∀{bf:List Nat}{u:ap},seen f Γ bf u->u.length=bf.length/\∀j x,u[j]?=some x->Γ[cR bf n j]?=some (x.eM f)
 |[],[],_=>⟨rfl,fun j x h=>by simp at h⟩
 |i::r,y::J,h=>by
  have⟨z,v⟩:=h;have⟨I,c⟩:=C9 (n:=n) v;refine⟨by simp[I],fun j x hx=>?_⟩
  cases j with
  |zero=>grind[cR]
  |succ j=>exact c j x hx
 |[],_::_,h=>h.elim
 |_::_,[],h=>h.elim
theorem GL.calls{f:FuncId}{bf:List Nat}{gs:am}{e:ap}{R:GV->ap->Prop}{vs:List Value->List Value}(s:∀K β w l,FR K β fr l->bJ K β (vs l) (mP (cR bf Γ.length) gs)/\(execOp (ev l) ⟨d,op,ty,pos,af,none⟩).run P w=.ok (.enter f (vs l).toArray) w)
  (c:kp bf Γ.length=true)(t:seen (cR bf Γ.length) Γ bf e)(O:GC P f gs e R)
  (h:∀g bO,R g bO->bf.length<=bO.length/\GL P m ops Q rest (bQ fr d (eM (cR bf Γ.length) g)) (fE Γ bf (bO.map (Ob.eM (cR bf Γ.length))))) :
  GL P m ops Q (⟨d,op,ty,pos,af,none⟩::rest) fr Γ:=fun B K β w l S A z=>by
 have⟨E,T⟩:=C9 (n:=Γ.length) t;have⟨C,s⟩:=s K β w l z;have q:=A.enter c E T
 have b:bJ K (fun j=>β (cR bf Γ.length j)) (vs l) gs:=by
  rw[ll]at C;exact⟨by grind,fun i v g I h6=>(C.2 i v (eM _ g) I zfk).AR⟩
 refine WL.calls s (O _ K _ w _ rfl q b) ?_;rintro v w'⟨H,G,g,bO,k,F,N⟩;have⟨r,h⟩:=h g bO N;have⟨u,M,J,W,o⟩:=A.leave c E r k;refine h B H u w' _ S o ((z.mono M J).put d (Rel.Ba ?_))
 simp_all
def GL.vQ{f:FuncId}[hf:gM P f](bf:List Nat){x:Operand}{first C:am}{args:List Operand}{e:Array TypeId}{gs:am}{u:ap}{R:GV->ap->Prop}(q:GC P f gs u R)(hx:bd fr x=.fn (.func f) first C)(ha:first++args.map (bd fr)++C=mP (cR bf Γ.length) gs)(k:kp bf Γ.length=true)
  (n:seen (cR bf Γ.length) Γ bf u)(h:∀g bO,R g bO->bf.length<=bO.length/\GL P m ops Q rest (bQ fr d (eM (cR bf Γ.length) g)) (fE Γ bf (bO.map (Ob.eM (cR bf Γ.length))))) :
  GL P m ops Q (⟨d,.call ⟨.value x,args.toArray,e⟩,ty,pos,af,none⟩::rest) fr Γ :=
 GL.calls (vs:=fun l=>match ev l x with|.func _ a c=>a.toList++args.map (ev l)++c.toList|_=>[]) (fun K β w l j=>by
  have i:=j.ev x;rw[hx]at i;generalize N:ev l x=v at i
  cases i with
  |fn _ r J _ _ z A I o =>
   refine⟨?_,?_⟩
   ·rw[<-ha];exact(bJ.app (bJ.app ⟨z,I⟩ (j.args args)) ⟨A,o⟩)
   ·simp[execOp,resolve,N,Deferred.ofValue,invoke,oC]) k n q h
def GL.Xj{f:FuncId}[hf:gM P f](bf:List Nat){x:Operand}{args:List Operand}{e:Array TypeId}{gs:am}{u:ap}{R:GV->ap->Prop}(o:GC P f gs u R)(hx:bd fr x=.v (.func (.func f) #[] #[]))(ha:args.map (bd fr)=mP (cR bf Γ.length) gs)(k:kp bf Γ.length=true)
  (n:seen (cR bf Γ.length) Γ bf u)(h:∀g bO,R g bO->bf.length<=bO.length/\GL P m ops Q rest (bQ fr d (eM (cR bf Γ.length) g)) (fE Γ bf (bO.map (Ob.eM (cR bf Γ.length))))) :
  GL P m ops Q (⟨d,.call ⟨.value x,args.toArray,e⟩,ty,pos,af,none⟩::rest) fr Γ :=
 GL.calls (vs:=fun l=>args.map (ev l)) (fun K β w l j=>⟨by rw[<-ha];exact j.args args,by
  have N:=j.fC hx
  simp[execOp,resolve,N,Deferred.ofValue,invoke,oC]⟩) k n o h
end
def oi(ops:List Oper)(fr:am):Nat->Option (Option Bool):=fun j =>
 match gN ops j,(q9 ops j).dst with
 |true,some t=>match gN fr t,cQ fr t with
  |true,.v (.bool c)=>some (some c)
  |true,.v (.tuple _)=>some none
  |_,_=>none
 |_,_=>none
section
variable{P:Program}{m:Nat}{Q:dF}{fr:am}{Γ:ap}{ops:Array Oper}{rest:List Oper}{d:Option Tmp}{op:Op}{ty:TypeId}{pos:String}{af:Array Edge}
theorem u7{K:Fz}{β:Bt}{l:List Value}{j:Nat}{b:Bool}{c:Option Bool}(k:FR K β fr l)(h:oi ops.toList fr j=some c):tt (some (j,b)) ops.toList l=true/\gv ops.toList l (j,b)=c:=by
 unfold oi at h;split at h
 ·rename_i t z v;split at h
  ·rename_i R I e;cases h;have N:nth l t=.bool R:=Rel.fx (by rw[<-e];exact k.nth t);have W:=mJ k I
   grind[tt,gv]
  ·rename_i n I e;cases h;have N:nth l t=.tuple n:=Rel.fx (by rw[<-e];exact k.nth t);have W:=mJ k I
   grind[tt,gv]
  ·cases h
 ·cases h
def GL.gt{I:Nat × Bool}{c:Bool}(O:oi ops.toList fr I.1=some (some c))(o:c=I.2)(h:GL P m ops Q (⟨d,op,ty,pos,af,none⟩::rest) fr Γ):GL P m ops Q (⟨d,op,ty,pos,af,some I⟩::rest) fr Γ:=fun B K W w l N R j=>by
 have⟨z,v⟩:=u7 (b:=I.2) j O;exact Xw.GT z v o (h B K W w l N R j)
def GL.gf{I:Nat × Bool}{c:Bool}(O:oi ops.toList fr I.1=some (some c))(o:c=!I.2)(h:GL P m ops Q rest (bQ fr d (.v undef)) Γ):GL P m ops Q (⟨d,op,ty,pos,af,some I⟩::rest) fr Γ:=fun B K W w l N R j=>by
 have⟨z,A⟩:=u7 (b:=I.2) j O;exact Xw.GF z A o (h B K W w _ N R (j.put d (.v _)))
def GL.gu{I:Nat × Bool}(O:oi ops.toList fr I.1=some none)(h:GL P m ops Q rest (bQ fr d (.v undef)) Γ):GL P m ops Q (⟨d,op,ty,pos,af,some I⟩::rest) fr Γ:=fun B K W w l N R j=>by
 have⟨z,A⟩:=u7 (b:=I.2) j O;exact Xw.GU z A (h B K W w _ N R (j.put d (.v _)))
end
def gG(ops:List Oper)(fr:am):Option (Nat × Bool)->Option Bool
 |none=>some true
 |some (j,b)=>match oi ops fr j with
  |some (some c)=>some (c==b)
  |some none=>some false
  |none=>none
def HE{ops:Array Oper}{K:Fz}{β:Bt}{fr:am}{l:List Value}{o:Oper}{c:Bool}(k:FR K β fr l)(h:gG ops.toList fr o.guard=some c):Region.wanted o (yielded ops (act l).tmps)=c:=by
 have⟨d,op,ty,pos,af,I⟩:=o
 cases I with
 |none=>simp only[gG]at h;cases h;rfl
 |some I =>
  have⟨j,b⟩:=I;simp only[gG]at h;split at h
  ·rename_i R q;cases h;have⟨z,v⟩:=u7 (b:=b) k q;rw[vJ z]
   cases O:(R==b)with
   |true=>grind[N9]
   |false=>exact N8 v (by cases R<;>cases b<;>simp_all)
  ·grind[u7,vJ,Oa]
  ·cases h
def C4(P:Program)(o:Oper)(e:Operand->Value)(w:World)(z:Value->World->Prop):Prop :=
 match(execOp e o).run P w with
 |.ok (.value v) j=>z v j
 |.ok .skip j=>z undef j
 |.ok (.enter f args) j=>Calls P f args j fun e n=>∃v,e=.returned v/\z v n
 |.ok (.row row args) j=>Rows P row args j z
 |_=>False
section
variable{P:Program}{o:Oper}{a:Act}{w:World}{z:Value->World->Prop}{next:Act->World->Prop}{Q:Exit->Act->World->Prop}
theorem Wa(h:C4 P o a.eval w z)(hn:∀v w',z v w'->next (a.put o.dst v) w'):o.wp P a w next Q:=by
 unfold C4 at h;unfold Oper.wp;generalize(execOp a.eval o).run P w=r at *
 grind[Calls.mono,Rows.mono,Oper.upon]
theorem WV(h:o.wp P a w next Q)(I:∀c a w,¬Q (.panic c) a w)(s:∀a w,¬Q .outgrown a w)(hn:∀v w',next (a.put o.dst v) w'->z v w')
  (hd:∀d w',¬next ({ a with defers:=d::a.defers }.put o.dst undef) w'):C4 P o a.eval w z:=by
 unfold C4;unfold Oper.wp at h;generalize(execOp a.eval o).run P w=r at *
 cases r with
 |ok n w' =>
  cases n<;>simp only[Oper.upon]at h |-<;>first
   |exact hn _ _ h
   |exact Calls.mono h (fun e q i=>by
     cases e with
     |returned v=>grind
     |panicked c=>grind
     |outgrown=>have⟨C,T,t⟩:=i;grind)
   |exact Rows.mono h (fun _ _ N=>hn _ _ N)
   |grind
   |grind
 |halt x w' =>
  cases x<;>simp only[Oper.upon]at h
  grind
end
def dD(ts:List Nat):Nat->am->am
 |_,[]=>[]
 |k,g::s=>(match ts.contains k with|true=>g|false=>.U)::dD ts (k+1) s
def FR.mask{K:Fz}{β:Bt}{ts:List Nat}{fr:am}{l:List Value}(h:FR K β fr l):∀k,FR K β (dD ts k fr) l:=by
 induction h with
 |nil=>intro k;exact .nil
 |cons h t q =>
  intro k;rw[dD];split
  ·exact .cons h (q _)
  ·exact .cons (.U _) (q _)
theorem PN{ts:List Nat}{d:Option Tmp}{g:GV}(hd:∀t,d=some t->t ∉ ts)(fr:am):dD ts 0 (bQ fr d g)=dD ts 0 fr:=by
 cases d with
 |none=>rfl
 |some t =>
  have hd:=hd t rfl
  have I:∀(fr:am)(k t:Nat),k+t ∉ ts->dD ts k (bN fr t g)=dD ts k fr:=by
   intro fr
   induction fr with
   |nil=>intro k t _;rfl
   |cons x fr q =>
    intro k t h
    cases t with
    |zero =>
     grind[dD,bN]
    |succ t=>grind[dD,bN]
  grind[bQ]
section
variable{P:Program}{ops:Array Oper}
def YQ(P:Program)(ops:Array Oper)(i:Nat)(g:GV)(fr:am)(Γ:ap):Prop :=
 ∃o c,ops[i]?=some o/\gG ops.toList (dD (o.looksAt ops) 0 fr) o.guard=some c/\match c with
  |true=>V P o.op (dD (o.looksAt ops) 0 fr) Γ g
  |false=>g=.v undef
abbrev lG:=List (Nat × GV × am)
def GA(P:Program)(o:Oper)(C:GV->ap->Prop)(fr:am)(Γ:ap):Prop :=
 ∀B K W w l,Inv B K W Γ w->FR K W fr l->C4 P o (ev l) w fun v j=>∃O c g t,c7 K O/\dO W c/\Inv B O c t j/\(∀fr l,FR O c fr l->FR O c (bQ fr o.dst g) (put l o.dst v))/\C g t
def GI(P:Program)(ops:Array Oper)(i:Nat)(B:GV->ap->Prop)(fr:am)(Γ:ap):Prop :=
 ∃o c,ops[i]?=some o/\gG ops.toList fr o.guard=some c/\match c with
  |true=>GA P o B fr Γ
  |false=>B (.v undef) Γ
def mi(ops:Array Oper)(i:Nat):Option Tmp:=(ops[i]?).bind (·.dst)
def waits(ops:Array Oper)(i j:Nat):Bool:=match ops[i]? with
 |some o=>o.after.any fun e=>Region.binds .any e&&e.on==j
 |none=>false
def stay(ops:Array Oper)(i:Nat)(q:lG):lG:=q.filter fun p=>!waits ops i p.1
def qn(P:Program)(ops:Array Oper)(Q:am->ap->Prop):Nat->lG->Array Bool->am->ap->Prop
 |0,_,F,fr,Γ=>Region.ready .any ops F=[]/\Q fr Γ
 |n+1,q,F,fr,Γ=>(Region.ready .any ops F=[]->Q fr Γ) /\
   ∀i∈Region.ready .any ops F,GI P ops i (fun g t=>(∀p∈stay ops i q,YQ P ops p.1 p.2.1 p.2.2 t)/\qn P ops Q n (stay ops i q) (F.setIfInBounds i true) (bQ fr (mi ops i) g) t) fr Γ
theorem GA.mono{o:Oper}{C DP:GV->ap->Prop}{fr:am}{Γ:ap}(h:GA P o C fr Γ)(G:∀g bO,C g bO->DP g bO):GA P o DP fr Γ:=fun B K W w l R q=>by
 have:=h B K W w l R q;unfold C4 at *;generalize(execOp (ev l) o).run P w=r at *
 have i:∀v j,(∃O c g bO,c7 K O/\dO W c/\Inv B O c bO j/\(∀fr l,FR O c fr l->FR O c (bQ fr o.dst g) (put l o.dst v))/\C g bO)->∃O c g bO,c7 K O/\dO W c/\Inv B O c bO j/\(∀fr l,FR O c fr l->FR O c (bQ fr o.dst g) (put l o.dst v))/\DP g bO :=
  fun v j ⟨O,c,g,bO,z,A,I,k,F⟩=>⟨O,c,g,bO,z,A,I,k,G _ _ F⟩
 cases r with
 |ok n j=>cases n<;>simp only at this |-<;>first
   |exact i _ _ this
   |exact Calls.mono this (fun e t ⟨v,s,N⟩=>⟨v,s,i _ _ N⟩)
   |grind[Rows.mono]
   |exact this.elim
 |halt x j=>omega
theorem GI.mono{i:Nat}{B DP:GV->ap->Prop}{fr:am}{Γ:ap}(h:GI P ops i B fr Γ)(G:∀g bO,B g bO->DP g bO):GI P ops i DP fr Γ:=by
 grind[GA.mono,GI]
theorem qn.QQ{Q:am->ap->Prop}:∀(n:Nat)(q S:lG)(F:Array Bool)(fr:am)(Γ:ap),(∀p∈S,p∈q)->qn P ops Q n q F fr Γ->qn P ops Q n S F fr Γ
 |0,_,_,_,_,_,_,h=>h
 |n+1,q,S,F,fr,Γ,o,h=>⟨h.1,fun i N=>(h.2 i N).mono fun g t ⟨z,v⟩=>by
  have M:∀p∈stay ops i S,p∈stay ops i q:=fun p R=>by
   grind[stay]
  exact⟨fun p R=>z p (M p R),qn.QQ n _ _ _ _ _ M v⟩⟩
def qn.sound{m:Nat}{Q:am->ap->Prop}{B:Bs}{Q':dF}(N:B.m=m)(I:∀fr Γ,Q fr Γ->Q' .normal fr Γ):∀(n:Nat)(q:lG)(F:Array Bool)(fr:am)(Γ:ap)(K:Fz)(β:Bt)(w:World)(l:List Value),
  qn P ops Q n q F fr Γ->Inv B K β Γ w->FR K β fr l->wpAny P .any ops (lift (gl B Q')) n F (act l) w
 |0,_,_,fr,Γ,K,β,w,l,h,R,j=>⟨h.1,l,rfl,K,β,fr,Γ,R,j,I _ _ h.2⟩
 |n+1,q,F,fr,Γ,K,β,w,l,h,R,j=>by
  refine⟨fun M=>⟨l,rfl,K,β,fr,Γ,R,j,I _ _ (h.1 M)⟩,fun i T=>?_⟩;have⟨o,c,S,G,r⟩:=h.2 i T;have u:=HE j G;unfold wpOp;simp only[S,u]
  have s:mi ops i=o.dst:=by simp[mi,S]
  cases c with
  |true =>
   simp only[if_true];refine .inl (Wa (by rw[pO];exact r B K β w l R j) ?_);rintro v E⟨O,e,g,H,b,k,C,t,A,z⟩;rw[p9];rw[s]at z;exact qn.sound N I n _ _ _ _ O e E _ z C (t _ _ (j.mono b k))
  |false =>
   refine zdS ?_;rw[p9];have⟨A,z⟩:=r;rw[s]at z;exact qn.sound N I n _ _ _ _ K β w _ z R (j.put o.dst (.v _))
section
variable{fr:am}{t t':Nat}
theorem Gg(h:t'≠t)(g:GV):cQ (bN fr t g) t'=cQ fr t':=by
 induction fr generalizing t t' with
 |nil=>rfl
 |cons x l q=>cases t with
  |zero=>cases t' with|zero=>omega|succ t'=>rfl
  |succ t=>cases t' with|zero=>rfl|succ t'=>grind[cQ,bN]
theorem H8{g:GV}:gN (bN fr t g) t'=gN fr t':=by
 induction fr generalizing t t' with
 |nil=>rfl
 |cons x l q=>cases t with
  |zero=>cases t'<;>rfl
  |succ t=>cases t' with|zero=>rfl|succ t'=>exact q
end
theorem U2{o:Oper}{fr:am}{d:Option Tmp}{g:GV}(h:∀t,d=some t->t ∉ o.looksAt ops):gG ops.toList (bQ fr d g) o.guard=gG ops.toList fr o.guard:=by
 cases d with
 |none=>rfl
 |some t =>
  have h:=h t rfl;have⟨W,op,ty,pos,af,I⟩:=o
  cases I with
  |none=>rfl
  |some I =>
   have⟨j,b⟩:=I
   have B:∀O,gN ops.toList j=true->(q9 ops.toList j).dst=some O->O≠t:=fun O q l e=>by
    subst e;apply h;have r:=Iw ops.toList j (Ay q)
    grind[Oper.looksAt]
   have N:oi ops.toList (bN fr t g) j=oi ops.toList fr j:=by
    grind[gN,q9,H8,Gg,oi,bN]
   simp only[gG,bQ,N]
def YQ.at{i:Nat}{g:GV}{fr:am}{Γ:ap}{o:Oper}(h:YQ P ops i g fr Γ)(S:ops[i]?=some o){B:Bs}{K:Fz}{β:Bt}{w:World}{l:List Value}(R:Inv B K β Γ w)(j:FR K β fr l):∃v,Rel K β v g/\((Region.wanted o (yielded ops (act l).tmps)=true/\(execOp (ev l) o).run P w=.ok (.value v) w)\/(Region.wanted o (yielded ops (act l).tmps)=false/\v=undef)):=by
 have⟨G,c,z,A,I⟩:=h;rw[S]at z;cases z;have e:=HE (j.mask (ts:=o.looksAt ops) 0) A
 cases c with
 |true =>
  have⟨v,k,N⟩:=I B K β w l R (j.mask 0);exact⟨v,N,.inl ⟨e,by have⟨d,op,ty,pos,af,J⟩:=o;exact k d ty pos af⟩⟩
 |false=>subst I;exact⟨undef,.v _,.inr ⟨e,rfl⟩⟩
theorem GI.comm{i j:Nat}{g:GV}{F s:Oper}{C:GV->ap->Prop}{fr:am}{Γ:ap}(hi:ops[i]?=some F)(q:ops[j]?=some s)(e:F.apart ops s=true)(k:∀cs b,s.op≠.select cs b)(r:YQ P ops i g fr Γ)
  (h:GI P ops j C (bQ fr F.dst g) Γ):GI P ops j C fr Γ:=by
 have⟨a1,H,t⟩:=Oper.apart_spec e;have⟨o,c,z,A,I⟩:=h;rw[q]at z;cases z;rw[U2 a1]at A;refine⟨s,c,q,A,?_⟩
 cases c with
 |false=>exact I
 |true =>
  intro B K W w l R n;have⟨v,N,_⟩:=r.at hi R n;have:=I B K W w (put l F.dst v) R (n.put _ N)
  have u:execOp (ev (put l F.dst v)) s=execOp (ev l) s:=by
   have:=execOp_put s k (act l) F.dst v a1
   grind[p9,pO]
  unfold C4 at this |-
  grind
theorem qn.first{Q:am->ap->Prop}{i:Nat}{z:Oper}{g:GV}{s:am}(hi:ops[i]?=some z)(aal:∀(j:Nat)(o:Oper)cs b,ops[j]?=some o->o.op≠.select cs b) :
  ∀(n:Nat)(r:lG)(q:Array Bool)(fr:am)(Γ:ap),
   (∀j I,ops[j]?=some I->j≠i->q.getD j true=false->(∀e∈I.after,Region.binds .any e=true->e.on≠i)->z.apart ops I=true) ->
   i∈Region.ready .any ops q->dD (z.looksAt ops) 0 fr=dD (z.looksAt ops) 0 s->YQ P ops i g s Γ->(∀p∈r,YQ P ops p.1 p.2.1 p.2.2 Γ) ->
   qn P ops Q n ((i,g,s)::r) (q.setIfInBounds i true) (bQ fr z.dst g) Γ->qn P ops Q (n+1) r q fr Γ:=by
 have hd:mi ops i=z.dst:=by simp[mi,hi]
 have O:∀{fr:am}{Γ:ap},dD (z.looksAt ops) 0 fr=dD (z.looksAt ops) 0 s->YQ P ops i g s Γ->YQ P ops i g fr Γ:=by
  rintro fr Γ hm⟨o,c,M,h2,T⟩;rw[hi]at M;cases M;exact⟨z,c,hi,by grind,by grind⟩
 have self:∀(n:Nat)(r:lG)(q:Array Bool)(fr:am)(Γ:ap),dD (z.looksAt ops) 0 fr=dD (z.looksAt ops) 0 s->YQ P ops i g s Γ->(∀p∈r,YQ P ops p.1 p.2.1 p.2.2 Γ) ->
   qn P ops Q n ((i,g,s)::r) (q.setIfInBounds i true) (bQ fr z.dst g) Γ ->
   GI P ops i (fun g J=>(∀p∈stay ops i r,YQ P ops p.1 p.2.1 p.2.2 J)/\qn P ops Q n (stay ops i r) (q.setIfInBounds i true) (bQ fr (mi ops i) g) J) fr Γ:=by
  intro n r q fr Γ F hy N H
  have S:∀p∈stay ops i r,p∈r:=fun p N=>by grind[stay]
  have H':qn P ops Q n (stay ops i r) (q.setIfInBounds i true) (bQ fr (mi ops i) g) Γ:=by
   grind[qn.QQ,ey]
  have⟨o,c,M,h2,T⟩:=O F hy;rw[hi]at M;cases M
  have h2':gG ops.toList fr z.guard=some c:=by
   have⟨d',op,ty,pos,af,gd⟩:=z
   cases gd with
   |none=>exact h2
   |some gd =>
    have⟨j,b⟩:=gd;simp only[gG]at h2 |-
    have hv:∀x,oi ops.toList (dD (Oper.looksAt ops ⟨d',op,ty,pos,af,some (j,b)⟩) 0 fr) j=some x->oi ops.toList fr j=some x:=by
     intro x hx;unfold oi at hx |-
     cases HR:gN ops.toList j with
     |false=>grind
     |true =>
      rw[HR]at hx
      cases hdt:(q9 ops.toList j).dst with
      |none=>grind
      |some t =>
       rw[hdt]at hx;simp only at hx |-
       have Aq:∀(ts:List Nat)(fr:am)(k t:Nat),gN (dD ts k fr) t=gN fr t:=by
        intro ts fr
        induction fr with
        |nil=>intro k t;rfl
        |cons x fr W=>intro k t;cases t with|zero=>rfl|succ t=>exact W (k+1) t
       have hgn:∀(ts:List Nat)(fr:am)(k t:Nat) ,cQ (dD ts k fr) t=cQ fr t\/cQ (dD ts k fr) t=.U:=by
        intro ts fr
        induction fr with
        |nil=>simp[cQ,dD]
        |cons x fr W =>
         intro k t
         cases t with
         |zero=>grind[cQ,dD]
         |succ t=>exact W (k+1) t
       grind
    grind
  refine⟨z,c,hi,h2',?_⟩
  have Vq:∀p∈stay ops i r,YQ P ops p.1 p.2.1 p.2.2 Γ:=fun p hq=>N p (S p hq)
  cases c with
  |true =>
   intro B K β w l hI hF;have⟨v,hr,hv⟩:=T B K β w l hI (hF.mask 0)
   have EC:(execOp (ev l) z).run P w=.ok (.value v) w:=by have⟨d,op,ty,pos,af,gd⟩:=z;exact hr d ty pos af
   unfold C4;rw[EC];exact⟨K,β,g,Γ,c7.refl K,dO.refl β,hI,fun fr l hf=>hf.put _ hv,Vq,H'⟩
  |false =>
   grind
 intro n
 induction n with
 |zero =>
  intro r q fr Γ _ hr F hy N H;refine⟨fun h=>zfk,fun j hj=>?_⟩
  by_cases A:j=i
  ·grind
  ·have:=ready_mono hj A;rw[H.1]at this;cases this
 |succ n W =>
  intro r q fr Γ C hr F hy N H;refine⟨fun h=>zfk,fun j hj=>?_⟩
  by_cases A:j=i
  ·subst A;grind
  ·have M:=H.2 j (ready_mono hj A);have⟨Z9,I,G,aaS⟩:=mem_ready.1 hj
   have aae:∀e∈I.after,Region.binds .any e=true->e.on≠i:=fun e he hb heq=>by
    grind[mem_ready,Nat.lt_or_ge,Array.getElem?_eq_none]
   have YM:=C j I G A Z9 aae;have⟨a1,a2,a3⟩:=Oper.apart_spec YM
   have hnw:waits ops j i=false:=by
    grind[waits]
   have S:stay ops j ((i,g,s)::r)=(i,g,s)::stay ops j r:=by
    grind[stay]
   rw[S]at M;have h2:=GI.comm hi G YM (fun cs b=>aal j I cs b G) (O F hy) M
   have hdj:mi ops j=I.dst:=by simp[mi,G]
   have E:∀k ok,ops[k]?=some ok->k≠i->(q.setIfInBounds j true).getD k true=false ->
     (∀e∈ok.after,Region.binds .any e=true->e.on≠i)->z.apart ops ok=true:=fun k ok hk hki Za Mf=>by
    refine C k ok hk hki ?_ Mf
    by_cases hjk:j=k
    ·grind
    ·rw[getD_set_ne true hjk]at Za;exact Za
   refine h2.mono fun gj J ⟨T,h4⟩=>⟨fun p N=>T p (ey _ N),?_⟩
   refine W (stay ops j r) (q.setIfInBounds j true) (bQ fr (mi ops j) gj) J E (ready_mono hr (Ne.symm A)) ?_ (T (i,g,s) (List.mem_cons_self)) (fun p N=>T p (ey _ N)) ?_
   ·grind[PN]
   ·rw[Array.setIfInBounds_comm _ _ A]
    have R:bQ (bQ fr (mi ops j) gj) z.dst g=bQ (bQ fr z.dst g) (mi ops j) gj:=by
     rw[hdj]
     cases hdi:z.dst with
     |none=>rfl
     |some t =>
      cases hdj':I.dst with
      |none=>rfl
      |some u =>
       have yT:t≠u:=fun e=>a2 t hdi zfk
       have gen:∀(fr:am)(t u:Nat),t≠u->bN (bN fr u gj) t g=bN (bN fr t g) u gj:=by
        intro fr
        induction fr with
        |nil=>simp[bN]
        |cons x fr W =>
         intro t u h
         cases t with
         |zero=>cases u with|zero=>omega|succ u=>rfl
         |succ t=>cases u with|zero=>rfl|succ u=>grind[bN]
       grind[bQ]
    rw[R];exact h4
inductive Ot where
 |nil
 |q (i:Nat) (r:Ot)
 |a (i:Nat) (r:Ot)
 |f (i:Nat) (r:Ot) (j:Nat) (s:Ot)
def Ot.len:Ot->Nat
 |.nil=>0
 |.q _ r=>r.len+1
 |.a _ r=>r.len+1
 |.f _ r _ _=>r.len+1
def tE(ops:Array Oper):Ot->Array Bool->Bool
 |.nil,F=>(Region.ready .any ops F).isEmpty
 |.q i r,F=>(Region.ready .any ops F).contains i&&Region.free .any ops F i&&tE ops r (F.setIfInBounds i true)
 |.a i r,F=>(Region.ready .any ops F==[i])&&tE ops r (F.setIfInBounds i true)
 |.f i r j s,F=>(Region.ready .any ops F==[i,j])&&tE ops r (F.setIfInBounds i true)&&tE ops s (F.setIfInBounds j true)&&(r.len==s.len)
def GO(P:Program)(ops:Array Oper)(Q:am->ap->Prop):Ot->lG->am->ap->Prop
 |.nil,_,fr,Γ=>Q fr Γ
 |.q i r,t,fr,Γ=>∃g,YQ P ops i g fr Γ/\GO P ops Q r ((i,g,fr)::t) (bQ fr (mi ops i) g) Γ
 |.a i r,t,fr,Γ=>GI P ops i (fun g u=>(∀p∈stay ops i t,YQ P ops p.1 p.2.1 p.2.2 u)/\GO P ops Q r (stay ops i t) (bQ fr (mi ops i) g) u) fr Γ
 |.f i r j s,t,fr,Γ=>GI P ops i (fun g u=>(∀p∈stay ops i t,YQ P ops p.1 p.2.1 p.2.2 u)/\GO P ops Q r (stay ops i t) (bQ fr (mi ops i) g) u) fr Γ/\GI P ops j (fun g u=>(∀p∈stay ops j t,YQ P ops p.1 p.2.1 p.2.2 u)/\GO P ops Q s (stay ops j t) (bQ fr (mi ops j) g) u) fr Γ
def GO.fork{ops:Array Oper}{Q:am->ap->Prop}{i j:Nat}{r s:Ot}{q:lG}{fr:am}{Γ:ap}(z:GO P ops Q (.a i r) q fr Γ)(v:GO P ops Q (.a j s) q fr Γ):GO P ops Q (.f i r j s) q fr Γ:=⟨z,v⟩
def GO.all{M:List Oper}{Q:am->ap->Prop}(A:Region.noSelect M.toArray=true):∀(T:Ot)(t:lG)(F:Array Bool)(fr:am)(Γ:ap),
  tE M.toArray T F=true->(∀p∈t,YQ P M.toArray p.1 p.2.1 p.2.2 Γ)->GO P M.toArray Q T t fr Γ->qn P M.toArray Q T.len t F fr Γ
 |.nil,t,F,fr,Γ,S,_,h=>⟨by simpa[tE]using S,h⟩
 |.q i r,t,F,fr,Γ,S,R,h=>by
  simp only[tE,a6]at S;have⟨⟨l,J⟩,S⟩:=S;have⟨g,E,h⟩:=h
  have v:i∈Region.ready .any M.toArray F:=by simpa using l
  have⟨_,o,O,_⟩:=mem_ready.1 v
  have H:mi M.toArray i=o.dst:=by simp only[mi,O];rfl
  rw[H]at h
  exact qn.first O (Region.noSelect_spec A) _ t F fr Γ (Region.free_spec O J) v rfl E R (GO.all A r _ _ _ _ S (fun p u=>by
   rcases nj u with rfl|u
   ·exact E
   ·exact R p u) h)
 |.a i r,t,F,fr,Γ,S,R,h=>by
  simp only[tE,a6,beq_iff_eq]at S;have⟨l,S⟩:=S;refine⟨fun N=>by rw[N]at l;simp at l,fun j C=>?_⟩;rw[l,List.mem_singleton]at C;subst C
  exact GI.mono h fun g B ⟨z,w⟩=>⟨z,GO.all A r _ _ _ _ S z w⟩
 |.f i r j s,t,F,fr,Γ,S,R,h=>by
  simp only[tE,a6,beq_iff_eq]at S;have⟨⟨⟨l,n⟩,I⟩,W⟩:=S;refine⟨fun N=>by rw[N]at l;simp at l,fun k G=>?_⟩;rw[l]at G;simp only[List.mem_cons,List.not_mem_nil,or_false]at G
  rcases G with rfl|rfl
  ·exact GI.mono h.1 fun g B ⟨z,w⟩=>⟨z,GO.all A r _ _ _ _ n z w⟩
  ·exact GI.mono h.2 fun g B ⟨z,w⟩=>⟨z,by
    have:=GO.all A s _ _ _ _ I z w
    rw[<-W]at this;exact this⟩
theorem GW.draw{m id:Nat}{M:List Oper}{Q:dF}{fr:am}{Γ:ap}(T:Ot)(N:P.follows .mixedOrders=true)
  (k:(Region.noSelect M.toArray&&(T.len==M.length)&&tE M.toArray T (Array.replicate M.toArray.size false))=true)
  (h:GO P M.toArray (Q .normal) T [] fr Γ):GW P m (.region id M.toArray true) Q fr Γ:=fun B K c w l i R j=>by
 simp only[a6,beq_iff_eq]at k;have⟨⟨o,W⟩,S⟩:=k;refine wp_region_any N ?_;have z:=GO.all o T [] _ fr Γ S (fun p b=>by cases b) h;rw[W]at z;have v:=qn.sound (Q':=Q) i (fun fr Γ h=>h) _ _ _ _ _ K c w.drew l z (R.same (Ext.drew w)) j
 simp_all
end
def kF:List Oper->Nat->Option Oper
 |[],_=>none
 |o::_,0=>some o
 |_::r,n+1=>kF r n
def qS{ol:List Oper}{i:Nat}{o:Oper}(h:kF ol i=some o):ol.toArray[i]?=some o:=by
 have:∀(ol:List Oper)(i:Nat),kF ol i=ol[i]?:=by
  intro ol
  induction ol with
  |nil=>intro i;rfl
  |cons x ol q=>intro i;cases i with|zero=>rfl|succ i=>grind[kF]
 grind
section
variable{P:Program}{Q:am->ap->Prop}{ol:List Oper}{r:Ot}{cU:lG}{fr:am}{Γ:ap}{i:Nat}{g:GV}{d:Option Tmp}{op:Op}{ty:TypeId}{pos:String}{af:Array Edge}{gd:Nat × Bool}
def u3{o:Oper}(h:kF ol i=some o):mi ol.toArray i=o.dst:=by simp only[mi,qS h];rfl
theorem GO.more{A:Array Oper}:∀(r:Ot)(cU S:lG)(fr:am)(Γ:ap),(∀p∈S,p∈cU\/∀Γ,YQ P A p.1 p.2.1 p.2.2 Γ)->GO P A Q r cU fr Γ->GO P A Q r S fr Γ
 |.nil,_,_,_,_,_,h=>h
 |.q i r,cU,S,fr,Γ,o,⟨g,z,v⟩=>⟨g,z,GO.more r _ _ _ _ (fun p R=>by
   grind) v⟩
 |.a i r,cU,S,fr,Γ,o,h=>GI.mono h fun g t ⟨z,v⟩=>by
   have M:∀p∈stay A i S,p∈stay A i cU\/∀Γ,YQ P A p.1 p.2.1 p.2.2 Γ:=fun p R=>by
    grind[stay]
   exact⟨fun p R=>(M p R).elim (z p) (fun h=>h t),GO.more r _ _ _ _ M v⟩
 |.f i r j s,cU,S,fr,Γ,o,h=>by
   have M:∀k,∀p∈stay A k S,p∈stay A k cU\/∀Γ,YQ P A p.1 p.2.1 p.2.2 Γ:=fun k p R=>by
    grind[stay]
   exact⟨GI.mono h.1 fun g t ⟨z,v⟩=>⟨fun p R=>(M i p R).elim (z p) (fun h=>h t),GO.more r _ _ _ _ (M i) v⟩,GI.mono h.2 fun g t ⟨z,v⟩=>⟨fun p R=>(M j p R).elim (z p) (fun h=>h t),GO.more s _ _ _ _ (M j) v⟩⟩
theorem GO.skip{A:Array Oper}{x:Nat × GV × am}(hx:∀Γ,YQ P A x.1 x.2.1 x.2.2 Γ)(h:GO P A Q r cU fr Γ):GO P A Q r (x::cU) fr Γ:=by
 refine GO.more r cU _ fr Γ (fun p R=>?_) h
 grind
def GO.yq{o:Oper}(hi:kF ol i=some o)(m:YQ P ol.toArray i g fr Γ)(h:GO P ol.toArray Q r ((i,g,fr)::cU) (bQ fr o.dst g) Γ):GO P ol.toArray Q (.q i r) cU fr Γ :=
 ⟨g,m,by rw[u3 hi];exact h⟩
def GO.yp{o:Oper}(hi:kF ol i=some o)(m:∀Γ,YQ P ol.toArray i g fr Γ)(h:GO P ol.toArray Q r cU (bQ fr o.dst g) Γ):GO P ol.toArray Q (.q i r) cU fr Γ :=
 GO.yq hi (m Γ) (GO.skip m h)
theorem oh{c:Bool}{A:List Oper}(N:oi A fr gd.1=some (some c))(o:c=gd.2):gG A fr (some gd)=some true:=by
 grind[gG]
def pg{c:Bool}{A:List Oper}(N:oi A fr gd.1=some (some c))(o:c=!gd.2):gG A fr (some gd)=some false:=by
 have⟨j,b⟩:=gd;simp only at N o;simp only[gG,N,o];simp
theorem U3{A:List Oper}(N:oi A fr gd.1=some none):gG A fr (some gd)=some false:=by
 grind[gG]
def YQ.t{o:Oper}(hi:kF ol i=some o)(hg:gG ol (dD (o.looksAt ol.toArray) 0 fr) o.guard=some true)(m:V P o.op (dD (o.looksAt ol.toArray) 0 fr) Γ g):YQ P ol.toArray i g fr Γ:=⟨o,true,qS hi,hg,m⟩
def YQ.f{o:Oper}(hi:kF ol i=some o)(hg:gG ol (dD (o.looksAt ol.toArray) 0 fr) o.guard=some false):YQ P ol.toArray i (.v undef) fr Γ:=⟨o,false,qS hi,hg,rfl⟩
def OQ(hi:kF ol i=some ⟨d,op,ty,pos,af,none⟩)(m:V P op (dD (Oper.looksAt ol.toArray ⟨d,op,ty,pos,af,none⟩) 0 fr) Γ g)(h:GO P ol.toArray Q r ((i,g,fr)::cU) (bQ fr d g) Γ):GO P ol.toArray Q (.q i r) cU fr Γ :=
 GO.yq hi (YQ.t hi rfl m) h
def OP(hi:kF ol i=some ⟨d,op,ty,pos,af,none⟩)(m:∀Γ,V P op (dD (Oper.looksAt ol.toArray ⟨d,op,ty,pos,af,none⟩) 0 fr) Γ g)(h:GO P ol.toArray Q r cU (bQ fr d g) Γ):GO P ol.toArray Q (.q i r) cU fr Γ :=
 GO.yp hi (fun Γ=>YQ.t hi rfl (m Γ)) h
def OQt{c:Bool}(hi:kF ol i=some ⟨d,op,ty,pos,af,some gd⟩)(N:oi ol (dD (Oper.looksAt ol.toArray ⟨d,op,ty,pos,af,some gd⟩) 0 fr) gd.1=some (some c))(o:c=gd.2)(m:V P op (dD (Oper.looksAt ol.toArray ⟨d,op,ty,pos,af,some gd⟩) 0 fr) Γ g)
  (h:GO P ol.toArray Q r ((i,g,fr)::cU) (bQ fr d g) Γ):GO P ol.toArray Q (.q i r) cU fr Γ :=
 GO.yq hi (YQ.t hi (oh N o) m) h
def Yz{c:Bool}(hi:kF ol i=some ⟨d,op,ty,pos,af,some gd⟩)(N:oi ol (dD (Oper.looksAt ol.toArray ⟨d,op,ty,pos,af,some gd⟩) 0 fr) gd.1=some (some c))(o:c=gd.2)(m:∀Γ,V P op (dD (Oper.looksAt ol.toArray ⟨d,op,ty,pos,af,some gd⟩) 0 fr) Γ g)
  (h:GO P ol.toArray Q r cU (bQ fr d g) Γ):GO P ol.toArray Q (.q i r) cU fr Γ :=
 GO.yp hi (fun Γ=>YQ.t hi (oh N o) (m Γ)) h
def ONf{c:Bool}(hi:kF ol i=some ⟨d,op,ty,pos,af,some gd⟩)(N:oi ol (dD (Oper.looksAt ol.toArray ⟨d,op,ty,pos,af,some gd⟩) 0 fr) gd.1=some (some c))(o:c=!gd.2)(h:GO P ol.toArray Q r cU (bQ fr d (.v undef)) Γ):GO P ol.toArray Q (.q i r) cU fr Γ :=
 GO.yp hi (fun Γ=>YQ.f hi (pg N o)) h
def ONu(hi:kF ol i=some ⟨d,op,ty,pos,af,some gd⟩)(N:oi ol (dD (Oper.looksAt ol.toArray ⟨d,op,ty,pos,af,some gd⟩) 0 fr) gd.1=some none)(h:GO P ol.toArray Q r cU (bQ fr d (.v undef)) Γ):GO P ol.toArray Q (.q i r) cU fr Γ :=
 GO.yp hi (fun Γ=>YQ.f hi (U3 N)) h
theorem Is:∀(fr:am)(ts:List Nat)(k t:Nat),k+t∈ts->cQ (dD ts k fr) t=cQ fr t
 |[],_,_,_,_=>rfl
 |g::fr,ts,k,0,h=>by
  grind[cQ,dD]
 |g::fr,ts,k,t+1,h=>by
  simp only[dD,cQ];exact Is fr ts (k+1) t zfk
theorem vh{o:Oper}{A:Array Oper}{x:Operand}(h:x∈o.op.operands.toList):bd (dD (o.looksAt A) 0 fr) x=bd fr x:=by
 cases x with
 |tmp t =>
  refine Is fr _ 0 t ?_
  grind[Oper.looksAt]
 |_=>rfl
section
variable{x:Operand}
theorem OPm(hi:kF ol i=some ⟨d,.move x,ty,pos,af,none⟩)(h:GO P ol.toArray Q r cU (bQ fr d (bd fr x)) Γ):GO P ol.toArray Q (.q i r) cU fr Γ :=
 OP hi (fun Γ=>by
  have:=V.mv (P:=P) (x:=x) (Γ:=Γ) (fr:=dD (Oper.looksAt ol.toArray ⟨d,.move x,ty,pos,af,none⟩) 0 fr)
  grind[vh,Op.operands]) h
theorem OPa(hi:kF ol i=some ⟨d,.assign x,ty,pos,af,none⟩)(h:GO P ol.toArray Q r cU (bQ fr d (bd fr x)) Γ):GO P ol.toArray Q (.q i r) cU fr Γ :=
 OP hi (fun Γ=>by
  have:=V.kj (P:=P) (x:=x) (Γ:=Γ) (fr:=dD (Oper.looksAt ol.toArray ⟨d,.assign x,ty,pos,af,none⟩) 0 fr)
  grind[vh,Op.operands]) h
theorem Zx{c:Bool}(hi:kF ol i=some ⟨d,.move x,ty,pos,af,some gd⟩)(N:oi ol (dD (Oper.looksAt ol.toArray ⟨d,.move x,ty,pos,af,some gd⟩) 0 fr) gd.1=some (some c))(o:c=gd.2)(h:GO P ol.toArray Q r cU (bQ fr d (bd fr x)) Γ):GO P ol.toArray Q (.q i r) cU fr Γ :=
 Yz hi N o (fun Γ=>by
  have:=V.mv (P:=P) (x:=x) (Γ:=Γ) (fr:=dD (Oper.looksAt ol.toArray ⟨d,.move x,ty,pos,af,some gd⟩) 0 fr)
  grind[vh,Op.operands]) h
end
section
variable{c a b:Operand}{t:Bool}
theorem Zw(hi:kF ol i=some ⟨d,.pick c a b,ty,pos,af,none⟩)(o:bd (dD (Oper.looksAt ol.toArray ⟨d,.pick c a b,ty,pos,af,none⟩) 0 fr) c=.v (.bool t))(H:t=true)(h:GO P ol.toArray Q r cU (bQ fr d (bd fr a)) Γ):GO P ol.toArray Q (.q i r) cU fr Γ :=
 OP hi (fun Γ=>by
  have:=V.RE (P:=P) (Γ:=Γ) (a:=a) (b:=b) o H
  grind[vh,Op.operands]) h
theorem Zv(hi:kF ol i=some ⟨d,.pick c a b,ty,pos,af,none⟩)(o:bd (dD (Oper.looksAt ol.toArray ⟨d,.pick c a b,ty,pos,af,none⟩) 0 fr) c=.v (.bool t))(H:t=false)(h:GO P ol.toArray Q r cU (bQ fr d (bd fr b)) Γ):GO P ol.toArray Q (.q i r) cU fr Γ :=
 OP hi (fun Γ=>by
  have:=V.RD (P:=P) (Γ:=Γ) (a:=a) (b:=b) o H
  grind[vh,Op.operands]) h
end
inductive cX(P:Program)(ops:Array Oper)(i:Nat)(bO:ap):lG->lG->Prop
 |n:cX P ops i bO [] []
 |w {j:Nat} {g:GV} {LS:am} {cU AV:lG} (hw:waits ops i j=true) (h:cX P ops i bO cU AV):cX P ops i bO ((j,g,LS)::cU) AV
 |y {j:Nat} {g:GV} {LS:am} {cU AV:lG} (hy:YQ P ops j g LS bO) (h:cX P ops i bO cU AV):cX P ops i bO ((j,g,LS)::cU) ((j,g,LS)::AV)
theorem cX.spec{A:Array Oper}{bO:ap}{S:lG}(h:cX P A i bO cU S):(∀p∈stay A i cU,YQ P A p.1 p.2.1 p.2.2 bO)/\∀p∈stay A i cU,p∈S:=by
 induction h with
 |n=>simp[lG,stay,YQ]
 |w e h q =>
  grind[stay]
 |y m h q =>
  grind[stay]
def UE(fr:am):Option Tmp->Bool
 |none=>true
 |some t=>gN fr t
def dy(P:Program)(Q:am->ap->Prop)(ol:List Oper)(i:Nat)(r:Ot)(cU:lG)(fr:am)(d:Option Tmp)(dh:am)(bO:ap):Prop :=
 ∃g S,dh=bQ fr d g/\cX P ol.toArray i bO cU S/\GO P ol.toArray Q r S (bQ fr d g) bO
theorem GA.of{o:Oper}{E:GV->ap->Prop}{R:am->ap->Prop}{z:Array Oper}(hg:o.guard=none)(hd:UE fr o.dst=true)(N:∀dh bO,R dh bO->∃g,dh=bQ fr o.dst g/\E g bO)(h:GL P Γ.length z (bh R (fun _ _ _=>False)) [o] fr Γ):GA P o E fr Γ:=fun B K I w l H G=>by
 have j:=h (cur K I Γ w) K I w l rfl H.here G;have⟨d,op,ty,pos,af,gd⟩:=o;simp only at hg;subst hg;simp only at j hd;unfold WL wpList at j;rw[ae zfQ]at j
 rcases j with j|⟨_,T,w0,k⟩
 ·rw[<-pO];refine WV j (fun c a A k=>?_) (fun a A k=>?_) ?_ ?_
  ·have⟨m,_,_,_,_,_,_,_,e⟩:=k;exact e
  ·have⟨m,_,_,_,_,_,_,_,e⟩:=k;exact e
  ·rintro v A⟨m,s,J,C,dh,bO,b,q,e⟩;obtain⟨g,rfl,O⟩:=N dh bO e;rw[p9]at s
   have u:put l d v=m:=by
    simp_all[congrArg,act]
   subst u;refine⟨J,C,g,bO,b.kle,b.ble,H.Nr b,fun M l2 F=>?_,O⟩
   cases d with
   |none=>exact F
   |some t =>
    refine F.eN t ?_;have hv:=q.nth t;have h3:nth (put l (some t) v) t=v:=sM (mJ G hd) v
    have h4:cQ (bQ fr (some t) g) t=g:=by
     have n:∀(fr:am)(t:Nat),gN fr t=true->cQ (bN fr t g) t=g:=by
      intro fr
      induction fr with
      |nil=>grind[gN]
      |cons x fr S=>intro t h;cases t with|zero=>rfl|succ t=>exact S t h
     exact n fr t hd
    grind
  ·rintro W A⟨m,s,_⟩;have:=congrArg (fun a:Act=>a.defers) s
   cases d<;>simp[act,Act.put]at this
 ·have⟨m,_,_,_,_,_,_,_,e⟩:=k;exact e.elim
theorem dy.kt{dh:am}{bO:ap}(h:dy P Q ol i r cU fr d dh bO):∃g,dh=bQ fr d g/\((∀p∈stay ol.toArray i cU,YQ P ol.toArray p.1 p.2.1 p.2.2 bO)/\GO P ol.toArray Q r (stay ol.toArray i cU) (bQ fr d g) bO):=by
 have⟨g,S,z,v,I⟩:=h;have⟨c,F⟩:=v.spec
 grind[GO.more]
def OA(hi:kF ol i=some ⟨d,op,ty,pos,af,none⟩)(hd:UE fr d=true)(h:GL P Γ.length ol.toArray (bh (dy P Q ol i r cU fr d) (fun _ _ _=>False)) [⟨d,op,ty,pos,af,none⟩] fr Γ):GO P ol.toArray Q (.a i r) cU fr Γ:=by
 refine⟨_,true,qS hi,rfl,?_⟩
 exact(GA.of (o:=⟨d,op,ty,pos,af,none⟩) rfl hd (fun W t T=>dy.kt T) h).mono fun g t ⟨z,v⟩=>⟨z,by rw[u3 hi];exact v⟩
def QE{c:Bool}(hi:kF ol i=some ⟨d,op,ty,pos,af,some gd⟩)(hd:UE fr d=true)(N:oi ol fr gd.1=some (some c))(q:c=gd.2)(h:GL P Γ.length ol.toArray (bh (dy P Q ol i r cU fr d) (fun _ _ _=>False)) [⟨d,op,ty,pos,af,none⟩] fr Γ):GO P ol.toArray Q (.a i r) cU fr Γ:=by
 refine⟨_,true,qS hi,oh N q,?_⟩
 have:=(GA.of (o:=⟨d,op,ty,pos,af,none⟩) rfl hd (fun W t T=>dy.kt T) h).mono (DP:=fun g t=>(∀p∈stay ol.toArray i cU,YQ P ol.toArray p.1 p.2.1 p.2.2 t)/\GO P ol.toArray Q r (stay ol.toArray i cU) (bQ fr (mi ol.toArray i) g) t) fun g t ⟨z,v⟩=>⟨z,by rw[u3 hi];exact v⟩
 exact this
def OAf{c:Bool}{S:lG}(hi:kF ol i=some ⟨d,op,ty,pos,af,some gd⟩)(N:oi ol fr gd.1=some (some c))(q:c=!gd.2)(o:cX P ol.toArray i Γ cU S)(h:GO P ol.toArray Q r S (bQ fr d (.v undef)) Γ):GO P ol.toArray Q (.a i r) cU fr Γ :=
 ⟨_,false,qS hi,pg N q,o.spec.1,by rw[u3 hi];exact GO.more r _ _ _ _ (fun p R=>.inl (o.spec.2 p R)) h⟩
def OAu{S:lG}(hi:kF ol i=some ⟨d,op,ty,pos,af,some gd⟩)(N:oi ol fr gd.1=some none)(o:cX P ol.toArray i Γ cU S)(h:GO P ol.toArray Q r S (bQ fr d (.v undef)) Γ):GO P ol.toArray Q (.a i r) cU fr Γ :=
 ⟨_,false,qS hi,U3 N,o.spec.1,by rw[u3 hi];exact GO.more r _ _ _ _ (fun p R=>.inl (o.spec.2 p R)) h⟩
theorem GO.nil(h:Q fr Γ):GO P ol.toArray Q .nil cU fr Γ:=h
def dy.mk{S:lG}(o:cX P ol.toArray i Γ cU S){j:am}(h:GO P ol.toArray Q r S (bQ j d g) Γ):dy P Q ol i r cU j d (bQ j d g) Γ:=⟨g,S,rfl,o,h⟩
section
variable{A:Array Oper}{dh:am}
def jC{bO:ap}(z:fr=dh)(v:Γ=bO)(h:GO P A Q r cU dh bO):GO P A Q r cU fr Γ:=by subst z;subst v;exact h
def Yy(z:fr=dh)(h:GO P A Q r cU dh Γ):GO P A Q r cU fr Γ:=by subst z;exact h
end
end
def GW.range{P:Program}{m:Nat}{Q:dF}{fr:am}{Γ:ap}{B C r1 r2:Nat}{l:Code}{u j tn b:Tmp}{T1 T2 T3 H J M N:TypeId}{p1 p2 p3:String}{a1 O R:Array Edge}(n:Nat)(I:Nat->am->ap->Prop)
  (h0:yH m (I 0) fr Γ)(hn:n<=1099511627776)
  (hI:∀k fr Γ,I k fr Γ->cQ fr j=.v (ii k)/\cQ fr tn=.v (ii n)/\gN fr u=true)
  (o:∀k fr Γ,k<n->I k fr Γ->GW P m l (bm C (bh (fun dh bO=>cQ dh j=.v (ii k)/\gN dh b=true/\yH m (I (k+1)) (bN (bN dh b (.v (ii ((k+1:Nat):Int)))) j (.v (ii ((k+1:Nat):Int)))) bO) (bm B Q))) (bN fr u (.v (.bool true))) Γ)
  (T:∀fr Γ,I n fr Γ->Q .normal (bN fr u (.v (.bool false))) Γ) :
  GW P m (.loop (.seq (.region r1 [(⟨some u,.binOp .lss T1 (.tmp j) (.tmp tn) T2,T3,p1,a1,none⟩:Oper)].toArray false) (.seq (.cond (.tmp u) .skip (.exit B))
   (.seq (.block C l) (.region r2 [(⟨some b,.binOp .add H (.tmp j) (.const (.int .i64 1)) J,M,p2,O,none⟩:Oper),⟨some j,.move (.tmp b),N,p3,R,none⟩].toArray false))))) (bm B Q) fr Γ:=by
 have s:∀(fr:am)(t:Nat)(g:GV),gN fr t=true->cQ (bN fr t g) t=g:=by
  intro fr
  induction fr with
  |nil=>grind[gN]
  |cons x fr ih=>intro t g h;cases t with|zero=>rfl|succ t=>exact ih t g h
 refine GW.loop (fun k:Nat=>n-k) (fun k fr Γ=>k<=n/\I k fr Γ) 0 ?_ ?_
 ·have⟨dh,bO,F,h⟩:=h0;exact⟨dh,bO,F,bj _,h⟩
 rintro k fr Γ⟨hk,hi⟩;have⟨h1,h2,S⟩:=hI k fr Γ hi;refine GW.seq (GW.region (GL.q (V.go (v:=.bool (decide ((k:Int)<(n:Int)))) ?_) (GL.nil (bx ?_))))
 ·simp only[U9,Xw.go,bd,h1,h2,BL,DA,ii,Kq,JN]
 by_cases w:k<n
 ·have E:decide ((k:Int)<(n:Int))=true:=by grind
  simp only[bQ,E];refine GW.seq (KP (s fr u _ S) rfl (GW.skip (bx (GW.seq (GW.block ?_)))));refine GW.mono (o k fr Γ w hi) ?_;intro e dh bO c;have z:∀dh bO,(cQ dh j=.v (ii k)/\gN dh b=true/\yH m (I (k+1)) (bN (bN dh b (.v (ii ((k+1:Nat):Int)))) j (.v (ii ((k+1:Nat):Int)))) bO) ->
    GW P m (.region r2 [(⟨some b,.binOp .add H (.tmp j) (.const (.int .i64 1)) J,M,p2,O,none⟩:Oper),⟨some j,.move (.tmp b),N,p3,R,none⟩].toArray false) (bh (fun dh bO=>∃y:Nat,yH m (fun fr Γ=>y<=n/\I y fr Γ) dh bO/\n-y<n-k) (bm B Q)) dh bO:=by
   rintro dh bO⟨h5,h6,A,G,F,h7⟩;refine GW.region (GL.q (V.iZ (a:=k) h5 rfl zfn) (GL.q V.mv (GL.nil (bx ⟨k+1,⟨A,G,?_,w,h7⟩,by omega⟩))));have h8:bd (bN dh b (.v (ii ((k+1:Nat):Int)))) (.tmp b)=.v (ii ((k+1:Nat):Int)):=s dh b _ h6;simp only[bQ,h8];exact F
  cases e with
  |normal=>exact z dh bO c
  |exit id =>
   simp only[bm]at c |-;split<;>rename_i W
   ·rw[ae W]at c;exact z dh bO c
   ·rw[ab W]at c;exact c
  |goto _=>exact c
  |ret=>exact c
  |panic _=>exact c
  |outgrown=>exact c
 ·have xh:k=n:=by omega
  have E:decide ((k:Int)<(n:Int))=false:=by grind
  simp only[bQ,E];refine GW.seq (KO (s fr u _ S) rfl (GW.exit (En (En (HH ?_)))))
  grind
def nF(g r:GV):Prop:=∀K W x,Rel K W x g->Rel K W x r
def mc(gs o:am):Prop:=∀K W j,bJ K W j gs->bJ K W j o
theorem nF.refl{g:GV}:nF g g:=fun _ _ _ h=>h
def nF.U{g:GV}:nF g .U:=fun _ _ _ _=>.U _
theorem nF.nil{k:Nat}:nF (.v (.slice none 0 0)) (.sl k []):=fun K W x h=>by
 rw[Rel.fx h];exact .sl0 _ _ _
theorem mc.nil:mc [] []:=fun _ _ _ h=>h
theorem mc.refl{gs:am}:mc gs gs:=fun _ _ _ h=>h
def mc.cons{g h:GV}{gs o:am}(z:nF g h)(w:mc gs o):mc (g::gs) (h::o):=fun K W j N=>by
 cases j with
 |nil=>grind
 |cons v j=>have⟨a,b⟩:=N.oF;exact .cons (z K W v a) (w K W j b)
def nF.agg{gs o:am}(h:mc gs o):nF (.agg gs) (.agg o):=fun K i x hx=>by
 cases hx with
 |agg j _ c W=>have⟨a,b⟩:=h K i j ⟨c,W⟩;exact .agg j o a b
def nF.tup{gs o:am}(h:mc gs o):nF (.tup gs) (.tup o):=fun K i x hx=>by
 cases hx with
 |tup j _ c W=>have⟨a,b⟩:=h K i j ⟨c,W⟩;exact .tup j o a b
inductive Ue:am->am->Prop
 |nil:Ue [] []
 |cons {f g:GV} {fs gs:am} (h:nF f g) (t:Ue fs gs):Ue (f::fs) (g::gs)
section
variable{P:Program}{m:Nat}{Q:dF}{fr:am}{Γ:ap}{ops:Array Oper}{rest:List Oper}{d:Option Tmp}{op:Op}{ty:TypeId}{pos:String}{af:Array Edge}
theorem Wk.cells(i:Nat){E:TypeId}{cs ds:am}(hi:Γ[i]?=some (.box E cs))(h:mc cs ds):Wk m fr Γ fr (oset Γ i (.box E ds)):=fun B K W w l _ R n=>by
 rw[bU];refine⟨K,W,⟨R.ext,R.kle,R.ble,R.loc,R.fz,fun j x o=>?_,fun j o=>R.out j zfk,R.dis,R.own,R.kn,R.tab⟩,n⟩;rw[iY]at o;split at o
 ·rename_i F;split at o
  ·cases o;subst F
   have⟨b,k,z,v,I,c⟩:=R.ob i _ hi;exact⟨b,k,z,v,h K W k I,c⟩
  grind
 ·exact R.ob j x o
def GL.JC{f:FuncId}[hf:gM P f](bf:List Nat){args:List Operand}{i:Array TypeId}{gs:am}{u:ap}{R:GV->ap->Prop}(o:GC P f gs u R)(ha:mc (args.map (bd fr)) (mP (cR bf Γ.length) gs))(k:kp bf Γ.length=true)
  (n:seen (cR bf Γ.length) Γ bf u)(h:∀g bO,R g bO->bf.length<=bO.length/\GL P m ops Q rest (bQ fr d (eM (cR bf Γ.length) g)) (fE Γ bf (bO.map (Ob.eM (cR bf Γ.length))))) :
  GL P m ops Q (⟨d,.call ⟨.value (.func f),args.toArray,i⟩,ty,pos,af,none⟩::rest) fr Γ :=
 GL.calls (vs:=fun l=>args.map (ev l)) (fun K W w l j=>⟨ha K W _ (j.args args),by simp[execOp,resolve,ev,Deferred.ofValue,invoke,oC]⟩) k n o h
theorem GL.Xi{f:FuncId}[hf:gM P f](bf:List Nat){args:List Operand}{j:Array TypeId}{gs:am}{u i:ap}{g:GV}(o:GF P f gs u g i)(ha:mc (args.map (bd fr)) (mP (cR bf Γ.length) gs))(k:kp bf Γ.length=true)
  (n:seen (cR bf Γ.length) Γ bf u)(W:Nat.ble bf.length i.length=true)(h:GL P m ops Q rest (bQ fr d (eM (cR bf Γ.length) g)) (fE Γ bf (i.map (Ob.eM (cR bf Γ.length))))) :
  GL P m ops Q (⟨d,.call ⟨.value (.func f),args.toArray,j⟩,ty,pos,af,none⟩::rest) fr Γ :=
 GL.JC bf o ha k n fun r bO ⟨z,v⟩=>by simp_all
end
section
variable{P:Program}{fr:am}{Γ:ap}{g:GV}
def K.bin{o:BinOp}{t t':TypeId}{x y:Operand}(h:V P (.binOp o t x y t') fr Γ g):V P (.binOp o t x y t') fr Γ g:=h
theorem K.ld{t:TypeId}{x:Operand}(h:V P (.load t x) fr Γ g):V P (.load t x) fr Γ g:=h
def K.UU{t:TypeId}{x:Operand}{i:Nat}(h:V P (.fieldAddr t x i) fr Γ g):V P (.fieldAddr t x i) fr Γ g:=h
def K.len{t:TypeId}{x:Operand}(h:V P (.call ⟨.builtin .len,#[x],#[t]⟩) fr Γ g):V P (.call ⟨.builtin .len,#[x],#[t]⟩) fr Γ g:=h
def K.nck{x:Operand}(h:V P (.nilCheck x) fr Γ g):V P (.nilCheck x) fr Γ g:=h
def K.idx{t:TypeId}{x y:Operand}(h:V P (.indexAddr t x y) fr Γ g):V P (.indexAddr t x y) fr Γ g:=h
theorem K.pick{a b c:Operand}(h:V P (.pick a b c) fr Γ g):V P (.pick a b c) fr Γ g:=h
def K.mU{t:TypeId}{x:Operand}{a b c:Option Operand}(h:V P (.slice t x a b c) fr Γ g):V P (.slice t x a b c) fr Γ g:=h
theorem K.BV{f:Fn}{a b:Array Operand}(h:V P (.makeFunc f a b) fr Γ g):V P (.makeFunc f a b) fr Γ g:=h
end
section
variable{P:Program}{fn:Func}{m:Nat}{fr:am}{Γ bO:ap}{e:Exit}{g:GV}
def Ag{R:GV->ap->Prop}(h:tl P fn m (fun x I=>∃y,nF x y/\R y I) e fr Γ):tl P fn m R e fr Γ :=
 ⟨h.1,fun B K W w l N S j=>by
  have⟨v,O,c,x,I,z,A,J,y,i,F⟩:=h.2 B K W w l N S j
  exact⟨v,O,c,y,I,z,A,i _ _ _ J,F⟩⟩
end
section
variable{P:Program}{m:Nat}{Q:dF}{fr:am}{Γ:ap}{ops:Array Oper}{rest:List Oper}{d:Option Tmp}{op:Op}{ty:TypeId}{pos:String}{af:Array Edge}
def GW.join{c y:Code}(K:am->ap->Prop)(z:GW P m c (bh (yH m K) Q) fr Γ)(v:∀fr Γ,K fr Γ->GW P m y Q fr Γ):GW P m c (bh (GW P m y Q) Q) fr Γ:=by
 refine z.mono fun e fr Γ T=>?_
 cases e with
 |normal=>have⟨W,t,i,G⟩:=T;exact GW.wk i (v _ _ G)
 |_=>exact T
def V.cm{x y:Operand}{t e:TypeId}{k:Nat}[H:lC P t e k]{rows:List am}{q:IntKind}{n:Int}{i:Nat}{r:am}(hx:bd fr x=.sl k rows)(o:bd fr y=.v (.int q n))(j:rows[i]?=some r)(hi:n=(i:Int)):V P (.indexAddr t x y) fr Γ (.box r 0):=by
 subst hi;exact V.fR hx o j
def kK:List am->Bool
 |[]=>true
 |r::rs=>nW r&&kK rs
theorem AU{rows:List am}(h:kK rows=true):nW rows.flatten=true:=by
 induction rows with
 |nil=>rfl
 |cons r rs q =>
  simp only[kK,a6]at h
  have S:∀(a b:am),nW a=true->nW b=true->nW (a++b)=true:=by
   intro a
   induction a with
   |nil=>simp
   |cons x a M =>
    grind[nW]
  grind
theorem GL.app{s x:Operand}{t e k N:Nat}[hT:lP P t e k N]{i n fz:Nat}{rows news:List am}(hx:bd fr x=.sl k news)(hs:bd fr s=.vec i n)(sd:Γ[i]?=some (.vec e k fz rows))(hn:rows.length=n)(h1:kK news=true)(S:news.isEmpty=false)
  (hb:n+news.length<=9223372036854775807/\(n+news.length)*N<=140737488355328)
  (h:GL P m ops Q rest (bQ fr d (.vec i (n+news.length))) (oset Γ i (.vec e k fz (rows++news)))) :
  GL P m ops Q (⟨d,.call ⟨.builtin .append,#[s,x],#[t,t]⟩,ty,pos,af,none⟩::rest) fr Γ:=fun B K β w l hm hI hF=>by
 subst hn
 have S:news≠[]:=by grind
 have⟨h0,xs,o1,o2,o3,o4,o5,o6⟩:=hI.ob i _ sd;have I:=hF.ev s;rw[hs]at I
 have HY:ev l s=h0:=by
  generalize hv:ev l s=v at I
  cases I with
  |vec _ _ a c hh =>
   grind
 have M:=hF.ev x;rw[hx]at M;generalize Mq:ev l x=v at M
 cases M with
 |sl0 a c k=>grind
 |sl b o c _ _ hr _ =>
  have G:gL k news:=fun r xk=>by
   have⟨j,z⟩:=List.mem_iff_getElem?.1 xk;refine⟨(hr j r z).1,fun g E=>?_⟩;have⟨q,hq⟩:=List.mem_iff_getElem?.1 E;exact(hI.fz _ _ _ ((hr j r z).2 q g hq)).1
  have C:∀(rows:List am)(o:Nat),(∀(j:Nat)r,rows[j]?=some r->r.length=k/\∀(q:Nat)g,r[q]?=some g->K b (o+j*k+q)=some g)->∀(q:Nat)g,rows.flatten[q]?=some g->K b (o+q)=some g:=by
   intro rows
   induction rows with
   |nil=>simp
   |cons r rows ih =>
    intro o h q g E;rw[flatten_cons]at E;have hl:=(h 0 r rfl).1
    by_cases hq:q<r.length
    ·rw[n1 hq]at E;have:=(h 0 r rfl).2 q g E
     grind
    ·rw[mb zfn,hl]at E
     have:=ih (o+k) (fun j r' z=>by
      have:=h (j+1) r' zfk
      grind) (q-k) g E
     grind
  obtain⟨us,J,Mp⟩:=vR (K:=K) (β:=β) (H:=w.heap) (b:=b) news.flatten o (fun j g z=>by
   obtain⟨hp,u,hu,T⟩:=hI.fz _ _ _ (C news o (fun j r z=>hr j r z) j g z)
   exact⟨u,hu,T.pc hp⟩)
  have EE:us.length=news.length*k:=by
   rw[J.1,List.length_flatten]
   have:∀(rows:List am),gL k rows->(rows.map List.length).sum=rows.length*k:=by
    intro rows
    induction rows with
    |nil=>simp
    |cons r rows ih =>
     grind[gL]
   grind
  refine WL.app (base:=0) (v:=h0) (n:=rows.length) (m:=news.length) (xs:=xs) (news:=us) HY o2 Mq EE (fun j u z=>by grind[fZ]) (J.lI (AU h1)) hb.1 hb.2 (bj _) ?_;intro v' w' F R HP xj
  obtain⟨K',hK,CP,O⟩:=hI.grow sd o1 ⟨o2,o3⟩ (news:=news) (ns:=us) F R HP J G S (fun b A o v ho hv=>by
   rcases xj with h7|h7
   ·exact h7.c hv (fun h=>h)
   ·have Au:o<xs.length:=by rw[o2.1];exact Bf ho (rF k o6)
    have⟨b2,c2,xg,_,_,yR⟩:=o2.cells.2 zfk
    have ug:b2=b:=by rw[xg]at A;cases A;rfl
    subst ug;have W:=yR o xs[o] (by simp[Au]);rw[fZ,hv]at W;cases W;have⟨b3,c3,Ve,_,_,YO⟩:=F.cells.2 zfA
    have L4:b3=b2:=by rw[Ve,A]at h7;cases h7;rfl
    subst L4
    rw[<-fZ];grind)
  rw[<-bU]at O;refine h B K' _ w' _ hm O ((hF.mono hK CP).put d ?_);obtain⟨a,c,rfl⟩:=F.shape;exact .vec i _ a c ⟨_,_,bV,by simp,fun _=>by simp⟩
theorem Wk.zE{i o:Nat}{T:TypeId}{cs:am}(E k:Nat)(hi:Γ[i]?=some (.box T cs))(C:cs[o]?=some (.v (.slice none 0 0))):Wk m fr Γ fr (oset Γ i (.box T (bN cs o (.vec Γ.length 0)))++[.vec E k 0 []]):=fun B K u w l hm G N=>by
 have S:u Γ.length=.no:=G.out _ (a8 _);have A:i<Γ.length:=(bG hi).1;have n:=G.Bo (w':=w) (E:=E) (k:=k) (x:=.slice none 0 0) (xs:=[]) (rows:=[]) (Ext.refl w) (ik.nil w 0 E k) (fun b O=>by cases O) bJ.nil (fun r W=>by cases W);have z:dO u (fU u Γ.length (.gr (.slice none 0 0) ([]:List am).length)):=iL zfO;refine⟨K,_,⟨n.ext,n.kle,n.ble,n.loc,n.fz,fun j x s=>?_,fun j s=>n.out j zfw,n.dis,n.own,n.kn,n.tab⟩,N.mono (c7.refl K) z⟩
 by_cases t:j=i
 ·subst t;rw[n1 zfw,bU,iY]at s;simp[A]at s;subst s;have⟨b,q,I,J,h3,M⟩:=n.ob j (.box T cs) zfk;refine⟨b,q,I,J,?_,M⟩
  have H:∀(q:List Value)(cs:am)(o:Nat),bJ K (fU u Γ.length (.gr (.slice none 0 0) ([]:List am).length)) q cs->cs[o]?=some (.v (.slice none 0 0))->bJ K (fU u Γ.length (.gr (.slice none 0 0) ([]:List am).length)) q (bN cs o (.vec Γ.length 0)):=by
   intro q
   induction q with
   |nil=>grind
   |cons v q ih =>
    intro cs o h C
    cases cs with
    |nil=>simp at C
    |cons c cs =>
     have⟨a1,F⟩:=h.oF
     cases o with
     |zero =>
      cases C;have hv:=Rel.fx a1;subst hv;exact .cons (.vec _ 0 none 0 ⟨_,_,bV,a8 _,fun _=>rfl⟩) F
     |succ o=>exact .cons a1 (ih cs o F zfk)
  grind
 ·refine n.ob j x ?_
  by_cases R:j<Γ.length
  ·rw[n1 zfw,bU,iY,ab (fun e=>t e.symm)]at s
   grind
  grind[mb,bU]
theorem Wk.uy{i o j n E k fz:Nat}{T:TypeId}{cs:am}{rows:List am}(hi:Γ[i]?=some (.box T cs))(M:cs[o]?=some (.vec j n))(HQ:Nat.beq i j=false)(W:Γ[j]?=some (.vec E k fz rows))(hn:rows.length=n):Wk m fr Γ fr (oset (oset Γ j (.vec E k n rows)) i (.box T (bN cs o (.sl k rows)))):=fun B K A w l hm S hF=>by
 subst hn
 have yT:i≠j:=by grind
 have⟨h0,xs,o1,o2,o3,o4,o5,o6⟩:=S.ob j _ W;have⟨C,hK,G,s⟩:=S.iC W;rw[<-bU]at s;refine⟨C,A,⟨s.ext,s.kle,s.ble,s.loc,s.fz,fun q x u=>?_,fun q u=>s.out q zfw,s.dis,s.own,s.kn,s.tab⟩,hF.mono hK (dO.refl A)⟩
 by_cases z:q=i
 ·subst z;have I:q<Γ.length:=(bG hi).1;rw[bU,iY]at u;simp[bU,I]at u;subst u;have⟨b,t,h1,h2,h3,h4⟩:=s.ob q (.box T cs) zfw;refine⟨b,t,h1,h2,?_,h4⟩
  have gen:∀(t:List Value)(cs:am)(o:Nat),bJ C A t cs->cs[o]?=some (.vec j rows.length)->bJ C A t (bN cs o (.sl k rows)):=by
   intro t
   induction t with
   |nil=>grind
   |cons v t ih =>
    intro cs o h M
    cases cs with
    |nil=>simp at M
    |cons c cs =>
     have⟨a1,N⟩:=h.oF
     cases o with
     |zero =>
      cases M;refine .cons ?_ N
      cases a1 with
      |vec _ _ a c hh =>
       have⟨h',m',O,e2,e3⟩:=hh;rw[o1]at O;cases O;have R:=e3 rfl
       rcases o2.2 with⟨F,e6⟩|⟨g,cap,cu,F,_,_,J,_⟩
       ·have:rows=[]:=ky e6;subst this;exact .sl0 _ _ _
       ·rw[F]at R;cases R;refine .sl g 0 _ k rows (fun j r hr=>⟨(o4 r (bR hr)).1,fun q g' H=>?_⟩) J;rw[gW];exact G _ g o1 (by rw[F];rfl) _ g' (rR o4 hr H)
     |succ o=>exact .cons a1 (ih cs o N zfk)
  grind
 ·rw[bU,iY,ab (fun e=>z e.symm)]at u;exact s.ob q x u
end
class me (P:Program) (t:TypeId) (k:outParam IntKind):Prop where
 und:P.underlying t=some (.int k)
class KG (P:Program) (t:TypeId):Prop where
 und:∃e,P.underlying t=some (.slice e)/\P.underlying e=some (.int .u8)
theorem KG.mk'{P:Program}{t e:TypeId}(h:P.underlying t=some (.slice e))(k:P.underlying e=some (.int .u8)):KG P t:=⟨e,h,k⟩
section
variable{P:Program}{m:Nat}{Q:dF}{fr:am}{Γ:ap}{ops:Array Oper}{rest:List Oper}{d:Option Tmp}{op:Op}{ty:TypeId}{pos:String}{af:Array Edge}
def V.jU{x y:Operand}{t t':TypeId}{a b:Int}(hx:bd fr x=.v (.int .u8 a))(n:bd fr y=.v (.int .u8 b))(r:0<=a-b/\a-b<=255):V P (.binOp .sub t x y t') fr Γ (.v (.int .u8 (a-b))) :=
 V.v2 hx n fun l w h k d ty pos af=>by simp[execOp,eqGuard,h,k,binOp,Op.intArith,IntWalk.u8_in _ r]
def V.quo{x y:Operand}{t t':TypeId}{a b:Int}(hx:bd fr x=.v (ii a))(n:bd fr y=.v (ii b))(r:0<=a/\a<=9223372036854775807/\1<=b):V P (.binOp .quo t x y t') fr Γ (.v (ii (a / b))) :=
 V.v2 hx n fun l w h k d ty pos af=>by
  have B:b≠0:=by omega
  simp[execOp,eqGuard,h,k,binOp,Op.intDiv,B,IntWalk.i64_quo a b r]
def V.rem{x y:Operand}{t t':TypeId}{a b:Int}(hx:bd fr x=.v (ii a))(n:bd fr y=.v (ii b))(r:0<=a/\1<=b):V P (.binOp .rem t x y t') fr Γ (.v (ii (a%b))) :=
 V.v2 hx n fun l w h k d ty pos af=>by
  have B:b≠0:=by omega
  simp[execOp,eqGuard,h,k,binOp,Op.intDiv,B,IntWalk.rem_in a b r.1]
def V.lf{x:Operand}{s t:TypeId}{k k':IntKind}{a:Int}[O:me P s k'][H:me P t k](hx:bd fr x=.v (.int k' a))(e:k.wrap a=a):V P (.convert s t x) fr Γ (.v (.int k a)) :=
 V.v1 hx fun l w h d ty pos af=>by simp[execOp,h,convert,run_underlying O.und,run_underlying H.und,Conv.intToInt,e]
theorem V.str{x:Operand}{s t:TypeId}{l:ai}{rows:List am}[O:KG P s][H:qo P t](hx:bd fr x=.sl 1 rows)(E:rows=l.map fun c=>[.v (.int .u8 (c.toNat:Int))]):V P (.convert s t x) fr Γ (.v (sv l)):=fun B K G w fl R n=>by
 subst E;have⟨e,z,A⟩:=O.und;have h:=n.ev x;rw[hx]at h;generalize N:ev fl x=v at h;refine⟨_,fun d ty pos af=>?_,.v _⟩
 have i:(convert s t v).run P w=.ok (sv l) w:=by
  generalize M:(l.map fun c=>[GV.v (.int .u8 (c.toNat:Int))])=rows at h
  cases h with
  |sl0 a c =>
   have:l=[]:=by simp_all
   subst this
   cases a with
   |none=>rw[run_convert_bytes_string w s t e none 0 c z A H.und];rfl
   |some a=>exact run_convert_bytes_back w s t e a c [] z A H.und (fun j q=>by simp at q)
  |sl b o c _ _ r _ =>
   have W:rows.length=l.length:=by grind
   rw[W];refine run_convert_bytes_back w s t e ⟨b,o,none⟩ c l z A H.und (fun j q=>?_)
   have C:rows[j]?=some [GV.v (.int .u8 (l[j].toNat:Int))]:=by grind
   have⟨_,u,F,k⟩:=R.fz _ _ _ ((r j _ C).2 0 _ rfl)
   grind[n8,fZ,Rel.fx]
 simp[execOp,N,i]
end
end Go.Xg
