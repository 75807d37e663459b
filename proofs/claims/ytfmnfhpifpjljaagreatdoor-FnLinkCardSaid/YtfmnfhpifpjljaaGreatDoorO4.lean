/- Part 4 of proofs that are told in their last texts. -/
import Derived.Test.YtfmnfhpifpjljaaGreatDoorO1
import Derived.WalkKit
open List (flatten_cons map_toArray)
set_option linter.unusedVariables false
set_option linter.unusedSimpArgs false
set_option linter.defProp false
set_option maxRecDepth 100000
namespace Go.Xw
open Go.RowKit
def nth:List Value->Nat->Value
 |[],_=>undef
 |v::_,0=>v
 |_::l,n+1=>nth l n
def fg:List Value->Nat->Value->List Value
 |[],_,_=>[]
 |_::l,0,v=>v::l
 |x::l,n+1,v=>x::fg l n v
def ev(l:List Value):Operand->Value
 |.tmp t=>nth l t
 |.const v=>v
 |.global g=>.pointer (some ⟨g,0,none⟩)
 |.func f=>.func (.func f) #[] #[]
def put(l:List Value)(d:Option Tmp)(v:Value):List Value :=
 match d with|some d=>fg l d v|none=>l
def gQ(l:List Value)(t:Nat):l.toArray.getD t undef=nth l t:=by
 induction l generalizing t with
 |nil=>simp[nth]
 |cons x l O =>
  cases t with
  |zero=>simp[nth]
  |succ t=>rw[nth,<-O];simp
def xp(l:List Value)(t:Nat)(v:Value):l.toArray.setIfInBounds t v=(fg l t v).toArray:=by
 have h:∀(l:List Value)t,fg l t v=l.set t v:=by
  intro l
  induction l with
  |nil=>intro t;rfl
  |cons x l O=>intro t;cases t with|zero=>rfl|succ t=>simp[fg,O]
 grind
def act(l:List Value):Act:=⟨l.toArray,[]⟩
theorem pA(l:List Value):(act l).eval=ev l:=by
 funext x;cases x<;>first|rfl|exact gQ l _
theorem pH(l:List Value)(d:Option Tmp)(v:Value):(act l).put d v=act (put l d v):=by
 cases d with
 |none=>rfl
 |some d=>simp only[act,Act.put,put];rw[xp]
abbrev nL:=Exit->List Value->World->Prop
def lift(Q:nL):Exit->Act->World->Prop:=fun e a w=>∃l,a=act l/\Q e l w
def W(P:Program)(c:Code)(Q:nL)(l:List Value)(w:World):Prop:=c.wp P (lift Q) (act l) w
def WL(P:Program)(ops:Array Oper)(Q:nL)(rest:List Oper)(l:List Value)(w:World):Prop :=
 wpList P ops (lift Q) rest (act l) w
def Vz(next:List Value->World->Prop)(Q:nL):nL
 |.normal,l,w=>next l w
 |e,l,w=>Q e l w
def UF(id:Nat)(Q:nL):nL
 |.exit c,l,w=>if c=id then Q .normal l w else Q (.exit c) l w
 |e,l,w=>Q e l w
section
variable{P:Program}{Q:nL}{l:List Value}{w:World}{ops:Array Oper}{rest:List Oper}
def W.seq{x y:Code}(h:W P x (Vz (W P y Q) Q) l w):W P (.seq x y) Q l w:=by
 refine wp_seq (wp_mono h ?_);rintro e a w⟨l,rfl,J⟩
 cases e<;>first|exact J|exact⟨l,rfl,J⟩
theorem W.skip(h:Q .normal l w):W P .skip Q l w:=wp_skip ⟨l,rfl,h⟩
def W.exit{n:Nat}(h:Q (.exit n) l w):W P (.exit n) Q l w:=wp_exit ⟨l,rfl,h⟩
def W.ret(h:Q .ret l w):W P .ret Q l w:=wp_ret ⟨l,rfl,h⟩
theorem W.block{id:Nat}{c:Code}(h:W P c (UF id Q) l w):W P (.block id c) Q l w:=by
 refine wp_block (wp_mono h ?_);rintro e a w⟨l,rfl,J⟩
 cases e with
 |exit d =>
  simp only[UF]at J
  grind[Exit.inBlock,lift,act]
 |normal=>exact⟨l,rfl,J⟩
 |goto _=>exact⟨l,rfl,J⟩
 |ret=>exact⟨l,rfl,J⟩
 |panic _=>exact⟨l,rfl,J⟩
 |outgrown=>exact⟨l,rfl,J⟩
def W.cond{c:Operand}{x y:Code}{t:Bool}(X:ev l c=.bool t)(M:t=true->W P x Q l w)(hf:t=false->W P y Q l w):W P (.cond c x y) Q l w:=by
 refine wp_cond_split (t:=t) (by rw[pA];exact X) M hf
theorem W.mono{c:Code}{Q':nL}(h:W P c Q l w)(J:∀e l w,Q e l w->Q' e l w):W P c Q' l w :=
 wp_mono h fun _ _ _ ⟨l,v,q⟩=>⟨l,v,J _ _ _ q⟩
def W.loop{c:Code}{i:Type}(B:i->Nat)(aaR:i->List Value->World->Prop)(x:i)(r:aaR x l w)
  (X:∀x l w,aaR x l w->W P c (Vz (fun v w'=>∃y,aaR y v w'/\B y<B x) Q) l w):W P (.loop c) Q l w:=by
 have S:∀n x l w,B x=n->aaR x l w->∀(b:Frame)(k:List Item)(O:List Frame),
   ∃e Z w',lift Q e Z w'/\Arrives P (lone (b.at (act l) (.code c::.inLoop c::k)) O w) b k O e Z w':=by
  intro n
  induction n using Nat.strongRecOn with
  |_ n u =>
   intro x l w t j b k O;have⟨e,q,d,J,T⟩:=X x l w j b (.inLoop c::k) O;obtain⟨z,rfl,J⟩:=J
   cases e with
   |normal =>
    have⟨y,s,R⟩:=J;have⟨Y,F,N,o,m⟩:=u (B y) (t ▸ R) y z d rfl s b k O;exact⟨Y,F,N,o,.of_steps (Steps.trans T (.one step_inLoop)) m⟩
   |exit id=>exact zaG
   |goto _=>exact zaG
   |ret=>exact zaG
   |panic H=>exact zaG
   |outgrown=>exact zaG
 intro b k O;have⟨e,Z,w',J,T⟩:=S _ x l w rfl r b k O;exact⟨e,Z,w',J,.of_steps (.one step_loop) T⟩
def W.region{id:Nat}{r:List Oper}(h:WL P r.toArray Q r l w):W P (.region id r.toArray false) Q l w :=
 wp_region_lit h
theorem WL.nil(h:Q .normal l w):WL P ops Q [] l w:=⟨l,rfl,h⟩
def WL.val{d:Option Tmp}{s:Op}{ty:TypeId}{G:String}{m:Array Edge}{v:Value}{w':World}
  (z:(execOp (ev l) ⟨d,s,ty,G,m,none⟩).run P w=.ok (.value v) w')
  (h:WL P ops Q rest (put l d v) w'):WL P ops Q (⟨d,s,ty,G,m,none⟩::rest) l w:=by
 refine wpList_plain rfl fun K i=>?_
 simp only[Oper.wp,pA,z,Oper.upon_value,pH];exact i _ _ h
def WL.skp{d:Option Tmp}{s:Op}{ty:TypeId}{G:String}{m:Array Edge}{w':World}
  (v:(execOp (ev l) ⟨d,s,ty,G,m,none⟩).run P w=.ok .skip w')
  (h:WL P ops Q rest (put l d undef) w'):WL P ops Q (⟨d,s,ty,G,m,none⟩::rest) l w:=by
 refine wpList_plain rfl fun K i=>?_
 simp only[Oper.wp,pA,v,Oper.upon_skip,pH];exact i _ _ h
def WL.gt{d:Option Tmp}{s:Op}{ty:TypeId}{G:String}{m:Array Edge}{g:Option (Nat × Bool)}
  (n:Region.wanted ⟨d,s,ty,G,m,g⟩ (yielded ops (act l).tmps)=true)
  (h:WL P ops Q (⟨d,s,ty,G,m,none⟩::rest) l w):WL P ops Q (⟨d,s,ty,G,m,g⟩::rest) l w:=by
 unfold WL wpList at *;rw[ai n];rw[ai zfl]at h;exact h
def WL.gf{d:Option Tmp}{s:Op}{ty:TypeId}{G:String}{m:Array Edge}{g:Option (Nat × Bool)}
  (n:Region.wanted ⟨d,s,ty,G,m,g⟩ (yielded ops (act l).tmps)=false)
  (h:WL P ops Q rest (put l d undef) w):WL P ops Q (⟨d,s,ty,G,m,g⟩::rest) l w:=by
 unfold WL wpList;rw[ab ze2];show wpList P ops (lift Q) rest ((act l).put d undef) w;rw[pH];exact h
end
structure Ext(S:Nat->Prop)(w w':World):Prop where
 os:w'.os=w.os
 tape:w'.tape=w.tape
 output:w'.output=w.output
 size:w.heap.size<=w'.heap.size
 block:∀k,k<w.heap.size->¬S k->w'.heap[k]?=w.heap[k]?
abbrev gx:Nat->Prop:=fun _=>False
theorem Ext.refl{S:Nat->Prop}(w:World):Ext S w w:=⟨rfl,rfl,rfl,a8 _,fun _ _ _=>rfl⟩
def Ext.trans{S:Nat->Prop}{a b c:World}(h:Ext S a b)(k:Ext S b c):Ext S a c :=
 ⟨k.os.trans h.os,k.tape.trans h.tape,k.output.trans h.output,jC h.size k.size,
  fun i j G=>(k.block i (Aj j h.size) G).trans (h.block i j G)⟩
def Ext.step{G S:Nat->Prop}{a b c:World}(h:Ext G a b)(k:Ext S b c)(H:∀j,S j->a.heap.size<=j\/G j):Ext G a c :=
 ⟨k.os.trans h.os,k.tape.trans h.tape,k.output.trans h.output,jC h.size k.size,
  fun i m d=>(k.block i (Aj m h.size) fun z=>by
   grind).trans (h.block i m d)⟩
theorem Ext.mono{S n:Nat->Prop}{a b:World}(h:Ext S a b)(G:∀k,k<a.heap.size->S k->n k):Ext n a b :=
 ⟨h.os,h.tape,h.output,h.size,fun i j c=>h.block i j fun x=>c (G i j x)⟩
def Ext.blk{S:Nat->Prop}{a b:World}(h:Ext S a b){k:Nat}{o:Obj}(j:a.heap[k]?=some o)(G:¬S k):b.heap[k]?=some o:=by
 rw[h.block k ze2 G,j]
def Kl{w:World}{b o:Nat}{cs:Array Value}{E:TypeId}{fz:Nat × Nat}{v:Value}(i:w.heap[b]?=some (.cells cs E fz))(j:cs[o]?=some v):w.cell? ⟨b,o,none⟩=some v:=by
 grind[World.cell?]
theorem Ext.below{a b:World}(h:Ext gx a b):Below a.heap.size a b:=⟨h.os,h.tape,h.output,h.size,fun k N=>h.block k N (fun x=>x)⟩
structure tK(w w':World)(b:Nat)(o:Obj):Prop where
 fresh:b=w.heap.size
 size:w'.heap.size=b+1
 blk:w'.heap[b]?=some o
 ext:Ext gx w w'
def tK.of(w:World)(o:Obj):tK w (w.alloc o) w.heap.size o :=
 ⟨rfl,by simp,heap_alloc_new w o,⟨rfl,rfl,rfl,by simp,fun k N _=>Below.heap_alloc _ _ _ N⟩⟩
def xw:TypeDesc->Bool
 |.struct _=>true
 |.array _ _=>true
 |_=>false
class Ty (P:Program) (t:TypeId) (agg:outParam Bool) (k:outParam Nat):Prop where
 und:(P.underlying t).map xw=some agg
 siz:(P.info? t).map (·.size)=some k
class lK (P:Program) (t:TypeId) (e:outParam TypeId) (k:outParam Nat):Prop where
 und:P.underlying t=some (.slice e)
 siz:(P.info? e).map (·.size)=some k
class pW (P:Program) (t:TypeId):Prop where
 und:P.underlying t=some .string
def I8(P:Program)(s:TypeId)(i:Nat)(z:Nat)(k:Nat)(agg:Bool):Bool :=
 match P.underlying s with
 |some (.struct v)=>match v[i]? with
  |some f=>f.offset==z&&(match P.info? f.type with|some x=>x.size==k|none=>false)&&k != 0&&((P.underlying f.type).map xw==some agg)
  |none=>false
 |_=>false
class ec (P:Program) (s:TypeId) (i:Nat) (off:outParam Nat) (k:outParam Nat) (agg:outParam Bool):Prop where
 is:I8 P s i off k agg=true
section
variable{P:Program}{w:World}
theorem Cq{t:TypeId}{agg:Bool}{k:Nat}[h:Ty P t agg k]:(isAgg t).run P w=.ok agg w:=by
 have⟨M,_⟩:=h
 cases T:P.underlying t with
 |none=>grind
 |some d =>
  rw[T]at M;unfold isAgg;rw[Sem.run_bind,run_underlying T w]
  cases d<;>simp_all[xw]
theorem iI{t:TypeId}{k:Nat}(h:(P.info? t).map (·.size)=some k):(sizeOf t).run P w=.ok k w:=by
 cases J:P.info? t with
 |none=>grind
 |some i=>simp[J]at h;simp[sizeOf,typeInfo,J,h]
theorem pX(b o n:Nat):(⟨b,o,none⟩:Addr).add n=⟨b,o+n,none⟩:=by
 simp[Addr.add]
theorem EL{t:TypeId}[h:Ty P t false 1]{a:Addr}{v:Value}(j:w.cell? a=some v):(loadVar t a).run P w=.ok v w:=by
 unfold loadVar
 simp_all[Sem.run_bind,Cq]
theorem jx{t:TypeId}{k:Nat}[h:Ty P t true k]{b o:Nat}{vs:List Value}(M:vs.length=k)(m:∀j v,vs[j]?=some v->w.cell? ⟨b,o+j,none⟩=some v) :
  (loadVar t ⟨b,o,none⟩).run P w=.ok (.agg vs.toArray) w:=by
 unfold loadVar;rw[Sem.run_bind,Cq (agg:=true) (k:=k)]
 have W:(loadCells ⟨b,o,none⟩ k).run P w=.ok vs.toArray w:=by
  grind[run_loadCells_list,pX]
 simp[iI h.siz,W]
end
def fB(P:Program)(l:List Value)(w:World)(s:Op)(v:Value):Prop :=
 ∀(d:Option Tmp)(n:TypeId)(G:String)(m:Array Edge),(execOp (ev l) ⟨d,s,n,G,m,none⟩).run P w=.ok (.value v) w
def WL.v{P:Program}{Q:nL}{l:List Value}{w:World}{c:Array Oper}{rest:List Oper}{d:Option Tmp}{s:Op}{ty:TypeId}{G:String}{m:Array Edge}{v:Value}
  (z:fB P l w s v)(h:WL P c Q rest (put l d v) w):WL P c Q (⟨d,s,ty,G,m,none⟩::rest) l w:=WL.val (z d ty G m) h
section
variable{P:Program}{l:List Value}{w:World}
theorem R.mv{x:Operand}:fB P l w (.move x) ((ev l x)):=fun d n G m=>by rfl
theorem R.iU{x:Operand}:fB P l w (.assign x) ((ev l x)):=fun d n G m=>by rfl
theorem R.pick{c a b:Operand}{t:Bool}(W:ev l c=.bool t):fB P l w (.pick c a b) ((if t then ev l a else ev l b)):=fun d n G m=>by simp[execOp,W,asBool]
theorem R.CW{x:Operand}{a:Addr}(hx:ev l x=.pointer (some a)):fB P l w (.nilCheck x) ((.pointer (some a))):=fun d n G m=>by simp[execOp,hx]
theorem R.extract{x:Operand}{i:Nat}{vs:Array Value}{v:Value}(hx:ev l x=.tuple vs)(j:vs[i]?=some v):fB P l w (.extract x i) (v):=fun d n G m=>by simp[execOp,hx,Instr.extract,j]
theorem R.A3{fn:Fn}{first c:Array Operand}:fB P l w (.makeFunc fn first c) ((.func fn (first.map (ev l)) (c.map (ev l)))):=fun d n G m=>by rfl
abbrev ah:=List UInt8
def sv(s:ah):Value:=.string ⟨s.toArray⟩
def toList_mk(s:ah):(⟨s.toArray⟩:ByteArray).toList=s:=by
 simp
theorem xT(s:ah):(⟨s.toArray⟩:ByteArray).size=s.length:=by
 rfl
def Kk(a b:ah):(⟨a.toArray⟩:ByteArray)++⟨b.toArray⟩=⟨(a++b).toArray⟩:=by
 rfl
theorem extract_mk(s:ah)(i j:Nat):(⟨s.toArray⟩:ByteArray).extract i j=⟨((s.take j).drop i).toArray⟩:=by
 apply ByteArray.ext
 grind[ByteArray.data_extract,List.take_drop,Nat.add_sub_cancel',List.drop_eq_nil_of_le]
abbrev ii(n:Int):Value:=.int .i64 n
def BD{n:Int}(o : -9223372036854775808<=n)(b:n<=9223372036854775807):IntKind.i64.wrap n=n:=IntWalk.i64_in _ ⟨o,b⟩
def R.OT{x:Operand}{t:TypeId}[n:pW P t]{s:ah}(hx:ev l x=sv s):fB P l w (.call ⟨.builtin .len,#[x],#[t]⟩) ((ii s.length)):=fun d o G m=>by simp[execOp,resolve,invoke,builtin,hx,sv,Builtin.len_,goInt,run_underlying n.und,xT]
def R.Jq{x:Operand}{t e:TypeId}{k:Nat}[o:lK P t e k]{a:Option Addr}{n c:Nat}(hx:ev l x=.slice a n c):fB P l w (.call ⟨.builtin .len,#[x],#[t]⟩) ((ii n)):=fun d q G m=>by simp[execOp,resolve,invoke,builtin,hx,Builtin.len_,goInt,run_underlying o.und]
theorem R.add{x y:Operand}{t k:TypeId}{a b:Int}(hx:ev l x=ii a)(B:ev l y=ii b)(o : -9223372036854775808<=a+b)(c:a+b<=9223372036854775807):fB P l w (.binOp .add t x y k) ((ii (a+b))):=fun d n G m=>by simp[execOp,eqGuard,hx,B,binOp,Op.intArith,BD o c]
theorem R.sub{x y:Operand}{t k:TypeId}{a b:Int}(hx:ev l x=ii a)(B:ev l y=ii b)(o : -9223372036854775808<=a-b)(c:a-b<=9223372036854775807):fB P l w (.binOp .sub t x y k) ((ii (a-b))):=fun d n G m=>by simp[execOp,eqGuard,hx,B,binOp,Op.intArith,BD o c]
def R.mul{x y:Operand}{t k:TypeId}{a b:Int}(hx:ev l x=ii a)(B:ev l y=ii b)(o : -9223372036854775808<=a*b)(c:a*b<=9223372036854775807):fB P l w (.binOp .mul t x y k) ((ii (a*b))):=fun d n G m=>by simp[execOp,eqGuard,hx,B,binOp,Op.intArith,BD o c]
theorem R.cat{x y:Operand}{t k:TypeId}{a b:ah}(hx:ev l x=sv a)(B:ev l y=sv b)(o:a.length+b.length<=9223372036854775807):fB P l w (.binOp .add t x y k) ((sv (a++b))):=fun d n G m=>by
  have c:¬((((⟨a.toArray⟩:ByteArray).size+(⟨b.toArray⟩:ByteArray).size:Nat):Int)>IntKind.i64.max):=by
   grind[xT,IntKind.signed,IntKind.bits,IntKind.max]
  simp only[execOp,eqGuard,hx,B,binOp,sv,Op.stringOp,ab c,Kk];simp
theorem R.eq{x y:Operand}{t m:TypeId}{k:IntKind}{a b:Int}(hx:ev l x=.int k a)(B:ev l y=.int k b):fB P l w (.binOp .eql t x y m) ((.bool (a==b))):=fun d o G n=>by simp[execOp,eqGuard,hx,B,binOp,Op.intCmp]
theorem R.ne{x y:Operand}{t m:TypeId}{k:IntKind}{a b:Int}(hx:ev l x=.int k a)(B:ev l y=.int k b):fB P l w (.binOp .neq t x y m) ((.bool (a != b))):=fun d o G n=>by simp[execOp,eqGuard,hx,B,binOp,Op.intCmp]
theorem R.lt{x y:Operand}{t m:TypeId}{k:IntKind}{a b:Int}(hx:ev l x=.int k a)(B:ev l y=.int k b):fB P l w (.binOp .lss t x y m) ((.bool (decide (a<b)))):=fun d o G n=>by simp[execOp,eqGuard,hx,B,binOp,Op.intCmp]
theorem R.le{x y:Operand}{t m:TypeId}{k:IntKind}{a b:Int}(hx:ev l x=.int k a)(B:ev l y=.int k b):fB P l w (.binOp .leq t x y m) ((.bool (decide (a<=b)))):=fun d o G n=>by simp[execOp,eqGuard,hx,B,binOp,Op.intCmp]
theorem R.ZN{x y:Operand}{t m:TypeId}{k:IntKind}{a b:Int}(hx:ev l x=.int k a)(B:ev l y=.int k b):fB P l w (.binOp .gtr t x y m) ((.bool (decide (b<a)))):=fun d o G n=>by simp[execOp,eqGuard,hx,B,binOp,Op.intCmp]
theorem R.ge{x y:Operand}{t m:TypeId}{k:IntKind}{a b:Int}(hx:ev l x=.int k a)(B:ev l y=.int k b):fB P l w (.binOp .geq t x y m) ((.bool (decide (b<=a)))):=fun d o G n=>by simp[execOp,eqGuard,hx,B,binOp,Op.intCmp]
def R.kc{x y:Operand}{t k:TypeId}{a b:ah}(hx:ev l x=sv a)(B:ev l y=sv b):fB P l w (.binOp .eql t x y k) ((.bool (a==b))):=fun d n G m=>by simp only[execOp,eqGuard,hx,B,binOp,sv,Op.stringOp,toList_mk];simp
def R.ke{x y:Operand}{t k:TypeId}{a b:ah}(hx:ev l x=sv a)(B:ev l y=sv b):fB P l w (.binOp .neq t x y k) ((.bool (!(a==b)))):=fun d n G m=>by simp only[execOp,eqGuard,hx,B,binOp,sv,Op.stringOp,toList_mk];simp
theorem R.not{x:Operand}{t:TypeId}{b:Bool}(hx:ev l x=.bool b):fB P l w (.unOp .not t x) ((.bool (!b))):=fun d n G m=>by simp[execOp,hx,Op.unary]
theorem R.fM{x y:Operand}{t:TypeId}[n:pW P t]{s:ah}{k:IntKind}{i:Nat}{c:UInt8}(hx:ev l x=sv s)(B:ev l y=.int k i)(W:s[i]?=some c):fB P l w (.index t x y) ((.int .u8 c.toNat)):=fun d o G m=>by
  have X:(⟨s.toArray⟩:ByteArray)[i]?=some c:=by
   grind[List.getElem?_eq_some_iff,xT,ByteArray.getElem_eq_getElem_data]
  simp[execOp,Instr.index,hx,B,asIntOf,run_underlying n.und,sv,X]
def R.Pw{x:Operand}{t:TypeId}[n:pW P t]{s:ah}{lo hi:Option Operand}{i j:Nat}(hx:ev l x=sv s)
  (G:match lo with|some y=>∃k,ev l y=.int k i|none=>i=0)(Z:match hi with|some y=>∃k,ev l y=.int k j|none=>j=s.length)
  (o:i<=j)(b:j<=s.length):fB P l w (.slice t x lo hi none) ((sv ((s.take j).drop i))):=fun d q H m=>by
  have z:=xT s
  cases lo<;>cases hi<;>simp only at G Z
  ·subst G;subst Z;simp[execOp,Instr.sliceAt,Instr.slice,Instr.sliceBounds,hx,sv,run_underlying n.und,z,extract_mk]
  ·have⟨k,N⟩:=Z;subst G;simp[execOp,Instr.sliceAt,Instr.slice,Instr.sliceBounds,Instr.sliceBound,asIntOf,hx,N,sv,run_underlying n.und,z,extract_mk,b]
  ·have⟨k,N⟩:=G;subst Z;simp[execOp,Instr.sliceAt,Instr.slice,Instr.sliceBounds,Instr.sliceBound,asIntOf,hx,N,sv,run_underlying n.und,z,extract_mk,o]
  ·have⟨k,N⟩:=G;have⟨O,S⟩:=Z;simp[execOp,Instr.sliceAt,Instr.slice,Instr.sliceBounds,Instr.sliceBound,asIntOf,hx,N,S,sv,run_underlying n.und,z,extract_mk,o,b]
def R.gi{x y:Operand}{t e:TypeId}{k:Nat}[q:lK P t e k]{b o n c:Nat}{z:IntKind}{i:Nat}(hx:ev l x=.slice (some ⟨b,o,none⟩) n c)(B:ev l y=.int z i)(hi:i<n):fB P l w (.indexAddr t x y) ((.pointer (some ⟨b,o+i*k,none⟩))):=fun d r G m=>by
  simp[execOp,Instr.indexAt,hx,B,asIntOf,run_underlying q.und,hi,iI q.siz,pX]
theorem R.N9{x:Operand}{s:TypeId}{i z k:Nat}{agg:Bool}[n:ec P s i z k agg]{b o:Nat}(hx:ev l x=.pointer (some ⟨b,o,none⟩)):fB P l w (.fieldAddr s x i) ((.pointer (some ⟨b,o+z,none⟩))):=fun d t J r=>by
  have⟨n⟩:=n;unfold I8 at n;split at n
  ·rename_i v M;split at n
   ·rename_i f m;simp only[aZ,beq_iff_eq,bne_iff_ne,ne_eq]at n;have⟨⟨⟨q,c⟩,G⟩,C⟩:=n;split at c
    ·rename_i x N
     have H:(P.info? f.type).map (·.size)=some k:=by grind
     simp[execOp,Instr.fieldAt,hx,run_underlying M,m,Instr.sureAddr,fieldPlace,iI H,G,pX,q]
    grind
   grind
  grind
def R.ld1{x:Operand}{t:TypeId}[n:Ty P t false 1]{a:Addr}{v:Value}(hx:ev l x=.pointer (some a))(j:w.cell? a=some v):fB P l w (.load t x) (v):=fun d o G m=>by simp[execOp,Instr.loadAt,hx,Instr.sureAddr,EL j]
def R.ldN{x:Operand}{t:TypeId}{k:Nat}[q:Ty P t true k]{b o:Nat}{vs:List Value}(hx:ev l x=.pointer (some ⟨b,o,none⟩))(M:vs.length=k)
  (m:∀j v,vs[j]?=some v->w.cell? ⟨b,o+j,none⟩=some v):fB P l w (.load t x) ((.agg vs.toArray)):=fun d r G n=>by simp[execOp,Instr.loadAt,hx,Instr.sureAddr,jx M m]
end
def jb(H:Array Obj)(b o:Nat):Option Value :=
 match H[b]? with
 |some (.cells c _ _)=>c[o]?
 |_=>none
theorem gb(w:World)(b o:Nat):w.cell? ⟨b,o,none⟩=jb w.heap b o:=by
 rfl
def Du{H:Array Obj}{b o:Nat}{v:Value}(h:jb H b o=some v):b<H.size:=by
 grind[jb,Array.getElem?_eq_some_iff]
def Ext.c{S:Nat->Prop}{w w':World}(hx:Ext S w w'){b o:Nat}{v:Value}(h:jb w.heap b o=some v)(G:¬S b):jb w'.heap b o=some v:=by
 unfold jb at *;rw[hx.block b (Du (H:=w.heap) (by unfold jb;exact h)) G];exact h
theorem yH{H:Array Obj}{b o:Nat}{cs:Array Value}{E:TypeId}{fz:Nat × Nat}{v:Value}(i:H[b]?=some (.cells cs E fz))(j:cs[o]?=some v):jb H b o=some v:=by
 grind[jb]
def Ext.drew{S:Nat->Prop}(w:World):Ext S w w.drew:=⟨rfl,rfl,rfl,a8 _,fun _ _ _=>rfl⟩
theorem R.ld{P:Program}{l:List Value}{w:World}{x:Operand}{t:TypeId}[n:Ty P t false 1]{b o:Nat}{v:Value}(hx:ev l x=.pointer (some ⟨b,o,none⟩))(j:jb w.heap b o=some v):fB P l w (.load t x) v:=R.ld1 hx (by grind[gb])
def R.XX{P:Program}{l:List Value}{w:World}{x:Operand}{t:TypeId}{k:Nat}[n:Ty P t true k]{b o:Nat}{vs:List Value}(hx:ev l x=.pointer (some ⟨b,o,none⟩))(M:vs.length=k)
  (m:∀j v,vs[j]?=some v->jb w.heap b (o+j)=some v):fB P l w (.load t x) (.agg vs.toArray):=R.ldN hx M (fun j v h=>by grind[gb])
class oX (P:Program) (t:TypeId) (z:outParam Value):Prop where
 is:(P.info? t).bind (·.zero)=some z
structure tM(w w':World)(b:Nat)(cs:Array Value)(E:TypeId):Prop where
 blk:w'.heap[b]?=some (.cells cs E (0,0))
 ext:Ext (·=b) w w'
 size:w'.heap.size=w.heap.size
def setL(cs:Array Value)(o:Nat):List Value->Array Value
 |[]=>cs
 |v::r=>setL (cs.setIfInBounds o v) (o+1) r
def lf(vs:List Value):Bool:=vs.all (·.oneCell')
section
variable{P:Program}{w:World}
theorem y9{t:TypeId}{z:Value}[h:oX P t z]:(zeroValue t).run P w=.ok z w:=by
 have⟨h⟩:=h
 cases J:P.info? t with
 |none=>grind
 |some i=>simp[J]at h;simp[zeroValue,typeInfo,J,h]
theorem tM.refl{b:Nat}{cs:Array Value}{E:TypeId}(i:w.heap[b]?=some (.cells cs E (0,0))):tM w w b cs E:=⟨i,Ext.refl _,rfl⟩
def tM.trans{W Y:World}{b:Nat}{cs Z:Array Value}{E:TypeId}(h:tM w W b cs E)(k:tM W Y b Z E):tM w Y b Z E :=
 ⟨k.blk,h.ext.trans k.ext,k.size.trans h.size⟩
theorem tM.setCell{b o:Nat}{cs:Array Value}{E:TypeId}(i:w.heap[b]?=some (.cells cs E (0,0)))(v:Value) :
  tM w (w.setCell ⟨b,o,none⟩ v) b (cs.setIfInBounds o v) E :=
 ⟨heap_setCell_same w b o cs E v i,⟨rfl,rfl,rfl,by simp,fun k _ G=>heap_setCell_other w _ k v G⟩,by simp⟩
theorem vn{b o:Nat}{E:TypeId}:∀(vs:List Value)(i:Nat)(w:World)(cs:Array Value),w.heap[b]?=some (.cells cs E (0,0))->o+i+vs.length<=cs.size->lf vs=true ->
  ∃w',(storeCells ⟨b,o,none⟩ vs i).run P w=.ok () w'/\tM w w' b (setL cs (o+i) vs) E
 |[],i,w,cs,j,_,_=>⟨w,by rfl,tM.refl j⟩
 |v::r,i,w,cs,j,M,q=>by
  simp only[lf,List.all_cons,aZ]at q;simp only[List.length_cons]at M;have G:=tM.setCell (w:=w) (o:=o+i) j v;obtain⟨w',A,s⟩:=vn (b:=b) (o:=o) (E:=E) r (i+1) _ _ G.blk ze2 q.2;refine⟨w',?_,G.trans (by grind[World.setCell,setL])⟩;have W:w.cell? ⟨b,o+i,none⟩=cs[o+i]?:=cell_of_row w b (o+i) cs E (0,0) j;have z:∃u,w.cell? ⟨b,o+i,none⟩=some u:=⟨cs[o+i]'ze4,by grind⟩;have⟨u,N⟩:=z;have m:w.frozen? ⟨b,o+i,none⟩=false:=frozen_of_row w b _ cs E j
  have c:(store ((⟨b,o,none⟩:Addr).add i) v).run P w=.ok () (w.setCell ⟨b,o+i,none⟩ v):=by
   rw[pX]
   cases v<;>first|(simp[Value.oneCell']at q;done)|simp[store,Sem.run,N,m]
  grind[Sem.run_bind,Result.andThen_ok,Sem.run,storeCells]
def EM{t:TypeId}{agg:Bool}{k:Nat}[n:Ty P t agg k]{b o:Nat}{E:TypeId}{cs:Array Value}{v:Value}(i:w.heap[b]?=some (.cells cs E (0,0)))
  (M:v.cells.size=k)(A:o+k<=cs.size)(q:lf v.cells.toList=true) :
  ∃w',(storeVar t ⟨b,o,none⟩ v).run P w=.ok () w'/\tM w w' b (setL cs o v.cells.toList) E:=by
 have⟨w',z,G⟩:=vn (P:=P) (o:=o) v.cells.toList 0 w cs i ze2 q;refine⟨w',?_,by omega⟩;simp[storeVar,iI n.siz,M,z]
end
def mG:List Value->Nat->List Value->List Value
 |cs,_,[]=>cs
 |cs,o,v::r=>mG (fg cs o v) (o+1) r
def qa(q:Nat->Option (Nat × Nat)):List Value->List (Nat × Value)->Option (List Value)
 |cs,[]=>some cs
 |cs,(i,v)::r=>match q i with
  |none=>none
  |some (o,k)=>if v.cells.size≠k ||decide (o+v.cells.size>cs.length)then none else qa q (mG cs o v.cells.toList) r
def zw:∀(vs:List Value)(cs:List Value)(o n:Nat),
  (vs.zipIdx n).foldl (fun(cs:Array Value)(x:Value × Nat)=>cs.setIfInBounds (o+x.2) x.1) cs.toArray=(mG cs (o+n) vs).toArray
 |[],cs,o,n=>by rfl
 |v::r,cs,o,n=>by
  simp only[List.zipIdx_cons,List.foldl_cons,xp,mG];rw[zw r];rfl
def wO(q:Nat->Option (Nat × Nat)):∀(parts:List (Nat × Value))(cs:List Value),
  Instr.fill q cs.toArray parts=(qa q cs parts).map List.toArray
 |[],cs=>by rfl
 |(i,v)::r,cs=>by
  simp only[Instr.fill,qa]
  cases W:q i with
  |none=>rfl
  |some x =>
   have⟨o,k⟩:=x;simp only[List.size_toArray];split
   ·rfl
   ·have h:(v.cells.zipIdx.foldl (fun(cs:Array Value)(x:Value × Nat)=>cs.setIfInBounds (o+x.2) x.1) cs.toArray)=(mG cs o v.cells.toList).toArray:=by
     have:=zw v.cells.toList cs o 0
     grind[Array.toList_zipIdx]
    have b:=wO q r (mG cs o v.cells.toList)
    grind
def QS(P:Program)(t:TypeId)(o:List (Nat × Nat)):Bool :=
 match P.underlying t with
 |some (.struct v)=>(v.toList.map fun f=>(f.offset,(P.info? f.type).map (·.size)))==o.map fun x=>(x.1,some x.2)
 |_=>false
class rA (P:Program) (t:TypeId) (pl:outParam (List (Nat × Nat))) (z:outParam (List Value)):Prop where
 is:QS P t pl=true
 zero:(P.info? t).bind (·.zero)=some (.agg z.toArray)
section
variable{P:Program}{w:World}
theorem zZ{v:List Field}:∀{o:List (Nat × Nat)},(v.map fun f=>(f.offset,(P.info? f.type).map (·.size)))=(o.map fun x=>(x.1,some x.2)) ->
  (List.mapM (m:=Sem) (fun(f:Field)=>Functor.map (Prod.mk f.offset) (sizeOf f.type)) v).run P w=.ok o w:=by
 induction v with
 |nil=>simp
 |cons f v O =>
  intro o h
  cases o with
  |nil=>simp at h
  |cons x o =>
   simp only[List.map_cons,List.cons.injEq,Prod.mk.injEq]at h;have⟨⟨q,b⟩,G⟩:=h;have:=O G;have e:=iI (w:=w) b
   simp_all
theorem run_build{t:TypeId}{o:List (Nat × Nat)}{z:List Value}[n:rA P t o z]{parts:List (Nat × Value)}{cs:List Value}(hf:qa (fun i=>o[i]?) z parts=some cs) :
  (Instr.build t parts.toArray).run P w=.ok (.agg cs.toArray) w:=by
 have⟨j,q⟩:=n
 have G:(zeroValue t).run P w=.ok (.agg z.toArray) w:=by
  haveI:oX P t (.agg z.toArray):=⟨q⟩
  exact y9
 unfold QS at j;split at j
 ·rename_i v M;have k:=zZ (P:=P) (w:=w) (eq_of_beq j)
  have e:(Array.mapM (m:=Sem) (fun(f:Field)=>Functor.map (Prod.mk f.offset) (sizeOf f.type)) v).run P w=.ok o.toArray w:=by
   simp_all[Array.mapM_eq_mapM_toList]
  have b:=wO (fun i=>o[i]?) parts z;rw[hf]at b;simp[Instr.build,Sem.run_bind,G,run_underlying M,e,Value.cells];simp[b]
 grind
end
section
variable{P:Program}{Q:nL}{l:List Value}{w:World}{ops:Array Oper}{rest:List Oper}{d:Option Tmp}{ty:TypeId}{pos:String}{af:Array Edge}
def z6(t:TypeId)(v:Value):(newVar t v).run P w=.ok ⟨w.heap.size,0,none⟩ (w.alloc (.cells v.cells t)):=by
 rfl
def WL.alloc{t:TypeId}{z:Value}[n:oX P t z](h:∀b w',tK w w' b (.cells z.cells t)->WL P ops Q rest (put l d (.pointer (some ⟨b,0,none⟩))) w') :
  WL P ops Q (⟨d,.alloc t,ty,pos,af,none⟩::rest) l w :=
 WL.val (w':=w.alloc (.cells z.cells t)) (by simp[execOp,Instr.alloc,y9 (w:=w) (z:=z),z6]) (h _ _ (tK.of w _))
def WL.box{t:TypeId}{x:Operand}{v:Value}(hx:ev l x=v)(h:∀b w',tK w w' b (.cells v.cells t)->WL P ops Q rest (put l d (.pointer (some ⟨b,0,none⟩))) w') :
  WL P ops Q (⟨d,.box t x,ty,pos,af,none⟩::rest) l w :=
 WL.val (w':=w.alloc (.cells v.cells t)) (by simp[execOp,Instr.box,z6,hx]) (h _ _ (tK.of w _))
def R.build{t:TypeId}{o:List (Nat × Nat)}{z:List Value}[n:rA P t o z]{parts:List (Nat × Operand)}{cs:List Value}
  (hf:qa (fun i=>o[i]?) z (parts.map fun x=>(x.1,ev l x.2))=some cs):fB P l w (.build t parts.toArray) (.agg cs.toArray):=fun d ty pos af=>by
  have v:=run_build (P:=P) (w:=w) (t:=t) hf;simp only[execOp,map_toArray];simp[v]
class n5 (P:Program) (t:TypeId) (e:outParam TypeId) (k:outParam Nat) (z:outParam (List Value)):Prop where
 und:P.underlying t=some (.slice e)
 siz:(P.info? e).map (·.size)=some k
 zero:(P.info? e).bind (·.zero)=some (if k=1 then z.headD undef else .agg z.toArray)
 zl:z.length=k
 pos:0<k
 one:k=1->(z.headD undef).cells=#[z.headD undef]
theorem n5.cells{t e:TypeId}{k:Nat}{z:List Value}(h:n5 P t e k z):(if k=1 then z.headD undef else .agg z.toArray).cells=z.toArray:=by
 split
 ·rename_i N;rw[h.one N];have:=h.zl;rw[N]at this
  match z,this with
  |[a],_=>rfl
 ·rfl
theorem WL.A4{t e:TypeId}{k:Nat}{z:List Value}[o:n5 P t e k z]{n:Nat}{parts:List (Nat × Operand)}{cs:List Value}(hn:n*k<=16777216)
  (hf:qa (fun i=>some (i*k,k)) ((List.range (n*k)).map fun j=>z.getD (j%k) undef) (parts.map fun x=>(x.1,ev l x.2))=some cs)
  (h:∀b w',tK w w' b (.cells cs.toArray e)->WL P ops Q rest (put l d (.slice (some ⟨b,0,none⟩) n n)) w') :
  WL P ops Q (⟨d,.buildSlice t n parts.toArray,ty,pos,af,none⟩::rest) l w :=
 WL.val (w':=w.alloc (.cells cs.toArray e)) (by
  have r:(zeroValue e).run P w=.ok (if k=1 then z.headD undef else .agg z.toArray) w:=by
   haveI:oX P e (if k=1 then z.headD undef else .agg z.toArray):=⟨o.zero⟩
   exact y9
  have W:=o.cells;generalize(if k=1 then z.headD undef else .agg z.toArray:Value)=G at r W;have c:=wO (fun i=>some (i*k,k)) (parts.map fun x=>(x.1,ev l x.2)) ((List.range (n*k)).map fun j=>z.getD (j%k) undef);rw[hf]at c
  have m:¬(16777216<n*k):=by omega
  by_cases q:n*k=0
  ·have H:n=0:=by
    rcases Nat.mul_eq_zero.1 q with h|h
    ·exact h
    ·have:=o.pos;omega
   subst H;simp only[Nat.zero_mul,List.range_zero,List.map_nil]at c;simp only[execOp,map_toArray];have v:(Array.range 0)=#[]:=rfl;simp[Instr.buildSlice,run_underlying o.und,iI o.siz,v,c];rfl
  ·have s:(Array.range (n*k)).map (fun j=>z.toArray[j%z.toArray.size]!)=((List.range (n*k)).map fun j=>z.getD (j%k) undef).toArray:=by
    apply Array.ext';simp only[Array.toList_map,Array.toList_range];apply List.map_congr_left;intro j _;have O:=o.pos
    have N:j%k<z.length:=by rw[o.zl];exact Nat.mod_lt _ O
    rw[List.getD_eq_getElem?_getD,cY N];simp[o.zl]
    grind
   rw[<-s]at c;simp only[execOp,map_toArray];simp[Instr.buildSlice,run_underlying o.und,iI o.siz,m,q,r,W];simp only[List.size_toArray]at c;simp at c;simp[c]
   rfl) (h _ _ (tK.of w _))
def WL.st{x y:Operand}{t:TypeId}{agg:Bool}{k:Nat}[n:Ty P t agg k]{b o:Nat}{E:TypeId}{cs:Array Value}{v:Value}(hx:ev l x=.pointer (some ⟨b,o,none⟩))(B:ev l y=v)
  (i:w.heap[b]?=some (.cells cs E (0,0)))(M:v.cells.size=k)(A:o+k<=cs.size)(q:lf v.cells.toList=true)
  (h:∀w',tM w w' b (setL cs o v.cells.toList) E->WL P ops Q rest (put l d undef) w'):WL P ops Q (⟨d,.store t x y,ty,pos,af,none⟩::rest) l w:=by
 have⟨w',z,G⟩:=EM (P:=P) (t:=t) i M A q;exact WL.skp (w':=w') (by simp[execOp,Instr.storeAt,hx,B,Instr.sureAddr,z]) (h w' G)
end
def qE(P:Program)(f:FuncId):Bool :=
 match P.funcs[f]? with
 |some fn=>fn.name != "runtime.NumGoroutine" && fn.body.isSome
 |none=>false
class fQ (P:Program) (f:FuncId):Prop where
 ok:qE P f=true
def nZ(P:Program)(f:FuncId)(args:List Value)(w:World)(R:Value->World->Prop):Prop :=
 Calls P f args.toArray w fun e Z=>∃v,e=.returned v/\R v Z
theorem nZ.mono{P:Program}{f:FuncId}{args:List Value}{w:World}{R b:Value->World->Prop}(h:nZ P f args w R)(z:∀v w',R v w'->b v w'):nZ P f args w b :=
 Calls.mono h fun _ _ ⟨v,e,r⟩=>⟨v,e,z _ _ r⟩
def ou{P:Program}{w:World}{f:FuncId}[h:fQ P f](args:Array Value):(callFunc f args).run P w=.ok (.enter f args) w:=by
 have⟨h⟩:=h;unfold qE at h;split at h
 ·rename_i fn m;simp only[aZ,bne_iff_ne,ne_eq]at h
  have b:fn.body.isNone=false:=by simp_all
  simp[callFunc,program,Sem.run,m,h.1,b]
  grind
 ·cases h
section
variable{P:Program}{Q:nL}{l:List Value}{w:World}{ops:Array Oper}{rest:List Oper}{d:Option Tmp}{ty:TypeId}{pos:String}{af:Array Edge}
def WL.calls{s:Op}{f:FuncId}{Ay:List Value}(z:(execOp (ev l) ⟨d,s,ty,pos,af,none⟩).run P w=.ok (.enter f Ay.toArray) w){R:Value->World->Prop}
  (W:nZ P f Ay w R)(h:∀v w',R v w'->WL P ops Q rest (put l d v) w'):WL P ops Q (⟨d,s,ty,pos,af,none⟩::rest) l w:=by
 refine wpList_plain rfl fun K i=>?_
 simp only[Oper.wp,pA,z,Oper.upon_enter];refine Calls.mono W ?_;rintro e w'⟨v,rfl,j⟩;simp only[pH];exact i _ _ (h v w' j)
def WL.call{f:FuncId}[hf:fQ P f]{args:List Operand}{T:Array TypeId}{Ay:List Value}(ha:args.map (ev l)=Ay){R:Value->World->Prop}
  (W:nZ P f Ay w R)(h:∀v w',R v w'->WL P ops Q rest (put l d v) w'):WL P ops Q (⟨d,.call ⟨.value (.func f),args.toArray,T⟩,ty,pos,af,none⟩::rest) l w :=
 WL.calls (by simp[execOp,resolve,ev,Deferred.ofValue,invoke,ou,ha]) W h
end
def EH:Nat->List Value
 |0=>[]
 |n+1=>undef::EH n
def frame:List Value->Nat->List Value
 |[],n=>EH n
 |a::r,n=>a::frame r (n-1)
def Vf(n:Nat):EH n=List.replicate n undef:=by
 induction n with
 |zero=>rfl
 |succ n O=>grind[EH]
def Oc(args:List Value)(n:Nat):frame args n=args++List.replicate (n-args.length) undef:=by
 induction args generalizing n with
 |nil=>simp[frame,Vf]
 |cons a r O=>grind[frame,undef]
def IZ(P:Program)(fn:Func)(R:Value->World->Prop):nL
 |.normal,l,w|.ret,l,w=>∃v,(results fn l.toArray).run P w=.ok v w/\R v w
 |_,_,_=>False
theorem nZ.enter{P:Program}{f:FuncId}{fn:Func}{c:Code}{args:List Value}{w:World}{R:Value->World->Prop}{n:Nat}{l:List Value}
  (hf:P.funcs[f]?=some fn)(hn:fn.ntmps=n)(i:fn.body=some c)(M:frame args n=l)(h:W P c (IZ P fn R) l w):nZ P f args w R:=by
 subst M;refine calls_of_wp hf i ?_
 have C:(args.toArray++Array.replicate (fn.ntmps-args.toArray.size) undef)=(frame args n).toArray:=by
  simp[Oc,hn]
 rw[C];refine wp_mono h ?_;rintro e a w⟨l,rfl,J⟩
 cases e<;>simp only[IZ]at J<;>simp only[bodyPost]
 ·have⟨v,z,j⟩:=J;exact⟨rfl,v,z,v,rfl,j⟩
 ·have⟨v,z,j⟩:=J;exact⟨rfl,v,z,v,rfl,j⟩
def Tp(P:Program)(t e k m:Nat):Bool :=
 (match P.underlying t with|some (.slice b)=>b==e|_=>false) &&
 (match P.info? e with
  |some i=>(match i.zero with|some z=>z.cells.size==k|none=>false)&&i.size==k&&i.bytes==m
  |none=>false)&&k != 0
class mO (P:Program) (t:TypeId) (e:outParam TypeId) (k:outParam Nat) (Zw:outParam Nat):Prop where
 is:Tp P t e k Zw=true
def mO.parts{P:Program}{t e k m:Nat}(h:mO P t e k m) :
  P.underlying t=some (.slice e)/\(∃i z,P.info? e=some i/\i.zero=some z/\z.cells.size=k/\i.size=k/\i.bytes=m)/\0<k:=by
 have⟨h⟩:=h;simp only[Tp,aZ,bne_iff_ne,ne_eq]at h
 grind
abbrev iw(w:World)(base:Nat)(e k:Nat)(v:Value)(n:Nat)(xs:List Value):Prop:=w.ownsRow base e k v n xs
theorem iw.nil(w:World)(base e k:Nat):iw w base e k (.slice none 0 0) 0 []:=World.ownsRow_nil w base e k
def iw.ext{S:Nat->Prop}{w w':World}{base e k:Nat}{v:Value}{n:Nat}{xs:List Value}(h:iw w base e k v n xs)(hx:Ext S w w')(G:∀b,v.ownBlock=some b->¬S b):iw w' base e k v n xs:=by
 have⟨o,i⟩:=h;refine⟨o,?_⟩
 rcases i with i|⟨g,c,cur,rfl,j,X,r⟩
 ·grind
 ·exact .inr ⟨g,c,cur,rfl,j,hx.blk X (G g rfl),r⟩
theorem iw.lt{w:World}{base e k:Nat}{v:Value}{n:Nat}{xs:List Value}(h:iw w base e k v n xs){b:Nat}(j:v.ownBlock=some b):base<=b/\b<w.heap.size:=by
 have⟨o,c⟩:=h
 grind[Value.ownBlock,Option.some.injEq]
def iw.shape{w:World}{base e k:Nat}{v:Value}{n:Nat}{xs:List Value}(h:iw w base e k v n xs):∃a c,v=.slice a n c:=by
 have⟨o,b⟩:=h
 grind
def iw.base{w:World}{base b e k:Nat}{v:Value}{n:Nat}{xs:List Value}(h:iw w base e k v n xs)(j:b<=base):iw w b e k v n xs:=by
 have⟨o,i⟩:=h;refine⟨o,?_⟩
 rcases i with i|⟨g,c,cur,rfl,s,r⟩
 ·grind
 ·exact .inr ⟨g,c,cur,rfl,jC j s,r⟩
theorem iw.cells{w:World}{base e k:Nat}{v:Value}{n:Nat}{xs:List Value}(h:iw w base e k v n xs) :
  xs.length=n*k/\(xs≠[]->∃b c,v=.slice (some ⟨b,0,none⟩) n c/\base<=b/\b<w.heap.size/\∀j u,xs[j]?=some u->w.cell? ⟨b,j,none⟩=some u):=by
 have⟨o,m⟩:=h;refine⟨o,fun q=>?_⟩
 rcases m with⟨rfl,rfl⟩|⟨g,i,cur,rfl,r,X,t,s,z,M⟩
 ·grind
 grind[World.cell?]
def iw.U2{w w':World}{b e k n:Nat}{cs:List Value}(h:tK w w' b (.cells cs.toArray e))(M:cs.length=n*k)(j:n<=maxLen):iw w' w.heap.size e k (.slice (some ⟨b,0,none⟩) n n) n cs :=
 ⟨M,.inr ⟨b,n,cs.toArray,rfl,by rw[h.fresh];simp,h.blk,a8 _,j,by omega,by grind⟩⟩
section
variable{P:Program}{Q:nL}{l:List Value}{w:World}{ops:Array Oper}{rest:List Oper}{d:Option Tmp}{ty:TypeId}{pos:String}{af:Array Edge}
theorem WL.app{s x:Operand}{t e k N:Nat}[hT:mO P t e k N]{base n m c b o:Nat}{xs news:List Value}{v:Value}(hs:ev l s=v)(r:iw w base e k v n xs)
  (hx:ev l x=.slice (some ⟨b,o,none⟩) m c)(hl:news.length=m*k)(aac:∀j u,news[j]?=some u->w.cell? ⟨b,o+j,none⟩=some u)(h1:lf news=true)
  (ZZ:n+m<=9223372036854775807)(J:(n+m)*N<=140737488355328)(O:base<=w.heap.size)
  (h:∀T w',iw w' base e k T (n+m) (xs++news)->Ext (fun b=>v.ownBlock=some b) w w'->(∀b,T.ownBlock=some b->v.ownBlock=some b\/w.heap.size<=b)->(Ext gx w w'\/T.ownBlock=v.ownBlock)->WL P ops Q rest (put l d T) w') :
  WL P ops Q (⟨d,.call ⟨.builtin .append,#[s,x],#[t,t]⟩,ty,pos,af,none⟩::rest) l w:=by
 have⟨X,⟨i,z,W,hz,LC,H,Qj⟩,hk⟩:=hT.parts;have⟨T,w',hr,h2,Y,h4⟩:=run_append_own (P:=P) w base t ty e i z k N X W hz H Qj LC hk v n xs r ⟨b,o,none⟩ m c news hl
  (fun j u hj=>by grind[Addr.add]) (by grind[lf]) zfd J O
 have Z:Ext (fun b=>v.ownBlock=some b) w w':=⟨Y.os,Y.tape,Y.output,Y.size,fun j hj hn=>Y.block j hj fun he=>hn he.symm⟩
 have q:∀j u,news[j]?=some u->w.cell? ((⟨b,o,none⟩:Addr).add j)=some u:=fun j u hj=>by grind[Addr.add]
 have C:news.length=m*i.size:=by grind
 have M:(n+m)*i.bytes<=140737488355328:=by grind
 refine WL.val (v:=T) (w':=w') (by simp[execOp,resolve,invoke,builtin,hs,hx,hr]) (h T w' h2 Z ?_ ?_)
 ·intro b' Lk;have F:=r.2
  rcases F with⟨rfl,rfl⟩|⟨g,B,cur,rfl,Qh,hg,B2,Lo,R,S⟩
  ·by_cases hm:m=0
   ·grind
   ·have G:=run_append_nil (P:=P) w t ty e i z X W hz ⟨b,o,none⟩ m c news C q ze4 ze4 ze2
    exact zbM
  ·by_cases A:n+m<=B
   ·have G:=run_append_room (P:=P) w t ty e i X W g n B cur hg ⟨b,o,none⟩ m c news C q (by grind[lf]) A
     zfB
    exact zbM
   ·have E:∀j u,xs[j]?=some u->w.cell? ((⟨g,0,none⟩:Addr).add j)=some u:=World.ownsRow.cells (g:=g) r rfl;have G:=run_append_grow (P:=P) w t ty e i z X W hz ⟨g,0,none⟩ n B xs (by rw[H];exact r.1) E ⟨b,o,none⟩ m c news C q ze4 ze4 (growslice_fits ze4 M)
    exact zbM
 ·have F:=r.2
  rcases F with⟨rfl,rfl⟩|⟨g,B,cur,rfl,Qh,hg,B2,Lo,R,S⟩
  ·exact zbM
  ·by_cases A:n+m<=B
   ·have G:=run_append_room (P:=P) w t ty e i X W g n B cur hg ⟨b,o,none⟩ m c news C q (by grind[lf]) A
     zfB
    exact zbM
   ·have E:∀j u,xs[j]?=some u->w.cell? ((⟨g,0,none⟩:Addr).add j)=some u:=World.ownsRow.cells (g:=g) r rfl;have G:=run_append_grow (P:=P) w t ty e i z X W hz ⟨g,0,none⟩ n B xs (by rw[H];exact r.1) E ⟨b,o,none⟩ m c news C q ze4 ze4 (growslice_fits ze4 M);rw[hr]at G;cases G;exact zde
theorem WL.push{x s:Operand}{t e k J:Nat}{z:List Value}[hT:mO P t e k J][hZ:n5 P t e k z]{base n:Nat}{xs vs:List Value}{v val:Value}{G:Tmp}{MZ:TypeId}{N:String}{R:Array Edge}
  (hx:ev l x=val)(hs:∀u,ev (put l (some G) u) s=v)(hd:∀u,ev (put l (some G) u) (.tmp G)=u)(hc:val.cells=vs.toArray)(hk:vs.length=k)(h1:lf vs=true)
  (M:iw w base e k v n xs)(T:n+1<=9223372036854775807)(B:(n+1)*J<=140737488355328)(aan:k<=16777216)(C:base<=w.heap.size)
  (h:∀u H w',iw w' base e k H (n+1) (xs++vs)->Ext (fun b=>v.ownBlock=some b) w w'->(∀b,H.ownBlock=some b->v.ownBlock=some b\/w.heap.size<=b)->(Ext gx w w'\/H.ownBlock=v.ownBlock)->WL P ops Q rest (put (put l (some G) u) d H) w') :
  WL P ops Q (⟨some G,.buildSlice t 1 #[(0,x)],MZ,N,R,none⟩::⟨d,.call ⟨.builtin .append,#[s,.tmp G],#[t,t]⟩,ty,pos,af,none⟩::rest) l w:=by
 have hkp:=hZ.pos
 have rI:val.cells.size=k:=by grind
 have aaL:∀(vs q:List Value),vs.length=q.length->mG q 0 vs=vs:=by
  have S:∀(vs o q:List Value),vs.length=q.length->mG (o++q) o.length vs=o++vs:=by
   intro vs
   induction vs with
   |nil=>grind[mG]
   |cons a r ih =>
    intro o q O
    cases q with
    |nil=>simp at O
    |cons c q =>
     have hu:fg (o++c::q) o.length a=o++a::q:=by
      clear O
      induction o with
      |nil=>rfl
      |cons p o Z=>simp[fg,Z]
     rw[mG,hu];have:=ih (o++[a]) q ze2
     grind
  intro vs q O;exact S vs [] q O
 have E:qa (fun i=>some (i*k,k)) ((List.range (1*k)).map fun j=>z.getD (j%k) undef) ([((0:Nat),x)].map fun y=>(y.1,ev l y.2))=some vs:=by
  grind[qa,undef,ev]
 refine WL.A4 (n:=1) (parts:=[(0,x)]) ze4 E ?_;intro b2 w2 A;have F:iw w2 base e k v n xs:=M.ext A.ext (fun _ _ h=>h);refine WL.app (base:=base) (v:=v) (n:=n) (xs:=xs) (news:=vs) (m:=1) (hs _) F (hd _) ze4 (fun j u hj=>?_) h1 T B (jC C A.ext.size) ?_
 ·rw[dy];exact Kl A.blk ze2
 ·intro H w3 ho Y hb X;refine h _ H w3 ho ((A.ext.mono (fun _ _ h=>h.elim)).trans Y) (fun b W=>?_) (X.imp (fun h5=>A.ext.trans h5) id)
  rcases hb b W with h4|h4
  ·grind
  ·exact .inr (jC A.ext.size h4)
end
def qO:List Oper->Nat->Oper
 |[],_=>default
 |o::_,0=>o
 |_::r,n+1=>qO r n
theorem Sk(s:List Oper)(i:Nat)(o:Oper)(h:s.toArray[i]?=some o):qO s i=o:=by
 have e:s[i]?=some o:=by grind
 clear h
 induction s generalizing i with
 |nil=>simp at e
 |cons x r O =>
  cases i with
  |zero=>grind[qO]
  |succ i=>grind[qO]
def JJ:IntKind->IntKind->Bool
 |.i8,.i8|.i16,.i16|.i32,.i32|.i64,.i64|.u8,.u8|.u16,.u16|.u32,.u32|.u64,.u64=>true
 |_,_=>false
def Pj{a b:IntKind}(h:JJ a b=true):a=b:=by cases a<;>cases b<;>first|rfl|cases h
def I9(op:BinOp)(a b:Int):Option Value :=
 match op with
 |.eql=>some (.bool (a==b))
 |.neq=>some (.bool (a != b))
 |.lss=>some (.bool (decide (a<b)))
 |.leq=>some (.bool (decide (a<=b)))
 |.gtr=>some (.bool (decide (b<a)))
 |.geq=>some (.bool (decide (b<=a)))
 |_=>none
def CU(op:BinOp):Value->Value->Option Value
 |.int k a,.int N b=>match JJ k N with
  |true=>I9 op a b
  |false=>none
 |_,_=>none
def vL(c:Op)(x:Value):Option Value :=
 match c with
 |.nilCheck _=>match x with
  |.pointer (some a)=>some (.pointer (some a))
  |_=>none
 |.unOp .not _ _=>match x with
  |.bool b=>some (.bool (!b))
  |_=>none
 |.extract _ i=>match x with
  |.tuple m=>m[i]?
  |_=>none
 |_=>none
def go(m:Operand->Value)(o:Op):Option Value :=
 match o with
 |.move x=>some (m x)
 |.assign x=>some (m x)
 |.makeFunc fn f c=>some (.func fn (f.map m) (c.map m))
 |.binOp op _ x y _=>CU op (m x) (m y)
 |.nilCheck x=>vL o (m x)
 |.unOp _ _ x=>vL o (m x)
 |.extract x _=>vL o (m x)
 |_=>none
section
variable{P:Program}{l:List Value}{w:World}
theorem RV{o:Op}{v:Value}(h:go (ev l) o=some v):fB P l w o v:=by
 unfold go at h;split at h
 ·grind[R.mv]
 ·grind[R.iU]
 ·grind[R.A3]
 ·rename_i op t x y m;unfold CU at h;split at h
  ·rename_i k a O b hx B;split at h
   ·rename_i N;have:=Pj N;subst this;unfold I9 at h
    grind[R.eq,R.ne,R.lt,R.le,R.ZN,R.ge]
   ·cases h
  ·cases h
 ·unfold vL at h
  grind[R.CW]
 ·rename_i op t x;unfold vL at h
  grind[R.not]
 ·unfold vL at h
  grind[R.extract]
 ·cases h
def R.gM{x y:Operand}{t k:TypeId}{a b:Nat}(hx:ev l x=ii a)(B:ev l y=ii b)(i:a+b<=9223372036854775807):fB P l w (.binOp .add t x y k) (ii ((a+b:Nat):Int)):=R.add hx B ze4 ze4
def R.gB{x y:Operand}{t k:TypeId}{a:Nat}(hx:ev l x=ii a)(B:ev l y=ii 1)(i:a+1<=9223372036854775807):fB P l w (.binOp .add t x y k) (ii ((a+1:Nat):Int)):=R.add hx B ze4 ze4
theorem R.QP{c a b:Operand}{t:Bool}(W:ev l c=.bool t)(M:t=true):fB P l w (.pick c a b) (ev l a):=by
 grind[R.pick]
theorem R.QO{c a b:Operand}{t:Bool}(W:ev l c=.bool t)(M:t=false):fB P l w (.pick c a b) (ev l b):=by
 grind[R.pick]
end
def uo(ops:List Oper)(l:List Value):Option (Nat × Bool)->Bool
 |none=>true
 |some (j,b)=>match(qO ops j).dst with
  |some t=>match nth l t with
   |.bool c=>c==b
   |_=>false
  |none=>false
def iy{R:Type}:List R->Nat->Bool
 |[],_=>false
 |_::_,0=>true
 |_::r,n+1=>iy r n
def zB{R:Type}:∀{l:List R}{n:Nat},iy l n=true->n<l.length
 |[],_,h=>by cases h
 |_::_,0,_=>by simp
 |_::r,n+1,h=>by have:=zB (l:=r) (n:=n) h;grind
def rJ:Option (Nat × Bool)->List Oper->List Value->Bool
 |some (j,_),ops,l=>iy ops j&&(match(qO ops j).dst with
  |some t=>iy l t&&(match nth l t with|.bool _=>true|.tuple _=>true|_=>false)
  |none=>false)
 |none,_,_=>true
def HN(s:List Oper)(j:Nat)(h:j<s.length):s.toArray[j]?=some (qO s j):=by
 grind[Sk]
def U0(l:List Value)(t:Nat)(h:t<l.length):l[t]?=some (nth l t):=by
 induction l generalizing t with
 |nil=>simp at h
 |cons x l O=>cases t with
  |zero=>rfl
  |succ t=>grind[nth]
theorem vz{ops:Array Oper}{d:Option Tmp}{op:Op}{ty:TypeId}{pos:String}{af:Array Edge}{gd:Option (Nat × Bool)}{l:List Value}(i:rJ gd ops.toList l=true) :
  Region.wanted ⟨d,op,ty,pos,af,gd⟩ (yielded ops (act l).tmps)=uo ops.toList l gd:=by
 cases gd with
 |none=>rfl
 |some x =>
  have⟨j,b⟩:=x;simp only[rJ,aZ]at i;have⟨o,c⟩:=i;have Y:=HN ops.toList j (zB o);simp only[Array.toArray_toList]at Y;simp only[Region.wanted,uo,yielded,Y,Option.bind_some]
  cases T:(qO ops.toList j).dst with
  |none=>rfl
  |some t =>
   rw[T]at c;simp only[aZ]at c;have M:=U0 l t (zB c.1);simp only[Option.bind_some,act]
   grind
def gv(ops:List Oper)(l:List Value)(gd:Nat × Bool):Option Bool :=
 match(qO ops gd.1).dst with
 |some t=>match nth l t with
  |.bool c=>some c
  |_=>none
 |none=>none
section
variable{ops:List Oper}{l:List Value}{gd:Nat × Bool}
theorem Nc{c:Bool}(j:gv ops l gd=some c)(W:c=gd.2):uo ops l (some gd)=true:=by
 grind[gv,uo]
theorem Na{c:Bool}(j:gv ops l gd=some c)(W:c=!gd.2):uo ops l (some gd)=false:=by
 grind[gv,uo]
theorem Nf(j:gv ops l gd=none):uo ops l (some gd)=false:=by
 grind[gv,uo]
end
section
variable{P:Program}{Q:nL}{l:List Value}{w:World}{ops:Array Oper}{rest:List Oper}{d:Option Tmp}{op:Op}{ty:TypeId}{pos:String}{af:Array Edge}{v:Value}{S:Nat->Prop}{r:List (Oper × Bool)}{gd:Nat × Bool}
def GT{c:Bool}(i:rJ (some gd) ops.toList l=true)(j:gv ops.toList l gd=some c)(W:c=gd.2)(h:WL P ops Q (⟨d,op,ty,pos,af,none⟩::rest) l w):WL P ops Q (⟨d,op,ty,pos,af,some gd⟩::rest) l w:=WL.gt ((vz i).trans (Nc j W)) h
def GF{c:Bool}(i:rJ (some gd) ops.toList l=true)(j:gv ops.toList l gd=some c)(W:c=!gd.2)(h:WL P ops Q rest (put l d undef) w):WL P ops Q (⟨d,op,ty,pos,af,some gd⟩::rest) l w:=WL.gf ((vz i).trans (Na j W)) h
def GU(i:rJ (some gd) ops.toList l=true)(j:gv ops.toList l gd=none)(h:WL P ops Q rest (put l d undef) w):WL P ops Q (⟨d,op,ty,pos,af,some gd⟩::rest) l w:=WL.gf ((vz i).trans (Nf j)) h
end
def Bd:Value->Bool
 |.agg _=>false
 |.tuple _=>false
 |_=>true
theorem lW{v:Value}(h:Bd v=true):v.cells=#[v]/\v.oneCell'=true:=by
 cases v<;>first|exact⟨rfl,rfl⟩|cases h
end Go.Xw
namespace Go.Xg
open Go.RowKit Go.Xw
inductive GV where
 |v (x:Value)
 |U
 |agg (cs:List GV)
 |tup (cs:List GV)
 |sl (k:Nat) (rows:List (List GV))
 |box (cs:List GV) (o:Nat)
 |loc (i o:Nat)
 |vec (i n:Nat)
 |vp (i n k idx off:Nat)
 |arr (i o n:Nat)
 |fn (f:Fn) (first cap:List GV)
abbrev _root_.am:=List GV
instance:Inhabited GV:=⟨.U⟩
open GV (U)
abbrev y4(n:Int):GV:=.v (ii n)
abbrev y6:Value:=.slice none 0 0
def zU:Nat->am->am
 |0,l=>l
 |n+1,l=>U::zU n l
abbrev Fz:=Nat->Nat->Option GV
inductive Bk where
 |no
 |fix (b:Nat)
 |gr (h:Value) (m:Nat)
 |set (S:Nat->Prop)
def Bk.has:Bk->Nat->Prop
 |.no,_=>False
 |.fix b,c=>b=c
 |.gr h _,c=>h.ownBlock=some c
 |.set S,c=>S c
abbrev Bt:=Nat->Bk
def c6(K S:Fz):Prop:=∀b o g,K b o=some g->S b o=some g
def kb:Bk->Bk->Prop
 |.no,_=>True
 |.fix b,x=>x=.fix b
 |.set _,_=>True
 |.gr h m,x=>∃e W,x=.gr e W/\m<=W/\(W=m->e=h)
def dJ(β fX:Bt):Prop:=∀i,kb (β i) (fX i)
theorem c6.refl(K:Fz):c6 K K:=fun _ _ _ h=>h
def c6.trans{a b c:Fz}(h:c6 a b)(k:c6 b c):c6 a c:=fun x y z m=>k x y z (h x y z m)
theorem kb.refl(x:Bk):kb x x:=by cases x with|no=>trivial|fix b=>rfl|gr h m=>grind[kb]|set S=>trivial
def kb.trans{a b c:Bk}(h:kb a b)(k:kb b c):kb a c:=by
 cases a with
 |no=>trivial
 |set S=>trivial
 |fix x=>cases h;exact k
 |gr x m =>
  grind[kb]
theorem dJ.refl(β:Bt):dJ β β:=fun i=>kb.refl _
def dJ.trans{a b c:Bt}(h:dJ a b)(k:dJ b c):dJ a c:=fun i=>(h i).trans (k i)
inductive Rel(K:Fz)(β:Bt):Value->GV->Prop
 |v (x:Value):Rel K β x (.v x)
 |U (x:Value):Rel K β x .U
 |agg (vs:List Value) (cs:am) (hl:vs.length=cs.length) (h:∀(i:Nat)v g,vs[i]?=some v->cs[i]?=some g->Rel K β v g):Rel K β (.agg vs.toArray) (.agg cs)
 |tup (vs:List Value) (cs:am) (hl:vs.length=cs.length) (h:∀(i:Nat)v g,vs[i]?=some v->cs[i]?=some g->Rel K β v g):Rel K β (.tuple vs.toArray) (.tup cs)
 |sl0 (a:Option Addr) (c k:Nat):Rel K β (.slice a 0 c) (.sl k [])
 |sl (b o c k:Nat) (rows:List am) (h:∀(i:Nat)r,rows[i]?=some r->r.length=k/\∀(j:Nat)g,r[j]?=some g->K b (o+i*k+j)=some g) (hc:rows.length<=c):Rel K β (.slice (some ⟨b,o,none⟩) rows.length c) (.sl k rows)
 |box (b o' o:Nat) (cs:am) (h:∀(j:Nat)g,cs[j]?=some g->K b (o'+j)=some g):Rel K β (.pointer (some ⟨b,o'+o,none⟩)) (.box cs o)
 |loc (i o b:Nat) (h:β i=.fix b):Rel K β (.pointer (some ⟨b,o,none⟩)) (.loc i o)
 |vec (i n:Nat) (a:Option Addr) (c:Nat) (h:∃h m,β i=.gr h m/\n<=m/\(m=n->.slice a n c=h)):Rel K β (.slice a n c) (.vec i n)
 |vp (i n k idx off:Nat) (x:Value) (h:∃h m,β i=.gr h m/\n<=m/\(m=n->∃b,h.ownBlock=some b/\x=.pointer (some ⟨b,idx*k+off,none⟩))):Rel K β x (.vp i n k idx off)
 |arr (i o n b c:Nat) (h:β i=.fix b):Rel K β (.slice (some ⟨b,o,none⟩) n c) (.arr i o n)
 |fn (f:Fn) (xs ys:List Value) (first cap:am) (hl:xs.length=first.length) (hl':ys.length=cap.length) (h:∀(i:Nat)v g,xs[i]?=some v->first[i]?=some g->Rel K β v g)
   (h':∀(i:Nat)v g,ys[i]?=some v->cap[i]?=some g->Rel K β v g):Rel K β (.func f xs.toArray ys.toArray) (.fn f first cap)
theorem Rel.mono{K N:Fz}{β fX:Bt}{x:Value}{g:GV}(h:Rel K β x g)(O:c6 K N)(u:dJ β fX):Rel N fX x g:=by
 induction h with
 |v x=>exact .v x
 |U x=>exact .U x
 |agg M d l h q=>exact .agg M d l q
 |tup M d l h q=>exact .tup M d l q
 |sl0 a c k=>exact .sl0 a c k
 |sl b o c k s h Y=>exact .sl b o c k s (fun i r Q=>⟨(h i r Q).1,fun j g E=>O _ _ _ ((h i r Q).2 j g E)⟩) Y
 |box b o' o d h=>exact .box b o' o d fun j g E=>O _ _ _ (h j g E)
 |loc i o b h=>exact .loc i o b (by have:=u i;rw[h]at this;exact this)
 |vec i n a c h =>
  have⟨R,m,A,S,T⟩:=h;have e:=u i;rw[A]at e;have⟨t,H,C,W,X⟩:=e;exact .vec i n a c ⟨t,H,C,by omega,fun Z=>by grind⟩
 |vp i n k idx J x h =>
  have⟨R,m,A,S,T⟩:=h;have e:=u i;rw[A]at e;have⟨t,H,C,W,X⟩:=e;exact .vp i n k idx J x ⟨t,H,C,by omega,fun Z=>by grind⟩
 |arr i o n b c h=>exact .arr i o n b c (by have:=u i;rw[h]at this;exact this)
 |fn f xs ys first z l F h t q G=>exact .fn f xs ys first z l F q G
def GV.pc:GV->Bool
 |.v _=>true
 |.sl _ _=>true
 |.box _ _=>true
 |_=>false
theorem Rel.pc{K:Fz}{β fX:Bt}{x:Value}{g:GV}(h:Rel K β x g)(X:g.pc=true):Rel K fX x g:=by
 cases h<;>first|(cases X;done)|skip
 ·exact .v _
 ·exact .sl0 _ _ _
 ·rename_i h W;exact .sl _ _ _ _ _ h W
 ·rename_i h;exact .box _ _ _ _ h
def GV.one:GV->Bool
 |.v x=>Bd x
 |.U=>false
 |.agg _=>false
 |.tup _=>false
 |.vp _ _ _ _ _=>false
 |_=>true
theorem Rel.one{K:Fz}{β:Bt}{x:Value}{g:GV}(h:Rel K β x g)(A:g.one=true):Bd x=true:=by
 cases h<;>first|exact A|rfl|(cases A;done)
abbrev bu(K:Fz)(β:Bt)(vs:List Value)(gs:am):Prop:=vs.length=gs.length/\∀(i:Nat)v g,vs[i]?=some v->gs[i]?=some g->Rel K β v g
theorem bu.mono{K S:Fz}{β fX:Bt}{vs:List Value}{gs:am}(h:bu K β vs gs)(N:c6 K S)(j:dJ β fX):bu S fX vs gs:=⟨h.1,fun i v g o b=>(h.2 i v g o b).mono N j⟩
theorem bu.nil{K:Fz}{β:Bt}:bu K β [] []:=⟨rfl,fun i v g h=>by simp at h⟩
def bu.cons{K:Fz}{β:Bt}{v:Value}{g:GV}{vs:List Value}{gs:am}(h:Rel K β v g)(G:bu K β vs gs):bu K β (v::vs) (g::gs):=by
 grind
def bu.nE{K:Fz}{β:Bt}{v:Value}{g:GV}{vs:List Value}{gs:am}(h:bu K β (v::vs) (g::gs)):Rel K β v g/\bu K β vs gs :=
 ⟨h.2 0 v g rfl rfl,by grind,fun i x y o b=>h.2 (i+1) x y o b⟩
def bu.app{K:Fz}{β:Bt}{vs us:List Value}{gs G:am}(h:bu K β vs gs)(k:bu K β us G):bu K β (vs++us) (gs++G):=by
 grind
def bu.at{K:Fz}{β:Bt}{vs:List Value}{gs:am}(h:bu K β vs gs){i:Nat}{g:GV}(hg:gs[i]?=some g):∃v,vs[i]?=some v/\Rel K β v g:=by
 have j:i<vs.length:=by grind
 exact⟨vs[i],by simp[j],h.2 i _ g zfA hg⟩
def bu.take{K:Fz}{β:Bt}{vs:List Value}{gs:am}(h:bu K β vs gs)(n:Nat):bu K β (vs.take n) (gs.take n):=by
 grind
def bu.drop{K:Fz}{β:Bt}{vs:List Value}{gs:am}(h:bu K β vs gs)(n:Nat):bu K β (vs.drop n) (gs.drop n):=by
 grind
def bx:am->Nat->GV
 |[],_=>.U
 |g::_,0=>g
 |_::l,n+1=>bx l n
def bB:am->Nat->GV->am
 |[],_,_=>[]
 |_::l,0,g=>g::l
 |x::l,n+1,g=>x::bB l n g
def bf(l:am):Operand->GV
 |.tmp t=>bx l t
 |.const v=>.v v
 |.global g=>.v (.pointer (some ⟨g,0,none⟩))
 |.func f=>.v (.func (.func f) #[] #[])
def bI(l:am)(d:Option Tmp)(g:GV):am:=match d with|some d=>bB l d g|none=>l
inductive FR(K:Fz)(β:Bt):am->List Value->Prop
 |nil:FR K β [] []
 |cons {g:GV} {v:Value} {gs:am} {vs:List Value} (h:Rel K β v g) (t:FR K β gs vs):FR K β (g::gs) (v::vs)
theorem FR.mono{K S:Fz}{β fX:Bt}{gs:am}{vs:List Value}(h:FR K β gs vs)(N:c6 K S)(i:dJ β fX):FR S fX gs vs:=by
 induction h with
 |nil=>exact .nil
 |cons h t O=>exact .cons (h.mono N i) O
theorem FR.nth{K:Fz}{β:Bt}{gs:am}{vs:List Value}(h:FR K β gs vs)(t:Nat):Rel K β (nth vs t) (bx gs t):=by
 induction h generalizing t with
 |nil=>exact .U _
 |cons h _ O=>cases t with|zero=>exact h|succ t=>exact O t
theorem FR.ev{K:Fz}{β:Bt}{gs:am}{vs:List Value}(h:FR K β gs vs)(x:Operand):Rel K β (ev vs x) (bf gs x):=by
 cases x with
 |tmp t=>exact h.nth t
 |const v=>exact .v _
 |global g=>exact .v _
 |func f=>exact .v _
theorem FR.fg{K:Fz}{β:Bt}{gs:am}{vs:List Value}(h:FR K β gs vs)(t:Nat){v:Value}{g:GV}(j:Rel K β v g):FR K β (bB gs t g) (fg vs t v):=by
 induction h generalizing t with
 |nil=>exact .nil
 |cons h M O=>cases t with|zero=>exact .cons j M|succ t=>exact .cons h (O t)
def FR.put{K:Fz}{β:Bt}{gs:am}{vs:List Value}(h:FR K β gs vs)(d:Option Tmp){v:Value}{g:GV}(j:Rel K β v g):FR K β (bI gs d g) (put vs d v):=by
 cases d with|none=>exact h|some d=>exact h.fg d j
theorem FR.args{K:Fz}{β:Bt}{gs:am}{vs:List Value}(h:FR K β gs vs)(xs:List Operand):bu K β (xs.map (Xw.ev vs)) (xs.map (bf gs)):=by
 induction xs with
 |nil=>exact .nil
 |cons x xs O=>exact .cons (h.ev x) O
inductive Ob where
 |gone
 |box (E:TypeId) (cs:am)
 |vec (E:TypeId) (k fz:Nat) (rows:List am)
 |vech (E:TypeId) (k:Nat) (rows:List am) (x:Value)
 |lost
 |blk (b:Nat) (p:Obj->Prop)
 |blob (p:(Nat->Option Obj)->Prop)
abbrev _root_.ap:=List Ob
def mo(K:Fz)(w:World):Prop:=∀b o g,K b o=some g->g.pc=true/\∃v,jb w.heap b o=some v/\Rel K (fun _=>.no) v g
def gR(k:Nat)(rows:List am):Prop:=∀r∈rows,r.length=k/\∀g∈r,g.pc=true
def gV(K:Fz)(β:Bt)(w:World)(i:Nat):Ob->Prop
 |.gone=>β i=.no
 |.box E O=>∃b l,β i=.fix b/\w.heap[b]?=some (.cells l.toArray E (0,0))/\bu K β l O/\∀o,K b o=none
 |.vec E k S H=>∃h X,β i=.gr h H.length/\iw w 0 E k h H.length X/\bu K β X H.flatten/\gR k H /\
   (∀b,h.ownBlock=some b->(∀o,S*k<=o->K b o=none)/\∀o g,o<S*k->H.flatten[o]?=some g->K b o=some g)/\S<=H.length
 |.vech E k H x=>∃X,β i=.gr x H.length/\iw w 0 E k x H.length X/\bu K β X H.flatten/\gR k H/\∀b,x.ownBlock=some b->∀o,K b o=none
 |.lost=>∀b,(β i).has b->b<w.heap.size
 |.blk b p=>β i=.fix b/\(∃o,w.heap[b]?=some o/\p o)/\∀o,K b o=none
 |.blob p=>∃h:Nat->Option Obj,β i=.set (fun b=>(h b).isSome=true)/\(∀b o,h b=some o->w.heap[b]?=some o/\∀j,K b j=none)/\p h
def vh:List Int:=(List.range 20).map fun i=>((10^i:Nat):Int)
def vo:List Int:=(List.range 256).map fun i=>if i=9\/i=10\/i=11\/i=12\/i=13\/i=32 then 1 else 0
def yA(m:Int):Fz:=fun b o =>
 if b=0 then(match o with|0=>some (.v (.int .i64 m))|_=>none)
 else if b=3 then vh[o]?.map fun z=>.v (.int .u64 z)
 else if b=1 then vo[o]?.map fun z=>.v (.int .u8 z)
 else none
def sQ(w:World)(b n:Nat):Prop:=∃O E z,w.heap[b]?=some (.cells O E z)/\O.size=n
theorem sQ.lt{w:World}{b n:Nat}(h:sQ w b n):b<w.heap.size:=by have⟨O,E,z,h,_⟩:=h;grind
structure kH(K:Fz)(β:Bt)(w:World):Prop where
 le:∃m,c6 (yA m) K
 pow:sQ w 3 20
 spc:sQ w 1 256
 free:∀i b,(β i).has b->b≠3/\b≠1
def kH.step{S:Nat->Prop}{K T:Fz}{β fX:Bt}{w w':World}(h:kH K β w)(hx:Ext S w w')(Q:∀b,S b->∃i,(β i).has b)(N:c6 K T)(t:∀i b,(fX i).has b->(∃j,(β j).has b)\/w.heap.size<=b):kH T fX w':=by
 have⟨⟨m,o⟩,c,H,C⟩:=h
 have R:∀{b n:Nat},sQ w b n->¬S b->sQ w' b n:=fun⟨O,E,z,a,e⟩d=>⟨O,E,z,hx.blk a d,e⟩
 refine⟨⟨m,o.trans N⟩,R c (fun G=>?_),R H (fun G=>?_),fun i b k=>?_⟩
 ·grind
 ·grind
 ·rcases t i b k with⟨j,Y⟩|G
  ·grind
  ·have:=c.lt;omega
structure Bs where
 w0:World
 foot:Nat->Prop
 K0:Fz
 β0:Bt
 m:Nat
structure Inv(B:Bs)(K:Fz)(β:Bt)(Γ:ap)(w:World):Prop where
 ext:Ext B.foot B.w0 w
 kle:c6 B.K0 K
 ble:dJ B.β0 β
 loc:∀i,B.m<=i->B.β0 i=.no
 fz:mo K w
 ob:∀i x,Γ[i]?=some x->gV K β w i x
 out:∀i,Γ.length<=i->β i=.no
 dis:∀i j b,(β i).has b->(β j).has b->i=j
 own:∀i b,(β i).has b->B.foot b\/B.w0.heap.size<=b
 kn:∀b o g,K b o=some g->B.K0 b o=some g\/B.foot b\/B.w0.heap.size<=b
 tab:kH K β w
section
variable{B:Bs}{K:Fz}{β:Bt}{Γ:ap}{w:World}
theorem gV.lt{i:Nat}{x:Ob}(h:gV K β w i x){b:Nat}(j:(β i).has b):b<w.heap.size:=by
 cases x with
 |gone=>simp only[gV]at h;rw[h]at j;cases j
 |box E O =>
  have⟨A,l,q,c,_⟩:=h;rw[q]at j;cases j
  grind
 |vec E k S H =>
  have⟨e,X,q,c,_⟩:=h;rw[q]at j;exact(c.lt j).2
 |vech E k H x =>
  have⟨X,q,c,_⟩:=h;rw[q]at j;exact(c.lt j).2
 |lost=>exact h b j
 |blk A p =>
  have⟨q,⟨o,c,_⟩,_⟩:=h;rw[q]at j;cases j
  grind
 |blob p =>
  have⟨g,q,c,_⟩:=h;rw[q]at j;have⟨o,C⟩:=Option.isSome_iff_exists.1 j
  grind
theorem Inv.lt(h:Inv B K β Γ w){i b:Nat}(j:(β i).has b):b<w.heap.size:=by
 by_cases k:i<Γ.length
 ·exact(h.ob i Γ[i] (by simp[k])).lt j
 ·rw[h.out i ze4]at j;cases j
theorem mo.lt(h:mo K w){b o:Nat}{g:GV}(hg:K b o=some g):b<w.heap.size:=by
 have⟨_,v,j,_⟩:=h b o g hg;exact Du j
def blocks(β:Bt):Nat->Prop:=fun b=>∃i,(β i).has b
def cur(K:Fz)(β:Bt)(Γ:ap)(w:World):Bs:=⟨w,blocks β,K,β,Γ.length⟩
def Inv.here(h:Inv B K β Γ w):Inv (cur K β Γ w) K β Γ w :=
 ⟨Ext.refl w,c6.refl K,dJ.refl β,h.out,h.fz,h.ob,h.out,h.dis,fun i b j=>.inl ⟨i,j⟩,fun _ _ _ h=>.inl h,h.tab⟩
def Inv.My{S:Fz}{fX:Bt}{bE X4:ap}{w':World}(h:Inv B K β Γ w)(k:Inv (cur K β X4 w) S fX bE w'):Inv B S fX bE w' :=
 ⟨h.ext.step k.ext (fun j Y=>by have⟨i,m⟩:=Y;exact(h.own i j m).symm),h.kle.trans k.kle,h.ble.trans k.ble,h.loc,k.fz,k.ob,k.out,k.dis,
  fun i b l=>by
   rcases k.own i b l with q|q
   ·have⟨j,Y⟩:=q;exact h.own j b Y
   ·exact .inr (jC h.ext.size q),
  fun b o g X=>by
   rcases k.kn b o g X with q|⟨j,Y⟩|q
   ·exact h.kn b o g q
   ·exact .inr (h.own j b Y)
   ·exact .inr (.inr (jC h.ext.size q)),k.tab⟩
theorem gV.ext{S:Nat->Prop}{T:Fz}{fX:Bt}{w':World}{i:Nat}{x:Ob}(h:gV K β w i x)(hx:Ext S w w')(H:∀b,(β i).has b->¬S b)(N:c6 K T)(l:dJ β fX)
  (e:fX i=β i)(hn:∀b o,(β i).has b->K b o=none->T b o=none):gV T fX w' i x:=by
 cases x with
 |gone=>grind[gV]
 |box E O =>
  have⟨b,u,s,c,G,C⟩:=h
  have q:(β i).has b:=by rw[s];exact rfl
  exact⟨b,u,e.trans s,hx.blk c (H b q),G.mono N l,fun o=>hn b o q (C o)⟩
 |vec E k W J =>
  have⟨n,X,s,c,G,C,m,t⟩:=h
  have q:∀b,n.ownBlock=some b->(β i).has b:=fun b l=>by rw[s];exact l
  exact⟨n,X,e.trans s,c.ext hx (fun b r=>H b (q b r)),G.mono N l,C,fun b r=>⟨fun o A=>hn b o (q b r) ((m b r).1 o A),fun o g A Y=>N _ _ _ ((m b r).2 o g A Y)⟩,t⟩
 |vech E k J x =>
  have⟨X,s,c,G,C,m⟩:=h
  have q:∀b,x.ownBlock=some b->(β i).has b:=fun b l=>by rw[s];exact l
  exact⟨X,e.trans s,c.ext hx (fun b r=>H b (q b r)),G.mono N l,C,fun b r o=>hn b o (q b r) (m b r o)⟩
 |lost=>exact fun b r=>Aj (h b ze2) hx.size
 |blk b p =>
  have⟨s,⟨o,c,G⟩,C⟩:=h
  have q:(β i).has b:=by rw[s];exact rfl
  exact⟨e.trans s,⟨o,hx.blk c (H b q),G⟩,fun o=>hn b o q (C o)⟩
 |blob p =>
  have⟨g,s,c,G⟩:=h
  have q:∀b o,g b=some o->(β i).has b:=fun b o A=>by grind[Bk.has]
  exact⟨g,e.trans s,fun b o A=>⟨hx.blk (c b o A).1 (H b (q b o A)),fun j=>hn b j (q b o A) ((c b o A).2 j)⟩,G⟩
def mo.ext{S:Nat->Prop}{w':World}(h:mo K w)(hx:Ext S w w')(G:∀b o g,K b o=some g->¬S b):mo K w':=fun b o g X=>by
 have⟨q,v,j,z⟩:=h b o g X;exact⟨q,v,hx.c j (G b o g X),z⟩
def Inv.same{w':World}(h:Inv B K β Γ w)(hx:Ext gx w w'):Inv B K β Γ w' :=
 ⟨h.ext.step hx (fun j Y=>Y.elim),h.kle,h.ble,h.loc,h.fz.ext hx (fun _ _ _ _ h=>h),fun i x k=>(h.ob i x k).ext hx (fun _ _ h=>h) (c6.refl K) (dJ.refl β) rfl (fun _ _ _ h=>h),h.out,h.dis,h.own,h.kn,h.tab.step hx (fun _ h=>h.elim) (c6.refl K) (fun i b h=>.inl ⟨i,h⟩)⟩
def dD(p:Nat->Bool)(β:Bt):Bt:=fun i=>match p i with
 |true=>β i
 |false=>.no
section
variable{p:Nat->Bool}{β:Bt}{i:Nat}
theorem pN(h:p i=true):dD p β i=β i:=by simp[dD,h]
theorem sI(h:p i=false):dD p β i=.no:=by simp[dD,h]
end
end
section
variable{B:Bs}{K:Fz}{β:Bt}{Γ:ap}{w:World}
def fP(β:Bt)(i:Nat)(x:Bk):Bt:=fun j=>if j=i then x else β j
theorem bV{i:Nat}{x:Bk}:fP β i x i=x:=by simp[fP]
theorem cM{i j:Nat}{x:Bk}(h:j≠i):fP β i x j=β j:=by simp[fP,h]
theorem mU{i j b:Nat}{x:Bk}(h:(fP β i x j).has b):x.has b\/(β j).has b:=by
 grind[bV,cM]
theorem iT{i:Nat}{x:Bk}(h:kb (β i) x):dJ β (fP β i x):=fun j=>by
 grind[bV,cM,kb.refl]
def bu.self{vs:List Value}:bu K β vs (vs.map .v):=⟨by simp,fun i v g o b=>by
 rw[dR,o]at b;cases b;exact .v _⟩
theorem Inv.add{w':World}{b:Nat}{vs:List Value}{cs:am}{E:TypeId}(h:Inv B K β Γ w)(hn:tK w w' b (.cells vs.toArray E))(v:bu K β vs cs) :
  Inv B K (fP β Γ.length (.fix b)) (Γ++[.box E cs]) w':=by
 have n:β Γ.length=.no:=h.out _ (a8 _);have N:dJ β (fP β Γ.length (.fix b)):=iT zfg
 have Q:∀i A,(β i).has A->A≠b:=fun i A r=>by have:=h.lt r;have:=hn.fresh;omega
 have m:∀o,K b o=none:=fun o=>by
  cases O:K b o with
  |none=>rfl
  |some g=>have:=h.fz.lt O;have:=hn.fresh;omega
 refine⟨h.ext.step hn.ext (fun j Y=>Y.elim),h.kle,h.ble.trans N,h.loc,h.fz.ext hn.ext (fun _ _ _ _ h=>h),fun i x k=>?_,fun i k=>?_,fun i j A k Y=>?_,fun i A k=>?_,h.kn,h.tab.step hn.ext (fun _ h=>h.elim) (c6.refl K) (fun i s k=>by rcases mU k with q|q;(· cases q;exact .inr (by have:=hn.fresh;omega));grind)⟩
 ·by_cases C:i<Γ.length
  ·rw[gA C]at k
   have l:i≠Γ.length:=by omega
   exact(h.ob i x k).ext hn.ext (fun _ _ h=>h) (c6.refl K) N (cM l) (fun _ _ _ h=>h)
  ·have:i=Γ.length:=by grind
   subst this;simp at k;subst k;exact⟨b,vs,bV,hn.blk,v.mono (c6.refl K) N,m⟩
 ·simp at k;rw[cM ze4];exact h.out i ze4
 ·by_cases q:i=Γ.length<;>by_cases c:j=Γ.length
  ·omega
  ·subst q;rw[bV]at k;rw[cM c]at Y;cases k;grind
  ·subst c;rw[bV]at Y;rw[cM q]at k;cases Y;grind
  ·rw[cM q]at k;rw[cM c]at Y;exact h.dis i j A k Y
 ·by_cases q:i=Γ.length
  ·subst q;rw[bV]at k;cases k;exact .inr zfC
  ·rw[cM q]at k;exact h.own i A k
theorem Inv.Au{w':World}{E k:Nat}{x:Value}{xs:List Value}{rows:List am}(h:Inv B K β Γ w)(hx:Ext gx w w')(F:iw w' 0 E k x rows.length xs)(hf:∀b,x.ownBlock=some b->w.heap.size<=b)
  (v:bu K β xs rows.flatten)(Q:gR k rows):Inv B K (fP β Γ.length (.gr x rows.length)) (Γ++[.vec E k 0 rows]) w':=by
 have t:β Γ.length=.no:=h.out _ (a8 _);have N:dJ β (fP β Γ.length (.gr x rows.length)):=iT zfg
 have O:∀i A,(β i).has A->x.ownBlock≠some A:=fun i A r e=>by have:=h.lt r;grind
 have s:∀b,x.ownBlock=some b->∀o,K b o=none:=fun b n o=>by
  cases Q:K b o with
  |none=>rfl
  |some g=>have:=h.fz.lt Q;grind
 refine⟨h.ext.step hx (fun j Y=>Y.elim),h.kle,h.ble.trans N,h.loc,h.fz.ext hx (fun _ _ _ _ h=>h),fun i y l=>?_,fun i l=>?_,fun i j A l Y=>?_,fun i A l=>?_,h.kn,h.tab.step hx (fun _ h=>h.elim) (c6.refl K) (fun i u l=>by rcases mU l with q|q;(· grind[Bk.has]);grind)⟩
 ·by_cases C:i<Γ.length
  ·rw[gA C]at l
   have m:i≠Γ.length:=by omega
   exact(h.ob i y l).ext hx (fun _ _ h=>h) (c6.refl K) N (cM m) (fun _ _ _ h=>h)
  ·have:i=Γ.length:=by grind
   subst this;simp at l;subst l;exact⟨x,xs,bV,F,v.mono (c6.refl K) N,Q,fun b n=>⟨fun o _=>s b n o,fun o g F _=>by omega⟩,bl _⟩
 ·simp at l;rw[cM ze4];exact h.out i ze4
 ·by_cases q:i=Γ.length<;>by_cases c:j=Γ.length
  ·omega
  ·subst q;rw[bV]at l;rw[cM c]at Y;exact absurd l (O j _ Y)
  ·subst c;rw[bV]at Y;rw[cM q]at l;exact absurd Y (O i _ l)
  ·rw[cM q]at l;rw[cM c]at Y;exact h.dis i j A l Y
 ·by_cases q:i=Γ.length
  ·subst q;rw[bV]at l;exact .inr (jC h.ext.size (hf A l))
  ·rw[cM q]at l;exact h.own i A l
def jQ(K:Fz)(b:Nat)(cs:am):Fz:=fun A o=>if A=b then cs[o]? else K A o
theorem Gr{b o:Nat}{cs:am}{g:GV}(h:cs[o]?=some g):jQ K b cs b o=some g:=by simp[jQ,h]
theorem Inv.rH{w':World}{b:Nat}{vs:List Value}{cs:am}{E:TypeId}(h:Inv B K β Γ w)(hn:tK w w' b (.cells vs.toArray E))(z:bu K β vs cs)(W:∀g∈cs,g.pc=true) :
  c6 K (jQ K b cs)/\Inv B (jQ K b cs) β Γ w':=by
 have e:∀o,K b o=none:=fun o=>by
  cases O:K b o with
  |none=>rfl
  |some g=>have:=h.fz.lt O;have:=hn.fresh;omega
 have N:c6 K (jQ K b cs):=fun A o g X=>by
  grind[jQ]
 refine⟨N,h.ext.step hn.ext (fun j Y=>Y.elim),h.kle.trans N,h.ble,h.loc,fun A o g X=>?_,fun i x l=>?_,h.out,h.dis,h.own,fun A o g X=>?_,h.tab.step hn.ext (fun _ h=>h.elim) N (fun i m h=>.inl ⟨i,h⟩)⟩
 ·by_cases k:A=b
  ·subst k;simp[jQ]at X;have⟨v,n,q⟩:=z.at X;have r:=W g (bN X);exact⟨r,v,yH hn.blk ze2,(q.mono N (dJ.refl β)).pc r⟩
  ·have H:K A o=some g:=by grind[jQ]
   have⟨s,v,d,G⟩:=h.fz A o g H;exact⟨s,v,hn.ext.c d (fun h=>h),G.mono N (dJ.refl _)⟩
 ·refine(h.ob i x l).ext hn.ext (fun _ _ h=>h) N (dJ.refl β) rfl (fun A o k O=>?_)
  have:A≠b:=by have:=h.lt k;have:=hn.fresh;omega
  grind[jQ]
 ·by_cases k:A=b
  ·exact .inr (.inr zfC)
  ·exact h.kn A o g (by grind[jQ])
theorem Inv.store{w':World}{i b:Nat}{E:TypeId}{cs c:am}{Z:List Value}(h:Inv B K β Γ w)(hi:Γ[i]?=some (.box E cs))(k:β i=.fix b)(G:tM w w' b Z.toArray E)
  (v:bu K β Z c):Inv B K β (Γ.set i (.box E c)) w':=by
 have⟨T,l,s,d,H,C⟩:=h.ob i _ hi;rw[k]at s;cases s
 have q:(β i).has b:=by rw[k];exact rfl
 refine⟨h.ext.step G.ext (fun j Y=>?_),h.kle,h.ble,h.loc,h.fz.ext G.ext (fun A o g X e=>?_),fun j x Y=>?_,fun j Y=>h.out j ze2,h.dis,h.own,h.kn,h.tab.step G.ext (fun j Y=>⟨i,by grind⟩) (c6.refl K) (fun i m h=>.inl ⟨i,h⟩)⟩
 ·subst Y;exact(h.own i _ q).symm
 ·grind
 ·rw[eR]at Y;split at Y
  ·rename_i S;split at Y
   ·cases Y;subst S
    exact⟨b,Z,k,G.blk,v,C⟩
   grind
  ·rename_i S;refine(h.ob j x Y).ext G.ext (fun A r e=>?_) (c6.refl K) (dJ.refl β) rfl (fun _ _ _ h=>h);subst e;exact S (h.dis i j _ q r)
def tS(K:Fz)(x:Value)(n:Nat)(fl:am):Fz:=fun b o=>if x.ownBlock=some b/\o<n then fl[o]? else K b o
section
variable{x:Value}{n b o:Nat}{fl:am}
theorem Qc(q:x.ownBlock=some b)(c:o<n):tS K x n fl b o=fl[o]?:=by grind[tS]
theorem zx(h:¬(x.ownBlock=some b/\o<n)):tS K x n fl b o=K b o:=by grind[tS]
theorem zy{g:GV}(h:tS K x n fl b o=some g):(x.ownBlock=some b/\o<n/\fl[o]?=some g)\/(¬(x.ownBlock=some b/\o<n)/\K b o=some g):=by
 grind[Qc,zx]
end
theorem Inv.grow{w':World}{i:Nat}{E k fz:Nat}{rows news:List am}{F x:Value}{xs ns:List Value}(h:Inv B K β Γ w)(hi:Γ[i]?=some (.vec E k fz rows))(S:β i=.gr F rows.length)
  (C:iw w 0 E k F rows.length xs/\bu K β xs rows.flatten)(ho:iw w' 0 E k x (rows.length+news.length) (xs++ns))(hx:Ext (fun b=>F.ownBlock=some b) w w')(hf:∀b,x.ownBlock=some b->F.ownBlock=some b\/w.heap.size<=b)
  (hr:bu K β ns news.flatten)(hk:gR k news)(Y:news≠[])(W:∀b,F.ownBlock=some b->∀o v,o<fz*k->jb w.heap b o=some v->jb w'.heap b o=some v) :
  ∃K',c6 K K'/\dJ β (fP β i (.gr x (rows++news).length))/\Inv B K' (fP β i (.gr x (rows++news).length)) (Γ.set i (.vec E k fz (rows++news))) w':=by
 have⟨Xa,xs',u,H,h3,h4,h5,h6⟩:=h.ob i _ hi;rw[S]at u;cases u;clear H h3
 have hlen:news.length≠0:=fun h=>Y (kQ h)
 have t:dJ β (fP β i (.gr x (rows++news).length)):=iT (by rw[S];exact⟨x,_,rfl,by simp,fun J=>by grind⟩)
 have e:∀b,F.ownBlock=some b->(β i).has b:=fun b d=>by rw[S];exact d
 have X:rows.flatten.length=rows.length*k:=by rw[<-C.2.1];exact C.1.1
 have aak:fz*k<=rows.flatten.length:=by simp_all[sw]
 have n:c6 K (tS K x (fz*k) rows.flatten):=fun b o g s=>by
  by_cases R:x.ownBlock=some b/\o<fz*k
  ·rw[Qc R.1 R.2]
   rcases hf b R.1 with m|m
   ·grind
   ·have:=h.fz.lt s;omega
  grind[tS]
 refine⟨tS K x (fz*k) rows.flatten,n,t,h.ext.step hx (fun j l=>(h.own i j (e j l)).symm),h.kle.trans n,h.ble.trans t,h.loc,fun b o g s=>?_,fun j y l=>?_,fun j l=>?_,fun j j' b l q=>?_,fun j b l=>?_,fun b o g s=>?_,h.tab.step hx (fun j l=>⟨i,e j l⟩) n (fun j b2 hi=>by rcases mU hi with u|u;(· grind[Bk.has]);grind)⟩
 ·rcases zy s with⟨d,N,s⟩|⟨R,s⟩
  ·have O:g.pc=true:=by
    have⟨r,Z,Qq⟩:=List.mem_flatten.1 (bN s);exact(h4 r Z).2 g Qq
   have⟨v,hv,A⟩:=C.2.at s;have⟨b2,c,LB,_,_,Lm⟩:=ho.cells.2 zfe
   have T:b2=b:=by rw[LB]at d;cases d;rfl
   subst T;have ny:o<xs.length:=(b6 hv).1;refine⟨O,v,?_,(A.mono n t).pc O⟩
   simp_all[gb,gA]
  ·have⟨hp,v,hv,A⟩:=h.fz b o g s;refine⟨hp,v,?_,A.mono n (dJ.refl _)⟩
   by_cases m:F.ownBlock=some b
   ·grind
   ·exact hx.c hv m
 ·rw[eR]at l;split at l
  ·rename_i z;split at l
   ·cases l;subst z
    refine⟨x,xs++ns,bV,by grind,?_,?_,fun b d=>⟨fun o N=>?_,fun o g N s=>?_⟩,by grind⟩
    ·rw[List.flatten_append];exact(C.2.mono n t).app (hr.mono n t)
    ·grind[gR]
    ·rw[zx ze4]
     rcases hf b d with m|m
     ·grind
     ·cases G:K b o with
      |none=>rfl
      |some g=>have:=h.fz.lt G;omega
    grind[tS]
   grind
  ·rename_i z;refine(h.ob j y l).ext hx (fun b d J=>?_) n t (cM (fun J=>z J.symm)) (fun b o d G=>?_)
   ·exact z (h.dis i j b (e b J) d)
   ·rw[zx];exact G;rintro⟨m,_⟩
    rcases hf b m with h8|h8
    ·exact z (h.dis i j b (e b h8) d)
    ·have:=h.lt d;omega
 ·have q:Γ.length<=j:=by grind
  have:i<Γ.length:=(b6 hi).1;rw[cM ze4];exact h.out j q
 ·have Q:∀j b,j≠i->(β j).has b->x.ownBlock≠some b:=fun j b M d J=>by
   rcases hf b J with m|m
   ·exact M (h.dis j i b d (e b m))
   ·have:=h.lt d;omega
  by_cases u:j=i<;>by_cases H:j'=i
  ·omega
  ·subst u;rw[bV]at l;rw[cM H]at q;exact absurd l (Q j' b H q)
  ·subst H;rw[bV]at q;rw[cM u]at l;exact absurd q (Q j b u l)
  ·rw[cM u]at l;rw[cM H]at q;exact h.dis j j' b l q
 ·by_cases u:j=i
  ·subst u;rw[bV]at l
   rcases hf b l with m|m
   ·exact h.own j b (e b m)
   ·exact .inr (jC h.ext.size m)
  ·rw[cM u]at l;exact h.own j b l
 ·rcases zy s with⟨d,_,_⟩|⟨_,s⟩
  ·rcases hf b d with m|m
   ·exact .inr (h.own i b (e b m))
   ·exact .inr (.inr (jC h.ext.size m))
  ·exact h.kn b o g s
theorem Inv.jJ{i E k fz:Nat}{rows:List am}(h:Inv B K β Γ w)(hi:Γ[i]?=some (.vec E k fz rows)) :
  ∃z,c6 K z/\(∀x b,β i=.gr x rows.length->x.ownBlock=some b->∀(o:Nat)g,rows.flatten[o]?=some g->z b o=some g)/\Inv B z β (Γ.set i (.vec E k rows.length rows)) w:=by
 have⟨x,xs,R,A,C,T,X,Y⟩:=h.ob i _ hi
 have H:rows.flatten.length=rows.length*k:=by rw[<-C.1];exact A.1
 have q:∀b,x.ownBlock=some b->(β i).has b:=fun b u=>by rw[R];exact u
 have d:c6 K (tS K x (rows.length*k) rows.flatten):=fun b o g l=>by
  grind[tS]
 refine⟨tS K x (rows.length*k) rows.flatten,d,fun x' b XP u o g l=>?_,h.ext,h.kle.trans d,h.ble,h.loc,fun b o g l=>?_,fun j y n=>?_,fun j n=>h.out j ze2,h.dis,h.own,fun b o g l=>?_,h.tab.step (S:=gx) (Ext.refl w) (fun _ h=>h.elim) d (fun i Q h=>.inl ⟨i,h⟩)⟩
 ·grind[tS]
 ·rcases zy l with⟨e,ho',l⟩|⟨hc,l⟩
  ·have s:g.pc=true:=by
    have⟨r,M,N⟩:=List.mem_flatten.1 (bN l);exact(T r M).2 g N
   have⟨v,hv,t⟩:=C.at l;have⟨Q,c,O,_,_,Lm⟩:=A.cells.2 ze2
   have G:Q=b:=by rw[O]at e;cases e;rfl
   subst G;exact⟨s,v,by grind[gb],(t.mono d (dJ.refl β)).pc s⟩
  ·have⟨F,v,Z,h9⟩:=h.fz b o g l;exact⟨F,v,Z,h9.mono d (dJ.refl _)⟩
 ·rw[eR]at n;split at n
  ·rename_i m;split at n
   ·cases n;subst m
    refine⟨x,xs,R,A,C.mono d (dJ.refl β),T,fun b u=>⟨fun o W=>?_,fun o g W l=>?_⟩,a8 _⟩
    ·rw[zx ze4];exact(X b u).1 o (jC (sw k Y) W)
    grind[tS]
   grind
  ·rename_i m;refine(h.ob j y n).ext (Ext.refl w) (fun _ _ h=>h) d (dJ.refl β) rfl (fun b o e J=>?_) (S:=gx);rw[zx];exact J;rintro⟨F,_⟩;exact m (h.dis i j b (q b F) e)
 ·rcases zy l with⟨e,_,_⟩|⟨_,l⟩
  ·exact .inr (h.own i b (q b e))
  ·exact h.kn b o g l
end
mutual
def dC(f:Nat->Nat):GV->GV
 |.v x=>.v x
 |.U=>.U
 |.agg O=>.agg (iR f O)
 |.tup O=>.tup (iR f O)
 |.sl k H=>.sl k H
 |.box O o=>.box O o
 |.loc i o=>.loc (f i) o
 |.vec i n=>.vec (f i) n
 |.vp i n k idx z=>.vp (f i) n k idx z
 |.arr i o n=>.arr (f i) o n
 |.fn g a c=>.fn g (iR f a) (iR f c)
def iR(f:Nat->Nat):am->am
 |[]=>[]
 |g::s=>dC f g::iR f s
end
def lh(f:Nat->Nat)(gs:am):iR f gs=gs.map (dC f):=by
 induction gs with
 |nil=>rfl
 |cons g gs O=>simp[iR,O]
def Rel.Af{K:Fz}{β:Bt}{f:Nat->Nat}{x:Value}{g:GV}(h:Rel K (fun j=>β (f j)) x g):Rel K β x (dC f g):=by
 induction h with
 |v x=>exact .v x
 |U x=>exact .U x
 |agg l O M h S =>
  rw[dC,lh]
  refine .agg l _ ze2 fun i v g q d=>?_
  grind
 |tup l O M h S =>
  rw[dC,lh]
  refine .tup l _ ze2 fun i v g q d=>?_
  grind
 |sl0 a c k=>exact .sl0 a c k
 |sl b o c k H h W=>exact .sl b o c k H h W
 |box b Y o O h=>exact .box b Y o O h
 |loc i o b h=>exact .loc _ o b h
 |vec i n a c h=>exact .vec _ n a c h
 |vp i n k idx z x h=>exact .vp _ n k idx z x h
 |arr i o n b c h=>exact .arr _ o n b c h
 |fn g X u first r M s h A S t =>
  rw[dC,lh,lh];refine .fn g X u _ _ ze2 ze2 (fun i v g q d=>?_) (fun i v g q d=>?_)
  ·grind
  grind
def Rel.zV{K:Fz}{β:Bt}{f:Nat->Nat}{x:Value}{g:GV}(h:Rel K β x (dC f g)):Rel K (fun j=>β (f j)) x g:=by
 generalize l:dC f g=T at h
 induction h generalizing g with
 |v x =>
  cases g<;>simp only[dC]at l<;>first|(cases l;done)|skip
  cases l;exact .v x
 |U x =>
  cases g<;>simp only[dC]at l<;>first|(cases l;done)|skip
  exact .U x
 |agg s S M h O =>
  cases g<;>simp only[dC]at l<;>first|(cases l;done)|skip
  rename_i t;rw[lh]at l;cases l
  exact .agg s t ze2 fun i v g q d=>O i v (dC f g) q ze2 rfl
 |tup s S M h O =>
  cases g<;>simp only[dC]at l<;>first|(cases l;done)|skip
  rename_i t;rw[lh]at l;cases l
  exact .tup s t ze2 fun i v g q d=>O i v (dC f g) q ze2 rfl
 |sl0 a c k =>
  cases g<;>simp only[dC]at l<;>first|(cases l;done)|skip
  cases l;exact .sl0 a c _
 |sl b o c k H h W =>
  cases g<;>simp only[dC]at l<;>first|(cases l;done)|skip
  cases l;exact .sl b o c k H h W
 |box b Y o S h =>
  cases g<;>simp only[dC]at l<;>first|(cases l;done)|skip
  cases l;exact .box b Y o S h
 |loc i o b h =>
  cases g<;>simp only[dC]at l<;>first|(cases l;done)|skip
  cases l;exact .loc _ o b h
 |vec i n a c h =>
  cases g<;>simp only[dC]at l<;>first|(cases l;done)|skip
  cases l;exact .vec _ n a c h
 |vp i n k idx z x h =>
  cases g<;>simp only[dC]at l<;>first|(cases l;done)|skip
  cases l;exact .vp _ n k idx z x h
 |arr i o n b c h =>
  cases g<;>simp only[dC]at l<;>first|(cases l;done)|skip
  cases l;exact .arr _ o n b c h
 |fn T X E first u M C h F O r =>
  cases g<;>simp only[dC]at l<;>first|(cases l;done)|skip
  rename_i Z t A;rw[lh,lh]at l;cases l;exact .fn _ X E t A ze2 ze2 (fun i v g q d=>O i v (dC f g) q ze2 rfl)
   (fun i v g q d=>r i v (dC f g) q ze2 rfl)
mutual
def GV.ok(p:Nat->Bool):GV->Bool
 |.loc i _=>p i
 |.vec i _=>p i
 |.vp i _ _ _ _=>p i
 |.arr i _ _=>p i
 |.agg O=>Ci p O
 |.tup O=>Ci p O
 |.fn _ a c=>Ci p a&&Ci p c
 |.v _=>true
 |.U=>true
 |.sl _ _=>true
 |.box _ _=>true
def Ci(p:Nat->Bool):am->Bool
 |[]=>true
 |g::s=>GV.ok p g&&Ci p s
end
def below(n:Nat):Nat->Bool:=fun i=>Nat.blt i n
def other(n:Nat):Nat->Bool:=fun i=>!Nat.beq i n
abbrev GV.lt(n:Nat)(g:GV):Bool:=g.ok (below n)
def ve{p:Nat->Bool}{gs:am}(h:Ci p gs=true){g:GV}(hg:g∈gs):g.ok p=true:=by
 induction gs with
 |nil=>cases hg
 |cons x gs O =>
  grind[Ci]
def Rel.res{K:Fz}{β:Bt}{p:Nat->Bool}{x:Value}{g:GV}(h:Rel K β x g)(M:g.ok p=true):Rel K (dD p β) x g:=by
 induction h with
 |v x=>exact .v x
 |U x=>exact .U x
 |agg s O n h S=>simp only[GV.ok]at M;exact .agg s O n fun i v g q d=>S i v g q d (ve M (bN d))
 |tup s O n h S=>simp only[GV.ok]at M;exact .tup s O n fun i v g q d=>S i v g q d (ve M (bN d))
 |sl0 a c k=>exact .sl0 a c k
 |sl b o c k H h W=>exact .sl b o c k H h W
 |box b Y o O h=>exact .box b Y o O h
 |loc i o b h=>simp only[GV.ok]at M;exact .loc _ o b (by grind[dD])
 |vec i m a c h=>simp only[GV.ok]at M;exact .vec _ m a c (by grind[dD])
 |vp i m k idx z x h=>simp only[GV.ok]at M;exact .vp _ m k idx z x (by grind[dD])
 |arr i o m b c h=>simp only[GV.ok]at M;exact .arr _ o m b c (by grind[dD])
 |fn T X t first j n l h u S r =>
  simp only[GV.ok,aZ]at M
  exact .fn _ X t first j n l (fun i v g q d=>S i v g q d (ve M.1 (bN d))) (fun i v g q d=>r i v g q d (ve M.2 (bN d)))
def Ob.ok(p:Nat->Bool):Ob->Bool
 |.box _ O=>Ci p O
 |_=>true
def Ob.dC(f:Nat->Nat):Ob->Ob
 |.box E O=>.box E (iR f O)
 |x=>x
def oq(p:Nat->Bool):ap->Bool
 |[]=>true
 |x::r=>Ob.ok p x&&oq p r
abbrev qh(n:Nat)(Γ:ap):Bool:=oq (below n) Γ
def HQ{p:Nat->Bool}{gs:ap}(h:oq p gs=true){g:Ob}(hg:g∈gs):g.ok p=true:=by
 induction gs with
 |nil=>cases hg
 |cons x gs O =>
  grind[oq]
def JH(p:Nat->Bool):am->am
 |[]=>[]
 |g::s=>(match GV.ok p g with|true=>g|false=>.U)::JH p s
abbrev rW(n:Nat)(fr:am):am:=JH (below n) fr
def FR.res{K:Fz}{β:Bt}{p:Nat->Bool}{fr:am}{l:List Value}(h:FR K β fr l):FR K (dD p β) (JH p fr) l:=by
 induction h with
 |nil=>exact .nil
 |cons h t O =>
  rw[JH];split
  ·rename_i M;exact .cons (h.res M) O
  ·exact .cons (.U _) O
def gV.res{K:Fz}{β:Bt}{w:World}{p:Nat->Bool}{i:Nat}{x:Ob}(h:gV K β w i x)(hi:p i=true)(hx:x.ok p=true):gV K (dD p β) w i x:=by
 cases x with
 |gone=>grind[gV,dD]
 |box E S =>
  have⟨b,l,o,c,G,C⟩:=h;exact⟨b,l,by grind[dD],c,⟨G.1,fun i v g j n=>(G.2 i v g j n).res (ve hx (bN n))⟩,C⟩
 |vec E k T H =>
  have⟨t,X,o,c,G,C,j⟩:=h;refine⟨t,X,by grind[dD],c,⟨G.1,fun i v g n O=>(G.2 i v g n O).pc ?_⟩,C,j⟩;exact zaL
 |vech E k H x =>
  have⟨X,o,c,G,C,j⟩:=h;refine⟨X,by grind[dD],c,⟨G.1,fun i v g n O=>(G.2 i v g n O).pc ?_⟩,C,j⟩;exact zaL
 |lost=>grind[gV,dD]
 |blk b q=>grind[gV,dD]
 |blob q =>
  grind[gV,dD]
section
variable{B:Bs}{K:Fz}{β:Bt}{Γ:ap}{w:World}
def sy{n i:Nat}(h:i<n):below n i=true:=by simpa[below]using h
theorem uI{n i:Nat}(h:n<=i):below n i=false:=by
 cases j:below n i with
 |false=>rfl
 |true=>simp[below]at j;omega
theorem Inv.cut{n:Nat}(h:Inv B K β Γ w)(l:B.m<=n)(M:qh n (Γ.take n)=true):Inv B K (dD (below n) β) (Γ.take n) w:=by
 have s:∀i b,(dD (below n) β i).has b->(β i).has b:=fun i b k=>by
  grind[dD,Bk.has]
 refine⟨h.ext,h.kle,fun i=>?_,h.loc,h.fz,fun i x k=>?_,fun i k=>?_,fun i j b k Y=>h.dis i j b (s i b k) (s j b Y),fun i b k=>h.own i b (s i b k),h.kn,h.tab.step (S:=gx) (Ext.refl w) (fun _ h=>h.elim) (c6.refl K) (fun i o c=>.inl ⟨i,s i o c⟩)⟩
 ·by_cases q:i<n
  ·rw[pN (sy q)];exact h.ble i
  ·rw[h.loc i ze4];trivial
 ·have N:=HQ M (bN k);rw[List.getElem?_take]at k;split at k
  ·rename_i q;exact(h.ob i x k).res (sy q) N
  grind
 ·by_cases q:i<n
  ·rw[pN (sy q)];exact h.out i ze2
  grind[sI,uI]
theorem Sq{i:Nat}:other i i=false:=by simp[other]
theorem vf{i j:Nat}(h:j≠i):other i j=true:=by
 grind[Nat.eq_of_beq_eq_true,other]
theorem Inv.freeze{i:Nat}{E:TypeId}{cs:am}(h:Inv B K β Γ w)(hi:Γ[i]?=some (.box E cs))(hp:∀g∈cs,g.pc=true)(M:oq (other i) (Γ.set i .gone)=true)(hm:B.m<=i) :
  ∃C,c6 K C/\(∀b,β i=.fix b->∀(j:Nat)g,cs[j]?=some g->C b j=some g)/\Inv B C (dD (other i) β) (Γ.set i .gone) w:=by
 have⟨b,vs,W,F,X,h4⟩:=h.ob i _ hi
 have s:(β i).has b:=by rw[W];exact rfl
 have k:c6 K (jQ K b cs):=fun c o g q=>by
  grind[jQ]
 have d:∀j c,(dD (other i) β j).has c->j≠i/\(β j).has c:=fun j c l=>by
  grind[sI,Sq,pN,vf,Bk.has]
 refine⟨jQ K b cs,k,fun c r j g q=>?_,h.ext,h.kle.trans k,fun j=>?_,h.loc,fun c o g q=>?_,fun j x l=>?_,fun j l=>?_,fun j O c l n=>?_,fun j c l=>?_,fun c o g q=>?_,h.tab.step (S:=gx) (Ext.refl w) (fun _ h=>h.elim) k (fun i T F=>.inl ⟨i,(d i T F).2⟩)⟩
 ·grind[jQ]
 ·by_cases u:j=i
  ·subst u;rw[h.loc j hm];trivial
  ·rw[pN (vf u)];exact h.ble j
 ·by_cases G:c=b
  ·subst G;simp[jQ]at q;have⟨v,hv,A⟩:=X.at q;have z:=hp g (bN q);exact⟨z,v,yH F ze2,(A.mono k (dJ.refl β)).pc z⟩
  ·have J:K c o=some g:=by grind[jQ]
   have⟨Y,v,Z,h7⟩:=h.fz c o g J;exact⟨Y,v,Z,h7.mono k (dJ.refl _)⟩
 ·have N:=HQ M (bN l);rw[eR]at l;split at l
  ·grind[gV,jQ,dD,other]
  ·rename_i t;refine gV.res ?_ (vf (fun H=>t H.symm)) N;refine(h.ob j x l).ext (Ext.refl w) (fun _ _ h=>h) k (dJ.refl β) rfl (fun c o r hk=>?_) (S:=gx)
   have:c≠b:=fun H=>by subst H;exact t (h.dis i j _ s r)
   grind[jQ]
 ·have:i<Γ.length:=(b6 hi).1
  have n:Γ.length<=j:=by grind
  rw[pN (vf ze4)];exact h.out j n
 ·exact h.dis j O c (d j c l).2 (d O c n).2
 ·exact h.own j c (d j c l).2
 ·by_cases G:c=b
  ·subst G;exact .inr (h.own i _ s)
  ·exact h.kn c o g (by grind[jQ])
end
abbrev dQ:=Exit->am->ap->Prop
def gl(B:Bs)(Q:dQ):nL:=fun e l w=>∃K β fr Γ,Inv B K β Γ w/\FR K β fr l/\Q e fr Γ
def GW(P:Program)(m:Nat)(c:Code)(Q:dQ)(fr:am)(Γ:ap):Prop :=
 ∀B K β w l,B.m=m->Inv B K β Γ w->FR K β fr l->W P c (gl B Q) l w
def GL(P:Program)(m:Nat)(ops:Array Oper)(Q:dQ)(rest:List Oper)(fr:am)(Γ:ap):Prop :=
 ∀B K β w l,B.m=m->Inv B K β Γ w->FR K β fr l->WL P ops (gl B Q) rest l w
def bo(next:am->ap->Prop)(Q:dQ):dQ
 |.normal,fr,Γ=>next fr Γ
 |e,fr,Γ=>Q e fr Γ
def bn(id:Nat)(Q:dQ):dQ
 |.exit DZ,fr,Γ=>if DZ=id then Q .normal fr Γ else Q (.exit DZ) fr Γ
 |e,fr,Γ=>Q e fr Γ
def Wk(m:Nat)(fr:am)(Γ:ap)(c8:am)(bE:ap):Prop :=
 ∀B K β w l,B.m=m->Inv B K β Γ w->FR K β fr l->∃S u,Inv B S u bE w/\FR S u c8 l
section
variable{P:Program}{m:Nat}{Q:dQ}{fr:am}{Γ:ap}{ops:Array Oper}{rest:List Oper}
def Wk.trans{c8 S:am}{bE Z:ap}(h:Wk m fr Γ c8 bE)(k:Wk m c8 bE S Z):Wk m fr Γ S Z:=fun B K β w l j i O=>by
 have⟨T,u,F,E⟩:=h B K β w l j i O;exact k B T u w l j F E
def GW.wk{c:Code}{c8:am}{bE:ap}(h:Wk m fr Γ c8 bE)(k:GW P m c Q c8 bE):GW P m c Q fr Γ:=fun B K β w l j i O=>by
 exact zen
def GL.wk{c8:am}{bE:ap}(h:Wk m fr Γ c8 bE)(k:GL P m ops Q rest c8 bE):GL P m ops Q rest fr Γ:=fun B K β w l j i O=>by
 exact zen
def Wk.cut{n:Nat}(j:m<=n)(M:qh n (Γ.take n)=true):Wk m fr Γ (rW n fr) (Γ.take n):=fun B K β w l N i O =>
 ⟨K,dD (below n) β,i.cut ze4 M,O.res⟩
inductive sR:am->am->Prop
 |nil:sR [] []
 |U {f:GV} {fs gs:am} (h:sR fs gs):sR (f::fs) (.U::gs)
 |eq {f g:GV} {fs gs:am} (he:f=g) (h:sR fs gs):sR (f::fs) (g::gs)
def FR.Zf{K:Fz}{β:Bt}{l:List Value}{fr c8:am}(h:sR fr c8)(k:FR K β fr l):FR K β c8 l:=by
 induction h generalizing l with
 |nil=>exact k
 |U h O=>cases k with|cons T S=>exact .cons (.U _) (O S)
 |eq i h O=>subst i;cases k with|cons T S=>exact .cons T (O S)
def Wk.a6{c8:am}(h:sR fr c8):Wk m fr Γ c8 Γ:=fun B K β w l _ i O=>⟨K,β,i,O.Zf h⟩
def GW.seq{x y:Code}(h:GW P m x (bo (GW P m y Q) Q) fr Γ):GW P m (.seq x y) Q fr Γ:=fun B K β w l j i O=>by
 refine W.seq (W.mono (h B K β w l j i O) ?_);rintro e l w⟨K,β,fr,Γ,i,O,J⟩
 cases e with
 |normal=>exact J B K β w l j i O
 |_=>exact⟨K,β,fr,Γ,i,O,J⟩
theorem GW.skip(h:Q .normal fr Γ):GW P m .skip Q fr Γ:=fun B K β w l j i O=>W.skip ⟨K,β,fr,Γ,i,O,h⟩
def GW.exit{n:Nat}(h:Q (.exit n) fr Γ):GW P m (.exit n) Q fr Γ:=fun B K β w l j i O=>W.exit ⟨K,β,fr,Γ,i,O,h⟩
def GW.ret(h:Q .ret fr Γ):GW P m .ret Q fr Γ:=fun B K β w l j i O=>W.ret ⟨K,β,fr,Γ,i,O,h⟩
theorem GW.block{id:Nat}{c:Code}(h:GW P m c (bn id Q) fr Γ):GW P m (.block id c) Q fr Γ:=fun B K β w l j i O=>by
 refine W.block (W.mono (h B K β w l j i O) ?_);rintro e l w⟨K,β,fr,Γ,i,O,J⟩
 cases e with
 |exit DZ =>
  simp only[bn]at J
  grind[UF,gl]
 |_=>exact⟨K,β,fr,Γ,i,O,J⟩
theorem Rel.eE{K:Fz}{β:Bt}{x a:Value}(h:Rel K β x (.v a)):x=a:=by cases h;rfl
def FR.fE{K:Fz}{β:Bt}{l:List Value}{x:Operand}{a:Value}(h:FR K β fr l)(hx:bf fr x=.v a):Xw.ev l x=a:=Rel.eE (by rw[<-hx];exact h.ev x)
def GW.cond{c:Operand}{x y:Code}{t:Bool}(X:bf fr c=.v (.bool t))(M:t=true->GW P m x Q fr Γ)(hf:t=false->GW P m y Q fr Γ):GW P m (.cond c x y) Q fr Γ:=fun B K β w l j i O =>
 W.cond (O.fE X) (fun h=>M h B K β w l j i O) (fun h=>hf h B K β w l j i O)
section
variable{c:Operand}{x y:Code}{t:Bool}
def J8(W:bf fr c=.v (.bool t))(M:t=true)(h:GW P m x Q fr Γ):GW P m (.cond c x y) Q fr Γ:=GW.cond W (fun _=>h) (fun b=>by rw[M]at b;cases b)
def J7(W:bf fr c=.v (.bool t))(M:t=false)(h:GW P m y Q fr Γ):GW P m (.cond c x y) Q fr Γ:=GW.cond W (fun b=>by rw[M]at b;cases b) (fun _=>h)
end
theorem GW.mono{c:Code}{Q':dQ}(h:GW P m c Q fr Γ)(J:∀e fr Γ,Q e fr Γ->Q' e fr Γ):GW P m c Q' fr Γ:=fun B K β w l j i O =>
 W.mono (h B K β w l j i O) fun e l w ⟨K,β,fr,Γ,i,O,q⟩=>⟨K,β,fr,Γ,i,O,J _ _ _ q⟩
def zj(m:Nat)(K:am->ap->Prop)(fr:am)(Γ:ap):Prop:=∃s v,Wk m fr Γ s v/\K s v
theorem GW.loop{c:Code}{S:Type}(C:S->Nat)(aaR:S->am->ap->Prop)(x:S)(o:zj m (aaR x) fr Γ)
  (X:∀x fr Γ,aaR x fr Γ->GW P m c (bo (fun c8 bE=>∃y,zj m (aaR y) c8 bE/\C y<C x) Q) fr Γ):GW P m (.loop c) Q fr Γ:=fun B K β w l j i O=>by
 have⟨c8,bE,n,o⟩:=o;have⟨T,u,F,E⟩:=n B K β w l j i O;refine W.loop C (fun x l w=>∃K β fr Γ,Inv B K β Γ w/\FR K β fr l/\aaR x fr Γ) x ⟨T,u,c8,bE,F,E,o⟩ ?_;rintro x l w⟨K,β,fr,Γ,i,O,k⟩;refine W.mono (X x fr Γ k B K β w l j i O) ?_;rintro e l w⟨K,β,fr,Γ,i,O,J⟩
 cases e with
 |normal =>
  have⟨y,⟨c8,bE,n,G⟩,N⟩:=J;have⟨T,u,F,E⟩:=n B K β w l j i O
  grind[Vz]
 |_=>exact⟨K,β,fr,Γ,i,O,J⟩
def GW.region{id:Nat}{r:List Oper}(h:GL P m r.toArray Q r fr Γ):GW P m (.region id r.toArray false) Q fr Γ:=fun B K β w l j i O=>W.region (h B K β w l j i O)
theorem GL.nil(h:Q .normal fr Γ):GL P m ops Q [] fr Γ:=fun B K β w l j i O=>WL.nil ⟨K,β,fr,Γ,i,O,h⟩
end
section
variable{next:am->ap->Prop}{Q:dQ}{fr:am}{Γ:ap}{id DZ:Nat}
def bg(h:next fr Γ):bo next Q .normal fr Γ:=h
def DK(h:Q (.exit id) fr Γ):bo next Q (.exit id) fr Γ:=h
def iZ(h:Q .ret fr Γ):bo next Q .ret fr Γ:=h
def jM(h:Q .normal fr Γ):bn id Q .normal fr Γ:=h
def iY(h:Q .ret fr Γ):bn id Q .ret fr Γ:=h
def Hc(h:Q .normal fr Γ):bn id Q (.exit id) fr Γ:=by simpa[bn]using h
theorem RT(hn:(DZ==id)=false)(h:Q (.exit DZ) fr Γ):bn id Q (.exit DZ) fr Γ:=by
 simp only[bn];grind
end
def GC(P:Program)(f:FuncId)(gs:am)(Γ:ap)(R:GV->ap->Prop):Prop :=
 ∀B K β w l,B.m=Γ.length->Inv B K β Γ w->bu K β l gs->nZ P f l w fun v Z=>∃S u g z,Inv B S u z Z/\Rel S u v g/\R g z
abbrev GF(P:Program)(f:FuncId)(gs:am)(Γ:ap)(g:GV)(bE:ap):Prop:=GC P f gs Γ fun x k=>x=g/\k=bE
theorem GC.mono{P:Program}{f:FuncId}{gs:am}{Γ:ap}{R b:GV->ap->Prop}(h:GC P f gs Γ R)(A:∀g Γ,R g Γ->b g Γ):GC P f gs Γ b:=fun B K β w l j i O =>
 (h B K β w l j i O).mono fun v Z ⟨S,u,g,z,o,c,G⟩=>⟨S,u,g,z,o,c,A _ _ G⟩
def DJ:Nat->am
 |0=>[]
 |n+1=>.v undef::DJ n
def uV:am->Nat->am
 |[],n=>DJ n
 |a::r,n=>a::uV r (n-1)
theorem FR.EH{K:Fz}{β:Bt}(n:Nat):FR K β (DJ n) (EH n):=by
 induction n with
 |zero=>exact .nil
 |succ n O=>exact .cons (.v _) O
theorem FR.frame{K:Fz}{β:Bt}{vs:List Value}{gs:am}(h:bu K β vs gs)(n:Nat):FR K β (uV gs n) (frame vs n):=by
 induction gs generalizing vs n with
 |nil =>
  grind[kQ,FR.EH,uV,Xw.frame]
 |cons g gs O =>
  cases vs with
  |nil=>grind
  |cons v vs=>have⟨o,b⟩:=h.nE;exact .cons o (O b _)
def oZ(P:Program)(fn:Func)(m:Nat)(R:GV->ap->Prop):dQ:=fun e fr Γ =>
 (e=.normal\/e=.ret)/\∀B K β w l,B.m=m->Inv B K β Γ w->FR K β fr l->∃v S u g z,(results fn l.toArray).run P w=.ok v w/\Inv B S u z w/\Rel S u v g/\R g z
theorem GC.enter{P:Program}{f:FuncId}{fn:Func}{c:Code}{gs:am}{Γ:ap}{R:GV->ap->Prop}{n:Nat}{fr:am}
  (hf:P.funcs[f]?=some fn)(hn:fn.ntmps=n)(j:fn.body=some c)(M:uV gs n=fr)(h:GW P Γ.length c (oZ P fn Γ.length R) fr Γ):GC P f gs Γ R:=fun B K β w q k i O=>by
 subst M;refine nZ.enter hf hn j rfl (W.mono (h B K β w _ k i (FR.frame O n)) ?_);rintro e l w⟨K,β,fr,Γ,i,O,o,J⟩
 grind[IZ]
section
variable{P:Program}{fn:Func}{m:Nat}{R:GV->ap->Prop}{fr:am}{Γ:ap}{e:Exit}
section
variable{n:Nat}
def TV(z:fn.results=#[])(k:e=.normal\/e=.ret)(o:m<=n)(M:qh n (Γ.take n)=true)(h:R (.tup []) (Γ.take n)):oZ P fn m R e fr Γ :=
 ⟨k,fun B K β w l N j O=>⟨.tuple #[],K,dD (below n) β,.tup [],Γ.take n,by rw[results_none z],j.cut ze4 M,.tup [] [] rfl (fun i v g h=>by simp at h),h⟩⟩
def qb{t:Tmp}{g:GV}(v:fn.results=#[.tmp t])(j:e=.normal\/e=.ret)(hg:bx fr t=g)(k:m<=n)(M:qh n (Γ.take n)=true)(Z:g.lt n=true)(h:R g (Γ.take n)):oZ P fn m R e fr Γ :=
 ⟨j,fun B K β w l N i O=>⟨nth l t,K,dD (below n) β,g,Γ.take n,by rw[results_tmp v,gQ],i.cut ze4 M,by rw[<-hg]at Z |-;exact(O.nth t).res Z,h⟩⟩
def Og{t u:Tmp}{g S:GV}(v:fn.results=#[.tmp t,.tmp u])(j:e=.normal\/e=.ret)(hg:bx fr t=g)(H:bx fr u=S)(k:m<=n)(M:qh n (Γ.take n)=true)(Z:(GV.tup [g,S]).lt n=true)(h:R (.tup [g,S]) (Γ.take n)):oZ P fn m R e fr Γ :=
 ⟨j,fun B K β w l N i O=>⟨.tuple #[nth l t,nth l u],K,dD (below n) β,.tup [g,S],Γ.take n,by rw[results_tmp2 v,gQ,gQ],i.cut ze4 M,by
  refine Rel.res ?_ Z;subst hg H;have W:bu K β [nth l t,nth l u] [bx fr t,bx fr u]:=.cons (O.nth t) (.cons (O.nth u) .nil)
  exact .tup [nth l t,nth l u] _ W.1 W.2,h⟩⟩
def TW{t u s:Tmp}{g S O:GV}(v:fn.results=#[.tmp t,.tmp u,.tmp s])(j:e=.normal\/e=.ret)(hg:bx fr t=g)(H:bx fr u=S)(z:bx fr s=O)(k:m<=n)(M:qh n (Γ.take n)=true)(Z:(GV.tup [g,S,O]).lt n=true)
  (h:R (.tup [g,S,O]) (Γ.take n)):oZ P fn m R e fr Γ :=
 ⟨j,fun B K β w l N i T=>⟨.tuple #[nth l t,nth l u,nth l s],K,dD (below n) β,.tup [g,S,O],Γ.take n,by
   rw[<-gQ l t,<-gQ l u,<-gQ l s];simp[results,v],i.cut ze4 M,by
  refine Rel.res ?_ Z;subst hg H z;have W:bu K β [nth l t,nth l u,nth l s] [bx fr t,bx fr u,bx fr s]:=.cons (T.nth t) (.cons (T.nth u) (.cons (T.nth s) .nil))
  exact .tup [nth l t,nth l u,nth l s] _ W.1 W.2,h⟩⟩
theorem Oh{t:Tmp}{T:TypeId}{k:Nat}[X:Ty P T true k]{i:Nat}{E:TypeId}{cs:am}(J:fn.results=#[.cell t T])(C:e=.normal\/e=.ret)(hg:bx fr t=.loc i 0)(r:Γ[i]?=some (.box E cs))(Z:cs.length=k)
  (hm:m<=n)(F:qh n (Γ.take n)=true)(d:(GV.agg cs).lt n=true)(h:R (.agg cs) (Γ.take n)):oZ P fn m R e fr Γ :=
 ⟨C,fun B K β w l W u z=>by
  have⟨b,vs,N,O,s,S⟩:=u.ob i _ r
  have G:nth l t=.pointer (some ⟨b,0,none⟩):=by
   have:=z.nth t;rw[hg]at this;generalize nth l t=v at this
   cases this with
   |loc _ _ M A=>grind
  have H:l.toArray.getD t undef=.pointer (some ⟨b,0,none⟩):=by rw[gQ,G]
  have q:=jx (P:=P) (w:=w) (t:=T) (b:=b) (o:=0) (vs:=vs) (k:=k) ze4 (fun j v Y=>by
   grind[World.cell?])
  have c:l[t]?.getD undef=.pointer (some ⟨b,0,none⟩):=by simp_all
  exact⟨.agg vs.toArray,K,dD (below n) β,.agg cs,Γ.take n,by simp[results,J,c,asAddr,q],u.cut ze4 F,Rel.res (.agg vs cs s.1 s.2) d,h⟩⟩
end
end
def D(P:Program)(op:Op)(fr:am)(Γ:ap)(g:GV):Prop :=
 ∀B K n w l,Inv B K n Γ w->FR K n fr l->∃v,fB P l w op v/\Rel K n v g
section
variable{P:Program}{m:Nat}{Q:dQ}{fr:am}{Γ:ap}{ops:Array Oper}{rest:List Oper}{d:Option Tmp}{op:Op}{ty:TypeId}{pos:String}{af:Array Edge}
def GL.q{g:GV}(C:D P op fr Γ g)(h:GL P m ops Q rest (bI fr d g) Γ):GL P m ops Q (⟨d,op,ty,pos,af,none⟩::rest) fr Γ:=fun B K n w l j i O=>by
 have⟨v,z,k⟩:=C B K n w l i O;exact WL.v z (h B K n w _ j i (O.put d k))
def qw{c8:am}{bE:ap}(o:fr=c8)(b:Γ=bE)(h:GL P m ops Q rest c8 bE):GL P m ops Q rest fr Γ:=by subst o;subst b;exact h
def GN{c8:am}(o:fr=c8)(h:GL P m ops Q rest c8 Γ):GL P m ops Q rest fr Γ:=by subst o;exact h
def D.v1{x:Operand}{a v:Value}(hx:bf fr x=.v a)(h:∀l w,ev l x=a->fB P l w op v):D P op fr Γ (.v v):=fun B K n w l i O=>⟨v,h l w (O.fE hx),.v v⟩
def D.v2{x y:Operand}{a b v:Value}(hx:bf fr x=.v a)(C:bf fr y=.v b)(h:∀l w,ev l x=a->ev l y=b->fB P l w op v):D P op fr Γ (.v v):=fun B K n w l i O=>⟨v,h l w (O.fE hx) (O.fE C),.v v⟩
theorem D.mv{x:Operand}:D P (.move x) fr Γ (bf fr x):=fun B K n w l i O=>⟨_,R.mv,O.ev x⟩
theorem D.iU{x:Operand}:D P (.assign x) fr Γ (bf fr x):=fun B K n w l i O=>⟨_,R.iU,O.ev x⟩
theorem D.A3{fn:Fn}{first c:List Operand}:D P (.makeFunc fn first.toArray c.toArray) fr Γ (.fn fn (first.map (bf fr)) (c.map (bf fr))):=fun B K n w l i O =>
 ⟨_,R.A3,by
  have o:=O.args first
  have b:=O.args c
  simpa using Rel.fn fn _ _ _ _ o.1 b.1 o.2 b.2⟩
def AR:GV->Value
 |.v x=>x
 |_=>.nilFunc
def TZ(n:Operand->Value)(op:Op):Option Value :=
 match op with
 |.binOp _ _ _ _ _=>go n op
 |.unOp _ _ _=>go n op
 |_=>none
def RW{K:Fz}{β:Bt}{x:Value}{g:GV}(h:Rel K β x g):AR g=x\/AR g=.nilFunc:=by
 cases h<;>first|exact .inl rfl|exact .inr rfl
theorem D.go{v:Value}(h:TZ (fun x=>AR (bf fr x)) op=some v):D P op fr Γ (.v v):=fun B K n w l i O=>by
 refine⟨v,RV ?_,.v v⟩
 have R:∀x,AR (bf fr x)=ev l x\/AR (bf fr x)=.nilFunc:=fun x=>RW (O.ev x)
 unfold TZ at h;split at h
 ·rename_i o t x y k;simp only[Xw.go]at h |-
  grind[CU,ev]
 ·rename_i o t x;simp only[Xw.go,vL]at h |-
  grind
 ·cases h
def D.QP{c a b:Operand}{t:Bool}(W:bf fr c=.v (.bool t))(M:t=true):D P (.pick c a b) fr Γ (bf fr a):=fun B K n w l i O=>⟨_,R.QP (O.fE W) M,O.ev a⟩
def D.QO{c a b:Operand}{t:Bool}(W:bf fr c=.v (.bool t))(M:t=false):D P (.pick c a b) fr Γ (bf fr b):=fun B K n w l i O=>⟨_,R.QO (O.fE W) M,O.ev b⟩
def D.Y7{x:Operand}{i o:Nat}(hx:bf fr x=.loc i o):D P (.nilCheck x) fr Γ (.loc i o):=fun B K q w l n O=>by
 have h:=O.ev x;rw[hx]at h;generalize k:ev l x=v at h
 cases h with|loc _ _ b j=>exact⟨_,R.CW k,.loc i o b j⟩
def D.Jy{x:Operand}{cs:am}{o:Nat}(hx:bf fr x=.box cs o):D P (.nilCheck x) fr Γ (.box cs o):=fun B K n w l k O=>by
 have h:=O.ev x;rw[hx]at h;generalize j:ev l x=v at h
 cases h with|box b Y _ _ i=>exact⟨_,R.CW j,.box b Y o cs i⟩
def D.OT{x:Operand}{t:TypeId}[n:pW P t]{s:ah}(hx:bf fr x=.v (sv s)):D P (.call ⟨.builtin .len,#[x],#[t]⟩) fr Γ (.v (ii s.length)):=D.v1 hx fun l w h=>R.OT h
def D.Wu{x:Operand}{t e:TypeId}{k:Nat}[n:lK P t e k]{k':Nat}{rows:List am}(hx:bf fr x=.sl k' rows):D P (.call ⟨.builtin .len,#[x],#[t]⟩) fr Γ (.v (ii rows.length)):=fun B K q w l i O=>by
 have h:=O.ev x;rw[hx]at h;generalize j:ev l x=v at h
 cases h with
 |sl0 a c=>exact⟨_,R.Jq j,.v _⟩
 |sl b o c _ _ h _=>exact⟨_,R.Jq j,.v _⟩
def D.Y1{x:Operand}{t e:TypeId}{k:Nat}[q:lK P t e k]{i n:Nat}(hx:bf fr x=.vec i n):D P (.call ⟨.builtin .len,#[x],#[t]⟩) fr Γ (.v (ii n)):=fun B K r w l o O=>by
 have h:=O.ev x;rw[hx]at h;generalize j:ev l x=v at h
 cases h with|vec _ _ a c h=>exact⟨_,R.Jq j,.v _⟩
def D.Y0{x:Operand}{t e:TypeId}{k:Nat}[o:lK P t e k]{a:Option Addr}{n c:Nat}(hx:bf fr x=.v (.slice a n c)):D P (.call ⟨.builtin .len,#[x],#[t]⟩) fr Γ (.v (ii n)):=D.v1 hx fun l w h=>R.Jq h
def D.kc{x y:Operand}{t n:TypeId}{a b:ah}(hx:bf fr x=.v (sv a))(B:bf fr y=.v (sv b)):D P (.binOp .eql t x y n) fr Γ (.v (.bool (a==b))):=D.v2 hx B fun l w h k=>R.kc h k
def D.ke{x y:Operand}{t n:TypeId}{a b:ah}(hx:bf fr x=.v (sv a))(B:bf fr y=.v (sv b)):D P (.binOp .neq t x y n) fr Γ (.v (.bool (!(a==b)))):=D.v2 hx B fun l w h k=>R.ke h k
def D.fM{x y:Operand}{t:TypeId}[n:pW P t]{s:ah}{k:IntKind}{i:Nat}{c:UInt8}(hx:bf fr x=.v (sv s))(B:bf fr y=.v (.int k i))(W:s[i]?=some c):D P (.index t x y) fr Γ (.v (.int .u8 c.toNat)):=D.v2 hx B fun l w h k=>R.fM h k W
theorem D.add{x y:Operand}{t n:TypeId}{a b:Int}(hx:bf fr x=.v (ii a))(B:bf fr y=.v (ii b))(i : -9223372036854775808<=a+b/\a+b<=9223372036854775807):D P (.binOp .add t x y n) fr Γ (.v (ii (a+b))):=D.v2 hx B fun l w h k=>R.add h k i.1 i.2
def D.gM{x y:Operand}{t n:TypeId}{a b:Nat}(hx:bf fr x=.v (ii a))(B:bf fr y=.v (ii b))(i:a+b<=9223372036854775807):D P (.binOp .add t x y n) fr Γ (.v (ii ((a+b:Nat):Int))):=D.v2 hx B fun l w h k=>R.gM h k i
def D.gB{x y:Operand}{t n:TypeId}{a:Nat}(hx:bf fr x=.v (ii a))(B:bf fr y=.v (ii 1))(i:a+1<=9223372036854775807):D P (.binOp .add t x y n) fr Γ (.v (ii ((a+1:Nat):Int))):=D.v2 hx B fun l w h k=>R.gB h k i
theorem D.sub{x y:Operand}{t n:TypeId}{a b:Int}(hx:bf fr x=.v (ii a))(B:bf fr y=.v (ii b))(i : -9223372036854775808<=a-b/\a-b<=9223372036854775807):D P (.binOp .sub t x y n) fr Γ (.v (ii (a-b))):=D.v2 hx B fun l w h k=>R.sub h k i.1 i.2
def D.mul{x y:Operand}{t n:TypeId}{a b:Int}(hx:bf fr x=.v (ii a))(B:bf fr y=.v (ii b))(i : -9223372036854775808<=a*b/\a*b<=9223372036854775807):D P (.binOp .mul t x y n) fr Γ (.v (ii (a*b))):=D.v2 hx B fun l w h k=>R.mul h k i.1 i.2
def D.cat{x y:Operand}{t n:TypeId}{a b:ah}(hx:bf fr x=.v (sv a))(B:bf fr y=.v (sv b))(i:a.length+b.length<=9223372036854775807):D P (.binOp .add t x y n) fr Γ (.v (sv (a++b))):=D.v2 hx B fun l w h k=>R.cat h k i
def D.im{x:Operand}{t:TypeId}[q:pW P t]{s:ah}{lo hi:Operand}{k k':IntKind}{i j:Nat}(hx:bf fr x=.v (sv s))(G:bf fr lo=.v (.int k i))(Z:bf fr hi=.v (.int k' j))(n:i<=j/\j<=s.length):D P (.slice t x (some lo) (some hi) none) fr Γ (.v (sv ((s.take j).drop i))) :=
 fun B K r w l o O=>⟨_,R.Pw (O.fE hx) ⟨k,O.fE G⟩ ⟨k',O.fE Z⟩ n.1 n.2,.v _⟩
theorem D.il{x:Operand}{t:TypeId}[q:pW P t]{s:ah}{lo:Operand}{k:IntKind}{i:Nat}(hx:bf fr x=.v (sv s))(G:bf fr lo=.v (.int k i))(n:i<=s.length):D P (.slice t x (some lo) none none) fr Γ (.v (sv (s.drop i))) :=
 fun B K r w l o O=>⟨_,by
  have:=R.Pw (P:=P) (w:=w) (l:=l) (t:=t) (lo:=some lo) (hi:=none) (i:=i) (j:=s.length) (O.fE hx) ⟨k,O.fE G⟩ rfl n (a8 _)
  grind,.v _⟩
def D.ik{x:Operand}{t:TypeId}[q:pW P t]{s:ah}{hi:Operand}{k:IntKind}{j:Nat}(hx:bf fr x=.v (sv s))(Z:bf fr hi=.v (.int k j))(n:j<=s.length):D P (.slice t x none (some hi) none) fr Γ (.v (sv (s.take j))) :=
 fun B K r w l o O=>⟨_,R.Pw (P:=P) (w:=w) (l:=l) (t:=t) (lo:=none) (hi:=some hi) (i:=0) (j:=j) (O.fE hx) rfl ⟨k,O.fE Z⟩ (bl _) n,.v _⟩
theorem D.ext{x:Operand}{i:Nat}{cs:am}{g:GV}(hx:bf fr x=.tup cs)(hg:cs[i]?=some g):D P (.extract x i) fr Γ g:=fun B K q w l o O=>by
 have h:=O.ev x;rw[hx]at h;generalize k:ev l x=v at h
 cases h with
 |tup n _ M h =>
  have j:i<n.length:=by grind
  exact⟨n[i],R.extract k zfA,h i _ g zfA hg⟩
def D.eD{x y:Operand}{t e:TypeId}{k:Nat}[s:lK P t e k]{rows:List am}{A:IntKind}{i:Nat}{r:am}(hx:bf fr x=.sl k rows)(C:bf fr y=.v (.int A i))(z:rows[i]?=some r):D P (.indexAddr t x y) fr Γ (.box r 0):=fun B K u w l q O=>by
 have h:=O.ev x;rw[hx]at h;have j:=(b6 z).1;generalize n:ev l x=v at h
 cases h with
 |sl0 a c=>simp at j
 |sl b o c _ _ h _=>exact⟨_,R.gi n (O.fE C) j,.box b (o+i*k) 0 r (h i r z).2⟩
def D.TR{x:Operand}{s:TypeId}{f z k:Nat}{agg:Bool}[r:ec P s f z k agg]{i o:Nat}(hx:bf fr x=.loc i o):D P (.fieldAddr s x f) fr Γ (.loc i (o+z)):=fun B K t w l q O=>by
 have h:=O.ev x;rw[hx]at h;generalize n:ev l x=v at h
 cases h with|loc _ _ b j=>exact⟨_,R.N9 n,.loc i _ b j⟩
def D.TP{x:Operand}{s:TypeId}{f z k:Nat}{agg:Bool}[q:ec P s f z k agg]{cs:am}{o:Nat}(hx:bf fr x=.box cs o):D P (.fieldAddr s x f) fr Γ (.box cs (o+z)):=fun B K r w l n O=>by
 have h:=O.ev x;rw[hx]at h;generalize j:ev l x=v at h
 cases h with|box b Y _ _ i=>exact⟨_,R.N9 j,by rw[kA];exact .box b Y _ cs i⟩
theorem D.XW{x:Operand}{t:TypeId}[n:Ty P t false 1]{i o:Nat}{E:TypeId}{cs:am}{g:GV}(hx:bf fr x=.loc i o)(q:Γ[i]?=some (.box E cs))(hg:cs[o]?=some g):D P (.load t x) fr Γ g:=fun B K H w l j O=>by
 have h:=O.ev x;rw[hx]at h;generalize s:ev l x=v at h
 cases h with
 |loc _ _ b k =>
  have⟨A,F,r,c,G,C⟩:=j.ob i _ q;rw[k]at r;cases r;have⟨u,M,z⟩:=G.at hg
  grind[R.ld,yH]
def D.UK{x:Operand}{t:TypeId}[n:Ty P t false 1]{cs:am}{o:Nat}{g:GV}(hx:bf fr x=.box cs o)(hg:cs[o]?=some g):D P (.load t x) fr Γ g:=fun B K q w l i O=>by
 have h:=O.ev x;rw[hx]at h;generalize k:ev l x=v at h
 cases h with
 |box b Y _ _ j =>
  have⟨W,u,M,z⟩:=i.fz _ _ _ (j o g hg);exact⟨u,R.ld k M,z.pc W⟩
theorem rN{k:Nat}{rows:List am}(N:gR k rows){i j:Nat}{r:am}{g:GV}(v:rows[i]?=some r)(hg:r[j]?=some g):rows.flatten[i*k+j]?=some g:=by
 induction rows generalizing i with
 |nil=>simp at v
 |cons a rows O =>
  have w:a.length=k:=(N a (List.mem_cons_self)).1
  cases i with
  |zero =>
   grind
  |succ i =>
   rw[flatten_cons,hO ze2,w];rw[show(i+1)*k+j-k=i*k+j by grind];exact O (fun r v=>N r (eQ _ v)) ze2
theorem D.OO{x:Operand}{t:TypeId}{k:Nat}[F:Ty P t true k]{i o:Nat}{E:TypeId}{cs gs:am}(hx:bf fr x=.loc i o)(q:Γ[i]?=some (.box E cs))(hg:(cs.drop o).take k=gs)(N:gs.length=k):D P (.load t x) fr Γ (.agg gs):=fun B K H w l n O=>by
 have h:=O.ev x;rw[hx]at h;generalize u:ev l x=v at h
 cases h with
 |loc _ _ b s =>
  have⟨A,z,r,c,G,C⟩:=n.ob i _ q;rw[s]at r;cases r;have e:=(G.drop o).take k;rw[hg]at e;refine⟨.agg ((z.drop o).take k).toArray,R.XX u ze4 (fun j v Y=>?_),.agg _ _ e.1 e.2⟩
  grind[jb]
theorem vF{K:Fz}{β:Bt}{H:Array Obj}{b:Nat}:∀(gs:am)(o:Nat),(∀(j:Nat)g,gs[j]?=some g->∃v,jb H b (o+j)=some v/\Rel K β v g)->∃vs:List Value,bu K β vs gs/\∀(j:Nat)v,vs[j]?=some v->jb H b (o+j)=some v
 |[],o,_=>⟨[],.nil,fun j v h=>by simp at h⟩
 |g::gs,o,h=>by
  have⟨v,k,w⟩:=h 0 g rfl;obtain⟨vs,q,c⟩:=vF gs (o+1) (fun j R X=>by rw[show o+1+j=o+(j+1) by omega];exact h (j+1) R X);refine⟨v::vs,.cons w q,fun j u Y=>?_⟩
  grind
theorem D.UL{x:Operand}{t:TypeId}{k:Nat}[C:Ty P t true k]{cs gs:am}{o:Nat}(hx:bf fr x=.box cs o)(hg:(cs.drop o).take k=gs)(N:gs.length=k):D P (.load t x) fr Γ (.agg gs):=fun B K β w l i O=>by
 have h:=O.ev x;rw[hx]at h;generalize r:ev l x=v at h
 cases h with
 |box b Y _ _ n =>
  obtain⟨s,q,c⟩:=vF (K:=K) (β:=β) (H:=w.heap) (b:=b) gs (Y+o) (fun j g Z=>by
   have z:cs[o+j]?=some g:=by
    grind
   have⟨W,u,M,A⟩:=i.fz _ _ _ (n (o+j) g z)
   exact⟨u,by grind,A.pc W⟩)
  exact⟨.agg s.toArray,R.XX r ze4 c,.agg _ _ q.1 q.2⟩
def lN:GV->Option am
 |.v x=>match Bd x with
  |true=>some [.v x]
  |false=>none
 |.agg O=>some O
 |.U=>none
 |.tup _=>none
 |.vp _ _ _ _ _=>none
 |.sl k H=>some [.sl k H]
 |.box O o=>some [.box O o]
 |.loc i o=>some [.loc i o]
 |.vec i n=>some [.vec i n]
 |.arr i o n=>some [.arr i o n]
 |.fn f a c=>some [.fn f a c]
def lO:am->Nat->am->am
 |cs,_,[]=>cs
 |cs,o,v::r=>lO (bB cs o v) (o+1) r
def xH(q:Nat->Option (Nat × Nat)):am->List (Nat × GV)->Option am
 |cs,[]=>some cs
 |cs,(i,g)::r=>match q i with
  |none=>none
  |some (o,k)=>match lN g with
   |none=>none
   |some s=>if s.length≠k ||decide (o+s.length>cs.length)then none else xH q (lO cs o s) r
theorem Rel.cells{K:Fz}{β:Bt}{x:Value}{g:GV}{gs:am}(h:Rel K β x g)(hg:lN g=some gs):∃vs:List Value,x.cells=vs.toArray/\bu K β vs gs:=by
 have one:∀{x:Value}{g:GV},Rel K β x g->x.cells=#[x]->∃vs:List Value,x.cells=vs.toArray/\bu K β vs [g]:=fun w W=>⟨[_],W,.cons w .nil⟩
 cases h with
 |v x =>
  simp only[lN]at hg;split at hg
  ·rename_i A;cases hg;exact one (.v _) (lW A).1
  grind
 |U x=>cases hg
 |agg vs O M h=>cases hg;grind[Value.cells]
 |tup vs O M h=>cases hg
 |sl0 a c k=>cases hg;exact one (.sl0 a c k) rfl
 |sl b o c k H h W=>cases hg;exact one (.sl b o c k H h W) rfl
 |box b Y o O h=>cases hg;exact one (.box b Y o O h) rfl
 |loc i o b h=>cases hg;exact one (.loc i o b h) rfl
 |vec i n a c h=>cases hg;exact one (.vec i n a c h) rfl
 |vp i n k idx z x h=>cases hg
 |arr i o n b c h=>cases hg;exact one (.arr i o n b c h) rfl
 |fn f X q first e M j h l=>cases hg;exact one (.fn f X q first e M j h l) rfl
def nq:am->Bool
 |[]=>true
 |g::s=>g.one&&nq s
def lY:am->Bool
 |[]=>true
 |g::s=>g.pc&&lY s
theorem kp{gs:am}(h:lY gs=true):∀g∈gs,g.pc=true:=by
 induction gs with
 |nil=>simp
 |cons x gs O =>
  simp_all[lY,aZ,List.mem_cons]
theorem bu.lf{K:Fz}{β:Bt}{vs:List Value}{gs:am}(h:bu K β vs gs)(A:nq gs=true):lf vs=true:=by
 induction gs generalizing vs with
 |nil=>grind[Xw.lf]
 |cons g gs O =>
  cases vs with
  |nil=>rfl
  |cons v vs =>
   simp only[nq,aZ]at A;have⟨o,b⟩:=h.nE;have G:=(lW (o.one A.1)).2
   grind[Xw.lf]
end
theorem bu.mG{K:Fz}{β:Bt}{us:List Value}{G:am}(k:bu K β us G):∀{vs:List Value}{gs:am}(o:Nat),bu K β vs gs->bu K β (mG vs o us) (lO gs o G):=by
 have M:∀{vs:List Value}{gs:am}(o:Nat){v:Value}{g:GV},Rel K β v g->bu K β vs gs->bu K β (fg vs o v) (bB gs o g):=by
  intro vs
  induction vs with
  |nil =>
   intro gs o v g j h;have:gs=[]:=kQ h.1.symm;subst this;exact .nil
  |cons x vs O =>
   intro gs o v g j h
   cases gs with
   |nil=>grind
   |cons y gs =>
    have⟨q,b⟩:=h.nE
    cases o with
    |zero=>exact .cons j b
    |succ o=>exact .cons q (O o j b)
 induction us generalizing G with
 |nil =>
  intro vs gs o h;have:G=[]:=kQ k.1.symm;subst this;exact h
 |cons u us O =>
  intro vs gs o h
  cases G with
  |nil=>grind
  |cons g G =>
   have⟨q,b⟩:=k.nE;exact O b (o+1) (M o q h)
def vJ{K:Fz}{β:Bt}{q:Nat->Option (Nat × Nat)}{l:List Value}{fr:am}(O:FR K β fr l):∀(parts:List (Nat × Operand))(vs:List Value)(gs cs:am),bu K β vs gs ->
  xH q gs (parts.map fun x=>(x.1,bf fr x.2))=some cs->∃us,qa q vs (parts.map fun x=>(x.1,ev l x.2))=some us/\bu K β us cs
 |[],vs,gs,cs,h,n=>by cases n;grind[qa]
 |(i,x)::r,vs,gs,cs,h,n=>by
  simp only[List.map_cons,xH]at n;simp only[List.map_cons,qa]
  cases Y:q i with
  |none=>grind
  |some y =>
   have⟨o,k⟩:=y;rw[Y]at n;simp only at n |-
   cases X:lN (bf fr x)with
   |none=>grind
   |some G =>
    rw[X]at n;simp only at n;have⟨us,j,u⟩:=(O.ev x).cells X
    have w:(ev l x).cells.size=G.length:=by grind
    rw[w,h.1];split at n
    ·cases n
    ·rename_i W;rw[ab W]
     have s:(ev l x).cells.toList=us:=by rw[j]
     rw[s];exact vJ O r _ _ cs (u.mG o h) n
section
variable{P:Program}{m:Nat}{Q:dQ}{fr:am}{Γ:ap}{ops:Array Oper}{rest:List Oper}{d:Option Tmp}{op:Op}{ty:TypeId}{pos:String}{af:Array Edge}
def gT(z:List Value):am:=z.map .v
def D.build{t:TypeId}{o:List (Nat × Nat)}{z:List Value}[n:rA P t o z]{parts:List (Nat × Operand)}{cs:am}(hf:xH (fun i=>o[i]?) (gT z) (parts.map fun x=>(x.1,bf fr x.2))=some cs) :
  D P (.build t parts.toArray) fr Γ (.agg cs):=fun B K r w l j O=>by
 have⟨u,q,b⟩:=vJ O parts z _ cs bu.self hf;exact⟨_,R.build q,.agg u cs b.1 b.2⟩
theorem nz{K:Fz}{β:Bt}{l:List Value}{t:Nat}(h:FR K β fr l)(M:iy fr t=true):iy l t=true:=by
 induction h generalizing t with
 |nil=>cases M
 |cons _ _ O=>cases t with|zero=>rfl|succ t=>exact O M
theorem sG{l:List Value}{t:Nat}(h:iy l t=true)(u:Value):nth (fg l t u) t=u:=by
 induction l generalizing t with
 |nil=>cases h
 |cons x l O=>cases t with|zero=>rfl|succ t=>exact O h
theorem j4{l:List Value}{t k:Nat}(h:k≠t)(u:Value):nth (fg l t u) k=nth l k:=by
 induction l generalizing t k with
 |nil=>rfl
 |cons x l O=>cases t with
  |zero=>cases k with|zero=>omega|succ k=>rfl
  |succ t=>cases k with|zero=>rfl|succ k=>grind[nth,fg]
def GL.alloc{t:TypeId}{z:Value}{cs:am}[o:oX P t z](n:gT z.cells.toList=cs)(h:GL P m ops Q rest (bI fr d (.loc Γ.length 0)) (Γ++[.box t cs])):GL P m ops Q (⟨d,.alloc t,ty,pos,af,none⟩::rest) fr Γ:=fun B K q w l j i O=>by
 refine WL.alloc (z:=z) fun b Z c=>?_
 have F:=i.add (vs:=z.cells.toList) (cs:=cs) (E:=t) zft (by rw[<-n];exact bu.self);exact zcH
def GL.box{t:TypeId}{x:Operand}{cs:am}(hx:lN (bf fr x)=some cs)(h:GL P m ops Q rest (bI fr d (.loc Γ.length 0)) (Γ++[.box t cs])):GL P m ops Q (⟨d,.box t x,ty,pos,af,none⟩::rest) fr Γ:=fun B K q w l j i O=>by
 have⟨n,o,e⟩:=(O.ev x).cells hx
 refine WL.box rfl fun b Z c=>?_
 rw[o]at c;have F:=i.add c e;exact zcH
def oset:ap->Nat->Ob->ap
 |[],_,_=>[]
 |_::l,0,x=>x::l
 |y::l,n+1,x=>y::oset l n x
theorem bD(l:ap)(i:Nat)(x:Ob):oset l i x=l.set i x:=by
 induction l generalizing i with
 |nil=>rfl
 |cons y l O=>cases i with|zero=>rfl|succ i=>simp[oset,O]
def uj:∀(us:List Value)(vs:List Value)(o:Nat),setL vs.toArray o us=(mG vs o us).toArray
 |[],vs,o=>rfl
 |u::us,vs,o=>by rw[setL,mG,xp];exact uj us _ _
theorem GL.st{x y:Operand}{t:TypeId}{agg:Bool}{k:Nat}[W:Ty P t agg k]{i o:Nat}{E:TypeId}{cs gs:am}(hx:bf fr x=.loc i o)(n:Γ[i]?=some (.box E cs))(N:lN (bf fr y)=some gs)(X:gs.length=k)(C:nq gs=true)
  (Y:Nat.ble (o+k) cs.length=true)(h:GL P m ops Q rest (bI fr d (.v undef)) (oset Γ i (.box E (lO cs o gs)))):GL P m ops Q (⟨d,.store t x y,ty,pos,af,none⟩::rest) fr Γ:=fun B K R w l J u q=>by
 have r:=q.ev x;rw[hx]at r;generalize M:ev l x=v at r
 cases r with
 |loc _ _ b z =>
  have⟨S,vs,s,F,G,T⟩:=u.ob i _ n;rw[z]at s;cases s;have⟨Z,e,j⟩:=(q.ev y).cells N
  have H:o+k<=cs.length:=by simp_all
  refine WL.st (t:=t) M rfl F ze2 ze2 (by rw[e];simpa using j.lf C) fun O A=>?_
  rw[e,List.toList_toArray,uj]at A;have c:=u.store n z A (j.mG o G);rw[<-bD]at c;exact h B K R O _ J c (q.put d (.v _))
def chunk:Nat->Nat->am->List am
 |0,_,_=>[]
 |n+1,k,s=>s.take k::chunk n k (s.drop k)
theorem vG{k:Nat}:∀(n:Nat)(gs:am),gs.length=n*k->(chunk n k gs).flatten=gs/\(chunk n k gs).length=n/\∀r∈chunk n k gs,r.length=k/\∀g∈r,g∈gs
 |0,gs,h=>by
  grind[chunk]
 |n+1,gs,h=>by
  have N:k<=gs.length:=by grind
  have⟨o,b,G⟩:=vG (k:=k) n (gs.drop k) ze2
  grind[flatten_cons,List.take_append_drop,List.length_cons,List.mem_of_mem_take,List.mem_of_mem_drop,chunk]
def zs:Nat->List Value->am
 |0,_=>[]
 |n+1,z=>gT z++zs n z
theorem Ak{K:Fz}{β:Bt}{n k:Nat}{z:List Value}(o:z.length=k)(N:0<k):bu K β ((List.range (n*k)).map fun j=>z.getD (j%k) undef) (zs n z):=by
 induction n with
 |zero=>grind[zs]
 |succ n O =>
  have e:(List.range ((n+1)*k)).map (fun j=>z.getD (j%k) undef)=(List.range k).map (fun j=>z.getD (j%k) undef)++(List.range (n*k)).map fun j=>z.getD (j%k) undef:=by
   simp[Nat.succ_mul,Nat.add_comm,List.range_add,jK,List.map_map,List.map_congr_left]
  rw[e,zs];refine bu.app ?_ O
  have:(List.range k).map (fun j=>z.getD (j%k) undef)=z:=by
   apply List.ext_getElem
   ·simp[o]
   grind[Nat.mod_eq_of_lt,cY]
  rw[this];exact bu.self
theorem GL.Ce{t e:TypeId}{k:Nat}{z:List Value}[s:n5 P t e k z]{n:Nat}{parts:List (Nat × Operand)}{cs:am}(hn:Nat.ble (n*k) 16777216=true)(hf:xH (fun i=>some (i*k,k)) (zs n z) (parts.map fun x=>(x.1,bf fr x.2))=some cs)
  (R:Nat.beq cs.length (n*k)=true)(W:lY cs=true)(h:GL P m ops Q rest (bI fr d (.sl k (chunk n k cs))) Γ):GL P m ops Q (⟨d,.buildSlice t n parts.toArray,ty,pos,af,none⟩::rest) fr Γ:=fun B K β w l G E O=>by
 have⟨J,u,c⟩:=vJ O parts _ _ cs (Ak (n:=n) s.zl s.pos) hf
 have q:cs.length=n*k:=by simp_all
 refine WL.A4 (by simp_all) u fun b Z A=>?_
 have⟨N,F⟩:=E.rH A c (kp W);have⟨H,M,C⟩:=vG n cs q;refine h B _ β Z _ G F ((O.mono N (dJ.refl β)).put d ?_)
 have o:gR k (chunk n k cs):=fun r v=>⟨(C r v).1,fun g X=>kp W g ((C r v).2 g X)⟩
 have:=Rel.sl (K:=jQ K b cs) (β:=β) b 0 n k (chunk n k cs) (fun i r v=>⟨(o r (bN v)).1,fun j g X=>by
  rw[dy];grind[Gr,rN]⟩) ze4
 grind
theorem GL.XZ{t e:TypeId}{k:Nat}{z:List Value}[s:n5 P t e k z]{n:Nat}{parts:List (Nat × Operand)}{cs:am}(hn:Nat.ble (n*k) 16777216=true)(hf:xH (fun i=>some (i*k,k)) (zs n z) (parts.map fun x=>(x.1,bf fr x.2))=some cs)
  (Z:Nat.beq cs.length (n*k)=true)(R:lY cs=true)(h:GL P m ops Q rest (bI fr d (.vec Γ.length n)) (Γ++[.vec e k 0 (chunk n k cs)])):GL P m ops Q (⟨d,.buildSlice t n parts.toArray,ty,pos,af,none⟩::rest) fr Γ:=fun B K β w l N F E=>by
 have⟨S,J,Y⟩:=vJ E parts _ _ cs (Ak (n:=n) s.zl s.pos) hf
 have v:cs.length=n*k:=by simp_all
 have o:n*k<=16777216:=by simp_all
 have O:n<=16777216:=jC (Nat.le_mul_of_pos_right n s.pos) o
 refine WL.A4 o J fun b T c=>?_
 have⟨X,H,C⟩:=vG n cs v
 have j:gR k (chunk n k cs):=fun r G=>⟨(C r G).1,fun g M=>kp R g ((C r G).2 g M)⟩
 have A:=iw.U2 c (n:=n) (k:=k) ze4 zfd;have q:=F.Au (x:=.slice (some ⟨b,0,none⟩) n n) (xs:=S) (rows:=chunk n k cs) c.ext (by rw[H];exact A.base (bl _)) (fun W u=>by cases u;rw[c.fresh];simp) ze2 j;refine h B K _ T _ N q ((E.mono (c6.refl K) (iT (by rw[F.out _ (a8 _)];trivial))).put d ?_);exact .vec _ n _ n ⟨_,_,bV,by omega,fun _=>rfl⟩
def Pl(x:Operand)(t:Tmp):Bool :=
 match x with
 |.tmp k=>!Nat.beq k t
 |_=>true
theorem TJ{l:List Value}{x:Operand}{t:Tmp}(h:Pl x t=true)(u:Value):ev (put l (some t) u) x=ev l x:=by
 cases x with
 |tmp k=>exact j4 (fun e=>by simp_all[Pl]) u
 |_=>rfl
theorem GL.push{x s:Operand}{t e k E:Nat}{z:List Value}[hT:mO P t e k E][hZ:n5 P t e k z]{C:Tmp}{MZ:TypeId}{M:String}{S:Array Edge}{i n fz:Nat}{rows:List am}{gs:am}
  (hx:lN (bf fr x)=some gs)(hk:Nat.beq gs.length k=true)(h1:nq gs=true)(hp:lY gs=true)(hs:bf fr s=.vec i n)(hsd:Pl s C=true)(hd:iy fr C=true)(J:Γ[i]?=some (.vec e k fz rows))(hn:rows.length=n)
  (T:(n+1<=9223372036854775807/\(n+1)*E<=140737488355328)/\k<=16777216)
  (h:GL P m ops Q rest (bI (bI fr (some C) U) d (.vec i (n+1))) (oset Γ i (.vec e k fz (rows++[gs])))) :
  GL P m ops Q (⟨some C,.buildSlice t 1 #[(0,x)],MZ,M,S,none⟩::⟨d,.call ⟨.builtin .append,#[s,.tmp C],#[t,t]⟩,ty,pos,af,none⟩::rest) fr Γ:=fun B K β w l hm hI O=>by
 subst hn;have⟨us,hu1,Ux⟩:=(O.ev x).cells hx;have⟨h0,xs,o1,R,o3,o4,o5,o6⟩:=hI.ob i _ J;have A:=O.ev s;rw[hs]at A
 have Qr:ev l s=h0:=by
  generalize hv:ev l s=v at A
  cases A with
  |vec _ _ a c hh =>
   grind
 have Z:=nz O hd
 have Ql:gs.length=k:=by simp_all
 refine WL.push (base:=0) (v:=h0) (vs:=us) (val:=ev l x) (xs:=xs) (n:=rows.length) rfl (fun u=>by grind[TJ]) (fun u=>sG Z u) hu1 ze4 (Ux.lf h1) R T.1.1 T.1.2 T.2 (bl _) ?_;intro u v' w' q G Hh DT
 obtain⟨K',hK,LD,F⟩:=hI.grow J o1 ⟨R,o3⟩ (news:=[gs]) (ns:=us) q G Hh ze2 (fun r hr=>by grind[kp]) ze3 (fun b j o v ho hv=>by
  rcases DT with N|N
  ·exact N.c hv (fun h=>h)
  ·have Hl:o<xs.length:=by rw[R.1];exact Aj ho (sw k o6)
   have⟨b2,c2,wU,_,_,Y⟩:=R.cells.2 ze2
   have W:b2=b:=by rw[wU]at j;cases j;rfl
   subst W;have H:=Y o xs[o] (by simp[Hl]);rw[gb,hv]at H;cases H;have⟨b3,c3,T9,_,_,Xl⟩:=q.cells.2 zfe
   have X:b3=b2:=by rw[T9,j]at N;cases N;rfl
   subst X
   rw[<-gb];grind)
 rw[<-bD]at F;refine h B K' _ w' _ hm F (((O.mono hK LD).put (some C) (.U u)).put d ?_);obtain⟨a,c,rfl⟩:=q.shape;exact .vec i _ a c ⟨_,_,bV,by simp,fun _=>rfl⟩
theorem Wk.A8{t:Nat}{a:Option Addr}{c:Nat}(E k:Nat)(M:bx fr t=.v (.slice none 0 0)):Wk m fr Γ (bB fr t (.vec Γ.length 0)) (Γ++[.vec E k 0 []]):=fun B K s w l A j O=>by
 have q:s Γ.length=.no:=j.out _ (a8 _);have G:=j.Au (w':=w) (E:=E) (k:=k) (x:=.slice none 0 0) (xs:=[]) (rows:=[]) (Ext.refl w) (iw.nil w 0 E k) (fun b o=>by cases o) bu.nil (fun r z=>by cases z);refine⟨K,_,G,?_⟩;have F:=O.mono (c6.refl K) (iT (i:=Γ.length) (x:=.gr (.slice none 0 0) ([]:List am).length) zfg);have C:nth l t=.slice none 0 0:=Rel.eE (by rw[<-M];exact O.nth t)
 have N:∀(l:List Value)(t:Nat)(v:Value),nth l t=v->(∃a n c,v=.slice a n c)->fg l t v=l:=by
  intro l
  induction l with
  |nil=>grind[fg]
  |cons x l R =>
   intro t v u e
   cases t with
   |zero=>grind[nth,fg]
   |succ t=>grind[nth,fg]
 have:=F.fg t (v:=.slice none 0 0) (g:=.vec Γ.length 0) (.vec _ 0 none 0 ⟨_,_,bV,a8 _,fun _=>rfl⟩)
 simp_all
theorem Fj{l:List Value}{t:Nat}(h:iy l t=true):fg l t (nth l t)=l:=by
 induction l generalizing t with
 |nil=>cases h
 |cons x l O=>cases t with|zero=>rfl|succ t=>simp only[fg,nth];rw[O h]
theorem Wk.jJ{t i n E k fz:Nat}{rows:List am}(ht:bx fr t=.vec i n)(Hk:iy fr t=true)(s:Γ[i]?=some (.vec E k fz rows))(hn:rows.length=n):Wk m fr Γ (bB fr t (.sl k rows)) (oset Γ i (.vec E k n rows)):=fun B K F w l hm N M=>by
 subst hn;have⟨h0,xs,O,o2,o3,R,o5,o6⟩:=N.ob i _ s;have⟨G,Y,z,e⟩:=N.jJ s;rw[<-bD]at e;refine⟨G,F,e,?_⟩;have b:=M.nth t;rw[ht]at b
 have o:Rel G F (nth l t) (.sl k rows):=by
  generalize nth l t=v at b
  cases b with
  |vec _ _ a c Z =>
   have⟨h',m',H,e2,T⟩:=Z;rw[O]at H;cases H;have J:=T rfl
   rcases o2.2 with⟨u,W⟩|⟨g,S,cu,u,_,_,C,_⟩
   ·have:rows=[]:=kQ W;subst this;exact .sl0 _ _ _
   ·rw[u]at J;cases J;refine .sl g 0 _ k rows (fun j r b=>⟨(R r (bN b)).1,fun q X A=>?_⟩) C;rw[dy];exact z _ g O (by rw[u];rfl) _ X (rN R b A)
 have:=(M.mono Y (dJ.refl F)).fg t o
 grind[Fj,nz]
def nN(i:Nat)(cs:am):GV->GV
 |.loc j o=>match Nat.beq j i with
  |true=>.box cs o
  |false=>.loc j o
 |g=>match g.ok (other i)with
  |true=>g
  |false=>.U
theorem Rel.ZK{K S:Fz}{β:Bt}{i b:Nat}{cs:am}{x:Value}{g:GV}(h:Rel K β x g)(N:c6 K S)(k:β i=.fix b)(X:∀(j:Nat)g,cs[j]?=some g->S b j=some g):Rel S (dD (other i) β) x (nN i cs g):=by
 have W:∀{g:GV},Rel K β x g->Rel S (dD (other i) β) x (match g.ok (other i)with|true=>g|false=>.U):=by
  intro g h;split
  ·rename_i A;exact(h.mono N (dJ.refl β)).res A
  ·exact .U _
 cases g with
 |loc j o =>
  simp only[nN];split
  ·rename_i Y
   have Y:j=i:=by simp_all
   subst Y
   cases h with
   |loc _ _ B r =>
    rw[k]at r;cases r;have:=Rel.box (K:=S) (β:=dD (other j) β) b 0 o cs (fun q g Z=>by grind)
    grind
  ·rename_i Y
   have Y:j≠i:=by intro e;simp_all
   exact(h.mono N (dJ.refl β)).res (vf Y)
 |_=>exact W h
def oe(i:Nat)(cs:am):am->am
 |[]=>[]
 |g::s=>nN i cs g::oe i cs s
theorem Wk.freeze{i:Nat}{E:TypeId}{cs:am}(o:Γ[i]?=some (.box E cs))(W:lY cs=true)(j:oq (other i) (oset Γ i .gone)=true)(r:m<=i):Wk m fr Γ (oe i cs fr) (oset Γ i .gone):=fun B K u w l N k O=>by
 rw[bD]at j |-;have⟨b,s,q,c,G,C⟩:=k.ob i _ o;have⟨S,n,e,F⟩:=k.freeze o (kp W) j ze4;refine⟨S,_,F,?_⟩;clear k F j o
 induction O with
 |nil=>exact .nil
 |cons h t R=>exact .cons (h.ZK n q (e b q)) R
end
def cr:List Nat->Nat->Nat->Nat
 |[],n,j=>n+j
 |i::_,_,0=>i
 |_::r,n,j+1=>cr r n j
def eC:ap->List Nat->ap->ap
 |Γ,[],X=>Γ++X
 |Γ,_::_,[]=>Γ
 |Γ,i::r,x::X=>eC (oset Γ i x) r X
def km:List Nat->Nat->Bool
 |[],_=>true
 |i::r,n=>Nat.blt i n&&!(r.contains i)&&km r n
section
variable{bc:List Nat}
theorem Bm{n j:Nat}(h:bc.length<=j):cr bc n j=n+(j-bc.length):=by
 induction bc generalizing j with
 |nil=>rfl
 |cons i r O =>
  cases j with
  |zero=>simp at h
  |succ j=>grind[cr]
theorem SN{n j:Nat}(h:j<bc.length):∃i∈bc,cr bc n j=i:=by
 induction bc generalizing j with
 |nil=>simp at h
 |cons i r O =>
  cases j with
  |zero=>simp[cr]
  |succ j=>have⟨x,o,b⟩:=O (j:=j) ze2;grind[cr]
theorem Ex{n:Nat}(h:km bc n=true):∀i∈bc,i<n:=by
 induction bc with
 |nil=>simp
 |cons x r O =>
  simp_all[km,aZ,List.mem_cons]
theorem zc{n:Nat}(h:km bc n=true):∀{j z:Nat},cr bc n j=cr bc n z->j=z:=by
 induction bc with
 |nil=>simp[cr]
 |cons x r O =>
  have N:=Ex h;simp only[km,aZ,Bool.not_eq_true']at h
  have hx:∀j,cr r n j≠x:=fun j e=>by
   by_cases Y:j<r.length
   ·have⟨i,k,b⟩:=SN (n:=n) Y
    grind
   ·have:=Bm (n:=n) (Nat.le_of_not_lt Y);have:=N x ze3;omega
  intro j z e
  cases j with
  |zero=>cases z with
   |zero=>rfl
   |succ z=>exact absurd e.symm (hx z)
  |succ j=>cases z with
   |zero=>exact absurd e (hx j)
   |succ z=>rw[O h.2 e]
theorem Ga{n:Nat}:∀{Γ xs:ap},Γ.length=n->km bc n=true->bc.length<=xs.length ->
  (∀j,(eC Γ bc xs)[cr bc n j]?=xs[j]?)/\(∀i,(∀j,cr bc n j≠i)->(eC Γ bc xs)[i]?=Γ[i]?)/\(eC Γ bc xs).length=n+(xs.length-bc.length):=by
 induction bc with
 |nil =>
  intro Γ xs c _ _;refine⟨fun j=>?_,fun i k=>?_,by simp[eC,c]⟩
  ·grind[eC,cr]
  ·simp only[eC,cr]at k |-
   by_cases N:i<n
   ·grind
   ·exact absurd ze4 (k (i-n))
 |cons x r O =>
  intro Γ xs c E M;have Uc:=@zc (x::r) n E;have N:=Ex E x ze3
  cases xs with
  |nil=>simp at M
  |cons y q =>
   simp only[km,aZ,Bool.not_eq_true']at E;have⟨o,b,G⟩:=O (Γ:=oset Γ x y) (xs:=q) ze9 E.2 ze2
   have hx:∀j,cr r n j≠x:=fun j l=>by
    have:=@Uc (j+1) 0 l;omega
   refine⟨fun j=>?_,fun i k=>?_,by grind[eC]⟩
   ·cases j with
    |zero =>
     simp only[eC,cr];rw[b x hx,bD,eR];grind
    |succ j=>simp only[eC,cr];exact o j
   ·simp only[eC];rw[b i (fun j=>k (j+1)),bD,eR];rw[ab (by intro e;exact k 0 e)]
end
def gV.zV{K:Fz}{β:Bt}{w:World}{f:Nat->Nat}{j:Nat}{x:Ob}(h:gV K β w (f j) (x.dC f)):gV K (fun j=>β (f j)) w j x:=by
 cases x with
 |gone=>exact h
 |box E R =>
  have⟨b,l,o,c,G,C⟩:=h;rw[lh]at G;exact⟨b,l,o,c,⟨by grind,fun i v g e n=>(G.2 i v (dC f g) e ze2).zV⟩,C⟩
 |vec E k S H =>
  have⟨t,X,o,c,G,C,e⟩:=h;refine⟨t,X,o,c,⟨G.1,fun i v g n O=>(G.2 i v g n O).pc ?_⟩,C,e⟩;exact zaL
 |vech E k H x =>
  have⟨X,o,c,G,C,e⟩:=h;refine⟨X,o,c,⟨G.1,fun i v g n O=>(G.2 i v g n O).pc ?_⟩,C,e⟩;exact zaL
 |lost=>exact h
 |blk b q=>exact h
 |blob q=>exact h
def gV.Af{K:Fz}{β:Bt}{w:World}{f:Nat->Nat}{j:Nat}{x:Ob}(h:gV K (fun j=>β (f j)) w j x):gV K β w (f j) (x.dC f):=by
 cases x with
 |gone=>exact h
 |box E R =>
  have⟨b,u,o,e,G,C⟩:=h;refine⟨b,u,o,e,?_,C⟩;rw[lh];refine⟨by grind,fun i v g l n=>?_⟩;rw[dR]at n
  cases W:R[i]? with
  |none=>grind
  |some c=>rw[W]at n;cases n;exact(G.2 i v c l W).Af
 |vec E k S H =>
  have⟨t,X,o,e,G,C,l⟩:=h;refine⟨t,X,o,e,⟨G.1,fun i v g n O=>(G.2 i v g n O).pc ?_⟩,C,l⟩;exact zaL
 |vech E k H x =>
  have⟨X,o,e,G,C,l⟩:=h;refine⟨X,o,e,⟨G.1,fun i v g n O=>(G.2 i v g n O).pc ?_⟩,C,l⟩;exact zaL
 |lost=>exact h
 |blk b q=>exact h
 |blob q=>exact h
section
variable{K:Fz}{β:Bt}{Γ:ap}{w:World}{B:Bs}
theorem Inv.enter{bc:List Nat}{F:ap}(h:Inv B K β Γ w)(E:km bc Γ.length=true)(M:F.length=bc.length)(o:∀j x,F[j]?=some x->Γ[cr bc Γ.length j]?=some (x.dC (cr bc Γ.length))) :
  Inv (cur K (fun j=>β (cr bc Γ.length j)) F w) K (fun j=>β (cr bc Γ.length j)) F w:=by
 have k:∀i,F.length<=i->β (cr bc Γ.length i)=.no:=fun i l=>by
  rw[Bm ze4];exact h.out _ ze4
 exact⟨Ext.refl w,c6.refl K,dJ.refl _,k,h.fz,fun i x l=>(h.ob _ _ (o i x l)).zV,k,fun i j b l Y=>zc E (h.dis _ _ b l Y),fun i b n=>.inl ⟨i,n⟩,fun _ _ _ h=>.inl h,h.tab.step (S:=gx) (Ext.refl w) (fun _ h=>h.elim) (c6.refl K) (fun i q c=>.inl ⟨_,c⟩)⟩
theorem Inv.leave{bc:List Nat}{W u:ap}{X:Fz}{v:Bt}{w':World}(h:Inv B K β Γ w)(T:km bc Γ.length=true)(hl:W.length=bc.length)(hl':bc.length<=u.length)
  (s:Inv (cur K (fun j=>β (cr bc Γ.length j)) W w) X v u w') :
  ∃fX,c6 K X/\dJ β fX/\(∀j,fX (cr bc Γ.length j)=v j)/\Inv B X fX (eC Γ bc (u.map (Ob.dC (cr bc Γ.length)))) w':=by
 have⟨s1,s2,s3⟩:=Ga (bc:=bc) (n:=Γ.length) (Γ:=Γ) (xs:=u.map (Ob.dC (cr bc Γ.length))) rfl T ze2;rw[bS]at s3;generalize hf:cr bc Γ.length=f at *
 have Uc:∀{j N},f j=f N->j=N:=by subst hf;exact zc T
 have Hi:∀j,bc.length<=j->f j=Γ.length+(j-bc.length):=fun j C=>by subst hf;exact Bm C
 have S:∀i,Γ.length<=i->f (bc.length+(i-Γ.length))=i:=fun i l=>by grind
 have⟨fX,e,t⟩:∃fX:Bt,(∀j,fX (f j)=v j)/\∀i,(∀j,f j≠i)->fX i=β i:=by
  classical
  refine⟨fun i=>if h:∃j,f j=i then v (Classical.choose h)else β i,fun j=>?_,fun i l=>?_⟩
  ·have hex:∃N,f N=f j:=⟨j,rfl⟩
   grind
  grind
 have H:dJ β fX:=fun i=>by
  by_cases l:∃j,f j=i
  ·obtain⟨j,rfl⟩:=l;rw[e];exact s.ble j
  grind[kb.refl]
 have z:∀b,blocks (fun j=>β (f j)) b->blocks β b:=fun b ⟨j,C⟩=>⟨f j,C⟩
 have G:∀i b,(fX i).has b->blocks β b\/w.heap.size<=b:=fun i b A=>by
  by_cases l:∃j,f j=i
  ·obtain⟨j,rfl⟩:=l;rw[e]at A;exact(s.own j b A).imp (z b) id
  grind[blocks]
 have F:∀i b,(∀j,f j≠i)->(β i).has b->¬blocks (fun j=>β (f j)) b:=fun i b l A ⟨j,C⟩=>l j (h.dis _ _ b C A)
 refine⟨fX,s.kle,H,e,h.My (X4:=Γ) ?_⟩;refine⟨s.ext.mono (fun k _ hk=>z k hk),s.kle,H,h.out,s.fz,fun i x l=>?_,fun i l=>?_,fun i M b l r=>?_,G,fun b o g hg=>?_,⟨s.tab.le,s.tab.pow,s.tab.spc,fun i b A=>(G i b A).elim (fun⟨j,C⟩=>h.tab.free j b C) (fun hs=>⟨by have:=h.tab.pow.lt;omega,by have:=h.tab.spc.lt;omega⟩)⟩⟩
 ·by_cases C:∃j,f j=i
  ·obtain⟨j,rfl⟩:=C;rw[s1 j,dR]at l
   cases hc:u[j]? with
   |none=>grind
   |some c =>
    rw[hc]at l;cases l;refine gV.Af ?_;have:=s.ob j c hc;rw[show(fun j=>fX (f j))=v from funext e];exact this
  ·have E:∀j,f j≠i:=fun j h=>C ⟨j,h⟩
   rw[s2 i E]at l;refine(h.ob i x l).ext s.ext (fun b A=>F i b E A) s.kle H (t i E) (fun b o A hk=>?_)
   cases Z:X b o with
   |none=>rfl
   |some g =>
    rcases s.kn b o g Z with q|q|q
    ·have q:K b o=some g:=q
     grind
    ·exact absurd q (F i b E A)
    ·have:=h.lt A;have q:w.heap.size<=b:=q;omega
 ·rw[s3]at l;have J:=S i ze4;rw[<-J,e];exact s.out _ ze4
 ·by_cases J:∃j,f j=i<;>by_cases Y:∃j,f j=M
  ·obtain⟨j,rfl⟩:=J;obtain⟨N,rfl⟩:=Y;rw[e]at l r;rw[s.dis j N b l r]
  ·obtain⟨j,rfl⟩:=J
   have R:∀j,f j≠M:=fun j h=>Y ⟨j,h⟩
   rw[e]at l;rw[t M R]at r
   rcases s.own j b l with q|q
   ·exact absurd q (F M b R r)
   ·have:=h.lt r;have q:w.heap.size<=b:=q;omega
  ·obtain⟨j,rfl⟩:=Y
   have O:∀j,f j≠i:=fun j h=>J ⟨j,h⟩
   rw[e]at r;rw[t i O]at l
   rcases s.own j b r with q|q
   ·exact absurd q (F i b O l)
   ·have:=h.lt l;have q:w.heap.size<=b:=q;omega
  ·rw[t i (fun j h=>J ⟨j,h⟩)]at l;rw[t M (fun j h=>Y ⟨j,h⟩)]at r;exact h.dis i M b l r
 ·rcases s.kn b o g hg with q|q|q
  ·exact .inl q
  ·exact .inr (.inl (z b q))
  ·exact .inr (.inr q)
end
section
variable{P:Program}{m:Nat}{Q:dQ}{fr:am}{Γ:ap}{ops:Array Oper}{rest:List Oper}{d:Option Tmp}{op:Op}{ty:TypeId}{pos:String}{af:Array Edge}
def seen(f:Nat->Nat)(Γ:ap):List Nat->ap->Prop
 |[],[]=>True
 |i::r,x::X=>Γ[i]?=some (x.dC f)/\seen f Γ r X
 |_,_=>False
theorem Cr{f:Nat->Nat}{Γ:ap}{n:Nat}:∀{bc:List Nat}{F:ap},seen f Γ bc F->F.length=bc.length/\∀j x,F[j]?=some x->Γ[cr bc n j]?=some (x.dC f)
 |[],[],_=>⟨rfl,fun j x h=>by simp at h⟩
 |i::r,y::e,h=>by
  have⟨o,b⟩:=h;have⟨G,C⟩:=Cr (n:=n) b;refine⟨by simp[G],fun j x hx=>?_⟩
  cases j with
  |zero=>grind[cr]
  |succ j=>exact C j x hx
 |[],_::_,h=>h.elim
 |_::_,[],h=>h.elim
theorem GL.calls{f:FuncId}{bc:List Nat}{gs:am}{F:ap}{R:GV->ap->Prop}{vs:List Value->List Value}(A:∀K β w l,FR K β fr l->bu K β (vs l) (iR (cr bc Γ.length) gs)/\(execOp (ev l) ⟨d,op,ty,pos,af,none⟩).run P w=.ok (.enter f (vs l).toArray) w)
  (E:km bc Γ.length=true)(q:seen (cr bc Γ.length) Γ bc F)(W:GC P f gs F R)
  (h:∀g bE,R g bE->bc.length<=bE.length/\GL P m ops Q rest (bI fr d (dC (cr bc Γ.length) g)) (eC Γ bc (bE.map (Ob.dC (cr bc Γ.length))))) :
  GL P m ops Q (⟨d,op,ty,pos,af,none⟩::rest) fr Γ:=fun B K β w l T r O=>by
 have⟨M,X⟩:=Cr (n:=Γ.length) q;have⟨C,A⟩:=A K β w l O;have z:=r.enter E M X
 have Z:bu K (fun j=>β (cr bc Γ.length j)) (vs l) gs:=by
  rw[lh]at C;exact⟨by grind,fun i v g e c=>(C.2 i v (dC _ g) e ze2).zV⟩
 refine WL.calls A (W _ K _ w _ rfl z Z) ?_;rintro v b⟨S,H,g,bE,G,s,J⟩;have⟨k,h⟩:=h g bE J;have⟨u,t,N,Y,o⟩:=r.leave E M k G;refine h B S u b _ T o ((O.mono t N).put d (Rel.Af ?_))
 simp_all
def GL.re{f:FuncId}[hf:fQ P f](bc:List Nat){x:Operand}{first e:am}{args:List Operand}{T:Array TypeId}{gs:am}{F:ap}{R:GV->ap->Prop}(W:GC P f gs F R)(hx:bf fr x=.fn (.func f) first e)(ha:first++args.map (bf fr)++e=iR (cr bc Γ.length) gs)(E:km bc Γ.length=true)
  (o:seen (cr bc Γ.length) Γ bc F)(h:∀g bE,R g bE->bc.length<=bE.length/\GL P m ops Q rest (bI fr d (dC (cr bc Γ.length) g)) (eC Γ bc (bE.map (Ob.dC (cr bc Γ.length))))) :
  GL P m ops Q (⟨d,.call ⟨.value x,args.toArray,T⟩,ty,pos,af,none⟩::rest) fr Γ :=
 GL.calls (vs:=fun l=>match ev l x with|.func _ a c=>a.toList++args.map (ev l)++c.toList|_=>[]) (fun K β w l O=>by
  have z:=O.ev x;rw[hx]at z;generalize j:ev l x=v at z
  cases z with
  |fn _ X i _ _ q b G C =>
   refine⟨?_,?_⟩
   ·rw[<-ha];exact(bu.app (bu.app ⟨q,G⟩ (O.args args)) ⟨b,C⟩)
   ·simp[execOp,resolve,j,Deferred.ofValue,invoke,ou]) E o W h
def GL.VY{f:FuncId}[hf:fQ P f](bc:List Nat){x:Operand}{args:List Operand}{T:Array TypeId}{gs:am}{F:ap}{R:GV->ap->Prop}(W:GC P f gs F R)(hx:bf fr x=.v (.func (.func f) #[] #[]))(ha:args.map (bf fr)=iR (cr bc Γ.length) gs)(E:km bc Γ.length=true)
  (o:seen (cr bc Γ.length) Γ bc F)(h:∀g bE,R g bE->bc.length<=bE.length/\GL P m ops Q rest (bI fr d (dC (cr bc Γ.length) g)) (eC Γ bc (bE.map (Ob.dC (cr bc Γ.length))))) :
  GL P m ops Q (⟨d,.call ⟨.value x,args.toArray,T⟩,ty,pos,af,none⟩::rest) fr Γ :=
 GL.calls (vs:=fun l=>args.map (ev l)) (fun K β w l O=>⟨by rw[<-ha];exact O.args args,by
  have j:=O.fE hx
  simp[execOp,resolve,j,Deferred.ofValue,invoke,ou]⟩) E o W h
end
def og(ops:List Oper)(fr:am):Nat->Option (Option Bool):=fun j =>
 match iy ops j,(qO ops j).dst with
 |true,some t=>match iy fr t,bx fr t with
  |true,.v (.bool c)=>some (some c)
  |true,.v (.tuple _)=>some none
  |_,_=>none
 |_,_=>none
section
variable{P:Program}{m:Nat}{Q:dQ}{fr:am}{Γ:ap}{ops:Array Oper}{rest:List Oper}{d:Option Tmp}{op:Op}{ty:TypeId}{pos:String}{af:Array Edge}
theorem uU{K:Fz}{β:Bt}{l:List Value}{j:Nat}{b:Bool}{c:Option Bool}(O:FR K β fr l)(h:og ops.toList fr j=some c):rJ (some (j,b)) ops.toList l=true/\gv ops.toList l (j,b)=c:=by
 unfold og at h;split at h
 ·rename_i t o e;split at h
  ·rename_i J G C;cases h;have k:nth l t=.bool J:=Rel.eE (by rw[<-C];exact O.nth t);have M:=nz O G
   grind[rJ,gv]
  ·rename_i n G C;cases h;have k:nth l t=.tuple n:=Rel.eE (by rw[<-C];exact O.nth t);have M:=nz O G
   grind[rJ,gv]
  ·cases h
 ·cases h
def GL.gt{v:Nat × Bool}{c:Bool}(k:og ops.toList fr v.1=some (some c))(W:c=v.2)(h:GL P m ops Q (⟨d,op,ty,pos,af,none⟩::rest) fr Γ):GL P m ops Q (⟨d,op,ty,pos,af,some v⟩::rest) fr Γ:=fun B K n w l j i O=>by
 have⟨o,e⟩:=uU (b:=v.2) O k;exact Xw.GT o e W (h B K n w l j i O)
def GL.gf{z:Nat × Bool}{c:Bool}(k:og ops.toList fr z.1=some (some c))(W:c=!z.2)(h:GL P m ops Q rest (bI fr d (.v undef)) Γ):GL P m ops Q (⟨d,op,ty,pos,af,some z⟩::rest) fr Γ:=fun B K n w l j i O=>by
 have⟨o,e⟩:=uU (b:=z.2) O k;exact Xw.GF o e W (h B K n w _ j i (O.put d (.v _)))
def GL.gu{z:Nat × Bool}(k:og ops.toList fr z.1=some none)(h:GL P m ops Q rest (bI fr d (.v undef)) Γ):GL P m ops Q (⟨d,op,ty,pos,af,some z⟩::rest) fr Γ:=fun B K n w l j i O=>by
 have⟨o,c⟩:=uU (b:=z.2) O k;exact Xw.GU o c (h B K n w _ j i (O.put d (.v _)))
end
def gG(ops:List Oper)(fr:am):Option (Nat × Bool)->Option Bool
 |none=>some true
 |some (j,b)=>match og ops fr j with
  |some (some c)=>some (c==b)
  |some none=>some false
  |none=>none
def G8{ops:Array Oper}{K:Fz}{β:Bt}{fr:am}{l:List Value}{o:Oper}{c:Bool}(O:FR K β fr l)(h:gG ops.toList fr o.guard=some c):Region.wanted o (yielded ops (act l).tmps)=c:=by
 have⟨d,op,ty,pos,af,v⟩:=o
 cases v with
 |none=>simp only[gG]at h;cases h;rfl
 |some v =>
  have⟨j,b⟩:=v;simp only[gG]at h;split at h
  ·rename_i J W;cases h;have⟨q,e⟩:=uU (b:=b) O W;rw[vz q]
   cases r:(J==b)with
   |true=>grind[Nc]
   |false=>exact Na e (by cases J<;>cases b<;>simp_all)
  ·grind[uU,vz,Nf]
  ·cases h
def Cj(P:Program)(o:Oper)(e:Operand->Value)(w:World)(R:Value->World->Prop):Prop :=
 match(execOp e o).run P w with
 |.ok (.value v) Z=>R v Z
 |.ok .skip Z=>R undef Z
 |.ok (.enter f args) Z=>Calls P f args Z fun e A=>∃v,e=.returned v/\R v A
 |.ok (.row row args) Z=>Rows P row args Z R
 |_=>False
section
variable{P:Program}{o:Oper}{a:Act}{w:World}{R:Value->World->Prop}{next:Act->World->Prop}{Q:Exit->Act->World->Prop}
theorem U3(h:Cj P o a.eval w R)(hn:∀v w',R v w'->next (a.put o.dst v) w'):o.wp P a w next Q:=by
 unfold Cj at h;unfold Oper.wp;generalize(execOp a.eval o).run P w=r at *
 grind[Calls.mono,Rows.mono,Oper.upon]
theorem VG(h:o.wp P a w next Q)(J:∀c a w,¬Q (.panic c) a w)(q:∀a w,¬Q .outgrown a w)(hn:∀v w',next (a.put o.dst v) w'->R v w')
  (hd:∀d w',¬next ({ a with defers:=d::a.defers }.put o.dst undef) w'):Cj P o a.eval w R:=by
 unfold Cj;unfold Oper.wp at h;generalize(execOp a.eval o).run P w=r at *
 cases r with
 |ok n w' =>
  cases n<;>simp only[Oper.upon]at h |-<;>first
   |exact hn _ _ h
   |exact Calls.mono h (fun e A i=>by
     cases e with
     |returned v=>grind
     |panicked c=>grind
     |outgrown=>have⟨X,b,l⟩:=i;grind)
   |exact Rows.mono h (fun _ _ j=>hn _ _ j)
   |grind
   |grind
 |halt x w' =>
  cases x<;>simp only[Oper.upon]at h
  grind
end
def dB(ts:List Nat):Nat->am->am
 |_,[]=>[]
 |k,g::s=>(match ts.contains k with|true=>g|false=>.U)::dB ts (k+1) s
def FR.mask{K:Fz}{β:Bt}{ts:List Nat}{fr:am}{l:List Value}(h:FR K β fr l):∀k,FR K β (dB ts k fr) l:=by
 induction h with
 |nil=>intro k;exact .nil
 |cons h t O =>
  intro k;rw[dB];split
  ·exact .cons h (O _)
  ·exact .cons (.U _) (O _)
theorem O3{ts:List Nat}{d:Option Tmp}{g:GV}(hd:∀t,d=some t->t ∉ ts)(fr:am):dB ts 0 (bI fr d g)=dB ts 0 fr:=by
 cases d with
 |none=>rfl
 |some t =>
  have hd:=hd t rfl
  have W:∀(fr:am)(k t:Nat),k+t ∉ ts->dB ts k (bB fr t g)=dB ts k fr:=by
   intro fr
   induction fr with
   |nil=>intro k t _;rfl
   |cons x fr O =>
    intro k t h
    cases t with
    |zero =>
     grind[dB,bB]
    |succ t=>grind[dB,bB]
  grind[bI]
section
variable{P:Program}{ops:Array Oper}
def YQ(P:Program)(ops:Array Oper)(i:Nat)(g:GV)(fr:am)(Γ:ap):Prop :=
 ∃o c,ops[i]?=some o/\gG ops.toList (dB (o.looksAt ops) 0 fr) o.guard=some c/\match c with
  |true=>D P o.op (dB (o.looksAt ops) 0 fr) Γ g
  |false=>g=.v undef
abbrev lD:=List (Nat × GV × am)
def GA(P:Program)(o:Oper)(Y:GV->ap->Prop)(fr:am)(Γ:ap):Prop :=
 ∀B K n w l,Inv B K n Γ w->FR K n fr l->Cj P o (ev l) w fun v Z=>∃S u g z,c6 K S/\dJ n u/\Inv B S u z Z/\(∀fr l,FR S u fr l->FR S u (bI fr o.dst g) (put l o.dst v))/\Y g z
def GI(P:Program)(ops:Array Oper)(i:Nat)(Y:GV->ap->Prop)(fr:am)(Γ:ap):Prop :=
 ∃o c,ops[i]?=some o/\gG ops.toList fr o.guard=some c/\match c with
  |true=>GA P o Y fr Γ
  |false=>Y (.v undef) Γ
def l9(ops:Array Oper)(i:Nat):Option Tmp:=(ops[i]?).bind (·.dst)
def waits(ops:Array Oper)(i j:Nat):Bool:=match ops[i]? with
 |some o=>o.after.any fun e=>Region.binds .any e&&e.on==j
 |none=>false
def stay(ops:Array Oper)(i:Nat)(F:lD):lD:=F.filter fun p=>!waits ops i p.1
def pU(P:Program)(ops:Array Oper)(Q:am->ap->Prop):Nat->lD->Array Bool->am->ap->Prop
 |0,_,e,fr,Γ=>Region.ready .any ops e=[]/\Q fr Γ
 |n+1,F,e,fr,Γ=>(Region.ready .any ops e=[]->Q fr Γ) /\
   ∀i∈Region.ready .any ops e,GI P ops i (fun g v=>(∀p∈stay ops i F,YQ P ops p.1 p.2.1 p.2.2 v)/\pU P ops Q n (stay ops i F) (e.setIfInBounds i true) (bI fr (l9 ops i) g) v) fr Γ
theorem GA.mono{o:Oper}{Y Dd:GV->ap->Prop}{fr:am}{Γ:ap}(h:GA P o Y fr Γ)(N:∀g bE,Y g bE->Dd g bE):GA P o Dd fr Γ:=fun B K q w l j O=>by
 have:=h B K q w l j O;unfold Cj at *;generalize(execOp (ev l) o).run P w=r at *
 have R:∀v Z,(∃S u g bE,c6 K S/\dJ q u/\Inv B S u bE Z/\(∀fr l,FR S u fr l->FR S u (bI fr o.dst g) (put l o.dst v))/\Y g bE)->∃S u g bE,c6 K S/\dJ q u/\Inv B S u bE Z/\(∀fr l,FR S u fr l->FR S u (bI fr o.dst g) (put l o.dst v))/\Dd g bE :=
  fun v Z ⟨S,u,g,bE,s,b,G,C,i⟩=>⟨S,u,g,bE,s,b,G,C,N _ _ i⟩
 cases r with
 |ok n Z=>cases n<;>simp only at this |-<;>first
   |exact R _ _ this
   |exact Calls.mono this (fun e A ⟨v,k,t⟩=>⟨v,k,R _ _ t⟩)
   |grind[Rows.mono]
   |exact this.elim
 |halt x Z=>omega
theorem GI.mono{i:Nat}{Y Dd:GV->ap->Prop}{fr:am}{Γ:ap}(h:GI P ops i Y fr Γ)(N:∀g bE,Y g bE->Dd g bE):GI P ops i Dd fr Γ:=by
 grind[GA.mono,GI]
theorem pU.P1{Q:am->ap->Prop}:∀(n:Nat)(F j:lD)(e:Array Bool)(fr:am)(Γ:ap),(∀p∈j,p∈F)->pU P ops Q n F e fr Γ->pU P ops Q n j e fr Γ
 |0,_,_,_,_,_,_,h=>h
 |n+1,F,j,e,fr,Γ,G,h=>⟨h.1,fun i k=>(h.2 i k).mono fun g v ⟨q,b⟩=>by
  have o:∀p∈stay ops i j,p∈stay ops i F:=fun p W=>by
   grind[stay]
  exact⟨fun p W=>q p (o p W),pU.P1 n _ _ _ _ _ o b⟩⟩
def pU.sound{m:Nat}{Q:am->ap->Prop}{B:Bs}{Q':dQ}(k:B.m=m)(J:∀fr Γ,Q fr Γ->Q' .normal fr Γ):∀(n:Nat)(F:lD)(e:Array Bool)(fr:am)(Γ:ap)(K:Fz)(β:Bt)(w:World)(l:List Value),
  pU P ops Q n F e fr Γ->Inv B K β Γ w->FR K β fr l->wpAny P .any ops (lift (gl B Q')) n e (act l) w
 |0,_,_,fr,Γ,K,β,w,l,h,j,O=>⟨h.1,l,rfl,K,β,fr,Γ,j,O,J _ _ h.2⟩
 |n+1,F,e,fr,Γ,K,β,w,l,h,j,O=>by
  refine⟨fun q=>⟨l,rfl,K,β,fr,Γ,j,O,J _ _ (h.1 q)⟩,fun i z=>?_⟩;have⟨o,c,A,X,W⟩:=h.2 i z;have C:=G8 O X;unfold wpOp;simp only[A,C]
  have T:l9 ops i=o.dst:=by simp[l9,A]
  cases c with
  |true =>
   simp only[if_true];refine .inl (U3 (by rw[pA];exact W B K β w l j O) ?_);rintro v Z⟨S,u,g,E,s,N,G,t,r,b⟩;rw[pH];rw[T]at b;exact pU.sound k J n _ _ _ _ S u Z _ b G (t _ _ (O.mono s N))
  |false =>
   refine zbJ ?_;rw[pH];have⟨r,b⟩:=W;rw[T]at b;exact pU.sound k J n _ _ _ _ K β w _ b j (O.put o.dst (.v _))
theorem FL{fr:am}{t k:Nat}(h:k≠t)(g:GV):bx (bB fr t g) k=bx fr k:=by
 induction fr generalizing t k with
 |nil=>rfl
 |cons x l O=>cases t with
  |zero=>cases k with|zero=>omega|succ k=>rfl
  |succ t=>cases k with|zero=>rfl|succ k=>grind[bx,bB]
theorem Hw{fr:am}{t k:Nat}{g:GV}:iy (bB fr t g) k=iy fr k:=by
 induction fr generalizing t k with
 |nil=>rfl
 |cons x l O=>cases t with
  |zero=>cases k<;>rfl
  |succ t=>cases k with|zero=>rfl|succ k=>exact O
theorem TT{o:Oper}{fr:am}{d:Option Tmp}{g:GV}(h:∀t,d=some t->t ∉ o.looksAt ops):gG ops.toList (bI fr d g) o.guard=gG ops.toList fr o.guard:=by
 cases d with
 |none=>rfl
 |some t =>
  have h:=h t rfl;have⟨w,op,ty,pos,af,v⟩:=o
  cases v with
  |none=>rfl
  |some v =>
   have⟨j,b⟩:=v
   have l:∀k,iy ops.toList j=true->(qO ops.toList j).dst=some k->k≠t:=fun k Y A e=>by
    subst e;apply h;have u:=HN ops.toList j (zB Y)
    grind[Oper.looksAt]
   have n:og ops.toList (bB fr t g) j=og ops.toList fr j:=by
    grind[iy,qO,Hw,FL,og,bB]
   simp only[gG,bI,n]
def YQ.at{i:Nat}{g:GV}{fr:am}{Γ:ap}{o:Oper}(h:YQ P ops i g fr Γ)(A:ops[i]?=some o){B:Bs}{K:Fz}{β:Bt}{w:World}{l:List Value}(j:Inv B K β Γ w)(O:FR K β fr l):∃v,Rel K β v g/\((Region.wanted o (yielded ops (act l).tmps)=true/\(execOp (ev l) o).run P w=.ok (.value v) w)\/(Region.wanted o (yielded ops (act l).tmps)=false/\v=undef)):=by
 have⟨Y,c,q,b,G⟩:=h;rw[A]at q;cases q;have n:=G8 (O.mask (ts:=o.looksAt ops) 0) b
 cases c with
 |true =>
  have⟨v,z,k⟩:=G B K β w l j (O.mask 0);exact⟨v,k,.inl ⟨n,by have⟨d,op,ty,pos,af,C⟩:=o;exact z d ty pos af⟩⟩
 |false=>subst G;exact⟨undef,.v _,.inr ⟨n,rfl⟩⟩
theorem GI.comm{i j:Nat}{g:GV}{q e:Oper}{Y:GV->ap->Prop}{fr:am}{Γ:ap}(hi:ops[i]?=some q)(Z:ops[j]?=some e)(k:q.apart ops e=true)(T:∀cs b,e.op≠.select cs b)(C:YQ P ops i g fr Γ)
  (h:GI P ops j Y (bI fr q.dst g) Γ):GI P ops j Y fr Γ:=by
 have⟨a1,F,A⟩:=Oper.apart_spec k;have⟨o,c,r,n,G⟩:=h;rw[Z]at r;cases r;rw[TT a1]at n;refine⟨e,c,Z,n,?_⟩
 cases c with
 |false=>exact G
 |true =>
  intro B K u w l s O;have⟨v,t,_⟩:=C.at hi s O;have:=G B K u w (put l q.dst v) s (O.put _ t)
  have z:execOp (ev (put l q.dst v)) e=execOp (ev l) e:=by
   have:=execOp_put e T (act l) q.dst v a1
   grind[pH,pA]
  unfold Cj at this |-
  grind
theorem pU.first{Q:am->ap->Prop}{i:Nat}{z:Oper}{g:GV}{s:am}(hi:ops[i]?=some z)(YS:∀(j:Nat)(o:Oper)cs b,ops[j]?=some o->o.op≠.select cs b) :
  ∀(n:Nat)(r:lD)(q:Array Bool)(fr:am)(Γ:ap),
   (∀j J,ops[j]?=some J->j≠i->q.getD j true=false->(∀e∈J.after,Region.binds .any e=true->e.on≠i)->z.apart ops J=true) ->
   i∈Region.ready .any ops q->dB (z.looksAt ops) 0 fr=dB (z.looksAt ops) 0 s->YQ P ops i g s Γ->(∀p∈r,YQ P ops p.1 p.2.1 p.2.2 Γ) ->
   pU P ops Q n ((i,g,s)::r) (q.setIfInBounds i true) (bI fr z.dst g) Γ->pU P ops Q (n+1) r q fr Γ:=by
 have hd:l9 ops i=z.dst:=by simp[l9,hi]
 have R:∀{fr:am}{Γ:ap},dB (z.looksAt ops) 0 fr=dB (z.looksAt ops) 0 s->YQ P ops i g s Γ->YQ P ops i g fr Γ:=by
  rintro fr Γ hm⟨o,c,N,Z,W⟩;rw[hi]at N;cases N;exact⟨z,c,hi,by grind,by grind⟩
 have self:∀(n:Nat)(r:lD)(q:Array Bool)(fr:am)(Γ:ap),dB (z.looksAt ops) 0 fr=dB (z.looksAt ops) 0 s->YQ P ops i g s Γ->(∀p∈r,YQ P ops p.1 p.2.1 p.2.2 Γ) ->
   pU P ops Q n ((i,g,s)::r) (q.setIfInBounds i true) (bI fr z.dst g) Γ ->
   GI P ops i (fun g M=>(∀p∈stay ops i r,YQ P ops p.1 p.2.1 p.2.2 M)/\pU P ops Q n (stay ops i r) (q.setIfInBounds i true) (bI fr (l9 ops i) g) M) fr Γ:=by
  intro n r q fr Γ F hy O H
  have T:∀p∈stay ops i r,p∈r:=fun p O=>by grind[stay]
  have H':pU P ops Q n (stay ops i r) (q.setIfInBounds i true) (bI fr (l9 ops i) g) Γ:=by
   grind[pU.P1,eQ]
  have⟨o,c,N,Z,W⟩:=R F hy;rw[hi]at N;cases N
  have ZV:gG ops.toList fr z.guard=some c:=by
   have⟨d',op,ty,pos,af,gd⟩:=z
   cases gd with
   |none=>exact Z
   |some gd =>
    have⟨j,b⟩:=gd;simp only[gG]at Z |-
    have hv:∀x,og ops.toList (dB (Oper.looksAt ops ⟨d',op,ty,pos,af,some (j,b)⟩) 0 fr) j=some x->og ops.toList fr j=some x:=by
     intro x hx;unfold og at hx |-
     cases Hk:iy ops.toList j with
     |false=>grind
     |true =>
      rw[Hk]at hx
      cases hdt:(qO ops.toList j).dst with
      |none=>grind
      |some t =>
       rw[hdt]at hx;simp only at hx |-
       have Hj:∀(Y:List Nat)(fr:am)(k t:Nat),iy (dB Y k fr) t=iy fr t:=by
        intro Y fr
        induction fr with
        |nil=>intro k t;rfl
        |cons x fr X=>intro k t;cases t with|zero=>rfl|succ t=>exact X (k+1) t
       have hgn:∀(Y:List Nat)(fr:am)(k t:Nat) ,bx (dB Y k fr) t=bx fr t\/bx (dB Y k fr) t=.U:=by
        intro Y fr
        induction fr with
        |nil=>simp[bx,dB]
        |cons x fr X =>
         intro k t
         cases t with
         |zero=>grind[bx,dB]
         |succ t=>exact X (k+1) t
       grind
    grind
  refine⟨z,c,hi,ZV,?_⟩
  have XE:∀p∈stay ops i r,YQ P ops p.1 p.2.1 p.2.2 Γ:=fun p hq=>O p (T p hq)
  cases c with
  |true =>
   intro B K β w l hI hF;have⟨v,hr,hv⟩:=W B K β w l hI (hF.mask 0)
   have Om:(execOp (ev l) z).run P w=.ok (.value v) w:=by have⟨d,op,ty,pos,af,gd⟩:=z;exact hr d ty pos af
   unfold Cj;rw[Om];exact⟨K,β,g,Γ,c6.refl K,dJ.refl β,hI,fun fr l hf=>hf.put _ hv,XE,H'⟩
  |false =>
   grind
 intro n
 induction n with
 |zero =>
  intro r q fr Γ _ hr F hy O H;refine⟨fun h=>ze2,fun j hj=>?_⟩
  by_cases A:j=i
  ·grind
  ·have:=ready_mono hj A;rw[H.1]at this;cases this
 |succ n X =>
  intro r q fr Γ C hr F hy O H;refine⟨fun h=>ze2,fun j hj=>?_⟩
  by_cases A:j=i
  ·subst A;grind
  ·have N:=H.2 j (ready_mono hj A);have⟨YE,J,G,aah⟩:=mem_ready.1 hj
   have YK:∀e∈J.after,Region.binds .any e=true->e.on≠i:=fun e he hb heq=>by
    grind[mem_ready,Nat.lt_or_ge,Array.getElem?_eq_none]
   have Xh:=C j J G A YE YK;have⟨a1,a2,a3⟩:=Oper.apart_spec Xh
   have hnw:waits ops j i=false:=by
    grind[waits]
   have T:stay ops j ((i,g,s)::r)=(i,g,s)::stay ops j r:=by
    grind[stay]
   rw[T]at N;have Z:=GI.comm hi G Xh (fun cs b=>YS j J cs b G) (R F hy) N
   have hdj:l9 ops j=J.dst:=by simp[l9,G]
   have E:∀k ok,ops[k]?=some ok->k≠i->(q.setIfInBounds j true).getD k true=false ->
     (∀e∈ok.after,Region.binds .any e=true->e.on≠i)->z.apart ops ok=true:=fun k ok hk hki XM DS=>by
    refine C k ok hk hki ?_ DS
    by_cases hjk:j=k
    ·grind
    ·rw[getD_set_ne true hjk]at XM;exact XM
   refine Z.mono fun gj M ⟨W,h4⟩=>⟨fun p O=>W p (eQ _ O),?_⟩
   refine X (stay ops j r) (q.setIfInBounds j true) (bI fr (l9 ops j) gj) M E (ready_mono hr (Ne.symm A)) ?_ (W (i,g,s) (List.mem_cons_self)) (fun p O=>W p (eQ _ O)) ?_
   ·grind[O3]
   ·rw[Array.setIfInBounds_comm _ _ A]
    have S:bI (bI fr (l9 ops j) gj) z.dst g=bI (bI fr z.dst g) (l9 ops j) gj:=by
     rw[hdj]
     cases hdi:z.dst with
     |none=>rfl
     |some t =>
      cases hdj':J.dst with
      |none=>rfl
      |some u =>
       have Hm:t≠u:=fun e=>a2 t hdi ze2
       have gen:∀(fr:am)(t u:Nat),t≠u->bB (bB fr u gj) t g=bB (bB fr t g) u gj:=by
        intro fr
        induction fr with
        |nil=>simp[bB]
        |cons x fr X =>
         intro t u h
         cases t with
         |zero=>cases u with|zero=>omega|succ u=>rfl
         |succ t=>cases u with|zero=>rfl|succ u=>grind[bB]
       grind[bI]
    rw[S];exact h4
inductive Ot where
 |nil
 |q (i:Nat) (r:Ot)
 |a (i:Nat) (r:Ot)
 |f (i:Nat) (r:Ot) (j:Nat) (s:Ot)
def Ot.len:Ot->Nat
 |.nil=>0
 |.q _ r=>r.len+1
 |.a _ r=>r.len+1
 |.f _ r _ _=>r.len+1
def tq(ops:Array Oper):Ot->Array Bool->Bool
 |.nil,e=>(Region.ready .any ops e).isEmpty
 |.q i r,e=>(Region.ready .any ops e).contains i&&Region.free .any ops e i&&tq ops r (e.setIfInBounds i true)
 |.a i r,e=>(Region.ready .any ops e==[i])&&tq ops r (e.setIfInBounds i true)
 |.f i r j s,e=>(Region.ready .any ops e==[i,j])&&tq ops r (e.setIfInBounds i true)&&tq ops s (e.setIfInBounds j true)&&(r.len==s.len)
def GO(P:Program)(ops:Array Oper)(Q:am->ap->Prop):Ot->lD->am->ap->Prop
 |.nil,_,fr,Γ=>Q fr Γ
 |.q i r,F,fr,Γ=>∃g,YQ P ops i g fr Γ/\GO P ops Q r ((i,g,fr)::F) (bI fr (l9 ops i) g) Γ
 |.a i r,F,fr,Γ=>GI P ops i (fun g v=>(∀p∈stay ops i F,YQ P ops p.1 p.2.1 p.2.2 v)/\GO P ops Q r (stay ops i F) (bI fr (l9 ops i) g) v) fr Γ
 |.f i r j s,F,fr,Γ=>GI P ops i (fun g v=>(∀p∈stay ops i F,YQ P ops p.1 p.2.1 p.2.2 v)/\GO P ops Q r (stay ops i F) (bI fr (l9 ops i) g) v) fr Γ/\GI P ops j (fun g v=>(∀p∈stay ops j F,YQ P ops p.1 p.2.1 p.2.2 v)/\GO P ops Q s (stay ops j F) (bI fr (l9 ops j) g) v) fr Γ
def GO.fork{ops:Array Oper}{Q:am->ap->Prop}{i j:Nat}{r s:Ot}{F:lD}{fr:am}{Γ:ap}(o:GO P ops Q (.a i r) F fr Γ)(b:GO P ops Q (.a j s) F fr Γ):GO P ops Q (.f i r j s) F fr Γ:=⟨o,b⟩
def GO.all{u:List Oper}{Q:am->ap->Prop}(G:Region.noSelect u.toArray=true):∀(l:Ot)(F:lD)(e:Array Bool)(fr:am)(Γ:ap),
  tq u.toArray l e=true->(∀p∈F,YQ P u.toArray p.1 p.2.1 p.2.2 Γ)->GO P u.toArray Q l F fr Γ->pU P u.toArray Q l.len F e fr Γ
 |.nil,F,e,fr,Γ,A,_,h=>⟨by simpa[tq]using A,h⟩
 |.q i r,F,e,fr,Γ,A,W,h=>by
  simp only[tq,aZ]at A;have⟨⟨v,H⟩,A⟩:=A;have⟨g,E,h⟩:=h
  have R:i∈Region.ready .any u.toArray e:=by simpa using v
  have⟨_,o,n,_⟩:=mem_ready.1 R
  have T:l9 u.toArray i=o.dst:=by simp only[l9,n];rfl
  rw[T]at h
  exact pU.first n (Region.noSelect_spec G) _ F e fr Γ (Region.free_spec n H) R rfl E W (GO.all G r _ _ _ _ A (fun p c=>by
   rcases lp c with rfl|c
   ·exact E
   ·exact W p c) h)
 |.a i r,F,e,fr,Γ,A,W,h=>by
  simp only[tq,aZ,beq_iff_eq]at A;have⟨v,A⟩:=A;refine⟨fun z=>by rw[z]at v;simp at v,fun j Y=>?_⟩;rw[v,List.mem_singleton]at Y;subst Y
  exact GI.mono h fun g w ⟨t,b⟩=>⟨t,GO.all G r _ _ _ _ A t b⟩
 |.f i r j s,F,e,fr,Γ,A,W,h=>by
  simp only[tq,aZ,beq_iff_eq]at A;have⟨⟨⟨v,B⟩,C⟩,M⟩:=A;refine⟨fun z=>by rw[z]at v;simp at v,fun k N=>?_⟩;rw[v]at N;simp only[List.mem_cons,List.not_mem_nil,or_false]at N
  rcases N with rfl|rfl
  ·exact GI.mono h.1 fun g w ⟨t,b⟩=>⟨t,GO.all G r _ _ _ _ B t b⟩
  ·exact GI.mono h.2 fun g w ⟨t,b⟩=>⟨t,by
    have:=GO.all G s _ _ _ _ C t b
    rw[<-M]at this;exact this⟩
theorem GW.draw{m id:Nat}{r:List Oper}{Q:dQ}{fr:am}{Γ:ap}(k:Ot)(j:P.follows .mixedOrders=true)
  (E:(Region.noSelect r.toArray&&(k.len==r.length)&&tq r.toArray k (Array.replicate r.toArray.size false))=true)
  (h:GO P r.toArray (Q .normal) k [] fr Γ):GW P m (.region id r.toArray true) Q fr Γ:=fun B K n w l N i O=>by
 simp only[aZ,beq_iff_eq]at E;have⟨⟨G,M⟩,A⟩:=E;refine wp_region_any j ?_;have o:=GO.all G k [] _ fr Γ A (fun p W=>by cases W) h;rw[M]at o;have b:=pU.sound (Q':=Q) N (fun fr Γ h=>h) _ _ _ _ _ K n w.drew l o (i.same (Ext.drew w)) O
 simp_all
end
def kK:List Oper->Nat->Option Oper
 |[],_=>none
 |o::_,0=>some o
 |_::r,n+1=>kK r n
def qH{ol:List Oper}{i:Nat}{o:Oper}(h:kK ol i=some o):ol.toArray[i]?=some o:=by
 have:∀(ol:List Oper)(i:Nat),kK ol i=ol[i]?:=by
  intro ol
  induction ol with
  |nil=>intro i;rfl
  |cons x ol O=>intro i;cases i with|zero=>rfl|succ i=>grind[kK]
 grind
section
variable{P:Program}{Q:am->ap->Prop}{ol:List Oper}{r:Ot}{cU:lD}{fr:am}{Γ:ap}{i:Nat}{g:GV}{d:Option Tmp}{op:Op}{ty:TypeId}{pos:String}{af:Array Edge}{gd:Nat × Bool}
def uO{o:Oper}(h:kK ol i=some o):l9 ol.toArray i=o.dst:=by simp only[l9,qH h];rfl
theorem GO.more{c:Array Oper}:∀(r:Ot)(cU e:lD)(fr:am)(Γ:ap),(∀p∈e,p∈cU\/∀Γ,YQ P c p.1 p.2.1 p.2.2 Γ)->GO P c Q r cU fr Γ->GO P c Q r e fr Γ
 |.nil,_,_,_,_,_,h=>h
 |.q i r,cU,e,fr,Γ,G,⟨g,t,b⟩=>⟨g,t,GO.more r _ _ _ _ (fun p W=>by
   grind) b⟩
 |.a i r,cU,e,fr,Γ,G,h=>GI.mono h fun g v ⟨t,b⟩=>by
   have o:∀p∈stay c i e,p∈stay c i cU\/∀Γ,YQ P c p.1 p.2.1 p.2.2 Γ:=fun p W=>by
    grind[stay]
   exact⟨fun p W=>(o p W).elim (t p) (fun h=>h v),GO.more r _ _ _ _ o b⟩
 |.f i r j s,cU,e,fr,Γ,G,h=>by
   have o:∀k,∀p∈stay c k e,p∈stay c k cU\/∀Γ,YQ P c p.1 p.2.1 p.2.2 Γ:=fun k p W=>by
    grind[stay]
   exact⟨GI.mono h.1 fun g v ⟨t,b⟩=>⟨fun p W=>(o i p W).elim (t p) (fun h=>h v),GO.more r _ _ _ _ (o i) b⟩,GI.mono h.2 fun g v ⟨t,b⟩=>⟨fun p W=>(o j p W).elim (t p) (fun h=>h v),GO.more s _ _ _ _ (o j) b⟩⟩
theorem GO.skip{c:Array Oper}{x:Nat × GV × am}(hx:∀Γ,YQ P c x.1 x.2.1 x.2.2 Γ)(h:GO P c Q r cU fr Γ):GO P c Q r (x::cU) fr Γ:=by
 refine GO.more r cU _ fr Γ (fun p W=>?_) h
 grind
def GO.yq{o:Oper}(hi:kK ol i=some o)(B:YQ P ol.toArray i g fr Γ)(h:GO P ol.toArray Q r ((i,g,fr)::cU) (bI fr o.dst g) Γ):GO P ol.toArray Q (.q i r) cU fr Γ :=
 ⟨g,B,by rw[uO hi];exact h⟩
def GO.yp{o:Oper}(hi:kK ol i=some o)(B:∀Γ,YQ P ol.toArray i g fr Γ)(h:GO P ol.toArray Q r cU (bI fr o.dst g) Γ):GO P ol.toArray Q (.q i r) cU fr Γ :=
 GO.yq hi (B Γ) (GO.skip B h)
theorem my{c:Bool}{e:List Oper}(j:og e fr gd.1=some (some c))(W:c=gd.2):gG e fr (some gd)=some true:=by
 grind[gG]
def nf{c:Bool}{e:List Oper}(k:og e fr gd.1=some (some c))(W:c=!gd.2):gG e fr (some gd)=some false:=by
 have⟨j,b⟩:=gd;simp only at k W;simp only[gG,k,W];simp
theorem TU{c:List Oper}(j:og c fr gd.1=some none):gG c fr (some gd)=some false:=by
 grind[gG]
def YQ.t{o:Oper}(hi:kK ol i=some o)(hg:gG ol (dB (o.looksAt ol.toArray) 0 fr) o.guard=some true)(B:D P o.op (dB (o.looksAt ol.toArray) 0 fr) Γ g):YQ P ol.toArray i g fr Γ:=⟨o,true,qH hi,hg,B⟩
def YQ.f{o:Oper}(hi:kK ol i=some o)(hg:gG ol (dB (o.looksAt ol.toArray) 0 fr) o.guard=some false):YQ P ol.toArray i (.v undef) fr Γ:=⟨o,false,qH hi,hg,rfl⟩
def OQ(hi:kK ol i=some ⟨d,op,ty,pos,af,none⟩)(B:D P op (dB (Oper.looksAt ol.toArray ⟨d,op,ty,pos,af,none⟩) 0 fr) Γ g)(h:GO P ol.toArray Q r ((i,g,fr)::cU) (bI fr d g) Γ):GO P ol.toArray Q (.q i r) cU fr Γ :=
 GO.yq hi (YQ.t hi rfl B) h
def OP(hi:kK ol i=some ⟨d,op,ty,pos,af,none⟩)(B:∀Γ,D P op (dB (Oper.looksAt ol.toArray ⟨d,op,ty,pos,af,none⟩) 0 fr) Γ g)(h:GO P ol.toArray Q r cU (bI fr d g) Γ):GO P ol.toArray Q (.q i r) cU fr Γ :=
 GO.yp hi (fun Γ=>YQ.t hi rfl (B Γ)) h
def Zt{c:Bool}(hi:kK ol i=some ⟨d,op,ty,pos,af,some gd⟩)(j:og ol (dB (Oper.looksAt ol.toArray ⟨d,op,ty,pos,af,some gd⟩) 0 fr) gd.1=some (some c))(W:c=gd.2)(B:D P op (dB (Oper.looksAt ol.toArray ⟨d,op,ty,pos,af,some gd⟩) 0 fr) Γ g)
  (h:GO P ol.toArray Q r ((i,g,fr)::cU) (bI fr d g) Γ):GO P ol.toArray Q (.q i r) cU fr Γ :=
 GO.yq hi (YQ.t hi (my j W) B) h
def W6{c:Bool}(hi:kK ol i=some ⟨d,op,ty,pos,af,some gd⟩)(j:og ol (dB (Oper.looksAt ol.toArray ⟨d,op,ty,pos,af,some gd⟩) 0 fr) gd.1=some (some c))(W:c=gd.2)(B:∀Γ,D P op (dB (Oper.looksAt ol.toArray ⟨d,op,ty,pos,af,some gd⟩) 0 fr) Γ g)
  (h:GO P ol.toArray Q r cU (bI fr d g) Γ):GO P ol.toArray Q (.q i r) cU fr Γ :=
 GO.yp hi (fun Γ=>YQ.t hi (my j W) (B Γ)) h
def Zp{c:Bool}(hi:kK ol i=some ⟨d,op,ty,pos,af,some gd⟩)(j:og ol (dB (Oper.looksAt ol.toArray ⟨d,op,ty,pos,af,some gd⟩) 0 fr) gd.1=some (some c))(W:c=!gd.2)(h:GO P ol.toArray Q r cU (bI fr d (.v undef)) Γ):GO P ol.toArray Q (.q i r) cU fr Γ :=
 GO.yp hi (fun Γ=>YQ.f hi (nf j W)) h
def Zq(hi:kK ol i=some ⟨d,op,ty,pos,af,some gd⟩)(j:og ol (dB (Oper.looksAt ol.toArray ⟨d,op,ty,pos,af,some gd⟩) 0 fr) gd.1=some none)(h:GO P ol.toArray Q r cU (bI fr d (.v undef)) Γ):GO P ol.toArray Q (.q i r) cU fr Γ :=
 GO.yp hi (fun Γ=>YQ.f hi (TU j)) h
theorem HI:∀(fr:am)(ts:List Nat)(k t:Nat),k+t∈ts->bx (dB ts k fr) t=bx fr t
 |[],_,_,_,_=>rfl
 |g::fr,ts,k,0,h=>by
  grind[bx,dB]
 |g::fr,ts,k,t+1,h=>by
  simp only[dB,bx];exact HI fr ts (k+1) t ze2
theorem va{o:Oper}{c:Array Oper}{x:Operand}(h:x∈o.op.operands.toList):bf (dB (o.looksAt c) 0 fr) x=bf fr x:=by
 cases x with
 |tmp t =>
  refine HI fr _ 0 t ?_
  grind[Oper.looksAt]
 |_=>rfl
section
variable{x:Operand}
theorem Zs(hi:kK ol i=some ⟨d,.move x,ty,pos,af,none⟩)(h:GO P ol.toArray Q r cU (bI fr d (bf fr x)) Γ):GO P ol.toArray Q (.q i r) cU fr Γ :=
 OP hi (fun Γ=>by
  have:=D.mv (P:=P) (x:=x) (Γ:=Γ) (fr:=dB (Oper.looksAt ol.toArray ⟨d,.move x,ty,pos,af,none⟩) 0 fr)
  grind[va,Op.operands]) h
theorem Zr(hi:kK ol i=some ⟨d,.assign x,ty,pos,af,none⟩)(h:GO P ol.toArray Q r cU (bI fr d (bf fr x)) Γ):GO P ol.toArray Q (.q i r) cU fr Γ :=
 OP hi (fun Γ=>by
  have:=D.iU (P:=P) (x:=x) (Γ:=Γ) (fr:=dB (Oper.looksAt ol.toArray ⟨d,.assign x,ty,pos,af,none⟩) 0 fr)
  grind[va,Op.operands]) h
theorem X7{c:Bool}(hi:kK ol i=some ⟨d,.move x,ty,pos,af,some gd⟩)(j:og ol (dB (Oper.looksAt ol.toArray ⟨d,.move x,ty,pos,af,some gd⟩) 0 fr) gd.1=some (some c))(W:c=gd.2)(h:GO P ol.toArray Q r cU (bI fr d (bf fr x)) Γ):GO P ol.toArray Q (.q i r) cU fr Γ :=
 W6 hi j W (fun Γ=>by
  have:=D.mv (P:=P) (x:=x) (Γ:=Γ) (fr:=dB (Oper.looksAt ol.toArray ⟨d,.move x,ty,pos,af,some gd⟩) 0 fr)
  grind[va,Op.operands]) h
end
section
variable{c a b:Operand}{t:Bool}
theorem X6(hi:kK ol i=some ⟨d,.pick c a b,ty,pos,af,none⟩)(W:bf (dB (Oper.looksAt ol.toArray ⟨d,.pick c a b,ty,pos,af,none⟩) 0 fr) c=.v (.bool t))(M:t=true)(h:GO P ol.toArray Q r cU (bI fr d (bf fr a)) Γ):GO P ol.toArray Q (.q i r) cU fr Γ :=
 OP hi (fun Γ=>by
  have:=D.QP (P:=P) (Γ:=Γ) (a:=a) (b:=b) W M
  grind[va,Op.operands]) h
theorem X5(hi:kK ol i=some ⟨d,.pick c a b,ty,pos,af,none⟩)(W:bf (dB (Oper.looksAt ol.toArray ⟨d,.pick c a b,ty,pos,af,none⟩) 0 fr) c=.v (.bool t))(M:t=false)(h:GO P ol.toArray Q r cU (bI fr d (bf fr b)) Γ):GO P ol.toArray Q (.q i r) cU fr Γ :=
 OP hi (fun Γ=>by
  have:=D.QO (P:=P) (Γ:=Γ) (a:=a) (b:=b) W M
  grind[va,Op.operands]) h
end
inductive cw(P:Program)(ops:Array Oper)(i:Nat)(bE:ap):lD->lD->Prop
 |n:cw P ops i bE [] []
 |w {j:Nat} {g:GV} {KZ:am} {cU zX:lD} (hw:waits ops i j=true) (h:cw P ops i bE cU zX):cw P ops i bE ((j,g,KZ)::cU) zX
 |y {j:Nat} {g:GV} {KZ:am} {cU zX:lD} (hy:YQ P ops j g KZ bE) (h:cw P ops i bE cU zX):cw P ops i bE ((j,g,KZ)::cU) ((j,g,KZ)::zX)
theorem cw.spec{c:Array Oper}{bE:ap}{e:lD}(h:cw P c i bE cU e):(∀p∈stay c i cU,YQ P c p.1 p.2.1 p.2.2 bE)/\∀p∈stay c i cU,p∈e:=by
 induction h with
 |n=>simp[lD,stay,YQ]
 |w l h O =>
  grind[stay]
 |y B h O =>
  grind[stay]
def TB(fr:am):Option Tmp->Bool
 |none=>true
 |some t=>iy fr t
def df(P:Program)(Q:am->ap->Prop)(ol:List Oper)(i:Nat)(r:Ot)(cU:lD)(fr:am)(d:Option Tmp)(c8:am)(bE:ap):Prop :=
 ∃g e,c8=bI fr d g/\cw P ol.toArray i bE cU e/\GO P ol.toArray Q r e (bI fr d g) bE
theorem GA.of{o:Oper}{E:GV->ap->Prop}{R:am->ap->Prop}{z:Array Oper}(hg:o.guard=none)(hd:TB fr o.dst=true)(O:∀c8 bE,R c8 bE->∃g,c8=bI fr o.dst g/\E g bE)(h:GL P Γ.length z (bo R (fun _ _ _=>False)) [o] fr Γ):GA P o E fr Γ:=fun B K J w l H G=>by
 have j:=h (cur K J Γ w) K J w l rfl H.here G;have⟨d,op,ty,pos,af,gd⟩:=o;simp only at hg;subst hg;simp only at j hd;unfold WL wpList at j;rw[ai zfl]at j
 rcases j with j|⟨_,W,w0,k⟩
 ·rw[<-pA];refine VG j (fun c a A k=>?_) (fun a A k=>?_) ?_ ?_
  ·have⟨m,_,_,_,_,_,_,_,e⟩:=k;exact e
  ·have⟨m,_,_,_,_,_,_,_,e⟩:=k;exact e
  ·rintro v A⟨m,s,M,C,c8,bE,b,q,e⟩;obtain⟨g,rfl,S⟩:=O c8 bE e;rw[pH]at s
   have u:put l d v=m:=by
    simp_all[congrArg,act]
   subst u;refine⟨M,C,g,bE,b.kle,b.ble,H.My b,fun N l2 F=>?_,S⟩
   cases d with
   |none=>exact F
   |some t =>
    refine F.fg t ?_;have hv:=q.nth t;have Y:nth (put l (some t) v) t=v:=sG (nz G hd) v
    have Z:bx (bI fr (some t) g) t=g:=by
     have n:∀(fr:am)(t:Nat),iy fr t=true->bx (bB fr t g) t=g:=by
      intro fr
      induction fr with
      |nil=>grind[iy]
      |cons x fr T=>intro t h;cases t with|zero=>rfl|succ t=>exact T t h
     exact n fr t hd
    grind
  ·rintro X A⟨m,s,_⟩;have:=congrArg (fun a:Act=>a.defers) s
   cases d<;>simp[act,Act.put]at this
 ·have⟨m,_,_,_,_,_,_,_,e⟩:=k;exact e.elim
theorem df.kt{c8:am}{bE:ap}(h:df P Q ol i r cU fr d c8 bE):∃g,c8=bI fr d g/\((∀p∈stay ol.toArray i cU,YQ P ol.toArray p.1 p.2.1 p.2.2 bE)/\GO P ol.toArray Q r (stay ol.toArray i cU) (bI fr d g) bE):=by
 have⟨g,e,o,b,G⟩:=h;have⟨C,j⟩:=b.spec
 grind[GO.more]
def OA(hi:kK ol i=some ⟨d,op,ty,pos,af,none⟩)(hd:TB fr d=true)(h:GL P Γ.length ol.toArray (bo (df P Q ol i r cU fr d) (fun _ _ _=>False)) [⟨d,op,ty,pos,af,none⟩] fr Γ):GO P ol.toArray Q (.a i r) cU fr Γ:=by
 refine⟨_,true,qH hi,rfl,?_⟩
 exact(GA.of (o:=⟨d,op,ty,pos,af,none⟩) rfl hd (fun s v J=>df.kt J) h).mono fun g v ⟨q,b⟩=>⟨q,by rw[uO hi];exact b⟩
def zm{c:Bool}(hi:kK ol i=some ⟨d,op,ty,pos,af,some gd⟩)(hd:TB fr d=true)(j:og ol fr gd.1=some (some c))(W:c=gd.2)(h:GL P Γ.length ol.toArray (bo (df P Q ol i r cU fr d) (fun _ _ _=>False)) [⟨d,op,ty,pos,af,none⟩] fr Γ):GO P ol.toArray Q (.a i r) cU fr Γ:=by
 refine⟨_,true,qH hi,my j W,?_⟩
 have:=(GA.of (o:=⟨d,op,ty,pos,af,none⟩) rfl hd (fun s v J=>df.kt J) h).mono (Dd:=fun g v=>(∀p∈stay ol.toArray i cU,YQ P ol.toArray p.1 p.2.1 p.2.2 v)/\GO P ol.toArray Q r (stay ol.toArray i cU) (bI fr (l9 ol.toArray i) g) v) fun g v ⟨q,b⟩=>⟨q,by rw[uO hi];exact b⟩
 exact this
def Zn{c:Bool}{e:lD}(hi:kK ol i=some ⟨d,op,ty,pos,af,some gd⟩)(j:og ol fr gd.1=some (some c))(W:c=!gd.2)(G:cw P ol.toArray i Γ cU e)(h:GO P ol.toArray Q r e (bI fr d (.v undef)) Γ):GO P ol.toArray Q (.a i r) cU fr Γ :=
 ⟨_,false,qH hi,nf j W,G.spec.1,by rw[uO hi];exact GO.more r _ _ _ _ (fun p X=>.inl (G.spec.2 p X)) h⟩
def Zo{e:lD}(hi:kK ol i=some ⟨d,op,ty,pos,af,some gd⟩)(j:og ol fr gd.1=some none)(G:cw P ol.toArray i Γ cU e)(h:GO P ol.toArray Q r e (bI fr d (.v undef)) Γ):GO P ol.toArray Q (.a i r) cU fr Γ :=
 ⟨_,false,qH hi,TU j,G.spec.1,by rw[uO hi];exact GO.more r _ _ _ _ (fun p W=>.inl (G.spec.2 p W)) h⟩
theorem GO.nil(h:Q fr Γ):GO P ol.toArray Q .nil cU fr Γ:=h
def df.mk{e:lD}(G:cw P ol.toArray i Γ cU e){v:am}(h:GO P ol.toArray Q r e (bI v d g) Γ):df P Q ol i r cU v d (bI v d g) Γ:=⟨g,e,rfl,G,h⟩
section
variable{c:Array Oper}{c8:am}
def iM{bE:ap}(o:fr=c8)(b:Γ=bE)(h:GO P c Q r cU c8 bE):GO P c Q r cU fr Γ:=by subst o;subst b;exact h
def W5(o:fr=c8)(h:GO P c Q r cU c8 Γ):GO P c Q r cU fr Γ:=by subst o;exact h
end
end
def GW.range{P:Program}{m:Nat}{Q:dQ}{fr:am}{Γ:ap}{B C r1 r2:Nat}{l:Code}{u j tn b:Tmp}{T1 T2 T3 H J M N:TypeId}{p1 Y Z:String}{a1 O R:Array Edge}(n:Nat)(aaR:Nat->am->ap->Prop)
  (h0:zj m (aaR 0) fr Γ)(hn:n<=1099511627776)
  (hI:∀k fr Γ,aaR k fr Γ->bx fr j=.v (ii k)/\bx fr tn=.v (ii n)/\iy fr u=true)
  (o:∀k fr Γ,k<n->aaR k fr Γ->GW P m l (bn C (bo (fun c8 bE=>bx c8 j=.v (ii k)/\iy c8 b=true/\zj m (aaR (k+1)) (bB (bB c8 b (.v (ii ((k+1:Nat):Int)))) j (.v (ii ((k+1:Nat):Int)))) bE) (bn B Q))) (bB fr u (.v (.bool true))) Γ)
  (T:∀fr Γ,aaR n fr Γ->Q .normal (bB fr u (.v (.bool false))) Γ) :
  GW P m (.loop (.seq (.region r1 [(⟨some u,.binOp .lss T1 (.tmp j) (.tmp tn) T2,T3,p1,a1,none⟩:Oper)].toArray false) (.seq (.cond (.tmp u) .skip (.exit B))
   (.seq (.block C l) (.region r2 [(⟨some b,.binOp .add H (.tmp j) (.const (.int .i64 1)) J,M,Y,O,none⟩:Oper),⟨some j,.move (.tmp b),N,Z,R,none⟩].toArray false))))) (bn B Q) fr Γ:=by
 have s:∀(fr:am)(t:Nat)(g:GV),iy fr t=true->bx (bB fr t g) t=g:=by
  intro fr
  induction fr with
  |nil=>grind[iy]
  |cons x fr ih=>intro t g h;cases t with|zero=>rfl|succ t=>exact ih t g h
 refine GW.loop (fun k:Nat=>n-k) (fun k fr Γ=>k<=n/\aaR k fr Γ) 0 ?_ ?_
 ·have⟨c8,bE,F,h⟩:=h0;exact⟨c8,bE,F,bl _,h⟩
 rintro k fr Γ⟨hk,X⟩;have⟨h1,h2,S⟩:=hI k fr Γ X;refine GW.seq (GW.region (GL.q (D.go (v:=.bool (decide ((k:Int)<(n:Int)))) ?_) (GL.nil (bg ?_))))
 ·simp only[TZ,Xw.go,bf,h1,h2,AR,CU,ii,JJ,I9]
 by_cases w:k<n
 ·have E:decide ((k:Int)<(n:Int))=true:=by grind
  simp only[bI,E];refine GW.seq (J8 (s fr u _ S) rfl (GW.skip (bg (GW.seq (GW.block ?_)))));refine GW.mono (o k fr Γ w X) ?_;intro e c8 bE c;have z:∀c8 bE,(bx c8 j=.v (ii k)/\iy c8 b=true/\zj m (aaR (k+1)) (bB (bB c8 b (.v (ii ((k+1:Nat):Int)))) j (.v (ii ((k+1:Nat):Int)))) bE) ->
    GW P m (.region r2 [(⟨some b,.binOp .add H (.tmp j) (.const (.int .i64 1)) J,M,Y,O,none⟩:Oper),⟨some j,.move (.tmp b),N,Z,R,none⟩].toArray false) (bo (fun c8 bE=>∃y:Nat,zj m (fun fr Γ=>y<=n/\aaR y fr Γ) c8 bE/\n-y<n-k) (bn B Q)) c8 bE:=by
   rintro c8 bE⟨h5,h6,A,G,F,h7⟩;refine GW.region (GL.q (D.gB (a:=k) h5 rfl ze4) (GL.q D.mv (GL.nil (bg ⟨k+1,⟨A,G,?_,w,h7⟩,by omega⟩))));have h8:bf (bB c8 b (.v (ii ((k+1:Nat):Int)))) (.tmp b)=.v (ii ((k+1:Nat):Int)):=s c8 b _ h6;simp only[bI,h8];exact F
  cases e with
  |normal=>exact z c8 bE c
  |exit id =>
   simp only[bn]at c |-;split<;>rename_i W
   ·rw[ai W]at c;exact z c8 bE c
   ·rw[ab W]at c;exact c
  |goto _=>exact c
  |ret=>exact c
  |panic _=>exact c
  |outgrown=>exact c
 ·have wW:k=n:=by omega
  have E:decide ((k:Int)<(n:Int))=false:=by grind
  simp only[bI,E];refine GW.seq (J7 (s fr u _ S) rfl (GW.exit (DK (DK (Hc ?_)))))
  grind
def mq(g R:GV):Prop:=∀K l x,Rel K l x g->Rel K l x R
def lC(gs G:am):Prop:=∀K n l,bu K n l gs->bu K n l G
theorem mq.refl{g:GV}:mq g g:=fun _ _ _ h=>h
def mq.U{g:GV}:mq g .U:=fun _ _ _ _=>.U _
theorem mq.nil{k:Nat}:mq (.v (.slice none 0 0)) (.sl k []):=fun K l x h=>by
 rw[Rel.eE h];exact .sl0 _ _ _
theorem lC.nil:lC [] []:=fun _ _ _ h=>h
theorem lC.refl{gs:am}:lC gs gs:=fun _ _ _ h=>h
def lC.cons{g h:GV}{gs G:am}(o:mq g h)(c:lC gs G):lC (g::gs) (h::G):=fun K n l j=>by
 cases l with
 |nil=>grind
 |cons v l=>have⟨a,b⟩:=j.nE;exact .cons (o K n v a) (c K n l b)
def mq.agg{gs G:am}(h:lC gs G):mq (.agg gs) (.agg G):=fun K n x hx=>by
 cases hx with
 |agg l _ M i=>have⟨a,b⟩:=h K n l ⟨M,i⟩;exact .agg l G a b
def mq.tup{gs G:am}(h:lC gs G):mq (.tup gs) (.tup G):=fun K n x hx=>by
 cases hx with
 |tup l _ M i=>have⟨a,b⟩:=h K n l ⟨M,i⟩;exact .tup l G a b
inductive Tf:am->am->Prop
 |nil:Tf [] []
 |cons {f g:GV} {fs gs:am} (h:mq f g) (t:Tf fs gs):Tf (f::fs) (g::gs)
section
variable{P:Program}{m:Nat}{Q:dQ}{fr:am}{Γ:ap}{ops:Array Oper}{rest:List Oper}{d:Option Tmp}{op:Op}{ty:TypeId}{pos:String}{af:Array Edge}
theorem Wk.cells(i:Nat){E:TypeId}{cs ds:am}(hi:Γ[i]?=some (.box E cs))(h:lC cs ds):Wk m fr Γ fr (oset Γ i (.box E ds)):=fun B K o w l _ k O=>by
 rw[bD];refine⟨K,o,⟨k.ext,k.kle,k.ble,k.loc,k.fz,fun j x Y=>?_,fun j Y=>k.out j ze2,k.dis,k.own,k.kn,k.tab⟩,O⟩;rw[eR]at Y;split at Y
 ·rename_i S;split at Y
  ·cases Y;subst S
   have⟨b,n,q,c,G,C⟩:=k.ob i _ hi;exact⟨b,n,q,c,h K o n G,C⟩
  grind
 ·exact k.ob j x Y
def GL.I0{f:FuncId}[hf:fQ P f](bc:List Nat){args:List Operand}{T:Array TypeId}{gs:am}{F:ap}{R:GV->ap->Prop}(W:GC P f gs F R)(ha:lC (args.map (bf fr)) (iR (cr bc Γ.length) gs))(E:km bc Γ.length=true)
  (o:seen (cr bc Γ.length) Γ bc F)(h:∀g bE,R g bE->bc.length<=bE.length/\GL P m ops Q rest (bI fr d (dC (cr bc Γ.length) g)) (eC Γ bc (bE.map (Ob.dC (cr bc Γ.length))))) :
  GL P m ops Q (⟨d,.call ⟨.value (.func f),args.toArray,T⟩,ty,pos,af,none⟩::rest) fr Γ :=
 GL.calls (vs:=fun l=>args.map (ev l)) (fun K n w l O=>⟨ha K n _ (O.args args),by simp[execOp,resolve,ev,Deferred.ofValue,invoke,ou]⟩) E o W h
theorem GL.VX{f:FuncId}[hf:fQ P f](bc:List Nat){args:List Operand}{T:Array TypeId}{gs:am}{F C:ap}{g:GV}(W:GF P f gs F g C)(ha:lC (args.map (bf fr)) (iR (cr bc Γ.length) gs))(E:km bc Γ.length=true)
  (o:seen (cr bc Γ.length) Γ bc F)(M:Nat.ble bc.length C.length=true)(h:GL P m ops Q rest (bI fr d (dC (cr bc Γ.length) g)) (eC Γ bc (C.map (Ob.dC (cr bc Γ.length))))) :
  GL P m ops Q (⟨d,.call ⟨.value (.func f),args.toArray,T⟩,ty,pos,af,none⟩::rest) fr Γ :=
 GL.I0 bc W ha E o fun R bE ⟨q,b⟩=>by simp_all
end
section
variable{P:Program}{fr:am}{Γ:ap}{g:GV}
def K.bin{o:BinOp}{t k:TypeId}{x y:Operand}(h:D P (.binOp o t x y k) fr Γ g):D P (.binOp o t x y k) fr Γ g:=h
theorem K.ld{t:TypeId}{x:Operand}(h:D P (.load t x) fr Γ g):D P (.load t x) fr Γ g:=h
def K.TO{t:TypeId}{x:Operand}{i:Nat}(h:D P (.fieldAddr t x i) fr Γ g):D P (.fieldAddr t x i) fr Γ g:=h
theorem K.len{t:TypeId}{x:Operand}(h:D P (.call ⟨.builtin .len,#[x],#[t]⟩) fr Γ g):D P (.call ⟨.builtin .len,#[x],#[t]⟩) fr Γ g:=h
def K.nck{x:Operand}(h:D P (.nilCheck x) fr Γ g):D P (.nilCheck x) fr Γ g:=h
def K.idx{t:TypeId}{x y:Operand}(h:D P (.indexAddr t x y) fr Γ g):D P (.indexAddr t x y) fr Γ g:=h
theorem K.pick{a b c:Operand}(h:D P (.pick a b c) fr Γ g):D P (.pick a b c) fr Γ g:=h
def K.kF{t:TypeId}{x:Operand}{a b c:Option Operand}(h:D P (.slice t x a b c) fr Γ g):D P (.slice t x a b c) fr Γ g:=h
theorem K.A3{f:Fn}{a b:Array Operand}(h:D P (.makeFunc f a b) fr Γ g):D P (.makeFunc f a b) fr Γ g:=h
end
theorem GC.le{P:Program}{f:FuncId}{gs:am}{Γ bE:ap}{g R:GV}(h:GF P f gs Γ g bE)(hg:mq g R):GF P f gs Γ R bE:=fun B K n w l j i O =>
 (h B K n w l j i O).mono fun v Z ⟨S,u,x,k,o,b,G,C⟩=>by subst G;subst C;exact⟨S,u,R,_,o,hg _ _ _ b,rfl,rfl⟩
section
variable{P:Program}{fn:Func}{m:Nat}{fr:am}{Γ bE:ap}{e:Exit}{g:GV}
def wR{R:GV->ap->Prop}(h:oZ P fn m (fun x k=>∃y,mq x y/\R y k) e fr Γ):oZ P fn m R e fr Γ :=
 ⟨h.1,fun B K q w l n j O=>by
  have⟨v,S,u,x,k,o,b,G,y,C,i⟩:=h.2 B K q w l n j O
  exact⟨v,S,u,y,k,o,b,C _ _ _ G,i⟩⟩
end
section
variable{P:Program}{m:Nat}{Q:dQ}{fr:am}{Γ:ap}{ops:Array Oper}{rest:List Oper}{d:Option Tmp}{op:Op}{ty:TypeId}{pos:String}{af:Array Edge}
def GW.join{c y:Code}(K:am->ap->Prop)(o:GW P m c (bo (zj m K) Q) fr Γ)(b:∀fr Γ,K fr Γ->GW P m y Q fr Γ):GW P m c (bo (GW P m y Q) Q) fr Γ:=by
 refine o.mono fun e fr Γ J=>?_
 cases e with
 |normal=>have⟨s,v,l,N⟩:=J;exact GW.wk l (b _ _ N)
 |_=>exact J
def D.bM{x y:Operand}{t e:TypeId}{k:Nat}[o:lK P t e k]{rows:List am}{z:IntKind}{n:Int}{i:Nat}{r:am}(hx:bf fr x=.sl k rows)(B:bf fr y=.v (.int z n))(w:rows[i]?=some r)(hi:n=(i:Int)):D P (.indexAddr t x y) fr Γ (.box r 0):=by
 subst hi;exact D.eD hx B w
def iz:List am->Bool
 |[]=>true
 |r::rs=>nq r&&iz rs
theorem zW{rows:List am}(h:iz rows=true):nq rows.flatten=true:=by
 induction rows with
 |nil=>rfl
 |cons r rs O =>
  simp only[iz,aZ]at h
  have u:∀(a b:am),nq a=true->nq b=true->nq (a++b)=true:=by
   intro a
   induction a with
   |nil=>simp
   |cons x a S =>
    grind[nq]
  grind
theorem GL.app{s x:Operand}{t e k O:Nat}[hT:mO P t e k O]{i n fz:Nat}{rows news:List am}(hx:bf fr x=.sl k news)(hs:bf fr s=.vec i n)(Y:Γ[i]?=some (.vec e k fz rows))(hn:rows.length=n)(h1:iz news=true)(T:news.isEmpty=false)
  (hb:n+news.length<=9223372036854775807/\(n+news.length)*O<=140737488355328)
  (h:GL P m ops Q rest (bI fr d (.vec i (n+news.length))) (oset Γ i (.vec e k fz (rows++news)))) :
  GL P m ops Q (⟨d,.call ⟨.builtin .append,#[s,x],#[t,t]⟩,ty,pos,af,none⟩::rest) fr Γ:=fun B K β w l hm hI hF=>by
 subst hn
 have T:news≠[]:=by grind
 have⟨h0,xs,o1,o2,o3,o4,o5,o6⟩:=hI.ob i _ Y;have J:=hF.ev s;rw[hs]at J
 have Qr:ev l s=h0:=by
  generalize hv:ev l s=v at J
  cases J with
  |vec _ _ a c hh =>
   grind
 have N:=hF.ev x;rw[hx]at N;generalize LB:ev l x=v at N
 cases N with
 |sl0 a c k=>grind
 |sl b o c _ _ hr _ =>
  have G:gR k news:=fun r Lw=>by
   have⟨j,z⟩:=List.mem_iff_getElem?.1 Lw;refine⟨(hr j r z).1,fun g E=>?_⟩;have⟨q,hq⟩:=List.mem_iff_getElem?.1 E;exact(hI.fz _ _ _ ((hr j r z).2 q g hq)).1
  have C:∀(rows:List am)(o:Nat),(∀(j:Nat)r,rows[j]?=some r->r.length=k/\∀(q:Nat)g,r[q]?=some g->K b (o+j*k+q)=some g)->∀(q:Nat)g,rows.flatten[q]?=some g->K b (o+q)=some g:=by
   intro rows
   induction rows with
   |nil=>simp
   |cons r rows ih =>
    intro o h q g E;rw[flatten_cons]at E;have hl:=(h 0 r rfl).1
    by_cases hq:q<r.length
    ·rw[gA hq]at E;have:=(h 0 r rfl).2 q g E
     grind
    ·rw[hO ze4,hl]at E
     have:=ih (o+k) (fun j r' z=>by
      have:=h (j+1) r' ze2
      grind) (q-k) g E
     grind
  obtain⟨us,M,Ux⟩:=vF (K:=K) (β:=β) (H:=w.heap) (b:=b) news.flatten o (fun j g z=>by
   obtain⟨hp,u,hu,W⟩:=hI.fz _ _ _ (C news o (fun j r z=>hr j r z) j g z)
   exact⟨u,hu,W.pc hp⟩)
  have Qs:us.length=news.length*k:=by
   rw[M.1,List.length_flatten]
   have:∀(rows:List am),gR k rows->(rows.map List.length).sum=rows.length*k:=by
    intro rows
    induction rows with
    |nil=>simp
    |cons r rows ih =>
     grind[gR]
   grind
  refine WL.app (base:=0) (v:=h0) (n:=rows.length) (m:=news.length) (xs:=xs) (news:=us) Qr o2 LB Qs (fun j u z=>by grind[gb]) (M.lf (zW h1)) hb.1 hb.2 (bl _) ?_;intro v' w' F S Hh DT
  obtain⟨K',hK,LD,R⟩:=hI.grow Y o1 ⟨o2,o3⟩ (news:=news) (ns:=us) F S Hh M G T (fun b A o v ho hv=>by
   rcases DT with Z|Z
   ·exact Z.c hv (fun h=>h)
   ·have Hl:o<xs.length:=by rw[o2.1];exact Aj ho (sw k o6)
    have⟨b2,c2,wU,_,_,Lm⟩:=o2.cells.2 ze2
    have wv:b2=b:=by rw[wU]at A;cases A;rfl
    subst wv;have X:=Lm o xs[o] (by simp[Hl]);rw[gb,hv]at X;cases X;have⟨b3,c3,T9,_,_,Xl⟩:=F.cells.2 zfe
    have Ll:b3=b2:=by rw[T9,A]at Z;cases Z;rfl
    subst Ll
    rw[<-gb];grind)
  rw[<-bD]at R;refine h B K' _ w' _ hm R ((hF.mono hK LD).put d ?_);obtain⟨a,c,rfl⟩:=F.shape;exact .vec i _ a c ⟨_,_,bV,by simp,fun _=>by simp⟩
theorem Wk.A7{i o:Nat}{T:TypeId}{cs:am}(E k:Nat)(hi:Γ[i]?=some (.box T cs))(C:cs[o]?=some (.v (.slice none 0 0))):Wk m fr Γ fr (oset Γ i (.box T (bB cs o (.vec Γ.length 0)))++[.vec E k 0 []]):=fun B K u w l hm G O=>by
 have W:u Γ.length=.no:=G.out _ (a8 _);have A:i<Γ.length:=(b6 hi).1;have n:=G.Au (w':=w) (E:=E) (k:=k) (x:=.slice none 0 0) (xs:=[]) (rows:=[]) (Ext.refl w) (iw.nil w 0 E k) (fun b R=>by cases R) bu.nil (fun r X=>by cases X);have z:dJ u (fP u Γ.length (.gr (.slice none 0 0) ([]:List am).length)):=iT zfg;refine⟨K,_,⟨n.ext,n.kle,n.ble,n.loc,n.fz,fun j x s=>?_,fun j s=>n.out j ze9,n.dis,n.own,n.kn,n.tab⟩,O.mono (c6.refl K) z⟩
 by_cases t:j=i
 ·subst t;rw[gA ze9,bD,eR]at s;simp[A]at s;subst s;have⟨b,q,J,M,h3,N⟩:=n.ob j (.box T cs) ze2;refine⟨b,q,J,M,?_,N⟩
  have H:∀(q:List Value)(cs:am)(o:Nat),bu K (fP u Γ.length (.gr (.slice none 0 0) ([]:List am).length)) q cs->cs[o]?=some (.v (.slice none 0 0))->bu K (fP u Γ.length (.gr (.slice none 0 0) ([]:List am).length)) q (bB cs o (.vec Γ.length 0)):=by
   intro q
   induction q with
   |nil=>grind
   |cons v q Z =>
    intro cs o h C
    cases cs with
    |nil=>simp at C
    |cons c cs =>
     have⟨a1,F⟩:=h.nE
     cases o with
     |zero =>
      cases C;have Y:=Rel.eE a1;subst Y;exact .cons (.vec _ 0 none 0 ⟨_,_,bV,a8 _,fun _=>rfl⟩) F
     |succ o=>exact .cons a1 (Z cs o F ze2)
  grind
 ·refine n.ob j x ?_
  by_cases S:j<Γ.length
  ·rw[gA ze9,bD,eR,ab (fun e=>t e.symm)]at s
   grind
  grind[hO,bD]
theorem Wk.rm{i o j n E k fz:Nat}{T:TypeId}{cs:am}{rows:List am}(hi:Γ[i]?=some (.box T cs))(N:cs[o]?=some (.vec j n))(Xr:Nat.beq i j=false)(X:Γ[j]?=some (.vec E k fz rows))(hn:rows.length=n):Wk m fr Γ fr (oset (oset Γ j (.vec E k n rows)) i (.box T (bB cs o (.sl k rows)))):=fun B K A w l hm W hF=>by
 subst hn
 have Hm:i≠j:=by grind
 have⟨h0,xs,Z,o2,o3,o4,o5,o6⟩:=W.ob j _ X;have⟨C,hK,G,s⟩:=W.jJ X;rw[<-bD]at s;refine⟨C,A,⟨s.ext,s.kle,s.ble,s.loc,s.fz,fun q x u=>?_,fun q u=>s.out q ze9,s.dis,s.own,s.kn,s.tab⟩,hF.mono hK (dJ.refl A)⟩
 by_cases z:q=i
 ·subst z;have J:q<Γ.length:=(b6 hi).1;rw[bD,eR]at u;simp[bD,J]at u;subst u;have⟨b,t,h1,h2,h3,h4⟩:=s.ob q (.box T cs) ze9;refine⟨b,t,h1,h2,?_,h4⟩
  have gen:∀(t:List Value)(cs:am)(o:Nat),bu C A t cs->cs[o]?=some (.vec j rows.length)->bu C A t (bB cs o (.sl k rows)):=by
   intro t
   induction t with
   |nil=>grind
   |cons v t ih =>
    intro cs o h N
    cases cs with
    |nil=>simp at N
    |cons c cs =>
     have⟨a1,O⟩:=h.nE
     cases o with
     |zero =>
      cases N;refine .cons ?_ O
      cases a1 with
      |vec _ _ a c hh =>
       have⟨h',m',R,e2,e3⟩:=hh;rw[Z]at R;cases R;have S:=e3 rfl
       rcases o2.2 with⟨F,e6⟩|⟨g,cap,cu,F,_,_,M,_⟩
       ·have:rows=[]:=kQ e6;subst this;exact .sl0 _ _ _
       ·rw[F]at S;cases S;refine .sl g 0 _ k rows (fun j r Y=>⟨(o4 r (bN Y)).1,fun q g' H=>?_⟩) M;rw[dy];exact G _ g Z (by rw[F];rfl) _ g' (rN o4 Y H)
     |succ o=>exact .cons a1 (ih cs o O ze2)
  grind
 ·rw[bD,eR,ab (fun e=>z e.symm)]at u;exact s.ob q x u
end
class mY (P:Program) (t:TypeId) (k:outParam IntKind):Prop where
 und:P.underlying t=some (.int k)
class J3 (P:Program) (t:TypeId):Prop where
 und:∃e,P.underlying t=some (.slice e)/\P.underlying e=some (.int .u8)
theorem J3.mk'{P:Program}{t e:TypeId}(h:P.underlying t=some (.slice e))(k:P.underlying e=some (.int .u8)):J3 P t:=⟨e,h,k⟩
section
variable{P:Program}{m:Nat}{Q:dQ}{fr:am}{Γ:ap}{ops:Array Oper}{rest:List Oper}{d:Option Tmp}{op:Op}{ty:TypeId}{pos:String}{af:Array Edge}
def D.iq{x y:Operand}{t n:TypeId}{a b:Int}(hx:bf fr x=.v (.int .u8 a))(B:bf fr y=.v (.int .u8 b))(i:0<=a-b/\a-b<=255):D P (.binOp .sub t x y n) fr Γ (.v (.int .u8 (a-b))) :=
 D.v2 hx B fun l w h k d ty pos af=>by simp[execOp,eqGuard,h,k,binOp,Op.intArith,IntWalk.u8_in _ i]
def D.quo{x y:Operand}{t o:TypeId}{a b:Int}(hx:bf fr x=.v (ii a))(B:bf fr y=.v (ii b))(i:0<=a/\a<=9223372036854775807/\1<=b):D P (.binOp .quo t x y o) fr Γ (.v (ii (a / b))) :=
 D.v2 hx B fun l w h k d ty pos af=>by
  have n:b≠0:=by omega
  simp[execOp,eqGuard,h,k,binOp,Op.intDiv,n,IntWalk.i64_quo a b i]
def D.rem{x y:Operand}{t o:TypeId}{a b:Int}(hx:bf fr x=.v (ii a))(B:bf fr y=.v (ii b))(i:0<=a/\1<=b):D P (.binOp .rem t x y o) fr Γ (.v (ii (a%b))) :=
 D.v2 hx B fun l w h k d ty pos af=>by
  have n:b≠0:=by omega
  simp[execOp,eqGuard,h,k,binOp,Op.intDiv,n,IntWalk.rem_in a b i.1]
def D.jL{x:Operand}{s t:TypeId}{k k':IntKind}{a:Int}[R:mY P s k'][n:mY P t k](hx:bf fr x=.v (.int k' a))(o:k.wrap a=a):D P (.convert s t x) fr Γ (.v (.int k a)) :=
 D.v1 hx fun l w h d ty pos af=>by simp[execOp,h,convert,run_underlying R.und,run_underlying n.und,Conv.intToInt,o]
theorem D.str{x:Operand}{s t:TypeId}{l:ah}{rows:List am}[T:J3 P s][n:pW P t](hx:bf fr x=.sl 1 rows)(A:rows=l.map fun c=>[.v (.int .u8 (c.toNat:Int))]):D P (.convert s t x) fr Γ (.v (sv l)):=fun B K E w fl k O=>by
 subst A;have⟨e,q,i⟩:=T.und;have h:=O.ev x;rw[hx]at h;generalize C:ev fl x=v at h;refine⟨_,fun d ty pos af=>?_,.v _⟩
 have S:(convert s t v).run P w=.ok (sv l) w:=by
  generalize r:(l.map fun c=>[GV.v (.int .u8 (c.toNat:Int))])=rows at h
  cases h with
  |sl0 a c =>
   have:l=[]:=by simp_all
   subst this
   cases a with
   |none=>rw[run_convert_bytes_string w s t e none 0 c q i n.und];rfl
   |some a=>exact run_convert_bytes_back w s t e a c [] q i n.und (fun j Y=>by simp at Y)
  |sl b o c _ _ W _ =>
   have M:rows.length=l.length:=by grind
   rw[M];refine run_convert_bytes_back w s t e ⟨b,o,none⟩ c l q i n.und (fun j Y=>?_)
   have R:rows[j]?=some [GV.v (.int .u8 (l[j].toNat:Int))]:=by grind
   have⟨_,u,N,z⟩:=k.fz _ _ _ ((W j _ R).2 0 _ rfl)
   grind[pX,gb,Rel.eE]
 simp[execOp,C,S]
end
end Go.Xg
