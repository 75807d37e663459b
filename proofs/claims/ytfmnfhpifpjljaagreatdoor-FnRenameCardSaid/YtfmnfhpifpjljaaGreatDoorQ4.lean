/- Part 4 of proofs that are told in their last texts. -/
import Derived.Test.YtfmnfhpifpjljaaGreatDoorQ1
import Derived.WalkKit
open List (flatten_cons map_toArray)
set_option linter.unusedVariables false
set_option linter.unusedSimpArgs false
set_option linter.defProp false
set_option maxRecDepth 100000
namespace Go.Xw
open Go.RowKit
def nth:List Value->Nat->Value
 |[],_=>undef
 |v::_,0=>v
 |_::l,n+1=>nth l n
def fc:List Value->Nat->Value->List Value
 |[],_,_=>[]
 |_::l,0,v=>v::l
 |x::l,n+1,v=>x::fc l n v
def ev(l:List Value):Operand->Value
 |.tmp t=>nth l t
 |.const v=>v
 |.global g=>.pointer (some ⟨g,0,none⟩)
 |.func f=>.func (.func f) #[] #[]
def put(l:List Value)(d:Option Tmp)(v:Value):List Value :=
 match d with|some d=>fc l d v|none=>l
def iJ(l:List Value)(t:Nat):l.toArray.getD t undef=nth l t:=by
 induction l generalizing t with
 |nil=>simp[nth]
 |cons x l O =>
  cases t with
  |zero=>simp[nth]
  |succ t=>rw[nth,<-O];simp
def ym(l:List Value)(t:Nat)(v:Value):l.toArray.setIfInBounds t v=(fc l t v).toArray:=by
 have h:∀(l:List Value)t,fc l t v=l.set t v:=by
  intro l
  induction l with
  |nil=>intro t;rfl
  |cons x l O=>intro t;cases t with|zero=>rfl|succ t=>simp[fc,O]
 grind
def act(l:List Value):Act:=⟨l.toArray,[]⟩
theorem p8(l:List Value):(act l).eval=ev l:=by
 funext x;cases x<;>first|rfl|exact iJ l _
theorem qn(l:List Value)(d:Option Tmp)(v:Value):(act l).put d v=act (put l d v):=by
 cases d with
 |none=>rfl
 |some d=>simp only[act,Act.put,put];rw[ym]
abbrev mj:=Exit->List Value->World->Prop
def lift(Q:mj):Exit->Act->World->Prop:=fun e a w=>∃l,a=act l/\Q e l w
def W(P:Program)(c:Code)(Q:mj)(l:List Value)(w:World):Prop:=c.wp P (lift Q) (act l) w
def WL(P:Program)(ops:Array Oper)(Q:mj)(rest:List Oper)(l:List Value)(w:World):Prop :=
 wpList P ops (lift Q) rest (act l) w
def YP(next:List Value->World->Prop)(Q:mj):mj
 |.normal,l,w=>next l w
 |e,l,w=>Q e l w
def XG(id:Nat)(Q:mj):mj
 |.exit xp,l,w=>if xp=id then Q .normal l w else Q (.exit xp) l w
 |e,l,w=>Q e l w
section
variable{P:Program}{Q:mj}{l:List Value}{w:World}{ops:Array Oper}{rest:List Oper}
def W.seq{x y:Code}(h:W P x (YP (W P y Q) Q) l w):W P (.seq x y) Q l w:=by
 refine wp_seq (wp_mono h ?_);rintro e a w⟨l,rfl,J⟩
 cases e<;>first|exact J|exact⟨l,rfl,J⟩
theorem W.skip(h:Q .normal l w):W P .skip Q l w:=wp_skip ⟨l,rfl,h⟩
def W.exit{n:Nat}(h:Q (.exit n) l w):W P (.exit n) Q l w:=wp_exit ⟨l,rfl,h⟩
def W.ret(h:Q .ret l w):W P .ret Q l w:=wp_ret ⟨l,rfl,h⟩
theorem W.block{id:Nat}{c:Code}(h:W P c (XG id Q) l w):W P (.block id c) Q l w:=by
 refine wp_block (wp_mono h ?_);rintro e a w⟨l,rfl,J⟩
 cases e with
 |exit xp =>
  simp only[XG]at J
  grind[Exit.inBlock,lift,act]
 |normal=>exact⟨l,rfl,J⟩
 |goto _=>exact⟨l,rfl,J⟩
 |ret=>exact⟨l,rfl,J⟩
 |panic _=>exact⟨l,rfl,J⟩
 |outgrown=>exact⟨l,rfl,J⟩
def W.cond{c:Operand}{x y:Code}{t:Bool}(X:ev l c=.bool t)(M:t=true->W P x Q l w)(hf:t=false->W P y Q l w):W P (.cond c x y) Q l w:=by
 refine wp_cond_split (t:=t) (by rw[p8];exact X) M hf
theorem W.mono{c:Code}{Q':mj}(h:W P c Q l w)(J:∀e l w,Q e l w->Q' e l w):W P c Q' l w :=
 wp_mono h fun _ _ _ ⟨l,v,q⟩=>⟨l,v,J _ _ _ q⟩
def W.loop{c:Code}{i:Type}(B:i->Nat)(ack:i->List Value->World->Prop)(x:i)(r:ack x l w)
  (X:∀x l w,ack x l w->W P c (YP (fun v w'=>∃y,ack y v w'/\B y<B x) Q) l w):W P (.loop c) Q l w:=by
 have S:∀n x l w,B x=n->ack x l w->∀(b:Frame)(k:List Item)(O:List Frame),
   ∃e Z w',lift Q e Z w'/\Arrives P (lone (b.at (act l) (.code c::.inLoop c::k)) O w) b k O e Z w':=by
  intro n
  induction n using Nat.strongRecOn with
  |_ n u =>
   intro x l w t j b k O;have⟨e,q,d,J,T⟩:=X x l w j b (.inLoop c::k) O;obtain⟨z,rfl,J⟩:=J
   cases e with
   |normal =>
    have⟨y,s,R⟩:=J;have⟨Y,F,N,o,m⟩:=u (B y) (t ▸ R) y z d rfl s b k O;exact⟨Y,F,N,o,.of_steps (Steps.trans T (.one step_inLoop)) m⟩
   |exit id=>exact zaL
   |goto _=>exact zaL
   |ret=>exact zaL
   |panic H=>exact zaL
   |outgrown=>exact zaL
 intro b k O;have⟨e,Z,w',J,T⟩:=S _ x l w rfl r b k O;exact⟨e,Z,w',J,.of_steps (.one step_loop) T⟩
def W.region{id:Nat}{r:List Oper}(h:WL P r.toArray Q r l w):W P (.region id r.toArray false) Q l w :=
 wp_region_lit h
theorem WL.nil(h:Q .normal l w):WL P ops Q [] l w:=⟨l,rfl,h⟩
def WL.val{d:Option Tmp}{s:Op}{ty:TypeId}{G:String}{m:Array Edge}{v:Value}{w':World}
  (z:(execOp (ev l) ⟨d,s,ty,G,m,none⟩).run P w=.ok (.value v) w')
  (h:WL P ops Q rest (put l d v) w'):WL P ops Q (⟨d,s,ty,G,m,none⟩::rest) l w:=by
 refine wpList_plain rfl fun K i=>?_
 simp only[Oper.wp,p8,z,Oper.upon_value,qn];exact i _ _ h
def WL.skp{d:Option Tmp}{s:Op}{ty:TypeId}{G:String}{m:Array Edge}{w':World}
  (v:(execOp (ev l) ⟨d,s,ty,G,m,none⟩).run P w=.ok .skip w')
  (h:WL P ops Q rest (put l d undef) w'):WL P ops Q (⟨d,s,ty,G,m,none⟩::rest) l w:=by
 refine wpList_plain rfl fun K i=>?_
 simp only[Oper.wp,p8,v,Oper.upon_skip,qn];exact i _ _ h
def WL.gt{d:Option Tmp}{s:Op}{ty:TypeId}{G:String}{m:Array Edge}{g:Option (Nat × Bool)}
  (n:Region.wanted ⟨d,s,ty,G,m,g⟩ (yielded ops (act l).tmps)=true)
  (h:WL P ops Q (⟨d,s,ty,G,m,none⟩::rest) l w):WL P ops Q (⟨d,s,ty,G,m,g⟩::rest) l w:=by
 unfold WL wpList at *;rw[ak n];rw[ak zfw]at h;exact h
def WL.gf{d:Option Tmp}{s:Op}{ty:TypeId}{G:String}{m:Array Edge}{g:Option (Nat × Bool)}
  (n:Region.wanted ⟨d,s,ty,G,m,g⟩ (yielded ops (act l).tmps)=false)
  (h:WL P ops Q rest (put l d undef) w):WL P ops Q (⟨d,s,ty,G,m,g⟩::rest) l w:=by
 unfold WL wpList;rw[ae zff];show wpList P ops (lift Q) rest ((act l).put d undef) w;rw[qn];exact h
end
section
variable{next:List Value->World->Prop}{Q:mj}{l:List Value}{w:World}{id xp:Nat}
end
structure Ext(S:Nat->Prop)(w w':World):Prop where
 os:w'.os=w.os
 tape:w'.tape=w.tape
 output:w'.output=w.output
 size:w.heap.size<=w'.heap.size
 block:∀k,k<w.heap.size->¬S k->w'.heap[k]?=w.heap[k]?
abbrev gS:Nat->Prop:=fun _=>False
theorem Ext.refl{S:Nat->Prop}(w:World):Ext S w w:=⟨rfl,rfl,rfl,aY _,fun _ _ _=>rfl⟩
def Ext.trans{S:Nat->Prop}{a b c:World}(h:Ext S a b)(k:Ext S b c):Ext S a c :=
 ⟨k.os.trans h.os,k.tape.trans h.tape,k.output.trans h.output,jk h.size k.size,
  fun i j G=>(k.block i (BM j h.size) G).trans (h.block i j G)⟩
def Ext.step{G S:Nat->Prop}{a b c:World}(h:Ext G a b)(k:Ext S b c)(J:∀j,S j->a.heap.size<=j\/G j):Ext G a c :=
 ⟨k.os.trans h.os,k.tape.trans h.tape,k.output.trans h.output,jk h.size k.size,
  fun i m d=>(k.block i (BM m h.size) fun z=>by
   grind).trans (h.block i m d)⟩
theorem Ext.mono{S n:Nat->Prop}{a b:World}(h:Ext S a b)(G:∀k,k<a.heap.size->S k->n k):Ext n a b :=
 ⟨h.os,h.tape,h.output,h.size,fun i j c=>h.block i j fun x=>c (G i j x)⟩
def Ext.blk{S:Nat->Prop}{a b:World}(h:Ext S a b){k:Nat}{o:Obj}(j:a.heap[k]?=some o)(G:¬S k):b.heap[k]?=some o:=by
 rw[h.block k zff G,j]
def Mt{w:World}{b o:Nat}{cs:Array Value}{E:TypeId}{fz:Nat × Nat}{v:Value}(i:w.heap[b]?=some (.cells cs E fz))(j:cs[o]?=some v):w.cell? ⟨b,o,none⟩=some v:=by
 grind[World.cell?]
theorem Ext.below{a b:World}(h:Ext gS a b):Below a.heap.size a b:=⟨h.os,h.tape,h.output,h.size,fun k N=>h.block k N (fun x=>x)⟩
structure va(w w':World)(b:Nat)(o:Obj):Prop where
 fresh:b=w.heap.size
 size:w'.heap.size=b+1
 blk:w'.heap[b]?=some o
 ext:Ext gS w w'
def va.of(w:World)(o:Obj):va w (w.alloc o) w.heap.size o :=
 ⟨rfl,by simp,heap_alloc_new w o,⟨rfl,rfl,rfl,by simp,fun k N _=>Below.heap_alloc _ _ _ N⟩⟩
def yw:TypeDesc->Bool
 |.struct _=>true
 |.array _ _=>true
 |_=>false
class Ty (P:Program) (t:TypeId) (agg:outParam Bool) (k:outParam Nat):Prop where
 und:(P.underlying t).map yw=some agg
 siz:(P.info? t).map (·.size)=some k
class lX (P:Program) (t:TypeId) (e:outParam TypeId) (k:outParam Nat):Prop where
 und:P.underlying t=some (.slice e)
 siz:(P.info? e).map (·.size)=some k
class qG (P:Program) (t:TypeId):Prop where
 und:P.underlying t=some .string
def K9(P:Program)(s:TypeId)(i:Nat)(z:Nat)(k:Nat)(agg:Bool):Bool :=
 match P.underlying s with
 |some (.struct v)=>match v[i]? with
  |some f=>f.offset==z&&(match P.info? f.type with|some x=>x.size==k|none=>false)&&k != 0&&((P.underlying f.type).map yw==some agg)
  |none=>false
 |_=>false
class ed (P:Program) (s:TypeId) (i:Nat) (off:outParam Nat) (k:outParam Nat) (agg:outParam Bool):Prop where
 is:K9 P s i off k agg=true
section
variable{P:Program}{w:World}
theorem DP{t:TypeId}{agg:Bool}{k:Nat}[h:Ty P t agg k]:(isAgg t).run P w=.ok agg w:=by
 have⟨M,_⟩:=h
 cases T:P.underlying t with
 |none=>grind
 |some d =>
  rw[T]at M;unfold isAgg;rw[Sem.run_bind,run_underlying T w]
  cases d<;>simp_all[yw]
theorem iK{t:TypeId}{k:Nat}(h:(P.info? t).map (·.size)=some k):(sizeOf t).run P w=.ok k w:=by
 cases J:P.info? t with
 |none=>grind
 |some i=>simp[J]at h;simp[sizeOf,typeInfo,J,h]
theorem qH(b o n:Nat):(⟨b,o,none⟩:Addr).add n=⟨b,o+n,none⟩:=by
 simp[Addr.add]
theorem Gy{t:TypeId}[h:Ty P t false 1]{a:Addr}{v:Value}(j:w.cell? a=some v):(loadVar t a).run P w=.ok v w:=by
 unfold loadVar
 simp_all[Sem.run_bind,DP]
theorem km{t:TypeId}{k:Nat}[h:Ty P t true k]{b o:Nat}{vs:List Value}(M:vs.length=k)(m:∀j v,vs[j]?=some v->w.cell? ⟨b,o+j,none⟩=some v) :
  (loadVar t ⟨b,o,none⟩).run P w=.ok (.agg vs.toArray) w:=by
 unfold loadVar;rw[Sem.run_bind,DP (agg:=true) (k:=k)]
 have W:(loadCells ⟨b,o,none⟩ k).run P w=.ok vs.toArray w:=by
  grind[run_loadCells_list,qH]
 simp[iK h.siz,W]
end
def fL(P:Program)(l:List Value)(w:World)(s:Op)(v:Value):Prop :=
 ∀(d:Option Tmp)(n:TypeId)(G:String)(m:Array Edge),(execOp (ev l) ⟨d,s,n,G,m,none⟩).run P w=.ok (.value v) w
def WL.v{P:Program}{Q:mj}{l:List Value}{w:World}{c:Array Oper}{rest:List Oper}{d:Option Tmp}{s:Op}{ty:TypeId}{G:String}{m:Array Edge}{v:Value}
  (z:fL P l w s v)(h:WL P c Q rest (put l d v) w):WL P c Q (⟨d,s,ty,G,m,none⟩::rest) l w:=WL.val (z d ty G m) h
section
variable{P:Program}{l:List Value}{w:World}
theorem R.mv{x:Operand}:fL P l w (.move x) ((ev l x)):=fun d n G m=>by rfl
theorem R.lp{x:Operand}:fL P l w (.assign x) ((ev l x)):=fun d n G m=>by rfl
theorem R.pick{c a b:Operand}{t:Bool}(W:ev l c=.bool t):fL P l w (.pick c a b) ((if t then ev l a else ev l b)):=fun d n G m=>by simp[execOp,W,asBool]
theorem R.Eo{x:Operand}{a:Addr}(hx:ev l x=.pointer (some a)):fL P l w (.nilCheck x) ((.pointer (some a))):=fun d n G m=>by simp[execOp,hx]
theorem R.extract{x:Operand}{i:Nat}{vs:Array Value}{v:Value}(hx:ev l x=.tuple vs)(j:vs[i]?=some v):fL P l w (.extract x i) (v):=fun d n G m=>by simp[execOp,hx,Instr.extract,j]
theorem R.Cw{fn:Fn}{first c:Array Operand}:fL P l w (.makeFunc fn first c) ((.func fn (first.map (ev l)) (c.map (ev l)))):=fun d n G m=>by rfl
abbrev ab:=List UInt8
def sv(s:ab):Value:=.string ⟨s.toArray⟩
def toList_mk(s:ab):(⟨s.toArray⟩:ByteArray).toList=s:=by
 simp
theorem yX(s:ab):(⟨s.toArray⟩:ByteArray).size=s.length:=by
 rfl
def Mr(a b:ab):(⟨a.toArray⟩:ByteArray)++⟨b.toArray⟩=⟨(a++b).toArray⟩:=by
 rfl
theorem extract_mk(s:ab)(i j:Nat):(⟨s.toArray⟩:ByteArray).extract i j=⟨((s.take j).drop i).toArray⟩:=by
 apply ByteArray.ext
 grind[ByteArray.data_extract,Nat.add_sub_cancel',List.drop_eq_nil_of_le]
abbrev ii(n:Int):Value:=.int .i64 n
def C1{n:Int}(q : -9223372036854775808<=n)(c:n<=9223372036854775807):IntKind.i64.wrap n=n:=IntWalk.i64_in _ ⟨q,c⟩
def R.Rh{x:Operand}{t:TypeId}[n:qG P t]{s:ab}(hx:ev l x=sv s):fL P l w (.call ⟨.builtin .len,#[x],#[t]⟩) ((ii s.length)):=fun d q G m=>by simp[execOp,resolve,invoke,builtin,hx,sv,Builtin.len_,goInt,run_underlying n.und,yX]
def R.Lt{x:Operand}{t e:TypeId}{k:Nat}[q:lX P t e k]{a:Option Addr}{n c:Nat}(hx:ev l x=.slice a n c):fL P l w (.call ⟨.builtin .len,#[x],#[t]⟩) ((ii n)):=fun d r G m=>by simp[execOp,resolve,invoke,builtin,hx,Builtin.len_,goInt,run_underlying q.und]
theorem R.add{x y:Operand}{t k:TypeId}{a b:Int}(hx:ev l x=ii a)(B:ev l y=ii b)(q : -9223372036854775808<=a+b)(c:a+b<=9223372036854775807):fL P l w (.binOp .add t x y k) ((ii (a+b))):=fun d n G m=>by simp[execOp,eqGuard,hx,B,binOp,Op.intArith,C1 q c]
theorem R.sub{x y:Operand}{t k:TypeId}{a b:Int}(hx:ev l x=ii a)(B:ev l y=ii b)(q : -9223372036854775808<=a-b)(c:a-b<=9223372036854775807):fL P l w (.binOp .sub t x y k) ((ii (a-b))):=fun d n G m=>by simp[execOp,eqGuard,hx,B,binOp,Op.intArith,C1 q c]
def R.mul{x y:Operand}{t k:TypeId}{a b:Int}(hx:ev l x=ii a)(B:ev l y=ii b)(q : -9223372036854775808<=a*b)(c:a*b<=9223372036854775807):fL P l w (.binOp .mul t x y k) ((ii (a*b))):=fun d n G m=>by simp[execOp,eqGuard,hx,B,binOp,Op.intArith,C1 q c]
theorem R.cat{x y:Operand}{t k:TypeId}{a b:ab}(hx:ev l x=sv a)(B:ev l y=sv b)(q:a.length+b.length<=9223372036854775807):fL P l w (.binOp .add t x y k) ((sv (a++b))):=fun d n G m=>by
  have c:¬((((⟨a.toArray⟩:ByteArray).size+(⟨b.toArray⟩:ByteArray).size:Nat):Int)>IntKind.i64.max):=by
   grind[yX,IntKind.signed,IntKind.bits,IntKind.max]
  simp only[execOp,eqGuard,hx,B,binOp,sv,Op.stringOp,ae c,Mr];simp
theorem R.eq{x y:Operand}{t m:TypeId}{k:IntKind}{a b:Int}(hx:ev l x=.int k a)(B:ev l y=.int k b):fL P l w (.binOp .eql t x y m) ((.bool (a==b))):=fun d q G n=>by simp[execOp,eqGuard,hx,B,binOp,Op.intCmp]
theorem R.ne{x y:Operand}{t m:TypeId}{k:IntKind}{a b:Int}(hx:ev l x=.int k a)(B:ev l y=.int k b):fL P l w (.binOp .neq t x y m) ((.bool (a != b))):=fun d q G n=>by simp[execOp,eqGuard,hx,B,binOp,Op.intCmp]
theorem R.lt{x y:Operand}{t m:TypeId}{k:IntKind}{a b:Int}(hx:ev l x=.int k a)(B:ev l y=.int k b):fL P l w (.binOp .lss t x y m) ((.bool (decide (a<b)))):=fun d q G n=>by simp[execOp,eqGuard,hx,B,binOp,Op.intCmp]
theorem R.le{x y:Operand}{t m:TypeId}{k:IntKind}{a b:Int}(hx:ev l x=.int k a)(B:ev l y=.int k b):fL P l w (.binOp .leq t x y m) ((.bool (decide (a<=b)))):=fun d q G n=>by simp[execOp,eqGuard,hx,B,binOp,Op.intCmp]
theorem R.gt'{x y:Operand}{t m:TypeId}{k:IntKind}{a b:Int}(hx:ev l x=.int k a)(B:ev l y=.int k b):fL P l w (.binOp .gtr t x y m) ((.bool (decide (b<a)))):=fun d q G n=>by simp[execOp,eqGuard,hx,B,binOp,Op.intCmp]
theorem R.ge{x y:Operand}{t m:TypeId}{k:IntKind}{a b:Int}(hx:ev l x=.int k a)(B:ev l y=.int k b):fL P l w (.binOp .geq t x y m) ((.bool (decide (b<=a)))):=fun d q G n=>by simp[execOp,eqGuard,hx,B,binOp,Op.intCmp]
def R.mM{x y:Operand}{t k:TypeId}{a b:ab}(hx:ev l x=sv a)(B:ev l y=sv b):fL P l w (.binOp .eql t x y k) ((.bool (a==b))):=fun d n G m=>by simp only[execOp,eqGuard,hx,B,binOp,sv,Op.stringOp,toList_mk];simp
def R.mV{x y:Operand}{t k:TypeId}{a b:ab}(hx:ev l x=sv a)(B:ev l y=sv b):fL P l w (.binOp .neq t x y k) ((.bool (!(a==b)))):=fun d n G m=>by simp only[execOp,eqGuard,hx,B,binOp,sv,Op.stringOp,toList_mk];simp
theorem R.not{x:Operand}{t:TypeId}{b:Bool}(hx:ev l x=.bool b):fL P l w (.unOp .not t x) ((.bool (!b))):=fun d n G m=>by simp[execOp,hx,Op.unary]
theorem R.iQ{x y:Operand}{t:TypeId}[n:qG P t]{s:ab}{k:IntKind}{i:Nat}{c:UInt8}(hx:ev l x=sv s)(B:ev l y=.int k i)(W:s[i]?=some c):fL P l w (.index t x y) ((.int .u8 c.toNat)):=fun d q G m=>by
  have X:(⟨s.toArray⟩:ByteArray)[i]?=some c:=by
   grind[List.getElem?_eq_some_iff,yX,ByteArray.getElem_eq_getElem_data]
  simp[execOp,Instr.index,hx,B,asIntOf,run_underlying n.und,sv,X]
def R.R6{x:Operand}{t:TypeId}[n:qG P t]{s:ab}{lo hi:Option Operand}{i j:Nat}(hx:ev l x=sv s)
  (G:match lo with|some y=>∃k,ev l y=.int k i|none=>i=0)(Z:match hi with|some y=>∃k,ev l y=.int k j|none=>j=s.length)
  (q:i<=j)(c:j<=s.length):fL P l w (.slice t x lo hi none) ((sv ((s.take j).drop i))):=fun d r J m=>by
  have z:=yX s
  cases lo<;>cases hi<;>simp only at G Z
  ·subst G;subst Z;simp[execOp,Instr.sliceAt,Instr.slice,Instr.sliceBounds,hx,sv,run_underlying n.und,z,extract_mk]
  ·have⟨k,N⟩:=Z;subst G;simp[execOp,Instr.sliceAt,Instr.slice,Instr.sliceBounds,Instr.sliceBound,asIntOf,hx,N,sv,run_underlying n.und,z,extract_mk,c]
  ·have⟨k,N⟩:=G;subst Z;simp[execOp,Instr.sliceAt,Instr.slice,Instr.sliceBounds,Instr.sliceBound,asIntOf,hx,N,sv,run_underlying n.und,z,extract_mk,q]
  ·have⟨k,N⟩:=G;have⟨O,S⟩:=Z;simp[execOp,Instr.sliceAt,Instr.slice,Instr.sliceBounds,Instr.sliceBound,asIntOf,hx,N,S,sv,run_underlying n.und,z,extract_mk,q,c]
def R.ju{x y:Operand}{t e:TypeId}{k:Nat}[q:lX P t e k]{b o n c:Nat}{z:IntKind}{i:Nat}(hx:ev l x=.slice (some ⟨b,o,none⟩) n c)(B:ev l y=.int z i)(hi:i<n):fL P l w (.indexAddr t x y) ((.pointer (some ⟨b,o+i*k,none⟩))):=fun d r G m=>by
  simp[execOp,Instr.indexAt,hx,B,asIntOf,run_underlying q.und,hi,iK q.siz,qH]
theorem R.QK{x:Operand}{s:TypeId}{i z k:Nat}{agg:Bool}[n:ed P s i z k agg]{b o:Nat}(hx:ev l x=.pointer (some ⟨b,o,none⟩)):fL P l w (.fieldAddr s x i) ((.pointer (some ⟨b,o+z,none⟩))):=fun d t N r=>by
  have⟨n⟩:=n;unfold K9 at n;split at n
  ·rename_i v M;split at n
   ·rename_i f m;simp only[aI,beq_iff_eq,bne_iff_ne,ne_eq]at n;have⟨⟨⟨q,c⟩,G⟩,C⟩:=n;split at c
    ·rename_i x O
     have J:(P.info? f.type).map (·.size)=some k:=by grind
     simp[execOp,Instr.fieldAt,hx,run_underlying M,m,Instr.sureAddr,fieldPlace,iK J,G,qH,q]
    grind
   grind
  grind
def R.ld1{x:Operand}{t:TypeId}[n:Ty P t false 1]{a:Addr}{v:Value}(hx:ev l x=.pointer (some a))(j:w.cell? a=some v):fL P l w (.load t x) (v):=fun d q G m=>by simp[execOp,Instr.loadAt,hx,Instr.sureAddr,Gy j]
def R.ldN{x:Operand}{t:TypeId}{k:Nat}[q:Ty P t true k]{b o:Nat}{vs:List Value}(hx:ev l x=.pointer (some ⟨b,o,none⟩))(M:vs.length=k)
  (m:∀j v,vs[j]?=some v->w.cell? ⟨b,o+j,none⟩=some v):fL P l w (.load t x) ((.agg vs.toArray)):=fun d r G n=>by simp[execOp,Instr.loadAt,hx,Instr.sureAddr,km M m]
end
def jd(H:Array Obj)(b o:Nat):Option Value :=
 match H[b]? with
 |some (.cells c _ _)=>c[o]?
 |_=>none
theorem fS(w:World)(b o:Nat):w.cell? ⟨b,o,none⟩=jd w.heap b o:=by
 rfl
def E0{H:Array Obj}{b o:Nat}{v:Value}(h:jd H b o=some v):b<H.size:=by
 grind[jd,Array.getElem?_eq_some_iff]
def Ext.c{S:Nat->Prop}{w w':World}(hx:Ext S w w'){b o:Nat}{v:Value}(h:jd w.heap b o=some v)(G:¬S b):jd w'.heap b o=some v:=by
 unfold jd at *;rw[hx.block b (E0 (H:=w.heap) (by unfold jd;exact h)) G];exact h
theorem zP{H:Array Obj}{b o:Nat}{cs:Array Value}{E:TypeId}{fz:Nat × Nat}{v:Value}(i:H[b]?=some (.cells cs E fz))(j:cs[o]?=some v):jd H b o=some v:=by
 grind[jd]
def Ext.drew{S:Nat->Prop}(w:World):Ext S w w.drew:=⟨rfl,rfl,rfl,aY _,fun _ _ _=>rfl⟩
theorem R.ld{P:Program}{l:List Value}{w:World}{x:Operand}{t:TypeId}[n:Ty P t false 1]{b o:Nat}{v:Value}(hx:ev l x=.pointer (some ⟨b,o,none⟩))(j:jd w.heap b o=some v):fL P l w (.load t x) v:=R.ld1 hx (by grind[fS])
def R.XQ{P:Program}{l:List Value}{w:World}{x:Operand}{t:TypeId}{k:Nat}[n:Ty P t true k]{b o:Nat}{vs:List Value}(hx:ev l x=.pointer (some ⟨b,o,none⟩))(M:vs.length=k)
  (m:∀j v,vs[j]?=some v->jd w.heap b (o+j)=some v):fL P l w (.load t x) (.agg vs.toArray):=R.ldN hx M (fun j v h=>by grind[fS])
section
variable{H:Array Obj}{b o:Nat}{v0 v1 v2 v3 v4 v5:Value}
end
class qm (P:Program) (t:TypeId) (z:outParam Value):Prop where
 is:(P.info? t).bind (·.zero)=some z
structure uu(w w':World)(b:Nat)(cs:Array Value)(E:TypeId):Prop where
 blk:w'.heap[b]?=some (.cells cs E (0,0))
 ext:Ext (·=b) w w'
 size:w'.heap.size=w.heap.size
def setL(cs:Array Value)(o:Nat):List Value->Array Value
 |[]=>cs
 |v::r=>setL (cs.setIfInBounds o v) (o+1) r
def lS(vs:List Value):Bool:=vs.all (·.oneCell')
section
variable{P:Program}{w:World}
theorem Al{t:TypeId}{z:Value}[h:qm P t z]:(zeroValue t).run P w=.ok z w:=by
 have⟨h⟩:=h
 cases J:P.info? t with
 |none=>grind
 |some i=>simp[J]at h;simp[zeroValue,typeInfo,J,h]
theorem uu.refl{b:Nat}{cs:Array Value}{E:TypeId}(i:w.heap[b]?=some (.cells cs E (0,0))):uu w w b cs E:=⟨i,Ext.refl _,rfl⟩
def uu.trans{W Y:World}{b:Nat}{cs Z:Array Value}{E:TypeId}(h:uu w W b cs E)(k:uu W Y b Z E):uu w Y b Z E :=
 ⟨k.blk,h.ext.trans k.ext,k.size.trans h.size⟩
theorem uu.setCell{b o:Nat}{cs:Array Value}{E:TypeId}(i:w.heap[b]?=some (.cells cs E (0,0)))(v:Value) :
  uu w (w.setCell ⟨b,o,none⟩ v) b (cs.setIfInBounds o v) E :=
 ⟨heap_setCell_same w b o cs E v i,⟨rfl,rfl,rfl,by simp,fun k _ G=>heap_setCell_other w _ k v G⟩,by simp⟩
theorem vZ{b o:Nat}{E:TypeId}:∀(vs:List Value)(i:Nat)(w:World)(cs:Array Value),w.heap[b]?=some (.cells cs E (0,0))->o+i+vs.length<=cs.size->lS vs=true ->
  ∃w',(storeCells ⟨b,o,none⟩ vs i).run P w=.ok () w'/\uu w w' b (setL cs (o+i) vs) E
 |[],i,w,cs,j,_,_=>⟨w,by rfl,uu.refl j⟩
 |v::r,i,w,cs,j,M,q=>by
  simp only[lS,List.all_cons,aI]at q;simp only[List.length_cons]at M;have G:=uu.setCell (w:=w) (o:=o+i) j v;obtain⟨w',A,s⟩:=vZ (b:=b) (o:=o) (E:=E) r (i+1) _ _ G.blk zff q.2;refine⟨w',?_,G.trans (by grind[World.setCell,setL])⟩;have W:w.cell? ⟨b,o+i,none⟩=cs[o+i]?:=cell_of_row w b (o+i) cs E (0,0) j;have z:∃u,w.cell? ⟨b,o+i,none⟩=some u:=⟨cs[o+i]'zfh,by grind⟩;have⟨u,N⟩:=z;have m:w.frozen? ⟨b,o+i,none⟩=false:=frozen_of_row w b _ cs E j
  have c:(store ((⟨b,o,none⟩:Addr).add i) v).run P w=.ok () (w.setCell ⟨b,o+i,none⟩ v):=by
   rw[qH]
   cases v<;>first|(simp[Value.oneCell']at q;done)|simp[store,Sem.run,N,m]
  grind[Sem.run_bind,Result.andThen_ok,Sem.run,storeCells]
def Gz{t:TypeId}{agg:Bool}{k:Nat}[n:Ty P t agg k]{b o:Nat}{E:TypeId}{cs:Array Value}{v:Value}(i:w.heap[b]?=some (.cells cs E (0,0)))
  (M:v.cells.size=k)(A:o+k<=cs.size)(q:lS v.cells.toList=true) :
  ∃w',(storeVar t ⟨b,o,none⟩ v).run P w=.ok () w'/\uu w w' b (setL cs o v.cells.toList) E:=by
 have⟨w',z,G⟩:=vZ (P:=P) (o:=o) v.cells.toList 0 w cs i zff q;refine⟨w',?_,by omega⟩;simp[storeVar,iK n.siz,M,z]
end
def nd:List Value->Nat->List Value->List Value
 |cs,_,[]=>cs
 |cs,o,v::r=>nd (fc cs o v) (o+1) r
def qK(q:Nat->Option (Nat × Nat)):List Value->List (Nat × Value)->Option (List Value)
 |cs,[]=>some cs
 |cs,(i,v)::r=>match q i with
  |none=>none
  |some (o,k)=>if v.cells.size≠k ||decide (o+v.cells.size>cs.length)then none else qK q (nd cs o v.cells.toList) r
def AO:∀(vs:List Value)(cs:List Value)(o n:Nat),
  (vs.zipIdx n).foldl (fun(cs:Array Value)(x:Value × Nat)=>cs.setIfInBounds (o+x.2) x.1) cs.toArray=(nd cs (o+n) vs).toArray
 |[],cs,o,n=>by rfl
 |v::r,cs,o,n=>by
  simp only[List.zipIdx_cons,List.foldl_cons,ym,nd];rw[AO r];rfl
def xF(q:Nat->Option (Nat × Nat)):∀(parts:List (Nat × Value))(cs:List Value),
  Instr.fill q cs.toArray parts=(qK q cs parts).map List.toArray
 |[],cs=>by rfl
 |(i,v)::r,cs=>by
  simp only[Instr.fill,qK]
  cases W:q i with
  |none=>rfl
  |some x =>
   have⟨o,k⟩:=x;simp only[List.size_toArray];split
   ·rfl
   ·have h:(v.cells.zipIdx.foldl (fun(cs:Array Value)(x:Value × Nat)=>cs.setIfInBounds (o+x.2) x.1) cs.toArray)=(nd cs o v.cells.toList).toArray:=by
     have:=AO v.cells.toList cs o 0
     grind[Array.toList_zipIdx]
    have b:=xF q r (nd cs o v.cells.toList)
    grind
def TK(P:Program)(t:TypeId)(o:List (Nat × Nat)):Bool :=
 match P.underlying t with
 |some (.struct v)=>(v.toList.map fun f=>(f.offset,(P.info? f.type).map (·.size)))==o.map fun x=>(x.1,some x.2)
 |_=>false
class sd (P:Program) (t:TypeId) (pl:outParam (List (Nat × Nat))) (z:outParam (List Value)):Prop where
 is:TK P t pl=true
 zero:(P.info? t).bind (·.zero)=some (.agg z.toArray)
section
variable{P:Program}{w:World}
theorem Bu{v:List Field}:∀{o:List (Nat × Nat)},(v.map fun f=>(f.offset,(P.info? f.type).map (·.size)))=(o.map fun x=>(x.1,some x.2)) ->
  (List.mapM (m:=Sem) (fun(f:Field)=>Functor.map (Prod.mk f.offset) (sizeOf f.type)) v).run P w=.ok o w:=by
 induction v with
 |nil=>simp
 |cons f v O =>
  intro o h
  cases o with
  |nil=>simp at h
  |cons x o =>
   simp only[List.map_cons,List.cons.injEq,Prod.mk.injEq]at h;have⟨⟨q,b⟩,G⟩:=h;have:=O G;have e:=iK (w:=w) b
   simp_all
theorem run_build{t:TypeId}{o:List (Nat × Nat)}{z:List Value}[n:sd P t o z]{parts:List (Nat × Value)}{cs:List Value}(hf:qK (fun i=>o[i]?) z parts=some cs) :
  (Instr.build t parts.toArray).run P w=.ok (.agg cs.toArray) w:=by
 have⟨j,q⟩:=n
 have G:(zeroValue t).run P w=.ok (.agg z.toArray) w:=by
  haveI:qm P t (.agg z.toArray):=⟨q⟩
  exact Al
 unfold TK at j;split at j
 ·rename_i v M;have k:=Bu (P:=P) (w:=w) (eq_of_beq j)
  have e:(Array.mapM (m:=Sem) (fun(f:Field)=>Functor.map (Prod.mk f.offset) (sizeOf f.type)) v).run P w=.ok o.toArray w:=by
   simp_all[Array.mapM_eq_mapM_toList]
  have b:=xF (fun i=>o[i]?) parts z;rw[hf]at b;simp[Instr.build,Sem.run_bind,G,run_underlying M,e,Value.cells];simp[b]
 grind
end
section
variable{P:Program}{Q:mj}{l:List Value}{w:World}{ops:Array Oper}{rest:List Oper}{d:Option Tmp}{ty:TypeId}{pos:String}{af:Array Edge}
def Bv(t:TypeId)(v:Value):(newVar t v).run P w=.ok ⟨w.heap.size,0,none⟩ (w.alloc (.cells v.cells t)):=by
 rfl
def WL.alloc{t:TypeId}{z:Value}[n:qm P t z](h:∀b w',va w w' b (.cells z.cells t)->WL P ops Q rest (put l d (.pointer (some ⟨b,0,none⟩))) w') :
  WL P ops Q (⟨d,.alloc t,ty,pos,af,none⟩::rest) l w :=
 WL.val (w':=w.alloc (.cells z.cells t)) (by simp[execOp,Instr.alloc,Al (w:=w) (z:=z),Bv]) (h _ _ (va.of w _))
def WL.box{t:TypeId}{x:Operand}{v:Value}(hx:ev l x=v)(h:∀b w',va w w' b (.cells v.cells t)->WL P ops Q rest (put l d (.pointer (some ⟨b,0,none⟩))) w') :
  WL P ops Q (⟨d,.box t x,ty,pos,af,none⟩::rest) l w :=
 WL.val (w':=w.alloc (.cells v.cells t)) (by simp[execOp,Instr.box,Bv,hx]) (h _ _ (va.of w _))
def R.build{t:TypeId}{o:List (Nat × Nat)}{z:List Value}[n:sd P t o z]{parts:List (Nat × Operand)}{cs:List Value}
  (hf:qK (fun i=>o[i]?) z (parts.map fun x=>(x.1,ev l x.2))=some cs):fL P l w (.build t parts.toArray) (.agg cs.toArray):=fun d ty pos af=>by
  have v:=run_build (P:=P) (w:=w) (t:=t) hf;simp only[execOp,map_toArray];simp[v]
class od (P:Program) (t:TypeId) (e:outParam TypeId) (k:outParam Nat) (z:outParam (List Value)):Prop where
 und:P.underlying t=some (.slice e)
 siz:(P.info? e).map (·.size)=some k
 zero:(P.info? e).bind (·.zero)=some (if k=1 then z.headD undef else .agg z.toArray)
 zl:z.length=k
 pos:0<k
 one:k=1->(z.headD undef).cells=#[z.headD undef]
theorem od.cells{t e:TypeId}{k:Nat}{z:List Value}(h:od P t e k z):(if k=1 then z.headD undef else .agg z.toArray).cells=z.toArray:=by
 split
 ·rename_i N;rw[h.one N];have:=h.zl;rw[N]at this
  match z,this with
  |[a],_=>rfl
 ·rfl
theorem WL.Cx{t e:TypeId}{k:Nat}{z:List Value}[o:od P t e k z]{n:Nat}{parts:List (Nat × Operand)}{cs:List Value}(hn:n*k<=16777216)
  (hf:qK (fun i=>some (i*k,k)) ((List.range (n*k)).map fun j=>z.getD (j%k) undef) (parts.map fun x=>(x.1,ev l x.2))=some cs)
  (h:∀b w',va w w' b (.cells cs.toArray e)->WL P ops Q rest (put l d (.slice (some ⟨b,0,none⟩) n n)) w') :
  WL P ops Q (⟨d,.buildSlice t n parts.toArray,ty,pos,af,none⟩::rest) l w :=
 WL.val (w':=w.alloc (.cells cs.toArray e)) (by
  have r:(zeroValue e).run P w=.ok (if k=1 then z.headD undef else .agg z.toArray) w:=by
   haveI:qm P e (if k=1 then z.headD undef else .agg z.toArray):=⟨o.zero⟩
   exact Al
  have W:=o.cells;generalize(if k=1 then z.headD undef else .agg z.toArray:Value)=G at r W;have c:=xF (fun i=>some (i*k,k)) (parts.map fun x=>(x.1,ev l x.2)) ((List.range (n*k)).map fun j=>z.getD (j%k) undef);rw[hf]at c
  have m:¬(16777216<n*k):=by omega
  by_cases q:n*k=0
  ·have H:n=0:=by
    rcases Nat.mul_eq_zero.1 q with h|h
    ·exact h
    ·have:=o.pos;omega
   subst H;simp only[Nat.zero_mul,List.range_zero,List.map_nil]at c;simp only[execOp,map_toArray];have v:(Array.range 0)=#[]:=rfl;simp[Instr.buildSlice,run_underlying o.und,iK o.siz,v,c];rfl
  ·have s:(Array.range (n*k)).map (fun j=>z.toArray[j%z.toArray.size]!)=((List.range (n*k)).map fun j=>z.getD (j%k) undef).toArray:=by
    apply Array.ext';simp only[Array.toList_map,Array.toList_range];apply List.map_congr_left;intro j _;have O:=o.pos
    have N:j%k<z.length:=by rw[o.zl];exact Nat.mod_lt _ O
    rw[List.getD_eq_getElem?_getD,cK N];simp[o.zl]
    grind
   rw[<-s]at c;simp only[execOp,map_toArray];simp[Instr.buildSlice,run_underlying o.und,iK o.siz,m,q,r,W];simp only[List.size_toArray]at c;simp at c;simp[c]
   rfl) (h _ _ (va.of w _))
def WL.st{x y:Operand}{t:TypeId}{agg:Bool}{k:Nat}[n:Ty P t agg k]{b o:Nat}{E:TypeId}{cs:Array Value}{v:Value}(hx:ev l x=.pointer (some ⟨b,o,none⟩))(B:ev l y=v)
  (i:w.heap[b]?=some (.cells cs E (0,0)))(M:v.cells.size=k)(A:o+k<=cs.size)(q:lS v.cells.toList=true)
  (h:∀w',uu w w' b (setL cs o v.cells.toList) E->WL P ops Q rest (put l d undef) w'):WL P ops Q (⟨d,.store t x y,ty,pos,af,none⟩::rest) l w:=by
 have⟨w',z,G⟩:=Gz (P:=P) (t:=t) i M A q;exact WL.skp (w':=w') (by simp[execOp,Instr.storeAt,hx,B,Instr.sureAddr,z]) (h w' G)
end
def rv(P:Program)(f:FuncId):Bool :=
 match P.funcs[f]? with
 |some fn=>fn.name != "runtime.NumGoroutine" && fn.body.isSome
 |none=>false
class fX (P:Program) (f:FuncId):Prop where
 ok:rv P f=true
def pF(P:Program)(f:FuncId)(args:List Value)(w:World)(R:Value->World->Prop):Prop :=
 Calls P f args.toArray w fun e Z=>∃v,e=.returned v/\R v Z
theorem pF.mono{P:Program}{f:FuncId}{args:List Value}{w:World}{R b:Value->World->Prop}(h:pF P f args w R)(z:∀v w',R v w'->b v w'):pF P f args w b :=
 Calls.mono h fun _ _ ⟨v,e,r⟩=>⟨v,e,z _ _ r⟩
def oF{P:Program}{w:World}{f:FuncId}[h:fX P f](args:Array Value):(callFunc f args).run P w=.ok (.enter f args) w:=by
 have⟨h⟩:=h;unfold rv at h;split at h
 ·rename_i fn m;simp only[aI,bne_iff_ne,ne_eq]at h
  have b:fn.body.isNone=false:=by simp_all
  simp[callFunc,program,Sem.run,m,h.1,b]
  grind
 ·cases h
section
variable{P:Program}{Q:mj}{l:List Value}{w:World}{ops:Array Oper}{rest:List Oper}{d:Option Tmp}{ty:TypeId}{pos:String}{af:Array Edge}
def WL.calls{s:Op}{f:FuncId}{B1:List Value}(z:(execOp (ev l) ⟨d,s,ty,pos,af,none⟩).run P w=.ok (.enter f B1.toArray) w){R:Value->World->Prop}
  (W:pF P f B1 w R)(h:∀v w',R v w'->WL P ops Q rest (put l d v) w'):WL P ops Q (⟨d,s,ty,pos,af,none⟩::rest) l w:=by
 refine wpList_plain rfl fun K i=>?_
 simp only[Oper.wp,p8,z,Oper.upon_enter];refine Calls.mono W ?_;rintro e w'⟨v,rfl,j⟩;simp only[qn];exact i _ _ (h v w' j)
def WL.call{f:FuncId}[hf:fX P f]{args:List Operand}{T:Array TypeId}{B1:List Value}(ha:args.map (ev l)=B1){R:Value->World->Prop}
  (W:pF P f B1 w R)(h:∀v w',R v w'->WL P ops Q rest (put l d v) w'):WL P ops Q (⟨d,.call ⟨.value (.func f),args.toArray,T⟩,ty,pos,af,none⟩::rest) l w :=
 WL.calls (by simp[execOp,resolve,ev,Deferred.ofValue,invoke,oF,ha]) W h
end
def Gt:Nat->List Value
 |0=>[]
 |n+1=>undef::Gt n
def frame:List Value->Nat->List Value
 |[],n=>Gt n
 |a::r,n=>a::frame r (n-1)
def Ys(n:Nat):Gt n=List.replicate n undef:=by
 induction n with
 |zero=>rfl
 |succ n O=>grind[Gt]
def QM(args:List Value)(n:Nat):frame args n=args++List.replicate (n-args.length) undef:=by
 induction args generalizing n with
 |nil=>simp[frame,Ys]
 |cons a r O=>grind[frame,undef]
def KU(P:Program)(fn:Func)(R:Value->World->Prop):mj
 |.normal,l,w|.ret,l,w=>∃v,(results fn l.toArray).run P w=.ok v w/\R v w
 |_,_,_=>False
theorem pF.enter{P:Program}{f:FuncId}{fn:Func}{c:Code}{args:List Value}{w:World}{R:Value->World->Prop}{n:Nat}{l:List Value}
  (hf:P.funcs[f]?=some fn)(hn:fn.ntmps=n)(i:fn.body=some c)(M:frame args n=l)(h:W P c (KU P fn R) l w):pF P f args w R:=by
 subst M;refine calls_of_wp hf i ?_
 have C:(args.toArray++Array.replicate (fn.ntmps-args.toArray.size) undef)=(frame args n).toArray:=by
  simp[QM,hn]
 rw[C];refine wp_mono h ?_;rintro e a w⟨l,rfl,J⟩
 cases e<;>simp only[KU]at J<;>simp only[bodyPost]
 ·have⟨v,z,j⟩:=J;exact⟨rfl,v,z,v,rfl,j⟩
 ·have⟨v,z,j⟩:=J;exact⟨rfl,v,z,v,rfl,j⟩
def Wa(P:Program)(t e k m:Nat):Bool :=
 (match P.underlying t with|some (.slice b)=>b==e|_=>false) &&
 (match P.info? e with
  |some i=>(match i.zero with|some z=>z.cells.size==k|none=>false)&&i.size==k&&i.bytes==m
  |none=>false)&&k != 0
class nu (P:Program) (t:TypeId) (e:outParam TypeId) (k:outParam Nat) (by':outParam Nat):Prop where
 is:Wa P t e k by'=true
def nu.parts{P:Program}{t e k m:Nat}(h:nu P t e k m) :
  P.underlying t=some (.slice e)/\(∃i z,P.info? e=some i/\i.zero=some z/\z.cells.size=k/\i.size=k/\i.bytes=m)/\0<k:=by
 have⟨h⟩:=h;simp only[Wa,aI,bne_iff_ne,ne_eq]at h
 grind
abbrev iz(w:World)(base:Nat)(e k:Nat)(v:Value)(n:Nat)(xs:List Value):Prop:=w.ownsRow base e k v n xs
theorem iz.nil(w:World)(base e k:Nat):iz w base e k (.slice none 0 0) 0 []:=World.ownsRow_nil w base e k
def iz.ext{S:Nat->Prop}{w w':World}{base e k:Nat}{v:Value}{n:Nat}{xs:List Value}(h:iz w base e k v n xs)(hx:Ext S w w')(G:∀b,v.ownBlock=some b->¬S b):iz w' base e k v n xs:=by
 have⟨o,i⟩:=h;refine⟨o,?_⟩
 rcases i with i|⟨g,c,cur,rfl,j,X,r⟩
 ·grind
 ·exact .inr ⟨g,c,cur,rfl,j,hx.blk X (G g rfl),r⟩
theorem iz.lt{w:World}{base e k:Nat}{v:Value}{n:Nat}{xs:List Value}(h:iz w base e k v n xs){b:Nat}(j:v.ownBlock=some b):base<=b/\b<w.heap.size:=by
 have⟨o,c⟩:=h
 grind[Value.ownBlock,Option.some.injEq]
def iz.shape{w:World}{base e k:Nat}{v:Value}{n:Nat}{xs:List Value}(h:iz w base e k v n xs):∃a c,v=.slice a n c:=by
 have⟨o,b⟩:=h
 grind
def iz.base{w:World}{base b e k:Nat}{v:Value}{n:Nat}{xs:List Value}(h:iz w base e k v n xs)(j:b<=base):iz w b e k v n xs:=by
 have⟨o,i⟩:=h;refine⟨o,?_⟩
 rcases i with i|⟨g,c,cur,rfl,s,r⟩
 ·grind
 ·exact .inr ⟨g,c,cur,rfl,jk j s,r⟩
theorem iz.cells{w:World}{base e k:Nat}{v:Value}{n:Nat}{xs:List Value}(h:iz w base e k v n xs) :
  xs.length=n*k/\(xs≠[]->∃b c,v=.slice (some ⟨b,0,none⟩) n c/\base<=b/\b<w.heap.size/\∀j u,xs[j]?=some u->w.cell? ⟨b,j,none⟩=some u):=by
 have⟨o,m⟩:=h;refine⟨o,fun q=>?_⟩
 rcases m with⟨rfl,rfl⟩|⟨g,i,cur,rfl,r,X,t,s,z,M⟩
 ·grind
 grind[World.cell?]
def iz.Yc{w w':World}{b e k n:Nat}{cs:List Value}(h:va w w' b (.cells cs.toArray e))(M:cs.length=n*k)(j:n<=maxLen):iz w' w.heap.size e k (.slice (some ⟨b,0,none⟩) n n) n cs :=
 ⟨M,.inr ⟨b,n,cs.toArray,rfl,by rw[h.fresh];simp,h.blk,aY _,j,by omega,by grind⟩⟩
section
variable{P:Program}{Q:mj}{l:List Value}{w:World}{ops:Array Oper}{rest:List Oper}{d:Option Tmp}{ty:TypeId}{pos:String}{af:Array Edge}
theorem WL.app{s x:Operand}{t e k N:Nat}[hT:nu P t e k N]{base n m c b o:Nat}{xs news:List Value}{v:Value}(hs:ev l s=v)(r:iz w base e k v n xs)
  (hx:ev l x=.slice (some ⟨b,o,none⟩) m c)(hl:news.length=m*k)(abA:∀j u,news[j]?=some u->w.cell? ⟨b,o+j,none⟩=some u)(h1:lS news=true)
  (h63:n+m<=9223372036854775807)(J:(n+m)*N<=140737488355328)(O:base<=w.heap.size)
  (h:∀T w',iz w' base e k T (n+m) (xs++news)->Ext (fun b=>v.ownBlock=some b) w w'->(∀b,T.ownBlock=some b->v.ownBlock=some b\/w.heap.size<=b)->(Ext gS w w'\/T.ownBlock=v.ownBlock)->WL P ops Q rest (put l d T) w') :
  WL P ops Q (⟨d,.call ⟨.builtin .append,#[s,x],#[t,t]⟩,ty,pos,af,none⟩::rest) l w:=by
 have⟨X,⟨i,z,W,hz,NW,H,S6⟩,hk⟩:=hT.parts;have⟨T,w',hr,h2,Y,h4⟩:=run_append_own (P:=P) w base t ty e i z k N X W hz H S6 NW hk v n xs r ⟨b,o,none⟩ m c news hl
  (fun j u hj=>by grind[Addr.add]) (by grind[lS]) zfr J O
 have Z:Ext (fun b=>v.ownBlock=some b) w w':=⟨Y.os,Y.tape,Y.output,Y.size,fun j hj hn=>Y.block j hj fun he=>hn he.symm⟩
 have q:∀j u,news[j]?=some u->w.cell? ((⟨b,o,none⟩:Addr).add j)=some u:=fun j u hj=>by grind[Addr.add]
 have C:news.length=m*i.size:=by grind
 have M:(n+m)*i.bytes<=140737488355328:=by grind
 refine WL.val (v:=T) (w':=w') (by simp[execOp,resolve,invoke,builtin,hs,hx,hr]) (h T w' h2 Z ?_ ?_)
 ·intro b' Nz;have F:=r.2
  rcases F with⟨rfl,rfl⟩|⟨g,B,cur,rfl,S4,hg,Ds,ND,R,S⟩
  ·by_cases hm:m=0
   ·grind
   ·have G:=run_append_nil (P:=P) w t ty e i z X W hz ⟨b,o,none⟩ m c news C q zfh zfh zff
    exact zbU
  ·by_cases A:n+m<=B
   ·have G:=run_append_room (P:=P) w t ty e i X W g n B cur hg ⟨b,o,none⟩ m c news C q (by grind[lS]) A
     zfK
    exact zbU
   ·have E:∀j u,xs[j]?=some u->w.cell? ((⟨g,0,none⟩:Addr).add j)=some u:=World.ownsRow.cells (g:=g) r rfl;have G:=run_append_grow (P:=P) w t ty e i z X W hz ⟨g,0,none⟩ n B xs (by rw[H];exact r.1) E ⟨b,o,none⟩ m c news C q zfh zfh (growslice_fits zfh M)
    exact zbU
 ·have F:=r.2
  rcases F with⟨rfl,rfl⟩|⟨g,B,cur,rfl,S4,hg,Ds,ND,R,S⟩
  ·exact zbU
  ·by_cases A:n+m<=B
   ·have G:=run_append_room (P:=P) w t ty e i X W g n B cur hg ⟨b,o,none⟩ m c news C q (by grind[lS]) A
     zfK
    exact zbU
   ·have E:∀j u,xs[j]?=some u->w.cell? ((⟨g,0,none⟩:Addr).add j)=some u:=World.ownsRow.cells (g:=g) r rfl;have G:=run_append_grow (P:=P) w t ty e i z X W hz ⟨g,0,none⟩ n B xs (by rw[H];exact r.1) E ⟨b,o,none⟩ m c news C q zfh zfh (growslice_fits zfh M);rw[hr]at G;cases G;exact zdm
theorem WL.push{x s:Operand}{t e k J:Nat}{z:List Value}[hT:nu P t e k J][hZ:od P t e k z]{base n:Nat}{xs vs:List Value}{v val:Value}{G:Tmp}{PE:TypeId}{N:String}{R:Array Edge}
  (hx:ev l x=val)(hs:∀u,ev (put l (some G) u) s=v)(hd:∀u,ev (put l (some G) u) (.tmp G)=u)(hc:val.cells=vs.toArray)(hk:vs.length=k)(h1:lS vs=true)
  (M:iz w base e k v n xs)(T:n+1<=9223372036854775807)(B:(n+1)*J<=140737488355328)(abL:k<=16777216)(C:base<=w.heap.size)
  (h:∀u H w',iz w' base e k H (n+1) (xs++vs)->Ext (fun b=>v.ownBlock=some b) w w'->(∀b,H.ownBlock=some b->v.ownBlock=some b\/w.heap.size<=b)->(Ext gS w w'\/H.ownBlock=v.ownBlock)->WL P ops Q rest (put (put l (some G) u) d H) w') :
  WL P ops Q (⟨some G,.buildSlice t 1 #[(0,x)],PE,N,R,none⟩::⟨d,.call ⟨.builtin .append,#[s,.tmp G],#[t,t]⟩,ty,pos,af,none⟩::rest) l w:=by
 have hkp:=hZ.pos
 have sM:val.cells.size=k:=by grind
 have ace:∀(vs q:List Value),vs.length=q.length->nd q 0 vs=vs:=by
  have S:∀(vs o q:List Value),vs.length=q.length->nd (o++q) o.length vs=o++vs:=by
   intro vs
   induction vs with
   |nil=>grind[nd]
   |cons a r ih =>
    intro o q O
    cases q with
    |nil=>simp at O
    |cons c q =>
     have hu:fc (o++c::q) o.length a=o++a::q:=by
      clear O
      induction o with
      |nil=>rfl
      |cons p o Z=>simp[fc,Z]
     rw[nd,hu];have:=ih (o++[a]) q zff
     grind
  intro vs q O;exact S vs [] q O
 have E:qK (fun i=>some (i*k,k)) ((List.range (1*k)).map fun j=>z.getD (j%k) undef) ([((0:Nat),x)].map fun y=>(y.1,ev l y.2))=some vs:=by
  grind[qK,undef,ev]
 refine WL.Cx (n:=1) (parts:=[(0,x)]) zfh E ?_;intro b2 w2 A;have F:iz w2 base e k v n xs:=M.ext A.ext (fun _ _ h=>h);refine WL.app (base:=base) (v:=v) (n:=n) (xs:=xs) (news:=vs) (m:=1) (hs _) F (hd _) zfh (fun j u hj=>?_) h1 T B (jk C A.ext.size) ?_
 ·rw[dJ];exact Mt A.blk zff
 ·intro H w3 ho Y hb X;refine h _ H w3 ho ((A.ext.mono (fun _ _ h=>h.elim)).trans Y) (fun b W=>?_) (X.imp (fun h5=>A.ext.trans h5) id)
  rcases hb b W with h4|h4
  ·grind
  ·exact .inr (jk A.ext.size h4)
end
section
variable{P:Program}{ops:Array Oper}{S:Nat->Prop}
end
def rH:List Oper->Nat->Oper
 |[],_=>default
 |o::_,0=>o
 |_::r,n+1=>rH r n
theorem U7(s:List Oper)(i:Nat)(o:Oper)(h:s.toArray[i]?=some o):rH s i=o:=by
 have e:s[i]?=some o:=by grind
 clear h
 induction s generalizing i with
 |nil=>simp at e
 |cons x r O =>
  cases i with
  |zero=>grind[rH]
  |succ i=>grind[rH]
section
variable{P:Program}{ops:Array Oper}{S:Nat->Prop}{Q:mj}{l:List Value}{w:World}{r:List (Oper × Bool)}{d:Option Tmp}{op:Op}{ty:TypeId}{pos:String}{af:Array Edge}
end
def LP:IntKind->IntKind->Bool
 |.i8,.i8|.i16,.i16|.i32,.i32|.i64,.i64|.u8,.u8|.u16,.u16|.u32,.u32|.u64,.u64=>true
 |_,_=>false
def RM{a b:IntKind}(h:LP a b=true):a=b:=by cases a<;>cases b<;>first|rfl|cases h
def La(op:BinOp)(a b:Int):Option Value :=
 match op with
 |.eql=>some (.bool (a==b))
 |.neq=>some (.bool (a != b))
 |.lss=>some (.bool (decide (a<b)))
 |.leq=>some (.bool (decide (a<=b)))
 |.gtr=>some (.bool (decide (b<a)))
 |.geq=>some (.bool (decide (b<=a)))
 |_=>none
def Em(op:BinOp):Value->Value->Option Value
 |.int k a,.int N b=>match LP k N with
  |true=>La op a b
  |false=>none
 |_,_=>none
def wF(c:Op)(x:Value):Option Value :=
 match c with
 |.nilCheck _=>match x with
  |.pointer (some a)=>some (.pointer (some a))
  |_=>none
 |.unOp .not _ _=>match x with
  |.bool b=>some (.bool (!b))
  |_=>none
 |.extract _ i=>match x with
  |.tuple m=>m[i]?
  |_=>none
 |_=>none
def go(m:Operand->Value)(o:Op):Option Value :=
 match o with
 |.move x=>some (m x)
 |.assign x=>some (m x)
 |.makeFunc fn f c=>some (.func fn (f.map m) (c.map m))
 |.binOp op _ x y _=>Em op (m x) (m y)
 |.nilCheck x=>wF o (m x)
 |.unOp _ _ x=>wF o (m x)
 |.extract x _=>wF o (m x)
 |_=>none
section
variable{P:Program}{l:List Value}{w:World}
theorem UG{o:Op}{v:Value}(h:go (ev l) o=some v):fL P l w o v:=by
 unfold go at h;split at h
 ·grind[R.mv]
 ·grind[R.lp]
 ·grind[R.Cw]
 ·rename_i op t x y m;unfold Em at h;split at h
  ·rename_i k a O b hx B;split at h
   ·rename_i N;have:=RM N;subst this;unfold La at h
    grind[R.eq,R.ne,R.lt,R.le,R.gt',R.ge]
   ·cases h
  ·cases h
 ·unfold wF at h
  grind[R.Eo]
 ·rename_i op t x;unfold wF at h
  grind[R.not]
 ·unfold wF at h
  grind[R.extract]
 ·cases h
def R.jR{x y:Operand}{t k:TypeId}{a b:Nat}(hx:ev l x=ii a)(B:ev l y=ii b)(i:a+b<=9223372036854775807):fL P l w (.binOp .add t x y k) (ii ((a+b:Nat):Int)):=R.add hx B zfh zfh
def R.jK{x y:Operand}{t k:TypeId}{a:Nat}(hx:ev l x=ii a)(B:ev l y=ii 1)(i:a+1<=9223372036854775807):fL P l w (.binOp .add t x y k) (ii ((a+1:Nat):Int)):=R.add hx B zfh zfh
theorem R.TH{c a b:Operand}{t:Bool}(W:ev l c=.bool t)(M:t=true):fL P l w (.pick c a b) (ev l a):=by
 grind[R.pick]
theorem R.TG{c a b:Operand}{t:Bool}(W:ev l c=.bool t)(M:t=false):fL P l w (.pick c a b) (ev l b):=by
 grind[R.pick]
end
section
variable{P:Program}{Q:mj}{l:List Value}{w:World}{ops:Array Oper}{rest:List Oper}{d:Option Tmp}{op:Op}{ty:TypeId}{pos:String}{af:Array Edge}{v:Value}{S:Nat->Prop}{r:List (Oper × Bool)}
end
def uU(ops:List Oper)(l:List Value):Option (Nat × Bool)->Bool
 |none=>true
 |some (j,b)=>match(rH ops j).dst with
  |some t=>match nth l t with
   |.bool c=>c==b
   |_=>false
  |none=>false
def il{R:Type}:List R->Nat->Bool
 |[],_=>false
 |_::_,0=>true
 |_::r,n+1=>il r n
def AX{R:Type}:∀{l:List R}{n:Nat},il l n=true->n<l.length
 |[],_,h=>by cases h
 |_::_,0,_=>by simp
 |_::r,n+1,h=>by have:=AX (l:=r) (n:=n) h;grind
def sr:Option (Nat × Bool)->List Oper->List Value->Bool
 |some (j,_),ops,l=>il ops j&&(match(rH ops j).dst with
  |some t=>il l t&&(match nth l t with|.bool _=>true|.tuple _=>true|_=>false)
  |none=>false)
 |none,_,_=>true
def JI(s:List Oper)(j:Nat)(h:j<s.length):s.toArray[j]?=some (rH s j):=by
 grind[U7]
def Yb(l:List Value)(t:Nat)(h:t<l.length):l[t]?=some (nth l t):=by
 induction l generalizing t with
 |nil=>simp at h
 |cons x l O=>cases t with
  |zero=>rfl
  |succ t=>grind[nth]
theorem wg{ops:Array Oper}{d:Option Tmp}{op:Op}{ty:TypeId}{pos:String}{af:Array Edge}{gd:Option (Nat × Bool)}{l:List Value}(i:sr gd ops.toList l=true) :
  Region.wanted ⟨d,op,ty,pos,af,gd⟩ (yielded ops (act l).tmps)=uU ops.toList l gd:=by
 cases gd with
 |none=>rfl
 |some x =>
  have⟨j,b⟩:=x;simp only[sr,aI]at i;have⟨o,c⟩:=i;have Y:=JI ops.toList j (AX o);simp only[Array.toArray_toList]at Y;simp only[Region.wanted,uU,yielded,Y,Option.bind_some]
  cases T:(rH ops.toList j).dst with
  |none=>rfl
  |some t =>
   rw[T]at c;simp only[aI]at c;have M:=Yb l t (AX c.1);simp only[Option.bind_some,act]
   grind
def gv(ops:List Oper)(l:List Value)(gd:Nat × Bool):Option Bool :=
 match(rH ops gd.1).dst with
 |some t=>match nth l t with
  |.bool c=>some c
  |_=>none
 |none=>none
section
variable{ops:List Oper}{l:List Value}{gd:Nat × Bool}
theorem PT{c:Bool}(j:gv ops l gd=some c)(W:c=gd.2):uU ops l (some gd)=true:=by
 grind[gv,uU]
theorem PQ{c:Bool}(j:gv ops l gd=some c)(W:c=!gd.2):uU ops l (some gd)=false:=by
 grind[gv,uU]
theorem PU(j:gv ops l gd=none):uU ops l (some gd)=false:=by
 grind[gv,uU]
end
section
variable{P:Program}{Q:mj}{l:List Value}{w:World}{ops:Array Oper}{rest:List Oper}{d:Option Tmp}{op:Op}{ty:TypeId}{pos:String}{af:Array Edge}{v:Value}{S:Nat->Prop}{r:List (Oper × Bool)}{gd:Nat × Bool}
def GT{c:Bool}(i:sr (some gd) ops.toList l=true)(j:gv ops.toList l gd=some c)(W:c=gd.2)(h:WL P ops Q (⟨d,op,ty,pos,af,none⟩::rest) l w):WL P ops Q (⟨d,op,ty,pos,af,some gd⟩::rest) l w:=WL.gt ((wg i).trans (PT j W)) h
def GF{c:Bool}(i:sr (some gd) ops.toList l=true)(j:gv ops.toList l gd=some c)(W:c=!gd.2)(h:WL P ops Q rest (put l d undef) w):WL P ops Q (⟨d,op,ty,pos,af,some gd⟩::rest) l w:=WL.gf ((wg i).trans (PQ j W)) h
def GU(i:sr (some gd) ops.toList l=true)(j:gv ops.toList l gd=none)(h:WL P ops Q rest (put l d undef) w):WL P ops Q (⟨d,op,ty,pos,af,some gd⟩::rest) l w:=WL.gf ((wg i).trans (PU j)) h
end
def CC:Value->Bool
 |.agg _=>false
 |.tuple _=>false
 |_=>true
theorem l9{v:Value}(h:CC v=true):v.cells=#[v]/\v.oneCell'=true:=by
 cases v<;>first|exact⟨rfl,rfl⟩|cases h
end Go.Xw
namespace Go.Xg
open Go.RowKit Go.Xw
inductive GV where
 |v (x:Value)
 |U
 |agg (cs:List GV)
 |tup (cs:List GV)
 |sl (k:Nat) (rows:List (List GV))
 |box (cs:List GV) (o:Nat)
 |loc (i o:Nat)
 |vec (i n:Nat)
 |vp (i n k idx off:Nat)
 |arr (i o n:Nat)
 |fn (f:Fn) (first cap:List GV)
abbrev _root_.am:=List GV
instance:Inhabited GV:=⟨.U⟩
open GV (U)
abbrev y4(n:Int):GV:=.v (ii n)
abbrev y6:Value:=.slice none 0 0
def zU:Nat->am->am
 |0,l=>l
 |n+1,l=>U::zU n l
abbrev Fz:=Nat->Nat->Option GV
inductive Bk where
 |no
 |fix (b:Nat)
 |gr (h:Value) (m:Nat)
 |set (S:Nat->Prop)
def Bk.has:Bk->Nat->Prop
 |.no,_=>False
 |.fix b,c=>b=c
 |.gr h _,c=>h.ownBlock=some c
 |.set S,c=>S c
abbrev Bt:=Nat->Bk
def dm(K S:Fz):Prop:=∀b o g,K b o=some g->S b o=some g
def kE:Bk->Bk->Prop
 |.no,_=>True
 |.fix b,x=>x=.fix b
 |.set _,_=>True
 |.gr h m,x=>∃e W,x=.gr e W/\m<=W/\(W=m->e=h)
def dV(β gi:Bt):Prop:=∀i,kE (β i) (gi i)
theorem dm.refl(K:Fz):dm K K:=fun _ _ _ h=>h
def dm.trans{a b c:Fz}(h:dm a b)(k:dm b c):dm a c:=fun x y z m=>k x y z (h x y z m)
theorem kE.refl(x:Bk):kE x x:=by cases x with|no=>trivial|fix b=>rfl|gr h m=>grind[kE]|set S=>trivial
def kE.trans{a b c:Bk}(h:kE a b)(k:kE b c):kE a c:=by
 cases a with
 |no=>trivial
 |set S=>trivial
 |fix x=>cases h;exact k
 |gr x m =>
  grind[kE]
theorem dV.refl(β:Bt):dV β β:=fun i=>kE.refl _
def dV.trans{a b c:Bt}(h:dV a b)(k:dV b c):dV a c:=fun i=>(h i).trans (k i)
inductive Rel(K:Fz)(β:Bt):Value->GV->Prop
 |v (x:Value):Rel K β x (.v x)
 |U (x:Value):Rel K β x .U
 |agg (vs:List Value) (cs:am) (hl:vs.length=cs.length) (h:∀(i:Nat)v g,vs[i]?=some v->cs[i]?=some g->Rel K β v g):Rel K β (.agg vs.toArray) (.agg cs)
 |tup (vs:List Value) (cs:am) (hl:vs.length=cs.length) (h:∀(i:Nat)v g,vs[i]?=some v->cs[i]?=some g->Rel K β v g):Rel K β (.tuple vs.toArray) (.tup cs)
 |sl0 (a:Option Addr) (c k:Nat):Rel K β (.slice a 0 c) (.sl k [])
 |sl (b o c k:Nat) (rows:List am) (h:∀(i:Nat)r,rows[i]?=some r->r.length=k/\∀(j:Nat)g,r[j]?=some g->K b (o+i*k+j)=some g) (hc:rows.length<=c):Rel K β (.slice (some ⟨b,o,none⟩) rows.length c) (.sl k rows)
 |box (b o' o:Nat) (cs:am) (h:∀(j:Nat)g,cs[j]?=some g->K b (o'+j)=some g):Rel K β (.pointer (some ⟨b,o'+o,none⟩)) (.box cs o)
 |loc (i o b:Nat) (h:β i=.fix b):Rel K β (.pointer (some ⟨b,o,none⟩)) (.loc i o)
 |vec (i n:Nat) (a:Option Addr) (c:Nat) (h:∃h m,β i=.gr h m/\n<=m/\(m=n->.slice a n c=h)):Rel K β (.slice a n c) (.vec i n)
 |vp (i n k idx off:Nat) (x:Value) (h:∃h m,β i=.gr h m/\n<=m/\(m=n->∃b,h.ownBlock=some b/\x=.pointer (some ⟨b,idx*k+off,none⟩))):Rel K β x (.vp i n k idx off)
 |arr (i o n b c:Nat) (h:β i=.fix b):Rel K β (.slice (some ⟨b,o,none⟩) n c) (.arr i o n)
 |fn (f:Fn) (xs ys:List Value) (first cap:am) (hl:xs.length=first.length) (hl':ys.length=cap.length) (h:∀(i:Nat)v g,xs[i]?=some v->first[i]?=some g->Rel K β v g)
   (h':∀(i:Nat)v g,ys[i]?=some v->cap[i]?=some g->Rel K β v g):Rel K β (.func f xs.toArray ys.toArray) (.fn f first cap)
theorem Rel.mono{K N:Fz}{β gi:Bt}{x:Value}{g:GV}(h:Rel K β x g)(O:dm K N)(u:dV β gi):Rel N gi x g:=by
 induction h with
 |v x=>exact .v x
 |U x=>exact .U x
 |agg M d l h q=>exact .agg M d l q
 |tup M d l h q=>exact .tup M d l q
 |sl0 a c k=>exact .sl0 a c k
 |sl b o c k s h Y=>exact .sl b o c k s (fun i r Q=>⟨(h i r Q).1,fun j g E=>O _ _ _ ((h i r Q).2 j g E)⟩) Y
 |box b o' o d h=>exact .box b o' o d fun j g E=>O _ _ _ (h j g E)
 |loc i o b h=>exact .loc i o b (by have:=u i;rw[h]at this;exact this)
 |vec i n a c h =>
  have⟨R,m,A,S,T⟩:=h;have e:=u i;rw[A]at e;have⟨t,H,C,W,X⟩:=e;exact .vec i n a c ⟨t,H,C,by omega,fun Z=>by grind⟩
 |vp i n k idx J x h =>
  have⟨R,m,A,S,T⟩:=h;have e:=u i;rw[A]at e;have⟨t,H,C,W,X⟩:=e;exact .vp i n k idx J x ⟨t,H,C,by omega,fun Z=>by grind⟩
 |arr i o n b c h=>exact .arr i o n b c (by have:=u i;rw[h]at this;exact this)
 |fn f xs ys first z l F h t q G=>exact .fn f xs ys first z l F q G
def GV.pc:GV->Bool
 |.v _=>true
 |.sl _ _=>true
 |.box _ _=>true
 |_=>false
theorem Rel.pc{K:Fz}{β gi:Bt}{x:Value}{g:GV}(h:Rel K β x g)(X:g.pc=true):Rel K gi x g:=by
 cases h<;>first|(cases X;done)|skip
 ·exact .v _
 ·exact .sl0 _ _ _
 ·rename_i h W;exact .sl _ _ _ _ _ h W
 ·rename_i h;exact .box _ _ _ _ h
def GV.one:GV->Bool
 |.v x=>CC x
 |.U=>false
 |.agg _=>false
 |.tup _=>false
 |.vp _ _ _ _ _=>false
 |_=>true
theorem Rel.one{K:Fz}{β:Bt}{x:Value}{g:GV}(h:Rel K β x g)(A:g.one=true):CC x=true:=by
 cases h<;>first|exact A|rfl|(cases A;done)
abbrev bF(K:Fz)(β:Bt)(vs:List Value)(gs:am):Prop:=vs.length=gs.length/\∀(i:Nat)v g,vs[i]?=some v->gs[i]?=some g->Rel K β v g
theorem bF.mono{K S:Fz}{β gi:Bt}{vs:List Value}{gs:am}(h:bF K β vs gs)(N:dm K S)(j:dV β gi):bF S gi vs gs:=⟨h.1,fun i v g o b=>(h.2 i v g o b).mono N j⟩
theorem bF.nil{K:Fz}{β:Bt}:bF K β [] []:=⟨rfl,fun i v g h=>by simp at h⟩
def bF.cons{K:Fz}{β:Bt}{v:Value}{g:GV}{vs:List Value}{gs:am}(h:Rel K β v g)(G:bF K β vs gs):bF K β (v::vs) (g::gs):=by
 grind
def bF.oI{K:Fz}{β:Bt}{v:Value}{g:GV}{vs:List Value}{gs:am}(h:bF K β (v::vs) (g::gs)):Rel K β v g/\bF K β vs gs :=
 ⟨h.2 0 v g rfl rfl,by grind,fun i x y o b=>h.2 (i+1) x y o b⟩
def bF.app{K:Fz}{β:Bt}{vs us:List Value}{gs G:am}(h:bF K β vs gs)(k:bF K β us G):bF K β (vs++us) (gs++G):=by
 grind
def bF.at{K:Fz}{β:Bt}{vs:List Value}{gs:am}(h:bF K β vs gs){i:Nat}{g:GV}(hg:gs[i]?=some g):∃v,vs[i]?=some v/\Rel K β v g:=by
 have j:i<vs.length:=by grind
 exact⟨vs[i],by simp[j],h.2 i _ g zfJ hg⟩
def bF.take{K:Fz}{β:Bt}{vs:List Value}{gs:am}(h:bF K β vs gs)(n:Nat):bF K β (vs.take n) (gs.take n):=by
 grind
def bF.drop{K:Fz}{β:Bt}{vs:List Value}{gs:am}(h:bF K β vs gs)(n:Nat):bF K β (vs.drop n) (gs.drop n):=by
 grind
def bD:am->Nat->GV
 |[],_=>.U
 |g::_,0=>g
 |_::l,n+1=>bD l n
def bJ:am->Nat->GV->am
 |[],_,_=>[]
 |_::l,0,g=>g::l
 |x::l,n+1,g=>x::bJ l n g
def bf(l:am):Operand->GV
 |.tmp t=>bD l t
 |.const v=>.v v
 |.global g=>.v (.pointer (some ⟨g,0,none⟩))
 |.func f=>.v (.func (.func f) #[] #[])
def bX(l:am)(d:Option Tmp)(g:GV):am:=match d with|some d=>bJ l d g|none=>l
inductive FR(K:Fz)(β:Bt):am->List Value->Prop
 |nil:FR K β [] []
 |cons {g:GV} {v:Value} {gs:am} {vs:List Value} (h:Rel K β v g) (t:FR K β gs vs):FR K β (g::gs) (v::vs)
theorem FR.mono{K S:Fz}{β gi:Bt}{gs:am}{vs:List Value}(h:FR K β gs vs)(N:dm K S)(i:dV β gi):FR S gi gs vs:=by
 induction h with
 |nil=>exact .nil
 |cons h t O=>exact .cons (h.mono N i) O
theorem FR.nth{K:Fz}{β:Bt}{gs:am}{vs:List Value}(h:FR K β gs vs)(t:Nat):Rel K β (nth vs t) (bD gs t):=by
 induction h generalizing t with
 |nil=>exact .U _
 |cons h _ O=>cases t with|zero=>exact h|succ t=>exact O t
theorem FR.ev{K:Fz}{β:Bt}{gs:am}{vs:List Value}(h:FR K β gs vs)(x:Operand):Rel K β (ev vs x) (bf gs x):=by
 cases x with
 |tmp t=>exact h.nth t
 |const v=>exact .v _
 |global g=>exact .v _
 |func f=>exact .v _
theorem FR.fc{K:Fz}{β:Bt}{gs:am}{vs:List Value}(h:FR K β gs vs)(t:Nat){v:Value}{g:GV}(j:Rel K β v g):FR K β (bJ gs t g) (fc vs t v):=by
 induction h generalizing t with
 |nil=>exact .nil
 |cons h M O=>cases t with|zero=>exact .cons j M|succ t=>exact .cons h (O t)
def FR.put{K:Fz}{β:Bt}{gs:am}{vs:List Value}(h:FR K β gs vs)(d:Option Tmp){v:Value}{g:GV}(j:Rel K β v g):FR K β (bX gs d g) (put vs d v):=by
 cases d with|none=>exact h|some d=>exact h.fc d j
theorem FR.args{K:Fz}{β:Bt}{gs:am}{vs:List Value}(h:FR K β gs vs)(xs:List Operand):bF K β (xs.map (Xw.ev vs)) (xs.map (bf gs)):=by
 induction xs with
 |nil=>exact .nil
 |cons x xs O=>exact .cons (h.ev x) O
inductive Ob where
 |gone
 |box (E:TypeId) (cs:am)
 |vec (E:TypeId) (k fz:Nat) (rows:List am)
 |vech (E:TypeId) (k:Nat) (rows:List am) (x:Value)
 |lost
 |blk (b:Nat) (p:Obj->Prop)
 |blob (p:(Nat->Option Obj)->Prop)
abbrev _root_.ap:=List Ob
instance:Inhabited Ob:=⟨.gone⟩
def oa(K:Fz)(w:World):Prop:=∀b o g,K b o=some g->g.pc=true/\∃v,jd w.heap b o=some v/\Rel K (fun _=>.no) v g
def gE(k:Nat)(rows:List am):Prop:=∀r∈rows,r.length=k/\∀g∈r,g.pc=true
def hO(K:Fz)(β:Bt)(w:World)(i:Nat):Ob->Prop
 |.gone=>β i=.no
 |.box E O=>∃b l,β i=.fix b/\w.heap[b]?=some (.cells l.toArray E (0,0))/\bF K β l O/\∀o,K b o=none
 |.vec E k S H=>∃h X,β i=.gr h H.length/\iz w 0 E k h H.length X/\bF K β X H.flatten/\gE k H /\
   (∀b,h.ownBlock=some b->(∀o,S*k<=o->K b o=none)/\∀o g,o<S*k->H.flatten[o]?=some g->K b o=some g)/\S<=H.length
 |.vech E k H x=>∃X,β i=.gr x H.length/\iz w 0 E k x H.length X/\bF K β X H.flatten/\gE k H/\∀b,x.ownBlock=some b->∀o,K b o=none
 |.lost=>∀b,(β i).has b->b<w.heap.size
 |.blk b p=>β i=.fix b/\(∃o,w.heap[b]?=some o/\p o)/\∀o,K b o=none
 |.blob p=>∃h:Nat->Option Obj,β i=.set (fun b=>(h b).isSome=true)/\(∀b o,h b=some o->w.heap[b]?=some o/\∀j,K b j=none)/\p h
def vP:List Int:=(List.range 20).map fun i=>((10^i:Nat):Int)
def v7:List Int:=(List.range 256).map fun i=>if i=9\/i=10\/i=11\/i=12\/i=13\/i=32 then 1 else 0
def zI(m:Int):Fz:=fun b o =>
 if b=0 then(match o with|0=>some (.v (.int .i64 m))|_=>none)
 else if b=3 then vP[o]?.map fun z=>.v (.int .u64 z)
 else if b=1 then v7[o]?.map fun z=>.v (.int .u8 z)
 else none
def tB(w:World)(b n:Nat):Prop:=∃O E z,w.heap[b]?=some (.cells O E z)/\O.size=n
theorem tB.lt{w:World}{b n:Nat}(h:tB w b n):b<w.heap.size:=by have⟨O,E,z,h,_⟩:=h;grind
structure mJ(K:Fz)(β:Bt)(w:World):Prop where
 le:∃m,dm (zI m) K
 pow:tB w 3 20
 spc:tB w 1 256
 free:∀i b,(β i).has b->b≠3/\b≠1
def mJ.step{S:Nat->Prop}{K T:Fz}{β gi:Bt}{w w':World}(h:mJ K β w)(hx:Ext S w w')(Q:∀b,S b->∃i,(β i).has b)(N:dm K T)(t:∀i b,(gi i).has b->(∃j,(β j).has b)\/w.heap.size<=b):mJ T gi w':=by
 have⟨⟨m,o⟩,c,H,C⟩:=h
 have R:∀{b n:Nat},tB w b n->¬S b->tB w' b n:=fun⟨O,E,z,a,e⟩d=>⟨O,E,z,hx.blk a d,e⟩
 refine⟨⟨m,o.trans N⟩,R c (fun G=>?_),R H (fun G=>?_),fun i b k=>?_⟩
 ·grind
 ·grind
 ·rcases t i b k with⟨j,Y⟩|G
  ·grind
  ·have:=c.lt;omega
structure Bs where
 w0:World
 foot:Nat->Prop
 K0:Fz
 β0:Bt
 m:Nat
structure Inv(B:Bs)(K:Fz)(β:Bt)(Γ:ap)(w:World):Prop where
 ext:Ext B.foot B.w0 w
 kle:dm B.K0 K
 ble:dV B.β0 β
 loc:∀i,B.m<=i->B.β0 i=.no
 fz:oa K w
 ob:∀i x,Γ[i]?=some x->hO K β w i x
 out:∀i,Γ.length<=i->β i=.no
 dis:∀i j b,(β i).has b->(β j).has b->i=j
 own:∀i b,(β i).has b->B.foot b\/B.w0.heap.size<=b
 kn:∀b o g,K b o=some g->B.K0 b o=some g\/B.foot b\/B.w0.heap.size<=b
 tab:mJ K β w
section
variable{B:Bs}{K:Fz}{β:Bt}{Γ:ap}{w:World}
theorem hO.lt{i:Nat}{x:Ob}(h:hO K β w i x){b:Nat}(j:(β i).has b):b<w.heap.size:=by
 cases x with
 |gone=>simp only[hO]at h;rw[h]at j;cases j
 |box E O =>
  have⟨A,l,q,c,_⟩:=h;rw[q]at j;cases j
  grind
 |vec E k S H =>
  have⟨e,X,q,c,_⟩:=h;rw[q]at j;exact(c.lt j).2
 |vech E k H x =>
  have⟨X,q,c,_⟩:=h;rw[q]at j;exact(c.lt j).2
 |lost=>exact h b j
 |blk A p =>
  have⟨q,⟨o,c,_⟩,_⟩:=h;rw[q]at j;cases j
  grind
 |blob p =>
  have⟨g,q,c,_⟩:=h;rw[q]at j;have⟨o,C⟩:=Option.isSome_iff_exists.1 j
  grind
theorem Inv.lt(h:Inv B K β Γ w){i b:Nat}(j:(β i).has b):b<w.heap.size:=by
 by_cases k:i<Γ.length
 ·exact(h.ob i Γ[i] (by simp[k])).lt j
 ·rw[h.out i zfh]at j;cases j
theorem oa.lt(h:oa K w){b o:Nat}{g:GV}(hg:K b o=some g):b<w.heap.size:=by
 have⟨_,v,j,_⟩:=h b o g hg;exact E0 j
def blocks(β:Bt):Nat->Prop:=fun b=>∃i,(β i).has b
def cur(K:Fz)(β:Bt)(Γ:ap)(w:World):Bs:=⟨w,blocks β,K,β,Γ.length⟩
def Inv.here(h:Inv B K β Γ w):Inv (cur K β Γ w) K β Γ w :=
 ⟨Ext.refl w,dm.refl K,dV.refl β,h.out,h.fz,h.ob,h.out,h.dis,fun i b j=>.inl ⟨i,j⟩,fun _ _ _ h=>.inl h,h.tab⟩
def Inv.O6{S:Fz}{gi:Bt}{bM Γ0:ap}{w':World}(h:Inv B K β Γ w)(k:Inv (cur K β Γ0 w) S gi bM w'):Inv B S gi bM w' :=
 ⟨h.ext.step k.ext (fun j Y=>by have⟨i,m⟩:=Y;exact(h.own i j m).symm),h.kle.trans k.kle,h.ble.trans k.ble,h.loc,k.fz,k.ob,k.out,k.dis,
  fun i b l=>by
   rcases k.own i b l with q|q
   ·have⟨j,Y⟩:=q;exact h.own j b Y
   ·exact .inr (jk h.ext.size q),
  fun b o g X=>by
   rcases k.kn b o g X with q|⟨j,Y⟩|q
   ·exact h.kn b o g q
   ·exact .inr (h.own j b Y)
   ·exact .inr (.inr (jk h.ext.size q)),k.tab⟩
theorem hO.ext{S:Nat->Prop}{T:Fz}{gi:Bt}{w':World}{i:Nat}{x:Ob}(h:hO K β w i x)(hx:Ext S w w')(H:∀b,(β i).has b->¬S b)(N:dm K T)(l:dV β gi)
  (e:gi i=β i)(hn:∀b o,(β i).has b->K b o=none->T b o=none):hO T gi w' i x:=by
 cases x with
 |gone=>grind[hO]
 |box E O =>
  have⟨b,u,s,c,G,C⟩:=h
  have q:(β i).has b:=by rw[s];exact rfl
  exact⟨b,u,e.trans s,hx.blk c (H b q),G.mono N l,fun o=>hn b o q (C o)⟩
 |vec E k W J =>
  have⟨n,X,s,c,G,C,m,t⟩:=h
  have q:∀b,n.ownBlock=some b->(β i).has b:=fun b l=>by rw[s];exact l
  exact⟨n,X,e.trans s,c.ext hx (fun b r=>H b (q b r)),G.mono N l,C,fun b r=>⟨fun o A=>hn b o (q b r) ((m b r).1 o A),fun o g A Y=>N _ _ _ ((m b r).2 o g A Y)⟩,t⟩
 |vech E k J x =>
  have⟨X,s,c,G,C,m⟩:=h
  have q:∀b,x.ownBlock=some b->(β i).has b:=fun b l=>by rw[s];exact l
  exact⟨X,e.trans s,c.ext hx (fun b r=>H b (q b r)),G.mono N l,C,fun b r o=>hn b o (q b r) (m b r o)⟩
 |lost=>exact fun b r=>BM (h b zff) hx.size
 |blk b p =>
  have⟨s,⟨o,c,G⟩,C⟩:=h
  have q:(β i).has b:=by rw[s];exact rfl
  exact⟨e.trans s,⟨o,hx.blk c (H b q),G⟩,fun o=>hn b o q (C o)⟩
 |blob p =>
  have⟨g,s,c,G⟩:=h
  have q:∀b o,g b=some o->(β i).has b:=fun b o A=>by grind[Bk.has]
  exact⟨g,e.trans s,fun b o A=>⟨hx.blk (c b o A).1 (H b (q b o A)),fun j=>hn b j (q b o A) ((c b o A).2 j)⟩,G⟩
def oa.ext{S:Nat->Prop}{w':World}(h:oa K w)(hx:Ext S w w')(G:∀b o g,K b o=some g->¬S b):oa K w':=fun b o g X=>by
 have⟨q,v,j,z⟩:=h b o g X;exact⟨q,v,hx.c j (G b o g X),z⟩
def Inv.same{w':World}(h:Inv B K β Γ w)(hx:Ext gS w w'):Inv B K β Γ w' :=
 ⟨h.ext.step hx (fun j Y=>Y.elim),h.kle,h.ble,h.loc,h.fz.ext hx (fun _ _ _ _ h=>h),fun i x k=>(h.ob i x k).ext hx (fun _ _ h=>h) (dm.refl K) (dV.refl β) rfl (fun _ _ _ h=>h),h.out,h.dis,h.own,h.kn,h.tab.step hx (fun _ h=>h.elim) (dm.refl K) (fun i b h=>.inl ⟨i,h⟩)⟩
def dT(p:Nat->Bool)(β:Bt):Bt:=fun i=>match p i with
 |true=>β i
 |false=>.no
section
variable{p:Nat->Bool}{β:Bt}{i:Nat}
theorem tj(h:p i=true):dT p β i=β i:=by simp[dT,h]
theorem vS(h:p i=false):dT p β i=.no:=by simp[dT,h]
end
end
section
variable{B:Bs}{K:Fz}{β:Bt}{Γ:ap}{w:World}
def fU(β:Bt)(i:Nat)(x:Bk):Bt:=fun j=>if j=i then x else β j
theorem b7{i:Nat}{x:Bk}:fU β i x i=x:=by simp[fU]
theorem cR{i j:Nat}{x:Bk}(h:j≠i):fU β i x j=β j:=by simp[fU,h]
theorem nA{i j b:Nat}{x:Bk}(h:(fU β i x j).has b):x.has b\/(β j).has b:=by
 grind[b7,cR]
theorem iV{i:Nat}{x:Bk}(h:kE (β i) x):dV β (fU β i x):=fun j=>by
 grind[b7,cR,kE.refl]
def bF.self{vs:List Value}:bF K β vs (vs.map .v):=⟨by simp,fun i v g o b=>by
 rw[dB,o]at b;cases b;exact .v _⟩
theorem Inv.add{w':World}{b:Nat}{vs:List Value}{cs:am}{E:TypeId}(h:Inv B K β Γ w)(hn:va w w' b (.cells vs.toArray E))(v:bF K β vs cs) :
  Inv B K (fU β Γ.length (.fix b)) (Γ++[.box E cs]) w':=by
 have n:β Γ.length=.no:=h.out _ (aY _);have N:dV β (fU β Γ.length (.fix b)):=iV zfu
 have Q:∀i A,(β i).has A->A≠b:=fun i A r=>by have:=h.lt r;have:=hn.fresh;omega
 have m:∀o,K b o=none:=fun o=>by
  cases O:K b o with
  |none=>rfl
  |some g=>have:=h.fz.lt O;have:=hn.fresh;omega
 refine⟨h.ext.step hn.ext (fun j Y=>Y.elim),h.kle,h.ble.trans N,h.loc,h.fz.ext hn.ext (fun _ _ _ _ h=>h),fun i x k=>?_,fun i k=>?_,fun i j A k Y=>?_,fun i A k=>?_,h.kn,h.tab.step hn.ext (fun _ h=>h.elim) (dm.refl K) (fun i s k=>by rcases nA k with q|q;(· cases q;exact .inr (by have:=hn.fresh;omega));grind)⟩
 ·by_cases C:i<Γ.length
  ·rw[j1 C]at k
   have l:i≠Γ.length:=by omega
   exact(h.ob i x k).ext hn.ext (fun _ _ h=>h) (dm.refl K) N (cR l) (fun _ _ _ h=>h)
  ·have:i=Γ.length:=by grind
   subst this;simp at k;subst k;exact⟨b,vs,b7,hn.blk,v.mono (dm.refl K) N,m⟩
 ·simp at k;rw[cR zfh];exact h.out i zfh
 ·by_cases q:i=Γ.length<;>by_cases c:j=Γ.length
  ·omega
  ·subst q;rw[b7]at k;rw[cR c]at Y;cases k;grind
  ·subst c;rw[b7]at Y;rw[cR q]at k;cases Y;grind
  ·rw[cR q]at k;rw[cR c]at Y;exact h.dis i j A k Y
 ·by_cases q:i=Γ.length
  ·subst q;rw[b7]at k;cases k;exact .inr zfL
  ·rw[cR q]at k;exact h.own i A k
theorem Inv.BV{w':World}{E k:Nat}{x:Value}{xs:List Value}{rows:List am}(h:Inv B K β Γ w)(hx:Ext gS w w')(F:iz w' 0 E k x rows.length xs)(hf:∀b,x.ownBlock=some b->w.heap.size<=b)
  (v:bF K β xs rows.flatten)(Q:gE k rows):Inv B K (fU β Γ.length (.gr x rows.length)) (Γ++[.vec E k 0 rows]) w':=by
 have t:β Γ.length=.no:=h.out _ (aY _);have N:dV β (fU β Γ.length (.gr x rows.length)):=iV zfu
 have O:∀i A,(β i).has A->x.ownBlock≠some A:=fun i A r e=>by have:=h.lt r;grind
 have s:∀b,x.ownBlock=some b->∀o,K b o=none:=fun b n o=>by
  cases Q:K b o with
  |none=>rfl
  |some g=>have:=h.fz.lt Q;grind
 refine⟨h.ext.step hx (fun j Y=>Y.elim),h.kle,h.ble.trans N,h.loc,h.fz.ext hx (fun _ _ _ _ h=>h),fun i y l=>?_,fun i l=>?_,fun i j A l Y=>?_,fun i A l=>?_,h.kn,h.tab.step hx (fun _ h=>h.elim) (dm.refl K) (fun i u l=>by rcases nA l with q|q;(· grind[Bk.has]);grind)⟩
 ·by_cases C:i<Γ.length
  ·rw[j1 C]at l
   have m:i≠Γ.length:=by omega
   exact(h.ob i y l).ext hx (fun _ _ h=>h) (dm.refl K) N (cR m) (fun _ _ _ h=>h)
  ·have:i=Γ.length:=by grind
   subst this;simp at l;subst l;exact⟨x,xs,b7,F,v.mono (dm.refl K) N,Q,fun b n=>⟨fun o _=>s b n o,fun o g F _=>by omega⟩,bp _⟩
 ·simp at l;rw[cR zfh];exact h.out i zfh
 ·by_cases q:i=Γ.length<;>by_cases c:j=Γ.length
  ·omega
  ·subst q;rw[b7]at l;rw[cR c]at Y;exact absurd l (O j _ Y)
  ·subst c;rw[b7]at Y;rw[cR q]at l;exact absurd Y (O i _ l)
  ·rw[cR q]at l;rw[cR c]at Y;exact h.dis i j A l Y
 ·by_cases q:i=Γ.length
  ·subst q;rw[b7]at l;exact .inr (jk h.ext.size (hf A l))
  ·rw[cR q]at l;exact h.own i A l
def kb(K:Fz)(b:Nat)(cs:am):Fz:=fun A o=>if A=b then cs[o]? else K A o
theorem T9{b o:Nat}{cs:am}{g:GV}(h:cs[o]?=some g):kb K b cs b o=some g:=by simp[kb,h]
theorem Inv.uz{w':World}{b:Nat}{vs:List Value}{cs:am}{E:TypeId}(h:Inv B K β Γ w)(hn:va w w' b (.cells vs.toArray E))(z:bF K β vs cs)(W:∀g∈cs,g.pc=true) :
  dm K (kb K b cs)/\Inv B (kb K b cs) β Γ w':=by
 have e:∀o,K b o=none:=fun o=>by
  cases O:K b o with
  |none=>rfl
  |some g=>have:=h.fz.lt O;have:=hn.fresh;omega
 have N:dm K (kb K b cs):=fun A o g X=>by
  grind[kb]
 refine⟨N,h.ext.step hn.ext (fun j Y=>Y.elim),h.kle.trans N,h.ble,h.loc,fun A o g X=>?_,fun i x l=>?_,h.out,h.dis,h.own,fun A o g X=>?_,h.tab.step hn.ext (fun _ h=>h.elim) N (fun i m h=>.inl ⟨i,h⟩)⟩
 ·by_cases k:A=b
  ·subst k;simp[kb]at X;have⟨v,n,q⟩:=z.at X;have r:=W g (bP X);exact⟨r,v,zP hn.blk zff,(q.mono N (dV.refl β)).pc r⟩
  ·have H:K A o=some g:=by grind[kb]
   have⟨s,v,d,G⟩:=h.fz A o g H;exact⟨s,v,hn.ext.c d (fun h=>h),G.mono N (dV.refl _)⟩
 ·refine(h.ob i x l).ext hn.ext (fun _ _ h=>h) N (dV.refl β) rfl (fun A o k O=>?_)
  have:A≠b:=by have:=h.lt k;have:=hn.fresh;omega
  grind[kb]
 ·by_cases k:A=b
  ·exact .inr (.inr zfL)
  ·exact h.kn A o g (by grind[kb])
theorem Inv.store{w':World}{i b:Nat}{E:TypeId}{cs c:am}{Z:List Value}(h:Inv B K β Γ w)(hi:Γ[i]?=some (.box E cs))(k:β i=.fix b)(G:uu w w' b Z.toArray E)
  (v:bF K β Z c):Inv B K β (Γ.set i (.box E c)) w':=by
 have⟨T,l,s,d,H,C⟩:=h.ob i _ hi;rw[k]at s;cases s
 have q:(β i).has b:=by rw[k];exact rfl
 refine⟨h.ext.step G.ext (fun j Y=>?_),h.kle,h.ble,h.loc,h.fz.ext G.ext (fun A o g X e=>?_),fun j x Y=>?_,fun j Y=>h.out j zff,h.dis,h.own,h.kn,h.tab.step G.ext (fun j Y=>⟨i,by grind⟩) (dm.refl K) (fun i m h=>.inl ⟨i,h⟩)⟩
 ·subst Y;exact(h.own i _ q).symm
 ·grind
 ·rw[eY]at Y;split at Y
  ·rename_i S;split at Y
   ·cases Y;subst S
    exact⟨b,Z,k,G.blk,v,C⟩
   grind
  ·rename_i S;refine(h.ob j x Y).ext G.ext (fun A r e=>?_) (dm.refl K) (dV.refl β) rfl (fun _ _ _ h=>h);subst e;exact S (h.dis i j _ q r)
def uA(K:Fz)(x:Value)(n:Nat)(fl:am):Fz:=fun b o=>if x.ownBlock=some b/\o<n then fl[o]? else K b o
section
variable{x:Value}{n b o:Nat}{fl:am}
theorem SU(q:x.ownBlock=some b)(c:o<n):uA K x n fl b o=fl[o]?:=by grind[uA]
theorem AQ(h:¬(x.ownBlock=some b/\o<n)):uA K x n fl b o=K b o:=by grind[uA]
theorem AR{g:GV}(h:uA K x n fl b o=some g):(x.ownBlock=some b/\o<n/\fl[o]?=some g)\/(¬(x.ownBlock=some b/\o<n)/\K b o=some g):=by
 grind[SU,AQ]
end
theorem Inv.grow{w':World}{i:Nat}{E k fz:Nat}{rows news:List am}{F x:Value}{xs ns:List Value}(h:Inv B K β Γ w)(hi:Γ[i]?=some (.vec E k fz rows))(S:β i=.gr F rows.length)
  (C:iz w 0 E k F rows.length xs/\bF K β xs rows.flatten)(ho:iz w' 0 E k x (rows.length+news.length) (xs++ns))(hx:Ext (fun b=>F.ownBlock=some b) w w')(hf:∀b,x.ownBlock=some b->F.ownBlock=some b\/w.heap.size<=b)
  (hr:bF K β ns news.flatten)(hk:gE k news)(Y:news≠[])(W:∀b,F.ownBlock=some b->∀o v,o<fz*k->jd w.heap b o=some v->jd w'.heap b o=some v) :
  ∃K',dm K K'/\dV β (fU β i (.gr x (rows++news).length))/\Inv B K' (fU β i (.gr x (rows++news).length)) (Γ.set i (.vec E k fz (rows++news))) w':=by
 have⟨h0',xs',u,H,h3,h4,h5,h6⟩:=h.ob i _ hi;rw[S]at u;cases u;clear H h3
 have hlen:news.length≠0:=fun h=>Y (ll h)
 have t:dV β (fU β i (.gr x (rows++news).length)):=iV (by rw[S];exact⟨x,_,rfl,by simp,fun J=>by grind⟩)
 have e:∀b,F.ownBlock=some b->(β i).has b:=fun b d=>by rw[S];exact d
 have X:rows.flatten.length=rows.length*k:=by rw[<-C.2.1];exact C.1.1
 have abH:fz*k<=rows.flatten.length:=by simp_all[s0]
 have n:dm K (uA K x (fz*k) rows.flatten):=fun b o g s=>by
  by_cases R:x.ownBlock=some b/\o<fz*k
  ·rw[SU R.1 R.2]
   rcases hf b R.1 with m|m
   ·grind
   ·have:=h.fz.lt s;omega
  grind[uA]
 refine⟨uA K x (fz*k) rows.flatten,n,t,h.ext.step hx (fun j l=>(h.own i j (e j l)).symm),h.kle.trans n,h.ble.trans t,h.loc,fun b o g s=>?_,fun j y l=>?_,fun j l=>?_,fun j j' b l q=>?_,fun j b l=>?_,fun b o g s=>?_,h.tab.step hx (fun j l=>⟨i,e j l⟩) n (fun j b2 hi=>by rcases nA hi with u|u;(· grind[Bk.has]);grind)⟩
 ·rcases AR s with⟨d,N,s⟩|⟨R,s⟩
  ·have O:g.pc=true:=by
    have⟨r,Z,Ft⟩:=List.mem_flatten.1 (bP s);exact(h4 r Z).2 g Ft
   have⟨v,hv,A⟩:=C.2.at s;have⟨b2,c,NV,_,_,NB⟩:=ho.cells.2 zfs
   have T:b2=b:=by rw[NV]at d;cases d;rfl
   subst T;have ps:o<xs.length:=(bY hv).1;refine⟨O,v,?_,(A.mono n t).pc O⟩
   simp_all[fS,j1]
  ·have⟨hp,v,hv,A⟩:=h.fz b o g s;refine⟨hp,v,?_,A.mono n (dV.refl _)⟩
   by_cases m:F.ownBlock=some b
   ·grind
   ·exact hx.c hv m
 ·rw[eY]at l;split at l
  ·rename_i z;split at l
   ·cases l;subst z
    refine⟨x,xs++ns,b7,by grind,?_,?_,fun b d=>⟨fun o N=>?_,fun o g N s=>?_⟩,by grind⟩
    ·rw[List.flatten_append];exact(C.2.mono n t).app (hr.mono n t)
    ·grind[gE]
    ·rw[AQ zfh]
     rcases hf b d with m|m
     ·grind
     ·cases G:K b o with
      |none=>rfl
      |some g=>have:=h.fz.lt G;omega
    grind[uA]
   grind
  ·rename_i z;refine(h.ob j y l).ext hx (fun b d J=>?_) n t (cR (fun J=>z J.symm)) (fun b o d G=>?_)
   ·exact z (h.dis i j b (e b J) d)
   ·rw[AQ];exact G;rintro⟨m,_⟩
    rcases hf b m with h8|h8
    ·exact z (h.dis i j b (e b h8) d)
    ·have:=h.lt d;omega
 ·have q:Γ.length<=j:=by grind
  have:i<Γ.length:=(bY hi).1;rw[cR zfh];exact h.out j q
 ·have Q:∀j b,j≠i->(β j).has b->x.ownBlock≠some b:=fun j b M d J=>by
   rcases hf b J with m|m
   ·exact M (h.dis j i b d (e b m))
   ·have:=h.lt d;omega
  by_cases u:j=i<;>by_cases H:j'=i
  ·omega
  ·subst u;rw[b7]at l;rw[cR H]at q;exact absurd l (Q j' b H q)
  ·subst H;rw[b7]at q;rw[cR u]at l;exact absurd q (Q j b u l)
  ·rw[cR u]at l;rw[cR H]at q;exact h.dis j j' b l q
 ·by_cases u:j=i
  ·subst u;rw[b7]at l
   rcases hf b l with m|m
   ·exact h.own j b (e b m)
   ·exact .inr (jk h.ext.size m)
  ·rw[cR u]at l;exact h.own j b l
 ·rcases AR s with⟨d,_,_⟩|⟨_,s⟩
  ·rcases hf b d with m|m
   ·exact .inr (h.own i b (e b m))
   ·exact .inr (.inr (jk h.ext.size m))
  ·exact h.kn b o g s
theorem Inv.jx{i E k fz:Nat}{rows:List am}(h:Inv B K β Γ w)(hi:Γ[i]?=some (.vec E k fz rows)) :
  ∃z,dm K z/\(∀x b,β i=.gr x rows.length->x.ownBlock=some b->∀(o:Nat)g,rows.flatten[o]?=some g->z b o=some g)/\Inv B z β (Γ.set i (.vec E k rows.length rows)) w:=by
 have⟨x,xs,R,A,C,T,X,Y⟩:=h.ob i _ hi
 have H:rows.flatten.length=rows.length*k:=by rw[<-C.1];exact A.1
 have q:∀b,x.ownBlock=some b->(β i).has b:=fun b u=>by rw[R];exact u
 have d:dm K (uA K x (rows.length*k) rows.flatten):=fun b o g l=>by
  grind[uA]
 refine⟨uA K x (rows.length*k) rows.flatten,d,fun x' b hx' u o g l=>?_,h.ext,h.kle.trans d,h.ble,h.loc,fun b o g l=>?_,fun j y n=>?_,fun j n=>h.out j zff,h.dis,h.own,fun b o g l=>?_,h.tab.step (S:=gS) (Ext.refl w) (fun _ h=>h.elim) d (fun i Q h=>.inl ⟨i,h⟩)⟩
 ·grind[uA]
 ·rcases AR l with⟨e,ho',l⟩|⟨hc,l⟩
  ·have s:g.pc=true:=by
    have⟨r,M,N⟩:=List.mem_flatten.1 (bP l);exact(T r M).2 g N
   have⟨v,hv,t⟩:=C.at l;have⟨Q,c,O,_,_,NB⟩:=A.cells.2 zff
   have G:Q=b:=by rw[O]at e;cases e;rfl
   subst G;exact⟨s,v,by grind[fS],(t.mono d (dV.refl β)).pc s⟩
  ·have⟨F,v,Z,h9⟩:=h.fz b o g l;exact⟨F,v,Z,h9.mono d (dV.refl _)⟩
 ·rw[eY]at n;split at n
  ·rename_i m;split at n
   ·cases n;subst m
    refine⟨x,xs,R,A,C.mono d (dV.refl β),T,fun b u=>⟨fun o W=>?_,fun o g W l=>?_⟩,aY _⟩
    ·rw[AQ zfh];exact(X b u).1 o (jk (s0 k Y) W)
    grind[uA]
   grind
  ·rename_i m;refine(h.ob j y n).ext (Ext.refl w) (fun _ _ h=>h) d (dV.refl β) rfl (fun b o e J=>?_) (S:=gS);rw[AQ];exact J;rintro⟨F,_⟩;exact m (h.dis i j b (q b F) e)
 ·rcases AR l with⟨e,_,_⟩|⟨_,l⟩
  ·exact .inr (h.own i b (q b e))
  ·exact h.kn b o g l
end
mutual
def b8(f:Nat->Nat):GV->GV
 |.v x=>.v x
 |.U=>.U
 |.agg O=>.agg (cq f O)
 |.tup O=>.tup (cq f O)
 |.sl k H=>.sl k H
 |.box O o=>.box O o
 |.loc i o=>.loc (f i) o
 |.vec i n=>.vec (f i) n
 |.vp i n k idx z=>.vp (f i) n k idx z
 |.arr i o n=>.arr (f i) o n
 |.fn g a c=>.fn g (cq f a) (cq f c)
def cq(f:Nat->Nat):am->am
 |[]=>[]
 |g::s=>b8 f g::cq f s
end
def lH(f:Nat->Nat)(gs:am):cq f gs=gs.map (b8 f):=by
 induction gs with
 |nil=>rfl
 |cons g gs O=>simp[cq,O]
def Rel.BI{K:Fz}{β:Bt}{f:Nat->Nat}{x:Value}{g:GV}(h:Rel K (fun j=>β (f j)) x g):Rel K β x (b8 f g):=by
 induction h with
 |v x=>exact .v x
 |U x=>exact .U x
 |agg l O M h S =>
  rw[b8,lH]
  refine .agg l _ zff fun i v g q d=>?_
  grind
 |tup l O M h S =>
  rw[b8,lH]
  refine .tup l _ zff fun i v g q d=>?_
  grind
 |sl0 a c k=>exact .sl0 a c k
 |sl b o c k H h W=>exact .sl b o c k H h W
 |box b Y o O h=>exact .box b Y o O h
 |loc i o b h=>exact .loc _ o b h
 |vec i n a c h=>exact .vec _ n a c h
 |vp i n k idx z x h=>exact .vp _ n k idx z x h
 |arr i o n b c h=>exact .arr _ o n b c h
 |fn g X u first r M s h A S t =>
  rw[b8,lH,lH];refine .fn g X u _ _ zff zff (fun i v g q d=>?_) (fun i v g q d=>?_)
  ·grind
  grind
def Rel.Bj{K:Fz}{β:Bt}{f:Nat->Nat}{x:Value}{g:GV}(h:Rel K β x (b8 f g)):Rel K (fun j=>β (f j)) x g:=by
 generalize l:b8 f g=T at h
 induction h generalizing g with
 |v x =>
  cases g<;>simp only[b8]at l<;>first|(cases l;done)|skip
  cases l;exact .v x
 |U x =>
  cases g<;>simp only[b8]at l<;>first|(cases l;done)|skip
  exact .U x
 |agg s S M h O =>
  cases g<;>simp only[b8]at l<;>first|(cases l;done)|skip
  rename_i t;rw[lH]at l;cases l
  exact .agg s t zff fun i v g q d=>O i v (b8 f g) q zff rfl
 |tup s S M h O =>
  cases g<;>simp only[b8]at l<;>first|(cases l;done)|skip
  rename_i t;rw[lH]at l;cases l
  exact .tup s t zff fun i v g q d=>O i v (b8 f g) q zff rfl
 |sl0 a c k =>
  cases g<;>simp only[b8]at l<;>first|(cases l;done)|skip
  cases l;exact .sl0 a c _
 |sl b o c k H h W =>
  cases g<;>simp only[b8]at l<;>first|(cases l;done)|skip
  cases l;exact .sl b o c k H h W
 |box b Y o S h =>
  cases g<;>simp only[b8]at l<;>first|(cases l;done)|skip
  cases l;exact .box b Y o S h
 |loc i o b h =>
  cases g<;>simp only[b8]at l<;>first|(cases l;done)|skip
  cases l;exact .loc _ o b h
 |vec i n a c h =>
  cases g<;>simp only[b8]at l<;>first|(cases l;done)|skip
  cases l;exact .vec _ n a c h
 |vp i n k idx z x h =>
  cases g<;>simp only[b8]at l<;>first|(cases l;done)|skip
  cases l;exact .vp _ n k idx z x h
 |arr i o n b c h =>
  cases g<;>simp only[b8]at l<;>first|(cases l;done)|skip
  cases l;exact .arr _ o n b c h
 |fn T X E first u M C h F O r =>
  cases g<;>simp only[b8]at l<;>first|(cases l;done)|skip
  rename_i Z t A;rw[lH,lH]at l;cases l;exact .fn _ X E t A zff zff (fun i v g q d=>O i v (b8 f g) q zff rfl)
   (fun i v g q d=>r i v (b8 f g) q zff rfl)
mutual
def GV.ok(p:Nat->Bool):GV->Bool
 |.loc i _=>p i
 |.vec i _=>p i
 |.vp i _ _ _ _=>p i
 |.arr i _ _=>p i
 |.agg O=>DG p O
 |.tup O=>DG p O
 |.fn _ a c=>DG p a&&DG p c
 |.v _=>true
 |.U=>true
 |.sl _ _=>true
 |.box _ _=>true
def DG(p:Nat->Bool):am->Bool
 |[]=>true
 |g::s=>GV.ok p g&&DG p s
end
def below(n:Nat):Nat->Bool:=fun i=>Nat.blt i n
def other(n:Nat):Nat->Bool:=fun i=>!Nat.beq i n
abbrev GV.lt(n:Nat)(g:GV):Bool:=g.ok (below n)
def vM{p:Nat->Bool}{gs:am}(h:DG p gs=true){g:GV}(hg:g∈gs):g.ok p=true:=by
 induction gs with
 |nil=>cases hg
 |cons x gs O =>
  grind[DG]
def Rel.res{K:Fz}{β:Bt}{p:Nat->Bool}{x:Value}{g:GV}(h:Rel K β x g)(M:g.ok p=true):Rel K (dT p β) x g:=by
 induction h with
 |v x=>exact .v x
 |U x=>exact .U x
 |agg s O n h S=>simp only[GV.ok]at M;exact .agg s O n fun i v g q d=>S i v g q d (vM M (bP d))
 |tup s O n h S=>simp only[GV.ok]at M;exact .tup s O n fun i v g q d=>S i v g q d (vM M (bP d))
 |sl0 a c k=>exact .sl0 a c k
 |sl b o c k H h W=>exact .sl b o c k H h W
 |box b Y o O h=>exact .box b Y o O h
 |loc i o b h=>simp only[GV.ok]at M;exact .loc _ o b (by grind[dT])
 |vec i m a c h=>simp only[GV.ok]at M;exact .vec _ m a c (by grind[dT])
 |vp i m k idx z x h=>simp only[GV.ok]at M;exact .vp _ m k idx z x (by grind[dT])
 |arr i o m b c h=>simp only[GV.ok]at M;exact .arr _ o m b c (by grind[dT])
 |fn T X t first j n l h u S r =>
  simp only[GV.ok,aI]at M
  exact .fn _ X t first j n l (fun i v g q d=>S i v g q d (vM M.1 (bP d))) (fun i v g q d=>r i v g q d (vM M.2 (bP d)))
def Ob.ok(p:Nat->Bool):Ob->Bool
 |.box _ O=>DG p O
 |_=>true
def Ob.b8(f:Nat->Nat):Ob->Ob
 |.box E O=>.box E (cq f O)
 |x=>x
def kW(p:Nat->Bool):ap->Bool
 |[]=>true
 |x::r=>Ob.ok p x&&kW p r
abbrev sO(n:Nat)(Γ:ap):Bool:=kW (below n) Γ
def JN{p:Nat->Bool}{gs:ap}(h:kW p gs=true){g:Ob}(hg:g∈gs):g.ok p=true:=by
 induction gs with
 |nil=>cases hg
 |cons x gs O =>
  grind[kW]
def LM(p:Nat->Bool):am->am
 |[]=>[]
 |g::s=>(match GV.ok p g with|true=>g|false=>.U)::LM p s
abbrev u3(n:Nat)(fr:am):am:=LM (below n) fr
def FR.res{K:Fz}{β:Bt}{p:Nat->Bool}{fr:am}{l:List Value}(h:FR K β fr l):FR K (dT p β) (LM p fr) l:=by
 induction h with
 |nil=>exact .nil
 |cons h t O =>
  rw[LM];split
  ·rename_i M;exact .cons (h.res M) O
  ·exact .cons (.U _) O
def hO.res{K:Fz}{β:Bt}{w:World}{p:Nat->Bool}{i:Nat}{x:Ob}(h:hO K β w i x)(hi:p i=true)(hx:x.ok p=true):hO K (dT p β) w i x:=by
 cases x with
 |gone=>grind[hO,dT]
 |box E S =>
  have⟨b,l,o,c,G,C⟩:=h;exact⟨b,l,by grind[dT],c,⟨G.1,fun i v g j n=>(G.2 i v g j n).res (vM hx (bP n))⟩,C⟩
 |vec E k T H =>
  have⟨t,X,o,c,G,C,j⟩:=h;refine⟨t,X,by grind[dT],c,⟨G.1,fun i v g n O=>(G.2 i v g n O).pc ?_⟩,C,j⟩;exact zaM
 |vech E k H x =>
  have⟨X,o,c,G,C,j⟩:=h;refine⟨X,by grind[dT],c,⟨G.1,fun i v g n O=>(G.2 i v g n O).pc ?_⟩,C,j⟩;exact zaM
 |lost=>grind[hO,dT]
 |blk b q=>grind[hO,dT]
 |blob q =>
  grind[hO,dT]
section
variable{B:Bs}{K:Fz}{β:Bt}{Γ:ap}{w:World}
def yz{n i:Nat}(h:i<n):below n i=true:=by simpa[below]using h
theorem yy{n i:Nat}(h:n<=i):below n i=false:=by
 cases j:below n i with
 |false=>rfl
 |true=>simp[below]at j;omega
theorem Inv.cut{n:Nat}(h:Inv B K β Γ w)(l:B.m<=n)(M:sO n (Γ.take n)=true):Inv B K (dT (below n) β) (Γ.take n) w:=by
 have s:∀i b,(dT (below n) β i).has b->(β i).has b:=fun i b k=>by
  grind[dT,Bk.has]
 refine⟨h.ext,h.kle,fun i=>?_,h.loc,h.fz,fun i x k=>?_,fun i k=>?_,fun i j b k Y=>h.dis i j b (s i b k) (s j b Y),fun i b k=>h.own i b (s i b k),h.kn,h.tab.step (S:=gS) (Ext.refl w) (fun _ h=>h.elim) (dm.refl K) (fun i o c=>.inl ⟨i,s i o c⟩)⟩
 ·by_cases q:i<n
  ·rw[tj (yz q)];exact h.ble i
  ·rw[h.loc i zfh];trivial
 ·have N:=JN M (bP k);rw[List.getElem?_take]at k;split at k
  ·rename_i q;exact(h.ob i x k).res (yz q) N
  grind
 ·by_cases q:i<n
  ·rw[tj (yz q)];exact h.out i zff
  grind[vS,yy]
theorem Va{i:Nat}:other i i=false:=by simp[other]
theorem vN{i j:Nat}(h:j≠i):other i j=true:=by
 grind[Nat.eq_of_beq_eq_true,other]
theorem Inv.freeze{i:Nat}{E:TypeId}{cs:am}(h:Inv B K β Γ w)(hi:Γ[i]?=some (.box E cs))(hp:∀g∈cs,g.pc=true)(M:kW (other i) (Γ.set i .gone)=true)(hm:B.m<=i) :
  ∃C,dm K C/\(∀b,β i=.fix b->∀(j:Nat)g,cs[j]?=some g->C b j=some g)/\Inv B C (dT (other i) β) (Γ.set i .gone) w:=by
 have⟨b,vs,W,F,X,h4⟩:=h.ob i _ hi
 have s:(β i).has b:=by rw[W];exact rfl
 have k:dm K (kb K b cs):=fun c o g q=>by
  grind[kb]
 have d:∀j c,(dT (other i) β j).has c->j≠i/\(β j).has c:=fun j c l=>by
  grind[vS,Va,tj,vN,Bk.has]
 refine⟨kb K b cs,k,fun c r j g q=>?_,h.ext,h.kle.trans k,fun j=>?_,h.loc,fun c o g q=>?_,fun j x l=>?_,fun j l=>?_,fun j O c l n=>?_,fun j c l=>?_,fun c o g q=>?_,h.tab.step (S:=gS) (Ext.refl w) (fun _ h=>h.elim) k (fun i T F=>.inl ⟨i,(d i T F).2⟩)⟩
 ·grind[kb]
 ·by_cases u:j=i
  ·subst u;rw[h.loc j hm];trivial
  ·rw[tj (vN u)];exact h.ble j
 ·by_cases G:c=b
  ·subst G;simp[kb]at q;have⟨v,hv,A⟩:=X.at q;have z:=hp g (bP q);exact⟨z,v,zP F zff,(A.mono k (dV.refl β)).pc z⟩
  ·have J:K c o=some g:=by grind[kb]
   have⟨Y,v,Z,h7⟩:=h.fz c o g J;exact⟨Y,v,Z,h7.mono k (dV.refl _)⟩
 ·have N:=JN M (bP l);rw[eY]at l;split at l
  ·grind[hO,kb,dT,other]
  ·rename_i t;refine hO.res ?_ (vN (fun H=>t H.symm)) N;refine(h.ob j x l).ext (Ext.refl w) (fun _ _ h=>h) k (dV.refl β) rfl (fun c o r hk=>?_) (S:=gS)
   have:c≠b:=fun H=>by subst H;exact t (h.dis i j _ s r)
   grind[kb]
 ·have:i<Γ.length:=(bY hi).1
  have n:Γ.length<=j:=by grind
  rw[tj (vN zfh)];exact h.out j n
 ·exact h.dis j O c (d j c l).2 (d O c n).2
 ·exact h.own j c (d j c l).2
 ·by_cases G:c=b
  ·subst G;exact .inr (h.own i _ s)
  ·exact h.kn c o g (by grind[kb])
end
abbrev dN:=Exit->am->ap->Prop
def gl(B:Bs)(Q:dN):mj:=fun e l w=>∃K β fr Γ,Inv B K β Γ w/\FR K β fr l/\Q e fr Γ
def GW(P:Program)(m:Nat)(c:Code)(Q:dN)(fr:am)(Γ:ap):Prop :=
 ∀B K β w l,B.m=m->Inv B K β Γ w->FR K β fr l->W P c (gl B Q) l w
def GL(P:Program)(m:Nat)(ops:Array Oper)(Q:dN)(rest:List Oper)(fr:am)(Γ:ap):Prop :=
 ∀B K β w l,B.m=m->Inv B K β Γ w->FR K β fr l->WL P ops (gl B Q) rest l w
def bo(next:am->ap->Prop)(Q:dN):dN
 |.normal,fr,Γ=>next fr Γ
 |e,fr,Γ=>Q e fr Γ
def bq(id:Nat)(Q:dN):dN
 |.exit xp,fr,Γ=>if xp=id then Q .normal fr Γ else Q (.exit xp) fr Γ
 |e,fr,Γ=>Q e fr Γ
def Wk(m:Nat)(fr:am)(Γ:ap)(dh:am)(bM:ap):Prop :=
 ∀B K β w l,B.m=m->Inv B K β Γ w->FR K β fr l->∃S u,Inv B S u bM w/\FR S u dh l
section
variable{P:Program}{m:Nat}{Q:dN}{fr:am}{Γ:ap}{ops:Array Oper}{rest:List Oper}
def Wk.trans{dh S:am}{bM Z:ap}(h:Wk m fr Γ dh bM)(k:Wk m dh bM S Z):Wk m fr Γ S Z:=fun B K β w l j i O=>by
 have⟨T,u,F,E⟩:=h B K β w l j i O;exact k B T u w l j F E
def GW.wk{c:Code}{dh:am}{bM:ap}(h:Wk m fr Γ dh bM)(k:GW P m c Q dh bM):GW P m c Q fr Γ:=fun B K β w l j i O=>by
 exact zex
def GL.wk{dh:am}{bM:ap}(h:Wk m fr Γ dh bM)(k:GL P m ops Q rest dh bM):GL P m ops Q rest fr Γ:=fun B K β w l j i O=>by
 exact zex
def Wk.cut{n:Nat}(j:m<=n)(M:sO n (Γ.take n)=true):Wk m fr Γ (u3 n fr) (Γ.take n):=fun B K β w l N i O =>
 ⟨K,dT (below n) β,i.cut zfh M,O.res⟩
inductive tC:am->am->Prop
 |nil:tC [] []
 |U {f:GV} {fs gs:am} (h:tC fs gs):tC (f::fs) (.U::gs)
 |eq {f g:GV} {fs gs:am} (he:f=g) (h:tC fs gs):tC (f::fs) (g::gs)
def FR.abw{K:Fz}{β:Bt}{l:List Value}{fr dh:am}(h:tC fr dh)(k:FR K β fr l):FR K β dh l:=by
 induction h generalizing l with
 |nil=>exact k
 |U h O=>cases k with|cons T S=>exact .cons (.U _) (O S)
 |eq i h O=>subst i;cases k with|cons T S=>exact .cons T (O S)
def Wk.aZ{dh:am}(h:tC fr dh):Wk m fr Γ dh Γ:=fun B K β w l _ i O=>⟨K,β,i,O.abw h⟩
def GW.seq{x y:Code}(h:GW P m x (bo (GW P m y Q) Q) fr Γ):GW P m (.seq x y) Q fr Γ:=fun B K β w l j i O=>by
 refine W.seq (W.mono (h B K β w l j i O) ?_);rintro e l w⟨K,β,fr,Γ,i,O,J⟩
 cases e with
 |normal=>exact J B K β w l j i O
 |_=>exact⟨K,β,fr,Γ,i,O,J⟩
theorem GW.skip(h:Q .normal fr Γ):GW P m .skip Q fr Γ:=fun B K β w l j i O=>W.skip ⟨K,β,fr,Γ,i,O,h⟩
def GW.exit{n:Nat}(h:Q (.exit n) fr Γ):GW P m (.exit n) Q fr Γ:=fun B K β w l j i O=>W.exit ⟨K,β,fr,Γ,i,O,h⟩
def GW.ret(h:Q .ret fr Γ):GW P m .ret Q fr Γ:=fun B K β w l j i O=>W.ret ⟨K,β,fr,Γ,i,O,h⟩
theorem GW.block{id:Nat}{c:Code}(h:GW P m c (bq id Q) fr Γ):GW P m (.block id c) Q fr Γ:=fun B K β w l j i O=>by
 refine W.block (W.mono (h B K β w l j i O) ?_);rintro e l w⟨K,β,fr,Γ,i,O,J⟩
 cases e with
 |exit xp =>
  simp only[bq]at J
  grind[XG,gl]
 |_=>exact⟨K,β,fr,Γ,i,O,J⟩
theorem Rel.eW{K:Fz}{β:Bt}{x a:Value}(h:Rel K β x (.v a)):x=a:=by cases h;rfl
def FR.gq{K:Fz}{β:Bt}{l:List Value}{x:Operand}{a:Value}(h:FR K β fr l)(hx:bf fr x=.v a):Xw.ev l x=a:=Rel.eW (by rw[<-hx];exact h.ev x)
def GW.cond{c:Operand}{x y:Code}{t:Bool}(X:bf fr c=.v (.bool t))(M:t=true->GW P m x Q fr Γ)(hf:t=false->GW P m y Q fr Γ):GW P m (.cond c x y) Q fr Γ:=fun B K β w l j i O =>
 W.cond (O.gq X) (fun h=>M h B K β w l j i O) (fun h=>hf h B K β w l j i O)
section
variable{c:Operand}{x y:Code}{t:Bool}
def Md(W:bf fr c=.v (.bool t))(M:t=true)(h:GW P m x Q fr Γ):GW P m (.cond c x y) Q fr Γ:=GW.cond W (fun _=>h) (fun b=>by rw[M]at b;cases b)
def Mc(W:bf fr c=.v (.bool t))(M:t=false)(h:GW P m y Q fr Γ):GW P m (.cond c x y) Q fr Γ:=GW.cond W (fun b=>by rw[M]at b;cases b) (fun _=>h)
end
theorem GW.mono{c:Code}{Q':dN}(h:GW P m c Q fr Γ)(J:∀e fr Γ,Q e fr Γ->Q' e fr Γ):GW P m c Q' fr Γ:=fun B K β w l j i O =>
 W.mono (h B K β w l j i O) fun e l w ⟨K,β,fr,Γ,i,O,q⟩=>⟨K,β,fr,Γ,i,O,J _ _ _ q⟩
def zf(m:Nat)(K:am->ap->Prop)(fr:am)(Γ:ap):Prop:=∃s v,Wk m fr Γ s v/\K s v
theorem GW.loop{c:Code}{S:Type}(C:S->Nat)(ack:S->am->ap->Prop)(x:S)(o:zf m (ack x) fr Γ)
  (X:∀x fr Γ,ack x fr Γ->GW P m c (bo (fun dh bM=>∃y,zf m (ack y) dh bM/\C y<C x) Q) fr Γ):GW P m (.loop c) Q fr Γ:=fun B K β w l j i O=>by
 have⟨dh,bM,n,o⟩:=o;have⟨T,u,F,E⟩:=n B K β w l j i O;refine W.loop C (fun x l w=>∃K β fr Γ,Inv B K β Γ w/\FR K β fr l/\ack x fr Γ) x ⟨T,u,dh,bM,F,E,o⟩ ?_;rintro x l w⟨K,β,fr,Γ,i,O,k⟩;refine W.mono (X x fr Γ k B K β w l j i O) ?_;rintro e l w⟨K,β,fr,Γ,i,O,J⟩
 cases e with
 |normal =>
  have⟨y,⟨dh,bM,n,G⟩,N⟩:=J;have⟨T,u,F,E⟩:=n B K β w l j i O
  grind[YP]
 |_=>exact⟨K,β,fr,Γ,i,O,J⟩
def GW.region{id:Nat}{r:List Oper}(h:GL P m r.toArray Q r fr Γ):GW P m (.region id r.toArray false) Q fr Γ:=fun B K β w l j i O=>W.region (h B K β w l j i O)
theorem GL.nil(h:Q .normal fr Γ):GL P m ops Q [] fr Γ:=fun B K β w l j i O=>WL.nil ⟨K,β,fr,Γ,i,O,h⟩
end
section
variable{next:am->ap->Prop}{Q:dN}{fr:am}{Γ:ap}{id xp:Nat}
def bh(h:next fr Γ):bo next Q .normal fr Γ:=h
def Fi(h:Q (.exit id) fr Γ):bo next Q (.exit id) fr Γ:=h
def gV(h:Q .ret fr Γ):bo next Q .ret fr Γ:=h
def jN(h:Q .normal fr Γ):bq id Q .normal fr Γ:=h
def gU(h:Q .ret fr Γ):bq id Q .ret fr Γ:=h
def I8(h:Q .normal fr Γ):bq id Q (.exit id) fr Γ:=by simpa[bq]using h
theorem UE(hn:(xp==id)=false)(h:Q (.exit xp) fr Γ):bq id Q (.exit xp) fr Γ:=by
 simp only[bq];grind
end
def GC(P:Program)(f:FuncId)(gs:am)(Γ:ap)(R:GV->ap->Prop):Prop :=
 ∀B K β w l,B.m=Γ.length->Inv B K β Γ w->bF K β l gs->pF P f l w fun v Z=>∃S u g z,Inv B S u z Z/\Rel S u v g/\R g z
abbrev GF(P:Program)(f:FuncId)(gs:am)(Γ:ap)(g:GV)(bM:ap):Prop:=GC P f gs Γ fun x k=>x=g/\k=bM
theorem GC.mono{P:Program}{f:FuncId}{gs:am}{Γ:ap}{R b:GV->ap->Prop}(h:GC P f gs Γ R)(A:∀g Γ,R g Γ->b g Γ):GC P f gs Γ b:=fun B K β w l j i O =>
 (h B K β w l j i O).mono fun v Z ⟨S,u,g,z,o,c,G⟩=>⟨S,u,g,z,o,c,A _ _ G⟩
def Fh:Nat->am
 |0=>[]
 |n+1=>.v undef::Fh n
def vu:am->Nat->am
 |[],n=>Fh n
 |a::r,n=>a::vu r (n-1)
theorem FR.Gt{K:Fz}{β:Bt}(n:Nat):FR K β (Fh n) (Gt n):=by
 induction n with
 |zero=>exact .nil
 |succ n O=>exact .cons (.v _) O
theorem FR.frame{K:Fz}{β:Bt}{vs:List Value}{gs:am}(h:bF K β vs gs)(n:Nat):FR K β (vu gs n) (frame vs n):=by
 induction gs generalizing vs n with
 |nil =>
  grind[ll,FR.Gt,vu,Xw.frame]
 |cons g gs O =>
  cases vs with
  |nil=>grind
  |cons v vs=>have⟨o,b⟩:=h.oI;exact .cons o (O b _)
def qv(P:Program)(fn:Func)(m:Nat)(R:GV->ap->Prop):dN:=fun e fr Γ =>
 (e=.normal\/e=.ret)/\∀B K β w l,B.m=m->Inv B K β Γ w->FR K β fr l->∃v S u g z,(results fn l.toArray).run P w=.ok v w/\Inv B S u z w/\Rel S u v g/\R g z
theorem GC.enter{P:Program}{f:FuncId}{fn:Func}{c:Code}{gs:am}{Γ:ap}{R:GV->ap->Prop}{n:Nat}{fr:am}
  (hf:P.funcs[f]?=some fn)(hn:fn.ntmps=n)(j:fn.body=some c)(M:vu gs n=fr)(h:GW P Γ.length c (qv P fn Γ.length R) fr Γ):GC P f gs Γ R:=fun B K β w q k i O=>by
 subst M;refine pF.enter hf hn j rfl (W.mono (h B K β w _ k i (FR.frame O n)) ?_);rintro e l w⟨K,β,fr,Γ,i,O,o,J⟩
 grind[KU]
section
variable{P:Program}{fn:Func}{m:Nat}{R:GV->ap->Prop}{fr:am}{Γ:ap}{e:Exit}
section
variable{n:Nat}
def WN(z:fn.results=#[])(k:e=.normal\/e=.ret)(o:m<=n)(M:sO n (Γ.take n)=true)(h:R (.tup []) (Γ.take n)):qv P fn m R e fr Γ :=
 ⟨k,fun B K β w l N j O=>⟨.tuple #[],K,dT (below n) β,.tup [],Γ.take n,by rw[results_none z],j.cut zfh M,.tup [] [] rfl (fun i v g h=>by simp at h),h⟩⟩
def qc{t:Tmp}{g:GV}(v:fn.results=#[.tmp t])(j:e=.normal\/e=.ret)(hg:bD fr t=g)(k:m<=n)(M:sO n (Γ.take n)=true)(Z:g.lt n=true)(h:R g (Γ.take n)):qv P fn m R e fr Γ :=
 ⟨j,fun B K β w l N i O=>⟨nth l t,K,dT (below n) β,g,Γ.take n,by rw[results_tmp v,iJ],i.cut zfh M,by rw[<-hg]at Z |-;exact(O.nth t).res Z,h⟩⟩
def WO{t u:Tmp}{g S:GV}(v:fn.results=#[.tmp t,.tmp u])(j:e=.normal\/e=.ret)(hg:bD fr t=g)(H:bD fr u=S)(k:m<=n)(M:sO n (Γ.take n)=true)(Z:(GV.tup [g,S]).lt n=true)(h:R (.tup [g,S]) (Γ.take n)):qv P fn m R e fr Γ :=
 ⟨j,fun B K β w l N i O=>⟨.tuple #[nth l t,nth l u],K,dT (below n) β,.tup [g,S],Γ.take n,by rw[results_tmp2 v,iJ,iJ],i.cut zfh M,by
  refine Rel.res ?_ Z;subst hg H;have W:bF K β [nth l t,nth l u] [bD fr t,bD fr u]:=.cons (O.nth t) (.cons (O.nth u) .nil)
  exact .tup [nth l t,nth l u] _ W.1 W.2,h⟩⟩
def WQ{t u s:Tmp}{g S O:GV}(v:fn.results=#[.tmp t,.tmp u,.tmp s])(j:e=.normal\/e=.ret)(hg:bD fr t=g)(H:bD fr u=S)(z:bD fr s=O)(k:m<=n)(M:sO n (Γ.take n)=true)(Z:(GV.tup [g,S,O]).lt n=true)
  (h:R (.tup [g,S,O]) (Γ.take n)):qv P fn m R e fr Γ :=
 ⟨j,fun B K β w l N i T=>⟨.tuple #[nth l t,nth l u,nth l s],K,dT (below n) β,.tup [g,S,O],Γ.take n,by
   rw[<-iJ l t,<-iJ l u,<-iJ l s];simp[results,v],i.cut zfh M,by
  refine Rel.res ?_ Z;subst hg H z;have W:bF K β [nth l t,nth l u,nth l s] [bD fr t,bD fr u,bD fr s]:=.cons (T.nth t) (.cons (T.nth u) (.cons (T.nth s) .nil))
  exact .tup [nth l t,nth l u,nth l s] _ W.1 W.2,h⟩⟩
theorem WR{t:Tmp}{T:TypeId}{k:Nat}[X:Ty P T true k]{i:Nat}{E:TypeId}{cs:am}(J:fn.results=#[.cell t T])(C:e=.normal\/e=.ret)(hg:bD fr t=.loc i 0)(r:Γ[i]?=some (.box E cs))(Z:cs.length=k)
  (hm:m<=n)(F:sO n (Γ.take n)=true)(d:(GV.agg cs).lt n=true)(h:R (.agg cs) (Γ.take n)):qv P fn m R e fr Γ :=
 ⟨C,fun B K β w l W u z=>by
  have⟨b,vs,N,O,s,S⟩:=u.ob i _ r
  have G:nth l t=.pointer (some ⟨b,0,none⟩):=by
   have:=z.nth t;rw[hg]at this;generalize nth l t=v at this
   cases this with
   |loc _ _ M A=>grind
  have H:l.toArray.getD t undef=.pointer (some ⟨b,0,none⟩):=by rw[iJ,G]
  have q:=km (P:=P) (w:=w) (t:=T) (b:=b) (o:=0) (vs:=vs) (k:=k) zfh (fun j v Y=>by
   grind[World.cell?])
  have c:l[t]?.getD undef=.pointer (some ⟨b,0,none⟩):=by simp_all
  exact⟨.agg vs.toArray,K,dT (below n) β,.agg cs,Γ.take n,by simp[results,J,c,asAddr,q],u.cut zfh F,Rel.res (.agg vs cs s.1 s.2) d,h⟩⟩
end
end
def YG(P:Program)(op:Op)(fr:am)(Γ:ap)(g:GV):Prop :=
 ∀B K n w l,Inv B K n Γ w->FR K n fr l->∃v,fL P l w op v/\Rel K n v g
section
variable{P:Program}{m:Nat}{Q:dN}{fr:am}{Γ:ap}{ops:Array Oper}{rest:List Oper}{d:Option Tmp}{op:Op}{ty:TypeId}{pos:String}{af:Array Edge}
def GL.q{g:GV}(C:YG P op fr Γ g)(h:GL P m ops Q rest (bX fr d g) Γ):GL P m ops Q (⟨d,op,ty,pos,af,none⟩::rest) fr Γ:=fun B K n w l j i O=>by
 have⟨v,z,k⟩:=C B K n w l i O;exact WL.v z (h B K n w _ j i (O.put d k))
def oc{dh:am}{bM:ap}(o:fr=dh)(b:Γ=bM)(h:GL P m ops Q rest dh bM):GL P m ops Q rest fr Γ:=by subst o;subst b;exact h
def GN{dh:am}(o:fr=dh)(h:GL P m ops Q rest dh Γ):GL P m ops Q rest fr Γ:=by subst o;exact h
def YG.v1{x:Operand}{a v:Value}(hx:bf fr x=.v a)(h:∀l w,ev l x=a->fL P l w op v):YG P op fr Γ (.v v):=fun B K n w l i O=>⟨v,h l w (O.gq hx),.v v⟩
def YG.v2{x y:Operand}{a b v:Value}(hx:bf fr x=.v a)(C:bf fr y=.v b)(h:∀l w,ev l x=a->ev l y=b->fL P l w op v):YG P op fr Γ (.v v):=fun B K n w l i O=>⟨v,h l w (O.gq hx) (O.gq C),.v v⟩
theorem YG.mv{x:Operand}:YG P (.move x) fr Γ (bf fr x):=fun B K n w l i O=>⟨_,R.mv,O.ev x⟩
theorem YG.lp{x:Operand}:YG P (.assign x) fr Γ (bf fr x):=fun B K n w l i O=>⟨_,R.lp,O.ev x⟩
theorem YG.Cw{fn:Fn}{first c:List Operand}:YG P (.makeFunc fn first.toArray c.toArray) fr Γ (.fn fn (first.map (bf fr)) (c.map (bf fr))):=fun B K n w l i O =>
 ⟨_,R.Cw,by
  have o:=O.args first
  have b:=O.args c
  simpa using Rel.fn fn _ _ _ _ o.1 b.1 o.2 b.2⟩
def Co:GV->Value
 |.v x=>x
 |_=>.nilFunc
def WU(n:Operand->Value)(op:Op):Option Value :=
 match op with
 |.binOp _ _ _ _ _=>go n op
 |.unOp _ _ _=>go n op
 |_=>none
def UH{K:Fz}{β:Bt}{x:Value}{g:GV}(h:Rel K β x g):Co g=x\/Co g=.nilFunc:=by
 cases h<;>first|exact .inl rfl|exact .inr rfl
theorem YG.go{v:Value}(h:WU (fun x=>Co (bf fr x)) op=some v):YG P op fr Γ (.v v):=fun B K n w l i O=>by
 refine⟨v,UG ?_,.v v⟩
 have R:∀x,Co (bf fr x)=ev l x\/Co (bf fr x)=.nilFunc:=fun x=>UH (O.ev x)
 unfold WU at h;split at h
 ·rename_i o t x y k;simp only[Xw.go]at h |-
  grind[Em,ev]
 ·rename_i o t x;simp only[Xw.go,wF]at h |-
  grind
 ·cases h
def YG.TH{c a b:Operand}{t:Bool}(W:bf fr c=.v (.bool t))(M:t=true):YG P (.pick c a b) fr Γ (bf fr a):=fun B K n w l i O=>⟨_,R.TH (O.gq W) M,O.ev a⟩
def YG.TG{c a b:Operand}{t:Bool}(W:bf fr c=.v (.bool t))(M:t=false):YG P (.pick c a b) fr Γ (bf fr b):=fun B K n w l i O=>⟨_,R.TG (O.gq W) M,O.ev b⟩
def YG.abo{x:Operand}{i o:Nat}(hx:bf fr x=.loc i o):YG P (.nilCheck x) fr Γ (.loc i o):=fun B K q w l n O=>by
 have h:=O.ev x;rw[hx]at h;generalize k:ev l x=v at h
 cases h with|loc _ _ b j=>exact⟨_,R.Eo k,.loc i o b j⟩
def YG.Lz{x:Operand}{cs:am}{o:Nat}(hx:bf fr x=.box cs o):YG P (.nilCheck x) fr Γ (.box cs o):=fun B K n w l k O=>by
 have h:=O.ev x;rw[hx]at h;generalize j:ev l x=v at h
 cases h with|box b Y _ _ i=>exact⟨_,R.Eo j,.box b Y o cs i⟩
def YG.Rh{x:Operand}{t:TypeId}[n:qG P t]{s:ab}(hx:bf fr x=.v (sv s)):YG P (.call ⟨.builtin .len,#[x],#[t]⟩) fr Γ (.v (ii s.length)):=YG.v1 hx fun l w h=>R.Rh h
def YG.ZJ{x:Operand}{t e:TypeId}{k:Nat}[n:lX P t e k]{k':Nat}{rows:List am}(hx:bf fr x=.sl k' rows):YG P (.call ⟨.builtin .len,#[x],#[t]⟩) fr Γ (.v (ii rows.length)):=fun B K q w l i O=>by
 have h:=O.ev x;rw[hx]at h;generalize j:ev l x=v at h
 cases h with
 |sl0 a c=>exact⟨_,R.Lt j,.v _⟩
 |sl b o c _ _ h _=>exact⟨_,R.Lt j,.v _⟩
def YG.abh{x:Operand}{t e:TypeId}{k:Nat}[q:lX P t e k]{i n:Nat}(hx:bf fr x=.vec i n):YG P (.call ⟨.builtin .len,#[x],#[t]⟩) fr Γ (.v (ii n)):=fun B K r w l o O=>by
 have h:=O.ev x;rw[hx]at h;generalize j:ev l x=v at h
 cases h with|vec _ _ a c h=>exact⟨_,R.Lt j,.v _⟩
def YG.abg{x:Operand}{t e:TypeId}{k:Nat}[o:lX P t e k]{a:Option Addr}{n c:Nat}(hx:bf fr x=.v (.slice a n c)):YG P (.call ⟨.builtin .len,#[x],#[t]⟩) fr Γ (.v (ii n)):=YG.v1 hx fun l w h=>R.Lt h
def YG.mM{x y:Operand}{t n:TypeId}{a b:ab}(hx:bf fr x=.v (sv a))(B:bf fr y=.v (sv b)):YG P (.binOp .eql t x y n) fr Γ (.v (.bool (a==b))):=YG.v2 hx B fun l w h k=>R.mM h k
def YG.mV{x y:Operand}{t n:TypeId}{a b:ab}(hx:bf fr x=.v (sv a))(B:bf fr y=.v (sv b)):YG P (.binOp .neq t x y n) fr Γ (.v (.bool (!(a==b)))):=YG.v2 hx B fun l w h k=>R.mV h k
def YG.iQ{x y:Operand}{t:TypeId}[n:qG P t]{s:ab}{k:IntKind}{i:Nat}{c:UInt8}(hx:bf fr x=.v (sv s))(B:bf fr y=.v (.int k i))(W:s[i]?=some c):YG P (.index t x y) fr Γ (.v (.int .u8 c.toNat)):=YG.v2 hx B fun l w h k=>R.iQ h k W
theorem YG.add{x y:Operand}{t n:TypeId}{a b:Int}(hx:bf fr x=.v (ii a))(B:bf fr y=.v (ii b))(i : -9223372036854775808<=a+b/\a+b<=9223372036854775807):YG P (.binOp .add t x y n) fr Γ (.v (ii (a+b))):=YG.v2 hx B fun l w h k=>R.add h k i.1 i.2
def YG.jR{x y:Operand}{t n:TypeId}{a b:Nat}(hx:bf fr x=.v (ii a))(B:bf fr y=.v (ii b))(i:a+b<=9223372036854775807):YG P (.binOp .add t x y n) fr Γ (.v (ii ((a+b:Nat):Int))):=YG.v2 hx B fun l w h k=>R.jR h k i
def YG.jK{x y:Operand}{t n:TypeId}{a:Nat}(hx:bf fr x=.v (ii a))(B:bf fr y=.v (ii 1))(i:a+1<=9223372036854775807):YG P (.binOp .add t x y n) fr Γ (.v (ii ((a+1:Nat):Int))):=YG.v2 hx B fun l w h k=>R.jK h k i
theorem YG.sub{x y:Operand}{t n:TypeId}{a b:Int}(hx:bf fr x=.v (ii a))(B:bf fr y=.v (ii b))(i : -9223372036854775808<=a-b/\a-b<=9223372036854775807):YG P (.binOp .sub t x y n) fr Γ (.v (ii (a-b))):=YG.v2 hx B fun l w h k=>R.sub h k i.1 i.2
def YG.mul{x y:Operand}{t n:TypeId}{a b:Int}(hx:bf fr x=.v (ii a))(B:bf fr y=.v (ii b))(i : -9223372036854775808<=a*b/\a*b<=9223372036854775807):YG P (.binOp .mul t x y n) fr Γ (.v (ii (a*b))):=YG.v2 hx B fun l w h k=>R.mul h k i.1 i.2
def YG.cat{x y:Operand}{t n:TypeId}{a b:ab}(hx:bf fr x=.v (sv a))(B:bf fr y=.v (sv b))(i:a.length+b.length<=9223372036854775807):YG P (.binOp .add t x y n) fr Γ (.v (sv (a++b))):=YG.v2 hx B fun l w h k=>R.cat h k i
def YG.kP{x:Operand}{t:TypeId}[q:qG P t]{s:ab}{lo hi:Operand}{k k':IntKind}{i j:Nat}(hx:bf fr x=.v (sv s))(G:bf fr lo=.v (.int k i))(Z:bf fr hi=.v (.int k' j))(n:i<=j/\j<=s.length):YG P (.slice t x (some lo) (some hi) none) fr Γ (.v (sv ((s.take j).drop i))) :=
 fun B K r w l o O=>⟨_,R.R6 (O.gq hx) ⟨k,O.gq G⟩ ⟨k',O.gq Z⟩ n.1 n.2,.v _⟩
theorem YG.kO{x:Operand}{t:TypeId}[q:qG P t]{s:ab}{lo:Operand}{k:IntKind}{i:Nat}(hx:bf fr x=.v (sv s))(G:bf fr lo=.v (.int k i))(n:i<=s.length):YG P (.slice t x (some lo) none none) fr Γ (.v (sv (s.drop i))) :=
 fun B K r w l o O=>⟨_,by
  have:=R.R6 (P:=P) (w:=w) (l:=l) (t:=t) (lo:=some lo) (hi:=none) (i:=i) (j:=s.length) (O.gq hx) ⟨k,O.gq G⟩ rfl n (aY _)
  grind,.v _⟩
def YG.kL{x:Operand}{t:TypeId}[q:qG P t]{s:ab}{hi:Operand}{k:IntKind}{j:Nat}(hx:bf fr x=.v (sv s))(Z:bf fr hi=.v (.int k j))(n:j<=s.length):YG P (.slice t x none (some hi) none) fr Γ (.v (sv (s.take j))) :=
 fun B K r w l o O=>⟨_,R.R6 (P:=P) (w:=w) (l:=l) (t:=t) (lo:=none) (hi:=some hi) (i:=0) (j:=j) (O.gq hx) rfl ⟨k,O.gq Z⟩ (bp _) n,.v _⟩
theorem YG.ext{x:Operand}{i:Nat}{cs:am}{g:GV}(hx:bf fr x=.tup cs)(hg:cs[i]?=some g):YG P (.extract x i) fr Γ g:=fun B K q w l o O=>by
 have h:=O.ev x;rw[hx]at h;generalize k:ev l x=v at h
 cases h with
 |tup n _ M h =>
  have j:i<n.length:=by grind
  exact⟨n[i],R.extract k zfJ,h i _ g zfJ hg⟩
def YG.gR{x y:Operand}{t e:TypeId}{k:Nat}[s:lX P t e k]{rows:List am}{A:IntKind}{i:Nat}{r:am}(hx:bf fr x=.sl k rows)(C:bf fr y=.v (.int A i))(z:rows[i]?=some r):YG P (.indexAddr t x y) fr Γ (.box r 0):=fun B K u w l q O=>by
 have h:=O.ev x;rw[hx]at h;have j:=(bY z).1;generalize n:ev l x=v at h
 cases h with
 |sl0 a c=>simp at j
 |sl b o c _ _ h _=>exact⟨_,R.ju n (O.gq C) j,.box b (o+i*k) 0 r (h i r z).2⟩
def YG.WC{x:Operand}{s:TypeId}{f z k:Nat}{agg:Bool}[r:ed P s f z k agg]{i o:Nat}(hx:bf fr x=.loc i o):YG P (.fieldAddr s x f) fr Γ (.loc i (o+z)):=fun B K t w l q O=>by
 have h:=O.ev x;rw[hx]at h;generalize n:ev l x=v at h
 cases h with|loc _ _ b j=>exact⟨_,R.QK n,.loc i _ b j⟩
def YG.WA{x:Operand}{s:TypeId}{f z k:Nat}{agg:Bool}[q:ed P s f z k agg]{cs:am}{o:Nat}(hx:bf fr x=.box cs o):YG P (.fieldAddr s x f) fr Γ (.box cs (o+z)):=fun B K r w l n O=>by
 have h:=O.ev x;rw[hx]at h;generalize j:ev l x=v at h
 cases h with|box b Y _ _ i=>exact⟨_,R.QK j,by rw[mg];exact .box b Y _ cs i⟩
theorem YG.vE{x:Operand}{t:TypeId}[n:Ty P t false 1]{i o:Nat}{E:TypeId}{cs:am}{g:GV}(hx:bf fr x=.loc i o)(q:Γ[i]?=some (.box E cs))(hg:cs[o]?=some g):YG P (.load t x) fr Γ g:=fun B K H w l j O=>by
 have h:=O.ev x;rw[hx]at h;generalize s:ev l x=v at h
 cases h with
 |loc _ _ b k =>
  have⟨A,F,r,c,G,C⟩:=j.ob i _ q;rw[k]at r;cases r;have⟨u,M,z⟩:=G.at hg
  grind[R.ld,zP]
def YG.XN{x:Operand}{t:TypeId}[n:Ty P t false 1]{cs:am}{o:Nat}{g:GV}(hx:bf fr x=.box cs o)(hg:cs[o]?=some g):YG P (.load t x) fr Γ g:=fun B K q w l i O=>by
 have h:=O.ev x;rw[hx]at h;generalize k:ev l x=v at h
 cases h with
 |box b Y _ _ j =>
  have⟨W,u,M,z⟩:=i.fz _ _ _ (j o g hg);exact⟨u,R.ld k M,z.pc W⟩
theorem sA{k:Nat}{rows:List am}(N:gE k rows){i j:Nat}{r:am}{g:GV}(v:rows[i]?=some r)(hg:r[j]?=some g):rows.flatten[i*k+j]?=some g:=by
 induction rows generalizing i with
 |nil=>simp at v
 |cons a rows O =>
  have w:a.length=k:=(N a (List.mem_cons_self)).1
  cases i with
  |zero =>
   grind
  |succ i =>
   rw[flatten_cons,j0 zff,w];rw[show(i+1)*k+j-k=i*k+j by grind];exact O (fun r v=>N r (ec _ v)) zff
theorem YG.Ab{x:Operand}{t:TypeId}{k:Nat}[F:Ty P t true k]{i o:Nat}{E:TypeId}{cs gs:am}(hx:bf fr x=.loc i o)(q:Γ[i]?=some (.box E cs))(hg:(cs.drop o).take k=gs)(N:gs.length=k):YG P (.load t x) fr Γ (.agg gs):=fun B K H w l n O=>by
 have h:=O.ev x;rw[hx]at h;generalize u:ev l x=v at h
 cases h with
 |loc _ _ b s =>
  have⟨A,z,r,c,G,C⟩:=n.ob i _ q;rw[s]at r;cases r;have e:=(G.drop o).take k;rw[hg]at e;refine⟨.agg ((z.drop o).take k).toArray,R.XQ u zfh (fun j v Y=>?_),.agg _ _ e.1 e.2⟩
  grind[jd]
theorem wx{K:Fz}{β:Bt}{H:Array Obj}{b:Nat}:∀(gs:am)(o:Nat),(∀(j:Nat)g,gs[j]?=some g->∃v,jd H b (o+j)=some v/\Rel K β v g)->∃vs:List Value,bF K β vs gs/\∀(j:Nat)v,vs[j]?=some v->jd H b (o+j)=some v
 |[],o,_=>⟨[],.nil,fun j v h=>by simp at h⟩
 |g::gs,o,h=>by
  have⟨v,k,w⟩:=h 0 g rfl;obtain⟨vs,q,c⟩:=wx gs (o+1) (fun j R X=>by rw[show o+1+j=o+(j+1) by omega];exact h (j+1) R X);refine⟨v::vs,.cons w q,fun j u Y=>?_⟩
  grind
theorem YG.XO{x:Operand}{t:TypeId}{k:Nat}[C:Ty P t true k]{cs gs:am}{o:Nat}(hx:bf fr x=.box cs o)(hg:(cs.drop o).take k=gs)(N:gs.length=k):YG P (.load t x) fr Γ (.agg gs):=fun B K β w l i O=>by
 have h:=O.ev x;rw[hx]at h;generalize r:ev l x=v at h
 cases h with
 |box b Y _ _ n =>
  obtain⟨s,q,c⟩:=wx (K:=K) (β:=β) (H:=w.heap) (b:=b) gs (Y+o) (fun j g Z=>by
   have z:cs[o+j]?=some g:=by
    grind
   have⟨W,u,M,A⟩:=i.fz _ _ _ (n (o+j) g z)
   exact⟨u,by grind,A.pc W⟩)
  exact⟨.agg s.toArray,R.XQ r zfh c,.agg _ _ q.1 q.2⟩
def mO:GV->Option am
 |.v x=>match CC x with
  |true=>some [.v x]
  |false=>none
 |.agg O=>some O
 |.U=>none
 |.tup _=>none
 |.vp _ _ _ _ _=>none
 |.sl k H=>some [.sl k H]
 |.box O o=>some [.box O o]
 |.loc i o=>some [.loc i o]
 |.vec i n=>some [.vec i n]
 |.arr i o n=>some [.arr i o n]
 |.fn f a c=>some [.fn f a c]
def pS:am->Nat->am->am
 |cs,_,[]=>cs
 |cs,o,v::r=>pS (bJ cs o v) (o+1) r
def yL(q:Nat->Option (Nat × Nat)):am->List (Nat × GV)->Option am
 |cs,[]=>some cs
 |cs,(i,g)::r=>match q i with
  |none=>none
  |some (o,k)=>match mO g with
   |none=>none
   |some s=>if s.length≠k ||decide (o+s.length>cs.length)then none else yL q (pS cs o s) r
theorem Rel.cells{K:Fz}{β:Bt}{x:Value}{g:GV}{gs:am}(h:Rel K β x g)(hg:mO g=some gs):∃vs:List Value,x.cells=vs.toArray/\bF K β vs gs:=by
 have one:∀{x:Value}{g:GV},Rel K β x g->x.cells=#[x]->∃vs:List Value,x.cells=vs.toArray/\bF K β vs [g]:=fun w W=>⟨[_],W,.cons w .nil⟩
 cases h with
 |v x =>
  simp only[mO]at hg;split at hg
  ·rename_i A;cases hg;exact one (.v _) (l9 A).1
  grind
 |U x=>cases hg
 |agg vs O M h=>cases hg;grind[Value.cells]
 |tup vs O M h=>cases hg
 |sl0 a c k=>cases hg;exact one (.sl0 a c k) rfl
 |sl b o c k H h W=>cases hg;exact one (.sl b o c k H h W) rfl
 |box b Y o O h=>cases hg;exact one (.box b Y o O h) rfl
 |loc i o b h=>cases hg;exact one (.loc i o b h) rfl
 |vec i n a c h=>cases hg;exact one (.vec i n a c h) rfl
 |vp i n k idx z x h=>cases hg
 |arr i o n b c h=>cases hg;exact one (.arr i o n b c h) rfl
 |fn f X q first e M j h l=>cases hg;exact one (.fn f X q first e M j h l) rfl
def n7:am->Bool
 |[]=>true
 |g::s=>g.one&&n7 s
def mZ:am->Bool
 |[]=>true
 |g::s=>g.pc&&mZ s
theorem lz{gs:am}(h:mZ gs=true):∀g∈gs,g.pc=true:=by
 induction gs with
 |nil=>simp
 |cons x gs O =>
  simp_all[mZ,aI,List.mem_cons]
theorem bF.lS{K:Fz}{β:Bt}{vs:List Value}{gs:am}(h:bF K β vs gs)(A:n7 gs=true):lS vs=true:=by
 induction gs generalizing vs with
 |nil=>grind[Xw.lS]
 |cons g gs O =>
  cases vs with
  |nil=>rfl
  |cons v vs =>
   simp only[n7,aI]at A;have⟨o,b⟩:=h.oI;have G:=(l9 (o.one A.1)).2
   grind[Xw.lS]
end
theorem bF.nd{K:Fz}{β:Bt}{us:List Value}{G:am}(k:bF K β us G):∀{vs:List Value}{gs:am}(o:Nat),bF K β vs gs->bF K β (nd vs o us) (pS gs o G):=by
 have M:∀{vs:List Value}{gs:am}(o:Nat){v:Value}{g:GV},Rel K β v g->bF K β vs gs->bF K β (fc vs o v) (bJ gs o g):=by
  intro vs
  induction vs with
  |nil =>
   intro gs o v g j h;have:gs=[]:=ll h.1.symm;subst this;exact .nil
  |cons x vs O =>
   intro gs o v g j h
   cases gs with
   |nil=>grind
   |cons y gs =>
    have⟨q,b⟩:=h.oI
    cases o with
    |zero=>exact .cons j b
    |succ o=>exact .cons q (O o j b)
 induction us generalizing G with
 |nil =>
  intro vs gs o h;have:G=[]:=ll k.1.symm;subst this;exact h
 |cons u us O =>
  intro vs gs o h
  cases G with
  |nil=>grind
  |cons g G =>
   have⟨q,b⟩:=k.oI;exact O b (o+1) (M o q h)
def wD{K:Fz}{β:Bt}{q:Nat->Option (Nat × Nat)}{l:List Value}{fr:am}(O:FR K β fr l):∀(parts:List (Nat × Operand))(vs:List Value)(gs cs:am),bF K β vs gs ->
  yL q gs (parts.map fun x=>(x.1,bf fr x.2))=some cs->∃us,qK q vs (parts.map fun x=>(x.1,ev l x.2))=some us/\bF K β us cs
 |[],vs,gs,cs,h,n=>by cases n;grind[qK]
 |(i,x)::r,vs,gs,cs,h,n=>by
  simp only[List.map_cons,yL]at n;simp only[List.map_cons,qK]
  cases Y:q i with
  |none=>grind
  |some y =>
   have⟨o,k⟩:=y;rw[Y]at n;simp only at n |-
   cases X:mO (bf fr x)with
   |none=>grind
   |some G =>
    rw[X]at n;simp only at n;have⟨us,j,u⟩:=(O.ev x).cells X
    have w:(ev l x).cells.size=G.length:=by grind
    rw[w,h.1];split at n
    ·cases n
    ·rename_i W;rw[ae W]
     have s:(ev l x).cells.toList=us:=by rw[j]
     rw[s];exact wD O r _ _ cs (u.nd o h) n
section
variable{P:Program}{m:Nat}{Q:dN}{fr:am}{Γ:ap}{ops:Array Oper}{rest:List Oper}{d:Option Tmp}{op:Op}{ty:TypeId}{pos:String}{af:Array Edge}
def gZ(z:List Value):am:=z.map .v
def YG.build{t:TypeId}{o:List (Nat × Nat)}{z:List Value}[n:sd P t o z]{parts:List (Nat × Operand)}{cs:am}(hf:yL (fun i=>o[i]?) (gZ z) (parts.map fun x=>(x.1,bf fr x.2))=some cs) :
  YG P (.build t parts.toArray) fr Γ (.agg cs):=fun B K r w l j O=>by
 have⟨u,q,b⟩:=wD O parts z _ cs bF.self hf;exact⟨_,R.build q,.agg u cs b.1 b.2⟩
theorem nP{K:Fz}{β:Bt}{l:List Value}{t:Nat}(h:FR K β fr l)(M:il fr t=true):il l t=true:=by
 induction h generalizing t with
 |nil=>cases M
 |cons _ _ O=>cases t with|zero=>rfl|succ t=>exact O M
theorem vL{l:List Value}{t:Nat}(h:il l t=true)(u:Value):nth (fc l t u) t=u:=by
 induction l generalizing t with
 |nil=>cases h
 |cons x l O=>cases t with|zero=>rfl|succ t=>exact O h
theorem o7{l:List Value}{t k:Nat}(h:k≠t)(u:Value):nth (fc l t u) k=nth l k:=by
 induction l generalizing t k with
 |nil=>rfl
 |cons x l O=>cases t with
  |zero=>cases k with|zero=>omega|succ k=>rfl
  |succ t=>cases k with|zero=>rfl|succ k=>grind[nth,fc]
def GL.alloc{t:TypeId}{z:Value}{cs:am}[o:qm P t z](n:gZ z.cells.toList=cs)(h:GL P m ops Q rest (bX fr d (.loc Γ.length 0)) (Γ++[.box t cs])):GL P m ops Q (⟨d,.alloc t,ty,pos,af,none⟩::rest) fr Γ:=fun B K q w l j i O=>by
 refine WL.alloc (z:=z) fun b Z c=>?_
 have F:=i.add (vs:=z.cells.toList) (cs:=cs) (E:=t) (by simpa using c) (by rw[<-n];exact bF.self);exact zcL
def GL.box{t:TypeId}{x:Operand}{cs:am}(hx:mO (bf fr x)=some cs)(h:GL P m ops Q rest (bX fr d (.loc Γ.length 0)) (Γ++[.box t cs])):GL P m ops Q (⟨d,.box t x,ty,pos,af,none⟩::rest) fr Γ:=fun B K q w l j i O=>by
 have⟨n,o,e⟩:=(O.ev x).cells hx
 refine WL.box rfl fun b Z c=>?_
 rw[o]at c;have F:=i.add c e;exact zcL
def oset:ap->Nat->Ob->ap
 |[],_,_=>[]
 |_::l,0,x=>x::l
 |y::l,n+1,x=>y::oset l n x
theorem bI(l:ap)(i:Nat)(x:Ob):oset l i x=l.set i x:=by
 induction l generalizing i with
 |nil=>rfl
 |cons y l O=>cases i with|zero=>rfl|succ i=>simp[oset,O]
def yd:∀(us:List Value)(vs:List Value)(o:Nat),setL vs.toArray o us=(nd vs o us).toArray
 |[],vs,o=>rfl
 |u::us,vs,o=>by rw[setL,nd,ym];exact yd us _ _
theorem GL.st{x y:Operand}{t:TypeId}{agg:Bool}{k:Nat}[W:Ty P t agg k]{i o:Nat}{E:TypeId}{cs gs:am}(hx:bf fr x=.loc i o)(n:Γ[i]?=some (.box E cs))(N:mO (bf fr y)=some gs)(X:gs.length=k)(C:n7 gs=true)
  (Y:Nat.ble (o+k) cs.length=true)(h:GL P m ops Q rest (bX fr d (.v undef)) (oset Γ i (.box E (pS cs o gs)))):GL P m ops Q (⟨d,.store t x y,ty,pos,af,none⟩::rest) fr Γ:=fun B K R w l J u q=>by
 have r:=q.ev x;rw[hx]at r;generalize M:ev l x=v at r
 cases r with
 |loc _ _ b z =>
  have⟨S,vs,s,F,G,T⟩:=u.ob i _ n;rw[z]at s;cases s;have⟨Z,e,j⟩:=(q.ev y).cells N
  have H:o+k<=cs.length:=by simp_all
  refine WL.st (t:=t) M rfl F zff zff (by rw[e];simpa using j.lS C) fun O A=>?_
  rw[e,List.toList_toArray,yd]at A;have c:=u.store n z A (j.nd o G);rw[<-bI]at c;exact h B K R O _ J c (q.put d (.v _))
def chunk:Nat->Nat->am->List am
 |0,_,_=>[]
 |n+1,k,s=>s.take k::chunk n k (s.drop k)
theorem wy{k:Nat}:∀(n:Nat)(gs:am),gs.length=n*k->(chunk n k gs).flatten=gs/\(chunk n k gs).length=n/\∀r∈chunk n k gs,r.length=k/\∀g∈r,g∈gs
 |0,gs,h=>by
  grind[chunk]
 |n+1,gs,h=>by
  have N:k<=gs.length:=by grind
  have⟨o,b,G⟩:=wy (k:=k) n (gs.drop k) zff
  grind[flatten_cons,List.take_append_drop,List.length_cons,List.mem_of_mem_take,List.mem_of_mem_drop,chunk]
def zs:Nat->List Value->am
 |0,_=>[]
 |n+1,z=>gZ z++zs n z
theorem BN{K:Fz}{β:Bt}{n k:Nat}{z:List Value}(o:z.length=k)(N:0<k):bF K β ((List.range (n*k)).map fun j=>z.getD (j%k) undef) (zs n z):=by
 induction n with
 |zero=>grind[zs]
 |succ n O =>
  have e:(List.range ((n+1)*k)).map (fun j=>z.getD (j%k) undef)=(List.range k).map (fun j=>z.getD (j%k) undef)++(List.range (n*k)).map fun j=>z.getD (j%k) undef:=by
   simp[Nat.succ_mul,Nat.add_comm,List.range_add,gJ,List.map_map,List.map_congr_left]
  rw[e,zs];refine bF.app ?_ O
  have:(List.range k).map (fun j=>z.getD (j%k) undef)=z:=by
   apply List.ext_getElem
   ·simp[o]
   grind[Nat.mod_eq_of_lt,cK]
  rw[this];exact bF.self
theorem GL.X0{t e:TypeId}{k:Nat}{z:List Value}[s:od P t e k z]{n:Nat}{parts:List (Nat × Operand)}{cs:am}(hn:Nat.ble (n*k) 16777216=true)(hf:yL (fun i=>some (i*k,k)) (zs n z) (parts.map fun x=>(x.1,bf fr x.2))=some cs)
  (R:Nat.beq cs.length (n*k)=true)(W:mZ cs=true)(h:GL P m ops Q rest (bX fr d (.sl k (chunk n k cs))) Γ):GL P m ops Q (⟨d,.buildSlice t n parts.toArray,ty,pos,af,none⟩::rest) fr Γ:=fun B K β w l G E O=>by
 have⟨J,u,c⟩:=wD O parts _ _ cs (BN (n:=n) s.zl s.pos) hf
 have q:cs.length=n*k:=by simp_all
 refine WL.Cx (by simp_all) u fun b Z A=>?_
 have⟨N,F⟩:=E.uz A c (lz W);have⟨H,M,C⟩:=wy n cs q;refine h B _ β Z _ G F ((O.mono N (dV.refl β)).put d ?_)
 have o:gE k (chunk n k cs):=fun r v=>⟨(C r v).1,fun g X=>lz W g ((C r v).2 g X)⟩
 have:=Rel.sl (K:=kb K b cs) (β:=β) b 0 n k (chunk n k cs) (fun i r v=>⟨(o r (bP v)).1,fun j g X=>by
  rw[dJ];grind[T9,sA]⟩) zfh
 grind
theorem GL.mkV{t e:TypeId}{k:Nat}{z:List Value}[s:od P t e k z]{n:Nat}{parts:List (Nat × Operand)}{cs:am}(hn:Nat.ble (n*k) 16777216=true)(hf:yL (fun i=>some (i*k,k)) (zs n z) (parts.map fun x=>(x.1,bf fr x.2))=some cs)
  (Z:Nat.beq cs.length (n*k)=true)(R:mZ cs=true)(h:GL P m ops Q rest (bX fr d (.vec Γ.length n)) (Γ++[.vec e k 0 (chunk n k cs)])):GL P m ops Q (⟨d,.buildSlice t n parts.toArray,ty,pos,af,none⟩::rest) fr Γ:=fun B K β w l N F E=>by
 have⟨S,J,Y⟩:=wD E parts _ _ cs (BN (n:=n) s.zl s.pos) hf
 have v:cs.length=n*k:=by simp_all
 have o:n*k<=16777216:=by simp_all
 have O:n<=16777216:=jk (Nat.le_mul_of_pos_right n s.pos) o
 refine WL.Cx o J fun b T c=>?_
 have⟨X,H,C⟩:=wy n cs v
 have j:gE k (chunk n k cs):=fun r G=>⟨(C r G).1,fun g M=>lz R g ((C r G).2 g M)⟩
 have A:=iz.Yc c (n:=n) (k:=k) zfh zfr;have q:=F.BV (x:=.slice (some ⟨b,0,none⟩) n n) (xs:=S) (rows:=chunk n k cs) c.ext (by rw[H];exact A.base (bp _)) (fun W u=>by cases u;rw[c.fresh];simp) zff j;refine h B K _ T _ N q ((E.mono (dm.refl K) (iV (by rw[F.out _ (aY _)];trivial))).put d ?_);exact .vec _ n _ n ⟨_,_,b7,by omega,fun _=>rfl⟩
def RN(x:Operand)(t:Tmp):Bool :=
 match x with
 |.tmp k=>!Nat.beq k t
 |_=>true
theorem Wu{l:List Value}{x:Operand}{t:Tmp}(h:RN x t=true)(u:Value):ev (put l (some t) u) x=ev l x:=by
 cases x with
 |tmp k=>exact o7 (fun e=>by simp_all[RN]) u
 |_=>rfl
theorem GL.push{x s:Operand}{t e k E:Nat}{z:List Value}[hT:nu P t e k E][hZ:od P t e k z]{C:Tmp}{PE:TypeId}{M:String}{S:Array Edge}{i n fz:Nat}{rows:List am}{gs:am}
  (hx:mO (bf fr x)=some gs)(hk:Nat.beq gs.length k=true)(h1:n7 gs=true)(hp:mZ gs=true)(hs:bf fr s=.vec i n)(hsd:RN s C=true)(hd:il fr C=true)(J:Γ[i]?=some (.vec e k fz rows))(hn:rows.length=n)
  (T:(n+1<=9223372036854775807/\(n+1)*E<=140737488355328)/\k<=16777216)
  (h:GL P m ops Q rest (bX (bX fr (some C) U) d (.vec i (n+1))) (oset Γ i (.vec e k fz (rows++[gs])))) :
  GL P m ops Q (⟨some C,.buildSlice t 1 #[(0,x)],PE,M,S,none⟩::⟨d,.call ⟨.builtin .append,#[s,.tmp C],#[t,t]⟩,ty,pos,af,none⟩::rest) fr Γ:=fun B K β w l hm hI O=>by
 subst hn;have⟨us,hu1,Xy⟩:=(O.ev x).cells hx;have⟨h0,xs,o1,R,o3,o4,o5,o6⟩:=hI.ob i _ J;have A:=O.ev s;rw[hs]at A
 have Ti:ev l s=h0:=by
  generalize hv:ev l s=v at A
  cases A with
  |vec _ _ a c hh =>
   grind
 have Z:=nP O hd
 have S8:gs.length=k:=by simp_all
 refine WL.push (base:=0) (v:=h0) (vs:=us) (val:=ev l x) (xs:=xs) (n:=rows.length) rfl (fun u=>by grind[Wu]) (fun u=>vL Z u) hu1 zfh (Xy.lS h1) R T.1.1 T.1.2 T.2 (bp _) ?_;intro u v' w' q G Jd Fs
 obtain⟨K',hK,NX,F⟩:=hI.grow J o1 ⟨R,o3⟩ (news:=[gs]) (ns:=us) q G Jd zff (fun r hr=>by grind[lz]) zfg (fun b j o v ho hv=>by
  rcases Fs with N|N
  ·exact N.c hv (fun h=>h)
  ·have Jg:o<xs.length:=by rw[R.1];exact BM ho (s0 k o6)
   have⟨b2,c2,xN,_,_,Y⟩:=R.cells.2 zff
   have W:b2=b:=by rw[xN]at j;cases j;rfl
   subst W;have H:=Y o xs[o] (by simp[Jg]);rw[fS,hv]at H;cases H;have⟨b3,c3,W6,_,_,hc3⟩:=q.cells.2 zfs
   have X:b3=b2:=by rw[W6,j]at N;cases N;rfl
   subst X
   rw[<-fS];grind)
 rw[<-bI]at F;refine h B K' _ w' _ hm F (((O.mono hK NX).put (some C) (.U u)).put d ?_);obtain⟨a,c,rfl⟩:=q.shape;exact .vec i _ a c ⟨_,_,b7,by simp,fun _=>rfl⟩
theorem Wk.Cz{t:Nat}{a:Option Addr}{c:Nat}(E k:Nat)(M:bD fr t=.v (.slice none 0 0)):Wk m fr Γ (bJ fr t (.vec Γ.length 0)) (Γ++[.vec E k 0 []]):=fun B K s w l A j O=>by
 have q:s Γ.length=.no:=j.out _ (aY _);have G:=j.BV (w':=w) (E:=E) (k:=k) (x:=.slice none 0 0) (xs:=[]) (rows:=[]) (Ext.refl w) (iz.nil w 0 E k) (fun b o=>by cases o) bF.nil (fun r z=>by cases z);refine⟨K,_,G,?_⟩;have F:=O.mono (dm.refl K) (iV (i:=Γ.length) (x:=.gr (.slice none 0 0) ([]:List am).length) zfu);have C:nth l t=.slice none 0 0:=Rel.eW (by rw[<-M];exact O.nth t)
 have N:∀(l:List Value)(t:Nat)(v:Value),nth l t=v->(∃a n c,v=.slice a n c)->fc l t v=l:=by
  intro l
  induction l with
  |nil=>grind[fc]
  |cons x l R =>
   intro t v u e
   cases t with
   |zero=>grind[nth,fc]
   |succ t=>grind[nth,fc]
 have:=F.fc t (v:=.slice none 0 0) (g:=.vec Γ.length 0) (.vec _ 0 none 0 ⟨_,_,b7,aY _,fun _=>rfl⟩)
 simp_all
theorem Av{l:List Value}{t:Nat}(h:il l t=true):fc l t (nth l t)=l:=by
 induction l generalizing t with
 |nil=>cases h
 |cons x l O=>cases t with|zero=>rfl|succ t=>simp only[fc,nth];rw[O h]
theorem Wk.jx{t i n E k fz:Nat}{rows:List am}(ht:bD fr t=.vec i n)(Jf:il fr t=true)(s:Γ[i]?=some (.vec E k fz rows))(hn:rows.length=n):Wk m fr Γ (bJ fr t (.sl k rows)) (oset Γ i (.vec E k n rows)):=fun B K F w l hm N M=>by
 subst hn;have⟨h0,xs,O,o2,o3,R,o5,o6⟩:=N.ob i _ s;have⟨G,Y,z,e⟩:=N.jx s;rw[<-bI]at e;refine⟨G,F,e,?_⟩;have b:=M.nth t;rw[ht]at b
 have o:Rel G F (nth l t) (.sl k rows):=by
  generalize nth l t=v at b
  cases b with
  |vec _ _ a c Z =>
   have⟨h',m',H,e2,T⟩:=Z;rw[O]at H;cases H;have J:=T rfl
   rcases o2.2 with⟨u,W⟩|⟨g,S,cu,u,_,_,C,_⟩
   ·have:rows=[]:=ll W;subst this;exact .sl0 _ _ _
   ·rw[u]at J;cases J;refine .sl g 0 _ k rows (fun j r b=>⟨(R r (bP b)).1,fun q X A=>?_⟩) C;rw[dJ];exact z _ g O (by rw[u];rfl) _ X (sA R b A)
 have:=(M.mono Y (dV.refl F)).fc t o
 grind[Av,nP]
def nG(i:Nat)(cs:am):GV->GV
 |.loc j o=>match Nat.beq j i with
  |true=>.box cs o
  |false=>.loc j o
 |g=>match g.ok (other i)with
  |true=>g
  |false=>.U
theorem Rel.frz{K S:Fz}{β:Bt}{i b:Nat}{cs:am}{x:Value}{g:GV}(h:Rel K β x g)(N:dm K S)(k:β i=.fix b)(X:∀(j:Nat)g,cs[j]?=some g->S b j=some g):Rel S (dT (other i) β) x (nG i cs g):=by
 have W:∀{g:GV},Rel K β x g->Rel S (dT (other i) β) x (match g.ok (other i)with|true=>g|false=>.U):=by
  intro g h;split
  ·rename_i A;exact(h.mono N (dV.refl β)).res A
  ·exact .U _
 cases g with
 |loc j o =>
  simp only[nG];split
  ·rename_i Y
   have Y:j=i:=by simp_all
   subst Y
   cases h with
   |loc _ _ B r =>
    rw[k]at r;cases r;have:=Rel.box (K:=S) (β:=dT (other j) β) b 0 o cs (fun q g Z=>by grind)
    grind
  ·rename_i Y
   have Y:j≠i:=by intro e;simp_all
   exact(h.mono N (dV.refl β)).res (vN Y)
 |_=>exact W h
def nZ(i:Nat)(cs:am):am->am
 |[]=>[]
 |g::s=>nG i cs g::nZ i cs s
theorem Wk.freeze{i:Nat}{E:TypeId}{cs:am}(o:Γ[i]?=some (.box E cs))(W:mZ cs=true)(j:kW (other i) (oset Γ i .gone)=true)(r:m<=i):Wk m fr Γ (nZ i cs fr) (oset Γ i .gone):=fun B K u w l N k O=>by
 rw[bI]at j |-;have⟨b,s,q,c,G,C⟩:=k.ob i _ o;have⟨S,n,e,F⟩:=k.freeze o (lz W) j zfh;refine⟨S,_,F,?_⟩;clear k F j o
 induction O with
 |nil=>exact .nil
 |cons h t R=>exact .cons (h.frz n q (e b q)) R
end
def cX:List Nat->Nat->Nat->Nat
 |[],n,j=>n+j
 |i::_,_,0=>i
 |_::r,n,j+1=>cX r n j
def fB:ap->List Nat->ap->ap
 |Γ,[],X=>Γ++X
 |Γ,_::_,[]=>Γ
 |Γ,i::r,x::X=>fB (oset Γ i x) r X
def jZ:List Nat->Nat->Bool
 |[],_=>true
 |i::r,n=>Nat.blt i n&&!(r.contains i)&&jZ r n
section
variable{bc:List Nat}
theorem CI{n j:Nat}(h:bc.length<=j):cX bc n j=n+(j-bc.length):=by
 induction bc generalizing j with
 |nil=>rfl
 |cons i r O =>
  cases j with
  |zero=>simp at h
  |succ j=>grind[cX]
theorem Vu{n j:Nat}(h:j<bc.length):∃i∈bc,cX bc n j=i:=by
 induction bc generalizing j with
 |nil=>simp at h
 |cons i r O =>
  cases j with
  |zero=>simp[cX]
  |succ j=>have⟨x,o,b⟩:=O (j:=j) zff;grind[cX]
theorem Gf{n:Nat}(h:jZ bc n=true):∀i∈bc,i<n:=by
 induction bc with
 |nil=>simp
 |cons x r O =>
  simp_all[jZ,aI,List.mem_cons]
theorem An{n:Nat}(h:jZ bc n=true):∀{j z:Nat},cX bc n j=cX bc n z->j=z:=by
 induction bc with
 |nil=>simp[cX]
 |cons x r O =>
  have N:=Gf h;simp only[jZ,aI,Bool.not_eq_true']at h
  have hx:∀j,cX r n j≠x:=fun j e=>by
   by_cases Y:j<r.length
   ·have⟨i,k,b⟩:=Vu (n:=n) Y
    grind
   ·have:=CI (n:=n) (Nat.le_of_not_lt Y);have:=N x zfg;omega
  intro j z e
  cases j with
  |zero=>cases z with
   |zero=>rfl
   |succ z=>exact absurd e.symm (hx z)
  |succ j=>cases z with
   |zero=>exact absurd e (hx j)
   |succ z=>rw[O h.2 e]
theorem H9{n:Nat}:∀{Γ xs:ap},Γ.length=n->jZ bc n=true->bc.length<=xs.length ->
  (∀j,(fB Γ bc xs)[cX bc n j]?=xs[j]?)/\(∀i,(∀j,cX bc n j≠i)->(fB Γ bc xs)[i]?=Γ[i]?)/\(fB Γ bc xs).length=n+(xs.length-bc.length):=by
 induction bc with
 |nil =>
  intro Γ xs c _ _;refine⟨fun j=>?_,fun i k=>?_,by simp[fB,c]⟩
  ·grind[fB,cX]
  ·simp only[fB,cX]at k |-
   by_cases N:i<n
   ·grind
   ·exact absurd zfh (k (i-n))
 |cons x r O =>
  intro Γ xs c E M;have W9:=@An (x::r) n E;have N:=Gf E x zfg
  cases xs with
  |nil=>simp at M
  |cons y q =>
   simp only[jZ,aI,Bool.not_eq_true']at E;have⟨o,b,G⟩:=O (Γ:=oset Γ x y) (xs:=q) zfl E.2 zff
   have hx:∀j,cX r n j≠x:=fun j l=>by
    have:=@W9 (j+1) 0 l;omega
   refine⟨fun j=>?_,fun i k=>?_,by grind[fB]⟩
   ·cases j with
    |zero =>
     simp only[fB,cX];rw[b x hx,bI,eY];grind
    |succ j=>simp only[fB,cX];exact o j
   ·simp only[fB];rw[b i (fun j=>k (j+1)),bI,eY];rw[ae (by intro e;exact k 0 e)]
end
def hO.Bj{K:Fz}{β:Bt}{w:World}{f:Nat->Nat}{j:Nat}{x:Ob}(h:hO K β w (f j) (x.b8 f)):hO K (fun j=>β (f j)) w j x:=by
 cases x with
 |gone=>exact h
 |box E R =>
  have⟨b,l,o,c,G,C⟩:=h;rw[lH]at G;exact⟨b,l,o,c,⟨by grind,fun i v g e n=>(G.2 i v (b8 f g) e zff).Bj⟩,C⟩
 |vec E k S H =>
  have⟨t,X,o,c,G,C,e⟩:=h;refine⟨t,X,o,c,⟨G.1,fun i v g n O=>(G.2 i v g n O).pc ?_⟩,C,e⟩;exact zaM
 |vech E k H x =>
  have⟨X,o,c,G,C,e⟩:=h;refine⟨X,o,c,⟨G.1,fun i v g n O=>(G.2 i v g n O).pc ?_⟩,C,e⟩;exact zaM
 |lost=>exact h
 |blk b q=>exact h
 |blob q=>exact h
def hO.BI{K:Fz}{β:Bt}{w:World}{f:Nat->Nat}{j:Nat}{x:Ob}(h:hO K (fun j=>β (f j)) w j x):hO K β w (f j) (x.b8 f):=by
 cases x with
 |gone=>exact h
 |box E R =>
  have⟨b,u,o,e,G,C⟩:=h;refine⟨b,u,o,e,?_,C⟩;rw[lH];refine⟨by grind,fun i v g l n=>?_⟩;rw[dB]at n
  cases W:R[i]? with
  |none=>grind
  |some c=>rw[W]at n;cases n;exact(G.2 i v c l W).BI
 |vec E k S H =>
  have⟨t,X,o,e,G,C,l⟩:=h;refine⟨t,X,o,e,⟨G.1,fun i v g n O=>(G.2 i v g n O).pc ?_⟩,C,l⟩;exact zaM
 |vech E k H x =>
  have⟨X,o,e,G,C,l⟩:=h;refine⟨X,o,e,⟨G.1,fun i v g n O=>(G.2 i v g n O).pc ?_⟩,C,l⟩;exact zaM
 |lost=>exact h
 |blk b q=>exact h
 |blob q=>exact h
section
variable{K:Fz}{β:Bt}{Γ:ap}{w:World}{B:Bs}
theorem Inv.enter{bc:List Nat}{F:ap}(h:Inv B K β Γ w)(E:jZ bc Γ.length=true)(M:F.length=bc.length)(o:∀j x,F[j]?=some x->Γ[cX bc Γ.length j]?=some (x.b8 (cX bc Γ.length))) :
  Inv (cur K (fun j=>β (cX bc Γ.length j)) F w) K (fun j=>β (cX bc Γ.length j)) F w:=by
 have k:∀i,F.length<=i->β (cX bc Γ.length i)=.no:=fun i l=>by
  rw[CI zfh];exact h.out _ zfh
 exact⟨Ext.refl w,dm.refl K,dV.refl _,k,h.fz,fun i x l=>(h.ob _ _ (o i x l)).Bj,k,fun i j b l Y=>An E (h.dis _ _ b l Y),fun i b n=>.inl ⟨i,n⟩,fun _ _ _ h=>.inl h,h.tab.step (S:=gS) (Ext.refl w) (fun _ h=>h.elim) (dm.refl K) (fun i q c=>.inl ⟨_,c⟩)⟩
theorem Inv.leave{bc:List Nat}{W u:ap}{X:Fz}{v:Bt}{w':World}(h:Inv B K β Γ w)(T:jZ bc Γ.length=true)(hl:W.length=bc.length)(hl':bc.length<=u.length)
  (s:Inv (cur K (fun j=>β (cX bc Γ.length j)) W w) X v u w') :
  ∃gi,dm K X/\dV β gi/\(∀j,gi (cX bc Γ.length j)=v j)/\Inv B X gi (fB Γ bc (u.map (Ob.b8 (cX bc Γ.length)))) w':=by
 have⟨s1,s2,s3⟩:=H9 (bc:=bc) (n:=Γ.length) (Γ:=Γ) (xs:=u.map (Ob.b8 (cX bc Γ.length))) rfl T zff;rw[ct]at s3;generalize hf:cX bc Γ.length=f at *
 have W9:∀{j N},f j=f N->j=N:=by subst hf;exact An T
 have NI:∀j,bc.length<=j->f j=Γ.length+(j-bc.length):=fun j C=>by subst hf;exact CI C
 have S:∀i,Γ.length<=i->f (bc.length+(i-Γ.length))=i:=fun i l=>by grind
 have⟨gi,e,t⟩:∃gi:Bt,(∀j,gi (f j)=v j)/\∀i,(∀j,f j≠i)->gi i=β i:=by
  classical
  refine⟨fun i=>if h:∃j,f j=i then v (Classical.choose h)else β i,fun j=>?_,fun i l=>?_⟩
  ·have hex:∃N,f N=f j:=⟨j,rfl⟩
   grind
  grind
 have H:dV β gi:=fun i=>by
  by_cases l:∃j,f j=i
  ·obtain⟨j,rfl⟩:=l;rw[e];exact s.ble j
  grind[kE.refl]
 have z:∀b,blocks (fun j=>β (f j)) b->blocks β b:=fun b ⟨j,C⟩=>⟨f j,C⟩
 have G:∀i b,(gi i).has b->blocks β b\/w.heap.size<=b:=fun i b A=>by
  by_cases l:∃j,f j=i
  ·obtain⟨j,rfl⟩:=l;rw[e]at A;exact(s.own j b A).imp (z b) id
  grind[blocks]
 have F:∀i b,(∀j,f j≠i)->(β i).has b->¬blocks (fun j=>β (f j)) b:=fun i b l A ⟨j,C⟩=>l j (h.dis _ _ b C A)
 refine⟨gi,s.kle,H,e,h.O6 (Γ0:=Γ) ?_⟩;refine⟨s.ext.mono (fun k _ hk=>z k hk),s.kle,H,h.out,s.fz,fun i x l=>?_,fun i l=>?_,fun i M b l r=>?_,G,fun b o g hg=>?_,⟨s.tab.le,s.tab.pow,s.tab.spc,fun i b A=>(G i b A).elim (fun⟨j,C⟩=>h.tab.free j b C) (fun hs=>⟨by have:=h.tab.pow.lt;omega,by have:=h.tab.spc.lt;omega⟩)⟩⟩
 ·by_cases C:∃j,f j=i
  ·obtain⟨j,rfl⟩:=C;rw[s1 j,dB]at l
   cases hc:u[j]? with
   |none=>grind
   |some c =>
    rw[hc]at l;cases l;refine hO.BI ?_;have:=s.ob j c hc;rw[show(fun j=>gi (f j))=v from funext e];exact this
  ·have E:∀j,f j≠i:=fun j h=>C ⟨j,h⟩
   rw[s2 i E]at l;refine(h.ob i x l).ext s.ext (fun b A=>F i b E A) s.kle H (t i E) (fun b o A hk=>?_)
   cases Z:X b o with
   |none=>rfl
   |some g =>
    rcases s.kn b o g Z with q|q|q
    ·have q:K b o=some g:=q
     grind
    ·exact absurd q (F i b E A)
    ·have:=h.lt A;have q:w.heap.size<=b:=q;omega
 ·rw[s3]at l;have J:=S i zfh;rw[<-J,e];exact s.out _ zfh
 ·by_cases J:∃j,f j=i<;>by_cases Y:∃j,f j=M
  ·obtain⟨j,rfl⟩:=J;obtain⟨N,rfl⟩:=Y;rw[e]at l r;rw[s.dis j N b l r]
  ·obtain⟨j,rfl⟩:=J
   have R:∀j,f j≠M:=fun j h=>Y ⟨j,h⟩
   rw[e]at l;rw[t M R]at r
   rcases s.own j b l with q|q
   ·exact absurd q (F M b R r)
   ·have:=h.lt r;have q:w.heap.size<=b:=q;omega
  ·obtain⟨j,rfl⟩:=Y
   have O:∀j,f j≠i:=fun j h=>J ⟨j,h⟩
   rw[e]at r;rw[t i O]at l
   rcases s.own j b r with q|q
   ·exact absurd q (F i b O l)
   ·have:=h.lt l;have q:w.heap.size<=b:=q;omega
  ·rw[t i (fun j h=>J ⟨j,h⟩)]at l;rw[t M (fun j h=>Y ⟨j,h⟩)]at r;exact h.dis i M b l r
 ·rcases s.kn b o g hg with q|q|q
  ·exact .inl q
  ·exact .inr (.inl (z b q))
  ·exact .inr (.inr q)
end
section
variable{P:Program}{m:Nat}{Q:dN}{fr:am}{Γ:ap}{ops:Array Oper}{rest:List Oper}{d:Option Tmp}{op:Op}{ty:TypeId}{pos:String}{af:Array Edge}
def seen(f:Nat->Nat)(Γ:ap):List Nat->ap->Prop
 |[],[]=>True
 |i::r,x::X=>Γ[i]?=some (x.b8 f)/\seen f Γ r X
 |_,_=>False
theorem DQ{f:Nat->Nat}{Γ:ap}{n:Nat}:∀{bc:List Nat}{F:ap},seen f Γ bc F->F.length=bc.length/\∀j x,F[j]?=some x->Γ[cX bc n j]?=some (x.b8 f)
 |[],[],_=>⟨rfl,fun j x h=>by simp at h⟩
 |i::r,y::e,h=>by
  have⟨o,b⟩:=h;have⟨G,C⟩:=DQ (n:=n) b;refine⟨by simp[G],fun j x hx=>?_⟩
  cases j with
  |zero=>grind[cX]
  |succ j=>exact C j x hx
 |[],_::_,h=>h.elim
 |_::_,[],h=>h.elim
theorem GL.calls{f:FuncId}{bc:List Nat}{gs:am}{F:ap}{R:GV->ap->Prop}{vs:List Value->List Value}(A:∀K β w l,FR K β fr l->bF K β (vs l) (cq (cX bc Γ.length) gs)/\(execOp (ev l) ⟨d,op,ty,pos,af,none⟩).run P w=.ok (.enter f (vs l).toArray) w)
  (E:jZ bc Γ.length=true)(q:seen (cX bc Γ.length) Γ bc F)(W:GC P f gs F R)
  (h:∀g bM,R g bM->bc.length<=bM.length/\GL P m ops Q rest (bX fr d (b8 (cX bc Γ.length) g)) (fB Γ bc (bM.map (Ob.b8 (cX bc Γ.length))))) :
  GL P m ops Q (⟨d,op,ty,pos,af,none⟩::rest) fr Γ:=fun B K β w l T r O=>by
 have⟨M,X⟩:=DQ (n:=Γ.length) q;have⟨C,A⟩:=A K β w l O;have z:=r.enter E M X
 have Z:bF K (fun j=>β (cX bc Γ.length j)) (vs l) gs:=by
  rw[lH]at C;exact⟨by grind,fun i v g e c=>(C.2 i v (b8 _ g) e zff).Bj⟩
 refine WL.calls A (W _ K _ w _ rfl z Z) ?_;rintro v b⟨S,H,g,bM,G,s,J⟩;have⟨k,h⟩:=h g bM J;have⟨u,t,N,Y,o⟩:=r.leave E M k G;refine h B S u b _ T o ((O.mono t N).put d (Rel.BI ?_))
 simp_all
def GL.oV{f:FuncId}[hf:fX P f](bc:List Nat){x:Operand}{first e:am}{args:List Operand}{T:Array TypeId}{gs:am}{F:ap}{R:GV->ap->Prop}(W:GC P f gs F R)(hx:bf fr x=.fn (.func f) first e)(ha:first++args.map (bf fr)++e=cq (cX bc Γ.length) gs)(E:jZ bc Γ.length=true)
  (o:seen (cX bc Γ.length) Γ bc F)(h:∀g bM,R g bM->bc.length<=bM.length/\GL P m ops Q rest (bX fr d (b8 (cX bc Γ.length) g)) (fB Γ bc (bM.map (Ob.b8 (cX bc Γ.length))))) :
  GL P m ops Q (⟨d,.call ⟨.value x,args.toArray,T⟩,ty,pos,af,none⟩::rest) fr Γ :=
 GL.calls (vs:=fun l=>match ev l x with|.func _ a c=>a.toList++args.map (ev l)++c.toList|_=>[]) (fun K β w l O=>by
  have z:=O.ev x;rw[hx]at z;generalize j:ev l x=v at z
  cases z with
  |fn _ X i _ _ q b G C =>
   refine⟨?_,?_⟩
   ·rw[<-ha];exact(bF.app (bF.app ⟨q,G⟩ (O.args args)) ⟨b,C⟩)
   ·simp[execOp,resolve,j,Deferred.ofValue,invoke,oF]) E o W h
def GL.Ze{f:FuncId}[hf:fX P f](bc:List Nat){x:Operand}{args:List Operand}{T:Array TypeId}{gs:am}{F:ap}{R:GV->ap->Prop}(W:GC P f gs F R)(hx:bf fr x=.v (.func (.func f) #[] #[]))(ha:args.map (bf fr)=cq (cX bc Γ.length) gs)(E:jZ bc Γ.length=true)
  (o:seen (cX bc Γ.length) Γ bc F)(h:∀g bM,R g bM->bc.length<=bM.length/\GL P m ops Q rest (bX fr d (b8 (cX bc Γ.length) g)) (fB Γ bc (bM.map (Ob.b8 (cX bc Γ.length))))) :
  GL P m ops Q (⟨d,.call ⟨.value x,args.toArray,T⟩,ty,pos,af,none⟩::rest) fr Γ :=
 GL.calls (vs:=fun l=>args.map (ev l)) (fun K β w l O=>⟨by rw[<-ha];exact O.args args,by
  have j:=O.gq hx
  simp[execOp,resolve,j,Deferred.ofValue,invoke,oF]⟩) E o W h
end
def oq(ops:List Oper)(fr:am):Nat->Option (Option Bool):=fun j =>
 match il ops j,(rH ops j).dst with
 |true,some t=>match il fr t,bD fr t with
  |true,.v (.bool c)=>some (some c)
  |true,.v (.tuple _)=>some none
  |_,_=>none
 |_,_=>none
section
variable{P:Program}{m:Nat}{Q:dN}{fr:am}{Γ:ap}{ops:Array Oper}{rest:List Oper}{d:Option Tmp}{op:Op}{ty:TypeId}{pos:String}{af:Array Edge}
theorem vr{K:Fz}{β:Bt}{l:List Value}{j:Nat}{b:Bool}{c:Option Bool}(O:FR K β fr l)(h:oq ops.toList fr j=some c):sr (some (j,b)) ops.toList l=true/\gv ops.toList l (j,b)=c:=by
 unfold oq at h;split at h
 ·rename_i t o e;split at h
  ·rename_i J G C;cases h;have k:nth l t=.bool J:=Rel.eW (by rw[<-C];exact O.nth t);have M:=nP O G
   grind[sr,gv]
  ·rename_i n G C;cases h;have k:nth l t=.tuple n:=Rel.eW (by rw[<-C];exact O.nth t);have M:=nP O G
   grind[sr,gv]
  ·cases h
 ·cases h
def GL.gt{v:Nat × Bool}{c:Bool}(k:oq ops.toList fr v.1=some (some c))(W:c=v.2)(h:GL P m ops Q (⟨d,op,ty,pos,af,none⟩::rest) fr Γ):GL P m ops Q (⟨d,op,ty,pos,af,some v⟩::rest) fr Γ:=fun B K n w l j i O=>by
 have⟨o,e⟩:=vr (b:=v.2) O k;exact Xw.GT o e W (h B K n w l j i O)
def GL.gf{z:Nat × Bool}{c:Bool}(k:oq ops.toList fr z.1=some (some c))(W:c=!z.2)(h:GL P m ops Q rest (bX fr d (.v undef)) Γ):GL P m ops Q (⟨d,op,ty,pos,af,some z⟩::rest) fr Γ:=fun B K n w l j i O=>by
 have⟨o,e⟩:=vr (b:=z.2) O k;exact Xw.GF o e W (h B K n w _ j i (O.put d (.v _)))
def GL.gu{z:Nat × Bool}(k:oq ops.toList fr z.1=some none)(h:GL P m ops Q rest (bX fr d (.v undef)) Γ):GL P m ops Q (⟨d,op,ty,pos,af,some z⟩::rest) fr Γ:=fun B K n w l j i O=>by
 have⟨o,c⟩:=vr (b:=z.2) O k;exact Xw.GU o c (h B K n w _ j i (O.put d (.v _)))
end
def gG(ops:List Oper)(fr:am):Option (Nat × Bool)->Option Bool
 |none=>some true
 |some (j,b)=>match oq ops fr j with
  |some (some c)=>some (c==b)
  |some none=>some false
  |none=>none
def I6{ops:Array Oper}{K:Fz}{β:Bt}{fr:am}{l:List Value}{o:Oper}{c:Bool}(O:FR K β fr l)(h:gG ops.toList fr o.guard=some c):Region.wanted o (yielded ops (act l).tmps)=c:=by
 have⟨d,op,ty,pos,af,v⟩:=o
 cases v with
 |none=>simp only[gG]at h;cases h;rfl
 |some v =>
  have⟨j,b⟩:=v;simp only[gG]at h;split at h
  ·rename_i J W;cases h;have⟨q,e⟩:=vr (b:=b) O W;rw[wg q]
   cases r:(J==b)with
   |true=>grind[PT]
   |false=>exact PQ e (by cases J<;>cases b<;>simp_all)
  ·grind[vr,wg,PU]
  ·cases h
def DH(P:Program)(o:Oper)(e:Operand->Value)(w:World)(R:Value->World->Prop):Prop :=
 match(execOp e o).run P w with
 |.ok (.value v) Z=>R v Z
 |.ok .skip Z=>R undef Z
 |.ok (.enter f args) Z=>Calls P f args Z fun e A=>∃v,e=.returned v/\R v A
 |.ok (.row row args) Z=>Rows P row args Z R
 |_=>False
section
variable{P:Program}{o:Oper}{a:Act}{w:World}{R:Value->World->Prop}{next:Act->World->Prop}{Q:Exit->Act->World->Prop}
theorem Ye(h:DH P o a.eval w R)(hn:∀v w',R v w'->next (a.put o.dst v) w'):o.wp P a w next Q:=by
 unfold DH at h;unfold Oper.wp;generalize(execOp a.eval o).run P w=r at *
 grind[Calls.mono,Rows.mono,Oper.upon]
theorem YX(h:o.wp P a w next Q)(J:∀c a w,¬Q (.panic c) a w)(q:∀a w,¬Q .outgrown a w)(hn:∀v w',next (a.put o.dst v) w'->R v w')
  (hd:∀d w',¬next ({ a with defers:=d::a.defers }.put o.dst undef) w'):DH P o a.eval w R:=by
 unfold DH;unfold Oper.wp at h;generalize(execOp a.eval o).run P w=r at *
 cases r with
 |ok n w' =>
  cases n<;>simp only[Oper.upon]at h |-<;>first
   |exact hn _ _ h
   |exact Calls.mono h (fun e A i=>by
     cases e with
     |returned v=>grind
     |panicked c=>grind
     |outgrown=>have⟨X,b,l⟩:=i;grind)
   |exact Rows.mono h (fun _ _ j=>hn _ _ j)
   |grind
   |grind
 |halt x w' =>
  cases x<;>simp only[Oper.upon]at h
  grind
end
def dI(ts:List Nat):Nat->am->am
 |_,[]=>[]
 |k,g::s=>(match ts.contains k with|true=>g|false=>.U)::dI ts (k+1) s
def FR.mask{K:Fz}{β:Bt}{ts:List Nat}{fr:am}{l:List Value}(h:FR K β fr l):∀k,FR K β (dI ts k fr) l:=by
 induction h with
 |nil=>intro k;exact .nil
 |cons h t O =>
  intro k;rw[dI];split
  ·exact .cons h (O _)
  ·exact .cons (.U _) (O _)
theorem Rp{ts:List Nat}{d:Option Tmp}{g:GV}(hd:∀t,d=some t->t ∉ ts)(fr:am):dI ts 0 (bX fr d g)=dI ts 0 fr:=by
 cases d with
 |none=>rfl
 |some t =>
  have hd:=hd t rfl
  have W:∀(fr:am)(k t:Nat),k+t ∉ ts->dI ts k (bJ fr t g)=dI ts k fr:=by
   intro fr
   induction fr with
   |nil=>intro k t _;rfl
   |cons x fr O =>
    intro k t h
    cases t with
    |zero =>
     grind[dI,bJ]
    |succ t=>grind[dI,bJ]
  grind[bX]
section
variable{P:Program}{ops:Array Oper}
def YQ(P:Program)(ops:Array Oper)(i:Nat)(g:GV)(fr:am)(Γ:ap):Prop :=
 ∃o c,ops[i]?=some o/\gG ops.toList (dI (o.looksAt ops) 0 fr) o.guard=some c/\match c with
  |true=>YG P o.op (dI (o.looksAt ops) 0 fr) Γ g
  |false=>g=.v undef
abbrev lQ:=List (Nat × GV × am)
def GA(P:Program)(o:Oper)(Y:GV->ap->Prop)(fr:am)(Γ:ap):Prop :=
 ∀B K n w l,Inv B K n Γ w->FR K n fr l->DH P o (ev l) w fun v Z=>∃S u g z,dm K S/\dV n u/\Inv B S u z Z/\(∀fr l,FR S u fr l->FR S u (bX fr o.dst g) (put l o.dst v))/\Y g z
def GI(P:Program)(ops:Array Oper)(i:Nat)(Y:GV->ap->Prop)(fr:am)(Γ:ap):Prop :=
 ∃o c,ops[i]?=some o/\gG ops.toList fr o.guard=some c/\match c with
  |true=>GA P o Y fr Γ
  |false=>Y (.v undef) Γ
def mo(ops:Array Oper)(i:Nat):Option Tmp:=(ops[i]?).bind (·.dst)
def waits(ops:Array Oper)(i j:Nat):Bool:=match ops[i]? with
 |some o=>o.after.any fun e=>Region.binds .any e&&e.on==j
 |none=>false
def stay(ops:Array Oper)(i:Nat)(F:lQ):lQ:=F.filter fun p=>!waits ops i p.1
def qE(P:Program)(ops:Array Oper)(Q:am->ap->Prop):Nat->lQ->Array Bool->am->ap->Prop
 |0,_,e,fr,Γ=>Region.ready .any ops e=[]/\Q fr Γ
 |n+1,F,e,fr,Γ=>(Region.ready .any ops e=[]->Q fr Γ) /\
   ∀i∈Region.ready .any ops e,GI P ops i (fun g v=>(∀p∈stay ops i F,YQ P ops p.1 p.2.1 p.2.2 v)/\qE P ops Q n (stay ops i F) (e.setIfInBounds i true) (bX fr (mo ops i) g) v) fr Γ
theorem GA.mono{o:Oper}{Y EJ:GV->ap->Prop}{fr:am}{Γ:ap}(h:GA P o Y fr Γ)(N:∀g bM,Y g bM->EJ g bM):GA P o EJ fr Γ:=fun B K q w l j O=>by
 have:=h B K q w l j O;unfold DH at *;generalize(execOp (ev l) o).run P w=r at *
 have R:∀v Z,(∃S u g bM,dm K S/\dV q u/\Inv B S u bM Z/\(∀fr l,FR S u fr l->FR S u (bX fr o.dst g) (put l o.dst v))/\Y g bM)->∃S u g bM,dm K S/\dV q u/\Inv B S u bM Z/\(∀fr l,FR S u fr l->FR S u (bX fr o.dst g) (put l o.dst v))/\EJ g bM :=
  fun v Z ⟨S,u,g,bM,s,b,G,C,i⟩=>⟨S,u,g,bM,s,b,G,C,N _ _ i⟩
 cases r with
 |ok n Z=>cases n<;>simp only at this |-<;>first
   |exact R _ _ this
   |exact Calls.mono this (fun e A ⟨v,k,t⟩=>⟨v,k,R _ _ t⟩)
   |grind[Rows.mono]
   |exact this.elim
 |halt x Z=>omega
theorem GI.mono{i:Nat}{Y EJ:GV->ap->Prop}{fr:am}{Γ:ap}(h:GI P ops i Y fr Γ)(N:∀g bM,Y g bM->EJ g bM):GI P ops i EJ fr Γ:=by
 grind[GA.mono,GI]
theorem qE.SE{Q:am->ap->Prop}:∀(n:Nat)(F j:lQ)(e:Array Bool)(fr:am)(Γ:ap),(∀p∈j,p∈F)->qE P ops Q n F e fr Γ->qE P ops Q n j e fr Γ
 |0,_,_,_,_,_,_,h=>h
 |n+1,F,j,e,fr,Γ,G,h=>⟨h.1,fun i k=>(h.2 i k).mono fun g v ⟨q,b⟩=>by
  have o:∀p∈stay ops i j,p∈stay ops i F:=fun p W=>by
   grind[stay]
  exact⟨fun p W=>q p (o p W),qE.SE n _ _ _ _ _ o b⟩⟩
def qE.sound{m:Nat}{Q:am->ap->Prop}{B:Bs}{Q':dN}(k:B.m=m)(J:∀fr Γ,Q fr Γ->Q' .normal fr Γ):∀(n:Nat)(F:lQ)(e:Array Bool)(fr:am)(Γ:ap)(K:Fz)(β:Bt)(w:World)(l:List Value),
  qE P ops Q n F e fr Γ->Inv B K β Γ w->FR K β fr l->wpAny P .any ops (lift (gl B Q')) n e (act l) w
 |0,_,_,fr,Γ,K,β,w,l,h,j,O=>⟨h.1,l,rfl,K,β,fr,Γ,j,O,J _ _ h.2⟩
 |n+1,F,e,fr,Γ,K,β,w,l,h,j,O=>by
  refine⟨fun q=>⟨l,rfl,K,β,fr,Γ,j,O,J _ _ (h.1 q)⟩,fun i z=>?_⟩;have⟨o,c,A,X,W⟩:=h.2 i z;have C:=I6 O X;unfold wpOp;simp only[A,C]
  have T:mo ops i=o.dst:=by simp[mo,A]
  cases c with
  |true =>
   simp only[if_true];refine .inl (Ye (by rw[p8];exact W B K β w l j O) ?_);rintro v Z⟨S,u,g,E,s,N,G,t,r,b⟩;rw[qn];rw[T]at b;exact qE.sound k J n _ _ _ _ S u Z _ b G (t _ _ (O.mono s N))
  |false =>
   refine zbw ?_;rw[qn];have⟨r,b⟩:=W;rw[T]at b;exact qE.sound k J n _ _ _ _ K β w _ b j (O.put o.dst (.v _))
theorem HL{fr:am}{t k:Nat}(h:k≠t)(g:GV):bD (bJ fr t g) k=bD fr k:=by
 induction fr generalizing t k with
 |nil=>rfl
 |cons x l O=>cases t with
  |zero=>cases k with|zero=>omega|succ k=>rfl
  |succ t=>cases k with|zero=>rfl|succ k=>grind[bD,bJ]
theorem Jp{fr:am}{t k:Nat}{g:GV}:il (bJ fr t g) k=il fr k:=by
 induction fr generalizing t k with
 |nil=>rfl
 |cons x l O=>cases t with
  |zero=>cases k<;>rfl
  |succ t=>cases k with|zero=>rfl|succ k=>exact O
theorem WJ{o:Oper}{fr:am}{d:Option Tmp}{g:GV}(h:∀t,d=some t->t ∉ o.looksAt ops):gG ops.toList (bX fr d g) o.guard=gG ops.toList fr o.guard:=by
 cases d with
 |none=>rfl
 |some t =>
  have h:=h t rfl;have⟨w,op,ty,pos,af,v⟩:=o
  cases v with
  |none=>rfl
  |some v =>
   have⟨j,b⟩:=v
   have l:∀k,il ops.toList j=true->(rH ops.toList j).dst=some k->k≠t:=fun k Y A e=>by
    subst e;apply h;have u:=JI ops.toList j (AX Y)
    grind[Oper.looksAt]
   have n:oq ops.toList (bJ fr t g) j=oq ops.toList fr j:=by
    grind[il,rH,Jp,HL,oq,bJ]
   simp only[gG,bX,n]
def YQ.at{i:Nat}{g:GV}{fr:am}{Γ:ap}{o:Oper}(h:YQ P ops i g fr Γ)(A:ops[i]?=some o){B:Bs}{K:Fz}{β:Bt}{w:World}{l:List Value}(j:Inv B K β Γ w)(O:FR K β fr l):∃v,Rel K β v g/\((Region.wanted o (yielded ops (act l).tmps)=true/\(execOp (ev l) o).run P w=.ok (.value v) w)\/(Region.wanted o (yielded ops (act l).tmps)=false/\v=undef)):=by
 have⟨Y,c,q,b,G⟩:=h;rw[A]at q;cases q;have n:=I6 (O.mask (ts:=o.looksAt ops) 0) b
 cases c with
 |true =>
  have⟨v,z,k⟩:=G B K β w l j (O.mask 0);exact⟨v,k,.inl ⟨n,by have⟨d,op,ty,pos,af,C⟩:=o;exact z d ty pos af⟩⟩
 |false=>subst G;exact⟨undef,.v _,.inr ⟨n,rfl⟩⟩
theorem GI.comm{i j:Nat}{g:GV}{q e:Oper}{Y:GV->ap->Prop}{fr:am}{Γ:ap}(hi:ops[i]?=some q)(Z:ops[j]?=some e)(k:q.apart ops e=true)(T:∀cs b,e.op≠.select cs b)(C:YQ P ops i g fr Γ)
  (h:GI P ops j Y (bX fr q.dst g) Γ):GI P ops j Y fr Γ:=by
 have⟨a1,F,A⟩:=Oper.apart_spec k;have⟨o,c,r,n,G⟩:=h;rw[Z]at r;cases r;rw[WJ a1]at n;refine⟨e,c,Z,n,?_⟩
 cases c with
 |false=>exact G
 |true =>
  intro B K u w l s O;have⟨v,t,_⟩:=C.at hi s O;have:=G B K u w (put l q.dst v) s (O.put _ t)
  have z:execOp (ev (put l q.dst v)) e=execOp (ev l) e:=by
   have:=execOp_put e T (act l) q.dst v a1
   grind[qn,p8]
  unfold DH at this |-
  grind
theorem qE.first{Q:am->ap->Prop}{i:Nat}{z:Oper}{g:GV}{s:am}(hi:ops[i]?=some z)(aa6:∀(j:Nat)(o:Oper)cs b,ops[j]?=some o->o.op≠.select cs b) :
  ∀(n:Nat)(r:lQ)(q:Array Bool)(fr:am)(Γ:ap),
   (∀j J,ops[j]?=some J->j≠i->q.getD j true=false->(∀e∈J.after,Region.binds .any e=true->e.on≠i)->z.apart ops J=true) ->
   i∈Region.ready .any ops q->dI (z.looksAt ops) 0 fr=dI (z.looksAt ops) 0 s->YQ P ops i g s Γ->(∀p∈r,YQ P ops p.1 p.2.1 p.2.2 Γ) ->
   qE P ops Q n ((i,g,s)::r) (q.setIfInBounds i true) (bX fr z.dst g) Γ->qE P ops Q (n+1) r q fr Γ:=by
 have hd:mo ops i=z.dst:=by simp[mo,hi]
 have R:∀{fr:am}{Γ:ap},dI (z.looksAt ops) 0 fr=dI (z.looksAt ops) 0 s->YQ P ops i g s Γ->YQ P ops i g fr Γ:=by
  rintro fr Γ hm⟨o,c,N,Z,W⟩;rw[hi]at N;cases N;exact⟨z,c,hi,by grind,by grind⟩
 have self:∀(n:Nat)(r:lQ)(q:Array Bool)(fr:am)(Γ:ap),dI (z.looksAt ops) 0 fr=dI (z.looksAt ops) 0 s->YQ P ops i g s Γ->(∀p∈r,YQ P ops p.1 p.2.1 p.2.2 Γ) ->
   qE P ops Q n ((i,g,s)::r) (q.setIfInBounds i true) (bX fr z.dst g) Γ ->
   GI P ops i (fun g M=>(∀p∈stay ops i r,YQ P ops p.1 p.2.1 p.2.2 M)/\qE P ops Q n (stay ops i r) (q.setIfInBounds i true) (bX fr (mo ops i) g) M) fr Γ:=by
  intro n r q fr Γ F hy O H
  have T:∀p∈stay ops i r,p∈r:=fun p O=>by grind[stay]
  have H':qE P ops Q n (stay ops i r) (q.setIfInBounds i true) (bX fr (mo ops i) g) Γ:=by
   grind[qE.SE,ec]
  have⟨o,c,N,Z,W⟩:=R F hy;rw[hi]at N;cases N
  have h2':gG ops.toList fr z.guard=some c:=by
   have⟨d',op,ty,pos,af,gd⟩:=z
   cases gd with
   |none=>exact Z
   |some gd =>
    have⟨j,b⟩:=gd;simp only[gG]at Z |-
    have hv:∀x,oq ops.toList (dI (Oper.looksAt ops ⟨d',op,ty,pos,af,some (j,b)⟩) 0 fr) j=some x->oq ops.toList fr j=some x:=by
     intro x hx;unfold oq at hx |-
     cases Jf:il ops.toList j with
     |false=>grind
     |true =>
      rw[Jf]at hx
      cases hdt:(rH ops.toList j).dst with
      |none=>grind
      |some t =>
       rw[hdt]at hx;simp only at hx |-
       have Je:∀(Y:List Nat)(fr:am)(k t:Nat),il (dI Y k fr) t=il fr t:=by
        intro Y fr
        induction fr with
        |nil=>intro k t;rfl
        |cons x fr X=>intro k t;cases t with|zero=>rfl|succ t=>exact X (k+1) t
       have hgn:∀(Y:List Nat)(fr:am)(k t:Nat) ,bD (dI Y k fr) t=bD fr t\/bD (dI Y k fr) t=.U:=by
        intro Y fr
        induction fr with
        |nil=>simp[bD,dI]
        |cons x fr X =>
         intro k t
         cases t with
         |zero=>grind[bD,dI]
         |succ t=>exact X (k+1) t
       grind
    grind
  refine⟨z,c,hi,h2',?_⟩
  have hp':∀p∈stay ops i r,YQ P ops p.1 p.2.1 p.2.2 Γ:=fun p hq=>O p (T p hq)
  cases c with
  |true =>
   intro B K β w l hI hF;have⟨v,hr,hv⟩:=W B K β w l hI (hF.mask 0)
   have QT:(execOp (ev l) z).run P w=.ok (.value v) w:=by have⟨d,op,ty,pos,af,gd⟩:=z;exact hr d ty pos af
   unfold DH;rw[QT];exact⟨K,β,g,Γ,dm.refl K,dV.refl β,hI,fun fr l hf=>hf.put _ hv,hp',H'⟩
  |false =>
   grind
 intro n
 induction n with
 |zero =>
  intro r q fr Γ _ hr F hy O H;refine⟨fun h=>zff,fun j hj=>?_⟩
  by_cases A:j=i
  ·grind
  ·have:=ready_mono hj A;rw[H.1]at this;cases this
 |succ n X =>
  intro r q fr Γ C hr F hy O H;refine⟨fun h=>zff,fun j hj=>?_⟩
  by_cases A:j=i
  ·subst A;grind
  ·have N:=H.2 j (ready_mono hj A);have⟨aaU,J,G,Lf⟩:=mem_ready.1 hj
   have aaZ:∀e∈J.after,Region.binds .any e=true->e.on≠i:=fun e he hb heq=>by
    grind[mem_ready,Nat.lt_or_ge,Array.getElem?_eq_none]
   have hap:=C j J G A aaU aaZ;have⟨a1,a2,a3⟩:=Oper.apart_spec hap
   have hnw:waits ops j i=false:=by
    grind[waits]
   have T:stay ops j ((i,g,s)::r)=(i,g,s)::stay ops j r:=by
    grind[stay]
   rw[T]at N;have Z:=GI.comm hi G hap (fun cs b=>aa6 j J cs b G) (R F hy) N
   have hdj:mo ops j=J.dst:=by simp[mo,G]
   have E:∀k ok,ops[k]?=some ok->k≠i->(q.setIfInBounds j true).getD k true=false ->
     (∀e∈ok.after,Region.binds .any e=true->e.on≠i)->z.apart ops ok=true:=fun k ok hk hki hun Fq=>by
    refine C k ok hk hki ?_ Fq
    by_cases hjk:j=k
    ·grind
    ·rw[getD_set_ne true hjk]at hun;exact hun
   refine Z.mono fun gj M ⟨W,h4⟩=>⟨fun p O=>W p (ec _ O),?_⟩
   refine X (stay ops j r) (q.setIfInBounds j true) (bX fr (mo ops j) gj) M E (ready_mono hr (Ne.symm A)) ?_ (W (i,g,s) (List.mem_cons_self)) (fun p O=>W p (ec _ O)) ?_
   ·grind[Rp]
   ·rw[Array.setIfInBounds_comm _ _ A]
    have S:bX (bX fr (mo ops j) gj) z.dst g=bX (bX fr z.dst g) (mo ops j) gj:=by
     rw[hdj]
     cases hdi:z.dst with
     |none=>rfl
     |some t =>
      cases hdj':J.dst with
      |none=>rfl
      |some u =>
       have NN:t≠u:=fun e=>a2 t hdi zff
       have gen:∀(fr:am)(t u:Nat),t≠u->bJ (bJ fr u gj) t g=bJ (bJ fr t g) u gj:=by
        intro fr
        induction fr with
        |nil=>simp[bJ]
        |cons x fr X =>
         intro t u h
         cases t with
         |zero=>cases u with|zero=>omega|succ u=>rfl
         |succ t=>cases u with|zero=>rfl|succ u=>grind[bJ]
       grind[bX]
    rw[S];exact h4
inductive Ot where
 |nil
 |q (i:Nat) (r:Ot)
 |a (i:Nat) (r:Ot)
 |f (i:Nat) (r:Ot) (j:Nat) (s:Ot)
def Ot.len:Ot->Nat
 |.nil=>0
 |.q _ r=>r.len+1
 |.a _ r=>r.len+1
 |.f _ r _ _=>r.len+1
def tW(ops:Array Oper):Ot->Array Bool->Bool
 |.nil,e=>(Region.ready .any ops e).isEmpty
 |.q i r,e=>(Region.ready .any ops e).contains i&&Region.free .any ops e i&&tW ops r (e.setIfInBounds i true)
 |.a i r,e=>(Region.ready .any ops e==[i])&&tW ops r (e.setIfInBounds i true)
 |.f i r j s,e=>(Region.ready .any ops e==[i,j])&&tW ops r (e.setIfInBounds i true)&&tW ops s (e.setIfInBounds j true)&&(r.len==s.len)
def GO(P:Program)(ops:Array Oper)(Q:am->ap->Prop):Ot->lQ->am->ap->Prop
 |.nil,_,fr,Γ=>Q fr Γ
 |.q i r,F,fr,Γ=>∃g,YQ P ops i g fr Γ/\GO P ops Q r ((i,g,fr)::F) (bX fr (mo ops i) g) Γ
 |.a i r,F,fr,Γ=>GI P ops i (fun g v=>(∀p∈stay ops i F,YQ P ops p.1 p.2.1 p.2.2 v)/\GO P ops Q r (stay ops i F) (bX fr (mo ops i) g) v) fr Γ
 |.f i r j s,F,fr,Γ=>GI P ops i (fun g v=>(∀p∈stay ops i F,YQ P ops p.1 p.2.1 p.2.2 v)/\GO P ops Q r (stay ops i F) (bX fr (mo ops i) g) v) fr Γ/\GI P ops j (fun g v=>(∀p∈stay ops j F,YQ P ops p.1 p.2.1 p.2.2 v)/\GO P ops Q s (stay ops j F) (bX fr (mo ops j) g) v) fr Γ
def GO.fork{ops:Array Oper}{Q:am->ap->Prop}{i j:Nat}{r s:Ot}{F:lQ}{fr:am}{Γ:ap}(o:GO P ops Q (.a i r) F fr Γ)(b:GO P ops Q (.a j s) F fr Γ):GO P ops Q (.f i r j s) F fr Γ:=⟨o,b⟩
def GO.all{u:List Oper}{Q:am->ap->Prop}(G:Region.noSelect u.toArray=true):∀(l:Ot)(F:lQ)(e:Array Bool)(fr:am)(Γ:ap),
  tW u.toArray l e=true->(∀p∈F,YQ P u.toArray p.1 p.2.1 p.2.2 Γ)->GO P u.toArray Q l F fr Γ->qE P u.toArray Q l.len F e fr Γ
 |.nil,F,e,fr,Γ,A,_,h=>⟨by simpa[tW]using A,h⟩
 |.q i r,F,e,fr,Γ,A,W,h=>by
  simp only[tW,aI]at A;have⟨⟨v,H⟩,A⟩:=A;have⟨g,E,h⟩:=h
  have R:i∈Region.ready .any u.toArray e:=by simpa using v
  have⟨_,o,n,_⟩:=mem_ready.1 R
  have T:mo u.toArray i=o.dst:=by simp only[mo,n];rfl
  rw[T]at h
  exact qE.first n (Region.noSelect_spec G) _ F e fr Γ (Region.free_spec n H) R rfl E W (GO.all G r _ _ _ _ A (fun p c=>by
   rcases iY c with rfl|c
   ·exact E
   ·exact W p c) h)
 |.a i r,F,e,fr,Γ,A,W,h=>by
  simp only[tW,aI,beq_iff_eq]at A;have⟨v,A⟩:=A;refine⟨fun z=>by rw[z]at v;simp at v,fun j Y=>?_⟩;rw[v,List.mem_singleton]at Y;subst Y
  exact GI.mono h fun g w ⟨t,b⟩=>⟨t,GO.all G r _ _ _ _ A t b⟩
 |.f i r j s,F,e,fr,Γ,A,W,h=>by
  simp only[tW,aI,beq_iff_eq]at A;have⟨⟨⟨v,B⟩,C⟩,M⟩:=A;refine⟨fun z=>by rw[z]at v;simp at v,fun k N=>?_⟩;rw[v]at N;simp only[List.mem_cons,List.not_mem_nil,or_false]at N
  rcases N with rfl|rfl
  ·exact GI.mono h.1 fun g w ⟨t,b⟩=>⟨t,GO.all G r _ _ _ _ B t b⟩
  ·exact GI.mono h.2 fun g w ⟨t,b⟩=>⟨t,by
    have:=GO.all G s _ _ _ _ C t b
    rw[<-M]at this;exact this⟩
theorem GW.draw{m id:Nat}{r:List Oper}{Q:dN}{fr:am}{Γ:ap}(k:Ot)(j:P.follows .mixedOrders=true)
  (E:(Region.noSelect r.toArray&&(k.len==r.length)&&tW r.toArray k (Array.replicate r.toArray.size false))=true)
  (h:GO P r.toArray (Q .normal) k [] fr Γ):GW P m (.region id r.toArray true) Q fr Γ:=fun B K n w l N i O=>by
 simp only[aI,beq_iff_eq]at E;have⟨⟨G,M⟩,A⟩:=E;refine wp_region_any j ?_;have o:=GO.all G k [] _ fr Γ A (fun p W=>by cases W) h;rw[M]at o;have b:=qE.sound (Q':=Q) N (fun fr Γ h=>h) _ _ _ _ _ K n w.drew l o (i.same (Ext.drew w)) O
 simp_all
end
def lb:List Oper->Nat->Option Oper
 |[],_=>none
 |o::_,0=>some o
 |_::r,n+1=>lb r n
def rz{ol:List Oper}{i:Nat}{o:Oper}(h:lb ol i=some o):ol.toArray[i]?=some o:=by
 have:∀(ol:List Oper)(i:Nat),lb ol i=ol[i]?:=by
  intro ol
  induction ol with
  |nil=>intro i;rfl
  |cons x ol O=>intro i;cases i with|zero=>rfl|succ i=>grind[lb]
 grind
section
variable{P:Program}{Q:am->ap->Prop}{ol:List Oper}{r:Ot}{c7:lQ}{fr:am}{Γ:ap}{i:Nat}{g:GV}{d:Option Tmp}{op:Op}{ty:TypeId}{pos:String}{af:Array Edge}{gd:Nat × Bool}
def vk{o:Oper}(h:lb ol i=some o):mo ol.toArray i=o.dst:=by simp only[mo,rz h];rfl
theorem GO.more{c:Array Oper}:∀(r:Ot)(c7 e:lQ)(fr:am)(Γ:ap),(∀p∈e,p∈c7\/∀Γ,YQ P c p.1 p.2.1 p.2.2 Γ)->GO P c Q r c7 fr Γ->GO P c Q r e fr Γ
 |.nil,_,_,_,_,_,h=>h
 |.q i r,c7,e,fr,Γ,G,⟨g,t,b⟩=>⟨g,t,GO.more r _ _ _ _ (fun p W=>by
   grind) b⟩
 |.a i r,c7,e,fr,Γ,G,h=>GI.mono h fun g v ⟨t,b⟩=>by
   have o:∀p∈stay c i e,p∈stay c i c7\/∀Γ,YQ P c p.1 p.2.1 p.2.2 Γ:=fun p W=>by
    grind[stay]
   exact⟨fun p W=>(o p W).elim (t p) (fun h=>h v),GO.more r _ _ _ _ o b⟩
 |.f i r j s,c7,e,fr,Γ,G,h=>by
   have o:∀k,∀p∈stay c k e,p∈stay c k c7\/∀Γ,YQ P c p.1 p.2.1 p.2.2 Γ:=fun k p W=>by
    grind[stay]
   exact⟨GI.mono h.1 fun g v ⟨t,b⟩=>⟨fun p W=>(o i p W).elim (t p) (fun h=>h v),GO.more r _ _ _ _ (o i) b⟩,GI.mono h.2 fun g v ⟨t,b⟩=>⟨fun p W=>(o j p W).elim (t p) (fun h=>h v),GO.more s _ _ _ _ (o j) b⟩⟩
theorem GO.skip{c:Array Oper}{x:Nat × GV × am}(hx:∀Γ,YQ P c x.1 x.2.1 x.2.2 Γ)(h:GO P c Q r c7 fr Γ):GO P c Q r (x::c7) fr Γ:=by
 refine GO.more r c7 _ fr Γ (fun p W=>?_) h
 grind
def GO.yq{o:Oper}(hi:lb ol i=some o)(B:YQ P ol.toArray i g fr Γ)(h:GO P ol.toArray Q r ((i,g,fr)::c7) (bX fr o.dst g) Γ):GO P ol.toArray Q (.q i r) c7 fr Γ :=
 ⟨g,B,by rw[vk hi];exact h⟩
def GO.yp{o:Oper}(hi:lb ol i=some o)(B:∀Γ,YQ P ol.toArray i g fr Γ)(h:GO P ol.toArray Q r c7 (bX fr o.dst g) Γ):GO P ol.toArray Q (.q i r) c7 fr Γ :=
 GO.yq hi (B Γ) (GO.skip B h)
theorem pz{c:Bool}{e:List Oper}(j:oq e fr gd.1=some (some c))(W:c=gd.2):gG e fr (some gd)=some true:=by
 grind[gG]
def qb{c:Bool}{e:List Oper}(k:oq e fr gd.1=some (some c))(W:c=!gd.2):gG e fr (some gd)=some false:=by
 have⟨j,b⟩:=gd;simp only at k W;simp only[gG,k,W];simp
theorem WK{c:List Oper}(j:oq c fr gd.1=some none):gG c fr (some gd)=some false:=by
 grind[gG]
def YQ.t{o:Oper}(hi:lb ol i=some o)(hg:gG ol (dI (o.looksAt ol.toArray) 0 fr) o.guard=some true)(B:YG P o.op (dI (o.looksAt ol.toArray) 0 fr) Γ g):YQ P ol.toArray i g fr Γ:=⟨o,true,rz hi,hg,B⟩
def YQ.f{o:Oper}(hi:lb ol i=some o)(hg:gG ol (dI (o.looksAt ol.toArray) 0 fr) o.guard=some false):YQ P ol.toArray i (.v undef) fr Γ:=⟨o,false,rz hi,hg,rfl⟩
def OQ(hi:lb ol i=some ⟨d,op,ty,pos,af,none⟩)(B:YG P op (dI (Oper.looksAt ol.toArray ⟨d,op,ty,pos,af,none⟩) 0 fr) Γ g)(h:GO P ol.toArray Q r ((i,g,fr)::c7) (bX fr d g) Γ):GO P ol.toArray Q (.q i r) c7 fr Γ :=
 GO.yq hi (YQ.t hi rfl B) h
def OP(hi:lb ol i=some ⟨d,op,ty,pos,af,none⟩)(B:∀Γ,YG P op (dI (Oper.looksAt ol.toArray ⟨d,op,ty,pos,af,none⟩) 0 fr) Γ g)(h:GO P ol.toArray Q r c7 (bX fr d g) Γ):GO P ol.toArray Q (.q i r) c7 fr Γ :=
 GO.yp hi (fun Γ=>YQ.t hi rfl (B Γ)) h
def OQt{c:Bool}(hi:lb ol i=some ⟨d,op,ty,pos,af,some gd⟩)(j:oq ol (dI (Oper.looksAt ol.toArray ⟨d,op,ty,pos,af,some gd⟩) 0 fr) gd.1=some (some c))(W:c=gd.2)(B:YG P op (dI (Oper.looksAt ol.toArray ⟨d,op,ty,pos,af,some gd⟩) 0 fr) Γ g)
  (h:GO P ol.toArray Q r ((i,g,fr)::c7) (bX fr d g) Γ):GO P ol.toArray Q (.q i r) c7 fr Γ :=
 GO.yq hi (YQ.t hi (pz j W) B) h
def OPt{c:Bool}(hi:lb ol i=some ⟨d,op,ty,pos,af,some gd⟩)(j:oq ol (dI (Oper.looksAt ol.toArray ⟨d,op,ty,pos,af,some gd⟩) 0 fr) gd.1=some (some c))(W:c=gd.2)(B:∀Γ,YG P op (dI (Oper.looksAt ol.toArray ⟨d,op,ty,pos,af,some gd⟩) 0 fr) Γ g)
  (h:GO P ol.toArray Q r c7 (bX fr d g) Γ):GO P ol.toArray Q (.q i r) c7 fr Γ :=
 GO.yp hi (fun Γ=>YQ.t hi (pz j W) (B Γ)) h
def ONf{c:Bool}(hi:lb ol i=some ⟨d,op,ty,pos,af,some gd⟩)(j:oq ol (dI (Oper.looksAt ol.toArray ⟨d,op,ty,pos,af,some gd⟩) 0 fr) gd.1=some (some c))(W:c=!gd.2)(h:GO P ol.toArray Q r c7 (bX fr d (.v undef)) Γ):GO P ol.toArray Q (.q i r) c7 fr Γ :=
 GO.yp hi (fun Γ=>YQ.f hi (qb j W)) h
def ONu(hi:lb ol i=some ⟨d,op,ty,pos,af,some gd⟩)(j:oq ol (dI (Oper.looksAt ol.toArray ⟨d,op,ty,pos,af,some gd⟩) 0 fr) gd.1=some none)(h:GO P ol.toArray Q r c7 (bX fr d (.v undef)) Γ):GO P ol.toArray Q (.q i r) c7 fr Γ :=
 GO.yp hi (fun Γ=>YQ.f hi (WK j)) h
theorem JD:∀(fr:am)(ts:List Nat)(k t:Nat),k+t∈ts->bD (dI ts k fr) t=bD fr t
 |[],_,_,_,_=>rfl
 |g::fr,ts,k,0,h=>by
  grind[bD,dI]
 |g::fr,ts,k,t+1,h=>by
  simp only[dI,bD];exact JD fr ts (k+1) t zff
theorem vH{o:Oper}{c:Array Oper}{x:Operand}(h:x∈o.op.operands.toList):bf (dI (o.looksAt c) 0 fr) x=bf fr x:=by
 cases x with
 |tmp t =>
  refine JD fr _ 0 t ?_
  grind[Oper.looksAt]
 |_=>rfl
section
variable{x:Operand}
theorem OPm(hi:lb ol i=some ⟨d,.move x,ty,pos,af,none⟩)(h:GO P ol.toArray Q r c7 (bX fr d (bf fr x)) Γ):GO P ol.toArray Q (.q i r) c7 fr Γ :=
 OP hi (fun Γ=>by
  have:=YG.mv (P:=P) (x:=x) (Γ:=Γ) (fr:=dI (Oper.looksAt ol.toArray ⟨d,.move x,ty,pos,af,none⟩) 0 fr)
  grind[vH,Op.operands]) h
theorem OPa(hi:lb ol i=some ⟨d,.assign x,ty,pos,af,none⟩)(h:GO P ol.toArray Q r c7 (bX fr d (bf fr x)) Γ):GO P ol.toArray Q (.q i r) c7 fr Γ :=
 OP hi (fun Γ=>by
  have:=YG.lp (P:=P) (x:=x) (Γ:=Γ) (fr:=dI (Oper.looksAt ol.toArray ⟨d,.assign x,ty,pos,af,none⟩) 0 fr)
  grind[vH,Op.operands]) h
theorem aal{c:Bool}(hi:lb ol i=some ⟨d,.move x,ty,pos,af,some gd⟩)(j:oq ol (dI (Oper.looksAt ol.toArray ⟨d,.move x,ty,pos,af,some gd⟩) 0 fr) gd.1=some (some c))(W:c=gd.2)(h:GO P ol.toArray Q r c7 (bX fr d (bf fr x)) Γ):GO P ol.toArray Q (.q i r) c7 fr Γ :=
 OPt hi j W (fun Γ=>by
  have:=YG.mv (P:=P) (x:=x) (Γ:=Γ) (fr:=dI (Oper.looksAt ol.toArray ⟨d,.move x,ty,pos,af,some gd⟩) 0 fr)
  grind[vH,Op.operands]) h
end
section
variable{c a b:Operand}{t:Bool}
theorem aak(hi:lb ol i=some ⟨d,.pick c a b,ty,pos,af,none⟩)(W:bf (dI (Oper.looksAt ol.toArray ⟨d,.pick c a b,ty,pos,af,none⟩) 0 fr) c=.v (.bool t))(M:t=true)(h:GO P ol.toArray Q r c7 (bX fr d (bf fr a)) Γ):GO P ol.toArray Q (.q i r) c7 fr Γ :=
 OP hi (fun Γ=>by
  have:=YG.TH (P:=P) (Γ:=Γ) (a:=a) (b:=b) W M
  grind[vH,Op.operands]) h
theorem aaj(hi:lb ol i=some ⟨d,.pick c a b,ty,pos,af,none⟩)(W:bf (dI (Oper.looksAt ol.toArray ⟨d,.pick c a b,ty,pos,af,none⟩) 0 fr) c=.v (.bool t))(M:t=false)(h:GO P ol.toArray Q r c7 (bX fr d (bf fr b)) Γ):GO P ol.toArray Q (.q i r) c7 fr Γ :=
 OP hi (fun Γ=>by
  have:=YG.TG (P:=P) (Γ:=Γ) (a:=a) (b:=b) W M
  grind[vH,Op.operands]) h
end
inductive dj(P:Program)(ops:Array Oper)(i:Nat)(bM:ap):lQ->lQ->Prop
 |n:dj P ops i bM [] []
 |w {j:Nat} {g:GV} {Ni:am} {c7 Bm:lQ} (hw:waits ops i j=true) (h:dj P ops i bM c7 Bm):dj P ops i bM ((j,g,Ni)::c7) Bm
 |y {j:Nat} {g:GV} {Ni:am} {c7 Bm:lQ} (hy:YQ P ops j g Ni bM) (h:dj P ops i bM c7 Bm):dj P ops i bM ((j,g,Ni)::c7) ((j,g,Ni)::Bm)
theorem dj.spec{c:Array Oper}{bM:ap}{e:lQ}(h:dj P c i bM c7 e):(∀p∈stay c i c7,YQ P c p.1 p.2.1 p.2.2 bM)/\∀p∈stay c i c7,p∈e:=by
 induction h with
 |n=>simp[lQ,stay,YQ]
 |w l h O =>
  grind[stay]
 |y B h O =>
  grind[stay]
def Wj(fr:am):Option Tmp->Bool
 |none=>true
 |some t=>il fr t
def dL(P:Program)(Q:am->ap->Prop)(ol:List Oper)(i:Nat)(r:Ot)(c7:lQ)(fr:am)(d:Option Tmp)(dh:am)(bM:ap):Prop :=
 ∃g e,dh=bX fr d g/\dj P ol.toArray i bM c7 e/\GO P ol.toArray Q r e (bX fr d g) bM
theorem GA.of{o:Oper}{E:GV->ap->Prop}{R:am->ap->Prop}{z:Array Oper}(hg:o.guard=none)(hd:Wj fr o.dst=true)(O:∀dh bM,R dh bM->∃g,dh=bX fr o.dst g/\E g bM)(h:GL P Γ.length z (bo R (fun _ _ _=>False)) [o] fr Γ):GA P o E fr Γ:=fun B K J w l H G=>by
 have j:=h (cur K J Γ w) K J w l rfl H.here G;have⟨d,op,ty,pos,af,gd⟩:=o;simp only at hg;subst hg;simp only at j hd;unfold WL wpList at j;rw[ak zfw]at j
 rcases j with j|⟨_,W,w0,k⟩
 ·rw[<-p8];refine YX j (fun c a A k=>?_) (fun a A k=>?_) ?_ ?_
  ·have⟨m,_,_,_,_,_,_,_,e⟩:=k;exact e
  ·have⟨m,_,_,_,_,_,_,_,e⟩:=k;exact e
  ·rintro v A⟨m,s,M,C,dh,bM,b,q,e⟩;obtain⟨g,rfl,S⟩:=O dh bM e;rw[qn]at s
   have u:put l d v=m:=by
    simp_all[congrArg,act]
   subst u;refine⟨M,C,g,bM,b.kle,b.ble,H.O6 b,fun N l2 F=>?_,S⟩
   cases d with
   |none=>exact F
   |some t =>
    refine F.fc t ?_;have hv:=q.nth t;have Y:nth (put l (some t) v) t=v:=vL (nP G hd) v
    have Z:bD (bX fr (some t) g) t=g:=by
     have n:∀(fr:am)(t:Nat),il fr t=true->bD (bJ fr t g) t=g:=by
      intro fr
      induction fr with
      |nil=>grind[il]
      |cons x fr T=>intro t h;cases t with|zero=>rfl|succ t=>exact T t h
     exact n fr t hd
    grind
  ·rintro X A⟨m,s,_⟩;have:=congrArg (fun a:Act=>a.defers) s
   cases d<;>simp[act,Act.put]at this
 ·have⟨m,_,_,_,_,_,_,_,e⟩:=k;exact e.elim
theorem dL.kt{dh:am}{bM:ap}(h:dL P Q ol i r c7 fr d dh bM):∃g,dh=bX fr d g/\((∀p∈stay ol.toArray i c7,YQ P ol.toArray p.1 p.2.1 p.2.2 bM)/\GO P ol.toArray Q r (stay ol.toArray i c7) (bX fr d g) bM):=by
 have⟨g,e,o,b,G⟩:=h;have⟨C,j⟩:=b.spec
 grind[GO.more]
def OA(hi:lb ol i=some ⟨d,op,ty,pos,af,none⟩)(hd:Wj fr d=true)(h:GL P Γ.length ol.toArray (bo (dL P Q ol i r c7 fr d) (fun _ _ _=>False)) [⟨d,op,ty,pos,af,none⟩] fr Γ):GO P ol.toArray Q (.a i r) c7 fr Γ:=by
 refine⟨_,true,rz hi,rfl,?_⟩
 exact(GA.of (o:=⟨d,op,ty,pos,af,none⟩) rfl hd (fun s v J=>dL.kt J) h).mono fun g v ⟨q,b⟩=>⟨q,by rw[vk hi];exact b⟩
def Su{c:Bool}(hi:lb ol i=some ⟨d,op,ty,pos,af,some gd⟩)(hd:Wj fr d=true)(j:oq ol fr gd.1=some (some c))(W:c=gd.2)(h:GL P Γ.length ol.toArray (bo (dL P Q ol i r c7 fr d) (fun _ _ _=>False)) [⟨d,op,ty,pos,af,none⟩] fr Γ):GO P ol.toArray Q (.a i r) c7 fr Γ:=by
 refine⟨_,true,rz hi,pz j W,?_⟩
 have:=(GA.of (o:=⟨d,op,ty,pos,af,none⟩) rfl hd (fun s v J=>dL.kt J) h).mono (EJ:=fun g v=>(∀p∈stay ol.toArray i c7,YQ P ol.toArray p.1 p.2.1 p.2.2 v)/\GO P ol.toArray Q r (stay ol.toArray i c7) (bX fr (mo ol.toArray i) g) v) fun g v ⟨q,b⟩=>⟨q,by rw[vk hi];exact b⟩
 exact this
def OAf{c:Bool}{e:lQ}(hi:lb ol i=some ⟨d,op,ty,pos,af,some gd⟩)(j:oq ol fr gd.1=some (some c))(W:c=!gd.2)(G:dj P ol.toArray i Γ c7 e)(h:GO P ol.toArray Q r e (bX fr d (.v undef)) Γ):GO P ol.toArray Q (.a i r) c7 fr Γ :=
 ⟨_,false,rz hi,qb j W,G.spec.1,by rw[vk hi];exact GO.more r _ _ _ _ (fun p X=>.inl (G.spec.2 p X)) h⟩
def OAu{e:lQ}(hi:lb ol i=some ⟨d,op,ty,pos,af,some gd⟩)(j:oq ol fr gd.1=some none)(G:dj P ol.toArray i Γ c7 e)(h:GO P ol.toArray Q r e (bX fr d (.v undef)) Γ):GO P ol.toArray Q (.a i r) c7 fr Γ :=
 ⟨_,false,rz hi,WK j,G.spec.1,by rw[vk hi];exact GO.more r _ _ _ _ (fun p W=>.inl (G.spec.2 p W)) h⟩
theorem GO.nil(h:Q fr Γ):GO P ol.toArray Q .nil c7 fr Γ:=h
def dL.mk{e:lQ}(G:dj P ol.toArray i Γ c7 e){v:am}(h:GO P ol.toArray Q r e (bX v d g) Γ):dL P Q ol i r c7 v d (bX v d g) Γ:=⟨g,e,rfl,G,h⟩
section
variable{c:Array Oper}{dh:am}
def j4{bM:ap}(o:fr=dh)(b:Γ=bM)(h:GO P c Q r c7 dh bM):GO P c Q r c7 fr Γ:=by subst o;subst b;exact h
def GON(o:fr=dh)(h:GO P c Q r c7 dh Γ):GO P c Q r c7 fr Γ:=by subst o;exact h
end
end
def GW.range{P:Program}{m:Nat}{Q:dN}{fr:am}{Γ:ap}{B C r1 Z:Nat}{body:Code}{s j tn b:Tmp}{T1 T2 T3 G H J M:TypeId}{p1 X Y:String}{a1 N O:Array Edge}(n:Nat)(ack:Nat->am->ap->Prop)
  (h0:zf m (ack 0) fr Γ)(hn:n<=1099511627776)
  (hI:∀k fr Γ,ack k fr Γ->bD fr j=.v (ii k)/\bD fr tn=.v (ii n)/\il fr s=true)
  (l:∀k fr Γ,k<n->ack k fr Γ->GW P m body (bq C (bo (fun dh bM=>bD dh j=.v (ii k)/\il dh b=true/\zf m (ack (k+1)) (bJ (bJ dh b (.v (ii ((k+1:Nat):Int)))) j (.v (ii ((k+1:Nat):Int)))) bM) (bq B Q))) (bJ fr s (.v (.bool true))) Γ)
  (S:∀fr Γ,ack n fr Γ->Q .normal (bJ fr s (.v (.bool false))) Γ) :
  GW P m (.loop (.seq (.region r1 [(⟨some s,.binOp .lss T1 (.tmp j) (.tmp tn) T2,T3,p1,a1,none⟩:Oper)].toArray false) (.seq (.cond (.tmp s) .skip (.exit B))
   (.seq (.block C body) (.region Z [(⟨some b,.binOp .add G (.tmp j) (.const (.int .i64 1)) H,J,X,N,none⟩:Oper),⟨some j,.move (.tmp b),M,Y,O,none⟩].toArray false))))) (bq B Q) fr Γ:=by
 have o:∀(fr:am)(t:Nat)(g:GV),il fr t=true->bD (bJ fr t g) t=g:=by
  intro fr
  induction fr with
  |nil=>grind[il]
  |cons x fr ih=>intro t g h;cases t with|zero=>rfl|succ t=>exact ih t g h
 refine GW.loop (fun k:Nat=>n-k) (fun k fr Γ=>k<=n/\ack k fr Γ) 0 ?_ ?_
 ·have⟨dh,bM,E,h⟩:=h0;exact⟨dh,bM,E,bp _,h⟩
 rintro k fr Γ⟨hk,W⟩;have⟨h1,h2,R⟩:=hI k fr Γ W;refine GW.seq (GW.region (GL.q (YG.go (v:=.bool (decide ((k:Int)<(n:Int)))) ?_) (GL.nil (bh ?_))))
 ·simp only[WU,Xw.go,bf,h1,h2,Co,Em,ii,LP,La]
 by_cases u:k<n
 ·have A:decide ((k:Int)<(n:Int))=true:=by grind
  simp only[bX,A];refine GW.seq (Md (o fr s _ R) rfl (GW.skip (bh (GW.seq (GW.block ?_)))));refine GW.mono (l k fr Γ u W) ?_;intro e dh bM c;have w:∀dh bM,(bD dh j=.v (ii k)/\il dh b=true/\zf m (ack (k+1)) (bJ (bJ dh b (.v (ii ((k+1:Nat):Int)))) j (.v (ii ((k+1:Nat):Int)))) bM) ->
    GW P m (.region Z [(⟨some b,.binOp .add G (.tmp j) (.const (.int .i64 1)) H,J,X,N,none⟩:Oper),⟨some j,.move (.tmp b),M,Y,O,none⟩].toArray false) (bo (fun dh bM=>∃y:Nat,zf m (fun fr Γ=>y<=n/\ack y fr Γ) dh bM/\n-y<n-k) (bq B Q)) dh bM:=by
   rintro dh bM⟨h5,h6,z,F,E,h7⟩;refine GW.region (GL.q (YG.jK (a:=k) h5 rfl zfh) (GL.q YG.mv (GL.nil (bh ⟨k+1,⟨z,F,?_,u,h7⟩,by omega⟩))));have h8:bf (bJ dh b (.v (ii ((k+1:Nat):Int)))) (.tmp b)=.v (ii ((k+1:Nat):Int)):=o dh b _ h6;simp only[bX,h8];exact E
  cases e with
  |normal=>exact w dh bM c
  |exit id =>
   simp only[bq]at c |-;split<;>rename_i T
   ·rw[ak T]at c;exact w dh bM c
   ·rw[ae T]at c;exact c
  |goto _=>exact c
  |ret=>exact c
  |panic _=>exact c
  |outgrown=>exact c
 ·have vy:k=n:=by omega
  have A:decide ((k:Int)<(n:Int))=false:=by grind
  simp only[bX,A];refine GW.seq (Mc (o fr s _ R) rfl (GW.exit (Fi (Fi (I8 ?_)))))
  grind
def nM(g R:GV):Prop:=∀K l x,Rel K l x g->Rel K l x R
def mi(gs G:am):Prop:=∀K n l,bF K n l gs->bF K n l G
theorem nM.refl{g:GV}:nM g g:=fun _ _ _ h=>h
def nM.U{g:GV}:nM g .U:=fun _ _ _ _=>.U _
theorem nM.nil{k:Nat}:nM (.v (.slice none 0 0)) (.sl k []):=fun K l x h=>by
 rw[Rel.eW h];exact .sl0 _ _ _
theorem mi.nil:mi [] []:=fun _ _ _ h=>h
theorem mi.refl{gs:am}:mi gs gs:=fun _ _ _ h=>h
def mi.cons{g h:GV}{gs G:am}(o:nM g h)(c:mi gs G):mi (g::gs) (h::G):=fun K n l j=>by
 cases l with
 |nil=>grind
 |cons v l=>have⟨a,b⟩:=j.oI;exact .cons (o K n v a) (c K n l b)
def nM.agg{gs G:am}(h:mi gs G):nM (.agg gs) (.agg G):=fun K n x hx=>by
 cases hx with
 |agg l _ M i=>have⟨a,b⟩:=h K n l ⟨M,i⟩;exact .agg l G a b
def nM.tup{gs G:am}(h:mi gs G):nM (.tup gs) (.tup G):=fun K n x hx=>by
 cases hx with
 |tup l _ M i=>have⟨a,b⟩:=h K n l ⟨M,i⟩;exact .tup l G a b
inductive V1:am->am->Prop
 |nil:V1 [] []
 |cons {f g:GV} {fs gs:am} (h:nM f g) (t:V1 fs gs):V1 (f::fs) (g::gs)
section
variable{P:Program}{m:Nat}{Q:dN}{fr:am}{Γ:ap}{ops:Array Oper}{rest:List Oper}{d:Option Tmp}{op:Op}{ty:TypeId}{pos:String}{af:Array Edge}
theorem Wk.cells(i:Nat){E:TypeId}{cs ds:am}(hi:Γ[i]?=some (.box E cs))(h:mi cs ds):Wk m fr Γ fr (oset Γ i (.box E ds)):=fun B K o w l _ k O=>by
 rw[bI];refine⟨K,o,⟨k.ext,k.kle,k.ble,k.loc,k.fz,fun j x Y=>?_,fun j Y=>k.out j zff,k.dis,k.own,k.kn,k.tab⟩,O⟩;rw[eY]at Y;split at Y
 ·rename_i S;split at Y
  ·cases Y;subst S
   have⟨b,n,q,c,G,C⟩:=k.ob i _ hi;exact⟨b,n,q,c,h K o n G,C⟩
  grind
 ·exact k.ob j x Y
def GL.KV{f:FuncId}[hf:fX P f](bc:List Nat){args:List Operand}{T:Array TypeId}{gs:am}{F:ap}{R:GV->ap->Prop}(W:GC P f gs F R)(ha:mi (args.map (bf fr)) (cq (cX bc Γ.length) gs))(E:jZ bc Γ.length=true)
  (o:seen (cX bc Γ.length) Γ bc F)(h:∀g bM,R g bM->bc.length<=bM.length/\GL P m ops Q rest (bX fr d (b8 (cX bc Γ.length) g)) (fB Γ bc (bM.map (Ob.b8 (cX bc Γ.length))))) :
  GL P m ops Q (⟨d,.call ⟨.value (.func f),args.toArray,T⟩,ty,pos,af,none⟩::rest) fr Γ :=
 GL.calls (vs:=fun l=>args.map (ev l)) (fun K n w l O=>⟨ha K n _ (O.args args),by simp[execOp,resolve,ev,Deferred.ofValue,invoke,oF]⟩) E o W h
theorem GL.SA{f:FuncId}[hf:fX P f](bc:List Nat){args:List Operand}{T:Array TypeId}{gs:am}{F C:ap}{g:GV}(W:GF P f gs F g C)(ha:mi (args.map (bf fr)) (cq (cX bc Γ.length) gs))(E:jZ bc Γ.length=true)
  (o:seen (cX bc Γ.length) Γ bc F)(M:Nat.ble bc.length C.length=true)(h:GL P m ops Q rest (bX fr d (b8 (cX bc Γ.length) g)) (fB Γ bc (C.map (Ob.b8 (cX bc Γ.length))))) :
  GL P m ops Q (⟨d,.call ⟨.value (.func f),args.toArray,T⟩,ty,pos,af,none⟩::rest) fr Γ :=
 GL.KV bc W ha E o fun R bM ⟨q,b⟩=>by simp_all
end
section
variable{P:Program}{fr:am}{Γ:ap}{g:GV}
def K.bin{o:BinOp}{t k:TypeId}{x y:Operand}(h:YG P (.binOp o t x y k) fr Γ g):YG P (.binOp o t x y k) fr Γ g:=h
theorem K.ld{t:TypeId}{x:Operand}(h:YG P (.load t x) fr Γ g):YG P (.load t x) fr Γ g:=h
def K.Wz{t:TypeId}{x:Operand}{i:Nat}(h:YG P (.fieldAddr t x i) fr Γ g):YG P (.fieldAddr t x i) fr Γ g:=h
theorem K.len{t:TypeId}{x:Operand}(h:YG P (.call ⟨.builtin .len,#[x],#[t]⟩) fr Γ g):YG P (.call ⟨.builtin .len,#[x],#[t]⟩) fr Γ g:=h
def K.nck{x:Operand}(h:YG P (.nilCheck x) fr Γ g):YG P (.nilCheck x) fr Γ g:=h
def K.idx{t:TypeId}{x y:Operand}(h:YG P (.indexAddr t x y) fr Γ g):YG P (.indexAddr t x y) fr Γ g:=h
theorem K.pick{a b c:Operand}(h:YG P (.pick a b c) fr Γ g):YG P (.pick a b c) fr Γ g:=h
def K.nS{t:TypeId}{x:Operand}{a b c:Option Operand}(h:YG P (.slice t x a b c) fr Γ g):YG P (.slice t x a b c) fr Γ g:=h
theorem K.Cw{f:Fn}{a b:Array Operand}(h:YG P (.makeFunc f a b) fr Γ g):YG P (.makeFunc f a b) fr Γ g:=h
end
section
variable{P:Program}{fn:Func}{m:Nat}{fr:am}{Γ bM:ap}{e:Exit}{g:GV}
def xK{R:GV->ap->Prop}(h:qv P fn m (fun x k=>∃y,nM x y/\R y k) e fr Γ):qv P fn m R e fr Γ :=
 ⟨h.1,fun B K q w l n j O=>by
  have⟨v,S,u,x,k,o,b,G,y,C,i⟩:=h.2 B K q w l n j O
  exact⟨v,S,u,y,k,o,b,C _ _ _ G,i⟩⟩
end
section
variable{P:Program}{m:Nat}{Q:dN}{fr:am}{Γ:ap}{ops:Array Oper}{rest:List Oper}{d:Option Tmp}{op:Op}{ty:TypeId}{pos:String}{af:Array Edge}
def GW.join{c y:Code}(K:am->ap->Prop)(o:GW P m c (bo (zf m K) Q) fr Γ)(b:∀fr Γ,K fr Γ->GW P m y Q fr Γ):GW P m c (bo (GW P m y Q) Q) fr Γ:=by
 refine o.mono fun e fr Γ J=>?_
 cases e with
 |normal=>have⟨s,v,l,N⟩:=J;exact GW.wk l (b _ _ N)
 |_=>exact J
def YG.cx{x y:Operand}{t e:TypeId}{k:Nat}[o:lX P t e k]{rows:List am}{z:IntKind}{n:Int}{i:Nat}{r:am}(hx:bf fr x=.sl k rows)(B:bf fr y=.v (.int z n))(w:rows[i]?=some r)(hi:n=(i:Int)):YG P (.indexAddr t x y) fr Γ (.box r 0):=by
 subst hi;exact YG.gR hx B w
def lg:List am->Bool
 |[]=>true
 |r::rs=>n7 r&&lg rs
theorem Bl{rows:List am}(h:lg rows=true):n7 rows.flatten=true:=by
 induction rows with
 |nil=>rfl
 |cons r rs O =>
  simp only[lg,aI]at h
  have u:∀(a b:am),n7 a=true->n7 b=true->n7 (a++b)=true:=by
   intro a
   induction a with
   |nil=>simp
   |cons x a S =>
    grind[n7]
  grind
theorem GL.app{s x:Operand}{t e k O:Nat}[hT:nu P t e k O]{i n fz:Nat}{rows news:List am}(hx:bf fr x=.sl k news)(hs:bf fr s=.vec i n)(Y:Γ[i]?=some (.vec e k fz rows))(hn:rows.length=n)(h1:lg news=true)(T:news.isEmpty=false)
  (hb:n+news.length<=9223372036854775807/\(n+news.length)*O<=140737488355328)
  (h:GL P m ops Q rest (bX fr d (.vec i (n+news.length))) (oset Γ i (.vec e k fz (rows++news)))) :
  GL P m ops Q (⟨d,.call ⟨.builtin .append,#[s,x],#[t,t]⟩,ty,pos,af,none⟩::rest) fr Γ:=fun B K β w l hm hI hF=>by
 subst hn
 have T:news≠[]:=by grind
 have⟨h0,xs,o1,o2,o3,o4,o5,o6⟩:=hI.ob i _ Y;have J:=hF.ev s;rw[hs]at J
 have Ti:ev l s=h0:=by
  generalize hv:ev l s=v at J
  cases J with
  |vec _ _ a c hh =>
   grind
 have N:=hF.ev x;rw[hx]at N;generalize NV:ev l x=v at N
 cases N with
 |sl0 a c k=>grind
 |sl b o c _ _ hr _ =>
  have G:gE k news:=fun r NQ=>by
   have⟨j,z⟩:=List.mem_iff_getElem?.1 NQ;refine⟨(hr j r z).1,fun g E=>?_⟩;have⟨q,hq⟩:=List.mem_iff_getElem?.1 E;exact(hI.fz _ _ _ ((hr j r z).2 q g hq)).1
  have C:∀(rows:List am)(o:Nat),(∀(j:Nat)r,rows[j]?=some r->r.length=k/\∀(q:Nat)g,r[q]?=some g->K b (o+j*k+q)=some g)->∀(q:Nat)g,rows.flatten[q]?=some g->K b (o+q)=some g:=by
   intro rows
   induction rows with
   |nil=>simp
   |cons r rows ih =>
    intro o h q g E;rw[flatten_cons]at E;have hl:=(h 0 r rfl).1
    by_cases hq:q<r.length
    ·rw[j1 hq]at E;have:=(h 0 r rfl).2 q g E
     grind
    ·rw[j0 zfh,hl]at E
     have:=ih (o+k) (fun j r' z=>by
      have:=h (j+1) r' zff
      grind) (q-k) g E
     grind
  obtain⟨us,M,Xy⟩:=wx (K:=K) (β:=β) (H:=w.heap) (b:=b) news.flatten o (fun j g z=>by
   obtain⟨hp,u,hu,W⟩:=hI.fz _ _ _ (C news o (fun j r z=>hr j r z) j g z)
   exact⟨u,hu,W.pc hp⟩)
  have Tj:us.length=news.length*k:=by
   rw[M.1,List.length_flatten]
   have:∀(rows:List am),gE k rows->(rows.map List.length).sum=rows.length*k:=by
    intro rows
    induction rows with
    |nil=>simp
    |cons r rows ih =>
     grind[gE]
   grind
  refine WL.app (base:=0) (v:=h0) (n:=rows.length) (m:=news.length) (xs:=xs) (news:=us) Ti o2 NV Tj (fun j u z=>by grind[fS]) (M.lS (Bl h1)) hb.1 hb.2 (bp _) ?_;intro v' w' F S Jd Fs
  obtain⟨K',hK,NX,R⟩:=hI.grow Y o1 ⟨o2,o3⟩ (news:=news) (ns:=us) F S Jd M G T (fun b A o v ho hv=>by
   rcases Fs with Z|Z
   ·exact Z.c hv (fun h=>h)
   ·have Jg:o<xs.length:=by rw[o2.1];exact BM ho (s0 k o6)
    have⟨b2,c2,xN,_,_,NB⟩:=o2.cells.2 zff
    have xM:b2=b:=by rw[xN]at A;cases A;rfl
    subst xM;have X:=NB o xs[o] (by simp[Jg]);rw[fS,hv]at X;cases X;have⟨b3,c3,W6,_,_,hc3⟩:=F.cells.2 zfs
    have NA:b3=b2:=by rw[W6,A]at Z;cases Z;rfl
    subst NA
    rw[<-fS];grind)
  rw[<-bI]at R;refine h B K' _ w' _ hm R ((hF.mono hK NX).put d ?_);obtain⟨a,c,rfl⟩:=F.shape;exact .vec i _ a c ⟨_,_,b7,by simp,fun _=>by simp⟩
theorem Wk.tV{i o:Nat}{T:TypeId}{cs:am}(E k:Nat)(hi:Γ[i]?=some (.box T cs))(C:cs[o]?=some (.v (.slice none 0 0))):Wk m fr Γ fr (oset Γ i (.box T (bJ cs o (.vec Γ.length 0)))++[.vec E k 0 []]):=fun B K u w l hm G O=>by
 have W:u Γ.length=.no:=G.out _ (aY _);have A:i<Γ.length:=(bY hi).1;have n:=G.BV (w':=w) (E:=E) (k:=k) (x:=.slice none 0 0) (xs:=[]) (rows:=[]) (Ext.refl w) (iz.nil w 0 E k) (fun b R=>by cases R) bF.nil (fun r X=>by cases X);have z:dV u (fU u Γ.length (.gr (.slice none 0 0) ([]:List am).length)):=iV zfu;refine⟨K,_,⟨n.ext,n.kle,n.ble,n.loc,n.fz,fun j x s=>?_,fun j s=>n.out j zfl,n.dis,n.own,n.kn,n.tab⟩,O.mono (dm.refl K) z⟩
 by_cases t:j=i
 ·subst t;rw[j1 zfl,bI,eY]at s;simp[A]at s;subst s;have⟨b,q,J,M,h3,N⟩:=n.ob j (.box T cs) zff;refine⟨b,q,J,M,?_,N⟩
  have H:∀(q:List Value)(cs:am)(o:Nat),bF K (fU u Γ.length (.gr (.slice none 0 0) ([]:List am).length)) q cs->cs[o]?=some (.v (.slice none 0 0))->bF K (fU u Γ.length (.gr (.slice none 0 0) ([]:List am).length)) q (bJ cs o (.vec Γ.length 0)):=by
   intro q
   induction q with
   |nil=>grind
   |cons v q Z =>
    intro cs o h C
    cases cs with
    |nil=>simp at C
    |cons c cs =>
     have⟨a1,F⟩:=h.oI
     cases o with
     |zero =>
      cases C;have Y:=Rel.eW a1;subst Y;exact .cons (.vec _ 0 none 0 ⟨_,_,b7,aY _,fun _=>rfl⟩) F
     |succ o=>exact .cons a1 (Z cs o F zff)
  grind
 ·refine n.ob j x ?_
  by_cases S:j<Γ.length
  ·rw[j1 zfl,bI,eY,ae (fun e=>t e.symm)]at s
   grind
  grind[j0,bI]
theorem Wk.pd{i o j n E k fz:Nat}{T:TypeId}{cs:am}{rows:List am}(hi:Γ[i]?=some (.box T cs))(N:cs[o]?=some (.vec j n))(hij:Nat.beq i j=false)(X:Γ[j]?=some (.vec E k fz rows))(hn:rows.length=n):Wk m fr Γ fr (oset (oset Γ j (.vec E k n rows)) i (.box T (bJ cs o (.sl k rows)))):=fun B K A w l hm W hF=>by
 subst hn
 have NN:i≠j:=by grind
 have⟨h0,xs,Z,o2,o3,o4,o5,o6⟩:=W.ob j _ X;have⟨C,hK,G,s⟩:=W.jx X;rw[<-bI]at s;refine⟨C,A,⟨s.ext,s.kle,s.ble,s.loc,s.fz,fun q x u=>?_,fun q u=>s.out q zfl,s.dis,s.own,s.kn,s.tab⟩,hF.mono hK (dV.refl A)⟩
 by_cases z:q=i
 ·subst z;have J:q<Γ.length:=(bY hi).1;rw[bI,eY]at u;simp[bI,J]at u;subst u;have⟨b,t,h1,h2,h3,h4⟩:=s.ob q (.box T cs) zfl;refine⟨b,t,h1,h2,?_,h4⟩
  have gen:∀(t:List Value)(cs:am)(o:Nat),bF C A t cs->cs[o]?=some (.vec j rows.length)->bF C A t (bJ cs o (.sl k rows)):=by
   intro t
   induction t with
   |nil=>grind
   |cons v t ih =>
    intro cs o h N
    cases cs with
    |nil=>simp at N
    |cons c cs =>
     have⟨a1,O⟩:=h.oI
     cases o with
     |zero =>
      cases N;refine .cons ?_ O
      cases a1 with
      |vec _ _ a c hh =>
       have⟨h',m',R,e2,e3⟩:=hh;rw[Z]at R;cases R;have S:=e3 rfl
       rcases o2.2 with⟨F,e6⟩|⟨g,cap,cu,F,_,_,M,_⟩
       ·have:rows=[]:=ll e6;subst this;exact .sl0 _ _ _
       ·rw[F]at S;cases S;refine .sl g 0 _ k rows (fun j r Y=>⟨(o4 r (bP Y)).1,fun q g' H=>?_⟩) M;rw[dJ];exact G _ g Z (by rw[F];rfl) _ g' (sA o4 Y H)
     |succ o=>exact .cons a1 (ih cs o O zff)
  grind
 ·rw[bI,eY,ae (fun e=>z e.symm)]at u;exact s.ob q x u
end
class nC (P:Program) (t:TypeId) (k:outParam IntKind):Prop where
 und:P.underlying t=some (.int k)
class L7 (P:Program) (t:TypeId):Prop where
 und:∃e,P.underlying t=some (.slice e)/\P.underlying e=some (.int .u8)
theorem L7.mk'{P:Program}{t e:TypeId}(h:P.underlying t=some (.slice e))(k:P.underlying e=some (.int .u8)):L7 P t:=⟨e,h,k⟩
section
variable{P:Program}{m:Nat}{Q:dN}{fr:am}{Γ:ap}{ops:Array Oper}{rest:List Oper}{d:Option Tmp}{op:Op}{ty:TypeId}{pos:String}{af:Array Edge}
def YG.kQ{x y:Operand}{t n:TypeId}{a b:Int}(hx:bf fr x=.v (.int .u8 a))(B:bf fr y=.v (.int .u8 b))(i:0<=a-b/\a-b<=255):YG P (.binOp .sub t x y n) fr Γ (.v (.int .u8 (a-b))) :=
 YG.v2 hx B fun l w h k d ty pos af=>by simp[execOp,eqGuard,h,k,binOp,Op.intArith,IntWalk.u8_in _ i]
def YG.quo{x y:Operand}{t o:TypeId}{a b:Int}(hx:bf fr x=.v (ii a))(B:bf fr y=.v (ii b))(i:0<=a/\a<=9223372036854775807/\1<=b):YG P (.binOp .quo t x y o) fr Γ (.v (ii (a / b))) :=
 YG.v2 hx B fun l w h k d ty pos af=>by
  have n:b≠0:=by omega
  simp[execOp,eqGuard,h,k,binOp,Op.intDiv,n,IntWalk.i64_quo a b i]
def YG.rem{x y:Operand}{t o:TypeId}{a b:Int}(hx:bf fr x=.v (ii a))(B:bf fr y=.v (ii b))(i:0<=a/\1<=b):YG P (.binOp .rem t x y o) fr Γ (.v (ii (a%b))) :=
 YG.v2 hx B fun l w h k d ty pos af=>by
  have n:b≠0:=by omega
  simp[execOp,eqGuard,h,k,binOp,Op.intDiv,n,IntWalk.rem_in a b i.1]
def YG.lZ{x:Operand}{s t:TypeId}{k k':IntKind}{a:Int}[R:nC P s k'][n:nC P t k](hx:bf fr x=.v (.int k' a))(o:k.wrap a=a):YG P (.convert s t x) fr Γ (.v (.int k a)) :=
 YG.v1 hx fun l w h d ty pos af=>by simp[execOp,h,convert,run_underlying R.und,run_underlying n.und,Conv.intToInt,o]
theorem YG.str{x:Operand}{s t:TypeId}{l:ab}{rows:List am}[T:L7 P s][n:qG P t](hx:bf fr x=.sl 1 rows)(A:rows=l.map fun c=>[.v (.int .u8 (c.toNat:Int))]):YG P (.convert s t x) fr Γ (.v (sv l)):=fun B K E w fl k O=>by
 subst A;have⟨e,q,i⟩:=T.und;have h:=O.ev x;rw[hx]at h;generalize C:ev fl x=v at h;refine⟨_,fun d ty pos af=>?_,.v _⟩
 have S:(convert s t v).run P w=.ok (sv l) w:=by
  generalize r:(l.map fun c=>[GV.v (.int .u8 (c.toNat:Int))])=rows at h
  cases h with
  |sl0 a c =>
   have:l=[]:=by simp_all
   subst this
   cases a with
   |none=>rw[run_convert_bytes_string w s t e none 0 c q i n.und];rfl
   |some a=>exact run_convert_bytes_back w s t e a c [] q i n.und (fun j Y=>by simp at Y)
  |sl b o c _ _ W _ =>
   have M:rows.length=l.length:=by grind
   rw[M];refine run_convert_bytes_back w s t e ⟨b,o,none⟩ c l q i n.und (fun j Y=>?_)
   have R:rows[j]?=some [GV.v (.int .u8 (l[j].toNat:Int))]:=by grind
   have⟨_,u,N,z⟩:=k.fz _ _ _ ((W j _ R).2 0 _ rfl)
   grind[qH,fS,Rel.eW]
 simp[execOp,C,S]
end
end Go.Xg
