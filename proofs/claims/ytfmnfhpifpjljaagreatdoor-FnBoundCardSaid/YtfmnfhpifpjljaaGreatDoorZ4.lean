/- Part 4 of proofs that are told in their last texts. -/
import Derived.WalkKit
import Derived.Test.YtfmnfhpifpjljaaGreatDoorZ1
open List (flatten_cons map_toArray)
set_option linter.unusedVariables false
set_option linter.unusedSimpArgs false
set_option linter.defProp false
set_option maxRecDepth 100000
namespace Go.Xw
open Go.RowKit
def nth:List Value->Nat->Value
 |[],_=>undef
 |v::_,0=>v
 |_::l,n+1=>nth l n
def eV:List Value->Nat->Value->List Value
 |[],_,_=>[]
 |_::l,0,v=>v::l
 |x::l,n+1,v=>x::eV l n v
def ev(l:List Value):Operand->Value
 |.tmp t=>nth l t
 |.const v=>v
 |.global g=>.pointer (some ⟨g,0,none⟩)
 |.func f=>.func (.func f) #[] #[]
def put(l:List Value)(d:Option Tmp)(v:Value):List Value :=
 match d with|some d=>eV l d v|none=>l
def jI(l:List Value)(t:Nat):l.toArray.getD t undef=nth l t:=by
 induction l generalizing t with
 |nil=>simp[nth]
 |cons x l O =>
  cases t with
  |zero=>simp[nth]
  |succ t=>rw[nth,<-O];simp
def yl(l:List Value)(t:Nat)(v:Value):l.toArray.setIfInBounds t v=(eV l t v).toArray:=by
 have h:∀(l:List Value)t,eV l t v=l.set t v:=by
  intro l
  induction l with
  |nil=>intro t;rfl
  |cons x l O=>intro t;cases t with|zero=>rfl|succ t=>simp[eV,O]
 grind
def act(l:List Value):Act:=⟨l.toArray,[]⟩
theorem pP(l:List Value):(act l).eval=ev l:=by
 funext x;cases x<;>first|rfl|exact jI l _
theorem qa(l:List Value)(d:Option Tmp)(v:Value):(act l).put d v=act (put l d v):=by
 cases d with
 |none=>rfl
 |some d=>simp only[act,Act.put,put];rw[yl]
abbrev ma:=Exit->List Value->World->Prop
def lift(Q:ma):Exit->Act->World->Prop:=fun e a w=>∃l,a=act l/\Q e l w
def W(P:Program)(c:Code)(Q:ma)(l:List Value)(w:World):Prop:=c.wp P (lift Q) (act l) w
def WL(P:Program)(ops:Array Oper)(Q:ma)(rest:List Oper)(l:List Value)(w:World):Prop :=
 wpList P ops (lift Q) rest (act l) w
def Yx(next:List Value->World->Prop)(Q:ma):ma
 |.normal,l,w=>next l w
 |e,l,w=>Q e l w
def Xv(id:Nat)(Q:ma):ma
 |.exit xt,l,w=>if xt=id then Q .normal l w else Q (.exit xt) l w
 |e,l,w=>Q e l w
section
variable{P:Program}{Q:ma}{l:List Value}{w:World}{ops:Array Oper}{rest:List Oper}
def W.seq{x y:Code}(h:W P x (Yx (W P y Q) Q) l w):W P (.seq x y) Q l w:=by
 refine wp_seq (wp_mono h ?_);rintro e a w⟨l,rfl,m⟩
 cases e<;>first|exact m|exact⟨l,rfl,m⟩
theorem W.skip(h:Q .normal l w):W P .skip Q l w:=wp_skip ⟨l,rfl,h⟩
def W.exit{n:Nat}(h:Q (.exit n) l w):W P (.exit n) Q l w:=wp_exit ⟨l,rfl,h⟩
def W.ret(h:Q .ret l w):W P .ret Q l w:=wp_ret ⟨l,rfl,h⟩
theorem W.block{id:Nat}{c:Code}(h:W P c (Xv id Q) l w):W P (.block id c) Q l w:=by
 refine wp_block (wp_mono h ?_);rintro e a w⟨l,rfl,m⟩
 cases e with
 |exit xt =>
  simp only[Xv]at m
  grind[Exit.inBlock,lift,act]
 |normal=>exact⟨l,rfl,m⟩
 |goto _=>exact⟨l,rfl,m⟩
 |ret=>exact⟨l,rfl,m⟩
 |panic _=>exact⟨l,rfl,m⟩
 |outgrown=>exact⟨l,rfl,m⟩
def W.cond{c:Operand}{x y:Code}{t:Bool}(k:ev l c=.bool t)(o:t=true->W P x Q l w)(hf:t=false->W P y Q l w):W P (.cond c x y) Q l w:=by
 refine wp_cond_split (t:=t) (by rw[pP];exact k) o hf
theorem W.mono{c:Code}{Q':ma}(h:W P c Q l w)(m:∀e l w,Q e l w->Q' e l w):W P c Q' l w :=
 wp_mono h fun _ _ _ ⟨l,z,q⟩=>⟨l,z,m _ _ _ q⟩
def W.loop{c:Code}{T:Type}(o:T->Nat)(ab5:T->List Value->World->Prop)(x:T)(t:ab5 x l w)
  (C:∀x l w,ab5 x l w->W P c (Yx (fun v w'=>∃y,ab5 y v w'/\o y<o x) Q) l w):W P (.loop c) Q l w:=by
 have r:∀n x l w,o x=n->ab5 x l w->∀(b:Frame)(k:List Item)(J:List Frame),
   ∃e E w',lift Q e E w'/\Arrives P (lone (b.at (act l) (.code c::.inLoop c::k)) J w) b k J e E w':=by
  intro n
  induction n using Nat.strongRecOn with
  |_ n u =>
   intro x l w V O b k J;have⟨e,A,S,m,d⟩:=C x l w O b (.inLoop c::k) J;obtain⟨R,rfl,m⟩:=m
   cases e with
   |normal =>
    have⟨y,N,M⟩:=m;have⟨i,s,j,B,q⟩:=u (o y) (V ▸ M) y R S rfl N b k J;exact⟨i,s,j,B,.of_steps (Steps.trans d (.one step_inLoop)) q⟩
   |exit id=>exact zaI
   |goto _=>exact zaI
   |ret=>exact zaI
   |panic F=>exact zaI
   |outgrown=>exact zaI
 intro b k J;have⟨e,E,w',m,d⟩:=r _ x l w rfl t b k J;exact⟨e,E,w',m,.of_steps (.one step_loop) d⟩
def W.region{id:Nat}{A:List Oper}(h:WL P A.toArray Q A l w):W P (.region id A.toArray false) Q l w :=
 wp_region_lit h
theorem WL.nil(h:Q .normal l w):WL P ops Q [] l w:=⟨l,rfl,h⟩
def WL.val{d:Option Tmp}{H:Op}{ty:TypeId}{t:String}{c:Array Edge}{v:Value}{w':World}
  (r:(execOp (ev l) ⟨d,H,ty,t,c,none⟩).run P w=.ok (.value v) w')
  (h:WL P ops Q rest (put l d v) w'):WL P ops Q (⟨d,H,ty,t,c,none⟩::rest) l w:=by
 refine wpList_plain rfl fun K S=>?_
 simp only[Oper.wp,pP,r,Oper.upon_value,qa];exact S _ _ h
def WL.skp{d:Option Tmp}{H:Op}{ty:TypeId}{t:String}{c:Array Edge}{w':World}
  (r:(execOp (ev l) ⟨d,H,ty,t,c,none⟩).run P w=.ok .skip w')
  (h:WL P ops Q rest (put l d undef) w'):WL P ops Q (⟨d,H,ty,t,c,none⟩::rest) l w:=by
 refine wpList_plain rfl fun K S=>?_
 simp only[Oper.wp,pP,r,Oper.upon_skip,qa];exact S _ _ h
def WL.gt{d:Option Tmp}{H:Op}{ty:TypeId}{t:String}{c:Array Edge}{g:Option (Nat × Bool)}
  (R:Region.wanted ⟨d,H,ty,t,c,g⟩ (yielded ops (act l).tmps)=true)
  (h:WL P ops Q (⟨d,H,ty,t,c,none⟩::rest) l w):WL P ops Q (⟨d,H,ty,t,c,g⟩::rest) l w:=by
 unfold WL wpList at *;rw[ae R];rw[ae zfy]at h;exact h
def WL.gf{d:Option Tmp}{H:Op}{ty:TypeId}{t:String}{c:Array Edge}{g:Option (Nat × Bool)}
  (R:Region.wanted ⟨d,H,ty,t,c,g⟩ (yielded ops (act l).tmps)=false)
  (h:WL P ops Q rest (put l d undef) w):WL P ops Q (⟨d,H,ty,t,c,g⟩::rest) l w:=by
 unfold WL wpList;rw[D ze3];show wpList P ops (lift Q) rest ((act l).put d undef) w;rw[qa];exact h
end
section
variable{next:List Value->World->Prop}{Q:ma}{l:List Value}{w:World}{id xt:Nat}
end
structure Ext(S:Nat->Prop)(w w':World):Prop where
 os:w'.os=w.os
 tape:w'.tape=w.tape
 output:w'.output=w.output
 size:w.heap.size<=w'.heap.size
 block:∀k,k<w.heap.size->¬S k->w'.heap[k]?=w.heap[k]?
abbrev gn:Nat->Prop:=fun _=>False
theorem Ext.refl{S:Nat->Prop}(w:World):Ext S w w:=⟨rfl,rfl,rfl,aQ _,fun _ _ _=>rfl⟩
def Ext.trans{S:Nat->Prop}{a b c:World}(h:Ext S a b)(k:Ext S b c):Ext S a c :=
 ⟨k.os.trans h.os,k.tape.trans h.tape,k.output.trans h.output,jy h.size k.size,
  fun i t q=>(k.block i (BD t h.size) q).trans (h.block i t q)⟩
def Ext.step{J S:Nat->Prop}{a b c:World}(h:Ext J a b)(k:Ext S b c)(q:∀j,S j->a.heap.size<=j\/J j):Ext J a c :=
 ⟨k.os.trans h.os,k.tape.trans h.tape,k.output.trans h.output,jy h.size k.size,
  fun i t T=>(k.block i (BD t h.size) fun m=>by
   grind).trans (h.block i t T)⟩
theorem Ext.mono{S N:Nat->Prop}{a b:World}(h:Ext S a b)(q:∀k,k<a.heap.size->S k->N k):Ext N a b :=
 ⟨h.os,h.tape,h.output,h.size,fun i t T=>h.block i t fun x=>T (q i t x)⟩
def Ext.blk{S:Nat->Prop}{a b:World}(h:Ext S a b){k:Nat}{o:Obj}(T:a.heap[k]?=some o)(q:¬S k):b.heap[k]?=some o:=by
 rw[h.block k ze3 q,T]
def ME{w:World}{b o:Nat}{cs:Array Value}{E:TypeId}{fz:Nat × Nat}{v:Value}(z:w.heap[b]?=some (.cells cs E fz))(T:cs[o]?=some v):w.cell? ⟨b,o,none⟩=some v:=by
 grind[World.cell?]
theorem Ext.below{a b:World}(h:Ext gn a b):Below a.heap.size a b:=⟨h.os,h.tape,h.output,h.size,fun k m=>h.block k m (fun x=>x)⟩
structure ur(w w':World)(b:Nat)(o:Obj):Prop where
 fresh:b=w.heap.size
 size:w'.heap.size=b+1
 blk:w'.heap[b]?=some o
 ext:Ext gn w w'
def ur.of(w:World)(o:Obj):ur w (w.alloc o) w.heap.size o :=
 ⟨rfl,by simp,heap_alloc_new w o,⟨rfl,rfl,rfl,by simp,fun k m _=>Below.heap_alloc _ _ _ m⟩⟩
def yt:TypeDesc->Bool
 |.struct _=>true
 |.array _ _=>true
 |_=>false
class Ty (P:Program) (t:TypeId) (agg:outParam Bool) (k:outParam Nat):Prop where
 und:(P.underlying t).map yt=some agg
 siz:(P.info? t).map (·.size)=some k
class lN (P:Program) (t:TypeId) (e:outParam TypeId) (k:outParam Nat):Prop where
 und:P.underlying t=some (.slice e)
 siz:(P.info? e).map (·.size)=some k
class qp (P:Program) (t:TypeId):Prop where
 und:P.underlying t=some .string
def Lf(P:Program)(s:TypeId)(i:Nat)(F:Nat)(k:Nat)(agg:Bool):Bool :=
 match P.underlying s with
 |some (.struct d)=>match d[i]? with
  |some f=>f.offset==F&&(match P.info? f.type with|some x=>x.size==k|none=>false)&&k != 0&&((P.underlying f.type).map yt==some agg)
  |none=>false
 |_=>false
class dV (P:Program) (s:TypeId) (i:Nat) (off:outParam Nat) (k:outParam Nat) (agg:outParam Bool):Prop where
 is:Lf P s i off k agg=true
section
variable{P:Program}{w:World}
theorem D1{t:TypeId}{agg:Bool}{k:Nat}[h:Ty P t agg k]:(isAgg t).run P w=.ok agg w:=by
 have⟨m,_⟩:=h
 cases F:P.underlying t with
 |none=>grind
 |some d =>
  rw[F]at m;unfold isAgg;rw[Sem.run_bind,run_underlying F w]
  cases d<;>simp_all[yt]
theorem iw{t:TypeId}{k:Nat}(h:(P.info? t).map (·.size)=some k):(sizeOf t).run P w=.ok k w:=by
 cases m:P.info? t with
 |none=>grind
 |some i=>simp[m]at h;simp[sizeOf,typeInfo,m,h]
theorem qs(b o n:Nat):(⟨b,o,none⟩:Addr).add n=⟨b,o+n,none⟩:=by
 simp[Addr.add]
theorem GB{t:TypeId}[h:Ty P t false 1]{a:Addr}{v:Value}(T:w.cell? a=some v):(loadVar t a).run P w=.ok v w:=by
 unfold loadVar
 simp_all[Sem.run_bind,D1]
theorem mQ{t:TypeId}{k:Nat}[h:Ty P t true k]{b o:Nat}{vs:List Value}(T:vs.length=k)(V:∀j v,vs[j]?=some v->w.cell? ⟨b,o+j,none⟩=some v) :
  (loadVar t ⟨b,o,none⟩).run P w=.ok (.agg vs.toArray) w:=by
 unfold loadVar;rw[Sem.run_bind,D1 (agg:=true) (k:=k)]
 have m:(loadCells ⟨b,o,none⟩ k).run P w=.ok vs.toArray w:=by
  grind[run_loadCells_list,qs]
 simp[iw h.siz,m]
end
def fu(P:Program)(l:List Value)(w:World)(J:Op)(v:Value):Prop :=
 ∀(d:Option Tmp)(r:TypeId)(t:String)(c:Array Edge),(execOp (ev l) ⟨d,J,r,t,c,none⟩).run P w=.ok (.value v) w
def WL.v{P:Program}{Q:ma}{l:List Value}{w:World}{s:Array Oper}{rest:List Oper}{d:Option Tmp}{J:Op}{ty:TypeId}{t:String}{c:Array Edge}{v:Value}
  (r:fu P l w J v)(h:WL P s Q rest (put l d v) w):WL P s Q (⟨d,J,ty,t,c,none⟩::rest) l w:=WL.val (r d ty t c) h
section
variable{P:Program}{l:List Value}{w:World}
theorem R.mv{x:Operand}:fu P l w (.move x) ((ev l x)):=fun d r t c=>by rfl
theorem R.lB{x:Operand}:fu P l w (.assign x) ((ev l x)):=fun d r t c=>by rfl
theorem R.pick{c a b:Operand}{t:Bool}(k:ev l c=.bool t):fu P l w (.pick c a b) ((if t then ev l a else ev l b)):=fun d r u e=>by simp[execOp,k,asBool]
theorem R.EE{x:Operand}{a:Addr}(hx:ev l x=.pointer (some a)):fu P l w (.nilCheck x) ((.pointer (some a))):=fun d r t c=>by simp[execOp,hx]
theorem R.extract{x:Operand}{i:Nat}{vs:Array Value}{v:Value}(hx:ev l x=.tuple vs)(T:vs[i]?=some v):fu P l w (.extract x i) (v):=fun d r t c=>by simp[execOp,hx,Instr.extract,T]
theorem R.Cp{fn:Fn}{first E:Array Operand}:fu P l w (.makeFunc fn first E) ((.func fn (first.map (ev l)) (E.map (ev l)))):=fun d r t c=>by rfl
abbrev ai:=List UInt8
def sv(s:ai):Value:=.string ⟨s.toArray⟩
def toList_mk(s:ai):(⟨s.toArray⟩:ByteArray).toList=s:=by
 simp
theorem yT(s:ai):(⟨s.toArray⟩:ByteArray).size=s.length:=by
 rfl
def MD(a b:ai):(⟨a.toArray⟩:ByteArray)++⟨b.toArray⟩=⟨(a++b).toArray⟩:=by
 rfl
theorem extract_mk(s:ai)(i j:Nat):(⟨s.toArray⟩:ByteArray).extract i j=⟨((s.take j).drop i).toArray⟩:=by
 apply ByteArray.ext
 grind[ByteArray.data_extract,Nat.add_sub_cancel',List.drop_eq_nil_of_le]
abbrev ii(n:Int):Value:=.int .i64 n
def CT{n:Int}(M : -9223372036854775808<=n)(v:n<=9223372036854775807):IntKind.i64.wrap n=n:=IntWalk.i64_in _ ⟨M,v⟩
def R.Rh{x:Operand}{t:TypeId}[z:qp P t]{s:ai}(hx:ev l x=sv s):fu P l w (.call ⟨.builtin .len,#[x],#[t]⟩) ((ii s.length)):=fun d r u c=>by simp[execOp,resolve,invoke,builtin,hx,sv,Builtin.len_,goInt,run_underlying z.und,yT]
def R.LC{x:Operand}{t e:TypeId}{k:Nat}[z:lN P t e k]{a:Option Addr}{n c:Nat}(hx:ev l x=.slice a n c):fu P l w (.call ⟨.builtin .len,#[x],#[t]⟩) ((ii n)):=fun d r u i=>by simp[execOp,resolve,invoke,builtin,hx,Builtin.len_,goInt,run_underlying z.und]
theorem R.add{x y:Operand}{t c:TypeId}{a b:Int}(hx:ev l x=ii a)(J:ev l y=ii b)(M : -9223372036854775808<=a+b)(v:a+b<=9223372036854775807):fu P l w (.binOp .add t x y c) ((ii (a+b))):=fun d r u e=>by simp[execOp,eqGuard,hx,J,binOp,Op.intArith,CT M v]
theorem R.sub{x y:Operand}{t c:TypeId}{a b:Int}(hx:ev l x=ii a)(J:ev l y=ii b)(M : -9223372036854775808<=a-b)(v:a-b<=9223372036854775807):fu P l w (.binOp .sub t x y c) ((ii (a-b))):=fun d r u e=>by simp[execOp,eqGuard,hx,J,binOp,Op.intArith,CT M v]
def R.mul{x y:Operand}{t c:TypeId}{a b:Int}(hx:ev l x=ii a)(J:ev l y=ii b)(M : -9223372036854775808<=a*b)(v:a*b<=9223372036854775807):fu P l w (.binOp .mul t x y c) ((ii (a*b))):=fun d r u e=>by simp[execOp,eqGuard,hx,J,binOp,Op.intArith,CT M v]
theorem R.cat{x y:Operand}{t c:TypeId}{a b:ai}(hx:ev l x=sv a)(J:ev l y=sv b)(M:a.length+b.length<=9223372036854775807):fu P l w (.binOp .add t x y c) ((sv (a++b))):=fun d r u e=>by
  have v:¬((((⟨a.toArray⟩:ByteArray).size+(⟨b.toArray⟩:ByteArray).size:Nat):Int)>IntKind.i64.max):=by
   grind[yT,IntKind.signed,IntKind.bits,IntKind.max]
  simp only[execOp,eqGuard,hx,J,binOp,sv,Op.stringOp,D v,MD];simp
theorem R.eq{x y:Operand}{t c:TypeId}{k:IntKind}{a b:Int}(hx:ev l x=.int k a)(J:ev l y=.int k b):fu P l w (.binOp .eql t x y c) ((.bool (a==b))):=fun d r u e=>by simp[execOp,eqGuard,hx,J,binOp,Op.intCmp]
theorem R.ne{x y:Operand}{t c:TypeId}{k:IntKind}{a b:Int}(hx:ev l x=.int k a)(J:ev l y=.int k b):fu P l w (.binOp .neq t x y c) ((.bool (a != b))):=fun d r u e=>by simp[execOp,eqGuard,hx,J,binOp,Op.intCmp]
theorem R.lt{x y:Operand}{t c:TypeId}{k:IntKind}{a b:Int}(hx:ev l x=.int k a)(J:ev l y=.int k b):fu P l w (.binOp .lss t x y c) ((.bool (decide (a<b)))):=fun d r u e=>by simp[execOp,eqGuard,hx,J,binOp,Op.intCmp]
theorem R.le{x y:Operand}{t c:TypeId}{k:IntKind}{a b:Int}(hx:ev l x=.int k a)(J:ev l y=.int k b):fu P l w (.binOp .leq t x y c) ((.bool (decide (a<=b)))):=fun d r u e=>by simp[execOp,eqGuard,hx,J,binOp,Op.intCmp]
theorem R.gt'{x y:Operand}{t c:TypeId}{k:IntKind}{a b:Int}(hx:ev l x=.int k a)(J:ev l y=.int k b):fu P l w (.binOp .gtr t x y c) ((.bool (decide (b<a)))):=fun d r u e=>by simp[execOp,eqGuard,hx,J,binOp,Op.intCmp]
theorem R.ge{x y:Operand}{t c:TypeId}{k:IntKind}{a b:Int}(hx:ev l x=.int k a)(J:ev l y=.int k b):fu P l w (.binOp .geq t x y c) ((.bool (decide (b<=a)))):=fun d r u e=>by simp[execOp,eqGuard,hx,J,binOp,Op.intCmp]
def R.nI{x y:Operand}{t c:TypeId}{a b:ai}(hx:ev l x=sv a)(J:ev l y=sv b):fu P l w (.binOp .eql t x y c) ((.bool (a==b))):=fun d r u e=>by simp only[execOp,eqGuard,hx,J,binOp,sv,Op.stringOp,toList_mk];simp
def R.nO{x y:Operand}{t c:TypeId}{a b:ai}(hx:ev l x=sv a)(J:ev l y=sv b):fu P l w (.binOp .neq t x y c) ((.bool (!(a==b)))):=fun d r u e=>by simp only[execOp,eqGuard,hx,J,binOp,sv,Op.stringOp,toList_mk];simp
theorem R.not{x:Operand}{t:TypeId}{b:Bool}(hx:ev l x=.bool b):fu P l w (.unOp .not t x) ((.bool (!b))):=fun d r u c=>by simp[execOp,hx,Op.unary]
theorem R.jn{x y:Operand}{t:TypeId}[z:qp P t]{s:ai}{k:IntKind}{i:Nat}{c:UInt8}(hx:ev l x=sv s)(J:ev l y=.int k i)(m:s[i]?=some c):fu P l w (.index t x y) ((.int .u8 c.toNat)):=fun d r u e=>by
  have B:(⟨s.toArray⟩:ByteArray)[i]?=some c:=by
   grind[List.getElem?_eq_some_iff,yT,ByteArray.getElem_eq_getElem_data]
  simp[execOp,Instr.index,hx,J,asIntOf,run_underlying z.und,sv,B]
def R.RZ{x:Operand}{t:TypeId}[A:qp P t]{s:ai}{lo hi:Option Operand}{i j:Nat}(hx:ev l x=sv s)
  (B:match lo with|some y=>∃k,ev l y=.int k i|none=>i=0)(S:match hi with|some y=>∃k,ev l y=.int k j|none=>j=s.length)
  (M:i<=j)(v:j<=s.length):fu P l w (.slice t x lo hi none) ((sv ((s.take j).drop i))):=fun d r u c=>by
  have z:=yT s
  cases lo<;>cases hi<;>simp only at B S
  ·subst B;subst S;simp[execOp,Instr.sliceAt,Instr.slice,Instr.sliceBounds,hx,sv,run_underlying A.und,z,extract_mk]
  ·have⟨k,m⟩:=S;subst B;simp[execOp,Instr.sliceAt,Instr.slice,Instr.sliceBounds,Instr.sliceBound,asIntOf,hx,m,sv,run_underlying A.und,z,extract_mk,v]
  ·have⟨k,m⟩:=B;subst S;simp[execOp,Instr.sliceAt,Instr.slice,Instr.sliceBounds,Instr.sliceBound,asIntOf,hx,m,sv,run_underlying A.und,z,extract_mk,M]
  ·have⟨k,m⟩:=B;have⟨E,C⟩:=S;simp[execOp,Instr.sliceAt,Instr.slice,Instr.sliceBounds,Instr.sliceBound,asIntOf,hx,m,C,sv,run_underlying A.und,z,extract_mk,M,v]
def R.jM{x y:Operand}{t e:TypeId}{k:Nat}[z:lN P t e k]{b o n c:Nat}{A:IntKind}{i:Nat}(hx:ev l x=.slice (some ⟨b,o,none⟩) n c)(J:ev l y=.int A i)(hi:i<n):fu P l w (.indexAddr t x y) ((.pointer (some ⟨b,o+i*k,none⟩))):=fun d r u j=>by
  simp[execOp,Instr.indexAt,hx,J,asIntOf,run_underlying z.und,hi,iw z.siz,qs]
theorem R.QE{x:Operand}{s:TypeId}{i F k:Nat}{agg:Bool}[z:dV P s i F k agg]{b o:Nat}(hx:ev l x=.pointer (some ⟨b,o,none⟩)):fu P l w (.fieldAddr s x i) ((.pointer (some ⟨b,o+F,none⟩))):=fun d r u c=>by
  have⟨z⟩:=z;unfold Lf at z;split at z
  ·rename_i e m;split at z
   ·rename_i f t;simp only[aU,beq_iff_eq,bne_iff_ne,ne_eq]at z;have⟨⟨⟨M,v⟩,A⟩,N⟩:=z;split at v
    ·rename_i x n
     have q:(P.info? f.type).map (·.size)=some k:=by grind
     simp[execOp,Instr.fieldAt,hx,run_underlying m,t,Instr.sureAddr,fieldPlace,iw q,A,qs,M]
    grind
   grind
  grind
def R.ld1{x:Operand}{t:TypeId}[z:Ty P t false 1]{a:Addr}{v:Value}(hx:ev l x=.pointer (some a))(T:w.cell? a=some v):fu P l w (.load t x) (v):=fun d r u c=>by simp[execOp,Instr.loadAt,hx,Instr.sureAddr,GB T]
def R.ldN{x:Operand}{t:TypeId}{k:Nat}[z:Ty P t true k]{b o:Nat}{vs:List Value}(hx:ev l x=.pointer (some ⟨b,o,none⟩))(T:vs.length=k)
  (V:∀j v,vs[j]?=some v->w.cell? ⟨b,o+j,none⟩=some v):fu P l w (.load t x) ((.agg vs.toArray)):=fun d r u c=>by simp[execOp,Instr.loadAt,hx,Instr.sureAddr,mQ T V]
end
def iQ(H:Array Obj)(b o:Nat):Option Value :=
 match H[b]? with
 |some (.cells c _ _)=>c[o]?
 |_=>none
theorem fY(w:World)(b o:Nat):w.cell? ⟨b,o,none⟩=iQ w.heap b o:=by
 rfl
def E7{H:Array Obj}{b o:Nat}{v:Value}(h:iQ H b o=some v):b<H.size:=by
 grind[iQ,Array.getElem?_eq_some_iff]
def Ext.c{S:Nat->Prop}{w w':World}(hx:Ext S w w'){b o:Nat}{v:Value}(h:iQ w.heap b o=some v)(q:¬S b):iQ w'.heap b o=some v:=by
 unfold iQ at *;rw[hx.block b (E7 (H:=w.heap) (by unfold iQ;exact h)) q];exact h
theorem zJ{H:Array Obj}{b o:Nat}{cs:Array Value}{E:TypeId}{fz:Nat × Nat}{v:Value}(z:H[b]?=some (.cells cs E fz))(T:cs[o]?=some v):iQ H b o=some v:=by
 grind[iQ]
def Ext.drew{S:Nat->Prop}(w:World):Ext S w w.drew:=⟨rfl,rfl,rfl,aQ _,fun _ _ _=>rfl⟩
theorem R.ld{P:Program}{l:List Value}{w:World}{x:Operand}{t:TypeId}[z:Ty P t false 1]{b o:Nat}{v:Value}(hx:ev l x=.pointer (some ⟨b,o,none⟩))(T:iQ w.heap b o=some v):fu P l w (.load t x) v:=R.ld1 hx (by grind[fY])
def R.ldS{P:Program}{l:List Value}{w:World}{x:Operand}{t:TypeId}{k:Nat}[z:Ty P t true k]{b o:Nat}{vs:List Value}(hx:ev l x=.pointer (some ⟨b,o,none⟩))(T:vs.length=k)
  (V:∀j v,vs[j]?=some v->iQ w.heap b (o+j)=some v):fu P l w (.load t x) (.agg vs.toArray):=R.ldN hx T (fun j v h=>by grind[fY])
section
variable{H:Array Obj}{b o:Nat}{v0 v1 v2 v3 v4 v5:Value}
end
class ps (P:Program) (t:TypeId) (z:outParam Value):Prop where
 is:(P.info? t).bind (·.zero)=some z
structure uv(w w':World)(b:Nat)(cs:Array Value)(E:TypeId):Prop where
 blk:w'.heap[b]?=some (.cells cs E (0,0))
 ext:Ext (·=b) w w'
 size:w'.heap.size=w.heap.size
def setL(cs:Array Value)(o:Nat):List Value->Array Value
 |[]=>cs
 |v::r=>setL (cs.setIfInBounds o v) (o+1) r
def lI(vs:List Value):Bool:=vs.all (·.oneCell')
section
variable{P:Program}{w:World}
theorem Ao{t:TypeId}{z:Value}[h:ps P t z]:(zeroValue t).run P w=.ok z w:=by
 have⟨h⟩:=h
 cases m:P.info? t with
 |none=>grind
 |some i=>simp[m]at h;simp[zeroValue,typeInfo,m,h]
theorem uv.refl{b:Nat}{cs:Array Value}{E:TypeId}(v:w.heap[b]?=some (.cells cs E (0,0))):uv w w b cs E:=⟨v,Ext.refl _,rfl⟩
def uv.trans{N t:World}{b:Nat}{cs s:Array Value}{E:TypeId}(h:uv w N b cs E)(k:uv N t b s E):uv w t b s E :=
 ⟨k.blk,h.ext.trans k.ext,k.size.trans h.size⟩
theorem uv.setCell{b o:Nat}{cs:Array Value}{E:TypeId}(z:w.heap[b]?=some (.cells cs E (0,0)))(v:Value) :
  uv w (w.setCell ⟨b,o,none⟩ v) b (cs.setIfInBounds o v) E :=
 ⟨heap_setCell_same w b o cs E v z,⟨rfl,rfl,rfl,by simp,fun k _ q=>heap_setCell_other w _ k v q⟩,by simp⟩
theorem wb{b o:Nat}{E:TypeId}:∀(vs:List Value)(i:Nat)(w:World)(cs:Array Value),w.heap[b]?=some (.cells cs E (0,0))->o+i+vs.length<=cs.size->lI vs=true ->
  ∃w',(storeCells ⟨b,o,none⟩ vs i).run P w=.ok () w'/\uv w w' b (setL cs (o+i) vs) E
 |[],i,w,cs,z,_,_=>⟨w,by rfl,uv.refl z⟩
 |v::r,i,w,cs,z,T,M=>by
  simp only[lI,List.all_cons,aU]at M;simp only[List.length_cons]at T;have q:=uv.setCell (w:=w) (o:=o+i) z v;obtain⟨w',t,F⟩:=wb (b:=b) (o:=o) (E:=E) r (i+1) _ _ q.blk ze3 M.2;refine⟨w',?_,q.trans (by grind[World.setCell,setL])⟩;have n:w.cell? ⟨b,o+i,none⟩=cs[o+i]?:=cell_of_row w b (o+i) cs E (0,0) z;have k:∃u,w.cell? ⟨b,o+i,none⟩=some u:=⟨cs[o+i]'ze4,by grind⟩;have⟨u,m⟩:=k;have s:w.frozen? ⟨b,o+i,none⟩=false:=frozen_of_row w b _ cs E z
  have R:(store ((⟨b,o,none⟩:Addr).add i) v).run P w=.ok () (w.setCell ⟨b,o+i,none⟩ v):=by
   rw[qs]
   cases v<;>first|(simp[Value.oneCell']at M;done)|simp[store,Sem.run,m,s]
  grind[Sem.run_bind,Result.andThen_ok,Sem.run,storeCells]
def GD{t:TypeId}{agg:Bool}{k:Nat}[z:Ty P t agg k]{b o:Nat}{E:TypeId}{cs:Array Value}{v:Value}(A:w.heap[b]?=some (.cells cs E (0,0)))
  (T:v.cells.size=k)(m:o+k<=cs.size)(M:lI v.cells.toList=true) :
  ∃w',(storeVar t ⟨b,o,none⟩ v).run P w=.ok () w'/\uv w w' b (setL cs o v.cells.toList) E:=by
 have⟨w',r,q⟩:=wb (P:=P) (o:=o) v.cells.toList 0 w cs A ze3 M;refine⟨w',?_,by omega⟩;simp[storeVar,iw z.siz,T,r]
end
def mT:List Value->Nat->List Value->List Value
 |cs,_,[]=>cs
 |cs,o,v::r=>mT (eV cs o v) (o+1) r
def qz(V:Nat->Option (Nat × Nat)):List Value->List (Nat × Value)->Option (List Value)
 |cs,[]=>some cs
 |cs,(i,v)::r=>match V i with
  |none=>none
  |some (o,k)=>if v.cells.size≠k ||decide (o+v.cells.size>cs.length)then none else qz V (mT cs o v.cells.toList) r
def AM:∀(vs:List Value)(cs:List Value)(o n:Nat),
  (vs.zipIdx n).foldl (fun(cs:Array Value)(x:Value × Nat)=>cs.setIfInBounds (o+x.2) x.1) cs.toArray=(mT cs (o+n) vs).toArray
 |[],cs,o,n=>by rfl
 |v::r,cs,o,n=>by
  simp only[List.zipIdx_cons,List.foldl_cons,yl,mT];rw[AM r];rfl
def xM(V:Nat->Option (Nat × Nat)):∀(parts:List (Nat × Value))(cs:List Value),
  Instr.fill V cs.toArray parts=(qz V cs parts).map List.toArray
 |[],cs=>by rfl
 |(i,v)::r,cs=>by
  simp only[Instr.fill,qz]
  cases A:V i with
  |none=>rfl
  |some x =>
   have⟨o,k⟩:=x;simp only[List.size_toArray];split
   ·rfl
   ·have h:(v.cells.zipIdx.foldl (fun(cs:Array Value)(x:Value × Nat)=>cs.setIfInBounds (o+x.2) x.1) cs.toArray)=(mT cs o v.cells.toList).toArray:=by
     have:=AM v.cells.toList cs o 0
     grind[Array.toList_zipIdx]
    have z:=xM V r (mT cs o v.cells.toList)
    grind
def Tx(P:Program)(t:TypeId)(V:List (Nat × Nat)):Bool :=
 match P.underlying t with
 |some (.struct e)=>(e.toList.map fun f=>(f.offset,(P.info? f.type).map (·.size)))==V.map fun x=>(x.1,some x.2)
 |_=>false
class qS (P:Program) (t:TypeId) (pl:outParam (List (Nat × Nat))) (z:outParam (List Value)):Prop where
 is:Tx P t pl=true
 zero:(P.info? t).bind (·.zero)=some (.agg z.toArray)
section
variable{P:Program}{w:World}
theorem Bm{e:List Field}:∀{V:List (Nat × Nat)},(e.map fun f=>(f.offset,(P.info? f.type).map (·.size)))=(V.map fun x=>(x.1,some x.2)) ->
  (List.mapM (m:=Sem) (fun(f:Field)=>Functor.map (Prod.mk f.offset) (sizeOf f.type)) e).run P w=.ok V w:=by
 induction e with
 |nil=>simp
 |cons f e O =>
  intro V h
  cases V with
  |nil=>simp at h
  |cons x V =>
   simp only[List.map_cons,List.cons.injEq,Prod.mk.injEq]at h;have⟨⟨M,v⟩,z⟩:=h;have:=O z;have S:=iw (w:=w) v
   simp_all
theorem run_build{t:TypeId}{V:List (Nat × Nat)}{z:List Value}[A:qS P t V z]{parts:List (Nat × Value)}{cs:List Value}(hf:qz (fun i=>V[i]?) z parts=some cs) :
  (Instr.build t parts.toArray).run P w=.ok (.agg cs.toArray) w:=by
 have⟨u,o⟩:=A
 have B:(zeroValue t).run P w=.ok (.agg z.toArray) w:=by
  haveI:ps P t (.agg z.toArray):=⟨o⟩
  exact Ao
 unfold Tx at u;split at u
 ·rename_i e n;have H:=Bm (P:=P) (w:=w) (eq_of_beq u)
  have G:(Array.mapM (m:=Sem) (fun(f:Field)=>Functor.map (Prod.mk f.offset) (sizeOf f.type)) e).run P w=.ok V.toArray w:=by
   simp_all[Array.mapM_eq_mapM_toList]
  have F:=xM (fun i=>V[i]?) parts z;rw[hf]at F;simp[Instr.build,Sem.run_bind,B,run_underlying n,G,Value.cells];simp[F]
 grind
end
section
variable{P:Program}{Q:ma}{l:List Value}{w:World}{ops:Array Oper}{rest:List Oper}{d:Option Tmp}{ty:TypeId}{pos:String}{af:Array Edge}
def Bn(t:TypeId)(v:Value):(newVar t v).run P w=.ok ⟨w.heap.size,0,none⟩ (w.alloc (.cells v.cells t)):=by
 rfl
def WL.alloc{t:TypeId}{z:Value}[A:ps P t z](h:∀b w',ur w w' b (.cells z.cells t)->WL P ops Q rest (put l d (.pointer (some ⟨b,0,none⟩))) w') :
  WL P ops Q (⟨d,.alloc t,ty,pos,af,none⟩::rest) l w :=
 WL.val (w':=w.alloc (.cells z.cells t)) (by simp[execOp,Instr.alloc,Ao (w:=w) (z:=z),Bn]) (h _ _ (ur.of w _))
def WL.box{t:TypeId}{x:Operand}{v:Value}(hx:ev l x=v)(h:∀b w',ur w w' b (.cells v.cells t)->WL P ops Q rest (put l d (.pointer (some ⟨b,0,none⟩))) w') :
  WL P ops Q (⟨d,.box t x,ty,pos,af,none⟩::rest) l w :=
 WL.val (w':=w.alloc (.cells v.cells t)) (by simp[execOp,Instr.box,Bn,hx]) (h _ _ (ur.of w _))
def R.build{t:TypeId}{V:List (Nat × Nat)}{z:List Value}[A:qS P t V z]{parts:List (Nat × Operand)}{cs:List Value}
  (hf:qz (fun i=>V[i]?) z (parts.map fun x=>(x.1,ev l x.2))=some cs):fu P l w (.build t parts.toArray) (.agg cs.toArray):=fun d ty pos af=>by
  have r:=run_build (P:=P) (w:=w) (t:=t) hf;simp only[execOp,map_toArray];simp[r]
class og (P:Program) (t:TypeId) (e:outParam TypeId) (k:outParam Nat) (z:outParam (List Value)):Prop where
 und:P.underlying t=some (.slice e)
 siz:(P.info? e).map (·.size)=some k
 zero:(P.info? e).bind (·.zero)=some (if k=1 then z.headD undef else .agg z.toArray)
 zl:z.length=k
 pos:0<k
 one:k=1->(z.headD undef).cells=#[z.headD undef]
theorem og.cells{t e:TypeId}{k:Nat}{z:List Value}(h:og P t e k z):(if k=1 then z.headD undef else .agg z.toArray).cells=z.toArray:=by
 split
 ·rename_i m;rw[h.one m];have:=h.zl;rw[m]at this
  match z,this with
  |[a],_=>rfl
 ·rfl
theorem WL.Cq{t e:TypeId}{k:Nat}{z:List Value}[A:og P t e k z]{n:Nat}{parts:List (Nat × Operand)}{cs:List Value}(hn:n*k<=16777216)
  (hf:qz (fun i=>some (i*k,k)) ((List.range (n*k)).map fun j=>z.getD (j%k) undef) (parts.map fun x=>(x.1,ev l x.2))=some cs)
  (h:∀b w',ur w w' b (.cells cs.toArray e)->WL P ops Q rest (put l d (.slice (some ⟨b,0,none⟩) n n)) w') :
  WL P ops Q (⟨d,.buildSlice t n parts.toArray,ty,pos,af,none⟩::rest) l w :=
 WL.val (w':=w.alloc (.cells cs.toArray e)) (by
  have q:(zeroValue e).run P w=.ok (if k=1 then z.headD undef else .agg z.toArray) w:=by
   haveI:ps P e (if k=1 then z.headD undef else .agg z.toArray):=⟨A.zero⟩
   exact Ao
  have o:=A.cells;generalize(if k=1 then z.headD undef else .agg z.toArray:Value)=S at q o;have F:=xM (fun i=>some (i*k,k)) (parts.map fun x=>(x.1,ev l x.2)) ((List.range (n*k)).map fun j=>z.getD (j%k) undef);rw[hf]at F
  have m:¬(16777216<n*k):=by omega
  by_cases s:n*k=0
  ·have N:n=0:=by
    rcases Nat.mul_eq_zero.1 s with h|h
    ·exact h
    ·have:=A.pos;omega
   subst N;simp only[Nat.zero_mul,List.range_zero,List.map_nil]at F;simp only[execOp,map_toArray];have E:(Array.range 0)=#[]:=rfl;simp[Instr.buildSlice,run_underlying A.und,iw A.siz,E,F];rfl
  ·have R:(Array.range (n*k)).map (fun j=>z.toArray[j%z.toArray.size]!)=((List.range (n*k)).map fun j=>z.getD (j%k) undef).toArray:=by
    apply Array.ext';simp only[Array.toList_map,Array.toList_range];apply List.map_congr_left;intro j _;have r:=A.pos
    have M:j%k<z.length:=by rw[A.zl];exact Nat.mod_lt _ r
    rw[List.getD_eq_getElem?_getD,cq M];simp[A.zl]
    grind
   rw[<-R]at F;simp only[execOp,map_toArray];simp[Instr.buildSlice,run_underlying A.und,iw A.siz,m,s,q,o];simp only[List.size_toArray]at F;simp at F;simp[F]
   rfl) (h _ _ (ur.of w _))
def WL.st{x y:Operand}{t:TypeId}{agg:Bool}{k:Nat}[A:Ty P t agg k]{b o:Nat}{E:TypeId}{cs:Array Value}{v:Value}(hx:ev l x=.pointer (some ⟨b,o,none⟩))(J:ev l y=v)
  (z:w.heap[b]?=some (.cells cs E (0,0)))(T:v.cells.size=k)(m:o+k<=cs.size)(M:lI v.cells.toList=true)
  (h:∀w',uv w w' b (setL cs o v.cells.toList) E->WL P ops Q rest (put l d undef) w'):WL P ops Q (⟨d,.store t x y,ty,pos,af,none⟩::rest) l w:=by
 have⟨w',r,q⟩:=GD (P:=P) (t:=t) z T m M;exact WL.skp (w':=w') (by simp[execOp,Instr.storeAt,hx,J,Instr.sureAddr,r]) (h w' q)
end
def rf(P:Program)(f:FuncId):Bool :=
 match P.funcs[f]? with
 |some fn=>fn.name != "runtime.NumGoroutine" && fn.body.isSome
 |none=>false
class eI (P:Program) (f:FuncId):Prop where
 ok:rf P f=true
def nH(P:Program)(f:FuncId)(args:List Value)(w:World)(R:Value->World->Prop):Prop :=
 Calls P f args.toArray w fun e t=>∃v,e=.returned v/\R v t
theorem nH.mono{P:Program}{f:FuncId}{args:List Value}{w:World}{R A:Value->World->Prop}(h:nH P f args w R)(s:∀v w',R v w'->A v w'):nH P f args w A :=
 Calls.mono h fun _ _ ⟨v,S,r⟩=>⟨v,S,s _ _ r⟩
def oG{P:Program}{w:World}{f:FuncId}[h:eI P f](args:Array Value):(callFunc f args).run P w=.ok (.enter f args) w:=by
 have⟨h⟩:=h;unfold rf at h;split at h
 ·rename_i fn s;simp only[aU,bne_iff_ne,ne_eq]at h
  have v:fn.body.isNone=false:=by simp_all
  simp[callFunc,program,Sem.run,s,h.1,v]
  grind
 ·cases h
section
variable{P:Program}{Q:ma}{l:List Value}{w:World}{ops:Array Oper}{rest:List Oper}{d:Option Tmp}{ty:TypeId}{pos:String}{af:Array Edge}
def WL.calls{H:Op}{f:FuncId}{BU:List Value}(r:(execOp (ev l) ⟨d,H,ty,pos,af,none⟩).run P w=.ok (.enter f BU.toArray) w){R:Value->World->Prop}
  (k:nH P f BU w R)(h:∀v w',R v w'->WL P ops Q rest (put l d v) w'):WL P ops Q (⟨d,H,ty,pos,af,none⟩::rest) l w:=by
 refine wpList_plain rfl fun K S=>?_
 simp only[Oper.wp,pP,r,Oper.upon_enter];refine Calls.mono k ?_;rintro e w'⟨v,rfl,T⟩;simp only[qa];exact S _ _ (h v w' T)
def WL.call{f:FuncId}[hf:eI P f]{args:List Operand}{C:Array TypeId}{BU:List Value}(ha:args.map (ev l)=BU){R:Value->World->Prop}
  (k:nH P f BU w R)(h:∀v w',R v w'->WL P ops Q rest (put l d v) w'):WL P ops Q (⟨d,.call ⟨.value (.func f),args.toArray,C⟩,ty,pos,af,none⟩::rest) l w :=
 WL.calls (by simp[execOp,resolve,ev,Deferred.ofValue,invoke,oG,ha]) k h
end
def Gu:Nat->List Value
 |0=>[]
 |n+1=>undef::Gu n
def frame:List Value->Nat->List Value
 |[],n=>Gu n
 |a::r,n=>a::frame r (n-1)
def Yc(n:Nat):Gu n=List.replicate n undef:=by
 induction n with
 |zero=>rfl
 |succ n O=>grind[Gu]
def QG(args:List Value)(n:Nat):frame args n=args++List.replicate (n-args.length) undef:=by
 induction args generalizing n with
 |nil=>simp[frame,Yc]
 |cons a r O=>grind[frame,undef]
def K7(P:Program)(fn:Func)(R:Value->World->Prop):ma
 |.normal,l,w|.ret,l,w=>∃v,(results fn l.toArray).run P w=.ok v w/\R v w
 |_,_,_=>False
theorem nH.enter{P:Program}{f:FuncId}{fn:Func}{c:Code}{args:List Value}{w:World}{R:Value->World->Prop}{n:Nat}{l:List Value}
  (hf:P.funcs[f]?=some fn)(hn:fn.ntmps=n)(z:fn.body=some c)(V:frame args n=l)(h:W P c (K7 P fn R) l w):nH P f args w R:=by
 subst V;refine calls_of_wp hf z ?_
 have m:(args.toArray++Array.replicate (fn.ntmps-args.toArray.size) undef)=(frame args n).toArray:=by
  simp[QG,hn]
 rw[m];refine wp_mono h ?_;rintro e a w⟨l,rfl,o⟩
 cases e<;>simp only[K7]at o<;>simp only[bodyPost]
 ·have⟨v,r,T⟩:=o;exact⟨rfl,v,r,v,rfl,T⟩
 ·have⟨v,r,T⟩:=o;exact⟨rfl,v,r,v,rfl,T⟩
def V3(P:Program)(t e k F:Nat):Bool :=
 (match P.underlying t with|some (.slice u)=>u==e|_=>false) &&
 (match P.info? e with
  |some i=>(match i.zero with|some z=>z.cells.size==k|none=>false)&&i.size==k&&i.bytes==F
  |none=>false)&&k != 0
class nF (P:Program) (t:TypeId) (e:outParam TypeId) (k:outParam Nat) (by':outParam Nat):Prop where
 is:V3 P t e k by'=true
def nF.parts{P:Program}{t e k F:Nat}(h:nF P t e k F) :
  P.underlying t=some (.slice e)/\(∃i z,P.info? e=some i/\i.zero=some z/\z.cells.size=k/\i.size=k/\i.bytes=F)/\0<k:=by
 have⟨h⟩:=h;simp only[V3,aU,bne_iff_ne,ne_eq]at h
 grind
abbrev gT(w:World)(base:Nat)(e k:Nat)(v:Value)(n:Nat)(xs:List Value):Prop:=w.ownsRow base e k v n xs
theorem gT.nil(w:World)(base e k:Nat):gT w base e k (.slice none 0 0) 0 []:=World.ownsRow_nil w base e k
def gT.ext{S:Nat->Prop}{w w':World}{base e k:Nat}{v:Value}{n:Nat}{xs:List Value}(h:gT w base e k v n xs)(hx:Ext S w w')(q:∀b,v.ownBlock=some b->¬S b):gT w' base e k v n xs:=by
 have⟨M,z⟩:=h;refine⟨M,?_⟩
 rcases z with z|⟨g,E,cur,rfl,A,B,r⟩
 ·grind
 ·exact .inr ⟨g,E,cur,rfl,A,hx.blk B (q g rfl),r⟩
theorem gT.lt{w:World}{base e k:Nat}{v:Value}{n:Nat}{xs:List Value}(h:gT w base e k v n xs){b:Nat}(T:v.ownBlock=some b):base<=b/\b<w.heap.size:=by
 have⟨M,z⟩:=h
 grind[Value.ownBlock,Option.some.injEq]
def gT.shape{w:World}{base e k:Nat}{v:Value}{n:Nat}{xs:List Value}(h:gT w base e k v n xs):∃a c,v=.slice a n c:=by
 have⟨M,z⟩:=h
 grind
def gT.base{w:World}{base A e k:Nat}{v:Value}{n:Nat}{xs:List Value}(h:gT w base e k v n xs)(C:A<=base):gT w A e k v n xs:=by
 have⟨M,B⟩:=h;refine⟨M,?_⟩
 rcases B with B|⟨g,E,cur,rfl,z,r⟩
 ·grind
 ·exact .inr ⟨g,E,cur,rfl,jy C z,r⟩
theorem gT.cells{w:World}{base e k:Nat}{v:Value}{n:Nat}{xs:List Value}(h:gT w base e k v n xs) :
  xs.length=n*k/\(xs≠[]->∃b c,v=.slice (some ⟨b,0,none⟩) n c/\base<=b/\b<w.heap.size/\∀j u,xs[j]?=some u->w.cell? ⟨b,j,none⟩=some u):=by
 have⟨M,z⟩:=h;refine⟨M,fun q=>?_⟩
 rcases z with⟨rfl,rfl⟩|⟨g,E,cur,rfl,B,C,T,G,A,o⟩
 ·grind
 grind[World.cell?]
def gT.XX{w w':World}{b e k n:Nat}{cs:List Value}(h:ur w w' b (.cells cs.toArray e))(T:cs.length=n*k)(G:n<=maxLen):gT w' w.heap.size e k (.slice (some ⟨b,0,none⟩) n n) n cs :=
 ⟨T,.inr ⟨b,n,cs.toArray,rfl,by rw[h.fresh];simp,h.blk,aQ _,G,by omega,by grind⟩⟩
section
variable{P:Program}{Q:ma}{l:List Value}{w:World}{ops:Array Oper}{rest:List Oper}{d:Option Tmp}{ty:TypeId}{pos:String}{af:Array Edge}
theorem WL.app{s x:Operand}{t e k M:Nat}[hT:nF P t e k M]{base n m c b o:Nat}{xs news:List Value}{v:Value}(hs:ev l s=v)(r:gT w base e k v n xs)
  (hx:ev l x=.slice (some ⟨b,o,none⟩) m c)(hl:news.length=m*k)(abx:∀j u,news[j]?=some u->w.cell? ⟨b,o+j,none⟩=some u)(h1:lI news=true)
  (h63:n+m<=9223372036854775807)(J:(n+m)*M<=140737488355328)(N:base<=w.heap.size)
  (h:∀S w',gT w' base e k S (n+m) (xs++news)->Ext (fun b=>v.ownBlock=some b) w w'->(∀b,S.ownBlock=some b->v.ownBlock=some b\/w.heap.size<=b)->(Ext gn w w'\/S.ownBlock=v.ownBlock)->WL P ops Q rest (put l d S) w') :
  WL P ops Q (⟨d,.call ⟨.builtin .append,#[s,x],#[t,t]⟩,ty,pos,af,none⟩::rest) l w:=by
 have⟨V,⟨i,z,T,hz,N5,H,SV⟩,hk⟩:=hT.parts;have⟨S,w',hr,h2,W,h4⟩:=run_append_own (P:=P) w base t ty e i z k M V T hz H SV N5 hk v n xs r ⟨b,o,none⟩ m c news hl
  (fun j u hj=>by grind[Addr.add]) (by grind[lI]) zfh J N
 have QN:Ext (fun b=>v.ownBlock=some b) w w':=⟨W.os,W.tape,W.output,W.size,fun j hj hn=>W.block j hj fun he=>hn he.symm⟩
 have q:∀j u,news[j]?=some u->w.cell? ((⟨b,o,none⟩:Addr).add j)=some u:=fun j u hj=>by grind[Addr.add]
 have C:news.length=m*i.size:=by grind
 have L:(n+m)*i.bytes<=140737488355328:=by grind
 refine WL.val (v:=S) (w':=w') (by simp[execOp,resolve,invoke,builtin,hs,hx,hr]) (h S w' h2 QN ?_ ?_)
 ·intro b' Jk;have F:=r.2
  rcases F with⟨rfl,rfl⟩|⟨g,B,cur,rfl,NO,hg,DA,zp,O,R⟩
  ·by_cases hm:m=0
   ·grind
   ·have G:=run_append_nil (P:=P) w t ty e i z V T hz ⟨b,o,none⟩ m c news C q ze4 ze4 ze3
    exact zbJ
  ·by_cases A:n+m<=B
   ·have G:=run_append_room (P:=P) w t ty e i V T g n B cur hg ⟨b,o,none⟩ m c news C q (by grind[lI]) A
     zfO
    exact zbJ
   ·have E:∀j u,xs[j]?=some u->w.cell? ((⟨g,0,none⟩:Addr).add j)=some u:=World.ownsRow.cells (g:=g) r rfl;have G:=run_append_grow (P:=P) w t ty e i z V T hz ⟨g,0,none⟩ n B xs (by rw[H];exact r.1) E ⟨b,o,none⟩ m c news C q ze4 ze4 (growslice_fits ze4 L)
    exact zbJ
 ·have F:=r.2
  rcases F with⟨rfl,rfl⟩|⟨g,B,cur,rfl,NO,hg,DA,zp,O,R⟩
  ·exact zbJ
  ·by_cases A:n+m<=B
   ·have G:=run_append_room (P:=P) w t ty e i V T g n B cur hg ⟨b,o,none⟩ m c news C q (by grind[lI]) A
     zfO
    exact zbJ
   ·have E:∀j u,xs[j]?=some u->w.cell? ((⟨g,0,none⟩:Addr).add j)=some u:=World.ownsRow.cells (g:=g) r rfl;have G:=run_append_grow (P:=P) w t ty e i z V T hz ⟨g,0,none⟩ n B xs (by rw[H];exact r.1) E ⟨b,o,none⟩ m c news C q ze4 ze4 (growslice_fits ze4 L);rw[hr]at G;cases G;exact zda
theorem WL.push{x s:Operand}{t e k J:Nat}{z:List Value}[hT:nF P t e k J][hZ:og P t e k z]{base n:Nat}{xs vs:List Value}{v val:Value}{G:Tmp}{PA:TypeId}{M:String}{O:Array Edge}
  (hx:ev l x=val)(hs:∀u,ev (put l (some G) u) s=v)(hd:∀u,ev (put l (some G) u) (.tmp G)=u)(hc:val.cells=vs.toArray)(hk:vs.length=k)(h1:lI vs=true)
  (L:gT w base e k v n xs)(S:n+1<=9223372036854775807)(B:(n+1)*J<=140737488355328)(abG:k<=16777216)(C:base<=w.heap.size)
  (h:∀u H w',gT w' base e k H (n+1) (xs++vs)->Ext (fun b=>v.ownBlock=some b) w w'->(∀b,H.ownBlock=some b->v.ownBlock=some b\/w.heap.size<=b)->(Ext gn w w'\/H.ownBlock=v.ownBlock)->WL P ops Q rest (put (put l (some G) u) d H) w') :
  WL P ops Q (⟨some G,.buildSlice t 1 #[(0,x)],PA,M,O,none⟩::⟨d,.call ⟨.builtin .append,#[s,.tmp G],#[t,t]⟩,ty,pos,af,none⟩::rest) l w:=by
 have hkp:=hZ.pos
 have pf:val.cells.size=k:=by grind
 have ab0:∀(vs q:List Value),vs.length=q.length->mT q 0 vs=vs:=by
  have R:∀(vs o q:List Value),vs.length=q.length->mT (o++q) o.length vs=o++vs:=by
   intro vs
   induction vs with
   |nil=>grind[mT]
   |cons a r ih =>
    intro o q N
    cases q with
    |nil=>simp at N
    |cons c q =>
     have hu:eV (o++c::q) o.length a=o++a::q:=by
      clear N
      induction o with
      |nil=>rfl
      |cons p o ihp=>simp[eV,ihp]
     rw[mT,hu];have:=ih (o++[a]) q ze3
     grind
  intro vs q N;exact R vs [] q N
 have E:qz (fun i=>some (i*k,k)) ((List.range (1*k)).map fun j=>z.getD (j%k) undef) ([((0:Nat),x)].map fun y=>(y.1,ev l y.2))=some vs:=by
  grind[qz,undef,ev]
 refine WL.Cq (n:=1) (parts:=[(0,x)]) ze4 E ?_;intro b2 w2 A;have F:gT w2 base e k v n xs:=L.ext A.ext (fun _ _ h=>h);refine WL.app (base:=base) (v:=v) (n:=n) (xs:=xs) (news:=vs) (m:=1) (hs _) F (hd _) ze4 (fun j u hj=>?_) h1 S B (jy C A.ext.size) ?_
 ·rw[iX];exact ME A.blk ze3
 ·intro H w3 ho W hb V;refine h _ H w3 ho ((A.ext.mono (fun _ _ h=>h.elim)).trans W) (fun b T=>?_) (V.imp (fun h5=>A.ext.trans h5) id)
  rcases hb b T with h4|h4
  ·grind
  ·exact .inr (jy A.ext.size h4)
end
section
variable{P:Program}{ops:Array Oper}{S:Nat->Prop}
end
def ru:List Oper->Nat->Oper
 |[],_=>default
 |o::_,0=>o
 |_::r,n+1=>ru r n
theorem U2(A:List Oper)(i:Nat)(o:Oper)(h:A.toArray[i]?=some o):ru A i=o:=by
 have L:A[i]?=some o:=by grind
 clear h
 induction A generalizing i with
 |nil=>simp at L
 |cons x r O =>
  cases i with
  |zero=>grind[ru]
  |succ i=>grind[ru]
section
variable{P:Program}{ops:Array Oper}{S:Nat->Prop}{Q:ma}{l:List Value}{w:World}{r:List (Oper × Bool)}{d:Option Tmp}{op:Op}{ty:TypeId}{pos:String}{af:Array Edge}
end
def LV:IntKind->IntKind->Bool
 |.i8,.i8|.i16,.i16|.i32,.i32|.i64,.i64|.u8,.u8|.u16,.u16|.u32,.u32|.u64,.u64=>true
 |_,_=>false
def RN{a b:IntKind}(h:LV a b=true):a=b:=by cases a<;>cases b<;>first|rfl|cases h
def Lh(op:BinOp)(a b:Int):Option Value :=
 match op with
 |.eql=>some (.bool (a==b))
 |.neq=>some (.bool (a != b))
 |.lss=>some (.bool (decide (a<b)))
 |.leq=>some (.bool (decide (a<=b)))
 |.gtr=>some (.bool (decide (b<a)))
 |.geq=>some (.bool (decide (b<=a)))
 |_=>none
def EB(op:BinOp):Value->Value->Option Value
 |.int k a,.int A b=>match LV k A with
  |true=>Lh op a b
  |false=>none
 |_,_=>none
def wJ(c:Op)(x:Value):Option Value :=
 match c with
 |.nilCheck _=>match x with
  |.pointer (some a)=>some (.pointer (some a))
  |_=>none
 |.unOp .not _ _=>match x with
  |.bool b=>some (.bool (!b))
  |_=>none
 |.extract _ i=>match x with
  |.tuple e=>e[i]?
  |_=>none
 |_=>none
def go(E:Operand->Value)(o:Op):Option Value :=
 match o with
 |.move x=>some (E x)
 |.assign x=>some (E x)
 |.makeFunc fn f c=>some (.func fn (f.map E) (c.map E))
 |.binOp op _ x y _=>EB op (E x) (E y)
 |.nilCheck x=>wJ o (E x)
 |.unOp _ _ x=>wJ o (E x)
 |.extract x _=>wJ o (E x)
 |_=>none
section
variable{P:Program}{l:List Value}{w:World}
theorem UB{o:Op}{v:Value}(h:go (ev l) o=some v):fu P l w o v:=by
 unfold go at h;split at h
 ·grind[R.mv]
 ·grind[R.lB]
 ·grind[R.Cp]
 ·rename_i op t x y c;unfold EB at h;split at h
  ·rename_i k a A b hx J;split at h
   ·rename_i m;have:=RN m;subst this;unfold Lh at h
    grind[R.eq,R.ne,R.lt,R.le,R.gt',R.ge]
   ·cases h
  ·cases h
 ·unfold wJ at h
  grind[R.EE]
 ·rename_i op t x;unfold wJ at h
  grind[R.not]
 ·unfold wJ at h
  grind[R.extract]
 ·cases h
theorem R.da{x y:Operand}{t c:TypeId}{a b:Nat}(hx:ev l x=ii a)(J:ev l y=ii b)(z:a+b<=9223372036854775807):fu P l w (.binOp .add t x y c) (ii ((a+b:Nat):Int)):=R.add hx J ze4 ze4
def R.j0{x y:Operand}{t b:TypeId}{a:Nat}(hx:ev l x=ii a)(J:ev l y=ii 1)(z:a+1<=9223372036854775807):fu P l w (.binOp .add t x y b) (ii ((a+1:Nat):Int)):=R.add hx J ze4 ze4
theorem R.Tt{c a b:Operand}{t:Bool}(k:ev l c=.bool t)(o:t=true):fu P l w (.pick c a b) (ev l a):=by
 grind[R.pick]
theorem R.Ts{c a b:Operand}{t:Bool}(k:ev l c=.bool t)(o:t=false):fu P l w (.pick c a b) (ev l b):=by
 grind[R.pick]
end
section
variable{P:Program}{Q:ma}{l:List Value}{w:World}{ops:Array Oper}{rest:List Oper}{d:Option Tmp}{op:Op}{ty:TypeId}{pos:String}{af:Array Edge}{v:Value}{S:Nat->Prop}{r:List (Oper × Bool)}
end
def uV(ops:List Oper)(l:List Value):Option (Nat × Bool)->Bool
 |none=>true
 |some (j,b)=>match(ru ops j).dst with
  |some t=>match nth l t with
   |.bool c=>c==b
   |_=>false
  |none=>false
def jc{T:Type}:List T->Nat->Bool
 |[],_=>false
 |_::_,0=>true
 |_::r,n+1=>jc r n
def AY{T:Type}:∀{l:List T}{n:Nat},jc l n=true->n<l.length
 |[],_,h=>by cases h
 |_::_,0,_=>by simp
 |_::r,n+1,h=>by have:=AY (l:=r) (n:=n) h;grind
def tP:Option (Nat × Bool)->List Oper->List Value->Bool
 |some (j,_),ops,l=>jc ops j&&(match(ru ops j).dst with
  |some t=>jc l t&&(match nth l t with|.bool _=>true|.tuple _=>true|_=>false)
  |none=>false)
 |none,_,_=>true
def JR(A:List Oper)(j:Nat)(h:j<A.length):A.toArray[j]?=some (ru A j):=by
 grind[U2]
def XW(l:List Value)(t:Nat)(h:t<l.length):l[t]?=some (nth l t):=by
 induction l generalizing t with
 |nil=>simp at h
 |cons x l O=>cases t with
  |zero=>rfl
  |succ t=>grind[nth]
theorem wu{ops:Array Oper}{d:Option Tmp}{op:Op}{ty:TypeId}{pos:String}{af:Array Edge}{gd:Option (Nat × Bool)}{l:List Value}(A:tP gd ops.toList l=true) :
  Region.wanted ⟨d,op,ty,pos,af,gd⟩ (yielded ops (act l).tmps)=uV ops.toList l gd:=by
 cases gd with
 |none=>rfl
 |some x =>
  have⟨j,b⟩:=x;simp only[tP,aU]at A;have⟨M,z⟩:=A;have G:=JR ops.toList j (AY M);simp only[Array.toArray_toList]at G;simp only[Region.wanted,uV,yielded,G,Option.bind_some]
  cases F:(ru ops.toList j).dst with
  |none=>rfl
  |some t =>
   rw[F]at z;simp only[aU]at z;have o:=XW l t (AY z.1);simp only[Option.bind_some,act]
   grind
def gv(ops:List Oper)(l:List Value)(gd:Nat × Bool):Option Bool :=
 match(ru ops gd.1).dst with
 |some t=>match nth l t with
  |.bool c=>some c
  |_=>none
 |none=>none
section
variable{ops:List Oper}{l:List Value}{gd:Nat × Bool}
theorem PO{c:Bool}(T:gv ops l gd=some c)(k:c=gd.2):uV ops l (some gd)=true:=by
 grind[gv,uV]
theorem PN{c:Bool}(T:gv ops l gd=some c)(k:c=!gd.2):uV ops l (some gd)=false:=by
 grind[gv,uV]
theorem PQ(T:gv ops l gd=none):uV ops l (some gd)=false:=by
 grind[gv,uV]
end
section
variable{P:Program}{Q:ma}{l:List Value}{w:World}{ops:Array Oper}{rest:List Oper}{d:Option Tmp}{op:Op}{ty:TypeId}{pos:String}{af:Array Edge}{v:Value}{S:Nat->Prop}{r:List (Oper × Bool)}{gd:Nat × Bool}
def GT{c:Bool}(z:tP (some gd) ops.toList l=true)(T:gv ops.toList l gd=some c)(k:c=gd.2)(h:WL P ops Q (⟨d,op,ty,pos,af,none⟩::rest) l w):WL P ops Q (⟨d,op,ty,pos,af,some gd⟩::rest) l w:=WL.gt ((wu z).trans (PO T k)) h
def GF{c:Bool}(z:tP (some gd) ops.toList l=true)(T:gv ops.toList l gd=some c)(k:c=!gd.2)(h:WL P ops Q rest (put l d undef) w):WL P ops Q (⟨d,op,ty,pos,af,some gd⟩::rest) l w:=WL.gf ((wu z).trans (PN T k)) h
def GU(z:tP (some gd) ops.toList l=true)(T:gv ops.toList l gd=none)(h:WL P ops Q rest (put l d undef) w):WL P ops Q (⟨d,op,ty,pos,af,some gd⟩::rest) l w:=WL.gf ((wu z).trans (PQ T)) h
end
def Cw:Value->Bool
 |.agg _=>false
 |.tuple _=>false
 |_=>true
def lX{v:Value}(h:Cw v=true):v.cells=#[v]/\v.oneCell'=true:=by
 cases v<;>first|exact⟨rfl,rfl⟩|cases h
end Go.Xw
namespace Go.Xg
open Go.RowKit Go.Xw
inductive GV where
 |v (x:Value)
 |U
 |agg (cs:List GV)
 |tup (cs:List GV)
 |sl (k:Nat) (rows:List (List GV))
 |box (cs:List GV) (o:Nat)
 |loc (i o:Nat)
 |vec (i n:Nat)
 |vp (i n k idx off:Nat)
 |arr (i o n:Nat)
 |fn (f:Fn) (first cap:List GV)
abbrev _root_.am:=List GV
instance:Inhabited GV:=⟨.U⟩
open GV (U)
abbrev y4(n:Int):GV:=.v (ii n)
abbrev y6:Value:=.slice none 0 0
def zU:Nat->am->am
 |0,l=>l
 |n+1,l=>U::zU n l
abbrev Fz:=Nat->Nat->Option GV
inductive Bk where
 |no
 |fix (b:Nat)
 |gr (h:Value) (m:Nat)
 |set (S:Nat->Prop)
def Bk.has:Bk->Nat->Prop
 |.no,_=>False
 |.fix b,c=>b=c
 |.gr h _,c=>h.ownBlock=some c
 |.set S,c=>S c
abbrev Bt:=Nat->Bk
def cY(K e:Fz):Prop:=∀b o g,K b o=some g->e b o=some g
def kU:Bk->Bk->Prop
 |.no,_=>True
 |.fix b,x=>x=.fix b
 |.set _,_=>True
 |.gr h m,x=>∃L k,x=.gr L k/\m<=k/\(k=m->L=h)
def dO(β fS:Bt):Prop:=∀i,kU (β i) (fS i)
theorem cY.refl(K:Fz):cY K K:=fun _ _ _ h=>h
def cY.trans{a b c:Fz}(h:cY a b)(k:cY b c):cY a c:=fun x y z m=>k x y z (h x y z m)
theorem kU.refl(x:Bk):kU x x:=by cases x with|no=>trivial|fix b=>rfl|gr h m=>grind[kU]|set S=>trivial
def kU.trans{a b c:Bk}(h:kU a b)(k:kU b c):kU a c:=by
 cases a with
 |no=>trivial
 |set S=>trivial
 |fix x=>cases h;exact k
 |gr x m =>
  grind[kU]
theorem dO.refl(β:Bt):dO β β:=fun i=>kU.refl _
def dO.trans{a b c:Bt}(h:dO a b)(k:dO b c):dO a c:=fun i=>(h i).trans (k i)
inductive Rel(K:Fz)(β:Bt):Value->GV->Prop
 |v (x:Value):Rel K β x (.v x)
 |U (x:Value):Rel K β x .U
 |agg (vs:List Value) (cs:am) (hl:vs.length=cs.length) (h:∀(i:Nat)v g,vs[i]?=some v->cs[i]?=some g->Rel K β v g):Rel K β (.agg vs.toArray) (.agg cs)
 |tup (vs:List Value) (cs:am) (hl:vs.length=cs.length) (h:∀(i:Nat)v g,vs[i]?=some v->cs[i]?=some g->Rel K β v g):Rel K β (.tuple vs.toArray) (.tup cs)
 |sl0 (a:Option Addr) (c k:Nat):Rel K β (.slice a 0 c) (.sl k [])
 |sl (b o c k:Nat) (rows:List am) (h:∀(i:Nat)r,rows[i]?=some r->r.length=k/\∀(j:Nat)g,r[j]?=some g->K b (o+i*k+j)=some g) (hc:rows.length<=c):Rel K β (.slice (some ⟨b,o,none⟩) rows.length c) (.sl k rows)
 |box (b o' o:Nat) (cs:am) (h:∀(j:Nat)g,cs[j]?=some g->K b (o'+j)=some g):Rel K β (.pointer (some ⟨b,o'+o,none⟩)) (.box cs o)
 |loc (i o b:Nat) (h:β i=.fix b):Rel K β (.pointer (some ⟨b,o,none⟩)) (.loc i o)
 |vec (i n:Nat) (a:Option Addr) (c:Nat) (h:∃h m,β i=.gr h m/\n<=m/\(m=n->.slice a n c=h)):Rel K β (.slice a n c) (.vec i n)
 |vp (i n k idx off:Nat) (x:Value) (h:∃h m,β i=.gr h m/\n<=m/\(m=n->∃b,h.ownBlock=some b/\x=.pointer (some ⟨b,idx*k+off,none⟩))):Rel K β x (.vp i n k idx off)
 |arr (i o n b c:Nat) (h:β i=.fix b):Rel K β (.slice (some ⟨b,o,none⟩) n c) (.arr i o n)
 |fn (f:Fn) (xs ys:List Value) (first cap:am) (hl:xs.length=first.length) (hl':ys.length=cap.length) (h:∀(i:Nat)v g,xs[i]?=some v->first[i]?=some g->Rel K β v g)
   (h':∀(i:Nat)v g,ys[i]?=some v->cap[i]?=some g->Rel K β v g):Rel K β (.func f xs.toArray ys.toArray) (.fn f first cap)
theorem Rel.mono{K M:Fz}{β fS:Bt}{x:Value}{g:GV}(h:Rel K β x g)(N:cY K M)(u:dO β fS):Rel M fS x g:=by
 induction h with
 |v x=>exact .v x
 |U x=>exact .U x
 |agg L d l h q=>exact .agg L d l q
 |tup L d l h q=>exact .tup L d l q
 |sl0 a c k=>exact .sl0 a c k
 |sl b o c k s h W=>exact .sl b o c k s (fun i r O=>⟨(h i r O).1,fun j g E=>N _ _ _ ((h i r O).2 j g E)⟩) W
 |box b o' o d h=>exact .box b o' o d fun j g E=>N _ _ _ (h j g E)
 |loc i o b h=>exact .loc i o b (by have:=u i;rw[h]at this;exact this)
 |vec i n a c h =>
  have⟨Q,m,A,R,S⟩:=h;have e:=u i;rw[A]at e;have⟨t,H,C,T,V⟩:=e;exact .vec i n a c ⟨t,H,C,by omega,fun he=>by grind⟩
 |vp i n k idx J x h =>
  have⟨Q,m,A,R,S⟩:=h;have e:=u i;rw[A]at e;have⟨t,H,C,T,V⟩:=e;exact .vp i n k idx J x ⟨t,H,C,by omega,fun he=>by grind⟩
 |arr i o n b c h=>exact .arr i o n b c (by have:=u i;rw[h]at this;exact this)
 |fn f xs ys first z l F h t q G=>exact .fn f xs ys first z l F q G
def GV.pc:GV->Bool
 |.v _=>true
 |.sl _ _=>true
 |.box _ _=>true
 |_=>false
theorem Rel.pc{K:Fz}{β fS:Bt}{x:Value}{g:GV}(h:Rel K β x g)(A:g.pc=true):Rel K fS x g:=by
 cases h<;>first|(cases A;done)|skip
 ·exact .v _
 ·exact .sl0 _ _ _
 ·rename_i h k;exact .sl _ _ _ _ _ h k
 ·rename_i h;exact .box _ _ _ _ h
def GV.one:GV->Bool
 |.v x=>Cw x
 |.U=>false
 |.agg _=>false
 |.tup _=>false
 |.vp _ _ _ _ _=>false
 |_=>true
theorem Rel.one{K:Fz}{β:Bt}{x:Value}{g:GV}(h:Rel K β x g)(k:g.one=true):Cw x=true:=by
 cases h<;>first|exact k|rfl|(cases k;done)
abbrev bA(K:Fz)(β:Bt)(vs:List Value)(gs:am):Prop:=vs.length=gs.length/\∀(i:Nat)v g,vs[i]?=some v->gs[i]?=some g->Rel K β v g
theorem bA.mono{K e:Fz}{β fS:Bt}{vs:List Value}{gs:am}(h:bA K β vs gs)(k:cY K e)(A:dO β fS):bA e fS vs gs:=⟨h.1,fun i v g M z=>(h.2 i v g M z).mono k A⟩
theorem bA.nil{K:Fz}{β:Bt}:bA K β [] []:=⟨rfl,fun i v g h=>by simp at h⟩
def bA.cons{K:Fz}{β:Bt}{v:Value}{g:GV}{vs:List Value}{gs:am}(h:Rel K β v g)(q:bA K β vs gs):bA K β (v::vs) (g::gs):=by
 grind
def bA.nQ{K:Fz}{β:Bt}{v:Value}{g:GV}{vs:List Value}{gs:am}(h:bA K β (v::vs) (g::gs)):Rel K β v g/\bA K β vs gs :=
 ⟨h.2 0 v g rfl rfl,by grind,fun i x y M z=>h.2 (i+1) x y M z⟩
def bA.app{K:Fz}{β:Bt}{vs us:List Value}{gs q:am}(h:bA K β vs gs)(k:bA K β us q):bA K β (vs++us) (gs++q):=by
 grind
def bA.at{K:Fz}{β:Bt}{vs:List Value}{gs:am}(h:bA K β vs gs){i:Nat}{g:GV}(hg:gs[i]?=some g):∃v,vs[i]?=some v/\Rel K β v g:=by
 have t:i<vs.length:=by grind
 exact⟨vs[i],by simp[t],h.2 i _ g zfz hg⟩
def bA.take{K:Fz}{β:Bt}{vs:List Value}{gs:am}(h:bA K β vs gs)(n:Nat):bA K β (vs.take n) (gs.take n):=by
 grind
def bA.drop{K:Fz}{β:Bt}{vs:List Value}{gs:am}(h:bA K β vs gs)(n:Nat):bA K β (vs.drop n) (gs.drop n):=by
 grind
def cJ:am->Nat->GV
 |[],_=>.U
 |g::_,0=>g
 |_::l,n+1=>cJ l n
def bU:am->Nat->GV->am
 |[],_,_=>[]
 |_::l,0,g=>g::l
 |x::l,n+1,g=>x::bU l n g
def a8(l:am):Operand->GV
 |.tmp t=>cJ l t
 |.const v=>.v v
 |.global g=>.v (.pointer (some ⟨g,0,none⟩))
 |.func f=>.v (.func (.func f) #[] #[])
def bN(l:am)(d:Option Tmp)(g:GV):am:=match d with|some d=>bU l d g|none=>l
inductive FR(K:Fz)(β:Bt):am->List Value->Prop
 |nil:FR K β [] []
 |cons {g:GV} {v:Value} {gs:am} {vs:List Value} (h:Rel K β v g) (t:FR K β gs vs):FR K β (g::gs) (v::vs)
theorem FR.mono{K e:Fz}{β fS:Bt}{gs:am}{vs:List Value}(h:FR K β gs vs)(k:cY K e)(v:dO β fS):FR e fS gs vs:=by
 induction h with
 |nil=>exact .nil
 |cons h t O=>exact .cons (h.mono k v) O
theorem FR.nth{K:Fz}{β:Bt}{gs:am}{vs:List Value}(h:FR K β gs vs)(t:Nat):Rel K β (nth vs t) (cJ gs t):=by
 induction h generalizing t with
 |nil=>exact .U _
 |cons h _ O=>cases t with|zero=>exact h|succ t=>exact O t
theorem FR.ev{K:Fz}{β:Bt}{gs:am}{vs:List Value}(h:FR K β gs vs)(x:Operand):Rel K β (ev vs x) (a8 gs x):=by
 cases x with
 |tmp t=>exact h.nth t
 |const v=>exact .v _
 |global g=>exact .v _
 |func f=>exact .v _
theorem FR.eV{K:Fz}{β:Bt}{gs:am}{vs:List Value}(h:FR K β gs vs)(t:Nat){v:Value}{g:GV}(T:Rel K β v g):FR K β (bU gs t g) (eV vs t v):=by
 induction h generalizing t with
 |nil=>exact .nil
 |cons h o O=>cases t with|zero=>exact .cons T o|succ t=>exact .cons h (O t)
def FR.put{K:Fz}{β:Bt}{gs:am}{vs:List Value}(h:FR K β gs vs)(d:Option Tmp){v:Value}{g:GV}(T:Rel K β v g):FR K β (bN gs d g) (put vs d v):=by
 cases d with|none=>exact h|some d=>exact h.eV d T
theorem FR.args{K:Fz}{β:Bt}{gs:am}{vs:List Value}(h:FR K β gs vs)(xs:List Operand):bA K β (xs.map (Xw.ev vs)) (xs.map (a8 gs)):=by
 induction xs with
 |nil=>exact .nil
 |cons x xs O=>exact .cons (h.ev x) O
inductive Ob where
 |gone
 |box (E:TypeId) (cs:am)
 |vec (E:TypeId) (k fz:Nat) (rows:List am)
 |vech (E:TypeId) (k:Nat) (rows:List am) (x:Value)
 |lost
 |blk (b:Nat) (p:Obj->Prop)
 |blob (p:(Nat->Option Obj)->Prop)
abbrev _root_.ap:=List Ob
def nY(K:Fz)(w:World):Prop:=∀b o g,K b o=some g->g.pc=true/\∃v,iQ w.heap b o=some v/\Rel K (fun _=>.no) v g
def fM(k:Nat)(rows:List am):Prop:=∀r∈rows,r.length=k/\∀g∈r,g.pc=true
def gM(K:Fz)(β:Bt)(w:World)(i:Nat):Ob->Prop
 |.gone=>β i=.no
 |.box E J=>∃b d,β i=.fix b/\w.heap[b]?=some (.cells d.toArray E (0,0))/\bA K β d J/\∀o,K b o=none
 |.vec E k S e=>∃h u,β i=.gr h e.length/\gT w 0 E k h e.length u/\bA K β u e.flatten/\fM k e /\
   (∀b,h.ownBlock=some b->(∀o,S*k<=o->K b o=none)/\∀o g,o<S*k->e.flatten[o]?=some g->K b o=some g)/\S<=e.length
 |.vech E k e x=>∃u,β i=.gr x e.length/\gT w 0 E k x e.length u/\bA K β u e.flatten/\fM k e/\∀b,x.ownBlock=some b->∀o,K b o=none
 |.lost=>∀b,(β i).has b->b<w.heap.size
 |.blk b p=>β i=.fix b/\(∃o,w.heap[b]?=some o/\p o)/\∀o,K b o=none
 |.blob p=>∃h:Nat->Option Obj,β i=.set (fun b=>(h b).isSome=true)/\(∀b o,h b=some o->w.heap[b]?=some o/\∀j,K b j=none)/\p h
def vV:List Int:=(List.range 20).map fun i=>((10^i:Nat):Int)
def wc:List Int:=(List.range 256).map fun i=>if i=9\/i=10\/i=11\/i=12\/i=13\/i=32 then 1 else 0
def zE(m:Int):Fz:=fun b o =>
 if b=0 then(match o with|0=>some (.v (.int .i64 m))|_=>none)
 else if b=3 then vV[o]?.map fun z=>.v (.int .u64 z)
 else if b=1 then wc[o]?.map fun z=>.v (.int .u8 z)
 else none
def tA(w:World)(b n:Nat):Prop:=∃J E z,w.heap[b]?=some (.cells J E z)/\J.size=n
theorem tA.lt{w:World}{b n:Nat}(h:tA w b n):b<w.heap.size:=by have⟨J,E,z,h,_⟩:=h;grind
structure mb(K:Fz)(β:Bt)(w:World):Prop where
 le:∃m,cY (zE m) K
 pow:tA w 3 20
 spc:tA w 1 256
 free:∀i b,(β i).has b->b≠3/\b≠1
def mb.step{S:Nat->Prop}{K k:Fz}{β fS:Bt}{w w':World}(h:mb K β w)(hx:Ext S w w')(V:∀b,S b->∃i,(β i).has b)(l:cY K k)(L:∀i b,(fS i).has b->(∃j,(β j).has b)\/w.heap.size<=b):mb k fS w':=by
 have⟨⟨m,M⟩,v,A,N⟩:=h
 have c:∀{b n:Nat},tA w b n->¬S b->tA w' b n:=fun⟨J,E,z,a,e⟩T=>⟨J,E,z,hx.blk a T,e⟩
 refine⟨⟨m,M.trans l⟩,c v (fun q=>?_),c A (fun q=>?_),fun i b C=>?_⟩
 ·grind
 ·grind
 ·rcases L i b C with⟨j,G⟩|q
  ·grind
  ·have:=v.lt;omega
structure Bs where
 w0:World
 foot:Nat->Prop
 K0:Fz
 β0:Bt
 m:Nat
structure Inv(B:Bs)(K:Fz)(β:Bt)(Γ:ap)(w:World):Prop where
 ext:Ext B.foot B.w0 w
 kle:cY B.K0 K
 ble:dO B.β0 β
 loc:∀i,B.m<=i->B.β0 i=.no
 fz:nY K w
 ob:∀i x,Γ[i]?=some x->gM K β w i x
 out:∀i,Γ.length<=i->β i=.no
 dis:∀i j b,(β i).has b->(β j).has b->i=j
 own:∀i b,(β i).has b->B.foot b\/B.w0.heap.size<=b
 kn:∀b o g,K b o=some g->B.K0 b o=some g\/B.foot b\/B.w0.heap.size<=b
 tab:mb K β w
section
variable{B:Bs}{K:Fz}{β:Bt}{Γ:ap}{w:World}
theorem gM.lt{i:Nat}{x:Ob}(h:gM K β w i x){b:Nat}(v:(β i).has b):b<w.heap.size:=by
 cases x with
 |gone=>simp only[gM]at h;rw[h]at v;cases v
 |box E J =>
  have⟨S,d,M,z,_⟩:=h;rw[M]at v;cases v
  grind
 |vec E k T e =>
  have⟨L,u,M,z,_⟩:=h;rw[M]at v;exact(z.lt v).2
 |vech E k e x =>
  have⟨u,M,z,_⟩:=h;rw[M]at v;exact(z.lt v).2
 |lost=>exact h b v
 |blk S p =>
  have⟨M,⟨o,z,_⟩,_⟩:=h;rw[M]at v;cases v
  grind
 |blob p =>
  have⟨g,M,z,_⟩:=h;rw[M]at v;have⟨o,l⟩:=Option.isSome_iff_exists.1 v
  grind
theorem Inv.lt(h:Inv B K β Γ w){i b:Nat}(v:(β i).has b):b<w.heap.size:=by
 by_cases t:i<Γ.length
 ·exact(h.ob i Γ[i] zfz).lt v
 ·rw[h.out i ze4]at v;cases v
theorem nY.lt(h:nY K w){b o:Nat}{g:GV}(hg:K b o=some g):b<w.heap.size:=by
 have⟨_,v,T,_⟩:=h b o g hg;exact E7 T
def blocks(β:Bt):Nat->Prop:=fun b=>∃i,(β i).has b
def cur(K:Fz)(β:Bt)(Γ:ap)(w:World):Bs:=⟨w,blocks β,K,β,Γ.length⟩
def Inv.here(h:Inv B K β Γ w):Inv (cur K β Γ w) K β Γ w :=
 ⟨Ext.refl w,cY.refl K,dO.refl β,h.out,h.fz,h.ob,h.out,h.dis,fun i b v=>.inl ⟨i,v⟩,fun _ _ _ h=>.inl h,h.tab⟩
def Inv.O9{e:Fz}{fS:Bt}{bE Γ0:ap}{w':World}(h:Inv B K β Γ w)(k:Inv (cur K β Γ0 w) e fS bE w'):Inv B e fS bE w' :=
 ⟨h.ext.step k.ext (fun j G=>by have⟨i,t⟩:=G;exact(h.own i j t).symm),h.kle.trans k.kle,h.ble.trans k.ble,h.loc,k.fz,k.ob,k.out,k.dis,
  fun i b v=>by
   rcases k.own i b v with M|M
   ·have⟨j,G⟩:=M;exact h.own j b G
   ·exact .inr (jy h.ext.size M),
  fun b o g C=>by
   rcases k.kn b o g C with M|⟨j,G⟩|M
   ·exact h.kn b o g M
   ·exact .inr (h.own j b G)
   ·exact .inr (.inr (jy h.ext.size M)),k.tab⟩
theorem gM.ext{S:Nat->Prop}{n:Fz}{fS:Bt}{w':World}{i:Nat}{x:Ob}(h:gM K β w i x)(hx:Ext S w w')(q:∀b,(β i).has b->¬S b)(m:cY K n)(C:dO β fS)
  (R:fS i=β i)(hn:∀b o,(β i).has b->K b o=none->n b o=none):gM n fS w' i x:=by
 cases x with
 |gone=>grind[gM]
 |box E J =>
  have⟨b,r,M,z,A,N⟩:=h
  have d:(β i).has b:=by rw[M];exact rfl
  exact⟨b,r,R.trans M,hx.blk z (q b d),A.mono m C,fun o=>hn b o d (N o)⟩
 |vec E k W e =>
  have⟨L,u,M,z,A,N,T,V⟩:=h
  have d:∀b,L.ownBlock=some b->(β i).has b:=fun b C=>by rw[M];exact C
  exact⟨L,u,R.trans M,z.ext hx (fun b v=>q b (d b v)),A.mono m C,N,fun b v=>⟨fun o l=>hn b o (d b v) ((T b v).1 o l),fun o g l F=>m _ _ _ ((T b v).2 o g l F)⟩,V⟩
 |vech E k e x =>
  have⟨u,M,z,A,N,T⟩:=h
  have d:∀b,x.ownBlock=some b->(β i).has b:=fun b C=>by rw[M];exact C
  exact⟨u,R.trans M,z.ext hx (fun b v=>q b (d b v)),A.mono m C,N,fun b v o=>hn b o (d b v) (T b v o)⟩
 |lost=>exact fun b v=>BD (h b ze3) hx.size
 |blk b p =>
  have⟨M,⟨o,z,A⟩,N⟩:=h
  have d:(β i).has b:=by rw[M];exact rfl
  exact⟨R.trans M,⟨o,hx.blk z (q b d),A⟩,fun o=>hn b o d (N o)⟩
 |blob p =>
  have⟨g,M,z,A⟩:=h
  have d:∀b o,g b=some o->(β i).has b:=fun b o l=>by grind[Bk.has]
  exact⟨g,R.trans M,fun b o l=>⟨hx.blk (z b o l).1 (q b (d b o l)),fun j=>hn b j (d b o l) ((z b o l).2 j)⟩,A⟩
def nY.ext{S:Nat->Prop}{w':World}(h:nY K w)(hx:Ext S w w')(q:∀b o g,K b o=some g->¬S b):nY K w':=fun b o g C=>by
 have⟨M,v,T,r⟩:=h b o g C;exact⟨M,v,hx.c T (q b o g C),r⟩
def Inv.same{w':World}(h:Inv B K β Γ w)(hx:Ext gn w w'):Inv B K β Γ w' :=
 ⟨h.ext.step hx (fun j G=>G.elim),h.kle,h.ble,h.loc,h.fz.ext hx (fun _ _ _ _ h=>h),fun i x t=>(h.ob i x t).ext hx (fun _ _ h=>h) (cY.refl K) (dO.refl β) rfl (fun _ _ _ h=>h),h.out,h.dis,h.own,h.kn,h.tab.step hx (fun _ h=>h.elim) (cY.refl K) (fun i b h=>.inl ⟨i,h⟩)⟩
def dv(p:Nat->Bool)(β:Bt):Bt:=fun i=>match p i with
 |true=>β i
 |false=>.no
section
variable{p:Nat->Bool}{β:Bt}{i:Nat}
theorem rA(h:p i=true):dv p β i=β i:=by simp[dv,h]
theorem qj(h:p i=false):dv p β i=.no:=by simp[dv,h]
end
end
section
variable{B:Bs}{K:Fz}{β:Bt}{Γ:ap}{w:World}
def e9(β:Bt)(i:Nat)(x:Bk):Bt:=fun j=>if j=i then x else β j
theorem bH{i:Nat}{x:Bk}:e9 β i x i=x:=by simp[e9]
theorem b0{i j:Nat}{x:Bk}(h:j≠i):e9 β i x j=β j:=by simp[e9,h]
theorem kO{i j b:Nat}{x:Bk}(h:(e9 β i x j).has b):x.has b\/(β j).has b:=by
 grind[bH,b0]
theorem gK{i:Nat}{x:Bk}(h:kU (β i) x):dO β (e9 β i x):=fun j=>by
 grind[bH,b0,kU.refl]
def bA.self{vs:List Value}:bA K β vs (vs.map .v):=⟨by simp,fun i v g M z=>by
 rw[bO,M]at z;cases z;exact .v _⟩
theorem Inv.add{w':World}{b:Nat}{vs:List Value}{cs:am}{E:TypeId}(h:Inv B K β Γ w)(hn:ur w w' b (.cells vs.toArray E))(r:bA K β vs cs) :
  Inv B K (e9 β Γ.length (.fix b)) (Γ++[.box E cs]) w':=by
 have R:β Γ.length=.no:=h.out _ (aQ _);have V:dO β (e9 β Γ.length (.fix b)):=gK zfu
 have N:∀i S,(β i).has S->S≠b:=fun i S z=>by have:=h.lt z;have:=hn.fresh;omega
 have T:∀o,K b o=none:=fun o=>by
  cases l:K b o with
  |none=>rfl
  |some g=>have:=h.fz.lt l;have:=hn.fresh;omega
 refine⟨h.ext.step hn.ext (fun j G=>G.elim),h.kle,h.ble.trans V,h.loc,h.fz.ext hn.ext (fun _ _ _ _ h=>h),fun i x t=>?_,fun i t=>?_,fun i j S t G=>?_,fun i S t=>?_,h.kn,h.tab.step hn.ext (fun _ h=>h.elim) (cY.refl K) (fun i s t=>by rcases kO t with M|M;(· cases M;exact .inr (by have:=hn.fresh;omega));grind)⟩
 ·by_cases k:i<Γ.length
  ·rw[l7 k]at t
   have q:i≠Γ.length:=by omega
   exact(h.ob i x t).ext hn.ext (fun _ _ h=>h) (cY.refl K) V (b0 q) (fun _ _ _ h=>h)
  ·have:i=Γ.length:=by grind
   subst this;simp at t;subst t;exact⟨b,vs,bH,hn.blk,r.mono (cY.refl K) V,T⟩
 ·simp at t;rw[b0 ze4];exact h.out i ze4
 ·by_cases M:i=Γ.length<;>by_cases v:j=Γ.length
  ·omega
  ·subst M;rw[bH]at t;rw[b0 v]at G;cases t;grind
  ·subst v;rw[bH]at G;rw[b0 M]at t;cases G;grind
  ·rw[b0 M]at t;rw[b0 v]at G;exact h.dis i j S t G
 ·by_cases M:i=Γ.length
  ·subst M;rw[bH]at t;cases t;exact .inr zfP
  ·rw[b0 M]at t;exact h.own i S t
theorem Inv.BP{w':World}{E k:Nat}{x:Value}{xs:List Value}{rows:List am}(h:Inv B K β Γ w)(hx:Ext gn w w')(n:gT w' 0 E k x rows.length xs)(hf:∀b,x.ownBlock=some b->w.heap.size<=b)
  (r:bA K β xs rows.flatten)(m:fM k rows):Inv B K (e9 β Γ.length (.gr x rows.length)) (Γ++[.vec E k 0 rows]) w':=by
 have R:β Γ.length=.no:=h.out _ (aQ _);have V:dO β (e9 β Γ.length (.gr x rows.length)):=gK zfu
 have N:∀i S,(β i).has S->x.ownBlock≠some S:=fun i S z W=>by have:=h.lt z;grind
 have T:∀b,x.ownBlock=some b->∀o,K b o=none:=fun b A o=>by
  cases m:K b o with
  |none=>rfl
  |some g=>have:=h.fz.lt m;grind
 refine⟨h.ext.step hx (fun j G=>G.elim),h.kle,h.ble.trans V,h.loc,h.fz.ext hx (fun _ _ _ _ h=>h),fun i y t=>?_,fun i t=>?_,fun i j S t G=>?_,fun i S t=>?_,h.kn,h.tab.step hx (fun _ h=>h.elim) (cY.refl K) (fun i s t=>by rcases kO t with M|M;(· grind[Bk.has]);grind)⟩
 ·by_cases l:i<Γ.length
  ·rw[l7 l]at t
   have q:i≠Γ.length:=by omega
   exact(h.ob i y t).ext hx (fun _ _ h=>h) (cY.refl K) V (b0 q) (fun _ _ _ h=>h)
  ·have:i=Γ.length:=by grind
   subst this;simp at t;subst t;exact⟨x,xs,bH,n,r.mono (cY.refl K) V,m,fun b A=>⟨fun o _=>T b A o,fun o g n _=>by omega⟩,bg _⟩
 ·simp at t;rw[b0 ze4];exact h.out i ze4
 ·by_cases M:i=Γ.length<;>by_cases v:j=Γ.length
  ·omega
  ·subst M;rw[bH]at t;rw[b0 v]at G;exact absurd t (N j _ G)
  ·subst v;rw[bH]at G;rw[b0 M]at t;exact absurd G (N i _ t)
  ·rw[b0 M]at t;rw[b0 v]at G;exact h.dis i j S t G
 ·by_cases M:i=Γ.length
  ·subst M;rw[bH]at t;exact .inr (jy h.ext.size (hf S t))
  ·rw[b0 M]at t;exact h.own i S t
def j1(K:Fz)(b:Nat)(cs:am):Fz:=fun S o=>if S=b then cs[o]? else K S o
theorem TV{b o:Nat}{cs:am}{g:GV}(h:cs[o]?=some g):j1 K b cs b o=some g:=by simp[j1,h]
theorem Inv.uC{w':World}{b:Nat}{vs:List Value}{cs:am}{E:TypeId}(h:Inv B K β Γ w)(hn:ur w w' b (.cells vs.toArray E))(r:bA K β vs cs)(N:∀g∈cs,g.pc=true) :
  cY K (j1 K b cs)/\Inv B (j1 K b cs) β Γ w':=by
 have n:∀o,K b o=none:=fun o=>by
  cases k:K b o with
  |none=>rfl
  |some g=>have:=h.fz.lt k;have:=hn.fresh;omega
 have V:cY K (j1 K b cs):=fun S o g C=>by
  grind[j1]
 refine⟨V,h.ext.step hn.ext (fun j L=>L.elim),h.kle.trans V,h.ble,h.loc,fun S o g C=>?_,fun i x t=>?_,h.out,h.dis,h.own,fun S o g C=>?_,h.tab.step hn.ext (fun _ h=>h.elim) V (fun i s h=>.inl ⟨i,h⟩)⟩
 ·by_cases z:S=b
  ·subst z;simp[j1]at C;have⟨v,T,H⟩:=r.at C;have F:=N g (bB C);exact⟨F,v,zJ hn.blk ze3,(H.mono V (dO.refl β)).pc F⟩
  ·have G:K S o=some g:=by grind[j1]
   have⟨M,v,A,J⟩:=h.fz S o g G;exact⟨M,v,hn.ext.c A (fun h=>h),J.mono V (dO.refl _)⟩
 ·refine(h.ob i x t).ext hn.ext (fun _ _ h=>h) V (dO.refl β) rfl (fun S o z k=>?_)
  have:S≠b:=by have:=h.lt z;have:=hn.fresh;omega
  grind[j1]
 ·by_cases z:S=b
  ·exact .inr (.inr zfP)
  ·exact h.kn S o g (by grind[j1])
theorem Inv.store{w':World}{i b:Nat}{E:TypeId}{cs s:am}{Q:List Value}(h:Inv B K β Γ w)(hi:Γ[i]?=some (.box E cs))(v:β i=.fix b)(q:uv w w' b Q.toArray E)
  (r:bA K β Q s):Inv B K β (Γ.set i (.box E s)) w':=by
 have⟨e,k,M,A,C,N⟩:=h.ob i _ hi;rw[v]at M;cases M
 have d:(β i).has b:=by rw[v];exact rfl
 refine⟨h.ext.step q.ext (fun j G=>?_),h.kle,h.ble,h.loc,h.fz.ext q.ext (fun S o g F R=>?_),fun j x G=>?_,fun j G=>h.out j ze3,h.dis,h.own,h.kn,h.tab.step q.ext (fun j G=>⟨i,by grind⟩) (cY.refl K) (fun i t h=>.inl ⟨i,h⟩)⟩
 ·subst G;exact(h.own i _ d).symm
 ·grind
 ·rw[ik]at G;split at G
  ·rename_i L;split at G
   ·cases G;subst L
    exact⟨b,Q,v,q.blk,r,N⟩
   grind
  ·rename_i L;refine(h.ob j x G).ext q.ext (fun S z R=>?_) (cY.refl K) (dO.refl β) rfl (fun _ _ _ h=>h);subst R;exact L (h.dis i j _ d z)
def uE(K:Fz)(x:Value)(n:Nat)(fl:am):Fz:=fun b o=>if x.ownBlock=some b/\o<n then fl[o]? else K b o
section
variable{x:Value}{n b o:Nat}{fl:am}
theorem SQ(M:x.ownBlock=some b)(v:o<n):uE K x n fl b o=fl[o]?:=by grind[uE]
theorem AO(h:¬(x.ownBlock=some b/\o<n)):uE K x n fl b o=K b o:=by grind[uE]
theorem AP{g:GV}(h:uE K x n fl b o=some g):(x.ownBlock=some b/\o<n/\fl[o]?=some g)\/(¬(x.ownBlock=some b/\o<n)/\K b o=some g):=by
 grind[SQ,AO]
end
theorem Inv.grow{w':World}{i:Nat}{E k fz:Nat}{rows news:List am}{F x:Value}{xs ns:List Value}(h:Inv B K β Γ w)(hi:Γ[i]?=some (.vec E k fz rows))(R:β i=.gr F rows.length)
  (C:gT w 0 E k F rows.length xs/\bA K β xs rows.flatten)(ho:gT w' 0 E k x (rows.length+news.length) (xs++ns))(hx:Ext (fun b=>F.ownBlock=some b) w w')(hf:∀b,x.ownBlock=some b->F.ownBlock=some b\/w.heap.size<=b)
  (hr:bA K β ns news.flatten)(hk:fM k news)(W:news≠[])(T:∀b,F.ownBlock=some b->∀o v,o<fz*k->iQ w.heap b o=some v->iQ w'.heap b o=some v) :
  ∃K',cY K K'/\dO β (e9 β i (.gr x (rows++news).length))/\Inv B K' (e9 β i (.gr x (rows++news).length)) (Γ.set i (.vec E k fz (rows++news))) w':=by
 have⟨Z7,xs',u,H,h3,h4,h5,h6⟩:=h.ob i _ hi;rw[R]at u;cases u;clear H h3
 have hlen:news.length≠0:=fun h=>W (jF h)
 have t:dO β (e9 β i (.gr x (rows++news).length)):=gK (by rw[R];exact⟨x,_,rfl,by simp,fun J=>by grind⟩)
 have e:∀b,F.ownBlock=some b->(β i).has b:=fun b d=>by rw[R];exact d
 have V:rows.flatten.length=rows.length*k:=by rw[<-C.2.1];exact C.1.1
 have abD:fz*k<=rows.flatten.length:=by simp_all[rU]
 have n:cY K (uE K x (fz*k) rows.flatten):=fun b o g s=>by
  by_cases Q:x.ownBlock=some b/\o<fz*k
  ·rw[SQ Q.1 Q.2]
   rcases hf b Q.1 with m|m
   ·grind
   ·have:=h.fz.lt s;omega
  grind[uE]
 refine⟨uE K x (fz*k) rows.flatten,n,t,h.ext.step hx (fun j l=>(h.own i j (e j l)).symm),h.kle.trans n,h.ble.trans t,h.loc,fun b o g s=>?_,fun j y l=>?_,fun j l=>?_,fun j j' b l q=>?_,fun j b l=>?_,fun b o g s=>?_,h.tab.step hx (fun j l=>⟨i,e j l⟩) n (fun j b2 hi=>by rcases kO hi with u|u;(· grind[Bk.has]);grind)⟩
 ·rcases AP s with⟨d,M,s⟩|⟨Q,s⟩
  ·have N:g.pc=true:=by
    have⟨r,zq,NV⟩:=List.mem_flatten.1 (bB s);exact(h4 r zq).2 g NV
   have⟨v,hv,A⟩:=C.2.at s;have⟨b2,c,N4,_,_,Dv⟩:=ho.cells.2 zfi
   have S:b2=b:=by rw[N4]at d;cases d;rfl
   subst S;have mo:o<xs.length:=(bR hv).1;refine⟨N,v,?_,(A.mono n t).pc N⟩
   simp_all[fY,l7]
  ·have⟨hp,v,hv,A⟩:=h.fz b o g s;refine⟨hp,v,?_,A.mono n (dO.refl _)⟩
   by_cases m:F.ownBlock=some b
   ·grind
   ·exact hx.c hv m
 ·rw[ik]at l;split at l
  ·rename_i z;split at l
   ·cases l;subst z
    refine⟨x,xs++ns,bH,by grind,?_,?_,fun b d=>⟨fun o M=>?_,fun o g M s=>?_⟩,by grind⟩
    ·rw[List.flatten_append];exact(C.2.mono n t).app (hr.mono n t)
    ·grind[fM]
    ·rw[AO ze4]
     rcases hf b d with m|m
     ·grind
     ·cases G:K b o with
      |none=>rfl
      |some g=>have:=h.fz.lt G;omega
    grind[uE]
   grind
  ·rename_i z;refine(h.ob j y l).ext hx (fun b d J=>?_) n t (b0 (fun J=>z J.symm)) (fun b o d G=>?_)
   ·exact z (h.dis i j b (e b J) d)
   ·rw[AO];exact G;rintro⟨m,_⟩
    rcases hf b m with h8|h8
    ·exact z (h.dis i j b (e b h8) d)
    ·have:=h.lt d;omega
 ·have q:Γ.length<=j:=by grind
  have:i<Γ.length:=(bR hi).1;rw[b0 ze4];exact h.out j q
 ·have O:∀j b,j≠i->(β j).has b->x.ownBlock≠some b:=fun j b L d J=>by
   rcases hf b J with m|m
   ·exact L (h.dis j i b d (e b m))
   ·have:=h.lt d;omega
  by_cases u:j=i<;>by_cases H:j'=i
  ·omega
  ·subst u;rw[bH]at l;rw[b0 H]at q;exact absurd l (O j' b H q)
  ·subst H;rw[bH]at q;rw[b0 u]at l;exact absurd q (O j b u l)
  ·rw[b0 u]at l;rw[b0 H]at q;exact h.dis j j' b l q
 ·by_cases u:j=i
  ·subst u;rw[bH]at l
   rcases hf b l with m|m
   ·exact h.own j b (e b m)
   ·exact .inr (jy h.ext.size m)
  ·rw[b0 u]at l;exact h.own j b l
 ·rcases AP s with⟨d,_,_⟩|⟨_,s⟩
  ·rcases hf b d with m|m
   ·exact .inr (h.own i b (e b m))
   ·exact .inr (.inr (jy h.ext.size m))
  ·exact h.kn b o g s
theorem Inv.ky{i E k fz:Nat}{rows:List am}(h:Inv B K β Γ w)(hi:Γ[i]?=some (.vec E k fz rows)) :
  ∃z,cY K z/\(∀x b,β i=.gr x rows.length->x.ownBlock=some b->∀(o:Nat)g,rows.flatten[o]?=some g->z b o=some g)/\Inv B z β (Γ.set i (.vec E k rows.length rows)) w:=by
 have⟨x,xs,Q,A,C,R,V,W⟩:=h.ob i _ hi
 have H:rows.flatten.length=rows.length*k:=by rw[<-C.1];exact A.1
 have q:∀b,x.ownBlock=some b->(β i).has b:=fun b u=>by rw[Q];exact u
 have d:cY K (uE K x (rows.length*k) rows.flatten):=fun b o g l=>by
  grind[uE]
 refine⟨uE K x (rows.length*k) rows.flatten,d,fun x' b hx' u o g l=>?_,h.ext,h.kle.trans d,h.ble,h.loc,fun b o g l=>?_,fun j y n=>?_,fun j n=>h.out j ze3,h.dis,h.own,fun b o g l=>?_,h.tab.step (S:=gn) (Ext.refl w) (fun _ h=>h.elim) d (fun i O h=>.inl ⟨i,h⟩)⟩
 ·grind[uE]
 ·rcases AP l with⟨e,ho',l⟩|⟨hc,l⟩
  ·have s:g.pc=true:=by
    have⟨r,L,M⟩:=List.mem_flatten.1 (bB l);exact(R r L).2 g M
   have⟨v,hv,t⟩:=C.at l;have⟨O,c,N,_,_,Dv⟩:=A.cells.2 ze3
   have G:O=b:=by rw[N]at e;cases e;rfl
   subst G;exact⟨s,v,by grind[fY],(t.mono d (dO.refl β)).pc s⟩
  ·have⟨F,v,h8,h9⟩:=h.fz b o g l;exact⟨F,v,h8,h9.mono d (dO.refl _)⟩
 ·rw[ik]at n;split at n
  ·rename_i m;split at n
   ·cases n;subst m
    refine⟨x,xs,Q,A,C.mono d (dO.refl β),R,fun b u=>⟨fun o T=>?_,fun o g T l=>?_⟩,aQ _⟩
    ·rw[AO ze4];exact(V b u).1 o (jy (rU k W) T)
    grind[uE]
   grind
  ·rename_i m;refine(h.ob j y n).ext (Ext.refl w) (fun _ _ h=>h) d (dO.refl β) rfl (fun b o e J=>?_) (S:=gn);rw[AO];exact J;rintro⟨F,_⟩;exact m (h.dis i j b (q b F) e)
 ·rcases AP l with⟨e,_,_⟩|⟨_,l⟩
  ·exact .inr (h.own i b (q b e))
  ·exact h.kn b o g l
end
mutual
def eJ(f:Nat->Nat):GV->GV
 |.v x=>.v x
 |.U=>.U
 |.agg J=>.agg (mP f J)
 |.tup J=>.tup (mP f J)
 |.sl k j=>.sl k j
 |.box J o=>.box J o
 |.loc i o=>.loc (f i) o
 |.vec i n=>.vec (f i) n
 |.vp i n k idx F=>.vp (f i) n k idx F
 |.arr i o n=>.arr (f i) o n
 |.fn g a c=>.fn g (mP f a) (mP f c)
def mP(f:Nat->Nat):am->am
 |[]=>[]
 |g::n=>eJ f g::mP f n
end
def la(f:Nat->Nat)(gs:am):mP f gs=gs.map (eJ f):=by
 induction gs with
 |nil=>rfl
 |cons g gs O=>simp[mP,O]
def Rel.Bz{K:Fz}{β:Bt}{f:Nat->Nat}{x:Value}{g:GV}(h:Rel K (fun j=>β (f j)) x g):Rel K β x (eJ f g):=by
 induction h with
 |v x=>exact .v x
 |U x=>exact .U x
 |agg d J T h O =>
  rw[eJ,la]
  refine .agg d _ ze3 fun i v g M z=>?_
  grind
 |tup d J T h O =>
  rw[eJ,la]
  refine .tup d _ ze3 fun i v g M z=>?_
  grind
 |sl0 a c k=>exact .sl0 a c k
 |sl b o c k l h q=>exact .sl b o c k l h q
 |box b S o J h=>exact .box b S o J h
 |loc i o b h=>exact .loc _ o b h
 |vec i n a c h=>exact .vec _ n a c h
 |vp i n k idx F x h=>exact .vp _ n k idx F x h
 |arr i o n b c h=>exact .arr _ o n b c h
 |fn g u A first E T V h L O r =>
  rw[eJ,la,la];refine .fn g u A _ _ ze3 ze3 (fun i v g M z=>?_) (fun i v g M z=>?_)
  ·grind
  grind
def Rel.Bf{K:Fz}{β:Bt}{f:Nat->Nat}{x:Value}{g:GV}(h:Rel K β x (eJ f g)):Rel K (fun j=>β (f j)) x g:=by
 generalize S:eJ f g=W at h
 induction h generalizing g with
 |v x =>
  cases g<;>simp only[eJ]at S<;>first|(cases S;done)|skip
  cases S;exact .v x
 |U x =>
  cases g<;>simp only[eJ]at S<;>first|(cases S;done)|skip
  exact .U x
 |agg d J V h T =>
  cases g<;>simp only[eJ]at S<;>first|(cases S;done)|skip
  rename_i O;rw[la]at S;cases S
  exact .agg d O ze3 fun i v g M z=>T i v (eJ f g) M ze3 rfl
 |tup d J V h T =>
  cases g<;>simp only[eJ]at S<;>first|(cases S;done)|skip
  rename_i O;rw[la]at S;cases S
  exact .tup d O ze3 fun i v g M z=>T i v (eJ f g) M ze3 rfl
 |sl0 a c k =>
  cases g<;>simp only[eJ]at S<;>first|(cases S;done)|skip
  cases S;exact .sl0 a c _
 |sl b o c k l h s =>
  cases g<;>simp only[eJ]at S<;>first|(cases S;done)|skip
  cases S;exact .sl b o c k l h s
 |box b u o J h =>
  cases g<;>simp only[eJ]at S<;>first|(cases S;done)|skip
  cases S;exact .box b u o J h
 |loc i o b h =>
  cases g<;>simp only[eJ]at S<;>first|(cases S;done)|skip
  cases S;exact .loc _ o b h
 |vec i n a c h =>
  cases g<;>simp only[eJ]at S<;>first|(cases S;done)|skip
  cases S;exact .vec _ n a c h
 |vp i n k idx F x h =>
  cases g<;>simp only[eJ]at S<;>first|(cases S;done)|skip
  cases S;exact .vp _ n k idx F x h
 |arr i o n b c h =>
  cases g<;>simp only[eJ]at S<;>first|(cases S;done)|skip
  cases S;exact .arr _ o n b c h
 |fn W A C first E V t h L T q =>
  cases g<;>simp only[eJ]at S<;>first|(cases S;done)|skip
  rename_i G O r;rw[la,la]at S;cases S;exact .fn _ A C O r ze3 ze3 (fun i v g M z=>T i v (eJ f g) M ze3 rfl)
   (fun i v g M z=>q i v (eJ f g) M ze3 rfl)
mutual
def GV.ok(p:Nat->Bool):GV->Bool
 |.loc i _=>p i
 |.vec i _=>p i
 |.vp i _ _ _ _=>p i
 |.arr i _ _=>p i
 |.agg J=>DR p J
 |.tup J=>DR p J
 |.fn _ a c=>DR p a&&DR p c
 |.v _=>true
 |.U=>true
 |.sl _ _=>true
 |.box _ _=>true
def DR(p:Nat->Bool):am->Bool
 |[]=>true
 |g::n=>GV.ok p g&&DR p n
end
def below(n:Nat):Nat->Bool:=fun i=>Nat.blt i n
def other(n:Nat):Nat->Bool:=fun i=>!Nat.beq i n
abbrev GV.lt(n:Nat)(g:GV):Bool:=g.ok (below n)
def vR{p:Nat->Bool}{gs:am}(h:DR p gs=true){g:GV}(hg:g∈gs):g.ok p=true:=by
 induction gs with
 |nil=>cases hg
 |cons x gs O =>
  grind[DR]
def Rel.res{K:Fz}{β:Bt}{p:Nat->Bool}{x:Value}{g:GV}(h:Rel K β x g)(T:g.ok p=true):Rel K (dv p β) x g:=by
 induction h with
 |v x=>exact .v x
 |U x=>exact .U x
 |agg d J l h O=>simp only[GV.ok]at T;exact .agg d J l fun i v g M z=>O i v g M z (vR T (bB z))
 |tup d J l h O=>simp only[GV.ok]at T;exact .tup d J l fun i v g M z=>O i v g M z (vR T (bB z))
 |sl0 a c k=>exact .sl0 a c k
 |sl b o c k j h q=>exact .sl b o c k j h q
 |box b S o J h=>exact .box b S o J h
 |loc i o b h=>simp only[GV.ok]at T;exact .loc _ o b (by grind[dv])
 |vec i m a c h=>simp only[GV.ok]at T;exact .vec _ m a c (by grind[dv])
 |vp i m k idx F x h=>simp only[GV.ok]at T;exact .vp _ m k idx F x (by grind[dv])
 |arr i o m b c h=>simp only[GV.ok]at T;exact .arr _ o m b c (by grind[dv])
 |fn W u A first E l V h L O n =>
  simp only[GV.ok,aU]at T
  exact .fn _ u A first E l V (fun i v g M z=>O i v g M z (vR T.1 (bB z))) (fun i v g M z=>n i v g M z (vR T.2 (bB z)))
def Ob.ok(p:Nat->Bool):Ob->Bool
 |.box _ J=>DR p J
 |_=>true
def Ob.eJ(f:Nat->Nat):Ob->Ob
 |.box E J=>.box E (mP f J)
 |x=>x
def qW(p:Nat->Bool):ap->Bool
 |[]=>true
 |x::r=>Ob.ok p x&&qW p r
abbrev sH(n:Nat)(Γ:ap):Bool:=qW (below n) Γ
def JX{p:Nat->Bool}{gs:ap}(h:qW p gs=true){g:Ob}(hg:g∈gs):g.ok p=true:=by
 induction gs with
 |nil=>cases hg
 |cons x gs O =>
  grind[qW]
def LU(p:Nat->Bool):am->am
 |[]=>[]
 |g::n=>(match GV.ok p g with|true=>g|false=>.U)::LU p n
abbrev u9(n:Nat)(fr:am):am:=LU (below n) fr
def FR.res{K:Fz}{β:Bt}{p:Nat->Bool}{fr:am}{l:List Value}(h:FR K β fr l):FR K (dv p β) (LU p fr) l:=by
 induction h with
 |nil=>exact .nil
 |cons h t O =>
  rw[LU];split
  ·rename_i T;exact .cons (h.res T) O
  ·exact .cons (.U _) O
def gM.res{K:Fz}{β:Bt}{w:World}{p:Nat->Bool}{i:Nat}{x:Ob}(h:gM K β w i x)(hi:p i=true)(hx:x.ok p=true):gM K (dv p β) w i x:=by
 cases x with
 |gone=>grind[gM,dv]
 |box E J =>
  have⟨b,d,M,A,z,N⟩:=h;exact⟨b,d,by grind[dv],A,⟨z.1,fun i v g T S=>(z.2 i v g T S).res (vR hx (bB S))⟩,N⟩
 |vec E k W j =>
  have⟨t,u,M,A,z,N,T⟩:=h;refine⟨t,u,by grind[dv],A,⟨z.1,fun i v g S V=>(z.2 i v g S V).pc ?_⟩,N,T⟩;exact zei
 |vech E k j x =>
  have⟨u,M,A,z,N,T⟩:=h;refine⟨u,by grind[dv],A,⟨z.1,fun i v g S V=>(z.2 i v g S V).pc ?_⟩,N,T⟩;exact zei
 |lost=>grind[gM,dv]
 |blk b q=>grind[gM,dv]
 |blob q =>
  grind[gM,dv]
section
variable{B:Bs}{K:Fz}{β:Bt}{Γ:ap}{w:World}
def vl{n i:Nat}(h:i<n):below n i=true:=by simpa[below]using h
theorem q9{n i:Nat}(h:n<=i):below n i=false:=by
 cases v:below n i with
 |false=>rfl
 |true=>simp[below]at v;omega
theorem Inv.cut{n:Nat}(h:Inv B K β Γ w)(H:B.m<=n)(T:sH n (Γ.take n)=true):Inv B K (dv (below n) β) (Γ.take n) w:=by
 have o:∀i b,(dv (below n) β i).has b->(β i).has b:=fun i b t=>by
  grind[dv,Bk.has]
 refine⟨h.ext,h.kle,fun i=>?_,h.loc,h.fz,fun i x t=>?_,fun i t=>?_,fun i j b t G=>h.dis i j b (o i b t) (o j b G),fun i b t=>h.own i b (o i b t),h.kn,h.tab.step (S:=gn) (Ext.refl w) (fun _ h=>h.elim) (cY.refl K) (fun i s v=>.inl ⟨i,o i s v⟩)⟩
 ·by_cases z:i<n
  ·rw[rA (vl z)];exact h.ble i
  ·rw[h.loc i ze4];trivial
 ·have M:=JX T (bB t);rw[List.getElem?_take]at t;split at t
  ·rename_i z;exact(h.ob i x t).res (vl z) M
  grind
 ·by_cases z:i<n
  ·rw[rA (vl z)];exact h.out i ze3
  grind[qj,q9]
theorem U5{i:Nat}:other i i=false:=by simp[other]
theorem vT{i j:Nat}(h:j≠i):other i j=true:=by
 grind[Nat.eq_of_beq_eq_true,other]
theorem Inv.freeze{i:Nat}{E:TypeId}{cs:am}(h:Inv B K β Γ w)(hi:Γ[i]?=some (.box E cs))(hp:∀g∈cs,g.pc=true)(L:qW (other i) (Γ.set i .gone)=true)(hm:B.m<=i) :
  ∃C,cY K C/\(∀b,β i=.fix b->∀(j:Nat)g,cs[j]?=some g->C b j=some g)/\Inv B C (dv (other i) β) (Γ.set i .gone) w:=by
 have⟨b,vs,T,F,V,h4⟩:=h.ob i _ hi
 have s:(β i).has b:=by rw[T];exact rfl
 have k:cY K (j1 K b cs):=fun c o g q=>by
  grind[j1]
 have d:∀j c,(dv (other i) β j).has c->j≠i/\(β j).has c:=fun j c l=>by
  grind[qj,U5,rA,vT,Bk.has]
 refine⟨j1 K b cs,k,fun c r j g q=>?_,h.ext,h.kle.trans k,fun j=>?_,h.loc,fun c o g q=>?_,fun j x l=>?_,fun j l=>?_,fun j N c l n=>?_,fun j c l=>?_,fun c o g q=>?_,h.tab.step (S:=gn) (Ext.refl w) (fun _ h=>h.elim) k (fun i O F=>.inl ⟨i,(d i O F).2⟩)⟩
 ·grind[j1]
 ·by_cases u:j=i
  ·subst u;rw[h.loc j hm];trivial
  ·rw[rA (vT u)];exact h.ble j
 ·by_cases G:c=b
  ·subst G;simp[j1]at q;have⟨v,hv,A⟩:=V.at q;have z:=hp g (bB q);exact⟨z,v,zJ F ze3,(A.mono k (dO.refl β)).pc z⟩
  ·have J:K c o=some g:=by grind[j1]
   have⟨W,v,h6,h7⟩:=h.fz c o g J;exact⟨W,v,h6,h7.mono k (dO.refl _)⟩
 ·have M:=JX L (bB l);rw[ik]at l;split at l
  ·grind[gM,j1,dv,other]
  ·rename_i t;refine gM.res ?_ (vT (fun H=>t H.symm)) M;refine(h.ob j x l).ext (Ext.refl w) (fun _ _ h=>h) k (dO.refl β) rfl (fun c o r hk=>?_) (S:=gn)
   have:c≠b:=fun H=>by subst H;exact t (h.dis i j _ s r)
   grind[j1]
 ·have:i<Γ.length:=(bR hi).1
  have n:Γ.length<=j:=by grind
  rw[rA (vT ze4)];exact h.out j n
 ·exact h.dis j N c (d j c l).2 (d N c n).2
 ·exact h.own j c (d j c l).2
 ·by_cases G:c=b
  ·subst G;exact .inr (h.own i _ s)
  ·exact h.kn c o g (by grind[j1])
end
abbrev dU:=Exit->am->ap->Prop
def gl(B:Bs)(Q:dU):ma:=fun e l w=>∃K β fr Γ,Inv B K β Γ w/\FR K β fr l/\Q e fr Γ
def GW(P:Program)(m:Nat)(c:Code)(Q:dU)(fr:am)(Γ:ap):Prop :=
 ∀B K β w l,B.m=m->Inv B K β Γ w->FR K β fr l->W P c (gl B Q) l w
def GL(P:Program)(m:Nat)(ops:Array Oper)(Q:dU)(rest:List Oper)(fr:am)(Γ:ap):Prop :=
 ∀B K β w l,B.m=m->Inv B K β Γ w->FR K β fr l->WL P ops (gl B Q) rest l w
def bh(next:am->ap->Prop)(Q:dU):dU
 |.normal,fr,Γ=>next fr Γ
 |e,fr,Γ=>Q e fr Γ
def bn(id:Nat)(Q:dU):dU
 |.exit xt,fr,Γ=>if xt=id then Q .normal fr Γ else Q (.exit xt) fr Γ
 |e,fr,Γ=>Q e fr Γ
def Wk(m:Nat)(fr:am)(Γ:ap)(de:am)(bE:ap):Prop :=
 ∀B K β w l,B.m=m->Inv B K β Γ w->FR K β fr l->∃i E,Inv B i E bE w/\FR i E de l
section
variable{P:Program}{m:Nat}{Q:dU}{fr:am}{Γ:ap}{ops:Array Oper}{rest:List Oper}
def Wk.trans{de J:am}{bE T:ap}(h:Wk m fr Γ de bE)(k:Wk m de bE J T):Wk m fr Γ J T:=fun B K β w l H N S=>by
 exact zcc
def GW.wk{c:Code}{de:am}{bE:ap}(h:Wk m fr Γ de bE)(k:GW P m c Q de bE):GW P m c Q fr Γ:=fun B K β w l H N S=>by
 exact zcc
def GL.wk{de:am}{bE:ap}(h:Wk m fr Γ de bE)(k:GL P m ops Q rest de bE):GL P m ops Q rest fr Γ:=fun B K β w l H N S=>by
 exact zcc
def Wk.cut{n:Nat}(G:m<=n)(T:sH n (Γ.take n)=true):Wk m fr Γ (u9 n fr) (Γ.take n):=fun B K β w l d N S =>
 ⟨K,dv (below n) β,N.cut ze4 T,S.res⟩
inductive tB:am->am->Prop
 |nil:tB [] []
 |U {f:GV} {fs gs:am} (h:tB fs gs):tB (f::fs) (.U::gs)
 |eq {f g:GV} {fs gs:am} (he:f=g) (h:tB fs gs):tB (f::fs) (g::gs)
def FR.abt{K:Fz}{β:Bt}{l:List Value}{fr de:am}(h:tB fr de)(k:FR K β fr l):FR K β de l:=by
 induction h generalizing l with
 |nil=>exact k
 |U h O=>cases k with|cons C L=>exact .cons (.U _) (O L)
 |eq S h O=>subst S;cases k with|cons C L=>exact .cons C (O L)
def Wk.aW{de:am}(h:tB fr de):Wk m fr Γ de Γ:=fun B K β w l _ N S=>⟨K,β,N,S.abt h⟩
def GW.seq{x y:Code}(h:GW P m x (bh (GW P m y Q) Q) fr Γ):GW P m (.seq x y) Q fr Γ:=fun B K β w l G N S=>by
 refine W.seq (W.mono (h B K β w l G N S) ?_);rintro e l w⟨K,β,fr,Γ,N,S,n⟩
 cases e with
 |normal=>exact n B K β w l G N S
 |_=>exact⟨K,β,fr,Γ,N,S,n⟩
theorem GW.skip(h:Q .normal fr Γ):GW P m .skip Q fr Γ:=fun B K β w l G N S=>W.skip ⟨K,β,fr,Γ,N,S,h⟩
def GW.exit{n:Nat}(h:Q (.exit n) fr Γ):GW P m (.exit n) Q fr Γ:=fun B K β w l G N S=>W.exit ⟨K,β,fr,Γ,N,S,h⟩
def GW.ret(h:Q .ret fr Γ):GW P m .ret Q fr Γ:=fun B K β w l G N S=>W.ret ⟨K,β,fr,Γ,N,S,h⟩
theorem GW.block{id:Nat}{c:Code}(h:GW P m c (bn id Q) fr Γ):GW P m (.block id c) Q fr Γ:=fun B K β w l G N S=>by
 refine W.block (W.mono (h B K β w l G N S) ?_);rintro e l w⟨K,β,fr,Γ,N,S,n⟩
 cases e with
 |exit xt =>
  simp only[bn]at n
  grind[Xv,gl]
 |_=>exact⟨K,β,fr,Γ,N,S,n⟩
theorem Rel.eP{K:Fz}{β:Bt}{x a:Value}(h:Rel K β x (.v a)):x=a:=by cases h;rfl
def FR.eT{K:Fz}{β:Bt}{l:List Value}{x:Operand}{a:Value}(h:FR K β fr l)(hx:a8 fr x=.v a):Xw.ev l x=a:=Rel.eP (by rw[<-hx];exact h.ev x)
def GW.cond{c:Operand}{x y:Code}{t:Bool}(k:a8 fr c=.v (.bool t))(o:t=true->GW P m x Q fr Γ)(hf:t=false->GW P m y Q fr Γ):GW P m (.cond c x y) Q fr Γ:=fun B K β w l G N S =>
 W.cond (S.eT k) (fun h=>o h B K β w l G N S) (fun h=>hf h B K β w l G N S)
section
variable{c:Operand}{x y:Code}{t:Bool}
def Mr(k:a8 fr c=.v (.bool t))(o:t=true)(h:GW P m x Q fr Γ):GW P m (.cond c x y) Q fr Γ:=GW.cond k (fun _=>h) (fun z=>by rw[o]at z;cases z)
def Mq(k:a8 fr c=.v (.bool t))(o:t=false)(h:GW P m y Q fr Γ):GW P m (.cond c x y) Q fr Γ:=GW.cond k (fun z=>by rw[o]at z;cases z) (fun _=>h)
end
theorem GW.mono{c:Code}{Q':dU}(h:GW P m c Q fr Γ)(n:∀e fr Γ,Q e fr Γ->Q' e fr Γ):GW P m c Q' fr Γ:=fun B K β w l G N S =>
 W.mono (h B K β w l G N S) fun e l w ⟨K,β,fr,Γ,N,S,q⟩=>⟨K,β,fr,Γ,N,S,n _ _ _ q⟩
def zc(m:Nat)(K:am->ap->Prop)(fr:am)(Γ:ap):Prop:=∃C v,Wk m fr Γ C v/\K C v
theorem GW.loop{c:Code}{V:Type}(d:V->Nat)(ab5:V->am->ap->Prop)(x:V)(s:zc m (ab5 x) fr Γ)
  (C:∀x fr Γ,ab5 x fr Γ->GW P m c (bh (fun de bE=>∃y,zc m (ab5 y) de bE/\d y<d x) Q) fr Γ):GW P m (.loop c) Q fr Γ:=fun B K β w l H N S=>by
 have⟨de,bE,T,s⟩:=s;have⟨i,E,G,r⟩:=T B K β w l H N S;refine W.loop d (fun x l w=>∃K β fr Γ,Inv B K β Γ w/\FR K β fr l/\ab5 x fr Γ) x ⟨i,E,de,bE,G,r,s⟩ ?_;rintro x l w⟨K,β,fr,Γ,N,S,t⟩;refine W.mono (C x fr Γ t B K β w l H N S) ?_;rintro e l w⟨K,β,fr,Γ,N,S,n⟩
 cases e with
 |normal =>
  have⟨y,⟨de,bE,T,J⟩,M⟩:=n;have⟨i,E,G,r⟩:=T B K β w l H N S
  grind[Yx]
 |_=>exact⟨K,β,fr,Γ,N,S,n⟩
def GW.region{id:Nat}{A:List Oper}(h:GL P m A.toArray Q A fr Γ):GW P m (.region id A.toArray false) Q fr Γ:=fun B K β w l G N S=>W.region (h B K β w l G N S)
theorem GL.nil(h:Q .normal fr Γ):GL P m ops Q [] fr Γ:=fun B K β w l G N S=>WL.nil ⟨K,β,fr,Γ,N,S,h⟩
end
section
variable{next:am->ap->Prop}{Q:dU}{fr:am}{Γ:ap}{id xt:Nat}
def bl(h:next fr Γ):bh next Q .normal fr Γ:=h
def FF(h:Q (.exit id) fr Γ):bh next Q (.exit id) fr Γ:=h
def kX(h:Q .ret fr Γ):bh next Q .ret fr Γ:=h
def jm(h:Q .normal fr Γ):bn id Q .normal fr Γ:=h
def kW(h:Q .ret fr Γ):bn id Q .ret fr Γ:=h
def Jg(h:Q .normal fr Γ):bn id Q (.exit id) fr Γ:=by simpa[bn]using h
theorem Uz(hn:(xt==id)=false)(h:Q (.exit xt) fr Γ):bn id Q (.exit xt) fr Γ:=by
 simp only[bn];grind
end
def GC(P:Program)(f:FuncId)(gs:am)(Γ:ap)(R:GV->ap->Prop):Prop :=
 ∀B K β w d,B.m=Γ.length->Inv B K β Γ w->bA K β d gs->nH P f d w fun v t=>∃i E g z,Inv B i E z t/\Rel i E v g/\R g z
abbrev GF(P:Program)(f:FuncId)(gs:am)(Γ:ap)(g:GV)(bE:ap):Prop:=GC P f gs Γ fun x J=>x=g/\J=bE
theorem GC.mono{P:Program}{f:FuncId}{gs:am}{Γ:ap}{R A:GV->ap->Prop}(h:GC P f gs Γ R)(r:∀g Γ,R g Γ->A g Γ):GC P f gs Γ A:=fun B K β w d G N S =>
 (h B K β w d G N S).mono fun v t ⟨i,E,g,z,M,C,F⟩=>⟨i,E,g,z,M,C,r _ _ F⟩
def FE:Nat->am
 |0=>[]
 |n+1=>.v undef::FE n
def vD:am->Nat->am
 |[],n=>FE n
 |a::r,n=>a::vD r (n-1)
theorem FR.Gu{K:Fz}{β:Bt}(n:Nat):FR K β (FE n) (Gu n):=by
 induction n with
 |zero=>exact .nil
 |succ n O=>exact .cons (.v _) O
theorem FR.frame{K:Fz}{β:Bt}{vs:List Value}{gs:am}(h:bA K β vs gs)(n:Nat):FR K β (vD gs n) (frame vs n):=by
 induction gs generalizing vs n with
 |nil =>
  grind[jF,FR.Gu,vD,Xw.frame]
 |cons g gs O =>
  cases vs with
  |nil=>grind
  |cons v vs=>have⟨M,z⟩:=h.nQ;exact .cons M (O z _)
def tN(P:Program)(fn:Func)(m:Nat)(R:GV->ap->Prop):dU:=fun e fr Γ =>
 (e=.normal\/e=.ret)/\∀B K β w l,B.m=m->Inv B K β Γ w->FR K β fr l->∃v i E g z,(results fn l.toArray).run P w=.ok v w/\Inv B i E z w/\Rel i E v g/\R g z
theorem GC.enter{P:Program}{f:FuncId}{fn:Func}{c:Code}{gs:am}{Γ:ap}{R:GV->ap->Prop}{n:Nat}{fr:am}
  (hf:P.funcs[f]?=some fn)(hn:fn.ntmps=n)(v:fn.body=some c)(T:vD gs n=fr)(h:GW P Γ.length c (tN P fn Γ.length R) fr Γ):GC P f gs Γ R:=fun B K β w d G N S=>by
 subst T;refine nH.enter hf hn v rfl (W.mono (h B K β w _ G N (FR.frame S n)) ?_);rintro e l w⟨K,β,fr,Γ,N,S,V,o⟩
 grind[K7]
section
variable{P:Program}{fn:Func}{m:Nat}{R:GV->ap->Prop}{fr:am}{Γ:ap}{e:Exit}
section
variable{n:Nat}
def WE(r:fn.results=#[])(S:e=.normal\/e=.ret)(G:m<=n)(T:sH n (Γ.take n)=true)(h:R (.tup []) (Γ.take n)):tN P fn m R e fr Γ :=
 ⟨S,fun B K β w l d N V=>⟨.tuple #[],K,dv (below n) β,.tup [],Γ.take n,by rw[results_none r],N.cut ze4 T,.tup [] [] rfl (fun i v g h=>by simp at h),h⟩⟩
def kD{t:Tmp}{g:GV}(r:fn.results=#[.tmp t])(T:e=.normal\/e=.ret)(hg:cJ fr t=g)(G:m<=n)(V:sH n (Γ.take n)=true)(k:g.lt n=true)(h:R g (Γ.take n)):tN P fn m R e fr Γ :=
 ⟨T,fun B K β w l d N S=>⟨nth l t,K,dv (below n) β,g,Γ.take n,by rw[results_tmp r,jI],N.cut ze4 V,by rw[<-hg]at k |-;exact(S.nth t).res k,h⟩⟩
def WG{t u:Tmp}{g W:GV}(r:fn.results=#[.tmp t,.tmp u])(T:e=.normal\/e=.ret)(hg:cJ fr t=g)(E:cJ fr u=W)(G:m<=n)(V:sH n (Γ.take n)=true)(k:(GV.tup [g,W]).lt n=true)(h:R (.tup [g,W]) (Γ.take n)):tN P fn m R e fr Γ :=
 ⟨T,fun B K β w l d N S=>⟨.tuple #[nth l t,nth l u],K,dv (below n) β,.tup [g,W],Γ.take n,by rw[results_tmp2 r,jI,jI],N.cut ze4 V,by
  refine Rel.res ?_ k;subst hg E;have o:bA K β [nth l t,nth l u] [cJ fr t,cJ fr u]:=.cons (S.nth t) (.cons (S.nth u) .nil)
  exact .tup [nth l t,nth l u] _ o.1 o.2,h⟩⟩
def WH{t u s:Tmp}{g W N:GV}(r:fn.results=#[.tmp t,.tmp u,.tmp s])(T:e=.normal\/e=.ret)(hg:cJ fr t=g)(E:cJ fr u=W)(b:cJ fr s=N)(G:m<=n)(V:sH n (Γ.take n)=true)(k:(GV.tup [g,W,N]).lt n=true)
  (h:R (.tup [g,W,N]) (Γ.take n)):tN P fn m R e fr Γ :=
 ⟨T,fun B K β w l d O S=>⟨.tuple #[nth l t,nth l u,nth l s],K,dv (below n) β,.tup [g,W,N],Γ.take n,by
   rw[<-jI l t,<-jI l u,<-jI l s];simp[results,r],O.cut ze4 V,by
  refine Rel.res ?_ k;subst hg E b;have o:bA K β [nth l t,nth l u,nth l s] [cJ fr t,cJ fr u,cJ fr s]:=.cons (S.nth t) (.cons (S.nth u) (.cons (S.nth s) .nil))
  exact .tup [nth l t,nth l u,nth l s] _ o.1 o.2,h⟩⟩
theorem WI{t:Tmp}{T:TypeId}{k:Nat}[V:Ty P T true k]{i:Nat}{E:TypeId}{cs:am}(J:fn.results=#[.cell t T])(C:e=.normal\/e=.ret)(hg:cJ fr t=.loc i 0)(r:Γ[i]?=some (.box E cs))(hk:cs.length=k)
  (hm:m<=n)(F:sH n (Γ.take n)=true)(d:(GV.agg cs).lt n=true)(h:R (.agg cs) (Γ.take n)):tN P fn m R e fr Γ :=
 ⟨C,fun B K β w l S u z=>by
  have⟨b,vs,M,N,s,O⟩:=u.ob i _ r
  have G:nth l t=.pointer (some ⟨b,0,none⟩):=by
   have:=z.nth t;rw[hg]at this;generalize nth l t=v at this
   cases this with
   |loc _ _ L A=>grind
  have H:l.toArray.getD t undef=.pointer (some ⟨b,0,none⟩):=by rw[jI,G]
  have q:=mQ (P:=P) (w:=w) (t:=T) (b:=b) (o:=0) (vs:=vs) (k:=k) ze4 (fun j v W=>by
   grind[World.cell?])
  have c:l[t]?.getD undef=.pointer (some ⟨b,0,none⟩):=by simp_all
  exact⟨.agg vs.toArray,K,dv (below n) β,.agg cs,Γ.take n,by simp[results,J,c,asAddr,q],u.cut ze4 F,Rel.res (.agg vs cs s.1 s.2) d,h⟩⟩
end
end
def YG(P:Program)(op:Op)(fr:am)(Γ:ap)(g:GV):Prop :=
 ∀B K n w l,Inv B K n Γ w->FR K n fr l->∃v,fu P l w op v/\Rel K n v g
section
variable{P:Program}{m:Nat}{Q:dU}{fr:am}{Γ:ap}{ops:Array Oper}{rest:List Oper}{d:Option Tmp}{op:Op}{ty:TypeId}{pos:String}{af:Array Edge}
def GL.q{g:GV}(J:YG P op fr Γ g)(h:GL P m ops Q rest (bN fr d g) Γ):GL P m ops Q (⟨d,op,ty,pos,af,none⟩::rest) fr Γ:=fun B K n w l G N S=>by
 have⟨v,r,T⟩:=J B K n w l N S;exact WL.v r (h B K n w _ G N (S.put d T))
def rV{de:am}{bE:ap}(M:fr=de)(v:Γ=bE)(h:GL P m ops Q rest de bE):GL P m ops Q rest fr Γ:=by subst M;subst v;exact h
def GN{de:am}(M:fr=de)(h:GL P m ops Q rest de Γ):GL P m ops Q rest fr Γ:=by subst M;exact h
def YG.v1{x:Operand}{a v:Value}(hx:a8 fr x=.v a)(h:∀l w,ev l x=a->fu P l w op v):YG P op fr Γ (.v v):=fun B K n w l N S=>⟨v,h l w (S.eT hx),.v v⟩
def YG.v2{x y:Operand}{a b v:Value}(hx:a8 fr x=.v a)(J:a8 fr y=.v b)(h:∀l w,ev l x=a->ev l y=b->fu P l w op v):YG P op fr Γ (.v v):=fun B K n w l N S=>⟨v,h l w (S.eT hx) (S.eT J),.v v⟩
theorem YG.mv{x:Operand}:YG P (.move x) fr Γ (a8 fr x):=fun B K n w l N S=>⟨_,R.mv,S.ev x⟩
theorem YG.lB{x:Operand}:YG P (.assign x) fr Γ (a8 fr x):=fun B K n w l N S=>⟨_,R.lB,S.ev x⟩
theorem YG.Cp{fn:Fn}{first E:List Operand}:YG P (.makeFunc fn first.toArray E.toArray) fr Γ (.fn fn (first.map (a8 fr)) (E.map (a8 fr))):=fun B K n w l N S =>
 ⟨_,R.Cp,by
  have M:=S.args first
  have v:=S.args E
  simpa using Rel.fn fn _ _ _ _ M.1 v.1 M.2 v.2⟩
def Cg:GV->Value
 |.v x=>x
 |_=>.nilFunc
def WK(E:Operand->Value)(op:Op):Option Value :=
 match op with
 |.binOp _ _ _ _ _=>go E op
 |.unOp _ _ _=>go E op
 |_=>none
def UC{K:Fz}{β:Bt}{x:Value}{g:GV}(h:Rel K β x g):Cg g=x\/Cg g=.nilFunc:=by
 cases h<;>first|exact .inl rfl|exact .inr rfl
theorem YG.go{v:Value}(h:WK (fun x=>Cg (a8 fr x)) op=some v):YG P op fr Γ (.v v):=fun B K n w l N S=>by
 refine⟨v,UB ?_,.v v⟩
 have c:∀x,Cg (a8 fr x)=ev l x\/Cg (a8 fr x)=.nilFunc:=fun x=>UC (S.ev x)
 unfold WK at h;split at h
 ·rename_i o t x y b;simp only[Xw.go]at h |-
  grind[EB,ev]
 ·rename_i o t x;simp only[Xw.go,wJ]at h |-
  grind
 ·cases h
def YG.Tt{c a b:Operand}{t:Bool}(k:a8 fr c=.v (.bool t))(o:t=true):YG P (.pick c a b) fr Γ (a8 fr a):=fun B K n w l N S=>⟨_,R.Tt (S.eT k) o,S.ev a⟩
def YG.Ts{c a b:Operand}{t:Bool}(k:a8 fr c=.v (.bool t))(o:t=false):YG P (.pick c a b) fr Γ (a8 fr b):=fun B K n w l N S=>⟨_,R.Ts (S.eT k) o,S.ev b⟩
def YG.abl{x:Operand}{i o:Nat}(hx:a8 fr x=.loc i o):YG P (.nilCheck x) fr Γ (.loc i o):=fun B K n w l N S=>by
 have h:=S.ev x;rw[hx]at h;generalize T:ev l x=v at h
 cases h with|loc _ _ b z=>exact⟨_,R.EE T,.loc i o b z⟩
def YG.LJ{x:Operand}{cs:am}{o:Nat}(hx:a8 fr x=.box cs o):YG P (.nilCheck x) fr Γ (.box cs o):=fun B K n w l N S=>by
 have h:=S.ev x;rw[hx]at h;generalize T:ev l x=v at h
 cases h with|box b V _ _ z=>exact⟨_,R.EE T,.box b V o cs z⟩
def YG.Rh{x:Operand}{t:TypeId}[z:qp P t]{s:ai}(hx:a8 fr x=.v (sv s)):YG P (.call ⟨.builtin .len,#[x],#[t]⟩) fr Γ (.v (ii s.length)):=YG.v1 hx fun l w h=>R.Rh h
def YG.Zv{x:Operand}{t e:TypeId}{k:Nat}[z:lN P t e k]{k':Nat}{rows:List am}(hx:a8 fr x=.sl k' rows):YG P (.call ⟨.builtin .len,#[x],#[t]⟩) fr Γ (.v (ii rows.length)):=fun B K n w l N S=>by
 have h:=S.ev x;rw[hx]at h;generalize T:ev l x=v at h
 cases h with
 |sl0 a c=>exact⟨_,R.LC T,.v _⟩
 |sl b o c _ _ h _=>exact⟨_,R.LC T,.v _⟩
def YG.abe{x:Operand}{t e:TypeId}{k:Nat}[z:lN P t e k]{i n:Nat}(hx:a8 fr x=.vec i n):YG P (.call ⟨.builtin .len,#[x],#[t]⟩) fr Γ (.v (ii n)):=fun B K o w l N S=>by
 have h:=S.ev x;rw[hx]at h;generalize T:ev l x=v at h
 cases h with|vec _ _ a c h=>exact⟨_,R.LC T,.v _⟩
def YG.abd{x:Operand}{t e:TypeId}{k:Nat}[z:lN P t e k]{a:Option Addr}{n c:Nat}(hx:a8 fr x=.v (.slice a n c)):YG P (.call ⟨.builtin .len,#[x],#[t]⟩) fr Γ (.v (ii n)):=YG.v1 hx fun l w h=>R.LC h
def YG.nI{x y:Operand}{t c:TypeId}{a b:ai}(hx:a8 fr x=.v (sv a))(J:a8 fr y=.v (sv b)):YG P (.binOp .eql t x y c) fr Γ (.v (.bool (a==b))):=YG.v2 hx J fun l w h k=>R.nI h k
def YG.nO{x y:Operand}{t c:TypeId}{a b:ai}(hx:a8 fr x=.v (sv a))(J:a8 fr y=.v (sv b)):YG P (.binOp .neq t x y c) fr Γ (.v (.bool (!(a==b)))):=YG.v2 hx J fun l w h k=>R.nO h k
def YG.jn{x y:Operand}{t:TypeId}[z:qp P t]{s:ai}{k:IntKind}{i:Nat}{c:UInt8}(hx:a8 fr x=.v (sv s))(J:a8 fr y=.v (.int k i))(n:s[i]?=some c):YG P (.index t x y) fr Γ (.v (.int .u8 c.toNat)):=YG.v2 hx J fun l w h k=>R.jn h k n
theorem YG.add{x y:Operand}{t c:TypeId}{a b:Int}(hx:a8 fr x=.v (ii a))(J:a8 fr y=.v (ii b))(z : -9223372036854775808<=a+b/\a+b<=9223372036854775807):YG P (.binOp .add t x y c) fr Γ (.v (ii (a+b))):=YG.v2 hx J fun l w h k=>R.add h k z.1 z.2
theorem YG.da{x y:Operand}{t c:TypeId}{a b:Nat}(hx:a8 fr x=.v (ii a))(J:a8 fr y=.v (ii b))(z:a+b<=9223372036854775807):YG P (.binOp .add t x y c) fr Γ (.v (ii ((a+b:Nat):Int))):=YG.v2 hx J fun l w h k=>R.da h k z
def YG.j0{x y:Operand}{t b:TypeId}{a:Nat}(hx:a8 fr x=.v (ii a))(J:a8 fr y=.v (ii 1))(z:a+1<=9223372036854775807):YG P (.binOp .add t x y b) fr Γ (.v (ii ((a+1:Nat):Int))):=YG.v2 hx J fun l w h k=>R.j0 h k z
theorem YG.sub{x y:Operand}{t c:TypeId}{a b:Int}(hx:a8 fr x=.v (ii a))(J:a8 fr y=.v (ii b))(z : -9223372036854775808<=a-b/\a-b<=9223372036854775807):YG P (.binOp .sub t x y c) fr Γ (.v (ii (a-b))):=YG.v2 hx J fun l w h k=>R.sub h k z.1 z.2
def YG.mul{x y:Operand}{t c:TypeId}{a b:Int}(hx:a8 fr x=.v (ii a))(J:a8 fr y=.v (ii b))(z : -9223372036854775808<=a*b/\a*b<=9223372036854775807):YG P (.binOp .mul t x y c) fr Γ (.v (ii (a*b))):=YG.v2 hx J fun l w h k=>R.mul h k z.1 z.2
def YG.cat{x y:Operand}{t c:TypeId}{a b:ai}(hx:a8 fr x=.v (sv a))(J:a8 fr y=.v (sv b))(z:a.length+b.length<=9223372036854775807):YG P (.binOp .add t x y c) fr Γ (.v (sv (a++b))):=YG.v2 hx J fun l w h k=>R.cat h k z
def YG.lh{x:Operand}{t:TypeId}[A:qp P t]{s:ai}{lo hi:Operand}{k k':IntKind}{i j:Nat}(hx:a8 fr x=.v (sv s))(C:a8 fr lo=.v (.int k i))(T:a8 fr hi=.v (.int k' j))(z:i<=j/\j<=s.length):YG P (.slice t x (some lo) (some hi) none) fr Γ (.v (sv ((s.take j).drop i))) :=
 fun B K n w l N S=>⟨_,R.RZ (S.eT hx) ⟨k,S.eT C⟩ ⟨k',S.eT T⟩ z.1 z.2,.v _⟩
theorem YG.lg{x:Operand}{t:TypeId}[A:qp P t]{s:ai}{lo:Operand}{k:IntKind}{i:Nat}(hx:a8 fr x=.v (sv s))(C:a8 fr lo=.v (.int k i))(z:i<=s.length):YG P (.slice t x (some lo) none none) fr Γ (.v (sv (s.drop i))) :=
 fun B K n w l N S=>⟨_,by
  have:=R.RZ (P:=P) (w:=w) (l:=l) (t:=t) (lo:=some lo) (hi:=none) (i:=i) (j:=s.length) (S.eT hx) ⟨k,S.eT C⟩ rfl z (aQ _)
  grind,.v _⟩
def YG.lf{x:Operand}{t:TypeId}[A:qp P t]{s:ai}{hi:Operand}{k:IntKind}{j:Nat}(hx:a8 fr x=.v (sv s))(S:a8 fr hi=.v (.int k j))(z:j<=s.length):YG P (.slice t x none (some hi) none) fr Γ (.v (sv (s.take j))) :=
 fun B K n w l N T=>⟨_,R.RZ (P:=P) (w:=w) (l:=l) (t:=t) (lo:=none) (hi:=some hi) (i:=0) (j:=j) (T.eT hx) rfl ⟨k,T.eT S⟩ (bg _) z,.v _⟩
theorem YG.ext{x:Operand}{i:Nat}{cs:am}{g:GV}(hx:a8 fr x=.tup cs)(hg:cs[i]?=some g):YG P (.extract x i) fr Γ g:=fun B K n w l N S=>by
 have h:=S.ev x;rw[hx]at h;generalize T:ev l x=v at h
 cases h with
 |tup e _ V h =>
  have t:i<e.length:=by grind
  exact⟨e[i],R.extract T zfz,h i _ g zfz hg⟩
def YG.ig{x y:Operand}{t e:TypeId}{k:Nat}[z:lN P t e k]{rows:List am}{A:IntKind}{i:Nat}{r:am}(hx:a8 fr x=.sl k rows)(J:a8 fr y=.v (.int A i))(s:rows[i]?=some r):YG P (.indexAddr t x y) fr Γ (.box r 0):=fun B K n w l N S=>by
 have h:=S.ev x;rw[hx]at h;have u:=(bR s).1;generalize T:ev l x=v at h
 cases h with
 |sl0 a c=>simp at u
 |sl b o c _ _ h _=>exact⟨_,R.jM T (S.eT J) u,.box b (o+i*k) 0 r (h i r s).2⟩
def YG.WA{x:Operand}{s:TypeId}{f F k:Nat}{agg:Bool}[A:dV P s f F k agg]{i o:Nat}(hx:a8 fr x=.loc i o):YG P (.fieldAddr s x f) fr Γ (.loc i (o+F)):=fun B K n w l N S=>by
 have h:=S.ev x;rw[hx]at h;generalize T:ev l x=v at h
 cases h with|loc _ _ b z=>exact⟨_,R.QE T,.loc i _ b z⟩
def YG.Wy{x:Operand}{s:TypeId}{f F k:Nat}{agg:Bool}[A:dV P s f F k agg]{cs:am}{o:Nat}(hx:a8 fr x=.box cs o):YG P (.fieldAddr s x f) fr Γ (.box cs (o+F)):=fun B K n w l N S=>by
 have h:=S.ev x;rw[hx]at h;generalize T:ev l x=v at h
 cases h with|box b V _ _ z=>exact⟨_,R.QE T,by rw[nD];exact .box b V _ cs z⟩
theorem YG.ldL{x:Operand}{t:TypeId}[F:Ty P t false 1]{i o:Nat}{E:TypeId}{cs:am}{g:GV}(hx:a8 fr x=.loc i o)(G:Γ[i]?=some (.box E cs))(hg:cs[o]?=some g):YG P (.load t x) fr Γ g:=fun B K q w l N S=>by
 have h:=S.ev x;rw[hx]at h;generalize V:ev l x=v at h
 cases h with
 |loc _ _ b A =>
  have⟨T,e,M,C,z,O⟩:=N.ob i _ G;rw[A]at M;cases M;have⟨u,n,r⟩:=z.at hg
  grind[R.ld,zJ]
def YG.XB{x:Operand}{t:TypeId}[C:Ty P t false 1]{cs:am}{o:Nat}{g:GV}(hx:a8 fr x=.box cs o)(hg:cs[o]?=some g):YG P (.load t x) fr Γ g:=fun B K q w l N S=>by
 have h:=S.ev x;rw[hx]at h;generalize T:ev l x=v at h
 cases h with
 |box b V _ _ z =>
  have⟨A,u,n,r⟩:=N.fz _ _ _ (z o g hg);exact⟨u,R.ld T n,r.pc A⟩
theorem se{k:Nat}{rows:List am}(l:fM k rows){i j:Nat}{r:am}{g:GV}(s:rows[i]?=some r)(hg:r[j]?=some g):rows.flatten[i*k+j]?=some g:=by
 induction rows generalizing i with
 |nil=>simp at s
 |cons a rows O =>
  have z:a.length=k:=(l a (List.mem_cons_self)).1
  cases i with
  |zero =>
   grind
  |succ i =>
   rw[flatten_cons,lz ze3,z];rw[show(i+1)*k+j-k=i*k+j by grind];exact O (fun r s=>l r (ew _ s)) ze3
theorem YG.Rc{x:Operand}{t:TypeId}{k:Nat}[F:Ty P t true k]{i o:Nat}{E:TypeId}{cs gs:am}(hx:a8 fr x=.loc i o)(G:Γ[i]?=some (.box E cs))(hg:(cs.drop o).take k=gs)(n:gs.length=k):YG P (.load t x) fr Γ (.agg gs):=fun B K q w l N T=>by
 have h:=T.ev x;rw[hx]at h;generalize V:ev l x=v at h
 cases h with
 |loc _ _ b A =>
  have⟨W,e,M,C,z,O⟩:=N.ob i _ G;rw[A]at M;cases M;have S:=(z.drop o).take k;rw[hg]at S;refine⟨.agg ((e.drop o).take k).toArray,R.ldS V ze4 (fun j v H=>?_),.agg _ _ S.1 S.2⟩
  grind[iQ]
theorem wC{K:Fz}{β:Bt}{H:Array Obj}{b:Nat}:∀(gs:am)(o:Nat),(∀(j:Nat)g,gs[j]?=some g->∃v,iQ H b (o+j)=some v/\Rel K β v g)->∃vs:List Value,bA K β vs gs/\∀(j:Nat)v,vs[j]?=some v->iQ H b (o+j)=some v
 |[],o,_=>⟨[],.nil,fun j v h=>by simp at h⟩
 |g::gs,o,h=>by
  have⟨v,T,r⟩:=h 0 g rfl;obtain⟨vs,M,w⟩:=wC gs (o+1) (fun j W B=>by rw[show o+1+j=o+(j+1) by omega];exact h (j+1) W B);refine⟨v::vs,.cons r M,fun j u G=>?_⟩
  grind
theorem YG.XC{x:Operand}{t:TypeId}{k:Nat}[E:Ty P t true k]{cs gs:am}{o:Nat}(hx:a8 fr x=.box cs o)(hg:(cs.drop o).take k=gs)(n:gs.length=k):YG P (.load t x) fr Γ (.agg gs):=fun B K β w l N S=>by
 have h:=S.ev x;rw[hx]at h;generalize T:ev l x=v at h
 cases h with
 |box b V _ _ A =>
  obtain⟨e,M,z⟩:=wC (K:=K) (β:=β) (H:=w.heap) (b:=b) gs (V+o) (fun j g G=>by
   have F:cs[o+j]?=some g:=by
    grind
   have⟨C,u,q,r⟩:=N.fz _ _ _ (A (o+j) g F)
   exact⟨u,by grind,r.pc C⟩)
  exact⟨.agg e.toArray,R.ldS T ze4 z,.agg _ _ M.1 M.2⟩
def mI:GV->Option am
 |.v x=>match Cw x with
  |true=>some [.v x]
  |false=>none
 |.agg J=>some J
 |.U=>none
 |.tup _=>none
 |.vp _ _ _ _ _=>none
 |.sl k e=>some [.sl k e]
 |.box J o=>some [.box J o]
 |.loc i o=>some [.loc i o]
 |.vec i n=>some [.vec i n]
 |.arr i o n=>some [.arr i o n]
 |.fn f a c=>some [.fn f a c]
def pI:am->Nat->am->am
 |cs,_,[]=>cs
 |cs,o,v::r=>pI (bU cs o v) (o+1) r
def yF(V:Nat->Option (Nat × Nat)):am->List (Nat × GV)->Option am
 |cs,[]=>some cs
 |cs,(i,g)::r=>match V i with
  |none=>none
  |some (o,k)=>match mI g with
   |none=>none
   |some n=>if n.length≠k ||decide (o+n.length>cs.length)then none else yF V (pI cs o n) r
theorem Rel.cells{K:Fz}{β:Bt}{x:Value}{g:GV}{gs:am}(h:Rel K β x g)(hg:mI g=some gs):∃vs:List Value,x.cells=vs.toArray/\bA K β vs gs:=by
 have one:∀{x:Value}{g:GV},Rel K β x g->x.cells=#[x]->∃vs:List Value,x.cells=vs.toArray/\bA K β vs [g]:=fun r l=>⟨[_],l,.cons r .nil⟩
 cases h with
 |v x =>
  simp only[mI]at hg;split at hg
  ·rename_i q;cases hg;exact one (.v _) (lX q).1
  grind
 |U x=>cases hg
 |agg vs J T h=>cases hg;grind[Value.cells]
 |tup vs J T h=>cases hg
 |sl0 a c k=>cases hg;exact one (.sl0 a c k) rfl
 |sl b o c k e h l=>cases hg;exact one (.sl b o c k e h l) rfl
 |box b R o J h=>cases hg;exact one (.box b R o J h) rfl
 |loc i o b h=>cases hg;exact one (.loc i o b h) rfl
 |vec i n a c h=>cases hg;exact one (.vec i n a c h) rfl
 |vp i n k idx F x h=>cases hg
 |arr i o n b c h=>cases hg;exact one (.arr i o n b c h) rfl
 |fn f u A first E T V h L=>cases hg;exact one (.fn f u A first E T V h L) rfl
def oa:am->Bool
 |[]=>true
 |g::n=>g.one&&oa n
def pg:am->Bool
 |[]=>true
 |g::n=>g.pc&&pg n
theorem kR{gs:am}(h:pg gs=true):∀g∈gs,g.pc=true:=by
 induction gs with
 |nil=>simp
 |cons x gs O =>
  simp_all[pg,aU,List.mem_cons]
theorem bA.lI{K:Fz}{β:Bt}{vs:List Value}{gs:am}(h:bA K β vs gs)(k:oa gs=true):lI vs=true:=by
 induction gs generalizing vs with
 |nil=>grind[Xw.lI]
 |cons g gs O =>
  cases vs with
  |nil=>rfl
  |cons v vs =>
   simp only[oa,aU]at k;have⟨M,w⟩:=h.nQ;have z:=(lX (M.one k.1)).2
   grind[Xw.lI]
end
theorem bA.mT{K:Fz}{β:Bt}{us:List Value}{q:am}(k:bA K β us q):∀{vs:List Value}{gs:am}(o:Nat),bA K β vs gs->bA K β (mT vs o us) (pI gs o q):=by
 have n:∀{vs:List Value}{gs:am}(o:Nat){v:Value}{g:GV},Rel K β v g->bA K β vs gs->bA K β (eV vs o v) (bU gs o g):=by
  intro vs
  induction vs with
  |nil =>
   intro gs o v g T h;have:gs=[]:=jF h.1.symm;subst this;exact .nil
  |cons x vs O =>
   intro gs o v g T h
   cases gs with
   |nil=>grind
   |cons y gs =>
    have⟨M,w⟩:=h.nQ
    cases o with
    |zero=>exact .cons T w
    |succ o=>exact .cons M (O o T w)
 induction us generalizing q with
 |nil =>
  intro vs gs o h;have:q=[]:=jF k.1.symm;subst this;exact h
 |cons u us O =>
  intro vs gs o h
  cases q with
  |nil=>grind
  |cons g q =>
   have⟨M,w⟩:=k.nQ;exact O w (o+1) (n o M h)
def wH{K:Fz}{β:Bt}{V:Nat->Option (Nat × Nat)}{l:List Value}{fr:am}(T:FR K β fr l):∀(parts:List (Nat × Operand))(vs:List Value)(gs cs:am),bA K β vs gs ->
  yF V gs (parts.map fun x=>(x.1,a8 fr x.2))=some cs->∃us,qz V vs (parts.map fun x=>(x.1,ev l x.2))=some us/\bA K β us cs
 |[],vs,gs,cs,h,s=>by cases s;grind[qz]
 |(i,x)::r,vs,gs,cs,h,s=>by
  simp only[List.map_cons,yF]at s;simp only[List.map_cons,qz]
  cases A:V i with
  |none=>grind
  |some y =>
   have⟨o,k⟩:=y;rw[A]at s;simp only at s |-
   cases B:mI (a8 fr x)with
   |none=>grind
   |some t =>
    rw[B]at s;simp only at s;have⟨us,q,S⟩:=(T.ev x).cells B
    have z:(ev l x).cells.size=t.length:=by grind
    rw[z,h.1];split at s
    ·cases s
    ·rename_i n;rw[D n]
     have c:(ev l x).cells.toList=us:=by rw[q]
     rw[c];exact wH T r _ _ cs (S.mT o h) s
section
variable{P:Program}{m:Nat}{Q:dU}{fr:am}{Γ:ap}{ops:Array Oper}{rest:List Oper}{d:Option Tmp}{op:Op}{ty:TypeId}{pos:String}{af:Array Edge}
def gB(z:List Value):am:=z.map .v
def YG.build{t:TypeId}{V:List (Nat × Nat)}{z:List Value}[A:qS P t V z]{parts:List (Nat × Operand)}{cs:am}(hf:yF (fun i=>V[i]?) (gB z) (parts.map fun x=>(x.1,a8 fr x.2))=some cs) :
  YG P (.build t parts.toArray) fr Γ (.agg cs):=fun B K n w l N S=>by
 have⟨e,M,v⟩:=wH S parts z _ cs bA.self hf;exact⟨_,R.build M,.agg e cs v.1 v.2⟩
theorem nK{K:Fz}{β:Bt}{l:List Value}{t:Nat}(h:FR K β fr l)(o:jc fr t=true):jc l t=true:=by
 induction h generalizing t with
 |nil=>cases o
 |cons _ _ O=>cases t with|zero=>rfl|succ t=>exact O o
def ti{l:List Value}{t:Nat}(h:jc l t=true)(u:Value):nth (eV l t u) t=u:=by
 induction l generalizing t with
 |nil=>cases h
 |cons x l O=>cases t with|zero=>rfl|succ t=>exact O h
theorem oV{l:List Value}{t b:Nat}(h:b≠t)(u:Value):nth (eV l t u) b=nth l b:=by
 induction l generalizing t b with
 |nil=>rfl
 |cons x l O=>cases t with
  |zero=>cases b with|zero=>omega|succ b=>rfl
  |succ t=>cases b with|zero=>rfl|succ b=>grind[nth,eV]
def GL.alloc{t:TypeId}{z:Value}{cs:am}[A:ps P t z](n:gB z.cells.toList=cs)(h:GL P m ops Q rest (bN fr d (.loc Γ.length 0)) (Γ++[.box t cs])):GL P m ops Q (⟨d,.alloc t,ty,pos,af,none⟩::rest) fr Γ:=fun B K o w l H N S=>by
 refine WL.alloc (z:=z) fun b u T=>?_
 have G:=N.add (vs:=z.cells.toList) (cs:=cs) (E:=t) zfk (by rw[<-n];exact bA.self);exact zcB
def GL.box{t:TypeId}{x:Operand}{cs:am}(hx:mI (a8 fr x)=some cs)(h:GL P m ops Q rest (bN fr d (.loc Γ.length 0)) (Γ++[.box t cs])):GL P m ops Q (⟨d,.box t x,ty,pos,af,none⟩::rest) fr Γ:=fun B K n w l H N S=>by
 have⟨e,M,v⟩:=(S.ev x).cells hx
 refine WL.box rfl fun b u T=>?_
 rw[M]at T;have G:=N.add T v;exact zcB
def oset:ap->Nat->Ob->ap
 |[],_,_=>[]
 |_::l,0,x=>x::l
 |y::l,n+1,x=>y::oset l n x
theorem bS(l:ap)(i:Nat)(x:Ob):oset l i x=l.set i x:=by
 induction l generalizing i with
 |nil=>rfl
 |cons y l O=>cases i with|zero=>rfl|succ i=>simp[oset,O]
def yg:∀(us:List Value)(vs:List Value)(o:Nat),setL vs.toArray o us=(mT vs o us).toArray
 |[],vs,o=>rfl
 |u::us,vs,o=>by rw[setL,mT,yl];exact yg us _ _
theorem GL.st{x y:Operand}{t:TypeId}{agg:Bool}{k:Nat}[T:Ty P t agg k]{i o:Nat}{E:TypeId}{cs gs:am}(hx:a8 fr x=.loc i o)(n:Γ[i]?=some (.box E cs))(M:mI (a8 fr y)=some gs)(V:gs.length=k)(C:oa gs=true)
  (W:Nat.ble (o+k) cs.length=true)(h:GL P m ops Q rest (bN fr d (.v undef)) (oset Γ i (.box E (pI cs o gs)))):GL P m ops Q (⟨d,.store t x y,ty,pos,af,none⟩::rest) fr Γ:=fun B K O w l J u q=>by
 have r:=q.ev x;rw[hx]at r;generalize L:ev l x=v at r
 cases r with
 |loc _ _ b z =>
  have⟨R,vs,s,F,G,S⟩:=u.ob i _ n;rw[z]at s;cases s;have⟨us,e,j⟩:=(q.ev y).cells M
  have H:o+k<=cs.length:=by simp_all
  refine WL.st (t:=t) L rfl F ze3 ze3 (by rw[e];simpa using j.lI C) fun N A=>?_
  rw[e,List.toList_toArray,yg]at A;have c:=u.store n z A (j.mT o G);rw[<-bS]at c;exact h B K O N _ J c (q.put d (.v _))
def chunk:Nat->Nat->am->List am
 |0,_,_=>[]
 |n+1,k,o=>o.take k::chunk n k (o.drop k)
theorem wD{k:Nat}:∀(n:Nat)(gs:am),gs.length=n*k->(chunk n k gs).flatten=gs/\(chunk n k gs).length=n/\∀r∈chunk n k gs,r.length=k/\∀g∈r,g∈gs
 |0,gs,h=>by
  grind[chunk]
 |n+1,gs,h=>by
  have l:k<=gs.length:=by grind
  have⟨M,v,w⟩:=wD (k:=k) n (gs.drop k) ze3
  grind[flatten_cons,List.take_append_drop,List.length_cons,List.mem_of_mem_take,List.mem_of_mem_drop,chunk]
def zs:Nat->List Value->am
 |0,_=>[]
 |n+1,z=>gB z++zs n z
theorem BE{K:Fz}{β:Bt}{n k:Nat}{z:List Value}(o:z.length=k)(l:0<k):bA K β ((List.range (n*k)).map fun j=>z.getD (j%k) undef) (zs n z):=by
 induction n with
 |zero=>grind[zs]
 |succ n O =>
  have R:(List.range ((n+1)*k)).map (fun j=>z.getD (j%k) undef)=(List.range k).map (fun j=>z.getD (j%k) undef)++(List.range (n*k)).map fun j=>z.getD (j%k) undef:=by
   simp[Nat.succ_mul,Nat.add_comm,List.range_add,kL,List.map_map,List.map_congr_left]
  rw[R,zs];refine bA.app ?_ O
  have:(List.range k).map (fun j=>z.getD (j%k) undef)=z:=by
   apply List.ext_getElem
   ·simp[o]
   grind[Nat.mod_eq_of_lt,cq]
  rw[this];exact bA.self
theorem GL.XM{t e:TypeId}{k:Nat}{z:List Value}[A:og P t e k z]{n:Nat}{parts:List (Nat × Operand)}{cs:am}(hn:Nat.ble (n*k) 16777216=true)(hf:yF (fun i=>some (i*k,k)) (zs n z) (parts.map fun x=>(x.1,a8 fr x.2))=some cs)
  (T:Nat.beq cs.length (n*k)=true)(E:pg cs=true)(h:GL P m ops Q rest (bN fr d (.sl k (chunk n k cs))) Γ):GL P m ops Q (⟨d,.buildSlice t n parts.toArray,ty,pos,af,none⟩::rest) fr Γ:=fun B K β w l J N S=>by
 have⟨q,M,v⟩:=wH S parts _ _ cs (BE (n:=n) A.zl A.pos) hf
 have V:cs.length=n*k:=by simp_all
 refine WL.Cq (by simp_all) M fun b u H=>?_
 have⟨c,G⟩:=N.uC H v (kR E);have⟨L,F,o⟩:=wD n cs V;refine h B _ β u _ J G ((S.mono c (dO.refl β)).put d ?_)
 have W:fM k (chunk n k cs):=fun r s=>⟨(o r s).1,fun g C=>kR E g ((o r s).2 g C)⟩
 have:=Rel.sl (K:=j1 K b cs) (β:=β) b 0 n k (chunk n k cs) (fun i r s=>⟨(W r (bB s)).1,fun j g C=>by
  rw[iX];grind[TV,se]⟩) ze4
 grind
theorem GL.Tk{t e:TypeId}{k:Nat}{z:List Value}[s:og P t e k z]{n:Nat}{parts:List (Nat × Operand)}{cs:am}(hn:Nat.ble (n*k) 16777216=true)(hf:yF (fun i=>some (i*k,k)) (zs n z) (parts.map fun x=>(x.1,a8 fr x.2))=some cs)
  (hl:Nat.beq cs.length (n*k)=true)(O:pg cs=true)(h:GL P m ops Q rest (bN fr d (.vec Γ.length n)) (Γ++[.vec e k 0 (chunk n k cs)])):GL P m ops Q (⟨d,.buildSlice t n parts.toArray,ty,pos,af,none⟩::rest) fr Γ:=fun B K β w l M F E=>by
 have⟨R,J,W⟩:=wH E parts _ _ cs (BE (n:=n) s.zl s.pos) hf
 have v:cs.length=n*k:=by simp_all
 have o:n*k<=16777216:=by simp_all
 have N:n<=16777216:=jy (Nat.le_mul_of_pos_right n s.pos) o
 refine WL.Cq o J fun b S c=>?_
 have⟨V,H,C⟩:=wD n cs v
 have j:fM k (chunk n k cs):=fun r G=>⟨(C r G).1,fun g L=>kR O g ((C r G).2 g L)⟩
 have A:=gT.XX c (n:=n) (k:=k) ze4 zfh;have q:=F.BP (x:=.slice (some ⟨b,0,none⟩) n n) (xs:=R) (rows:=chunk n k cs) c.ext (by rw[H];exact A.base (bg _)) (fun T u=>by cases u;rw[c.fresh];simp) ze3 j;refine h B K _ S _ M q ((E.mono (cY.refl K) (gK (by rw[F.out _ (aQ _)];trivial))).put d ?_);exact .vec _ n _ n ⟨_,_,bH,by omega,fun _=>rfl⟩
def RP(x:Operand)(t:Tmp):Bool :=
 match x with
 |.tmp b=>!Nat.beq b t
 |_=>true
theorem Ws{l:List Value}{x:Operand}{t:Tmp}(h:RP x t=true)(u:Value):ev (put l (some t) u) x=ev l x:=by
 cases x with
 |tmp b=>exact oV (fun e=>by simp_all[RP]) u
 |_=>rfl
theorem GL.push{x s:Operand}{t e k E:Nat}{z:List Value}[hT:nF P t e k E][hZ:og P t e k z]{C:Tmp}{PA:TypeId}{L:String}{R:Array Edge}{i n fz:Nat}{rows:List am}{gs:am}
  (hx:mI (a8 fr x)=some gs)(hk:Nat.beq gs.length k=true)(h1:oa gs=true)(hp:pg gs=true)(hs:a8 fr s=.vec i n)(hsd:RP s C=true)(hd:jc fr C=true)(J:Γ[i]?=some (.vec e k fz rows))(hn:rows.length=n)
  (S:(n+1<=9223372036854775807/\(n+1)*E<=140737488355328)/\k<=16777216)
  (h:GL P m ops Q rest (bN (bN fr (some C) U) d (.vec i (n+1))) (oset Γ i (.vec e k fz (rows++[gs])))) :
  GL P m ops Q (⟨some C,.buildSlice t 1 #[(0,x)],PA,L,R,none⟩::⟨d,.call ⟨.builtin .append,#[s,.tmp C],#[t,t]⟩,ty,pos,af,none⟩::rest) fr Γ:=fun B K β w l hm hI N=>by
 subst hn;have⟨us,hu1,N0⟩:=(N.ev x).cells hx;have⟨h0,xs,o1,O,o3,o4,o5,o6⟩:=hI.ob i _ J;have A:=N.ev s;rw[hs]at A
 have Jw:ev l s=h0:=by
  generalize hv:ev l s=v at A
  cases A with
  |vec _ _ a c hh =>
   grind
 have SY:=nK N hd
 have Jo:gs.length=k:=by simp_all
 refine WL.push (base:=0) (v:=h0) (vs:=us) (val:=ev l x) (xs:=xs) (n:=rows.length) rfl (fun u=>by grind[Ws]) (fun u=>ti SY u) hu1 ze4 (N0.lI h1) O S.1.1 S.1.2 S.2 (bg _) ?_;intro u v' w' q G Jl xR
 obtain⟨K',hK,N6,F⟩:=hI.grow J o1 ⟨O,o3⟩ (news:=[gs]) (ns:=us) q G Jl ze3 (fun r hr=>by grind[kR]) ze6 (fun b j o v ho hv=>by
  rcases xR with M|M
  ·exact M.c hv (fun h=>h)
  ·have Jr:o<xs.length:=by rw[O.1];exact BD ho (rU k o6)
   have⟨b2,c2,xO,_,_,W⟩:=O.cells.2 ze3
   have T:b2=b:=by rw[xO]at j;cases j;rfl
   subst T;have H:=W o xs[o] (by simp[Jr]);rw[fY,hv]at H;cases H;have⟨b3,c3,WU,_,_,hc3⟩:=q.cells.2 zfi
   have V:b3=b2:=by rw[WU,j]at M;cases M;rfl
   subst V
   rw[<-fY];grind)
 rw[<-bS]at F;refine h B K' _ w' _ hm F (((N.mono hK N6).put (some C) (.U u)).put d ?_);obtain⟨a,c,rfl⟩:=q.shape;exact .vec i _ a c ⟨_,_,bH,by simp,fun _=>rfl⟩
theorem Wk.Cs{t:Nat}{a:Option Addr}{c:Nat}(E k:Nat)(o:cJ fr t=.v (.slice none 0 0)):Wk m fr Γ (bU fr t (.vec Γ.length 0)) (Γ++[.vec E k 0 []]):=fun B K q w l H N S=>by
 have R:q Γ.length=.no:=N.out _ (aQ _);have G:=N.BP (w':=w) (E:=E) (k:=k) (x:=.slice none 0 0) (xs:=[]) (rows:=[]) (Ext.refl w) (gT.nil w 0 E k) (fun b z=>by cases z) bA.nil (fun r u=>by cases u);refine⟨K,_,G,?_⟩;have s:=S.mono (cY.refl K) (gK (i:=Γ.length) (x:=.gr (.slice none 0 0) ([]:List am).length) zfu);have T:nth l t=.slice none 0 0:=Rel.eP (by rw[<-o];exact S.nth t)
 have C:∀(l:List Value)(t:Nat)(v:Value),nth l t=v->(∃a n c,v=.slice a n c)->eV l t v=l:=by
  intro l
  induction l with
  |nil=>grind[eV]
  |cons x l O =>
   intro t v M A
   cases t with
   |zero=>grind[nth,eV]
   |succ t=>grind[nth,eV]
 have:=s.eV t (v:=.slice none 0 0) (g:=.vec Γ.length 0) (.vec _ 0 none 0 ⟨_,_,bH,aQ _,fun _=>rfl⟩)
 simp_all
theorem Aw{l:List Value}{t:Nat}(h:jc l t=true):eV l t (nth l t)=l:=by
 induction l generalizing t with
 |nil=>cases h
 |cons x l O=>cases t with|zero=>rfl|succ t=>simp only[eV,nth];rw[O h]
theorem Wk.ky{t i n E k fz:Nat}{rows:List am}(ht:cJ fr t=.vec i n)(Jn:jc fr t=true)(s:Γ[i]?=some (.vec E k fz rows))(hn:rows.length=n):Wk m fr Γ (bU fr t (.sl k rows)) (oset Γ i (.vec E k n rows)):=fun B K F w l hm M L=>by
 subst hn;have⟨h0,xs,N,o2,o3,O,o5,o6⟩:=M.ob i _ s;have⟨G,W,z,e⟩:=M.ky s;rw[<-bS]at e;refine⟨G,F,e,?_⟩;have b:=L.nth t;rw[ht]at b
 have o:Rel G F (nth l t) (.sl k rows):=by
  generalize nth l t=v at b
  cases b with
  |vec _ _ a c hh =>
   have⟨h',m',H,e2,S⟩:=hh;rw[N]at H;cases H;have J:=S rfl
   rcases o2.2 with⟨u,T⟩|⟨g,R,cu,u,_,_,C,_⟩
   ·have:rows=[]:=jF T;subst this;exact .sl0 _ _ _
   ·rw[u]at J;cases J;refine .sl g 0 _ k rows (fun j r b=>⟨(O r (bB b)).1,fun q V A=>?_⟩) C;rw[iX];exact z _ g N (by rw[u];rfl) _ V (se O b A)
 have:=(L.mono W (dO.refl F)).eV t o
 grind[Aw,nK]
def nr(i:Nat)(cs:am):GV->GV
 |.loc j o=>match Nat.beq j i with
  |true=>.box cs o
  |false=>.loc j o
 |g=>match g.ok (other i)with
  |true=>g
  |false=>.U
theorem Rel.frz{K k:Fz}{β:Bt}{i b:Nat}{cs:am}{x:Value}{g:GV}(h:Rel K β x g)(l:cY K k)(w:β i=.fix b)(r:∀(j:Nat)g,cs[j]?=some g->k b j=some g):Rel k (dv (other i) β) x (nr i cs g):=by
 have z:∀{g:GV},Rel K β x g->Rel k (dv (other i) β) x (match g.ok (other i)with|true=>g|false=>.U):=by
  intro g h;split
  ·rename_i n;exact(h.mono l (dO.refl β)).res n
  ·exact .U _
 cases g with
 |loc j o =>
  simp only[nr];split
  ·rename_i G
   have G:j=i:=by simp_all
   subst G
   cases h with
   |loc _ _ S v =>
    rw[w]at v;cases v;have:=Rel.box (K:=k) (β:=dv (other j) β) b 0 o cs (fun q g B=>by grind)
    grind
  ·rename_i G
   have G:j≠i:=by intro e;simp_all
   exact(h.mono l (dO.refl β)).res (vT G)
 |_=>exact z h
def n1(i:Nat)(cs:am):am->am
 |[]=>[]
 |g::n=>nr i cs g::n1 i cs n
theorem Wk.freeze{i:Nat}{E:TypeId}{cs:am}(G:Γ[i]?=some (.box E cs))(A:pg cs=true)(R:qW (other i) (oset Γ i .gone)=true)(J:m<=i):Wk m fr Γ (n1 i cs fr) (oset Γ i .gone):=fun B K n w l j N S=>by
 rw[bS]at R |-;have⟨b,k,M,v,z,V⟩:=N.ob i _ G;have⟨e,T,u,H⟩:=N.freeze G (kR A) R ze4;refine⟨e,_,H,?_⟩;clear N H R G
 induction S with
 |nil=>exact .nil
 |cons h t O=>exact .cons (h.frz T M (u b M)) O
end
def cS:List Nat->Nat->Nat->Nat
 |[],n,j=>n+j
 |i::_,_,0=>i
 |_::r,n,j+1=>cS r n j
def fB:ap->List Nat->ap->ap
 |Γ,[],u=>Γ++u
 |Γ,_::_,[]=>Γ
 |Γ,i::r,x::u=>fB (oset Γ i x) r u
def kj:List Nat->Nat->Bool
 |[],_=>true
 |i::r,n=>Nat.blt i n&&!(r.contains i)&&kj r n
section
variable{be:List Nat}
theorem CC{n j:Nat}(h:be.length<=j):cS be n j=n+(j-be.length):=by
 induction be generalizing j with
 |nil=>rfl
 |cons i r O =>
  cases j with
  |zero=>simp at h
  |succ j=>grind[cS]
theorem Vq{n j:Nat}(h:j<be.length):∃i∈be,cS be n j=i:=by
 induction be generalizing j with
 |nil=>simp at h
 |cons i r O =>
  cases j with
  |zero=>simp[cS]
  |succ j=>have⟨x,M,v⟩:=O (j:=j) ze3;grind[cS]
theorem Gh{n:Nat}(h:kj be n=true):∀i∈be,i<n:=by
 induction be with
 |nil=>simp
 |cons x r O =>
  simp_all[kj,aU,List.mem_cons]
theorem Ap{n:Nat}(h:kj be n=true):∀{j o:Nat},cS be n j=cS be n o->j=o:=by
 induction be with
 |nil=>simp[cS]
 |cons x r O =>
  have M:=Gh h;simp only[kj,aU,Bool.not_eq_true']at h
  have hx:∀j,cS r n j≠x:=fun j R=>by
   by_cases G:j<r.length
   ·have⟨i,t,v⟩:=Vq (n:=n) G
    grind
   ·have:=CC (n:=n) (Nat.le_of_not_lt G);have:=M x ze6;omega
  intro j o R
  cases j with
  |zero=>cases o with
   |zero=>rfl
   |succ o=>exact absurd R.symm (hx o)
  |succ j=>cases o with
   |zero=>exact absurd R (hx j)
   |succ o=>rw[O h.2 R]
theorem Ie{n:Nat}:∀{Γ xs:ap},Γ.length=n->kj be n=true->be.length<=xs.length ->
  (∀j,(fB Γ be xs)[cS be n j]?=xs[j]?)/\(∀i,(∀j,cS be n j≠i)->(fB Γ be xs)[i]?=Γ[i]?)/\(fB Γ be xs).length=n+(xs.length-be.length):=by
 induction be with
 |nil =>
  intro Γ xs T _ _;refine⟨fun j=>?_,fun i t=>?_,by simp[fB,T]⟩
  ·grind[fB,cS]
  ·simp only[fB,cS]at t |-
   by_cases M:i<n
   ·grind
   ·exact absurd ze4 (t (i-n))
 |cons x r O =>
  intro Γ xs T b V;have WY:=@Ap (x::r) n b;have M:=Gh b x ze6
  cases xs with
  |nil=>simp at V
  |cons y A =>
   simp only[kj,aU,Bool.not_eq_true']at b;have⟨N,v,z⟩:=O (Γ:=oset Γ x y) (xs:=A) zfe b.2 ze3
   have hx:∀j,cS r n j≠x:=fun j R=>by
    have:=@WY (j+1) 0 R;omega
   refine⟨fun j=>?_,fun i t=>?_,by grind[fB]⟩
   ·cases j with
    |zero =>
     simp only[fB,cS];rw[v x hx,bS,ik];grind
    |succ j=>simp only[fB,cS];exact N j
   ·simp only[fB];rw[v i (fun j=>t (j+1)),bS,ik];rw[D (by intro e;exact t 0 e)]
end
def gM.Bf{K:Fz}{β:Bt}{w:World}{f:Nat->Nat}{j:Nat}{x:Ob}(h:gM K β w (f j) (x.eJ f)):gM K (fun j=>β (f j)) w j x:=by
 cases x with
 |gone=>exact h
 |box E J =>
  have⟨b,l,M,A,z,N⟩:=h;rw[la]at z;exact⟨b,l,M,A,⟨by grind,fun i v g S T=>(z.2 i v (eJ f g) S ze3).Bf⟩,N⟩
 |vec E k V e =>
  have⟨t,u,M,A,z,N,S⟩:=h;refine⟨t,u,M,A,⟨z.1,fun i v g T R=>(z.2 i v g T R).pc ?_⟩,N,S⟩;exact zej
 |vech E k e x =>
  have⟨u,M,A,z,N,S⟩:=h;refine⟨u,M,A,⟨z.1,fun i v g T R=>(z.2 i v g T R).pc ?_⟩,N,S⟩;exact zej
 |lost=>exact h
 |blk b q=>exact h
 |blob q=>exact h
def gM.Bz{K:Fz}{β:Bt}{w:World}{f:Nat->Nat}{j:Nat}{x:Ob}(h:gM K (fun j=>β (f j)) w j x):gM K β w (f j) (x.eJ f):=by
 cases x with
 |gone=>exact h
 |box E J =>
  have⟨b,o,M,A,z,N⟩:=h;refine⟨b,o,M,A,?_,N⟩;rw[la];refine⟨by grind,fun i v g T S=>?_⟩;rw[bO]at S
  cases n:J[i]? with
  |none=>grind
  |some c=>rw[n]at S;cases S;exact(z.2 i v c T n).Bz
 |vec E k V l =>
  have⟨t,u,M,A,z,N,T⟩:=h;refine⟨t,u,M,A,⟨z.1,fun i v g S R=>(z.2 i v g S R).pc ?_⟩,N,T⟩;exact zek
 |vech E k l x =>
  have⟨u,M,A,z,N,T⟩:=h;refine⟨u,M,A,⟨z.1,fun i v g S R=>(z.2 i v g S R).pc ?_⟩,N,T⟩;exact zek
 |lost=>exact h
 |blk b q=>exact h
 |blob q=>exact h
section
variable{K:Fz}{β:Bt}{Γ:ap}{w:World}{B:Bs}
theorem Inv.enter{be:List Nat}{o:ap}(h:Inv B K β Γ w)(c:kj be Γ.length=true)(T:o.length=be.length)(G:∀j x,o[j]?=some x->Γ[cS be Γ.length j]?=some (x.eJ (cS be Γ.length))) :
  Inv (cur K (fun j=>β (cS be Γ.length j)) o w) K (fun j=>β (cS be Γ.length j)) o w:=by
 have R:∀i,o.length<=i->β (cS be Γ.length i)=.no:=fun i t=>by
  rw[CC ze4];exact h.out _ ze4
 exact⟨Ext.refl w,cY.refl K,dO.refl _,R,h.fz,fun i x t=>(h.ob _ _ (G i x t)).Bf,R,fun i j b t H=>Ap c (h.dis _ _ b t H),fun i b z=>.inl ⟨i,z⟩,fun _ _ _ h=>.inl h,h.tab.step (S:=gn) (Ext.refl w) (fun _ h=>h.elim) (cY.refl K) (fun i s v=>.inl ⟨_,v⟩)⟩
theorem Inv.leave{be:List Nat}{T u:ap}{V:Fz}{v:Bt}{w':World}(h:Inv B K β Γ w)(S:kj be Γ.length=true)(hl:T.length=be.length)(hl':be.length<=u.length)
  (s:Inv (cur K (fun j=>β (cS be Γ.length j)) T w) V v u w') :
  ∃fS,cY K V/\dO β fS/\(∀j,fS (cS be Γ.length j)=v j)/\Inv B V fS (fB Γ be (u.map (Ob.eJ (cS be Γ.length)))) w':=by
 have⟨s1,s2,s3⟩:=Ie (be:=be) (n:=Γ.length) (Γ:=Γ) (xs:=u.map (Ob.eJ (cS be Γ.length))) rfl S ze3;rw[bC]at s3;generalize hf:cS be Γ.length=f at *
 have WY:∀{j M},f j=f M->j=M:=by subst hf;exact Ap S
 have NS:∀j,be.length<=j->f j=Γ.length+(j-be.length):=fun j C=>by subst hf;exact CC C
 have R:∀i,Γ.length<=i->f (be.length+(i-Γ.length))=i:=fun i l=>by grind
 have⟨fS,e,t⟩:∃fS:Bt,(∀j,fS (f j)=v j)/\∀i,(∀j,f j≠i)->fS i=β i:=by
  classical
  refine⟨fun i=>if h:∃j,f j=i then v (Classical.choose h)else β i,fun j=>?_,fun i l=>?_⟩
  ·have hex:∃M,f M=f j:=⟨j,rfl⟩
   grind
  grind
 have H:dO β fS:=fun i=>by
  by_cases l:∃j,f j=i
  ·obtain⟨j,rfl⟩:=l;rw[e];exact s.ble j
  grind[kU.refl]
 have z:∀b,blocks (fun j=>β (f j)) b->blocks β b:=fun b ⟨j,C⟩=>⟨f j,C⟩
 have G:∀i b,(fS i).has b->blocks β b\/w.heap.size<=b:=fun i b A=>by
  by_cases l:∃j,f j=i
  ·obtain⟨j,rfl⟩:=l;rw[e]at A;exact(s.own j b A).imp (z b) id
  grind[blocks]
 have F:∀i b,(∀j,f j≠i)->(β i).has b->¬blocks (fun j=>β (f j)) b:=fun i b l A ⟨j,C⟩=>l j (h.dis _ _ b C A)
 refine⟨fS,s.kle,H,e,h.O9 (Γ0:=Γ) ?_⟩;refine⟨s.ext.mono (fun k _ hk=>z k hk),s.kle,H,h.out,s.fz,fun i x l=>?_,fun i l=>?_,fun i L b l r=>?_,G,fun b o g hg=>?_,⟨s.tab.le,s.tab.pow,s.tab.spc,fun i b A=>(G i b A).elim (fun⟨j,C⟩=>h.tab.free j b C) (fun hs=>⟨by have:=h.tab.pow.lt;omega,by have:=h.tab.spc.lt;omega⟩)⟩⟩
 ·by_cases C:∃j,f j=i
  ·obtain⟨j,rfl⟩:=C;rw[s1 j,bO]at l
   cases hc:u[j]? with
   |none=>grind
   |some c =>
    rw[hc]at l;cases l;refine gM.Bz ?_;have:=s.ob j c hc;rw[show(fun j=>fS (f j))=v from funext e];exact this
  ·have E:∀j,f j≠i:=fun j h=>C ⟨j,h⟩
   rw[s2 i E]at l;refine(h.ob i x l).ext s.ext (fun b A=>F i b E A) s.kle H (t i E) (fun b o A hk=>?_)
   cases Jo:V b o with
   |none=>rfl
   |some g =>
    rcases s.kn b o g Jo with q|q|q
    ·have q:K b o=some g:=q
     grind
    ·exact absurd q (F i b E A)
    ·have:=h.lt A;have q:w.heap.size<=b:=q;omega
 ·rw[s3]at l;have J:=R i ze4;rw[<-J,e];exact s.out _ ze4
 ·by_cases J:∃j,f j=i<;>by_cases W:∃j,f j=L
  ·obtain⟨j,rfl⟩:=J;obtain⟨M,rfl⟩:=W;rw[e]at l r;rw[s.dis j M b l r]
  ·obtain⟨j,rfl⟩:=J
   have O:∀j,f j≠L:=fun j h=>W ⟨j,h⟩
   rw[e]at l;rw[t L O]at r
   rcases s.own j b l with q|q
   ·exact absurd q (F L b O r)
   ·have:=h.lt r;have q:w.heap.size<=b:=q;omega
  ·obtain⟨j,rfl⟩:=W
   have N:∀j,f j≠i:=fun j h=>J ⟨j,h⟩
   rw[e]at r;rw[t i N]at l
   rcases s.own j b r with q|q
   ·exact absurd q (F i b N l)
   ·have:=h.lt l;have q:w.heap.size<=b:=q;omega
  ·rw[t i (fun j h=>J ⟨j,h⟩)]at l;rw[t L (fun j h=>W ⟨j,h⟩)]at r;exact h.dis i L b l r
 ·rcases s.kn b o g hg with q|q|q
  ·exact .inl q
  ·exact .inr (.inl (z b q))
  ·exact .inr (.inr q)
end
section
variable{P:Program}{m:Nat}{Q:dU}{fr:am}{Γ:ap}{ops:Array Oper}{rest:List Oper}{d:Option Tmp}{op:Op}{ty:TypeId}{pos:String}{af:Array Edge}
def seen(f:Nat->Nat)(Γ:ap):List Nat->ap->Prop
 |[],[]=>True
 |i::r,x::u=>Γ[i]?=some (x.eJ f)/\seen f Γ r u
 |_,_=>False
theorem D3{f:Nat->Nat}{Γ:ap}{n:Nat}:∀{be:List Nat}{o:ap},seen f Γ be o->o.length=be.length/\∀j x,o[j]?=some x->Γ[cS be n j]?=some (x.eJ f)
 |[],[],_=>⟨rfl,fun j x h=>by simp at h⟩
 |i::r,y::A,h=>by
  have⟨M,v⟩:=h;have⟨z,N⟩:=D3 (n:=n) v;refine⟨by simp[z],fun j x hx=>?_⟩
  cases j with
  |zero=>grind[cS]
  |succ j=>exact N j x hx
 |[],_::_,h=>h.elim
 |_::_,[],h=>h.elim
theorem GL.calls{f:FuncId}{be:List Nat}{gs:am}{e:ap}{R:GV->ap->Prop}{vs:List Value->List Value}(s:∀K β w l,FR K β fr l->bA K β (vs l) (mP (cS be Γ.length) gs)/\(execOp (ev l) ⟨d,op,ty,pos,af,none⟩).run P w=.ok (.enter f (vs l).toArray) w)
  (c:kj be Γ.length=true)(t:seen (cS be Γ.length) Γ be e)(O:GC P f gs e R)
  (h:∀g bE,R g bE->be.length<=bE.length/\GL P m ops Q rest (bN fr d (eJ (cS be Γ.length) g)) (fB Γ be (bE.map (Ob.eJ (cS be Γ.length))))) :
  GL P m ops Q (⟨d,op,ty,pos,af,none⟩::rest) fr Γ:=fun B K β w l S A z=>by
 have⟨E,T⟩:=D3 (n:=Γ.length) t;have⟨C,s⟩:=s K β w l z;have q:=A.enter c E T
 have b:bA K (fun j=>β (cS be Γ.length j)) (vs l) gs:=by
  rw[la]at C;exact⟨by grind,fun i v g J h6=>(C.2 i v (eJ _ g) J ze3).Bf⟩
 refine WL.calls s (O _ K _ w _ rfl q b) ?_;rintro v W⟨H,G,g,bE,k,F,N⟩;have⟨r,h⟩:=h g bE N;have⟨u,M,L,V,o⟩:=A.leave c E r k;refine h B H u W _ S o ((z.mono M L).put d (Rel.Bz ?_))
 simp_all
def GL.oO{f:FuncId}[hf:eI P f](be:List Nat){x:Operand}{first E:am}{args:List Operand}{C:Array TypeId}{gs:am}{o:ap}{R:GV->ap->Prop}(k:GC P f gs o R)(hx:a8 fr x=.fn (.func f) first E)(ha:first++args.map (a8 fr)++E=mP (cS be Γ.length) gs)(b:kj be Γ.length=true)
  (G:seen (cS be Γ.length) Γ be o)(h:∀g bE,R g bE->be.length<=bE.length/\GL P m ops Q rest (bN fr d (eJ (cS be Γ.length) g)) (fB Γ be (bE.map (Ob.eJ (cS be Γ.length))))) :
  GL P m ops Q (⟨d,.call ⟨.value x,args.toArray,C⟩,ty,pos,af,none⟩::rest) fr Γ :=
 GL.calls (vs:=fun l=>match ev l x with|.func _ a c=>a.toList++args.map (ev l)++c.toList|_=>[]) (fun K β w l S=>by
  have r:=S.ev x;rw[hx]at r;generalize T:ev l x=v at r
  cases r with
  |fn _ u F _ _ M z A N =>
   refine⟨?_,?_⟩
   ·rw[<-ha];exact(bA.app (bA.app ⟨M,A⟩ (S.args args)) ⟨z,N⟩)
   ·simp[execOp,resolve,T,Deferred.ofValue,invoke,oG]) b G k h
def GL.Y0{f:FuncId}[hf:eI P f](be:List Nat){x:Operand}{args:List Operand}{C:Array TypeId}{gs:am}{o:ap}{R:GV->ap->Prop}(k:GC P f gs o R)(hx:a8 fr x=.v (.func (.func f) #[] #[]))(ha:args.map (a8 fr)=mP (cS be Γ.length) gs)(b:kj be Γ.length=true)
  (G:seen (cS be Γ.length) Γ be o)(h:∀g bE,R g bE->be.length<=bE.length/\GL P m ops Q rest (bN fr d (eJ (cS be Γ.length) g)) (fB Γ be (bE.map (Ob.eJ (cS be Γ.length))))) :
  GL P m ops Q (⟨d,.call ⟨.value x,args.toArray,C⟩,ty,pos,af,none⟩::rest) fr Γ :=
 GL.calls (vs:=fun l=>args.map (ev l)) (fun K β w l S=>⟨by rw[<-ha];exact S.args args,by
  have T:=S.eT hx
  simp[execOp,resolve,T,Deferred.ofValue,invoke,oG]⟩) b G k h
end
def ou(ops:List Oper)(fr:am):Nat->Option (Option Bool):=fun j =>
 match jc ops j,(ru ops j).dst with
 |true,some t=>match jc fr t,cJ fr t with
  |true,.v (.bool c)=>some (some c)
  |true,.v (.tuple _)=>some none
  |_,_=>none
 |_,_=>none
section
variable{P:Program}{m:Nat}{Q:dU}{fr:am}{Γ:ap}{ops:Array Oper}{rest:List Oper}{d:Option Tmp}{op:Op}{ty:TypeId}{pos:String}{af:Array Edge}
theorem vC{K:Fz}{β:Bt}{l:List Value}{j:Nat}{b:Bool}{c:Option Bool}(S:FR K β fr l)(h:ou ops.toList fr j=some c):tP (some (j,b)) ops.toList l=true/\gv ops.toList l (j,b)=c:=by
 unfold ou at h;split at h
 ·rename_i t M w;split at h
  ·rename_i o v N;cases h;have V:nth l t=.bool o:=Rel.eP (by rw[<-N];exact S.nth t);have T:=nK S v
   grind[tP,gv]
  ·rename_i e v N;cases h;have V:nth l t=.tuple e:=Rel.eP (by rw[<-N];exact S.nth t);have T:=nK S v
   grind[tP,gv]
  ·cases h
 ·cases h
def GL.gt{k:Nat × Bool}{c:Bool}(T:ou ops.toList fr k.1=some (some c))(n:c=k.2)(h:GL P m ops Q (⟨d,op,ty,pos,af,none⟩::rest) fr Γ):GL P m ops Q (⟨d,op,ty,pos,af,some k⟩::rest) fr Γ:=fun B K o w l G N S=>by
 have⟨M,v⟩:=vC (b:=k.2) S T;exact Xw.GT M v n (h B K o w l G N S)
def GL.gf{k:Nat × Bool}{c:Bool}(T:ou ops.toList fr k.1=some (some c))(n:c=!k.2)(h:GL P m ops Q rest (bN fr d (.v undef)) Γ):GL P m ops Q (⟨d,op,ty,pos,af,some k⟩::rest) fr Γ:=fun B K o w l G N S=>by
 have⟨M,z⟩:=vC (b:=k.2) S T;exact Xw.GF M z n (h B K o w _ G N (S.put d (.v _)))
def GL.gu{k:Nat × Bool}(T:ou ops.toList fr k.1=some none)(h:GL P m ops Q rest (bN fr d (.v undef)) Γ):GL P m ops Q (⟨d,op,ty,pos,af,some k⟩::rest) fr Γ:=fun B K n w l G N S=>by
 have⟨M,z⟩:=vC (b:=k.2) S T;exact Xw.GU M z (h B K n w _ G N (S.put d (.v _)))
end
def gG(ops:List Oper)(fr:am):Option (Nat × Bool)->Option Bool
 |none=>some true
 |some (j,b)=>match ou ops fr j with
  |some (some c)=>some (c==b)
  |some none=>some false
  |none=>none
def Jd{ops:Array Oper}{K:Fz}{β:Bt}{fr:am}{l:List Value}{o:Oper}{c:Bool}(S:FR K β fr l)(h:gG ops.toList fr o.guard=some c):Region.wanted o (yielded ops (act l).tmps)=c:=by
 have⟨d,op,ty,pos,af,k⟩:=o
 cases k with
 |none=>simp only[gG]at h;cases h;rfl
 |some k =>
  have⟨j,b⟩:=k;simp only[gG]at h;split at h
  ·rename_i q n;cases h;have⟨M,v⟩:=vC (b:=b) S n;rw[wu M]
   cases C:(q==b)with
   |true=>grind[PO]
   |false=>exact PN v (by cases q<;>cases b<;>simp_all)
  ·grind[vC,wu,PQ]
  ·cases h
def DS(P:Program)(o:Oper)(e:Operand->Value)(w:World)(J:Value->World->Prop):Prop :=
 match(execOp e o).run P w with
 |.ok (.value v) t=>J v t
 |.ok .skip t=>J undef t
 |.ok (.enter f args) t=>Calls P f args t fun e F=>∃v,e=.returned v/\J v F
 |.ok (.row row args) t=>Rows P row args t J
 |_=>False
section
variable{P:Program}{o:Oper}{a:Act}{w:World}{J:Value->World->Prop}{next:Act->World->Prop}{Q:Exit->Act->World->Prop}
theorem XZ(h:DS P o a.eval w J)(hn:∀v w',J v w'->next (a.put o.dst v) w'):o.wp P a w next Q:=by
 unfold DS at h;unfold Oper.wp;generalize(execOp a.eval o).run P w=r at *
 grind[Calls.mono,Rows.mono,Oper.upon]
theorem YF(h:o.wp P a w next Q)(G:∀c a w,¬Q (.panic c) a w)(k:∀a w,¬Q .outgrown a w)(hn:∀v w',next (a.put o.dst v) w'->J v w')
  (hd:∀d w',¬next ({ a with defers:=d::a.defers }.put o.dst undef) w'):DS P o a.eval w J:=by
 unfold DS;unfold Oper.wp at h;generalize(execOp a.eval o).run P w=r at *
 cases r with
 |ok n w' =>
  cases n<;>simp only[Oper.upon]at h |-<;>first
   |exact hn _ _ h
   |exact Calls.mono h (fun e F R=>by
     cases e with
     |returned v=>grind
     |panicked c=>grind
     |outgrown=>have⟨u,C,s⟩:=R;grind)
   |exact Rows.mono h (fun _ _ T=>hn _ _ T)
   |grind
   |grind
 |halt x w' =>
  cases x<;>simp only[Oper.upon]at h
  grind
end
def dM(ts:List Nat):Nat->am->am
 |_,[]=>[]
 |k,g::n=>(match ts.contains k with|true=>g|false=>.U)::dM ts (k+1) n
def FR.mask{K:Fz}{β:Bt}{ts:List Nat}{fr:am}{l:List Value}(h:FR K β fr l):∀k,FR K β (dM ts k fr) l:=by
 induction h with
 |nil=>intro k;exact .nil
 |cons h t O =>
  intro k;rw[dM];split
  ·exact .cons h (O _)
  ·exact .cons (.U _) (O _)
theorem Rr{ts:List Nat}{d:Option Tmp}{g:GV}(hd:∀t,d=some t->t ∉ ts)(fr:am):dM ts 0 (bN fr d g)=dM ts 0 fr:=by
 cases d with
 |none=>rfl
 |some t =>
  have hd:=hd t rfl
  have z:∀(fr:am)(k t:Nat),k+t ∉ ts->dM ts k (bU fr t g)=dM ts k fr:=by
   intro fr
   induction fr with
   |nil=>intro k t _;rfl
   |cons x fr O =>
    intro k t h
    cases t with
    |zero =>
     grind[dM,bU]
    |succ t=>grind[dM,bU]
  grind[bN]
section
variable{P:Program}{ops:Array Oper}
def YQ(P:Program)(ops:Array Oper)(i:Nat)(g:GV)(fr:am)(Γ:ap):Prop :=
 ∃o c,ops[i]?=some o/\gG ops.toList (dM (o.looksAt ops) 0 fr) o.guard=some c/\match c with
  |true=>YG P o.op (dM (o.looksAt ops) 0 fr) Γ g
  |false=>g=.v undef
abbrev lF:=List (Nat × GV × am)
def GA(P:Program)(o:Oper)(A:GV->ap->Prop)(fr:am)(Γ:ap):Prop :=
 ∀B K n w l,Inv B K n Γ w->FR K n fr l->DS P o (ev l) w fun v t=>∃e E g z,cY K e/\dO n E/\Inv B e E z t/\(∀fr l,FR e E fr l->FR e E (bN fr o.dst g) (put l o.dst v))/\A g z
def GI(P:Program)(ops:Array Oper)(i:Nat)(A:GV->ap->Prop)(fr:am)(Γ:ap):Prop :=
 ∃o c,ops[i]?=some o/\gG ops.toList fr o.guard=some c/\match c with
  |true=>GA P o A fr Γ
  |false=>A (.v undef) Γ
def me(ops:Array Oper)(i:Nat):Option Tmp:=(ops[i]?).bind (·.dst)
def waits(ops:Array Oper)(i j:Nat):Bool:=match ops[i]? with
 |some o=>o.after.any fun e=>Region.binds .any e&&e.on==j
 |none=>false
def stay(ops:Array Oper)(i:Nat)(V:lF):lF:=V.filter fun p=>!waits ops i p.1
def qm(P:Program)(ops:Array Oper)(Q:am->ap->Prop):Nat->lF->Array Bool->am->ap->Prop
 |0,_,v,fr,Γ=>Region.ready .any ops v=[]/\Q fr Γ
 |n+1,V,v,fr,Γ=>(Region.ready .any ops v=[]->Q fr Γ) /\
   ∀i∈Region.ready .any ops v,GI P ops i (fun g w=>(∀p∈stay ops i V,YQ P ops p.1 p.2.1 p.2.2 w)/\qm P ops Q n (stay ops i V) (v.setIfInBounds i true) (bN fr (me ops i) g) w) fr Γ
theorem GA.mono{o:Oper}{A ET:GV->ap->Prop}{fr:am}{Γ:ap}(h:GA P o A fr Γ)(k:∀g bE,A g bE->ET g bE):GA P o ET fr Γ:=fun B K q w l O T=>by
 have:=h B K q w l O T;unfold DS at *;generalize(execOp (ev l) o).run P w=r at *
 have c:∀v t,(∃i E g bE,cY K i/\dO q E/\Inv B i E bE t/\(∀fr l,FR i E fr l->FR i E (bN fr o.dst g) (put l o.dst v))/\A g bE)->∃i E g bE,cY K i/\dO q E/\Inv B i E bE t/\(∀fr l,FR i E fr l->FR i E (bN fr o.dst g) (put l o.dst v))/\ET g bE :=
  fun v t ⟨i,E,g,bE,M,z,C,N,S⟩=>⟨i,E,g,bE,M,z,C,N,k _ _ S⟩
 cases r with
 |ok n t=>cases n<;>simp only at this |-<;>first
   |exact c _ _ this
   |exact Calls.mono this (fun e F ⟨v,R,V⟩=>⟨v,R,c _ _ V⟩)
   |grind[Rows.mono]
   |exact this.elim
 |halt x t=>omega
theorem GI.mono{i:Nat}{A ET:GV->ap->Prop}{fr:am}{Γ:ap}(h:GI P ops i A fr Γ)(k:∀g bE,A g bE->ET g bE):GI P ops i ET fr Γ:=by
 grind[GA.mono,GI]
theorem qm.SE{Q:am->ap->Prop}:∀(n:Nat)(V u:lF)(v:Array Bool)(fr:am)(Γ:ap),(∀p∈u,p∈V)->qm P ops Q n V v fr Γ->qm P ops Q n u v fr Γ
 |0,_,_,_,_,_,_,h=>h
 |n+1,V,u,v,fr,Γ,q,h=>⟨h.1,fun i t=>(h.2 i t).mono fun g z ⟨M,w⟩=>by
  have C:∀p∈stay ops i u,p∈stay ops i V:=fun p A=>by
   grind[stay]
  exact⟨fun p A=>M p (C p A),qm.SE n _ _ _ _ _ C w⟩⟩
def qm.sound{m:Nat}{Q:am->ap->Prop}{B:Bs}{Q':dU}(J:B.m=m)(G:∀fr Γ,Q fr Γ->Q' .normal fr Γ):∀(n:Nat)(V:lF)(z:Array Bool)(fr:am)(Γ:ap)(K:Fz)(β:Bt)(w:World)(l:List Value),
  qm P ops Q n V z fr Γ->Inv B K β Γ w->FR K β fr l->wpAny P .any ops (lift (gl B Q')) n z (act l) w
 |0,_,_,fr,Γ,K,β,w,l,h,N,S=>⟨h.1,l,rfl,K,β,fr,Γ,N,S,G _ _ h.2⟩
 |n+1,V,z,fr,Γ,K,β,w,l,h,N,S=>by
  refine⟨fun s=>⟨l,rfl,K,β,fr,Γ,N,S,G _ _ (h.1 s)⟩,fun i u=>?_⟩;have⟨o,c,q,C,k⟩:=h.2 i u;have R:=Jd S C;unfold wpOp;simp only[q,R]
  have F:me ops i=o.dst:=by simp[me,q]
  cases c with
  |true =>
   simp only[if_true];refine .inl (XZ (by rw[pP];exact k B K β w l N S) ?_);rintro v L⟨e,E,g,O,T,j,H,t,M,A⟩;rw[qa];rw[F]at A;exact qm.sound J G n _ _ _ _ e E L _ A H (t _ _ (S.mono T j))
  |false =>
   refine zdM ?_;rw[qa];have⟨M,A⟩:=k;rw[F]at A;exact qm.sound J G n _ _ _ _ K β w _ A N (S.put o.dst (.v _))
theorem HM{fr:am}{t b:Nat}(h:b≠t)(g:GV):cJ (bU fr t g) b=cJ fr b:=by
 induction fr generalizing t b with
 |nil=>rfl
 |cons x l O=>cases t with
  |zero=>cases b with|zero=>omega|succ b=>rfl
  |succ t=>cases b with|zero=>rfl|succ b=>grind[cJ,bU]
theorem JB{fr:am}{t b:Nat}{g:GV}:jc (bU fr t g) b=jc fr b:=by
 induction fr generalizing t b with
 |nil=>rfl
 |cons x l O=>cases t with
  |zero=>cases b<;>rfl
  |succ t=>cases b with|zero=>rfl|succ b=>exact O
theorem WC{o:Oper}{fr:am}{d:Option Tmp}{g:GV}(h:∀t,d=some t->t ∉ o.looksAt ops):gG ops.toList (bN fr d g) o.guard=gG ops.toList fr o.guard:=by
 cases d with
 |none=>rfl
 |some t =>
  have h:=h t rfl;have⟨J,op,ty,pos,af,k⟩:=o
  cases k with
  |none=>rfl
  |some k =>
   have⟨j,b⟩:=k
   have q:∀c,jc ops.toList j=true->(ru ops.toList j).dst=some c->c≠t:=fun c G B R=>by
    subst R;apply h;have F:=JR ops.toList j (AY G)
    grind[Oper.looksAt]
   have T:ou ops.toList (bU fr t g) j=ou ops.toList fr j:=by
    grind[jc,ru,JB,HM,ou,bU]
   simp only[gG,bN,T]
def YQ.at{i:Nat}{g:GV}{fr:am}{Γ:ap}{o:Oper}(h:YQ P ops i g fr Γ)(k:ops[i]?=some o){B:Bs}{K:Fz}{β:Bt}{w:World}{l:List Value}(N:Inv B K β Γ w)(S:FR K β fr l):∃v,Rel K β v g/\((Region.wanted o (yielded ops (act l).tmps)=true/\(execOp (ev l) o).run P w=.ok (.value v) w)\/(Region.wanted o (yielded ops (act l).tmps)=false/\v=undef)):=by
 have⟨V,c,M,A,z⟩:=h;rw[k]at M;cases M;have R:=Jd (S.mask (ts:=o.looksAt ops) 0) A
 cases c with
 |true =>
  have⟨v,r,T⟩:=z B K β w l N (S.mask 0);exact⟨v,T,.inl ⟨R,by have⟨d,op,ty,pos,af,n⟩:=o;exact r d ty pos af⟩⟩
 |false=>subst z;exact⟨undef,.v _,.inr ⟨R,rfl⟩⟩
theorem GI.comm{i j:Nat}{g:GV}{C z:Oper}{A:GV->ap->Prop}{fr:am}{Γ:ap}(hi:ops[i]?=some C)(G:ops[j]?=some z)(O:C.apart ops z=true)(n:∀cs b,z.op≠.select cs b)(J:YQ P ops i g fr Γ)
  (h:GI P ops j A (bN fr C.dst g) Γ):GI P ops j A fr Γ:=by
 have⟨a1,R,s⟩:=Oper.apart_spec O;have⟨o,c,M,E,F⟩:=h;rw[G]at M;cases M;rw[WC a1]at E;refine⟨z,c,G,E,?_⟩
 cases c with
 |false=>exact F
 |true =>
  intro B K q w l N S;have⟨v,T,_⟩:=J.at hi N S;have:=F B K q w (put l C.dst v) N (S.put _ T)
  have V:execOp (ev (put l C.dst v)) z=execOp (ev l) z:=by
   have:=execOp_put z n (act l) C.dst v a1
   grind[qa,pP]
  unfold DS at this |-
  grind
theorem qm.first{Q:am->ap->Prop}{i:Nat}{z:Oper}{g:GV}{s:am}(hi:ops[i]?=some z)(aa3:∀(j:Nat)(o:Oper)cs b,ops[j]?=some o->o.op≠.select cs b) :
  ∀(n:Nat)(r:lF)(q:Array Bool)(fr:am)(Γ:ap),
   (∀j J,ops[j]?=some J->j≠i->q.getD j true=false->(∀e∈J.after,Region.binds .any e=true->e.on≠i)->z.apart ops J=true) ->
   i∈Region.ready .any ops q->dM (z.looksAt ops) 0 fr=dM (z.looksAt ops) 0 s->YQ P ops i g s Γ->(∀p∈r,YQ P ops p.1 p.2.1 p.2.2 Γ) ->
   qm P ops Q n ((i,g,s)::r) (q.setIfInBounds i true) (bN fr z.dst g) Γ->qm P ops Q (n+1) r q fr Γ:=by
 have hd:me ops i=z.dst:=by simp[me,hi]
 have O:∀{fr:am}{Γ:ap},dM (z.looksAt ops) 0 fr=dM (z.looksAt ops) 0 s->YQ P ops i g s Γ->YQ P ops i g fr Γ:=by
  rintro fr Γ hm⟨o,c,M,h2,T⟩;rw[hi]at M;cases M;exact⟨z,c,hi,by grind,by grind⟩
 have self:∀(n:Nat)(r:lF)(q:Array Bool)(fr:am)(Γ:ap),dM (z.looksAt ops) 0 fr=dM (z.looksAt ops) 0 s->YQ P ops i g s Γ->(∀p∈r,YQ P ops p.1 p.2.1 p.2.2 Γ) ->
   qm P ops Q n ((i,g,s)::r) (q.setIfInBounds i true) (bN fr z.dst g) Γ ->
   GI P ops i (fun g L=>(∀p∈stay ops i r,YQ P ops p.1 p.2.1 p.2.2 L)/\qm P ops Q n (stay ops i r) (q.setIfInBounds i true) (bN fr (me ops i) g) L) fr Γ:=by
  intro n r q fr Γ F hy N H
  have S:∀p∈stay ops i r,p∈r:=fun p N=>by grind[stay]
  have H':qm P ops Q n (stay ops i r) (q.setIfInBounds i true) (bN fr (me ops i) g) Γ:=by
   grind[qm.SE,ew]
  have⟨o,c,M,h2,T⟩:=O F hy;rw[hi]at M;cases M
  have h2':gG ops.toList fr z.guard=some c:=by
   have⟨d',op,ty,pos,af,gd⟩:=z
   cases gd with
   |none=>exact h2
   |some gd =>
    have⟨j,b⟩:=gd;simp only[gG]at h2 |-
    have hv:∀x,ou ops.toList (dM (Oper.looksAt ops ⟨d',op,ty,pos,af,some (j,b)⟩) 0 fr) j=some x->ou ops.toList fr j=some x:=by
     intro x hx;unfold ou at hx |-
     cases Jn:jc ops.toList j with
     |false=>grind
     |true =>
      rw[Jn]at hx
      cases hdt:(ru ops.toList j).dst with
      |none=>grind
      |some t =>
       rw[hdt]at hx;simp only at hx |-
       have Dx:∀(W:List Nat)(fr:am)(k t:Nat),jc (dM W k fr) t=jc fr t:=by
        intro W fr
        induction fr with
        |nil=>intro k t;rfl
        |cons x fr V=>intro k t;cases t with|zero=>rfl|succ t=>exact V (k+1) t
       have hgn:∀(W:List Nat)(fr:am)(k t:Nat) ,cJ (dM W k fr) t=cJ fr t\/cJ (dM W k fr) t=.U:=by
        intro W fr
        induction fr with
        |nil=>simp[cJ,dM]
        |cons x fr V =>
         intro k t
         cases t with
         |zero=>grind[cJ,dM]
         |succ t=>exact V (k+1) t
       grind
    grind
  refine⟨z,c,hi,h2',?_⟩
  have hp':∀p∈stay ops i r,YQ P ops p.1 p.2.1 p.2.2 Γ:=fun p hq=>N p (S p hq)
  cases c with
  |true =>
   intro B K β w l hI hF;have⟨v,hr,hv⟩:=T B K β w l hI (hF.mask 0)
   have QO:(execOp (ev l) z).run P w=.ok (.value v) w:=by have⟨d,op,ty,pos,af,gd⟩:=z;exact hr d ty pos af
   unfold DS;rw[QO];exact⟨K,β,g,Γ,cY.refl K,dO.refl β,hI,fun fr l hf=>hf.put _ hv,hp',H'⟩
  |false =>
   grind
 intro n
 induction n with
 |zero =>
  intro r q fr Γ _ hr F hy N H;refine⟨fun h=>ze3,fun j hj=>?_⟩
  by_cases A:j=i
  ·grind
  ·have:=ready_mono hj A;rw[H.1]at this;cases this
 |succ n V =>
  intro r q fr Γ C hr F hy N H;refine⟨fun h=>ze3,fun j hj=>?_⟩
  by_cases A:j=i
  ·subst A;grind
  ·have M:=H.2 j (ready_mono hj A);have⟨aaQ,J,G,abB⟩:=mem_ready.1 hj
   have aaW:∀e∈J.after,Region.binds .any e=true->e.on≠i:=fun e he hb heq=>by
    grind[mem_ready,Nat.lt_or_ge,Array.getElem?_eq_none]
   have hap:=C j J G A aaQ aaW;have⟨a1,a2,a3⟩:=Oper.apart_spec hap
   have hnw:waits ops j i=false:=by
    grind[waits]
   have S:stay ops j ((i,g,s)::r)=(i,g,s)::stay ops j r:=by
    grind[stay]
   rw[S]at M;have h2:=GI.comm hi G hap (fun cs b=>aa3 j J cs b G) (O F hy) M
   have hdj:me ops j=J.dst:=by simp[me,G]
   have E:∀k ok,ops[k]?=some ok->k≠i->(q.setIfInBounds j true).getD k true=false ->
     (∀e∈ok.after,Region.binds .any e=true->e.on≠i)->z.apart ops ok=true:=fun k ok hk hki hun FO=>by
    refine C k ok hk hki ?_ FO
    by_cases hjk:j=k
    ·grind
    ·rw[getD_set_ne true hjk]at hun;exact hun
   refine h2.mono fun gj L ⟨T,h4⟩=>⟨fun p N=>T p (ew _ N),?_⟩
   refine V (stay ops j r) (q.setIfInBounds j true) (bN fr (me ops j) gj) L E (ready_mono hr (Ne.symm A)) ?_ (T (i,g,s) (List.mem_cons_self)) (fun p N=>T p (ew _ N)) ?_
   ·grind[Rr]
   ·rw[Array.setIfInBounds_comm _ _ A]
    have R:bN (bN fr (me ops j) gj) z.dst g=bN (bN fr z.dst g) (me ops j) gj:=by
     rw[hdj]
     cases hdi:z.dst with
     |none=>rfl
     |some t =>
      cases hdj':J.dst with
      |none=>rfl
      |some u =>
       have FM:t≠u:=fun e=>a2 t hdi ze3
       have gen:∀(fr:am)(t u:Nat),t≠u->bU (bU fr u gj) t g=bU (bU fr t g) u gj:=by
        intro fr
        induction fr with
        |nil=>simp[bU]
        |cons x fr V =>
         intro t u h
         cases t with
         |zero=>cases u with|zero=>omega|succ u=>rfl
         |succ t=>cases u with|zero=>rfl|succ u=>grind[bU]
       grind[bN]
    rw[R];exact h4
inductive Ot where
 |nil
 |q (i:Nat) (r:Ot)
 |a (i:Nat) (r:Ot)
 |f (i:Nat) (r:Ot) (j:Nat) (s:Ot)
def Ot.len:Ot->Nat
 |.nil=>0
 |.q _ r=>r.len+1
 |.a _ r=>r.len+1
 |.f _ r _ _=>r.len+1
def tX(ops:Array Oper):Ot->Array Bool->Bool
 |.nil,v=>(Region.ready .any ops v).isEmpty
 |.q i r,v=>(Region.ready .any ops v).contains i&&Region.free .any ops v i&&tX ops r (v.setIfInBounds i true)
 |.a i r,v=>(Region.ready .any ops v==[i])&&tX ops r (v.setIfInBounds i true)
 |.f i r j s,v=>(Region.ready .any ops v==[i,j])&&tX ops r (v.setIfInBounds i true)&&tX ops s (v.setIfInBounds j true)&&(r.len==s.len)
def GO(P:Program)(ops:Array Oper)(Q:am->ap->Prop):Ot->lF->am->ap->Prop
 |.nil,_,fr,Γ=>Q fr Γ
 |.q i r,V,fr,Γ=>∃g,YQ P ops i g fr Γ/\GO P ops Q r ((i,g,fr)::V) (bN fr (me ops i) g) Γ
 |.a i r,V,fr,Γ=>GI P ops i (fun g v=>(∀p∈stay ops i V,YQ P ops p.1 p.2.1 p.2.2 v)/\GO P ops Q r (stay ops i V) (bN fr (me ops i) g) v) fr Γ
 |.f i r j s,V,fr,Γ=>GI P ops i (fun g v=>(∀p∈stay ops i V,YQ P ops p.1 p.2.1 p.2.2 v)/\GO P ops Q r (stay ops i V) (bN fr (me ops i) g) v) fr Γ/\GI P ops j (fun g v=>(∀p∈stay ops j V,YQ P ops p.1 p.2.1 p.2.2 v)/\GO P ops Q s (stay ops j V) (bN fr (me ops j) g) v) fr Γ
def GO.fork{ops:Array Oper}{Q:am->ap->Prop}{i j:Nat}{r s:Ot}{V:lF}{fr:am}{Γ:ap}(M:GO P ops Q (.a i r) V fr Γ)(v:GO P ops Q (.a j s) V fr Γ):GO P ops Q (.f i r j s) V fr Γ:=⟨M,v⟩
def GO.all{A:List Oper}{Q:am->ap->Prop}(u:Region.noSelect A.toArray=true):∀(R:Ot)(V:lF)(v:Array Bool)(fr:am)(Γ:ap),
  tX A.toArray R v=true->(∀p∈V,YQ P A.toArray p.1 p.2.1 p.2.2 Γ)->GO P A.toArray Q R V fr Γ->qm P A.toArray Q R.len V v fr Γ
 |.nil,V,v,fr,Γ,l,_,h=>⟨by simpa[tX]using l,h⟩
 |.q i r,V,v,fr,Γ,l,B,h=>by
  simp only[tX,aU]at l;have⟨⟨t,O⟩,l⟩:=l;have⟨g,L,h⟩:=h
  have b:i∈Region.ready .any A.toArray v:=by simpa using t
  have⟨_,o,E,_⟩:=mem_ready.1 b
  have N:me A.toArray i=o.dst:=by simp only[me,E];rfl
  rw[N]at h
  exact qm.first E (Region.noSelect_spec u) _ V v fr Γ (Region.free_spec E O) b rfl L B (GO.all u r _ _ _ _ l (fun p F=>by
   rcases ln F with rfl|F
   ·exact L
   ·exact B p F) h)
 |.a i r,V,v,fr,Γ,l,B,h=>by
  simp only[tX,aU,beq_iff_eq]at l;have⟨t,l⟩:=l;refine⟨fun C=>by rw[C]at t;simp at t,fun j J=>?_⟩;rw[t,List.mem_singleton]at J;subst J
  exact GI.mono h fun g z ⟨M,w⟩=>⟨M,GO.all u r _ _ _ _ l M w⟩
 |.f i r j s,V,v,fr,Γ,l,B,h=>by
  simp only[tX,aU,beq_iff_eq]at l;have⟨⟨⟨t,G⟩,H⟩,T⟩:=l;refine⟨fun C=>by rw[C]at t;simp at t,fun k n=>?_⟩;rw[t]at n;simp only[List.mem_cons,List.not_mem_nil,or_false]at n
  rcases n with rfl|rfl
  ·exact GI.mono h.1 fun g z ⟨M,w⟩=>⟨M,GO.all u r _ _ _ _ G M w⟩
  ·exact GI.mono h.2 fun g z ⟨M,w⟩=>⟨M,by
    have:=GO.all u s _ _ _ _ H M w
    rw[<-T]at this;exact this⟩
theorem GW.draw{m id:Nat}{A:List Oper}{Q:dU}{fr:am}{Γ:ap}(R:Ot)(G:P.follows .mixedOrders=true)
  (b:(Region.noSelect A.toArray&&(R.len==A.length)&&tX A.toArray R (Array.replicate A.toArray.size false))=true)
  (h:GO P A.toArray (Q .normal) R [] fr Γ):GW P m (.region id A.toArray true) Q fr Γ:=fun B K n w l e N S=>by
 simp only[aU,beq_iff_eq]at b;have⟨⟨q,T⟩,k⟩:=b;refine wp_region_any G ?_;have M:=GO.all q R [] _ fr Γ k (fun p C=>by cases C) h;rw[T]at M;have v:=qm.sound (Q':=Q) e (fun fr Γ h=>h) _ _ _ _ _ K n w.drew l M (N.same (Ext.drew w)) S
 simp_all
end
def kE:List Oper->Nat->Option Oper
 |[],_=>none
 |o::_,0=>some o
 |_::r,n+1=>kE r n
def rh{ol:List Oper}{i:Nat}{o:Oper}(h:kE ol i=some o):ol.toArray[i]?=some o:=by
 have:∀(ol:List Oper)(i:Nat),kE ol i=ol[i]?:=by
  intro ol
  induction ol with
  |nil=>intro i;rfl
  |cons x ol O=>intro i;cases i with|zero=>rfl|succ i=>grind[kE]
 grind
section
variable{P:Program}{Q:am->ap->Prop}{ol:List Oper}{r:Ot}{cV:lF}{fr:am}{Γ:ap}{i:Nat}{g:GV}{d:Option Tmp}{op:Op}{ty:TypeId}{pos:String}{af:Array Edge}{gd:Nat × Bool}
def vw{o:Oper}(h:kE ol i=some o):me ol.toArray i=o.dst:=by simp only[me,rh h];rfl
theorem GO.more{t:Array Oper}:∀(r:Ot)(cV u:lF)(fr:am)(Γ:ap),(∀p∈u,p∈cV\/∀Γ,YQ P t p.1 p.2.1 p.2.2 Γ)->GO P t Q r cV fr Γ->GO P t Q r u fr Γ
 |.nil,_,_,_,_,_,h=>h
 |.q i r,cV,u,fr,Γ,z,⟨g,M,w⟩=>⟨g,M,GO.more r _ _ _ _ (fun p A=>by
   grind) w⟩
 |.a i r,cV,u,fr,Γ,z,h=>GI.mono h fun g v ⟨M,w⟩=>by
   have C:∀p∈stay t i u,p∈stay t i cV\/∀Γ,YQ P t p.1 p.2.1 p.2.2 Γ:=fun p A=>by
    grind[stay]
   exact⟨fun p A=>(C p A).elim (M p) (fun h=>h v),GO.more r _ _ _ _ C w⟩
 |.f i r j s,cV,u,fr,Γ,z,h=>by
   have C:∀k,∀p∈stay t k u,p∈stay t k cV\/∀Γ,YQ P t p.1 p.2.1 p.2.2 Γ:=fun k p A=>by
    grind[stay]
   exact⟨GI.mono h.1 fun g v ⟨M,w⟩=>⟨fun p A=>(C i p A).elim (M p) (fun h=>h v),GO.more r _ _ _ _ (C i) w⟩,GI.mono h.2 fun g v ⟨M,w⟩=>⟨fun p A=>(C j p A).elim (M p) (fun h=>h v),GO.more s _ _ _ _ (C j) w⟩⟩
theorem GO.skip{s:Array Oper}{x:Nat × GV × am}(hx:∀Γ,YQ P s x.1 x.2.1 x.2.2 Γ)(h:GO P s Q r cV fr Γ):GO P s Q r (x::cV) fr Γ:=by
 refine GO.more r cV _ fr Γ (fun p A=>?_) h
 grind
def GO.yq{o:Oper}(hi:kE ol i=some o)(J:YQ P ol.toArray i g fr Γ)(h:GO P ol.toArray Q r ((i,g,fr)::cV) (bN fr o.dst g) Γ):GO P ol.toArray Q (.q i r) cV fr Γ :=
 ⟨g,J,by rw[vw hi];exact h⟩
def GO.yp{o:Oper}(hi:kE ol i=some o)(J:∀Γ,YQ P ol.toArray i g fr Γ)(h:GO P ol.toArray Q r cV (bN fr o.dst g) Γ):GO P ol.toArray Q (.q i r) cV fr Γ :=
 GO.yq hi (J Γ) (GO.skip J h)
theorem pR{c:Bool}{s:List Oper}(T:ou s fr gd.1=some (some c))(k:c=gd.2):gG s fr (some gd)=some true:=by
 grind[gG]
def qA{c:Bool}{s:List Oper}(T:ou s fr gd.1=some (some c))(k:c=!gd.2):gG s fr (some gd)=some false:=by
 have⟨j,b⟩:=gd;simp only at T k;simp only[gG,T,k];simp
theorem WD{s:List Oper}(T:ou s fr gd.1=some none):gG s fr (some gd)=some false:=by
 grind[gG]
def YQ.t{o:Oper}(hi:kE ol i=some o)(hg:gG ol (dM (o.looksAt ol.toArray) 0 fr) o.guard=some true)(J:YG P o.op (dM (o.looksAt ol.toArray) 0 fr) Γ g):YQ P ol.toArray i g fr Γ:=⟨o,true,rh hi,hg,J⟩
def YQ.f{o:Oper}(hi:kE ol i=some o)(hg:gG ol (dM (o.looksAt ol.toArray) 0 fr) o.guard=some false):YQ P ol.toArray i (.v undef) fr Γ:=⟨o,false,rh hi,hg,rfl⟩
def OQ(hi:kE ol i=some ⟨d,op,ty,pos,af,none⟩)(J:YG P op (dM (Oper.looksAt ol.toArray ⟨d,op,ty,pos,af,none⟩) 0 fr) Γ g)(h:GO P ol.toArray Q r ((i,g,fr)::cV) (bN fr d g) Γ):GO P ol.toArray Q (.q i r) cV fr Γ :=
 GO.yq hi (YQ.t hi rfl J) h
def OP(hi:kE ol i=some ⟨d,op,ty,pos,af,none⟩)(J:∀Γ,YG P op (dM (Oper.looksAt ol.toArray ⟨d,op,ty,pos,af,none⟩) 0 fr) Γ g)(h:GO P ol.toArray Q r cV (bN fr d g) Γ):GO P ol.toArray Q (.q i r) cV fr Γ :=
 GO.yp hi (fun Γ=>YQ.t hi rfl (J Γ)) h
def OQt{c:Bool}(hi:kE ol i=some ⟨d,op,ty,pos,af,some gd⟩)(T:ou ol (dM (Oper.looksAt ol.toArray ⟨d,op,ty,pos,af,some gd⟩) 0 fr) gd.1=some (some c))(k:c=gd.2)(J:YG P op (dM (Oper.looksAt ol.toArray ⟨d,op,ty,pos,af,some gd⟩) 0 fr) Γ g)
  (h:GO P ol.toArray Q r ((i,g,fr)::cV) (bN fr d g) Γ):GO P ol.toArray Q (.q i r) cV fr Γ :=
 GO.yq hi (YQ.t hi (pR T k) J) h
def Z3{c:Bool}(hi:kE ol i=some ⟨d,op,ty,pos,af,some gd⟩)(T:ou ol (dM (Oper.looksAt ol.toArray ⟨d,op,ty,pos,af,some gd⟩) 0 fr) gd.1=some (some c))(k:c=gd.2)(J:∀Γ,YG P op (dM (Oper.looksAt ol.toArray ⟨d,op,ty,pos,af,some gd⟩) 0 fr) Γ g)
  (h:GO P ol.toArray Q r cV (bN fr d g) Γ):GO P ol.toArray Q (.q i r) cV fr Γ :=
 GO.yp hi (fun Γ=>YQ.t hi (pR T k) (J Γ)) h
def ONf{c:Bool}(hi:kE ol i=some ⟨d,op,ty,pos,af,some gd⟩)(T:ou ol (dM (Oper.looksAt ol.toArray ⟨d,op,ty,pos,af,some gd⟩) 0 fr) gd.1=some (some c))(k:c=!gd.2)(h:GO P ol.toArray Q r cV (bN fr d (.v undef)) Γ):GO P ol.toArray Q (.q i r) cV fr Γ :=
 GO.yp hi (fun Γ=>YQ.f hi (qA T k)) h
def ONu(hi:kE ol i=some ⟨d,op,ty,pos,af,some gd⟩)(T:ou ol (dM (Oper.looksAt ol.toArray ⟨d,op,ty,pos,af,some gd⟩) 0 fr) gd.1=some none)(h:GO P ol.toArray Q r cV (bN fr d (.v undef)) Γ):GO P ol.toArray Q (.q i r) cV fr Γ :=
 GO.yp hi (fun Γ=>YQ.f hi (WD T)) h
theorem JO:∀(fr:am)(ts:List Nat)(k t:Nat),k+t∈ts->cJ (dM ts k fr) t=cJ fr t
 |[],_,_,_,_=>rfl
 |g::fr,ts,k,0,h=>by
  grind[cJ,dM]
 |g::fr,ts,k,t+1,h=>by
  simp only[dM,cJ];exact JO fr ts (k+1) t ze3
theorem vN{o:Oper}{s:Array Oper}{x:Operand}(h:x∈o.op.operands.toList):a8 (dM (o.looksAt s) 0 fr) x=a8 fr x:=by
 cases x with
 |tmp t =>
  refine JO fr _ 0 t ?_
  grind[Oper.looksAt]
 |_=>rfl
section
variable{x:Operand}
theorem OPm(hi:kE ol i=some ⟨d,.move x,ty,pos,af,none⟩)(h:GO P ol.toArray Q r cV (bN fr d (a8 fr x)) Γ):GO P ol.toArray Q (.q i r) cV fr Γ :=
 OP hi (fun Γ=>by
  have:=YG.mv (P:=P) (x:=x) (Γ:=Γ) (fr:=dM (Oper.looksAt ol.toArray ⟨d,.move x,ty,pos,af,none⟩) 0 fr)
  grind[vN,Op.operands]) h
theorem OPa(hi:kE ol i=some ⟨d,.assign x,ty,pos,af,none⟩)(h:GO P ol.toArray Q r cV (bN fr d (a8 fr x)) Γ):GO P ol.toArray Q (.q i r) cV fr Γ :=
 OP hi (fun Γ=>by
  have:=YG.lB (P:=P) (x:=x) (Γ:=Γ) (fr:=dM (Oper.looksAt ol.toArray ⟨d,.assign x,ty,pos,af,none⟩) 0 fr)
  grind[vN,Op.operands]) h
theorem aad{c:Bool}(hi:kE ol i=some ⟨d,.move x,ty,pos,af,some gd⟩)(T:ou ol (dM (Oper.looksAt ol.toArray ⟨d,.move x,ty,pos,af,some gd⟩) 0 fr) gd.1=some (some c))(k:c=gd.2)(h:GO P ol.toArray Q r cV (bN fr d (a8 fr x)) Γ):GO P ol.toArray Q (.q i r) cV fr Γ :=
 Z3 hi T k (fun Γ=>by
  have:=YG.mv (P:=P) (x:=x) (Γ:=Γ) (fr:=dM (Oper.looksAt ol.toArray ⟨d,.move x,ty,pos,af,some gd⟩) 0 fr)
  grind[vN,Op.operands]) h
end
section
variable{c a b:Operand}{t:Bool}
theorem aac(hi:kE ol i=some ⟨d,.pick c a b,ty,pos,af,none⟩)(k:a8 (dM (Oper.looksAt ol.toArray ⟨d,.pick c a b,ty,pos,af,none⟩) 0 fr) c=.v (.bool t))(o:t=true)(h:GO P ol.toArray Q r cV (bN fr d (a8 fr a)) Γ):GO P ol.toArray Q (.q i r) cV fr Γ :=
 OP hi (fun Γ=>by
  have:=YG.Tt (P:=P) (Γ:=Γ) (a:=a) (b:=b) k o
  grind[vN,Op.operands]) h
theorem aab(hi:kE ol i=some ⟨d,.pick c a b,ty,pos,af,none⟩)(k:a8 (dM (Oper.looksAt ol.toArray ⟨d,.pick c a b,ty,pos,af,none⟩) 0 fr) c=.v (.bool t))(o:t=false)(h:GO P ol.toArray Q r cV (bN fr d (a8 fr b)) Γ):GO P ol.toArray Q (.q i r) cV fr Γ :=
 OP hi (fun Γ=>by
  have:=YG.Ts (P:=P) (Γ:=Γ) (a:=a) (b:=b) k o
  grind[vN,Op.operands]) h
end
inductive dr(P:Program)(ops:Array Oper)(i:Nat)(bE:ap):lF->lF->Prop
 |n:dr P ops i bE [] []
 |w {j:Nat} {g:GV} {NA:am} {cV Bi:lF} (hw:waits ops i j=true) (h:dr P ops i bE cV Bi):dr P ops i bE ((j,g,NA)::cV) Bi
 |y {j:Nat} {g:GV} {NA:am} {cV Bi:lF} (hy:YQ P ops j g NA bE) (h:dr P ops i bE cV Bi):dr P ops i bE ((j,g,NA)::cV) ((j,g,NA)::Bi)
theorem dr.spec{s:Array Oper}{bE:ap}{u:lF}(h:dr P s i bE cV u):(∀p∈stay s i cV,YQ P s p.1 p.2.1 p.2.2 bE)/\∀p∈stay s i cV,p∈u:=by
 induction h with
 |n=>simp[lF,stay,YQ]
 |w R h O =>
  grind[stay]
 |y J h O =>
  grind[stay]
def Wi(fr:am):Option Tmp->Bool
 |none=>true
 |some t=>jc fr t
def dP(P:Program)(Q:am->ap->Prop)(ol:List Oper)(i:Nat)(r:Ot)(cV:lF)(fr:am)(d:Option Tmp)(de:am)(bE:ap):Prop :=
 ∃g u,de=bN fr d g/\dr P ol.toArray i bE cV u/\GO P ol.toArray Q r u (bN fr d g) bE
theorem GA.of{o:Oper}{E:GV->ap->Prop}{R:am->ap->Prop}{z:Array Oper}(hg:o.guard=none)(hd:Wi fr o.dst=true)(N:∀de bE,R de bE->∃g,de=bN fr o.dst g/\E g bE)(h:GL P Γ.length z (bh R (fun _ _ _=>False)) [o] fr Γ):GA P o E fr Γ:=fun B K J w l H G=>by
 have j:=h (cur K J Γ w) K J w l rfl H.here G;have⟨d,op,ty,pos,af,gd⟩:=o;simp only at hg;subst hg;simp only at j hd;unfold WL wpList at j;rw[ae zfy]at j
 rcases j with j|⟨_,T,w0,k⟩
 ·rw[<-pP];refine YF j (fun c a A k=>?_) (fun a A k=>?_) ?_ ?_
  ·have⟨m,_,_,_,_,_,_,_,e⟩:=k;exact e
  ·have⟨m,_,_,_,_,_,_,_,e⟩:=k;exact e
  ·rintro v A⟨m,s,L,C,de,bE,b,q,e⟩;obtain⟨g,rfl,O⟩:=N de bE e;rw[qa]at s
   have u:put l d v=m:=by
    simp_all[congrArg,act]
   subst u;refine⟨L,C,g,bE,b.kle,b.ble,H.O9 b,fun M l2 F=>?_,O⟩
   cases d with
   |none=>exact F
   |some t =>
    refine F.eV t ?_;have hv:=q.nth t;have W:nth (put l (some t) v) t=v:=ti (nK G hd) v
    have h4:cJ (bN fr (some t) g) t=g:=by
     have n:∀(fr:am)(t:Nat),jc fr t=true->cJ (bU fr t g) t=g:=by
      intro fr
      induction fr with
      |nil=>grind[jc]
      |cons x fr S=>intro t h;cases t with|zero=>rfl|succ t=>exact S t h
     exact n fr t hd
    grind
  ·rintro V A⟨m,s,_⟩;have:=congrArg (fun a:Act=>a.defers) s
   cases d<;>simp[act,Act.put]at this
 ·have⟨m,_,_,_,_,_,_,_,e⟩:=k;exact e.elim
theorem dP.kt{de:am}{bE:ap}(h:dP P Q ol i r cV fr d de bE):∃g,de=bN fr d g/\((∀p∈stay ol.toArray i cV,YQ P ol.toArray p.1 p.2.1 p.2.2 bE)/\GO P ol.toArray Q r (stay ol.toArray i cV) (bN fr d g) bE):=by
 have⟨g,u,M,v,w⟩:=h;have⟨N,S⟩:=v.spec
 grind[GO.more]
def OA(hi:kE ol i=some ⟨d,op,ty,pos,af,none⟩)(hd:Wi fr d=true)(h:GL P Γ.length ol.toArray (bh (dP P Q ol i r cV fr d) (fun _ _ _=>False)) [⟨d,op,ty,pos,af,none⟩] fr Γ):GO P ol.toArray Q (.a i r) cV fr Γ:=by
 refine⟨_,true,rh hi,rfl,?_⟩
 exact(GA.of (o:=⟨d,op,ty,pos,af,none⟩) rfl hd (fun B v m=>dP.kt m) h).mono fun g v ⟨M,w⟩=>⟨M,by rw[vw hi];exact w⟩
def Sl{c:Bool}(hi:kE ol i=some ⟨d,op,ty,pos,af,some gd⟩)(hd:Wi fr d=true)(T:ou ol fr gd.1=some (some c))(k:c=gd.2)(h:GL P Γ.length ol.toArray (bh (dP P Q ol i r cV fr d) (fun _ _ _=>False)) [⟨d,op,ty,pos,af,none⟩] fr Γ):GO P ol.toArray Q (.a i r) cV fr Γ:=by
 refine⟨_,true,rh hi,pR T k,?_⟩
 have:=(GA.of (o:=⟨d,op,ty,pos,af,none⟩) rfl hd (fun B v m=>dP.kt m) h).mono (ET:=fun g v=>(∀p∈stay ol.toArray i cV,YQ P ol.toArray p.1 p.2.1 p.2.2 v)/\GO P ol.toArray Q r (stay ol.toArray i cV) (bN fr (me ol.toArray i) g) v) fun g v ⟨M,w⟩=>⟨M,by rw[vw hi];exact w⟩
 exact this
def OAf{c:Bool}{u:lF}(hi:kE ol i=some ⟨d,op,ty,pos,af,some gd⟩)(T:ou ol fr gd.1=some (some c))(k:c=!gd.2)(q:dr P ol.toArray i Γ cV u)(h:GO P ol.toArray Q r u (bN fr d (.v undef)) Γ):GO P ol.toArray Q (.a i r) cV fr Γ :=
 ⟨_,false,rh hi,qA T k,q.spec.1,by rw[vw hi];exact GO.more r _ _ _ _ (fun p A=>.inl (q.spec.2 p A)) h⟩
def OAu{u:lF}(hi:kE ol i=some ⟨d,op,ty,pos,af,some gd⟩)(T:ou ol fr gd.1=some none)(q:dr P ol.toArray i Γ cV u)(h:GO P ol.toArray Q r u (bN fr d (.v undef)) Γ):GO P ol.toArray Q (.a i r) cV fr Γ :=
 ⟨_,false,rh hi,WD T,q.spec.1,by rw[vw hi];exact GO.more r _ _ _ _ (fun p A=>.inl (q.spec.2 p A)) h⟩
theorem GO.nil(h:Q fr Γ):GO P ol.toArray Q .nil cV fr Γ:=h
def dP.mk{u:lF}(q:dr P ol.toArray i Γ cV u){T:am}(h:GO P ol.toArray Q r u (bN T d g) Γ):dP P Q ol i r cV T d (bN T d g) Γ:=⟨g,u,rfl,q,h⟩
section
variable{s:Array Oper}{de:am}
def jY{bE:ap}(M:fr=de)(v:Γ=bE)(h:GO P s Q r cV de bE):GO P s Q r cV fr Γ:=by subst M;subst v;exact h
def Z2(M:fr=de)(h:GO P s Q r cV de Γ):GO P s Q r cV fr Γ:=by subst M;exact h
end
end
def GW.range{P:Program}{m:Nat}{Q:dU}{fr:am}{Γ:ap}{B C r1 r2:Nat}{l:Code}{u j tn b:Tmp}{T1 T2 T3 H J L M:TypeId}{p1 W p3:String}{a1 N O:Array Edge}(n:Nat)(ab5:Nat->am->ap->Prop)
  (h0:zc m (ab5 0) fr Γ)(hn:n<=1099511627776)
  (hI:∀k fr Γ,ab5 k fr Γ->cJ fr j=.v (ii k)/\cJ fr tn=.v (ii n)/\jc fr u=true)
  (o:∀k fr Γ,k<n->ab5 k fr Γ->GW P m l (bn C (bh (fun de bE=>cJ de j=.v (ii k)/\jc de b=true/\zc m (ab5 (k+1)) (bU (bU de b (.v (ii ((k+1:Nat):Int)))) j (.v (ii ((k+1:Nat):Int)))) bE) (bn B Q))) (bU fr u (.v (.bool true))) Γ)
  (S:∀fr Γ,ab5 n fr Γ->Q .normal (bU fr u (.v (.bool false))) Γ) :
  GW P m (.loop (.seq (.region r1 [(⟨some u,.binOp .lss T1 (.tmp j) (.tmp tn) T2,T3,p1,a1,none⟩:Oper)].toArray false) (.seq (.cond (.tmp u) .skip (.exit B))
   (.seq (.block C l) (.region r2 [(⟨some b,.binOp .add H (.tmp j) (.const (.int .i64 1)) J,L,W,N,none⟩:Oper),⟨some j,.move (.tmp b),M,p3,O,none⟩].toArray false))))) (bn B Q) fr Γ:=by
 have s:∀(fr:am)(t:Nat)(g:GV),jc fr t=true->cJ (bU fr t g) t=g:=by
  intro fr
  induction fr with
  |nil=>grind[jc]
  |cons x fr ih=>intro t g h;cases t with|zero=>rfl|succ t=>exact ih t g h
 refine GW.loop (fun k:Nat=>n-k) (fun k fr Γ=>k<=n/\ab5 k fr Γ) 0 ?_ ?_
 ·have⟨de,bE,F,h⟩:=h0;exact⟨de,bE,F,bg _,h⟩
 rintro k fr Γ⟨hk,V⟩;have⟨h1,h2,R⟩:=hI k fr Γ V;refine GW.seq (GW.region (GL.q (YG.go (v:=.bool (decide ((k:Int)<(n:Int)))) ?_) (GL.nil (bl ?_))))
 ·simp only[WK,Xw.go,a8,h1,h2,Cg,EB,ii,LV,Lh]
 by_cases w:k<n
 ·have E:decide ((k:Int)<(n:Int))=true:=by grind
  simp only[bN,E];refine GW.seq (Mr (s fr u _ R) rfl (GW.skip (bl (GW.seq (GW.block ?_)))));refine GW.mono (o k fr Γ w V) ?_;intro e de bE c;have z:∀de bE,(cJ de j=.v (ii k)/\jc de b=true/\zc m (ab5 (k+1)) (bU (bU de b (.v (ii ((k+1:Nat):Int)))) j (.v (ii ((k+1:Nat):Int)))) bE) ->
    GW P m (.region r2 [(⟨some b,.binOp .add H (.tmp j) (.const (.int .i64 1)) J,L,W,N,none⟩:Oper),⟨some j,.move (.tmp b),M,p3,O,none⟩].toArray false) (bh (fun de bE=>∃y:Nat,zc m (fun fr Γ=>y<=n/\ab5 y fr Γ) de bE/\n-y<n-k) (bn B Q)) de bE:=by
   rintro de bE⟨h5,h6,A,G,F,h7⟩;refine GW.region (GL.q (YG.j0 (a:=k) h5 rfl ze4) (GL.q YG.mv (GL.nil (bl ⟨k+1,⟨A,G,?_,w,h7⟩,by omega⟩))));have h8:a8 (bU de b (.v (ii ((k+1:Nat):Int)))) (.tmp b)=.v (ii ((k+1:Nat):Int)):=s de b _ h6;simp only[bN,h8];exact F
  cases e with
  |normal=>exact z de bE c
  |exit id =>
   simp only[bn]at c |-;split<;>rename_i T
   ·rw[ae T]at c;exact z de bE c
   ·rw[D T]at c;exact c
  |goto _=>exact c
  |ret=>exact c
  |panic _=>exact c
  |outgrown=>exact c
 ·have xP:k=n:=by omega
  have E:decide ((k:Int)<(n:Int))=false:=by grind
  simp only[bN,E];refine GW.seq (Mq (s fr u _ R) rfl (GW.exit (FF (FF (Jg ?_)))))
  grind
def lA(g W:GV):Prop:=∀K l x,Rel K l x g->Rel K l x W
def ku(gs q:am):Prop:=∀K l i,bA K l i gs->bA K l i q
theorem lA.refl{g:GV}:lA g g:=fun _ _ _ h=>h
def lA.U{g:GV}:lA g .U:=fun _ _ _ _=>.U _
theorem lA.nil{k:Nat}:lA (.v (.slice none 0 0)) (.sl k []):=fun K l x h=>by
 rw[Rel.eP h];exact .sl0 _ _ _
theorem ku.nil:ku [] []:=fun _ _ _ h=>h
theorem ku.refl{gs:am}:ku gs gs:=fun _ _ _ h=>h
def ku.cons{g h:GV}{gs q:am}(M:lA g h)(w:ku gs q):ku (g::gs) (h::q):=fun K l i T=>by
 cases i with
 |nil=>grind
 |cons v i=>have⟨a,b⟩:=T.nQ;exact .cons (M K l v a) (w K l i b)
def lA.agg{gs q:am}(h:ku gs q):lA (.agg gs) (.agg q):=fun K l x hx=>by
 cases hx with
 |agg i _ T L=>have⟨a,b⟩:=h K l i ⟨T,L⟩;exact .agg i q a b
def lA.tup{gs q:am}(h:ku gs q):lA (.tup gs) (.tup q):=fun K l x hx=>by
 cases hx with
 |tup i _ T L=>have⟨a,b⟩:=h K l i ⟨T,L⟩;exact .tup i q a b
inductive VQ:am->am->Prop
 |nil:VQ [] []
 |cons {f g:GV} {fs gs:am} (h:lA f g) (t:VQ fs gs):VQ (f::fs) (g::gs)
section
variable{P:Program}{m:Nat}{Q:dU}{fr:am}{Γ:ap}{ops:Array Oper}{rest:List Oper}{d:Option Tmp}{op:Op}{ty:TypeId}{pos:String}{af:Array Edge}
theorem Wk.cells(i:Nat){E:TypeId}{cs ds:am}(hi:Γ[i]?=some (.box E cs))(h:ku cs ds):Wk m fr Γ fr (oset Γ i (.box E ds)):=fun B K n w l _ N S=>by
 rw[bS];refine⟨K,n,⟨N.ext,N.kle,N.ble,N.loc,N.fz,fun j x G=>?_,fun j G=>N.out j ze3,N.dis,N.own,N.kn,N.tab⟩,S⟩;rw[ik]at G;split at G
 ·rename_i L;split at G
  ·cases G;subst L
   have⟨b,k,M,v,z,O⟩:=N.ob i _ hi;exact⟨b,k,M,v,h K n k z,O⟩
  grind
 ·exact N.ob j x G
def GL.K8{f:FuncId}[hf:eI P f](be:List Nat){args:List Operand}{C:Array TypeId}{gs:am}{o:ap}{R:GV->ap->Prop}(k:GC P f gs o R)(ha:ku (args.map (a8 fr)) (mP (cS be Γ.length) gs))(b:kj be Γ.length=true)
  (G:seen (cS be Γ.length) Γ be o)(h:∀g bE,R g bE->be.length<=bE.length/\GL P m ops Q rest (bN fr d (eJ (cS be Γ.length) g)) (fB Γ be (bE.map (Ob.eJ (cS be Γ.length))))) :
  GL P m ops Q (⟨d,.call ⟨.value (.func f),args.toArray,C⟩,ty,pos,af,none⟩::rest) fr Γ :=
 GL.calls (vs:=fun l=>args.map (ev l)) (fun K n w l S=>⟨ha K n _ (S.args args),by simp[execOp,resolve,ev,Deferred.ofValue,invoke,oG]⟩) b G k h
theorem GL.Sv{f:FuncId}[hf:eI P f](be:List Nat){args:List Operand}{C:Array TypeId}{gs:am}{o V:ap}{g:GV}(k:GF P f gs o g V)(ha:ku (args.map (a8 fr)) (mP (cS be Γ.length) gs))(b:kj be Γ.length=true)
  (G:seen (cS be Γ.length) Γ be o)(T:Nat.ble be.length V.length=true)(h:GL P m ops Q rest (bN fr d (eJ (cS be Γ.length) g)) (fB Γ be (V.map (Ob.eJ (cS be Γ.length))))) :
  GL P m ops Q (⟨d,.call ⟨.value (.func f),args.toArray,C⟩,ty,pos,af,none⟩::rest) fr Γ :=
 GL.K8 be k ha b G fun W bE ⟨M,v⟩=>by simp_all
end
section
variable{P:Program}{fr:am}{Γ:ap}{g:GV}
def K.bin{o:BinOp}{t b:TypeId}{x y:Operand}(h:YG P (.binOp o t x y b) fr Γ g):YG P (.binOp o t x y b) fr Γ g:=h
theorem K.ld{t:TypeId}{x:Operand}(h:YG P (.load t x) fr Γ g):YG P (.load t x) fr Γ g:=h
def K.Wx{t:TypeId}{x:Operand}{i:Nat}(h:YG P (.fieldAddr t x i) fr Γ g):YG P (.fieldAddr t x i) fr Γ g:=h
def K.len{t:TypeId}{x:Operand}(h:YG P (.call ⟨.builtin .len,#[x],#[t]⟩) fr Γ g):YG P (.call ⟨.builtin .len,#[x],#[t]⟩) fr Γ g:=h
def K.nck{x:Operand}(h:YG P (.nilCheck x) fr Γ g):YG P (.nilCheck x) fr Γ g:=h
def K.idx{t:TypeId}{x y:Operand}(h:YG P (.indexAddr t x y) fr Γ g):YG P (.indexAddr t x y) fr Γ g:=h
theorem K.pick{a b c:Operand}(h:YG P (.pick a b c) fr Γ g):YG P (.pick a b c) fr Γ g:=h
def K.oI{t:TypeId}{x:Operand}{a b c:Option Operand}(h:YG P (.slice t x a b c) fr Γ g):YG P (.slice t x a b c) fr Γ g:=h
theorem K.Cp{f:Fn}{a b:Array Operand}(h:YG P (.makeFunc f a b) fr Γ g):YG P (.makeFunc f a b) fr Γ g:=h
end
section
variable{P:Program}{fn:Func}{m:Nat}{fr:am}{Γ bE:ap}{e:Exit}{g:GV}
def AN{R:GV->ap->Prop}(h:tN P fn m (fun x J=>∃y,lA x y/\R y J) e fr Γ):tN P fn m R e fr Γ :=
 ⟨h.1,fun B K n w l G O T=>by
  have⟨v,i,E,x,J,M,z,A,y,N,S⟩:=h.2 B K n w l G O T
  exact⟨v,i,E,y,J,M,z,N _ _ _ A,S⟩⟩
end
section
variable{P:Program}{m:Nat}{Q:dU}{fr:am}{Γ:ap}{ops:Array Oper}{rest:List Oper}{d:Option Tmp}{op:Op}{ty:TypeId}{pos:String}{af:Array Edge}
def GW.join{c y:Code}(K:am->ap->Prop)(M:GW P m c (bh (zc m K) Q) fr Γ)(v:∀fr Γ,K fr Γ->GW P m y Q fr Γ):GW P m c (bh (GW P m y Q) Q) fr Γ:=by
 refine M.mono fun e fr Γ n=>?_
 cases e with
 |normal=>have⟨B,w,R,k⟩:=n;exact GW.wk R (v _ _ k)
 |_=>exact n
def YG.cz{x y:Operand}{t e:TypeId}{k:Nat}[z:lN P t e k]{rows:List am}{A:IntKind}{n:Int}{i:Nat}{r:am}(hx:a8 fr x=.sl k rows)(J:a8 fr y=.v (.int A n))(s:rows[i]?=some r)(hi:n=(i:Int)):YG P (.indexAddr t x y) fr Γ (.box r 0):=by
 subst hi;exact YG.ig hx J s
def ny:List am->Bool
 |[]=>true
 |r::rs=>oa r&&ny rs
theorem Bg{rows:List am}(h:ny rows=true):oa rows.flatten=true:=by
 induction rows with
 |nil=>rfl
 |cons r rs O =>
  simp only[ny,aU]at h
  have e:∀(a b:am),oa a=true->oa b=true->oa (a++b)=true:=by
   intro a
   induction a with
   |nil=>simp
   |cons x a q =>
    grind[oa]
  grind
theorem GL.app{s x:Operand}{t e k N:Nat}[hT:nF P t e k N]{i n fz:Nat}{rows news:List am}(hx:a8 fr x=.sl k news)(hs:a8 fr s=.vec i n)(W:Γ[i]?=some (.vec e k fz rows))(hn:rows.length=n)(h1:ny news=true)(S:news.isEmpty=false)
  (hb:n+news.length<=9223372036854775807/\(n+news.length)*N<=140737488355328)
  (h:GL P m ops Q rest (bN fr d (.vec i (n+news.length))) (oset Γ i (.vec e k fz (rows++news)))) :
  GL P m ops Q (⟨d,.call ⟨.builtin .append,#[s,x],#[t,t]⟩,ty,pos,af,none⟩::rest) fr Γ:=fun B K β w l hm hI hF=>by
 subst hn
 have S:news≠[]:=by grind
 have⟨h0,xs,o1,o2,o3,o4,o5,o6⟩:=hI.ob i _ W;have J:=hF.ev s;rw[hs]at J
 have Jw:ev l s=h0:=by
  generalize hv:ev l s=v at J
  cases J with
  |vec _ _ a c hh =>
   grind
 have M:=hF.ev x;rw[hx]at M;generalize N4:ev l x=v at M
 cases M with
 |sl0 a c k=>grind
 |sl b o c _ _ hr _ =>
  have G:fM k news:=fun r NU=>by
   have⟨j,z⟩:=List.mem_iff_getElem?.1 NU;refine⟨(hr j r z).1,fun g E=>?_⟩;have⟨q,hq⟩:=List.mem_iff_getElem?.1 E;exact(hI.fz _ _ _ ((hr j r z).2 q g hq)).1
  have C:∀(rows:List am)(o:Nat),(∀(j:Nat)r,rows[j]?=some r->r.length=k/\∀(q:Nat)g,r[q]?=some g->K b (o+j*k+q)=some g)->∀(q:Nat)g,rows.flatten[q]?=some g->K b (o+q)=some g:=by
   intro rows
   induction rows with
   |nil=>simp
   |cons r rows ih =>
    intro o h q g E;rw[flatten_cons]at E;have hl:=(h 0 r rfl).1
    by_cases hq:q<r.length
    ·rw[l7 hq]at E;have:=(h 0 r rfl).2 q g E
     grind
    ·rw[lz ze4,hl]at E
     have:=ih (o+k) (fun j r' z=>by
      have:=h (j+1) r' ze3
      grind) (q-k) g E
     grind
  obtain⟨us,L,N0⟩:=wC (K:=K) (β:=β) (H:=w.heap) (b:=b) news.flatten o (fun j g z=>by
   obtain⟨hp,u,hu,T⟩:=hI.fz _ _ _ (C news o (fun j r z=>hr j r z) j g z)
   exact⟨u,hu,T.pc hp⟩)
  have S7:us.length=news.length*k:=by
   rw[L.1,List.length_flatten]
   have:∀(rows:List am),fM k rows->(rows.map List.length).sum=rows.length*k:=by
    intro rows
    induction rows with
    |nil=>simp
    |cons r rows ih =>
     grind[fM]
   grind
  refine WL.app (base:=0) (v:=h0) (n:=rows.length) (m:=news.length) (xs:=xs) (news:=us) Jw o2 N4 S7 (fun j u z=>by grind[fY]) (L.lI (Bg h1)) hb.1 hb.2 (bg _) ?_;intro v' w' F R Jl xR
  obtain⟨K',hK,N6,O⟩:=hI.grow W o1 ⟨o2,o3⟩ (news:=news) (ns:=us) F R Jl L G S (fun b A o v ho hv=>by
   rcases xR with h7|h7
   ·exact h7.c hv (fun h=>h)
   ·have Jr:o<xs.length:=by rw[o2.1];exact BD ho (rU k o6)
    have⟨b2,c2,xO,_,_,Dv⟩:=o2.cells.2 ze3
    have vF:b2=b:=by rw[xO]at A;cases A;rfl
    subst vF;have V:=Dv o xs[o] (by simp[Jr]);rw[fY,hv]at V;cases V;have⟨b3,c3,WU,_,_,hc3⟩:=F.cells.2 zfi
    have NN:b3=b2:=by rw[WU,A]at h7;cases h7;rfl
    subst NN
    rw[<-fY];grind)
  rw[<-bS]at O;refine h B K' _ w' _ hm O ((hF.mono hK N6).put d ?_);obtain⟨a,c,rfl⟩:=F.shape;exact .vec i _ a c ⟨_,_,bH,by simp,fun _=>by simp⟩
theorem Wk.Ge{i o:Nat}{T:TypeId}{cs:am}(E k:Nat)(hi:Γ[i]?=some (.box T cs))(C:cs[o]?=some (.v (.slice none 0 0))):Wk m fr Γ fr (oset Γ i (.box T (bU cs o (.vec Γ.length 0)))++[.vec E k 0 []]):=fun B K u w l hm G N=>by
 have S:u Γ.length=.no:=G.out _ (aQ _);have A:i<Γ.length:=(bR hi).1;have n:=G.BP (w':=w) (E:=E) (k:=k) (x:=.slice none 0 0) (xs:=[]) (rows:=[]) (Ext.refl w) (gT.nil w 0 E k) (fun b O=>by cases O) bA.nil (fun r V=>by cases V);have z:dO u (e9 u Γ.length (.gr (.slice none 0 0) ([]:List am).length)):=gK zfu;refine⟨K,_,⟨n.ext,n.kle,n.ble,n.loc,n.fz,fun j x s=>?_,fun j s=>n.out j zfe,n.dis,n.own,n.kn,n.tab⟩,N.mono (cY.refl K) z⟩
 by_cases t:j=i
 ·subst t;rw[l7 zfe,bS,ik]at s;simp[A]at s;subst s;have⟨b,q,J,L,h3,M⟩:=n.ob j (.box T cs) ze3;refine⟨b,q,J,L,?_,M⟩
  have H:∀(q:List Value)(cs:am)(o:Nat),bA K (e9 u Γ.length (.gr (.slice none 0 0) ([]:List am).length)) q cs->cs[o]?=some (.v (.slice none 0 0))->bA K (e9 u Γ.length (.gr (.slice none 0 0) ([]:List am).length)) q (bU cs o (.vec Γ.length 0)):=by
   intro q
   induction q with
   |nil=>grind
   |cons v q ih =>
    intro cs o h C
    cases cs with
    |nil=>simp at C
    |cons c cs =>
     have⟨a1,F⟩:=h.nQ
     cases o with
     |zero =>
      cases C;have W:=Rel.eP a1;subst W;exact .cons (.vec _ 0 none 0 ⟨_,_,bH,aQ _,fun _=>rfl⟩) F
     |succ o=>exact .cons a1 (ih cs o F ze3)
  grind
 ·refine n.ob j x ?_
  by_cases R:j<Γ.length
  ·rw[l7 zfe,bS,ik,D (fun e=>t e.symm)]at s
   grind
  grind[lz,bS]
theorem Wk.xe{i o j n E k fz:Nat}{T:TypeId}{cs:am}{rows:List am}(hi:Γ[i]?=some (.box T cs))(M:cs[o]?=some (.vec j n))(Jm:Nat.beq i j=false)(V:Γ[j]?=some (.vec E k fz rows))(hn:rows.length=n):Wk m fr Γ fr (oset (oset Γ j (.vec E k n rows)) i (.box T (bU cs o (.sl k rows)))):=fun B K A w l hm S hF=>by
 subst hn
 have FM:i≠j:=by grind
 have⟨h0,xs,o1,o2,o3,o4,o5,o6⟩:=S.ob j _ V;have⟨C,hK,G,s⟩:=S.ky V;rw[<-bS]at s;refine⟨C,A,⟨s.ext,s.kle,s.ble,s.loc,s.fz,fun q x u=>?_,fun q u=>s.out q zfe,s.dis,s.own,s.kn,s.tab⟩,hF.mono hK (dO.refl A)⟩
 by_cases z:q=i
 ·subst z;have J:q<Γ.length:=(bR hi).1;rw[bS,ik]at u;simp[bS,J]at u;subst u;have⟨b,t,h1,h2,h3,h4⟩:=s.ob q (.box T cs) zfe;refine⟨b,t,h1,h2,?_,h4⟩
  have gen:∀(t:List Value)(cs:am)(o:Nat),bA C A t cs->cs[o]?=some (.vec j rows.length)->bA C A t (bU cs o (.sl k rows)):=by
   intro t
   induction t with
   |nil=>grind
   |cons v t ih =>
    intro cs o h M
    cases cs with
    |nil=>simp at M
    |cons c cs =>
     have⟨a1,N⟩:=h.nQ
     cases o with
     |zero =>
      cases M;refine .cons ?_ N
      cases a1 with
      |vec _ _ a c hh =>
       have⟨h',m',O,e2,e3⟩:=hh;rw[o1]at O;cases O;have R:=e3 rfl
       rcases o2.2 with⟨F,e6⟩|⟨g,cap,cu,F,_,_,L,_⟩
       ·have:rows=[]:=jF e6;subst this;exact .sl0 _ _ _
       ·rw[F]at R;cases R;refine .sl g 0 _ k rows (fun j r W=>⟨(o4 r (bB W)).1,fun q g' H=>?_⟩) L;rw[iX];exact G _ g o1 (by rw[F];rfl) _ g' (se o4 W H)
     |succ o=>exact .cons a1 (ih cs o N ze3)
  grind
 ·rw[bS,ik,D (fun e=>z e.symm)]at u;exact s.ob q x u
end
class np (P:Program) (t:TypeId) (k:outParam IntKind):Prop where
 und:P.underlying t=some (.int k)
class Mf (P:Program) (t:TypeId):Prop where
 und:∃e,P.underlying t=some (.slice e)/\P.underlying e=some (.int .u8)
theorem Mf.mk'{P:Program}{t e:TypeId}(h:P.underlying t=some (.slice e))(k:P.underlying e=some (.int .u8)):Mf P t:=⟨e,h,k⟩
section
variable{P:Program}{m:Nat}{Q:dU}{fr:am}{Γ:ap}{ops:Array Oper}{rest:List Oper}{d:Option Tmp}{op:Op}{ty:TypeId}{pos:String}{af:Array Edge}
def YG.lj{x y:Operand}{t c:TypeId}{a b:Int}(hx:a8 fr x=.v (.int .u8 a))(J:a8 fr y=.v (.int .u8 b))(z:0<=a-b/\a-b<=255):YG P (.binOp .sub t x y c) fr Γ (.v (.int .u8 (a-b))) :=
 YG.v2 hx J fun l w h k d ty pos af=>by simp[execOp,eqGuard,h,k,binOp,Op.intArith,IntWalk.u8_in _ z]
def YG.quo{x y:Operand}{t c:TypeId}{a b:Int}(hx:a8 fr x=.v (ii a))(J:a8 fr y=.v (ii b))(z:0<=a/\a<=9223372036854775807/\1<=b):YG P (.binOp .quo t x y c) fr Γ (.v (ii (a / b))) :=
 YG.v2 hx J fun l w h k d ty pos af=>by
  have q:b≠0:=by omega
  simp[execOp,eqGuard,h,k,binOp,Op.intDiv,q,IntWalk.i64_quo a b z]
def YG.rem{x y:Operand}{t c:TypeId}{a b:Int}(hx:a8 fr x=.v (ii a))(J:a8 fr y=.v (ii b))(z:0<=a/\1<=b):YG P (.binOp .rem t x y c) fr Γ (.v (ii (a%b))) :=
 YG.v2 hx J fun l w h k d ty pos af=>by
  have q:b≠0:=by omega
  simp[execOp,eqGuard,h,k,binOp,Op.intDiv,q,IntWalk.rem_in a b z.1]
def YG.mD{x:Operand}{s t:TypeId}{k k':IntKind}{a:Int}[S:np P s k'][z:np P t k](hx:a8 fr x=.v (.int k' a))(R:k.wrap a=a):YG P (.convert s t x) fr Γ (.v (.int k a)) :=
 YG.v1 hx fun l w h d ty pos af=>by simp[execOp,h,convert,run_underlying S.und,run_underlying z.und,Conv.intToInt,R]
theorem YG.str{x:Operand}{s t:TypeId}{l:ai}{rows:List am}[T:Mf P s][A:qp P t](hx:a8 fr x=.sl 1 rows)(r:rows=l.map fun c=>[.v (.int .u8 (c.toNat:Int))]):YG P (.convert s t x) fr Γ (.v (sv l)):=fun B K C w fl N S=>by
 subst r;have⟨e,M,z⟩:=T.und;have h:=S.ev x;rw[hx]at h;generalize n:ev fl x=v at h;refine⟨_,fun d ty pos af=>?_,.v _⟩
 have i:(convert s t v).run P w=.ok (sv l) w:=by
  generalize W:(l.map fun c=>[GV.v (.int .u8 (c.toNat:Int))])=rows at h
  cases h with
  |sl0 a c =>
   have:l=[]:=by simp_all
   subst this
   cases a with
   |none=>rw[run_convert_bytes_string w s t e none 0 c M z A.und];rfl
   |some a=>exact run_convert_bytes_back w s t e a c [] M z A.und (fun j G=>by simp at G)
  |sl b o c _ _ k _ =>
   have V:rows.length=l.length:=by grind
   rw[V];refine run_convert_bytes_back w s t e ⟨b,o,none⟩ c l M z A.und (fun j G=>?_)
   have H:rows[j]?=some [GV.v (.int .u8 (l[j].toNat:Int))]:=by grind
   have⟨_,u,q,J⟩:=N.fz _ _ _ ((k j _ H).2 0 _ rfl)
   grind[qs,fY,Rel.eP]
 simp[execOp,n,i]
end
end Go.Xg
