/- Part 7 of proofs that are told in their last texts. -/
import Derived.Shelf.Small.Strs
import Derived.Shelf.Strings.BuilderF
import Derived.Shelf.Strconv.Itoa3
import Derived.Shelf.Strings.Shaped
import Derived.Shelf.Sort.Plain
import Derived.Shelf.Strings.Prefix
import Derived.Shelf.Strings.SplitShaped
import Derived.Shelf.Unicode.ExclAny
import Derived.Shelf.Slices.CompactI
import Derived.Shelf.Slices.In.SortNone
import Derived.Test.YtfmnfhpifpjljaaGreatDoorO6
open List (ext_getElem? getD_cons_succ getD_cons_zero getElem?_mapIdx getElem_mem length_cons length_nil map_nil sum_cons)
set_option linter.unusedVariables false
set_option linter.unusedSimpArgs false
set_option maxRecDepth 100000
namespace Go
theorem zbA{A:Prop}(s:A:=by refine V ?_;refine zab ?_;refine I [0] m ?_;refine GW.wk (Wk.rm (i:=1) (o:=5) rfl rfl rfl rfl c) ?_;refine GW.wk (Wk.freeze (i:=1) rfl rfl rfl (eF rfl)) ?_;exact az):A:=s
theorem zdf{A:Prop}(s:A:=by refine zab ?_;refine I [0] m ?_;refine GW.wk (Wk.jJ (t:=4) rfl rfl rfl k) ?_;exact az):A:=s
theorem zdT{A B:Prop}(h:B)(s:PLift B->A:=by intro hQ;refine V ?_;refine aV (aM 0 11 .nil) ?_;refine bj ?_;rw[q];refine GW.wk (Wk.freeze (i:=0) rfl rfl rfl (a8 _)) ?_;exact hQ.1):A:=s ⟨h⟩
end Go
namespace Go.Xw
open Go.RowKit Go.WideShapes Go.ChangeShapes
section
variable{H:Type}{enc:TypeId × Value->H}{P:Program}
theorem CN{f:Func}{s:ChangeSpec}{apart fresh handsOn again:Bool}{W W':World}{args:Array Value}{v:Value}{ds gs:List (DataW H)}{before pa pv:List MemPlace}
  (hW:DataW.Whole enc P f.params.toList s.vars apart W args.toList ds gs before)
  (Uq:∀(b:Nat)(sp:Nat->Bool)(hd:Bool),DataW.TrodAll enc P W' b sp hd f.resultTypes.toList (v.resultList f.resultTypes.size) (s.fn H (ds++gs)).results [])
  (Jc:∀sp:Nat->Bool,(∀p∈before,sp p.block=true)->DataW.TrodAll enc P W' 0 sp true f.params.toList args.toList (s.fn H (ds++gs)).args pa)
  (Qt:∀sp:Nat->Bool,(∀p∈before,sp p.block=true)->DataW.TrodVars enc P W' sp s.vars (s.fn H (ds++gs)).vars pv)
  (Hq:before=pa++pv)(hb:Below W.heap.size W W')
  (tV:∀(j:Nat)(t:TypeId)(r:Value),f.resultTypes[j]?=some t->(v.resultList f.resultTypes.size)[j]?=some r->Value.okWide P W' .any 0 t r) :
  s.post enc P f apart fresh handsOn again W args v W':=by
 have ny:∀p∈before,p.block<W.heap.size:=fun p hp=>hW.lt p hp
 have hold:∀p∈before,(fun b=>decide (b<W.heap.size)) p.block=true:=fun p hp=>by simpa using ny p hp
 refine⟨ds,gs,before,[],pa,pv,hW,Uq _ _ _,Jc _ hold,Qt _ hold,World.keptBut_mono (fun p hp=>⟨hp,?_⟩) (hb.frame (·∈before)),fun _=>?_⟩
 ·rw[Hq,List.mem_append]at hp;exact Or.inr hp
 ·have⟨_,_,_,_,_,hz,hn⟩:=hW;refine⟨tV,_,_,([]++pa)++pv,⟨[]++pa,pv,trodAll_append (Jc _ (fun _ _=>rfl)) (Uq _ _ _),Qt _ (fun _ _=>rfl),rfl,?_,?_⟩,?_⟩
  ·intro b off hp
   have Hk:MemPlace.cell b off∈before:=by rw[Hq];simpa using hp
   rw[hb.frozen (ny _ Hk)];exact hz b off Hk
  ·intro ha;have:=hn ha;rw[Hq]at this;exact zdc
  ·intro p hp _;rw[Hq];simpa using hp
end
end Go.Xw
namespace Go.Proofs
open Go.Shelf
theorem dq{R:Type}{a:Option R}{b c:R}(h:a=some b)(k:b=c:=by kernel_rfl):a=some c:=h.trans (congrArg some k)
theorem zsr{A:Prop}(s:A:=by constructor<;>intros<;>first|kernel_rfl|exact⟨_,rfl⟩|decide|(constructor<;>intros<;>kernel_rfl)):A:=s
def Tryz.yr:Go.Shelf.Ren:=⟨fun|165=>242|240=>307|241=>308|276=>351|277=>352|n=>n,fun|70=>244|3=>3|0=>0|4=>4|9=>9|20=>20|72=>246|37=>22|164=>313|5=>5|n=>n,fun|n=>n⟩
theorem Tryz.R5:Go.Proofs.Lays.n165 Tryz.prog Tryz.yr:=zsr
theorem Tryz.ya:Builder.Extra Tryz.prog Tryz.yr:={
 sizeBuilder:=by kernel_rfl
 liesBuilder:=by kernel_rfl
 t5:=Tryz.underlying5
 a5:=Tryz.isAgg5
 z5:=Tryz.sizeOf5
 v5:=Tryz.zeroValue5
 infoByte:=by kernel_rfl
 cellsByte:=by kernel_rfl
 sizeByte:=by kernel_rfl
 neB5:=by decide }
open Go.RowKit in
theorem Tryz.Builder_Grow_fresh(B b n:Nat)(w:World)(N:B<=b)(q:w.heap[b]?=some (.cells #[.pointer none,.slice none 0 0] 246 (0,0)))(t:B<=w.heap.size)(hn:n<=281474976710656) :
  Calls Tryz.prog 242 #[.pointer (some ⟨b,0,none⟩),.int .i64 n] w fun e w'=>e=.returned (.tuple #[])/\(Lib.BuilderAt 246 5 B b (.pointer (some ⟨b,0,none⟩)) [] w'/\Below B w w'):=Any.Builder_Grow_fresh Tryz.R5 Tryz.ya B b n w N q t hn
def Tryz.F2:Go.Shelf.Ren:=⟨fun|137=>195|217=>249|266=>310|n=>n,fun|9=>9|5=>5|3=>3|n=>n,fun|n=>n⟩
theorem Tryz.R3:Go.Proofs.Lays.n137 Tryz.prog Tryz.F2:=zsr
open Go.RowKit in
theorem Tryz.strings_IndexByte(s:ByteArray)(c:Int)(w:World) :
  Calls Tryz.prog 195 #[.string s,.int .u8 c] w fun e w'=>e=.returned (.int .i64 (Lib.indexByte s.data.toList c.toNat.toUInt8))/\w'=w:=Any.strings_IndexByte Tryz.R3 s c w
def Tryz.D9:Go.Shelf.Ren:=⟨fun|171=>188|243=>241|246=>306|283=>347|284=>348|285=>349|286=>350|129=>275|317=>368|318=>369|319=>370|320=>371|337=>377|338=>378|n=>n,fun|3=>3|9=>9|2=>2|4=>4|171=>309|0=>0|53=>271|37=>22|5=>5|173=>311|212=>328|51=>269|20=>20|213=>329|46=>178|232=>345|233=>346|n=>n,fun|17=>3|18=>4|19=>5|n=>n⟩
theorem Tryz.ON:Go.Proofs.LaysM.n171 Tryz.prog Tryz.D9:=zsr
open Go.RowKit Go.Sort Go.Lib in
theorem Tryz.strconv_Itoa(n:Int)(o : -9223372036854775808<=n)(q:n<=9223372036854775807)(w:World)(Q:Lib.TabIs Tryz.prog w "internal/strconv.uint64pow10" .u64 Lib.pow10Tab) :
  Calls Tryz.prog 188 #[.int .i64 n] w fun e w'=>e=.returned (.string ⟨(Lib.itoa n).toArray⟩)/\∃k Z,w'=grow (w.drewN k) Z:=Any.strconv_Itoa Tryz.ON n o q w Q
def Tryz.F3:Go.Shelf.Ren:=⟨fun|143=>197|219=>251|217=>249|225=>311|224=>312|267=>313|266=>310|314=>353|n=>n,fun|9=>9|3=>3|4=>4|5=>5|46=>178|146=>316|51=>269|n=>n,fun|1=>0|n=>n⟩
theorem Tryz.R4:Go.Proofs.Lays.n143 Tryz.prog Tryz.F3:=zsr
open Go.RowKit Go.Lib in
theorem Tryz.strings_Index(s sub:ByteArray)(m:Int)(w:World)(G:s.size<4294967281)(j:w.cell? ⟨0,0,none⟩=some (.int .i64 m)) :
  Calls Tryz.prog 197 #[.string s,.string sub] w fun e w'=>e=.returned (.int .i64 (Lib.index s.data.toList sub.data.toList))/\w'=w:=Any.strings_Index Tryz.R4 s sub m w G j
def Tryz.F4:Go.Shelf.Ren:=⟨fun|190=>154|125=>210|258=>209|128=>274|129=>275|302=>265|303=>266|304=>267|305=>268|306=>269|307=>270|308=>271|309=>272|310=>273|333=>325|329=>326|330=>327|334=>328|335=>329|336=>330|344=>361|n=>n,fun|31=>23|9=>9|3=>3|46=>178|0=>0|51=>269|53=>271|4=>4|183=>263|182=>262|131=>225|5=>5|218=>295|222=>234|228=>320|229=>41|n=>n,fun|n=>n⟩
theorem Tryz.R6:Go.Proofs.Lays.n190 Tryz.prog Tryz.F4:=zsr
def Tryz.D8:Go.Shelf.Ren:=⟨fun|157=>305|229=>345|199=>346|261=>367|311=>375|312=>376|n=>n,fun|9=>9|31=>23|3=>3|5=>5|4=>4|119=>306|0=>0|40=>308|152=>323|21=>21|154=>325|51=>269|141=>327|196=>334|193=>331|198=>337|49=>335|194=>332|201=>340|226=>343|46=>178|227=>344|n=>n,fun|0=>1|6=>2|n=>n⟩
theorem Tryz.OM:Go.Proofs.LaysM.n157 Tryz.prog Tryz.D8:=zsr
open Go.RowKit Go.Lib in
theorem Tryz.strings_Fields_laid(s:ByteArray)(w:World)(G:s.size<4294967281)(Q:∀(j:Nat)b,s.data.toList[j]?=some b->b.toNat<128)(R:Lib.TabIs Tryz.prog w "strings.asciiSpace" .u8 Lib.asciiSpaceTab) :
  Calls Tryz.prog 305 #[.string s] w fun e w' =>
   e=.returned (.slice (some ⟨w.heap.size,0,none⟩) (Lib.fields s.data.toList).length (Lib.fields s.data.toList).length)/\w'=w.alloc (.cells ((Lib.fields s.data.toList).map fun l=>Value.string ⟨l.toArray⟩).toArray 9):=Any.strings_Fields_laid Tryz.OM s w G Q R
open Go.RowKit Go.Sort in
theorem Tryz.slices_Sort_string_none(p:Option Addr)(c:Nat)(w:World) :
  Calls Tryz.prog 154 #[.slice p 0 c] w fun e w'=>e=.returned (.tuple #[])/\w'=w:=Any.slices_Sort_string_none Tryz.R6 p c w
end Go.Proofs
set_option maxHeartbeats 1000000
namespace Go.Xg
open Go.RowKit Go.Xw Go.Proofs Tryz
attribute [local irreducible] GW GL GO D GC GA bo bn
instance:BI prog 22 5:=BI.mk' (aQ)
instance:uq prog 244:=uq.mk' (e:=246) (aQ) (aQ)
theorem FJ(g:Value):GF prog 307 [.loc 0 0] [.box 246 [.loc 0 0,.v g]] (.tup []) [.box 246 [.loc 0 0,.v g]]:=by
 refine ak func307 ntmps307 ?_;exact oA
theorem rU(s:ah)(n:Nat)(a:Option Addr)(c:Nat)(rows:List am)(hn:rows.length=n)(i:n+s.length<=140737488355328) :
  GC prog 243 [.loc 0 0,.v (sv s)] [.box 246 [.loc 0 0,.v (.slice a n c)],.vech 5 1 rows (.slice a n c)] (fun g bE=>(∃x,g=.tup [.v (ii s.length),x])/\∃a c,bE=[.box 246 [.loc 0 0,.v (.slice a (n+s.length) c)],.vech 5 1 (rows++di s) (.slice a (n+s.length) c)]):=by
 subst hn;have h:=FJ (.slice a rows.length c)
 cases s with
 |nil =>
  refine ak func243 ntmps243 ?_;refine I [0] h ?_;refine GL.VT 1 rfl rfl rfl (by simpa using i) ?_;refine zbt ?_;refine lJ ?_;exact⟨⟨_,rfl⟩,a,c,by simp[di]⟩
 |cons x r =>
  generalize G:x::r=s at *
  have k:s.isEmpty=false:=by rw[<-G];rfl
  clear G;refine ak func243 ntmps243 ?_;refine I [0] h ?_;refine GL.VU 1 rfl rfl rfl aH aN L ?_;intro F M;refine zbt ?_;refine lJ ?_;exact⟨⟨_,rfl⟩,F,M,rfl⟩
theorem NG(str:ah)(a:Option Addr)(c:Nat)(o:str≠[])(i:str.length<=140737488355328) :
  GF prog 244 [.loc 0 0] [.box 246 [.loc 0 0,.v (.slice a str.length c)],.vech 5 1 (di str) (.slice a str.length c)] (.v (sv str)) [.box 246 [.loc 0 0,.v (.slice a str.length c)],.lost]:=by
 have d:(di str).length=str.length:=by simp[di]
 have W:Nat.blt 0 str.length=true:=by simpa using List.length_pos_iff.2 o
 have k:str.isEmpty=false:=by cases str with|nil=>exact absurd rfl o|cons _ _=>rfl
 refine ak func244 ntmps244 ?_;refine aV (aM 0 10 (.a 10 (.q 11 .nil))) ?_;refine ay ?_;refine JV ?_;exact zbI
end Go.Xg
namespace Go.Xg
open Go.RowKit Go.Xw Go.Proofs Tryz
open GV (U)
open Go.Xp (cQ)
theorem nZ.ue{P:Program}{f:FuncId}{vs:List Value}{w:World}{R:Value->World->Prop}(h:Calls P f vs.toArray w fun e w'=>∃v,e=.returned v/\R v w'):nZ P f vs w R:=h
theorem GW.builder{Q:dQ}{fr:am}{r1 r2:Nat}{rest:Code}{j d H z:Tmp}{T1 T2 T3 T4 T5:TypeId}{p1 p2 p3:String}{a1 a2 a3:Array Edge}(n:Nat)
  (h8:iy fr j=true)(Y:iy fr d=true)(Hm:Nat.beq j d=false)(aay:Nat.beq z j=false)(hn:bx fr z=.v (ii (n:Nat)))(hb:n<=281474976710656)
  (h:∀a c,GW prog 0 rest Q (bB (bB (bB fr j (.loc 0 0)) d (.v (ii (n:Nat)))) H (.v (.tuple #[]))) [.box 246 [.loc 0 0,.v (.slice a 0 c)],.vech 5 1 [] (.slice a 0 c)]) :
  GW prog 0 (.seq (.region r1 [(⟨some j,.alloc 246,T1,p1,a1,none⟩:Oper)].toArray false) (.seq (.region r2 [(⟨some d,.move (.tmp z),T2,p2,a2,none⟩:Oper),⟨some H,.call ⟨.value (.func 242),[Operand.tmp j,.tmp d].toArray,#[T3,T4]⟩,T5,p3,a3,none⟩].toArray false) rest)) Q fr []:=fun B K M w l hm A N=>by
 have aax:j≠d:=by intro e;simp_all
 have u:z≠j:=by intro e;simp_all
 have i8:=nz N h8;have i56:=nz N Y;refine W.seq (W.region (WL.alloc (t:=246) fun b w1 q=>WL.nil ?_));refine W.seq (W.region (WL.v R.mv (WL.call (f:=242) (Ay:=[.pointer (some ⟨b,0,none⟩),.int .i64 n]) ?_ (R:=fun x J=>x=.tuple #[]/\(Lib.BuilderAt 246 5 b b (.pointer (some ⟨b,0,none⟩)) [] J/\Below b w1 J)) ?_ fun x J hx=>WL.nil ?_)))
 ·have Z:FR K (fP M 0 (.fix b)) (bB fr j (.loc 0 0)) (put l (some j) (.pointer (some ⟨b,0,none⟩))) :=
   (N.mono (c6.refl K) (iT (i:=0) (x:=.fix b) (by rw[A.out 0 (a8 _)];trivial))).fg j (.loc 0 0 b bV)
  have j56:iy (fg l j (.pointer (some ⟨b,0,none⟩))) d=true:=nz Z (t:=d) (by grind[Hw])
  have e5:nth (fg l j (.pointer (some ⟨b,0,none⟩))) z=.int .i64 n:=by
   rw[j4 u];exact Rel.eE (by rw[<-hn];exact N.nth z)
  show[nth (fg (fg l j (.pointer (some ⟨b,0,none⟩))) d (nth (fg l j (.pointer (some ⟨b,0,none⟩))) z)) j,nth (fg (fg l j (.pointer (some ⟨b,0,none⟩))) d (nth (fg l j (.pointer (some ⟨b,0,none⟩))) z)) d]=_
  grind[j4,sG]
 ·refine nZ.ue (Calls.mono (Tryz.Builder_Grow_fresh b b n w1 (a8 _) q.blk (by have:=q.size;omega) hb) ?_)
  grind
 ·obtain⟨rfl,⟨_,v,F,s,hnb⟩,m⟩:=hx;have s:iw J b 5 1 v 0 []:=s;obtain⟨a,c,rfl⟩:=s.shape;have Hh:=q.fresh;have S:Ext gx w J:=⟨m.os.trans q.ext.os,m.tape.trans q.ext.tape,m.output.trans q.ext.output,jC q.ext.size m.size,fun k T hs=>(m.block k L).trans (q.ext.block k T hs)⟩;have hI2:=A.same S
  have DS:∀i,M i=.no:=fun i=>A.out i (bl _)
  have Xf:∀o,K b o=none:=fun o=>by
   cases T:K b o with
   |none=>rfl
   |some g=>have:=A.fz.lt T;omega
  have hw0:=A.ext.size;have aat:=A.tab.pow.lt;have Ol:=A.tab.spc.lt;have C:dJ M (fP M ([]:ap).length (.fix b)):=iT zfg
  have hI3:=hI2.PU (x:=.fix b) (y:=.box 246 [.loc 0 0,.v (.slice a 0 c)]) (fun b' Lk=>by
   grind[Bk.has]) (by
   refine⟨b,[.pointer (some ⟨b,0,none⟩),.slice a 0 c],bV,F,.cons (.loc 0 0 b bV) (.cons (.v _) .nil),Xf⟩) C
  have G:iw J 0 5 1 (.slice a 0 c) 0 []:=s.base (bl _)
  have Qg:∀g,(Value.slice a 0 c).ownBlock=some g->b<g:=fun g X=>by
   have O:=(s.lt X).1
   grind
  have DO:fP M ([]:ap).length (.fix b) 1=.no:=by grind[fP]
  have E:dJ (fP M ([]:ap).length (.fix b)) (fP (fP M ([]:ap).length (.fix b)) 1 (.gr (.slice a 0 c) 0)):=iT zfg
  have hI4:=hI3.PU (x:=.gr (.slice a 0 c) 0) (y:=.vech 5 1 [] (.slice a 0 c)) (fun g X=>by
   have:=Qg g X;refine⟨fun i hi=>?_,by omega,by omega,by omega⟩
   rcases mU hi with O|O
   ·cases O;omega
   ·rw[DS]at O;cases O) (by
   refine⟨[],bV,G,bu.nil,(fun r hr=>by cases hr),fun g X o=>?_⟩
   cases T:K g o with
   |none=>rfl
   |some y=>have:=A.fz.lt T;grind) E
  refine h a c B K _ J _ hm hI4 ?_;have Z4:=(N.mono (c6.refl K) C).mono (c6.refl K) E;refine((Z4.fg j (.loc 0 0 b ?_)).fg d ?_).fg H (.v _)
  ·rfl
  ·have e5:nth (fg l j (.pointer (some ⟨b,0,none⟩))) z=.int .i64 n:=by
    rw[j4 u];exact Rel.eE (by rw[<-hn];exact N.nth z)
   rw[show ev (put l (some j) (.pointer (some ⟨b,0,none⟩))) (.tmp z)=.int .i64 n from e5];exact .v _
attribute [local irreducible] GW GL GO D GC GA bo bn
theorem Kq(a b:ah):di (a++b)=di a++di b:=by simp
def nP(l:List ah):Nat:=(l.map List.length).sum
theorem B5:∀(r:List ah)(x:ah),(cQ (x::r)).length=nP (x::r)+2*r.length
 |[],x=>by simp[cQ,nP]
 |y::r,x=>by
  have:=B5 r y;simp only[cQ,nP,bp,List.map_cons,sum_cons,List.flatMap_cons,length_cons]at this |-;omega
def gj(l:List ah):ah:=l.flatMap fun y=>44::32::y
theorem Le(a b:List ah):gj (a++b)=gj a++gj b:=by simp[ah,gj]
theorem RU(l:List ah)(k:Nat):(gj (l.take k)).length<=(gj l).length:=by
 grind[Le,List.take_append_drop,bp]
theorem TY(y:ah):gj [y]=[44,32]++y:=by simp[gj]
theorem Ox(x:ah)(r:List ah):cQ (x::r)=x++gj r:=rfl
theorem Kb(l:List ah)(t:(cQ l).length<=1099511627776)(E:l.length<=1099511627776):GF prog 189 [strs l,.v (sv [44,32])] [] (.v (sv (cQ l))) []:=by
 match l,t,E with
 |[],t,E =>
  refine ak func189 ntmps189 ?_;exact az
 |[x],t,E =>
  have hr:([x].map fun s=>[GV.v (sv s)])[0]?=some [.v (sv x)]:=rfl
  have e:cQ [x]=x:=by simp[cQ]
  rw[e];refine ak func189 ntmps189 ?_;exact az
 |x::y::r,t,E =>
  have hr0:((x::y::r).map fun s=>[GV.v (sv s)])[0]?=some [.v (sv x)]:=rfl;have A:=B5 (y::r) x
  have hxl:x.length<=1099511627776:=by grind[cQ,bp]
  generalize O:(x::y::r)=l at *
  have J:2<=l.length:=by grind
  have n:(l.map fun s=>[GV.v (sv s)]).length=l.length:=by simp
  have Z:Nat.blt 1 (l.map fun s=>[GV.v (sv s)]).length=true:=by rw[n];simpa[Nat.blt]using J
  have XA:(((l.map fun s=>[GV.v (sv s)]).length:Int)==0)=false:=by grind
  have XB:(((l.map fun s=>[GV.v (sv s)]).length:Int)==1)=false:=by grind
  have hq:decide ((9223372036854775807:Int) / (((l.map fun s=>[GV.v (sv s)]).length:Int)-1)<=2)=false:=by
   rw[n]
   have h3:(3:Int)<=9223372036854775807 / ((l.length:Int)-1):=by
    rw[Int.le_ediv_iff_mul_le L];omega
   grind
  refine ak func189 ntmps189 ?_;apply GL.q
  ·exact D.mul (a:=2) (b:=((l.map fun s=>[GV.v (sv s)]).length:Int)-1) rfl rfl L
  refine zak ?_;refine GW.range (l.map fun s=>[GV.v (sv s)]).length (fun k F N=>F=[strs l,.v (sv [44,32]),U,U,U,.v (ii (0+2*(((l.map fun s=>[GV.v (sv s)]).length:Int)-1)+((nP (l.take k):Nat):Int))),U,U,U,U,U,U,U,U,U,U,U,U,U,U,U,U,U,U,U,U,U,U,U,U,U,U,U,U,U,U,U,U,U,strs l,.v (ii ((l.map fun s=>[GV.v (sv s)]).length:Int)),.v (ii (k:Nat)),U,U,U,U,U,U,U,U,U,U,U,U,U,U,U,U,U,U,U,U,U,U,U,U,U,U,U,U,U,U,U,U,U]/\N=[]) ?_ L ?_ ?_ ?_
  ·refine⟨_,_,Wk.a6 (c8:=[strs l,.v (sv [44,32]),U,U,U,.v (ii (0+2*(((l.map fun s=>[GV.v (sv s)]).length:Int)-1))),U,U,U,U,U,U,U,U,U,U,U,U,U,U,U,U,U,U,U,U,U,U,U,U,U,U,U,U,U,U,U,U,U,strs l,.v (ii ((l.map fun s=>[GV.v (sv s)]).length:Int)),.v (ii (0:Nat)),U,U,U,U,U,U,U,U,U,U,U,U,U,U,U,U,U,U,U,U,U,U,U,U,U,U,U,U,U,U,U,U,U]) aC,?_,rfl⟩;rw[List.take_zero,show((nP []:Nat):Int)=0 from rfl,Int.add_zero]
  ·rintro k _ _⟨rfl,rfl⟩;exact dS
  ·rintro k _ _ j⟨rfl,rfl⟩;rw[n]at j
   have w:l[k]?=some l[k]:=by simp[j]
   have H:(l.map fun s=>[GV.v (sv s)])[k]?=some [.v (sv l[k])]:=by grind
   have hs:nP (l.take (k+1))=nP (l.take k)+l[k].length:=by unfold nP;rw[c7,w,jK,List.sum_append];rfl
   have hle:nP (l.take (k+1))<=nP l:=by
    have:nP l=nP (l.take (k+1))+nP (l.drop (k+1)):=by
     unfold nP;grind[List.take_append_drop]
    omega
   generalize l[k]=z at *;rw[show(0+2*(((l.map fun s=>[GV.v (sv s)]).length:Int)-1)+((nP (l.take (k+1)):Nat):Int))=0+2*(((l.map fun s=>[GV.v (sv s)]).length:Int)-1)+((nP (l.take k):Nat):Int)+(z.length:Int) by omega]
   have hov:decide (9223372036854775807-(0+2*(((l.map fun s=>[GV.v (sv s)]).length:Int)-1)+((nP (l.take k):Nat):Int))<(z.length:Int))=false:=by
    grind
   refine V ?_;exact zb7
  ·rintro _ _⟨rfl,rfl⟩;rw[n,dx]
   have Y:(0+2*((l.length:Int)-1)+((nP l:Nat):Int))=(((cQ l).length:Nat):Int):=by
    grind
   rw[Y];refine bg ?_
   refine GW.builder (cQ l).length rfl rfl rfl rfl rfl L fun a c=>?_
   refine V ?_;refine bP [0,1] (rU x 0 a c [] rfl L) ?_;rintro _ _⟨⟨u1,rfl⟩,a1,S,rfl⟩;refine zas ?_
   have C:∀k,(x++gj ((y::r).take k)).length<=1099511627776:=fun k=>by
    grind[RU,Ox,bp]
   refine GW.range ((y::r).map fun s=>[GV.v (sv s)]).length (fun k F N=>∃d a c,F=[U,.v (sv [44,32]),U,U,U,U,U,U,.loc 0 0,U,U,U,U,U,U,U,U,U,U,U,U,U,U,U,U,U,U,U,U,U,U,U,U,U,U,U,U,U,U,U,U,U,U,U,U,U,U,U,U,U,U,U,U,U,U,U,U,U,U,U,U,U,U,strs (y::r),.v (ii (((y::r).map fun s=>[GV.v (sv s)]).length:Int)),.v (ii (k:Nat)),U,U,U,U,U,U,U,U,U]/\d=x++gj ((y::r).take k)/\N=[.box 246 [.loc 0 0,.v (.slice a d.length c)],.vech 5 1 (di d) (.slice a d.length c)]) ?_ ?_ ?_ ?_ ?_
   ·rw[show 0+x.length=x.length from dy _];subst O;exact⟨_,_,Wk.a6 aC,x,a1,S,rfl,by simp[gj],rfl⟩
   ·grind
   ·rintro k _ _⟨d,a,c,rfl,_,rfl⟩;exact dS
   ·rintro k _ _ j⟨d,a,c,rfl,i,rfl⟩
    have j:k<(y::r).length:=by grind
    have w:(y::r)[k]?=some (y::r)[k]:=by simp[j]
    have H:((y::r).map fun s=>[GV.v (sv s)])[k]?=some [.v (sv (y::r)[k])]:=by grind
    have m:x++gj ((y::r).take (k+1))=(d++[44,32])++(y::r)[k]:=by
     grind[c7,Le,gK,TY]
    have G:=C k;have u:=C (k+1);rw[m]at u;rw[<-i]at G;simp only[bp,length_cons,length_nil]at u;generalize(y::r)[k]=z at *
    have o:(di d).length=d.length:=by simp
    refine V ?_;refine bP [0,1] (rU [44,32] d.length a c (di d) o ze2) ?_;rintro _ _⟨⟨u1,rfl⟩,Q,T,rfl⟩;refine ch ?_;rw[show di d++[[GV.v (.int .u8 ((44:UInt8).toNat:Int))],[GV.v (.int .u8 ((32:UInt8).toNat:Int))]]=di (d++[44,32]) by simp,show d.length+([44,32]:ah).length=(d++[44,32]).length by simp];refine V ?_;refine bP [0,1] (rU z (d++[44,32]).length Q T (di (d++[44,32])) ze3 ze2) ?_;rintro _ _⟨⟨u2,rfl⟩,R,W,rfl⟩;refine ch ?_
    have X:List.length (d++[44,32])+List.length z=List.length ((d++[44,32])++z):=by grind
    rw[<-Kq,X];refine V ?_;exact⟨rfl,rfl,_,_,Wk.a6 aC,(d++[44,32])++z,R,W,rfl,m.symm,rfl⟩
   ·rintro _ _⟨d,a,c,rfl,i,rfl⟩
    have hj:cQ l=d:=by
     rw[i,<-O,show((y::r).map fun s=>[GV.v (sv s)]).length=(y::r).length by simp,dx];rfl
    rw[hj]at t A |-
    have M:d≠[]:=by
     grind
    have B:=NG d a c M L;refine V ?_;refine I [0,1] B ?_;exact az
open Go.Xp (Nd T)
open Go.Sp (Src)
open Go.Im (pf qA tr kB)
mutual
def tT:T->GV
 |.mk n l=>.box [.v (ii n.aj),.v (ii n.at_),.v (ii n.n),.v (sv n.s),ints n.aw,.sl 1 (cB l)] 0
def cB:List T->List am
 |[]=>[]
 |t::r=>[tT t]::cB r
end
abbrev uT(t:T):GV:=.box [.v (ii t.n.aj),.v (ii t.n.at_),.v (ii t.n.n),.v (sv t.n.s),ints t.n.aw,.sl 1 (cB t.aw)] 0
theorem QV(t:T):tT t=uT t:=by cases t;rfl
theorem kx(l:List T):cB l=l.map fun t=>[uT t]:=by
 induction l with
 |nil=>rfl
 |cons t l O=>rw[cB,O,QV];rfl
theorem pP(l:List T):(cB l).length=l.length:=by rw[kx];simp
theorem Bx(l:List T)(t:T):cB (l++[t])=cB l++[[uT t]]:=by grind[kx]
theorem rO{l:List T}{i:Nat}{t:T}(h:l[i]?=some t):(cB l)[i]?=some [uT t]:=by grind[kx]
def X3:Option (T × Nat)->GV
 |none=>.tup [U,U,.v (.bool false)]
 |some (t,e)=>.tup [uT t,.v (ii (e:Nat)),.v (.bool true)]
theorem Fg(ae:List Nd)(hl:ae.length<=1099511627776)(S:∀n∈ae,n.aw.length<=1099511627776):∀(f a:Nat),ae.length-a+1<=f->a<=1099511627776 ->
  GF prog 142 [.sl 5 (ae.map aR),.v (ii (a:Nat))] [] (X3 (pf ae f a)) []:=by
 intro f
 induction f with
 |zero=>intro a h;omega
 |succ f Y =>
 intro a hf ha;rw[pf]
 cases B:ae[a]? with
 |none =>
  have Q:ae.length<=a:=nQ B
  have O:decide (((ae.map aR).length:Int)<=(a:Int))=true:=by grind
  refine ak func142 ntmps142 ?_;exact zdL
 |some n =>
  have u:=(b6 B).1
  have O:decide (((ae.map aR).length:Int)<=(a:Int))=false:=by grind
  have hr:(ae.map aR)[a]?=some (aR n):=by grind
  have X:=S n (bN B);simp only;generalize N:qA (pf ae f) n.aw (a+1) []=R;refine ak func142 ntmps142 ?_;refine GW.wk (Wk.A7 (i:=0) (o:=5) 132 1 rfl rfl) ?_
  refine GW.range (n.aw.map fun i=>[GV.v (ii i)]).length (fun k M Γ=>∃next c m b,M=[.sl 5 (ae.map aR),.v (ii (a:Nat)),U,U,U,U,U,.loc 0 0,.v (ii (next:Nat)),U,U,U,U,U,U,U,U,U,U,U,U,U,U,U,U,U,U,U,U,U,ints n.aw,.v (ii ((n.aw.map fun i=>[GV.v (ii i)]).length:Int)),.v (ii (k:Nat)),U,U,U,U,U,U,U,U,U,U,U,U,U,U,U,U,U,U,U,U,U,U,U,U,U,U,U,U,U,U,U,U,U,U,U] /\
   Γ=[.box 191 [.v (ii n.aj),.v (ii n.at_),.v (ii n.n),.v (sv n.s),ints n.aw,.vec 1 m],.vec 132 1 0 b]/\b.length=m/\b=cB c/\m=k/\a+1<=next/\next<=ae.length/\qA (pf ae f) (n.aw.drop k) next c=R) ?_ ze2 ?_ ?_ ?_
  ·exact⟨_,_,Wk.a6 aC,a+1,[],0,[],rfl,rfl,rfl,rfl,rfl,a8 _,u,N⟩
  ·rintro k _ _⟨next,c,m,b,rfl,rfl,_⟩;exact dS
  ·rintro k _ _ r⟨next,c,m,b,rfl,rfl,w,d,A,C,E,h⟩
   have r:k<n.aw.length:=by grind
   have T:n.aw[k]?=some n.aw[k]:=by simp[r]
   have W:(n.aw.map fun i=>[GV.v (ii i)])[k]?=some [.v (ii n.aw[k])]:=by simp
   rw[lz r,qA]at h;generalize n.aw[k]=z at *
   by_cases G:z=(next:Int)
   ·rw[ai G]at h;subst G
    have H:((next:Int) != (next:Int))=false:=by simp
    have l:=Y next L L
    cases F:pf ae f next with
    |none =>
     rw[F]at h l;subst h;refine V ?_;refine I [] l ?_;exact zdL
    |some x =>
     have⟨t,e⟩:=x;rw[F]at h l;simp only at h
     have⟨s1,Z,_,_⟩:=Go.Im.zf f next t e F
     refine V ?_;refine I [] l ?_;refine zbG ?_;exact⟨rfl,rfl,_,_,Wk.a6 aC,e,c++[t],_,_,rfl,rfl,by simp[w],by rw[Bx,d],by omega,by omega,Z,h⟩
   ·rw[ab G]at h;subst h
    have H:(z != (next:Int))=true:=by grind
    refine V ?_;exact zdL
  ·rintro _ _⟨next,c,m,b,rfl,rfl,w,d,A,C,E,h⟩;rw[show n.aw.drop (n.aw.map fun i=>[GV.v (ii i)]).length=[] by simp,qA]at h;subst h;simp only;subst d;refine bg ?_;refine GW.wk (Wk.rm (i:=0) (o:=5) (j:=1) rfl rfl rfl rfl w) ?_
   by_cases J:n.at_<0
   ·rw[ai J]
    have q:decide ((0:Int)<=n.at_)=false:=by grind
    refine zdT ?_;exact zdL
   ·rw[ab J]
    have q:decide ((0:Int)<=n.at_)=true:=by grind
    refine zdT ?_;refine BB ?_;exact zai
def yG(ae:List Nd):Option (List T × Nat)->GV
 |none=>.tup [U,.v (.bool false)]
 |some (l,e)=>.tup [.sl 1 (cB l),.v (.bool ((e:Int)==(ae.length:Int)))]
theorem sU(p:Src)(O:p.ae.length<=1099511627776)(N:∀n∈p.ae,n.aw.length<=1099511627776)(hf:p.av.length<=1099511627776) :
  GF prog 74 [.agg (aB p)] [] (yG p.ae (kB p.ae p.av 0 [])) []:=by
 generalize q:kB p.ae p.av 0 []=R;refine ak func74 ntmps74 ?_;refine GW.wk (Wk.A8 (t:=4) (a:=none) (c:=0) 132 1 rfl) ?_
 refine GW.range (p.av.map aI).length (fun k M C=>∃next T m H,M=U::.loc 0 0::U::U::.vec 1 m::.v (ii (next:Nat))::U::U::U::U::U::U::.sl 3 (p.av.map aI)::.v (ii ((p.av.map aI).length:Int))::.v (ii (k:Nat))::zU 31 [] /\
  C=[.box 28 (aB p),.vec 132 1 0 H]/\H.length=m/\H=cB T/\m=k/\next<=p.ae.length/\kB p.ae (p.av.drop k) next T=R) ?_ ze2 ?_ ?_ ?_
 ·exact⟨_,_,Wk.a6 aC,0,[],0,[],rfl,rfl,rfl,rfl,rfl,bl _,q⟩
 ·rintro k _ _⟨next,T,m,H,rfl,rfl,_⟩;exact dS
 ·rintro k _ _ i⟨next,T,m,H,rfl,rfl,j,S,w,l,h⟩
  have i:k<p.av.length:=by grind
  have A:p.av[k]?=some p.av[k]:=by simp[i]
  have Q:(p.av.map aI)[k]?=some (aI p.av[k]):=by grind
  rw[lz i,kB]at h;generalize p.av[k]=fn at *
  have u:=Fg p.ae O N (p.ae.length+1) next L L
  unfold tr at h
  cases J:pf p.ae (p.ae.length+1) next with
  |none =>
   rw[J]at h u;subst h;refine zcs ?_;refine Fm ?_;exact zaH
  |some x =>
   have⟨t,e⟩:=x;rw[J]at h u;simp only at h
   have⟨E,B,_,_⟩:=Go.Im.zf _ next t e J
   by_cases o:fn.body=(next:Int)
   ·rw[ai o]at h
    have r:(fn.body != (next:Int))=false:=by grind
    refine zcs ?_;refine zbG ?_;exact⟨rfl,rfl,_,_,(Wk.cut (n:=2) (bl _) rfl).trans (Wk.a6 aC),e,T++[t],_,_,rfl,rfl,by simp[j],by rw[Bx,S],by omega,B,h⟩
   ·rw[ab o]at h;subst h
    have r:(fn.body != (next:Int))=true:=by grind
    refine zcs ?_;refine Fm ?_;exact zaH
 ·rintro _ _⟨next,T,m,H,rfl,rfl,j,S,w,l,h⟩;rw[show p.av.drop (p.av.map aI).length=[] by simp,kB]at h;subst h;subst S;refine bg ?_;refine GW.wk (Wk.jJ (t:=4) rfl rfl rfl j) ?_
  have z:p.ae.length=(p.ae.map aR).length:=by simp
  unfold yG;rw[z];refine V ?_;refine aV (aM 0 8 .nil) ?_;refine ay ?_;exact q6
open Go.Sp
structure PX where
 a:Value
 b:Value
 c:Value
 d:Value
 e:Value
abbrev cK(p:RS)(x:PX):Ob:=.box 210 [ir p.l,.v (ii p.i),.v (ii p.e),.v (ii p.code),.v (ii p.at_),.v x.a,.v x.b,.v x.c,.v x.d,.v x.e]
theorem rq(p:RS)(k:Nat)(x:PX)(W:p.ok)(O:k<=1):GF prog 255 [.loc 0 0,.v (ii (k:Nat))] [cK p x] (.agg (da (Go.Im.tok p k))) [cK p x]:=by
 have⟨X,G⟩:=W;unfold Go.Im.tok
 cases M:p.l[p.i+k]? with
 |some t =>
  have w:=kY M;have N:p.i+k<p.l.length:=(b6 M).1
  have T:decide (((p.l.map da).length:Int)<=((p.i+k:Nat):Int))=false:=by grind
  refine ak func255 ntmps255 ?_;refine aV (aM 0 12 .nil) ?_;refine bj ?_;refine aV (aM 0 12 (.a 12 .nil)) ?_;refine ay ?_;exact pE
 |none =>
  have N:p.l.length<=p.i+k:=nQ M
  have T:decide (((p.l.map da).length:Int)<=((p.i+k:Nat):Int))=true:=by grind
  refine ak func255 ntmps255 ?_;refine aV (aM 0 12 .nil) ?_;refine ay ?_;exact pE
theorem DE(p:RS)(c a:Int)(x:PX):GF prog 314 [.loc 0 0,.v (ii c),.v (ii a)] [cK p x] (.tup []) [cK (p.fail c a) x]:=by
 unfold RS.fail
 by_cases h:p.code=0
 ·have e:(p.code==0)=true:=by grind
  rw[ai h];refine ak func314 ntmps314 ?_;exact zcj
 ·have e:(p.code==0)=false:=by grind
  rw[ab h];refine ak func314 ntmps314 ?_;exact zcj
theorem xZ(p:RS)(x:PX)(W:p.ok):GF prog 256 [.loc 0 0] [cK p x] (.tup []) [cK (Go.Im.ly p) x]:=by
 have M:=rq p 0 x W aU;unfold Go.Im.ly;generalize Go.Im.tok p 0=t at *;have l:=DE p 7 t.at_ x;refine ak func256 ntmps256 ?_;refine I [0] M ?_;refine I [0] l ?_;exact zcj
theorem vH(p:RS)(d:Nat)(x:PX)(W:p.ok):GF prog 316 [.loc 0 0,.v (ii (d:Nat))] [cK p x] (.v (.bool ((Go.Im.cN p d).code==0))) [cK (Go.Im.cN p d) x]:=by
 have M:=rq p 0 x W aU;unfold Go.Im.cN;generalize Go.Im.tok p 0=t at *
 by_cases h:d>60
 ·have e:decide ((60:Int)<(d:Int))=true:=by grind
  rw[ai h];have l:=DE p 9 t.at_ x;generalize p.fail 9 t.at_=q at *;refine ak func316 ntmps316 ?_;refine I [0] M ?_;refine I [0] l ?_;exact az
 ·have e:decide ((60:Int)<(d:Int))=false:=by grind
  rw[ab h];refine ak func316 ntmps316 ?_;exact az
theorem k0(p:RS)(k:Nat)(s:ah)(x:PX)(W:p.ok)(N:k<=1):GF prog 253 [.loc 0 0,.v (ii (k:Nat)),.v (sv s)] [cK p x] (.v (.bool (Go.Im.is p k s))) [cK p x]:=by
 have M:=rq p k x W N;unfold Go.Im.is;generalize Go.Im.tok p k=t at *
 cases h:(t.aj==3)with
 |true =>
  rw[Bool.true_and];refine ak func253 ntmps253 ?_;exact zdF
 |false =>
  rw[Bool.false_and];refine ak func253 ntmps253 ?_;exact zdF
theorem qN(p:RS)(x:PX)(W:p.ok):GF prog 254 [.loc 0 0] [cK p x] (.v (sv (Go.Im.tok p 0).s)) [cK (Go.Im.cm p) x]:=by
 have M:=rq p 0 x W aU;have m:=xZ p x W;have d:=W.2;have w:=W.1;unfold Go.Im.cm;generalize Go.Im.tok p 0=t at *;have l:=DE p 8 t.at_ x
 by_cases X:p.code=0
 ·have u:(p.code != 0)=false:=by grind
  rw[ai X]
  by_cases b:t.aj=2
  ·have i:(t.aj != 2)=false:=by grind
   rw[ai b]
   by_cases N:t.s.length>12
   ·have j:decide ((12:Int)<(t.s.length:Int))=true:=by grind
    rw[ai N];refine ak func254 ntmps254 ?_;refine I [0] M ?_;refine I [0] l ?_;exact az
   ·have j:decide ((12:Int)<(t.s.length:Int))=false:=by grind
    rw[ab N];refine ak func254 ntmps254 ?_;exact zdF
  ·have i:(t.aj != 2)=true:=by grind
   rw[ab b];refine ak func254 ntmps254 ?_;refine I [0] M ?_;refine I [0] m ?_;exact az
 ·have u:(p.code != 0)=true:=by grind
  rw[ab X];refine ak func254 ntmps254 ?_;exact zdF
theorem fV(p:RS)(s:ah)(x:PX)(W:p.ok):GF prog 257 [.loc 0 0,.sl 1 [[.v (sv s)]]] [cK p x] (.tup []) [cK (Go.Im.want p s) x]:=by
 have i:=k0 p 0 s x W aU;have l:=xZ p x W;have d:=W.2;have t:=W.1;unfold Go.Im.want;generalize Go.Im.ly p=q at *;have z:([[GV.v (sv s)]]:List am)[0]?=some [.v (sv s)]:=rfl;refine ak func257 ntmps257 ?_
 by_cases X:p.code=0
 ·have w:(p.code != 0)=false:=by grind
  rw[ai X]
  cases h:Go.Im.is p 0 s with
  |true =>
   rw[h]at i;rw[ai rfl];refine GW.range 1 (fun k J u=>J=.loc 0 0::U::U::U::U::U::.sl 1 [[.v (sv s)]]::.v (ii ((1:Nat):Int))::.v (ii (k:Nat))::zU 22 []/\((k=0/\u=[cK p x])\/(1<=k/\u=[cK p.next x]))) ?_ aU ?_ ?_ ?_
   ·exact⟨_,_,Wk.a6 aC,rfl,.inl ⟨rfl,rfl⟩⟩
   ·rintro k _ _⟨rfl,_⟩;exact dS
   ·rintro k _ _ N⟨rfl,⟨rfl,rfl⟩|⟨o,_⟩⟩
    ·refine V ?_;refine I [0] i ?_;exact⟨rfl,rfl,_,_,Wk.a6 aC,rfl,.inr ⟨a8 _,rfl⟩⟩
    ·omega
   ·rintro _ _⟨rfl,⟨o,_⟩|⟨_,rfl⟩⟩
    ·cases o
    ·exact zeR
  |false =>
   rw[h]at i;rw[ab aU];refine GW.range 1 (fun k J u=>J=.loc 0 0::U::U::U::U::U::.sl 1 [[.v (sv s)]]::.v (ii ((1:Nat):Int))::.v (ii (k:Nat))::zU 22 []/\k=0/\u=[cK p x]) ?_ aU ?_ ?_ ?_
   ·exact kP
   ·rintro k _ _⟨rfl,_⟩;exact dS
   ·rintro k _ _ N⟨rfl,rfl,rfl⟩;refine V ?_;refine I [0] i ?_;refine I [0] l ?_;exact zcj
   ·rintro _ _⟨rfl,o,_⟩;cases o
 ·have w:(p.code != 0)=true:=by grind
  rw[ab X];refine GW.range 1 (fun k J u=>J=.loc 0 0::U::U::U::U::U::.sl 1 [[.v (sv s)]]::.v (ii ((1:Nat):Int))::.v (ii (k:Nat))::zU 22 []/\k=0/\u=[cK p x]) ?_ aU ?_ ?_ ?_
  ·exact kP
  ·rintro k _ _⟨rfl,_⟩;exact dS
  ·rintro k _ _ N⟨rfl,rfl,rfl⟩;exact zeR
  ·rintro _ _⟨rfl,o,_⟩;cases o
open Go.Xp (T one levels)
mutual
def pT:T->GV
 |.mk n l=>.box [.v (ii n.aj),.v (ii n.at_),.v (ii n.n),.v (sv n.s),.v (.slice none 0 0),.sl 1 (jY l)] 0
def jY:List T->List am
 |[]=>[]
 |t::r=>[pT t]::jY r
end
abbrev qT(t:T):GV:=.box [.v (ii t.n.aj),.v (ii t.n.at_),.v (ii t.n.n),.v (sv t.n.s),.v (.slice none 0 0),.sl 1 (jY t.aw)] 0
theorem WZ(t:T):pT t=qT t:=by cases t;rw[pT];rfl
theorem gX(l:List T):jY l=l.map fun t=>[qT t]:=by
 induction l with
 |nil=>rfl
 |cons t l O=>rw[jY,O,WZ];rfl
theorem lI(l:List T):(jY l).length=l.length:=by rw[gX];simp
theorem vg(l:List T)(t:T):jY (l++[t])=jY l++[[qT t]]:=by rw[gX,gX];simp
theorem xe{l:List T}{i:Nat}{t:T}(h:l[i]?=some t):(jY l)[i]?=some [qT t]:=by rw[gX,dR,h];rfl
theorem Md(k a:Int)(s:ah)(rows:List am):GF prog 315 [.v (ii k),.v (ii a),.v (sv s),.sl 1 rows] [] (.loc 0 0) [.box 191 [.v (ii k),.v (ii a),.v (ii 0),.v (sv s),.v (.slice none 0 0),.sl 1 rows]]:=by
 refine ak func315 ntmps315 ?_;refine GW.wk (Wk.cells 0 rfl (ds:=[.v (ii k),.v (ii a),.v (ii 0),.v (sv s),.v (.slice none 0 0),.sl 1 rows]) gy) ?_;refine GW.ret ?_;refine qb (n:=1) rfl fH rfl (bl _) rfl rfl ?_;exact zai
theorem fF(k a:Int)(s:ah)(l:List T)(rows:List am)(h:jY l=rows):GF prog 315 [.v (ii k),.v (ii a),.v (sv s),.sl 1 rows] [] (qT (one k a s l)) []:=by
 subst h;refine ak func315 ntmps315 ?_;refine GW.wk (Wk.cells 0 rfl (ds:=[.v (ii k),.v (ii a),.v (ii 0),.v (sv s),.v (.slice none 0 0),.sl 1 (jY l)]) gy) ?_;refine GW.wk (Wk.freeze (i:=0) rfl rfl rfl (bl _)) ?_;exact az
theorem ti:GF prog 247 [] [] (.sl 1 (levels.map fun l=>[strs l])) []:=by
 refine ak func247 ntmps247 ?_
 iterate 10 (refine bR ?_)
 exact aK
end Go.Xg
namespace Go.Xg
open Go.RowKit Go.Xw Go.Proofs Tryz
open GV (U)
open Go.Xp (levels gW)
open Go.Im (po tj)
attribute [local irreducible] GW GL GO D GC GA bo bn
theorem decDigits_eq(n:Nat):Go.Lib.decDigits n=gW n:=by
 induction n using Nat.strongRecOn with
 |_ n O =>
  unfold Go.Lib.decDigits gW;split
  ·rfl
  ·rw[O (n / 10) L]
theorem RY(n:Int):Go.Lib.itoa n=po n:=by
 unfold Go.Lib.itoa po;rw[decDigits_eq,decDigits_eq]
theorem Ka(n:Int)(q : -9223372036854775808<=n)(r:n<=9223372036854775807):GF prog 188 [.v (ii n)] [] (.v (sv (po n))) []:=by
 refine GF.UO (vs:=[ii n]) fun K t w M s=>?_
 obtain⟨E,z,l⟩:=sQ.all M s M.pow (zs:=vh.map fun z=>Value.int .u64 z) aU (fun m o x hx=>by
  rw[dR]at hx;unfold yA;rw[ab aU,ai rfl]
  cases G:vh[o]? with
  |none=>rw[G]at hx;cases hx
  |some y=>rw[G]at hx;cases hx;rfl)
 have Q:Go.Lib.TabIs prog w "internal/strconv.uint64pow10" .u64 Go.Lib.pow10Tab:=by
  unfold Go.Lib.TabIs World.var?;rw[show prog.globalNamed "internal/strconv.uint64pow10" = some 3 by kernel_rfl,show Go.Lib.pow10Tab=vh by decide];simp only[Option.bind_some,l]
 refine nZ.ue (Calls.mono (strconv_Itoa n q r w Q) ?_);rintro e c⟨b,k,Z,H⟩;refine⟨_,b,by rw[RY];rfl,?_⟩;subst H;refine⟨rfl,rfl,rfl,by simp[Go.Sort.grow,World.drewN],fun j Y _=>?_⟩;simp only[Go.Sort.grow,World.drewN];rw[Array.getElem?_append_left Y]
theorem OW(l:List ah)(s:ah)(M:l.length<=1099511627776):GF prog 248 [strs l,.box [.v (sv s)] 0] [] (.v (.bool (l.contains s))) []:=by
 have h:=jm l s M;generalize l.contains s=b at *;refine ak func248 ntmps248 ?_;exact zcF
def AY(ls:List (List ah))(s:ah):Int:=match ls.findIdx? (fun l=>l.contains s)with|some i=>(i:Int)|none => -1
theorem FE(ls:List (List ah))(s:ah)(hn:ls.length<=1099511627776)(M:∀l∈ls,l.length<=1099511627776) :
  GF prog 246 [.sl 1 (ls.map fun l=>[strs l]),.fn (.func 248) [] [.box [.v (sv s)] 0]] [] (.v (ii (AY ls s))) []:=by
 have C:(ls.map fun l=>[strs l]).length=ls.length:=by simp
 refine ak func246 ntmps246 ?_;refine GW.range (ls.map fun l=>[strs l]).length (fun k J u=>J=[.sl 1 (ls.map fun l=>[strs l]),.fn (.func 248) [] [.box [.v (sv s)] 0],U,U,U,U,U,.v (ii ((ls.map fun l=>[strs l]).length:Int)),.v (ii (k:Nat)),U,U,U,U,U,U,U,U,U,U]/\u=[]/\(ls.take k).all (fun l=>!(l.contains s))=true) ?_ L ?_ ?_ ?_
 ·exact kP
 ·exact jA
 ·rintro k _ _ N⟨rfl,rfl,n⟩;rw[C]at N
  have w:ls[k]?=some ls[k]:=by simp[N]
  have z:(ls.map fun l=>[strs l])[k]?=some [strs ls[k]]:=by rw[dR,w];rfl
  have W:=OW ls[k] s (M _ (getElem_mem N))
  have m:(ls.take (k+1)).all (fun l=>!(l.contains s))=((ls.take k).all (fun l=>!(l.contains s))&&!(ls[k].contains s)):=by rw[c7,w,List.all_append];simp
  have H:ls[k].contains s=true->AY ls s=(k:Int):=fun o=>by
   have:ls.findIdx? (fun l=>l.contains s)=some k:=by
    rw[List.findIdx?_eq_some_iff_getElem];refine⟨N,o,fun j Y=>?_⟩;rw[hY]at n;have:=n ls[j] zfb;exact zdc
   unfold AY;rw[this]
  generalize ls[k]=l at *
  cases i:l.contains s with
  |true =>
   rw[i]at W;rw[H i];refine V ?_;refine mi [] W ?_;exact aK
  |false =>
   rw[i]at W m;refine V ?_;refine mi [] W ?_;exact zd7
 ·rintro _ _⟨rfl,rfl,n⟩;rw[C,dx]at n
  have:ls.findIdx? (fun l=>l.contains s)=none:=by
   rw[List.findIdx?_eq_none_iff];intro x hx;rw[hY]at n;simpa using n x hx
  unfold AY;rw[this];exact aK
theorem Cb(s:ah):GF prog 193 [.v (sv s)] [] (.v (ii (tj s))) []:=by
 have o:=ti;have b:=FE levels s aU aU;rw[show tj s=AY levels s from rfl];generalize AY levels s=z at *;generalize levels=t at *;refine ak func193 ntmps193 ?_;refine GL.wk (Wk.freeze (i:=0) rfl rfl rfl (a8 _)) ?_;refine GN (by simp only[oe,nN];rfl) ?_;refine I [] o ?_;refine I [] b ?_;exact az
open Go.Xp (T cQ be aP)
open Go.Im (uN oJ eh jk vu lB jj rY ri iL eB)
theorem LZ(t:T)(z:Int):GF prog 194 [uT t,.v (ii z)] [] (.v (.bool (oJ t z))) []:=by
 have h:=Cb t.n.s;unfold oJ
 cases N:(t.n.aj==6)with
 |true =>
  generalize tj t.n.s=y at *;refine ak func194 ntmps194 ?_;exact zcF
 |false =>
  refine ak func194 ntmps194 ?_;exact az
theorem uv(t:T)(b:Bool)(x:ah)(hx:x.length<=1099511627776)(h:GF prog 126 [uT t] [] (.v (sv x)) []) :
  GF prog 192 [uT t,.v (.bool b)] [] (.v (sv (uN b x))) []:=by
 unfold uN
 cases b with
 |true =>
  refine ak func192 ntmps192 ?_;exact zcF
 |false =>
  refine ak func192 ntmps192 ?_;exact zcF
theorem O0(ex:FuncId)[hf:fQ prog ex](M:T->ah)(l:List T)(h:∀t∈l,GF prog ex [uT t] [] (.v (sv (M t))) [])(Y:(cQ (l.map M)).length<=1099511627776)(Q:l.length<=1099511627776) :
  GF prog 191 [.sl 1 (cB l),.v (.func (.func ex) #[] #[])] [] (.v (sv (cQ (l.map M)))) []:=by
 have o:=pP l;have A:=Kb (l.map M) Y ze2;refine ak func191 ntmps191 ?_;refine GW.wk (Wk.A8 (t:=5) (a:=none) (c:=0) 9 1 rfl) ?_;refine GW.range (cB l).length (fun k J u=>∃m H,J=.sl 1 (cB l)::.v (.func (.func ex) #[] #[])::U::U::U::.vec 0 m::U::U::.sl 1 (cB l)::.v (ii ((cB l).length:Int))::.v (ii (k:Nat))::zU 12 []/\u=[.vec 9 1 0 H]/\H.length=m/\H=((l.take k).map M).map (fun s=>[GV.v (sv s)])/\m=k) ?_ L ?_ ?_ ?_
 ·exact⟨_,_,Wk.a6 aC,0,[],rfl,rfl,rfl,rfl,rfl⟩
 ·rintro k _ _⟨m,H,rfl,rfl,_⟩;exact dS
 ·rintro k _ _ N⟨m,H,rfl,rfl,j,R,z⟩;rw[o]at N
  have w:l[k]?=some l[k]:=by simp[N]
  have B:=rO w;have O:=h l[k] (getElem_mem N)
  have n:((l.take (k+1)).map M).map (fun s=>[GV.v (sv s)])=H++[[.v (sv (M l[k]))]]:=by grind[c7]
  generalize l[k]=t at *;refine V ?_;refine jW [] O ?_;refine V ?_;refine zbG ?_;exact⟨rfl,rfl,_,_,Wk.a6 aC,_,_,rfl,rfl,by simp[j],n.symm,by omega⟩
 ·rintro _ _⟨m,H,rfl,rfl,j,R,z⟩;rw[o,dx]at R;refine bg ?_;refine GW.wk (Wk.jJ (t:=5) rfl rfl rfl j) ?_;subst R;refine V ?_;refine I [] A ?_;exact az
theorem Wq{t:T}(h:eB t.n.aj t.aw.length=true)(N:t.n.aj=3\/t.n.aj=5):∃a,t.aw=[a]:=by
 have:t.aw.length=1:=by
  grind[eB]
 match M:t.aw,this with
 |[a],_=>simp
theorem Ws{t:T}(h:eB t.n.aj t.aw.length=true)(N:t.n.aj=6):∃a b,t.aw=[a,b]:=by
 have:t.aw.length=2:=by
  grind[eB]
 match M:t.aw,this with
 |[a,b],_=>simp
theorem S6:∀(N:Nat)(t:T),be t<=N->iL t=true->rY t->lB t<=1099511627776->GF prog 126 [uT t] [] (.v (sv (eh t))) []:=by
 intro N
 induction N with
 |zero=>intro t h;rw[Go.Xp.fa]at h;omega
 |succ N ih =>
 intro t hN hk F hw;have c:=Go.Im.vw _ t (a8 _) F;rw[Go.Xp.fa]at hN;rw[Go.Im.w5,aZ,Go.Im.qJ,hY]at hk;rw[Go.Im.qP]at F
 have d:∀a∈t.aw,GF prog 126 [uT a] [] (.v (sv (eh a))) []/\(eh a).length<=1099511627776:=fun a m=>by
  have w:=Go.Im.tG m;rw[Go.Im.pj]at hw;have J:=Go.Im.kT F.2 m
  have Y:be a<=aP t.aw:=by
   have:∀(l:List T),a∈l->be a<=aP l:=by
    intro l
    induction l with
    |nil=>simp
    |cons b l G =>
     grind[be,aP]
   grind
  grind[Go.Im.vw]
 rw[Go.Im.MU]at c |-;unfold vu at c |-;have E:=hk.1;have B:=@Wq t E;have C:=@Ws t E;have S:=Ka t.n.n F.1.1 F.1.2;have R:=Cb t.n.s
 have M:t.aw.length<=1099511627776:=by
  grind[Go.Im.OU,Go.Im.pj]
 have e:=fun hj=>O0 126 eh t.aw (fun a m=>(d a m).1) hj M
 rw[<-Go.Im.Ik]at e
 have XK:t.n.s.length<=1099511627776:=by grind[Go.Im.pj]
 have A:(cQ (jk t.aw)).length<=1099511627776:=by
  have w:=Go.Im.yU (jk t.aw)
  have Y:((jk t.aw).map fun y=>y.length+2).sum<=jj t.aw:=by
   have:∀(l:List T),ri l->((jk l).map fun y=>y.length+2).sum<=jj l:=by
    intro l
    induction l with
    |nil=>grind[jk]
    |cons a l G =>
     intro h;rw[ri]at h;have w:=Go.Im.vw _ a (a8 _) h.1;have Y:=G h.2;rw[jk,jj,List.map_cons,sum_cons];omega
   grind
  grind[Go.Im.pj]
 have e:=e A;clear A;unfold uT;generalize Ue:t.n.aj=o at *
 by_cases w:o=1
 ·subst w
  have dM:((1:Int)==1)=true:=by decide
  rw[ai rfl];refine ak func126 ntmps126 ?_;refine I [] S ?_;exact az
 rw[ab w]at c |-
 have g1:(o==1)=false:=by grind
 by_cases J:o=3
 ·subst J
  have dM:((3:Int)==1)=false:=by decide
  have j:((3:Int)==3)=true:=by decide
  rw[ai rfl]at c |-;have⟨a,m⟩:=B (.inl rfl);rw[m]at d c |-;have⟨u,H⟩:=d a (List.mem_singleton.2 rfl)
  have hr:(cB [a])[0]?=some [uT a]:=by rw[kx];rfl
  simp only[jk,getD_cons_zero]at c |-;generalize cB [a]=k at *;generalize eh a=x at *;refine ak func126 ntmps126 ?_;refine aV (aM 0 12 (.a 12 (aM 13 3 .nil))) ?_;refine ay ?_;refine aX [] u ?_;exact aK
 rw[ab J]at c |-
 have g3:(o==3)=false:=by grind
 by_cases Z:o=4
 ·subst Z
  have dM:((4:Int)==1)=false:=by decide
  have j:((4:Int)==3)=false:=by decide
  have X:((4:Int)==4)=true:=by decide
  rw[ai rfl]at c |-;generalize cB t.aw=k at *;generalize cQ (jk t.aw)=x at *;simp only[bp,length_cons,length_nil]at c;refine ak func126 ntmps126 ?_;refine aV (aM 0 10 (.a 10 (aM 11 3 .nil))) ?_;refine ay ?_;refine aX [] e ?_;exact aK
 rw[ab Z]at c |-
 have g4:(o==4)=false:=by grind
 by_cases h5:o=5
 ·subst h5
  have dM:((5:Int)==1)=false:=by decide
  have j:((5:Int)==3)=false:=by decide
  have X:((5:Int)==4)=false:=by decide
  have f5:((5:Int)==5)=true:=by decide
  rw[ai rfl]at c |-;have⟨a,m⟩:=B (.inr rfl);rw[m]at d c |-;have⟨u,H⟩:=d a (List.mem_singleton.2 rfl)
  have hr:(cB [a])[0]?=some [uT a]:=by rw[kx];rfl
  simp only[jk,getD_cons_zero]at c |-;have r:=uv a (a.n.aj==6) (eh a) H u;have hbl:=Go.Im.Gz (a.n.aj==6) (eh a);generalize cB [a]=k at *;generalize W:uN (a.n.aj==6) (eh a)=x at *;refine ak func126 ntmps126 ?_;refine aV (aM 0 23 (.a 23 (.q 24 (.q 25 .nil)))) ?_;refine ay ?_;refine aX [] r ?_;exact aK
 rw[ab h5]at c |-
 have g5:(o==5)=false:=by grind
 by_cases h6:o=6
 ·subst h6
  have dM:((6:Int)==1)=false:=by decide
  have j:((6:Int)==3)=false:=by decide
  have X:((6:Int)==4)=false:=by decide
  have f5:((6:Int)==5)=false:=by decide
  have f6:((6:Int)==6)=true:=by decide
  rw[ai rfl]at c |-;have⟨a,b,m⟩:=C rfl;rw[m]at d c |-;have⟨u,H⟩:=d a (List.mem_cons_self);have⟨d1,d2⟩:=d b (eQ _ List.mem_cons_self)
  have hr:(cB [a,b])[0]?=some [uT a]:=by rw[kx];rfl
  have Uo:(cB [a,b])[1]?=some [uT b]:=by rw[kx];rfl
  simp only[jk,getD_cons_zero,getD_cons_succ]at c |-
  have aav : -1<=tj t.n.s/\tj t.n.s<=9:=by
   unfold tj
   cases hf:levels.findIdx? (fun l=>l.contains t.n.s)with
   |none=>simp
   |some i =>
    rw[List.findIdx?_eq_some_iff_getElem]at hf;have:=hf.1
    have h9:levels.length=9:=by decide
    grind
  generalize tj t.n.s=lv at *;have O:=LZ a lv;have Q:=LZ b (lv+1);have r:=uv a (oJ a lv) (eh a) H u;have z:=uv b (oJ b (lv+1)) (eh b) d2 d1;generalize cB [a,b]=k at *;generalize W:uN (oJ a lv) (eh a)=x at *;generalize hyy:uN (oJ b (lv+1)) (eh b)=y at *;simp only[bp,length_cons,length_nil]at c;refine ak func126 ntmps126 ?_;refine I [] R ?_;refine aV (aM 0 14 (aM 17 5 (aM 24 15 (.a 14 (.a 15 (.q 16 (.q 22 (.q 23 (.a 39 (.a 40 (.q 41 (.q 42 .nil)))))))))))) ?_;refine ay ?_;refine xq [] O ?_;refine ay ?_;refine aX [] r ?_;refine xq [] Q ?_;refine ay ?_;refine aX [] z ?_;exact aK
 rw[ab h6]
 have g6:(o==6)=false:=by grind
 refine ak func126 ntmps126 ?_;exact az
end Go.Xg
set_option maxHeartbeats 2000000
namespace Go.Xg
open Go.RowKit Go.Xw Go.Proofs Tryz Go.Im
open GV (U)
open Go.Xp (T)
attribute [local irreducible] GW GL GO D GC GA bo bn
abbrev jX(f:FuncId):Value:=.func (.func f) #[] #[]
theorem Ou(l:List ah)(d:Nat)(i:(ig l d).length<=1099511627776)(M:l.length<=1099511627776):GF prog 127 [strs l,.v (ii (d:Nat))] [] (.v (sv (ig l d))) []:=by
 have C:(l.map fun s=>[GV.v (sv s)]).length=l.length:=by simp
 have j:=sV l [123,32];unfold ig at i |-;rw[bp,j]at i;refine ak func127 ntmps127 ?_;refine GW.range (l.map fun s=>[GV.v (sv s)]).length (fun k J u=>J=[strs l,U,U,U,U,.v (sv (rV [123,32] (l.take k))),U,U,strs l,.v (ii ((l.map fun s=>[GV.v (sv s)]).length:Int)),.v (ii (k:Nat)),U,U,U,U,U,U,U,U,U,U]/\u=[]) ?_ L ?_ ?_ ?_
 ·exact ji
 ·rintro k _ _⟨rfl,rfl⟩;exact dS
 ·rintro k _ _ N⟨rfl,rfl⟩;rw[C]at N
  have w:l[k]?=some l[k]:=by simp[N]
  have Q:(l.map fun s=>[GV.v (sv s)])[k]?=some [.v (sv l[k])]:=by rw[dR,w];rfl
  have o:=sV (l.take (k+1)) [123,32];have b:=MR l (k+1)
  have m:lk (l.take (k+1))=lk (l.take k)+(l[k].length+1):=by rw[c7,w,E4];simp[lk]
  have G:=sV (l.take k) [123,32];rw[show l.take (k+1)=l.take k++[l[k]] by rw[c7,w];rfl,Ku]at |-;generalize l[k]=z at *;generalize rV [123,32] (l.take k)=T at *;simp only[length_cons,length_nil]at G i
  have E:T.length+z.length+3<=1099511627777:=by omega
  refine V ?_;exact zb7
 ·rintro _ _⟨rfl,rfl⟩;rw[C,dx];generalize rV [123,32] l=T at *;simp only[bp,length_cons,length_nil]at j i;exact aK
theorem WJ(ex Y:FuncId)[hf:fQ prog ex](M:T->ah)(t a:T)(k:Nat)(N:t.aw[k]?=some a)(h:GF prog ex [uT a] [] (.v (sv (M a))) []) :
  GF prog 309 [.v (ii (k:Nat)),.box [.v (jX ex),.v (jX Y)] 0,.box [uT t] 0] [] (.v (sv (M a))) []:=by
 have w:=rO N;generalize M a=x at *;refine ak func309 ntmps309 ?_;refine aV (aM 0 9 (.a 9 (.q 10 .nil))) ?_;refine ay ?_;refine xq [] h ?_;exact zbI
open Go.Xp (be aP)
structure Wr(ex bk:FuncId)(tx:T->ah)(inl:List ah->Nat->ah):Prop where
 expr:∀a,iL a=true->rY a->lB a<=1099511627776->GF prog ex [uT a] [] (.v (sv (tx a))) []
 block:∀l(d:Nat),(inl l d).length<=1099511627776->l.length<=1099511627776->d<=1099511627776->GF prog bk [strs l,.v (ii (d:Nat))] [] (.v (sv (inl l d))) []
 mem:∀l d s,s∈l->s.length<=(inl l d).length
theorem yd(ex Y:FuncId)[o:fQ prog ex][i:fQ prog Y](M:T->ah)(inl:List ah->Nat->ah)(W:Wr ex Y M inl)(t:T)(d:Nat)(hd:d+1<=1099511627776)(S:t.aw.length<=1099511627776)(e:(nR M inl d t).length<=1099511627776)
  (h:∀a∈t.aw,(lj M inl (d+1) a).length<=1099511627776->GF prog 245 [.agg [.v (jX ex),.v (jX Y)],uT a,.v (ii ((d+1:Nat):Int))] [] (.v (sv (lj M inl (d+1) a))) []) :
  GF prog 190 [.agg [.v (jX ex),.v (jX Y)],uT t,.v (ii (d:Nat))] [] (.v (sv (nR M inl d t))) []:=by
 have n:=pP t.aw;rw[Kn,Ia]at e |-;have u:=W.block (t.aw.map (lj M inl (d+1))) d e ze2 L
 have O:∀a∈t.aw,GF prog 245 [.agg [.v (jX ex),.v (jX Y)],uT a,.v (ii ((d+1:Nat):Int))] [] (.v (sv (lj M inl (d+1) a))) []:=fun a B =>
  h a B (jC (W.mem _ d _ (x9.2 ⟨a,B,rfl⟩)) e)
 generalize inl (t.aw.map (lj M inl (d+1))) d=y at *;refine ak func190 ntmps190 ?_;refine GW.wk (Wk.A8 (t:=7) (a:=none) (c:=0) 9 1 rfl) ?_;refine GW.range (cB t.aw).length (fun k J C=>∃m H,J=U::U::.v (ii (d:Nat))::.loc 0 0::U::U::U::.vec 1 m::U::U::U::U::U::.sl 1 (cB t.aw)::.v (ii ((cB t.aw).length:Int))::.v (ii (k:Nat))::zU 17 []/\C=[.box 194 [.v (jX ex),.v (jX Y)],.vec 9 1 0 H]/\H.length=m/\H=((t.aw.take k).map (lj M inl (d+1))).map (fun s=>[GV.v (sv s)])/\m=k) ?_ L ?_ ?_ ?_
 ·exact⟨_,_,Wk.a6 aC,0,[],rfl,rfl,rfl,rfl,rfl⟩
 ·rintro k _ _⟨m,H,rfl,rfl,_⟩;exact dS
 ·rintro k _ _ N⟨m,H,rfl,rfl,j,R,A⟩;rw[n]at N
  have w:t.aw[k]?=some t.aw[k]:=by simp[N]
  have E:=rO w;have Q:=O t.aw[k] (getElem_mem N)
  have l:((t.aw.take (k+1)).map (lj M inl (d+1))).map (fun s=>[GV.v (sv s)])=H++[[.v (sv (lj M inl (d+1) t.aw[k]))]]:=by grind[c7]
  generalize t.aw[k]=kid at *;generalize lj M inl (d+1) kid=z at *;refine V ?_;refine I [] Q ?_;refine zbG ?_;exact⟨rfl,rfl,_,_,Wk.a6 aC,_,_,rfl,rfl,by simp[j],l.symm,by omega⟩
 ·rintro _ _⟨m,H,rfl,rfl,j,R,A⟩;rw[n,dx]at R;refine bg ?_;refine GW.wk (Wk.jJ (t:=7) rfl rfl rfl j) ?_;subst R;refine V ?_;refine jW [] u ?_;exact aK
theorem Wt{t:T}{n:Nat}(h:eB t.n.aj t.aw.length=true)(N:(n=1/\(t.n.aj=13\/t.n.aj=7\/t.n.aj=11\/t.n.aj=12))\/(n=2/\(t.n.aj=8\/t.n.aj=10))):t.aw.length=n:=by
 grind[eB]
theorem UI{t:T}(h:eB t.n.aj t.aw.length=true)(N:t.n.aj=9):t.aw.length=2\/t.aw.length=3:=by
 unfold eB at h;rw[N]at h;grind
theorem Ge(ex O:FuncId)[he:fQ prog ex][hb:fQ prog O](w:T->ah)(inl:List ah->Nat->ah)(W:Wr ex O w inl):∀(N:Nat)(t:T),be t<=N->iL t=true->rY t->lB t<=1099511627776->∀d,d+be t<=1099511627776->(lj w inl d t).length<=1099511627776 ->
  GF prog 245 [.agg [.v (jX ex),.v (jX O)],uT t,.v (ii (d:Nat))] [] (.v (sv (lj w inl d t))) []:=by
 intro N
 induction N with
 |zero=>intro t h;rw[Go.Xp.fa]at h;omega
 |succ N ih =>
 intro t hN Q hn hw d hd e;have G:=W.expr t Q hn hw;rw[Go.Xp.fa]at hN hd;rw[Go.Im.w5,aZ,Go.Im.qJ,hY]at Q;rw[Go.Im.qP]at hn;have hwe:=Go.Im.pj t
 have J:∀(l:List T)(a:T),a∈l->be a<=aP l:=by
  intro l
  induction l with
  |nil=>simp
  |cons b l ih2 =>
   grind[be,aP]
 have j:=fun(k:Nat)(a:T)(F:t.aw[k]?=some a)=>WJ ex O w t a k F (W.expr a (Q.2 a (bN F)) (Go.Im.kT hn.2 (bN F)) (by have:=Go.Im.tG (bN F);omega))
 have r:∀a∈t.aw,(nR w inl d a).length<=1099511627776->GF prog 190 [.agg [.v (jX ex),.v (jX O)],uT a,.v (ii (d:Nat))] [] (.v (sv (nR w inl d a))) []:=fun a o Lu=>by
  have h1:=J _ a o;have h2:=Go.Im.tG o;have h3:=Q.2 a o;have h4:=Go.Im.kT hn.2 o;rw[Go.Im.w5,aZ,Go.Im.qJ,hY]at h3;rw[Go.Im.qP]at h4;have h5:=Go.Xp.fa a;have h6:=Go.Xp.dU a.aw;have h7:=Go.Im.pj a
  refine yd ex O w inl W a d L L Lu fun b E Xu=>?_
  have h8:=J _ b E;have h9:=Go.Im.tG E
  grind[Go.Im.kT]
 rw[MO]at e |-;unfold yz at e |-;rw[Gx]at e |-;have wW:=@Wt t;have YH:=@UI t Q.1
 have wW:=fun n=>@wW n Q.1
 unfold uT at G |-;unfold uT at j;generalize Ue:t.n.aj=A at *
 by_cases Qd:A=13
 ·subst Qd
  have B:((13:Int)==13)=true:=by decide
  rw[ai rfl]at e |-;have m:=wW 1 (.inl ⟨rfl,.inl rfl⟩)
  obtain⟨a,o⟩:∃a,t.aw=[a]:=by
   match M:t.aw,m with
   |[a],_=>simp
  have s:=j 0 a ze2;rw[o]at e |-;rw[o]at s;simp only[List.map_cons,map_nil,getD_cons_zero,bp,length_cons,length_nil]at e |-;generalize w a=x at *;generalize cB [a]=u at *;refine dj func245 ntmps245 ?_;refine zaa ?_;refine aV (aM 0 8 (.a 8 (aM 9 3 .nil))) ?_;refine ay ?_;refine oz [] s ?_;exact zbI
 rw[ab Qd]at e |-
 have g13:(A==13)=false:=by grind
 by_cases h7:A=7
 ·subst h7
  have B:((7:Int)==13)=false:=by decide
  have S:((7:Int)==7)=true:=by decide
  rw[ai rfl]at e |-;have m:=wW 1 (.inl ⟨rfl,.inr (.inl rfl)⟩)
  obtain⟨a,o⟩:∃a,t.aw=[a]:=by
   match M:t.aw,m with
   |[a],_=>simp
  have s:=j 0 a ze2;rw[o]at e |-;rw[o]at s;simp only[List.map_cons,map_nil,getD_cons_zero,bp,length_cons,length_nil]at e |-;generalize w a=x at *;generalize cB [a]=u at *;refine dj func245 ntmps245 ?_;refine zaa ?_;refine aV (aM 0 7 (.a 7 (aM 8 3 .nil))) ?_;refine ay ?_;refine oz [] s ?_;exact zbI
 rw[ab h7]at e |-
 have g7:(A==7)=false:=by grind
 by_cases h8:A=8
 ·subst h8
  have B:((8:Int)==13)=false:=by decide
  have S:((8:Int)==7)=false:=by decide
  have f8:((8:Int)==8)=true:=by decide
  rw[ai rfl]at e |-;have m:=wW 2 (.inr ⟨rfl,.inl rfl⟩)
  obtain⟨a,b,o⟩:∃a b,t.aw=[a,b]:=by
   match M:t.aw,m with
   |[a,b],_=>simp
  have s:=j 0 a ze2;have h1:=j 1 b ze2;rw[o]at e |-;rw[o]at s h1;simp only[List.map_cons,map_nil,getD_cons_zero,getD_cons_succ,bp,length_cons,length_nil]at e |-;generalize w a=x at *;generalize w b=y at *;generalize cB [a,b]=u at *;refine dj func245 ntmps245 ?_;refine zaa ?_;refine aV (aM 0 7 (.q 10 (.a 7 (.q 8 (.q 9 (.a 11 (aM 12 3 .nil))))))) ?_;refine ay ?_;refine oz [] s ?_;refine ay ?_;refine oz [] h1 ?_;exact zbI
 rw[ab h8]at e |-
 have g8:(A==8)=false:=by grind
 by_cases h9:A=9
 ·subst h9
  have B:((9:Int)==13)=false:=by decide
  have S:((9:Int)==7)=false:=by decide
  have f8:((9:Int)==8)=false:=by decide
  have f9:((9:Int)==9)=true:=by decide
  rw[ai rfl]at e |-
  rcases YH rfl with m|m
  ·skip
   obtain⟨a,b,o⟩:∃a b,t.aw=[a,b]:=by
    match M:t.aw,m with
    |[a,b],_=>simp
   have s:=j 0 a ze2
   have Uo:(cB [a,b])[1]?=some [uT b]:=by rw[kx];rfl
   have H:(cB [a,b]).length=2:=by rfl
   have B3:(((cB [a,b]).length:Int)==3)=false:=by rfl
   rw[o]at e |-;rw[o]at s;rw[ab ze3]at e |-;exact zat
  ·skip
   obtain⟨a,b,c,o⟩:∃a b c,t.aw=[a,b,c]:=by
    match M:t.aw,m with
    |[a,b,c],_=>simp
   have s:=j 0 a ze2
   have Uo:(cB [a,b,c])[1]?=some [uT b]:=by rw[kx];rfl
   have Qq:(cB [a,b,c])[2]?=some [uT c]:=by rw[kx];rfl
   have H:(cB [a,b,c]).length=3:=by rfl
   have B3:(((cB [a,b,c]).length:Int)==3)=true:=by rfl
   rw[o]at e |-;rw[o]at s;rw[ai ze3]at e |-;simp only[List.map_cons,map_nil,getD_cons_zero,getD_cons_succ,bp,length_cons,length_nil]at e |-;have C:=r b ze2 L;have E:=r c ze2 L;generalize w a=x at *;generalize nR w inl d b=y at *;generalize nR w inl d c=z at *;clear r j ih;generalize cB [a,b,c]=u at *;refine dj func245 ntmps245 ?_;refine zaa ?_;refine aV (.q 0 (aM 4 8 (.a 1 (.q 2 (.q 3 (.a 12 (.q 13 (.q 14 .nil)))))))) ?_;refine ay ?_;refine oz [] s ?_;refine ay ?_;refine aX [] C ?_;refine V ?_;refine aV (aM 0 9 (.a 9 (aM 10 3 .nil))) ?_;refine ay ?_;refine aX [] E ?_;exact aK
 rw[ab h9]at e |-
 have g9:(A==9)=false:=by grind
 by_cases X:A=10
 ·subst X
  have B:((10:Int)==13)=false:=by decide
  have S:((10:Int)==7)=false:=by decide
  have f8:((10:Int)==8)=false:=by decide
  have f9:((10:Int)==9)=false:=by decide
  have R:((10:Int)==10)=true:=by decide
  rw[ai rfl]at e |-;have m:=wW 2 (.inr ⟨rfl,.inr rfl⟩)
  ·skip
   obtain⟨a,b,o⟩:∃a b,t.aw=[a,b]:=by
    match M:t.aw,m with
    |[a,b],_=>simp
   have s:=j 0 a ze2
   have Uo:(cB [a,b])[1]?=some [uT b]:=by rw[kx];rfl
   have H:(cB [a,b]).length=2:=by rfl
   have B3:(((cB [a,b]).length:Int)==3)=false:=by rfl
   rw[o]at e |-;rw[o]at s;exact zat
 rw[ab X]at e |-
 have g10:(A==10)=false:=by grind
 by_cases Y:A=11
 ·subst Y
  have B:((11:Int)==13)=false:=by decide
  have S:((11:Int)==7)=false:=by decide
  have f8:((11:Int)==8)=false:=by decide
  have f9:((11:Int)==9)=false:=by decide
  have R:((11:Int)==10)=false:=by decide
  have f11:((11:Int)==11)=true:=by decide
  rw[ai rfl]at e |-;have m:=wW 1 (.inl ⟨rfl,.inr (.inr (.inl rfl))⟩)
  obtain⟨a,o⟩:∃a,t.aw=[a]:=by
   match M:t.aw,m with
   |[a],_=>simp
  exact zaT
 rw[ab Y]at e |-
 have g11:(A==11)=false:=by grind
 by_cases Z:A=12
 ·subst Z
  have B:((12:Int)==13)=false:=by decide
  have S:((12:Int)==7)=false:=by decide
  have f8:((12:Int)==8)=false:=by decide
  have f9:((12:Int)==9)=false:=by decide
  have R:((12:Int)==10)=false:=by decide
  have f11:((12:Int)==11)=false:=by decide
  have f12:((12:Int)==12)=true:=by decide
  rw[ai rfl]at e |-;have m:=wW 1 (.inl ⟨rfl,.inr (.inr (.inr rfl))⟩)
  obtain⟨a,o⟩:∃a,t.aw=[a]:=by
   match M:t.aw,m with
   |[a],_=>simp
  exact zaT
 rw[ab Z]at e |-
 have g12:(A==12)=false:=by grind
 clear r j ih;generalize w t=x at *;refine dj func245 ntmps245 ?_;refine zaa ?_;refine jW [] G ?_;exact aK
open Go.Xp (cQ)
open Go.Sp (Src)
theorem OL(ex O:FuncId)[he:fQ prog ex][hb:fQ prog O](F:T->ah)(inl:List ah->Nat->ah)(W:Wr ex O F inl)(p:Src)(aL:List T)(E:(nO F inl p aL).length<=1099511627776)(hft:p.av.length=aL.length)
  (hg:p.au.length<=1099511627776)(ha:p.aq.length<=1099511627776)(hf:p.av.length<=1099511627776)(DN:∀a∈p.aq,-9223372036854775808<=a.size/\a.size<=9223372036854775807)(Hq:∀f∈p.av,f.params.length<=1099511627776)
  (ht:∀t∈aL,iL t=true/\rY t/\lB t<=1099511627776/\be t+1<=1099511627776) :
  GF prog 125 [.agg (aB p),.sl 1 (cB aL),.v (jX ex),.v (jX O)] [] (.v (sv (nO F inl p aL))) []:=by
 have Z:(p.au.map fun s=>[GV.v (sv s)]).length=p.au.length:=by simp
 have X:(p.aq.map bb).length=p.aq.length:=by simp
 have Y:(p.av.map aI).length=p.av.length:=by simp
 have l2:=AG (dM F inl) (p.av.zip aL) (eG a1 (eG g1 [] p.au) p.aq);have l1:=AG a1 p.aq (eG g1 [] p.au);unfold nO at E |-;refine ak func125 ntmps125 ?_;refine GW.wk (Wk.A8 (t:=9) (a:=none) (c:=0) 5 1 rfl) ?_;refine GW.range (p.au.map fun s=>[GV.v (sv s)]).length (fun k R Γ=>∃r m d,R=[U,.sl 1 (cB aL),.v (jX ex),.v (jX O),.loc 0 0,U,U,U,U,.vec 1 m,U,U,U,U,U,U,U,U,strs p.au,.v (ii ((p.au.map fun s=>[GV.v (sv s)]).length:Int)),.v (ii (k:Nat)),U,U,U,U,U,U,U,U,U,U,U,U,U,U,U,U,U,U,U,U,U,U,U,U,U,U,U,U,U,U,U,U,U,U,U,U,U,U,U,U,U,U,U,U,U,U,U,U,U,U,U,U,U,U,U,U,U,U,U,U,U]/\Γ=[.box 28 (aB p),.vec 5 1 0 d]/\d.length=m/\d=di r/\r=eG g1 [] (p.au.take k)) ?_ L ?_ ?_ ?_
 ·exact⟨_,_,Wk.a6 aC,[],0,[],rfl,rfl,rfl,rfl,rfl⟩
 ·rintro k _ _⟨r,m,d,rfl,rfl,_⟩;exact dS
 ·rintro k _ _ u⟨r,m,d,rfl,rfl,G,i,H⟩;rw[Z]at u
  have Q:p.au[k]?=some p.au[k]:=by simp[u]
  have N:(p.au.map fun s=>[GV.v (sv s)])[k]?=some [.v (sv p.au[k])]:=by grind
  have j:eG g1 [] (p.au.take (k+1))=r++g1 p.au[k]:=by grind[c7,wG]
  have J:=wH g1 p.au (k+1) [];rw[j,bp]at J
  have Xy:d.length=r.length:=by grind
  generalize p.au[k]=z at *
  have hz:(g1 z).length=z.length+6:=by simp[g1]
  refine V ?_;refine GL.Av (str:=g1 z) rfl rfl rfl aH rfl L ?_;refine zbt ?_;exact⟨rfl,rfl,_,_,Wk.a6 aC,r++g1 z,_,_,rfl,rfl,by grind,by grind,j.symm⟩
 ·rintro _ _⟨r,m,d,rfl,rfl,G,i,H⟩;rw[Z,dx]at H;rw[<-H]at E l1 l2 |-;refine zcl ?_;refine GW.range (p.aq.map bb).length (fun k R Γ=>∃e m d,R=U::.sl 1 (cB aL)::.v (jX ex)::.v (jX O)::.loc 0 0::U::U::U::U::.vec 1 m::zU 21 (.sl 2 (p.aq.map bb)::.v (ii ((p.aq.map bb).length:Int))::.v (ii (k:Nat))::zU 48 [])/\Γ=[.box 28 (aB p),.vec 5 1 0 d]/\d.length=m/\d=di e/\e=eG a1 r (p.aq.take k)) ?_ L ?_ ?_ ?_
  ·exact⟨_,_,Wk.a6 aC,r,m,d,rfl,rfl,G,i,rfl⟩
  ·rintro k _ _⟨e,m,d,rfl,rfl,_⟩;exact dS
  ·clear G i;rintro k _ _ u⟨e,m,d,rfl,rfl,G,i,B⟩;rw[X]at u
   have Q:p.aq[k]?=some p.aq[k]:=by simp[u]
   have N:(p.aq.map bb)[k]?=some (bb p.aq[k]):=by grind
   have j:eG a1 r (p.aq.take (k+1))=e++a1 p.aq[k]:=by grind[c7,wG]
   have J:=wH a1 p.aq (k+1) r;rw[j,bp]at J
   have Xy:d.length=e.length:=by grind
   have A:=DN p.aq[k] (getElem_mem u);generalize p.aq[k]=z at *;have hit:=Ka z.size A.1 A.2;have Hj:=wY A
   have hz:(a1 z).length=z.name.length+(po z.size).length+8:=by grind[a1]
   unfold bb at N;refine V ?_;refine aV (aM 0 7 (.a 7 (.q 8 (.q 9 (.a 10 (.q 11 .nil)))))) ?_;refine ay ?_;refine aX [] hit ?_;refine OA rfl rfl (GL.Av (str:=a1 z) rfl rfl rfl aH rfl L (GL.nil (bg (df.mk zeZ ?_))))
   refine M5 ?_;refine bj ?_;exact⟨rfl,rfl,_,_,(Wk.cut (n:=2) (bl _) rfl).trans (Wk.a6 aC),e++a1 z,_,_,rfl,rfl,by grind,by grind,j.symm⟩
  ·clear G i;rintro _ _⟨e,m,d,rfl,rfl,G,i,B⟩;rw[X,dx]at B;rw[<-B]at E l2 |-
   have Ul:∀(k:Nat)(f:Go.Sp.Fn),p.av[k]?=some f->f.params.length<=1099511627776:=fun k f h=>Hq f (bN h)
   refine zcl ?_;refine GW.range (p.av.map aI).length (fun k R Γ=>∃o m d,R=U::.sl 1 (cB aL)::U::U::U::U::U::U::U::.vec 1 m::U::U::U::U::.loc 2 0::zU 38 (.sl 3 (p.av.map aI)::.v (ii ((p.av.map aI).length:Int))::.v (ii (k:Nat))::zU 26 [])/\Γ=[.box 28 (aB p),.vec 5 1 0 d,.box 194 [.v (jX ex),.v (jX O)]]/\d.length=m/\d=di o/\o=eG (dM F inl) e ((p.av.zip aL).take k)) ?_ L ?_ ?_ ?_
   ·exact⟨_,_,Wk.a6 aC,e,m,d,rfl,rfl,G,i,rfl⟩
   ·rintro k _ _⟨o,m,d,rfl,rfl,_⟩;exact dS
   ·clear G i;rintro k _ _ u⟨o,m,d,rfl,rfl,G,i,C⟩;rw[Y]at u
    have S:k<aL.length:=by omega
    have Q:p.av[k]?=some p.av[k]:=by simp[u]
    have hkt:aL[k]?=some aL[k]:=by simp
    have N:(p.av.map aI)[k]?=some (aI p.av[k]):=by grind
    have aas:=rO hkt
    have hkz:(p.av.zip aL)[k]?=some (p.av[k],aL[k]):=by grind
    have j:eG (dM F inl) e ((p.av.zip aL).take (k+1))=o++dM F inl (p.av[k],aL[k]):=by grind[c7,wG]
    have J:=wH (dM F inl) (p.av.zip aL) (k+1) e;rw[j,bp]at J
    have Xy:d.length=o.length:=by grind
    have⟨q1,q2,q3,q4⟩:=ht aL[k] (getElem_mem S);have Um:=Ul k _ Q;generalize p.av[k]=f at *;generalize aL[k]=t at *
    have hz:(dM F inl (f,t)).length=f.name.length+(cQ f.params).length+(nR F inl 0 t).length+9:=by unfold dM;simp;omega
    have hJ:=Kb f.params L Um
    have YT:∀(l:List T)(a:T),a∈l->be a<=aP l:=by
     intro l
     induction l with
     |nil=>simp
     |cons b l ih2 =>
      grind[be,aP]
    have hB:=yd ex O F inl W t 0 L (by grind[Go.Xp.dU,Go.Xp.fa]) L fun a M Lu=>by
     have h1:=YT _ a M;have h2:=Go.Xp.fa t;have h3:=tG M;have h4:=pj t;rw[w5,aZ,qJ,hY]at q1;rw[qP]at q2;exact Ge ex O F inl W _ a (a8 _) (q1.2 a M) (kT q2.2 M) L (0+1) L Lu
    unfold aI at N;refine V ?_;refine aV (aM 0 7 (aM 10 5 (.a 7 (.q 8 (.q 9 (.a 15 (.q 16 (.q 17 (.a 18 (.q 19 .nil)))))))))) ?_;refine ay ?_;refine aX [] hJ ?_;refine aX [] hB ?_;refine OA rfl rfl (GL.Av (str:=dM F inl (f,t)) rfl rfl rfl aH rfl L (GL.nil (bg (df.mk zeZ ?_))))
    refine M5 ?_;refine bj ?_;exact⟨rfl,rfl,_,_,(Wk.cut (n:=3) (bl _) rfl).trans (Wk.a6 aC),o++dM F inl (f,t),_,_,rfl,rfl,by grind,by grind,j.symm⟩
   ·clear G i;rintro _ _⟨o,m,d,rfl,rfl,G,i,C⟩;rw[Y,show(p.av.zip aL).take p.av.length=p.av.zip aL from ml ze2]at C;rw[<-C]at E |-;refine bg ?_;refine GW.wk (Wk.jJ (t:=9) rfl rfl rfl G) ?_
    have aae:d=o.map fun c=>[.v (.int .u8 (c.toNat:Int))]:=i
    exact aK
end Go.Xg
namespace Go.Xg
open Go.RowKit Go.Xw Go.Proofs Tryz
open GV (U)
open Go.Im (fx rF rG s9 mQ oa)
attribute [local irreducible] GW GL GO D GC GA bo bn
theorem Gl(a b:List ah)(ha:a.length<=1099511627776)(m:b.length<=1099511627776):GF prog 130 [strs a,strs b] [] (.v (.bool (fx (fun x y=>x==y) a b))) []:=by
 have d:(a.map fun s=>[GV.v (sv s)]).length=a.length:=by simp
 have e:(b.map fun s=>[GV.v (sv s)]).length=b.length:=by simp
 by_cases M:a.length=b.length
 ·have T:(((a.map fun s=>[GV.v (sv s)]).length:Int) != ((b.map fun s=>[GV.v (sv s)]).length:Int))=false:=by grind
  refine ak func130 ntmps130 ?_;refine GW.range (a.map fun s=>[GV.v (sv s)]).length (fun k J u=>J=[strs a,strs b,U,U,U,U,U,U,U,U,U,U,.v (ii ((a.map fun s=>[GV.v (sv s)]).length:Int)),.v (ii (k:Nat)),U,U,U,U,U,U,U,U,U,U,U,U]/\u=[]/\s9 (fun x y=>x==y) a b k) ?_ L ?_ ?_ ?_
  ·exact zbm
  ·exact jA
  ·rintro k _ _ N⟨rfl,rfl,H⟩;rw[d]at N
   have t:a[k]?=some a[k]:=by simp[N]
   have Q:k<b.length:=by omega
   have z:b[k]?=some b[k]:=by simp
   have l:(a.map fun s=>[GV.v (sv s)])[k]?=some [GV.v (sv a[k])]:=by grind
   have E:(b.map fun s=>[GV.v (sv s)])[k]?=some [GV.v (sv b[k])]:=by grind
   generalize a[k]=x at *;generalize b[k]=y at *
   cases o:(x==y)with
   |true =>
    have i:(x != y)=false:=by grind
    have c:(!(x==y))=false:=by grind
    refine zcS ?_;exact zck
   |false =>
    have i:(x != y)=true:=by grind
    have c:(!(x==y))=true:=by grind
    rw[rG t z (p:=fun x y=>x==y) o];refine zcS ?_;exact zbI
  ·rintro _ _⟨rfl,rfl,H⟩;rw[d]at H;rw[oa M H];exact aK
 ·have T:(((a.map fun s=>[GV.v (sv s)]).length:Int) != ((b.map fun s=>[GV.v (sv s)]).length:Int))=true:=by grind
  rw[rF M];refine ak func130 ntmps130 ?_;exact az
theorem Gk(a b:List Int)(ha:a.length<=1099511627776)(m:b.length<=1099511627776):GF prog 41 [ints a,ints b] [] (.v (.bool (fx (fun x y=>x==y) a b))) []:=by
 have d:(a.map fun s=>[GV.v (ii s)]).length=a.length:=by simp
 have e:(b.map fun s=>[GV.v (ii s)]).length=b.length:=by simp
 by_cases M:a.length=b.length
 ·have T:(((a.map fun s=>[GV.v (ii s)]).length:Int) != ((b.map fun s=>[GV.v (ii s)]).length:Int))=false:=by grind
  refine ak func41 ntmps41 ?_;refine GW.range (a.map fun s=>[GV.v (ii s)]).length (fun k J u=>J=[ints a,ints b,U,U,U,U,U,U,U,U,U,U,.v (ii ((a.map fun s=>[GV.v (ii s)]).length:Int)),.v (ii (k:Nat)),U,U,U,U,U,U,U,U,U,U,U,U]/\u=[]/\s9 (fun x y=>x==y) a b k) ?_ L ?_ ?_ ?_
  ·exact zbm
  ·exact jA
  ·rintro k _ _ N⟨rfl,rfl,H⟩;rw[d]at N
   have t:a[k]?=some a[k]:=by simp[N]
   have Q:k<b.length:=by omega
   have z:b[k]?=some b[k]:=by simp
   have l:(a.map fun s=>[GV.v (ii s)])[k]?=some [GV.v (ii a[k])]:=by simp
   have E:(b.map fun s=>[GV.v (ii s)])[k]?=some [GV.v (ii b[k])]:=by simp
   generalize a[k]=x at *;generalize b[k]=y at *
   cases o:(x==y)with
   |true =>
    have i:(x != y)=false:=by grind
    have c:(!(x==y))=false:=by grind
    refine zcS ?_;exact zck
   |false =>
    have i:(x != y)=true:=by grind
    have c:(!(x==y))=true:=by grind
    rw[rG t z (p:=fun x y=>x==y) o];refine zcS ?_;refine bj ?_;refine bA ?_
    grind[bx]
  ·rintro _ _⟨rfl,rfl,H⟩;rw[d]at H;rw[oa M H];refine zaW ?_
   grind[bx]
 ·have T:(((a.map fun s=>[GV.v (ii s)]).length:Int) != ((b.map fun s=>[GV.v (ii s)]).length:Int))=true:=by grind
  rw[rF M];refine ak func41 ntmps41 ?_;refine bA ?_
  grind[bx]
open Go.Xp (Nd)
open Go.Im (rl kM)
theorem Ph(a b:Go.Sp.Fn)(ha:a.params.length<=1099511627776)(i:b.params.length<=1099511627776):GF prog 133 [.agg (aI a),.agg (aI b)] [] (.v (.bool (rl a b))) []:=by
 have e:=Gl a.params b.params ha i;unfold rl aI
 cases o:(a.name==b.name)with
 |false =>
  refine ak func133 ntmps133 ?_;exact az
 |true =>
  cases c:fx (fun x y=>x==y) a.params b.params with
  |false =>
   rw[c]at e;refine ak func133 ntmps133 ?_;exact zc6
  |true =>
   rw[c]at e;refine ak func133 ntmps133 ?_;exact zc6
theorem JK(a b:Nd)(ha:a.aw.length<=1099511627776)(i:b.aw.length<=1099511627776):GF prog 135 [.agg (aR a),.agg (aR b)] [] (.v (.bool (kM a b))) []:=by
 have e:=Gk a.aw b.aw ha i;unfold kM aR;generalize fx (fun x y=>x==y) a.aw b.aw=q at *
 cases o:(a.aj==b.aj)with
 |false =>
  exact zea
 |true =>
  cases c:(a.n==b.n)with
  |false =>
   exact zea
  |true =>
   cases G:(a.s==b.s)with
   |false =>
    exact zea
   |true =>
    refine ak func135 ntmps135 ?_;exact zc6
theorem Fx(a b:List Go.Sp.Fn)(ha:a.length<=1099511627776)(i:b.length<=1099511627776)(X:∀x∈a,x.params.length<=1099511627776)(F:∀x∈b,x.params.length<=1099511627776) :
  GF prog 132 [.sl 3 (a.map aI),.sl 3 (b.map aI),.v (.func (.func 133) #[] #[])] [] (.v (.bool (fx rl a b))) []:=by
 have d:(a.map aI).length=a.length:=by simp
 have e:(b.map aI).length=b.length:=by simp
 by_cases M:a.length=b.length
 ·have T:(((a.map aI).length:Int) != ((b.map aI).length:Int))=false:=by grind
  refine ak func132 ntmps132 ?_;refine GW.range (a.map aI).length (fun k J u=>J=U::.sl 3 (b.map aI)::.v (.func (.func 133) #[] #[])::zU 12 (.sl 3 (a.map aI)::.v (ii ((a.map aI).length:Int))::.v (ii (k:Nat))::zU 14 [])/\u=[]/\s9 rl a b k) ?_ L ?_ ?_ ?_
  ·exact zbm
  ·exact jA
  ·rintro k _ _ N⟨rfl,rfl,H⟩;rw[d]at N
   have t:a[k]?=some a[k]:=by simp[N]
   have Q:k<b.length:=by omega
   have z:b[k]?=some b[k]:=by simp
   have c:(a.map aI)[k]?=some (aI a[k]):=by grind
   have E:(b.map aI)[k]?=some (aI b[k]):=by grind
   have G:=Ph a[k] b[k] (X _ (getElem_mem N)) (F _ (getElem_mem Q));generalize a[k]=x at *;generalize b[k]=y at *;unfold aI at c E G
   cases o:rl x y with
   |true =>
    exact zbV
   |false =>
    rw[o]at G;rw[rG t z (p:=rl) o];refine V ?_;refine jW [] G ?_;exact aK
  ·rintro _ _⟨rfl,rfl,H⟩;rw[d]at H;rw[oa M H];exact aK
 ·have T:(((a.map aI).length:Int) != ((b.map aI).length:Int))=true:=by grind
  rw[rF M];refine ak func132 ntmps132 ?_;exact az
theorem Fy(a b:List Nd)(ha:a.length<=1099511627776)(i:b.length<=1099511627776)(X:∀x∈a,x.aw.length<=1099511627776)(F:∀x∈b,x.aw.length<=1099511627776) :
  GF prog 134 [.sl 5 (a.map aR),.sl 5 (b.map aR),.v (.func (.func 135) #[] #[])] [] (.v (.bool (fx kM a b))) []:=by
 have d:(a.map aR).length=a.length:=by simp
 have e:(b.map aR).length=b.length:=by simp
 by_cases M:a.length=b.length
 ·have T:(((a.map aR).length:Int) != ((b.map aR).length:Int))=false:=by grind
  refine ak func134 ntmps134 ?_;refine GW.range (a.map aR).length (fun k J u=>J=U::.sl 5 (b.map aR)::.v (.func (.func 135) #[] #[])::zU 12 (.sl 5 (a.map aR)::.v (ii ((a.map aR).length:Int))::.v (ii (k:Nat))::zU 14 [])/\u=[]/\s9 kM a b k) ?_ L ?_ ?_ ?_
  ·exact zbm
  ·exact jA
  ·rintro k _ _ N⟨rfl,rfl,H⟩;rw[d]at N
   have t:a[k]?=some a[k]:=by simp[N]
   have Q:k<b.length:=by omega
   have z:b[k]?=some b[k]:=by simp
   have c:(a.map aR)[k]?=some (aR a[k]):=by grind
   have E:(b.map aR)[k]?=some (aR b[k]):=by grind
   have G:=JK a[k] b[k] (X _ (getElem_mem N)) (F _ (getElem_mem Q));generalize a[k]=x at *;generalize b[k]=y at *;unfold aR at c E G
   cases o:kM x y with
   |true =>
    exact zbV
   |false =>
    rw[o]at G;rw[rG t z (p:=kM) o];refine V ?_;refine jW [] G ?_;exact aK
  ·rintro _ _⟨rfl,rfl,H⟩;rw[d]at H;rw[oa M H];exact aK
 ·have T:(((a.map aR).length:Int) != ((b.map aR).length:Int))=true:=by grind
  rw[rF M];refine ak func134 ntmps134 ?_;exact az
end Go.Xg
namespace Go.Xg
open Go.RowKit Go.Xw Go.Proofs Tryz
open GV (U)
open Go.Xp (Ar)
open Go.Im (yf fx rF rG s9 mQ oa)
theorem V7(w:World)(s s':ah)(n o:Int):(Op.equalIn 10000 79 (.agg #[sv s,ii n]) (.agg #[sv s',ii o])).run prog w=.ok ((s==s')&&(n==o)) w:=by
 have l:(prog.fieldsOf 79).toList=[(prog.fieldsOf 79)[0]!,(prog.fieldsOf 79)[1]!]:=by kernel_rfl
 have X:((prog.fieldsOf 79)[0]!).type=9:=by kernel_rfl
 have a1:((prog.fieldsOf 79)[1]!).type=3:=by kernel_rfl
 have S:((prog.fieldsOf 79)[0]!).offset=0:=by kernel_rfl
 have m:((prog.fieldsOf 79)[1]!).offset=1:=by kernel_rfl
 have c:((prog.fieldsOf 79)[0]!).name = "Name" := by kernel_rfl
 have u:((prog.fieldsOf 79)[1]!).name = "Size" := by kernel_rfl
 rw[show(10000:Nat)=9999+1 from rfl,run_equalIn_agg w 9999 _ _ _ (by kernel_rfl) (by kernel_rfl),l];generalize(prog.fieldsOf 79)[0]! = r at *;generalize(prog.fieldsOf 79)[1]! = dM at *
 have G:prog.underlying 9=some .string:=by kernel_rfl
 have i:prog.underlying 3=some (.int .i64):=by kernel_rfl
 have A:∀(a:ah)(b:Int)w,(part r.type #[sv a,ii b] r.offset).run prog w=.ok (sv a) w:=fun a b w=>by
  rw[X,S];rfl
 have H:∀(a:ah)(b:Int)w,(part dM.type #[sv a,ii b] dM.offset).run prog w=.ok (ii b) w:=fun a b w=>by
  rw[a1,m];rfl
 have Z:∀w,(Op.equalIn 9999 r.type (sv s) (sv s')).run prog w=.ok (s==s') w:=fun w=>by
  rw[X,show(9999:Nat)=9998+1 from rfl];have:=run_equalIn_string (P:=prog) w 9998 9 ⟨s.toArray⟩ ⟨s'.toArray⟩ G;rw[show sv s=.string ⟨s.toArray⟩from rfl,show sv s'=.string ⟨s'.toArray⟩from rfl,this];simp
 have z:∀w,(Op.equalIn 9999 dM.type (ii n) (ii o)).run prog w=.ok (n==o) w:=fun w=>by
  rw[a1,show(9999:Nat)=9998+1 from rfl];exact run_equalIn_int (P:=prog) w 9998 3 .i64 .i64 n o i
 have q:r.name ≠ "_" := by grind
 have t:dM.name ≠ "_" := by grind
 rw[Op.eqFields,ai q];simp only[Sem.run_bind,A,Result.andThen_ok,Z]
 cases s==s' with
 |false=>simp
 |true =>
  simp only[Bool.not_true,Bool.false_eq_true,if_false,Bool.true_and];rw[Op.eqFields,ai t];simp only[Sem.run_bind,H,Result.andThen_ok,z]
  cases n==o with
  |false=>simp
  |true=>rfl
theorem D.UW{fr:am}{Γ:ap}{x y:Operand}{k:TypeId}{s s':ah}{n o:Int}(hx:bf fr x=.agg [.v (sv s),.v (ii n)])(C:bf fr y=.agg [.v (sv s'),.v (ii o)]) :
  D prog (.binOp .neq 79 x y k) fr Γ (.v (.bool (!((s==s')&&(n==o))))):=fun B K u w l i O=>by
 have E:∀{v:Value}{a b:Value},Rel K u v (.agg [.v a,.v b])->v=.agg #[a,b]:=fun{v a b}h=>by
  cases h with
  |agg t _ M W =>
   match t,M with
   |[r,q],_ =>
    have A:=Rel.eE (W 0 r (.v a) rfl rfl);have e:=Rel.eE (W 1 q (.v b) rfl rfl)
    grind
 have m:=E (by rw[<-hx];exact O.ev x);have Y:=E (by rw[<-C];exact O.ev y);refine⟨_,fun d F G z=>?_,.v _⟩;have X:=run_eqGuard_agg (P:=prog) w .neq 79 x y #[sv s,ii n] #[sv s',ii o] (by kernel_rfl);have c:=run_neq_struct (P:=prog) w 79 #[sv s,ii n] #[sv s',ii o];rw[V7,Result.andThen_ok]at c;simp[execOp,m,Y,X,c]
attribute [local irreducible] GW GL GO D GC GA bo bn
theorem Ra(a b:List Ar)(ha:a.length<=1099511627776)(l:b.length<=1099511627776):GF prog 131 [(.sl 2 (a.map fun s=>bb s)),(.sl 2 (b.map fun s=>bb s))] [] (.v (.bool (fx yf a b))) []:=by
 have d:(a.map fun s=>bb s).length=a.length:=by simp
 have i:(b.map fun s=>bb s).length=b.length:=by simp
 by_cases M:a.length=b.length
 ·have T:(((a.map fun s=>bb s).length:Int) != ((b.map fun s=>bb s).length:Int))=false:=by grind
  refine ak func131 ntmps131 ?_;refine GW.range (a.map fun s=>bb s).length (fun k J u=>J=(.sl 2 (a.map fun s=>bb s))::(.sl 2 (b.map fun s=>bb s))::U::U::U::U::U::U::U::U::U::U::.v (ii ((a.map fun s=>bb s).length:Int))::.v (ii (k:Nat))::zU 12 []/\u=[]/\s9 yf a b k) ?_ L ?_ ?_ ?_
  ·exact zbm
  ·exact jA
  ·rintro k _ _ N⟨rfl,rfl,H⟩;rw[d]at N
   have t:a[k]?=some a[k]:=by simp[N]
   have Q:k<b.length:=by omega
   have z:b[k]?=some b[k]:=by simp
   have e:(a.map fun s=>bb s)[k]?=some (bb a[k]):=by grind
   have E:(b.map fun s=>bb s)[k]?=some (bb b[k]):=by grind
   generalize a[k]=x at *;generalize b[k]=y at *;unfold bb at e E
   cases o:yf x y with
   |true =>
    have c:(!((x.name==y.name)&&(x.size==y.size)))=false:=by grind[yf]
    refine zcS ?_;refine ay ?_;apply OP
    ·exact rfl
    ·intro u;exact D.UW rfl rfl
    refine lx ?_;exact zck
   |false =>
    have c:(!((x.name==y.name)&&(x.size==y.size)))=true:=by grind[yf]
    rw[rG t z (p:=yf) o];refine zcS ?_;refine ay ?_;apply OP
    ·exact rfl
    ·intro u;exact D.UW rfl rfl
    refine lx ?_;exact zbI
  ·rintro _ _⟨rfl,rfl,H⟩;rw[d]at H;rw[oa M H];refine zaW ?_
   grind[bx]
 ·have T:(((a.map fun s=>bb s).length:Int) != ((b.map fun s=>bb s).length:Int))=true:=by grind
  rw[rF M];refine ak func131 ntmps131 ?_;refine bA ?_
  grind[bx]
end Go.Xg
set_option maxHeartbeats 1000000
namespace Go.Xg
open Go.RowKit Go.Xw Go.Proofs Tryz Go.Sp Go.Im
open GV (U)
open Go.Xp (T one levels)
attribute [local irreducible] GW GL GO D GC GA bo bn
structure Gm(f:Nat):Prop where
 expr:∀d p t q x,p.ok->d+f<=1099511627776->iE f (.expr d) p=some (t,q)->GF prog 354 [.loc 0 0,.v (ii (d:Nat))] [cK p x] (qT t) [cK q x]
 level:∀k d p t q x,p.ok->k<=9->d+f<=1099511627776->iE f (.level k d) p=some (t,q)->GF prog 372 [.loc 0 0,.v (ii (k:Nat)),.v (ii (d:Nat))] [cK p x] (qT t) [cK q x]
 operand:∀d p t q x,p.ok->d+f<=1099511627776->iE f (.operand d) p=some (t,q)->GF prog 379 [.loc 0 0,.v (ii (d:Nat))] [cK p x] (qT t) [cK q x]
 exprs:∀d p l q x,p.ok->d+f<=1099511627776->iA f d [] p=some (l,q)->GF prog 381 [.loc 0 0,.v (ii (d:Nat))] [cK p x] (.sl 1 (jY l)) [cK q x]
theorem Ft:GF prog 315 [.v (ii 0),.v (ii 0),.v (sv []),.sl 1 []] [] (qT T.zero) []:=fF 0 0 [] [] [] rfl
theorem TM{f:Nat}(C:Gm f)(d:Nat)(p:RS)(t:T)(q:RS)(x:PX)(X:p.ok)(hd:d+(f+1)<=1099511627776)(h:iE (f+1) (.expr d) p=some (t,q)) :
  GF prog 354 [.loc 0 0,.v (ii (d:Nat))] [cK p x] (qT t) [cK q x]:=by
 rw[iE]at h;have Z:=vH p d x X
 by_cases W:(cN p d).code=0
 ·have u:((cN p d).code==0)=true:=by grind
  rw[ai W]at h;rw[u]at Z;rw[oY W]at h Z;have M:=C.level 0 (d+1) p t q x X L L h;refine ak func354 ntmps354 ?_;refine I [0] Z ?_;exact zdF
 ·have u:((cN p d).code==0)=false:=by grind
  rw[ab W]at h;rw[u]at Z;cases h;refine ak func354 ntmps354 ?_;refine I [0] Z ?_;refine I [] Ft ?_;exact az
theorem R9{f:Nat}(C:∀Q,Q<=f->Gm Q)(k d:Nat)(p:RS)(t:T)(q:RS)(x:PX)(e:p.ok)(G:k<=9)(hd:d+(f+1)<=1099511627776)(h:iE (f+1) (.level k d) p=some (t,q)) :
  GF prog 372 [.loc 0 0,.v (ii (k:Nat)),.v (ii (d:Nat))] [cK p x] (qT t) [cK q x]:=by
 rw[iE]at h
 by_cases o:k=9
 ·subst o;rw[ai rfl]at h;have ho:=(C f (a8 _)).operand d p t q x e L h;refine ak func372 ntmps372 ?_;refine I [] ti ?_;refine I [0] ho ?_;exact az
 ·rw[ab o]at h
  have W:((k:Int)==9)=false:=by grind
  cases u:iE f (.level (k+1) d) p with
  |none=>grind
  |some r =>
   have⟨out,Y⟩:=r;rw[u]at h;simp only at h;have N:=((kj f).1 _ _ _ _ e u).ok e;have X:=(C f (a8 _)).level (k+1) d p out Y x e L L u;refine ak func372 ntmps372 ?_;refine I [] ti ?_;refine I [0] X ?_;refine GW.loop (fun z:Nat × T × RS=>z.1) (fun z fr Γ=>fr=.loc 0 0::.v (ii (k:Nat))::.v (ii (d:Nat))::U::U::U::U::qT z.2.1::zU 56 []/\Γ=[cK z.2.2 x]/\z.2.2.ok/\z.1<=f/\iE z.1 (.loop k d z.2.1) z.2.2=some (t,q)) (f,out,Y) ?_ ?_
   ·exact⟨_,_,Wk.a6 aC,rfl,rfl,N,a8 _,h⟩
   ·clear h u X;rintro⟨g,out,p⟩_ _⟨rfl,rfl,e,E,h⟩;simp only at e E h
    cases g with
    |zero=>simp[iE]at h
    |succ g =>
    rw[iE]at h
    have G:k<9:=by omega
    have m:=rq p 0 x e aU
    by_cases S:p.code=0
    ·have B:(p.code==0)=true:=by grind
     by_cases R:(tok p 0).aj=3
     ·have w:((tok p 0).aj==3)=true:=by grind
      have B1:=HD G;have c:=jm (levels.getD k []) (tok p 0).s (AZ k G)
      by_cases hit:(levels.getD k []).contains (tok p 0).s=true
      ·rw[ai ⟨S,R,hit⟩]at h;rw[hit]at c;have J:p.i<p.l.length:=rQ (k:=0) L;have yl:=e.2
       cases A:iE g (.level (k+1) d) p.next with
       |none=>grind
       |some r =>
        have⟨b,Z⟩:=r;rw[A]at h;simp only at h;have j:=(cR J).ok e;have O:=((kj g).1 _ _ _ _ j A).ok j
        have H:=(C g L).level (k+1) d p.next b Z x j L L A
        generalize tok p 0=tk at *;have M:=fF 6 tk.at_ tk.s [out,b] [[qT out],[qT b]] (gX _);refine zex ?_;refine V ?_;refine I [0] m ?_;refine aV (aM 0 9 (.a 9 (.a 10 (.a 11 (.q 12 .nil))))) ?_;refine ay ?_;refine aX [0] H ?_;refine zar ?_;refine aX [] M ?_;refine V ?_;exact⟨(g,one 6 tk.at_ tk.s [out,b],Z),⟨_,_,(Wk.cut (n:=1) (eF rfl) rfl).trans (Wk.a6 aC),rfl,rfl,O,by omega,h⟩,by simp⟩
      ·have hit:(levels.getD k []).contains (tok p 0).s=false:=by grind
       rw[ab ze2]at h
       obtain⟨rfl,rfl⟩:out=t/\p=q:=by grind
       rw[hit]at c;generalize tok p 0=tk at *;refine zex ?_;exact zcZ
     ·have w:((tok p 0).aj==3)=false:=by grind
      rw[ab (fun F=>R F.2.1)]at h
      obtain⟨rfl,rfl⟩:out=t/\p=q:=by grind
      generalize tok p 0=tk at *;refine zaJ ?_;refine ay ?_;refine bW [0] m ?_;exact zcZ
    ·have B:(p.code==0)=false:=by grind
     rw[ab (fun F=>S F.1)]at h
     obtain⟨rfl,rfl⟩:out=t/\p=q:=by grind
     refine zaJ ?_;refine bj ?_;refine jF ?_;exact aK
theorem RJ{f:Nat}(C:∀Z,Z<=f->Gm Z)(d:Nat)(p:RS)(l:List T)(q:RS)(x:PX)(X:p.ok)(hd:d+(f+1)<=1099511627776)(h:iA (f+1) d [] p=some (l,q)) :
  GF prog 381 [.loc 0 0,.v (ii (d:Nat))] [cK p x] (.sl 1 (jY l)) [cK q x]:=by
 refine ak func381 ntmps381 ?_;refine GW.wk (Wk.A8 (t:=5) (a:=none) (c:=0) 132 1 rfl) ?_;refine GW.loop (fun z:Nat × List T × RS=>z.1) (fun z M F=>∃n H,M=.loc 0 0::.v (ii (d:Nat))::U::U::U::.vec 1 n::zU 26 []/\F=[cK z.2.2 x,.vec 132 1 0 H]/\H.length=n/\H=jY z.2.1/\n+z.1<=f+1/\z.2.2.ok/\iA z.1 d z.2.1 z.2.2=some (l,q)) (f+1,[],p) ?_ ?_
 ·exact⟨_,_,Wk.a6 aC,0,[],rfl,rfl,rfl,rfl,by simp,X,h⟩
 ·clear h X;rintro⟨g,W,p⟩_ _⟨n,H,rfl,rfl,k,R,B,X,h⟩;simp only at R B X h
  cases g with
  |zero=>simp[iA]at h
  |succ g =>
  rw[iA]at h;have j:=k0 p 0 [41] x X aU
  have A:W.length=n:=by grind[lI]
  by_cases b:p.code=0
  ·have u:(p.code==0)=true:=by grind
   cases J:is p 0 [41]with
   |true =>
    rw[J]at j;rw[ab (fun E=>by grind)]at h
    obtain⟨rfl,rfl⟩:W=l/\want p [41]=q:=by grind
    have m:=fV p [41] x X;subst R;refine V ?_;refine I [0] j ?_;refine jF ?_;refine V ?_;exact zdf
   |false =>
    rw[J]at j;rw[ai ⟨b,J⟩]at h
    by_cases w:W.length=0
    ·rw[ai w]at h
     have s:decide ((0:Int)<(n:Int))=false:=by grind
     cases i:iE g (.expr d) p with
     |none=>grind
     |some r =>
      have⟨a,Y⟩:=r;rw[i]at h;simp only at h;have G:=((kj g).1 _ _ _ _ X i).ok X;have o:=(C g L).expr d p a Y x X L i;refine V ?_;refine I [0] j ?_;exact zb8
    ·rw[ab w]at h
     have s:decide ((0:Int)<(n:Int))=true:=by grind
     have e:=(dc X [44]).ok X;have m:=fV p [44] x X
     cases i:iE g (.expr d) (want p [44])with
     |none=>grind
     |some r =>
      have⟨a,Y⟩:=r;rw[i]at h;simp only at h;have G:=((kj g).1 _ _ _ _ e i).ok e;have o:=(C g L).expr d _ a Y x e L i;refine V ?_;refine I [0] j ?_;refine zab ?_;refine I [0] m ?_;exact zb8
  ·have u:(p.code==0)=false:=by grind
   rw[ab (fun E=>b E.1)]at h
   obtain⟨rfl,rfl⟩:W=l/\want p [41]=q:=by grind
   have m:=fV p [41] x X;subst R;refine zbW ?_;exact zdf
theorem Ms{f:Nat}(C:Gm f)(d:Nat)(p:RS)(t:T)(q:RS)(x:PX)(w:p.ok)(hd:d+(f+1)<=1099511627776)(h:iE (f+1) (.operand d) p=some (t,q)) :
  GF prog 379 [.loc 0 0,.v (ii (d:Nat))] [cK p x] (qT t) [cK q x]:=by
 rw[iE]at h;have j:=vH p d x w;have E:=rq p 0 x w aU
 by_cases hc:(cN p d).code=0
 case neg =>
  have G:((cN p d).code==0)=false:=by grind
  rw[ab hc]at h;rw[G]at j;cases h;refine ak func379 ntmps379 ?_;refine I [0] E ?_;refine I [0] j ?_;refine I [] Ft ?_;exact az
 case pos =>
 have G:((cN p d).code==0)=true:=by grind
 rw[ai hc]at h;rw[G,oY hc]at j;clear hc G;have A:=k0 p 0 [45] x w aU;have B:=k0 p 0 [33] x w aU;have F:=k0 p 0 [126] x w aU;have yl:=w.2;have Qp:=w.1
 cases H:is p 0 [45]with
 |true =>
  rw[H]at A;rw[ai (.inl H)]at h;have m:p.i<p.l.length:=is_lt (k:=0) H;have c:=(cR m).ok w
  cases o:iE f (.operand (d+1)) p.next with
  |none=>grind
  |some r =>
   have⟨b,R⟩:=r;rw[o]at h;cases h
   have n:=C.operand (d+1) p.next b _ x c L o
   generalize tok p 0=tk at *;have e:=fF 5 tk.at_ tk.s [b] [[qT b]] (gX _);refine ak func379 ntmps379 ?_;refine I [0] E ?_;refine I [0] j ?_;refine I [0] A ?_;exact zaU
 |false =>
 rw[H]at A
 cases J:is p 0 [33]with
 |true =>
  rw[J]at B;rw[ai (.inr (.inl J))]at h;have m:p.i<p.l.length:=is_lt (k:=0) J;have c:=(cR m).ok w
  cases o:iE f (.operand (d+1)) p.next with
  |none=>grind
  |some r =>
   have⟨b,R⟩:=r;rw[o]at h;cases h
   have n:=C.operand (d+1) p.next b _ x c L o
   generalize tok p 0=tk at *;have e:=fF 5 tk.at_ tk.s [b] [[qT b]] (gX _);refine ak func379 ntmps379 ?_;refine I [0] E ?_;refine I [0] j ?_;refine I [0] A ?_;refine I [0] B ?_;exact zaU
 |false =>
 rw[J]at B
 cases M:is p 0 [126]with
 |true =>
  rw[M]at F;rw[ai (.inr (.inr M))]at h;have m:p.i<p.l.length:=is_lt (k:=0) M;have c:=(cR m).ok w
  cases o:iE f (.operand (d+1)) p.next with
  |none=>grind
  |some r =>
   have⟨b,R⟩:=r;rw[o]at h;cases h
   have n:=C.operand (d+1) p.next b _ x c L o
   generalize tok p 0=tk at *;have e:=fF 5 tk.at_ tk.s [b] [[qT b]] (gX _);refine ak func379 ntmps379 ?_;refine zap ?_;exact zaU
 |false =>
 rw[M]at F;rw[ab ze2]at h
 by_cases hk:(tok p 0).aj=1
 case pos =>
  rw[ai hk]at h;have m:p.i<p.l.length:=rQ (k:=0) L
  have Ql:((tok p 0).aj==1)=true:=by grind
  cases h;generalize tok p 0=tk at *;have e:=Md 1 tk.at_ [] [];refine ak func379 ntmps379 ?_;refine zap ?_;refine I [] e ?_;refine GW.wk (Wk.freeze (i:=2) rfl rfl rfl (eF rfl)) ?_;exact az
 case neg =>
 rw[ab hk]at h
 have Ql:((tok p 0).aj==1)=false:=by grind
 have S:=k0 p 0 [40] x w aU
 cases N:is p 0 [40]with
 |true =>
  rw[N]at S;rw[ai N]at h;have m:p.i<p.l.length:=is_lt (k:=0) N;have c:=(cR m).ok w
  cases o:iE f (.expr (d+1)) p.next with
  |none=>grind
  |some r =>
   have⟨b,R⟩:=r;rw[o]at h;cases h;have W:=((kj f).1 _ _ _ _ c o).ok c
   have n:=C.expr (d+1) p.next _ R x c L o
   have hw:=fV R [41] x W;generalize tok p 0=tk at *;refine ak func379 ntmps379 ?_;refine zap ?_;refine I [0] S ?_;refine I [0] n ?_;refine zab ?_;refine I [0] hw ?_;exact az
 |false =>
 rw[N]at S;rw[ab ze2]at h;have hn:=qN p x w;have c:=(jy w).ok w
 by_cases Y:(cm p).code=0
 case neg =>
  rw[ab Y]at h
  have Z:((cm p).code != 0)=true:=by grind
  cases h;generalize tok p 0=tk at *;generalize cm p=z at *;have e:=fF 2 tk.at_ tk.s [] [] rfl;refine ak func379 ntmps379 ?_;refine zdg ?_;exact zc6
 case pos =>
 rw[ai Y]at h
 have Z:((cm p).code != 0)=false:=by grind
 generalize cm p=z at *;generalize tok p 0=tk at *;have X:=k0 z 0 [91] x c aU;have aaB:=c.2;have aaA:=c.1
 cases O:is z 0 [91]with
 |true =>
  rw[O]at X;rw[ai O]at h;have m:z.i<z.l.length:=is_lt (k:=0) O;have u:=(cR m).ok c
  cases o:iE f (.expr (d+1)) z.next with
  |none=>grind
  |some r =>
   have⟨b,R⟩:=r;rw[o]at h;cases h;have W:=((kj f).1 _ _ _ _ u o).ok u
   have n:=C.expr (d+1) z.next b R x u L o
   have hw:=fV R [93] x W;have e:=fF 3 tk.at_ tk.s [b] [[qT b]] (gX _);refine ak func379 ntmps379 ?_;refine zdg ?_;refine I [0] X ?_;refine I [0] n ?_;refine zab ?_;refine I [0] hw ?_;refine zab ?_;exact zc6
 |false =>
 rw[O]at X;rw[ab ze2]at h;have h6:=k0 z 0 [40] x c aU
 cases Q:is z 0 [40]with
 |true =>
  rw[Q]at h6;rw[ai Q]at h;have m:z.i<z.l.length:=is_lt (k:=0) Q;have u:=(cR m).ok c
  cases o:iA f (d+1) [] z.next with
  |none=>grind
  |some r =>
   have⟨b,R⟩:=r;rw[o]at h;cases h
   have n:=C.exprs (d+1) z.next b _ x u L o
   have e:=fF 4 tk.at_ tk.s b (jY b) rfl;refine ak func379 ntmps379 ?_;refine zdg ?_;refine I [0] X ?_;refine I [0] h6 ?_;refine aV (aM 0 6 (.a 6 (.a 7 (.q 8 .nil)))) ?_;refine ay ?_;refine aX [0] n ?_;refine aX [] e ?_;exact aK
 |false =>
  rw[Q]at h6;rw[ab ze2]at h;cases h;have e:=fF 2 tk.at_ tk.s [] [] rfl;refine ak func379 ntmps379 ?_;refine zdg ?_;refine I [0] X ?_;refine I [0] h6 ?_;exact zc6
theorem XS(f:Nat):Gm f:=by
 induction f using Nat.strongRecOn with
 |_ f O =>
  cases f with
  |zero=>exact⟨fun d p t q x _ _ h=>by simp[iE]at h,fun k d p t q x _ _ _ h=>by simp[iE]at h,fun d p t q x _ _ h=>by simp[iE]at h,fun d p l q x _ _ h=>by simp[iA]at h⟩
  |succ f =>
   have C:=O f (Nat.lt_succ_self f)
   have m:∀Z,Z<=f->Gm Z:=fun Z h=>O Z (Nat.lt_succ_of_le h)
   exact⟨fun d p t q x W T h=>TM C d p t q x W T h,fun k d p t q x W N T h=>R9 m k d p t q x W N T h,fun d p t q x W T h=>Ms C d p t q x W T h,fun d p l q x W T h=>RJ m d p l q x W T h⟩
end Go.Xg
namespace Go.Im
open Go.Xp Go.Sp
def Vl(f d:Nat)(p:RS):Option (T × RS) :=
 if(tok p 0).aj=2/\is p 1 [61]=true then match iE f (.expr (d+1)) (want (cm p) [61])with
  |none=>none
  |some (e,q)=>some (one 7 (tok p 0).at_ (tok p 0).s [e],want q [59])
 else match iE f (.expr (d+1)) p with
  |none=>none
  |some (e,q) =>
   if wa p q e then match e.aw,iE f (.expr (d+1)) (want q [61])with
    |a::_,some (v,q)=>some (one 8 (tok p 0).at_ e.n.s [a,v],want q [59])
    |_,_=>none
   else some (one 12 (tok p 0).at_ [] [e],want q [59])
end Go.Im
namespace Go.Xg
open Go.RowKit Go.Xw Go.Proofs Tryz Go.Sp Go.Im
open GV (U)
open Go.Xp (T one)
attribute [local irreducible] GW GL GO D GC GA bo bn
theorem Pr{f:Nat}(d:Nat)(p:RS)(t:T)(q:RS)(x:PX)(F:p.ok)(hd:d+1+f<=1099511627776)(h:Vl f d p=some (t,q)) :
  GF prog 355 [.loc 0 0,.v (ii (d:Nat))] [cK p x] (qT t) [cK q x]:=by
 unfold Vl at h;have C:=XS f;have ht:=rq p 0 x F aU;have M:=k0 p 1 [61] x F aU
 have Y:∀X,((tok p 0).aj==2)=X->(X=true->is p 1 [61]=false)->GF prog 355 [.loc 0 0,.v (ii (d:Nat))] [cK p x] (qT t) [cK q x]:=by
  intro X hk S
  rw[ab (fun hh=>by
   grind)]at h
  cases B:iE f (.expr (d+1)) p with
  |none=>rw[B]at h;cases h
  |some r =>
   have⟨e,b⟩:=r;rw[B]at h;simp only at h;have c:=((kj f).1 _ _ _ _ F B).ok F;have aaE:=c.1;have aaF:=c.2;have A:=C.expr (d+1) p e b x F L B;have E:=k0 b 0 [61] x c aU
   have z:e.n.aj=3->b.code=0->∃j,b.l[b.i-1]?=some j/\ub b=j.s/\1<=b.i:=by
    intro _ hc;have h1:=UD f _ _ _ _ F B hc (fun k d out h=>by cases h);have h2:=c.1
    have W:b.i-1<b.l.length:=by omega
    exact⟨b.l[b.i-1],by simp[W],by unfold ub;simp[W],by omega⟩
   by_cases o:wa p b e
   ·rw[ai o]at h;have H:=o;have⟨O,Q,s3,s4,s5,s6⟩:=H;have⟨j,a1,a2,a3⟩:=z O Q
    have Ue:X=true:=by grind
    subst Ue;have u:=S rfl;rw[u]at M;rw[s6]at E
    match Xt:e.aw,hv:iE f (.expr (d+1)) (want b [61]),h with
    |a::rk,some (v,q2),h =>
     cases h;have m:=(dc c [61]).ok c;have hq2:=((kj f).1 _ _ _ _ m hv).ok m;have N:=fV b [61] x c;have R:=C.expr (d+1) _ v q2 x m L hv;have J:=fV q2 [59] x hq2;have hr:=kY a1;have Qq:(jY e.aw)[0]?=some [qT a]:=xe ze2;have hr3:(jY (a::rk))[0]?=some [qT a]:=xe rfl
     have Z:(e.n.aj==3)=true:=by grind
     have b2:(b.code==0)=true:=by grind
     have b3:(j.s==[93])=true:=by grind
     have b4:(e.n.at_==(tok p 0).at_)=true:=by grind
     have w:=fF 8 (tok p 0).at_ e.n.s [a,v] [[qT a],[qT v]] (gX _);generalize tok p 0=tk at *;refine ak func355 ntmps355 ?_;refine I [0] ht ?_;refine I [0] M ?_;refine I [0] A ?_;refine aV (aM 0 45 (.a 45 (.q 46 .nil))) ?_;refine ay ?_;refine bW [0] E ?_;refine V ?_;refine zab ?_;refine I [0] N ?_;refine I [0] R ?_;refine zab ?_;refine I [0] J ?_;refine aV (aM 0 14 (.a 14 (.a 15 (.q 16 .nil)))) ?_;refine zca ?_;refine aX [] w ?_;exact aK
    |[],_,h=>simp at h
    |_::_,none,h=>simp at h
   ·rw[ab o]at h;cases h;have N:=fV b [59] x c;have w:=fF 12 (tok p 0).at_ [] [e] [[qT e]] (gX _)
    cases X with
    |true =>
     have u:=S rfl;rw[u]at M;refine ak func355 ntmps355 ?_;refine I [0] ht ?_;refine I [0] M ?_;refine I [0] A ?_;refine GW.join (fun fr Γ=>fr=.loc 0 0::.v (ii (d:Nat))::U::U::U::.loc 1 0::U::U::qT e::zU 78 (.v (.bool false)::zU 34 [])/\Γ=[cK b x,.box 205 (da (tok p 0))]) ?_ ?_
     ·by_cases O:e.n.aj=3
      ·have Z:(e.n.aj==3)=true:=by grind
       by_cases Q:b.code=0
       ·have b2:(b.code==0)=true:=by grind
        have⟨j,a1,a2,a3⟩:=z O Q;have hr:=kY a1
        by_cases s3:ub b=[93]
        ·have b3:(j.s==[93])=true:=by grind
         by_cases s4:e.n.at_=(tok p 0).at_
         ·have b4:(e.n.at_==(tok p 0).at_)=true:=by grind
          have s6:is b 0 [61]=false:=by
           cases h6:is b 0 [61]with
           |false=>rfl
           |true=>exact absurd ⟨O,Q,s3,s4,by grind,h6⟩ o
          rw[s6]at E;generalize tok p 0=tk at *;refine aV (aM 0 45 (.a 45 (.q 46 .nil))) ?_;refine ay ?_;refine bW [0] E ?_;exact gZ
         ·have b4:(e.n.at_==(tok p 0).at_)=false:=by grind
          exact zag
        ·have b3:(j.s==[93])=false:=by grind
         exact zag
       ·have b2:(b.code==0)=false:=by grind
        exact zag
      ·have Z:(e.n.aj==3)=false:=by grind
       exact zag
     ·rintro _ _⟨rfl,rfl⟩;exact zcq
    |false =>
     refine ak func355 ntmps355 ?_;refine I [0] ht ?_;refine I [0] A ?_;refine GW.join (fun fr Γ=>fr=.loc 0 0::.v (ii (d:Nat))::U::U::U::.loc 1 0::U::U::qT e::zU 78 (.v (.bool false)::zU 34 [])/\Γ=[cK b x,.box 205 (da (tok p 0))]) ?_ ?_
     ·by_cases O:e.n.aj=3
      ·have Z:(e.n.aj==3)=true:=by grind
       by_cases Q:b.code=0
       ·have b2:(b.code==0)=true:=by grind
        have⟨j,a1,a2,a3⟩:=z O Q;have hr:=kY a1
        by_cases s3:ub b=[93]
        ·have b3:(j.s==[93])=true:=by grind
         by_cases s4:e.n.at_=(tok p 0).at_
         ·have b4:(e.n.at_==(tok p 0).at_)=true:=by grind
          exact zag
         ·have b4:(e.n.at_==(tok p 0).at_)=false:=by grind
          exact zag
        ·have b3:(j.s==[93])=false:=by grind
         exact zag
       ·have b2:(b.code==0)=false:=by grind
        exact zag
      ·have Z:(e.n.aj==3)=false:=by grind
       exact zag
     ·rintro _ _⟨rfl,rfl⟩;exact zcq
 by_cases hk:(tok p 0).aj=2
 ·cases u:is p 1 [61]with
  |true =>
   clear Y;rw[ai ⟨hk,u⟩]at h;rw[u]at M
   have Ql:((tok p 0).aj==2)=true:=by grind
   have hn:=qN p x F;have G:=(jy F).ok F;have N:=fV (cm p) [61] x G;have m:=(dc G [61]).ok G
   cases B:iE f (.expr (d+1)) (want (cm p) [61])with
   |none=>grind
   |some r =>
    have⟨e,b⟩:=r;rw[B]at h;cases h;have c:=((kj f).1 _ _ _ _ m B).ok m;have A:=C.expr (d+1) _ e b x m L B;have J:=fV b [59] x c;have w:=fF 7 (tok p 0).at_ (tok p 0).s [e] [[qT e]] (gX _);generalize tok p 0=tk at *;refine ak func355 ntmps355 ?_;refine I [0] ht ?_;refine I [0] M ?_;refine I [0] hn ?_;refine zab ?_;refine I [0] N ?_;refine I [0] A ?_;refine zab ?_;refine I [0] J ?_;refine zab ?_;refine I [] w ?_;exact az
  |false=>grind
 grind
open Go.Xp (lS gk iH gD gP)
theorem Mc(k a:Int)(s:ah):GF prog 315 [.v (ii k),.v (ii a),.v (sv s),.v (.slice none 0 0)] [] (.loc 0 0) [.box 191 [.v (ii k),.v (ii a),.v (ii 0),.v (sv s),.v (.slice none 0 0),.v (.slice none 0 0)]]:=by
 refine ak func315 ntmps315 ?_;refine GW.wk (Wk.cells 0 rfl (ds:=[.v (ii k),.v (ii a),.v (ii 0),.v (sv s),.v (.slice none 0 0),.v (.slice none 0 0)]) gy) ?_;refine GW.ret ?_;refine qb (n:=1) rfl ze3 rfl (bl _) rfl rfl ?_;exact zai
structure PR(f:Nat):Prop where
 block:∀d p t q x,p.ok->d+3+f<=1099511627776->iS f (.block d) p=some (t,q)->GF prog 258 [.loc 0 0,.v (ii (d:Nat))] [cK p x] (qT t) [cK q x]
 stmt:∀d p t q x,p.ok->d+3+f<=1099511627776->iS f (.stmt d) p=some (t,q)->GF prog 317 [.loc 0 0,.v (ii (d:Nat))] [cK p x] (qT t) [cK q x]
theorem Ru{f:Nat}(C:∀b,b<=f->PR b)(d:Nat)(p:RS)(t:T)(q:RS)(x:PX)(W:p.ok)(hd:d+3+(f+1)<=1099511627776)(h:iS (f+1) (.block d) p=some (t,q)) :
  GF prog 258 [.loc 0 0,.v (ii (d:Nat))] [cK p x] (qT t) [cK q x]:=by
 rw[iS]at h;have Z:=vH p d x W;have M:=rq p 0 x W aU;have s:=Mc 14 (tok p 0).at_ []
 by_cases Y:(cN p d).code=0
 case neg =>
  have u:((cN p d).code==0)=false:=by grind
  rw[ab Y]at h;rw[u]at Z;cases h;generalize tok p 0=tk at *;refine ak func258 ntmps258 ?_;refine I [0] M ?_;refine I [] s ?_;refine I [0] Z ?_;refine GW.wk (Wk.cells 1 rfl (ds:=[.v (ii 14),.v (ii tk.at_),.v (ii 0),.v (sv []),.v (.slice none 0 0),.sl 1 []]) gy) ?_;refine GW.wk (Wk.freeze (i:=1) rfl rfl rfl (eF rfl)) ?_;exact az
 case pos =>
 have u:((cN p d).code==0)=true:=by grind
 rw[ai Y]at h;rw[u,oY Y]at Z;clear Y u;have e:=(dc W [123]).ok W;have m:=fV p [123] x W
 cases w:iB f (d+1) [] (want p [123])with
 |none=>grind
 |some r =>
  have⟨l,E⟩:=r;rw[w]at h;cases h;generalize tok p 0=tk at *;refine ak func258 ntmps258 ?_;refine I [0] M ?_;refine I [] s ?_;refine I [0] Z ?_;refine zab ?_;refine I [0] m ?_;refine GW.wk (Wk.A7 (i:=1) (o:=5) 132 1 rfl rfl) ?_;refine GW.loop (fun z:Nat × List T × RS=>z.1) (fun z O Q=>∃n H,O=.loc 0 0::.v (ii (d:Nat))::U::U::U::.loc 1 0::zU 39 []/\Q=[cK z.2.2 x,.box 191 [.v (ii 14),.v (ii tk.at_),.v (ii 0),.v (sv []),.v (.slice none 0 0),.vec 2 n],.vec 132 1 0 H]/\H.length=n/\H=jY z.2.1/\n+z.1<=f/\z.2.2.ok/\iB z.1 (d+1) z.2.1 z.2.2=some (l,E)) (f,[],want p [123]) ?_ ?_
  ·exact⟨_,_,Wk.a6 aC,0,[],rfl,rfl,rfl,rfl,by simp,e,w⟩
  ·clear w e m Z M;rintro⟨g,X,p⟩_ _⟨n,H,rfl,rfl,c,R,B,W,h⟩;simp only at R B W h
   cases g with
   |zero=>simp[iB]at h
   |succ g =>
   rw[iB]at h;have j:=k0 p 0 [125] x W aU
   by_cases Y:p.code=0
   ·have u:(p.code==0)=true:=by grind
    cases J:is p 0 [125]with
    |true =>
     rw[J]at j;rw[ab (fun F=>by grind)]at h
     obtain⟨rfl,rfl⟩:X=l/\p=E:=by grind
     have m:=fV p [125] x W;subst R;refine V ?_;refine I [0] j ?_;refine jF ?_;exact zbA
    |false =>
     rw[J]at j;rw[ai ⟨Y,J⟩]at h
     cases k:iS g (.stmt (d+1)) p with
     |none=>grind
     |some r =>
      have⟨a,N⟩:=r;rw[k]at h;simp only at h;have G:=((CV g).1 _ _ _ _ W k).ok W;have A:=(C g L).stmt (d+1) p a N x W L k;refine V ?_;refine I [0] j ?_;refine aV (aM 0 8 (.a 8 (.a 9 (.a 10 (.q 11 (.q 12 (.a 13 .nil))))))) ?_;refine ay ?_;refine aX [0] A ?_;refine zar ?_;refine vy ?_;refine bj ?_;exact⟨(g,X++[a],N),⟨_,_,Wk.a6 aC,_,_,rfl,rfl,by simp[c],by rw[vg,R];rfl,by show n+1+g<=f;omega,G,h⟩,by simp⟩
   ·have u:(p.code==0)=false:=by grind
    rw[ab (fun F=>Y F.1)]at h
    obtain⟨rfl,rfl⟩:X=l/\p=E:=by grind
    have m:=fV p [125] x W;subst R;refine ew ?_;exact zbA
theorem Vr{f:Nat}(C:PR f)(d:Nat)(p:RS)(t:T)(q:RS)(x:PX)(F:p.ok)(hd:d+3+(f+1)<=1099511627776)(h:iS (f+1) (.stmt d) p=some (t,q)) :
  GF prog 317 [.loc 0 0,.v (ii (d:Nat))] [cK p x] (qT t) [cK q x]:=by
 rw[iS]at h;have E:=XS f;have m:=vH p d x F;have Z:=rq p 0 x F aU
 by_cases hc:(cN p d).code=0
 case neg =>
  have Q:((cN p d).code==0)=false:=by grind
  rw[ab hc]at h;rw[Q]at m;cases h;refine ak func317 ntmps317 ?_;refine I [0] Z ?_;refine I [0] m ?_;refine I [] Ft ?_;exact az
 case pos =>
 have Q:((cN p d).code==0)=true:=by grind
 rw[ai hc]at h;rw[Q,oY hc]at m;clear hc Q;have yl:=F.2;have Qp:=F.1;have O:=k0 p 0 lS x F aU;have B:=k0 p 0 gk x F aU;have h3:=k0 p 0 gD x F aU;have h4:=k0 p 0 gP x F aU
 cases W:is p 0 lS with
 |true =>
  rw[W]at O;rw[ai W]at h;have M:p.i<p.l.length:=is_lt (k:=0) W;have j:=(cR M).ok F
  have hn:=qN p.next x j
  have Hp:=(jy j).ok j;have hw:=fV _ [61] x Hp;have w:=(dc Hp [61]).ok Hp
  cases H:iE f (.expr (d+1)) (want (cm p.next) [61])with
  |none=>grind
  |some r =>
   have⟨e,Y⟩:=r;rw[H]at h;cases h;have z:=((kj f).1 _ _ _ _ w H).ok w;have o:=E.expr (d+1) _ e Y x w L H;have u:=fV Y [59] x z;have n:=fF 13 (tok p 0).at_ (tok p.next 0).s [e] [[qT e]] (gX _);generalize tok p 0=tk at *
   generalize tok p.next 0=tn at *
   refine ak func317 ntmps317 ?_;refine I [0] Z ?_;refine I [0] m ?_;refine I [0] O ?_;refine I [0] hn ?_;refine zab ?_;refine I [0] hw ?_;exact zc7
 |false =>
 rw[W]at O;rw[ab ze2]at h
 have main:∀bi bw:Bool,is p 0 gk=bi->is p 0 gD=bw->(bi=true\/bw=true)->GF prog 317 [.loc 0 0,.v (ii (d:Nat))] [cK p x] (qT t) [cK q x]:=by
  intro bi bw T7 hbw DT
  have G:is p 0 gk=true\/is p 0 gD=true:=by grind
  have M:p.i<p.l.length:=by rcases G with hh|hh<;>exact is_lt (k:=0) hh
  rw[ai G]at h;have j:=(cR M).ok F
  have hw:=fV p.next [40] x j
  have w:=(dc j [40]).ok j
  cases H:iE f (.expr (d+1)) (want p.next [40])with
  |none=>grind
  |some r =>
  have⟨c,Y⟩:=r;rw[H]at h;simp only at h;have z:=((kj f).1 _ _ _ _ w H).ok w;have o:=E.expr (d+1) _ c Y x w L H;have u:=fV Y [41] x z;have Un:=(dc z [41]).ok z
  cases hb:iS f (.block (d+1)) (want Y [41])with
  |none=>grind
  |some r =>
  have⟨b,N⟩:=r;rw[hb]at h;simp only at h;have S:=((CV f).1 _ _ _ _ Un hb).ok Un;have aaH:=S.2;have aaG:=S.1;have A:=C.block (d+1) _ b N x Un L hb;have R:=k0 N 0 iH x S aU;rw[T7]at B;rw[hbw]at h3
  cases bi with
  |true =>
   have Wj:∀(cc ee:Bool),(N.code==0)=cc->is N 0 iH=ee->(cc=false\/ee=false)->GF prog 317 [.loc 0 0,.v (ii (d:Nat))] [cK p x] (qT t) [cK q x]:=by
    intro cc ee hcc J aaz
    rw[ab (fun hh=>by
     grind),ai T7]at h
    cases h;rw[J]at R;have n:=fF 9 (tok p 0).at_ [] [c,b] [[qT c],[qT b]] (gX _);generalize tok p 0=tk at *
    cases cc with
    |true =>
     cases ee with
     |true=>grind
     |false =>
      refine ak func317 ntmps317 ?_;refine zeX ?_;refine V ?_;refine zab ?_;refine I [0] u ?_;refine I [0] A ?_;refine zbG ?_;refine I [0] R ?_;exact zda
    |false =>
     refine ak func317 ntmps317 ?_;refine zaP ?_;exact za7
   by_cases Lm:N.code=0
   ·cases J:is N 0 iH with
    |true =>
     clear Wj;rw[ai ⟨T7,Lm,J⟩]at h;rw[J]at R
     have hcc:(N.code==0)=true:=by grind
     have Ol:N.i<N.l.length:=is_lt (k:=0) J;have hqn:=(cR Ol).ok S
     cases wv:iS f (.block (d+1)) N.next with
     |none=>grind
     |some r =>
      have⟨b2,q3⟩:=r;rw[wv]at h;cases h;have Wf:=C.block (d+1) _ b2 _ x hqn L wv;have n:=fF 9 (tok p 0).at_ [] [c,b,b2] [[qT c],[qT b],[qT b2]] (gX _);generalize tok p 0=tk at *;refine ak func317 ntmps317 ?_;refine zeX ?_;refine V ?_;refine zab ?_;refine I [0] u ?_;refine I [0] A ?_;refine zbG ?_;refine I [0] R ?_;refine I [0] Wf ?_;refine zbG ?_;exact zda
    |false=>grind
   grind
  |false =>
   have YC:bw=true:=by grind
   subst YC;rw[ab (fun hh=>by grind),ab ze2]at h;cases h;have n:=fF 10 (tok p 0).at_ [] [c,b] [[qT c],[qT b]] (gX _);generalize tok p 0=tk at *;refine ak func317 ntmps317 ?_;refine zaP ?_;refine I [0] h3 ?_;exact za7
 cases DV:is p 0 gk with
 |true=>grind
 |false =>
 cases hs3:is p 0 gD with
 |true=>grind
 |false =>
 clear main;rw[DV]at B;rw[hs3]at h3;rw[ab ze2]at h
 cases X:is p 0 gP with
 |true =>
  rw[X]at h4;rw[ai X]at h;have M:p.i<p.l.length:=is_lt (k:=0) X;have j:=(cR M).ok F
  cases H:iE f (.expr (d+1)) p.next with
  |none=>grind
  |some r =>
   have⟨e,Y⟩:=r;rw[H]at h;cases h;have z:=((kj f).1 _ _ _ _ j H).ok j;have o:=E.expr (d+1) _ e Y x j L H;have u:=fV Y [59] x z;have n:=fF 11 (tok p 0).at_ [] [e] [[qT e]] (gX _);generalize tok p 0=tk at *;refine ak func317 ntmps317 ?_;refine zaP ?_;refine I [0] h3 ?_;refine I [0] h4 ?_;exact zc7
 |false =>
  rw[X]at h4;rw[ab ze2]at h;have hsi:=Pr (f:=f) d p t q x F L h;generalize tok p 0=tk at *;refine ak func317 ntmps317 ?_;refine zaP ?_;refine I [0] h3 ?_;refine I [0] h4 ?_;refine I [0] hsi ?_;exact az
theorem XT(f:Nat):PR f:=by
 induction f using Nat.strongRecOn with
 |_ f O =>
  cases f with
  |zero=>exact⟨fun d p t q x _ _ h=>by simp[iS]at h,fun d p t q x _ _ h=>by simp[iS]at h⟩
  |succ f =>
   have C:=O f (Nat.lt_succ_self f)
   have l:∀Z,Z<=f->PR Z:=fun Z h=>O Z (Nat.lt_succ_of_le h)
   exact⟨fun d p t q x W T h=>Ru l d p t q x W T h,fun d p t q x W T h=>Vr C d p t q x W T h⟩
end Go.Xg
namespace Go.Xg
open Go.RowKit Go.Xw Go.Proofs Tryz
open GV (U)
open Go.Xp (Nd T be aP fR cv bm)
attribute [local irreducible] GW GL GO D GC GA bo bn
def r6(n:Nd):am:=[.v (ii n.aj),.v (ii n.at_),.v (ii n.n),.v (sv n.s),ints n.aw]
def Bi(t:T)(x:Value):am:=[.v (ii t.n.aj),.v (ii t.n.at_),.v (ii t.n.n),.v (sv t.n.s),.v x]
theorem KT:∀(N:Nat)(t:T),be t<=N->∀(n:Nat)(rows:List am)(a:Option Addr)(c:Nat),rows.length=n->n+be t<=1099511627776 ->
  GC prog 143 [.v (.slice a n c),qT t] [.vech 82 5 rows (.slice a n c)] fun g bE=>∃a c,g=.v (.slice a (n+be t) c)/\bE=[.vech 82 5 (rows++(fR n t).map r6) (.slice a (n+be t) c)]:=by
 intro N
 induction N with
 |zero=>intro t h;rw[Go.Xp.fa]at h;omega
 |succ N Z =>
 intro t O n rows a c W Q;subst W;rw[Go.Xp.fa]at Q O;have R:=Go.Xp.dU t.aw;refine ak func143 ntmps143 ?_;refine zcP ?_;intro a c;refine zbt ?_;refine GW.wk (Wk.eS 3 1) ?_
 refine GW.range (jY t.aw).length (fun k M Γ=>∃a c e l,M=.v (.slice a (rows.length+1+aP (t.aw.take k)) c)::qT t::U::U::U::.v (ii (rows.length:Nat))::zU 14 (.sl 1 (jY t.aw)::.v (ii ((jY t.aw).length:Int))::.v (ii (k:Nat))::zU 21 []) /\
  Γ=[.vech 82 5 (rows++Bi t (.slice e k l)::(cv (rows.length+1) (t.aw.take k)).map r6) (.slice a (rows.length+1+aP (t.aw.take k)) c),.vech 3 1 ((bm (rows.length+1) (t.aw.take k)).map fun z=>[.v (ii z)]) (.slice e k l)]) ?_ (by rw[lI];omega) ?_ ?_ ?_
 ·refine⟨_,_,Wk.a6 aC,a,c,none,0,rfl,?_⟩;rfl
 ·rintro k _ _⟨a,c,e,l,rfl,rfl⟩;exact dS
 ·rintro k _ _ u⟨a,c,e,l,rfl,rfl⟩;rw[lI]at u;obtain⟨kid,b⟩:∃kid,t.aw[k]?=some kid:=⟨t.aw[k],by simp[u]⟩;have hr:=xe b;have Y:=Go.Xp.jl b;have S:=Go.Xp.iJ t.aw (k+1)
  have E:t.aw.take (k+1)=t.aw.take k++[kid]:=by rw[c7,b];rfl
  have hX:((cv (rows.length+1) (t.aw.take k)).map r6).length=aP (t.aw.take k):=by rw[bS,Go.Xp.ki]
  have m:((bm (rows.length+1) (t.aw.take k)).map fun z=>[GV.v (ii z)]).length=k:=by rw[bS,Go.Xp.cW,iC];omega
  rw[E,Go.Xp.qe,Go.Xp.lH,Go.Xp.jE];simp only[bm,cv,aP,gL,Nat.add_zero,jK,List.map_cons,map_nil,<-kA]
  have A:=fun(rs:List am)a c h=>Z kid L (rows.length+1+aP (t.aw.take k)) rs a c h L
  generalize(cv (rows.length+1) (t.aw.take k)).map r6=X at *;generalize((bm (rows.length+1) (t.aw.take k)).map fun z=>[GV.v (ii z)])=w at *;generalize aP (t.aw.take k)=s at *;subst m
  have q:∀r:am,(rows++r::X).length=rows.length+1+s:=fun r=>by simp;omega
  have d:(rows++Bi t (.slice e w.length l)::X)[rows.length]?=some (Bi t (.slice e w.length l)):=by simp
  have C:=q (Bi t (.slice e w.length l));unfold Bi at d C |-;refine V ?_;refine zbH ?_;intro F H;refine zbt ?_;refine tE ?_;rw[wb];simp only[bB];refine V ?_;refine bP [0] (A _ _ _ (q _)) ?_;rintro _ _⟨G,J,rfl,rfl⟩;refine zas ?_;refine⟨rfl,rfl,_,_,Wk.a6 aC,G,J,F,H,rfl,?_⟩;rw[gK];rfl
 ·rintro _ _⟨a,c,e,l,rfl,rfl⟩;rw[lI,dx];rw[Go.Xp.fa,Go.Xp.DG]
  have m:((bm (rows.length+1) t.aw).map fun z=>[GV.v (ii z)]).length=t.aw.length:=by rw[bS,Go.Xp.cW]
  have B:ints (bm (rows.length+1) t.aw)=.sl 1 ((bm (rows.length+1) t.aw).map fun z=>[GV.v (ii z)]):=rfl;rw[List.map_cons];simp only[r6,Bi];rw[B,show rows.length+(aP t.aw+1)=rows.length+1+aP t.aw by omega];generalize(cv (rows.length+1) t.aw).map r6=X at *;generalize((bm (rows.length+1) t.aw).map fun z=>[GV.v (ii z)])=w at *;generalize aP t.aw=s at *
  have d:∀r:am,(rows++r::X)[rows.length]?=some r:=fun r=>by simp
  refine bg ?_;apply GW.wk
  ·apply Wk.C0 (i:=0) (idx:=rows.length) (o:=4) (j:=1)
   ·rfl
   ·exact d _
   ·rfl
   ·rfl
   ·rfl
  exact zeE
open Go.Sp Go.Im
open Go.Xp (jh Ar)
structure HW where
 aT:Option Addr
 cT:Nat
 aG:Option Addr
 cG:Nat
 aA:Option Addr
 cA:Nat
 aF:Option Addr
 cF:Nat
def qR(x:Ar):am:=[.v (sv x.name),.v (ii x.size)]
def qS(x:ah × List ah):am:=[.v (sv x.1),strs x.2,.v (ii 0)]
def mf(x:ah):am:=[.v (sv x)]
abbrev hx(st:PS)(h:HW):PX:=⟨.slice h.aT st.aL.length h.cT,.slice h.aG st.au.length h.cG,.slice h.aA st.aq.length h.cA,.slice h.aF st.av.length h.cF,.slice none 0 0⟩
abbrev uz(p:RS)(st:PS)(h:HW):ap:=[cK p (hx st h),.vech 132 1 (jY st.aL) (.slice h.aT st.aL.length h.cT),.vech 9 1 (st.au.map mf) (.slice h.aG st.au.length h.cG),.vech 79 2 (st.aq.map qR) (.slice h.aA st.aq.length h.cA),.vech 53 3 (st.av.map qS) (.slice h.aF st.av.length h.cF)]
theorem vU{R β:Type}(g:R->β)(l:List R)(x:R):(l++[x]).map g=l.map g++[g x]:=by simp
theorem Nh{f:Nat}(p:RS)(st:PS)(h:HW)(q:RS)(E:PS)(n:Nat)(M:p.ok)(hn:st.le n)(hb:n+1<=1099511627776)(O:is p 0 jh=true)(l:iW f p st=some (q,E)) :
  GC prog 199 [.loc 0 0] (uz p st h) (fun g bE=>g=.tup []/\∃h',bE=uz q E h'):=by
 have⟨Qp,yl⟩:=id M;have⟨XB,XC,Uj,Uk⟩:=hn;unfold iW at l;rw[ai O]at l;have C:=k0 p 0 jh (hx st h) M aU;rw[O]at C;have A:=(kO O).ok M
 have r:=qN p.next (hx st h) A
 have d:=(jy A).ok A;generalize(tok p.next 0).s=s at *
 generalize cm p.next=b at *
 have i:=k0 b 0 [91] (hx st h) d aU
 have G:¬(b.code=0/\is b 0 [91]=true)->True:=fun _=>trivial
 cases S:(b.code==0)with
 |false =>
  have w:¬b.code=0:=by simpa using S
  rw[ab (fun H=>w H.1)]at l;cases l
  have m:(st.au.map mf).length+1=(st.au++[s]).length:=by simp
  have o:st.au.map mf++[[GV.v (sv s)]]=(st.au++[s]).map mf:=by simp[mf]
  have u:(st.au.map mf).length+1<=1099511627776:=by simp;omega
  refine ak func199 ntmps199 ?_;refine I [0] C ?_;refine I [0] r ?_;exact zaS
 |true =>
  have w:b.code=0:=by simpa using S
  cases e:is b 0 [91]with
  |false =>
   rw[e]at i;rw[ab (fun H=>by have:=H.2;rw[e]at this;cases this)]at l;cases l
   have m:(st.au.map mf).length+1=(st.au++[s]).length:=by simp
   have o:st.au.map mf++[[GV.v (sv s)]]=(st.au++[s]).map mf:=by simp[mf]
   have u:(st.au.map mf).length+1<=1099511627776:=by simp;omega
   refine ak func199 ntmps199 ?_;refine I [0] C ?_;refine I [0] r ?_;refine I [0] i ?_;exact zaS
  |true =>
   rw[e]at i;rw[ai ⟨w,e⟩]at l;have j:=(kO e).ok d;have T:=d.1;have W:=d.2;have Y:=j.1;have Z:=j.2
   have ht:=rq b.next 0 (hx st h) j aU
   have R:=xZ b.next (hx st h) j
   have B:(tok b.next 0).aj=1->b.next.next.ok:=fun z=>(cR (rQ (p:=b.next) (k:=0) (by rw[z];decide))).ok j
   generalize tok b.next 0=tk at *
   by_cases z:tk.aj=1
   ·rw[ai z]at l;cases l
    have J:(tk.aj != 1)=false:=by simpa using z
    have t:=B z;have aaD:=t.1
    have Q:=fV b.next.next [93] (hx st h) t
    have N:=(dc t [93]).ok t
    generalize want b.next.next [93]=p5 at *
    have m:(st.aq.map qR).length+1=(st.aq++[(⟨s,tk.n⟩:Ar)]).length:=by simp
    have o:st.aq.map qR++[[GV.v (sv s),.v (ii tk.n)]]=(st.aq++[(⟨s,tk.n⟩:Ar)]).map qR:=by simp[qR]
    have u:(st.aq.map qR).length+1<=1099511627776:=by simp;omega
    refine ak func199 ntmps199 ?_;refine I [0] C ?_;refine I [0] r ?_;refine I [0] i ?_;refine I [0] ht ?_;refine zab ?_;refine I [0] Q ?_;refine aV (aM 0 10 (.a 10 (.a 11 (aM 12 3 (.a 15 .nil))))) ?_;refine zca ?_;refine OA rfl rfl (GL.mr 3 rfl rfl rfl aH rfl rfl (by refine⟨?_,?_⟩;(· show _+1<=_;omega);(· show(_+1)*_<=_;omega)) ?_);intro a c;refine b0 ?_;generalize F:chunk 1 2 _=X
    obtain rfl:X=[qR ⟨s,tk.n⟩]:=by rw[<-F];rfl
    clear F
    try (generalize F:chunk 1 2 _=X;obtain rfl:X=[qR ⟨s,tk.n⟩]:=by rw[<-F];rfl)
    rw[show(st.aq.map qR).length+[qR ⟨s,tk.n⟩].length=(st.aq++[(⟨s,tk.n⟩:Ar)]).length by simp,<-vU qR st.aq ⟨s,tk.n⟩];refine bj ?_;refine zab ?_;refine I [0] (fV p5 [59] (hx { st with aq:=st.aq++[⟨s,tk.n⟩] } { h with aA:=a,cA:=c }) N) ?_;refine cy ?_;exact⟨rfl,{ h with aA:=a,cA:=c },rfl⟩
   ·rw[ab z]at l;cases l
    have J:(tk.aj != 1)=true:=by simpa using z
    refine ak func199 ntmps199 ?_;refine I [0] C ?_;refine I [0] r ?_;refine I [0] i ?_;refine I [0] ht ?_;refine I [0] R ?_;refine cy ?_;exact⟨rfl,h,rfl⟩
open Go.Xp (ju)
theorem JX{f:Nat}(p:RS)(st:PS)(h:HW)(q:RS)(Y:PS)(W:p.ok)(G:is p 0 jh=false)(u:is p 0 ju=false)(l:iW f p st=some (q,Y)) :
  GC prog 199 [.loc 0 0] (uz p st h) (fun g bE=>g=.tup []/\∃j,bE=uz q Y j):=by
 unfold iW at l;rw[ab ze2,ab ze2]at l;cases l;have i:=k0 p 0 jh (hx st h) W aU;have E:=k0 p 0 ju (hx st h) W aU;have e:=xZ p (hx st h) W;rw[G]at i;rw[u]at E;refine ak func199 ntmps199 ?_;refine I [0] i ?_;refine I [0] E ?_;refine I [0] e ?_;refine cy ?_
 grind
abbrev V4(p:RS)(st:PS)(h:HW)(s:ah)(T:List ah)(a:Option Addr)(c:Nat):ap:=uz p st h++[.box 53 [.v (sv s),.v (.slice a T.length c),.v (ii 0)],.vech 9 1 (T.map mf) (.slice a T.length c)]
theorem JY{f:Nat}(p:RS)(st:PS)(h:HW)(q:RS)(H:PS)(n:Nat)(k:p.ok)(hn:st.le n)(hb:n+f+4<=1099511627776)(XH:is p 0 jh=false)(hs:is p 0 ju=true)(v:iW f p st=some (q,H)) :
  GC prog 199 [.loc 0 0] (uz p st h) (fun g bE=>g=.tup []/\∃h',bE=uz q H h'):=by
 have⟨Qp,yl⟩:=id k;have⟨XB,XC,Uj,Uk⟩:=hn;unfold iW at v;rw[ab ze2,ai hs]at v;have M:=k0 p 0 jh (hx st h) k aU;rw[XH]at M;have C:=k0 p 0 ju (hx st h) k aU;rw[hs]at C;have E:=(kO hs).ok k
 have w:=qN p.next (hx st h) E
 have e:=(jy E).ok E;generalize(tok p.next 0).s=s at *
 generalize cm p.next=p2 at *
 have T:=fV p2 [40] (hx st h) e;have R:=(dc e [40]).ok e;generalize want p2 [40]=p3 at *
 cases u:o7 f [] p3 with
 |none=>grind
 |some r =>
 have⟨l,q1⟩:=r;rw[u]at v;simp only at v;refine ak func199 ntmps199 ?_;refine I [0] M ?_;refine I [0] C ?_;refine I [0] w ?_;refine zab ?_;refine I [0] T ?_;refine GW.wk (Wk.eS 9 1) ?_;refine GW.loop (fun z:Nat × List ah × RS=>z.1) (fun z fr Γ=>∃a c,fr=.loc 0 0::U::U::U::.loc 5 0::zU 148 []/\Γ=V4 z.2.2 st h s z.2.1 a c/\z.2.2.ok/\z.2.1.length+z.1<=f/\o7 z.1 z.2.1 z.2.2=some (l,q1)) (f,[],p3) ?_ ?_
 ·exact⟨_,_,Wk.a6 aC,none,0,rfl,rfl,R,by simp,u⟩
 clear u R T e w C M E;rintro⟨g,b,p⟩_ _⟨a,c,rfl,rfl,k,hng,u⟩;simp only at k hng u
 cases g with
 |zero=>cases u
 |succ g =>
 rw[o7]at u;have C:=k0 p 0 [41] (hx st h) k aU
 by_cases J:p.code=0/\is p 0 [41]=false
 ·have⟨hc,O⟩:=id J;rw[ai J]at u;rw[O]at C
  have Q:(p.code==0)=true:=by grind
  by_cases h0:b.length=0
  ·obtain rfl:=kQ h0
   have hd:decide ((0:Int)<(([]:List ah).length:Int))=false:=by decide
   rw[ai zfl]at u;have w:=qN p (hx st h) k;have e:=(jy k).ok k;generalize(tok p 0).s=G at *;refine V ?_;refine I [0] C ?_;refine zbE ?_;refine aX [0] w ?_;refine zar ?_;refine OA rfl rfl (GL.mr 6 (news:=[mf G]) rfl rfl rfl aH rfl rfl (by refine⟨?_,?_⟩;(· show _+1<=_;omega);(· show(_+1)*_<=_;omega)) ?_);intro X c2;refine zaM ?_;exact⟨(g,[G],cm p),⟨_,_,Wk.a6 aC,X,c2,rfl,rfl,e,by grind,u⟩,by simp⟩
  ·have hd:decide ((0:Int)<(b.length:Int))=true:=by grind
   rw[ab h0]at u;have hwc:=fV p [44] (hx st h) k;have N:=(dc k [44]).ok k;generalize want p [44]=pw at *;have w:=qN pw (hx st h) N;have e:=(jy N).ok N;generalize(tok pw 0).s=G at *
   have hlen:(b.map mf).length<=f:=by grind
   refine V ?_;refine I [0] C ?_;refine zab ?_;refine I [0] hwc ?_;refine zbE ?_;refine aX [0] w ?_;refine zar ?_;refine OA rfl rfl (GL.mr 6 (news:=[mf G]) rfl rfl rfl aH rfl rfl (by refine⟨?_,?_⟩;(· show _+1<=_;omega);(· show(_+1)*_<=_;omega)) ?_);intro X c2;refine b0 ?_
   try rw[show(b.map mf).length+1=(b++[G]).length by simp]
   rw[show(b.map mf).length+[mf G].length=(b++[G]).length by simp,<-vU mf b G];refine bj ?_;exact⟨(g,b++[G],cm pw),⟨_,_,Wk.a6 aC,X,c2,rfl,rfl,e,by grind,u⟩,by simp⟩
 ·rw[ab J]at u
  obtain⟨rfl,rfl⟩:b=l/\want p [41]=q1:=by grind
  clear u;have F:=fV p [41] (hx st h) k;have S:=(dc k [41]).ok k
  have Uf:(jY st.aL).length+1<=1099511627776:=by rw[lI];omega
  have zA:(st.av.map qS).length+1<=1099511627776:=by grind
  by_cases hc:p.code=0
  ·have Q:(p.code==0)=true:=by grind
   have O:is p 0 [41]=true:=by
    grind
   rw[O]at C
   by_cases d:(want p [41]).code=0
   ·have B:((want p [41]).code==0)=true:=by grind
    rw[ai d]at v
    cases m:iS f (.block 1) (want p [41])with
    |none=>grind
    |some r =>
    have⟨t,W⟩:=r;rw[m]at v
    obtain⟨rfl,rfl⟩:W=q/\_=H:=by simpa using v
    have A:=(XT f).block 1 _ t W (hx st h) S L m;clear m d;generalize want p [41]=pq at *;refine V ?_;refine I [0] C ?_;refine jF ?_;refine V ?_;refine zab ?_;refine I [0] F ?_;refine zct ?_;refine aX [0] A ?_;refine zar ?_;refine OA rfl rfl (GL.mr 1 (news:=[[qT t]]) rfl rfl rfl aH rfl rfl (by refine⟨?_,?_⟩;(· show _+1<=_;omega);(· show(_+1)*_<=_;omega)) ?_);intro Y c3;refine b0 ?_
    try rw[show(jY st.aL).length+1=(st.aL++[t]).length by simp[lI]]
    refine zet ?_;apply GW.wk
    ·apply Wk.nV (i:=5) (o:=1) (j:=6)
     ·rfl
     ·rfl
     ·rfl
     ·rfl
    simp only[oset,bB];refine aV (aM 0 7 (.a 7 (.a 8 (aM 9 3 (.a 12 .nil))))) ?_;refine zca ?_;refine OA rfl rfl (GL.mr 4 (news:=[qS (s,b)]) rfl rfl rfl aH rfl rfl (by refine⟨?_,?_⟩;(· show _+1<=_;omega);(· show(_+1)*_<=_;omega)) ?_);intro Z c4;refine b0 ?_
    try rw[show(st.av.map qS).length+1=(st.av++[(s,b)]).length by simp]
    exact zbo
   ·have B:((want p [41]).code==0)=false:=by grind
    rw[ab d]at v;cases v;clear d;generalize want p [41]=pq at *;refine V ?_;refine I [0] C ?_;refine jF ?_;refine V ?_;refine zab ?_;refine I [0] F ?_;refine cy ?_
    grind
  ·have Q:(p.code==0)=false:=by grind
   by_cases d:(want p [41]).code=0
   ·have B:((want p [41]).code==0)=true:=by grind
    rw[ai d]at v
    cases m:iS f (.block 1) (want p [41])with
    |none=>grind
    |some r =>
    have⟨t,W⟩:=r;rw[m]at v
    obtain⟨rfl,rfl⟩:W=q/\_=H:=by simpa using v
    have A:=(XT f).block 1 _ t W (hx st h) S L m;clear m d;generalize want p [41]=pq at *;refine zbW ?_;refine zab ?_;refine I [0] F ?_;refine zct ?_;refine aX [0] A ?_;refine zar ?_;refine OA rfl rfl (GL.mr 1 (news:=[[qT t]]) rfl rfl rfl aH rfl rfl (by refine⟨?_,?_⟩;(· show _+1<=_;omega);(· show(_+1)*_<=_;omega)) ?_);intro Y c3;refine b0 ?_
    try rw[show(jY st.aL).length+1=(st.aL++[t]).length by simp[lI]]
    refine zet ?_;apply GW.wk
    ·apply Wk.nV (i:=5) (o:=1) (j:=6)
     ·rfl
     ·rfl
     ·rfl
     ·rfl
    simp only[oset,bB];refine aV (aM 0 7 (.a 7 (.a 8 (aM 9 3 (.a 12 .nil))))) ?_;refine zca ?_;refine OA rfl rfl (GL.mr 4 (news:=[qS (s,b)]) rfl rfl rfl aH rfl rfl (by refine⟨?_,?_⟩;(· show _+1<=_;omega);(· show(_+1)*_<=_;omega)) ?_);intro Z c4;refine b0 ?_
    try rw[show(st.av.map qS).length+1=(st.av++[(s,b)]).length by simp]
    exact zbo
   ·have B:((want p [41]).code==0)=false:=by grind
    rw[ab d]at v;cases v;clear d;generalize want p [41]=pq at *;refine zbW ?_;refine zab ?_;refine I [0] F ?_;refine cy ?_
    grind
open Go.Xp (Tok)
theorem Tb{f:Nat}(p:RS)(st:PS)(h:HW)(q:RS)(Y:PS)(n:Nat)(W:p.ok)(hn:st.le n)(i:n+f+4<=1099511627776)(l:iW f p st=some (q,Y)) :
  GC prog 199 [.loc 0 0] (uz p st h) (fun g bE=>g=.tup []/\∃e,bE=uz q Y e):=by
 cases o:is p 0 jh with
 |true=>exact Nh p st h q Y n W hn L o l
 |false =>
  cases b:is p 0 ju with
  |true=>exact JY p st h q Y n W hn i o b l
  |false=>exact JX p st h q Y W o b l
def nU(av:List (ah × List ah))(aL:List T)(k:Nat):List am:=av.mapIdx fun i x=>[.v (sv x.1),strs x.2,.v (ii (if i<k then((aP (aL.take i):Nat):Int)else 0))]
theorem EK:∀(rows:List am)(i j o:Nat)(g:GV),(dI rows i o g)[j]?=if j=i then(rows[j]?).map (fun r=>bB r o g)else rows[j]?
 |[],i,j,o,g=>by simp[dI]
 |r::rs,0,0,o,g=>by rfl
 |r::rs,0,j+1,o,g=>by rfl
 |r::rs,i+1,0,o,g=>by rfl
 |r::rs,i+1,j+1,o,g=>by
  rw[dI,List.getElem?_cons_succ,EK rs i j o g];simp
theorem SH(av:List (ah × List ah))(aL:List T):av.map qS=nU av aL 0:=by
 apply ext_getElem?;intro i;rw[nU,getElem?_mapIdx,dR];rfl
theorem MC(av:List (ah × List ah))(aL:List T)(k:Nat):dI (nU av aL k) k 2 (.v (ii ((aP (aL.take k):Nat):Int)))=nU av aL (k+1):=by
 apply ext_getElem?;intro i;rw[EK,nU,nU,getElem?_mapIdx,getElem?_mapIdx]
 by_cases h:i=k
 ·subst h;rw[ai rfl]
  cases av[i]? with
  |none=>rfl
  |some x=>simp[bB]
 grind
theorem Pf{av:List (ah × List ah)}{aL:List T}{k:Nat}(j:Nat)(h:k<av.length):∃x,(nU av aL j)[k]?=some [.v (sv x.1),strs x.2,.v (ii (if k<j then((aP (aL.take k):Nat):Int)else 0))]/\av[k]?=some x:=by
 refine⟨av[k],?_,by simp[h]⟩;rw[nU,getElem?_mapIdx];simp[h]
def HT(q:RS)(st:PS):GV :=
 if q.code=0 then
  if aP st.aL>800 then .tup [.agg [.sl 1 [],.sl 2 [],.sl 3 [],.sl 5 []],.v (ii 10),.v (ii 0)]
  else .tup [.agg [.sl 1 (st.au.map mf),.sl 2 (st.aq.map qR),.sl 3 (nU st.av st.aL st.aL.length),.sl 5 ((cv 0 st.aL).map r6)],.v (ii 0),.v (ii 0)]
 else .tup [.agg [.sl 1 [],.sl 2 [],.sl 3 [],.sl 5 []],.v (ii q.code),.v (ii q.at_)]
theorem F9{G f:Nat}(ts:List Tok)(e:Int)(q:RS)(st:PS)(hl:ts.length<=1099511627776)(hb:G+f+4<=1099511627776)(hz:q.code=0->aP st.aL<=1099511627776)(h:nT G f ⟨ts,0,e,0,0⟩ .empty=some (q,st)) :
  GF prog 129 [ir ts,.v (ii e)] [] (HT q st) []:=by
 unfold HT;refine ak func129 ntmps129 ?_;refine GW.wk (Wk.eS 132 1) ?_;refine GW.wk (Wk.eS 9 1) ?_;refine GW.wk (Wk.eS 79 2) ?_;refine GW.wk (Wk.eS 53 3) ?_;refine GW.loop (fun z:Nat × RS × PS=>z.1) (fun z N Γ=>∃h n,N=ir ts::.v (ii e)::U::U::.loc 0 0::.v (ii 0)::.v (ii 0)::.loc 1 0::zU 71 []/\Γ=.box 28 [.v (.slice none 0 0),.v (.slice none 0 0),.v (.slice none 0 0),.v (.slice none 0 0)]::uz z.2.1 z.2.2 h/\z.2.1.l=ts/\z.2.1.ok/\z.2.2.le n/\n+z.1<=G/\nT z.1 f z.2.1 z.2.2=some (q,st)) (G,⟨ts,0,e,0,0⟩,.empty) ?_ ?_
 ·exact⟨_,_,Wk.a6 aC,⟨none,0,none,0,none,0,none,0⟩,0,rfl,rfl,rfl,⟨bl _,hl⟩,⟨a8 _,a8 _,a8 _,rfl⟩,by simp,h⟩
 clear h;rintro⟨g,p,s⟩_ _⟨b,n,rfl,rfl,B,F,A,Z,h⟩;simp only at B F A Z h
 cases g with
 |zero=>cases h
 |succ g =>
 rw[nT]at h
 by_cases w:p.code=0/\p.i<p.l.length
 ·rw[ai w]at h
  have c:(p.code==0)=true:=by grind
  have d:decide ((p.i:Int)<((ts.map da).length:Int))=true:=by
   grind
  cases H:iW f p s with
  |none=>grind
  |some r =>
   have⟨p2,s2⟩:=r;rw[H]at h;simp only at h;have C:=Wo F H;refine V ?_;refine bP [1,2,3,4,5] (Tb p s b p2 s2 n F A L H) ?_;rintro _ _⟨rfl,T,rfl⟩;refine zas ?_;exact⟨(g,p2,s2),⟨_,_,Wk.a6 aC,T,n+1,rfl,rfl,by rw[C.1,B],C.ok F,Wm H A,by omega,h⟩,by simp⟩
 ·rw[ab w]at h
  obtain⟨rfl,rfl⟩:p=q/\s=st:=by grind
  clear h
  have W:∀J M:Bool,(p.code==0)=J->decide ((p.i:Int)<((ts.map da).length:Int))=M->J=true->M=false:=fun J M h1 h2 h3=>by
   grind
  by_cases Q:p.code=0
  ·rw[ai Q];have hz:=hz Q
   have c:(p.code==0)=true:=by grind
   have S:(p.code != 0)=false:=by grind
   have d:=W _ _ c rfl rfl;have Ol:=A.aL;have Qm:=A.av;have hpt:=lI s.aL;have Lv:=Go.Xp.dU s.aL;refine zbW ?_;refine GW.wk (by apply Wk.sr (t:=52) (i:=2)<;>rfl) ?_;simp only[oset,bB];refine V ?_;refine GW.wk (Wk.eS 82 5) ?_;rw[SH s.av s.aL]
   refine GW.range s.aL.length (fun k N Γ=>∃m u,N=U::U::U::U::.loc 0 0::.v (ii 0)::.v (ii 0)::U::.loc 6 0::zU 43 (.sl 1 (jY s.aL)::.v (ii (s.aL.length:Int))::.v (ii (k:Nat))::zU 24 [])/\Γ=[.box 28 [.v (.slice none 0 0),.v (.slice none 0 0),.v (.slice none 0 0),.v (.slice none 0 0)],cK p (hx s b),.vec 132 1 (jY s.aL).length (jY s.aL),.vech 9 1 (s.au.map mf) (.slice b.aG s.au.length b.cG),.vech 79 2 (s.aq.map qR) (.slice b.aA s.aq.length b.cA),.vech 53 3 (nU s.av s.aL k) (.slice b.aF s.av.length b.cF),
    .box 28 [.v (.slice b.aG s.au.length b.cG),.v (.slice b.aA s.aq.length b.cA),.v (.slice b.aF s.av.length b.cF),.v (.slice m (aP (s.aL.take k)) u)],.vech 82 5 ((cv 0 (s.aL.take k)).map r6) (.slice m (aP (s.aL.take k)) u)]) ?_ L ?_ ?_ ?_
   ·exact⟨_,_,Wk.a6 aC,none,0,rfl,rfl⟩
   ·rintro k _ _⟨m,u,rfl,rfl⟩;exact dS
   ·rintro k _ _ d⟨m,u,rfl,rfl⟩;obtain⟨t,ht⟩:∃t,s.aL[k]?=some t:=⟨s.aL[k],by simp[d]⟩;have hr:=xe ht;have rI:=Go.Xp.jl ht;have hle:=Go.Xp.iJ s.aL (k+1)
    have Uw:s.aL.take (k+1)=s.aL.take k++[t]:=by grind[c7]
    have⟨x,E,hx2⟩:=Pf (av:=s.av) (aL:=s.aL) (k:=k) k L;rw[ab (Nat.lt_irrefl k)]at E;have B3:k<(nU s.av s.aL k).length:=(b6 E).1
    have hX:((cv 0 (s.aL.take k)).map r6).length=aP (s.aL.take k):=by grind[Go.Xp.ki]
    have Y:=KT (be t) t (a8 _) (aP (s.aL.take k)) _ m u hX L;rw[<-MC s.av s.aL k,Uw,Go.Xp.lH,Go.Xp.jE];simp only[cv,aP,gL,Nat.add_zero,dy,jK];generalize(cv 0 (s.aL.take k)).map r6=X at *;generalize aP (s.aL.take k)=z at *;generalize nU s.av s.aL k=R at *;refine V ?_;refine tE ?_;refine V ?_;refine bP [7] Y ?_;rintro _ _⟨a5,c5,rfl,rfl⟩;refine zas ?_;exact⟨rfl,rfl,_,_,Wk.a6 aC,a5,c5,rfl,rfl⟩
   ·rintro _ _⟨m,u,rfl,rfl⟩;rw[dx]
    have hX:((cv 0 s.aL).map r6).length=aP s.aL:=by grind[Go.Xp.ki]
    by_cases h8:aP s.aL>800
    ·rw[ai h8]
     have O:decide ((800:Int)<(aP s.aL:Int))=true:=by grind
     generalize aP s.aL=z at *;refine V ?_;refine Ag ?_;exact zaH
    ·rw[ab h8]
     have O:decide ((800:Int)<(((cv 0 s.aL).map r6).length:Int))=false:=by grind
     refine bg ?_;refine GW.wk (by apply Wk.nV (i:=6) (o:=0) (j:=3)<;>rfl) ?_;simp only[oset,bB];refine GW.wk (by apply Wk.nV (i:=6) (o:=1) (j:=4)<;>rfl) ?_;simp only[oset,bB];refine GW.wk (by apply Wk.nV (i:=6) (o:=2) (j:=5)<;>rfl) ?_;simp only[oset,bB];refine GW.wk (by apply Wk.nV (i:=6) (o:=3) (j:=7)<;>rfl) ?_;simp only[oset,bB];refine V ?_;refine mV ?_;exact zai
  ·rw[ab Q]
   have c:(p.code==0)=false:=by grind
   have S:(p.code != 0)=true:=by grind
   refine zbW ?_;refine aV (aM 0 9 (.a 9 (.q 10 (.q 11 .nil)))) ?_;refine bj ?_;refine Ag ?_;exact zaH
end Go.Xg
namespace Go.Xg
open Go.RowKit Go.Xw Go.Proofs Tryz
open GV (U)
open Go.Sp (small eM fD)
open Go.Im (ox)
attribute [local irreducible] GW GL GO D GC GA bo bn
theorem xz(c:UInt8):GF prog 238 [BN c] [] (.v (.bool (eM c))) []:=by
 unfold eM;refine dj func238 ntmps238 ?_
 cases h:decide ((48:Int)<=(c.toNat:Int))
 all_goals
  exact aK
theorem yV(c:UInt8):GF prog 179 [BN c] [] (.v (.bool (small c))) []:=by
 unfold small;refine dj func179 ntmps179 ?_
 cases h:decide ((97:Int)<=(c.toNat:Int))
 all_goals
  exact aK
theorem Jw(c:UInt8):GF prog 181 [BN c] [] (.v (.bool (fD c))) []:=by
 unfold fD;have G:=yV c;have T:=xz c;generalize small c=n at *;generalize eM c=m at *;refine ak func181 ntmps181 ?_;refine ja [] G ?_
 cases n with
 |true =>
  exact aK
 |false =>
  cases o:decide ((65:Int)<=(c.toNat:Int))with
  |true =>
   cases b:decide ((c.toNat:Int)<=90)with
   |true =>
    exact aK
   |false =>
    refine V ?_;refine ja [] T ?_
    cases m with
    |true =>
     exact aK
    |false =>
     exact aK
  |false =>
   refine V ?_;refine ja [] T ?_
   cases m with
   |true =>
    exact aK
   |false =>
    exact aK
theorem QQ(k:FuncId)[hf:fQ prog k](p:UInt8->Bool)(O:∀c,GF prog k [BN c] [] (.v (.bool (p c))) [])(s:ah)(a:Nat)(H:s.length<=1099511627776)(ha:a<=s.length) :
  GF prog 180 [.v (sv s),.v (ii (a:Nat)),.v (.func (.func k) #[] #[])] [] (.v (ii (Go.Sp.run s p (s.length+1) a:Nat))) []:=by
 generalize i:Go.Sp.run s p (s.length+1) a=R;refine ak func180 ntmps180 ?_;refine GW.loop (fun x:Nat × Nat=>x.1) (fun x M u=>M=.v (sv s)::.v (ii (x.2:Nat))::.v (.func (.func k) #[] #[])::zU 18 []/\u=[]/\x.2<=s.length/\s.length<x.1+x.2/\Go.Sp.run s p x.1 x.2=R) (s.length+1,a) ?_ ?_
 ·exact⟨_,_,Wk.a6 aC,rfl,rfl,ha,by simp only;omega,i⟩
 ·rintro⟨f,a⟩_ _⟨rfl,rfl,ha,G,h⟩;simp only at ha G h
  cases f with
  |zero=>omega
  |succ f =>
  rw[Go.Sp.run]at h
  cases W:s[a]? with
  |none =>
   rw[W]at h;simp only at h;subst h;have w:s.length<=a:=nQ W
   have T:decide ((a:Int)<(s.length:Int))=false:=by simpa using w
   exact zcZ
  |some c =>
   rw[W]at h;simp only at h;have N:a<s.length:=(b6 W).1
   have T:decide ((a:Int)<(s.length:Int))=true:=by simpa using N
   have J:=O c
   cases F:p c with
   |false =>
    rw[F]at J;rw[ab (by rw[F];simp)]at h;subst h;refine V ?_;refine jW [] J ?_;exact zcZ
   |true =>
    rw[F]at J;rw[ai F]at h;refine V ?_;refine jW [] J ?_;refine V ?_;exact⟨(f,a+1),⟨_,_,Wk.a6 aC,rfl,rfl,N,by simp only;omega,h⟩,by simp⟩
theorem MM:Go.Lib.asciiSpaceTab=vo:=by decide
theorem KP:Go.Lib.fields [105,110,116,32,118,97,114,32,102,117,110,99,32,105,102,32,101,108,115,101,32,119,104,105,108,101,32,114,101,116,117,114,110,32,124,124,32,38,38,32,61,61,32,33,61,32,60,61,32,62,61,32,60,60,32,62,62,32,40,32,41,32,123,32,125,32,91,32,93,32,44,32,59,32,61,32,60,32,62,32,43,32,45,32,42,32,47,32,37,32,38,32,124,32,94,32,33,32,126]=ox:=by decide +kernel
open Go.Im (mb)
theorem nZ.y5{P:Program}{f:FuncId}{vs:List Value}{w:World}{R:Value->World->Prop}(h:Calls P f vs.toArray w fun e w'=>∃v,e=.returned v/\R v w'):nZ P f vs w R:=h
theorem Nu:GF prog 305 [.v (sv [105,110,116,32,118,97,114,32,102,117,110,99,32,105,102,32,101,108,115,101,32,119,104,105,108,101,32,114,101,116,117,114,110,32,124,124,32,38,38,32,61,61,32,33,61,32,60,61,32,62,61,32,60,60,32,62,62,32,40,32,41,32,123,32,125,32,91,32,93,32,44,32,59,32,61,32,60,32,62,32,43,32,45,32,42,32,47,32,37,32,38,32,124,32,94,32,33,32,126])] [] (strs ox) []:=by
 have:=GF.Y2 (P:=prog) (f:=305) (vs:=[sv [105,110,116,32,118,97,114,32,102,117,110,99,32,105,102,32,101,108,115,101,32,119,104,105,108,101,32,114,101,116,117,114,110,32,124,124,32,38,38,32,61,61,32,33,61,32,60,61,32,62,61,32,60,60,32,62,62,32,40,32,41,32,123,32,125,32,91,32,93,32,44,32,59,32,61,32,60,32,62,32,43,32,45,32,42,32,47,32,37,32,38,32,124,32,94,32,33,32,126]]) (us:=ox.map sv) (E:=9) fun K r w M n=>?_
 ·rw[List.map_map]at this;exact this
 ·obtain⟨E,z,l⟩:=sQ.all M n M.spc (zs:=vo.map fun z=>Value.int .u8 z) aU (fun m o x hx=>by
   rw[dR]at hx;unfold yA;rw[ab aU,ab aU,ai rfl]
   cases G:vo[o]? with
   |none=>rw[G]at hx;cases hx
   |some y=>rw[G]at hx;cases hx;rfl)
  have Q:Go.Lib.TabIs prog w "strings.asciiSpace" .u8 Go.Lib.asciiSpaceTab:=by
   unfold Go.Lib.TabIs World.var?;rw[show prog.globalNamed "strings.asciiSpace" = some 1 by kernel_rfl,MM];simp only[Option.bind_some,l]
  have h:=strings_Fields_laid ⟨[105,110,116,32,118,97,114,32,102,117,110,99,32,105,102,32,101,108,115,101,32,119,104,105,108,101,32,114,101,116,117,114,110,32,124,124,32,38,38,32,61,61,32,33,61,32,60,61,32,62,61,32,60,60,32,62,62,32,40,32,41,32,123,32,125,32,91,32,93,32,44,32,59,32,61,32,60,32,62,32,43,32,45,32,42,32,47,32,37,32,38,32,124,32,94,32,33,32,126].toArray⟩ w aU (fun j b i=>by
   have:∀b∈([105,110,116,32,118,97,114,32,102,117,110,99,32,105,102,32,101,108,115,101,32,119,104,105,108,101,32,114,101,116,117,114,110,32,124,124,32,38,38,32,61,61,32,33,61,32,60,61,32,62,61,32,60,60,32,62,62,32,40,32,41,32,123,32,125,32,91,32,93,32,44,32,59,32,61,32,60,32,62,32,43,32,45,32,42,32,47,32,37,32,38,32,124,32,94,32,33,32,126]:List UInt8),b.toNat<128:=by decide
   exact this b (bN i)) Q
  refine nZ.y5 (Calls.mono h ?_);rintro e Z⟨q,c⟩;rw[show((⟨[105,110,116,32,118,97,114,32,102,117,110,99,32,105,102,32,101,108,115,101,32,119,104,105,108,101,32,114,101,116,117,114,110,32,124,124,32,38,38,32,61,61,32,33,61,32,60,61,32,62,61,32,60,60,32,62,62,32,40,32,41,32,123,32,125,32,91,32,93,32,44,32,59,32,61,32,60,32,62,32,43,32,45,32,42,32,47,32,37,32,38,32,124,32,94,32,33,32,126].toArray⟩:ByteArray).data.toList)=[105,110,116,32,118,97,114,32,102,117,110,99,32,105,102,32,101,108,115,101,32,119,104,105,108,101,32,114,101,116,117,114,110,32,124,124,32,38,38,32,61,61,32,33,61,32,60,61,32,62,61,32,60,60,32,62,62,32,40,32,41,32,123,32,125,32,91,32,93,32,44,32,59,32,61,32,60,32,62,32,43,32,45,32,42,32,47,32,37,32,38,32,124,32,94,32,33,32,126]from rfl,KP]at q c;exact⟨_,q,by rw[bS],c⟩
theorem SO:GF prog 239 [] [] (strs ox) []:=by
 have h:=Nu;generalize ox=l at *;refine ak func239 ntmps239 ?_;exact zcF
theorem yS(s:ah):GF prog 182 [.v (sv s)] [] (.v (.bool (mb s))) []:=by
 have h:=SO;have W:=jm ox s aU;unfold mb;generalize ox=l at *;refine ak func182 ntmps182 ?_;refine I [] h ?_;exact zaY
open Go.Sp (jB hE)
open Go.Im (dL ku kr n9 mA tC mJ)
theorem Po(s:ah)(a:Nat)(c:UInt8)(G:s.length<=1099511627776)(W:s[a]?=some c):GF prog 252 [.v (sv s),.v (ii (a:Nat))] [] (.v (sv (kr s a))) []:=by
 have O:a<s.length:=(b6 W).1;have z:=yV c;refine ak func252 ntmps252 ?_;refine GW.loop (fun x:Nat=>x) (fun x J u=>J=.v (sv s)::.v (ii (a:Nat))::U::U::U::.v (ii (x:Nat))::zU 32 []/\u=[]/\x<=2/\∀j,x<j->j<=2->ku s a j=false) 2 ?_ ?_
 ·exact⟨_,_,Wk.a6 aC,rfl,rfl,a8 _,fun j q b=>by omega⟩
 ·rintro x _ _⟨rfl,rfl,hx,i⟩
  have l:∀k,x=k+1->ku s a x=false->∀j,k<j->j<=2->ku s a j=false:=fun k R M j q b=>by
   grind
  have o:∀k,ku s a k=(decide (a+k<=s.length)&&!(small c)&&mb (dL s a (a+k))):=fun k=>by grind[ku]
  match x,hx,i,l with
  |0,_,i,_ =>
   have e:kr s a=[]:=by grind[kr]
   rw[e];exact zcZ
  |1,_,i,l =>
   have N:decide (((a+1:Nat):Int)<=(s.length:Int))=true:=by grind
   have m:a<=a+1/\a+1<=s.length:=by omega
   have M:=o 1;rw[show decide (a+1<=s.length)=true from decide_eq_true L]at M
   cases H:small c with
   |true =>
    rw[H]at z M;refine V ?_;refine I [] z ?_;exact zd8
   |false =>
    rw[H]at z M;have Q:=yS (dL s a (a+1))
    cases X:mb (dL s a (a+1))with
    |false =>
     rw[X]at Q M;refine V ?_;refine I [] z ?_;refine I [] Q ?_;exact zd8
    |true =>
     rw[X]at Q M
     have e:kr s a=dL s a (a+1):=by grind[kr]
     rw[e];refine V ?_;refine I [] z ?_;exact zcD
  |2,_,i,l =>
   have M:=o 2
   by_cases t:a+2<=s.length
   ·have N:decide (((a+2:Nat):Int)<=(s.length:Int))=true:=by grind
    have m:a<=a+2/\a+2<=s.length:=by omega
    rw[show decide (a+2<=s.length)=true by grind]at M
    cases H:small c with
    |true =>
     rw[H]at z M;refine V ?_;refine I [] z ?_;exact zcc
    |false =>
     rw[H]at z M;have Q:=yS (dL s a (a+2))
     cases X:mb (dL s a (a+2))with
     |false =>
      rw[X]at Q M;refine V ?_;refine I [] z ?_;refine I [] Q ?_;exact zcc
     |true =>
      rw[X]at Q M
      have e:kr s a=dL s a (a+2):=by grind[kr]
      rw[e];refine V ?_;refine I [] z ?_;exact zcD
   ·have N:decide (((a+2:Nat):Int)<=(s.length:Int))=false:=by grind
    rw[show decide (a+2<=s.length)=false by grind]at M;refine V ?_;exact zcc
  |n+3,hx,_,_=>omega
def JA(n:Int)(e:Nat)(a:Nat):GV:=if n>2147483647 then .tup [.agg (da tC),.v (ii (a:Nat)),.v (ii 3)]else .tup [.agg (da ⟨1,n,[],a⟩),.v (ii (e:Nat)),.v (ii 0)]
theorem MX(s:ah)(a:Nat)(c:UInt8)(G:s.length<=1099511627776)(X:s[a]?=some c)(hd:eM c=true) :
  GF prog 198 [.v (sv s),.v (ii (a:Nat))] [] (JA (mA (dL s a (n9 s a)) 0) (n9 s a) a) []:=by
 have Y:a<s.length:=(b6 X).1;have J:=xz c;rw[hd]at J;have N:=QQ 238 eM xz s a G L;have⟨A,W,B⟩:=Go.Sp.oK s eM (s.length+1) a L L;have z:=Go.Im.Bl s eM (s.length+1) a L;unfold n9;generalize Go.Sp.run s eM (s.length+1) a=e at *;clear A;generalize m:mA (dL s a e) 0=R;refine ak func198 ntmps198 ?_;refine I [] J ?_;refine I [] N ?_;refine GW.loop (fun x:Nat × Int=>e-x.1) (fun x M H=>M=.v (sv s)::.v (ii (a:Nat))::U::U::.loc 0 0::.v (ii 0)::.v (ii 0)::U::.v (ii (e:Nat))::.v (ii x.2)::.v (ii (x.1:Nat))::zU 70 []/\H=[.box 205 (da tC)]/\a<=x.1/\x.1<=e/\mA (dL s x.1 e) x.2=R/\0<=x.2/\x.2<=21474836480) (a,0) ?_ ?_
 ·exact⟨_,_,Wk.a6 aC,rfl,rfl,a8 _,W,m,by simp,by simp⟩
 ·rintro⟨i,n⟩_ _⟨rfl,rfl,F,T,h,u,w⟩;simp only at F T h u w
  have j:R=n->True:=fun _=>trivial
  by_cases Q:i<e
  ·have o:decide ((i:Int)<(e:Int))=true:=by grind
   by_cases l:n<=2147483647
   ·have q:decide (n<=2147483647)=true:=by grind
    have C:i<s.length:=by omega
    obtain⟨d,S⟩:∃d,s[i]?=some d:=⟨s[i],by simp[C]⟩
    have E:eM d=true:=by
     have:d∈dL s a e:=by
      unfold dL;rw[List.mem_iff_getElem?];exact⟨i-a,by grind⟩
     grind
    have t:(48:Int)<=(d.toNat:Int)/\(d.toNat:Int)<=57:=by
     simp_all[eM,aZ,decide_eq_true_eq]
    rw[Go.Im.pI S Q B,mA,ai l]at h;refine V ?_;exact⟨(i+1,10*n+((d.toNat:Int)-48)),⟨_,_,Wk.a6 aC,rfl,rfl,by omega,Q,h,by omega,by omega⟩,by omega⟩
   ·have q:decide (n<=2147483647)=false:=by grind
    have O:R=n:=by
     rw[<-h]
     cases Z:dL s i e with
     |nil=>rw[mA]
     |cons d r=>grind[mA]
    rw[O];clear h O m j
    have k:decide (2147483647<n)=true:=by grind
    unfold JA;rw[ai L];exact zeu
  ·have o:decide ((i:Int)<(e:Int))=false:=by grind
   have O:R=n:=by
    grind[dL,kQ,Go.Im.sW,mA]
   rw[O];clear h O m j;unfold JA
   by_cases l:n>2147483647
   ·have k:decide (2147483647<n)=true:=by grind
    rw[ai l];exact zeu
   ·have k:decide (2147483647<n)=false:=by grind
    rw[ab l];exact zeu
theorem S9(s:ah)(a:Nat)(c:UInt8)(G:s.length<=1099511627776)(W:s[a]?=some c) :
  GF prog 198 [.v (sv s),.v (ii (a:Nat))] [] (.tup [.agg (da (mJ s a c).1),.v (ii ((mJ s a c).2.1:Nat)),.v (ii (mJ s a c).2.2)]) []:=by
 have O:a<s.length:=(b6 W).1;have J:=xz c;have z:=yV c
 by_cases T:eM c=true
 ·have h:=MX s a c G W T;unfold JA at h;unfold mJ
  grind
 ·have t:eM c=false:=by grind
  unfold mJ;rw[ab T];rw[t]at J
  by_cases H:small c=true
  ·rw[ai H];rw[H]at z;have N:=QQ 181 fD Jw s a G L;have⟨w,R,q⟩:=Go.Sp.oK s fD (s.length+1) a L L;have l:jB s a=(s.take (hE s a)).drop a:=rfl;have Q:=yS (jB s a);unfold hE at l |-;rw[l]at Q |-;generalize Go.Sp.run s fD (s.length+1) a=e at *;have j:a<=e/\e<=s.length:=⟨R,q⟩
   cases X:mb ((s.take e).drop a)with
   |true =>
    exact zb9
   |false =>
    exact zb9
  ·have M:small c=false:=by grind
   rw[ab H];rw[M]at z;have i:=Po s a c G W
   have d:(kr s a).length<=2:=by
    grind[dL,qt,iC,kr]
   generalize kr s a=x at *
   by_cases hx:x=[]
   ·have C:(x==[])=true:=by grind
    rw[ai hx];exact zcL
   ·have C:(x==[])=false:=by grind
    rw[ab hx];exact zcL
open Go.Xp (Tok)
open Go.Sp (ct fv)
open Go.Im (pC uA)
def AU(x t:ah):Bool:=decide (t.length<=x.length)&&(x.take t.length==t)
theorem IJ(x t:ah)(hx:x.length<=1099511627776)(M:t.length<=1099511627776):GF prog 250 [.v (sv x),.v (sv t)] [] (.v (.bool (AU x t))) []:=by
 unfold AU
 by_cases h:t.length<=x.length
 ·have o:decide ((t.length:Int)<=(x.length:Int))=true:=by grind
  rw[decide_eq_true h];refine ak func250 ntmps250 ?_;exact az
 ·have o:decide ((t.length:Int)<=(x.length:Int))=false:=by grind
  rw[decide_eq_false h];refine ak func250 ntmps250 ?_;refine bA ?_
  grind[bx]
theorem FC(x t:ah)(hx:x.length<=1099511627776)(M:t.length<=1099511627776):GF prog 196 [.v (sv x),.v (sv t)] [] (.v (.bool (AU x t))) []:=by
 have h:=IJ x t hx M;generalize AU x t=b at *;refine ak func196 ntmps196 ?_;refine I [] h ?_;refine bA ?_
 grind[bx]
theorem FM{s t:ah}{a:Nat}(ha:a<=s.length):AU (s.drop a) t=ct s a t:=by
 grind[AU,ct]
theorem FD(c:UInt8):GF prog 195 [.v (sv [32,9,10,13]),BN c] [] (.v (ii (Go.Lib.indexByte [32,9,10,13] c))) []:=by
 refine GF.UO (vs:=[sv [32,9,10,13],.int .u8 (c.toNat:Int)]) fun K m w M l=>?_
 refine nZ.y5 (Calls.mono (strings_IndexByte ⟨[32,9,10,13].toArray⟩ (c.toNat:Int) w) ?_);simp[Ext.refl]
theorem Ny(x:ah)(hx:x.length<=4294967280):GF prog 197 [.v (sv x),.v (sv [42,47])] [] (.v (ii (Go.Lib.index x [42,47]))) []:=by
 refine GF.UO (vs:=[sv x,sv [42,47]]) fun K n w M l=>?_
 have⟨m,j⟩:=M.maxLen l;refine nZ.y5 (Calls.mono (strings_Index ⟨x.toArray⟩ ⟨[42,47].toArray⟩ m w (by show(x.toArray).size<_;grind) j) ?_)
 grind[Ext.refl]
theorem NN(c:UInt8):decide ((0:Int)<=Go.Lib.indexByte [32,9,10,13] c)=fv c:=by
 have i:fv c=((32:UInt8)==c ||(9:UInt8)==c ||(10:UInt8)==c ||(13:UInt8)==c):=by
  have e:∀k:UInt8,((c.toNat:Int)==(k.toNat:Int))=(k==c):=fun k=>by
   grind[UInt8.toNat_inj]
  have w:=e 32;have R:=e 9;have q:=e 10;have E:=e 13
  grind[fv]
 rw[i];unfold Go.Lib.indexByte Go.Lib.indexByte Go.Lib.indexByte Go.Lib.indexByte Go.Lib.indexByte
 grind
theorem LM(l:ah):Go.Lib.index l [42,47]=(match uA l with|none => -1|some n=>(n:Int)):=by
 induction l with
 |nil=>rfl
 |cons b l O =>
  rw[Go.Lib.index,uA]
  grind
theorem OX(s:ah)(f:Nat)(ts:List Tok)(c z:Int)(hs:s.length<=4294967280)(h:pC s f 0 []=some (ts,c,z)) :
  GF prog 128 [.v (sv s)] [] (.tup [ir ts,.v (ii c),.v (ii z)]) []:=by
 refine ak func128 ntmps128 ?_;refine GW.wk (Wk.A8 (t:=5) (a:=none) (c:=0) 205 4 rfl) ?_;refine GW.loop (fun x:Nat × Nat × List Tok=>x.1) (fun x Q Γ=>∃n d,Q=.v (sv s)::U::.v (.slice none 0 0)::.v (ii 0)::.v (ii 0)::.vec 0 n::.v (ii (x.2.1:Nat))::zU 48 []/\Γ=[.vec 205 4 0 d]/\d.length=n/\d=x.2.2.map da/\x.2.1<=s.length/\n<=x.2.1/\pC s x.1 x.2.1 x.2.2=some (ts,c,z)) (f,0,[]) ?_ ?_
 ·exact⟨_,_,Wk.a6 aC,0,[],rfl,rfl,rfl,rfl,bl _,a8 _,h⟩
 ·clear h;rintro⟨f,a,o⟩_ _⟨n,d,rfl,rfl,C,i,O,N,h⟩;simp only at i O N h
  cases f with
  |zero=>cases h
  |succ f =>
  rw[pC]at h
  cases u:s[a]? with
  |none =>
   rw[u]at h;cases h;have X:s.length<=a:=nQ u
   have T:decide ((a:Int)<(s.length:Int))=false:=by grind
   refine ew ?_;refine GW.wk (Wk.jJ (t:=5) rfl rfl rfl C) ?_;refine V ?_;refine BB ?_;exact⟨by rw[i];rfl,rfl⟩
  |some q =>
   rw[u]at h;simp only at h;have M:a<s.length:=(b6 u).1
   have T:decide ((a:Int)<(s.length:Int))=true:=by grind
   have k:=FD q;have w:=NN q
   cases F:fv q with
   |true =>
    rw[ai F]at h;rw[F]at w;generalize Go.Lib.indexByte [32,9,10,13] q=Y at *;refine V ?_;refine I [] k ?_;refine jF ?_;exact⟨(f,a+1,o),⟨_,_,Wk.a6 aC,n,d,rfl,rfl,C,i,M,by grind,h⟩,by simp⟩
   |false =>
    rw[ab ze2]at h;rw[F]at w;generalize Go.Lib.indexByte [32,9,10,13] q=Y at *;have b:=FC (s.drop a) [47,42] ze2 aU;rw[FM O]at b
    cases m:ct s a [47,42]with
    |true =>
     rw[ai m]at h;rw[m]at b;have G:=Go.Sp.nc m;simp only[length_cons,length_nil]at G;have l:=Ny (s.drop (a+2)) ze2;rw[LM]at l
     have S:a+2<=s.length:=by omega
     cases J:uA (s.drop (a+2))with
     |none =>
      rw[J]at l h;cases h;refine zdV ?_;refine I [] l ?_;exact zdL
     |some e =>
      rw[J]at l h;have H:=Go.Im.AW J;rw[qt]at H
      have W:decide (((e:Nat):Int)<0)=false:=by simp
      refine zdV ?_;refine I [] l ?_;refine jF ?_;exact⟨(f,a+(e+4),o),⟨_,_,Wk.a6 aC,n,d,rfl,rfl,C,i,by grind,by grind,h⟩,by simp⟩
    |false =>
     rw[ab ze2]at h;rw[m]at b;have r:=S9 s a q L u
     have A:=fun B=>Go.Im.Iq u B
     generalize mJ s a q=R at *;have⟨t,e,j⟩:=R;simp only at r h A
     by_cases B:j=0
     ·rw[ab L]at h
      have E:(j != 0)=false:=by grind
      have⟨_,_,k3,Z⟩:=A B;refine zdV ?_;refine I [] r ?_;refine zbG ?_;exact⟨(f,e,o++[t]),⟨_,_,(Wk.cut (n:=1) (eF rfl) rfl).trans (Wk.a6 aC),_,_,rfl,rfl,by simp[C],by rw[jK,i];rfl,Z,by grind,h⟩,by simp⟩
     ·rw[ai B]at h
      have E:(j != 0)=true:=by grind
      cases h;refine zdV ?_;refine I [] r ?_;exact zdL
open Go.Xp (T be)
open Go.Im (eB iL)
theorem Oz:∀(N:Nat)(t:T),be t<=N->be t<=1099511627776->GF prog 124 [uT t] [] (.v (.bool (iL t))) []:=by
 intro N
 induction N with
 |zero=>intro t h;rw[Go.Xp.fa]at h;omega
 |succ N ih =>
 intro t hN hb;rw[Go.Xp.fa]at hN hb;have wy:=Go.Xp.dU t.aw;have z:=pP t.aw;rw[Go.Im.w5,Go.Im.qJ];unfold uT;generalize t.n.aj=c;refine dj func124 ntmps124 ?_;refine BC ?_;refine GW.join (fun G S=>G=.box [.v (ii c),.v (ii t.n.at_),.v (ii t.n.n),.v (sv t.n.s),ints t.n.aw,.sl 1 (cB t.aw)] 0::U::U::U::.v (.bool (eB c t.aw.length))::zU 59 []/\S=[]) ?_ ?_
 ·rw[<-z];generalize(cB t.aw)=l
  by_cases h1:c=1
  ·subst h1
   have dM:((1:Int)==1)=true:=by decide
   rw[show eB 1 l.length=((l.length:Int)==0) by rfl];exact gZ
  by_cases h2:c=2
  ·subst h2
   have dM:((2:Int)==1)=false:=by decide
   have kZ:((2:Int)==2)=true:=by decide
   rw[show eB 2 l.length=((l.length:Int)==0) by rfl];exact gZ
  by_cases h4:c=4
  ·subst h4
   have dM:((4:Int)==1)=false:=by decide
   have kZ:((4:Int)==2)=false:=by decide
   have o:((4:Int)==4)=true:=by decide
   rw[show eB 4 l.length=true by rfl];exact gZ
  by_cases Q:c=14
  ·subst Q
   have dM:((14:Int)==1)=false:=by decide
   have kZ:((14:Int)==2)=false:=by decide
   have o:((14:Int)==4)=false:=by decide
   have i:((14:Int)==14)=true:=by decide
   rw[show eB 14 l.length=true by rfl];exact gZ
  by_cases h3:c=3
  ·subst h3
   have dM:((3:Int)==1)=false:=by decide
   have kZ:((3:Int)==2)=false:=by decide
   have o:((3:Int)==4)=false:=by decide
   have i:((3:Int)==14)=false:=by decide
   have d:((3:Int)==3)=true:=by decide
   rw[show eB 3 l.length=((l.length:Int)==1) by rfl];exact gZ
  by_cases h5:c=5
  ·subst h5
   have dM:((5:Int)==1)=false:=by decide
   have kZ:((5:Int)==2)=false:=by decide
   have o:((5:Int)==4)=false:=by decide
   have i:((5:Int)==14)=false:=by decide
   have d:((5:Int)==3)=false:=by decide
   have r:((5:Int)==5)=true:=by decide
   rw[show eB 5 l.length=((l.length:Int)==1) by rfl];exact gZ
  by_cases h7:c=7
  ·subst h7
   have dM:((7:Int)==1)=false:=by decide
   have kZ:((7:Int)==2)=false:=by decide
   have o:((7:Int)==4)=false:=by decide
   have i:((7:Int)==14)=false:=by decide
   have d:((7:Int)==3)=false:=by decide
   have r:((7:Int)==5)=false:=by decide
   have w:((7:Int)==7)=true:=by decide
   rw[show eB 7 l.length=((l.length:Int)==1) by rfl];exact gZ
  by_cases J:c=11
  ·subst J
   have dM:((11:Int)==1)=false:=by decide
   have kZ:((11:Int)==2)=false:=by decide
   have o:((11:Int)==4)=false:=by decide
   have i:((11:Int)==14)=false:=by decide
   have d:((11:Int)==3)=false:=by decide
   have r:((11:Int)==5)=false:=by decide
   have w:((11:Int)==7)=false:=by decide
   have j:((11:Int)==11)=true:=by decide
   rw[show eB 11 l.length=((l.length:Int)==1) by rfl];exact gZ
  by_cases M:c=12
  ·subst M
   have dM:((12:Int)==1)=false:=by decide
   have kZ:((12:Int)==2)=false:=by decide
   have o:((12:Int)==4)=false:=by decide
   have i:((12:Int)==14)=false:=by decide
   have d:((12:Int)==3)=false:=by decide
   have r:((12:Int)==5)=false:=by decide
   have w:((12:Int)==7)=false:=by decide
   have j:((12:Int)==11)=false:=by decide
   have m:((12:Int)==12)=true:=by decide
   rw[show eB 12 l.length=((l.length:Int)==1) by rfl];exact gZ
  by_cases O:c=13
  ·subst O
   have dM:((13:Int)==1)=false:=by decide
   have kZ:((13:Int)==2)=false:=by decide
   have o:((13:Int)==4)=false:=by decide
   have i:((13:Int)==14)=false:=by decide
   have d:((13:Int)==3)=false:=by decide
   have r:((13:Int)==5)=false:=by decide
   have w:((13:Int)==7)=false:=by decide
   have j:((13:Int)==11)=false:=by decide
   have m:((13:Int)==12)=false:=by decide
   have q:((13:Int)==13)=true:=by decide
   rw[show eB 13 l.length=((l.length:Int)==1) by rfl];exact gZ
  by_cases h6:c=6
  ·subst h6
   have dM:((6:Int)==1)=false:=by decide
   have kZ:((6:Int)==2)=false:=by decide
   have o:((6:Int)==4)=false:=by decide
   have i:((6:Int)==14)=false:=by decide
   have d:((6:Int)==3)=false:=by decide
   have r:((6:Int)==5)=false:=by decide
   have w:((6:Int)==7)=false:=by decide
   have j:((6:Int)==11)=false:=by decide
   have m:((6:Int)==12)=false:=by decide
   have q:((6:Int)==13)=false:=by decide
   have F:((6:Int)==6)=true:=by decide
   rw[show eB 6 l.length=((l.length:Int)==2) by rfl];exact gZ
  by_cases h8:c=8
  ·subst h8
   have dM:((8:Int)==1)=false:=by decide
   have kZ:((8:Int)==2)=false:=by decide
   have o:((8:Int)==4)=false:=by decide
   have i:((8:Int)==14)=false:=by decide
   have d:((8:Int)==3)=false:=by decide
   have r:((8:Int)==5)=false:=by decide
   have w:((8:Int)==7)=false:=by decide
   have j:((8:Int)==11)=false:=by decide
   have m:((8:Int)==12)=false:=by decide
   have q:((8:Int)==13)=false:=by decide
   have F:((8:Int)==6)=false:=by decide
   have W:((8:Int)==8)=true:=by decide
   rw[show eB 8 l.length=((l.length:Int)==2) by rfl];exact gZ
  by_cases H:c=10
  ·subst H
   have dM:((10:Int)==1)=false:=by decide
   have kZ:((10:Int)==2)=false:=by decide
   have o:((10:Int)==4)=false:=by decide
   have i:((10:Int)==14)=false:=by decide
   have d:((10:Int)==3)=false:=by decide
   have r:((10:Int)==5)=false:=by decide
   have w:((10:Int)==7)=false:=by decide
   have j:((10:Int)==11)=false:=by decide
   have m:((10:Int)==12)=false:=by decide
   have q:((10:Int)==13)=false:=by decide
   have F:((10:Int)==6)=false:=by decide
   have W:((10:Int)==8)=false:=by decide
   have E:((10:Int)==10)=true:=by decide
   rw[show eB 10 l.length=((l.length:Int)==2) by rfl];exact gZ
  by_cases h9:c=9
  ·subst h9
   have dM:((9:Int)==1)=false:=by decide
   have kZ:((9:Int)==2)=false:=by decide
   have o:((9:Int)==4)=false:=by decide
   have i:((9:Int)==14)=false:=by decide
   have d:((9:Int)==3)=false:=by decide
   have r:((9:Int)==5)=false:=by decide
   have w:((9:Int)==7)=false:=by decide
   have j:((9:Int)==11)=false:=by decide
   have m:((9:Int)==12)=false:=by decide
   have q:((9:Int)==13)=false:=by decide
   have F:((9:Int)==6)=false:=by decide
   have W:((9:Int)==8)=false:=by decide
   have E:((9:Int)==10)=false:=by decide
   have f9:((9:Int)==9)=true:=by decide
   cases hq:((l.length:Int)==2)with
   |true =>
    rw[show eB 9 l.length=true by grind[eB]];exact gZ
   |false =>
    rw[show eB 9 l.length=((l.length:Int)==3) by grind[eB]];exact gZ
  have e:eB c l.length=false:=by grind[eB]
  rw[e]
  have g1:(c==1)=false:=by grind
  have g2:(c==2)=false:=by grind
  have g4:(c==4)=false:=by grind
  have g14:(c==14)=false:=by grind
  have g3:(c==3)=false:=by grind
  have g5:(c==5)=false:=by grind
  have g7:(c==7)=false:=by grind
  have Y:(c==11)=false:=by grind
  have Z:(c==12)=false:=by grind
  have g13:(c==13)=false:=by grind
  have g6:(c==6)=false:=by grind
  have g8:(c==8)=false:=by grind
  have X:(c==10)=false:=by grind
  have g9:(c==9)=false:=by grind
  exact gZ
 ·rintro _ _⟨rfl,rfl⟩;generalize eB c t.aw.length=C;refine V ?_;refine GW.range (cB t.aw).length (fun k G S=>G=U::U::U::U::.v (.bool (C&&(t.aw.take k).all iL))::zU 46 [.sl 1 (cB t.aw),.v (ii ((cB t.aw).length:Int)),.v (ii (k:Nat)),U,U,U,U,U,U,U,U,U,U]/\S=[]) ?_ L ?_ ?_ ?_
  ·refine⟨_,_,Wk.a6 (c8:=U::U::U::U::.v (.bool C)::zU 46 [.sl 1 (cB t.aw),.v (ii ((cB t.aw).length:Int)),.v (ii (0:Nat)),U,U,U,U,U,U,U,U,U,U]) aC,?_,rfl⟩;simp
  ·rintro k _ _⟨rfl,rfl⟩;exact dS
  ·rintro k _ _ B⟨rfl,rfl⟩;rw[z]at B;obtain⟨kid,u⟩:∃kid,t.aw[k]?=some kid:=⟨t.aw[k],by simp[B]⟩;have hr:=rO u;have rI:=Go.Xp.jl u;have hle:=Go.Xp.iJ t.aw (k+1);have R:=ih kid L L
   have A:(t.aw.take (k+1)).all iL=((t.aw.take k).all iL&&iL kid):=by grind[c7]
   rw[A,<-Bool.and_assoc];generalize(C&&(t.aw.take k).all iL)=b at *
   cases b with
   |true =>
    refine V ?_;refine I [] R ?_;exact zb7
   |false =>
    refine V ?_;exact zb7
  ·rintro _ _⟨rfl,rfl⟩;rw[z,dx];exact aK
def vZ(l:List T):Int:=match l.findIdx? (fun t=>!(iL t))with|some i=>(i:Int)|none => -1
theorem LN(t:T)(i:be t<=1099511627776):GF prog 123 [uT t] [] (.v (.bool (!(iL t)))) []:=by
 have h:=Oz _ t (a8 _) i;generalize iL t=b at *;refine ak func123 ntmps123 ?_;refine I [] h ?_;refine bA ?_
 grind[bx]
theorem FF(l:List T)(M:l.length<=1099511627776)(j:∀t∈l,be t<=1099511627776) :
  GF prog 187 [.sl 1 (cB l),.v (.func (.func 123) #[] #[])] [] (.v (ii (vZ l))) []:=by
 have o:=pP l;refine ak func187 ntmps187 ?_;refine GW.range (cB l).length (fun k J u=>J=[.sl 1 (cB l),.v (.func (.func 123) #[] #[]),U,U,U,U,U,.v (ii ((cB l).length:Int)),.v (ii (k:Nat)),U,U,U,U,U,U,U,U,U,U]/\u=[]/\(l.take k).all iL=true) ?_ L ?_ ?_ ?_
 ·exact kP
 ·exact jA
 ·rintro k _ _ N⟨rfl,rfl,n⟩;rw[o]at N
  have w:l[k]?=some l[k]:=by simp[N]
  have z:=rO w;have i:=LN l[k] (j _ (getElem_mem N))
  have m:(l.take (k+1)).all iL=((l.take k).all iL&&iL l[k]):=by grind[c7]
  have H:iL l[k]=false->vZ l=(k:Int):=fun q=>by
   grind[iL,List.findIdx?_eq_some_iff_getElem,hY,List.mem_take_iff_getElem,vZ]
  generalize l[k]=t at *
  cases O:iL t with
  |true =>
   rw[O]at i m;refine V ?_;refine jW [] i ?_;exact zbz
  |false =>
   rw[O]at i;rw[H O];refine V ?_;refine jW [] i ?_;exact aK
 ·rintro _ _⟨rfl,rfl,n⟩;rw[o,dx]at n
  have:l.findIdx? (fun t=>!(iL t))=none:=by
   grind
  unfold vZ;rw[this];exact aK
theorem O9(l:List T):decide ((0:Int)<=vZ l)=!(l.all iL):=by
 grind[vZ,iL]
theorem uD(l:List T)(M:l.length<=1099511627776)(i:∀t∈l,be t<=1099511627776) :
  GF prog 122 [.sl 1 (cB l),.v (.func (.func 123) #[] #[])] [] (.v (.bool (!(l.all iL)))) []:=by
 have h:=FF l M i;rw[<-O9];generalize vZ l=z at *;refine ak func122 ntmps122 ?_;exact zcF
end Go.Xg
set_option maxHeartbeats 2000000
namespace Go.Xg
open Go.RowKit Go.Xw Go.Proofs Tryz Go.Im
open Go.Xp (Tok T be aP cv)
open Go.Sp (Src)
attribute [local irreducible] GW GL GO D GC GA bo bn
theorem PN:Wr 126 127 eh ig :=
 ⟨fun a o b G=>S6 _ a (a8 _) o b G,fun l d o b G=>Ou l d o b,fun l d s h=>Ov h⟩
theorem C9(p:Src)(h:p.ae.length>800):GF prog 64 [.agg (aB p)] [] (.v (.bool false)) []:=by
 have j:(p.ae.map aR).length=p.ae.length:=by simp
 have T:decide ((800:Int)<((p.ae.map aR).length:Int))=true:=by grind
 refine ak func64 ntmps64 ?_;exact az
theorem Al(p:Src)(h:p.ae.length<=800)(O:∀n∈p.ae,n.aw.length<=1099511627776)(hf:p.av.length<=1099511627776)(i:kB p.ae p.av 0 []=none):GF prog 64 [.agg (aB p)] [] (.v (.bool false)) []:=by
 have j:(p.ae.map aR).length=p.ae.length:=by simp
 have T:decide ((800:Int)<((p.ae.map aR).length:Int))=false:=by grind
 have N:=sU p L O hf;rw[i]at N;unfold yG at N;refine ak func64 ntmps64 ?_;refine I [] N ?_;exact az
theorem FA(p:Src)(l:List T)(e:Nat)(h:p.ae.length<=800)(O:∀n∈p.ae,n.aw.length<=1099511627776)(hf:p.av.length<=1099511627776)(i:kB p.ae p.av 0 []=some (l,e))(j:e≠p.ae.length):GF prog 64 [.agg (aB p)] [] (.v (.bool false)) []:=by
 have k:(p.ae.map aR).length=p.ae.length:=by simp
 have W:decide ((800:Int)<((p.ae.map aR).length:Int))=false:=by grind
 have N:=sU p L O hf;rw[i]at N;unfold yG at N;simp only at N;rw[show((e:Int)==(p.ae.length:Int))=false by grind]at N;refine ak func64 ntmps64 ?_;refine I [] N ?_;exact az
theorem C8(p:Src)(l:List T)(h:p.ae.length<=800)(O:∀n∈p.ae,n.aw.length<=1099511627776)(hf:p.av.length<=1099511627776)(i:kB p.ae p.av 0 []=some (l,p.ae.length))(M:l.length<=1099511627776)(G:∀t∈l,be t<=1099511627776)(hn:l.all iL=false):GF prog 64 [.agg (aB p)] [] (.v (.bool false)) []:=by
 have j:(p.ae.map aR).length=p.ae.length:=by simp
 have W:decide ((800:Int)<((p.ae.map aR).length:Int))=false:=by grind
 have N:=sU p L O hf;rw[i]at N;unfold yG at N;simp only at N;rw[show((p.ae.length:Int)==(p.ae.length:Int))=true by simp]at N;have Q:=uD l M G;rw[hn]at Q;refine ak func64 ntmps64 ?_;refine I [] N ?_;exact zcD
theorem MB(st:PS)(h:st.av.length=st.aL.length):nU st.av st.aL st.aL.length=(pn st).map aI:=by
 unfold nU pn;apply ext_getElem?;intro i;rw[dR,getElem?_mapIdx,getElem?_mapIdx]
 cases hx:st.av[i]? with
 |none=>rfl
 |some x =>
  have j:=(b6 hx).1;simp only[Option.map_some];rw[ai L];rfl
def C1(st:PS):Src:=⟨st.au,st.aq,pn st,cv 0 st.aL⟩
theorem Va{q:Go.Sp.RS}{st:PS}(W:q.code=0)(S:¬aP st.aL>800)(h:st.av.length=st.aL.length):HT q st=.tup [.agg (aB (C1 st)),.v (ii 0),.v (ii 0)]:=by
 unfold HT;rw[ai W,ab S,MB st h];rfl
theorem FB(p:Src)(l:List T)(x:ah)(ts:List Tok)(c z:Int)(h:p.ae.length<=800)(N:GF prog 74 [.agg (aB p)] [] (.tup [.sl 1 (cB l),.v (.bool true)]) [])
  (Q:GF prog 122 [.sl 1 (cB l),.v (.func (.func 123) #[] #[])] [] (.v (.bool false)) [])
  (q:GF prog 125 [.agg (aB p),.sl 1 (cB l),.v (jX 126),.v (jX 127)] [] (.v (sv x)) [])
  (o:GF prog 128 [.v (sv x)] [] (.tup [ir ts,.v (ii c),.v (ii z)]) [])(W:(c != 0)=true) :
  GF prog 64 [.agg (aB p)] [] (.v (.bool false)) []:=by
 have j:(p.ae.map aR).length=p.ae.length:=by simp
 have X:decide ((800:Int)<((p.ae.map aR).length:Int))=false:=by grind
 refine ak func64 ntmps64 ?_;refine I [] N ?_;refine I [] Q ?_;refine I [] q ?_;exact zdU
theorem yb(p:Src)(l:List T)(x:ah)(ts:List Tok)(c k a:Int)(h:p.ae.length<=800)(N:GF prog 74 [.agg (aB p)] [] (.tup [.sl 1 (cB l),.v (.bool true)]) [])
  (Q:GF prog 122 [.sl 1 (cB l),.v (.func (.func 123) #[] #[])] [] (.v (.bool false)) [])
  (q:GF prog 125 [.agg (aB p),.sl 1 (cB l),.v (jX 126),.v (jX 127)] [] (.v (sv x)) [])
  (o:GF prog 128 [.v (sv x)] [] (.tup [ir ts,.v (ii 0),.v (ii c)]) [])
  (R:GF prog 129 [ir ts,.v (ii (x.length:Int))] [] (.tup [.agg [.sl 1 [],.sl 2 [],.sl 3 [],.sl 5 []],.v (ii k),.v (ii a)]) [])(O:(k==0)=false) :
  GF prog 64 [.agg (aB p)] [] (.v (.bool false)) []:=by
 have j:(p.ae.map aR).length=p.ae.length:=by simp
 have W:decide ((800:Int)<((p.ae.map aR).length:Int))=false:=by grind
 refine ak func64 ntmps64 ?_;refine zaR ?_;exact az
theorem IF(p r:Src)(l:List T)(x:ah)(ts:List Tok)(c:Int)(h:p.ae.length<=800)(N:GF prog 74 [.agg (aB p)] [] (.tup [.sl 1 (cB l),.v (.bool true)]) [])
  (Q:GF prog 122 [.sl 1 (cB l),.v (.func (.func 123) #[] #[])] [] (.v (.bool false)) [])
  (q:GF prog 125 [.agg (aB p),.sl 1 (cB l),.v (jX 126),.v (jX 127)] [] (.v (sv x)) [])
  (o:GF prog 128 [.v (sv x)] [] (.tup [ir ts,.v (ii 0),.v (ii c)]) [])
   (hg:GF prog 130 [strs p.au,strs r.au] [] (.v (.bool false)) [])
  (R:GF prog 129 [ir ts,.v (ii (x.length:Int))] [] (.tup [.agg (aB r),.v (ii 0),.v (ii 0)]) []) :
  GF prog 64 [.agg (aB p)] [] (.v (.bool false)) []:=by
 have j:(p.ae.map aR).length=p.ae.length:=by simp
 have W:decide ((800:Int)<((p.ae.map aR).length:Int))=false:=by grind
 refine ak func64 ntmps64 ?_;refine zaR ?_;refine I [] hg ?_;exact az
theorem IG(p r:Src)(l:List T)(x:ah)(ts:List Tok)(c:Int)(h:p.ae.length<=800)(N:GF prog 74 [.agg (aB p)] [] (.tup [.sl 1 (cB l),.v (.bool true)]) [])
  (Q:GF prog 122 [.sl 1 (cB l),.v (.func (.func 123) #[] #[])] [] (.v (.bool false)) [])
  (q:GF prog 125 [.agg (aB p),.sl 1 (cB l),.v (jX 126),.v (jX 127)] [] (.v (sv x)) [])
  (o:GF prog 128 [.v (sv x)] [] (.tup [ir ts,.v (ii 0),.v (ii c)]) [])
   (hg:GF prog 130 [strs p.au,strs r.au] [] (.v (.bool true)) [])
  (ha:GF prog 131 [(.sl 2 (p.aq.map fun s=>bb s)),(.sl 2 (r.aq.map fun s=>bb s))] [] (.v (.bool false)) [])
  (R:GF prog 129 [ir ts,.v (ii (x.length:Int))] [] (.tup [.agg (aB r),.v (ii 0),.v (ii 0)]) []) :
  GF prog 64 [.agg (aB p)] [] (.v (.bool false)) []:=by
 have j:(p.ae.map aR).length=p.ae.length:=by simp
 have W:decide ((800:Int)<((p.ae.map aR).length:Int))=false:=by grind
 refine ak func64 ntmps64 ?_;refine zaR ?_;refine I [] hg ?_;refine I [] ha ?_;exact az
theorem IH(p r:Src)(l:List T)(x:ah)(ts:List Tok)(c:Int)(h:p.ae.length<=800)(N:GF prog 74 [.agg (aB p)] [] (.tup [.sl 1 (cB l),.v (.bool true)]) [])
  (Q:GF prog 122 [.sl 1 (cB l),.v (.func (.func 123) #[] #[])] [] (.v (.bool false)) [])
  (q:GF prog 125 [.agg (aB p),.sl 1 (cB l),.v (jX 126),.v (jX 127)] [] (.v (sv x)) [])
  (o:GF prog 128 [.v (sv x)] [] (.tup [ir ts,.v (ii 0),.v (ii c)]) [])
   (hg:GF prog 130 [strs p.au,strs r.au] [] (.v (.bool true)) [])
  (ha:GF prog 131 [(.sl 2 (p.aq.map fun s=>bb s)),(.sl 2 (r.aq.map fun s=>bb s))] [] (.v (.bool true)) [])
  (hf:GF prog 132 [.sl 3 (p.av.map aI),.sl 3 (r.av.map aI),.v (.func (.func 133) #[] #[])] [] (.v (.bool false)) [])
  (R:GF prog 129 [ir ts,.v (ii (x.length:Int))] [] (.tup [.agg (aB r),.v (ii 0),.v (ii 0)]) []) :
  GF prog 64 [.agg (aB p)] [] (.v (.bool false)) []:=by
 have j:(p.ae.map aR).length=p.ae.length:=by simp
 have W:decide ((800:Int)<((p.ae.map aR).length:Int))=false:=by grind
 refine ak func64 ntmps64 ?_;refine zaR ?_;refine I [] hg ?_;refine I [] ha ?_;refine I [] hf ?_;exact az
theorem II(p r:Src)(l:List T)(x:ah)(ts:List Tok)(c:Int)(b:Bool)(h:p.ae.length<=800)(N:GF prog 74 [.agg (aB p)] [] (.tup [.sl 1 (cB l),.v (.bool true)]) [])
  (Q:GF prog 122 [.sl 1 (cB l),.v (.func (.func 123) #[] #[])] [] (.v (.bool false)) [])
  (q:GF prog 125 [.agg (aB p),.sl 1 (cB l),.v (jX 126),.v (jX 127)] [] (.v (sv x)) [])
  (o:GF prog 128 [.v (sv x)] [] (.tup [ir ts,.v (ii 0),.v (ii c)]) [])
   (hg:GF prog 130 [strs p.au,strs r.au] [] (.v (.bool true)) [])
  (ha:GF prog 131 [(.sl 2 (p.aq.map fun s=>bb s)),(.sl 2 (r.aq.map fun s=>bb s))] [] (.v (.bool true)) [])
  (hf:GF prog 132 [.sl 3 (p.av.map aI),.sl 3 (r.av.map aI),.v (.func (.func 133) #[] #[])] [] (.v (.bool true)) [])
  (hn:GF prog 134 [.sl 5 (p.ae.map aR),.sl 5 (r.ae.map aR),.v (.func (.func 135) #[] #[])] [] (.v (.bool b)) [])
  (R:GF prog 129 [ir ts,.v (ii (x.length:Int))] [] (.tup [.agg (aB r),.v (ii 0),.v (ii 0)]) []) :
  GF prog 64 [.agg (aB p)] [] (.v (.bool b)) []:=by
 have j:(p.ae.map aR).length=p.ae.length:=by simp
 have W:decide ((800:Int)<((p.ae.map aR).length:Int))=false:=by grind
 refine ak func64 ntmps64 ?_;refine zaR ?_;refine I [] hg ?_;refine I [] ha ?_;refine I [] hf ?_;refine I [] hn ?_;exact az
theorem Da(p r:Src)(l:List T)(x:ah)(ts:List Tok)(c:Int)(m n w A:Bool)(h:p.ae.length<=800)(N:GF prog 74 [.agg (aB p)] [] (.tup [.sl 1 (cB l),.v (.bool true)]) [])
  (Q:GF prog 122 [.sl 1 (cB l),.v (.func (.func 123) #[] #[])] [] (.v (.bool false)) [])
  (q:GF prog 125 [.agg (aB p),.sl 1 (cB l),.v (jX 126),.v (jX 127)] [] (.v (sv x)) [])
  (o:GF prog 128 [.v (sv x)] [] (.tup [ir ts,.v (ii 0),.v (ii c)]) [])
  (hg:GF prog 130 [strs p.au,strs r.au] [] (.v (.bool m)) [])
  (ha:GF prog 131 [(.sl 2 (p.aq.map fun s=>bb s)),(.sl 2 (r.aq.map fun s=>bb s))] [] (.v (.bool n)) [])
  (hf:GF prog 132 [.sl 3 (p.av.map aI),.sl 3 (r.av.map aI),.v (.func (.func 133) #[] #[])] [] (.v (.bool w)) [])
  (hn:GF prog 134 [.sl 5 (p.ae.map aR),.sl 5 (r.ae.map aR),.v (.func (.func 135) #[] #[])] [] (.v (.bool A)) [])
  (R:GF prog 129 [ir ts,.v (ii (x.length:Int))] [] (.tup [.agg (aB r),.v (ii 0),.v (ii 0)]) []) :
  GF prog 64 [.agg (aB p)] [] (.v (.bool (m&&(n&&(w&&A))))) []:=by
 cases m with
 |false=>exact IF p r l x ts c h N Q q o hg R
 |true =>
  cases n with
  |false=>exact IG p r l x ts c h N Q q o hg ha R
  |true =>
   cases w with
   |false=>exact IH p r l x ts c h N Q q o hg ha hf R
   |true=>exact II p r l x ts c A h N Q q o hg ha hf hn R
end Go.Xg
set_option maxHeartbeats 1000000
namespace Go.Xg
open Go.RowKit Go.Xw Go.Proofs Tryz Go.Im
open Go.Xp (aP cv)
open Go.Sp (Src)
attribute [local irreducible] GW GL GO D GC GA bo bn
theorem KV{st:PS}{f:Go.Sp.Fn}(h:f∈pn st):∃x∈st.av,f.params=x.2:=by
 unfold pn at h
 grind
theorem nY(p:Src)(hw:cH p<=1048576)(hn:iN p):GF prog 64 [.agg (aB p)] [] (.v (.bool (fI p))) []:=by
 have⟨⟨s1,s2⟩,⟨s3,s4⟩,⟨s5,s6⟩,⟨s7,s8⟩⟩:=gg p
 have o:∀n∈p.ae,n.aw.length<=1099511627776:=fun n h=>by grind
 have b:=sU p L o L;unfold fI
 by_cases T:p.ae.length>800
 ·simp_all[ai,C9]
 rw[ab T]
 cases E:kB p.ae p.av 0 []with
 |none=>grind[Al]
 |some y =>
  have⟨l,e⟩:=y;simp only
  by_cases F:e≠p.ae.length
  ·grind[FA]
  rw[ab F]
  have F:e=p.ae.length:=by omega
  subst F;have⟨l',N,C,S,h4,h5⟩:=AA _ _ _ _ _ E;rw[List.nil_append]at N;subst N
  have R:aP l=p.ae.length:=by omega
  have O:=R1 hn C R;have Y:=Fh C R;have X:=eo.len S;have r:=cJ.num hn.ae l 0 C
  by_cases B:l.all iL=false
  ·grind[C8]
  rw[ab B]
  have B:l.all iL=true:=by grind
  have⟨k,c,z,q,st,i⟩:=reads (nO eh ig p l);rw[y7 i];rw[E]at b;unfold yG at b;simp only at b;rw[show((p.ae.length:Int)==(p.ae.length:Int))=true by simp]at b;have m:=uD l L (fun t M=>by grind);rw[B]at m;have u:=OL 126 127 eh ig PN p l L L L L L hn.aq (fun f h=>by grind)
   (fun t M=>⟨hY.1 B t M,kT r M,by grind,by grind⟩)
  have w:=OX _ _ k c z L i.lex;have Q:=i.len;have d:=F9 k (((nO eh ig p l).length:Nat):Int) q st L L (fun h=>by have:=(i.ok h).2;omega) i.read;have J:=LJ _ _ _ _ _ _ (a8 _) i.read ⟨bl _,bl _,bl _,fun x h=>by cases h⟩;have G:=i.ok;clear i E;generalize Z:nO eh ig p l=x at *
  by_cases A:c≠0
  ·rw[ai A];exact FB p l x k c z L b m u w ze2
  rw[ab A]
  have A:c=0:=by omega
  subst A
  by_cases j:q.code≠0
  ·rw[ai j];unfold HT at d;rw[ab j]at d;exact yb p l x k z q.code q.at_ L b m u w d ze2
  rw[ab j]
  have j:q.code=0:=by omega
  have⟨H,LC⟩:=G j
  by_cases s:aP st.aL>800
  ·rw[ai s];unfold HT at d;rw[ai j,ai s]at d;exact yb p l x k z 10 0 L b m u w d aU
  rw[ab s];rw[Va j s H.len]at d;have⟨m1,m2,m3,m4⟩:=J
  have W:(cv 0 st.aL).length<=800:=by rw[Go.Xp.ki];omega
  unfold same;refine Da p (C1 st) l x k z _ _ _ _ L b m u w ?_ ?_ ?_ ?_ d
  ·exact Gl _ _ L (by grind[C1])
  ·exact Ra _ _ L (by grind[C1])
  ·refine Fx p.av (pn st) L ?_ (fun f h=>by grind) (fun f h=>?_)
   ·grind[pn]
   grind[KV]
  ·exact Fy p.ae (cv 0 st.aL) L L o (fun n h=>by have:=yM st.aL 0 n h;omega)
theorem PL(n lo hi:Int):GF prog 156 [.v (ii n),.v (ii lo),.v (ii hi)] [] (.v (.bool (decide (lo<=n)&&decide (n<=hi)))) []:=by
 cases h:decide (lo<=n)
 all_goals
  refine ak func156 ntmps156 ?_;exact az
end Go.Xg
