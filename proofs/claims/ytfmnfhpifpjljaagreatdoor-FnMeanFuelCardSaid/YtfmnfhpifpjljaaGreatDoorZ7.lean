/- Part 7 of proofs that are told in their last texts. -/
import Derived.Shelf.Small.Bits
import Derived.Shelf.Small.Strs
import Derived.Shelf.Strings.BuilderF
import Derived.Shelf.Strconv.Itoa3
import Derived.Shelf.Strings.Shaped
import Derived.Shelf.Sort.Plain
import Derived.Shelf.Strings.Prefix
import Derived.Shelf.Strings.SplitShaped
import Derived.Shelf.Unicode.ExclAny
import Derived.Shelf.Slices.SearchI
import Derived.Shelf.Slices.Cells
import Derived.Shelf.Slices.In.SortNone
import Derived.Test.YtfmnfhpifpjljaaGreatDoorZ6
open List (all_append ext_getElem? getD_cons_succ getD_cons_zero getElem?_mapIdx getElem_mem length_cons length_nil map_nil sum_cons)
set_option linter.unusedVariables false
set_option linter.unusedSimpArgs false
set_option maxRecDepth 100000
namespace Go
theorem zbV{A:Prop}(s:A:=by refine zad ?_;refine D [0] u ?_;refine GW.wk (Wk.uy (i:=1) (o:=5) rfl rfl rfl rfl I) ?_;refine GW.wk (Wk.freeze (i:=1) rfl rfl rfl (dT rfl)) ?_;exact ax):A:=s
theorem zdu{A:Prop}(s:A:=by refine zad ?_;refine D [0] e ?_;refine GW.wk (Wk.iC (t:=4) rfl rfl rfl Q) ?_;exact ax):A:=s
theorem zd9{A B:Prop}(h:B)(s:PLift B->A:=by intro hQ;refine X ?_;refine aX (aI 0 11 .nil) ?_;refine bA ?_;rw[r];refine GW.wk (Wk.freeze (i:=0) rfl rfl rfl (a8 _)) ?_;exact hQ.1):A:=s ⟨h⟩
theorem zec{A:Prop}(s:A:=by refine GW.ret ?_;refine oj (n:=1) rfl dY rfl (bj _) rfl rfl ?_;exact zai):A:=s
end Go
namespace Go.Xw
open Go.RowKit Go.WideShapes Go.ChangeShapes
section
variable{H:Type}{enc:TypeId × Value->H}{P:Program}
theorem Dv{f:Func}{s:ChangeSpec}{apart fresh handsOn again:Bool}{W W':World}{args:Array Value}{v:Value}{ds gs:List (DataW H)}{before pa pv:List MemPlace}
  (hW:DataW.Whole enc P f.params.toList s.vars apart W args.toList ds gs before)
  (Vw:∀(b:Nat)(sp:Nat->Bool)(hd:Bool),DataW.TrodAll enc P W' b sp hd f.resultTypes.toList (v.resultList f.resultTypes.size) (s.fn H (ds++gs)).results [])
  (JQ:∀sp:Nat->Bool,(∀p∈before,sp p.block=true)->DataW.TrodAll enc P W' 0 sp true f.params.toList args.toList (s.fn H (ds++gs)).args pa)
  (Rf:∀sp:Nat->Bool,(∀p∈before,sp p.block=true)->DataW.TrodVars enc P W' sp s.vars (s.fn H (ds++gs)).vars pv)
  (HV:before=pa++pv)(hb:Below W.heap.size W W')
  (uh:∀(j:Nat)(t:TypeId)(r:Value),f.resultTypes[j]?=some t->(v.resultList f.resultTypes.size)[j]?=some r->Value.okWide P W' .any 0 t r) :
  s.post enc P f apart fresh handsOn again W args v W':=by
 have oo:∀p∈before,p.block<W.heap.size:=fun p hp=>hW.lt p hp
 have hold:∀p∈before,(fun b=>decide (b<W.heap.size)) p.block=true:=fun p hp=>by simpa using oo p hp
 refine⟨ds,gs,before,[],pa,pv,hW,Vw _ _ _,JQ _ hold,Rf _ hold,World.keptBut_mono (fun p hp=>⟨hp,?_⟩) (hb.frame (·∈before)),fun _=>?_⟩
 ·rw[HV,List.mem_append]at hp;exact Or.inr hp
 ·have⟨_,_,_,_,_,hz,hn⟩:=hW;refine⟨uh,_,_,([]++pa)++pv,⟨[]++pa,pv,trodAll_append (JQ _ (fun _ _=>rfl)) (Vw _ _ _),Rf _ (fun _ _=>rfl),rfl,?_,?_⟩,?_⟩
  ·intro b off hp
   have HR:MemPlace.cell b off∈before:=by rw[HV];simpa using hp
   rw[hb.frozen (oo _ HR)];exact hz b off HR
  ·intro ha;have:=hn ha;rw[HV]at this;exact zdM
  ·intro p hp _;rw[HV];simpa using hp
end
end Go.Xw
namespace Go.Proofs
open Go.Shelf
theorem gx{C:Type}{a:Option C}{b c:C}(h:a=some b)(k:b=c:=by kernel_rfl):a=some c:=h.trans (congrArg some k)
def Tryz.yZ:Go.Shelf.Ren:=⟨fun|165=>242|240=>307|241=>308|276=>351|277=>352|n=>n,fun|70=>244|3=>3|0=>0|4=>4|9=>9|20=>20|72=>246|37=>22|164=>313|5=>5|n=>n,fun|n=>n⟩
theorem Tryz.S2:Go.Proofs.Lays.n165 Tryz.prog Tryz.yZ:={
 mixed:=by kernel_rfl
 f165:=gx Tryz.func242
 f240:=gx Tryz.func307
 f241:=gx Tryz.func308
 f276:=gx Tryz.func351
 f277:=gx Tryz.func352
 t0:=Tryz.underlying0
 a0:=Tryz.isAgg0
 z0:=Tryz.sizeOf0
 v0:=Tryz.zeroValue0
 t3:=Tryz.underlying3
 a3:=Tryz.isAgg3
 z3:=Tryz.sizeOf3
 v3:=Tryz.zeroValue3
 t4:=Tryz.underlying4
 a4:=Tryz.isAgg4
 z4:=Tryz.sizeOf4
 v4:=Tryz.zeroValue4
 t9:=Tryz.underlying9
 a9:=Tryz.isAgg9
 z9:=Tryz.sizeOf9
 v9:=Tryz.zeroValue9
 t20:=Tryz.underlying20
 a20:=Tryz.isAgg20
 z20:=Tryz.sizeOf20
 v20:=Tryz.zeroValue20
 t37:=Tryz.underlying22
 a37:=Tryz.isAgg22
 z37:=Tryz.sizeOf22
 v37:=Tryz.zeroValue22
 t70:=Tryz.underlying244
 a70:=Tryz.isAgg244
 z70:=Tryz.sizeOf244
 v70:=Tryz.zeroValue244
 t72:=Tryz.underlying246
 a72:=Tryz.isAgg246
 z72:=Tryz.sizeOf246
 v72:=Tryz.zeroValue246
 t164:=Tryz.underlying313
 a164:=Tryz.isAgg313
 z164:=Tryz.sizeOf313
 v164:=Tryz.zeroValue313 }
theorem Tryz.yF:Builder.Extra Tryz.prog Tryz.yZ:={
 sizeBuilder:=by kernel_rfl
 liesBuilder:=by kernel_rfl
 t5:=Tryz.underlying5
 a5:=Tryz.isAgg5
 z5:=Tryz.sizeOf5
 v5:=Tryz.zeroValue5
 infoByte:=by kernel_rfl
 cellsByte:=by kernel_rfl
 sizeByte:=by kernel_rfl
 neB5:=by decide }
open Go.RowKit in
theorem Tryz.Builder_Grow_fresh(B b n:Nat)(w:World)(i:B<=b)(q:w.heap[b]?=some (.cells #[.pointer none,.slice none 0 0] 246 (0,0)))(k:B<=w.heap.size)(hn:n<=281474976710656) :
  Calls Tryz.prog 242 #[.pointer (some ⟨b,0,none⟩),.int .i64 n] w fun e w'=>e=.returned (.tuple #[])/\(Lib.BuilderAt 246 5 B b (.pointer (some ⟨b,0,none⟩)) [] w'/\Below B w w'):=Any.Builder_Grow_fresh Tryz.S2 Tryz.yF B b n w i q k hn
def Tryz.Gr:Go.Shelf.Ren:=⟨fun|137=>195|217=>249|266=>310|n=>n,fun|9=>9|5=>5|3=>3|n=>n,fun|n=>n⟩
theorem Tryz.S0:Go.Proofs.Lays.n137 Tryz.prog Tryz.Gr:={
 mixed:=by kernel_rfl
 f137:=gx Tryz.func195
 f217:=gx Tryz.func249
 f266:=gx Tryz.func310
 t3:=Tryz.underlying3
 a3:=Tryz.isAgg3
 z3:=Tryz.sizeOf3
 v3:=Tryz.zeroValue3
 t5:=Tryz.underlying5
 a5:=Tryz.isAgg5
 z5:=Tryz.sizeOf5
 v5:=Tryz.zeroValue5
 t9:=Tryz.underlying9
 a9:=Tryz.isAgg9
 z9:=Tryz.sizeOf9
 v9:=Tryz.zeroValue9 }
open Go.RowKit in
theorem Tryz.strings_IndexByte(s:ByteArray)(c:Int)(w:World) :
  Calls Tryz.prog 195 #[.string s,.int .u8 c] w fun e w'=>e=.returned (.int .i64 (Lib.indexByte s.data.toList c.toNat.toUInt8))/\w'=w:=Any.strings_IndexByte Tryz.S0 s c w
def Tryz.ER:Go.Shelf.Ren:=⟨fun|171=>188|243=>241|246=>306|283=>347|284=>348|285=>349|286=>350|129=>275|317=>368|318=>369|319=>370|320=>371|337=>377|338=>378|n=>n,fun|3=>3|9=>9|2=>2|4=>4|171=>309|0=>0|53=>271|37=>22|5=>5|173=>311|212=>328|51=>269|20=>20|213=>329|46=>178|232=>345|233=>346|n=>n,fun|17=>3|18=>4|19=>5|n=>n⟩
theorem Tryz.PC:Go.Proofs.LaysM.n171 Tryz.prog Tryz.ER:={
 mixed:=by kernel_rfl
 f129:=gx Tryz.func275
 f171:=gx Tryz.func188
 f243:=gx Tryz.func241
 f246:=gx Tryz.func306
 f283:=gx Tryz.func347
 f284:=gx Tryz.func348
 f285:=gx Tryz.func349
 f286:=gx Tryz.func350
 f317:=gx Tryz.func368
 f318:=gx Tryz.func369
 f319:=gx Tryz.func370
 f320:=gx Tryz.func371
 f337:=gx Tryz.func377
 f338:=gx Tryz.func378
 t0:=Tryz.underlying0
 a0:=Tryz.isAgg0
 z0:=Tryz.sizeOf0
 v0:=Tryz.zeroValue0
 t2:=Tryz.underlying2
 a2:=Tryz.isAgg2
 z2:=Tryz.sizeOf2
 v2:=Tryz.zeroValue2
 t3:=Tryz.underlying3
 a3:=Tryz.isAgg3
 z3:=Tryz.sizeOf3
 v3:=Tryz.zeroValue3
 t4:=Tryz.underlying4
 a4:=Tryz.isAgg4
 z4:=Tryz.sizeOf4
 v4:=Tryz.zeroValue4
 t5:=Tryz.underlying5
 a5:=Tryz.isAgg5
 z5:=Tryz.sizeOf5
 v5:=Tryz.zeroValue5
 t9:=Tryz.underlying9
 a9:=Tryz.isAgg9
 z9:=Tryz.sizeOf9
 v9:=Tryz.zeroValue9
 t20:=Tryz.underlying20
 a20:=Tryz.isAgg20
 z20:=Tryz.sizeOf20
 v20:=Tryz.zeroValue20
 t37:=Tryz.underlying22
 a37:=Tryz.isAgg22
 z37:=Tryz.sizeOf22
 v37:=Tryz.zeroValue22
 t46:=Tryz.underlying178
 a46:=Tryz.isAgg178
 z46:=Tryz.sizeOf178
 v46:=Tryz.zeroValue178
 t51:=Tryz.underlying269
 a51:=Tryz.isAgg269
 z51:=Tryz.sizeOf269
 v51:=Tryz.zeroValue269
 t53:=Tryz.underlying271
 a53:=Tryz.isAgg271
 z53:=Tryz.sizeOf271
 v53:=Tryz.zeroValue271
 t171:=Tryz.underlying309
 a171:=Tryz.isAgg309
 z171:=Tryz.sizeOf309
 v171:=Tryz.zeroValue309
 t173:=Tryz.underlying311
 a173:=Tryz.isAgg311
 z173:=Tryz.sizeOf311
 v173:=Tryz.zeroValue311
 t212:=Tryz.underlying328
 a212:=Tryz.isAgg328
 z212:=Tryz.sizeOf328
 v212:=Tryz.zeroValue328
 t213:=Tryz.underlying329
 a213:=Tryz.isAgg329
 z213:=Tryz.sizeOf329
 t232:=Tryz.underlying345
 a232:=Tryz.isAgg345
 z232:=Tryz.sizeOf345
 v232:=Tryz.zeroValue345
 t233:=Tryz.underlying346
 a233:=Tryz.isAgg346
 z233:=Tryz.sizeOf346
 v233:=Tryz.zeroValue346
 g17:=by kernel_rfl
 g18:=by kernel_rfl
 g19:=by kernel_rfl
 i0:=by kernel_rfl
 i2:=by kernel_rfl
 i3:=by kernel_rfl
 i4:=by kernel_rfl
 i5:=by kernel_rfl
 i9:=by kernel_rfl
 i20:=by kernel_rfl
 i37:=by kernel_rfl
 i46:=by kernel_rfl
 i51:=by kernel_rfl
 i53:=by kernel_rfl
 i171:=by kernel_rfl
 i173:=by kernel_rfl
 i212:=by kernel_rfl
 i232:=by kernel_rfl
 i233:=by kernel_rfl
 m17:=by kernel_rfl
 m18:=by kernel_rfl
 m19:=by kernel_rfl }
open Go.RowKit Go.Sort Go.Lib in
theorem Tryz.strconv_Itoa(n:Int)(M : -9223372036854775808<=n)(z:n<=9223372036854775807)(w:World)(O:Lib.TabIs Tryz.prog w "internal/strconv.uint64pow10" .u64 Lib.pow10Tab) :
  Calls Tryz.prog 188 #[.int .i64 n] w fun e w'=>e=.returned (.string ⟨(Lib.itoa n).toArray⟩)/\∃k N,w'=grow (w.drewN k) N:=Any.strconv_Itoa Tryz.PC n M z w O
def Tryz.Gs:Go.Shelf.Ren:=⟨fun|143=>197|219=>251|217=>249|225=>311|224=>312|267=>313|266=>310|314=>353|n=>n,fun|9=>9|3=>3|4=>4|5=>5|46=>178|146=>316|51=>269|n=>n,fun|1=>0|n=>n⟩
theorem Tryz.S1:Go.Proofs.Lays.n143 Tryz.prog Tryz.Gs:={
 mixed:=by kernel_rfl
 f143:=gx Tryz.func197
 f217:=gx Tryz.func249
 f219:=gx Tryz.func251
 f224:=gx Tryz.func312
 f225:=gx Tryz.func311
 f266:=gx Tryz.func310
 f267:=gx Tryz.func313
 f314:=gx Tryz.func353
 t3:=Tryz.underlying3
 a3:=Tryz.isAgg3
 z3:=Tryz.sizeOf3
 v3:=Tryz.zeroValue3
 t4:=Tryz.underlying4
 a4:=Tryz.isAgg4
 z4:=Tryz.sizeOf4
 v4:=Tryz.zeroValue4
 t5:=Tryz.underlying5
 a5:=Tryz.isAgg5
 z5:=Tryz.sizeOf5
 v5:=Tryz.zeroValue5
 t9:=Tryz.underlying9
 a9:=Tryz.isAgg9
 z9:=Tryz.sizeOf9
 v9:=Tryz.zeroValue9
 t46:=Tryz.underlying178
 a46:=Tryz.isAgg178
 z46:=Tryz.sizeOf178
 v46:=Tryz.zeroValue178
 t51:=Tryz.underlying269
 a51:=Tryz.isAgg269
 z51:=Tryz.sizeOf269
 v51:=Tryz.zeroValue269
 t146:=Tryz.underlying316
 a146:=Tryz.isAgg316
 z146:=Tryz.sizeOf316
 v146:=Tryz.zeroValue316
 g1:=by kernel_rfl }
open Go.RowKit Go.Lib in
theorem Tryz.strings_Index(s sub:ByteArray)(m:Int)(w:World)(o:s.size<4294967281)(N:w.cell? ⟨0,0,none⟩=some (.int .i64 m)) :
  Calls Tryz.prog 197 #[.string s,.string sub] w fun e w'=>e=.returned (.int .i64 (Lib.index s.data.toList sub.data.toList))/\w'=w:=Any.strings_Index Tryz.S1 s sub m w o N
def Tryz.EP:Go.Shelf.Ren:=⟨fun|157=>305|229=>345|199=>346|261=>367|311=>375|312=>376|n=>n,fun|9=>9|31=>23|3=>3|5=>5|4=>4|119=>306|0=>0|40=>308|152=>323|21=>21|154=>325|51=>269|141=>327|196=>334|193=>331|198=>337|49=>335|194=>332|201=>340|226=>343|46=>178|227=>344|n=>n,fun|0=>1|6=>2|n=>n⟩
theorem Tryz.PA:Go.Proofs.LaysM.n157 Tryz.prog Tryz.EP:={
 mixed:=by kernel_rfl
 f157:=gx Tryz.func305
 f199:=gx Tryz.func346
 f229:=gx Tryz.func345
 f261:=gx Tryz.func367
 f311:=gx Tryz.func375
 f312:=gx Tryz.func376
 t0:=Tryz.underlying0
 a0:=Tryz.isAgg0
 z0:=Tryz.sizeOf0
 v0:=Tryz.zeroValue0
 t3:=Tryz.underlying3
 a3:=Tryz.isAgg3
 z3:=Tryz.sizeOf3
 v3:=Tryz.zeroValue3
 t4:=Tryz.underlying4
 a4:=Tryz.isAgg4
 z4:=Tryz.sizeOf4
 v4:=Tryz.zeroValue4
 t5:=Tryz.underlying5
 a5:=Tryz.isAgg5
 z5:=Tryz.sizeOf5
 v5:=Tryz.zeroValue5
 t9:=Tryz.underlying9
 a9:=Tryz.isAgg9
 z9:=Tryz.sizeOf9
 v9:=Tryz.zeroValue9
 t21:=Tryz.underlying21
 a21:=Tryz.isAgg21
 z21:=Tryz.sizeOf21
 v21:=Tryz.zeroValue21
 t31:=Tryz.underlying23
 a31:=Tryz.isAgg23
 z31:=Tryz.sizeOf23
 v31:=Tryz.zeroValue23
 t40:=Tryz.underlying308
 a40:=Tryz.isAgg308
 z40:=Tryz.sizeOf308
 v40:=Tryz.zeroValue308
 t46:=Tryz.underlying178
 a46:=Tryz.isAgg178
 z46:=Tryz.sizeOf178
 v46:=Tryz.zeroValue178
 t49:=Tryz.underlying335
 a49:=Tryz.isAgg335
 z49:=Tryz.sizeOf335
 v49:=Tryz.zeroValue335
 t51:=Tryz.underlying269
 a51:=Tryz.isAgg269
 z51:=Tryz.sizeOf269
 v51:=Tryz.zeroValue269
 t119:=Tryz.underlying306
 a119:=Tryz.isAgg306
 z119:=Tryz.sizeOf306
 t141:=Tryz.underlying327
 a141:=Tryz.isAgg327
 z141:=Tryz.sizeOf327
 v141:=Tryz.zeroValue327
 t152:=Tryz.underlying323
 a152:=Tryz.isAgg323
 z152:=Tryz.sizeOf323
 v152:=Tryz.zeroValue323
 t154:=Tryz.underlying325
 a154:=Tryz.isAgg325
 z154:=Tryz.sizeOf325
 v154:=Tryz.zeroValue325
 t193:=Tryz.underlying331
 a193:=Tryz.isAgg331
 z193:=Tryz.sizeOf331
 v193:=Tryz.zeroValue331
 t194:=Tryz.underlying332
 a194:=Tryz.isAgg332
 z194:=Tryz.sizeOf332
 v194:=Tryz.zeroValue332
 t196:=Tryz.underlying334
 a196:=Tryz.isAgg334
 z196:=Tryz.sizeOf334
 v196:=Tryz.zeroValue334
 t198:=Tryz.underlying337
 a198:=Tryz.isAgg337
 z198:=Tryz.sizeOf337
 v198:=Tryz.zeroValue337
 t201:=Tryz.underlying340
 a201:=Tryz.isAgg340
 z201:=Tryz.sizeOf340
 v201:=Tryz.zeroValue340
 t226:=Tryz.underlying343
 a226:=Tryz.isAgg343
 z226:=Tryz.sizeOf343
 v226:=Tryz.zeroValue343
 t227:=Tryz.underlying344
 a227:=Tryz.isAgg344
 z227:=Tryz.sizeOf344
 v227:=Tryz.zeroValue344
 g0:=by kernel_rfl
 g6:=by kernel_rfl
 i0:=by kernel_rfl
 i3:=by kernel_rfl
 i4:=by kernel_rfl
 i5:=by kernel_rfl
 i9:=by kernel_rfl
 i21:=by kernel_rfl
 i31:=by kernel_rfl
 i40:=by kernel_rfl
 i46:=by kernel_rfl
 i49:=by kernel_rfl
 i51:=by kernel_rfl
 i141:=by kernel_rfl
 i152:=by kernel_rfl
 i154:=by kernel_rfl
 i193:=by kernel_rfl
 i194:=by kernel_rfl
 i196:=by kernel_rfl
 i198:=by kernel_rfl
 i201:=by kernel_rfl
 i226:=by kernel_rfl
 i227:=by kernel_rfl
 m0:=by kernel_rfl
 m6:=by kernel_rfl }
open Go.RowKit Go.Lib in
theorem Tryz.strings_Fields_laid(s:ByteArray)(w:World)(o:s.size<4294967281)(i:∀(j:Nat)b,s.data.toList[j]?=some b->b.toNat<128)(O:Lib.TabIs Tryz.prog w "strings.asciiSpace" .u8 Lib.asciiSpaceTab) :
  Calls Tryz.prog 305 #[.string s] w fun e w' =>
   e=.returned (.slice (some ⟨w.heap.size,0,none⟩) (Lib.fields s.data.toList).length (Lib.fields s.data.toList).length)/\w'=w.alloc (.cells ((Lib.fields s.data.toList).map fun l=>Value.string ⟨l.toArray⟩).toArray 9):=Any.strings_Fields_laid Tryz.PA s w o i O
end Go.Proofs
set_option maxHeartbeats 1000000
namespace Go.Xg
open Go.RowKit Go.Xw Go.Proofs Tryz
attribute [local irreducible] GW GL GO V GC GA bh bm
instance:Cv prog 22 5:=Cv.mk' (aL)
instance:uC prog 244:=uC.mk' (e:=246) (aL) (aL)
theorem Ge(g:Value):GF prog 307 [.loc 0 0] [.box 246 [.loc 0 0,.v g]] (.tup []) [.box 246 [.loc 0 0,.v g]]:=by
 refine ah func307 ntmps307 ?_;exact eP
theorem r7(s:ai)(n:Nat)(a:Option Addr)(c:Nat)(rows:List am)(hn:rows.length=n)(t:n+s.length<=140737488355328) :
  GC prog 243 [.loc 0 0,.v (sv s)] [.box 246 [.loc 0 0,.v (.slice a n c)],.vech 5 1 rows (.slice a n c)] (fun g bO=>(∃x,g=.tup [.v (ii s.length),x])/\∃a c,bO=[.box 246 [.loc 0 0,.v (.slice a (n+s.length) c)],.vech 5 1 (rows++cW s) (.slice a (n+s.length) c)]):=by
 subst hn;have h:=Ge (.slice a rows.length c)
 cases s with
 |nil =>
  refine ah func243 ntmps243 ?_;refine D [0] h ?_;refine GL.Xa 1 rfl rfl rfl (by simpa using t) ?_;refine zbd ?_;refine yy ?_;exact⟨⟨_,rfl⟩,a,c,by simp[cW]⟩
 |cons x r =>
  generalize o:x::r=s at *
  have B:s.isEmpty=false:=by rw[<-o];rfl
  clear o;refine ah func243 ntmps243 ?_;refine D [0] h ?_;refine GL.Xb 1 rfl rfl rfl aM aV Z ?_;intro H Q;refine zbd ?_;refine yy ?_;exact⟨⟨_,rfl⟩,H,Q,rfl⟩
theorem OG(str:ai)(a:Option Addr)(c:Nat)(M:str≠[])(r:str.length<=140737488355328) :
  GF prog 244 [.loc 0 0] [.box 246 [.loc 0 0,.v (.slice a str.length c)],.vech 5 1 (cW str) (.slice a str.length c)] (.v (sv str)) [.box 246 [.loc 0 0,.v (.slice a str.length c)],.lost]:=by
 have s:(cW str).length=str.length:=by simp[cW]
 have R:Nat.blt 0 str.length=true:=by simpa using List.length_pos_iff.2 M
 have B:str.isEmpty=false:=by cases str with|nil=>exact absurd rfl M|cons _ _=>rfl
 refine ah func244 ntmps244 ?_;refine aX (aI 0 10 (.a 10 (.q 11 .nil))) ?_;refine av ?_;refine KA ?_;exact zbe
end Go.Xg
namespace Go.Xg
open Go.RowKit Go.Xw Go.Proofs Tryz
open GV (U)
open Go.Xp (cJ)
theorem pn.C1{P:Program}{f:FuncId}{vs:List Value}{w:World}{R:Value->World->Prop}(h:Calls P f vs.toArray w fun e w'=>∃v,e=.returned v/\R v w'):pn P f vs w R:=h
theorem GW.builder{Q:dF}{fr:am}{r1 r2:Nat}{rest:Code}{j d J z:Tmp}{T1 T2 T3 T4 T5:TypeId}{p1 p2 p3:String}{a1 a2 a3:Array Edge}(n:Nat)
  (h8:gN fr j=true)(T:gN fr d=true)(yT:Nat.beq j d=false)(aad:Nat.beq z j=false)(hn:cQ fr z=.v (ii (n:Nat)))(hb:n<=281474976710656)
  (h:∀a c,GW prog 0 rest Q (bN (bN (bN fr j (.loc 0 0)) d (.v (ii (n:Nat)))) J (.v (.tuple #[]))) [.box 246 [.loc 0 0,.v (.slice a 0 c)],.vech 5 1 [] (.slice a 0 c)]) :
  GW prog 0 (.seq (.region r1 [(⟨some j,.alloc 246,T1,p1,a1,none⟩:Oper)].toArray false) (.seq (.region r2 [(⟨some d,.move (.tmp z),T2,p2,a2,none⟩:Oper),⟨some J,.call ⟨.value (.func 242),[Operand.tmp j,.tmp d].toArray,#[T3,T4]⟩,T5,p3,a3,none⟩].toArray false) rest)) Q fr []:=fun B K N w l hm C O=>by
 have aac:j≠d:=by intro e;subst e;simp at yT
 have u:z≠j:=by intro e;subst e;simp at aad
 have i8:=mJ O h8;have i56:=mJ O T;refine W.seq (W.region (WL.alloc (t:=246) fun b w1 q=>WL.nil ?_));refine W.seq (W.region (WL.v R.mv (WL.call (f:=242) (Br:=[.pointer (some ⟨b,0,none⟩),.int .i64 n]) ?_ (R:=fun x M=>x=.tuple #[]/\(Lib.BuilderAt 246 5 b b (.pointer (some ⟨b,0,none⟩)) [] M/\Below b w1 M)) ?_ fun x M hx=>WL.nil ?_)))
 ·have hF1:FR K (fU N 0 (.fix b)) (bN fr j (.loc 0 0)) (put l (some j) (.pointer (some ⟨b,0,none⟩))) :=
   (O.mono (c7.refl K) (iL (i:=0) (x:=.fix b) (by rw[C.out 0 (a8 _)];trivial))).eN j (.loc 0 0 b bV)
  have j56:gN (eN l j (.pointer (some ⟨b,0,none⟩))) d=true:=mJ hF1 (t:=d) (by rw[H8];exact T)
  have e5:nth (eN l j (.pointer (some ⟨b,0,none⟩))) z=.int .i64 n:=by
   rw[oT u];exact Rel.fx (by rw[<-hn];exact O.nth z)
  show[nth (eN (eN l j (.pointer (some ⟨b,0,none⟩))) d (nth (eN l j (.pointer (some ⟨b,0,none⟩))) z)) j,nth (eN (eN l j (.pointer (some ⟨b,0,none⟩))) d (nth (eN l j (.pointer (some ⟨b,0,none⟩))) z)) d]=_;rw[oT aac,sM i8,sM j56,e5]
 ·refine pn.C1 (Calls.mono (Tryz.Builder_Grow_fresh b b n w1 (a8 _) q.blk (by have:=q.size;omega) hb) ?_);rintro e w'⟨G,h2⟩;exact⟨_,G,rfl,h2⟩
 ·obtain⟨rfl,⟨_,v,H,s,hnb⟩,m⟩:=hx;have s:ik M b 5 1 v 0 []:=s;obtain⟨a,c,rfl⟩:=s.shape;have HP:=q.fresh;have Pe:Ext fT w M:=⟨m.os.trans q.ext.os,m.tape.trans q.ext.tape,m.output.trans q.ext.output,ju q.ext.size m.size,fun k hk hs=>(m.block k Z).trans (q.ext.block k hk hs)⟩;have hI2:=C.same Pe
  have A:∀i,N i=.no:=fun i=>C.out i (bj _)
  have Q1:∀o,K b o=none:=fun o=>by
   cases hk:K b o with
   |none=>rfl
   |some g=>have:=C.fz.lt hk;omega
  have hw0:=C.ext.size;have aa5:=C.tab.pow.lt;have Ez:=C.tab.spc.lt;have E:dO N (fU N ([]:ap).length (.fix b)):=iL (by rw[A];trivial)
  have hI3:=hI2.QH (x:=.fix b) (y:=.box 246 [.loc 0 0,.v (.slice a 0 c)]) (fun b' Ak=>by
   cases Ak
   exact⟨fun i hi=>(by rw[A]at hi;cases hi),by omega,by omega,by omega⟩) (by
   refine⟨b,[.pointer (some ⟨b,0,none⟩),.slice a 0 c],bV,H,.cons (.loc 0 0 b bV) (.cons (.v _) .nil),Q1⟩) E
  have I:ik M 0 5 1 (.slice a 0 c) 0 []:=s.base (bj _)
  have L3:∀g,(Value.slice a 0 c).ownBlock=some g->b<g:=fun g S=>by
   have G:=(s.lt S).1
   have h2:g≠b:=fun e=>hnb (by rw[S,e])
   omega
  have CL:fU N ([]:ap).length (.fix b) 1=.no:=by rw[cB aS];exact A 1
  have F:dO (fU N ([]:ap).length (.fix b)) (fU (fU N ([]:ap).length (.fix b)) 1 (.gr (.slice a 0 c) 0)):=iL (by rw[CL];trivial)
  have hI4:=hI3.QH (x:=.gr (.slice a 0 c) 0) (y:=.vech 5 1 [] (.slice a 0 c)) (fun g S=>by
   have:=L3 g S;refine⟨fun i hi=>?_,by omega,by omega,by omega⟩
   rcases nq hi with G|G
   ·cases G;omega
   ·rw[A]at G;cases G) (by
   refine⟨[],bV,I,bJ.nil,(fun r hr=>by cases hr),fun g S o=>?_⟩
   cases hk:K g o with
   |none=>rfl
   |some y=>have:=C.fz.lt hk;have:=L3 g S;omega) F
  refine h a c B K _ M _ hm hI4 ?_;have hF2:=(O.mono (c7.refl K) E).mono (c7.refl K) F;refine((hF2.eN j (.loc 0 0 b ?_)).eN d ?_).eN J (.v _)
  ·rw[cB aS];exact bV
  ·have e5:nth (eN l j (.pointer (some ⟨b,0,none⟩))) z=.int .i64 n:=by
    rw[oT u];exact Rel.fx (by rw[<-hn];exact O.nth z)
   rw[show ev (put l (some j) (.pointer (some ⟨b,0,none⟩))) (.tmp z)=.int .i64 n from e5];exact .v _
attribute [local irreducible] GW GL GO V GC GA bh bm
theorem Lc(a b:ai):cW (a++b)=cW a++cW b:=by simp[cW]
def nQ(l:List ai):Nat:=(l.map List.length).sum
theorem CR:∀(r:List ai)(x:ai),(cJ (x::r)).length=nQ (x::r)+2*r.length
 |[],x=>by simp[cJ,nQ]
 |y::r,x=>by
  have:=CR r y;simp only[cJ,nQ,bl,List.map_cons,sum_cons,List.flatMap_cons,length_cons]at this |-;omega
def gj(l:List ai):ai:=l.flatMap fun y=>44::32::y
theorem L0(a b:List ai):gj (a++b)=gj a++gj b:=by unfold gj;rw[List.flatMap_append]
theorem SP(l:List ai)(k:Nat):(gj (l.take k)).length<=(gj l).length:=by
 have:gj l=gj (l.take k)++gj (l.drop k):=by rw[<-L0,List.take_append_drop]
 rw[this,bl];omega
theorem U8(y:ai):gj [y]=[44,32]++y:=by simp[gj]
theorem Pm(x:ai)(r:List ai):cJ (x::r)=x++gj r:=rfl
theorem KS(l:List ai)(u:(cJ l).length<=1099511627776)(F:l.length<=1099511627776):GF prog 189 [strs l,.v (sv [44,32])] [] (.v (sv (cJ l))) []:=by
 match l,u,F with
 |[],u,F =>
  refine ah func189 ntmps189 ?_;exact ax
 |[x],u,F =>
  have hr:([x].map fun s=>[GV.v (sv s)])[0]?=some [.v (sv x)]:=rfl
  have e:cJ [x]=x:=by simp[cJ]
  rw[e];refine ah func189 ntmps189 ?_;exact ax
 |x::y::r,u,F =>
  have EB:((x::y::r).map fun s=>[GV.v (sv s)])[0]?=some [.v (sv x)]:=rfl;have o:=CR (y::r) x
  have hxl:x.length<=1099511627776:=by simp only[cJ,bl]at u;omega
  generalize A:(x::y::r)=l at *
  have J:2<=l.length:=by rw[<-A];simp
  have m:(l.map fun s=>[GV.v (sv s)]).length=l.length:=by simp
  have CL:Nat.blt 1 (l.map fun s=>[GV.v (sv s)]).length=true:=by rw[m];simpa[Nat.blt]using J
  have Y0:(((l.map fun s=>[GV.v (sv s)]).length:Int)==0)=false:=by rw[m];simp only[beq_eq_false_iff_ne,ne_eq];omega
  have Y1:(((l.map fun s=>[GV.v (sv s)]).length:Int)==1)=false:=by rw[m];simp only[beq_eq_false_iff_ne,ne_eq];omega
  have hq:decide ((9223372036854775807:Int) / (((l.map fun s=>[GV.v (sv s)]).length:Int)-1)<=2)=false:=by
   rw[m]
   have h3:(3:Int)<=9223372036854775807 / ((l.length:Int)-1):=by
    rw[Int.le_ediv_iff_mul_le Z];omega
   simp;omega
  refine ah func189 ntmps189 ?_;apply GL.q
  ·exact V.mul (a:=2) (b:=((l.map fun s=>[GV.v (sv s)]).length:Int)-1) rfl rfl Z
  refine zap ?_;refine GW.range (l.map fun s=>[GV.v (sv s)]).length (fun k G N=>G=[strs l,.v (sv [44,32]),U,U,U,.v (ii (0+2*(((l.map fun s=>[GV.v (sv s)]).length:Int)-1)+((nQ (l.take k):Nat):Int))),U,U,U,U,U,U,U,U,U,U,U,U,U,U,U,U,U,U,U,U,U,U,U,U,U,U,U,U,U,U,U,U,U,strs l,.v (ii ((l.map fun s=>[GV.v (sv s)]).length:Int)),.v (ii (k:Nat)),U,U,U,U,U,U,U,U,U,U,U,U,U,U,U,U,U,U,U,U,U,U,U,U,U,U,U,U,U,U,U,U,U]/\N=[]) ?_ Z ?_ ?_ ?_
  ·refine⟨_,_,Wk.bb (dh:=[strs l,.v (sv [44,32]),U,U,U,.v (ii (0+2*(((l.map fun s=>[GV.v (sv s)]).length:Int)-1))),U,U,U,U,U,U,U,U,U,U,U,U,U,U,U,U,U,U,U,U,U,U,U,U,U,U,U,U,U,U,U,U,U,strs l,.v (ii ((l.map fun s=>[GV.v (sv s)]).length:Int)),.v (ii (0:Nat)),U,U,U,U,U,U,U,U,U,U,U,U,U,U,U,U,U,U,U,U,U,U,U,U,U,U,U,U,U,U,U,U,U]) aD,?_,rfl⟩;rw[List.take_zero,show((nQ []:Nat):Int)=0 from rfl,Int.add_zero]
  ·rintro k _ _⟨rfl,rfl⟩;exact eB
  ·rintro k _ _ j⟨rfl,rfl⟩;rw[m]at j
   have n:l[k]?=some l[k]:=by simp[j]
   have I:(l.map fun s=>[GV.v (sv s)])[k]?=some [.v (sv l[k])]:=by rw[b6,n];rfl
   have hs:nQ (l.take (k+1))=nQ (l.take k)+l[k].length:=by unfold nQ;rw[dI,n,jH,List.sum_append];simp only[Option.toList,List.map_cons,map_nil,sum_cons,List.sum_nil,Nat.add_zero]
   have hle:nQ (l.take (k+1))<=nQ l:=by
    have:nQ l=nQ (l.take (k+1))+nQ (l.drop (k+1)):=by
     unfold nQ;rw[<-List.sum_append,<-jH,List.take_append_drop]
    omega
   generalize l[k]=z at *;rw[show(0+2*(((l.map fun s=>[GV.v (sv s)]).length:Int)-1)+((nQ (l.take (k+1)):Nat):Int))=0+2*(((l.map fun s=>[GV.v (sv s)]).length:Int)-1)+((nQ (l.take k):Nat):Int)+(z.length:Int) by rw[hs];omega]
   have hov:decide (9223372036854775807-(0+2*(((l.map fun s=>[GV.v (sv s)]).length:Int)-1)+((nQ (l.take k):Nat):Int))<(z.length:Int))=false:=by
    simp only[decide_eq_false_iff_not];omega
   refine X ?_;exact zb9
  ·rintro _ _⟨rfl,rfl⟩;rw[m,ej]
   have hN:(0+2*((l.length:Int)-1)+((nQ l:Nat):Int))=(((cJ l).length:Nat):Int):=by
    have:(y::r).length+1=l.length:=by rw[<-A];simp
    omega
   rw[hN];refine bx ?_
   refine GW.builder (cJ l).length rfl rfl rfl rfl rfl Z fun a c=>?_
   refine X ?_;refine cN [0,1] (r7 x 0 a c [] rfl Z) ?_;rintro _ _⟨⟨u1,rfl⟩,a1,R,rfl⟩;refine zaR ?_
   have E:∀k,(x++gj ((y::r).take k)).length<=1099511627776:=fun k=>by
    have h1:=SP (y::r) k;rw[<-A,Pm,bl]at u;rw[bl];omega
   refine GW.range ((y::r).map fun s=>[GV.v (sv s)]).length (fun k G N=>∃d a c,G=[U,.v (sv [44,32]),U,U,U,U,U,U,.loc 0 0,U,U,U,U,U,U,U,U,U,U,U,U,U,U,U,U,U,U,U,U,U,U,U,U,U,U,U,U,U,U,U,U,U,U,U,U,U,U,U,U,U,U,U,U,U,U,U,U,U,U,U,U,U,U,strs (y::r),.v (ii (((y::r).map fun s=>[GV.v (sv s)]).length:Int)),.v (ii (k:Nat)),U,U,U,U,U,U,U,U,U]/\d=x++gj ((y::r).take k)/\N=[.box 246 [.loc 0 0,.v (.slice a d.length c)],.vech 5 1 (cW d) (.slice a d.length c)]) ?_ ?_ ?_ ?_ ?_
   ·rw[show 0+x.length=x.length from gW _];subst A;exact⟨_,_,Wk.bb aD,x,a1,R,rfl,by simp[gj],rfl⟩
   ·have:((y::r).map fun s=>[GV.v (sv s)]).length+1=l.length:=by rw[<-A];simp
    omega
   ·rintro k _ _⟨d,a,c,rfl,_,rfl⟩;exact eB
   ·rintro k _ _ j⟨d,a,c,rfl,i,rfl⟩
    have j:k<(y::r).length:=by simpa using j
    have n:(y::r)[k]?=some (y::r)[k]:=by simp[j]
    have I:((y::r).map fun s=>[GV.v (sv s)])[k]?=some [.v (sv (y::r)[k])]:=by rw[b6,n];rfl
    have t:x++gj ((y::r).take (k+1))=(d++[44,32])++(y::r)[k]:=by
     rw[dI,n,L0,<-eU,<-i,eU]
     congr 1
     exact U8 _
    have H:=E k;have B:=E (k+1);rw[t]at B;rw[<-i]at H;simp only[bl,length_cons,length_nil]at B;generalize(y::r)[k]=z at *
    have w:(cW d).length=d.length:=by simp[cW]
    refine X ?_;refine cN [0,1] (r7 [44,32] d.length a c (cW d) w (by simp only[length_cons,length_nil];omega)) ?_;rintro _ _⟨⟨u1,rfl⟩,O,S,rfl⟩;refine dA ?_;rw[show cW d++[[GV.v (.int .u8 ((44:UInt8).toNat:Int))],[GV.v (.int .u8 ((32:UInt8).toNat:Int))]]=cW (d++[44,32]) by simp[cW],show d.length+([44,32]:ai).length=(d++[44,32]).length by simp];refine X ?_;refine cN [0,1] (r7 z (d++[44,32]).length O S (cW (d++[44,32])) (by simp[cW]) zfp) ?_;rintro _ _⟨⟨u2,rfl⟩,Q,T,rfl⟩;refine dA ?_
    have W:List.length (d++[44,32])+List.length z=List.length ((d++[44,32])++z):=by simp only[bl]
    rw[<-Lc,W];refine X ?_;exact⟨rfl,rfl,_,_,Wk.bb aD,(d++[44,32])++z,Q,T,rfl,t.symm,rfl⟩
   ·rintro _ _⟨d,a,c,rfl,i,rfl⟩
    have hj:cJ l=d:=by
     rw[i,<-A,show((y::r).map fun s=>[GV.v (sv s)]).length=(y::r).length by simp,ej];rfl
    rw[hj]at u o |-
    have M:d≠[]:=by
     intro h0;rw[h0]at o;simp at o
    have C:=OG d a c M Z;refine X ?_;refine D [0,1] C ?_;exact ax
open Go.Xp (Nd T)
open Go.Sp (Src)
open Go.Im (pA qN tr lb)
mutual
def tT:T->GV
 |.mk n l=>.box [.v (ii n.aj),.v (ii n.at_),.v (ii n.n),.v (sv n.s),ints n.au,.sl 1 (dd l)] 0
def dd:List T->List am
 |[]=>[]
 |t::r=>[tT t]::dd r
end
abbrev uT(t:T):GV:=.box [.v (ii t.n.aj),.v (ii t.n.at_),.v (ii t.n.n),.v (sv t.n.s),ints t.n.au,.sl 1 (dd t.au)] 0
theorem Ys(t:T):tT t=uT t:=by cases t;rw[tT];rfl
theorem lN(l:List T):dd l=l.map fun t=>[uT t]:=by
 induction l with
 |nil=>rfl
 |cons t l q=>rw[dd,q,Ys];rfl
theorem rn(l:List T):(dd l).length=l.length:=by rw[lN];simp
theorem I2(l:List T)(t:T):dd (l++[t])=dd l++[[uT t]]:=by rw[lN,lN];simp
theorem vt{l:List T}{i:Nat}{t:T}(h:l[i]?=some t):(dd l)[i]?=some [uT t]:=by rw[lN,b6,h];rfl
def trG:Option (T × Nat)->GV
 |none=>.tup [U,U,.v (.bool false)]
 |some (t,e)=>.tup [uT t,.v (ii (e:Nat)),.v (.bool true)]
theorem Qm(ak:List Nd)(hl:ak.length<=1099511627776)(T:∀n∈ak,n.au.length<=1099511627776):∀(f a:Nat),ak.length-a+1<=f->a<=1099511627776 ->
  GF prog 142 [.sl 5 (ak.map aU),.v (ii (a:Nat))] [] (trG (pA ak f a)) []:=by
 intro f
 induction f with
 |zero=>intro a h;omega
 |succ f ih =>
 intro a hf ha;rw[pA]
 cases A:ak[a]? with
 |none =>
  have C:ak.length<=a:=oK A
  have S:decide (((ak.map aU).length:Int)<=(a:Int))=true:=by simpa using C
  refine ah func142 ntmps142 ?_;exact zd5
 |some n =>
  have u:=(bG A).1
  have S:decide (((ak.map aU).length:Int)<=(a:Int))=false:=by simpa using u
  have hr:(ak.map aU)[a]?=some (aU n):=by rw[b6,A];rfl
  have I:=T n (bR A);simp only;generalize Q:qN (pA ak f) n.au (a+1) []=R;refine ah func142 ntmps142 ?_;refine GW.wk (Wk.zE (i:=0) (o:=5) 132 1 rfl rfl) ?_
  refine GW.range (n.au.map fun i=>[GV.v (ii i)]).length (fun k O Γ=>∃next c m b,O=[.sl 5 (ak.map aU),.v (ii (a:Nat)),U,U,U,U,U,.loc 0 0,.v (ii (next:Nat)),U,U,U,U,U,U,U,U,U,U,U,U,U,U,U,U,U,U,U,U,U,ints n.au,.v (ii ((n.au.map fun i=>[GV.v (ii i)]).length:Int)),.v (ii (k:Nat)),U,U,U,U,U,U,U,U,U,U,U,U,U,U,U,U,U,U,U,U,U,U,U,U,U,U,U,U,U,U,U,U,U,U,U] /\
   Γ=[.box 191 [.v (ii n.aj),.v (ii n.at_),.v (ii n.n),.v (sv n.s),ints n.au,.vec 1 m],.vec 132 1 0 b]/\b.length=m/\b=dd c/\m=k/\a+1<=next/\next<=ak.length/\qN (pA ak f) (n.au.drop k) next c=R) ?_ (by simpa using I) ?_ ?_ ?_
  ·exact⟨_,_,Wk.bb aD,a+1,[],0,[],rfl,rfl,rfl,rfl,rfl,a8 _,u,Q⟩
  ·rintro k _ _⟨next,c,m,b,rfl,rfl,_⟩;exact eB
  ·rintro k _ _ q⟨next,c,m,b,rfl,rfl,F,d,G,H,J,h⟩
   have q:k<n.au.length:=by simpa using q
   have E:n.au[k]?=some n.au[k]:=by simp[q]
   have W:(n.au.map fun i=>[GV.v (ii i)])[k]?=some [.v (ii n.au[k])]:=by rw[b6,E];rfl
   rw[kP q,qN]at h;generalize n.au[k]=z at *
   by_cases B:z=(next:Int)
   ·rw[ae B]at h;subst B
    have N:((next:Int) != (next:Int))=false:=by simp
    have l:=ih next Z Z
    cases M:pA ak f next with
    |none =>
     rw[M]at h l;subst h;refine zcp ?_;exact zd5
    |some x =>
     have⟨t,e⟩:=x;rw[M]at h l;simp only at h
     have⟨s1,s2,_,_⟩:=Go.Im.zR f next t e M
     refine zcp ?_;refine zbD ?_;exact⟨rfl,rfl,_,_,Wk.bb aD,e,c++[t],_,_,rfl,rfl,by simp[F],by rw[I2,d],by omega,by omega,s2,h⟩
   ·rw[ab B]at h;subst h
    have N:(z != (next:Int))=true:=by simpa using B
    refine X ?_;exact zd5
  ·rintro _ _⟨next,c,m,b,rfl,rfl,F,d,G,H,J,h⟩;rw[show n.au.drop (n.au.map fun i=>[GV.v (ii i)]).length=[] by simp,qN]at h;subst h;simp only;subst d;refine bx ?_;refine GW.wk (Wk.uy (i:=0) (o:=5) (j:=1) rfl rfl rfl rfl F) ?_
   by_cases w:n.at_<0
   ·rw[ae w]
    have r:decide ((0:Int)<=n.at_)=false:=by simpa using w
    refine zd9 ?_;exact zd5
   ·rw[ab w]
    have r:decide ((0:Int)<=n.at_)=true:=by simpa using w
    refine zd9 ?_;refine Co ?_;exact zai
def Bw(ak:List Nd):Option (List T × Nat)->GV
 |none=>.tup [U,.v (.bool false)]
 |some (l,e)=>.tup [.sl 1 (dd l),.v (.bool ((e:Int)==(ak.length:Int)))]
theorem vO(p:Src)(b:p.ak.length<=1099511627776)(J:∀n∈p.ak,n.au.length<=1099511627776)(hf:p.az.length<=1099511627776) :
  GF prog 74 [.agg (aQ p)] [] (Bw p.ak (lb p.ak p.az 0 [])) []:=by
 generalize I:lb p.ak p.az 0 []=R;refine ah func74 ntmps74 ?_;refine GW.wk (Wk.BZ (t:=4) (a:=none) (c:=0) 132 1 rfl) ?_
 refine GW.range (p.az.map aO).length (fun k u d=>∃next q m j,u=U::.loc 0 0::U::U::.vec 1 m::.v (ii (next:Nat))::U::U::U::U::U::U::.sl 3 (p.az.map aO)::.v (ii ((p.az.map aO).length:Int))::.v (ii (k:Nat))::zU 31 [] /\
  d=[.box 28 (aQ p),.vec 132 1 0 j]/\j.length=m/\j=dd q/\m=k/\next<=p.ak.length/\lb p.ak (p.az.drop k) next q=R) ?_ (by simpa using hf) ?_ ?_ ?_
 ·exact⟨_,_,Wk.bb aD,0,[],0,[],rfl,rfl,rfl,rfl,rfl,bj _,I⟩
 ·rintro k _ _⟨next,q,m,j,rfl,rfl,_⟩;exact eB
 ·rintro k _ _ H⟨next,q,m,j,rfl,rfl,N,C,w,o,h⟩
  have H:k<p.az.length:=by simpa using H
  have l:p.az[k]?=some p.az[k]:=by simp[H]
  have z:(p.az.map aO)[k]?=some (aO p.az[k]):=by rw[b6,l];rfl
  rw[kP H,lb]at h;generalize p.az[k]=fn at *
  have T:=Qm p.ak b J (p.ak.length+1) next Z Z
  unfold tr at h
  cases W:pA p.ak (p.ak.length+1) next with
  |none =>
   rw[W]at h T;subst h;refine X ?_;refine D [] T ?_;refine FV ?_;exact zaQ
  |some x =>
   have⟨t,e⟩:=x;rw[W]at h T;simp only at h
   have⟨M,O,_,_⟩:=Go.Im.zR _ next t e W
   by_cases r:fn.body=(next:Int)
   ·rw[ae r]at h
    have s:(fn.body != (next:Int))=false:=by simpa using r
    refine X ?_;refine D [] T ?_;refine zbD ?_;exact⟨rfl,rfl,_,_,(Wk.cut (n:=2) (bj _) rfl).trans (Wk.bb aD),e,q++[t],_,_,rfl,rfl,by simp[N],by rw[I2,C],by omega,O,h⟩
   ·rw[ab r]at h;subst h
    have s:(fn.body != (next:Int))=true:=by simpa using r
    refine X ?_;refine D [] T ?_;refine FV ?_;exact zaQ
 ·rintro _ _⟨next,q,m,j,rfl,rfl,N,C,w,o,h⟩;rw[show p.az.drop (p.az.map aO).length=[] by simp,lb]at h;subst h;subst C;refine bx ?_;refine GW.wk (Wk.iC (t:=4) rfl rfl rfl N) ?_
  have G:p.ak.length=(p.ak.map aU).length:=by simp
  unfold Bw;rw[G];refine X ?_;refine aX (aI 0 8 .nil) ?_;refine av ?_;exact kC
open Go.Sp
structure PX where
 a:Value
 b:Value
 c:Value
 d:Value
 e:Value
abbrev cI(p:RS)(x:PX):Ob:=.box 210 [ic p.l,.v (ii p.i),.v (ii p.e),.v (ii p.code),.v (ii p.at_),.v x.a,.v x.b,.v x.c,.v x.d,.v x.e]
theorem rD(p:RS)(k:Nat)(x:PX)(R:p.ok)(G:k<=1):GF prog 255 [.loc 0 0,.v (ii (k:Nat))] [cI p x] (.agg (db (Go.Im.tok p k))) [cI p x]:=by
 have⟨E,w⟩:=R;unfold Go.Im.tok
 cases H:p.l[p.i+k]? with
 |some t =>
  have m:=kX H;have j:p.i+k<p.l.length:=(bG H).1
  have n:decide (((p.l.map db).length:Int)<=((p.i+k:Nat):Int))=false:=by simpa using by omega
  refine ah func255 ntmps255 ?_;refine aX (aI 0 12 .nil) ?_;refine bA ?_;refine aX (aI 0 12 (.a 12 .nil)) ?_;refine av ?_;exact lq
 |none =>
  have j:p.l.length<=p.i+k:=oK H
  have n:decide (((p.l.map db).length:Int)<=((p.i+k:Nat):Int))=true:=by simpa using by omega
  refine ah func255 ntmps255 ?_;refine aX (aI 0 12 .nil) ?_;refine av ?_;exact lq
theorem Eg(p:RS)(c a:Int)(x:PX):GF prog 314 [.loc 0 0,.v (ii c),.v (ii a)] [cI p x] (.tup []) [cI (p.fail c a) x]:=by
 unfold RS.fail
 by_cases h:p.code=0
 ·have W:(p.code==0)=true:=by simpa using h
  rw[ae h];refine ah func314 ntmps314 ?_;exact eP
 ·have W:(p.code==0)=false:=by simpa using h
  rw[ab h];refine ah func314 ntmps314 ?_;exact eP
theorem yC(p:RS)(x:PX)(R:p.ok):GF prog 256 [.loc 0 0] [cI p x] (.tup []) [cI (Go.Im.lB p) x]:=by
 have H:=rD p 0 x R aS;unfold Go.Im.lB;generalize Go.Im.tok p 0=t at *;have s:=Eg p 7 t.at_ x;refine ah func256 ntmps256 ?_;refine D [0] H ?_;refine D [0] s ?_;exact eP
theorem vU(p:RS)(d:Nat)(x:PX)(R:p.ok):GF prog 316 [.loc 0 0,.v (ii (d:Nat))] [cI p x] (.v (.bool ((Go.Im.cK p d).code==0))) [cI (Go.Im.cK p d) x]:=by
 have H:=rD p 0 x R aS;unfold Go.Im.cK;generalize Go.Im.tok p 0=t at *
 by_cases h:d>60
 ·have W:decide ((60:Int)<(d:Int))=true:=by simpa using by omega
  rw[ae h];have s:=Eg p 9 t.at_ x;generalize p.fail 9 t.at_=q at *;refine ah func316 ntmps316 ?_;refine D [0] H ?_;refine D [0] s ?_;exact ax
 ·have W:decide ((60:Int)<(d:Int))=false:=by simpa using by omega
  rw[ab h];refine ah func316 ntmps316 ?_;exact ax
theorem lj(p:RS)(k:Nat)(s:ai)(x:PX)(R:p.ok)(G:k<=1):GF prog 253 [.loc 0 0,.v (ii (k:Nat)),.v (sv s)] [cI p x] (.v (.bool (Go.Im.is p k s))) [cI p x]:=by
 have H:=rD p k x R G;unfold Go.Im.is;generalize Go.Im.tok p k=t at *
 cases h:(t.aj==3)with
 |true =>
  rw[Bool.true_and];refine ah func253 ntmps253 ?_;exact zeY
 |false =>
  rw[Bool.false_and];refine ah func253 ntmps253 ?_;exact zeY
theorem qZ(p:RS)(x:PX)(R:p.ok):GF prog 254 [.loc 0 0] [cI p x] (.v (sv (Go.Im.tok p 0).s)) [cI (Go.Im.bZ p) x]:=by
 have H:=rD p 0 x R aS;have e:=yC p x R;have c:=R.2;have b:=R.1;unfold Go.Im.bZ;generalize Go.Im.tok p 0=t at *;have u:=Eg p 8 t.at_ x
 by_cases o:p.code=0
 ·have C:(p.code != 0)=false:=by simpa using o
  rw[ae o]
  by_cases w:t.aj=2
  ·have M:(t.aj != 2)=false:=by simpa using w
   rw[ae w]
   by_cases W:t.s.length>12
   ·have z:decide ((12:Int)<(t.s.length:Int))=true:=by simpa using by omega
    rw[ae W];refine ah func254 ntmps254 ?_;refine D [0] H ?_;refine D [0] u ?_;exact ax
   ·have z:decide ((12:Int)<(t.s.length:Int))=false:=by simpa using by omega
    rw[ab W];refine ah func254 ntmps254 ?_;exact zeY
  ·have M:(t.aj != 2)=true:=by simpa using w
   rw[ab w];refine ah func254 ntmps254 ?_;refine D [0] H ?_;refine D [0] e ?_;exact ax
 ·have C:(p.code != 0)=true:=by simpa using o
  rw[ab o];refine ah func254 ntmps254 ?_;exact zeY
theorem fQ(p:RS)(s:ai)(x:PX)(R:p.ok):GF prog 257 [.loc 0 0,.sl 1 [[.v (sv s)]]] [cI p x] (.tup []) [cI (Go.Im.want p s) x]:=by
 have M:=lj p 0 s x R aS;have e:=yC p x R;have d:=R.2;have b:=R.1;unfold Go.Im.want;generalize Go.Im.lB p=q at *;have i:([[GV.v (sv s)]]:List am)[0]?=some [.v (sv s)]:=rfl;refine ah func257 ntmps257 ?_
 by_cases r:p.code=0
 ·have C:(p.code != 0)=false:=by simpa using r
  rw[ae r]
  cases h:Go.Im.is p 0 s with
  |true =>
   rw[h]at M;rw[ae rfl];refine GW.range 1 (fun k o c=>o=.loc 0 0::U::U::U::U::U::.sl 1 [[.v (sv s)]]::.v (ii ((1:Nat):Int))::.v (ii (k:Nat))::zU 22 []/\((k=0/\c=[cI p x])\/(1<=k/\c=[cI p.next x]))) ?_ aS ?_ ?_ ?_
   ·exact⟨_,_,Wk.bb aD,rfl,.inl ⟨rfl,rfl⟩⟩
   ·rintro k _ _⟨rfl,_⟩;exact eB
   ·rintro k _ _ G⟨rfl,⟨rfl,rfl⟩|⟨z,_⟩⟩
    ·refine X ?_;refine D [0] M ?_;exact⟨rfl,rfl,_,_,Wk.bb aD,rfl,.inr ⟨a8 _,rfl⟩⟩
    ·omega
   ·rintro _ _⟨rfl,⟨z,_⟩|⟨_,rfl⟩⟩
    ·cases z
    ·exact bY
  |false =>
   rw[h]at M;rw[ab aS];refine GW.range 1 (fun k o c=>o=.loc 0 0::U::U::U::U::U::.sl 1 [[.v (sv s)]]::.v (ii ((1:Nat):Int))::.v (ii (k:Nat))::zU 22 []/\k=0/\c=[cI p x]) ?_ aS ?_ ?_ ?_
   ·exact lK
   ·rintro k _ _⟨rfl,_⟩;exact eB
   ·rintro k _ _ G⟨rfl,rfl,rfl⟩;refine X ?_;refine D [0] M ?_;refine D [0] e ?_;exact eP
   ·rintro _ _⟨rfl,z,_⟩;cases z
 ·have C:(p.code != 0)=true:=by simpa using r
  rw[ab r];refine GW.range 1 (fun k o c=>o=.loc 0 0::U::U::U::U::U::.sl 1 [[.v (sv s)]]::.v (ii ((1:Nat):Int))::.v (ii (k:Nat))::zU 22 []/\k=0/\c=[cI p x]) ?_ aS ?_ ?_ ?_
  ·exact lK
  ·rintro k _ _⟨rfl,_⟩;exact eB
  ·rintro k _ _ G⟨rfl,rfl,rfl⟩;exact bY
  ·rintro _ _⟨rfl,z,_⟩;cases z
open Go.Xp (T one levels)
mutual
def pT:T->GV
 |.mk n l=>.box [.v (ii n.aj),.v (ii n.at_),.v (ii n.n),.v (sv n.s),.v (.slice none 0 0),.sl 1 (lE l)] 0
def lE:List T->List am
 |[]=>[]
 |t::r=>[pT t]::lE r
end
abbrev qT(t:T):GV:=.box [.v (ii t.n.aj),.v (ii t.n.at_),.v (ii t.n.n),.v (sv t.n.s),.v (.slice none 0 0),.sl 1 (lE t.au)] 0
theorem Ym(t:T):pT t=qT t:=by cases t;rw[pT];rfl
theorem iP(l:List T):lE l=l.map fun t=>[qT t]:=by
 induction l with
 |nil=>rfl
 |cons t l q=>rw[lE,q,Ym];rfl
theorem nM(l:List T):(lE l).length=l.length:=by rw[iP];simp
theorem vo(l:List T)(t:T):lE (l++[t])=lE l++[[qT t]]:=by rw[iP,iP];simp
theorem AX{l:List T}{i:Nat}{t:T}(h:l[i]?=some t):(lE l)[i]?=some [qT t]:=by rw[iP,b6,h];rfl
theorem M6(k a:Int)(s:ai)(rows:List am):GF prog 315 [.v (ii k),.v (ii a),.v (sv s),.sl 1 rows] [] (.loc 0 0) [.box 191 [.v (ii k),.v (ii a),.v (ii 0),.v (sv s),.v (.slice none 0 0),.sl 1 rows]]:=by
 refine ah func315 ntmps315 ?_;refine GW.wk (Wk.cells 0 rfl (ds:=[.v (ii k),.v (ii a),.v (ii 0),.v (sv s),.v (.slice none 0 0),.sl 1 rows]) gU) ?_;exact zec
theorem fD(k a:Int)(s:ai)(l:List T)(rows:List am)(h:lE l=rows):GF prog 315 [.v (ii k),.v (ii a),.v (sv s),.sl 1 rows] [] (qT (one k a s l)) []:=by
 subst h;refine ah func315 ntmps315 ?_;refine GW.wk (Wk.cells 0 rfl (ds:=[.v (ii k),.v (ii a),.v (ii 0),.v (sv s),.v (.slice none 0 0),.sl 1 (lE l)]) gU) ?_;refine GW.wk (Wk.freeze (i:=0) rfl rfl rfl (bj _)) ?_;exact ax
theorem tA:GF prog 247 [] [] (.sl 1 (levels.map fun l=>[strs l])) []:=by
 refine ah func247 ntmps247 ?_
 iterate 10 (refine b9 ?_)
 exact aC
end Go.Xg
namespace Go.Xg
open Go.RowKit Go.Xw Go.Proofs Tryz
open GV (U)
open Go.Xp (levels gQ)
open Go.Im (pG tB)
attribute [local irreducible] GW GL GO V GC GA bh bm
theorem decDigits_eq(n:Nat):Go.Lib.decDigits n=gQ n:=by
 induction n using Nat.strongRecOn with
 |_ n q =>
  unfold Go.Lib.decDigits gQ;split
  ·rfl
  ·rw[q (n / 10) Z]
theorem SV(n:Int):Go.Lib.itoa n=pG n:=by
 unfold Go.Lib.itoa pG;rw[decDigits_eq,decDigits_eq]
theorem KR(n:Int)(M : -9223372036854775808<=n)(A:n<=9223372036854775807):GF prog 188 [.v (ii n)] [] (.v (sv (pG n))) []:=by
 refine GF.VU (vs:=[ii n]) fun K W w H s=>?_
 obtain⟨E,z,q⟩:=sW.all H s H.pow (zs:=vq.map fun z=>Value.int .u64 z) aS (fun m o x hx=>by
  rw[b6]at hx;unfold ze;rw[ab aS,ae rfl]
  cases r:vq[o]? with
  |none=>rw[r]at hx;cases hx
  |some y=>rw[r]at hx;cases hx;rfl)
 have O:Go.Lib.TabIs prog w "internal/strconv.uint64pow10" .u64 Go.Lib.pow10Tab:=by
  unfold Go.Lib.TabIs World.var?;rw[show prog.globalNamed "internal/strconv.uint64pow10" = some 3 by kernel_rfl,show Go.Lib.pow10Tab=vq by decide];simp only[Option.bind_some,q]
 refine pn.C1 (Calls.mono (strconv_Itoa n M A w O) ?_);rintro e l⟨B,k,N,I⟩;refine⟨_,B,by rw[SV];rfl,?_⟩;subst I;refine⟨rfl,rfl,rfl,by simp[Go.Sort.grow,World.drewN],fun j t _=>?_⟩;simp only[Go.Sort.grow,World.drewN];rw[Array.getElem?_append_left t]
theorem PJ(l:List ai)(s:ai)(W:l.length<=1099511627776):GF prog 248 [strs l,.box [.v (sv s)] 0] [] (.v (.bool (l.contains s))) []:=by
 have h:=lQ l s W;generalize l.contains s=b at *;refine ah func248 ntmps248 ?_;exact zbk
def BQ(ls:List (List ai))(s:ai):Int:=match ls.findIdx? (fun l=>l.contains s)with|some i=>(i:Int)|none => -1
theorem F9(ls:List (List ai))(s:ai)(hn:ls.length<=1099511627776)(b:∀l∈ls,l.length<=1099511627776) :
  GF prog 246 [.sl 1 (ls.map fun l=>[strs l]),.fn (.func 248) [] [.box [.v (sv s)] 0]] [] (.v (ii (BQ ls s))) []:=by
 have A:(ls.map fun l=>[strs l]).length=ls.length:=by simp
 refine ah func246 ntmps246 ?_;refine GW.range (ls.map fun l=>[strs l]).length (fun k q c=>q=[.sl 1 (ls.map fun l=>[strs l]),.fn (.func 248) [] [.box [.v (sv s)] 0],U,U,U,U,U,.v (ii ((ls.map fun l=>[strs l]).length:Int)),.v (ii (k:Nat)),U,U,U,U,U,U,U,U,U,U]/\c=[]/\(ls.take k).all (fun l=>!(l.contains s))=true) ?_ Z ?_ ?_ ?_
 ·exact lK
 ·exact jE
 ·rintro k _ _ i⟨rfl,rfl,W⟩;rw[A]at i
  have m:ls[k]?=some ls[k]:=by simp[i]
  have n:(ls.map fun l=>[strs l])[k]?=some [strs ls[k]]:=by rw[b6,m];rfl
  have o:=PJ ls[k] s (b _ (getElem_mem i))
  have N:(ls.take (k+1)).all (fun l=>!(l.contains s))=((ls.take k).all (fun l=>!(l.contains s))&&!(ls[k].contains s)):=by rw[dI,m,all_append];simp
  have B:ls[k].contains s=true->BQ ls s=(k:Int):=fun M=>by
   have:ls.findIdx? (fun l=>l.contains s)=some k:=by
    rw[List.findIdx?_eq_some_iff_getElem];refine⟨i,M,fun j t=>?_⟩;rw[fL]at W;have:=W ls[j] zft;exact zdM
   unfold BQ;rw[this]
  generalize ls[k]=l at *
  cases r:l.contains s with
  |true =>
   rw[r]at o;rw[B r];refine X ?_;refine oG [] o ?_;exact aC
  |false =>
   rw[r]at o N;refine X ?_;refine oG [] o ?_;exact zaZ
 ·rintro _ _⟨rfl,rfl,W⟩;rw[A,ej]at W
  have:ls.findIdx? (fun l=>l.contains s)=none:=by
   rw[List.findIdx?_eq_none_iff];intro x hx;rw[fL]at W;simpa using W x hx
  unfold BQ;rw[this];exact aC
theorem CW(s:ai):GF prog 193 [.v (sv s)] [] (.v (ii (tB s))) []:=by
 have A:=tA;have w:=F9 levels s aS aS;rw[show tB s=BQ levels s from rfl];generalize BQ levels s=z at *;generalize levels=E at *;refine ah func193 ntmps193 ?_;refine GL.wk (Wk.freeze (i:=0) rfl rfl rfl (a8 _)) ?_;refine GN zfX ?_;refine D [] A ?_;refine D [] w ?_;exact ax
open Go.Xp (T cJ bg aZ)
open Go.Im (uZ oS dW jg vH lF jb r9 rz gJ df)
theorem MP(t:T)(z:Int):GF prog 194 [uT t,.v (ii z)] [] (.v (.bool (oS t z))) []:=by
 have h:=CW t.n.s;unfold oS
 cases G:(t.n.aj==6)with
 |true =>
  generalize tB t.n.s=y at *;refine ah func194 ntmps194 ?_;exact zbk
 |false =>
  refine ah func194 ntmps194 ?_;exact ax
theorem uE(t:T)(b:Bool)(x:ai)(hx:x.length<=1099511627776)(h:GF prog 126 [uT t] [] (.v (sv x)) []) :
  GF prog 192 [uT t,.v (.bool b)] [] (.v (sv (uZ b x))) []:=by
 unfold uZ
 cases b with
 |true =>
  refine ah func192 ntmps192 ?_;exact zbk
 |false =>
  refine ah func192 ntmps192 ?_;exact zbk
theorem PL(ex:FuncId)[hf:gM prog ex](u:T->ai)(l:List T)(h:∀t∈l,GF prog ex [uT t] [] (.v (sv (u t))) [])(q:(cJ (l.map u)).length<=1099511627776)(W:l.length<=1099511627776) :
  GF prog 191 [.sl 1 (dd l),.v (.func (.func ex) #[] #[])] [] (.v (sv (cJ (l.map u)))) []:=by
 have A:=rn l;have E:=KS (l.map u) q zfC;refine ah func191 ntmps191 ?_;refine GW.wk (Wk.BZ (t:=5) (a:=none) (c:=0) 9 1 rfl) ?_;refine GW.range (dd l).length (fun k o d=>∃m j,o=.sl 1 (dd l)::.v (.func (.func ex) #[] #[])::U::U::U::.vec 0 m::U::U::.sl 1 (dd l)::.v (ii ((dd l).length:Int))::.v (ii (k:Nat))::zU 12 []/\d=[.vec 9 1 0 j]/\j.length=m/\j=((l.take k).map u).map (fun s=>[GV.v (sv s)])/\m=k) ?_ Z ?_ ?_ ?_
 ·exact⟨_,_,Wk.bb aD,0,[],rfl,rfl,rfl,rfl,rfl⟩
 ·rintro k _ _⟨m,j,rfl,rfl,_⟩;exact eB
 ·rintro k _ _ i⟨m,j,rfl,rfl,O,C,w⟩;rw[A]at i
  have n:l[k]?=some l[k]:=by simp[i]
  have r:=vt n;have H:=h l[k] (getElem_mem i)
  have N:((l.take (k+1)).map u).map (fun s=>[GV.v (sv s)])=j++[[.v (sv (u l[k]))]]:=by rw[dI,n,C,jH,jH];rfl
  generalize l[k]=t at *;refine X ?_;refine jW [] H ?_;refine X ?_;exact zdq
 ·rintro _ _⟨m,j,rfl,rfl,O,C,w⟩;rw[A,ej]at C;refine bx ?_;refine GW.wk (Wk.iC (t:=5) rfl rfl rfl O) ?_;subst C;refine zeE ?_;exact ax
theorem XS{t:T}(h:df t.n.aj t.au.length=true)(G:t.n.aj=3\/t.n.aj=5):∃a,t.au=[a]:=by
 have:t.au.length=1:=by
  unfold df at h
  exact ze2
 match W:t.au,this with
 |[a],_=>exact⟨a,rfl⟩
theorem XT{t:T}(h:df t.n.aj t.au.length=true)(G:t.n.aj=6):∃a b,t.au=[a,b]:=by
 have:t.au.length=2:=by
  unfold df at h;rw[G]at h;simp at h;omega
 match W:t.au,this with
 |[a,b],_=>exact⟨a,b,rfl⟩
theorem TV:∀(N:Nat)(t:T),bg t<=N->gJ t=true->r9 t->lF t<=1099511627776->GF prog 126 [uT t] [] (.v (sv (dW t))) []:=by
 intro N
 induction N with
 |zero=>intro t h;rw[Go.Xp.fP]at h;omega
 |succ N ih =>
 intro t hN Q z J;have c:=Go.Im.vI _ t (a8 _) z;rw[Go.Xp.fP]at hN;rw[Go.Im.xr,a6,Go.Im.qV,fL]at Q;rw[Go.Im.ra]at z
 have d:∀a∈t.au,GF prog 126 [uT a] [] (.v (sv (dW a))) []/\(dW a).length<=1099511627776:=fun a j=>by
  have u:=Go.Im.tP j;rw[Go.Im.pC]at J;have w:=Go.Im.kT z.2 j
  have h2:bg a<=aZ t.au:=by
   have:∀(l:List T),a∈l->bg a<=aZ l:=by
    intro l
    induction l with
    |nil=>intro h;cases h
    |cons b l r =>
     intro h;rw[aZ]
     rcases nj h with rfl|h
     ·omega
     ·have:=r h;omega
   exact this _ j
  have I:=Go.Im.vI _ a (a8 _) w;exact⟨ih a Z (Q.2 a j) w Z,by omega⟩
 rw[Go.Im.NP]at c |-;unfold vH at c |-;have G:=Q.1;have E:=@XS t G;have F:=@XT t G;have Y3:=KR t.n.n z.1.1 z.1.2;have hlv:=CW t.n.s
 have R:t.au.length<=1099511627776:=by
  have:=Go.Im.PH t.au;rw[Go.Im.pC]at J;omega
 have e:=fun hj=>PL 126 dW t.au (fun a j=>(d a j).1) hj R
 rw[<-Go.Im.I4]at e
 have Mj:t.n.s.length<=1099511627776:=by rw[Go.Im.pC]at J;omega
 have C:(cJ (jg t.au)).length<=1099511627776:=by
  have u:=Go.Im.zz (jg t.au)
  have h2:((jg t.au).map fun y=>y.length+2).sum<=jb t.au:=by
   have:∀(l:List T),rz l->((jg l).map fun y=>y.length+2).sum<=jb l:=by
    intro l
    induction l with
    |nil=>intro _;simp[jg]
    |cons a l r =>
     intro h;rw[rz]at h;have u:=Go.Im.vI _ a (a8 _) h.1;have h2:=r h.2;rw[jg,jb,List.map_cons,sum_cons];omega
   exact this _ z.2
  rw[Go.Im.pC]at J;omega
 have e:=e C;clear C;unfold uT;generalize Vm:t.n.aj=kd at *
 by_cases u:kd=1
 ·subst u
  have dV:((1:Int)==1)=true:=by decide
  rw[ae rfl];refine ah func126 ntmps126 ?_;refine D [] Y3 ?_;exact ax
 rw[ab u]at c |-
 have g1:(kd==1)=false:=by simpa using u
 by_cases w:kd=3
 ·subst w
  have dV:((3:Int)==1)=false:=by decide
  have k:((3:Int)==3)=true:=by decide
  rw[ae rfl]at c |-;have⟨a,j⟩:=E (.inl rfl);rw[j]at d c |-;have⟨A,H⟩:=d a (List.mem_singleton.2 rfl)
  have hr:(dd [a])[0]?=some [uT a]:=by rw[lN];rfl
  simp only[jg,getD_cons_zero]at c |-;generalize dd [a]=m at *;generalize dW a=x at *;refine ah func126 ntmps126 ?_;refine zeD ?_;refine aN [] A ?_;exact aC
 rw[ab w]at c |-
 have g3:(kd==3)=false:=by simpa using w
 by_cases I:kd=4
 ·subst I
  have dV:((4:Int)==1)=false:=by decide
  have k:((4:Int)==3)=false:=by decide
  have f4:((4:Int)==4)=true:=by decide
  rw[ae rfl]at c |-;generalize dd t.au=m at *;generalize cJ (jg t.au)=x at *;simp only[bl,length_cons,length_nil]at c;refine ah func126 ntmps126 ?_;refine aX (aI 0 10 (.a 10 (aI 11 3 .nil))) ?_;refine av ?_;refine aN [] e ?_;exact aC
 rw[ab I]at c |-
 have g4:(kd==4)=false:=by simpa using I
 by_cases M:kd=5
 ·subst M
  have dV:((5:Int)==1)=false:=by decide
  have k:((5:Int)==3)=false:=by decide
  have f4:((5:Int)==4)=false:=by decide
  have f5:((5:Int)==5)=true:=by decide
  rw[ae rfl]at c |-;have⟨a,j⟩:=E (.inr rfl);rw[j]at d c |-;have⟨A,H⟩:=d a (List.mem_singleton.2 rfl)
  have hr:(dd [a])[0]?=some [uT a]:=by rw[lN];rfl
  simp only[jg,getD_cons_zero]at c |-;have o:=uE a (a.n.aj==6) (dW a) H A;have Ew:=Go.Im.Hb (a.n.aj==6) (dW a);generalize dd [a]=m at *;generalize hxx:uZ (a.n.aj==6) (dW a)=x at *;refine ah func126 ntmps126 ?_;refine aX (aI 0 23 (.a 23 (.q 24 (.q 25 .nil)))) ?_;refine av ?_;exact zeX
 rw[ab M]at c |-
 have g5:(kd==5)=false:=by simpa using M
 by_cases O:kd=6
 ·subst O
  have dV:((6:Int)==1)=false:=by decide
  have k:((6:Int)==3)=false:=by decide
  have f4:((6:Int)==4)=false:=by decide
  have f5:((6:Int)==5)=false:=by decide
  have f6:((6:Int)==6)=true:=by decide
  rw[ae rfl]at c |-;have⟨a,b,j⟩:=F rfl;rw[j]at d c |-;have⟨A,H⟩:=d a (List.mem_cons_self);have⟨d1,d2⟩:=d b (ey _ List.mem_cons_self)
  have hr:(dd [a,b])[0]?=some [uT a]:=by rw[lN];rfl
  have xl:(dd [a,b])[1]?=some [uT b]:=by rw[lN];rfl
  simp only[jg,getD_cons_zero,getD_cons_succ]at c |-
  have aa7 : -1<=tB t.n.s/\tB t.n.s<=9:=by
   unfold tB
   cases hf:levels.findIdx? (fun l=>l.contains t.n.s)with
   |none=>simp
   |some i =>
    rw[List.findIdx?_eq_some_iff_getElem]at hf;have:=hf.1
    have h9:levels.length=9:=by decide
    exact zfb
  generalize tB t.n.s=lv at *;have S:=MP a lv;have W:=MP b (lv+1);have o:=uE a (oS a lv) (dW a) H A;have B:=uE b (oS b (lv+1)) (dW b) d2 d1;generalize dd [a,b]=m at *;generalize hxx:uZ (oS a lv) (dW a)=x at *;generalize hyy:uZ (oS b (lv+1)) (dW b)=y at *;simp only[bl,length_cons,length_nil]at c;refine ah func126 ntmps126 ?_;refine D [] hlv ?_;refine aX (aI 0 14 (aI 17 5 (aI 24 15 (.a 14 (.a 15 (.q 16 (.q 22 (.q 23 (.a 39 (.a 40 (.q 41 (.q 42 .nil)))))))))))) ?_;refine av ?_;refine xO [] S ?_;refine av ?_;refine aN [] o ?_;refine xO [] W ?_;refine av ?_;refine aN [] B ?_;exact aC
 rw[ab O]
 have g6:(kd==6)=false:=by simpa using O
 refine ah func126 ntmps126 ?_;exact ax
end Go.Xg
set_option maxHeartbeats 2000000
namespace Go.Xg
open Go.RowKit Go.Xw Go.Proofs Tryz Go.Im
open GV (U)
open Go.Xp (T)
attribute [local irreducible] GW GL GO V GC GA bh bm
abbrev jX(f:FuncId):Value:=.func (.func f) #[] #[]
theorem Ph(l:List ai)(d:Nat)(r:(ia l d).length<=1099511627776)(W:l.length<=1099511627776):GF prog 127 [strs l,.v (ii (d:Nat))] [] (.v (sv (ia l d))) []:=by
 have A:(l.map fun s=>[GV.v (sv s)]).length=l.length:=by simp
 have j:=sZ l [123,32];unfold ia at r |-;rw[bl,j]at r;refine ah func127 ntmps127 ?_;refine GW.range (l.map fun s=>[GV.v (sv s)]).length (fun k o c=>o=[strs l,U,U,U,U,.v (sv (r8 [123,32] (l.take k))),U,U,strs l,.v (ii ((l.map fun s=>[GV.v (sv s)]).length:Int)),.v (ii (k:Nat)),U,U,U,U,U,U,U,U,U,U]/\c=[]) ?_ Z ?_ ?_ ?_
 ·exact ja
 ·rintro k _ _⟨rfl,rfl⟩;exact eB
 ·rintro k _ _ i⟨rfl,rfl⟩;rw[A]at i
  have m:l[k]?=some l[k]:=by simp[i]
  have n:(l.map fun s=>[GV.v (sv s)])[k]?=some [.v (sv l[k])]:=by rw[b6,m];rfl
  have C:=sZ (l.take (k+1)) [123,32];have w:=NL l (k+1)
  have E:lp (l.take (k+1))=lp (l.take k)+(l[k].length+1):=by rw[dI,m,FE];simp[lp]
  have I:=sZ (l.take k) [123,32];rw[show l.take (k+1)=l.take k++[l[k]] by rw[dI,m];rfl,Lh]at |-;generalize l[k]=z at *;generalize r8 [123,32] (l.take k)=q at *;simp only[length_cons,length_nil]at I r
  have B:q.length+z.length+3<=1099511627777:=by omega
  refine X ?_;exact zb9
 ·rintro _ _⟨rfl,rfl⟩;rw[A,ej];generalize r8 [123,32] l=q at *;simp only[bl,length_cons,length_nil]at j r;exact aC
theorem X8(ex I:FuncId)[hf:gM prog ex](u:T->ai)(t a:T)(k:Nat)(G:t.au[k]?=some a)(h:GF prog ex [uT a] [] (.v (sv (u a))) []) :
  GF prog 309 [.v (ii (k:Nat)),.box [.v (jX ex),.v (jX I)] 0,.box [uT t] 0] [] (.v (sv (u a))) []:=by
 have i:=vt G;generalize u a=x at *;refine ah func309 ntmps309 ?_;refine aX (aI 0 9 (.a 9 (.q 10 .nil))) ?_;refine av ?_;refine xO [] h ?_;exact zbe
open Go.Xp (bg aZ)
structure Wr(ex bk:FuncId)(tx:T->ai)(inl:List ai->Nat->ai):Prop where
 expr:∀a,gJ a=true->r9 a->lF a<=1099511627776->GF prog ex [uT a] [] (.v (sv (tx a))) []
 block:∀l(d:Nat),(inl l d).length<=1099511627776->l.length<=1099511627776->d<=1099511627776->GF prog bk [strs l,.v (ii (d:Nat))] [] (.v (sv (inl l d))) []
 mem:∀l d s,s∈l->s.length<=(inl l d).length
theorem yK(ex I:FuncId)[n:gM prog ex][r:gM prog I](u:T->ai)(inl:List ai->Nat->ai)(W:Wr ex I u inl)(t:T)(d:Nat)(hd:d+1<=1099511627776)(b:t.au.length<=1099511627776)(w:(nT u inl d t).length<=1099511627776)
  (h:∀a∈t.au,(ln u inl (d+1) a).length<=1099511627776->GF prog 245 [.agg [.v (jX ex),.v (jX I)],uT a,.v (ii ((d+1:Nat):Int))] [] (.v (sv (ln u inl (d+1) a))) []) :
  GF prog 190 [.agg [.v (jX ex),.v (jX I)],uT t,.v (ii (d:Nat))] [] (.v (sv (nT u inl d t))) []:=by
 have A:=rn t.au;rw[K9,IX]at w |-;have S:=W.block (t.au.map (ln u inl (d+1))) d w (by simpa using b) Z
 have G:∀a∈t.au,GF prog 245 [.agg [.v (jX ex),.v (jX I)],uT a,.v (ii ((d+1:Nat):Int))] [] (.v (sv (ln u inl (d+1) a))) []:=fun a Q =>
  h a Q (ju (W.mem _ d _ (yE.2 ⟨a,Q,rfl⟩)) w)
 generalize inl (t.au.map (ln u inl (d+1))) d=y at *;refine ah func190 ntmps190 ?_;refine GW.wk (Wk.BZ (t:=7) (a:=none) (c:=0) 9 1 rfl) ?_;refine GW.range (dd t.au).length (fun k o e=>∃m j,o=U::U::.v (ii (d:Nat))::.loc 0 0::U::U::U::.vec 1 m::U::U::U::U::U::.sl 1 (dd t.au)::.v (ii ((dd t.au).length:Int))::.v (ii (k:Nat))::zU 17 []/\e=[.box 194 [.v (jX ex),.v (jX I)],.vec 9 1 0 j]/\j.length=m/\j=((t.au.take k).map (ln u inl (d+1))).map (fun s=>[GV.v (sv s)])/\m=k) ?_ Z ?_ ?_ ?_
 ·exact⟨_,_,Wk.bb aD,0,[],rfl,rfl,rfl,rfl,rfl⟩
 ·rintro k _ _⟨m,j,rfl,rfl,_⟩;exact eB
 ·rintro k _ _ i⟨m,j,rfl,rfl,O,C,B⟩;rw[A]at i
  have l:t.au[k]?=some t.au[k]:=by simp[i]
  have q:=vt l;have H:=G t.au[k] (getElem_mem i)
  have N:((t.au.take (k+1)).map (ln u inl (d+1))).map (fun s=>[GV.v (sv s)])=j++[[.v (sv (ln u inl (d+1) t.au[k]))]]:=by rw[dI,l,C,jH,jH];rfl
  generalize t.au[k]=kid at *;generalize ln u inl (d+1) kid=z at *;refine X ?_;refine D [] H ?_;exact zdq
 ·rintro _ _⟨m,j,rfl,rfl,O,C,B⟩;rw[A,ej]at C;refine bx ?_;refine GW.wk (Wk.iC (t:=7) rfl rfl rfl O) ?_;subst C;refine X ?_;refine jW [] S ?_;exact aC
theorem XU{t:T}{n:Nat}(h:df t.n.aj t.au.length=true)(G:(n=1/\(t.n.aj=13\/t.n.aj=7\/t.n.aj=11\/t.n.aj=12))\/(n=2/\(t.n.aj=8\/t.n.aj=10))):t.au.length=n:=by
 unfold df at h
 rcases G with⟨rfl,G⟩|⟨rfl,G⟩
 ·rcases G with G|G|G|G<;>rw[G]at h<;>simp at h<;>omega
 ·exact ze2
theorem VO{t:T}(h:df t.n.aj t.au.length=true)(G:t.n.aj=9):t.au.length=2\/t.au.length=3:=by
 unfold df at h;rw[G]at h;simp at h;omega
theorem GG(ex R:FuncId)[he:gM prog ex][hb:gM prog R](w:T->ai)(inl:List ai->Nat->ai)(W:Wr ex R w inl):∀(N:Nat)(t:T),bg t<=N->gJ t=true->r9 t->lF t<=1099511627776->∀d,d+bg t<=1099511627776->(ln w inl d t).length<=1099511627776 ->
  GF prog 245 [.agg [.v (jX ex),.v (jX R)],uT t,.v (ii (d:Nat))] [] (.v (sv (ln w inl d t))) []:=by
 intro N
 induction N with
 |zero=>intro t h;rw[Go.Xp.fP]at h;omega
 |succ N ih =>
 intro t hN S hn hw d hd e;have G:=W.expr t S hn hw;rw[Go.Xp.fP]at hN hd;rw[Go.Im.xr,a6,Go.Im.qV,fL]at S;rw[Go.Im.ra]at hn;have hwe:=Go.Im.pC t
 have H:∀(l:List T)(a:T),a∈l->bg a<=aZ l:=by
  intro l
  induction l with
  |nil=>intro a h;cases h
  |cons b l ih2 =>
   intro a h;rw[aZ]
   rcases nj h with rfl|h
   ·omega
   ·have:=ih2 a h;omega
 have j:=fun(k:Nat)(a:T)(F:t.au[k]?=some a)=>X8 ex R w t a k F (W.expr a (S.2 a (bR F)) (Go.Im.kT hn.2 (bR F)) (by have:=Go.Im.tP (bR F);omega))
 have r:∀a∈t.au,(nT w inl d a).length<=1099511627776->GF prog 190 [.agg [.v (jX ex),.v (jX R)],uT a,.v (ii (d:Nat))] [] (.v (sv (nT w inl d a))) []:=fun a m Vn=>by
  have h1:=H _ a m;have h2:=Go.Im.tP m;have h3:=S.2 a m;have h4:=Go.Im.kT hn.2 m;rw[Go.Im.xr,a6,Go.Im.qV,fL]at h3;rw[Go.Im.ra]at h4;have h5:=Go.Xp.fP a;have h6:=Go.Xp.fH a.au;have h7:=Go.Im.pC a
  refine yK ex R w inl W a d Z Z Vn fun b C YV=>?_
  have h8:=H _ b C;have h9:=Go.Im.tP C;exact ih b Z (h3.2 b C) (Go.Im.kT h4.2 C) Z (d+1) Z YV
 rw[NG]at e |-;unfold zb at e |-;rw[G7]at e |-;have xh:=@XU t;have aab:=@VO t S.1
 have xh:=fun n=>@xh n S.1
 unfold uT at G |-;unfold uT at j;generalize Vm:t.n.aj=kd at *
 by_cases O:kd=13
 ·subst O
  have B:((13:Int)==13)=true:=by decide
  rw[ae rfl]at e |-;have o:=xh 1 (.inl ⟨rfl,.inl rfl⟩)
  obtain⟨a,m⟩:∃a,t.au=[a]:=by
   match Q:t.au,o with
   |[a],_=>exact⟨a,rfl⟩
  have s:=j 0 a zfI;rw[m]at e |-;rw[m]at s;simp only[List.map_cons,map_nil,getD_cons_zero,bl,length_cons,length_nil]at e |-;generalize w a=x at *;generalize dd [a]=u at *;refine ef func245 ntmps245 ?_;refine zaa ?_;refine aX (aI 0 8 (.a 8 (aI 9 3 .nil))) ?_;refine av ?_;refine oH [] s ?_;exact zbe
 rw[ab O]at e |-
 have g13:(kd==13)=false:=by simpa using O
 by_cases h7:kd=7
 ·subst h7
  have B:((7:Int)==13)=false:=by decide
  have f7:((7:Int)==7)=true:=by decide
  rw[ae rfl]at e |-;have o:=xh 1 (.inl ⟨rfl,.inr (.inl rfl)⟩)
  obtain⟨a,m⟩:∃a,t.au=[a]:=by
   match Q:t.au,o with
   |[a],_=>exact⟨a,rfl⟩
  have s:=j 0 a zfI;rw[m]at e |-;rw[m]at s;simp only[List.map_cons,map_nil,getD_cons_zero,bl,length_cons,length_nil]at e |-;generalize w a=x at *;generalize dd [a]=u at *;refine ef func245 ntmps245 ?_;refine zaa ?_;refine aX (aI 0 7 (.a 7 (aI 8 3 .nil))) ?_;refine av ?_;refine oH [] s ?_;exact zbe
 rw[ab h7]at e |-
 have g7:(kd==7)=false:=by simpa using h7
 by_cases h8:kd=8
 ·subst h8
  have B:((8:Int)==13)=false:=by decide
  have f7:((8:Int)==7)=false:=by decide
  have f8:((8:Int)==8)=true:=by decide
  rw[ae rfl]at e |-;have o:=xh 2 (.inr ⟨rfl,.inl rfl⟩)
  obtain⟨a,b,m⟩:∃a b,t.au=[a,b]:=by
   match Q:t.au,o with
   |[a,b],_=>exact⟨a,b,rfl⟩
  have s:=j 0 a zfI;have h1:=j 1 b zfI;rw[m]at e |-;rw[m]at s h1;simp only[List.map_cons,map_nil,getD_cons_zero,getD_cons_succ,bl,length_cons,length_nil]at e |-;generalize w a=x at *;generalize w b=y at *;generalize dd [a,b]=u at *;refine ef func245 ntmps245 ?_;refine zaa ?_;refine aX (aI 0 7 (.q 10 (.a 7 (.q 8 (.q 9 (.a 11 (aI 12 3 .nil))))))) ?_;refine av ?_;refine oH [] s ?_;refine av ?_;refine oH [] h1 ?_;exact zbe
 rw[ab h8]at e |-
 have g8:(kd==8)=false:=by simpa using h8
 by_cases h9:kd=9
 ·subst h9
  have B:((9:Int)==13)=false:=by decide
  have f7:((9:Int)==7)=false:=by decide
  have f8:((9:Int)==8)=false:=by decide
  have f9:((9:Int)==9)=true:=by decide
  rw[ae rfl]at e |-
  rcases aab rfl with o|o
  ·skip
   obtain⟨a,b,m⟩:∃a b,t.au=[a,b]:=by
    match Q:t.au,o with
    |[a,b],_=>exact⟨a,b,rfl⟩
   have s:=j 0 a zfI
   have xl:(dd [a,b])[1]?=some [uT b]:=by rw[lN];rfl
   have A:(dd [a,b]).length=2:=by rw[rn];rfl
   have xm:(((dd [a,b]).length:Int)==3)=false:=by rw[A];decide
   rw[m]at e |-;rw[m]at s;rw[ab zfm]at e |-;exact zas
  ·skip
   obtain⟨a,b,c,m⟩:∃a b c,t.au=[a,b,c]:=by
    match Q:t.au,o with
    |[a,b,c],_=>exact⟨a,b,c,rfl⟩
   have s:=j 0 a zfI
   have xl:(dd [a,b,c])[1]?=some [uT b]:=by rw[lN];rfl
   have Rb:(dd [a,b,c])[2]?=some [uT c]:=by rw[lN];rfl
   have A:(dd [a,b,c]).length=3:=by rw[rn];rfl
   have xm:(((dd [a,b,c]).length:Int)==3)=true:=by rw[A];decide
   rw[m]at e |-;rw[m]at s;rw[ae zfm]at e |-;simp only[List.map_cons,map_nil,getD_cons_zero,getD_cons_succ,bl,length_cons,length_nil]at e |-;have E:=r b (by rw[m];simp) Z;have C:=r c (by rw[m];simp) Z;generalize w a=x at *;generalize nT w inl d b=y at *;generalize nT w inl d c=z at *;clear r j ih;generalize dd [a,b,c]=u at *;refine ef func245 ntmps245 ?_;refine zaa ?_;refine aX (.q 0 (aI 4 8 (.a 1 (.q 2 (.q 3 (.a 12 (.q 13 (.q 14 .nil)))))))) ?_;refine av ?_;refine oH [] s ?_;refine av ?_;refine aN [] E ?_;refine X ?_;refine aX (aI 0 9 (.a 9 (aI 10 3 .nil))) ?_;refine av ?_;refine aN [] C ?_;exact aC
 rw[ab h9]at e |-
 have g9:(kd==9)=false:=by simpa using h9
 by_cases I:kd=10
 ·subst I
  have B:((10:Int)==13)=false:=by decide
  have f7:((10:Int)==7)=false:=by decide
  have f8:((10:Int)==8)=false:=by decide
  have f9:((10:Int)==9)=false:=by decide
  have f10:((10:Int)==10)=true:=by decide
  rw[ae rfl]at e |-;have o:=xh 2 (.inr ⟨rfl,.inr rfl⟩)
  ·skip
   obtain⟨a,b,m⟩:∃a b,t.au=[a,b]:=by
    match Q:t.au,o with
    |[a,b],_=>exact⟨a,b,rfl⟩
   have s:=j 0 a zfI
   have xl:(dd [a,b])[1]?=some [uT b]:=by rw[lN];rfl
   have A:(dd [a,b]).length=2:=by rw[rn];rfl
   have xm:(((dd [a,b]).length:Int)==3)=false:=by rw[A];decide
   rw[m]at e |-;rw[m]at s;exact zas
 rw[ab I]at e |-
 have g10:(kd==10)=false:=by simpa using I
 by_cases J:kd=11
 ·subst J
  have B:((11:Int)==13)=false:=by decide
  have f7:((11:Int)==7)=false:=by decide
  have f8:((11:Int)==8)=false:=by decide
  have f9:((11:Int)==9)=false:=by decide
  have f10:((11:Int)==10)=false:=by decide
  have f11:((11:Int)==11)=true:=by decide
  rw[ae rfl]at e |-;have o:=xh 1 (.inl ⟨rfl,.inr (.inr (.inl rfl))⟩)
  obtain⟨a,m⟩:∃a,t.au=[a]:=by
   match Q:t.au,o with
   |[a],_=>exact⟨a,rfl⟩
  exact zaV
 rw[ab J]at e |-
 have g11:(kd==11)=false:=by simpa using J
 by_cases M:kd=12
 ·subst M
  have B:((12:Int)==13)=false:=by decide
  have f7:((12:Int)==7)=false:=by decide
  have f8:((12:Int)==8)=false:=by decide
  have f9:((12:Int)==9)=false:=by decide
  have f10:((12:Int)==10)=false:=by decide
  have f11:((12:Int)==11)=false:=by decide
  have f12:((12:Int)==12)=true:=by decide
  rw[ae rfl]at e |-;have o:=xh 1 (.inl ⟨rfl,.inr (.inr (.inr rfl))⟩)
  obtain⟨a,m⟩:∃a,t.au=[a]:=by
   match Q:t.au,o with
   |[a],_=>exact⟨a,rfl⟩
  exact zaV
 rw[ab M]at e |-
 have g12:(kd==12)=false:=by simpa using M
 clear r j ih;generalize w t=x at *;refine ef func245 ntmps245 ?_;refine zaa ?_;refine jW [] G ?_;exact aC
open Go.Xp (cJ)
open Go.Sp (Src)
theorem Pz(ex N:FuncId)[he:gM prog ex][hb:gM prog N](F:T->ai)(inl:List ai->Nat->ai)(W:Wr ex N F inl)(p:Src)(aJ:List T)(E:(nO F inl p aJ).length<=1099511627776)(hft:p.az.length=aJ.length)
  (hg:p.aw.length<=1099511627776)(ha:p.aq.length<=1099511627776)(hf:p.az.length<=1099511627776)(vb:∀a∈p.aq,-9223372036854775808<=a.size/\a.size<=9223372036854775807)(HV:∀f∈p.az,f.params.length<=1099511627776)
  (ht:∀t∈aJ,gJ t=true/\r9 t/\lF t<=1099511627776/\bg t+1<=1099511627776) :
  GF prog 125 [.agg (aQ p),.sl 1 (dd aJ),.v (jX ex),.v (jX N)] [] (.v (sv (nO F inl p aJ))) []:=by
 have YY:(p.aw.map fun s=>[GV.v (sv s)]).length=p.aw.length:=by simp
 have S:(p.aq.map bc).length=p.aq.length:=by simp
 have YX:(p.az.map aO).length=p.az.length:=by simp
 have l2:=BB (dV F inl) (p.az.zip aJ) (ez a1 (ez g1 [] p.aw) p.aq);have l1:=BB a1 p.aq (ez g1 [] p.aw);unfold nO at E |-;refine ah func125 ntmps125 ?_;refine GW.wk (Wk.BZ (t:=9) (a:=none) (c:=0) 5 1 rfl) ?_;refine GW.range (p.aw.map fun s=>[GV.v (sv s)]).length (fun k Q Γ=>∃r m d,Q=[U,.sl 1 (dd aJ),.v (jX ex),.v (jX N),.loc 0 0,U,U,U,U,.vec 1 m,U,U,U,U,U,U,U,U,strs p.aw,.v (ii ((p.aw.map fun s=>[GV.v (sv s)]).length:Int)),.v (ii (k:Nat)),U,U,U,U,U,U,U,U,U,U,U,U,U,U,U,U,U,U,U,U,U,U,U,U,U,U,U,U,U,U,U,U,U,U,U,U,U,U,U,U,U,U,U,U,U,U,U,U,U,U,U,U,U,U,U,U,U,U,U,U,U]/\Γ=[.box 28 (aQ p),.vec 5 1 0 d]/\d.length=m/\d=cW r/\r=ez g1 [] (p.aw.take k)) ?_ Z ?_ ?_ ?_
 ·exact⟨_,_,Wk.bb aD,[],0,[],rfl,rfl,rfl,rfl,rfl⟩
 ·rintro k _ _⟨r,m,d,rfl,rfl,_⟩;exact eB
 ·rintro k _ _ u⟨r,m,d,rfl,rfl,G,i,H⟩;rw[YY]at u
  have O:p.aw[k]?=some p.aw[k]:=by simp[u]
  have M:(p.aw.map fun s=>[GV.v (sv s)])[k]?=some [.v (sv p.aw[k])]:=by grind
  have j:ez g1 [] (p.aw.take (k+1))=r++g1 p.aw[k]:=by grind[dI,wZ]
  have I:=w4 g1 p.aw (k+1) [];rw[j,bl]at I
  have YZ:d.length=r.length:=by grind
  generalize p.aw[k]=z at *
  have hz:(g1 z).length=z.length+6:=by simp[g1]
  refine X ?_;refine GL.Bq (str:=g1 z) rfl rfl rfl aM rfl Z ?_;refine zbd ?_;exact⟨rfl,rfl,_,_,Wk.bb aD,r++g1 z,_,_,rfl,rfl,by grind,by grind,j.symm⟩
 ·rintro _ _⟨r,m,d,rfl,rfl,G,i,H⟩;rw[YY,ej]at H;rw[<-H]at E l1 l2 |-;refine bx ?_;refine X ?_;refine GW.range (p.aq.map bc).length (fun k Q Γ=>∃e m d,Q=U::.sl 1 (dd aJ)::.v (jX ex)::.v (jX N)::.loc 0 0::U::U::U::U::.vec 1 m::zU 21 (.sl 2 (p.aq.map bc)::.v (ii ((p.aq.map bc).length:Int))::.v (ii (k:Nat))::zU 48 [])/\Γ=[.box 28 (aQ p),.vec 5 1 0 d]/\d.length=m/\d=cW e/\e=ez a1 r (p.aq.take k)) ?_ Z ?_ ?_ ?_
  ·exact⟨_,_,Wk.bb aD,r,m,d,rfl,rfl,G,i,rfl⟩
  ·rintro k _ _⟨e,m,d,rfl,rfl,_⟩;exact eB
  ·clear G i;rintro k _ _ u⟨e,m,d,rfl,rfl,G,i,B⟩;rw[S]at u
   have O:p.aq[k]?=some p.aq[k]:=by simp[u]
   have M:(p.aq.map bc)[k]?=some (bc p.aq[k]):=by grind
   have j:ez a1 r (p.aq.take (k+1))=e++a1 p.aq[k]:=by grind[dI,wZ]
   have I:=w4 a1 p.aq (k+1) r;rw[j,bl]at I
   have YZ:d.length=e.length:=by grind
   have A:=vb p.aq[k] (getElem_mem u);generalize p.aq[k]=z at *;have hit:=KR z.size A.1 A.2;have Aq:=xp A
   have hz:(a1 z).length=z.name.length+(pG z.size).length+8:=by grind[a1]
   unfold bc at M;refine X ?_;refine aX (aI 0 7 (.a 7 (.q 8 (.q 9 (.a 10 (.q 11 .nil)))))) ?_;refine av ?_;refine aN [] hit ?_;refine OA rfl rfl (GL.Bq (str:=a1 z) rfl rfl rfl aM rfl Z (GL.nil (bx (dy.mk zfj ?_))))
   refine N4 ?_;refine bA ?_;exact⟨rfl,rfl,_,_,(Wk.cut (n:=2) (bj _) rfl).trans (Wk.bb aD),e++a1 z,_,_,rfl,rfl,by grind,by grind,j.symm⟩
  ·clear G i;rintro _ _⟨e,m,d,rfl,rfl,G,i,B⟩;rw[S,ej]at B;rw[<-B]at E l2 |-
   have JT:∀(k:Nat)(f:Go.Sp.Fn),p.az[k]?=some f->f.params.length<=1099511627776:=fun k f h=>HV f (bR h)
   refine bx ?_;refine X ?_;refine GW.range (p.az.map aO).length (fun k Q Γ=>∃o m d,Q=U::.sl 1 (dd aJ)::U::U::U::U::U::U::U::.vec 1 m::U::U::U::U::.loc 2 0::zU 38 (.sl 3 (p.az.map aO)::.v (ii ((p.az.map aO).length:Int))::.v (ii (k:Nat))::zU 26 [])/\Γ=[.box 28 (aQ p),.vec 5 1 0 d,.box 194 [.v (jX ex),.v (jX N)]]/\d.length=m/\d=cW o/\o=ez (dV F inl) e ((p.az.zip aJ).take k)) ?_ Z ?_ ?_ ?_
   ·exact⟨_,_,Wk.bb aD,e,m,d,rfl,rfl,G,i,rfl⟩
   ·rintro k _ _⟨o,m,d,rfl,rfl,_⟩;exact eB
   ·clear G i;rintro k _ _ u⟨o,m,d,rfl,rfl,G,i,C⟩;rw[YX]at u
    have R:k<aJ.length:=by omega
    have O:p.az[k]?=some p.az[k]:=by simp[u]
    have hkt:aJ[k]?=some aJ[k]:=by simp
    have M:(p.az.map aO)[k]?=some (aO p.az[k]):=by grind
    have aa4:=vt hkt
    have hkz:(p.az.zip aJ)[k]?=some (p.az[k],aJ[k]):=by grind
    have j:ez (dV F inl) e ((p.az.zip aJ).take (k+1))=o++dV F inl (p.az[k],aJ[k]):=by grind[dI,wZ]
    have I:=w4 (dV F inl) (p.az.zip aJ) (k+1) e;rw[j,bl]at I
    have YZ:d.length=o.length:=by grind
    have⟨q1,q2,q3,q4⟩:=ht aJ[k] (getElem_mem R);have Vr:=JT k _ O;generalize p.az[k]=f at *;generalize aJ[k]=t at *
    have hz:(dV F inl (f,t)).length=f.name.length+(cJ f.params).length+(nT F inl 0 t).length+9:=by unfold dV;simp;omega
    have hJ:=KS f.params Z Vr
    have aam:∀(l:List T)(a:T),a∈l->bg a<=aZ l:=by
     intro l
     induction l with
     |nil=>simp
     |cons b l ih2 =>
      grind[bg,aZ]
    have hB:=yK ex N F inl W t 0 Z (by grind[Go.Xp.fH,Go.Xp.fP]) Z fun a J Vn=>by
     have h1:=aam _ a J;have h2:=Go.Xp.fP t;have h3:=tP J;have h4:=pC t;rw[xr,a6,qV,fL]at q1;rw[ra]at q2;exact GG ex N F inl W _ a (a8 _) (q1.2 a J) (kT q2.2 J) Z (0+1) Z Vn
    unfold aO at M;refine X ?_;refine aX (aI 0 7 (aI 10 5 (.a 7 (.q 8 (.q 9 (.a 15 (.q 16 (.q 17 (.a 18 (.q 19 .nil)))))))))) ?_;refine av ?_;refine aN [] hJ ?_;refine aN [] hB ?_;refine OA rfl rfl (GL.Bq (str:=dV F inl (f,t)) rfl rfl rfl aM rfl Z (GL.nil (bx (dy.mk zfj ?_))))
    refine N4 ?_;refine bA ?_;exact⟨rfl,rfl,_,_,(Wk.cut (n:=3) (bj _) rfl).trans (Wk.bb aD),o++dV F inl (f,t),_,_,rfl,rfl,by grind,by grind,j.symm⟩
   ·clear G i;rintro _ _⟨o,m,d,rfl,rfl,G,i,C⟩;rw[YX,show(p.az.zip aJ).take p.az.length=p.az.zip aJ from mz zfk]at C;rw[<-C]at E |-;refine bx ?_;refine GW.wk (Wk.iC (t:=9) rfl rfl rfl G) ?_
    have aaR:d=o.map fun c=>[.v (.int .u8 (c.toNat:Int))]:=i
    exact aC
end Go.Xg
namespace Go.Xg
open Go.RowKit Go.Xw Go.Proofs Tryz
open GV (U)
open Go.Im (fv rL rM th nk od)
attribute [local irreducible] GW GL GO V GC GA bh bm
theorem GR(a b:List ai)(ha:a.length<=1099511627776)(C:b.length<=1099511627776):GF prog 130 [strs a,strs b] [] (.v (.bool (fv (fun x y=>x==y) a b))) []:=by
 have l:(a.map fun s=>[GV.v (sv s)]).length=a.length:=by simp
 have r:(b.map fun s=>[GV.v (sv s)]).length=b.length:=by simp
 by_cases W:a.length=b.length
 ·have w:(((a.map fun s=>[GV.v (sv s)]).length:Int) != ((b.map fun s=>[GV.v (sv s)]).length:Int))=false:=by rw[l,r,W];simp
  refine ah func130 ntmps130 ?_;refine GW.range (a.map fun s=>[GV.v (sv s)]).length (fun k q c=>q=[strs a,strs b,U,U,U,U,U,U,U,U,U,U,.v (ii ((a.map fun s=>[GV.v (sv s)]).length:Int)),.v (ii (k:Nat)),U,U,U,U,U,U,U,U,U,U,U,U]/\c=[]/\th (fun x y=>x==y) a b k) ?_ Z ?_ ?_ ?_
  ·exact zbu
  ·exact jE
  ·rintro k _ _ n⟨rfl,rfl,t⟩;rw[l]at n
   have i:a[k]?=some a[k]:=by simp[n]
   have u:k<b.length:=by omega
   have z:b[k]?=some b[k]:=by simp[u]
   have B:(a.map fun s=>[GV.v (sv s)])[k]?=some [GV.v (sv a[k])]:=by rw[b6,i];rfl
   have A:(b.map fun s=>[GV.v (sv s)])[k]?=some [GV.v (sv b[k])]:=by rw[b6,z];rfl
   generalize a[k]=x at *;generalize b[k]=y at *
   cases m:(x==y)with
   |true =>
    have Q:(x != y)=false:=by simp only[bne,m];rfl
    have o:(!(x==y))=false:=by rw[m];rfl
    refine zcY ?_;exact zcz
   |false =>
    have Q:(x != y)=true:=by simp only[bne,m];rfl
    have o:(!(x==y))=true:=by rw[m];rfl
    exact zfg
  ·rintro _ _⟨rfl,rfl,t⟩;rw[l]at t;rw[od W t];exact aC
 ·have w:(((a.map fun s=>[GV.v (sv s)]).length:Int) != ((b.map fun s=>[GV.v (sv s)]).length:Int))=true:=by rw[l,r];simpa using by omega
  rw[rL W];refine ah func130 ntmps130 ?_;exact ax
theorem xT(a b:List Int)(ha:a.length<=1099511627776)(C:b.length<=1099511627776):GF prog 41 [ints a,ints b] [] (.v (.bool (fv (fun x y=>x==y) a b))) []:=by
 have l:(a.map fun s=>[GV.v (ii s)]).length=a.length:=by simp
 have r:(b.map fun s=>[GV.v (ii s)]).length=b.length:=by simp
 by_cases W:a.length=b.length
 ·have w:(((a.map fun s=>[GV.v (ii s)]).length:Int) != ((b.map fun s=>[GV.v (ii s)]).length:Int))=false:=by rw[l,r,W];simp
  refine ah func41 ntmps41 ?_;refine GW.range (a.map fun s=>[GV.v (ii s)]).length (fun k q c=>q=[ints a,ints b,U,U,U,U,U,U,U,U,U,U,.v (ii ((a.map fun s=>[GV.v (ii s)]).length:Int)),.v (ii (k:Nat)),U,U,U,U,U,U,U,U,U,U,U,U]/\c=[]/\th (fun x y=>x==y) a b k) ?_ Z ?_ ?_ ?_
  ·exact zbu
  ·exact jE
  ·rintro k _ _ n⟨rfl,rfl,t⟩;rw[l]at n
   have i:a[k]?=some a[k]:=by simp[n]
   have u:k<b.length:=by omega
   have z:b[k]?=some b[k]:=by simp[u]
   have B:(a.map fun s=>[GV.v (ii s)])[k]?=some [GV.v (ii a[k])]:=by rw[b6,i];rfl
   have A:(b.map fun s=>[GV.v (ii s)])[k]?=some [GV.v (ii b[k])]:=by rw[b6,z];rfl
   generalize a[k]=x at *;generalize b[k]=y at *
   cases m:(x==y)with
   |true =>
    have Q:(x != y)=false:=by simp only[bne,m];rfl
    have o:(!(x==y))=false:=by rw[m];rfl
    refine zcY ?_;exact zcz
   |false =>
    have Q:(x != y)=true:=by simp only[bne,m];rfl
    have o:(!(x==y))=true:=by rw[m];rfl
    exact zfg
  ·rintro _ _⟨rfl,rfl,t⟩;rw[l]at t;rw[od W t];exact aC
 ·have w:(((a.map fun s=>[GV.v (ii s)]).length:Int) != ((b.map fun s=>[GV.v (ii s)]).length:Int))=true:=by rw[l,r];simpa using by omega
  rw[rL W];refine ah func41 ntmps41 ?_;exact ax
open Go.Xp (Nd)
open Go.Im (rA kL)
theorem P4(a b:Go.Sp.Fn)(ha:a.params.length<=1099511627776)(r:b.params.length<=1099511627776):GF prog 133 [.agg (aO a),.agg (aO b)] [] (.v (.bool (rA a b))) []:=by
 have e:=GR a.params b.params ha r;unfold rA aO
 cases z:(a.name==b.name)with
 |false =>
  refine ah func133 ntmps133 ?_;exact ax
 |true =>
  cases w:fv (fun x y=>x==y) a.params b.params with
  |false =>
   rw[w]at e;refine ah func133 ntmps133 ?_;exact zcx
  |true =>
   rw[w]at e;refine ah func133 ntmps133 ?_;exact zcx
theorem Kr(a b:Nd)(ha:a.au.length<=1099511627776)(r:b.au.length<=1099511627776):GF prog 135 [.agg (aU a),.agg (aU b)] [] (.v (.bool (kL a b))) []:=by
 have e:=xT a.au b.au ha r;unfold kL aU;generalize fv (fun x y=>x==y) a.au b.au=q at *
 cases z:(a.aj==b.aj)with
 |false =>
  exact zes
 |true =>
  cases w:(a.n==b.n)with
  |false =>
   exact zes
  |true =>
   cases I:(a.s==b.s)with
   |false =>
    exact zes
   |true =>
    refine ah func135 ntmps135 ?_;exact zcx
theorem F3(a b:List Go.Sp.Fn)(ha:a.length<=1099511627776)(C:b.length<=1099511627776)(c:∀x∈a,x.params.length<=1099511627776)(d:∀x∈b,x.params.length<=1099511627776) :
  GF prog 132 [.sl 3 (a.map aO),.sl 3 (b.map aO),.v (.func (.func 133) #[] #[])] [] (.v (.bool (fv rA a b))) []:=by
 have l:(a.map aO).length=a.length:=by simp
 have r:(b.map aO).length=b.length:=by simp
 by_cases W:a.length=b.length
 ·have A:(((a.map aO).length:Int) != ((b.map aO).length:Int))=false:=by rw[l,r,W];simp
  refine ah func132 ntmps132 ?_;refine GW.range (a.map aO).length (fun k w e=>w=U::.sl 3 (b.map aO)::.v (.func (.func 133) #[] #[])::zU 12 (.sl 3 (a.map aO)::.v (ii ((a.map aO).length:Int))::.v (ii (k:Nat))::zU 14 [])/\e=[]/\th rA a b k) ?_ Z ?_ ?_ ?_
  ·exact zbu
  ·exact jE
  ·rintro k _ _ o⟨rfl,rfl,s⟩;rw[l]at o
   have i:a[k]?=some a[k]:=by simp[o]
   have t:k<b.length:=by omega
   have z:b[k]?=some b[k]:=by simp[t]
   have B:(a.map aO)[k]?=some (aO a[k]):=by rw[b6,i];rfl
   have u:(b.map aO)[k]?=some (aO b[k]):=by rw[b6,z];rfl
   have q:=P4 a[k] b[k] (c _ (getElem_mem o)) (d _ (getElem_mem t));generalize a[k]=x at *;generalize b[k]=y at *;unfold aO at B u q
   cases m:rA x y with
   |true =>
    exact zb3
   |false =>
    rw[m]at q;rw[rM i z (p:=rA) m];refine X ?_;refine jW [] q ?_;exact aC
  ·rintro _ _⟨rfl,rfl,s⟩;rw[l]at s;rw[od W s];exact aC
 ·have A:(((a.map aO).length:Int) != ((b.map aO).length:Int))=true:=by rw[l,r];simpa using by omega
  rw[rL W];refine ah func132 ntmps132 ?_;exact ax
theorem F4(a b:List Nd)(ha:a.length<=1099511627776)(C:b.length<=1099511627776)(c:∀x∈a,x.au.length<=1099511627776)(d:∀x∈b,x.au.length<=1099511627776) :
  GF prog 134 [.sl 5 (a.map aU),.sl 5 (b.map aU),.v (.func (.func 135) #[] #[])] [] (.v (.bool (fv kL a b))) []:=by
 have l:(a.map aU).length=a.length:=by simp
 have r:(b.map aU).length=b.length:=by simp
 by_cases W:a.length=b.length
 ·have A:(((a.map aU).length:Int) != ((b.map aU).length:Int))=false:=by rw[l,r,W];simp
  refine ah func134 ntmps134 ?_;refine GW.range (a.map aU).length (fun k w e=>w=U::.sl 5 (b.map aU)::.v (.func (.func 135) #[] #[])::zU 12 (.sl 5 (a.map aU)::.v (ii ((a.map aU).length:Int))::.v (ii (k:Nat))::zU 14 [])/\e=[]/\th kL a b k) ?_ Z ?_ ?_ ?_
  ·exact zbu
  ·exact jE
  ·rintro k _ _ o⟨rfl,rfl,s⟩;rw[l]at o
   have i:a[k]?=some a[k]:=by simp[o]
   have t:k<b.length:=by omega
   have z:b[k]?=some b[k]:=by simp[t]
   have B:(a.map aU)[k]?=some (aU a[k]):=by rw[b6,i];rfl
   have u:(b.map aU)[k]?=some (aU b[k]):=by rw[b6,z];rfl
   have q:=Kr a[k] b[k] (c _ (getElem_mem o)) (d _ (getElem_mem t));generalize a[k]=x at *;generalize b[k]=y at *;unfold aU at B u q
   cases m:kL x y with
   |true =>
    exact zb3
   |false =>
    rw[m]at q;rw[rM i z (p:=kL) m];refine X ?_;refine jW [] q ?_;exact aC
  ·rintro _ _⟨rfl,rfl,s⟩;rw[l]at s;rw[od W s];exact aC
 ·have A:(((a.map aU).length:Int) != ((b.map aU).length:Int))=true:=by rw[l,r];simpa using by omega
  rw[rL W];refine ah func134 ntmps134 ?_;exact ax
end Go.Xg
namespace Go.Xg
open Go.RowKit Go.Xw Go.Proofs Tryz
open GV (U)
open Go.Xp (Ar)
open Go.Im (yM fv rL rM th nk od)
theorem Xy(w:World)(s s':ai)(n o:Int):(Op.equalIn 10000 79 (.agg #[sv s,ii n]) (.agg #[sv s',ii o])).run prog w=.ok ((s==s')&&(n==o)) w:=by
 have t:(prog.fieldsOf 79).toList=[(prog.fieldsOf 79)[0]!,(prog.fieldsOf 79)[1]!]:=by kernel_rfl
 have C:((prog.fieldsOf 79)[0]!).type=9:=by kernel_rfl
 have a1:((prog.fieldsOf 79)[1]!).type=3:=by kernel_rfl
 have E:((prog.fieldsOf 79)[0]!).offset=0:=by kernel_rfl
 have i:((prog.fieldsOf 79)[1]!).offset=1:=by kernel_rfl
 have J:((prog.fieldsOf 79)[0]!).name = "Name" := by kernel_rfl
 have N:((prog.fieldsOf 79)[1]!).name = "Size" := by kernel_rfl
 rw[show(10000:Nat)=9999+1 from rfl,run_equalIn_agg w 9999 _ _ _ (by kernel_rfl) (by kernel_rfl),t];generalize(prog.fieldsOf 79)[0]! = k at *;generalize(prog.fieldsOf 79)[1]! = dV at *
 have q:prog.underlying 9=some .string:=by kernel_rfl
 have M:prog.underlying 3=some (.int .i64):=by kernel_rfl
 have H:∀(a:ai)(b:Int)w,(part k.type #[sv a,ii b] k.offset).run prog w=.ok (sv a) w:=fun a b w=>by
  rw[C,E];rfl
 have l:∀(a:ai)(b:Int)w,(part dV.type #[sv a,ii b] dV.offset).run prog w=.ok (ii b) w:=fun a b w=>by
  rw[a1,i];rfl
 have c:∀w,(Op.equalIn 9999 k.type (sv s) (sv s')).run prog w=.ok (s==s') w:=fun w=>by
  rw[C,show(9999:Nat)=9998+1 from rfl];have:=run_equalIn_string (P:=prog) w 9998 9 ⟨s.toArray⟩ ⟨s'.toArray⟩ q;rw[show sv s=.string ⟨s.toArray⟩from rfl,show sv s'=.string ⟨s'.toArray⟩from rfl,this];simp[toList_mk]
 have F:∀w,(Op.equalIn 9999 dV.type (ii n) (ii o)).run prog w=.ok (n==o) w:=fun w=>by
  rw[a1,show(9999:Nat)=9998+1 from rfl];exact run_equalIn_int (P:=prog) w 9998 3 .i64 .i64 n o M
 have O:k.name ≠ "_" := by rw[J];decide
 have v:dV.name ≠ "_" := by rw[N];decide
 rw[Op.eqFields,ae O];simp only[Sem.run_bind,H,Result.andThen_ok,c]
 cases s==s' with
 |false=>simp
 |true =>
  simp only[Bool.not_true,Bool.false_eq_true,if_false,Bool.true_and];rw[Op.eqFields,ae v];simp only[Sem.run_bind,l,Result.andThen_ok,F]
  cases n==o with
  |false=>simp
  |true=>simp[Op.eqFields]
theorem V.V3{fr:am}{Γ:ap}{x y:Operand}{t':TypeId}{s s':ai}{n o:Int}(hx:bd fr x=.agg [.v (sv s),.v (ii n)])(m:bd fr y=.agg [.v (sv s'),.v (ii o)]) :
  V prog (.binOp .neq 79 x y t') fr Γ (.v (.bool (!((s==s')&&(n==o))))):=fun B K i w l R j=>by
 have k:∀{v:Value}{a b:Value},Rel K i v (.agg [.v a,.v b])->v=.agg #[a,b]:=fun{v a b}h=>by
  cases h with
  |agg q _ W t =>
   match q,W with
   |[u,e],_ =>
    have A:=Rel.fx (t 0 u (.v a) rfl rfl);have C:=Rel.fx (t 1 e (.v b) rfl rfl);rw[A,C]
 have z:=k (by rw[<-hx];exact j.ev x);have c:=k (by rw[<-m];exact j.ev y);refine⟨_,fun d H r E=>?_,.v _⟩;have F:=run_eqGuard_agg (P:=prog) w .neq 79 x y #[sv s,ii n] #[sv s',ii o] (by kernel_rfl);have Q:=run_neq_struct (P:=prog) w 79 #[sv s,ii n] #[sv s',ii o];rw[Xy,Result.andThen_ok]at Q;simp[execOp,z,c,F,Q]
attribute [local irreducible] GW GL GO V GC GA bh bm
theorem R8(a b:List Ar)(ha:a.length<=1099511627776)(C:b.length<=1099511627776):GF prog 131 [(.sl 2 (a.map fun s=>bc s)),(.sl 2 (b.map fun s=>bc s))] [] (.v (.bool (fv yM a b))) []:=by
 have l:(a.map fun s=>bc s).length=a.length:=by simp
 have r:(b.map fun s=>bc s).length=b.length:=by simp
 by_cases W:a.length=b.length
 ·have A:(((a.map fun s=>bc s).length:Int) != ((b.map fun s=>bc s).length:Int))=false:=by rw[l,r,W];simp
  refine ah func131 ntmps131 ?_;refine GW.range (a.map fun s=>bc s).length (fun k q c=>q=(.sl 2 (a.map fun s=>bc s))::(.sl 2 (b.map fun s=>bc s))::U::U::U::U::U::U::U::U::U::U::.v (ii ((a.map fun s=>bc s).length:Int))::.v (ii (k:Nat))::zU 12 []/\c=[]/\th yM a b k) ?_ Z ?_ ?_ ?_
  ·exact zbu
  ·exact jE
  ·rintro k _ _ n⟨rfl,rfl,t⟩;rw[l]at n
   have i:a[k]?=some a[k]:=by simp[n]
   have u:k<b.length:=by omega
   have z:b[k]?=some b[k]:=by simp[u]
   have B:(a.map fun s=>bc s)[k]?=some (bc a[k]):=by rw[b6,i];rfl
   have w:(b.map fun s=>bc s)[k]?=some (bc b[k]):=by rw[b6,z];rfl
   generalize a[k]=x at *;generalize b[k]=y at *;unfold bc at B w
   cases m:yM x y with
   |true =>
    have o:(!((x.name==y.name)&&(x.size==y.size)))=false:=by rw[show((x.name==y.name)&&(x.size==y.size))=yM x y from rfl,m];rfl
    refine zcY ?_;refine av ?_;apply OP
    ·exact rfl
    ·intro c;exact V.V3 rfl rfl
    refine kO ?_;exact zcz
   |false =>
    have o:(!((x.name==y.name)&&(x.size==y.size)))=true:=by rw[show((x.name==y.name)&&(x.size==y.size))=yM x y from rfl,m];rfl
    rw[rM i z (p:=yM) m];refine zcY ?_;refine av ?_;apply OP
    ·exact rfl
    ·intro c;exact V.V3 rfl rfl
    refine kO ?_;exact zbe
  ·rintro _ _⟨rfl,rfl,t⟩;rw[l]at t;rw[od W t];exact aC
 ·have A:(((a.map fun s=>bc s).length:Int) != ((b.map fun s=>bc s).length:Int))=true:=by rw[l,r];simpa using by omega
  rw[rL W];refine ah func131 ntmps131 ?_;exact ax
end Go.Xg
set_option maxHeartbeats 1000000
namespace Go.Xg
open Go.RowKit Go.Xw Go.Proofs Tryz Go.Sp Go.Im
open GV (U)
open Go.Xp (T one levels)
attribute [local irreducible] GW GL GO V GC GA bh bm
structure GS(f:Nat):Prop where
 expr:∀d p t q x,p.ok->d+f<=1099511627776->iE f (.expr d) p=some (t,q)->GF prog 354 [.loc 0 0,.v (ii (d:Nat))] [cI p x] (qT t) [cI q x]
 level:∀k d p t q x,p.ok->k<=9->d+f<=1099511627776->iE f (.level k d) p=some (t,q)->GF prog 372 [.loc 0 0,.v (ii (k:Nat)),.v (ii (d:Nat))] [cI p x] (qT t) [cI q x]
 operand:∀d p t q x,p.ok->d+f<=1099511627776->iE f (.operand d) p=some (t,q)->GF prog 379 [.loc 0 0,.v (ii (d:Nat))] [cI p x] (qT t) [cI q x]
 exprs:∀d p l q x,p.ok->d+f<=1099511627776->iA f d [] p=some (l,q)->GF prog 381 [.loc 0 0,.v (ii (d:Nat))] [cI p x] (.sl 1 (lE l)) [cI q x]
theorem F0:GF prog 315 [.v (ii 0),.v (ii 0),.v (sv []),.sl 1 []] [] (qT T.zero) []:=fD 0 0 [] [] [] rfl
theorem UR{f:Nat}(C:GS f)(d:Nat)(p:RS)(t:T)(q:RS)(x:PX)(R:p.ok)(hd:d+(f+1)<=1099511627776)(h:iE (f+1) (.expr d) p=some (t,q)) :
  GF prog 354 [.loc 0 0,.v (ii (d:Nat))] [cI p x] (qT t) [cI q x]:=by
 rw[iE]at h;have S:=vU p d x R
 by_cases o:(cK p d).code=0
 ·have E:((cK p d).code==0)=true:=by simpa using o
  rw[ae o]at h;rw[E]at S;rw[pr o]at h S;have W:=C.level 0 (d+1) p t q x R Z Z h;refine ah func354 ntmps354 ?_;refine D [0] S ?_;refine D [0] W ?_;exact ax
 ·have E:((cK p d).code==0)=false:=by simpa using o
  rw[ab o]at h;rw[E]at S;cases h;refine ah func354 ntmps354 ?_;refine D [0] S ?_;refine D [] F0 ?_;exact ax
theorem S4{f:Nat}(C:∀R,R<=f->GS R)(k d:Nat)(p:RS)(t:T)(q:RS)(x:PX)(e:p.ok)(I:k<=9)(hd:d+(f+1)<=1099511627776)(h:iE (f+1) (.level k d) p=some (t,q)) :
  GF prog 372 [.loc 0 0,.v (ii (k:Nat)),.v (ii (d:Nat))] [cI p x] (qT t) [cI q x]:=by
 rw[iE]at h
 by_cases u:k=9
 ·subst u;rw[ae rfl]at h;have ho:=(C f (a8 _)).operand d p t q x e Z h;refine ah func372 ntmps372 ?_;refine D [] tA ?_;refine D [0] ho ?_;exact ax
 ·rw[ab u]at h
  have S:((k:Int)==9)=false:=by simp;omega
  cases o:iE f (.level (k+1) d) p with
  |none=>rw[o]at h;cases h
  |some r =>
   have⟨out,p1⟩:=r;rw[o]at h;simp only at h;have O:=((ko f).1 _ _ _ _ e o).ok e;have W:=(C f (a8 _)).level (k+1) d p out p1 x e Z Z o;refine ah func372 ntmps372 ?_;refine D [] tA ?_;refine D [0] W ?_;refine GW.loop (fun z:Nat × T × RS=>z.1) (fun z fr Γ=>fr=.loc 0 0::.v (ii (k:Nat))::.v (ii (d:Nat))::U::U::U::U::qT z.2.1::zU 56 []/\Γ=[cI z.2.2 x]/\z.2.2.ok/\z.1<=f/\iE z.1 (.loop k d z.2.1) z.2.2=some (t,q)) (f,out,p1) ?_ ?_
   ·exact⟨_,_,Wk.bb aD,rfl,rfl,O,a8 _,h⟩
   ·clear h o W;rintro⟨g,out,p⟩_ _⟨rfl,rfl,e,G,h⟩;simp only at e G h
    cases g with
    |zero=>simp[iE]at h
    |succ g =>
    rw[iE]at h
    have I:k<9:=by omega
    have m:=rD p 0 x e aS
    by_cases B:p.code=0
    ·have F:(p.code==0)=true:=by simpa using B
     by_cases w:(tok p 0).aj=3
     ·have E:((tok p 0).aj==3)=true:=by simpa using w
      have HU:=Ij I;have c:=lQ (levels.getD k []) (tok p 0).s (BR k I)
      by_cases hit:(levels.getD k []).contains (tok p 0).s=true
      ·rw[ae ⟨B,w,hit⟩]at h;rw[hit]at c;have M:p.i<p.l.length:=rV (k:=0) Z;have wQ:=e.2
       cases A:iE g (.level (k+1) d) p.next with
       |none=>rw[A]at h;cases h
       |some r =>
        have⟨b,p2⟩:=r;rw[A]at h;simp only at h;have j:=(cS M).ok e;have Q:=((ko g).1 _ _ _ _ j A).ok j
        have J:=(C g Z).level (k+1) d p.next b p2 x j Z Z A
        generalize tok p 0=tk at *;have N:=fD 6 tk.at_ tk.s [out,b] [[qT out],[qT b]] (iP _);refine zeP ?_;refine X ?_;refine D [0] m ?_;refine aX (aI 0 9 (.a 9 (.a 10 (.a 11 (.q 12 .nil))))) ?_;refine av ?_;refine aN [0] J ?_;refine zaI ?_;refine aN [] N ?_;refine X ?_;exact⟨(g,one 6 tk.at_ tk.s [out,b],p2),⟨_,_,(Wk.cut (n:=1) (dT rfl) rfl).trans (Wk.bb aD),rfl,rfl,Q,by omega,h⟩,by simp⟩
      ·have hit:(levels.getD k []).contains (tok p 0).s=false:=by simpa using hit
       rw[ab (by rw[hit];simp)]at h
       obtain⟨rfl,rfl⟩:out=t/\p=q:=by simpa using h
       rw[hit]at c;generalize tok p 0=tk at *;refine zeP ?_;exact zc7
     ·have E:((tok p 0).aj==3)=false:=by simpa using w
      rw[ab (fun H=>w H.2.1)]at h
      obtain⟨rfl,rfl⟩:out=t/\p=q:=by simpa using h
      generalize tok p 0=tk at *;refine zaE ?_;refine av ?_;refine cw [0] m ?_;exact zc7
    ·have F:(p.code==0)=false:=by simpa using B
     rw[ab (fun H=>B H.1)]at h
     obtain⟨rfl,rfl⟩:out=t/\p=q:=by simpa using h
     refine zaE ?_;refine bA ?_;refine jx ?_;exact aC
theorem SG{f:Nat}(C:∀H,H<=f->GS H)(d:Nat)(p:RS)(l:List T)(q:RS)(x:PX)(R:p.ok)(hd:d+(f+1)<=1099511627776)(h:iA (f+1) d [] p=some (l,q)) :
  GF prog 381 [.loc 0 0,.v (ii (d:Nat))] [cI p x] (.sl 1 (lE l)) [cI q x]:=by
 refine ah func381 ntmps381 ?_;refine GW.wk (Wk.BZ (t:=5) (a:=none) (c:=0) 132 1 rfl) ?_;refine GW.loop (fun z:Nat × List T × RS=>z.1) (fun z I m=>∃n j,I=.loc 0 0::.v (ii (d:Nat))::U::U::U::.vec 1 n::zU 26 []/\m=[cI z.2.2 x,.vec 132 1 0 j]/\j.length=n/\j=lE z.2.1/\n+z.1<=f+1/\z.2.2.ok/\iA z.1 d z.2.1 z.2.2=some (l,q)) (f+1,[],p) ?_ ?_
 ·exact⟨_,_,Wk.bb aD,0,[],rfl,rfl,rfl,rfl,by simp,R,h⟩
 ·clear h R;rintro⟨g,s,p⟩_ _⟨n,j,rfl,rfl,Q,E,b,R,h⟩;simp only at E b R h
  cases g with
  |zero=>simp[iA]at h
  |succ g =>
  rw[iA]at h;have M:=lj p 0 [41] x R aS
  have G:s.length=n:=by rw[<-Q,E,nM]
  by_cases o:p.code=0
  ·have F:(p.code==0)=true:=by simpa using o
   cases A:is p 0 [41]with
   |true =>
    rw[A]at M;rw[ab (fun B=>by have:=B.2;rw[A]at this;cases this)]at h
    obtain⟨rfl,rfl⟩:s=l/\want p [41]=q:=by simpa using h
    have e:=fQ p [41] x R;subst E;refine X ?_;refine D [0] M ?_;refine jx ?_;refine X ?_;exact zdu
   |false =>
    rw[A]at M;rw[ae ⟨o,A⟩]at h
    by_cases N:s.length=0
    ·rw[ae N]at h
     have O:decide ((0:Int)<(n:Int))=false:=by simpa using by omega
     cases u:iE g (.expr d) p with
     |none=>rw[u]at h;cases h
     |some r =>
      have⟨a,k⟩:=r;rw[u]at h;simp only at h;have w:=((ko g).1 _ _ _ _ R u).ok R;have i:=(C g Z).expr d p a k x R Z u;refine X ?_;refine D [0] M ?_;exact zbW
    ·rw[ab N]at h
     have O:decide ((0:Int)<(n:Int))=true:=by simpa using by omega
     have J:=(de R [44]).ok R;have e:=fQ p [44] x R
     cases u:iE g (.expr d) (want p [44])with
     |none=>rw[u]at h;cases h
     |some r =>
      have⟨a,k⟩:=r;rw[u]at h;simp only at h;have w:=((ko g).1 _ _ _ _ J u).ok J;have i:=(C g Z).expr d _ a k x J Z u;refine X ?_;refine D [0] M ?_;refine zad ?_;refine D [0] e ?_;exact zbW
  ·have F:(p.code==0)=false:=by simpa using o
   rw[ab (fun B=>o B.1)]at h
   obtain⟨rfl,rfl⟩:s=l/\want p [41]=q:=by simpa using h
   have e:=fQ p [41] x R;subst E;refine zbG ?_;exact zdu
theorem Ni{f:Nat}(C:GS f)(d:Nat)(p:RS)(t:T)(q:RS)(x:PX)(w:p.ok)(hd:d+(f+1)<=1099511627776)(h:iE (f+1) (.operand d) p=some (t,q)) :
  GF prog 379 [.loc 0 0,.v (ii (d:Nat))] [cI p x] (qT t) [cI q x]:=by
 rw[iE]at h;have m:=vU p d x w;have M:=rD p 0 x w aS
 by_cases hc:(cK p d).code=0
 case neg =>
  have O:((cK p d).code==0)=false:=by simpa using hc
  rw[ab hc]at h;rw[O]at m;cases h;refine ah func379 ntmps379 ?_;refine D [0] M ?_;refine D [0] m ?_;refine D [] F0 ?_;exact ax
 case pos =>
 have O:((cK p d).code==0)=true:=by simpa using hc
 rw[ae hc]at h;rw[O,pr hc]at m;clear hc O;have A:=lj p 0 [45] x w aS;have J:=lj p 0 [33] x w aS;have N:=lj p 0 [126] x w aS;have wQ:=w.2;have Ra:=w.1
 cases B:is p 0 [45]with
 |true =>
  rw[B]at A;rw[ae (.inl B)]at h;have n:p.i<p.l.length:=is_lt (k:=0) B;have c:=(cS n).ok w
  cases j:iE f (.operand (d+1)) p.next with
  |none=>exact ze3
  |some r =>
   have⟨b,R⟩:=r;rw[j]at h;cases h
   have o:=C.operand (d+1) p.next b _ x c Z j
   generalize tok p 0=tk at *;have e:=fD 5 tk.at_ tk.s [b] [[qT b]] (iP _);refine ah func379 ntmps379 ?_;refine D [0] M ?_;refine D [0] m ?_;refine D [0] A ?_;exact zaY
 |false =>
 rw[B]at A
 cases E:is p 0 [33]with
 |true =>
  rw[E]at J;rw[ae (.inr (.inl E))]at h;have n:p.i<p.l.length:=is_lt (k:=0) E;have c:=(cS n).ok w
  cases j:iE f (.operand (d+1)) p.next with
  |none=>exact ze3
  |some r =>
   have⟨b,R⟩:=r;rw[j]at h;cases h
   have o:=C.operand (d+1) p.next b _ x c Z j
   generalize tok p 0=tk at *;have e:=fD 5 tk.at_ tk.s [b] [[qT b]] (iP _);refine ah func379 ntmps379 ?_;refine D [0] M ?_;refine D [0] m ?_;refine D [0] A ?_;refine D [0] J ?_;exact zaY
 |false =>
 rw[E]at J
 cases F:is p 0 [126]with
 |true =>
  rw[F]at N;rw[ae (.inr (.inr F))]at h;have n:p.i<p.l.length:=is_lt (k:=0) F;have c:=(cS n).ok w
  cases j:iE f (.operand (d+1)) p.next with
  |none=>exact ze3
  |some r =>
   have⟨b,R⟩:=r;rw[j]at h;cases h
   have o:=C.operand (d+1) p.next b _ x c Z j
   generalize tok p 0=tk at *;have e:=fD 5 tk.at_ tk.s [b] [[qT b]] (iP _);refine ah func379 ntmps379 ?_;refine zar ?_;exact zaY
 |false =>
 rw[F]at N;rw[ab (by rw[B,E,F];decide)]at h
 by_cases hk:(tok p 0).aj=1
 case pos =>
  rw[ae hk]at h;have n:p.i<p.l.length:=rV (k:=0) Z
  have HS:((tok p 0).aj==1)=true:=by simpa using hk
  cases h;generalize tok p 0=tk at *;have e:=M6 1 tk.at_ [] [];refine ah func379 ntmps379 ?_;refine zar ?_;refine D [] e ?_;refine GW.wk (Wk.freeze (i:=2) rfl rfl rfl (dT rfl)) ?_;exact ax
 case neg =>
 rw[ab hk]at h
 have HS:((tok p 0).aj==1)=false:=by simpa using hk
 have S:=lj p 0 [40] x w aS
 cases G:is p 0 [40]with
 |true =>
  rw[G]at S;rw[ae G]at h;have n:p.i<p.l.length:=is_lt (k:=0) G;have c:=(cS n).ok w
  cases j:iE f (.expr (d+1)) p.next with
  |none=>exact ze3
  |some r =>
   have⟨b,R⟩:=r;rw[j]at h;cases h;have W:=((ko f).1 _ _ _ _ c j).ok c
   have o:=C.expr (d+1) p.next _ R x c Z j
   have hw:=fQ R [41] x W;generalize tok p 0=tk at *;refine ah func379 ntmps379 ?_;refine zar ?_;refine D [0] S ?_;refine D [0] o ?_;refine zcm ?_;exact ax
 |false =>
 rw[G]at S;rw[ab (by rw[G];decide)]at h;have hn:=qZ p x w;have c:=(jr w).ok w
 by_cases Q:(bZ p).code=0
 case neg =>
  rw[ab Q]at h
  have Z6:((bZ p).code != 0)=true:=by simpa using Q
  cases h;generalize tok p 0=tk at *;generalize bZ p=z at *;have e:=fD 2 tk.at_ tk.s [] [] rfl;refine ah func379 ntmps379 ?_;refine zar ?_;refine D [0] S ?_;refine D [0] hn ?_;exact zcx
 case pos =>
 rw[ae Q]at h
 have Z6:((bZ p).code != 0)=false:=by simpa using Q
 generalize bZ p=z at *;generalize tok p 0=tk at *;have h5:=lj z 0 [91] x c aS;have aa9:=c.2;have aa8:=c.1
 cases H:is z 0 [91]with
 |true =>
  rw[H]at h5;rw[ae H]at h;have n:z.i<z.l.length:=is_lt (k:=0) H;have u:=(cS n).ok c
  cases j:iE f (.expr (d+1)) z.next with
  |none=>exact ze3
  |some r =>
   have⟨b,R⟩:=r;rw[j]at h;cases h;have W:=((ko f).1 _ _ _ _ u j).ok u
   have o:=C.expr (d+1) z.next b R x u Z j
   have hw:=fQ R [93] x W;have e:=fD 3 tk.at_ tk.s [b] [[qT b]] (iP _);refine ah func379 ntmps379 ?_;refine zdr ?_;refine D [0] o ?_;refine zcm ?_;refine zad ?_;exact zcx
 |false =>
 rw[H]at h5;rw[ab (by rw[H];decide)]at h;have h6:=lj z 0 [40] x c aS
 cases I:is z 0 [40]with
 |true =>
  rw[I]at h6;rw[ae I]at h;have n:z.i<z.l.length:=is_lt (k:=0) I;have u:=(cS n).ok c
  cases j:iA f (d+1) [] z.next with
  |none=>exact ze3
  |some r =>
   have⟨b,R⟩:=r;rw[j]at h;cases h
   have o:=C.exprs (d+1) z.next b _ x u Z j
   have e:=fD 4 tk.at_ tk.s b (lE b) rfl;refine ah func379 ntmps379 ?_;refine zdr ?_;refine D [0] h6 ?_;refine aX (aI 0 6 (.a 6 (.a 7 (.q 8 .nil)))) ?_;refine av ?_;refine aN [0] o ?_;refine aN [] e ?_;exact aC
 |false =>
  rw[I]at h6;rw[ab (by rw[I];decide)]at h;cases h;have e:=fD 2 tk.at_ tk.s [] [] rfl;refine ah func379 ntmps379 ?_;refine zdr ?_;refine D [0] h6 ?_;exact zcx
theorem Zd(f:Nat):GS f:=by
 induction f using Nat.strongRecOn with
 |_ f s =>
  cases f with
  |zero=>exact⟨fun d p t q x _ _ h=>by simp[iE]at h,fun k d p t q x _ _ _ h=>by simp[iE]at h,fun d p t q x _ _ h=>by simp[iE]at h,fun d p l q x _ _ h=>by simp[iA]at h⟩
  |succ f =>
   have C:=s f (Nat.lt_succ_self f)
   have r:∀H,H<=f->GS H:=fun H h=>s H (Nat.lt_succ_of_le h)
   exact⟨fun d p t q x R n h=>UR C d p t q x R n h,fun k d p t q x R G n h=>S4 r k d p t q x R G n h,fun d p t q x R n h=>Ni C d p t q x R n h,fun d p l q x R n h=>SG r d p l q x R n h⟩
end Go.Xg
namespace Go.Im
open Go.Xp Go.Sp
def Wy(f d:Nat)(p:RS):Option (T × RS) :=
 if(tok p 0).aj=2/\is p 1 [61]=true then match iE f (.expr (d+1)) (want (bZ p) [61])with
  |none=>none
  |some (e,q)=>some (one 7 (tok p 0).at_ (tok p 0).s [e],want q [59])
 else match iE f (.expr (d+1)) p with
  |none=>none
  |some (e,q) =>
   if wE p q e then match e.au,iE f (.expr (d+1)) (want q [61])with
    |a::_,some (v,q)=>some (one 8 (tok p 0).at_ e.n.s [a,v],want q [59])
    |_,_=>none
   else some (one 12 (tok p 0).at_ [] [e],want q [59])
end Go.Im
namespace Go.Xg
open Go.RowKit Go.Xw Go.Proofs Tryz Go.Sp Go.Im
open GV (U)
open Go.Xp (T one)
attribute [local irreducible] GW GL GO V GC GA bh bm
theorem Qd{f:Nat}(d:Nat)(p:RS)(t:T)(q:RS)(x:PX)(I:p.ok)(hd:d+1+f<=1099511627776)(h:Wy f d p=some (t,q)) :
  GF prog 355 [.loc 0 0,.v (ii (d:Nat))] [cI p x] (qT t) [cI q x]:=by
 unfold Wy at h;have C:=Zd f;have ht:=rD p 0 x I aS;have hi:=lj p 1 [61] x I aS
 have B:∀kk,((tok p 0).aj==2)=kk->(kk=true->is p 1 [61]=false)->GF prog 355 [.loc 0 0,.v (ii (d:Nat))] [cI p x] (qT t) [cI q x]:=by
  intro kk J Q
  rw[ab (fun hh=>by
   have h1:kk=true:=by rw[<-J];simpa using hh.1
   have h2:=Q h1
   rw[hh.2]at h2;cases h2)]at h
  cases G:iE f (.expr (d+1)) p with
  |none=>rw[G]at h;cases h
  |some r =>
   have⟨e,b⟩:=r;rw[G]at h;simp only at h;have c:=((ko f).1 _ _ _ _ I G).ok I;have abc:=c.1;have abd:=c.2;have A:=C.expr (d+1) p e b x I Z G;have H:=lj b 0 [61] x c aS
   have z:e.n.aj=3->b.code=0->∃j,b.l[b.i-1]?=some j/\uv b=j.s/\1<=b.i:=by
    intro _ hc;have h1:=VH f _ _ _ _ I G hc (fun k d out h=>by cases h);have h2:=c.1
    have oo:b.i-1<b.l.length:=by omega
    exact⟨b.l[b.i-1],by simp[oo],by unfold uv;simp[oo],by omega⟩
   by_cases u:wE p b e
   ·rw[ae u]at h;have S:=u;have⟨E,F,M,N,s5,s6⟩:=S;have⟨j,a1,O,a3⟩:=z E F
    have Vm:kk=true:=by rw[<-J];simpa using s5
    subst Vm;have m:=Q rfl;rw[m]at hi;rw[s6]at H
    match YU:e.au,hv:iE f (.expr (d+1)) (want b [61]),h with
    |a::rk,some (v,q2),h =>
     cases h;have o:=(de c [61]).ok c;have HX:=((ko f).1 _ _ _ _ o hv).ok o;have hw:=fQ b [61] x c;have Z7:=C.expr (d+1) _ v q2 x o Z hv;have W:=fQ q2 [59] x HX;have hr:=kX a1;have Rb:(lE e.au)[0]?=some [qT a]:=AX (by rw[YU];rfl);have hr3:(lE (a::rk))[0]?=some [qT a]:=AX rfl
     have b1:(e.n.aj==3)=true:=by simpa using E
     have b2:(b.code==0)=true:=by simpa using F
     have b3:(j.s==[93])=true:=by rw[<-O];simpa using M
     have b4:(e.n.at_==(tok p 0).at_)=true:=by simpa using N
     have w:=fD 8 (tok p 0).at_ e.n.s [a,v] [[qT a],[qT v]] (iP _);generalize tok p 0=tk at *;refine ah func355 ntmps355 ?_;refine D [0] ht ?_;refine D [0] hi ?_;refine D [0] A ?_;refine aX (aI 0 45 (.a 45 (.q 46 .nil))) ?_;refine av ?_;refine cw [0] H ?_;refine X ?_;refine zcm ?_;refine D [0] Z7 ?_;refine zad ?_;refine D [0] W ?_;refine aX (aI 0 14 (.a 14 (.a 15 (.q 16 .nil)))) ?_;refine zdT ?_;refine aN [] w ?_;exact aC
    |[],_,h=>simp at h
    |_::_,none,h=>simp at h
   ·rw[ab u]at h;cases h;have hw:=fQ b [59] x c;have w:=fD 12 (tok p 0).at_ [] [e] [[qT e]] (iP _)
    cases kk with
    |true =>
     have m:=Q rfl;rw[m]at hi;refine ah func355 ntmps355 ?_;refine D [0] ht ?_;refine D [0] hi ?_;refine D [0] A ?_;refine GW.join (fun fr Γ=>fr=.loc 0 0::.v (ii (d:Nat))::U::U::U::.loc 1 0::U::U::qT e::zU 78 (.v (.bool false)::zU 34 [])/\Γ=[cI b x,.box 205 (db (tok p 0))]) ?_ ?_
     ·by_cases E:e.n.aj=3
      ·have b1:(e.n.aj==3)=true:=by simpa using E
       by_cases F:b.code=0
       ·have b2:(b.code==0)=true:=by simpa using F
        have⟨j,a1,O,a3⟩:=z E F;have hr:=kX a1
        by_cases M:uv b=[93]
        ·have b3:(j.s==[93])=true:=by rw[<-O];simpa using M
         by_cases N:e.n.at_=(tok p 0).at_
         ·have b4:(e.n.at_==(tok p 0).at_)=true:=by simpa using N
          have s6:is b 0 [61]=false:=by
           cases h6:is b 0 [61]with
           |false=>rfl
           |true=>exact absurd ⟨E,F,M,N,by simpa using J,h6⟩ u
          rw[s6]at H;generalize tok p 0=tk at *;refine aX (aI 0 45 (.a 45 (.q 46 .nil))) ?_;refine av ?_;refine cw [0] H ?_;exact iF
         ·have b4:(e.n.at_==(tok p 0).at_)=false:=by simpa using N
          exact zaf
        ·have b3:(j.s==[93])=false:=by rw[<-O];simpa using M
         exact zaf
       ·have b2:(b.code==0)=false:=by simpa using F
        exact zaf
      ·have b1:(e.n.aj==3)=false:=by simpa using E
       exact zaf
     ·rintro _ _⟨rfl,rfl⟩;exact zde
    |false =>
     refine ah func355 ntmps355 ?_;refine D [0] ht ?_;refine D [0] A ?_;refine GW.join (fun fr Γ=>fr=.loc 0 0::.v (ii (d:Nat))::U::U::U::.loc 1 0::U::U::qT e::zU 78 (.v (.bool false)::zU 34 [])/\Γ=[cI b x,.box 205 (db (tok p 0))]) ?_ ?_
     ·by_cases E:e.n.aj=3
      ·have b1:(e.n.aj==3)=true:=by simpa using E
       by_cases F:b.code=0
       ·have b2:(b.code==0)=true:=by simpa using F
        have⟨j,a1,O,a3⟩:=z E F;have hr:=kX a1
        by_cases M:uv b=[93]
        ·have b3:(j.s==[93])=true:=by rw[<-O];simpa using M
         by_cases N:e.n.at_=(tok p 0).at_
         ·have b4:(e.n.at_==(tok p 0).at_)=true:=by simpa using N
          exact zaf
         ·have b4:(e.n.at_==(tok p 0).at_)=false:=by simpa using N
          exact zaf
        ·have b3:(j.s==[93])=false:=by rw[<-O];simpa using M
         exact zaf
       ·have b2:(b.code==0)=false:=by simpa using F
        exact zaf
      ·have b1:(e.n.aj==3)=false:=by simpa using E
       exact zaf
     ·rintro _ _⟨rfl,rfl⟩;exact zde
 by_cases J:(tok p 0).aj=2
 ·cases m:is p 1 [61]with
  |true =>
   clear B;rw[ae ⟨J,m⟩]at h;rw[m]at hi
   have HS:((tok p 0).aj==2)=true:=by simpa using J
   have hn:=qZ p x I;have R:=(jr I).ok I;have hw:=fQ (bZ p) [61] x R;have o:=(de R [61]).ok R
   cases G:iE f (.expr (d+1)) (want (bZ p) [61])with
   |none=>rw[G]at h;cases h
   |some r =>
    have⟨e,b⟩:=r;rw[G]at h;cases h;have c:=((ko f).1 _ _ _ _ o G).ok o;have A:=C.expr (d+1) _ e b x o Z G;have W:=fQ b [59] x c;have w:=fD 7 (tok p 0).at_ (tok p 0).s [e] [[qT e]] (iP _);generalize tok p 0=tk at *;refine ah func355 ntmps355 ?_;refine D [0] ht ?_;refine D [0] hi ?_;refine D [0] hn ?_;refine zcm ?_;refine D [0] A ?_;refine zad ?_;refine D [0] W ?_;refine zad ?_;refine D [] w ?_;exact ax
  |false=>exact B true zfH (fun _=>m)
 ·exact B false zfH (fun h=>by cases h)
open Go.Xp (lX gb iz gz gK)
theorem M5(k a:Int)(s:ai):GF prog 315 [.v (ii k),.v (ii a),.v (sv s),.v (.slice none 0 0)] [] (.loc 0 0) [.box 191 [.v (ii k),.v (ii a),.v (ii 0),.v (sv s),.v (.slice none 0 0),.v (.slice none 0 0)]]:=by
 refine ah func315 ntmps315 ?_;refine GW.wk (Wk.cells 0 rfl (ds:=[.v (ii k),.v (ii a),.v (ii 0),.v (sv s),.v (.slice none 0 0),.v (.slice none 0 0)]) gU) ?_;exact zec
structure QD(f:Nat):Prop where
 block:∀d p t q x,p.ok->d+3+f<=1099511627776->iS f (.block d) p=some (t,q)->GF prog 258 [.loc 0 0,.v (ii (d:Nat))] [cI p x] (qT t) [cI q x]
 stmt:∀d p t q x,p.ok->d+3+f<=1099511627776->iS f (.stmt d) p=some (t,q)->GF prog 317 [.loc 0 0,.v (ii (d:Nat))] [cI p x] (qT t) [cI q x]
theorem Si{f:Nat}(C:∀R,R<=f->QD R)(d:Nat)(p:RS)(t:T)(q:RS)(x:PX)(j:p.ok)(hd:d+3+(f+1)<=1099511627776)(h:iS (f+1) (.block d) p=some (t,q)) :
  GF prog 258 [.loc 0 0,.v (ii (d:Nat))] [cI p x] (qT t) [cI q x]:=by
 rw[iS]at h;have m:=vU p d x j;have O:=rD p 0 x j aS;have w:=M5 14 (tok p 0).at_ []
 by_cases k:(cK p d).code=0
 case neg =>
  have e:((cK p d).code==0)=false:=by simpa using k
  rw[ab k]at h;rw[e]at m;cases h;generalize tok p 0=tk at *;refine ah func258 ntmps258 ?_;refine D [0] O ?_;refine D [] w ?_;refine D [0] m ?_;refine GW.wk (Wk.cells 1 rfl (ds:=[.v (ii 14),.v (ii tk.at_),.v (ii 0),.v (sv []),.v (.slice none 0 0),.sl 1 []]) gU) ?_;refine GW.wk (Wk.freeze (i:=1) rfl rfl rfl (dT rfl)) ?_;exact ax
 case pos =>
 have e:((cK p d).code==0)=true:=by simpa using k
 rw[ae k]at h;rw[e,pr k]at m;clear k e;have A:=(de j [123]).ok j;have u:=fQ p [123] x j
 cases E:iB f (d+1) [] (want p [123])with
 |none=>rw[E]at h;cases h
 |some r =>
  have⟨l,Q⟩:=r;rw[E]at h;cases h;generalize tok p 0=tk at *;refine ah func258 ntmps258 ?_;refine D [0] O ?_;refine D [] w ?_;refine D [0] m ?_;refine zad ?_;refine D [0] u ?_;refine GW.wk (Wk.zE (i:=1) (o:=5) 132 1 rfl rfl) ?_;refine GW.loop (fun z:Nat × List T × RS=>z.1) (fun z W Γ=>∃n c,W=.loc 0 0::.v (ii (d:Nat))::U::U::U::.loc 1 0::zU 39 []/\Γ=[cI z.2.2 x,.box 191 [.v (ii 14),.v (ii tk.at_),.v (ii 0),.v (sv []),.v (.slice none 0 0),.vec 2 n],.vec 132 1 0 c]/\c.length=n/\c=lE z.2.1/\n+z.1<=f/\z.2.2.ok/\iB z.1 (d+1) z.2.1 z.2.2=some (l,Q)) (f,[],want p [123]) ?_ ?_
  ·exact⟨_,_,Wk.bb aD,0,[],rfl,rfl,rfl,rfl,by simp,A,E⟩
  ·clear E A u m O;rintro⟨g,s,p⟩_ _⟨n,c,rfl,rfl,I,b,J,j,h⟩;simp only at b J j h
   cases g with
   |zero=>simp[iB]at h
   |succ g =>
   rw[iB]at h;have F:=lj p 0 [125] x j aS
   by_cases k:p.code=0
   ·have e:(p.code==0)=true:=by simpa using k
    cases G:is p 0 [125]with
    |true =>
     rw[G]at F;rw[ab (fun H=>by have:=H.2;rw[G]at this;cases this)]at h
     obtain⟨rfl,rfl⟩:s=l/\p=Q:=by simpa using h
     have u:=fQ p [125] x j;subst b;refine X ?_;refine D [0] F ?_;refine jx ?_;refine X ?_;exact zbV
    |false =>
     rw[G]at F;rw[ae ⟨k,G⟩]at h
     cases B:iS g (.stmt (d+1)) p with
     |none=>rw[B]at h;cases h
     |some r =>
      have⟨a,S⟩:=r;rw[B]at h;simp only at h;have M:=((DB g).1 _ _ _ _ j B).ok j;have N:=(C g Z).stmt (d+1) p a S x j Z B;refine X ?_;refine D [0] F ?_;refine aX (aI 0 8 (.a 8 (.a 9 (.a 10 (.q 11 (.q 12 (.a 13 .nil))))))) ?_;refine av ?_;refine aN [0] N ?_;refine zaI ?_;refine qk ?_;refine bA ?_;exact⟨(g,s++[a],S),⟨_,_,Wk.bb aD,_,_,rfl,rfl,by simp[I],by rw[vo,b];rfl,by show n+1+g<=f;omega,M,h⟩,by simp⟩
   ·have e:(p.code==0)=false:=by simpa using k
    rw[ab (fun H=>k H.1)]at h
    obtain⟨rfl,rfl⟩:s=l/\p=Q:=by simpa using h
    have u:=fQ p [125] x j;subst b;refine zbG ?_;exact zbV
theorem WE{f:Nat}(C:QD f)(d:Nat)(p:RS)(t:T)(q:RS)(x:PX)(J:p.ok)(hd:d+3+(f+1)<=1099511627776)(h:iS (f+1) (.stmt d) p=some (t,q)) :
  GF prog 317 [.loc 0 0,.v (ii (d:Nat))] [cI p x] (qT t) [cI q x]:=by
 rw[iS]at h;have E:=Zd f;have m:=vU p d x J;have ht:=rD p 0 x J aS
 by_cases hc:(cK p d).code=0
 case neg =>
  have Al:((cK p d).code==0)=false:=by simpa using hc
  rw[ab hc]at h;rw[Al]at m;cases h;refine ah func317 ntmps317 ?_;refine D [0] ht ?_;refine D [0] m ?_;refine D [] F0 ?_;exact ax
 case pos =>
 have Al:((cK p d).code==0)=true:=by simpa using hc
 rw[ae hc]at h;rw[Al,pr hc]at m;clear hc Al;have wQ:=J.2;have Ra:=J.1;have W:=lj p 0 lX x J aS;have I:=lj p 0 gb x J aS;have h3:=lj p 0 gz x J aS;have h4:=lj p 0 gK x J aS
 cases O:is p 0 lX with
 |true =>
  rw[O]at W;rw[ae O]at h;have N:p.i<p.l.length:=is_lt (k:=0) O;have j:=(cS N).ok J
  have hn:=qZ p.next x j
  have Vs:=(jr j).ok j;have hw:=fQ _ [61] x Vs;have z:=(de Vs [61]).ok Vs
  cases G:iE f (.expr (d+1)) (want (bZ p.next) [61])with
  |none=>rw[G]at h;cases h
  |some r =>
   have⟨e,q1⟩:=r;rw[G]at h;cases h;have A:=((ko f).1 _ _ _ _ z G).ok z;have u:=E.expr (d+1) _ e q1 x z Z G;have w:=fQ q1 [59] x A;have n:=fD 13 (tok p 0).at_ (tok p.next 0).s [e] [[qT e]] (iP _);generalize tok p 0=tk at *
   generalize tok p.next 0=tn at *
   refine ah func317 ntmps317 ?_;refine D [0] ht ?_;refine D [0] m ?_;refine D [0] W ?_;refine D [0] hn ?_;refine zcm ?_;exact zdj
 |false =>
 rw[O]at W;rw[ab (by rw[O];decide)]at h
 have R:∀bi bw:Bool,is p 0 gb=bi->is p 0 gz=bw->(bi=true\/bw=true)->GF prog 317 [.loc 0 0,.v (ii (d:Nat))] [cI p x] (qT t) [cI q x]:=by
  intro bi bw H YN xj
  have M:is p 0 gb=true\/is p 0 gz=true:=by rw[H,YN];exact xj
  have N:p.i<p.l.length:=by rcases M with hh|hh<;>exact is_lt (k:=0) hh
  rw[ae M]at h;have j:=(cS N).ok J
  have hw:=fQ p.next [40] x j
  have z:=(de j [40]).ok j
  cases G:iE f (.expr (d+1)) (want p.next [40])with
  |none=>rw[G]at h;cases h
  |some r =>
  have⟨c,q1⟩:=r;rw[G]at h;simp only at h;have A:=((ko f).1 _ _ _ _ z G).ok z;have u:=E.expr (d+1) _ c q1 x z Z G;have w:=fQ q1 [41] x A;have Vu:=(de A [41]).ok A
  cases hb:iS f (.block (d+1)) (want q1 [41])with
  |none=>rw[hb]at h;cases h
  |some r =>
  have⟨b,S⟩:=r;rw[hb]at h;simp only at h;have HX:=((DB f).1 _ _ _ _ Vu hb).ok Vu;have abf:=HX.2;have abe:=HX.1;have F:=C.block (d+1) _ b S x Vu Z hb;have rN:=lj S 0 iz x HX aS;rw[H]at I;rw[YN]at h3
  cases bi with
  |true =>
   have B:∀(cc ee:Bool),(S.code==0)=cc->is S 0 iz=ee->(cc=false\/ee=false)->GF prog 317 [.loc 0 0,.v (ii (d:Nat))] [cI p x] (qT t) [cI q x]:=by
    intro cc ee Vd o Vp
    rw[ab (fun hh=>by
     rcases Vp with h0|h0
     ·rw[h0]at Vd;have:=hh.2.1;simp[this]at Vd
     ·rw[h0]at o;rw[o]at hh;exact absurd hh.2.2 aS),ae H]at h
    cases h;rw[o]at rN;have n:=fD 9 (tok p 0).at_ [] [c,b] [[qT c],[qT b]] (iP _);generalize tok p 0=tk at *
    cases cc with
    |true =>
     cases ee with
     |true=>simp at Vp
     |false =>
      refine ah func317 ntmps317 ?_;refine zaO ?_;refine D [0] I ?_;refine zcm ?_;refine D [0] u ?_;refine zfd ?_;exact zdo
    |false =>
     refine ah func317 ntmps317 ?_;refine zaO ?_;exact zbb
   by_cases yR:S.code=0
   ·cases o:is S 0 iz with
    |true =>
     clear B;rw[ae ⟨H,yR,o⟩]at h;rw[o]at rN
     have Vd:(S.code==0)=true:=by simpa using yR
     have Ez:S.i<S.l.length:=is_lt (k:=0) o;have hqn:=(cS Ez).ok HX
     cases ug:iS f (.block (d+1)) S.next with
     |none=>rw[ug]at h;cases h
     |some r =>
      have⟨b2,q3⟩:=r;rw[ug]at h;cases h;have XF:=C.block (d+1) _ b2 _ x hqn Z ug;have n:=fD 9 (tok p 0).at_ [] [c,b,b2] [[qT c],[qT b],[qT b2]] (iP _);generalize tok p 0=tk at *;refine ah func317 ntmps317 ?_;refine zaO ?_;refine D [0] I ?_;refine zcm ?_;refine D [0] u ?_;refine zfd ?_;refine D [0] XF ?_;refine zbD ?_;exact zdo
    |false=>exact B true false (by simpa using yR) o (.inr rfl)
   ·exact B false _ (by simpa using yR) rfl (.inl rfl)
  |false =>
   have Z5:bw=true:=by simpa using xj
   subst Z5;rw[ab (fun hh=>by have:=hh.1;rw[H]at this;cases this),ab (by rw[H];decide)]at h;cases h;have n:=fD 10 (tok p 0).at_ [] [c,b] [[qT c],[qT b]] (iP _);generalize tok p 0=tk at *;refine ah func317 ntmps317 ?_;refine zaO ?_;refine D [0] h3 ?_;exact zbb
 cases yU:is p 0 gb with
 |true=>exact R true _ yU rfl (.inl rfl)
 |false =>
 cases hs3:is p 0 gz with
 |true=>exact R false true yU hs3 (.inr rfl)
 |false =>
 clear R;rw[yU]at I;rw[hs3]at h3;rw[ab (by rw[yU,hs3];decide)]at h
 cases Q:is p 0 gK with
 |true =>
  rw[Q]at h4;rw[ae Q]at h;have N:p.i<p.l.length:=is_lt (k:=0) Q;have j:=(cS N).ok J
  cases G:iE f (.expr (d+1)) p.next with
  |none=>rw[G]at h;cases h
  |some r =>
   have⟨e,q1⟩:=r;rw[G]at h;cases h;have A:=((ko f).1 _ _ _ _ j G).ok j;have u:=E.expr (d+1) _ e q1 x j Z G;have w:=fQ q1 [59] x A;have n:=fD 11 (tok p 0).at_ [] [e] [[qT e]] (iP _);generalize tok p 0=tk at *;refine ah func317 ntmps317 ?_;refine zaO ?_;refine D [0] h3 ?_;refine D [0] h4 ?_;exact zdj
 |false =>
  rw[Q]at h4;rw[ab (by rw[Q];decide)]at h;have hsi:=Qd (f:=f) d p t q x J Z h;generalize tok p 0=tk at *;refine ah func317 ntmps317 ?_;refine zaO ?_;refine D [0] h3 ?_;refine D [0] h4 ?_;refine D [0] hsi ?_;exact ax
theorem Ze(f:Nat):QD f:=by
 induction f using Nat.strongRecOn with
 |_ f r =>
  cases f with
  |zero=>exact⟨fun d p t q x _ _ h=>by simp[iS]at h,fun d p t q x _ _ h=>by simp[iS]at h⟩
  |succ f =>
   have C:=r f (Nat.lt_succ_self f)
   have s:∀H,H<=f->QD H:=fun H h=>r H (Nat.lt_succ_of_le h)
   exact⟨fun d p t q x R n h=>Si s d p t q x R n h,fun d p t q x R n h=>WE C d p t q x R n h⟩
end Go.Xg
namespace Go.Xg
open Go.RowKit Go.Xw Go.Proofs Tryz
open GV (U)
open Go.Xp (Nd T bg aZ jA en bS)
attribute [local irreducible] GW GL GO V GC GA bh bm
def sa(n:Nd):am:=[.v (ii n.aj),.v (ii n.at_),.v (ii n.n),.v (sv n.s),ints n.au]
def B5(t:T)(x:Value):am:=[.v (ii t.n.aj),.v (ii t.n.at_),.v (ii t.n.n),.v (sv t.n.s),.v x]
theorem LN:∀(N:Nat)(t:T),bg t<=N->∀(n:Nat)(rows:List am)(a:Option Addr)(c:Nat),rows.length=n->n+bg t<=1099511627776 ->
  GC prog 143 [.v (.slice a n c),qT t] [.vech 82 5 rows (.slice a n c)] fun g bO=>∃a c,g=.v (.slice a (n+bg t) c)/\bO=[.vech 82 5 (rows++(jA n t).map sa) (.slice a (n+bg t) c)]:=by
 intro N
 induction N with
 |zero=>intro t h;rw[Go.Xp.fP]at h;omega
 |succ N ih =>
 intro t M n rows a c S O;subst S;rw[Go.Xp.fP]at O M;have Q:=Go.Xp.fH t.au;refine ah func143 ntmps143 ?_;refine GL.lz 0 rfl rfl rfl rfl rfl rfl rfl rfl aM nR ?_;intro a c;refine zbd ?_;refine GW.wk (Wk.kH 3 1) ?_
 refine GW.range (lE t.au).length (fun k J Γ=>∃a c e l,J=.v (.slice a (rows.length+1+aZ (t.au.take k)) c)::qT t::U::U::U::.v (ii (rows.length:Nat))::zU 14 (.sl 1 (lE t.au)::.v (ii ((lE t.au).length:Int))::.v (ii (k:Nat))::zU 21 []) /\
  Γ=[.vech 82 5 (rows++B5 t (.slice e k l)::(en (rows.length+1) (t.au.take k)).map sa) (.slice a (rows.length+1+aZ (t.au.take k)) c),.vech 3 1 ((bS (rows.length+1) (t.au.take k)).map fun z=>[.v (ii z)]) (.slice e k l)]) ?_ (by rw[nM];omega) ?_ ?_ ?_
 ·refine⟨_,_,Wk.bb aD,a,c,none,0,rfl,?_⟩;rfl
 ·rintro k _ _⟨a,c,e,l,rfl,rfl⟩;exact eB
 ·rintro k _ _ u⟨a,c,e,l,rfl,rfl⟩;rw[nM]at u;obtain⟨kid,b⟩:∃kid,t.au[k]?=some kid:=⟨t.au[k],by simp[u]⟩;have hr:=AX b;have W:=Go.Xp.uN b;have R:=Go.Xp.rB t.au (k+1)
  have E:t.au.take (k+1)=t.au.take k++[kid]:=by rw[dI,b];rfl
  have hX:((en (rows.length+1) (t.au.take k)).map sa).length=aZ (t.au.take k):=by rw[bI,Go.Xp.sK]
  have m:((bS (rows.length+1) (t.au.take k)).map fun z=>[GV.v (ii z)]).length=k:=by rw[bI,Go.Xp.ec,iX];omega
  rw[E,Go.Xp.wc,Go.Xp.ya,Go.Xp.oY];simp only[bS,en,aZ,gw,Nat.add_zero,jH,List.map_cons,map_nil,<-nE]
  have A:=fun(rs:List am)a c h=>ih kid Z (rows.length+1+aZ (t.au.take k)) rs a c h Z
  generalize(en (rows.length+1) (t.au.take k)).map sa=abo at *;generalize((bS (rows.length+1) (t.au.take k)).map fun z=>[GV.v (ii z)])=w at *;generalize aZ (t.au.take k)=s at *;subst m
  have q:∀r:am,(rows++r::abo).length=rows.length+1+s:=fun r=>by simp;omega
  have d:(rows++B5 t (.slice e w.length l)::abo)[rows.length]?=some (B5 t (.slice e w.length l)):=by simp
  have C:=q (B5 t (.slice e w.length l));unfold B5 at d C |-;refine X ?_;refine ze6 ?_;intro F H;refine zbd ?_;refine xP ?_;rw[Fl];simp only[bN];refine X ?_;refine cN [0] (A _ _ _ (q _)) ?_;rintro _ _⟨G,I,rfl,rfl⟩;refine zaR ?_;refine⟨rfl,rfl,_,_,Wk.bb aD,G,I,F,H,rfl,?_⟩;rw[eU];rfl
 ·rintro _ _⟨a,c,e,l,rfl,rfl⟩;rw[nM,ej];rw[Go.Xp.fP,Go.Xp.LL]
  have m:((bS (rows.length+1) t.au).map fun z=>[GV.v (ii z)]).length=t.au.length:=by rw[bI,Go.Xp.ec]
  have B:ints (bS (rows.length+1) t.au)=.sl 1 ((bS (rows.length+1) t.au).map fun z=>[GV.v (ii z)]):=rfl;rw[List.map_cons];simp only[sa,B5];rw[B,show rows.length+(aZ t.au+1)=rows.length+1+aZ t.au by omega];generalize(en (rows.length+1) t.au).map sa=abo at *;generalize((bS (rows.length+1) t.au).map fun z=>[GV.v (ii z)])=w at *;generalize aZ t.au=s at *
  have d:∀r:am,(rows++r::abo)[rows.length]?=some r:=fun r=>by simp
  refine bx ?_;apply GW.wk
  ·apply Wk.Ks (i:=0) (idx:=rows.length) (o:=4) (j:=1)
   ·rfl
   ·exact d _
   ·rfl
   ·rfl
   ·rfl
  rw[Fl];simp only[bN];refine zdy ?_;exact⟨_,_,rfl,rfl⟩
open Go.Sp Go.Im
open Go.Xp (iV Ar)
structure HW where
 aT:Option Addr
 cT:Nat
 aG:Option Addr
 cG:Nat
 aA:Option Addr
 cA:Nat
 aF:Option Addr
 cF:Nat
def rf(x:Ar):am:=[.v (sv x.name),.v (ii x.size)]
def qA(x:ai × List ai):am:=[.v (sv x.1),strs x.2,.v (ii 0)]
def mo(x:ai):am:=[.v (sv x)]
abbrev hx(st:PS)(h:HW):PX:=⟨.slice h.aT st.aJ.length h.cT,.slice h.aG st.aw.length h.cG,.slice h.aA st.aq.length h.cA,.slice h.aF st.az.length h.cF,.slice none 0 0⟩
abbrev uI(p:RS)(st:PS)(h:HW):ap:=[cI p (hx st h),.vech 132 1 (lE st.aJ) (.slice h.aT st.aJ.length h.cT),.vech 9 1 (st.aw.map mo) (.slice h.aG st.aw.length h.cG),.vech 79 2 (st.aq.map rf) (.slice h.aA st.aq.length h.cA),.vech 53 3 (st.az.map qA) (.slice h.aF st.az.length h.cF)]
theorem wq{C β:Type}(g:C->β)(l:List C)(x:C):(l++[x]).map g=l.map g++[g x]:=by simp
theorem Od{f:Nat}(p:RS)(st:PS)(h:HW)(q:RS)(E:PS)(n:Nat)(J:p.ok)(hn:st.le n)(hb:n+1<=1099511627776)(N:is p 0 iV=true)(l:iW f p st=some (q,E)) :
  GC prog 199 [.loc 0 0] (uI p st h) (fun g bO=>g=.tup []/\∃h',bO=uI q E h'):=by
 have⟨Ra,wQ⟩:=id J;have⟨Y1,Y2,hn3,hn4⟩:=hn;unfold iW at l;rw[ae N]at l;have C:=lj p 0 iV (hx st h) J aS;rw[N]at C;have A:=(kM N).ok J
 have r:=qZ p.next (hx st h) A
 have d:=(jr A).ok A;generalize(tok p.next 0).s=s at *
 generalize bZ p.next=b at *
 have i:=lj b 0 [91] (hx st h) d aS
 have G:¬(b.code=0/\is b 0 [91]=true)->True:=fun _=>trivial
 cases R:(b.code==0)with
 |false =>
  have w:¬b.code=0:=by simpa using R
  rw[ab (fun H=>w H.1)]at l;cases l
  have m:(st.aw.map mo).length+1=(st.aw++[s]).length:=by simp
  have o:st.aw.map mo++[[GV.v (sv s)]]=(st.aw++[s]).map mo:=by simp[mo]
  have u:(st.aw.map mo).length+1<=1099511627776:=by simp;omega
  refine ah func199 ntmps199 ?_;refine D [0] C ?_;refine D [0] r ?_;exact zaW
 |true =>
  have w:b.code=0:=by simpa using R
  cases e:is b 0 [91]with
  |false =>
   rw[e]at i;rw[ab (fun H=>by have:=H.2;rw[e]at this;cases this)]at l;cases l
   have m:(st.aw.map mo).length+1=(st.aw++[s]).length:=by simp
   have o:st.aw.map mo++[[GV.v (sv s)]]=(st.aw++[s]).map mo:=by simp[mo]
   have u:(st.aw.map mo).length+1<=1099511627776:=by simp;omega
   refine ah func199 ntmps199 ?_;refine D [0] C ?_;refine D [0] r ?_;refine D [0] i ?_;exact zaW
  |true =>
   rw[e]at i;rw[ae ⟨w,e⟩]at l;have j:=(kM e).ok d;have S:=d.1;have T:=d.2;have W:=j.1;have aba:=j.2
   have ht:=rD b.next 0 (hx st h) j aS
   have Q:=yC b.next (hx st h) j
   have B:(tok b.next 0).aj=1->b.next.next.ok:=fun z=>(cS (rV (p:=b.next) (k:=0) (by rw[z];decide))).ok j
   generalize tok b.next 0=tk at *
   by_cases z:tk.aj=1
   ·rw[ae z]at l;cases l
    have I:(tk.aj != 1)=false:=by simpa using z
    have t:=B z;have abb:=t.1
    have O:=fQ b.next.next [93] (hx st h) t
    have M:=(de t [93]).ok t
    generalize want b.next.next [93]=p5 at *
    have m:(st.aq.map rf).length+1=(st.aq++[(⟨s,tk.n⟩:Ar)]).length:=by simp
    have o:st.aq.map rf++[[GV.v (sv s),.v (ii tk.n)]]=(st.aq++[(⟨s,tk.n⟩:Ar)]).map rf:=by simp[rf]
    have u:(st.aq.map rf).length+1<=1099511627776:=by simp;omega
    refine ah func199 ntmps199 ?_;refine D [0] C ?_;refine D [0] r ?_;refine D [0] i ?_;refine D [0] ht ?_;refine zad ?_;refine D [0] O ?_;refine aX (aI 0 10 (.a 10 (.a 11 (aI 12 3 (.a 15 .nil))))) ?_;refine zdT ?_;refine OA rfl rfl (GL.nu 3 rfl rfl rfl aM rfl rfl (by refine⟨?_,?_⟩;(· show _+1<=_;omega);(· show(_+1)*_<=_;omega)) ?_);intro a c;refine cy ?_;generalize F:chunk 1 2 _=abo
    obtain rfl:abo=[rf ⟨s,tk.n⟩]:=by rw[<-F];rfl
    clear F
    try (generalize F:chunk 1 2 _=abo;obtain rfl:abo=[rf ⟨s,tk.n⟩]:=by rw[<-F];rfl)
    rw[show(st.aq.map rf).length+[rf ⟨s,tk.n⟩].length=(st.aq++[(⟨s,tk.n⟩:Ar)]).length by simp,<-wq rf st.aq ⟨s,tk.n⟩];refine bA ?_;refine zad ?_;refine D [0] (fQ p5 [59] (hx { st with aq:=st.aq++[⟨s,tk.n⟩] } { h with aA:=a,cA:=c }) M) ?_;refine eC ?_;exact⟨rfl,{ h with aA:=a,cA:=c },rfl⟩
   ·rw[ab z]at l;cases l
    have I:(tk.aj != 1)=true:=by simpa using z
    refine ah func199 ntmps199 ?_;refine D [0] C ?_;refine D [0] r ?_;refine D [0] i ?_;refine D [0] ht ?_;refine D [0] Q ?_;exact zdB
open Go.Xp (jm)
theorem KC{f:Nat}(p:RS)(st:PS)(h:HW)(q:RS)(o:PS)(R:p.ok)(r:is p 0 iV=false)(u:is p 0 jm=false)(e:iW f p st=some (q,o)) :
  GC prog 199 [.loc 0 0] (uI p st h) (fun g bO=>g=.tup []/\∃W,bO=uI q o W):=by
 unfold iW at e;rw[ab (by rw[r];decide),ab (by rw[u];decide)]at e;cases e;have M:=lj p 0 iV (hx st h) R aS;have B:=lj p 0 jm (hx st h) R aS;have v:=yC p (hx st h) R;rw[r]at M;rw[u]at B;refine ah func199 ntmps199 ?_;refine D [0] M ?_;refine D [0] B ?_;refine D [0] v ?_;exact zdB
abbrev Xt(p:RS)(st:PS)(h:HW)(s:ai)(q:List ai)(a:Option Addr)(c:Nat):ap:=uI p st h++[.box 53 [.v (sv s),.v (.slice a q.length c),.v (ii 0)],.vech 9 1 (q.map mo) (.slice a q.length c)]
theorem KD{f:Nat}(p:RS)(st:PS)(h:HW)(q:RS)(I:PS)(n:Nat)(v:p.ok)(hn:st.le n)(hb:n+f+4<=1099511627776)(W:is p 0 iV=false)(hs:is p 0 jm=true)(e:iW f p st=some (q,I)) :
  GC prog 199 [.loc 0 0] (uI p st h) (fun g bO=>g=.tup []/\∃h',bO=uI q I h'):=by
 have⟨Ra,wQ⟩:=id v;have⟨Y1,Y2,hn3,hn4⟩:=hn;unfold iW at e;rw[ab (by rw[W];decide),ae hs]at e;have J:=lj p 0 iV (hx st h) v aS;rw[W]at J;have C:=lj p 0 jm (hx st h) v aS;rw[hs]at C;have F:=(kM hs).ok v
 have w:=qZ p.next (hx st h) F
 have m:=(jr F).ok F;generalize(tok p.next 0).s=s at *
 generalize bZ p.next=p2 at *
 have xn:=fQ p2 [40] (hx st h) m;have S:=(de m [40]).ok m;generalize want p2 [40]=p3 at *
 cases u:px f [] p3 with
 |none=>rw[u]at e;cases e
 |some r =>
 have⟨l,q1⟩:=r;rw[u]at e;simp only at e;refine ah func199 ntmps199 ?_;refine D [0] J ?_;refine D [0] C ?_;refine D [0] w ?_;refine zad ?_;refine D [0] xn ?_;refine GW.wk (Wk.kH 9 1) ?_;refine GW.loop (fun z:Nat × List ai × RS=>z.1) (fun z fr Γ=>∃a c,fr=.loc 0 0::U::U::U::.loc 5 0::zU 148 []/\Γ=Xt z.2.2 st h s z.2.1 a c/\z.2.2.ok/\z.2.1.length+z.1<=f/\px z.1 z.2.1 z.2.2=some (l,q1)) (f,[],p3) ?_ ?_
 ·exact⟨_,_,Wk.bb aD,none,0,rfl,rfl,S,by simp,u⟩
 clear u S xn m w C J F;rintro⟨g,b,p⟩_ _⟨a,c,rfl,rfl,v,R,u⟩;simp only at v R u
 cases g with
 |zero=>cases u
 |succ g =>
 rw[px]at u;have C:=lj p 0 [41] (hx st h) v aS
 by_cases E:p.code=0/\is p 0 [41]=false
 ·have⟨O,N⟩:=id E;rw[ae E]at u;rw[N]at C
  have Q:(p.code==0)=true:=by simpa using O
  by_cases h0:b.length=0
  ·obtain rfl:=ky h0
   have hd:decide ((0:Int)<(([]:List ai).length:Int))=false:=by decide
   rw[ae zfQ]at u;have w:=qZ p (hx st h) v;have m:=(jr v).ok v;generalize(tok p 0).s=H at *;refine X ?_;refine D [0] C ?_;refine zbU ?_;refine aN [0] w ?_;refine zaI ?_;refine OA rfl rfl (GL.nu 6 (news:=[mo H]) rfl rfl rfl aM rfl rfl (by refine⟨?_,?_⟩;(· show _+1<=_;omega);(· show(_+1)*_<=_;omega)) ?_);intro a2 c2;refine zbF ?_;exact⟨(g,[H],bZ p),⟨_,_,Wk.bb aD,a2,c2,rfl,rfl,m,by simp at R |-;omega,u⟩,by simp⟩
  ·have hd:decide ((0:Int)<(b.length:Int))=true:=by simpa using by omega
   rw[ab h0]at u;have hwc:=fQ p [44] (hx st h) v;have M:=(de v [44]).ok v;generalize want p [44]=pw at *;have w:=qZ pw (hx st h) M;have m:=(jr M).ok M;generalize(tok pw 0).s=H at *
   have hlen:(b.map mo).length<=f:=by simp;omega
   refine X ?_;refine D [0] C ?_;refine zad ?_;refine D [0] hwc ?_;refine zbU ?_;refine aN [0] w ?_;refine zaI ?_;refine OA rfl rfl (GL.nu 6 (news:=[mo H]) rfl rfl rfl aM rfl rfl (by refine⟨?_,?_⟩;(· show _+1<=_;omega);(· show(_+1)*_<=_;omega)) ?_);intro a2 c2;refine cy ?_
   try rw[show(b.map mo).length+1=(b++[H]).length by simp]
   rw[show(b.map mo).length+[mo H].length=(b++[H]).length by simp,<-wq mo b H];refine bA ?_;exact⟨(g,b++[H],bZ pw),⟨_,_,Wk.bb aD,a2,c2,rfl,rfl,m,by simp;omega,u⟩,by simp⟩
 ·rw[ab E]at u
  obtain⟨rfl,rfl⟩:b=l/\want p [41]=q1:=by simpa using u
  clear u;have G:=fQ p [41] (hx st h) v;have T:=(de v [41]).ok v
  have yS:(lE st.aJ).length+1<=1099511627776:=by rw[nM];omega
  have xi:(st.az.map qA).length+1<=1099511627776:=by simp;omega
  by_cases O:p.code=0
  ·have Q:(p.code==0)=true:=by simpa using O
   have N:is p 0 [41]=true:=by
    cases h3:is p 0 [41]with
    |true=>rfl
    |false=>exact absurd ⟨O,h3⟩ E
   rw[N]at C
   by_cases d:(want p [41]).code=0
   ·have B:((want p [41]).code==0)=true:=by simpa using d
    rw[ae d]at e
    cases k:iS f (.block 1) (want p [41])with
    |none=>rw[k]at e;cases e
    |some r =>
    have⟨t,qq⟩:=r;rw[k]at e
    obtain⟨rfl,rfl⟩:qq=q/\_=I:=by simpa using e
    have A:=(Ze f).block 1 _ t qq (hx st h) T Z k;clear k d;generalize want p [41]=pq at *;refine X ?_;refine D [0] C ?_;refine jx ?_;refine X ?_;refine zcF ?_;refine OA rfl rfl (GL.nu 1 (news:=[[qT t]]) rfl rfl rfl aM rfl rfl (by refine⟨?_,?_⟩;(· show _+1<=_;omega);(· show(_+1)*_<=_;omega)) ?_);intro a3 c3;refine cy ?_
    try rw[show(lE st.aJ).length+1=(st.aJ++[t]).length by simp[nM]]
    refine zeK ?_;apply GW.wk
    ·apply Wk.nZ (i:=5) (o:=1) (j:=6)
     ·rfl
     ·rfl
     ·rfl
     ·rfl
    simp only[oset,bN];refine aX (aI 0 7 (.a 7 (.a 8 (aI 9 3 (.a 12 .nil))))) ?_;refine zdT ?_;refine OA rfl rfl (GL.nu 4 (news:=[qA (s,b)]) rfl rfl rfl aM rfl rfl (by refine⟨?_,?_⟩;(· show _+1<=_;omega);(· show(_+1)*_<=_;omega)) ?_);intro a4 c4;refine cy ?_
    try rw[show(st.az.map qA).length+1=(st.az++[(s,b)]).length by simp]
    exact zbv
   ·have B:((want p [41]).code==0)=false:=by simpa using d
    rw[ab d]at e;cases e;clear d;generalize want p [41]=pq at *;refine X ?_;refine D [0] C ?_;refine jx ?_;refine X ?_;refine zad ?_;refine D [0] G ?_;exact zdB
  ·have Q:(p.code==0)=false:=by simpa using O
   by_cases d:(want p [41]).code=0
   ·have B:((want p [41]).code==0)=true:=by simpa using d
    rw[ae d]at e
    cases k:iS f (.block 1) (want p [41])with
    |none=>rw[k]at e;cases e
    |some r =>
    have⟨t,qq⟩:=r;rw[k]at e
    obtain⟨rfl,rfl⟩:qq=q/\_=I:=by simpa using e
    have A:=(Ze f).block 1 _ t qq (hx st h) T Z k;clear k d;generalize want p [41]=pq at *;refine zbG ?_;refine zcF ?_;refine OA rfl rfl (GL.nu 1 (news:=[[qT t]]) rfl rfl rfl aM rfl rfl (by refine⟨?_,?_⟩;(· show _+1<=_;omega);(· show(_+1)*_<=_;omega)) ?_);intro a3 c3;refine cy ?_
    try rw[show(lE st.aJ).length+1=(st.aJ++[t]).length by simp[nM]]
    refine zeK ?_;apply GW.wk
    ·apply Wk.nZ (i:=5) (o:=1) (j:=6)
     ·rfl
     ·rfl
     ·rfl
     ·rfl
    simp only[oset,bN];refine aX (aI 0 7 (.a 7 (.a 8 (aI 9 3 (.a 12 .nil))))) ?_;refine zdT ?_;refine OA rfl rfl (GL.nu 4 (news:=[qA (s,b)]) rfl rfl rfl aM rfl rfl (by refine⟨?_,?_⟩;(· show _+1<=_;omega);(· show(_+1)*_<=_;omega)) ?_);intro a4 c4;refine cy ?_
    try rw[show(st.az.map qA).length+1=(st.az++[(s,b)]).length by simp]
    exact zbv
   ·have B:((want p [41]).code==0)=false:=by simpa using d
    rw[ab d]at e;cases e;clear d;generalize want p [41]=pq at *;refine zbG ?_;refine zad ?_;refine D [0] G ?_;exact zdB
open Go.Xp (Tok)
theorem T9{f:Nat}(p:RS)(st:PS)(h:HW)(q:RS)(o:PS)(n:Nat)(R:p.ok)(hn:st.le n)(r:n+f+4<=1099511627776)(e:iW f p st=some (q,o)) :
  GC prog 199 [.loc 0 0] (uI p st h) (fun g bO=>g=.tup []/\∃W,bO=uI q o W):=by
 cases z:is p 0 iV with
 |true=>exact Od p st h q o n R hn Z z e
 |false =>
  cases v:is p 0 jm with
  |true=>exact KD p st h q o n R hn r z v e
  |false=>exact KC p st h q o R z v e
def nX(az:List (ai × List ai))(aJ:List T)(k:Nat):List am:=az.mapIdx fun i x=>[.v (sv x.1),strs x.2,.v (ii (if i<k then((aZ (aJ.take i):Nat):Int)else 0))]
theorem Fk:∀(rows:List am)(i j o:Nat)(g:GV),(dk rows i o g)[j]?=if j=i then(rows[j]?).map (fun r=>bN r o g)else rows[j]?
 |[],i,j,o,g=>by simp[dk]
 |r::rs,0,0,o,g=>by simp[dk]
 |r::rs,0,j+1,o,g=>by simp[dk]
 |r::rs,i+1,0,o,g=>by simp[dk]
 |r::rs,i+1,j+1,o,g=>by
  rw[dk,List.getElem?_cons_succ,Fk rs i j o g];simp
theorem TA(az:List (ai × List ai))(aJ:List T):az.map qA=nX az aJ 0:=by
 apply ext_getElem?;intro i;rw[nX,getElem?_mapIdx,b6]
 cases az[i]?<;>simp[qA]
theorem Nw(az:List (ai × List ai))(aJ:List T)(k:Nat):dk (nX az aJ k) k 2 (.v (ii ((aZ (aJ.take k):Nat):Int)))=nX az aJ (k+1):=by
 apply ext_getElem?;intro i;rw[Fk,nX,nX,getElem?_mapIdx,getElem?_mapIdx]
 by_cases h:i=k
 ·subst h;rw[ae rfl]
  cases az[i]? with
  |none=>rfl
  |some x=>simp[bN]
 ·rw[ab h]
  cases az[i]? with
  |none=>rfl
  |some x =>
   have:(i<k)=(i<k+1):=by simp;omega
   simp[this]
theorem P1{az:List (ai × List ai)}{aJ:List T}{k:Nat}(j:Nat)(h:k<az.length):∃x,(nX az aJ j)[k]?=some [.v (sv x.1),strs x.2,.v (ii (if k<j then((aZ (aJ.take k):Nat):Int)else 0))]/\az[k]?=some x:=by
 refine⟨az[k],?_,by simp[h]⟩;rw[nX,getElem?_mapIdx];simp[h]
def IC(q:RS)(st:PS):GV :=
 if q.code=0 then
  if aZ st.aJ>800 then .tup [.agg [.sl 1 [],.sl 2 [],.sl 3 [],.sl 5 []],.v (ii 10),.v (ii 0)]
  else .tup [.agg [.sl 1 (st.aw.map mo),.sl 2 (st.aq.map rf),.sl 3 (nX st.az st.aJ st.aJ.length),.sl 5 ((en 0 st.aJ).map sa)],.v (ii 0),.v (ii 0)]
 else .tup [.agg [.sl 1 [],.sl 2 [],.sl 3 [],.sl 5 []],.v (ii q.code),.v (ii q.at_)]
theorem Gx{G f:Nat}(ts:List Tok)(e:Int)(q:RS)(st:PS)(hl:ts.length<=1099511627776)(hb:G+f+4<=1099511627776)(hz:q.code=0->aZ st.aJ<=1099511627776)(h:nU G f ⟨ts,0,e,0,0⟩ .empty=some (q,st)) :
  GF prog 129 [ic ts,.v (ii e)] [] (IC q st) []:=by
 unfold IC;refine ah func129 ntmps129 ?_;refine GW.wk (Wk.kH 132 1) ?_;refine GW.wk (Wk.kH 9 1) ?_;refine GW.wk (Wk.kH 79 2) ?_;refine GW.wk (Wk.kH 53 3) ?_;refine GW.loop (fun z:Nat × RS × PS=>z.1) (fun z N Γ=>∃h n,N=ic ts::.v (ii e)::U::U::.loc 0 0::.v (ii 0)::.v (ii 0)::.loc 1 0::zU 71 []/\Γ=.box 28 [.v (.slice none 0 0),.v (.slice none 0 0),.v (.slice none 0 0),.v (.slice none 0 0)]::uI z.2.1 z.2.2 h/\z.2.1.l=ts/\z.2.1.ok/\z.2.2.le n/\n+z.1<=G/\nU z.1 f z.2.1 z.2.2=some (q,st)) (G,⟨ts,0,e,0,0⟩,.empty) ?_ ?_
 ·exact⟨_,_,Wk.bb aD,⟨none,0,none,0,none,0,none,0⟩,0,rfl,rfl,rfl,⟨bj _,hl⟩,⟨a8 _,a8 _,a8 _,rfl⟩,by simp,h⟩
 clear h;rintro⟨g,p,s⟩_ _⟨b,n,rfl,rfl,d,J,C,hng,h⟩;simp only at d J C hng h
 cases g with
 |zero=>cases h
 |succ g =>
 rw[nU]at h
 by_cases c:p.code=0/\p.i<p.l.length
 ·rw[ae c]at h
  have u:(p.code==0)=true:=by simpa using c.1
  have w:decide ((p.i:Int)<((ts.map db).length:Int))=true:=by
   have:=c.2;rw[d]at this;exact zdM
  cases F:iW f p s with
  |none=>rw[F]at h;cases h
  |some r =>
   have⟨p2,s2⟩:=r;rw[F]at h;simp only at h;have E:=XQ J F;refine X ?_;refine cN [1,2,3,4,5] (T9 p s b p2 s2 n J C Z F) ?_;rintro _ _⟨rfl,T,rfl⟩;refine zaR ?_;exact⟨(g,p2,s2),⟨_,_,Wk.bb aD,T,n+1,rfl,rfl,by rw[E.1,d],E.ok J,XO F C,by show n+1+g<=G;omega,h⟩,by simp⟩
 ·rw[ab c]at h
  obtain⟨rfl,rfl⟩:p=q/\s=st:=by simpa using h
  clear h
  have W:∀M I:Bool,(p.code==0)=M->decide ((p.i:Int)<((ts.map db).length:Int))=I->M=true->I=false:=fun M I h1 h2 h3=>by
   subst h3
   cases I with
   |false=>rfl
   |true=>exact absurd ⟨by simpa using h1,by rw[d];simpa using h2⟩ c
  by_cases m:p.code=0
  ·rw[ae m];have hz:=hz m
   have u:(p.code==0)=true:=by simpa using m
   have S:(p.code != 0)=false:=by simpa using m
   have w:=W _ _ u rfl rfl;have Ez:=C.aJ;have HT:=C.az;have hpt:=nM s.aJ;have Ey:=Go.Xp.fH s.aJ;refine zbG ?_;refine GW.wk (by apply Wk.A1 (t:=52) (i:=2)<;>rfl) ?_;simp only[oset,bN];refine X ?_;refine GW.wk (Wk.kH 82 5) ?_;rw[TA s.az s.aJ]
   refine GW.range s.aJ.length (fun k N Γ=>∃A B,N=U::U::U::U::.loc 0 0::.v (ii 0)::.v (ii 0)::U::.loc 6 0::zU 43 (.sl 1 (lE s.aJ)::.v (ii (s.aJ.length:Int))::.v (ii (k:Nat))::zU 24 [])/\Γ=[.box 28 [.v (.slice none 0 0),.v (.slice none 0 0),.v (.slice none 0 0),.v (.slice none 0 0)],cI p (hx s b),.vec 132 1 (lE s.aJ).length (lE s.aJ),.vech 9 1 (s.aw.map mo) (.slice b.aG s.aw.length b.cG),.vech 79 2 (s.aq.map rf) (.slice b.aA s.aq.length b.cA),.vech 53 3 (nX s.az s.aJ k) (.slice b.aF s.az.length b.cF),
    .box 28 [.v (.slice b.aG s.aw.length b.cG),.v (.slice b.aA s.aq.length b.cA),.v (.slice b.aF s.az.length b.cF),.v (.slice A (aZ (s.aJ.take k)) B)],.vech 82 5 ((en 0 (s.aJ.take k)).map sa) (.slice A (aZ (s.aJ.take k)) B)]) ?_ Z ?_ ?_ ?_
   ·exact⟨_,_,Wk.bb aD,none,0,rfl,rfl⟩
   ·rintro k _ _⟨A,B,rfl,rfl⟩;exact eB
   ·rintro k _ _ w⟨A,B,rfl,rfl⟩;obtain⟨t,ht⟩:∃t,s.aJ[k]?=some t:=⟨s.aJ[k],by simp[w]⟩;have hr:=AX ht;have ps:=Go.Xp.uN ht;have hle:=Go.Xp.rB s.aJ (k+1)
    have Re:s.aJ.take (k+1)=s.aJ.take k++[t]:=by rw[dI,ht];rfl
    have⟨x,H,hx2⟩:=P1 (az:=s.az) (aJ:=s.aJ) (k:=k) k Z;rw[ab (Nat.lt_irrefl k)]at H;have xm:k<(nX s.az s.aJ k).length:=(bG H).1
    have Q:((en 0 (s.aJ.take k)).map sa).length=aZ (s.aJ.take k):=by rw[bI,Go.Xp.sK]
    have Q3:=LN (bg t) t (a8 _) (aZ (s.aJ.take k)) _ A B Q Z;rw[<-Nw s.az s.aJ k,Re,Go.Xp.ya,Go.Xp.oY];simp only[en,aZ,gw,Nat.add_zero,gW,jH];generalize(en 0 (s.aJ.take k)).map sa=abo at *;generalize aZ (s.aJ.take k)=z at *;generalize nX s.az s.aJ k=R at *;refine X ?_;refine xP ?_;refine X ?_;refine cN [7] Q3 ?_;rintro _ _⟨a5,c5,rfl,rfl⟩;refine zaR ?_;exact⟨rfl,rfl,_,_,Wk.bb aD,a5,c5,rfl,rfl⟩
   ·rintro _ _⟨A,B,rfl,rfl⟩;rw[ej]
    have Q:((en 0 s.aJ).map sa).length=aZ s.aJ:=by rw[bI,Go.Xp.sK]
    by_cases h8:aZ s.aJ>800
    ·rw[ae h8]
     have O:decide ((800:Int)<(aZ s.aJ:Int))=true:=by simpa using by omega
     generalize aZ s.aJ=z at *;refine X ?_;refine Bc ?_;exact zaQ
    ·rw[ab h8]
     have O:decide ((800:Int)<(((en 0 s.aJ).map sa).length:Int))=false:=by rw[Q];simpa using by omega
     refine bx ?_;refine GW.wk (by apply Wk.nZ (i:=6) (o:=0) (j:=3)<;>rfl) ?_;simp only[oset,bN];refine GW.wk (by apply Wk.nZ (i:=6) (o:=1) (j:=4)<;>rfl) ?_;simp only[oset,bN];refine GW.wk (by apply Wk.nZ (i:=6) (o:=2) (j:=5)<;>rfl) ?_;simp only[oset,bN];refine GW.wk (by apply Wk.nZ (i:=6) (o:=3) (j:=7)<;>rfl) ?_;simp only[oset,bN];refine X ?_;refine kV ?_;exact zai
  ·rw[ab m]
   have u:(p.code==0)=false:=by simpa using m
   have S:(p.code != 0)=true:=by simpa using m
   refine zbG ?_;refine aX (aI 0 9 (.a 9 (.q 10 (.q 11 .nil)))) ?_;refine bA ?_;refine Bc ?_;exact zaQ
end Go.Xg
namespace Go.Xg
open Go.RowKit Go.Xw Go.Proofs Tryz
open GV (U)
open Go.Sp (small eF fB)
open Go.Im (oD)
attribute [local irreducible] GW GL GO V GC GA bh bm
theorem xZ(c:UInt8):GF prog 238 [CA c] [] (.v (.bool (eF c))) []:=by
 unfold eF;refine ef func238 ntmps238 ?_
 cases h:decide ((48:Int)<=(c.toNat:Int))
 all_goals
  exact aC
theorem zA(c:UInt8):GF prog 179 [CA c] [] (.v (.bool (small c))) []:=by
 unfold small;refine ef func179 ntmps179 ?_
 cases h:decide ((97:Int)<=(c.toNat:Int))
 all_goals
  exact aC
theorem J9(c:UInt8):GF prog 181 [CA c] [] (.v (.bool (fB c))) []:=by
 unfold fB;have o:=zA c;have n:=xZ c;generalize small c=i at *;generalize eF c=T at *;refine ah func181 ntmps181 ?_;refine jw [] o ?_
 cases i with
 |true =>
  exact aC
 |false =>
  cases z:decide ((65:Int)<=(c.toNat:Int))with
  |true =>
   cases w:decide ((c.toNat:Int)<=90)with
   |true =>
    exact aC
   |false =>
    refine X ?_;refine jw [] n ?_
    cases T with
    |true =>
     exact aC
    |false =>
     exact aC
  |false =>
   refine X ?_;refine jw [] n ?_
   cases T with
   |true =>
    exact aC
   |false =>
    exact aC
theorem RG(M:FuncId)[hf:gM prog M](p:UInt8->Bool)(H:∀c,GF prog M [CA c] [] (.v (.bool (p c))) [])(s:ai)(a:Nat)(r:s.length<=1099511627776)(ha:a<=s.length) :
  GF prog 180 [.v (sv s),.v (ii (a:Nat)),.v (.func (.func M) #[] #[])] [] (.v (ii (Go.Sp.run s p (s.length+1) a:Nat))) []:=by
 generalize G:Go.Sp.run s p (s.length+1) a=R;refine ah func180 ntmps180 ?_;refine GW.loop (fun x:Nat × Nat=>x.1) (fun x q j=>q=.v (sv s)::.v (ii (x.2:Nat))::.v (.func (.func M) #[] #[])::zU 18 []/\j=[]/\x.2<=s.length/\s.length<x.1+x.2/\Go.Sp.run s p x.1 x.2=R) (s.length+1,a) ?_ ?_
 ·exact⟨_,_,Wk.bb aD,rfl,rfl,ha,by simp only;omega,G⟩
 ·rintro⟨f,a⟩_ _⟨rfl,rfl,ha,e,h⟩;simp only at ha e h
  cases f with
  |zero=>omega
  |succ f =>
  rw[Go.Sp.run]at h
  cases o:s[a]? with
  |none =>
   rw[o]at h;simp only at h;subst h;have N:s.length<=a:=oK o
   have n:decide ((a:Int)<(s.length:Int))=false:=by simpa using N
   exact zc7
  |some c =>
   rw[o]at h;simp only at h;have i:a<s.length:=(bG o).1
   have n:decide ((a:Int)<(s.length:Int))=true:=by simpa using i
   have d:=H c
   cases W:p c with
   |false =>
    rw[W]at d;rw[ab (by rw[W];simp)]at h;subst h;refine X ?_;refine jW [] d ?_;exact zc7
   |true =>
    rw[W]at d;rw[ae W]at h;refine X ?_;refine jW [] d ?_;refine X ?_;exact⟨(f,a+1),⟨_,_,Wk.bb aD,rfl,rfl,i,by simp only;omega,h⟩,by simp⟩
theorem NF:Go.Lib.asciiSpaceTab=vC:=by decide
theorem LH:Go.Lib.fields [105,110,116,32,118,97,114,32,102,117,110,99,32,105,102,32,101,108,115,101,32,119,104,105,108,101,32,114,101,116,117,114,110,32,124,124,32,38,38,32,61,61,32,33,61,32,60,61,32,62,61,32,60,60,32,62,62,32,40,32,41,32,123,32,125,32,91,32,93,32,44,32,59,32,61,32,60,32,62,32,43,32,45,32,42,32,47,32,37,32,38,32,124,32,94,32,33,32,126]=oD:=by decide +kernel
open Go.Im (ml)
theorem pn.zH{P:Program}{f:FuncId}{vs:List Value}{w:World}{R:Value->World->Prop}(h:Calls P f vs.toArray w fun e w'=>∃v,e=.returned v/\R v w'):pn P f vs w R:=h
theorem Ow:GF prog 305 [.v (sv [105,110,116,32,118,97,114,32,102,117,110,99,32,105,102,32,101,108,115,101,32,119,104,105,108,101,32,114,101,116,117,114,110,32,124,124,32,38,38,32,61,61,32,33,61,32,60,61,32,62,61,32,60,60,32,62,62,32,40,32,41,32,123,32,125,32,91,32,93,32,44,32,59,32,61,32,60,32,62,32,43,32,45,32,42,32,47,32,37,32,38,32,124,32,94,32,33,32,126])] [] (strs oD) []:=by
 have:=GF.aau (P:=prog) (f:=305) (vs:=[sv [105,110,116,32,118,97,114,32,102,117,110,99,32,105,102,32,101,108,115,101,32,119,104,105,108,101,32,114,101,116,117,114,110,32,124,124,32,38,38,32,61,61,32,33,61,32,60,61,32,62,61,32,60,60,32,62,62,32,40,32,41,32,123,32,125,32,91,32,93,32,44,32,59,32,61,32,60,32,62,32,43,32,45,32,42,32,47,32,37,32,38,32,124,32,94,32,33,32,126]]) (us:=oD.map sv) (E:=9) fun K W w H t=>?_
 ·rw[List.map_map]at this;exact this
 ·obtain⟨E,z,q⟩:=sW.all H t H.spc (zs:=vC.map fun z=>Value.int .u8 z) aS (fun m o x hx=>by
   rw[b6]at hx;unfold ze;rw[ab aS,ab aS,ae rfl]
   cases r:vC[o]? with
   |none=>rw[r]at hx;cases hx
   |some y=>rw[r]at hx;cases hx;rfl)
  have O:Go.Lib.TabIs prog w "strings.asciiSpace" .u8 Go.Lib.asciiSpaceTab:=by
   unfold Go.Lib.TabIs World.var?;rw[show prog.globalNamed "strings.asciiSpace" = some 1 by kernel_rfl,NF];simp only[Option.bind_some,q]
  have h:=strings_Fields_laid ⟨[105,110,116,32,118,97,114,32,102,117,110,99,32,105,102,32,101,108,115,101,32,119,104,105,108,101,32,114,101,116,117,114,110,32,124,124,32,38,38,32,61,61,32,33,61,32,60,61,32,62,61,32,60,60,32,62,62,32,40,32,41,32,123,32,125,32,91,32,93,32,44,32,59,32,61,32,60,32,62,32,43,32,45,32,42,32,47,32,37,32,38,32,124,32,94,32,33,32,126].toArray⟩ w aS (fun j b s=>by
   have:∀b∈([105,110,116,32,118,97,114,32,102,117,110,99,32,105,102,32,101,108,115,101,32,119,104,105,108,101,32,114,101,116,117,114,110,32,124,124,32,38,38,32,61,61,32,33,61,32,60,61,32,62,61,32,60,60,32,62,62,32,40,32,41,32,123,32,125,32,91,32,93,32,44,32,59,32,61,32,60,32,62,32,43,32,45,32,42,32,47,32,37,32,38,32,124,32,94,32,33,32,126]:List UInt8),b.toNat<128:=by decide
   exact this b (bR s)) O
  refine pn.zH (Calls.mono h ?_);rintro e k⟨A,B⟩;rw[show((⟨[105,110,116,32,118,97,114,32,102,117,110,99,32,105,102,32,101,108,115,101,32,119,104,105,108,101,32,114,101,116,117,114,110,32,124,124,32,38,38,32,61,61,32,33,61,32,60,61,32,62,61,32,60,60,32,62,62,32,40,32,41,32,123,32,125,32,91,32,93,32,44,32,59,32,61,32,60,32,62,32,43,32,45,32,42,32,47,32,37,32,38,32,124,32,94,32,33,32,126].toArray⟩:ByteArray).data.toList)=[105,110,116,32,118,97,114,32,102,117,110,99,32,105,102,32,101,108,115,101,32,119,104,105,108,101,32,114,101,116,117,114,110,32,124,124,32,38,38,32,61,61,32,33,61,32,60,61,32,62,61,32,60,60,32,62,62,32,40,32,41,32,123,32,125,32,91,32,93,32,44,32,59,32,61,32,60,32,62,32,43,32,45,32,42,32,47,32,37,32,38,32,124,32,94,32,33,32,126]from rfl,LH]at A B;exact⟨_,A,by rw[bI],B⟩
theorem TH:GF prog 239 [] [] (strs oD) []:=by
 have h:=Ow;generalize oD=l at *;refine ah func239 ntmps239 ?_;exact zbk
theorem zx(s:ai):GF prog 182 [.v (sv s)] [] (.v (.bool (ml s))) []:=by
 have h:=TH;have o:=lQ oD s aS;unfold ml;generalize oD=l at *;refine ah func182 ntmps182 ?_;refine D [] h ?_;exact zbO
open Go.Sp (jt gV)
open Go.Im (dz ku jq oc mN tN mZ)
theorem Qa(s:ai)(a:Nat)(c:UInt8)(A:s.length<=1099511627776)(o:s[a]?=some c):GF prog 252 [.v (sv s),.v (ii (a:Nat))] [] (.v (sv (jq s a))) []:=by
 have i:a<s.length:=(bG o).1;have E:=zA c;refine ah func252 ntmps252 ?_;refine GW.loop (fun x:Nat=>x) (fun x q d=>q=.v (sv s)::.v (ii (a:Nat))::U::U::U::.v (ii (x:Nat))::zU 32 []/\d=[]/\x<=2/\∀j,x<j->j<=2->ku s a j=false) 2 ?_ ?_
 ·exact⟨_,_,Wk.bb aD,rfl,rfl,a8 _,fun j z w=>by omega⟩
 ·rintro x _ _⟨rfl,rfl,hx,t⟩
  have N:∀k,x=k+1->ku s a x=false->∀j,k<j->j<=2->ku s a j=false:=fun k G H j z w=>by
   by_cases u:j=x
   ·rw[u];exact H
   ·exact t j Z w
  have b:∀k,ku s a k=(decide (a+k<=s.length)&&!(small c)&&ml (dz s a (a+k))):=fun k=>by unfold ku;rw[o]
  match x,hx,t,N with
  |0,_,t,_ =>
   have e:jq s a=[]:=by unfold jq;rw[t 2 Z Z,t 1 Z Z];rfl
   rw[e];exact zc7
  |1,_,t,N =>
   have T:decide (((a+1:Nat):Int)<=(s.length:Int))=true:=by simpa using by omega
   have r:a<=a+1/\a+1<=s.length:=by omega
   have H:=b 1;rw[show decide (a+1<=s.length)=true from decide_eq_true Z]at H
   cases I:small c with
   |true =>
    rw[I]at E H;refine zeE ?_;exact zeo
   |false =>
    rw[I]at E H;have M:=zx (dz s a (a+1))
    cases F:ml (dz s a (a+1))with
    |false =>
     rw[F]at M H;refine zeE ?_;refine D [] M ?_;exact zeo
    |true =>
     rw[F]at M H
     have e:jq s a=dz s a (a+1):=by unfold jq;rw[t 2 Z Z,H];rfl
     rw[e];refine zeE ?_;exact zdh
  |2,_,t,N =>
   have H:=b 2
   by_cases l:a+2<=s.length
   ·have T:decide (((a+2:Nat):Int)<=(s.length:Int))=true:=by simpa using by omega
    have r:a<=a+2/\a+2<=s.length:=by omega
    rw[show decide (a+2<=s.length)=true by simpa using l]at H
    cases I:small c with
    |true =>
     rw[I]at E H;refine zeE ?_;exact zci
    |false =>
     rw[I]at E H;have M:=zx (dz s a (a+2))
     cases F:ml (dz s a (a+2))with
     |false =>
      rw[F]at M H;refine zeE ?_;refine D [] M ?_;exact zci
     |true =>
      rw[F]at M H
      have e:jq s a=dz s a (a+2):=by unfold jq;rw[H];rfl
      rw[e];refine zeE ?_;exact zdh
   ·have T:decide (((a+2:Nat):Int)<=(s.length:Int))=false:=by simpa using by omega
    rw[show decide (a+2<=s.length)=false by simpa using l]at H;refine X ?_;exact zci
  |n+3,hx,_,_=>omega
def Ke(n:Int)(e:Nat)(a:Nat):GV:=if n>2147483647 then .tup [.agg (db tN),.v (ii (a:Nat)),.v (ii 3)]else .tup [.agg (db ⟨1,n,[],a⟩),.v (ii (e:Nat)),.v (ii 0)]
theorem NR(s:ai)(a:Nat)(c:UInt8)(T:s.length<=1099511627776)(O:s[a]?=some c)(hd:eF c=true) :
  GF prog 198 [.v (sv s),.v (ii (a:Nat))] [] (Ke (mN (dz s a (oc s a)) 0) (oc s a) a) []:=by
 have S:a<s.length:=(bG O).1;have t:=xZ c;rw[hd]at t;have w:=RG 238 eF xZ s a T Z;have⟨J,M,I⟩:=Go.Sp.oV s eF (s.length+1) a Z Z;have m:=Go.Im.B8 s eF (s.length+1) a Z;unfold oc;generalize Go.Sp.run s eF (s.length+1) a=e at *;clear J;generalize A:mN (dz s a e) 0=R;refine ah func198 ntmps198 ?_;refine D [] t ?_;refine D [] w ?_;refine GW.loop (fun x:Nat × Int=>e-x.1) (fun x N W=>N=.v (sv s)::.v (ii (a:Nat))::U::U::.loc 0 0::.v (ii 0)::.v (ii 0)::U::.v (ii (e:Nat))::.v (ii x.2)::.v (ii (x.1:Nat))::zU 70 []/\W=[.box 205 (db tN)]/\a<=x.1/\x.1<=e/\mN (dz s x.1 e) x.2=R/\0<=x.2/\x.2<=21474836480) (a,0) ?_ ?_
 ·exact⟨_,_,Wk.bb aD,rfl,rfl,a8 _,M,A,by simp,by simp⟩
 ·rintro⟨i,n⟩_ _⟨rfl,rfl,Q,C,h,G,H⟩;simp only at Q C h G H
  have l:R=n->True:=fun _=>trivial
  by_cases b:i<e
  ·have B:decide ((i:Int)<(e:Int))=true:=by simpa using b
   by_cases k:n<=2147483647
   ·have F:decide (n<=2147483647)=true:=by simpa using k
    have E:i<s.length:=by omega
    obtain⟨d,o⟩:∃d,s[i]?=some d:=⟨s[i],by simp[E]⟩
    have q:eF d=true:=by
     have:d∈dz s a e:=by
      unfold dz;rw[List.mem_iff_getElem?];exact⟨i-a,by rw[List.getElem?_drop,List.getElem?_take,show a+(i-a)=i by omega,ae b];exact o⟩
     exact m d this
    have z:(48:Int)<=(d.toNat:Int)/\(d.toNat:Int)<=57:=by
     simp only[eF,a6,decide_eq_true_eq]at q;exact q
    rw[Go.Im.qb o b I,mN,ae k]at h;refine X ?_;exact⟨(i+1,10*n+((d.toNat:Int)-48)),⟨_,_,Wk.bb aD,rfl,rfl,by simp only;omega,b,h,by simp only;omega,by simp only;omega⟩,by simp only;omega⟩
   ·have F:decide (n<=2147483647)=false:=by simpa using k
    have j:R=n:=by
     rw[<-h]
     cases hw:dz s i e with
     |nil=>rw[mN]
     |cons d r=>rw[mN,ab k]
    rw[j];clear h j A l
    have u:decide (2147483647<n)=true:=by simpa using by omega
    unfold Ke;rw[ae Z];exact zeL
  ·have B:decide ((i:Int)<(e:Int))=false:=by simpa using by omega
   have j:R=n:=by
    rw[<-h];have:dz s i e=[]:=ky (by rw[Go.Im.s9 I];omega);rw[this,mN]
   rw[j];clear h j A l;unfold Ke
   by_cases k:n>2147483647
   ·have u:decide (2147483647<n)=true:=by simpa using k
    rw[ae k];exact zeL
   ·have u:decide (2147483647<n)=false:=by simpa using k
    rw[ab k];exact zeL
theorem TY(s:ai)(a:Nat)(c:UInt8)(r:s.length<=1099511627776)(q:s[a]?=some c) :
  GF prog 198 [.v (sv s),.v (ii (a:Nat))] [] (.tup [.agg (db (mZ s a c).1),.v (ii ((mZ s a c).2.1:Nat)),.v (ii (mZ s a c).2.2)]) []:=by
 have j:a<s.length:=(bG q).1;have d:=xZ c;have E:=zA c
 by_cases n:eF c=true
 ·have h:=NR s a c r q n;unfold Ke at h;unfold mZ;rw[ae n];split at h
  ·rename_i Q;rw[ae Q];exact h
  ·rename_i Q;rw[ab Q];exact h
 ·have z:eF c=false:=by simpa using n
  unfold mZ;rw[ab n];rw[z]at d
  by_cases H:small c=true
  ·rw[ae H];rw[H]at E;have T:=RG 181 fB J9 s a r Z;have⟨I,A,G⟩:=Go.Sp.oV s fB (s.length+1) a Z Z;have i:jt s a=(s.take (gV s a)).drop a:=rfl;have M:=zx (jt s a);unfold gV at i |-;rw[i]at M |-;generalize Go.Sp.run s fB (s.length+1) a=e at *;have B:a<=e/\e<=s.length:=⟨A,G⟩
   cases F:ml ((s.take e).drop a)with
   |true =>
    exact zca
   |false =>
    exact zca
  ·have o:small c=false:=by simpa using H
   rw[ab H];rw[o]at E;have w:=Qa s a c r q
   have u:(jq s a).length<=2:=by
    have:(jq s a=dz s a (a+2)\/jq s a=dz s a (a+1))\/jq s a=[]:=by
     unfold jq;split
     ·exact .inl (.inl rfl)
     ·split
      ·exact .inl (.inr rfl)
      ·exact .inr rfl
    rcases this with(h|h)|h<;>rw[h]
    ·unfold dz;rw[n2,iX];omega
    ·unfold dz;rw[n2,iX];omega
    ·simp
   generalize jq s a=x at *
   by_cases hx:x=[]
   ·have t:(x==[])=true:=by simpa using hx
    rw[ae hx];exact zcP
   ·have t:(x==[])=false:=by simpa using hx
    rw[ab hx];exact zcP
open Go.Xp (Tok)
open Go.Sp (cr fq)
open Go.Im (pS tq)
def BM(x t:ai):Bool:=decide (t.length<=x.length)&&(x.take t.length==t)
theorem Jq(x t:ai)(hx:x.length<=1099511627776)(H:t.length<=1099511627776):GF prog 250 [.v (sv x),.v (sv t)] [] (.v (.bool (BM x t))) []:=by
 unfold BM
 by_cases h:t.length<=x.length
 ·have z:decide ((t.length:Int)<=(x.length:Int))=true:=by simpa using h
  rw[decide_eq_true h];refine ah func250 ntmps250 ?_;exact ax
 ·have z:decide ((t.length:Int)<=(x.length:Int))=false:=by simpa using by omega
  rw[decide_eq_false h];refine ah func250 ntmps250 ?_;exact ax
theorem F7(x t:ai)(hx:x.length<=1099511627776)(H:t.length<=1099511627776):GF prog 196 [.v (sv x),.v (sv t)] [] (.v (.bool (BM x t))) []:=by
 have h:=Jq x t hx H;generalize BM x t=b at *;refine ah func196 ntmps196 ?_;exact zbk
theorem Gh{s t:ai}{a:Nat}(ha:a<=s.length):BM (s.drop a) t=cr s a t:=by
 unfold BM cr;rw[n2,List.drop_take,show a+t.length-a=t.length by omega]
 congr 1
 rw[Bool.eq_iff_iff];simp;omega
theorem F8(c:UInt8):GF prog 195 [.v (sv [32,9,10,13]),CA c] [] (.v (ii (Go.Lib.indexByte [32,9,10,13] c))) []:=by
 refine GF.VU (vs:=[sv [32,9,10,13],.int .u8 (c.toNat:Int)]) fun K W w H s=>?_
 refine pn.zH (Calls.mono (strings_IndexByte ⟨[32,9,10,13].toArray⟩ (c.toNat:Int) w) ?_);rintro e j⟨z,A⟩;refine⟨_,z,?_,by rw[A];exact Ext.refl w⟩;simp
theorem Oz(x:ai)(hx:x.length<=4294967280):GF prog 197 [.v (sv x),.v (sv [42,47])] [] (.v (ii (Go.Lib.index x [42,47]))) []:=by
 refine GF.VU (vs:=[sv x,sv [42,47]]) fun K W w H s=>?_
 have⟨m,N⟩:=H.maxLen s;refine pn.zH (Calls.mono (strings_Index ⟨x.toArray⟩ ⟨[42,47].toArray⟩ m w (by show(x.toArray).size<_;simp;omega) N) ?_);rintro e j⟨z,A⟩;refine⟨_,z,?_,by rw[A];exact Ext.refl w⟩;simp
theorem OM(c:UInt8):decide ((0:Int)<=Go.Lib.indexByte [32,9,10,13] c)=fq c:=by
 have r:fq c=((32:UInt8)==c ||(9:UInt8)==c ||(10:UInt8)==c ||(13:UInt8)==c):=by
  have e:∀k:UInt8,((c.toNat:Int)==(k.toNat:Int))=(k==c):=fun k=>by
   rw[Bool.eq_iff_iff];simp only[beq_iff_eq]
   exact⟨fun h=>by
    have:c.toNat=k.toNat:=by omega
    exact(UInt8.toNat_inj.1 this).symm,fun h=>by rw[h]⟩
  have F:=e 32;have n:=e 9;have G:=e 10;have i:=e 13;unfold fq;rw[<-F,<-n,<-G,<-i];rfl
 rw[r];unfold Go.Lib.indexByte Go.Lib.indexByte Go.Lib.indexByte Go.Lib.indexByte Go.Lib.indexByte
 cases(32:UInt8)==c<;>cases(9:UInt8)==c<;>cases(10:UInt8)==c<;>cases(13:UInt8)==c<;>decide
theorem Mx(l:ai):Go.Lib.index l [42,47]=(match tq l with|none => -1|some n=>(n:Int)):=by
 induction l with
 |nil=>rfl
 |cons b l q =>
  rw[Go.Lib.index,tq];split
  ·rfl
  ·rw[q]
   cases tq l with
   |none=>rfl
   |some n =>
    simp only;rw[ab (by simp<;>omega)];simp
theorem PK(s:ai)(f:Nat)(ts:List Tok)(c z:Int)(hs:s.length<=4294967280)(h:pS s f 0 []=some (ts,c,z)) :
  GF prog 128 [.v (sv s)] [] (.tup [ic ts,.v (ii c),.v (ii z)]) []:=by
 refine ah func128 ntmps128 ?_;refine GW.wk (Wk.BZ (t:=5) (a:=none) (c:=0) 205 4 rfl) ?_;refine GW.loop (fun x:Nat × Nat × List Tok=>x.1) (fun x Q Γ=>∃n d,Q=.v (sv s)::U::.v (.slice none 0 0)::.v (ii 0)::.v (ii 0)::.vec 0 n::.v (ii (x.2.1:Nat))::zU 48 []/\Γ=[.vec 205 4 0 d]/\d.length=n/\d=x.2.2.map db/\x.2.1<=s.length/\n<=x.2.1/\pS s x.1 x.2.1 x.2.2=some (ts,c,z)) (f,0,[]) ?_ ?_
 ·exact⟨_,_,Wk.bb aD,0,[],rfl,rfl,rfl,rfl,bj _,a8 _,h⟩
 ·clear h;rintro⟨f,a,o⟩_ _⟨n,d,rfl,rfl,F,i,O,N,h⟩;simp only at i O N h
  cases f with
  |zero=>cases h
  |succ f =>
  rw[pS]at h
  cases w:s[a]? with
  |none =>
   rw[w]at h;cases h;have J:s.length<=a:=oK w
   have T:decide ((a:Int)<(s.length:Int))=false:=by simpa using J
   refine dQ ?_;refine GW.wk (Wk.iC (t:=5) rfl rfl rfl F) ?_;refine X ?_;refine Co ?_;exact⟨by rw[i];rfl,rfl⟩
  |some q =>
   rw[w]at h;simp only at h;have B:a<s.length:=(bG w).1
   have T:decide ((a:Int)<(s.length:Int))=true:=by simpa using B
   have l:=F8 q;have A:=OM q
   cases E:fq q with
   |true =>
    rw[ae E]at h;rw[E]at A;generalize Go.Lib.indexByte [32,9,10,13] q=ib at *;refine zcp ?_;refine jx ?_;exact⟨(f,a+1,o),⟨_,_,Wk.bb aD,n,d,rfl,rfl,F,i,B,by simp only;omega,h⟩,by simp⟩
   |false =>
    rw[ab (by rw[E];decide)]at h;rw[E]at A;generalize Go.Lib.indexByte [32,9,10,13] q=ib at *;have b:=F7 (s.drop a) [47,42] (by rw[n2];omega) aS;rw[Gh O]at b
    cases k:cr s a [47,42]with
    |true =>
     rw[ae k]at h;rw[k]at b;have H:=Go.Sp.lT k;simp only[length_cons,length_nil]at H;have m:=Oz (s.drop (a+2)) (by rw[n2];omega);rw[Mx]at m
     have S:a+2<=s.length:=by omega
     cases M:tq (s.drop (a+2))with
     |none =>
      rw[M]at m h;cases h;refine zcp ?_;refine D [] b ?_;refine D [] m ?_;exact zd5
     |some e =>
      rw[M]at m h;have I:=Go.Im.BO M;rw[n2]at I
      have W:decide (((e:Nat):Int)<0)=false:=by simp
      refine zcp ?_;refine D [] b ?_;refine D [] m ?_;refine jx ?_;exact⟨(f,a+(e+4),o),⟨_,_,Wk.bb aD,n,d,rfl,rfl,F,i,by simp only;omega,by simp only;omega,h⟩,by simp⟩
    |false =>
     rw[ab (by rw[k];decide)]at h;rw[k]at b;have u:=TY s a q Z w
     have C:=fun r=>Go.Im.I8 w r
     generalize mZ s a q=R at *;have⟨t,e,j⟩:=R;simp only at u h C
     by_cases r:j=0
     ·rw[ab (by simpa using r)]at h
      have G:(j != 0)=false:=by simpa using r
      have⟨_,_,k3,k4⟩:=C r;refine zcp ?_;refine D [] b ?_;refine D [] u ?_;refine zbD ?_;exact⟨(f,e,o++[t]),⟨_,_,(Wk.cut (n:=1) (dT rfl) rfl).trans (Wk.bb aD),_,_,rfl,rfl,by simp[F],by rw[jH,i];rfl,k4,by simp only;omega,h⟩,by simp⟩
     ·rw[ae r]at h
      have G:(j != 0)=true:=by simpa using r
      cases h;refine zcp ?_;refine D [] b ?_;refine D [] u ?_;exact zd5
open Go.Xp (T bg)
open Go.Im (df gJ)
theorem Pp:∀(N:Nat)(t:T),bg t<=N->bg t<=1099511627776->GF prog 124 [uT t] [] (.v (.bool (gJ t))) []:=by
 intro N
 induction N with
 |zero=>intro t h;rw[Go.Xp.fP]at h;omega
 |succ N ih =>
 intro t hN hb;rw[Go.Xp.fP]at hN hb;have As:=Go.Xp.fH t.au;have E:=rn t.au;rw[Go.Im.xr,Go.Im.qV];unfold uT;generalize t.n.aj=kd;refine ef func124 ntmps124 ?_;refine Cp ?_;refine GW.join (fun M Γ=>M=.box [.v (ii kd),.v (ii t.n.at_),.v (ii t.n.n),.v (sv t.n.s),ints t.n.au,.sl 1 (dd t.au)] 0::U::U::U::.v (.bool (df kd t.au.length))::zU 59 []/\Γ=[]) ?_ ?_
 ·rw[<-E];generalize(dd t.au)=l
  by_cases O:kd=1
  ·subst O
   have dV:((1:Int)==1)=true:=by decide
   rw[show df 1 l.length=((l.length:Int)==0) by unfold df;simp];exact iF
  by_cases Q:kd=2
  ·subst Q
   have dV:((2:Int)==1)=false:=by decide
   have mH:((2:Int)==2)=true:=by decide
   rw[show df 2 l.length=((l.length:Int)==0) by unfold df;simp];exact iF
  by_cases S:kd=4
  ·subst S
   have dV:((4:Int)==1)=false:=by decide
   have mH:((4:Int)==2)=false:=by decide
   have m:((4:Int)==4)=true:=by decide
   rw[show df 4 l.length=true by unfold df;simp];exact iF
  by_cases C:kd=14
  ·subst C
   have dV:((14:Int)==1)=false:=by decide
   have mH:((14:Int)==2)=false:=by decide
   have m:((14:Int)==4)=false:=by decide
   have d:((14:Int)==14)=true:=by decide
   rw[show df 14 l.length=true by unfold df;simp];exact iF
  by_cases R:kd=3
  ·subst R
   have dV:((3:Int)==1)=false:=by decide
   have mH:((3:Int)==2)=false:=by decide
   have m:((3:Int)==4)=false:=by decide
   have d:((3:Int)==14)=false:=by decide
   have c:((3:Int)==3)=true:=by decide
   rw[show df 3 l.length=((l.length:Int)==1) by unfold df;simp];exact iF
  by_cases W:kd=5
  ·subst W
   have dV:((5:Int)==1)=false:=by decide
   have mH:((5:Int)==2)=false:=by decide
   have m:((5:Int)==4)=false:=by decide
   have d:((5:Int)==14)=false:=by decide
   have c:((5:Int)==3)=false:=by decide
   have r:((5:Int)==5)=true:=by decide
   rw[show df 5 l.length=((l.length:Int)==1) by unfold df;simp];exact iF
  by_cases h7:kd=7
  ·subst h7
   have dV:((7:Int)==1)=false:=by decide
   have mH:((7:Int)==2)=false:=by decide
   have m:((7:Int)==4)=false:=by decide
   have d:((7:Int)==14)=false:=by decide
   have c:((7:Int)==3)=false:=by decide
   have r:((7:Int)==5)=false:=by decide
   have u:((7:Int)==7)=true:=by decide
   rw[show df 7 l.length=((l.length:Int)==1) by unfold df;simp];exact iF
  by_cases z:kd=11
  ·subst z
   have dV:((11:Int)==1)=false:=by decide
   have mH:((11:Int)==2)=false:=by decide
   have m:((11:Int)==4)=false:=by decide
   have d:((11:Int)==14)=false:=by decide
   have c:((11:Int)==3)=false:=by decide
   have r:((11:Int)==5)=false:=by decide
   have u:((11:Int)==7)=false:=by decide
   have i:((11:Int)==11)=true:=by decide
   rw[show df 11 l.length=((l.length:Int)==1) by unfold df;simp];exact iF
  by_cases A:kd=12
  ·subst A
   have dV:((12:Int)==1)=false:=by decide
   have mH:((12:Int)==2)=false:=by decide
   have m:((12:Int)==4)=false:=by decide
   have d:((12:Int)==14)=false:=by decide
   have c:((12:Int)==3)=false:=by decide
   have r:((12:Int)==5)=false:=by decide
   have u:((12:Int)==7)=false:=by decide
   have i:((12:Int)==11)=false:=by decide
   have j:((12:Int)==12)=true:=by decide
   rw[show df 12 l.length=((l.length:Int)==1) by unfold df;simp];exact iF
  by_cases B:kd=13
  ·subst B
   have dV:((13:Int)==1)=false:=by decide
   have mH:((13:Int)==2)=false:=by decide
   have m:((13:Int)==4)=false:=by decide
   have d:((13:Int)==14)=false:=by decide
   have c:((13:Int)==3)=false:=by decide
   have r:((13:Int)==5)=false:=by decide
   have u:((13:Int)==7)=false:=by decide
   have i:((13:Int)==11)=false:=by decide
   have j:((13:Int)==12)=false:=by decide
   have q:((13:Int)==13)=true:=by decide
   rw[show df 13 l.length=((l.length:Int)==1) by unfold df;simp];exact iF
  by_cases h6:kd=6
  ·subst h6
   have dV:((6:Int)==1)=false:=by decide
   have mH:((6:Int)==2)=false:=by decide
   have m:((6:Int)==4)=false:=by decide
   have d:((6:Int)==14)=false:=by decide
   have c:((6:Int)==3)=false:=by decide
   have r:((6:Int)==5)=false:=by decide
   have u:((6:Int)==7)=false:=by decide
   have i:((6:Int)==11)=false:=by decide
   have j:((6:Int)==12)=false:=by decide
   have q:((6:Int)==13)=false:=by decide
   have J:((6:Int)==6)=true:=by decide
   rw[show df 6 l.length=((l.length:Int)==2) by unfold df;simp];exact iF
  by_cases h8:kd=8
  ·subst h8
   have dV:((8:Int)==1)=false:=by decide
   have mH:((8:Int)==2)=false:=by decide
   have m:((8:Int)==4)=false:=by decide
   have d:((8:Int)==14)=false:=by decide
   have c:((8:Int)==3)=false:=by decide
   have r:((8:Int)==5)=false:=by decide
   have u:((8:Int)==7)=false:=by decide
   have i:((8:Int)==11)=false:=by decide
   have j:((8:Int)==12)=false:=by decide
   have q:((8:Int)==13)=false:=by decide
   have J:((8:Int)==6)=false:=by decide
   have f8:((8:Int)==8)=true:=by decide
   rw[show df 8 l.length=((l.length:Int)==2) by unfold df;simp];exact iF
  by_cases w:kd=10
  ·subst w
   have dV:((10:Int)==1)=false:=by decide
   have mH:((10:Int)==2)=false:=by decide
   have m:((10:Int)==4)=false:=by decide
   have d:((10:Int)==14)=false:=by decide
   have c:((10:Int)==3)=false:=by decide
   have r:((10:Int)==5)=false:=by decide
   have u:((10:Int)==7)=false:=by decide
   have i:((10:Int)==11)=false:=by decide
   have j:((10:Int)==12)=false:=by decide
   have q:((10:Int)==13)=false:=by decide
   have J:((10:Int)==6)=false:=by decide
   have f8:((10:Int)==8)=false:=by decide
   have I:((10:Int)==10)=true:=by decide
   rw[show df 10 l.length=((l.length:Int)==2) by unfold df;simp];exact iF
  by_cases h9:kd=9
  ·subst h9
   have dV:((9:Int)==1)=false:=by decide
   have mH:((9:Int)==2)=false:=by decide
   have m:((9:Int)==4)=false:=by decide
   have d:((9:Int)==14)=false:=by decide
   have c:((9:Int)==3)=false:=by decide
   have r:((9:Int)==5)=false:=by decide
   have u:((9:Int)==7)=false:=by decide
   have i:((9:Int)==11)=false:=by decide
   have j:((9:Int)==12)=false:=by decide
   have q:((9:Int)==13)=false:=by decide
   have J:((9:Int)==6)=false:=by decide
   have f8:((9:Int)==8)=false:=by decide
   have I:((9:Int)==10)=false:=by decide
   have f9:((9:Int)==9)=true:=by decide
   cases hq:((l.length:Int)==2)with
   |true =>
    rw[show df 9 l.length=true by unfold df;simp[hq]];exact iF
   |false =>
    rw[show df 9 l.length=((l.length:Int)==3) by unfold df;simp[hq]];exact iF
  have e:df kd l.length=false:=by unfold df;simp[O,Q,S,C,R,W,h7,z,A,B,h6,h8,w,h9]
  rw[e]
  have g1:(kd==1)=false:=by simpa using O
  have g2:(kd==2)=false:=by simpa using Q
  have g4:(kd==4)=false:=by simpa using S
  have g14:(kd==14)=false:=by simpa using C
  have g3:(kd==3)=false:=by simpa using R
  have g5:(kd==5)=false:=by simpa using W
  have g7:(kd==7)=false:=by simpa using h7
  have g11:(kd==11)=false:=by simpa using z
  have g12:(kd==12)=false:=by simpa using A
  have g13:(kd==13)=false:=by simpa using B
  have g6:(kd==6)=false:=by simpa using h6
  have g8:(kd==8)=false:=by simpa using h8
  have g10:(kd==10)=false:=by simpa using w
  have g9:(kd==9)=false:=by simpa using h9
  exact iF
 ·rintro _ _⟨rfl,rfl⟩;generalize df kd t.au.length=H;refine X ?_;refine GW.range (dd t.au).length (fun k M Γ=>M=U::U::U::U::.v (.bool (H&&(t.au.take k).all gJ))::zU 46 [.sl 1 (dd t.au),.v (ii ((dd t.au).length:Int)),.v (ii (k:Nat)),U,U,U,U,U,U,U,U,U,U]/\Γ=[]) ?_ Z ?_ ?_ ?_
  ·refine⟨_,_,Wk.bb (dh:=U::U::U::U::.v (.bool H)::zU 46 [.sl 1 (dd t.au),.v (ii ((dd t.au).length:Int)),.v (ii (0:Nat)),U,U,U,U,U,U,U,U,U,U]) aD,?_,rfl⟩;rw[List.take_zero,List.all_nil,Bool.and_true]
  ·rintro k _ _⟨rfl,rfl⟩;exact eB
  ·rintro k _ _ G⟨rfl,rfl⟩;rw[E]at G;obtain⟨kid,o⟩:∃kid,t.au[k]?=some kid:=⟨t.au[k],by simp[G]⟩;have hr:=vt o;have ps:=Go.Xp.uN o;have hle:=Go.Xp.rB t.au (k+1);have hih:=ih kid Z Z
   have F:(t.au.take (k+1)).all gJ=((t.au.take k).all gJ&&gJ kid):=by rw[dI,o,all_append];simp
   rw[F,<-Bool.and_assoc];generalize(H&&(t.au.take k).all gJ)=b at *
   cases b with
   |true =>
    refine X ?_;refine D [] hih ?_;exact zb9
   |false =>
    refine X ?_;exact zb9
  ·rintro _ _⟨rfl,rfl⟩;rw[E,ej];exact aC
def wA(l:List T):Int:=match l.findIdx? (fun t=>!(gJ t))with|some i=>(i:Int)|none => -1
theorem MB(t:T)(r:bg t<=1099511627776):GF prog 123 [uT t] [] (.v (.bool (!(gJ t)))) []:=by
 have h:=Pp _ t (a8 _) r;generalize gJ t=b at *;refine ah func123 ntmps123 ?_;exact zbk
theorem Ga(l:List T)(b:l.length<=1099511627776)(r:∀t∈l,bg t<=1099511627776) :
  GF prog 187 [.sl 1 (dd l),.v (.func (.func 123) #[] #[])] [] (.v (ii (wA l))) []:=by
 have A:=rn l;refine ah func187 ntmps187 ?_;refine GW.range (dd l).length (fun k o c=>o=[.sl 1 (dd l),.v (.func (.func 123) #[] #[]),U,U,U,U,U,.v (ii ((dd l).length:Int)),.v (ii (k:Nat)),U,U,U,U,U,U,U,U,U,U]/\c=[]/\(l.take k).all gJ=true) ?_ Z ?_ ?_ ?_
 ·exact lK
 ·exact jE
 ·rintro k _ _ i⟨rfl,rfl,W⟩;rw[A]at i
  have m:l[k]?=some l[k]:=by simp[i]
  have n:=vt m;have u:=MB l[k] (r _ (getElem_mem i))
  have N:(l.take (k+1)).all gJ=((l.take k).all gJ&&gJ l[k]):=by rw[dI,m,all_append];simp
  have B:gJ l[k]=false->wA l=(k:Int):=fun M=>by
   have:l.findIdx? (fun t=>!(gJ t))=some k:=by
    rw[List.findIdx?_eq_some_iff_getElem];refine⟨i,by simp[M],fun j q=>?_⟩;rw[fL]at W;have:=W l[j] zft;simp[this]
   unfold wA;rw[this]
  generalize l[k]=t at *
  cases G:gJ t with
  |true =>
   rw[G]at u N;refine X ?_;refine jW [] u ?_;exact zaZ
  |false =>
   rw[G]at u;rw[B G];refine X ?_;refine jW [] u ?_;exact aC
 ·rintro _ _⟨rfl,rfl,W⟩;rw[A,ej]at W
  have:l.findIdx? (fun t=>!(gJ t))=none:=by
   rw[List.findIdx?_eq_none_iff];intro x hx;rw[fL]at W;simp[W x hx]
  unfold wA;rw[this];exact aC
theorem PU(l:List T):decide ((0:Int)<=wA l)=!(l.all gJ):=by
 unfold wA
 cases h:l.findIdx? (fun t=>!(gJ t))with
 |some i =>
  rw[List.findIdx?_eq_some_iff_getElem]at h;have⟨z,v,_⟩:=h
  have:l.all gJ=false:=by
   rw[List.all_eq_false];exact⟨l[i],getElem_mem _,by simpa using v⟩
  rw[this];simp
 |none =>
  rw[List.findIdx?_eq_none_iff]at h
  have:l.all gJ=true:=by rw[fL];intro x hx;simpa using h x hx
  rw[this];rfl
theorem uO(l:List T)(W:l.length<=1099511627776)(r:∀t∈l,bg t<=1099511627776) :
  GF prog 122 [.sl 1 (dd l),.v (.func (.func 123) #[] #[])] [] (.v (.bool (!(l.all gJ)))) []:=by
 have h:=Ga l W r;rw[<-PU];generalize wA l=z at *;refine ah func122 ntmps122 ?_;exact zbk
end Go.Xg
set_option maxHeartbeats 2000000
namespace Go.Xg
open Go.RowKit Go.Xw Go.Proofs Tryz Go.Im
open Go.Xp (Tok T bg aZ en)
open Go.Sp (Src)
attribute [local irreducible] GW GL GO V GC GA bh bm
theorem Qz:Wr 126 127 dW ia :=
 ⟨fun a z v I=>TV _ a (a8 _) z v I,fun l d z v I=>Ph l d z v,fun l d s h=>Pj h⟩
theorem DL(p:Src)(h:p.ak.length>800):GF prog 64 [.agg (aQ p)] [] (.v (.bool false)) []:=by
 have N:(p.ak.map aU).length=p.ak.length:=by simp
 have n:decide ((800:Int)<((p.ak.map aU).length:Int))=true:=by rw[N];simpa using by omega
 refine ah func64 ntmps64 ?_;exact ax
theorem Bh(p:Src)(h:p.ak.length<=800)(G:∀n∈p.ak,n.au.length<=1099511627776)(hf:p.az.length<=1099511627776)(r:lb p.ak p.az 0 []=none):GF prog 64 [.agg (aQ p)] [] (.v (.bool false)) []:=by
 have N:(p.ak.map aU).length=p.ak.length:=by simp
 have o:decide ((800:Int)<((p.ak.map aU).length:Int))=false:=by rw[N];simpa using by omega
 have i:=vO p Z G hf;rw[r]at i;unfold Bw at i;refine ah func64 ntmps64 ?_;refine D [] i ?_;exact ax
theorem F5(p:Src)(l:List T)(e:Nat)(h:p.ak.length<=800)(G:∀n∈p.ak,n.au.length<=1099511627776)(hf:p.az.length<=1099511627776)(r:lb p.ak p.az 0 []=some (l,e))(j:e≠p.ak.length):GF prog 64 [.agg (aQ p)] [] (.v (.bool false)) []:=by
 have N:(p.ak.map aU).length=p.ak.length:=by simp
 have o:decide ((800:Int)<((p.ak.map aU).length:Int))=false:=by rw[N];simpa using by omega
 have i:=vO p Z G hf;rw[r]at i;unfold Bw at i;simp only at i;rw[show((e:Int)==(p.ak.length:Int))=false by simp only[beq_eq_false_iff_ne,ne_eq];omega]at i;refine ah func64 ntmps64 ?_;refine D [] i ?_;exact ax
theorem DJ(p:Src)(l:List T)(h:p.ak.length<=800)(G:∀n∈p.ak,n.au.length<=1099511627776)(hf:p.az.length<=1099511627776)(r:lb p.ak p.az 0 []=some (l,p.ak.length))(W:l.length<=1099511627776)(o:∀t∈l,bg t<=1099511627776)(hn:l.all gJ=false):GF prog 64 [.agg (aQ p)] [] (.v (.bool false)) []:=by
 have N:(p.ak.map aU).length=p.ak.length:=by simp
 have q:decide ((800:Int)<((p.ak.map aU).length:Int))=false:=by rw[N];simpa using by omega
 have i:=vO p Z G hf;rw[r]at i;unfold Bw at i;simp only at i;rw[show((p.ak.length:Int)==(p.ak.length:Int))=true by simp]at i;have I:=uO l W o;rw[hn]at I;refine ah func64 ntmps64 ?_;refine D [] i ?_;refine D [] I ?_;exact ax
theorem Nv(st:PS)(h:st.az.length=st.aJ.length):nX st.az st.aJ st.aJ.length=(pE st).map aO:=by
 unfold nX pE;apply ext_getElem?;intro i;rw[b6,getElem?_mapIdx,getElem?_mapIdx]
 cases hx:st.az[i]? with
 |none=>rfl
 |some x =>
  have M:=(bG hx).1;simp only[Option.map_some];rw[ae Z];rfl
def RI(st:PS):Src:=⟨st.aw,st.aq,pE st,en 0 st.aJ⟩
theorem Wl{q:Go.Sp.RS}{st:PS}(o:q.code=0)(O:¬aZ st.aJ>800)(h:st.az.length=st.aJ.length):IC q st=.tup [.agg (aQ (RI st)),.v (ii 0),.v (ii 0)]:=by
 unfold IC;rw[ae o,ab O,Nv st h];rfl
theorem F6(p:Src)(l:List T)(x:ai)(ts:List Tok)(c z:Int)(h:p.ak.length<=800)(i:GF prog 74 [.agg (aQ p)] [] (.tup [.sl 1 (dd l),.v (.bool true)]) [])
  (I:GF prog 122 [.sl 1 (dd l),.v (.func (.func 123) #[] #[])] [] (.v (.bool false)) [])
  (m:GF prog 125 [.agg (aQ p),.sl 1 (dd l),.v (jX 126),.v (jX 127)] [] (.v (sv x)) [])
  (E:GF prog 128 [.v (sv x)] [] (.tup [ic ts,.v (ii c),.v (ii z)]) [])(o:(c != 0)=true) :
  GF prog 64 [.agg (aQ p)] [] (.v (.bool false)) []:=by
 have N:(p.ak.map aU).length=p.ak.length:=by simp
 have n:decide ((800:Int)<((p.ak.map aU).length:Int))=false:=by rw[N];simpa using by omega
 refine ah func64 ntmps64 ?_;refine D [] i ?_;refine D [] I ?_;refine D [] m ?_;refine D [] E ?_;exact ax
theorem yG(p:Src)(l:List T)(x:ai)(ts:List Tok)(c k a:Int)(h:p.ak.length<=800)(i:GF prog 74 [.agg (aQ p)] [] (.tup [.sl 1 (dd l),.v (.bool true)]) [])
  (I:GF prog 122 [.sl 1 (dd l),.v (.func (.func 123) #[] #[])] [] (.v (.bool false)) [])
  (m:GF prog 125 [.agg (aQ p),.sl 1 (dd l),.v (jX 126),.v (jX 127)] [] (.v (sv x)) [])
  (E:GF prog 128 [.v (sv x)] [] (.tup [ic ts,.v (ii 0),.v (ii c)]) [])
  (n:GF prog 129 [ic ts,.v (ii (x.length:Int))] [] (.tup [.agg [.sl 1 [],.sl 2 [],.sl 3 [],.sl 5 []],.v (ii k),.v (ii a)]) [])(G:(k==0)=false) :
  GF prog 64 [.agg (aQ p)] [] (.v (.bool false)) []:=by
 have N:(p.ak.map aU).length=p.ak.length:=by simp
 have o:decide ((800:Int)<((p.ak.map aU).length:Int))=false:=by rw[N];simpa using by omega
 refine ah func64 ntmps64 ?_;refine zaU ?_;exact ax
theorem Jm(p r:Src)(l:List T)(x:ai)(ts:List Tok)(c:Int)(h:p.ak.length<=800)(i:GF prog 74 [.agg (aQ p)] [] (.tup [.sl 1 (dd l),.v (.bool true)]) [])
  (I:GF prog 122 [.sl 1 (dd l),.v (.func (.func 123) #[] #[])] [] (.v (.bool false)) [])
  (m:GF prog 125 [.agg (aQ p),.sl 1 (dd l),.v (jX 126),.v (jX 127)] [] (.v (sv x)) [])
  (E:GF prog 128 [.v (sv x)] [] (.tup [ic ts,.v (ii 0),.v (ii c)]) [])
   (hg:GF prog 130 [strs p.aw,strs r.aw] [] (.v (.bool false)) [])
  (n:GF prog 129 [ic ts,.v (ii (x.length:Int))] [] (.tup [.agg (aQ r),.v (ii 0),.v (ii 0)]) []) :
  GF prog 64 [.agg (aQ p)] [] (.v (.bool false)) []:=by
 have N:(p.ak.map aU).length=p.ak.length:=by simp
 have o:decide ((800:Int)<((p.ak.map aU).length:Int))=false:=by rw[N];simpa using by omega
 refine ah func64 ntmps64 ?_;refine zaU ?_;refine D [] hg ?_;exact ax
theorem Jn(p r:Src)(l:List T)(x:ai)(ts:List Tok)(c:Int)(h:p.ak.length<=800)(i:GF prog 74 [.agg (aQ p)] [] (.tup [.sl 1 (dd l),.v (.bool true)]) [])
  (I:GF prog 122 [.sl 1 (dd l),.v (.func (.func 123) #[] #[])] [] (.v (.bool false)) [])
  (m:GF prog 125 [.agg (aQ p),.sl 1 (dd l),.v (jX 126),.v (jX 127)] [] (.v (sv x)) [])
  (E:GF prog 128 [.v (sv x)] [] (.tup [ic ts,.v (ii 0),.v (ii c)]) [])
   (hg:GF prog 130 [strs p.aw,strs r.aw] [] (.v (.bool true)) [])
  (ha:GF prog 131 [(.sl 2 (p.aq.map fun s=>bc s)),(.sl 2 (r.aq.map fun s=>bc s))] [] (.v (.bool false)) [])
  (n:GF prog 129 [ic ts,.v (ii (x.length:Int))] [] (.tup [.agg (aQ r),.v (ii 0),.v (ii 0)]) []) :
  GF prog 64 [.agg (aQ p)] [] (.v (.bool false)) []:=by
 have N:(p.ak.map aU).length=p.ak.length:=by simp
 have o:decide ((800:Int)<((p.ak.map aU).length:Int))=false:=by rw[N];simpa using by omega
 refine ah func64 ntmps64 ?_;refine zaU ?_;refine D [] hg ?_;refine D [] ha ?_;exact ax
theorem Jo(p r:Src)(l:List T)(x:ai)(ts:List Tok)(c:Int)(h:p.ak.length<=800)(i:GF prog 74 [.agg (aQ p)] [] (.tup [.sl 1 (dd l),.v (.bool true)]) [])
  (I:GF prog 122 [.sl 1 (dd l),.v (.func (.func 123) #[] #[])] [] (.v (.bool false)) [])
  (m:GF prog 125 [.agg (aQ p),.sl 1 (dd l),.v (jX 126),.v (jX 127)] [] (.v (sv x)) [])
  (E:GF prog 128 [.v (sv x)] [] (.tup [ic ts,.v (ii 0),.v (ii c)]) [])
   (hg:GF prog 130 [strs p.aw,strs r.aw] [] (.v (.bool true)) [])
  (ha:GF prog 131 [(.sl 2 (p.aq.map fun s=>bc s)),(.sl 2 (r.aq.map fun s=>bc s))] [] (.v (.bool true)) [])
  (hf:GF prog 132 [.sl 3 (p.az.map aO),.sl 3 (r.az.map aO),.v (.func (.func 133) #[] #[])] [] (.v (.bool false)) [])
  (n:GF prog 129 [ic ts,.v (ii (x.length:Int))] [] (.tup [.agg (aQ r),.v (ii 0),.v (ii 0)]) []) :
  GF prog 64 [.agg (aQ p)] [] (.v (.bool false)) []:=by
 have N:(p.ak.map aU).length=p.ak.length:=by simp
 have o:decide ((800:Int)<((p.ak.map aU).length:Int))=false:=by rw[N];simpa using by omega
 refine ah func64 ntmps64 ?_;refine zaU ?_;refine D [] hg ?_;refine D [] ha ?_;refine D [] hf ?_;exact ax
theorem Jp(p r:Src)(l:List T)(x:ai)(ts:List Tok)(c:Int)(b:Bool)(h:p.ak.length<=800)(i:GF prog 74 [.agg (aQ p)] [] (.tup [.sl 1 (dd l),.v (.bool true)]) [])
  (I:GF prog 122 [.sl 1 (dd l),.v (.func (.func 123) #[] #[])] [] (.v (.bool false)) [])
  (m:GF prog 125 [.agg (aQ p),.sl 1 (dd l),.v (jX 126),.v (jX 127)] [] (.v (sv x)) [])
  (E:GF prog 128 [.v (sv x)] [] (.tup [ic ts,.v (ii 0),.v (ii c)]) [])
   (hg:GF prog 130 [strs p.aw,strs r.aw] [] (.v (.bool true)) [])
  (ha:GF prog 131 [(.sl 2 (p.aq.map fun s=>bc s)),(.sl 2 (r.aq.map fun s=>bc s))] [] (.v (.bool true)) [])
  (hf:GF prog 132 [.sl 3 (p.az.map aO),.sl 3 (r.az.map aO),.v (.func (.func 133) #[] #[])] [] (.v (.bool true)) [])
  (hn:GF prog 134 [.sl 5 (p.ak.map aU),.sl 5 (r.ak.map aU),.v (.func (.func 135) #[] #[])] [] (.v (.bool b)) [])
  (n:GF prog 129 [ic ts,.v (ii (x.length:Int))] [] (.tup [.agg (aQ r),.v (ii 0),.v (ii 0)]) []) :
  GF prog 64 [.agg (aQ p)] [] (.v (.bool b)) []:=by
 have N:(p.ak.map aU).length=p.ak.length:=by simp
 have o:decide ((800:Int)<((p.ak.map aU).length:Int))=false:=by rw[N];simpa using by omega
 refine ah func64 ntmps64 ?_;refine zaU ?_;refine D [] hg ?_;refine D [] ha ?_;refine D [] hf ?_;refine D [] hn ?_;exact ax
theorem DM(p r:Src)(l:List T)(x:ai)(ts:List Tok)(c:Int)(j W R o:Bool)(h:p.ak.length<=800)(i:GF prog 74 [.agg (aQ p)] [] (.tup [.sl 1 (dd l),.v (.bool true)]) [])
  (I:GF prog 122 [.sl 1 (dd l),.v (.func (.func 123) #[] #[])] [] (.v (.bool false)) [])
  (m:GF prog 125 [.agg (aQ p),.sl 1 (dd l),.v (jX 126),.v (jX 127)] [] (.v (sv x)) [])
  (E:GF prog 128 [.v (sv x)] [] (.tup [ic ts,.v (ii 0),.v (ii c)]) [])
  (hg:GF prog 130 [strs p.aw,strs r.aw] [] (.v (.bool j)) [])
  (ha:GF prog 131 [(.sl 2 (p.aq.map fun s=>bc s)),(.sl 2 (r.aq.map fun s=>bc s))] [] (.v (.bool W)) [])
  (hf:GF prog 132 [.sl 3 (p.az.map aO),.sl 3 (r.az.map aO),.v (.func (.func 133) #[] #[])] [] (.v (.bool R)) [])
  (hn:GF prog 134 [.sl 5 (p.ak.map aU),.sl 5 (r.ak.map aU),.v (.func (.func 135) #[] #[])] [] (.v (.bool o)) [])
  (n:GF prog 129 [ic ts,.v (ii (x.length:Int))] [] (.tup [.agg (aQ r),.v (ii 0),.v (ii 0)]) []) :
  GF prog 64 [.agg (aQ p)] [] (.v (.bool (j&&(W&&(R&&o))))) []:=by
 cases j with
 |false=>exact Jm p r l x ts c h i I m E hg n
 |true =>
  cases W with
  |false=>exact Jn p r l x ts c h i I m E hg ha n
  |true =>
   cases R with
   |false=>exact Jo p r l x ts c h i I m E hg ha hf n
   |true=>exact Jp p r l x ts c o h i I m E hg ha hf hn n
end Go.Xg
