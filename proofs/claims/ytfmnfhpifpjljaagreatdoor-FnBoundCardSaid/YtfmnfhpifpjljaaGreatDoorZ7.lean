/- Part 7 of proofs that are told in their last texts. -/
import Derived.Shelf.Small.Strs
import Derived.Shelf.Strings.BuilderF
import Derived.Shelf.Strconv.Itoa3
import Derived.Shelf.Strings.Shaped
import Derived.Shelf.Sort.Plain
import Derived.Shelf.Strings.Prefix
import Derived.Shelf.Strings.SplitShaped
import Derived.Shelf.Unicode.ExclAny
import Derived.Shelf.Slices.CompactI
import Derived.Shelf.Slices.In.SortNone
import Derived.Test.YtfmnfhpifpjljaaGreatDoorZ6
open List (all_append getD_cons_succ getD_cons_zero getElem?_mapIdx getElem_mem length_cons length_nil map_nil sum_cons)
set_option linter.unusedVariables false
set_option linter.unusedSimpArgs false
set_option maxRecDepth 100000
namespace Go
theorem zbK{A:Prop}(s:A:=by refine zac ?_;refine I [0] R ?_;refine GW.wk (Wk.xe (i:=1) (o:=5) rfl rfl rfl rfl V) ?_;refine GW.wk (Wk.freeze (i:=1) rfl rfl rfl (ed rfl)) ?_;exact aw):A:=s
theorem zdb{A:Prop}(s:A:=by refine zac ?_;refine I [0] R ?_;refine GW.wk (Wk.ky (t:=4) rfl rfl rfl V) ?_;exact aw):A:=s
theorem zdN{A B:Prop}(h:B)(s:PLift B->A:=by intro hQ;refine Z ?_;refine aS (aK 0 11 .nil) ?_;refine bp ?_;rw[r];refine GW.wk (Wk.freeze (i:=0) rfl rfl rfl (aQ _)) ?_;exact hQ.1):A:=s ⟨h⟩
theorem zdS{A:Prop}(s:A:=by refine GW.ret ?_;refine kD (n:=1) rfl c8 rfl (bg _) rfl rfl ?_;exact zak):A:=s
end Go
namespace Go.Xw
open Go.RowKit Go.WideShapes Go.ChangeShapes
section
variable{H:Type}{enc:TypeId × Value->H}{P:Program}
theorem Ep{f:Func}{s:ChangeSpec}{apart fresh handsOn again:Bool}{W W':World}{args:Array Value}{v:Value}{ds gs:List (DataW H)}{before pa pv:List MemPlace}
  (hW:DataW.Whole enc P f.params.toList s.vars apart W args.toList ds gs before)
  (Xf:∀(b:Nat)(sp:Nat->Bool)(hd:Bool),DataW.TrodAll enc P W' b sp hd f.resultTypes.toList (v.resultList f.resultTypes.size) (s.fn H (ds++gs)).results [])
  (Ll:∀sp:Nat->Bool,(∀p∈before,sp p.block=true)->DataW.TrodAll enc P W' 0 sp true f.params.toList args.toList (s.fn H (ds++gs)).args pa)
  (S8:∀sp:Nat->Bool,(∀p∈before,sp p.block=true)->DataW.TrodVars enc P W' sp s.vars (s.fn H (ds++gs)).vars pv)
  (Js:before=pa++pv)(hb:Below W.heap.size W W')
  (sE:∀(j:Nat)(t:TypeId)(r:Value),f.resultTypes[j]?=some t->(v.resultList f.resultTypes.size)[j]?=some r->Value.okWide P W' .any 0 t r) :
  s.post enc P f apart fresh handsOn again W args v W':=by
 have mo:∀p∈before,p.block<W.heap.size:=fun p hp=>hW.lt p hp
 have hold:∀p∈before,(fun b=>decide (b<W.heap.size)) p.block=true:=fun p hp=>by simpa using mo p hp
 refine⟨ds,gs,before,[],pa,pv,hW,Xf _ _ _,Ll _ hold,S8 _ hold,World.keptBut_mono (fun p hp=>⟨hp,?_⟩) (hb.frame (·∈before)),fun _=>?_⟩
 ·rw[Js,List.mem_append]at hp;exact Or.inr hp
 ·have⟨_,_,_,_,_,hz,hn⟩:=hW;refine⟨sE,_,_,([]++pa)++pv,⟨[]++pa,pv,trodAll_append (Ll _ (fun _ _=>rfl)) (Xf _ _ _),S8 _ (fun _ _=>rfl),rfl,?_,?_⟩,?_⟩
  ·intro b off hp
   have Jn:MemPlace.cell b off∈before:=by rw[Js];simpa using hp
   rw[hb.frozen (mo _ Jn)];exact hz b off Jn
  ·intro ha;have:=hn ha;rw[Js]at this;exact zdQ
  ·intro p hp _;rw[Js];simpa using hp
end
end Go.Xw
namespace Go.Proofs
open Go.Shelf
theorem dA{S:Type}{a:Option S}{b c:S}(h:a=some b)(k:b=c:=by kernel_rfl):a=some c:=h.trans (congrArg some k)
def Tryz.zv:Go.Shelf.Ren:=⟨fun|165=>242|240=>307|241=>308|276=>351|277=>352|n=>n,fun|70=>244|3=>3|0=>0|4=>4|9=>9|20=>20|72=>246|37=>22|164=>313|5=>5|n=>n,fun|n=>n⟩
theorem Tryz.UM:Go.Proofs.Lays.n165 Tryz.prog Tryz.zv:={
 mixed:=by kernel_rfl
 f165:=dA Tryz.func242
 f240:=dA Tryz.func307
 f241:=dA Tryz.func308
 f276:=dA Tryz.func351
 f277:=dA Tryz.func352
 t0:=Tryz.underlying0
 a0:=Tryz.isAgg0
 z0:=Tryz.sizeOf0
 v0:=Tryz.zeroValue0
 t3:=Tryz.underlying3
 a3:=Tryz.isAgg3
 z3:=Tryz.sizeOf3
 v3:=Tryz.zeroValue3
 t4:=Tryz.underlying4
 a4:=Tryz.isAgg4
 z4:=Tryz.sizeOf4
 v4:=Tryz.zeroValue4
 t9:=Tryz.underlying9
 a9:=Tryz.isAgg9
 z9:=Tryz.sizeOf9
 v9:=Tryz.zeroValue9
 t20:=Tryz.underlying20
 a20:=Tryz.isAgg20
 z20:=Tryz.sizeOf20
 v20:=Tryz.zeroValue20
 t37:=Tryz.underlying22
 a37:=Tryz.isAgg22
 z37:=Tryz.sizeOf22
 v37:=Tryz.zeroValue22
 t70:=Tryz.underlying244
 a70:=Tryz.isAgg244
 z70:=Tryz.sizeOf244
 v70:=Tryz.zeroValue244
 t72:=Tryz.underlying246
 a72:=Tryz.isAgg246
 z72:=Tryz.sizeOf246
 v72:=Tryz.zeroValue246
 t164:=Tryz.underlying313
 a164:=Tryz.isAgg313
 z164:=Tryz.sizeOf313
 v164:=Tryz.zeroValue313 }
theorem Tryz.y9:Builder.Extra Tryz.prog Tryz.zv:={
 sizeBuilder:=by kernel_rfl
 liesBuilder:=by kernel_rfl
 t5:=Tryz.underlying5
 a5:=Tryz.isAgg5
 z5:=Tryz.sizeOf5
 v5:=Tryz.zeroValue5
 infoByte:=by kernel_rfl
 cellsByte:=by kernel_rfl
 sizeByte:=by kernel_rfl
 neB5:=by decide }
open Go.RowKit in
theorem Tryz.Builder_Grow_fresh(B b n:Nat)(w:World)(i:B<=b)(d:w.heap[b]?=some (.cells #[.pointer none,.slice none 0 0] 246 (0,0)))(o:B<=w.heap.size)(hn:n<=281474976710656) :
  Calls Tryz.prog 242 #[.pointer (some ⟨b,0,none⟩),.int .i64 n] w fun e w'=>e=.returned (.tuple #[])/\(Lib.BuilderAt 246 5 B b (.pointer (some ⟨b,0,none⟩)) [] w'/\Below B w w'):=Any.Builder_Grow_fresh Tryz.UM Tryz.y9 B b n w i d o hn
def Tryz.H3:Go.Shelf.Ren:=⟨fun|137=>195|217=>249|266=>310|n=>n,fun|9=>9|5=>5|3=>3|n=>n,fun|n=>n⟩
theorem Tryz.UK:Go.Proofs.Lays.n137 Tryz.prog Tryz.H3:={
 mixed:=by kernel_rfl
 f137:=dA Tryz.func195
 f217:=dA Tryz.func249
 f266:=dA Tryz.func310
 t3:=Tryz.underlying3
 a3:=Tryz.isAgg3
 z3:=Tryz.sizeOf3
 v3:=Tryz.zeroValue3
 t5:=Tryz.underlying5
 a5:=Tryz.isAgg5
 z5:=Tryz.sizeOf5
 v5:=Tryz.zeroValue5
 t9:=Tryz.underlying9
 a9:=Tryz.isAgg9
 z9:=Tryz.sizeOf9
 v9:=Tryz.zeroValue9 }
open Go.RowKit in
theorem Tryz.strings_IndexByte(s:ByteArray)(c:Int)(w:World) :
  Calls Tryz.prog 195 #[.string s,.int .u8 c] w fun e w'=>e=.returned (.int .i64 (Lib.indexByte s.data.toList c.toNat.toUInt8))/\w'=w:=Any.strings_IndexByte Tryz.UK s c w
def Tryz.F2:Go.Shelf.Ren:=⟨fun|171=>188|243=>241|246=>306|283=>347|284=>348|285=>349|286=>350|129=>275|317=>368|318=>369|319=>370|320=>371|337=>377|338=>378|n=>n,fun|3=>3|9=>9|2=>2|4=>4|171=>309|0=>0|53=>271|37=>22|5=>5|173=>311|212=>328|51=>269|20=>20|213=>329|46=>178|232=>345|233=>346|n=>n,fun|17=>3|18=>4|19=>5|n=>n⟩
theorem Tryz.Rb:Go.Proofs.LaysM.n171 Tryz.prog Tryz.F2:={
 mixed:=by kernel_rfl
 f129:=dA Tryz.func275
 f171:=dA Tryz.func188
 f243:=dA Tryz.func241
 f246:=dA Tryz.func306
 f283:=dA Tryz.func347
 f284:=dA Tryz.func348
 f285:=dA Tryz.func349
 f286:=dA Tryz.func350
 f317:=dA Tryz.func368
 f318:=dA Tryz.func369
 f319:=dA Tryz.func370
 f320:=dA Tryz.func371
 f337:=dA Tryz.func377
 f338:=dA Tryz.func378
 t0:=Tryz.underlying0
 a0:=Tryz.isAgg0
 z0:=Tryz.sizeOf0
 v0:=Tryz.zeroValue0
 t2:=Tryz.underlying2
 a2:=Tryz.isAgg2
 z2:=Tryz.sizeOf2
 v2:=Tryz.zeroValue2
 t3:=Tryz.underlying3
 a3:=Tryz.isAgg3
 z3:=Tryz.sizeOf3
 v3:=Tryz.zeroValue3
 t4:=Tryz.underlying4
 a4:=Tryz.isAgg4
 z4:=Tryz.sizeOf4
 v4:=Tryz.zeroValue4
 t5:=Tryz.underlying5
 a5:=Tryz.isAgg5
 z5:=Tryz.sizeOf5
 v5:=Tryz.zeroValue5
 t9:=Tryz.underlying9
 a9:=Tryz.isAgg9
 z9:=Tryz.sizeOf9
 v9:=Tryz.zeroValue9
 t20:=Tryz.underlying20
 a20:=Tryz.isAgg20
 z20:=Tryz.sizeOf20
 v20:=Tryz.zeroValue20
 t37:=Tryz.underlying22
 a37:=Tryz.isAgg22
 z37:=Tryz.sizeOf22
 v37:=Tryz.zeroValue22
 t46:=Tryz.underlying178
 a46:=Tryz.isAgg178
 z46:=Tryz.sizeOf178
 v46:=Tryz.zeroValue178
 t51:=Tryz.underlying269
 a51:=Tryz.isAgg269
 z51:=Tryz.sizeOf269
 v51:=Tryz.zeroValue269
 t53:=Tryz.underlying271
 a53:=Tryz.isAgg271
 z53:=Tryz.sizeOf271
 v53:=Tryz.zeroValue271
 t171:=Tryz.underlying309
 a171:=Tryz.isAgg309
 z171:=Tryz.sizeOf309
 v171:=Tryz.zeroValue309
 t173:=Tryz.underlying311
 a173:=Tryz.isAgg311
 z173:=Tryz.sizeOf311
 v173:=Tryz.zeroValue311
 t212:=Tryz.underlying328
 a212:=Tryz.isAgg328
 z212:=Tryz.sizeOf328
 v212:=Tryz.zeroValue328
 t213:=Tryz.underlying329
 a213:=Tryz.isAgg329
 z213:=Tryz.sizeOf329
 t232:=Tryz.underlying345
 a232:=Tryz.isAgg345
 z232:=Tryz.sizeOf345
 v232:=Tryz.zeroValue345
 t233:=Tryz.underlying346
 a233:=Tryz.isAgg346
 z233:=Tryz.sizeOf346
 v233:=Tryz.zeroValue346
 g17:=by kernel_rfl
 g18:=by kernel_rfl
 g19:=by kernel_rfl
 i0:=by kernel_rfl
 i2:=by kernel_rfl
 i3:=by kernel_rfl
 i4:=by kernel_rfl
 i5:=by kernel_rfl
 i9:=by kernel_rfl
 i20:=by kernel_rfl
 i37:=by kernel_rfl
 i46:=by kernel_rfl
 i51:=by kernel_rfl
 i53:=by kernel_rfl
 i171:=by kernel_rfl
 i173:=by kernel_rfl
 i212:=by kernel_rfl
 i232:=by kernel_rfl
 i233:=by kernel_rfl
 m17:=by kernel_rfl
 m18:=by kernel_rfl
 m19:=by kernel_rfl }
open Go.RowKit Go.Sort Go.Lib in
theorem Tryz.strconv_Itoa(n:Int)(s : -9223372036854775808<=n)(M:n<=9223372036854775807)(w:World)(E:Lib.TabIs Tryz.prog w "internal/strconv.uint64pow10" .u64 Lib.pow10Tab) :
  Calls Tryz.prog 188 #[.int .i64 n] w fun e w'=>e=.returned (.string ⟨(Lib.itoa n).toArray⟩)/\∃k os,w'=grow (w.drewN k) os:=Any.strconv_Itoa Tryz.Rb n s M w E
def Tryz.H4:Go.Shelf.Ren:=⟨fun|143=>197|219=>251|217=>249|225=>311|224=>312|267=>313|266=>310|314=>353|n=>n,fun|9=>9|3=>3|4=>4|5=>5|46=>178|146=>316|51=>269|n=>n,fun|1=>0|n=>n⟩
theorem Tryz.UL:Go.Proofs.Lays.n143 Tryz.prog Tryz.H4:={
 mixed:=by kernel_rfl
 f143:=dA Tryz.func197
 f217:=dA Tryz.func249
 f219:=dA Tryz.func251
 f224:=dA Tryz.func312
 f225:=dA Tryz.func311
 f266:=dA Tryz.func310
 f267:=dA Tryz.func313
 f314:=dA Tryz.func353
 t3:=Tryz.underlying3
 a3:=Tryz.isAgg3
 z3:=Tryz.sizeOf3
 v3:=Tryz.zeroValue3
 t4:=Tryz.underlying4
 a4:=Tryz.isAgg4
 z4:=Tryz.sizeOf4
 v4:=Tryz.zeroValue4
 t5:=Tryz.underlying5
 a5:=Tryz.isAgg5
 z5:=Tryz.sizeOf5
 v5:=Tryz.zeroValue5
 t9:=Tryz.underlying9
 a9:=Tryz.isAgg9
 z9:=Tryz.sizeOf9
 v9:=Tryz.zeroValue9
 t46:=Tryz.underlying178
 a46:=Tryz.isAgg178
 z46:=Tryz.sizeOf178
 v46:=Tryz.zeroValue178
 t51:=Tryz.underlying269
 a51:=Tryz.isAgg269
 z51:=Tryz.sizeOf269
 v51:=Tryz.zeroValue269
 t146:=Tryz.underlying316
 a146:=Tryz.isAgg316
 z146:=Tryz.sizeOf316
 v146:=Tryz.zeroValue316
 g1:=by kernel_rfl }
open Go.RowKit Go.Lib in
theorem Tryz.strings_Index(s sub:ByteArray)(m:Int)(w:World)(q:s.size<4294967281)(G:w.cell? ⟨0,0,none⟩=some (.int .i64 m)) :
  Calls Tryz.prog 197 #[.string s,.string sub] w fun e w'=>e=.returned (.int .i64 (Lib.index s.data.toList sub.data.toList))/\w'=w:=Any.strings_Index Tryz.UL s sub m w q G
def Tryz.H6:Go.Shelf.Ren:=⟨fun|189=>158|125=>210|257=>213|128=>274|129=>275|294=>276|295=>277|296=>278|297=>279|298=>280|299=>281|216=>282|300=>283|301=>284|328=>331|329=>326|330=>327|331=>332|332=>333|215=>334|343=>362|n=>n,fun|28=>29|3=>3|46=>178|0=>0|51=>269|53=>271|4=>4|183=>263|182=>262|131=>225|5=>5|9=>9|218=>295|222=>234|228=>320|229=>41|n=>n,fun|n=>n⟩
theorem Tryz.JG:Go.Proofs.Lays.n189 Tryz.prog Tryz.H6:={
 mixed:=by kernel_rfl
 f125:=dA Tryz.func210
 f128:=dA Tryz.func274
 f129:=dA Tryz.func275
 f189:=dA Tryz.func158
 f215:=dA Tryz.func334
 f216:=dA Tryz.func282
 f257:=dA Tryz.func213
 f294:=dA Tryz.func276
 f295:=dA Tryz.func277
 f296:=dA Tryz.func278
 f297:=dA Tryz.func279
 f298:=dA Tryz.func280
 f299:=dA Tryz.func281
 f300:=dA Tryz.func283
 f301:=dA Tryz.func284
 f328:=dA Tryz.func331
 f329:=dA Tryz.func326
 f330:=dA Tryz.func327
 f331:=dA Tryz.func332
 f332:=dA Tryz.func333
 f343:=dA Tryz.func362
 t0:=Tryz.underlying0
 a0:=Tryz.isAgg0
 z0:=Tryz.sizeOf0
 v0:=Tryz.zeroValue0
 t3:=Tryz.underlying3
 a3:=Tryz.isAgg3
 z3:=Tryz.sizeOf3
 v3:=Tryz.zeroValue3
 t4:=Tryz.underlying4
 a4:=Tryz.isAgg4
 z4:=Tryz.sizeOf4
 v4:=Tryz.zeroValue4
 t5:=Tryz.underlying5
 a5:=Tryz.isAgg5
 z5:=Tryz.sizeOf5
 v5:=Tryz.zeroValue5
 t9:=Tryz.underlying9
 a9:=Tryz.isAgg9
 z9:=Tryz.sizeOf9
 v9:=Tryz.zeroValue9
 t28:=Tryz.underlying29
 a28:=Tryz.isAgg29
 z28:=Tryz.sizeOf29
 v28:=Tryz.zeroValue29
 t46:=Tryz.underlying178
 a46:=Tryz.isAgg178
 z46:=Tryz.sizeOf178
 v46:=Tryz.zeroValue178
 t51:=Tryz.underlying269
 a51:=Tryz.isAgg269
 z51:=Tryz.sizeOf269
 v51:=Tryz.zeroValue269
 t53:=Tryz.underlying271
 a53:=Tryz.isAgg271
 z53:=Tryz.sizeOf271
 v53:=Tryz.zeroValue271
 t131:=Tryz.underlying225
 a131:=Tryz.isAgg225
 z131:=Tryz.sizeOf225
 v131:=Tryz.zeroValue225
 t182:=Tryz.underlying262
 a182:=Tryz.isAgg262
 z182:=Tryz.sizeOf262
 v182:=Tryz.zeroValue262
 t183:=Tryz.underlying263
 a183:=Tryz.isAgg263
 z183:=Tryz.sizeOf263
 v183:=Tryz.zeroValue263
 t218:=Tryz.underlying295
 a218:=Tryz.isAgg295
 z218:=Tryz.sizeOf295
 v218:=Tryz.zeroValue295
 t222:=Tryz.underlying234
 a222:=Tryz.isAgg234
 z222:=Tryz.sizeOf234
 v222:=Tryz.zeroValue234
 t228:=Tryz.underlying320
 a228:=Tryz.isAgg320
 z228:=Tryz.sizeOf320
 v228:=Tryz.zeroValue320
 t229:=Tryz.underlying41
 a229:=Tryz.isAgg41
 z229:=Tryz.sizeOf41
 v229:=Tryz.zeroValue41 }
open Go.Sort Go.RowKit in
theorem Tryz.slices_Sort_int(blk F E:Nat)(zs:List Int)(w:World)(G:Holds (Value.int .i64) w blk F zs.toArray)(o:blk<w.heap.size)(z:zs.length<4611686018427387904) :
  Calls Tryz.prog 158 #[.slice (some ⟨blk,F,none⟩) zs.length E] w fun e w' =>
   e=.returned (.tuple #[])/\∃n os,w'=grow (putRow (Value.int .i64) (Sort.ahead w n) blk F (zs.mergeSort fun x y=>decide (x<=y)).toArray) os:=Any.slices_Sort_int Tryz.JG blk F E zs w G o z
def Tryz.F1:Go.Shelf.Ren:=⟨fun|157=>305|229=>345|199=>346|261=>367|311=>375|312=>376|n=>n,fun|9=>9|31=>23|3=>3|5=>5|4=>4|119=>306|0=>0|40=>308|152=>323|21=>21|154=>325|51=>269|141=>327|196=>334|193=>331|198=>337|49=>335|194=>332|201=>340|226=>343|46=>178|227=>344|n=>n,fun|0=>1|6=>2|n=>n⟩
theorem Tryz.Ra:Go.Proofs.LaysM.n157 Tryz.prog Tryz.F1:={
 mixed:=by kernel_rfl
 f157:=dA Tryz.func305
 f199:=dA Tryz.func346
 f229:=dA Tryz.func345
 f261:=dA Tryz.func367
 f311:=dA Tryz.func375
 f312:=dA Tryz.func376
 t0:=Tryz.underlying0
 a0:=Tryz.isAgg0
 z0:=Tryz.sizeOf0
 v0:=Tryz.zeroValue0
 t3:=Tryz.underlying3
 a3:=Tryz.isAgg3
 z3:=Tryz.sizeOf3
 v3:=Tryz.zeroValue3
 t4:=Tryz.underlying4
 a4:=Tryz.isAgg4
 z4:=Tryz.sizeOf4
 v4:=Tryz.zeroValue4
 t5:=Tryz.underlying5
 a5:=Tryz.isAgg5
 z5:=Tryz.sizeOf5
 v5:=Tryz.zeroValue5
 t9:=Tryz.underlying9
 a9:=Tryz.isAgg9
 z9:=Tryz.sizeOf9
 v9:=Tryz.zeroValue9
 t21:=Tryz.underlying21
 a21:=Tryz.isAgg21
 z21:=Tryz.sizeOf21
 v21:=Tryz.zeroValue21
 t31:=Tryz.underlying23
 a31:=Tryz.isAgg23
 z31:=Tryz.sizeOf23
 v31:=Tryz.zeroValue23
 t40:=Tryz.underlying308
 a40:=Tryz.isAgg308
 z40:=Tryz.sizeOf308
 v40:=Tryz.zeroValue308
 t46:=Tryz.underlying178
 a46:=Tryz.isAgg178
 z46:=Tryz.sizeOf178
 v46:=Tryz.zeroValue178
 t49:=Tryz.underlying335
 a49:=Tryz.isAgg335
 z49:=Tryz.sizeOf335
 v49:=Tryz.zeroValue335
 t51:=Tryz.underlying269
 a51:=Tryz.isAgg269
 z51:=Tryz.sizeOf269
 v51:=Tryz.zeroValue269
 t119:=Tryz.underlying306
 a119:=Tryz.isAgg306
 z119:=Tryz.sizeOf306
 t141:=Tryz.underlying327
 a141:=Tryz.isAgg327
 z141:=Tryz.sizeOf327
 v141:=Tryz.zeroValue327
 t152:=Tryz.underlying323
 a152:=Tryz.isAgg323
 z152:=Tryz.sizeOf323
 v152:=Tryz.zeroValue323
 t154:=Tryz.underlying325
 a154:=Tryz.isAgg325
 z154:=Tryz.sizeOf325
 v154:=Tryz.zeroValue325
 t193:=Tryz.underlying331
 a193:=Tryz.isAgg331
 z193:=Tryz.sizeOf331
 v193:=Tryz.zeroValue331
 t194:=Tryz.underlying332
 a194:=Tryz.isAgg332
 z194:=Tryz.sizeOf332
 v194:=Tryz.zeroValue332
 t196:=Tryz.underlying334
 a196:=Tryz.isAgg334
 z196:=Tryz.sizeOf334
 v196:=Tryz.zeroValue334
 t198:=Tryz.underlying337
 a198:=Tryz.isAgg337
 z198:=Tryz.sizeOf337
 v198:=Tryz.zeroValue337
 t201:=Tryz.underlying340
 a201:=Tryz.isAgg340
 z201:=Tryz.sizeOf340
 v201:=Tryz.zeroValue340
 t226:=Tryz.underlying343
 a226:=Tryz.isAgg343
 z226:=Tryz.sizeOf343
 v226:=Tryz.zeroValue343
 t227:=Tryz.underlying344
 a227:=Tryz.isAgg344
 z227:=Tryz.sizeOf344
 v227:=Tryz.zeroValue344
 g0:=by kernel_rfl
 g6:=by kernel_rfl
 i0:=by kernel_rfl
 i3:=by kernel_rfl
 i4:=by kernel_rfl
 i5:=by kernel_rfl
 i9:=by kernel_rfl
 i21:=by kernel_rfl
 i31:=by kernel_rfl
 i40:=by kernel_rfl
 i46:=by kernel_rfl
 i49:=by kernel_rfl
 i51:=by kernel_rfl
 i141:=by kernel_rfl
 i152:=by kernel_rfl
 i154:=by kernel_rfl
 i193:=by kernel_rfl
 i194:=by kernel_rfl
 i196:=by kernel_rfl
 i198:=by kernel_rfl
 i201:=by kernel_rfl
 i226:=by kernel_rfl
 i227:=by kernel_rfl
 m0:=by kernel_rfl
 m6:=by kernel_rfl }
open Go.RowKit Go.Lib in
theorem Tryz.strings_Fields_laid(s:ByteArray)(w:World)(q:s.size<4294967281)(m:∀(j:Nat)b,s.data.toList[j]?=some b->b.toNat<128)(E:Lib.TabIs Tryz.prog w "strings.asciiSpace" .u8 Lib.asciiSpaceTab) :
  Calls Tryz.prog 305 #[.string s] w fun e w' =>
   e=.returned (.slice (some ⟨w.heap.size,0,none⟩) (Lib.fields s.data.toList).length (Lib.fields s.data.toList).length)/\w'=w.alloc (.cells ((Lib.fields s.data.toList).map fun l=>Value.string ⟨l.toArray⟩).toArray 9):=Any.strings_Fields_laid Tryz.Ra s w q m E
def Tryz.En:Go.Shelf.Ren:=⟨fun|20=>212|n=>n,fun|22=>29|3=>3|4=>4|0=>0|n=>n,fun|n=>n⟩
theorem Tryz.DL:Go.Proofs.Lays2.n20 Tryz.prog Tryz.En:={
 mixed:=by kernel_rfl
 f20:=dA Tryz.func212
 t0:=Tryz.underlying0
 a0:=Tryz.isAgg0
 z0:=Tryz.sizeOf0
 v0:=Tryz.zeroValue0
 t3:=Tryz.underlying3
 a3:=Tryz.isAgg3
 z3:=Tryz.sizeOf3
 v3:=Tryz.zeroValue3
 t4:=Tryz.underlying4
 a4:=Tryz.isAgg4
 z4:=Tryz.sizeOf4
 v4:=Tryz.zeroValue4
 t22:=Tryz.underlying29
 a22:=Tryz.isAgg29
 z22:=Tryz.sizeOf29
 v22:=Tryz.zeroValue29
 i3:=by kernel_rfl }
open Go.RowKit Go.Lib Go.Sort in
theorem Tryz.slices_Compact_int(blk F E:Nat)(zs:List Int)(w:World)(G:Holds (Value.int .i64) w blk F zs.toArray)(z:zs.length<=9223372036854775807)(A:zs.length<=E) :
  Calls Tryz.prog 212 #[.slice (some ⟨blk,F,none⟩) zs.length E] w fun e w'=>e=.returned (.slice (some ⟨blk,F,none⟩) (Lib.compact zs).length E)/\∃q,w'=putRow (Value.int .i64) (Sort.ahead w q) blk F (Lib.compact zs++List.replicate (zs.length-(Lib.compact zs).length) 0).toArray:=Any.slices_Compact_int Tryz.DL blk F E zs w G z A
open Go.RowKit Go.Lib Go.Sort in
theorem Tryz.slices_Compact_int_empty(a:Option Addr)(E:Nat)(w:World) :
  Calls Tryz.prog 212 #[.slice a 0 E] w fun e w'=>e=.returned (.slice a 0 E)/\w'=w:=Any.slices_Compact_int_empty Tryz.DL a E w
open Go.RowKit Go.Sort in
theorem Tryz.slices_Sort_int_none(p:Option Addr)(E:Nat)(w:World) :
  Calls Tryz.prog 158 #[.slice p 0 E] w fun e w'=>e=.returned (.tuple #[])/\w'=w:=Any.slices_Sort_int_none Tryz.JG p E w
end Go.Proofs
set_option maxHeartbeats 1000000
namespace Go.Xg
open Go.RowKit Go.Xw Go.Proofs Tryz
attribute [local irreducible] GW GL GO YG GC GA bh bn
instance:CX prog 22 5:=CX.mk' (aL)
instance:uZ prog 244:=uZ.mk' (e:=246) (aL) (aL)
theorem HK(g:Value):GF prog 307 [.loc 0 0] [.box 246 [.loc 0 0,.v g]] (.tup []) [.box 246 [.loc 0 0,.v g]]:=by
 refine aj func307 ntmps307 ?_;exact ia
theorem sq(s:ai)(n:Nat)(a:Option Addr)(c:Nat)(rows:List am)(hn:rows.length=n)(w:n+s.length<=140737488355328) :
  GC prog 243 [.loc 0 0,.v (sv s)] [.box 246 [.loc 0 0,.v (.slice a n c)],.vech 5 1 rows (.slice a n c)] (fun g bE=>(∃x,g=.tup [.v (ii s.length),x])/\∃a c,bE=[.box 246 [.loc 0 0,.v (.slice a (n+s.length) c)],.vech 5 1 (rows++cX s) (.slice a (n+s.length) c)]):=by
 subst hn;have h:=HK (.slice a rows.length c)
 cases s with
 |nil =>
  refine aj func243 ntmps243 ?_;refine I [0] h ?_;refine GL.YU 1 rfl rfl rfl zfF ?_;refine zaJ ?_;refine yY ?_;exact⟨⟨_,rfl⟩,a,c,by simp[cX]⟩
 |cons x r =>
  generalize q:x::r=s at *
  have t:s.isEmpty=false:=by rw[<-q];rfl
  clear q;refine aj func243 ntmps243 ?_;refine I [0] h ?_;refine GL.YV 1 rfl rfl rfl aO aY X ?_;intro M B;refine zaJ ?_;refine yY ?_;exact⟨⟨_,rfl⟩,M,B,rfl⟩
theorem Qd(str:ai)(a:Option Addr)(c:Nat)(s:str≠[])(w:str.length<=140737488355328) :
  GF prog 244 [.loc 0 0] [.box 246 [.loc 0 0,.v (.slice a str.length c)],.vech 5 1 (cX str) (.slice a str.length c)] (.v (sv str)) [.box 246 [.loc 0 0,.v (.slice a str.length c)],.lost]:=by
 have E:(cX str).length=str.length:=by simp[cX]
 have A:Nat.blt 0 str.length=true:=by simpa using List.length_pos_iff.2 s
 have r:str.isEmpty=false:=by cases str with|nil=>exact absurd rfl s|cons _ _=>rfl
 refine aj func244 ntmps244 ?_;refine aS (aK 0 10 (.a 10 (.q 11 .nil))) ?_;refine av ?_;refine L9 ?_;exact zby
end Go.Xg
namespace Go.Xg
open Go.RowKit Go.Xw Go.Proofs Tryz
open GV (U)
open Go.Xp (cE)
theorem nH.qh{P:Program}{f:FuncId}{vs:List Value}{w:World}{R:Value->World->Prop}(h:Calls P f vs.toArray w fun e w'=>∃v,e=.returned v/\R v w'):nH P f vs w R:=h
theorem GW.builder{Q:dU}{fr:am}{r1 r2:Nat}{rest:Code}{j d L z:Tmp}{T1 T2 T3 T4 T5:TypeId}{p1 p2 p3:String}{a1 a2 a3:Array Edge}(n:Nat)
  (h8:jc fr j=true)(T:jc fr d=true)(FM:Nat.beq j d=false)(aaV:Nat.beq z j=false)(hn:cJ fr z=.v (ii (n:Nat)))(hb:n<=281474976710656)
  (h:∀a c,GW prog 0 rest Q (bU (bU (bU fr j (.loc 0 0)) d (.v (ii (n:Nat)))) L (.v (.tuple #[]))) [.box 246 [.loc 0 0,.v (.slice a 0 c)],.vech 5 1 [] (.slice a 0 c)]) :
  GW prog 0 (.seq (.region r1 [(⟨some j,.alloc 246,T1,p1,a1,none⟩:Oper)].toArray false) (.seq (.region r2 [(⟨some d,.move (.tmp z),T2,p2,a2,none⟩:Oper),⟨some L,.call ⟨.value (.func 242),[Operand.tmp j,.tmp d].toArray,#[T3,T4]⟩,T5,p3,a3,none⟩].toArray false) rest)) Q fr []:=fun B K N w l hm C O=>by
 have aaU:j≠d:=by intro e;subst e;simp at FM
 have u:z≠j:=by intro e;subst e;simp at aaV
 have i8:=nK O h8;have i56:=nK O T;refine W.seq (W.region (WL.alloc (t:=246) fun b w1 q=>WL.nil ?_));refine W.seq (W.region (WL.v R.mv (WL.call (f:=242) (BU:=[.pointer (some ⟨b,0,none⟩),.int .i64 n]) ?_ (R:=fun x M=>x=.tuple #[]/\(Lib.BuilderAt 246 5 b b (.pointer (some ⟨b,0,none⟩)) [] M/\Below b w1 M)) ?_ fun x M hx=>WL.nil ?_)))
 ·have hF1:FR K (e9 N 0 (.fix b)) (bU fr j (.loc 0 0)) (put l (some j) (.pointer (some ⟨b,0,none⟩))) :=
   (O.mono (cY.refl K) (gK (i:=0) (x:=.fix b) (by rw[C.out 0 (aQ _)];trivial))).eV j (.loc 0 0 b bH)
  have j56:jc (eV l j (.pointer (some ⟨b,0,none⟩))) d=true:=nK hF1 (t:=d) (by rw[JB];exact T)
  have e5:nth (eV l j (.pointer (some ⟨b,0,none⟩))) z=.int .i64 n:=by
   rw[oV u];exact Rel.eP (by rw[<-hn];exact O.nth z)
  show[nth (eV (eV l j (.pointer (some ⟨b,0,none⟩))) d (nth (eV l j (.pointer (some ⟨b,0,none⟩))) z)) j,nth (eV (eV l j (.pointer (some ⟨b,0,none⟩))) d (nth (eV l j (.pointer (some ⟨b,0,none⟩))) z)) d]=_;rw[oV aaU,ti i8,ti j56,e5]
 ·refine nH.qh (Calls.mono (Tryz.Builder_Grow_fresh b b n w1 (aQ _) q.blk (by have:=q.size;omega) hb) ?_);rintro e w'⟨G,h2⟩;exact⟨_,G,rfl,h2⟩
 ·obtain⟨rfl,⟨_,v,H,s,S4⟩,m⟩:=hx;have s:gT M b 5 1 v 0 []:=s;obtain⟨a,c,rfl⟩:=s.shape;have Jl:=q.fresh;have QN:Ext gn w M:=⟨m.os.trans q.ext.os,m.tape.trans q.ext.tape,m.output.trans q.ext.output,jy q.ext.size m.size,fun k hk hs=>(m.block k X).trans (q.ext.block k hk hs)⟩;have hI2:=C.same QN
  have A:∀i,N i=.no:=fun i=>C.out i (bg _)
  have SR:∀o,K b o=none:=fun o=>by
   cases hk:K b o with
   |none=>rfl
   |some g=>have:=C.fz.lt hk;omega
  have hw0:=C.ext.size;have abM:=C.tab.pow.lt;have FL:=C.tab.spc.lt;have E:dO N (e9 N ([]:ap).length (.fix b)):=gK (by rw[A];trivial)
  have hI3:=hI2.KS (x:=.fix b) (y:=.box 246 [.loc 0 0,.v (.slice a 0 c)]) (fun b' Jk=>by
   cases Jk
   exact⟨fun i hi=>(by rw[A]at hi;cases hi),by omega,by omega,by omega⟩) (by
   refine⟨b,[.pointer (some ⟨b,0,none⟩),.slice a 0 c],bH,H,.cons (.loc 0 0 b bH) (.cons (.v _) .nil),SR⟩) E
  have J:gT M 0 5 1 (.slice a 0 c) 0 []:=s.base (bg _)
  have V:∀g,(Value.slice a 0 c).ownBlock=some g->b<g:=fun g S=>by
   have G:=(s.lt S).1
   have h2:g≠b:=fun e=>S4 (by rw[S,e])
   omega
  have Du:e9 N ([]:ap).length (.fix b) 1=.no:=by rw[b0 aN];exact A 1
  have F:dO (e9 N ([]:ap).length (.fix b)) (e9 (e9 N ([]:ap).length (.fix b)) 1 (.gr (.slice a 0 c) 0)):=gK (by rw[Du];trivial)
  have hI4:=hI3.KS (x:=.gr (.slice a 0 c) 0) (y:=.vech 5 1 [] (.slice a 0 c)) (fun g S=>by
   have:=V g S;refine⟨fun i hi=>?_,by omega,by omega,by omega⟩
   rcases kO hi with G|G
   ·cases G;omega
   ·rw[A]at G;cases G) (by
   refine⟨[],bH,J,bA.nil,(fun r hr=>by cases hr),fun g S o=>?_⟩
   cases hk:K g o with
   |none=>rfl
   |some y=>have:=C.fz.lt hk;have:=V g S;omega) F
  refine h a c B K _ M _ hm hI4 ?_;have hF2:=(O.mono (cY.refl K) E).mono (cY.refl K) F;refine((hF2.eV j (.loc 0 0 b ?_)).eV d ?_).eV L (.v _)
  ·rw[b0 aN];exact bH
  ·have e5:nth (eV l j (.pointer (some ⟨b,0,none⟩))) z=.int .i64 n:=by
    rw[oV u];exact Rel.eP (by rw[<-hn];exact O.nth z)
   rw[show ev (put l (some j) (.pointer (some ⟨b,0,none⟩))) (.tmp z)=.int .i64 n from e5];exact .v _
attribute [local irreducible] GW GL GO YG GC GA bh bn
theorem MN(a b:ai):cX (a++b)=cX a++cX b:=by simp[cX]
def n5(l:List ai):Nat:=(l.map List.length).sum
theorem DG:∀(r:List ai)(x:ai),(cE (x::r)).length=n5 (x::r)+2*r.length
 |[],x=>by simp[cE,n5]
 |y::r,x=>by
  have:=DG r y;simp only[cE,n5,bf,List.map_cons,sum_cons,List.flatMap_cons,length_cons]at this |-;omega
def gj(l:List ai):ai:=l.flatMap fun y=>44::32::y
theorem NI(a b:List ai):gj (a++b)=gj a++gj b:=by unfold gj;rw[List.flatMap_append]
theorem UA(l:List ai)(k:Nat):(gj (l.take k)).length<=(gj l).length:=by
 have:gj l=gj (l.take k)++gj (l.drop k):=by rw[<-NI,List.take_append_drop]
 rw[this,bf];omega
theorem WJ(y:ai):gj [y]=[44,32]++y:=by simp[gj]
theorem QU(x:ai)(r:List ai):cE (x::r)=x++gj r:=rfl
theorem Mt(l:List ai)(u:(cE l).length<=1099511627776)(F:l.length<=1099511627776):GF prog 189 [strs l,.v (sv [44,32])] [] (.v (sv (cE l))) []:=by
 match l,u,F with
 |[],u,F =>
  refine aj func189 ntmps189 ?_;exact aw
 |[x],u,F =>
  have hr:([x].map fun s=>[GV.v (sv s)])[0]?=some [.v (sv x)]:=rfl
  have e:cE [x]=x:=by simp[cE]
  rw[e];refine aj func189 ntmps189 ?_;exact aw
 |x::y::r,u,F =>
  have FP:((x::y::r).map fun s=>[GV.v (sv s)])[0]?=some [.v (sv x)]:=rfl;have o:=DG (y::r) x
  have hxl:x.length<=1099511627776:=by simp only[cE,bf]at u;omega
  generalize A:(x::y::r)=l at *
  have L:2<=l.length:=by rw[<-A];simp
  have m:(l.map fun s=>[GV.v (sv s)]).length=l.length:=by simp
  have Du:Nat.blt 1 (l.map fun s=>[GV.v (sv s)]).length=true:=by rw[m];simpa[Nat.blt]using L
  have hn0:(((l.map fun s=>[GV.v (sv s)]).length:Int)==0)=false:=by rw[m];simp only[beq_eq_false_iff_ne,ne_eq];omega
  have hn1:(((l.map fun s=>[GV.v (sv s)]).length:Int)==1)=false:=by rw[m];simp only[beq_eq_false_iff_ne,ne_eq];omega
  have hq:decide ((9223372036854775807:Int) / (((l.map fun s=>[GV.v (sv s)]).length:Int)-1)<=2)=false:=by
   rw[m]
   have h3:(3:Int)<=9223372036854775807 / ((l.length:Int)-1):=by
    rw[Int.le_ediv_iff_mul_le X];omega
   simp;omega
  refine aj func189 ntmps189 ?_;apply GL.q
  ·exact YG.mul (a:=2) (b:=((l.map fun s=>[GV.v (sv s)]).length:Int)-1) rfl rfl X
  refine zaf ?_;refine GW.range (l.map fun s=>[GV.v (sv s)]).length (fun k G N=>G=[strs l,.v (sv [44,32]),U,U,U,.v (ii (0+2*(((l.map fun s=>[GV.v (sv s)]).length:Int)-1)+((n5 (l.take k):Nat):Int))),U,U,U,U,U,U,U,U,U,U,U,U,U,U,U,U,U,U,U,U,U,U,U,U,U,U,U,U,U,U,U,U,U,strs l,.v (ii ((l.map fun s=>[GV.v (sv s)]).length:Int)),.v (ii (k:Nat)),U,U,U,U,U,U,U,U,U,U,U,U,U,U,U,U,U,U,U,U,U,U,U,U,U,U,U,U,U,U,U,U,U]/\N=[]) ?_ X ?_ ?_ ?_
  ·refine⟨_,_,Wk.aW (de:=[strs l,.v (sv [44,32]),U,U,U,.v (ii (0+2*(((l.map fun s=>[GV.v (sv s)]).length:Int)-1))),U,U,U,U,U,U,U,U,U,U,U,U,U,U,U,U,U,U,U,U,U,U,U,U,U,U,U,U,U,U,U,U,U,strs l,.v (ii ((l.map fun s=>[GV.v (sv s)]).length:Int)),.v (ii (0:Nat)),U,U,U,U,U,U,U,U,U,U,U,U,U,U,U,U,U,U,U,U,U,U,U,U,U,U,U,U,U,U,U,U,U]) az,?_,rfl⟩;rw[List.take_zero,show((n5 []:Nat):Int)=0 from rfl,Int.add_zero]
  ·rintro k _ _⟨rfl,rfl⟩;exact dN
  ·rintro k _ _ j⟨rfl,rfl⟩;rw[m]at j
   have n:l[k]?=some l[k]:=by simp[j]
   have J:(l.map fun s=>[GV.v (sv s)])[k]?=some [.v (sv l[k])]:=by rw[bO,n];rfl
   have hs:n5 (l.take (k+1))=n5 (l.take k)+l[k].length:=by unfold n5;rw[dc,n,kL,List.sum_append];simp only[Option.toList,List.map_cons,map_nil,sum_cons,List.sum_nil,Nat.add_zero]
   have hle:n5 (l.take (k+1))<=n5 l:=by
    have:n5 l=n5 (l.take (k+1))+n5 (l.drop (k+1)):=by
     unfold n5;rw[<-List.sum_append,<-kL,List.take_append_drop]
    omega
   generalize l[k]=z at *;rw[show(0+2*(((l.map fun s=>[GV.v (sv s)]).length:Int)-1)+((n5 (l.take (k+1)):Nat):Int))=0+2*(((l.map fun s=>[GV.v (sv s)]).length:Int)-1)+((n5 (l.take k):Nat):Int)+(z.length:Int) by rw[hs];omega]
   have hov:decide (9223372036854775807-(0+2*(((l.map fun s=>[GV.v (sv s)]).length:Int)-1)+((n5 (l.take k):Nat):Int))<(z.length:Int))=false:=by
    simp only[decide_eq_false_iff_not];omega
   refine Z ?_;exact za0
  ·rintro _ _⟨rfl,rfl⟩;rw[m,dx]
   have hN:(0+2*((l.length:Int)-1)+((n5 l:Nat):Int))=(((cE l).length:Nat):Int):=by
    have:(y::r).length+1=l.length:=by rw[<-A];simp
    omega
   rw[hN];refine bl ?_
   refine GW.builder (cE l).length rfl rfl rfl rfl rfl X fun a c=>?_
   refine Z ?_;refine bx [0,1] (sq x 0 a c [] rfl X) ?_;rintro _ _⟨⟨u1,rfl⟩,a1,R,rfl⟩;refine zao ?_
   have E:∀k,(x++gj ((y::r).take k)).length<=1099511627776:=fun k=>by
    have h1:=UA (y::r) k;rw[<-A,QU,bf]at u;rw[bf];omega
   refine GW.range ((y::r).map fun s=>[GV.v (sv s)]).length (fun k G N=>∃d a c,G=[U,.v (sv [44,32]),U,U,U,U,U,U,.loc 0 0,U,U,U,U,U,U,U,U,U,U,U,U,U,U,U,U,U,U,U,U,U,U,U,U,U,U,U,U,U,U,U,U,U,U,U,U,U,U,U,U,U,U,U,U,U,U,U,U,U,U,U,U,U,U,strs (y::r),.v (ii (((y::r).map fun s=>[GV.v (sv s)]).length:Int)),.v (ii (k:Nat)),U,U,U,U,U,U,U,U,U]/\d=x++gj ((y::r).take k)/\N=[.box 246 [.loc 0 0,.v (.slice a d.length c)],.vech 5 1 (cX d) (.slice a d.length c)]) ?_ ?_ ?_ ?_ ?_
   ·rw[show 0+x.length=x.length from iX _];subst A;exact⟨_,_,Wk.aW az,x,a1,R,rfl,by simp[gj],rfl⟩
   ·have:((y::r).map fun s=>[GV.v (sv s)]).length+1=l.length:=by rw[<-A];simp
    omega
   ·rintro k _ _⟨d,a,c,rfl,_,rfl⟩;exact dN
   ·rintro k _ _ j⟨d,a,c,rfl,i,rfl⟩
    have j:k<(y::r).length:=by simpa using j
    have n:(y::r)[k]?=some (y::r)[k]:=by simp[j]
    have J:((y::r).map fun s=>[GV.v (sv s)])[k]?=some [.v (sv (y::r)[k])]:=by rw[bO,n];rfl
    have t:x++gj ((y::r).take (k+1))=(d++[44,32])++(y::r)[k]:=by
     rw[dc,n,NI,<-gS,<-i,gS]
     congr 1
     exact WJ _
    have H:=E k;have B:=E (k+1);rw[t]at B;rw[<-i]at H;simp only[bf,length_cons,length_nil]at B;generalize(y::r)[k]=z at *
    have w:(cX d).length=d.length:=by simp[cX]
    refine Z ?_;refine bx [0,1] (sq [44,32] d.length a c (cX d) w (by simp only[length_cons,length_nil];omega)) ?_;rintro _ _⟨⟨u1,rfl⟩,O,S,rfl⟩;refine bI ?_;rw[show cX d++[[GV.v (.int .u8 ((44:UInt8).toNat:Int))],[GV.v (.int .u8 ((32:UInt8).toNat:Int))]]=cX (d++[44,32]) by simp[cX],show d.length+([44,32]:ai).length=(d++[44,32]).length by simp];refine Z ?_;refine bx [0,1] (sq z (d++[44,32]).length O S (cX (d++[44,32])) (by simp[cX]) ze7) ?_;rintro _ _⟨⟨u2,rfl⟩,Q,T,rfl⟩;refine bI ?_
    have V:List.length (d++[44,32])+List.length z=List.length ((d++[44,32])++z):=by simp only[bf]
    rw[<-MN,V];refine Z ?_;exact⟨rfl,rfl,_,_,Wk.aW az,(d++[44,32])++z,Q,T,rfl,t.symm,rfl⟩
   ·rintro _ _⟨d,a,c,rfl,i,rfl⟩
    have hj:cE l=d:=by
     rw[i,<-A,show((y::r).map fun s=>[GV.v (sv s)]).length=(y::r).length by simp,dx];rfl
    rw[hj]at u o |-
    have M:d≠[]:=by
     intro W;rw[W]at o;simp at o
    have C:=Qd d a c M X;refine Z ?_;refine I [0,1] C ?_;exact aw
open Go.Xp (Nd T)
open Go.Sp (Src)
open Go.Im (pD qZ tr j3)
mutual
def tT:T->GV
 |.mk n l=>.box [.v (ii n.ab),.v (ii n.at_),.v (ii n.n),.v (sv n.s),ints n.au,.sl 1 (df l)] 0
def df:List T->List am
 |[]=>[]
 |t::r=>[tT t]::df r
end
abbrev uT(t:T):GV:=.box [.v (ii t.n.ab),.v (ii t.n.at_),.v (ii t.n.n),.v (sv t.n.s),ints t.n.au,.sl 1 (df t.au)] 0
theorem ZY(t:T):tT t=uT t:=by cases t;rw[tT];rfl
theorem lL(l:List T):df l=l.map fun t=>[uT t]:=by
 induction l with
 |nil=>rfl
 |cons t l O=>rw[df,O,ZY];rfl
theorem rI(l:List T):(df l).length=l.length:=by rw[lL];simp
theorem Kl(l:List T)(t:T):df (l++[t])=df l++[[uT t]]:=by rw[lL,lL];simp
theorem vY{l:List T}{i:Nat}{t:T}(h:l[i]?=some t):(df l)[i]?=some [uT t]:=by rw[lL,bO,h];rfl
def trG:Option (T × Nat)->GV
 |none=>.tup [U,U,.v (.bool false)]
 |some (t,e)=>.tup [uT t,.v (ii (e:Nat)),.v (.bool true)]
theorem R5(ah:List Nd)(hl:ah.length<=1099511627776)(T:∀n∈ah,n.au.length<=1099511627776):∀(f a:Nat),ah.length-a+1<=f->a<=1099511627776 ->
  GF prog 142 [.sl 5 (ah.map aP),.v (ii (a:Nat))] [] (trG (pD ah f a)) []:=by
 intro f
 induction f with
 |zero=>intro a h;omega
 |succ f W =>
 intro a hf ha;rw[pD]
 cases A:ah[a]? with
 |none =>
  have C:ah.length<=a:=nE A
  have S:decide (((ah.map aP).length:Int)<=(a:Int))=true:=by simpa using C
  refine aj func142 ntmps142 ?_;exact zdH
 |some n =>
  have u:=(bR A).1
  have S:decide (((ah.map aP).length:Int)<=(a:Int))=false:=by simpa using u
  have hr:(ah.map aP)[a]?=some (aP n):=by rw[bO,A];rfl
  have J:=T n (bB A);simp only;generalize Q:qZ (pD ah f) n.au (a+1) []=R;refine aj func142 ntmps142 ?_;refine GW.wk (Wk.Ge (i:=0) (o:=5) 132 1 rfl rfl) ?_
  refine GW.range (n.au.map fun i=>[GV.v (ii i)]).length (fun k O Γ=>∃next c m b,O=[.sl 5 (ah.map aP),.v (ii (a:Nat)),U,U,U,U,U,.loc 0 0,.v (ii (next:Nat)),U,U,U,U,U,U,U,U,U,U,U,U,U,U,U,U,U,U,U,U,U,ints n.au,.v (ii ((n.au.map fun i=>[GV.v (ii i)]).length:Int)),.v (ii (k:Nat)),U,U,U,U,U,U,U,U,U,U,U,U,U,U,U,U,U,U,U,U,U,U,U,U,U,U,U,U,U,U,U,U,U,U,U] /\
   Γ=[.box 191 [.v (ii n.ab),.v (ii n.at_),.v (ii n.n),.v (sv n.s),ints n.au,.vec 1 m],.vec 132 1 0 b]/\b.length=m/\b=df c/\m=k/\a+1<=next/\next<=ah.length/\qZ (pD ah f) (n.au.drop k) next c=R) ?_ (by simpa using J) ?_ ?_ ?_
  ·exact⟨_,_,Wk.aW az,a+1,[],0,[],rfl,rfl,rfl,rfl,rfl,aQ _,u,Q⟩
  ·rintro k _ _⟨next,c,m,b,rfl,rfl,_⟩;exact dN
  ·rintro k _ _ q⟨next,c,m,b,rfl,rfl,F,d,G,H,L,h⟩
   have q:k<n.au.length:=by simpa using q
   have E:n.au[k]?=some n.au[k]:=by simp[q]
   have V:(n.au.map fun i=>[GV.v (ii i)])[k]?=some [.v (ii n.au[k])]:=by rw[bO,E];rfl
   rw[l8 q,qZ]at h;generalize n.au[k]=z at *
   by_cases B:z=(next:Int)
   ·rw[ae B]at h;subst B
    have N:((next:Int) != (next:Int))=false:=by simp
    have l:=W next X X
    cases M:pD ah f next with
    |none =>
     rw[M]at h l;subst h;refine Z ?_;refine I [] l ?_;exact zdH
    |some x =>
     have⟨t,e⟩:=x;rw[M]at h l;simp only at h
     have⟨s1,s2,_,_⟩:=Go.Im.Au f next t e M
     refine Z ?_;refine I [] l ?_;refine zbz ?_;exact⟨rfl,rfl,_,_,Wk.aW az,e,c++[t],_,_,rfl,rfl,by simp[F],by rw[Kl,d],by omega,by omega,s2,h⟩
   ·rw[D B]at h;subst h
    have N:(z != (next:Int))=true:=by simpa using B
    refine Z ?_;exact zdH
  ·rintro _ _⟨next,c,m,b,rfl,rfl,F,d,G,H,L,h⟩;rw[show n.au.drop (n.au.map fun i=>[GV.v (ii i)]).length=[] by simp,qZ]at h;subst h;simp only;subst d;refine bl ?_;refine GW.wk (Wk.xe (i:=0) (o:=5) (j:=1) rfl rfl rfl rfl F) ?_
   by_cases w:n.at_<0
   ·rw[ae w]
    have r:decide ((0:Int)<=n.at_)=false:=by simpa using w
    refine zdN ?_;exact zdH
   ·rw[D w]
    have r:decide ((0:Int)<=n.at_)=true:=by simpa using w
    refine zdN ?_;refine CO ?_;exact zak
def BX(ah:List Nd):Option (List T × Nat)->GV
 |none=>.tup [U,.v (.bool false)]
 |some (l,e)=>.tup [.sl 1 (df l),.v (.bool ((e:Int)==(ah.length:Int)))]
theorem wz(p:Src)(T:p.ah.length<=1099511627776)(l:∀n∈p.ah,n.au.length<=1099511627776)(hf:p.ak.length<=1099511627776) :
  GF prog 74 [.agg (aD p)] [] (BX p.ah (j3 p.ah p.ak 0 [])) []:=by
 generalize r:j3 p.ah p.ak 0 []=R;refine aj func74 ntmps74 ?_;refine GW.wk (Wk.Cs (t:=4) (a:=none) (c:=0) 132 1 rfl) ?_
 refine GW.range (p.ak.map aH).length (fun k B W=>∃next H m i,B=U::.loc 0 0::U::U::.vec 1 m::.v (ii (next:Nat))::U::U::U::U::U::U::.sl 3 (p.ak.map aH)::.v (ii ((p.ak.map aH).length:Int))::.v (ii (k:Nat))::zU 31 [] /\
  W=[.box 28 (aD p),.vec 132 1 0 i]/\i.length=m/\i=df H/\m=k/\next<=p.ah.length/\j3 p.ah (p.ak.drop k) next H=R) ?_ (by simpa using hf) ?_ ?_ ?_
 ·exact⟨_,_,Wk.aW az,0,[],0,[],rfl,rfl,rfl,rfl,rfl,bg _,r⟩
 ·rintro k _ _⟨next,H,m,i,rfl,rfl,_⟩;exact dN
 ·rintro k _ _ A⟨next,H,m,i,rfl,rfl,G,J,j,d,h⟩
  have A:k<p.ak.length:=by simpa using A
  have u:p.ak[k]?=some p.ak[k]:=by simp[A]
  have s:(p.ak.map aH)[k]?=some (aH p.ak[k]):=by rw[bO,u];rfl
  rw[l8 A,j3]at h;generalize p.ak[k]=fn at *
  have V:=R5 p.ah T l (p.ah.length+1) next X X
  unfold tr at h
  cases q:pD p.ah (p.ah.length+1) next with
  |none =>
   rw[q]at h V;subst h;refine zdr ?_;refine Ho ?_;exact zaU
  |some x =>
   have⟨t,e⟩:=x;rw[q]at h V;simp only at h
   have⟨E,C,_,_⟩:=Go.Im.Au _ next t e q
   by_cases w:fn.body=(next:Int)
   ·rw[ae w]at h
    have z:(fn.body != (next:Int))=false:=by simpa using w
    refine zdr ?_;refine zbz ?_;exact⟨rfl,rfl,_,_,(Wk.cut (n:=2) (bg _) rfl).trans (Wk.aW az),e,H++[t],_,_,rfl,rfl,by simp[G],by rw[Kl,J],by omega,C,h⟩
   ·rw[D w]at h;subst h
    have z:(fn.body != (next:Int))=true:=by simpa using w
    refine zdr ?_;refine Ho ?_;exact zaU
 ·rintro _ _⟨next,H,m,i,rfl,rfl,G,J,j,d,h⟩;rw[show p.ak.drop (p.ak.map aH).length=[] by simp,j3]at h;subst h;subst J;refine bl ?_;refine GW.wk (Wk.ky (t:=4) rfl rfl rfl G) ?_
  have o:p.ah.length=(p.ah.map aP).length:=by simp
  unfold BX;rw[o];refine Z ?_;refine aS (aK 0 8 .nil) ?_;refine av ?_;exact nC
open Go.Sp
structure PX where
 a:Value
 b:Value
 c:Value
 d:Value
 e:Value
abbrev cD(p:RS)(x:PX):Ob:=.box 210 [hE p.l,.v (ii p.i),.v (ii p.e),.v (ii p.code),.v (ii p.at_),.v x.a,.v x.b,.v x.c,.v x.d,.v x.e]
theorem rT(p:RS)(k:Nat)(x:PX)(A:p.ok)(m:k<=1):GF prog 255 [.loc 0 0,.v (ii (k:Nat))] [cD p x] (.agg (dd (Go.Im.tok p k))) [cD p x]:=by
 have⟨q,d⟩:=A;unfold Go.Im.tok
 cases o:p.l[p.i+k]? with
 |some t =>
  have r:=kT o;have M:p.i+k<p.l.length:=(bR o).1
  have F:decide (((p.l.map dd).length:Int)<=((p.i+k:Nat):Int))=false:=by simpa using by omega
  refine aj func255 ntmps255 ?_;refine aS (aK 0 12 .nil) ?_;refine bp ?_;refine aS (aK 0 12 (.a 12 .nil)) ?_;refine av ?_;exact pZ
 |none =>
  have M:p.l.length<=p.i+k:=nE o
  have F:decide (((p.l.map dd).length:Int)<=((p.i+k:Nat):Int))=true:=by simpa using by omega
  refine aj func255 ntmps255 ?_;refine aS (aK 0 12 .nil) ?_;refine av ?_;exact pZ
theorem Fs(p:RS)(c a:Int)(x:PX):GF prog 314 [.loc 0 0,.v (ii c),.v (ii a)] [cD p x] (.tup []) [cD (p.fail c a) x]:=by
 unfold RS.fail
 by_cases h:p.code=0
 ·have L:(p.code==0)=true:=by simpa using h
  rw[ae h];refine aj func314 ntmps314 ?_;exact ia
 ·have L:(p.code==0)=false:=by simpa using h
  rw[D h];refine aj func314 ntmps314 ?_;exact ia
theorem y7(p:RS)(x:PX)(A:p.ok):GF prog 256 [.loc 0 0] [cD p x] (.tup []) [cD (Go.Im.ly p) x]:=by
 have o:=rT p 0 x A aN;unfold Go.Im.ly;generalize Go.Im.tok p 0=t at *;have s:=Fs p 7 t.at_ x;refine aj func256 ntmps256 ?_;refine I [0] o ?_;refine I [0] s ?_;exact ia
theorem wE(p:RS)(d:Nat)(x:PX)(A:p.ok):GF prog 316 [.loc 0 0,.v (ii (d:Nat))] [cD p x] (.v (.bool ((Go.Im.cI p d).code==0))) [cD (Go.Im.cI p d) x]:=by
 have o:=rT p 0 x A aN;unfold Go.Im.cI;generalize Go.Im.tok p 0=t at *
 by_cases h:d>60
 ·have L:decide ((60:Int)<(d:Int))=true:=by simpa using by omega
  rw[ae h];have s:=Fs p 9 t.at_ x;generalize p.fail 9 t.at_=q at *;refine aj func316 ntmps316 ?_;refine I [0] o ?_;refine I [0] s ?_;exact aw
 ·have L:decide ((60:Int)<(d:Int))=false:=by simpa using by omega
  rw[D h];refine aj func316 ntmps316 ?_;exact aw
theorem kY(p:RS)(k:Nat)(s:ai)(x:PX)(A:p.ok)(l:k<=1):GF prog 253 [.loc 0 0,.v (ii (k:Nat)),.v (sv s)] [cD p x] (.v (.bool (Go.Im.is p k s))) [cD p x]:=by
 have o:=rT p k x A l;unfold Go.Im.is;generalize Go.Im.tok p k=t at *
 cases h:(t.ab==3)with
 |true =>
  rw[Bool.true_and];refine aj func253 ntmps253 ?_;exact zeK
 |false =>
  rw[Bool.false_and];refine aj func253 ntmps253 ?_;exact zeK
theorem rq(p:RS)(x:PX)(A:p.ok):GF prog 254 [.loc 0 0] [cD p x] (.v (sv (Go.Im.tok p 0).s)) [cD (Go.Im.bV p) x]:=by
 have o:=rT p 0 x A aN;have R:=y7 p x A;have F:=A.2;have z:=A.1;unfold Go.Im.bV;generalize Go.Im.tok p 0=t at *;have u:=Fs p 8 t.at_ x
 by_cases k:p.code=0
 ·have l:(p.code != 0)=false:=by simpa using k
  rw[ae k]
  by_cases w:t.ab=2
  ·have T:(t.ab != 2)=false:=by simpa using w
   rw[ae w]
   by_cases W:t.s.length>12
   ·have V:decide ((12:Int)<(t.s.length:Int))=true:=by simpa using by omega
    rw[ae W];refine aj func254 ntmps254 ?_;refine I [0] o ?_;refine I [0] u ?_;exact aw
   ·have V:decide ((12:Int)<(t.s.length:Int))=false:=by simpa using by omega
    rw[D W];refine aj func254 ntmps254 ?_;exact zeK
  ·have T:(t.ab != 2)=true:=by simpa using w
   rw[D w];refine aj func254 ntmps254 ?_;refine I [0] o ?_;refine I [0] R ?_;exact aw
 ·have l:(p.code != 0)=true:=by simpa using k
  rw[D k];refine aj func254 ntmps254 ?_;exact zeK
theorem fQ(p:RS)(s:ai)(x:PX)(A:p.ok):GF prog 257 [.loc 0 0,.sl 1 [[.v (sv s)]]] [cD p x] (.tup []) [cD (Go.Im.want p s) x]:=by
 have t:=kY p 0 s x A aN;have R:=y7 p x A;have F:=A.2;have u:=A.1;unfold Go.Im.want;generalize Go.Im.ly p=q at *;have r:([[GV.v (sv s)]]:List am)[0]?=some [.v (sv s)]:=rfl;refine aj func257 ntmps257 ?_
 by_cases l:p.code=0
 ·have m:(p.code != 0)=false:=by simpa using l
  rw[ae l]
  cases h:Go.Im.is p 0 s with
  |true =>
   rw[h]at t;rw[ae rfl];refine GW.range 1 (fun k w W=>w=.loc 0 0::U::U::U::U::U::.sl 1 [[.v (sv s)]]::.v (ii ((1:Nat):Int))::.v (ii (k:Nat))::zU 22 []/\((k=0/\W=[cD p x])\/(1<=k/\W=[cD p.next x]))) ?_ aN ?_ ?_ ?_
   ·exact⟨_,_,Wk.aW az,rfl,.inl ⟨rfl,rfl⟩⟩
   ·rintro k _ _⟨rfl,_⟩;exact dN
   ·rintro k _ _ n⟨rfl,⟨rfl,rfl⟩|⟨M,_⟩⟩
    ·refine Z ?_;refine I [0] t ?_;exact⟨rfl,rfl,_,_,Wk.aW az,rfl,.inr ⟨aQ _,rfl⟩⟩
    ·omega
   ·rintro _ _⟨rfl,⟨M,_⟩|⟨_,rfl⟩⟩
    ·cases M
    ·exact dj
  |false =>
   rw[h]at t;rw[D aN];refine GW.range 1 (fun k w W=>w=.loc 0 0::U::U::U::U::U::.sl 1 [[.v (sv s)]]::.v (ii ((1:Nat):Int))::.v (ii (k:Nat))::zU 22 []/\k=0/\W=[cD p x]) ?_ aN ?_ ?_ ?_
   ·exact kz
   ·rintro k _ _⟨rfl,_⟩;exact dN
   ·rintro k _ _ n⟨rfl,rfl,rfl⟩;refine Z ?_;refine I [0] t ?_;refine I [0] R ?_;exact ia
   ·rintro _ _⟨rfl,M,_⟩;cases M
 ·have m:(p.code != 0)=true:=by simpa using l
  rw[D l];refine GW.range 1 (fun k w W=>w=.loc 0 0::U::U::U::U::U::.sl 1 [[.v (sv s)]]::.v (ii ((1:Nat):Int))::.v (ii (k:Nat))::zU 22 []/\k=0/\W=[cD p x]) ?_ aN ?_ ?_ ?_
  ·exact kz
  ·rintro k _ _⟨rfl,_⟩;exact dN
  ·rintro k _ _ n⟨rfl,rfl,rfl⟩;exact dj
  ·rintro _ _⟨rfl,M,_⟩;cases M
open Go.Xp (T one levels)
mutual
def pT:T->GV
 |.mk n l=>.box [.v (ii n.ab),.v (ii n.at_),.v (ii n.n),.v (sv n.s),.v (.slice none 0 0),.sl 1 (lD l)] 0
def lD:List T->List am
 |[]=>[]
 |t::r=>[pT t]::lD r
end
abbrev qT(t:T):GV:=.box [.v (ii t.n.ab),.v (ii t.n.at_),.v (ii t.n.n),.v (sv t.n.s),.v (.slice none 0 0),.sl 1 (lD t.au)] 0
theorem ZV(t:T):pT t=qT t:=by cases t;rw[pT];rfl
theorem iM(l:List T):lD l=l.map fun t=>[qT t]:=by
 induction l with
 |nil=>rfl
 |cons t l O=>rw[lD,O,ZV];rfl
theorem nW(l:List T):(lD l).length=l.length:=by rw[iM];simp
theorem vU(l:List T)(t:T):lD (l++[t])=lD l++[[qT t]]:=by rw[iM,iM];simp
theorem Bl{l:List T}{i:Nat}{t:T}(h:l[i]?=some t):(lD l)[i]?=some [qT t]:=by rw[iM,bO,h];rfl
theorem OS(k a:Int)(s:ai)(rows:List am):GF prog 315 [.v (ii k),.v (ii a),.v (sv s),.sl 1 rows] [] (.loc 0 0) [.box 191 [.v (ii k),.v (ii a),.v (ii 0),.v (sv s),.v (.slice none 0 0),.sl 1 rows]]:=by
 refine aj func315 ntmps315 ?_;refine GW.wk (Wk.cells 0 rfl (ds:=[.v (ii k),.v (ii a),.v (ii 0),.v (sv s),.v (.slice none 0 0),.sl 1 rows]) iz) ?_;exact zdS
theorem fA(k a:Int)(s:ai)(l:List T)(rows:List am)(h:lD l=rows):GF prog 315 [.v (ii k),.v (ii a),.v (sv s),.sl 1 rows] [] (qT (one k a s l)) []:=by
 subst h;refine aj func315 ntmps315 ?_;refine GW.wk (Wk.cells 0 rfl (ds:=[.v (ii k),.v (ii a),.v (ii 0),.v (sv s),.v (.slice none 0 0),.sl 1 (lD l)]) iz) ?_;refine GW.wk (Wk.freeze (i:=0) rfl rfl rfl (bg _)) ?_;exact aw
theorem tU:GF prog 247 [] [] (.sl 1 (levels.map fun l=>[strs l])) []:=by
 refine aj func247 ntmps247 ?_
 iterate 10 (refine bL ?_)
 exact aB
end Go.Xg
namespace Go.Xg
open Go.RowKit Go.Xw Go.Proofs Tryz
open GV (U)
open Go.Xp (levels gN)
open Go.Im (pJ tV)
attribute [local irreducible] GW GL GO YG GC GA bh bn
theorem decDigits_eq(n:Nat):Go.Lib.decDigits n=gN n:=by
 induction n using Nat.strongRecOn with
 |_ n O =>
  unfold Go.Lib.decDigits gN;split
  ·rfl
  ·rw[O (n / 10) X]
theorem UE(n:Int):Go.Lib.itoa n=pJ n:=by
 unfold Go.Lib.itoa pJ;rw[decDigits_eq,decDigits_eq]
theorem Ms(n:Int)(s : -9223372036854775808<=n)(M:n<=9223372036854775807):GF prog 188 [.v (ii n)] [] (.v (sv (pJ n))) []:=by
 refine GF.XG (vs:=[ii n]) fun K l w r t=>?_
 obtain⟨E,z,H⟩:=tA.all r t r.pow (zs:=vV.map fun z=>Value.int .u64 z) aN (fun m o x hx=>by
  rw[bO]at hx;unfold zE;rw[D aN,ae rfl]
  cases q:vV[o]? with
  |none=>rw[q]at hx;cases hx
  |some y=>rw[q]at hx;cases hx;rfl)
 have F:Go.Lib.TabIs prog w "internal/strconv.uint64pow10" .u64 Go.Lib.pow10Tab:=by
  unfold Go.Lib.TabIs World.var?;rw[show prog.globalNamed "internal/strconv.uint64pow10" = some 3 by kernel_rfl,show Go.Lib.pow10Tab=vV by decide];simp only[Option.bind_some,H]
 refine nH.qh (Calls.mono (strconv_Itoa n s M w F) ?_);rintro e C⟨A,k,u,B⟩;refine⟨_,A,by rw[UE];rfl,?_⟩;subst B;refine⟨rfl,rfl,rfl,by simp[Go.Sort.grow,World.drewN],fun j G _=>?_⟩;simp only[Go.Sort.grow,World.drewN];rw[Array.getElem?_append_left G]
theorem Rk(l:List ai)(s:ai)(T:l.length<=1099511627776):GF prog 248 [strs l,.box [.v (sv s)] 0] [] (.v (.bool (l.contains s))) []:=by
 have h:=lM l s T;generalize l.contains s=b at *;refine aj func248 ntmps248 ?_;exact zbg
def Ck(ls:List (List ai))(s:ai):Int:=match ls.findIdx? (fun l=>l.contains s)with|some i=>(i:Int)|none => -1
theorem HF(ls:List (List ai))(s:ai)(hn:ls.length<=1099511627776)(T:∀l∈ls,l.length<=1099511627776) :
  GF prog 246 [.sl 1 (ls.map fun l=>[strs l]),.fn (.func 248) [] [.box [.v (sv s)] 0]] [] (.v (ii (Ck ls s))) []:=by
 have N:(ls.map fun l=>[strs l]).length=ls.length:=by simp
 refine aj func246 ntmps246 ?_;refine GW.range (ls.map fun l=>[strs l]).length (fun k z W=>z=[.sl 1 (ls.map fun l=>[strs l]),.fn (.func 248) [] [.box [.v (sv s)] 0],U,U,U,U,U,.v (ii ((ls.map fun l=>[strs l]).length:Int)),.v (ii (k:Nat)),U,U,U,U,U,U,U,U,U,U]/\W=[]/\(ls.take k).all (fun l=>!(l.contains s))=true) ?_ X ?_ ?_ ?_
 ·exact kz
 ·exact iI
 ·rintro k _ _ M⟨rfl,rfl,m⟩;rw[N]at M
  have u:ls[k]?=some ls[k]:=by simp[M]
  have r:(ls.map fun l=>[strs l])[k]?=some [strs ls[k]]:=by rw[bO,u];rfl
  have o:=Rk ls[k] s (T _ (getElem_mem M))
  have n:(ls.take (k+1)).all (fun l=>!(l.contains s))=((ls.take k).all (fun l=>!(l.contains s))&&!(ls[k].contains s)):=by rw[dc,u,all_append];simp
  have q:ls[k].contains s=true->Ck ls s=(k:Int):=fun t=>by
   have:ls.findIdx? (fun l=>l.contains s)=some k:=by
    rw[List.findIdx?_eq_some_iff_getElem];refine⟨M,t,fun j G=>?_⟩;rw[fa]at m;have:=m ls[j] zfa;exact zdQ
   unfold Ck;rw[this]
  generalize ls[k]=l at *
  cases w:l.contains s with
  |true =>
   rw[w]at o;rw[q w];refine Z ?_;refine ll [] o ?_;exact aB
  |false =>
   rw[w]at o n;refine Z ?_;refine ll [] o ?_;exact zd6
 ·rintro _ _⟨rfl,rfl,m⟩;rw[N,dx]at m
  have:ls.findIdx? (fun l=>l.contains s)=none:=by
   rw[List.findIdx?_eq_none_iff];intro x hx;rw[fa]at m;simpa using m x hx
  unfold Ck;rw[this];exact aB
theorem DM(s:ai):GF prog 193 [.v (sv s)] [] (.v (ii (tV s))) []:=by
 have M:=tU;have w:=HF levels s aN aN;rw[show tV s=Ck levels s from rfl];generalize Ck levels s=z at *;generalize levels=G at *;refine aj func193 ntmps193 ?_;refine GL.wk (Wk.freeze (i:=0) rfl rfl rfl (aQ _)) ?_;refine GN zfC ?_;refine I [] M ?_;exact zbI
open Go.Xp (T cE bc aR)
open Go.Im (vt oT eh jd wh lE iZ sA rP eY c7)
theorem OD(t:T)(z:Int):GF prog 194 [uT t,.v (ii z)] [] (.v (.bool (oT t z))) []:=by
 have h:=DM t.n.s;unfold oT
 cases k:(t.n.ab==6)with
 |true =>
  generalize tV t.n.s=y at *;refine aj func194 ntmps194 ?_;exact zbg
 |false =>
  refine aj func194 ntmps194 ?_;exact aw
theorem u4(t:T)(b:Bool)(x:ai)(hx:x.length<=1099511627776)(h:GF prog 126 [uT t] [] (.v (sv x)) []) :
  GF prog 192 [uT t,.v (.bool b)] [] (.v (sv (vt b x))) []:=by
 unfold vt
 cases b with
 |true =>
  refine aj func192 ntmps192 ?_;exact zbg
 |false =>
  refine aj func192 ntmps192 ?_;exact zbg
theorem Rn(ex:FuncId)[hf:eI prog ex](n:T->ai)(l:List T)(h:∀t∈l,GF prog ex [uT t] [] (.v (sv (n t))) [])(J:(cE (l.map n)).length<=1099511627776)(W:l.length<=1099511627776) :
  GF prog 191 [.sl 1 (df l),.v (.func (.func ex) #[] #[])] [] (.v (sv (cE (l.map n)))) []:=by
 have B:=rI l;have V:=Mt (l.map n) J (by simpa using W);refine aj func191 ntmps191 ?_;refine GW.wk (Wk.Cs (t:=5) (a:=none) (c:=0) 9 1 rfl) ?_;refine GW.range (df l).length (fun k w b=>∃m e,w=.sl 1 (df l)::.v (.func (.func ex) #[] #[])::U::U::U::.vec 0 m::U::U::.sl 1 (df l)::.v (ii ((df l).length:Int))::.v (ii (k:Nat))::zU 12 []/\b=[.vec 9 1 0 e]/\e.length=m/\e=((l.take k).map n).map (fun s=>[GV.v (sv s)])/\m=k) ?_ X ?_ ?_ ?_
 ·exact⟨_,_,Wk.aW az,0,[],rfl,rfl,rfl,rfl,rfl⟩
 ·rintro k _ _⟨m,e,rfl,rfl,_⟩;exact dN
 ·rintro k _ _ M⟨m,e,rfl,rfl,G,H,i⟩;rw[B]at M
  have u:l[k]?=some l[k]:=by simp[M]
  have r:=vY u;have o:=h l[k] (getElem_mem M)
  have j:((l.take (k+1)).map n).map (fun s=>[GV.v (sv s)])=e++[[.v (sv (n l[k]))]]:=by rw[dc,u,H,kL,kL];rfl
  generalize l[k]=t at *;refine Z ?_;refine jT [] o ?_;refine Z ?_;exact zc7
 ·rintro _ _⟨m,e,rfl,rfl,G,H,i⟩;rw[B,dx]at H;refine bl ?_;refine GW.wk (Wk.ky (t:=5) rfl rfl rfl G) ?_;subst H;refine zdr ?_;exact aw
theorem Zs{t:T}(h:c7 t.n.ab t.au.length=true)(k:t.n.ab=3\/t.n.ab=5):∃a,t.au=[a]:=by
 have:t.au.length=1:=by
  unfold c7 at h
  exact zeO
 match V:t.au,this with
 |[a],_=>exact⟨a,rfl⟩
theorem Zt{t:T}(h:c7 t.n.ab t.au.length=true)(k:t.n.ab=6):∃a b,t.au=[a,b]:=by
 have:t.au.length=2:=by
  unfold c7 at h;rw[k]at h;simp at h;omega
 match V:t.au,this with
 |[a,b],_=>exact⟨a,b,rfl⟩
theorem VH:∀(N:Nat)(t:T),bc t<=N->eY t=true->sA t->lE t<=1099511627776->GF prog 126 [uT t] [] (.v (sv (eh t))) []:=by
 intro N
 induction N with
 |zero=>intro t h;rw[Go.Xp.fC]at h;omega
 |succ N ih =>
 intro t hN R A M;have c:=Go.Im.wj _ t (aQ _) A;rw[Go.Xp.fC]at hN;rw[Go.Im.xV,aU,Go.Im.oy,fa]at R;rw[Go.Im.rv]at A
 have d:∀a∈t.au,GF prog 126 [uT a] [] (.v (sv (eh a))) []/\(eh a).length<=1099511627776:=fun a j=>by
  have w:=Go.Im.uk j;rw[Go.Im.pF]at M;have z:=Go.Im.kM A.2 j
  have h2:bc a<=aR t.au:=by
   have:∀(l:List T),a∈l->bc a<=aR l:=by
    intro l
    induction l with
    |nil=>intro h;cases h
    |cons b l u =>
     intro h;rw[aR]
     rcases ln h with rfl|h
     ·omega
     ·have:=u h;omega
   exact this _ j
  have L:=Go.Im.wj _ a (aQ _) z;exact⟨ih a X (R.2 a j) z X,by omega⟩
 rw[Go.Im.Pw]at c |-;unfold wh at c |-;have H:=R.1;have F:=@Zs t H;have G:=@Zt t H;have hni:=Ms t.n.n A.1.1 A.1.2;have hlv:=DM t.n.s
 have S:t.au.length<=1099511627776:=by
  have:=Go.Im.Ri t.au;rw[Go.Im.pF]at M;omega
 have e:=fun hj=>Rn 126 eh t.au (fun a j=>(d a j).1) hj S
 rw[<-Go.Im.Kn]at e
 have DD:t.n.s.length<=1099511627776:=by rw[Go.Im.pF]at M;omega
 have E:(cE (jd t.au)).length<=1099511627776:=by
  have w:=Go.Im.Ab (jd t.au)
  have h2:((jd t.au).map fun y=>y.length+2).sum<=iZ t.au:=by
   have:∀(l:List T),rP l->((jd l).map fun y=>y.length+2).sum<=iZ l:=by
    intro l
    induction l with
    |nil=>intro _;simp[jd]
    |cons a l u =>
     intro h;rw[rP]at h;have w:=Go.Im.wj _ a (aQ _) h.1;have h2:=u h.2;rw[jd,iZ,List.map_cons,sum_cons];omega
   exact this _ A.2
  rw[Go.Im.pF]at M;omega
 have e:=e E;clear E;unfold uT;generalize Jp:t.n.ab=o at *
 by_cases w:o=1
 ·subst w
  have eg:((1:Int)==1)=true:=by decide
  rw[ae rfl];refine aj func126 ntmps126 ?_;refine I [] hni ?_;exact aw
 rw[D w]at c |-
 have g1:(o==1)=false:=by simpa using w
 by_cases z:o=3
 ·subst z
  have eg:((3:Int)==1)=false:=by decide
  have k:((3:Int)==3)=true:=by decide
  rw[ae rfl]at c |-;have⟨a,j⟩:=F (.inl rfl);rw[j]at d c |-;have⟨B,J⟩:=d a (List.mem_singleton.2 rfl)
  have hr:(df [a])[0]?=some [uT a]:=by rw[lL];rfl
  simp only[jd,getD_cons_zero]at c |-;generalize df [a]=m at *;generalize eh a=x at *;refine aj func126 ntmps126 ?_;refine aS (aK 0 12 (.a 12 (aK 13 3 .nil))) ?_;refine av ?_;refine aJ [] B ?_;exact aB
 rw[D z]at c |-
 have g3:(o==3)=false:=by simpa using z
 by_cases L:o=4
 ·subst L
  have eg:((4:Int)==1)=false:=by decide
  have k:((4:Int)==3)=false:=by decide
  have f4:((4:Int)==4)=true:=by decide
  rw[ae rfl]at c |-;generalize df t.au=m at *;generalize cE (jd t.au)=x at *;simp only[bf,length_cons,length_nil]at c;refine aj func126 ntmps126 ?_;refine aS (aK 0 10 (.a 10 (aK 11 3 .nil))) ?_;refine av ?_;refine aJ [] e ?_;exact aB
 rw[D L]at c |-
 have g4:(o==4)=false:=by simpa using L
 by_cases O:o=5
 ·subst O
  have eg:((5:Int)==1)=false:=by decide
  have k:((5:Int)==3)=false:=by decide
  have f4:((5:Int)==4)=false:=by decide
  have f5:((5:Int)==5)=true:=by decide
  rw[ae rfl]at c |-;have⟨a,j⟩:=F (.inr rfl);rw[j]at d c |-;have⟨B,J⟩:=d a (List.mem_singleton.2 rfl)
  have hr:(df [a])[0]?=some [uT a]:=by rw[lL];rfl
  simp only[jd,getD_cons_zero]at c |-;have r:=u4 a (a.n.ab==6) (eh a) J B;have hbl:=Go.Im.IH (a.n.ab==6) (eh a);generalize df [a]=m at *;generalize hxx:vt (a.n.ab==6) (eh a)=x at *;refine aj func126 ntmps126 ?_;refine aS (aK 0 23 (.a 23 (.q 24 (.q 25 .nil)))) ?_;refine av ?_;refine aJ [] r ?_;exact aB
 rw[D O]at c |-
 have g5:(o==5)=false:=by simpa using O
 by_cases Q:o=6
 ·subst Q
  have eg:((6:Int)==1)=false:=by decide
  have k:((6:Int)==3)=false:=by decide
  have f4:((6:Int)==4)=false:=by decide
  have f5:((6:Int)==5)=false:=by decide
  have f6:((6:Int)==6)=true:=by decide
  rw[ae rfl]at c |-;have⟨a,b,j⟩:=G rfl;rw[j]at d c |-;have⟨B,J⟩:=d a (List.mem_cons_self);have⟨d1,d2⟩:=d b (ew _ List.mem_cons_self)
  have hr:(df [a,b])[0]?=some [uT a]:=by rw[lL];rfl
  have zq:(df [a,b])[1]?=some [uT b]:=by rw[lL];rfl
  simp only[jd,getD_cons_zero,getD_cons_succ]at c |-
  have abO : -1<=tV t.n.s/\tV t.n.s<=9:=by
   unfold tV
   cases hf:levels.findIdx? (fun l=>l.contains t.n.s)with
   |none=>simp
   |some i =>
    rw[List.findIdx?_eq_some_iff_getElem]at hf;have:=hf.1
    have h9:levels.length=9:=by decide
    simp only;omega
  generalize tV t.n.s=lv at *;have V:=OD a lv;have W:=OD b (lv+1);have r:=u4 a (oT a lv) (eh a) J B;have C:=u4 b (oT b (lv+1)) (eh b) d2 d1;generalize df [a,b]=m at *;generalize hxx:vt (oT a lv) (eh a)=x at *;generalize hyy:vt (oT b (lv+1)) (eh b)=y at *;simp only[bf,length_cons,length_nil]at c;refine aj func126 ntmps126 ?_;refine I [] hlv ?_;refine aS (aK 0 14 (aK 17 5 (aK 24 15 (.a 14 (.a 15 (.q 16 (.q 22 (.q 23 (.a 39 (.a 40 (.q 41 (.q 42 .nil)))))))))))) ?_;refine av ?_;refine ym [] V ?_;refine av ?_;refine aJ [] r ?_;refine ym [] W ?_;refine av ?_;refine aJ [] C ?_;exact aB
 rw[D Q]
 have g6:(o==6)=false:=by simpa using Q
 refine aj func126 ntmps126 ?_;exact aw
end Go.Xg
set_option maxHeartbeats 2000000
namespace Go.Xg
open Go.RowKit Go.Xw Go.Proofs Tryz Go.Im
open GV (U)
open Go.Xp (T)
attribute [local irreducible] GW GL GO YG GC GA bh bn
abbrev jV(f:FuncId):Value:=.func (.func f) #[] #[]
theorem QR(l:List ai)(d:Nat)(w:(gY l d).length<=1099511627776)(T:l.length<=1099511627776):GF prog 127 [strs l,.v (ii (d:Nat))] [] (.v (sv (gY l d))) []:=by
 have N:(l.map fun s=>[GV.v (sv s)]).length=l.length:=by simp
 have t:=tE l [123,32];unfold gY at w |-;rw[bf,t]at w;refine aj func127 ntmps127 ?_;refine GW.range (l.map fun s=>[GV.v (sv s)]).length (fun k A W=>A=[strs l,U,U,U,U,.v (sv (sr [123,32] (l.take k))),U,U,strs l,.v (ii ((l.map fun s=>[GV.v (sv s)]).length:Int)),.v (ii (k:Nat)),U,U,U,U,U,U,U,U,U,U]/\W=[]) ?_ X ?_ ?_ ?_
 ·exact jw
 ·rintro k _ _⟨rfl,rfl⟩;exact dN
 ·rintro k _ _ M⟨rfl,rfl⟩;rw[N]at M
  have u:l[k]?=some l[k]:=by simp[M]
  have i:(l.map fun s=>[GV.v (sv s)])[k]?=some [.v (sv l[k])]:=by rw[bO,u];rfl
  have O:=tE (l.take (k+1)) [123,32];have C:=Pt l (k+1)
  have m:lk (l.take (k+1))=lk (l.take k)+(l[k].length+1):=by rw[dc,u,G2];simp[lk]
  have B:=tE (l.take k) [123,32];rw[show l.take (k+1)=l.take k++[l[k]] by rw[dc,u];rfl,MV]at |-;generalize l[k]=z at *;generalize sr [123,32] (l.take k)=H at *;simp only[length_cons,length_nil]at B w
  have r:H.length+z.length+3<=1099511627777:=by omega
  refine Z ?_;exact za0
 ·rintro _ _⟨rfl,rfl⟩;rw[N,dx];generalize sr [123,32] l=H at *;simp only[bf,length_cons,length_nil]at t w;exact aB
theorem ZH(ex V:FuncId)[hf:eI prog ex](l:T->ai)(t a:T)(k:Nat)(m:t.au[k]?=some a)(h:GF prog ex [uT a] [] (.v (sv (l a))) []) :
  GF prog 309 [.v (ii (k:Nat)),.box [.v (jV ex),.v (jV V)] 0,.box [uT t] 0] [] (.v (sv (l a))) []:=by
 have r:=vY m;generalize l a=x at *;refine aj func309 ntmps309 ?_;refine aS (aK 0 9 (.a 9 (.q 10 .nil))) ?_;refine av ?_;refine ym [] h ?_;exact zby
open Go.Xp (bc aR)
structure Wr(ex bk:FuncId)(tx:T->ai)(inl:List ai->Nat->ai):Prop where
 expr:∀a,eY a=true->sA a->lE a<=1099511627776->GF prog ex [uT a] [] (.v (sv (tx a))) []
 block:∀l(d:Nat),(inl l d).length<=1099511627776->l.length<=1099511627776->d<=1099511627776->GF prog bk [strs l,.v (ii (d:Nat))] [] (.v (sv (inl l d))) []
 mem:∀l d s,s∈l->s.length<=(inl l d).length
theorem ze(ex V:FuncId)[R:eI prog ex][C:eI prog V](l:T->ai)(inl:List ai->Nat->ai)(W:Wr ex V l inl)(t:T)(d:Nat)(hd:d+1<=1099511627776)(b:t.au.length<=1099511627776)(E:(n7 l inl d t).length<=1099511627776)
  (h:∀a∈t.au,(lb l inl (d+1) a).length<=1099511627776->GF prog 245 [.agg [.v (jV ex),.v (jV V)],uT a,.v (ii ((d+1:Nat):Int))] [] (.v (sv (lb l inl (d+1) a))) []) :
  GF prog 190 [.agg [.v (jV ex),.v (jV V)],uT t,.v (ii (d:Nat))] [] (.v (sv (n7 l inl d t))) []:=by
 have B:=rI t.au;rw[MG,Kd]at E |-;have o:=W.block (t.au.map (lb l inl (d+1))) d E (by simpa using b) X
 have n:∀a∈t.au,GF prog 245 [.agg [.v (jV ex),.v (jV V)],uT a,.v (ii ((d+1:Nat):Int))] [] (.v (sv (lb l inl (d+1) a))) []:=fun a A =>
  h a A (jy (W.mem _ d _ (uY.2 ⟨a,A,rfl⟩)) E)
 generalize inl (t.au.map (lb l inl (d+1))) d=y at *;refine aj func190 ntmps190 ?_;refine GW.wk (Wk.Cs (t:=7) (a:=none) (c:=0) 9 1 rfl) ?_;refine GW.range (df t.au).length (fun k w r=>∃m e,w=U::U::.v (ii (d:Nat))::.loc 0 0::U::U::U::.vec 1 m::U::U::U::U::U::.sl 1 (df t.au)::.v (ii ((df t.au).length:Int))::.v (ii (k:Nat))::zU 17 []/\r=[.box 194 [.v (jV ex),.v (jV V)],.vec 9 1 0 e]/\e.length=m/\e=((t.au.take k).map (lb l inl (d+1))).map (fun s=>[GV.v (sv s)])/\m=k) ?_ X ?_ ?_ ?_
 ·exact⟨_,_,Wk.aW az,0,[],rfl,rfl,rfl,rfl,rfl⟩
 ·rintro k _ _⟨m,e,rfl,rfl,_⟩;exact dN
 ·rintro k _ _ M⟨m,e,rfl,rfl,G,H,i⟩;rw[B]at M
  have u:t.au[k]?=some t.au[k]:=by simp[M]
  have F:=vY u;have q:=n t.au[k] (getElem_mem M)
  have j:((t.au.take (k+1)).map (lb l inl (d+1))).map (fun s=>[GV.v (sv s)])=e++[[.v (sv (lb l inl (d+1) t.au[k]))]]:=by rw[dc,u,H,kL,kL];rfl
  generalize t.au[k]=kid at *;generalize lb l inl (d+1) kid=z at *;refine Z ?_;refine I [] q ?_;exact zc7
 ·rintro _ _⟨m,e,rfl,rfl,G,H,i⟩;rw[B,dx]at H;refine bl ?_;refine GW.wk (Wk.ky (t:=7) rfl rfl rfl G) ?_;subst H;refine Z ?_;refine jT [] o ?_;exact aB
theorem Zu{t:T}{n:Nat}(h:c7 t.n.ab t.au.length=true)(k:(n=1/\(t.n.ab=13\/t.n.ab=7\/t.n.ab=11\/t.n.ab=12))\/(n=2/\(t.n.ab=8\/t.n.ab=10))):t.au.length=n:=by
 unfold c7 at h
 rcases k with⟨rfl,k⟩|⟨rfl,k⟩
 ·rcases k with k|k|k|k<;>rw[k]at h<;>simp at h<;>omega
 ·exact zeO
theorem Xz{t:T}(h:c7 t.n.ab t.au.length=true)(k:t.n.ab=9):t.au.length=2\/t.au.length=3:=by
 unfold c7 at h;rw[k]at h;simp at h;omega
theorem Ik(ex S:FuncId)[he:eI prog ex][hb:eI prog S](w:T->ai)(inl:List ai->Nat->ai)(W:Wr ex S w inl):∀(N:Nat)(t:T),bc t<=N->eY t=true->sA t->lE t<=1099511627776->∀d,d+bc t<=1099511627776->(lb w inl d t).length<=1099511627776 ->
  GF prog 245 [.agg [.v (jV ex),.v (jV S)],uT t,.v (ii (d:Nat))] [] (.v (sv (lb w inl d t))) []:=by
 intro N
 induction N with
 |zero=>intro t h;rw[Go.Xp.fC]at h;omega
 |succ N ih =>
 intro t hN V hn hw d hd e;have H:=W.expr t V hn hw;rw[Go.Xp.fC]at hN hd;rw[Go.Im.xV,aU,Go.Im.oy,fa]at V;rw[Go.Im.rv]at hn;have hwe:=Go.Im.pF t
 have J:∀(l:List T)(a:T),a∈l->bc a<=aR l:=by
  intro l
  induction l with
  |nil=>intro a h;cases h
  |cons b l ih2 =>
   intro a h;rw[aR]
   rcases ln h with rfl|h
   ·omega
   ·have:=ih2 a h;omega
 have j:=fun(k:Nat)(a:T)(G:t.au[k]?=some a)=>ZH ex S w t a k G (W.expr a (V.2 a (bB G)) (Go.Im.kM hn.2 (bB G)) (by have:=Go.Im.uk (bB G);omega))
 have r:∀a∈t.au,(n7 w inl d a).length<=1099511627776->GF prog 190 [.agg [.v (jV ex),.v (jV S)],uT a,.v (ii (d:Nat))] [] (.v (sv (n7 w inl d a))) []:=fun a m W5=>by
  have h1:=J _ a m;have h2:=Go.Im.uk m;have h3:=V.2 a m;have h4:=Go.Im.kM hn.2 m;rw[Go.Im.xV,aU,Go.Im.oy,fa]at h3;rw[Go.Im.rv]at h4;have h5:=Go.Xp.fC a;have h6:=Go.Xp.gm a.au;have h7:=Go.Im.pF a
  refine ze ex S w inl W a d X X W5 fun b E hlb=>?_
  have h8:=J _ b E;have h9:=Go.Im.uk E;exact ih b X (h3.2 b E) (Go.Im.kM h4.2 E) X (d+1) X hlb
 rw[Pp]at e |-;unfold zC at e |-;rw[IF]at e |-;have xP:=@Zu t;have aaS:=@Xz t V.1
 have xP:=fun n=>@xP n V.1
 unfold uT at H |-;unfold uT at j;generalize Jp:t.n.ab=B at *
 by_cases Q:B=13
 ·subst Q
  have C:((13:Int)==13)=true:=by decide
  rw[ae rfl]at e |-;have o:=xP 1 (.inl ⟨rfl,.inl rfl⟩)
  obtain⟨a,m⟩:∃a,t.au=[a]:=by
   match R:t.au,o with
   |[a],_=>exact⟨a,rfl⟩
  have s:=j 0 a zfo;rw[m]at e |-;rw[m]at s;simp only[List.map_cons,map_nil,getD_cons_zero,bf,length_cons,length_nil]at e |-;generalize w a=x at *;generalize df [a]=u at *;refine dT func245 ntmps245 ?_;refine zaa ?_;refine aS (aK 0 8 (.a 8 (aK 9 3 .nil))) ?_;refine av ?_;refine oJ [] s ?_;exact zby
 rw[D Q]at e |-
 have g13:(B==13)=false:=by simpa using Q
 by_cases h7:B=7
 ·subst h7
  have C:((7:Int)==13)=false:=by decide
  have f7:((7:Int)==7)=true:=by decide
  rw[ae rfl]at e |-;have o:=xP 1 (.inl ⟨rfl,.inr (.inl rfl)⟩)
  obtain⟨a,m⟩:∃a,t.au=[a]:=by
   match R:t.au,o with
   |[a],_=>exact⟨a,rfl⟩
  have s:=j 0 a zfo;rw[m]at e |-;rw[m]at s;simp only[List.map_cons,map_nil,getD_cons_zero,bf,length_cons,length_nil]at e |-;generalize w a=x at *;generalize df [a]=u at *;refine dT func245 ntmps245 ?_;refine zaa ?_;refine aS (aK 0 7 (.a 7 (aK 8 3 .nil))) ?_;refine av ?_;refine oJ [] s ?_;exact zby
 rw[D h7]at e |-
 have g7:(B==7)=false:=by simpa using h7
 by_cases h8:B=8
 ·subst h8
  have C:((8:Int)==13)=false:=by decide
  have f7:((8:Int)==7)=false:=by decide
  have f8:((8:Int)==8)=true:=by decide
  rw[ae rfl]at e |-;have o:=xP 2 (.inr ⟨rfl,.inl rfl⟩)
  obtain⟨a,b,m⟩:∃a b,t.au=[a,b]:=by
   match R:t.au,o with
   |[a,b],_=>exact⟨a,b,rfl⟩
  have s:=j 0 a zfo;have h1:=j 1 b zfo;rw[m]at e |-;rw[m]at s h1;simp only[List.map_cons,map_nil,getD_cons_zero,getD_cons_succ,bf,length_cons,length_nil]at e |-;generalize w a=x at *;generalize w b=y at *;generalize df [a,b]=u at *;refine dT func245 ntmps245 ?_;refine zaa ?_;refine aS (aK 0 7 (.q 10 (.a 7 (.q 8 (.q 9 (.a 11 (aK 12 3 .nil))))))) ?_;refine av ?_;refine oJ [] s ?_;refine av ?_;refine oJ [] h1 ?_;exact zby
 rw[D h8]at e |-
 have g8:(B==8)=false:=by simpa using h8
 by_cases h9:B=9
 ·subst h9
  have C:((9:Int)==13)=false:=by decide
  have f7:((9:Int)==7)=false:=by decide
  have f8:((9:Int)==8)=false:=by decide
  have f9:((9:Int)==9)=true:=by decide
  rw[ae rfl]at e |-
  rcases aaS rfl with o|o
  ·skip
   obtain⟨a,b,m⟩:∃a b,t.au=[a,b]:=by
    match R:t.au,o with
    |[a,b],_=>exact⟨a,b,rfl⟩
   have s:=j 0 a zfo
   have zq:(df [a,b])[1]?=some [uT b]:=by rw[lL];rfl
   have A:(df [a,b]).length=2:=by rw[rI];rfl
   have DB:(((df [a,b]).length:Int)==3)=false:=by rw[A];decide
   rw[m]at e |-;rw[m]at s;rw[D ze6]at e |-;exact zas
  ·skip
   obtain⟨a,b,c,m⟩:∃a b c,t.au=[a,b,c]:=by
    match R:t.au,o with
    |[a,b,c],_=>exact⟨a,b,c,rfl⟩
   have s:=j 0 a zfo
   have zq:(df [a,b,c])[1]?=some [uT b]:=by rw[lL];rfl
   have NV:(df [a,b,c])[2]?=some [uT c]:=by rw[lL];rfl
   have A:(df [a,b,c]).length=3:=by rw[rI];rfl
   have DB:(((df [a,b,c]).length:Int)==3)=true:=by rw[A];decide
   rw[m]at e |-;rw[m]at s;rw[ae ze6]at e |-;simp only[List.map_cons,map_nil,getD_cons_zero,getD_cons_succ,bf,length_cons,length_nil]at e |-;have F:=r b (by rw[m];simp) X;have E:=r c (by rw[m];simp) X;generalize w a=x at *;generalize n7 w inl d b=y at *;generalize n7 w inl d c=z at *;clear r j ih;generalize df [a,b,c]=u at *;refine dT func245 ntmps245 ?_;refine zaa ?_;refine aS (.q 0 (aK 4 8 (.a 1 (.q 2 (.q 3 (.a 12 (.q 13 (.q 14 .nil)))))))) ?_;refine av ?_;refine oJ [] s ?_;refine av ?_;refine aJ [] F ?_;refine Z ?_;refine aS (aK 0 9 (.a 9 (aK 10 3 .nil))) ?_;refine av ?_;refine aJ [] E ?_;exact aB
 rw[D h9]at e |-
 have g9:(B==9)=false:=by simpa using h9
 by_cases L:B=10
 ·subst L
  have C:((10:Int)==13)=false:=by decide
  have f7:((10:Int)==7)=false:=by decide
  have f8:((10:Int)==8)=false:=by decide
  have f9:((10:Int)==9)=false:=by decide
  have f10:((10:Int)==10)=true:=by decide
  rw[ae rfl]at e |-;have o:=xP 2 (.inr ⟨rfl,.inr rfl⟩)
  ·skip
   obtain⟨a,b,m⟩:∃a b,t.au=[a,b]:=by
    match R:t.au,o with
    |[a,b],_=>exact⟨a,b,rfl⟩
   have s:=j 0 a zfo
   have zq:(df [a,b])[1]?=some [uT b]:=by rw[lL];rfl
   have A:(df [a,b]).length=2:=by rw[rI];rfl
   have DB:(((df [a,b]).length:Int)==3)=false:=by rw[A];decide
   rw[m]at e |-;rw[m]at s;exact zas
 rw[D L]at e |-
 have g10:(B==10)=false:=by simpa using L
 by_cases M:B=11
 ·subst M
  have C:((11:Int)==13)=false:=by decide
  have f7:((11:Int)==7)=false:=by decide
  have f8:((11:Int)==8)=false:=by decide
  have f9:((11:Int)==9)=false:=by decide
  have f10:((11:Int)==10)=false:=by decide
  have f11:((11:Int)==11)=true:=by decide
  rw[ae rfl]at e |-;have o:=xP 1 (.inl ⟨rfl,.inr (.inr (.inl rfl))⟩)
  obtain⟨a,m⟩:∃a,t.au=[a]:=by
   match R:t.au,o with
   |[a],_=>exact⟨a,rfl⟩
  exact zaR
 rw[D M]at e |-
 have g11:(B==11)=false:=by simpa using M
 by_cases O:B=12
 ·subst O
  have C:((12:Int)==13)=false:=by decide
  have f7:((12:Int)==7)=false:=by decide
  have f8:((12:Int)==8)=false:=by decide
  have f9:((12:Int)==9)=false:=by decide
  have f10:((12:Int)==10)=false:=by decide
  have f11:((12:Int)==11)=false:=by decide
  have f12:((12:Int)==12)=true:=by decide
  rw[ae rfl]at e |-;have o:=xP 1 (.inl ⟨rfl,.inr (.inr (.inr rfl))⟩)
  obtain⟨a,m⟩:∃a,t.au=[a]:=by
   match R:t.au,o with
   |[a],_=>exact⟨a,rfl⟩
  exact zaR
 rw[D O]at e |-
 have g12:(B==12)=false:=by simpa using O
 clear r j ih;generalize w t=x at *;refine dT func245 ntmps245 ?_;refine zaa ?_;refine jT [] H ?_;exact aB
open Go.Xp (cE)
open Go.Sp (Src)
theorem Q9(ex N:FuncId)[he:eI prog ex][hb:eI prog N](F:T->ai)(inl:List ai->Nat->ai)(W:Wr ex N F inl)(p:Src)(aM:List T)(E:(n2 F inl p aM).length<=1099511627776)(hft:p.ak.length=aM.length)
  (hg:p.ax.length<=1099511627776)(ha:p.aq.length<=1099511627776)(hf:p.ak.length<=1099511627776)(AR:∀a∈p.aq,-9223372036854775808<=a.size/\a.size<=9223372036854775807)(Js:∀f∈p.ak,f.params.length<=1099511627776)
  (ht:∀t∈aM,eY t=true/\sA t/\lE t<=1099511627776/\bc t+1<=1099511627776) :
  GF prog 125 [.agg (aD p),.sl 1 (df aM),.v (jV ex),.v (jV N)] [] (.v (sv (n2 F inl p aM))) []:=by
 have hmg:(p.ax.map fun s=>[GV.v (sv s)]).length=p.ax.length:=by simp
 have S:(p.aq.map bb).length=p.aq.length:=by simp
 have V:(p.ak.map aH).length=p.ak.length:=by simp
 have l2:=B2 (eg F inl) (p.ak.zip aM) (eB a1 (eB g1 [] p.ax) p.aq);have l1:=B2 a1 p.aq (eB g1 [] p.ax);unfold n2 at E |-;refine aj func125 ntmps125 ?_;refine GW.wk (Wk.Cs (t:=9) (a:=none) (c:=0) 5 1 rfl) ?_;refine GW.range (p.ax.map fun s=>[GV.v (sv s)]).length (fun k Q Γ=>∃r m d,Q=[U,.sl 1 (df aM),.v (jV ex),.v (jV N),.loc 0 0,U,U,U,U,.vec 1 m,U,U,U,U,U,U,U,U,strs p.ax,.v (ii ((p.ax.map fun s=>[GV.v (sv s)]).length:Int)),.v (ii (k:Nat)),U,U,U,U,U,U,U,U,U,U,U,U,U,U,U,U,U,U,U,U,U,U,U,U,U,U,U,U,U,U,U,U,U,U,U,U,U,U,U,U,U,U,U,U,U,U,U,U,U,U,U,U,U,U,U,U,U,U,U,U,U]/\Γ=[.box 28 (aD p),.vec 5 1 0 d]/\d.length=m/\d=cX r/\r=eB g1 [] (p.ax.take k)) ?_ X ?_ ?_ ?_
 ·exact⟨_,_,Wk.aW az,[],0,[],rfl,rfl,rfl,rfl,rfl⟩
 ·rintro k _ _⟨r,m,d,rfl,rfl,_⟩;exact dN
 ·rintro k _ _ u⟨r,m,d,rfl,rfl,G,i,H⟩;rw[hmg]at u
  have O:p.ax[k]?=some p.ax[k]:=by simp[u]
  have M:(p.ax.map fun s=>[GV.v (sv s)])[k]?=some [.v (sv p.ax[k])]:=by grind
  have j:eB g1 [] (p.ax.take (k+1))=r++g1 p.ax[k]:=by grind[dc,xB]
  have J:=xC g1 p.ax (k+1) [];rw[j,bf]at J
  have hmr:d.length=r.length:=by grind
  generalize p.ax[k]=z at *
  have hz:(g1 z).length=z.length+6:=by simp[g1]
  refine Z ?_;refine GL.BQ (str:=g1 z) rfl rfl rfl aO rfl X ?_;refine zaJ ?_;exact⟨rfl,rfl,_,_,Wk.aW az,r++g1 z,_,_,rfl,rfl,by grind,by grind,j.symm⟩
 ·rintro _ _⟨r,m,d,rfl,rfl,G,i,H⟩;rw[hmg,dx]at H;rw[<-H]at E l1 l2 |-;refine zeA ?_;refine GW.range (p.aq.map bb).length (fun k Q Γ=>∃e m d,Q=U::.sl 1 (df aM)::.v (jV ex)::.v (jV N)::.loc 0 0::U::U::U::U::.vec 1 m::zU 21 (.sl 2 (p.aq.map bb)::.v (ii ((p.aq.map bb).length:Int))::.v (ii (k:Nat))::zU 48 [])/\Γ=[.box 28 (aD p),.vec 5 1 0 d]/\d.length=m/\d=cX e/\e=eB a1 r (p.aq.take k)) ?_ X ?_ ?_ ?_
  ·exact⟨_,_,Wk.aW az,r,m,d,rfl,rfl,G,i,rfl⟩
  ·rintro k _ _⟨e,m,d,rfl,rfl,_⟩;exact dN
  ·clear G i;rintro k _ _ u⟨e,m,d,rfl,rfl,G,i,B⟩;rw[S]at u
   have O:p.aq[k]?=some p.aq[k]:=by simp[u]
   have M:(p.aq.map bb)[k]?=some (bb p.aq[k]):=by grind
   have j:eB a1 r (p.aq.take (k+1))=e++a1 p.aq[k]:=by grind[dc,xB]
   have J:=xC a1 p.aq (k+1) r;rw[j,bf]at J
   have hmr:d.length=e.length:=by grind
   have A:=AR p.aq[k] (getElem_mem u);generalize p.aq[k]=z at *;have hit:=Ms z.size A.1 A.2;have Dx:=xT A
   have hz:(a1 z).length=z.name.length+(pJ z.size).length+8:=by grind[a1]
   unfold bb at M;refine Z ?_;refine aS (aK 0 7 (.a 7 (.q 8 (.q 9 (.a 10 (.q 11 .nil)))))) ?_;refine av ?_;refine aJ [] hit ?_;refine OA rfl rfl (GL.BQ (str:=a1 z) rfl rfl rfl aO rfl X (GL.nil (bl (dP.mk ze2 ?_))))
   refine PI ?_;refine bp ?_;exact⟨rfl,rfl,_,_,(Wk.cut (n:=2) (bg _) rfl).trans (Wk.aW az),e++a1 z,_,_,rfl,rfl,by grind,by grind,j.symm⟩
  ·clear G i;rintro _ _⟨e,m,d,rfl,rfl,G,i,B⟩;rw[S,dx]at B;rw[<-B]at E l2 |-
   have W9:∀(k:Nat)(f:Go.Sp.Fn),p.ak[k]?=some f->f.params.length<=1099511627776:=fun k f h=>Js f (bB h)
   refine zeA ?_;refine GW.range (p.ak.map aH).length (fun k Q Γ=>∃o m d,Q=U::.sl 1 (df aM)::U::U::U::U::U::U::U::.vec 1 m::U::U::U::U::.loc 2 0::zU 38 (.sl 3 (p.ak.map aH)::.v (ii ((p.ak.map aH).length:Int))::.v (ii (k:Nat))::zU 26 [])/\Γ=[.box 28 (aD p),.vec 5 1 0 d,.box 194 [.v (jV ex),.v (jV N)]]/\d.length=m/\d=cX o/\o=eB (eg F inl) e ((p.ak.zip aM).take k)) ?_ X ?_ ?_ ?_
   ·exact⟨_,_,Wk.aW az,e,m,d,rfl,rfl,G,i,rfl⟩
   ·rintro k _ _⟨o,m,d,rfl,rfl,_⟩;exact dN
   ·clear G i;rintro k _ _ u⟨o,m,d,rfl,rfl,G,i,C⟩;rw[V]at u
    have R:k<aM.length:=by omega
    have O:p.ak[k]?=some p.ak[k]:=by simp[u]
    have hkt:aM[k]?=some aM[k]:=by simp
    have M:(p.ak.map aH)[k]?=some (aH p.ak[k]):=by grind
    have abL:=vY hkt
    have hkz:(p.ak.zip aM)[k]?=some (p.ak[k],aM[k]):=by grind
    have j:eB (eg F inl) e ((p.ak.zip aM).take (k+1))=o++eg F inl (p.ak[k],aM[k]):=by grind[dc,xB]
    have J:=xC (eg F inl) (p.ak.zip aM) (k+1) e;rw[j,bf]at J
    have hmr:d.length=o.length:=by grind
    have⟨q1,q2,q3,q4⟩:=ht aM[k] (getElem_mem R);have Xa:=W9 k _ O;generalize p.ak[k]=f at *;generalize aM[k]=t at *
    have hz:(eg F inl (f,t)).length=f.name.length+(cE f.params).length+(n7 F inl 0 t).length+9:=by unfold eg;simp;omega
    have hJ:=Mt f.params X Xa
    have aa6:∀(l:List T)(a:T),a∈l->bc a<=aR l:=by
     intro l
     induction l with
     |nil=>simp
     |cons b l ih2 =>
      grind[bc,aR]
    have hB:=ze ex N F inl W t 0 X (by grind[Go.Xp.gm,Go.Xp.fC]) X fun a L W5=>by
     have h1:=aa6 _ a L;have h2:=Go.Xp.fC t;have h3:=uk L;have h4:=pF t;rw[xV,aU,oy,fa]at q1;rw[rv]at q2;exact Ik ex N F inl W _ a (aQ _) (q1.2 a L) (kM q2.2 L) X (0+1) X W5
    unfold aH at M;refine Z ?_;refine aS (aK 0 7 (aK 10 5 (.a 7 (.q 8 (.q 9 (.a 15 (.q 16 (.q 17 (.a 18 (.q 19 .nil)))))))))) ?_;refine av ?_;refine aJ [] hJ ?_;refine aJ [] hB ?_;refine OA rfl rfl (GL.BQ (str:=eg F inl (f,t)) rfl rfl rfl aO rfl X (GL.nil (bl (dP.mk ze2 ?_))))
    refine PI ?_;refine bp ?_;exact⟨rfl,rfl,_,_,(Wk.cut (n:=3) (bg _) rfl).trans (Wk.aW az),o++eg F inl (f,t),_,_,rfl,rfl,by grind,by grind,j.symm⟩
   ·clear G i;rintro _ _⟨o,m,d,rfl,rfl,G,i,C⟩;rw[V,show(p.ak.zip aM).take p.ak.length=p.ak.zip aM from kK ze3]at C;rw[<-C]at E |-;refine bl ?_;refine GW.wk (Wk.ky (t:=9) rfl rfl rfl G) ?_
    have abz:d=o.map fun c=>[.v (.int .u8 (c.toNat:Int))]:=i
    exact aB
end Go.Xg
namespace Go.Xg
open Go.RowKit Go.Xw Go.Proofs Tryz
open GV (U)
open Go.Im (fL r8 r9 tJ nh om)
attribute [local irreducible] GW GL GO YG GC GA bh bn
theorem Is(a b:List ai)(ha:a.length<=1099511627776)(z:b.length<=1099511627776):GF prog 130 [strs a,strs b] [] (.v (.bool (fL (fun x y=>x==y) a b))) []:=by
 have G:(a.map fun s=>[GV.v (sv s)]).length=a.length:=by simp
 have V:(b.map fun s=>[GV.v (sv s)]).length=b.length:=by simp
 by_cases T:a.length=b.length
 ·have F:(((a.map fun s=>[GV.v (sv s)]).length:Int) != ((b.map fun s=>[GV.v (sv s)]).length:Int))=false:=by rw[G,V,T];simp
  refine aj func130 ntmps130 ?_;refine GW.range (a.map fun s=>[GV.v (sv s)]).length (fun k w d=>w=[strs a,strs b,U,U,U,U,U,U,U,U,U,U,.v (ii ((a.map fun s=>[GV.v (sv s)]).length:Int)),.v (ii (k:Nat)),U,U,U,U,U,U,U,U,U,U,U,U]/\d=[]/\tJ (fun x y=>x==y) a b k) ?_ X ?_ ?_ ?_
  ·exact zbr
  ·exact iI
  ·rintro k _ _ M⟨rfl,rfl,l⟩;rw[G]at M
   have r:a[k]?=some a[k]:=by simp[M]
   have e:k<b.length:=by omega
   have n:b[k]?=some b[k]:=by simp[e]
   have o:(a.map fun s=>[GV.v (sv s)])[k]?=some [GV.v (sv a[k])]:=by rw[bO,r];rfl
   have q:(b.map fun s=>[GV.v (sv s)])[k]?=some [GV.v (sv b[k])]:=by rw[bO,n];rfl
   generalize a[k]=x at *;generalize b[k]=y at *
   cases W:(x==y)with
   |true =>
    have c:(x != y)=false:=by simp only[bne,W];rfl
    have m:(!(x==y))=false:=by rw[W];rfl
    refine zcN ?_;exact zcd
   |false =>
    have c:(x != y)=true:=by simp only[bne,W];rfl
    have m:(!(x==y))=true:=by rw[W];rfl
    exact zeX
  ·rintro _ _⟨rfl,rfl,l⟩;exact zcH
 ·have F:(((a.map fun s=>[GV.v (sv s)]).length:Int) != ((b.map fun s=>[GV.v (sv s)]).length:Int))=true:=by rw[G,V];simpa using by omega
  rw[r8 T];refine aj func130 ntmps130 ?_;exact aw
theorem TT(a b:List Int)(ha:a.length<=1099511627776)(z:b.length<=1099511627776):GF prog 41 [ints a,ints b] [] (.v (.bool (fL (fun x y=>x==y) a b))) []:=by
 have G:(a.map fun s=>[GV.v (ii s)]).length=a.length:=by simp
 have V:(b.map fun s=>[GV.v (ii s)]).length=b.length:=by simp
 by_cases T:a.length=b.length
 ·have F:(((a.map fun s=>[GV.v (ii s)]).length:Int) != ((b.map fun s=>[GV.v (ii s)]).length:Int))=false:=by rw[G,V,T];simp
  refine aj func41 ntmps41 ?_;refine GW.range (a.map fun s=>[GV.v (ii s)]).length (fun k w d=>w=[ints a,ints b,U,U,U,U,U,U,U,U,U,U,.v (ii ((a.map fun s=>[GV.v (ii s)]).length:Int)),.v (ii (k:Nat)),U,U,U,U,U,U,U,U,U,U,U,U]/\d=[]/\tJ (fun x y=>x==y) a b k) ?_ X ?_ ?_ ?_
  ·exact zbr
  ·exact iI
  ·rintro k _ _ M⟨rfl,rfl,l⟩;rw[G]at M
   have r:a[k]?=some a[k]:=by simp[M]
   have e:k<b.length:=by omega
   have n:b[k]?=some b[k]:=by simp[e]
   have o:(a.map fun s=>[GV.v (ii s)])[k]?=some [GV.v (ii a[k])]:=by rw[bO,r];rfl
   have q:(b.map fun s=>[GV.v (ii s)])[k]?=some [GV.v (ii b[k])]:=by rw[bO,n];rfl
   generalize a[k]=x at *;generalize b[k]=y at *
   cases W:(x==y)with
   |true =>
    have c:(x != y)=false:=by simp only[bne,W];rfl
    have m:(!(x==y))=false:=by rw[W];rfl
    refine zcN ?_;exact zcd
   |false =>
    have c:(x != y)=true:=by simp only[bne,W];rfl
    have m:(!(x==y))=true:=by rw[W];rfl
    exact zeX
  ·rintro _ _⟨rfl,rfl,l⟩;exact zcH
 ·have F:(((a.map fun s=>[GV.v (ii s)]).length:Int) != ((b.map fun s=>[GV.v (ii s)]).length:Int))=true:=by rw[G,V];simpa using by omega
  rw[r8 T];refine aj func41 ntmps41 ?_;exact aw
open Go.Xp (Nd)
open Go.Im (rQ kG)
theorem RM(a b:Go.Sp.Fn)(ha:a.params.length<=1099511627776)(z:b.params.length<=1099511627776):GF prog 133 [.agg (aH a),.agg (aH b)] [] (.v (.bool (rQ a b))) []:=by
 have R:=Is a.params b.params ha z;unfold rQ aH
 cases M:(a.name==b.name)with
 |false =>
  refine aj func133 ntmps133 ?_;exact aw
 |true =>
  cases w:fL (fun x y=>x==y) a.params b.params with
  |false =>
   exact zea
  |true =>
   exact zea
theorem LW(a b:Nd)(ha:a.au.length<=1099511627776)(w:b.au.length<=1099511627776):GF prog 135 [.agg (aP a),.agg (aP b)] [] (.v (.bool (kG a b))) []:=by
 have R:=TT a.au b.au ha w;unfold kG aP;generalize fL (fun x y=>x==y) a.au b.au=q at *
 cases M:(a.ab==b.ab)with
 |false =>
  exact zeb
 |true =>
  cases z:(a.n==b.n)with
  |false =>
   exact zeb
  |true =>
   cases A:(a.s==b.s)with
   |false =>
    exact zeb
   |true =>
    refine aj func135 ntmps135 ?_;refine I [] R ?_;exact aw
theorem Hz(a b:List Go.Sp.Fn)(ha:a.length<=1099511627776)(z:b.length<=1099511627776)(c:∀x∈a,x.params.length<=1099511627776)(C:∀x∈b,x.params.length<=1099511627776) :
  GF prog 132 [.sl 3 (a.map aH),.sl 3 (b.map aH),.v (.func (.func 133) #[] #[])] [] (.v (.bool (fL rQ a b))) []:=by
 have G:(a.map aH).length=a.length:=by simp
 have V:(b.map aH).length=b.length:=by simp
 by_cases T:a.length=b.length
 ·have F:(((a.map aH).length:Int) != ((b.map aH).length:Int))=false:=by rw[G,V,T];simp
  refine aj func132 ntmps132 ?_;refine GW.range (a.map aH).length (fun k w d=>w=U::.sl 3 (b.map aH)::.v (.func (.func 133) #[] #[])::zU 12 (.sl 3 (a.map aH)::.v (ii ((a.map aH).length:Int))::.v (ii (k:Nat))::zU 14 [])/\d=[]/\tJ rQ a b k) ?_ X ?_ ?_ ?_
  ·exact zbr
  ·exact iI
  ·rintro k _ _ M⟨rfl,rfl,l⟩;rw[G]at M
   have r:a[k]?=some a[k]:=by simp[M]
   have e:k<b.length:=by omega
   have o:b[k]?=some b[k]:=by simp[e]
   have m:(a.map aH)[k]?=some (aH a[k]):=by rw[bO,r];rfl
   have s:(b.map aH)[k]?=some (aH b[k]):=by rw[bO,o];rfl
   have q:=RM a[k] b[k] (c _ (getElem_mem M)) (C _ (getElem_mem e));generalize a[k]=x at *;generalize b[k]=y at *;unfold aH at m s q
   cases W:rQ x y with
   |true =>
    exact zbR
   |false =>
    rw[W]at q;rw[r9 r o (p:=rQ) W];refine Z ?_;refine jT [] q ?_;exact aB
  ·rintro _ _⟨rfl,rfl,l⟩;exact zcH
 ·have F:(((a.map aH).length:Int) != ((b.map aH).length:Int))=true:=by rw[G,V];simpa using by omega
  rw[r8 T];refine aj func132 ntmps132 ?_;exact aw
theorem HA(a b:List Nd)(ha:a.length<=1099511627776)(z:b.length<=1099511627776)(c:∀x∈a,x.au.length<=1099511627776)(C:∀x∈b,x.au.length<=1099511627776) :
  GF prog 134 [.sl 5 (a.map aP),.sl 5 (b.map aP),.v (.func (.func 135) #[] #[])] [] (.v (.bool (fL kG a b))) []:=by
 have G:(a.map aP).length=a.length:=by simp
 have V:(b.map aP).length=b.length:=by simp
 by_cases T:a.length=b.length
 ·have F:(((a.map aP).length:Int) != ((b.map aP).length:Int))=false:=by rw[G,V,T];simp
  refine aj func134 ntmps134 ?_;refine GW.range (a.map aP).length (fun k w d=>w=U::.sl 5 (b.map aP)::.v (.func (.func 135) #[] #[])::zU 12 (.sl 5 (a.map aP)::.v (ii ((a.map aP).length:Int))::.v (ii (k:Nat))::zU 14 [])/\d=[]/\tJ kG a b k) ?_ X ?_ ?_ ?_
  ·exact zbr
  ·exact iI
  ·rintro k _ _ M⟨rfl,rfl,l⟩;rw[G]at M
   have r:a[k]?=some a[k]:=by simp[M]
   have e:k<b.length:=by omega
   have o:b[k]?=some b[k]:=by simp[e]
   have m:(a.map aP)[k]?=some (aP a[k]):=by rw[bO,r];rfl
   have s:(b.map aP)[k]?=some (aP b[k]):=by rw[bO,o];rfl
   have q:=LW a[k] b[k] (c _ (getElem_mem M)) (C _ (getElem_mem e));generalize a[k]=x at *;generalize b[k]=y at *;unfold aP at m s q
   cases W:kG x y with
   |true =>
    exact zbR
   |false =>
    rw[W]at q;rw[r9 r o (p:=kG) W];refine Z ?_;refine jT [] q ?_;exact aB
  ·rintro _ _⟨rfl,rfl,l⟩;exact zcH
 ·have F:(((a.map aP).length:Int) != ((b.map aP).length:Int))=true:=by rw[G,V];simpa using by omega
  rw[r8 T];refine aj func134 ntmps134 ?_;exact aw
end Go.Xg
namespace Go.Xg
open Go.RowKit Go.Xw Go.Proofs Tryz
open GV (U)
open Go.Xp (Ar)
open Go.Im (zj fL r8 r9 tJ nh om)
theorem Za(w:World)(s s':ai)(n r:Int):(Op.equalIn 10000 79 (.agg #[sv s,ii n]) (.agg #[sv s',ii r])).run prog w=.ok ((s==s')&&(n==r)) w:=by
 have v:(prog.fieldsOf 79).toList=[(prog.fieldsOf 79)[0]!,(prog.fieldsOf 79)[1]!]:=by kernel_rfl
 have u:((prog.fieldsOf 79)[0]!).type=9:=by kernel_rfl
 have a1:((prog.fieldsOf 79)[1]!).type=3:=by kernel_rfl
 have d:((prog.fieldsOf 79)[0]!).offset=0:=by kernel_rfl
 have H:((prog.fieldsOf 79)[1]!).offset=1:=by kernel_rfl
 have e:((prog.fieldsOf 79)[0]!).name = "Name" := by kernel_rfl
 have G:((prog.fieldsOf 79)[1]!).name = "Size" := by kernel_rfl
 rw[show(10000:Nat)=9999+1 from rfl,run_equalIn_agg w 9999 _ _ _ (by kernel_rfl) (by kernel_rfl),v];generalize(prog.fieldsOf 79)[0]! = i at *;generalize(prog.fieldsOf 79)[1]! = eg at *
 have q:prog.underlying 9=some .string:=by kernel_rfl
 have z:prog.underlying 3=some (.int .i64):=by kernel_rfl
 have R:∀(a:ai)(b:Int)w,(part i.type #[sv a,ii b] i.offset).run prog w=.ok (sv a) w:=fun a b w=>by
  rw[u,d];rfl
 have B:∀(a:ai)(b:Int)w,(part eg.type #[sv a,ii b] eg.offset).run prog w=.ok (ii b) w:=fun a b w=>by
  rw[a1,H];rfl
 have t:∀w,(Op.equalIn 9999 i.type (sv s) (sv s')).run prog w=.ok (s==s') w:=fun w=>by
  rw[u,show(9999:Nat)=9998+1 from rfl];have:=run_equalIn_string (P:=prog) w 9998 9 ⟨s.toArray⟩ ⟨s'.toArray⟩ q;rw[show sv s=.string ⟨s.toArray⟩from rfl,show sv s'=.string ⟨s'.toArray⟩from rfl,this];simp[toList_mk]
 have j:∀w,(Op.equalIn 9999 eg.type (ii n) (ii r)).run prog w=.ok (n==r) w:=fun w=>by
  rw[a1,show(9999:Nat)=9998+1 from rfl];exact run_equalIn_int (P:=prog) w 9998 3 .i64 .i64 n r z
 have c:i.name ≠ "_" := by rw[e];decide
 have A:eg.name ≠ "_" := by rw[G];decide
 rw[Op.eqFields,ae c];simp only[Sem.run_bind,R,Result.andThen_ok,t]
 cases s==s' with
 |false=>simp
 |true =>
  simp only[Bool.not_true,Bool.false_eq_true,if_false,Bool.true_and];rw[Op.eqFields,ae A];simp only[Sem.run_bind,B,Result.andThen_ok,j]
  cases n==r with
  |false=>simp
  |true=>simp[Op.eqFields]
theorem YG.XQ{fr:am}{Γ:ap}{x y:Operand}{c:TypeId}{s s':ai}{n r:Int}(hx:a8 fr x=.agg [.v (sv s),.v (ii n)])(J:a8 fr y=.agg [.v (sv s'),.v (ii r)]) :
  YG prog (.binOp .neq 79 x y c) fr Γ (.v (.bool (!((s==s')&&(n==r))))):=fun B K m w l O S=>by
 have q:∀{v:Value}{a b:Value},Rel K m v (.agg [.v a,.v b])->v=.agg #[a,b]:=fun{v a b}h=>by
  cases h with
  |agg i _ W M =>
   match i,W with
   |[u,e],_ =>
    have N:=Rel.eP (M 0 u (.v a) rfl rfl);have z:=Rel.eP (M 1 e (.v b) rfl rfl);rw[N,z]
 have T:=q (by rw[<-hx];exact S.ev x);have H:=q (by rw[<-J];exact S.ev y);refine⟨_,fun d A t j=>?_,.v _⟩;have C:=run_eqGuard_agg (P:=prog) w .neq 79 x y #[sv s,ii n] #[sv s',ii r] (by kernel_rfl);have V:=run_neq_struct (P:=prog) w 79 #[sv s,ii n] #[sv s',ii r];rw[Za,Result.andThen_ok]at V;simp[execOp,T,H,C,V]
attribute [local irreducible] GW GL GO YG GC GA bh bn
theorem TS(a b:List Ar)(ha:a.length<=1099511627776)(z:b.length<=1099511627776):GF prog 131 [(.sl 2 (a.map fun s=>bb s)),(.sl 2 (b.map fun s=>bb s))] [] (.v (.bool (fL zj a b))) []:=by
 have G:(a.map fun s=>bb s).length=a.length:=by simp
 have V:(b.map fun s=>bb s).length=b.length:=by simp
 by_cases T:a.length=b.length
 ·have F:(((a.map fun s=>bb s).length:Int) != ((b.map fun s=>bb s).length:Int))=false:=by rw[G,V,T];simp
  refine aj func131 ntmps131 ?_;refine GW.range (a.map fun s=>bb s).length (fun k w c=>w=(.sl 2 (a.map fun s=>bb s))::(.sl 2 (b.map fun s=>bb s))::U::U::U::U::U::U::U::U::U::U::.v (ii ((a.map fun s=>bb s).length:Int))::.v (ii (k:Nat))::zU 12 []/\c=[]/\tJ zj a b k) ?_ X ?_ ?_ ?_
  ·exact zbr
  ·exact iI
  ·rintro k _ _ M⟨rfl,rfl,l⟩;rw[G]at M
   have r:a[k]?=some a[k]:=by simp[M]
   have e:k<b.length:=by omega
   have n:b[k]?=some b[k]:=by simp[e]
   have o:(a.map fun s=>bb s)[k]?=some (bb a[k]):=by rw[bO,r];rfl
   have q:(b.map fun s=>bb s)[k]?=some (bb b[k]):=by rw[bO,n];rfl
   generalize a[k]=x at *;generalize b[k]=y at *;unfold bb at o q
   cases W:zj x y with
   |true =>
    have m:(!((x.name==y.name)&&(x.size==y.size)))=false:=by rw[show((x.name==y.name)&&(x.size==y.size))=zj x y from rfl,W];rfl
    refine zcN ?_;refine av ?_;apply OP
    ·exact rfl
    ·intro c;exact YG.XQ rfl rfl
    refine lx ?_;exact zcd
   |false =>
    have m:(!((x.name==y.name)&&(x.size==y.size)))=true:=by rw[show((x.name==y.name)&&(x.size==y.size))=zj x y from rfl,W];rfl
    rw[r9 r n (p:=zj) W];refine zcN ?_;refine av ?_;apply OP
    ·exact rfl
    ·intro c;exact YG.XQ rfl rfl
    refine lx ?_;exact zby
  ·rintro _ _⟨rfl,rfl,l⟩;exact zcH
 ·have F:(((a.map fun s=>bb s).length:Int) != ((b.map fun s=>bb s).length:Int))=true:=by rw[G,V];simpa using by omega
  rw[r8 T];refine aj func131 ntmps131 ?_;exact aw
end Go.Xg
set_option maxHeartbeats 1000000
namespace Go.Xg
open Go.RowKit Go.Xw Go.Proofs Tryz Go.Sp Go.Im
open GV (U)
open Go.Xp (T one levels)
attribute [local irreducible] GW GL GO YG GC GA bh bn
structure It(f:Nat):Prop where
 expr:∀d p t q x,p.ok->d+f<=1099511627776->iE f (.expr d) p=some (t,q)->GF prog 354 [.loc 0 0,.v (ii (d:Nat))] [cD p x] (qT t) [cD q x]
 level:∀k d p t q x,p.ok->k<=9->d+f<=1099511627776->iE f (.level k d) p=some (t,q)->GF prog 372 [.loc 0 0,.v (ii (k:Nat)),.v (ii (d:Nat))] [cD p x] (qT t) [cD q x]
 operand:∀d p t q x,p.ok->d+f<=1099511627776->iE f (.operand d) p=some (t,q)->GF prog 379 [.loc 0 0,.v (ii (d:Nat))] [cD p x] (qT t) [cD q x]
 exprs:∀d p l q x,p.ok->d+f<=1099511627776->iA f d [] p=some (l,q)->GF prog 381 [.loc 0 0,.v (ii (d:Nat))] [cD p x] (.sl 1 (lD l)) [cD q x]
theorem Hu:GF prog 315 [.v (ii 0),.v (ii 0),.v (sv []),.sl 1 []] [] (qT T.zero) []:=fA 0 0 [] [] [] rfl
theorem Wv{f:Nat}(C:It f)(d:Nat)(p:RS)(t:T)(q:RS)(x:PX)(A:p.ok)(hd:d+(f+1)<=1099511627776)(h:iE (f+1) (.expr d) p=some (t,q)) :
  GF prog 354 [.loc 0 0,.v (ii (d:Nat))] [cD p x] (qT t) [cD q x]:=by
 rw[iE]at h;have M:=wE p d x A
 by_cases l:(cI p d).code=0
 ·have k:((cI p d).code==0)=true:=by simpa using l
  rw[ae l]at h;rw[k]at M;rw[px l]at h M;have V:=C.level 0 (d+1) p t q x A X X h;refine aj func354 ntmps354 ?_;refine zed ?_;refine I [0] V ?_;exact aw
 ·have k:((cI p d).code==0)=false:=by simpa using l
  rw[D l]at h;rw[k]at M;cases h;refine aj func354 ntmps354 ?_;refine zed ?_;refine I [] Hu ?_;exact aw
theorem UO{f:Nat}(C:∀R,R<=f->It R)(k d:Nat)(p:RS)(t:T)(q:RS)(x:PX)(e:p.ok)(J:k<=9)(hd:d+(f+1)<=1099511627776)(h:iE (f+1) (.level k d) p=some (t,q)) :
  GF prog 372 [.loc 0 0,.v (ii (k:Nat)),.v (ii (d:Nat))] [cD p x] (qT t) [cD q x]:=by
 rw[iE]at h
 by_cases u:k=9
 ·subst u;rw[ae rfl]at h;have ho:=(C f (aQ _)).operand d p t q x e X h;refine aj func372 ntmps372 ?_;refine I [] tU ?_;refine I [0] ho ?_;exact aw
 ·rw[D u]at h
  have S:((k:Int)==9)=false:=by simp;omega
  cases o:iE f (.level (k+1) d) p with
  |none=>rw[o]at h;cases h
  |some r =>
   have⟨out,W⟩:=r;rw[o]at h;simp only at h;have O:=((ki f).1 _ _ _ _ e o).ok e;have V:=(C f (aQ _)).level (k+1) d p out W x e X X o;refine aj func372 ntmps372 ?_;refine I [] tU ?_;refine I [0] V ?_;refine GW.loop (fun z:Nat × T × RS=>z.1) (fun z fr Γ=>fr=.loc 0 0::.v (ii (k:Nat))::.v (ii (d:Nat))::U::U::U::U::qT z.2.1::zU 56 []/\Γ=[cD z.2.2 x]/\z.2.2.ok/\z.1<=f/\iE z.1 (.loop k d z.2.1) z.2.2=some (t,q)) (f,out,W) ?_ ?_
   ·exact⟨_,_,Wk.aW az,rfl,rfl,O,aQ _,h⟩
   ·clear h o V;rintro⟨g,out,p⟩_ _⟨rfl,rfl,e,G,h⟩;simp only at e G h
    cases g with
    |zero=>simp[iE]at h
    |succ g =>
    rw[iE]at h
    have J:k<9:=by omega
    have m:=rT p 0 x e aN
    by_cases B:p.code=0
    ·have F:(p.code==0)=true:=by simpa using B
     by_cases w:(tok p 0).ab=3
     ·have E:((tok p 0).ab==3)=true:=by simpa using w
      have Dy:=JK J;have c:=lM (levels.getD k []) (tok p 0).s (Cm k J)
      by_cases hit:(levels.getD k []).contains (tok p 0).s=true
      ·rw[ae ⟨B,w,hit⟩]at h;rw[hit]at c;have M:p.i<p.l.length:=sj (k:=0) X;have xr:=e.2
       cases A:iE g (.level (k+1) d) p.next with
       |none=>rw[A]at h;cases h
       |some r =>
        have⟨b,p2⟩:=r;rw[A]at h;simp only at h;have j:=(cU M).ok e;have Q:=((ki g).1 _ _ _ _ j A).ok j
        have L:=(C g X).level (k+1) d p.next b p2 x j X X A
        generalize tok p 0=tk at *;have N:=fA 6 tk.at_ tk.s [out,b] [[qT out],[qT b]] (iM _);refine zeB ?_;refine Z ?_;refine I [0] m ?_;refine aS (aK 0 9 (.a 9 (.a 10 (.a 11 (.q 12 .nil))))) ?_;refine av ?_;refine aJ [0] L ?_;refine zar ?_;refine aJ [] N ?_;refine Z ?_;exact⟨(g,one 6 tk.at_ tk.s [out,b],p2),⟨_,_,(Wk.cut (n:=1) (ed rfl) rfl).trans (Wk.aW az),rfl,rfl,Q,by omega,h⟩,by simp⟩
      ·have hit:(levels.getD k []).contains (tok p 0).s=false:=by simpa using hit
       rw[D (by rw[hit];simp)]at h
       obtain⟨rfl,rfl⟩:out=t/\p=q:=by simpa using h
       rw[hit]at c;generalize tok p 0=tk at *;refine zeB ?_;exact zcU
     ·have E:((tok p 0).ab==3)=false:=by simpa using w
      rw[D (fun H=>w H.2.1)]at h
      obtain⟨rfl,rfl⟩:out=t/\p=q:=by simpa using h
      generalize tok p 0=tk at *;refine zaG ?_;refine av ?_;refine cj [0] m ?_;exact zcU
    ·have F:(p.code==0)=false:=by simpa using B
     rw[D (fun H=>B H.1)]at h
     obtain⟨rfl,rfl⟩:out=t/\p=q:=by simpa using h
     refine zaG ?_;refine bp ?_;refine jA ?_;exact aB
theorem Ur{f:Nat}(C:∀E,E<=f->It E)(d:Nat)(p:RS)(l:List T)(q:RS)(x:PX)(A:p.ok)(hd:d+(f+1)<=1099511627776)(h:iA (f+1) d [] p=some (l,q)) :
  GF prog 381 [.loc 0 0,.v (ii (d:Nat))] [cD p x] (.sl 1 (lD l)) [cD q x]:=by
 refine aj func381 ntmps381 ?_;refine GW.wk (Wk.Cs (t:=5) (a:=none) (c:=0) 132 1 rfl) ?_;refine GW.loop (fun z:Nat × List T × RS=>z.1) (fun z G b=>∃n e,G=.loc 0 0::.v (ii (d:Nat))::U::U::U::.vec 1 n::zU 26 []/\b=[cD z.2.2 x,.vec 132 1 0 e]/\e.length=n/\e=lD z.2.1/\n+z.1<=f+1/\z.2.2.ok/\iA z.1 d z.2.1 z.2.2=some (l,q)) (f+1,[],p) ?_ ?_
 ·exact⟨_,_,Wk.aW az,0,[],rfl,rfl,rfl,rfl,by simp,A,h⟩
 ·clear h A;rintro⟨g,J,p⟩_ _⟨n,e,rfl,rfl,V,H,W,A,h⟩;simp only at H W A h
  cases g with
  |zero=>simp[iA]at h
  |succ g =>
  rw[iA]at h;have u:=kY p 0 [41] x A aN
  have j:J.length=n:=by rw[<-V,H,nW]
  by_cases k:p.code=0
  ·have o:(p.code==0)=true:=by simpa using k
   cases s:is p 0 [41]with
   |true =>
    rw[s]at u;rw[D (fun M=>by have:=M.2;rw[s]at this;cases this)]at h
    obtain⟨rfl,rfl⟩:J=l/\want p [41]=q:=by simpa using h
    have R:=fQ p [41] x A;subst H;refine Z ?_;refine I [0] u ?_;refine jA ?_;refine Z ?_;exact zdb
   |false =>
    rw[s]at u;rw[ae ⟨k,s⟩]at h
    by_cases F:J.length=0
    ·rw[ae F]at h
     have B:decide ((0:Int)<(n:Int))=false:=by simpa using by omega
     cases w:iE g (.expr d) p with
     |none=>rw[w]at h;cases h
     |some r =>
      have⟨a,N⟩:=r;rw[w]at h;simp only at h;have i:=((ki g).1 _ _ _ _ A w).ok A;have S:=(C g X).expr d p a N x A X w;refine Z ?_;refine I [0] u ?_;exact zbS
    ·rw[D F]at h
     have B:decide ((0:Int)<(n:Int))=true:=by simpa using by omega
     have m:=(dh A [44]).ok A;have R:=fQ p [44] x A
     cases w:iE g (.expr d) (want p [44])with
     |none=>rw[w]at h;cases h
     |some r =>
      have⟨a,N⟩:=r;rw[w]at h;simp only at h;have i:=((ki g).1 _ _ _ _ m w).ok m;have S:=(C g X).expr d _ a N x m X w;refine Z ?_;refine I [0] u ?_;refine zac ?_;refine I [0] R ?_;exact zbS
  ·have o:(p.code==0)=false:=by simpa using k
   rw[D (fun M=>k M.1)]at h
   obtain⟨rfl,rfl⟩:J=l/\want p [41]=q:=by simpa using h
   have R:=fQ p [41] x A;subst H;refine zbk ?_;exact zdb
theorem O1{f:Nat}(C:It f)(d:Nat)(p:RS)(t:T)(q:RS)(x:PX)(w:p.ok)(hd:d+(f+1)<=1099511627776)(h:iE (f+1) (.operand d) p=some (t,q)) :
  GF prog 379 [.loc 0 0,.v (ii (d:Nat))] [cD p x] (qT t) [cD q x]:=by
 rw[iE]at h;have m:=wE p d x w;have M:=rT p 0 x w aN
 by_cases W:(cI p d).code=0
 case neg =>
  have O:((cI p d).code==0)=false:=by simpa using W
  rw[D W]at h;rw[O]at m;cases h;refine aj func379 ntmps379 ?_;refine zed ?_;refine I [0] m ?_;refine I [] Hu ?_;exact aw
 case pos =>
 have O:((cI p d).code==0)=true:=by simpa using W
 rw[ae W]at h;rw[O,px W]at m;clear W O;have A:=kY p 0 [45] x w aN;have L:=kY p 0 [33] x w aN;have N:=kY p 0 [126] x w aN;have xr:=w.2;have S6:=w.1
 cases B:is p 0 [45]with
 |true =>
  rw[B]at A;rw[ae (.inl B)]at h;have n:p.i<p.l.length:=is_lt (k:=0) B;have c:=(cU n).ok w
  cases j:iE f (.operand (d+1)) p.next with
  |none=>exact zeP
  |some r =>
   have⟨b,R⟩:=r;rw[j]at h;cases h
   have o:=C.operand (d+1) p.next b _ x c X j
   generalize tok p 0=tk at *;have e:=fA 5 tk.at_ tk.s [b] [[qT b]] (iM _);refine aj func379 ntmps379 ?_;refine zed ?_;refine I [0] m ?_;refine I [0] A ?_;exact zaV
 |false =>
 rw[B]at A
 cases E:is p 0 [33]with
 |true =>
  rw[E]at L;rw[ae (.inr (.inl E))]at h;have n:p.i<p.l.length:=is_lt (k:=0) E;have c:=(cU n).ok w
  cases j:iE f (.operand (d+1)) p.next with
  |none=>exact zeP
  |some r =>
   have⟨b,R⟩:=r;rw[j]at h;cases h
   have o:=C.operand (d+1) p.next b _ x c X j
   generalize tok p 0=tk at *;have e:=fA 5 tk.at_ tk.s [b] [[qT b]] (iM _);refine aj func379 ntmps379 ?_;refine zed ?_;refine I [0] m ?_;refine I [0] A ?_;refine I [0] L ?_;exact zaV
 |false =>
 rw[E]at L
 cases F:is p 0 [126]with
 |true =>
  rw[F]at N;rw[ae (.inr (.inr F))]at h;have n:p.i<p.l.length:=is_lt (k:=0) F;have c:=(cU n).ok w
  cases j:iE f (.operand (d+1)) p.next with
  |none=>exact zeP
  |some r =>
   have⟨b,R⟩:=r;rw[j]at h;cases h
   have o:=C.operand (d+1) p.next b _ x c X j
   generalize tok p 0=tk at *;have e:=fA 5 tk.at_ tk.s [b] [[qT b]] (iM _);refine aj func379 ntmps379 ?_;refine zav ?_;exact zaV
 |false =>
 rw[F]at N;rw[D (by rw[B,E,F];decide)]at h
 by_cases hk:(tok p 0).ab=1
 case pos =>
  rw[ae hk]at h;have n:p.i<p.l.length:=sj (k:=0) X
  have Jo:((tok p 0).ab==1)=true:=by simpa using hk
  cases h;generalize tok p 0=tk at *;have e:=OS 1 tk.at_ [] [];refine aj func379 ntmps379 ?_;refine zav ?_;refine I [] e ?_;refine GW.wk (Wk.freeze (i:=2) rfl rfl rfl (ed rfl)) ?_;exact aw
 case neg =>
 rw[D hk]at h
 have Jo:((tok p 0).ab==1)=false:=by simpa using hk
 have S:=kY p 0 [40] x w aN
 cases G:is p 0 [40]with
 |true =>
  rw[G]at S;rw[ae G]at h;have n:p.i<p.l.length:=is_lt (k:=0) G;have c:=(cU n).ok w
  cases j:iE f (.expr (d+1)) p.next with
  |none=>exact zeP
  |some r =>
   have⟨b,R⟩:=r;rw[j]at h;cases h;have V:=((ki f).1 _ _ _ _ c j).ok c
   have o:=C.expr (d+1) p.next _ R x c X j
   have hw:=fQ R [41] x V;generalize tok p 0=tk at *;refine aj func379 ntmps379 ?_;refine zav ?_;refine I [0] S ?_;refine I [0] o ?_;refine zb7 ?_;exact aw
 |false =>
 rw[G]at S;rw[D (by rw[G];decide)]at h;have hn:=rq p x w;have c:=(jv w).ok w
 by_cases Q:(bV p).code=0
 case neg =>
  rw[D Q]at h
  have aaN:((bV p).code != 0)=true:=by simpa using Q
  cases h;generalize tok p 0=tk at *;generalize bV p=z at *;have e:=fA 2 tk.at_ tk.s [] [] rfl;refine aj func379 ntmps379 ?_;refine zav ?_;refine I [0] S ?_;refine I [0] hn ?_;exact zdO
 case pos =>
 rw[ae Q]at h
 have aaN:((bV p).code != 0)=false:=by simpa using Q
 generalize bV p=z at *;generalize tok p 0=tk at *;have h5:=kY z 0 [91] x c aN;have abQ:=c.2;have abP:=c.1
 cases H:is z 0 [91]with
 |true =>
  rw[H]at h5;rw[ae H]at h;have n:z.i<z.l.length:=is_lt (k:=0) H;have u:=(cU n).ok c
  cases j:iE f (.expr (d+1)) z.next with
  |none=>exact zeP
  |some r =>
   have⟨b,R⟩:=r;rw[j]at h;cases h;have V:=((ki f).1 _ _ _ _ u j).ok u
   have o:=C.expr (d+1) z.next b R x u X j
   have hw:=fQ R [93] x V;have e:=fA 3 tk.at_ tk.s [b] [[qT b]] (iM _);refine aj func379 ntmps379 ?_;refine zc8 ?_;refine I [0] o ?_;refine zb7 ?_;refine zac ?_;exact zdO
 |false =>
 rw[H]at h5;rw[D (by rw[H];decide)]at h;have h6:=kY z 0 [40] x c aN
 cases J:is z 0 [40]with
 |true =>
  rw[J]at h6;rw[ae J]at h;have n:z.i<z.l.length:=is_lt (k:=0) J;have u:=(cU n).ok c
  cases j:iA f (d+1) [] z.next with
  |none=>exact zeP
  |some r =>
   have⟨b,R⟩:=r;rw[j]at h;cases h
   have o:=C.exprs (d+1) z.next b _ x u X j
   have e:=fA 4 tk.at_ tk.s b (lD b) rfl;refine aj func379 ntmps379 ?_;refine zc8 ?_;refine I [0] h6 ?_;refine aS (aK 0 6 (.a 6 (.a 7 (.q 8 .nil)))) ?_;refine av ?_;refine aJ [0] o ?_;refine aJ [] e ?_;exact aB
 |false =>
  rw[J]at h6;rw[D (by rw[J];decide)]at h;cases h;have e:=fA 2 tk.at_ tk.s [] [] rfl;refine aj func379 ntmps379 ?_;refine zc8 ?_;refine I [0] h6 ?_;exact zdO
theorem ies(f:Nat):It f:=by
 induction f using Nat.strongRecOn with
 |_ f O =>
  cases f with
  |zero=>exact⟨fun d p t q x _ _ h=>by simp[iE]at h,fun k d p t q x _ _ _ h=>by simp[iE]at h,fun d p t q x _ _ h=>by simp[iE]at h,fun d p l q x _ _ h=>by simp[iA]at h⟩
  |succ f =>
   have C:=O f (Nat.lt_succ_self f)
   have n:∀B,B<=f->It B:=fun B h=>O B (Nat.lt_succ_of_le h)
   exact⟨fun d p t q x A F h=>Wv C d p t q x A F h,fun k d p t q x A m F h=>UO n k d p t q x A m F h,fun d p t q x A F h=>O1 C d p t q x A F h,fun d p l q x A F h=>Ur n d p l q x A F h⟩
end Go.Xg
namespace Go.Im
open Go.Xp Go.Sp
def Yj(f d:Nat)(p:RS):Option (T × RS) :=
 if(tok p 0).ab=2/\is p 1 [61]=true then match iE f (.expr (d+1)) (want (bV p) [61])with
  |none=>none
  |some (e,q)=>some (one 7 (tok p 0).at_ (tok p 0).s [e],want q [59])
 else match iE f (.expr (d+1)) p with
  |none=>none
  |some (e,q) =>
   if xa p q e then match e.au,iE f (.expr (d+1)) (want q [61])with
    |a::_,some (v,q)=>some (one 8 (tok p 0).at_ e.n.s [a,v],want q [59])
    |_,_=>none
   else some (one 12 (tok p 0).at_ [] [e],want q [59])
end Go.Im
namespace Go.Xg
open Go.RowKit Go.Xw Go.Proofs Tryz Go.Sp Go.Im
open GV (U)
open Go.Xp (T one)
attribute [local irreducible] GW GL GO YG GC GA bh bn
theorem RV{f:Nat}(d:Nat)(p:RS)(t:T)(q:RS)(x:PX)(J:p.ok)(hd:d+1+f<=1099511627776)(h:Yj f d p=some (t,q)) :
  GF prog 355 [.loc 0 0,.v (ii (d:Nat))] [cD p x] (qT t) [cD q x]:=by
 unfold Yj at h;have C:=ies f;have ht:=rT p 0 x J aN;have W:=kY p 1 [61] x J aN
 have B:∀kk,((tok p 0).ab==2)=kk->(kk=true->is p 1 [61]=false)->GF prog 355 [.loc 0 0,.v (ii (d:Nat))] [cD p x] (qT t) [cD q x]:=by
  intro kk L Q
  rw[D (fun hh=>by
   have h1:kk=true:=by rw[<-L];simpa using hh.1
   have h2:=Q h1
   rw[hh.2]at h2;cases h2)]at h
  cases G:iE f (.expr (d+1)) p with
  |none=>rw[G]at h;cases h
  |some r =>
   have⟨e,b⟩:=r;rw[G]at h;simp only at h;have c:=((ki f).1 _ _ _ _ J G).ok J;have abT:=c.1;have abU:=c.2;have A:=C.expr (d+1) p e b x J X G;have H:=kY b 0 [61] x c aN
   have z:e.n.ab=3->b.code=0->∃j,b.l[b.i-1]?=some j/\uL b=j.s/\1<=b.i:=by
    intro _ hc;have h1:=Xt f _ _ _ _ J G hc (fun k d out h=>by cases h);have h2:=c.1
    have mo:b.i-1<b.l.length:=by omega
    exact⟨b.l[b.i-1],by simp[mo],by unfold uL;simp[mo],by omega⟩
   by_cases u:xa p b e
   ·rw[ae u]at h;have S:=u;have⟨E,F,M,N,s5,s6⟩:=S;have⟨j,a1,O,a3⟩:=z E F
    have Jp:kk=true:=by rw[<-L];simpa using s5
    subst Jp;have m:=Q rfl;rw[m]at W;rw[s6]at H
    match S1:e.au,hv:iE f (.expr (d+1)) (want b [61]),h with
    |a::rk,some (v,q2),h =>
     cases h;have o:=(dh c [61]).ok c;have Jt:=((ki f).1 _ _ _ _ o hv).ok o;have hw:=fQ b [61] x c;have aaO:=C.expr (d+1) _ v q2 x o X hv;have V:=fQ q2 [59] x Jt;have hr:=kT a1;have NV:(lD e.au)[0]?=some [qT a]:=Bl (by rw[S1];rfl);have hr3:(lD (a::rk))[0]?=some [qT a]:=Bl rfl
     have b1:(e.n.ab==3)=true:=by simpa using E
     have b2:(b.code==0)=true:=by simpa using F
     have b3:(j.s==[93])=true:=by rw[<-O];simpa using M
     have b4:(e.n.at_==(tok p 0).at_)=true:=by simpa using N
     have w:=fA 8 (tok p 0).at_ e.n.s [a,v] [[qT a],[qT v]] (iM _);generalize tok p 0=tk at *;refine aj func355 ntmps355 ?_;refine I [0] ht ?_;refine I [0] W ?_;refine I [0] A ?_;refine aS (aK 0 45 (.a 45 (.q 46 .nil))) ?_;refine av ?_;refine cj [0] H ?_;refine Z ?_;refine zb7 ?_;refine I [0] aaO ?_;refine zac ?_;refine I [0] V ?_;refine aS (aK 0 14 (.a 14 (.a 15 (.q 16 .nil)))) ?_;refine av ?_;refine zar ?_;refine aJ [] w ?_;exact aB
    |[],_,h=>simp at h
    |_::_,none,h=>simp at h
   ·rw[D u]at h;cases h;have hw:=fQ b [59] x c;have w:=fA 12 (tok p 0).at_ [] [e] [[qT e]] (iM _)
    cases kk with
    |true =>
     have m:=Q rfl;rw[m]at W;refine aj func355 ntmps355 ?_;refine I [0] ht ?_;refine I [0] W ?_;refine I [0] A ?_;refine GW.join (fun fr Γ=>fr=.loc 0 0::.v (ii (d:Nat))::U::U::U::.loc 1 0::U::U::qT e::zU 78 (.v (.bool false)::zU 34 [])/\Γ=[cD b x,.box 205 (dd (tok p 0))]) ?_ ?_
     ·by_cases E:e.n.ab=3
      ·have b1:(e.n.ab==3)=true:=by simpa using E
       by_cases F:b.code=0
       ·have b2:(b.code==0)=true:=by simpa using F
        have⟨j,a1,O,a3⟩:=z E F;have hr:=kT a1
        by_cases M:uL b=[93]
        ·have b3:(j.s==[93])=true:=by rw[<-O];simpa using M
         by_cases N:e.n.at_=(tok p 0).at_
         ·have b4:(e.n.at_==(tok p 0).at_)=true:=by simpa using N
          have s6:is b 0 [61]=false:=by
           cases h6:is b 0 [61]with
           |false=>rfl
           |true=>exact absurd ⟨E,F,M,N,by simpa using L,h6⟩ u
          rw[s6]at H;generalize tok p 0=tk at *;refine aS (aK 0 45 (.a 45 (.q 46 .nil))) ?_;refine av ?_;refine cj [0] H ?_;exact iV
         ·have b4:(e.n.at_==(tok p 0).at_)=false:=by simpa using N
          exact zae
        ·have b3:(j.s==[93])=false:=by rw[<-O];simpa using M
         exact zae
       ·have b2:(b.code==0)=false:=by simpa using F
        exact zae
      ·have b1:(e.n.ab==3)=false:=by simpa using E
       exact zae
     ·rintro _ _⟨rfl,rfl⟩;exact zdz
    |false =>
     refine aj func355 ntmps355 ?_;refine I [0] ht ?_;refine I [0] A ?_;refine GW.join (fun fr Γ=>fr=.loc 0 0::.v (ii (d:Nat))::U::U::U::.loc 1 0::U::U::qT e::zU 78 (.v (.bool false)::zU 34 [])/\Γ=[cD b x,.box 205 (dd (tok p 0))]) ?_ ?_
     ·by_cases E:e.n.ab=3
      ·have b1:(e.n.ab==3)=true:=by simpa using E
       by_cases F:b.code=0
       ·have b2:(b.code==0)=true:=by simpa using F
        have⟨j,a1,O,a3⟩:=z E F;have hr:=kT a1
        by_cases M:uL b=[93]
        ·have b3:(j.s==[93])=true:=by rw[<-O];simpa using M
         by_cases N:e.n.at_=(tok p 0).at_
         ·have b4:(e.n.at_==(tok p 0).at_)=true:=by simpa using N
          exact zae
         ·have b4:(e.n.at_==(tok p 0).at_)=false:=by simpa using N
          exact zae
        ·have b3:(j.s==[93])=false:=by rw[<-O];simpa using M
         exact zae
       ·have b2:(b.code==0)=false:=by simpa using F
        exact zae
      ·have b1:(e.n.ab==3)=false:=by simpa using E
       exact zae
     ·rintro _ _⟨rfl,rfl⟩;exact zdz
 by_cases L:(tok p 0).ab=2
 ·cases m:is p 1 [61]with
  |true =>
   clear B;rw[ae ⟨L,m⟩]at h;rw[m]at W
   have Jo:((tok p 0).ab==2)=true:=by simpa using L
   have hn:=rq p x J;have R:=(jv J).ok J;have hw:=fQ (bV p) [61] x R;have o:=(dh R [61]).ok R
   cases G:iE f (.expr (d+1)) (want (bV p) [61])with
   |none=>rw[G]at h;cases h
   |some r =>
    have⟨e,b⟩:=r;rw[G]at h;cases h;have c:=((ki f).1 _ _ _ _ o G).ok o;have A:=C.expr (d+1) _ e b x o X G;have V:=fQ b [59] x c;have w:=fA 7 (tok p 0).at_ (tok p 0).s [e] [[qT e]] (iM _);generalize tok p 0=tk at *;refine aj func355 ntmps355 ?_;refine I [0] ht ?_;refine I [0] W ?_;refine I [0] hn ?_;refine zb7 ?_;refine I [0] A ?_;refine zac ?_;refine I [0] V ?_;refine zac ?_;exact zbI
  |false=>exact B true (by simpa using L) (fun _=>m)
 ·exact B false (by simpa using L) (fun h=>by cases h)
open Go.Xp (lV fZ iv gA gJ)
theorem OR(k a:Int)(s:ai):GF prog 315 [.v (ii k),.v (ii a),.v (sv s),.v (.slice none 0 0)] [] (.loc 0 0) [.box 191 [.v (ii k),.v (ii a),.v (ii 0),.v (sv s),.v (.slice none 0 0),.v (.slice none 0 0)]]:=by
 refine aj func315 ntmps315 ?_;refine GW.wk (Wk.cells 0 rfl (ds:=[.v (ii k),.v (ii a),.v (ii 0),.v (sv s),.v (.slice none 0 0),.v (.slice none 0 0)]) iz) ?_;exact zdS
structure Sk(f:Nat):Prop where
 block:∀d p t q x,p.ok->d+3+f<=1099511627776->iS f (.block d) p=some (t,q)->GF prog 258 [.loc 0 0,.v (ii (d:Nat))] [cD p x] (qT t) [cD q x]
 stmt:∀d p t q x,p.ok->d+3+f<=1099511627776->iS f (.stmt d) p=some (t,q)->GF prog 317 [.loc 0 0,.v (ii (d:Nat))] [cD p x] (qT t) [cD q x]
theorem T7{f:Nat}(C:∀O,O<=f->Sk O)(d:Nat)(p:RS)(t:T)(q:RS)(x:PX)(A:p.ok)(hd:d+3+(f+1)<=1099511627776)(h:iS (f+1) (.block d) p=some (t,q)) :
  GF prog 258 [.loc 0 0,.v (ii (d:Nat))] [cD p x] (qT t) [cD q x]:=by
 rw[iS]at h;have M:=wE p d x A;have G:=rT p 0 x A aN;have u:=OR 14 (tok p 0).at_ []
 by_cases m:(cI p d).code=0
 case neg =>
  have k:((cI p d).code==0)=false:=by simpa using m
  rw[D m]at h;rw[k]at M;cases h;generalize tok p 0=tk at *;refine aj func258 ntmps258 ?_;refine I [0] G ?_;refine I [] u ?_;refine zed ?_;refine GW.wk (Wk.cells 1 rfl (ds:=[.v (ii 14),.v (ii tk.at_),.v (ii 0),.v (sv []),.v (.slice none 0 0),.sl 1 []]) iz) ?_;refine GW.wk (Wk.freeze (i:=1) rfl rfl rfl (ed rfl)) ?_;exact aw
 case pos =>
 have k:((cI p d).code==0)=true:=by simpa using m
 rw[ae m]at h;rw[k,px m]at M;clear m k;have s:=(dh A [123]).ok A;have R:=fQ p [123] x A
 cases S:iB f (d+1) [] (want p [123])with
 |none=>rw[S]at h;cases h
 |some r =>
  have⟨l,L⟩:=r;rw[S]at h;cases h;generalize tok p 0=tk at *;refine aj func258 ntmps258 ?_;refine I [0] G ?_;refine I [] u ?_;refine zed ?_;refine zac ?_;refine I [0] R ?_;refine GW.wk (Wk.Ge (i:=1) (o:=5) 132 1 rfl rfl) ?_;refine GW.loop (fun z:Nat × List T × RS=>z.1) (fun z b c=>∃n e,b=.loc 0 0::.v (ii (d:Nat))::U::U::U::.loc 1 0::zU 39 []/\c=[cD z.2.2 x,.box 191 [.v (ii 14),.v (ii tk.at_),.v (ii 0),.v (sv []),.v (.slice none 0 0),.vec 2 n],.vec 132 1 0 e]/\e.length=n/\e=lD z.2.1/\n+z.1<=f/\z.2.2.ok/\iB z.1 (d+1) z.2.1 z.2.2=some (l,L)) (f,[],want p [123]) ?_ ?_
  ·exact⟨_,_,Wk.aW az,0,[],rfl,rfl,rfl,rfl,by simp,s,S⟩
  ·clear S s R M G;rintro⟨g,J,p⟩_ _⟨n,e,rfl,rfl,V,H,W,A,h⟩;simp only at H W A h
   cases g with
   |zero=>simp[iB]at h
   |succ g =>
   rw[iB]at h;have B:=kY p 0 [125] x A aN
   by_cases m:p.code=0
   ·have k:(p.code==0)=true:=by simpa using m
    cases E:is p 0 [125]with
    |true =>
     rw[E]at B;rw[D (fun N=>by have:=N.2;rw[E]at this;cases this)]at h
     obtain⟨rfl,rfl⟩:J=l/\p=L:=by simpa using h
     have R:=fQ p [125] x A;subst H;refine Z ?_;refine I [0] B ?_;refine jA ?_;refine Z ?_;exact zbK
    |false =>
     rw[E]at B;rw[ae ⟨m,E⟩]at h
     cases w:iS g (.stmt (d+1)) p with
     |none=>rw[w]at h;cases h
     |some r =>
      have⟨a,Q⟩:=r;rw[w]at h;simp only at h;have j:=((EC g).1 _ _ _ _ A w).ok A;have F:=(C g X).stmt (d+1) p a Q x A X w;refine Z ?_;refine I [0] B ?_;refine aS (aK 0 8 (.a 8 (.a 9 (.a 10 (.q 11 (.q 12 (.a 13 .nil))))))) ?_;refine av ?_;refine aJ [0] F ?_;refine zar ?_;refine yX ?_;refine bp ?_;exact⟨(g,J++[a],Q),⟨_,_,Wk.aW az,_,_,rfl,rfl,by simp[V],by rw[vU,H];rfl,by show n+1+g<=f;omega,j,h⟩,by simp⟩
   ·have k:(p.code==0)=false:=by simpa using m
    rw[D (fun N=>m N.1)]at h
    obtain⟨rfl,rfl⟩:J=l/\p=L:=by simpa using h
    have R:=fQ p [125] x A;subst H;refine zbk ?_;exact zbK
theorem Yp{f:Nat}(C:Sk f)(d:Nat)(p:RS)(t:T)(q:RS)(x:PX)(L:p.ok)(hd:d+3+(f+1)<=1099511627776)(h:iS (f+1) (.stmt d) p=some (t,q)) :
  GF prog 317 [.loc 0 0,.v (ii (d:Nat))] [cD p x] (qT t) [cD q x]:=by
 rw[iS]at h;have E:=ies f;have m:=wE p d x L;have ht:=rT p 0 x L aN
 by_cases hc:(cI p d).code=0
 case neg =>
  have W:((cI p d).code==0)=false:=by simpa using hc
  rw[D hc]at h;rw[W]at m;cases h;refine aj func317 ntmps317 ?_;refine I [0] ht ?_;refine I [0] m ?_;refine I [] Hu ?_;exact aw
 case pos =>
 have W:((cI p d).code==0)=true:=by simpa using hc
 rw[ae hc]at h;rw[W,px hc]at m;clear hc W;have xr:=L.2;have S6:=L.1;have V:=kY p 0 lV x L aN;have J:=kY p 0 fZ x L aN;have h3:=kY p 0 gA x L aN;have h4:=kY p 0 gJ x L aN
 cases O:is p 0 lV with
 |true =>
  rw[O]at V;rw[ae O]at h;have N:p.i<p.l.length:=is_lt (k:=0) O;have j:=(cU N).ok L
  have hn:=rq p.next x j
  have Xb:=(jv j).ok j;have hw:=fQ _ [61] x Xb;have z:=(dh Xb [61]).ok Xb
  cases G:iE f (.expr (d+1)) (want (bV p.next) [61])with
  |none=>rw[G]at h;cases h
  |some r =>
   have⟨e,q1⟩:=r;rw[G]at h;cases h;have A:=((ki f).1 _ _ _ _ z G).ok z;have u:=E.expr (d+1) _ e q1 x z X G;have w:=fQ q1 [59] x A;have n:=fA 13 (tok p 0).at_ (tok p.next 0).s [e] [[qT e]] (iM _);generalize tok p 0=tk at *
   generalize tok p.next 0=tn at *
   refine aj func317 ntmps317 ?_;refine I [0] ht ?_;refine I [0] m ?_;refine I [0] V ?_;refine I [0] hn ?_;refine zb7 ?_;exact zc1
 |false =>
 rw[O]at V;rw[D (by rw[O];decide)]at h
 have R:∀bi bw:Bool,is p 0 fZ=bi->is p 0 gA=bw->(bi=true\/bw=true)->GF prog 317 [.loc 0 0,.v (ii (d:Nat))] [cD p x] (qT t) [cD q x]:=by
  intro bi bw H hbw xR
  have M:is p 0 fZ=true\/is p 0 gA=true:=by rw[H,hbw];exact xR
  have N:p.i<p.l.length:=by rcases M with hh|hh<;>exact is_lt (k:=0) hh
  rw[ae M]at h;have j:=(cU N).ok L
  have hw:=fQ p.next [40] x j
  have z:=(dh j [40]).ok j
  cases G:iE f (.expr (d+1)) (want p.next [40])with
  |none=>rw[G]at h;cases h
  |some r =>
  have⟨c,q1⟩:=r;rw[G]at h;simp only at h;have A:=((ki f).1 _ _ _ _ z G).ok z;have u:=E.expr (d+1) _ c q1 x z X G;have w:=fQ q1 [41] x A;have Xd:=(dh A [41]).ok A
  cases hb:iS f (.block (d+1)) (want q1 [41])with
  |none=>rw[hb]at h;cases h
  |some r =>
  have⟨b,S⟩:=r;rw[hb]at h;simp only at h;have Jt:=((EC f).1 _ _ _ _ Xd hb).ok Xd;have abW:=Jt.2;have abV:=Jt.1;have F:=C.block (d+1) _ b S x Xd X hb;have sa:=kY S 0 iv x Jt aN;rw[H]at J;rw[hbw]at h3
  cases bi with
  |true =>
   have B:∀(cc ee:Bool),(S.code==0)=cc->is S 0 iv=ee->(cc=false\/ee=false)->GF prog 317 [.loc 0 0,.v (ii (d:Nat))] [cD p x] (qT t) [cD q x]:=by
    intro cc ee WQ o W8
    rw[D (fun hh=>by
     rcases W8 with h0|h0
     ·rw[h0]at WQ;have:=hh.2.1;simp[this]at WQ
     ·rw[h0]at o;rw[o]at hh;exact absurd hh.2.2 aN),ae H]at h
    cases h;rw[o]at sa;have n:=fA 9 (tok p 0).at_ [] [c,b] [[qT c],[qT b]] (iM _);generalize tok p 0=tk at *
    cases cc with
    |true =>
     cases ee with
     |true=>simp at W8
     |false =>
      refine aj func317 ntmps317 ?_;refine zaM ?_;refine I [0] J ?_;refine zb7 ?_;refine I [0] u ?_;refine nR ?_;refine Z ?_;refine zac ?_;refine I [0] w ?_;refine I [0] F ?_;refine zbz ?_;refine I [0] sa ?_;exact zc5
    |false =>
     refine aj func317 ntmps317 ?_;refine zaM ?_;exact zaZ
   by_cases Dv:S.code=0
   ·cases o:is S 0 iv with
    |true =>
     clear B;rw[ae ⟨H,Dv,o⟩]at h;rw[o]at sa
     have WQ:(S.code==0)=true:=by simpa using Dv
     have FL:S.i<S.l.length:=is_lt (k:=0) o;have hqn:=(cU FL).ok Jt
     cases vF:iS f (.block (d+1)) S.next with
     |none=>rw[vF]at h;cases h
     |some r =>
      have⟨b2,q3⟩:=r;rw[vF]at h;cases h;have Zf:=C.block (d+1) _ b2 _ x hqn X vF;have n:=fA 9 (tok p 0).at_ [] [c,b,b2] [[qT c],[qT b],[qT b2]] (iM _);generalize tok p 0=tk at *;refine aj func317 ntmps317 ?_;refine zaM ?_;refine I [0] J ?_;refine zb7 ?_;refine I [0] u ?_;refine nR ?_;refine Z ?_;refine zac ?_;refine I [0] w ?_;refine I [0] F ?_;refine zbz ?_;refine I [0] sa ?_;refine I [0] Zf ?_;refine zbz ?_;exact zc5
    |false=>exact B true false (by simpa using Dv) o (.inr rfl)
   ·exact B false _ (by simpa using Dv) rfl (.inl rfl)
  |false =>
   have aaL:bw=true:=by simpa using xR
   subst aaL;rw[D (fun hh=>by have:=hh.1;rw[H]at this;cases this),D (by rw[H];decide)]at h;cases h;have n:=fA 10 (tok p 0).at_ [] [c,b] [[qT c],[qT b]] (iM _);generalize tok p 0=tk at *;refine aj func317 ntmps317 ?_;refine zaM ?_;refine I [0] h3 ?_;exact zaZ
 cases zr:is p 0 fZ with
 |true=>exact R true _ zr rfl (.inl rfl)
 |false =>
 cases hs3:is p 0 gA with
 |true=>exact R false true zr hs3 (.inr rfl)
 |false =>
 clear R;rw[zr]at J;rw[hs3]at h3;rw[D (by rw[zr,hs3];decide)]at h
 cases Q:is p 0 gJ with
 |true =>
  rw[Q]at h4;rw[ae Q]at h;have N:p.i<p.l.length:=is_lt (k:=0) Q;have j:=(cU N).ok L
  cases G:iE f (.expr (d+1)) p.next with
  |none=>rw[G]at h;cases h
  |some r =>
   have⟨e,q1⟩:=r;rw[G]at h;cases h;have A:=((ki f).1 _ _ _ _ j G).ok j;have u:=E.expr (d+1) _ e q1 x j X G;have w:=fQ q1 [59] x A;have n:=fA 11 (tok p 0).at_ [] [e] [[qT e]] (iM _);generalize tok p 0=tk at *;refine aj func317 ntmps317 ?_;refine zaM ?_;refine I [0] h3 ?_;refine I [0] h4 ?_;exact zc1
 |false =>
  rw[Q]at h4;rw[D (by rw[Q];decide)]at h;have hsi:=RV (f:=f) d p t q x L X h;generalize tok p 0=tk at *;refine aj func317 ntmps317 ?_;refine zaM ?_;refine I [0] h3 ?_;refine I [0] h4 ?_;refine I [0] hsi ?_;exact aw
theorem iss(f:Nat):Sk f:=by
 induction f using Nat.strongRecOn with
 |_ f O =>
  cases f with
  |zero=>exact⟨fun d p t q x _ _ h=>by simp[iS]at h,fun d p t q x _ _ h=>by simp[iS]at h⟩
  |succ f =>
   have C:=O f (Nat.lt_succ_self f)
   have n:∀B,B<=f->Sk B:=fun B h=>O B (Nat.lt_succ_of_le h)
   exact⟨fun d p t q x A F h=>T7 n d p t q x A F h,fun d p t q x A F h=>Yp C d p t q x A F h⟩
end Go.Xg
namespace Go.Xg
open Go.RowKit Go.Xw Go.Proofs Tryz
open GV (U)
open Go.Xp (Nd T bc aR jC ey bQ)
attribute [local irreducible] GW GL GO YG GC GA bh bn
def sC(n:Nd):am:=[.v (ii n.ab),.v (ii n.at_),.v (ii n.n),.v (sv n.s),ints n.au]
def Cz(t:T)(x:Value):am:=[.v (ii t.n.ab),.v (ii t.n.at_),.v (ii t.n.n),.v (sv t.n.s),.v x]
theorem Nv:∀(N:Nat)(t:T),bc t<=N->∀(n:Nat)(rows:List am)(a:Option Addr)(c:Nat),rows.length=n->n+bc t<=1099511627776 ->
  GC prog 143 [.v (.slice a n c),qT t] [.vech 82 5 rows (.slice a n c)] fun g bE=>∃a c,g=.v (.slice a (n+bc t) c)/\bE=[.vech 82 5 (rows++(jC n t).map sC) (.slice a (n+bc t) c)]:=by
 intro N
 induction N with
 |zero=>intro t h;rw[Go.Xp.fC]at h;omega
 |succ N W =>
 intro t M n rows a c S O;subst S;rw[Go.Xp.fC]at O M;have Q:=Go.Xp.gm t.au;refine aj func143 ntmps143 ?_;refine GL.ij 0 rfl rfl rfl rfl rfl rfl rfl rfl aO ke ?_;intro a c;refine zaJ ?_;refine GW.wk (Wk.jO 3 1) ?_
 refine GW.range (lD t.au).length (fun k L Γ=>∃a c e l,L=.v (.slice a (rows.length+1+aR (t.au.take k)) c)::qT t::U::U::U::.v (ii (rows.length:Nat))::zU 14 (.sl 1 (lD t.au)::.v (ii ((lD t.au).length:Int))::.v (ii (k:Nat))::zU 21 []) /\
  Γ=[.vech 82 5 (rows++Cz t (.slice e k l)::(ey (rows.length+1) (t.au.take k)).map sC) (.slice a (rows.length+1+aR (t.au.take k)) c),.vech 3 1 ((bQ (rows.length+1) (t.au.take k)).map fun z=>[.v (ii z)]) (.slice e k l)]) ?_ (by rw[nW];omega) ?_ ?_ ?_
 ·refine⟨_,_,Wk.aW az,a,c,none,0,rfl,?_⟩;rfl
 ·rintro k _ _⟨a,c,e,l,rfl,rfl⟩;exact dN
 ·rintro k _ _ u⟨a,c,e,l,rfl,rfl⟩;rw[nW]at u;obtain⟨kid,b⟩:∃kid,t.au[k]?=some kid:=⟨t.au[k],by simp[u]⟩;have hr:=Bl b;have V:=Go.Xp.vd b;have R:=Go.Xp.rS t.au (k+1)
  have E:t.au.take (k+1)=t.au.take k++[kid]:=by rw[dc,b];rfl
  have hX:((ey (rows.length+1) (t.au.take k)).map sC).length=aR (t.au.take k):=by rw[bC,Go.Xp.tg]
  have m:((bQ (rows.length+1) (t.au.take k)).map fun z=>[GV.v (ii z)]).length=k:=by rw[bC,Go.Xp.db,kr];omega
  rw[E,Go.Xp.wO,Go.Xp.yC,Go.Xp.o7];simp only[bQ,ey,aR,fV,Nat.add_zero,kL,List.map_cons,map_nil,<-nD]
  have A:=fun(rs:List am)a c h=>W kid X (rows.length+1+aR (t.au.take k)) rs a c h X
  generalize(ey (rows.length+1) (t.au.take k)).map sC=ab7 at *;generalize((bQ (rows.length+1) (t.au.take k)).map fun z=>[GV.v (ii z)])=w at *;generalize aR (t.au.take k)=s at *;subst m
  have q:∀r:am,(rows++r::ab7).length=rows.length+1+s:=fun r=>by simp;omega
  have d:(rows++Cz t (.slice e w.length l)::ab7)[rows.length]?=some (Cz t (.slice e w.length l)):=by simp
  have C:=q (Cz t (.slice e w.length l));unfold Cz at d C |-;refine Z ?_;refine zau ?_;intro F H;refine zaJ ?_;refine wq ?_;rw[Gy];simp only[bU];refine Z ?_;refine bx [0] (A _ _ _ (q _)) ?_;rintro _ _⟨G,J,rfl,rfl⟩;refine zao ?_;refine⟨rfl,rfl,_,_,Wk.aW az,G,J,F,H,rfl,?_⟩;rw[gS];rfl
 ·rintro _ _⟨a,c,e,l,rfl,rfl⟩;rw[nW,dx];rw[Go.Xp.fC,Go.Xp.Nt]
  have m:((bQ (rows.length+1) t.au).map fun z=>[GV.v (ii z)]).length=t.au.length:=by rw[bC,Go.Xp.db]
  have B:ints (bQ (rows.length+1) t.au)=.sl 1 ((bQ (rows.length+1) t.au).map fun z=>[GV.v (ii z)]):=rfl;rw[List.map_cons];simp only[sC,Cz];rw[B,show rows.length+(aR t.au+1)=rows.length+1+aR t.au by omega];generalize(ey (rows.length+1) t.au).map sC=ab7 at *;generalize((bQ (rows.length+1) t.au).map fun z=>[GV.v (ii z)])=w at *;generalize aR t.au=s at *
  have d:∀r:am,(rows++r::ab7)[rows.length]?=some r:=fun r=>by simp
  refine bl ?_;apply GW.wk
  ·apply Wk.LX (i:=0) (idx:=rows.length) (o:=4) (j:=1)
   ·rfl
   ·exact d _
   ·rfl
   ·rfl
   ·rfl
  rw[Gy];simp only[bU];refine zdI ?_;exact zen
open Go.Sp Go.Im
open Go.Xp (iU Ar)
structure HW where
 aT:Option Addr
 cT:Nat
 aG:Option Addr
 cG:Nat
 aA:Option Addr
 cA:Nat
 aF:Option Addr
 cF:Nat
def rB(x:Ar):am:=[.v (sv x.name),.v (ii x.size)]
def qI(x:ai × List ai):am:=[.v (sv x.1),strs x.2,.v (ii 0)]
def mi(x:ai):am:=[.v (sv x)]
abbrev hx(st:PS)(h:HW):PX:=⟨.slice h.aT st.aM.length h.cT,.slice h.aG st.ax.length h.cG,.slice h.aA st.aq.length h.cA,.slice h.aF st.ak.length h.cF,.slice none 0 0⟩
abbrev vb(p:RS)(st:PS)(h:HW):ap:=[cD p (hx st h),.vech 132 1 (lD st.aM) (.slice h.aT st.aM.length h.cT),.vech 9 1 (st.ax.map mi) (.slice h.aG st.ax.length h.cG),.vech 79 2 (st.aq.map rB) (.slice h.aA st.aq.length h.cA),.vech 53 3 (st.ak.map qI) (.slice h.aF st.ak.length h.cF)]
theorem wW{S β:Type}(g:S->β)(l:List S)(x:S):(l++[x]).map g=l.map g++[g x]:=by simp
theorem PT{f:Nat}(p:RS)(st:PS)(h:HW)(q:RS)(E:PS)(n:Nat)(L:p.ok)(hn:st.le n)(hb:n+1<=1099511627776)(N:is p 0 iU=true)(l:iW f p st=some (q,E)) :
  GC prog 199 [.loc 0 0] (vb p st h) (fun g bE=>g=.tup []/\∃h',bE=vb q E h'):=by
 have⟨S6,xr⟩:=id L;have⟨hn1,hn2,hn3,hn4⟩:=hn;unfold iW at l;rw[ae N]at l;have C:=kY p 0 iU (hx st h) L aN;rw[N]at C;have A:=(kH N).ok L
 have r:=rq p.next (hx st h) A
 have d:=(jv A).ok A;generalize(tok p.next 0).s=s at *
 generalize bV p.next=b at *
 have i:=kY b 0 [91] (hx st h) d aN
 have G:¬(b.code=0/\is b 0 [91]=true)->True:=fun _=>trivial
 cases R:(b.code==0)with
 |false =>
  have w:¬b.code=0:=by simpa using R
  rw[D (fun H=>w H.1)]at l;cases l
  have m:(st.ax.map mi).length+1=(st.ax++[s]).length:=by simp
  have o:st.ax.map mi++[[GV.v (sv s)]]=(st.ax++[s]).map mi:=by simp[mi]
  have u:(st.ax.map mi).length+1<=1099511627776:=by simp;omega
  refine aj func199 ntmps199 ?_;refine I [0] C ?_;refine I [0] r ?_;exact zaS
 |true =>
  have w:b.code=0:=by simpa using R
  cases e:is b 0 [91]with
  |false =>
   rw[e]at i;rw[D (fun H=>by have:=H.2;rw[e]at this;cases this)]at l;cases l
   have m:(st.ax.map mi).length+1=(st.ax++[s]).length:=by simp
   have o:st.ax.map mi++[[GV.v (sv s)]]=(st.ax++[s]).map mi:=by simp[mi]
   have u:(st.ax.map mi).length+1<=1099511627776:=by simp;omega
   refine aj func199 ntmps199 ?_;refine I [0] C ?_;refine I [0] r ?_;refine I [0] i ?_;exact zaS
  |true =>
   rw[e]at i;rw[ae ⟨w,e⟩]at l;have j:=(kH e).ok d;have S:=d.1;have T:=d.2;have V:=j.1;have W:=j.2
   have ht:=rT b.next 0 (hx st h) j aN
   have Q:=y7 b.next (hx st h) j
   have B:(tok b.next 0).ab=1->b.next.next.ok:=fun z=>(cU (sj (p:=b.next) (k:=0) (by rw[z];decide))).ok j
   generalize tok b.next 0=tk at *
   by_cases z:tk.ab=1
   ·rw[ae z]at l;cases l
    have J:(tk.ab != 1)=false:=by simpa using z
    have t:=B z;have abS:=t.1
    have O:=fQ b.next.next [93] (hx st h) t
    have M:=(dh t [93]).ok t
    generalize want b.next.next [93]=p5 at *
    have m:(st.aq.map rB).length+1=(st.aq++[(⟨s,tk.n⟩:Ar)]).length:=by simp
    have o:st.aq.map rB++[[GV.v (sv s),.v (ii tk.n)]]=(st.aq++[(⟨s,tk.n⟩:Ar)]).map rB:=by simp[rB]
    have u:(st.aq.map rB).length+1<=1099511627776:=by simp;omega
    refine aj func199 ntmps199 ?_;refine I [0] C ?_;refine I [0] r ?_;refine I [0] i ?_;refine I [0] ht ?_;refine zac ?_;refine I [0] O ?_;refine aS (aK 0 10 (.a 10 (.a 11 (aK 12 3 (.a 15 .nil))))) ?_;refine av ?_;refine zar ?_;refine OA rfl rfl (GL.mx 3 rfl rfl rfl aO rfl rfl (by refine⟨?_,?_⟩;(· show _+1<=_;omega);(· show(_+1)*_<=_;omega)) ?_);intro a c;refine cW ?_;generalize F:chunk 1 2 _=ab7
    obtain rfl:ab7=[rB ⟨s,tk.n⟩]:=by rw[<-F];rfl
    clear F
    try (generalize F:chunk 1 2 _=ab7;obtain rfl:ab7=[rB ⟨s,tk.n⟩]:=by rw[<-F];rfl)
    rw[show(st.aq.map rB).length+[rB ⟨s,tk.n⟩].length=(st.aq++[(⟨s,tk.n⟩:Ar)]).length by simp,<-wW rB st.aq ⟨s,tk.n⟩];refine bp ?_;refine zac ?_;refine I [0] (fQ p5 [59] (hx { st with aq:=st.aq++[⟨s,tk.n⟩] } { h with aA:=a,cA:=c }) M) ?_;refine dz ?_;exact⟨rfl,{ h with aA:=a,cA:=c },rfl⟩
   ·rw[D z]at l;cases l
    have J:(tk.ab != 1)=true:=by simpa using z
    refine aj func199 ntmps199 ?_;refine I [0] C ?_;refine I [0] r ?_;refine I [0] i ?_;refine I [0] ht ?_;refine I [0] Q ?_;exact zdf
open Go.Xp (jq)
theorem Mb{f:Nat}(p:RS)(st:PS)(h:HW)(q:RS)(N:PS)(A:p.ok)(r:is p 0 iU=false)(s:is p 0 jq=false)(R:iW f p st=some (q,N)) :
  GC prog 199 [.loc 0 0] (vb p st h) (fun g bE=>g=.tup []/\∃L,bE=vb q N L):=by
 unfold iW at R;rw[D (by rw[r];decide),D (by rw[s];decide)]at R;cases R;have t:=kY p 0 iU (hx st h) A aN;have l:=kY p 0 jq (hx st h) A aN;have E:=y7 p (hx st h) A;rw[r]at t;rw[s]at l;refine aj func199 ntmps199 ?_;refine I [0] t ?_;refine I [0] l ?_;refine I [0] E ?_;exact zdf
abbrev Y7(p:RS)(st:PS)(h:HW)(s:ai)(H:List ai)(a:Option Addr)(c:Nat):ap:=vb p st h++[.box 53 [.v (sv s),.v (.slice a H.length c),.v (ii 0)],.vech 9 1 (H.map mi) (.slice a H.length c)]
theorem Mc{f:Nat}(p:RS)(st:PS)(h:HW)(q:RS)(J:PS)(n:Nat)(v:p.ok)(hn:st.le n)(hb:n+f+4<=1099511627776)(V:is p 0 iU=false)(hs:is p 0 jq=true)(e:iW f p st=some (q,J)) :
  GC prog 199 [.loc 0 0] (vb p st h) (fun g bE=>g=.tup []/\∃h',bE=vb q J h'):=by
 have⟨S6,xr⟩:=id v;have⟨hn1,hn2,hn3,hn4⟩:=hn;unfold iW at e;rw[D (by rw[V];decide),ae hs]at e;have L:=kY p 0 iU (hx st h) v aN;rw[V]at L;have C:=kY p 0 jq (hx st h) v aN;rw[hs]at C;have F:=(kH hs).ok v
 have w:=rq p.next (hx st h) F
 have m:=(jv F).ok F;generalize(tok p.next 0).s=s at *
 generalize bV p.next=p2 at *
 have W:=fQ p2 [40] (hx st h) m;have S:=(dh m [40]).ok m;generalize want p2 [40]=p3 at *
 cases u:py f [] p3 with
 |none=>rw[u]at e;cases e
 |some r =>
 have⟨l,q1⟩:=r;rw[u]at e;simp only at e;refine aj func199 ntmps199 ?_;refine I [0] L ?_;refine I [0] C ?_;refine I [0] w ?_;refine zac ?_;refine I [0] W ?_;refine GW.wk (Wk.jO 9 1) ?_;refine GW.loop (fun z:Nat × List ai × RS=>z.1) (fun z fr Γ=>∃a c,fr=.loc 0 0::U::U::U::.loc 5 0::zU 148 []/\Γ=Y7 z.2.2 st h s z.2.1 a c/\z.2.2.ok/\z.2.1.length+z.1<=f/\py z.1 z.2.1 z.2.2=some (l,q1)) (f,[],p3) ?_ ?_
 ·exact⟨_,_,Wk.aW az,none,0,rfl,rfl,S,by simp,u⟩
 clear u S W m w C L F;rintro⟨g,b,p⟩_ _⟨a,c,rfl,rfl,v,R,u⟩;simp only at v R u
 cases g with
 |zero=>cases u
 |succ g =>
 rw[py]at u;have C:=kY p 0 [41] (hx st h) v aN
 by_cases E:p.code=0/\is p 0 [41]=false
 ·have⟨O,N⟩:=id E;rw[ae E]at u;rw[N]at C
  have Q:(p.code==0)=true:=by simpa using O
  by_cases h0:b.length=0
  ·obtain rfl:=jF h0
   have hd:decide ((0:Int)<(([]:List ai).length:Int))=false:=by decide
   rw[ae zfy]at u;have w:=rq p (hx st h) v;have m:=(jv v).ok v;generalize(tok p 0).s=H at *;refine Z ?_;refine I [0] C ?_;refine zbF ?_;refine aJ [0] w ?_;refine zar ?_;refine OA rfl rfl (GL.mx 6 (news:=[mi H]) rfl rfl rfl aO rfl rfl (by refine⟨?_,?_⟩;(· show _+1<=_;omega);(· show(_+1)*_<=_;omega)) ?_);intro a2 c2;refine zaX ?_;exact⟨(g,[H],bV p),⟨_,_,Wk.aW az,a2,c2,rfl,rfl,m,by simp at R |-;omega,u⟩,by simp⟩
  ·have hd:decide ((0:Int)<(b.length:Int))=true:=by simpa using by omega
   rw[D h0]at u;have hwc:=fQ p [44] (hx st h) v;have M:=(dh v [44]).ok v;generalize want p [44]=pw at *;have w:=rq pw (hx st h) M;have m:=(jv M).ok M;generalize(tok pw 0).s=H at *
   have hlen:(b.map mi).length<=f:=by simp;omega
   refine Z ?_;refine I [0] C ?_;refine zac ?_;refine I [0] hwc ?_;refine zbF ?_;refine aJ [0] w ?_;refine zar ?_;refine OA rfl rfl (GL.mx 6 (news:=[mi H]) rfl rfl rfl aO rfl rfl (by refine⟨?_,?_⟩;(· show _+1<=_;omega);(· show(_+1)*_<=_;omega)) ?_);intro a2 c2;refine cW ?_
   try rw[show(b.map mi).length+1=(b++[H]).length by simp]
   rw[show(b.map mi).length+[mi H].length=(b++[H]).length by simp,<-wW mi b H];refine bp ?_;exact⟨(g,b++[H],bV pw),⟨_,_,Wk.aW az,a2,c2,rfl,rfl,m,by simp;omega,u⟩,by simp⟩
 ·rw[D E]at u
  obtain⟨rfl,rfl⟩:b=l/\want p [41]=q1:=by simpa using u
  clear u;have G:=fQ p [41] (hx st h) v;have T:=(dh v [41]).ok v
  have W4:(lD st.aM).length+1<=1099511627776:=by rw[nW];omega
  have AV:(st.ak.map qI).length+1<=1099511627776:=by simp;omega
  by_cases O:p.code=0
  ·have Q:(p.code==0)=true:=by simpa using O
   have N:is p 0 [41]=true:=by
    cases h3:is p 0 [41]with
    |true=>rfl
    |false=>exact absurd ⟨O,h3⟩ E
   rw[N]at C
   by_cases d:(want p [41]).code=0
   ·have B:((want p [41]).code==0)=true:=by simpa using d
    rw[ae d]at e
    cases k:iS f (.block 1) (want p [41])with
    |none=>rw[k]at e;cases e
    |some r =>
    have⟨t,qq⟩:=r;rw[k]at e
    obtain⟨rfl,rfl⟩:qq=q/\_=J:=by simpa using e
    have A:=(iss f).block 1 _ t qq (hx st h) T X k;clear k d;generalize want p [41]=pq at *;refine Z ?_;refine I [0] C ?_;refine jA ?_;refine Z ?_;refine zco ?_;refine OA rfl rfl (GL.mx 1 (news:=[[qT t]]) rfl rfl rfl aO rfl rfl (by refine⟨?_,?_⟩;(· show _+1<=_;omega);(· show(_+1)*_<=_;omega)) ?_);intro a3 c3;refine cW ?_
    try rw[show(lD st.aM).length+1=(st.aM++[t]).length by simp[nW]]
    refine zew ?_;apply GW.wk
    ·apply Wk.pL (i:=5) (o:=1) (j:=6)
     ·rfl
     ·rfl
     ·rfl
     ·rfl
    refine zeo ?_;refine OA rfl rfl (GL.mx 4 (news:=[qI (s,b)]) rfl rfl rfl aO rfl rfl (by refine⟨?_,?_⟩;(· show _+1<=_;omega);(· show(_+1)*_<=_;omega)) ?_);intro a4 c4;refine cW ?_
    try rw[show(st.ak.map qI).length+1=(st.ak++[(s,b)]).length by simp]
    exact zbt
   ·have B:((want p [41]).code==0)=false:=by simpa using d
    rw[D d]at e;cases e;clear d;generalize want p [41]=pq at *;refine Z ?_;refine I [0] C ?_;refine jA ?_;refine Z ?_;refine zac ?_;refine I [0] G ?_;exact zdf
  ·have Q:(p.code==0)=false:=by simpa using O
   by_cases d:(want p [41]).code=0
   ·have B:((want p [41]).code==0)=true:=by simpa using d
    rw[ae d]at e
    cases k:iS f (.block 1) (want p [41])with
    |none=>rw[k]at e;cases e
    |some r =>
    have⟨t,qq⟩:=r;rw[k]at e
    obtain⟨rfl,rfl⟩:qq=q/\_=J:=by simpa using e
    have A:=(iss f).block 1 _ t qq (hx st h) T X k;clear k d;generalize want p [41]=pq at *;refine zbk ?_;refine zco ?_;refine OA rfl rfl (GL.mx 1 (news:=[[qT t]]) rfl rfl rfl aO rfl rfl (by refine⟨?_,?_⟩;(· show _+1<=_;omega);(· show(_+1)*_<=_;omega)) ?_);intro a3 c3;refine cW ?_
    try rw[show(lD st.aM).length+1=(st.aM++[t]).length by simp[nW]]
    refine zew ?_;apply GW.wk
    ·apply Wk.pL (i:=5) (o:=1) (j:=6)
     ·rfl
     ·rfl
     ·rfl
     ·rfl
    refine zeo ?_;refine OA rfl rfl (GL.mx 4 (news:=[qI (s,b)]) rfl rfl rfl aO rfl rfl (by refine⟨?_,?_⟩;(· show _+1<=_;omega);(· show(_+1)*_<=_;omega)) ?_);intro a4 c4;refine cW ?_
    try rw[show(st.ak.map qI).length+1=(st.ak++[(s,b)]).length by simp]
    exact zbt
   ·have B:((want p [41]).code==0)=false:=by simpa using d
    rw[D d]at e;cases e;clear d;generalize want p [41]=pq at *;refine zbk ?_;refine zac ?_;refine I [0] G ?_;exact zdf
open Go.Xp (Tok)
theorem VM{f:Nat}(p:RS)(st:PS)(h:HW)(q:RS)(N:PS)(n:Nat)(A:p.ok)(hn:st.le n)(w:n+f+4<=1099511627776)(R:iW f p st=some (q,N)) :
  GC prog 199 [.loc 0 0] (vb p st h) (fun g bE=>g=.tup []/\∃L,bE=vb q N L):=by
 cases M:is p 0 iU with
 |true=>exact PT p st h q N n A hn X M R
 |false =>
  cases v:is p 0 jq with
  |true=>exact Mc p st h q N n A hn w M v R
  |false=>exact Mb p st h q N A M v R
def oc(ak:List (ai × List ai))(aM:List T)(k:Nat):List am:=ak.mapIdx fun i x=>[.v (sv x.1),strs x.2,.v (ii (if i<k then((aR (aM.take i):Nat):Int)else 0))]
theorem Gx:∀(rows:List am)(i j o:Nat)(g:GV),(dw rows i o g)[j]?=if j=i then(rows[j]?).map (fun r=>bU r o g)else rows[j]?
 |[],i,j,o,g=>by simp[dw]
 |r::rs,0,0,o,g=>by simp[dw]
 |r::rs,0,j+1,o,g=>by simp[dw]
 |r::rs,i+1,0,o,g=>by simp[dw]
 |r::rs,i+1,j+1,o,g=>by
  rw[dw,List.getElem?_cons_succ,Gx rs i j o g];simp
theorem Vm(ak:List (ai × List ai))(aM:List T):ak.map qI=oc ak aM 0:=by
 apply List.ext_getElem?;intro i;rw[oc,getElem?_mapIdx,bO]
 cases ak[i]?<;>simp[qI]
theorem Pe(ak:List (ai × List ai))(aM:List T)(k:Nat):dw (oc ak aM k) k 2 (.v (ii ((aR (aM.take k):Nat):Int)))=oc ak aM (k+1):=by
 apply List.ext_getElem?;intro i;rw[Gx,oc,oc,getElem?_mapIdx,getElem?_mapIdx]
 by_cases h:i=k
 ·subst h;rw[ae rfl]
  cases ak[i]? with
  |none=>rfl
  |some x=>simp[bU]
 ·rw[D h]
  cases ak[i]? with
  |none=>rfl
  |some x =>
   have:(i<k)=(i<k+1):=by simp;omega
   simp[this]
theorem RJ{ak:List (ai × List ai)}{aM:List T}{k:Nat}(j:Nat)(h:k<ak.length):∃x,(oc ak aM j)[k]?=some [.v (sv x.1),strs x.2,.v (ii (if k<j then((aR (aM.take k):Nat):Int)else 0))]/\ak[k]?=some x:=by
 refine⟨ak[k],?_,by simp[h]⟩;rw[oc,getElem?_mapIdx];simp[h]
def J1(q:RS)(st:PS):GV :=
 if q.code=0 then
  if aR st.aM>800 then .tup [.agg [.sl 1 [],.sl 2 [],.sl 3 [],.sl 5 []],.v (ii 10),.v (ii 0)]
  else .tup [.agg [.sl 1 (st.ax.map mi),.sl 2 (st.aq.map rB),.sl 3 (oc st.ak st.aM st.aM.length),.sl 5 ((ey 0 st.aM).map sC)],.v (ii 0),.v (ii 0)]
 else .tup [.agg [.sl 1 [],.sl 2 [],.sl 3 [],.sl 5 []],.v (ii q.code),.v (ii q.at_)]
theorem Ib{G f:Nat}(ts:List Tok)(e:Int)(q:RS)(st:PS)(hl:ts.length<=1099511627776)(hb:G+f+4<=1099511627776)(hz:q.code=0->aR st.aM<=1099511627776)(h:n9 G f ⟨ts,0,e,0,0⟩ .empty=some (q,st)) :
  GF prog 129 [hE ts,.v (ii e)] [] (J1 q st) []:=by
 unfold J1;refine aj func129 ntmps129 ?_;refine GW.wk (Wk.jO 132 1) ?_;refine GW.wk (Wk.jO 9 1) ?_;refine GW.wk (Wk.jO 79 2) ?_;refine GW.wk (Wk.jO 53 3) ?_;refine GW.loop (fun z:Nat × RS × PS=>z.1) (fun z N Γ=>∃h n,N=hE ts::.v (ii e)::U::U::.loc 0 0::.v (ii 0)::.v (ii 0)::.loc 1 0::zU 71 []/\Γ=.box 28 [.v (.slice none 0 0),.v (.slice none 0 0),.v (.slice none 0 0),.v (.slice none 0 0)]::vb z.2.1 z.2.2 h/\z.2.1.l=ts/\z.2.1.ok/\z.2.2.le n/\n+z.1<=G/\n9 z.1 f z.2.1 z.2.2=some (q,st)) (G,⟨ts,0,e,0,0⟩,.empty) ?_ ?_
 ·exact⟨_,_,Wk.aW az,⟨none,0,none,0,none,0,none,0⟩,0,rfl,rfl,rfl,⟨bg _,hl⟩,⟨aQ _,aQ _,aQ _,rfl⟩,by simp,h⟩
 clear h;rintro⟨g,p,s⟩_ _⟨b,n,rfl,rfl,d,L,C,hng,h⟩;simp only at d L C hng h
 cases g with
 |zero=>cases h
 |succ g =>
 rw[n9]at h
 by_cases c:p.code=0/\p.i<p.l.length
 ·rw[ae c]at h
  have u:(p.code==0)=true:=by simpa using c.1
  have w:decide ((p.i:Int)<((ts.map dd).length:Int))=true:=by
   have:=c.2;rw[d]at this;exact zdQ
  cases F:iW f p s with
  |none=>rw[F]at h;cases h
  |some r =>
   have⟨p2,s2⟩:=r;rw[F]at h;simp only at h;have E:=Zo L F;refine Z ?_;refine bx [1,2,3,4,5] (VM p s b p2 s2 n L C X F) ?_;rintro _ _⟨rfl,T,rfl⟩;refine zao ?_;exact⟨(g,p2,s2),⟨_,_,Wk.aW az,T,n+1,rfl,rfl,by rw[E.1,d],E.ok L,Zm F C,by show n+1+g<=G;omega,h⟩,by simp⟩
 ·rw[D c]at h
  obtain⟨rfl,rfl⟩:p=q/\s=st:=by simpa using h
  clear h
  have V:∀M J:Bool,(p.code==0)=M->decide ((p.i:Int)<((ts.map dd).length:Int))=J->M=true->J=false:=fun M J h1 h2 h3=>by
   subst h3
   cases J with
   |false=>rfl
   |true=>exact absurd ⟨by simpa using h1,by rw[d];simpa using h2⟩ c
  by_cases m:p.code=0
  ·rw[ae m];have hz:=hz m
   have u:(p.code==0)=true:=by simpa using m
   have S:(p.code != 0)=false:=by simpa using m
   have w:=V _ _ u rfl rfl;have FL:=C.aM;have Jq:=C.ak;have hpt:=nW s.aM;have xQ:=Go.Xp.gm s.aM;refine zbk ?_;refine GW.wk (by apply Wk.uR (t:=52) (i:=2)<;>rfl) ?_;simp only[oset,bU];refine Z ?_;refine GW.wk (Wk.jO 82 5) ?_;rw[Vm s.ak s.aM]
   refine GW.range s.aM.length (fun k N Γ=>∃A B,N=U::U::U::U::.loc 0 0::.v (ii 0)::.v (ii 0)::U::.loc 6 0::zU 43 (.sl 1 (lD s.aM)::.v (ii (s.aM.length:Int))::.v (ii (k:Nat))::zU 24 [])/\Γ=[.box 28 [.v (.slice none 0 0),.v (.slice none 0 0),.v (.slice none 0 0),.v (.slice none 0 0)],cD p (hx s b),.vec 132 1 (lD s.aM).length (lD s.aM),.vech 9 1 (s.ax.map mi) (.slice b.aG s.ax.length b.cG),.vech 79 2 (s.aq.map rB) (.slice b.aA s.aq.length b.cA),.vech 53 3 (oc s.ak s.aM k) (.slice b.aF s.ak.length b.cF),
    .box 28 [.v (.slice b.aG s.ax.length b.cG),.v (.slice b.aA s.aq.length b.cA),.v (.slice b.aF s.ak.length b.cF),.v (.slice A (aR (s.aM.take k)) B)],.vech 82 5 ((ey 0 (s.aM.take k)).map sC) (.slice A (aR (s.aM.take k)) B)]) ?_ X ?_ ?_ ?_
   ·exact⟨_,_,Wk.aW az,none,0,rfl,rfl⟩
   ·rintro k _ _⟨A,B,rfl,rfl⟩;exact dN
   ·rintro k _ _ w⟨A,B,rfl,rfl⟩;obtain⟨t,ht⟩:∃t,s.aM[k]?=some t:=⟨s.aM[k],by simp[w]⟩;have hr:=Bl ht;have pf:=Go.Xp.vd ht;have hle:=Go.Xp.rS s.aM (k+1)
    have NY:s.aM.take (k+1)=s.aM.take k++[t]:=by rw[dc,ht];rfl
    have⟨x,H,hx2⟩:=RJ (ak:=s.ak) (aM:=s.aM) (k:=k) k X;rw[D (Nat.lt_irrefl k)]at H;have DB:k<(oc s.ak s.aM k).length:=(bR H).1
    have Q:((ey 0 (s.aM.take k)).map sC).length=aR (s.aM.take k):=by rw[bC,Go.Xp.tg]
    have W:=Nv (bc t) t (aQ _) (aR (s.aM.take k)) _ A B Q X;rw[<-Pe s.ak s.aM k,NY,Go.Xp.yC,Go.Xp.o7];simp only[ey,aR,fV,Nat.add_zero,iX,kL];generalize(ey 0 (s.aM.take k)).map sC=ab7 at *;generalize aR (s.aM.take k)=z at *;generalize oc s.ak s.aM k=R at *;refine Z ?_;refine wq ?_;refine Z ?_;refine bx [7] W ?_;rintro _ _⟨a5,c5,rfl,rfl⟩;refine zao ?_;exact⟨rfl,rfl,_,_,Wk.aW az,a5,c5,rfl,rfl⟩
   ·rintro _ _⟨A,B,rfl,rfl⟩;rw[dx]
    have Q:((ey 0 s.aM).map sC).length=aR s.aM:=by rw[bC,Go.Xp.tg]
    by_cases h8:aR s.aM>800
    ·rw[ae h8]
     have O:decide ((800:Int)<(aR s.aM:Int))=true:=by simpa using by omega
     generalize aR s.aM=z at *;refine Z ?_;refine BA ?_;exact zaU
    ·rw[D h8]
     have O:decide ((800:Int)<(((ey 0 s.aM).map sC).length:Int))=false:=by rw[Q];simpa using by omega
     refine bl ?_;refine GW.wk (by apply Wk.pL (i:=6) (o:=0) (j:=3)<;>rfl) ?_;simp only[oset,bU];refine GW.wk (by apply Wk.pL (i:=6) (o:=1) (j:=4)<;>rfl) ?_;simp only[oset,bU];refine GW.wk (by apply Wk.pL (i:=6) (o:=2) (j:=5)<;>rfl) ?_;simp only[oset,bU];refine GW.wk (by apply Wk.pL (i:=6) (o:=3) (j:=7)<;>rfl) ?_;simp only[oset,bU];refine Z ?_;refine nj ?_;exact zak
  ·rw[D m]
   have u:(p.code==0)=false:=by simpa using m
   have S:(p.code != 0)=true:=by simpa using m
   refine zbk ?_;refine aS (aK 0 9 (.a 9 (.q 10 (.q 11 .nil)))) ?_;refine bp ?_;refine BA ?_;exact zaU
end Go.Xg
namespace Go.Xg
open Go.RowKit Go.Xw Go.Proofs Tryz
open GV (U)
open Go.Sp (small eF fv)
open Go.Im (oH)
attribute [local irreducible] GW GL GO YG GC GA bh bn
theorem yy(c:UInt8):GF prog 238 [C7 c] [] (.v (.bool (eF c))) []:=by
 unfold eF;refine dT func238 ntmps238 ?_
 cases h:decide ((48:Int)<=(c.toNat:Int))
 all_goals
  exact aB
theorem Af(c:UInt8):GF prog 179 [C7 c] [] (.v (.bool (small c))) []:=by
 unfold small;refine dT func179 ntmps179 ?_
 cases h:decide ((97:Int)<=(c.toNat:Int))
 all_goals
  exact aB
theorem LH(c:UInt8):GF prog 181 [C7 c] [] (.v (.bool (fv c))) []:=by
 unfold fv;have q:=Af c;have F:=yy c;generalize small c=H at *;generalize eF c=s at *;refine aj func181 ntmps181 ?_;refine jS [] q ?_
 cases H with
 |true =>
  exact aB
 |false =>
  cases M:decide ((65:Int)<=(c.toNat:Int))with
  |true =>
   cases w:decide ((c.toNat:Int)<=90)with
   |true =>
    exact aB
   |false =>
    refine Z ?_;refine jS [] F ?_
    cases s with
    |true =>
     exact aB
    |false =>
     exact aB
  |false =>
   refine Z ?_;refine jS [] F ?_
   cases s with
   |true =>
    exact aB
   |false =>
    exact aB
theorem Tu(t:FuncId)[hf:eI prog t](p:UInt8->Bool)(o:∀c,GF prog t [C7 c] [] (.v (.bool (p c))) [])(s:ai)(a:Nat)(q:s.length<=1099511627776)(ha:a<=s.length) :
  GF prog 180 [.v (sv s),.v (ii (a:Nat)),.v (.func (.func t) #[] #[])] [] (.v (ii (Go.Sp.run s p (s.length+1) a:Nat))) []:=by
 generalize m:Go.Sp.run s p (s.length+1) a=R;refine aj func180 ntmps180 ?_;refine GW.loop (fun x:Nat × Nat=>x.1) (fun x w W=>w=.v (sv s)::.v (ii (x.2:Nat))::.v (.func (.func t) #[] #[])::zU 18 []/\W=[]/\x.2<=s.length/\s.length<x.1+x.2/\Go.Sp.run s p x.1 x.2=R) (s.length+1,a) ?_ ?_
 ·exact⟨_,_,Wk.aW az,rfl,rfl,ha,by simp only;omega,m⟩
 ·rintro⟨f,a⟩_ _⟨rfl,rfl,ha,E,h⟩;simp only at ha E h
  cases f with
  |zero=>omega
  |succ f =>
  rw[Go.Sp.run]at h
  cases k:s[a]? with
  |none =>
   rw[k]at h;simp only at h;subst h;have T:s.length<=a:=nE k
   have F:decide ((a:Int)<(s.length:Int))=false:=by simpa using T
   exact zcU
  |some c =>
   rw[k]at h;simp only at h;have N:a<s.length:=(bR k).1
   have F:decide ((a:Int)<(s.length:Int))=true:=by simpa using N
   have M:=o c
   cases r:p c with
   |false =>
    rw[r]at M;rw[D (by rw[r];simp)]at h;subst h;refine Z ?_;refine jT [] M ?_;exact zcU
   |true =>
    rw[r]at M;rw[ae r]at h;refine Z ?_;refine jT [] M ?_;refine Z ?_;exact⟨(f,a+1),⟨_,_,Wk.aW az,rfl,rfl,N,by simp only;omega,h⟩,by simp⟩
theorem Po:Go.Lib.asciiSpaceTab=wc:=by decide
theorem Nq:Go.Lib.fields [105,110,116,32,118,97,114,32,102,117,110,99,32,105,102,32,101,108,115,101,32,119,104,105,108,101,32,114,101,116,117,114,110,32,124,124,32,38,38,32,61,61,32,33,61,32,60,61,32,62,61,32,60,60,32,62,62,32,40,32,41,32,123,32,125,32,91,32,93,32,44,32,59,32,61,32,60,32,62,32,43,32,45,32,42,32,47,32,37,32,38,32,124,32,94,32,33,32,126]=oH:=by decide +kernel
open Go.Im (mh)
theorem nH.Ak{P:Program}{f:FuncId}{vs:List Value}{w:World}{R:Value->World->Prop}(h:Calls P f vs.toArray w fun e w'=>∃v,e=.returned v/\R v w'):nH P f vs w R:=h
theorem P6:GF prog 305 [.v (sv [105,110,116,32,118,97,114,32,102,117,110,99,32,105,102,32,101,108,115,101,32,119,104,105,108,101,32,114,101,116,117,114,110,32,124,124,32,38,38,32,61,61,32,33,61,32,60,61,32,62,61,32,60,60,32,62,62,32,40,32,41,32,123,32,125,32,91,32,93,32,44,32,59,32,61,32,60,32,62,32,43,32,45,32,42,32,47,32,37,32,38,32,124,32,94,32,33,32,126])] [] (strs oH) []:=by
 have:=GF.abf (P:=prog) (f:=305) (vs:=[sv [105,110,116,32,118,97,114,32,102,117,110,99,32,105,102,32,101,108,115,101,32,119,104,105,108,101,32,114,101,116,117,114,110,32,124,124,32,38,38,32,61,61,32,33,61,32,60,61,32,62,61,32,60,60,32,62,62,32,40,32,41,32,123,32,125,32,91,32,93,32,44,32,59,32,61,32,60,32,62,32,43,32,45,32,42,32,47,32,37,32,38,32,124,32,94,32,33,32,126]]) (us:=oH.map sv) (E:=9) fun K l w r s=>?_
 ·rw[List.map_map]at this;exact this
 ·obtain⟨E,z,H⟩:=tA.all r s r.spc (zs:=wc.map fun z=>Value.int .u8 z) aN (fun m o x hx=>by
   rw[bO]at hx;unfold zE;rw[D aN,D aN,ae rfl]
   cases q:wc[o]? with
   |none=>rw[q]at hx;cases hx
   |some y=>rw[q]at hx;cases hx;rfl)
  have F:Go.Lib.TabIs prog w "strings.asciiSpace" .u8 Go.Lib.asciiSpaceTab:=by
   unfold Go.Lib.TabIs World.var?;rw[show prog.globalNamed "strings.asciiSpace" = some 1 by kernel_rfl,Po];simp only[Option.bind_some,H]
  have h:=strings_Fields_laid ⟨[105,110,116,32,118,97,114,32,102,117,110,99,32,105,102,32,101,108,115,101,32,119,104,105,108,101,32,114,101,116,117,114,110,32,124,124,32,38,38,32,61,61,32,33,61,32,60,61,32,62,61,32,60,60,32,62,62,32,40,32,41,32,123,32,125,32,91,32,93,32,44,32,59,32,61,32,60,32,62,32,43,32,45,32,42,32,47,32,37,32,38,32,124,32,94,32,33,32,126].toArray⟩ w aN (fun j b B=>by
   have:∀b∈([105,110,116,32,118,97,114,32,102,117,110,99,32,105,102,32,101,108,115,101,32,119,104,105,108,101,32,114,101,116,117,114,110,32,124,124,32,38,38,32,61,61,32,33,61,32,60,61,32,62,61,32,60,60,32,62,62,32,40,32,41,32,123,32,125,32,91,32,93,32,44,32,59,32,61,32,60,32,62,32,43,32,45,32,42,32,47,32,37,32,38,32,124,32,94,32,33,32,126]:List UInt8),b.toNat<128:=by decide
   exact this b (bB B)) F
  refine nH.Ak (Calls.mono h ?_);rintro e t⟨M,A⟩;rw[show((⟨[105,110,116,32,118,97,114,32,102,117,110,99,32,105,102,32,101,108,115,101,32,119,104,105,108,101,32,114,101,116,117,114,110,32,124,124,32,38,38,32,61,61,32,33,61,32,60,61,32,62,61,32,60,60,32,62,62,32,40,32,41,32,123,32,125,32,91,32,93,32,44,32,59,32,61,32,60,32,62,32,43,32,45,32,42,32,47,32,37,32,38,32,124,32,94,32,33,32,126].toArray⟩:ByteArray).data.toList)=[105,110,116,32,118,97,114,32,102,117,110,99,32,105,102,32,101,108,115,101,32,119,104,105,108,101,32,114,101,116,117,114,110,32,124,124,32,38,38,32,61,61,32,33,61,32,60,61,32,62,61,32,60,60,32,62,62,32,40,32,41,32,123,32,125,32,91,32,93,32,44,32,59,32,61,32,60,32,62,32,43,32,45,32,42,32,47,32,37,32,38,32,124,32,94,32,33,32,126]from rfl,Nq]at M A;exact⟨_,M,by rw[bC],A⟩
theorem Vr:GF prog 239 [] [] (strs oH) []:=by
 have h:=P6;generalize oH=l at *;refine aj func239 ntmps239 ?_;exact zbg
theorem z8(s:ai):GF prog 182 [.v (sv s)] [] (.v (.bool (mh s))) []:=by
 have h:=Vr;have k:=lM oH s aN;unfold mh;generalize oH=l at *;refine aj func182 ntmps182 ?_;refine I [] h ?_;refine I [] k ?_;exact aw
open Go.Sp (jx gQ)
open Go.Im (dI km ju oj mK uh mW)
theorem RR(s:ai)(a:Nat)(c:UInt8)(r:s.length<=1099511627776)(m:s[a]?=some c):GF prog 252 [.v (sv s),.v (ii (a:Nat))] [] (.v (sv (ju s a))) []:=by
 have N:a<s.length:=(bR m).1;have u:=Af c;refine aj func252 ntmps252 ?_;refine GW.loop (fun x:Nat=>x) (fun x z W=>z=.v (sv s)::.v (ii (a:Nat))::U::U::U::.v (ii (x:Nat))::zU 32 []/\W=[]/\x<=2/\∀j,x<j->j<=2->km s a j=false) 2 ?_ ?_
 ·exact⟨_,_,Wk.aW az,rfl,rfl,aQ _,fun j M w=>by omega⟩
 ·rintro x _ _⟨rfl,rfl,hx,R⟩
  have A:∀k,x=k+1->km s a x=false->∀j,k<j->j<=2->km s a j=false:=fun k q o j M w=>by
   by_cases H:j=x
   ·rw[H];exact o
   ·exact R j X w
  have l:∀k,km s a k=(decide (a+k<=s.length)&&!(small c)&&mh (dI s a (a+k))):=fun k=>by unfold km;rw[m]
  match x,hx,R,A with
  |0,_,R,_ =>
   have e:ju s a=[]:=by unfold ju;rw[R 2 X X,R 1 X X];rfl
   rw[e];exact zcU
  |1,_,R,A =>
   have V:decide (((a+1:Nat):Int)<=(s.length:Int))=true:=by simpa using by omega
   have C:a<=a+1/\a+1<=s.length:=by omega
   have o:=l 1;rw[show decide (a+1<=s.length)=true from decide_eq_true X]at o
   cases t:small c with
   |true =>
    rw[t]at u o;refine zds ?_;exact zd7
   |false =>
    rw[t]at u o;have G:=z8 (dI s a (a+1))
    cases B:mh (dI s a (a+1))with
    |false =>
     rw[B]at G o;refine zds ?_;refine I [] G ?_;exact zd7
    |true =>
     rw[B]at G o
     have e:ju s a=dI s a (a+1):=by unfold ju;rw[R 2 X X,o];rfl
     rw[e];refine zds ?_;exact zeU
  |2,_,R,A =>
   have o:=l 2
   by_cases d:a+2<=s.length
   ·have V:decide (((a+2:Nat):Int)<=(s.length:Int))=true:=by simpa using by omega
    have C:a<=a+2/\a+2<=s.length:=by omega
    rw[show decide (a+2<=s.length)=true by simpa using d]at o
    cases t:small c with
    |true =>
     rw[t]at u o;refine zds ?_;exact zb5
    |false =>
     rw[t]at u o;have G:=z8 (dI s a (a+2))
     cases B:mh (dI s a (a+2))with
     |false =>
      rw[B]at G o;refine zds ?_;refine I [] G ?_;exact zb5
     |true =>
      rw[B]at G o
      have e:ju s a=dI s a (a+2):=by unfold ju;rw[o];rfl
      rw[e];refine zds ?_;exact zeU
   ·have V:decide (((a+2:Nat):Int)<=(s.length:Int))=false:=by simpa using by omega
    rw[show decide (a+2<=s.length)=false by simpa using d]at o;refine Z ?_;exact zb5
  |n+3,hx,_,_=>omega
def LL(n:Int)(e:Nat)(a:Nat):GV:=if n>2147483647 then .tup [.agg (dd uh),.v (ii (a:Nat)),.v (ii 3)]else .tup [.agg (dd ⟨1,n,[],a⟩),.v (ii (e:Nat)),.v (ii 0)]
theorem Py(s:ai)(a:Nat)(c:UInt8)(L:s.length<=1099511627776)(F:s[a]?=some c)(hd:eF c=true) :
  GF prog 198 [.v (sv s),.v (ii (a:Nat))] [] (LL (mK (dI s a (oj s a)) 0) (oj s a) a) []:=by
 have V:a<s.length:=(bR F).1;have O:=yy c;rw[hd]at O;have Q:=Tu 238 eF yy s a L X;have⟨B,J,A⟩:=Go.Sp.oX s eF (s.length+1) a X X;have k:=Go.Im.CB s eF (s.length+1) a X;unfold oj;generalize Go.Sp.run s eF (s.length+1) a=e at *;clear B;generalize m:mK (dI s a e) 0=R;refine aj func198 ntmps198 ?_;refine I [] O ?_;refine I [] Q ?_;refine GW.loop (fun x:Nat × Int=>e-x.1) (fun x E W=>E=.v (sv s)::.v (ii (a:Nat))::U::U::.loc 0 0::.v (ii 0)::.v (ii 0)::U::.v (ii (e:Nat))::.v (ii x.2)::.v (ii (x.1:Nat))::zU 70 []/\W=[.box 205 (dd uh)]/\a<=x.1/\x.1<=e/\mK (dI s x.1 e) x.2=R/\0<=x.2/\x.2<=21474836480) (a,0) ?_ ?_
 ·exact⟨_,_,Wk.aW az,rfl,rfl,aQ _,J,m,by simp,by simp⟩
 ·rintro⟨i,n⟩_ _⟨rfl,rfl,H,o,h,z,S⟩;simp only at H o h z S
  have G:R=n->True:=fun _=>trivial
  by_cases N:i<e
  ·have u:decide ((i:Int)<(e:Int))=true:=by simpa using N
   by_cases T:n<=2147483647
   ·have t:decide (n<=2147483647)=true:=by simpa using T
    have q:i<s.length:=by omega
    obtain⟨d,j⟩:∃d,s[i]?=some d:=⟨s[i],by simp[q]⟩
    have M:eF d=true:=by
     have:d∈dI s a e:=by
      unfold dI;rw[List.mem_iff_getElem?];exact⟨i-a,by rw[List.getElem?_drop,List.getElem?_take,show a+(i-a)=i by omega,ae N];exact j⟩
     exact k d this
    have w:(48:Int)<=(d.toNat:Int)/\(d.toNat:Int)<=57:=by
     simp only[eF,aU,decide_eq_true_eq]at M;exact M
    rw[Go.Im.qc j N A,mK,ae T]at h;refine Z ?_;exact⟨(i+1,10*n+((d.toNat:Int)-48)),⟨_,_,Wk.aW az,rfl,rfl,by simp only;omega,N,h,by simp only;omega,by simp only;omega⟩,by simp only;omega⟩
   ·have t:decide (n<=2147483647)=false:=by simpa using T
    have C:R=n:=by
     rw[<-h]
     cases b:dI s i e with
     |nil=>rw[mK]
     |cons d r=>rw[mK,D T]
    rw[C];clear h C m G
    have l:decide (2147483647<n)=true:=by simpa using by omega
    unfold LL;rw[ae X];exact zex
  ·have u:decide ((i:Int)<(e:Int))=false:=by simpa using by omega
   have C:R=n:=by
    rw[<-h];have:dI s i e=[]:=jF (by rw[Go.Im.tF A];omega);rw[this,mK]
   rw[C];clear h C m G;unfold LL
   by_cases T:n>2147483647
   ·have l:decide (2147483647<n)=true:=by simpa using T
    rw[ae T];exact zex
   ·have l:decide (2147483647<n)=false:=by simpa using T
    rw[D T];exact zex
theorem VK(s:ai)(a:Nat)(c:UInt8)(q:s.length<=1099511627776)(k:s[a]?=some c) :
  GF prog 198 [.v (sv s),.v (ii (a:Nat))] [] (.tup [.agg (dd (mW s a c).1),.v (ii ((mW s a c).2.1:Nat)),.v (ii (mW s a c).2.2)]) []:=by
 have S:a<s.length:=(bR k).1;have M:=yy c;have u:=Af c
 by_cases F:eF c=true
 ·have h:=Py s a c q k F;unfold LL at h;unfold mW;rw[ae F];split at h
  ·rename_i T;rw[ae T];exact h
  ·rename_i T;rw[D T];exact h
 ·have O:eF c=false:=by simpa using F
  unfold mW;rw[D F];rw[O]at M
  by_cases t:small c=true
  ·rw[ae t];rw[t]at u;have N:=Tu 181 fv LH s a q X;have⟨i,J,l⟩:=Go.Sp.oX s fv (s.length+1) a X X;have R:jx s a=(s.take (gQ s a)).drop a:=rfl;have G:=z8 (jx s a);unfold gQ at R |-;rw[R]at G |-;generalize Go.Sp.run s fv (s.length+1) a=e at *;have w:a<=e/\e<=s.length:=⟨J,l⟩
   cases B:mh ((s.take e).drop a)with
   |true =>
    exact zb1
   |false =>
    exact zb1
  ·have n:small c=false:=by simpa using t
   rw[D t];rw[n]at u;have o:=RR s a c q k
   have E:(ju s a).length<=2:=by
    have:(ju s a=dI s a (a+2)\/ju s a=dI s a (a+1))\/ju s a=[]:=by
     unfold ju;split
     ·exact .inl (.inl rfl)
     ·split
      ·exact .inl (.inr rfl)
      ·exact .inr rfl
    rcases this with(h|h)|h<;>rw[h]
    ·unfold dI;rw[mr,kr];omega
    ·unfold dI;rw[mr,kr];omega
    ·simp
   generalize ju s a=x at *
   by_cases hx:x=[]
   ·have Q:(x==[])=true:=by simpa using hx
    rw[ae hx];exact zcD
   ·have Q:(x==[])=false:=by simpa using hx
    rw[D hx];exact zcD
open Go.Xp (Tok)
open Go.Sp (cr fk)
open Go.Im (pV tO)
def Ch(x t:ai):Bool:=decide (t.length<=x.length)&&(x.take t.length==t)
theorem KK(x t:ai)(hx:x.length<=1099511627776)(o:t.length<=1099511627776):GF prog 250 [.v (sv x),.v (sv t)] [] (.v (.bool (Ch x t))) []:=by
 unfold Ch
 by_cases h:t.length<=x.length
 ·have M:decide ((t.length:Int)<=(x.length:Int))=true:=by simpa using h
  rw[decide_eq_true h];refine aj func250 ntmps250 ?_;exact aw
 ·have M:decide ((t.length:Int)<=(x.length:Int))=false:=by simpa using by omega
  rw[decide_eq_false h];refine aj func250 ntmps250 ?_;exact aw
theorem HD(x t:ai)(hx:x.length<=1099511627776)(o:t.length<=1099511627776):GF prog 196 [.v (sv x),.v (sv t)] [] (.v (.bool (Ch x t))) []:=by
 have h:=KK x t hx o;generalize Ch x t=b at *;refine aj func196 ntmps196 ?_;exact zbg
theorem HN{s t:ai}{a:Nat}(ha:a<=s.length):Ch (s.drop a) t=cr s a t:=by
 unfold Ch cr;rw[mr,List.drop_take,show a+t.length-a=t.length by omega]
 congr 1
 rw[Bool.eq_iff_iff];simp;omega
theorem HE(c:UInt8):GF prog 195 [.v (sv [32,9,10,13]),C7 c] [] (.v (ii (Go.Lib.indexByte [32,9,10,13] c))) []:=by
 refine GF.XG (vs:=[sv [32,9,10,13],.int .u8 (c.toNat:Int)]) fun K l w o s=>?_
 refine nH.Ak (Calls.mono (strings_IndexByte ⟨[32,9,10,13].toArray⟩ (c.toNat:Int) w) ?_);rintro e t⟨M,z⟩;refine⟨_,M,?_,by rw[z];exact Ext.refl w⟩;simp
theorem P9(x:ai)(hx:x.length<=4294967280):GF prog 197 [.v (sv x),.v (sv [42,47])] [] (.v (ii (Go.Lib.index x [42,47]))) []:=by
 refine GF.XG (vs:=[sv x,sv [42,47]]) fun K l w o s=>?_
 have⟨m,G⟩:=o.maxLen s;refine nH.Ak (Calls.mono (strings_Index ⟨x.toArray⟩ ⟨[42,47].toArray⟩ m w (by show(x.toArray).size<_;simp;omega) G) ?_);rintro e t⟨M,z⟩;refine⟨_,M,?_,by rw[z];exact Ext.refl w⟩;simp
theorem Qm(c:UInt8):decide ((0:Int)<=Go.Lib.indexByte [32,9,10,13] c)=fk c:=by
 have v:fk c=((32:UInt8)==c ||(9:UInt8)==c ||(10:UInt8)==c ||(13:UInt8)==c):=by
  have e:∀k:UInt8,((c.toNat:Int)==(k.toNat:Int))=(k==c):=fun k=>by
   rw[Bool.eq_iff_iff];simp only[beq_iff_eq]
   exact⟨fun h=>by
    have:c.toNat=k.toNat:=by omega
    exact(UInt8.toNat_inj.1 this).symm,fun h=>by rw[h]⟩
  have i:=e 32;have J:=e 9;have l:=e 10;have s:=e 13;unfold fk;rw[<-i,<-J,<-l,<-s];rfl
 rw[v];unfold Go.Lib.indexByte Go.Lib.indexByte Go.Lib.indexByte Go.Lib.indexByte Go.Lib.indexByte
 cases(32:UInt8)==c<;>cases(9:UInt8)==c<;>cases(10:UInt8)==c<;>cases(13:UInt8)==c<;>decide
theorem Of(l:ai):Go.Lib.index l [42,47]=(match tO l with|none => -1|some n=>(n:Int)):=by
 induction l with
 |nil=>rfl
 |cons b l O =>
  rw[Go.Lib.index,tO];split
  ·rfl
  ·rw[O]
   cases tO l with
   |none=>rfl
   |some n =>
    simp only;rw[D (by simp<;>omega)];simp
theorem Rm(s:ai)(f:Nat)(ts:List Tok)(c z:Int)(hs:s.length<=4294967280)(h:pV s f 0 []=some (ts,c,z)) :
  GF prog 128 [.v (sv s)] [] (.tup [hE ts,.v (ii c),.v (ii z)]) []:=by
 refine aj func128 ntmps128 ?_;refine GW.wk (Wk.Cs (t:=5) (a:=none) (c:=0) 205 4 rfl) ?_;refine GW.loop (fun x:Nat × Nat × List Tok=>x.1) (fun x Q Γ=>∃n d,Q=.v (sv s)::U::.v (.slice none 0 0)::.v (ii 0)::.v (ii 0)::.vec 0 n::.v (ii (x.2.1:Nat))::zU 48 []/\Γ=[.vec 205 4 0 d]/\d.length=n/\d=x.2.2.map dd/\x.2.1<=s.length/\n<=x.2.1/\pV s x.1 x.2.1 x.2.2=some (ts,c,z)) (f,0,[]) ?_ ?_
 ·exact⟨_,_,Wk.aW az,0,[],rfl,rfl,rfl,rfl,bg _,aQ _,h⟩
 ·clear h;rintro⟨f,a,o⟩_ _⟨n,d,rfl,rfl,F,i,O,N,h⟩;simp only at i O N h
  cases f with
  |zero=>cases h
  |succ f =>
  rw[pV]at h
  cases w:s[a]? with
  |none =>
   rw[w]at h;cases h;have L:s.length<=a:=nE w
   have T:decide ((a:Int)<(s.length:Int))=false:=by simpa using L
   refine dZ ?_;refine GW.wk (Wk.ky (t:=5) rfl rfl rfl F) ?_;refine Z ?_;refine CO ?_;exact⟨by rw[i];rfl,rfl⟩
  |some q =>
   rw[w]at h;simp only at h;have B:a<s.length:=(bR w).1
   have T:decide ((a:Int)<(s.length:Int))=true:=by simpa using B
   have l:=HE q;have A:=Qm q
   cases E:fk q with
   |true =>
    rw[ae E]at h;rw[E]at A;generalize Go.Lib.indexByte [32,9,10,13] q=W at *;refine Z ?_;refine I [] l ?_;refine jA ?_;exact⟨(f,a+1,o),⟨_,_,Wk.aW az,n,d,rfl,rfl,F,i,B,by simp only;omega,h⟩,by simp⟩
   |false =>
    rw[D (by rw[E];decide)]at h;rw[E]at A;generalize Go.Lib.indexByte [32,9,10,13] q=W at *;have b:=HD (s.drop a) [47,42] (by rw[mr];omega) aN;rw[HN O]at b
    cases k:cr s a [47,42]with
    |true =>
     rw[ae k]at h;rw[k]at b;have H:=Go.Sp.lP k;simp only[length_cons,length_nil]at H;have m:=P9 (s.drop (a+2)) (by rw[mr];omega);rw[Of]at m
     have S:a+2<=s.length:=by omega
     cases M:tO (s.drop (a+2))with
     |none =>
      rw[M]at m h;cases h;refine zdY ?_;refine I [] m ?_;exact zdH
     |some e =>
      rw[M]at m h;have J:=Go.Im.Ci M;rw[mr]at J
      have V:decide (((e:Nat):Int)<0)=false:=by simp
      refine zdY ?_;refine I [] m ?_;refine jA ?_;exact⟨(f,a+(e+4),o),⟨_,_,Wk.aW az,n,d,rfl,rfl,F,i,by simp only;omega,by simp only;omega,h⟩,by simp⟩
    |false =>
     rw[D (by rw[k];decide)]at h;rw[k]at b;have u:=VK s a q X w
     have C:=fun r=>Go.Im.Kr w r
     generalize mW s a q=R at *;have⟨t,e,j⟩:=R;simp only at u h C
     by_cases r:j=0
     ·rw[D zfH]at h
      have G:(j != 0)=false:=by simpa using r
      have⟨_,_,k3,k4⟩:=C r;refine zdY ?_;refine I [] u ?_;refine zbz ?_;exact⟨(f,e,o++[t]),⟨_,_,(Wk.cut (n:=1) (ed rfl) rfl).trans (Wk.aW az),_,_,rfl,rfl,by simp[F],by rw[kL,i];rfl,k4,by simp only;omega,h⟩,by simp⟩
     ·rw[ae r]at h
      have G:(j != 0)=true:=by simpa using r
      cases h;refine zdY ?_;refine I [] u ?_;exact zdH
open Go.Xp (T bc)
open Go.Im (c7 eY)
theorem QW:∀(N:Nat)(t:T),bc t<=N->bc t<=1099511627776->GF prog 124 [uT t] [] (.v (.bool (eY t))) []:=by
 intro N
 induction N with
 |zero=>intro t h;rw[Go.Xp.fC]at h;omega
 |succ N ih =>
 intro t hN hb;rw[Go.Xp.fC]at hN hb;have xq:=Go.Xp.gm t.au;have F:=rI t.au;rw[Go.Im.xV,Go.Im.oy];unfold uT;generalize t.n.ab=c;refine dT func124 ntmps124 ?_;refine CQ ?_;refine GW.join (fun O Γ=>O=.box [.v (ii c),.v (ii t.n.at_),.v (ii t.n.n),.v (sv t.n.s),ints t.n.au,.sl 1 (df t.au)] 0::U::U::U::.v (.bool (c7 c t.au.length))::zU 59 []/\Γ=[]) ?_ ?_
 ·rw[<-F];generalize(df t.au)=l
  by_cases Q:c=1
  ·subst Q
   have eg:((1:Int)==1)=true:=by decide
   rw[show c7 1 l.length=((l.length:Int)==0) by unfold c7;simp];exact iV
  by_cases R:c=2
  ·subst R
   have eg:((2:Int)==1)=false:=by decide
   have mG:((2:Int)==2)=true:=by decide
   rw[show c7 2 l.length=((l.length:Int)==0) by unfold c7;simp];exact iV
  by_cases V:c=4
  ·subst V
   have eg:((4:Int)==1)=false:=by decide
   have mG:((4:Int)==2)=false:=by decide
   have o:((4:Int)==4)=true:=by decide
   rw[show c7 4 l.length=true by unfold c7;simp];exact iV
  by_cases E:c=14
  ·subst E
   have eg:((14:Int)==1)=false:=by decide
   have mG:((14:Int)==2)=false:=by decide
   have o:((14:Int)==4)=false:=by decide
   have i:((14:Int)==14)=true:=by decide
   rw[show c7 14 l.length=true by unfold c7;simp];exact iV
  by_cases S:c=3
  ·subst S
   have eg:((3:Int)==1)=false:=by decide
   have mG:((3:Int)==2)=false:=by decide
   have o:((3:Int)==4)=false:=by decide
   have i:((3:Int)==14)=false:=by decide
   have d:((3:Int)==3)=true:=by decide
   rw[show c7 3 l.length=((l.length:Int)==1) by unfold c7;simp];exact iV
  by_cases W:c=5
  ·subst W
   have eg:((5:Int)==1)=false:=by decide
   have mG:((5:Int)==2)=false:=by decide
   have o:((5:Int)==4)=false:=by decide
   have i:((5:Int)==14)=false:=by decide
   have d:((5:Int)==3)=false:=by decide
   have u:((5:Int)==5)=true:=by decide
   rw[show c7 5 l.length=((l.length:Int)==1) by unfold c7;simp];exact iV
  by_cases h7:c=7
  ·subst h7
   have eg:((7:Int)==1)=false:=by decide
   have mG:((7:Int)==2)=false:=by decide
   have o:((7:Int)==4)=false:=by decide
   have i:((7:Int)==14)=false:=by decide
   have d:((7:Int)==3)=false:=by decide
   have u:((7:Int)==5)=false:=by decide
   have w:((7:Int)==7)=true:=by decide
   rw[show c7 7 l.length=((l.length:Int)==1) by unfold c7;simp];exact iV
  by_cases A:c=11
  ·subst A
   have eg:((11:Int)==1)=false:=by decide
   have mG:((11:Int)==2)=false:=by decide
   have o:((11:Int)==4)=false:=by decide
   have i:((11:Int)==14)=false:=by decide
   have d:((11:Int)==3)=false:=by decide
   have u:((11:Int)==5)=false:=by decide
   have w:((11:Int)==7)=false:=by decide
   have j:((11:Int)==11)=true:=by decide
   rw[show c7 11 l.length=((l.length:Int)==1) by unfold c7;simp];exact iV
  by_cases B:c=12
  ·subst B
   have eg:((12:Int)==1)=false:=by decide
   have mG:((12:Int)==2)=false:=by decide
   have o:((12:Int)==4)=false:=by decide
   have i:((12:Int)==14)=false:=by decide
   have d:((12:Int)==3)=false:=by decide
   have u:((12:Int)==5)=false:=by decide
   have w:((12:Int)==7)=false:=by decide
   have j:((12:Int)==11)=false:=by decide
   have m:((12:Int)==12)=true:=by decide
   rw[show c7 12 l.length=((l.length:Int)==1) by unfold c7;simp];exact iV
  by_cases C:c=13
  ·subst C
   have eg:((13:Int)==1)=false:=by decide
   have mG:((13:Int)==2)=false:=by decide
   have o:((13:Int)==4)=false:=by decide
   have i:((13:Int)==14)=false:=by decide
   have d:((13:Int)==3)=false:=by decide
   have u:((13:Int)==5)=false:=by decide
   have w:((13:Int)==7)=false:=by decide
   have j:((13:Int)==11)=false:=by decide
   have m:((13:Int)==12)=false:=by decide
   have r:((13:Int)==13)=true:=by decide
   rw[show c7 13 l.length=((l.length:Int)==1) by unfold c7;simp];exact iV
  by_cases h6:c=6
  ·subst h6
   have eg:((6:Int)==1)=false:=by decide
   have mG:((6:Int)==2)=false:=by decide
   have o:((6:Int)==4)=false:=by decide
   have i:((6:Int)==14)=false:=by decide
   have d:((6:Int)==3)=false:=by decide
   have u:((6:Int)==5)=false:=by decide
   have w:((6:Int)==7)=false:=by decide
   have j:((6:Int)==11)=false:=by decide
   have m:((6:Int)==12)=false:=by decide
   have r:((6:Int)==13)=false:=by decide
   have M:((6:Int)==6)=true:=by decide
   rw[show c7 6 l.length=((l.length:Int)==2) by unfold c7;simp];exact iV
  by_cases h8:c=8
  ·subst h8
   have eg:((8:Int)==1)=false:=by decide
   have mG:((8:Int)==2)=false:=by decide
   have o:((8:Int)==4)=false:=by decide
   have i:((8:Int)==14)=false:=by decide
   have d:((8:Int)==3)=false:=by decide
   have u:((8:Int)==5)=false:=by decide
   have w:((8:Int)==7)=false:=by decide
   have j:((8:Int)==11)=false:=by decide
   have m:((8:Int)==12)=false:=by decide
   have r:((8:Int)==13)=false:=by decide
   have M:((8:Int)==6)=false:=by decide
   have f8:((8:Int)==8)=true:=by decide
   rw[show c7 8 l.length=((l.length:Int)==2) by unfold c7;simp];exact iV
  by_cases z:c=10
  ·subst z
   have eg:((10:Int)==1)=false:=by decide
   have mG:((10:Int)==2)=false:=by decide
   have o:((10:Int)==4)=false:=by decide
   have i:((10:Int)==14)=false:=by decide
   have d:((10:Int)==3)=false:=by decide
   have u:((10:Int)==5)=false:=by decide
   have w:((10:Int)==7)=false:=by decide
   have j:((10:Int)==11)=false:=by decide
   have m:((10:Int)==12)=false:=by decide
   have r:((10:Int)==13)=false:=by decide
   have M:((10:Int)==6)=false:=by decide
   have f8:((10:Int)==8)=false:=by decide
   have L:((10:Int)==10)=true:=by decide
   rw[show c7 10 l.length=((l.length:Int)==2) by unfold c7;simp];exact iV
  by_cases h9:c=9
  ·subst h9
   have eg:((9:Int)==1)=false:=by decide
   have mG:((9:Int)==2)=false:=by decide
   have o:((9:Int)==4)=false:=by decide
   have i:((9:Int)==14)=false:=by decide
   have d:((9:Int)==3)=false:=by decide
   have u:((9:Int)==5)=false:=by decide
   have w:((9:Int)==7)=false:=by decide
   have j:((9:Int)==11)=false:=by decide
   have m:((9:Int)==12)=false:=by decide
   have r:((9:Int)==13)=false:=by decide
   have M:((9:Int)==6)=false:=by decide
   have f8:((9:Int)==8)=false:=by decide
   have L:((9:Int)==10)=false:=by decide
   have f9:((9:Int)==9)=true:=by decide
   cases hq:((l.length:Int)==2)with
   |true =>
    rw[show c7 9 l.length=true by unfold c7;simp[hq]];exact iV
   |false =>
    rw[show c7 9 l.length=((l.length:Int)==3) by unfold c7;simp[hq]];exact iV
  have e:c7 c l.length=false:=by unfold c7;simp[Q,R,V,E,S,W,h7,A,B,C,h6,h8,z,h9]
  rw[e]
  have g1:(c==1)=false:=by simpa using Q
  have g2:(c==2)=false:=by simpa using R
  have g4:(c==4)=false:=by simpa using V
  have g14:(c==14)=false:=by simpa using E
  have g3:(c==3)=false:=by simpa using S
  have g5:(c==5)=false:=by simpa using W
  have g7:(c==7)=false:=by simpa using h7
  have g11:(c==11)=false:=by simpa using A
  have g12:(c==12)=false:=by simpa using B
  have g13:(c==13)=false:=by simpa using C
  have g6:(c==6)=false:=by simpa using h6
  have g8:(c==8)=false:=by simpa using h8
  have g10:(c==10)=false:=by simpa using z
  have g9:(c==9)=false:=by simpa using h9
  exact iV
 ·rintro _ _⟨rfl,rfl⟩;generalize c7 c t.au.length=J;refine Z ?_;refine GW.range (df t.au).length (fun k O Γ=>O=U::U::U::U::.v (.bool (J&&(t.au.take k).all eY))::zU 46 [.sl 1 (df t.au),.v (ii ((df t.au).length:Int)),.v (ii (k:Nat)),U,U,U,U,U,U,U,U,U,U]/\Γ=[]) ?_ X ?_ ?_ ?_
  ·refine⟨_,_,Wk.aW (de:=U::U::U::U::.v (.bool J)::zU 46 [.sl 1 (df t.au),.v (ii ((df t.au).length:Int)),.v (ii (0:Nat)),U,U,U,U,U,U,U,U,U,U]) az,?_,rfl⟩;rw[List.take_zero,List.all_nil,Bool.and_true]
  ·rintro k _ _⟨rfl,rfl⟩;exact dN
  ·rintro k _ _ H⟨rfl,rfl⟩;rw[F]at H;obtain⟨kid,q⟩:∃kid,t.au[k]?=some kid:=⟨t.au[k],by simp[H]⟩;have hr:=vY q;have pf:=Go.Xp.vd q;have hle:=Go.Xp.rS t.au (k+1);have hih:=ih kid X X
   have G:(t.au.take (k+1)).all eY=((t.au.take k).all eY&&eY kid):=by rw[dc,q,all_append];simp
   rw[G,<-Bool.and_assoc];generalize(J&&(t.au.take k).all eY)=b at *
   cases b with
   |true =>
    refine Z ?_;refine I [] hih ?_;exact za0
   |false =>
    refine Z ?_;exact za0
  ·rintro _ _⟨rfl,rfl⟩;rw[F,dx];exact aB
def w6(l:List T):Int:=match l.findIdx? (fun t=>!(eY t))with|some i=>(i:Int)|none => -1
theorem Oh(t:T)(w:bc t<=1099511627776):GF prog 123 [uT t] [] (.v (.bool (!(eY t)))) []:=by
 have h:=QW _ t (aQ _) w;generalize eY t=b at *;refine aj func123 ntmps123 ?_;exact zbg
theorem HG(l:List T)(V:l.length<=1099511627776)(z:∀t∈l,bc t<=1099511627776) :
  GF prog 187 [.sl 1 (df l),.v (.func (.func 123) #[] #[])] [] (.v (ii (w6 l))) []:=by
 have B:=rI l;refine aj func187 ntmps187 ?_;refine GW.range (df l).length (fun k w W=>w=[.sl 1 (df l),.v (.func (.func 123) #[] #[]),U,U,U,U,U,.v (ii ((df l).length:Int)),.v (ii (k:Nat)),U,U,U,U,U,U,U,U,U,U]/\W=[]/\(l.take k).all eY=true) ?_ X ?_ ?_ ?_
 ·exact kz
 ·exact iI
 ·rintro k _ _ M⟨rfl,rfl,m⟩;rw[B]at M
  have u:l[k]?=some l[k]:=by simp[M]
  have r:=vY u;have R:=Oh l[k] (z _ (getElem_mem M))
  have n:(l.take (k+1)).all eY=((l.take k).all eY&&eY l[k]):=by rw[dc,u,all_append];simp
  have o:eY l[k]=false->w6 l=(k:Int):=fun s=>by
   have:l.findIdx? (fun t=>!(eY t))=some k:=by
    rw[List.findIdx?_eq_some_iff_getElem];refine⟨M,by simp[s],fun j G=>?_⟩;rw[fa]at m;have:=m l[j] zfa;simp[this]
   unfold w6;rw[this]
  generalize l[k]=t at *
  cases q:eY t with
  |true =>
   rw[q]at R n;refine Z ?_;refine jT [] R ?_;exact zd6
  |false =>
   rw[q]at R;rw[o q];refine Z ?_;refine jT [] R ?_;exact aB
 ·rintro _ _⟨rfl,rfl,m⟩;rw[B,dx]at m
  have:l.findIdx? (fun t=>!(eY t))=none:=by
   rw[List.findIdx?_eq_none_iff];intro x hx;rw[fa]at m;simp[m x hx]
  unfold w6;rw[this];exact aB
theorem Rz(l:List T):decide ((0:Int)<=w6 l)=!(l.all eY):=by
 unfold w6
 cases h:l.findIdx? (fun t=>!(eY t))with
 |some i =>
  rw[List.findIdx?_eq_some_iff_getElem]at h;have⟨M,v,_⟩:=h
  have:l.all eY=false:=by
   rw[List.all_eq_false];exact⟨l[i],getElem_mem _,by simpa using v⟩
  rw[this];simp
 |none =>
  rw[List.findIdx?_eq_none_iff]at h
  have:l.all eY=true:=by rw[fa];intro x hx;simpa using h x hx
  rw[this];rfl
theorem vg(l:List T)(V:l.length<=1099511627776)(w:∀t∈l,bc t<=1099511627776) :
  GF prog 122 [.sl 1 (df l),.v (.func (.func 123) #[] #[])] [] (.v (.bool (!(l.all eY)))) []:=by
 have h:=HG l V w;rw[<-Rz];generalize w6 l=z at *;refine aj func122 ntmps122 ?_;exact zbg
end Go.Xg
