/- Part 14 of proofs that are told in their last texts. -/
import Derived.Test.YtfahcenafcklmaaGreatDoorZ7
import Derived.ProofKit
import Derived.Below
import Derived.ChangeSame
import Derived.Shelf.Strings.Builder1
import Derived.Shelf.Strings.Builder2
import Derived.Shelf.Small.Strs
import Derived.Shelf.Strings.BuilderF
import Derived.Shelf.Strconv.Itoa0
import Derived.Shelf.Strconv.Itoa1
import Derived.Shelf.LaysM
import Derived.Shelf.Strconv.Itoa2
import Derived.Shelf.Strconv.Itoa3
import Derived.Shelf.Strings.Search1
import Derived.Shelf.Strings.Search2
import Derived.Shelf.Strings.Search3
import Derived.Shelf.Strings.Count
import Derived.Shelf.Strings.Shaped
import Derived.Shelf.Sort.Plain
import Derived.Shelf.Strings.Prefix
import Derived.Shelf.Strings.Split
import Derived.Shelf.Strings.Fields
import Derived.Shelf.Strings.SplitShaped
import Derived.Shelf.Unicode.Latin
import Derived.Shelf.Bits.Mul64
import Derived.Shelf.Strings.Repeat
import Derived.Shelf.Unicode.Is16White
import Derived.Shelf.Unicode.IsSpaceAny
import Derived.Shelf.Unicode.Is16Any
import Derived.Shelf.Unicode.Is32Any
import Derived.Shelf.Unicode.ExclAny
import Derived.Ground.Names2Prog
import Derived.Shelf.Slices.CompactI
import Derived.Shelf.Slices.In.SortNone
import Derived.Test.YtfahcenafcklmaaGreatDoorProg
import Derived.Test.YtfahcenafcklmaaGreatDoorZ1
import Derived.Test.YtfahcenafcklmaaGreatDoorZ10
import Derived.Test.YtfahcenafcklmaaGreatDoorZ12
import Derived.Test.YtfahcenafcklmaaGreatDoorZ3
import Derived.Test.YtfahcenafcklmaaGreatDoorZ11
import Derived.Test.YtfahcenafcklmaaGreatDoorZ13
import Derived.Test.YtfahcenafcklmaaGreatDoorZ2
import Derived.Test.YtfahcenafcklmaaGreatDoorZ4
open List (getD_cons_succ getD_cons_zero getElem_mem length_cons length_nil map_nil sum_cons)
set_option linter.unusedVariables false
set_option linter.unusedSimpArgs false
set_option maxRecDepth 100000
namespace Go
theorem zdd {A B:Prop} (h:B) (s:PLift B->A:=by intro hQ;refine ab ?_;refine aS (aC 0 11 .nil) ?_;refine bF ?_;rw [rA];refine GW.wk (Wk.freeze (i:=0) rfl rfl rfl (aD _)) ?_;exact hQ.1):A:=s ⟨h⟩
end Go
namespace Go.Xw
open Go.RowKit Go.WideShapes Go.ChangeShapes
section
variable {H:Type} {enc:TypeId × Value->H} {P:Program}
theorem w4 {f:Func} {s:ChangeSpec} {apart fresh handsOn again:Bool} {W W':World} {args:Array Value} {v:Value} {ds gs:List (DataW H)} {before pa pv:List MemPlace}
  (hW:DataW.Whole enc P f.params.toList s.vars apart W args.toList ds gs before)
  (Tv:∀ (b:Nat) (sp:Nat->Bool) (hd:Bool),DataW.TrodAll enc P W' b sp hd f.resultTypes.toList (v.resultList f.resultTypes.size) (s.fn H (ds++gs)).results [])
  (yl:∀ sp:Nat->Bool,(∀ p∈before,sp p.block=true)->DataW.TrodAll enc P W' 0 sp true f.params.toList args.toList (s.fn H (ds++gs)).args pa)
  (Qc:∀ sp:Nat->Bool,(∀ p∈before,sp p.block=true)->DataW.TrodVars enc P W' sp s.vars (s.fn H (ds++gs)).vars pv)
  (wZ:before=pa++pv) (hb:Below W.heap.size W W')
  (ei:∀ (j:Nat) (t:TypeId) (r:Value),f.resultTypes[j]?=some t->(v.resultList f.resultTypes.size)[j]?=some r->Value.okWide P W' .any 0 t r) :
  s.post enc P f apart fresh handsOn again W args v W':=by
 have ar:∀ p∈before,p.block < W.heap.size:=fun p hp=>hW.lt p hp
 have hold:∀ p∈before,(fun b=>decide (b < W.heap.size)) p.block=true:=fun p hp=>by simpa using ar p hp
 refine ⟨ds,gs,before,[],pa,pv,hW,Tv _ _ _,yl _ hold,Qc _ hold,World.keptBut_mono (fun p hp=>⟨hp,?_⟩) (hb.frame (·∈before)),fun _=>?_⟩
 ·rw [wZ,List.mem_append] at hp;exact Or.inr hp
 ·obtain ⟨_,_,_,_,_,hz,hn⟩:=hW;refine ⟨ei,_,_,([]++pa)++pv,⟨[]++pa,pv,trodAll_append (yl _ (fun _ _=>rfl)) (Tv _ _ _),Qc _ (fun _ _=>rfl),rfl,?_,?_⟩,?_⟩
  ·intro b off hp
   have lW:MemPlace.cell b off∈before:=by rw [wZ];simpa using hp
   rw [hb.frozen (ar _ lW)];exact hz b off lW
  ·intro ha;have:=hn ha;rw [wZ] at this;exact zcb
  ·intro p hp _;rw [wZ];simpa using hp
end
end Go.Xw
namespace Go.Proofs
open Go.Shelf
theorem cK {α:Type} {a:Option α} {b c:α} (h:a=some b) (k:b=c:=by kernel_rfl):a=some c:=h.trans (congrArg some k)
def Tryz.zh:Go.Shelf.Ren:=⟨fun | 165=>205 | 240=>260 | 241=>261 | 276=>293 | 277=>294 | n=>n,fun | 70=>185 | 3=>3 | 0=>0 | 4=>4 | 9=>9 | 20=>20 | 72=>187 | 37=>22 | 164=>246 | 5=>5 | n=>n,fun | n=>n⟩
theorem Tryz.Ri:Go.Proofs.Lays.n165 Tryz.prog Tryz.zh:={
 mixed:=by kernel_rfl
 f165:=cK Tryz.func205
 f240:=cK Tryz.func260
 f241:=cK Tryz.func261
 f276:=cK Tryz.func293
 f277:=cK Tryz.func294
 t0:=Tryz.underlying0
 a0:=Tryz.isAgg0
 z0:=Tryz.sizeOf0
 v0:=Tryz.zeroValue0
 t3:=Tryz.underlying3
 a3:=Tryz.isAgg3
 z3:=Tryz.sizeOf3
 v3:=Tryz.zeroValue3
 t4:=Tryz.underlying4
 a4:=Tryz.isAgg4
 z4:=Tryz.sizeOf4
 v4:=Tryz.zeroValue4
 t9:=Tryz.underlying9
 a9:=Tryz.isAgg9
 z9:=Tryz.sizeOf9
 v9:=Tryz.zeroValue9
 t20:=Tryz.underlying20
 a20:=Tryz.isAgg20
 z20:=Tryz.sizeOf20
 v20:=Tryz.zeroValue20
 t37:=Tryz.underlying22
 a37:=Tryz.isAgg22
 z37:=Tryz.sizeOf22
 v37:=Tryz.zeroValue22
 t70:=Tryz.underlying185
 a70:=Tryz.isAgg185
 z70:=Tryz.sizeOf185
 v70:=Tryz.zeroValue185
 t72:=Tryz.underlying187
 a72:=Tryz.isAgg187
 z72:=Tryz.sizeOf187
 v72:=Tryz.zeroValue187
 t164:=Tryz.underlying246
 a164:=Tryz.isAgg246
 z164:=Tryz.sizeOf246
 v164:=Tryz.zeroValue246 }
theorem Tryz.yM:Builder.Extra Tryz.prog Tryz.zh:={
 sizeBuilder:=by kernel_rfl
 liesBuilder:=by kernel_rfl
 t5:=Tryz.underlying5
 a5:=Tryz.isAgg5
 z5:=Tryz.sizeOf5
 v5:=Tryz.zeroValue5
 infoByte:=by kernel_rfl
 cellsByte:=by kernel_rfl
 sizeByte:=by kernel_rfl
 neB5:=by decide }
open Go.RowKit in
theorem Tryz.Builder_Grow_fresh (B b n:Nat) (w:World) (hB:B<=b) (ea:w.heap[b]?=some (.cells #[.pointer none,.slice none 0 0] 187 (0,0))) (YD:B<=w.heap.size) (hn:n<=281474976710656) :
  Calls Tryz.prog 205 #[.pointer (some ⟨b,0,none⟩),.int .i64 n] w fun e w'=>e=.returned (.tuple #[])/\(Lib.BuilderAt 187 5 B b (.pointer (some ⟨b,0,none⟩)) [] w'/\Below B w w'):=Any.Builder_Grow_fresh Tryz.Ri Tryz.yM B b n w hB ea YD hn
def Tryz.GQ:Go.Shelf.Ren:=⟨fun | 137=>179 | 217=>235 | 266=>280 | n=>n,fun | 9=>9 | 5=>5 | 3=>3 | n=>n,fun | n=>n⟩
theorem Tryz.Re:Go.Proofs.Lays.n137 Tryz.prog Tryz.GQ:={
 mixed:=by kernel_rfl
 f137:=cK Tryz.func179
 f217:=cK Tryz.func235
 f266:=cK Tryz.func280
 t3:=Tryz.underlying3
 a3:=Tryz.isAgg3
 z3:=Tryz.sizeOf3
 v3:=Tryz.zeroValue3
 t5:=Tryz.underlying5
 a5:=Tryz.isAgg5
 z5:=Tryz.sizeOf5
 v5:=Tryz.zeroValue5
 t9:=Tryz.underlying9
 a9:=Tryz.isAgg9
 z9:=Tryz.sizeOf9
 v9:=Tryz.zeroValue9 }
open Go.RowKit in
theorem Tryz.strings_IndexByte (s:ByteArray) (c:Int) (w:World) :
  Calls Tryz.prog 179 #[.string s,.int .u8 c] w fun e w'=>e=.returned (.int .i64 (Lib.indexByte s.data.toList c.toNat.toUInt8))/\w'=w:=Any.strings_IndexByte Tryz.Re s c w
def Tryz.Fi:Go.Shelf.Ren:=⟨fun | 171=>135 | 243=>187 | 246=>248 | 283=>282 | 284=>283 | 285=>284 | 286=>285 | 129=>230 | 317=>298 | 318=>299 | 319=>300 | 320=>301 | 337=>306 | 338=>307 | n=>n,fun | 3=>3 | 9=>9 | 2=>2 | 4=>4 | 171=>240 | 0=>0 | 53=>214 | 37=>22 | 5=>5 | 173=>242 | 212=>254 | 51=>212 | 20=>20 | 213=>255 | 46=>157 | 232=>265 | 233=>266 | n=>n,fun | 17=>1 | 18=>4 | 19=>5 | n=>n⟩
theorem Tryz.OL:Go.Proofs.LaysM.n171 Tryz.prog Tryz.Fi:={
 mixed:=by kernel_rfl
 f129:=cK Tryz.func230
 f171:=cK Tryz.func135
 f243:=cK Tryz.func187
 f246:=cK Tryz.func248
 f283:=cK Tryz.func282
 f284:=cK Tryz.func283
 f285:=cK Tryz.func284
 f286:=cK Tryz.func285
 f317:=cK Tryz.func298
 f318:=cK Tryz.func299
 f319:=cK Tryz.func300
 f320:=cK Tryz.func301
 f337:=cK Tryz.func306
 f338:=cK Tryz.func307
 t0:=Tryz.underlying0
 a0:=Tryz.isAgg0
 z0:=Tryz.sizeOf0
 v0:=Tryz.zeroValue0
 t2:=Tryz.underlying2
 a2:=Tryz.isAgg2
 z2:=Tryz.sizeOf2
 v2:=Tryz.zeroValue2
 t3:=Tryz.underlying3
 a3:=Tryz.isAgg3
 z3:=Tryz.sizeOf3
 v3:=Tryz.zeroValue3
 t4:=Tryz.underlying4
 a4:=Tryz.isAgg4
 z4:=Tryz.sizeOf4
 v4:=Tryz.zeroValue4
 t5:=Tryz.underlying5
 a5:=Tryz.isAgg5
 z5:=Tryz.sizeOf5
 v5:=Tryz.zeroValue5
 t9:=Tryz.underlying9
 a9:=Tryz.isAgg9
 z9:=Tryz.sizeOf9
 v9:=Tryz.zeroValue9
 t20:=Tryz.underlying20
 a20:=Tryz.isAgg20
 z20:=Tryz.sizeOf20
 v20:=Tryz.zeroValue20
 t37:=Tryz.underlying22
 a37:=Tryz.isAgg22
 z37:=Tryz.sizeOf22
 v37:=Tryz.zeroValue22
 t46:=Tryz.underlying157
 a46:=Tryz.isAgg157
 z46:=Tryz.sizeOf157
 v46:=Tryz.zeroValue157
 t51:=Tryz.underlying212
 a51:=Tryz.isAgg212
 z51:=Tryz.sizeOf212
 v51:=Tryz.zeroValue212
 t53:=Tryz.underlying214
 a53:=Tryz.isAgg214
 z53:=Tryz.sizeOf214
 v53:=Tryz.zeroValue214
 t171:=Tryz.underlying240
 a171:=Tryz.isAgg240
 z171:=Tryz.sizeOf240
 v171:=Tryz.zeroValue240
 t173:=Tryz.underlying242
 a173:=Tryz.isAgg242
 z173:=Tryz.sizeOf242
 v173:=Tryz.zeroValue242
 t212:=Tryz.underlying254
 a212:=Tryz.isAgg254
 z212:=Tryz.sizeOf254
 v212:=Tryz.zeroValue254
 t213:=Tryz.underlying255
 a213:=Tryz.isAgg255
 z213:=Tryz.sizeOf255
 t232:=Tryz.underlying265
 a232:=Tryz.isAgg265
 z232:=Tryz.sizeOf265
 v232:=Tryz.zeroValue265
 t233:=Tryz.underlying266
 a233:=Tryz.isAgg266
 z233:=Tryz.sizeOf266
 v233:=Tryz.zeroValue266
 g17:=by kernel_rfl
 g18:=by kernel_rfl
 g19:=by kernel_rfl
 i0:=by kernel_rfl
 i2:=by kernel_rfl
 i3:=by kernel_rfl
 i4:=by kernel_rfl
 i5:=by kernel_rfl
 i9:=by kernel_rfl
 i20:=by kernel_rfl
 i37:=by kernel_rfl
 i46:=by kernel_rfl
 i51:=by kernel_rfl
 i53:=by kernel_rfl
 i171:=by kernel_rfl
 i173:=by kernel_rfl
 i212:=by kernel_rfl
 i232:=by kernel_rfl
 i233:=by kernel_rfl
 m17:=by kernel_rfl
 m18:=by kernel_rfl
 m19:=by kernel_rfl }
open Go.RowKit Go.Sort Go.Lib in
theorem Tryz.strconv_Itoa (n:Int) (h0 : -9223372036854775808<=n) (D:n<=9223372036854775807) (w:World) (zL:Lib.TabIs Tryz.prog w "internal/strconv.uint64pow10" .u64 Lib.pow10Tab) :
  Calls Tryz.prog 135 #[.int .i64 n] w fun e w'=>e=.returned (.string ⟨(Lib.itoa n).toArray⟩)/\∃ k os,w'=grow (w.drewN k) os:=Any.strconv_Itoa Tryz.OL n h0 D w zL
def Tryz.GS:Go.Shelf.Ren:=⟨fun | 143=>156 | 219=>212 | 217=>235 | 225=>265 | 224=>266 | 267=>267 | 266=>280 | 314=>295 | n=>n,fun | 9=>9 | 3=>3 | 4=>4 | 5=>5 | 46=>157 | 146=>229 | 51=>212 | n=>n,fun | 1=>0 | n=>n⟩
theorem Tryz.Rh:Go.Proofs.Lays.n143 Tryz.prog Tryz.GS:={
 mixed:=by kernel_rfl
 f143:=cK Tryz.func156
 f217:=cK Tryz.func235
 f219:=cK Tryz.func212
 f224:=cK Tryz.func266
 f225:=cK Tryz.func265
 f266:=cK Tryz.func280
 f267:=cK Tryz.func267
 f314:=cK Tryz.func295
 t3:=Tryz.underlying3
 a3:=Tryz.isAgg3
 z3:=Tryz.sizeOf3
 v3:=Tryz.zeroValue3
 t4:=Tryz.underlying4
 a4:=Tryz.isAgg4
 z4:=Tryz.sizeOf4
 v4:=Tryz.zeroValue4
 t5:=Tryz.underlying5
 a5:=Tryz.isAgg5
 z5:=Tryz.sizeOf5
 v5:=Tryz.zeroValue5
 t9:=Tryz.underlying9
 a9:=Tryz.isAgg9
 z9:=Tryz.sizeOf9
 v9:=Tryz.zeroValue9
 t46:=Tryz.underlying157
 a46:=Tryz.isAgg157
 z46:=Tryz.sizeOf157
 v46:=Tryz.zeroValue157
 t51:=Tryz.underlying212
 a51:=Tryz.isAgg212
 z51:=Tryz.sizeOf212
 v51:=Tryz.zeroValue212
 t146:=Tryz.underlying229
 a146:=Tryz.isAgg229
 z146:=Tryz.sizeOf229
 v146:=Tryz.zeroValue229
 g1:=by kernel_rfl }
open Go.RowKit Go.Lib in
theorem Tryz.strings_Index (s sub:ByteArray) (m:Int) (w:World) (hs:s.size < 4294967281) (hm:w.cell? ⟨0,0,none⟩=some (.int .i64 m)) :
  Calls Tryz.prog 156 #[.string s,.string sub] w fun e w'=>e=.returned (.int .i64 (Lib.index s.data.toList sub.data.toList))/\w'=w:=Any.strings_Index Tryz.Rh s sub m w hs hm
def Tryz.GR:Go.Shelf.Ren:=⟨fun | 138=>92 | 195=>154 | 218=>155 | 143=>156 | 219=>212 | 217=>235 | 225=>265 | 224=>266 | 267=>267 | 266=>280 | 314=>295 | n=>n,fun | 9=>9 | 3=>3 | 4=>4 | 5=>5 | 0=>0 | 46=>157 | 146=>229 | 51=>212 | n=>n,fun | 1=>0 | n=>n⟩
theorem Tryz.Rf:Go.Proofs.Lays.n138 Tryz.prog Tryz.GR:={
 mixed:=by kernel_rfl
 f138:=cK Tryz.func92
 f143:=cK Tryz.func156
 f195:=cK Tryz.func154
 f217:=cK Tryz.func235
 f218:=cK Tryz.func155
 f219:=cK Tryz.func212
 f224:=cK Tryz.func266
 f225:=cK Tryz.func265
 f266:=cK Tryz.func280
 f267:=cK Tryz.func267
 f314:=cK Tryz.func295
 t0:=Tryz.underlying0
 a0:=Tryz.isAgg0
 z0:=Tryz.sizeOf0
 v0:=Tryz.zeroValue0
 t3:=Tryz.underlying3
 a3:=Tryz.isAgg3
 z3:=Tryz.sizeOf3
 v3:=Tryz.zeroValue3
 t4:=Tryz.underlying4
 a4:=Tryz.isAgg4
 z4:=Tryz.sizeOf4
 v4:=Tryz.zeroValue4
 t5:=Tryz.underlying5
 a5:=Tryz.isAgg5
 z5:=Tryz.sizeOf5
 v5:=Tryz.zeroValue5
 t9:=Tryz.underlying9
 a9:=Tryz.isAgg9
 z9:=Tryz.sizeOf9
 v9:=Tryz.zeroValue9
 t46:=Tryz.underlying157
 a46:=Tryz.isAgg157
 z46:=Tryz.sizeOf157
 v46:=Tryz.zeroValue157
 t51:=Tryz.underlying212
 a51:=Tryz.isAgg212
 z51:=Tryz.sizeOf212
 v51:=Tryz.zeroValue212
 t146:=Tryz.underlying229
 a146:=Tryz.isAgg229
 z146:=Tryz.sizeOf229
 v146:=Tryz.zeroValue229
 g1:=by kernel_rfl }
open Go.RowKit Go.Lib in
theorem Tryz.strings_Count_one (s:ByteArray) (c:UInt8) (w:World) :
  Calls Tryz.prog 92 #[.string s,.string ⟨#[c]⟩] w fun e w'=>e=.returned (.int .i64 (Lib.countByte s.data.toList c))/\w'=w:=Any.strings_Count_one Tryz.Rf s c w
def Tryz.Fh:Go.Shelf.Ren:=⟨fun | 157=>297 | 229=>304 | 199=>305 | 261=>310 | 311=>313 | 312=>314 | n=>n,fun | 9=>9 | 31=>23 | 3=>3 | 5=>5 | 4=>4 | 119=>257 | 0=>0 | 40=>259 | 152=>260 | 21=>21 | 154=>262 | 51=>212 | 141=>264 | 196=>272 | 193=>269 | 198=>275 | 49=>273 | 194=>270 | 201=>278 | 226=>281 | 46=>157 | 227=>282 | n=>n,fun | 0=>2 | 6=>3 | n=>n⟩
theorem Tryz.OK:Go.Proofs.LaysM.n157 Tryz.prog Tryz.Fh:={
 mixed:=by kernel_rfl
 f157:=cK Tryz.func297
 f199:=cK Tryz.func305
 f229:=cK Tryz.func304
 f261:=cK Tryz.func310
 f311:=cK Tryz.func313
 f312:=cK Tryz.func314
 t0:=Tryz.underlying0
 a0:=Tryz.isAgg0
 z0:=Tryz.sizeOf0
 v0:=Tryz.zeroValue0
 t3:=Tryz.underlying3
 a3:=Tryz.isAgg3
 z3:=Tryz.sizeOf3
 v3:=Tryz.zeroValue3
 t4:=Tryz.underlying4
 a4:=Tryz.isAgg4
 z4:=Tryz.sizeOf4
 v4:=Tryz.zeroValue4
 t5:=Tryz.underlying5
 a5:=Tryz.isAgg5
 z5:=Tryz.sizeOf5
 v5:=Tryz.zeroValue5
 t9:=Tryz.underlying9
 a9:=Tryz.isAgg9
 z9:=Tryz.sizeOf9
 v9:=Tryz.zeroValue9
 t21:=Tryz.underlying21
 a21:=Tryz.isAgg21
 z21:=Tryz.sizeOf21
 v21:=Tryz.zeroValue21
 t31:=Tryz.underlying23
 a31:=Tryz.isAgg23
 z31:=Tryz.sizeOf23
 v31:=Tryz.zeroValue23
 t40:=Tryz.underlying259
 a40:=Tryz.isAgg259
 z40:=Tryz.sizeOf259
 v40:=Tryz.zeroValue259
 t46:=Tryz.underlying157
 a46:=Tryz.isAgg157
 z46:=Tryz.sizeOf157
 v46:=Tryz.zeroValue157
 t49:=Tryz.underlying273
 a49:=Tryz.isAgg273
 z49:=Tryz.sizeOf273
 v49:=Tryz.zeroValue273
 t51:=Tryz.underlying212
 a51:=Tryz.isAgg212
 z51:=Tryz.sizeOf212
 v51:=Tryz.zeroValue212
 t119:=Tryz.underlying257
 a119:=Tryz.isAgg257
 z119:=Tryz.sizeOf257
 t141:=Tryz.underlying264
 a141:=Tryz.isAgg264
 z141:=Tryz.sizeOf264
 v141:=Tryz.zeroValue264
 t152:=Tryz.underlying260
 a152:=Tryz.isAgg260
 z152:=Tryz.sizeOf260
 v152:=Tryz.zeroValue260
 t154:=Tryz.underlying262
 a154:=Tryz.isAgg262
 z154:=Tryz.sizeOf262
 v154:=Tryz.zeroValue262
 t193:=Tryz.underlying269
 a193:=Tryz.isAgg269
 z193:=Tryz.sizeOf269
 v193:=Tryz.zeroValue269
 t194:=Tryz.underlying270
 a194:=Tryz.isAgg270
 z194:=Tryz.sizeOf270
 v194:=Tryz.zeroValue270
 t196:=Tryz.underlying272
 a196:=Tryz.isAgg272
 z196:=Tryz.sizeOf272
 v196:=Tryz.zeroValue272
 t198:=Tryz.underlying275
 a198:=Tryz.isAgg275
 z198:=Tryz.sizeOf275
 v198:=Tryz.zeroValue275
 t201:=Tryz.underlying278
 a201:=Tryz.isAgg278
 z201:=Tryz.sizeOf278
 v201:=Tryz.zeroValue278
 t226:=Tryz.underlying281
 a226:=Tryz.isAgg281
 z226:=Tryz.sizeOf281
 v226:=Tryz.zeroValue281
 t227:=Tryz.underlying282
 a227:=Tryz.isAgg282
 z227:=Tryz.sizeOf282
 v227:=Tryz.zeroValue282
 g0:=by kernel_rfl
 g6:=by kernel_rfl
 i0:=by kernel_rfl
 i3:=by kernel_rfl
 i4:=by kernel_rfl
 i5:=by kernel_rfl
 i9:=by kernel_rfl
 i21:=by kernel_rfl
 i31:=by kernel_rfl
 i40:=by kernel_rfl
 i46:=by kernel_rfl
 i49:=by kernel_rfl
 i51:=by kernel_rfl
 i141:=by kernel_rfl
 i152:=by kernel_rfl
 i154:=by kernel_rfl
 i193:=by kernel_rfl
 i194:=by kernel_rfl
 i196:=by kernel_rfl
 i198:=by kernel_rfl
 i201:=by kernel_rfl
 i226:=by kernel_rfl
 i227:=by kernel_rfl
 m0:=by kernel_rfl
 m6:=by kernel_rfl }
open Go.RowKit Go.Lib in
theorem Tryz.strings_Fields_laid (s:ByteArray) (w:World) (hs:s.size < 4294967281) (S2:∀ (j:Nat) b,s.data.toList[j]?=some b->b.toNat < 128) (zL:Lib.TabIs Tryz.prog w "strings.asciiSpace" .u8 Lib.asciiSpaceTab) :
  Calls Tryz.prog 297 #[.string s] w fun e w' =>
   e=.returned (.slice (some ⟨w.heap.size,0,none⟩) (Lib.fields s.data.toList).length (Lib.fields s.data.toList).length)/\w'=w.alloc (.cells ((Lib.fields s.data.toList).map fun l=>Value.string ⟨l.toArray⟩).toArray 9):=Any.strings_Fields_laid Tryz.OK s w hs S2 zL
def Tryz.zg:Go.Shelf.Ren:=⟨fun | 105=>149 | 212=>209 | 99=>180 | 165=>205 | 166=>206 | 170=>210 | 169=>207 | 263=>263 | 264=>264 | 206=>236 | 240=>260 | 241=>261 | 276=>293 | 277=>294 | n=>n,fun | 9=>9 | 3=>3 | 4=>4 | 20=>20 | 0=>0 | 46=>157 | 109=>192 | 5=>5 | 72=>187 | 76=>190 | 51=>212 | 146=>229 | 53=>214 | 148=>231 | 70=>185 | 37=>22 | 75=>189 | 127=>228 | 164=>246 | 80=>181 | n=>n,fun | n=>n⟩
theorem Tryz.Rc:Go.Proofs.Lays.n105 Tryz.prog Tryz.zg:={
 mixed:=by kernel_rfl
 f99:=cK Tryz.func180
 f105:=cK Tryz.func149
 f165:=cK Tryz.func205
 f166:=cK Tryz.func206
 f169:=cK Tryz.func207
 f170:=cK Tryz.func210
 f206:=cK Tryz.func236
 f212:=cK Tryz.func209
 f240:=cK Tryz.func260
 f241:=cK Tryz.func261
 f263:=cK Tryz.func263
 f264:=cK Tryz.func264
 f276:=cK Tryz.func293
 f277:=cK Tryz.func294
 t0:=Tryz.underlying0
 a0:=Tryz.isAgg0
 z0:=Tryz.sizeOf0
 v0:=Tryz.zeroValue0
 t3:=Tryz.underlying3
 a3:=Tryz.isAgg3
 z3:=Tryz.sizeOf3
 v3:=Tryz.zeroValue3
 t4:=Tryz.underlying4
 a4:=Tryz.isAgg4
 z4:=Tryz.sizeOf4
 v4:=Tryz.zeroValue4
 t5:=Tryz.underlying5
 a5:=Tryz.isAgg5
 z5:=Tryz.sizeOf5
 v5:=Tryz.zeroValue5
 t9:=Tryz.underlying9
 a9:=Tryz.isAgg9
 z9:=Tryz.sizeOf9
 v9:=Tryz.zeroValue9
 t20:=Tryz.underlying20
 a20:=Tryz.isAgg20
 z20:=Tryz.sizeOf20
 v20:=Tryz.zeroValue20
 t37:=Tryz.underlying22
 a37:=Tryz.isAgg22
 z37:=Tryz.sizeOf22
 v37:=Tryz.zeroValue22
 t46:=Tryz.underlying157
 a46:=Tryz.isAgg157
 z46:=Tryz.sizeOf157
 v46:=Tryz.zeroValue157
 t51:=Tryz.underlying212
 a51:=Tryz.isAgg212
 z51:=Tryz.sizeOf212
 v51:=Tryz.zeroValue212
 t53:=Tryz.underlying214
 a53:=Tryz.isAgg214
 z53:=Tryz.sizeOf214
 v53:=Tryz.zeroValue214
 t70:=Tryz.underlying185
 a70:=Tryz.isAgg185
 z70:=Tryz.sizeOf185
 v70:=Tryz.zeroValue185
 t72:=Tryz.underlying187
 a72:=Tryz.isAgg187
 z72:=Tryz.sizeOf187
 v72:=Tryz.zeroValue187
 t75:=Tryz.underlying189
 a75:=Tryz.isAgg189
 z75:=Tryz.sizeOf189
 v75:=Tryz.zeroValue189
 t76:=Tryz.underlying190
 a76:=Tryz.isAgg190
 z76:=Tryz.sizeOf190
 v76:=Tryz.zeroValue190
 t109:=Tryz.underlying192
 a109:=Tryz.isAgg192
 z109:=Tryz.sizeOf192
 v109:=Tryz.zeroValue192
 t127:=Tryz.underlying228
 a127:=Tryz.isAgg228
 z127:=Tryz.sizeOf228
 v127:=Tryz.zeroValue228
 t146:=Tryz.underlying229
 a146:=Tryz.isAgg229
 z146:=Tryz.sizeOf229
 v146:=Tryz.zeroValue229
 t148:=Tryz.underlying231
 a148:=Tryz.isAgg231
 z148:=Tryz.sizeOf231
 v148:=Tryz.zeroValue231
 t164:=Tryz.underlying246
 a164:=Tryz.isAgg246
 z164:=Tryz.sizeOf246
 v164:=Tryz.zeroValue246 }
theorem Tryz.yL:Builder.Extra Tryz.prog Tryz.zg:={
 sizeBuilder:=by kernel_rfl
 liesBuilder:=by kernel_rfl
 t5:=Tryz.underlying5
 a5:=Tryz.isAgg5
 z5:=Tryz.sizeOf5
 v5:=Tryz.zeroValue5
 infoByte:=by kernel_rfl
 cellsByte:=by kernel_rfl
 sizeByte:=by kernel_rfl
 neB5:=by decide }
open Go.RowKit Go.Lib in
theorem Tryz.strings_Repeat (s:ByteArray) (c:Nat) (w:World) (hc:c<=9223372036854775807) (hlen:s.size * c<=140737488355328) :
  Calls Tryz.prog 149 #[.string s,.int .i64 c] w fun e w'=>e=.returned (.string ⟨(Lib.repeatL s.data.toList c).toArray⟩)/\Below w.heap.size w w':=Any.strings_Repeat Tryz.Rc Tryz.yL s c w hc hlen
end Go.Proofs
set_option maxHeartbeats 1000000
namespace Go.Xg
open Go.RowKit Go.Xw Go.Proofs Tryz
attribute [local irreducible] GW GL GO YG GC GA bu bs
instance:CW prog 22 5:=CW.mk' (al)
instance:BC prog 185:=BC.mk' (e:=187) (al) (al)
theorem GB (g:Value):GF prog 260 [.loc 0 0] [.box 187 [.loc 0 0,.v g]] (.tup []) [.box 187 [.loc 0 0,.v g]]:=by
 refine aj func260 ntmps260 ?_;exact tM
theorem rT (s:ae) (n:Nat) (a:Option Addr) (c:Nat) (rows:List (List GV)) (hn:rows.length=n) (hb:n+s.length<=140737488355328) :
  GC prog 206 [.loc 0 0,.v (sv s)] [.box 187 [.loc 0 0,.v (.slice a n c)],.vech 5 1 rows (.slice a n c)] (fun g aU=>(∃ x,g=.tup [.v (ii s.length),x])/\∃ a c,aU=[.box 187 [.loc 0 0,.v (.slice a (n+s.length) c)],.vech 5 1 (rows++bI s) (.slice a (n+s.length) c)]):=by
 subst hn;have h:=GB (.slice a rows.length c)
 cases s with
 | nil =>
  refine aj func206 ntmps206 ?_;refine V [0] h ?_;refine GL.UJ 1 rfl rfl rfl ze0 ?_;refine zcW ?_;refine yE ?_;exact ⟨⟨_,rfl⟩,a,c,by simp [bI]⟩
 | cons x r =>
  generalize hs:x::r=s at *
  have bZ:s.isEmpty=false:=by rw [<-hs];rfl
  clear hs;refine aj func206 ntmps206 ?_;refine V [0] h ?_;refine GL.UK 1 rfl rfl rfl ay aH X ?_;intro a2 c2;refine zcW ?_;refine yE ?_;exact ⟨⟨_,rfl⟩,a2,c2,rfl⟩
theorem Nr (str:ae) (a:Option Addr) (c:Nat) (h0:str≠[]) (hb:str.length<=140737488355328) :
  GF prog 207 [.loc 0 0] [.box 187 [.loc 0 0,.v (.slice a str.length c)],.vech 5 1 (bI str) (.slice a str.length c)] (.v (sv str)) [.box 187 [.loc 0 0,.v (.slice a str.length c)],.lost]:=by
 have hlen:(bI str).length=str.length:=by simp [bI]
 have hp:Nat.blt 0 str.length=true:=by simpa using List.length_pos_iff.2 h0
 have bZ:str.isEmpty=false:=by cases str with | nil=>exact absurd rfl h0 | cons _ _=>rfl
 refine aj func207 ntmps207 ?_;refine aS (aC 0 10 (.a 10 (.q 11 .nil))) ?_;refine aq ?_;refine J7 ?_;exact zbG
end Go.Xg
namespace Go.Xg
open Go.RowKit Go.Xw Go.Proofs Tryz
open GV (U)
open Go.Xp (bp)
theorem nh.xI {P:Program} {f:FuncId} {vs:List Value} {w:World} {R:Value->World->Prop} (h:Calls P f vs.toArray w fun e w'=>∃ v,e=.returned v/\R v w'):nh P f vs w R:=h
theorem GW.builder {Q:dL} {fr:List GV} {r1 r2:Nat} {rest:Code} {t8 t56 t57 t5:Tmp} {T1 T2 T3 T4 T5:TypeId} {p1 p2 p3:String} {a1 a2 a3:Array Edge} (n:Nat)
  (h8:jg fr t8=true) (V2:jg fr t56=true) (bZ:Nat.beq t8 t56=false) (XB:Nat.beq t5 t8=false) (hn:cB fr t5=.v (ii (n:Nat))) (hb:n<=281474976710656)
  (h:∀ a c,GW prog 0 rest Q (bN (bN (bN fr t8 (.loc 0 0)) t56 (.v (ii (n:Nat)))) t57 (.v (.tuple #[]))) [.box 187 [.loc 0 0,.v (.slice a 0 c)],.vech 5 1 [] (.slice a 0 c)]) :
  GW prog 0 (.seq (.region r1 [(⟨some t8,.alloc 187,T1,p1,a1,none⟩:Oper)].toArray false) (.seq (.region r2 [(⟨some t56,.move (.tmp t5),T2,p2,a2,none⟩:Oper),⟨some t57,.call ⟨.value (.func 205),[Operand.tmp t8,.tmp t56].toArray,#[T3,T4]⟩,T5,p3,a3,none⟩].toArray false) rest)) Q fr []:=fun B K β w l hm hI hF=>by
 have zJ:t8≠t56:=by intro e;subst e;simp at bZ
 have P3:t5≠t8:=by intro e;subst e;simp at XB
 have i8:=nG hF h8;have i56:=nG hF V2;refine W.seq (W.region (WL.alloc (t:=187) fun b w1 sd=>WL.nil ?_));refine W.seq (W.region (WL.v R.mv (WL.call (f:=205) (BK:=[.pointer (some ⟨b,0,none⟩),.int .i64 n]) ?_ (R:=fun x w2=>x=.tuple #[]/\(Lib.BuilderAt 187 5 b b (.pointer (some ⟨b,0,none⟩)) [] w2/\Below b w1 w2)) ?_ fun x w2 hx=>WL.nil ?_)))
 ·have YE:FR K (ff β 0 (.fix b)) (bN fr t8 (.loc 0 0)) (put l (some t8) (.pointer (some ⟨b,0,none⟩))) :=
   (hF.mono (cZ.refl K) (iO (i:=0) (x:=.fix b) (by rw [hI.out 0 (aD _)];trivial))).fh t8 (.loc 0 0 b bD)
  have ZC:jg (fh l t8 (.pointer (some ⟨b,0,none⟩))) t56=true:=nG YE (t:=t56) (by rw [HV];exact V2)
  have e5:nth (fh l t8 (.pointer (some ⟨b,0,none⟩))) t5=.int .i64 n:=by
   rw [n9 P3];exact Rel.gS (by rw [<-hn];exact hF.nth t5)
  show [nth (fh (fh l t8 (.pointer (some ⟨b,0,none⟩))) t56 (nth (fh l t8 (.pointer (some ⟨b,0,none⟩))) t5)) t8,nth (fh (fh l t8 (.pointer (some ⟨b,0,none⟩))) t56 (nth (fh l t8 (.pointer (some ⟨b,0,none⟩))) t5)) t56]=_;rw [n9 zJ,sC i8,sC ZC,e5]
 ·refine nh.xI (Calls.mono (Tryz.Builder_Grow_fresh b b n w1 (aD _) sd.blk (by have:=sd.size;omega) hb) ?_);rintro e w' ⟨D,I⟩;exact ⟨_,D,rfl,I⟩
 ·obtain ⟨rfl,⟨_,v,pZ,gz,Lz⟩,EH⟩:=hx;have gz:gV w2 b 5 1 v 0 []:=gz;obtain ⟨a,c,rfl⟩:=gz.shape;have pF:=sd.fresh;have iJ:Ext gR w w2:=⟨EH.os.trans sd.ext.os,EH.tape.trans sd.ext.tape,EH.output.trans sd.ext.output,gm sd.ext.size EH.size,fun k hk hs=>(EH.block k X).trans (sd.ext.block k hk hs)⟩;have sV:=hI.same iJ
  have cE:∀ i,β i=.no:=fun i=>hI.out i (aY _)
  have SW:∀ o,K b o=none:=fun o=>by
   cases hk:K b o with
   | none=>rfl
   | some g=>have:=hI.fz.lt hk;omega
  have Ws:=hI.ext.size;have aap:=hI.tab.pow.lt;have lX:=hI.tab.spc.lt;have Tl:dx β (ff β ([]:List Ob).length (.fix b)):=iO ze9
  have YJ:=sV.Pw (x:=.fix b) (y:=.box 187 [.loc 0 0,.v (.slice a 0 c)]) (fun b' bA=>by
   cases bA
   exact ⟨fun i hi=>(by rw [cE] at hi;cases hi),by omega,by omega,by omega⟩) (by
   refine ⟨b,[.pointer (some ⟨b,0,none⟩),.slice a 0 c],bD,pZ,.cons (.loc 0 0 b bD) (.cons (.v _) .nil),SW⟩) Tl
  have AM:gV w2 0 5 1 (.slice a 0 c) 0 []:=gz.base (aY _)
  have V9:∀ g,(Value.slice a 0 c).ownBlock=some g->b < g:=fun g hg=>by
   have D:=(gz.lt hg).1
   have I:g≠b:=fun e=>Lz (by rw [hg,e])
   omega
  have pA:ff β ([]:List Ob).length (.fix b) 1=.no:=by rw [bU aE];exact cE 1
  have EN:dx (ff β ([]:List Ob).length (.fix b)) (ff (ff β ([]:List Ob).length (.fix b)) 1 (.gr (.slice a 0 c) 0)):=iO (by rw [pA];trivial)
  have YK:=YJ.Pw (x:=.gr (.slice a 0 c) 0) (y:=.vech 5 1 [] (.slice a 0 c)) (fun g hg=>by
   have:=V9 g hg;refine ⟨fun i hi=>?_,by omega,by omega,by omega⟩
   rcases mu hi with D | D
   ·cases D;omega
   ·rw [cE] at D;cases D) (by
   refine ⟨[],bD,AM,bm.nil,(fun r hr=>by cases hr),fun g hg o=>?_⟩
   cases hk:K g o with
   | none=>rfl
   | some y=>have:=hI.fz.lt hk;have:=V9 g hg;omega) EN
  refine h a c B K _ w2 _ hm YK ?_;have YF:=(hF.mono (cZ.refl K) Tl).mono (cZ.refl K) EN;refine ((YF.fh t8 (.loc 0 0 b ?_)).fh t56 ?_).fh t57 (.v _)
  ·rw [bU aE];exact bD
  ·have e5:nth (fh l t8 (.pointer (some ⟨b,0,none⟩))) t5=.int .i64 n:=by
    rw [n9 P3];exact Rel.gS (by rw [<-hn];exact hF.nth t5)
   rw [show ev (put l (some t8) (.pointer (some ⟨b,0,none⟩))) (.tmp t5)=.int .i64 n from e5];exact .v _
attribute [local irreducible] GW GL GO YG GC GA bu bs
theorem tU (a b:ae):bI (a++b)=bI a++bI b:=by simp [bI]
def nb (l:List ae):Nat:=(l.map List.length).sum
theorem Di:∀ (r:List ae) (x:ae),(bp (x::r)).length=nb (x::r)+2 * r.length
 | [],x=>by simp [bp,nb]
 | y::r,x=>by
  have:=Di r y;simp only [bp,nb,aJ,List.map_cons,sum_cons,List.flatMap_cons,length_cons] at this |-;omega
def gj (l:List ae):ae:=l.flatMap fun y=>44::32::y
theorem Lf (a b:List ae):gj (a++b)=gj a++gj b:=by unfold gj;rw [List.flatMap_append]
theorem Q5 (l:List ae) (k:Nat):(gj (l.take k)).length<=(gj l).length:=by
 have:gj l=gj (l.take k)++gj (l.drop k):=by rw [<-Lf,List.take_append_drop]
 rw [this,aJ];omega
theorem SN (y:ae):gj [y]=[44,32]++y:=by simp [gj]
theorem Oz (x:ae) (r:List ae):bp (x::r)=x++gj r:=rfl
theorem Kj (l:List ae) (hb:(bp l).length<=1099511627776) (hl:l.length<=1099511627776):GF prog 147 [strs l,.v (sv [44,32])] [] (.v (sv (bp l))) []:=by
 match l,hb,hl with
 | [],hb,hl =>
  refine aj func147 ntmps147 ?_;exact ao
 | [x],hb,hl =>
  have hr:([x].map fun s=>[GV.v (sv s)])[0]?=some [.v (sv x)]:=rfl
  have e:bp [x]=x:=by simp [bp]
  rw [e];refine aj func147 ntmps147 ?_;exact ao
 | x::y::r,hb,hl =>
  have vb:((x::y::r).map fun s=>[GV.v (sv s)])[0]?=some [.v (sv x)]:=rfl;have hlen:=Di (y::r) x
  have qb:x.length<=1099511627776:=by simp only [bp,aJ] at hb;omega
  generalize hL:(x::y::r)=l at *
  have kP:2<=l.length:=by rw [<-hL];simp
  have qv:(l.map fun s=>[GV.v (sv s)]).length=l.length:=by simp
  have pA:Nat.blt 1 (l.map fun s=>[GV.v (sv s)]).length=true:=by rw [qv];simpa [Nat.blt] using kP
  have sZ:(((l.map fun s=>[GV.v (sv s)]).length:Int)==0)=false:=by rw [qv];simp only [beq_eq_false_iff_ne,ne_eq];omega
  have ub:(((l.map fun s=>[GV.v (sv s)]).length:Int)==1)=false:=by rw [qv];simp only [beq_eq_false_iff_ne,ne_eq];omega
  have hq:decide ((9223372036854775807:Int) / (((l.map fun s=>[GV.v (sv s)]).length:Int) - 1)<=2)=false:=by
   rw [qv]
   have h3:(3:Int)<=9223372036854775807 / ((l.length:Int) - 1):=by
    rw [Int.le_ediv_iff_mul_le X];omega
   simp;omega
  refine aj func147 ntmps147 ?_;apply GL.q
  ·exact YG.mul (a:=2) (b:=((l.map fun s=>[GV.v (sv s)]).length:Int) - 1) rfl rfl X
  refine om ?_;refine ab ?_;refine GW.range (l.map fun s=>[GV.v (sv s)]).length (fun k fr Γ=>fr=[strs l,.v (sv [44,32]),U,U,U,.v (ii (0+2 * (((l.map fun s=>[GV.v (sv s)]).length:Int) - 1)+((nb (l.take k):Nat):Int))),U,U,U,U,U,U,U,U,U,U,U,U,U,U,U,U,U,U,U,U,U,U,U,U,U,U,U,U,U,U,U,U,U,strs l,.v (ii ((l.map fun s=>[GV.v (sv s)]).length:Int)),.v (ii (k:Nat)),U,U,U,U,U,U,U,U,U,U,U,U,U,U,U,U,U,U,U,U,U,U,U,U,U,U,U,U,U,U,U,U,U]/\Γ=[]) ?_ X ?_ ?_ ?_
  ·refine ⟨_,_,Wk.aX (c6:=[strs l,.v (sv [44,32]),U,U,U,.v (ii (0+2 * (((l.map fun s=>[GV.v (sv s)]).length:Int) - 1))),U,U,U,U,U,U,U,U,U,U,U,U,U,U,U,U,U,U,U,U,U,U,U,U,U,U,U,U,U,U,U,U,U,strs l,.v (ii ((l.map fun s=>[GV.v (sv s)]).length:Int)),.v (ii (0:Nat)),U,U,U,U,U,U,U,U,U,U,U,U,U,U,U,U,U,U,U,U,U,U,U,U,U,U,U,U,U,U,U,U,U]) aw,?_,rfl⟩;rw [List.take_zero,show ((nb []:Nat):Int)=0 from rfl,Int.add_zero]
  ·rintro k _ _ ⟨rfl,rfl⟩;exact gU
  ·rintro k _ _ ar ⟨rfl,rfl⟩;rw [qv] at ar
   have gE:l[k]?=some l[k]:=by simp [ar]
   have y7:(l.map fun s=>[GV.v (sv s)])[k]?=some [.v (sv l[k])]:=by rw [bP,gE];rfl
   have hs:nb (l.take (k+1))=nb (l.take k)+l[k].length:=by unfold nb;rw [eK,gE,lI,List.sum_append];simp only [Option.toList,List.map_cons,map_nil,sum_cons,List.sum_nil,Nat.add_zero]
   have hle:nb (l.take (k+1))<=nb l:=by
    have:nb l=nb (l.take (k+1))+nb (l.drop (k+1)):=by
     unfold nb;rw [<-List.sum_append,<-lI,List.take_append_drop]
    omega
   generalize l[k]=z at *;rw [show (0+2 * (((l.map fun s=>[GV.v (sv s)]).length:Int) - 1)+((nb (l.take (k+1)):Nat):Int))=0+2 * (((l.map fun s=>[GV.v (sv s)]).length:Int) - 1)+((nb (l.take k):Nat):Int)+(z.length:Int) by rw [hs];omega]
   have hov:decide (9223372036854775807 - (0+2 * (((l.map fun s=>[GV.v (sv s)]).length:Int) - 1)+((nb (l.take k):Nat):Int)) < (z.length:Int))=false:=by
    simp only [decide_eq_false_iff_not];omega
   refine ab ?_;exact zbD
  ·rintro _ _ ⟨rfl,rfl⟩;rw [qv,iZ]
   have hN:(0+2 * ((l.length:Int) - 1)+((nb l:Nat):Int))=(((bp l).length:Nat):Int):=by
    have:(y::r).length+1=l.length:=by rw [<-hL];simp
    omega
   rw [hN];refine bo ?_
   refine GW.builder (bp l).length rfl rfl rfl rfl rfl X fun a c=>?_
   refine ab ?_;refine dW [0,1] (rT x 0 a c [] rfl X) ?_;rintro _ _ ⟨⟨u1,rfl⟩,a1,c1,rfl⟩;refine zc5 ?_
   have key:∀ k,(x++gj ((y::r).take k)).length<=1099511627776:=fun k=>by
    have D:=Q5 (y::r) k;rw [<-hL,Oz,aJ] at hb;rw [aJ];omega
   refine GW.range ((y::r).map fun s=>[GV.v (sv s)]).length (fun k fr Γ=>∃ acc a c,fr=[U,.v (sv [44,32]),U,U,U,U,U,U,.loc 0 0,U,U,U,U,U,U,U,U,U,U,U,U,U,U,U,U,U,U,U,U,U,U,U,U,U,U,U,U,U,U,U,U,U,U,U,U,U,U,U,U,U,U,U,U,U,U,U,U,U,U,U,U,U,U,strs (y::r),.v (ii (((y::r).map fun s=>[GV.v (sv s)]).length:Int)),.v (ii (k:Nat)),U,U,U,U,U,U,U,U,U]/\acc=x++gj ((y::r).take k)/\Γ=[.box 187 [.loc 0 0,.v (.slice a acc.length c)],.vech 5 1 (bI acc) (.slice a acc.length c)]) ?_ ?_ ?_ ?_ ?_
   ·rw [show 0+x.length=x.length from eo _];subst hL;exact ⟨_,_,Wk.aX aw,x,a1,c1,rfl,by simp [gj],rfl⟩
   ·have:((y::r).map fun s=>[GV.v (sv s)]).length+1=l.length:=by rw [<-hL];simp
    omega
   ·rintro k _ _ ⟨acc,a,c,rfl,_,rfl⟩;exact gU
   ·rintro k _ _ ar ⟨acc,a,c,rfl,jH,rfl⟩
    have ar:k < (y::r).length:=by simpa using ar
    have gE:(y::r)[k]?=some (y::r)[k]:=by simp [ar]
    have y7:((y::r).map fun s=>[GV.v (sv s)])[k]?=some [.v (sv (y::r)[k])]:=by rw [bP,gE];rfl
    have eP:x++gj ((y::r).take (k+1))=(acc++[44,32])++(y::r)[k]:=by
     rw [eK,gE,Lf,<-fF,<-jH,fF]
     congr 1
     exact SN _
    have Lu:=key k;have yZ:=key (k+1);rw [eP] at yZ;rw [<-jH] at Lu;simp only [aJ,length_cons,length_nil] at yZ;generalize (y::r)[k]=z at *
    have U4:(bI acc).length=acc.length:=by simp [bI]
    refine ab ?_;refine dW [0,1] (rT [44,32] acc.length a c (bI acc) U4 (by simp only [length_cons,length_nil];omega)) ?_;rintro _ _ ⟨⟨u1,rfl⟩,a2,c2,rfl⟩;refine gg ?_;rw [show bI acc++[[GV.v (.int .u8 ((44:UInt8).toNat:Int))],[GV.v (.int .u8 ((32:UInt8).toNat:Int))]]=bI (acc++[44,32]) by simp [bI],show acc.length+([44,32]:ae).length=(acc++[44,32]).length by simp];refine ab ?_;refine dW [0,1] (rT z (acc++[44,32]).length a2 c2 (bI (acc++[44,32])) (by simp [bI]) ze8) ?_;rintro _ _ ⟨⟨u2,rfl⟩,a3,c3,rfl⟩;refine gg ?_
    have ez:List.length (acc++[44,32])+List.length z=List.length ((acc++[44,32])++z):=by simp only [aJ]
    rw [<-tU,ez];refine ab ?_;exact ⟨rfl,rfl,_,_,Wk.aX aw,(acc++[44,32])++z,a3,c3,rfl,eP.symm,rfl⟩
   ·rintro _ _ ⟨acc,a,c,rfl,jH,rfl⟩
    have hj:bp l=acc:=by
     rw [jH,<-hL,show ((y::r).map fun s=>[GV.v (sv s)]).length=(y::r).length by simp,iZ];rfl
    rw [hj] at hb hlen |-
    have bZ:acc≠[]:=by
     intro h0;rw [h0] at hlen;simp at hlen
    have XJ:=Nr acc a c bZ X;refine ab ?_;refine V [0,1] XJ ?_;exact ao
open Go.Xp (Nd T)
open Go.Sp (Src)
open Go.Im (nU qA tr lh)
mutual
def tT:T->GV
 | .mk n l=>.box [.v (ii n.kind),.v (ii n.at_),.v (ii n.n),.v (sv n.s),ints n.kids,.sl 1 (cj l)] 0
def cj:List T->List (List GV)
 | []=>[]
 | t::r=>[tT t]::cj r
end
abbrev uT (t:T):GV:=.box [.v (ii t.n.kind),.v (ii t.n.at_),.v (ii t.n.n),.v (sv t.n.s),ints t.n.kids,.sl 1 (cj t.kids)] 0
theorem VH (t:T):tT t=uT t:=by cases t;rw [tT];rfl
theorem ir (l:List T):cj l=l.map fun t=>[uT t]:=by
 induction l with
 | nil=>rfl
 | cons t l ih=>rw [cj,ih,VH];rfl
theorem qW (l:List T):(cj l).length=l.length:=by rw [ir];simp
theorem ID (l:List T) (t:T):cj (l++[t])=cj l++[[uT t]]:=by rw [ir,ir];simp
theorem vB {l:List T} {i:Nat} {t:T} (h:l[i]?=some t):(cj l)[i]?=some [uT t]:=by rw [ir,bP,h];rfl
def Z5:Option (T × Nat)->GV
 | none=>.tup [U,U,.v (.bool false)]
 | some (t,e)=>.tup [uT t,.v (ii (e:Nat)),.v (.bool true)]
theorem Ga (nodes:List Nd) (hl:nodes.length<=1099511627776) (hk:∀ n∈nodes,n.kids.length<=1099511627776):∀ (f a:Nat),nodes.length - a+1<=f->a<=1099511627776 ->
  GF prog 79 [.sl 5 (nodes.map aO),.v (ii (a:Nat))] [] (Z5 (nU nodes f a)) []:=by
 intro f
 induction f with
 | zero=>intro a h;omega
 | succ f ih =>
 intro a hf ha;rw [nU]
 cases hn:nodes[a]? with
 | none =>
  have hO:nodes.length<=a:=nZ hn
  have hd:decide (((nodes.map aO).length:Int)<=(a:Int))=true:=by simpa using hO
  refine aj func79 ntmps79 ?_;exact zcG
 | some n =>
  have ar:=(bh hn).1
  have hd:decide (((nodes.map aO).length:Int)<=(a:Int))=false:=by simpa using ar
  have hr:(nodes.map aO)[a]?=some (aO n):=by rw [bP,hn];rfl
  have Zd:=hk n (bM hn);simp only;generalize hR:qA (nU nodes f) n.kids (a+1) []=R;refine aj func79 ntmps79 ?_;refine GW.wk (Wk.JJ (i:=0) (o:=5) 79 1 rfl rfl) ?_
  refine GW.range (n.kids.map fun i=>[GV.v (ii i)]).length (fun k fr Γ=>∃ next acc m rows,fr=[.sl 5 (nodes.map aO),.v (ii (a:Nat)),U,U,U,U,U,.loc 0 0,.v (ii (next:Nat)),U,U,U,U,U,U,U,U,U,U,U,U,U,U,U,U,U,U,U,U,U,ints n.kids,.v (ii ((n.kids.map fun i=>[GV.v (ii i)]).length:Int)),.v (ii (k:Nat)),U,U,U,U,U,U,U,U,U,U,U,U,U,U,U,U,U,U,U,U,U,U,U,U,U,U,U,U,U,U,U,U,U,U,U] /\
   Γ=[.box 125 [.v (ii n.kind),.v (ii n.at_),.v (ii n.n),.v (sv n.s),ints n.kids,.vec 1 m],.vec 79 1 0 rows]/\rows.length=m/\rows=cj acc/\m=k/\a+1<=next/\next<=nodes.length/\qA (nU nodes f) (n.kids.drop k) next acc=R) ?_ (by simpa using Zd) ?_ ?_ ?_
  ·exact ⟨_,_,Wk.aX aw,a+1,[],0,[],rfl,rfl,rfl,rfl,rfl,aD _,ar,hR⟩
  ·rintro k _ _ ⟨next,acc,m,rows,rfl,rfl,_⟩;exact gU
  ·rintro k _ _ kA ⟨next,acc,m,rows,rfl,rfl,hm,bn,sY,xq,Db,h⟩
   have kA:k < n.kids.length:=by simpa using kA
   have gE:n.kids[k]?=some n.kids[k]:=by simp [kA]
   have y7:(n.kids.map fun i=>[GV.v (ii i)])[k]?=some [.v (ii n.kids[k])]:=by rw [bP,gE];rfl
   rw [o8 kA,qA] at h;generalize n.kids[k]=z at *
   by_cases hz:z=(next:Int)
   ·rw [ah hz] at h;subst hz
    have LN:((next:Int) != (next:Int))=false:=by simp
    have xo:=ih next X X
    cases hq:nU nodes f next with
    | none =>
     rw [hq] at h xo;subst h;refine ab ?_;refine V [] xo ?_;exact zcG
    | some x =>
     obtain ⟨t,e⟩:=x;rw [hq] at h xo;simp only at h
     obtain ⟨s1,s2,_,_⟩:=Go.Im.Ac f next t e hq
     refine ab ?_;refine V [] xo ?_;refine zdI ?_;exact ⟨rfl,rfl,_,_,Wk.aX aw,e,acc++[t],_,_,rfl,rfl,by simp [hm],by rw [ID,bn],by omega,by omega,s2,h⟩
   ·rw [ad hz] at h;subst h
    have LN:(z != (next:Int))=true:=by simpa using hz
    refine ab ?_;exact zcG
  ·rintro _ _ ⟨next,acc,m,rows,rfl,rfl,hm,bn,sY,xq,Db,h⟩;rw [show n.kids.drop (n.kids.map fun i=>[GV.v (ii i)]).length=[] by simp,qA] at h;subst h;simp only;subst bn;refine bo ?_;refine GW.wk (Wk.yA (i:=0) (o:=5) (j:=1) rfl rfl rfl rfl hm) ?_
   by_cases h0:n.at_ < 0
   ·rw [ah h0]
    have rA:decide ((0:Int)<=n.at_)=false:=by simpa using h0
    refine zdd ?_;exact zcG
   ·rw [ad h0]
    have rA:decide ((0:Int)<=n.at_)=true:=by simpa using h0
    refine zdd ?_;refine yF ?_;exact zag
def w9 (nodes:List Nd):Option (List T × Nat)->GV
 | none=>.tup [U,.v (.bool false)]
 | some (l,e)=>.tup [.sl 1 (cj l),.v (.bool ((e:Int)==(nodes.length:Int)))]
theorem qC (p:Src) (hl:p.nodes.length<=1099511627776) (hk:∀ n∈p.nodes,n.kids.length<=1099511627776) (hf:p.fns.length<=1099511627776) :
  GF prog 87 [.agg (aL p)] [] (w9 p.nodes (lh p.nodes p.fns 0 [])) []:=by
 generalize hR:lh p.nodes p.fns 0 []=R;refine aj func87 ntmps87 ?_;refine GW.wk (Wk.Ch (t:=4) (a:=none) (c:=0) 79 1 rfl) ?_
 refine GW.range (p.fns.map br).length (fun k fr Γ=>∃ next acc m rows,fr=[U,.loc 0 0,U,U,.vec 1 m,.v (ii (next:Nat)),U,U,U,U,U,U,.sl 3 (p.fns.map br),.v (ii ((p.fns.map br).length:Int)),.v (ii (k:Nat)),U,U,U,U,U,U,U,U,U,U,U,U,U,U,U,U,U,U,U,U,U,U,U,U,U,U,U,U,U,U,U] /\
  Γ=[.box 28 (aL p),.vec 79 1 0 rows]/\rows.length=m/\rows=cj acc/\m=k/\next<=p.nodes.length/\lh p.nodes (p.fns.drop k) next acc=R) ?_ (by simpa using hf) ?_ ?_ ?_
 ·exact ⟨_,_,Wk.aX aw,0,[],0,[],rfl,rfl,rfl,rfl,rfl,aY _,hR⟩
 ·rintro k _ _ ⟨next,acc,m,rows,rfl,rfl,_⟩;exact gU
 ·rintro k _ _ kA ⟨next,acc,m,rows,rfl,rfl,hm,bn,sY,Db,h⟩
  have kA:k < p.fns.length:=by simpa using kA
  have gE:p.fns[k]?=some p.fns[k]:=by simp [kA]
  have y7:(p.fns.map br)[k]?=some (br p.fns[k]):=by rw [bP,gE];rfl
  rw [o8 kA,lh] at h;generalize p.fns[k]=fn at *
  have LG:=Ga p.nodes hl hk (p.nodes.length+1) next X X
  unfold tr at h
  cases hq:nU p.nodes (p.nodes.length+1) next with
  | none =>
   rw [hq] at h LG;subst h;refine ab ?_;refine V [] LG ?_;refine Gg ?_;exact zaK
  | some x =>
   obtain ⟨t,e⟩:=x;rw [hq] at h LG;simp only at h
   obtain ⟨s1,s2,_,_⟩:=Go.Im.Ac _ next t e hq
   by_cases hb:fn.body=(next:Int)
   ·rw [ah hb] at h
    have bA:(fn.body != (next:Int))=false:=by simpa using hb
    refine ab ?_;refine V [] LG ?_;refine zdI ?_;exact ⟨rfl,rfl,_,_,(Wk.cut (n:=2) (aY _) rfl).trans (Wk.aX aw),e,acc++[t],_,_,rfl,rfl,by simp [hm],by rw [ID,bn],by omega,s2,h⟩
   ·rw [ad hb] at h;subst h
    have bA:(fn.body != (next:Int))=true:=by simpa using hb
    refine ab ?_;refine V [] LG ?_;refine Gg ?_;exact zaK
 ·rintro _ _ ⟨next,acc,m,rows,rfl,rfl,hm,bn,sY,Db,h⟩;rw [show p.fns.drop (p.fns.map br).length=[] by simp,lh] at h;subst h;subst bn;refine bo ?_;refine GW.wk (Wk.kG (t:=4) rfl rfl rfl hm) ?_
  have Ze:p.nodes.length=(p.nodes.map aO).length:=by simp
  unfold w9;rw [Ze];refine ab ?_;refine aS (aC 0 8 .nil) ?_;refine aq ?_;exact Ad
open Go.Sp
structure PX where
 a:Value
 b:Value
 c:Value
 d:Value
 e:Value
abbrev b7 (p:RS) (x:PX):Ob:=.box 135 [eI p.l,.v (ii p.i),.v (ii p.e),.v (ii p.code),.v (ii p.at_),.v x.a,.v x.b,.v x.c,.v x.d,.v x.e]
theorem ri (p:RS) (k:Nat) (x:PX) (hp:p.ok) (hk:k<=1):GF prog 201 [.loc 0 0,.v (ii (k:Nat))] [b7 p x] (.agg (cH (Go.Im.tok p k))) [b7 p x]:=by
 obtain ⟨jY,dR⟩:=hp;unfold Go.Im.tok
 cases ht:p.l[p.i+k]? with
 | some t =>
  have hr:=jS ht;have ar:p.i+k < p.l.length:=(bh ht).1
  have hd:decide (((p.l.map cH).length:Int)<=((p.i+k:Nat):Int))=false:=by simpa using by omega
  refine aj func201 ntmps201 ?_;refine aS (aC 0 12 .nil) ?_;refine bF ?_;refine aS (aC 0 12 (.a 12 .nil)) ?_;refine aq ?_;exact ph
 | none =>
  have ar:p.l.length<=p.i+k:=nZ ht
  have hd:decide (((p.l.map cH).length:Int)<=((p.i+k:Nat):Int))=true:=by simpa using by omega
  refine aj func201 ntmps201 ?_;refine aS (aC 0 12 .nil) ?_;refine aq ?_;exact ph
theorem Ex (p:RS) (c a:Int) (x:PX):GF prog 256 [.loc 0 0,.v (ii c),.v (ii a)] [b7 p x] (.tup []) [b7 (p.fail c a) x]:=by
 unfold RS.fail
 by_cases h:p.code=0
 ·have h':(p.code==0)=true:=by simpa using h
  rw [ah h];refine aj func256 ntmps256 ?_;exact tM
 ·have h':(p.code==0)=false:=by simpa using h
  rw [ad h];refine aj func256 ntmps256 ?_;exact tM
theorem yH (p:RS) (x:PX) (hp:p.ok):GF prog 202 [.loc 0 0] [b7 p x] (.tup []) [b7 (Go.Im.kx p) x]:=by
 have ht:=ri p 0 x hp aE;unfold Go.Im.kx;generalize Go.Im.tok p 0=t at *;have hf:=Ex p 7 t.at_ x;refine aj func202 ntmps202 ?_;refine zdj ?_;refine V [0] hf ?_;exact tM
theorem vY (p:RS) (d:Nat) (x:PX) (hp:p.ok):GF prog 258 [.loc 0 0,.v (ii (d:Nat))] [b7 p x] (.v (.bool ((Go.Im.b9 p d).code==0))) [b7 (Go.Im.b9 p d) x]:=by
 have ht:=ri p 0 x hp aE;unfold Go.Im.b9;generalize Go.Im.tok p 0=t at *
 by_cases h:d > 60
 ·have h':decide ((60:Int) < (d:Int))=true:=by simpa using by omega
  rw [ah h];have hf:=Ex p 9 t.at_ x;generalize p.fail 9 t.at_=q at *;refine aj func258 ntmps258 ?_;refine zdj ?_;refine V [0] hf ?_;exact ao
 ·have h':decide ((60:Int) < (d:Int))=false:=by simpa using by omega
  rw [ad h];refine aj func258 ntmps258 ?_;exact ao
theorem kg (p:RS) (k:Nat) (s:ae) (x:PX) (hp:p.ok) (hk:k<=1):GF prog 199 [.loc 0 0,.v (ii (k:Nat)),.v (sv s)] [b7 p x] (.v (.bool (Go.Im.is p k s))) [b7 p x]:=by
 have ht:=ri p k x hp hk;unfold Go.Im.is;generalize Go.Im.tok p k=t at *
 cases h:(t.kind==3) with
 | true =>
  rw [Bool.true_and];refine aj func199 ntmps199 ?_;refine zdj ?_;exact ao
 | false =>
  rw [Bool.false_and];refine aj func199 ntmps199 ?_;refine zdj ?_;exact ao
theorem qO (p:RS) (x:PX) (hp:p.ok):GF prog 200 [.loc 0 0] [b7 p x] (.v (sv (Go.Im.tok p 0).s)) [b7 (Go.Im.bx p) x]:=by
 have ht:=ri p 0 x hp aE;have hw:=yH p x hp;have LB:=hp.2;have Dd:=hp.1;unfold Go.Im.bx;generalize Go.Im.tok p 0=t at *;have hf:=Ex p 8 t.at_ x
 by_cases hc:p.code=0
 ·have de:(p.code != 0)=false:=by simpa using hc
  rw [ah hc]
  by_cases I:t.kind=2
  ·have qt:(t.kind != 2)=false:=by simpa using I
   rw [ah I]
   by_cases hl:t.s.length > 12
   ·have jA:decide ((12:Int) < (t.s.length:Int))=true:=by simpa using by omega
    rw [ah hl];refine aj func200 ntmps200 ?_;refine zdj ?_;refine V [0] hf ?_;exact ao
   ·have jA:decide ((12:Int) < (t.s.length:Int))=false:=by simpa using by omega
    rw [ad hl];refine aj func200 ntmps200 ?_;refine zdj ?_;exact ao
  ·have qt:(t.kind != 2)=true:=by simpa using I
   rw [ad I];refine aj func200 ntmps200 ?_;refine zdj ?_;refine V [0] hw ?_;exact ao
 ·have de:(p.code != 0)=true:=by simpa using hc
  rw [ad hc];refine aj func200 ntmps200 ?_;refine zdj ?_;exact ao
theorem eO (p:RS) (s:ae) (x:PX) (hp:p.ok):GF prog 203 [.loc 0 0,.sl 1 [[.v (sv s)]]] [b7 p x] (.tup []) [b7 (Go.Im.want p s) x]:=by
 have hi:=kg p 0 s x hp aE;have hw:=yH p x hp;have LB:=hp.2;have Dd:=hp.1;unfold Go.Im.want;generalize Go.Im.kx p=q at *;have hr:([[GV.v (sv s)]]:List (List GV))[0]?=some [.v (sv s)]:=rfl;refine aj func203 ntmps203 ?_
 by_cases hc:p.code=0
 ·have de:(p.code != 0)=false:=by simpa using hc
  rw [ah hc]
  cases h:Go.Im.is p 0 s with
  | true =>
   rw [h] at hi;rw [ah rfl];refine GW.range 1 (fun k fr Γ=>fr=[.loc 0 0,U,U,U,U,U,.sl 1 [[.v (sv s)]],.v (ii ((1:Nat):Int)),.v (ii (k:Nat)),U,U,U,U,U,U,U,U,U,U,U,U,U,U,U,U,U,U,U,U,U,U]/\((k=0/\Γ=[b7 p x])\/(1<=k/\Γ=[b7 p.next x]))) ?_ aE ?_ ?_ ?_
   ·exact ⟨_,_,Wk.aX aw,rfl,.inl ⟨rfl,rfl⟩⟩
   ·rintro k _ _ ⟨rfl,_⟩;exact gU
   ·rintro k _ _ hk ⟨rfl,⟨rfl,rfl⟩ | ⟨D,_⟩⟩
    ·refine zbr ?_;exact ⟨rfl,rfl,_,_,Wk.aX aw,rfl,.inr ⟨aD _,rfl⟩⟩
    ·omega
   ·rintro _ _ ⟨rfl,⟨D,_⟩ | ⟨_,rfl⟩⟩
    ·cases D
    ·exact Gf
  | false =>
   rw [h] at hi;rw [ad aE];refine GW.range 1 (fun k fr Γ=>fr=[.loc 0 0,U,U,U,U,U,.sl 1 [[.v (sv s)]],.v (ii ((1:Nat):Int)),.v (ii (k:Nat)),U,U,U,U,U,U,U,U,U,U,U,U,U,U,U,U,U,U,U,U,U,U]/\k=0/\Γ=[b7 p x]) ?_ aE ?_ ?_ ?_
   ·exact qn
   ·rintro k _ _ ⟨rfl,_⟩;exact gU
   ·rintro k _ _ hk ⟨rfl,rfl,rfl⟩;refine zbr ?_;refine V [0] hw ?_;exact tM
   ·rintro _ _ ⟨rfl,D,_⟩;cases D
 ·have de:(p.code != 0)=true:=by simpa using hc
  rw [ad hc];refine GW.range 1 (fun k fr Γ=>fr=[.loc 0 0,U,U,U,U,U,.sl 1 [[.v (sv s)]],.v (ii ((1:Nat):Int)),.v (ii (k:Nat)),U,U,U,U,U,U,U,U,U,U,U,U,U,U,U,U,U,U,U,U,U,U]/\k=0/\Γ=[b7 p x]) ?_ aE ?_ ?_ ?_
  ·exact qn
  ·rintro k _ _ ⟨rfl,_⟩;exact gU
  ·rintro k _ _ hk ⟨rfl,rfl,rfl⟩;exact Gf
  ·rintro _ _ ⟨rfl,D,_⟩;cases D
open Go.Xp (T one levels)
mutual
def pT:T->GV
 | .mk n l=>.box [.v (ii n.kind),.v (ii n.at_),.v (ii n.n),.v (sv n.s),.v (.slice none 0 0),.sl 1 (kE l)] 0
def kE:List T->List (List GV)
 | []=>[]
 | t::r=>[pT t]::kE r
end
abbrev qT (t:T):GV:=.box [.v (ii t.n.kind),.v (ii t.n.at_),.v (ii t.n.n),.v (sv t.n.s),.v (.slice none 0 0),.sl 1 (kE t.kids)] 0
theorem Vy (t:T):pT t=qT t:=by cases t;rw [pT];rfl
theorem gI (l:List T):kE l=l.map fun t=>[qT t]:=by
 induction l with
 | nil=>rfl
 | cons t l ih=>rw [kE,ih,Vy];rfl
theorem mW (l:List T):(kE l).length=l.length:=by rw [gI];simp
theorem vo (l:List T) (t:T):kE (l++[t])=kE l++[[qT t]]:=by rw [gI,gI];simp
theorem Bb {l:List T} {i:Nat} {t:T} (h:l[i]?=some t):(kE l)[i]?=some [qT t]:=by rw [gI,bP,h];rfl
theorem Mf (k a:Int) (s:ae) (rows:List (List GV)):GF prog 257 [.v (ii k),.v (ii a),.v (sv s),.sl 1 rows] [] (.loc 0 0) [.box 125 [.v (ii k),.v (ii a),.v (ii 0),.v (sv s),.v (.slice none 0 0),.sl 1 rows]]:=by
 refine aj func257 ntmps257 ?_;refine GW.wk (Wk.cells 0 rfl (ds:=[.v (ii k),.v (ii a),.v (ii 0),.v (sv s),.v (.slice none 0 0),.sl 1 rows]) fT) ?_;refine GW.ret ?_;refine BW (n:=1) rfl ik rfl (aY _) rfl rfl ?_;exact zag
theorem eB (k a:Int) (s:ae) (l:List T) (rows:List (List GV)) (h:kE l=rows):GF prog 257 [.v (ii k),.v (ii a),.v (sv s),.sl 1 rows] [] (qT (one k a s l)) []:=by
 subst h;refine aj func257 ntmps257 ?_;refine GW.wk (Wk.cells 0 rfl (ds:=[.v (ii k),.v (ii a),.v (ii 0),.v (sv s),.v (.slice none 0 0),.sl 1 (kE l)]) fT) ?_;refine GW.wk (Wk.freeze (i:=0) rfl rfl rfl (aY _)) ?_;exact ao
theorem tu:GF prog 189 [] [] (.sl 1 (levels.map fun l=>[strs l])) []:=by
 refine aj func189 ntmps189 ?_
 iterate 10 (refine cm ?_)
 exact av
end Go.Xg
namespace Go.Xg
open Go.RowKit Go.Xw Go.Proofs Tryz
open GV (U)
open Go.Xp (levels eV)
open Go.Im (mx rG)
attribute [local irreducible] GW GL GO YG GC GA bu bs
theorem decDigits_eq (n:Nat):Go.Lib.decDigits n=eV n:=by
 induction n using Nat.strongRecOn with
 | _ n ih =>
  unfold Go.Lib.decDigits eV;split
  ·rfl
  ·rw [ih (n / 10) X]
theorem Q9 (n:Int):Go.Lib.itoa n=mx n:=by
 unfold Go.Lib.itoa mx;rw [decDigits_eq,decDigits_eq]
theorem D2 (n:Int) (h0 : -9223372036854775808<=n) (D:n<=9223372036854775807):GF prog 135 [.v (ii n)] [] (.v (sv (mx n))) []:=by
 refine GF.H9 (vs:=[ii n]) fun K β w ht hf=>?_
 obtain ⟨E,z,pZ⟩:=sN.all ht hf ht.pow (zs:=vq.map fun z=>Value.int .u64 z) aE (fun m o x hx=>by
  rw [bP] at hx;unfold w5;rw [ad aE,ah rfl]
  cases hs:vq[o]? with
  | none=>rw [hs] at hx;cases hx
  | some y=>rw [hs] at hx;cases hx;rfl)
 have zL:Go.Lib.TabIs prog w "internal/strconv.uint64pow10" .u64 Go.Lib.pow10Tab:=by
  unfold Go.Lib.TabIs World.var?;rw [show prog.globalNamed "internal/strconv.uint64pow10" = some 1 by kernel_rfl,show Go.Lib.pow10Tab=vq by decide];simp only [Option.bind_some,pZ]
 refine nh.xI (Calls.mono (strconv_Itoa n h0 D w zL) ?_);rintro e w' ⟨I,k,os,h3⟩;refine ⟨_,I,by rw [Q9];rfl,?_⟩;subst h3;refine ⟨rfl,rfl,rfl,by simp [Go.Sort.grow,World.drewN],fun j hj _=>?_⟩;simp only [Go.Sort.grow,World.drewN];rw [Array.getElem?_append_left hj]
theorem OT (l:List ae) (s:ae) (hl:l.length<=1099511627776):GF prog 190 [strs l,.box [.v (sv s)] 0] [] (.v (.bool (l.contains s))) []:=by
 have h:=vN l s hl;generalize l.contains s=b at *;refine aj func190 ntmps190 ?_;exact zbT
def B5 (ls:List (List ae)) (s:ae):Int:=match ls.findIdx? (fun l=>l.contains s) with | some i=>(i:Int) | none => -1
theorem Gu (ls:List (List ae)) (s:ae) (hn:ls.length<=1099511627776) (hl:∀ l∈ls,l.length<=1099511627776) :
  GF prog 188 [.sl 1 (ls.map fun l=>[strs l]),.fn (.func 190) [] [.box [.v (sv s)] 0]] [] (.v (ii (B5 ls s))) []:=by
 have qv:(ls.map fun l=>[strs l]).length=ls.length:=by simp
 refine aj func188 ntmps188 ?_;refine GW.range (ls.map fun l=>[strs l]).length (fun k fr Γ=>fr=[.sl 1 (ls.map fun l=>[strs l]),.fn (.func 190) [] [.box [.v (sv s)] 0],U,U,U,U,U,.v (ii ((ls.map fun l=>[strs l]).length:Int)),.v (ii (k:Nat)),U,U,U,U,U,U,U,U,U,U]/\Γ=[]/\(ls.take k).all (fun l=>!(l.contains s))=true) ?_ X ?_ ?_ ?_
 ·exact qn
 ·exact nc
 ·rintro k _ _ ar ⟨rfl,rfl,cp⟩;rw [qv] at ar
  have gE:ls[k]?=some ls[k]:=by simp [ar]
  have hr:(ls.map fun l=>[strs l])[k]?=some [strs ls[k]]:=by rw [bP,gE];rfl
  have hc:=OT ls[k] s (hl _ (getElem_mem ar))
  have eP:(ls.take (k+1)).all (fun l=>!(l.contains s))=((ls.take k).all (fun l=>!(l.contains s))&&!(ls[k].contains s)):=by rw [eK,gE,List.all_append];simp
  have Lp:ls[k].contains s=true->B5 ls s=(k:Int):=fun h0=>by
   have:ls.findIdx? (fun l=>l.contains s)=some k:=by
    rw [List.findIdx?_eq_some_iff_getElem];refine ⟨ar,h0,fun j hj=>?_⟩;rw [fV] at cp;have:=cp ls[j] ze2;exact zcb
   unfold B5;rw [this]
  generalize ls[k]=l at *
  cases hb:l.contains s with
  | true =>
   rw [hb] at hc;rw [Lp hb];refine ab ?_;refine wP [] hc ?_;exact av
  | false =>
   rw [hb] at hc eP;refine ab ?_;refine wP [] hc ?_;exact zds
 ·rintro _ _ ⟨rfl,rfl,cp⟩;rw [qv,iZ] at cp
  have:ls.findIdx? (fun l=>l.contains s)=none:=by
   rw [List.findIdx?_eq_none_iff];intro x hx;rw [fV] at cp;simpa using cp x hx
  unfold B5;rw [this];exact av
theorem Dm (s:ae):GF prog 138 [.v (sv s)] [] (.v (ii (rG s))) []:=by
 have D:=tu;have I:=Gu levels s aE aE;rw [show rG s=B5 levels s from rfl];generalize B5 levels s=z at *;generalize levels=ls at *;refine aj func138 ntmps138 ?_;refine GL.wk (Wk.freeze (i:=0) rfl rfl rfl (aD _)) ?_;refine GN (by simp only [rW,qH];rfl) ?_;refine V [] D ?_;refine V [] I ?_;exact ao
open Go.Xp (T bp aQ aB)
open Go.Im (uN mz cM fS uk gw eY nO oY gq dp)
theorem L5 (t:T) (z:Int):GF prog 139 [uT t,.v (ii z)] [] (.v (.bool (mz t z))) []:=by
 have h:=Dm t.n.s;unfold mz
 cases hk:(t.n.kind==6) with
 | true =>
  generalize rG t.n.s=y at *;refine aj func139 ntmps139 ?_;exact zbT
 | false =>
  refine aj func139 ntmps139 ?_;exact ao
theorem uv (t:T) (b:Bool) (x:ae) (hx:x.length<=1099511627776) (h:GF prog 80 [uT t] [] (.v (sv x)) []) :
  GF prog 137 [uT t,.v (.bool b)] [] (.v (sv (uN b x))) []:=by
 unfold uN
 cases b with
 | true =>
  refine aj func137 ntmps137 ?_;exact zbT
 | false =>
  refine aj func137 ntmps137 ?_;exact zbT
theorem Fs (ex:FuncId) [hf:ba prog ex] (tx:T->ae) (l:List T) (h:∀ t∈l,GF prog ex [uT t] [] (.v (sv (tx t))) []) (hj:(bp (l.map tx)).length<=1099511627776) (hl:l.length<=1099511627776) :
  GF prog 136 [.sl 1 (cj l),.v (.func (.func ex) #[] #[])] [] (.v (sv (bp (l.map tx)))) []:=by
 have kC:=qW l;have hJ:=Kj (l.map tx) hj zeQ;refine aj func136 ntmps136 ?_;refine GW.wk (Wk.Ch (t:=5) (a:=none) (c:=0) 9 1 rfl) ?_;refine GW.range (cj l).length (fun k fr Γ=>∃ m rows,fr=[.sl 1 (cj l),.v (.func (.func ex) #[] #[]),U,U,U,.vec 0 m,U,U,.sl 1 (cj l),.v (ii ((cj l).length:Int)),.v (ii (k:Nat)),U,U,U,U,U,U,U,U,U,U,U,U]/\Γ=[.vec 9 1 0 rows]/\rows.length=m/\rows=((l.take k).map tx).map (fun s=>[GV.v (sv s)])/\m=k) ?_ X ?_ ?_ ?_
 ·exact ⟨_,_,Wk.aX aw,0,[],rfl,rfl,rfl,rfl,rfl⟩
 ·rintro k _ _ ⟨m,rows,rfl,rfl,_⟩;exact gU
 ·rintro k _ _ ar ⟨m,rows,rfl,rfl,hm,bn,sY⟩;rw [kC] at ar
  have gE:l[k]?=some l[k]:=by simp [ar]
  have hr:=vB gE;have ht:=h l[k] (getElem_mem ar)
  have eP:((l.take (k+1)).map tx).map (fun s=>[GV.v (sv s)])=rows++[[.v (sv (tx l[k]))]]:=by rw [eK,gE,bn,lI,lI];rfl
  generalize l[k]=t at *;refine ab ?_;refine kp [] ht ?_;refine ab ?_;exact zcl
 ·rintro _ _ ⟨m,rows,rfl,rfl,hm,bn,sY⟩;rw [kC,iZ] at bn;refine bo ?_;refine GW.wk (Wk.kG (t:=5) rfl rfl rfl hm) ?_;subst bn;refine ab ?_;refine V [] hJ ?_;exact ao
theorem Ql {t:T} (h:dp t.n.kind t.kids.length=true) (hk:t.n.kind=3\/t.n.kind=5):∃ a,t.kids=[a]:=by
 have:t.kids.length=1:=by
  unfold dp at h
  exact zd8
 match hl:t.kids,this with
 | [a],_=>exact ⟨a,rfl⟩
theorem Qm {t:T} (h:dp t.n.kind t.kids.length=true) (hk:t.n.kind=6):∃ a b,t.kids=[a,b]:=by
 have:t.kids.length=2:=by
  unfold dp at h;rw [hk] at h;simp at h;omega
 match hl:t.kids,this with
 | [a,b],_=>exact ⟨a,b,rfl⟩
theorem CO:∀ (N:Nat) (t:T),aQ t<=N->gq t=true->nO t->gw t<=1099511627776->GF prog 80 [uT t] [] (.v (sv (cM t))) []:=by
 intro N
 induction N with
 | zero=>intro t h;exact zdz
 | succ N ih =>
 intro t hN hk hn hw;have hlen:=Go.Im.sJ _ t (aD _) hn;rw [Go.Xp.eg] at hN;rw [Go.Im.vh,au,Go.Im.qJ,fV] at hk;rw [Go.Im.l6] at hn
 have gy:∀ a∈t.kids,GF prog 80 [uT a] [] (.v (sv (cM a))) []/\(cM a).length<=1099511627776:=fun a ha=>by
  have D:=Go.Im.q5 ha;rw [Go.Im.jC] at hw;have h3:=Go.Im.eC hn.2 ha
  have I:aQ a<=aB t.kids:=by
   have:∀ (l:List T),a∈l->aQ a<=aB l:=by
    intro l
    induction l with
    | nil=>intro h;cases h
    | cons b l lD =>
     intro h;rw [aB]
     rcases ew h with rfl | h
     ·omega
     ·have:=lD h;omega
   exact this _ ha
  have h4:=Go.Im.sJ _ a (aD _) h3;exact ⟨ih a X (hk.2 a ha) h3 X,by omega⟩
 rw [Go.Im.MN] at hlen |-;unfold uk at hlen |-;have r9:=hk.1;have Lv:=@Ql t r9;have Oj:=@Qm t r9;have HL:=D2 t.n.n hn.1.1 hn.1.2;have P1:=Dm t.n.s
 have kA:t.kids.length<=1099511627776:=by
  have:=Go.Im.Fk t.kids;exact zez
 have sj:=fun hj=>Fs 80 cM t.kids (fun a ha=>(gy a ha).1) hj kA
 rw [<-Go.Im.CN] at sj
 have zc:t.n.s.length<=1099511627776:=by rw [Go.Im.jC] at hw;omega
 have AK:(bp (fS t.kids)).length<=1099511627776:=by
  have D:=Go.Im.nI (fS t.kids)
  have I:((fS t.kids).map fun y=>y.length+2).sum<=eY t.kids:=by
   have:∀ (l:List T),oY l->((fS l).map fun y=>y.length+2).sum<=eY l:=by
    intro l
    induction l with
    | nil=>intro _;simp [fS]
    | cons a l lD =>
     intro h;rw [oY] at h;have D:=Go.Im.sJ _ a (aD _) h.1;have I:=lD h.2;rw [fS,eY,List.map_cons,sum_cons];omega
   exact this _ hn.2
  exact zez
 have sj:=sj AK;clear AK;unfold uT;generalize PY:t.n.kind=kd at *
 by_cases D:kd=1
 ·subst D
  have cI:((1:Int)==1)=true:=by decide
  rw [ah rfl];refine aj func80 ntmps80 ?_;refine V [] HL ?_;exact ao
 rw [ad D] at hlen |-
 have g1:(kd==1)=false:=by simpa using D
 by_cases h3:kd=3
 ·subst h3
  have cI:((3:Int)==1)=false:=by decide
  have ln:((3:Int)==3)=true:=by decide
  rw [ah rfl] at hlen |-;obtain ⟨a,ha⟩:=Lv (.inl rfl);rw [ha] at gy hlen |-;obtain ⟨c1,c2⟩:=gy a (List.mem_singleton.2 rfl)
  have hr:(cj [a])[0]?=some [uT a]:=by rw [ir];rfl
  simp only [fS,getD_cons_zero] at hlen |-;generalize cj [a]=rows at *;generalize cM a=x at *;refine aj func80 ntmps80 ?_;exact zbm
 rw [ad h3] at hlen |-
 have g3:(kd==3)=false:=by simpa using h3
 by_cases h4:kd=4
 ·subst h4
  have cI:((4:Int)==1)=false:=by decide
  have ln:((4:Int)==3)=false:=by decide
  have f4:((4:Int)==4)=true:=by decide
  rw [ah rfl] at hlen |-;generalize cj t.kids=rows at *;generalize bp (fS t.kids)=x at *;simp only [aJ,length_cons,length_nil] at hlen;refine aj func80 ntmps80 ?_;exact zcI
 rw [ad h4] at hlen |-
 have g4:(kd==4)=false:=by simpa using h4
 by_cases h5:kd=5
 ·subst h5
  have cI:((5:Int)==1)=false:=by decide
  have ln:((5:Int)==3)=false:=by decide
  have f4:((5:Int)==4)=false:=by decide
  have f5:((5:Int)==5)=true:=by decide
  rw [ah rfl] at hlen |-;obtain ⟨a,ha⟩:=Lv (.inr rfl);rw [ha] at gy hlen |-;obtain ⟨c1,c2⟩:=gy a (List.mem_singleton.2 rfl)
  have hr:(cj [a])[0]?=some [uT a]:=by rw [ir];rfl
  simp only [fS,getD_cons_zero] at hlen |-;have S3:=uv a (a.n.kind==6) (cM a) c2 c1;have gD:=Go.Im.yb (a.n.kind==6) (cM a);generalize cj [a]=rows at *;generalize LL:uN (a.n.kind==6) (cM a)=x at *;refine aj func80 ntmps80 ?_;refine aS (aC 0 23 (.a 23 (.q 24 (.q 25 .nil)))) ?_;refine aq ?_;refine ax [] S3 ?_;exact av
 rw [ad h5] at hlen |-
 have g5:(kd==5)=false:=by simpa using h5
 by_cases h6:kd=6
 ·subst h6
  have cI:((6:Int)==1)=false:=by decide
  have ln:((6:Int)==3)=false:=by decide
  have f4:((6:Int)==4)=false:=by decide
  have f5:((6:Int)==5)=false:=by decide
  have f6:((6:Int)==6)=true:=by decide
  rw [ah rfl] at hlen |-;obtain ⟨a,b,ha⟩:=Oj rfl;rw [ha] at gy hlen |-;obtain ⟨c1,c2⟩:=gy a (List.mem_cons_self);obtain ⟨d1,d2⟩:=gy b (di _ List.mem_cons_self)
  have hr:(cj [a,b])[0]?=some [uT a]:=by rw [ir];rfl
  have j0:(cj [a,b])[1]?=some [uT b]:=by rw [ir];rfl
  simp only [fS,getD_cons_zero,getD_cons_succ] at hlen |-
  have aar : -1<=rG t.n.s/\rG t.n.s<=9:=by
   unfold rG
   cases hf:levels.findIdx? (fun l=>l.contains t.n.s) with
   | none=>simp
   | some i =>
    rw [List.findIdx?_eq_some_iff_getElem] at hf;have:=hf.1
    have h9:levels.length=9:=by decide
    exact zdy
  generalize rG t.n.s=lv at *;have gX:=L5 a lv;have kP:=L5 b (lv+1);have S3:=uv a (mz a lv) (cM a) c2 c1;have Xi:=uv b (mz b (lv+1)) (cM b) d2 d1;generalize cj [a,b]=rows at *;generalize LL:uN (mz a lv) (cM a)=x at *;generalize Wu:uN (mz b (lv+1)) (cM b)=y at *;simp only [aJ,length_cons,length_nil] at hlen;refine aj func80 ntmps80 ?_;refine V [] P1 ?_;refine aS (aC 0 14 (aC 17 5 (aC 24 15 (.a 14 (.a 15 (.q 16 (.q 22 (.q 23 (.a 39 (.a 40 (.q 41 (.q 42 .nil)))))))))))) ?_;refine aq ?_;refine xX [] gX ?_;refine aq ?_;refine ax [] S3 ?_;refine xX [] kP ?_;refine aq ?_;refine ax [] Xi ?_;exact av
 rw [ad h6]
 have g6:(kd==6)=false:=by simpa using h6
 refine aj func80 ntmps80 ?_;exact ao
end Go.Xg
set_option maxHeartbeats 2000000
namespace Go.Xg
open Go.RowKit Go.Xw Go.Proofs Tryz Go.Im
open GV (U)
open Go.Xp (T)
attribute [local irreducible] GW GL GO YG GC GA bu bs
abbrev gW (f:FuncId):Value:=.func (.func f) #[] #[]
theorem E6 (l:List ae) (d:Nat) (hb:(dk l d).length<=1099511627776) (hl:l.length<=1099511627776):GF prog 119 [strs l,.v (ii (d:Nat))] [] (.v (sv (dk l d))) []:=by
 have qv:(l.map fun s=>[GV.v (sv s)]).length=l.length:=by simp
 have EI:=qD l [123,32];unfold dk at hb |-;rw [aJ,EI] at hb;refine aj func119 ntmps119 ?_;refine GW.range (l.map fun s=>[GV.v (sv s)]).length (fun k fr Γ=>fr=[strs l,U,U,U,U,.v (sv (rU [123,32] (l.take k))),U,U,strs l,.v (ii ((l.map fun s=>[GV.v (sv s)]).length:Int)),.v (ii (k:Nat)),U,U,U,U,U,U,U,U,U,U]/\Γ=[]) ?_ X ?_ ?_ ?_
 ·exact oF
 ·rintro k _ _ ⟨rfl,rfl⟩;exact gU
 ·rintro k _ _ ar ⟨rfl,rfl⟩;rw [qv] at ar
  have gE:l[k]?=some l[k]:=by simp [ar]
  have y7:(l.map fun s=>[GV.v (sv s)])[k]?=some [.v (sv l[k])]:=by rw [bP,gE];rfl
  have D:=qD (l.take (k+1)) [123,32];have I:=MH l (k+1)
  have hz:ko (l.take (k+1))=ko (l.take k)+(l[k].length+1):=by rw [eK,gE,F3];simp [ko]
  have h3:=qD (l.take k) [123,32];rw [show l.take (k+1)=l.take k++[l[k]] by rw [eK,gE];rfl,KC] at |-;generalize l[k]=z at *;generalize rU [123,32] (l.take k)=acc at *;simp only [length_cons,length_nil] at h3 hb
  have Xn:acc.length+z.length+3<=1099511627777:=by omega
  refine ab ?_;exact zbD
 ·rintro _ _ ⟨rfl,rfl⟩;rw [qv,iZ];generalize rU [123,32] l=acc at *;simp only [aJ,length_cons,length_nil] at EI hb;exact av
theorem Vk (ex bk:FuncId) [hf:ba prog ex] (tx:T->ae) (t a:T) (k:Nat) (hk:t.kids[k]?=some a) (h:GF prog ex [uT a] [] (.v (sv (tx a))) []) :
  GF prog 262 [.v (ii (k:Nat)),.box [.v (gW ex),.v (gW bk)] 0,.box [uT t] 0] [] (.v (sv (tx a))) []:=by
 have hr:=vB hk;generalize tx a=x at *;refine aj func262 ntmps262 ?_;refine aS (aC 0 9 (.a 9 (.q 10 .nil))) ?_;refine aq ?_;refine xX [] h ?_;exact zbG
open Go.Xp (aQ aB)
structure Wr (ex bk:FuncId) (tx:T->ae) (inl:List ae->Nat->ae):Prop where
 expr:∀ a,gq a=true->nO a->gw a<=1099511627776->GF prog ex [uT a] [] (.v (sv (tx a))) []
 block:∀ l (d:Nat),(inl l d).length<=1099511627776->l.length<=1099511627776->d<=1099511627776->GF prog bk [strs l,.v (ii (d:Nat))] [] (.v (sv (inl l d))) []
 mem:∀ l d s,s∈l->s.length<=(inl l d).length
theorem yQ (ex bk:FuncId) [he:ba prog ex] [hb:ba prog bk] (tx:T->ae) (inl:List ae->Nat->ae) (W:Wr ex bk tx inl) (t:T) (d:Nat) (hd:d+1<=1099511627776) (hl:t.kids.length<=1099511627776) (hlen:(iT tx inl d t).length<=1099511627776)
  (h:∀ a∈t.kids,(eb tx inl (d+1) a).length<=1099511627776->GF prog 208 [.agg [.v (gW ex),.v (gW bk)],uT a,.v (ii ((d+1:Nat):Int))] [] (.v (sv (eb tx inl (d+1) a))) []) :
  GF prog 148 [.agg [.v (gW ex),.v (gW bk)],uT t,.v (ii (d:Nat))] [] (.v (sv (iT tx inl d t))) []:=by
 have kC:=qW t.kids;rw [Eh,CE] at hlen |-;have et:=W.block (t.kids.map (eb tx inl (d+1))) d hlen zeQ X
 have hk:∀ a∈t.kids,GF prog 208 [.agg [.v (gW ex),.v (gW bk)],uT a,.v (ii ((d+1:Nat):Int))] [] (.v (sv (eb tx inl (d+1) a))) []:=fun a ha =>
  h a ha (gm (W.mem _ d _ (yJ.2 ⟨a,ha,rfl⟩)) hlen)
 generalize inl (t.kids.map (eb tx inl (d+1))) d=y at *;refine aj func148 ntmps148 ?_;refine GW.wk (Wk.Ch (t:=7) (a:=none) (c:=0) 9 1 rfl) ?_;refine GW.range (cj t.kids).length (fun k fr Γ=>∃ m rows,fr=[U,U,.v (ii (d:Nat)),.loc 0 0,U,U,U,.vec 1 m,U,U,U,U,U,.sl 1 (cj t.kids),.v (ii ((cj t.kids).length:Int)),.v (ii (k:Nat)),U,U,U,U,U,U,U,U,U,U,U,U,U,U,U,U,U]/\Γ=[.box 138 [.v (gW ex),.v (gW bk)],.vec 9 1 0 rows]/\rows.length=m/\rows=((t.kids.take k).map (eb tx inl (d+1))).map (fun s=>[GV.v (sv s)])/\m=k) ?_ X ?_ ?_ ?_
 ·exact ⟨_,_,Wk.aX aw,0,[],rfl,rfl,rfl,rfl,rfl⟩
 ·rintro k _ _ ⟨m,rows,rfl,rfl,_⟩;exact gU
 ·rintro k _ _ ar ⟨m,rows,rfl,rfl,hm,bn,sY⟩;rw [kC] at ar
  have gE:t.kids[k]?=some t.kids[k]:=by simp [ar]
  have hr:=vB gE;have ht:=hk t.kids[k] (getElem_mem ar)
  have eP:((t.kids.take (k+1)).map (eb tx inl (d+1))).map (fun s=>[GV.v (sv s)])=rows++[[.v (sv (eb tx inl (d+1) t.kids[k]))]]:=by rw [eK,gE,bn,lI,lI];rfl
  generalize t.kids[k]=kid at *;generalize eb tx inl (d+1) kid=z at *;refine ab ?_;refine V [] ht ?_;exact zcl
 ·rintro _ _ ⟨m,rows,rfl,rfl,hm,bn,sY⟩;rw [kC,iZ] at bn;refine bo ?_;refine GW.wk (Wk.kG (t:=7) rfl rfl rfl hm) ?_;subst bn;refine ab ?_;refine kp [] et ?_;exact av
theorem Vd {t:T} {n:Nat} (h:dp t.n.kind t.kids.length=true) (hk:(n=1/\(t.n.kind=13\/t.n.kind=7\/t.n.kind=11\/t.n.kind=12))\/(n=2/\(t.n.kind=8\/t.n.kind=10))):t.kids.length=n:=by
 unfold dp at h
 rcases hk with ⟨rfl,hk⟩ | ⟨rfl,hk⟩
 ·rcases hk with hk | hk | hk | hk <;> rw [hk] at h <;> simp at h <;> omega
 ·exact zd8
theorem TL {t:T} (h:dp t.n.kind t.kids.length=true) (hk:t.n.kind=9):t.kids.length=2\/t.kids.length=3:=by
 unfold dp at h;rw [hk] at h;simp at h;omega
theorem G5 (ex bk:FuncId) [he:ba prog ex] [hb:ba prog bk] (tx:T->ae) (inl:List ae->Nat->ae) (W:Wr ex bk tx inl):∀ (N:Nat) (t:T),aQ t<=N->gq t=true->nO t->gw t<=1099511627776->∀ d,d+aQ t<=1099511627776->(eb tx inl d t).length<=1099511627776 ->
  GF prog 208 [.agg [.v (gW ex),.v (gW bk)],uT t,.v (ii (d:Nat))] [] (.v (sv (eb tx inl d t))) []:=by
 intro N
 induction N with
 | zero=>intro t h;exact zdz
 | succ N ih =>
 intro t hN hk hn hw d hd hlen;have gz:=W.expr t hk hn hw;rw [Go.Xp.eg] at hN hd;rw [Go.Im.vh,au,Go.Im.qJ,fV] at hk;rw [Go.Im.l6] at hn;have hwe:=Go.Im.jC t
 have Jo:∀ (l:List T) (a:T),a∈l->aQ a<=aB l:=by
  intro l
  induction l with
  | nil=>intro a h;cases h
  | cons b l lD =>
   intro a h;rw [aB]
   rcases ew h with rfl | h
   ·omega
   ·have:=lD a h;omega
 have lp:=fun (k:Nat) (a:T) (lB:t.kids[k]?=some a)=>Vk ex bk tx t a k lB (W.expr a (hk.2 a (bM lB)) (Go.Im.eC hn.2 (bM lB)) (by have:=Go.Im.q5 (bM lB);omega))
 have et:∀ a∈t.kids,(iT tx inl d a).length<=1099511627776->GF prog 148 [.agg [.v (gW ex),.v (gW bk)],uT a,.v (ii (d:Nat))] [] (.v (sv (iT tx inl d a))) []:=fun a ha u6=>by
  have D:=Jo _ a ha;have I:=Go.Im.q5 ha;have h3:=hk.2 a ha;have h4:=Go.Im.eC hn.2 ha;rw [Go.Im.vh,au,Go.Im.qJ,fV] at h3;rw [Go.Im.l6] at h4;have h5:=Go.Xp.eg a;have h6:=Go.Xp.jK a.kids;have h7:=Go.Im.jC a
  refine yQ ex bk tx inl W a d X X u6 fun b dS Y9=>?_
  have h8:=Jo _ b dS;have h9:=Go.Im.q5 dS;exact ih b X (h3.2 b dS) (Go.Im.eC h4.2 dS) X (d+1) X Y9
 rw [F1] at hlen |-;unfold kX at hlen |-;rw [BN] at hlen |-;have r9:=@Vd t;have Xt:=@TL t hk.1
 have r9:=fun n=>@r9 n hk.1
 unfold uT at gz |-;unfold uT at lp;generalize PY:t.n.kind=kd at *
 by_cases lT:kd=13
 ·subst lT
  have f13:((13:Int)==13)=true:=by decide
  rw [ah rfl] at hlen |-;have gX:=r9 1 (.inl ⟨rfl,.inl rfl⟩)
  obtain ⟨a,ha⟩:∃ a,t.kids=[a]:=by
   match hl:t.kids,gX with
   | [a],_=>exact ⟨a,rfl⟩
  have h0:=lp 0 a zfd;rw [ha] at hlen |-;rw [ha] at h0;simp only [List.map_cons,map_nil,getD_cons_zero,aJ,length_cons,length_nil] at hlen |-;generalize tx a=x at *;generalize cj [a]=rows at *;refine fD func208 ntmps208 ?_;refine zaa ?_;refine zer ?_;refine nW [] h0 ?_;exact zbG
 rw [ad lT] at hlen |-
 have g13:(kd==13)=false:=by simpa using lT
 by_cases h7:kd=7
 ·subst h7
  have f13:((7:Int)==13)=false:=by decide
  have f7:((7:Int)==7)=true:=by decide
  rw [ah rfl] at hlen |-;have gX:=r9 1 (.inl ⟨rfl,.inr (.inl rfl)⟩)
  obtain ⟨a,ha⟩:∃ a,t.kids=[a]:=by
   match hl:t.kids,gX with
   | [a],_=>exact ⟨a,rfl⟩
  have h0:=lp 0 a zfd;rw [ha] at hlen |-;rw [ha] at h0;simp only [List.map_cons,map_nil,getD_cons_zero,aJ,length_cons,length_nil] at hlen |-;generalize tx a=x at *;generalize cj [a]=rows at *;refine fD func208 ntmps208 ?_;refine zaa ?_;refine aS (aC 0 7 (.a 7 (aC 8 3 .nil))) ?_;refine aq ?_;refine nW [] h0 ?_;exact zbG
 rw [ad h7] at hlen |-
 have g7:(kd==7)=false:=by simpa using h7
 by_cases h8:kd=8
 ·subst h8
  have f13:((8:Int)==13)=false:=by decide
  have f7:((8:Int)==7)=false:=by decide
  have f8:((8:Int)==8)=true:=by decide
  rw [ah rfl] at hlen |-;have gX:=r9 2 (.inr ⟨rfl,.inl rfl⟩)
  obtain ⟨a,b,ha⟩:∃ a b,t.kids=[a,b]:=by
   match hl:t.kids,gX with
   | [a,b],_=>exact ⟨a,b,rfl⟩
  have h0:=lp 0 a zfd;have D:=lp 1 b zfd;rw [ha] at hlen |-;rw [ha] at h0 D;simp only [List.map_cons,map_nil,getD_cons_zero,getD_cons_succ,aJ,length_cons,length_nil] at hlen |-;generalize tx a=x at *;generalize tx b=y at *;generalize cj [a,b]=rows at *;refine fD func208 ntmps208 ?_;refine zaa ?_;refine aS (aC 0 7 (.q 10 (.a 7 (.q 8 (.q 9 (.a 11 (aC 12 3 .nil))))))) ?_;refine aq ?_;refine nW [] h0 ?_;refine aq ?_;refine nW [] D ?_;exact zbG
 rw [ad h8] at hlen |-
 have g8:(kd==8)=false:=by simpa using h8
 by_cases h9:kd=9
 ·subst h9
  have f13:((9:Int)==13)=false:=by decide
  have f7:((9:Int)==7)=false:=by decide
  have f8:((9:Int)==8)=false:=by decide
  have f9:((9:Int)==9)=true:=by decide
  rw [ah rfl] at hlen |-
  rcases Xt rfl with gX | gX
  ·skip
   obtain ⟨a,b,ha⟩:∃ a b,t.kids=[a,b]:=by
    match hl:t.kids,gX with
    | [a,b],_=>exact ⟨a,b,rfl⟩
   have h0:=lp 0 a zfd
   have j0:(cj [a,b])[1]?=some [uT b]:=by rw [ir];rfl
   have EX:(cj [a,b]).length=2:=by rw [qW];rfl
   have zb:(((cj [a,b]).length:Int)==3)=false:=by rw [EX];decide
   rw [ha] at hlen |-;rw [ha] at h0;rw [ad zeL] at hlen |-;exact zal
  ·skip
   obtain ⟨a,b,c,ha⟩:∃ a b c,t.kids=[a,b,c]:=by
    match hl:t.kids,gX with
    | [a,b,c],_=>exact ⟨a,b,c,rfl⟩
   have h0:=lp 0 a zfd
   have j0:(cj [a,b,c])[1]?=some [uT b]:=by rw [ir];rfl
   have dT:(cj [a,b,c])[2]?=some [uT c]:=by rw [ir];rfl
   have EX:(cj [a,b,c]).length=3:=by rw [qW];rfl
   have zb:(((cj [a,b,c]).length:Int)==3)=true:=by rw [EX];decide
   rw [ha] at hlen |-;rw [ha] at h0;rw [ah zeL] at hlen |-;simp only [List.map_cons,map_nil,getD_cons_zero,getD_cons_succ,aJ,length_cons,length_nil] at hlen |-;have pA:=et b (by rw [ha];simp) X;have dS:=et c (by rw [ha];simp) X;generalize tx a=x at *;generalize iT tx inl d b=y at *;generalize iT tx inl d c=z at *;clear et lp ih;generalize cj [a,b,c]=rows at *;refine fD func208 ntmps208 ?_;refine zaa ?_;refine aS (.q 0 (aC 4 8 (.a 1 (.q 2 (.q 3 (.a 12 (.q 13 (.q 14 .nil)))))))) ?_;refine aq ?_;refine nW [] h0 ?_;refine aq ?_;refine ax [] pA ?_;refine ab ?_;refine aS (aC 0 9 (.a 9 (aC 10 3 .nil))) ?_;refine aq ?_;refine ax [] dS ?_;exact av
 rw [ad h9] at hlen |-
 have g9:(kd==9)=false:=by simpa using h9
 by_cases ly:kd=10
 ·subst ly
  have f13:((10:Int)==13)=false:=by decide
  have f7:((10:Int)==7)=false:=by decide
  have f8:((10:Int)==8)=false:=by decide
  have f9:((10:Int)==9)=false:=by decide
  have f10:((10:Int)==10)=true:=by decide
  rw [ah rfl] at hlen |-;have gX:=r9 2 (.inr ⟨rfl,.inr rfl⟩)
  ·skip
   obtain ⟨a,b,ha⟩:∃ a b,t.kids=[a,b]:=by
    match hl:t.kids,gX with
    | [a,b],_=>exact ⟨a,b,rfl⟩
   have h0:=lp 0 a zfd
   have j0:(cj [a,b])[1]?=some [uT b]:=by rw [ir];rfl
   have EX:(cj [a,b]).length=2:=by rw [qW];rfl
   have zb:(((cj [a,b]).length:Int)==3)=false:=by rw [EX];decide
   rw [ha] at hlen |-;rw [ha] at h0;exact zal
 rw [ad ly] at hlen |-
 have g10:(kd==10)=false:=by simpa using ly
 by_cases oL:kd=11
 ·subst oL
  have f13:((11:Int)==13)=false:=by decide
  have f7:((11:Int)==7)=false:=by decide
  have f8:((11:Int)==8)=false:=by decide
  have f9:((11:Int)==9)=false:=by decide
  have f10:((11:Int)==10)=false:=by decide
  have f11:((11:Int)==11)=true:=by decide
  rw [ah rfl] at hlen |-;have gX:=r9 1 (.inl ⟨rfl,.inr (.inr (.inl rfl))⟩)
  obtain ⟨a,ha⟩:∃ a,t.kids=[a]:=by
   match hl:t.kids,gX with
   | [a],_=>exact ⟨a,rfl⟩
  exact zaD
 rw [ad oL] at hlen |-
 have g11:(kd==11)=false:=by simpa using oL
 by_cases lS:kd=12
 ·subst lS
  have f13:((12:Int)==13)=false:=by decide
  have f7:((12:Int)==7)=false:=by decide
  have f8:((12:Int)==8)=false:=by decide
  have f9:((12:Int)==9)=false:=by decide
  have f10:((12:Int)==10)=false:=by decide
  have f11:((12:Int)==11)=false:=by decide
  have f12:((12:Int)==12)=true:=by decide
  rw [ah rfl] at hlen |-;have gX:=r9 1 (.inl ⟨rfl,.inr (.inr (.inr rfl))⟩)
  obtain ⟨a,ha⟩:∃ a,t.kids=[a]:=by
   match hl:t.kids,gX with
   | [a],_=>exact ⟨a,rfl⟩
  exact zaD
 rw [ad lS] at hlen |-
 have g12:(kd==12)=false:=by simpa using lS
 clear et lp ih;generalize tx t=x at *;refine fD func208 ntmps208 ?_;refine zaa ?_;refine kp [] gz ?_;exact av
end Go.Xg
