/- Part 7 of proofs that are told in their last texts. -/
import Derived.Test.YtfahcenafcklmaaGreatDoorQ4
import Derived.ProofKit
import Derived.Below
import Derived.ChangeSame
import Derived.Shelf.Strings.Builder1
import Derived.Shelf.Strings.Builder2
import Derived.Shelf.Small.Strs
import Derived.Shelf.Strings.BuilderF
import Derived.Shelf.Strconv.Itoa0
import Derived.Shelf.Strconv.Itoa1
import Derived.Shelf.LaysM
import Derived.Shelf.Strconv.Itoa2
import Derived.Shelf.Strconv.Itoa3
import Derived.Shelf.Strings.Search1
import Derived.Shelf.Strings.Search2
import Derived.Shelf.Strings.Search3
import Derived.Shelf.Strings.Count
import Derived.Shelf.Strings.Shaped
import Derived.Shelf.Sort.Plain
import Derived.Shelf.Strings.Prefix
import Derived.Shelf.Strings.Split
import Derived.Shelf.Strings.Fields
import Derived.Shelf.Strings.SplitShaped
import Derived.Shelf.Unicode.Latin
import Derived.Shelf.Bits.Mul64
import Derived.Shelf.Strings.Repeat
import Derived.Shelf.Unicode.Is16White
import Derived.Shelf.Unicode.IsSpaceAny
import Derived.Shelf.Unicode.Is16Any
import Derived.Shelf.Unicode.Is32Any
import Derived.Shelf.Unicode.ExclAny
import Derived.Ground.Names2Prog
import Derived.Shelf.Slices.CompactI
import Derived.Shelf.Slices.In.SortNone
import Derived.Test.YtfahcenafcklmaaGreatDoorProg
import Derived.Test.YtfahcenafcklmaaGreatDoorQ1
import Derived.Test.YtfahcenafcklmaaGreatDoorQ5
import Derived.Test.YtfahcenafcklmaaGreatDoorQ2
import Derived.Test.YtfahcenafcklmaaGreatDoorQ6
import Derived.Laws.StructEq
open List (all_append getD_cons_succ getD_cons_zero getElem?_mapIdx getElem_mem length_cons length_nil map_nil sum_cons)
set_option linter.unusedVariables false
set_option linter.unusedSimpArgs false
set_option maxRecDepth 100000
namespace Go
theorem zcS {A:Prop} (s:A:=by refine zaP ?_;refine GW.wk (Wk.Au (i:=1) (o:=5) rfl rfl rfl rfl hn) ?_;refine GW.wk (Wk.freeze (i:=1) rfl rfl rfl (c6 rfl)) ?_;exact al):A:=s
theorem zel {A B:Prop} (h:B) (s:PLift B->A:=by intro hQ;refine D ?_;refine aM (ax 0 11 .nil) ?_;refine bm ?_;rw [vi];refine GW.wk (Wk.freeze (i:=0) rfl rfl rfl (aI _)) ?_;exact hQ.1):A:=s ⟨h⟩
theorem zex {A:Prop} (s:A:=by refine GW.ret ?_;refine la (n:=1) rfl cB rfl (aS _) rfl rfl ?_;exact zah):A:=s
theorem zeT {A:Prop} (s:A:=by refine zaP ?_;refine GW.wk (Wk.jY (t:=4) rfl rfl rfl hn) ?_;exact al):A:=s
end Go
namespace Go.Xw
open Go.RowKit Go.WideShapes Go.ChangeShapes
section
variable {H:Type} {enc:TypeId × Value->H} {P:Program}
theorem vK {f:Func} {s:ChangeSpec} {apart fresh handsOn again:Bool} {W W':World} {args:Array Value} {v:Value} {ds gs:List (DataW H)} {before pa pv:List MemPlace}
  (hW:DataW.Whole enc P f.params.toList s.vars apart W args.toList ds gs before)
  (aaD:∀ (b:Nat) (sp:Nat->Bool) (hd:Bool),DataW.TrodAll enc P W' b sp hd f.resultTypes.toList (v.resultList f.resultTypes.size) (s.fn H (ds++gs)).results [])
  (zN:∀ sp:Nat->Bool,(∀ p∈before,sp p.block=true)->DataW.TrodAll enc P W' 0 sp true f.params.toList args.toList (s.fn H (ds++gs)).args pa)
  (Xh:∀ sp:Nat->Bool,(∀ p∈before,sp p.block=true)->DataW.TrodVars enc P W' sp s.vars (s.fn H (ds++gs)).vars pv)
  (Ho:before=pa++pv) (hb:Below W.heap.size W W')
  (fA:∀ (j:Nat) (t:TypeId) (r:Value),f.resultTypes[j]?=some t->(v.resultList f.resultTypes.size)[j]?=some r->Value.okWide P W' .any 0 t r) :
  s.post enc P f apart fresh handsOn again W args v W':=by
 have au:∀ p∈before,p.block < W.heap.size:=fun p hp=>hW.lt p hp
 have hold:∀ p∈before,(fun b=>decide (b < W.heap.size)) p.block=true:=fun p hp=>by simpa using au p hp
 refine ⟨ds,gs,before,[],pa,pv,hW,aaD _ _ _,zN _ hold,Xh _ hold,World.keptBut_mono (fun p hp=>⟨hp,?_⟩) (hb.frame (·∈before)),fun _=>?_⟩
 ·rw [Ho,List.mem_append] at hp;exact Or.inr hp
 ·obtain ⟨_,_,_,_,_,hz,hn⟩:=hW;refine ⟨fA,_,_,([]++pa)++pv,⟨[]++pa,pv,trodAll_append (zN _ (fun _ _=>rfl)) (aaD _ _ _),Xh _ (fun _ _=>rfl),rfl,?_,?_⟩,?_⟩
  ·intro b off hp
   have lR:MemPlace.cell b off∈before:=by rw [Ho];simpa using hp
   rw [hb.frozen (au _ lR)];exact hz b off lR
  ·intro ha;have:=hn ha;rw [Ho] at this;exact zcm
  ·intro p hp _;rw [Ho];simpa using hp
end
end Go.Xw
namespace Go.Proofs
open Go.Shelf
theorem dC {α:Type} {a:Option α} {b c:α} (h:a=some b) (k:b=c:=by kernel_rfl):a=some c:=h.trans (congrArg some k)
def Tryz.Da:Go.Shelf.Ren:=⟨fun | 165=>205 | 240=>260 | 241=>261 | 276=>293 | 277=>294 | n=>n,fun | 70=>185 | 3=>3 | 0=>0 | 4=>4 | 9=>9 | 20=>20 | 72=>187 | 37=>22 | 164=>246 | 5=>5 | n=>n,fun | n=>n⟩
theorem Tryz.YM:Go.Proofs.Lays.n165 Tryz.prog Tryz.Da:={
 mixed:=by kernel_rfl
 f165:=dC Tryz.func205
 f240:=dC Tryz.func260
 f241:=dC Tryz.func261
 f276:=dC Tryz.func293
 f277:=dC Tryz.func294
 t0:=Tryz.underlying0
 a0:=Tryz.isAgg0
 z0:=Tryz.sizeOf0
 v0:=Tryz.zeroValue0
 t3:=Tryz.underlying3
 a3:=Tryz.isAgg3
 z3:=Tryz.sizeOf3
 v3:=Tryz.zeroValue3
 t4:=Tryz.underlying4
 a4:=Tryz.isAgg4
 z4:=Tryz.sizeOf4
 v4:=Tryz.zeroValue4
 t9:=Tryz.underlying9
 a9:=Tryz.isAgg9
 z9:=Tryz.sizeOf9
 v9:=Tryz.zeroValue9
 t20:=Tryz.underlying20
 a20:=Tryz.isAgg20
 z20:=Tryz.sizeOf20
 v20:=Tryz.zeroValue20
 t37:=Tryz.underlying22
 a37:=Tryz.isAgg22
 z37:=Tryz.sizeOf22
 v37:=Tryz.zeroValue22
 t70:=Tryz.underlying185
 a70:=Tryz.isAgg185
 z70:=Tryz.sizeOf185
 v70:=Tryz.zeroValue185
 t72:=Tryz.underlying187
 a72:=Tryz.isAgg187
 z72:=Tryz.sizeOf187
 v72:=Tryz.zeroValue187
 t164:=Tryz.underlying246
 a164:=Tryz.isAgg246
 z164:=Tryz.sizeOf246
 v164:=Tryz.zeroValue246 }
theorem Tryz.CK:Builder.Extra Tryz.prog Tryz.Da:={
 sizeBuilder:=by kernel_rfl
 liesBuilder:=by kernel_rfl
 t5:=Tryz.underlying5
 a5:=Tryz.isAgg5
 z5:=Tryz.sizeOf5
 v5:=Tryz.zeroValue5
 infoByte:=by kernel_rfl
 cellsByte:=by kernel_rfl
 sizeByte:=by kernel_rfl
 neB5:=by decide }
open Go.RowKit in
theorem Tryz.Builder_Grow_fresh (B b n:Nat) (w:World) (hB:B<=b) (eN:w.heap[b]?=some (.cells #[.pointer none,.slice none 0 0] 187 (0,0))) (hBw:B<=w.heap.size) (hn:n<=281474976710656) :
  Calls Tryz.prog 205 #[.pointer (some ⟨b,0,none⟩),.int .i64 n] w fun e w'=>e=.returned (.tuple #[])/\(Lib.BuilderAt 187 5 B b (.pointer (some ⟨b,0,none⟩)) [] w'/\Below B w w'):=Any.Builder_Grow_fresh Tryz.YM Tryz.CK B b n w hB eN hBw hn
def Tryz.L6:Go.Shelf.Ren:=⟨fun | 137=>179 | 217=>235 | 266=>280 | n=>n,fun | 9=>9 | 5=>5 | 3=>3 | n=>n,fun | n=>n⟩
theorem Tryz.YK:Go.Proofs.Lays.n137 Tryz.prog Tryz.L6:={
 mixed:=by kernel_rfl
 f137:=dC Tryz.func179
 f217:=dC Tryz.func235
 f266:=dC Tryz.func280
 t3:=Tryz.underlying3
 a3:=Tryz.isAgg3
 z3:=Tryz.sizeOf3
 v3:=Tryz.zeroValue3
 t5:=Tryz.underlying5
 a5:=Tryz.isAgg5
 z5:=Tryz.sizeOf5
 v5:=Tryz.zeroValue5
 t9:=Tryz.underlying9
 a9:=Tryz.isAgg9
 z9:=Tryz.sizeOf9
 v9:=Tryz.zeroValue9 }
open Go.RowKit in
theorem Tryz.strings_IndexByte (s:ByteArray) (c:Int) (w:World) :
  Calls Tryz.prog 179 #[.string s,.int .u8 c] w fun e w'=>e=.returned (.int .i64 (Lib.indexByte s.data.toList c.toNat.toUInt8))/\w'=w:=Any.strings_IndexByte Tryz.YK s c w
def Tryz.Kb:Go.Shelf.Ren:=⟨fun | 171=>135 | 243=>187 | 246=>248 | 283=>282 | 284=>283 | 285=>284 | 286=>285 | 129=>230 | 317=>298 | 318=>299 | 319=>300 | 320=>301 | 337=>306 | 338=>307 | n=>n,fun | 3=>3 | 9=>9 | 2=>2 | 4=>4 | 171=>240 | 0=>0 | 53=>214 | 37=>22 | 5=>5 | 173=>242 | 212=>254 | 51=>212 | 20=>20 | 213=>255 | 46=>157 | 232=>265 | 233=>266 | n=>n,fun | 17=>1 | 18=>4 | 19=>5 | n=>n⟩
theorem Tryz.Vw:Go.Proofs.LaysM.n171 Tryz.prog Tryz.Kb:={
 mixed:=by kernel_rfl
 f129:=dC Tryz.func230
 f171:=dC Tryz.func135
 f243:=dC Tryz.func187
 f246:=dC Tryz.func248
 f283:=dC Tryz.func282
 f284:=dC Tryz.func283
 f285:=dC Tryz.func284
 f286:=dC Tryz.func285
 f317:=dC Tryz.func298
 f318:=dC Tryz.func299
 f319:=dC Tryz.func300
 f320:=dC Tryz.func301
 f337:=dC Tryz.func306
 f338:=dC Tryz.func307
 t0:=Tryz.underlying0
 a0:=Tryz.isAgg0
 z0:=Tryz.sizeOf0
 v0:=Tryz.zeroValue0
 t2:=Tryz.underlying2
 a2:=Tryz.isAgg2
 z2:=Tryz.sizeOf2
 v2:=Tryz.zeroValue2
 t3:=Tryz.underlying3
 a3:=Tryz.isAgg3
 z3:=Tryz.sizeOf3
 v3:=Tryz.zeroValue3
 t4:=Tryz.underlying4
 a4:=Tryz.isAgg4
 z4:=Tryz.sizeOf4
 v4:=Tryz.zeroValue4
 t5:=Tryz.underlying5
 a5:=Tryz.isAgg5
 z5:=Tryz.sizeOf5
 v5:=Tryz.zeroValue5
 t9:=Tryz.underlying9
 a9:=Tryz.isAgg9
 z9:=Tryz.sizeOf9
 v9:=Tryz.zeroValue9
 t20:=Tryz.underlying20
 a20:=Tryz.isAgg20
 z20:=Tryz.sizeOf20
 v20:=Tryz.zeroValue20
 t37:=Tryz.underlying22
 a37:=Tryz.isAgg22
 z37:=Tryz.sizeOf22
 v37:=Tryz.zeroValue22
 t46:=Tryz.underlying157
 a46:=Tryz.isAgg157
 z46:=Tryz.sizeOf157
 v46:=Tryz.zeroValue157
 t51:=Tryz.underlying212
 a51:=Tryz.isAgg212
 z51:=Tryz.sizeOf212
 v51:=Tryz.zeroValue212
 t53:=Tryz.underlying214
 a53:=Tryz.isAgg214
 z53:=Tryz.sizeOf214
 v53:=Tryz.zeroValue214
 t171:=Tryz.underlying240
 a171:=Tryz.isAgg240
 z171:=Tryz.sizeOf240
 v171:=Tryz.zeroValue240
 t173:=Tryz.underlying242
 a173:=Tryz.isAgg242
 z173:=Tryz.sizeOf242
 v173:=Tryz.zeroValue242
 t212:=Tryz.underlying254
 a212:=Tryz.isAgg254
 z212:=Tryz.sizeOf254
 v212:=Tryz.zeroValue254
 t213:=Tryz.underlying255
 a213:=Tryz.isAgg255
 z213:=Tryz.sizeOf255
 t232:=Tryz.underlying265
 a232:=Tryz.isAgg265
 z232:=Tryz.sizeOf265
 v232:=Tryz.zeroValue265
 t233:=Tryz.underlying266
 a233:=Tryz.isAgg266
 z233:=Tryz.sizeOf266
 v233:=Tryz.zeroValue266
 g17:=by kernel_rfl
 g18:=by kernel_rfl
 g19:=by kernel_rfl
 i0:=by kernel_rfl
 i2:=by kernel_rfl
 i3:=by kernel_rfl
 i4:=by kernel_rfl
 i5:=by kernel_rfl
 i9:=by kernel_rfl
 i20:=by kernel_rfl
 i37:=by kernel_rfl
 i46:=by kernel_rfl
 i51:=by kernel_rfl
 i53:=by kernel_rfl
 i171:=by kernel_rfl
 i173:=by kernel_rfl
 i212:=by kernel_rfl
 i232:=by kernel_rfl
 i233:=by kernel_rfl
 m17:=by kernel_rfl
 m18:=by kernel_rfl
 m19:=by kernel_rfl }
open Go.RowKit Go.Sort Go.Lib in
theorem Tryz.strconv_Itoa (n:Int) (h0 : -9223372036854775808<=n) (I:n<=9223372036854775807) (w:World) (DE:Lib.TabIs Tryz.prog w "internal/strconv.uint64pow10" .u64 Lib.pow10Tab) :
  Calls Tryz.prog 135 #[.int .i64 n] w fun e w'=>e=.returned (.string ⟨(Lib.itoa n).toArray⟩)/\∃ k os,w'=grow (w.drewN k) os:=Any.strconv_Itoa Tryz.Vw n h0 I w DE
def Tryz.L7:Go.Shelf.Ren:=⟨fun | 143=>156 | 219=>212 | 217=>235 | 225=>265 | 224=>266 | 267=>267 | 266=>280 | 314=>295 | n=>n,fun | 9=>9 | 3=>3 | 4=>4 | 5=>5 | 46=>157 | 146=>229 | 51=>212 | n=>n,fun | 1=>0 | n=>n⟩
theorem Tryz.YL:Go.Proofs.Lays.n143 Tryz.prog Tryz.L7:={
 mixed:=by kernel_rfl
 f143:=dC Tryz.func156
 f217:=dC Tryz.func235
 f219:=dC Tryz.func212
 f224:=dC Tryz.func266
 f225:=dC Tryz.func265
 f266:=dC Tryz.func280
 f267:=dC Tryz.func267
 f314:=dC Tryz.func295
 t3:=Tryz.underlying3
 a3:=Tryz.isAgg3
 z3:=Tryz.sizeOf3
 v3:=Tryz.zeroValue3
 t4:=Tryz.underlying4
 a4:=Tryz.isAgg4
 z4:=Tryz.sizeOf4
 v4:=Tryz.zeroValue4
 t5:=Tryz.underlying5
 a5:=Tryz.isAgg5
 z5:=Tryz.sizeOf5
 v5:=Tryz.zeroValue5
 t9:=Tryz.underlying9
 a9:=Tryz.isAgg9
 z9:=Tryz.sizeOf9
 v9:=Tryz.zeroValue9
 t46:=Tryz.underlying157
 a46:=Tryz.isAgg157
 z46:=Tryz.sizeOf157
 v46:=Tryz.zeroValue157
 t51:=Tryz.underlying212
 a51:=Tryz.isAgg212
 z51:=Tryz.sizeOf212
 v51:=Tryz.zeroValue212
 t146:=Tryz.underlying229
 a146:=Tryz.isAgg229
 z146:=Tryz.sizeOf229
 v146:=Tryz.zeroValue229
 g1:=by kernel_rfl }
open Go.RowKit Go.Lib in
theorem Tryz.strings_Index (s sub:ByteArray) (m:Int) (w:World) (hs:s.size < 4294967281) (hm:w.cell? ⟨0,0,none⟩=some (.int .i64 m)) :
  Calls Tryz.prog 156 #[.string s,.string sub] w fun e w'=>e=.returned (.int .i64 (Lib.index s.data.toList sub.data.toList))/\w'=w:=Any.strings_Index Tryz.YL s sub m w hs hm
def Tryz.L8:Go.Shelf.Ren:=⟨fun | 189=>110 | 125=>171 | 257=>170 | 128=>229 | 129=>230 | 294=>220 | 295=>221 | 296=>222 | 297=>223 | 298=>224 | 299=>225 | 216=>226 | 300=>227 | 301=>228 | 328=>274 | 329=>275 | 330=>276 | 331=>277 | 332=>278 | 215=>279 | 343=>296 | n=>n,fun | 28=>36 | 3=>3 | 46=>157 | 0=>0 | 51=>212 | 53=>214 | 4=>4 | 183=>204 | 182=>203 | 131=>209 | 5=>5 | 9=>9 | 218=>234 | 222=>238 | 228=>250 | 229=>33 | n=>n,fun | n=>n⟩
theorem Tryz.Nx:Go.Proofs.Lays.n189 Tryz.prog Tryz.L8:={
 mixed:=by kernel_rfl
 f125:=dC Tryz.func171
 f128:=dC Tryz.func229
 f129:=dC Tryz.func230
 f189:=dC Tryz.func110
 f215:=dC Tryz.func279
 f216:=dC Tryz.func226
 f257:=dC Tryz.func170
 f294:=dC Tryz.func220
 f295:=dC Tryz.func221
 f296:=dC Tryz.func222
 f297:=dC Tryz.func223
 f298:=dC Tryz.func224
 f299:=dC Tryz.func225
 f300:=dC Tryz.func227
 f301:=dC Tryz.func228
 f328:=dC Tryz.func274
 f329:=dC Tryz.func275
 f330:=dC Tryz.func276
 f331:=dC Tryz.func277
 f332:=dC Tryz.func278
 f343:=dC Tryz.func296
 t0:=Tryz.underlying0
 a0:=Tryz.isAgg0
 z0:=Tryz.sizeOf0
 v0:=Tryz.zeroValue0
 t3:=Tryz.underlying3
 a3:=Tryz.isAgg3
 z3:=Tryz.sizeOf3
 v3:=Tryz.zeroValue3
 t4:=Tryz.underlying4
 a4:=Tryz.isAgg4
 z4:=Tryz.sizeOf4
 v4:=Tryz.zeroValue4
 t5:=Tryz.underlying5
 a5:=Tryz.isAgg5
 z5:=Tryz.sizeOf5
 v5:=Tryz.zeroValue5
 t9:=Tryz.underlying9
 a9:=Tryz.isAgg9
 z9:=Tryz.sizeOf9
 v9:=Tryz.zeroValue9
 t28:=Tryz.underlying36
 a28:=Tryz.isAgg36
 z28:=Tryz.sizeOf36
 v28:=Tryz.zeroValue36
 t46:=Tryz.underlying157
 a46:=Tryz.isAgg157
 z46:=Tryz.sizeOf157
 v46:=Tryz.zeroValue157
 t51:=Tryz.underlying212
 a51:=Tryz.isAgg212
 z51:=Tryz.sizeOf212
 v51:=Tryz.zeroValue212
 t53:=Tryz.underlying214
 a53:=Tryz.isAgg214
 z53:=Tryz.sizeOf214
 v53:=Tryz.zeroValue214
 t131:=Tryz.underlying209
 a131:=Tryz.isAgg209
 z131:=Tryz.sizeOf209
 v131:=Tryz.zeroValue209
 t182:=Tryz.underlying203
 a182:=Tryz.isAgg203
 z182:=Tryz.sizeOf203
 v182:=Tryz.zeroValue203
 t183:=Tryz.underlying204
 a183:=Tryz.isAgg204
 z183:=Tryz.sizeOf204
 v183:=Tryz.zeroValue204
 t218:=Tryz.underlying234
 a218:=Tryz.isAgg234
 z218:=Tryz.sizeOf234
 v218:=Tryz.zeroValue234
 t222:=Tryz.underlying238
 a222:=Tryz.isAgg238
 z222:=Tryz.sizeOf238
 v222:=Tryz.zeroValue238
 t228:=Tryz.underlying250
 a228:=Tryz.isAgg250
 z228:=Tryz.sizeOf250
 v228:=Tryz.zeroValue250
 t229:=Tryz.underlying33
 a229:=Tryz.isAgg33
 z229:=Tryz.sizeOf33
 v229:=Tryz.zeroValue33 }
open Go.Sort Go.RowKit in
theorem Tryz.slices_Sort_int (blk off cap:Nat) (zs:List Int) (w:World) (hH:Holds (Value.int .i64) w blk off zs.toArray) (fu:blk < w.heap.size) (dj:zs.length < 4611686018427387904) :
  Calls Tryz.prog 110 #[.slice (some ⟨blk,off,none⟩) zs.length cap] w fun e w' =>
   e=.returned (.tuple #[])/\∃ n os,w'=grow (putRow (Value.int .i64) (Sort.ahead w n) blk off (zs.mergeSort fun x y=>decide (x<=y)).toArray) os:=Any.slices_Sort_int Tryz.Nx blk off cap zs w hH fu dj
def Tryz.Ka:Go.Shelf.Ren:=⟨fun | 157=>297 | 229=>304 | 199=>305 | 261=>310 | 311=>313 | 312=>314 | n=>n,fun | 9=>9 | 31=>23 | 3=>3 | 5=>5 | 4=>4 | 119=>257 | 0=>0 | 40=>259 | 152=>260 | 21=>21 | 154=>262 | 51=>212 | 141=>264 | 196=>272 | 193=>269 | 198=>275 | 49=>273 | 194=>270 | 201=>278 | 226=>281 | 46=>157 | 227=>282 | n=>n,fun | 0=>2 | 6=>3 | n=>n⟩
theorem Tryz.Vv:Go.Proofs.LaysM.n157 Tryz.prog Tryz.Ka:={
 mixed:=by kernel_rfl
 f157:=dC Tryz.func297
 f199:=dC Tryz.func305
 f229:=dC Tryz.func304
 f261:=dC Tryz.func310
 f311:=dC Tryz.func313
 f312:=dC Tryz.func314
 t0:=Tryz.underlying0
 a0:=Tryz.isAgg0
 z0:=Tryz.sizeOf0
 v0:=Tryz.zeroValue0
 t3:=Tryz.underlying3
 a3:=Tryz.isAgg3
 z3:=Tryz.sizeOf3
 v3:=Tryz.zeroValue3
 t4:=Tryz.underlying4
 a4:=Tryz.isAgg4
 z4:=Tryz.sizeOf4
 v4:=Tryz.zeroValue4
 t5:=Tryz.underlying5
 a5:=Tryz.isAgg5
 z5:=Tryz.sizeOf5
 v5:=Tryz.zeroValue5
 t9:=Tryz.underlying9
 a9:=Tryz.isAgg9
 z9:=Tryz.sizeOf9
 v9:=Tryz.zeroValue9
 t21:=Tryz.underlying21
 a21:=Tryz.isAgg21
 z21:=Tryz.sizeOf21
 v21:=Tryz.zeroValue21
 t31:=Tryz.underlying23
 a31:=Tryz.isAgg23
 z31:=Tryz.sizeOf23
 v31:=Tryz.zeroValue23
 t40:=Tryz.underlying259
 a40:=Tryz.isAgg259
 z40:=Tryz.sizeOf259
 v40:=Tryz.zeroValue259
 t46:=Tryz.underlying157
 a46:=Tryz.isAgg157
 z46:=Tryz.sizeOf157
 v46:=Tryz.zeroValue157
 t49:=Tryz.underlying273
 a49:=Tryz.isAgg273
 z49:=Tryz.sizeOf273
 v49:=Tryz.zeroValue273
 t51:=Tryz.underlying212
 a51:=Tryz.isAgg212
 z51:=Tryz.sizeOf212
 v51:=Tryz.zeroValue212
 t119:=Tryz.underlying257
 a119:=Tryz.isAgg257
 z119:=Tryz.sizeOf257
 t141:=Tryz.underlying264
 a141:=Tryz.isAgg264
 z141:=Tryz.sizeOf264
 v141:=Tryz.zeroValue264
 t152:=Tryz.underlying260
 a152:=Tryz.isAgg260
 z152:=Tryz.sizeOf260
 v152:=Tryz.zeroValue260
 t154:=Tryz.underlying262
 a154:=Tryz.isAgg262
 z154:=Tryz.sizeOf262
 v154:=Tryz.zeroValue262
 t193:=Tryz.underlying269
 a193:=Tryz.isAgg269
 z193:=Tryz.sizeOf269
 v193:=Tryz.zeroValue269
 t194:=Tryz.underlying270
 a194:=Tryz.isAgg270
 z194:=Tryz.sizeOf270
 v194:=Tryz.zeroValue270
 t196:=Tryz.underlying272
 a196:=Tryz.isAgg272
 z196:=Tryz.sizeOf272
 v196:=Tryz.zeroValue272
 t198:=Tryz.underlying275
 a198:=Tryz.isAgg275
 z198:=Tryz.sizeOf275
 v198:=Tryz.zeroValue275
 t201:=Tryz.underlying278
 a201:=Tryz.isAgg278
 z201:=Tryz.sizeOf278
 v201:=Tryz.zeroValue278
 t226:=Tryz.underlying281
 a226:=Tryz.isAgg281
 z226:=Tryz.sizeOf281
 v226:=Tryz.zeroValue281
 t227:=Tryz.underlying282
 a227:=Tryz.isAgg282
 z227:=Tryz.sizeOf282
 v227:=Tryz.zeroValue282
 g0:=by kernel_rfl
 g6:=by kernel_rfl
 i0:=by kernel_rfl
 i3:=by kernel_rfl
 i4:=by kernel_rfl
 i5:=by kernel_rfl
 i9:=by kernel_rfl
 i21:=by kernel_rfl
 i31:=by kernel_rfl
 i40:=by kernel_rfl
 i46:=by kernel_rfl
 i49:=by kernel_rfl
 i51:=by kernel_rfl
 i141:=by kernel_rfl
 i152:=by kernel_rfl
 i154:=by kernel_rfl
 i193:=by kernel_rfl
 i194:=by kernel_rfl
 i196:=by kernel_rfl
 i198:=by kernel_rfl
 i201:=by kernel_rfl
 i226:=by kernel_rfl
 i227:=by kernel_rfl
 m0:=by kernel_rfl
 m6:=by kernel_rfl }
open Go.RowKit Go.Lib in
theorem Tryz.strings_Fields_laid (s:ByteArray) (w:World) (hs:s.size < 4294967281) (aao:∀ (j:Nat) b,s.data.toList[j]?=some b->b.toNat < 128) (DE:Lib.TabIs Tryz.prog w "strings.asciiSpace" .u8 Lib.asciiSpaceTab) :
  Calls Tryz.prog 297 #[.string s] w fun e w' =>
   e=.returned (.slice (some ⟨w.heap.size,0,none⟩) (Lib.fields s.data.toList).length (Lib.fields s.data.toList).length)/\w'=w.alloc (.cells ((Lib.fields s.data.toList).map fun l=>Value.string ⟨l.toArray⟩).toArray 9):=Any.strings_Fields_laid Tryz.Vv s w hs aao DE
def Tryz.Ie:Go.Shelf.Ren:=⟨fun | 20=>111 | n=>n,fun | 22=>36 | 3=>3 | 4=>4 | 0=>0 | n=>n,fun | n=>n⟩
theorem Tryz.Hw:Go.Proofs.Lays2.n20 Tryz.prog Tryz.Ie:={
 mixed:=by kernel_rfl
 f20:=dC Tryz.func111
 t0:=Tryz.underlying0
 a0:=Tryz.isAgg0
 z0:=Tryz.sizeOf0
 v0:=Tryz.zeroValue0
 t3:=Tryz.underlying3
 a3:=Tryz.isAgg3
 z3:=Tryz.sizeOf3
 v3:=Tryz.zeroValue3
 t4:=Tryz.underlying4
 a4:=Tryz.isAgg4
 z4:=Tryz.sizeOf4
 v4:=Tryz.zeroValue4
 t22:=Tryz.underlying36
 a22:=Tryz.isAgg36
 z22:=Tryz.sizeOf36
 v22:=Tryz.zeroValue36
 i3:=by kernel_rfl }
open Go.RowKit Go.Lib Go.Sort in
theorem Tryz.slices_Compact_int (blk off cap:Nat) (zs:List Int) (w:World) (hH:Holds (Value.int .i64) w blk off zs.toArray) (dj:zs.length<=9223372036854775807) (aap:zs.length<=cap) :
  Calls Tryz.prog 111 #[.slice (some ⟨blk,off,none⟩) zs.length cap] w fun e w'=>e=.returned (.slice (some ⟨blk,off,none⟩) (Lib.compact zs).length cap)/\∃ q,w'=putRow (Value.int .i64) (Sort.ahead w q) blk off (Lib.compact zs++List.replicate (zs.length - (Lib.compact zs).length) 0).toArray:=Any.slices_Compact_int Tryz.Hw blk off cap zs w hH dj aap
open Go.RowKit Go.Lib Go.Sort in
theorem Tryz.slices_Compact_int_empty (a:Option Addr) (cap:Nat) (w:World) :
  Calls Tryz.prog 111 #[.slice a 0 cap] w fun e w'=>e=.returned (.slice a 0 cap)/\w'=w:=Any.slices_Compact_int_empty Tryz.Hw a cap w
open Go.RowKit Go.Sort in
theorem Tryz.slices_Sort_int_none (p:Option Addr) (cap:Nat) (w:World) :
  Calls Tryz.prog 110 #[.slice p 0 cap] w fun e w'=>e=.returned (.tuple #[])/\w'=w:=Any.slices_Sort_int_none Tryz.Nx p cap w
end Go.Proofs
set_option maxHeartbeats 1000000
namespace Go.Xg
open Go.RowKit Go.Xw Go.Proofs Tryz
attribute [local irreducible] GW GL GO YG GC GA aU aW
instance:GG prog 22 5:=GG.mk' (ak)
instance:Fx prog 185:=Fx.mk' (e:=187) (ak) (ak)
theorem LO (g:Value):GF prog 260 [.loc 0 0] [.box 187 [.loc 0 0,.v g]] (.tup []) [.box 187 [.loc 0 0,.v g]]:=by
 refine ai func260 ntmps260 ?_;exact iy
theorem vF (s:ae) (n:Nat) (a:Option Addr) (c:Nat) (rows:List (List GV)) (hn:rows.length=n) (hb:n+s.length<=140737488355328) :
  GC prog 206 [.loc 0 0,.v (sv s)] [.box 187 [.loc 0 0,.v (.slice a n c)],.vech 5 1 rows (.slice a n c)] (fun g aZ=>(∃ x,g=.tup [.v (ii s.length),x])/\∃ a c,aZ=[.box 187 [.loc 0 0,.v (.slice a (n+s.length) c)],.vech 5 1 (rows++bN s) (.slice a (n+s.length) c)]):=by
 subst hn;have h:=LO (.slice a rows.length c)
 cases s with
 | nil =>
  refine ai func206 ntmps206 ?_;refine V [0] h ?_;refine GL.abD 1 rfl rfl rfl zgu ?_;refine zaq ?_;refine CF ?_;exact ⟨⟨_,rfl⟩,a,c,by simp [bN]⟩
 | cons x r =>
  generalize hs:x::r=s at *
  have cj:s.isEmpty=false:=by rw [<-hs];rfl
  clear hs;refine ai func206 ntmps206 ?_;refine V [0] h ?_;refine GL.abE 1 rfl rfl rfl az aJ X ?_;intro a2 c2;refine zaq ?_;refine CF ?_;exact ⟨⟨_,rfl⟩,a2,c2,rfl⟩
theorem Us (str:ae) (a:Option Addr) (c:Nat) (h0:str≠[]) (hb:str.length<=140737488355328) :
  GF prog 207 [.loc 0 0] [.box 187 [.loc 0 0,.v (.slice a str.length c)],.vech 5 1 (bN str) (.slice a str.length c)] (.v (sv str)) [.box 187 [.loc 0 0,.v (.slice a str.length c)],.lost]:=by
 have hlen:(bN str).length=str.length:=by simp [bN]
 have hp:Nat.blt 0 str.length=true:=by simpa using List.length_pos_iff.2 h0
 have cj:str.isEmpty=false:=by cases str with | nil=>exact absurd rfl h0 | cons _ _=>rfl
 refine ai func207 ntmps207 ?_;refine aM (ax 0 10 (.a 10 (.q 11 .nil))) ?_;refine aj ?_;refine Qa ?_;exact zbU
end Go.Xg
namespace Go.Xg
open Go.RowKit Go.Xw Go.Proofs Tryz
open GV (U)
open Go.Xp (cM)
theorem pV.tg {P:Program} {f:FuncId} {vs:List Value} {w:World} {R:Value->World->Prop} (h:Calls P f vs.toArray w fun e w'=>∃ v,e=.returned v/\R v w'):pV P f vs w R:=h
theorem GW.builder {Q:eC} {fr:List GV} {r1 r2:Nat} {rest:Code} {t8 t56 t57 t5:Tmp} {T1 T2 T3 T4 T5:TypeId} {p1 p2 p3:String} {a1 a2 a3:Array Edge} (n:Nat)
  (h8:ly fr t8=true) (h56:ly fr t56=true) (cj:Nat.beq t8 t56=false) (ady:Nat.beq t5 t8=false) (hn:dc fr t5=.v (ii (n:Nat))) (hb:n<=281474976710656)
  (h:∀ a c,GW prog 0 rest Q (bX (bX (bX fr t8 (.loc 0 0)) t56 (.v (ii (n:Nat)))) t57 (.v (.tuple #[]))) [.box 187 [.loc 0 0,.v (.slice a 0 c)],.vech 5 1 [] (.slice a 0 c)]) :
  GW prog 0 (.seq (.region r1 [(⟨some t8,.alloc 187,T1,p1,a1,none⟩:Oper)].toArray false) (.seq (.region r2 [(⟨some t56,.move (.tmp t5),T2,p2,a2,none⟩:Oper),⟨some t57,.call ⟨.value (.func 205),[Operand.tmp t8,.tmp t56].toArray,#[T3,T4]⟩,T5,p3,a3,none⟩].toArray false) rest)) Q fr []:=fun B K β w l hm hI hF=>by
 have DD:t8≠t56:=by intro e;subst e;simp at cj
 have W7:t5≠t8:=by intro e;subst e;simp at ady
 have i8:=qh hF h8;have i56:=qh hF h56;refine W.seq (W.region (WL.alloc (t:=187) fun b w1 uk=>WL.nil ?_));refine W.seq (W.region (WL.v R.mv (WL.call (f:=205) (FB:=[.pointer (some ⟨b,0,none⟩),.int .i64 n]) ?_ (R:=fun x w2=>x=.tuple #[]/\(Lib.BuilderAt 187 5 b b (.pointer (some ⟨b,0,none⟩)) [] w2/\Below b w1 w2)) ?_ fun x w2 hx=>WL.nil ?_)))
 ·have hF1:FR K (fZ β 0 (.fix b)) (bX fr t8 (.loc 0 0)) (put l (some t8) (.pointer (some ⟨b,0,none⟩))) :=
   (hF.mono (df.refl K) (kq (i:=0) (x:=.fix b) (by rw [hI.out 0 (aI _)];trivial))).gJ t8 (.loc 0 0 b bI)
  have j56:ly (gJ l t8 (.pointer (some ⟨b,0,none⟩))) t56=true:=qh hF1 (t:=t56) (by rw [Nt];exact h56)
  have e5:nth (gJ l t8 (.pointer (some ⟨b,0,none⟩))) t5=.int .i64 n:=by
   rw [rz W7];exact Rel.eJ (by rw [<-hn];exact hF.nth t5)
  show [nth (gJ (gJ l t8 (.pointer (some ⟨b,0,none⟩))) t56 (nth (gJ l t8 (.pointer (some ⟨b,0,none⟩))) t5)) t8,nth (gJ (gJ l t8 (.pointer (some ⟨b,0,none⟩))) t56 (nth (gJ l t8 (.pointer (some ⟨b,0,none⟩))) t5)) t56]=_;rw [rz DD,wh i8,wh j56,e5]
 ·refine pV.tg (Calls.mono (Tryz.Builder_Grow_fresh b b n w1 (aI _) uk.blk (by have:=uk.size;omega) hb) ?_);rintro e w' ⟨I,G⟩;exact ⟨_,I,rfl,G⟩
 ·obtain ⟨rfl,⟨_,v,tI,gT,uh⟩,JJ⟩:=hx;have gT:jH w2 b 5 1 v 0 []:=gT;obtain ⟨a,c,rfl⟩:=gT.shape;have sS:=uk.fresh;have lf:Ext iI w w2:=⟨JJ.os.trans uk.ext.os,JJ.tape.trans uk.ext.tape,JJ.output.trans uk.ext.output,jV uk.ext.size JJ.size,fun k hk hs=>(JJ.block k X).trans (uk.ext.block k hk hs)⟩;have vj:=hI.same lf
  have cS:∀ i,β i=.no:=fun i=>hI.out i (aS _)
  have hKb:∀ o,K b o=none:=fun o=>by
   cases hk:K b o with
   | none=>rfl
   | some g=>have:=hI.fz.lt hk;omega
  have hw0:=hI.ext.size;have aen:=hI.tab.pow.lt;have lI:=hI.tab.spc.lt;have aaw:eg β (fZ β ([]:List Ob).length (.fix b)):=kq zgG
  have hI3:=vj.Wu (x:=.fix b) (y:=.box 187 [.loc 0 0,.v (.slice a 0 c)]) (fun b' bG=>by
   cases bG
   exact ⟨fun i hi=>(by rw [cS] at hi;cases hi),by omega,by omega,by omega⟩) (by
   refine ⟨b,[.pointer (some ⟨b,0,none⟩),.slice a 0 c],bI,tI,.cons (.loc 0 0 b bI) (.cons (.v _) .nil),hKb⟩) aaw
  have ED:jH w2 0 5 1 (.slice a 0 c) 0 []:=gT.base (aS _)
  have WU:∀ g,(Value.slice a 0 c).ownBlock=some g->b < g:=fun g hg=>by
   have I:=(gT.lt hg).1
   have G:g≠b:=fun e=>uh (by rw [hg,e])
   omega
  have vk:fZ β ([]:List Ob).length (.fix b) 1=.no:=by rw [bU aD];exact cS 1
  have DC:eg (fZ β ([]:List Ob).length (.fix b)) (fZ (fZ β ([]:List Ob).length (.fix b)) 1 (.gr (.slice a 0 c) 0)):=kq (by rw [vk];trivial)
  have hI4:=hI3.Wu (x:=.gr (.slice a 0 c) 0) (y:=.vech 5 1 [] (.slice a 0 c)) (fun g hg=>by
   have:=WU g hg;refine ⟨fun i hi=>?_,by omega,by omega,by omega⟩
   rcases mJ hi with I | I
   ·cases I;omega
   ·rw [cS] at I;cases I) (by
   refine ⟨[],bI,ED,bC.nil,(fun r hr=>by cases hr),fun g hg o=>?_⟩
   cases hk:K g o with
   | none=>rfl
   | some y=>have:=hI.fz.lt hk;have:=WU g hg;omega) DC
  refine h a c B K _ w2 _ hm hI4 ?_;have hF2:=(hF.mono (df.refl K) aaw).mono (df.refl K) DC;refine ((hF2.gJ t8 (.loc 0 0 b ?_)).gJ t56 ?_).gJ t57 (.v _)
  ·rw [bU aD];exact bI
  ·have e5:nth (gJ l t8 (.pointer (some ⟨b,0,none⟩))) t5=.int .i64 n:=by
    rw [rz W7];exact Rel.eJ (by rw [<-hn];exact hF.nth t5)
   rw [show ev (put l (some t8) (.pointer (some ⟨b,0,none⟩))) (.tmp t5)=.int .i64 n from e5];exact .v _
attribute [local irreducible] GW GL GO YG GC GA aU aW
theorem xA (a b:ae):bN (a++b)=bN a++bN b:=by simp [bN]
def qA (l:List ae):Nat:=(l.map List.length).sum
theorem Hs:∀ (r:List ae) (x:ae),(cM (x::r)).length=qA (x::r)+2 * r.length
 | [],x=>by simp [cM,qA]
 | y::r,x=>by
  have:=Hs r y;simp only [cM,qA,aL,List.map_cons,sum_cons,List.flatMap_cons,length_cons] at this |-;omega
def gj (l:List ae):ae:=l.flatMap fun y=>44::32::y
theorem RH (a b:List ae):gj (a++b)=gj a++gj b:=by unfold gj;rw [List.flatMap_append]
theorem Yx (l:List ae) (k:Nat):(gj (l.take k)).length<=(gj l).length:=by
 have:gj l=gj (l.take k)++gj (l.drop k):=by rw [<-RH,List.take_append_drop]
 rw [this,aL];omega
theorem aam (y:ae):gj [y]=[44,32]++y:=by simp [gj]
theorem Vk (x:ae) (r:List ae):cM (x::r)=x++gj r:=rfl
theorem Qq (l:List ae) (hb:(cM l).length<=1099511627776) (hl:l.length<=1099511627776):GF prog 147 [strs l,.v (sv [44,32])] [] (.v (sv (cM l))) []:=by
 match l,hb,hl with
 | [],hb,hl =>
  refine ai func147 ntmps147 ?_;exact al
 | [x],hb,hl =>
  have hr:([x].map fun s=>[GV.v (sv s)])[0]?=some [.v (sv x)]:=rfl
  have e:cM [x]=x:=by simp [cM]
  rw [e];refine ai func147 ntmps147 ?_;exact al
 | x::y::r,hb,hl =>
  have sU:((x::y::r).map fun s=>[GV.v (sv s)])[0]?=some [.v (sv x)]:=rfl;have hlen:=Hs (y::r) x
  have C6:x.length<=1099511627776:=by simp only [cM,aL] at hb;omega
  generalize hL:(x::y::r)=l at *
  have nz:2<=l.length:=by rw [<-hL];simp
  have dS:(l.map fun s=>[GV.v (sv s)]).length=l.length:=by simp
  have vk:Nat.blt 1 (l.map fun s=>[GV.v (sv s)]).length=true:=by rw [dS];simpa [Nat.blt] using nz
  have wV:(((l.map fun s=>[GV.v (sv s)]).length:Int)==0)=false:=by rw [dS];simp only [beq_eq_false_iff_ne,ne_eq];omega
  have yS:(((l.map fun s=>[GV.v (sv s)]).length:Int)==1)=false:=by rw [dS];simp only [beq_eq_false_iff_ne,ne_eq];omega
  have hq:decide ((9223372036854775807:Int) / (((l.map fun s=>[GV.v (sv s)]).length:Int) - 1)<=2)=false:=by
   rw [dS]
   have h3:(3:Int)<=9223372036854775807 / ((l.length:Int) - 1):=by
    rw [Int.le_ediv_iff_mul_le X];omega
   simp;omega
  refine ai func147 ntmps147 ?_;apply GL.q
  ·exact YG.mul (a:=2) (b:=((l.map fun s=>[GV.v (sv s)]).length:Int) - 1) rfl rfl X
  refine zaN ?_;refine GW.range (l.map fun s=>[GV.v (sv s)]).length (fun k fr Γ=>fr=[strs l,.v (sv [44,32]),U,U,U,.v (ii (0+2 * (((l.map fun s=>[GV.v (sv s)]).length:Int) - 1)+((qA (l.take k):Nat):Int))),U,U,U,U,U,U,U,U,U,U,U,U,U,U,U,U,U,U,U,U,U,U,U,U,U,U,U,U,U,U,U,U,U,strs l,.v (ii ((l.map fun s=>[GV.v (sv s)]).length:Int)),.v (ii (k:Nat)),U,U,U,U,U,U,U,U,U,U,U,U,U,U,U,U,U,U,U,U,U,U,U,U,U,U,U,U,U,U,U,U,U]/\Γ=[]) ?_ X ?_ ?_ ?_
  ·refine ⟨_,_,Wk.aH (cV:=[strs l,.v (sv [44,32]),U,U,U,.v (ii (0+2 * (((l.map fun s=>[GV.v (sv s)]).length:Int) - 1))),U,U,U,U,U,U,U,U,U,U,U,U,U,U,U,U,U,U,U,U,U,U,U,U,U,U,U,U,U,U,U,U,U,strs l,.v (ii ((l.map fun s=>[GV.v (sv s)]).length:Int)),.v (ii (0:Nat)),U,U,U,U,U,U,U,U,U,U,U,U,U,U,U,U,U,U,U,U,U,U,U,U,U,U,U,U,U,U,U,U,U]) ao,?_,rfl⟩;rw [List.take_zero,show ((qA []:Nat):Int)=0 from rfl,Int.add_zero]
  ·rintro k _ _ ⟨rfl,rfl⟩;exact dr
  ·rintro k _ _ au ⟨rfl,rfl⟩;rw [dS] at au
   have dE:l[k]?=some l[k]:=by simp [au]
   have wR:(l.map fun s=>[GV.v (sv s)])[k]?=some [.v (sv l[k])]:=by rw [bp,dE];rfl
   have hs:qA (l.take (k+1))=qA (l.take k)+l[k].length:=by unfold qA;rw [dk,dE,l9,List.sum_append];simp only [Option.toList,List.map_cons,map_nil,sum_cons,List.sum_nil,Nat.add_zero]
   have hle:qA (l.take (k+1))<=qA l:=by
    have:qA l=qA (l.take (k+1))+qA (l.drop (k+1)):=by
     unfold qA;rw [<-List.sum_append,<-l9,List.take_append_drop]
    omega
   generalize l[k]=z at *;rw [show (0+2 * (((l.map fun s=>[GV.v (sv s)]).length:Int) - 1)+((qA (l.take (k+1)):Nat):Int))=0+2 * (((l.map fun s=>[GV.v (sv s)]).length:Int) - 1)+((qA (l.take k):Nat):Int)+(z.length:Int) by rw [hs];omega]
   have hov:decide (9223372036854775807 - (0+2 * (((l.map fun s=>[GV.v (sv s)]).length:Int) - 1)+((qA (l.take k):Nat):Int)) < (z.length:Int))=false:=by
    simp only [decide_eq_false_iff_not];omega
   refine D ?_;exact zbm
  ·rintro _ _ ⟨rfl,rfl⟩;rw [dS,c7]
   have hN:(0+2 * ((l.length:Int) - 1)+((qA l:Nat):Int))=(((cM l).length:Nat):Int):=by
    have:(y::r).length+1=l.length:=by rw [<-hL];simp
    omega
   rw [hN];refine bc ?_
   refine GW.builder (cM l).length rfl rfl rfl rfl rfl X fun a c=>?_
   refine D ?_;refine bA [0,1] (vF x 0 a c [] rfl X) ?_;rintro _ _ ⟨⟨u1,rfl⟩,a1,c1,rfl⟩;refine zas ?_
   have key:∀ k,(x++gj ((y::r).take k)).length<=1099511627776:=fun k=>by
    have I:=Yx (y::r) k;rw [<-hL,Vk,aL] at hb;rw [aL];omega
   refine GW.range ((y::r).map fun s=>[GV.v (sv s)]).length (fun k fr Γ=>∃ acc a c,fr=[U,.v (sv [44,32]),U,U,U,U,U,U,.loc 0 0,U,U,U,U,U,U,U,U,U,U,U,U,U,U,U,U,U,U,U,U,U,U,U,U,U,U,U,U,U,U,U,U,U,U,U,U,U,U,U,U,U,U,U,U,U,U,U,U,U,U,U,U,U,U,strs (y::r),.v (ii (((y::r).map fun s=>[GV.v (sv s)]).length:Int)),.v (ii (k:Nat)),U,U,U,U,U,U,U,U,U]/\acc=x++gj ((y::r).take k)/\Γ=[.box 187 [.loc 0 0,.v (.slice a acc.length c)],.vech 5 1 (bN acc) (.slice a acc.length c)]) ?_ ?_ ?_ ?_ ?_
   ·rw [show 0+x.length=x.length from dJ _];subst hL;exact ⟨_,_,Wk.aH ao,x,a1,c1,rfl,by simp [gj],rfl⟩
   ·have:((y::r).map fun s=>[GV.v (sv s)]).length+1=l.length:=by rw [<-hL];simp
    omega
   ·rintro k _ _ ⟨acc,a,c,rfl,_,rfl⟩;exact dr
   ·rintro k _ _ au ⟨acc,a,c,rfl,mD,rfl⟩
    have au:k < (y::r).length:=by simpa using au
    have dE:(y::r)[k]?=some (y::r)[k]:=by simp [au]
    have wR:((y::r).map fun s=>[GV.v (sv s)])[k]?=some [.v (sv (y::r)[k])]:=by rw [bp,dE];rfl
    have cl:x++gj ((y::r).take (k+1))=(acc++[44,32])++(y::r)[k]:=by
     rw [dk,dE,RH,<-eF,<-mD,eF]
     congr 1
     exact aam _
    have qV:=key k;have sT:=key (k+1);rw [cl] at sT;rw [<-mD] at qV;simp only [aL,length_cons,length_nil] at sT;generalize (y::r)[k]=z at *
    have abY:(bN acc).length=acc.length:=by simp [bN]
    refine D ?_;refine bA [0,1] (vF [44,32] acc.length a c (bN acc) abY (by simp only [length_cons,length_nil];omega)) ?_;rintro _ _ ⟨⟨u1,rfl⟩,a2,c2,rfl⟩;refine bF ?_;rw [show bN acc++[[GV.v (.int .u8 ((44:UInt8).toNat:Int))],[GV.v (.int .u8 ((32:UInt8).toNat:Int))]]=bN (acc++[44,32]) by simp [bN],show acc.length+([44,32]:ae).length=(acc++[44,32]).length by simp];refine D ?_;refine bA [0,1] (vF z (acc++[44,32]).length a2 c2 (bN (acc++[44,32])) (by simp [bN]) zgl) ?_;rintro _ _ ⟨⟨u2,rfl⟩,a3,c3,rfl⟩;refine bF ?_
    have ez:List.length (acc++[44,32])+List.length z=List.length ((acc++[44,32])++z):=by simp only [aL]
    rw [<-xA,ez];refine D ?_;exact ⟨rfl,rfl,_,_,Wk.aH ao,(acc++[44,32])++z,a3,c3,rfl,cl.symm,rfl⟩
   ·rintro _ _ ⟨acc,a,c,rfl,mD,rfl⟩
    have hj:cM l=acc:=by
     rw [mD,<-hL,show ((y::r).map fun s=>[GV.v (sv s)]).length=(y::r).length by simp,c7];rfl
    rw [hj] at hb hlen |-
    have cj:acc≠[]:=by
     intro h0;rw [h0] at hlen;simp at hlen
    have adG:=Us acc a c cj X;refine D ?_;refine V [0,1] adG ?_;exact al
open Go.Xp (Nd T)
open Go.Sp (Src)
open Go.Im (tl uv tr jX)
mutual
def tT:T->GV
 | .mk n l=>.box [.v (ii n.kind),.v (ii n.at_),.v (ii n.n),.v (sv n.s),ints n.kids,.sl 1 (dp l)] 0
def dp:List T->List (List GV)
 | []=>[]
 | t::r=>[tT t]::dp r
end
abbrev uT (t:T):GV:=.box [.v (ii t.n.kind),.v (ii t.n.at_),.v (ii t.n.n),.v (sv t.n.s),ints t.n.kids,.sl 1 (dp t.kids)] 0
theorem acK (t:T):tT t=uT t:=by cases t;rw [tT];rfl
theorem nM (l:List T):dp l=l.map fun t=>[uT t]:=by
 induction l with
 | nil=>rfl
 | cons t l ih=>rw [dp,ih,acK];rfl
theorem uR (l:List T):(dp l).length=l.length:=by rw [nM];simp
theorem N9 (l:List T) (t:T):dp (l++[t])=dp l++[[uT t]]:=by rw [nM,nM];simp
theorem zg {l:List T} {i:Nat} {t:T} (h:l[i]?=some t):(dp l)[i]?=some [uT t]:=by rw [nM,bp,h];rfl
def trG:Option (T × Nat)->GV
 | none=>.tup [U,U,.v (.bool false)]
 | some (t,e)=>.tup [uT t,.v (ii (e:Nat)),.v (.bool true)]
theorem Wb (nodes:List Nd) (hl:nodes.length<=1099511627776) (hk:∀ n∈nodes,n.kids.length<=1099511627776):∀ (f a:Nat),nodes.length - a+1<=f->a<=1099511627776 ->
  GF prog 79 [.sl 5 (nodes.map aV),.v (ii (a:Nat))] [] (trG (tl nodes f a)) []:=by
 intro f
 induction f with
 | zero=>intro a h;omega
 | succ f ih =>
 intro a hf ha;rw [tl]
 cases hn:nodes[a]? with
 | none =>
  have kP:nodes.length<=a:=pS hn
  have hd:decide (((nodes.map aV).length:Int)<=(a:Int))=true:=by simpa using kP
  refine ai func79 ntmps79 ?_;exact zeU
 | some n =>
  have au:=(bB hn).1
  have hd:decide (((nodes.map aV).length:Int)<=(a:Int))=false:=by simpa using au
  have hr:(nodes.map aV)[a]?=some (aV n):=by rw [bp,hn];rfl
  have hnk:=hk n (bo hn);simp only;generalize hR:uv (tl nodes f) n.kids (a+1) []=R;refine ai func79 ntmps79 ?_;refine GW.wk (Wk.Ks (i:=0) (o:=5) 79 1 rfl rfl) ?_
  refine GW.range (n.kids.map fun i=>[GV.v (ii i)]).length (fun k fr Γ=>∃ next acc m rows,fr=[.sl 5 (nodes.map aV),.v (ii (a:Nat)),U,U,U,U,U,.loc 0 0,.v (ii (next:Nat)),U,U,U,U,U,U,U,U,U,U,U,U,U,U,U,U,U,U,U,U,U,ints n.kids,.v (ii ((n.kids.map fun i=>[GV.v (ii i)]).length:Int)),.v (ii (k:Nat)),U,U,U,U,U,U,U,U,U,U,U,U,U,U,U,U,U,U,U,U,U,U,U,U,U,U,U,U,U,U,U,U,U,U,U] /\
   Γ=[.box 125 [.v (ii n.kind),.v (ii n.at_),.v (ii n.n),.v (sv n.s),ints n.kids,.vec 1 m],.vec 79 1 0 rows]/\rows.length=m/\rows=dp acc/\m=k/\a+1<=next/\next<=nodes.length/\uv (tl nodes f) (n.kids.drop k) next acc=R) ?_ (by simpa using hnk) ?_ ?_ ?_
  ·exact ⟨_,_,Wk.aH ao,a+1,[],0,[],rfl,rfl,rfl,rfl,rfl,aI _,au,hR⟩
  ·rintro k _ _ ⟨next,acc,m,rows,rfl,rfl,_⟩;exact dr
  ·rintro k _ _ eh ⟨next,acc,m,rows,rfl,rfl,hm,bD,wU,EB,uj,h⟩
   have eh:k < n.kids.length:=by simpa using eh
   have dE:n.kids[k]?=some n.kids[k]:=by simp [eh]
   have wR:(n.kids.map fun i=>[GV.v (ii i)])[k]?=some [.v (ii n.kids[k])]:=by rw [bp,dE];rfl
   rw [n5 eh,uv] at h;generalize n.kids[k]=z at *
   by_cases hz:z=(next:Int)
   ·rw [ah hz] at h;subst hz
    have Nn:((next:Int) != (next:Int))=false:=by simp
    have Bl:=ih next X X
    cases hq:tl nodes f next with
    | none =>
     rw [hq] at h Bl;subst h;refine D ?_;refine V [] Bl ?_;exact zeU
    | some x =>
     obtain ⟨t,e⟩:=x;rw [hq] at h Bl;simp only at h
     obtain ⟨s1,s2,_,_⟩:=Go.Im.DZ f next t e hq
     refine D ?_;refine V [] Bl ?_;refine zby ?_;exact ⟨rfl,rfl,_,_,Wk.aH ao,e,acc++[t],_,_,rfl,rfl,by simp [hm],by rw [N9,bD],by omega,by omega,s2,h⟩
   ·rw [ab hz] at h;subst h
    have Nn:(z != (next:Int))=true:=by simpa using hz
    refine D ?_;exact zeU
  ·rintro _ _ ⟨next,acc,m,rows,rfl,rfl,hm,bD,wU,EB,uj,h⟩;rw [show n.kids.drop (n.kids.map fun i=>[GV.v (ii i)]).length=[] by simp,uv] at h;subst h;simp only;subst bD;refine bc ?_;refine GW.wk (Wk.Au (i:=0) (o:=5) (j:=1) rfl rfl rfl rfl hm) ?_
   by_cases h0:n.at_ < 0
   ·rw [ah h0]
    have vi:decide ((0:Int)<=n.at_)=false:=by simpa using h0
    refine zel ?_;exact zeU
   ·rw [ab h0]
    have vi:decide ((0:Int)<=n.at_)=true:=by simpa using h0
    refine zel ?_;refine Gv ?_;exact zah
def FF (nodes:List Nd):Option (List T × Nat)->GV
 | none=>.tup [U,.v (.bool false)]
 | some (l,e)=>.tup [.sl 1 (dp l),.v (.bool ((e:Int)==(nodes.length:Int)))]
theorem zA (p:Src) (hl:p.nodes.length<=1099511627776) (hk:∀ n∈p.nodes,n.kids.length<=1099511627776) (hf:p.fns.length<=1099511627776) :
  GF prog 87 [.agg (aq p)] [] (FF p.nodes (jX p.nodes p.fns 0 [])) []:=by
 generalize hR:jX p.nodes p.fns 0 []=R;refine ai func87 ntmps87 ?_;refine GW.wk (Wk.Ga (t:=4) (a:=none) (c:=0) 79 1 rfl) ?_
 refine GW.range (p.fns.map aw).length (fun k fr Γ=>∃ next acc m rows,fr=[U,.loc 0 0,U,U,.vec 1 m,.v (ii (next:Nat)),U,U,U,U,U,U,.sl 3 (p.fns.map aw),.v (ii ((p.fns.map aw).length:Int)),.v (ii (k:Nat)),U,U,U,U,U,U,U,U,U,U,U,U,U,U,U,U,U,U,U,U,U,U,U,U,U,U,U,U,U,U,U] /\
  Γ=[.box 28 (aq p),.vec 79 1 0 rows]/\rows.length=m/\rows=dp acc/\m=k/\next<=p.nodes.length/\jX p.nodes (p.fns.drop k) next acc=R) ?_ (by simpa using hf) ?_ ?_ ?_
 ·exact ⟨_,_,Wk.aH ao,0,[],0,[],rfl,rfl,rfl,rfl,rfl,aS _,hR⟩
 ·rintro k _ _ ⟨next,acc,m,rows,rfl,rfl,_⟩;exact dr
 ·rintro k _ _ eh ⟨next,acc,m,rows,rfl,rfl,hm,bD,wU,uj,h⟩
  have eh:k < p.fns.length:=by simpa using eh
  have dE:p.fns[k]?=some p.fns[k]:=by simp [eh]
  have wR:(p.fns.map aw)[k]?=some (aw p.fns[k]):=by rw [bp,dE];rfl
  rw [n5 eh,jX] at h;generalize p.fns[k]=fn at *
  have Se:=Wb p.nodes hl hk (p.nodes.length+1) next X X
  unfold tr at h
  cases hq:tl p.nodes (p.nodes.length+1) next with
  | none =>
   rw [hq] at h Se;subst h;refine D ?_;refine V [] Se ?_;refine Ls ?_;exact zaZ
  | some x =>
   obtain ⟨t,e⟩:=x;rw [hq] at h Se;simp only at h
   obtain ⟨s1,s2,_,_⟩:=Go.Im.DZ _ next t e hq
   by_cases hb:fn.body=(next:Int)
   ·rw [ah hb] at h
    have bG:(fn.body != (next:Int))=false:=by simpa using hb
    refine D ?_;refine V [] Se ?_;refine zby ?_;exact ⟨rfl,rfl,_,_,(Wk.cut (n:=2) (aS _) rfl).trans (Wk.aH ao),e,acc++[t],_,_,rfl,rfl,by simp [hm],by rw [N9,bD],by omega,s2,h⟩
   ·rw [ab hb] at h;subst h
    have bG:(fn.body != (next:Int))=true:=by simpa using hb
    refine D ?_;refine V [] Se ?_;refine Ls ?_;exact zaZ
 ·rintro _ _ ⟨next,acc,m,rows,rfl,rfl,hm,bD,wU,uj,h⟩;rw [show p.fns.drop (p.fns.map aw).length=[] by simp,jX] at h;subst h;subst bD;refine bc ?_;refine GW.wk (Wk.jY (t:=4) rfl rfl rfl hm) ?_
  have hnn:p.nodes.length=(p.nodes.map aV).length:=by simp
  unfold FF;rw [hnn];refine D ?_;refine aM (ax 0 8 .nil) ?_;refine aj ?_;exact sH
open Go.Sp
structure PX where
 a:Value
 b:Value
 c:Value
 d:Value
 e:Value
abbrev cL (p:RS) (x:PX):Ob:=.box 135 [iU p.l,.v (ii p.i),.v (ii p.e),.v (ii p.code),.v (ii p.at_),.v x.a,.v x.b,.v x.c,.v x.d,.v x.e]
theorem u9 (p:RS) (k:Nat) (x:PX) (hp:p.ok) (hk:k<=1):GF prog 201 [.loc 0 0,.v (ii (k:Nat))] [cL p x] (.agg (dm (Go.Im.tok p k))) [cL p x]:=by
 obtain ⟨mU,eY⟩:=hp;unfold Go.Im.tok
 cases ht:p.l[p.i+k]? with
 | some t =>
  have hr:=mN ht;have au:p.i+k < p.l.length:=(bB ht).1
  have hd:decide (((p.l.map dm).length:Int)<=((p.i+k:Nat):Int))=false:=by simpa using by omega
  refine ai func201 ntmps201 ?_;refine aM (ax 0 12 .nil) ?_;refine bm ?_;refine aM (ax 0 12 (.a 12 .nil)) ?_;refine aj ?_;exact ni
 | none =>
  have au:p.l.length<=p.i+k:=pS ht
  have hd:decide (((p.l.map dm).length:Int)<=((p.i+k:Nat):Int))=true:=by simpa using by omega
  refine ai func201 ntmps201 ?_;refine aM (ax 0 12 .nil) ?_;refine aj ?_;exact ni
theorem Jw (p:RS) (c a:Int) (x:PX):GF prog 256 [.loc 0 0,.v (ii c),.v (ii a)] [cL p x] (.tup []) [cL (p.fail c a) x]:=by
 unfold RS.fail
 by_cases h:p.code=0
 ·have h':(p.code==0)=true:=by simpa using h
  rw [ah h];refine ai func256 ntmps256 ?_;exact iy
 ·have h':(p.code==0)=false:=by simpa using h
  rw [ab h];refine ai func256 ntmps256 ?_;exact iy
theorem CH (p:RS) (x:PX) (hp:p.ok):GF prog 202 [.loc 0 0] [cL p x] (.tup []) [cL (Go.Im.nr p) x]:=by
 have ht:=u9 p 0 x hp aD;unfold Go.Im.nr;generalize Go.Im.tok p 0=t at *;have hf:=Jw p 7 t.at_ x;refine ai func202 ntmps202 ?_;refine zeV ?_;refine V [0] hf ?_;exact iy
theorem zG (p:RS) (d:Nat) (x:PX) (hp:p.ok):GF prog 258 [.loc 0 0,.v (ii (d:Nat))] [cL p x] (.v (.bool ((Go.Im.cP p d).code==0))) [cL (Go.Im.cP p d) x]:=by
 have ht:=u9 p 0 x hp aD;unfold Go.Im.cP;generalize Go.Im.tok p 0=t at *
 by_cases h:d > 60
 ·have h':decide ((60:Int) < (d:Int))=true:=by simpa using by omega
  rw [ah h];have hf:=Jw p 9 t.at_ x;generalize p.fail 9 t.at_=q at *;refine ai func258 ntmps258 ?_;refine zeV ?_;refine V [0] hf ?_;exact al
 ·have h':decide ((60:Int) < (d:Int))=false:=by simpa using by omega
  rw [ab h];refine ai func258 ntmps258 ?_;exact al
theorem mW (p:RS) (k:Nat) (s:ae) (x:PX) (hp:p.ok) (hk:k<=1):GF prog 199 [.loc 0 0,.v (ii (k:Nat)),.v (sv s)] [cL p x] (.v (.bool (Go.Im.is p k s))) [cL p x]:=by
 have ht:=u9 p k x hp hk;unfold Go.Im.is;generalize Go.Im.tok p k=t at *
 cases h:(t.kind==3) with
 | true =>
  rw [Bool.true_and];refine ai func199 ntmps199 ?_;refine zeV ?_;exact al
 | false =>
  rw [Bool.false_and];refine ai func199 ntmps199 ?_;refine zeV ?_;exact al
theorem uG (p:RS) (x:PX) (hp:p.ok):GF prog 200 [.loc 0 0] [cL p x] (.v (sv (Go.Im.tok p 0).s)) [cL (Go.Im.bO p) x]:=by
 have ht:=u9 p 0 x hp aD;have hw:=CH p x hp;have Sa:=hp.2;have Hm:=hp.1;unfold Go.Im.bO;generalize Go.Im.tok p 0=t at *;have hf:=Jw p 8 t.at_ x
 by_cases hc:p.code=0
 ·have dP:(p.code != 0)=false:=by simpa using hc
  rw [ah hc]
  by_cases G:t.kind=2
  ·have sP:(t.kind != 2)=false:=by simpa using G
   rw [ah G]
   by_cases hl:t.s.length > 12
   ·have lH:decide ((12:Int) < (t.s.length:Int))=true:=by simpa using by omega
    rw [ah hl];refine ai func200 ntmps200 ?_;refine zeV ?_;refine V [0] hf ?_;exact al
   ·have lH:decide ((12:Int) < (t.s.length:Int))=false:=by simpa using by omega
    rw [ab hl];refine ai func200 ntmps200 ?_;refine zeV ?_;exact al
  ·have sP:(t.kind != 2)=true:=by simpa using G
   rw [ab G];refine ai func200 ntmps200 ?_;refine zeV ?_;refine V [0] hw ?_;exact al
 ·have dP:(p.code != 0)=true:=by simpa using hc
  rw [ab hc];refine ai func200 ntmps200 ?_;refine zeV ?_;exact al
theorem gA (p:RS) (s:ae) (x:PX) (hp:p.ok):GF prog 203 [.loc 0 0,.sl 1 [[.v (sv s)]]] [cL p x] (.tup []) [cL (Go.Im.want p s) x]:=by
 have hi:=mW p 0 s x hp aD;have hw:=CH p x hp;have Sa:=hp.2;have Hm:=hp.1;unfold Go.Im.want;generalize Go.Im.nr p=q at *;have hr:([[GV.v (sv s)]]:List (List GV))[0]?=some [.v (sv s)]:=rfl;refine ai func203 ntmps203 ?_
 by_cases hc:p.code=0
 ·have dP:(p.code != 0)=false:=by simpa using hc
  rw [ah hc]
  cases h:Go.Im.is p 0 s with
  | true =>
   rw [h] at hi;rw [ah rfl];refine GW.range 1 (fun k fr Γ=>fr=[.loc 0 0,U,U,U,U,U,.sl 1 [[.v (sv s)]],.v (ii ((1:Nat):Int)),.v (ii (k:Nat)),U,U,U,U,U,U,U,U,U,U,U,U,U,U,U,U,U,U,U,U,U,U]/\((k=0/\Γ=[cL p x])\/(1<=k/\Γ=[cL p.next x]))) ?_ aD ?_ ?_ ?_
   ·exact ⟨_,_,Wk.aH ao,rfl,.inl ⟨rfl,rfl⟩⟩
   ·rintro k _ _ ⟨rfl,_⟩;exact dr
   ·rintro k _ _ hk ⟨rfl,⟨rfl,rfl⟩ | ⟨I,_⟩⟩
    ·refine zb2 ?_;exact ⟨rfl,rfl,_,_,Wk.aH ao,rfl,.inr ⟨aI _,rfl⟩⟩
    ·omega
   ·rintro _ _ ⟨rfl,⟨I,_⟩ | ⟨_,rfl⟩⟩
    ·cases I
    ·exact gh
  | false =>
   rw [h] at hi;rw [ab aD];refine GW.range 1 (fun k fr Γ=>fr=[.loc 0 0,U,U,U,U,U,.sl 1 [[.v (sv s)]],.v (ii ((1:Nat):Int)),.v (ii (k:Nat)),U,U,U,U,U,U,U,U,U,U,U,U,U,U,U,U,U,U,U,U,U,U]/\k=0/\Γ=[cL p x]) ?_ aD ?_ ?_ ?_
   ·exact lN
   ·rintro k _ _ ⟨rfl,_⟩;exact dr
   ·rintro k _ _ hk ⟨rfl,rfl,rfl⟩;refine zb2 ?_;refine V [0] hw ?_;exact iy
   ·rintro _ _ ⟨rfl,I,_⟩;cases I
 ·have dP:(p.code != 0)=true:=by simpa using hc
  rw [ab hc];refine GW.range 1 (fun k fr Γ=>fr=[.loc 0 0,U,U,U,U,U,.sl 1 [[.v (sv s)]],.v (ii ((1:Nat):Int)),.v (ii (k:Nat)),U,U,U,U,U,U,U,U,U,U,U,U,U,U,U,U,U,U,U,U,U,U]/\k=0/\Γ=[cL p x]) ?_ aD ?_ ?_ ?_
  ·exact lN
  ·rintro k _ _ ⟨rfl,_⟩;exact dr
  ·rintro k _ _ hk ⟨rfl,rfl,rfl⟩;exact gh
  ·rintro _ _ ⟨rfl,I,_⟩;cases I
open Go.Xp (T one levels)
mutual
def pT:T->GV
 | .mk n l=>.box [.v (ii n.kind),.v (ii n.at_),.v (ii n.n),.v (sv n.s),.v (.slice none 0 0),.sl 1 (nD l)] 0
def nD:List T->List (List GV)
 | []=>[]
 | t::r=>[pT t]::nD r
end
abbrev qT (t:T):GV:=.box [.v (ii t.n.kind),.v (ii t.n.at_),.v (ii t.n.n),.v (sv t.n.s),.v (.slice none 0 0),.sl 1 (nD t.kids)] 0
theorem acF (t:T):pT t=qT t:=by cases t;rw [pT];rfl
theorem jN (l:List T):nD l=l.map fun t=>[qT t]:=by
 induction l with
 | nil=>rfl
 | cons t l ih=>rw [nD,ih,acF];rfl
theorem qs (l:List T):(nD l).length=l.length:=by rw [jN];simp
theorem zd (l:List T) (t:T):nD (l++[t])=nD l++[[qT t]]:=by rw [jN,jN];simp
theorem Fa {l:List T} {i:Nat} {t:T} (h:l[i]?=some t):(nD l)[i]?=some [qT t]:=by rw [jN,bp,h];rfl
theorem S7 (k a:Int) (s:ae) (rows:List (List GV)):GF prog 257 [.v (ii k),.v (ii a),.v (sv s),.sl 1 rows] [] (.loc 0 0) [.box 125 [.v (ii k),.v (ii a),.v (ii 0),.v (sv s),.v (.slice none 0 0),.sl 1 rows]]:=by
 refine ai func257 ntmps257 ?_;refine GW.wk (Wk.cells 0 rfl (ds:=[.v (ii k),.v (ii a),.v (ii 0),.v (sv s),.v (.slice none 0 0),.sl 1 rows]) jw) ?_;exact zex
theorem fR (k a:Int) (s:ae) (l:List T) (rows:List (List GV)) (h:nD l=rows):GF prog 257 [.v (ii k),.v (ii a),.v (sv s),.sl 1 rows] [] (qT (one k a s l)) []:=by
 subst h;refine ai func257 ntmps257 ?_;refine GW.wk (Wk.cells 0 rfl (ds:=[.v (ii k),.v (ii a),.v (ii 0),.v (sv s),.v (.slice none 0 0),.sl 1 (nD l)]) jw) ?_;refine GW.wk (Wk.freeze (i:=0) rfl rfl rfl (aS _)) ?_;exact al
theorem xc:GF prog 189 [] [] (.sl 1 (levels.map fun l=>[strs l])) []:=by
 refine ai func189 ntmps189 ?_
 iterate 10 (refine b8 ?_)
 exact ay
end Go.Xg
namespace Go.Xg
open Go.RowKit Go.Xw Go.Proofs Tryz
open GV (U)
open Go.Xp (levels iD)
open Go.Im (sn vw)
attribute [local irreducible] GW GL GO YG GC GA aU aW
theorem decDigits_eq (n:Nat):Go.Lib.decDigits n=iD n:=by
 induction n using Nat.strongRecOn with
 | _ n ih =>
  unfold Go.Lib.decDigits iD;split
  ·rfl
  ·rw [ih (n / 10) X]
theorem YD (n:Int):Go.Lib.itoa n=sn n:=by
 unfold Go.Lib.itoa sn;rw [decDigits_eq,decDigits_eq]
theorem Qp (n:Int) (h0 : -9223372036854775808<=n) (I:n<=9223372036854775807):GF prog 135 [.v (ii n)] [] (.v (sv (sn n))) []:=by
 refine GF.lib (vs:=[ii n]) fun K β w ht hf=>?_
 obtain ⟨E,z,tI⟩:=wB.all ht hf ht.pow (zs:=ze.map fun z=>Value.int .u64 z) aD (fun m o x hx=>by
  rw [bp] at hx;unfold AQ;rw [ab aD,ah rfl]
  cases hs:ze[o]? with
  | none=>rw [hs] at hx;cases hx
  | some y=>rw [hs] at hx;cases hx;rfl)
 have DE:Go.Lib.TabIs prog w "internal/strconv.uint64pow10" .u64 Go.Lib.pow10Tab:=by
  unfold Go.Lib.TabIs World.var?;rw [show prog.globalNamed "internal/strconv.uint64pow10" = some 1 by kernel_rfl,show Go.Lib.pow10Tab=ze by decide];simp only [Option.bind_some,tI]
 refine pV.tg (Calls.mono (strconv_Itoa n h0 I w DE) ?_);rintro e w' ⟨G,k,os,h3⟩;refine ⟨_,G,by rw [YD];rfl,?_⟩;subst h3;refine ⟨rfl,rfl,rfl,by simp [Go.Sort.grow,World.drewN],fun j hj _=>?_⟩;simp only [Go.Sort.grow,World.drewN];rw [Array.getElem?_append_left hj]
theorem VE (l:List ae) (s:ae) (hl:l.length<=1099511627776):GF prog 190 [strs l,.box [.v (sv s)] 0] [] (.v (.bool (l.contains s))) []:=by
 have h:=ke l s hl;generalize l.contains s=b at *;refine ai func190 ntmps190 ?_;exact za0
def F2 (ls:List (List ae)) (s:ae):Int:=match ls.findIdx? (fun l=>l.contains s) with | some i=>(i:Int) | none => -1
theorem LJ (ls:List (List ae)) (s:ae) (hn:ls.length<=1099511627776) (hl:∀ l∈ls,l.length<=1099511627776) :
  GF prog 188 [.sl 1 (ls.map fun l=>[strs l]),.fn (.func 190) [] [.box [.v (sv s)] 0]] [] (.v (ii (F2 ls s))) []:=by
 have dS:(ls.map fun l=>[strs l]).length=ls.length:=by simp
 refine ai func188 ntmps188 ?_;refine GW.range (ls.map fun l=>[strs l]).length (fun k fr Γ=>fr=[.sl 1 (ls.map fun l=>[strs l]),.fn (.func 190) [] [.box [.v (sv s)] 0],U,U,U,U,U,.v (ii ((ls.map fun l=>[strs l]).length:Int)),.v (ii (k:Nat)),U,U,U,U,U,U,U,U,U,U]/\Γ=[]/\(ls.take k).all (fun l=>!(l.contains s))=true) ?_ X ?_ ?_ ?_
 ·exact lN
 ·exact jn
 ·rintro k _ _ au ⟨rfl,rfl,bj⟩;rw [dS] at au
  have dE:ls[k]?=some ls[k]:=by simp [au]
  have hr:(ls.map fun l=>[strs l])[k]?=some [strs ls[k]]:=by rw [bp,dE];rfl
  have hc:=VE ls[k] s (hl _ (getElem_mem au))
  have cl:(ls.take (k+1)).all (fun l=>!(l.contains s))=((ls.take k).all (fun l=>!(l.contains s))&&!(ls[k].contains s)):=by rw [dk,dE,all_append];simp
  have CX:ls[k].contains s=true->F2 ls s=(k:Int):=fun h0=>by
   have:ls.findIdx? (fun l=>l.contains s)=some k:=by
    rw [List.findIdx?_eq_some_iff_getElem];refine ⟨au,h0,fun j hj=>?_⟩;rw [jb] at bj;have:=bj ls[j] zgm;exact zcm
   unfold F2;rw [this]
  generalize ls[k]=l at *
  cases hb:l.contains s with
  | true =>
   rw [hb] at hc;rw [CX hb];refine D ?_;refine ot [] hc ?_;exact ay
  | false =>
   rw [hb] at hc cl;refine D ?_;refine ot [] hc ?_;exact zaH
 ·rintro _ _ ⟨rfl,rfl,bj⟩;rw [dS,c7] at bj
  have:ls.findIdx? (fun l=>l.contains s)=none:=by
   rw [List.findIdx?_eq_none_iff];intro x hx;rw [jb] at bj;simpa using bj x hx
  unfold F2;rw [this];exact ay
theorem Hx (s:ae):GF prog 138 [.v (sv s)] [] (.v (ii (vw s))) []:=by
 have I:=xc;have G:=LJ levels s aD aD;rw [show vw s=F2 levels s from rfl];generalize F2 levels s=z at *;generalize levels=ls at *;refine ai func138 ntmps138 ?_;refine GL.wk (Wk.freeze (i:=0) rfl rfl rfl (aI _)) ?_;refine GN zg0 ?_;refine V [] I ?_;refine V [] G ?_;exact al
open Go.Xp (T cM aQ aB)
open Go.Im (yz pL ed iZ xV nE jG uJ u5 j0 ep)
theorem SR (t:T) (z:Int):GF prog 139 [uT t,.v (ii z)] [] (.v (.bool (pL t z))) []:=by
 have h:=Hx t.n.s;unfold pL
 cases hk:(t.n.kind==6) with
 | true =>
  generalize vw t.n.s=y at *;refine ai func139 ntmps139 ?_;exact za0
 | false =>
  refine ai func139 ntmps139 ?_;exact al
theorem x9 (t:T) (b:Bool) (x:ae) (hx:x.length<=1099511627776) (h:GF prog 80 [uT t] [] (.v (sv x)) []) :
  GF prog 137 [uT t,.v (.bool b)] [] (.v (sv (yz b x))) []:=by
 unfold yz
 cases b with
 | true =>
  refine ai func137 ntmps137 ?_;exact za0
 | false =>
  refine ai func137 ntmps137 ?_;exact za0
theorem VG (ex:FuncId) [hf:aO prog ex] (tx:T->ae) (l:List T) (h:∀ t∈l,GF prog ex [uT t] [] (.v (sv (tx t))) []) (hj:(cM (l.map tx)).length<=1099511627776) (hl:l.length<=1099511627776) :
  GF prog 136 [.sl 1 (dp l),.v (.func (.func ex) #[] #[])] [] (.v (sv (cM (l.map tx)))) []:=by
 have qF:=uR l;have hJ:=Qq (l.map tx) hj zge;refine ai func136 ntmps136 ?_;refine GW.wk (Wk.Ga (t:=5) (a:=none) (c:=0) 9 1 rfl) ?_;refine GW.range (dp l).length (fun k fr Γ=>∃ m rows,fr=[.sl 1 (dp l),.v (.func (.func ex) #[] #[]),U,U,U,.vec 0 m,U,U,.sl 1 (dp l),.v (ii ((dp l).length:Int)),.v (ii (k:Nat)),U,U,U,U,U,U,U,U,U,U,U,U]/\Γ=[.vec 9 1 0 rows]/\rows.length=m/\rows=((l.take k).map tx).map (fun s=>[GV.v (sv s)])/\m=k) ?_ X ?_ ?_ ?_
 ·exact ⟨_,_,Wk.aH ao,0,[],rfl,rfl,rfl,rfl,rfl⟩
 ·rintro k _ _ ⟨m,rows,rfl,rfl,_⟩;exact dr
 ·rintro k _ _ au ⟨m,rows,rfl,rfl,hm,bD,wU⟩;rw [qF] at au
  have dE:l[k]?=some l[k]:=by simp [au]
  have hr:=zg dE;have ht:=h l[k] (getElem_mem au)
  have cl:((l.take (k+1)).map tx).map (fun s=>[GV.v (sv s)])=rows++[[.v (sv (tx l[k]))]]:=by rw [dk,dE,bD,l9,l9];rfl
  generalize l[k]=t at *;refine D ?_;refine ln [] ht ?_;refine D ?_;exact zdB
 ·rintro _ _ ⟨m,rows,rfl,rfl,hm,bD,wU⟩;rw [qF,c7] at bD;refine bc ?_;refine GW.wk (Wk.jY (t:=5) rfl rfl rfl hm) ?_;subst bD;refine D ?_;refine V [] hJ ?_;exact al
theorem ab8 {t:T} (h:ep t.n.kind t.kids.length=true) (hk:t.n.kind=3\/t.n.kind=5):∃ a,t.kids=[a]:=by
 have:t.kids.length=1:=by
  unfold ep at h
  exact zfo
 match hl:t.kids,this with
 | [a],_=>exact ⟨a,rfl⟩
theorem ab9 {t:T} (h:ep t.n.kind t.kids.length=true) (hk:t.n.kind=6):∃ a b,t.kids=[a,b]:=by
 have:t.kids.length=2:=by
  unfold ep at h;rw [hk] at h;simp at h;omega
 match hl:t.kids,this with
 | [a,b],_=>exact ⟨a,b,rfl⟩
theorem Zw:∀ (N:Nat) (t:T),aQ t<=N->j0 t=true->uJ t->nE t<=1099511627776->GF prog 80 [uT t] [] (.v (sv (ed t))) []:=by
 intro N
 induction N with
 | zero=>intro t h;rw [Go.Xp.fH] at h;omega
 | succ N ih =>
 intro t hN hk hn hw;have hlen:=Go.Im.zp _ t (aI _) hn;rw [Go.Xp.fH] at hN;rw [Go.Im.BC,aK,Go.Im.w8,jb] at hk;rw [Go.Im.uK] at hn
 have iQ:∀ a∈t.kids,GF prog 80 [uT a] [] (.v (sv (ed a))) []/\(ed a).length<=1099511627776:=fun a ha=>by
  have I:=Go.Im.xp ha;rw [Go.Im.sf] at hw;have h3:=Go.Im.mI hn.2 ha
  have G:aQ a<=aB t.kids:=by
   have:∀ (l:List T),a∈l->aQ a<=aB l:=by
    intro l
    induction l with
    | nil=>intro h;cases h
    | cons b l ih2 =>
     intro h;rw [aB]
     rcases fh h with rfl | h
     ·omega
     ·have:=ih2 h;omega
   exact this _ ha
  have h4:=Go.Im.zp _ a (aI _) h3;exact ⟨ih a X (hk.2 a ha) h3 X,by omega⟩
 rw [Go.Im.TC] at hlen |-;unfold xV at hlen |-;have oV:=hk.1;have hkc:=@ab8 t oV;have ads:=@ab9 t oV;have W9:=Qp t.n.n hn.1.1 hn.1.2;have Nb:=Hx t.n.s
 have eh:t.kids.length<=1099511627776:=by
  have:=Go.Im.VC t.kids;rw [Go.Im.sf] at hw;omega
 have Ip:=fun hj=>VG 80 ed t.kids (fun a ha=>(iQ a ha).1) hj eh
 rw [<-Go.Im.Gu] at Ip
 have nB:t.n.s.length<=1099511627776:=by rw [Go.Im.sf] at hw;omega
 have R1:(cM (iZ t.kids)).length<=1099511627776:=by
  have I:=Go.Im.DL (iZ t.kids)
  have G:((iZ t.kids).map fun y=>y.length+2).sum<=jG t.kids:=by
   have:∀ (l:List T),u5 l->((iZ l).map fun y=>y.length+2).sum<=jG l:=by
    intro l
    induction l with
    | nil=>intro _;simp [iZ]
    | cons a l ih2 =>
     intro h;rw [u5] at h;have I:=Go.Im.zp _ a (aI _) h.1;have G:=ih2 h.2;rw [iZ,jG,List.map_cons,sum_cons];omega
   exact this _ hn.2
  rw [Go.Im.sf] at hw;omega
 have Ip:=Ip R1;clear R1;unfold uT;generalize ny:t.n.kind=kd at *
 by_cases I:kd=1
 ·subst I
  have ef:((1:Int)==1)=true:=by decide
  rw [ah rfl];refine ai func80 ntmps80 ?_;refine V [] W9 ?_;exact al
 rw [ab I] at hlen |-
 have g1:(kd==1)=false:=by simpa using I
 by_cases h3:kd=3
 ·subst h3
  have ef:((3:Int)==1)=false:=by decide
  have uA:((3:Int)==3)=true:=by decide
  rw [ah rfl] at hlen |-;obtain ⟨a,ha⟩:=hkc (.inl rfl);rw [ha] at iQ hlen |-;obtain ⟨c1,c2⟩:=iQ a (List.mem_singleton.2 rfl)
  have hr:(dp [a])[0]?=some [uT a]:=by rw [nM];rfl
  simp only [iZ,getD_cons_zero] at hlen |-;generalize dp [a]=rows at *;generalize ed a=x at *;refine ai func80 ntmps80 ?_;refine aM (ax 0 12 (.a 12 (ax 13 3 .nil))) ?_;refine aj ?_;refine aC [] c1 ?_;exact ay
 rw [ab h3] at hlen |-
 have g3:(kd==3)=false:=by simpa using h3
 by_cases h4:kd=4
 ·subst h4
  have ef:((4:Int)==1)=false:=by decide
  have uA:((4:Int)==3)=false:=by decide
  have f4:((4:Int)==4)=true:=by decide
  rw [ah rfl] at hlen |-;generalize dp t.kids=rows at *;generalize cM (iZ t.kids)=x at *;simp only [aL,length_cons,length_nil] at hlen;refine ai func80 ntmps80 ?_;refine aM (ax 0 10 (.a 10 (ax 11 3 .nil))) ?_;refine aj ?_;refine aC [] Ip ?_;exact ay
 rw [ab h4] at hlen |-
 have g4:(kd==4)=false:=by simpa using h4
 by_cases h5:kd=5
 ·subst h5
  have ef:((5:Int)==1)=false:=by decide
  have uA:((5:Int)==3)=false:=by decide
  have f4:((5:Int)==4)=false:=by decide
  have f5:((5:Int)==5)=true:=by decide
  rw [ah rfl] at hlen |-;obtain ⟨a,ha⟩:=hkc (.inr rfl);rw [ha] at iQ hlen |-;obtain ⟨c1,c2⟩:=iQ a (List.mem_singleton.2 rfl)
  have hr:(dp [a])[0]?=some [uT a]:=by rw [nM];rfl
  simp only [iZ,getD_cons_zero] at hlen |-;have hbr:=x9 a (a.n.kind==6) (ed a) c2 c1;have kO:=Go.Im.B8 (a.n.kind==6) (ed a);generalize dp [a]=rows at *;generalize hxx:yz (a.n.kind==6) (ed a)=x at *;refine ai func80 ntmps80 ?_;refine aM (ax 0 23 (.a 23 (.q 24 (.q 25 .nil)))) ?_;refine aj ?_;refine aC [] hbr ?_;exact ay
 rw [ab h5] at hlen |-
 have g5:(kd==5)=false:=by simpa using h5
 by_cases h6:kd=6
 ·subst h6
  have ef:((6:Int)==1)=false:=by decide
  have uA:((6:Int)==3)=false:=by decide
  have f4:((6:Int)==4)=false:=by decide
  have f5:((6:Int)==5)=false:=by decide
  have f6:((6:Int)==6)=true:=by decide
  rw [ah rfl] at hlen |-;obtain ⟨a,b,ha⟩:=ads rfl;rw [ha] at iQ hlen |-;obtain ⟨c1,c2⟩:=iQ a (List.mem_cons_self);obtain ⟨d1,d2⟩:=iQ b (dK _ List.mem_cons_self)
  have hr:(dp [a,b])[0]?=some [uT a]:=by rw [nM];rfl
  have mw:(dp [a,b])[1]?=some [uT b]:=by rw [nM];rfl
  simp only [iZ,getD_cons_zero,getD_cons_succ] at hlen |-
  have aep : -1<=vw t.n.s/\vw t.n.s<=9:=by
   unfold vw
   cases hf:levels.findIdx? (fun l=>l.contains t.n.s) with
   | none=>simp
   | some i =>
    rw [List.findIdx?_eq_some_iff_getElem] at hf;have:=hf.1
    have h9:levels.length=9:=by decide
    exact zcb
  generalize vw t.n.s=lv at *;have kD:=SR a lv;have nz:=SR b (lv+1);have hbr:=x9 a (pL a lv) (ed a) c2 c1;have adg:=x9 b (pL b (lv+1)) (ed b) d2 d1;generalize dp [a,b]=rows at *;generalize hxx:yz (pL a lv) (ed a)=x at *;generalize hyy:yz (pL b (lv+1)) (ed b)=y at *;simp only [aL,length_cons,length_nil] at hlen;refine ai func80 ntmps80 ?_;refine V [] Nb ?_;refine aM (ax 0 14 (ax 17 5 (ax 24 15 (.a 14 (.a 15 (.q 16 (.q 22 (.q 23 (.a 39 (.a 40 (.q 41 (.q 42 .nil)))))))))))) ?_;refine aj ?_;refine BZ [] kD ?_;refine aj ?_;refine aC [] hbr ?_;refine BZ [] nz ?_;refine aj ?_;refine aC [] adg ?_;exact ay
 rw [ab h6]
 have g6:(kd==6)=false:=by simpa using h6
 refine ai func80 ntmps80 ?_;exact al
end Go.Xg
set_option maxHeartbeats 2000000
namespace Go.Xg
open Go.RowKit Go.Xw Go.Proofs Tryz Go.Im
open GV (U)
open Go.Xp (T)
attribute [local irreducible] GW GL GO YG GC GA aU aW
abbrev lu (f:FuncId):Value:=.func (.func f) #[] #[]
theorem Vh (l:List ae) (d:Nat) (hb:(iG l d).length<=1099511627776) (hl:l.length<=1099511627776):GF prog 119 [strs l,.v (ii (d:Nat))] [] (.v (sv (iG l d))) []:=by
 have dS:(l.map fun s=>[GV.v (sv s)]).length=l.length:=by simp
 have Bh:=wF l [123,32];unfold iG at hb |-;rw [aL,Bh] at hb;refine ai func119 ntmps119 ?_;refine GW.range (l.map fun s=>[GV.v (sv s)]).length (fun k fr Γ=>fr=[strs l,U,U,U,U,.v (sv (vG [123,32] (l.take k))),U,U,strs l,.v (ii ((l.map fun s=>[GV.v (sv s)]).length:Int)),.v (ii (k:Nat)),U,U,U,U,U,U,U,U,U,U]/\Γ=[]) ?_ X ?_ ?_ ?_
 ·exact jo
 ·rintro k _ _ ⟨rfl,rfl⟩;exact dr
 ·rintro k _ _ au ⟨rfl,rfl⟩;rw [dS] at au
  have dE:l[k]?=some l[k]:=by simp [au]
  have wR:(l.map fun s=>[GV.v (sv s)])[k]?=some [.v (sv l[k])]:=by rw [bp,dE];rfl
  have I:=wF (l.take (k+1)) [123,32];have G:=Tx l (k+1)
  have hz:nH (l.take (k+1))=nH (l.take k)+(l[k].length+1):=by rw [dk,dE,K7];simp [nH]
  have h3:=wF (l.take k) [123,32];rw [show l.take (k+1)=l.take k++[l[k]] by rw [dk,dE];rfl,QL] at |-;generalize l[k]=z at *;generalize vG [123,32] (l.take k)=acc at *;simp only [length_cons,length_nil] at h3 hb
  have DB:acc.length+z.length+3<=1099511627777:=by omega
  refine D ?_;exact zbm
 ·rintro _ _ ⟨rfl,rfl⟩;rw [dS,c7];generalize vG [123,32] l=acc at *;simp only [aL,length_cons,length_nil] at Bh hb;exact ay
theorem acq (ex bk:FuncId) [hf:aO prog ex] (tx:T->ae) (t a:T) (k:Nat) (hk:t.kids[k]?=some a) (h:GF prog ex [uT a] [] (.v (sv (tx a))) []) :
  GF prog 262 [.v (ii (k:Nat)),.box [.v (lu ex),.v (lu bk)] 0,.box [uT t] 0] [] (.v (sv (tx a))) []:=by
 have hr:=zg hk;generalize tx a=x at *;refine ai func262 ntmps262 ?_;refine aM (ax 0 9 (.a 9 (.q 10 .nil))) ?_;refine aj ?_;refine BZ [] h ?_;exact zbU
open Go.Xp (aQ aB)
structure Wr (ex bk:FuncId) (tx:T->ae) (inl:List ae->Nat->ae):Prop where
 expr:∀ a,j0 a=true->uJ a->nE a<=1099511627776->GF prog ex [uT a] [] (.v (sv (tx a))) []
 block:∀ l (d:Nat),(inl l d).length<=1099511627776->l.length<=1099511627776->d<=1099511627776->GF prog bk [strs l,.v (ii (d:Nat))] [] (.v (sv (inl l d))) []
 mem:∀ l d s,s∈l->s.length<=(inl l d).length
theorem CO (ex bk:FuncId) [he:aO prog ex] [hb:aO prog bk] (tx:T->ae) (inl:List ae->Nat->ae) (W:Wr ex bk tx inl) (t:T) (d:Nat) (hd:d+1<=1099511627776) (hl:t.kids.length<=1099511627776) (hlen:(qC tx inl d t).length<=1099511627776)
  (h:∀ a∈t.kids,(nh tx inl (d+1) a).length<=1099511627776->GF prog 208 [.agg [.v (lu ex),.v (lu bk)],uT a,.v (ii ((d+1:Nat):Int))] [] (.v (sv (nh tx inl (d+1) a))) []) :
  GF prog 148 [.agg [.v (lu ex),.v (lu bk)],uT t,.v (ii (d:Nat))] [] (.v (sv (qC tx inl d t))) []:=by
 have qF:=uR t.kids;rw [QF,N5] at hlen |-;have fu:=W.block (t.kids.map (nh tx inl (d+1))) d hlen zge X
 have hk:∀ a∈t.kids,GF prog 208 [.agg [.v (lu ex),.v (lu bk)],uT a,.v (ii ((d+1:Nat):Int))] [] (.v (sv (nh tx inl (d+1) a))) []:=fun a ha =>
  h a ha (jV (W.mem _ d _ (vb.2 ⟨a,ha,rfl⟩)) hlen)
 generalize inl (t.kids.map (nh tx inl (d+1))) d=y at *;refine ai func148 ntmps148 ?_;refine GW.wk (Wk.Ga (t:=7) (a:=none) (c:=0) 9 1 rfl) ?_;refine GW.range (dp t.kids).length (fun k fr Γ=>∃ m rows,fr=[U,U,.v (ii (d:Nat)),.loc 0 0,U,U,U,.vec 1 m,U,U,U,U,U,.sl 1 (dp t.kids),.v (ii ((dp t.kids).length:Int)),.v (ii (k:Nat)),U,U,U,U,U,U,U,U,U,U,U,U,U,U,U,U,U]/\Γ=[.box 138 [.v (lu ex),.v (lu bk)],.vec 9 1 0 rows]/\rows.length=m/\rows=((t.kids.take k).map (nh tx inl (d+1))).map (fun s=>[GV.v (sv s)])/\m=k) ?_ X ?_ ?_ ?_
 ·exact ⟨_,_,Wk.aH ao,0,[],rfl,rfl,rfl,rfl,rfl⟩
 ·rintro k _ _ ⟨m,rows,rfl,rfl,_⟩;exact dr
 ·rintro k _ _ au ⟨m,rows,rfl,rfl,hm,bD,wU⟩;rw [qF] at au
  have dE:t.kids[k]?=some t.kids[k]:=by simp [au]
  have hr:=zg dE;have ht:=hk t.kids[k] (getElem_mem au)
  have cl:((t.kids.take (k+1)).map (nh tx inl (d+1))).map (fun s=>[GV.v (sv s)])=rows++[[.v (sv (nh tx inl (d+1) t.kids[k]))]]:=by rw [dk,dE,bD,l9,l9];rfl
  generalize t.kids[k]=kid at *;generalize nh tx inl (d+1) kid=z at *;refine D ?_;refine V [] ht ?_;exact zdB
 ·rintro _ _ ⟨m,rows,rfl,rfl,hm,bD,wU⟩;rw [qF,c7] at bD;refine bc ?_;refine GW.wk (Wk.jY (t:=7) rfl rfl rfl hm) ?_;subst bD;refine D ?_;refine ln [] fu ?_;exact ay
theorem aca {t:T} {n:Nat} (h:ep t.n.kind t.kids.length=true) (hk:(n=1/\(t.n.kind=13\/t.n.kind=7\/t.n.kind=11\/t.n.kind=12))\/(n=2/\(t.n.kind=8\/t.n.kind=10))):t.kids.length=n:=by
 unfold ep at h
 rcases hk with ⟨rfl,hk⟩ | ⟨rfl,hk⟩
 ·rcases hk with hk | hk | hk | hk <;> rw [hk] at h <;> simp at h <;> omega
 ·exact zfo
theorem aaJ {t:T} (h:ep t.n.kind t.kids.length=true) (hk:t.n.kind=9):t.kids.length=2\/t.kids.length=3:=by
 unfold ep at h;rw [hk] at h;simp at h;omega
theorem Mm (ex bk:FuncId) [he:aO prog ex] [hb:aO prog bk] (tx:T->ae) (inl:List ae->Nat->ae) (W:Wr ex bk tx inl):∀ (N:Nat) (t:T),aQ t<=N->j0 t=true->uJ t->nE t<=1099511627776->∀ d,d+aQ t<=1099511627776->(nh tx inl d t).length<=1099511627776 ->
  GF prog 208 [.agg [.v (lu ex),.v (lu bk)],uT t,.v (ii (d:Nat))] [] (.v (sv (nh tx inl d t))) []:=by
 intro N
 induction N with
 | zero=>intro t h;rw [Go.Xp.fH] at h;omega
 | succ N ih =>
 intro t hN hk hn hw d hd hlen;have gT:=W.expr t hk hn hw;rw [Go.Xp.fH] at hN hd;rw [Go.Im.BC,aK,Go.Im.w8,jb] at hk;rw [Go.Im.uK] at hn;have hwe:=Go.Im.sf t
 have Pg:∀ (l:List T) (a:T),a∈l->aQ a<=aB l:=by
  intro l
  induction l with
  | nil=>intro a h;cases h
  | cons b l ih2 =>
   intro a h;rw [aB]
   rcases fh h with rfl | h
   ·omega
   ·have:=ih2 a h;omega
 have eP:=fun (k:Nat) (a:T) (oz:t.kids[k]?=some a)=>acq ex bk tx t a k oz (W.expr a (hk.2 a (bo oz)) (Go.Im.mI hn.2 (bo oz)) (by have:=Go.Im.xp (bo oz);omega))
 have fu:∀ a∈t.kids,(qC tx inl d a).length<=1099511627776->GF prog 148 [.agg [.v (lu ex),.v (lu bk)],uT a,.v (ii (d:Nat))] [] (.v (sv (qC tx inl d a))) []:=fun a ha yP=>by
  have I:=Pg _ a ha;have G:=Go.Im.xp ha;have h3:=hk.2 a ha;have h4:=Go.Im.mI hn.2 ha;rw [Go.Im.BC,aK,Go.Im.w8,jb] at h3;rw [Go.Im.uK] at h4;have h5:=Go.Xp.fH a;have h6:=Go.Xp.eI a.kids;have h7:=Go.Im.sf a
  refine CO ex bk tx inl W a d X X yP fun b eM hlb=>?_
  have h8:=Pg _ b eM;have h9:=Go.Im.xp eM;exact ih b X (h3.2 b eM) (Go.Im.mI h4.2 eM) X (d+1) X hlb
 rw [Tu] at hlen |-;unfold AP at hlen |-;rw [Mw] at hlen |-;have oV:=@aca t;have adt:=@aaJ t hk.1
 have oV:=fun n=>@oV n hk.1
 unfold uT at gT |-;unfold uT at eP;generalize ny:t.n.kind=kd at *
 by_cases gx:kd=13
 ·subst gx
  have f13:((13:Int)==13)=true:=by decide
  rw [ah rfl] at hlen |-;have kD:=oV 1 (.inl ⟨rfl,.inl rfl⟩)
  obtain ⟨a,ha⟩:∃ a,t.kids=[a]:=by
   match hl:t.kids,kD with
   | [a],_=>exact ⟨a,rfl⟩
  have h0:=eP 0 a zgJ;rw [ha] at hlen |-;rw [ha] at h0;simp only [List.map_cons,map_nil,getD_cons_zero,aL,length_cons,length_nil] at hlen |-;generalize tx a=x at *;generalize dp [a]=rows at *;refine dh func208 ntmps208 ?_;refine zaa ?_;refine aM (ax 0 8 (.a 8 (ax 9 3 .nil))) ?_;refine aj ?_;refine rl [] h0 ?_;exact zbU
 rw [ab gx] at hlen |-
 have g13:(kd==13)=false:=by simpa using gx
 by_cases h7:kd=7
 ·subst h7
  have f13:((7:Int)==13)=false:=by decide
  have f7:((7:Int)==7)=true:=by decide
  rw [ah rfl] at hlen |-;have kD:=oV 1 (.inl ⟨rfl,.inr (.inl rfl)⟩)
  obtain ⟨a,ha⟩:∃ a,t.kids=[a]:=by
   match hl:t.kids,kD with
   | [a],_=>exact ⟨a,rfl⟩
  have h0:=eP 0 a zgJ;rw [ha] at hlen |-;rw [ha] at h0;simp only [List.map_cons,map_nil,getD_cons_zero,aL,length_cons,length_nil] at hlen |-;generalize tx a=x at *;generalize dp [a]=rows at *;refine dh func208 ntmps208 ?_;refine zaa ?_;refine aM (ax 0 7 (.a 7 (ax 8 3 .nil))) ?_;refine aj ?_;refine rl [] h0 ?_;exact zbU
 rw [ab h7] at hlen |-
 have g7:(kd==7)=false:=by simpa using h7
 by_cases h8:kd=8
 ·subst h8
  have f13:((8:Int)==13)=false:=by decide
  have f7:((8:Int)==7)=false:=by decide
  have f8:((8:Int)==8)=true:=by decide
  rw [ah rfl] at hlen |-;have kD:=oV 2 (.inr ⟨rfl,.inl rfl⟩)
  obtain ⟨a,b,ha⟩:∃ a b,t.kids=[a,b]:=by
   match hl:t.kids,kD with
   | [a,b],_=>exact ⟨a,b,rfl⟩
  have h0:=eP 0 a zgJ;have I:=eP 1 b zgJ;rw [ha] at hlen |-;rw [ha] at h0 I;simp only [List.map_cons,map_nil,getD_cons_zero,getD_cons_succ,aL,length_cons,length_nil] at hlen |-;generalize tx a=x at *;generalize tx b=y at *;generalize dp [a,b]=rows at *;refine dh func208 ntmps208 ?_;refine zaa ?_;refine aM (ax 0 7 (.q 10 (.a 7 (.q 8 (.q 9 (.a 11 (ax 12 3 .nil))))))) ?_;refine aj ?_;refine rl [] h0 ?_;refine aj ?_;refine rl [] I ?_;exact zbU
 rw [ab h8] at hlen |-
 have g8:(kd==8)=false:=by simpa using h8
 by_cases h9:kd=9
 ·subst h9
  have f13:((9:Int)==13)=false:=by decide
  have f7:((9:Int)==7)=false:=by decide
  have f8:((9:Int)==8)=false:=by decide
  have f9:((9:Int)==9)=true:=by decide
  rw [ah rfl] at hlen |-
  rcases adt rfl with kD | kD
  ·skip
   obtain ⟨a,b,ha⟩:∃ a b,t.kids=[a,b]:=by
    match hl:t.kids,kD with
    | [a,b],_=>exact ⟨a,b,rfl⟩
   have h0:=eP 0 a zgJ
   have mw:(dp [a,b])[1]?=some [uT b]:=by rw [nM];rfl
   have JX:(dp [a,b]).length=2:=by rw [uR];rfl
   have r6:(((dp [a,b]).length:Int)==3)=false:=by rw [JX];decide
   rw [ha] at hlen |-;rw [ha] at h0;rw [ab zf8] at hlen |-;exact zao
  ·skip
   obtain ⟨a,b,c,ha⟩:∃ a b c,t.kids=[a,b,c]:=by
    match hl:t.kids,kD with
    | [a,b,c],_=>exact ⟨a,b,c,rfl⟩
   have h0:=eP 0 a zgJ
   have mw:(dp [a,b,c])[1]?=some [uT b]:=by rw [nM];rfl
   have eR:(dp [a,b,c])[2]?=some [uT c]:=by rw [nM];rfl
   have JX:(dp [a,b,c]).length=3:=by rw [uR];rfl
   have r6:(((dp [a,b,c]).length:Int)==3)=true:=by rw [JX];decide
   rw [ha] at hlen |-;rw [ha] at h0;rw [ah zf8] at hlen |-;simp only [List.map_cons,map_nil,getD_cons_zero,getD_cons_succ,aL,length_cons,length_nil] at hlen |-;have vk:=fu b (by rw [ha];simp) X;have eM:=fu c (by rw [ha];simp) X;generalize tx a=x at *;generalize qC tx inl d b=y at *;generalize qC tx inl d c=z at *;clear fu eP ih;generalize dp [a,b,c]=rows at *;refine dh func208 ntmps208 ?_;refine zaa ?_;refine aM (.q 0 (ax 4 8 (.a 1 (.q 2 (.q 3 (.a 12 (.q 13 (.q 14 .nil)))))))) ?_;refine aj ?_;refine rl [] h0 ?_;refine aj ?_;refine aC [] vk ?_;refine D ?_;refine aM (ax 0 9 (.a 9 (ax 10 3 .nil))) ?_;refine aj ?_;refine aC [] eM ?_;exact ay
 rw [ab h9] at hlen |-
 have g9:(kd==9)=false:=by simpa using h9
 by_cases qa:kd=10
 ·subst qa
  have f13:((10:Int)==13)=false:=by decide
  have f7:((10:Int)==7)=false:=by decide
  have f8:((10:Int)==8)=false:=by decide
  have f9:((10:Int)==9)=false:=by decide
  have f10:((10:Int)==10)=true:=by decide
  rw [ah rfl] at hlen |-;have kD:=oV 2 (.inr ⟨rfl,.inr rfl⟩)
  ·skip
   obtain ⟨a,b,ha⟩:∃ a b,t.kids=[a,b]:=by
    match hl:t.kids,kD with
    | [a,b],_=>exact ⟨a,b,rfl⟩
   have h0:=eP 0 a zgJ
   have mw:(dp [a,b])[1]?=some [uT b]:=by rw [nM];rfl
   have JX:(dp [a,b]).length=2:=by rw [uR];rfl
   have r6:(((dp [a,b]).length:Int)==3)=false:=by rw [JX];decide
   rw [ha] at hlen |-;rw [ha] at h0;exact zao
 rw [ab qa] at hlen |-
 have g10:(kd==10)=false:=by simpa using qa
 by_cases rY:kd=11
 ·subst rY
  have f13:((11:Int)==13)=false:=by decide
  have f7:((11:Int)==7)=false:=by decide
  have f8:((11:Int)==8)=false:=by decide
  have f9:((11:Int)==9)=false:=by decide
  have f10:((11:Int)==10)=false:=by decide
  have f11:((11:Int)==11)=true:=by decide
  rw [ah rfl] at hlen |-;have kD:=oV 1 (.inl ⟨rfl,.inr (.inr (.inl rfl))⟩)
  obtain ⟨a,ha⟩:∃ a,t.kids=[a]:=by
   match hl:t.kids,kD with
   | [a],_=>exact ⟨a,rfl⟩
  exact zaR
 rw [ab rY] at hlen |-
 have g11:(kd==11)=false:=by simpa using rY
 by_cases oT:kd=12
 ·subst oT
  have f13:((12:Int)==13)=false:=by decide
  have f7:((12:Int)==7)=false:=by decide
  have f8:((12:Int)==8)=false:=by decide
  have f9:((12:Int)==9)=false:=by decide
  have f10:((12:Int)==10)=false:=by decide
  have f11:((12:Int)==11)=false:=by decide
  have f12:((12:Int)==12)=true:=by decide
  rw [ah rfl] at hlen |-;have kD:=oV 1 (.inl ⟨rfl,.inr (.inr (.inr rfl))⟩)
  obtain ⟨a,ha⟩:∃ a,t.kids=[a]:=by
   match hl:t.kids,kD with
   | [a],_=>exact ⟨a,rfl⟩
  exact zaR
 rw [ab oT] at hlen |-
 have g12:(kd==12)=false:=by simpa using oT
 clear fu eP ih;generalize tx t=x at *;refine dh func208 ntmps208 ?_;refine zaa ?_;refine ln [] gT ?_;exact ay
open Go.Xp (cM)
open Go.Sp (Src)
theorem Vu (ex bk:FuncId) [he:aO prog ex] [hb:aO prog bk] (tx:T->ae) (inl:List ae->Nat->ae) (W:Wr ex bk tx inl) (p:Src) (trees:List T) (hlen:(qz tx inl p trees).length<=1099511627776) (hft:p.fns.length=trees.length)
  (hg:p.globals.length<=1099511627776) (ha:p.arrays.length<=1099511627776) (hf:p.fns.length<=1099511627776) (lx:∀ a∈p.arrays,-9223372036854775808<=a.size/\a.size<=9223372036854775807) (Ho:∀ f∈p.fns,f.params.length<=1099511627776)
  (ht:∀ t∈trees,j0 t=true/\uJ t/\nE t<=1099511627776/\aQ t+1<=1099511627776) :
  GF prog 88 [.agg (aq p),.sl 1 (dp trees),.v (lu ex),.v (lu bk)] [] (.v (sv (qz tx inl p trees))) []:=by
 have Hk:(p.globals.map fun s=>[GV.v (sv s)]).length=p.globals.length:=by simp
 have nT:(p.arrays.map bg).length=p.arrays.length:=by simp
 have W6:(p.fns.map aw).length=p.fns.length:=by simp
 have l2:=FI (ef tx inl) (p.fns.zip trees) (eB a1 (eB g1 [] p.globals) p.arrays);have l1:=FI a1 p.arrays (eB g1 [] p.globals);unfold qz at hlen |-;refine ai func88 ntmps88 ?_;refine GW.wk (Wk.Ga (t:=9) (a:=none) (c:=0) 5 1 rfl) ?_;refine GW.range (p.globals.map fun s=>[GV.v (sv s)]).length (fun k fr Γ=>∃ acc m rows,fr=[U,.sl 1 (dp trees),.v (lu ex),.v (lu bk),.loc 0 0,U,U,U,U,.vec 1 m,U,U,U,U,U,U,U,U,strs p.globals,.v (ii ((p.globals.map fun s=>[GV.v (sv s)]).length:Int)),.v (ii (k:Nat)),U,U,U,U,U,U,U,U,U,U,U,U,U,U,U,U,U,U,U,U,U,U,U,U,U,U,U,U,U,U,U,U,U,U,U,U,U,U,U,U,U,U,U,U,U,U,U,U,U,U,U,U,U,U,U,U,U,U,U,U,U]/\Γ=[.box 28 (aq p),.vec 5 1 0 rows]/\rows.length=m/\rows=bN acc/\acc=eB g1 [] (p.globals.take k)) ?_ X ?_ ?_ ?_
 ·exact ⟨_,_,Wk.aH ao,[],0,[],rfl,rfl,rfl,rfl,rfl⟩
 ·rintro k _ _ ⟨acc,m,rows,rfl,rfl,_⟩;exact dr
 ·rintro k _ _ au ⟨acc,m,rows,rfl,rfl,hm,bD,mD⟩;rw [Hk] at au
  have dE:p.globals[k]?=some p.globals[k]:=by simp [au]
  have wR:(p.globals.map fun s=>[GV.v (sv s)])[k]?=some [.v (sv p.globals[k])]:=by rw [bp,dE];rfl
  have cl:eB g1 [] (p.globals.take (k+1))=acc++g1 p.globals[k]:=by rw [dk,dE,mD];exact AY g1 _ _ _
  have hle:=AZ g1 p.globals (k+1) [];rw [cl,aL] at hle
  have hmr:rows.length=acc.length:=by rw [bD];simp [bN]
  generalize p.globals[k]=z at *
  have hz:(g1 z).length=z.length+6:=by unfold g1;simp
  refine D ?_;refine GL.FA (str:=g1 z) rfl rfl rfl az rfl X ?_;refine zaq ?_;exact ⟨rfl,rfl,_,_,Wk.aH ao,acc++g1 z,_,_,rfl,rfl,by rw [aL,hm];simp [bN],by rw [bD];exact (xA acc (g1 z)).symm,cl.symm⟩
 ·rintro _ _ ⟨acc,m,rows,rfl,rfl,hm,bD,mD⟩;rw [Hk,c7] at mD;rw [<-mD] at hlen l1 l2 |-;refine zcC ?_;refine GW.range (p.arrays.map bg).length (fun k fr Γ=>∃ uw m rows,fr=[U,.sl 1 (dp trees),.v (lu ex),.v (lu bk),.loc 0 0,U,U,U,U,.vec 1 m,U,U,U,U,U,U,U,U,U,U,U,U,U,U,U,U,U,U,U,U,U,.sl 2 (p.arrays.map bg),.v (ii ((p.arrays.map bg).length:Int)),.v (ii (k:Nat)),U,U,U,U,U,U,U,U,U,U,U,U,U,U,U,U,U,U,U,U,U,U,U,U,U,U,U,U,U,U,U,U,U,U,U,U,U,U,U,U,U,U,U,U,U,U,U,U]/\Γ=[.box 28 (aq p),.vec 5 1 0 rows]/\rows.length=m/\rows=bN uw/\uw=eB a1 acc (p.arrays.take k)) ?_ X ?_ ?_ ?_
  ·exact ⟨_,_,Wk.aH ao,acc,m,rows,rfl,rfl,hm,bD,rfl⟩
  ·rintro k _ _ ⟨uw,m,rows,rfl,rfl,_⟩;exact dr
  ·clear hm bD;rintro k _ _ au ⟨uw,m,rows,rfl,rfl,hm,bD,Ij⟩;rw [nT] at au
   have dE:p.arrays[k]?=some p.arrays[k]:=by simp [au]
   have wR:(p.arrays.map bg)[k]?=some (bg p.arrays[k]):=by rw [bp,dE];rfl
   have cl:eB a1 acc (p.arrays.take (k+1))=uw++a1 p.arrays[k]:=by rw [dk,dE,Ij];exact AY a1 _ _ _
   have hle:=AZ a1 p.arrays (k+1) acc;rw [cl,aL] at hle
   have hmr:rows.length=uw.length:=by rw [bD];simp [bN]
   have Bu:=lx p.arrays[k] (getElem_mem au);generalize p.arrays[k]=z at *;have hit:=Qp z.size Bu.1 Bu.2;have ue:=BB Bu
   have hz:(a1 z).length=z.name.length+(sn z.size).length+8:=by unfold a1;simp;omega
   unfold bg at wR;refine D ?_;refine aM (ax 0 7 (.a 7 (.q 8 (.q 9 (.a 10 (.q 11 .nil)))))) ?_;refine aj ?_;refine aC [] hit ?_;refine OA rfl rfl (GL.FA (str:=a1 z) rfl rfl rfl az rfl X (GL.nil (bc (dW.mk zf7 ?_))))
   refine TN ?_;refine bm ?_;exact ⟨rfl,rfl,_,_,(Wk.cut (n:=2) (aS _) rfl).trans (Wk.aH ao),uw++a1 z,_,_,rfl,rfl,by rw [aL,hm];simp [bN],by rw [bD];exact (xA uw (a1 z)).symm,cl.symm⟩
  ·clear hm bD;rintro _ _ ⟨uw,m,rows,rfl,rfl,hm,bD,Ij⟩;rw [nT,c7] at Ij;rw [<-Ij] at hlen l2 |-
   have qx:∀ (k:Nat) (f:Go.Sp.Fn),p.fns[k]?=some f->f.params.length<=1099511627776:=fun k f h=>Ho f (bo h)
   refine zcC ?_;refine GW.range (p.fns.map aw).length (fun k fr Γ=>∃ xZ m rows,fr=[U,.sl 1 (dp trees),U,U,U,U,U,U,U,.vec 1 m,U,U,U,U,.loc 2 0,U,U,U,U,U,U,U,U,U,U,U,U,U,U,U,U,U,U,U,U,U,U,U,U,U,U,U,U,U,U,U,U,U,U,U,U,U,U,.sl 3 (p.fns.map aw),.v (ii ((p.fns.map aw).length:Int)),.v (ii (k:Nat)),U,U,U,U,U,U,U,U,U,U,U,U,U,U,U,U,U,U,U,U,U,U,U,U,U,U]/\Γ=[.box 28 (aq p),.vec 5 1 0 rows,.box 138 [.v (lu ex),.v (lu bk)]]/\rows.length=m/\rows=bN xZ/\xZ=eB (ef tx inl) uw ((p.fns.zip trees).take k)) ?_ X ?_ ?_ ?_
   ·exact ⟨_,_,Wk.aH ao,uw,m,rows,rfl,rfl,hm,bD,rfl⟩
   ·rintro k _ _ ⟨xZ,m,rows,rfl,rfl,_⟩;exact dr
   ·clear hm bD;rintro k _ _ au ⟨xZ,m,rows,rfl,rfl,hm,bD,Ik⟩;rw [W6] at au
    have lI:k < trees.length:=by omega
    have dE:p.fns[k]?=some p.fns[k]:=by simp [au]
    have AL:trees[k]?=some trees[k]:=by simp [lI]
    have wR:(p.fns.map aw)[k]?=some (aw p.fns[k]):=by rw [bp,dE];rfl
    have aek:=zg AL
    have hkz:(p.fns.zip trees)[k]?=some (p.fns[k],trees[k]):=by rw [List.getElem?_zip_eq_some];exact ⟨dE,AL⟩
    have cl:eB (ef tx inl) uw ((p.fns.zip trees).take (k+1))=xZ++ef tx inl (p.fns[k],trees[k]):=by rw [dk,hkz,Ik];exact AY (ef tx inl) _ _ _
    have hle:=AZ (ef tx inl) (p.fns.zip trees) (k+1) uw;rw [cl,aL] at hle
    have hmr:rows.length=xZ.length:=by rw [bD];simp [bN]
    obtain ⟨q1,q2,q3,q4⟩:=ht trees[k] (getElem_mem lI);have R9:=qx k _ dE;generalize p.fns[k]=f at *;generalize trees[k]=t at *
    have hz:(ef tx inl (f,t)).length=f.name.length+(cM f.params).length+(qC tx inl 0 t).length+9:=by unfold ef;simp;omega
    have hJ:=Qq f.params X R9
    have Pg:∀ (l:List T) (a:T),a∈l->aQ a<=aB l:=by
     intro l
     induction l with
     | nil=>intro a h;cases h
     | cons b l ih2 =>
      intro a h;rw [aB]
      rcases fh h with rfl | h
      ·omega
      ·have:=ih2 a h;omega
    have hB:=CO ex bk tx inl W t 0 X (by have:=Go.Xp.eI t.kids;have:=Go.Xp.fH t;omega) X fun a RQ yP=>by
     have I:=Pg _ a RQ;have G:=Go.Xp.fH t;have h3:=xp RQ;have h4:=sf t;rw [BC,aK,w8,jb] at q1;rw [uK] at q2;exact Mm ex bk tx inl W _ a (aI _) (q1.2 a RQ) (mI q2.2 RQ) X (0+1) X yP
    unfold aw at wR;refine D ?_;refine aM (ax 0 7 (ax 10 5 (.a 7 (.q 8 (.q 9 (.a 15 (.q 16 (.q 17 (.a 18 (.q 19 .nil)))))))))) ?_;refine aj ?_;refine aC [] hJ ?_;refine aC [] hB ?_;refine OA rfl rfl (GL.FA (str:=ef tx inl (f,t)) rfl rfl rfl az rfl X (GL.nil (bc (dW.mk zf7 ?_))))
    refine TN ?_;refine bm ?_;exact ⟨rfl,rfl,_,_,(Wk.cut (n:=3) (aS _) rfl).trans (Wk.aH ao),xZ++ef tx inl (f,t),_,_,rfl,rfl,by rw [aL,hm];simp [bN],by rw [bD];exact (xA xZ _).symm,cl.symm⟩
   ·clear hm bD;rintro _ _ ⟨xZ,m,rows,rfl,rfl,hm,bD,Ik⟩;rw [W6,show (p.fns.zip trees).take p.fns.length=p.fns.zip trees from n7 zgD] at Ik;rw [<-Ik] at hlen |-;refine bc ?_;refine GW.wk (Wk.jY (t:=9) rfl rfl rfl hm) ?_
    have ad4:rows=xZ.map fun c=>[.v (.int .u8 (c.toNat:Int))]:=bD
    exact ay
end Go.Xg
namespace Go.Xg
open Go.RowKit Go.Xw Go.Proofs Tryz
open GV (U)
open Go.Im (gV vg vh wI px qQ)
attribute [local irreducible] GW GL GO YG GC GA aU aW
theorem Mo (a b:List ae) (ha:a.length<=1099511627776) (hb:b.length<=1099511627776):GF prog 121 [strs a,strs b] [] (.v (.bool (gV (fun x y=>x==y) a b))) []:=by
 have nT:(a.map fun s=>[GV.v (sv s)]).length=a.length:=by simp
 have uf:(b.map fun s=>[GV.v (sv s)]).length=b.length:=by simp
 by_cases hl:a.length=b.length
 ·have hd:(((a.map fun s=>[GV.v (sv s)]).length:Int) != ((b.map fun s=>[GV.v (sv s)]).length:Int))=false:=by rw [nT,uf,hl];simp
  refine ai func121 ntmps121 ?_;refine GW.range (a.map fun s=>[GV.v (sv s)]).length (fun k fr Γ=>fr=[strs a,strs b,U,U,U,U,U,U,U,U,U,U,.v (ii ((a.map fun s=>[GV.v (sv s)]).length:Int)),.v (ii (k:Nat)),U,U,U,U,U,U,U,U,U,U,U,U]/\Γ=[]/\wI (fun x y=>x==y) a b k) ?_ X ?_ ?_ ?_
  ·exact zbq
  ·exact jn
  ·rintro k _ _ au ⟨rfl,rfl,gn⟩;rw [nT] at au
   have oz:a[k]?=some a[k]:=by simp [au]
   have tL:k < b.length:=by omega
   have qe:b[k]?=some b[k]:=by simp [tL]
   have JV:(a.map fun s=>[GV.v (sv s)])[k]?=some [GV.v (sv a[k])]:=by rw [bp,oz];rfl
   have JW:(b.map fun s=>[GV.v (sv s)])[k]?=some [GV.v (sv b[k])]:=by rw [bp,qe];rfl
   generalize a[k]=x at *;generalize b[k]=y at *
   cases mV:(x==y) with
   | true =>
    have hn:(x != y)=false:=by simp only [bne,mV];rfl
    have cx:(!(x==y))=false:=by rw [mV];rfl
    refine zdj ?_;exact zco
   | false =>
    have hn:(x != y)=true:=by simp only [bne,mV];rfl
    have cx:(!(x==y))=true:=by rw [mV];rfl
    exact zfE
  ·rintro _ _ ⟨rfl,rfl,gn⟩;exact zcD
 ·have hd:(((a.map fun s=>[GV.v (sv s)]).length:Int) != ((b.map fun s=>[GV.v (sv s)]).length:Int))=true:=by rw [nT,uf];simpa using by omega
  rw [vg hl];refine ai func121 ntmps121 ?_;exact al
theorem X1 (a b:List Int) (ha:a.length<=1099511627776) (hb:b.length<=1099511627776):GF prog 182 [ints a,ints b] [] (.v (.bool (gV (fun x y=>x==y) a b))) []:=by
 have nT:(a.map fun s=>[GV.v (ii s)]).length=a.length:=by simp
 have uf:(b.map fun s=>[GV.v (ii s)]).length=b.length:=by simp
 by_cases hl:a.length=b.length
 ·have hd:(((a.map fun s=>[GV.v (ii s)]).length:Int) != ((b.map fun s=>[GV.v (ii s)]).length:Int))=false:=by rw [nT,uf,hl];simp
  refine ai func182 ntmps182 ?_;refine GW.range (a.map fun s=>[GV.v (ii s)]).length (fun k fr Γ=>fr=[ints a,ints b,U,U,U,U,U,U,U,U,U,U,.v (ii ((a.map fun s=>[GV.v (ii s)]).length:Int)),.v (ii (k:Nat)),U,U,U,U,U,U,U,U,U,U,U,U]/\Γ=[]/\wI (fun x y=>x==y) a b k) ?_ X ?_ ?_ ?_
  ·exact zbq
  ·exact jn
  ·rintro k _ _ au ⟨rfl,rfl,gn⟩;rw [nT] at au
   have oz:a[k]?=some a[k]:=by simp [au]
   have tL:k < b.length:=by omega
   have qe:b[k]?=some b[k]:=by simp [tL]
   have JV:(a.map fun s=>[GV.v (ii s)])[k]?=some [GV.v (ii a[k])]:=by rw [bp,oz];rfl
   have JW:(b.map fun s=>[GV.v (ii s)])[k]?=some [GV.v (ii b[k])]:=by rw [bp,qe];rfl
   generalize a[k]=x at *;generalize b[k]=y at *
   cases mV:(x==y) with
   | true =>
    have hn:(x != y)=false:=by simp only [bne,mV];rfl
    have cx:(!(x==y))=false:=by rw [mV];rfl
    refine zdj ?_;exact zco
   | false =>
    have hn:(x != y)=true:=by simp only [bne,mV];rfl
    have cx:(!(x==y))=true:=by rw [mV];rfl
    exact zfE
  ·rintro _ _ ⟨rfl,rfl,gn⟩;exact zcD
 ·have hd:(((a.map fun s=>[GV.v (ii s)]).length:Int) != ((b.map fun s=>[GV.v (ii s)]).length:Int))=true:=by rw [nT,uf];simpa using by omega
  rw [vg hl];refine ai func182 ntmps182 ?_;exact al
open Go.Xp (Nd)
open Go.Im (u6 nY)
theorem VV (a b:Go.Sp.Fn) (ha:a.params.length<=1099511627776) (hb:b.params.length<=1099511627776):GF prog 124 [.agg (aw a),.agg (aw b)] [] (.v (.bool (u6 a b))) []:=by
 have he:=Mo a.params b.params ha hb;unfold u6 aw
 cases I:(a.name==b.name) with
 | false =>
  refine ai func124 ntmps124 ?_;exact al
 | true =>
  cases G:gV (fun x y=>x==y) a.params b.params with
  | false =>
   exact zeJ
  | true =>
   exact zeJ
theorem P1 (a b:Nd) (ha:a.kids.length<=1099511627776) (hb:b.kids.length<=1099511627776):GF prog 126 [.agg (aV a),.agg (aV b)] [] (.v (.bool (nY a b))) []:=by
 have he:=X1 a.kids b.kids ha hb;unfold nY aV;generalize gV (fun x y=>x==y) a.kids b.kids=q at *
 cases I:(a.kind==b.kind) with
 | false =>
  exact ze2
 | true =>
  cases G:(a.n==b.n) with
  | false =>
   exact ze2
  | true =>
   cases h3:(a.s==b.s) with
   | false =>
    exact ze2
   | true =>
    refine ai func126 ntmps126 ?_;refine V [] he ?_;exact al
theorem LB (a b:List Go.Sp.Fn) (ha:a.length<=1099511627776) (hb:b.length<=1099511627776) (ka:∀ x∈a,x.params.length<=1099511627776) (kb:∀ x∈b,x.params.length<=1099511627776) :
  GF prog 123 [.sl 3 (a.map aw),.sl 3 (b.map aw),.v (.func (.func 124) #[] #[])] [] (.v (.bool (gV u6 a b))) []:=by
 have nT:(a.map aw).length=a.length:=by simp
 have uf:(b.map aw).length=b.length:=by simp
 by_cases hl:a.length=b.length
 ·have hd:(((a.map aw).length:Int) != ((b.map aw).length:Int))=false:=by rw [nT,uf,hl];simp
  refine ai func123 ntmps123 ?_;refine GW.range (a.map aw).length (fun k fr Γ=>fr=[U,.sl 3 (b.map aw),.v (.func (.func 124) #[] #[]),U,U,U,U,U,U,U,U,U,U,U,U,.sl 3 (a.map aw),.v (ii ((a.map aw).length:Int)),.v (ii (k:Nat)),U,U,U,U,U,U,U,U,U,U,U,U,U,U]/\Γ=[]/\wI u6 a b k) ?_ X ?_ ?_ ?_
  ·exact zbq
  ·exact jn
  ·rintro k _ _ au ⟨rfl,rfl,gn⟩;rw [nT] at au
   have oz:a[k]?=some a[k]:=by simp [au]
   have tL:k < b.length:=by omega
   have qe:b[k]?=some b[k]:=by simp [tL]
   have JV:(a.map aw)[k]?=some (aw a[k]):=by rw [bp,oz];rfl
   have JW:(b.map aw)[k]?=some (aw b[k]):=by rw [bp,qe];rfl
   have hs:=VV a[k] b[k] (ka _ (getElem_mem au)) (kb _ (getElem_mem tL));generalize a[k]=x at *;generalize b[k]=y at *;unfold aw at JV JW hs
   cases mV:u6 x y with
   | true =>
    exact zb1
   | false =>
    rw [mV] at hs;rw [vh oz qe (p:=u6) mV];refine D ?_;refine ln [] hs ?_;exact ay
  ·rintro _ _ ⟨rfl,rfl,gn⟩;exact zcD
 ·have hd:(((a.map aw).length:Int) != ((b.map aw).length:Int))=true:=by rw [nT,uf];simpa using by omega
  rw [vg hl];refine ai func123 ntmps123 ?_;exact al
theorem LC (a b:List Nd) (ha:a.length<=1099511627776) (hb:b.length<=1099511627776) (ka:∀ x∈a,x.kids.length<=1099511627776) (kb:∀ x∈b,x.kids.length<=1099511627776) :
  GF prog 125 [.sl 5 (a.map aV),.sl 5 (b.map aV),.v (.func (.func 126) #[] #[])] [] (.v (.bool (gV nY a b))) []:=by
 have nT:(a.map aV).length=a.length:=by simp
 have uf:(b.map aV).length=b.length:=by simp
 by_cases hl:a.length=b.length
 ·have hd:(((a.map aV).length:Int) != ((b.map aV).length:Int))=false:=by rw [nT,uf,hl];simp
  refine ai func125 ntmps125 ?_;refine GW.range (a.map aV).length (fun k fr Γ=>fr=[U,.sl 5 (b.map aV),.v (.func (.func 126) #[] #[]),U,U,U,U,U,U,U,U,U,U,U,U,.sl 5 (a.map aV),.v (ii ((a.map aV).length:Int)),.v (ii (k:Nat)),U,U,U,U,U,U,U,U,U,U,U,U,U,U]/\Γ=[]/\wI nY a b k) ?_ X ?_ ?_ ?_
  ·exact zbq
  ·exact jn
  ·rintro k _ _ au ⟨rfl,rfl,gn⟩;rw [nT] at au
   have oz:a[k]?=some a[k]:=by simp [au]
   have tL:k < b.length:=by omega
   have qe:b[k]?=some b[k]:=by simp [tL]
   have JV:(a.map aV)[k]?=some (aV a[k]):=by rw [bp,oz];rfl
   have JW:(b.map aV)[k]?=some (aV b[k]):=by rw [bp,qe];rfl
   have hs:=P1 a[k] b[k] (ka _ (getElem_mem au)) (kb _ (getElem_mem tL));generalize a[k]=x at *;generalize b[k]=y at *;unfold aV at JV JW hs
   cases mV:nY x y with
   | true =>
    exact zb1
   | false =>
    rw [mV] at hs;rw [vh oz qe (p:=nY) mV];refine D ?_;refine ln [] hs ?_;exact ay
  ·rintro _ _ ⟨rfl,rfl,gn⟩;exact zcD
 ·have hd:(((a.map aV).length:Int) != ((b.map aV).length:Int))=true:=by rw [nT,uf];simpa using by omega
  rw [vg hl];refine ai func125 ntmps125 ?_;exact al
end Go.Xg
namespace Go.Xg
open Go.RowKit Go.Xw Go.Proofs Tryz
open GV (U)
open Go.Xp (Ar)
open Go.Im (CP gV vg vh wI px qQ)
theorem abM (w:World) (s s':ae) (n n':Int):(Op.equalIn 10000 98 (.agg #[sv s,ii n]) (.agg #[sv s',ii n'])).run prog w=.ok ((s==s')&&(n==n')) w:=by
 have hf:(prog.fieldsOf 98).toList=[(prog.fieldsOf 98)[0]!,(prog.fieldsOf 98)[1]!]:=by kernel_rfl
 have a0:((prog.fieldsOf 98)[0]!).type=9:=by kernel_rfl
 have a1:((prog.fieldsOf 98)[1]!).type=3:=by kernel_rfl
 have b0:((prog.fieldsOf 98)[0]!).offset=0:=by kernel_rfl
 have b1:((prog.fieldsOf 98)[1]!).offset=1:=by kernel_rfl
 have c0:((prog.fieldsOf 98)[0]!).name = "Name" := by kernel_rfl
 have c1:((prog.fieldsOf 98)[1]!).name = "Size" := by kernel_rfl
 rw [show (10000:Nat)=9999+1 from rfl,run_equalIn_agg w 9999 _ _ _ (by kernel_rfl) (by kernel_rfl),hf];generalize (prog.fieldsOf 98)[0]! = f0 at *;generalize (prog.fieldsOf 98)[1]! = ef at *
 have hs:prog.underlying 9=some .string:=by kernel_rfl
 have hi:prog.underlying 3=some (.int .i64):=by kernel_rfl
 have p0:∀ (a:ae) (b:Int) w,(part f0.type #[sv a,ii b] f0.offset).run prog w=.ok (sv a) w:=fun a b w=>by
  rw [a0,b0];rfl
 have p1:∀ (a:ae) (b:Int) w,(part ef.type #[sv a,ii b] ef.offset).run prog w=.ok (ii b) w:=fun a b w=>by
  rw [a1,b1];rfl
 have e0:∀ w,(Op.equalIn 9999 f0.type (sv s) (sv s')).run prog w=.ok (s==s') w:=fun w=>by
  rw [a0,show (9999:Nat)=9998+1 from rfl];have:=run_equalIn_string (P:=prog) w 9998 9 ⟨s.toArray⟩ ⟨s'.toArray⟩ hs;rw [show sv s=.string ⟨s.toArray⟩ from rfl,show sv s'=.string ⟨s'.toArray⟩ from rfl,this];simp [toList_mk]
 have e1:∀ w,(Op.equalIn 9999 ef.type (ii n) (ii n')).run prog w=.ok (n==n') w:=fun w=>by
  rw [a1,show (9999:Nat)=9998+1 from rfl];exact run_equalIn_int (P:=prog) w 9998 3 .i64 .i64 n n' hi
 have n0:f0.name ≠ "_" := by rw [c0];decide
 have n1:ef.name ≠ "_" := by rw [c1];decide
 rw [Op.eqFields,ah n0];simp only [Sem.run_bind,p0,Result.andThen_ok,e0]
 cases s==s' with
 | false=>simp
 | true =>
  simp only [Bool.not_true,Bool.false_eq_true,if_false,Bool.true_and];rw [Op.eqFields,ah n1];simp only [Sem.run_bind,p1,Result.andThen_ok,e1]
  cases n==n' with
  | false=>simp
  | true=>simp [Op.eqFields]
theorem YG.aaT {fr:List GV} {Γ:List Ob} {x y:Operand} {t':TypeId} {s s':ae} {n n':Int} (hx:bq fr x=.agg [.v (sv s),.v (ii n)]) (hy:bq fr y=.agg [.v (sv s'),.v (ii n')]) :
  YG prog (.binOp .neq 98 x y t') fr Γ (.v (.bool (!((s==s')&&(n==n'))))):=fun B K β w l hI hF=>by
 have two:∀ {v:Value} {a b:Value},Rel K β v (.agg [.v a,.v b])->v=.agg #[a,b]:=fun {v a b} h=>by
  cases h with
  | agg vs _ hl hh =>
   match vs,hl with
   | [u1,u2],_ =>
    have I:=Rel.eJ (hh 0 u1 (.v a) rfl rfl);have G:=Rel.eJ (hh 1 u2 (.v b) rfl rfl);rw [I,G]
 have w5:=two (by rw [<-hx];exact hF.ev x);have hyv:=two (by rw [<-hy];exact hF.ev y);refine ⟨_,fun d ty pos af=>?_,.v _⟩;have hg:=run_eqGuard_agg (P:=prog) w .neq 98 x y #[sv s,ii n] #[sv s',ii n'] (by kernel_rfl);have hn:=run_neq_struct (P:=prog) w 98 #[sv s,ii n] #[sv s',ii n'];rw [abM,Result.andThen_ok] at hn;simp [execOp,w5,hyv,hg,hn]
attribute [local irreducible] GW GL GO YG GC GA aU aW
theorem X0 (a b:List Ar) (ha:a.length<=1099511627776) (hb:b.length<=1099511627776):GF prog 122 [(.sl 2 (a.map fun s=>bg s)),(.sl 2 (b.map fun s=>bg s))] [] (.v (.bool (gV CP a b))) []:=by
 have nT:(a.map fun s=>bg s).length=a.length:=by simp
 have uf:(b.map fun s=>bg s).length=b.length:=by simp
 by_cases hl:a.length=b.length
 ·have hd:(((a.map fun s=>bg s).length:Int) != ((b.map fun s=>bg s).length:Int))=false:=by rw [nT,uf,hl];simp
  refine ai func122 ntmps122 ?_;refine GW.range (a.map fun s=>bg s).length (fun k fr Γ=>fr=[(.sl 2 (a.map fun s=>bg s)),(.sl 2 (b.map fun s=>bg s)),U,U,U,U,U,U,U,U,U,U,.v (ii ((a.map fun s=>bg s).length:Int)),.v (ii (k:Nat)),U,U,U,U,U,U,U,U,U,U,U,U]/\Γ=[]/\wI CP a b k) ?_ X ?_ ?_ ?_
  ·exact zbq
  ·exact jn
  ·rintro k _ _ au ⟨rfl,rfl,gn⟩;rw [nT] at au
   have oz:a[k]?=some a[k]:=by simp [au]
   have tL:k < b.length:=by omega
   have qe:b[k]?=some b[k]:=by simp [tL]
   have JV:(a.map fun s=>bg s)[k]?=some (bg a[k]):=by rw [bp,oz];rfl
   have JW:(b.map fun s=>bg s)[k]?=some (bg b[k]):=by rw [bp,qe];rfl
   generalize a[k]=x at *;generalize b[k]=y at *;unfold bg at JV JW
   cases mV:CP x y with
   | true =>
    have cx:(!((x.name==y.name)&&(x.size==y.size)))=false:=by rw [show ((x.name==y.name)&&(x.size==y.size))=CP x y from rfl,mV];rfl
    refine zdj ?_;refine aj ?_;apply OP
    ·exact rfl
    ·intro Γ;exact YG.aaT rfl rfl
    refine l7 ?_;exact zco
   | false =>
    have cx:(!((x.name==y.name)&&(x.size==y.size)))=true:=by rw [show ((x.name==y.name)&&(x.size==y.size))=CP x y from rfl,mV];rfl
    rw [vh oz qe (p:=CP) mV];refine zdj ?_;refine aj ?_;apply OP
    ·exact rfl
    ·intro Γ;exact YG.aaT rfl rfl
    refine l7 ?_;exact zbU
  ·rintro _ _ ⟨rfl,rfl,gn⟩;exact zcD
 ·have hd:(((a.map fun s=>bg s).length:Int) != ((b.map fun s=>bg s).length:Int))=true:=by rw [nT,uf];simpa using by omega
  rw [vg hl];refine ai func122 ntmps122 ?_;exact al
end Go.Xg
set_option maxHeartbeats 1000000
namespace Go.Xg
open Go.RowKit Go.Xw Go.Proofs Tryz Go.Sp Go.Im
open GV (U)
open Go.Xp (T one levels)
attribute [local irreducible] GW GL GO YG GC GA aU aW
structure Mp (f:Nat):Prop where
 expr:∀ d p t q x,p.ok->d+f<=1099511627776->iE f (.expr d) p=some (t,q)->GF prog 291 [.loc 0 0,.v (ii (d:Nat))] [cL p x] (qT t) [cL q x]
 level:∀ k d p t q x,p.ok->k<=9->d+f<=1099511627776->iE f (.level k d) p=some (t,q)->GF prog 303 [.loc 0 0,.v (ii (k:Nat)),.v (ii (d:Nat))] [cL p x] (qT t) [cL q x]
 operand:∀ d p t q x,p.ok->d+f<=1099511627776->iE f (.operand d) p=some (t,q)->GF prog 309 [.loc 0 0,.v (ii (d:Nat))] [cL p x] (qT t) [cL q x]
 exprs:∀ d p l q x,p.ok->d+f<=1099511627776->iA f d [] p=some (l,q)->GF prog 312 [.loc 0 0,.v (ii (d:Nat))] [cL p x] (.sl 1 (nD l)) [cL q x]
theorem Lz:GF prog 257 [.v (ii 0),.v (ii 0),.v (sv []),.sl 1 []] [] (qT T.zero) []:=fR 0 0 [] [] [] rfl
theorem Z9 {f:Nat} (C:Mp f) (d:Nat) (p:RS) (t:T) (q:RS) (x:PX) (hp:p.ok) (hd:d+(f+1)<=1099511627776) (h:iE (f+1) (.expr d) p=some (t,q)) :
  GF prog 291 [.loc 0 0,.v (ii (d:Nat))] [cL p x] (qT t) [cL q x]:=by
 rw [iE] at h;have eX:=zG p d x hp
 by_cases hc:(cP p d).code=0
 ·have dP:((cP p d).code==0)=true:=by simpa using hc
  rw [ah hc] at h;rw [dP] at eX;rw [rW hc] at h eX;have hl:=C.level 0 (d+1) p t q x hp X X h;refine ai func291 ntmps291 ?_;refine V [0] eX ?_;refine V [0] hl ?_;exact al
 ·have dP:((cP p d).code==0)=false:=by simpa using hc
  rw [ab hc] at h;rw [dP] at eX;cases h;refine ai func291 ntmps291 ?_;exact zd6
theorem YP {f:Nat} (C:∀ f',f'<=f->Mp f') (k d:Nat) (p:RS) (t:T) (q:RS) (x:PX) (hp:p.ok) (hk:k<=9) (hd:d+(f+1)<=1099511627776) (h:iE (f+1) (.level k d) p=some (t,q)) :
  GF prog 303 [.loc 0 0,.v (ii (k:Nat)),.v (ii (d:Nat))] [cL p x] (qT t) [cL q x]:=by
 rw [iE] at h
 by_cases C0:k=9
 ·subst C0;rw [ah rfl] at h;have ho:=(C f (aI _)).operand d p t q x hp X h;refine ai func303 ntmps303 ?_;refine V [] xc ?_;refine V [0] ho ?_;exact al
 ·rw [ab C0] at h
  have adr:((k:Int)==9)=false:=by simp;omega
  cases he:iE f (.level (k+1) d) p with
  | none=>exact za3
  | some r =>
   obtain ⟨out,p1⟩:=r;rw [he] at h;simp only at h;have mU:=((lU f).1 _ _ _ _ hp he).ok hp;have hl:=(C f (aI _)).level (k+1) d p out p1 x hp X X he;refine ai func303 ntmps303 ?_;refine V [] xc ?_;refine V [0] hl ?_;refine GW.loop (fun z:Nat × T × RS=>z.1) (fun z fr Γ=>fr=[.loc 0 0,.v (ii (k:Nat)),.v (ii (d:Nat)),U,U,U,U,qT z.2.1,U,U,U,U,U,U,U,U,U,U,U,U,U,U,U,U,U,U,U,U,U,U,U,U,U,U,U,U,U,U,U,U,U,U,U,U,U,U,U,U,U,U,U,U,U,U,U,U,U,U,U,U,U,U,U,U]/\Γ=[cL z.2.2 x]/\z.2.2.ok/\z.1<=f/\iE z.1 (.loop k d z.2.1) z.2.2=some (t,q)) (f,out,p1) ?_ ?_
   ·exact ⟨_,_,Wk.aH ao,rfl,rfl,mU,aI _,h⟩
   ·clear h he hl;rintro ⟨g,out,p⟩ _ _ ⟨rfl,rfl,hp,RW,h⟩;simp only at hp RW h
    cases g with
    | zero=>simp [iE] at h
    | succ g =>
    rw [iE] at h
    have hk:k < 9:=by omega
    have ht:=u9 p 0 x hp aD
    by_cases hc:p.code=0
    ·have dP:(p.code==0)=true:=by simpa using hc
     by_cases h3:(tok p 0).kind=3
     ·have nt:((tok p 0).kind==3)=true:=by simpa using h3
      have vn:=ND hk;have WY:=ke (levels.getD k []) (tok p 0).s (F3 k hk)
      by_cases hit:(levels.getD k []).contains (tok p 0).s=true
      ·rw [ah ⟨hc,h3,hit⟩] at h;rw [hit] at WY;have au:p.i < p.l.length:=vA (k:=0) X;have cH:=hp.2
       cases hb:iE g (.level (k+1) d) p.next with
       | none=>exact zba
       | some r =>
        obtain ⟨b,p2⟩:=r;rw [hb] at h;simp only at h;have en:=(cX au).ok hp;have eY:=((lU g).1 _ _ _ _ en hb).ok en
        have nz:=(C g X).level (k+1) d p.next b p2 x en X X hb
        generalize tok p 0=tk at *;have kT:=fR 6 tk.at_ tk.s [out,b] [[qT out],[qT b]] (jN _);refine zfk ?_;refine D ?_;refine zeV ?_;refine aM (ax 0 9 (.a 9 (.a 10 (.a 11 (.q 12 .nil))))) ?_;refine aj ?_;refine aC [0] nz ?_;refine zat ?_;refine aC [] kT ?_;refine D ?_;exact ⟨(g,one 6 tk.at_ tk.s [out,b],p2),⟨_,_,(Wk.cut (n:=1) (c6 rfl) rfl).trans (Wk.aH ao),rfl,rfl,eY,by omega,h⟩,by simp⟩
      ·have hit:(levels.getD k []).contains (tok p 0).s=false:=by simpa using hit
       rw [ab (by rw [hit];simp)] at h
       obtain ⟨rfl,rfl⟩:out=t/\p=q:=by simpa using h
       rw [hit] at WY;generalize tok p 0=tk at *;refine zfk ?_;exact zd3
     ·have nt:((tok p 0).kind==3)=false:=by simpa using h3
      rw [ab (fun hh=>h3 hh.2.1)] at h
      obtain ⟨rfl,rfl⟩:out=t/\p=q:=by simpa using h
      generalize tok p 0=tk at *;refine zaI ?_;refine aj ?_;refine bZ [0] ht ?_;exact zd3
    ·have dP:(p.code==0)=false:=by simpa using hc
     rw [ab (fun hh=>hc hh.1)] at h
     obtain ⟨rfl,rfl⟩:out=t/\p=q:=by simpa using h
     refine zaI ?_;refine bm ?_;refine kB ?_;exact ay
theorem Yp {f:Nat} (C:∀ f',f'<=f->Mp f') (d:Nat) (p:RS) (l:List T) (q:RS) (x:PX) (hp:p.ok) (hd:d+(f+1)<=1099511627776) (h:iA (f+1) d [] p=some (l,q)) :
  GF prog 312 [.loc 0 0,.v (ii (d:Nat))] [cL p x] (.sl 1 (nD l)) [cL q x]:=by
 refine ai func312 ntmps312 ?_;refine GW.wk (Wk.Ga (t:=5) (a:=none) (c:=0) 79 1 rfl) ?_;refine GW.loop (fun z:Nat × List T × RS=>z.1) (fun z fr Γ=>∃ n rows,fr=[.loc 0 0,.v (ii (d:Nat)),U,U,U,.vec 1 n,U,U,U,U,U,U,U,U,U,U,U,U,U,U,U,U,U,U,U,U,U,U,U,U,U,U]/\Γ=[cL z.2.2 x,.vec 79 1 0 rows]/\rows.length=n/\rows=nD z.2.1/\n+z.1<=f+1/\z.2.2.ok/\iA z.1 d z.2.1 z.2.2=some (l,q)) (f+1,[],p) ?_ ?_
 ·exact ⟨_,_,Wk.aH ao,0,[],rfl,rfl,rfl,rfl,by simp,hp,h⟩
 ·clear h hp;rintro ⟨g,acc,p⟩ _ _ ⟨n,rows,rfl,rfl,hn,bD,C3,hp,h⟩;simp only at bD C3 hp h
  cases g with
  | zero=>simp [iA] at h
  | succ g =>
  rw [iA] at h;have hi:=mW p 0 [41] x hp aD
  have mD:acc.length=n:=by rw [<-hn,bD,qs]
  by_cases hc:p.code=0
  ·have dP:(p.code==0)=true:=by simpa using hc
   cases hs:is p 0 [41] with
   | true =>
    rw [hs] at hi;rw [ab (fun hh=>by have:=hh.2;rw [hs] at this;cases this)] at h
    obtain ⟨rfl,rfl⟩:acc=l/\want p [41]=q:=by simpa using h
    have hw:=gA p [41] x hp;subst bD;refine zb2 ?_;refine kB ?_;refine D ?_;exact zeT
   | false =>
    rw [hs] at hi;rw [ah ⟨hc,hs⟩] at h
    by_cases h0:acc.length=0
    ·rw [ah h0] at h
     have vi:decide ((0:Int) < (n:Int))=false:=by simpa using by omega
     cases hb:iE g (.expr d) p with
     | none=>exact zba
     | some r =>
      obtain ⟨a,p2⟩:=r;rw [hb] at h;simp only at h;have eY:=((lU g).1 _ _ _ _ hp hb).ok hp;have he:=(C g X).expr d p a p2 x hp X hb;refine zb2 ?_;exact zbR
    ·rw [ab h0] at h
     have vi:decide ((0:Int) < (n:Int))=true:=by simpa using by omega
     have pz:=(dq hp [44]).ok hp;have hw:=gA p [44] x hp
     cases hb:iE g (.expr d) (want p [44]) with
     | none=>exact zba
     | some r =>
      obtain ⟨a,p2⟩:=r;rw [hb] at h;simp only at h;have eY:=((lU g).1 _ _ _ _ pz hb).ok pz;have he:=(C g X).expr d _ a p2 x pz X hb;refine zb2 ?_;refine zaP ?_;exact zbR
  ·have dP:(p.code==0)=false:=by simpa using hc
   rw [ab (fun hh=>hc hh.1)] at h
   obtain ⟨rfl,rfl⟩:acc=l/\want p [41]=q:=by simpa using h
   have hw:=gA p [41] x hp;subst bD;refine zbG ?_;exact zeT
theorem Td {f:Nat} (C:Mp f) (d:Nat) (p:RS) (t:T) (q:RS) (x:PX) (hp:p.ok) (hd:d+(f+1)<=1099511627776) (h:iE (f+1) (.operand d) p=some (t,q)) :
  GF prog 309 [.loc 0 0,.v (ii (d:Nat))] [cL p x] (qT t) [cL q x]:=by
 rw [iE] at h;have eX:=zG p d x hp;have ht:=u9 p 0 x hp aD
 by_cases hc:(cP p d).code=0
 case neg =>
  have dP:((cP p d).code==0)=false:=by simpa using hc
  rw [ab hc] at h;rw [dP] at eX;cases h;refine ai func309 ntmps309 ?_;refine zeV ?_;exact zd6
 case pos =>
 have dP:((cP p d).code==0)=true:=by simpa using hc
 rw [ah hc] at h;rw [dP,rW hc] at eX;clear hc dP;have I:=mW p 0 [45] x hp aD;have G:=mW p 0 [33] x hp aD;have h3:=mW p 0 [126] x hp aD;have cH:=hp.2;have Hm:=hp.1
 cases kE:is p 0 [45] with
 | true =>
  rw [kE] at I;rw [ah (.inl kE)] at h;have au:p.i < p.l.length:=is_lt (k:=0) kE;have en:=(cX au).ok hp
  cases hb:iE f (.operand (d+1)) p.next with
  | none=>exact zba
  | some r =>
   obtain ⟨b,p2⟩:=r;rw [hb] at h;cases h
   have Bo:=C.operand (d+1) p.next b _ x en X hb
   generalize tok p 0=tk at *;have kT:=fR 5 tk.at_ tk.s [b] [[qT b]] (jN _);refine ai func309 ntmps309 ?_;refine zeV ?_;refine V [0] eX ?_;refine zfI ?_;exact zaW
 | false =>
 rw [kE] at I
 cases mx:is p 0 [33] with
 | true =>
  rw [mx] at G;rw [ah (.inr (.inl mx))] at h;have au:p.i < p.l.length:=is_lt (k:=0) mx;have en:=(cX au).ok hp
  cases hb:iE f (.operand (d+1)) p.next with
  | none=>exact zba
  | some r =>
   obtain ⟨b,p2⟩:=r;rw [hb] at h;cases h
   have Bo:=C.operand (d+1) p.next b _ x en X hb
   generalize tok p 0=tk at *;have kT:=fR 5 tk.at_ tk.s [b] [[qT b]] (jN _);refine ai func309 ntmps309 ?_;refine zac ?_;exact zaW
 | false =>
 rw [mx] at G
 cases yU:is p 0 [126] with
 | true =>
  rw [yU] at h3;rw [ah (.inr (.inr yU))] at h;have au:p.i < p.l.length:=is_lt (k:=0) yU;have en:=(cX au).ok hp
  cases hb:iE f (.operand (d+1)) p.next with
  | none=>exact zba
  | some r =>
   obtain ⟨b,p2⟩:=r;rw [hb] at h;cases h
   have Bo:=C.operand (d+1) p.next b _ x en X hb
   generalize tok p 0=tk at *;have kT:=fR 5 tk.at_ tk.s [b] [[qT b]] (jN _);refine ai func309 ntmps309 ?_;refine zac ?_;refine V [0] h3 ?_;exact zaW
 | false =>
 rw [yU] at h3;rw [ab (by rw [kE,mx,yU];decide)] at h
 by_cases hk:(tok p 0).kind=1
 case pos =>
  rw [ah hk] at h;have au:p.i < p.l.length:=vA (k:=0) X
  have fm:((tok p 0).kind==1)=true:=by simpa using hk
  cases h;generalize tok p 0=tk at *;have kT:=S7 1 tk.at_ [] [];refine ai func309 ntmps309 ?_;refine zac ?_;refine V [0] h3 ?_;refine V [] kT ?_;refine GW.wk (Wk.freeze (i:=2) rfl rfl rfl (c6 rfl)) ?_;exact al
 case neg =>
 rw [ab hk] at h
 have fm:((tok p 0).kind==1)=false:=by simpa using hk
 have h4:=mW p 0 [40] x hp aD
 cases hs4:is p 0 [40] with
 | true =>
  rw [hs4] at h4;rw [ah hs4] at h;have au:p.i < p.l.length:=is_lt (k:=0) hs4;have en:=(cX au).ok hp
  cases hb:iE f (.expr (d+1)) p.next with
  | none=>exact zba
  | some r =>
   obtain ⟨b,p2⟩:=r;rw [hb] at h;cases h;have eY:=((lU f).1 _ _ _ _ en hb).ok en
   have Bo:=C.expr (d+1) p.next _ p2 x en X hb
   have hw:=gA p2 [41] x eY;generalize tok p 0=tk at *;refine ai func309 ntmps309 ?_;refine zbf ?_;refine V [0] Bo ?_;refine zaP ?_;exact al
 | false =>
 rw [hs4] at h4;rw [ab (by rw [hs4];decide)] at h;have hn:=uG p x hp;have en:=(kv hp).ok hp
 by_cases kC:(bO p).code=0
 case neg =>
  rw [ab kC] at h
  have adi:((bO p).code != 0)=true:=by simpa using kC
  cases h;generalize tok p 0=tk at *;generalize bO p=p1 at *;have kT:=fR 2 tk.at_ tk.s [] [] rfl;refine ai func309 ntmps309 ?_;refine zbf ?_;refine V [0] hn ?_;refine V [] kT ?_;exact al
 case pos =>
 rw [ah kC] at h
 have adi:((bO p).code != 0)=false:=by simpa using kC
 generalize bO p=p1 at *;generalize tok p 0=tk at *;have h5:=mW p1 0 [91] x en aD;have aer:=en.2;have aeq:=en.1
 cases hs5:is p1 0 [91] with
 | true =>
  rw [hs5] at h5;rw [ah hs5] at h;have au:p1.i < p1.l.length:=is_lt (k:=0) hs5;have JU:=(cX au).ok en
  cases hb:iE f (.expr (d+1)) p1.next with
  | none=>exact zba
  | some r =>
   obtain ⟨b,p2⟩:=r;rw [hb] at h;cases h;have eY:=((lU f).1 _ _ _ _ JU hb).ok JU
   have Bo:=C.expr (d+1) p1.next b p2 x JU X hb
   have hw:=gA p2 [93] x eY;have kT:=fR 3 tk.at_ tk.s [b] [[qT b]] (jN _);refine ai func309 ntmps309 ?_;refine zbf ?_;refine V [0] hn ?_;refine V [0] h5 ?_;refine V [0] Bo ?_;exact zdk
 | false =>
 rw [hs5] at h5;rw [ab (by rw [hs5];decide)] at h;have h6:=mW p1 0 [40] x en aD
 cases Ni:is p1 0 [40] with
 | true =>
  rw [Ni] at h6;rw [ah Ni] at h;have au:p1.i < p1.l.length:=is_lt (k:=0) Ni;have JU:=(cX au).ok en
  cases hb:iA f (d+1) [] p1.next with
  | none=>exact zba
  | some r =>
   obtain ⟨b,p2⟩:=r;rw [hb] at h;cases h
   have Bo:=C.exprs (d+1) p1.next b _ x JU X hb
   have kT:=fR 4 tk.at_ tk.s b (nD b) rfl;refine ai func309 ntmps309 ?_;refine zbf ?_;refine V [0] hn ?_;refine V [0] h5 ?_;refine V [0] h6 ?_;refine aM (ax 0 6 (.a 6 (.a 7 (.q 8 .nil)))) ?_;refine aj ?_;refine aC [0] Bo ?_;refine aC [] kT ?_;exact ay
 | false =>
  rw [Ni] at h6;rw [ab (by rw [Ni];decide)] at h;cases h;have kT:=fR 2 tk.at_ tk.s [] [] rfl;refine ai func309 ntmps309 ?_;refine zbf ?_;refine V [0] hn ?_;refine V [0] h5 ?_;refine V [0] h6 ?_;refine V [] kT ?_;exact al
theorem ies (f:Nat):Mp f:=by
 induction f using Nat.strongRecOn with
 | _ f ih =>
  cases f with
  | zero=>exact ⟨fun d p t q x _ _ h=>by simp [iE] at h,fun k d p t q x _ _ _ h=>by simp [iE] at h,fun d p t q x _ _ h=>by simp [iE] at h,fun d p l q x _ _ h=>by simp [iA] at h⟩
  | succ f =>
   have C:=ih f (Nat.lt_succ_self f)
   have Cs:∀ f',f'<=f->Mp f':=fun f' h=>ih f' (Nat.lt_succ_of_le h)
   exact ⟨fun d p t q x hp hd h=>Z9 C d p t q x hp hd h,fun k d p t q x hp hk hd h=>YP Cs k d p t q x hp hk hd h,fun d p t q x hp hd h=>Td C d p t q x hp hd h,fun d p l q x hp hd h=>Yp Cs d p l q x hp hd h⟩
end Go.Xg
namespace Go.Im
open Go.Xp Go.Sp
def abe (f d:Nat) (p:RS):Option (T × RS) :=
 if (tok p 0).kind=2/\is p 1 [61]=true then match iE f (.expr (d+1)) (want (bO p) [61]) with
  | none=>none
  | some (e,q)=>some (one 7 (tok p 0).at_ (tok p 0).s [e],want q [59])
 else match iE f (.expr (d+1)) p with
  | none=>none
  | some (e,q) =>
   if An p q e then match e.kids,iE f (.expr (d+1)) (want q [61]) with
    | a::_,some (v,q)=>some (one 8 (tok p 0).at_ e.n.s [a,v],want q [59])
    | _,_=>none
   else some (one 12 (tok p 0).at_ [] [e],want q [59])
end Go.Im
namespace Go.Xg
open Go.RowKit Go.Xw Go.Proofs Tryz Go.Sp Go.Im
open GV (U)
open Go.Xp (T one)
attribute [local irreducible] GW GL GO YG GC GA aU aW
theorem V2 {f:Nat} (d:Nat) (p:RS) (t:T) (q:RS) (x:PX) (hp:p.ok) (hd:d+1+f<=1099511627776) (h:abe f d p=some (t,q)) :
  GF prog 292 [.loc 0 0,.v (ii (d:Nat))] [cL p x] (qT t) [cL q x]:=by
 unfold abe at h;have C:=ies f;have ht:=u9 p 0 x hp aD;have hi:=mW p 1 [61] x hp aD
 have main:∀ kk,((tok p 0).kind==2)=kk->(kk=true->is p 1 [61]=false)->GF prog 292 [.loc 0 0,.v (ii (d:Nat))] [cL p x] (qT t) [cL q x]:=by
  intro kk hk sT
  rw [ab (fun hh=>by
   have I:kk=true:=by rw [<-hk];simpa using hh.1
   have G:=sT I
   rw [hh.2] at G;cases G)] at h
  cases he:iE f (.expr (d+1)) p with
  | none=>exact za3
  | some r =>
   obtain ⟨e,q1⟩:=r;rw [he] at h;simp only at h;have um:=((lU f).1 _ _ _ _ hp he).ok hp;have aew:=um.1;have aex:=um.2;have hex:=C.expr (d+1) p e q1 x hp X he;have W2:=mW q1 0 [61] x um aD
   have JH:e.n.kind=3->q1.code=0->∃ Dh,q1.l[q1.i - 1]?=some Dh/\xP q1=Dh.s/\1<=q1.i:=by
    intro _ hc;have I:=aaH f _ _ _ _ hp he hc (fun k d out h=>by cases h);have G:=um.1
    have au:q1.i - 1 < q1.l.length:=by omega
    exact ⟨q1.l[q1.i - 1],by simp [au],by unfold xP;simp [au],by omega⟩
   by_cases lg:An p q1 e
   ·rw [ah lg] at h;have nU:=lg;obtain ⟨s1,s2,s3,s4,s5,s6⟩:=nU;obtain ⟨Dh,a1,a2,a3⟩:=JH s1 s2
    have ny:kk=true:=by rw [<-hk];simpa using s5
    subst ny;have CZ:=sT rfl;rw [CZ] at hi;rw [s6] at W2
    match rH:e.kids,hv:iE f (.expr (d+1)) (want q1 [61]),h with
    | a::rk,some (v,q2),h =>
     cases h;have pz:=(dq um [61]).ok um;have Nf:=((lU f).1 _ _ _ _ pz hv).ok pz;have hw:=gA q1 [61] x um;have FW:=C.expr (d+1) _ v q2 x pz X hv;have qY:=gA q2 [59] x Nf;have hr:=mN a1;have eR:(nD e.kids)[0]?=some [qT a]:=Fa (by rw [rH];rfl);have hr3:(nD (a::rk))[0]?=some [qT a]:=Fa rfl
     have b1:(e.n.kind==3)=true:=by simpa using s1
     have b2:(q1.code==0)=true:=by simpa using s2
     have b3:(Dh.s==[93])=true:=by rw [<-a2];simpa using s3
     have b4:(e.n.at_==(tok p 0).at_)=true:=by simpa using s4
     have kT:=fR 8 (tok p 0).at_ e.n.s [a,v] [[qT a],[qT v]] (jN _);generalize tok p 0=tk at *;refine ai func292 ntmps292 ?_;refine zeV ?_;refine V [0] hi ?_;refine V [0] hex ?_;refine aM (ax 0 45 (.a 45 (.q 46 .nil))) ?_;refine aj ?_;refine bZ [0] W2 ?_;refine D ?_;refine zaP ?_;refine V [0] FW ?_;refine zam ?_;refine V [0] qY ?_;refine aM (ax 0 14 (.a 14 (.a 15 (.q 16 .nil)))) ?_;refine zcg ?_;refine aC [] kT ?_;exact ay
    | [],_,h=>simp at h
    | _::_,none,h=>simp at h
   ·rw [ab lg] at h;cases h;have hw:=gA q1 [59] x um;have kT:=fR 12 (tok p 0).at_ [] [e] [[qT e]] (jN _)
    cases kk with
    | true =>
     have CZ:=sT rfl;rw [CZ] at hi;refine ai func292 ntmps292 ?_;refine zeV ?_;refine V [0] hi ?_;refine V [0] hex ?_;refine GW.join (fun fr Γ=>fr=[.loc 0 0,.v (ii (d:Nat)),U,U,U,.loc 1 0,U,U,qT e,U,U,U,U,U,U,U,U,U,U,U,U,U,U,U,U,U,U,U,U,U,U,U,U,U,U,U,U,U,U,U,U,U,U,U,U,U,U,U,U,U,U,U,U,U,U,U,U,U,U,U,U,U,U,U,U,U,U,U,U,U,U,U,U,U,U,U,U,U,U,U,U,U,U,U,U,U,U,.v (.bool false),U,U,U,U,U,U,U,U,U,U,U,U,U,U,U,U,U,U,U,U,U,U,U,U,U,U,U,U,U,U,U,U,U,U]/\Γ=[cL q1 x,.box 168 (dm (tok p 0))]) ?_ ?_
     ·by_cases s1:e.n.kind=3
      ·have b1:(e.n.kind==3)=true:=by simpa using s1
       by_cases s2:q1.code=0
       ·have b2:(q1.code==0)=true:=by simpa using s2
        obtain ⟨Dh,a1,a2,a3⟩:=JH s1 s2;have hr:=mN a1
        by_cases s3:xP q1=[93]
        ·have b3:(Dh.s==[93])=true:=by rw [<-a2];simpa using s3
         by_cases s4:e.n.at_=(tok p 0).at_
         ·have b4:(e.n.at_==(tok p 0).at_)=true:=by simpa using s4
          have s6:is q1 0 [61]=false:=by
           cases h6:is q1 0 [61] with
           | false=>rfl
           | true=>exact absurd ⟨s1,s2,s3,s4,by simpa using hk,h6⟩ lg
          rw [s6] at W2;generalize tok p 0=tk at *;refine aM (ax 0 45 (.a 45 (.q 46 .nil))) ?_;refine aj ?_;refine bZ [0] W2 ?_;exact jx
         ·have b4:(e.n.at_==(tok p 0).at_)=false:=by simpa using s4
          exact zae
        ·have b3:(Dh.s==[93])=false:=by rw [<-a2];simpa using s3
         exact zae
       ·have b2:(q1.code==0)=false:=by simpa using s2
        exact zae
      ·have b1:(e.n.kind==3)=false:=by simpa using s1
       exact zae
     ·rintro _ _ ⟨rfl,rfl⟩;generalize tok p 0=tk at *;refine D ?_;exact zdk
    | false =>
     refine ai func292 ntmps292 ?_;refine zeV ?_;refine V [0] hex ?_;refine GW.join (fun fr Γ=>fr=[.loc 0 0,.v (ii (d:Nat)),U,U,U,.loc 1 0,U,U,qT e,U,U,U,U,U,U,U,U,U,U,U,U,U,U,U,U,U,U,U,U,U,U,U,U,U,U,U,U,U,U,U,U,U,U,U,U,U,U,U,U,U,U,U,U,U,U,U,U,U,U,U,U,U,U,U,U,U,U,U,U,U,U,U,U,U,U,U,U,U,U,U,U,U,U,U,U,U,U,.v (.bool false),U,U,U,U,U,U,U,U,U,U,U,U,U,U,U,U,U,U,U,U,U,U,U,U,U,U,U,U,U,U,U,U,U,U]/\Γ=[cL q1 x,.box 168 (dm (tok p 0))]) ?_ ?_
     ·by_cases s1:e.n.kind=3
      ·have b1:(e.n.kind==3)=true:=by simpa using s1
       by_cases s2:q1.code=0
       ·have b2:(q1.code==0)=true:=by simpa using s2
        obtain ⟨Dh,a1,a2,a3⟩:=JH s1 s2;have hr:=mN a1
        by_cases s3:xP q1=[93]
        ·have b3:(Dh.s==[93])=true:=by rw [<-a2];simpa using s3
         by_cases s4:e.n.at_=(tok p 0).at_
         ·have b4:(e.n.at_==(tok p 0).at_)=true:=by simpa using s4
          exact zae
         ·have b4:(e.n.at_==(tok p 0).at_)=false:=by simpa using s4
          exact zae
        ·have b3:(Dh.s==[93])=false:=by rw [<-a2];simpa using s3
         exact zae
       ·have b2:(q1.code==0)=false:=by simpa using s2
        exact zae
      ·have b1:(e.n.kind==3)=false:=by simpa using s1
       exact zae
     ·rintro _ _ ⟨rfl,rfl⟩;generalize tok p 0=tk at *;refine D ?_;exact zdk
 by_cases hk:(tok p 0).kind=2
 ·cases CZ:is p 1 [61] with
  | true =>
   clear main;rw [ah ⟨hk,CZ⟩] at h;rw [CZ] at hi
   have fm:((tok p 0).kind==2)=true:=by simpa using hk
   have hn:=uG p x hp;have en:=(kv hp).ok hp;have hw:=gA (bO p) [61] x en;have pz:=(dq en [61]).ok en
   cases he:iE f (.expr (d+1)) (want (bO p) [61]) with
   | none=>exact za3
   | some r =>
    obtain ⟨e,q1⟩:=r;rw [he] at h;cases h;have um:=((lU f).1 _ _ _ _ pz he).ok pz;have hex:=C.expr (d+1) _ e q1 x pz X he;have qY:=gA q1 [59] x um;have kT:=fR 7 (tok p 0).at_ (tok p 0).s [e] [[qT e]] (jN _);generalize tok p 0=tk at *;refine ai func292 ntmps292 ?_;refine zeV ?_;refine V [0] hi ?_;refine V [0] hn ?_;refine zaP ?_;exact zbz
  | false=>exact main true zgy (fun _=>CZ)
 ·exact main false zgy (fun h=>by cases h)
open Go.Xp (oE ir km jd iR)
theorem S6 (k a:Int) (s:ae):GF prog 257 [.v (ii k),.v (ii a),.v (sv s),.v (.slice none 0 0)] [] (.loc 0 0) [.box 125 [.v (ii k),.v (ii a),.v (ii 0),.v (sv s),.v (.slice none 0 0),.v (.slice none 0 0)]]:=by
 refine ai func257 ntmps257 ?_;refine GW.wk (Wk.cells 0 rfl (ds:=[.v (ii k),.v (ii a),.v (ii 0),.v (sv s),.v (.slice none 0 0),.v (.slice none 0 0)]) jw) ?_;exact zex
structure Ws (f:Nat):Prop where
 block:∀ d p t q x,p.ok->d+3+f<=1099511627776->iS f (.block d) p=some (t,q)->GF prog 204 [.loc 0 0,.v (ii (d:Nat))] [cL p x] (qT t) [cL q x]
 stmt:∀ d p t q x,p.ok->d+3+f<=1099511627776->iS f (.stmt d) p=some (t,q)->GF prog 259 [.loc 0 0,.v (ii (d:Nat))] [cL p x] (qT t) [cL q x]
theorem X7 {f:Nat} (C:∀ f',f'<=f->Ws f') (d:Nat) (p:RS) (t:T) (q:RS) (x:PX) (hp:p.ok) (hd:d+3+(f+1)<=1099511627776) (h:iS (f+1) (.block d) p=some (t,q)) :
  GF prog 204 [.loc 0 0,.v (ii (d:Nat))] [cL p x] (qT t) [cL q x]:=by
 rw [iS] at h;have eX:=zG p d x hp;have ht:=u9 p 0 x hp aD;have wV:=S6 14 (tok p 0).at_ []
 by_cases hc:(cP p d).code=0
 case neg =>
  have dP:((cP p d).code==0)=false:=by simpa using hc
  rw [ab hc] at h;rw [dP] at eX;cases h;generalize tok p 0=tk at *;refine ai func204 ntmps204 ?_;refine zeV ?_;refine V [] wV ?_;refine V [0] eX ?_;refine GW.wk (Wk.cells 1 rfl (ds:=[.v (ii 14),.v (ii tk.at_),.v (ii 0),.v (sv []),.v (.slice none 0 0),.sl 1 []]) jw) ?_;refine GW.wk (Wk.freeze (i:=1) rfl rfl rfl (c6 rfl)) ?_;exact al
 case pos =>
 have dP:((cP p d).code==0)=true:=by simpa using hc
 rw [ah hc] at h;rw [dP,rW hc] at eX;clear hc dP;have pz:=(dq hp [123]).ok hp;have hw:=gA p [123] x hp
 cases he:iB f (d+1) [] (want p [123]) with
 | none=>exact za3
 | some r =>
  obtain ⟨l,q1⟩:=r;rw [he] at h;cases h;generalize tok p 0=tk at *;refine ai func204 ntmps204 ?_;refine zeV ?_;refine V [] wV ?_;refine V [0] eX ?_;refine zaP ?_;refine GW.wk (Wk.Ks (i:=1) (o:=5) 79 1 rfl rfl) ?_;refine GW.loop (fun z:Nat × List T × RS=>z.1) (fun z fr Γ=>∃ n rows,fr=[.loc 0 0,.v (ii (d:Nat)),U,U,U,.loc 1 0,U,U,U,U,U,U,U,U,U,U,U,U,U,U,U,U,U,U,U,U,U,U,U,U,U,U,U,U,U,U,U,U,U,U,U,U,U,U,U]/\Γ=[cL z.2.2 x,.box 125 [.v (ii 14),.v (ii tk.at_),.v (ii 0),.v (sv []),.v (.slice none 0 0),.vec 2 n],.vec 79 1 0 rows]/\rows.length=n/\rows=nD z.2.1/\n+z.1<=f/\z.2.2.ok/\iB z.1 (d+1) z.2.1 z.2.2=some (l,q1)) (f,[],want p [123]) ?_ ?_
  ·exact ⟨_,_,Wk.aH ao,0,[],rfl,rfl,rfl,rfl,by simp,pz,he⟩
  ·clear he pz hw eX ht;rintro ⟨g,acc,p⟩ _ _ ⟨n,rows,rfl,rfl,hn,bD,C3,hp,h⟩;simp only at bD C3 hp h
   cases g with
   | zero=>simp [iB] at h
   | succ g =>
   rw [iB] at h;have hi:=mW p 0 [125] x hp aD
   by_cases hc:p.code=0
   ·have dP:(p.code==0)=true:=by simpa using hc
    cases hs:is p 0 [125] with
    | true =>
     rw [hs] at hi;rw [ab (fun hh=>by have:=hh.2;rw [hs] at this;cases this)] at h
     obtain ⟨rfl,rfl⟩:acc=l/\p=q1:=by simpa using h
     have hw:=gA p [125] x hp;subst bD;refine zb2 ?_;refine kB ?_;refine D ?_;exact zcS
    | false =>
     rw [hs] at hi;rw [ah ⟨hc,hs⟩] at h
     cases hb:iS g (.stmt (d+1)) p with
     | none=>exact zba
     | some r =>
      obtain ⟨a,p2⟩:=r;rw [hb] at h;simp only at h;have eY:=((Iq g).1 _ _ _ _ hp hb).ok hp;have b6:=(C g X).stmt (d+1) p a p2 x hp X hb;refine zb2 ?_;refine aM (ax 0 8 (.a 8 (.a 9 (.a 10 (.q 11 (.q 12 (.a 13 .nil))))))) ?_;refine aj ?_;refine aC [0] b6 ?_;refine zat ?_;refine wu ?_;refine bm ?_;exact ⟨(g,acc++[a],p2),⟨_,_,Wk.aH ao,_,_,rfl,rfl,by simp [hn],by rw [zd,bD];rfl,by show n+1+g<=f;omega,eY,h⟩,by simp⟩
   ·have dP:(p.code==0)=false:=by simpa using hc
    rw [ab (fun hh=>hc hh.1)] at h
    obtain ⟨rfl,rfl⟩:acc=l/\p=q1:=by simpa using h
    have hw:=gA p [125] x hp;subst bD;refine zbG ?_;exact zcS
theorem abl {f:Nat} (C:Ws f) (d:Nat) (p:RS) (t:T) (q:RS) (x:PX) (hp:p.ok) (hd:d+3+(f+1)<=1099511627776) (h:iS (f+1) (.stmt d) p=some (t,q)) :
  GF prog 259 [.loc 0 0,.v (ii (d:Nat))] [cL p x] (qT t) [cL q x]:=by
 rw [iS] at h;have E:=ies f;have eX:=zG p d x hp;have ht:=u9 p 0 x hp aD
 by_cases hc:(cP p d).code=0
 case neg =>
  have dP:((cP p d).code==0)=false:=by simpa using hc
  rw [ab hc] at h;rw [dP] at eX;cases h;refine ai func259 ntmps259 ?_;refine zeV ?_;exact zd6
 case pos =>
 have dP:((cP p d).code==0)=true:=by simpa using hc
 rw [ah hc] at h;rw [dP,rW hc] at eX;clear hc dP;have cH:=hp.2;have Hm:=hp.1;have I:=mW p 0 oE x hp aD;have G:=mW p 0 ir x hp aD;have h3:=mW p 0 jd x hp aD;have h4:=mW p 0 iR x hp aD
 cases kE:is p 0 oE with
 | true =>
  rw [kE] at I;rw [ah kE] at h;have au:p.i < p.l.length:=is_lt (k:=0) kE;have en:=(cX au).ok hp
  have hn:=uG p.next x en
  have Br:=(kv en).ok en;have hw:=gA _ [61] x Br;have pz:=(dq Br [61]).ok Br
  cases he:iE f (.expr (d+1)) (want (bO p.next) [61]) with
  | none=>exact za3
  | some r =>
   obtain ⟨e,q1⟩:=r;rw [he] at h;cases h;have um:=((lU f).1 _ _ _ _ pz he).ok pz;have hex:=E.expr (d+1) _ e q1 x pz X he;have qY:=gA q1 [59] x um;have kT:=fR 13 (tok p 0).at_ (tok p.next 0).s [e] [[qT e]] (jN _);generalize tok p 0=tk at *
   generalize tok p.next 0=tn at *
   refine ai func259 ntmps259 ?_;refine zeV ?_;refine V [0] eX ?_;refine zfI ?_;refine V [0] hn ?_;refine zaP ?_;exact zbz
 | false =>
 rw [kE] at I;rw [ab (by rw [kE];decide)] at h
 have main:∀ bi bw:Bool,is p 0 ir=bi->is p 0 jd=bw->(bi=true\/bw=true)->GF prog 259 [.loc 0 0,.v (ii (d:Nat))] [cL p x] (qT t) [cL q x]:=by
  intro bi bw yM hbw yT
  have qD:is p 0 ir=true\/is p 0 jd=true:=by rw [yM,hbw];exact yT
  have au:p.i < p.l.length:=by rcases qD with hh | hh <;> exact is_lt (k:=0) hh
  rw [ah qD] at h;have en:=(cX au).ok hp
  have hw:=gA p.next [40] x en
  have pz:=(dq en [40]).ok en
  cases he:iE f (.expr (d+1)) (want p.next [40]) with
  | none=>exact za3
  | some r =>
  obtain ⟨c,q1⟩:=r;rw [he] at h;simp only at h;have um:=((lU f).1 _ _ _ _ pz he).ok pz;have hex:=E.expr (d+1) _ c q1 x pz X he;have qY:=gA q1 [41] x um;have hqw:=(dq um [41]).ok um
  cases hb:iS f (.block (d+1)) (want q1 [41]) with
  | none=>exact zba
  | some r =>
  obtain ⟨b,q2⟩:=r;rw [hb] at h;simp only at h;have Nf:=((Iq f).1 _ _ _ _ hqw hb).ok hqw;have aez:=Nf.2;have aey:=Nf.1;have fu:=C.block (d+1) _ b q2 x hqw X hb;have eH:=mW q2 0 km x Nf aD;rw [yM] at G;rw [hbw] at h3
  cases bi with
  | true =>
   have Ph:∀ (cc ee:Bool),(q2.code==0)=cc->is q2 0 km=ee->(cc=false\/ee=false)->GF prog 259 [.loc 0 0,.v (ii (d:Nat))] [cL p x] (qT t) [cL q x]:=by
    intro cc ee wP AK aaB
    rw [ab (fun hh=>by
     rcases aaB with h0 | h0
     ·rw [h0] at wP;have:=hh.2.1;simp [this] at wP
     ·rw [h0] at AK;rw [AK] at hh;exact absurd hh.2.2 aD),ah yM] at h
    cases h;rw [AK] at eH;have kT:=fR 9 (tok p 0).at_ [] [c,b] [[qT c],[qT b]] (jN _);generalize tok p 0=tk at *
    cases cc with
    | true =>
     cases ee with
     | true=>simp at aaB
     | false =>
      refine ai func259 ntmps259 ?_;refine zac ?_;refine zcM ?_;refine V [0] eH ?_;exact za6
    | false =>
     refine ai func259 ntmps259 ?_;refine zac ?_;refine zcM ?_;exact za6
   by_cases mu:q2.code=0
   ·cases AK:is q2 0 km with
    | true =>
     clear Ph;rw [ah ⟨yM,mu,AK⟩] at h;rw [AK] at eH
     have wP:(q2.code==0)=true:=by simpa using mu
     have lI:q2.i < q2.l.length:=is_lt (k:=0) AK;have hqn:=(cX lI).ok Nf
     cases eM:iS f (.block (d+1)) q2.next with
     | none=>rw [eM] at h;cases h
     | some r =>
      obtain ⟨b2,q3⟩:=r;rw [eM] at h;cases h;have abU:=C.block (d+1) _ b2 _ x hqn X eM;have kT:=fR 9 (tok p 0).at_ [] [c,b,b2] [[qT c],[qT b],[qT b2]] (jN _);generalize tok p 0=tk at *;refine ai func259 ntmps259 ?_;refine zac ?_;refine zcM ?_;refine V [0] eH ?_;refine V [0] abU ?_;refine zby ?_;exact za6
    | false=>exact Ph true false (by simpa using mu) AK (.inr rfl)
   ·exact Ph false _ (by simpa using mu) rfl (.inl rfl)
  | false =>
   have adh:bw=true:=by simpa using yT
   subst adh;rw [ab (fun hh=>by have:=hh.1;rw [yM] at this;cases this),ab (by rw [yM];decide)] at h;cases h;have kT:=fR 10 (tok p 0).at_ [] [c,b] [[qT c],[qT b]] (jN _);generalize tok p 0=tk at *;refine ai func259 ntmps259 ?_;refine zac ?_;refine V [0] h3 ?_;refine zcM ?_;exact za6
 cases mx:is p 0 ir with
 | true=>exact main true _ mx rfl (.inl rfl)
 | false =>
 cases yU:is p 0 jd with
 | true=>exact main false true mx yU (.inr rfl)
 | false =>
 clear main;rw [mx] at G;rw [yU] at h3;rw [ab (by rw [mx,yU];decide)] at h
 cases hs4:is p 0 iR with
 | true =>
  rw [hs4] at h4;rw [ah hs4] at h;have au:p.i < p.l.length:=is_lt (k:=0) hs4;have en:=(cX au).ok hp
  cases he:iE f (.expr (d+1)) p.next with
  | none=>exact za3
  | some r =>
   obtain ⟨e,q1⟩:=r;rw [he] at h;cases h;have um:=((lU f).1 _ _ _ _ en he).ok en;have hex:=E.expr (d+1) _ e q1 x en X he;have qY:=gA q1 [59] x um;have kT:=fR 11 (tok p 0).at_ [] [e] [[qT e]] (jN _);generalize tok p 0=tk at *;refine ai func259 ntmps259 ?_;refine zbf ?_;exact zbz
 | false =>
  rw [hs4] at h4;rw [ab (by rw [hs4];decide)] at h;have hsi:=V2 (f:=f) d p t q x hp X h;generalize tok p 0=tk at *;refine ai func259 ntmps259 ?_;refine zbf ?_;refine V [0] hsi ?_;exact al
theorem iss (f:Nat):Ws f:=by
 induction f using Nat.strongRecOn with
 | _ f ih =>
  cases f with
  | zero=>exact ⟨fun d p t q x _ _ h=>by simp [iS] at h,fun d p t q x _ _ h=>by simp [iS] at h⟩
  | succ f =>
   have C:=ih f (Nat.lt_succ_self f)
   have Cs:∀ f',f'<=f->Ws f':=fun f' h=>ih f' (Nat.lt_succ_of_le h)
   exact ⟨fun d p t q x hp hd h=>X7 Cs d p t q x hp hd h,fun d p t q x hp hd h=>abl C d p t q x hp hd h⟩
end Go.Xg
namespace Go.Xg
open Go.RowKit Go.Xw Go.Proofs Tryz
open GV (U)
open Go.Xp (Nd T aQ aB jJ eD bJ)
attribute [local irreducible] GW GL GO YG GC GA aU aW
def vM (n:Nd):List GV:=[.v (ii n.kind),.v (ii n.at_),.v (ii n.n),.v (sv n.s),ints n.kids]
def Ge (t:T) (x:Value):List GV:=[.v (ii t.n.kind),.v (ii t.n.at_),.v (ii t.n.n),.v (sv t.n.s),.v x]
theorem Rs:∀ (N:Nat) (t:T),aQ t<=N->∀ (n:Nat) (rows:List (List GV)) (a:Option Addr) (c:Nat),rows.length=n->n+aQ t<=1099511627776 ->
  GC prog 146 [.v (.slice a n c),qT t] [.vech 78 5 rows (.slice a n c)] fun g aZ=>∃ a c,g=.v (.slice a (n+aQ t) c)/\aZ=[.vech 78 5 (rows++(jJ n t).map vM) (.slice a (n+aQ t) c)]:=by
 intro N
 induction N with
 | zero=>intro t h;rw [Go.Xp.fH] at h;omega
 | succ N ih =>
 intro t hN n rows a c hn hb;subst hn;rw [Go.Xp.fH] at hb hN;have eh:=Go.Xp.eI t.kids;refine ai func146 ntmps146 ?_;refine za4 ?_;intro a c;refine zaq ?_;refine GW.wk (Wk.gK 3 1) ?_
 refine GW.range (nD t.kids).length (fun k fr Γ=>∃ a c a2 c2,fr=[.v (.slice a (rows.length+1+aB (t.kids.take k)) c),qT t,U,U,U,.v (ii (rows.length:Nat)),U,U,U,U,U,U,U,U,U,U,U,U,U,U,.sl 1 (nD t.kids),.v (ii ((nD t.kids).length:Int)),.v (ii (k:Nat)),U,U,U,U,U,U,U,U,U,U,U,U,U,U,U,U,U,U,U,U,U] /\
  Γ=[.vech 78 5 (rows++Ge t (.slice a2 k c2)::(eD (rows.length+1) (t.kids.take k)).map vM) (.slice a (rows.length+1+aB (t.kids.take k)) c),.vech 3 1 ((bJ (rows.length+1) (t.kids.take k)).map fun z=>[.v (ii z)]) (.slice a2 k c2)]) ?_ (by rw [qs];omega) ?_ ?_ ?_
 ·refine ⟨_,_,Wk.aH ao,a,c,none,0,rfl,?_⟩;rfl
 ·rintro k _ _ ⟨a,c,a2,c2,rfl,rfl⟩;exact dr
 ·rintro k _ _ au ⟨a,c,a2,c2,rfl,rfl⟩;rw [qs] at au;obtain ⟨kid,iQ⟩:∃ kid,t.kids[k]?=some kid:=⟨t.kids[k],by simp [au]⟩;have hr:=Fa iQ;have dj:=Go.Xp.yk iQ;have hle:=Go.Xp.yj t.kids (k+1)
  have oW:t.kids.take (k+1)=t.kids.take k++[kid]:=by rw [dk,iQ];rfl
  have hX:((eD (rows.length+1) (t.kids.take k)).map vM).length=aB (t.kids.take k):=by rw [bM,Go.Xp.wc]
  have rH:((bJ (rows.length+1) (t.kids.take k)).map fun z=>[GV.v (ii z)]).length=k:=by rw [bM,Go.Xp.dy,gE];omega
  rw [oW,Go.Xp.zX,Go.Xp.Ci,Go.Xp.qu];simp only [bJ,eD,aB,dN,Nat.add_zero,l9,List.map_cons,map_nil,<-iJ]
  have Bl:=fun (rs:List (List GV)) a c h=>ih kid X (rows.length+1+aB (t.kids.take k)) rs a c h X
  generalize (eD (rows.length+1) (t.kids.take k)).map vM=aeJ at *;generalize ((bJ (rows.length+1) (t.kids.take k)).map fun z=>[GV.v (ii z)])=ks at *;generalize aB (t.kids.take k)=s at *;subst rH
  have nz:∀ r:List GV,(rows++r::aeJ).length=rows.length+1+s:=fun r=>by simp;omega
  have bD:(rows++Ge t (.slice a2 ks.length c2)::aeJ)[rows.length]?=some (Ge t (.slice a2 ks.length c2)):=by simp
  have kD:=nz (Ge t (.slice a2 ks.length c2));unfold Ge at bD kD |-;refine D ?_;refine zai ?_;intro a3 c3;refine zaq ?_;refine Lt ?_;rw [KM];simp only [bX];refine D ?_;refine bA [0] (Bl _ _ _ (nz _)) ?_;rintro _ _ ⟨a4,c4,rfl,rfl⟩;refine zas ?_;refine ⟨rfl,rfl,_,_,Wk.aH ao,a4,c4,a3,c3,rfl,?_⟩;rw [eF];rfl
 ·rintro _ _ ⟨a,c,a2,c2,rfl,rfl⟩;rw [qs,c7];rw [Go.Xp.fH,Go.Xp.Rq]
  have rH:((bJ (rows.length+1) t.kids).map fun z=>[GV.v (ii z)]).length=t.kids.length:=by rw [bM,Go.Xp.dy]
  have sT:ints (bJ (rows.length+1) t.kids)=.sl 1 ((bJ (rows.length+1) t.kids).map fun z=>[GV.v (ii z)]):=rfl;rw [List.map_cons];simp only [vM,Ge];rw [sT,show rows.length+(aB t.kids+1)=rows.length+1+aB t.kids by omega];generalize (eD (rows.length+1) t.kids).map vM=aeJ at *;generalize ((bJ (rows.length+1) t.kids).map fun z=>[GV.v (ii z)])=ks at *;generalize aB t.kids=s at *
  have bD:∀ r:List GV,(rows++r::aeJ)[rows.length]?=some r:=fun r=>by simp
  refine bc ?_;apply GW.wk
  ·apply Wk.P2 (i:=0) (idx:=rows.length) (o:=4) (j:=1)
   ·rfl
   ·exact bD _
   ·rfl
   ·rfl
   ·rfl
  rw [KM];simp only [bX];refine zdh ?_;exact zcZ
open Go.Sp Go.Im
open Go.Xp (jU Ar)
structure HW where
 aT:Option Addr
 cT:Nat
 aG:Option Addr
 cG:Nat
 aA:Option Addr
 cA:Nat
 aF:Option Addr
 cF:Nat
def uM (x:Ar):List GV:=[.v (sv x.name),.v (ii x.size)]
def tR (x:ae × List ae):List GV:=[.v (sv x.1),strs x.2,.v (ii 0)]
def om (x:ae):List GV:=[.v (sv x)]
abbrev hx (st:PS) (h:HW):PX:=⟨.slice h.aT st.trees.length h.cT,.slice h.aG st.globals.length h.cG,.slice h.aA st.arrays.length h.cA,.slice h.aF st.fns.length h.cF,.slice none 0 0⟩
abbrev ye (p:RS) (st:PS) (h:HW):List Ob:=[cL p (hx st h),.vech 79 1 (nD st.trees) (.slice h.aT st.trees.length h.cT),.vech 9 1 (st.globals.map om) (.slice h.aG st.globals.length h.cG),.vech 98 2 (st.arrays.map uM) (.slice h.aA st.arrays.length h.cA),.vech 65 3 (st.fns.map tR) (.slice h.aF st.fns.length h.cF)]
theorem Ac {α β:Type} (g:α->β) (l:List α) (x:α):(l++[x]).map g=l.map g++[g x]:=by simp
theorem TV {f:Nat} (p:RS) (st:PS) (h:HW) (q:RS) (fo:PS) (n:Nat) (hp:p.ok) (hn:st.le n) (hb:n+1<=1099511627776) (hs:is p 0 jU=true) (hw:iW f p st=some (q,fo)) :
  GC prog 145 [.loc 0 0] (ye p st h) (fun g aZ=>g=.tup []/\∃ h',aZ=ye q fo h'):=by
 obtain ⟨Hm,cH⟩:=id hp;obtain ⟨yS,cx,hn3,hn4⟩:=hn;unfold iW at hw;rw [ah hs] at hw;have hi:=mW p 0 jU (hx st h) hp aD;rw [hs] at hi;have mU:=(mF hs).ok hp
 have dF:=uG p.next (hx st h) mU
 have eY:=(kv mU).ok mU;generalize (tok p.next 0).s=s at *
 generalize bO p.next=p2 at *
 have tJ:=mW p2 0 [91] (hx st h) eY aD
 have ad3:¬ (p2.code=0/\is p2 0 [91]=true)->True:=fun _=>trivial
 cases hc:(p2.code==0) with
 | false =>
  have dP:¬ p2.code=0:=by simpa using hc
  rw [ab (fun hh=>dP hh.1)] at hw;cases hw
  have yN:(st.globals.map om).length+1=(st.globals++[s]).length:=by simp
  have oU:st.globals.map om++[[GV.v (sv s)]]=(st.globals++[s]).map om:=by simp [om]
  have hlen:(st.globals.map om).length+1<=1099511627776:=by simp;omega
  refine ai func145 ntmps145 ?_;refine zeG ?_;exact zaU
 | true =>
  have dP:p2.code=0:=by simpa using hc
  cases eM:is p2 0 [91] with
  | false =>
   rw [eM] at tJ;rw [ab (fun hh=>by have:=hh.2;rw [eM] at this;cases this)] at hw;cases hw
   have yN:(st.globals.map om).length+1=(st.globals++[s]).length:=by simp
   have oU:st.globals.map om++[[GV.v (sv s)]]=(st.globals++[s]).map om:=by simp [om]
   have hlen:(st.globals.map om).length+1<=1099511627776:=by simp;omega
   refine ai func145 ntmps145 ?_;refine zeG ?_;refine V [0] tJ ?_;exact zaU
  | true =>
   rw [eM] at tJ;rw [ah ⟨dP,eM⟩] at hw;have Bp:=(mF eM).ok eY;have aes:=eY.1;have aaC:=eY.2;have aet:=Bp.1;have aeu:=Bp.2
   have ht:=u9 p2.next 0 (hx st h) Bp aD
   have J2:=CH p2.next (hx st h) Bp
   have JH:(tok p2.next 0).kind=1->p2.next.next.ok:=fun hk=>(cX (vA (p:=p2.next) (k:=0) (by rw [hk];decide))).ok Bp
   generalize tok p2.next 0=tk at *
   by_cases hk:tk.kind=1
   ·rw [ah hk] at hw;cases hw
    have fm:(tk.kind != 1)=false:=by simpa using hk
    have Xa:=JH hk;have aev:=Xa.1
    have J0:=gA p2.next.next [93] (hx st h) Xa
    have hp5:=(dq Xa [93]).ok Xa
    generalize want p2.next.next [93]=p5 at *
    have yN:(st.arrays.map uM).length+1=(st.arrays++[(⟨s,tk.n⟩:Ar)]).length:=by simp
    have oU:st.arrays.map uM++[[GV.v (sv s),.v (ii tk.n)]]=(st.arrays++[(⟨s,tk.n⟩:Ar)]).map uM:=by simp [uM]
    have hlen:(st.arrays.map uM).length+1<=1099511627776:=by simp;omega
    refine ai func145 ntmps145 ?_;refine zeG ?_;refine V [0] tJ ?_;refine zeV ?_;refine zam ?_;refine V [0] J0 ?_;refine aM (ax 0 10 (.a 10 (.a 11 (ax 12 3 (.a 15 .nil))))) ?_;refine zcg ?_;refine OA rfl rfl (GL.nF 3 rfl rfl rfl az rfl rfl (by refine ⟨?_,?_⟩;(· show _+1<=_;omega);(· show (_+1) * _<=_;omega)) ?_);intro a c;refine cy ?_;generalize hX:chunk 1 2 _=aeJ
    obtain rfl:aeJ=[uM ⟨s,tk.n⟩]:=by rw [<-hX];rfl
    clear hX
    try (generalize hX:chunk 1 2 _=aeJ;obtain rfl:aeJ=[uM ⟨s,tk.n⟩]:=by rw [<-hX];rfl)
    rw [show (st.arrays.map uM).length+[uM ⟨s,tk.n⟩].length=(st.arrays++[(⟨s,tk.n⟩:Ar)]).length by simp,<-Ac uM st.arrays ⟨s,tk.n⟩];refine bm ?_;refine zam ?_;refine V [0] (gA p5 [59] (hx { st with arrays:=st.arrays++[⟨s,tk.n⟩] } { h with aA:=a,cA:=c }) hp5) ?_;refine c8 ?_;exact ⟨rfl,{ h with aA:=a,cA:=c },rfl⟩
   ·rw [ab hk] at hw;cases hw
    have fm:(tk.kind != 1)=true:=by simpa using hk
    refine ai func145 ntmps145 ?_;refine zeG ?_;refine V [0] tJ ?_;refine zeV ?_;refine V [0] J2 ?_;exact zdR
open Go.Xp (ko)
theorem Qc {f:Nat} (p:RS) (st:PS) (h:HW) (q:RS) (fo:PS) (hp:p.ok) (hs:is p 0 jU=false) (mx:is p 0 ko=false) (hw:iW f p st=some (q,fo)) :
  GC prog 145 [.loc 0 0] (ye p st h) (fun g aZ=>g=.tup []/\∃ h',aZ=ye q fo h'):=by
 unfold iW at hw;rw [ab zgt,ab (by rw [mx];decide)] at hw;cases hw;have hi:=mW p 0 jU (hx st h) hp aD;have tJ:=mW p 0 ko (hx st h) hp aD;have J2:=CH p (hx st h) hp;rw [hs] at hi;rw [mx] at tJ;refine ai func145 ntmps145 ?_;refine V [0] hi ?_;refine V [0] tJ ?_;refine V [0] J2 ?_;exact zdR
abbrev abK (p:RS) (st:PS) (h:HW) (s:ae) (acc:List ae) (a:Option Addr) (c:Nat):List Ob:=ye p st h++[.box 65 [.v (sv s),.v (.slice a acc.length c),.v (ii 0)],.vech 9 1 (acc.map om) (.slice a acc.length c)]
theorem Qd {f:Nat} (p:RS) (st:PS) (h:HW) (q:RS) (fo:PS) (n:Nat) (hp:p.ok) (hn:st.le n) (hb:n+f+4<=1099511627776) (vq:is p 0 jU=false) (hs:is p 0 ko=true) (hw:iW f p st=some (q,fo)) :
  GC prog 145 [.loc 0 0] (ye p st h) (fun g aZ=>g=.tup []/\∃ h',aZ=ye q fo h'):=by
 obtain ⟨Hm,cH⟩:=id hp;obtain ⟨yS,cx,hn3,hn4⟩:=hn;unfold iW at hw;rw [ab (by rw [vq];decide),ah hs] at hw;have Bj:=mW p 0 jU (hx st h) hp aD;rw [vq] at Bj;have hi:=mW p 0 ko (hx st h) hp aD;rw [hs] at hi;have mU:=(mF hs).ok hp
 have dF:=uG p.next (hx st h) mU
 have eY:=(kv mU).ok mU;generalize (tok p.next 0).s=s at *
 generalize bO p.next=p2 at *
 have qY:=gA p2 [40] (hx st h) eY;have Bp:=(dq eY [40]).ok eY;generalize want p2 [40]=p3 at *
 cases hm:r7 f [] p3 with
 | none=>rw [hm] at hw;cases hw
 | some r =>
 obtain ⟨l,q1⟩:=r;rw [hm] at hw;simp only at hw;refine ai func145 ntmps145 ?_;refine V [0] Bj ?_;refine zeG ?_;refine zam ?_;refine V [0] qY ?_;refine GW.wk (Wk.gK 9 1) ?_;refine GW.loop (fun z:Nat × List ae × RS=>z.1) (fun z fr Γ=>∃ a c,fr=[.loc 0 0,U,U,U,.loc 5 0,U,U,U,U,U,U,U,U,U,U,U,U,U,U,U,U,U,U,U,U,U,U,U,U,U,U,U,U,U,U,U,U,U,U,U,U,U,U,U,U,U,U,U,U,U,U,U,U,U,U,U,U,U,U,U,U,U,U,U,U,U,U,U,U,U,U,U,U,U,U,U,U,U,U,U,U,U,U,U,U,U,U,U,U,U,U,U,U,U,U,U,U,U,U,U,U,U,U,U,U,U,U,U,U,U,U,U,U,U,U,U,U,U,U,U,U,U,U,U,U,U,U,U,U,U,U,U,U,U,U,U,U,U,U,U,U,U,U,U,U,U,U,U,U,U,U,U,U]/\Γ=abK z.2.2 st h s z.2.1 a c/\z.2.2.ok/\z.2.1.length+z.1<=f/\r7 z.1 z.2.1 z.2.2=some (l,q1)) (f,[],p3) ?_ ?_
 ·exact ⟨_,_,Wk.aH ao,none,0,rfl,rfl,Bp,by simp,hm⟩
 clear hm Bp qY eY dF hi Bj mU;rintro ⟨g,acc,p⟩ _ _ ⟨a,c,rfl,rfl,hp,C3,hm⟩;simp only at hp C3 hm
 cases g with
 | zero=>cases hm
 | succ g =>
 rw [r7] at hm;have hi:=mW p 0 [41] (hx st h) hp aD
 by_cases hgo:p.code=0/\is p 0 [41]=false
 ·obtain ⟨hc,yU⟩:=id hgo;rw [ah hgo] at hm;rw [yU] at hi
  have dP:(p.code==0)=true:=by simpa using hc
  by_cases h0:acc.length=0
  ·obtain rfl:=ig h0
   have hd:decide ((0:Int) < (([]:List ae).length:Int))=false:=by decide
   rw [ah (by rfl)] at hm;have dF:=uG p (hx st h) hp;have eY:=(kv hp).ok hp;generalize (tok p 0).s=s2 at *;refine zb2 ?_;refine zbQ ?_;refine aC [0] dF ?_;refine zat ?_;refine OA rfl rfl (GL.nF 6 (news:=[om s2]) rfl rfl rfl az rfl rfl (by refine ⟨?_,?_⟩;(· show _+1<=_;omega);(· show (_+1) * _<=_;omega)) ?_);intro a2 c2;refine zaL ?_;exact ⟨(g,[s2],bO p),⟨_,_,Wk.aH ao,a2,c2,rfl,rfl,eY,by simp at C3 |-;omega,hm⟩,by simp⟩
  ·have hd:decide ((0:Int) < (acc.length:Int))=true:=by simpa using by omega
   rw [ab h0] at hm;have hwc:=gA p [44] (hx st h) hp;have pz:=(dq hp [44]).ok hp;generalize want p [44]=pw at *;have dF:=uG pw (hx st h) pz;have eY:=(kv pz).ok pz;generalize (tok pw 0).s=s2 at *
   have hlen:(acc.map om).length<=f:=by simp;omega
   refine zb2 ?_;refine zam ?_;refine V [0] hwc ?_;refine zbQ ?_;refine aC [0] dF ?_;refine zat ?_;refine OA rfl rfl (GL.nF 6 (news:=[om s2]) rfl rfl rfl az rfl rfl (by refine ⟨?_,?_⟩;(· show _+1<=_;omega);(· show (_+1) * _<=_;omega)) ?_);intro a2 c2;refine cy ?_
   try rw [show (acc.map om).length+1=(acc++[s2]).length by simp]
   rw [show (acc.map om).length+[om s2].length=(acc++[s2]).length by simp,<-Ac om acc s2];refine bm ?_;exact ⟨(g,acc++[s2],bO pw),⟨_,_,Wk.aH ao,a2,c2,rfl,rfl,eY,by simp;omega,hm⟩,by simp⟩
 ·rw [ab hgo] at hm
  obtain ⟨rfl,rfl⟩:acc=l/\want p [41]=q1:=by simpa using hm
  clear hm;have Xj:=gA p [41] (hx st h) hp;have hpq:=(dq hp [41]).ok hp
  have kD:(nD st.trees).length+1<=1099511627776:=by rw [qs];omega
  have nz:(st.fns.map tR).length+1<=1099511627776:=by simp;omega
  by_cases hc:p.code=0
  ·have dP:(p.code==0)=true:=by simpa using hc
   have yU:is p 0 [41]=true:=by
    cases h3:is p 0 [41] with
    | true=>rfl
    | false=>exact absurd ⟨hc,h3⟩ hgo
   rw [yU] at hi
   by_cases hqc:(want p [41]).code=0
   ·have Va:((want p [41]).code==0)=true:=by simpa using hqc
    rw [ah hqc] at hw
    cases eN:iS f (.block 1) (want p [41]) with
    | none=>rw [eN] at hw;cases hw
    | some r =>
    obtain ⟨t,qq⟩:=r;rw [eN] at hw
    obtain ⟨rfl,rfl⟩:qq=q/\_=fo:=by simpa using hw
    have fu:=(iss f).block 1 _ t qq (hx st h) hpq X eN;clear eN hqc;generalize want p [41]=pq at *;refine zb2 ?_;refine kB ?_;refine D ?_;refine zcV ?_;refine OA rfl rfl (GL.nF 1 (news:=[[qT t]]) rfl rfl rfl az rfl rfl (by refine ⟨?_,?_⟩;(· show _+1<=_;omega);(· show (_+1) * _<=_;omega)) ?_);intro a3 c3;refine cy ?_
    try rw [show (nD st.trees).length+1=(st.trees++[t]).length by simp [qs]]
    refine zey ?_;apply GW.wk
    ·apply Wk.u7 (i:=5) (o:=1) (j:=6)
     ·rfl
     ·rfl
     ·rfl
     ·rfl
    simp only [oset,bX];refine aM (ax 0 7 (.a 7 (.a 8 (ax 9 3 (.a 12 .nil))))) ?_;refine zcg ?_;refine OA rfl rfl (GL.nF 4 (news:=[tR (s,acc)]) rfl rfl rfl az rfl rfl (by refine ⟨?_,?_⟩;(· show _+1<=_;omega);(· show (_+1) * _<=_;omega)) ?_);intro a4 c4;refine cy ?_
    try rw [show (st.fns.map tR).length+1=(st.fns++[(s,acc)]).length by simp]
    exact zbn
   ·have Va:((want p [41]).code==0)=false:=by simpa using hqc
    rw [ab hqc] at hw;cases hw;clear hqc;generalize want p [41]=pq at *;refine zb2 ?_;refine kB ?_;refine D ?_;refine zam ?_;refine V [0] Xj ?_;exact zdR
  ·have dP:(p.code==0)=false:=by simpa using hc
   by_cases hqc:(want p [41]).code=0
   ·have Va:((want p [41]).code==0)=true:=by simpa using hqc
    rw [ah hqc] at hw
    cases eN:iS f (.block 1) (want p [41]) with
    | none=>rw [eN] at hw;cases hw
    | some r =>
    obtain ⟨t,qq⟩:=r;rw [eN] at hw
    obtain ⟨rfl,rfl⟩:qq=q/\_=fo:=by simpa using hw
    have fu:=(iss f).block 1 _ t qq (hx st h) hpq X eN;clear eN hqc;generalize want p [41]=pq at *;refine zbG ?_;refine zcV ?_;refine OA rfl rfl (GL.nF 1 (news:=[[qT t]]) rfl rfl rfl az rfl rfl (by refine ⟨?_,?_⟩;(· show _+1<=_;omega);(· show (_+1) * _<=_;omega)) ?_);intro a3 c3;refine cy ?_
    try rw [show (nD st.trees).length+1=(st.trees++[t]).length by simp [qs]]
    refine zey ?_;apply GW.wk
    ·apply Wk.u7 (i:=5) (o:=1) (j:=6)
     ·rfl
     ·rfl
     ·rfl
     ·rfl
    simp only [oset,bX];refine aM (ax 0 7 (.a 7 (.a 8 (ax 9 3 (.a 12 .nil))))) ?_;refine zcg ?_;refine OA rfl rfl (GL.nF 4 (news:=[tR (s,acc)]) rfl rfl rfl az rfl rfl (by refine ⟨?_,?_⟩;(· show _+1<=_;omega);(· show (_+1) * _<=_;omega)) ?_);intro a4 c4;refine cy ?_
    try rw [show (st.fns.map tR).length+1=(st.fns++[(s,acc)]).length by simp]
    exact zbn
   ·have Va:((want p [41]).code==0)=false:=by simpa using hqc
    rw [ab hqc] at hw;cases hw;clear hqc;generalize want p [41]=pq at *;refine zbG ?_;refine zam ?_;refine V [0] Xj ?_;exact zdR
open Go.Xp (Tok)
theorem ZC {f:Nat} (p:RS) (st:PS) (h:HW) (q:RS) (fo:PS) (n:Nat) (hp:p.ok) (hn:st.le n) (hb:n+f+4<=1099511627776) (hw:iW f p st=some (q,fo)) :
  GC prog 145 [.loc 0 0] (ye p st h) (fun g aZ=>g=.tup []/\∃ h',aZ=ye q fo h'):=by
 cases I:is p 0 jU with
 | true=>exact TV p st h q fo n hp hn X I hw
 | false =>
  cases G:is p 0 ko with
  | true=>exact Qd p st h q fo n hp hn hb I G hw
  | false=>exact Qc p st h q fo hp I G hw
def qI (fns:List (ae × List ae)) (trees:List T) (k:Nat):List (List GV):=fns.mapIdx fun i x=>[.v (sv x.1),strs x.2,.v (ii (if i < k then ((aB (trees.take i):Nat):Int) else 0))]
theorem KL:∀ (rows:List (List GV)) (i j o:Nat) (g:GV),(iw rows i o g)[j]?=if j=i then (rows[j]?).map (fun r=>bX r o g) else rows[j]?
 | [],i,j,o,g=>by simp [iw]
 | r::rs,0,0,o,g=>by simp [iw]
 | r::rs,0,j+1,o,g=>by simp [iw]
 | r::rs,i+1,0,o,g=>by simp [iw]
 | r::rs,i+1,j+1,o,g=>by
  rw [iw,List.getElem?_cons_succ,KL rs i j o g];simp
theorem Za (fns:List (ae × List ae)) (trees:List T):fns.map tR=qI fns trees 0:=by
 apply List.ext_getElem?;intro i;rw [qI,getElem?_mapIdx,bp]
 cases fns[i]? <;> simp [tR]
theorem Tm (fns:List (ae × List ae)) (trees:List T) (k:Nat):iw (qI fns trees k) k 2 (.v (ii ((aB (trees.take k):Nat):Int)))=qI fns trees (k+1):=by
 apply List.ext_getElem?;intro i;rw [KL,qI,qI,getElem?_mapIdx,getElem?_mapIdx]
 by_cases h:i=k
 ·subst h;rw [ah rfl]
  cases fns[i]? with
  | none=>rfl
  | some x=>simp [bX]
 ·rw [ab h]
  cases fns[i]? with
  | none=>rfl
  | some x =>
   have:(i < k)=(i < k+1):=by simp;omega
   simp [this]
theorem VT {fns:List (ae × List ae)} {trees:List T} {k:Nat} (j:Nat) (h:k < fns.length):∃ x,(qI fns trees j)[k]?=some [.v (sv x.1),strs x.2,.v (ii (if k < j then ((aB (trees.take k):Nat):Int) else 0))]/\fns[k]?=some x:=by
 refine ⟨fns[k],?_,by simp [h]⟩;rw [qI,getElem?_mapIdx];simp [h]
def NS (q:RS) (st:PS):GV :=
 if q.code=0 then
  if aB st.trees > 800 then .tup [.agg [.sl 1 [],.sl 2 [],.sl 3 [],.sl 5 []],.v (ii 10),.v (ii 0)]
  else .tup [.agg [.sl 1 (st.globals.map om),.sl 2 (st.arrays.map uM),.sl 3 (qI st.fns st.trees st.trees.length),.sl 5 ((eD 0 st.trees).map vM)],.v (ii 0),.v (ii 0)]
 else .tup [.agg [.sl 1 [],.sl 2 [],.sl 3 [],.sl 5 []],.v (ii q.code),.v (ii q.at_)]
theorem Md {aeK f:Nat} (ts:List Tok) (e:Int) (q:RS) (st:PS) (hl:ts.length<=1099511627776) (hb:aeK+f+4<=1099511627776) (hz:q.code=0->aB st.trees<=1099511627776) (h:qG aeK f ⟨ts,0,e,0,0⟩ .empty=some (q,st)) :
  GF prog 86 [iU ts,.v (ii e)] [] (NS q st) []:=by
 unfold NS;refine ai func86 ntmps86 ?_;refine GW.wk (Wk.gK 79 1) ?_;refine GW.wk (Wk.gK 9 1) ?_;refine GW.wk (Wk.gK 98 2) ?_;refine GW.wk (Wk.gK 65 3) ?_;refine GW.loop (fun z:Nat × RS × PS=>z.1) (fun z fr Γ=>∃ h n,fr=[iU ts,.v (ii e),U,U,.loc 0 0,.v (ii 0),.v (ii 0),.loc 1 0,U,U,U,U,U,U,U,U,U,U,U,U,U,U,U,U,U,U,U,U,U,U,U,U,U,U,U,U,U,U,U,U,U,U,U,U,U,U,U,U,U,U,U,U,U,U,U,U,U,U,U,U,U,U,U,U,U,U,U,U,U,U,U,U,U,U,U,U,U,U,U]/\Γ=.box 28 [.v (.slice none 0 0),.v (.slice none 0 0),.v (.slice none 0 0),.v (.slice none 0 0)]::ye z.2.1 z.2.2 h/\z.2.1.l=ts/\z.2.1.ok/\z.2.2.le n/\n+z.1<=aeK/\qG z.1 f z.2.1 z.2.2=some (q,st)) (aeK,⟨ts,0,e,0,0⟩,.empty) ?_ ?_
 ·exact ⟨_,_,Wk.aH ao,⟨none,0,none,0,none,0,none,0⟩,0,rfl,rfl,rfl,⟨aS _,hl⟩,⟨aI _,aI _,aI _,rfl⟩,by simp,h⟩
 clear h;rintro ⟨g,p,s⟩ _ _ ⟨hd,n,rfl,rfl,cH,hp,hn,C3,h⟩;simp only at cH hp hn C3 h
 cases g with
 | zero=>cases h
 | succ g =>
 rw [qG] at h
 by_cases hgo:p.code=0/\p.i < p.l.length
 ·rw [ah hgo] at h
  have dP:(p.code==0)=true:=by simpa using hgo.1
  have au:decide ((p.i:Int) < ((ts.map dm).length:Int))=true:=by
   have:=hgo.2;rw [cH] at this;exact zcm
  cases hw:iW f p s with
  | none=>rw [hw] at h;cases h
  | some r =>
   obtain ⟨p2,s2⟩:=r;rw [hw] at h;simp only at h;have gn:=ab7 hp hw;refine D ?_;refine bA [1,2,3,4,5] (ZC p s hd p2 s2 n hp hn X hw) ?_;rintro _ _ ⟨rfl,qb,rfl⟩;refine zas ?_;exact ⟨(g,p2,s2),⟨_,_,Wk.aH ao,qb,n+1,rfl,rfl,by rw [gn.1,cH],gn.ok hp,ab5 hw hn,by show n+1+g<=aeK;omega,h⟩,by simp⟩
 ·rw [ab hgo] at h
  obtain ⟨rfl,rfl⟩:p=q/\s=st:=by simpa using h
  clear h
  have hex:∀ b1 b2:Bool,(p.code==0)=b1->decide ((p.i:Int) < ((ts.map dm).length:Int))=b2->b1=true->b2=false:=fun b1 b2 I G h3=>by
   subst h3
   cases b2 with
   | false=>rfl
   | true=>exact absurd ⟨by simpa using I,by rw [cH];simpa using G⟩ hgo
  by_cases hc:p.code=0
  ·rw [ah hc];have hz:=hz hc
   have dP:(p.code==0)=true:=by simpa using hc
   have mu:(p.code != 0)=false:=by simpa using hc
   have au:=hex _ _ dP rfl rfl;have lI:=hn.trees;have M9:=hn.fns;have wY:=qs s.trees;have nS:=Go.Xp.eI s.trees;refine zbG ?_;refine GW.wk (by apply Wk.tS (t:=52) (i:=2) <;> rfl) ?_;simp only [oset,bX];refine D ?_;refine GW.wk (Wk.gK 78 5) ?_;rw [Za s.fns s.trees]
   refine GW.range s.trees.length (fun k fr Γ=>∃ aN cN,fr=[U,U,U,U,.loc 0 0,.v (ii 0),.v (ii 0),U,.loc 6 0,U,U,U,U,U,U,U,U,U,U,U,U,U,U,U,U,U,U,U,U,U,U,U,U,U,U,U,U,U,U,U,U,U,U,U,U,U,U,U,U,U,U,U,.sl 1 (nD s.trees),.v (ii (s.trees.length:Int)),.v (ii (k:Nat)),U,U,U,U,U,U,U,U,U,U,U,U,U,U,U,U,U,U,U,U,U,U,U,U]/\Γ=[.box 28 [.v (.slice none 0 0),.v (.slice none 0 0),.v (.slice none 0 0),.v (.slice none 0 0)],cL p (hx s hd),.vec 79 1 (nD s.trees).length (nD s.trees),.vech 9 1 (s.globals.map om) (.slice hd.aG s.globals.length hd.cG),.vech 98 2 (s.arrays.map uM) (.slice hd.aA s.arrays.length hd.cA),.vech 65 3 (qI s.fns s.trees k) (.slice hd.aF s.fns.length hd.cF),
    .box 28 [.v (.slice hd.aG s.globals.length hd.cG),.v (.slice hd.aA s.arrays.length hd.cA),.v (.slice hd.aF s.fns.length hd.cF),.v (.slice aN (aB (s.trees.take k)) cN)],.vech 78 5 ((eD 0 (s.trees.take k)).map vM) (.slice aN (aB (s.trees.take k)) cN)]) ?_ X ?_ ?_ ?_
   ·exact ⟨_,_,Wk.aH ao,none,0,rfl,rfl⟩
   ·rintro k _ _ ⟨aN,cN,rfl,rfl⟩;exact dr
   ·rintro k _ _ au ⟨aN,cN,rfl,rfl⟩;obtain ⟨t,ht⟩:∃ t,s.trees[k]?=some t:=⟨s.trees[k],by simp [au]⟩;have hr:=Fa ht;have dj:=Go.Xp.yk ht;have hle:=Go.Xp.yj s.trees (k+1)
    have oW:s.trees.take (k+1)=s.trees.take k++[t]:=by rw [dk,ht];rfl
    obtain ⟨x,nC,Nl⟩:=VT (fns:=s.fns) (trees:=s.trees) (k:=k) k X;rw [ab (Nat.lt_irrefl k)] at nC;have r6:k < (qI s.fns s.trees k).length:=(bB nC).1
    have hX:((eD 0 (s.trees.take k)).map vM).length=aB (s.trees.take k):=by rw [bM,Go.Xp.wc]
    have ki:=Rs (aQ t) t (aI _) (aB (s.trees.take k)) _ aN cN hX X;rw [<-Tm s.fns s.trees k,oW,Go.Xp.Ci,Go.Xp.qu];simp only [eD,aB,dN,Nat.add_zero,dJ,l9];generalize (eD 0 (s.trees.take k)).map vM=aeJ at *;generalize aB (s.trees.take k)=z at *;generalize qI s.fns s.trees k=R at *;refine D ?_;refine Lt ?_;refine D ?_;refine bA [7] ki ?_;rintro _ _ ⟨a5,c5,rfl,rfl⟩;refine zas ?_;exact ⟨rfl,rfl,_,_,Wk.aH ao,a5,c5,rfl,rfl⟩
   ·rintro _ _ ⟨aN,cN,rfl,rfl⟩;rw [c7]
    have hX:((eD 0 s.trees).map vM).length=aB s.trees:=by rw [bM,Go.Xp.wc]
    by_cases h8:aB s.trees > 800
    ·rw [ah h8]
     have h8':decide ((800:Int) < (aB s.trees:Int))=true:=by simpa using by omega
     generalize aB s.trees=z at *;refine D ?_;refine Fo ?_;exact zaZ
    ·rw [ab h8]
     have h8':decide ((800:Int) < (((eD 0 s.trees).map vM).length:Int))=false:=by rw [hX];simpa using by omega
     refine bc ?_;refine GW.wk (by apply Wk.u7 (i:=6) (o:=0) (j:=3) <;> rfl) ?_;simp only [oset,bX];refine GW.wk (by apply Wk.u7 (i:=6) (o:=1) (j:=4) <;> rfl) ?_;simp only [oset,bX];refine GW.wk (by apply Wk.u7 (i:=6) (o:=2) (j:=5) <;> rfl) ?_;simp only [oset,bX];refine GW.wk (by apply Wk.u7 (i:=6) (o:=3) (j:=7) <;> rfl) ?_;simp only [oset,bX];refine D ?_;refine pC ?_;exact zah
  ·rw [ab hc]
   have dP:(p.code==0)=false:=by simpa using hc
   have mu:(p.code != 0)=true:=by simpa using hc
   refine zbG ?_;refine aM (ax 0 9 (.a 9 (.q 10 (.q 11 .nil)))) ?_;refine bm ?_;refine Fo ?_;exact zaZ
end Go.Xg
namespace Go.Xg
open Go.RowKit Go.Xw Go.Proofs Tryz
open GV (U)
open Go.Sp (small eV ff)
open Go.Im (ri)
attribute [local irreducible] GW GL GO YG GC GA aU aW
theorem Cc (c:UInt8):GF prog 237 [GX c] [] (.v (.bool (eV c))) []:=by
 unfold eV;refine dh func237 ntmps237 ?_
 cases h:decide ((48:Int)<=(c.toNat:Int))
 all_goals
  exact ay
theorem DO (c:UInt8):GF prog 239 [GX c] [] (.v (.bool (small c))) []:=by
 unfold small;refine dh func239 ntmps239 ?_
 cases h:decide ((97:Int)<=(c.toNat:Int))
 all_goals
  exact ay
theorem PG (c:UInt8):GF prog 240 [GX c] [] (.v (.bool (ff c))) []:=by
 unfold ff;have hs:=DO c;have hd:=Cc c;generalize small c=b1 at *;generalize eV c=b2 at *;refine ai func240 ntmps240 ?_;refine kA [] hs ?_
 cases b1 with
 | true =>
  exact ay
 | false =>
  cases I:decide ((65:Int)<=(c.toNat:Int)) with
  | true =>
   cases G:decide ((c.toNat:Int)<=90) with
   | true =>
    exact ay
   | false =>
    refine D ?_;refine kA [] hd ?_
    cases b2 with
    | true =>
     exact ay
    | false =>
     exact ay
  | false =>
   refine D ?_;refine kA [] hd ?_
   cases b2 with
   | true =>
    exact ay
   | false =>
    exact ay
theorem XJ (test:FuncId) [hf:aO prog test] (p:UInt8->Bool) (ht:∀ c,GF prog test [GX c] [] (.v (.bool (p c))) []) (s:ae) (a:Nat) (hs:s.length<=1099511627776) (ha:a<=s.length) :
  GF prog 238 [.v (sv s),.v (ii (a:Nat)),.v (.func (.func test) #[] #[])] [] (.v (ii (Go.Sp.run s p (s.length+1) a:Nat))) []:=by
 generalize hR:Go.Sp.run s p (s.length+1) a=R;refine ai func238 ntmps238 ?_;refine GW.loop (fun x:Nat × Nat=>x.1) (fun x fr Γ=>fr=[.v (sv s),.v (ii (x.2:Nat)),.v (.func (.func test) #[] #[]),U,U,U,U,U,U,U,U,U,U,U,U,U,U,U,U,U,U]/\Γ=[]/\x.2<=s.length/\s.length < x.1+x.2/\Go.Sp.run s p x.1 x.2=R) (s.length+1,a) ?_ ?_
 ·exact ⟨_,_,Wk.aH ao,rfl,rfl,ha,by simp only;omega,hR⟩
 ·rintro ⟨f,a⟩ _ _ ⟨rfl,rfl,ha,hf2,h⟩;simp only at ha hf2 h
  cases f with
  | zero=>omega
  | succ f =>
  rw [Go.Sp.run] at h
  cases hc:s[a]? with
  | none =>
   rw [hc] at h;simp only at h;subst h;have kP:s.length<=a:=pS hc
   have hd:decide ((a:Int) < (s.length:Int))=false:=by simpa using kP
   exact zd3
  | some c =>
   rw [hc] at h;simp only at h;have au:a < s.length:=(bB hc).1
   have hd:decide ((a:Int) < (s.length:Int))=true:=by simpa using au
   have qc:=ht c
   cases hdc:p c with
   | false =>
    rw [hdc] at qc;rw [ab (by rw [hdc];simp)] at h;subst h;refine D ?_;refine ln [] qc ?_;exact zd3
   | true =>
    rw [hdc] at qc;rw [ah hdc] at h;refine D ?_;refine ln [] qc ?_;refine D ?_;exact ⟨(f,a+1),⟨_,_,Wk.aH ao,rfl,rfl,au,by simp only;omega,h⟩,by simp⟩
theorem Tt:Go.Lib.asciiSpaceTab=zj:=by decide
theorem Rm:Go.Lib.fields [105,110,116,32,118,97,114,32,102,117,110,99,32,105,102,32,101,108,115,101,32,119,104,105,108,101,32,114,101,116,117,114,110,32,124,124,32,38,38,32,61,61,32,33,61,32,60,61,32,62,61,32,60,60,32,62,62,32,40,32,41,32,123,32,125,32,91,32,93,32,44,32,59,32,61,32,60,32,62,32,43,32,45,32,42,32,47,32,37,32,38,32,124,32,94,32,33,32,126]=ri:=by decide +kernel
open Go.Im (oh)
theorem pV.DS {P:Program} {f:FuncId} {vs:List Value} {w:World} {R:Value->World->Prop} (h:Calls P f vs.toArray w fun e w'=>∃ v,e=.returned v/\R v w'):pV P f vs w R:=h
theorem Uf:GF prog 297 [.v (sv [105,110,116,32,118,97,114,32,102,117,110,99,32,105,102,32,101,108,115,101,32,119,104,105,108,101,32,114,101,116,117,114,110,32,124,124,32,38,38,32,61,61,32,33,61,32,60,61,32,62,61,32,60,60,32,62,62,32,40,32,41,32,123,32,125,32,91,32,93,32,44,32,59,32,61,32,60,32,62,32,43,32,45,32,42,32,47,32,37,32,38,32,124,32,94,32,33,32,126])] [] (strs ri) []:=by
 have:=GF.adO (P:=prog) (f:=297) (vs:=[sv [105,110,116,32,118,97,114,32,102,117,110,99,32,105,102,32,101,108,115,101,32,119,104,105,108,101,32,114,101,116,117,114,110,32,124,124,32,38,38,32,61,61,32,33,61,32,60,61,32,62,61,32,60,60,32,62,62,32,40,32,41,32,123,32,125,32,91,32,93,32,44,32,59,32,61,32,60,32,62,32,43,32,45,32,42,32,47,32,37,32,38,32,124,32,94,32,33,32,126]]) (us:=ri.map sv) (E:=9) fun K β w ht hf=>?_
 ·rw [List.map_map] at this;exact this
 ·obtain ⟨E,z,tI⟩:=wB.all ht hf ht.spc (zs:=zj.map fun z=>Value.int .u8 z) aD (fun m o x hx=>by
   rw [bp] at hx;unfold AQ;rw [ab aD,ab aD,ah rfl]
   cases hs:zj[o]? with
   | none=>rw [hs] at hx;cases hx
   | some y=>rw [hs] at hx;cases hx;rfl)
  have DE:Go.Lib.TabIs prog w "strings.asciiSpace" .u8 Go.Lib.asciiSpaceTab:=by
   unfold Go.Lib.TabIs World.var?;rw [show prog.globalNamed "strings.asciiSpace" = some 2 by kernel_rfl,Tt];simp only [Option.bind_some,tI]
  have h:=strings_Fields_laid ⟨[105,110,116,32,118,97,114,32,102,117,110,99,32,105,102,32,101,108,115,101,32,119,104,105,108,101,32,114,101,116,117,114,110,32,124,124,32,38,38,32,61,61,32,33,61,32,60,61,32,62,61,32,60,60,32,62,62,32,40,32,41,32,123,32,125,32,91,32,93,32,44,32,59,32,61,32,60,32,62,32,43,32,45,32,42,32,47,32,37,32,38,32,124,32,94,32,33,32,126].toArray⟩ w aD (fun j b hb=>by
   have:∀ b∈([105,110,116,32,118,97,114,32,102,117,110,99,32,105,102,32,101,108,115,101,32,119,104,105,108,101,32,114,101,116,117,114,110,32,124,124,32,38,38,32,61,61,32,33,61,32,60,61,32,62,61,32,60,60,32,62,62,32,40,32,41,32,123,32,125,32,91,32,93,32,44,32,59,32,61,32,60,32,62,32,43,32,45,32,42,32,47,32,37,32,38,32,124,32,94,32,33,32,126]:List UInt8),b.toNat < 128:=by decide
   exact this b (bo hb)) DE
  refine pV.DS (Calls.mono h ?_);rintro e w' ⟨I,G⟩;rw [show ((⟨[105,110,116,32,118,97,114,32,102,117,110,99,32,105,102,32,101,108,115,101,32,119,104,105,108,101,32,114,101,116,117,114,110,32,124,124,32,38,38,32,61,61,32,33,61,32,60,61,32,62,61,32,60,60,32,62,62,32,40,32,41,32,123,32,125,32,91,32,93,32,44,32,59,32,61,32,60,32,62,32,43,32,45,32,42,32,47,32,37,32,38,32,124,32,94,32,33,32,126].toArray⟩:ByteArray).data.toList)=[105,110,116,32,118,97,114,32,102,117,110,99,32,105,102,32,101,108,115,101,32,119,104,105,108,101,32,114,101,116,117,114,110,32,124,124,32,38,38,32,61,61,32,33,61,32,60,61,32,62,61,32,60,60,32,62,62,32,40,32,41,32,123,32,125,32,91,32,93,32,44,32,59,32,61,32,60,32,62,32,43,32,45,32,42,32,47,32,37,32,38,32,124,32,94,32,33,32,126] from rfl,Rm] at I G;exact ⟨_,I,by rw [bM],G⟩
theorem Zf:GF prog 281 [] [] (strs ri) []:=by
 have h:=Uf;generalize ri=l at *;refine ai func281 ntmps281 ?_;exact za0
theorem DJ (s:ae):GF prog 241 [.v (sv s)] [] (.v (.bool (oh s))) []:=by
 have h:=Zf;have hc:=ke ri s aD;unfold oh;generalize ri=l at *;refine ai func241 ntmps241 ?_;refine V [] h ?_;refine V [] hc ?_;exact al
open Go.Sp (jq gI)
open Go.Im (dY lX kr pX oZ xn ph)
theorem VZ (s:ae) (a:Nat) (c:UInt8) (hs:s.length<=1099511627776) (hc:s[a]?=some c):GF prog 242 [.v (sv s),.v (ii (a:Nat))] [] (.v (sv (kr s a))) []:=by
 have au:a < s.length:=(bB hc).1;have lT:=DO c;refine ai func242 ntmps242 ?_;refine GW.loop (fun x:Nat=>x) (fun x fr Γ=>fr=[.v (sv s),.v (ii (a:Nat)),U,U,U,.v (ii (x:Nat)),U,U,U,U,U,U,U,U,U,U,U,U,U,U,U,U,U,U,U,U,U,U,U,U,U,U,U,U,U,U,U,U]/\Γ=[]/\x<=2/\∀ j,x < j->j<=2->lX s a j=false) 2 ?_ ?_
 ·exact ⟨_,_,Wk.aH ao,rfl,rfl,aI _,fun j I G=>by omega⟩
 ·rintro x _ _ ⟨rfl,rfl,hx,cS⟩
  have u3:∀ k,x=k+1->lX s a x=false->∀ j,k < j->j<=2->lX s a j=false:=fun k hk ht j I G=>by
   by_cases hj:j=x
   ·rw [hj];exact ht
   ·exact cS j X G
  have TF:∀ k,lX s a k=(decide (a+k<=s.length)&&!(small c)&&oh (dY s a (a+k))):=fun k=>by unfold lX;rw [hc]
  match x,hx,cS,u3 with
  | 0,_,cS,_ =>
   have e:kr s a=[]:=by unfold kr;rw [cS 2 X X,cS 1 X X];rfl
   rw [e];exact zd3
  | 1,_,cS,u3 =>
   have hle:decide (((a+1:Nat):Int)<=(s.length:Int))=true:=by simpa using by omega
   have hb:a<=a+1/\a+1<=s.length:=by omega
   have ht:=TF 1;rw [show decide (a+1<=s.length)=true from decide_eq_true X] at ht
   cases hsc:small c with
   | true =>
    rw [hsc] at lT ht;refine D ?_;refine V [] lT ?_;exact zeW
   | false =>
    rw [hsc] at lT ht;have eO:=DJ (dY s a (a+1))
    cases hg:oh (dY s a (a+1)) with
    | false =>
     rw [hg] at eO ht;refine zef ?_;exact zeW
    | true =>
     rw [hg] at eO ht
     have e:kr s a=dY s a (a+1):=by unfold kr;rw [cS 2 X X,ht];rfl
     rw [e];refine zef ?_;exact al
  | 2,_,cS,u3 =>
   have ht:=TF 2
   by_cases nz:a+2<=s.length
   ·have hle:decide (((a+2:Nat):Int)<=(s.length:Int))=true:=by simpa using by omega
    have hb:a<=a+2/\a+2<=s.length:=by omega
    rw [show decide (a+2<=s.length)=true by simpa using nz] at ht
    cases hsc:small c with
    | true =>
     rw [hsc] at lT ht;refine D ?_;refine V [] lT ?_;exact zcf
    | false =>
     rw [hsc] at lT ht;have eO:=DJ (dY s a (a+2))
     cases hg:oh (dY s a (a+2)) with
     | false =>
      rw [hg] at eO ht;refine zef ?_;exact zcf
     | true =>
      rw [hg] at eO ht
      have e:kr s a=dY s a (a+2):=by unfold kr;rw [ht];rfl
      rw [e];refine zef ?_;exact al
   ·have hle:decide (((a+2:Nat):Int)<=(s.length:Int))=false:=by simpa using by omega
    rw [show decide (a+2<=s.length)=false by simpa using nz] at ht;refine D ?_;exact zcf
  | n+3,hx,_,_=>omega
def PL (n:Int) (e:Nat) (a:Nat):GV:=if n > 2147483647 then .tup [.agg (dm xn),.v (ii (a:Nat)),.v (ii 3)] else .tup [.agg (dm ⟨1,n,[],a⟩),.v (ii (e:Nat)),.v (ii 0)]
theorem TE (s:ae) (a:Nat) (c:UInt8) (hs:s.length<=1099511627776) (hc:s[a]?=some c) (hd:eV c=true) :
  GF prog 181 [.v (sv s),.v (ii (a:Nat))] [] (PL (oZ (dY s a (pX s a)) 0) (pX s a) a) []:=by
 have au:a < s.length:=(bB hc).1;have qc:=Cc c;rw [hd] at qc;have qy:=XJ 237 eV Cc s a hs X;obtain ⟨e1,e2,e3⟩:=Go.Sp.rB s eV (s.length+1) a X X;have bj:=Go.Im.Gg s eV (s.length+1) a X;unfold pX;generalize Go.Sp.run s eV (s.length+1) a=e at *;clear e1;generalize hR:oZ (dY s a e) 0=R;refine ai func181 ntmps181 ?_;refine V [] qc ?_;refine V [] qy ?_;refine GW.loop (fun x:Nat × Int=>e - x.1) (fun x fr Γ=>fr=[.v (sv s),.v (ii (a:Nat)),U,U,.loc 0 0,.v (ii 0),.v (ii 0),U,.v (ii (e:Nat)),.v (ii x.2),.v (ii (x.1:Nat)),U,U,U,U,U,U,U,U,U,U,U,U,U,U,U,U,U,U,U,U,U,U,U,U,U,U,U,U,U,U,U,U,U,U,U,U,U,U,U,U,U,U,U,U,U,U,U,U,U,U,U,U,U,U,U,U,U,U,U,U,U,U,U,U,U,U,U,U,U,U]/\Γ=[.box 168 (dm xn)]/\a<=x.1/\x.1<=e/\oZ (dY s x.1 e) x.2=R/\0<=x.2/\x.2<=21474836480) (a,0) ?_ ?_
 ·exact ⟨_,_,Wk.aH ao,rfl,rfl,aI _,e2,hR,by simp,by simp⟩
 ·rintro ⟨i,n⟩ _ _ ⟨rfl,rfl,hi,hie,h,wV,yS⟩;simp only at hi hie h wV yS
  have fin:R=n->True:=fun _=>trivial
  by_cases lI:i < e
  ·have JM:decide ((i:Int) < (e:Int))=true:=by simpa using lI
   by_cases hn:n<=2147483647
   ·have yR:decide (n<=2147483647)=true:=by simpa using hn
    have ue:i < s.length:=by omega
    obtain ⟨d,qb⟩:∃ d,s[i]?=some d:=⟨s[i],by simp [ue]⟩
    have iN:eV d=true:=by
     have:d∈dY s a e:=by
      unfold dY;rw [List.mem_iff_getElem?];exact ⟨i - a,by rw [List.getElem?_drop,List.getElem?_take,show a+(i - a)=i by omega,ah lI];exact qb⟩
     exact bj d this
    have Bu:(48:Int)<=(d.toNat:Int)/\(d.toNat:Int)<=57:=by
     simp only [eV,aK,decide_eq_true_eq] at iN;exact iN
    rw [Go.Im.sL qb lI e3,oZ,ah hn] at h;refine D ?_;exact ⟨(i+1,10 * n+((d.toNat:Int) - 48)),⟨_,_,Wk.aH ao,rfl,rfl,by simp only;omega,lI,h,by simp only;omega,by simp only;omega⟩,by simp only;omega⟩
   ·have yR:decide (n<=2147483647)=false:=by simpa using hn
    have mR:R=n:=by
     rw [<-h]
     cases hw:dY s i e with
     | nil=>rw [oZ]
     | cons d r=>rw [oZ,ab hn]
    rw [mR];clear h mR hR fin
    have cx:decide (2147483647 < n)=true:=by simpa using by omega
    unfold PL;rw [ah X];exact zfp
  ·have JM:decide ((i:Int) < (e:Int))=false:=by simpa using by omega
   have mR:R=n:=by
    rw [<-h];have:dY s i e=[]:=ig (by rw [Go.Im.oe e3];omega);rw [this,oZ]
   rw [mR];clear h mR hR fin;unfold PL
   by_cases hn:n > 2147483647
   ·have cx:decide (2147483647 < n)=true:=by simpa using hn
    rw [ah hn];exact zfp
   ·have cx:decide (2147483647 < n)=false:=by simpa using hn
    rw [ab hn];exact zfp
theorem Zz (s:ae) (a:Nat) (c:UInt8) (hs:s.length<=1099511627776) (hc:s[a]?=some c) :
  GF prog 181 [.v (sv s),.v (ii (a:Nat))] [] (.tup [.agg (dm (ph s a c).1),.v (ii ((ph s a c).2.1:Nat)),.v (ii (ph s a c).2.2)]) []:=by
 have au:a < s.length:=(bB hc).1;have qc:=Cc c;have lT:=DO c
 by_cases hd:eV c=true
 ·have h:=TE s a c hs hc hd;unfold PL at h;unfold ph;rw [ah hd];split at h
  ·rename_i hn;rw [ah hn];exact h
  ·rename_i hn;rw [ab hn];exact h
 ·have Eu:eV c=false:=by simpa using hd
  unfold ph;rw [ab hd];rw [Eu] at qc
  by_cases hsc:small c=true
  ·rw [ah hsc];rw [hsc] at lT;have qy:=XJ 240 ff PG s a hs X;obtain ⟨e1,e2,e3⟩:=Go.Sp.rB s ff (s.length+1) a X X;have hw:jq s a=(s.take (gI s a)).drop a:=rfl;have eO:=DJ (jq s a);unfold gI at hw |-;rw [hw] at eO |-;generalize Go.Sp.run s ff (s.length+1) a=e at *;have hb:a<=e/\e<=s.length:=⟨e2,e3⟩
   cases hg:oh ((s.take e).drop a) with
   | true =>
    exact zca
   | false =>
    exact zca
  ·have adD:small c=false:=by simpa using hsc
   rw [ab hsc];rw [adD] at lT;have Xc:=VZ s a c hs hc
   have hlen:(kr s a).length<=2:=by
    have:(kr s a=dY s a (a+2)\/kr s a=dY s a (a+1))\/kr s a=[]:=by
     unfold kr;split
     ·exact .inl (.inl rfl)
     ·split
      ·exact .inl (.inr rfl)
      ·exact zbB
    rcases this with (h | h) | h <;> rw [h]
    ·unfold dY;rw [lE,gE];omega
    ·unfold dY;rw [lE,gE];omega
    ·simp
   generalize kr s a=x at *
   by_cases hx:x=[]
   ·have Nk:(x==[])=true:=by simpa using hx
    rw [ah hx];exact zc2
   ·have Nk:(x==[])=false:=by simpa using hx
    rw [ab hx];exact zc2
open Go.Xp (Tok)
open Go.Sp (cv fY)
open Go.Im (sC w6)
def FU (x t:ae):Bool:=decide (t.length<=x.length)&&(x.take t.length==t)
theorem Ow (x t:ae) (hx:x.length<=1099511627776) (ht:t.length<=1099511627776):GF prog 236 [.v (sv x),.v (sv t)] [] (.v (.bool (FU x t))) []:=by
 unfold FU
 by_cases h:t.length<=x.length
 ·have I:decide ((t.length:Int)<=(x.length:Int))=true:=by simpa using h
  rw [decide_eq_true h];refine ai func236 ntmps236 ?_;exact al
 ·have I:decide ((t.length:Int)<=(x.length:Int))=false:=by simpa using by omega
  rw [decide_eq_false h];refine ai func236 ntmps236 ?_;exact al
theorem LH (x t:ae) (hx:x.length<=1099511627776) (ht:t.length<=1099511627776):GF prog 180 [.v (sv x),.v (sv t)] [] (.v (.bool (FU x t))) []:=by
 have h:=Ow x t hx ht;generalize FU x t=b at *;refine ai func180 ntmps180 ?_;exact za0
theorem LS {s t:ae} {a:Nat} (ha:a<=s.length):FU (s.drop a) t=cv s a t:=by
 unfold FU cv;rw [lE,List.drop_take,show a+t.length - a=t.length by omega]
 congr 1
 rw [Bool.eq_iff_iff];simp;omega
theorem LI (c:UInt8):GF prog 179 [.v (sv [32,9,10,13]),GX c] [] (.v (ii (Go.Lib.indexByte [32,9,10,13] c))) []:=by
 refine GF.lib (vs:=[sv [32,9,10,13],.int .u8 (c.toNat:Int)]) fun K β w ht hf=>?_
 refine pV.DS (Calls.mono (strings_IndexByte ⟨[32,9,10,13].toArray⟩ (c.toNat:Int) w) ?_);rintro e w' ⟨I,G⟩;refine ⟨_,I,?_,by rw [G];exact Ext.refl w⟩;simp
theorem Um (x:ae) (hx:x.length<=4294967280):GF prog 156 [.v (sv x),.v (sv [42,47])] [] (.v (ii (Go.Lib.index x [42,47]))) []:=by
 refine GF.lib (vs:=[sv x,sv [42,47]]) fun K β w ht hf=>?_
 obtain ⟨m,hm⟩:=ht.maxLen hf;refine pV.DS (Calls.mono (strings_Index ⟨x.toArray⟩ ⟨[42,47].toArray⟩ m w (by show (x.toArray).size < _;simp;omega) hm) ?_);rintro e w' ⟨I,G⟩;refine ⟨_,I,?_,by rw [G];exact Ext.refl w⟩;simp
theorem Uz (c:UInt8):decide ((0:Int)<=Go.Lib.indexByte [32,9,10,13] c)=fY c:=by
 have hb:fY c=((32:UInt8)==c || (9:UInt8)==c || (10:UInt8)==c || (13:UInt8)==c):=by
  have e:∀ k:UInt8,((c.toNat:Int)==(k.toNat:Int))=(k==c):=fun k=>by
   rw [Bool.eq_iff_iff];simp only [beq_iff_eq]
   exact ⟨fun h=>by
    have:c.toNat=k.toNat:=by omega
    exact (UInt8.toNat_inj.1 this).symm,fun h=>by rw [h]⟩
  have e1:=e 32;have e2:=e 9;have e3:=e 10;have e4:=e 13;unfold fY;rw [<-e1,<-e2,<-e3,<-e4];rfl
 rw [hb];unfold Go.Lib.indexByte Go.Lib.indexByte Go.Lib.indexByte Go.Lib.indexByte Go.Lib.indexByte
 cases (32:UInt8)==c <;> cases (9:UInt8)==c <;> cases (10:UInt8)==c <;> cases (13:UInt8)==c <;> decide
theorem Sr (l:ae):Go.Lib.index l [42,47]=(match w6 l with | none => -1 | some n=>(n:Int)):=by
 induction l with
 | nil=>rfl
 | cons b l ih =>
  rw [Go.Lib.index,w6];split
  ·rfl
  ·rw [ih]
   cases w6 l with
   | none=>rfl
   | some n =>
    simp only;rw [ab (by simp <;> omega)];simp
theorem VF (s:ae) (f:Nat) (ts:List Tok) (c z:Int) (hs:s.length<=4294967280) (h:sC s f 0 []=some (ts,c,z)) :
  GF prog 120 [.v (sv s)] [] (.tup [iU ts,.v (ii c),.v (ii z)]) []:=by
 refine ai func120 ntmps120 ?_;refine GW.wk (Wk.Ga (t:=5) (a:=none) (c:=0) 168 4 rfl) ?_;refine GW.loop (fun x:Nat × Nat × List Tok=>x.1) (fun x fr Γ=>∃ n rows,fr=[.v (sv s),U,.v (.slice none 0 0),.v (ii 0),.v (ii 0),.vec 0 n,.v (ii (x.2.1:Nat)),U,U,U,U,U,U,U,U,U,U,U,U,U,U,U,U,U,U,U,U,U,U,U,U,U,U,U,U,U,U,U,U,U,U,U,U,U,U,U,U,U,U,U,U,U,U,U,U]/\Γ=[.vec 168 4 0 rows]/\rows.length=n/\rows=x.2.2.map dm/\x.2.1<=s.length/\n<=x.2.1/\sC s x.1 x.2.1 x.2.2=some (ts,c,z)) (f,0,[]) ?_ ?_
 ·exact ⟨_,_,Wk.aH ao,0,[],rfl,rfl,rfl,rfl,aS _,aI _,h⟩
 ·clear h;rintro ⟨f,a,acc⟩ _ _ ⟨n,rows,rfl,rfl,hn,bD,ha,EB,h⟩;simp only at bD ha EB h
  cases f with
  | zero=>cases h
  | succ f =>
  rw [sC] at h
  cases hc:s[a]? with
  | none =>
   rw [hc] at h;cases h;have kP:s.length<=a:=pS hc
   have hd:decide ((a:Int) < (s.length:Int))=false:=by simpa using kP
   refine eE ?_;refine GW.wk (Wk.jY (t:=5) rfl rfl rfl hn) ?_;refine D ?_;refine Gv ?_;exact ⟨by rw [bD];rfl,rfl⟩
  | some ch =>
   rw [hc] at h;simp only at h;have au:a < s.length:=(bB hc).1
   have hd:decide ((a:Int) < (s.length:Int))=true:=by simpa using au
   have RZ:=LI ch;have rF:=Uz ch
   cases hb:fY ch with
   | true =>
    rw [ah hb] at h;rw [hb] at rF;generalize Go.Lib.indexByte [32,9,10,13] ch=ib at *;refine D ?_;refine V [] RZ ?_;refine kB ?_;exact ⟨(f,a+1,acc),⟨_,_,Wk.aH ao,n,rows,rfl,rfl,hn,bD,au,by simp only;omega,h⟩,by simp⟩
   | false =>
    rw [ab zgO] at h;rw [hb] at rF;generalize Go.Lib.indexByte [32,9,10,13] ch=ib at *;have qW:=LH (s.drop a) [47,42] (by rw [lE];omega) aD;rw [LS ha] at qW
    cases qU:cv s a [47,42] with
    | true =>
     rw [ah qU] at h;rw [qU] at qW;have kO:=Go.Sp.mA qU;simp only [length_cons,length_nil] at kO;have Bm:=Um (s.drop (a+2)) (by rw [lE];omega);rw [Sr] at Bm
     have RQ:a+2<=s.length:=by omega
     cases hi:w6 (s.drop (a+2)) with
     | none =>
      rw [hi] at Bm h;cases h;refine zeg ?_;refine V [] Bm ?_;exact zeU
     | some e =>
      rw [hi] at Bm h;have eH:=Go.Im.FY hi;rw [lE] at eH
      have he0:decide (((e:Nat):Int) < 0)=false:=by simp
      refine zeg ?_;refine V [] Bm ?_;refine kB ?_;exact ⟨(f,a+(e+4),acc),⟨_,_,Wk.aH ao,n,rows,rfl,rfl,hn,bD,by simp only;omega,by simp only;omega,h⟩,by simp⟩
    | false =>
     rw [ab (by rw [qU];decide)] at h;rw [qU] at qW;have oW:=Zz s a ch X hc
     have fA:=fun h0=>Go.Im.Of hc h0
     generalize ph s a ch=R at *;obtain ⟨t,e,code⟩:=R;simp only at oW h fA
     by_cases h0:code=0
     ·rw [ab zgN] at h
      have vi:(code != 0)=false:=by simpa using h0
      obtain ⟨_,_,k3,k4⟩:=fA h0;refine zeg ?_;refine V [] oW ?_;refine zby ?_;exact ⟨(f,e,acc++[t]),⟨_,_,(Wk.cut (n:=1) (c6 rfl) rfl).trans (Wk.aH ao),_,_,rfl,rfl,by simp [hn],by rw [l9,bD];rfl,k4,by simp only;omega,h⟩,by simp⟩
     ·rw [ah h0] at h
      have vi:(code != 0)=true:=by simpa using h0
      cases h;refine zeg ?_;refine V [] oW ?_;exact zeU
open Go.Xp (T aQ)
open Go.Im (ep j0)
theorem Vm:∀ (N:Nat) (t:T),aQ t<=N->aQ t<=1099511627776->GF prog 118 [uT t] [] (.v (.bool (j0 t))) []:=by
 intro N
 induction N with
 | zero=>intro t h;rw [Go.Xp.fH] at h;omega
 | succ N ih =>
 intro t hN hb;rw [Go.Xp.fH] at hN hb;have eh:=Go.Xp.eI t.kids;have qF:=uR t.kids;rw [Go.Im.BC,Go.Im.w8];unfold uT;generalize t.n.kind=kd;refine dh func118 ntmps118 ?_;refine Oh ?_;refine GW.join (fun fr Γ=>fr=[.box [.v (ii kd),.v (ii t.n.at_),.v (ii t.n.n),.v (sv t.n.s),ints t.n.kids,.sl 1 (dp t.kids)] 0,U,U,U,.v (.bool (ep kd t.kids.length)),U,U,U,U,U,U,U,U,U,U,U,U,U,U,U,U,U,U,U,U,U,U,U,U,U,U,U,U,U,U,U,U,U,U,U,U,U,U,U,U,U,U,U,U,U,U,U,U,U,U,U,U,U,U,U,U,U,U,U]/\Γ=[]) ?_ ?_
 ·rw [<-qF];generalize (dp t.kids)=l
  by_cases I:kd=1
  ·subst I
   have ef:((1:Int)==1)=true:=by decide
   rw [show ep 1 l.length=((l.length:Int)==0) by unfold ep;simp];exact jx
  by_cases G:kd=2
  ·subst G
   have ef:((2:Int)==1)=false:=by decide
   have oQ:((2:Int)==2)=true:=by decide
   rw [show ep 2 l.length=((l.length:Int)==0) by unfold ep;simp];exact jx
  by_cases h4:kd=4
  ·subst h4
   have ef:((4:Int)==1)=false:=by decide
   have oQ:((4:Int)==2)=false:=by decide
   have f4:((4:Int)==4)=true:=by decide
   rw [show ep 4 l.length=true by unfold ep;simp];exact jx
  by_cases El:kd=14
  ·subst El
   have ef:((14:Int)==1)=false:=by decide
   have oQ:((14:Int)==2)=false:=by decide
   have f4:((14:Int)==4)=false:=by decide
   have f14:((14:Int)==14)=true:=by decide
   rw [show ep 14 l.length=true by unfold ep;simp];exact jx
  by_cases h3:kd=3
  ·subst h3
   have ef:((3:Int)==1)=false:=by decide
   have oQ:((3:Int)==2)=false:=by decide
   have f4:((3:Int)==4)=false:=by decide
   have f14:((3:Int)==14)=false:=by decide
   have uA:((3:Int)==3)=true:=by decide
   rw [show ep 3 l.length=((l.length:Int)==1) by unfold ep;simp];exact jx
  by_cases h5:kd=5
  ·subst h5
   have ef:((5:Int)==1)=false:=by decide
   have oQ:((5:Int)==2)=false:=by decide
   have f4:((5:Int)==4)=false:=by decide
   have f14:((5:Int)==14)=false:=by decide
   have uA:((5:Int)==3)=false:=by decide
   have f5:((5:Int)==5)=true:=by decide
   rw [show ep 5 l.length=((l.length:Int)==1) by unfold ep;simp];exact jx
  by_cases h7:kd=7
  ·subst h7
   have ef:((7:Int)==1)=false:=by decide
   have oQ:((7:Int)==2)=false:=by decide
   have f4:((7:Int)==4)=false:=by decide
   have f14:((7:Int)==14)=false:=by decide
   have uA:((7:Int)==3)=false:=by decide
   have f5:((7:Int)==5)=false:=by decide
   have f7:((7:Int)==7)=true:=by decide
   rw [show ep 7 l.length=((l.length:Int)==1) by unfold ep;simp];exact jx
  by_cases rY:kd=11
  ·subst rY
   have ef:((11:Int)==1)=false:=by decide
   have oQ:((11:Int)==2)=false:=by decide
   have f4:((11:Int)==4)=false:=by decide
   have f14:((11:Int)==14)=false:=by decide
   have uA:((11:Int)==3)=false:=by decide
   have f5:((11:Int)==5)=false:=by decide
   have f7:((11:Int)==7)=false:=by decide
   have f11:((11:Int)==11)=true:=by decide
   rw [show ep 11 l.length=((l.length:Int)==1) by unfold ep;simp];exact jx
  by_cases oT:kd=12
  ·subst oT
   have ef:((12:Int)==1)=false:=by decide
   have oQ:((12:Int)==2)=false:=by decide
   have f4:((12:Int)==4)=false:=by decide
   have f14:((12:Int)==14)=false:=by decide
   have uA:((12:Int)==3)=false:=by decide
   have f5:((12:Int)==5)=false:=by decide
   have f7:((12:Int)==7)=false:=by decide
   have f11:((12:Int)==11)=false:=by decide
   have f12:((12:Int)==12)=true:=by decide
   rw [show ep 12 l.length=((l.length:Int)==1) by unfold ep;simp];exact jx
  by_cases gx:kd=13
  ·subst gx
   have ef:((13:Int)==1)=false:=by decide
   have oQ:((13:Int)==2)=false:=by decide
   have f4:((13:Int)==4)=false:=by decide
   have f14:((13:Int)==14)=false:=by decide
   have uA:((13:Int)==3)=false:=by decide
   have f5:((13:Int)==5)=false:=by decide
   have f7:((13:Int)==7)=false:=by decide
   have f11:((13:Int)==11)=false:=by decide
   have f12:((13:Int)==12)=false:=by decide
   have f13:((13:Int)==13)=true:=by decide
   rw [show ep 13 l.length=((l.length:Int)==1) by unfold ep;simp];exact jx
  by_cases h6:kd=6
  ·subst h6
   have ef:((6:Int)==1)=false:=by decide
   have oQ:((6:Int)==2)=false:=by decide
   have f4:((6:Int)==4)=false:=by decide
   have f14:((6:Int)==14)=false:=by decide
   have uA:((6:Int)==3)=false:=by decide
   have f5:((6:Int)==5)=false:=by decide
   have f7:((6:Int)==7)=false:=by decide
   have f11:((6:Int)==11)=false:=by decide
   have f12:((6:Int)==12)=false:=by decide
   have f13:((6:Int)==13)=false:=by decide
   have f6:((6:Int)==6)=true:=by decide
   rw [show ep 6 l.length=((l.length:Int)==2) by unfold ep;simp];exact jx
  by_cases h8:kd=8
  ·subst h8
   have ef:((8:Int)==1)=false:=by decide
   have oQ:((8:Int)==2)=false:=by decide
   have f4:((8:Int)==4)=false:=by decide
   have f14:((8:Int)==14)=false:=by decide
   have uA:((8:Int)==3)=false:=by decide
   have f5:((8:Int)==5)=false:=by decide
   have f7:((8:Int)==7)=false:=by decide
   have f11:((8:Int)==11)=false:=by decide
   have f12:((8:Int)==12)=false:=by decide
   have f13:((8:Int)==13)=false:=by decide
   have f6:((8:Int)==6)=false:=by decide
   have f8:((8:Int)==8)=true:=by decide
   rw [show ep 8 l.length=((l.length:Int)==2) by unfold ep;simp];exact jx
  by_cases qa:kd=10
  ·subst qa
   have ef:((10:Int)==1)=false:=by decide
   have oQ:((10:Int)==2)=false:=by decide
   have f4:((10:Int)==4)=false:=by decide
   have f14:((10:Int)==14)=false:=by decide
   have uA:((10:Int)==3)=false:=by decide
   have f5:((10:Int)==5)=false:=by decide
   have f7:((10:Int)==7)=false:=by decide
   have f11:((10:Int)==11)=false:=by decide
   have f12:((10:Int)==12)=false:=by decide
   have f13:((10:Int)==13)=false:=by decide
   have f6:((10:Int)==6)=false:=by decide
   have f8:((10:Int)==8)=false:=by decide
   have f10:((10:Int)==10)=true:=by decide
   rw [show ep 10 l.length=((l.length:Int)==2) by unfold ep;simp];exact jx
  by_cases h9:kd=9
  ·subst h9
   have ef:((9:Int)==1)=false:=by decide
   have oQ:((9:Int)==2)=false:=by decide
   have f4:((9:Int)==4)=false:=by decide
   have f14:((9:Int)==14)=false:=by decide
   have uA:((9:Int)==3)=false:=by decide
   have f5:((9:Int)==5)=false:=by decide
   have f7:((9:Int)==7)=false:=by decide
   have f11:((9:Int)==11)=false:=by decide
   have f12:((9:Int)==12)=false:=by decide
   have f13:((9:Int)==13)=false:=by decide
   have f6:((9:Int)==6)=false:=by decide
   have f8:((9:Int)==8)=false:=by decide
   have f10:((9:Int)==10)=false:=by decide
   have f9:((9:Int)==9)=true:=by decide
   cases hq:((l.length:Int)==2) with
   | true =>
    rw [show ep 9 l.length=true by unfold ep;simp [hq]];exact jx
   | false =>
    rw [show ep 9 l.length=((l.length:Int)==3) by unfold ep;simp [hq]];exact jx
  have e:ep kd l.length=false:=by unfold ep;simp [I,G,h4,El,h3,h5,h7,rY,oT,gx,h6,h8,qa,h9]
  rw [e]
  have g1:(kd==1)=false:=by simpa using I
  have g2:(kd==2)=false:=by simpa using G
  have g4:(kd==4)=false:=by simpa using h4
  have g14:(kd==14)=false:=by simpa using El
  have g3:(kd==3)=false:=by simpa using h3
  have g5:(kd==5)=false:=by simpa using h5
  have g7:(kd==7)=false:=by simpa using h7
  have g11:(kd==11)=false:=by simpa using rY
  have g12:(kd==12)=false:=by simpa using oT
  have g13:(kd==13)=false:=by simpa using gx
  have g6:(kd==6)=false:=by simpa using h6
  have g8:(kd==8)=false:=by simpa using h8
  have g10:(kd==10)=false:=by simpa using qa
  have g9:(kd==9)=false:=by simpa using h9
  exact jx
 ·rintro _ _ ⟨rfl,rfl⟩;generalize ep kd t.kids.length=b0;refine D ?_;refine GW.range (dp t.kids).length (fun k fr Γ=>fr=[U,U,U,U,.v (.bool (b0&&(t.kids.take k).all j0)),U,U,U,U,U,U,U,U,U,U,U,U,U,U,U,U,U,U,U,U,U,U,U,U,U,U,U,U,U,U,U,U,U,U,U,U,U,U,U,U,U,U,U,U,U,U,.sl 1 (dp t.kids),.v (ii ((dp t.kids).length:Int)),.v (ii (k:Nat)),U,U,U,U,U,U,U,U,U,U]/\Γ=[]) ?_ X ?_ ?_ ?_
  ·refine ⟨_,_,Wk.aH (cV:=[U,U,U,U,.v (.bool b0),U,U,U,U,U,U,U,U,U,U,U,U,U,U,U,U,U,U,U,U,U,U,U,U,U,U,U,U,U,U,U,U,U,U,U,U,U,U,U,U,U,U,U,U,U,U,.sl 1 (dp t.kids),.v (ii ((dp t.kids).length:Int)),.v (ii (0:Nat)),U,U,U,U,U,U,U,U,U,U]) ao,?_,rfl⟩;rw [List.take_zero,List.all_nil,Bool.and_true]
  ·rintro k _ _ ⟨rfl,rfl⟩;exact dr
  ·rintro k _ _ au ⟨rfl,rfl⟩;rw [qF] at au;obtain ⟨kid,iQ⟩:∃ kid,t.kids[k]?=some kid:=⟨t.kids[k],by simp [au]⟩;have hr:=zg iQ;have dj:=Go.Xp.yk iQ;have hle:=Go.Xp.yj t.kids (k+1);have Bl:=ih kid X X
   have bj:(t.kids.take (k+1)).all j0=((t.kids.take k).all j0&&j0 kid):=by rw [dk,iQ,all_append];simp
   rw [bj,<-Bool.and_assoc];generalize (b0&&(t.kids.take k).all j0)=b at *
   cases b with
   | true =>
    refine D ?_;refine V [] Bl ?_;exact zbm
   | false =>
    refine D ?_;exact zbm
  ·rintro _ _ ⟨rfl,rfl⟩;rw [qF,c7];exact ay
def Aj (l:List T):Int:=match l.findIdx? (fun t=>!(j0 t)) with | some i=>(i:Int) | none => -1
theorem Sw (t:T) (hb:aQ t<=1099511627776):GF prog 117 [uT t] [] (.v (.bool (!(j0 t)))) []:=by
 have h:=Vm _ t (aI _) hb;generalize j0 t=b at *;refine ai func117 ntmps117 ?_;exact za0
theorem LK (l:List T) (hl:l.length<=1099511627776) (hb:∀ t∈l,aQ t<=1099511627776) :
  GF prog 178 [.sl 1 (dp l),.v (.func (.func 117) #[] #[])] [] (.v (ii (Aj l))) []:=by
 have qF:=uR l;refine ai func178 ntmps178 ?_;refine GW.range (dp l).length (fun k fr Γ=>fr=[.sl 1 (dp l),.v (.func (.func 117) #[] #[]),U,U,U,U,U,.v (ii ((dp l).length:Int)),.v (ii (k:Nat)),U,U,U,U,U,U,U,U,U,U]/\Γ=[]/\(l.take k).all j0=true) ?_ X ?_ ?_ ?_
 ·exact lN
 ·exact jn
 ·rintro k _ _ au ⟨rfl,rfl,bj⟩;rw [qF] at au
  have dE:l[k]?=some l[k]:=by simp [au]
  have hr:=zg dE;have cS:=Sw l[k] (hb _ (getElem_mem au))
  have cl:(l.take (k+1)).all j0=((l.take k).all j0&&j0 l[k]):=by rw [dk,dE,all_append];simp
  have CX:j0 l[k]=false->Aj l=(k:Int):=fun h0=>by
   have:l.findIdx? (fun t=>!(j0 t))=some k:=by
    rw [List.findIdx?_eq_some_iff_getElem];refine ⟨au,by simp [h0],fun j hj=>?_⟩;rw [jb] at bj;have:=bj l[j] zgm;simp [this]
   unfold Aj;rw [this]
  generalize l[k]=t at *
  cases hk:j0 t with
  | true =>
   rw [hk] at cS cl;refine D ?_;refine ln [] cS ?_;exact zaH
  | false =>
   rw [hk] at cS;rw [CX hk];refine D ?_;refine ln [] cS ?_;exact ay
 ·rintro _ _ ⟨rfl,rfl,bj⟩;rw [qF,c7] at bj
  have:l.findIdx? (fun t=>!(j0 t))=none:=by
   rw [List.findIdx?_eq_none_iff];intro x hx;rw [jb] at bj;simp [bj x hx]
  unfold Aj;rw [this];exact ay
theorem VM (l:List T):decide ((0:Int)<=Aj l)=!(l.all j0):=by
 unfold Aj
 cases h:l.findIdx? (fun t=>!(j0 t)) with
 | some i =>
  rw [List.findIdx?_eq_some_iff_getElem] at h;obtain ⟨I,G,_⟩:=h
  have:l.all j0=false:=by
   rw [List.all_eq_false];exact ⟨l[i],getElem_mem _,by simpa using G⟩
  rw [this];simp
 | none =>
  rw [List.findIdx?_eq_none_iff] at h
  have:l.all j0=true:=by rw [jb];intro x hx;simpa using h x hx
  rw [this];rfl
theorem ym (l:List T) (hl:l.length<=1099511627776) (hb:∀ t∈l,aQ t<=1099511627776) :
  GF prog 116 [.sl 1 (dp l),.v (.func (.func 117) #[] #[])] [] (.v (.bool (!(l.all j0)))) []:=by
 have h:=LK l hl hb;rw [<-VM];generalize Aj l=z at *;refine ai func116 ntmps116 ?_;exact za0
end Go.Xg
