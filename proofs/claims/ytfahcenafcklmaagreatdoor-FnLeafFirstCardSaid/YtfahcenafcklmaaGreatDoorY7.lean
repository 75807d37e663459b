/- Part 7 of proofs that are told in their last texts. -/
import Derived.Test.YtfahcenafcklmaaGreatDoorY4
import Derived.ProofKit
import Derived.Below
import Derived.ChangeSame
import Derived.Shelf.Strings.Builder1
import Derived.Shelf.Strings.Builder2
import Derived.Shelf.Small.Strs
import Derived.Shelf.Strings.BuilderF
import Derived.Shelf.Strconv.Itoa0
import Derived.Shelf.Strconv.Itoa1
import Derived.Shelf.LaysM
import Derived.Shelf.Strconv.Itoa2
import Derived.Shelf.Strconv.Itoa3
import Derived.Shelf.Strings.Search1
import Derived.Shelf.Strings.Search2
import Derived.Shelf.Strings.Search3
import Derived.Shelf.Strings.Count
import Derived.Shelf.Strings.Shaped
import Derived.Shelf.Sort.Plain
import Derived.Shelf.Strings.Prefix
import Derived.Shelf.Strings.Split
import Derived.Shelf.Strings.Fields
import Derived.Shelf.Strings.SplitShaped
import Derived.Shelf.Unicode.Latin
import Derived.Shelf.Bits.Mul64
import Derived.Shelf.Strings.Repeat
import Derived.Shelf.Unicode.Is16White
import Derived.Shelf.Unicode.IsSpaceAny
import Derived.Shelf.Unicode.Is16Any
import Derived.Shelf.Unicode.Is32Any
import Derived.Shelf.Unicode.ExclAny
import Derived.Ground.Names2Prog
import Derived.Shelf.Slices.CompactI
import Derived.Shelf.Slices.In.SortNone
import Derived.Test.YtfahcenafcklmaaGreatDoorProg
import Derived.Test.YtfahcenafcklmaaGreatDoorY1
import Derived.Test.YtfahcenafcklmaaGreatDoorY5
import Derived.Test.YtfahcenafcklmaaGreatDoorY2
import Derived.Test.YtfahcenafcklmaaGreatDoorY6
import Derived.Laws.StructEq
open List (all_append getD_cons_succ getD_cons_zero getElem?_mapIdx getElem_mem length_cons length_nil map_nil sum_cons)
set_option linter.unusedVariables false
set_option linter.unusedSimpArgs false
set_option maxRecDepth 100000
namespace Go
theorem zb0 {A:Prop} (s:A:=by refine zaR ?_;refine GW.wk (Wk.Be (i:=1) (o:=5) rfl rfl rfl rfl hn) ?_;refine GW.wk (Wk.freeze (i:=1) rfl rfl rfl (dP rfl)) ?_;exact al):A:=s
theorem zdP {A B:Prop} (h:B) (s:PLift B->A:=by intro hQ;refine I ?_;refine aM (ay 0 11 .nil) ?_;refine bq ?_;rw [tZ];refine GW.wk (Wk.freeze (i:=0) rfl rfl rfl (aH _)) ?_;exact hQ.1):A:=s ⟨h⟩
theorem zd0 {A:Prop} (s:A:=by refine GW.ret ?_;refine rl (n:=1) rfl dO rfl (aX _) rfl rfl ?_;exact zak):A:=s
theorem zel {A:Prop} (s:A:=by refine zaR ?_;refine GW.wk (Wk.lr (t:=4) rfl rfl rfl hn) ?_;exact al):A:=s
end Go
namespace Go.Xw
open Go.RowKit Go.WideShapes Go.ChangeShapes
section
variable {H:Type} {enc:TypeId × Value->H} {P:Program}
theorem Gr {f:Func} {s:ChangeSpec} {apart fresh handsOn again:Bool} {W W':World} {args:Array Value} {v:Value} {ds gs:List (DataW H)} {before pa pv:List MemPlace}
  (hW:DataW.Whole enc P f.params.toList s.vars apart W args.toList ds gs before)
  (XV:∀ (b:Nat) (sp:Nat->Bool) (hd:Bool),DataW.TrodAll enc P W' b sp hd f.resultTypes.toList (v.resultList f.resultTypes.size) (s.fn H (ds++gs)).results [])
  (C4:∀ sp:Nat->Bool,(∀ p∈before,sp p.block=true)->DataW.TrodAll enc P W' 0 sp true f.params.toList args.toList (s.fn H (ds++gs)).args pa)
  (Ul:∀ sp:Nat->Bool,(∀ p∈before,sp p.block=true)->DataW.TrodVars enc P W' sp s.vars (s.fn H (ds++gs)).vars pv)
  (FK:before=pa++pv) (hb:Below W.heap.size W W')
  (eU:∀ (j:Nat) (t:TypeId) (r:Value),f.resultTypes[j]?=some t->(v.resultList f.resultTypes.size)[j]?=some r->Value.okWide P W' .any 0 t r) :
  s.post enc P f apart fresh handsOn again W args v W':=by
 have au:∀ p∈before,p.block < W.heap.size:=fun p hp=>hW.lt p hp
 have hold:∀ p∈before,(fun b=>decide (b < W.heap.size)) p.block=true:=fun p hp=>by simpa using au p hp
 refine ⟨ds,gs,before,[],pa,pv,hW,XV _ _ _,C4 _ hold,Ul _ hold,World.keptBut_mono (fun p hp=>⟨hp,?_⟩) (hb.frame (·∈before)),fun _=>?_⟩
 ·rw [FK,List.mem_append] at hp;exact Or.inr hp
 ·obtain ⟨_,_,_,_,_,hz,hn⟩:=hW;refine ⟨eU,_,_,([]++pa)++pv,⟨[]++pa,pv,trodAll_append (C4 _ (fun _ _=>rfl)) (XV _ _ _),Ul _ (fun _ _=>rfl),rfl,?_,?_⟩,?_⟩
  ·intro b off hp
   have mu:MemPlace.cell b off∈before:=by rw [FK];simpa using hp
   rw [hb.frozen (au _ mu)];exact hz b off mu
  ·intro ha;have:=hn ha;rw [FK] at this;exact zbT
  ·intro p hp _;rw [FK];simpa using hp
end
end Go.Xw
namespace Go.Proofs
open Go.Shelf
theorem df {α:Type} {a:Option α} {b c:α} (h:a=some b) (k:b=c:=by kernel_rfl):a=some c:=h.trans (congrArg some k)
def Tryz.BN:Go.Shelf.Ren:=⟨fun | 165=>205 | 240=>260 | 241=>261 | 276=>293 | 277=>294 | n=>n,fun | 70=>185 | 3=>3 | 0=>0 | 4=>4 | 9=>9 | 20=>20 | 72=>187 | 37=>22 | 164=>246 | 5=>5 | n=>n,fun | n=>n⟩
theorem Tryz.VC:Go.Proofs.Lays.n165 Tryz.prog Tryz.BN:={
 mixed:=by kernel_rfl
 f165:=df Tryz.func205
 f240:=df Tryz.func260
 f241:=df Tryz.func261
 f276:=df Tryz.func293
 f277:=df Tryz.func294
 t0:=Tryz.underlying0
 a0:=Tryz.isAgg0
 z0:=Tryz.sizeOf0
 v0:=Tryz.zeroValue0
 t3:=Tryz.underlying3
 a3:=Tryz.isAgg3
 z3:=Tryz.sizeOf3
 v3:=Tryz.zeroValue3
 t4:=Tryz.underlying4
 a4:=Tryz.isAgg4
 z4:=Tryz.sizeOf4
 v4:=Tryz.zeroValue4
 t9:=Tryz.underlying9
 a9:=Tryz.isAgg9
 z9:=Tryz.sizeOf9
 v9:=Tryz.zeroValue9
 t20:=Tryz.underlying20
 a20:=Tryz.isAgg20
 z20:=Tryz.sizeOf20
 v20:=Tryz.zeroValue20
 t37:=Tryz.underlying22
 a37:=Tryz.isAgg22
 z37:=Tryz.sizeOf22
 v37:=Tryz.zeroValue22
 t70:=Tryz.underlying185
 a70:=Tryz.isAgg185
 z70:=Tryz.sizeOf185
 v70:=Tryz.zeroValue185
 t72:=Tryz.underlying187
 a72:=Tryz.isAgg187
 z72:=Tryz.sizeOf187
 v72:=Tryz.zeroValue187
 t164:=Tryz.underlying246
 a164:=Tryz.isAgg246
 z164:=Tryz.sizeOf246
 v164:=Tryz.zeroValue246 }
theorem Tryz.Bp:Builder.Extra Tryz.prog Tryz.BN:={
 sizeBuilder:=by kernel_rfl
 liesBuilder:=by kernel_rfl
 t5:=Tryz.underlying5
 a5:=Tryz.isAgg5
 z5:=Tryz.sizeOf5
 v5:=Tryz.zeroValue5
 infoByte:=by kernel_rfl
 cellsByte:=by kernel_rfl
 sizeByte:=by kernel_rfl
 neB5:=by decide }
open Go.RowKit in
theorem Tryz.Builder_Grow_fresh (B b n:Nat) (w:World) (hB:B<=b) (eH:w.heap[b]?=some (.cells #[.pointer none,.slice none 0 0] 187 (0,0))) (hBw:B<=w.heap.size) (hn:n<=281474976710656) :
  Calls Tryz.prog 205 #[.pointer (some ⟨b,0,none⟩),.int .i64 n] w fun e w'=>e=.returned (.tuple #[])/\(Lib.BuilderAt 187 5 B b (.pointer (some ⟨b,0,none⟩)) [] w'/\Below B w w'):=Any.Builder_Grow_fresh Tryz.VC Tryz.Bp B b n w hB eH hBw hn
def Tryz.JG:Go.Shelf.Ren:=⟨fun | 137=>179 | 217=>235 | 266=>280 | n=>n,fun | 9=>9 | 5=>5 | 3=>3 | n=>n,fun | n=>n⟩
theorem Tryz.VA:Go.Proofs.Lays.n137 Tryz.prog Tryz.JG:={
 mixed:=by kernel_rfl
 f137:=df Tryz.func179
 f217:=df Tryz.func235
 f266:=df Tryz.func280
 t3:=Tryz.underlying3
 a3:=Tryz.isAgg3
 z3:=Tryz.sizeOf3
 v3:=Tryz.zeroValue3
 t5:=Tryz.underlying5
 a5:=Tryz.isAgg5
 z5:=Tryz.sizeOf5
 v5:=Tryz.zeroValue5
 t9:=Tryz.underlying9
 a9:=Tryz.isAgg9
 z9:=Tryz.sizeOf9
 v9:=Tryz.zeroValue9 }
open Go.RowKit in
theorem Tryz.strings_IndexByte (s:ByteArray) (c:Int) (w:World) :
  Calls Tryz.prog 179 #[.string s,.int .u8 c] w fun e w'=>e=.returned (.int .i64 (Lib.indexByte s.data.toList c.toNat.toUInt8))/\w'=w:=Any.strings_IndexByte Tryz.VA s c w
def Tryz.HY:Go.Shelf.Ren:=⟨fun | 171=>135 | 243=>187 | 246=>248 | 283=>282 | 284=>283 | 285=>284 | 286=>285 | 129=>230 | 317=>298 | 318=>299 | 319=>300 | 320=>301 | 337=>306 | 338=>307 | n=>n,fun | 3=>3 | 9=>9 | 2=>2 | 4=>4 | 171=>240 | 0=>0 | 53=>214 | 37=>22 | 5=>5 | 173=>242 | 212=>254 | 51=>212 | 20=>20 | 213=>255 | 46=>157 | 232=>265 | 233=>266 | n=>n,fun | 17=>1 | 18=>4 | 19=>5 | n=>n⟩
theorem Tryz.Sv:Go.Proofs.LaysM.n171 Tryz.prog Tryz.HY:={
 mixed:=by kernel_rfl
 f129:=df Tryz.func230
 f171:=df Tryz.func135
 f243:=df Tryz.func187
 f246:=df Tryz.func248
 f283:=df Tryz.func282
 f284:=df Tryz.func283
 f285:=df Tryz.func284
 f286:=df Tryz.func285
 f317:=df Tryz.func298
 f318:=df Tryz.func299
 f319:=df Tryz.func300
 f320:=df Tryz.func301
 f337:=df Tryz.func306
 f338:=df Tryz.func307
 t0:=Tryz.underlying0
 a0:=Tryz.isAgg0
 z0:=Tryz.sizeOf0
 v0:=Tryz.zeroValue0
 t2:=Tryz.underlying2
 a2:=Tryz.isAgg2
 z2:=Tryz.sizeOf2
 v2:=Tryz.zeroValue2
 t3:=Tryz.underlying3
 a3:=Tryz.isAgg3
 z3:=Tryz.sizeOf3
 v3:=Tryz.zeroValue3
 t4:=Tryz.underlying4
 a4:=Tryz.isAgg4
 z4:=Tryz.sizeOf4
 v4:=Tryz.zeroValue4
 t5:=Tryz.underlying5
 a5:=Tryz.isAgg5
 z5:=Tryz.sizeOf5
 v5:=Tryz.zeroValue5
 t9:=Tryz.underlying9
 a9:=Tryz.isAgg9
 z9:=Tryz.sizeOf9
 v9:=Tryz.zeroValue9
 t20:=Tryz.underlying20
 a20:=Tryz.isAgg20
 z20:=Tryz.sizeOf20
 v20:=Tryz.zeroValue20
 t37:=Tryz.underlying22
 a37:=Tryz.isAgg22
 z37:=Tryz.sizeOf22
 v37:=Tryz.zeroValue22
 t46:=Tryz.underlying157
 a46:=Tryz.isAgg157
 z46:=Tryz.sizeOf157
 v46:=Tryz.zeroValue157
 t51:=Tryz.underlying212
 a51:=Tryz.isAgg212
 z51:=Tryz.sizeOf212
 v51:=Tryz.zeroValue212
 t53:=Tryz.underlying214
 a53:=Tryz.isAgg214
 z53:=Tryz.sizeOf214
 v53:=Tryz.zeroValue214
 t171:=Tryz.underlying240
 a171:=Tryz.isAgg240
 z171:=Tryz.sizeOf240
 v171:=Tryz.zeroValue240
 t173:=Tryz.underlying242
 a173:=Tryz.isAgg242
 z173:=Tryz.sizeOf242
 v173:=Tryz.zeroValue242
 t212:=Tryz.underlying254
 a212:=Tryz.isAgg254
 z212:=Tryz.sizeOf254
 v212:=Tryz.zeroValue254
 t213:=Tryz.underlying255
 a213:=Tryz.isAgg255
 z213:=Tryz.sizeOf255
 t232:=Tryz.underlying265
 a232:=Tryz.isAgg265
 z232:=Tryz.sizeOf265
 v232:=Tryz.zeroValue265
 t233:=Tryz.underlying266
 a233:=Tryz.isAgg266
 z233:=Tryz.sizeOf266
 v233:=Tryz.zeroValue266
 g17:=by kernel_rfl
 g18:=by kernel_rfl
 g19:=by kernel_rfl
 i0:=by kernel_rfl
 i2:=by kernel_rfl
 i3:=by kernel_rfl
 i4:=by kernel_rfl
 i5:=by kernel_rfl
 i9:=by kernel_rfl
 i20:=by kernel_rfl
 i37:=by kernel_rfl
 i46:=by kernel_rfl
 i51:=by kernel_rfl
 i53:=by kernel_rfl
 i171:=by kernel_rfl
 i173:=by kernel_rfl
 i212:=by kernel_rfl
 i232:=by kernel_rfl
 i233:=by kernel_rfl
 m17:=by kernel_rfl
 m18:=by kernel_rfl
 m19:=by kernel_rfl }
open Go.RowKit Go.Sort Go.Lib in
theorem Tryz.strconv_Itoa (n:Int) (h0 : -9223372036854775808<=n) (D:n<=9223372036854775807) (w:World) (Cg:Lib.TabIs Tryz.prog w "internal/strconv.uint64pow10" .u64 Lib.pow10Tab) :
  Calls Tryz.prog 135 #[.int .i64 n] w fun e w'=>e=.returned (.string ⟨(Lib.itoa n).toArray⟩)/\∃ k os,w'=grow (w.drewN k) os:=Any.strconv_Itoa Tryz.Sv n h0 D w Cg
def Tryz.JH:Go.Shelf.Ren:=⟨fun | 143=>156 | 219=>212 | 217=>235 | 225=>265 | 224=>266 | 267=>267 | 266=>280 | 314=>295 | n=>n,fun | 9=>9 | 3=>3 | 4=>4 | 5=>5 | 46=>157 | 146=>229 | 51=>212 | n=>n,fun | 1=>0 | n=>n⟩
theorem Tryz.VB:Go.Proofs.Lays.n143 Tryz.prog Tryz.JH:={
 mixed:=by kernel_rfl
 f143:=df Tryz.func156
 f217:=df Tryz.func235
 f219:=df Tryz.func212
 f224:=df Tryz.func266
 f225:=df Tryz.func265
 f266:=df Tryz.func280
 f267:=df Tryz.func267
 f314:=df Tryz.func295
 t3:=Tryz.underlying3
 a3:=Tryz.isAgg3
 z3:=Tryz.sizeOf3
 v3:=Tryz.zeroValue3
 t4:=Tryz.underlying4
 a4:=Tryz.isAgg4
 z4:=Tryz.sizeOf4
 v4:=Tryz.zeroValue4
 t5:=Tryz.underlying5
 a5:=Tryz.isAgg5
 z5:=Tryz.sizeOf5
 v5:=Tryz.zeroValue5
 t9:=Tryz.underlying9
 a9:=Tryz.isAgg9
 z9:=Tryz.sizeOf9
 v9:=Tryz.zeroValue9
 t46:=Tryz.underlying157
 a46:=Tryz.isAgg157
 z46:=Tryz.sizeOf157
 v46:=Tryz.zeroValue157
 t51:=Tryz.underlying212
 a51:=Tryz.isAgg212
 z51:=Tryz.sizeOf212
 v51:=Tryz.zeroValue212
 t146:=Tryz.underlying229
 a146:=Tryz.isAgg229
 z146:=Tryz.sizeOf229
 v146:=Tryz.zeroValue229
 g1:=by kernel_rfl }
open Go.RowKit Go.Lib in
theorem Tryz.strings_Index (s sub:ByteArray) (m:Int) (w:World) (hs:s.size < 4294967281) (hm:w.cell? ⟨0,0,none⟩=some (.int .i64 m)) :
  Calls Tryz.prog 156 #[.string s,.string sub] w fun e w'=>e=.returned (.int .i64 (Lib.index s.data.toList sub.data.toList))/\w'=w:=Any.strings_Index Tryz.VB s sub m w hs hm
def Tryz.JI:Go.Shelf.Ren:=⟨fun | 189=>110 | 125=>171 | 257=>170 | 128=>229 | 129=>230 | 294=>220 | 295=>221 | 296=>222 | 297=>223 | 298=>224 | 299=>225 | 216=>226 | 300=>227 | 301=>228 | 328=>274 | 329=>275 | 330=>276 | 331=>277 | 332=>278 | 215=>279 | 343=>296 | n=>n,fun | 28=>36 | 3=>3 | 46=>157 | 0=>0 | 51=>212 | 53=>214 | 4=>4 | 183=>204 | 182=>203 | 131=>209 | 5=>5 | 9=>9 | 218=>234 | 222=>238 | 228=>250 | 229=>33 | n=>n,fun | n=>n⟩
theorem Tryz.Lc:Go.Proofs.Lays.n189 Tryz.prog Tryz.JI:={
 mixed:=by kernel_rfl
 f125:=df Tryz.func171
 f128:=df Tryz.func229
 f129:=df Tryz.func230
 f189:=df Tryz.func110
 f215:=df Tryz.func279
 f216:=df Tryz.func226
 f257:=df Tryz.func170
 f294:=df Tryz.func220
 f295:=df Tryz.func221
 f296:=df Tryz.func222
 f297:=df Tryz.func223
 f298:=df Tryz.func224
 f299:=df Tryz.func225
 f300:=df Tryz.func227
 f301:=df Tryz.func228
 f328:=df Tryz.func274
 f329:=df Tryz.func275
 f330:=df Tryz.func276
 f331:=df Tryz.func277
 f332:=df Tryz.func278
 f343:=df Tryz.func296
 t0:=Tryz.underlying0
 a0:=Tryz.isAgg0
 z0:=Tryz.sizeOf0
 v0:=Tryz.zeroValue0
 t3:=Tryz.underlying3
 a3:=Tryz.isAgg3
 z3:=Tryz.sizeOf3
 v3:=Tryz.zeroValue3
 t4:=Tryz.underlying4
 a4:=Tryz.isAgg4
 z4:=Tryz.sizeOf4
 v4:=Tryz.zeroValue4
 t5:=Tryz.underlying5
 a5:=Tryz.isAgg5
 z5:=Tryz.sizeOf5
 v5:=Tryz.zeroValue5
 t9:=Tryz.underlying9
 a9:=Tryz.isAgg9
 z9:=Tryz.sizeOf9
 v9:=Tryz.zeroValue9
 t28:=Tryz.underlying36
 a28:=Tryz.isAgg36
 z28:=Tryz.sizeOf36
 v28:=Tryz.zeroValue36
 t46:=Tryz.underlying157
 a46:=Tryz.isAgg157
 z46:=Tryz.sizeOf157
 v46:=Tryz.zeroValue157
 t51:=Tryz.underlying212
 a51:=Tryz.isAgg212
 z51:=Tryz.sizeOf212
 v51:=Tryz.zeroValue212
 t53:=Tryz.underlying214
 a53:=Tryz.isAgg214
 z53:=Tryz.sizeOf214
 v53:=Tryz.zeroValue214
 t131:=Tryz.underlying209
 a131:=Tryz.isAgg209
 z131:=Tryz.sizeOf209
 v131:=Tryz.zeroValue209
 t182:=Tryz.underlying203
 a182:=Tryz.isAgg203
 z182:=Tryz.sizeOf203
 v182:=Tryz.zeroValue203
 t183:=Tryz.underlying204
 a183:=Tryz.isAgg204
 z183:=Tryz.sizeOf204
 v183:=Tryz.zeroValue204
 t218:=Tryz.underlying234
 a218:=Tryz.isAgg234
 z218:=Tryz.sizeOf234
 v218:=Tryz.zeroValue234
 t222:=Tryz.underlying238
 a222:=Tryz.isAgg238
 z222:=Tryz.sizeOf238
 v222:=Tryz.zeroValue238
 t228:=Tryz.underlying250
 a228:=Tryz.isAgg250
 z228:=Tryz.sizeOf250
 v228:=Tryz.zeroValue250
 t229:=Tryz.underlying33
 a229:=Tryz.isAgg33
 z229:=Tryz.sizeOf33
 v229:=Tryz.zeroValue33 }
open Go.Sort Go.RowKit in
theorem Tryz.slices_Sort_int (blk off cap:Nat) (zs:List Int) (w:World) (hH:Holds (Value.int .i64) w blk off zs.toArray) (eQ:blk < w.heap.size) (dR:zs.length < 4611686018427387904) :
  Calls Tryz.prog 110 #[.slice (some ⟨blk,off,none⟩) zs.length cap] w fun e w' =>
   e=.returned (.tuple #[])/\∃ n os,w'=grow (putRow (Value.int .i64) (Sort.ahead w n) blk off (zs.mergeSort fun x y=>decide (x<=y)).toArray) os:=Any.slices_Sort_int Tryz.Lc blk off cap zs w hH eQ dR
def Tryz.HX:Go.Shelf.Ren:=⟨fun | 157=>297 | 229=>304 | 199=>305 | 261=>310 | 311=>313 | 312=>314 | n=>n,fun | 9=>9 | 31=>23 | 3=>3 | 5=>5 | 4=>4 | 119=>257 | 0=>0 | 40=>259 | 152=>260 | 21=>21 | 154=>262 | 51=>212 | 141=>264 | 196=>272 | 193=>269 | 198=>275 | 49=>273 | 194=>270 | 201=>278 | 226=>281 | 46=>157 | 227=>282 | n=>n,fun | 0=>2 | 6=>3 | n=>n⟩
theorem Tryz.Su:Go.Proofs.LaysM.n157 Tryz.prog Tryz.HX:={
 mixed:=by kernel_rfl
 f157:=df Tryz.func297
 f199:=df Tryz.func305
 f229:=df Tryz.func304
 f261:=df Tryz.func310
 f311:=df Tryz.func313
 f312:=df Tryz.func314
 t0:=Tryz.underlying0
 a0:=Tryz.isAgg0
 z0:=Tryz.sizeOf0
 v0:=Tryz.zeroValue0
 t3:=Tryz.underlying3
 a3:=Tryz.isAgg3
 z3:=Tryz.sizeOf3
 v3:=Tryz.zeroValue3
 t4:=Tryz.underlying4
 a4:=Tryz.isAgg4
 z4:=Tryz.sizeOf4
 v4:=Tryz.zeroValue4
 t5:=Tryz.underlying5
 a5:=Tryz.isAgg5
 z5:=Tryz.sizeOf5
 v5:=Tryz.zeroValue5
 t9:=Tryz.underlying9
 a9:=Tryz.isAgg9
 z9:=Tryz.sizeOf9
 v9:=Tryz.zeroValue9
 t21:=Tryz.underlying21
 a21:=Tryz.isAgg21
 z21:=Tryz.sizeOf21
 v21:=Tryz.zeroValue21
 t31:=Tryz.underlying23
 a31:=Tryz.isAgg23
 z31:=Tryz.sizeOf23
 v31:=Tryz.zeroValue23
 t40:=Tryz.underlying259
 a40:=Tryz.isAgg259
 z40:=Tryz.sizeOf259
 v40:=Tryz.zeroValue259
 t46:=Tryz.underlying157
 a46:=Tryz.isAgg157
 z46:=Tryz.sizeOf157
 v46:=Tryz.zeroValue157
 t49:=Tryz.underlying273
 a49:=Tryz.isAgg273
 z49:=Tryz.sizeOf273
 v49:=Tryz.zeroValue273
 t51:=Tryz.underlying212
 a51:=Tryz.isAgg212
 z51:=Tryz.sizeOf212
 v51:=Tryz.zeroValue212
 t119:=Tryz.underlying257
 a119:=Tryz.isAgg257
 z119:=Tryz.sizeOf257
 t141:=Tryz.underlying264
 a141:=Tryz.isAgg264
 z141:=Tryz.sizeOf264
 v141:=Tryz.zeroValue264
 t152:=Tryz.underlying260
 a152:=Tryz.isAgg260
 z152:=Tryz.sizeOf260
 v152:=Tryz.zeroValue260
 t154:=Tryz.underlying262
 a154:=Tryz.isAgg262
 z154:=Tryz.sizeOf262
 v154:=Tryz.zeroValue262
 t193:=Tryz.underlying269
 a193:=Tryz.isAgg269
 z193:=Tryz.sizeOf269
 v193:=Tryz.zeroValue269
 t194:=Tryz.underlying270
 a194:=Tryz.isAgg270
 z194:=Tryz.sizeOf270
 v194:=Tryz.zeroValue270
 t196:=Tryz.underlying272
 a196:=Tryz.isAgg272
 z196:=Tryz.sizeOf272
 v196:=Tryz.zeroValue272
 t198:=Tryz.underlying275
 a198:=Tryz.isAgg275
 z198:=Tryz.sizeOf275
 v198:=Tryz.zeroValue275
 t201:=Tryz.underlying278
 a201:=Tryz.isAgg278
 z201:=Tryz.sizeOf278
 v201:=Tryz.zeroValue278
 t226:=Tryz.underlying281
 a226:=Tryz.isAgg281
 z226:=Tryz.sizeOf281
 v226:=Tryz.zeroValue281
 t227:=Tryz.underlying282
 a227:=Tryz.isAgg282
 z227:=Tryz.sizeOf282
 v227:=Tryz.zeroValue282
 g0:=by kernel_rfl
 g6:=by kernel_rfl
 i0:=by kernel_rfl
 i3:=by kernel_rfl
 i4:=by kernel_rfl
 i5:=by kernel_rfl
 i9:=by kernel_rfl
 i21:=by kernel_rfl
 i31:=by kernel_rfl
 i40:=by kernel_rfl
 i46:=by kernel_rfl
 i49:=by kernel_rfl
 i51:=by kernel_rfl
 i141:=by kernel_rfl
 i152:=by kernel_rfl
 i154:=by kernel_rfl
 i193:=by kernel_rfl
 i194:=by kernel_rfl
 i196:=by kernel_rfl
 i198:=by kernel_rfl
 i201:=by kernel_rfl
 i226:=by kernel_rfl
 i227:=by kernel_rfl
 m0:=by kernel_rfl
 m6:=by kernel_rfl }
open Go.RowKit Go.Lib in
theorem Tryz.strings_Fields_laid (s:ByteArray) (w:World) (hs:s.size < 4294967281) (Xq:∀ (j:Nat) b,s.data.toList[j]?=some b->b.toNat < 128) (Cg:Lib.TabIs Tryz.prog w "strings.asciiSpace" .u8 Lib.asciiSpaceTab) :
  Calls Tryz.prog 297 #[.string s] w fun e w' =>
   e=.returned (.slice (some ⟨w.heap.size,0,none⟩) (Lib.fields s.data.toList).length (Lib.fields s.data.toList).length)/\w'=w.alloc (.cells ((Lib.fields s.data.toList).map fun l=>Value.string ⟨l.toArray⟩).toArray 9):=Any.strings_Fields_laid Tryz.Su s w hs Xq Cg
def Tryz.Gq:Go.Shelf.Ren:=⟨fun | 20=>111 | n=>n,fun | 22=>36 | 3=>3 | 4=>4 | 0=>0 | n=>n,fun | n=>n⟩
theorem Tryz.FW:Go.Proofs.Lays2.n20 Tryz.prog Tryz.Gq:={
 mixed:=by kernel_rfl
 f20:=df Tryz.func111
 t0:=Tryz.underlying0
 a0:=Tryz.isAgg0
 z0:=Tryz.sizeOf0
 v0:=Tryz.zeroValue0
 t3:=Tryz.underlying3
 a3:=Tryz.isAgg3
 z3:=Tryz.sizeOf3
 v3:=Tryz.zeroValue3
 t4:=Tryz.underlying4
 a4:=Tryz.isAgg4
 z4:=Tryz.sizeOf4
 v4:=Tryz.zeroValue4
 t22:=Tryz.underlying36
 a22:=Tryz.isAgg36
 z22:=Tryz.sizeOf36
 v22:=Tryz.zeroValue36
 i3:=by kernel_rfl }
open Go.RowKit Go.Lib Go.Sort in
theorem Tryz.slices_Compact_int (blk off cap:Nat) (zs:List Int) (w:World) (hH:Holds (Value.int .i64) w blk off zs.toArray) (dR:zs.length<=9223372036854775807) (Xt:zs.length<=cap) :
  Calls Tryz.prog 111 #[.slice (some ⟨blk,off,none⟩) zs.length cap] w fun e w'=>e=.returned (.slice (some ⟨blk,off,none⟩) (Lib.compact zs).length cap)/\∃ q,w'=putRow (Value.int .i64) (Sort.ahead w q) blk off (Lib.compact zs++List.replicate (zs.length - (Lib.compact zs).length) 0).toArray:=Any.slices_Compact_int Tryz.FW blk off cap zs w hH dR Xt
open Go.RowKit Go.Lib Go.Sort in
theorem Tryz.slices_Compact_int_empty (a:Option Addr) (cap:Nat) (w:World) :
  Calls Tryz.prog 111 #[.slice a 0 cap] w fun e w'=>e=.returned (.slice a 0 cap)/\w'=w:=Any.slices_Compact_int_empty Tryz.FW a cap w
open Go.RowKit Go.Sort in
theorem Tryz.slices_Sort_int_none (p:Option Addr) (cap:Nat) (w:World) :
  Calls Tryz.prog 110 #[.slice p 0 cap] w fun e w'=>e=.returned (.tuple #[])/\w'=w:=Any.slices_Sort_int_none Tryz.Lc p cap w
end Go.Proofs
set_option maxHeartbeats 1000000
namespace Go.Xg
open Go.RowKit Go.Xw Go.Proofs Tryz
attribute [local irreducible] GW GL GO YG GC GA bg bj
instance:Fa prog 22 5:=Fa.mk' (aj)
instance:DZ prog 185:=DZ.mk' (e:=187) (aj) (aj)
theorem Jq (g:Value):GF prog 260 [.loc 0 0] [.box 187 [.loc 0 0,.v g]] (.tup []) [.box 187 [.loc 0 0,.v g]]:=by
 refine ai func260 ntmps260 ?_;exact iJ
theorem uu (s:ah) (n:Nat) (a:Option Addr) (c:Nat) (rows:List (List GV)) (hn:rows.length=n) (hb:n+s.length<=140737488355328) :
  GC prog 206 [.loc 0 0,.v (sv s)] [.box 187 [.loc 0 0,.v (.slice a n c)],.vech 5 1 rows (.slice a n c)] (fun g aV=>(∃ x,g=.tup [.v (ii s.length),x])/\∃ a c,aV=[.box 187 [.loc 0 0,.v (.slice a (n+s.length) c)],.vech 5 1 (rows++bS s) (.slice a (n+s.length) c)]):=by
 subst hn;have h:=Jq (.slice a rows.length c)
 cases s with
 | nil =>
  refine ai func206 ntmps206 ?_;refine V [0] h ?_;refine GL.Zh 1 rfl rfl rfl zfL ?_;refine za2 ?_;refine Bh ?_;exact ⟨⟨_,rfl⟩,a,c,by simp [bS]⟩
 | cons x r =>
  generalize hs:x::r=s at *
  have bT:s.isEmpty=false:=by rw [<-hs];rfl
  clear hs;refine ai func206 ntmps206 ?_;refine V [0] h ?_;refine GL.Zi 1 rfl rfl rfl az aK G ?_;intro a2 c2;refine za2 ?_;refine Bh ?_;exact ⟨⟨_,rfl⟩,a2,c2,rfl⟩
theorem Rm (str:ah) (a:Option Addr) (c:Nat) (h0:str≠[]) (hb:str.length<=140737488355328) :
  GF prog 207 [.loc 0 0] [.box 187 [.loc 0 0,.v (.slice a str.length c)],.vech 5 1 (bS str) (.slice a str.length c)] (.v (sv str)) [.box 187 [.loc 0 0,.v (.slice a str.length c)],.lost]:=by
 have hlen:(bS str).length=str.length:=by simp [bS]
 have hp:Nat.blt 0 str.length=true:=by simpa using List.length_pos_iff.2 h0
 have bT:str.isEmpty=false:=by cases str with | nil=>exact absurd rfl h0 | cons _ _=>rfl
 refine ai func207 ntmps207 ?_;refine aM (ay 0 10 (.a 10 (.q 11 .nil))) ?_;refine ak ?_;refine NA ?_;exact zbJ
end Go.Xg
namespace Go.Xg
open Go.RowKit Go.Xw Go.Proofs Tryz
open GV (U)
open Go.Xp (cr)
theorem oJ.rM {P:Program} {f:FuncId} {vs:List Value} {w:World} {R:Value->World->Prop} (h:Calls P f vs.toArray w fun e w'=>∃ v,e=.returned v/\R v w'):oJ P f vs w R:=h
theorem GW.builder {Q:dW} {fr:List GV} {r1 r2:Nat} {rest:Code} {t8 t56 t57 t5:Tmp} {T1 T2 T3 T4 T5:TypeId} {p1 p2 p3:String} {a1 a2 a3:Array Edge} (n:Nat)
  (h8:ku fr t8=true) (h56:ku fr t56=true) (bT:Nat.beq t8 t56=false) (abz:Nat.beq t5 t8=false) (hn:cP fr t5=.v (ii (n:Nat))) (hb:n<=281474976710656)
  (h:∀ a c,GW prog 0 rest Q (bQ (bQ (bQ fr t8 (.loc 0 0)) t56 (.v (ii (n:Nat)))) t57 (.v (.tuple #[]))) [.box 187 [.loc 0 0,.v (.slice a 0 c)],.vech 5 1 [] (.slice a 0 c)]) :
  GW prog 0 (.seq (.region r1 [(⟨some t8,.alloc 187,T1,p1,a1,none⟩:Oper)].toArray false) (.seq (.region r2 [(⟨some t56,.move (.tmp t5),T2,p2,a2,none⟩:Oper),⟨some t57,.call ⟨.value (.func 205),[Operand.tmp t8,.tmp t56].toArray,#[T3,T4]⟩,T5,p3,a3,none⟩].toArray false) rest)) Q fr []:=fun B K β w l hm hI hF=>by
 have Ce:t8≠t56:=by intro e;subst e;simp at bT
 have Ub:t5≠t8:=by intro e;subst e;simp at abz
 have i8:=oW hF h8;have i56:=oW hF h56;refine W.seq (W.region (WL.alloc (t:=187) fun b w1 uE=>WL.nil ?_));refine W.seq (W.region (WL.v R.mv (WL.call (f:=205) (D2:=[.pointer (some ⟨b,0,none⟩),.int .i64 n]) ?_ (R:=fun x w2=>x=.tuple #[]/\(Lib.BuilderAt 187 5 b b (.pointer (some ⟨b,0,none⟩)) [] w2/\Below b w1 w2)) ?_ fun x w2 hx=>WL.nil ?_)))
 ·have hF1:FR K (fw β 0 (.fix b)) (bQ fr t8 (.loc 0 0)) (put l (some t8) (.pointer (some ⟨b,0,none⟩))) :=
   (hF.mono (cW.refl K) (jy (i:=0) (x:=.fix b) (by rw [hI.out 0 (aH _)];trivial))).fT t8 (.loc 0 0 b bC)
  have j56:ku (fT l t8 (.pointer (some ⟨b,0,none⟩))) t56=true:=oW hF1 (t:=t56) (by rw [K6];exact h56)
  have e5:nth (fT l t8 (.pointer (some ⟨b,0,none⟩))) t5=.int .i64 n:=by
   rw [qk Ub];exact Rel.eE (by rw [<-hn];exact hF.nth t5)
  show [nth (fT (fT l t8 (.pointer (some ⟨b,0,none⟩))) t56 (nth (fT l t8 (.pointer (some ⟨b,0,none⟩))) t5)) t8,nth (fT (fT l t8 (.pointer (some ⟨b,0,none⟩))) t56 (nth (fT l t8 (.pointer (some ⟨b,0,none⟩))) t5)) t56]=_;rw [qk Ce,uZ i8,uZ j56,e5]
 ·refine oJ.rM (Calls.mono (Tryz.Builder_Grow_fresh b b n w1 (aH _) uE.blk (by have:=uE.size;omega) hb) ?_);rintro e w' ⟨D,X⟩;exact ⟨_,D,rfl,X⟩
 ·obtain ⟨rfl,⟨_,v,r8,gi,wz⟩,Hv⟩:=hx;have gi:iL w2 b 5 1 v 0 []:=gi;obtain ⟨a,c,rfl⟩:=gi.shape;have mM:=uE.fresh;have j0:Ext gL w w2:=⟨Hv.os.trans uE.ext.os,Hv.tape.trans uE.ext.tape,Hv.output.trans uE.ext.output,jg uE.ext.size Hv.size,fun k hk hs=>(Hv.block k G).trans (uE.ext.block k hk hs)⟩;have ua:=hI.same j0
  have cl:∀ i,β i=.no:=fun i=>hI.out i (aX _)
  have Xj:∀ o,K b o=none:=fun o=>by
   cases hk:K b o with
   | none=>rfl
   | some g=>have:=hI.fz.lt hk;omega
  have hw0:=hI.ext.size;have acm:=hI.tab.pow.lt;have kH:=hI.tab.spc.lt;have XI:dI β (fw β ([]:List Ob).length (.fix b)):=jy zfX
  have Xi:=ua.Tr (x:=.fix b) (y:=.box 187 [.loc 0 0,.v (.slice a 0 c)]) (fun b' bH=>by
   cases bH
   exact ⟨fun i hi=>(by rw [cl] at hi;cases hi),by omega,by omega,by omega⟩) (by
   refine ⟨b,[.pointer (some ⟨b,0,none⟩),.slice a 0 c],bC,r8,.cons (.loc 0 0 b bC) (.cons (.v _) .nil),Xj⟩) XI
  have Dg:iL w2 0 5 1 (.slice a 0 c) 0 []:=gi.base (aX _)
  have Pc:∀ g,(Value.slice a 0 c).ownBlock=some g->b < g:=fun g hg=>by
   have D:=(gi.lt hg).1
   have X:g≠b:=fun e=>wz (by rw [hg,e])
   omega
  have ub:fw β ([]:List Ob).length (.fix b) 1=.no:=by rw [bO aC];exact cl 1
  have Cd:dI (fw β ([]:List Ob).length (.fix b)) (fw (fw β ([]:List Ob).length (.fix b)) 1 (.gr (.slice a 0 c) 0)):=jy (by rw [ub];trivial)
  have hI4:=Xi.Tr (x:=.gr (.slice a 0 c) 0) (y:=.vech 5 1 [] (.slice a 0 c)) (fun g hg=>by
   have:=Pc g hg;refine ⟨fun i hi=>?_,by omega,by omega,by omega⟩
   rcases lL hi with D | D
   ·cases D;omega
   ·rw [cl] at D;cases D) (by
   refine ⟨[],bC,Dg,bs.nil,(fun r hr=>by cases hr),fun g hg o=>?_⟩
   cases hk:K g o with
   | none=>rfl
   | some y=>have:=hI.fz.lt hk;have:=Pc g hg;omega) Cd
  refine h a c B K _ w2 _ hm hI4 ?_;have hF2:=(hF.mono (cW.refl K) XI).mono (cW.refl K) Cd;refine ((hF2.fT t8 (.loc 0 0 b ?_)).fT t56 ?_).fT t57 (.v _)
  ·rw [bO aC];exact bC
  ·have e5:nth (fT l t8 (.pointer (some ⟨b,0,none⟩))) t5=.int .i64 n:=by
    rw [qk Ub];exact Rel.eE (by rw [<-hn];exact hF.nth t5)
   rw [show ev (put l (some t8) (.pointer (some ⟨b,0,none⟩))) (.tmp t5)=.int .i64 n from e5];exact .v _
attribute [local irreducible] GW GL GO YG GC GA bg bj
theorem wg (a b:ah):bS (a++b)=bS a++bS b:=by simp [bS]
def px (l:List ah):Nat:=(l.map List.length).sum
theorem FP:∀ (r:List ah) (x:ah),(cr (x::r)).length=px (x::r)+2 * r.length
 | [],x=>by simp [cr,px]
 | y::r,x=>by
  have:=FP r y;simp only [cr,px,aO,List.map_cons,sum_cons,List.flatMap_cons,length_cons] at this |-;omega
def gj (l:List ah):ah:=l.flatMap fun y=>44::32::y
theorem O3 (a b:List ah):gj (a++b)=gj a++gj b:=by unfold gj;rw [List.flatMap_append]
theorem Vp (l:List ah) (k:Nat):(gj (l.take k)).length<=(gj l).length:=by
 have:gj l=gj (l.take k)++gj (l.drop k):=by rw [<-O3,List.take_append_drop]
 rw [this,aO];omega
theorem W9 (y:ah):gj [y]=[44,32]++y:=by simp [gj]
theorem Sd (x:ah) (r:List ah):cr (x::r)=x++gj r:=rfl
theorem NQ (l:List ah) (hb:(cr l).length<=1099511627776) (hl:l.length<=1099511627776):GF prog 147 [strs l,.v (sv [44,32])] [] (.v (sv (cr l))) []:=by
 match l,hb,hl with
 | [],hb,hl =>
  refine ai func147 ntmps147 ?_;exact al
 | [x],hb,hl =>
  have hr:([x].map fun s=>[GV.v (sv s)])[0]?=some [.v (sv x)]:=rfl
  have e:cr [x]=x:=by simp [cr]
  rw [e];refine ai func147 ntmps147 ?_;exact al
 | x::y::r,hb,hl =>
  have vy:((x::y::r).map fun s=>[GV.v (sv s)])[0]?=some [.v (sv x)]:=rfl;have hlen:=FP (y::r) x
  have zr:x.length<=1099511627776:=by simp only [cr,aO] at hb;omega
  generalize hL:(x::y::r)=l at *
  have mw:2<=l.length:=by rw [<-hL];simp
  have dK:(l.map fun s=>[GV.v (sv s)]).length=l.length:=by simp
  have ub:Nat.blt 1 (l.map fun s=>[GV.v (sv s)]).length=true:=by rw [dK];simpa [Nat.blt] using mw
  have vu:(((l.map fun s=>[GV.v (sv s)]).length:Int)==0)=false:=by rw [dK];simp only [beq_eq_false_iff_ne,ne_eq];omega
  have xH:(((l.map fun s=>[GV.v (sv s)]).length:Int)==1)=false:=by rw [dK];simp only [beq_eq_false_iff_ne,ne_eq];omega
  have hq:decide ((9223372036854775807:Int) / (((l.map fun s=>[GV.v (sv s)]).length:Int) - 1)<=2)=false:=by
   rw [dK]
   have h3:(3:Int)<=9223372036854775807 / ((l.length:Int) - 1):=by
    rw [Int.le_ediv_iff_mul_le G];omega
   simp;omega
  refine ai func147 ntmps147 ?_;apply GL.q
  ·exact YG.mul (a:=2) (b:=((l.map fun s=>[GV.v (sv s)]).length:Int) - 1) rfl rfl G
  refine zaS ?_;refine GW.range (l.map fun s=>[GV.v (sv s)]).length (fun k fr Γ=>fr=[strs l,.v (sv [44,32]),U,U,U,.v (ii (0+2 * (((l.map fun s=>[GV.v (sv s)]).length:Int) - 1)+((px (l.take k):Nat):Int))),U,U,U,U,U,U,U,U,U,U,U,U,U,U,U,U,U,U,U,U,U,U,U,U,U,U,U,U,U,U,U,U,U,strs l,.v (ii ((l.map fun s=>[GV.v (sv s)]).length:Int)),.v (ii (k:Nat)),U,U,U,U,U,U,U,U,U,U,U,U,U,U,U,U,U,U,U,U,U,U,U,U,U,U,U,U,U,U,U,U,U]/\Γ=[]) ?_ G ?_ ?_ ?_
  ·refine ⟨_,_,Wk.aJ (cX:=[strs l,.v (sv [44,32]),U,U,U,.v (ii (0+2 * (((l.map fun s=>[GV.v (sv s)]).length:Int) - 1))),U,U,U,U,U,U,U,U,U,U,U,U,U,U,U,U,U,U,U,U,U,U,U,U,U,U,U,U,U,U,U,U,U,strs l,.v (ii ((l.map fun s=>[GV.v (sv s)]).length:Int)),.v (ii (0:Nat)),U,U,U,U,U,U,U,U,U,U,U,U,U,U,U,U,U,U,U,U,U,U,U,U,U,U,U,U,U,U,U,U,U]) ar,?_,rfl⟩;rw [List.take_zero,show ((px []:Nat):Int)=0 from rfl,Int.add_zero]
  ·rintro k _ _ ⟨rfl,rfl⟩;exact ea
  ·rintro k _ _ au ⟨rfl,rfl⟩;rw [dK] at au
   have cS:l[k]?=some l[k]:=by simp [au]
   have vr:(l.map fun s=>[GV.v (sv s)])[k]?=some [.v (sv l[k])]:=by rw [bp,cS];rfl
   have hs:px (l.take (k+1))=px (l.take k)+l[k].length:=by unfold px;rw [dh,cS,mo,List.sum_append];simp only [Option.toList,List.map_cons,map_nil,sum_cons,List.sum_nil,Nat.add_zero]
   have hle:px (l.take (k+1))<=px l:=by
    have:px l=px (l.take (k+1))+px (l.drop (k+1)):=by
     unfold px;rw [<-List.sum_append,<-mo,List.take_append_drop]
    omega
   generalize l[k]=z at *;rw [show (0+2 * (((l.map fun s=>[GV.v (sv s)]).length:Int) - 1)+((px (l.take (k+1)):Nat):Int))=0+2 * (((l.map fun s=>[GV.v (sv s)]).length:Int) - 1)+((px (l.take k):Nat):Int)+(z.length:Int) by rw [hs];omega]
   have hov:decide (9223372036854775807 - (0+2 * (((l.map fun s=>[GV.v (sv s)]).length:Int) - 1)+((px (l.take k):Nat):Int)) < (z.length:Int))=false:=by
    simp only [decide_eq_false_iff_not];omega
   refine I ?_;exact zaU
  ·rintro _ _ ⟨rfl,rfl⟩;rw [dK,di]
   have hN:(0+2 * ((l.length:Int) - 1)+((px l:Nat):Int))=(((cr l).length:Nat):Int):=by
    have:(y::r).length+1=l.length:=by rw [<-hL];simp
    omega
   rw [hN];refine bh ?_
   refine GW.builder (cr l).length rfl rfl rfl rfl rfl G fun a c=>?_
   refine I ?_;refine bU [0,1] (uu x 0 a c [] rfl G) ?_;rintro _ _ ⟨⟨u1,rfl⟩,a1,c1,rfl⟩;refine zaC ?_
   have key:∀ k,(x++gj ((y::r).take k)).length<=1099511627776:=fun k=>by
    have D:=Vp (y::r) k;rw [<-hL,Sd,aO] at hb;rw [aO];omega
   refine GW.range ((y::r).map fun s=>[GV.v (sv s)]).length (fun k fr Γ=>∃ acc a c,fr=[U,.v (sv [44,32]),U,U,U,U,U,U,.loc 0 0,U,U,U,U,U,U,U,U,U,U,U,U,U,U,U,U,U,U,U,U,U,U,U,U,U,U,U,U,U,U,U,U,U,U,U,U,U,U,U,U,U,U,U,U,U,U,U,U,U,U,U,U,U,U,strs (y::r),.v (ii (((y::r).map fun s=>[GV.v (sv s)]).length:Int)),.v (ii (k:Nat)),U,U,U,U,U,U,U,U,U]/\acc=x++gj ((y::r).take k)/\Γ=[.box 187 [.loc 0 0,.v (.slice a acc.length c)],.vech 5 1 (bS acc) (.slice a acc.length c)]) ?_ ?_ ?_ ?_ ?_
   ·rw [show 0+x.length=x.length from ed _];subst hL;exact ⟨_,_,Wk.aJ ar,x,a1,c1,rfl,by simp [gj],rfl⟩
   ·have:((y::r).map fun s=>[GV.v (sv s)]).length+1=l.length:=by rw [<-hL];simp
    omega
   ·rintro k _ _ ⟨acc,a,c,rfl,_,rfl⟩;exact ea
   ·rintro k _ _ au ⟨acc,a,c,rfl,lF,rfl⟩
    have au:k < (y::r).length:=by simpa using au
    have cS:(y::r)[k]?=some (y::r)[k]:=by simp [au]
    have vr:((y::r).map fun s=>[GV.v (sv s)])[k]?=some [.v (sv (y::r)[k])]:=by rw [bp,cS];rfl
    have bL:x++gj ((y::r).take (k+1))=(acc++[44,32])++(y::r)[k]:=by
     rw [dh,cS,O3,<-fP,<-lF,fP]
     congr 1
     exact W9 _
    have wx:=key k;have ud:=key (k+1);rw [bL] at ud;rw [<-lF] at wx;simp only [aO,length_cons,length_nil] at ud;generalize (y::r)[k]=z at *
    have ZE:(bS acc).length=acc.length:=by simp [bS]
    refine I ?_;refine bU [0,1] (uu [44,32] acc.length a c (bS acc) ZE (by simp only [length_cons,length_nil];omega)) ?_;rintro _ _ ⟨⟨u1,rfl⟩,a2,c2,rfl⟩;refine cV ?_;rw [show bS acc++[[GV.v (.int .u8 ((44:UInt8).toNat:Int))],[GV.v (.int .u8 ((32:UInt8).toNat:Int))]]=bS (acc++[44,32]) by simp [bS],show acc.length+([44,32]:ah).length=(acc++[44,32]).length by simp];refine I ?_;refine bU [0,1] (uu z (acc++[44,32]).length a2 c2 (bS (acc++[44,32])) (by simp [bS]) zfV) ?_;rintro _ _ ⟨⟨u2,rfl⟩,a3,c3,rfl⟩;refine cV ?_
    have ez:List.length (acc++[44,32])+List.length z=List.length ((acc++[44,32])++z):=by simp only [aO]
    rw [<-wg,ez];refine I ?_;exact ⟨rfl,rfl,_,_,Wk.aJ ar,(acc++[44,32])++z,a3,c3,rfl,bL.symm,rfl⟩
   ·rintro _ _ ⟨acc,a,c,rfl,lF,rfl⟩
    have hj:cr l=acc:=by
     rw [lF,<-hL,show ((y::r).map fun s=>[GV.v (sv s)]).length=(y::r).length by simp,di];rfl
    rw [hj] at hb hlen |-
    have bT:acc≠[]:=by
     intro h0;rw [h0] at hlen;simp at hlen
    have abH:=Rm acc a c bT G;refine I ?_;refine V [0,1] abH ?_;exact al
open Go.Xp (Nd T)
open Go.Sp (Src)
open Go.Im (rP sN tr kC)
mutual
def tT:T->GV
 | .mk n l=>.box [.v (ii n.kind),.v (ii n.at_),.v (ii n.n),.v (sv n.s),ints n.kids,.sl 1 (c6 l)] 0
def c6:List T->List (List GV)
 | []=>[]
 | t::r=>[tT t]::c6 r
end
abbrev uT (t:T):GV:=.box [.v (ii t.n.kind),.v (ii t.n.at_),.v (ii t.n.n),.v (sv t.n.s),ints t.n.kids,.sl 1 (c6 t.kids)] 0
theorem aan (t:T):tT t=uT t:=by cases t;rw [tT];rfl
theorem mF (l:List T):c6 l=l.map fun t=>[uT t]:=by
 induction l with
 | nil=>rfl
 | cons t l ih=>rw [c6,ih,aan];rfl
theorem tA (l:List T):(c6 l).length=l.length:=by rw [mF];simp
theorem LM (l:List T) (t:T):c6 (l++[t])=c6 l++[[uT t]]:=by rw [mF,mF];simp
theorem xZ {l:List T} {i:Nat} {t:T} (h:l[i]?=some t):(c6 l)[i]?=some [uT t]:=by rw [mF,bp,h];rfl
def trG:Option (T × Nat)->GV
 | none=>.tup [U,U,.v (.bool false)]
 | some (t,e)=>.tup [uT t,.v (ii (e:Nat)),.v (.bool true)]
theorem Tf (nodes:List Nd) (hl:nodes.length<=1099511627776) (hk:∀ n∈nodes,n.kids.length<=1099511627776):∀ (f a:Nat),nodes.length - a+1<=f->a<=1099511627776 ->
  GF prog 79 [.sl 5 (nodes.map aW),.v (ii (a:Nat))] [] (trG (rP nodes f a)) []:=by
 intro f
 induction f with
 | zero=>intro a h;omega
 | succ f ih =>
 intro a hf ha;rw [rP]
 cases hn:nodes[a]? with
 | none =>
  have kF:nodes.length<=a:=oH hn
  have hd:decide (((nodes.map aW).length:Int)<=(a:Int))=true:=by simpa using kF
  refine ai func79 ntmps79 ?_;exact zd2
 | some n =>
  have au:=(bu hn).1
  have hd:decide (((nodes.map aW).length:Int)<=(a:Int))=false:=by simpa using au
  have hr:(nodes.map aW)[a]?=some (aW n):=by rw [bp,hn];rfl
  have hnk:=hk n (br hn);simp only;generalize hR:sN (rP nodes f) n.kids (a+1) []=R;refine ai func79 ntmps79 ?_;refine GW.wk (Wk.M6 (i:=0) (o:=5) 79 1 rfl rfl) ?_
  refine GW.range (n.kids.map fun i=>[GV.v (ii i)]).length (fun k fr Γ=>∃ next acc m rows,fr=[.sl 5 (nodes.map aW),.v (ii (a:Nat)),U,U,U,U,U,.loc 0 0,.v (ii (next:Nat)),U,U,U,U,U,U,U,U,U,U,U,U,U,U,U,U,U,U,U,U,U,ints n.kids,.v (ii ((n.kids.map fun i=>[GV.v (ii i)]).length:Int)),.v (ii (k:Nat)),U,U,U,U,U,U,U,U,U,U,U,U,U,U,U,U,U,U,U,U,U,U,U,U,U,U,U,U,U,U,U,U,U,U,U] /\
   Γ=[.box 125 [.v (ii n.kind),.v (ii n.at_),.v (ii n.n),.v (sv n.s),ints n.kids,.vec 1 m],.vec 79 1 0 rows]/\rows.length=m/\rows=c6 acc/\m=k/\a+1<=next/\next<=nodes.length/\sN (rP nodes f) (n.kids.drop k) next acc=R) ?_ (by simpa using hnk) ?_ ?_ ?_
  ·exact ⟨_,_,Wk.aJ ar,a+1,[],0,[],rfl,rfl,rfl,rfl,rfl,aH _,au,hR⟩
  ·rintro k _ _ ⟨next,acc,m,rows,rfl,rfl,_⟩;exact ea
  ·rintro k _ _ fC ⟨next,acc,m,rows,rfl,rfl,hm,bx,vt,De,sH,h⟩
   have fC:k < n.kids.length:=by simpa using fC
   have cS:n.kids[k]?=some n.kids[k]:=by simp [fC]
   have vr:(n.kids.map fun i=>[GV.v (ii i)])[k]?=some [.v (ii n.kids[k])]:=by rw [bp,cS];rfl
   rw [oG fC,sN] at h;generalize n.kids[k]=z at *
   by_cases hz:z=(next:Int)
   ·rw [ae hz] at h;subst hz
    have KX:((next:Int) != (next:Int))=false:=by simp
    have z7:=ih next G G
    cases hq:rP nodes f next with
    | none =>
     rw [hq] at h z7;subst h;refine I ?_;refine V [] z7 ?_;exact zd2
    | some x =>
     obtain ⟨t,e⟩:=x;rw [hq] at h z7;simp only at h
     obtain ⟨s1,s2,_,_⟩:=Go.Im.CE f next t e hq
     refine I ?_;refine V [] z7 ?_;refine zcG ?_;exact ⟨rfl,rfl,_,_,Wk.aJ ar,e,acc++[t],_,_,rfl,rfl,by simp [hm],by rw [LM,bx],by omega,by omega,s2,h⟩
   ·rw [ab hz] at h;subst h
    have KX:(z != (next:Int))=true:=by simpa using hz
    refine I ?_;exact zd2
  ·rintro _ _ ⟨next,acc,m,rows,rfl,rfl,hm,bx,vt,De,sH,h⟩;rw [show n.kids.drop (n.kids.map fun i=>[GV.v (ii i)]).length=[] by simp,sN] at h;subst h;simp only;subst bx;refine bh ?_;refine GW.wk (Wk.Be (i:=0) (o:=5) (j:=1) rfl rfl rfl rfl hm) ?_
   by_cases h0:n.at_ < 0
   ·rw [ae h0]
    have tZ:decide ((0:Int)<=n.at_)=false:=by simpa using h0
    refine zdP ?_;exact zd2
   ·rw [ab h0]
    have tZ:decide ((0:Int)<=n.at_)=true:=by simpa using h0
    refine zdP ?_;refine EY ?_;exact zak
def D6 (nodes:List Nd):Option (List T × Nat)->GV
 | none=>.tup [U,.v (.bool false)]
 | some (l,e)=>.tup [.sl 1 (c6 l),.v (.bool ((e:Int)==(nodes.length:Int)))]
theorem ym (p:Src) (hl:p.nodes.length<=1099511627776) (hk:∀ n∈p.nodes,n.kids.length<=1099511627776) (hf:p.fns.length<=1099511627776) :
  GF prog 87 [.agg (av p)] [] (D6 p.nodes (kC p.nodes p.fns 0 [])) []:=by
 generalize hR:kC p.nodes p.fns 0 []=R;refine ai func87 ntmps87 ?_;refine GW.wk (Wk.EA (t:=4) (a:=none) (c:=0) 79 1 rfl) ?_
 refine GW.range (p.fns.map ax).length (fun k fr Γ=>∃ next acc m rows,fr=[U,.loc 0 0,U,U,.vec 1 m,.v (ii (next:Nat)),U,U,U,U,U,U,.sl 3 (p.fns.map ax),.v (ii ((p.fns.map ax).length:Int)),.v (ii (k:Nat)),U,U,U,U,U,U,U,U,U,U,U,U,U,U,U,U,U,U,U,U,U,U,U,U,U,U,U,U,U,U,U] /\
  Γ=[.box 28 (av p),.vec 79 1 0 rows]/\rows.length=m/\rows=c6 acc/\m=k/\next<=p.nodes.length/\kC p.nodes (p.fns.drop k) next acc=R) ?_ (by simpa using hf) ?_ ?_ ?_
 ·exact ⟨_,_,Wk.aJ ar,0,[],0,[],rfl,rfl,rfl,rfl,rfl,aX _,hR⟩
 ·rintro k _ _ ⟨next,acc,m,rows,rfl,rfl,_⟩;exact ea
 ·rintro k _ _ fC ⟨next,acc,m,rows,rfl,rfl,hm,bx,vt,sH,h⟩
  have fC:k < p.fns.length:=by simpa using fC
  have cS:p.fns[k]?=some p.fns[k]:=by simp [fC]
  have vr:(p.fns.map ax)[k]?=some (ax p.fns[k]):=by rw [bp,cS];rfl
  rw [oG fC,kC] at h;generalize p.fns[k]=fn at *
  have Pv:=Tf p.nodes hl hk (p.nodes.length+1) next G G
  unfold tr at h
  cases hq:rP p.nodes (p.nodes.length+1) next with
  | none =>
   rw [hq] at h Pv;subst h;refine I ?_;refine V [] Pv ?_;refine I5 ?_;exact zaT
  | some x =>
   obtain ⟨t,e⟩:=x;rw [hq] at h Pv;simp only at h
   obtain ⟨s1,s2,_,_⟩:=Go.Im.CE _ next t e hq
   by_cases hb:fn.body=(next:Int)
   ·rw [ae hb] at h
    have bH:(fn.body != (next:Int))=false:=by simpa using hb
    refine I ?_;refine V [] Pv ?_;refine zcG ?_;exact ⟨rfl,rfl,_,_,(Wk.cut (n:=2) (aX _) rfl).trans (Wk.aJ ar),e,acc++[t],_,_,rfl,rfl,by simp [hm],by rw [LM,bx],by omega,s2,h⟩
   ·rw [ab hb] at h;subst h
    have bH:(fn.body != (next:Int))=true:=by simpa using hb
    refine I ?_;refine V [] Pv ?_;refine I5 ?_;exact zaT
 ·rintro _ _ ⟨next,acc,m,rows,rfl,rfl,hm,bx,vt,sH,h⟩;rw [show p.fns.drop (p.fns.map ax).length=[] by simp,kC] at h;subst h;subst bx;refine bh ?_;refine GW.wk (Wk.lr (t:=4) rfl rfl rfl hm) ?_
  have XN:p.nodes.length=(p.nodes.map aW).length:=by simp
  unfold D6;rw [XN];refine I ?_;refine aM (ay 0 8 .nil) ?_;refine ak ?_;exact tC
open Go.Sp
structure PX where
 a:Value
 b:Value
 c:Value
 d:Value
 e:Value
abbrev cq (p:RS) (x:PX):Ob:=.box 135 [gW p.l,.v (ii p.i),.v (ii p.e),.v (ii p.code),.v (ii p.at_),.v x.a,.v x.b,.v x.c,.v x.d,.v x.e]
theorem tN (p:RS) (k:Nat) (x:PX) (hp:p.ok) (hk:k<=1):GF prog 201 [.loc 0 0,.v (ii (k:Nat))] [cq p x] (.agg (cZ (Go.Im.tok p k))) [cq p x]:=by
 obtain ⟨lW,eB⟩:=hp;unfold Go.Im.tok
 cases ht:p.l[p.i+k]? with
 | some t =>
  have hr:=lN ht;have au:p.i+k < p.l.length:=(bu ht).1
  have hd:decide (((p.l.map cZ).length:Int)<=((p.i+k:Nat):Int))=false:=by simpa using by omega
  refine ai func201 ntmps201 ?_;refine aM (ay 0 12 .nil) ?_;refine bq ?_;refine aM (ay 0 12 (.a 12 .nil)) ?_;refine ak ?_;exact ry
 | none =>
  have au:p.l.length<=p.i+k:=oH ht
  have hd:decide (((p.l.map cZ).length:Int)<=((p.i+k:Nat):Int))=true:=by simpa using by omega
  refine ai func201 ntmps201 ?_;refine aM (ay 0 12 .nil) ?_;refine ak ?_;exact ry
theorem Hi (p:RS) (c a:Int) (x:PX):GF prog 256 [.loc 0 0,.v (ii c),.v (ii a)] [cq p x] (.tup []) [cq (p.fail c a) x]:=by
 unfold RS.fail
 by_cases h:p.code=0
 ·have h':(p.code==0)=true:=by simpa using h
  rw [ae h];refine ai func256 ntmps256 ?_;exact iJ
 ·have h':(p.code==0)=false:=by simpa using h
  rw [ab h];refine ai func256 ntmps256 ?_;exact iJ
theorem Bm (p:RS) (x:PX) (hp:p.ok):GF prog 202 [.loc 0 0] [cq p x] (.tup []) [cq (Go.Im.ml p) x]:=by
 have ht:=tN p 0 x hp aC;unfold Go.Im.ml;generalize Go.Im.tok p 0=t at *;have hf:=Hi p 7 t.at_ x;refine ai func202 ntmps202 ?_;refine zd3 ?_;refine V [0] hf ?_;exact iJ
theorem yv (p:RS) (d:Nat) (x:PX) (hp:p.ok):GF prog 258 [.loc 0 0,.v (ii (d:Nat))] [cq p x] (.v (.bool ((Go.Im.cw p d).code==0))) [cq (Go.Im.cw p d) x]:=by
 have ht:=tN p 0 x hp aC;unfold Go.Im.cw;generalize Go.Im.tok p 0=t at *
 by_cases h:d > 60
 ·have h':decide ((60:Int) < (d:Int))=true:=by simpa using by omega
  rw [ae h];have hf:=Hi p 9 t.at_ x;generalize p.fail 9 t.at_=q at *;refine ai func258 ntmps258 ?_;refine zd3 ?_;refine V [0] hf ?_;exact al
 ·have h':decide ((60:Int) < (d:Int))=false:=by simpa using by omega
  rw [ab h];refine ai func258 ntmps258 ?_;exact al
theorem l6 (p:RS) (k:Nat) (s:ah) (x:PX) (hp:p.ok) (hk:k<=1):GF prog 199 [.loc 0 0,.v (ii (k:Nat)),.v (sv s)] [cq p x] (.v (.bool (Go.Im.is p k s))) [cq p x]:=by
 have ht:=tN p k x hp hk;unfold Go.Im.is;generalize Go.Im.tok p k=t at *
 cases h:(t.kind==3) with
 | true =>
  rw [Bool.true_and];refine ai func199 ntmps199 ?_;refine zd3 ?_;exact al
 | false =>
  rw [Bool.false_and];refine ai func199 ntmps199 ?_;refine zd3 ?_;exact al
theorem s9 (p:RS) (x:PX) (hp:p.ok):GF prog 200 [.loc 0 0] [cq p x] (.v (sv (Go.Im.tok p 0).s)) [cq (Go.Im.bI p) x]:=by
 have ht:=tN p 0 x hp aC;have hw:=Bm p x hp;have Ps:=hp.2;have FJ:=hp.1;unfold Go.Im.bI;generalize Go.Im.tok p 0=t at *;have hf:=Hi p 8 t.at_ x
 by_cases hc:p.code=0
 ·have dw:(p.code != 0)=false:=by simpa using hc
  rw [ae hc]
  by_cases X:t.kind=2
  ·have rF:(t.kind != 2)=false:=by simpa using X
   rw [ae X]
   by_cases hl:t.s.length > 12
   ·have kG:decide ((12:Int) < (t.s.length:Int))=true:=by simpa using by omega
    rw [ae hl];refine ai func200 ntmps200 ?_;refine zd3 ?_;refine V [0] hf ?_;exact al
   ·have kG:decide ((12:Int) < (t.s.length:Int))=false:=by simpa using by omega
    rw [ab hl];refine ai func200 ntmps200 ?_;refine zd3 ?_;exact al
  ·have rF:(t.kind != 2)=true:=by simpa using X
   rw [ab X];refine ai func200 ntmps200 ?_;refine zd3 ?_;refine V [0] hw ?_;exact al
 ·have dw:(p.code != 0)=true:=by simpa using hc
  rw [ab hc];refine ai func200 ntmps200 ?_;refine zd3 ?_;exact al
theorem fL (p:RS) (s:ah) (x:PX) (hp:p.ok):GF prog 203 [.loc 0 0,.sl 1 [[.v (sv s)]]] [cq p x] (.tup []) [cq (Go.Im.want p s) x]:=by
 have hi:=l6 p 0 s x hp aC;have hw:=Bm p x hp;have Ps:=hp.2;have FJ:=hp.1;unfold Go.Im.want;generalize Go.Im.ml p=q at *;have hr:([[GV.v (sv s)]]:List (List GV))[0]?=some [.v (sv s)]:=rfl;refine ai func203 ntmps203 ?_
 by_cases hc:p.code=0
 ·have dw:(p.code != 0)=false:=by simpa using hc
  rw [ae hc]
  cases h:Go.Im.is p 0 s with
  | true =>
   rw [h] at hi;rw [ae rfl];refine GW.range 1 (fun k fr Γ=>fr=[.loc 0 0,U,U,U,U,U,.sl 1 [[.v (sv s)]],.v (ii ((1:Nat):Int)),.v (ii (k:Nat)),U,U,U,U,U,U,U,U,U,U,U,U,U,U,U,U,U,U,U,U,U,U]/\((k=0/\Γ=[cq p x])\/(1<=k/\Γ=[cq p.next x]))) ?_ aC ?_ ?_ ?_
   ·exact ⟨_,_,Wk.aJ ar,rfl,.inl ⟨rfl,rfl⟩⟩
   ·rintro k _ _ ⟨rfl,_⟩;exact ea
   ·rintro k _ _ hk ⟨rfl,⟨rfl,rfl⟩ | ⟨D,_⟩⟩
    ·refine zca ?_;exact ⟨rfl,rfl,_,_,Wk.aJ ar,rfl,.inr ⟨aH _,rfl⟩⟩
    ·omega
   ·rintro _ _ ⟨rfl,⟨D,_⟩ | ⟨_,rfl⟩⟩
    ·cases D
    ·exact oE
  | false =>
   rw [h] at hi;rw [ab aC];refine GW.range 1 (fun k fr Γ=>fr=[.loc 0 0,U,U,U,U,U,.sl 1 [[.v (sv s)]],.v (ii ((1:Nat):Int)),.v (ii (k:Nat)),U,U,U,U,U,U,U,U,U,U,U,U,U,U,U,U,U,U,U,U,U,U]/\k=0/\Γ=[cq p x]) ?_ aC ?_ ?_ ?_
   ·exact jQ
   ·rintro k _ _ ⟨rfl,_⟩;exact ea
   ·rintro k _ _ hk ⟨rfl,rfl,rfl⟩;refine zca ?_;refine V [0] hw ?_;exact iJ
   ·rintro _ _ ⟨rfl,D,_⟩;cases D
 ·have dw:(p.code != 0)=true:=by simpa using hc
  rw [ab hc];refine GW.range 1 (fun k fr Γ=>fr=[.loc 0 0,U,U,U,U,U,.sl 1 [[.v (sv s)]],.v (ii ((1:Nat):Int)),.v (ii (k:Nat)),U,U,U,U,U,U,U,U,U,U,U,U,U,U,U,U,U,U,U,U,U,U]/\k=0/\Γ=[cq p x]) ?_ aC ?_ ?_ ?_
  ·exact jQ
  ·rintro k _ _ ⟨rfl,_⟩;exact ea
  ·rintro k _ _ hk ⟨rfl,rfl,rfl⟩;exact oE
  ·rintro _ _ ⟨rfl,D,_⟩;cases D
open Go.Xp (T one levels)
mutual
def pT:T->GV
 | .mk n l=>.box [.v (ii n.kind),.v (ii n.at_),.v (ii n.n),.v (sv n.s),.v (.slice none 0 0),.sl 1 (mx l)] 0
def mx:List T->List (List GV)
 | []=>[]
 | t::r=>[pT t]::mx r
end
abbrev qT (t:T):GV:=.box [.v (ii t.n.kind),.v (ii t.n.at_),.v (ii t.n.n),.v (sv t.n.s),.v (.slice none 0 0),.sl 1 (mx t.kids)] 0
theorem aah (t:T):pT t=qT t:=by cases t;rw [pT];rfl
theorem iV (l:List T):mx l=l.map fun t=>[qT t]:=by
 induction l with
 | nil=>rfl
 | cons t l ih=>rw [mx,ih,aah];rfl
theorem pf (l:List T):(mx l).length=l.length:=by rw [iV];simp
theorem xW (l:List T) (t:T):mx (l++[t])=mx l++[[qT t]]:=by rw [iV,iV];simp
theorem DD {l:List T} {i:Nat} {t:T} (h:l[i]?=some t):(mx l)[i]?=some [qT t]:=by rw [iV,bp,h];rfl
theorem Qe (k a:Int) (s:ah) (rows:List (List GV)):GF prog 257 [.v (ii k),.v (ii a),.v (sv s),.sl 1 rows] [] (.loc 0 0) [.box 125 [.v (ii k),.v (ii a),.v (ii 0),.v (sv s),.v (.slice none 0 0),.sl 1 rows]]:=by
 refine ai func257 ntmps257 ?_;refine GW.wk (Wk.cells 0 rfl (ds:=[.v (ii k),.v (ii a),.v (ii 0),.v (sv s),.v (.slice none 0 0),.sl 1 rows]) iw) ?_;exact zd0
theorem fm (k a:Int) (s:ah) (l:List T) (rows:List (List GV)) (h:mx l=rows):GF prog 257 [.v (ii k),.v (ii a),.v (sv s),.sl 1 rows] [] (qT (one k a s l)) []:=by
 subst h;refine ai func257 ntmps257 ?_;refine GW.wk (Wk.cells 0 rfl (ds:=[.v (ii k),.v (ii a),.v (ii 0),.v (sv s),.v (.slice none 0 0),.sl 1 (mx l)]) iw) ?_;refine GW.wk (Wk.freeze (i:=0) rfl rfl rfl (aX _)) ?_;exact al
theorem vL:GF prog 189 [] [] (.sl 1 (levels.map fun l=>[strs l])) []:=by
 refine ai func189 ntmps189 ?_
 iterate 10 (refine b7 ?_)
 exact aw
end Go.Xg
namespace Go.Xg
open Go.RowKit Go.Xw Go.Proofs Tryz
open GV (U)
open Go.Xp (levels gJ)
open Go.Im (rb ui)
attribute [local irreducible] GW GL GO YG GC GA bg bj
theorem decDigits_eq (n:Nat):Go.Lib.decDigits n=gJ n:=by
 induction n using Nat.strongRecOn with
 | _ n ih =>
  unfold Go.Lib.decDigits gJ;split
  ·rfl
  ·rw [ih (n / 10) G]
theorem Vw (n:Int):Go.Lib.itoa n=rb n:=by
 unfold Go.Lib.itoa rb;rw [decDigits_eq,decDigits_eq]
theorem NP (n:Int) (h0 : -9223372036854775808<=n) (D:n<=9223372036854775807):GF prog 135 [.v (ii n)] [] (.v (sv (rb n))) []:=by
 refine GF.Yk (vs:=[ii n]) fun K β w ht hf=>?_
 obtain ⟨E,z,r8⟩:=vb.all ht hf ht.pow (zs:=xX.map fun z=>Value.int .u64 z) aC (fun m o x hx=>by
  rw [bp] at hx;unfold zz;rw [ab aC,ae rfl]
  cases hs:xX[o]? with
  | none=>rw [hs] at hx;cases hx
  | some y=>rw [hs] at hx;cases hx;rfl)
 have Cg:Go.Lib.TabIs prog w "internal/strconv.uint64pow10" .u64 Go.Lib.pow10Tab:=by
  unfold Go.Lib.TabIs World.var?;rw [show prog.globalNamed "internal/strconv.uint64pow10" = some 1 by kernel_rfl,show Go.Lib.pow10Tab=xX by decide];simp only [Option.bind_some,r8]
 refine oJ.rM (Calls.mono (strconv_Itoa n h0 D w Cg) ?_);rintro e w' ⟨X,k,os,h3⟩;refine ⟨_,X,by rw [Vw];rfl,?_⟩;subst h3;refine ⟨rfl,rfl,rfl,by simp [Go.Sort.grow,World.drewN],fun j hj _=>?_⟩;simp only [Go.Sort.grow,World.drewN];rw [Array.getElem?_append_left hj]
theorem SH (l:List ah) (s:ah) (hl:l.length<=1099511627776):GF prog 190 [strs l,.box [.v (sv s)] 0] [] (.v (.bool (l.contains s))) []:=by
 have h:=mG l s hl;generalize l.contains s=b at *;refine ai func190 ntmps190 ?_;exact zba
def Eo (ls:List (List ah)) (s:ah):Int:=match ls.findIdx? (fun l=>l.contains s) with | some i=>(i:Int) | none => -1
theorem Jk (ls:List (List ah)) (s:ah) (hn:ls.length<=1099511627776) (hl:∀ l∈ls,l.length<=1099511627776) :
  GF prog 188 [.sl 1 (ls.map fun l=>[strs l]),.fn (.func 190) [] [.box [.v (sv s)] 0]] [] (.v (ii (Eo ls s))) []:=by
 have dK:(ls.map fun l=>[strs l]).length=ls.length:=by simp
 refine ai func188 ntmps188 ?_;refine GW.range (ls.map fun l=>[strs l]).length (fun k fr Γ=>fr=[.sl 1 (ls.map fun l=>[strs l]),.fn (.func 190) [] [.box [.v (sv s)] 0],U,U,U,U,U,.v (ii ((ls.map fun l=>[strs l]).length:Int)),.v (ii (k:Nat)),U,U,U,U,U,U,U,U,U,U]/\Γ=[]/\(ls.take k).all (fun l=>!(l.contains s))=true) ?_ G ?_ ?_ ?_
 ·exact jQ
 ·exact gO
 ·rintro k _ _ au ⟨rfl,rfl,ba⟩;rw [dK] at au
  have cS:ls[k]?=some ls[k]:=by simp [au]
  have hr:(ls.map fun l=>[strs l])[k]?=some [strs ls[k]]:=by rw [bp,cS];rfl
  have hc:=SH ls[k] s (hl _ (getElem_mem au))
  have bL:(ls.take (k+1)).all (fun l=>!(l.contains s))=((ls.take k).all (fun l=>!(l.contains s))&&!(ls[k].contains s)):=by rw [dh,cS,all_append];simp
  have BG:ls[k].contains s=true->Eo ls s=(k:Int):=fun h0=>by
   have:ls.findIdx? (fun l=>l.contains s)=some k:=by
    rw [List.findIdx?_eq_some_iff_getElem];refine ⟨au,h0,fun j hj=>?_⟩;rw [gP] at ba;have:=ba ls[j] zfF;exact zbT
   unfold Eo;rw [this]
  generalize ls[k]=l at *
  cases hb:l.contains s with
  | true =>
   rw [hb] at hc;rw [BG hb];refine I ?_;refine jB [] hc ?_;exact aw
  | false =>
   rw [hb] at hc bL;refine I ?_;refine jB [] hc ?_;exact zam
 ·rintro _ _ ⟨rfl,rfl,ba⟩;rw [dK,di] at ba
  have:ls.findIdx? (fun l=>l.contains s)=none:=by
   rw [List.findIdx?_eq_none_iff];intro x hx;rw [gP] at ba;simpa using ba x hx
  unfold Eo;rw [this];exact aw
theorem FX (s:ah):GF prog 138 [.v (sv s)] [] (.v (ii (ui s))) []:=by
 have D:=vL;have X:=Jk levels s aC aC;rw [show ui s=Eo levels s from rfl];generalize Eo levels s=z at *;generalize levels=ls at *;refine ai func138 ntmps138 ?_;refine GL.wk (Wk.freeze (i:=0) rfl rfl rfl (aH _)) ?_;refine GN zgl ?_;refine V [] D ?_;refine V [] X ?_;exact al
open Go.Xp (T cr bc aD)
open Go.Im (xq ow dG hY wQ my iK tg tK ji dS)
theorem P3 (t:T) (z:Int):GF prog 139 [uT t,.v (ii z)] [] (.v (.bool (ow t z))) []:=by
 have h:=FX t.n.s;unfold ow
 cases hk:(t.n.kind==6) with
 | true =>
  generalize ui t.n.s=y at *;refine ai func139 ntmps139 ?_;exact zba
 | false =>
  refine ai func139 ntmps139 ?_;exact al
theorem wZ (t:T) (b:Bool) (x:ah) (hx:x.length<=1099511627776) (h:GF prog 80 [uT t] [] (.v (sv x)) []) :
  GF prog 137 [uT t,.v (.bool b)] [] (.v (sv (xq b x))) []:=by
 unfold xq
 cases b with
 | true =>
  refine ai func137 ntmps137 ?_;exact zba
 | false =>
  refine ai func137 ntmps137 ?_;exact zba
theorem SJ (ex:FuncId) [hf:aP prog ex] (tx:T->ah) (l:List T) (h:∀ t∈l,GF prog ex [uT t] [] (.v (sv (tx t))) []) (hj:(cr (l.map tx)).length<=1099511627776) (hl:l.length<=1099511627776) :
  GF prog 136 [.sl 1 (c6 l),.v (.func (.func ex) #[] #[])] [] (.v (sv (cr (l.map tx)))) []:=by
 have nz:=tA l;have hJ:=NQ (l.map tx) hj zfz;refine ai func136 ntmps136 ?_;refine GW.wk (Wk.EA (t:=5) (a:=none) (c:=0) 9 1 rfl) ?_;refine GW.range (c6 l).length (fun k fr Γ=>∃ m rows,fr=[.sl 1 (c6 l),.v (.func (.func ex) #[] #[]),U,U,U,.vec 0 m,U,U,.sl 1 (c6 l),.v (ii ((c6 l).length:Int)),.v (ii (k:Nat)),U,U,U,U,U,U,U,U,U,U,U,U]/\Γ=[.vec 9 1 0 rows]/\rows.length=m/\rows=((l.take k).map tx).map (fun s=>[GV.v (sv s)])/\m=k) ?_ G ?_ ?_ ?_
 ·exact ⟨_,_,Wk.aJ ar,0,[],rfl,rfl,rfl,rfl,rfl⟩
 ·rintro k _ _ ⟨m,rows,rfl,rfl,_⟩;exact ea
 ·rintro k _ _ au ⟨m,rows,rfl,rfl,hm,bx,vt⟩;rw [nz] at au
  have cS:l[k]?=some l[k]:=by simp [au]
  have hr:=xZ cS;have ht:=h l[k] (getElem_mem au)
  have bL:((l.take (k+1)).map tx).map (fun s=>[GV.v (sv s)])=rows++[[.v (sv (tx l[k]))]]:=by rw [dh,cS,bx,mo,mo];rfl
  generalize l[k]=t at *;refine I ?_;refine kl [] ht ?_;refine I ?_;exact zdc
 ·rintro _ _ ⟨m,rows,rfl,rfl,hm,bx,vt⟩;rw [nz,di] at bx;refine bh ?_;refine GW.wk (Wk.lr (t:=5) rfl rfl rfl hm) ?_;subst bx;refine I ?_;refine V [] hJ ?_;exact al
theorem ZO {t:T} (h:dS t.n.kind t.kids.length=true) (hk:t.n.kind=3\/t.n.kind=5):∃ a,t.kids=[a]:=by
 have:t.kids.length=1:=by
  unfold dS at h
  exact zeO
 match hl:t.kids,this with
 | [a],_=>exact ⟨a,rfl⟩
theorem ZP {t:T} (h:dS t.n.kind t.kids.length=true) (hk:t.n.kind=6):∃ a b,t.kids=[a,b]:=by
 have:t.kids.length=2:=by
  unfold dS at h;rw [hk] at h;simp at h;omega
 match hl:t.kids,this with
 | [a,b],_=>exact ⟨a,b,rfl⟩
theorem Wj:∀ (N:Nat) (t:T),bc t<=N->ji t=true->tg t->my t<=1099511627776->GF prog 80 [uT t] [] (.v (sv (dG t))) []:=by
 intro N
 induction N with
 | zero=>intro t h;rw [Go.Xp.fa] at h;omega
 | succ N ih =>
 intro t hN hk hn hw;have hlen:=Go.Im.yg _ t (aH _) hn;rw [Go.Xp.fa] at hN;rw [Go.Im.Am,aI,Go.Im.vG,gP] at hk;rw [Go.Im.th] at hn
 have jN:∀ a∈t.kids,GF prog 80 [uT a] [] (.v (sv (dG a))) []/\(dG a).length<=1099511627776:=fun a ha=>by
  have D:=Go.Im.v7 ha;rw [Go.Im.qY] at hw;have h3:=Go.Im.lJ hn.2 ha
  have X:bc a<=aD t.kids:=by
   have:∀ (l:List T),a∈l->bc a<=aD l:=by
    intro l
    induction l with
    | nil=>intro h;cases h
    | cons b l ih2 =>
     intro h;rw [aD]
     rcases eF h with rfl | h
     ·omega
     ·have:=ih2 h;omega
   exact this _ ha
  have h4:=Go.Im.yg _ a (aH _) h3;exact ⟨ih a G (hk.2 a ha) h3 G,by omega⟩
 rw [Go.Im.QH] at hlen |-;unfold wQ at hlen |-;have uD:=hk.1;have hkc:=@ZO t uD;have abr:=@ZP t uD;have Ud:=NP t.n.n hn.1.1 hn.1.2;have KN:=FX t.n.s
 have fC:t.kids.length<=1099511627776:=by
  have:=Go.Im.SE t.kids;rw [Go.Im.qY] at hw;omega
 have Gy:=fun hj=>SJ 80 dG t.kids (fun a ha=>(jN a ha).1) hj fC
 rw [<-Go.Im.EV] at Gy
 have rG:t.n.s.length<=1099511627776:=by rw [Go.Im.qY] at hw;omega
 have Pn:(cr (hY t.kids)).length<=1099511627776:=by
  have D:=Go.Im.Co (hY t.kids)
  have X:((hY t.kids).map fun y=>y.length+2).sum<=iK t.kids:=by
   have:∀ (l:List T),tK l->((hY l).map fun y=>y.length+2).sum<=iK l:=by
    intro l
    induction l with
    | nil=>intro _;simp [hY]
    | cons a l ih2 =>
     intro h;rw [tK] at h;have D:=Go.Im.yg _ a (aH _) h.1;have X:=ih2 h.2;rw [hY,iK,List.map_cons,sum_cons];omega
   exact this _ hn.2
  rw [Go.Im.qY] at hw;omega
 have Gy:=Gy Pn;clear Pn;unfold uT;generalize qS:t.n.kind=kd at *
 by_cases D:kd=1
 ·subst D
  have dH:((1:Int)==1)=true:=by decide
  rw [ae rfl];refine ai func80 ntmps80 ?_;refine V [] Ud ?_;exact al
 rw [ab D] at hlen |-
 have g1:(kd==1)=false:=by simpa using D
 by_cases h3:kd=3
 ·subst h3
  have dH:((3:Int)==1)=false:=by decide
  have sT:((3:Int)==3)=true:=by decide
  rw [ae rfl] at hlen |-;obtain ⟨a,ha⟩:=hkc (.inl rfl);rw [ha] at jN hlen |-;obtain ⟨c1,c2⟩:=jN a (List.mem_singleton.2 rfl)
  have hr:(c6 [a])[0]?=some [uT a]:=by rw [mF];rfl
  simp only [hY,getD_cons_zero] at hlen |-;generalize c6 [a]=rows at *;generalize dG a=x at *;refine ai func80 ntmps80 ?_;refine aM (ay 0 12 (.a 12 (ay 13 3 .nil))) ?_;refine ak ?_;refine aB [] c1 ?_;exact aw
 rw [ab h3] at hlen |-
 have g3:(kd==3)=false:=by simpa using h3
 by_cases h4:kd=4
 ·subst h4
  have dH:((4:Int)==1)=false:=by decide
  have sT:((4:Int)==3)=false:=by decide
  have f4:((4:Int)==4)=true:=by decide
  rw [ae rfl] at hlen |-;generalize c6 t.kids=rows at *;generalize cr (hY t.kids)=x at *;simp only [aO,length_cons,length_nil] at hlen;refine ai func80 ntmps80 ?_;refine aM (ay 0 10 (.a 10 (ay 11 3 .nil))) ?_;refine ak ?_;refine aB [] Gy ?_;exact aw
 rw [ab h4] at hlen |-
 have g4:(kd==4)=false:=by simpa using h4
 by_cases h5:kd=5
 ·subst h5
  have dH:((5:Int)==1)=false:=by decide
  have sT:((5:Int)==3)=false:=by decide
  have f4:((5:Int)==4)=false:=by decide
  have f5:((5:Int)==5)=true:=by decide
  rw [ae rfl] at hlen |-;obtain ⟨a,ha⟩:=hkc (.inr rfl);rw [ha] at jN hlen |-;obtain ⟨c1,c2⟩:=jN a (List.mem_singleton.2 rfl)
  have hr:(c6 [a])[0]?=some [uT a]:=by rw [mF];rfl
  simp only [hY,getD_cons_zero] at hlen |-;have Xr:=wZ a (a.n.kind==6) (dG a) c2 c1;have kE:=Go.Im.AN (a.n.kind==6) (dG a);generalize c6 [a]=rows at *;generalize hxx:xq (a.n.kind==6) (dG a)=x at *;refine ai func80 ntmps80 ?_;refine aM (ay 0 23 (.a 23 (.q 24 (.q 25 .nil)))) ?_;refine ak ?_;refine aB [] Xr ?_;exact aw
 rw [ab h5] at hlen |-
 have g5:(kd==5)=false:=by simpa using h5
 by_cases h6:kd=6
 ·subst h6
  have dH:((6:Int)==1)=false:=by decide
  have sT:((6:Int)==3)=false:=by decide
  have f4:((6:Int)==4)=false:=by decide
  have f5:((6:Int)==5)=false:=by decide
  have f6:((6:Int)==6)=true:=by decide
  rw [ae rfl] at hlen |-;obtain ⟨a,b,ha⟩:=abr rfl;rw [ha] at jN hlen |-;obtain ⟨c1,c2⟩:=jN a (List.mem_cons_self);obtain ⟨d1,d2⟩:=jN b (dm _ List.mem_cons_self)
  have hr:(c6 [a,b])[0]?=some [uT a]:=by rw [mF];rfl
  have lz:(c6 [a,b])[1]?=some [uT b]:=by rw [mF];rfl
  simp only [hY,getD_cons_zero,getD_cons_succ] at hlen |-
  have aco : -1<=ui t.n.s/\ui t.n.s<=9:=by
   unfold ui
   cases hf:levels.findIdx? (fun l=>l.contains t.n.s) with
   | none=>simp
   | some i =>
    rw [List.findIdx?_eq_some_iff_getElem] at hf;have:=hf.1
    have h9:levels.length=9:=by decide
    exact zcZ
  generalize ui t.n.s=lv at *;have jI:=P3 a lv;have mw:=P3 b (lv+1);have Xr:=wZ a (ow a lv) (dG a) c2 c1;have abd:=wZ b (ow b (lv+1)) (dG b) d2 d1;generalize c6 [a,b]=rows at *;generalize hxx:xq (ow a lv) (dG a)=x at *;generalize hyy:xq (ow b (lv+1)) (dG b)=y at *;simp only [aO,length_cons,length_nil] at hlen;refine ai func80 ntmps80 ?_;refine V [] KN ?_;refine aM (ay 0 14 (ay 17 5 (ay 24 15 (.a 14 (.a 15 (.q 16 (.q 22 (.q 23 (.a 39 (.a 40 (.q 41 (.q 42 .nil)))))))))))) ?_;refine ak ?_;refine AH [] jI ?_;refine ak ?_;refine aB [] Xr ?_;refine AH [] mw ?_;refine ak ?_;refine aB [] abd ?_;exact aw
 rw [ab h6]
 have g6:(kd==6)=false:=by simpa using h6
 refine ai func80 ntmps80 ?_;exact al
end Go.Xg
set_option maxHeartbeats 2000000
namespace Go.Xg
open Go.RowKit Go.Xw Go.Proofs Tryz Go.Im
open GV (U)
open Go.Xp (T)
attribute [local irreducible] GW GL GO YG GC GA bg bj
abbrev kp (f:FuncId):Value:=.func (.func f) #[] #[]
theorem Sa (l:List ah) (d:Nat) (hb:(gK l d).length<=1099511627776) (hl:l.length<=1099511627776):GF prog 119 [strs l,.v (ii (d:Nat))] [] (.v (sv (gK l d))) []:=by
 have dK:(l.map fun s=>[GV.v (sv s)]).length=l.length:=by simp
 have xB:=vg l [123,32];unfold gK at hb |-;rw [aO,xB] at hb;refine ai func119 ntmps119 ?_;refine GW.range (l.map fun s=>[GV.v (sv s)]).length (fun k fr Γ=>fr=[strs l,U,U,U,U,.v (sv (uv [123,32] (l.take k))),U,U,strs l,.v (ii ((l.map fun s=>[GV.v (sv s)]).length:Int)),.v (ii (k:Nat)),U,U,U,U,U,U,U,U,U,U]/\Γ=[]) ?_ G ?_ ?_ ?_
 ·exact jP
 ·rintro k _ _ ⟨rfl,rfl⟩;exact ea
 ·rintro k _ _ au ⟨rfl,rfl⟩;rw [dK] at au
  have cS:l[k]?=some l[k]:=by simp [au]
  have vr:(l.map fun s=>[GV.v (sv s)])[k]?=some [.v (sv l[k])]:=by rw [bp,cS];rfl
  have D:=vg (l.take (k+1)) [123,32];have X:=QF l (k+1)
  have hz:mA (l.take (k+1))=mA (l.take k)+(l[k].length+1):=by rw [dh,cS,IQ];simp [mA]
  have h3:=vg (l.take k) [123,32];rw [show l.take (k+1)=l.take k++[l[k]] by rw [dh,cS];rfl,Od] at |-;generalize l[k]=z at *;generalize uv [123,32] (l.take k)=acc at *;simp only [length_cons,length_nil] at h3 hb
  have Mx:acc.length+z.length+3<=1099511627777:=by omega
  refine I ?_;exact zaU
 ·rintro _ _ ⟨rfl,rfl⟩;rw [dK,di];generalize uv [123,32] l=acc at *;simp only [aO,length_cons,length_nil] at xB hb;exact aw
theorem Z3 (ex bk:FuncId) [hf:aP prog ex] (tx:T->ah) (t a:T) (k:Nat) (hk:t.kids[k]?=some a) (h:GF prog ex [uT a] [] (.v (sv (tx a))) []) :
  GF prog 262 [.v (ii (k:Nat)),.box [.v (kp ex),.v (kp bk)] 0,.box [uT t] 0] [] (.v (sv (tx a))) []:=by
 have hr:=xZ hk;generalize tx a=x at *;refine ai func262 ntmps262 ?_;refine aM (ay 0 9 (.a 9 (.q 10 .nil))) ?_;refine ak ?_;refine AH [] h ?_;exact zbJ
open Go.Xp (bc aD)
structure Wr (ex bk:FuncId) (tx:T->ah) (inl:List ah->Nat->ah):Prop where
 expr:∀ a,ji a=true->tg a->my a<=1099511627776->GF prog ex [uT a] [] (.v (sv (tx a))) []
 block:∀ l (d:Nat),(inl l d).length<=1099511627776->l.length<=1099511627776->d<=1099511627776->GF prog bk [strs l,.v (ii (d:Nat))] [] (.v (sv (inl l d))) []
 mem:∀ l d s,s∈l->s.length<=(inl l d).length
theorem Bv (ex bk:FuncId) [he:aP prog ex] [hb:aP prog bk] (tx:T->ah) (inl:List ah->Nat->ah) (W:Wr ex bk tx inl) (t:T) (d:Nat) (hd:d+1<=1099511627776) (hl:t.kids.length<=1099511627776) (hlen:(py tx inl d t).length<=1099511627776)
  (h:∀ a∈t.kids,(mb tx inl (d+1) a).length<=1099511627776->GF prog 208 [.agg [.v (kp ex),.v (kp bk)],uT a,.v (ii ((d+1:Nat):Int))] [] (.v (sv (mb tx inl (d+1) a))) []) :
  GF prog 148 [.agg [.v (kp ex),.v (kp bk)],uT t,.v (ii (d:Nat))] [] (.v (sv (py tx inl d t))) []:=by
 have nz:=tA t.kids;rw [N5,LI] at hlen |-;have eQ:=W.block (t.kids.map (mb tx inl (d+1))) d hlen zfz G
 have hk:∀ a∈t.kids,GF prog 208 [.agg [.v (kp ex),.v (kp bk)],uT a,.v (ii ((d+1:Nat):Int))] [] (.v (sv (mb tx inl (d+1) a))) []:=fun a ha =>
  h a ha (jg (W.mem _ d _ (wW.2 ⟨a,ha,rfl⟩)) hlen)
 generalize inl (t.kids.map (mb tx inl (d+1))) d=y at *;refine ai func148 ntmps148 ?_;refine GW.wk (Wk.EA (t:=7) (a:=none) (c:=0) 9 1 rfl) ?_;refine GW.range (c6 t.kids).length (fun k fr Γ=>∃ m rows,fr=[U,U,.v (ii (d:Nat)),.loc 0 0,U,U,U,.vec 1 m,U,U,U,U,U,.sl 1 (c6 t.kids),.v (ii ((c6 t.kids).length:Int)),.v (ii (k:Nat)),U,U,U,U,U,U,U,U,U,U,U,U,U,U,U,U,U]/\Γ=[.box 138 [.v (kp ex),.v (kp bk)],.vec 9 1 0 rows]/\rows.length=m/\rows=((t.kids.take k).map (mb tx inl (d+1))).map (fun s=>[GV.v (sv s)])/\m=k) ?_ G ?_ ?_ ?_
 ·exact ⟨_,_,Wk.aJ ar,0,[],rfl,rfl,rfl,rfl,rfl⟩
 ·rintro k _ _ ⟨m,rows,rfl,rfl,_⟩;exact ea
 ·rintro k _ _ au ⟨m,rows,rfl,rfl,hm,bx,vt⟩;rw [nz] at au
  have cS:t.kids[k]?=some t.kids[k]:=by simp [au]
  have hr:=xZ cS;have ht:=hk t.kids[k] (getElem_mem au)
  have bL:((t.kids.take (k+1)).map (mb tx inl (d+1))).map (fun s=>[GV.v (sv s)])=rows++[[.v (sv (mb tx inl (d+1) t.kids[k]))]]:=by rw [dh,cS,bx,mo,mo];rfl
  generalize t.kids[k]=kid at *;generalize mb tx inl (d+1) kid=z at *;refine I ?_;refine V [] ht ?_;exact zdc
 ·rintro _ _ ⟨m,rows,rfl,rfl,hm,bx,vt⟩;rw [nz,di] at bx;refine bh ?_;refine GW.wk (Wk.lr (t:=7) rfl rfl rfl hm) ?_;subst bx;refine I ?_;refine kl [] eQ ?_;exact aw
theorem ZQ {t:T} {n:Nat} (h:dS t.n.kind t.kids.length=true) (hk:(n=1/\(t.n.kind=13\/t.n.kind=7\/t.n.kind=11\/t.n.kind=12))\/(n=2/\(t.n.kind=8\/t.n.kind=10))):t.kids.length=n:=by
 unfold dS at h
 rcases hk with ⟨rfl,hk⟩ | ⟨rfl,hk⟩
 ·rcases hk with hk | hk | hk | hk <;> rw [hk] at h <;> simp at h <;> omega
 ·exact zeO
theorem Yd {t:T} (h:dS t.n.kind t.kids.length=true) (hk:t.n.kind=9):t.kids.length=2\/t.kids.length=3:=by
 unfold dS at h;rw [hk] at h;simp at h;omega
theorem JV (ex bk:FuncId) [he:aP prog ex] [hb:aP prog bk] (tx:T->ah) (inl:List ah->Nat->ah) (W:Wr ex bk tx inl):∀ (N:Nat) (t:T),bc t<=N->ji t=true->tg t->my t<=1099511627776->∀ d,d+bc t<=1099511627776->(mb tx inl d t).length<=1099511627776 ->
  GF prog 208 [.agg [.v (kp ex),.v (kp bk)],uT t,.v (ii (d:Nat))] [] (.v (sv (mb tx inl d t))) []:=by
 intro N
 induction N with
 | zero=>intro t h;rw [Go.Xp.fa] at h;omega
 | succ N ih =>
 intro t hN hk hn hw d hd hlen;have gi:=W.expr t hk hn hw;rw [Go.Xp.fa] at hN hd;rw [Go.Im.Am,aI,Go.Im.vG,gP] at hk;rw [Go.Im.th] at hn;have hwe:=Go.Im.qY t
 have MG:∀ (l:List T) (a:T),a∈l->bc a<=aD l:=by
  intro l
  induction l with
  | nil=>intro a h;cases h
  | cons b l ih2 =>
   intro a h;rw [aD]
   rcases eF h with rfl | h
   ·omega
   ·have:=ih2 a h;omega
 have iF:=fun (k:Nat) (a:T) (ny:t.kids[k]?=some a)=>Z3 ex bk tx t a k ny (W.expr a (hk.2 a (br ny)) (Go.Im.lJ hn.2 (br ny)) (by have:=Go.Im.v7 (br ny);omega))
 have eQ:∀ a∈t.kids,(py tx inl d a).length<=1099511627776->GF prog 148 [.agg [.v (kp ex),.v (kp bk)],uT a,.v (ii (d:Nat))] [] (.v (sv (py tx inl d a))) []:=fun a ha xE=>by
  have D:=MG _ a ha;have X:=Go.Im.v7 ha;have h3:=hk.2 a ha;have h4:=Go.Im.lJ hn.2 ha;rw [Go.Im.Am,aI,Go.Im.vG,gP] at h3;rw [Go.Im.th] at h4;have h5:=Go.Xp.fa a;have h6:=Go.Xp.iu a.kids;have h7:=Go.Im.qY a
  refine Bv ex bk tx inl W a d G G xE fun b ej hlb=>?_
  have h8:=MG _ b ej;have h9:=Go.Im.v7 ej;exact ih b G (h3.2 b ej) (Go.Im.lJ h4.2 ej) G (d+1) G hlb
 rw [QC] at hlen |-;unfold zy at hlen |-;rw [J6] at hlen |-;have uD:=@ZQ t;have abt:=@Yd t hk.1
 have uD:=fun n=>@uD n hk.1
 unfold uT at gi |-;unfold uT at iF;generalize qS:t.n.kind=kd at *
 by_cases fH:kd=13
 ·subst fH
  have f13:((13:Int)==13)=true:=by decide
  rw [ae rfl] at hlen |-;have jI:=uD 1 (.inl ⟨rfl,.inl rfl⟩)
  obtain ⟨a,ha⟩:∃ a,t.kids=[a]:=by
   match hl:t.kids,jI with
   | [a],_=>exact ⟨a,rfl⟩
  have h0:=iF 0 a zf1;rw [ha] at hlen |-;rw [ha] at h0;simp only [List.map_cons,map_nil,getD_cons_zero,aO,length_cons,length_nil] at hlen |-;generalize tx a=x at *;generalize c6 [a]=rows at *;refine ei func208 ntmps208 ?_;refine zaa ?_;refine aM (ay 0 8 (.a 8 (ay 9 3 .nil))) ?_;refine ak ?_;refine kP [] h0 ?_;exact zbJ
 rw [ab fH] at hlen |-
 have g13:(kd==13)=false:=by simpa using fH
 by_cases h7:kd=7
 ·subst h7
  have f13:((7:Int)==13)=false:=by decide
  have f7:((7:Int)==7)=true:=by decide
  rw [ae rfl] at hlen |-;have jI:=uD 1 (.inl ⟨rfl,.inr (.inl rfl)⟩)
  obtain ⟨a,ha⟩:∃ a,t.kids=[a]:=by
   match hl:t.kids,jI with
   | [a],_=>exact ⟨a,rfl⟩
  have h0:=iF 0 a zf1;rw [ha] at hlen |-;rw [ha] at h0;simp only [List.map_cons,map_nil,getD_cons_zero,aO,length_cons,length_nil] at hlen |-;generalize tx a=x at *;generalize c6 [a]=rows at *;refine ei func208 ntmps208 ?_;refine zaa ?_;refine aM (ay 0 7 (.a 7 (ay 8 3 .nil))) ?_;refine ak ?_;refine kP [] h0 ?_;exact zbJ
 rw [ab h7] at hlen |-
 have g7:(kd==7)=false:=by simpa using h7
 by_cases h8:kd=8
 ·subst h8
  have f13:((8:Int)==13)=false:=by decide
  have f7:((8:Int)==7)=false:=by decide
  have f8:((8:Int)==8)=true:=by decide
  rw [ae rfl] at hlen |-;have jI:=uD 2 (.inr ⟨rfl,.inl rfl⟩)
  obtain ⟨a,b,ha⟩:∃ a b,t.kids=[a,b]:=by
   match hl:t.kids,jI with
   | [a,b],_=>exact ⟨a,b,rfl⟩
  have h0:=iF 0 a zf1;have D:=iF 1 b zf1;rw [ha] at hlen |-;rw [ha] at h0 D;simp only [List.map_cons,map_nil,getD_cons_zero,getD_cons_succ,aO,length_cons,length_nil] at hlen |-;generalize tx a=x at *;generalize tx b=y at *;generalize c6 [a,b]=rows at *;refine ei func208 ntmps208 ?_;refine zaa ?_;refine aM (ay 0 7 (.q 10 (.a 7 (.q 8 (.q 9 (.a 11 (ay 12 3 .nil))))))) ?_;refine ak ?_;refine kP [] h0 ?_;refine ak ?_;refine kP [] D ?_;exact zbJ
 rw [ab h8] at hlen |-
 have g8:(kd==8)=false:=by simpa using h8
 by_cases h9:kd=9
 ·subst h9
  have f13:((9:Int)==13)=false:=by decide
  have f7:((9:Int)==7)=false:=by decide
  have f8:((9:Int)==8)=false:=by decide
  have f9:((9:Int)==9)=true:=by decide
  rw [ae rfl] at hlen |-
  rcases abt rfl with jI | jI
  ·skip
   obtain ⟨a,b,ha⟩:∃ a b,t.kids=[a,b]:=by
    match hl:t.kids,jI with
    | [a,b],_=>exact ⟨a,b,rfl⟩
   have h0:=iF 0 a zf1
   have lz:(c6 [a,b])[1]?=some [uT b]:=by rw [mF];rfl
   have HJ:(c6 [a,b]).length=2:=by rw [tA];rfl
   have xI:(((c6 [a,b]).length:Int)==3)=false:=by rw [HJ];decide
   rw [ha] at hlen |-;rw [ha] at h0;rw [ab zfu] at hlen |-;exact zao
  ·skip
   obtain ⟨a,b,c,ha⟩:∃ a b c,t.kids=[a,b,c]:=by
    match hl:t.kids,jI with
    | [a,b,c],_=>exact ⟨a,b,c,rfl⟩
   have h0:=iF 0 a zf1
   have lz:(c6 [a,b,c])[1]?=some [uT b]:=by rw [mF];rfl
   have et:(c6 [a,b,c])[2]?=some [uT c]:=by rw [mF];rfl
   have HJ:(c6 [a,b,c]).length=3:=by rw [tA];rfl
   have xI:(((c6 [a,b,c]).length:Int)==3)=true:=by rw [HJ];decide
   rw [ha] at hlen |-;rw [ha] at h0;rw [ae zfu] at hlen |-;simp only [List.map_cons,map_nil,getD_cons_zero,getD_cons_succ,aO,length_cons,length_nil] at hlen |-;have ub:=eQ b (by rw [ha];simp) G;have ej:=eQ c (by rw [ha];simp) G;generalize tx a=x at *;generalize py tx inl d b=y at *;generalize py tx inl d c=z at *;clear eQ iF ih;generalize c6 [a,b,c]=rows at *;refine ei func208 ntmps208 ?_;refine zaa ?_;refine aM (.q 0 (ay 4 8 (.a 1 (.q 2 (.q 3 (.a 12 (.q 13 (.q 14 .nil)))))))) ?_;refine ak ?_;refine kP [] h0 ?_;refine ak ?_;refine aB [] ub ?_;refine I ?_;refine aM (ay 0 9 (.a 9 (ay 10 3 .nil))) ?_;refine ak ?_;refine aB [] ej ?_;exact aw
 rw [ab h9] at hlen |-
 have g9:(kd==9)=false:=by simpa using h9
 by_cases oO:kd=10
 ·subst oO
  have f13:((10:Int)==13)=false:=by decide
  have f7:((10:Int)==7)=false:=by decide
  have f8:((10:Int)==8)=false:=by decide
  have f9:((10:Int)==9)=false:=by decide
  have f10:((10:Int)==10)=true:=by decide
  rw [ae rfl] at hlen |-;have jI:=uD 2 (.inr ⟨rfl,.inr rfl⟩)
  ·skip
   obtain ⟨a,b,ha⟩:∃ a b,t.kids=[a,b]:=by
    match hl:t.kids,jI with
    | [a,b],_=>exact ⟨a,b,rfl⟩
   have h0:=iF 0 a zf1
   have lz:(c6 [a,b])[1]?=some [uT b]:=by rw [mF];rfl
   have HJ:(c6 [a,b]).length=2:=by rw [tA];rfl
   have xI:(((c6 [a,b]).length:Int)==3)=false:=by rw [HJ];decide
   rw [ha] at hlen |-;rw [ha] at h0;exact zao
 rw [ab oO] at hlen |-
 have g10:(kd==10)=false:=by simpa using oO
 by_cases qP:kd=11
 ·subst qP
  have f13:((11:Int)==13)=false:=by decide
  have f7:((11:Int)==7)=false:=by decide
  have f8:((11:Int)==8)=false:=by decide
  have f9:((11:Int)==9)=false:=by decide
  have f10:((11:Int)==10)=false:=by decide
  have f11:((11:Int)==11)=true:=by decide
  rw [ae rfl] at hlen |-;have jI:=uD 1 (.inl ⟨rfl,.inr (.inr (.inl rfl))⟩)
  obtain ⟨a,ha⟩:∃ a,t.kids=[a]:=by
   match hl:t.kids,jI with
   | [a],_=>exact ⟨a,rfl⟩
  exact zaI
 rw [ab qP] at hlen |-
 have g11:(kd==11)=false:=by simpa using qP
 by_cases nN:kd=12
 ·subst nN
  have f13:((12:Int)==13)=false:=by decide
  have f7:((12:Int)==7)=false:=by decide
  have f8:((12:Int)==8)=false:=by decide
  have f9:((12:Int)==9)=false:=by decide
  have f10:((12:Int)==10)=false:=by decide
  have f11:((12:Int)==11)=false:=by decide
  have f12:((12:Int)==12)=true:=by decide
  rw [ae rfl] at hlen |-;have jI:=uD 1 (.inl ⟨rfl,.inr (.inr (.inr rfl))⟩)
  obtain ⟨a,ha⟩:∃ a,t.kids=[a]:=by
   match hl:t.kids,jI with
   | [a],_=>exact ⟨a,rfl⟩
  exact zaI
 rw [ab nN] at hlen |-
 have g12:(kd==12)=false:=by simpa using nN
 clear eQ iF ih;generalize tx t=x at *;refine ei func208 ntmps208 ?_;refine zaa ?_;refine kl [] gi ?_;exact aw
open Go.Xp (cr)
open Go.Sp (Src)
theorem St (ex bk:FuncId) [he:aP prog ex] [hb:aP prog bk] (tx:T->ah) (inl:List ah->Nat->ah) (W:Wr ex bk tx inl) (p:Src) (trees:List T) (hlen:(po tx inl p trees).length<=1099511627776) (TW:p.fns.length=trees.length)
  (hg:p.globals.length<=1099511627776) (ha:p.arrays.length<=1099511627776) (hf:p.fns.length<=1099511627776) (kq:∀ a∈p.arrays,-9223372036854775808<=a.size/\a.size<=9223372036854775807) (FK:∀ f∈p.fns,f.params.length<=1099511627776)
  (ht:∀ t∈trees,ji t=true/\tg t/\my t<=1099511627776/\bc t+1<=1099511627776) :
  GF prog 88 [.agg (av p),.sl 1 (c6 trees),.v (kp ex),.v (kp bk)] [] (.v (sv (po tx inl p trees))) []:=by
 have hmg:(p.globals.map fun s=>[GV.v (sv s)]).length=p.globals.length:=by simp
 have mN:(p.arrays.map bb).length=p.arrays.length:=by simp
 have Ua:(p.fns.map ax).length=p.fns.length:=by simp
 have l2:=D9 (dH tx inl) (p.fns.zip trees) (dV a1 (dV g1 [] p.globals) p.arrays);have l1:=D9 a1 p.arrays (dV g1 [] p.globals);unfold po at hlen |-;refine ai func88 ntmps88 ?_;refine GW.wk (Wk.EA (t:=9) (a:=none) (c:=0) 5 1 rfl) ?_;refine GW.range (p.globals.map fun s=>[GV.v (sv s)]).length (fun k fr Γ=>∃ acc m rows,fr=[U,.sl 1 (c6 trees),.v (kp ex),.v (kp bk),.loc 0 0,U,U,U,U,.vec 1 m,U,U,U,U,U,U,U,U,strs p.globals,.v (ii ((p.globals.map fun s=>[GV.v (sv s)]).length:Int)),.v (ii (k:Nat)),U,U,U,U,U,U,U,U,U,U,U,U,U,U,U,U,U,U,U,U,U,U,U,U,U,U,U,U,U,U,U,U,U,U,U,U,U,U,U,U,U,U,U,U,U,U,U,U,U,U,U,U,U,U,U,U,U,U,U,U,U]/\Γ=[.box 28 (av p),.vec 5 1 0 rows]/\rows.length=m/\rows=bS acc/\acc=dV g1 [] (p.globals.take k)) ?_ G ?_ ?_ ?_
 ·exact ⟨_,_,Wk.aJ ar,[],0,[],rfl,rfl,rfl,rfl,rfl⟩
 ·rintro k _ _ ⟨acc,m,rows,rfl,rfl,_⟩;exact ea
 ·rintro k _ _ au ⟨acc,m,rows,rfl,rfl,hm,bx,lF⟩;rw [hmg] at au
  have cS:p.globals[k]?=some p.globals[k]:=by simp [au]
  have vr:(p.globals.map fun s=>[GV.v (sv s)])[k]?=some [.v (sv p.globals[k])]:=by rw [bp,cS];rfl
  have bL:dV g1 [] (p.globals.take (k+1))=acc++g1 p.globals[k]:=by rw [dh,cS,lF];exact zF g1 _ _ _
  have hle:=zG g1 p.globals (k+1) [];rw [bL,aO] at hle
  have hmr:rows.length=acc.length:=by rw [bx];simp [bS]
  generalize p.globals[k]=z at *
  have hz:(g1 z).length=z.length+6:=by unfold g1;simp
  refine I ?_;refine GL.D1 (str:=g1 z) rfl rfl rfl az rfl G ?_;refine za2 ?_;exact ⟨rfl,rfl,_,_,Wk.aJ ar,acc++g1 z,_,_,rfl,rfl,by rw [aO,hm];simp [bS],by rw [bx];exact (wg acc (g1 z)).symm,bL.symm⟩
 ·rintro _ _ ⟨acc,m,rows,rfl,rfl,hm,bx,lF⟩;rw [hmg,di] at lF;rw [<-lF] at hlen l1 l2 |-;refine bh ?_;refine I ?_;refine GW.range (p.arrays.map bb).length (fun k fr Γ=>∃ sO m rows,fr=[U,.sl 1 (c6 trees),.v (kp ex),.v (kp bk),.loc 0 0,U,U,U,U,.vec 1 m,U,U,U,U,U,U,U,U,U,U,U,U,U,U,U,U,U,U,U,U,U,.sl 2 (p.arrays.map bb),.v (ii ((p.arrays.map bb).length:Int)),.v (ii (k:Nat)),U,U,U,U,U,U,U,U,U,U,U,U,U,U,U,U,U,U,U,U,U,U,U,U,U,U,U,U,U,U,U,U,U,U,U,U,U,U,U,U,U,U,U,U,U,U,U,U]/\Γ=[.box 28 (av p),.vec 5 1 0 rows]/\rows.length=m/\rows=bS sO/\sO=dV a1 acc (p.arrays.take k)) ?_ G ?_ ?_ ?_
  ·exact ⟨_,_,Wk.aJ ar,acc,m,rows,rfl,rfl,hm,bx,rfl⟩
  ·rintro k _ _ ⟨sO,m,rows,rfl,rfl,_⟩;exact ea
  ·clear hm bx;rintro k _ _ au ⟨sO,m,rows,rfl,rfl,hm,bx,Gv⟩;rw [mN] at au
   have cS:p.arrays[k]?=some p.arrays[k]:=by simp [au]
   have vr:(p.arrays.map bb)[k]?=some (bb p.arrays[k]):=by rw [bp,cS];rfl
   have bL:dV a1 acc (p.arrays.take (k+1))=sO++a1 p.arrays[k]:=by rw [dh,cS,Gv];exact zF a1 _ _ _
   have hle:=zG a1 p.arrays (k+1) acc;rw [bL,aO] at hle
   have hmr:rows.length=sO.length:=by rw [bx];simp [bS]
   have Ai:=kq p.arrays[k] (getElem_mem au);generalize p.arrays[k]=z at *;have hit:=NP z.size Ai.1 Ai.2;have uC:=Al Ai
   have hz:(a1 z).length=z.name.length+(rb z.size).length+8:=by unfold a1;simp;omega
   unfold bb at vr;refine I ?_;refine aM (ay 0 7 (.a 7 (.q 8 (.q 9 (.a 10 (.q 11 .nil)))))) ?_;refine ak ?_;refine aB [] hit ?_;refine OA rfl rfl (GL.D1 (str:=a1 z) rfl rfl rfl az rfl G (GL.nil (bh (dJ.mk zfs ?_))))
   refine QS ?_;refine bq ?_;exact ⟨rfl,rfl,_,_,(Wk.cut (n:=2) (aX _) rfl).trans (Wk.aJ ar),sO++a1 z,_,_,rfl,rfl,by rw [aO,hm];simp [bS],by rw [bx];exact (wg sO (a1 z)).symm,bL.symm⟩
  ·clear hm bx;rintro _ _ ⟨sO,m,rows,rfl,rfl,hm,bx,Gv⟩;rw [mN,di] at Gv;rw [<-Gv] at hlen l2 |-
   have Af:∀ (k:Nat) (f:Go.Sp.Fn),p.fns[k]?=some f->f.params.length<=1099511627776:=fun k f h=>FK f (br h)
   refine bh ?_;refine I ?_;refine GW.range (p.fns.map ax).length (fun k fr Γ=>∃ wX m rows,fr=[U,.sl 1 (c6 trees),U,U,U,U,U,U,U,.vec 1 m,U,U,U,U,.loc 2 0,U,U,U,U,U,U,U,U,U,U,U,U,U,U,U,U,U,U,U,U,U,U,U,U,U,U,U,U,U,U,U,U,U,U,U,U,U,U,.sl 3 (p.fns.map ax),.v (ii ((p.fns.map ax).length:Int)),.v (ii (k:Nat)),U,U,U,U,U,U,U,U,U,U,U,U,U,U,U,U,U,U,U,U,U,U,U,U,U,U]/\Γ=[.box 28 (av p),.vec 5 1 0 rows,.box 138 [.v (kp ex),.v (kp bk)]]/\rows.length=m/\rows=bS wX/\wX=dV (dH tx inl) sO ((p.fns.zip trees).take k)) ?_ G ?_ ?_ ?_
   ·exact ⟨_,_,Wk.aJ ar,sO,m,rows,rfl,rfl,hm,bx,rfl⟩
   ·rintro k _ _ ⟨wX,m,rows,rfl,rfl,_⟩;exact ea
   ·clear hm bx;rintro k _ _ au ⟨wX,m,rows,rfl,rfl,hm,bx,Gw⟩;rw [Ua] at au
    have kH:k < trees.length:=by omega
    have cS:p.fns[k]?=some p.fns[k]:=by simp [au]
    have zq:trees[k]?=some trees[k]:=by simp [kH]
    have vr:(p.fns.map ax)[k]?=some (ax p.fns[k]):=by rw [bp,cS];rfl
    have aci:=xZ zq
    have hkz:(p.fns.zip trees)[k]?=some (p.fns[k],trees[k]):=by rw [List.getElem?_zip_eq_some];exact ⟨cS,zq⟩
    have bL:dV (dH tx inl) sO ((p.fns.zip trees).take (k+1))=wX++dH tx inl (p.fns[k],trees[k]):=by rw [dh,hkz,Gw];exact zF (dH tx inl) _ _ _
    have hle:=zG (dH tx inl) (p.fns.zip trees) (k+1) sO;rw [bL,aO] at hle
    have hmr:rows.length=wX.length:=by rw [bx];simp [bS]
    obtain ⟨q1,q2,q3,q4⟩:=ht trees[k] (getElem_mem kH);have hpk:=Af k _ cS;generalize p.fns[k]=f at *;generalize trees[k]=t at *
    have hz:(dH tx inl (f,t)).length=f.name.length+(cr f.params).length+(py tx inl 0 t).length+9:=by unfold dH;simp;omega
    have hJ:=NQ f.params G hpk
    have MG:∀ (l:List T) (a:T),a∈l->bc a<=aD l:=by
     intro l
     induction l with
     | nil=>intro a h;cases h
     | cons b l ih2 =>
      intro a h;rw [aD]
      rcases eF h with rfl | h
      ·omega
      ·have:=ih2 a h;omega
    have hB:=Bv ex bk tx inl W t 0 G (by have:=Go.Xp.iu t.kids;have:=Go.Xp.fa t;omega) G fun a Pb xE=>by
     have D:=MG _ a Pb;have X:=Go.Xp.fa t;have h3:=v7 Pb;have h4:=qY t;rw [Am,aI,vG,gP] at q1;rw [th] at q2;exact JV ex bk tx inl W _ a (aH _) (q1.2 a Pb) (lJ q2.2 Pb) G (0+1) G xE
    unfold ax at vr;refine I ?_;refine aM (ay 0 7 (ay 10 5 (.a 7 (.q 8 (.q 9 (.a 15 (.q 16 (.q 17 (.a 18 (.q 19 .nil)))))))))) ?_;refine ak ?_;refine aB [] hJ ?_;refine aB [] hB ?_;refine OA rfl rfl (GL.D1 (str:=dH tx inl (f,t)) rfl rfl rfl az rfl G (GL.nil (bh (dJ.mk zfs ?_))))
    refine QS ?_;refine bq ?_;exact ⟨rfl,rfl,_,_,(Wk.cut (n:=3) (aX _) rfl).trans (Wk.aJ ar),wX++dH tx inl (f,t),_,_,rfl,rfl,by rw [aO,hm];simp [bS],by rw [bx];exact (wg wX _).symm,bL.symm⟩
   ·clear hm bx;rintro _ _ ⟨wX,m,rows,rfl,rfl,hm,bx,Gw⟩;rw [Ua,show (p.fns.zip trees).take p.fns.length=p.fns.zip trees from mn zfS] at Gw;rw [<-Gw] at hlen |-;refine bh ?_;refine GW.wk (Wk.lr (t:=9) rfl rfl rfl hm) ?_
    have ab5:rows=wX.map fun c=>[.v (.int .u8 (c.toNat:Int))]:=bx
    exact aw
end Go.Xg
namespace Go.Xg
open Go.RowKit Go.Xw Go.Proofs Tryz
open GV (U)
open Go.Im (gm tW tX vj oa pN)
attribute [local irreducible] GW GL GO YG GC GA bg bj
theorem JY (a b:List ah) (ha:a.length<=1099511627776) (hb:b.length<=1099511627776):GF prog 121 [strs a,strs b] [] (.v (.bool (gm (fun x y=>x==y) a b))) []:=by
 have mN:(a.map fun s=>[GV.v (sv s)]).length=a.length:=by simp
 have sF:(b.map fun s=>[GV.v (sv s)]).length=b.length:=by simp
 by_cases hl:a.length=b.length
 ·have hd:(((a.map fun s=>[GV.v (sv s)]).length:Int) != ((b.map fun s=>[GV.v (sv s)]).length:Int))=false:=by rw [mN,sF,hl];simp
  refine ai func121 ntmps121 ?_;refine GW.range (a.map fun s=>[GV.v (sv s)]).length (fun k fr Γ=>fr=[strs a,strs b,U,U,U,U,U,U,U,U,U,U,.v (ii ((a.map fun s=>[GV.v (sv s)]).length:Int)),.v (ii (k:Nat)),U,U,U,U,U,U,U,U,U,U,U,U]/\Γ=[]/\vj (fun x y=>x==y) a b k) ?_ G ?_ ?_ ?_
  ·exact zbh
  ·exact gO
  ·rintro k _ _ au ⟨rfl,rfl,fE⟩;rw [mN] at au
   have ny:a[k]?=some a[k]:=by simp [au]
   have sc:k < b.length:=by omega
   have qw:b[k]?=some b[k]:=by simp [sc]
   have HH:(a.map fun s=>[GV.v (sv s)])[k]?=some [GV.v (sv a[k])]:=by rw [bp,ny];rfl
   have HI:(b.map fun s=>[GV.v (sv s)])[k]?=some [GV.v (sv b[k])]:=by rw [bp,qw];rfl
   generalize a[k]=x at *;generalize b[k]=y at *
   cases lZ:(x==y) with
   | true =>
    have hn:(x != y)=false:=by simp only [bne,lZ];rfl
    have bZ:(!(x==y))=false:=by rw [lZ];rfl
    refine zcS ?_;exact zb7
   | false =>
    have hn:(x != y)=true:=by simp only [bne,lZ];rfl
    have bZ:(!(x==y))=true:=by rw [lZ];rfl
    exact ze3
  ·rintro _ _ ⟨rfl,rfl,fE⟩;exact zck
 ·have hd:(((a.map fun s=>[GV.v (sv s)]).length:Int) != ((b.map fun s=>[GV.v (sv s)]).length:Int))=true:=by rw [mN,sF];simpa using by omega
  rw [tW hl];refine ai func121 ntmps121 ?_;exact al
theorem UX (a b:List Int) (ha:a.length<=1099511627776) (hb:b.length<=1099511627776):GF prog 182 [ints a,ints b] [] (.v (.bool (gm (fun x y=>x==y) a b))) []:=by
 have mN:(a.map fun s=>[GV.v (ii s)]).length=a.length:=by simp
 have sF:(b.map fun s=>[GV.v (ii s)]).length=b.length:=by simp
 by_cases hl:a.length=b.length
 ·have hd:(((a.map fun s=>[GV.v (ii s)]).length:Int) != ((b.map fun s=>[GV.v (ii s)]).length:Int))=false:=by rw [mN,sF,hl];simp
  refine ai func182 ntmps182 ?_;refine GW.range (a.map fun s=>[GV.v (ii s)]).length (fun k fr Γ=>fr=[ints a,ints b,U,U,U,U,U,U,U,U,U,U,.v (ii ((a.map fun s=>[GV.v (ii s)]).length:Int)),.v (ii (k:Nat)),U,U,U,U,U,U,U,U,U,U,U,U]/\Γ=[]/\vj (fun x y=>x==y) a b k) ?_ G ?_ ?_ ?_
  ·exact zbh
  ·exact gO
  ·rintro k _ _ au ⟨rfl,rfl,fE⟩;rw [mN] at au
   have ny:a[k]?=some a[k]:=by simp [au]
   have sc:k < b.length:=by omega
   have qw:b[k]?=some b[k]:=by simp [sc]
   have HH:(a.map fun s=>[GV.v (ii s)])[k]?=some [GV.v (ii a[k])]:=by rw [bp,ny];rfl
   have HI:(b.map fun s=>[GV.v (ii s)])[k]?=some [GV.v (ii b[k])]:=by rw [bp,qw];rfl
   generalize a[k]=x at *;generalize b[k]=y at *
   cases lZ:(x==y) with
   | true =>
    have hn:(x != y)=false:=by simp only [bne,lZ];rfl
    have bZ:(!(x==y))=false:=by rw [lZ];rfl
    refine zcS ?_;exact zb7
   | false =>
    have hn:(x != y)=true:=by simp only [bne,lZ];rfl
    have bZ:(!(x==y))=true:=by rw [lZ];rfl
    exact ze3
  ·rintro _ _ ⟨rfl,rfl,fE⟩;exact zck
 ·have hd:(((a.map fun s=>[GV.v (ii s)]).length:Int) != ((b.map fun s=>[GV.v (ii s)]).length:Int))=true:=by rw [mN,sF];simpa using by omega
  rw [tW hl];refine ai func182 ntmps182 ?_;exact al
open Go.Xp (Nd)
open Go.Im (tL mU)
theorem SY (a b:Go.Sp.Fn) (ha:a.params.length<=1099511627776) (hb:b.params.length<=1099511627776):GF prog 124 [.agg (ax a),.agg (ax b)] [] (.v (.bool (tL a b))) []:=by
 have he:=JY a.params b.params ha hb;unfold tL ax
 cases D:(a.name==b.name) with
 | false =>
  refine ai func124 ntmps124 ?_;exact al
 | true =>
  cases X:gm (fun x y=>x==y) a.params b.params with
  | false =>
   exact zec
  | true =>
   exact zec
theorem Nr (a b:Nd) (ha:a.kids.length<=1099511627776) (hb:b.kids.length<=1099511627776):GF prog 126 [.agg (aW a),.agg (aW b)] [] (.v (.bool (mU a b))) []:=by
 have he:=UX a.kids b.kids ha hb;unfold mU aW;generalize gm (fun x y=>x==y) a.kids b.kids=q at *
 cases D:(a.kind==b.kind) with
 | false =>
  exact zeq
 | true =>
  cases X:(a.n==b.n) with
  | false =>
   exact zeq
  | true =>
   cases h3:(a.s==b.s) with
   | false =>
    exact zeq
   | true =>
    refine ai func126 ntmps126 ?_;refine V [] he ?_;exact al
theorem Je (a b:List Go.Sp.Fn) (ha:a.length<=1099511627776) (hb:b.length<=1099511627776) (ka:∀ x∈a,x.params.length<=1099511627776) (kb:∀ x∈b,x.params.length<=1099511627776) :
  GF prog 123 [.sl 3 (a.map ax),.sl 3 (b.map ax),.v (.func (.func 124) #[] #[])] [] (.v (.bool (gm tL a b))) []:=by
 have mN:(a.map ax).length=a.length:=by simp
 have sF:(b.map ax).length=b.length:=by simp
 by_cases hl:a.length=b.length
 ·have hd:(((a.map ax).length:Int) != ((b.map ax).length:Int))=false:=by rw [mN,sF,hl];simp
  refine ai func123 ntmps123 ?_;refine GW.range (a.map ax).length (fun k fr Γ=>fr=[U,.sl 3 (b.map ax),.v (.func (.func 124) #[] #[]),U,U,U,U,U,U,U,U,U,U,U,U,.sl 3 (a.map ax),.v (ii ((a.map ax).length:Int)),.v (ii (k:Nat)),U,U,U,U,U,U,U,U,U,U,U,U,U,U]/\Γ=[]/\vj tL a b k) ?_ G ?_ ?_ ?_
  ·exact zbh
  ·exact gO
  ·rintro k _ _ au ⟨rfl,rfl,fE⟩;rw [mN] at au
   have ny:a[k]?=some a[k]:=by simp [au]
   have sc:k < b.length:=by omega
   have qw:b[k]?=some b[k]:=by simp [sc]
   have HH:(a.map ax)[k]?=some (ax a[k]):=by rw [bp,ny];rfl
   have HI:(b.map ax)[k]?=some (ax b[k]):=by rw [bp,qw];rfl
   have hs:=SY a[k] b[k] (ka _ (getElem_mem au)) (kb _ (getElem_mem sc));generalize a[k]=x at *;generalize b[k]=y at *;unfold ax at HH HI hs
   cases lZ:tL x y with
   | true =>
    exact zbO
   | false =>
    rw [lZ] at hs;rw [tX ny qw (p:=tL) lZ];refine I ?_;refine kl [] hs ?_;exact aw
  ·rintro _ _ ⟨rfl,rfl,fE⟩;exact zck
 ·have hd:(((a.map ax).length:Int) != ((b.map ax).length:Int))=true:=by rw [mN,sF];simpa using by omega
  rw [tW hl];refine ai func123 ntmps123 ?_;exact al
theorem Jf (a b:List Nd) (ha:a.length<=1099511627776) (hb:b.length<=1099511627776) (ka:∀ x∈a,x.kids.length<=1099511627776) (kb:∀ x∈b,x.kids.length<=1099511627776) :
  GF prog 125 [.sl 5 (a.map aW),.sl 5 (b.map aW),.v (.func (.func 126) #[] #[])] [] (.v (.bool (gm mU a b))) []:=by
 have mN:(a.map aW).length=a.length:=by simp
 have sF:(b.map aW).length=b.length:=by simp
 by_cases hl:a.length=b.length
 ·have hd:(((a.map aW).length:Int) != ((b.map aW).length:Int))=false:=by rw [mN,sF,hl];simp
  refine ai func125 ntmps125 ?_;refine GW.range (a.map aW).length (fun k fr Γ=>fr=[U,.sl 5 (b.map aW),.v (.func (.func 126) #[] #[]),U,U,U,U,U,U,U,U,U,U,U,U,.sl 5 (a.map aW),.v (ii ((a.map aW).length:Int)),.v (ii (k:Nat)),U,U,U,U,U,U,U,U,U,U,U,U,U,U]/\Γ=[]/\vj mU a b k) ?_ G ?_ ?_ ?_
  ·exact zbh
  ·exact gO
  ·rintro k _ _ au ⟨rfl,rfl,fE⟩;rw [mN] at au
   have ny:a[k]?=some a[k]:=by simp [au]
   have sc:k < b.length:=by omega
   have qw:b[k]?=some b[k]:=by simp [sc]
   have HH:(a.map aW)[k]?=some (aW a[k]):=by rw [bp,ny];rfl
   have HI:(b.map aW)[k]?=some (aW b[k]):=by rw [bp,qw];rfl
   have hs:=Nr a[k] b[k] (ka _ (getElem_mem au)) (kb _ (getElem_mem sc));generalize a[k]=x at *;generalize b[k]=y at *;unfold aW at HH HI hs
   cases lZ:mU x y with
   | true =>
    exact zbO
   | false =>
    rw [lZ] at hs;rw [tX ny qw (p:=mU) lZ];refine I ?_;refine kl [] hs ?_;exact aw
  ·rintro _ _ ⟨rfl,rfl,fE⟩;exact zck
 ·have hd:(((a.map aW).length:Int) != ((b.map aW).length:Int))=true:=by rw [mN,sF];simpa using by omega
  rw [tW hl];refine ai func125 ntmps125 ?_;exact al
end Go.Xg
namespace Go.Xg
open Go.RowKit Go.Xw Go.Proofs Tryz
open GV (U)
open Go.Xp (Ar)
open Go.Im (Bz gm tW tX vj oa pN)
theorem Zs (w:World) (s s':ah) (n n':Int):(Op.equalIn 10000 98 (.agg #[sv s,ii n]) (.agg #[sv s',ii n'])).run prog w=.ok ((s==s')&&(n==n')) w:=by
 have hf:(prog.fieldsOf 98).toList=[(prog.fieldsOf 98)[0]!,(prog.fieldsOf 98)[1]!]:=by kernel_rfl
 have a0:((prog.fieldsOf 98)[0]!).type=9:=by kernel_rfl
 have a1:((prog.fieldsOf 98)[1]!).type=3:=by kernel_rfl
 have b0:((prog.fieldsOf 98)[0]!).offset=0:=by kernel_rfl
 have b1:((prog.fieldsOf 98)[1]!).offset=1:=by kernel_rfl
 have c0:((prog.fieldsOf 98)[0]!).name = "Name" := by kernel_rfl
 have c1:((prog.fieldsOf 98)[1]!).name = "Size" := by kernel_rfl
 rw [show (10000:Nat)=9999+1 from rfl,run_equalIn_agg w 9999 _ _ _ (by kernel_rfl) (by kernel_rfl),hf];generalize (prog.fieldsOf 98)[0]! = f0 at *;generalize (prog.fieldsOf 98)[1]! = dH at *
 have hs:prog.underlying 9=some .string:=by kernel_rfl
 have hi:prog.underlying 3=some (.int .i64):=by kernel_rfl
 have p0:∀ (a:ah) (b:Int) w,(part f0.type #[sv a,ii b] f0.offset).run prog w=.ok (sv a) w:=fun a b w=>by
  rw [a0,b0];rfl
 have p1:∀ (a:ah) (b:Int) w,(part dH.type #[sv a,ii b] dH.offset).run prog w=.ok (ii b) w:=fun a b w=>by
  rw [a1,b1];rfl
 have e0:∀ w,(Op.equalIn 9999 f0.type (sv s) (sv s')).run prog w=.ok (s==s') w:=fun w=>by
  rw [a0,show (9999:Nat)=9998+1 from rfl];have:=run_equalIn_string (P:=prog) w 9998 9 ⟨s.toArray⟩ ⟨s'.toArray⟩ hs;rw [show sv s=.string ⟨s.toArray⟩ from rfl,show sv s'=.string ⟨s'.toArray⟩ from rfl,this];simp [toList_mk]
 have e1:∀ w,(Op.equalIn 9999 dH.type (ii n) (ii n')).run prog w=.ok (n==n') w:=fun w=>by
  rw [a1,show (9999:Nat)=9998+1 from rfl];exact run_equalIn_int (P:=prog) w 9998 3 .i64 .i64 n n' hi
 have n0:f0.name ≠ "_" := by rw [c0];decide
 have n1:dH.name ≠ "_" := by rw [c1];decide
 rw [Op.eqFields,ae n0];simp only [Sem.run_bind,p0,Result.andThen_ok,e0]
 cases s==s' with
 | false=>simp
 | true =>
  simp only [Bool.not_true,Bool.false_eq_true,if_false,Bool.true_and];rw [Op.eqFields,ae n1];simp only [Sem.run_bind,p1,Result.andThen_ok,e1]
  cases n==n' with
  | false=>simp
  | true=>simp [Op.eqFields]
theorem YG.Ys {fr:List GV} {Γ:List Ob} {x y:Operand} {t':TypeId} {s s':ah} {n n':Int} (hx:bf fr x=.agg [.v (sv s),.v (ii n)]) (hy:bf fr y=.agg [.v (sv s'),.v (ii n')]) :
  YG prog (.binOp .neq 98 x y t') fr Γ (.v (.bool (!((s==s')&&(n==n'))))):=fun B K β w l hI hF=>by
 have two:∀ {v:Value} {a b:Value},Rel K β v (.agg [.v a,.v b])->v=.agg #[a,b]:=fun {v a b} h=>by
  cases h with
  | agg vs _ hl hh =>
   match vs,hl with
   | [u1,u2],_ =>
    have D:=Rel.eE (hh 0 u1 (.v a) rfl rfl);have X:=Rel.eE (hh 1 u2 (.v b) rfl rfl);rw [D,X]
 have vD:=two (by rw [<-hx];exact hF.ev x);have X7:=two (by rw [<-hy];exact hF.ev y);refine ⟨_,fun d ty pos af=>?_,.v _⟩;have hg:=run_eqGuard_agg (P:=prog) w .neq 98 x y #[sv s,ii n] #[sv s',ii n'] (by kernel_rfl);have hn:=run_neq_struct (P:=prog) w 98 #[sv s,ii n] #[sv s',ii n'];rw [Zs,Result.andThen_ok] at hn;simp [execOp,vD,X7,hg,hn]
attribute [local irreducible] GW GL GO YG GC GA bg bj
theorem UW (a b:List Ar) (ha:a.length<=1099511627776) (hb:b.length<=1099511627776):GF prog 122 [(.sl 2 (a.map fun s=>bb s)),(.sl 2 (b.map fun s=>bb s))] [] (.v (.bool (gm Bz a b))) []:=by
 have mN:(a.map fun s=>bb s).length=a.length:=by simp
 have sF:(b.map fun s=>bb s).length=b.length:=by simp
 by_cases hl:a.length=b.length
 ·have hd:(((a.map fun s=>bb s).length:Int) != ((b.map fun s=>bb s).length:Int))=false:=by rw [mN,sF,hl];simp
  refine ai func122 ntmps122 ?_;refine GW.range (a.map fun s=>bb s).length (fun k fr Γ=>fr=[(.sl 2 (a.map fun s=>bb s)),(.sl 2 (b.map fun s=>bb s)),U,U,U,U,U,U,U,U,U,U,.v (ii ((a.map fun s=>bb s).length:Int)),.v (ii (k:Nat)),U,U,U,U,U,U,U,U,U,U,U,U]/\Γ=[]/\vj Bz a b k) ?_ G ?_ ?_ ?_
  ·exact zbh
  ·exact gO
  ·rintro k _ _ au ⟨rfl,rfl,fE⟩;rw [mN] at au
   have ny:a[k]?=some a[k]:=by simp [au]
   have sc:k < b.length:=by omega
   have qw:b[k]?=some b[k]:=by simp [sc]
   have HH:(a.map fun s=>bb s)[k]?=some (bb a[k]):=by rw [bp,ny];rfl
   have HI:(b.map fun s=>bb s)[k]?=some (bb b[k]):=by rw [bp,qw];rfl
   generalize a[k]=x at *;generalize b[k]=y at *;unfold bb at HH HI
   cases lZ:Bz x y with
   | true =>
    have bZ:(!((x.name==y.name)&&(x.size==y.size)))=false:=by rw [show ((x.name==y.name)&&(x.size==y.size))=Bz x y from rfl,lZ];rfl
    refine zcS ?_;refine ak ?_;apply OP
    ·exact rfl
    ·intro Γ;exact YG.Ys rfl rfl
    refine mj ?_;exact zb7
   | false =>
    have bZ:(!((x.name==y.name)&&(x.size==y.size)))=true:=by rw [show ((x.name==y.name)&&(x.size==y.size))=Bz x y from rfl,lZ];rfl
    rw [tX ny qw (p:=Bz) lZ];refine zcS ?_;refine ak ?_;apply OP
    ·exact rfl
    ·intro Γ;exact YG.Ys rfl rfl
    refine mj ?_;exact zbJ
  ·rintro _ _ ⟨rfl,rfl,fE⟩;exact zck
 ·have hd:(((a.map fun s=>bb s).length:Int) != ((b.map fun s=>bb s).length:Int))=true:=by rw [mN,sF];simpa using by omega
  rw [tW hl];refine ai func122 ntmps122 ?_;exact al
end Go.Xg
set_option maxHeartbeats 1000000
namespace Go.Xg
open Go.RowKit Go.Xw Go.Proofs Tryz Go.Sp Go.Im
open GV (U)
open Go.Xp (T one levels)
attribute [local irreducible] GW GL GO YG GC GA bg bj
structure JZ (f:Nat):Prop where
 expr:∀ d p t q x,p.ok->d+f<=1099511627776->iE f (.expr d) p=some (t,q)->GF prog 291 [.loc 0 0,.v (ii (d:Nat))] [cq p x] (qT t) [cq q x]
 level:∀ k d p t q x,p.ok->k<=9->d+f<=1099511627776->iE f (.level k d) p=some (t,q)->GF prog 303 [.loc 0 0,.v (ii (k:Nat)),.v (ii (d:Nat))] [cq p x] (qT t) [cq q x]
 operand:∀ d p t q x,p.ok->d+f<=1099511627776->iE f (.operand d) p=some (t,q)->GF prog 309 [.loc 0 0,.v (ii (d:Nat))] [cq p x] (qT t) [cq q x]
 exprs:∀ d p l q x,p.ok->d+f<=1099511627776->iA f d [] p=some (l,q)->GF prog 312 [.loc 0 0,.v (ii (d:Nat))] [cq p x] (.sl 1 (mx l)) [cq q x]
theorem Jc:GF prog 257 [.v (ii 0),.v (ii 0),.v (sv []),.sl 1 []] [] (qT T.zero) []:=fm 0 0 [] [] [] rfl
theorem WV {f:Nat} (C:JZ f) (d:Nat) (p:RS) (t:T) (q:RS) (x:PX) (hp:p.ok) (hd:d+(f+1)<=1099511627776) (h:iE (f+1) (.expr d) p=some (t,q)) :
  GF prog 291 [.loc 0 0,.v (ii (d:Nat))] [cq p x] (qT t) [cq q x]:=by
 rw [iE] at h;have eA:=yv p d x hp
 by_cases hc:(cw p d).code=0
 ·have dw:((cw p d).code==0)=true:=by simpa using hc
  rw [ae hc] at h;rw [dw] at eA;rw [qN hc] at h eA;have hl:=C.level 0 (d+1) p t q x hp G G h;refine ai func291 ntmps291 ?_;refine V [0] eA ?_;refine V [0] hl ?_;exact al
 ·have dw:((cw p d).code==0)=false:=by simpa using hc
  rw [ab hc] at h;rw [dw] at eA;cases h;refine ai func291 ntmps291 ?_;exact zdA
theorem VG {f:Nat} (C:∀ f',f'<=f->JZ f') (k d:Nat) (p:RS) (t:T) (q:RS) (x:PX) (hp:p.ok) (hk:k<=9) (hd:d+(f+1)<=1099511627776) (h:iE (f+1) (.level k d) p=some (t,q)) :
  GF prog 303 [.loc 0 0,.v (ii (k:Nat)),.v (ii (d:Nat))] [cq p x] (qT t) [cq q x]:=by
 rw [iE] at h
 by_cases BI:k=9
 ·subst BI;rw [ae rfl] at h;have ho:=(C f (aH _)).operand d p t q x hp G h;refine ai func303 ntmps303 ?_;refine V [] vL ?_;refine V [0] ho ?_;exact al
 ·rw [ab BI] at h
  have abq:((k:Int)==9)=false:=by simp;omega
  cases he:iE f (.level (k+1) d) p with
  | none=>exact zaX
  | some r =>
   obtain ⟨out,p1⟩:=r;rw [he] at h;simp only at h;have lW:=((kX f).1 _ _ _ _ hp he).ok hp;have hl:=(C f (aH _)).level (k+1) d p out p1 x hp G G he;refine ai func303 ntmps303 ?_;refine V [] vL ?_;refine V [0] hl ?_;refine GW.loop (fun z:Nat × T × RS=>z.1) (fun z fr Γ=>fr=[.loc 0 0,.v (ii (k:Nat)),.v (ii (d:Nat)),U,U,U,U,qT z.2.1,U,U,U,U,U,U,U,U,U,U,U,U,U,U,U,U,U,U,U,U,U,U,U,U,U,U,U,U,U,U,U,U,U,U,U,U,U,U,U,U,U,U,U,U,U,U,U,U,U,U,U,U,U,U,U,U]/\Γ=[cq z.2.2 x]/\z.2.2.ok/\z.1<=f/\iE z.1 (.loop k d z.2.1) z.2.2=some (t,q)) (f,out,p1) ?_ ?_
   ·exact ⟨_,_,Wk.aJ ar,rfl,rfl,lW,aH _,h⟩
   ·clear h he hl;rintro ⟨g,out,p⟩ _ _ ⟨rfl,rfl,hp,Da,h⟩;simp only at hp Da h
    cases g with
    | zero=>simp [iE] at h
    | succ g =>
    rw [iE] at h
    have hk:k < 9:=by omega
    have ht:=tN p 0 x hp aC
    by_cases hc:p.code=0
    ·have dw:(p.code==0)=true:=by simpa using hc
     by_cases h3:(tok p 0).kind=3
     ·have mr:((tok p 0).kind==3)=true:=by simpa using h3
      have BJ:=Li hk;have TT:=mG (levels.getD k []) (tok p 0).s (Ep k hk)
      by_cases hit:(levels.getD k []).contains (tok p 0).s=true
      ·rw [ae ⟨hc,h3,hit⟩] at h;rw [hit] at TT;have au:p.i < p.l.length:=uk (k:=0) G;have c8:=hp.2
       cases hb:iE g (.level (k+1) d) p.next with
       | none=>exact za0
       | some r =>
        obtain ⟨b,p2⟩:=r;rw [hb] at h;simp only at h;have dU:=(cE au).ok hp;have eB:=((kX g).1 _ _ _ _ dU hb).ok dU
        have mw:=(C g G).level (k+1) d p.next b p2 x dU G G hb
        generalize tok p 0=tk at *;have jU:=fm 6 tk.at_ tk.s [out,b] [[qT out],[qT b]] (iV _);refine zeK ?_;refine I ?_;refine zd3 ?_;refine aM (ay 0 9 (.a 9 (.a 10 (.a 11 (.q 12 .nil))))) ?_;refine ak ?_;refine aB [0] mw ?_;refine zau ?_;refine aB [] jU ?_;refine I ?_;exact ⟨(g,one 6 tk.at_ tk.s [out,b],p2),⟨_,_,(Wk.cut (n:=1) (dP rfl) rfl).trans (Wk.aJ ar),rfl,rfl,eB,by omega,h⟩,by simp⟩
      ·have hit:(levels.getD k []).contains (tok p 0).s=false:=by simpa using hit
       rw [ab (by rw [hit];simp)] at h
       obtain ⟨rfl,rfl⟩:out=t/\p=q:=by simpa using h
       rw [hit] at TT;generalize tok p 0=tk at *;refine zeK ?_;exact zdy
     ·have mr:((tok p 0).kind==3)=false:=by simpa using h3
      rw [ab (fun hh=>h3 hh.2.1)] at h
      obtain ⟨rfl,rfl⟩:out=t/\p=q:=by simpa using h
      generalize tok p 0=tk at *;refine zaO ?_;refine ak ?_;refine bV [0] ht ?_;exact zdy
    ·have dw:(p.code==0)=false:=by simpa using hc
     rw [ab (fun hh=>hc hh.1)] at h
     obtain ⟨rfl,rfl⟩:out=t/\p=q:=by simpa using h
     refine zaO ?_;refine bq ?_;refine jF ?_;exact aw
theorem Vh {f:Nat} (C:∀ f',f'<=f->JZ f') (d:Nat) (p:RS) (l:List T) (q:RS) (x:PX) (hp:p.ok) (hd:d+(f+1)<=1099511627776) (h:iA (f+1) d [] p=some (l,q)) :
  GF prog 312 [.loc 0 0,.v (ii (d:Nat))] [cq p x] (.sl 1 (mx l)) [cq q x]:=by
 refine ai func312 ntmps312 ?_;refine GW.wk (Wk.EA (t:=5) (a:=none) (c:=0) 79 1 rfl) ?_;refine GW.loop (fun z:Nat × List T × RS=>z.1) (fun z fr Γ=>∃ n rows,fr=[.loc 0 0,.v (ii (d:Nat)),U,U,U,.vec 1 n,U,U,U,U,U,U,U,U,U,U,U,U,U,U,U,U,U,U,U,U,U,U,U,U,U,U]/\Γ=[cq z.2.2 x,.vec 79 1 0 rows]/\rows.length=n/\rows=mx z.2.1/\n+z.1<=f+1/\z.2.2.ok/\iA z.1 d z.2.1 z.2.2=some (l,q)) (f+1,[],p) ?_ ?_
 ·exact ⟨_,_,Wk.aJ ar,0,[],rfl,rfl,rfl,rfl,by simp,hp,h⟩
 ·clear h hp;rintro ⟨g,acc,p⟩ _ _ ⟨n,rows,rfl,rfl,hn,bx,BK,hp,h⟩;simp only at bx BK hp h
  cases g with
  | zero=>simp [iA] at h
  | succ g =>
  rw [iA] at h;have hi:=l6 p 0 [41] x hp aC
  have lF:acc.length=n:=by rw [<-hn,bx,pf]
  by_cases hc:p.code=0
  ·have dw:(p.code==0)=true:=by simpa using hc
   cases hs:is p 0 [41] with
   | true =>
    rw [hs] at hi;rw [ab (fun hh=>by have:=hh.2;rw [hs] at this;cases this)] at h
    obtain ⟨rfl,rfl⟩:acc=l/\want p [41]=q:=by simpa using h
    have hw:=fL p [41] x hp;subst bx;refine zca ?_;refine jF ?_;refine I ?_;exact zel
   | false =>
    rw [hs] at hi;rw [ae ⟨hc,hs⟩] at h
    by_cases h0:acc.length=0
    ·rw [ae h0] at h
     have tZ:decide ((0:Int) < (n:Int))=false:=by simpa using by omega
     cases hb:iE g (.expr d) p with
     | none=>exact za0
     | some r =>
      obtain ⟨a,p2⟩:=r;rw [hb] at h;simp only at h;have eB:=((kX g).1 _ _ _ _ hp hb).ok hp;have he:=(C g G).expr d p a p2 x hp G hb;refine zca ?_;exact zbx
    ·rw [ab h0] at h
     have tZ:decide ((0:Int) < (n:Int))=true:=by simpa using by omega
     have oc:=(c7 hp [44]).ok hp;have hw:=fL p [44] x hp
     cases hb:iE g (.expr d) (want p [44]) with
     | none=>exact za0
     | some r =>
      obtain ⟨a,p2⟩:=r;rw [hb] at h;simp only at h;have eB:=((kX g).1 _ _ _ _ oc hb).ok oc;have he:=(C g G).expr d _ a p2 x oc G hb;refine zca ?_;refine zaR ?_;exact zbx
  ·have dw:(p.code==0)=false:=by simpa using hc
   rw [ab (fun hh=>hc hh.1)] at h
   obtain ⟨rfl,rfl⟩:acc=l/\want p [41]=q:=by simpa using h
   have hw:=fL p [41] x hp;subst bx;refine za1 ?_;exact zel
theorem Ql {f:Nat} (C:JZ f) (d:Nat) (p:RS) (t:T) (q:RS) (x:PX) (hp:p.ok) (hd:d+(f+1)<=1099511627776) (h:iE (f+1) (.operand d) p=some (t,q)) :
  GF prog 309 [.loc 0 0,.v (ii (d:Nat))] [cq p x] (qT t) [cq q x]:=by
 rw [iE] at h;have eA:=yv p d x hp;have ht:=tN p 0 x hp aC
 by_cases hc:(cw p d).code=0
 case neg =>
  have dw:((cw p d).code==0)=false:=by simpa using hc
  rw [ab hc] at h;rw [dw] at eA;cases h;refine ai func309 ntmps309 ?_;refine zd3 ?_;exact zdA
 case pos =>
 have dw:((cw p d).code==0)=true:=by simpa using hc
 rw [ae hc] at h;rw [dw,qN hc] at eA;clear hc dw;have D:=l6 p 0 [45] x hp aC;have X:=l6 p 0 [33] x hp aC;have h3:=l6 p 0 [126] x hp aC;have c8:=hp.2;have FJ:=hp.1
 cases lX:is p 0 [45] with
 | true =>
  rw [lX] at D;rw [ae (.inl lX)] at h;have au:p.i < p.l.length:=is_lt (k:=0) lX;have dU:=(cE au).ok hp
  cases hb:iE f (.operand (d+1)) p.next with
  | none=>exact za0
  | some r =>
   obtain ⟨b,p2⟩:=r;rw [hb] at h;cases h
   have Ad:=C.operand (d+1) p.next b _ x dU G hb
   generalize tok p 0=tk at *;have jU:=fm 5 tk.at_ tk.s [b] [[qT b]] (iV _);refine ai func309 ntmps309 ?_;refine zd3 ?_;refine V [0] eA ?_;refine V [0] D ?_;exact zaP
 | false =>
 rw [lX] at D
 cases lY:is p 0 [33] with
 | true =>
  rw [lY] at X;rw [ae (.inr (.inl lY))] at h;have au:p.i < p.l.length:=is_lt (k:=0) lY;have dU:=(cE au).ok hp
  cases hb:iE f (.operand (d+1)) p.next with
  | none=>exact za0
  | some r =>
   obtain ⟨b,p2⟩:=r;rw [hb] at h;cases h
   have Ad:=C.operand (d+1) p.next b _ x dU G hb
   generalize tok p 0=tk at *;have jU:=fm 5 tk.at_ tk.s [b] [[qT b]] (iV _);refine ai func309 ntmps309 ?_;refine zac ?_;exact zaP
 | false =>
 rw [lY] at X
 cases xJ:is p 0 [126] with
 | true =>
  rw [xJ] at h3;rw [ae (.inr (.inr xJ))] at h;have au:p.i < p.l.length:=is_lt (k:=0) xJ;have dU:=(cE au).ok hp
  cases hb:iE f (.operand (d+1)) p.next with
  | none=>exact za0
  | some r =>
   obtain ⟨b,p2⟩:=r;rw [hb] at h;cases h
   have Ad:=C.operand (d+1) p.next b _ x dU G hb
   generalize tok p 0=tk at *;have jU:=fm 5 tk.at_ tk.s [b] [[qT b]] (iV _);refine ai func309 ntmps309 ?_;refine zac ?_;refine V [0] h3 ?_;exact zaP
 | false =>
 rw [xJ] at h3;rw [ab (by rw [lX,lY,xJ];decide)] at h
 by_cases hk:(tok p 0).kind=1
 case pos =>
  rw [ae hk] at h;have au:p.i < p.l.length:=uk (k:=0) G
  have fk:((tok p 0).kind==1)=true:=by simpa using hk
  cases h;generalize tok p 0=tk at *;have jU:=Qe 1 tk.at_ [] [];refine ai func309 ntmps309 ?_;refine zac ?_;refine V [0] h3 ?_;refine V [] jU ?_;refine GW.wk (Wk.freeze (i:=2) rfl rfl rfl (dP rfl)) ?_;exact al
 case neg =>
 rw [ab hk] at h
 have fk:((tok p 0).kind==1)=false:=by simpa using hk
 have h4:=l6 p 0 [40] x hp aC
 cases hs4:is p 0 [40] with
 | true =>
  rw [hs4] at h4;rw [ae hs4] at h;have au:p.i < p.l.length:=is_lt (k:=0) hs4;have dU:=(cE au).ok hp
  cases hb:iE f (.expr (d+1)) p.next with
  | none=>exact za0
  | some r =>
   obtain ⟨b,p2⟩:=r;rw [hb] at h;cases h;have eB:=((kX f).1 _ _ _ _ dU hb).ok dU
   have Ad:=C.expr (d+1) p.next _ p2 x dU G hb
   have hw:=fL p2 [41] x eB;generalize tok p 0=tk at *;refine ai func309 ntmps309 ?_;refine za7 ?_;refine V [0] Ad ?_;refine zaR ?_;exact al
 | false =>
 rw [hs4] at h4;rw [ab (by rw [hs4];decide)] at h;have hn:=s9 p x hp;have dU:=(jA hp).ok hp
 by_cases jH:(bI p).code=0
 case neg =>
  rw [ab jH] at h
  have abf:((bI p).code != 0)=true:=by simpa using jH
  cases h;generalize tok p 0=tk at *;generalize bI p=p1 at *;have jU:=fm 2 tk.at_ tk.s [] [] rfl;refine ai func309 ntmps309 ?_;refine za7 ?_;refine V [0] hn ?_;exact zct
 case pos =>
 rw [ae jH] at h
 have abf:((bI p).code != 0)=false:=by simpa using jH
 generalize bI p=p1 at *;generalize tok p 0=tk at *;have h5:=l6 p1 0 [91] x dU aC;have acq:=dU.2;have acp:=dU.1
 cases hs5:is p1 0 [91] with
 | true =>
  rw [hs5] at h5;rw [ae hs5] at h;have au:p1.i < p1.l.length:=is_lt (k:=0) hs5;have HF:=(cE au).ok dU
  cases hb:iE f (.expr (d+1)) p1.next with
  | none=>exact za0
  | some r =>
   obtain ⟨b,p2⟩:=r;rw [hb] at h;cases h;have eB:=((kX f).1 _ _ _ _ HF hb).ok HF
   have Ad:=C.expr (d+1) p1.next b p2 x HF G hb
   have hw:=fL p2 [93] x eB;have jU:=fm 3 tk.at_ tk.s [b] [[qT b]] (iV _);refine ai func309 ntmps309 ?_;refine za7 ?_;refine V [0] hn ?_;refine V [0] h5 ?_;refine V [0] Ad ?_;refine zaR ?_;refine zal ?_;exact zct
 | false =>
 rw [hs5] at h5;rw [ab (by rw [hs5];decide)] at h;have h6:=l6 p1 0 [40] x dU aC
 cases KR:is p1 0 [40] with
 | true =>
  rw [KR] at h6;rw [ae KR] at h;have au:p1.i < p1.l.length:=is_lt (k:=0) KR;have HF:=(cE au).ok dU
  cases hb:iA f (d+1) [] p1.next with
  | none=>exact za0
  | some r =>
   obtain ⟨b,p2⟩:=r;rw [hb] at h;cases h
   have Ad:=C.exprs (d+1) p1.next b _ x HF G hb
   have jU:=fm 4 tk.at_ tk.s b (mx b) rfl;refine ai func309 ntmps309 ?_;refine za7 ?_;refine V [0] hn ?_;refine V [0] h5 ?_;refine V [0] h6 ?_;refine aM (ay 0 6 (.a 6 (.a 7 (.q 8 .nil)))) ?_;refine ak ?_;refine aB [0] Ad ?_;refine aB [] jU ?_;exact aw
 | false =>
  rw [KR] at h6;rw [ab (by rw [KR];decide)] at h;cases h;have jU:=fm 2 tk.at_ tk.s [] [] rfl;refine ai func309 ntmps309 ?_;refine za7 ?_;refine V [0] hn ?_;refine V [0] h5 ?_;refine V [0] h6 ?_;exact zct
theorem ies (f:Nat):JZ f:=by
 induction f using Nat.strongRecOn with
 | _ f ih =>
  cases f with
  | zero=>exact ⟨fun d p t q x _ _ h=>by simp [iE] at h,fun k d p t q x _ _ _ h=>by simp [iE] at h,fun d p t q x _ _ h=>by simp [iE] at h,fun d p l q x _ _ h=>by simp [iA] at h⟩
  | succ f =>
   have C:=ih f (Nat.lt_succ_self f)
   have Cs:∀ f',f'<=f->JZ f':=fun f' h=>ih f' (Nat.lt_succ_of_le h)
   exact ⟨fun d p t q x hp hd h=>WV C d p t q x hp hd h,fun k d p t q x hp hk hd h=>VG Cs k d p t q x hp hk hd h,fun d p t q x hp hd h=>Ql C d p t q x hp hd h,fun d p l q x hp hd h=>Vh Cs d p l q x hp hd h⟩
end Go.Xg
namespace Go.Im
open Go.Xp Go.Sp
def YN (f d:Nat) (p:RS):Option (T × RS) :=
 if (tok p 0).kind=2/\is p 1 [61]=true then match iE f (.expr (d+1)) (want (bI p) [61]) with
  | none=>none
  | some (e,q)=>some (one 7 (tok p 0).at_ (tok p 0).s [e],want q [59])
 else match iE f (.expr (d+1)) p with
  | none=>none
  | some (e,q) =>
   if yY p q e then match e.kids,iE f (.expr (d+1)) (want q [61]) with
    | a::_,some (v,q)=>some (one 8 (tok p 0).at_ e.n.s [a,v],want q [59])
    | _,_=>none
   else some (one 12 (tok p 0).at_ [] [e],want q [59])
end Go.Im
namespace Go.Xg
open Go.RowKit Go.Xw Go.Proofs Tryz Go.Sp Go.Im
open GV (U)
open Go.Xp (T one)
attribute [local irreducible] GW GL GO YG GC GA bg bj
theorem S6 {f:Nat} (d:Nat) (p:RS) (t:T) (q:RS) (x:PX) (hp:p.ok) (hd:d+1+f<=1099511627776) (h:YN f d p=some (t,q)) :
  GF prog 292 [.loc 0 0,.v (ii (d:Nat))] [cq p x] (qT t) [cq q x]:=by
 unfold YN at h;have C:=ies f;have ht:=tN p 0 x hp aC;have hi:=l6 p 1 [61] x hp aC
 have main:∀ kk,((tok p 0).kind==2)=kk->(kk=true->is p 1 [61]=false)->GF prog 292 [.loc 0 0,.v (ii (d:Nat))] [cq p x] (qT t) [cq q x]:=by
  intro kk hk ud
  rw [ab (fun hh=>by
   have D:kk=true:=by rw [<-hk];simpa using hh.1
   have X:=ud D
   rw [hh.2] at X;cases X)] at h
  cases he:iE f (.expr (d+1)) p with
  | none=>exact zaX
  | some r =>
   obtain ⟨e,q1⟩:=r;rw [he] at h;simp only at h;have sI:=((kX f).1 _ _ _ _ hp he).ok hp;have acw:=sI.1;have acx:=sI.2;have hex:=C.expr (d+1) p e q1 x hp G he;have TY:=l6 q1 0 [61] x sI aC
   have Hs:e.n.kind=3->q1.code=0->∃ BU,q1.l[q1.i - 1]?=some BU/\wH q1=BU.s/\1<=q1.i:=by
    intro _ hc;have D:=Ya f _ _ _ _ hp he hc (fun k d out h=>by cases h);have X:=sI.1
    have au:q1.i - 1 < q1.l.length:=by omega
    exact ⟨q1.l[q1.i - 1],by simp [au],by unfold wH;simp [au],by omega⟩
   by_cases kc:yY p q1 e
   ·rw [ae kc] at h;have mP:=kc;obtain ⟨s1,s2,s3,s4,s5,s6⟩:=mP;obtain ⟨BU,a1,a2,a3⟩:=Hs s1 s2
    have qS:kk=true:=by rw [<-hk];simpa using s5
    subst qS;have BH:=ud rfl;rw [BH] at hi;rw [s6] at TY
    match Pp:e.kids,hv:iE f (.expr (d+1)) (want q1 [61]),h with
    | a::rk,some (v,q2),h =>
     cases h;have oc:=(c7 sI [61]).ok sI;have KO:=((kX f).1 _ _ _ _ oc hv).ok oc;have hw:=fL q1 [61] x sI;have El:=C.expr (d+1) _ v q2 x oc G hv;have pU:=fL q2 [59] x KO;have hr:=lN a1;have et:(mx e.kids)[0]?=some [qT a]:=DD (by rw [Pp];rfl);have hr3:(mx (a::rk))[0]?=some [qT a]:=DD rfl
     have b1:(e.n.kind==3)=true:=by simpa using s1
     have b2:(q1.code==0)=true:=by simpa using s2
     have b3:(BU.s==[93])=true:=by rw [<-a2];simpa using s3
     have b4:(e.n.at_==(tok p 0).at_)=true:=by simpa using s4
     have jU:=fm 8 (tok p 0).at_ e.n.s [a,v] [[qT a],[qT v]] (iV _);generalize tok p 0=tk at *;refine ai func292 ntmps292 ?_;refine zd3 ?_;refine V [0] hi ?_;refine V [0] hex ?_;refine aM (ay 0 45 (.a 45 (.q 46 .nil))) ?_;refine ak ?_;refine bV [0] TY ?_;refine I ?_;refine zaR ?_;refine V [0] El ?_;refine zal ?_;refine V [0] pU ?_;refine aM (ay 0 14 (.a 14 (.a 15 (.q 16 .nil)))) ?_;refine zdE ?_;refine aB [] jU ?_;exact aw
    | [],_,h=>simp at h
    | _::_,none,h=>simp at h
   ·rw [ab kc] at h;cases h;have hw:=fL q1 [59] x sI;have jU:=fm 12 (tok p 0).at_ [] [e] [[qT e]] (iV _)
    cases kk with
    | true =>
     have BH:=ud rfl;rw [BH] at hi;refine ai func292 ntmps292 ?_;refine zd3 ?_;refine V [0] hi ?_;refine V [0] hex ?_;refine GW.join (fun fr Γ=>fr=[.loc 0 0,.v (ii (d:Nat)),U,U,U,.loc 1 0,U,U,qT e,U,U,U,U,U,U,U,U,U,U,U,U,U,U,U,U,U,U,U,U,U,U,U,U,U,U,U,U,U,U,U,U,U,U,U,U,U,U,U,U,U,U,U,U,U,U,U,U,U,U,U,U,U,U,U,U,U,U,U,U,U,U,U,U,U,U,U,U,U,U,U,U,U,U,U,U,U,U,.v (.bool false),U,U,U,U,U,U,U,U,U,U,U,U,U,U,U,U,U,U,U,U,U,U,U,U,U,U,U,U,U,U,U,U,U,U]/\Γ=[cq q1 x,.box 168 (cZ (tok p 0))]) ?_ ?_
     ·by_cases s1:e.n.kind=3
      ·have b1:(e.n.kind==3)=true:=by simpa using s1
       by_cases s2:q1.code=0
       ·have b2:(q1.code==0)=true:=by simpa using s2
        obtain ⟨BU,a1,a2,a3⟩:=Hs s1 s2;have hr:=lN a1
        by_cases s3:wH q1=[93]
        ·have b3:(BU.s==[93])=true:=by rw [<-a2];simpa using s3
         by_cases s4:e.n.at_=(tok p 0).at_
         ·have b4:(e.n.at_==(tok p 0).at_)=true:=by simpa using s4
          have s6:is q1 0 [61]=false:=by
           cases h6:is q1 0 [61] with
           | false=>rfl
           | true=>exact absurd ⟨s1,s2,s3,s4,by simpa using hk,h6⟩ kc
          rw [s6] at TY;generalize tok p 0=tk at *;refine aM (ay 0 45 (.a 45 (.q 46 .nil))) ?_;refine ak ?_;refine bV [0] TY ?_;exact jd
         ·have b4:(e.n.at_==(tok p 0).at_)=false:=by simpa using s4
          exact zae
        ·have b3:(BU.s==[93])=false:=by rw [<-a2];simpa using s3
         exact zae
       ·have b2:(q1.code==0)=false:=by simpa using s2
        exact zae
      ·have b1:(e.n.kind==3)=false:=by simpa using s1
       exact zae
     ·rintro _ _ ⟨rfl,rfl⟩;exact zdI
    | false =>
     refine ai func292 ntmps292 ?_;refine zd3 ?_;refine V [0] hex ?_;refine GW.join (fun fr Γ=>fr=[.loc 0 0,.v (ii (d:Nat)),U,U,U,.loc 1 0,U,U,qT e,U,U,U,U,U,U,U,U,U,U,U,U,U,U,U,U,U,U,U,U,U,U,U,U,U,U,U,U,U,U,U,U,U,U,U,U,U,U,U,U,U,U,U,U,U,U,U,U,U,U,U,U,U,U,U,U,U,U,U,U,U,U,U,U,U,U,U,U,U,U,U,U,U,U,U,U,U,U,.v (.bool false),U,U,U,U,U,U,U,U,U,U,U,U,U,U,U,U,U,U,U,U,U,U,U,U,U,U,U,U,U,U,U,U,U,U]/\Γ=[cq q1 x,.box 168 (cZ (tok p 0))]) ?_ ?_
     ·by_cases s1:e.n.kind=3
      ·have b1:(e.n.kind==3)=true:=by simpa using s1
       by_cases s2:q1.code=0
       ·have b2:(q1.code==0)=true:=by simpa using s2
        obtain ⟨BU,a1,a2,a3⟩:=Hs s1 s2;have hr:=lN a1
        by_cases s3:wH q1=[93]
        ·have b3:(BU.s==[93])=true:=by rw [<-a2];simpa using s3
         by_cases s4:e.n.at_=(tok p 0).at_
         ·have b4:(e.n.at_==(tok p 0).at_)=true:=by simpa using s4
          exact zae
         ·have b4:(e.n.at_==(tok p 0).at_)=false:=by simpa using s4
          exact zae
        ·have b3:(BU.s==[93])=false:=by rw [<-a2];simpa using s3
         exact zae
       ·have b2:(q1.code==0)=false:=by simpa using s2
        exact zae
      ·have b1:(e.n.kind==3)=false:=by simpa using s1
       exact zae
     ·rintro _ _ ⟨rfl,rfl⟩;exact zdI
 by_cases hk:(tok p 0).kind=2
 ·cases BH:is p 1 [61] with
  | true =>
   clear main;rw [ae ⟨hk,BH⟩] at h;rw [BH] at hi
   have fk:((tok p 0).kind==2)=true:=by simpa using hk
   have hn:=s9 p x hp;have dU:=(jA hp).ok hp;have hw:=fL (bI p) [61] x dU;have oc:=(c7 dU [61]).ok dU
   cases he:iE f (.expr (d+1)) (want (bI p) [61]) with
   | none=>exact zaX
   | some r =>
    obtain ⟨e,q1⟩:=r;rw [he] at h;cases h;have sI:=((kX f).1 _ _ _ _ oc he).ok oc;have hex:=C.expr (d+1) _ e q1 x oc G he;have pU:=fL q1 [59] x sI;have jU:=fm 7 (tok p 0).at_ (tok p 0).s [e] [[qT e]] (iV _);generalize tok p 0=tk at *;refine ai func292 ntmps292 ?_;refine zd3 ?_;refine V [0] hi ?_;refine V [0] hn ?_;refine zaR ?_;exact zbK
  | false=>exact main true zfO (fun _=>BH)
 ·exact main false zfO (fun h=>by cases h)
open Go.Xp (nB gE ju ig gU)
theorem Qd (k a:Int) (s:ah):GF prog 257 [.v (ii k),.v (ii a),.v (sv s),.v (.slice none 0 0)] [] (.loc 0 0) [.box 125 [.v (ii k),.v (ii a),.v (ii 0),.v (sv s),.v (.slice none 0 0),.v (.slice none 0 0)]]:=by
 refine ai func257 ntmps257 ?_;refine GW.wk (Wk.cells 0 rfl (ds:=[.v (ii k),.v (ii a),.v (ii 0),.v (sv s),.v (.slice none 0 0),.v (.slice none 0 0)]) iw) ?_;exact zd0
structure Tq (f:Nat):Prop where
 block:∀ d p t q x,p.ok->d+3+f<=1099511627776->iS f (.block d) p=some (t,q)->GF prog 204 [.loc 0 0,.v (ii (d:Nat))] [cq p x] (qT t) [cq q x]
 stmt:∀ d p t q x,p.ok->d+3+f<=1099511627776->iS f (.stmt d) p=some (t,q)->GF prog 259 [.loc 0 0,.v (ii (d:Nat))] [cq p x] (qT t) [cq q x]
theorem U3 {f:Nat} (C:∀ f',f'<=f->Tq f') (d:Nat) (p:RS) (t:T) (q:RS) (x:PX) (hp:p.ok) (hd:d+3+(f+1)<=1099511627776) (h:iS (f+1) (.block d) p=some (t,q)) :
  GF prog 204 [.loc 0 0,.v (ii (d:Nat))] [cq p x] (qT t) [cq q x]:=by
 rw [iS] at h;have eA:=yv p d x hp;have ht:=tN p 0 x hp aC;have vu:=Qd 14 (tok p 0).at_ []
 by_cases hc:(cw p d).code=0
 case neg =>
  have dw:((cw p d).code==0)=false:=by simpa using hc
  rw [ab hc] at h;rw [dw] at eA;cases h;generalize tok p 0=tk at *;refine ai func204 ntmps204 ?_;refine zd3 ?_;refine V [] vu ?_;refine V [0] eA ?_;refine GW.wk (Wk.cells 1 rfl (ds:=[.v (ii 14),.v (ii tk.at_),.v (ii 0),.v (sv []),.v (.slice none 0 0),.sl 1 []]) iw) ?_;refine GW.wk (Wk.freeze (i:=1) rfl rfl rfl (dP rfl)) ?_;exact al
 case pos =>
 have dw:((cw p d).code==0)=true:=by simpa using hc
 rw [ae hc] at h;rw [dw,qN hc] at eA;clear hc dw;have oc:=(c7 hp [123]).ok hp;have hw:=fL p [123] x hp
 cases he:iB f (d+1) [] (want p [123]) with
 | none=>exact zaX
 | some r =>
  obtain ⟨l,q1⟩:=r;rw [he] at h;cases h;generalize tok p 0=tk at *;refine ai func204 ntmps204 ?_;refine zd3 ?_;refine V [] vu ?_;refine V [0] eA ?_;refine zaR ?_;refine GW.wk (Wk.M6 (i:=1) (o:=5) 79 1 rfl rfl) ?_;refine GW.loop (fun z:Nat × List T × RS=>z.1) (fun z fr Γ=>∃ n rows,fr=[.loc 0 0,.v (ii (d:Nat)),U,U,U,.loc 1 0,U,U,U,U,U,U,U,U,U,U,U,U,U,U,U,U,U,U,U,U,U,U,U,U,U,U,U,U,U,U,U,U,U,U,U,U,U,U,U]/\Γ=[cq z.2.2 x,.box 125 [.v (ii 14),.v (ii tk.at_),.v (ii 0),.v (sv []),.v (.slice none 0 0),.vec 2 n],.vec 79 1 0 rows]/\rows.length=n/\rows=mx z.2.1/\n+z.1<=f/\z.2.2.ok/\iB z.1 (d+1) z.2.1 z.2.2=some (l,q1)) (f,[],want p [123]) ?_ ?_
  ·exact ⟨_,_,Wk.aJ ar,0,[],rfl,rfl,rfl,rfl,by simp,oc,he⟩
  ·clear he oc hw eA ht;rintro ⟨g,acc,p⟩ _ _ ⟨n,rows,rfl,rfl,hn,bx,BK,hp,h⟩;simp only at bx BK hp h
   cases g with
   | zero=>simp [iB] at h
   | succ g =>
   rw [iB] at h;have hi:=l6 p 0 [125] x hp aC
   by_cases hc:p.code=0
   ·have dw:(p.code==0)=true:=by simpa using hc
    cases hs:is p 0 [125] with
    | true =>
     rw [hs] at hi;rw [ab (fun hh=>by have:=hh.2;rw [hs] at this;cases this)] at h
     obtain ⟨rfl,rfl⟩:acc=l/\p=q1:=by simpa using h
     have hw:=fL p [125] x hp;subst bx;refine zca ?_;refine jF ?_;refine I ?_;exact zb0
    | false =>
     rw [hs] at hi;rw [ae ⟨hc,hs⟩] at h
     cases hb:iS g (.stmt (d+1)) p with
     | none=>exact za0
     | some r =>
      obtain ⟨a,p2⟩:=r;rw [hb] at h;simp only at h;have eB:=((Gz g).1 _ _ _ _ hp hb).ok hp;have cU:=(C g G).stmt (d+1) p a p2 x hp G hb;refine zca ?_;refine aM (ay 0 8 (.a 8 (.a 9 (.a 10 (.q 11 (.q 12 (.a 13 .nil))))))) ?_;refine ak ?_;refine aB [0] cU ?_;refine zau ?_;refine EW ?_;refine bq ?_;exact ⟨(g,acc++[a],p2),⟨_,_,Wk.aJ ar,_,_,rfl,rfl,by simp [hn],by rw [xW,bx];rfl,by show n+1+g<=f;omega,eB,h⟩,by simp⟩
   ·have dw:(p.code==0)=false:=by simpa using hc
    rw [ab (fun hh=>hc hh.1)] at h
    obtain ⟨rfl,rfl⟩:acc=l/\p=q1:=by simpa using h
    have hw:=fL p [125] x hp;subst bx;refine za1 ?_;exact zb0
theorem YU {f:Nat} (C:Tq f) (d:Nat) (p:RS) (t:T) (q:RS) (x:PX) (hp:p.ok) (hd:d+3+(f+1)<=1099511627776) (h:iS (f+1) (.stmt d) p=some (t,q)) :
  GF prog 259 [.loc 0 0,.v (ii (d:Nat))] [cq p x] (qT t) [cq q x]:=by
 rw [iS] at h;have E:=ies f;have eA:=yv p d x hp;have ht:=tN p 0 x hp aC
 by_cases hc:(cw p d).code=0
 case neg =>
  have dw:((cw p d).code==0)=false:=by simpa using hc
  rw [ab hc] at h;rw [dw] at eA;cases h;refine ai func259 ntmps259 ?_;refine zd3 ?_;exact zdA
 case pos =>
 have dw:((cw p d).code==0)=true:=by simpa using hc
 rw [ae hc] at h;rw [dw,qN hc] at eA;clear hc dw;have c8:=hp.2;have FJ:=hp.1;have D:=l6 p 0 nB x hp aC;have X:=l6 p 0 gE x hp aC;have h3:=l6 p 0 ig x hp aC;have h4:=l6 p 0 gU x hp aC
 cases lX:is p 0 nB with
 | true =>
  rw [lX] at D;rw [ae lX] at h;have au:p.i < p.l.length:=is_lt (k:=0) lX;have dU:=(cE au).ok hp
  have hn:=s9 p.next x dU
  have Ah:=(jA dU).ok dU;have hw:=fL _ [61] x Ah;have oc:=(c7 Ah [61]).ok Ah
  cases he:iE f (.expr (d+1)) (want (bI p.next) [61]) with
  | none=>exact zaX
  | some r =>
   obtain ⟨e,q1⟩:=r;rw [he] at h;cases h;have sI:=((kX f).1 _ _ _ _ oc he).ok oc;have hex:=E.expr (d+1) _ e q1 x oc G he;have pU:=fL q1 [59] x sI;have jU:=fm 13 (tok p 0).at_ (tok p.next 0).s [e] [[qT e]] (iV _);generalize tok p 0=tk at *
   generalize tok p.next 0=tn at *
   refine ai func259 ntmps259 ?_;refine zd3 ?_;refine V [0] eA ?_;refine V [0] D ?_;refine V [0] hn ?_;refine zaR ?_;exact zbK
 | false =>
 rw [lX] at D;rw [ab (by rw [lX];decide)] at h
 have main:∀ bi bw:Bool,is p 0 gE=bi->is p 0 ig=bw->(bi=true\/bw=true)->GF prog 259 [.loc 0 0,.v (ii (d:Nat))] [cq p x] (qT t) [cq q x]:=by
  intro bi bw xA hbw uF
  have pz:is p 0 gE=true\/is p 0 ig=true:=by rw [xA,hbw];exact uF
  have au:p.i < p.l.length:=by rcases pz with hh | hh <;> exact is_lt (k:=0) hh
  rw [ae pz] at h;have dU:=(cE au).ok hp
  have hw:=fL p.next [40] x dU
  have oc:=(c7 dU [40]).ok dU
  cases he:iE f (.expr (d+1)) (want p.next [40]) with
  | none=>exact zaX
  | some r =>
  obtain ⟨c,q1⟩:=r;rw [he] at h;simp only at h;have sI:=((kX f).1 _ _ _ _ oc he).ok oc;have hex:=E.expr (d+1) _ c q1 x oc G he;have pU:=fL q1 [41] x sI;have XU:=(c7 sI [41]).ok sI
  cases hb:iS f (.block (d+1)) (want q1 [41]) with
  | none=>exact za0
  | some r =>
  obtain ⟨b,q2⟩:=r;rw [hb] at h;simp only at h;have KO:=((Gz f).1 _ _ _ _ XU hb).ok XU;have acz:=KO.2;have acy:=KO.1;have eQ:=C.block (d+1) _ b q2 x XU G hb;have fB:=l6 q2 0 ju x KO aC;rw [xA] at X;rw [hbw] at h3
  cases bi with
  | true =>
   have MH:∀ (cc ee:Bool),(q2.code==0)=cc->is q2 0 ju=ee->(cc=false\/ee=false)->GF prog 259 [.loc 0 0,.v (ii (d:Nat))] [cq p x] (qT t) [cq q x]:=by
    intro cc ee vq zp XR
    rw [ab (fun hh=>by
     rcases XR with h0 | h0
     ·rw [h0] at vq;have:=hh.2.1;simp [this] at vq
     ·rw [h0] at zp;rw [zp] at hh;exact absurd hh.2.2 aC),ae xA] at h
    cases h;rw [zp] at fB;have jU:=fm 9 (tok p 0).at_ [] [c,b] [[qT c],[qT b]] (iV _);generalize tok p 0=tk at *
    cases cc with
    | true =>
     cases ee with
     | true=>simp at XR
     | false =>
      refine ai func259 ntmps259 ?_;refine zac ?_;refine V [0] X ?_;refine zaR ?_;refine zfe ?_;refine zcG ?_;refine V [0] fB ?_;exact zd6
    | false =>
     refine ai func259 ntmps259 ?_;refine zac ?_;exact zaN
   by_cases ly:q2.code=0
   ·cases zp:is q2 0 ju with
    | true =>
     clear MH;rw [ae ⟨xA,ly,zp⟩] at h;rw [zp] at fB
     have vq:(q2.code==0)=true:=by simpa using ly
     have kH:q2.i < q2.l.length:=is_lt (k:=0) zp;have hqn:=(cE kH).ok KO
     cases ej:iS f (.block (d+1)) q2.next with
     | none=>rw [ej] at h;cases h
     | some r =>
      obtain ⟨b2,q3⟩:=r;rw [ej] at h;cases h;have ZA:=C.block (d+1) _ b2 _ x hqn G ej;have jU:=fm 9 (tok p 0).at_ [] [c,b,b2] [[qT c],[qT b],[qT b2]] (iV _);generalize tok p 0=tk at *;refine ai func259 ntmps259 ?_;refine zac ?_;refine V [0] X ?_;refine zaR ?_;refine zfe ?_;refine zcG ?_;refine V [0] fB ?_;refine V [0] ZA ?_;refine zcG ?_;exact zd6
    | false=>exact MH true false (by simpa using ly) zp (.inr rfl)
   ·exact MH false _ (by simpa using ly) rfl (.inl rfl)
  | false =>
   have abe:bw=true:=by simpa using uF
   subst abe;rw [ab (fun hh=>by have:=hh.1;rw [xA] at this;cases this),ab (by rw [xA];decide)] at h;cases h;have jU:=fm 10 (tok p 0).at_ [] [c,b] [[qT c],[qT b]] (iV _);generalize tok p 0=tk at *;refine ai func259 ntmps259 ?_;refine zac ?_;refine V [0] h3 ?_;exact zaN
 cases lY:is p 0 gE with
 | true=>exact main true _ lY rfl (.inl rfl)
 | false =>
 cases xJ:is p 0 ig with
 | true=>exact main false true lY xJ (.inr rfl)
 | false =>
 clear main;rw [lY] at X;rw [xJ] at h3;rw [ab (by rw [lY,xJ];decide)] at h
 cases hs4:is p 0 gU with
 | true =>
  rw [hs4] at h4;rw [ae hs4] at h;have au:p.i < p.l.length:=is_lt (k:=0) hs4;have dU:=(cE au).ok hp
  cases he:iE f (.expr (d+1)) p.next with
  | none=>exact zaX
  | some r =>
   obtain ⟨e,q1⟩:=r;rw [he] at h;cases h;have sI:=((kX f).1 _ _ _ _ dU he).ok dU;have hex:=E.expr (d+1) _ e q1 x dU G he;have pU:=fL q1 [59] x sI;have jU:=fm 11 (tok p 0).at_ [] [e] [[qT e]] (iV _);generalize tok p 0=tk at *;refine ai func259 ntmps259 ?_;refine za7 ?_;exact zbK
 | false =>
  rw [hs4] at h4;rw [ab (by rw [hs4];decide)] at h;have X1:=S6 (f:=f) d p t q x hp G h;generalize tok p 0=tk at *;refine ai func259 ntmps259 ?_;refine za7 ?_;refine V [0] X1 ?_;exact al
theorem iss (f:Nat):Tq f:=by
 induction f using Nat.strongRecOn with
 | _ f ih =>
  cases f with
  | zero=>exact ⟨fun d p t q x _ _ h=>by simp [iS] at h,fun d p t q x _ _ h=>by simp [iS] at h⟩
  | succ f =>
   have C:=ih f (Nat.lt_succ_self f)
   have Cs:∀ f',f'<=f->Tq f':=fun f' h=>ih f' (Nat.lt_succ_of_le h)
   exact ⟨fun d p t q x hp hd h=>U3 Cs d p t q x hp hd h,fun d p t q x hp hd h=>YU C d p t q x hp hd h⟩
end Go.Xg
namespace Go.Xg
open Go.RowKit Go.Xw Go.Proofs Tryz
open GV (U)
open Go.Xp (Nd T bc aD iO dX bE)
attribute [local irreducible] GW GL GO YG GC GA bg bj
def uA (n:Nd):List GV:=[.v (ii n.kind),.v (ii n.at_),.v (ii n.n),.v (sv n.s),ints n.kids]
def EE (t:T) (x:Value):List GV:=[.v (ii t.n.kind),.v (ii t.n.at_),.v (ii t.n.n),.v (sv t.n.s),.v x]
theorem OO:∀ (N:Nat) (t:T),bc t<=N->∀ (n:Nat) (rows:List (List GV)) (a:Option Addr) (c:Nat),rows.length=n->n+bc t<=1099511627776 ->
  GC prog 146 [.v (.slice a n c),qT t] [.vech 78 5 rows (.slice a n c)] fun g aV=>∃ a c,g=.v (.slice a (n+bc t) c)/\aV=[.vech 78 5 (rows++(iO n t).map uA) (.slice a (n+bc t) c)]:=by
 intro N
 induction N with
 | zero=>intro t h;rw [Go.Xp.fa] at h;omega
 | succ N ih =>
 intro t hN n rows a c hn hb;subst hn;rw [Go.Xp.fa] at hb hN;have fC:=Go.Xp.iu t.kids;refine ai func146 ntmps146 ?_;refine GL.hO 0 rfl rfl rfl rfl rfl rfl rfl rfl az kO ?_;intro a c;refine za2 ?_;refine GW.wk (Wk.ln 3 1) ?_
 refine GW.range (mx t.kids).length (fun k fr Γ=>∃ a c a2 c2,fr=[.v (.slice a (rows.length+1+aD (t.kids.take k)) c),qT t,U,U,U,.v (ii (rows.length:Nat)),U,U,U,U,U,U,U,U,U,U,U,U,U,U,.sl 1 (mx t.kids),.v (ii ((mx t.kids).length:Int)),.v (ii (k:Nat)),U,U,U,U,U,U,U,U,U,U,U,U,U,U,U,U,U,U,U,U,U] /\
  Γ=[.vech 78 5 (rows++EE t (.slice a2 k c2)::(dX (rows.length+1) (t.kids.take k)).map uA) (.slice a (rows.length+1+aD (t.kids.take k)) c),.vech 3 1 ((bE (rows.length+1) (t.kids.take k)).map fun z=>[.v (ii z)]) (.slice a2 k c2)]) ?_ (by rw [pf];omega) ?_ ?_ ?_
 ·refine ⟨_,_,Wk.aJ ar,a,c,none,0,rfl,?_⟩;rfl
 ·rintro k _ _ ⟨a,c,a2,c2,rfl,rfl⟩;exact ea
 ·rintro k _ _ au ⟨a,c,a2,c2,rfl,rfl⟩;rw [pf] at au;obtain ⟨kid,jN⟩:∃ kid,t.kids[k]?=some kid:=⟨t.kids[k],by simp [au]⟩;have hr:=DD jN;have dR:=Go.Xp.xf jN;have hle:=Go.Xp.xe t.kids (k+1)
  have nP:t.kids.take (k+1)=t.kids.take k++[kid]:=by rw [dh,jN];rfl
  have hX:((dX (rows.length+1) (t.kids.take k)).map uA).length=aD (t.kids.take k):=by rw [cj,Go.Xp.uV]
  have Pp:((bE (rows.length+1) (t.kids.take k)).map fun z=>[GV.v (ii z)]).length=k:=by rw [cj,Go.Xp.eC,gy];omega
  rw [nP,Go.Xp.yI,Go.Xp.AW,Go.Xp.pg];simp only [bE,dX,aD,ef,Nat.add_zero,mo,List.map_cons,map_nil,<-iy]
  have z7:=fun (rs:List (List GV)) a c h=>ih kid G (rows.length+1+aD (t.kids.take k)) rs a c h G
  generalize (dX (rows.length+1) (t.kids.take k)).map uA=acJ at *;generalize ((bE (rows.length+1) (t.kids.take k)).map fun z=>[GV.v (ii z)])=ks at *;generalize aD (t.kids.take k)=s at *;subst Pp
  have mw:∀ r:List GV,(rows++r::acJ).length=rows.length+1+s:=fun r=>by simp;omega
  have bx:(rows++EE t (.slice a2 ks.length c2)::acJ)[rows.length]?=some (EE t (.slice a2 ks.length c2)):=by simp
  have jI:=mw (EE t (.slice a2 ks.length c2));unfold EE at bx jI |-;refine zah ?_;intro a3 c3;refine za2 ?_;refine I6 ?_;rw [Iy];simp only [bQ];refine I ?_;refine bU [0] (z7 _ _ _ (mw _)) ?_;rintro _ _ ⟨a4,c4,rfl,rfl⟩;refine zaC ?_;refine ⟨rfl,rfl,_,_,Wk.aJ ar,a4,c4,a3,c3,rfl,?_⟩;rw [fP];rfl
 ·rintro _ _ ⟨a,c,a2,c2,rfl,rfl⟩;rw [pf,di];rw [Go.Xp.fa,Go.Xp.OM]
  have Pp:((bE (rows.length+1) t.kids).map fun z=>[GV.v (ii z)]).length=t.kids.length:=by rw [cj,Go.Xp.eC]
  have ud:ints (bE (rows.length+1) t.kids)=.sl 1 ((bE (rows.length+1) t.kids).map fun z=>[GV.v (ii z)]):=rfl;rw [List.map_cons];simp only [uA,EE];rw [ud,show rows.length+(aD t.kids+1)=rows.length+1+aD t.kids by omega];generalize (dX (rows.length+1) t.kids).map uA=acJ at *;generalize ((bE (rows.length+1) t.kids).map fun z=>[GV.v (ii z)])=ks at *;generalize aD t.kids=s at *
  have bx:∀ r:List GV,(rows++r::acJ)[rows.length]?=some r:=fun r=>by simp
  refine bh ?_;apply GW.wk
  ·apply Wk.Ns (i:=0) (idx:=rows.length) (o:=4) (j:=1)
   ·rfl
   ·exact bx _
   ·rfl
   ·rfl
   ·rfl
  rw [Iy];simp only [bQ];refine zb5 ?_;exact zeH
open Go.Sp Go.Im
open Go.Xp (jc Ar)
structure HW where
 aT:Option Addr
 cT:Nat
 aG:Option Addr
 cG:Nat
 aA:Option Addr
 cA:Nat
 aF:Option Addr
 cF:Nat
def tj (x:Ar):List GV:=[.v (sv x.name),.v (ii x.size)]
def sn (x:ah × List ah):List GV:=[.v (sv x.1),strs x.2,.v (ii 0)]
def nj (x:ah):List GV:=[.v (sv x)]
abbrev hx (st:PS) (h:HW):PX:=⟨.slice h.aT st.trees.length h.cT,.slice h.aG st.globals.length h.cG,.slice h.aA st.arrays.length h.cA,.slice h.aF st.fns.length h.cF,.slice none 0 0⟩
abbrev w8 (p:RS) (st:PS) (h:HW):List Ob:=[cq p (hx st h),.vech 79 1 (mx st.trees) (.slice h.aT st.trees.length h.cT),.vech 9 1 (st.globals.map nj) (.slice h.aG st.globals.length h.cG),.vech 98 2 (st.arrays.map tj) (.slice h.aA st.arrays.length h.cA),.vech 65 3 (st.fns.map sn) (.slice h.aF st.fns.length h.cF)]
theorem yO {α β:Type} (g:α->β) (l:List α) (x:α):(l++[x]).map g=l.map g++[g x]:=by simp
theorem Q0 {f:Nat} (p:RS) (st:PS) (h:HW) (q:RS) (eP:PS) (n:Nat) (hp:p.ok) (hn:st.le n) (hb:n+1<=1099511627776) (hs:is p 0 jc=true) (hw:iW f p st=some (q,eP)) :
  GC prog 145 [.loc 0 0] (w8 p st h) (fun g aV=>g=.tup []/\∃ h',aV=w8 q eP h'):=by
 obtain ⟨FJ,c8⟩:=id hp;obtain ⟨xH,bZ,hn3,hn4⟩:=hn;unfold iW at hw;rw [ae hs] at hw;have hi:=l6 p 0 jc (hx st h) hp aC;rw [hs] at hi;have lW:=(lH hs).ok hp
 have dq:=s9 p.next (hx st h) lW
 have eB:=(jA lW).ok lW;generalize (tok p.next 0).s=s at *
 generalize bI p.next=p2 at *
 have r9:=l6 p2 0 [91] (hx st h) eB aC
 have ab3:¬ (p2.code=0/\is p2 0 [91]=true)->True:=fun _=>trivial
 cases hc:(p2.code==0) with
 | false =>
  have dw:¬ p2.code=0:=by simpa using hc
  rw [ab (fun hh=>dw hh.1)] at hw;cases hw
  have xC:(st.globals.map nj).length+1=(st.globals++[s]).length:=by simp
  have nO:st.globals.map nj++[[GV.v (sv s)]]=(st.globals++[s]).map nj:=by simp [nj]
  have hlen:(st.globals.map nj).length+1<=1099511627776:=by simp;omega
  refine ai func145 ntmps145 ?_;refine zeJ ?_;exact zaL
 | true =>
  have dw:p2.code=0:=by simpa using hc
  cases ej:is p2 0 [91] with
  | false =>
   rw [ej] at r9;rw [ab (fun hh=>by have:=hh.2;rw [ej] at this;cases this)] at hw;cases hw
   have xC:(st.globals.map nj).length+1=(st.globals++[s]).length:=by simp
   have nO:st.globals.map nj++[[GV.v (sv s)]]=(st.globals++[s]).map nj:=by simp [nj]
   have hlen:(st.globals.map nj).length+1<=1099511627776:=by simp;omega
   refine ai func145 ntmps145 ?_;refine zeJ ?_;refine V [0] r9 ?_;exact zaL
  | true =>
   rw [ej] at r9;rw [ae ⟨dw,ej⟩] at hw;have Ae:=(lH ej).ok eB;have acr:=eB.1;have XS:=eB.2;have acs:=Ae.1;have acu:=Ae.2
   have ht:=tN p2.next 0 (hx st h) Ae aC
   have HQ:=Bm p2.next (hx st h) Ae
   have Hs:(tok p2.next 0).kind=1->p2.next.next.ok:=fun hk=>(cE (uk (p:=p2.next) (k:=0) (by rw [hk];decide))).ok Ae
   generalize tok p2.next 0=tk at *
   by_cases hk:tk.kind=1
   ·rw [ae hk] at hw;cases hw
    have fk:(tk.kind != 1)=false:=by simpa using hk
    have Ue:=Hs hk;have acv:=Ue.1
    have HO:=fL p2.next.next [93] (hx st h) Ue
    have hp5:=(c7 Ue [93]).ok Ue
    generalize want p2.next.next [93]=p5 at *
    have xC:(st.arrays.map tj).length+1=(st.arrays++[(⟨s,tk.n⟩:Ar)]).length:=by simp
    have nO:st.arrays.map tj++[[GV.v (sv s),.v (ii tk.n)]]=(st.arrays++[(⟨s,tk.n⟩:Ar)]).map tj:=by simp [tj]
    have hlen:(st.arrays.map tj).length+1<=1099511627776:=by simp;omega
    refine ai func145 ntmps145 ?_;refine zeJ ?_;refine V [0] r9 ?_;refine zd3 ?_;refine zal ?_;refine V [0] HO ?_;refine aM (ay 0 10 (.a 10 (.a 11 (ay 12 3 (.a 15 .nil))))) ?_;refine zdE ?_;refine OA rfl rfl (GL.pk 3 rfl rfl rfl az rfl rfl (by refine ⟨?_,?_⟩;(· show _+1<=_;omega);(· show (_+1) * _<=_;omega)) ?_);intro a c;refine dM ?_;generalize hX:chunk 1 2 _=acJ
    obtain rfl:acJ=[tj ⟨s,tk.n⟩]:=by rw [<-hX];rfl
    clear hX
    try (generalize hX:chunk 1 2 _=acJ;obtain rfl:acJ=[tj ⟨s,tk.n⟩]:=by rw [<-hX];rfl)
    rw [show (st.arrays.map tj).length+[tj ⟨s,tk.n⟩].length=(st.arrays++[(⟨s,tk.n⟩:Ar)]).length by simp,<-yO tj st.arrays ⟨s,tk.n⟩];refine bq ?_;refine zal ?_;refine V [0] (fL p5 [59] (hx { st with arrays:=st.arrays++[⟨s,tk.n⟩] } { h with aA:=a,cA:=c }) hp5) ?_;refine dN ?_;exact ⟨rfl,{ h with aA:=a,cA:=c },rfl⟩
   ·rw [ab hk] at hw;cases hw
    have fk:(tk.kind != 1)=true:=by simpa using hk
    refine ai func145 ntmps145 ?_;refine zeJ ?_;refine V [0] r9 ?_;refine zd3 ?_;refine V [0] HQ ?_;exact zdo
open Go.Xp (jv)
theorem ND {f:Nat} (p:RS) (st:PS) (h:HW) (q:RS) (eP:PS) (hp:p.ok) (hs:is p 0 jc=false) (lY:is p 0 jv=false) (hw:iW f p st=some (q,eP)) :
  GC prog 145 [.loc 0 0] (w8 p st h) (fun g aV=>g=.tup []/\∃ h',aV=w8 q eP h'):=by
 unfold iW at hw;rw [ab zfK,ab (by rw [lY];decide)] at hw;cases hw;have hi:=l6 p 0 jc (hx st h) hp aC;have r9:=l6 p 0 jv (hx st h) hp aC;have HQ:=Bm p (hx st h) hp;rw [hs] at hi;rw [lY] at r9;refine ai func145 ntmps145 ?_;refine V [0] hi ?_;refine V [0] r9 ?_;refine V [0] HQ ?_;exact zdo
abbrev Zq (p:RS) (st:PS) (h:HW) (s:ah) (acc:List ah) (a:Option Addr) (c:Nat):List Ob:=w8 p st h++[.box 65 [.v (sv s),.v (.slice a acc.length c),.v (ii 0)],.vech 9 1 (acc.map nj) (.slice a acc.length c)]
theorem NF {f:Nat} (p:RS) (st:PS) (h:HW) (q:RS) (eP:PS) (n:Nat) (hp:p.ok) (hn:st.le n) (hb:n+f+4<=1099511627776) (vA:is p 0 jc=false) (hs:is p 0 jv=true) (hw:iW f p st=some (q,eP)) :
  GC prog 145 [.loc 0 0] (w8 p st h) (fun g aV=>g=.tup []/\∃ h',aV=w8 q eP h'):=by
 obtain ⟨FJ,c8⟩:=id hp;obtain ⟨xH,bZ,hn3,hn4⟩:=hn;unfold iW at hw;rw [ab (by rw [vA];decide),ae hs] at hw;have z6:=l6 p 0 jc (hx st h) hp aC;rw [vA] at z6;have hi:=l6 p 0 jv (hx st h) hp aC;rw [hs] at hi;have lW:=(lH hs).ok hp
 have dq:=s9 p.next (hx st h) lW
 have eB:=(jA lW).ok lW;generalize (tok p.next 0).s=s at *
 generalize bI p.next=p2 at *
 have pU:=fL p2 [40] (hx st h) eB;have Ae:=(c7 eB [40]).ok eB;generalize want p2 [40]=p3 at *
 cases hm:qU f [] p3 with
 | none=>rw [hm] at hw;cases hw
 | some r =>
 obtain ⟨l,q1⟩:=r;rw [hm] at hw;simp only at hw;refine ai func145 ntmps145 ?_;refine V [0] z6 ?_;refine zeJ ?_;refine zal ?_;refine V [0] pU ?_;refine GW.wk (Wk.ln 9 1) ?_;refine GW.loop (fun z:Nat × List ah × RS=>z.1) (fun z fr Γ=>∃ a c,fr=[.loc 0 0,U,U,U,.loc 5 0,U,U,U,U,U,U,U,U,U,U,U,U,U,U,U,U,U,U,U,U,U,U,U,U,U,U,U,U,U,U,U,U,U,U,U,U,U,U,U,U,U,U,U,U,U,U,U,U,U,U,U,U,U,U,U,U,U,U,U,U,U,U,U,U,U,U,U,U,U,U,U,U,U,U,U,U,U,U,U,U,U,U,U,U,U,U,U,U,U,U,U,U,U,U,U,U,U,U,U,U,U,U,U,U,U,U,U,U,U,U,U,U,U,U,U,U,U,U,U,U,U,U,U,U,U,U,U,U,U,U,U,U,U,U,U,U,U,U,U,U,U,U,U,U,U,U,U,U]/\Γ=Zq z.2.2 st h s z.2.1 a c/\z.2.2.ok/\z.2.1.length+z.1<=f/\qU z.1 z.2.1 z.2.2=some (l,q1)) (f,[],p3) ?_ ?_
 ·exact ⟨_,_,Wk.aJ ar,none,0,rfl,rfl,Ae,by simp,hm⟩
 clear hm Ae pU eB dq hi z6 lW;rintro ⟨g,acc,p⟩ _ _ ⟨a,c,rfl,rfl,hp,BK,hm⟩;simp only at hp BK hm
 cases g with
 | zero=>cases hm
 | succ g =>
 rw [qU] at hm;have hi:=l6 p 0 [41] (hx st h) hp aC
 by_cases hgo:p.code=0/\is p 0 [41]=false
 ·obtain ⟨hc,xJ⟩:=id hgo;rw [ae hgo] at hm;rw [xJ] at hi
  have dw:(p.code==0)=true:=by simpa using hc
  by_cases h0:acc.length=0
  ·obtain rfl:=gx h0
   have hd:decide ((0:Int) < (([]:List ah).length:Int))=false:=by decide
   rw [ae (by rfl)] at hm;have dq:=s9 p (hx st h) hp;have eB:=(jA hp).ok hp;generalize (tok p 0).s=s2 at *;refine zca ?_;refine zbB ?_;refine aB [0] dq ?_;refine zau ?_;refine OA rfl rfl (GL.pk 6 (news:=[nj s2]) rfl rfl rfl az rfl rfl (by refine ⟨?_,?_⟩;(· show _+1<=_;omega);(· show (_+1) * _<=_;omega)) ?_);intro a2 c2;refine zbI ?_;exact ⟨(g,[s2],bI p),⟨_,_,Wk.aJ ar,a2,c2,rfl,rfl,eB,by simp at BK |-;omega,hm⟩,by simp⟩
  ·have hd:decide ((0:Int) < (acc.length:Int))=true:=by simpa using by omega
   rw [ab h0] at hm;have hwc:=fL p [44] (hx st h) hp;have oc:=(c7 hp [44]).ok hp;generalize want p [44]=pw at *;have dq:=s9 pw (hx st h) oc;have eB:=(jA oc).ok oc;generalize (tok pw 0).s=s2 at *
   have hlen:(acc.map nj).length<=f:=by simp;omega
   refine zca ?_;refine zal ?_;refine V [0] hwc ?_;refine zbB ?_;refine aB [0] dq ?_;refine zau ?_;refine OA rfl rfl (GL.pk 6 (news:=[nj s2]) rfl rfl rfl az rfl rfl (by refine ⟨?_,?_⟩;(· show _+1<=_;omega);(· show (_+1) * _<=_;omega)) ?_);intro a2 c2;refine dM ?_
   try rw [show (acc.map nj).length+1=(acc++[s2]).length by simp]
   rw [show (acc.map nj).length+[nj s2].length=(acc++[s2]).length by simp,<-yO nj acc s2];refine bq ?_;exact ⟨(g,acc++[s2],bI pw),⟨_,_,Wk.aJ ar,a2,c2,rfl,rfl,eB,by simp;omega,hm⟩,by simp⟩
 ·rw [ab hgo] at hm
  obtain ⟨rfl,rfl⟩:acc=l/\want p [41]=q1:=by simpa using hm
  clear hm;have Um:=fL p [41] (hx st h) hp;have hpq:=(c7 hp [41]).ok hp
  have jI:(mx st.trees).length+1<=1099511627776:=by rw [pf];omega
  have mw:(st.fns.map sn).length+1<=1099511627776:=by simp;omega
  by_cases hc:p.code=0
  ·have dw:(p.code==0)=true:=by simpa using hc
   have xJ:is p 0 [41]=true:=by
    cases h3:is p 0 [41] with
    | true=>rfl
    | false=>exact absurd ⟨hc,h3⟩ hgo
   rw [xJ] at hi
   by_cases hqc:(want p [41]).code=0
   ·have R3:((want p [41]).code==0)=true:=by simpa using hqc
    rw [ae hqc] at hw
    cases eH:iS f (.block 1) (want p [41]) with
    | none=>rw [eH] at hw;cases hw
    | some r =>
    obtain ⟨t,qq⟩:=r;rw [eH] at hw
    obtain ⟨rfl,rfl⟩:qq=q/\_=eP:=by simpa using hw
    have eQ:=(iss f).block 1 _ t qq (hx st h) hpq G eH;clear eH hqc;generalize want p [41]=pq at *;refine zca ?_;refine jF ?_;refine I ?_;refine zcF ?_;refine OA rfl rfl (GL.pk 1 (news:=[[qT t]]) rfl rfl rfl az rfl rfl (by refine ⟨?_,?_⟩;(· show _+1<=_;omega);(· show (_+1) * _<=_;omega)) ?_);intro a3 c3;refine dM ?_
    try rw [show (mx st.trees).length+1=(st.trees++[t]).length by simp [pf]]
    refine zd1 ?_;apply GW.wk
    ·apply Wk.tM (i:=5) (o:=1) (j:=6)
     ·rfl
     ·rfl
     ·rfl
     ·rfl
    simp only [oset,bQ];refine aM (ay 0 7 (.a 7 (.a 8 (ay 9 3 (.a 12 .nil))))) ?_;refine zdE ?_;refine OA rfl rfl (GL.pk 4 (news:=[sn (s,acc)]) rfl rfl rfl az rfl rfl (by refine ⟨?_,?_⟩;(· show _+1<=_;omega);(· show (_+1) * _<=_;omega)) ?_);intro a4 c4;refine dM ?_
    try rw [show (st.fns.map sn).length+1=(st.fns++[(s,acc)]).length by simp]
    exact zbe
   ·have R3:((want p [41]).code==0)=false:=by simpa using hqc
    rw [ab hqc] at hw;cases hw;clear hqc;generalize want p [41]=pq at *;refine zca ?_;refine jF ?_;refine I ?_;refine zal ?_;refine V [0] Um ?_;exact zdo
  ·have dw:(p.code==0)=false:=by simpa using hc
   by_cases hqc:(want p [41]).code=0
   ·have R3:((want p [41]).code==0)=true:=by simpa using hqc
    rw [ae hqc] at hw
    cases eH:iS f (.block 1) (want p [41]) with
    | none=>rw [eH] at hw;cases hw
    | some r =>
    obtain ⟨t,qq⟩:=r;rw [eH] at hw
    obtain ⟨rfl,rfl⟩:qq=q/\_=eP:=by simpa using hw
    have eQ:=(iss f).block 1 _ t qq (hx st h) hpq G eH;clear eH hqc;generalize want p [41]=pq at *;refine za1 ?_;refine zcF ?_;refine OA rfl rfl (GL.pk 1 (news:=[[qT t]]) rfl rfl rfl az rfl rfl (by refine ⟨?_,?_⟩;(· show _+1<=_;omega);(· show (_+1) * _<=_;omega)) ?_);intro a3 c3;refine dM ?_
    try rw [show (mx st.trees).length+1=(st.trees++[t]).length by simp [pf]]
    refine zd1 ?_;apply GW.wk
    ·apply Wk.tM (i:=5) (o:=1) (j:=6)
     ·rfl
     ·rfl
     ·rfl
     ·rfl
    simp only [oset,bQ];refine aM (ay 0 7 (.a 7 (.a 8 (ay 9 3 (.a 12 .nil))))) ?_;refine zdE ?_;refine OA rfl rfl (GL.pk 4 (news:=[sn (s,acc)]) rfl rfl rfl az rfl rfl (by refine ⟨?_,?_⟩;(· show _+1<=_;omega);(· show (_+1) * _<=_;omega)) ?_);intro a4 c4;refine dM ?_
    try rw [show (st.fns.map sn).length+1=(st.fns++[(s,acc)]).length by simp]
    exact zbe
   ·have R3:((want p [41]).code==0)=false:=by simpa using hqc
    rw [ab hqc] at hw;cases hw;clear hqc;generalize want p [41]=pq at *;refine za1 ?_;refine zal ?_;refine V [0] Um ?_;exact zdo
open Go.Xp (Tok)
theorem Wq {f:Nat} (p:RS) (st:PS) (h:HW) (q:RS) (eP:PS) (n:Nat) (hp:p.ok) (hn:st.le n) (hb:n+f+4<=1099511627776) (hw:iW f p st=some (q,eP)) :
  GC prog 145 [.loc 0 0] (w8 p st h) (fun g aV=>g=.tup []/\∃ h',aV=w8 q eP h'):=by
 cases D:is p 0 jc with
 | true=>exact Q0 p st h q eP n hp hn G D hw
 | false =>
  cases X:is p 0 jv with
  | true=>exact NF p st h q eP n hp hn hb D X hw
  | false=>exact ND p st h q eP hp D X hw
def pF (fns:List (ah × List ah)) (trees:List T) (k:Nat):List (List GV):=fns.mapIdx fun i x=>[.v (sv x.1),strs x.2,.v (ii (if i < k then ((aD (trees.take i):Nat):Int) else 0))]
theorem Ix:∀ (rows:List (List GV)) (i j o:Nat) (g:GV),(gF rows i o g)[j]?=if j=i then (rows[j]?).map (fun r=>bQ r o g) else rows[j]?
 | [],i,j,o,g=>by simp [gF]
 | r::rs,0,0,o,g=>by simp [gF]
 | r::rs,0,j+1,o,g=>by simp [gF]
 | r::rs,i+1,0,o,g=>by simp [gF]
 | r::rs,i+1,j+1,o,g=>by
  rw [gF,List.getElem?_cons_succ,Ix rs i j o g];simp
theorem V0 (fns:List (ah × List ah)) (trees:List T):fns.map sn=pF fns trees 0:=by
 apply List.ext_getElem?;intro i;rw [pF,getElem?_mapIdx,bp]
 cases fns[i]? <;> simp [sn]
theorem Qv (fns:List (ah × List ah)) (trees:List T) (k:Nat):gF (pF fns trees k) k 2 (.v (ii ((aD (trees.take k):Nat):Int)))=pF fns trees (k+1):=by
 apply List.ext_getElem?;intro i;rw [Ix,pF,pF,getElem?_mapIdx,getElem?_mapIdx]
 by_cases h:i=k
 ·subst h;rw [ae rfl]
  cases fns[i]? with
  | none=>rfl
  | some x=>simp [bQ]
 ·rw [ab h]
  cases fns[i]? with
  | none=>rfl
  | some x =>
   have:(i < k)=(i < k+1):=by simp;omega
   simp [this]
theorem SW {fns:List (ah × List ah)} {trees:List T} {k:Nat} (j:Nat) (h:k < fns.length):∃ x,(pF fns trees j)[k]?=some [.v (sv x.1),strs x.2,.v (ii (if k < j then ((aD (trees.take k):Nat):Int) else 0))]/\fns[k]?=some x:=by
 refine ⟨fns[k],?_,by simp [h]⟩;rw [pF,getElem?_mapIdx];simp [h]
def Lw (q:RS) (st:PS):GV :=
 if q.code=0 then
  if aD st.trees > 800 then .tup [.agg [.sl 1 [],.sl 2 [],.sl 3 [],.sl 5 []],.v (ii 10),.v (ii 0)]
  else .tup [.agg [.sl 1 (st.globals.map nj),.sl 2 (st.arrays.map tj),.sl 3 (pF st.fns st.trees st.trees.length),.sl 5 ((dX 0 st.trees).map uA)],.v (ii 0),.v (ii 0)]
 else .tup [.agg [.sl 1 [],.sl 2 [],.sl 3 [],.sl 5 []],.v (ii q.code),.v (ii q.at_)]
theorem JN {acK f:Nat} (ts:List Tok) (e:Int) (q:RS) (st:PS) (hl:ts.length<=1099511627776) (hb:acK+f+4<=1099511627776) (hz:q.code=0->aD st.trees<=1099511627776) (h:pC acK f ⟨ts,0,e,0,0⟩ .empty=some (q,st)) :
  GF prog 86 [gW ts,.v (ii e)] [] (Lw q st) []:=by
 unfold Lw;refine ai func86 ntmps86 ?_;refine GW.wk (Wk.ln 79 1) ?_;refine GW.wk (Wk.ln 9 1) ?_;refine GW.wk (Wk.ln 98 2) ?_;refine GW.wk (Wk.ln 65 3) ?_;refine GW.loop (fun z:Nat × RS × PS=>z.1) (fun z fr Γ=>∃ h n,fr=[gW ts,.v (ii e),U,U,.loc 0 0,.v (ii 0),.v (ii 0),.loc 1 0,U,U,U,U,U,U,U,U,U,U,U,U,U,U,U,U,U,U,U,U,U,U,U,U,U,U,U,U,U,U,U,U,U,U,U,U,U,U,U,U,U,U,U,U,U,U,U,U,U,U,U,U,U,U,U,U,U,U,U,U,U,U,U,U,U,U,U,U,U,U,U]/\Γ=.box 28 [.v (.slice none 0 0),.v (.slice none 0 0),.v (.slice none 0 0),.v (.slice none 0 0)]::w8 z.2.1 z.2.2 h/\z.2.1.l=ts/\z.2.1.ok/\z.2.2.le n/\n+z.1<=acK/\pC z.1 f z.2.1 z.2.2=some (q,st)) (acK,⟨ts,0,e,0,0⟩,.empty) ?_ ?_
 ·exact ⟨_,_,Wk.aJ ar,⟨none,0,none,0,none,0,none,0⟩,0,rfl,rfl,rfl,⟨aX _,hl⟩,⟨aH _,aH _,aH _,rfl⟩,by simp,h⟩
 clear h;rintro ⟨g,p,s⟩ _ _ ⟨hd,n,rfl,rfl,c8,hp,hn,BK,h⟩;simp only at c8 hp hn BK h
 cases g with
 | zero=>cases h
 | succ g =>
 rw [pC] at h
 by_cases hgo:p.code=0/\p.i < p.l.length
 ·rw [ae hgo] at h
  have dw:(p.code==0)=true:=by simpa using hgo.1
  have au:decide ((p.i:Int) < ((ts.map cZ).length:Int))=true:=by
   have:=hgo.2;rw [c8] at this;exact zbT
  cases hw:iW f p s with
  | none=>rw [hw] at h;cases h
  | some r =>
   obtain ⟨p2,s2⟩:=r;rw [hw] at h;simp only at h;have fE:=ZM hp hw;refine I ?_;refine bU [1,2,3,4,5] (Wq p s hd p2 s2 n hp hn G hw) ?_;rintro _ _ ⟨rfl,oP,rfl⟩;refine zaC ?_;exact ⟨(g,p2,s2),⟨_,_,Wk.aJ ar,oP,n+1,rfl,rfl,by rw [fE.1,c8],fE.ok hp,ZK hw hn,by show n+1+g<=acK;omega,h⟩,by simp⟩
 ·rw [ab hgo] at h
  obtain ⟨rfl,rfl⟩:p=q/\s=st:=by simpa using h
  clear h
  have hex:∀ b1 b2:Bool,(p.code==0)=b1->decide ((p.i:Int) < ((ts.map cZ).length:Int))=b2->b1=true->b2=false:=fun b1 b2 D X h3=>by
   subst h3
   cases b2 with
   | false=>rfl
   | true=>exact absurd ⟨by simpa using D,by rw [c8];simpa using X⟩ hgo
  by_cases hc:p.code=0
  ·rw [ae hc];have hz:=hz hc
   have dw:(p.code==0)=true:=by simpa using hc
   have ly:(p.code != 0)=false:=by simpa using hc
   have au:=hex _ _ dw rfl rfl;have kH:=hn.trees;have FH:=hn.fns;have vw:=pf s.trees;have qx:=Go.Xp.iu s.trees;refine za1 ?_;refine GW.wk (by apply Wk.Bd (t:=52) (i:=2) <;> rfl) ?_;simp only [oset,bQ];refine I ?_;refine GW.wk (Wk.ln 78 5) ?_;rw [V0 s.fns s.trees]
   refine GW.range s.trees.length (fun k fr Γ=>∃ aN cN,fr=[U,U,U,U,.loc 0 0,.v (ii 0),.v (ii 0),U,.loc 6 0,U,U,U,U,U,U,U,U,U,U,U,U,U,U,U,U,U,U,U,U,U,U,U,U,U,U,U,U,U,U,U,U,U,U,U,U,U,U,U,U,U,U,U,.sl 1 (mx s.trees),.v (ii (s.trees.length:Int)),.v (ii (k:Nat)),U,U,U,U,U,U,U,U,U,U,U,U,U,U,U,U,U,U,U,U,U,U,U,U]/\Γ=[.box 28 [.v (.slice none 0 0),.v (.slice none 0 0),.v (.slice none 0 0),.v (.slice none 0 0)],cq p (hx s hd),.vec 79 1 (mx s.trees).length (mx s.trees),.vech 9 1 (s.globals.map nj) (.slice hd.aG s.globals.length hd.cG),.vech 98 2 (s.arrays.map tj) (.slice hd.aA s.arrays.length hd.cA),.vech 65 3 (pF s.fns s.trees k) (.slice hd.aF s.fns.length hd.cF),
    .box 28 [.v (.slice hd.aG s.globals.length hd.cG),.v (.slice hd.aA s.arrays.length hd.cA),.v (.slice hd.aF s.fns.length hd.cF),.v (.slice aN (aD (s.trees.take k)) cN)],.vech 78 5 ((dX 0 (s.trees.take k)).map uA) (.slice aN (aD (s.trees.take k)) cN)]) ?_ G ?_ ?_ ?_
   ·exact ⟨_,_,Wk.aJ ar,none,0,rfl,rfl⟩
   ·rintro k _ _ ⟨aN,cN,rfl,rfl⟩;exact ea
   ·rintro k _ _ au ⟨aN,cN,rfl,rfl⟩;obtain ⟨t,ht⟩:∃ t,s.trees[k]?=some t:=⟨s.trees[k],by simp [au]⟩;have hr:=DD ht;have dR:=Go.Xp.xf ht;have hle:=Go.Xp.xe s.trees (k+1)
    have nP:s.trees.take (k+1)=s.trees.take k++[t]:=by rw [dh,ht];rfl
    obtain ⟨x,pB,KV⟩:=SW (fns:=s.fns) (trees:=s.trees) (k:=k) k G;rw [ab (Nat.lt_irrefl k)] at pB;have xI:k < (pF s.fns s.trees k).length:=(bu pB).1
    have hX:((dX 0 (s.trees.take k)).map uA).length=aD (s.trees.take k):=by rw [cj,Go.Xp.uV]
    have lV:=OO (bc t) t (aH _) (aD (s.trees.take k)) _ aN cN hX G;rw [<-Qv s.fns s.trees k,nP,Go.Xp.AW,Go.Xp.pg];simp only [dX,aD,ef,Nat.add_zero,ed,mo];generalize (dX 0 (s.trees.take k)).map uA=acJ at *;generalize aD (s.trees.take k)=z at *;generalize pF s.fns s.trees k=R at *;refine I ?_;refine I6 ?_;refine I ?_;refine bU [7] lV ?_;rintro _ _ ⟨a5,c5,rfl,rfl⟩;refine zaC ?_;exact ⟨rfl,rfl,_,_,Wk.aJ ar,a5,c5,rfl,rfl⟩
   ·rintro _ _ ⟨aN,cN,rfl,rfl⟩;rw [di]
    have hX:((dX 0 s.trees).map uA).length=aD s.trees:=by rw [cj,Go.Xp.uV]
    by_cases h8:aD s.trees > 800
    ·rw [ae h8]
     have Xe:decide ((800:Int) < (aD s.trees:Int))=true:=by simpa using by omega
     generalize aD s.trees=z at *;refine I ?_;refine DP ?_;exact zaT
    ·rw [ab h8]
     have Xe:decide ((800:Int) < (((dX 0 s.trees).map uA).length:Int))=false:=by rw [hX];simpa using by omega
     refine bh ?_;refine GW.wk (by apply Wk.tM (i:=6) (o:=0) (j:=3) <;> rfl) ?_;simp only [oset,bQ];refine GW.wk (by apply Wk.tM (i:=6) (o:=1) (j:=4) <;> rfl) ?_;simp only [oset,bQ];refine GW.wk (by apply Wk.tM (i:=6) (o:=2) (j:=5) <;> rfl) ?_;simp only [oset,bQ];refine GW.wk (by apply Wk.tM (i:=6) (o:=3) (j:=7) <;> rfl) ?_;simp only [oset,bQ];refine I ?_;refine og ?_;exact zak
  ·rw [ab hc]
   have dw:(p.code==0)=false:=by simpa using hc
   have ly:(p.code != 0)=true:=by simpa using hc
   refine za1 ?_;refine aM (ay 0 9 (.a 9 (.q 10 (.q 11 .nil)))) ?_;refine bq ?_;refine DP ?_;exact zaT
end Go.Xg
namespace Go.Xg
open Go.RowKit Go.Xw Go.Proofs Tryz
open GV (U)
open Go.Sp (small ew eJ)
open Go.Im (qb)
attribute [local irreducible] GW GL GO YG GC GA bg bj
theorem AQ (c:UInt8):GF prog 237 [Fl c] [] (.v (.bool (ew c))) []:=by
 unfold ew;refine ei func237 ntmps237 ?_
 cases h:decide ((48:Int)<=(c.toNat:Int))
 all_goals
  exact aw
theorem Cv (c:UInt8):GF prog 239 [Fl c] [] (.v (.bool (small c))) []:=by
 unfold small;refine ei func239 ntmps239 ?_
 cases h:decide ((97:Int)<=(c.toNat:Int))
 all_goals
  exact aw
theorem M1 (c:UInt8):GF prog 240 [Fl c] [] (.v (.bool (eJ c))) []:=by
 unfold eJ;have hs:=Cv c;have hd:=AQ c;generalize small c=b1 at *;generalize ew c=b2 at *;refine ai func240 ntmps240 ?_;refine kj [] hs ?_
 cases b1 with
 | true =>
  exact aw
 | false =>
  cases D:decide ((65:Int)<=(c.toNat:Int)) with
  | true =>
   cases X:decide ((c.toNat:Int)<=90) with
   | true =>
    exact aw
   | false =>
    refine I ?_;refine kj [] hd ?_
    cases b2 with
    | true =>
     exact aw
    | false =>
     exact aw
  | false =>
   refine I ?_;refine kj [] hd ?_
   cases b2 with
   | true =>
    exact aw
   | false =>
    exact aw
theorem UH (test:FuncId) [hf:aP prog test] (p:UInt8->Bool) (ht:∀ c,GF prog test [Fl c] [] (.v (.bool (p c))) []) (s:ah) (a:Nat) (hs:s.length<=1099511627776) (ha:a<=s.length) :
  GF prog 238 [.v (sv s),.v (ii (a:Nat)),.v (.func (.func test) #[] #[])] [] (.v (ii (Go.Sp.run s p (s.length+1) a:Nat))) []:=by
 generalize hR:Go.Sp.run s p (s.length+1) a=R;refine ai func238 ntmps238 ?_;refine GW.loop (fun x:Nat × Nat=>x.1) (fun x fr Γ=>fr=[.v (sv s),.v (ii (x.2:Nat)),.v (.func (.func test) #[] #[]),U,U,U,U,U,U,U,U,U,U,U,U,U,U,U,U,U,U]/\Γ=[]/\x.2<=s.length/\s.length < x.1+x.2/\Go.Sp.run s p x.1 x.2=R) (s.length+1,a) ?_ ?_
 ·exact ⟨_,_,Wk.aJ ar,rfl,rfl,ha,by simp only;omega,hR⟩
 ·rintro ⟨f,a⟩ _ _ ⟨rfl,rfl,ha,hf2,h⟩;simp only at ha hf2 h
  cases f with
  | zero=>omega
  | succ f =>
  rw [Go.Sp.run] at h
  cases hc:s[a]? with
  | none =>
   rw [hc] at h;simp only at h;subst h;have kF:s.length<=a:=oH hc
   have hd:decide ((a:Int) < (s.length:Int))=false:=by simpa using kF
   exact zdy
  | some c =>
   rw [hc] at h;simp only at h;have au:a < s.length:=(bu hc).1
   have hd:decide ((a:Int) < (s.length:Int))=true:=by simpa using au
   have oQ:=ht c
   cases hdc:p c with
   | false =>
    rw [hdc] at oQ;rw [ab (by rw [hdc];simp)] at h;subst h;refine I ?_;refine kl [] oQ ?_;exact zdy
   | true =>
    rw [hdc] at oQ;rw [ae hdc] at h;refine I ?_;refine kl [] oQ ?_;refine I ?_;exact ⟨(f,a+1),⟨_,_,Wk.aJ ar,rfl,rfl,au,by simp only;omega,h⟩,by simp⟩
theorem QB:Go.Lib.asciiSpaceTab=ya:=by decide
theorem OI:Go.Lib.fields [105,110,116,32,118,97,114,32,102,117,110,99,32,105,102,32,101,108,115,101,32,119,104,105,108,101,32,114,101,116,117,114,110,32,124,124,32,38,38,32,61,61,32,33,61,32,60,61,32,62,61,32,60,60,32,62,62,32,40,32,41,32,123,32,125,32,91,32,93,32,44,32,59,32,61,32,60,32,62,32,43,32,45,32,42,32,47,32,37,32,38,32,124,32,94,32,33,32,126]=qb:=by decide +kernel
open Go.Im (nh)
theorem oJ.Cy {P:Program} {f:FuncId} {vs:List Value} {w:World} {R:Value->World->Prop} (h:Calls P f vs.toArray w fun e w'=>∃ v,e=.returned v/\R v w'):oJ P f vs w R:=h
theorem Re:GF prog 297 [.v (sv [105,110,116,32,118,97,114,32,102,117,110,99,32,105,102,32,101,108,115,101,32,119,104,105,108,101,32,114,101,116,117,114,110,32,124,124,32,38,38,32,61,61,32,33,61,32,60,61,32,62,61,32,60,60,32,62,62,32,40,32,41,32,123,32,125,32,91,32,93,32,44,32,59,32,61,32,60,32,62,32,43,32,45,32,42,32,47,32,37,32,38,32,124,32,94,32,33,32,126])] [] (strs qb) []:=by
 have:=GF.abQ (P:=prog) (f:=297) (vs:=[sv [105,110,116,32,118,97,114,32,102,117,110,99,32,105,102,32,101,108,115,101,32,119,104,105,108,101,32,114,101,116,117,114,110,32,124,124,32,38,38,32,61,61,32,33,61,32,60,61,32,62,61,32,60,60,32,62,62,32,40,32,41,32,123,32,125,32,91,32,93,32,44,32,59,32,61,32,60,32,62,32,43,32,45,32,42,32,47,32,37,32,38,32,124,32,94,32,33,32,126]]) (us:=qb.map sv) (E:=9) fun K β w ht hf=>?_
 ·rw [List.map_map] at this;exact this
 ·obtain ⟨E,z,r8⟩:=vb.all ht hf ht.spc (zs:=ya.map fun z=>Value.int .u8 z) aC (fun m o x hx=>by
   rw [bp] at hx;unfold zz;rw [ab aC,ab aC,ae rfl]
   cases hs:ya[o]? with
   | none=>rw [hs] at hx;cases hx
   | some y=>rw [hs] at hx;cases hx;rfl)
  have Cg:Go.Lib.TabIs prog w "strings.asciiSpace" .u8 Go.Lib.asciiSpaceTab:=by
   unfold Go.Lib.TabIs World.var?;rw [show prog.globalNamed "strings.asciiSpace" = some 2 by kernel_rfl,QB];simp only [Option.bind_some,r8]
  have h:=strings_Fields_laid ⟨[105,110,116,32,118,97,114,32,102,117,110,99,32,105,102,32,101,108,115,101,32,119,104,105,108,101,32,114,101,116,117,114,110,32,124,124,32,38,38,32,61,61,32,33,61,32,60,61,32,62,61,32,60,60,32,62,62,32,40,32,41,32,123,32,125,32,91,32,93,32,44,32,59,32,61,32,60,32,62,32,43,32,45,32,42,32,47,32,37,32,38,32,124,32,94,32,33,32,126].toArray⟩ w aC (fun j b hb=>by
   have:∀ b∈([105,110,116,32,118,97,114,32,102,117,110,99,32,105,102,32,101,108,115,101,32,119,104,105,108,101,32,114,101,116,117,114,110,32,124,124,32,38,38,32,61,61,32,33,61,32,60,61,32,62,61,32,60,60,32,62,62,32,40,32,41,32,123,32,125,32,91,32,93,32,44,32,59,32,61,32,60,32,62,32,43,32,45,32,42,32,47,32,37,32,38,32,124,32,94,32,33,32,126]:List UInt8),b.toNat < 128:=by decide
   exact this b (br hb)) Cg
  refine oJ.Cy (Calls.mono h ?_);rintro e w' ⟨D,X⟩;rw [show ((⟨[105,110,116,32,118,97,114,32,102,117,110,99,32,105,102,32,101,108,115,101,32,119,104,105,108,101,32,114,101,116,117,114,110,32,124,124,32,38,38,32,61,61,32,33,61,32,60,61,32,62,61,32,60,60,32,62,62,32,40,32,41,32,123,32,125,32,91,32,93,32,44,32,59,32,61,32,60,32,62,32,43,32,45,32,42,32,47,32,37,32,38,32,124,32,94,32,33,32,126].toArray⟩:ByteArray).data.toList)=[105,110,116,32,118,97,114,32,102,117,110,99,32,105,102,32,101,108,115,101,32,119,104,105,108,101,32,114,101,116,117,114,110,32,124,124,32,38,38,32,61,61,32,33,61,32,60,61,32,62,61,32,60,60,32,62,62,32,40,32,41,32,123,32,125,32,91,32,93,32,44,32,59,32,61,32,60,32,62,32,43,32,45,32,42,32,47,32,37,32,38,32,124,32,94,32,33,32,126] from rfl,OI] at D X;exact ⟨_,D,by rw [cj],X⟩
theorem V5:GF prog 281 [] [] (strs qb) []:=by
 have h:=Re;generalize qb=l at *;refine ai func281 ntmps281 ?_;exact zba
theorem Cm (s:ah):GF prog 241 [.v (sv s)] [] (.v (.bool (nh s))) []:=by
 have h:=V5;have hc:=mG qb s aC;unfold nh;generalize qb=l at *;refine ai func241 ntmps241 ?_;refine V [] h ?_;refine V [] hc ?_;exact al
open Go.Sp (ir fS)
open Go.Im (dD la jz oL nQ vX nY)
theorem S3 (s:ah) (a:Nat) (c:UInt8) (hs:s.length<=1099511627776) (hc:s[a]?=some c):GF prog 242 [.v (sv s),.v (ii (a:Nat))] [] (.v (sv (jz s a))) []:=by
 have au:a < s.length:=(bu hc).1;have kW:=Cv c;refine ai func242 ntmps242 ?_;refine GW.loop (fun x:Nat=>x) (fun x fr Γ=>fr=[.v (sv s),.v (ii (a:Nat)),U,U,U,.v (ii (x:Nat)),U,U,U,U,U,U,U,U,U,U,U,U,U,U,U,U,U,U,U,U,U,U,U,U,U,U,U,U,U,U,U,U]/\Γ=[]/\x<=2/\∀ j,x < j->j<=2->la s a j=false) 2 ?_ ?_
 ·exact ⟨_,_,Wk.aJ ar,rfl,rfl,aH _,fun j D X=>by omega⟩
 ·rintro x _ _ ⟨rfl,rfl,hx,cl⟩
  have tI:∀ k,x=k+1->la s a x=false->∀ j,k < j->j<=2->la s a j=false:=fun k hk ht j D X=>by
   by_cases hj:j=x
   ·rw [hj];exact ht
   ·exact cl j G X
  have QK:∀ k,la s a k=(decide (a+k<=s.length)&&!(small c)&&nh (dD s a (a+k))):=fun k=>by unfold la;rw [hc]
  match x,hx,cl,tI with
  | 0,_,cl,_ =>
   have e:jz s a=[]:=by unfold jz;rw [cl 2 G G,cl 1 G G];rfl
   rw [e];exact zdy
  | 1,_,cl,tI =>
   have hle:decide (((a+1:Nat):Int)<=(s.length:Int))=true:=by simpa using by omega
   have hb:a<=a+1/\a+1<=s.length:=by omega
   have ht:=QK 1;rw [show decide (a+1<=s.length)=true from decide_eq_true G] at ht
   cases hsc:small c with
   | true =>
    rw [hsc] at kW ht;refine I ?_;refine V [] kW ?_;exact zea
   | false =>
    rw [hsc] at kW ht;have ek:=Cm (dD s a (a+1))
    cases hg:nh (dD s a (a+1)) with
    | false =>
     rw [hg] at ek ht;refine zdJ ?_;exact zea
    | true =>
     rw [hg] at ek ht
     have e:jz s a=dD s a (a+1):=by unfold jz;rw [cl 2 G G,ht];rfl
     rw [e];refine zdJ ?_;exact al
  | 2,_,cl,tI =>
   have ht:=QK 2
   by_cases mw:a+2<=s.length
   ·have hle:decide (((a+2:Nat):Int)<=(s.length:Int))=true:=by simpa using by omega
    have hb:a<=a+2/\a+2<=s.length:=by omega
    rw [show decide (a+2<=s.length)=true by simpa using mw] at ht
    cases hsc:small c with
    | true =>
     rw [hsc] at kW ht;refine I ?_;refine V [] kW ?_;exact zb1
    | false =>
     rw [hsc] at kW ht;have ek:=Cm (dD s a (a+2))
     cases hg:nh (dD s a (a+2)) with
     | false =>
      rw [hg] at ek ht;refine zdJ ?_;exact zb1
     | true =>
      rw [hg] at ek ht
      have e:jz s a=dD s a (a+2):=by unfold jz;rw [ht];rfl
      rw [e];refine zdJ ?_;exact al
   ·have hle:decide (((a+2:Nat):Int)<=(s.length:Int))=false:=by simpa using by omega
    rw [show decide (a+2<=s.length)=false by simpa using mw] at ht;refine I ?_;exact zb1
  | n+3,hx,_,_=>omega
def M9 (n:Int) (e:Nat) (a:Nat):GV:=if n > 2147483647 then .tup [.agg (cZ vX),.v (ii (a:Nat)),.v (ii 3)] else .tup [.agg (cZ ⟨1,n,[],a⟩),.v (ii (e:Nat)),.v (ii 0)]
theorem QJ (s:ah) (a:Nat) (c:UInt8) (hs:s.length<=1099511627776) (hc:s[a]?=some c) (hd:ew c=true) :
  GF prog 181 [.v (sv s),.v (ii (a:Nat))] [] (M9 (nQ (dD s a (oL s a)) 0) (oL s a) a) []:=by
 have au:a < s.length:=(bu hc).1;have oQ:=AQ c;rw [hd] at oQ;have pn:=UH 237 ew AQ s a hs G;obtain ⟨e1,e2,e3⟩:=Go.Sp.qn s ew (s.length+1) a G G;have ba:=Go.Im.EH s ew (s.length+1) a G;unfold oL;generalize Go.Sp.run s ew (s.length+1) a=e at *;clear e1;generalize hR:nQ (dD s a e) 0=R;refine ai func181 ntmps181 ?_;refine V [] oQ ?_;refine V [] pn ?_;refine GW.loop (fun x:Nat × Int=>e - x.1) (fun x fr Γ=>fr=[.v (sv s),.v (ii (a:Nat)),U,U,.loc 0 0,.v (ii 0),.v (ii 0),U,.v (ii (e:Nat)),.v (ii x.2),.v (ii (x.1:Nat)),U,U,U,U,U,U,U,U,U,U,U,U,U,U,U,U,U,U,U,U,U,U,U,U,U,U,U,U,U,U,U,U,U,U,U,U,U,U,U,U,U,U,U,U,U,U,U,U,U,U,U,U,U,U,U,U,U,U,U,U,U,U,U,U,U,U,U,U,U,U]/\Γ=[.box 168 (cZ vX)]/\a<=x.1/\x.1<=e/\nQ (dD s x.1 e) x.2=R/\0<=x.2/\x.2<=21474836480) (a,0) ?_ ?_
 ·exact ⟨_,_,Wk.aJ ar,rfl,rfl,aH _,e2,hR,by simp,by simp⟩
 ·rintro ⟨i,n⟩ _ _ ⟨rfl,rfl,hi,hie,h,vu,xH⟩;simp only at hi hie h vu xH
  have fin:R=n->True:=fun _=>trivial
  by_cases kH:i < e
  ·have Hy:decide ((i:Int) < (e:Int))=true:=by simpa using kH
   by_cases hn:n<=2147483647
   ·have xG:decide (n<=2147483647)=true:=by simpa using hn
    have uC:i < s.length:=by omega
    obtain ⟨d,oP⟩:∃ d,s[i]?=some d:=⟨s[i],by simp [uC]⟩
    have gQ:ew d=true:=by
     have:d∈dD s a e:=by
      unfold dD;rw [List.mem_iff_getElem?];exact ⟨i - a,by rw [List.getElem?_drop,List.getElem?_take,show a+(i - a)=i by omega,ae kH];exact oP⟩
     exact ba d this
    have Ai:(48:Int)<=(d.toNat:Int)/\(d.toNat:Int)<=57:=by
     simp only [ew,aI,decide_eq_true_eq] at gQ;exact gQ
    rw [Go.Im.rC oP kH e3,nQ,ae hn] at h;refine I ?_;exact ⟨(i+1,10 * n+((d.toNat:Int) - 48)),⟨_,_,Wk.aJ ar,rfl,rfl,by simp only;omega,kH,h,by simp only;omega,by simp only;omega⟩,by simp only;omega⟩
   ·have xG:decide (n<=2147483647)=false:=by simpa using hn
    have lT:R=n:=by
     rw [<-h]
     cases hw:dD s i e with
     | nil=>rw [nQ]
     | cons d r=>rw [nQ,ab hn]
    rw [lT];clear h lT hR fin
    have bZ:decide (2147483647 < n)=true:=by simpa using by omega
    unfold M9;rw [ae G];exact zeP
  ·have Hy:decide ((i:Int) < (e:Int))=false:=by simpa using by omega
   have lT:R=n:=by
    rw [<-h];have:dD s i e=[]:=gx (by rw [Go.Im.nb e3];omega);rw [this,nQ]
   rw [lT];clear h lT hR fin;unfold M9
   by_cases hn:n > 2147483647
   ·have bZ:decide (2147483647 < n)=true:=by simpa using hn
    rw [ae hn];exact zeP
   ·have bZ:decide (2147483647 < n)=false:=by simpa using hn
    rw [ab hn];exact zeP
theorem Wn (s:ah) (a:Nat) (c:UInt8) (hs:s.length<=1099511627776) (hc:s[a]?=some c) :
  GF prog 181 [.v (sv s),.v (ii (a:Nat))] [] (.tup [.agg (cZ (nY s a c).1),.v (ii ((nY s a c).2.1:Nat)),.v (ii (nY s a c).2.2)]) []:=by
 have au:a < s.length:=(bu hc).1;have oQ:=AQ c;have kW:=Cv c
 by_cases hd:ew c=true
 ·have h:=QJ s a c hs hc hd;unfold M9 at h;unfold nY;rw [ae hd];split at h
  ·rename_i hn;rw [ae hn];exact h
  ·rename_i hn;rw [ab hn];exact h
 ·have C7:ew c=false:=by simpa using hd
  unfold nY;rw [ab hd];rw [C7] at oQ
  by_cases hsc:small c=true
  ·rw [ae hsc];rw [hsc] at kW;have pn:=UH 240 eJ M1 s a hs G;obtain ⟨e1,e2,e3⟩:=Go.Sp.qn s eJ (s.length+1) a G G;have hw:ir s a=(s.take (fS s a)).drop a:=rfl;have ek:=Cm (ir s a);unfold fS at hw |-;rw [hw] at ek |-;generalize Go.Sp.run s eJ (s.length+1) a=e at *;have hb:a<=e/\e<=s.length:=⟨e2,e3⟩
   cases hg:nh ((s.take e).drop a) with
   | true =>
    exact zbZ
   | false =>
    exact zbZ
  ·have abE:small c=false:=by simpa using hsc
   rw [ab hsc];rw [abE] at kW;have Uh:=S3 s a c hs hc
   have hlen:(jz s a).length<=2:=by
    have:(jz s a=dD s a (a+2)\/jz s a=dD s a (a+1))\/jz s a=[]:=by
     unfold jz;split
     ·exact .inl (.inl rfl)
     ·split
      ·exact .inl (.inr rfl)
      ·exact zbq
    rcases this with (h | h) | h <;> rw [h]
    ·unfold dD;rw [kA,gy];omega
    ·unfold dD;rw [kA,gy];omega
    ·simp
   generalize jz s a=x at *
   by_cases hx:x=[]
   ·have KU:(x==[])=true:=by simpa using hx
    rw [ae hx];exact zcD
   ·have KU:(x==[])=false:=by simpa using hx
    rw [ab hx];exact zcD
open Go.Xp (Tok)
open Go.Sp (bY fu)
open Go.Im (rp vE)
def Ek (x t:ah):Bool:=decide (t.length<=x.length)&&(x.take t.length==t)
theorem L4 (x t:ah) (hx:x.length<=1099511627776) (ht:t.length<=1099511627776):GF prog 236 [.v (sv x),.v (sv t)] [] (.v (.bool (Ek x t))) []:=by
 unfold Ek
 by_cases h:t.length<=x.length
 ·have D:decide ((t.length:Int)<=(x.length:Int))=true:=by simpa using h
  rw [decide_eq_true h];refine ai func236 ntmps236 ?_;exact al
 ·have D:decide ((t.length:Int)<=(x.length:Int))=false:=by simpa using by omega
  rw [decide_eq_false h];refine ai func236 ntmps236 ?_;exact al
theorem Ji (x t:ah) (hx:x.length<=1099511627776) (ht:t.length<=1099511627776):GF prog 180 [.v (sv x),.v (sv t)] [] (.v (.bool (Ek x t))) []:=by
 have h:=L4 x t hx ht;generalize Ek x t=b at *;refine ai func180 ntmps180 ?_;exact zba
theorem Jt {s t:ah} {a:Nat} (ha:a<=s.length):Ek (s.drop a) t=bY s a t:=by
 unfold Ek bY;rw [kA,List.drop_take,show a+t.length - a=t.length by omega]
 congr 1
 rw [Bool.eq_iff_iff];simp;omega
theorem Jj (c:UInt8):GF prog 179 [.v (sv [32,9,10,13]),Fl c] [] (.v (ii (Go.Lib.indexByte [32,9,10,13] c))) []:=by
 refine GF.Yk (vs:=[sv [32,9,10,13],.int .u8 (c.toNat:Int)]) fun K β w ht hf=>?_
 refine oJ.Cy (Calls.mono (strings_IndexByte ⟨[32,9,10,13].toArray⟩ (c.toNat:Int) w) ?_);rintro e w' ⟨D,X⟩;refine ⟨_,D,?_,by rw [X];exact Ext.refl w⟩;simp
theorem Ri (x:ah) (hx:x.length<=4294967280):GF prog 156 [.v (sv x),.v (sv [42,47])] [] (.v (ii (Go.Lib.index x [42,47]))) []:=by
 refine GF.Yk (vs:=[sv x,sv [42,47]]) fun K β w ht hf=>?_
 obtain ⟨m,hm⟩:=ht.maxLen hf;refine oJ.Cy (Calls.mono (strings_Index ⟨x.toArray⟩ ⟨[42,47].toArray⟩ m w (by show (x.toArray).size < _;simp;omega) hm) ?_);rintro e w' ⟨D,X⟩;refine ⟨_,D,?_,by rw [X];exact Ext.refl w⟩;simp
theorem Rr (c:UInt8):decide ((0:Int)<=Go.Lib.indexByte [32,9,10,13] c)=fu c:=by
 have hb:fu c=((32:UInt8)==c || (9:UInt8)==c || (10:UInt8)==c || (13:UInt8)==c):=by
  have e:∀ k:UInt8,((c.toNat:Int)==(k.toNat:Int))=(k==c):=fun k=>by
   rw [Bool.eq_iff_iff];simp only [beq_iff_eq]
   exact ⟨fun h=>by
    have:c.toNat=k.toNat:=by omega
    exact (UInt8.toNat_inj.1 this).symm,fun h=>by rw [h]⟩
  have e1:=e 32;have e2:=e 9;have e3:=e 10;have e4:=e 13;unfold fu;rw [<-e1,<-e2,<-e3,<-e4];rfl
 rw [hb];unfold Go.Lib.indexByte Go.Lib.indexByte Go.Lib.indexByte Go.Lib.indexByte Go.Lib.indexByte
 cases (32:UInt8)==c <;> cases (9:UInt8)==c <;> cases (10:UInt8)==c <;> cases (13:UInt8)==c <;> decide
theorem PG (l:ah):Go.Lib.index l [42,47]=(match vE l with | none => -1 | some n=>(n:Int)):=by
 induction l with
 | nil=>rfl
 | cons b l ih =>
  rw [Go.Lib.index,vE];split
  ·rfl
  ·rw [ih]
   cases vE l with
   | none=>rfl
   | some n =>
    simp only;rw [ab (by simp <;> omega)];simp
theorem SI (s:ah) (f:Nat) (ts:List Tok) (c z:Int) (hs:s.length<=4294967280) (h:rp s f 0 []=some (ts,c,z)) :
  GF prog 120 [.v (sv s)] [] (.tup [gW ts,.v (ii c),.v (ii z)]) []:=by
 refine ai func120 ntmps120 ?_;refine GW.wk (Wk.EA (t:=5) (a:=none) (c:=0) 168 4 rfl) ?_;refine GW.loop (fun x:Nat × Nat × List Tok=>x.1) (fun x fr Γ=>∃ n rows,fr=[.v (sv s),U,.v (.slice none 0 0),.v (ii 0),.v (ii 0),.vec 0 n,.v (ii (x.2.1:Nat)),U,U,U,U,U,U,U,U,U,U,U,U,U,U,U,U,U,U,U,U,U,U,U,U,U,U,U,U,U,U,U,U,U,U,U,U,U,U,U,U,U,U,U,U,U,U,U,U]/\Γ=[.vec 168 4 0 rows]/\rows.length=n/\rows=x.2.2.map cZ/\x.2.1<=s.length/\n<=x.2.1/\rp s x.1 x.2.1 x.2.2=some (ts,c,z)) (f,0,[]) ?_ ?_
 ·exact ⟨_,_,Wk.aJ ar,0,[],rfl,rfl,rfl,rfl,aX _,aH _,h⟩
 ·clear h;rintro ⟨f,a,acc⟩ _ _ ⟨n,rows,rfl,rfl,hn,bx,ha,De,h⟩;simp only at bx ha De h
  cases f with
  | zero=>cases h
  | succ f =>
  rw [rp] at h
  cases hc:s[a]? with
  | none =>
   rw [hc] at h;cases h;have kF:s.length<=a:=oH hc
   have hd:decide ((a:Int) < (s.length:Int))=false:=by simpa using kF
   refine dF ?_;refine GW.wk (Wk.lr (t:=5) rfl rfl rfl hn) ?_;refine I ?_;refine EY ?_;exact ⟨by rw [bx];rfl,rfl⟩
  | some ch =>
   rw [hc] at h;simp only at h;have au:a < s.length:=(bu hc).1
   have hd:decide ((a:Int) < (s.length:Int))=true:=by simpa using au
   have Pm:=Jj ch;have qu:=Rr ch
   cases hb:fu ch with
   | true =>
    rw [ae hb] at h;rw [hb] at qu;generalize Go.Lib.indexByte [32,9,10,13] ch=ib at *;refine I ?_;refine V [] Pm ?_;refine jF ?_;exact ⟨(f,a+1,acc),⟨_,_,Wk.aJ ar,n,rows,rfl,rfl,hn,bx,au,by simp only;omega,h⟩,by simp⟩
   | false =>
    rw [ab zf6] at h;rw [hb] at qu;generalize Go.Lib.indexByte [32,9,10,13] ch=ib at *;have pS:=Ji (s.drop a) [47,42] (by rw [kA];omega) aC;rw [Jt ha] at pS
    cases pR:bY s a [47,42] with
    | true =>
     rw [ae pR] at h;rw [pR] at pS;have kE:=Go.Sp.lC pR;simp only [length_cons,length_nil] at kE;have z8:=Ri (s.drop (a+2)) (by rw [kA];omega);rw [PG] at z8
     have Pb:a+2<=s.length:=by omega
     cases hi:vE (s.drop (a+2)) with
     | none =>
      rw [hi] at z8 h;cases h;refine zdK ?_;refine V [] z8 ?_;exact zd2
     | some e =>
      rw [hi] at z8 h;have fB:=Go.Im.Em hi;rw [kA] at fB
      have XC:decide (((e:Nat):Int) < 0)=false:=by simp
      refine zdK ?_;refine V [] z8 ?_;refine jF ?_;exact ⟨(f,a+(e+4),acc),⟨_,_,Wk.aJ ar,n,rows,rfl,rfl,hn,bx,by simp only;omega,by simp only;omega,h⟩,by simp⟩
    | false =>
     rw [ab (by rw [pR];decide)] at h;rw [pR] at pS;have nP:=Wn s a ch G hc
     have eU:=fun h0=>Go.Im.LR hc h0
     generalize nY s a ch=R at *;obtain ⟨t,e,code⟩:=R;simp only at nP h eU
     by_cases h0:code=0
     ·rw [ab zf5] at h
      have tZ:(code != 0)=false:=by simpa using h0
      obtain ⟨_,_,k3,k4⟩:=eU h0;refine zdK ?_;refine V [] nP ?_;refine zcG ?_;exact ⟨(f,e,acc++[t]),⟨_,_,(Wk.cut (n:=1) (dP rfl) rfl).trans (Wk.aJ ar),_,_,rfl,rfl,by simp [hn],by rw [mo,bx];rfl,k4,by simp only;omega,h⟩,by simp⟩
     ·rw [ae h0] at h
      have tZ:(code != 0)=true:=by simpa using h0
      cases h;refine zdK ?_;refine V [] nP ?_;exact zd2
open Go.Xp (T bc)
open Go.Im (dS ji)
theorem Sg:∀ (N:Nat) (t:T),bc t<=N->bc t<=1099511627776->GF prog 118 [uT t] [] (.v (.bool (ji t))) []:=by
 intro N
 induction N with
 | zero=>intro t h;rw [Go.Xp.fa] at h;omega
 | succ N ih =>
 intro t hN hb;rw [Go.Xp.fa] at hN hb;have fC:=Go.Xp.iu t.kids;have nz:=tA t.kids;rw [Go.Im.Am,Go.Im.vG];unfold uT;generalize t.n.kind=kd;refine ei func118 ntmps118 ?_;refine LU ?_;refine GW.join (fun fr Γ=>fr=[.box [.v (ii kd),.v (ii t.n.at_),.v (ii t.n.n),.v (sv t.n.s),ints t.n.kids,.sl 1 (c6 t.kids)] 0,U,U,U,.v (.bool (dS kd t.kids.length)),U,U,U,U,U,U,U,U,U,U,U,U,U,U,U,U,U,U,U,U,U,U,U,U,U,U,U,U,U,U,U,U,U,U,U,U,U,U,U,U,U,U,U,U,U,U,U,U,U,U,U,U,U,U,U,U,U,U,U]/\Γ=[]) ?_ ?_
 ·rw [<-nz];generalize (c6 t.kids)=l
  by_cases D:kd=1
  ·subst D
   have dH:((1:Int)==1)=true:=by decide
   rw [show dS 1 l.length=((l.length:Int)==0) by unfold dS;simp];exact jd
  by_cases X:kd=2
  ·subst X
   have dH:((2:Int)==1)=false:=by decide
   have nL:((2:Int)==2)=true:=by decide
   rw [show dS 2 l.length=((l.length:Int)==0) by unfold dS;simp];exact jd
  by_cases h4:kd=4
  ·subst h4
   have dH:((4:Int)==1)=false:=by decide
   have nL:((4:Int)==2)=false:=by decide
   have f4:((4:Int)==4)=true:=by decide
   rw [show dS 4 l.length=true by unfold dS;simp];exact jd
  by_cases C0:kd=14
  ·subst C0
   have dH:((14:Int)==1)=false:=by decide
   have nL:((14:Int)==2)=false:=by decide
   have f4:((14:Int)==4)=false:=by decide
   have f14:((14:Int)==14)=true:=by decide
   rw [show dS 14 l.length=true by unfold dS;simp];exact jd
  by_cases h3:kd=3
  ·subst h3
   have dH:((3:Int)==1)=false:=by decide
   have nL:((3:Int)==2)=false:=by decide
   have f4:((3:Int)==4)=false:=by decide
   have f14:((3:Int)==14)=false:=by decide
   have sT:((3:Int)==3)=true:=by decide
   rw [show dS 3 l.length=((l.length:Int)==1) by unfold dS;simp];exact jd
  by_cases h5:kd=5
  ·subst h5
   have dH:((5:Int)==1)=false:=by decide
   have nL:((5:Int)==2)=false:=by decide
   have f4:((5:Int)==4)=false:=by decide
   have f14:((5:Int)==14)=false:=by decide
   have sT:((5:Int)==3)=false:=by decide
   have f5:((5:Int)==5)=true:=by decide
   rw [show dS 5 l.length=((l.length:Int)==1) by unfold dS;simp];exact jd
  by_cases h7:kd=7
  ·subst h7
   have dH:((7:Int)==1)=false:=by decide
   have nL:((7:Int)==2)=false:=by decide
   have f4:((7:Int)==4)=false:=by decide
   have f14:((7:Int)==14)=false:=by decide
   have sT:((7:Int)==3)=false:=by decide
   have f5:((7:Int)==5)=false:=by decide
   have f7:((7:Int)==7)=true:=by decide
   rw [show dS 7 l.length=((l.length:Int)==1) by unfold dS;simp];exact jd
  by_cases qP:kd=11
  ·subst qP
   have dH:((11:Int)==1)=false:=by decide
   have nL:((11:Int)==2)=false:=by decide
   have f4:((11:Int)==4)=false:=by decide
   have f14:((11:Int)==14)=false:=by decide
   have sT:((11:Int)==3)=false:=by decide
   have f5:((11:Int)==5)=false:=by decide
   have f7:((11:Int)==7)=false:=by decide
   have f11:((11:Int)==11)=true:=by decide
   rw [show dS 11 l.length=((l.length:Int)==1) by unfold dS;simp];exact jd
  by_cases nN:kd=12
  ·subst nN
   have dH:((12:Int)==1)=false:=by decide
   have nL:((12:Int)==2)=false:=by decide
   have f4:((12:Int)==4)=false:=by decide
   have f14:((12:Int)==14)=false:=by decide
   have sT:((12:Int)==3)=false:=by decide
   have f5:((12:Int)==5)=false:=by decide
   have f7:((12:Int)==7)=false:=by decide
   have f11:((12:Int)==11)=false:=by decide
   have f12:((12:Int)==12)=true:=by decide
   rw [show dS 12 l.length=((l.length:Int)==1) by unfold dS;simp];exact jd
  by_cases fH:kd=13
  ·subst fH
   have dH:((13:Int)==1)=false:=by decide
   have nL:((13:Int)==2)=false:=by decide
   have f4:((13:Int)==4)=false:=by decide
   have f14:((13:Int)==14)=false:=by decide
   have sT:((13:Int)==3)=false:=by decide
   have f5:((13:Int)==5)=false:=by decide
   have f7:((13:Int)==7)=false:=by decide
   have f11:((13:Int)==11)=false:=by decide
   have f12:((13:Int)==12)=false:=by decide
   have f13:((13:Int)==13)=true:=by decide
   rw [show dS 13 l.length=((l.length:Int)==1) by unfold dS;simp];exact jd
  by_cases h6:kd=6
  ·subst h6
   have dH:((6:Int)==1)=false:=by decide
   have nL:((6:Int)==2)=false:=by decide
   have f4:((6:Int)==4)=false:=by decide
   have f14:((6:Int)==14)=false:=by decide
   have sT:((6:Int)==3)=false:=by decide
   have f5:((6:Int)==5)=false:=by decide
   have f7:((6:Int)==7)=false:=by decide
   have f11:((6:Int)==11)=false:=by decide
   have f12:((6:Int)==12)=false:=by decide
   have f13:((6:Int)==13)=false:=by decide
   have f6:((6:Int)==6)=true:=by decide
   rw [show dS 6 l.length=((l.length:Int)==2) by unfold dS;simp];exact jd
  by_cases h8:kd=8
  ·subst h8
   have dH:((8:Int)==1)=false:=by decide
   have nL:((8:Int)==2)=false:=by decide
   have f4:((8:Int)==4)=false:=by decide
   have f14:((8:Int)==14)=false:=by decide
   have sT:((8:Int)==3)=false:=by decide
   have f5:((8:Int)==5)=false:=by decide
   have f7:((8:Int)==7)=false:=by decide
   have f11:((8:Int)==11)=false:=by decide
   have f12:((8:Int)==12)=false:=by decide
   have f13:((8:Int)==13)=false:=by decide
   have f6:((8:Int)==6)=false:=by decide
   have f8:((8:Int)==8)=true:=by decide
   rw [show dS 8 l.length=((l.length:Int)==2) by unfold dS;simp];exact jd
  by_cases oO:kd=10
  ·subst oO
   have dH:((10:Int)==1)=false:=by decide
   have nL:((10:Int)==2)=false:=by decide
   have f4:((10:Int)==4)=false:=by decide
   have f14:((10:Int)==14)=false:=by decide
   have sT:((10:Int)==3)=false:=by decide
   have f5:((10:Int)==5)=false:=by decide
   have f7:((10:Int)==7)=false:=by decide
   have f11:((10:Int)==11)=false:=by decide
   have f12:((10:Int)==12)=false:=by decide
   have f13:((10:Int)==13)=false:=by decide
   have f6:((10:Int)==6)=false:=by decide
   have f8:((10:Int)==8)=false:=by decide
   have f10:((10:Int)==10)=true:=by decide
   rw [show dS 10 l.length=((l.length:Int)==2) by unfold dS;simp];exact jd
  by_cases h9:kd=9
  ·subst h9
   have dH:((9:Int)==1)=false:=by decide
   have nL:((9:Int)==2)=false:=by decide
   have f4:((9:Int)==4)=false:=by decide
   have f14:((9:Int)==14)=false:=by decide
   have sT:((9:Int)==3)=false:=by decide
   have f5:((9:Int)==5)=false:=by decide
   have f7:((9:Int)==7)=false:=by decide
   have f11:((9:Int)==11)=false:=by decide
   have f12:((9:Int)==12)=false:=by decide
   have f13:((9:Int)==13)=false:=by decide
   have f6:((9:Int)==6)=false:=by decide
   have f8:((9:Int)==8)=false:=by decide
   have f10:((9:Int)==10)=false:=by decide
   have f9:((9:Int)==9)=true:=by decide
   cases hq:((l.length:Int)==2) with
   | true =>
    rw [show dS 9 l.length=true by unfold dS;simp [hq]];exact jd
   | false =>
    rw [show dS 9 l.length=((l.length:Int)==3) by unfold dS;simp [hq]];exact jd
  have e:dS kd l.length=false:=by unfold dS;simp [D,X,h4,C0,h3,h5,h7,qP,nN,fH,h6,h8,oO,h9]
  rw [e]
  have g1:(kd==1)=false:=by simpa using D
  have g2:(kd==2)=false:=by simpa using X
  have g4:(kd==4)=false:=by simpa using h4
  have g14:(kd==14)=false:=by simpa using C0
  have g3:(kd==3)=false:=by simpa using h3
  have g5:(kd==5)=false:=by simpa using h5
  have g7:(kd==7)=false:=by simpa using h7
  have g11:(kd==11)=false:=by simpa using qP
  have g12:(kd==12)=false:=by simpa using nN
  have g13:(kd==13)=false:=by simpa using fH
  have g6:(kd==6)=false:=by simpa using h6
  have g8:(kd==8)=false:=by simpa using h8
  have g10:(kd==10)=false:=by simpa using oO
  have g9:(kd==9)=false:=by simpa using h9
  exact jd
 ·rintro _ _ ⟨rfl,rfl⟩;generalize dS kd t.kids.length=b0;refine I ?_;refine GW.range (c6 t.kids).length (fun k fr Γ=>fr=[U,U,U,U,.v (.bool (b0&&(t.kids.take k).all ji)),U,U,U,U,U,U,U,U,U,U,U,U,U,U,U,U,U,U,U,U,U,U,U,U,U,U,U,U,U,U,U,U,U,U,U,U,U,U,U,U,U,U,U,U,U,U,.sl 1 (c6 t.kids),.v (ii ((c6 t.kids).length:Int)),.v (ii (k:Nat)),U,U,U,U,U,U,U,U,U,U]/\Γ=[]) ?_ G ?_ ?_ ?_
  ·refine ⟨_,_,Wk.aJ (cX:=[U,U,U,U,.v (.bool b0),U,U,U,U,U,U,U,U,U,U,U,U,U,U,U,U,U,U,U,U,U,U,U,U,U,U,U,U,U,U,U,U,U,U,U,U,U,U,U,U,U,U,U,U,U,U,.sl 1 (c6 t.kids),.v (ii ((c6 t.kids).length:Int)),.v (ii (0:Nat)),U,U,U,U,U,U,U,U,U,U]) ar,?_,rfl⟩;rw [List.take_zero,List.all_nil,Bool.and_true]
  ·rintro k _ _ ⟨rfl,rfl⟩;exact ea
  ·rintro k _ _ au ⟨rfl,rfl⟩;rw [nz] at au;obtain ⟨kid,jN⟩:∃ kid,t.kids[k]?=some kid:=⟨t.kids[k],by simp [au]⟩;have hr:=xZ jN;have dR:=Go.Xp.xf jN;have hle:=Go.Xp.xe t.kids (k+1);have z7:=ih kid G G
   have ba:(t.kids.take (k+1)).all ji=((t.kids.take k).all ji&&ji kid):=by rw [dh,jN,all_append];simp
   rw [ba,<-Bool.and_assoc];generalize (b0&&(t.kids.take k).all ji)=b at *
   cases b with
   | true =>
    refine I ?_;refine V [] z7 ?_;exact zaU
   | false =>
    refine I ?_;exact zaU
  ·rintro _ _ ⟨rfl,rfl⟩;rw [nz,di];exact aw
def yV (l:List T):Int:=match l.findIdx? (fun t=>!(ji t)) with | some i=>(i:Int) | none => -1
theorem PL (t:T) (hb:bc t<=1099511627776):GF prog 117 [uT t] [] (.v (.bool (!(ji t)))) []:=by
 have h:=Sg _ t (aH _) hb;generalize ji t=b at *;refine ai func117 ntmps117 ?_;exact zba
theorem Jl (l:List T) (hl:l.length<=1099511627776) (hb:∀ t∈l,bc t<=1099511627776) :
  GF prog 178 [.sl 1 (c6 l),.v (.func (.func 117) #[] #[])] [] (.v (ii (yV l))) []:=by
 have nz:=tA l;refine ai func178 ntmps178 ?_;refine GW.range (c6 l).length (fun k fr Γ=>fr=[.sl 1 (c6 l),.v (.func (.func 117) #[] #[]),U,U,U,U,U,.v (ii ((c6 l).length:Int)),.v (ii (k:Nat)),U,U,U,U,U,U,U,U,U,U]/\Γ=[]/\(l.take k).all ji=true) ?_ G ?_ ?_ ?_
 ·exact jQ
 ·exact gO
 ·rintro k _ _ au ⟨rfl,rfl,ba⟩;rw [nz] at au
  have cS:l[k]?=some l[k]:=by simp [au]
  have hr:=xZ cS;have cl:=PL l[k] (hb _ (getElem_mem au))
  have bL:(l.take (k+1)).all ji=((l.take k).all ji&&ji l[k]):=by rw [dh,cS,all_append];simp
  have BG:ji l[k]=false->yV l=(k:Int):=fun h0=>by
   have:l.findIdx? (fun t=>!(ji t))=some k:=by
    rw [List.findIdx?_eq_some_iff_getElem];refine ⟨au,by simp [h0],fun j hj=>?_⟩;rw [gP] at ba;have:=ba l[j] zfF;simp [this]
   unfold yV;rw [this]
  generalize l[k]=t at *
  cases hk:ji t with
  | true =>
   rw [hk] at cl bL;refine I ?_;refine kl [] cl ?_;exact zam
  | false =>
   rw [hk] at cl;rw [BG hk];refine I ?_;refine kl [] cl ?_;exact aw
 ·rintro _ _ ⟨rfl,rfl,ba⟩;rw [nz,di] at ba
  have:l.findIdx? (fun t=>!(ji t))=none:=by
   rw [List.findIdx?_eq_none_iff];intro x hx;rw [gP] at ba;simp [ba x hx]
  unfold yV;rw [this];exact aw
theorem SN (l:List T):decide ((0:Int)<=yV l)=!(l.all ji):=by
 unfold yV
 cases h:l.findIdx? (fun t=>!(ji t)) with
 | some i =>
  rw [List.findIdx?_eq_some_iff_getElem] at h;obtain ⟨D,X,_⟩:=h
  have:l.all ji=false:=by
   rw [List.all_eq_false];exact ⟨l[i],getElem_mem _,by simpa using X⟩
  rw [this];simp
 | none =>
  rw [List.findIdx?_eq_none_iff] at h
  have:l.all ji=true:=by rw [gP];intro x hx;simpa using h x hx
  rw [this];rfl
theorem xh (l:List T) (hl:l.length<=1099511627776) (hb:∀ t∈l,bc t<=1099511627776) :
  GF prog 116 [.sl 1 (c6 l),.v (.func (.func 117) #[] #[])] [] (.v (.bool (!(l.all ji)))) []:=by
 have h:=Jl l hl hb;rw [<-SN];generalize yV l=z at *;refine ai func116 ntmps116 ?_;exact zba
end Go.Xg
