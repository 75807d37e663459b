/- Part 11 of proofs that are told in their last texts. -/
import Derived.Test.YtbfmholmeiegoaaGreatDoorCards
import Derived.Test.YtbfmholmeiegoaaGreatDoorTie
import Derived.Test.YtbfmholmeiegoaaGreatDoorZ5
import Derived.Test.YtbfmholmeiegoaaGreatDoorZ10
import Derived.Test.YtbfmholmeiegoaaGreatDoorZ7
import Derived.WalkKit
import Derived.ProofKit
import Derived.OpenShut
import Derived.ShutString
import Derived.Carry
import Derived.Deep.DeepHandedRow
import Derived.Deep.DeepWitnessRowRef
set_option linter.unusedVariables false
set_option linter.unusedSimpArgs false
set_option maxRecDepth 100000
namespace Go.Proofs.YtbfmholmeiegoaaGreatDoor.fnExactExtract
open Go.ChangeShapes Go.WideShapes Go.ChangeAt Go.RowKit
open Go.ChangeMaps (open_string shut_string)
theorem own:ownKnob Tryz.prog.godebug=none:=by kernel_rfl
theorem walk (W:World) (v:Value) (i1:Int) (p:Go.Sp.Src) (hv:Go.Xg.Rel (Go.Xg.KW W) (fun _=>.no) v (.agg (Go.Xg.ar p))) (hb:Go.Im.Small p 9223372036854775807) (hn:Go.Im.u7 p) (hT:Go.Xg.kL (Go.Xg.KW W) (fun _=>.no) W) :
  Calls Tryz.prog 5 #[v,.int .i64 i1] W fun e w'=>e=.returned (.bool true)/\Below W.heap.size W w':=by
 have h:=(Go.Xg.B4 p hb hn i1).calls (W:=W) (vs:=[v,.int .i64 i1]) (.cons hv (.cons (.v _) .nil)) hT;refine Calls.mono h ?_;rintro e w' ⟨x,rfl,hx,K,β,hr⟩;exact ⟨by rw [hr.fF],hx⟩
theorem RE (H:Type) (enc:TypeId × Value->H) (W:World) (base:Nat) (args:Array Value) (ds gs:List (DataW H)) (before:List MemPlace)
  (El:∀ (j:Nat) t v,Tryz.f5.params[j]?=some t->args[j]?=some v->Value.okWide Tryz.prog W .any base t v)
  (hW:DataW.Whole enc Tryz.prog Tryz.f5.params.toList Rows.fnExactExtractSpec.vars false W args.toList ds gs before) (hL:laidMetH Tryz.prog Rows.fnExactExtractRow.laid W) (hS:W.ShapedOpen Tryz.prog) :
  Calls Tryz.prog 5 args W fun e W'=>∃ v,e=.returned v/\Rows.fnExactExtractSpec.post enc Tryz.prog Tryz.f5 false true false false W args v W':=by
 have XG:=hW;obtain ⟨p,q,KB,hV,rfl,Fu,hnd⟩:=hW;have hA:DataW.TrodAll enc Tryz.prog W 0 (fun _=>true) true Tryz.f5.params.toList args.toList ds p:=KB;rw [Tryz.params5] at hA El;obtain ⟨v0,vs0,d0,ds0,p0,q0,C9,rfl,rfl,h0,r0⟩:=trodAll_cons hA;obtain ⟨v1,mH,d1,ds1,p1,q1,rfl,rfl,rfl,I,r1⟩:=trodAll_cons r0;obtain ⟨rfl,rfl,rfl⟩:=trodAll_nil r1
 obtain rfl:args=#[v0,v1]:=by cases args;simp_all
 obtain ⟨rfl,rfl⟩:=trodVars_none hV;obtain ⟨i1,rfl,rfl,rfl,w1⟩:=open_int Tryz.underlying3 (El 1 3 v1 rfl rfl) I;obtain ⟨s,iI,kz,uF⟩:=Go.Xg.S4 (fun _=>.no) (El 0 27 v0 rfl rfl) h0;clear KB El;simp only [List.append_nil] at XG
 have aj:∀ x∈p0,x.block < W.heap.size:=fun x hx=>XG.lt x (by simpa using hx)
 have hT:Go.Xg.kL (Go.Xg.KW W) (fun _=>.no) W:=by
  have hl:laidMet Tryz.prog Rows.fnExactExtractRow.laid W:=hL;exact Go.Xg.Wu (Go.Lib.laidMet.reads hl (.tail _ (.tail _ (.head _)))) (Go.Lib.laidMet.reads hl (.tail _ (.tail _ (.tail _ (.tail _ (.head _)))))) hS
 refine (walk W v0 i1 s iI kz uF hT).mono fun e W' ⟨he,hg⟩=>?_
 subst he
 exact ⟨_,rfl,Go.Xw.Gj (pa:=p0) (pv:=[]) XG (fun _ _ _=>(trodAll_cons_mk (shut_bool Tryz.underlying4 _) trodAll_mk0))
  (fun sp hsp=>by
   have:=trodAll_cons_mk (WideElems.Trod_stays (by kernel_rfl) (by kernel_rfl) (of_decide_eq_true (by kernel_rfl)) h0 (fun x hx=>hg.same (aj x hx)) (fun x hx=>hsp x (by simpa using hx))) (trodAll_cons_mk (shut_int Tryz.underlying3 w1) (trodAll_mk0));simp only [List.append_nil] at this
   exact this)
  (fun _ _=>rfl) (by simp) hg (ok_one (by kernel_rfl) rfl (okWide_bool_mk Tryz.underlying4 _))⟩
open Go.ChangeShapes Go.WideShapes Go.ChangeAt Go.RowKit
noncomputable def wB (os:Os):World :=
 let N:=(World.settled Tryz.prog os).heap.size
 let w0:=World.holding Tryz.prog os ⟨#[.cells #[.int .u16 9,.int .u16 13,.int .u16 1,.int .u16 32,.int .u16 133,.int .u16 101,.int .u16 160,.int .u16 5760,.int .u16 5600,.int .u16 8192,.int .u16 8202,.int .u16 1,.int .u16 8232,.int .u16 8233,.int .u16 1,.int .u16 8239,.int .u16 8287,.int .u16 48,.int .u16 12288,.int .u16 12288,.int .u16 1] 284,
  .cells #[.slice (some ⟨N,0,none⟩) 7 7,.slice none 0 0,.int .i64 2] 281],#[],[]⟩
 let put (h:Array Obj) (g:Nat) (cs:Array Value):Array Obj:=h.modify g fun
  | .cells _ t frozen=>.cells cs t frozen
  | o=>o
 let ints (d:DataW Unit):Array Value:=match d with
  | .agg l=>(l.map fun x=>match x with | .lit (.int k z)=>Value.int k z | _=>.bool false).toArray
  | _=>#[]
 let I:=put w0.heap 4 (ints Rows.laid_math_bits_deBruijn32tab)
 let M:=put I 5 (ints Rows.laid_math_bits_deBruijn64tab)
 let h3:=put M 3 (ints Rows.laid_internal_strconv_uint64pow10)
 let h4:=put h3 1 (ints Rows.laid_strings_asciiSpace)
 let h5:=put h4 2 #[.pointer (some ⟨N+1,0,none⟩)]
 { w0 with heap:=h5 }
def Bb:Array Value:=#[.agg #[.slice none 0 0,.slice none 0 0,.slice none 0 0,.slice none 0 0],.int .i64 0]
theorem SG (os:Os):laidMet Tryz.prog Rows.fnExactExtractRow.laid ((wB os).forCall (fun _ _=>0) ⟨#[],Bb,[]⟩).memory :=
 laidMet_of_run' 10 (by kernel_rfl) (by kernel_rfl)
theorem JX (os:Os) {H:Type} (enc:TypeId × Value->H) :
  (OpenSpec.ofChange Rows.fnExactExtractSpec).preRow enc Tryz.prog Tryz.f5 Rows.fnExactExtractRow.domain false Rows.fnExactExtractRow.laid ((wB os).forCall (fun _ _=>0) ⟨#[],Bb,[]⟩).memory Bb:=by
 have hw:(DataW.whole enc Tryz.prog ((wB os).forCall (fun _ _=>0) ⟨#[],Bb,[]⟩).memory Tryz.f5.params.toList Rows.fnExactExtractSpec.vars false Bb.toList 8).map (fun x=>(x.1,x.2.1)) =
   some ([.agg [.nil,.nil,.nil,.nil],.lit (.int .i64 0)],[]):=by kernel_rfl
 obtain ⟨⟨x1,x2,x3⟩,hx,xy⟩:=Option.map_eq_some_iff.1 hw;simp only [Prod.mk.injEq] at xy;obtain ⟨rfl,rfl⟩:=xy;exact OpenSpec.preRow_of_cond 8 hx (by kernel_rfl) (fun k hk=>by cases hk) (by kernel_rfl) (SG os)
set_option maxRecDepth 100000 in
theorem lifted (os:Os) (started:os.Started) (H:Type) (enc:TypeId × Value->H) (acM:Stop.Interp) :
  ReturnsInHanded {} Tryz.checked os 5 .any ((OpenSpec.ofChange Rows.fnExactExtractSpec).preRow enc Tryz.prog Tryz.f5 Rows.fnExactExtractRow.domain false Rows.fnExactExtractRow.laid) (((OpenSpec.ofChange Rows.fnExactExtractSpec).at acM).post enc Tryz.prog Tryz.f5 false true false false):=by
 refine returnsInHanded_of_row (C:=Tryz.checked) (s:=OpenSpec.ofChange Rows.fnExactExtractSpec) own started (by kernel_rfl) Tryz.func5
  (witness_row_atRef (enc:=enc) (C:=Tryz.checked) false (wB os) Bb rfl (by kernel_rfl) (by kernel_rfl) (by kernel_rfl) (JX os enc)) ?_
 intro W base args ds gs before El hW _ _ _ hL hS _;exact RE H enc W base args ds gs before El hW hL hS
end Go.Proofs.YtbfmholmeiegoaaGreatDoor.fnExactExtract
