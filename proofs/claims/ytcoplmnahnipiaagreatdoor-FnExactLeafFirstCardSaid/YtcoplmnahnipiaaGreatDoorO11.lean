/- Part 11 of proofs that are told in their last texts. -/
import Derived.Test.YtcoplmnahnipiaaGreatDoorCards
import Derived.Test.YtcoplmnahnipiaaGreatDoorTie
import Derived.Test.YtcoplmnahnipiaaGreatDoorO5
import Derived.Test.YtcoplmnahnipiaaGreatDoorO10
import Derived.Test.YtcoplmnahnipiaaGreatDoorO7
import Derived.WalkKit
import Derived.ProofKit
import Derived.OpenShut
import Derived.ShutString
import Derived.Carry
import Derived.Deep.DeepHandedRow
import Derived.Deep.DeepWitnessRowRef
set_option linter.unusedVariables false
set_option linter.unusedSimpArgs false
set_option maxRecDepth 100000
namespace Go.Proofs.YtcoplmnahnipiaaGreatDoor.fnExactLeafFirst
open Go.ChangeShapes Go.WideShapes Go.ChangeAt Go.RowKit
open Go.ChangeMaps (open_string shut_string)
theorem own:ownKnob Tryz.prog.godebug=none:=by kernel_rfl
theorem walk (W:World) (v:Value) (p:Go.Sp.Src) (hv:Go.Xg.Rel (Go.Xg.KW W) (fun _=>.no) v (.agg (Go.Xg.ay p))) (hb:Go.Im.Small p 9223372036854775807) (hn:Go.Im.xe p) (hT:Go.Xg.fQ (Go.Xg.KW W) (fun _=>.no) W) :
  Calls Tryz.prog 8 #[v] W fun e w'=>e=.returned (.bool true)/\Below W.heap.size W w':=by
 have h:=(Go.Xg.xc p hb hn).calls (W:=W) (vs:=[v]) (.cons hv .nil) hT;refine Calls.mono h ?_;rintro e w' ⟨x,rfl,hx,K,β,hr⟩;exact ⟨by rw [hr.eD],hx⟩
theorem OO (H:Type) (enc:TypeId × Value->H) (W:World) (base:Nat) (args:Array Value) (ds gs:List (DataW H)) (before:List MemPlace)
  (Fp:∀ (j:Nat) t v,Tryz.f8.params[j]?=some t->args[j]?=some v->Value.okWide Tryz.prog W .any base t v)
  (hW:DataW.Whole enc Tryz.prog Tryz.f8.params.toList Rows.fnExactLeafFirstSpec.vars false W args.toList ds gs before) (hL:laidMetH Tryz.prog Rows.fnExactLeafFirstRow.laid W) (hS:W.ShapedOpen Tryz.prog) :
  Calls Tryz.prog 8 args W fun e W'=>∃ v,e=.returned v/\Rows.fnExactLeafFirstSpec.post enc Tryz.prog Tryz.f8 false true false false W args v W':=by
 have Ul:=hW;obtain ⟨p,q,Xu,hV,rfl,C6,UE⟩:=hW;have hA:DataW.TrodAll enc Tryz.prog W 0 (fun _=>true) true Tryz.f8.params.toList args.toList ds p:=Xu;rw [Tryz.params8] at hA Fp;obtain ⟨v0,vs0,d0,ds0,p0,q0,AR,rfl,rfl,h0,r0⟩:=trodAll_cons hA;obtain ⟨rfl,rfl,rfl⟩:=trodAll_nil r0
 obtain rfl:args=#[v0]:=by cases args;simp_all
 obtain ⟨rfl,rfl⟩:=trodVars_none hV;obtain ⟨s,gz,jD,rR⟩:=Go.Xg.PZ (fun _=>.no) (Fp 0 27 v0 rfl rfl) h0;clear Xu Fp;simp only [List.append_nil] at Ul
 have ao:∀ x∈p0,x.block < W.heap.size:=fun x hx=>Ul.lt x (by simpa using hx)
 have hT:Go.Xg.fQ (Go.Xg.KW W) (fun _=>.no) W:=by
  have hl:laidMet Tryz.prog Rows.fnExactLeafFirstRow.laid W:=hL;exact Go.Xg.Th (Go.Lib.laidMet.reads hl (.tail _ (.tail _ (.head _)))) (Go.Lib.laidMet.reads hl (.tail _ (.tail _ (.tail _ (.tail _ (.head _)))))) hS
 refine (walk W v0 s gz jD rR hT).mono fun e W' ⟨he,hg⟩=>?_
 subst he
 exact ⟨_,rfl,Go.Xw.DU (pa:=p0) (pv:=[]) Ul (fun _ _ _=>(trodAll_cons_mk (shut_bool Tryz.underlying4 _) trodAll_mk0))
  (fun sp hsp=>by
   have:=trodAll_cons_mk (WideElems.Trod_stays (by kernel_rfl) (by kernel_rfl) (of_decide_eq_true (by kernel_rfl)) h0 (fun x hx=>hg.same (ao x hx)) (fun x hx=>hsp x (by simpa using hx))) (trodAll_mk0);simp only [List.append_nil] at this
   exact this)
  (fun _ _=>rfl) (by simp) hg (ok_one (by kernel_rfl) rfl (okWide_bool_mk Tryz.underlying4 _))⟩
open Go.ChangeShapes Go.WideShapes Go.ChangeAt Go.RowKit
noncomputable def uc (os:Os):World :=
 let N:=(World.settled Tryz.prog os).heap.size
 let w0:=World.holding Tryz.prog os ⟨#[.cells #[.int .u16 9,.int .u16 13,.int .u16 1,.int .u16 32,.int .u16 133,.int .u16 101,.int .u16 160,.int .u16 5760,.int .u16 5600,.int .u16 8192,.int .u16 8202,.int .u16 1,.int .u16 8232,.int .u16 8233,.int .u16 1,.int .u16 8239,.int .u16 8287,.int .u16 48,.int .u16 12288,.int .u16 12288,.int .u16 1] 281,
  .cells #[.slice (some ⟨N,0,none⟩) 7 7,.slice none 0 0,.int .i64 2] 278],#[],[]⟩
 let put (h:Array Obj) (g:Nat) (cs:Array Value):Array Obj:=h.modify g fun
  | .cells _ t frozen=>.cells cs t frozen
  | o=>o
 let ints (d:DataW Unit):Array Value:=match d with
  | .agg l=>(l.map fun x=>match x with | .lit (.int k z)=>Value.int k z | _=>.bool false).toArray
  | _=>#[]
 let h1:=put w0.heap 4 (ints Rows.laid_math_bits_deBruijn32tab)
 let h2:=put h1 5 (ints Rows.laid_math_bits_deBruijn64tab)
 let h3:=put h2 3 (ints Rows.laid_internal_strconv_uint64pow10)
 let h4:=put h3 0 (ints Rows.laid_strings_asciiSpace)
 let h5:=put h4 2 #[.pointer (some ⟨N+1,0,none⟩)]
 { w0 with heap:=h5 }
def yO:Array Value:=#[.agg #[.slice none 0 0,.slice none 0 0,.slice none 0 0,.slice none 0 0]]
theorem PE (os:Os):laidMet Tryz.prog Rows.fnExactLeafFirstRow.laid ((uc os).forCall (fun _ _=>0) ⟨#[],yO,[]⟩).memory :=
 laidMet_of_run' 10 (by kernel_rfl) (by kernel_rfl)
theorem Hv (os:Os) {H:Type} (enc:TypeId × Value->H) :
  (OpenSpec.ofChange Rows.fnExactLeafFirstSpec).preRow enc Tryz.prog Tryz.f8 Rows.fnExactLeafFirstRow.domain false Rows.fnExactLeafFirstRow.laid ((uc os).forCall (fun _ _=>0) ⟨#[],yO,[]⟩).memory yO:=by
 have hw:(DataW.whole enc Tryz.prog ((uc os).forCall (fun _ _=>0) ⟨#[],yO,[]⟩).memory Tryz.f8.params.toList Rows.fnExactLeafFirstSpec.vars false yO.toList 8).map (fun x=>(x.1,x.2.1)) =
   some ([.agg [.nil,.nil,.nil,.nil]],[]):=by kernel_rfl
 obtain ⟨⟨x1,x2,x3⟩,hx,vc⟩:=Option.map_eq_some_iff.1 hw;simp only [Prod.mk.injEq] at vc;obtain ⟨rfl,rfl⟩:=vc;exact OpenSpec.preRow_of_cond 8 hx (by kernel_rfl) (fun k hk=>by cases hk) (by kernel_rfl) (PE os)
set_option maxRecDepth 100000 in
theorem lifted (os:Os) (started:os.Started) (H:Type) (enc:TypeId × Value->H) (F:Stop.Interp) :
  ReturnsInHanded {} Tryz.checked os 8 .any ((OpenSpec.ofChange Rows.fnExactLeafFirstSpec).preRow enc Tryz.prog Tryz.f8 Rows.fnExactLeafFirstRow.domain false Rows.fnExactLeafFirstRow.laid) (((OpenSpec.ofChange Rows.fnExactLeafFirstSpec).at F).post enc Tryz.prog Tryz.f8 false true false false):=by
 refine returnsInHanded_of_row (C:=Tryz.checked) (s:=OpenSpec.ofChange Rows.fnExactLeafFirstSpec) own started (by kernel_rfl) Tryz.func8
  (witness_row_atRef (enc:=enc) (C:=Tryz.checked) false (uc os) yO rfl (by kernel_rfl) (by kernel_rfl) (by kernel_rfl) (Hv os enc)) ?_
 intro W base args ds gs before Fp hW _ _ _ hL hS _;exact OO H enc W base args ds gs before Fp hW hL hS
end Go.Proofs.YtcoplmnahnipiaaGreatDoor.fnExactLeafFirst
