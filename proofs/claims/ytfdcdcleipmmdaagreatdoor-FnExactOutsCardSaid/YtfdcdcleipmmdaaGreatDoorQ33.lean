/- Part 33 of proofs that are told in their last texts. -/
import Derived.Test.YtfdcdcleipmmdaaGreatDoorCards
import Derived.Test.YtfdcdcleipmmdaaGreatDoorTie
import Derived.Test.YtfdcdcleipmmdaaGreatDoorQ5
import Derived.Test.YtfdcdcleipmmdaaGreatDoorQ32
import Derived.Test.YtfdcdcleipmmdaaGreatDoorQ7
import Derived.WalkKit
import Derived.ProofKit
import Derived.OpenShut
import Derived.ShutString
import Derived.Carry
import Derived.Deep.DeepHandedRow
import Derived.Deep.DeepWitnessRowRef
set_option linter.unusedVariables false
set_option linter.unusedSimpArgs false
set_option maxRecDepth 100000
namespace Go.Proofs.YtfdcdcleipmmdaaGreatDoor.fnExactOuts
open Go.ChangeShapes Go.WideShapes Go.ChangeAt Go.RowKit
open Go.ChangeMaps (open_string shut_string)
theorem own:ownKnob Tryz.prog.godebug=none:=by kernel_rfl
theorem walk (W:World) (v:Value) (p:Go.Sp.Src) (hv:Go.Xg.Rel (Go.Xg.KW W) (fun _=>.no) v (.agg (Go.Xg.ao p))) (hb:Go.Im.Small p 9223372036854775807) (hn:Go.Im.kz p) (hT:Go.Xg.jl (Go.Xg.KW W) (fun _=>.no) W) :
  Calls Tryz.prog 6 #[v] W fun e w'=>e=.returned (.bool true)/\Below W.heap.size W w':=by
 have h:=(Go.Xg.FH p hb hn).calls (W:=W) (vs:=[v]) (.cons hv .nil) hT;refine Calls.mono h ?_;rintro e w' ⟨x,rfl,hx,K,β,hr⟩;exact ⟨by rw [hr.gy],hx⟩
theorem p9 (H:Type) (enc:TypeId × Value->H) (W:World) (base:Nat) (args:Array Value) (ds gs:List (DataW H)) (before:List MemPlace)
  (kg:∀ (j:Nat) t v,Tryz.f6.params[j]?=some t->args[j]?=some v->Value.okWide Tryz.prog W .any base t v)
  (hW:DataW.Whole enc Tryz.prog Tryz.f6.params.toList Rows.fnExactOutsSpec.vars false W args.toList ds gs before) (hL:laidMetH Tryz.prog Rows.fnExactOutsRow.laid W) (hS:W.ShapedOpen Tryz.prog) :
  Calls Tryz.prog 6 args W fun e W'=>∃ v,e=.returned v/\Rows.fnExactOutsSpec.post enc Tryz.prog Tryz.f6 false true false false W args v W':=by
 have uo:=hW;obtain ⟨p,q,yB,hV,rfl,yK,Oc⟩:=hW;have hA:DataW.TrodAll enc Tryz.prog W 0 (fun _=>true) true Tryz.f6.params.toList args.toList ds p:=yB;rw [Tryz.params6] at hA kg;obtain ⟨v0,Xj,d0,Vl,p0,q0,vi,rfl,rfl,h0,r0⟩:=trodAll_cons hA;obtain ⟨rfl,rfl,rfl⟩:=trodAll_nil r0
 obtain rfl:args=#[v0]:=by cases args;simp_all
 obtain ⟨rfl,rfl⟩:=trodVars_none hV;obtain ⟨s,gk,ji,pJ⟩:=Go.Xg.xI (fun _=>.no) (kg 0 27 v0 rfl rfl) h0;clear yB kg;simp only [List.append_nil] at uo
 have ar:∀ x∈p0,x.block < W.heap.size:=fun x hx=>uo.lt x (by simpa using hx)
 have hT:Go.Xg.jl (Go.Xg.KW W) (fun _=>.no) W:=by
  have hl:laidMet Tryz.prog Rows.fnExactOutsRow.laid W:=hL;exact Go.Xg.z6 (Go.Lib.laidMet.reads hl (.tail _ (.tail _ (.head _)))) (Go.Lib.laidMet.reads hl (.tail _ (.tail _ (.tail _ (.tail _ (.head _)))))) hS
 refine (walk W v0 s gk ji pJ hT).mono fun e W' ⟨he,hg⟩=>?_
 subst he
 exact ⟨_,rfl,Go.Xw.pY (pa:=p0) (pv:=[]) uo (fun _ _ _=>(trodAll_cons_mk (shut_bool Tryz.underlying4 _) trodAll_mk0))
  (fun sp Hr=>by
   have:=trodAll_cons_mk (WideElems.Trod_stays (by kernel_rfl) (by kernel_rfl) (of_decide_eq_true (by kernel_rfl)) h0 (fun x hx=>hg.same (ar x hx)) (fun x hx=>Hr x (by simpa using hx))) (trodAll_mk0);simp only [List.append_nil] at this
   exact this)
  (fun _ _=>rfl) (by simp) hg (ok_one (by kernel_rfl) rfl (okWide_bool_mk Tryz.underlying4 _))⟩
open Go.ChangeShapes Go.WideShapes Go.ChangeAt Go.RowKit
noncomputable def ef (os:Os):World :=
 let N:=(World.settled Tryz.prog os).heap.size
 let w0:=World.holding Tryz.prog os ⟨#[.cells #[.int .u16 9,.int .u16 13,.int .u16 1,.int .u16 32,.int .u16 133,.int .u16 101,.int .u16 160,.int .u16 5760,.int .u16 5600,.int .u16 8192,.int .u16 8202,.int .u16 1,.int .u16 8232,.int .u16 8233,.int .u16 1,.int .u16 8239,.int .u16 8287,.int .u16 48,.int .u16 12288,.int .u16 12288,.int .u16 1] 274,
  .cells #[.slice (some ⟨N,0,none⟩) 7 7,.slice none 0 0,.int .i64 2] 271],#[],[]⟩
 let put (h:Array Obj) (g:Nat) (cs:Array Value):Array Obj:=h.modify g fun
  | .cells _ t frozen=>.cells cs t frozen
  | o=>o
 let ints (d:DataW Unit):Array Value:=match d with
  | .agg l=>(l.map fun x=>match x with | .lit (.int k z)=>Value.int k z | _=>.bool false).toArray
  | _=>#[]
 let I:=put w0.heap 4 (ints Rows.laid_math_bits_deBruijn32tab)
 let F:=put I 5 (ints Rows.laid_math_bits_deBruijn64tab)
 let h3:=put F 1 (ints Rows.laid_internal_strconv_uint64pow10)
 let h4:=put h3 2 (ints Rows.laid_strings_asciiSpace)
 let h5:=put h4 3 #[.pointer (some ⟨N+1,0,none⟩)]
 { w0 with heap:=h5 }
def gz:Array Value:=#[.agg #[.slice none 0 0,.slice none 0 0,.slice none 0 0,.slice none 0 0]]
theorem qg (os:Os):laidMet Tryz.prog Rows.fnExactOutsRow.laid ((ef os).forCall (fun _ _=>0) ⟨#[],gz,[]⟩).memory :=
 laidMet_of_run' 10 (by kernel_rfl) (by kernel_rfl)
theorem l9 (os:Os) {H:Type} (enc:TypeId × Value->H) :
  (OpenSpec.ofChange Rows.fnExactOutsSpec).preRow enc Tryz.prog Tryz.f6 Rows.fnExactOutsRow.domain false Rows.fnExactOutsRow.laid ((ef os).forCall (fun _ _=>0) ⟨#[],gz,[]⟩).memory gz:=by
 have hw:(DataW.whole enc Tryz.prog ((ef os).forCall (fun _ _=>0) ⟨#[],gz,[]⟩).memory Tryz.f6.params.toList Rows.fnExactOutsSpec.vars false gz.toList 8).map (fun x=>(x.1,x.2.1)) =
   some ([.agg [.nil,.nil,.nil,.nil]],[]):=by kernel_rfl
 obtain ⟨⟨x1,x2,x3⟩,hx,pf⟩:=Option.map_eq_some_iff.1 hw;simp only [Prod.mk.injEq] at pf;obtain ⟨rfl,rfl⟩:=pf;exact OpenSpec.preRow_of_cond 8 hx (by kernel_rfl) (fun k hk=>by cases hk) (by kernel_rfl) (qg os)
set_option maxRecDepth 100000 in
theorem lifted (os:Os) (started:os.Started) (H:Type) (enc:TypeId × Value->H) (abh:Stop.Interp) :
  ReturnsInHanded {} Tryz.checked os 6 .any ((OpenSpec.ofChange Rows.fnExactOutsSpec).preRow enc Tryz.prog Tryz.f6 Rows.fnExactOutsRow.domain false Rows.fnExactOutsRow.laid) (((OpenSpec.ofChange Rows.fnExactOutsSpec).at abh).post enc Tryz.prog Tryz.f6 false true false false):=by
 refine returnsInHanded_of_row (C:=Tryz.checked) (s:=OpenSpec.ofChange Rows.fnExactOutsSpec) own started (by kernel_rfl) Tryz.func6
  (witness_row_atRef (enc:=enc) (C:=Tryz.checked) false (ef os) gz rfl (by kernel_rfl) (by kernel_rfl) (by kernel_rfl) (l9 os enc)) ?_
 intro W base args ds gs before kg hW _ _ _ hL hS _;exact p9 H enc W base args ds gs before kg hW hL hS
end Go.Proofs.YtfdcdcleipmmdaaGreatDoor.fnExactOuts
