/- Part 11 of proofs that are told in their last texts. -/
import Derived.Test.YtbfmholmeiegoaaGreatDoorCards
import Derived.Test.YtbfmholmeiegoaaGreatDoorTie
import Derived.Test.YtbfmholmeiegoaaGreatDoorQ5
import Derived.Test.YtbfmholmeiegoaaGreatDoorQ10
import Derived.Test.YtbfmholmeiegoaaGreatDoorQ7
import Derived.WalkKit
import Derived.ProofKit
import Derived.OpenShut
import Derived.ShutString
import Derived.Carry
import Derived.Deep.DeepHandedRow
import Derived.Deep.DeepWitnessRowRef
set_option linter.unusedVariables false
set_option linter.unusedSimpArgs false
set_option maxRecDepth 100000
namespace Go.Proofs.YtbfmholmeiegoaaGreatDoor.fnExactLink
open Go.ChangeShapes Go.WideShapes Go.ChangeAt Go.RowKit
open Go.ChangeMaps (open_string shut_string)
theorem own:ownKnob Tryz.prog.godebug=none:=by kernel_rfl
theorem walk (W:World) (v u:Value) (p q:Go.Sp.Src) (hv:Go.Xg.Rel (Go.Xg.KW W) (fun _=>.no) v (.agg (Go.Xg.ar p))) (hu:Go.Xg.Rel (Go.Xg.KW W) (fun _=>.no) u (.agg (Go.Xg.ar q))) (hb:Go.Im.Small p 9223372036854775807) (hc:Go.Im.Small q 9223372036854775807) (hn:Go.Im.qm p) (hm:Go.Im.qm q) (hT:Go.Xg.jl (Go.Xg.KW W) (fun _=>.no) W) :
  Calls Tryz.prog 4 #[v,u] W fun e w'=>e=.returned (.bool true)/\Below W.heap.size W w':=by
 have h:=(Go.Xg.Eo p q hb hc hn hm).calls (W:=W) (vs:=[v,u]) (.cons hv (.cons hu .nil)) hT;refine Calls.mono h ?_;rintro e w' ⟨x,rfl,hx,K,β,hr⟩;exact ⟨by rw [hr.fD],hx⟩
theorem OM (H:Type) (enc:TypeId × Value->H) (W:World) (base:Nat) (args:Array Value) (ds gs:List (DataW H)) (before:List MemPlace)
  (CQ:∀ (j:Nat) t v,Tryz.f4.params[j]?=some t->args[j]?=some v->Value.okWide Tryz.prog W .any base t v)
  (hW:DataW.Whole enc Tryz.prog Tryz.f4.params.toList Rows.fnExactLinkSpec.vars false W args.toList ds gs before) (hL:laidMetH Tryz.prog Rows.fnExactLinkRow.laid W) (hS:W.ShapedOpen Tryz.prog) :
  Calls Tryz.prog 4 args W fun e W'=>∃ v,e=.returned v/\Rows.fnExactLinkSpec.post enc Tryz.prog Tryz.f4 false true false false W args v W':=by
 have Ud:=hW;obtain ⟨p,q,IG,hV,rfl,DP,hnd⟩:=hW;have hA:DataW.TrodAll enc Tryz.prog W 0 (fun _=>true) true Tryz.f4.params.toList args.toList ds p:=IG;rw [Tryz.params4] at hA CQ;obtain ⟨v0,vs0,d0,ds0,p0,q0,Bw,rfl,rfl,h0,r0⟩:=trodAll_cons hA;obtain ⟨v1,lQ,d1,ds1,p1,q1,rfl,rfl,rfl,L,r1⟩:=trodAll_cons r0;obtain ⟨rfl,rfl,rfl⟩:=trodAll_nil r1
 obtain rfl:args=#[v0,v1]:=by cases args;simp_all
 obtain ⟨rfl,rfl⟩:=trodVars_none hV;obtain ⟨s,iy,jR,sZ⟩:=Go.Xg.Gn (fun _=>.no) (CQ 0 27 v0 rfl rfl) h0;obtain ⟨s2,vW,FQ,FT⟩:=Go.Xg.Gn (fun _=>.no) (CQ 1 27 v1 rfl rfl) L;clear IG CQ;simp only [List.append_nil] at Ud
 have ak:∀ x∈p0++p1,x.block < W.heap.size:=fun x hx=>Ud.lt x (by simpa using hx)
 have hT:Go.Xg.jl (Go.Xg.KW W) (fun _=>.no) W:=by
  have hl:laidMet Tryz.prog Rows.fnExactLinkRow.laid W:=hL;exact Go.Xg.S5 (Go.Lib.laidMet.reads hl (.tail _ (.tail _ (.head _)))) (Go.Lib.laidMet.reads hl (.tail _ (.tail _ (.tail _ (.tail _ (.head _)))))) hS
 refine (walk W v0 v1 s s2 iy vW jR FQ sZ FT hT).mono fun e W' ⟨he,hg⟩=>?_
 subst he
 exact ⟨_,rfl,Go.Xw.Ez (pa:=p0++p1) (pv:=[]) Ud (fun _ _ _=>(trodAll_cons_mk (shut_bool Tryz.underlying4 _) trodAll_mk0))
  (fun sp XH=>by
   have:=trodAll_cons_mk (WideElems.Trod_stays (by kernel_rfl) (by kernel_rfl) (of_decide_eq_true (by kernel_rfl)) h0 (fun x hx=>hg.same (ak x (List.mem_append_left _ hx))) (fun x hx=>XH x (by simp [hx]))) (trodAll_cons_mk (WideElems.Trod_stays (by kernel_rfl) (by kernel_rfl) (of_decide_eq_true (by kernel_rfl)) L (fun x hx=>hg.same (ak x (List.mem_append_right _ hx))) (fun x hx=>XH x (by simp [hx]))) (trodAll_mk0));simp only [List.append_nil] at this
   exact this)
  (fun _ _=>rfl) (by simp) hg (ok_one (by kernel_rfl) rfl (okWide_bool_mk Tryz.underlying4 _))⟩
open Go.ChangeShapes Go.WideShapes Go.ChangeAt Go.RowKit
noncomputable def vb (os:Os):World :=
 let N:=(World.settled Tryz.prog os).heap.size
 let w0:=World.holding Tryz.prog os ⟨#[.cells #[.int .u16 9,.int .u16 13,.int .u16 1,.int .u16 32,.int .u16 133,.int .u16 101,.int .u16 160,.int .u16 5760,.int .u16 5600,.int .u16 8192,.int .u16 8202,.int .u16 1,.int .u16 8232,.int .u16 8233,.int .u16 1,.int .u16 8239,.int .u16 8287,.int .u16 48,.int .u16 12288,.int .u16 12288,.int .u16 1] 284,
  .cells #[.slice (some ⟨N,0,none⟩) 7 7,.slice none 0 0,.int .i64 2] 281],#[],[]⟩
 let put (h:Array Obj) (g:Nat) (cs:Array Value):Array Obj:=h.modify g fun
  | .cells _ t frozen=>.cells cs t frozen
  | o=>o
 let ints (d:DataW Unit):Array Value:=match d with
  | .agg l=>(l.map fun x=>match x with | .lit (.int k z)=>Value.int k z | _=>.bool false).toArray
  | _=>#[]
 let L:=put w0.heap 4 (ints Rows.laid_math_bits_deBruijn32tab)
 let I:=put L 5 (ints Rows.laid_math_bits_deBruijn64tab)
 let h3:=put I 3 (ints Rows.laid_internal_strconv_uint64pow10)
 let h4:=put h3 1 (ints Rows.laid_strings_asciiSpace)
 let h5:=put h4 2 #[.pointer (some ⟨N+1,0,none⟩)]
 { w0 with heap:=h5 }
def zI:Array Value:=#[.agg #[.slice none 0 0,.slice none 0 0,.slice none 0 0,.slice none 0 0],.agg #[.slice none 0 0,.slice none 0 0,.slice none 0 0,.slice none 0 0]]
theorem Pz (os:Os):laidMet Tryz.prog Rows.fnExactLinkRow.laid ((vb os).forCall (fun _ _=>0) ⟨#[],zI,[]⟩).memory :=
 laidMet_of_run' 10 (by kernel_rfl) (by kernel_rfl)
theorem HX (os:Os) {H:Type} (enc:TypeId × Value->H) :
  (OpenSpec.ofChange Rows.fnExactLinkSpec).preRow enc Tryz.prog Tryz.f4 Rows.fnExactLinkRow.domain false Rows.fnExactLinkRow.laid ((vb os).forCall (fun _ _=>0) ⟨#[],zI,[]⟩).memory zI:=by
 have hw:(DataW.whole enc Tryz.prog ((vb os).forCall (fun _ _=>0) ⟨#[],zI,[]⟩).memory Tryz.f4.params.toList Rows.fnExactLinkSpec.vars false zI.toList 8).map (fun x=>(x.1,x.2.1)) =
   some ([.agg [.nil,.nil,.nil,.nil],.agg [.nil,.nil,.nil,.nil]],[]):=by kernel_rfl
 obtain ⟨⟨x1,x2,x3⟩,hx,vX⟩:=Option.map_eq_some_iff.1 hw;simp only [Prod.mk.injEq] at vX;obtain ⟨rfl,rfl⟩:=vX;exact OpenSpec.preRow_of_cond 8 hx (by kernel_rfl) (fun k hk=>by cases hk) (by kernel_rfl) (Pz os)
set_option maxRecDepth 100000 in
theorem lifted (os:Os) (started:os.Started) (H:Type) (enc:TypeId × Value->H) (aaK:Stop.Interp) :
  ReturnsInHanded {} Tryz.checked os 4 .any ((OpenSpec.ofChange Rows.fnExactLinkSpec).preRow enc Tryz.prog Tryz.f4 Rows.fnExactLinkRow.domain false Rows.fnExactLinkRow.laid) (((OpenSpec.ofChange Rows.fnExactLinkSpec).at aaK).post enc Tryz.prog Tryz.f4 false true false false):=by
 refine returnsInHanded_of_row (C:=Tryz.checked) (s:=OpenSpec.ofChange Rows.fnExactLinkSpec) own started (by kernel_rfl) Tryz.func4
  (witness_row_atRef (enc:=enc) (C:=Tryz.checked) false (vb os) zI rfl (by kernel_rfl) (by kernel_rfl) (by kernel_rfl) (HX os enc)) ?_
 intro W base args ds gs before CQ hW _ _ _ hL hS _;exact OM H enc W base args ds gs before CQ hW hL hS
end Go.Proofs.YtbfmholmeiegoaaGreatDoor.fnExactLink
