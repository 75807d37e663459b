/- Part 11 of proofs that are told in their last texts. -/
import Derived.Test.YtcoplmnahnipiaaGreatDoorCards
import Derived.Test.YtcoplmnahnipiaaGreatDoorTie
import Derived.Test.YtcoplmnahnipiaaGreatDoorQ5
import Derived.Test.YtcoplmnahnipiaaGreatDoorQ10
import Derived.Test.YtcoplmnahnipiaaGreatDoorQ7
import Derived.WalkKit
import Derived.ProofKit
import Derived.OpenShut
import Derived.ShutString
import Derived.Carry
import Derived.Deep.DeepHandedRow
import Derived.Deep.DeepWitnessRowRef
set_option linter.unusedVariables false
set_option linter.unusedSimpArgs false
set_option maxRecDepth 100000
namespace Go.Proofs.YtcoplmnahnipiaaGreatDoor.fnExactGroups
open Go.ChangeShapes Go.WideShapes Go.ChangeAt Go.RowKit
open Go.ChangeMaps (open_string shut_string)
theorem own:ownKnob Tryz.prog.godebug=none:=by kernel_rfl
theorem walk (W:World) (v:Value) (p:Go.Sp.Src) (hv:Go.Xg.Rel (Go.Xg.KW W) (fun _=>.no) v (.agg (Go.Xg.ax p))) (hb:Go.Im.Small p 9223372036854775807) (hn:Go.Im.xh p) (hT:Go.Xg.gD (Go.Xg.KW W) (fun _=>.no) W) :
  Calls Tryz.prog 6 #[v] W fun e w'=>e=.returned (.bool true)/\Below W.heap.size W w':=by
 have h:=(Go.Xg.AB p hb hn).calls (W:=W) (vs:=[v]) (.cons hv .nil) hT;refine Calls.mono h ?_;rintro e w' ⟨x,rfl,hx,K,β,hr⟩;exact ⟨by rw [hr.eC],hx⟩
theorem OW (H:Type) (enc:TypeId × Value->H) (W:World) (base:Nat) (args:Array Value) (ds gs:List (DataW H)) (before:List MemPlace)
  (Fs:∀ (j:Nat) t v,Tryz.f6.params[j]?=some t->args[j]?=some v->Value.okWide Tryz.prog W .any base t v)
  (hW:DataW.Whole enc Tryz.prog Tryz.f6.params.toList Rows.fnExactGroupsSpec.vars false W args.toList ds gs before) (hL:laidMetH Tryz.prog Rows.fnExactGroupsRow.laid W) (hS:W.ShapedOpen Tryz.prog) :
  Calls Tryz.prog 6 args W fun e W'=>∃ v,e=.returned v/\Rows.fnExactGroupsSpec.post enc Tryz.prog Tryz.f6 false true false false W args v W':=by
 have Us:=hW;obtain ⟨p,q,XE,hV,rfl,C7,hnd⟩:=hW;have hA:DataW.TrodAll enc Tryz.prog W 0 (fun _=>true) true Tryz.f6.params.toList args.toList ds p:=XE;rw [Tryz.params6] at hA Fs;obtain ⟨v0,vs0,d0,ds0,p0,q0,AU,rfl,rfl,h0,r0⟩:=trodAll_cons hA;obtain ⟨rfl,rfl,rfl⟩:=trodAll_nil r0
 obtain rfl:args=#[v0]:=by cases args;simp_all
 obtain ⟨rfl,rfl⟩:=trodVars_none hV;obtain ⟨s,gy,iR,sf⟩:=Go.Xg.P5 (fun _=>.no) (Fs 0 27 v0 rfl rfl) h0;clear XE Fs;simp only [List.append_nil] at Us
 have ak:∀ x∈p0,x.block < W.heap.size:=fun x hx=>Us.lt x (by simpa using hx)
 have hT:Go.Xg.gD (Go.Xg.KW W) (fun _=>.no) W:=by
  have hl:laidMet Tryz.prog Rows.fnExactGroupsRow.laid W:=hL;exact Go.Xg.Tl (Go.Lib.laidMet.reads hl (.tail _ (.tail _ (.head _)))) (Go.Lib.laidMet.reads hl (.tail _ (.tail _ (.tail _ (.tail _ (.head _)))))) hS
 refine (walk W v0 s gy iR sf hT).mono fun e W' ⟨he,hg⟩=>?_
 subst he
 exact ⟨_,rfl,Go.Xw.DW (pa:=p0) (pv:=[]) Us (fun _ _ _=>(trodAll_cons_mk (shut_bool Tryz.underlying4 _) trodAll_mk0))
  (fun sp hsp=>by
   have:=trodAll_cons_mk (WideElems.Trod_stays (by kernel_rfl) (by kernel_rfl) (of_decide_eq_true (by kernel_rfl)) h0 (fun x hx=>hg.same (ak x hx)) (fun x hx=>hsp x (by simpa using hx))) (trodAll_mk0);simp only [List.append_nil] at this
   exact this)
  (fun _ _=>rfl) (by simp) hg (ok_one (by kernel_rfl) rfl (okWide_bool_mk Tryz.underlying4 _))⟩
open Go.ChangeShapes Go.WideShapes Go.ChangeAt Go.RowKit
noncomputable def ug (os:Os):World :=
 let N:=(World.settled Tryz.prog os).heap.size
 let w0:=World.holding Tryz.prog os ⟨#[.cells #[.int .u16 9,.int .u16 13,.int .u16 1,.int .u16 32,.int .u16 133,.int .u16 101,.int .u16 160,.int .u16 5760,.int .u16 5600,.int .u16 8192,.int .u16 8202,.int .u16 1,.int .u16 8232,.int .u16 8233,.int .u16 1,.int .u16 8239,.int .u16 8287,.int .u16 48,.int .u16 12288,.int .u16 12288,.int .u16 1] 281,
  .cells #[.slice (some ⟨N,0,none⟩) 7 7,.slice none 0 0,.int .i64 2] 278],#[],[]⟩
 let put (h:Array Obj) (g:Nat) (cs:Array Value):Array Obj:=h.modify g fun
  | .cells _ t frozen=>.cells cs t frozen
  | o=>o
 let ints (d:DataW Unit):Array Value:=match d with
  | .agg l=>(l.map fun x=>match x with | .lit (.int k z)=>Value.int k z | _=>.bool false).toArray
  | _=>#[]
 let h1:=put w0.heap 4 (ints Rows.laid_math_bits_deBruijn32tab)
 let h2:=put h1 5 (ints Rows.laid_math_bits_deBruijn64tab)
 let h3:=put h2 3 (ints Rows.laid_internal_strconv_uint64pow10)
 let h4:=put h3 0 (ints Rows.laid_strings_asciiSpace)
 let h5:=put h4 2 #[.pointer (some ⟨N+1,0,none⟩)]
 { w0 with heap:=h5 }
def yR:Array Value:=#[.agg #[.slice none 0 0,.slice none 0 0,.slice none 0 0,.slice none 0 0]]
theorem PI (os:Os):laidMet Tryz.prog Rows.fnExactGroupsRow.laid ((ug os).forCall (fun _ _=>0) ⟨#[],yR,[]⟩).memory :=
 laidMet_of_run' 10 (by kernel_rfl) (by kernel_rfl)
theorem HB (os:Os) {H:Type} (enc:TypeId × Value->H) :
  (OpenSpec.ofChange Rows.fnExactGroupsSpec).preRow enc Tryz.prog Tryz.f6 Rows.fnExactGroupsRow.domain false Rows.fnExactGroupsRow.laid ((ug os).forCall (fun _ _=>0) ⟨#[],yR,[]⟩).memory yR:=by
 have hw:(DataW.whole enc Tryz.prog ((ug os).forCall (fun _ _=>0) ⟨#[],yR,[]⟩).memory Tryz.f6.params.toList Rows.fnExactGroupsSpec.vars false yR.toList 8).map (fun x=>(x.1,x.2.1)) =
   some ([.agg [.nil,.nil,.nil,.nil]],[]):=by kernel_rfl
 obtain ⟨⟨x1,x2,x3⟩,hx,vj⟩:=Option.map_eq_some_iff.1 hw;simp only [Prod.mk.injEq] at vj;obtain ⟨rfl,rfl⟩:=vj;exact OpenSpec.preRow_of_cond 8 hx (by kernel_rfl) (fun k hk=>by cases hk) (by kernel_rfl) (PI os)
set_option maxRecDepth 100000 in
theorem lifted (os:Os) (started:os.Started) (H:Type) (enc:TypeId × Value->H) (F:Stop.Interp) :
  ReturnsInHanded {} Tryz.checked os 6 .any ((OpenSpec.ofChange Rows.fnExactGroupsSpec).preRow enc Tryz.prog Tryz.f6 Rows.fnExactGroupsRow.domain false Rows.fnExactGroupsRow.laid) (((OpenSpec.ofChange Rows.fnExactGroupsSpec).at F).post enc Tryz.prog Tryz.f6 false true false false):=by
 refine returnsInHanded_of_row (C:=Tryz.checked) (s:=OpenSpec.ofChange Rows.fnExactGroupsSpec) own started (by kernel_rfl) Tryz.func6
  (witness_row_atRef (enc:=enc) (C:=Tryz.checked) false (ug os) yR rfl (by kernel_rfl) (by kernel_rfl) (by kernel_rfl) (HB os enc)) ?_
 intro W base args ds gs before Fs hW _ _ _ hL hS _;exact OW H enc W base args ds gs before Fs hW hL hS
end Go.Proofs.YtcoplmnahnipiaaGreatDoor.fnExactGroups
