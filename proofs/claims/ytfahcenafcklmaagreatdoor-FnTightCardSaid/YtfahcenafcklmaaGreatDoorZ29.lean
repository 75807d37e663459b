/- Part 29 of proofs that are told in their last texts. -/
import Derived.Test.YtfahcenafcklmaaGreatDoorCards
import Derived.Test.YtfahcenafcklmaaGreatDoorTie
import Derived.Test.YtfahcenafcklmaaGreatDoorZ11
import Derived.Test.YtfahcenafcklmaaGreatDoorZ28
import Derived.Test.YtfahcenafcklmaaGreatDoorZ18
import Derived.Test.YtfahcenafcklmaaGreatDoorZ14
import Derived.WalkKit
import Derived.ProofKit
import Derived.OpenShut
import Derived.ShutString
import Derived.Carry
import Derived.Deep.DeepHandedRow
import Derived.Deep.DeepWitnessRowRef
set_option linter.unusedVariables false
set_option linter.unusedSimpArgs false
set_option maxRecDepth 100000
namespace Go.Proofs.YtfahcenafcklmaaGreatDoor.fnTight
open Go.ChangeShapes Go.WideShapes Go.ChangeAt Go.RowKit
theorem own:ownKnob Tryz.prog.godebug=none:=by kernel_rfl
theorem walk (W:World) (v:Value) (s:Go.Xp.ae) (hv:Go.Xg.Rel (Go.Xg.KW W) (fun _=>.no) v (.sl 1 (Go.Xg.bI s))) (hT:Go.Xg.nv (Go.Xg.KW W) (fun _=>.no) W) :
  Calls Tryz.prog 7 #[v] W fun e w'=>e=.returned (.bool true)/\Below W.heap.size W w':=by
 have h:=(Go.Xg.Ke s).calls (W:=W) (vs:=[v]) (.cons hv .nil) hT;refine Calls.mono h ?_;rintro e w' ⟨x,rfl,hx,K,β,hr⟩;exact ⟨by rw [hr.gS],hx⟩
theorem zz (H:Type) (enc:TypeId × Value->H) (W:World) (base:Nat) (args:Array Value) (ds gs:List (DataW H)) (before:List MemPlace)
  (tg:∀ (j:Nat) t v,Tryz.f7.params[j]?=some t->args[j]?=some v->Value.okWide Tryz.prog W .any base t v)
  (hW:DataW.Whole enc Tryz.prog Tryz.f7.params.toList Rows.fnTightSpec.vars false W args.toList ds gs before) (hL:laidMetH Tryz.prog Rows.fnTightRow.laid W) (hS:W.ShapedOpen Tryz.prog) :
  Calls Tryz.prog 7 args W fun e W'=>∃ v,e=.returned v/\Rows.fnTightSpec.post enc Tryz.prog Tryz.f7 false true false false W args v W':=by
 have EE:=hW;obtain ⟨p,q,Li,hV,rfl,AH,Zc⟩:=hW;have hA:DataW.TrodAll enc Tryz.prog W 0 (fun _=>true) true Tryz.f7.params.toList args.toList ds p:=Li;rw [Tryz.params7] at hA tg;obtain ⟨v0,Z7,d0,Yj,p0,q0,yl,rfl,rfl,h0,r0⟩:=trodAll_cons hA;obtain ⟨rfl,rfl,rfl⟩:=trodAll_nil r0
 obtain rfl:args=#[v0]:=by cases args;simp_all
 obtain ⟨rfl,rfl⟩:=trodVars_none hV;obtain ⟨s,lC,jQ⟩:=Go.Xg.Du (fun _=>.no) Tryz.underlying22 Tryz.underlying5 (by kernel_rfl) (tg 0 22 v0 rfl rfl) h0;clear Li tg;simp only [List.append_nil] at EE
 have ar:∀ x∈p0,x.block < W.heap.size:=fun x hx=>EE.lt x (by simpa using hx)
 have hT:Go.Xg.nv (Go.Xg.KW W) (fun _=>.no) W:=by
  have hl:laidMet Tryz.prog Rows.fnTightRow.laid W:=hL;exact Go.Xg.IG (Go.Lib.laidMet.reads hl (.tail _ (.tail _ (.head _)))) (Go.Lib.laidMet.reads hl (.tail _ (.tail _ (.tail _ (.tail _ (.head _)))))) hS
 refine (walk W v0 s lC hT).mono fun e W' ⟨he,hg⟩=>?_
 subst he
 exact ⟨_,rfl,Go.Xw.w4 (pa:=p0) (pv:=[]) EE (fun _ _ _=>(trodAll_cons_mk (shut_bool Tryz.underlying4 _) trodAll_mk0))
  (fun sp TD=>by
   have:=trodAll_cons_mk (WideElems.Trod_stays (by kernel_rfl) (by kernel_rfl) (of_decide_eq_true (by kernel_rfl)) h0 (fun x hx=>hg.same (ar x hx)) (fun x hx=>TD x (by simpa using hx))) (trodAll_mk0);simp only [List.append_nil] at this
   exact this)
  (fun _ _=>rfl) (by simp) hg (ok_one (by kernel_rfl) rfl (okWide_bool_mk Tryz.underlying4 _))⟩
open Go.ChangeShapes Go.WideShapes Go.ChangeAt Go.RowKit
noncomputable def kV (os:Os):World :=
 let N:=(World.settled Tryz.prog os).heap.size
 let w0:=World.holding Tryz.prog os ⟨#[.cells #[.int .u16 9,.int .u16 13,.int .u16 1,.int .u16 32,.int .u16 133,.int .u16 101,.int .u16 160,.int .u16 5760,.int .u16 5600,.int .u16 8192,.int .u16 8202,.int .u16 1,.int .u16 8232,.int .u16 8233,.int .u16 1,.int .u16 8239,.int .u16 8287,.int .u16 48,.int .u16 12288,.int .u16 12288,.int .u16 1] 275,
  .cells #[.slice (some ⟨N,0,none⟩) 7 7,.slice none 0 0,.int .i64 2] 272],#[],[]⟩
 let put (h:Array Obj) (g:Nat) (cs:Array Value):Array Obj:=h.modify g fun
  | .cells _ t frozen=>.cells cs t frozen
  | o=>o
 let ints (d:DataW Unit):Array Value:=match d with
  | .agg l=>(l.map fun x=>match x with | .lit (.int k z)=>Value.int k z | _=>.bool false).toArray
  | _=>#[]
 let D:=put w0.heap 4 (ints Rows.laid_math_bits_deBruijn32tab)
 let I:=put D 5 (ints Rows.laid_math_bits_deBruijn64tab)
 let h3:=put I 1 (ints Rows.laid_internal_strconv_uint64pow10)
 let h4:=put h3 2 (ints Rows.laid_strings_asciiSpace)
 let h5:=put h4 3 #[.pointer (some ⟨N+1,0,none⟩)]
 { w0 with heap:=h5 }
def ot:Array Value:=#[.slice none 0 0]
theorem zQ (os:Os):laidMet Tryz.prog Rows.fnTightRow.laid ((kV os).forCall (fun _ _=>0) ⟨#[],ot,[]⟩).memory :=
 laidMet_of_run' 10 (by kernel_rfl) (by kernel_rfl)
theorem uD (os:Os) {H:Type} (enc:TypeId × Value->H) :
  (OpenSpec.ofChange Rows.fnTightSpec).preRow enc Tryz.prog Tryz.f7 Rows.fnTightRow.domain false Rows.fnTightRow.laid ((kV os).forCall (fun _ _=>0) ⟨#[],ot,[]⟩).memory ot:=by
 have hw:(DataW.whole enc Tryz.prog ((kV os).forCall (fun _ _=>0) ⟨#[],ot,[]⟩).memory Tryz.f7.params.toList Rows.fnTightSpec.vars false ot.toList 8).map (fun x=>(x.1,x.2.1)) =
   some ([.nil],[]):=by kernel_rfl
 obtain ⟨⟨x1,x2,x3⟩,hx,ke⟩:=Option.map_eq_some_iff.1 hw;simp only [Prod.mk.injEq] at ke;obtain ⟨rfl,rfl⟩:=ke;exact OpenSpec.preRow_of_cond 8 hx (by kernel_rfl) (fun k hk=>by cases hk) (by kernel_rfl) (zQ os)
set_option maxRecDepth 100000 in
theorem lifted (os:Os) (started:os.Started) (H:Type) (enc:TypeId × Value->H) (F:Stop.Interp) :
  ReturnsInHanded {} Tryz.checked os 7 .any ((OpenSpec.ofChange Rows.fnTightSpec).preRow enc Tryz.prog Tryz.f7 Rows.fnTightRow.domain false Rows.fnTightRow.laid) (((OpenSpec.ofChange Rows.fnTightSpec).at F).post enc Tryz.prog Tryz.f7 false true false false):=by
 refine returnsInHanded_of_row (C:=Tryz.checked) (s:=OpenSpec.ofChange Rows.fnTightSpec) own started (by kernel_rfl) Tryz.func7
  (witness_row_atRef (enc:=enc) (C:=Tryz.checked) false (kV os) ot rfl (by kernel_rfl) (by kernel_rfl) (by kernel_rfl) (uD os enc)) ?_
 intro W base args ds gs before tg hW _ _ _ hL hS _;exact zz H enc W base args ds gs before tg hW hL hS
end Go.Proofs.YtfahcenafcklmaaGreatDoor.fnTight
