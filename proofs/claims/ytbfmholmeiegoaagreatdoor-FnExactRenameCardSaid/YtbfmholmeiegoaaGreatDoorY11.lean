/- Part 11 of proofs that are told in their last texts. -/
import Derived.Test.YtbfmholmeiegoaaGreatDoorCards
import Derived.Test.YtbfmholmeiegoaaGreatDoorTie
import Derived.Test.YtbfmholmeiegoaaGreatDoorY5
import Derived.Test.YtbfmholmeiegoaaGreatDoorY10
import Derived.Test.YtbfmholmeiegoaaGreatDoorY7
import Derived.WalkKit
import Derived.ProofKit
import Derived.OpenShut
import Derived.ShutString
import Derived.Carry
import Derived.Deep.DeepHandedRow
import Derived.Deep.DeepWitnessRowRef
set_option linter.unusedVariables false
set_option linter.unusedSimpArgs false
set_option maxRecDepth 100000
namespace Go.Proofs.YtbfmholmeiegoaaGreatDoor.fnExactRename
open Go.ChangeShapes Go.WideShapes Go.ChangeAt Go.RowKit
open Go.ChangeMaps (open_string shut_string)
theorem own:ownKnob Tryz.prog.godebug=none:=by kernel_rfl
theorem walk (W:World) (v:Value) (s1 s2:ByteArray) (p:Go.Sp.Src) (hv:Go.Xg.Rel (Go.Xg.KW W) (fun _=>.no) v (.agg (Go.Xg.av p))) (hb:Go.Im.Small p 9223372036854775807) (hn:Go.Im.xD p) (hT:Go.Xg.jZ (Go.Xg.KW W) (fun _=>.no) W) :
  Calls Tryz.prog 3 #[v,.string s1,.string s2] W fun e w'=>e=.returned (.bool true)/\Below W.heap.size W w':=by
 have h:=(Go.Xg.CA p hb hn s1.data.toList s2.data.toList).calls (W:=W) (vs:=[v,Go.Xw.sv s1.data.toList,Go.Xw.sv s2.data.toList]) (.cons hv (.cons (.v _) (.cons (.v _) .nil))) hT;rw [<-Go.Xw.AD,<-Go.Xw.AD] at h;refine Calls.mono h ?_;rintro e w' ⟨x,rfl,hx,K,β,hr⟩;exact ⟨by rw [hr.gk],hx⟩
theorem Q3 (H:Type) (enc:TypeId × Value->H) (W:World) (base:Nat) (args:Array Value) (ds gs:List (DataW H)) (before:List MemPlace)
  (BV:∀ (j:Nat) t v,Tryz.f3.params[j]?=some t->args[j]?=some v->Value.okWide Tryz.prog W .any base t v)
  (hW:DataW.Whole enc Tryz.prog Tryz.f3.params.toList Rows.fnExactRenameSpec.vars false W args.toList ds gs before) (hL:laidMetH Tryz.prog Rows.fnExactRenameRow.laid W) (hS:W.ShapedOpen Tryz.prog) :
  Calls Tryz.prog 3 args W fun e W'=>∃ v,e=.returned v/\Rows.fnExactRenameSpec.post enc Tryz.prog Tryz.f3 false true false false W args v W':=by
 have W1:=hW;obtain ⟨p,q,Kd,hV,rfl,Ff,hnd⟩:=hW;have hA:DataW.TrodAll enc Tryz.prog W 0 (fun _=>true) true Tryz.f3.params.toList args.toList ds p:=Kd;rw [Tryz.params3] at hA BV;obtain ⟨v0,vs0,d0,ds0,p0,q0,CN,rfl,rfl,h0,r0⟩:=trodAll_cons hA;obtain ⟨v1,jW,d1,ds1,p1,q1,rfl,rfl,rfl,F,r1⟩:=trodAll_cons r0;obtain ⟨v2,vs2,d2,ds2,p2,q2,rfl,rfl,rfl,I,r2⟩:=trodAll_cons r1;obtain ⟨rfl,rfl,rfl⟩:=trodAll_nil r2
 obtain rfl:args=#[v0,v1,v2]:=by cases args;simp_all
 obtain ⟨rfl,rfl⟩:=trodVars_none hV;obtain ⟨s1,rfl,rfl,rfl,w1⟩:=open_string Tryz.underlying9 (BV 1 9 v1 rfl rfl) F;obtain ⟨s2,rfl,rfl,rfl,w2⟩:=open_string Tryz.underlying9 (BV 2 9 v2 rfl rfl) I;obtain ⟨s,iQ,kj,tY⟩:=Go.Xg.Sh (fun _=>.no) (BV 0 27 v0 rfl rfl) h0;clear Kd BV;simp only [List.append_nil] at W1
 have ak:∀ x∈p0,x.block < W.heap.size:=fun x hx=>W1.lt x (by simpa using hx)
 have hT:Go.Xg.jZ (Go.Xg.KW W) (fun _=>.no) W:=by
  have hl:laidMet Tryz.prog Rows.fnExactRenameRow.laid W:=hL;exact Go.Xg.VL (Go.Lib.laidMet.reads hl (.tail _ (.tail _ (.head _)))) (Go.Lib.laidMet.reads hl (.tail _ (.tail _ (.tail _ (.tail _ (.head _)))))) hS
 refine (walk W v0 s1 s2 s iQ kj tY hT).mono fun e W' ⟨he,hg⟩=>?_
 subst he
 exact ⟨_,rfl,Go.Xw.F6 (pa:=p0) (pv:=[]) W1 (fun _ _ _=>(trodAll_cons_mk (shut_bool Tryz.underlying4 _) trodAll_mk0))
  (fun sp hsp=>by
   have:=trodAll_cons_mk (WideElems.Trod_stays (by kernel_rfl) (by kernel_rfl) (of_decide_eq_true (by kernel_rfl)) h0 (fun x hx=>hg.same (ak x hx)) (fun x hx=>hsp x (by simpa using hx))) (trodAll_cons_mk (shut_string Tryz.underlying9 w1) (trodAll_cons_mk (shut_string Tryz.underlying9 w2) (trodAll_mk0)));simp only [List.append_nil] at this
   exact this)
  (fun _ _=>rfl) (by simp) hg (ok_one (by kernel_rfl) rfl (okWide_bool_mk Tryz.underlying4 _))⟩
open Go.ChangeShapes Go.WideShapes Go.ChangeAt Go.RowKit
noncomputable def vL (os:Os):World :=
 let N:=(World.settled Tryz.prog os).heap.size
 let w0:=World.holding Tryz.prog os ⟨#[.cells #[.int .u16 9,.int .u16 13,.int .u16 1,.int .u16 32,.int .u16 133,.int .u16 101,.int .u16 160,.int .u16 5760,.int .u16 5600,.int .u16 8192,.int .u16 8202,.int .u16 1,.int .u16 8232,.int .u16 8233,.int .u16 1,.int .u16 8239,.int .u16 8287,.int .u16 48,.int .u16 12288,.int .u16 12288,.int .u16 1] 284,
  .cells #[.slice (some ⟨N,0,none⟩) 7 7,.slice none 0 0,.int .i64 2] 281],#[],[]⟩
 let put (h:Array Obj) (g:Nat) (cs:Array Value):Array Obj:=h.modify g fun
  | .cells _ t frozen=>.cells cs t frozen
  | o=>o
 let ints (d:DataW Unit):Array Value:=match d with
  | .agg l=>(l.map fun x=>match x with | .lit (.int k z)=>Value.int k z | _=>.bool false).toArray
  | _=>#[]
 let F:=put w0.heap 4 (ints Rows.laid_math_bits_deBruijn32tab)
 let I:=put F 5 (ints Rows.laid_math_bits_deBruijn64tab)
 let h3:=put I 3 (ints Rows.laid_internal_strconv_uint64pow10)
 let h4:=put h3 1 (ints Rows.laid_strings_asciiSpace)
 let h5:=put h4 2 #[.pointer (some ⟨N+1,0,none⟩)]
 { w0 with heap:=h5 }
def AG:Array Value:=#[.agg #[.slice none 0 0,.slice none 0 0,.slice none 0 0,.slice none 0 0],.string ByteArray.empty,.string ByteArray.empty]
theorem RU (os:Os):laidMet Tryz.prog Rows.fnExactRenameRow.laid ((vL os).forCall (fun _ _=>0) ⟨#[],AG,[]⟩).memory :=
 laidMet_of_run' 10 (by kernel_rfl) (by kernel_rfl)
theorem JA (os:Os) {H:Type} (enc:TypeId × Value->H) :
  (OpenSpec.ofChange Rows.fnExactRenameSpec).preRow enc Tryz.prog Tryz.f3 Rows.fnExactRenameRow.domain false Rows.fnExactRenameRow.laid ((vL os).forCall (fun _ _=>0) ⟨#[],AG,[]⟩).memory AG:=by
 have hw:(DataW.whole enc Tryz.prog ((vL os).forCall (fun _ _=>0) ⟨#[],AG,[]⟩).memory Tryz.f3.params.toList Rows.fnExactRenameSpec.vars false AG.toList 8).map (fun x=>(x.1,x.2.1)) =
   some ([.agg [.nil,.nil,.nil,.nil],.lit (.string []),.lit (.string [])],[]):=by kernel_rfl
 obtain ⟨⟨x1,x2,x3⟩,hx,w5⟩:=Option.map_eq_some_iff.1 hw;simp only [Prod.mk.injEq] at w5;obtain ⟨rfl,rfl⟩:=w5;exact OpenSpec.preRow_of_cond 8 hx (by kernel_rfl) (fun k hk=>by cases hk) (by kernel_rfl) (RU os)
set_option maxRecDepth 100000 in
theorem lifted (os:Os) (started:os.Started) (H:Type) (enc:TypeId × Value->H) (acy:Stop.Interp) :
  ReturnsInHanded {} Tryz.checked os 3 .any ((OpenSpec.ofChange Rows.fnExactRenameSpec).preRow enc Tryz.prog Tryz.f3 Rows.fnExactRenameRow.domain false Rows.fnExactRenameRow.laid) (((OpenSpec.ofChange Rows.fnExactRenameSpec).at acy).post enc Tryz.prog Tryz.f3 false true false false):=by
 refine returnsInHanded_of_row (C:=Tryz.checked) (s:=OpenSpec.ofChange Rows.fnExactRenameSpec) own started (by kernel_rfl) Tryz.func3
  (witness_row_atRef (enc:=enc) (C:=Tryz.checked) false (vL os) AG rfl (by kernel_rfl) (by kernel_rfl) (by kernel_rfl) (JA os enc)) ?_
 intro W base args ds gs before BV hW _ _ _ hL hS _;exact Q3 H enc W base args ds gs before BV hW hL hS
end Go.Proofs.YtbfmholmeiegoaaGreatDoor.fnExactRename
