/- The law FnExactUnread: for every source and every number the program's Unread answers what the reference's answers, and the source reads as it did. No condition but the row's own: the library's tables are as the program's text lays them. -/
import Derived.Test.YthgncfaljaocoaaGreatDoorCards
import Derived.Test.YthgncfaljaocoaaGreatDoorTie
import Derived.Test.YthgncfaljaocoaaGreatDoorX5
import Derived.Test.YthgncfaljaocoaaGreatDoorX10
import Derived.Test.YthgncfaljaocoaaGreatDoorX8
import Derived.WalkKit
import Derived.ProofKit
import Derived.OpenShut
import Derived.ShutString
import Derived.Carry
import Derived.Deep.DeepHandedRow
import Derived.Deep.DeepWitnessRowRef
set_option linter.unusedVariables false
set_option linter.unusedSimpArgs false
set_option maxRecDepth 100000
namespace Go.Proofs.YthgncfaljaocoaaGreatDoor.fnExactUnread
open Go.ChangeShapes Go.WideShapes Go.ChangeAt Go.RowKit
open Go.ChangeMaps (open_string shut_string)
theorem own:ownKnob Tryz.prog.godebug=none:=by kernel_rfl
theorem walk (W:World) (v:Value) (i1:Int) (p:Go.Sp.Src) (hv:Go.Xg.Rel (Go.Xg.KW W) (fun _=>.no) v (.agg (Go.Xg.ar p))) (hb:Go.Im.Small p 9223372036854775807) (hn:Go.Im.rE p) (hT:Go.Xg.gB (Go.Xg.KW W) (fun _=>.no) W) :
  Calls Tryz.prog 7 #[v,.int .i64 i1] W fun e w'=>e=.returned (.bool true)/\Below W.heap.size W w':=by
 have h:=(Go.Xg.zg p hb hn i1).calls (W:=W) (vs:=[v,.int .i64 i1]) (.cons hv (.cons (.v _) .nil)) hT;refine Calls.mono h ?_;rintro e w' ⟨x,rfl,hx,K,β,hr⟩;exact ⟨by rw [hr.eT],hx⟩
theorem Mu (H:Type) (enc:TypeId × Value->H) (W:World) (base:Nat) (args:Array Value) (ds gs:List (DataW H)) (before:List MemPlace)
  (AV:∀ (j:Nat) t v,Tryz.f7.params[j]?=some t->args[j]?=some v->Value.okWide Tryz.prog W .any base t v)
  (hW:DataW.Whole enc Tryz.prog Tryz.f7.params.toList Rows.fnExactUnreadSpec.vars false W args.toList ds gs before) (hL:laidMetH Tryz.prog Rows.fnExactUnreadRow.laid W) (hS:W.ShapedOpen Tryz.prog) :
  Calls Tryz.prog 7 args W fun e W'=>∃ v,e=.returned v/\Rows.fnExactUnreadSpec.post enc Tryz.prog Tryz.f7 false true false false W args v W':=by
 have Rn:=hW;obtain ⟨p,q,UF,hV,rfl,BN,Zn⟩:=hW;have hA:DataW.TrodAll enc Tryz.prog W 0 (fun _=>true) true Tryz.f7.params.toList args.toList ds p:=UF;rw [Tryz.params7] at hA AV;obtain ⟨v0,Zu,d0,Y7,p0,q0,zy,rfl,rfl,h0,r0⟩:=trodAll_cons hA;obtain ⟨v1,kg,d1,Y8,p1,q1,rfl,rfl,rfl,h1,r1⟩:=trodAll_cons r0;obtain ⟨rfl,rfl,rfl⟩:=trodAll_nil r1
 obtain rfl:args=#[v0,v1]:=by cases args;simp_all
 obtain ⟨rfl,rfl⟩:=trodVars_none hV;obtain ⟨i1,rfl,rfl,rfl,w1⟩:=open_int Tryz.underlying3 (AV 1 3 v1 rfl rfl) h1;obtain ⟨s,fH,iQ,qX⟩:=Go.Xg.Nw (fun _=>.no) (AV 0 27 v0 rfl rfl) h0;clear UF AV;simp only [List.append_nil] at Rn
 have aq:∀ x∈p0,x.block < W.heap.size:=fun x hx=>Rn.lt x (by simpa using hx)
 have hT:Go.Xg.gB (Go.Xg.KW W) (fun _=>.no) W:=by
  have hl:laidMet Tryz.prog Rows.fnExactUnreadRow.laid W:=hL;exact Go.Xg.Qw (Go.Lib.laidMet.reads hl (.tail _ (.tail _ (.head _)))) (Go.Lib.laidMet.reads hl (.tail _ (.tail _ (.tail _ (.tail _ (.head _)))))) hS
 refine (walk W v0 i1 s fH iQ qX hT).mono fun e W' ⟨he,hg⟩=>?_
 subst he
 exact ⟨_,rfl,Go.Xw.CE (pa:=p0) (pv:=[]) Rn (fun _ _ _=>(trodAll_cons_mk (shut_bool Tryz.underlying4 _) trodAll_mk0))
  (fun sp XU=>by
   have:=trodAll_cons_mk (WideElems.Trod_stays (by kernel_rfl) (by kernel_rfl) (of_decide_eq_true (by kernel_rfl)) h0 (fun x hx=>hg.same (aq x hx)) (fun x hx=>XU x (by simpa using hx))) (trodAll_cons_mk (shut_int Tryz.underlying3 w1) (trodAll_mk0));simp only [List.append_nil] at this
   exact this)
  (fun _ _=>rfl) (by simp) hg (ok_one (by kernel_rfl) rfl (okWide_bool_mk Tryz.underlying4 _))⟩
open Go.ChangeShapes Go.WideShapes Go.ChangeAt Go.RowKit
noncomputable def th (os:Os):World :=
 let N:=(World.settled Tryz.prog os).heap.size
 let w0:=World.holding Tryz.prog os ⟨#[.cells #[.int .u16 9,.int .u16 13,.int .u16 1,.int .u16 32,.int .u16 133,.int .u16 101,.int .u16 160,.int .u16 5760,.int .u16 5600,.int .u16 8192,.int .u16 8202,.int .u16 1,.int .u16 8232,.int .u16 8233,.int .u16 1,.int .u16 8239,.int .u16 8287,.int .u16 48,.int .u16 12288,.int .u16 12288,.int .u16 1] 251,
  .cells #[.slice (some ⟨N,0,none⟩) 7 7,.slice none 0 0,.int .i64 2] 248],#[],[]⟩
 let put (h:Array Obj) (g:Nat) (cs:Array Value):Array Obj:=h.modify g fun
  | .cells _ t frozen=>.cells cs t frozen
  | o=>o
 let ints (d:DataW Unit):Array Value:=match d with
  | .agg l=>(l.map fun x=>match x with | .lit (.int k z)=>Value.int k z | _=>.bool false).toArray
  | _=>#[]
 let h1:=put w0.heap 4 (ints Rows.laid_math_bits_deBruijn32tab)
 let h2:=put h1 5 (ints Rows.laid_math_bits_deBruijn64tab)
 let h3:=put h2 1 (ints Rows.laid_internal_strconv_uint64pow10)
 let h4:=put h3 2 (ints Rows.laid_strings_asciiSpace)
 let h5:=put h4 3 #[.pointer (some ⟨N+1,0,none⟩)]
 { w0 with heap:=h5 }
def xH:Array Value:=#[.agg #[.slice none 0 0,.slice none 0 0,.slice none 0 0,.slice none 0 0],.int .i64 0]
theorem Nb (os:Os):laidMet Tryz.prog Rows.fnExactUnreadRow.laid ((th os).forCall (fun _ _=>0) ⟨#[],xH,[]⟩).memory :=
 laidMet_of_run' 10 (by kernel_rfl) (by kernel_rfl)
theorem FG (os:Os) {H:Type} (enc:TypeId × Value->H) :
  (OpenSpec.ofChange Rows.fnExactUnreadSpec).preRow enc Tryz.prog Tryz.f7 Rows.fnExactUnreadRow.domain false Rows.fnExactUnreadRow.laid ((th os).forCall (fun _ _=>0) ⟨#[],xH,[]⟩).memory xH:=by
 have hw:(DataW.whole enc Tryz.prog ((th os).forCall (fun _ _=>0) ⟨#[],xH,[]⟩).memory Tryz.f7.params.toList Rows.fnExactUnreadSpec.vars false xH.toList 8).map (fun x=>(x.1,x.2.1)) =
   some ([.agg [.nil,.nil,.nil,.nil],.lit (.int .i64 0)],[]):=by kernel_rfl
 obtain ⟨⟨x1,x2,x3⟩,hx,uy⟩:=Option.map_eq_some_iff.1 hw;simp only [Prod.mk.injEq] at uy;obtain ⟨rfl,rfl⟩:=uy;exact OpenSpec.preRow_of_cond 8 hx (by kernel_rfl) (fun k hk=>by cases hk) (by kernel_rfl) (Nb os)
set_option maxRecDepth 100000 in
theorem lifted (os:Os) (started:os.Started) (H:Type) (enc:TypeId × Value->H) (F:Stop.Interp) :
  ReturnsInHanded {} Tryz.checked os 7 .any ((OpenSpec.ofChange Rows.fnExactUnreadSpec).preRow enc Tryz.prog Tryz.f7 Rows.fnExactUnreadRow.domain false Rows.fnExactUnreadRow.laid) (((OpenSpec.ofChange Rows.fnExactUnreadSpec).at F).post enc Tryz.prog Tryz.f7 false true false false):=by
 refine returnsInHanded_of_row (C:=Tryz.checked) (s:=OpenSpec.ofChange Rows.fnExactUnreadSpec) own started (by kernel_rfl) Tryz.func7
  (witness_row_atRef (enc:=enc) (C:=Tryz.checked) false (th os) xH rfl (by kernel_rfl) (by kernel_rfl) (by kernel_rfl) (FG os enc)) ?_
 intro W base args ds gs before AV hW _ _ _ hL hS _;exact Mu H enc W base args ds gs before AV hW hL hS
theorem said:Rows.FnExactUnreadSaid :=
 OpenClaim.holds_of_cond 7 Tryz.f7 rfl rfl rfl rfl rfl rfl rfl ⟨rfl,rfl,rfl,rfl,rfl⟩ rfl rfl rfl rfl rfl (by kernel_rfl) Tryz.func7 (by kernel_rfl)
  (of_decide_eq_true (by kernel_rfl)) (by unfold Func.isWrapper;first | (rw [if_pos (by decide +kernel)];kernel_rfl) | (rw [if_neg (by decide +kernel)];exact ⟨rfl,rfl⟩))
  (fun os started H enc _ F=>by rw [OpenClaim.pre_eq_preRow];exact lifted os started H enc F)
theorem plain (f:FuncId) (fn:Func) (hf:Tryz.pinned.checked.prog.funcNamed "loop.example/g00472/laws.FnExactUnread" = some f) (kz:Tryz.pinned.checked.prog.funcs[f]?=some fn) :
  false=Tryz.pinned.checked.prog.looks []/\∀ (j:Nat) t,fn.params[j]?=some t->Tryz.pinned.checked.prog.wantsStandIn t=false:=by
 obtain rfl:f=7:=Option.some.inj ((show Tryz.prog.funcNamed "loop.example/g00472/laws.FnExactUnread" = some 7 by kernel_rfl).symm.trans hf) |>.symm;obtain rfl:fn=Tryz.f7:=(Option.some.inj (Tryz.func7.symm.trans kz)).symm;refine ⟨by kernel_rfl,fun j t ht=>?_⟩;rw [Tryz.params7] at ht
 have XM:Tryz.prog.wantsStandIn 27=false:=by kernel_rfl
 have jT:Tryz.prog.wantsStandIn 3=false:=by kernel_rfl
 rcases (show t=27\/t=3 by simpa using Array.mem_of_getElem? ht) with rfl | rfl
 ·exact XM
 ·exact jT
theorem proved:Rows.FnExactUnreadCardSaid :=
 Claim7.holds_tied_plain_at .later [] _ _ _ _ said (fun _ h=>by cases h) (by kernel_rfl) (fun _ h=>by cases h) fnExactUnread_row_tie rfl ⟨rfl,rfl⟩ (by kernel_rfl) rfl plain (by kernel_rfl)
#print axioms proved
end Go.Proofs.YthgncfaljaocoaaGreatDoor.fnExactUnread
