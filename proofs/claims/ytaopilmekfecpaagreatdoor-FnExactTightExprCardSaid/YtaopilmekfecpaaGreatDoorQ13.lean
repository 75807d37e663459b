/- The law FnExactTightExpr: for every source and every place the program's TightExpr answers what the reference's answers, and the source reads as it did. No condition but the row's own: the library's tables are as the program's text lays them. -/
import Derived.Test.YtaopilmekfecpaaGreatDoorQ6
import Derived.Test.YtaopilmekfecpaaGreatDoorQ8
import Derived.Test.YtaopilmekfecpaaGreatDoorQ9
import Derived.Test.YtaopilmekfecpaaGreatDoorCards
import Derived.Test.YtaopilmekfecpaaGreatDoorTie
import Derived.Test.YtaopilmekfecpaaGreatDoorQ7
import Derived.WalkKit
import Derived.ProofKit
import Derived.OpenShut
import Derived.Carry
import Derived.Deep.DeepHandedRow
import Derived.Deep.DeepWitnessRowRef
set_option linter.unusedVariables false
set_option linter.unusedSimpArgs false
set_option maxHeartbeats 1000000
set_option maxRecDepth 100000
namespace Go.Xg
open Go.RowKit Go.Xw Go.Proofs
open Go.Sp (Src)
open Go.Im
attribute [local irreducible] GW GL GO YG GC GA gthn ginb
theorem FnExactTightExpr_big (p:Src) (i:Int) (hS:GF Tryz.prog 13 [.agg (encSrc p),.v (ii 1048576)] [] (.v (ii (-1))) []):GF Tryz.prog 4 [.agg (encSrc p),.v (ii i)] [] (.v (.bool true)) []:=by
 refine GC.enter Tryz.func4 Tryz.ntmps4 rfl (by simp only [gframe,grep,Nat.reduceSub];rfl) ?_
 refine w_grun ?_
 refine w_gcall [] (hS) ?_
 refine w_grun ?_
 refine w_gret ?_
 exact ⟨rfl,rfl⟩
theorem FnExactTightExpr_ok (p:Src) (i:Int) (n:Nat) (x:Str) (hS:GF Tryz.prog 13 [.agg (encSrc p),.v (ii 1048576)] [] (.v (ii (n:Nat))) [])
  (hT:GF Tryz.prog 14 [.agg (encSrc p)] [] (.agg (encSrc p)) []) (hG:GF Tryz.prog 11 [.agg (encSrc p),.v (ii i)] [] (.v (sv x)) [])
  (hI:GF Tryz.prog 10 [.agg (encSrc p),.v (ii i)] [] (.v (sv x)) []) (hE:GF Tryz.prog 15 [.agg (encSrc p),.agg (encSrc p)] [] (.v (.bool true)) []) :
  GF Tryz.prog 4 [.agg (encSrc p),.v (ii i)] [] (.v (.bool true)) []:=by
 have hd:decide (((n:Nat):Int) < 0)=false:=by simp
 have hx:(!(x==x))=false:=by simp
 refine GC.enter Tryz.func4 Tryz.ntmps4 rfl (by simp only [gframe,grep,Nat.reduceSub];rfl) ?_
 refine w_grun ?_
 refine w_gcall [] (hS) ?_
 refine w_grun ?_
 refine w_gcall [] (hT) ?_
 refine w_grun ?_
 refine w_gcall [] (hG) ?_
 refine w_grun ?_
 refine w_gcall [] (hT) ?_
 refine w_grun ?_
 refine w_gcall [] (hI) ?_
 refine w_grun ?_
 refine GW.draw (.q 0 (.q 1 (.a 2 (.a 3 (.q 4 .nil))))) (by kernel_rfl) (by kernel_rfl) ?_
 refine w_gorun ?_
 refine w_gocall [] (hT) ?_
 refine w_gorun ?_
 refine w_gocall [] (hE) ?_
 refine w_gorun ?_
 refine w_grun ?_
 refine w_gret ?_
 exact ⟨rfl,rfl⟩
theorem FnExactTightExpr_g (p:Src) (hb:Small p 9223372036854775807) (hn:Nums p) (i:Int):GF Tryz.prog 4 [.agg (encSrc p),.v (ii i)] [] (.v (.bool true)) []:=by
 have hS:=szSource_g p hb
 by_cases hw:1048576 < wSrc p
 ·rw [szR_no hw] at hS
  exact FnExactTightExpr_big p i hS
 ·rw [szR_ok (by omega)] at hS
  have hw:wSrc p≤1048576:=by omega
  obtain ⟨⟨a1,a2⟩,⟨b1,b2⟩,⟨c1,c2⟩,⟨d1,d2⟩⟩:=small_w p
  have hfp:∀ f∈p.fns,f.params.length≤1048576:=fun f h=>by have:=(c2 f h).2.1;omega
  have hnk:∀ n∈p.nodes,n.kids.length≤1048576:=fun n h=>by have:=(d2 n h).2;omega
  exact FnExactTightExpr_ok p i _ (tE p i) hS (toSource_g p (by omega) (by omega) (by omega) hfp (by omega) hnk) (TightExpr_g p hw hn i) (TightExpr_i p hw hn i) (eqSource_g p (by omega) (by omega) (by omega) hfp (by omega) hnk)
end Go.Xg
namespace Go.Proofs.YtaopilmekfecpaaGreatDoor.fnExactTightExpr
open Go.ChangeShapes Go.WideShapes Go.ChangeAt Go.RowKit
theorem own:ownKnob Tryz.prog.godebug=none:=by kernel_rfl
theorem walk (W:World) (v:Value) (i:Int) (p:Go.Sp.Src) (hv:Go.Xg.Rel (Go.Xg.KW W) (fun _=>.no) v (.agg (Go.Xg.encSrc p))) (hb:Go.Im.Small p 9223372036854775807) (hn:Go.Im.Nums p) (hT:Go.Xg.Tabs (Go.Xg.KW W) (fun _=>.no) W) :
  Calls Tryz.prog 4 #[v,.int .i64 i] W fun e w'=>e=.returned (.bool true)∧Below W.heap.size W w':=by
 have h:=(Go.Xg.FnExactTightExpr_g p hb hn i).calls (W:=W) (vs:=[v,.int .i64 i]) (.cons hv (.cons (.v _) .nil)) hT
 refine Calls.mono h ?_
 rintro e w' ⟨x,rfl,hx,K,β,hr⟩
 exact ⟨by rw [hr.v_inv],hx⟩
theorem contract (H:Type) (enc:TypeId × Value→H) (W:World) (base:Nat) (args:Array Value) (ds gs:List (DataW H)) (before:List MemPlace)
  (hval:∀ (j:Nat) t v,Tryz.f4.params[j]?=some t→args[j]?=some v→Value.okWide Tryz.prog W .any base t v)
  (hW:DataW.Whole enc Tryz.prog Tryz.f4.params.toList Rows.fnExactTightExprSpec.vars false W args.toList ds gs before) (hL:laidMetH Tryz.prog Rows.fnExactTightExprRow.laid W) (hS:W.ShapedOpen Tryz.prog) :
  Calls Tryz.prog 4 args W fun e W'=>∃ v,e=.returned v∧Rows.fnExactTightExprSpec.post enc Tryz.prog Tryz.f4 false true false false W args v W':=by
 have hW':=hW
 obtain ⟨p,q,hA0,hV,rfl,hfz,hnd⟩:=hW
 have hA:DataW.TrodAll enc Tryz.prog W 0 (fun _=>true) true Tryz.f4.params.toList args.toList ds p:=hA0
 rw [Tryz.params4] at hA hval
 obtain ⟨v0,vs0,d0,ds0,p0,q0,hargs,rfl,rfl,h0,r0⟩:=trodAll_cons hA
 obtain ⟨v1,vs1,d1,ds1,p1,q1,rfl,rfl,rfl,h1,r1⟩:=trodAll_cons r0
 obtain ⟨rfl,rfl,rfl⟩:=trodAll_nil r1
 obtain rfl:args=#[v0,v1]:=by cases args;simp_all
 obtain ⟨rfl,rfl⟩:=trodVars_none hV
 obtain ⟨i,rfl,rfl,rfl,wi⟩:=open_int Tryz.underlying3 (hval 1 3 v1 rfl rfl) h1
 obtain ⟨s,hs1,hs2,hs3⟩:=Go.Xg.open_src (fun _=>.no) (hval 0 39 v0 rfl rfl) h0
 clear hA0 hval
 simp only [List.append_nil] at hW'
 have hlt:∀ x∈p0,x.block < W.heap.size:=fun x hx=>hW'.lt x (by simpa using hx)
 have hT:Go.Xg.Tabs (Go.Xg.KW W) (fun _=>.no) W:=by
  have hl:laidMet Tryz.prog Rows.fnExactTightExprRow.laid W:=hL
  exact Go.Xg.tabs_of (Go.Lib.laidMet.reads hl (.tail _ (.tail _ (.head _)))) (Go.Lib.laidMet.reads hl (.tail _ (.tail _ (.tail _ (.tail _ (.head _)))))) hS
 refine (walk W v0 i s hs1 hs2 hs3 hT).mono fun e W' ⟨he,hg⟩=>?_
 subst he
 exact ⟨_,rfl,Go.Xw.post_of_below (pa:=p0) (pv:=[]) hW' (fun _ _ _=>(trodAll_cons_mk (shut_bool Tryz.underlying4 _) trodAll_mk0))
  (fun sp hsp=>by
   have:=trodAll_cons_mk (WideElems.Trod_stays (by kernel_rfl) (by kernel_rfl) (of_decide_eq_true (by kernel_rfl)) h0 (fun x hx=>hg.same (hlt x hx)) (fun x hx=>hsp x (by simpa using hx))) (trodAll_cons_mk (shut_int Tryz.underlying3 wi) trodAll_mk0)
   simp only [List.append_nil] at this
   exact this)
  (fun _ _=>rfl) (by simp) hg (ok_one (by kernel_rfl) rfl (okWide_bool_mk Tryz.underlying4 _))⟩
end Go.Proofs.YtaopilmekfecpaaGreatDoor.fnExactTightExpr
namespace Go.Proofs.YtaopilmekfecpaaGreatDoor.fnExactTightExpr
open Go.ChangeShapes Go.WideShapes Go.ChangeAt Go.RowKit
noncomputable def laidWorld (os:Os):World :=
 let N:=(World.settled Tryz.prog os).heap.size
 let w0:=World.holding Tryz.prog os ⟨#[.cells #[.int .u16 9,.int .u16 13,.int .u16 1,.int .u16 32,.int .u16 133,.int .u16 101,.int .u16 160,.int .u16 5760,.int .u16 5600,.int .u16 8192,.int .u16 8202,.int .u16 1,.int .u16 8232,.int .u16 8233,.int .u16 1,.int .u16 8239,.int .u16 8287,.int .u16 48,.int .u16 12288,.int .u16 12288,.int .u16 1] 247,
  .cells #[.slice (some ⟨N,0,none⟩) 7 7,.slice none 0 0,.int .i64 2] 244],#[],[]⟩
 let put (h:Array Obj) (g:Nat) (cs:Array Value):Array Obj:=h.modify g fun
  | .cells _ t frozen=>.cells cs t frozen
  | o=>o
 let ints (d:DataW Unit):Array Value:=match d with
  | .agg l=>(l.map fun x=>match x with | .lit (.int k z)=>Value.int k z | _=>.bool false).toArray
  | _=>#[]
 let h1:=put w0.heap 4 (ints Rows.laid_math_bits_deBruijn32tab)
 let h2:=put h1 5 (ints Rows.laid_math_bits_deBruijn64tab)
 let h3:=put h2 1 (ints Rows.laid_internal_strconv_uint64pow10)
 let h4:=put h3 2 (ints Rows.laid_strings_asciiSpace)
 let h5:=put h4 3 #[.pointer (some ⟨N+1,0,none⟩)]
 { w0 with heap:=h5 }
def wargs:Array Value:=#[.agg #[.slice none 0 0,.slice none 0 0,.slice none 0 0,.slice none 0 0],.int .i64 0]
theorem laid_met (os:Os):laidMet Tryz.prog Rows.fnExactTightExprRow.laid ((laidWorld os).forCall (fun _ _=>0) ⟨#[],wargs,[]⟩).memory :=
 laidMet_of_run' 10 (by kernel_rfl) (by kernel_rfl)
theorem witness_row (os:Os) {H:Type} (enc:TypeId × Value→H) :
  (OpenSpec.ofChange Rows.fnExactTightExprSpec).preRow enc Tryz.prog Tryz.f4 Rows.fnExactTightExprRow.domain false Rows.fnExactTightExprRow.laid ((laidWorld os).forCall (fun _ _=>0) ⟨#[],wargs,[]⟩).memory wargs:=by
 have hw:(DataW.whole enc Tryz.prog ((laidWorld os).forCall (fun _ _=>0) ⟨#[],wargs,[]⟩).memory Tryz.f4.params.toList Rows.fnExactTightExprSpec.vars false wargs.toList 8).map (fun x=>(x.1,x.2.1)) =
   some ([.agg [.nil,.nil,.nil,.nil],.lit (.int .i64 0)],[]):=by kernel_rfl
 obtain ⟨⟨x1,x2,x3⟩,hx,hx1⟩:=Option.map_eq_some_iff.1 hw
 simp only [Prod.mk.injEq] at hx1
 obtain ⟨rfl,rfl⟩:=hx1
 exact OpenSpec.preRow_of_cond 8 hx (by kernel_rfl) (fun k hk=>by cases hk) (by kernel_rfl) (laid_met os)
set_option maxRecDepth 100000 in
theorem lifted (os:Os) (started:os.Started) (H:Type) (enc:TypeId × Value→H) (F:Stop.Interp) :
  ReturnsInHanded {} Tryz.checked os 4 .any ((OpenSpec.ofChange Rows.fnExactTightExprSpec).preRow enc Tryz.prog Tryz.f4 Rows.fnExactTightExprRow.domain false Rows.fnExactTightExprRow.laid) (((OpenSpec.ofChange Rows.fnExactTightExprSpec).at F).post enc Tryz.prog Tryz.f4 false true false false):=by
 refine returnsInHanded_of_row (C:=Tryz.checked) (s:=OpenSpec.ofChange Rows.fnExactTightExprSpec) own started (by kernel_rfl) Tryz.func4
  (witness_row_atRef (enc:=enc) (C:=Tryz.checked) false (laidWorld os) wargs rfl (by kernel_rfl) (by kernel_rfl) (by kernel_rfl) (witness_row os enc)) ?_
 intro W base args ds gs before hval hW _ _ _ hL hS _
 exact contract H enc W base args ds gs before hval hW hL hS
theorem said:Rows.FnExactTightExprSaid :=
 OpenClaim.holds_of_cond 4 Tryz.f4 rfl rfl rfl rfl rfl rfl rfl ⟨rfl,rfl,rfl,rfl,rfl⟩ rfl rfl rfl rfl rfl (by kernel_rfl) Tryz.func4 (by kernel_rfl)
  (of_decide_eq_true (by kernel_rfl)) (by unfold Func.isWrapper;first | (rw [if_pos (by decide +kernel)];kernel_rfl) | (rw [if_neg (by decide +kernel)];exact ⟨rfl,rfl⟩))
  (fun os started H enc _ F=>by rw [OpenClaim.pre_eq_preRow];exact lifted os started H enc F)
theorem plain (f:FuncId) (fn:Func) (hf:Tryz.pinned.checked.prog.funcNamed "loop.example/g00472/laws.FnExactTightExpr" = some f) (hfn:Tryz.pinned.checked.prog.funcs[f]?=some fn) :
  false=Tryz.pinned.checked.prog.looks []∧∀ (j:Nat) t,fn.params[j]?=some t→Tryz.pinned.checked.prog.wantsStandIn t=false:=by
 obtain rfl:f=4:=Option.some.inj ((show Tryz.prog.funcNamed "loop.example/g00472/laws.FnExactTightExpr" = some 4 by kernel_rfl).symm.trans hf) |>.symm
 obtain rfl:fn=Tryz.f4:=(Option.some.inj (Tryz.func4.symm.trans hfn)).symm
 refine ⟨by kernel_rfl,fun j t ht=>?_⟩
 rw [Tryz.params4] at ht
 have h39:Tryz.prog.wantsStandIn 39=false:=by kernel_rfl
 have h3:Tryz.prog.wantsStandIn 3=false:=by kernel_rfl
 rcases (show t=39∨t=3 by simpa using Array.mem_of_getElem? ht) with rfl | rfl
 ·exact h39
 ·exact h3
theorem proved:Rows.FnExactTightExprCardSaid :=
 Claim7.holds_tied_plain_at .later [] _ _ _ _ said (fun _ h=>by cases h) (by kernel_rfl) (fun _ h=>by cases h) fnExactTightExpr_row_tie rfl ⟨rfl,rfl⟩ (by kernel_rfl) rfl plain (by kernel_rfl)
#print axioms proved
end Go.Proofs.YtaopilmekfecpaaGreatDoor.fnExactTightExpr
