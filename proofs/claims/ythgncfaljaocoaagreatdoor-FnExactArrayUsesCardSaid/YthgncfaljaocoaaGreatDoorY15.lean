/- The law FnExactArrayUses: for every source and every name the program's ArrayUses answers what the reference's answers, and the source reads as it did. No condition but the row's own: the library's tables are as the program's text lays them. -/
import Derived.Test.YthgncfaljaocoaaGreatDoorY11
import Derived.Test.YthgncfaljaocoaaGreatDoorY10
import Derived.Test.YthgncfaljaocoaaGreatDoorY6
import Derived.Test.YthgncfaljaocoaaGreatDoorCards
import Derived.Test.YthgncfaljaocoaaGreatDoorTie
import Derived.Test.YthgncfaljaocoaaGreatDoorY5
import Derived.Test.YthgncfaljaocoaaGreatDoorY8
import Derived.WalkKit
import Derived.ProofKit
import Derived.OpenShut
import Derived.ShutString
import Derived.Carry
import Derived.Deep.DeepHandedRow
import Derived.Deep.DeepWitnessRowRef
set_option linter.unusedVariables false
set_option linter.unusedSimpArgs false
set_option maxRecDepth 100000
set_option maxHeartbeats 1000000
namespace Go.Xg
open Go.RowKit Go.Xw Go.Proofs
open Go.Sp (Src)
open Go.Im
attribute [local irreducible] GW GL GO YG GC GA aQ aR
theorem ui (p:Src) (s1:ae) (kP:decide ((1048576:Int) < ((s1.length:Nat):Int))=true):GF Tryz.prog 5 [.agg (ak p),.v (sv s1)] [] (.v (.bool true)) []:=by
 refine ah Tryz.func5 Tryz.ntmps5 ?_;exact al
theorem vI (p:Src) (s1:ae) (kP:decide ((1048576:Int) < ((s1.length:Nat):Int))=false) (hS:GF Tryz.prog 8 [.agg (ak p),.v (ii 1048576)] [] (.v (ii (-1))) []):GF Tryz.prog 5 [.agg (ak p),.v (sv s1)] [] (.v (.bool true)) []:=by
 refine ah Tryz.func5 Tryz.ntmps5 ?_;refine U [] (hS) ?_;exact al
theorem wY (p:Src) (s1:ae) (kP:decide ((1048576:Int) < ((s1.length:Nat):Int))=false) (n:Nat) (x0:Int) (x1:Int) (hS:GF Tryz.prog 8 [.agg (ak p),.v (ii 1048576)] [] (.v (ii (n:Nat))) [])
  (hT:GF Tryz.prog 10 [.agg (ak p)] [] (.agg (ak p)) []) (hG:GF Tryz.prog 15 [.agg (ak p),.v (sv s1)] [] (.tup [.v (ii x0),.v (ii x1)]) [])
  (hI:GF Tryz.prog 16 [.agg (ak p),.v (sv s1)] [] (.tup [.v (ii x0),.v (ii x1)]) []) (hE:GF Tryz.prog 12 [.agg (ak p),.agg (ak p)] [] (.v (.bool true)) []) :
  GF Tryz.prog 5 [.agg (ak p),.v (sv s1)] [] (.v (.bool true)) []:=by
 have hd:decide (((n:Nat):Int) < 0)=false:=by simp
 have nT:(x0 != x0)=false:=by simp
 have lq:(x1 != x1)=false:=by simp
 refine ah Tryz.func5 Tryz.ntmps5 ?_;refine U [] (hS) ?_;refine U [] (hT) ?_;refine U [] (hG) ?_;refine U [] (hT) ?_;refine U [] (hI) ?_;refine GW.draw (.q 0 (.q 1 (.a 2 (.a 3 (.q 4 .nil))))) (by kernel_rfl) (by kernel_rfl) ?_;refine ai ?_;refine ax [] (hT) ?_;refine ax [] (hE) ?_;exact ar
theorem w6 (p:Src) (hb:Small p 9223372036854775807) (hn:im p) (s1:ae):GF Tryz.prog 5 [.agg (ak p),.v (sv s1)] [] (.v (.bool true)) []:=by
 have hS:=pO p hb
 by_cases kP:decide ((1048576:Int) < ((s1.length:Nat):Int))=true
 ·exact ui p s1 kP
 have kP:decide ((1048576:Int) < ((s1.length:Nat):Int))=false:=by simpa using kP
 by_cases hw:1048576 < cj p
 ·rw [c7 hw] at hS;exact vI p s1 kP hS
 ·rw [eU (by omega)] at hS
  have hw:cj p<=1048576:=by omega
  obtain ⟨⟨a1,a2⟩,⟨b1,b2⟩,⟨c1,c2⟩,⟨d1,d2⟩⟩:=dZ p
  have oh:∀ f∈p.fns,f.params.length<=1048576:=fun f h=>by have:=(c2 f h).2.1;omega
  have ni:∀ n∈p.nodes,n.kids.length<=1048576:=fun n h=>by have:=(d2 n h).2;omega
  exact wY p s1 kP _ ((qU p s1).1) ((qU p s1).2) hS (pR p (by omega) (by omega) (by omega) oh (by omega) ni) (F7 p hw hn s1 (by have:=of_decide_eq_false kP;omega)) (F8 p hw hn s1 (by have:=of_decide_eq_false kP;omega)) (pf p (by omega) (by omega) (by omega) oh (by omega) ni)
end Go.Xg
namespace Go.Proofs.YthgncfaljaocoaaGreatDoor.fnExactArrayUses
open Go.ChangeShapes Go.WideShapes Go.ChangeAt Go.RowKit
open Go.ChangeMaps (open_string shut_string)
theorem own:ownKnob Tryz.prog.godebug=none:=by kernel_rfl
theorem walk (W:World) (v:Value) (s1:ByteArray) (p:Go.Sp.Src) (hv:Go.Xg.Rel (Go.Xg.KW W) (fun _=>.no) v (.agg (Go.Xg.ak p))) (hb:Go.Im.Small p 9223372036854775807) (hn:Go.Im.im p) (hT:Go.Xg.eW (Go.Xg.KW W) (fun _=>.no) W) :
  Calls Tryz.prog 5 #[v,.string s1] W fun e w'=>e=.returned (.bool true)/\Below W.heap.size W w':=by
 have h:=(Go.Xg.w6 p hb hn s1.data.toList).calls (W:=W) (vs:=[v,Go.Xw.sv s1.data.toList]) (.cons hv (.cons (.v _) .nil)) hT;rw [<-Go.Xw.uf] at h;refine Calls.mono h ?_;rintro e w' ⟨x,rfl,hx,K,β,hr⟩;exact ⟨by rw [hr.eg],hx⟩
theorem lP (H:Type) (enc:TypeId × Value->H) (W:World) (base:Nat) (args:Array Value) (ds gs:List (DataW H)) (before:List MemPlace)
  (eX:∀ (j:Nat) t v,Tryz.f5.params[j]?=some t->args[j]?=some v->Value.okWide Tryz.prog W .any base t v)
  (hW:DataW.Whole enc Tryz.prog Tryz.f5.params.toList Rows.fnExactArrayUsesSpec.vars false W args.toList ds gs before) (hL:laidMetH Tryz.prog Rows.fnExactArrayUsesRow.laid W) (hS:W.ShapedOpen Tryz.prog) :
  Calls Tryz.prog 5 args W fun e W'=>∃ v,e=.returned v/\Rows.fnExactArrayUsesSpec.post enc Tryz.prog Tryz.f5 false true false false W args v W':=by
 have po:=hW;obtain ⟨p,q,tO,hV,rfl,wR,PN⟩:=hW;have hA:DataW.TrodAll enc Tryz.prog W 0 (fun _=>true) true Tryz.f5.params.toList args.toList ds p:=tO;rw [Tryz.params5] at hA eX;obtain ⟨v0,Qf,d0,Px,p0,q0,rR,rfl,rfl,h0,r0⟩:=trodAll_cons hA;obtain ⟨v1,ji,d1,Py,p1,q1,rfl,rfl,rfl,h1,r1⟩:=trodAll_cons r0;obtain ⟨rfl,rfl,rfl⟩:=trodAll_nil r1
 obtain rfl:args=#[v0,v1]:=by cases args;simp_all
 obtain ⟨rfl,rfl⟩:=trodVars_none hV;obtain ⟨s1,rfl,rfl,rfl,w1⟩:=open_string Tryz.underlying9 (eX 1 9 v1 rfl rfl) h1;obtain ⟨s,eL,gy,mK⟩:=Go.Xg.sZ (fun _=>.no) (eX 0 27 v0 rfl rfl) h0;clear tO eX;simp only [List.append_nil] at po
 have ao:∀ x∈p0,x.block < W.heap.size:=fun x hx=>po.lt x (by simpa using hx)
 have hT:Go.Xg.eW (Go.Xg.KW W) (fun _=>.no) W:=by
  have hl:laidMet Tryz.prog Rows.fnExactArrayUsesRow.laid W:=hL;exact Go.Xg.vE (Go.Lib.laidMet.reads hl (.tail _ (.tail _ (.head _)))) (Go.Lib.laidMet.reads hl (.tail _ (.tail _ (.tail _ (.tail _ (.head _)))))) hS
 refine (walk W v0 s1 s eL gy mK hT).mono fun e W' ⟨he,hg⟩=>?_
 subst he
 exact ⟨_,rfl,Go.Xw.mh (pa:=p0) (pv:=[]) po (fun _ _ _=>(trodAll_cons_mk (shut_bool Tryz.underlying4 _) trodAll_mk0))
  (fun sp AX=>by
   have:=trodAll_cons_mk (WideElems.Trod_stays (by kernel_rfl) (by kernel_rfl) (of_decide_eq_true (by kernel_rfl)) h0 (fun x hx=>hg.same (ao x hx)) (fun x hx=>AX x (by simpa using hx))) (trodAll_cons_mk (shut_string Tryz.underlying9 w1) (trodAll_mk0));simp only [List.append_nil] at this
   exact this)
  (fun _ _=>rfl) (by simp) hg (ok_one (by kernel_rfl) rfl (okWide_bool_mk Tryz.underlying4 _))⟩
open Go.ChangeShapes Go.WideShapes Go.ChangeAt Go.RowKit
noncomputable def cx (os:Os):World :=
 let N:=(World.settled Tryz.prog os).heap.size
 let w0:=World.holding Tryz.prog os ⟨#[.cells #[.int .u16 9,.int .u16 13,.int .u16 1,.int .u16 32,.int .u16 133,.int .u16 101,.int .u16 160,.int .u16 5760,.int .u16 5600,.int .u16 8192,.int .u16 8202,.int .u16 1,.int .u16 8232,.int .u16 8233,.int .u16 1,.int .u16 8239,.int .u16 8287,.int .u16 48,.int .u16 12288,.int .u16 12288,.int .u16 1] 251,
  .cells #[.slice (some ⟨N,0,none⟩) 7 7,.slice none 0 0,.int .i64 2] 248],#[],[]⟩
 let put (h:Array Obj) (g:Nat) (cs:Array Value):Array Obj:=h.modify g fun
  | .cells _ t frozen=>.cells cs t frozen
  | o=>o
 let ints (d:DataW Unit):Array Value:=match d with
  | .agg l=>(l.map fun x=>match x with | .lit (.int k z)=>Value.int k z | _=>.bool false).toArray
  | _=>#[]
 let h1:=put w0.heap 4 (ints Rows.laid_math_bits_deBruijn32tab)
 let h2:=put h1 5 (ints Rows.laid_math_bits_deBruijn64tab)
 let h3:=put h2 1 (ints Rows.laid_internal_strconv_uint64pow10)
 let h4:=put h3 2 (ints Rows.laid_strings_asciiSpace)
 let h5:=put h4 3 #[.pointer (some ⟨N+1,0,none⟩)]
 { w0 with heap:=h5 }
def dL:Array Value:=#[.agg #[.slice none 0 0,.slice none 0 0,.slice none 0 0,.slice none 0 0],.string ByteArray.empty]
theorem lV (os:Os):laidMet Tryz.prog Rows.fnExactArrayUsesRow.laid ((cx os).forCall (fun _ _=>0) ⟨#[],dL,[]⟩).memory :=
 laidMet_of_run' 10 (by kernel_rfl) (by kernel_rfl)
theorem iJ (os:Os) {H:Type} (enc:TypeId × Value->H) :
  (OpenSpec.ofChange Rows.fnExactArrayUsesSpec).preRow enc Tryz.prog Tryz.f5 Rows.fnExactArrayUsesRow.domain false Rows.fnExactArrayUsesRow.laid ((cx os).forCall (fun _ _=>0) ⟨#[],dL,[]⟩).memory dL:=by
 have hw:(DataW.whole enc Tryz.prog ((cx os).forCall (fun _ _=>0) ⟨#[],dL,[]⟩).memory Tryz.f5.params.toList Rows.fnExactArrayUsesSpec.vars false dL.toList 8).map (fun x=>(x.1,x.2.1)) =
   some ([.agg [.nil,.nil,.nil,.nil],.lit (.string [])],[]):=by kernel_rfl
 obtain ⟨⟨x1,x2,x3⟩,hx,lq⟩:=Option.map_eq_some_iff.1 hw;simp only [Prod.mk.injEq] at lq;obtain ⟨rfl,rfl⟩:=lq;exact OpenSpec.preRow_of_cond 8 hx (by kernel_rfl) (fun k hk=>by cases hk) (by kernel_rfl) (lV os)
set_option maxRecDepth 100000 in
theorem lifted (os:Os) (started:os.Started) (H:Type) (enc:TypeId × Value->H) (F:Stop.Interp) :
  ReturnsInHanded {} Tryz.checked os 5 .any ((OpenSpec.ofChange Rows.fnExactArrayUsesSpec).preRow enc Tryz.prog Tryz.f5 Rows.fnExactArrayUsesRow.domain false Rows.fnExactArrayUsesRow.laid) (((OpenSpec.ofChange Rows.fnExactArrayUsesSpec).at F).post enc Tryz.prog Tryz.f5 false true false false):=by
 refine returnsInHanded_of_row (C:=Tryz.checked) (s:=OpenSpec.ofChange Rows.fnExactArrayUsesSpec) own started (by kernel_rfl) Tryz.func5
  (witness_row_atRef (enc:=enc) (C:=Tryz.checked) false (cx os) dL rfl (by kernel_rfl) (by kernel_rfl) (by kernel_rfl) (iJ os enc)) ?_
 intro W base args ds gs before eX hW _ _ _ hL hS _;exact lP H enc W base args ds gs before eX hW hL hS
theorem said:Rows.FnExactArrayUsesSaid :=
 OpenClaim.holds_of_cond 5 Tryz.f5 rfl rfl rfl rfl rfl rfl rfl ⟨rfl,rfl,rfl,rfl,rfl⟩ rfl rfl rfl rfl rfl (by kernel_rfl) Tryz.func5 (by kernel_rfl)
  (of_decide_eq_true (by kernel_rfl)) (by unfold Func.isWrapper;first | (rw [if_pos (by decide +kernel)];kernel_rfl) | (rw [if_neg (by decide +kernel)];exact ⟨rfl,rfl⟩))
  (fun os started H enc _ F=>by rw [OpenClaim.pre_eq_preRow];exact lifted os started H enc F)
theorem plain (f:FuncId) (fn:Func) (hf:Tryz.pinned.checked.prog.funcNamed "loop.example/g00472/laws.FnExactArrayUses" = some f) (iz:Tryz.pinned.checked.prog.funcs[f]?=some fn) :
  false=Tryz.pinned.checked.prog.looks []/\∀ (j:Nat) t,fn.params[j]?=some t->Tryz.pinned.checked.prog.wantsStandIn t=false:=by
 obtain rfl:f=5:=Option.some.inj ((show Tryz.prog.funcNamed "loop.example/g00472/laws.FnExactArrayUses" = some 5 by kernel_rfl).symm.trans hf) |>.symm;obtain rfl:fn=Tryz.f5:=(Option.some.inj (Tryz.func5.symm.trans iz)).symm;refine ⟨by kernel_rfl,fun j t ht=>?_⟩;rw [Tryz.params5] at ht
 have AW:Tryz.prog.wantsStandIn 27=false:=by kernel_rfl
 have ik:Tryz.prog.wantsStandIn 9=false:=by kernel_rfl
 rcases (show t=27\/t=9 by simpa using Array.mem_of_getElem? ht) with rfl | rfl
 ·exact AW
 ·exact ik
theorem proved:Rows.FnExactArrayUsesCardSaid :=
 Claim7.holds_tied_plain_at .later [] _ _ _ _ said (fun _ h=>by cases h) (by kernel_rfl) (fun _ h=>by cases h) fnExactArrayUses_row_tie rfl ⟨rfl,rfl⟩ (by kernel_rfl) rfl plain (by kernel_rfl)
#print axioms proved
end Go.Proofs.YthgncfaljaocoaaGreatDoor.fnExactArrayUses
