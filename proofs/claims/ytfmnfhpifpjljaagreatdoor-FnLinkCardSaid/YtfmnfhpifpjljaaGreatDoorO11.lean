/- Part 11 of proofs that are told in their last texts. -/
import Derived.Test.YtfmnfhpifpjljaaGreatDoorTie
import Derived.Test.YtfmnfhpifpjljaaGreatDoorO10
import Derived.Deep.DeepWitnessRowRef
set_option linter.unusedVariables false
set_option linter.unusedSimpArgs false
set_option maxRecDepth 100000
namespace Go.Proofs.YtfmnfhpifpjljaaGreatDoor.fnLink
open Go.ChangeShapes Go.WideShapes Go.ChangeAt Go.RowKit
theorem own:ownKnob Tryz.prog.godebug=none:=by kernel_rfl
theorem walk(W:World)(v:Value)(s:Go.Xp.ah)(hv:Go.Xg.Rel (Go.Xg.KW W) (fun _=>.no) v (.sl 1 (Go.Xg.di s)))(hT:Go.Xg.kH (Go.Xg.KW W) (fun _=>.no) W) :
  Calls Tryz.prog 5 #[v] W fun e w'=>e=.returned (.bool true)/\Below W.heap.size W w':=by
 have h:=(Go.Xg.Nv s).calls (W:=W) (vs:=[v]) (.cons hv .nil) hT;refine Calls.mono h ?_;rintro e w'⟨x,rfl,hx,K,β,hr⟩;exact⟨by rw[hr.eE],hx⟩
theorem NT(H:Type)(enc:TypeId × Value->H)(W:World)(base:Nat)(args:Array Value)(ds gs:List (DataW H))(before:List MemPlace)
  (DW:∀(j:Nat)t v,Tryz.f5.params[j]?=some t->args[j]?=some v->Value.okWide Tryz.prog W .any base t v)
  (hW:DataW.Whole enc Tryz.prog Tryz.f5.params.toList Rows.fnLinkSpec.vars false W args.toList ds gs before)(hL:laidMetH Tryz.prog Rows.fnLinkRow.laid W)(hS:W.ShapedOpen Tryz.prog) :
  Calls Tryz.prog 5 args W fun e W'=>∃v,e=.returned v/\Rows.fnLinkSpec.post enc Tryz.prog Tryz.f5 false true false false W args v W':=by
 have T0:=hW;obtain⟨p,q,Xd,hV,rfl,hfz,hnd⟩:=hW;have hA:DataW.TrodAll enc Tryz.prog W 0 (fun _=>true) true Tryz.f5.params.toList args.toList ds p:=Xd;rw[Tryz.params5]at hA DW;obtain⟨v0,vs0,d0,ds0,p0,q0,Jc,rfl,rfl,h0,r0⟩:=trodAll_cons hA;obtain⟨rfl,rfl,rfl⟩:=trodAll_nil r0
 obtain rfl:args=#[v0]:=by cases args;simp_all
 obtain⟨rfl,rfl⟩:=trodVars_none hV;obtain⟨s,Lx,DV⟩:=Go.Xg.Mq (fun _=>.no) Tryz.underlying22 Tryz.underlying5 (by kernel_rfl) (DW 0 22 v0 rfl rfl) h0;clear Xd DW;simp only[List.append_nil]at T0
 have ny:∀x∈p0,x.block<W.heap.size:=fun x hx=>T0.lt x (by simpa using hx)
 have hT:Go.Xg.kH (Go.Xg.KW W) (fun _=>.no) W:=by
  have hl:laidMet Tryz.prog Rows.fnLinkRow.laid W:=hL;exact Go.Xg.S0 (Go.Lib.laidMet.reads hl (.tail _ (.tail _ (.head _)))) (Go.Lib.laidMet.reads hl (.tail _ (.tail _ (.tail _ (.tail _ (.head _)))))) hS
 refine(walk W v0 s Lx hT).mono fun e W' ⟨he,hg⟩=>?_
 subst he
 exact⟨_,rfl,Go.Xw.CN (pa:=p0) (pv:=[]) T0 (fun _ _ _=>(trodAll_cons_mk (shut_bool Tryz.underlying4 _) trodAll_mk0))
  (fun sp hsp=>by
   have:=trodAll_cons_mk (WideElems.Trod_stays (by kernel_rfl) (by kernel_rfl) (of_decide_eq_true (by kernel_rfl)) h0 (fun x hx=>hg.same (ny x hx)) (fun x hx=>hsp x (by simpa using hx))) (trodAll_mk0);simp only[List.append_nil]at this
   exact this)
  (fun _ _=>rfl) (by simp) hg (ok_one (by kernel_rfl) rfl (okWide_bool_mk Tryz.underlying4 _))⟩
open Go.ChangeShapes Go.WideShapes Go.ChangeAt Go.RowKit
noncomputable def ua(os:Os):World :=
 let N:=(World.settled Tryz.prog os).heap.size
 let w0:=World.holding Tryz.prog os ⟨#[.cells #[.int .u16 9,.int .u16 13,.int .u16 1,.int .u16 32,.int .u16 133,.int .u16 101,.int .u16 160,.int .u16 5760,.int .u16 5600,.int .u16 8192,.int .u16 8202,.int .u16 1,.int .u16 8232,.int .u16 8233,.int .u16 1,.int .u16 8239,.int .u16 8287,.int .u16 48,.int .u16 12288,.int .u16 12288,.int .u16 1] 337,
  .cells #[.slice (some ⟨N,0,none⟩) 7 7,.slice none 0 0,.int .i64 2] 334],#[],[]⟩
 let put (h:Array Obj) (g:Nat) (cs:Array Value):Array Obj:=h.modify g fun
  |.cells _ t frozen=>.cells cs t frozen
  |o=>o
 let ints (d:DataW Unit):Array Value:=match d with
  |.agg l=>(l.map fun x=>match x with|.lit (.int k z)=>Value.int k z|_=>.bool false).toArray
  |_=>#[]
 let h1:=put w0.heap 4 (ints Rows.laid_math_bits_deBruijn32tab)
 let h2:=put h1 5 (ints Rows.laid_math_bits_deBruijn64tab)
 let h3:=put h2 3 (ints Rows.laid_internal_strconv_uint64pow10)
 let h4:=put h3 1 (ints Rows.laid_strings_asciiSpace)
 let h5:=put h4 2 #[.pointer (some ⟨N+1,0,none⟩)]
 { w0 with heap:=h5 }
def xY:Array Value:=#[.slice none 0 0]
theorem OK(os:Os):laidMet Tryz.prog Rows.fnLinkRow.laid ((ua os).forCall (fun _ _=>0) ⟨#[],xY,[]⟩).memory :=
 laidMet_of_run' 10 (by kernel_rfl) (by kernel_rfl)
theorem Gf(os:Os){H:Type}(enc:TypeId × Value->H) :
  (OpenSpec.ofChange Rows.fnLinkSpec).preRow enc Tryz.prog Tryz.f5 Rows.fnLinkRow.domain false Rows.fnLinkRow.laid ((ua os).forCall (fun _ _=>0) ⟨#[],xY,[]⟩).memory xY:=by
 have hw:(DataW.whole enc Tryz.prog ((ua os).forCall (fun _ _=>0) ⟨#[],xY,[]⟩).memory Tryz.f5.params.toList Rows.fnLinkSpec.vars false xY.toList 8).map (fun x=>(x.1,x.2.1)) =
   some ([.nil],[]):=by kernel_rfl
 have⟨⟨x1,x2,x3⟩,hx,XQ⟩:=Option.map_eq_some_iff.1 hw;simp only[Prod.mk.injEq]at XQ;obtain⟨rfl,rfl⟩:=XQ;exact OpenSpec.preRow_of_cond 8 hx (by kernel_rfl) (fun k hk=>by cases hk) (by kernel_rfl) (OK os)
set_option maxRecDepth 100000 in
theorem lifted(os:Os)(started:os.Started)(H:Type)(enc:TypeId × Value->H)(F:Stop.Interp) :
  ReturnsInHanded {} Tryz.checked os 5 .any ((OpenSpec.ofChange Rows.fnLinkSpec).preRow enc Tryz.prog Tryz.f5 Rows.fnLinkRow.domain false Rows.fnLinkRow.laid) (((OpenSpec.ofChange Rows.fnLinkSpec).at F).post enc Tryz.prog Tryz.f5 false true false false):=by
 refine returnsInHanded_of_row (C:=Tryz.checked) (s:=OpenSpec.ofChange Rows.fnLinkSpec) own started (by kernel_rfl) Tryz.func5
  (witness_row_atRef (enc:=enc) (C:=Tryz.checked) false (ua os) xY rfl (by kernel_rfl) (by kernel_rfl) (by kernel_rfl) (Gf os enc)) ?_
 intro W base args ds gs before DW hW _ _ _ hL hS _;exact NT H enc W base args ds gs before DW hW hL hS
end Go.Proofs.YtfmnfhpifpjljaaGreatDoor.fnLink
