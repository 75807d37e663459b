/- Part 10 of proofs that are told in their last texts. -/
import Derived.Test.YtfahcenafcklmaaGreatDoorZ9
import Derived.Test.YtfahcenafcklmaaGreatDoorProg
import Derived.KernelRfl
import Derived.Test.YtfahcenafcklmaaGreatDoorZ1
set_option linter.unusedVariables false
set_option linter.unusedSimpArgs false
set_option maxRecDepth 100000
namespace Go.Xg
open Go.RowKit Go.Xw
structure Hid (B:Prop):Prop where
 h:B
structure sL (aR:List Nat) (C:Prop):Prop where
 h:C
section
variable {P:Program} {m:Nat} {ops:Array Oper} {Q:dL} {rest:List Oper} {fr:List GV} {Γ:List Ob} {d:Option Tmp} {ty:TypeId} {pos:String} {af:Array Edge}
theorem GL.uO {f:FuncId} [hf:ba P f] {aR:List Nat} {args:List Operand} {qm:Array TypeId} {gs:List GV} {im q6:List Ob} {g:GV} (hc:sL aR (GF P f gs im g q6)) (ha:lf (args.map (bg fr)) (l9 (ct aR Γ.length) gs)) (ei:jq aR Γ.length=true)
  (bO:seen (ct aR Γ.length) Γ aR im) (hl:Nat.ble aR.length q6.length=true) (h:GL P m ops Q rest (bK fr d (dU (ct aR Γ.length) g)) (eD Γ aR (q6.map (Ob.dU (ct aR Γ.length))))) :
  GL P m ops Q (⟨d,.call ⟨.value (.func f),args.toArray,qm⟩,ty,pos,af,none⟩::rest) fr Γ:=GL.UL aR hc.h ha ei bO hl h
theorem GL.Sd {f:FuncId} [hf:ba P f] {aR:List Nat} {args:List Operand} {qm:Array TypeId} {gs:List GV} {im:List Ob} {R:GV->List Ob->Prop} (hc:sL aR (GC P f gs im R)) (ha:lf (args.map (bg fr)) (l9 (ct aR Γ.length) gs)) (ei:jq aR Γ.length=true)
  (bO:seen (ct aR Γ.length) Γ aR im) (h:∀ g aU,R g aU->aR.length<=aU.length/\GL P m ops Q rest (bK fr d (dU (ct aR Γ.length) g)) (eD Γ aR (aU.map (Ob.dU (ct aR Γ.length))))) :
  GL P m ops Q (⟨d,.call ⟨.value (.func f),args.toArray,qm⟩,ty,pos,af,none⟩::rest) fr Γ:=GL.I9 aR hc.h ha ei bO h
theorem GL.KB {f:FuncId} [hf:ba P f] {aR:List Nat} {x:Operand} {first cap:List GV} {args:List Operand} {qm:Array TypeId} {gs:List GV} {im:List Ob} {R:GV->List Ob->Prop} (hc:sL aR (GC P f gs im R)) (hx:bg fr x=.fn (.func f) first cap) (ha:first++args.map (bg fr)++cap=l9 (ct aR Γ.length) gs) (ei:jq aR Γ.length=true)
  (bO:seen (ct aR Γ.length) Γ aR im) (h:∀ g aU,R g aU->aR.length<=aU.length/\GL P m ops Q rest (bK fr d (dU (ct aR Γ.length) g)) (eD Γ aR (aU.map (Ob.dU (ct aR Γ.length))))) :
  GL P m ops Q (⟨d,.call ⟨.value x,args.toArray,qm⟩,ty,pos,af,none⟩::rest) fr Γ:=GL.UN aR hc.h hx ha ei bO h
theorem GL.KA {f:FuncId} [hf:ba P f] {aR:List Nat} {x:Operand} {args:List Operand} {qm:Array TypeId} {gs:List GV} {im:List Ob} {R:GV->List Ob->Prop} (hc:sL aR (GC P f gs im R)) (hx:bg fr x=.v (.func (.func f) #[] #[])) (ha:args.map (bg fr)=l9 (ct aR Γ.length) gs) (ei:jq aR Γ.length=true)
  (bO:seen (ct aR Γ.length) Γ aR im) (h:∀ g aU,R g aU->aR.length<=aU.length/\GL P m ops Q rest (bK fr d (dU (ct aR Γ.length) g)) (eD Γ aR (aU.map (Ob.dU (ct aR Γ.length))))) :
  GL P m ops Q (⟨d,.call ⟨.value x,args.toArray,qm⟩,ty,pos,af,none⟩::rest) fr Γ:=GL.UM aR hc.h hx ha ei bO h
end
theorem az {A : Prop} (s : A := by first | omega | assumption | (simp only [List.length_append,List.length_cons,List.length_nil];omega)) : A := s
theorem ay {A : Prop} (s : A := by first | rfl | assumption) : A := s
theorem fE {A : Prop} (s : A := by apply K.len;first | exact YG.Ve rfl | exact YG.OR rfl | exact YG.XR rfl | exact YG.XS rfl | exact YG.lenA rfl) : A := s
theorem ik {A : Prop} (s : A := by first | exact .inr rfl | exact .inl rfl) : A := s
theorem fi {A : Prop} (s : A := by apply K.ld;first | exact YG.WB rfl rfl ay | exact YG.OM rfl rfl rfl rfl | exact YG.ldV rfl rfl ay ay ay | exact YG.WA rfl rfl ay ay ay) : A := s
theorem MX {A : Prop} (s : A := by apply K.ld;first | exact YG.WB rfl rfl ay | exact YG.TN rfl ay | exact YG.OM rfl rfl rfl rfl | exact YG.TO rfl rfl rfl | exact YG.ldV rfl rfl ay ay ay | exact YG.WA rfl rfl ay ay ay) : A := s
theorem eh {A : Prop} (s : A := by apply K.ZQ;first | exact YG.XZ rfl | exact YG.JI rfl) : A := s
theorem eE {A : Prop} (s : A := by apply K.pick;first | exact YG.Qy rfl ay | exact YG.Qx rfl ay) : A := s
theorem aH {A : Prop} (s : A := by assumption) : A := s
theorem eF {A : Prop} (s : A := by omega) : A := s
theorem Bv {A : Prop} (s : A := by apply K.bin;first | exact YG.go rfl | exact YG.ja rfl rfl eF | exact YG.gZ rfl rfl | exact YG.ig rfl rfl | exact YG.mN rfl rfl | exact YG.mR rfl rfl | exact YG.cat rfl rfl eF | exact YG.cat rfl rfl (by simp only [List.length_append,List.length_cons,List.length_nil];omega) | exact YG.addN rfl rfl eF | exact YG.add rfl rfl eF | exact YG.sub rfl rfl eF | exact YG.mul rfl rfl eF | exact YG.km rfl rfl eF | exact YG.quo rfl rfl eF | exact YG.rem rfl rfl eF | exact YG.gi rfl rfl) : A := s
theorem Bw {A : Prop} (s : A := by apply K.nR;first | exact YG.kl rfl rfl rfl eF | exact YG.kj rfl rfl eF | exact YG.ki rfl rfl eF | exact YG.fw 1 rfl rfl rfl ay) : A := s
theorem QF {A : Prop} (s : A := by apply K.idx;first | exact YG.idxV rfl rfl rfl ay eF | exact YG.aM 0 rfl rfl rfl az | exact YG.aM 1 rfl rfl rfl az | exact YG.aM 2 rfl rfl rfl az | exact YG.aM 3 rfl rfl rfl az | exact YG.aM 4 rfl rfl rfl az | exact YG.aM 5 rfl rfl rfl az | exact YG.aM 6 rfl rfl rfl az) : A := s
theorem QG {A : Prop} (s : A := by apply K.idx;first | exact YG.fR rfl rfl aH | exact YG.b6 rfl rfl aH rfl | exact YG.b6 rfl rfl aH eF | exact YG.jd rfl rfl eF | exact YG.idxV rfl rfl rfl ay eF | exact YG.aM 0 rfl rfl rfl az | exact YG.aM 1 rfl rfl rfl az | exact YG.aM 2 rfl rfl rfl az | exact YG.aM 3 rfl rfl rfl az | exact YG.aM 4 rfl rfl rfl az | exact YG.aM 5 rfl rfl rfl az | exact YG.aM 6 rfl rfl rfl az) : A := s
theorem xY {A : Prop} (s : A := by first | rfl | exact IntWalk.i64_in _ eF | exact IntWalk.u8_in _ eF | assumption) : A := s
theorem Gi {A : Prop} (s : A := by apply K.idx;first | exact YG.fR rfl rfl aH | exact YG.b6 rfl rfl aH rfl | exact YG.b6 rfl rfl aH eF | exact YG.jd rfl rfl eF) : A := s
theorem eG {A : Prop} (s : A := by apply K.Cd;first | exact YG.mkfn0 | exact YG.Cd) : A := s
theorem eM {A : Prop} (s : A := by apply K.ld;first | exact YG.TN rfl ay | exact YG.TO rfl rfl rfl) : A := s
theorem MZ {A : Prop} (s : A := by apply K.SD;first | exact YG.SH rfl | exact YG.SE rfl | exact YG.fldV rfl rfl ay | exact YG.SG rfl rfl ay) : A := s
theorem J8 {A : Prop} (s : A := by first | exact YG.mv | exact YG.ky | exact Bv | exact MZ | exact MX | exact fE | exact eh | exact eE | exact QG | exact YG.ext rfl rfl | exact YG.go rfl | exact Bw | exact YG.ia rfl rfl aH | exact YG.idxSC rfl rfl aH rfl | exact eG | exact YG.build rfl | exact YG.neg rfl eF | exact YG.hH rfl rfl | exact YG.lM rfl xY | exact YG.str rfl ay) : A := s
theorem eN {A : Prop} (s : A := by apply K.SD;first | exact YG.SH rfl | exact YG.SE rfl) : A := s
theorem fj {A : Prop} (s : A := by apply K.SD;first | exact YG.fldV rfl rfl ay | exact YG.SG rfl rfl ay) : A := s
theorem QE {A : Prop} (s : A := by first | exact fi | exact QF | exact fj | exact YG.fg 1 rfl rfl ay ay | exact YG.mv | exact YG.ky | exact Bv | exact eN | exact eM | exact fE | exact eh | exact eE | exact Gi | exact YG.ext rfl rfl | exact YG.go rfl | exact Bw | exact YG.ia rfl rfl aH | exact YG.idxSC rfl rfl aH rfl | exact eG | exact YG.build rfl | exact YG.neg rfl eF | exact YG.hH rfl rfl | exact YG.lM rfl xY | exact YG.str rfl ay) : A := s
theorem MY {A : Prop} (s : A := by first | exact fi | exact QF | exact fj | exact YG.fg 1 rfl rfl ay ay) : A := s
theorem jl {A:Prop} (s:A:=by repeat (first | exact cS.n | (apply cS.w;(· decide +kernel)) | (apply cS.y;(· first | (apply YQ.t;(· exact rfl);(· exact rfl);(· exact QE)) | (apply YQ.t;(· exact rfl);(· apply o9;(· exact rfl);(· first | exact rfl | assumption));(· exact QE)) | (apply YQ.f;(· exact rfl);(· apply pX;(· exact rfl);(· first | exact rfl | assumption))))))):A:=s
theorem cR {A:Prop} (s:A:=by (try simp only [bK,bN,bg,cB,List.length_cons,List.length_nil,Nat.reduceAdd,dU,l9,ct]);rfl):A:=s
theorem dw {A:Prop} (s:A:=by (try simp only [List.cons_append,List.nil_append,oset,oW,bN,cB,bg,eD,List.map_cons,List.map_nil,Ob.dU,dU,l9,ct]);rfl):A:=s
theorem sq {A:Prop} (s:A:=by simp only [bK,bN,bg,cB];rfl):A:=s
theorem um {A:Prop} (s:A:=by first | exact lf.refl | (repeat (first | exact lf.nil | exact mJ.refl | exact mJ.nil | exact mJ.U | exact mJ.fn0 | refine lf.cons ?_ ?_ | refine mJ.agg ?_))):A:=s
theorem nX {A:Prop} (s:A:=by first | exact trivial | exact ⟨rfl,trivial⟩ | exact ⟨rfl,rfl,trivial⟩ | exact ⟨rfl,rfl,rfl,trivial⟩ | exact ⟨rfl,rfl,rfl,rfl,rfl,trivial⟩):A:=s
theorem ab {A B:Prop} (h:B) (s:Hid B->A:=by intro hQ;(repeat (first | ((first | (apply GL.q;(· exact J8)) | refine GL.nil ?_ | refine bo ?_ | refine GW.seq ?_ | refine GW.region ?_ | refine GW.skip ?_ | refine jb ?_ | refine GW.block ?_ | (apply GL.gt;(· exact rfl);(· first | exact rfl | assumption)) | (apply GL.gf;(· exact rfl);(· first | exact rfl | assumption)) | (apply GL.gu;(· exact rfl)) | (apply Ki;(· exact rfl);(· first | exact rfl | assumption)) | (apply Kh;(· exact rfl);(· first | exact rfl | assumption)));try refine GN sq ?_) | ((first | (apply GL.alloc;(· simp only [oy,Value.cells,List.map_cons,List.map_nil];rfl)) | (apply GL.box;(· exact rfl)) | (apply GL.st;(· exact rfl);(· exact rfl);(· exact rfl);(· exact rfl);(· exact rfl);(· exact rfl)));refine r6 cR dw ?_)));exact hQ.1):A:=s ⟨h⟩
theorem aq {A B:Prop} (h:B) (s:Hid B->A:=by intro hQ;(repeat ((first | (apply Yd;(· exact rfl)) | (apply Yc;(· exact rfl)) | (apply OP;(· exact rfl);(· intro Γ;(first | exact Bv | exact eN | exact eM | exact fE | exact eh | exact Gi | exact YG.ext rfl rfl | exact YG.go rfl | exact Bw | exact YG.ia rfl rfl aH | exact YG.idxSC rfl rfl aH rfl | exact eG | exact YG.build rfl | exact YG.neg rfl eF | exact YG.hH rfl rfl | exact YG.lM rfl xY | exact YG.str rfl ay))) | (apply WV;(· exact rfl);(· exact rfl);(· first | exact rfl | assumption)) | (apply WU;(· exact rfl);(· exact rfl);(· first | exact rfl | assumption)) | (apply WW;(· exact rfl);(· exact rfl);(· first | exact rfl | assumption)) | (apply OQ;(· exact rfl);(· exact MY)) | (apply VP;(· exact rfl);(· exact rfl);(· first | exact rfl | assumption);(· intro Γ;(first | exact YG.mv | exact YG.ky | exact Bv | exact eN | exact eM | exact fE | exact eh | exact eE | exact Gi | exact YG.ext rfl rfl | exact YG.go rfl | exact Bw | exact YG.ia rfl rfl aH | exact YG.idxSC rfl rfl aH rfl | exact eG | exact YG.build rfl | exact YG.neg rfl eF | exact YG.hH rfl rfl | exact YG.lM rfl xY | exact YG.str rfl ay))) | (apply Ye;(· exact rfl);(· exact rfl);(· first | exact rfl | assumption);(· exact MY)) | (apply Yb;(· exact rfl);(· exact rfl);(· first | exact rfl | assumption)) | (apply ONu;(· exact rfl);(· exact rfl)) | (apply Ya;(· exact rfl);(· exact rfl);(· first | exact rfl | assumption);(· exact jl)) | (apply OAu;(· exact rfl);(· exact rfl);(· exact jl)) | refine GO.nil ?_ | (apply OA;(· exact rfl);(· exact rfl);apply GL.alloc;(· simp only [oy,Value.cells,List.map_cons,List.map_nil];rfl);refine GL.nil (bo (dm.mk jl ?_));refine jx cR dw ?_) | (apply OA;(· exact rfl);(· exact rfl);apply GL.st;(· exact rfl);(· exact rfl);(· exact rfl);(· exact rfl);(· exact rfl);(· exact rfl);refine GL.nil (bo (dm.mk jl ?_));refine jx cR dw ?_) | (apply OA;(· exact rfl);(· exact rfl);apply GL.box;(· exact rfl);refine GL.nil (bo (dm.mk jl ?_));refine jx cR dw ?_));try refine VK sq ?_));exact hQ.1):A:=s ⟨h⟩
theorem oo {A B:Prop} (h:B) (s:Hid B->A:=by intro hQ;(repeat (first | ((first | (apply GL.q;(· (first | exact YG.mv | exact YG.ky | exact Bv | exact MZ | exact MX | exact fE | exact eh | exact eE | exact QG | exact YG.ext rfl rfl | exact YG.go rfl | exact Bw | exact YG.ia rfl rfl aH | exact YG.idxSC rfl rfl aH rfl | fail | exact YG.build rfl | exact YG.neg rfl eF | exact YG.hH rfl rfl | exact YG.lM rfl xY | exact YG.str rfl ay))) | refine GL.nil ?_ | refine bo ?_ | refine GW.seq ?_ | refine GW.region ?_ | refine GW.skip ?_ | refine jb ?_ | refine GW.block ?_ | (apply GL.gt;(· exact rfl);(· first | exact rfl | assumption)) | (apply GL.gf;(· exact rfl);(· first | exact rfl | assumption)) | (apply GL.gu;(· exact rfl)) | (apply Ki;(· exact rfl);(· first | exact rfl | assumption)) | (apply Kh;(· exact rfl);(· first | exact rfl | assumption)));try refine GN sq ?_) | ((first | (apply GL.alloc;(· simp only [oy,Value.cells,List.map_cons,List.map_nil];rfl)) | (apply GL.box;(· exact rfl)) | (apply GL.st;(· exact rfl);(· exact rfl);(· exact rfl);(· exact rfl);(· exact rfl);(· exact rfl)));refine r6 cR dw ?_)));exact hQ.1):A:=s ⟨h⟩
theorem RT {A B:Prop} (h:B) (s:Hid B->A:=by intro hQ;(repeat (first | ((first | (apply GL.q;(· exact J8)) | refine GL.nil ?_ | refine bo ?_ | refine GW.seq ?_ | refine GW.region ?_ | refine GW.skip ?_ | refine jb ?_ | (apply GL.gt;(· exact rfl);(· first | exact rfl | assumption)) | (apply GL.gf;(· exact rfl);(· first | exact rfl | assumption)) | (apply GL.gu;(· exact rfl)) | (apply Ki;(· exact rfl);(· first | exact rfl | assumption)) | (apply Kh;(· exact rfl);(· first | exact rfl | assumption)));try refine GN sq ?_) | ((first | (apply GL.alloc;(· simp only [oy,Value.cells,List.map_cons,List.map_nil];rfl)) | (apply GL.box;(· exact rfl)) | (apply GL.st;(· exact rfl);(· exact rfl);(· exact rfl);(· exact rfl);(· exact rfl);(· exact rfl)));refine r6 cR dw ?_)));exact hQ.1):A:=s ⟨h⟩
theorem om {A B:Prop} (h:B) (s:Hid B->A:=by intro hQ;(try refine GN sq ?_);exact hQ.1):A:=s ⟨h⟩
theorem kv {A B:Prop} (h:B) (s:Hid B->A:=by intro hQ;(try refine VK sq ?_);exact hQ.1):A:=s ⟨h⟩
theorem fy {A B:Prop} (h:B) (s:Hid B->A:=by intro hQ;(refine r6 cR dw ?_);exact hQ.1):A:=s ⟨h⟩
theorem MW {A B:Prop} (h:B) (s:Hid B->A:=by intro hQ;(refine jx cR dw ?_);exact hQ.1):A:=s ⟨h⟩
theorem iw {A B:Prop} (h:B) (s:Hid B->A:=by intro hQ;((repeat (first | refine GW.exit ?_ | refine EC ?_ | refine HB ?_ | refine ginb_xn rfl ?_ | refine jb ?_ | refine bo ?_)));exact hQ.1):A:=s ⟨h⟩
theorem cq {A B:Prop} (h:B) (s:Hid B->A:=by intro hQ;((repeat (first | refine GW.ret ?_ | refine jW ?_ | refine jV ?_ | refine bo ?_ | refine jb ?_));refine BW rfl ik rfl (Nat.le_refl _) rfl rfl ?_);exact hQ.1):A:=s ⟨h⟩
theorem gM {A B:Prop} (h:B) (s:Hid B->A:=by intro hQ;((repeat (first | refine GW.ret ?_ | refine jW ?_ | refine jV ?_ | refine bo ?_ | refine jb ?_));refine W6 rfl ik (Nat.le_refl _) rfl ?_);exact hQ.1):A:=s ⟨h⟩
theorem yE {A B:Prop} (h:B) (s:Hid B->A:=by intro hQ;((repeat (first | refine GW.ret ?_ | refine jW ?_ | refine jV ?_ | refine bo ?_ | refine jb ?_));refine SK rfl ik rfl rfl (Nat.le_refl _) rfl rfl ?_);exact hQ.1):A:=s ⟨h⟩
theorem yF {A B:Prop} (h:B) (s:Hid B->A:=by intro hQ;((repeat (first | refine GW.ret ?_ | refine jW ?_ | refine jV ?_ | refine bo ?_ | refine jb ?_));refine SL rfl ik rfl rfl rfl (Nat.le_refl _) rfl rfl ?_);exact hQ.1):A:=s ⟨h⟩
theorem kq {A B:Prop} (h:B) (s:Hid B->A:=by intro hQ;((repeat (first | refine GW.ret ?_ | refine jW ?_ | refine jV ?_ | refine bo ?_ | refine jb ?_));refine Ax ?_;refine SL rfl ik rfl rfl rfl (Nat.le_refl _) rfl rfl ?_);exact hQ.1):A:=s ⟨h⟩
theorem Gg {A B:Prop} (h:B) (s:Hid B->A:=by intro hQ;((repeat (first | refine GW.ret ?_ | refine jW ?_ | refine jV ?_ | refine bo ?_ | refine jb ?_));refine Ax ?_;refine SK rfl ik rfl rfl (Nat.le_refl _) rfl rfl ?_);exact hQ.1):A:=s ⟨h⟩
theorem qY {A B:Prop} (h:B) (s:Hid B->A:=by intro hQ;((repeat (first | refine GW.ret ?_ | refine jW ?_ | refine jV ?_ | refine bo ?_ | refine jb ?_));refine Ax ?_;refine SM rfl ik rfl rfl rfl (Nat.le_refl _) rfl rfl ?_);exact hQ.1):A:=s ⟨h⟩
theorem mG {A B:Prop} (h:B) (s:Hid B->A:=by intro hQ;((repeat (first | refine GW.ret ?_ | refine jW ?_ | refine jV ?_ | refine bo ?_ | refine jb ?_));refine UY rfl ik rfl rfl rfl rfl (Nat.le_refl _) rfl rfl ?_);exact hQ.1):A:=s ⟨h⟩
theorem kZ {A B:Prop} (h:B) (s:Hid B->A:=by intro hQ;((repeat (first | refine GW.ret ?_ | refine jW ?_ | refine jV ?_ | refine bo ?_ | refine jb ?_));refine Le rfl ik rfl rfl rfl rfl rfl (Nat.le_refl _) rfl rfl ?_);exact hQ.1):A:=s ⟨h⟩
theorem wQ {A B:Prop} (h:B) (s:Hid B->A:=by intro hQ;((repeat (first | refine GW.ret ?_ | refine jW ?_ | refine jV ?_ | refine bo ?_ | refine jb ?_));refine Ax ?_;refine Le rfl ik rfl rfl rfl rfl rfl (Nat.le_refl _) rfl rfl ?_);exact hQ.1):A:=s ⟨h⟩
theorem mh {A B:Prop} (h:B) (s:Hid B->A:=by intro hQ;((repeat (first | refine GW.ret ?_ | refine jW ?_ | refine jV ?_ | refine bo ?_ | refine jb ?_));refine SM rfl ik rfl rfl rfl (Nat.le_refl _) rfl rfl ?_);exact hQ.1):A:=s ⟨h⟩
theorem cm {A B:Prop} (h:B) (s:Hid B->A:=by intro hQ;(refine GL.TW rfl rfl rfl rfl ?_;refine r6 cR dw ?_);exact hQ.1):A:=s ⟨h⟩
theorem rM {A B:Prop} (h:B) (s:Hid B->A:=by intro hQ;(refine GL.WD rfl rfl rfl rfl ?_;refine r6 cR dw ?_);exact hQ.1):A:=s ⟨h⟩
theorem gL {A B:Prop} (h:B) (s:Hid B->A:=by intro hQ;(refine GL.push rfl rfl rfl rfl rfl rfl rfl rfl ay ⟨⟨by omega,by omega⟩,by decide⟩ ?_;refine r6 cR dw ?_);exact hQ.1):A:=s ⟨h⟩
theorem CQ {A B:Prop} (h:B) (s:Hid B->A:=by intro hQ;(refine OA rfl rfl (GL.WD rfl rfl rfl rfl (GL.nil (bo (dm.mk jl ?_))));refine jx cR dw ?_);exact hQ.1):A:=s ⟨h⟩
theorem CP {A B:Prop} (h:B) (s:Hid B->A:=by intro hQ;(refine OA rfl rfl (GL.app rfl rfl rfl ay rfl rfl (by refine ⟨?_,?_⟩;(· show _+1<=_;omega);(· show (_+1) * _<=_;omega)) (GL.nil (bo (dm.mk jl ?_))));refine jx cR dw ?_);exact hQ.1):A:=s ⟨h⟩
theorem dA {A B:Prop} (h:B) (s:Hid B->A:=by intro hQ;(refine OA rfl rfl (GL.TW rfl rfl rfl rfl (GL.nil (bo (dm.mk jl ?_))));refine jx cR dw ?_);exact hQ.1):A:=s ⟨h⟩
theorem Ge {A B:Prop} (h:B) (s:Hid B->A:=by intro hQ;(refine OA rfl rfl (GL.st rfl rfl rfl rfl rfl rfl (GL.nil (bo (dm.mk jl ?_))));refine jx cR dw ?_);exact hQ.1):A:=s ⟨h⟩
theorem J7 {A B:Prop} (h:B) (s:Hid B->A:=by intro hQ;(refine OA rfl rfl (GL.MS 1 (by kernel_rfl) (by kernel_rfl) rfl rfl rfl rfl aH eF (GL.nil (bo (dm.mk jl ?_))));refine jx cR dw ?_);exact hQ.1):A:=s ⟨h⟩
theorem Gh {A B:Prop} (h:B) (s:Hid B->A:=by intro hQ;(refine GL.Dz rfl rfl rfl ay rfl rfl rfl rfl ?_;refine r6 cR dw ?_);exact hQ.1):A:=s ⟨h⟩
theorem gg {A B:Prop} (h:B) (s:Hid B->A:=by intro hQ;(refine ⟨by simp,?_⟩;refine r6 cR dw ?_);exact hQ.1):A:=s ⟨h⟩
theorem nV {A B:Prop} (h:B) (s:Hid B->A:=by intro hQ;(refine GL.nil (bo (dm.mk jl ?_));refine jx cR dw ?_);exact hQ.1):A:=s ⟨h⟩
theorem oh {A:Prop} (s:A:=by simp only [bb,uP];rfl):A:=s
theorem fT {A:Prop} (s:A:=by first | exact lf.refl | exact mJ.refl | (repeat (first | exact lf.nil | exact mJ.refl | exact mJ.nil | exact mJ.U | exact mJ.fn0 | refine lf.cons ?_ ?_ | refine mJ.agg ?_ | refine mJ.tup ?_))):A:=s
theorem aw {A:Prop} (s:A:=by repeat (first | exact tQ.nil | refine tQ.U ?_ | refine tQ.eq rfl ?_)):A:=s
theorem kJ {A B C:Prop} (aR:List Nat) (c:C) (h:B) (s:sL aR C->Hid B->A:=by intro hC hQ;(refine GL.uO hC um rfl nX rfl ?_;refine r6 cR dw ?_);exact hQ.1):A:=s ⟨c⟩ ⟨h⟩
theorem V {A B C:Prop} (aR:List Nat) (c:C) (h:B) (s:sL aR C->Hid B->A:=by intro hC hQ;(refine GL.uO hC um rfl nX rfl ?_;refine r6 cR dw ?_);refine ab ?_;exact hQ.1):A:=s ⟨c⟩ ⟨h⟩
theorem lx {A B C:Prop} (aR:List Nat) (c:C) (h:B) (s:sL aR C->Hid B->A:=by intro hC hQ;(refine OA rfl rfl (GL.uO hC um rfl nX rfl (GL.nil (bo (dm.mk jl ?_))));refine jx cR dw ?_);exact hQ.1):A:=s ⟨c⟩ ⟨h⟩
theorem ax {A B C:Prop} (aR:List Nat) (c:C) (h:B) (s:sL aR C->Hid B->A:=by intro hC hQ;(refine OA rfl rfl (GL.uO hC um rfl nX rfl (GL.nil (bo (dm.mk jl ?_))));refine jx cR dw ?_);refine aq ?_;exact hQ.1):A:=s ⟨c⟩ ⟨h⟩
theorem WQ {A B C:Prop} (aR:List Nat) (c:C) (h:B) (s:sL aR C->Hid B->A:=by intro hC hQ;(refine VO rfl rfl rfl (by first | exact rfl | assumption) (GL.uO hC um rfl nX rfl (GL.nil (bo (dm.mk jl ?_))));refine jx cR dw ?_);exact hQ.1):A:=s ⟨c⟩ ⟨h⟩
theorem du {A B C:Prop} (aR:List Nat) (c:C) (h:B) (s:sL aR C->Hid B->A:=by intro hC hQ;(refine VO rfl rfl rfl (by first | exact rfl | assumption) (GL.uO hC um rfl nX rfl (GL.nil (bo (dm.mk jl ?_))));refine jx cR dw ?_);refine aq ?_;exact hQ.1):A:=s ⟨c⟩ ⟨h⟩
theorem kp {A B C:Prop} (aR:List Nat) (c:C) (h:B) (s:sL aR C->Hid B->A:=by intro hC hQ;(refine GL.KA hC rfl rfl rfl nX ?_;rintro _ _ ⟨rfl,rfl⟩;refine ⟨by simp,?_⟩;refine r6 cR dw ?_);exact hQ.1):A:=s ⟨c⟩ ⟨h⟩
theorem wP {A B C:Prop} (aR:List Nat) (c:C) (h:B) (s:sL aR C->Hid B->A:=by intro hC hQ;(refine GL.KB hC rfl rfl rfl nX ?_;rintro _ _ ⟨rfl,rfl⟩;refine ⟨by simp,?_⟩;refine r6 cR dw ?_);exact hQ.1):A:=s ⟨c⟩ ⟨h⟩
theorem xX {A B C:Prop} (aR:List Nat) (c:C) (h:B) (s:sL aR C->Hid B->A:=by intro hC hQ;(refine OA rfl rfl (GL.KA hC rfl rfl rfl nX ?_);rintro _ _ ⟨rfl,rfl⟩;refine ⟨by simp,(GL.nil (bo (dm.mk jl ?_)))⟩;refine jx cR dw ?_);exact hQ.1):A:=s ⟨c⟩ ⟨h⟩
theorem nW {A B C:Prop} (aR:List Nat) (c:C) (h:B) (s:sL aR C->Hid B->A:=by intro hC hQ;(refine OA rfl rfl (GL.KB hC rfl rfl rfl nX ?_);rintro _ _ ⟨rfl,rfl⟩;refine ⟨by simp,(GL.nil (bo (dm.mk jl ?_)))⟩;refine jx cR dw ?_);exact hQ.1):A:=s ⟨c⟩ ⟨h⟩
theorem dW {A B C:Prop} (aR:List Nat) (c:C) (h:B) (s:sL aR C->Hid B->A:=by intro hC hQ;(refine GL.Sd hC um rfl nX ?_);exact hQ.1):A:=s ⟨c⟩ ⟨h⟩
theorem fD {A B C aaH : Prop} (f : C) (n : aaH) (h : B) (s : C -> aaH -> Hid B -> A := by intro hC hD hQ;refine GC.enter hC hD rfl (by simp only [xj,EB,Nat.reduceSub];rfl) ?_;exact hQ.1) : A := s f n ⟨h⟩
theorem aj {A B C aaH : Prop} (f : C) (n : aaH) (h : B) (s : C -> aaH -> Hid B -> A := by intro hC hD hQ;refine GC.enter hC hD rfl (by simp only [xj,EB,Nat.reduceSub];rfl) ?_;refine ab ?_;exact hQ.1) : A := s f n ⟨h⟩
theorem ao {A : Prop} (s : A := by refine cq ?_;exact ⟨rfl,rfl⟩) : A := s
theorem av {A : Prop} (s : A := by refine ab ?_;refine cq ?_;exact ⟨rfl,rfl⟩) : A := s
theorem tM {A : Prop} (s : A := by refine gM ?_;exact ⟨rfl,rfl⟩) : A := s
theorem Gf {A : Prop} (s : A := by refine ab ?_;refine gM ?_;exact ⟨rfl,rfl⟩) : A := s
theorem Pp {A : Prop} (s : A := by refine yE ?_;exact ⟨rfl,rfl⟩) : A := s
theorem Ad {A : Prop} (s : A := by refine ab ?_;refine yE ?_;exact ⟨rfl,rfl⟩) : A := s
theorem eJ {A : Prop} (s : A := by refine mh ?_;exact ⟨rfl,rfl⟩) : A := s
theorem ph {A : Prop} (s : A := by refine ab ?_;refine mh ?_;exact ⟨rfl,rfl⟩) : A := s
theorem al {A : Prop} (s : A := by kernel_rfl) : A := s
theorem X {A : Prop} (s : A := by omega) : A := s
theorem CR {A B : Prop} (h : B) (s : Hid B -> A := by intro hQ;(repeat (first | refine GW.ret ?_ | refine jW ?_ | refine jV ?_ | refine bo ?_ | refine jb ?_));exact hQ.1) : A := s ⟨h⟩
theorem aaF {A : Prop} (s : A := by first | rfl | assumption) : A := s
theorem nc {A : Prop} (s : A := by rintro k _ _ ⟨rfl,rfl,_⟩;exact ⟨rfl,rfl,rfl⟩) : A := s
theorem oF {A : Prop} (s : A := by exact ⟨_,_,Wk.aX aw,rfl,rfl⟩) : A := s
theorem qn {A : Prop} (s : A := by exact ⟨_,_,Wk.aX aw,rfl,rfl,rfl⟩) : A := s
theorem jN {A : Prop} (s : A := by refine ab ?_;exact ⟨_,_,Wk.aX aw,rfl,rfl⟩) : A := s
theorem gU {A : Prop} (s : A := by exact ⟨rfl,rfl,rfl⟩) : A := s
theorem bF {A B : Prop} (h : B) (s : Hid B -> A := by intro hQ;refine aq ?_;refine ab ?_;exact hQ.1) : A := s ⟨h⟩
theorem dF {A B : Prop} (h : B) (s : Hid B -> A := by intro hQ;refine ab ?_;refine iw ?_;exact hQ.1) : A := s ⟨h⟩
theorem tL {A : Prop} (s : A := by exact ⟨⟨by omega,by omega⟩,by decide⟩) : A := s
theorem aE {A : Prop} (s : A := by decide) : A := s
def aC:Nat->Nat->Ot->Ot
 | _,0,r=>r
 | s,n+1,r=>.q s (aC (s+1) n r)
def X3:List Nat->Ot->Ot
 | [],r=>r
 | i::l,r=>.q i (X3 l r)
theorem aS {P:Program} {m id:Nat} {ol:List Oper} {Q:dL} {fr:List GV} {Γ:List Ob} (ord:Ot) (h:GO P ol.toArray (Q .normal) ord [] fr Γ) (hm:P.follows .mixedOrders=true:=by kernel_rfl) (ei:(Region.noSelect ol.toArray&&(ord.len==ol.length)&&tB ol.toArray ord (Array.replicate ol.toArray.size false))=true:=by kernel_rfl):GW P m (.region id ol.toArray true) Q fr Γ:=GW.draw ord hm ei h
end Go.Xg
namespace Go.Xw
open Go.Proofs Tryz
open Go.Xg (al)
instance:ba prog 30:=⟨al⟩
instance:ba prog 31:=⟨al⟩
instance:ba prog 32:=⟨al⟩
instance:ba prog 33:=⟨al⟩
instance:ba prog 34:=⟨al⟩
instance:ba prog 35:=⟨al⟩
instance:ba prog 36:=⟨al⟩
instance:ba prog 37:=⟨al⟩
instance:ba prog 38:=⟨al⟩
instance:ba prog 39:=⟨al⟩
instance:ba prog 40:=⟨al⟩
instance:ba prog 47:=⟨al⟩
instance:ba prog 57:=⟨al⟩
instance:ba prog 62:=⟨al⟩
instance:ba prog 76:=⟨al⟩
instance:ba prog 77:=⟨al⟩
instance:ba prog 78:=⟨al⟩
instance:ba prog 79:=⟨al⟩
instance:ba prog 80:=⟨al⟩
instance:ba prog 81:=⟨al⟩
instance:ba prog 82:=⟨al⟩
instance:ba prog 83:=⟨al⟩
instance:ba prog 84:=⟨al⟩
instance:ba prog 85:=⟨al⟩
instance:ba prog 86:=⟨al⟩
instance:ba prog 87:=⟨al⟩
instance:ba prog 88:=⟨al⟩
instance:ba prog 89:=⟨al⟩
instance:ba prog 90:=⟨al⟩
instance:ba prog 91:=⟨al⟩
instance:ba prog 92:=⟨al⟩
instance:ba prog 93:=⟨al⟩
instance:ba prog 94:=⟨al⟩
instance:ba prog 95:=⟨al⟩
instance:ba prog 103:=⟨al⟩
instance:ba prog 116:=⟨al⟩
instance:ba prog 117:=⟨al⟩
instance:ba prog 118:=⟨al⟩
instance:ba prog 119:=⟨al⟩
instance:ba prog 120:=⟨al⟩
instance:ba prog 121:=⟨al⟩
instance:ba prog 122:=⟨al⟩
instance:ba prog 123:=⟨al⟩
instance:ba prog 124:=⟨al⟩
instance:ba prog 125:=⟨al⟩
instance:ba prog 126:=⟨al⟩
instance:ba prog 133:=⟨al⟩
instance:ba prog 134:=⟨al⟩
instance:ba prog 135:=⟨al⟩
instance:ba prog 136:=⟨al⟩
instance:ba prog 137:=⟨al⟩
instance:ba prog 138:=⟨al⟩
instance:ba prog 139:=⟨al⟩
instance:ba prog 140:=⟨al⟩
instance:ba prog 141:=⟨al⟩
instance:ba prog 142:=⟨al⟩
instance:ba prog 143:=⟨al⟩
instance:ba prog 144:=⟨al⟩
instance:ba prog 145:=⟨al⟩
instance:ba prog 146:=⟨al⟩
instance:ba prog 147:=⟨al⟩
instance:ba prog 148:=⟨al⟩
instance:ba prog 149:=⟨al⟩
instance:ba prog 150:=⟨al⟩
instance:ba prog 151:=⟨al⟩
instance:ba prog 152:=⟨al⟩
instance:ba prog 153:=⟨al⟩
instance:ba prog 156:=⟨al⟩
instance:ba prog 157:=⟨al⟩
instance:ba prog 158:=⟨al⟩
instance:ba prog 159:=⟨al⟩
instance:ba prog 160:=⟨al⟩
instance:ba prog 161:=⟨al⟩
instance:ba prog 162:=⟨al⟩
instance:ba prog 163:=⟨al⟩
instance:ba prog 178:=⟨al⟩
instance:ba prog 179:=⟨al⟩
instance:ba prog 180:=⟨al⟩
instance:ba prog 181:=⟨al⟩
instance:ba prog 182:=⟨al⟩
instance:ba prog 185:=⟨al⟩
instance:ba prog 186:=⟨al⟩
instance:ba prog 188:=⟨al⟩
instance:ba prog 189:=⟨al⟩
instance:ba prog 190:=⟨al⟩
instance:ba prog 191:=⟨al⟩
instance:ba prog 192:=⟨al⟩
instance:ba prog 193:=⟨al⟩
instance:ba prog 194:=⟨al⟩
instance:ba prog 195:=⟨al⟩
instance:ba prog 196:=⟨al⟩
instance:ba prog 197:=⟨al⟩
instance:ba prog 198:=⟨al⟩
instance:ba prog 199:=⟨al⟩
instance:ba prog 200:=⟨al⟩
instance:ba prog 201:=⟨al⟩
instance:ba prog 202:=⟨al⟩
instance:ba prog 203:=⟨al⟩
instance:ba prog 204:=⟨al⟩
instance:ba prog 205:=⟨al⟩
instance:ba prog 206:=⟨al⟩
instance:ba prog 207:=⟨al⟩
instance:ba prog 208:=⟨al⟩
instance:ba prog 211:=⟨al⟩
instance:ba prog 213:=⟨al⟩
instance:ba prog 214:=⟨al⟩
instance:ba prog 215:=⟨al⟩
instance:ba prog 216:=⟨al⟩
instance:ba prog 217:=⟨al⟩
instance:ba prog 218:=⟨al⟩
instance:ba prog 236:=⟨al⟩
instance:ba prog 237:=⟨al⟩
instance:ba prog 238:=⟨al⟩
instance:ba prog 239:=⟨al⟩
instance:ba prog 240:=⟨al⟩
instance:ba prog 241:=⟨al⟩
instance:ba prog 242:=⟨al⟩
instance:ba prog 246:=⟨al⟩
instance:ba prog 247:=⟨al⟩
instance:ba prog 249:=⟨al⟩
instance:ba prog 250:=⟨al⟩
instance:ba prog 251:=⟨al⟩
instance:ba prog 252:=⟨al⟩
instance:ba prog 253:=⟨al⟩
instance:ba prog 254:=⟨al⟩
instance:ba prog 255:=⟨al⟩
instance:ba prog 256:=⟨al⟩
instance:ba prog 257:=⟨al⟩
instance:ba prog 258:=⟨al⟩
instance:ba prog 259:=⟨al⟩
instance:ba prog 260:=⟨al⟩
instance:ba prog 262:=⟨al⟩
instance:ba prog 268:=⟨al⟩
instance:ba prog 269:=⟨al⟩
instance:ba prog 270:=⟨al⟩
instance:ba prog 271:=⟨al⟩
instance:ba prog 272:=⟨al⟩
instance:ba prog 273:=⟨al⟩
instance:ba prog 281:=⟨al⟩
instance:ba prog 286:=⟨al⟩
instance:ba prog 287:=⟨al⟩
instance:ba prog 288:=⟨al⟩
instance:ba prog 289:=⟨al⟩
instance:ba prog 290:=⟨al⟩
instance:ba prog 291:=⟨al⟩
instance:ba prog 292:=⟨al⟩
instance:ba prog 297:=⟨al⟩
instance:ba prog 302:=⟨al⟩
instance:ba prog 303:=⟨al⟩
instance:ba prog 308:=⟨al⟩
instance:ba prog 309:=⟨al⟩
instance:ba prog 311:=⟨al⟩
instance:ba prog 312:=⟨al⟩
instance:ba prog 315:=⟨al⟩
instance:Ty prog 3 false 1:=⟨al,al⟩
instance:Go.Xg.I0 prog 3 .i64:=⟨al⟩
instance:Ty prog 5 false 1:=⟨al,al⟩
instance:Go.Xg.I0 prog 5 .u8:=⟨al⟩
instance:Ty prog 9 false 1:=⟨al,al⟩
instance:pQ prog 9:=⟨al⟩
instance:Ty prog 22 false 1:=⟨al,al⟩
instance:Go.Xg.Kb prog 22:=Go.Xg.Kb.mk' (e:=5) (al) (al)
instance:nt prog 22 5 1:=⟨al,al⟩
instance:qp prog 22 5 1 [(.int .u8 (0))]:=⟨al,al,al,rfl,by decide,fun _=>rfl⟩
instance:Ty prog 23 false 1:=⟨al,al⟩
instance:nt prog 23 9 1:=⟨al,al⟩
instance:rZ prog 23 9 1 16:=⟨al⟩
instance:qp prog 23 9 1 [(.string ⟨#[]⟩)]:=⟨al,al,al,rfl,by decide,fun _=>rfl⟩
instance:Ty prog 24 false 1:=⟨al,al⟩
instance:nt prog 24 98 2:=⟨al,al⟩
instance:rZ prog 24 98 2 24:=⟨al⟩
instance:qp prog 24 98 2 [(.string ⟨#[]⟩),(.int .i64 (0))]:=⟨al,al,al,rfl,by decide,fun h=>by cases h⟩
instance:Ty prog 25 false 1:=⟨al,al⟩
instance:nt prog 25 65 3:=⟨al,al⟩
instance:rZ prog 25 65 3 48:=⟨al⟩
instance:qp prog 25 65 3 [(.string ⟨#[]⟩),(.slice none 0 0),(.int .i64 (0))]:=⟨al,al,al,rfl,by decide,fun h=>by cases h⟩
instance:Ty prog 26 false 1:=⟨al,al⟩
instance:nt prog 26 78 5:=⟨al,al⟩
instance:rZ prog 26 78 5 64:=⟨al⟩
instance:qp prog 26 78 5 [(.int .i64 (0)),(.int .i64 (0)),(.int .i64 (0)),(.string ⟨#[]⟩),(.slice none 0 0)]:=⟨al,al,al,rfl,by decide,fun h=>by cases h⟩
instance:Ty prog 28 true 4:=⟨al,al⟩
instance:sO prog 28 (.agg #[(.slice none 0 0),(.slice none 0 0),(.slice none 0 0),(.slice none 0 0)]):=⟨al⟩
instance:ft prog 28 0 0 1 false:=⟨al⟩
instance:ft prog 28 1 1 1 false:=⟨al⟩
instance:ft prog 28 2 2 1 false:=⟨al⟩
instance:ft prog 28 3 3 1 false:=⟨al⟩
instance:tO prog 28 [(0,1),(1,1),(2,1),(3,1)] [(.slice none 0 0),(.slice none 0 0),(.slice none 0 0),(.slice none 0 0)]:=⟨al,al⟩
instance:Ty prog 36 false 1:=⟨al,al⟩
instance:nt prog 36 3 1:=⟨al,al⟩
instance:rZ prog 36 3 1 8:=⟨al⟩
instance:qp prog 36 3 1 [(.int .i64 (0))]:=⟨al,al,al,rfl,by decide,fun _=>rfl⟩
instance:Ty prog 65 true 3:=⟨al,al⟩
instance:sO prog 65 (.agg #[(.string ⟨#[]⟩),(.slice none 0 0),(.int .i64 (0))]):=⟨al⟩
instance:ft prog 65 0 0 1 false:=⟨al⟩
instance:ft prog 65 1 1 1 false:=⟨al⟩
instance:ft prog 65 2 2 1 false:=⟨al⟩
instance:tO prog 65 [(0,1),(1,1),(2,1)] [(.string ⟨#[]⟩),(.slice none 0 0),(.int .i64 (0))]:=⟨al,al⟩
instance:Ty prog 78 true 5:=⟨al,al⟩
instance:sO prog 78 (.agg #[(.int .i64 (0)),(.int .i64 (0)),(.int .i64 (0)),(.string ⟨#[]⟩),(.slice none 0 0)]):=⟨al⟩
instance:ft prog 78 0 0 1 false:=⟨al⟩
instance:ft prog 78 1 1 1 false:=⟨al⟩
instance:ft prog 78 2 2 1 false:=⟨al⟩
instance:ft prog 78 3 3 1 false:=⟨al⟩
instance:ft prog 78 4 4 1 false:=⟨al⟩
instance:tO prog 78 [(0,1),(1,1),(2,1),(3,1),(4,1)] [(.int .i64 (0)),(.int .i64 (0)),(.int .i64 (0)),(.string ⟨#[]⟩),(.slice none 0 0)]:=⟨al,al⟩
instance:Ty prog 79 false 1:=⟨al,al⟩
instance:Ty prog 82 false 1:=⟨al,al⟩
instance:Ty prog 84 false 1:=⟨al,al⟩
instance:nt prog 84 86 6:=⟨al,al⟩
instance:rZ prog 84 86 6 88:=⟨al⟩
instance:qp prog 84 86 6 [(.int .i64 (0)),(.int .i64 (0)),(.int .i64 (0)),(.string ⟨#[]⟩),(.slice none 0 0),(.slice none 0 0)]:=⟨al,al,al,rfl,by decide,fun h=>by cases h⟩
instance:Ty prog 86 true 6:=⟨al,al⟩
instance:sO prog 86 (.agg #[(.int .i64 (0)),(.int .i64 (0)),(.int .i64 (0)),(.string ⟨#[]⟩),(.slice none 0 0),(.slice none 0 0)]):=⟨al⟩
instance:ft prog 86 0 0 5 true:=⟨al⟩
instance:ft prog 86 1 5 1 false:=⟨al⟩
instance:tO prog 86 [(0,5),(5,1)] [(.int .i64 (0)),(.int .i64 (0)),(.int .i64 (0)),(.string ⟨#[]⟩),(.slice none 0 0),(.slice none 0 0)]:=⟨al,al⟩
instance:Ty prog 88 false 1:=⟨al,al⟩
instance:nt prog 88 168 4:=⟨al,al⟩
instance:rZ prog 88 168 4 40:=⟨al⟩
instance:qp prog 88 168 4 [(.int .i64 (0)),(.int .i64 (0)),(.string ⟨#[]⟩),(.int .i64 (0))]:=⟨al,al,al,rfl,by decide,fun h=>by cases h⟩
instance:Ty prog 92 false 1:=⟨al,al⟩
instance:nt prog 92 79 1:=⟨al,al⟩
instance:rZ prog 92 79 1 8:=⟨al⟩
instance:qp prog 92 79 1 [(.pointer none)]:=⟨al,al,al,rfl,by decide,fun _=>rfl⟩
instance:Ty prog 96 false 1:=⟨al,al⟩
instance:Ty prog 98 true 2:=⟨al,al⟩
instance:sO prog 98 (.agg #[(.string ⟨#[]⟩),(.int .i64 (0))]):=⟨al⟩
instance:ft prog 98 0 0 1 false:=⟨al⟩
instance:ft prog 98 1 1 1 false:=⟨al⟩
instance:tO prog 98 [(0,1),(1,1)] [(.string ⟨#[]⟩),(.int .i64 (0))]:=⟨al,al⟩
instance:ft prog 103 0 0 1 false:=⟨al⟩
instance:ft prog 103 1 1 1 false:=⟨al⟩
instance:ft prog 103 2 2 1 false:=⟨al⟩
instance:tO prog 103 [(0,1),(1,1),(2,1)] [(.slice none 0 0),(.int .i64 (0)),(.int .i64 (0))]:=⟨al,al⟩
instance:ft prog 125 0 0 5 true:=⟨al⟩
instance:ft prog 125 1 5 1 false:=⟨al⟩
instance:tO prog 125 [(0,5),(5,1)] [(.int .i64 (0)),(.int .i64 (0)),(.int .i64 (0)),(.string ⟨#[]⟩),(.slice none 0 0),(.slice none 0 0)]:=⟨al,al⟩
instance:nt prog 131 23 1:=⟨al,al⟩
instance:qp prog 131 23 1 [(.slice none 0 0)]:=⟨al,al,al,rfl,by decide,fun _=>rfl⟩
instance:ft prog 135 0 0 1 false:=⟨al⟩
instance:ft prog 135 1 1 1 false:=⟨al⟩
instance:ft prog 135 2 2 1 false:=⟨al⟩
instance:ft prog 135 3 3 1 false:=⟨al⟩
instance:ft prog 135 4 4 1 false:=⟨al⟩
instance:ft prog 135 5 5 1 false:=⟨al⟩
instance:ft prog 135 6 6 4 true:=⟨al⟩
instance:tO prog 135 [(0,1),(1,1),(2,1),(3,1),(4,1),(5,1),(6,4)] [(.slice none 0 0),(.int .i64 (0)),(.int .i64 (0)),(.int .i64 (0)),(.int .i64 (0)),(.slice none 0 0),(.slice none 0 0),(.slice none 0 0),(.slice none 0 0),(.slice none 0 0)]:=⟨al,al⟩
instance:Ty prog 138 true 2:=⟨al,al⟩
instance:sO prog 138 (.agg #[.nilFunc,.nilFunc]):=⟨al⟩
instance:ft prog 138 0 0 1 false:=⟨al⟩
instance:ft prog 138 1 1 1 false:=⟨al⟩
instance:tO prog 138 [(0,1),(1,1)] [.nilFunc,.nilFunc]:=⟨al,al⟩
instance:ft prog 145 0 0 1 false:=⟨al⟩
instance:ft prog 145 1 1 1 false:=⟨al⟩
instance:ft prog 145 2 2 1 false:=⟨al⟩
instance:ft prog 145 3 3 1 false:=⟨al⟩
instance:ft prog 145 4 4 1 false:=⟨al⟩
instance:tO prog 145 [(0,1),(1,1),(2,1),(3,1),(4,1)] [(.slice none 0 0),(.int .i64 (0)),(.int .i64 (0)),(.int .i64 (0)),(.int .i64 (0))]:=⟨al,al⟩
instance:Ty prog 168 true 4:=⟨al,al⟩
instance:sO prog 168 (.agg #[(.int .i64 (0)),(.int .i64 (0)),(.string ⟨#[]⟩),(.int .i64 (0))]):=⟨al⟩
instance:ft prog 168 0 0 1 false:=⟨al⟩
instance:ft prog 168 1 1 1 false:=⟨al⟩
instance:ft prog 168 2 2 1 false:=⟨al⟩
instance:ft prog 168 3 3 1 false:=⟨al⟩
instance:tO prog 168 [(0,1),(1,1),(2,1),(3,1)] [(.int .i64 (0)),(.int .i64 (0)),(.string ⟨#[]⟩),(.int .i64 (0))]:=⟨al,al⟩
instance:Ty prog 185 false 1:=⟨al,al⟩
instance:sO prog 187 (.agg #[(.pointer none),(.slice none 0 0)]):=⟨al⟩
instance:ft prog 187 0 0 1 false:=⟨al⟩
instance:ft prog 187 1 1 1 false:=⟨al⟩
end Go.Xw
set_option maxHeartbeats 1000000
namespace Go.Xg
open Go.RowKit Go.Xw Go.Proofs Tryz Go.Sp
open Go.Xp (Tok df)
attribute [local irreducible] GW GL GO YG GC GA bu bs
def cH (t:Tok):List GV:=[.v (ii t.kind),.v (ii t.n),.v (sv t.s),.v (ii t.at_)]
theorem Nq (t:Tok):GF prog 215 [.agg (cH t)] [] (.v (sv (df t))) []:=by
 refine aj func215 ntmps215 ?_;refine GW.cond rfl (fun h=>?_) (fun h=>?_)
 ·refine zcr ?_
  have h:t.kind≠3:=by simpa using h
  rw [df,ad h];exact zag
 ·refine zcr ?_
  have h:t.kind=3:=by simpa using h
  rw [df,ah h];exact zag
abbrev eI (l:List Tok):GV:=.sl 4 (l.map cH)
abbrev bJ (p:RS):Ob:=.box 145 [eI p.l,.v (ii p.i),.v (ii p.e),.v (ii p.code),.v (ii p.at_)]
theorem jS {l:List Tok} {i:Nat} {t:Tok} (h:l[i]?=some t):(l.map cH)[i]?=some (cH t):=by rw [bP,h];rfl
theorem iX (p:RS) (hp:p.ok):GF prog 163 [.loc 0 0] [bJ p] (.v (ii p.place)) [bJ p]:=by
 obtain ⟨jY,dR⟩:=hp
 cases ht:p.l[p.i]? with
 | some t =>
  have hr:=jS ht;have ar:p.i < p.l.length:=(bh ht).1
  have hd:decide ((p.i:Int) < ((p.l.map cH).length:Int))=true:=by simpa using ar
  refine aj func163 ntmps163 ?_;refine aS (aC 0 10 .nil) ?_;refine bF ?_;refine aS (aC 0 12 .nil) ?_;refine bF ?_;refine cq ?_;rw [RS.place,ht];exact zag
 | none =>
  have ar:p.l.length<=p.i:=nZ ht
  have hd:decide ((p.i:Int) < ((p.l.map cH).length:Int))=false:=by simpa using ar
  refine aj func163 ntmps163 ?_;refine aS (aC 0 10 .nil) ?_;refine bF ?_;refine cq ?_;rw [RS.place,ht];exact zag
open GV (U)
theorem cO (p:RS) (k:Nat) (hp:p.ok) (hk:k<=1):GF prog 159 [.loc 0 0,.v (ii k)] [bJ p] (.v (sv (p.sign k))) [bJ p]:=by
 obtain ⟨jY,dR⟩:=hp
 by_cases hc:p.code=0
 ·have de:(p.code != 0)=false:=by simpa using hc
  cases ht:p.l[p.i+k]? with
  | some t =>
   have hr:=jS ht;have ar:p.i+k < p.l.length:=(bh ht).1
   have hd:decide (((p.l.map cH).length:Int)<=((p.i+k:Nat):Int))=false:=by simp;omega
   refine aj func159 ntmps159 ?_;refine aS (aC 0 19 .nil) ?_;refine bF ?_;refine aS (aC 0 12 (.a 12 (.q 13 .nil))) ?_;refine aq ?_;refine ax [] (Nq t) ?_;refine zcr ?_;rw [RS.sign,ah hc,ht];exact zag
  | none =>
   have ar:p.l.length<=p.i+k:=nZ ht
   have hd:decide (((p.l.map cH).length:Int)<=((p.i+k:Nat):Int))=true:=by simp;omega
   refine aj func159 ntmps159 ?_;refine aS (aC 0 19 .nil) ?_;refine bF ?_;refine cq ?_;rw [RS.sign,ah hc,ht];exact zag
 ·have de:(p.code != 0)=true:=by simpa using hc
  refine aj func159 ntmps159 ?_;refine aS (aC 0 19 .nil) ?_;refine bF ?_;refine cq ?_;rw [RS.sign,ad hc];exact zag
theorem jh (p:RS) (c a:Int):GF prog 162 [.loc 0 0,.v (ii c),.v (ii a)] [bJ p] (.tup []) [bJ (p.fail c a)]:=by
 refine aj func162 ntmps162 ?_;refine GW.cond rfl (fun h=>?_) (fun h=>?_)
 ·refine ab ?_;refine gM ?_
  have h:p.code=0:=by simpa using h
  rw [RS.fail,ah h];exact zag
 ·refine ab ?_;refine gM ?_
  have h:¬ p.code=0:=by simpa using h
  rw [RS.fail,ad h];exact zag
theorem cw (p:RS) (s:ae) (hp:p.ok) (hs:s≠[]):GF prog 216 [.loc 0 0,.v (sv s)] [bJ p] (.tup []) [bJ (p.aI s)]:=by
 refine aj func216 ntmps216 ?_;refine kJ [0] (cO p 0 hp aE) ?_
 by_cases h:p.sign 0=s
 ·have h':(!(p.sign 0==s))=false:=by simp [h]
  have hl:=(cW h hs).1;obtain ⟨jY,dR⟩:=hp;refine ab ?_;refine gM ?_;rw [RS.aI,ah h];exact zag
 ·have h':(!(p.sign 0==s))=true:=by simpa using h
  refine ab ?_;refine V [0] (iX p hp) ?_;refine V [0] (jh p 7 p.place) ?_;refine gM ?_;rw [RS.aI,ad h];exact zag
open Go.Xp (T one levels)
theorem ue (p:RS) (d:Nat) (hp:p.ok):GF prog 252 [.loc 0 0,.v (ii d)] [bJ p] (.tup []) [bJ (p.deep d)]:=by
 by_cases h:d > 60
 ·have h':decide ((60:Int) < (d:Int))=true:=by simp;omega
  refine aj func252 ntmps252 ?_;refine V [0] (iX p hp) ?_;refine V [0] (jh p 9 p.place) ?_;refine gM ?_;rw [RS.deep,ah h];exact zag
 ·have h':decide ((60:Int) < (d:Int))=false:=by simp;omega
  refine aj func252 ntmps252 ?_;refine gM ?_;rw [RS.deep,ad h];exact zag
theorem nK (p:RS) (hp:p.ok):GF prog 217 [.loc 0 0] [bJ p] (.v (sv p.name.1)) [bJ p.name.2]:=by
 obtain ⟨jY,dR⟩:=id hp
 by_cases hc:p.code=0
 ·have de:(p.code != 0)=false:=by simpa using hc
  cases ht:p.l[p.i]? with
  | some t =>
   have hr:=jS ht;have ar:p.i < p.l.length:=(bh ht).1
   have hd:decide (((p.l.map cH).length:Int)<=(p.i:Int))=false:=by simp;omega
   by_cases hk:t.kind=2
   ·have eZ:(t.kind != 2)=false:=by simpa using hk
    by_cases hs:t.s.length > 12
    ·have mq:decide ((12:Int) < (t.s.length:Int))=true:=by simp;omega
     refine aj func217 ntmps217 ?_;refine aS (aC 0 24 .nil) ?_;refine bF ?_;refine zci ?_;refine V [0] (jh p 8 t.at_) ?_;refine cq ?_;rw [RS.name,ah hc,ht];simp only [ah hk,ah hs];exact zag
    ·have mq:decide ((12:Int) < (t.s.length:Int))=false:=by simp;omega
     refine aj func217 ntmps217 ?_;refine aS (aC 0 24 .nil) ?_;refine bF ?_;refine zci ?_;refine cq ?_;rw [RS.name,ah hc,ht];simp only [ah hk,ad hs];exact zag
   ·have eZ:(t.kind != 2)=true:=by simpa using hk
    refine aj func217 ntmps217 ?_;refine zcp ?_;simp only [ad hk];exact zag
  | none =>
   have ar:p.l.length<=p.i:=nZ ht
   have hd:decide (((p.l.map cH).length:Int)<=(p.i:Int))=true:=by simp;omega
   refine aj func217 ntmps217 ?_;refine zcp ?_;exact zag
 ·have de:(p.code != 0)=true:=by simpa using hc
  refine aj func217 ntmps217 ?_;refine cq ?_;rw [RS.name,ad hc];exact zag
abbrev ints (l:List Int):GV:=.sl 1 (l.map fun i=>[.v (ii i)])
abbrev strs (l:List ae):GV:=.sl 1 (l.map fun s=>[.v (sv s)])
mutual
def Si:T->List GV
 | .mk n k=>[.v (ii n.kind),.v (ii n.at_),.v (ii n.n),.v (sv n.s),ints n.kids,.sl 6 (bb k)]
def bb:List T->List (List GV)
 | []=>[]
 | t::r=>Si t::bb r
end
abbrev cT (t:T):List GV:=[.v (ii t.n.kind),.v (ii t.n.at_),.v (ii t.n.n),.v (sv t.n.s),ints t.n.kids,.sl 6 (bb t.kids)]
theorem uP (t:T):Si t=cT t:=by
 cases t;rfl
theorem gA (k a:Int) (s:ae) (l:List T) (rows:List (List GV)) (h:bb l=rows):GF prog 253 [.v (ii k),.v (ii a),.v (sv s),.sl 6 rows] [] (.agg (cT (one k a s l))) []:=by
 subst h;refine aj func253 ntmps253 ?_;refine qY ?_;exact zaK
theorem iV:GF prog 144 [] [] (.sl 1 (levels.map fun l=>[strs l])) []:=by
 refine aj func144 ntmps144 ?_
 iterate 10 (refine cm ?_)
 exact av
theorem DJ {xs:List ae} {k:Nat} {s x:ae} (h:xs[k]?=some x):(xs.take (k+1)).contains s=((xs.take k).contains s || (x==s)):=by
 rw [eK,h,List.contains_append];show (_ || [x].contains s)=_
 congr 1
 rw [List.contains_cons,List.contains_nil,Bool.or_false];exact Bool.beq_comm
theorem qK (xs:List ae) (s:ae) (hl:xs.length<=1099511627776):GF prog 197 [strs xs,.v (sv s)] [] (.v (.bool (xs.contains s))) []:=by
 refine aj func197 ntmps197 ?_;refine GW.range (xs.map fun s=>[GV.v (sv s)]).length (fun k fr Γ=>fr=[strs xs,.v (sv s),U,U,U,U,U,strs xs,.v (ii ((xs.map fun s=>[GV.v (sv s)]).length:Int)),.v (ii k),U,U,U,U,U,U,U]/\Γ=[]/\(xs.take k).contains s=false) ?_ zeQ ?_ ?_ ?_
 ·exact qn
 ·exact nc
 ·rintro k _ _ ar ⟨rfl,rfl,hc⟩
  have ar:k < xs.length:=by simpa using ar
  have hx:xs[k]?=some xs[k]:=by simp [ar]
  have hr:(xs.map fun s=>[GV.v (sv s)])[k]?=some [.v (sv xs[k])]:=by simp [ar]
  have nD:=DJ (s:=s) hx;refine ab ?_;refine GW.cond rfl (fun I=>?_) (fun I=>?_)
  ·refine zcr ?_
   have h3:xs[k]=s:=by simpa using I
   have:s∈xs:=by rw [<-h3];exact List.getElem_mem _
   refine ⟨?_,rfl⟩;show GV.v (.bool true)=_;rw [mH.2 this]
  ·refine ab ?_;exact ⟨rfl,rfl,_,_,Wk.aX aw,rfl,rfl,by rw [nD,hc,I];rfl⟩
 ·rintro _ _ ⟨rfl,rfl,hc⟩;refine zcr ?_
  have hc:xs.contains s=false:=by simpa using hc
  refine ⟨?_,rfl⟩;show GV.v (.bool false)=_;rw [hc]
end Go.Xg
namespace Go.Xg
open Go.RowKit Go.Xw
section
variable {P:Program} {m:Nat} {Q:dL} {fr:List GV} {Γ:List Ob}
theorem GW.DR {c y:Code} {B:Nat} (K:List GV->List Ob->Prop) (D:GW P m c (bs B (bu (Ah m K) Q)) fr Γ) (I:∀ fr Γ,K fr Γ->GW P m y Q fr Γ):GW P m c (bs B (bu (GW P m y Q) Q)) fr Γ:=by
 refine D.mono fun e fr Γ hq=>?_
 have key:∀ fr Γ,Ah m K fr Γ->GW P m y Q fr Γ:=fun fr Γ ⟨c6,aU,hw,hk⟩=>GW.wk hw (I _ _ hk)
 cases e with
 | normal=>exact key _ _ hq
 | exit n =>
  simp only [bs] at hq |-;split
  ·rename_i hn;rw [ah hn] at hq;exact key _ _ hq
  ·rename_i hn;rw [ad hn] at hq;exact hq
 | _=>exact hq
end
section
variable {P:Program} {fn:Func} {m:Nat} {R:GV->List Ob->Prop} {fr:List GV} {Γ:List Ob} {e:Exit}
theorem UY {n:Nat} {t u:Tmp} {T:TypeId} {k:Nat} [hT:Ty P T true k] {i:Nat} {E:TypeId} {cs:List GV} {g:GV} (hr:fn.results=#[.cell t T,.tmp u]) (he:e=.normal\/e=.ret) (hg:cB fr t=.loc i 0) (bO:Γ[i]?=some (.box E cs)) (hk:cs.length=k) (fH:cB fr u=g)
  (hm:m<=n) (hl:tz n (Γ.take n)=true) (u5:(GV.tup [.agg cs,g]).lt n=true) (h:R (.tup [.agg cs,g]) (Γ.take n)):uY P fn m R e fr Γ :=
 ⟨he,fun B K β w l hB hI hF=>by
  obtain ⟨b,vs,D,I,h3,h4⟩:=hI.ob i _ bO
  have hp:nth l t=.pointer (some ⟨b,0,none⟩):=by
   have:=hF.nth t;rw [hg] at this;generalize nth l t=v at this
   cases this with
   | loc _ _ b' bA=>rw [D] at bA;cases bA;rfl
  have jP:l.toArray.getD t undef=.pointer (some ⟨b,0,none⟩):=by rw [jj,hp]
  have AL:=mb (P:=P) (w:=w) (t:=T) (b:=b) (o:=0) (vs:=vs) (k:=k) zfo (fun j v hj=>by
   rw [eo,cell_of_row w b j _ E (0,0) I];simpa using hj)
  have wh:l[t]?.getD undef=.pointer (some ⟨b,0,none⟩):=by simpa using jP
  refine ⟨.tuple #[.agg vs.toArray,nth l u],K,fc (below n) β,.tup [.agg cs,g],Γ.take n,?_,hI.cut X hl,?_,h⟩
  ·rw [<-jj l u];exact zdo
  ·refine Rel.res ?_ u5;subst fH;have hc:bm K β [.agg vs.toArray,nth l u] [.agg cs,cB fr u]:=.cons (.agg vs cs h3.1 h3.2) (.cons (hF.nth u) .nil)
   exact .tup _ _ hc.1 hc.2⟩
theorem Le {n:Nat} {t u s:Tmp} {T:TypeId} {k:Nat} [hT:Ty P T true k] {i:Nat} {E:TypeId} {cs:List GV} {g g':GV} (hr:fn.results=#[.cell t T,.tmp u,.tmp s]) (he:e=.normal\/e=.ret) (hg:cB fr t=.loc i 0) (bO:Γ[i]?=some (.box E cs)) (hk:cs.length=k) (fH:cB fr u=g) (Lr:cB fr s=g')
  (hm:m<=n) (hl:tz n (Γ.take n)=true) (u5:(GV.tup [.agg cs,g,g']).lt n=true) (h:R (.tup [.agg cs,g,g']) (Γ.take n)):uY P fn m R e fr Γ :=
 ⟨he,fun B K β w l hB hI hF=>by
  obtain ⟨b,vs,D,I,h3,h4⟩:=hI.ob i _ bO
  have hp:nth l t=.pointer (some ⟨b,0,none⟩):=by
   have:=hF.nth t;rw [hg] at this;generalize nth l t=v at this
   cases this with
   | loc _ _ b' bA=>rw [D] at bA;cases bA;rfl
  have jP:l.toArray.getD t undef=.pointer (some ⟨b,0,none⟩):=by rw [jj,hp]
  have AL:=mb (P:=P) (w:=w) (t:=T) (b:=b) (o:=0) (vs:=vs) (k:=k) zfo (fun j v hj=>by
   rw [eo,cell_of_row w b j _ E (0,0) I];simpa using hj)
  have wh:l[t]?.getD undef=.pointer (some ⟨b,0,none⟩):=by simpa using jP
  refine ⟨.tuple #[.agg vs.toArray,nth l u,nth l s],K,fc (below n) β,.tup [.agg cs,g,g'],Γ.take n,?_,hI.cut X hl,?_,h⟩
  ·rw [<-jj l u,<-jj l s];exact zdo
  ·refine Rel.res ?_ u5;subst fH Lr;have hc:bm K β [.agg vs.toArray,nth l u,nth l s] [.agg cs,cB fr u,cB fr s]:=.cons (.agg vs cs h3.1 h3.2) (.cons (hF.nth u) (.cons (hF.nth s) .nil))
   exact .tup _ _ hc.1 hc.2⟩
end
open Go.Proofs Tryz Go.Sp
open GV (U)
attribute [local irreducible] GW GL GO YG GC GA bu bs
abbrev C1 (c:UInt8):GV:=.v (.int .u8 (c.toNat:Int))
theorem wv (c:UInt8):GF prog 271 [C1 c] [] (.v (.bool (small c))) []:=by
 unfold small;refine fD func271 ntmps271 ?_
 cases h:decide ((97:Int)<=(c.toNat:Int))
 all_goals
  exact av
theorem wu (c:UInt8):GF prog 269 [C1 c] [] (.v (.bool (dN c))) []:=by
 unfold dN;refine fD func269 ntmps269 ?_
 cases h:decide ((48:Int)<=(c.toNat:Int))
 all_goals
  exact av
theorem Dk (c:UInt8):GF prog 272 [C1 c] [] (.v (.bool (dV c))) []:=by
 unfold dV;have hs:=wv c;have hd:=wu c;generalize small c=b1 at *;generalize dN c=b2 at *;refine aj func272 ntmps272 ?_;refine kJ [] hs ?_
 cases b1 with
 | true =>
  exact av
 | false =>
  cases D:decide ((65:Int)<=(c.toNat:Int)) with
  | true =>
   cases I:decide ((c.toNat:Int)<=90) with
   | true =>
    exact av
   | false =>
    refine ab ?_;refine kJ [] hd ?_
    cases b2 with
    | true =>
     exact av
    | false =>
     exact av
  | false =>
   refine ab ?_;refine kJ [] hd ?_
   cases b2 with
   | true =>
    exact av
   | false =>
    exact av
theorem oQ (s t:ae) (a:Nat) (hs:s.length<=1152921504606846976) (ht:t.length<=1152921504606846976) (ha:a<=1152921504606846976) :
  GF prog 268 [.v (sv s),.v (ii (a:Nat)),.v (sv t)] [] (.v (.bool (bR s a t))) []:=by
 by_cases h:a+t.length<=s.length
 ·have h':decide (((a+t.length:Nat):Int)<=(s.length:Int))=true:=by simpa using by omega
  refine aj func268 ntmps268 ?_;refine cq ?_;unfold bR;rw [decide_eq_true h];exact zag
 ·have h':decide (((a+t.length:Nat):Int)<=(s.length:Int))=false:=by simpa using by omega
  refine aj func268 ntmps268 ?_;refine cq ?_;unfold bR;rw [decide_eq_false h];exact zag
theorem Bi (s:ae) (a:Nat) (hs:s.length<=1099511627776) (ha:a<=s.length) :
  GF prog 213 [.v (sv s),.v (ii (a:Nat))] [] (.tup [.v (ii ((skip s (s.length+1) a).1:Nat)),.v (ii (skip s (s.length+1) a).2)]) []:=by
 generalize hR:skip s (s.length+1) a=R;refine aj func213 ntmps213 ?_;refine GW.loop (fun x:Nat × Nat=>x.1) (fun x fr Γ=>fr=[.v (sv s),.v (ii (x.2:Nat)),U,U,U,U,U,U,U,U,U,U,U,U,U,U,U,U,U,U,U,U,U,U,U,U,U,U,U,U,U,U,U,U,U,U,U,U,U,U,U,U,U,U,U,U,U,U,U,U,U,U,U,U,U,U,U,U,U,U,U,U,U]/\Γ=[]/\x.2<=s.length/\s.length < x.1+x.2/\skip s x.1 x.2=R) (s.length+1,a) ?_ ?_
 ·exact ⟨_,_,Wk.aX aw,rfl,rfl,ha,by simp;omega,hR⟩
 ·rintro ⟨f,a⟩ _ _ ⟨rfl,rfl,ha,hf,h⟩;simp only at ha hf h
  cases f with
  | zero=>omega
  | succ f =>
  rw [skip] at h
  cases hc:s[a]? with
  | none =>
   rw [hc] at h;simp only at h;subst h;have hO:s.length<=a:=nZ hc
   have hd:decide ((a:Int) < (s.length:Int))=false:=by simpa using hO
   refine dF ?_;exact Ad
  | some c =>
   rw [hc] at h;simp only at h;have ar:a < s.length:=(bh hc).1
   have hd:decide ((a:Int) < (s.length:Int))=true:=by simpa using ar
   have hb:eH c=(((c.toNat:Int)==32) || ((c.toNat:Int)==9) || ((c.toNat:Int)==10) || ((c.toNat:Int)==13)):=rfl
   by_cases gD:eH c=true
   ·rw [ah gD] at h;rw [hb] at gD;have E0:((c.toNat:Int)==32)=true\/(((c.toNat:Int)==32)=false/\((c.toNat:Int)==9)=true)\/(((c.toNat:Int)==32)=false/\((c.toNat:Int)==9)=false/\((c.toNat:Int)==10)=true) \/
      (((c.toNat:Int)==32)=false/\((c.toNat:Int)==9)=false/\((c.toNat:Int)==10)=false/\((c.toNat:Int)==13)=true):=by
     generalize ((c.toNat:Int)==32)=b1 at *;generalize ((c.toNat:Int)==9)=b2 at *;generalize ((c.toNat:Int)==10)=b3 at *;generalize ((c.toNat:Int)==13)=b4 at *;clear hb
     revert gD;cases b1 <;> cases b2 <;> cases b3 <;> cases b4 <;> simp
    clear hb gD
    rcases E0 with k1 | ⟨k1,k2⟩ | ⟨k1,k2,k3⟩ | ⟨k1,k2,k3,k4⟩
    all_goals
     refine dF ?_;exact ⟨(f,a+1),⟨_,_,Wk.aX aw,rfl,rfl,by simp only;omega,by simp only;omega,h⟩,by simp⟩
   ·rw [ad gD] at h;rw [hb] at gD
    have E0:((c.toNat:Int)==32)=false/\((c.toNat:Int)==9)=false/\((c.toNat:Int)==10)=false/\((c.toNat:Int)==13)=false:=by
     generalize ((c.toNat:Int)==32)=b1 at *;generalize ((c.toNat:Int)==9)=b2 at *;generalize ((c.toNat:Int)==10)=b3 at *;generalize ((c.toNat:Int)==13)=b4 at *;clear hb
     revert gD;cases b1 <;> cases b2 <;> cases b3 <;> cases b4 <;> simp
    clear hb gD;obtain ⟨k1,k2,k3,k4⟩:=E0
    by_cases oM:bR s a [47,42]=true
    ·rw [ah oM] at h;have gD:=jE oM;have gD:a+2<=s.length:=gD
     have YV:(!bR s a [47,42])=false:=by rw [oM];rfl
     try simp only at h
     generalize he:eS s s.length (a+2)=e at h;refine ab ?_;refine V [] (oQ s [47,42] a X aE X) ?_;have Ln:=q9 s s.length (a+2) X X;have EI:=si s s.length (a+2) X;rw [he] at Ln EI;refine GW.DR (fun fr Γ=>fr=[.v (sv s),.v (ii (a:Nat)),U,U,U,U,.v (ii (e:Nat)),U,U,U,U,U,U,U,U,U,U,U,U,U,U,U,U,U,U,U,U,U,U,U,U,U,U,U,U,U,U,U,U,U,U,U,U,U,U,U,U,U,U,U,U,U,U,U,U,U,U,U,U,U,U,U,U]/\Γ=[]) ?_ ?_
     ·refine GW.loop (fun x:Nat × Nat=>x.1) (fun x fr Γ=>fr=[.v (sv s),.v (ii (a:Nat)),U,U,U,U,.v (ii (x.2:Nat)),U,U,U,U,U,U,U,U,U,U,U,U,U,U,U,U,U,U,U,U,U,U,U,U,U,U,U,U,U,U,U,U,U,U,U,U,U,U,U,U,U,U,U,U,U,U,U,U,U,U,U,U,U,U,U,U]/\Γ=[]/\x.2<=s.length/\eS s x.1 x.2=e) (s.length,a+2) ?_ ?_
      ·exact ⟨_,_,Wk.aX aw,rfl,rfl,by simp only;omega,he⟩
      ·rintro ⟨g,e'⟩ _ _ ⟨rfl,rfl,hle,sX⟩;simp only at hle sX
       by_cases hstop:e' < s.length
       ·have nE:decide ((e':Int) < (s.length:Int))=true:=by simpa using hstop
        cases pB:bR s e' [42,47] with
        | true =>
         have Xe:(!bR s e' [42,47])=false:=by rw [pB];rfl
         have wY:e'=e:=by
          cases g with
          | zero=>exact sX
          | succ g=>rw [eS,ad (by rw [pB];simp)] at sX;exact sX
         subst wY;refine ab ?_;refine V [] (oQ s [42,47] e' X aE X) ?_;refine iw ?_;exact oF
        | false =>
         have Xe:(!bR s e' [42,47])=true:=by rw [pB];rfl
         cases g with
         | zero=>exact absurd ⟨by rw [<-sX];exact hstop,by rw [<-sX];exact pB⟩ Ln
         | succ g =>
          rw [eS,ah ⟨hstop,pB⟩] at sX;refine ab ?_;refine V [] (oQ s [42,47] e' X aE X) ?_;exact ⟨(g,e'+1),⟨_,_,Wk.aX aw,rfl,rfl,hstop,sX⟩,by simp⟩
       ·have nE:decide ((e':Int) < (s.length:Int))=false:=by simp;omega
        have wY:e'=e:=by
         cases g with
         | zero=>exact sX
         | succ g=>rw [eS,ad (fun hh=>hstop hh.1)] at sX;exact sX
        subst wY;refine dF ?_;exact oF
     ·rintro _ _ ⟨rfl,rfl⟩
      by_cases hle:s.length<=e
      ·rw [ah hle] at h
       have Xu:decide ((s.length:Int)<=(e:Int))=true:=by simpa using hle
       subst h;exact Ad
      ·rw [ad hle] at h
       have Xu:decide ((s.length:Int)<=(e:Int))=false:=by simp;omega
       have pB:bR s e [42,47]=true:=by
        cases pB:bR s e [42,47] with
        | true=>rfl
        | false=>exact absurd ⟨by omega,pB⟩ Ln
       have pB:=jE pB;have pB:e+2<=s.length:=pB;refine dF ?_;exact ⟨(f,e+2),⟨_,_,Wk.aX aw,rfl,rfl,pB,by simp only;omega,h⟩,by simp⟩
    ·rw [ad oM] at h
     have YV:(!bR s a [47,42])=true:=by simpa using oM
     subst h;refine ab ?_;refine V [] (oQ s [47,42] a X aE X) ?_;exact Pp
theorem wx:GF prog 250 [] [] (strs words) []:=by
 refine aj func250 ntmps250 ?_;refine cm ?_;exact av
theorem Jy:GF prog 273 [] [] (strs bQ) []:=by
 refine aj func273 ntmps273 ?_;refine cm ?_;exact av
theorem LZ (s:ae) (hs:s.length<=1099511627776):GF prog 249 [.v (sv s)] [] (.v (.bool (word s))) []:=by
 refine aj func249 ntmps249 ?_;refine GW.loop (fun a:Nat=>s.length - a) (fun a fr Γ=>fr=[.v (sv s),U,U,.v (ii (a:Nat)),U,U,U,U,U,U,U,U,U,U,U,U,U,U,U,U,U,U]/\Γ=[]/\a<=s.length/\(s.take a).all dV=true) 0 ?_ ?_
 ·exact ⟨_,_,Wk.aX aw,rfl,rfl,aY _,rfl⟩
 ·rintro a _ _ ⟨rfl,rfl,ha,cp⟩
  cases hc:s[a]? with
  | some c =>
   have ar:a < s.length:=(bh hc).1
   have hd:decide ((a:Int) < (s.length:Int))=true:=by simpa using ar
   have eP:(s.take (a+1)).all dV=((s.take a).all dV&&dV c):=by
    rw [eK,hc,List.all_append];simp
   have hp:=Dk c
   cases hn:dV c with
   | true =>
    rw [hn] at hp;refine zem ?_;exact ⟨a+1,⟨_,_,Wk.aX aw,rfl,rfl,ar,by rw [eP,cp,hn];rfl⟩,by omega⟩
   | false =>
    rw [hn] at hp;refine zem ?_;refine cq ?_;refine ⟨?_,rfl⟩
    have hw:word s=false:=by
     have:s.all dV=false:=by
      rw [List.all_eq_false];exact ⟨c,bM hc,by rw [hn];decide⟩
     unfold word;rw [this];rfl
    rw [hw];rfl
  | none =>
   have hO:s.length<=a:=nZ hc
   have hd:decide ((a:Int) < (s.length:Int))=false:=by simpa using hO
   have cp:s.all dV=true:=by rw [nq hO] at cp;exact cp
   cases s with
   | nil =>
    exact zcv
   | cons c r =>
    have hr:(c::r)[0]?=some c:=rfl;refine zbk ?_;refine V [] (wv c) ?_;refine cq ?_;refine ⟨?_,rfl⟩;unfold word;rw [cp];rfl
theorem ed (s:ae) (hs:s.length<=1099511627776):GF prog 191 [.v (sv s)] [] (.v (.bool (bC s))) []:=by
 have hw:=LZ s hs;unfold bC;generalize word s=b at *;refine aj func191 ntmps191 ?_;refine kJ [] hw ?_
 cases b with
 | false =>
  exact av
 | true =>
  by_cases lS:s.length<=12
  ·have W8:decide ((s.length:Int)<=12)=true:=by simpa using by omega
   refine ab ?_;refine V [] wx ?_;refine V [] (qK words s aE) ?_;refine cq ?_;rw [decide_eq_true lS];exact zag
  ·have W8:decide ((s.length:Int)<=12)=false:=by simpa using by omega
   refine zcr ?_;rw [decide_eq_false lS];exact zag
theorem GK (s:ae) (a:Nat) (hs:s.length<=1099511627776) (ha:a<=s.length) :
  GF prog 270 [.v (sv s),.v (ii (a:Nat))] [] (.tup [.agg (cH ⟨1,(number s (s.length+1) 0 a).1,[],a⟩),.v (ii ((number s (s.length+1) 0 a).2:Nat))]) []:=by
 generalize hR:number s (s.length+1) 0 a=R;generalize ha0:a=a0 at *;refine aj func270 ntmps270 ?_;refine GW.loop (fun x:Nat × Int × Nat=>x.1) (fun x fr Γ=>fr=[.v (sv s),.v (ii (x.2.2:Nat)),U,U,.loc 0 0,U,.loc 1 0,U,U,U,U,U,U,U,U,U,U,U,U,U,U,U,U,U,U,U,U,U,U,U,U,U,U,U,U,U]/\Γ=[.box 168 [.v (ii 0),.v (ii 0),.v (sv []),.v (ii 0)],.box 168 (cH ⟨1,x.2.1,[],a0⟩)]/\x.2.2<=s.length/\s.length < x.1+x.2.2/\number s x.1 x.2.1 x.2.2=R/\0<=x.2.1/\x.2.1<=21474836479) (s.length+1,0,a0) ?_ ?_
 ·exact ⟨_,_,Wk.aX aw,rfl,rfl,by simp only;omega,by simp only;omega,by rw [<-hR],by simp,by simp⟩
 ·rintro ⟨f,n,a⟩ _ _ ⟨rfl,rfl,ha,hf,h,sZ,ub⟩;simp only at ha hf h sZ ub
  cases f with
  | zero=>omega
  | succ f =>
  rw [number] at h
  cases hc:s[a]? with
  | none =>
   rw [hc] at h;simp only at h;subst h;have hO:s.length<=a:=nZ hc
   have hd:decide ((a:Int) < (s.length:Int))=false:=by simpa using hO
   refine zbk ?_;refine mG ?_;exact zag
  | some c =>
   rw [hc] at h;simp only at h;have ar:a < s.length:=(bh hc).1
   have hd:decide ((a:Int) < (s.length:Int))=true:=by simpa using ar
   have mP:=wu c
   cases hdc:dN c with
   | false =>
    rw [hdc] at mP;rw [ad (by rw [hdc];simp)] at h;subst h;refine ab ?_;refine V [] mP ?_;refine zep ?_;refine mG ?_;exact zag
   | true =>
    rw [hdc] at mP;rw [ah hdc] at h
    have xy:(48:Int)<=(c.toNat:Int)/\(c.toNat:Int)<=57:=by
     simp only [dN,au,decide_eq_true_eq] at hdc;exact hdc
    by_cases hn:n<=2147483647
    ·rw [ah hn] at h
     have u9:decide (n<=2147483647)=true:=by simpa using hn
     refine ab ?_;refine V [] mP ?_;refine aS (aC 0 10 (.a 10 .nil)) ?_;refine bF ?_;exact ⟨(f,n * 10+((c.toNat:Int) - 48),a+1),⟨_,_,Wk.aX aw,rfl,rfl,ar,by simp only;omega,h,by simp only;omega,by simp only;omega⟩,by simp⟩
    ·rw [ad hn] at h
     have u9:decide (n<=2147483647)=false:=by simpa using hn
     refine ab ?_;refine V [] mP ?_;exact ⟨(f,n,a+1),⟨_,_,Wk.aX aw,rfl,rfl,ar,by simp only;omega,h,sZ,ub⟩,by simp⟩
open Go.Xp (Tok)
theorem KY {xs:List ae} {p:ae->Bool} {k:Nat} {x:ae} (h:(xs.take k).find? p=none) (hx:xs[k]?=some x) (hp:p x=true):xs.find? p=some x:=by
 have ar:=(bh hx).1
 have:xs=xs.take k++x::xs.drop (k+1):=by
  have D:=List.take_append_drop k xs;rw [o8 ar] at D;rw [(bh hx).2] at D;exact D.symm
 rw [this,List.find?_append,h];simp [List.find?_cons,hp]
theorem KX {xs:List ae} {p:ae->Bool} {k:Nat} {x:ae} (h:(xs.take k).find? p=none) (hx:xs[k]?=some x) (hp:p x=false):(xs.take (k+1)).find? p=none:=by
 rw [eK,hx,List.find?_append,h];simp [List.find?_cons,hp]
theorem G2:∀ x∈bQ,x.length<=1152921504606846976:=by decide
theorem Fe (s:ae) (a:Nat) (c:UInt8) (hs:s.length<=1099511627776) (hc:s[a]?=some c) :
  GF prog 214 [.v (sv s),.v (ii (a:Nat))] [] (.tup [.agg (cH (eR s a c).1),.v (ii ((eR s a c).2:Nat))]) []:=by
 have ar:a < s.length:=(bh hc).1;have mP:=wu c;have iy:=wv c;unfold eR
 cases hdc:dN c with
 | true =>
  rw [hdc] at mP;rw [ah rfl];refine aj func214 ntmps214 ?_;refine V [] mP ?_;refine V [] (GK s a hs X) ?_;refine mG ?_;exact zag
 | false =>
  rw [hdc] at mP;rw [ad aE]
  cases hsc:small c with
  | true =>
   rw [hsc] at iy;rw [ah rfl];have Wn:=oa s dV (s.length+1) a X X;have Ws:(s.take (eT s a)).drop a=gh s a:=rfl;have S9:run s dV (s.length+1) a=eT s a:=rfl;rw [S9] at Wn;generalize he:eT s a=e at *;generalize hw:gh s a=w at *;have hw:=Ws;have he:=S9;refine aj func214 ntmps214 ?_;refine V [] mP ?_;refine V [] iy ?_;refine GW.DR (fun fr Γ=>fr=[.v (sv s),.v (ii (a:Nat)),U,U,.loc 0 0,U,.v (ii (e:Nat)),U,U,U,U,U,U,U,U,U,U,U,U,U,U,U,U,U,U,U,U,U,U,U,U,U,U,U,U,U,U,U,U,U,U,U,U,U,U,U,U,U,U,U,U,U,U,U,U,U,U,U,U,U,U,U,U,U,U,U,U,U,U]/\Γ=[.box 168 [.v (ii 0),.v (ii 0),.v (sv []),.v (ii 0)]]) ?_ ?_
   ·refine GW.loop (fun x:Nat × Nat=>x.1) (fun x fr Γ=>fr=[.v (sv s),.v (ii (a:Nat)),U,U,.loc 0 0,U,.v (ii (x.2:Nat)),U,U,U,U,U,U,U,U,U,U,U,U,U,U,U,U,U,U,U,U,U,U,U,U,U,U,U,U,U,U,U,U,U,U,U,U,U,U,U,U,U,U,U,U,U,U,U,U,U,U,U,U,U,U,U,U,U,U,U,U,U,U]/\Γ=[.box 168 [.v (ii 0),.v (ii 0),.v (sv []),.v (ii 0)]]/\x.2<=s.length/\s.length < x.1+x.2/\run s dV x.1 x.2=e) (s.length+1,a) ?_ ?_
    ·exact ⟨_,_,Wk.aX aw,rfl,rfl,by simp only;omega,by simp only;omega,he⟩
    ·rintro ⟨f,b⟩ _ _ ⟨rfl,rfl,hb,hf,h⟩;simp only at hb hf h
     cases f with
     | zero=>omega
     | succ f =>
     rw [run] at h
     cases yX:s[b]? with
     | none =>
      rw [yX] at h;simp only at h;subst h;have hO:s.length<=b:=nZ yX
      have hd:decide ((b:Int) < (s.length:Int))=false:=by simpa using hO
      refine dF ?_;exact oF
     | some cb =>
      rw [yX] at h;simp only at h;have p8:b < s.length:=(bh yX).1
      have hd:decide ((b:Int) < (s.length:Int))=true:=by simpa using p8
      have hp:=Dk cb
      cases hn:dV cb with
      | true =>
       rw [hn] at hp;rw [ah hn] at h;refine zem ?_;exact ⟨(f,b+1),⟨_,_,Wk.aX aw,rfl,rfl,p8,by simp only;omega,h⟩,by simp⟩
      | false =>
       rw [hn] at hp;rw [ad (by rw [hn];decide)] at h;subst h;refine zem ?_;refine iw ?_;exact oF
   ·rintro _ _ ⟨rfl,rfl⟩;obtain ⟨_,D,I⟩:=Wn;refine ab ?_;rw [hw];have xn:=qK words w aE
    cases hcw:words.contains w with
    | true =>
     rw [hcw] at xn;refine zcT ?_;rw [ah rfl];exact zag
    | false =>
     rw [hcw] at xn;refine zcT ?_;rw [ad aE];exact zag
  | false =>
   rw [hsc] at iy;rw [ad aE];refine aj func214 ntmps214 ?_;refine V [] mP ?_;refine V [] iy ?_;refine V [] Jy ?_;refine GW.range (bQ.map fun s=>[GV.v (sv s)]).length (fun k fr Γ=>fr=[.v (sv s),.v (ii (a:Nat)),U,U,.loc 0 0,U,U,U,U,U,U,U,U,U,U,U,U,U,U,U,U,U,U,U,U,U,U,U,U,U,U,U,U,U,U,U,U,U,U,U,U,U,U,U,U,U,U,U,U,strs bQ,.v (ii ((bQ.map fun s=>[GV.v (sv s)]).length:Int)),.v (ii (k:Nat)),U,U,U,U,U,U,U,U,U,U,U,U,U,U,U,U,U]/\Γ=[.box 168 [.v (ii 0),.v (ii 0),.v (sv []),.v (ii 0)]]/\(bQ.take k).find? (bR s a)=none) ?_ aE ?_ ?_ ?_
   ·exact qn
   ·exact nc
   ·rintro k _ _ hk ⟨rfl,rfl,hf⟩
    have hk:k < bQ.length:=by simpa using hk
    have hx:bQ[k]?=some bQ[k]:=by simp [hk]
    have hr:(bQ.map fun s=>[GV.v (sv s)])[k]?=some [.v (sv bQ[k])]:=by simp [hk]
    have qb:=G2 _ (List.getElem_mem hk);generalize bQ[k]=x at *;have oM:=oQ s x a X qb X
    cases hb:bR s a x with
    | true =>
     rw [hb] at oM;have Lq:=KY hf hx hb;refine ab ?_;refine V [] oM ?_;refine mG ?_;rw [Lq];exact zag
    | false =>
     rw [hb] at oM;refine ab ?_;refine V [] oM ?_;exact ⟨rfl,rfl,_,_,Wk.aX aw,rfl,rfl,KX hf hx hb⟩
   ·rintro _ _ ⟨rfl,rfl,hf⟩
    have hf:bQ.find? (bR s a)=none:=by
     rw [nq zeL] at hf;exact hf
    refine ab ?_;refine mG ?_;rw [hf];exact zag
theorem F7 {s:ae} {a:Nat} {c:UInt8} (hc:s[a]?=some c):a<=(eR s a c).2/\(eR s a c).2<=s.length:=by
 have ar:a < s.length:=(bh hc).1;unfold eR;split
 ·exact (so s (s.length+1) 0 a X X).2
 ·split
  ·exact (oa s dV (s.length+1) a X X).2
  ·split
   ·rename_i x hx;have:=jE (List.find?_some hx);exact ⟨Nat.le_add_right _ _,this⟩
   ·exact ⟨aD _,by omega⟩
theorem L2 (s:ae) (l:List Tok) (hs:s.length<=1000000000000) (h:Go.Sp.eI s=some l) :
  GF prog 195 [.v (sv s)] [] (Go.Xg.eI l) []:=by
 rw [Go.Sp.eI] at h;have P9:=Bi s 0 X (aY _);have zc:=sH s (s.length+1) 0 (aY _);generalize hS:skip s (s.length+1) 0=R at *;refine aj func195 ntmps195 ?_;refine rM ?_;refine ab ?_;refine V [] P9 ?_;refine GW.loop (fun x:Nat × Nat × List Tok=>x.1) (fun x fr Γ=>∃ n rows,fr=[.v (sv s),U,U,.vec 0 n,.v (ii (x.2.1:Nat)),U,U,U,U,U,U,U,U,U,U,U,U,U,U,U,U,U,U,U,U,U,U,U,U,U,U,U,U,U,U]/\Γ=[.vec 168 4 0 rows]/\rows.length=n/\rows=x.2.2.map cH/\n+x.1<=s.length+2/\x.2.1<=s.length/\ql s x.1 x.2.1 x.2.2=some l) (s.length+2,R.1,[]) ?_ ?_
 ·exact ⟨_,_,Wk.aX aw,0,[],rfl,rfl,rfl,rfl,by simp,zc.2,h⟩
 ·rintro ⟨f,a,acc⟩ _ _ ⟨n,rows,rfl,rfl,hn,bn,HK,ha,h⟩;simp only at bn HK ha h
  cases f with
  | zero=>simp [ql] at h
  | succ f =>
  rw [ql] at h
  cases hc:s[a]? with
  | none =>
   rw [hc] at h;simp only at h;cases h;have hO:s.length<=a:=nZ hc
   have hd:decide ((a:Int) < (s.length:Int))=false:=by simpa using hO
   subst bn;refine zbk ?_;refine GW.wk (Wk.kG (t:=2) rfl rfl rfl hn) ?_;exact ao
  | some c =>
   rw [hc] at h;simp only at h;have ar:a < s.length:=(bh hc).1
   have hd:decide ((a:Int) < (s.length:Int))=true:=by simpa using ar
   have kC:=F7 hc;have lp:=Fe s a c X hc;generalize eR s a c=tk at *;have Jn:=Bi s tk.2 X kC.2;have Oo:=sH s (s.length+1) tk.2 kC.2;generalize skip s (s.length+1) tk.2=R2 at *;refine ab ?_;refine V [] lp ?_;refine zdI ?_;refine V [] Jn ?_;exact ⟨(f,R2.1,acc++[tk.1]),⟨_,_,(Wk.cut (n:=1) (fU rfl) rfl).trans (Wk.aX aw),_,_,rfl,rfl,by simp [hn],by rw [lI,bn];rfl,by simp only;omega,by simp only;omega,h⟩,by simp⟩
open Go.Xp (T one levels)
structure D7 (f:Nat):Prop where
 expr:∀ d p t q,p.ok->d+f<=4611686018427387904->mE f (.expr d) p=some (t,q)->GF prog 289 [.loc 0 0,.v (ii (d:Nat))] [bJ p] (.agg (cT t)) [bJ q]
 level:∀ k d p t q,p.ok->k<=9->d+f<=4611686018427387904->mE f (.level k d) p=some (t,q)->GF prog 302 [.loc 0 0,.v (ii (k:Nat)),.v (ii (d:Nat))] [bJ p] (.agg (cT t)) [bJ q]
 operand:∀ d p t q,p.ok->d+f<=4611686018427387904->mE f (.operand d) p=some (t,q)->GF prog 308 [.loc 0 0,.v (ii (d:Nat))] [bJ p] (.agg (cT t)) [bJ q]
 named:∀ a s d p t q,p.ok->d+f<=4611686018427387904->mE f (.named a s d) p=some (t,q)->GF prog 311 [.loc 0 0,.v (ii a),.v (sv s),.v (ii (d:Nat))] [bJ p] (.agg (cT t)) [bJ q]
 list:∀ d p l q,p.ok->d+f<=4611686018427387904->mL f d p=some (l,q)->GF prog 315 [.loc 0 0,.v (ii (d:Nat))] [bJ p] (.sl 6 (bb l)) [bJ q]
theorem Sm {f:Nat} (C:D7 f) (d:Nat) (p:RS) (t:T) (q:RS) (hp:p.ok) (hd:d+(f+1)<=4611686018427387904) (h:mE (f+1) (.expr d) p=some (t,q)) :
  GF prog 289 [.loc 0 0,.v (ii (d:Nat))] [bJ p] (.agg (cT t)) [bJ q]:=by
 rw [mE] at h;refine aj func289 ntmps289 ?_;refine V [0] (ue p d hp) ?_;refine V [0] (C.level 0 d _ t q ((fX hp d).ok hp) X X h) ?_;exact eJ
theorem H4 {k:Nat} (hk:k < 9):(levels.map fun l=>[strs l])[k]?=some [strs (levels.getD k [])]:=by
 have:k < levels.length:=hk;rw [bP,ec this,List.getD_eq_getElem?_getD,ec this];rfl
theorem B6:∀ k,k < 9->(levels.getD k []).length<=1099511627776:=by decide
abbrev zT:List GV:=[.v (ii 0),.v (ii 0),.v (ii 0),.v (sv []),.v (.slice none 0 0),.v (.slice none 0 0)]
theorem Rj {f:Nat} (C:∀ f',f'<=f->D7 f') (k d:Nat) (p:RS) (t:T) (q:RS) (hp:p.ok) (hk:k<=9) (hd:d+(f+1)<=4611686018427387904) (h:mE (f+1) (.level k d) p=some (t,q)) :
  GF prog 302 [.loc 0 0,.v (ii (k:Nat)),.v (ii (d:Nat))] [bJ p] (.agg (cT t)) [bJ q]:=by
 rw [mE] at h
 by_cases y5:k=9
 ·subst y5;rw [ah rfl] at h;refine aj func302 ntmps302 ?_;refine V [] iV ?_;refine V [0] ((C f (aD _)).operand (d+1) p t q hp X h) ?_;exact eJ
 ·rw [ad y5] at h
  have Xs:((k:Int)==9)=false:=by simp;omega
  cases he:mE f (.level (k+1) d) p with
  | none=>exact zaQ
  | some r =>
   obtain ⟨out,p1⟩:=r;rw [he] at h;simp only at h;have jY:=((rb f).1 _ _ _ _ hp he).ok hp;refine aj func302 ntmps302 ?_;refine V [] iV ?_;refine V [0] ((C f (aD _)).level (k+1) d p out p1 hp X X he) ?_;refine GW.loop (fun x:Nat × T × RS=>x.1) (fun x fr Γ=>fr=[.loc 0 0,.v (ii (k:Nat)),.v (ii (d:Nat)),U,U,U,.loc 1 0,.loc 2 0,U,U,U,U,U,U,U,U,U,U,U,U,U,U,U,U,U,U,U,U,U,U,U,U,U,U,U,U,U,U,U,U,U,U,U,U,U,U,U,U,U,U,U,U,U,U,U,U,U,U,U,U,U,U,U,U,U,U]/\Γ=[bJ x.2.2,.box 86 zT,.box 86 (cT x.2.1)]/\x.2.2.ok/\x.1<=f/\mE x.1 (.loop k d x.2.1) x.2.2=some (t,q)) (f,out,p1) ?_ ?_
   ·exact ⟨_,_,Wk.aX aw,rfl,rfl,jY,aD _,h⟩
   ·rintro ⟨g,out,p⟩ _ _ ⟨rfl,rfl,hp,Ls,h⟩;simp only at hp Ls h
    cases g with
    | zero=>simp [mE] at h
    | succ g =>
    rw [mE] at h
    have hk:k < 9:=by omega
    by_cases hc:p.code=0
    ·have de:(p.code==0)=true:=by simpa using hc
     have EO:=H4 hk
     by_cases hit:(levels.getD k []).contains (p.sign 0)=true
     ·rw [ah ⟨hc,hit⟩] at h
      cases ht:p.l[p.i]? with
      | none=>rw [ht] at h;cases h
      | some tk =>
       rw [ht] at h;simp only at h;have ar:=(bh ht).1;have hr:=jS ht;have dv:=hp.2
       cases hb:mE g (.level (k+1) d) p.next with
       | none=>exact zaS
       | some r =>
        obtain ⟨b,p2⟩:=r;rw [hb] at h;simp only at h;have dr:=(cl ar).ok hp;have dR:=((rb g).1 _ _ _ _ dr hb).ok dr;refine za6 ?_;refine ab ?_;refine zci ?_;refine aS (aC 0 9 (.a 9 (.a 10 (.a 11 (.a 12 .nil))))) ?_;refine aq ?_;refine ax [0] ((C g X).level (k+1) d p.next b p2 dr X X hb) ?_;refine zaN ?_;refine lx [] (gA 6 tk.at_ tk.s [out,b] _ oh) ?_;refine Ge ?_;refine bF ?_;exact ⟨(g,one 6 tk.at_ tk.s [out,b],p2),⟨_,_,(Wk.cut (n:=3) (fU rfl) rfl).trans (Wk.aX aw),rfl,rfl,dR,by omega,h⟩,by simp⟩
     ·have hit:(levels.getD k []).contains (p.sign 0)=false:=by simpa using hit
      rw [ad (by rw [hit];simp)] at h
      obtain ⟨rfl,rfl⟩:out=t/\p=q:=by simpa using h
      refine za6 ?_;refine dF ?_;exact ph
    ·have de:(p.code==0)=false:=by simpa using hc
     rw [ad (fun hh=>hc hh.1)] at h
     obtain ⟨rfl,rfl⟩:out=t/\p=q:=by simpa using h
     refine ab ?_;refine aS (aC 0 6 (.q 7 (.q 10 (.a 6 (.q 8 (.q 9 (.a 11 (.a 12 (.q 13 .nil))))))))) ?_;refine bF ?_;refine iw ?_;exact ph
end Go.Xg
