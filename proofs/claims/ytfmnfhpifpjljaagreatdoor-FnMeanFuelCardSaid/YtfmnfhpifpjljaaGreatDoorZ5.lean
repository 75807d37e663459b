/- Part 5 of proofs that are told in their last texts. -/
import Derived.Test.YtfmnfhpifpjljaaGreatDoorZ4
import Derived.Test.YtfmnfhpifpjljaaGreatDoorProg
import Derived.Lib.SmallJoins
import Derived.Lib.LaidU8
import Derived.Shelf.Vars
import Derived.Lib.Builder
import Derived.Lib.UnsafeStr
import Derived.Test.YtfmnfhpifpjljaaGreatDoorZ3
open List (cons_append drop_length ext_getElem flatten_cons getElem_mem length_append length_cons length_nil mem_cons_self)
set_option linter.unusedVariables false
set_option linter.unusedSimpArgs false
set_option linter.defProp false
set_option maxRecDepth 100000
namespace Go.Xg
open Go.RowKit Go.Xw
structure Hid(B:Prop):Prop where
 h:B
structure qK(bf:List Nat)(C:Prop):Prop where
 h:C
section
variable{P:Program}{m:Nat}{ops:Array Oper}{Q:dF}{rest:List Oper}{fr:am}{Γ:ap}{d:Option Tmp}{ty:TypeId}{pos:String}{af:Array Edge}
def GL.rK{f:FuncId}{bf:List Nat}{args:List Operand}{FP:Array TypeId}{gs:am}{xR QC:ap}{g:GV}(hc:qK bf (GF P f gs xR g QC))(ha:mc (args.map (bd fr)) (mP (cR bf Γ.length) gs))(uh:kp bf Γ.length=true)
  (sd:seen (cR bf Γ.length) Γ bf xR)(hl:Nat.ble bf.length QC.length=true)(h:GL P m ops Q rest (bQ fr d (eM (cR bf Γ.length) g)) (fE Γ bf (QC.map (Ob.eM (cR bf Γ.length)))))(hf:qQ P f=true:=by first|exact gM.ok (self:=by assumption)|kernel_rfl) :
  GL P m ops Q (⟨d,.call ⟨.value (.func f),args.toArray,FP⟩,ty,pos,af,none⟩::rest) fr Γ:=haveI:gM P f:=⟨hf⟩;GL.Xi bf hc.h ha uh sd hl h
def GL.DY{f:FuncId}{bf:List Nat}{args:List Operand}{FP:Array TypeId}{gs:am}{xR:ap}{R:GV->ap->Prop}(hc:qK bf (GC P f gs xR R))(ha:mc (args.map (bd fr)) (mP (cR bf Γ.length) gs))(uh:kp bf Γ.length=true)
  (sd:seen (cR bf Γ.length) Γ bf xR)(h:∀g bO,R g bO->bf.length<=bO.length/\GL P m ops Q rest (bQ fr d (eM (cR bf Γ.length) g)) (fE Γ bf (bO.map (Ob.eM (cR bf Γ.length)))))(hf:qQ P f=true:=by first|exact gM.ok (self:=by assumption)|kernel_rfl) :
  GL P m ops Q (⟨d,.call ⟨.value (.func f),args.toArray,FP⟩,ty,pos,af,none⟩::rest) fr Γ:=haveI:gM P f:=⟨hf⟩;GL.JC bf hc.h ha uh sd h
def GL.Le{f:FuncId}{bf:List Nat}{x:Operand}{first cap:am}{args:List Operand}{FP:Array TypeId}{gs:am}{xR:ap}{R:GV->ap->Prop}(hc:qK bf (GC P f gs xR R))(hx:bd fr x=.fn (.func f) first cap)(ha:first++args.map (bd fr)++cap=mP (cR bf Γ.length) gs)(uh:kp bf Γ.length=true)
  (sd:seen (cR bf Γ.length) Γ bf xR)(h:∀g bO,R g bO->bf.length<=bO.length/\GL P m ops Q rest (bQ fr d (eM (cR bf Γ.length) g)) (fE Γ bf (bO.map (Ob.eM (cR bf Γ.length)))))(hf:qQ P f=true:=by first|exact gM.ok (self:=by assumption)|kernel_rfl) :
  GL P m ops Q (⟨d,.call ⟨.value x,args.toArray,FP⟩,ty,pos,af,none⟩::rest) fr Γ:=haveI:gM P f:=⟨hf⟩;GL.vQ bf hc.h hx ha uh sd h
def GL.Ld{f:FuncId}{bf:List Nat}{x:Operand}{args:List Operand}{FP:Array TypeId}{gs:am}{xR:ap}{R:GV->ap->Prop}(hc:qK bf (GC P f gs xR R))(hx:bd fr x=.v (.func (.func f) #[] #[]))(ha:args.map (bd fr)=mP (cR bf Γ.length) gs)(uh:kp bf Γ.length=true)
  (sd:seen (cR bf Γ.length) Γ bf xR)(h:∀g bO,R g bO->bf.length<=bO.length/\GL P m ops Q rest (bQ fr d (eM (cR bf Γ.length) g)) (fE Γ bf (bO.map (Ob.eM (cR bf Γ.length)))))(hf:qQ P f=true:=by first|exact gM.ok (self:=by assumption)|kernel_rfl) :
  GL P m ops Q (⟨d,.call ⟨.value x,args.toArray,FP⟩,ty,pos,af,none⟩::rest) fr Γ:=haveI:gM P f:=⟨hf⟩;GL.Xj bf hc.h hx ha uh sd h
end
section
variable{A:Prop}
def aP(s:A:=by first|omega|assumption|(simp only[List.length_append,List.length_cons,List.length_nil];omega)):A:=s
def aM(s:A:=by first|rfl|assumption):A:=s
def fJ(s:A:=by apply K.len;first|exact V.XV rfl|exact V.PG rfl|exact V.aas rfl|exact V.aat rfl|exact V.lenA rfl):A:=s
def dY(s:A:=by first|exact .inr rfl|exact .inl rfl):A:=s
def fa(s:A:=by apply K.ld;first|exact V.Zh rfl rfl aM|exact V.PD rfl rfl rfl rfl|exact V.ldV rfl rfl aM aM aM|exact V.Zg rfl rfl aM aM aM):A:=s
def N5(s:A:=by apply K.ld;first|exact V.Zh rfl rfl aM|exact V.VQ rfl aM|exact V.PD rfl rfl rfl rfl|exact V.VR rfl rfl rfl|exact V.ldV rfl rfl aM aM aM|exact V.Zg rfl rfl aM aM aM):A:=s
def ei(s:A:=by apply K.nck;first|exact V.aay rfl|exact V.Kb rfl):A:=s
def eu(s:A:=by apply K.pick;first|exact V.RE rfl aM|exact V.RD rfl aM):A:=s
def aV(s:A:=by assumption):A:=s
def fF(s:A:=by omega):A:=s
def Bd(s:A:=by apply K.bin;first|exact V.go rfl|exact V.iZ rfl rfl fF|exact V.gR rfl rfl|exact V.gS rfl rfl|exact V.lV rfl rfl|exact V.lZ rfl rfl|exact V.cat rfl rfl fF|exact V.cat rfl rfl (by simp only[List.length_append,List.length_cons,List.length_nil];omega)|exact V.ji rfl rfl fF|exact V.add rfl rfl fF|exact V.sub rfl rfl fF|exact V.mul rfl rfl fF|exact V.jU rfl rfl fF|exact V.quo rfl rfl fF|exact V.rem rfl rfl fF|exact V.gn rfl rfl):A:=s
def Be(s:A:=by apply K.mU;first|exact V.jT rfl rfl rfl fF|exact V.jS rfl rfl fF|exact V.jR rfl rfl fF|exact V.ft 1 rfl rfl rfl aM):A:=s
def RR(s:A:=by apply K.idx;first|exact V.idxV rfl rfl rfl aM fF|exact V.a7 0 rfl rfl rfl aP|exact V.a7 1 rfl rfl rfl aP|exact V.a7 2 rfl rfl rfl aP|exact V.a7 3 rfl rfl rfl aP|exact V.a7 4 rfl rfl rfl aP|exact V.a7 5 rfl rfl rfl aP|exact V.a7 6 rfl rfl rfl aP):A:=s
def RT(s:A:=by apply K.idx;first|exact V.fR rfl rfl aV|exact V.cm rfl rfl aV rfl|exact V.cm rfl rfl aV fF|exact V.iI rfl rfl fF|exact V.idxV rfl rfl rfl aM fF|exact V.a7 0 rfl rfl rfl aP|exact V.a7 1 rfl rfl rfl aP|exact V.a7 2 rfl rfl rfl aP|exact V.a7 3 rfl rfl rfl aP|exact V.a7 4 rfl rfl rfl aP|exact V.a7 5 rfl rfl rfl aP|exact V.a7 6 rfl rfl rfl aP):A:=s
def xQ(s:A:=by first|rfl|exact IntWalk.i64_in _ fF|exact IntWalk.u8_in _ fF|assumption):A:=s
def FW(s:A:=by apply K.idx;first|exact V.fR rfl rfl aV|exact V.cm rfl rfl aV rfl|exact V.cm rfl rfl aV fF|exact V.iI rfl rfl fF):A:=s
def ew(s:A:=by apply K.BV;first|exact V.mkfn0|exact V.BV):A:=s
def eJ(s:A:=by apply K.ld;first|exact V.VQ rfl aM|exact V.VR rfl rfl rfl):A:=s
def N7(s:A:=by apply K.UU;first|exact V.UY rfl|exact V.UW rfl|exact V.fldV rfl rfl aM|exact V.UX rfl rfl aM):A:=s
def KB(s:A:=by first|exact V.mv|exact V.kj|exact Bd|exact N7|exact N5|exact fJ|exact ei|exact eu|exact RT|exact V.ext rfl rfl|exact V.go rfl|exact Be|exact V.hY rfl rfl aV|exact V.idxSC rfl rfl aV rfl|exact ew|exact V.build rfl|exact V.neg rfl fF|exact V.hH rfl rfl|exact V.lf rfl xQ|exact V.str rfl aM):A:=s
def eK(s:A:=by apply K.UU;first|exact V.UY rfl|exact V.UW rfl):A:=s
def fb(s:A:=by apply K.UU;first|exact V.fldV rfl rfl aM|exact V.UX rfl rfl aM):A:=s
def RQ(s:A:=by first|exact fa|exact RR|exact fb|exact V.eZ 1 rfl rfl aM aM|exact V.mv|exact V.kj|exact Bd|exact eK|exact eJ|exact fJ|exact ei|exact eu|exact FW|exact V.ext rfl rfl|exact V.go rfl|exact Be|exact V.hY rfl rfl aV|exact V.idxSC rfl rfl aV rfl|exact ew|exact V.build rfl|exact V.neg rfl fF|exact V.hH rfl rfl|exact V.lf rfl xQ|exact V.str rfl aM):A:=s
def N6(s:A:=by first|exact fa|exact RR|exact fb|exact V.eZ 1 rfl rfl aM aM):A:=s
end
section
variable{A B:Prop}
def jM(s:A:=by repeat (first|exact cX.n|(apply cX.w;(· decide +kernel))|(apply cX.y;(· first|(apply YQ.t;(· exact rfl);(· exact rfl);(· exact RQ))|(apply YQ.t;(· exact rfl);(· apply oh;(· exact rfl);(· first|exact rfl|assumption));(· exact RQ))|(apply YQ.f;(· exact rfl);(· apply pg;(· exact rfl);(· first|exact rfl|assumption))))))):A:=s
def cZ(s:A:=by(try simp only[zU,bQ,bN,bd,cQ,List.length_cons,List.length_nil,Nat.reduceAdd,eM,mP,cR]);rfl):A:=s
def dN(s:A:=by(try simp only[List.cons_append,List.nil_append,oset,pF,bN,cQ,bd,fE,List.map_cons,List.map_nil,Ob.eM,eM,mP,cR]);rfl):A:=s
def sy(s:A:=by simp only[zU,bQ,bN,bd,cQ];rfl):A:=s
def pM(s:A:=by first|exact mc.refl|(repeat (first|exact mc.nil|exact nF.refl|exact nF.nil|exact nF.U|exact nF.fn0|refine mc.cons ?_ ?_|refine nF.agg ?_))):A:=s
def oJ(s:A:=by first|exact trivial|exact⟨rfl,trivial⟩|exact⟨rfl,rfl,trivial⟩|exact⟨rfl,rfl,rfl,trivial⟩|exact⟨rfl,rfl,rfl,rfl,rfl,trivial⟩):A:=s
def X(h:B)(s:Hid B->A:=by intro hQ;(repeat (first|((first|(apply GL.q;(· exact KB))|refine GL.nil ?_|refine bx ?_|refine GW.seq ?_|refine GW.region ?_|refine GW.skip ?_|refine ke ?_|refine GW.block ?_|(apply GL.gt;(· exact rfl);(· first|exact rfl|assumption))|(apply GL.gf;(· exact rfl);(· first|exact rfl|assumption))|(apply GL.gu;(· exact rfl))|(apply KP;(· exact rfl);(· first|exact rfl|assumption))|(apply KO;(· exact rfl);(· first|exact rfl|assumption)));try refine GN sy ?_)|((first|(apply GL.alloc;(· simp only[gO,Value.cells,List.map_cons,List.map_nil];rfl))|(apply GL.box;(· exact rfl))|(apply GL.st;(· exact rfl);(· exact rfl);(· exact rfl);(· exact rfl);(· exact rfl);(· exact rfl)));refine rG cZ dN ?_)));exact hQ.1):A:=s ⟨h⟩
def av(h:B)(s:Hid B->A:=by intro hQ;(repeat ((first|(apply OPm;(· exact rfl))|(apply OPa;(· exact rfl))|(apply OP;(· exact rfl);(· intro Γ;(first|exact Bd|exact eK|exact eJ|exact fJ|exact ei|exact FW|exact V.ext rfl rfl|exact V.go rfl|exact Be|exact V.hY rfl rfl aV|exact V.idxSC rfl rfl aV rfl|exact ew|exact V.build rfl|exact V.neg rfl fF|exact V.hH rfl rfl|exact V.lf rfl xQ|exact V.str rfl aM)))|(apply Zw;(· exact rfl);(· exact rfl);(· first|exact rfl|assumption))|(apply Zv;(· exact rfl);(· exact rfl);(· first|exact rfl|assumption))|(apply Zx;(· exact rfl);(· exact rfl);(· first|exact rfl|assumption))|(apply OQ;(· exact rfl);(· exact N6))|(apply Yz;(· exact rfl);(· exact rfl);(· first|exact rfl|assumption);(· intro Γ;(first|exact V.mv|exact V.kj|exact Bd|exact eK|exact eJ|exact fJ|exact ei|exact eu|exact FW|exact V.ext rfl rfl|exact V.go rfl|exact Be|exact V.hY rfl rfl aV|exact V.idxSC rfl rfl aV rfl|exact ew|exact V.build rfl|exact V.neg rfl fF|exact V.hH rfl rfl|exact V.lf rfl xQ|exact V.str rfl aM)))|(apply OQt;(· exact rfl);(· exact rfl);(· first|exact rfl|assumption);(· exact N6))|(apply ONf;(· exact rfl);(· exact rfl);(· first|exact rfl|assumption))|(apply ONu;(· exact rfl);(· exact rfl))|(apply OAf;(· exact rfl);(· exact rfl);(· first|exact rfl|assumption);(· exact jM))|(apply OAu;(· exact rfl);(· exact rfl);(· exact jM))|refine GO.nil ?_|(apply OA;(· exact rfl);(· exact rfl);apply GL.alloc;(· simp only[gO,Value.cells,List.map_cons,List.map_nil];rfl);refine GL.nil (bx (dy.mk jM ?_));refine jC cZ dN ?_)|(apply OA;(· exact rfl);(· exact rfl);apply GL.st;(· exact rfl);(· exact rfl);(· exact rfl);(· exact rfl);(· exact rfl);(· exact rfl);refine GL.nil (bx (dy.mk jM ?_));refine jC cZ dN ?_)|(apply OA;(· exact rfl);(· exact rfl);apply GL.box;(· exact rfl);refine GL.nil (bx (dy.mk jM ?_));refine jC cZ dN ?_));try refine Yy sy ?_));exact hQ.1):A:=s ⟨h⟩
def kZ(h:B)(s:Hid B->A:=by intro hQ;(repeat (first|((first|(apply GL.q;(· (first|exact V.mv|exact V.kj|exact Bd|exact N7|exact N5|exact fJ|exact ei|exact eu|exact RT|exact V.ext rfl rfl|exact V.go rfl|exact Be|exact V.hY rfl rfl aV|exact V.idxSC rfl rfl aV rfl|fail|exact V.build rfl|exact V.neg rfl fF|exact V.hH rfl rfl|exact V.lf rfl xQ|exact V.str rfl aM)))|refine GL.nil ?_|refine bx ?_|refine GW.seq ?_|refine GW.region ?_|refine GW.skip ?_|refine ke ?_|refine GW.block ?_|(apply GL.gt;(· exact rfl);(· first|exact rfl|assumption))|(apply GL.gf;(· exact rfl);(· first|exact rfl|assumption))|(apply GL.gu;(· exact rfl))|(apply KP;(· exact rfl);(· first|exact rfl|assumption))|(apply KO;(· exact rfl);(· first|exact rfl|assumption)));try refine GN sy ?_)|((first|(apply GL.alloc;(· simp only[gO,Value.cells,List.map_cons,List.map_nil];rfl))|(apply GL.box;(· exact rfl))|(apply GL.st;(· exact rfl);(· exact rfl);(· exact rfl);(· exact rfl);(· exact rfl);(· exact rfl)));refine rG cZ dN ?_)));exact hQ.1):A:=s ⟨h⟩
def Cp(h:B)(s:Hid B->A:=by intro hQ;(repeat (first|((first|(apply GL.q;(· exact KB))|refine GL.nil ?_|refine bx ?_|refine GW.seq ?_|refine GW.region ?_|refine GW.skip ?_|refine ke ?_|(apply GL.gt;(· exact rfl);(· first|exact rfl|assumption))|(apply GL.gf;(· exact rfl);(· first|exact rfl|assumption))|(apply GL.gu;(· exact rfl))|(apply KP;(· exact rfl);(· first|exact rfl|assumption))|(apply KO;(· exact rfl);(· first|exact rfl|assumption)));try refine GN sy ?_)|((first|(apply GL.alloc;(· simp only[gO,Value.cells,List.map_cons,List.map_nil];rfl))|(apply GL.box;(· exact rfl))|(apply GL.st;(· exact rfl);(· exact rfl);(· exact rfl);(· exact rfl);(· exact rfl);(· exact rfl)));refine rG cZ dN ?_)));exact hQ.1):A:=s ⟨h⟩
def bq(h:B)(s:Hid B->A:=by intro hQ;(try refine GN sy ?_);exact hQ.1):A:=s ⟨h⟩
def kO(h:B)(s:Hid B->A:=by intro hQ;(try refine Yy sy ?_);exact hQ.1):A:=s ⟨h⟩
def cV(h:B)(s:Hid B->A:=by intro hQ;(refine rG cZ dN ?_);exact hQ.1):A:=s ⟨h⟩
def N4(h:B)(s:Hid B->A:=by intro hQ;(refine jC cZ dN ?_);exact hQ.1):A:=s ⟨h⟩
def jx(h:B)(s:Hid B->A:=by intro hQ;((repeat (first|refine GW.exit ?_|refine En ?_|refine HH ?_|refine SO rfl ?_|refine ke ?_|refine bx ?_)));exact hQ.1):A:=s ⟨h⟩
def ct(h:B)(s:Hid B->A:=by intro hQ;((repeat (first|refine GW.ret ?_|refine lh ?_|refine lg ?_|refine bx ?_|refine ke ?_));refine oj rfl dY rfl (Nat.le_refl _) rfl rfl ?_);exact hQ.1):A:=s ⟨h⟩
def eC(h:B)(s:Hid B->A:=by intro hQ;((repeat (first|refine GW.ret ?_|refine lh ?_|refine lg ?_|refine bx ?_|refine ke ?_));refine U4 rfl dY (Nat.le_refl _) rfl ?_);exact hQ.1):A:=s ⟨h⟩
def yy(h:B)(s:Hid B->A:=by intro hQ;((repeat (first|refine GW.ret ?_|refine lh ?_|refine lg ?_|refine bx ?_|refine ke ?_));refine U5 rfl dY rfl rfl (Nat.le_refl _) rfl rfl ?_);exact hQ.1):A:=s ⟨h⟩
def Co(h:B)(s:Hid B->A:=by intro hQ;((repeat (first|refine GW.ret ?_|refine lh ?_|refine lg ?_|refine bx ?_|refine ke ?_));refine U6 rfl dY rfl rfl rfl (Nat.le_refl _) rfl rfl ?_);exact hQ.1):A:=s ⟨h⟩
def mu(h:B)(s:Hid B->A:=by intro hQ;((repeat (first|refine GW.ret ?_|refine lh ?_|refine lg ?_|refine bx ?_|refine ke ?_));refine Ag ?_;refine U6 rfl dY rfl rfl rfl (Nat.le_refl _) rfl rfl ?_);exact hQ.1):A:=s ⟨h⟩
def FV(h:B)(s:Hid B->A:=by intro hQ;((repeat (first|refine GW.ret ?_|refine lh ?_|refine lg ?_|refine bx ?_|refine ke ?_));refine Ag ?_;refine U5 rfl dY rfl rfl (Nat.le_refl _) rfl rfl ?_);exact hQ.1):A:=s ⟨h⟩
def oI(h:B)(s:Hid B->A:=by intro hQ;((repeat (first|refine GW.ret ?_|refine lh ?_|refine lg ?_|refine bx ?_|refine ke ?_));refine Ag ?_;refine U7 rfl dY rfl rfl rfl (Nat.le_refl _) rfl rfl ?_);exact hQ.1):A:=s ⟨h⟩
def lr(h:B)(s:Hid B->A:=by intro hQ;((repeat (first|refine GW.ret ?_|refine lh ?_|refine lg ?_|refine bx ?_|refine ke ?_));refine XE rfl dY rfl rfl rfl rfl (Nat.le_refl _) rfl rfl ?_);exact hQ.1):A:=s ⟨h⟩
def kV(h:B)(s:Hid B->A:=by intro hQ;((repeat (first|refine GW.ret ?_|refine lh ?_|refine lg ?_|refine bx ?_|refine ke ?_));refine LZ rfl dY rfl rfl rfl rfl rfl (Nat.le_refl _) rfl rfl ?_);exact hQ.1):A:=s ⟨h⟩
def Bc(h:B)(s:Hid B->A:=by intro hQ;((repeat (first|refine GW.ret ?_|refine lh ?_|refine lg ?_|refine bx ?_|refine ke ?_));refine Ag ?_;refine LZ rfl dY rfl rfl rfl rfl rfl (Nat.le_refl _) rfl rfl ?_);exact hQ.1):A:=s ⟨h⟩
def lO(h:B)(s:Hid B->A:=by intro hQ;((repeat (first|refine GW.ret ?_|refine lh ?_|refine lg ?_|refine bx ?_|refine ke ?_));refine U7 rfl dY rfl rfl rfl (Nat.le_refl _) rfl rfl ?_);exact hQ.1):A:=s ⟨h⟩
def b9(h:B)(s:Hid B->A:=by intro hQ;(refine GL.VZ rfl rfl rfl rfl ?_;refine rG cZ dN ?_);exact hQ.1):A:=s ⟨h⟩
def ma(h:B)(s:Hid B->A:=by intro hQ;(refine GL.Zk rfl rfl rfl rfl ?_;refine rG cZ dN ?_);exact hQ.1):A:=s ⟨h⟩
def et(h:B)(s:Hid B->A:=by intro hQ;(refine GL.push rfl rfl rfl rfl rfl rfl rfl rfl aM ⟨⟨by omega,by omega⟩,by decide⟩ ?_;refine rG cZ dN ?_);exact hQ.1):A:=s ⟨h⟩
def o7(h:B)(s:Hid B->A:=by intro hQ;(refine OA rfl rfl (GL.Zk rfl rfl rfl rfl (GL.nil (bx (dy.mk jM ?_))));refine jC cZ dN ?_);exact hQ.1):A:=s ⟨h⟩
def qk(h:B)(s:Hid B->A:=by intro hQ;(refine OA rfl rfl (GL.app rfl rfl rfl aM rfl rfl (by refine⟨?_,?_⟩;(· show _+1<=_;omega);(· show(_+1)*_<=_;omega)) (GL.nil (bx (dy.mk jM ?_))));refine jC cZ dN ?_);exact hQ.1):A:=s ⟨h⟩
def c6(h:B)(s:Hid B->A:=by intro hQ;(refine OA rfl rfl (GL.VZ rfl rfl rfl rfl (GL.nil (bx (dy.mk jM ?_))));refine jC cZ dN ?_);exact hQ.1):A:=s ⟨h⟩
def FU(h:B)(s:Hid B->A:=by intro hQ;(refine OA rfl rfl (GL.st rfl rfl rfl rfl rfl rfl (GL.nil (bx (dy.mk jM ?_))));refine jC cZ dN ?_);exact hQ.1):A:=s ⟨h⟩
def KA(h:B)(s:Hid B->A:=by intro hQ;(refine OA rfl rfl (GL.NW 1 (by kernel_rfl) (by kernel_rfl) rfl rfl rfl rfl aV fF (GL.nil (bx (dy.mk jM ?_))));refine jC cZ dN ?_);exact hQ.1):A:=s ⟨h⟩
def xP(h:B)(s:Hid B->A:=by intro hQ;(refine GL.vE rfl rfl rfl aM rfl rfl rfl rfl ?_;refine rG cZ dN ?_);exact hQ.1):A:=s ⟨h⟩
def dA(h:B)(s:Hid B->A:=by intro hQ;(refine⟨by simp,?_⟩;refine rG cZ dN ?_);exact hQ.1):A:=s ⟨h⟩
def cy(h:B)(s:Hid B->A:=by intro hQ;(refine GL.nil (bx (dy.mk jM ?_));refine jC cZ dN ?_);exact hQ.1):A:=s ⟨h⟩
def oZ(s:A:=by simp only[aR,sH];rfl):A:=s
def gU(s:A:=by first|exact mc.refl|exact nF.refl|(repeat (first|exact mc.nil|exact nF.refl|exact nF.nil|exact nF.U|exact nF.fn0|refine mc.cons ?_ ?_|refine nF.agg ?_|refine nF.tup ?_))):A:=s
def aD(s:A:=by repeat (first|exact sX.nil|refine sX.U ?_|refine sX.eq rfl ?_)):A:=s
end
section
variable{A B C:Prop}(bf:List Nat)
def jw(c:C)(h:B)(s:qK bf C->Hid B->A:=by intro hC hQ;(refine GL.rK hC pM rfl oJ rfl ?_;refine rG cZ dN ?_);exact hQ.1):A:=s ⟨c⟩ ⟨h⟩
def D(c:C)(h:B)(s:qK bf C->Hid B->A:=by intro hC hQ;(refine GL.rK hC pM rfl oJ rfl ?_;refine rG cZ dN ?_);refine X ?_;exact hQ.1):A:=s ⟨c⟩ ⟨h⟩
def mr(c:C)(h:B)(s:qK bf C->Hid B->A:=by intro hC hQ;(refine OA rfl rfl (GL.rK hC pM rfl oJ rfl (GL.nil (bx (dy.mk jM ?_))));refine jC cZ dN ?_);exact hQ.1):A:=s ⟨c⟩ ⟨h⟩
def aN(c:C)(h:B)(s:qK bf C->Hid B->A:=by intro hC hQ;(refine OA rfl rfl (GL.rK hC pM rfl oJ rfl (GL.nil (bx (dy.mk jM ?_))));refine jC cZ dN ?_);refine av ?_;exact hQ.1):A:=s ⟨c⟩ ⟨h⟩
def Zs(c:C)(h:B)(s:qK bf C->Hid B->A:=by intro hC hQ;(refine QE rfl rfl rfl (by first|exact rfl|assumption) (GL.rK hC pM rfl oJ rfl (GL.nil (bx (dy.mk jM ?_))));refine jC cZ dN ?_);exact hQ.1):A:=s ⟨c⟩ ⟨h⟩
def cw(c:C)(h:B)(s:qK bf C->Hid B->A:=by intro hC hQ;(refine QE rfl rfl rfl (by first|exact rfl|assumption) (GL.rK hC pM rfl oJ rfl (GL.nil (bx (dy.mk jM ?_))));refine jC cZ dN ?_);refine av ?_;exact hQ.1):A:=s ⟨c⟩ ⟨h⟩
def jW(c:C)(h:B)(s:qK bf C->Hid B->A:=by intro hC hQ;(refine GL.Ld hC rfl rfl rfl oJ ?_;rintro _ _⟨rfl,rfl⟩;refine⟨by simp,?_⟩;refine rG cZ dN ?_);exact hQ.1):A:=s ⟨c⟩ ⟨h⟩
def oG(c:C)(h:B)(s:qK bf C->Hid B->A:=by intro hC hQ;(refine GL.Le hC rfl rfl rfl oJ ?_;rintro _ _⟨rfl,rfl⟩;refine⟨by simp,?_⟩;refine rG cZ dN ?_);exact hQ.1):A:=s ⟨c⟩ ⟨h⟩
def xO(c:C)(h:B)(s:qK bf C->Hid B->A:=by intro hC hQ;(refine OA rfl rfl (GL.Ld hC rfl rfl rfl oJ ?_);rintro _ _⟨rfl,rfl⟩;refine⟨by simp,(GL.nil (bx (dy.mk jM ?_)))⟩;refine jC cZ dN ?_);exact hQ.1):A:=s ⟨c⟩ ⟨h⟩
def oH(c:C)(h:B)(s:qK bf C->Hid B->A:=by intro hC hQ;(refine OA rfl rfl (GL.Le hC rfl rfl rfl oJ ?_);rintro _ _⟨rfl,rfl⟩;refine⟨by simp,(GL.nil (bx (dy.mk jM ?_)))⟩;refine jC cZ dN ?_);exact hQ.1):A:=s ⟨c⟩ ⟨h⟩
def cN(c:C)(h:B)(s:qK bf C->Hid B->A:=by intro hC hQ;(refine GL.DY hC pM rfl oJ ?_);exact hQ.1):A:=s ⟨c⟩ ⟨h⟩
end
def ef{A B C abn:Prop}(f:C)(n:abn)(h:B)(s:C->abn->Hid B->A:=by intro hC hD hQ;refine GC.enter hC hD rfl (by simp only[u9,Em,Nat.reduceSub];rfl) ?_;exact hQ.1):A:=s f n ⟨h⟩
def ah{A B C abn:Prop}(f:C)(n:abn)(h:B)(s:C->abn->Hid B->A:=by intro hC hD hQ;refine GC.enter hC hD rfl (by simp only[u9,Em,Nat.reduceSub];rfl) ?_;refine X ?_;exact hQ.1):A:=s f n ⟨h⟩
section
variable{A:Prop}
def ax(s:A:=by refine ct ?_;exact⟨rfl,rfl⟩):A:=s
def aC(s:A:=by refine X ?_;refine ct ?_;exact⟨rfl,rfl⟩):A:=s
def eP(s:A:=by refine eC ?_;exact⟨rfl,rfl⟩):A:=s
def bY(s:A:=by refine X ?_;refine eC ?_;exact⟨rfl,rfl⟩):A:=s
def c8(s:A:=by refine yy ?_;exact⟨rfl,rfl⟩):A:=s
def kC(s:A:=by refine X ?_;refine yy ?_;exact⟨rfl,rfl⟩):A:=s
def eQ(s:A:=by refine lO ?_;exact⟨rfl,rfl⟩):A:=s
def lq(s:A:=by refine X ?_;refine lO ?_;exact⟨rfl,rfl⟩):A:=s
def aL(s:A:=by kernel_rfl):A:=s
def Z(s:A:=by omega):A:=s
end
def nd{A B:Prop}(h:B)(s:Hid B->A:=by intro hQ;(repeat (first|refine GW.ret ?_|refine lh ?_|refine lg ?_|refine bx ?_|refine ke ?_));exact hQ.1):A:=s ⟨h⟩
section
variable{A:Prop}
def abm(s:A:=by first|rfl|assumption):A:=s
def jE(s:A:=by rintro k _ _⟨rfl,rfl,_⟩;exact⟨rfl,rfl,rfl⟩):A:=s
def ja(s:A:=by exact⟨_,_,Wk.bb aD,rfl,rfl⟩):A:=s
def lK(s:A:=by exact⟨_,_,Wk.bb aD,rfl,rfl,rfl⟩):A:=s
def iF(s:A:=by refine X ?_;exact⟨_,_,Wk.bb aD,rfl,rfl⟩):A:=s
def eB(s:A:=by exact⟨rfl,rfl,rfl⟩):A:=s
end
def bA{A B:Prop}(h:B)(s:Hid B->A:=by intro hQ;refine av ?_;refine X ?_;exact hQ.1):A:=s ⟨h⟩
def dQ{A B:Prop}(h:B)(s:Hid B->A:=by intro hQ;refine X ?_;refine jx ?_;exact hQ.1):A:=s ⟨h⟩
def nR{A:Prop}(s:A:=by exact⟨⟨by omega,by omega⟩,by decide⟩):A:=s
def aS{A:Prop}(s:A:=by decide):A:=s
def aI:Nat->Nat->Ot->Ot
 |_,0,r=>r
 |s,n+1,r=>.q s (aI (s+1) n r)
def aaJ:List Nat->Ot->Ot
 |[],r=>r
 |i::l,r=>.q i (aaJ l r)
def aX{P:Program}{m id:Nat}{ol:List Oper}{Q:dF}{fr:am}{Γ:ap}(ord:Ot)(h:GO P ol.toArray (Q .normal) ord [] fr Γ)(hm:P.follows .mixedOrders=true:=by kernel_rfl)(uh:(Region.noSelect ol.toArray&&(ord.len==ol.length)&&tE ol.toArray ord (Array.replicate ol.toArray.size false))=true:=by kernel_rfl):GW P m (.region id ol.toArray true) Q fr Γ:=GW.draw ord hm uh h
end Go.Xg
namespace Go.Xw
open Go.Proofs Tryz
open Go.Xg (aL)
instance:gM prog 58:=⟨aL⟩
instance:gM prog 61:=⟨aL⟩
instance:gM prog 67:=⟨aL⟩
instance:gM prog 109:=⟨aL⟩
instance:gM prog 112:=⟨aL⟩
instance:gM prog 114:=⟨aL⟩
instance:gM prog 115:=⟨aL⟩
instance:gM prog 126:=⟨aL⟩
instance:gM prog 127:=⟨aL⟩
instance:gM prog 136:=⟨aL⟩
instance:gM prog 137:=⟨aL⟩
instance:gM prog 139:=⟨aL⟩
instance:gM prog 175:=⟨aL⟩
instance:gM prog 181:=⟨aL⟩
instance:gM prog 238:=⟨aL⟩
instance:gM prog 242:=⟨aL⟩
instance:Ty prog 3 false 1:=⟨aL,aL⟩
instance:p8 prog 3 (.int .i64 (0)):=⟨aL⟩
instance:Go.Xg.me prog 3 .i64:=⟨aL⟩
instance:Ty prog 4 false 1:=⟨aL,aL⟩
instance:Ty prog 5 false 1:=⟨aL,aL⟩
instance:Go.Xg.me prog 5 .u8:=⟨aL⟩
instance:Ty prog 9 false 1:=⟨aL,aL⟩
instance:qo prog 9:=⟨aL⟩
instance:Go.Xg.me prog 21 .i32:=⟨aL⟩
instance:Ty prog 22 false 1:=⟨aL,aL⟩
instance:Go.Xg.KG prog 22:=Go.Xg.KG.mk' (e:=5) (aL) (aL)
instance:lC prog 22 5 1:=⟨aL,aL⟩
instance:nS prog 22 5 1 [(.int .u8 (0))]:=⟨aL,aL,aL,rfl,by decide,fun _=>rfl⟩
instance:Ty prog 23 false 1:=⟨aL,aL⟩
instance:p8 prog 23 (.slice none 0 0):=⟨aL⟩
instance:lC prog 23 9 1:=⟨aL,aL⟩
instance:lP prog 23 9 1 16:=⟨aL⟩
instance:nS prog 23 9 1 [(.string ⟨#[]⟩)]:=⟨aL,aL,aL,rfl,by decide,fun _=>rfl⟩
instance:Ty prog 24 false 1:=⟨aL,aL⟩
instance:lC prog 24 79 2:=⟨aL,aL⟩
instance:lP prog 24 79 2 24:=⟨aL⟩
instance:nS prog 24 79 2 [(.string ⟨#[]⟩),(.int .i64 (0))]:=⟨aL,aL,aL,rfl,by decide,fun h=>by cases h⟩
instance:Ty prog 25 false 1:=⟨aL,aL⟩
instance:lC prog 25 53 3:=⟨aL,aL⟩
instance:lP prog 25 53 3 48:=⟨aL⟩
instance:nS prog 25 53 3 [(.string ⟨#[]⟩),(.slice none 0 0),(.int .i64 (0))]:=⟨aL,aL,aL,rfl,by decide,fun h=>by cases h⟩
instance:Ty prog 26 false 1:=⟨aL,aL⟩
instance:lC prog 26 82 5:=⟨aL,aL⟩
instance:lP prog 26 82 5 64:=⟨aL⟩
instance:nS prog 26 82 5 [(.int .i64 (0)),(.int .i64 (0)),(.int .i64 (0)),(.string ⟨#[]⟩),(.slice none 0 0)]:=⟨aL,aL,aL,rfl,by decide,fun h=>by cases h⟩
instance:Ty prog 28 true 4:=⟨aL,aL⟩
instance:p8 prog 28 (.agg #[(.slice none 0 0),(.slice none 0 0),(.slice none 0 0),(.slice none 0 0)]):=⟨aL⟩
instance:dr prog 28 0 0 1 false:=⟨aL⟩
instance:dr prog 28 1 1 1 false:=⟨aL⟩
instance:dr prog 28 2 2 1 false:=⟨aL⟩
instance:dr prog 28 3 3 1 false:=⟨aL⟩
instance:p6 prog 28 [(0,1),(1,1),(2,1),(3,1)] [(.slice none 0 0),(.slice none 0 0),(.slice none 0 0),(.slice none 0 0)]:=⟨aL,aL⟩
instance:Ty prog 29 false 1:=⟨aL,aL⟩
instance:p8 prog 29 (.slice none 0 0):=⟨aL⟩
instance:lC prog 29 3 1:=⟨aL,aL⟩
instance:lP prog 29 3 1 8:=⟨aL⟩
instance:nS prog 29 3 1 [(.int .i64 (0))]:=⟨aL,aL,aL,rfl,by decide,fun _=>rfl⟩
instance:Ty prog 33 true 6:=⟨aL,aL⟩
instance:p8 prog 33 (.agg #[(.int .i64 (0)),(.int .i64 (0)),(.int .i64 (0)),(.slice none 0 0),(.int .i64 (0)),(.slice none 0 0)]):=⟨aL⟩
instance:dr prog 33 0 0 1 false:=⟨aL⟩
instance:dr prog 33 1 1 1 false:=⟨aL⟩
instance:dr prog 33 2 2 1 false:=⟨aL⟩
instance:dr prog 33 3 3 1 false:=⟨aL⟩
instance:dr prog 33 4 4 1 false:=⟨aL⟩
instance:dr prog 33 5 5 1 false:=⟨aL⟩
instance:p6 prog 33 [(0,1),(1,1),(2,1),(3,1),(4,1),(5,1)] [(.int .i64 (0)),(.int .i64 (0)),(.int .i64 (0)),(.slice none 0 0),(.int .i64 (0)),(.slice none 0 0)]:=⟨aL,aL⟩
instance:Ty prog 53 true 3:=⟨aL,aL⟩
instance:p8 prog 53 (.agg #[(.string ⟨#[]⟩),(.slice none 0 0),(.int .i64 (0))]):=⟨aL⟩
instance:dr prog 53 0 0 1 false:=⟨aL⟩
instance:dr prog 53 1 1 1 false:=⟨aL⟩
instance:dr prog 53 2 2 1 false:=⟨aL⟩
instance:p6 prog 53 [(0,1),(1,1),(2,1)] [(.string ⟨#[]⟩),(.slice none 0 0),(.int .i64 (0))]:=⟨aL,aL⟩
instance:Ty prog 62 false 1:=⟨aL,aL⟩
instance:lC prog 62 29 1:=⟨aL,aL⟩
instance:lP prog 62 29 1 24:=⟨aL⟩
instance:nS prog 62 29 1 [(.slice none 0 0)]:=⟨aL,aL,aL,rfl,by decide,fun _=>rfl⟩
instance:dr prog 64 0 0 4 true:=⟨aL⟩
instance:dr prog 64 1 4 1 false:=⟨aL⟩
instance:dr prog 64 2 5 1 false:=⟨aL⟩
instance:dr prog 64 3 6 1 false:=⟨aL⟩
instance:dr prog 64 4 7 6 true:=⟨aL⟩
instance:dr prog 64 5 13 1 false:=⟨aL⟩
instance:dr prog 64 6 14 1 false:=⟨aL⟩
instance:p6 prog 64 [(0,4),(4,1),(5,1),(6,1),(7,6),(13,1),(14,1)] [(.slice none 0 0),(.slice none 0 0),(.slice none 0 0),(.slice none 0 0),(.slice none 0 0),(.slice none 0 0),(.int .i64 (0)),(.int .i64 (0)),(.int .i64 (0)),(.int .i64 (0)),(.slice none 0 0),(.int .i64 (0)),(.slice none 0 0),(.slice none 0 0),(.int .i64 (0))]:=⟨aL,aL⟩
instance:dr prog 68 0 0 4 true:=⟨aL⟩
instance:dr prog 68 1 4 1 false:=⟨aL⟩
instance:dr prog 68 2 5 1 false:=⟨aL⟩
instance:dr prog 68 3 6 6 true:=⟨aL⟩
instance:dr prog 68 4 12 1 false:=⟨aL⟩
instance:dr prog 68 5 13 1 false:=⟨aL⟩
instance:dr prog 68 6 14 1 false:=⟨aL⟩
instance:p6 prog 68 [(0,4),(4,1),(5,1),(6,6),(12,1),(13,1),(14,1)] [(.slice none 0 0),(.slice none 0 0),(.slice none 0 0),(.slice none 0 0),(.slice none 0 0),(.int .i64 (0)),(.int .i64 (0)),(.int .i64 (0)),(.int .i64 (0)),(.slice none 0 0),(.int .i64 (0)),(.slice none 0 0),(.slice none 0 0),(.slice none 0 0),(.int .i64 (0))]:=⟨aL,aL⟩
instance:Ty prog 79 true 2:=⟨aL,aL⟩
instance:p8 prog 79 (.agg #[(.string ⟨#[]⟩),(.int .i64 (0))]):=⟨aL⟩
instance:dr prog 79 0 0 1 false:=⟨aL⟩
instance:dr prog 79 1 1 1 false:=⟨aL⟩
instance:p6 prog 79 [(0,1),(1,1)] [(.string ⟨#[]⟩),(.int .i64 (0))]:=⟨aL,aL⟩
instance:Ty prog 82 true 5:=⟨aL,aL⟩
instance:p8 prog 82 (.agg #[(.int .i64 (0)),(.int .i64 (0)),(.int .i64 (0)),(.string ⟨#[]⟩),(.slice none 0 0)]):=⟨aL⟩
instance:dr prog 82 0 0 1 false:=⟨aL⟩
instance:dr prog 82 1 1 1 false:=⟨aL⟩
instance:dr prog 82 2 2 1 false:=⟨aL⟩
instance:dr prog 82 3 3 1 false:=⟨aL⟩
instance:dr prog 82 4 4 1 false:=⟨aL⟩
instance:p6 prog 82 [(0,1),(1,1),(2,1),(3,1),(4,1)] [(.int .i64 (0)),(.int .i64 (0)),(.int .i64 (0)),(.string ⟨#[]⟩),(.slice none 0 0)]:=⟨aL,aL⟩
instance:Ty prog 83 false 1:=⟨aL,aL⟩
instance:Ty prog 87 false 1:=⟨aL,aL⟩
instance:lC prog 87 89 6:=⟨aL,aL⟩
instance:lP prog 87 89 6 88:=⟨aL⟩
instance:nS prog 87 89 6 [(.int .i64 (0)),(.int .i64 (0)),(.int .i64 (0)),(.string ⟨#[]⟩),(.slice none 0 0),(.slice none 0 0)]:=⟨aL,aL,aL,rfl,by decide,fun h=>by cases h⟩
instance:Ty prog 89 true 6:=⟨aL,aL⟩
instance:p8 prog 89 (.agg #[(.int .i64 (0)),(.int .i64 (0)),(.int .i64 (0)),(.string ⟨#[]⟩),(.slice none 0 0),(.slice none 0 0)]):=⟨aL⟩
instance:dr prog 89 0 0 5 true:=⟨aL⟩
instance:dr prog 89 1 5 1 false:=⟨aL⟩
instance:p6 prog 89 [(0,5),(5,1)] [(.int .i64 (0)),(.int .i64 (0)),(.int .i64 (0)),(.string ⟨#[]⟩),(.slice none 0 0),(.slice none 0 0)]:=⟨aL,aL⟩
instance:Ty prog 97 false 1:=⟨aL,aL⟩
instance:lC prog 97 132 1:=⟨aL,aL⟩
instance:lP prog 97 132 1 8:=⟨aL⟩
instance:nS prog 97 132 1 [(.pointer none)]:=⟨aL,aL,aL,rfl,by decide,fun _=>rfl⟩
instance:dr prog 115 0 0 1 false:=⟨aL⟩
instance:dr prog 115 1 1 1 false:=⟨aL⟩
instance:dr prog 115 2 2 1 false:=⟨aL⟩
instance:p6 prog 115 [(0,1),(1,1),(2,1)] [(.slice none 0 0),(.int .i64 (0)),(.int .i64 (0))]:=⟨aL,aL⟩
instance:Ty prog 127 false 1:=⟨aL,aL⟩
instance:p8 prog 127 .nilFunc:=⟨aL⟩
instance:Ty prog 132 false 1:=⟨aL,aL⟩
instance:Ty prog 135 false 1:=⟨aL,aL⟩
instance:Ty prog 136 false 1:=⟨aL,aL⟩
instance:Ty prog 137 false 1:=⟨aL,aL⟩
instance:lC prog 137 205 4:=⟨aL,aL⟩
instance:lP prog 137 205 4 40:=⟨aL⟩
instance:nS prog 137 205 4 [(.int .i64 (0)),(.int .i64 (0)),(.string ⟨#[]⟩),(.int .i64 (0))]:=⟨aL,aL,aL,rfl,by decide,fun h=>by cases h⟩
instance:dr prog 155 0 0 4 true:=⟨aL⟩
instance:dr prog 155 1 4 1 false:=⟨aL⟩
instance:dr prog 155 2 5 1 false:=⟨aL⟩
instance:dr prog 155 3 6 1 false:=⟨aL⟩
instance:p6 prog 155 [(0,4),(4,1),(5,1),(6,1)] [(.slice none 0 0),(.slice none 0 0),(.slice none 0 0),(.slice none 0 0),(.slice none 0 0),(.int .i64 (0)),(.int .i64 (0))]:=⟨aL,aL⟩
instance:dr prog 172 0 0 1 false:=⟨aL⟩
instance:dr prog 172 1 1 1 false:=⟨aL⟩
instance:dr prog 172 2 2 1 false:=⟨aL⟩
instance:dr prog 172 3 3 1 false:=⟨aL⟩
instance:dr prog 172 4 4 1 false:=⟨aL⟩
instance:p6 prog 172 [(0,1),(1,1),(2,1),(3,1),(4,1)] [(.slice none 0 0),(.int .i64 (0)),(.int .i64 (0)),(.int .i64 (0)),(.int .i64 (0))]:=⟨aL,aL⟩
instance:dr prog 181 0 0 1 false:=⟨aL⟩
instance:dr prog 181 1 1 1 false:=⟨aL⟩
instance:dr prog 181 2 2 1 false:=⟨aL⟩
instance:p6 prog 181 [(0,1),(1,1),(2,1)] [(.slice none 0 0),(.bool false),(.int .i64 (0))]:=⟨aL,aL⟩
instance:dr prog 185 0 0 1 false:=⟨aL⟩
instance:dr prog 185 1 1 1 false:=⟨aL⟩
instance:dr prog 185 2 2 1 false:=⟨aL⟩
instance:p6 prog 185 [(0,1),(1,1),(2,1)] [(.slice none 0 0),(.bool false),(.int .i64 (0))]:=⟨aL,aL⟩
instance:dr prog 191 0 0 5 true:=⟨aL⟩
instance:dr prog 191 1 5 1 false:=⟨aL⟩
instance:p6 prog 191 [(0,5),(5,1)] [(.int .i64 (0)),(.int .i64 (0)),(.int .i64 (0)),(.string ⟨#[]⟩),(.slice none 0 0),(.slice none 0 0)]:=⟨aL,aL⟩
instance:Ty prog 194 true 2:=⟨aL,aL⟩
instance:p8 prog 194 (.agg #[.nilFunc,.nilFunc]):=⟨aL⟩
instance:dr prog 194 0 0 1 false:=⟨aL⟩
instance:dr prog 194 1 1 1 false:=⟨aL⟩
instance:p6 prog 194 [(0,1),(1,1)] [.nilFunc,.nilFunc]:=⟨aL,aL⟩
instance:Ty prog 205 true 4:=⟨aL,aL⟩
instance:p8 prog 205 (.agg #[(.int .i64 (0)),(.int .i64 (0)),(.string ⟨#[]⟩),(.int .i64 (0))]):=⟨aL⟩
instance:dr prog 205 0 0 1 false:=⟨aL⟩
instance:dr prog 205 1 1 1 false:=⟨aL⟩
instance:dr prog 205 2 2 1 false:=⟨aL⟩
instance:dr prog 205 3 3 1 false:=⟨aL⟩
instance:p6 prog 205 [(0,1),(1,1),(2,1),(3,1)] [(.int .i64 (0)),(.int .i64 (0)),(.string ⟨#[]⟩),(.int .i64 (0))]:=⟨aL,aL⟩
instance:dr prog 210 0 0 1 false:=⟨aL⟩
instance:dr prog 210 1 1 1 false:=⟨aL⟩
instance:dr prog 210 2 2 1 false:=⟨aL⟩
instance:dr prog 210 3 3 1 false:=⟨aL⟩
instance:dr prog 210 4 4 1 false:=⟨aL⟩
instance:dr prog 210 5 5 1 false:=⟨aL⟩
instance:dr prog 210 6 6 4 true:=⟨aL⟩
instance:p6 prog 210 [(0,1),(1,1),(2,1),(3,1),(4,1),(5,1),(6,4)] [(.slice none 0 0),(.int .i64 (0)),(.int .i64 (0)),(.int .i64 (0)),(.int .i64 (0)),(.slice none 0 0),(.slice none 0 0),(.slice none 0 0),(.slice none 0 0),(.slice none 0 0)]:=⟨aL,aL⟩
instance:lC prog 232 23 1:=⟨aL,aL⟩
instance:nS prog 232 23 1 [(.slice none 0 0)]:=⟨aL,aL,aL,rfl,by decide,fun _=>rfl⟩
instance:Ty prog 244 false 1:=⟨aL,aL⟩
instance:p8 prog 246 (.agg #[(.pointer none),(.slice none 0 0)]):=⟨aL⟩
instance:dr prog 246 0 0 1 false:=⟨aL⟩
instance:dr prog 246 1 1 1 false:=⟨aL⟩
instance:Go.Xg.me prog 269 .u32:=⟨aL⟩
end Go.Xw
set_option maxHeartbeats 1000000
namespace Go.Xg
open Go.RowKit Go.Xw Go.Proofs Tryz Go.Sp
open Go.Xp (Tok dL)
attribute [local irreducible] GW GL GO V GC GA bh bm
def db(t:Tok):am:=[y4 t.aj,y4 t.n,.v (sv t.s),y4 t.at_]
def OD(t:Tok):GF prog 222 [.agg (db t)] [] (.v (sv (dL t))) []:=by
 refine ah func222 ntmps222 ?_;refine GW.cond rfl (fun h=>?_) (fun h=>?_)
 ·refine zdy ?_
  have h:t.aj≠3:=by simpa using h
  rw[dL,ab h];exact zai
 ·refine zdy ?_
  have h:t.aj=3:=by simpa using h
  rw[dL,ae h];exact zai
abbrev ic(l:List Tok):GV:=.sl 4 (l.map db)
abbrev cj(p:RS):Ob:=.box 172 [ic p.l,y4 p.i,y4 p.e,y4 p.code,y4 p.at_]
def kX{l:List Tok}{i:Nat}{t:Tok}(h:l[i]?=some t):(l.map db)[i]?=some (db t):=by rw[b6,h];rfl
def j0(p:RS)(R:p.ok):GF prog 172 [.loc 0 0] [cj p] (y4 p.place) [cj p]:=by
 have⟨E,w⟩:=R
 cases H:p.l[p.i]? with
 |some t =>
  have k:=kX H;have j:p.i<p.l.length:=(bG H).1
  have n:decide ((p.i:Int)<((p.l.map db).length:Int))=true:=by simpa using j
  refine ah func172 ntmps172 ?_;refine zaL ?_;refine aX (aI 0 12 .nil) ?_;refine bA ?_;refine ct ?_;rw[RS.place,H];exact zai
 |none =>
  have j:p.l.length<=p.i:=oK H
  have n:decide ((p.i:Int)<((p.l.map db).length:Int))=false:=by simpa using j
  refine ah func172 ntmps172 ?_;refine zaL ?_;refine ct ?_;rw[RS.place,H];exact zai
open GV (U)
def di(p:RS)(k:Nat)(R:p.ok)(G:k<=1):GF prog 168 [.loc 0 0,y4 k] [cj p] (.v (sv (p.aH k))) [cj p]:=by
 have⟨E,w⟩:=R
 by_cases o:p.code=0
 ·have C:(p.code != 0)=false:=by simpa using o
  cases H:p.l[p.i+k]? with
  |some t =>
   have m:=kX H;have j:p.i+k<p.l.length:=(bG H).1
   have n:decide (((p.l.map db).length:Int)<=((p.i+k:Nat):Int))=false:=by simp;omega
   refine ah func168 ntmps168 ?_;refine aX (aI 0 19 .nil) ?_;refine bA ?_;refine aX (aI 0 12 (.a 12 (.q 13 .nil))) ?_;refine av ?_;refine aN [] (OD t) ?_;refine zdy ?_;rw[RS.aH,ae o,H];exact zai
  |none =>
   have j:p.l.length<=p.i+k:=oK H
   have n:decide (((p.l.map db).length:Int)<=((p.i+k:Nat):Int))=true:=by simp;omega
   refine ah func168 ntmps168 ?_;refine aX (aI 0 19 .nil) ?_;refine bA ?_;refine ct ?_;rw[RS.aH,ae o,H];exact zai
 ·have C:(p.code != 0)=true:=by simpa using o
  refine ah func168 ntmps168 ?_;refine aX (aI 0 19 .nil) ?_;refine bA ?_;refine ct ?_;rw[RS.aH,ab o];exact zai
def kg(p:RS)(c a:Int):GF prog 171 [.loc 0 0,y4 c,y4 a] [cj p] (.tup []) [cj (p.fail c a)]:=by
 refine ah func171 ntmps171 ?_;refine GW.cond rfl (fun h=>?_) (fun h=>?_)
 ·refine X ?_;refine eC ?_
  have h:p.code=0:=by simpa using h
  rw[RS.fail,ae h];exact zai
 ·refine X ?_;refine eC ?_
  have h:¬p.code=0:=by simpa using h
  rw[RS.fail,ab h];exact zai
def cY(p:RS)(s:ai)(R:p.ok)(o:s≠[]):GF prog 223 [.loc 0 0,.v (sv s)] [cj p] (.tup []) [cj (p.ba s)]:=by
 refine ah func223 ntmps223 ?_;refine jw [0] (di p 0 R aS) ?_
 by_cases h:p.aH 0=s
 ·have W:(!(p.aH 0==s))=false:=by simp[h]
  have b:=(dw h o).1;have⟨E,w⟩:=R;refine X ?_;refine eC ?_;rw[RS.ba,ae h];exact zai
 ·have W:(!(p.aH 0==s))=true:=by simpa using h
  refine X ?_;refine D [0] (j0 p R) ?_;refine D [0] (kg p 7 p.place) ?_;refine eC ?_;rw[RS.ba,ab h];exact zai
open Go.Xp (T one levels)
def ur(p:RS)(d:Nat)(R:p.ok):GF prog 262 [.loc 0 0,y4 d] [cj p] (.tup []) [cj (p.aY d)]:=by
 by_cases h:d>60
 ·have W:decide ((60:Int)<(d:Int))=true:=by simp;omega
  refine ah func262 ntmps262 ?_;refine D [0] (j0 p R) ?_;refine D [0] (kg p 9 p.place) ?_;refine eC ?_;rw[RS.aY,ae h];exact zai
 ·have W:decide ((60:Int)<(d:Int))=false:=by simp;omega
  refine ah func262 ntmps262 ?_;refine eC ?_;rw[RS.aY,ab h];exact zai
def ou(p:RS)(R:p.ok):GF prog 224 [.loc 0 0] [cj p] (.v (sv p.name.1)) [cj p.name.2]:=by
 have⟨E,w⟩:=id R
 by_cases o:p.code=0
 ·have C:(p.code != 0)=false:=by simpa using o
  cases H:p.l[p.i]? with
  |some t =>
   have k:=kX H;have j:p.i<p.l.length:=(bG H).1
   have n:decide (((p.l.map db).length:Int)<=(p.i:Int))=false:=by simp;omega
   by_cases G:t.aj=2
   ·have N:(t.aj != 2)=false:=by simpa using G
    by_cases q:t.s.length>12
    ·have M:decide ((12:Int)<(t.s.length:Int))=true:=by simp;omega
     refine ah func224 ntmps224 ?_;refine aX (aI 0 24 .nil) ?_;refine bA ?_;refine zcO ?_;refine D [0] (kg p 8 t.at_) ?_;refine ct ?_;rw[RS.name,ae o,H];simp only[ae G,ae q];exact zai
    ·have M:decide ((12:Int)<(t.s.length:Int))=false:=by simp;omega
     refine ah func224 ntmps224 ?_;refine aX (aI 0 24 .nil) ?_;refine bA ?_;refine zcO ?_;refine ct ?_;rw[RS.name,ae o,H];simp only[ae G,ab q];exact zai
   ·have N:(t.aj != 2)=true:=by simpa using G
    refine ah func224 ntmps224 ?_;refine zdc ?_;simp only[ab G];exact zai
  |none =>
   have j:p.l.length<=p.i:=oK H
   have n:decide (((p.l.map db).length:Int)<=(p.i:Int))=true:=by simp;omega
   refine ah func224 ntmps224 ?_;refine zdc ?_;exact zai
 ·have C:(p.code != 0)=true:=by simpa using o
  refine ah func224 ntmps224 ?_;refine ct ?_;rw[RS.name,ab o];exact zai
abbrev ints(l:List Int):GV:=.sl 1 (l.map fun i=>[y4 i])
abbrev strs(l:List ai):GV:=.sl 1 (l.map fun s=>[.v (sv s)])
mutual
def UK:T->am
 |.mk n k=>[.v (ii n.aj),.v (ii n.at_),.v (ii n.n),.v (sv n.s),ints n.au,.sl 6 (aR k)]
def aR:List T->List am
 |[]=>[]
 |t::r=>UK t::aR r
end
abbrev cT(t:T):am:=[y4 t.n.aj,y4 t.n.at_,y4 t.n.n,.v (sv t.n.s),ints t.n.au,.sl 6 (aR t.au)]
def sH(t:T):UK t=cT t:=by
 cases t;rfl
def iJ(k a:Int)(s:ai)(l:List T)(rows:List am)(h:aR l=rows):GF prog 263 [y4 k,y4 a,.v (sv s),.sl 6 rows] [] (.agg (cT (one k a s l))) []:=by
 subst h;refine ah func263 ntmps263 ?_;exact zd4
def jZ:GF prog 225 [] [] (.sl 1 (levels.map fun l=>[strs l])) []:=by
 refine ah func225 ntmps225 ?_
 iterate 10 (refine b9 ?_)
 exact aC
def Dn{xs:List ai}{k:Nat}{s x:ai}(h:xs[k]?=some x):(xs.take (k+1)).contains s=((xs.take k).contains s ||(x==s)):=by
 rw[dI,h,List.contains_append];show(_ ||[x].contains s)=_
 congr 1
 rw[List.contains_cons,List.contains_nil,Bool.or_false];exact Bool.beq_comm
def jO(xs:List ai)(s:ai)(W:xs.length<=1099511627776):GF prog 58 [strs xs,.v (sv s)] [] (.v (.bool (xs.contains s))) []:=by
 refine ah func58 ntmps58 ?_;refine GW.range (xs.map fun s=>[GV.v (sv s)]).length (fun k q c=>q=[strs xs,.v (sv s),U,U,U,U,U,strs xs,y4 ((xs.map fun s=>[GV.v (sv s)]).length:Int),y4 k,U,U,U,U,U,U,U]/\c=[]/\(xs.take k).contains s=false) ?_ zfC ?_ ?_ ?_
 ·exact lK
 ·exact jE
 ·rintro k _ _ i⟨rfl,rfl,o⟩
  have i:k<xs.length:=by simpa using i
  have hx:xs[k]?=some xs[k]:=by simp[i]
  have j:(xs.map fun s=>[GV.v (sv s)])[k]?=some [.v (sv xs[k])]:=by simp[i]
  have M:=Dn (s:=s) hx;refine X ?_;refine GW.cond rfl (fun w=>?_) (fun w=>?_)
  ·refine zdy ?_
   have I:xs[k]=s:=by simpa using w
   have:s∈xs:=by rw[<-I];exact getElem_mem _
   refine⟨?_,rfl⟩;show GV.v (.bool true)=_;rw[sB.2 this]
  ·refine X ?_;exact⟨rfl,rfl,_,_,Wk.bb aD,rfl,rfl,by rw[M,o,w];rfl⟩
 ·rintro _ _⟨rfl,rfl,o⟩;refine zdy ?_
  have o:xs.contains s=false:=by simpa using o
  refine⟨?_,rfl⟩;show GV.v (.bool false)=_;rw[o]
end Go.Xg
namespace Go.Xg
open Go.RowKit Go.Xw
section
variable{P:Program}{m:Nat}{Q:dF}{fr:am}{Γ:ap}
theorem GW.DC{c y:Code}{B:Nat}(K:am->ap->Prop)(z:GW P m c (bm B (bh (yH m K) Q)) fr Γ)(v:∀fr Γ,K fr Γ->GW P m y Q fr Γ):GW P m c (bm B (bh (GW P m y Q) Q)) fr Γ:=by
 refine z.mono fun e fr Γ T=>?_
 have d:∀fr Γ,yH m K fr Γ->GW P m y Q fr Γ:=fun fr Γ ⟨W,t,i,G⟩=>GW.wk i (v _ _ G)
 cases e with
 |normal=>exact d _ _ T
 |exit n =>
  grind[bm,bh,GW]
 |_=>exact T
end
section
variable{P:Program}{fn:Func}{m:Nat}{R:GV->ap->Prop}{fr:am}{Γ:ap}{e:Exit}
theorem XE{n:Nat}{t u:Tmp}{T:TypeId}{k:Nat}[hT:Ty P T true k]{i:Nat}{E:TypeId}{cs:am}{g:GV}(O:fn.results=#[.cell t T,.tmp u])(I:e=.normal\/e=.ret)(hg:cQ fr t=.loc i 0)(s:Γ[i]?=some (.box E cs))(hk:cs.length=k)(d:cQ fr u=g)
  (hm:m<=n)(J:tD n (Γ.take n)=true)(q:(GV.tup [.agg cs,g]).lt n=true)(h:R (.tup [.agg cs,g]) (Γ.take n)):tl P fn m R e fr Γ :=
 ⟨I,fun B K G w l hB C A=>by
  have⟨b,vs,W,h2,z,h4⟩:=C.ob i _ s
  have M:nth l t=.pointer (some ⟨b,0,none⟩):=by
   have:=A.nth t;rw[hg]at this;generalize nth l t=v at this
   cases this with
   |loc _ _ S H=>grind
  have N:l.toArray.getD t undef=.pointer (some ⟨b,0,none⟩):=by rw[jJ,M]
  have r:=mQ (P:=P) (w:=w) (t:=T) (b:=b) (o:=0) (vs:=vs) (k:=k) Z (fun j v hj=>by
   grind[World.cell?])
  have c:l[t]?.getD undef=.pointer (some ⟨b,0,none⟩):=by simp_all
  refine⟨.tuple #[.agg vs.toArray,nth l u],K,dH (below n) G,.tup [.agg cs,g],Γ.take n,?_,C.cut Z J,?_,h⟩
  ·rw[<-jJ l u];simp[results,O,c,asAddr,r]
  ·refine Rel.res ?_ q;subst d;have F:bJ K G [.agg vs.toArray,nth l u] [.agg cs,cQ fr u]:=.cons (.agg vs cs z.1 z.2) (.cons (A.nth u) .nil)
   exact .tup _ _ F.1 F.2⟩
theorem LZ{n:Nat}{t u s:Tmp}{T:TypeId}{k:Nat}[hT:Ty P T true k]{i:Nat}{E:TypeId}{cs:am}{g d:GV}(hr:fn.results=#[.cell t T,.tmp u,.tmp s])(N:e=.normal\/e=.ret)(hg:cQ fr t=.loc i 0)(F:Γ[i]?=some (.box E cs))(hk:cs.length=k)(r:cQ fr u=g)(z:cQ fr s=d)
  (hm:m<=n)(O:tD n (Γ.take n)=true)(A:(GV.tup [.agg cs,g,d]).lt n=true)(h:R (.tup [.agg cs,g,d]) (Γ.take n)):tl P fn m R e fr Γ :=
 ⟨N,fun B K J w l hB H q=>by
  have⟨b,vs,h1,h2,G,h4⟩:=H.ob i _ F
  have S:nth l t=.pointer (some ⟨b,0,none⟩):=by
   have:=q.nth t;rw[hg]at this;generalize nth l t=v at this
   cases this with
   |loc _ _ b' M=>grind
  have W:l.toArray.getD t undef=.pointer (some ⟨b,0,none⟩):=by rw[jJ,S]
  have C:=mQ (P:=P) (w:=w) (t:=T) (b:=b) (o:=0) (vs:=vs) (k:=k) Z (fun j v hj=>by
   grind[World.cell?])
  have c:l[t]?.getD undef=.pointer (some ⟨b,0,none⟩):=by simp_all
  refine⟨.tuple #[.agg vs.toArray,nth l u,nth l s],K,dH (below n) J,.tup [.agg cs,g,d],Γ.take n,?_,H.cut Z O,?_,h⟩
  ·rw[<-jJ l u,<-jJ l s];simp[results,hr,c,asAddr,C]
  ·refine Rel.res ?_ A;subst r z;have I:bJ K J [.agg vs.toArray,nth l u,nth l s] [.agg cs,cQ fr u,cQ fr s]:=.cons (.agg vs cs G.1 G.2) (.cons (q.nth u) (.cons (q.nth s) .nil))
   exact .tup _ _ I.1 I.2⟩
end
open Go.Proofs Tryz Go.Sp
open GV (U)
attribute [local irreducible] GW GL GO V GC GA bh bm
abbrev CA(c:UInt8):GV:=.v (.int .u8 (c.toNat:Int))
def wh(c:UInt8):GF prog 185 [CA c] [] (.v (.bool (small c))) []:=by
 unfold small;refine ef func185 ntmps185 ?_
 cases h:decide ((97:Int)<=(c.toNat:Int))
 all_goals
  exact aC
def wg(c:UInt8):GF prog 240 [CA c] [] (.v (.bool (eF c))) []:=by
 unfold eF;refine ef func240 ntmps240 ?_
 cases h:decide ((48:Int)<=(c.toNat:Int))
 all_goals
  exact aC
def CU(c:UInt8):GF prog 184 [CA c] [] (.v (.bool (fB c))) []:=by
 unfold fB;have o:=wh c;have n:=wg c;generalize small c=i at *;generalize eF c=T at *;refine ah func184 ntmps184 ?_;refine jw [] o ?_
 cases i with
 |true =>
  exact aC
 |false =>
  cases z:decide ((65:Int)<=(c.toNat:Int))with
  |true =>
   cases w:decide ((c.toNat:Int)<=90)with
   |true =>
    exact aC
   |false =>
    refine X ?_;refine jw [] n ?_
    cases T with
    |true =>
     exact aC
    |false =>
     exact aC
  |false =>
   refine X ?_;refine jw [] n ?_
   cases T with
   |true =>
    exact aC
   |false =>
    exact aC
def py(s t:ai)(a:Nat)(o:s.length<=1152921504606846976)(H:t.length<=1152921504606846976)(ha:a<=1152921504606846976) :
  GF prog 290 [.v (sv s),y4 (a:Nat),.v (sv t)] [] (.v (.bool (cr s a t))) []:=by
 by_cases h:a+t.length<=s.length
 ·have W:decide (((a+t.length:Nat):Int)<=(s.length:Int))=true:=by simpa using by omega
  refine ah func290 ntmps290 ?_;refine ct ?_;unfold cr;rw[decide_eq_true h];exact zai
 ·have W:decide (((a+t.length:Nat):Int)<=(s.length:Int))=false:=by simpa using by omega
  refine ah func290 ntmps290 ?_;refine ct ?_;unfold cr;rw[decide_eq_false h];exact zai
def A6(s:ai)(a:Nat)(hs:s.length<=1099511627776)(ha:a<=s.length) :
  GF prog 220 [.v (sv s),y4 (a:Nat)] [] (.tup [y4 ((skip s (s.length+1) a).1:Nat),.v (ii (skip s (s.length+1) a).2)]) []:=by
 generalize T:skip s (s.length+1) a=R;refine ah func220 ntmps220 ?_;refine GW.loop (fun x:Nat × Nat=>x.1) (fun x t z=>t=.v (sv s)::y4 (x.2:Nat)::zU 61 []/\z=[]/\x.2<=s.length/\s.length<x.1+x.2/\skip s x.1 x.2=R) (s.length+1,a) ?_ ?_
 ·exact⟨_,_,Wk.bb aD,rfl,rfl,ha,by simp;omega,T⟩
 ·rintro⟨f,a⟩_ _⟨rfl,rfl,ha,hf,h⟩;simp only at ha hf h
  cases f with
  |zero=>omega
  |succ f =>
  rw[skip]at h
  cases A:s[a]? with
  |none =>
   rw[A]at h;simp only at h;subst h;have M:s.length<=a:=oK A
   have W:decide ((a:Int)<(s.length:Int))=false:=by simpa using M
   refine dQ ?_;exact kC
  |some c =>
   rw[A]at h;simp only at h;have N:a<s.length:=(bG A).1
   have W:decide ((a:Int)<(s.length:Int))=true:=by simpa using N
   have r:fq c=(((c.toNat:Int)==32) ||((c.toNat:Int)==9) ||((c.toNat:Int)==10) ||((c.toNat:Int)==13)):=rfl
   by_cases d:fq c=true
   ·rw[ae d]at h;rw[r]at d;have n:((c.toNat:Int)==32)=true\/(((c.toNat:Int)==32)=false/\((c.toNat:Int)==9)=true)\/(((c.toNat:Int)==32)=false/\((c.toNat:Int)==9)=false/\((c.toNat:Int)==10)=true) \/
      (((c.toNat:Int)==32)=false/\((c.toNat:Int)==9)=false/\((c.toNat:Int)==10)=false/\((c.toNat:Int)==13)=true):=by
     generalize((c.toNat:Int)==32)=C at *;generalize((c.toNat:Int)==9)=E at *;generalize((c.toNat:Int)==10)=F at *;generalize((c.toNat:Int)==13)=G at *;clear r
     revert d;cases C<;>cases E<;>cases F<;>cases G<;>simp
    clear r d
    rcases n with B|⟨B,O⟩|⟨B,O,S⟩|⟨B,O,S,k4⟩
    all_goals
     refine dQ ?_;exact⟨(f,a+1),⟨_,_,Wk.bb aD,rfl,rfl,by simp only;omega,by simp only;omega,h⟩,by simp⟩
   ·rw[ab d]at h;rw[r]at d
    have n:((c.toNat:Int)==32)=false/\((c.toNat:Int)==9)=false/\((c.toNat:Int)==10)=false/\((c.toNat:Int)==13)=false:=by
     generalize((c.toNat:Int)==32)=C at *;generalize((c.toNat:Int)==9)=E at *;generalize((c.toNat:Int)==10)=F at *;generalize((c.toNat:Int)==13)=G at *;clear r
     revert d;cases C<;>cases E<;>cases F<;>cases G<;>simp
    clear r d;have⟨B,O,S,k4⟩:=n
    by_cases l:cr s a [47,42]=true
    ·rw[ae l]at h;have d:=lT l;have d:a+2<=s.length:=d
     have H:(!cr s a [47,42])=false:=by rw[l];rfl
     try simp only at h
     generalize Q:im s s.length (a+2)=e at h;refine X ?_;refine D [] (py s [47,42] a Z aS Z) ?_;have o:=rv s s.length (a+2) Z Z;have I:=sk s s.length (a+2) Z;rw[Q]at o I;refine GW.DC (fun t z=>t=.v (sv s)::y4 (a:Nat)::U::U::U::U::y4 (e:Nat)::zU 56 []/\z=[]) ?_ ?_
     ·refine GW.loop (fun x:Nat × Nat=>x.1) (fun x t z=>t=.v (sv s)::y4 (a:Nat)::U::U::U::U::y4 (x.2:Nat)::zU 56 []/\z=[]/\x.2<=s.length/\im s x.1 x.2=e) (s.length,a+2) ?_ ?_
      ·exact⟨_,_,Wk.bb aD,rfl,rfl,by simp only;omega,Q⟩
      ·rintro⟨g,k⟩_ _⟨rfl,rfl,m,i⟩;simp only at m i
       by_cases j:k<s.length
       ·have J:decide ((k:Int)<(s.length:Int))=true:=by simpa using j
        cases b:cr s k [42,47]with
        |true =>
         have u:(!cr s k [42,47])=false:=by rw[b];rfl
         have q:k=e:=by
          cases g with
          |zero=>exact i
          |succ g=>rw[im,ab (by rw[b];simp)]at i;exact i
         subst q;refine X ?_;refine D [] (py s [42,47] k Z aS Z) ?_;refine jx ?_;exact ja
        |false =>
         have u:(!cr s k [42,47])=true:=by rw[b];rfl
         cases g with
         |zero=>exact absurd ⟨by rw[<-i];exact j,by rw[<-i];exact b⟩ o
         |succ g =>
          rw[im,ae ⟨j,b⟩]at i;refine X ?_;refine D [] (py s [42,47] k Z aS Z) ?_;exact⟨(g,k+1),⟨_,_,Wk.bb aD,rfl,rfl,j,i⟩,by simp⟩
       ·have J:decide ((k:Int)<(s.length:Int))=false:=by simp;omega
        have q:k=e:=by
         cases g with
         |zero=>exact i
         |succ g=>rw[im,ab (fun hh=>j hh.1)]at i;exact i
        subst q;refine dQ ?_;exact ja
     ·rintro _ _⟨rfl,rfl⟩
      by_cases m:s.length<=e
      ·rw[ae m]at h
       have w:decide ((s.length:Int)<=(e:Int))=true:=by simpa using m
       subst h;exact kC
      ·rw[ab m]at h
       have w:decide ((s.length:Int)<=(e:Int))=false:=by simp;omega
       have b:cr s e [42,47]=true:=by
        cases b:cr s e [42,47]with
        |true=>rfl
        |false=>exact absurd ⟨by omega,b⟩ o
       have b:=lT b;have b:e+2<=s.length:=b;refine dQ ?_;exact⟨(f,e+2),⟨_,_,Wk.bb aD,rfl,rfl,b,by simp only;omega,h⟩,by simp⟩
    ·rw[ab l]at h
     have H:(!cr s a [47,42])=true:=by simpa using l
     subst h;refine X ?_;refine D [] (py s [47,42] a Z aS Z) ?_;exact c8
def wj:GF prog 117 [] [] (strs words) []:=by
 refine ah func117 ntmps117 ?_;refine b9 ?_;exact aC
def JY:GF prog 292 [] [] (strs cE) []:=by
 refine ah func292 ntmps292 ?_;refine b9 ?_;exact aC
def MC(s:ai)(t:s.length<=1099511627776):GF prog 116 [.v (sv s)] [] (.v (.bool (word s))) []:=by
 refine ah func116 ntmps116 ?_;refine GW.loop (fun a:Nat=>s.length-a) (fun a q d=>q=.v (sv s)::U::U::y4 (a:Nat)::zU 18 []/\d=[]/\a<=s.length/\(s.take a).all fB=true) 0 ?_ ?_
 ·exact⟨_,_,Wk.bb aD,rfl,rfl,bj _,rfl⟩
 ·rintro a _ _⟨rfl,rfl,S,W⟩
  cases o:s[a]? with
  |some c =>
   have i:a<s.length:=(bG o).1
   have n:decide ((a:Int)<(s.length:Int))=true:=by simpa using i
   have N:(s.take (a+1)).all fB=((s.take a).all fB&&fB c):=by
    rw[dI,o,List.all_append];simp
   have R:=CU c
   cases Q:fB c with
   |true =>
    rw[Q]at R;refine X ?_;refine D [] R ?_;exact⟨a+1,⟨_,_,Wk.bb aD,rfl,rfl,i,by rw[N,W,Q];rfl⟩,by omega⟩
   |false =>
    rw[Q]at R;refine X ?_;refine D [] R ?_;refine ct ?_;refine⟨?_,rfl⟩
    have e:word s=false:=by
     have:s.all fB=false:=by
      rw[List.all_eq_false];exact⟨c,bR o,by rw[Q];decide⟩
     unfold word;rw[this];rfl
    rw[e];rfl
  |none =>
   have O:s.length<=a:=oK o
   have n:decide ((a:Int)<(s.length:Int))=false:=by simpa using O
   have W:s.all fB=true:=by rw[mz O]at W;exact W
   cases s with
   |nil =>
    exact zc7
   |cons c r =>
    have j:(c::r)[0]?=some c:=rfl;refine zbG ?_;refine D [] (wh c) ?_;refine ct ?_;refine⟨?_,rfl⟩;unfold word;rw[W];rfl
def fi(s:ai)(o:s.length<=1099511627776):GF prog 55 [.v (sv s)] [] (.v (.bool (cb s))) []:=by
 have e:=MC s o;unfold cb;generalize word s=b at *;refine ah func55 ntmps55 ?_;refine jw [] e ?_
 cases b with
 |false =>
  exact aC
 |true =>
  by_cases w:s.length<=12
  ·have c:decide ((s.length:Int)<=12)=true:=by simpa using by omega
   refine X ?_;refine D [] wj ?_;refine D [] (jO words s aS) ?_;refine ct ?_;rw[decide_eq_true w];exact zai
  ·have c:decide ((s.length:Int)<=12)=false:=by simpa using by omega
   refine zdy ?_;rw[decide_eq_false w];exact zai
def Gj(s:ai)(a:Nat)(u:s.length<=1099511627776)(ha:a<=s.length) :
  GF prog 291 [.v (sv s),y4 (a:Nat)] [] (.tup [.agg (db ⟨1,(number s (s.length+1) 0 a).1,[],a⟩),y4 ((number s (s.length+1) 0 a).2:Nat)]) []:=by
 generalize G:number s (s.length+1) 0 a=R;generalize j:a=C at *;refine ah func291 ntmps291 ?_;refine GW.loop (fun x:Nat × Int × Nat=>x.1) (fun x q k=>q=.v (sv s)::y4 (x.2.2:Nat)::U::U::.loc 0 0::U::.loc 1 0::zU 29 []/\k=[.box 205 [y4 0,y4 0,.v (sv []),y4 0],.box 205 (db ⟨1,x.2.1,[],C⟩)]/\x.2.2<=s.length/\s.length<x.1+x.2.2/\number s x.1 x.2.1 x.2.2=R/\0<=x.2.1/\x.2.1<=21474836479) (s.length+1,0,C) ?_ ?_
 ·exact⟨_,_,Wk.bb aD,rfl,rfl,by simp only;omega,by simp only;omega,by rw[<-G],by simp,by simp⟩
 ·rintro⟨f,n,a⟩_ _⟨rfl,rfl,ha,t,h,l,e⟩;simp only at ha t h l e
  cases f with
  |zero=>omega
  |succ f =>
  rw[number]at h
  cases o:s[a]? with
  |none =>
   rw[o]at h;simp only at h;subst h;have N:s.length<=a:=oK o
   have r:decide ((a:Int)<(s.length:Int))=false:=by simpa using N
   refine zbG ?_;refine lr ?_;exact zai
  |some c =>
   rw[o]at h;simp only at h;have i:a<s.length:=(bG o).1
   have r:decide ((a:Int)<(s.length:Int))=true:=by simpa using i
   have d:=wg c
   cases W:eF c with
   |false =>
    rw[W]at d;rw[ab (by rw[W];simp)]at h;subst h;refine X ?_;refine D [] d ?_;refine jx ?_;refine X ?_;refine lr ?_;exact zai
   |true =>
    rw[W]at d;rw[ae W]at h
    have b:(48:Int)<=(c.toNat:Int)/\(c.toNat:Int)<=57:=by
     simp only[eF,a6,decide_eq_true_eq]at W;exact W
    by_cases Q:n<=2147483647
    ·rw[ae Q]at h
     have S:decide (n<=2147483647)=true:=by simpa using Q
     refine X ?_;refine D [] d ?_;refine aX (aI 0 10 (.a 10 .nil)) ?_;refine bA ?_;exact⟨(f,n*10+((c.toNat:Int)-48),a+1),⟨_,_,Wk.bb aD,rfl,rfl,i,by simp only;omega,h,by simp only;omega,by simp only;omega⟩,by simp⟩
    ·rw[ab Q]at h
     have S:decide (n<=2147483647)=false:=by simpa using Q
     refine X ?_;refine D [] d ?_;exact⟨(f,n,a+1),⟨_,_,Wk.bb aD,rfl,rfl,i,by simp only;omega,h,l,e⟩,by simp⟩
open Go.Xp (Tok)
section
variable{xs:List ai}{p:ai->Bool}{k:Nat}{x:ai}
def LJ(h:(xs.take k).find? p=none)(hx:xs[k]?=some x)(R:p x=true):xs.find? p=some x:=by
 have i:=(bG hx).1
 have:xs=xs.take k++x::xs.drop (k+1):=by
  have z:=List.take_append_drop k xs;rw[kP i]at z;rw[(bG hx).2]at z;exact z.symm
 rw[this,List.find?_append,h];simp[List.find?_cons,R]
def LI(h:(xs.take k).find? p=none)(hx:xs[k]?=some x)(R:p x=false):(xs.take (k+1)).find? p=none:=by
 rw[dI,hx,List.find?_append,h];simp[List.find?_cons,R]
end
def Gz:∀x∈cE,x.length<=1152921504606846976:=by decide
def EM(s:ai)(a:Nat)(c:UInt8)(hs:s.length<=1099511627776)(S:s[a]?=some c) :
  GF prog 221 [.v (sv s),y4 (a:Nat)] [] (.tup [.agg (db (gD s a c).1),y4 ((gD s a c).2:Nat)]) []:=by
 have W:a<s.length:=(bG S).1;have i:=wg c;have n:=wh c;unfold gD
 cases z:eF c with
 |true =>
  rw[z]at i;rw[ae rfl];refine ah func221 ntmps221 ?_;refine D [] i ?_;refine D [] (Gj s a hs Z) ?_;refine lr ?_;exact zai
 |false =>
  rw[z]at i;rw[ab aS]
  cases E:small c with
  |true =>
   rw[E]at n;rw[ae rfl];have C:=oV s fB (s.length+1) a Z Z;have M:(s.take (gV s a)).drop a=jt s a:=rfl;have A:run s fB (s.length+1) a=gV s a:=rfl;rw[A]at C;generalize Q:gV s a=e at *;generalize R:jt s a=w at *;have R:=M;have Q:=A;refine ah func221 ntmps221 ?_;refine D [] i ?_;refine D [] n ?_;refine GW.DC (fun t F=>t=.v (sv s)::y4 (a:Nat)::U::U::.loc 0 0::U::y4 (e:Nat)::zU 62 []/\F=[.box 205 [y4 0,y4 0,.v (sv []),y4 0]]) ?_ ?_
   ·refine GW.loop (fun x:Nat × Nat=>x.1) (fun x t F=>t=.v (sv s)::y4 (a:Nat)::U::U::.loc 0 0::U::y4 (x.2:Nat)::zU 62 []/\F=[.box 205 [y4 0,y4 0,.v (sv []),y4 0]]/\x.2<=s.length/\s.length<x.1+x.2/\run s fB x.1 x.2=e) (s.length+1,a) ?_ ?_
    ·exact⟨_,_,Wk.bb aD,rfl,rfl,by simp only;omega,by simp only;omega,Q⟩
    ·rintro⟨f,b⟩_ _⟨rfl,rfl,r,m,h⟩;simp only at r m h
     cases f with
     |zero=>omega
     |succ f =>
     rw[run]at h
     cases l:s[b]? with
     |none =>
      rw[l]at h;simp only at h;subst h;have J:s.length<=b:=oK l
      have T:decide ((b:Int)<(s.length:Int))=false:=by simpa using J
      refine dQ ?_;exact ja
     |some O =>
      rw[l]at h;simp only at h;have o:b<s.length:=(bG l).1
      have T:decide ((b:Int)<(s.length:Int))=true:=by simpa using o
      have H:=CU O
      cases G:fB O with
      |true =>
       rw[G]at H;rw[ae G]at h;refine X ?_;refine D [] H ?_;exact⟨(f,b+1),⟨_,_,Wk.bb aD,rfl,rfl,o,by simp only;omega,h⟩,by simp⟩
      |false =>
       rw[G]at H;rw[ab (by rw[G];decide)]at h;subst h;refine X ?_;refine D [] H ?_;refine jx ?_;exact ja
   ·rintro _ _⟨rfl,rfl⟩;have⟨_,h1,h2⟩:=C;refine X ?_;rw[R];have d:=jO words w aS
    cases u:words.contains w with
    |true =>
     rw[u]at d;refine zdH ?_;rw[ae rfl];exact zai
    |false =>
     rw[u]at d;refine zdH ?_;rw[ab aS];exact zai
  |false =>
   rw[E]at n;rw[ab aS];refine ah func221 ntmps221 ?_;refine D [] i ?_;refine D [] n ?_;refine D [] JY ?_;refine GW.range (cE.map fun s=>[GV.v (sv s)]).length (fun k t F=>t=[.v (sv s),y4 (a:Nat),U,U,.loc 0 0,U,U,U,U,U,U,U,U,U,U,U,U,U,U,U,U,U,U,U,U,U,U,U,U,U,U,U,U,U,U,U,U,U,U,U,U,U,U,U,U,U,U,U,U,strs cE,y4 ((cE.map fun s=>[GV.v (sv s)]).length:Int),y4 (k:Nat),U,U,U,U,U,U,U,U,U,U,U,U,U,U,U,U,U]/\F=[.box 205 [y4 0,y4 0,.v (sv []),y4 0]]/\(cE.take k).find? (cr s a)=none) ?_ aS ?_ ?_ ?_
   ·exact lK
   ·exact jE
   ·rintro k _ _ B⟨rfl,rfl,m⟩
    have B:k<cE.length:=by simpa using B
    have hx:cE[k]?=some cE[k]:=by simp[B]
    have hr:(cE.map fun s=>[GV.v (sv s)])[k]?=some [.v (sv cE[k])]:=by simp[B]
    have N:=Gz _ (getElem_mem B);generalize cE[k]=x at *;have j:=py s x a Z N Z
    cases r:cr s a x with
    |true =>
     rw[r]at j;have I:=LJ m hx r;refine X ?_;refine D [] j ?_;refine lr ?_;rw[I];exact zai
    |false =>
     rw[r]at j;refine X ?_;refine D [] j ?_;exact⟨rfl,rfl,_,_,Wk.bb aD,rfl,rfl,LI m hx r⟩
   ·rintro _ _⟨rfl,rfl,m⟩
    have m:cE.find? (cr s a)=none:=by
     rw[mz zfm]at m;exact m
    refine X ?_;refine lr ?_;rw[m];exact zai
def FL{s:ai}{a:Nat}{c:UInt8}(o:s[a]?=some c):a<=(gD s a c).2/\(gD s a c).2<=s.length:=by
 have i:a<s.length:=(bG o).1;unfold gD;split
 ·exact(sr s (s.length+1) 0 a Z Z).2
 ·split
  ·exact(oV s fB (s.length+1) a Z Z).2
  ·split
   ·rename_i x hx;have:=lT (List.find?_some hx);exact⟨Nat.le_add_right _ _,this⟩
   ·exact⟨a8 _,by omega⟩
def MF(s:ai)(l:List Tok)(B:s.length<=1000000000000)(h:Go.Sp.ic s=some l) :
  GF prog 204 [.v (sv s)] [] (Go.Xg.ic l) []:=by
 rw[Go.Sp.ic]at h;have m:=A6 s 0 Z (bj _);have r:=sQ s (s.length+1) 0 (bj _);generalize S:skip s (s.length+1) 0=R at *;refine ah func204 ntmps204 ?_;refine zc4 ?_;refine D [] m ?_;refine GW.loop (fun x:Nat × Nat × List Tok=>x.1) (fun x u d=>∃n j,u=.v (sv s)::U::U::.vec 0 n::y4 (x.2.1:Nat)::zU 30 []/\d=[.vec 205 4 0 j]/\j.length=n/\j=x.2.2.map db/\n+x.1<=s.length+2/\x.2.1<=s.length/\qG s x.1 x.2.1 x.2.2=some l) (s.length+2,R.1,[]) ?_ ?_
 ·exact⟨_,_,Wk.bb aD,0,[],rfl,rfl,rfl,rfl,by simp,r.2,h⟩
 ·rintro⟨f,a,q⟩_ _⟨n,j,rfl,rfl,Q,C,I,O,h⟩;simp only at C I O h
  cases f with
  |zero=>simp[qG]at h
  |succ f =>
  rw[qG]at h
  cases o:s[a]? with
  |none =>
   rw[o]at h;simp only at h;cases h;have N:s.length<=a:=oK o
   have z:decide ((a:Int)<(s.length:Int))=false:=by simpa using N
   subst C;refine zbG ?_;refine GW.wk (Wk.iC (t:=2) rfl rfl rfl Q) ?_;exact ax
  |some c =>
   rw[o]at h;simp only at h;have i:a<s.length:=(bG o).1
   have z:decide ((a:Int)<(s.length:Int))=true:=by simpa using i
   have A:=FL o;have F:=EM s a c Z o;generalize gD s a c=tk at *;have k:=A6 s tk.2 Z A.2;have E:=sQ s (s.length+1) tk.2 A.2;generalize skip s (s.length+1) tk.2=w at *;refine X ?_;refine D [] F ?_;refine zbD ?_;refine D [] k ?_;exact⟨(f,w.1,q++[tk.1]),⟨_,_,(Wk.cut (n:=1) (dT rfl) rfl).trans (Wk.bb aD),_,_,rfl,rfl,by simp[Q],by rw[jH,C];rfl,by simp only;omega,by simp only;omega,h⟩,by simp⟩
open Go.Xp (T one levels)
structure DQ(f:Nat):Prop where
 expr:∀d p t q,p.ok->d+f<=4611686018427387904->mE f (.expr d) p=some (t,q)->GF prog 323 [.loc 0 0,y4 (d:Nat)] [cj p] (.agg (cT t)) [cj q]
 level:∀k d p t q,p.ok->k<=9->d+f<=4611686018427387904->mE f (.level k d) p=some (t,q)->GF prog 360 [.loc 0 0,y4 (k:Nat),y4 (d:Nat)] [cj p] (.agg (cT t)) [cj q]
 operand:∀d p t q,p.ok->d+f<=4611686018427387904->mE f (.operand d) p=some (t,q)->GF prog 374 [.loc 0 0,y4 (d:Nat)] [cj p] (.agg (cT t)) [cj q]
 named:∀a s d p t q,p.ok->d+f<=4611686018427387904->mE f (.named a s d) p=some (t,q)->GF prog 380 [.loc 0 0,y4 a,.v (sv s),y4 (d:Nat)] [cj p] (.agg (cT t)) [cj q]
 list:∀d p l q,p.ok->d+f<=4611686018427387904->mL f d p=some (l,q)->GF prog 382 [.loc 0 0,y4 (d:Nat)] [cj p] (.sl 6 (aR l)) [cj q]
def UQ{f:Nat}(C:DQ f)(d:Nat)(p:RS)(t:T)(q:RS)(R:p.ok)(hd:d+(f+1)<=4611686018427387904)(h:mE (f+1) (.expr d) p=some (t,q)) :
  GF prog 323 [.loc 0 0,y4 (d:Nat)] [cj p] (.agg (cT t)) [cj q]:=by
 rw[mE]at h;refine ah func323 ntmps323 ?_;refine D [0] (ur p d R) ?_;refine D [0] (C.level 0 d _ t q ((ir R d).ok R) Z Z h) ?_;exact eQ
def Ij{k:Nat}(G:k<9):(levels.map fun l=>[strs l])[k]?=some [strs (levels.getD k [])]:=by
 have:k<levels.length:=G;rw[b6,cq this,List.getD_eq_getElem?_getD,cq this];rfl
def BR:∀k,k<9->(levels.getD k []).length<=1099511627776:=by decide
abbrev zT:am:=[y4 0,y4 0,y4 0,.v (sv []),.v y6,.v y6]
def S3{f:Nat}(C:∀J,J<=f->DQ J)(k d:Nat)(p:RS)(t:T)(q:RS)(R:p.ok)(G:k<=9)(hd:d+(f+1)<=4611686018427387904)(h:mE (f+1) (.level k d) p=some (t,q)) :
  GF prog 360 [.loc 0 0,y4 (k:Nat),y4 (d:Nat)] [cj p] (.agg (cT t)) [cj q]:=by
 rw[mE]at h
 by_cases E:k=9
 ·subst E;rw[ae rfl]at h;refine ah func360 ntmps360 ?_;refine D [] jZ ?_;refine D [0] ((C f (a8 _)).operand (d+1) p t q R Z h) ?_;exact eQ
 ·rw[ab E]at h
  have B:((k:Int)==9)=false:=by simp;omega
  cases e:mE f (.level (k+1) d) p with
  |none=>rw[e]at h;cases h
  |some r =>
   have⟨out,z⟩:=r;rw[e]at h;simp only at h;have I:=((ry f).1 _ _ _ _ R e).ok R;refine ah func360 ntmps360 ?_;refine D [] jZ ?_;refine D [0] ((C f (a8 _)).level (k+1) d p out z R Z Z e) ?_;refine GW.loop (fun x:Nat × T × RS=>x.1) (fun x M c=>M=.loc 0 0::y4 (k:Nat)::y4 (d:Nat)::U::U::U::.loc 1 0::.loc 2 0::zU 58 []/\c=[cj x.2.2,.box 89 zT,.box 89 (cT x.2.1)]/\x.2.2.ok/\x.1<=f/\mE x.1 (.loop k d x.2.1) x.2.2=some (t,q)) (f,out,z) ?_ ?_
   ·exact⟨_,_,Wk.bb aD,rfl,rfl,I,a8 _,h⟩
   ·rintro⟨g,out,p⟩_ _⟨rfl,rfl,R,m,h⟩;simp only at R m h
    cases g with
    |zero=>simp[mE]at h
    |succ g =>
    rw[mE]at h
    have G:k<9:=by omega
    by_cases o:p.code=0
    ·have F:(p.code==0)=true:=by simpa using o
     have O:=Ij G
     by_cases hit:(levels.getD k []).contains (p.aH 0)=true
     ·rw[ae ⟨o,hit⟩]at h
      cases H:p.l[p.i]? with
      |none=>rw[H]at h;cases h
      |some tk =>
       rw[H]at h;simp only at h;have j:=(bG H).1;have S:=kX H;have Q:=R.2
       cases u:mE g (.level (k+1) d) p.next with
       |none=>rw[u]at h;cases h
       |some r =>
        have⟨b,A⟩:=r;rw[u]at h;simp only at h;have W:=(cS j).ok R;have w:=((ry g).1 _ _ _ _ W u).ok W;refine zbw ?_;refine X ?_;refine zcO ?_;refine aX (aI 0 9 (.a 9 (.a 10 (.a 11 (.a 12 .nil))))) ?_;refine av ?_;refine aN [0] ((C g Z).level (k+1) d p.next b A W Z Z u) ?_;refine zaI ?_;refine mr [] (iJ 6 tk.at_ tk.s [out,b] _ oZ) ?_;refine FU ?_;refine bA ?_;exact⟨(g,one 6 tk.at_ tk.s [out,b],A),⟨_,_,(Wk.cut (n:=3) (dT rfl) rfl).trans (Wk.bb aD),rfl,rfl,w,by omega,h⟩,by simp⟩
     ·have hit:(levels.getD k []).contains (p.aH 0)=false:=by simpa using hit
      rw[ab (by rw[hit];simp)]at h
      obtain⟨rfl,rfl⟩:out=t/\p=q:=by simpa using h
      refine zbw ?_;refine dQ ?_;exact lq
    ·have F:(p.code==0)=false:=by simpa using o
     rw[ab (fun N=>o N.1)]at h
     obtain⟨rfl,rfl⟩:out=t/\p=q:=by simpa using h
     refine X ?_;refine aX (aI 0 6 (.q 7 (.q 10 (.a 6 (.q 8 (.q 9 (.a 11 (.a 12 (.q 13 .nil))))))))) ?_;refine bA ?_;refine jx ?_;exact lq
def Tb{f:Nat}(C:DQ f)(a:Int)(s:ai)(d:Nat)(p:RS)(t:T)(q:RS)(R:p.ok)(hd:d+(f+1)<=4611686018427387904)(h:mE (f+1) (.named a s d) p=some (t,q)) :
  GF prog 380 [.loc 0 0,y4 a,.v (sv s),y4 (d:Nat)] [cj p] (.agg (cT t)) [cj q]:=by
 rw[mE]at h
 by_cases z:p.aH 0=[91]
 ·rw[ae z]at h
  have c:(p.aH 0==[91])=true:=by simp[z]
  have i:=(dw z aS).1;have J:=R.2;have W:=(dP z aS).ok R
  cases e:mE f (.expr (d+1)) p.next with
  |none=>rw[e]at h;cases h
  |some r =>
   have⟨b,m⟩:=r;rw[e]at h;cases h;have E:=((ry f).1 _ _ _ _ W e).ok W;refine ah func380 ntmps380 ?_;refine D [0] (di p 0 R aS) ?_;refine D [0] (C.expr (d+1) p.next b m W Z e) ?_;refine D [0] (cY m [93] E aS) ?_;refine zad ?_;refine D [] (iJ 3 a s [b] _ oZ) ?_;exact eQ
 ·rw[ab z]at h
  have c:(p.aH 0==[91])=false:=by simpa using z
  by_cases w:p.aH 0=[40]
  ·rw[ae w]at h
   have M:(p.aH 0==[40])=true:=by simp[w]
   have i:=(dw w aS).1;have J:=R.2;have W:=(dP w aS).ok R
   cases e:mL f (d+1) p.next with
   |none=>rw[e]at h;cases h
   |some r =>
    have⟨l,m⟩:=r;rw[e]at h;cases h;refine ah func380 ntmps380 ?_;refine D [0] (di p 0 R aS) ?_;refine D [0] (C.list (d+1) p.next l q W Z e) ?_;refine D [] (iJ 4 a s l _ rfl) ?_;exact eQ
  ·rw[ab w]at h
   have M:(p.aH 0==[40])=false:=by simpa using w
   cases h;refine ah func380 ntmps380 ?_;refine D [0] (di p 0 R aS) ?_;refine D [] (iJ 2 a s [] [] rfl) ?_;exact eQ
def bs(l:List T):(aR l).length=l.length:=by
 induction l with
 |nil=>rfl
 |cons a l q=>simp[aR,q]
def ub(l:List T)(a:T):aR (l++[a])=aR l++[cT a]:=by
 induction l with
 |nil=>simp[aR,sH]
 |cons b l q=>simp[aR,q]
def VV{f:Nat}(C:∀M,M<=f->DQ M)(d:Nat)(p:RS)(l:List T)(q:RS)(c:p.ok)(hd:d+(f+1)<=4611686018427387904)(h:mL (f+1) d p=some (l,q)) :
  GF prog 382 [.loc 0 0,y4 (d:Nat)] [cj p] (.sl 6 (aR l)) [cj q]:=by
 rw[mL]at h
 by_cases u:p.aH 0=[41]
 ·rw[ae u]at h
  have A:(!(p.aH 0==[41]))=false:=by simp[u]
  cases h;refine ah func382 ntmps382 ?_;refine zc4 ?_;refine D [0] (di p 0 c aS) ?_;refine D [0] (cY p [41] c aS) ?_;refine GW.wk (Wk.iC (t:=4) rfl rfl rfl rfl) ?_;exact ax
 ·rw[ab u]at h
  have A:(!(p.aH 0==[41]))=true:=by simpa using u
  cases z:mE f (.expr d) p with
  |none=>rw[z]at h;cases h
  |some r =>
   have⟨a,I⟩:=r;rw[z]at h;simp only at h;have G:=((ry f).1 _ _ _ _ c z).ok c;refine ah func382 ntmps382 ?_;refine zc4 ?_;refine D [0] (di p 0 c aS) ?_;refine D [0] ((C f (a8 _)).expr d p a I c Z z) ?_;refine zbD ?_;refine GW.loop (fun x:Nat × List T × RS=>x.1) (fun x O Γ=>∃n e,O=.loc 0 0::y4 (d:Nat)::U::U::U::.vec 1 n::zU 29 []/\Γ=[cj x.2.2,.vec 89 6 0 e]/\e.length=n/\e=aR x.2.1/\n<=x.2.2.i+1/\x.2.2.ok/\x.1<=f/\qg x.1 d x.2.1 x.2.2=some (l,q)) (f,[a],I) ?_ ?_
   ·exact⟨_,_,Wk.bb aD,_,_,rfl,rfl,rfl,(by simp only[aR,sH];rfl),(by show 1<=I.i+1;omega),G,a8 _,h⟩
   ·rintro⟨g,o,p⟩_ _⟨n,e,rfl,rfl,N,j,F,c,E,h⟩;simp only at j F c E h
    cases g with
    |zero=>simp[qg]at h
    |succ g =>
    rw[qg]at h;have W:=c.2;have S:=c.1
    by_cases m:p.aH 0=[44]
    ·rw[ae m]at h
     have B:(p.aH 0==[44])=true:=by simp[m]
     have R:=(dw m aS).1;have k:=(dP m aS).ok c
     cases w:mE g (.expr d) p.next with
     |none=>rw[w]at h;cases h
     |some r =>
      have⟨b,J⟩:=r;rw[w]at h;simp only at h;have s:=(ry g).1 _ _ _ _ k w;have H:=s.ok k;have Q:p.i+1<=J.i:=s.2.2.2;refine X ?_;refine D [0] (di p 0 c aS) ?_;refine D [0] ((C g Z).expr d p.next b J k Z w) ?_;refine zbD ?_;exact⟨(g,o++[b],J),⟨_,_,Wk.bb aD,_,_,rfl,rfl,by simp[N],by rw[ub,j],by simp only;omega,H,by simp only;omega,h⟩,by simp⟩
    ·rw[ab m]at h
     have B:(p.aH 0==[44])=false:=by simpa using m
     obtain⟨rfl,rfl⟩:o=l/\p.ba [41]=q:=by simpa using h
     subst j;refine X ?_;refine D [0] (di p 0 c aS) ?_;refine jx ?_;refine X ?_;refine D [0] (cY p [41] c aS) ?_;refine GW.wk (Wk.iC (t:=4) rfl rfl rfl N) ?_;exact ax
def Nh{f:Nat}(C:DQ f)(d:Nat)(p:RS)(t:T)(q:RS)(G:p.ok)(hd:d+(f+1)<=4611686018427387904)(h:mE (f+1) (.operand d) p=some (t,q)) :
  GF prog 374 [.loc 0 0,y4 (d:Nat)] [cj p] (.agg (cT t)) [cj q]:=by
 rw[mE]at h;have e:=(ir G d).ok G;have c:=ur p d G;generalize p.aY d=b at *
 try simp only at h
 have⟨W,wQ⟩:=id e
 by_cases u:b.code=0
 ·rw[ae u]at h
  have E:(b.code != 0)=false:=by simpa using u
  cases o:b.l[b.i]? with
  |none =>
   rw[o]at h;cases h;have S:b.l.length<=b.i:=oK o
   have n:decide (((b.l.map db).length:Int)<=(b.i:Int))=true:=by simp;omega
   exact zbJ
  |some tk =>
   rw[o]at h;simp only at h;have F:b.i<b.l.length:=(bG o).1
   have n:decide (((b.l.map db).length:Int)<=(b.i:Int))=false:=by simp;omega
   have hr:=kX o;have k:=(cS F).ok e;refine ah func374 ntmps374 ?_;refine D [0] c ?_;refine aX (aI 0 17 .nil) ?_;refine bA ?_;refine zcO ?_
   by_cases w:tk.aj=1
   ·rw[ae w]at h;cases h
    have I:(tk.aj==1)=true:=by simpa using w
    refine X ?_;exact zd4
   ·rw[ab w]at h
    have I:(tk.aj==1)=false:=by simpa using w
    by_cases z:tk.aj=2
    ·rw[ae z]at h
     have J:(tk.aj==2)=true:=by simpa using z
     refine X ?_;refine D [0] (ou b e) ?_;refine D [0] (C.named tk.at_ b.name.1 d b.name.2 t q ((eT e).ok e) Z h) ?_;exact eQ
    ·rw[ab z]at h
     have J:(tk.aj==2)=false:=by simpa using z
     by_cases j:tk.s=[45]\/tk.s=[33]\/tk.s=[126]
     ·rw[ae j]at h
      cases m:mE f (.operand (d+1)) b.next with
      |none=>exact zek
      |some r =>
       have⟨a,M⟩:=r;rw[m]at h;cases h
       have N:(tk.s==[45])=true\/((tk.s==[45])=false/\(tk.s==[33])=true)\/((tk.s==[45])=false/\(tk.s==[33])=false/\(tk.s==[126])=true):=by
        rcases j with j|j|j
        ·exact .inl (by simp[j])
        ·exact .inr (.inl (by simp[j]))
        ·exact .inr (.inr (by simp[j]))
       refine X ?_
       rcases N with B|⟨B,Q⟩|⟨B,Q,R⟩
       all_goals
        refine X ?_;refine aX (aI 0 7 (.a 7 (.a 8 (.a 9 (.a 10 .nil))))) ?_;refine av ?_;refine aN [0] (C.operand (d+1) b.next a q k Z m) ?_;refine zaI ?_;refine mr [] (iJ 5 tk.at_ tk.s [a] _ oZ) ?_;refine FU ?_;refine av ?_;exact lq
     ·rw[ab j]at h
      have B:(tk.s==[45])=false:=by simp at j;simpa using j.1
      have Q:(tk.s==[33])=false:=by simp at j;simpa using j.2.1
      have R:(tk.s==[126])=false:=by simp at j;simpa using j.2.2
      by_cases A:tk.s=[40]
      ·rw[ae A]at h
       have O:(tk.s==[40])=true:=by simp[A]
       cases m:mE f (.expr (d+1)) b.next with
       |none=>exact zek
       |some r =>
        have⟨a,M⟩:=r;rw[m]at h;cases h;have H:=((ry f).1 _ _ _ _ k m).ok k;refine X ?_;refine D [0] (C.expr (d+1) b.next t M k Z m) ?_;refine D [0] (cY M [41] H aS) ?_;exact eQ
      ·rw[ab A]at h
       have O:(tk.s==[40])=false:=by simpa using A
       cases h;refine X ?_;refine D [0] (kg b 7 tk.at_) ?_;exact zd4
 ·rw[ab u]at h
  have E:(b.code != 0)=true:=by simpa using u
  cases h;exact zbJ
def rds(f:Nat):DQ f:=by
  induction f using Nat.strongRecOn with
  |_ f u =>
   cases f with
   |zero=>exact⟨fun d p t q _ _ h=>by simp[mE]at h,fun k d p t q _ _ _ h=>by simp[mE]at h,fun d p t q _ _ h=>by simp[mE]at h,fun a s d p t q _ _ h=>by simp[mE]at h,fun d p l q _ _ h=>by simp[mL]at h⟩
   |succ f =>
    have C:=u f (Nat.lt_succ_self f)
    have r:∀H,H<=f->DQ H:=fun H h=>u H (Nat.lt_succ_of_le h)
    exact⟨fun d p t q R n h=>UQ C d p t q R n h,fun k d p t q R G n h=>S3 r k d p t q R G n h,fun d p t q R n h=>Nh C d p t q R n h,fun a s d p t q R n h=>Tb C a s d p t q R n h,fun d p l q R n h=>VV r d p l q R n h⟩
open Go.Xp (iz)
structure KV(f:Nat):Prop where
 block:∀d p t q,p.ok->d+f<=1099511627776->mS f (.block d) p=some (t,q)->GF prog 205 [.loc 0 0,y4 (d:Nat)] [cj p] (.agg (cT t)) [cj q]
 stmt:∀d p t q,p.ok->d+f<=1099511627776->mS f (.stmt d) p=some (t,q)->GF prog 264 [.loc 0 0,y4 (d:Nat)] [cj p] (.agg (cT t)) [cj q]
 cond:∀a d p t q,p.ok->p.i<p.l.length->d+f<=1099511627776->mS f (.cond a d) p=some (t,q)->GF prog 324 [.loc 0 0,y4 a,y4 (d:Nat)] [cj p] (.agg (cT t)) [cj q]
def xv(d:Nat)(p:RS)(t:T)(q:RS)(R:p.ok)(hd:d<=1099511627777)(h:mX d p=some (t,q)):GF prog 323 [.loc 0 0,y4 (d:Nat)] [cj p] (.agg (cT t)) [cj q] :=
 (rds (fe p)).expr d p t q R (by have:=R.2;unfold fe;omega) h
def JZ(k a:Int)(s:ai):GF prog 263 [y4 k,y4 a,.v (sv s),.v y6] [] (.agg [y4 k,y4 a,y4 0,.v (sv s),ints [],.v y6]) []:=by
 refine ah func263 ntmps263 ?_;exact zd4
def Sh{f:Nat}(C:∀Q,Q<=f->KV Q)(d:Nat)(p:RS)(t:T)(q:RS)(e:p.ok)(hd:d+(f+1)<=1099511627776)(h:mS (f+1) (.block d) p=some (t,q)) :
  GF prog 205 [.loc 0 0,y4 (d:Nat)] [cj p] (.agg (cT t)) [cj q]:=by
 rw[mS]at h;have j:=(ir e d).ok e;have m:=ur p d e;generalize p.aY d=u at *
 try simp only at h
 have M:=(bX j (s:=[123]) aS).ok j
 cases E:mB f (d+1) [] (u.ba [123])with
 |none=>rw[E]at h;cases h
 |some r =>
  have⟨l,O⟩:=r;rw[E]at h;cases h;generalize J:u.place=W;refine ah func205 ntmps205 ?_;refine D [0] m ?_;refine D [0] (j0 u j) ?_;refine D [] (JZ 14 u.place []) ?_;refine D [0] (cY u [123] j aS) ?_;rw[J];refine GW.wk (Wk.zE (i:=2) (o:=5) 89 6 rfl rfl) ?_;refine GW.loop (fun x:Nat × List T × RS=>x.1) (fun x S Γ=>∃n c,S=.loc 0 0::y4 (d:Nat)::U::U::.loc 1 0::.loc 2 0::zU 30 []/\Γ=[cj x.2.2,.box 89 zT,.box 89 [y4 14,y4 W,y4 0,.v (sv []),ints [],.vec 3 n],.vec 89 6 0 c]/\c.length=n/\c=aR x.2.1/\n+x.1<=f/\x.2.2.ok/\mB x.1 (d+1) x.2.1 x.2.2=some (l,O)) (f,[],u.ba [123]) ?_ ?_
  ·exact⟨_,_,Wk.bb aD,0,[],rfl,rfl,rfl,rfl,by simp,M,E⟩
  ·rintro⟨g,k,p⟩_ _⟨n,c,rfl,rfl,G,b,H,e,h⟩;simp only at b H e h
   cases g with
   |zero=>simp[mB]at h
   |succ g =>
   rw[mB]at h
   by_cases z:p.code=0
   ·have B:(p.code==0)=true:=by simpa using z
    by_cases A:p.aH 0=[125]
    ·rw[ab (fun F=>F.2 A)]at h
     obtain⟨rfl,rfl⟩:k=l/\p=O:=by simpa using h
     have N:(!(p.aH 0==[125]))=false:=by simp[A]
     subst b;refine X ?_;refine D [0] (di p 0 e aS) ?_;refine jx ?_;refine X ?_;exact zcE
    ·rw[ae ⟨z,A⟩]at h
     have N:(!(p.aH 0==[125]))=true:=by simpa using A
     cases w:mS g (.stmt (d+1)) p with
     |none=>rw[w]at h;cases h
     |some r =>
      have⟨a,R⟩:=r;rw[w]at h;simp only at h;have I:=((pI g).1 _ _ _ _ e (fun a d' h=>by cases h) w).ok e;refine X ?_;refine D [0] (di p 0 e aS) ?_;refine aX (aI 0 5 (.a 5 (.a 6 (.a 7 (.q 8 (.a 9 .nil)))))) ?_;refine av ?_;refine aN [0] ((C g Z).stmt (d+1) p a R e Z w) ?_;refine zaI ?_;refine qk ?_;refine bA ?_;exact⟨(g,k++[a],R),⟨_,_,Wk.bb aD,_,_,rfl,rfl,by simp[G],by rw[ub,b];rfl,by show n+1+g<=f;omega,I,h⟩,by simp⟩
   ·have B:(p.code==0)=false:=by simpa using z
    rw[ab (fun F=>z F.1)]at h
    obtain⟨rfl,rfl⟩:k=l/\p=O:=by simpa using h
    subst b;refine zbG ?_;exact zcE
def UD{f:Nat}(C:KV f)(a:Int)(d:Nat)(p:RS)(t:T)(q:RS)(I:p.ok)(R:p.i<p.l.length)(hd:d+(f+1)<=1099511627776)(h:mS (f+1) (.cond a d) p=some (t,q)) :
  GF prog 324 [.loc 0 0,y4 a,y4 (d:Nat)] [cj p] (.agg (cT t)) [cj q]:=by
 rw[mS]at h
 try simp only at h
 have o:=(cS R).ok I;have wQ:=I.2;have n:=(bX o (s:=[40]) aS).ok o
 cases F:mX (d+1) (p.next.ba [40])with
 |none=>rw[F]at h;cases h
 |some r =>
 have⟨e,B⟩:=r;rw[F]at h;simp only at h;have m:=(fS n F).ok n;have c:=(bX m (s:=[41]) aS).ok m
 cases E:mS f (.block (d+1)) (B.ba [41])with
 |none=>rw[E]at h;cases h
 |some r =>
 have⟨b,u⟩:=r;rw[E]at h;simp only at h;have w:=((pI f).1 _ _ _ _ c (fun a d' h=>by cases h) E).ok c;have aai:=w.2
 have z:∀k:Int,(if k=9/\u.aH 0=iz then match mS f (.block (d+1)) u.next with
     |none=>none
     |some (N,q)=>some (one k a [] [e,b,N],q)
    else some (one k a [] [e,b],u))=some (t,q)->p.ck=k->(k=9\/k=10)->((p.aH 0==[105,102])=true/\k=9)\/((p.aH 0==[105,102])=false/\k=10):=by
  intro k _ O _;unfold RS.ck at O;split at O
  ·rename_i M;exact .inl ⟨by rw[M];rfl,O.symm⟩
  ·rename_i M;refine .inr ⟨?_,O.symm⟩
   cases S:(p.aH 0==[105,102])with
   |false=>rfl
   |true=>exact absurd (eq_of_beq S) M
 have G:p.ck=9\/p.ck=10:=by unfold RS.ck;split<;>simp
 have z:=z p.ck h rfl G;generalize p.ck=k at h z;clear G
 rcases z with⟨M,rfl⟩|⟨M,rfl⟩
 ·by_cases j:u.aH 0=iz
  ·rw[ae ⟨rfl,j⟩]at h
   have H:(u.aH 0==[101,108,115,101])=true:=by rw[j];rfl
   have W:=(dw j aS).1;have J:=(dP j aS).ok w
   cases A:mS f (.block (d+1)) u.next with
   |none=>rw[A]at h;cases h
   |some r =>
   have⟨N,p3⟩:=r;rw[A]at h;cases h;refine ah func324 ntmps324 ?_;refine zaz ?_;refine aN [0] (C.block (d+1) _ b u c Z E) ?_;refine o7 ?_;refine bA ?_;refine D [0] (di u 0 w aS) ?_;refine jw [0] (C.block (d+1) _ N q J Z A) ?_;refine zbD ?_;refine zen ?_;refine D [] (iJ 9 a [] [e,b,N] _ oZ) ?_;exact eQ
  ·rw[ab (fun Q=>j Q.2)]at h
   have H:(u.aH 0==[101,108,115,101])=false:=by
    cases S:(u.aH 0==[101,108,115,101])with
    |false=>rfl
    |true=>exact absurd (eq_of_beq S) j
   cases h;refine ah func324 ntmps324 ?_;refine zaz ?_;refine aN [0] (C.block (d+1) _ b q c Z E) ?_;refine o7 ?_;refine bA ?_;refine D [0] (di q 0 w aS) ?_;refine zen ?_;refine D [] (iJ 9 a [] [e,b] _ oZ) ?_;exact eQ
 ·rw[ab (fun Q=>by cases Q.1)]at h;cases h;refine ah func324 ntmps324 ?_;refine zaz ?_;refine aN [0] (C.block (d+1) _ b q c Z E) ?_;refine o7 ?_;refine bA ?_;refine zen ?_;refine D [] (iJ 10 a [] [e,b] _ oZ) ?_;exact eQ
open Go.Xp (lX gb gz gK)
def uV{s t:ai}(h:¬s=t):(s==t)=false:=by
 cases T:(s==t)with
 |false=>rfl
 |true=>exact absurd (eq_of_beq T) h
def WD{f:Nat}(C:KV f)(d:Nat)(p:RS)(t:T)(q:RS)(hp:p.ok)(hd:d+(f+1)<=1099511627776)(h:mS (f+1) (.stmt d) p=some (t,q)) :
  GF prog 264 [.loc 0 0,y4 (d:Nat)] [cj p] (.agg (cT t)) [cj q]:=by
 rw[mS]at h;have c:=(ir hp d).ok hp;have J:=ur p d hp;generalize p.aY d=b at *
 try simp only at h
 have⟨Ra,wQ⟩:=id c;generalize hat:b.place=at_ at h;refine ah func264 ntmps264 ?_;refine D [0] J ?_;refine D [0] (j0 b c) ?_;refine jw [0] (di b 0 c aS) ?_;rw[hat]
 by_cases N:b.aH 0=lX
 ·rw[ae N]at h
  have e1:(b.aH 0==[118,97,114])=true:=by rw[N];rfl
  have k:=(dw N aS).1;have G:=(dP N aS).ok c;have A:=(eT G).ok G;have z:=(bX A (s:=[61]) aS).ok A
  cases m:mX (d+1) (b.next.name.2.ba [61])with
  |none=>exact zek
  |some r =>
  have⟨e,o⟩:=r;rw[m]at h;cases h;have j:=(fS z m).ok z;refine X ?_;refine D [0] (ou b.next G) ?_;refine zdN ?_;refine D [] (iJ 13 at_ b.next.name.1 [e] _ oZ) ?_;exact eQ
 rw[ab N]at h;have e1:(b.aH 0==[118,97,114])=false:=uV N
 by_cases w:b.aH 0=gb\/b.aH 0=gz
 ·rw[ae w]at h
  have e2:(b.aH 0==[105,102])=true\/((b.aH 0==[105,102])=false/\(b.aH 0==[119,104,105,108,101])=true):=by
   rcases w with w|w
   ·exact .inl (by rw[w];rfl)
   ·exact .inr ⟨by rw[w];rfl,by rw[w];rfl⟩
  have k:b.i<b.l.length:=by
   rcases w with w|w
   ·exact(dw w aS).1
   ·exact(dw w aS).1
  rcases e2 with e2|⟨e2,e3⟩
  all_goals
   refine X ?_;refine D [0] (C.cond at_ d b t q c k Z h) ?_;exact eQ
 rw[ab w]at h
 have e2:(b.aH 0==[105,102])=false:=uV fun I=>w (.inl I)
 have e3:(b.aH 0==[119,104,105,108,101])=false:=uV fun I=>w (.inr I)
 by_cases O:b.aH 0=gK
 ·rw[ae O]at h
  have e4:(b.aH 0==[114,101,116,117,114,110])=true:=by rw[O];rfl
  have k:=(dw O aS).1;have G:=(dP O aS).ok c
  cases m:mX (d+1) b.next with
  |none=>exact zek
  |some r =>
  have⟨e,o⟩:=r;rw[m]at h;cases h;have j:=(fS G m).ok G;refine X ?_;refine D [0] (xv (d+1) _ e o G Z m) ?_;refine D [0] (cY o [59] j aS) ?_;refine zad ?_;refine D [] (iJ 11 at_ [] [e] _ oZ) ?_;exact eQ
 rw[ab O]at h;have e4:(b.aH 0==[114,101,116,117,114,110])=false:=uV O
 by_cases h5:b.code=0/\b.oq=true/\b.aH 1=[61]
 ·rw[ae h5]at h;have⟨R,u,M⟩:=h5
  have B:(b.code==0)=true:=by simpa using R
  have abh:(b.aH 1==[61])=true:=by rw[M];rfl
  unfold RS.oq at u
  cases E:b.l[b.i]? with
  |none=>rw[E]at u;cases u
  |some tk =>
  rw[E]at u
  have H:(tk.aj==2)=true:=by simpa using u
  have k:=(bG E).1
  have F:decide ((b.i:Int)<((b.l.map db).length:Int))=true:=by simpa using k
  have hr:=kX E;have A:=(eT c).ok c;have z:=(bX A (s:=[61]) aS).ok A
  cases m:mX (d+1) (b.name.2.ba [61])with
  |none=>exact zek
  |some r =>
  have⟨e,o⟩:=r;rw[m]at h;cases h;have j:=(fS z m).ok z;refine X ?_;refine zff ?_;refine X ?_;refine D [0] (ou b c) ?_;refine zdN ?_;refine D [] (iJ 7 at_ b.name.1 [e] _ oZ) ?_;exact eQ
 rw[ab h5]at h
 cases m:mX (d+1) b with
 |none=>exact zek
 |some r =>
 have⟨e,o⟩:=r;rw[m]at h;simp only at h;have j:=(fS c m).ok c;have aai:=j.2
 have S:(b.code==0)=false\/((b.code==0)=true/\b.l.length<=b.i)\/((b.code==0)=true/\∃tk,b.l[b.i]?=some tk/\((tk.aj==2)=false\/((tk.aj==2)=true/\(b.aH 1==[61])=false))):=by
  by_cases R:b.code=0
  ·refine .inr ?_
   have B:(b.code==0)=true:=by simpa using R
   cases E:b.l[b.i]? with
   |none=>exact .inl ⟨B,oK E⟩
   |some tk =>
    refine .inr ⟨B,tk,rfl,?_⟩
    by_cases H:tk.aj=2
    ·refine .inr ⟨by simpa using H,uV fun h61=>h5 ⟨R,?_,h61⟩⟩;unfold RS.oq;rw[E];simpa using H
    ·exact .inl (by simpa using H)
  ·exact .inl (by simpa using R)
 refine X ?_;refine GW.join (fun fr Γ=>fr=.loc 0 0::y4 (d:Nat)::U::U::.loc 1 0::y4 at_::zU 99 (.v (.bool false)::zU 65 [])/\Γ=[cj b,.box 89 zT]) ?_ ?_
 ·rcases S with B|⟨B,Mb⟩|⟨B,tk,E,H|⟨H,M⟩⟩
  ·exact zbq
  ·have F:decide ((b.i:Int)<((b.l.map db).length:Int))=false:=by simpa using Mb
   exact zbq
  ·have k:=(bG E).1
   have F:decide ((b.i:Int)<((b.l.map db).length:Int))=true:=by simpa using k
   have hr:=kX E;exact zbq
  ·have k:=(bG E).1
   have F:decide ((b.i:Int)<((b.l.map db).length:Int))=true:=by simpa using k
   have hr:=kX E;refine zff ?_;exact bx ⟨_,_,Wk.bb (by repeat (first|exact sX.nil|refine sX.U ?_|refine sX.eq rfl ?_|refine sX.eq (by rw[M]) ?_)),rfl,rfl⟩
 ·rintro _ _⟨rfl,rfl⟩;refine X ?_;refine D [0] (xv (d+1) _ e o c Z m) ?_
  by_cases k3:e.n.aj=3
  ·have k3':(e.n.aj==3)=true:=by simpa using k3
   by_cases ka:e.n.at_=at_
   ·have ka':(e.n.at_==at_)=true:=by simpa using ka
    by_cases Q:o.aH 0=[61]
    ·have ks':(o.aH 0==[61])=true:=by rw[Q];rfl
     rw[ae ⟨k3,ka,Q⟩]at h;have k:=(dw Q aS).1;have G:=(dP Q aS).ok j
     cases H:e.au with
     |nil=>rw[H]at h;cases h
     |cons a W =>
     cases hv:mX (d+1) o.next with
     |none=>rw[H,hv]at h;cases h
     |some r =>
     have⟨v,p3⟩:=r;rw[H,hv]at h;cases h;have hp3:=(fS G hv).ok G
     have hr:(aR (a::W))[0]?=some (cT a):=by simp[aR,sH]
     refine X ?_;refine D [0] (di o 0 j aS) ?_;refine D [0] (xv (d+1) _ v p3 G Z hv) ?_;refine D [0] (cY p3 [59] hp3 aS) ?_;refine aX (aI 0 9 (.a 9 (.a 10 (.a 11 .nil)))) ?_;refine zdT ?_;refine mr [] (iJ 8 at_ e.n.s [a,v] _ oZ) ?_;refine FU ?_;refine av ?_;exact lq
    ·have ks':(o.aH 0==[61])=false:=uV Q;rw[ab (fun I=>Q I.2.2)]at h;cases h;refine X ?_;refine D [0] (di o 0 j aS) ?_;exact zby
   ·have ka':(e.n.at_==at_)=false:=by simpa using ka
    rw[ab (fun I=>ka I.2.1)]at h;cases h;refine X ?_;exact zby
  ·have k3':(e.n.aj==3)=false:=by simpa using k3
   rw[ab (fun I=>k3 I.1)]at h;cases h;refine X ?_;exact zby
def Zq(f:Nat):KV f:=by
 induction f using Nat.strongRecOn with
 |_ f r =>
  cases f with
  |zero=>exact⟨fun d p t q _ _ h=>by simp[mS]at h,fun d p t q _ _ h=>by simp[mS]at h,fun a d p t q _ _ _ h=>by simp[mS]at h⟩
  |succ f =>
   have C:=r f (Nat.lt_succ_self f)
   have s:∀H,H<=f->KV H:=fun H h=>r H (Nat.lt_succ_of_le h)
   exact⟨fun d p t q R n h=>Sh s d p t q R n h,fun d p t q R n h=>WD C d p t q R n h,fun a d p t q R W n h=>UD C a d p t q R W n h⟩
open Go.Xp (Nd Ar)
def aU(n:Nd):am:=[y4 n.aj,y4 n.at_,y4 n.n,.v (sv n.s),ints n.au]
def aO(f:Go.Sp.Fn):am:=[.v (sv f.name),strs f.params,y4 f.body]
def bc(a:Ar):am:=[.v (sv a.name),y4 a.size]
abbrev aQ(p:Src):am:=[strs p.aw,.sl 2 (p.aq.map bc),.sl 3 (p.az.map aO),.sl 5 (p.ak.map aU)]
def Gk(k:Int):GF prog 356 [y4 k] [] (.v (.bool (nH k))) []:=by
 unfold nH;refine ef func356 ntmps356 ?_
 cases h:decide ((1:Int)<=k)
 all_goals
  exact aC
def Gl(k:Int):GF prog 320 [y4 k] [] (.v (.bool (jl k))) []:=by
 unfold jl;refine ef func320 ntmps320 ?_
 cases h:decide ((7:Int)<=k)
 all_goals
  exact aC
def tu(s:ai):GF prog 319 [.v (sv s)] [] (.v (.bool (fX s))) []:=by
 refine ah func319 ntmps319 ?_;refine D [] jZ ?_;refine GW.range (levels.map fun l=>[strs l]).length (fun k o c=>o=[.v (sv s),U,U,U,U,.sl 1 (levels.map fun l=>[strs l]),y4 ((levels.map fun l=>[strs l]).length:Int),y4 (k:Nat),U,U,U,U,U,U,U]/\c=[]/\((levels.take k).any fun l=>l.contains s)=false) ?_ aS ?_ ?_ ?_
 ·exact lK
 ·exact jE
 ·rintro k _ _ G⟨rfl,rfl,t⟩
  have G:k<levels.length:=by simpa using G
  have hx:levels[k]?=some levels[k]:=by simp[G]
  have i:(levels.map fun l=>[strs l])[k]?=some [strs levels[k]]:=by simp[G]
  have F:levels[k].length<=1099511627776:=by
   have:∀l∈levels,l.length<=1099511627776:=by decide
   exact this _ (getElem_mem G)
  generalize levels[k]=x at *;have u:=jO x s F
  cases r:x.contains s with
  |true =>
   rw[r]at u
   have O:fX s=true:=by
    unfold fX;rw[qJ];exact⟨x,bR hx,r⟩
   refine X ?_;refine D [] u ?_;refine ct ?_;rw[O];exact zai
  |false =>
   rw[r]at u;refine X ?_;refine D [] u ?_;exact⟨rfl,rfl,_,_,Wk.bb aD,rfl,rfl,by rw[dI,hx,List.any_append,t];simp only[Option.toList,List.any_cons,List.any_nil,r];rfl⟩
 ·rintro _ _⟨rfl,rfl,t⟩
  have t:fX s=false:=by
   rw[mz zfm]at t;exact t
  refine zdy ?_;rw[t];exact zai
def bH{l:List T}{i:Nat}{t:T}(h:l[i]?=some t):(aR l)[i]?=some (cT t):=by
 induction l generalizing i with
 |nil=>simp at h
 |cons a l q =>
  cases i with
  |zero=>cases h;simp[aR,sH]
  |succ i=>simpa[aR]using q zfs
def gm(t:T)(m:Nat)(W:t.au.length<=1099511627776):GF prog 318 [.agg (cT t),y4 (m:Nat)] [] (.v (.bool (b0 m 0 t.au))) []:=by
 refine ah func318 ntmps318 ?_;refine GW.range (aR t.au).length (fun k o c=>o=U::y4 (m:Nat)::U::U::U::U::U::U::.sl 6 (aR t.au)::y4 ((aR t.au).length:Int)::y4 (k:Nat)::zU 26 []/\c=[]/\b0 m k (t.au.drop k)=b0 m 0 t.au) ?_ (by rw[bs];exact W) ?_ ?_ ?_
 ·exact⟨_,_,(Wk.cut (n:=0) (a8 _) rfl).trans (Wk.bb aD),rfl,rfl,rfl⟩
 ·exact jE
 ·rintro k _ _ G⟨rfl,rfl,s⟩
  have G:k<t.au.length:=by rw[bs]at G;exact G
  have hx:t.au[k]?=some t.au[k]:=by simp[G]
  have i:=bH hx;rw[kP G,b0]at s;generalize t.au[k]=x at *;have e:=Gk x.n.aj
  by_cases N:k<m
  ·have l:decide ((k:Int)<(m:Int))=true:=by simpa using N
   have H:decide ((m:Int)<=(k:Int))=false:=by simpa using N
   rw[ae N]at s
   cases r:nH x.n.aj with
   |true =>
    rw[r]at e s;refine X ?_;refine D [] e ?_;exact zdd
   |false =>
    rw[r]at e s;refine X ?_;refine D [] e ?_;refine ct ?_;rw[<-s];exact zai
  ·have l:decide ((k:Int)<(m:Int))=false:=by simp;omega
   have H:decide ((m:Int)<=(k:Int))=true:=by simp;omega
   rw[ab N]at s
   cases r:(x.n.aj==14)with
   |true =>
    rw[r]at s
    have u:(x.n.aj != 14)=false:=by simp only[bne,r];rfl
    refine X ?_;exact zdd
   |false =>
    rw[r]at s
    have u:(x.n.aj != 14)=true:=by simp only[bne,r];rfl
    refine zdy ?_;rw[<-s];exact zai
 ·rintro _ _⟨rfl,rfl,s⟩;rw[bs,drop_length,b0]at s;refine zdy ?_;rw[<-s];exact zai
def cH{l:List Nd}{i:Nat}{n:Nd}(h:l[i]?=some n):(l.map aU)[i]?=some (aU n):=by rw[b6,h];rfl
def iq{l:List Int}{i:Nat}{n:Int}(h:l[i]?=some n):(l.map fun i=>[y4 i])[i]?=some [y4 n]:=by rw[b6,h];rfl
def DG(p:Src)(G:∀n∈p.ak,n.au.length<=1000000000000):∀(f a:Nat)(t:T),sub p.ak f a=some t->GF prog 120 [.agg (aQ p),y4 (a:Nat)] [] (.agg (cT t)) []:=by
 intro f
 induction f using Nat.strongRecOn with
 |_ f I =>
 intro a t h
 cases f with
 |zero=>simp[sub]at h
 |succ f =>
 rw[sub]at h
 cases Q:p.ak[a]? with
 |none=>rw[Q]at h;cases h
 |some n =>
 rw[Q]at h;simp only at h
 cases A:pj p.ak f n.au []with
 |none=>rw[A]at h;cases h
 |some l =>
 rw[A]at h;cases h;have J:=cH Q;have H:=G n (bR Q);refine ah func120 ntmps120 ?_;refine GW.wk (Wk.zE (i:=2) (o:=5) 89 6 rfl rfl) ?_
 refine GW.range (n.au.map fun i=>[y4 i]).length (fun k B c=>∃j r g,B=[U,y4 (a:Nat),.loc 0 0,U,.loc 1 0,.loc 2 0,U,U,U,U,U,U,U,U,U,U,U,U,U,ints n.au,y4 ((n.au.map fun i=>[GV.v (ii i)]).length:Int),y4 (k:Nat),U,U,U,U,U,U,U,U,U,U,U,U,U] /\
   c=[.box 28 (aQ p),.box 89 zT,.box 89 [y4 n.aj,y4 n.at_,y4 n.n,.v (sv n.s),ints n.au,.vec 3 k],.vec 89 6 0 j] /\
   j.length=k/\j=aR r/\g<=f/\pj p.ak g (n.au.drop k) r=some l) ?_ (by simp;omega) ?_ ?_ ?_
 ·exact⟨_,_,Wk.bb aD,[],[],f,rfl,rfl,rfl,rfl,a8 _,A⟩
 ·rintro k _ _⟨_,_,_,rfl,rfl,_⟩;exact eB
 ·rintro k _ _ u⟨j,r,g,rfl,rfl,E,C,F,h⟩
  have u:k<n.au.length:=by simpa using u
  have hx:n.au[k]?=some n.au[k]:=by simp[u]
  rw[kP u]at h;generalize n.au[k]=x at *
  cases g with
  |zero=>simp[pj]at h
  |succ g =>
  rw[pj]at h
  by_cases z:x<0
  ·rw[ae z]at h;cases h
  rw[ab z]at h
  cases d:sub p.ak g x.toNat with
  |none=>rw[d]at h;cases h
  |some t =>
  rw[d]at h;simp only at h;have m:=I g Z x.toNat t d;rw[Int.toNat_of_nonneg Z]at m;have O:=iq hx;refine X ?_;refine aX (aI 0 4 (.a 4 (.a 5 (.a 6 (.q 7 (.a 8 .nil)))))) ?_;refine av ?_;refine aN [] m ?_;refine zaI ?_;refine qk ?_;refine bA ?_;exact⟨rfl,rfl,_,_,Wk.bb aD,_,r++[t],g,rfl,rfl,by rw[bl,E];rfl,by rw[ub,C];rfl,by omega,h⟩
 ·rintro _ _⟨j,r,g,rfl,rfl,E,C,F,h⟩;rw[bI,drop_length]at h
  have w:r=l:=by cases g<;>(rw[pj]at h;cases h;rfl)
  subst w;subst C;refine bx (GW.wk (Wk.uy (i:=2) (o:=5) rfl rfl rfl rfl E) ?_);exact lq
end Go.Xg
namespace Go.Xg
open Go.RowKit Go.Xw Go.Proofs Go.WideShapes Go.Deep
def flat(v:Value):Prop:=∀a n c,v≠.slice a n c
def Oy(W:World)(v:Value)(xs:List Value):Prop:=∃a c,v=.slice a xs.length c/\(xs=[]\/∃b o,a=some ⟨b,o,none⟩/\xs.length<=c/\∀i x,xs[i]?=some x->iU W.heap b (o+i)=some x/\flat x)
open Classical in
noncomputable def KW(W:World):Fz:=fun b o=>match iU W.heap b o with
 |none=>none
 |some v=>if ∃a n c,v=.slice a n c then(if h:∃xs,Oy W v xs then some (.sl 1 (h.choose.map fun x=>[.v x]))else none)else some (.v v)
def Bi{W:World}{b o:Nat}{v:Value}(h:iU W.heap b o=some v)(hf:flat v):KW W b o=some (.v v):=by
 unfold KW;rw[h];simp only;rw[if_neg (by rintro⟨a,n,c,e⟩;exact hf a n c e)]
def Nt{W:World}{v:Value}{xs:List Value}(hx:Oy W v xs)(β:Bt):Rel (KW W) β v (.sl 1 (xs.map fun x=>[GV.v x])):=by
 obtain⟨a,c,rfl,h⟩:=hx
 rcases h with rfl|⟨b,o,rfl,hc,XG⟩
 ·exact .sl0 a c 1
 ·have:=Rel.sl (K:=KW W) (β:=β) b o c 1 (xs.map fun x=>[GV.v x]) (fun i r hr=>by
   rw[List.getElem?_map]at hr
   cases hi:xs[i]? with
   |none=>rw[hi]at hr;cases hr
   |some x =>
    rw[hi]at hr;cases hr;have⟨h1,h2⟩:=XG i x hi;refine⟨rfl,fun j g hg=>?_⟩
    cases j with
    |zero=>cases hg;rw[Nat.mul_one,Nat.add_zero];exact Bi h1 h2
    |succ j=>simp at hg) (by rw[List.length_map];exact hc)
  rw[List.length_map]at this;exact this
def W4(W:World):n5 (KW W) W:=fun b o g h=>by
 unfold KW at h
 cases hc:iU W.heap b o with
 |none=>rw[hc]at h;cases h
 |some v =>
  rw[hc]at h;simp only at h;split at h
  ·split at h
   ·rename_i hex;cases h;exact⟨rfl,v,rfl,Nt hex.choose_spec _⟩
   ·cases h
  ·cases h;exact⟨rfl,v,rfl,.v v⟩
def OS{W:World}{a:Addr}{n:Nat}{v:Value}(h:W.cell? (a.add n)=some v):iU W.heap a.block (a.off+n)=some v:=by
 unfold Addr.add at h;split at h
 ·rename_i h0;subst h0;have⟨b,o,s⟩:=a;have hs:=World.cell?_spot h;simp only at hs;subst hs;rw[fZ]at h;exact h
 ·have⟨b,o,s⟩:=a;simp only at h;rw[fZ]at h;exact h
def OH{W:World}{a:Addr}{v:Value}(h:W.cell? (a.add 0)=some v):a.spot=none:=by
 have:=World.cell?_spot h;unfold Addr.add at this;rw[if_pos rfl]at this;exact this
def yO{α:Type}{Q:Nat->α->Prop}:∀{n:Nat},(∀i,i<n->∃x,Q i x)->∃l:List α,l.length=n/\∀i x,l[i]?=some x->Q i x
 |0,_=>⟨[],rfl,fun i x h=>by simp at h⟩
 |n+1,h=>by
  obtain⟨l,h1,h2⟩:=yO (n:=n) fun i hi=>h i Z
  have⟨x,hx⟩:=h n Z;refine⟨l++[x],by simp[h1],fun i y hi=>?_⟩
  by_cases Aq:i<n
  ·rw[List.getElem?_append_left Z]at hi;exact h2 i y hi
  ·have oo:=(List.getElem?_eq_some_iff.1 hi).1;rw[length_append,length_cons,length_nil]at oo
   have:i=n:=by omega
   subst this;rw[List.getElem?_append_right Z,h1,Nat.sub_self]at hi
   cases hi;exact hx
def max_le{n:Nat}(h:n<=maxLen):n<=9223372036854775807:=by unfold maxLen at h;omega
section
variable{H:Type}{enc:TypeId × Value->H}{P:Program}{W:World}
end
section
variable{H:Type}{enc:TypeId × Value->H}{W:World}
end
end Go.Xg
namespace Go.Xg
open Go.RowKit Go.Xw Go.Proofs Go.Lib
section
variable{P:Program}{W:World}{name:String}{k:IntKind}{zs:List Int}
def NO{g:Nat}{t e:TypeId}{n:Nat}
  (hg:P.globalNamed name=some g)(hty:(P.globals[g]?).map (·.type)=some t)(ht:P.underlying t=some (.array n e))(he:P.underlying e=some (.int k))(L6:P.cellsOf e=1)(An:P.cellsOf t=n)
  (h:VarReads P W name (tabData k zs)):TabIs P W name k zs:=by
 have⟨g',t',cs,fuel,p,wP,Vy,aan,hd⟩:=h;obtain rfl:=Option.some.inj (hg.symm.trans wP);obtain rfl:=Option.some.inj (hty.symm.trans Vy);unfold TabIs;rw[aan,<-cells_of_tab ht he L6 An hd]
def I3{g n:Nat}(hg:P.globalNamed name=some g)(hn:zs.length=n)(h:TabIs P W name k zs):sW W g n:=by
 unfold TabIs World.var? at h;rw[hg]at h;simp only[Option.bind_some]at h
 cases hb:W.heap[g]? with
 |none=>rw[hb]at h;cases h
 |some o =>
  rw[hb]at h
  cases o with
  |cells cs E z =>
   simp only[Option.some.injEq]at h;exact⟨cs,E,z,hb,by rw[h];simpa using hn⟩
  |_=>cases h
def KT{g:Nat}(hg:P.globalNamed name=some g)(h:TabIs P W name k zs){o:Nat}{z:Int}(ho:zs[o]?=some z):KW W g o=some (.v (.int k z)):=by
 have oo:=(List.getElem?_eq_some_iff.1 ho).1;have hc:=h.cell hg o oo;rw[List.getD_eq_getElem?_getD,ho,fZ]at hc
 exact Bi hc fun a n c e=>by cases e
end
theorem TQ{W:World}(hp:VarReads Tryz.prog W "internal/strconv.uint64pow10" (tabData .u64 vq))(hs:VarReads Tryz.prog W "strings.asciiSpace" (tabData .u8 vC))(hW:W.ShapedOpen Tryz.prog):mD (KW W) (fun _=>.no) W:=by
 have gp:Tryz.prog.globalNamed "internal/strconv.uint64pow10" = some 3:=by kernel_rfl
 have gs:Tryz.prog.globalNamed "strings.asciiSpace" = some 1:=by kernel_rfl
 have tp:=NO gp (t:=328) (by kernel_rfl) Tryz.underlying328 (k:=.u64) (by kernel_rfl) (by kernel_rfl) (by kernel_rfl) hp;have ts:=NO gs (t:=306) (by kernel_rfl) Tryz.underlying306 (k:=.u8) (by kernel_rfl) (by kernel_rfl) (by kernel_rfl) hs;obtain⟨m,hm⟩:=cell_of_shapedOpen_int (g:=0) (zero:=#[.int .i64 0]) (t:=3) hW (of_decide_eq_true (by kernel_rfl)) (by kernel_rfl) rfl (by kernel_rfl) (by kernel_rfl) Tryz.underlying3;rw[fZ]at hm;refine⟨⟨m,fun b o g h=>?_⟩,I3 gp aS tp,I3 gs aS ts,fun i b h=>by cases h⟩;unfold ze at h;split at h
 ·rename_i hb;subst hb;split at h
  ·cases h;exact Bi hm fun a n c e=>by cases e
  ·cases h
 ·split at h
  ·rename_i hb;subst hb
   cases ho:vq[o]? with
   |none=>rw[ho]at h;cases h
   |some z=>rw[ho]at h;cases h;exact KT gp tp ho
  ·split at h
   ·rename_i hb;subst hb
    cases ho:vC[o]? with
    |none=>rw[ho]at h;cases h
    |some z=>rw[ho]at h;cases h;exact KT gs ts ho
   ·cases h
def GF.calls{P:Program}{f:FuncId}{gs:am}{g:GV}(h:GF P f gs [] g []){W:World}{vs:List Value}(hv:bJ (KW W) (fun _=>.no) vs gs)(hT:mD (KW W) (fun _=>.no) W) :
  pn P f vs W fun v w'=>Below W.heap.size W w'/\∃K β,Rel K β v g:=by
 have hI:Inv ⟨W,fT,KW W,fun _=>.no,0⟩ (KW W) (fun _=>.no) [] W :=
  ⟨Ext.refl W,c7.refl _,dO.refl _,fun _ _=>rfl,W4 W,fun i x h=>by simp at h,fun _ _=>rfl,fun i j b h=>zfu,fun i b h=>zfu,fun b o g h=>.inl h,hT⟩
 refine(h ⟨W,fT,KW W,fun _=>.no,0⟩ (KW W) (fun _=>.no) W vs rfl hI hv).mono ?_;rintro v w'⟨K',fu,x,bO,h1,h2,rfl,rfl⟩;exact⟨h1.ext.below,K',fu,h2⟩
end Go.Xg
namespace Go.Xg
open Go.RowKit Go.Xw
def yA{A:Prop}(s:A:=by repeat (first|exact trivial|refine⟨rfl,?_⟩)):A:=s
section
variable{A B C:Prop}(bf:List Nat)
def aB(c:C)(h:B)(s:qK bf C->Hid B->A:=by intro I J;(refine GL.rK I pM rfl yA rfl ?_;refine rG cZ dN ?_);exact J.1):A:=s ⟨c⟩ ⟨h⟩
def ql(c:C)(h:B)(s:qK bf C->Hid B->A:=by intro I J;(refine OA rfl rfl (GL.rK I pM rfl yA rfl (GL.nil (bx (dy.mk jM ?_))));refine jC cZ dN ?_);exact J.1):A:=s ⟨c⟩ ⟨h⟩
def Di(c:C)(h:B)(s:qK bf C->Hid B->A:=by intro I J;(refine GL.DY I pM rfl yA ?_);exact J.1):A:=s ⟨c⟩ ⟨h⟩
end
def gn(n:Int):bits .and .i64 n 4294967295=n%4294967296:=by
 have h:(BitVec.ofInt 64 4294967295).toNat=2^32-1:=by decide
 have c:(BitVec.ofInt 64 n &&& BitVec.ofInt 64 4294967295).toNat=(n%((2^64:Nat):Int)).toNat%2^32:=by
  rw[BitVec.toNat_and,BitVec.toNat_ofInt,h,Nat.and_two_pow_sub_one_eq_mod]
 show IntKind.i64.wrap ((BitVec.ofInt 64 n &&& BitVec.ofInt 64 4294967295).toNat:Nat)=n%4294967296;rw[c,IntKind.wrap_i64];omega
section
variable{P:Program}{fr:am}{Γ:ap}
def V.gn{x y:Operand}{t t':TypeId}{a:Int}(hx:bd fr x=y4 a)(m:bd fr y=y4 4294967295):V P (.binOp .and t x y t') fr Γ (y4 (a%4294967296)) :=
 V.v2 hx m fun l w h k d H r B=>by
  simp[execOp,eqGuard,h,k,binOp,intBits_and,Go.Xg.gn]
end
end Go.Xg
namespace Go.Xw
open Go.RowKit
class Cv (P:Program) (t:TypeId) (e:outParam TypeId):Prop where
 is:P.underlying t=some (.slice e)/\∃i,P.info? e=some i/\i.zero=some (.int .u8 0)/\i.size=1/\i.bytes=1
def QJ(P:Program)(t e:TypeId):Bool :=
 (match P.underlying t with|some (.slice j)=>j==e|_=>false)&&(match P.info? e with|some i=>(match i.zero with|some (.int .u8 0)=>true|_=>false)&&i.size==1&&i.bytes==1|none=>false)
theorem Cv.mk'{P:Program}{t e:TypeId}(h:QJ P t e=true):Cv P t e:=by
 unfold QJ at h;rw[a6]at h;have⟨z,v⟩:=h;refine⟨?_,?_⟩
 ·grind
 grind
section
variable{P:Program}{Q:mf}{l:List Value}{w:World}{ops:Array Oper}{rest:List Oper}{d:Option Tmp}{ty:TypeId}{pos:String}{af:Array Edge}
def lS(s:ai):List Value:=s.map fun c=>.int .u8 (c.toNat:Int)
theorem WL.Bq{s x:Operand}{t u e:Nat}[hT:Cv P t e][hU:qo P u]{base n:Nat}{xs:List Value}{v:Value}{str:ai}(hs:ev l s=v)(o:ik w base e 1 v n xs)(hx:ev l x=sv str)
  (T:n+str.length<=140737488355328)(C:base<=w.heap.size)
  (h:∀B w',ik w' base e 1 B (n+str.length) (xs++lS str)->Ext (fun b=>v.ownBlock=some b) w w'->(∀b,B.ownBlock=some b->v.ownBlock=some b\/w.heap.size<=b)->(Ext fT w w'\/B.ownBlock=v.ownBlock)->WL P ops Q rest (put l d B) w') :
  WL P ops Q (⟨d,.call ⟨.builtin .append,#[s,x],#[t,u]⟩,ty,pos,af,none⟩::rest) l w:=by
 have⟨M,i,J,W,H,E⟩:=hT.is;have z:=hU.und
 have A:(⟨str.toArray⟩:ByteArray).size=str.length:=by rfl
 have F:Lib.strCells ⟨str.toArray⟩=lS str:=by rfl
 have⟨B,w',hr,h2,N,h4⟩:=Lib.run_append_own_string (P:=P) w base t u ty e i M z J W H E v n xs o ⟨str.toArray⟩ zfz zfn C;rw[A,F]at h2;rw[A]at h4;have R:Ext (fun b=>v.ownBlock=some b) w w':=⟨N.os,N.tape,N.output,N.size,fun j hj hn=>N.block j hj fun he=>hn he.symm⟩;have S:(Builtin.append_ #[t,u] ty #[v,sv str]).run P w=.ok B w':=hr;refine WL.val (v:=B) (w':=w') (by simp[execOp,resolve,invoke,builtin,hs,hx,S]) (h B w' h2 R ?_ ?_)
 ·intro b' Ak
  rcases o.2 with⟨rfl,rfl⟩|⟨g,c,cur,rfl,HM,hg,CO,Am,F,I⟩
  ·by_cases hm:str.length=0
   ·grind
   ·have r:=run_append_nil_string (P:=P) w t u ty e i (.int .u8 0) M z J W ⟨str.toArray⟩ zfn zfn zfk
    exact zbQ
  ·by_cases G:n+str.length<=c
   ·have O:cur.size=c:=by omega
    have r:=Lib.run_append_room_string (P:=P) w t u ty e i M z J H g n c cur hg ⟨str.toArray⟩ zfn zfn
    exact zbQ
   ·have q:∀j u,xs[j]?=some u->w.cell? ((⟨g,0,none⟩:Addr).add j)=some u:=World.ownsRow.cells (g:=g) o rfl;have r:=Lib.run_append_grow_string (P:=P) w t u ty e i (.int .u8 0) M z J W ⟨g,0,none⟩ n c xs zfk q ⟨str.toArray⟩ zfn zfn zgc
    exact zbQ
 ·rcases o.2 with⟨rfl,rfl⟩|⟨g,c,cur,rfl,HM,hg,CO,Am,F,I⟩
  ·exact zbQ
  ·by_cases G:n+str.length<=c
   ·have O:cur.size=c:=by omega
    have r:=Lib.run_append_room_string (P:=P) w t u ty e i M z J H g n c cur hg ⟨str.toArray⟩ zfn zfn
    exact zbQ
   ·have q:∀j u,xs[j]?=some u->w.cell? ((⟨g,0,none⟩:Addr).add j)=some u:=World.ownsRow.cells (g:=g) o rfl;have r:=Lib.run_append_grow_string (P:=P) w t u ty e i (.int .u8 0) M z J W ⟨g,0,none⟩ n c xs zfk q ⟨str.toArray⟩ zfn zfn zgc;rw[hr]at r;cases r;exact zdt
theorem R.hH{x:Operand}{s:TypeId}{i n:Nat}[H:dr P s i n 1 false]{vs:List Value}{v:Value}(hx:ev l x=.agg vs.toArray)(N:vs[n]?=some v):fA P l w (.field s x i) v:=fun d ty pos af=>by
 have⟨H⟩:=H;unfold JM at H;split at H
 ·rename_i M W;split at H
  ·rename_i f t;simp only[a6,beq_iff_eq,bne_iff_ne,ne_eq]at H;have⟨⟨⟨z,A⟩,J⟩,j⟩:=H
   have e:(isAgg f.type).run P w=.ok false w:=by
    cases o:P.underlying f.type with
    |none=>grind
    |some d =>
     rw[o]at j;unfold isAgg;rw[Sem.run_bind,run_underlying o w]
     cases d<;>simp_all[xU]
   have c:vs.toArray[f.offset]?=some v:=by grind
   have I:vs[f.offset]?=some v:=by grind
   simp[execOp,Instr.field,hx,run_underlying W,t,part,asAgg,e,c,I]
  grind
 grind
end
end Go.Xw
namespace Go.Xg
open Go.RowKit Go.Xw
open GV (U)
section
variable{P:Program}{m:Nat}{Q:dF}{fr:am}{Γ:ap}{ops:Array Oper}{rest:List Oper}{d:Option Tmp}{op:Op}{ty:TypeId}{pos:String}{af:Array Edge}
theorem V.hH{x:Operand}{s:TypeId}{i n:Nat}[H:dr P s i n 1 false]{cs:am}{g:GV}(hx:bd fr x=.agg cs)(hg:cs[n]?=some g):V P (.field s x i) fr Γ g:=fun B K b w l S k=>by
 have h:=k.ev x;rw[hx]at h;generalize N:ev l x=v at h
 cases h with
 |agg j _ W h =>
  have M:n<j.length:=by grind
  exact⟨j[n],R.hH N zfR,h n _ g zfR hg⟩
abbrev cW(s:ai):List am:=s.map fun c=>[.v (.int .u8 (c.toNat:Int))]
theorem GL.Bq{s x:Operand}{t u e:Nat}[hT:Cv P t e][hU:qo P u]{i n fz:Nat}{rows:List am}{str:ai}(hx:bd fr x=.v (sv str))(hs:bd fr s=.vec i n)(F:Γ[i]?=some (.vec e 1 fz rows))(hn:rows.length=n)(A:str.isEmpty=false)
  (hb:n+str.length<=140737488355328)
  (h:GL P m ops Q rest (bQ fr d (.vec i (n+str.length))) (oset Γ i (.vec e 1 fz (rows++cW str)))) :
  GL P m ops Q (⟨d,.call ⟨.builtin .append,#[s,x],#[t,u]⟩,ty,pos,af,none⟩::rest) fr Γ:=fun B K β w l hm hI I=>by
 subst hn
 have A:str≠[]:=by grind
 have⟨h0,xs,o1,H,o3,o4,o5,o6⟩:=hI.ob i _ F;have k:=I.ev s;rw[hs]at k
 have HY:ev l s=h0:=by
  generalize hv:ev l s=v at k
  cases k with
  |vec _ _ a c hh =>
   grind
 have S:(cW str).flatten=str.map fun c=>GV.v (.int .u8 (c.toNat:Int)):=by
  unfold cW;clear hx A hb h;generalize str=s
  induction s with
  |nil=>rfl
  |cons c r ih=>grind
 have hlen:(cW str).length=str.length:=by simp
 refine WL.Bq (base:=0) (v:=h0) (n:=rows.length) (xs:=xs) (str:=str) HY H (I.fC hx) hb (bj _) ?_;intro v' w' C z T xj
 obtain⟨K',hK,CP,q⟩:=hI.grow F o1 ⟨H,o3⟩ (news:=cW str) (ns:=lS str) zfk z T (by rw[S];exact(by
   have:(str.map fun c=>GV.v (.int .u8 (c.toNat:Int)))=gO (lS str):=by simp[gO,lS]
   rw[this];exact bJ.self)) (fun r hr=>by
   grind[GV.pc]) zfk (fun b j o v ho hv=>by
  rcases xj with G|G
  ·exact G.c hv (fun h=>h)
  ·have W:o<xs.length:=by rw[H.1];omega
   have⟨b2,c2,O,_,_,N⟩:=H.cells.2 zfk
   have J:b2=b:=by rw[O]at j;cases j;rfl
   subst J;have E:=N o xs[o] (by simp[W]);rw[fZ,hv]at E;cases E;have⟨b3,c3,R,_,_,YO⟩:=C.cells.2 zfA
   have M:b3=b2:=by rw[R,j]at G;cases G;rfl
   subst M
   rw[<-fZ];grind)
 rw[<-bU]at q;refine h B K' _ w' _ hm q ((I.mono hK CP).put d ?_);obtain⟨a,c,rfl⟩:=C.shape;exact .vec i _ a c ⟨_,_,bV,by simp,fun _=>by rfl⟩
end
def GF.VU{P:Program}{f:FuncId}{vs:List Value}{v:Value}(h:∀K β w,mD K β w->n5 K w->pn P f vs w fun x w'=>x=v/\Ext fT w w'):GF P f (vs.map GV.v) [] (.v v) []:=fun B K β w k O R j=>by
 have N:k=vs:=by
  have⟨A,z⟩:=j;apply ext_getElem
  ·grind
  ·intro i I c;have:=z i k[i] (.v vs[i]) (by simp[I]) (by simp[c]);exact Rel.fx this
 subst N
 exact(h K β w R.tab R.fz).mono fun x w' ⟨A,z⟩=>⟨K,β,.v v,[],R.same z,by rw[A];exact .v _,rfl,rfl⟩
def mD.cell{K:Fz}{β:Bt}{w:World}(h:mD K β w)(hf:n5 K w){b o:Nat}{x:Value}(G:∀m,ze m b o=some (.v x)):iU w.heap b o=some x:=by
 have⟨m,h⟩:=h.le;have⟨_,v,N,i⟩:=hf b o _ (h b o _ (G m));rw[N,Rel.fx i]
theorem mD.maxLen{K:Fz}{β:Bt}{w:World}(h:mD K β w)(hf:n5 K w):∃m,w.cell? ⟨0,0,none⟩=some (.int .i64 m):=by
 have⟨m,h⟩:=h.le
 have G:ze m 0 0=some (.v (.int .i64 m)):=by rfl
 have⟨_,v,N,i⟩:=hf _ _ _ (h _ _ _ G)
 grind[fZ,Rel.fx]
def sW.all{K:Fz}{β:Bt}{w:World}(h:mD K β w)(hf:n5 K w){b n:Nat}{zs:List Value}(r:sW w b n)(hn:zs.length=n)(G:∀m o x,zs[o]?=some x->ze m b o=some (.v x)):∃E z,w.heap[b]?=some (.cells zs.toArray E z):=by
 have⟨j,E,z,B,C⟩:=r;refine⟨E,z,?_⟩
 have:j=zs.toArray:=by
  apply Array.ext
  ·grind
  ·intro i M A
   have hx:zs[i]?=some zs.toArray[i]:=by simp
   have I:=h.cell hf (b:=b) (o:=i) (fun m=>G m i _ hx)
   grind[iU,fZ,cell_of_row]
 grind
def GF.aau{P:Program}{f:FuncId}{vs us:List Value}{E:TypeId}(h:∀K β w,mD K β w->n5 K w->pn P f vs w fun x w'=>x=.slice (some ⟨w.heap.size,0,none⟩) us.length us.length/\w'=w.alloc (.cells us.toArray E)):GF P f (vs.map GV.v) [] (.sl 1 (us.map fun u=>[.v u])) []:=fun B K β w b O R j=>by
 have N:b=vs:=by
  have⟨A,z⟩:=j;apply ext_getElem
  ·grind
  ·intro i I c;have:=z i b[i] (.v vs[i]) (by simp[I]) (by simp[c]);exact Rel.fx this
 subst N
 refine(h K β w R.tab R.fz).mono fun x w' ⟨A,z⟩=>?_
 subst A;subst z;have S:=uQ.of w (.cells us.toArray E);obtain⟨T,C⟩:=R.ud S (cs:=us.map .v) bJ.self (fun g F=>by grind[GV.pc]);refine⟨_,β,.sl 1 (us.map fun u=>[.v u]),[],C,?_,rfl,rfl⟩;have:=Rel.sl (K:=j4 K w.heap.size (us.map .v)) (β:=β) w.heap.size 0 us.length 1 (us.map fun u=>[.v u]) (fun i r k=>?_) zfm
 ·grind
 grind[j4]
section
variable{B:Bs}{K:Fz}{β:Bt}{Γ:ap}{w:World}
theorem Inv.swap{i:Nat}{y:Ob}(h:Inv B K β Γ w)(S:gP K β w i y):Inv B K β (oset Γ i y) w:=by
 refine⟨h.ext,h.kle,h.ble,h.loc,h.fz,fun j x o=>?_,fun j o=>h.out j zfw,h.dis,h.own,h.kn,h.tab⟩;rw[bU,iY]at o;split at o
 ·grind
 ·exact h.ob j x o
def Inv.xM{i E k:Nat}{rows:List am}{x:Value}(h:Inv B K β Γ w)(hi:Γ[i]?=some (.vech E k rows x)):Inv B K β (oset Γ i (.vec E k 0 rows)) w:=by
 have⟨l,z,v,I,c,F⟩:=h.ob i _ hi;exact h.swap ⟨x,l,z,v,I,c,fun b r=>⟨fun o _=>F b r o,fun o g S=>by omega⟩,bj _⟩
def Inv.uJ{i E k:Nat}{rows:List am}(h:Inv B K β Γ w)(hi:Γ[i]?=some (.vec E k 0 rows)):∃a c,β i=.gr (.slice a rows.length c) rows.length/\Inv B K β (oset Γ i (.vech E k rows (.slice a rows.length c))) w:=by
 have⟨x,l,z,v,I,e,F,H⟩:=h.ob i _ hi;obtain⟨a,c,rfl⟩:=v.shape;exact⟨a,c,z,h.swap ⟨l,z,v,I,e,fun b r o=>(F b r).1 o Z⟩⟩
theorem mn{i:Nat}{x y:Ob}(h:Γ[i]?=some x):(oset Γ i y)[i]?=some y:=by
 grind[List.getElem?_eq_some_iff,bU]
theorem kU{i:Nat}{x y:Ob}:oset (oset Γ i x) i y=oset Γ i y:=by grind[bU,List.set_set]
def Inv.gr{i E k:Nat}{rows:List am}{x:Value}(h:Inv B K β Γ w)(hi:Γ[i]?=some (.vech E k rows x)):β i=.gr x rows.length:=by
 have⟨l,z,_⟩:=h.ob i _ hi;exact z
def Inv.pJ{i E k:Nat}{rows:List am}{x:Value}(h:Inv B K β Γ w)(hi:Γ[i]?=some (.vech E k rows x)):∃O,c7 K O/\Rel O β x (.sl k rows)/\Inv B O β (oset Γ i (.vec E k rows.length rows)) w:=by
 have⟨o,A,v,I,l,J⟩:=h.ob i _ hi;have⟨O,b,c,C⟩:=(h.xM hi).iC (mn hi);rw[<-bU,kU]at C;refine⟨O,b,?_,C⟩
 rcases v.2 with⟨e,G⟩|⟨g,F,H,e,_,_,N,_⟩
 ·have:rows=[]:=ky G;subst this;subst e;exact .sl0 _ _ _
 ·subst e;refine .sl g 0 F k rows (fun j r n=>⟨(l r (bR n)).1,fun q s z=>?_⟩) N;rw[gW];exact c _ g A rfl _ s (rR l n z)
end
section
variable{P:Program}{m:Nat}{Q:dF}{fr:am}{Γ:ap}{ops:Array Oper}{rest:List Oper}{d:Option Tmp}{op:Op}{ty:TypeId}{pos:String}{af:Array Edge}
theorem Wk.kH(E k:Nat):Wk m fr Γ fr (Γ++[.vech E k [] y6]):=fun B K β w l N R n=>by
 have t:β Γ.length=.no:=R.out _ (a8 _);have C:=R.Bo (w':=w) (E:=E) (k:=k) (x:=.slice none 0 0) (xs:=[]) (rows:=[]) (Ext.refl w) (ik.nil w 0 E k) (fun b s=>by cases s) bJ.nil (fun r j=>by cases j);have T:dO β (fU β Γ.length (.gr y6 ([]:List am).length)):=iL zfO;refine⟨K,_,?_,n.mono (c7.refl K) T⟩;have s:fU β Γ.length (.gr y6 ([]:List am).length) Γ.length=.gr y6 ([]:List am).length:=bV;have:=C.swap (i:=Γ.length) (y:=.vech E k [] y6) ⟨[],s,ik.nil w 0 E k,bJ.nil,(fun r j=>by cases j),(fun b s=>by cases s)⟩
 grind[bU]
theorem Wk.A1{t i E k:Nat}{rows:List am}{x:Value}(H:cQ fr t=.v x)(A:gN fr t=true)(n:Γ[i]?=some (.vech E k rows x)):Wk m fr Γ (bN fr t (.sl k rows)) (oset Γ i (.vec E k rows.length rows)):=fun B K β w l N R j=>by
 have⟨O,b,o,C⟩:=R.pJ n;refine⟨O,β,C,?_⟩;have S:nth l t=x:=Rel.fx (by rw[<-H];exact j.nth t);have:=(j.mono b (dO.refl β)).eN t o
 grind[wJ,mJ]
theorem bJ.bN{K:Fz}{β:Bt}{x:Value}{g:GV}(i:Rel K β x g):∀{vs:List Value}{cs:am}{o:Nat},bJ K β vs cs->cs[o]?=some (.v x)->bJ K β vs (bN cs o g):=by
 intro vs
 induction vs with
 |nil=>grind
 |cons v vs q =>
  intro cs o h S
  cases cs with
  |nil=>simp at S
  |cons c cs =>
   have⟨a1,H⟩:=h.oF
   cases o with
   |zero=>cases S;have N:=Rel.fx a1;grind[Xg.bN]
   |succ o=>exact .cons a1 (q H zfk)
theorem Wk.nZ{i o j E k:Nat}{T:TypeId}{cs:am}{rows:List am}{x:Value}(hi:Γ[i]?=some (.box T cs))(S:cs[o]?=some (.v x))(F:Nat.beq i j=false)(q:Γ[j]?=some (.vech E k rows x)):Wk m fr Γ fr (oset (oset Γ j (.vec E k rows.length rows)) i (.box T (bN cs o (.sl k rows)))):=fun B K β w l N R n=>by
 have G:i≠j:=by grind
 have⟨O,e,r,C⟩:=R.pJ q;have⟨b,s,z,A,I,c⟩:=C.ob i (.box T cs) zfw;exact⟨O,β,C.swap ⟨b,s,z,A,bJ.bN r I S,c⟩,n.mono e (dO.refl β)⟩
def dk:List am->Nat->Nat->GV->List am
 |[],_,_,_=>[]
 |r::rs,0,o,g=>bN r o g::rs
 |r::rs,n+1,o,g=>r::dk rs n o g
def Eo:∀(l:am)(o:Nat)(g:GV),(bN l o g).length=l.length
 |[],_,_=>rfl
 |_::l,0,_=>rfl
 |_::l,o+1,g=>by simp[bN,Eo l o g]
def zr:∀(a b:am)(o:Nat)(g:GV),bN (a++b) (a.length+o) g=a++bN b o g
 |[],b,o,g=>by simp
 |x::a,b,o,g=>by
  rw[cons_append,length_cons,show a.length+1+o=(a.length+o)+1 by omega,bN,zr a b o g];rfl
def CK:∀(a b:am)(o:Nat)(g:GV),o<a.length->bN (a++b) o g=bN a o g++b
 |[],b,o,g,h=>by simp at h
 |x::a,b,0,g,h=>rfl
 |x::a,b,o+1,g,h=>by simp[bN,CK a b o g zfk]
theorem Ep{l:am}{o:Nat}{g x:GV}(h:x∈bN l o g):x∈l\/x=g:=by
 induction l generalizing o with
 |nil=>cases h
 |cons y l q =>
  cases o with
  |zero=>grind[bN,ey]
  |succ o=>grind[bN,mem_cons_self,ey]
theorem dm:∀(rows:List am)(i o:Nat)(g:GV),(dk rows i o g).length=rows.length
 |[],_,_,_=>rfl
 |r::rs,0,_,_=>rfl
 |r::rs,n+1,o,g=>by simp[dk,dm rs n o g]
theorem rT{k:Nat}{o:Nat}{g:GV}(S:o<k):∀{rows:List am}{i:Nat},gL k rows->i<rows.length->(dk rows i o g).flatten=bN rows.flatten (i*k+o) g
 |[],_,_,h=>by simp at h
 |r::rs,0,G,_=>by
  have:=(G r (mem_cons_self)).1;rw[dk,flatten_cons,flatten_cons,Nat.zero_mul,gW,CK _ _ _ _ Z]
 |r::rs,n+1,G,h=>by
  have:=(G r (mem_cons_self)).1;rw[dk,flatten_cons,flatten_cons,rT S (fun r j=>G r (ey _ j)) zfk,show(n+1)*k+o=r.length+(n*k+o) by grind,zr]
theorem vu{k:Nat}{o:Nat}{g:GV}(hg:g.pc=true):∀{rows:List am}{i:Nat},gL k rows->gL k (dk rows i o g)
 |[],_,_=>fun r j=>by cases j
 |r::rs,0,G=>fun H j=>by
  simp only[dk,List.mem_cons]at j
  rcases j with rfl|j
  ·exact⟨by rw[Eo];exact(G r mem_cons_self).1,fun x hx=>by
    rcases Ep hx with h|h
    ·exact(G r mem_cons_self).2 x h
    grind⟩
  ·exact G H (ey _ j)
 |r::rs,n+1,G=>fun H j=>by
  simp only[dk,List.mem_cons]at j
  rcases j with rfl|j
  ·exact G _ mem_cons_self
  ·exact vu hg (fun r j=>G r (ey _ j)) H j
theorem Fl{a b:List am}{r:am}{o:Nat}{g:GV}:dk (a++r::b) a.length o g=a++bN r o g::b:=by
 induction a with
 |nil=>rfl
 |cons x a q=>grind[dk,bN]
theorem Wk.Ks{i idx o j E k T k':Nat}{rows ks:List am}{x h:Value}{r:am}(hi:Γ[i]?=some (.vech T k rows h))(s:rows[idx]?=some r)(S:r[o]?=some (.v x))(G:Nat.beq i j=false)(z:Γ[j]?=some (.vech E k' ks x)) :
  Wk m fr Γ fr (oset (oset Γ j (.vec E k' ks.length ks)) i (.vech T k (dk rows idx o (.sl k' ks)) h)):=fun B K β w l N R u=>by
 have H:i≠j:=by intro e;simp_all
 have⟨O,b,t,C⟩:=R.pJ z;have⟨A,I,J,M,c,F⟩:=C.ob i (.vech T k rows h) zfw;have n:=(bG s).1
 have q:o<k:=by rw[<-(c r (bR s)).1];grind
 exact⟨O,β,C.swap ⟨A,by grind[dm],by grind[dm],by rw[rT q c n];grind[bJ.bN,rR],vu rfl c,F⟩,u.mono b (dO.refl β)⟩
def V.a7{x y:Operand}{t e:TypeId}{k:Nat}[H:lC P t e k](i:Nat){v:Value}{s:IntKind}{j E:Nat}{rows:List am}(hx:bd fr x=.v v)(r:bd fr y=.v (.int s j))(n:Γ[i]?=some (.vech E k rows v))(q:j<rows.length):V P (.indexAddr t x y) fr Γ (.vp i rows.length k j 0):=fun B K β w l S o=>by
 have N:=o.fC hx;have⟨u,z,A,I,c,F⟩:=S.ob i _ n
 rcases A.2 with⟨O,G⟩|⟨g,C,cur,O,_,J,_⟩
 ·omega
 ·subst O;exact⟨_,R.iI N (o.fC r) q,.vp i _ k j 0 _ ⟨_,_,z,a8 _,fun _=>⟨g,rfl,by simp⟩⟩⟩
def V.UX{x:Operand}{s:TypeId}{f r k:Nat}{agg:Bool}[H:dr P s f r k agg]{i n k' idx o E:Nat}{rows:List am}{v:Value}(hx:bd fr x=.vp i n k' idx o)(q:Γ[i]?=some (.vech E k' rows v))(hn:rows.length=n):V P (.fieldAddr s x f) fr Γ (.vp i n k' idx (o+r)):=fun B K β w l S j=>by
 have h:=j.ev x;rw[hx]at h;generalize N:ev l x=u at h
 cases h with
 |vp _ _ _ _ _ _ h =>
  have⟨M,m,z,A,I⟩:=h;rw[S.gr q]at z;cases z;obtain⟨b,t,rfl⟩:=I hn;exact⟨_,R.O7 N,.vp i n k' idx _ _ ⟨_,_,S.gr q,A,fun _=>⟨b,t,by simp⟩⟩⟩
theorem V.Zg{x:Operand}{t:TypeId}[T:Ty P t false 1]{i n k idx o E:Nat}{rows:List am}{v:Value}{r:am}{g:GV}(hx:bd fr x=.vp i n k idx o)(e:Γ[i]?=some (.vech E k rows v))(hn:rows.length=n)(M:rows[idx]?=some r)(hg:r[o]?=some g):V P (.load t x) fr Γ g:=fun B K β w l H G=>by
 have h:=G.ev x;rw[hx]at h;generalize hv:ev l x=u at h
 cases h with
 |vp _ _ _ _ _ _ h =>
  have⟨O,m,s,S,z⟩:=h;have⟨xs,j,A,C,F,_⟩:=H.ob i _ e;rw[s]at j;cases j;obtain⟨b,I,rfl⟩:=z hn;have⟨u,hu,q⟩:=C.at (rR F M hg);have⟨N,c,J,_,_,W⟩:=A.cells.2 zfk;subst J;cases I
  grind[R.ld,fZ]
def zS{v:Value}:∀(l:List Value)(n o:Nat),o<n->(eN l o v).take n=eN (l.take n) o v
 |[],n,o,h=>by simp[eN]
 |x::l,0,o,h=>by omega
 |x::l,n+1,0,h=>by simp[eN]
 |x::l,n+1,o+1,h=>by simp[eN,zS l n o Z]
theorem qH{v:Value}:∀(l:List Value)(o:Nat),(eN l o v).length=l.length
 |[],o=>rfl
 |x::l,0=>rfl
 |x::l,o+1=>by simp[eN,qH l o]
theorem GL.vE{x y:Operand}{t:TypeId}[hT:Ty P t false 1]{i n k idx o E:Nat}{rows:List am}{v:Value}{r:am}{g:GV}(hx:bd fr x=.vp i n k idx o)(sd:Γ[i]?=some (.vech E k rows v))(hn:rows.length=n)(hr:rows[idx]?=some r)(hol:Nat.blt o r.length=true)
  (hy:mI (bd fr y)=some [g])(h1:g.one=true)(hp:g.pc=true)(h:GL P m ops Q rest (bQ fr d (.v undef)) (oset Γ i (.vech E k (dk rows idx o g) v))):GL P m ops Q (⟨d,.store t x y,ty,pos,af,none⟩::rest) fr Γ:=fun B K β w l hm e T=>by
 have G:=T.ev x;rw[hx]at G;generalize hv:ev l x=u at G
 cases G with
 |vp _ _ _ _ _ _ hh =>
  have⟨h0,mm,e1,e2,e3⟩:=hh;have⟨xs,h4,h5,h6,h7,h8⟩:=e.ob i _ sd;rw[e1]at h4;cases h4;obtain⟨b,hb,rfl⟩:=e3 hn;have oo:=(bG hr).1
  have aaf:o<k:=by rw[<-(h7 r (bR hr)).1];simp_all
  have⟨us,M,N⟩:=(T.ev y).cells hy
  obtain⟨s,rfl⟩:∃s,us=[s]:=by
   have:=N.1
   match us,this with
   |[s],_=>simp
  have O:Rel K β s g:=N.2 0 s g rfl rfl
  have hq:idx*k+o<rows.length*k:=by
   have:(idx+1)*k<=rows.length*k:=rF k oo
   grind
  rcases h5.2 with⟨e5,e6⟩|⟨S,z,cur,e5,C,hg,J,Am,ps,Re⟩
  ·omega
  ·subst e5;simp only[Value.ownBlock,Option.some.injEq]at hb;subst hb;have aaU:rows.length*k<=z*k:=rF k J
   refine WL.st (t:=t) (k:=1) hv rfl hg zfk Z (by rw[M];have:=(l7 (O.one h1)).2;grind[lI]) fun w' H=>?_
   rw[M]at H
   have L8:setL cur (idx*k+o) ([s]:List Value)=(eN cur.toList (idx*k+o) s).toArray:=by
    simp only[setL];rw[<-xN]
   simp only[List.toList_toArray,L8]at H
   have aaO:rows.flatten.length=rows.length*k:=by grind
   have how:ik w' 0 E k (.slice (some ⟨S,0,none⟩) rows.length z) rows.length (eN xs (idx*k+o) s) :=
    ⟨by grind[qH],.inr ⟨S,z,_,rfl,C,H.blk,J,Am,by simp[qH,ps],by simp_all[List.toList_toArray,zS]⟩⟩
   have Vv:bJ K β (eN xs (idx*k+o) s) (bN rows.flatten (idx*k+o) g):=by
    have gen:∀(R:List Value)(A:am)(q:Nat),bJ K β R A->bJ K β (eN R q s) (bN A q g):=by
     intro R
     induction R with
     |nil=>intro A q h;have:A=[]:=ky h.1.symm;subst this;exact h
     |cons v R ih =>
      intro A q h
      cases A with
      |nil=>grind
      |cons c A =>
       have⟨a1,a2⟩:=h.oF
       cases q with
       |zero=>exact .cons O a2
       |succ q=>exact .cons a1 (ih A q a2)
    grind
   have I:(β i).has S:=by rw[e1];exact rfl
   have W:Inv B K β (oset Γ i (.vech E k (dk rows idx o g) (.slice (some ⟨S,0,none⟩) rows.length z))) w':=by
    refine⟨e.ext.step H.ext (fun j F=>?_),e.kle,e.ble,e.loc,e.fz.ext H.ext (fun b' o' g' wP he=>?_),fun j y F=>?_,fun j F=>e.out j zfw,e.dis,e.own,e.kn,e.tab.step H.ext (fun j F=>⟨i,by grind⟩) (c7.refl K) (fun i b2 h=>.inl ⟨i,h⟩)⟩
    ·subst F;exact(e.own i _ I).symm
    ·grind
    ·rw[bU,iY]at F;split at F
     ·grind[dm,rT,vu,gP]
     ·rename_i HQ;refine(e.ob j y F).ext H.ext (fun b' Ak he=>?_) (c7.refl K) (dO.refl β) rfl (fun _ _ _ h=>h);subst he;exact HQ (e.dis i j _ I Ak)
   exact h B K β w' _ hm W (T.put d (.v _))
theorem GL.lz{x:Operand}{ts:Tmp}{t e k C:Nat}{z:List Value}[hT:lP P t e k C][hZ:nS P t e k z]{q O:Tmp}{NU:TypeId}{J:String}{N:Array Edge}(i:Nat){n:Nat}{rows:List am}{gs:am}{v:Value}
  (hx:mI (bd fr x)=some gs)(hk:Nat.beq gs.length k=true)(h1:nW gs=true)(hp:oA gs=true)(hs:cQ fr ts=.v v)(hsd:Nat.beq ts q=false)(hd:gN fr q=true)(s:Γ[i]?=some (.vech e k rows v))(hn:rows.length=n)
  (R:(n+1<=9223372036854775807/\(n+1)*C<=140737488355328)/\k<=16777216)
  (h:∀a c,GL P m ops Q rest (bQ (bQ fr (some q) U) (some O) (.v (.slice a (n+1) c))) (oset Γ i (.vech e k (rows++[gs]) (.slice a (n+1) c)))) :
  GL P m ops Q (⟨some q,.buildSlice t 1 #[(0,x)],NU,J,N,none⟩::⟨some O,.call ⟨.builtin .append,#[.tmp ts,.tmp q],#[t,t]⟩,ty,pos,af,none⟩::rest) fr Γ:=fun B K β w l hm hI M=>by
 subst hn;have⟨us,VC,Mp⟩:=(M.ev x).cells hx;have⟨xs,o1,o2,o3,o4,o5⟩:=hI.ob i _ s;have W:nth l ts=v:=Rel.fx (by rw[<-hs];exact M.nth ts);have S:=mJ M hd
 have G:ts≠q:=by intro e;simp_all
 have HS:gs.length=k:=by simp_all
 refine WL.push (base:=0) (v:=v) (vs:=us) (val:=ev l x) (xs:=xs) (n:=rows.length) rfl (fun u=>by rw[show ev (put l (some q) u) (.tmp ts)=nth (eN l q u) ts from rfl,oT G];exact W) (fun u=>sM S u) VC Z (Mp.lI h1) o2 R.1.1 R.1.2 R.2 (bj _) ?_;intro u v' w' H F T xj;obtain⟨K',hK,I,E⟩:=(hI.xM s).grow (fz:=0) (mn s) o1 ⟨o2,o3⟩ (news:=[gs]) (ns:=us) H F T zfk (fun r hr=>by grind[mO]) zfm (fun b Ak o v ho hv=>by omega);rw[<-bU,kU]at E;have⟨a,c,j,A⟩:=E.uJ (mn s);rw[kU]at A;obtain⟨a',c',rfl⟩:=H.shape;rw[bV]at j;simp only[bl,length_cons,length_nil]at j A I;cases j;exact h _ _ B K' _ w' _ hm A (((M.mono hK I).put (some q) (.U u)).put (some O) (.v _))
theorem GL.nu{s x:Operand}{t e k N:Nat}[hT:lP P t e k N](i:Nat){n:Nat}{dt:Tmp}{v:Value}{rows news:List am}(hx:bd fr x=.sl k news)(hs:bd fr s=.v v)(A:Γ[i]?=some (.vech e k rows v))(hn:rows.length=n)(h1:kK news=true)(S:news.isEmpty=false)
  (hb:n+news.length<=9223372036854775807/\(n+news.length)*N<=140737488355328)
  (h:∀a c,GL P m ops Q rest (bQ fr (some dt) (.v (.slice a (n+news.length) c))) (oset Γ i (.vech e k (rows++news) (.slice a (n+news.length) c)))) :
  GL P m ops Q (⟨some dt,.call ⟨.builtin .append,#[s,x],#[t,t]⟩,ty,pos,af,none⟩::rest) fr Γ:=fun B K β w l hm hI hF=>by
 subst hn
 have S:news≠[]:=by grind
 have⟨xs,o1,o2,o3,o4,o5⟩:=hI.ob i _ A;have HY:ev l s=v:=hF.fC hs;have M:=hF.ev x;rw[hx]at M;generalize Mq:ev l x=vx at M
 cases M with
 |sl0 a c k=>grind
 |sl b o c _ _ hr _ =>
  have I:gL k news:=fun r xk=>by
   have⟨j,C⟩:=List.mem_iff_getElem?.1 xk;refine⟨(hr j r C).1,fun g G=>?_⟩;have⟨q,hq⟩:=List.mem_iff_getElem?.1 G;exact(hI.fz _ _ _ ((hr j r C).2 q g hq)).1
  have F:∀(rows:List am)(o:Nat),(∀(j:Nat)r,rows[j]?=some r->r.length=k/\∀(q:Nat)g,r[q]?=some g->K b (o+j*k+q)=some g)->∀(q:Nat)g,rows.flatten[q]?=some g->K b (o+q)=some g:=by
   intro rows
   induction rows with
   |nil=>simp
   |cons r rows ih =>
    intro o h q g G;rw[flatten_cons]at G;have hl:=(h 0 r rfl).1
    by_cases hq:q<r.length
    ·rw[n1 hq]at G;have:=(h 0 r rfl).2 q g G
     grind
    ·rw[mb Z,hl]at G
     have:=ih (o+k) (fun j r' C=>by
      have:=h (j+1) r' zfk
      grind) (q-k) g G
     grind
  obtain⟨us,J,Mp⟩:=vR (K:=K) (β:=β) (H:=w.heap) (b:=b) news.flatten o (fun j g C=>by
   obtain⟨hp,u,hu,W⟩:=hI.fz _ _ _ (F news o (fun j r C=>hr j r C) j g C)
   exact⟨u,hu,W.pc hp⟩)
  have EE:us.length=news.length*k:=by
   rw[J.1,List.length_flatten]
   have:∀(rows:List am),gL k rows->(rows.map List.length).sum=rows.length*k:=by
    intro rows
    induction rows with
    |nil=>simp
    |cons r rows ih =>
     grind[gL]
   grind
  refine WL.app (base:=0) (v:=v) (n:=rows.length) (m:=news.length) (xs:=xs) (news:=us) HY o2 Mq EE (fun j u C=>by grind[fZ]) (J.lI (AU h1)) hb.1 hb.2 (bj _) ?_;intro v' w' T R HP xj;obtain⟨K',hK,CP,O⟩:=(hI.xM A).grow (fz:=0) (mn A) o1 ⟨o2,o3⟩ (news:=news) (ns:=us) T R HP J I S (fun b Ak o v ho hv=>by omega);rw[<-bU,kU]at O;have⟨a,c,z,E⟩:=O.uJ (mn A);rw[kU]at E;obtain⟨a',c',rfl⟩:=T.shape;rw[bV]at z;simp only[bl]at z E CP;cases z;exact h _ _ B K' _ w' _ hm E ((hF.mono hK CP).put (some dt) (.v _))
end
class uC (P:Program) (t:TypeId):Prop where
 und:∃e j,P.underlying t=some (.pointer e)/\P.info? e=some j
theorem uC.mk'{P:Program}{t e:TypeId}(h:P.underlying t=some (.pointer e))(k:(P.info? e).isSome=true):uC P t:=⟨e,(P.info? e).get k,h,by simp⟩
section
variable{P:Program}{m:Nat}{Q:dF}{fr:am}{Γ:ap}{ops:Array Oper}{rest:List Oper}{d:Option Tmp}{op:Op}{ty:TypeId}{pos:String}{af:Array Edge}
def V.gR{x y:Operand}{t t':TypeId}[H:uC P t]{i o:Nat}(hx:bd fr x=.loc i o)(n:bd fr y=.v (.pointer none)):V P (.binOp .eql t x y t') fr Γ (.v (.bool false)):=fun B K W w l R k=>by
 have h:=k.ev x;rw[hx]at h;generalize N:ev l x=v at h
 cases h with
 |loc _ _ b r =>
  have⟨e,j,z,A⟩:=H.und
  have S:P.pointee t=e:=by simp[Program.pointee,z]
  have:=run_eql_pointer_nil (P:=P) w t (some ⟨b,o,none⟩) zfk;refine⟨_,fun d ty pos af=>?_,.v _⟩;simp[execOp,eqGuard,N,k.fC n,this]
def V.gS{x y:Operand}{t t':TypeId}[H:uC P t]{i o:Nat}(hx:bd fr x=.loc i o)(n:bd fr y=.loc i o):V P (.binOp .neq t x y t') fr Γ (.v (.bool false)):=fun B K u w l R k=>by
 have h:=k.ev x;rw[hx]at h;have W:=k.ev y;rw[n]at W;generalize N:ev l x=v at h;generalize c:ev l y=M at W
 cases h with
 |loc _ _ b s =>
  cases W with
  |loc _ _ q r =>
   rw[s]at r;cases r;have⟨e,j,z,A⟩:=H.und;have:=Lib.run_neq_ptr_same (P:=P) w ⟨b,o,none⟩ z A;refine⟨_,fun d ty pos af=>?_,.v _⟩;simp[execOp,eqGuard,N,c,this]
theorem Inv.again{B:Bs}{K:Fz}{β:Bt}{Γ:ap}{w w':World}{i E k:Nat}{rows:List am}{x:Value}{xs:List Value}(h:Inv B K β Γ w)(hi:Γ[i]?=some (.vech E k rows x))(S:ik w' 0 E k x rows.length xs)(l:bJ K β xs rows.flatten)
  (hx:Ext (fun b=>x.ownBlock=some b) w w'):Inv B K β Γ w':=by
 have⟨J,z,v,I,c,F⟩:=h.ob i _ hi
 have q:∀b,x.ownBlock=some b->(β i).has b:=fun b s=>by rw[z];exact s
 refine⟨h.ext.step hx (fun j r=>(h.own i j (q j r)).symm),h.kle,h.ble,h.loc,h.fz.ext hx (fun b o g G e=>by grind),fun j y r=>?_,h.out,h.dis,h.own,h.kn,h.tab.step hx (fun j r=>⟨i,q j r⟩) (c7.refl K) (fun i T h=>.inl ⟨i,h⟩)⟩
 by_cases W:j=i
 ·grind[gP]
 ·exact(h.ob j y r).ext hx (fun b s e=>W (h.dis j i b s (q b e))) (c7.refl K) (dO.refl β) rfl (fun _ _ _ h=>h)
theorem GL.Xb{s x:Operand}{t u e:Nat}[hT:Cv P t e][hU:qo P u](i:Nat){n:Nat}{G:Tmp}{v:Value}{rows:List am}{str:ai}(hx:bd fr x=.v (sv str))(hs:bd fr s=.v v)(k:Γ[i]?=some (.vech e 1 rows v))(hn:rows.length=n)(E:str.isEmpty=false)
  (R:n+str.length<=140737488355328)
  (h:∀a c,GL P m ops Q rest (bQ fr (some G) (.v (.slice a (n+str.length) c))) (oset Γ i (.vech e 1 (rows++cW str) (.slice a (n+str.length) c)))) :
  GL P m ops Q (⟨some G,.call ⟨.builtin .append,#[s,x],#[t,u]⟩,ty,pos,af,none⟩::rest) fr Γ:=fun B K β w l hm O H=>by
 subst hn
 have E:str≠[]:=by grind
 have⟨xs,o1,S,o3,o4,o5⟩:=O.ob i _ k;have N:ev l s=v:=H.fC hs
 have I:(cW str).flatten=str.map fun c=>GV.v (.int .u8 (c.toNat:Int)):=by
  unfold cW;clear hx E R h;generalize str=s
  induction s with
  |nil=>rfl
  |cons c r ih=>grind
 have C:(cW str).length=str.length:=by simp
 refine WL.Bq (base:=0) (v:=v) (n:=rows.length) (xs:=xs) (str:=str) N S (H.fC hx) R (bj _) ?_;intro v' w' M A J xj
 obtain⟨T,W,F,z⟩:=(O.xM k).grow (fz:=0) (mn k) o1 ⟨S,o3⟩ (news:=cW str) (ns:=lS str) zfk A J (by rw[I];exact(by
   have:(str.map fun c=>GV.v (.int .u8 (c.toNat:Int)))=gO (lS str):=by simp[gO,lS]
   rw[this];exact bJ.self)) (fun r hr=>by
   grind[GV.pc]) zfk (fun b Ak o v ho hv=>by omega)
 rw[<-bU,kU]at z;have⟨a,c,j,q⟩:=z.uJ (mn k);rw[kU]at q;obtain⟨a',c',rfl⟩:=M.shape;rw[bV]at j;simp only[bl,C]at j q F;cases j;exact h _ _ B T _ w' _ hm q ((H.mono W F).put (some G) (.v _))
theorem GL.Xa{s x:Operand}{t u e:Nat}[hT:Cv P t e][O:qo P u](i:Nat){rows:List am}{v:Value}(hx:bd fr x=.v (sv []))(hs:bd fr s=.v v)(z:Γ[i]?=some (.vech e 1 rows v))(hb:rows.length<=140737488355328)
  (h:GL P m ops Q rest (bQ fr d (.v v)) Γ):GL P m ops Q (⟨d,.call ⟨.builtin .append,#[s,x],#[t,u]⟩,ty,pos,af,none⟩::rest) fr Γ:=fun B K β w l hm N C=>by
 have⟨xs,o1,o2,o3,o4,o5⟩:=N.ob i _ z;have G:=C.fC hs;have J:=C.fC hx;have⟨T,W,S,hz,r,F⟩:=hT.is;have Y7:(⟨([]:ai).toArray⟩:ByteArray).size=0:=rfl;obtain⟨A,w',hr,M,k,h4⟩:=Lib.run_append_own_string (P:=P) w 0 t u ty e W T O.und S hz r F v rows.length xs o2 ⟨([]:ai).toArray⟩ zfz Z (bj _)
 have I:A=v:=by
  rcases o2.2 with⟨rfl,h6⟩|⟨g,c,cur,rfl,HM,hg,CO,Am,n,H⟩
  ·grind
  ·have R:cur.size=c:=by omega
   have Rb:=Lib.run_append_room_string (P:=P) w t u ty e W T O.und S r g rows.length c cur hg ⟨([]:ai).toArray⟩ Z Z
   grind
 subst I;have q:(Builtin.append_ #[t,u] ty #[A,sv []]).run P w=.ok A w':=hr;have n:Lib.strCells ⟨([]:ai).toArray⟩=[]:=rfl;rw[n,gw]at M;have o:Ext (fun b=>A.ownBlock=some b) w w':=⟨k.os,k.tape,k.output,k.size,fun j hj hn=>k.block j hj fun he=>hn he.symm⟩;have E:=N.again z M o3 o;exact WL.val (v:=A) (w':=w') (by simp[execOp,resolve,invoke,builtin,G,J,q]) (h B K β w' _ hm E (C.put d (.v _)))
theorem V.eZ{x:Operand}{t:TypeId}(i:Nat){E n c:Nat}{a:Option Addr}{rows:List am}(hx:bd fr x=.v (.slice a n c))(o:Γ[i]?=some (.vech E 1 rows (.slice a n c)))(hn:rows.length=n)(S:Nat.blt 0 n=true) :
  V P (.call ⟨.builtin .unsafeSliceData,#[x],#[t]⟩) fr Γ (.vp i n 1 0 0):=fun B K b w l R j=>by
 subst hn
 have S:0<rows.length:=by simp_all
 have⟨q,z,A,I,e,F⟩:=R.ob i _ o;have T:=j.fC hx
 rcases A.2 with⟨O,G⟩|⟨g,C,cur,O,_,H,N,_⟩
 ·omega
 ·cases O
  have k:=fun W ty=>Lib.run_unsafeSliceData_row (P:=P) (w:=w) W ty ⟨g,0,none⟩ rows.length c Z
  exact⟨.pointer (some ⟨g,0,none⟩),fun d ty pos af=>by simp[execOp,resolve,invoke,builtin,T,k],.vp i _ 1 0 0 _ ⟨_,_,z,a8 _,fun _=>⟨g,rfl,by simp⟩⟩⟩
theorem GL.NW{x y:Operand}{pt it e:TypeId}(i:Nat){str:ai}{rows:List am}{v:Value}(hp:P.underlying pt=some (.pointer e))(hc:P.cellsOf e=1)(hx:bd fr x=.vp i str.length 1 0 0)(hy:bd fr y=y4 str.length)(sd:Γ[i]?=some (.vech e 1 rows v))(C:rows=cW str)
  (I:str.isEmpty=false)(hb:str.length<=140737488355328)
  (h:GL P m ops Q rest (bQ fr d (.v (sv str))) (oset Γ i .lost)):GL P m ops Q (⟨d,.call ⟨.builtin .unsafeString,#[x,y],#[pt,it]⟩,ty,pos,af,none⟩::rest) fr Γ:=fun B K M w l hm n O=>by
 have I:str≠[]:=by grind
 subst C;have⟨xs,o1,o2,o3,o4,o5⟩:=n.ob i _ sd
 have H:(cW str).length=str.length:=by simp
 have T:=O.ev x;rw[hx]at T;have hyv:=O.fC hy;generalize hv:ev l x=u at T
 cases T with
 |vp _ _ _ _ _ _ hh =>
  have⟨h0,mm,N,e2,e3⟩:=hh;rw[N]at o1;cases o1;obtain⟨b,F,rfl⟩:=e3 H
  rcases o2.2 with⟨h8,h9⟩|⟨g,cap,cur,h8,_,hg,CO,Am,L8,XM⟩
  ·grind
  ·subst h8;simp only[Value.ownBlock,Option.some.injEq]at F;subst F
   have hxs:xs=lS str:=by
    have S:(cW str).flatten=gO (lS str):=by
     have:(cW str).flatten=str.map fun c=>GV.v (.int .u8 (c.toNat:Int)):=by
      unfold cW;generalize str=s
      induction s with
      |nil=>rfl
      |cons c r ih=>grind
     rw[this];simp[gO,lS]
    rw[S]at o3;apply ext_getElem
    ·grind[lS]
    ·intro j h1 h2;have:=o3.2 j xs[j] (.v (lS str)[j]) (by simp[h1]) (by simp[gO,h2]);exact Rel.fx this
   have z:∀j y,str[j]?=some y->w.cell? ((⟨g,0,none⟩:Addr).add j)=some (.int .u8 y.toNat):=fun j y hy=>by
    grind[World.ownsRow.cells,lS]
   have W:(cW str).length<=cur.size:=by omega
   have J:=Lib.run_unsafeString_row (P:=P) w pt it ty e hp hc g cur.size (by simp[World.shape?,hg]) str I Z Z z
   have q:Ext (·=g) w (w.freeze ⟨g,0,none⟩ str.length):=by
    have:=Lib.below_freeze (Below.refl 0 w) (p:=⟨g,0,none⟩) (bj g) str.length
    exact⟨this.os,this.tape,this.output,this.size,fun k hk hn=>by
     grind[World.freeze]⟩
   have G:(M i).has g:=by rw[N];exact rfl
   have R:Inv B K M (oset Γ i .lost) (w.freeze ⟨g,0,none⟩ str.length):=by
    refine⟨n.ext.step q (fun j t=>by subst t;exact(n.own i _ G).symm),n.kle,n.ble,n.loc,n.fz.ext q (fun b o g' wP he=>by grind),fun j y t=>?_,fun j t=>n.out j zfw,n.dis,n.own,n.kn,n.tab.step q (fun j t=>⟨i,by grind⟩) (c7.refl K) (fun i b2 h=>.inl ⟨i,h⟩)⟩;rw[bU,iY]at t;split at t
    ·rename_i A;split at t
     ·cases t;subst A
      intro b E;rw[N]at E;cases E
      grind[World.freeze]
     grind
    ·rename_i A;exact(n.ob j y t).ext q (fun b hb he=>by subst he;exact A (n.dis i j _ G hb)) (c7.refl K) (dO.refl M) rfl (fun _ _ _ h=>h)
   exact WL.val (v:=sv str) (w':=w.freeze ⟨g,0,none⟩ str.length) (by simp[execOp,resolve,invoke,builtin,hv,hyv,J,sv]) (h B K M _ _ hm R (O.put d (.v _)))
theorem Inv.QH{B:Bs}{K:Fz}{β:Bt}{Γ:ap}{w:World}{x:Bk}{y:Ob}(h:Inv B K β Γ w)(hd:∀b,x.has b->(∀i,¬(β i).has b)/\B.w0.heap.size<=b/\(b≠3/\b≠1))
  (T:gP K (fU β Γ.length x) w Γ.length y)(A:dO β (fU β Γ.length x)):Inv B K (fU β Γ.length x) (Γ++[y]) w:=by
 refine⟨h.ext,h.kle,h.ble.trans A,h.loc,h.fz,fun i z M=>?_,fun i M=>?_,fun i j b M o=>?_,fun i b M=>?_,h.kn,⟨h.tab.le,h.tab.pow,h.tab.spc,fun i b M=>?_⟩⟩
 ·by_cases W:i<Γ.length
  ·rw[n1 W]at M;exact(h.ob i z M).ext (S:=fT) (Ext.refl w) (fun _ _ h=>h) (c7.refl K) A (cB Z) (fun _ _ _ h=>h)
  grind
 ·simp at M;rw[cB Z];exact h.out i Z
 ·by_cases C:i=Γ.length<;>by_cases v:j=Γ.length
  ·omega
  ·grind[bV,cB]
  ·grind[bV,cB]
  ·rw[cB C]at M;rw[cB v]at o;exact h.dis i j b M o
 ·rcases nq M with C|C
  ·grind
  ·exact h.own i b C
 ·rcases nq M with C|C
  ·grind
  ·exact h.tab.free i b C
theorem V.RL{x lo:Operand}{t e:TypeId}{k:Nat}[H:lC P t e k]{rows:List am}{q:IntKind}{i:Nat}(hx:bd fr x=.sl k rows)(s:bd fr lo=.v (.int q i))(hi:Nat.blt i rows.length=true):V P (.slice t x (some lo) none none) fr Γ (.sl k (rows.drop i)):=fun B K β w l R n=>by
 have hi:i<rows.length:=by simp_all
 have h:=n.ev x;rw[hx]at h;have z:=n.fC s;generalize N:ev l x=v at h
 cases h with
 |sl0 a c=>simp at hi
 |sl b o c _ _ h A =>
  refine⟨.slice (some ⟨b,o+i*k,none⟩) (rows.length-i) (c-i),fun d ty pos af=>?_,?_⟩
  ·have u:¬(c=i):=by omega
   have T:(i:Int)<=(rows.length:Int):=by omega
   simp[execOp,Instr.sliceAt,Instr.slice,Instr.sliceBounds,Instr.sliceBound,asIntOf,N,z,run_underlying H.und,fw H.siz,u,Nat.le_of_lt hi,n8]
  ·have:=Rel.sl (K:=K) (β:=β) b (o+i*k) (c-i) k (rows.drop i) (fun j r C=>?_) zfk
   ·grind
   grind
def V.ft{x lo:Operand}{t e:TypeId}{k:Nat}[H:lC P t e k]{rows:List am}{q:IntKind}{n:Int}(i:Nat)(hx:bd fr x=.sl k rows)(r:bd fr lo=.v (.int q n))(hn:n=(i:Int))(hi:Nat.blt i rows.length=true):V P (.slice t x (some lo) none none) fr Γ (.sl k (rows.drop i)):=by
 subst hn;exact V.RL hx r hi
end
def qI(a:Int):Int:=IntKind.i64.wrap a
def oa(a b:Int):Int:=IntKind.i64.wrap (((a%18446744073709551616).toNat &&& (b%18446744073709551616).toNat:Nat):Int)
def tQ(a b:Int):Int:=IntKind.i64.wrap (((a%18446744073709551616).toNat ^^^ (b%18446744073709551616).toNat:Nat):Int)
def Ua(a:Int) : -9223372036854775808<=qI a/\qI a<=9223372036854775807:=by
 unfold qI;exact zeH
def vK(a b:Int)(r:0<=b/\b<=9223372036854775807):0<=oa a b/\oa a b<=b:=by
 unfold oa
 have z:(b%18446744073709551616).toNat=b.toNat:=by rw[Int.emod_eq_of_lt r.1 Z]
 have v:(a%18446744073709551616).toNat &&& (b%18446744073709551616).toNat<=b.toNat:=by rw[z];exact Nat.and_le_right
 exact zeH
def Uy(a b:Int):(BitVec.ofInt 64 a &&& BitVec.ofInt 64 b).toNat=(a%18446744073709551616).toNat &&& (b%18446744073709551616).toNat:=by rw[BitVec.toNat_and,BitVec.toNat_ofInt,BitVec.toNat_ofInt];rfl
def Uz(a b:Int):(BitVec.ofInt 64 a ^^^ BitVec.ofInt 64 b).toNat=(a%18446744073709551616).toNat ^^^ (b%18446744073709551616).toNat:=by rw[BitVec.toNat_xor,BitVec.toNat_ofInt,BitVec.toNat_ofInt];rfl
section
variable{P:Program}{fr:am}{Γ:ap}{x y:Operand}{t t':TypeId}{a b:Int}
def V.Up(hx:bd fr x=y4 a)(m:bd fr y=y4 b):V P (.binOp .add t x y t') fr Γ (y4 (qI (a+b))) :=
 V.v2 hx m fun l w h k d H r B=>by simp[execOp,eqGuard,h,k,binOp,Op.intArith,qI]
def V.V1(hx:bd fr x=y4 a)(m:bd fr y=y4 b):V P (.binOp .mul t x y t') fr Γ (y4 (qI (a*b))) :=
 V.v2 hx m fun l w h k d H r B=>by simp[execOp,eqGuard,h,k,binOp,Op.intArith,qI]
def V.Bp(hx:bd fr x=y4 a)(m:bd fr y=y4 b):V P (.binOp .and t x y t') fr Γ (y4 (oa a b)) :=
 V.v2 hx m fun l w h k d H r B=>by
  simp[execOp,eqGuard,h,k,binOp,Op.intBits,oa,IntKind.bits];exact congrArg (fun n:Nat=>IntKind.i64.wrap (n:Int)) (Uy a b)
def V.QB(hx:bd fr x=y4 a)(m:bd fr y=y4 b):V P (.binOp .xor t x y t') fr Γ (y4 (tQ a b)) :=
 V.v2 hx m fun l w h k d H r B=>by
  simp[execOp,eqGuard,h,k,binOp,Op.intBits,tQ,IntKind.bits];exact congrArg (fun n:Nat=>IntKind.i64.wrap (n:Int)) (Uz a b)
def V.Cc{q:IntKind}{n:Nat}(hx:bd fr x=y4 a)(m:bd fr y=.v (.int q (n:Int))):V P (.binOp .shr t x y t') fr Γ (y4 (a.fdiv (2^min n 64))) :=
 V.v2 hx m fun l w h k d H r B=>by
  have:¬((n:Int)<0):=by omega
  simp[execOp,eqGuard,h,k,binOp,Op.shift,this,IntKind.bits]
end
end Go.Xg
set_option maxHeartbeats 4000000
namespace Go.Xg
open Go.RowKit Go.Xw Go.Proofs Tryz
open GV (U)
structure c9 where
 i:Nat
 h:Int
abbrev uG(code:ai)(c:c9):am:=[.sl 1 (cW code),y4 (c.i:Nat),y4 c.h]
def v7(c:c9):Int:=qI (qI (c.h*6364136223846793005)+1442695040888963407)
def BU(h:Int):Int:=oa (tQ (h.fdiv (2^min 33 64)) (h.fdiv (2^min 45 64))) 255
def lx(code:ai)(c:c9):Int × c9:=match code[c.i]? with
 |some b=>(oa (BU (v7 c)+((b.toNat:Nat):Int)) 255,⟨c.i+1,v7 c⟩)
 |none=>(BU (v7 c),⟨c.i,v7 c⟩)
def bD(code:ai)(n:Int)(c:c9):Int × c9 :=
 if n<=0 then(0,c)else if n<=256 then((lx code c).1%n,(lx code c).2)else
  let a:=lx code c
  let b:=lx code a.2
  let d:=lx code b.2
  let e:=lx code d.2
  ((a.1*16777216+b.1*65536+d.1*256+e.1)%n,e.2)
def E0(h:Int):0<=BU h/\BU h<=255:=vK _ _ ⟨by omega,by omega⟩
def ua(code:ai)(c:c9):0<=(lx code c).1/\(lx code c).1<=255:=by
 unfold lx;split
 ·exact vK _ _ ⟨by omega,by omega⟩
 ·exact E0 _
def qa{code:ai}{c:c9}(h:c.i<=code.length):(lx code c).2.i<=code.length:=by
 unfold lx;split
 ·rename_i r;exact(bG r).1
 ·exact h
def dR{code:ai}{c:c9}(n:Int)(h:c.i<=code.length):(bD code n c).2.i<=code.length:=by
 unfold bD;split
 ·exact h
 split
 ·exact qa h
 ·exact qa (qa (qa (qa h)))
def eD(code:ai){n:Int}(c:c9)(h:0<n):0<=(bD code n c).1/\(bD code n c).1<n:=by
 unfold bD;rw[ab Z];split
 ·exact⟨Int.emod_nonneg _ Z,Int.emod_lt_of_pos _ h⟩
 ·exact⟨Int.emod_nonneg _ Z,Int.emod_lt_of_pos _ h⟩
def He{s:ai}{i:Nat}{b:UInt8}(h:s[i]?=some b):(cW s)[i]?=some [.v (.int .u8 (b.toNat:Nat))]:=by simp[cW,h]
def wY(s:ai):(cW s).length=s.length:=by simp[cW]
attribute [local irreducible] GW GL GO V GC GA bh bm oa tQ qI
def uq(code:ai)(c:c9)(W:code.length<=1099511627776)(s:c.i<=code.length) :
  GF prog 100 [.loc 0 0] [.box 115 (uG code c)] (.v (ii (lx code c).1)) [.box 115 (uG code (lx code c).2)]:=by
 have O:=E0 (v7 c);have G:=wY code;unfold lx
 cases r:code[c.i]? with
 |some b =>
  have j:=(bG r).1;have k:=He r;have T:b.toNat<256:=b.toNat_lt
  have o:decide ((c.i:Int)<((cW code).length:Int))=true:=by rw[G];simpa using j
  simp only;unfold uG;simp only;unfold BU v7 at *;refine ah func100 ntmps100 ?_;refine zdl ?_;refine OP rfl (fun d=>V.Cc (n:=33) rfl rfl) ?_;refine kO ?_;refine av ?_;refine OP rfl (fun d=>V.Cc (n:=45) rfl rfl) ?_;refine kO ?_;refine OP rfl (fun d=>V.QB rfl rfl) ?_;refine kO ?_;refine OP rfl (fun d=>V.Bp rfl rfl) ?_;refine kO ?_;refine bA ?_;refine zaL ?_;refine aX (aI 0 15 .nil) ?_;refine av ?_;refine OP rfl (fun d=>V.Bp rfl rfl) ?_;refine kO ?_;exact zbe
 |none =>
  have N:=oK r
  have o:decide ((c.i:Int)<((cW code).length:Int))=false:=by rw[G];simpa using N
  simp only;unfold uG;simp only;unfold BU v7 at *;refine ah func100 ntmps100 ?_;refine zdl ?_;refine OP rfl (fun d=>V.Cc (n:=33) rfl rfl) ?_;refine kO ?_;refine av ?_;refine OP rfl (fun d=>V.Cc (n:=45) rfl rfl) ?_;refine kO ?_;refine OP rfl (fun d=>V.QB rfl rfl) ?_;refine kO ?_;refine OP rfl (fun d=>V.Bp rfl rfl) ?_;refine kO ?_;refine bA ?_;exact zc8
def gk(code:ai)(n:Int)(c:c9)(W:code.length<=1099511627776)(o:c.i<=code.length) :
  GF prog 33 [.loc 0 0,y4 n] [.box 115 (uG code c)] (.v (ii (bD code n c).1)) [.box 115 (uG code (bD code n c).2)]:=by
 unfold bD;have A:=uq code c W o;have r:=ua code c;have m:=qa o;generalize lx code c=a at *;have⟨x,N⟩:=a;simp only at A r m |-
 by_cases l:n<=0
 ·have q:decide (n<=(0:Int))=true:=by simpa using l
  rw[ae l];refine ah func33 ntmps33 ?_;exact ax
 ·have q:decide (n<=(0:Int))=false:=by simpa using l
  rw[ab l]
  by_cases d:n<=256
  ·have R:decide (n<=(256:Int))=true:=by simpa using d
   rw[ae d];refine ah func33 ntmps33 ?_;refine D [0] A ?_;exact ax
  ·have R:decide (n<=(256:Int))=false:=by simpa using d
   rw[ab d];have B:=uq code N W m;have s:=ua code N;have E:=qa m;generalize lx code N=a at *;have⟨y,Q⟩:=a;simp only at B s E |-;have I:=uq code Q W E;have F:=ua code Q;have S:=qa E;generalize lx code Q=a at *;have⟨z,C⟩:=a;simp only at I F S |-;have e:=uq code C W S;have G:=ua code C;generalize lx code C=a at *;have⟨w,J⟩:=a;simp only at e G |-;refine ah func33 ntmps33 ?_;refine D [0] A ?_;refine D [0] B ?_;refine D [0] I ?_;refine D [0] e ?_;exact ax
def Pq(code:ai)(W:code.length<=1099511627776) :
  GC prog 31 [.sl 1 (cW code)] [] fun g I=>∃h,g=.loc 0 0/\I=[.box 115 (uG code ⟨0,h⟩)]:=by
 have G:=wY code;refine ah func31 ntmps31 ?_;refine GW.loop (fun x:Nat=>code.length-x) (fun i fr Γ=>∃h:Int,fr=.sl 1 (cW code)::U::U::y4 h::y4 (i:Nat)::zU 27 []/\Γ=[]/\i<=code.length/\0<=h/\h<=4398046511104) 0 ?_ ?_
 ·exact⟨_,_,Wk.bb aD,_,rfl,rfl,bj _,by omega,by omega⟩
 ·rintro i _ _⟨h,rfl,rfl,Q,M,z⟩
  rcases Nat.lt_or_ge i code.length with j|O
  ·have o:decide ((i:Int)<((cW code).length:Int))=true:=by rw[G];simpa using j
   by_cases c:i<4000
   ·have m:decide ((i:Int)<(4000:Int))=true:=by simpa using by omega
    have k:=He (cq j);generalize code[i]=b at *;have T:b.toNat<256:=b.toNat_lt;refine X ?_;refine GL.q (V.Bp rfl rfl) ?_;refine zap ?_
    have N:=fun a=>vK a 1073741823 ⟨by omega,by omega⟩
    exact⟨i+1,⟨_,_,Wk.bb aD,_,rfl,rfl,j,(N _).1,by have:=(N (h*163+((b.toNat:Nat):Int)+7)).2;omega⟩,by omega⟩
   ·have m:decide ((i:Int)<(4000:Int))=false:=by simpa using by omega
    exact zdp
  ·have o:decide ((i:Int)<((cW code).length:Int))=false:=by rw[G];simpa using O
   exact zdp
def xB(code:ai)(c:c9):Int × c9 :=
 let k:=bD code 11 c
 if k.1<4 then((bD code 24 k.2).1-4,(bD code 24 k.2).2)
 else if k.1=4 then(2147483646+(bD code 3 k.2).1,(bD code 3 k.2).2)
 else if k.1=5 then(-2147483649+(bD code 3 k.2).1,(bD code 3 k.2).2)
 else if k.1=6 then(9223372036854775807-(bD code 2 k.2).1,(bD code 2 k.2).2)
 else if k.1=7 then(-9223372036854775807-(bD code 2 k.2).1,(bD code 2 k.2).2)
 else if k.1=8 then(qI (1*2^(bD code 40 k.2).1.toNat),(bD code 40 k.2).2)
 else if k.1=9 then
  let a:=bD code 1000000 k.2
  let b:=bD code 1000000 a.2
  (a.1*b.1,b.2)
 else bD code 2000000 k.2
def Wo{code:ai}{c:c9}(h:c.i<=code.length):(xB code c).2.i<=code.length:=by
 unfold xB
 have z:=fun n=>dR (code:=code) (c:=(bD code 11 c).2) n (dR 11 h)
 simp only
 repeat (split;exact z _)
 split
 ·exact dR _ (z _)
 ·exact z _
def P0(code:ai)(c:c9) : -9223372036854775808<=(xB code c).1/\(xB code c).1<=9223372036854775807:=by
 unfold xB
 have z:=fun n(h:(0:Int)<n)=>eD code (bD code 11 c).2 h
 simp only;split
 ·have:=z 24 Z;exact zfb
 split
 ·have:=z 3 Z;exact zfb
 split
 ·have:=z 3 Z;exact zfb
 split
 ·have:=z 2 Z;exact zfb
 split
 ·have:=z 2 Z;exact zfb
 split
 ·exact Ua _
 split
 ·have v:=z 1000000 Z;have I:=eD code (bD code 1000000 (bD code 11 c).2).2 (n:=1000000) Z;have d:=Int.mul_nonneg v.1 I.1;have F:=Int.mul_le_mul (Int.le_of_lt v.2) (Int.le_of_lt I.2) I.1 Z;exact zfb
 ·have:=z 2000000 Z;omega
section
variable{P:Program}{fr:am}{Γ:ap}{x y:Operand}{t t':TypeId}{a:Int}
def V.aaH{q:IntKind}{n:Nat}(hx:bd fr x=y4 a)(m:bd fr y=.v (.int q (n:Int)))(hn:n<=63):V P (.binOp .shl t x y t') fr Γ (y4 (qI (a*2^n))) :=
 V.v2 hx m fun l w h k d H r B=>by
  have z:¬((n:Int)<0):=by omega
  have A:min n 64=n:=by omega
  have I:n<64:=by omega
  simp[execOp,eqGuard,h,k,binOp,Op.shift,z,A,I,IntKind.bits,qI]
end
def Pr(code:ai)(c:c9)(W:code.length<=1099511627776)(o:c.i<=code.length) :
  GF prog 36 [.loc 0 0] [.box 115 (uG code c)] (.v (ii (xB code c).1)) [.box 115 (uG code (xB code c).2)]:=by
 unfold xB;have z:=gk code 11 c W o;have F:=eD code c (n:=11) Z;have l:=dR (code:=code) 11 o;generalize bD code 11 c=a at *;have⟨k,N⟩:=a;simp only at z F l |-
 have A:=fun n=>gk code n N W l
 have r:=fun n(h:(0:Int)<n)=>eD code N h
 have E:=fun n=>dR (code:=code) n l
 by_cases G:k<4
 ·have C:decide (k<(4:Int))=true:=by simpa using G
  rw[ae G];have I:=A 24;have w:=r 24 Z;exact zaB
 ·have C:decide (k<(4:Int))=false:=by simpa using G
  rw[ab G];obtain⟨m,rfl⟩:∃m:Nat,k=(m:Int):=⟨k.toNat,by omega⟩
  have O:m=4\/m=5\/m=6\/m=7\/m=8\/m=9\/m=10:=by omega
  rcases O with rfl|rfl|rfl|rfl|rfl|rfl|rfl
  ·have I:=A 3;have w:=r 3 Z;rw[ae aS];exact zaB
  ·have I:=A 3;have w:=r 3 Z;rw[ab aS,ae aS];exact zaB
  ·have I:=A 2;have w:=r 2 Z;rw[ab aS,ab aS,ae aS];exact zaB
  ·have I:=A 2;have w:=r 2 Z;rw[ab aS,ab aS,ab aS,ae aS];exact zaB
  ·have I:=A 40;have w:=r 40 Z;rw[ab aS,ab aS,ab aS,ab aS,ae aS];generalize bD code 40 N=a at *;have⟨s,Q⟩:=a;simp only at I w |-;obtain⟨n,rfl⟩:∃n:Nat,s=(n:Int):=⟨s.toNat,by omega⟩;rw[eV];refine ah func36 ntmps36 ?_;refine D [0] z ?_;refine D [0] I ?_;refine GL.q (V.aaH rfl rfl Z) ?_;exact zcv
  ·have I:=A 1000000;have w:=r 1000000 Z;have R:=E 1000000;rw[ab aS,ab aS,ab aS,ab aS,ab aS,ae aS];generalize bD code 1000000 N=a at *;have⟨u,Q⟩:=a;simp only at I w R |-;have d:=gk code 1000000 Q W R;have B:=eD code Q (n:=1000000) Z;generalize bD code 1000000 Q=a at *;have⟨v,H⟩:=a;simp only at d B |-;have J:=Int.mul_nonneg w.1 B.1;have M:=Int.mul_le_mul (Int.le_of_lt w.2) (Int.le_of_lt B.2) B.1 Z;refine ah func36 ntmps36 ?_;refine D [0] z ?_;refine D [0] I ?_;refine D [0] d ?_;exact ax
  ·have I:=A 2000000;rw[ab aS,ab aS,ab aS,ab aS,ab aS,ab aS];exact zaB
end Go.Xg
namespace Go.Xg
open Go.RowKit Go.Xw Go.Mn
open Go.Xp (bo)
def H3(n:Int):IntKind.i32.wrap n=bo n:=by
 rw[IntKind.wrap_i32];unfold bo;split<;>omega
def EI{n:Int}(h:cz n):IntKind.i64.wrap n=n:=by
 unfold cz at h;exact zeH
def WO(n:Int):IntKind.u32.wrap n=((jo n:Nat):Int):=by
 rw[IntKind.wrap_u32,Fc]
def Cn{n:Nat}(h:n<4294967296):IntKind.u32.wrap (n:Int)=(n:Int):=by
 rw[IntKind.wrap_u32];omega
def BA{n:Nat}(h:n<4294967296):(BitVec.ofInt 32 (n:Int)).toNat=n:=by
 rw[BitVec.toNat_ofInt];simp;omega
section
variable{P:Program}{fr:am}{Γ:ap}{x y:Operand}{t t':TypeId}
def V.D4{s t:TypeId}{k k':IntKind}{a:Int}[O:me P s k'][H:me P t k](hx:bd fr x=.v (.int k' a)):V P (.convert s t x) fr Γ (.v (.int k (k.wrap a))) :=
 V.v1 hx fun l w h d I r B=>by simp[execOp,h,convert,run_underlying O.und,run_underlying H.und,Conv.intToInt]
def V.Xm{s t:TypeId}{a:Int}[O:me P s .i64][H:me P t .i32](hx:bd fr x=y4 a):V P (.convert s t x) fr Γ (.v (.int .i32 (bo a))):=by
 rw[<-H3];exact V.D4 hx
def V.td{s t:TypeId}{a:Int}[O:me P s .i64][H:me P t .u32](hx:bd fr x=y4 a):V P (.convert s t x) fr Γ (.v (.int .u32 ((jo a:Nat):Int))):=by
 rw[<-WO];exact V.D4 hx
def V.Dz{s t:TypeId}{a:Nat}[O:me P s .u32][H:me P t .i32](hx:bd fr x=.v (.int .u32 (a:Int))):V P (.convert s t x) fr Γ (.v (.int .i32 (bo (a:Int)))):=by
 rw[<-H3];exact V.D4 hx
def V.D3{s t:TypeId}{a:Int}[O:me P s .i32][H:me P t .i64](hx:bd fr x=.v (.int .i32 a))(h:cz a):V P (.convert s t x) fr Γ (y4 a):=by
 have:=V.D4 (P:=P) (Γ:=Γ) (s:=s) (t:=t) (k:=.i64) hx;rw[EI h]at this;exact this
def V.BC{s t:TypeId}{a:Nat}[O:me P s .u32][H:me P t .i64](hx:bd fr x=.v (.int .u32 (a:Int)))(h:a<4294967296):V P (.convert s t x) fr Γ (y4 (a:Int)):=by
 have:=V.D4 (P:=P) (Γ:=Γ) (s:=s) (t:=t) (k:=.i64) hx;rw[show IntKind.i64.wrap (a:Int)=(a:Int) by rw[IntKind.wrap_i64];omega]at this;exact this
def V.Kj{a b:Int}(hx:bd fr x=y4 a)(m:bd fr y=y4 b)(r:b≠0)(i:cz (a.tdiv b)):V P (.binOp .quo t x y t') fr Γ (y4 (a.tdiv b)) :=
 V.v2 hx m fun l w h k d H s B=>by simp[execOp,eqGuard,h,k,binOp,Op.intDiv,r,EI i]
def V.Wq{a b:Int}(hx:bd fr x=y4 a)(m:bd fr y=y4 b)(r:b≠0):V P (.binOp .rem t x y t') fr Γ (y4 (a.tmod b)) :=
 V.v2 hx m fun l w h k d H s B=>by simp[execOp,eqGuard,h,k,binOp,Op.intDiv,r]
variable{a b:Nat}
def V.ZB(hx:bd fr x=.v (.int .u32 (a:Int)))(m:bd fr y=.v (.int .u32 (b:Int)))(ha:a<4294967296)(r:b<4294967296):V P (.binOp .and t x y t') fr Γ (.v (.int .u32 ((a &&& b:Nat):Int))) :=
 V.v2 hx m fun l w h k d H s B=>by
  have A:(BitVec.ofInt 32 (a:Int) &&& BitVec.ofInt 32 (b:Int)).toNat=a &&& b:=by rw[BitVec.toNat_and,BA ha,BA r]
  have I:=Cn (n:=a &&& b) (Nat.lt_of_le_of_lt Nat.and_le_left ha);exact zaP
def V.orU(hx:bd fr x=.v (.int .u32 (a:Int)))(m:bd fr y=.v (.int .u32 (b:Int)))(ha:a<4294967296)(r:b<4294967296):V P (.binOp .or t x y t') fr Γ (.v (.int .u32 ((a |||b:Nat):Int))) :=
 V.v2 hx m fun l w h k d H s B=>by
  have A:(BitVec.ofInt 32 (a:Int) |||BitVec.ofInt 32 (b:Int)).toNat=a |||b:=by rw[BitVec.toNat_or,BA ha,BA r]
  have I:=Cn (n:=a |||b) (Nat.or_lt_two_pow (n:=32) ha r);exact zaP
def V.aaN(hx:bd fr x=.v (.int .u32 (a:Int)))(m:bd fr y=.v (.int .u32 (b:Int)))(ha:a<4294967296)(r:b<4294967296):V P (.binOp .xor t x y t') fr Γ (.v (.int .u32 ((a ^^^ b:Nat):Int))) :=
 V.v2 hx m fun l w h k d H s B=>by
  have A:(BitVec.ofInt 32 (a:Int) ^^^ BitVec.ofInt 32 (b:Int)).toNat=a ^^^ b:=by rw[BitVec.toNat_xor,BA ha,BA r]
  have I:=Cn (n:=a ^^^ b) (Nat.xor_lt_two_pow (n:=32) ha r);exact zaP
def V.Ff(hx:bd fr x=.v (.int .u32 (a:Int)))(m:bd fr y=.v (.int .u32 (b:Int)))(s:1<=b):V P (.binOp .rem t x y t') fr Γ (.v (.int .u32 ((a%b:Nat):Int))) :=
 V.v2 hx m fun l w h k d H r C=>by
  have B:(b:Int)≠0:=by omega
  have e:(a:Int).tmod (b:Int)=((a%b:Nat):Int):=by rw[Int.ofNat_tmod]
  simp only[execOp,eqGuard,h,k,binOp,Op.intDiv,ab B,e];rfl
def V.aaG{n:Nat}{r:IntKind}(hx:bd fr x=.v (.int .u32 (a:Int)))(m:bd fr y=.v (.int r (n:Int)))(hn:n<=31):V P (.binOp .shl t x y t') fr Γ (.v (.int .u32 ((a*2^n%4294967296:Nat):Int))) :=
 V.v2 hx m fun l w h k d H s B=>by
  have z:¬((n:Int)<0):=by omega
  have A:Min.min n 32=n:=by omega
  have I:IntKind.u32.wrap ((a:Int)*2^n)=((a*2^n%4294967296:Nat):Int):=by
   have e:(a:Int)*2^n=((a*2^n:Nat):Int):=by rw[Int.natCast_mul,Int.natCast_pow];rfl
   rw[e,IntKind.wrap_u32];generalize a*2^n=q;omega
  simp[execOp,eqGuard,h,k,binOp,Op.shift,z,IntKind.bits,A,I]
end
end Go.Xg
set_option maxHeartbeats 1000000
namespace Go.Xg
open Go.RowKit Go.Xw Go.Proofs Tryz Go.Sp
open GV (U)
attribute [local irreducible] GW GL GO V GC GA bh bm
def sY{C:Type}{l:List C}{q:C->Bool}{k:Nat}{x:C}(hx:l[k]?=some x)(hf:(l.take k).all q=true)(r:q x=true):(l.take (k+1)).all q=true:=by
 rw[dI,hx,List.all_append,hf];simp[r]
def idxOf(xs:List ai)(s:ai):Int:=match xs.findIdx? (fun x=>s==x)with|some i=>(i:Int)|none => -1
section
variable(xs:List ai)(s:ai)
def gy(W:xs.length<=1099511627776):GF prog 109 [strs xs,.v (sv s)] [] (y4 (idxOf xs s)) []:=by
 refine ah func109 ntmps109 ?_;refine GW.range (xs.map fun s=>[GV.v (sv s)]).length (fun k t c=>t=[strs xs,.v (sv s),U,U,U,U,strs xs,y4 ((xs.map fun s=>[GV.v (sv s)]).length:Int),y4 (k:Nat),U,U,U,U,U,U,U,U,U,U]/\c=[]/\((xs.take k).all fun x=>!(s==x))=true) ?_ zfC ?_ ?_ ?_
 ·exact lK
 ·exact jE
 ·rintro k _ _ i⟨rfl,rfl,o⟩
  have i:k<xs.length:=by simpa using i
  have hx:xs[k]?=some xs[k]:=by simp[i]
  have l:(xs.map fun s=>[GV.v (sv s)])[k]?=some [.v (sv xs[k])]:=by simp[i]
  cases r:(s==xs[k])with
  |true =>
   have M:xs.findIdx? (fun x=>s==x)=some k:=by
    rw[List.findIdx?_eq_some_iff_getElem];refine⟨i,r,fun j u=>?_⟩;rw[fL]at o;have:=o xs[j] zft;exact zdM
   unfold idxOf;rw[M];generalize xs[k]=x at *;exact aC
  |false =>
   have N:=sY (q:=fun x=>!(s==x)) hx o (by rw[r];rfl);generalize xs[k]=x at *;refine X ?_;exact⟨rfl,rfl,_,_,Wk.bb aD,rfl,rfl,N⟩
 ·rintro _ _⟨rfl,rfl,o⟩;rw[mz zfm]at o
  have M:xs.findIdx? (fun x=>s==x)=none:=by
   rw[List.findIdx?_eq_none_iff];intro x hx;rw[fL]at o;have:=o x hx;exact zdM
  unfold idxOf;rw[M];exact aC
def Pg:decide (0<=idxOf xs s)=xs.contains s:=by
 unfold idxOf
 cases h:xs.findIdx? (fun x=>s==x)with
 |some i =>
  rw[List.findIdx?_eq_some_iff_getElem]at h;have⟨z,v,_⟩:=h
  have I:s=xs[i]:=by simpa using v
  have:xs.contains s=true:=by rw[sB,I];exact getElem_mem _
  rw[this];simp
 |none =>
  rw[List.findIdx?_eq_none_iff]at h
  have:xs.contains s=false:=by
   cases o:xs.contains s with
   |false=>rfl
   |true=>have:=h s (sB.1 o);simp at this
  rw[this];rfl
def lQ(W:xs.length<=1099511627776):GF prog 48 [strs xs,.v (sv s)] [] (.v (.bool (xs.contains s))) []:=by
 have M:=gy xs s W;rw[<-Pg];generalize idxOf xs s=i at *;refine ah func48 ntmps48 ?_;exact zdh
end
end Go.Xg
set_option maxHeartbeats 4000000
namespace Go.Xg
open Go.RowKit Go.Xw Go.Proofs Tryz Go.Mn
open Go.Xp (bo)
attribute [local irreducible] GW GL GO V GC GA bh bm
def fj(n:Int):GF prog 293 [y4 n] [] (y4 (bo n)) []:=by
 refine ah func293 ntmps293 ?_;refine GL.q (V.Xm rfl) ?_;refine bq ?_;refine GL.q (V.D3 rfl (fc n)) ?_;exact zcv
def kW(n:Int):GF prog 294 [y4 n] [] (y4 (n%4294967296)) []:=by
 rw[<-Fc];refine ah func294 ntmps294 ?_;refine GL.q (V.td rfl) ?_;refine bq ?_;refine GL.q (V.BC rfl (fO n)) ?_;exact zcv
def si(b:Bool):GF prog 296 [.v (.bool b)] [] (y4 (iD b)) []:=by
 cases b with
 |true =>
  refine ah func296 ntmps296 ?_;exact ax
 |false =>
  refine ah func296 ntmps296 ?_;exact ax
def M1{x y:Int}(hx:cz x)(n:cz y) : -9223372036854775808<=x*y/\x*y<=9223372036854775807:=by
 unfold cz at hx n;have h:=Int.natAbs_mul x y;have z:x.natAbs*y.natAbs<=2147483648*2147483648:=Nat.mul_le_mul Z Z;generalize x.natAbs*y.natAbs=m at *;omega
section
variable(a b:Int)
def W2:GF prog 339 [y4 a,y4 b] [] (y4 (zY a b)) []:=by
 unfold zY;have d:=fj a;have i:=fj b;have I:=fj (bo a+bo b);have O:=fc a;have r:=fc b;unfold cz at O r;generalize bo a=x at *;generalize bo b=y at *;refine ah func339 ntmps339 ?_;exact zaT
def QG:GF prog 295 [y4 a,y4 b] [] (y4 (wH a b)) []:=by
 unfold wH;have d:=fj a;have i:=fj b;have I:=fj (bo a-bo b);have O:=fc a;have r:=fc b;unfold cz at O r;generalize bo a=x at *;generalize bo b=y at *;refine ah func295 ntmps295 ?_;exact zaT
def W7:GF prog 340 [y4 a,y4 b] [] (y4 (AK a b)) []:=by
 unfold AK;have d:=fj a;have i:=fj b;have I:=fj (bo a*bo b);have O:=fc a;have r:=fc b;have N:=M1 O r;unfold cz at O r;generalize bo a=x at *;generalize bo b=y at *;refine ah func340 ntmps340 ?_;exact zaT
def Ud:GF prog 337 [y4 a,y4 b] [] (.tup [.v (ii (oP a b).1),.v (ii (oP a b).2)]) []:=by
 have i:=D6 a b;unfold oP at i |-;have d:=fj a;have j:=fj b;generalize bo a=x at *;generalize bo b=y at *
 by_cases M:y=0
 ·rw[ae M]
  have O:(y==0)=true:=by simpa using M
  refine ah func337 ntmps337 ?_;exact zcJ
 ·rw[ab M]at i |-
  have O:(y==0)=false:=by simpa using M
  by_cases z:x = -2147483648
  ·have W:(x == -2147483648)=true:=by simpa using z
   by_cases w:y = -1
   ·have N:(y == -1)=true:=by simpa using w
    rw[ae ⟨z,w⟩];refine ah func337 ntmps337 ?_;exact zcJ
   ·have N:(y == -1)=false:=by simpa using w
    rw[ab (fun h=>w h.2)]at i |-;refine ah func337 ntmps337 ?_;exact zaX
  ·have W:(x == -2147483648)=false:=by simpa using z
   rw[ab (fun h=>z h.1)]at i |-;refine ah func337 ntmps337 ?_;exact zaX
def Uj:GF prog 338 [y4 a,y4 b] [] (.tup [.v (ii (oU a b).1),.v (ii (oU a b).2)]) []:=by
 unfold oU;have d:=fj a;have i:=fj b;generalize bo a=x at *;generalize bo b=y at *
 by_cases M:y=0
 ·rw[ae M]
  have O:(y==0)=true:=by simpa using M
  refine ah func338 ntmps338 ?_;refine zb7 ?_;exact c8
 ·rw[ab M]
  have O:(y==0)=false:=by simpa using M
  refine ah func338 ntmps338 ?_;exact zeq
end
def Ub(m:Nat):bo ((m%4294967296:Nat):Int)=bo (m:Int):=by unfold bo;split<;>split<;>omega
section
variable(a b:Int)
def R0:GF prog 297 [y4 1,y4 a,y4 b] [] (y4 (gF 1 a b)) []:=by
 have i:=fO b;have A:=fO a
 have N:jo b%32<=31:=by omega
 refine ah func297 ntmps297 ?_;refine zb8 ?_;refine GL.q (V.ZB rfl rfl (fO a) (fO b)) ?_;exact zbg
def R3:GF prog 297 [y4 2,y4 a,y4 b] [] (y4 (gF 2 a b)) []:=by
 have i:=fO b;have A:=fO a
 have N:jo b%32<=31:=by omega
 refine ah func297 ntmps297 ?_;refine zb8 ?_;refine GL.q (V.orU rfl rfl (fO a) (fO b)) ?_;exact zbg
def GM:GF prog 297 [y4 3,y4 a,y4 b] [] (y4 (gF 3 a b)) []:=by
 have i:=fO b;have A:=fO a
 have N:jo b%32<=31:=by omega
 refine ah func297 ntmps297 ?_;refine zb8 ?_;refine GL.q (V.aaN rfl rfl (fO a) (fO b)) ?_;exact zbg
def R5:GF prog 297 [y4 4,y4 a,y4 b] [] (y4 (gF 4 a b)) []:=by
 have i:=fO b;have A:=fO a
 have N:jo b%32<=31:=by omega
 refine ah func297 ntmps297 ?_;refine zb8 ?_;refine GL.q (V.aaG rfl rfl Z) ?_;refine zap ?_;refine GL.q (V.Dz rfl) ?_;rw[Ub];refine bq ?_;refine GL.q (V.D3 rfl (fc _)) ?_;exact zcv
def R7:GF prog 297 [y4 5,y4 a,y4 b] [] (y4 (gF 5 a b)) []:=by
 have i:=fO b;have A:=fO a
 have N:jo b%32<=31:=by omega
 have r:=fj a;refine ah func297 ntmps297 ?_;refine zb8 ?_;refine D [] r ?_;refine GL.q (V.Cc (n:=jo b%32) rfl rfl) ?_;rw[show min (jo b%32) 64=jo b%32 by omega];exact zcv
def Jf:GF prog 341 [y4 1,y4 a,y4 b] [] (.v (.bool (dM 1 a b))) []:=by
 exact zab
def Jg:GF prog 341 [y4 2,y4 a,y4 b] [] (.v (.bool (dM 2 a b))) []:=by
 exact zab
def Jh:GF prog 341 [y4 3,y4 a,y4 b] [] (.v (.bool (dM 3 a b))) []:=by
 exact zab
def Ji:GF prog 341 [y4 5,y4 a,y4 b] [] (.v (.bool (dM 5 a b))) []:=by
 exact zab
def Jj:GF prog 341 [y4 7,y4 a,y4 b] [] (.v (.bool (dM 7 a b))) []:=by
 exact zab
def Jk:GF prog 341 [y4 9,y4 a,y4 b] [] (.v (.bool (dM 9 a b))) []:=by
 exact zab
end
def NV(o:ai)(a:Int)(h:o=[45]\/o=[33]\/o=[126]):GF prog 228 [.v (sv o),y4 a] [] (y4 (Ja o a)) []:=by
 rcases h with rfl|rfl|rfl
 ·have O:=QG 0 a;exact zcT
 ·have O:=si (a==0);exact zcT
 ·have O:=GM a (-1);exact zcT
def nw:List ai:=[[47],[37],[43],[45],[42],[61,61],[33,61],[60],[62],[60,61],[62,61],[38],[124],[94],[60,60],[62,62]]
def Jx(o:ai)(a b:Int)(h:o∈nw):GF prog 298 [.v (sv o),y4 a,y4 b] [] (.tup [.v (ii (mh o a b).1),.v (ii (mh o a b).2)]) []:=by
 unfold nw at h;simp only[List.mem_cons,List.not_mem_nil,or_false]at h
 rcases h with rfl|rfl|rfl|rfl|rfl|rfl|rfl|rfl|rfl|rfl|rfl|rfl|rfl|rfl|rfl|rfl
 ·have O:=Ud a b;exact zbo
 ·have O:=Uj a b;exact zbo
 ·have O:=W2 a b;exact zbo
 ·have O:=QG a b;exact zbo
 ·have O:=W7 a b;exact zbo
 ·have R:GF _ _ _ _ (y4 0) _:=gy [[61,61],[33,61],[60],[],[62],[],[60,61],[],[62,61]] [61,61] aS;have O:=Jf a b;have H:=si (dM 1 a b);exact zao
 ·have R:GF _ _ _ _ (y4 1) _:=gy [[61,61],[33,61],[60],[],[62],[],[60,61],[],[62,61]] [33,61] aS;have O:=Jg a b;have H:=si (dM 2 a b);exact zao
 ·have R:GF _ _ _ _ (y4 2) _:=gy [[61,61],[33,61],[60],[],[62],[],[60,61],[],[62,61]] [60] aS;have O:=Jh a b;have H:=si (dM 3 a b);exact zao
 ·have R:GF _ _ _ _ (y4 4) _:=gy [[61,61],[33,61],[60],[],[62],[],[60,61],[],[62,61]] [62] aS;have O:=Ji a b;have H:=si (dM 5 a b);exact zao
 ·have R:GF _ _ _ _ (y4 6) _:=gy [[61,61],[33,61],[60],[],[62],[],[60,61],[],[62,61]] [60,61] aS;have O:=Jj a b;have H:=si (dM 7 a b);exact zao
 ·have R:GF _ _ _ _ (y4 8) _:=gy [[61,61],[33,61],[60],[],[62],[],[60,61],[],[62,61]] [62,61] aS;have O:=Jk a b;have H:=si (dM 9 a b);exact zao
 ·have R:GF _ _ _ _ (y4 (-1)) _:=gy [[61,61],[33,61],[60],[],[62],[],[60,61],[],[62,61]] [38] aS;have E:GF _ _ _ _ (y4 0) _:=gy [[38],[124],[94],[60,60],[62,62]] [38] aS;have O:=R0 a b;exact zaq
 ·have R:GF _ _ _ _ (y4 (-1)) _:=gy [[61,61],[33,61],[60],[],[62],[],[60,61],[],[62,61]] [124] aS;have E:GF _ _ _ _ (y4 1) _:=gy [[38],[124],[94],[60,60],[62,62]] [124] aS;have O:=R3 a b;exact zaq
 ·have R:GF _ _ _ _ (y4 (-1)) _:=gy [[61,61],[33,61],[60],[],[62],[],[60,61],[],[62,61]] [94] aS;have E:GF _ _ _ _ (y4 2) _:=gy [[38],[124],[94],[60,60],[62,62]] [94] aS;have O:=GM a b;exact zaq
 ·have R:GF _ _ _ _ (y4 (-1)) _:=gy [[61,61],[33,61],[60],[],[62],[],[60,61],[],[62,61]] [60,60] aS;have E:GF _ _ _ _ (y4 3) _:=gy [[38],[124],[94],[60,60],[62,62]] [60,60] aS;have O:=R5 a b;exact zaq
 ·have R:GF _ _ _ _ (y4 (-1)) _:=gy [[61,61],[33,61],[60],[],[62],[],[60,61],[],[62,61]] [62,62] aS;have E:GF _ _ _ _ (y4 4) _:=gy [[38],[124],[94],[60,60],[62,62]] [62,62] aS;have O:=R7 a b;exact zaq
end Go.Xg
namespace Go.Xg
open Go.RowKit Go.Xw
def CJ(a:am):∀(gs b:am)(o:Nat),pF (a++b) (a.length+o) gs=a++pF b o gs
 |[],b,o=>rfl
 |g::gs,b,o=>by rw[pF,pF,zr,nE,CJ a gs]
def Aj:∀(gs a b:am),a.length=gs.length->pF (a++b) 0 gs=gs++b
 |[],[],b,_=>rfl
 |[],x::a,b,h=>by simp at h
 |g::gs,[],b,h=>by simp at h
 |g::gs,x::a,b,h=>by
  rw[pF,cons_append,bN];have:=CJ [g] gs (a++b) 0;simp only[length_cons,length_nil,cons_append,List.nil_append,gW,Nat.add_zero]at this |-;rw[this,Aj gs a b zfk]
section
variable{P:Program}{m:Nat}{ops:Array Oper}{Q:dF}{rest:List Oper}{fr:am}{Γ:ap}{d:Option Tmp}{ty:TypeId}{pos:String}{af:Array Edge}
theorem Jc(n:Nat)(z:List Value):(List.replicate n (gO z)).flatten=zs n z:=by
 induction n with
 |zero=>rfl
 |succ n q=>grind[gO,zs]
theorem GL.M0{x:Operand}{t e k u:Nat}{z:List Value}[hT:lP P t e k u][E:nS P t e k z]{I:Tmp}{n:Nat}(hx:bd fr x=y4 (n:Nat))(hb:n<=1099511627776/\u*n<=281474976710656)
  (h:∀a c,GL P m ops Q rest (bQ fr (some I) (.v (.slice a n c))) (Γ++[.vech e k (List.replicate n (gO z)) (.slice a n c)])) :
  GL P m ops Q (⟨some I,.makeSlice t x x,ty,pos,af,none⟩::rest) fr Γ:=fun B K β w l hm hI hF=>by
 have⟨hu,⟨i,T,hi,hz,H0,R,L5⟩,hk⟩:=hT.parts;have S:ev l x=ii (n:Nat):=hF.fC hx;obtain⟨w',hr,W,A⟩:=run_make_full (P:=P) (w:=w) 0 t e i T k hu hi hz R .i64 .i64 n zfk zfz (bj _)
 have ui:T.cells.toList=z:=by
  have H:=E.zero;rw[hi]at H;simp only[Option.bind_some,hz,Option.some.injEq]at H;have hl:=E.zl
  by_cases J:k=1
  ·rw[ae J]at H;rw[H,E.one J];subst J
   match z,hl with
   |[a],_=>rfl
  grind[Value.cells]
 have o:(madeCells T.cells (n*k)).toList=(List.range (n*k)).map fun j=>z.getD (j%k) undef:=by
  unfold madeCells;rw[Array.toList_map,Array.toList_range]
  exact zeC
 rw[o]at W;have s:=Bg (K:=K) (β:=β) (n:=n) E.zl E.pos;rw[<-Jc]at s
 have N:gL k (List.replicate n (gO z)):=fun r hr=>by
  grind[gO,GV.pc]
 have F:Ext fT w w':=⟨A.os,A.tape,A.output,A.size,fun j hj _=>A.block j hj zfm⟩;have M:=hI.Bo (x:=.slice (some ⟨w.heap.size,0,none⟩) n n) (rows:=List.replicate n (gO z)) F (by rw[List.length_replicate];exact W) (fun b hb=>by cases hb;simp) s N
 have G:(Γ++[Ob.vec e k 0 (List.replicate n (gO z))])[Γ.length]?=some (Ob.vec e k 0 (List.replicate n (gO z))):=by simp
 have⟨a,c,q,C⟩:=M.uJ G;rw[bV]at q
 injection q with CL ug
 injection CL with L4 hb4 hb5
 subst L4 hb5
 have O:oset (Γ++[.vec e k 0 (List.replicate n (gO z))]) Γ.length (.vech e k (List.replicate n (gO z)) (.slice (some ⟨w.heap.size,0,none⟩) (List.replicate n (gO z)).length n))=Γ++[.vech e k (List.replicate n (gO z)) (.slice (some ⟨w.heap.size,0,none⟩) (List.replicate n (gO z)).length n)]:=by
  rw[bU];simp
 rw[O,List.length_replicate]at C;exact zba
end
def Ob.uj:Ob->Bool
 |.vech _ _ _ _=>true
 |_=>false
def iQ(β:Bt)(bf:List Nat):Bt:=fun j=>match bf[j]? with
 |some i=>β i
 |none=>.no
section
variable{B:Bs}{K:Fz}{β:Bt}{Γ:ap}{w:World}
def bJ.oA{K:Fz}{β fu:Bt}{vs:List Value}{gs:am}(h:bJ K β vs gs)(S:∀g∈gs,g.pc=true):bJ K fu vs gs:=⟨h.1,fun i v g A z=>(h.2 i v g A z).pc (S g (bR z))⟩
def gL.flat{k:Nat}{rows:List am}(h:gL k rows):∀g∈rows.flatten,g.pc=true:=fun g F=>by
 have⟨r,z,v⟩:=List.mem_flatten.1 F;exact(h r z).2 g v
theorem Inv.pick(h:Inv B K β Γ w)(O:B.m=0){bf:List Nat}{I:ap}(W:I.length=bf.length)(hn:bf.Nodup)
  (hx:∀(j:Nat)x,I[j]?=some x->x.uj=true/\∀i,bf[j]?=some i->Γ[i]?=some x):Inv B K (iQ β bf) I w:=by
 have s:∀i b,(iQ β bf i).has b->∃q,bf[i]?=some q/\(β q).has b:=fun i b M=>by
  grind[iQ,Bk.has]
 refine⟨h.ext,h.kle,fun i=>by rw[h.loc i Z];trivial,h.loc,h.fz,fun i x M=>?_,fun i M=>?_,fun i j b M u=>?_,fun i b M=>?_,h.kn,h.tab.step (S:=fT) (Ext.refl w) (fun _ h=>h.elim) (c7.refl K) (fun i T z=>?_)⟩
 ·have⟨A,z⟩:=hx i x M;have C:=(bG M).1;have G:bf[i]?=some (bf[i]'Z):=cq _
  cases x with
  |vech E k n v =>
   have⟨H,J,o,F,l,t⟩:=h.ob _ _ (z _ G);refine⟨H,?_,o,F.oA l.flat,l,t⟩
   grind[iQ]
  |_=>cases A
 ·grind[iQ]
 ·have⟨q,A,z⟩:=s i b M;have⟨r,N,c⟩:=s j b u;have:=h.dis q r b z c
  grind[List.getElem?_eq_some_iff,List.getElem_inj]
 ·have⟨q,A,z⟩:=s i b M;exact h.own q b z
 grind
def Inv.view{i E k:Nat}{rows:List am}{x:Value}(h:Inv B K β Γ w)(hi:Γ[i]?=some (.vech E k rows x)):∃F,c7 K F/\n5 F w/\mD F (fun _=>.no) w/\Rel F (fun _=>.no) x (.sl k rows):=by
 have⟨O,c,j,C⟩:=h.pJ hi;exact⟨O,c,C.fz,⟨C.tab.le,C.tab.pow,C.tab.spc,fun i b h=>by cases h⟩,j.pc rfl⟩
def Inv.new(h:n5 K w)(H:mD K (fun _=>.no) w):Inv ⟨w,fT,K,fun _=>.no,0⟩ K (fun _=>.no) [] w :=
 ⟨Ext.refl w,c7.refl _,dO.refl _,fun _ _=>rfl,h,fun i x h=>by simp at h,fun _ _=>rfl,fun i j b h=>zfu,fun i b h=>zfu,fun b o g h=>.inl h,H⟩
theorem Inv.Ks{i idx o j E k T k':Nat}{rows ks:List am}{x h:Value}{r:am}(S:Inv B K β Γ w)(hi:Γ[i]?=some (.vech T k rows h))(q:rows[idx]?=some r)(W:r[o]?=some (.v x))(G:i≠j)(t:Γ[j]?=some (.vech E k' ks x)) :
  ∃O,c7 K O/\Inv B O β (oset (oset Γ j (.vec E k' ks.length ks)) i (.vech T k (dk rows idx o (.sl k' ks)) h)) w:=by
 have⟨O,b,s,C⟩:=S.pJ t;have⟨u,z,A,I,c,F⟩:=C.ob i (.vech T k rows h) zfw;have l:=(bG q).1
 have n:o<k:=by rw[<-(c r (bR q)).1];grind
 exact⟨O,b,C.swap ⟨u,by grind[dm],by grind[dm],by rw[rT n c l];grind[bJ.bN,rR],vu rfl c,F⟩⟩
theorem B7{rows:List am}{i o:Nat}{g:GV}{r:am}(j:rows[i]?=some r):∀q,(dk rows i o g)[q]?=if q=i then some (bN r o g)else rows[q]?:=by
 induction rows generalizing i with
 |nil=>simp at j
 |cons x rs s =>
  intro q
  cases i with
  |zero =>
   grind[dk,bN]
  |succ i =>
   grind[dk,bN]
theorem Inv.P6{T k o E k' jf N:Nat}{h:Value}{raw fin:Nat->am}{ks:Nat->List am}{hd:Nat->Value}{jp:Nat->Nat}(hI:Inv B K β Γ w){b:List am}(hjf:Γ[jf]?=some (.vech T k b h))(h0:b.length=N/\∀i,i<N->b[i]?=some (raw i))
  (j:∀i,i<N->(raw i)[o]?=some (.v (hd i))/\bN (raw i) o (.sl k' (ks i))=fin i)(F:∀i,i<N->Γ[jp i]?=some (.vech E k' (ks i) (hd i)))(s:∀i,i<N->jp i≠jf)(C:∀i t,i<N->t<N->jp i=jp t->i=t) :
  ∃c bO rows,c7 K c/\Inv B c β bO w/\bO[jf]?=some (.vech T k rows h)/\rows.length=N/\(∀i,i<N->rows[i]?=some (fin i))/\∀q,q≠jf->(∀i,i<N->q≠jp i)->bO[q]?=Γ[q]?:=by
 have u:∀n,n<=N->∃c bO rows,c7 K c/\Inv B c β bO w/\bO[jf]?=some (.vech T k rows h)/\rows.length=N/\(∀i,i<n->rows[i]?=some (fin i))/\(∀i,n<=i->i<N->rows[i]?=some (raw i))/\(∀i,n<=i->i<N->bO[jp i]?=some (.vech E k' (ks i) (hd i)))/\∀q,q≠jf->(∀i,i<N->q≠jp i)->bO[q]?=Γ[q]?:=by
  intro n
  induction n with
  |zero=>grind[c7]
  |succ n ih =>
   intro hn;have⟨c,bO,rows,a1,z,l,H,I,J,M,O⟩:=ih Z;have hr:=J n (a8 _) Z;have⟨c1,c2⟩:=j n Z;obtain⟨G,S,W⟩:=z.Ks l hr c1 (fun e=>s n Z e.symm) (M n (a8 _) Z);have oo:=(bG l).1;refine⟨G,_,dk rows n o (.sl k' (ks n)),a1.trans S,W,?_,by grind[dm],fun i A=>?_,fun i A r=>?_,fun i A r=>?_,fun q hq hqj=>?_⟩
   ·grind[bU]
   ·grind[B7]
   ·grind[B7]
   ·grind[bU]
   grind[bU]
 have⟨c,bO,rows,a1,z,l,H,I,_,_,O⟩:=u N (a8 _)
 grind
end
section
variable{P:Program}{fn:Func}{R:GV->ap->Prop}{fr:am}{Γ:ap}{e:Exit}
def QX{t:Tmp}{x:Value}(bf:List Nat)(I:ap)(q:fn.results=#[.tmp t])(o:e=.normal\/e=.ret)(hg:cQ fr t=.v x)(W:I.length=bf.length)(hn:bf.Nodup)
  (hx:∀(j:Nat)x,I[j]?=some x->x.uj=true/\∀i,bf[j]?=some i->Γ[i]?=some x)(h:R (.v x) I):tl P fn 0 R e fr Γ :=
 ⟨o,fun B K β w l k S n=>⟨nth l t,K,iQ β bf,.v x,I,by rw[results_tmp q,jJ],S.pick k W hn hx,by have:=n.nth t;rw[hg]at this;rw[Rel.fx this];exact .v _,h⟩⟩
end
section
variable{P:Program}{fn:Func}{R:GV->ap->Prop}{fr:am}{Γ:ap}{e:Exit}
theorem Lx{Γ:ap}{n:Nat}(h:∀x∈Γ.drop n,x.uj=true):(Γ.drop n).length=((List.range (Γ.length-n)).map (·+n)).length/\((List.range (Γ.length-n)).map (·+n)).Nodup /\
  ∀(j:Nat)x,(Γ.drop n)[j]?=some x->x.uj=true/\∀i,((List.range (Γ.length-n)).map (·+n))[j]?=some i->Γ[i]?=some x:=by
 refine⟨by simp,?_,fun j x o=>⟨h x (bR o),fun i M=>?_⟩⟩
 ·unfold List.Nodup;rw[List.pairwise_map]
  exact List.nodup_range.imp fun C k=>C Z
 grind
def XD{t:Tmp}{x:Value}(n:Nat)(j:fn.results=#[.tmp t])(i:e=.normal\/e=.ret)(hg:cQ fr t=.v x)(ha:∀x∈Γ.drop n,x.uj=true)(h:R (.v x) (Γ.drop n)):tl P fn 0 R e fr Γ :=
 have o:=Lx ha
 QX _ (Γ.drop n) j i hg o.1 o.2.1 o.2.2 h
end
section
variable{P:Program}{m:Nat}{Q:dF}{fr:am}{Γ:ap}{ops:Array Oper}{rest:List Oper}{d:Option Tmp}{op:Op}{ty:TypeId}{pos:String}{af:Array Edge}
theorem GL.vP{t:TypeId}{x:Operand}{cs:am}(hx:mI (bd fr x)=some cs)(c:oA cs=true)(h:GL P m ops Q rest (bQ fr d (.box cs 0)) Γ):GL P m ops Q (⟨d,.box t x,ty,pos,af,none⟩::rest) fr Γ:=fun B K β w l N W k=>by
 have⟨o,z,v⟩:=(k.ev x).cells hx
 refine WL.box rfl fun b n S=>?_
 rw[z]at S;have⟨T,C⟩:=W.ud S v (mO c);exact h B _ β n _ N C ((k.mono T (dO.refl β)).put d (Rel.box (K:=j4 K b cs) (β:=β) b 0 0 cs (fun j g F=>by grind[j4])))
def GL.borrow{f:FuncId}[hf:gM P f]{args:List Operand}{j:Array TypeId}{gs:am}{v:Value}(o:GF P f gs [] (.v v) [])
  (O:∀B K β w l,Inv B K β Γ w->FR K β fr l->∃F,n5 F w/\mD F (fun _=>.no) w/\bJ F (fun _=>.no) (args.map (ev l)) gs)
  (h:GL P m ops Q rest (bQ fr d (.v v)) Γ):GL P m ops Q (⟨d,.call ⟨.value (.func f),args.toArray,j⟩,ty,pos,af,none⟩::rest) fr Γ:=fun B K β w l N S k=>by
 have⟨F,z,A,J⟩:=O B K β w l S k
 have I:(execOp (ev l) ⟨d,.call ⟨.value (.func f),args.toArray,j⟩,ty,pos,af,none⟩).run P w=.ok (.enter f (args.map (ev l)).toArray) w:=by simp[execOp,resolve,ev,Deferred.ofValue,invoke,oC]
 refine WL.calls I (o _ F _ w _ rfl (Inv.new z A) J) ?_;rintro x n⟨T,c,g,t,C,i,rfl,rfl⟩;exact h B K β n _ N (S.same C.ext) (k.put d (by rw[Rel.fx i];exact .v _))
def tI{P:Program}{w:World}{t e ty:TypeId}{i:TypeInfo}(W:P.underlying t=some (.slice e))(hi:P.info? e=some i)(a b:Option Addr)(n c d:Nat)(o:n<=c) :
  (Builtin.append_ #[t,t] ty #[.slice a n c,.slice b 0 d]).run P w=.ok (.slice a n c) w:=by
 cases a<;>cases b<;>simp[Builtin.append_,run_underlying W,sizeOf,typeInfo,hi,Builtin.lenOf,o,Builtin.firstCells,loadCells,loadCellsFrom,storeCells]
theorem GL.W8{s x:Operand}{t e k u:Nat}[O:lP P t e k u](i:Nat){H:Tmp}{v:Value}{rows:List am}(hx:bd fr x=.sl k [])(hs:bd fr s=.v v)(G:Γ[i]?=some (.vech e k rows v))
  (h:GL P m ops Q rest (bQ fr (some H) (.v v)) Γ):GL P m ops Q (⟨some H,.call ⟨.builtin .append,#[s,x],#[t,t]⟩,ty,pos,af,none⟩::rest) fr Γ:=fun B K β w l W I C=>by
 have⟨hu,⟨j,z,T,_⟩,_⟩:=O.parts;have⟨xs,o1,o2,_⟩:=I.ob i _ G;have E:ev l s=v:=C.fC hs;have q:=C.ev x;rw[hx]at q;generalize F:ev l x=vx at q
 obtain⟨b,A,rfl⟩:∃b A,vx=.slice b 0 A:=by
  cases q with
  |sl0 a c k=>simp
  |sl b o c _ _ hr _=>simp
 obtain⟨a,n,c,rfl,S⟩:∃a n c,v=.slice a n c/\n<=c:=by
  rcases o2.2 with⟨M,N⟩|⟨g,J,cur,M,_,_,N,_⟩
  ·grind
  grind
 have r:=tI (P:=P) (w:=w) (ty:=ty) hu T a b n c A S;exact WL.val (v:=.slice a n c) (w':=w) (by simp[execOp,resolve,invoke,builtin,E,F,r]) (h B K β w _ W I (C.put _ (.v _)))
theorem GL.Xc{s x:Operand}{t e k A:Nat}[T:lP P t e k A]{i n fz:Nat}{I:Tmp}{rows:List am}(hx:bd fr x=.sl k [])(hs:bd fr s=.vec i n)(H:Γ[i]?=some (.vec e k fz rows))(hn:rows.length=n)
  (h:GL P m ops Q rest (bQ fr (some I) (.vec i n)) Γ):GL P m ops Q (⟨some I,.call ⟨.builtin .append,#[s,x],#[t,t]⟩,ty,pos,af,none⟩::rest) fr Γ:=fun B K β w l hm M E=>by
 subst hn;have⟨hu,⟨j,z,hi,_⟩,_⟩:=T.parts;have⟨J,xs,o1,o2,_⟩:=M.ob i _ H;have q:=E.ev s;rw[hs]at q
 have F:ev l s=J:=by
  generalize hv:ev l s=v at q
  cases q with
  |vec _ _ a c hh =>
   grind
 have r:=E.ev x;rw[hx]at r;generalize G:ev l x=vx at r
 obtain⟨b,C,rfl⟩:∃b C,vx=.slice b 0 C:=by
  cases r with
  |sl0 a c k=>simp
  |sl b o c _ _ hr _=>simp
 obtain⟨a,n,c,rfl,W⟩:∃a n c,J=.slice a n c/\n<=c:=by
  rcases o2.2 with⟨O,S⟩|⟨g,N,cur,O,_,_,S,_⟩
  ·grind
  grind
 have u:=tI (P:=P) (w:=w) (ty:=ty) hu hi a b n c C W;exact WL.val (v:=.slice a n c) (w':=w) (by simp[execOp,resolve,invoke,builtin,F,G,u]) (h B K β w _ hm M (E.put _ zfk))
theorem xA{Γ:ap}{i:Nat}{x:Ob}(h:Γ[i]?=some x):oset Γ i x=Γ:=by
 rw[bU];apply List.ext_getElem?
 grind
theorem GL.Jv{s x:Operand}{t e k j:Nat}[H:lP P t e k j](i:Nat){n:Nat}{z:Tmp}{C:Option Addr}{J:Nat}{rows news:List am}(hx:bd fr x=.sl k news)(q:bd fr s=.v (.slice C n J))(o:Γ[i]?=some (.vech e k rows (.slice C n J)))(hn:rows.length=n)(A:kK news=true)
  (u:n+news.length<=9223372036854775807/\(n+news.length)*j<=140737488355328)
  (h:∀a c,GL P m ops Q rest (bQ fr (some z) (.v (.slice a (n+news.length) c))) (oset Γ i (.vech e k (rows++news) (.slice a (n+news.length) c)))) :
  GL P m ops Q (⟨some z,.call ⟨.builtin .append,#[s,x],#[t,t]⟩,ty,pos,af,none⟩::rest) fr Γ:=by
 cases news with
 |nil =>
  have M:=h C J
  grind[xA,GL.W8]
 |cons r rs=>exact GL.nu i hx q o hn A rfl u h
def GL.vL{s x:Operand}{t e k j:Nat}[H:lP P t e k j]{i n fz:Nat}{z:Tmp}{rows news:List am}(hx:bd fr x=.sl k news)(q:bd fr s=.vec i n)(o:Γ[i]?=some (.vec e k fz rows))(hn:rows.length=n)(A:kK news=true)
  (u:n+news.length<=9223372036854775807/\(n+news.length)*j<=140737488355328)
  (h:GL P m ops Q rest (bQ fr (some z) (.vec i (n+news.length))) (oset Γ i (.vec e k fz (rows++news)))) :
  GL P m ops Q (⟨some z,.call ⟨.builtin .append,#[s,x],#[t,t]⟩,ty,pos,af,none⟩::rest) fr Γ:=by
 cases news with
 |nil =>
  rw[gw,show n+([]:List am).length=n from rfl,xA o]at h;exact GL.Xc hx q o hn h
 |cons r rs=>exact GL.app hx q o hn A rfl u h
theorem Nz:∀(us vs:List Value),vs.length=us.length->mT vs 0 us=us:=by
 have c:∀(us a vs:List Value),vs.length=us.length->mT (a++vs) a.length us=a++us:=by
  intro us
  induction us with
  |nil=>simp[mT]
  |cons u us q =>
   intro a vs h
   cases vs with
   |nil=>simp at h
   |cons v vs =>
    have W:eN (a++v::vs) a.length u=(a++[u])++vs:=by
     clear q h
     induction a with
     |nil=>rfl
     |cons x a q=>grind[eN]
    grind[mT]
 intro us vs h;exact c us [] vs h
theorem GL.PR{t:TypeId}{z:Value}{agg:Bool}{k:Nat}[hZ:p8 P t z][hT:Ty P t agg k]{c ts:Tmp}{cs:am}{O:TypeId}{u:String}{E:Array Edge}{F:Option Tmp}(hzk:z.cells.size=k)(hy:mI (cQ fr ts)=some cs)(yT:Nat.beq ts c=false)(I:gN fr c=true)(hk:cs.length=k)(T:nW cs=true)(hp:oA cs=true)
  (h:GL P m ops Q rest (bQ (bQ fr (some c) (.box cs 0)) F (.v undef)) Γ):GL P m ops Q (⟨some c,.alloc t,ty,pos,af,none⟩::⟨F,.store t (.tmp c) (.tmp ts),O,u,E,none⟩::rest) fr Γ:=fun B K β w l hm W G=>by
 refine WL.alloc (z:=z) fun b w1 i=>?_
 have⟨A,r,s⟩:=(G.nth ts).cells hy
 have n:ts≠c:=by intro e;simp_all
 have N:ev (put l (some c) (.pointer (some ⟨b,0,none⟩))) (.tmp ts)=nth l ts:=oT n _;have M:ev (put l (some c) (.pointer (some ⟨b,0,none⟩))) (.tmp c)=.pointer (some ⟨b,0,none⟩):=sM (mJ G I) _
 have EE:A.length=k:=by omega
 refine WL.st (t:=t) (k:=k) M N i.blk zfk Z (by rw[r];simpa using s.lI T) fun S C=>?_
 have q:setL z.cells 0 A=A.toArray:=by
  have:=xG A z.cells.toList 0
  simp_all[Nz,Array.length_toList]
 rw[r,List.toList_toArray,q]at C;have o:uQ w S b (.cells A.toArray t):=⟨i.fresh,by rw[C.size];exact i.size,C.blk,i.ext.step C.ext fun j hj=>.inl (by subst hj;rw[i.fresh];simp)⟩;have⟨J,H⟩:=W.ud o s (mO hp);exact h B _ β S _ hm H (((G.mono J (dO.refl β)).put (some c) (Rel.box (K:=j4 K b cs) (β:=β) b 0 0 cs (fun j g hg=>by grind[j4]))).put F (.v _))
end
end Go.Xg
set_option maxHeartbeats 2000000
namespace Go.Xg
open Go.RowKit Go.Xw Go.Proofs
open Go.Xp (Nd)
open Go.Sp (Src)
attribute [local irreducible] GW GL GO V GC GA bh bm
def b7(l:List ai):List am:=l.map fun s=>[GV.v (sv s)]
def mK(l:List Int):List am:=l.map fun i=>[y4 i]
def Hd(n:Nat)(h:Value):Prop:=∃a c,h=.slice a n c
def eS(x:Nd)(h:Value):am:=[y4 x.aj,y4 x.at_,y4 x.n,.v (sv x.s),.v h]
def iT(x:Nd)(h:Value):Ob:=.vech 3 1 (mK x.au) h
def F1{C:Type}{f:C->Value->Ob}(hf:∀a h,(f a h).uj=true){l:List C}{o:List Value}:∀x∈List.zipWith f l o,x.uj=true:=fun x hx=>by
 have⟨i,M⟩:=List.getElem?_of_mem hx;rw[List.getElem?_zipWith]at M;split at M
 ·cases M;exact hf _ _
 ·cases M
end Go.Xg
set_option maxHeartbeats 1000000
namespace Go.Xg
open Go.RowKit Go.Xw Go.Proofs Tryz Go.Sp
open GV (U)
attribute [local irreducible] GW GL GO V GC GA bh bm
def Xv(p:Src)(S:p.ak.length<=1000000000000)(H:∀n∈p.ak,n.au.length<=1000000000000):∀(f a d:Nat)(e:Int),d<=801->pe p.ak f a d=some e->GF prog 201 [.agg (aQ p),y4 (a:Nat),y4 (d:Nat)] [] (y4 e) []:=by
 intro f
 induction f using Nat.strongRecOn with
 |_ f s =>
 intro a d e u h
 cases f with
 |zero=>simp[pe]at h
 |succ f =>
 rw[pe]at h;refine ef func201 ntmps201 ?_
 by_cases z:p.ak.length<=a
 ·rw[ae (.inl z)]at h;cases h
  have W:decide (((p.ak.map aU).length:Int)<=(a:Int))=true:=by simpa using z
  exact aC
 have W:decide (((p.ak.map aU).length:Int)<=(a:Int))=false:=by simpa using z
 by_cases A:d>800
 ·rw[ae (.inr A)]at h;cases h
  have M:decide ((800:Int)<(d:Int))=true:=by simpa using by omega
  exact aC
 have M:decide ((800:Int)<(d:Int))=false:=by simpa using by omega
 rw[ab Z]at h
 cases Q:p.ak[a]? with
 |none=>rw[Q]at h;cases h
 |some n =>
 rw[Q]at h;simp only at h;have B:=cH Q;have I:=H n (bR Q);refine X ?_
 refine GW.range (n.au.map fun i=>[y4 i]).length (fun k q t=>∃nx g,q=[U,y4 (a:Nat),y4 (d:Nat),.loc 0 0,U,U,U,y4 nx,U,U,U,U,U,U,U,U,U,U,U,U,U,U,U,U,U,U,ints n.au,y4 ((n.au.map fun i=>[GV.v (ii i)]).length:Int),y4 (k:Nat),U,U,U,U,U,U,U,U,U,U,U,U,U,U,U] /\
   t=[.box 28 (aQ p)]/\0<=nx/\g<=f/\pd p.ak g (n.au.drop k) nx d=some e) ?_ (by simp;omega) ?_ ?_ ?_
 ·exact⟨_,_,Wk.bb aD,_,f,rfl,rfl,by omega,a8 _,h⟩
 ·rintro k _ _⟨_,_,rfl,rfl,_⟩;exact eB
 ·rintro k _ _ j⟨nx,g,rfl,rfl,c,G,h⟩
  have j:k<n.au.length:=by simpa using j
  have hx:n.au[k]?=some n.au[k]:=by simp[j]
  rw[kP j]at h;generalize n.au[k]=x at *;have R:=iq hx
  cases g with
  |zero=>simp[pd]at h
  |succ g =>
  rw[pd]at h
  by_cases F:x=nx
  ·subst F;rw[ae rfl]at h
   have r:(x != x)=false:=by simp
   cases m:pe p.ak g x.toNat (d+1)with
   |none=>exact zek
   |some y =>
   rw[m]at h;simp only at h;have l:=s g Z x.toNat (d+1) y Z m;rw[Int.toNat_of_nonneg c]at l
   by_cases o:y<0
   ·rw[ae o]at h;cases h
    have O:decide (y<(0:Int))=true:=by simpa using o
    refine zcp ?_;exact ax
   ·rw[ab o]at h
    have O:decide (y<(0:Int))=false:=by simpa using o
    refine zcp ?_;exact⟨rfl,rfl,_,_,Wk.bb aD,_,g,rfl,rfl,by omega,by omega,h⟩
  ·rw[ab F]at h;cases h
   have r:(x != nx)=true:=by simpa using F
   exact aC
 ·rintro _ _⟨nx,g,rfl,rfl,c,G,h⟩;rw[bI,drop_length]at h
  have w:nx=e:=by cases g<;>(rw[pd]at h;cases h;rfl)
  subst w;exact aC
end Go.Xg
