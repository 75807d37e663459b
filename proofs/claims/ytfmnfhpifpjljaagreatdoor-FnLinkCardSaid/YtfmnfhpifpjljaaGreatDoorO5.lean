/- Part 5 of proofs that are told in their last texts. -/
import Derived.Test.YtfmnfhpifpjljaaGreatDoorProg
import Derived.Test.YtfmnfhpifpjljaaGreatDoorO4
import Derived.Lib.SmallJoins
import Derived.Lib.LaidU8
import Derived.Shelf.Vars
import Derived.Lib.Builder
import Derived.Lib.UnsafeStr
import Derived.Test.YtfmnfhpifpjljaaGreatDoorO3
open List (cons_append drop_length ext_getElem flatten_cons getElem_mem length_append length_cons length_nil mem_cons_self)
set_option linter.unusedVariables false
set_option linter.unusedSimpArgs false
set_option linter.defProp false
set_option maxRecDepth 100000
namespace Go.Xg
open Go.RowKit Go.Xw
structure Hid(B:Prop):Prop where
 h:B
structure qv(bc:List Nat)(C:Prop):Prop where
 h:C
section
variable{P:Program}{m:Nat}{ops:Array Oper}{Q:dQ}{rest:List Oper}{fr:am}{Γ:ap}{d:Option Tmp}{ty:TypeId}{pos:String}{af:Array Edge}
def GL.rE{f:FuncId}{bc:List Nat}{args:List Operand}{Fi:Array TypeId}{gs:am}{xt PQ:ap}{g:GV}(hc:qv bc (GF P f gs xt g PQ))(ha:lC (args.map (bf fr)) (iR (cr bc Γ.length) gs))(tV:km bc Γ.length=true)
  (uW:seen (cr bc Γ.length) Γ bc xt)(hl:Nat.ble bc.length PQ.length=true)(h:GL P m ops Q rest (bI fr d (dC (cr bc Γ.length) g)) (eC Γ bc (PQ.map (Ob.dC (cr bc Γ.length)))))(hf:qE P f=true:=by first|exact fQ.ok (self:=by assumption)|kernel_rfl) :
  GL P m ops Q (⟨d,.call ⟨.value (.func f),args.toArray,Fi⟩,ty,pos,af,none⟩::rest) fr Γ:=haveI:fQ P f:=⟨hf⟩;GL.VX bc hc.h ha tV uW hl h
def GL.Ds{f:FuncId}{bc:List Nat}{args:List Operand}{Fi:Array TypeId}{gs:am}{xt:ap}{R:GV->ap->Prop}(hc:qv bc (GC P f gs xt R))(ha:lC (args.map (bf fr)) (iR (cr bc Γ.length) gs))(tV:km bc Γ.length=true)
  (uW:seen (cr bc Γ.length) Γ bc xt)(h:∀g bE,R g bE->bc.length<=bE.length/\GL P m ops Q rest (bI fr d (dC (cr bc Γ.length) g)) (eC Γ bc (bE.map (Ob.dC (cr bc Γ.length)))))(hf:qE P f=true:=by first|exact fQ.ok (self:=by assumption)|kernel_rfl) :
  GL P m ops Q (⟨d,.call ⟨.value (.func f),args.toArray,Fi⟩,ty,pos,af,none⟩::rest) fr Γ:=haveI:fQ P f:=⟨hf⟩;GL.I0 bc hc.h ha tV uW h
def GL.Ks{f:FuncId}{bc:List Nat}{x:Operand}{first cap:am}{args:List Operand}{Fi:Array TypeId}{gs:am}{xt:ap}{R:GV->ap->Prop}(hc:qv bc (GC P f gs xt R))(hx:bf fr x=.fn (.func f) first cap)(ha:first++args.map (bf fr)++cap=iR (cr bc Γ.length) gs)(tV:km bc Γ.length=true)
  (uW:seen (cr bc Γ.length) Γ bc xt)(h:∀g bE,R g bE->bc.length<=bE.length/\GL P m ops Q rest (bI fr d (dC (cr bc Γ.length) g)) (eC Γ bc (bE.map (Ob.dC (cr bc Γ.length)))))(hf:qE P f=true:=by first|exact fQ.ok (self:=by assumption)|kernel_rfl) :
  GL P m ops Q (⟨d,.call ⟨.value x,args.toArray,Fi⟩,ty,pos,af,none⟩::rest) fr Γ:=haveI:fQ P f:=⟨hf⟩;GL.re bc hc.h hx ha tV uW h
def GL.Kr{f:FuncId}{bc:List Nat}{x:Operand}{args:List Operand}{Fi:Array TypeId}{gs:am}{xt:ap}{R:GV->ap->Prop}(hc:qv bc (GC P f gs xt R))(hx:bf fr x=.v (.func (.func f) #[] #[]))(ha:args.map (bf fr)=iR (cr bc Γ.length) gs)(tV:km bc Γ.length=true)
  (uW:seen (cr bc Γ.length) Γ bc xt)(h:∀g bE,R g bE->bc.length<=bE.length/\GL P m ops Q rest (bI fr d (dC (cr bc Γ.length) g)) (eC Γ bc (bE.map (Ob.dC (cr bc Γ.length)))))(hf:qE P f=true:=by first|exact fQ.ok (self:=by assumption)|kernel_rfl) :
  GL P m ops Q (⟨d,.call ⟨.value x,args.toArray,Fi⟩,ty,pos,af,none⟩::rest) fr Γ:=haveI:fQ P f:=⟨hf⟩;GL.VY bc hc.h hx ha tV uW h
end
section
variable{A:Prop}
def aE(s:A:=by first|omega|assumption|(simp only[List.length_append,List.length_cons,List.length_nil];omega)):A:=s
def aH(s:A:=by first|rfl|assumption):A:=s
def ey(s:A:=by apply K.len;first|exact D.Wu rfl|exact D.OT rfl|exact D.Y0 rfl|exact D.Y1 rfl|exact D.lenA rfl):A:=s
def fH(s:A:=by first|exact .inr rfl|exact .inl rfl):A:=s
def dY(s:A:=by apply K.ld;first|exact D.XW rfl rfl aH|exact D.OO rfl rfl rfl rfl|exact D.ldV rfl rfl aH aH aH|exact D.XV rfl rfl aH aH aH):A:=s
def M7(s:A:=by apply K.ld;first|exact D.XW rfl rfl aH|exact D.UK rfl aH|exact D.OO rfl rfl rfl rfl|exact D.UL rfl rfl rfl|exact D.ldV rfl rfl aH aH aH|exact D.XV rfl rfl aH aH aH):A:=s
def dz(s:A:=by apply K.nck;first|exact D.Y7 rfl|exact D.Jy rfl):A:=s
def dG(s:A:=by apply K.pick;first|exact D.QP rfl aH|exact D.QO rfl aH):A:=s
def aN(s:A:=by assumption):A:=s
def fJ(s:A:=by omega):A:=s
def Ah(s:A:=by apply K.bin;first|exact D.go rfl|exact D.gB rfl rfl fJ|exact D.fj rfl rfl|exact D.fm rfl rfl|exact D.kc rfl rfl|exact D.ke rfl rfl|exact D.cat rfl rfl fJ|exact D.cat rfl rfl (by simp only[List.length_append,List.length_cons,List.length_nil];omega)|exact D.gM rfl rfl fJ|exact D.add rfl rfl fJ|exact D.sub rfl rfl fJ|exact D.mul rfl rfl fJ|exact D.iq rfl rfl fJ|exact D.quo rfl rfl fJ|exact D.rem rfl rfl fJ|exact D.eP rfl rfl):A:=s
def Ai(s:A:=by apply K.kF;first|exact D.im rfl rfl rfl fJ|exact D.il rfl rfl fJ|exact D.ik rfl rfl fJ|exact D.eg 1 rfl rfl rfl aH):A:=s
def Q0(s:A:=by apply K.idx;first|exact D.idxV rfl rfl rfl aH fJ|exact D.aS 0 rfl rfl rfl aE|exact D.aS 1 rfl rfl rfl aE|exact D.aS 2 rfl rfl rfl aE|exact D.aS 3 rfl rfl rfl aE|exact D.aS 4 rfl rfl rfl aE|exact D.aS 5 rfl rfl rfl aE|exact D.aS 6 rfl rfl rfl aE):A:=s
def Q1(s:A:=by apply K.idx;first|exact D.eD rfl rfl aN|exact D.bM rfl rfl aN rfl|exact D.bM rfl rfl aN fJ|exact D.gi rfl rfl fJ|exact D.idxV rfl rfl rfl aH fJ|exact D.aS 0 rfl rfl rfl aE|exact D.aS 1 rfl rfl rfl aE|exact D.aS 2 rfl rfl rfl aE|exact D.aS 3 rfl rfl rfl aE|exact D.aS 4 rfl rfl rfl aE|exact D.aS 5 rfl rfl rfl aE|exact D.aS 6 rfl rfl rfl aE):A:=s
def xr(s:A:=by first|rfl|exact IntWalk.i64_in _ fJ|exact IntWalk.u8_in _ fJ|assumption):A:=s
def Fo(s:A:=by apply K.idx;first|exact D.eD rfl rfl aN|exact D.bM rfl rfl aN rfl|exact D.bM rfl rfl aN fJ|exact D.gi rfl rfl fJ):A:=s
def dH(s:A:=by apply K.A3;first|exact D.mkfn0|exact D.A3):A:=s
def dO(s:A:=by apply K.ld;first|exact D.UK rfl aH|exact D.UL rfl rfl rfl):A:=s
def M9(s:A:=by apply K.TO;first|exact D.TR rfl|exact D.TP rfl|exact D.fldV rfl rfl aH|exact D.TQ rfl rfl aH):A:=s
def JW(s:A:=by first|exact D.mv|exact D.iU|exact Ah|exact M9|exact M7|exact ey|exact dz|exact dG|exact Q1|exact D.ext rfl rfl|exact D.go rfl|exact Ai|exact D.fM rfl rfl aN|exact D.idxSC rfl rfl aN rfl|exact dH|exact D.build rfl|exact D.neg rfl fJ|exact D.fL rfl rfl|exact D.jL rfl xr|exact D.str rfl aH):A:=s
def dP(s:A:=by apply K.TO;first|exact D.TR rfl|exact D.TP rfl):A:=s
def dZ(s:A:=by apply K.TO;first|exact D.fldV rfl rfl aH|exact D.TQ rfl rfl aH):A:=s
def QZ(s:A:=by first|exact dY|exact Q0|exact dZ|exact D.dV 1 rfl rfl aH aH|exact D.mv|exact D.iU|exact Ah|exact dP|exact dO|exact ey|exact dz|exact dG|exact Fo|exact D.ext rfl rfl|exact D.go rfl|exact Ai|exact D.fM rfl rfl aN|exact D.idxSC rfl rfl aN rfl|exact dH|exact D.build rfl|exact D.neg rfl fJ|exact D.fL rfl rfl|exact D.jL rfl xr|exact D.str rfl aH):A:=s
def M8(s:A:=by first|exact dY|exact Q0|exact dZ|exact D.dV 1 rfl rfl aH aH):A:=s
end
section
variable{A B:Prop}
def jP(s:A:=by repeat (first|exact cw.n|(apply cw.w;(· decide +kernel))|(apply cw.y;(· first|(apply YQ.t;(· exact rfl);(· exact rfl);(· exact QZ))|(apply YQ.t;(· exact rfl);(· apply my;(· exact rfl);(· first|exact rfl|assumption));(· exact QZ))|(apply YQ.f;(· exact rfl);(· apply nf;(· exact rfl);(· first|exact rfl|assumption))))))):A:=s
def dd(s:A:=by(try simp only[zU,bI,bB,bf,bx,List.length_cons,List.length_nil,Nat.reduceAdd,dC,iR,cr]);rfl):A:=s
def eb(s:A:=by(try simp only[List.cons_append,List.nil_append,oset,lO,bB,bx,bf,eC,List.map_cons,List.map_nil,Ob.dC,dC,iR,cr]);rfl):A:=s
def ru(s:A:=by simp only[zU,bI,bB,bf,bx];rfl):A:=s
def nX(s:A:=by first|exact lC.refl|(repeat (first|exact lC.nil|exact mq.refl|exact mq.nil|exact mq.U|exact mq.fn0|refine lC.cons ?_ ?_|refine mq.agg ?_))):A:=s
def oC(s:A:=by first|exact trivial|exact⟨rfl,trivial⟩|exact⟨rfl,rfl,trivial⟩|exact⟨rfl,rfl,rfl,trivial⟩|exact⟨rfl,rfl,rfl,rfl,rfl,trivial⟩):A:=s
def V(h:B)(s:Hid B->A:=by intro hQ;(repeat (first|((first|(apply GL.q;(· exact JW))|refine GL.nil ?_|refine bg ?_|refine GW.seq ?_|refine GW.region ?_|refine GW.skip ?_|refine jM ?_|refine GW.block ?_|(apply GL.gt;(· exact rfl);(· first|exact rfl|assumption))|(apply GL.gf;(· exact rfl);(· first|exact rfl|assumption))|(apply GL.gu;(· exact rfl))|(apply J8;(· exact rfl);(· first|exact rfl|assumption))|(apply J7;(· exact rfl);(· first|exact rfl|assumption)));try refine GN ru ?_)|((first|(apply GL.alloc;(· simp only[gT,Value.cells,List.map_cons,List.map_nil];rfl))|(apply GL.box;(· exact rfl))|(apply GL.st;(· exact rfl);(· exact rfl);(· exact rfl);(· exact rfl);(· exact rfl);(· exact rfl)));refine qw dd eb ?_)));exact hQ.1):A:=s ⟨h⟩
def ay(h:B)(s:Hid B->A:=by intro hQ;(repeat ((first|(apply Zs;(· exact rfl))|(apply Zr;(· exact rfl))|(apply OP;(· exact rfl);(· intro Γ;(first|exact Ah|exact dP|exact dO|exact ey|exact dz|exact Fo|exact D.ext rfl rfl|exact D.go rfl|exact Ai|exact D.fM rfl rfl aN|exact D.idxSC rfl rfl aN rfl|exact dH|exact D.build rfl|exact D.neg rfl fJ|exact D.fL rfl rfl|exact D.jL rfl xr|exact D.str rfl aH)))|(apply X6;(· exact rfl);(· exact rfl);(· first|exact rfl|assumption))|(apply X5;(· exact rfl);(· exact rfl);(· first|exact rfl|assumption))|(apply X7;(· exact rfl);(· exact rfl);(· first|exact rfl|assumption))|(apply OQ;(· exact rfl);(· exact M8))|(apply W6;(· exact rfl);(· exact rfl);(· first|exact rfl|assumption);(· intro Γ;(first|exact D.mv|exact D.iU|exact Ah|exact dP|exact dO|exact ey|exact dz|exact dG|exact Fo|exact D.ext rfl rfl|exact D.go rfl|exact Ai|exact D.fM rfl rfl aN|exact D.idxSC rfl rfl aN rfl|exact dH|exact D.build rfl|exact D.neg rfl fJ|exact D.fL rfl rfl|exact D.jL rfl xr|exact D.str rfl aH)))|(apply Zt;(· exact rfl);(· exact rfl);(· first|exact rfl|assumption);(· exact M8))|(apply Zp;(· exact rfl);(· exact rfl);(· first|exact rfl|assumption))|(apply Zq;(· exact rfl);(· exact rfl))|(apply Zn;(· exact rfl);(· exact rfl);(· first|exact rfl|assumption);(· exact jP))|(apply Zo;(· exact rfl);(· exact rfl);(· exact jP))|refine GO.nil ?_|(apply OA;(· exact rfl);(· exact rfl);apply GL.alloc;(· simp only[gT,Value.cells,List.map_cons,List.map_nil];rfl);refine GL.nil (bg (df.mk jP ?_));refine iM dd eb ?_)|(apply OA;(· exact rfl);(· exact rfl);apply GL.st;(· exact rfl);(· exact rfl);(· exact rfl);(· exact rfl);(· exact rfl);(· exact rfl);refine GL.nil (bg (df.mk jP ?_));refine iM dd eb ?_)|(apply OA;(· exact rfl);(· exact rfl);apply GL.box;(· exact rfl);refine GL.nil (bg (df.mk jP ?_));refine iM dd eb ?_));try refine W5 ru ?_));exact hQ.1):A:=s ⟨h⟩
def kz(h:B)(s:Hid B->A:=by intro hQ;(repeat (first|((first|(apply GL.q;(· (first|exact D.mv|exact D.iU|exact Ah|exact M9|exact M7|exact ey|exact dz|exact dG|exact Q1|exact D.ext rfl rfl|exact D.go rfl|exact Ai|exact D.fM rfl rfl aN|exact D.idxSC rfl rfl aN rfl|fail|exact D.build rfl|exact D.neg rfl fJ|exact D.fL rfl rfl|exact D.jL rfl xr|exact D.str rfl aH)))|refine GL.nil ?_|refine bg ?_|refine GW.seq ?_|refine GW.region ?_|refine GW.skip ?_|refine jM ?_|refine GW.block ?_|(apply GL.gt;(· exact rfl);(· first|exact rfl|assumption))|(apply GL.gf;(· exact rfl);(· first|exact rfl|assumption))|(apply GL.gu;(· exact rfl))|(apply J8;(· exact rfl);(· first|exact rfl|assumption))|(apply J7;(· exact rfl);(· first|exact rfl|assumption)));try refine GN ru ?_)|((first|(apply GL.alloc;(· simp only[gT,Value.cells,List.map_cons,List.map_nil];rfl))|(apply GL.box;(· exact rfl))|(apply GL.st;(· exact rfl);(· exact rfl);(· exact rfl);(· exact rfl);(· exact rfl);(· exact rfl)));refine qw dd eb ?_)));exact hQ.1):A:=s ⟨h⟩
def BC(h:B)(s:Hid B->A:=by intro hQ;(repeat (first|((first|(apply GL.q;(· exact JW))|refine GL.nil ?_|refine bg ?_|refine GW.seq ?_|refine GW.region ?_|refine GW.skip ?_|refine jM ?_|(apply GL.gt;(· exact rfl);(· first|exact rfl|assumption))|(apply GL.gf;(· exact rfl);(· first|exact rfl|assumption))|(apply GL.gu;(· exact rfl))|(apply J8;(· exact rfl);(· first|exact rfl|assumption))|(apply J7;(· exact rfl);(· first|exact rfl|assumption)));try refine GN ru ?_)|((first|(apply GL.alloc;(· simp only[gT,Value.cells,List.map_cons,List.map_nil];rfl))|(apply GL.box;(· exact rfl))|(apply GL.st;(· exact rfl);(· exact rfl);(· exact rfl);(· exact rfl);(· exact rfl);(· exact rfl)));refine qw dd eb ?_)));exact hQ.1):A:=s ⟨h⟩
def bh(h:B)(s:Hid B->A:=by intro hQ;(try refine GN ru ?_);exact hQ.1):A:=s ⟨h⟩
def lx(h:B)(s:Hid B->A:=by intro hQ;(try refine W5 ru ?_);exact hQ.1):A:=s ⟨h⟩
def cP(h:B)(s:Hid B->A:=by intro hQ;(refine qw dd eb ?_);exact hQ.1):A:=s ⟨h⟩
def M5(h:B)(s:Hid B->A:=by intro hQ;(refine iM dd eb ?_);exact hQ.1):A:=s ⟨h⟩
def jF(h:B)(s:Hid B->A:=by intro hQ;((repeat (first|refine GW.exit ?_|refine DK ?_|refine Hc ?_|refine RT rfl ?_|refine jM ?_|refine bg ?_)));exact hQ.1):A:=s ⟨h⟩
def bA(h:B)(s:Hid B->A:=by intro hQ;((repeat (first|refine GW.ret ?_|refine iZ ?_|refine iY ?_|refine bg ?_|refine jM ?_));refine qb rfl fH rfl (Nat.le_refl _) rfl rfl ?_);exact hQ.1):A:=s ⟨h⟩
def cy(h:B)(s:Hid B->A:=by intro hQ;((repeat (first|refine GW.ret ?_|refine iZ ?_|refine iY ?_|refine bg ?_|refine jM ?_));refine TV rfl fH (Nat.le_refl _) rfl ?_);exact hQ.1):A:=s ⟨h⟩
def lJ(h:B)(s:Hid B->A:=by intro hQ;((repeat (first|refine GW.ret ?_|refine iZ ?_|refine iY ?_|refine bg ?_|refine jM ?_));refine Og rfl fH rfl rfl (Nat.le_refl _) rfl rfl ?_);exact hQ.1):A:=s ⟨h⟩
def BB(h:B)(s:Hid B->A:=by intro hQ;((repeat (first|refine GW.ret ?_|refine iZ ?_|refine iY ?_|refine bg ?_|refine jM ?_));refine TW rfl fH rfl rfl rfl (Nat.le_refl _) rfl rfl ?_);exact hQ.1):A:=s ⟨h⟩
def mj(h:B)(s:Hid B->A:=by intro hQ;((repeat (first|refine GW.ret ?_|refine iZ ?_|refine iY ?_|refine bg ?_|refine jM ?_));refine wR ?_;refine TW rfl fH rfl rfl rfl (Nat.le_refl _) rfl rfl ?_);exact hQ.1):A:=s ⟨h⟩
def Fm(h:B)(s:Hid B->A:=by intro hQ;((repeat (first|refine GW.ret ?_|refine iZ ?_|refine iY ?_|refine bg ?_|refine jM ?_));refine wR ?_;refine Og rfl fH rfl rfl (Nat.le_refl _) rfl rfl ?_);exact hQ.1):A:=s ⟨h⟩
def pF(h:B)(s:Hid B->A:=by intro hQ;((repeat (first|refine GW.ret ?_|refine iZ ?_|refine iY ?_|refine bg ?_|refine jM ?_));refine wR ?_;refine Oh rfl fH rfl rfl rfl (Nat.le_refl _) rfl rfl ?_);exact hQ.1):A:=s ⟨h⟩
def oB(h:B)(s:Hid B->A:=by intro hQ;((repeat (first|refine GW.ret ?_|refine iZ ?_|refine iY ?_|refine bg ?_|refine jM ?_));refine Qa rfl fH rfl rfl rfl rfl (Nat.le_refl _) rfl rfl ?_);exact hQ.1):A:=s ⟨h⟩
def um(h:B)(s:Hid B->A:=by intro hQ;((repeat (first|refine GW.ret ?_|refine iZ ?_|refine iY ?_|refine bg ?_|refine jM ?_));refine wR ?_;refine Qa rfl fH rfl rfl rfl rfl (Nat.le_refl _) rfl rfl ?_);exact hQ.1):A:=s ⟨h⟩
def mV(h:B)(s:Hid B->A:=by intro hQ;((repeat (first|refine GW.ret ?_|refine iZ ?_|refine iY ?_|refine bg ?_|refine jM ?_));refine Lc rfl fH rfl rfl rfl rfl rfl (Nat.le_refl _) rfl rfl ?_);exact hQ.1):A:=s ⟨h⟩
def Ag(h:B)(s:Hid B->A:=by intro hQ;((repeat (first|refine GW.ret ?_|refine iZ ?_|refine iY ?_|refine bg ?_|refine jM ?_));refine wR ?_;refine Lc rfl fH rfl rfl rfl rfl rfl (Nat.le_refl _) rfl rfl ?_);exact hQ.1):A:=s ⟨h⟩
def dX(h:B)(s:Hid B->A:=by intro hQ;((repeat (first|refine GW.ret ?_|refine iZ ?_|refine iY ?_|refine bg ?_|refine jM ?_));refine Oh rfl fH rfl rfl rfl (Nat.le_refl _) rfl rfl ?_);exact hQ.1):A:=s ⟨h⟩
def bR(h:B)(s:Hid B->A:=by intro hQ;(refine GL.Ce rfl rfl rfl rfl ?_;refine qw dd eb ?_);exact hQ.1):A:=s ⟨h⟩
def nF(h:B)(s:Hid B->A:=by intro hQ;(refine GL.XZ rfl rfl rfl rfl ?_;refine qw dd eb ?_);exact hQ.1):A:=s ⟨h⟩
def eI(h:B)(s:Hid B->A:=by intro hQ;(refine GL.push rfl rfl rfl rfl rfl rfl rfl rfl aH ⟨⟨by omega,by omega⟩,by decide⟩ ?_;refine qw dd eb ?_);exact hQ.1):A:=s ⟨h⟩
def q5(h:B)(s:Hid B->A:=by intro hQ;(refine OA rfl rfl (GL.XZ rfl rfl rfl rfl (GL.nil (bg (df.mk jP ?_))));refine iM dd eb ?_);exact hQ.1):A:=s ⟨h⟩
def vy(h:B)(s:Hid B->A:=by intro hQ;(refine OA rfl rfl (GL.app rfl rfl rfl aH rfl rfl (by refine⟨?_,?_⟩;(· show _+1<=_;omega);(· show(_+1)*_<=_;omega)) (GL.nil (bg (df.mk jP ?_))));refine iM dd eb ?_);exact hQ.1):A:=s ⟨h⟩
def de(h:B)(s:Hid B->A:=by intro hQ;(refine OA rfl rfl (GL.Ce rfl rfl rfl rfl (GL.nil (bg (df.mk jP ?_))));refine iM dd eb ?_);exact hQ.1):A:=s ⟨h⟩
def Fl(h:B)(s:Hid B->A:=by intro hQ;(refine OA rfl rfl (GL.st rfl rfl rfl rfl rfl rfl (GL.nil (bg (df.mk jP ?_))));refine iM dd eb ?_);exact hQ.1):A:=s ⟨h⟩
def JV(h:B)(s:Hid B->A:=by intro hQ;(refine OA rfl rfl (GL.M1 1 (by kernel_rfl) (by kernel_rfl) rfl rfl rfl rfl aN fJ (GL.nil (bg (df.mk jP ?_))));refine iM dd eb ?_);exact hQ.1):A:=s ⟨h⟩
def tE(h:B)(s:Hid B->A:=by intro hQ;(refine GL.xj rfl rfl rfl aH rfl rfl rfl rfl ?_;refine qw dd eb ?_);exact hQ.1):A:=s ⟨h⟩
def ch(h:B)(s:Hid B->A:=by intro hQ;(refine⟨by simp,?_⟩;refine qw dd eb ?_);exact hQ.1):A:=s ⟨h⟩
def b0(h:B)(s:Hid B->A:=by intro hQ;(refine GL.nil (bg (df.mk jP ?_));refine iM dd eb ?_);exact hQ.1):A:=s ⟨h⟩
def oN(s:A:=by simp only[bq,uP];rfl):A:=s
def gy(s:A:=by first|exact lC.refl|exact mq.refl|(repeat (first|exact lC.nil|exact mq.refl|exact mq.nil|exact mq.U|exact mq.fn0|refine lC.cons ?_ ?_|refine mq.agg ?_|refine mq.tup ?_))):A:=s
def aC(s:A:=by repeat (first|exact sR.nil|refine sR.U ?_|refine sR.eq rfl ?_)):A:=s
end
section
variable{A B C:Prop}(bc:List Nat)
def ja(c:C)(h:B)(s:qv bc C->Hid B->A:=by intro hC hQ;(refine GL.rE hC nX rfl oC rfl ?_;refine qw dd eb ?_);exact hQ.1):A:=s ⟨c⟩ ⟨h⟩
def I(c:C)(h:B)(s:qv bc C->Hid B->A:=by intro hC hQ;(refine GL.rE hC nX rfl oC rfl ?_;refine qw dd eb ?_);refine V ?_;exact hQ.1):A:=s ⟨c⟩ ⟨h⟩
def jz(c:C)(h:B)(s:qv bc C->Hid B->A:=by intro hC hQ;(refine OA rfl rfl (GL.rE hC nX rfl oC rfl (GL.nil (bg (df.mk jP ?_))));refine iM dd eb ?_);exact hQ.1):A:=s ⟨c⟩ ⟨h⟩
def aX(c:C)(h:B)(s:qv bc C->Hid B->A:=by intro hC hQ;(refine OA rfl rfl (GL.rE hC nX rfl oC rfl (GL.nil (bg (df.mk jP ?_))));refine iM dd eb ?_);refine ay ?_;exact hQ.1):A:=s ⟨c⟩ ⟨h⟩
def pR(c:C)(h:B)(s:qv bc C->Hid B->A:=by intro hC hQ;(refine zm rfl rfl rfl (by first|exact rfl|assumption) (GL.rE hC nX rfl oC rfl (GL.nil (bg (df.mk jP ?_))));refine iM dd eb ?_);exact hQ.1):A:=s ⟨c⟩ ⟨h⟩
def bW(c:C)(h:B)(s:qv bc C->Hid B->A:=by intro hC hQ;(refine zm rfl rfl rfl (by first|exact rfl|assumption) (GL.rE hC nX rfl oC rfl (GL.nil (bg (df.mk jP ?_))));refine iM dd eb ?_);refine ay ?_;exact hQ.1):A:=s ⟨c⟩ ⟨h⟩
def jW(c:C)(h:B)(s:qv bc C->Hid B->A:=by intro hC hQ;(refine GL.Kr hC rfl rfl rfl oC ?_;rintro _ _⟨rfl,rfl⟩;refine⟨by simp,?_⟩;refine qw dd eb ?_);exact hQ.1):A:=s ⟨c⟩ ⟨h⟩
def mi(c:C)(h:B)(s:qv bc C->Hid B->A:=by intro hC hQ;(refine GL.Ks hC rfl rfl rfl oC ?_;rintro _ _⟨rfl,rfl⟩;refine⟨by simp,?_⟩;refine qw dd eb ?_);exact hQ.1):A:=s ⟨c⟩ ⟨h⟩
def xq(c:C)(h:B)(s:qv bc C->Hid B->A:=by intro hC hQ;(refine OA rfl rfl (GL.Kr hC rfl rfl rfl oC ?_);rintro _ _⟨rfl,rfl⟩;refine⟨by simp,(GL.nil (bg (df.mk jP ?_)))⟩;refine iM dd eb ?_);exact hQ.1):A:=s ⟨c⟩ ⟨h⟩
def oz(c:C)(h:B)(s:qv bc C->Hid B->A:=by intro hC hQ;(refine OA rfl rfl (GL.Ks hC rfl rfl rfl oC ?_);rintro _ _⟨rfl,rfl⟩;refine⟨by simp,(GL.nil (bg (df.mk jP ?_)))⟩;refine iM dd eb ?_);exact hQ.1):A:=s ⟨c⟩ ⟨h⟩
def bP(c:C)(h:B)(s:qv bc C->Hid B->A:=by intro hC hQ;(refine GL.Ds hC nX rfl oC ?_);exact hQ.1):A:=s ⟨c⟩ ⟨h⟩
end
def dj{A B C aaU:Prop}(f:C)(n:aaU)(h:B)(s:C->aaU->Hid B->A:=by intro hC hD hQ;refine GC.enter hC hD rfl (by simp only[uV,DJ,Nat.reduceSub];rfl) ?_;exact hQ.1):A:=s f n ⟨h⟩
def ak{A B C aaU:Prop}(f:C)(n:aaU)(h:B)(s:C->aaU->Hid B->A:=by intro hC hD hQ;refine GC.enter hC hD rfl (by simp only[uV,DJ,Nat.reduceSub];rfl) ?_;refine V ?_;exact hQ.1):A:=s f n ⟨h⟩
section
variable{A:Prop}
def az(s:A:=by refine bA ?_;exact⟨rfl,rfl⟩):A:=s
def aK(s:A:=by refine V ?_;refine bA ?_;exact⟨rfl,rfl⟩):A:=s
def oA(s:A:=by refine cy ?_;exact⟨rfl,rfl⟩):A:=s
def et(s:A:=by refine V ?_;refine cy ?_;exact⟨rfl,rfl⟩):A:=s
def eu(s:A:=by refine lJ ?_;exact⟨rfl,rfl⟩):A:=s
def q6(s:A:=by refine V ?_;refine lJ ?_;exact⟨rfl,rfl⟩):A:=s
def ln(s:A:=by refine dX ?_;exact⟨rfl,rfl⟩):A:=s
def pE(s:A:=by refine V ?_;refine dX ?_;exact⟨rfl,rfl⟩):A:=s
def aQ(s:A:=by kernel_rfl):A:=s
def L(s:A:=by omega):A:=s
end
def lG{A B:Prop}(h:B)(s:Hid B->A:=by intro hQ;(repeat (first|refine GW.ret ?_|refine iZ ?_|refine iY ?_|refine bg ?_|refine jM ?_));exact hQ.1):A:=s ⟨h⟩
section
variable{A:Prop}
def aaQ(s:A:=by first|rfl|assumption):A:=s
def jA(s:A:=by rintro k _ _⟨rfl,rfl,_⟩;exact⟨rfl,rfl,rfl⟩):A:=s
def ji(s:A:=by exact⟨_,_,Wk.a6 aC,rfl,rfl⟩):A:=s
def kP(s:A:=by exact⟨_,_,Wk.a6 aC,rfl,rfl,rfl⟩):A:=s
def gZ(s:A:=by refine V ?_;exact⟨_,_,Wk.a6 aC,rfl,rfl⟩):A:=s
def dS(s:A:=by exact⟨rfl,rfl,rfl⟩):A:=s
end
def bj{A B:Prop}(h:B)(s:Hid B->A:=by intro hQ;refine ay ?_;refine V ?_;exact hQ.1):A:=s ⟨h⟩
def ew{A B:Prop}(h:B)(s:Hid B->A:=by intro hQ;refine V ?_;refine jF ?_;exact hQ.1):A:=s ⟨h⟩
def ll{A:Prop}(s:A:=by exact⟨⟨by omega,by omega⟩,by decide⟩):A:=s
def aU{A:Prop}(s:A:=by decide):A:=s
def aM:Nat->Nat->Ot->Ot
 |_,0,r=>r
 |s,n+1,r=>.q s (aM (s+1) n r)
def Ze:List Nat->Ot->Ot
 |[],r=>r
 |i::l,r=>.q i (Ze l r)
def aV{P:Program}{m id:Nat}{ol:List Oper}{Q:dQ}{fr:am}{Γ:ap}(ord:Ot)(h:GO P ol.toArray (Q .normal) ord [] fr Γ)(hm:P.follows .mixedOrders=true:=by kernel_rfl)(tV:(Region.noSelect ol.toArray&&(ord.len==ol.length)&&tq ol.toArray ord (Array.replicate ol.toArray.size false))=true:=by kernel_rfl):GW P m (.region id ol.toArray true) Q fr Γ:=GW.draw ord hm tV h
end Go.Xg
namespace Go.Xw
open Go.Proofs Tryz
open Go.Xg (aQ)
instance:fQ prog 44:=⟨aQ⟩
instance:fQ prog 58:=⟨aQ⟩
instance:fQ prog 61:=⟨aQ⟩
instance:fQ prog 67:=⟨aQ⟩
instance:fQ prog 109:=⟨aQ⟩
instance:fQ prog 112:=⟨aQ⟩
instance:fQ prog 114:=⟨aQ⟩
instance:fQ prog 115:=⟨aQ⟩
instance:fQ prog 126:=⟨aQ⟩
instance:fQ prog 127:=⟨aQ⟩
instance:fQ prog 136:=⟨aQ⟩
instance:fQ prog 137:=⟨aQ⟩
instance:fQ prog 139:=⟨aQ⟩
instance:fQ prog 143:=⟨aQ⟩
instance:fQ prog 151:=⟨aQ⟩
instance:fQ prog 152:=⟨aQ⟩
instance:fQ prog 153:=⟨aQ⟩
instance:fQ prog 175:=⟨aQ⟩
instance:fQ prog 181:=⟨aQ⟩
instance:fQ prog 238:=⟨aQ⟩
instance:fQ prog 242:=⟨aQ⟩
instance:Ty prog 3 false 1:=⟨aQ,aQ⟩
instance:oX prog 3 (.int .i64 (0)):=⟨aQ⟩
instance:Go.Xg.mY prog 3 .i64:=⟨aQ⟩
instance:Ty prog 4 false 1:=⟨aQ,aQ⟩
instance:Ty prog 5 false 1:=⟨aQ,aQ⟩
instance:Go.Xg.mY prog 5 .u8:=⟨aQ⟩
instance:Ty prog 9 false 1:=⟨aQ,aQ⟩
instance:pW prog 9:=⟨aQ⟩
instance:Go.Xg.mY prog 21 .i32:=⟨aQ⟩
instance:Ty prog 22 false 1:=⟨aQ,aQ⟩
instance:Go.Xg.J3 prog 22:=Go.Xg.J3.mk' (e:=5) (aQ) (aQ)
instance:lK prog 22 5 1:=⟨aQ,aQ⟩
instance:n5 prog 22 5 1 [(.int .u8 (0))]:=⟨aQ,aQ,aQ,rfl,by decide,fun _=>rfl⟩
instance:Ty prog 23 false 1:=⟨aQ,aQ⟩
instance:oX prog 23 (.slice none 0 0):=⟨aQ⟩
instance:lK prog 23 9 1:=⟨aQ,aQ⟩
instance:mO prog 23 9 1 16:=⟨aQ⟩
instance:n5 prog 23 9 1 [(.string ⟨#[]⟩)]:=⟨aQ,aQ,aQ,rfl,by decide,fun _=>rfl⟩
instance:Ty prog 24 false 1:=⟨aQ,aQ⟩
instance:lK prog 24 79 2:=⟨aQ,aQ⟩
instance:mO prog 24 79 2 24:=⟨aQ⟩
instance:n5 prog 24 79 2 [(.string ⟨#[]⟩),(.int .i64 (0))]:=⟨aQ,aQ,aQ,rfl,by decide,fun h=>by cases h⟩
instance:Ty prog 25 false 1:=⟨aQ,aQ⟩
instance:lK prog 25 53 3:=⟨aQ,aQ⟩
instance:mO prog 25 53 3 48:=⟨aQ⟩
instance:n5 prog 25 53 3 [(.string ⟨#[]⟩),(.slice none 0 0),(.int .i64 (0))]:=⟨aQ,aQ,aQ,rfl,by decide,fun h=>by cases h⟩
instance:Ty prog 26 false 1:=⟨aQ,aQ⟩
instance:lK prog 26 82 5:=⟨aQ,aQ⟩
instance:mO prog 26 82 5 64:=⟨aQ⟩
instance:n5 prog 26 82 5 [(.int .i64 (0)),(.int .i64 (0)),(.int .i64 (0)),(.string ⟨#[]⟩),(.slice none 0 0)]:=⟨aQ,aQ,aQ,rfl,by decide,fun h=>by cases h⟩
instance:Ty prog 28 true 4:=⟨aQ,aQ⟩
instance:oX prog 28 (.agg #[(.slice none 0 0),(.slice none 0 0),(.slice none 0 0),(.slice none 0 0)]):=⟨aQ⟩
instance:ec prog 28 0 0 1 false:=⟨aQ⟩
instance:ec prog 28 1 1 1 false:=⟨aQ⟩
instance:ec prog 28 2 2 1 false:=⟨aQ⟩
instance:ec prog 28 3 3 1 false:=⟨aQ⟩
instance:rA prog 28 [(0,1),(1,1),(2,1),(3,1)] [(.slice none 0 0),(.slice none 0 0),(.slice none 0 0),(.slice none 0 0)]:=⟨aQ,aQ⟩
instance:Ty prog 29 false 1:=⟨aQ,aQ⟩
instance:oX prog 29 (.slice none 0 0):=⟨aQ⟩
instance:lK prog 29 3 1:=⟨aQ,aQ⟩
instance:mO prog 29 3 1 8:=⟨aQ⟩
instance:n5 prog 29 3 1 [(.int .i64 (0))]:=⟨aQ,aQ,aQ,rfl,by decide,fun _=>rfl⟩
instance:Ty prog 33 true 6:=⟨aQ,aQ⟩
instance:oX prog 33 (.agg #[(.int .i64 (0)),(.int .i64 (0)),(.int .i64 (0)),(.slice none 0 0),(.int .i64 (0)),(.slice none 0 0)]):=⟨aQ⟩
instance:ec prog 33 0 0 1 false:=⟨aQ⟩
instance:ec prog 33 1 1 1 false:=⟨aQ⟩
instance:ec prog 33 2 2 1 false:=⟨aQ⟩
instance:ec prog 33 3 3 1 false:=⟨aQ⟩
instance:ec prog 33 4 4 1 false:=⟨aQ⟩
instance:ec prog 33 5 5 1 false:=⟨aQ⟩
instance:Ty prog 53 true 3:=⟨aQ,aQ⟩
instance:oX prog 53 (.agg #[(.string ⟨#[]⟩),(.slice none 0 0),(.int .i64 (0))]):=⟨aQ⟩
instance:ec prog 53 0 0 1 false:=⟨aQ⟩
instance:ec prog 53 1 1 1 false:=⟨aQ⟩
instance:ec prog 53 2 2 1 false:=⟨aQ⟩
instance:rA prog 53 [(0,1),(1,1),(2,1)] [(.string ⟨#[]⟩),(.slice none 0 0),(.int .i64 (0))]:=⟨aQ,aQ⟩
instance:Ty prog 62 false 1:=⟨aQ,aQ⟩
instance:lK prog 62 29 1:=⟨aQ,aQ⟩
instance:mO prog 62 29 1 24:=⟨aQ⟩
instance:n5 prog 62 29 1 [(.slice none 0 0)]:=⟨aQ,aQ,aQ,rfl,by decide,fun _=>rfl⟩
instance:ec prog 64 0 0 4 true:=⟨aQ⟩
instance:ec prog 64 1 4 1 false:=⟨aQ⟩
instance:ec prog 64 2 5 1 false:=⟨aQ⟩
instance:ec prog 64 3 6 1 false:=⟨aQ⟩
instance:ec prog 64 4 7 6 true:=⟨aQ⟩
instance:ec prog 64 5 13 1 false:=⟨aQ⟩
instance:ec prog 64 6 14 1 false:=⟨aQ⟩
instance:rA prog 64 [(0,4),(4,1),(5,1),(6,1),(7,6),(13,1),(14,1)] [(.slice none 0 0),(.slice none 0 0),(.slice none 0 0),(.slice none 0 0),(.slice none 0 0),(.slice none 0 0),(.int .i64 (0)),(.int .i64 (0)),(.int .i64 (0)),(.int .i64 (0)),(.slice none 0 0),(.int .i64 (0)),(.slice none 0 0),(.slice none 0 0),(.int .i64 (0))]:=⟨aQ,aQ⟩
instance:Ty prog 79 true 2:=⟨aQ,aQ⟩
instance:oX prog 79 (.agg #[(.string ⟨#[]⟩),(.int .i64 (0))]):=⟨aQ⟩
instance:ec prog 79 0 0 1 false:=⟨aQ⟩
instance:ec prog 79 1 1 1 false:=⟨aQ⟩
instance:rA prog 79 [(0,1),(1,1)] [(.string ⟨#[]⟩),(.int .i64 (0))]:=⟨aQ,aQ⟩
instance:Ty prog 82 true 5:=⟨aQ,aQ⟩
instance:oX prog 82 (.agg #[(.int .i64 (0)),(.int .i64 (0)),(.int .i64 (0)),(.string ⟨#[]⟩),(.slice none 0 0)]):=⟨aQ⟩
instance:ec prog 82 0 0 1 false:=⟨aQ⟩
instance:ec prog 82 1 1 1 false:=⟨aQ⟩
instance:ec prog 82 2 2 1 false:=⟨aQ⟩
instance:ec prog 82 3 3 1 false:=⟨aQ⟩
instance:ec prog 82 4 4 1 false:=⟨aQ⟩
instance:rA prog 82 [(0,1),(1,1),(2,1),(3,1),(4,1)] [(.int .i64 (0)),(.int .i64 (0)),(.int .i64 (0)),(.string ⟨#[]⟩),(.slice none 0 0)]:=⟨aQ,aQ⟩
instance:Ty prog 83 false 1:=⟨aQ,aQ⟩
instance:Ty prog 87 false 1:=⟨aQ,aQ⟩
instance:lK prog 87 89 6:=⟨aQ,aQ⟩
instance:mO prog 87 89 6 88:=⟨aQ⟩
instance:n5 prog 87 89 6 [(.int .i64 (0)),(.int .i64 (0)),(.int .i64 (0)),(.string ⟨#[]⟩),(.slice none 0 0),(.slice none 0 0)]:=⟨aQ,aQ,aQ,rfl,by decide,fun h=>by cases h⟩
instance:Ty prog 89 true 6:=⟨aQ,aQ⟩
instance:oX prog 89 (.agg #[(.int .i64 (0)),(.int .i64 (0)),(.int .i64 (0)),(.string ⟨#[]⟩),(.slice none 0 0),(.slice none 0 0)]):=⟨aQ⟩
instance:ec prog 89 0 0 5 true:=⟨aQ⟩
instance:ec prog 89 1 5 1 false:=⟨aQ⟩
instance:rA prog 89 [(0,5),(5,1)] [(.int .i64 (0)),(.int .i64 (0)),(.int .i64 (0)),(.string ⟨#[]⟩),(.slice none 0 0),(.slice none 0 0)]:=⟨aQ,aQ⟩
instance:Ty prog 97 false 1:=⟨aQ,aQ⟩
instance:lK prog 97 132 1:=⟨aQ,aQ⟩
instance:mO prog 97 132 1 8:=⟨aQ⟩
instance:n5 prog 97 132 1 [(.pointer none)]:=⟨aQ,aQ,aQ,rfl,by decide,fun _=>rfl⟩
instance:ec prog 115 0 0 1 false:=⟨aQ⟩
instance:ec prog 115 1 1 1 false:=⟨aQ⟩
instance:ec prog 115 2 2 1 false:=⟨aQ⟩
instance:rA prog 115 [(0,1),(1,1),(2,1)] [(.slice none 0 0),(.int .i64 (0)),(.int .i64 (0))]:=⟨aQ,aQ⟩
instance:Ty prog 127 false 1:=⟨aQ,aQ⟩
instance:oX prog 127 .nilFunc:=⟨aQ⟩
instance:Ty prog 132 false 1:=⟨aQ,aQ⟩
instance:Ty prog 135 false 1:=⟨aQ,aQ⟩
instance:Ty prog 136 false 1:=⟨aQ,aQ⟩
instance:Ty prog 137 false 1:=⟨aQ,aQ⟩
instance:lK prog 137 205 4:=⟨aQ,aQ⟩
instance:mO prog 137 205 4 40:=⟨aQ⟩
instance:n5 prog 137 205 4 [(.int .i64 (0)),(.int .i64 (0)),(.string ⟨#[]⟩),(.int .i64 (0))]:=⟨aQ,aQ,aQ,rfl,by decide,fun h=>by cases h⟩
instance:ec prog 155 0 0 4 true:=⟨aQ⟩
instance:ec prog 155 1 4 1 false:=⟨aQ⟩
instance:ec prog 155 2 5 1 false:=⟨aQ⟩
instance:ec prog 155 3 6 1 false:=⟨aQ⟩
instance:rA prog 155 [(0,4),(4,1),(5,1),(6,1)] [(.slice none 0 0),(.slice none 0 0),(.slice none 0 0),(.slice none 0 0),(.slice none 0 0),(.int .i64 (0)),(.int .i64 (0))]:=⟨aQ,aQ⟩
instance:ec prog 172 0 0 1 false:=⟨aQ⟩
instance:ec prog 172 1 1 1 false:=⟨aQ⟩
instance:ec prog 172 2 2 1 false:=⟨aQ⟩
instance:ec prog 172 3 3 1 false:=⟨aQ⟩
instance:ec prog 172 4 4 1 false:=⟨aQ⟩
instance:rA prog 172 [(0,1),(1,1),(2,1),(3,1),(4,1)] [(.slice none 0 0),(.int .i64 (0)),(.int .i64 (0)),(.int .i64 (0)),(.int .i64 (0))]:=⟨aQ,aQ⟩
instance:ec prog 181 0 0 1 false:=⟨aQ⟩
instance:ec prog 181 1 1 1 false:=⟨aQ⟩
instance:ec prog 181 2 2 1 false:=⟨aQ⟩
instance:rA prog 181 [(0,1),(1,1),(2,1)] [(.slice none 0 0),(.bool false),(.int .i64 (0))]:=⟨aQ,aQ⟩
instance:ec prog 191 0 0 5 true:=⟨aQ⟩
instance:ec prog 191 1 5 1 false:=⟨aQ⟩
instance:rA prog 191 [(0,5),(5,1)] [(.int .i64 (0)),(.int .i64 (0)),(.int .i64 (0)),(.string ⟨#[]⟩),(.slice none 0 0),(.slice none 0 0)]:=⟨aQ,aQ⟩
instance:Ty prog 194 true 2:=⟨aQ,aQ⟩
instance:oX prog 194 (.agg #[.nilFunc,.nilFunc]):=⟨aQ⟩
instance:ec prog 194 0 0 1 false:=⟨aQ⟩
instance:ec prog 194 1 1 1 false:=⟨aQ⟩
instance:rA prog 194 [(0,1),(1,1)] [.nilFunc,.nilFunc]:=⟨aQ,aQ⟩
instance:Ty prog 205 true 4:=⟨aQ,aQ⟩
instance:oX prog 205 (.agg #[(.int .i64 (0)),(.int .i64 (0)),(.string ⟨#[]⟩),(.int .i64 (0))]):=⟨aQ⟩
instance:ec prog 205 0 0 1 false:=⟨aQ⟩
instance:ec prog 205 1 1 1 false:=⟨aQ⟩
instance:ec prog 205 2 2 1 false:=⟨aQ⟩
instance:ec prog 205 3 3 1 false:=⟨aQ⟩
instance:rA prog 205 [(0,1),(1,1),(2,1),(3,1)] [(.int .i64 (0)),(.int .i64 (0)),(.string ⟨#[]⟩),(.int .i64 (0))]:=⟨aQ,aQ⟩
instance:ec prog 210 0 0 1 false:=⟨aQ⟩
instance:ec prog 210 1 1 1 false:=⟨aQ⟩
instance:ec prog 210 2 2 1 false:=⟨aQ⟩
instance:ec prog 210 3 3 1 false:=⟨aQ⟩
instance:ec prog 210 4 4 1 false:=⟨aQ⟩
instance:ec prog 210 5 5 1 false:=⟨aQ⟩
instance:ec prog 210 6 6 4 true:=⟨aQ⟩
instance:rA prog 210 [(0,1),(1,1),(2,1),(3,1),(4,1),(5,1),(6,4)] [(.slice none 0 0),(.int .i64 (0)),(.int .i64 (0)),(.int .i64 (0)),(.int .i64 (0)),(.slice none 0 0),(.slice none 0 0),(.slice none 0 0),(.slice none 0 0),(.slice none 0 0)]:=⟨aQ,aQ⟩
instance:lK prog 232 23 1:=⟨aQ,aQ⟩
instance:n5 prog 232 23 1 [(.slice none 0 0)]:=⟨aQ,aQ,aQ,rfl,by decide,fun _=>rfl⟩
instance:Ty prog 244 false 1:=⟨aQ,aQ⟩
instance:oX prog 246 (.agg #[(.pointer none),(.slice none 0 0)]):=⟨aQ⟩
instance:ec prog 246 0 0 1 false:=⟨aQ⟩
instance:ec prog 246 1 1 1 false:=⟨aQ⟩
instance:Go.Xg.mY prog 269 .u32:=⟨aQ⟩
end Go.Xw
set_option maxHeartbeats 1000000
namespace Go.Xg
open Go.RowKit Go.Xw Go.Proofs Tryz Go.Sp
open Go.Xp (Tok dN)
attribute [local irreducible] GW GL GO D GC GA bo bn
def da(t:Tok):am:=[y4 t.aj,y4 t.n,.v (sv t.s),y4 t.at_]
def NF(t:Tok):GF prog 222 [.agg (da t)] [] (.v (sv (dN t))) []:=by
 refine ak func222 ntmps222 ?_;refine GW.cond rfl (fun h=>?_) (fun h=>?_)
 ·refine zaW ?_
  have h:t.aj≠3:=by simpa using h
  rw[dN,ab h];exact zai
 ·refine zaW ?_
  have h:t.aj=3:=by simpa using h
  rw[dN,ai h];exact zai
abbrev ir(l:List Tok):GV:=.sl 4 (l.map da)
abbrev cb(p:RS):Ob:=.box 172 [ir p.l,y4 p.i,y4 p.e,y4 p.code,y4 p.at_]
def kY{l:List Tok}{i:Nat}{t:Tok}(h:l[i]?=some t):(l.map da)[i]?=some (da t):=by rw[dR,h];rfl
def j0(p:RS)(W:p.ok):GF prog 172 [.loc 0 0] [cb p] (y4 p.place) [cb p]:=by
 have⟨X,G⟩:=W
 cases M:p.l[p.i]? with
 |some t =>
  have w:=kY M;have N:p.i<p.l.length:=(b6 M).1
  have T:decide ((p.i:Int)<((p.l.map da).length:Int))=true:=by simpa using N
  refine ak func172 ntmps172 ?_;refine zaN ?_;refine aV (aM 0 12 .nil) ?_;refine bj ?_;refine bA ?_;rw[RS.place,M];exact zai
 |none =>
  have N:p.l.length<=p.i:=nQ M
  have T:decide ((p.i:Int)<((p.l.map da).length:Int))=false:=by simpa using N
  refine ak func172 ntmps172 ?_;refine zaN ?_;refine bA ?_;rw[RS.place,M];exact zai
open GV (U)
def dk(p:RS)(k:Nat)(X:p.ok)(O:k<=1):GF prog 168 [.loc 0 0,y4 k] [cb p] (.v (sv (p.aJ k))) [cb p]:=by
 have⟨Y,G⟩:=X
 by_cases W:p.code=0
 ·have u:(p.code != 0)=false:=by simpa using W
  cases M:p.l[p.i+k]? with
  |some t =>
   have w:=kY M;have N:p.i+k<p.l.length:=(b6 M).1
   have T:decide (((p.l.map da).length:Int)<=((p.i+k:Nat):Int))=false:=by simp;omega
   refine ak func168 ntmps168 ?_;refine aV (aM 0 19 .nil) ?_;refine bj ?_;refine aV (aM 0 12 (.a 12 (.q 13 .nil))) ?_;refine ay ?_;refine aX [] (NF t) ?_;refine zaW ?_;rw[RS.aJ,ai W,M];exact zai
  |none =>
   have N:p.l.length<=p.i+k:=nQ M
   have T:decide (((p.l.map da).length:Int)<=((p.i+k:Nat):Int))=true:=by simp;omega
   refine ak func168 ntmps168 ?_;refine aV (aM 0 19 .nil) ?_;refine bj ?_;refine bA ?_;rw[RS.aJ,ai W,M];exact zai
 ·have u:(p.code != 0)=true:=by simpa using W
  refine ak func168 ntmps168 ?_;refine aV (aM 0 19 .nil) ?_;refine bj ?_;refine bA ?_;rw[RS.aJ,ab W];exact zai
def kd(p:RS)(c a:Int):GF prog 171 [.loc 0 0,y4 c,y4 a] [cb p] (.tup []) [cb (p.fail c a)]:=by
 refine ak func171 ntmps171 ?_;refine GW.cond rfl (fun h=>?_) (fun h=>?_)
 ·refine V ?_;refine cy ?_
  have h:p.code=0:=by simpa using h
  rw[RS.fail,ai h];exact zai
 ·refine V ?_;refine cy ?_
  have h:¬p.code=0:=by simpa using h
  rw[RS.fail,ab h];exact zai
def cX(p:RS)(s:ah)(W:p.ok)(H:s≠[]):GF prog 223 [.loc 0 0,.v (sv s)] [cb p] (.tup []) [cb (p.ba s)]:=by
 refine ak func223 ntmps223 ?_;refine ja [0] (dk p 0 W aU) ?_
 by_cases h:p.aJ 0=s
 ·have e:(!(p.aJ 0==s))=false:=by simp[h]
  have M:=(dv h H).1;have⟨X,G⟩:=W;refine V ?_;refine cy ?_;rw[RS.ba,ai h];exact zai
 ·have e:(!(p.aJ 0==s))=true:=by simpa using h
  refine V ?_;refine I [0] (j0 p W) ?_;refine I [0] (kd p 7 p.place) ?_;refine cy ?_;rw[RS.ba,ab h];exact zai
open Go.Xp (T one levels)
def tZ(p:RS)(d:Nat)(W:p.ok):GF prog 262 [.loc 0 0,y4 d] [cb p] (.tup []) [cb (p.aW d)]:=by
 by_cases h:d>60
 ·have e:decide ((60:Int)<(d:Int))=true:=by simp;omega
  refine ak func262 ntmps262 ?_;refine I [0] (j0 p W) ?_;refine I [0] (kd p 9 p.place) ?_;refine cy ?_;rw[RS.aW,ai h];exact zai
 ·have e:decide ((60:Int)<(d:Int))=false:=by simp;omega
  refine ak func262 ntmps262 ?_;refine cy ?_;rw[RS.aW,ab h];exact zai
def oi(p:RS)(X:p.ok):GF prog 224 [.loc 0 0] [cb p] (.v (sv p.name.1)) [cb p.name.2]:=by
 have⟨Y,H⟩:=id X
 by_cases W:p.code=0
 ·have u:(p.code != 0)=false:=by simpa using W
  cases M:p.l[p.i]? with
  |some t =>
   have w:=kY M;have O:p.i<p.l.length:=(b6 M).1
   have T:decide (((p.l.map da).length:Int)<=(p.i:Int))=false:=by simp;omega
   by_cases N:t.aj=2
   ·have R:(t.aj != 2)=false:=by simpa using N
    by_cases G:t.s.length>12
    ·have o:decide ((12:Int)<(t.s.length:Int))=true:=by simp;omega
     refine ak func224 ntmps224 ?_;refine aV (aM 0 24 .nil) ?_;refine bj ?_;refine zcJ ?_;refine I [0] (kd p 8 t.at_) ?_;refine bA ?_;rw[RS.name,ai W,M];simp only[ai N,ai G];exact zai
    ·have o:decide ((12:Int)<(t.s.length:Int))=false:=by simp;omega
     refine ak func224 ntmps224 ?_;refine aV (aM 0 24 .nil) ?_;refine bj ?_;refine zcJ ?_;refine bA ?_;rw[RS.name,ai W,M];simp only[ai N,ab G];exact zai
   ·have R:(t.aj != 2)=true:=by simpa using N
    refine ak func224 ntmps224 ?_;refine zc1 ?_;simp only[ab N];exact zai
  |none =>
   have O:p.l.length<=p.i:=nQ M
   have T:decide (((p.l.map da).length:Int)<=(p.i:Int))=true:=by simp;omega
   refine ak func224 ntmps224 ?_;refine zc1 ?_;exact zai
 ·have u:(p.code != 0)=true:=by simpa using W
  refine ak func224 ntmps224 ?_;refine bA ?_;rw[RS.name,ab W];exact zai
abbrev ints(l:List Int):GV:=.sl 1 (l.map fun i=>[.v (ii i)])
abbrev strs(l:List ah):GV:=.sl 1 (l.map fun s=>[.v (sv s)])
mutual
def TI:T->am
 |.mk n k=>[.v (ii n.aj),.v (ii n.at_),.v (ii n.n),.v (sv n.s),ints n.aw,.sl 6 (bq k)]
def bq:List T->List am
 |[]=>[]
 |t::r=>TI t::bq r
end
abbrev cT(t:T):am:=[y4 t.n.aj,y4 t.n.at_,y4 t.n.n,.v (sv t.n.s),ints t.n.aw,.sl 6 (bq t.aw)]
def uP(t:T):TI t=cT t:=by
 cases t;rfl
def iP(k a:Int)(s:ah)(l:List T)(rows:List am)(h:bq l=rows):GF prog 263 [y4 k,y4 a,.v (sv s),.sl 6 rows] [] (.agg (cT (one k a s l))) []:=by
 subst h;refine ak func263 ntmps263 ?_;exact zeA
def jZ:GF prog 225 [] [] (.sl 1 (levels.map fun l=>[strs l])) []:=by
 refine ak func225 ntmps225 ?_
 iterate 10 (refine bR ?_)
 exact aK
def CH{xs:List ah}{k:Nat}{s x:ah}(h:xs[k]?=some x):(xs.take (k+1)).contains s=((xs.take k).contains s ||(x==s)):=by
 rw[c7,h,List.contains_append];show(_ ||[x].contains s)=_
 congr 1
 rw[List.contains_cons,List.contains_nil,Bool.or_false];exact Bool.beq_comm
def jR(xs:List ah)(s:ah)(M:xs.length<=1099511627776):GF prog 58 [strs xs,.v (sv s)] [] (.v (.bool (xs.contains s))) []:=by
 refine ak func58 ntmps58 ?_;refine GW.range (xs.map fun s=>[GV.v (sv s)]).length (fun k J u=>J=[strs xs,.v (sv s),U,U,U,U,U,strs xs,y4 ((xs.map fun s=>[GV.v (sv s)]).length:Int),y4 k,U,U,U,U,U,U,U]/\u=[]/\(xs.take k).contains s=false) ?_ zfn ?_ ?_ ?_
 ·exact kP
 ·exact jA
 ·rintro k _ _ N⟨rfl,rfl,W⟩
  have N:k<xs.length:=by simpa using N
  have hx:xs[k]?=some xs[k]:=by simp[N]
  have z:(xs.map fun s=>[GV.v (sv s)])[k]?=some [.v (sv xs[k])]:=by simp[N]
  have w:=CH (s:=s) hx;refine V ?_;refine GW.cond rfl (fun b=>?_) (fun b=>?_)
  ·refine zaW ?_
   have G:xs[k]=s:=by simpa using b
   have:s∈xs:=by rw[<-G];exact getElem_mem _
   refine⟨?_,rfl⟩;show GV.v (.bool true)=_;rw[rv.2 this]
  ·refine V ?_;exact⟨rfl,rfl,_,_,Wk.a6 aC,rfl,rfl,by rw[w,W,b];rfl⟩
 ·rintro _ _⟨rfl,rfl,W⟩;refine zaW ?_
  have W:xs.contains s=false:=by simpa using W
  refine⟨?_,rfl⟩;show GV.v (.bool false)=_;rw[W]
end Go.Xg
namespace Go.Xg
open Go.RowKit Go.Xw
section
variable{P:Program}{m:Nat}{Q:dQ}{fr:am}{Γ:ap}
theorem GW.zJ{c y:Code}{B:Nat}(K:am->ap->Prop)(o:GW P m c (bn B (bo (zj m K) Q)) fr Γ)(b:∀fr Γ,K fr Γ->GW P m y Q fr Γ):GW P m c (bn B (bo (GW P m y Q) Q)) fr Γ:=by
 refine o.mono fun e fr Γ J=>?_
 have S:∀fr Γ,zj m K fr Γ->GW P m y Q fr Γ:=fun fr Γ ⟨s,v,l,N⟩=>GW.wk l (b _ _ N)
 cases e with
 |normal=>exact S _ _ J
 |exit n =>
  grind[bn,bo,GW]
 |_=>exact J
end
section
variable{P:Program}{fn:Func}{m:Nat}{R:GV->ap->Prop}{fr:am}{Γ:ap}{e:Exit}
theorem Qa{n:Nat}{t u:Tmp}{T:TypeId}{k:Nat}[hT:Ty P T true k]{i:Nat}{E:TypeId}{cs:am}{g:GV}(S:fn.results=#[.cell t T,.tmp u])(J:e=.normal\/e=.ret)(hg:bx fr t=.loc i 0)(s:Γ[i]?=some (.box E cs))(hk:cs.length=k)(d:bx fr u=g)
  (hm:m<=n)(M:qh n (Γ.take n)=true)(q:(GV.tup [.agg cs,g]).lt n=true)(h:R (.tup [.agg cs,g]) (Γ.take n)):oZ P fn m R e fr Γ :=
 ⟨J,fun B K G w l hB C A=>by
  have⟨b,vs,X,Y,z,Z⟩:=C.ob i _ s
  have N:nth l t=.pointer (some ⟨b,0,none⟩):=by
   have:=A.nth t;rw[hg]at this;generalize nth l t=v at this
   cases this with
   |loc _ _ W H=>grind
  have O:l.toArray.getD t undef=.pointer (some ⟨b,0,none⟩):=by rw[gQ,N]
  have r:=jx (P:=P) (w:=w) (t:=T) (b:=b) (o:=0) (vs:=vs) (k:=k) L (fun j v hj=>by
   grind[World.cell?])
  have c:l[t]?.getD undef=.pointer (some ⟨b,0,none⟩):=by simp_all
  refine⟨.tuple #[.agg vs.toArray,nth l u],K,dD (below n) G,.tup [.agg cs,g],Γ.take n,?_,C.cut L M,?_,h⟩
  ·rw[<-gQ l u];simp[results,S,c,asAddr,r]
  ·refine Rel.res ?_ q;subst d;have F:bu K G [.agg vs.toArray,nth l u] [.agg cs,bx fr u]:=.cons (.agg vs cs z.1 z.2) (.cons (A.nth u) .nil)
   exact .tup _ _ F.1 F.2⟩
theorem Lc{n:Nat}{t u s:Tmp}{T:TypeId}{k:Nat}[hT:Ty P T true k]{i:Nat}{E:TypeId}{cs:am}{g d:GV}(Y:fn.results=#[.cell t T,.tmp u,.tmp s])(O:e=.normal\/e=.ret)(hg:bx fr t=.loc i 0)(F:Γ[i]?=some (.box E cs))(hk:cs.length=k)(r:bx fr u=g)(z:bx fr s=d)
  (hm:m<=n)(S:qh n (Γ.take n)=true)(A:(GV.tup [.agg cs,g,d]).lt n=true)(h:R (.tup [.agg cs,g,d]) (Γ.take n)):oZ P fn m R e fr Γ :=
 ⟨O,fun B K M w l hB H q=>by
  have⟨b,vs,h1,h2,G,h4⟩:=H.ob i _ F
  have W:nth l t=.pointer (some ⟨b,0,none⟩):=by
   have:=q.nth t;rw[hg]at this;generalize nth l t=v at this
   cases this with
   |loc _ _ Z N=>grind
  have X:l.toArray.getD t undef=.pointer (some ⟨b,0,none⟩):=by rw[gQ,W]
  have C:=jx (P:=P) (w:=w) (t:=T) (b:=b) (o:=0) (vs:=vs) (k:=k) L (fun j v hj=>by
   grind[World.cell?])
  have c:l[t]?.getD undef=.pointer (some ⟨b,0,none⟩):=by simp_all
  refine⟨.tuple #[.agg vs.toArray,nth l u,nth l s],K,dD (below n) M,.tup [.agg cs,g,d],Γ.take n,?_,H.cut L S,?_,h⟩
  ·rw[<-gQ l u,<-gQ l s];simp[results,Y,c,asAddr,C]
  ·refine Rel.res ?_ A;subst r z;have J:bu K M [.agg vs.toArray,nth l u,nth l s] [.agg cs,bx fr u,bx fr s]:=.cons (.agg vs cs G.1 G.2) (.cons (q.nth u) (.cons (q.nth s) .nil))
   exact .tup _ _ J.1 J.2⟩
end
open Go.Proofs Tryz Go.Sp
open GV (U)
attribute [local irreducible] GW GL GO D GC GA bo bn
abbrev BN(c:UInt8):GV:=.v (.int .u8 (c.toNat:Int))
def vR(c:UInt8):GF prog 185 [BN c] [] (.v (.bool (small c))) []:=by
 unfold small;refine dj func185 ntmps185 ?_
 cases h:decide ((97:Int)<=(c.toNat:Int))
 all_goals
  exact aK
def vQ(c:UInt8):GF prog 240 [BN c] [] (.v (.bool (eM c))) []:=by
 unfold eM;refine dj func240 ntmps240 ?_
 cases h:decide ((48:Int)<=(c.toNat:Int))
 all_goals
  exact aK
def B8(c:UInt8):GF prog 184 [BN c] [] (.v (.bool (fD c))) []:=by
 unfold fD;have G:=vR c;have T:=vQ c;generalize small c=n at *;generalize eM c=m at *;refine ak func184 ntmps184 ?_;refine ja [] G ?_
 cases n with
 |true =>
  refine zaW ?_
  grind[bx]
 |false =>
  cases o:decide ((65:Int)<=(c.toNat:Int))with
  |true =>
   cases b:decide ((c.toNat:Int)<=90)with
   |true =>
    refine zaW ?_
    grind[bx]
   |false =>
    refine V ?_;refine ja [] T ?_
    cases m with
    |true =>
     refine zaW ?_
     grind[bx]
    |false =>
     refine zaW ?_
     grind[bx]
  |false =>
   refine V ?_;refine ja [] T ?_
   cases m with
   |true =>
    refine zaW ?_
    grind[bx]
   |false =>
    refine zaW ?_
    grind[bx]
def o8(s t:ah)(a:Nat)(G:s.length<=1152921504606846976)(M:t.length<=1152921504606846976)(ha:a<=1152921504606846976) :
  GF prog 290 [.v (sv s),y4 (a:Nat),.v (sv t)] [] (.v (.bool (ct s a t))) []:=by
 by_cases h:a+t.length<=s.length
 ·have e:decide (((a+t.length:Nat):Int)<=(s.length:Int))=true:=by grind
  refine ak func290 ntmps290 ?_;refine bA ?_;unfold ct;rw[decide_eq_true h];exact zai
 ·have e:decide (((a+t.length:Nat):Int)<=(s.length:Int))=false:=by grind
  refine ak func290 ntmps290 ?_;refine bA ?_;unfold ct
  grind[bx]
def Ab(s:ah)(a:Nat)(G:s.length<=1099511627776)(ha:a<=s.length) :
  GF prog 220 [.v (sv s),y4 (a:Nat)] [] (.tup [y4 ((skip s (s.length+1) a).1:Nat),.v (ii (skip s (s.length+1) a).2)]) []:=by
 generalize r:skip s (s.length+1) a=R;refine ak func220 ntmps220 ?_;refine GW.loop (fun x:Nat × Nat=>x.1) (fun x J u=>J=.v (sv s)::y4 (x.2:Nat)::zU 61 []/\u=[]/\x.2<=s.length/\s.length<x.1+x.2/\skip s x.1 x.2=R) (s.length+1,a) ?_ ?_
 ·exact⟨_,_,Wk.a6 aC,rfl,rfl,ha,by omega,r⟩
 ·rintro⟨f,a⟩_ _⟨rfl,rfl,ha,z,h⟩;simp only at ha z h
  cases f with
  |zero=>omega
  |succ f =>
  rw[skip]at h
  cases W:s[a]? with
  |none =>
   rw[W]at h;simp only at h;subst h;have A:s.length<=a:=nQ W
   have w:decide ((a:Int)<(s.length:Int))=false:=by grind
   refine ew ?_;exact q6
  |some c =>
   rw[W]at h;simp only at h;have B:a<s.length:=(b6 W).1
   have w:decide ((a:Int)<(s.length:Int))=true:=by grind
   have i:fv c=(((c.toNat:Int)==32) ||((c.toNat:Int)==9) ||((c.toNat:Int)==10) ||((c.toNat:Int)==13)):=rfl
   by_cases N:fv c=true
   ·rw[ai N]at h;rw[i]at N;have T:((c.toNat:Int)==32)=true\/(((c.toNat:Int)==32)=false/\((c.toNat:Int)==9)=true)\/(((c.toNat:Int)==32)=false/\((c.toNat:Int)==9)=false/\((c.toNat:Int)==10)=true) \/
      (((c.toNat:Int)==32)=false/\((c.toNat:Int)==9)=false/\((c.toNat:Int)==10)=false/\((c.toNat:Int)==13)=true):=by
     grind
    clear i N
    rcases T with X|⟨X,n⟩|⟨X,n,q⟩|⟨X,n,q,C⟩
    all_goals
     refine ew ?_;exact⟨(f,a+1),⟨_,_,Wk.a6 aC,rfl,rfl,by simp only;omega,by simp only;omega,h⟩,by simp⟩
   ·rw[ab N]at h;rw[i]at N
    have T:((c.toNat:Int)==32)=false/\((c.toNat:Int)==9)=false/\((c.toNat:Int)==10)=false/\((c.toNat:Int)==13)=false:=by
     grind
    clear i N;have⟨X,n,q,C⟩:=T
    by_cases Y:ct s a [47,42]=true
    ·rw[ai Y]at h;have N:=nc Y;have N:a+2<=s.length:=N
     have m:(!ct s a [47,42])=false:=by grind
     try simp only at h
     generalize o:iD s s.length (a+2)=e at h;refine V ?_;refine I [] (o8 s [47,42] a L aU L) ?_;have j:=rf s s.length (a+2) L L;have l:=sf s s.length (a+2) L;rw[o]at j l;refine GW.zJ (fun J u=>J=.v (sv s)::y4 (a:Nat)::U::U::U::U::y4 (e:Nat)::zU 56 []/\u=[]) ?_ ?_
     ·refine GW.loop (fun x:Nat × Nat=>x.1) (fun x J u=>J=.v (sv s)::y4 (a:Nat)::U::U::U::U::y4 (x.2:Nat)::zU 56 []/\u=[]/\x.2<=s.length/\iD s x.1 x.2=e) (s.length,a+2) ?_ ?_
      ·exact⟨_,_,Wk.a6 aC,rfl,rfl,by omega,o⟩
      ·rintro⟨g,b⟩_ _⟨rfl,rfl,O,S⟩;simp only at O S
       by_cases d:b<s.length
       ·have Z:decide ((b:Int)<(s.length:Int))=true:=by grind
        cases E:ct s b [42,47]with
        |true =>
         have Q:(!ct s b [42,47])=false:=by grind
         have t:b=e:=by
          cases g with
          |zero=>exact S
          |succ g=>simp_all[iD,ab]
         subst t;refine V ?_;refine I [] (o8 s [42,47] b L aU L) ?_;refine jF ?_;exact ji
        |false =>
         have Q:(!ct s b [42,47])=true:=by grind
         cases g with
         |zero=>exact absurd ⟨by rw[<-S];exact d,by rw[<-S];exact E⟩ j
         |succ g =>
          rw[iD,ai ⟨d,E⟩]at S;refine V ?_;refine I [] (o8 s [42,47] b L aU L) ?_;exact⟨(g,b+1),⟨_,_,Wk.a6 aC,rfl,rfl,d,S⟩,by simp⟩
       ·have Z:decide ((b:Int)<(s.length:Int))=false:=by grind
        have t:b=e:=by
         cases g with
         |zero=>exact S
         |succ g=>grind[iD]
        subst t;refine ew ?_;exact ji
     ·rintro _ _⟨rfl,rfl⟩
      by_cases O:s.length<=e
      ·rw[ai O]at h
       have k:decide ((s.length:Int)<=(e:Int))=true:=by grind
       subst h;exact q6
      ·rw[ab O]at h
       have k:decide ((s.length:Int)<=(e:Int))=false:=by grind
       have E:ct s e [42,47]=true:=by
        grind
       have E:=nc E;have E:e+2<=s.length:=E;refine ew ?_;exact⟨(f,e+2),⟨_,_,Wk.a6 aC,rfl,rfl,E,by omega,h⟩,by simp⟩
    ·rw[ab Y]at h
     have m:(!ct s a [47,42])=true:=by grind
     subst h;refine V ?_;refine I [] (o8 s [47,42] a L aU L) ?_;refine lJ ?_
     grind[bx]
def vS:GF prog 117 [] [] (strs words) []:=by
 refine ak func117 ntmps117 ?_;refine bR ?_;exact aK
def Jh:GF prog 292 [] [] (strs cE) []:=by
 refine ak func292 ntmps292 ?_;refine bR ?_;exact aK
def LO(s:ah)(G:s.length<=1099511627776):GF prog 116 [.v (sv s)] [] (.v (.bool (word s))) []:=by
 refine ak func116 ntmps116 ?_;refine GW.loop (fun a:Nat=>s.length-a) (fun a J u=>J=.v (sv s)::U::U::y4 (a:Nat)::zU 18 []/\u=[]/\a<=s.length/\(s.take a).all fD=true) 0 ?_ ?_
 ·exact⟨_,_,Wk.a6 aC,rfl,rfl,bl _,rfl⟩
 ·rintro a _ _⟨rfl,rfl,z,n⟩
  cases X:s[a]? with
  |some c =>
   have N:a<s.length:=(b6 X).1
   have T:decide ((a:Int)<(s.length:Int))=true:=by grind
   have l:(s.take (a+1)).all fD=((s.take a).all fD&&fD c):=by
    grind[c7]
   have W:=B8 c
   cases d:fD c with
   |true =>
    rw[d]at W;refine zdw ?_;exact⟨a+1,⟨_,_,Wk.a6 aC,rfl,rfl,N,by grind⟩,by omega⟩
   |false =>
    rw[d]at W;refine zdw ?_;refine bA ?_;refine⟨?_,rfl⟩
    have m:word s=false:=by
     have:s.all fD=false:=by
      grind
     unfold word;grind
    rw[m];rfl
  |none =>
   have w:s.length<=a:=nQ X
   have T:decide ((a:Int)<(s.length:Int))=false:=by grind
   have n:s.all fD=true:=by grind
   cases s with
   |nil =>
    exact zcZ
   |cons c r =>
    have A:(c::r)[0]?=some c:=rfl;refine zbW ?_;refine I [] (vR c) ?_;refine bA ?_;refine⟨?_,rfl⟩;unfold word;rw[n];rfl
def fp(s:ah)(G:s.length<=1099511627776):GF prog 55 [.v (sv s)] [] (.v (.bool (bZ s))) []:=by
 have l:=LO s G;unfold bZ;generalize word s=b at *;refine ak func55 ntmps55 ?_;refine ja [] l ?_
 cases b with
 |false =>
  exact aK
 |true =>
  by_cases c:s.length<=12
  ·have d:decide ((s.length:Int)<=12)=true:=by grind
   refine V ?_;refine I [] vS ?_;refine I [] (jR words s aU) ?_;refine bA ?_;rw[decide_eq_true c];exact zai
  ·have d:decide ((s.length:Int)<=12)=false:=by grind
   refine zaW ?_;rw[decide_eq_false c];exact zai
def FQ(s:ah)(a:Nat)(G:s.length<=1099511627776)(ha:a<=s.length) :
  GF prog 291 [.v (sv s),y4 (a:Nat)] [] (.tup [.agg (da ⟨1,(number s (s.length+1) 0 a).1,[],a⟩),y4 ((number s (s.length+1) 0 a).2:Nat)]) []:=by
 generalize j:number s (s.length+1) 0 a=R;generalize i:a=X at *;refine ak func291 ntmps291 ?_;refine GW.loop (fun x:Nat × Int × Nat=>x.1) (fun x M z=>M=.v (sv s)::y4 (x.2.2:Nat)::U::U::.loc 0 0::U::.loc 1 0::zU 29 []/\z=[.box 205 [y4 0,y4 0,.v (sv []),y4 0],.box 205 (da ⟨1,x.2.1,[],X⟩)]/\x.2.2<=s.length/\s.length<x.1+x.2.2/\number s x.1 x.2.1 x.2.2=R/\0<=x.2.1/\x.2.1<=21474836479) (s.length+1,0,X) ?_ ?_
 ·exact⟨_,_,Wk.a6 aC,rfl,rfl,by omega,by omega,by omega,by simp,by simp⟩
 ·rintro⟨f,n,a⟩_ _⟨rfl,rfl,ha,l,h,t,e⟩;simp only at ha l h t e
  cases f with
  |zero=>omega
  |succ f =>
  rw[number]at h
  cases W:s[a]? with
  |none =>
   rw[W]at h;simp only at h;subst h;have w:s.length<=a:=nQ W
   have T:decide ((a:Int)<(s.length:Int))=false:=by grind
   refine zbW ?_;refine oB ?_;exact zai
  |some c =>
   rw[W]at h;simp only at h;have N:a<s.length:=(b6 W).1
   have T:decide ((a:Int)<(s.length:Int))=true:=by grind
   have J:=vQ c
   cases F:eM c with
   |false =>
    rw[F]at J;rw[ab ze2]at h;subst h;refine V ?_;refine I [] J ?_;refine jF ?_;refine V ?_;refine oB ?_;exact zai
   |true =>
    rw[F]at J;rw[ai F]at h
    have u:(48:Int)<=(c.toNat:Int)/\(c.toNat:Int)<=57:=by
     simp_all[eM,aZ,decide_eq_true_eq]
    by_cases d:n<=2147483647
    ·rw[ai d]at h
     have m:decide (n<=2147483647)=true:=by grind
     refine V ?_;refine I [] J ?_;refine aV (aM 0 10 (.a 10 .nil)) ?_;refine bj ?_;exact⟨(f,n*10+((c.toNat:Int)-48),a+1),⟨_,_,Wk.a6 aC,rfl,rfl,N,by grind,h,by grind,by grind⟩,by simp⟩
    ·rw[ab d]at h
     have m:decide (n<=2147483647)=false:=by grind
     refine V ?_;refine I [] J ?_;exact⟨(f,n,a+1),⟨_,_,Wk.a6 aC,rfl,rfl,N,by grind,h,t,e⟩,by simp⟩
open Go.Xp (Tok)
section
variable{xs:List ah}{p:ah->Bool}{k:Nat}{x:ah}
theorem KR(h:(xs.take k).find? p=none)(hx:xs[k]?=some x)(W:p x=true):xs.find? p=some x:=by
 grind[List.getElem?_eq_some_iff,List.take_append_drop,lz]
theorem KQ(h:(xs.take k).find? p=none)(hx:xs[k]?=some x)(W:p x=false):(xs.take (k+1)).find? p=none:=by
 grind[c7]
end
def Gb:∀x∈cE,x.length<=1152921504606846976:=by decide
def D3(s:ah)(a:Nat)(c:UInt8)(Y:s.length<=1099511627776)(S:s[a]?=some c) :
  GF prog 221 [.v (sv s),y4 (a:Nat)] [] (.tup [.agg (da (gJ s a c).1),y4 ((gJ s a c).2:Nat)]) []:=by
 have X:a<s.length:=(b6 S).1;have i:=vQ c;have m:=vR c;unfold gJ
 cases u:eM c with
 |true =>
  rw[u]at i;rw[ai rfl];refine ak func221 ntmps221 ?_;refine I [] i ?_;refine I [] (FQ s a Y L) ?_;refine oB ?_;exact zai
 |false =>
  rw[u]at i;rw[ab aU]
  cases C:small c with
  |true =>
   rw[C]at m;rw[ai rfl];have B:=oK s fD (s.length+1) a L L;have M:(s.take (hE s a)).drop a=jB s a:=rfl;have z:run s fD (s.length+1) a=hE s a:=rfl;rw[z]at B;generalize Q:hE s a=e at *;generalize R:jB s a=w at *;have R:=M;have Q:=z;refine ak func221 ntmps221 ?_;refine I [] i ?_;refine I [] m ?_;refine GW.zJ (fun r E=>r=.v (sv s)::y4 (a:Nat)::U::U::.loc 0 0::U::y4 (e:Nat)::zU 62 []/\E=[.box 205 [y4 0,y4 0,.v (sv []),y4 0]]) ?_ ?_
   ·refine GW.loop (fun x:Nat × Nat=>x.1) (fun x r E=>r=.v (sv s)::y4 (a:Nat)::U::U::.loc 0 0::U::y4 (x.2:Nat)::zU 62 []/\E=[.box 205 [y4 0,y4 0,.v (sv []),y4 0]]/\x.2<=s.length/\s.length<x.1+x.2/\run s fD x.1 x.2=e) (s.length+1,a) ?_ ?_
    ·exact⟨_,_,Wk.a6 aC,rfl,rfl,by omega,by omega,Q⟩
    ·rintro⟨f,b⟩_ _⟨rfl,rfl,o,n,h⟩;simp only at o n h
     cases f with
     |zero=>omega
     |succ f =>
     rw[run]at h
     cases l:s[b]? with
     |none =>
      rw[l]at h;simp only at h;subst h;have W:s.length<=b:=nQ l
      have T:decide ((b:Int)<(s.length:Int))=false:=by grind
      refine ew ?_;exact ji
     |some O =>
      rw[l]at h;simp only at h;have A:b<s.length:=(b6 l).1
      have T:decide ((b:Int)<(s.length:Int))=true:=by grind
      have G:=B8 O
      cases J:fD O with
      |true =>
       rw[J]at G;rw[ai J]at h;refine V ?_;refine I [] G ?_;exact⟨(f,b+1),⟨_,_,Wk.a6 aC,rfl,rfl,A,by omega,h⟩,by simp⟩
      |false =>
       rw[J]at G;rw[ab ze2]at h;subst h;refine V ?_;refine I [] G ?_;refine jF ?_;exact ji
   ·rintro _ _⟨rfl,rfl⟩;have⟨_,Z,h2⟩:=B;refine V ?_;rw[R];have d:=jR words w aU
    cases t:words.contains w with
    |true =>
     rw[t]at d;refine zdq ?_;rw[ai rfl];exact zai
    |false =>
     rw[t]at d;refine zdq ?_;rw[ab aU];exact zai
  |false =>
   rw[C]at m;rw[ab aU];refine ak func221 ntmps221 ?_;refine I [] i ?_;refine I [] m ?_;refine I [] Jh ?_;refine GW.range (cE.map fun s=>[GV.v (sv s)]).length (fun k r E=>r=[.v (sv s),y4 (a:Nat),U,U,.loc 0 0,U,U,U,U,U,U,U,U,U,U,U,U,U,U,U,U,U,U,U,U,U,U,U,U,U,U,U,U,U,U,U,U,U,U,U,U,U,U,U,U,U,U,U,U,strs cE,y4 ((cE.map fun s=>[GV.v (sv s)]).length:Int),y4 (k:Nat),U,U,U,U,U,U,U,U,U,U,U,U,U,U,U,U,U]/\E=[.box 205 [y4 0,y4 0,.v (sv []),y4 0]]/\(cE.take k).find? (ct s a)=none) ?_ aU ?_ ?_ ?_
   ·exact kP
   ·exact jA
   ·rintro k _ _ F⟨rfl,rfl,n⟩
    have F:k<cE.length:=by grind
    have hx:cE[k]?=some cE[k]:=by simp[F]
    have hr:(cE.map fun s=>[GV.v (sv s)])[k]?=some [.v (sv cE[k])]:=by simp[F]
    have N:=Gb _ (getElem_mem F);generalize cE[k]=x at *;have j:=o8 s x a L N L
    cases o:ct s a x with
    |true =>
     rw[o]at j;have H:=KR n hx o;refine V ?_;refine I [] j ?_;refine oB ?_;rw[H];exact zai
    |false =>
     rw[o]at j;refine V ?_;refine I [] j ?_;exact⟨rfl,rfl,_,_,Wk.a6 aC,rfl,rfl,KQ n hx o⟩
   ·rintro _ _⟨rfl,rfl,n⟩
    have n:cE.find? (ct s a)=none:=by
     grind
    refine V ?_;refine oB ?_;rw[n];exact zai
def Fc{s:ah}{a:Nat}{c:UInt8}(W:s[a]?=some c):a<=(gJ s a c).2/\(gJ s a c).2<=s.length:=by
 have N:a<s.length:=(b6 W).1;unfold gJ;split
 ·grind[so]
 ·split
  ·exact(oK s fD (s.length+1) a L L).2
  grind[ct]
def LR(s:ah)(l:List Tok)(G:s.length<=1000000000000)(h:Go.Sp.ir s=some l) :
  GF prog 204 [.v (sv s)] [] (Go.Xg.ir l) []:=by
 rw[Go.Sp.ir]at h;have w:=Ab s 0 L (bl _);have J:=sL s (s.length+1) 0 (bl _);generalize Q:skip s (s.length+1) 0=R at *;refine ak func204 ntmps204 ?_;refine nF ?_;refine V ?_;refine I [] w ?_;refine GW.loop (fun x:Nat × Nat × List Tok=>x.1) (fun x M C=>∃n H,M=.v (sv s)::U::U::.vec 0 n::y4 (x.2.1:Nat)::zU 30 []/\C=[.vec 205 4 0 H]/\H.length=n/\H=x.2.2.map da/\n+x.1<=s.length+2/\x.2.1<=s.length/\qp s x.1 x.2.1 x.2.2=some l) (s.length+2,R.1,[]) ?_ ?_
 ·exact⟨_,_,Wk.a6 aC,0,[],rfl,rfl,rfl,rfl,by simp,J.2,h⟩
 ·rintro⟨f,a,T⟩_ _⟨n,H,rfl,rfl,d,S,B,z,h⟩;simp only at S B z h
  cases f with
  |zero=>simp[qp]at h
  |succ f =>
  rw[qp]at h
  cases W:s[a]? with
  |none =>
   rw[W]at h;simp only at h;cases h;have A:s.length<=a:=nQ W
   have X:decide ((a:Int)<(s.length:Int))=false:=by grind
   subst S;refine zbW ?_;refine GW.wk (Wk.jJ (t:=2) rfl rfl rfl d) ?_;exact az
  |some c =>
   rw[W]at h;simp only at h;have N:a<s.length:=(b6 W).1
   have X:decide ((a:Int)<(s.length:Int))=true:=by grind
   have m:=Fc W;have F:=D3 s a c L W;generalize gJ s a c=tk at *;have u:=Ab s tk.2 L m.2;have i:=sL s (s.length+1) tk.2 m.2;generalize skip s (s.length+1) tk.2=o at *;refine V ?_;refine I [] F ?_;refine zbG ?_;refine I [] u ?_;exact⟨(f,o.1,T++[tk.1]),⟨_,_,(Wk.cut (n:=1) (eF rfl) rfl).trans (Wk.a6 aC),_,_,rfl,rfl,by simp[d],by rw[jK,S];rfl,by omega,by grind,h⟩,by simp⟩
open Go.Xp (T one levels)
structure De(f:Nat):Prop where
 expr:∀d p t q,p.ok->d+f<=4611686018427387904->mE f (.expr d) p=some (t,q)->GF prog 323 [.loc 0 0,y4 (d:Nat)] [cb p] (.agg (cT t)) [cb q]
 level:∀k d p t q,p.ok->k<=9->d+f<=4611686018427387904->mE f (.level k d) p=some (t,q)->GF prog 360 [.loc 0 0,y4 (k:Nat),y4 (d:Nat)] [cb p] (.agg (cT t)) [cb q]
 operand:∀d p t q,p.ok->d+f<=4611686018427387904->mE f (.operand d) p=some (t,q)->GF prog 374 [.loc 0 0,y4 (d:Nat)] [cb p] (.agg (cT t)) [cb q]
 named:∀a s d p t q,p.ok->d+f<=4611686018427387904->mE f (.named a s d) p=some (t,q)->GF prog 380 [.loc 0 0,y4 a,.v (sv s),y4 (d:Nat)] [cb p] (.agg (cT t)) [cb q]
 list:∀d p l q,p.ok->d+f<=4611686018427387904->mL f d p=some (l,q)->GF prog 382 [.loc 0 0,y4 (d:Nat)] [cb p] (.sl 6 (bq l)) [cb q]
def TL{f:Nat}(C:De f)(d:Nat)(p:RS)(t:T)(q:RS)(W:p.ok)(hd:d+(f+1)<=4611686018427387904)(h:mE (f+1) (.expr d) p=some (t,q)) :
  GF prog 323 [.loc 0 0,y4 (d:Nat)] [cb p] (.agg (cT t)) [cb q]:=by
 rw[mE]at h;refine ak func323 ntmps323 ?_;refine I [0] (tZ p d W) ?_;refine I [0] (C.level 0 d _ t q ((iF W d).ok W) L L h) ?_;exact zdM
def HD{k:Nat}(N:k<9):(levels.map fun l=>[strs l])[k]?=some [strs (levels.getD k [])]:=by
 have:k<levels.length:=N
 grind
def AZ:∀k,k<9->(levels.getD k []).length<=1099511627776:=by decide
abbrev zT:am:=[y4 0,y4 0,y4 0,.v (sv []),.v y6,.v y6]
def R8{f:Nat}(C:∀Z,Z<=f->De Z)(k d:Nat)(p:RS)(t:T)(q:RS)(W:p.ok)(N:k<=9)(hd:d+(f+1)<=4611686018427387904)(h:mE (f+1) (.level k d) p=some (t,q)) :
  GF prog 360 [.loc 0 0,y4 (k:Nat),y4 (d:Nat)] [cb p] (.agg (cT t)) [cb q]:=by
 rw[mE]at h
 by_cases G:k=9
 ·subst G;rw[ai rfl]at h;refine ak func360 ntmps360 ?_;refine I [] jZ ?_;refine I [0] ((C f (a8 _)).operand (d+1) p t q W L h) ?_;exact zdM
 ·rw[ab G]at h
  have o:((k:Int)==9)=false:=by grind
  cases m:mE f (.level (k+1) d) p with
  |none=>grind
  |some r =>
   have⟨out,J⟩:=r;rw[m]at h;simp only at h;have X:=((rh f).1 _ _ _ _ W m).ok W;refine ak func360 ntmps360 ?_;refine I [] jZ ?_;refine I [0] ((C f (a8 _)).level (k+1) d p out J W L L m) ?_;refine GW.loop (fun x:Nat × T × RS=>x.1) (fun x Q B=>Q=.loc 0 0::y4 (k:Nat)::y4 (d:Nat)::U::U::U::.loc 1 0::.loc 2 0::zU 58 []/\B=[cb x.2.2,.box 89 zT,.box 89 (cT x.2.1)]/\x.2.2.ok/\x.1<=f/\mE x.1 (.loop k d x.2.1) x.2.2=some (t,q)) (f,out,J) ?_ ?_
   ·exact⟨_,_,Wk.a6 aC,rfl,rfl,X,a8 _,h⟩
   ·rintro⟨g,out,p⟩_ _⟨rfl,rfl,W,F,h⟩;simp only at W F h
    cases g with
    |zero=>simp[mE]at h
    |succ g =>
    rw[mE]at h
    have N:k<9:=by omega
    by_cases Y:p.code=0
    ·have u:(p.code==0)=true:=by grind
     have z:=HD N
     by_cases hit:(levels.getD k []).contains (p.aJ 0)=true
     ·rw[ai ⟨Y,hit⟩]at h
      cases M:p.l[p.i]? with
      |none=>grind
      |some tk =>
       rw[M]at h;simp only at h;have O:=(b6 M).1;have E:=kY M;have A:=W.2
       cases j:mE g (.level (k+1) d) p.next with
       |none=>grind
       |some r =>
        have⟨b,c⟩:=r;rw[j]at h;simp only at h;have e:=(cR O).ok W;have H:=((rh g).1 _ _ _ _ e j).ok e;refine zbq ?_;refine V ?_;refine zcJ ?_;refine aV (aM 0 9 (.a 9 (.a 10 (.a 11 (.a 12 .nil))))) ?_;refine ay ?_;refine aX [0] ((C g L).level (k+1) d p.next b c e L L j) ?_;refine zar ?_;refine jz [] (iP 6 tk.at_ tk.s [out,b] _ oN) ?_;refine Fl ?_;refine bj ?_;exact⟨(g,one 6 tk.at_ tk.s [out,b],c),⟨_,_,(Wk.cut (n:=3) (eF rfl) rfl).trans (Wk.a6 aC),rfl,rfl,H,by omega,h⟩,by simp⟩
     ·have hit:(levels.getD k []).contains (p.aJ 0)=false:=by grind
      rw[ab ze2]at h
      obtain⟨rfl,rfl⟩:out=t/\p=q:=by grind
      refine zbq ?_;refine ew ?_;exact pE
    ·have u:(p.code==0)=false:=by grind
     rw[ab (fun w=>Y w.1)]at h
     obtain⟨rfl,rfl⟩:out=t/\p=q:=by grind
     refine V ?_;refine aV (aM 0 6 (.q 7 (.q 10 (.a 6 (.q 8 (.q 9 (.a 11 (.a 12 (.q 13 .nil))))))))) ?_;refine bj ?_;refine jF ?_;exact pE
def Se{f:Nat}(C:De f)(a:Int)(s:ah)(d:Nat)(p:RS)(t:T)(q:RS)(W:p.ok)(hd:d+(f+1)<=4611686018427387904)(h:mE (f+1) (.named a s d) p=some (t,q)) :
  GF prog 380 [.loc 0 0,y4 a,.v (sv s),y4 (d:Nat)] [cb p] (.agg (cT t)) [cb q]:=by
 rw[mE]at h
 by_cases o:p.aJ 0=[91]
 ·rw[ai o]at h
  have E:(p.aJ 0==[91])=true:=by simp[o]
  have N:=(dv o aU).1;have k:=W.2;have e:=(dW o aU).ok W
  cases i:mE f (.expr (d+1)) p.next with
  |none=>grind
  |some r =>
   have⟨b,H⟩:=r;rw[i]at h;cases h;have X:=((rh f).1 _ _ _ _ e i).ok e;refine ak func380 ntmps380 ?_;refine I [0] (dk p 0 W aU) ?_;refine I [0] (C.expr (d+1) p.next b H e L i) ?_;refine I [0] (cX H [93] X aU) ?_;refine zab ?_;refine I [] (iP 3 a s [b] _ oN) ?_;exact zdM
 ·rw[ab o]at h
  have E:(p.aJ 0==[91])=false:=by grind
  by_cases c:p.aJ 0=[40]
  ·rw[ai c]at h
   have j:(p.aJ 0==[40])=true:=by simp[c]
   have N:=(dv c aU).1;have k:=W.2;have e:=(dW c aU).ok W
   cases i:mL f (d+1) p.next with
   |none=>grind
   |some r =>
    have⟨l,H⟩:=r;rw[i]at h;cases h;refine ak func380 ntmps380 ?_;refine I [0] (dk p 0 W aU) ?_;refine I [0] (C.list (d+1) p.next l q e L i) ?_;refine I [] (iP 4 a s l _ rfl) ?_;exact zdM
  ·rw[ab c]at h
   have j:(p.aJ 0==[40])=false:=by grind
   cases h;refine ak func380 ntmps380 ?_;refine I [0] (dk p 0 W aU) ?_;refine I [] (iP 2 a s [] [] rfl) ?_;exact zdM
theorem bC(l:List T):(bq l).length=l.length:=by
 induction l with
 |nil=>rfl
 |cons a l O=>simp[bq,O]
def wK(l:List T)(a:T):bq (l++[a])=bq l++[cT a]:=by
 induction l with
 |nil=>simp[bq,uP]
 |cons b l O=>simp[bq,O]
def UP{f:Nat}(C:∀u,u<=f->De u)(d:Nat)(p:RS)(l:List T)(q:RS)(W:p.ok)(hd:d+(f+1)<=4611686018427387904)(h:mL (f+1) d p=some (l,q)) :
  GF prog 382 [.loc 0 0,y4 (d:Nat)] [cb p] (.sl 6 (bq l)) [cb q]:=by
 rw[mL]at h
 by_cases o:p.aJ 0=[41]
 ·rw[ai o]at h
  have E:(!(p.aJ 0==[41]))=false:=by simp[o]
  cases h;refine ak func382 ntmps382 ?_;refine nF ?_;refine zcn ?_;refine I [0] (cX p [41] W aU) ?_;refine GW.wk (Wk.jJ (t:=4) rfl rfl rfl rfl) ?_;exact az
 ·rw[ab o]at h
  have E:(!(p.aJ 0==[41]))=true:=by grind
  cases s:mE f (.expr d) p with
  |none=>grind
  |some r =>
   have⟨a,J⟩:=r;rw[s]at h;simp only at h;have Y:=((rh f).1 _ _ _ _ W s).ok W;refine ak func382 ntmps382 ?_;refine nF ?_;refine zcn ?_;refine I [0] ((C f (a8 _)).expr d p a J W L s) ?_;refine zbG ?_;refine GW.loop (fun x:Nat × List T × RS=>x.1) (fun x M Q=>∃n H,M=.loc 0 0::y4 (d:Nat)::U::U::U::.vec 1 n::zU 29 []/\Q=[cb x.2.2,.vec 89 6 0 H]/\H.length=n/\H=bq x.2.1/\n<=x.2.2.i+1/\x.2.2.ok/\x.1<=f/\pM x.1 d x.2.1 x.2.2=some (l,q)) (f,[a],J) ?_ ?_
   ·exact⟨_,_,Wk.a6 aC,_,_,rfl,rfl,rfl,(by simp only[bq,uP];rfl),(by show 1<=J.i+1;omega),Y,a8 _,h⟩
   ·rintro⟨g,X,p⟩_ _⟨n,H,rfl,rfl,z,R,w,W,F,h⟩;simp only at R w W F h
    cases g with
    |zero=>simp[pM]at h
    |succ g =>
    rw[pM]at h;have B:=W.2;have A:=W.1
    by_cases c:p.aJ 0=[44]
    ·rw[ai c]at h
     have k:(p.aJ 0==[44])=true:=by simp[c]
     have O:=(dv c aU).1;have e:=(dW c aU).ok W
     cases m:mE g (.expr d) p.next with
     |none=>grind
     |some r =>
      have⟨b,Z⟩:=r;rw[m]at h;simp only at h;have j:=(rh g).1 _ _ _ _ e m;have G:=j.ok e;have N:p.i+1<=Z.i:=j.2.2.2;refine zcn ?_;refine I [0] ((C g L).expr d p.next b Z e L m) ?_;refine zbG ?_;exact⟨(g,X++[b],Z),⟨_,_,Wk.a6 aC,_,_,rfl,rfl,by simp[z],by rw[wK,R],by grind,G,by omega,h⟩,by simp⟩
    ·rw[ab c]at h
     have k:(p.aJ 0==[44])=false:=by grind
     obtain⟨rfl,rfl⟩:X=l/\p.ba [41]=q:=by grind
     subst R;refine zcn ?_;refine jF ?_;refine V ?_;refine I [0] (cX p [41] W aU) ?_;refine GW.wk (Wk.jJ (t:=4) rfl rfl rfl z) ?_;exact az
def Mr{f:Nat}(C:De f)(d:Nat)(p:RS)(t:T)(q:RS)(W:p.ok)(hd:d+(f+1)<=4611686018427387904)(h:mE (f+1) (.operand d) p=some (t,q)) :
  GF prog 374 [.loc 0 0,y4 (d:Nat)] [cb p] (.agg (cT t)) [cb q]:=by
 rw[mE]at h;have e:=(iF W d).ok W;have o:=tZ p d W;generalize p.aW d=H at *
 try simp only at h
 have⟨F,J⟩:=id e
 by_cases Y:H.code=0
 ·rw[ai Y]at h
  have u:(H.code != 0)=false:=by grind
  cases M:H.l[H.i]? with
  |none =>
   rw[M]at h;cases h;have E:H.l.length<=H.i:=nQ M
   have m:decide (((H.l.map da).length:Int)<=(H.i:Int))=true:=by grind
   exact zbw
  |some tk =>
   rw[M]at h;simp only at h;have N:H.i<H.l.length:=(b6 M).1
   have m:decide (((H.l.map da).length:Int)<=(H.i:Int))=false:=by grind
   have b:=kY M;have j:=(cR N).ok e;refine ak func374 ntmps374 ?_;refine I [0] o ?_;refine aV (aM 0 17 .nil) ?_;refine bj ?_;refine zcJ ?_
   by_cases S:tk.aj=1
   ·rw[ai S]at h;cases h
    have O:(tk.aj==1)=true:=by grind
    refine V ?_;exact zeA
   ·rw[ab S]at h
    have O:(tk.aj==1)=false:=by grind
    by_cases Z:tk.aj=2
    ·rw[ai Z]at h
     have c:(tk.aj==2)=true:=by grind
     refine V ?_;refine I [0] (oi H e) ?_;refine I [0] (C.named tk.at_ H.name.1 d H.name.2 t q ((eU e).ok e) L h) ?_;exact zdM
    ·rw[ab Z]at h
     have c:(tk.aj==2)=false:=by grind
     by_cases A:tk.s=[45]\/tk.s=[33]\/tk.s=[126]
     ·rw[ai A]at h
      cases k:mE f (.operand (d+1)) H.next with
      |none=>grind
      |some r =>
       have⟨a,X⟩:=r;rw[k]at h;cases h
       have n:(tk.s==[45])=true\/((tk.s==[45])=false/\(tk.s==[33])=true)\/((tk.s==[45])=false/\(tk.s==[33])=false/\(tk.s==[126])=true):=by
        grind
       refine V ?_
       rcases n with w|⟨w,R⟩|⟨w,R,B⟩
       all_goals
        refine V ?_;refine aV (aM 0 7 (.a 7 (.a 8 (.a 9 (.a 10 .nil))))) ?_;refine ay ?_;refine aX [0] (C.operand (d+1) H.next a q j L k) ?_;refine zar ?_;refine jz [] (iP 5 tk.at_ tk.s [a] _ oN) ?_;refine Fl ?_;refine ay ?_;exact pE
     ·rw[ab A]at h
      have w:(tk.s==[45])=false:=by grind
      have R:(tk.s==[33])=false:=by grind
      have B:(tk.s==[126])=false:=by grind
      by_cases z:tk.s=[40]
      ·rw[ai z]at h
       have Q:(tk.s==[40])=true:=by simp[z]
       cases k:mE f (.expr (d+1)) H.next with
       |none=>grind
       |some r =>
        have⟨a,X⟩:=r;rw[k]at h;cases h;have G:=((rh f).1 _ _ _ _ j k).ok j;refine V ?_;refine I [0] (C.expr (d+1) H.next t X j L k) ?_;refine I [0] (cX X [41] G aU) ?_;exact ln
      ·rw[ab z]at h
       have Q:(tk.s==[40])=false:=by grind
       cases h;refine V ?_;refine I [0] (kd H 7 tk.at_) ?_;exact zeA
 ·rw[ab Y]at h
  have u:(H.code != 0)=true:=by grind
  cases h;exact zbw
def rds(f:Nat):De f:=by
  induction f using Nat.strongRecOn with
  |_ f O =>
   cases f with
   |zero=>exact⟨fun d p t q _ _ h=>by simp[mE]at h,fun k d p t q _ _ _ h=>by simp[mE]at h,fun d p t q _ _ h=>by simp[mE]at h,fun a s d p t q _ _ h=>by simp[mE]at h,fun d p l q _ _ h=>by simp[mL]at h⟩
   |succ f =>
    have C:=O f (Nat.lt_succ_self f)
    have m:∀Z,Z<=f->De Z:=fun Z h=>O Z (Nat.lt_succ_of_le h)
    exact⟨fun d p t q W T h=>TL C d p t q W T h,fun k d p t q W N T h=>R8 m k d p t q W N T h,fun d p t q W T h=>Mr C d p t q W T h,fun a s d p t q W T h=>Se C a s d p t q W T h,fun d p l q W T h=>UP m d p l q W T h⟩
open Go.Xp (iH)
structure Kg(f:Nat):Prop where
 block:∀d p t q,p.ok->d+f<=1099511627776->mS f (.block d) p=some (t,q)->GF prog 205 [.loc 0 0,y4 (d:Nat)] [cb p] (.agg (cT t)) [cb q]
 stmt:∀d p t q,p.ok->d+f<=1099511627776->mS f (.stmt d) p=some (t,q)->GF prog 264 [.loc 0 0,y4 (d:Nat)] [cb p] (.agg (cT t)) [cb q]
 cond:∀a d p t q,p.ok->p.i<p.l.length->d+f<=1099511627776->mS f (.cond a d) p=some (t,q)->GF prog 324 [.loc 0 0,y4 a,y4 (d:Nat)] [cb p] (.agg (cT t)) [cb q]
def w8(d:Nat)(p:RS)(t:T)(q:RS)(W:p.ok)(hd:d<=1099511627777)(h:mX d p=some (t,q)):GF prog 323 [.loc 0 0,y4 (d:Nat)] [cb p] (.agg (cT t)) [cb q] :=
 (rds (fe p)).expr d p t q W (by have:=W.2;grind[fe]) h
def Ji(k a:Int)(s:ah):GF prog 263 [y4 k,y4 a,.v (sv s),.v y6] [] (.agg [y4 k,y4 a,y4 0,.v (sv s),ints [],.v y6]) []:=by
 refine ak func263 ntmps263 ?_;exact zeA
def Rs{f:Nat}(C:∀Z,Z<=f->Kg Z)(d:Nat)(p:RS)(t:T)(q:RS)(W:p.ok)(hd:d+(f+1)<=1099511627776)(h:mS (f+1) (.block d) p=some (t,q)) :
  GF prog 205 [.loc 0 0,y4 (d:Nat)] [cb p] (.agg (cT t)) [cb q]:=by
 rw[mS]at h;have e:=(iF W d).ok W;have u:=tZ p d W;generalize p.aW d=J at *
 try simp only at h
 have A:=(bU e (s:=[123]) aU).ok e
 cases m:mB f (d+1) [] (J.ba [123])with
 |none=>grind
 |some r =>
  have⟨l,E⟩:=r;rw[m]at h;cases h;generalize k:J.place=O;refine ak func205 ntmps205 ?_;refine I [0] u ?_;refine I [0] (j0 J e) ?_;refine I [] (Ji 14 J.place []) ?_;refine I [0] (cX J [123] e aU) ?_;rw[k];refine GW.wk (Wk.A7 (i:=2) (o:=5) 89 6 rfl rfl) ?_;refine GW.loop (fun x:Nat × List T × RS=>x.1) (fun x N Q=>∃n H,N=.loc 0 0::y4 (d:Nat)::U::U::.loc 1 0::.loc 2 0::zU 30 []/\Q=[cb x.2.2,.box 89 zT,.box 89 [y4 14,y4 O,y4 0,.v (sv []),ints [],.vec 3 n],.vec 89 6 0 H]/\H.length=n/\H=bq x.2.1/\n+x.1<=f/\x.2.2.ok/\mB x.1 (d+1) x.2.1 x.2.2=some (l,E)) (f,[],J.ba [123]) ?_ ?_
  ·exact⟨_,_,Wk.a6 aC,0,[],rfl,rfl,rfl,rfl,by simp,A,m⟩
  ·rintro⟨g,X,p⟩_ _⟨n,H,rfl,rfl,c,R,B,W,h⟩;simp only at R B W h
   cases g with
   |zero=>simp[mB]at h
   |succ g =>
   rw[mB]at h
   by_cases b:p.code=0
   ·have w:(p.code==0)=true:=by grind
    by_cases M:p.aJ 0=[125]
    ·rw[ab (fun Y=>Y.2 M)]at h
     obtain⟨rfl,rfl⟩:X=l/\p=E:=by grind
     have z:(!(p.aJ 0==[125]))=false:=by simp[M]
     subst R;refine zcn ?_;refine jF ?_;refine V ?_;exact zcu
    ·rw[ai ⟨b,M⟩]at h
     have z:(!(p.aJ 0==[125]))=true:=by grind
     cases j:mS g (.stmt (d+1)) p with
     |none=>grind
     |some r =>
      have⟨a,F⟩:=r;rw[j]at h;simp only at h;have G:=((pr g).1 _ _ _ _ W (fun a S h=>by cases h) j).ok W;refine zcn ?_;refine aV (aM 0 5 (.a 5 (.a 6 (.a 7 (.q 8 (.a 9 .nil)))))) ?_;refine ay ?_;refine aX [0] ((C g L).stmt (d+1) p a F W L j) ?_;refine zar ?_;refine vy ?_;refine bj ?_;exact⟨(g,X++[a],F),⟨_,_,Wk.a6 aC,_,_,rfl,rfl,by simp[c],by rw[wK,R];rfl,by show n+1+g<=f;omega,G,h⟩,by simp⟩
   ·have w:(p.code==0)=false:=by grind
    rw[ab (fun Y=>b Y.1)]at h
    obtain⟨rfl,rfl⟩:X=l/\p=E:=by grind
    subst R;refine zbW ?_;exact zcu
def TA{f:Nat}(C:Kg f)(a:Int)(d:Nat)(p:RS)(t:T)(q:RS)(J:p.ok)(S:p.i<p.l.length)(hd:d+(f+1)<=1099511627776)(h:mS (f+1) (.cond a d) p=some (t,q)) :
  GF prog 324 [.loc 0 0,y4 a,y4 (d:Nat)] [cb p] (.agg (cT t)) [cb q]:=by
 rw[mS]at h
 try simp only at h
 have o:=(cR S).ok J;have Z:=J.2;have n:=(bU o (s:=[40]) aU).ok o
 cases G:mX (d+1) (p.next.ba [40])with
 |none=>grind
 |some r =>
 have⟨e,A⟩:=r;rw[G]at h;simp only at h;have m:=(fY n G).ok n;have c:=(bU m (s:=[41]) aU).ok m
 cases B:mS f (.block (d+1)) (A.ba [41])with
 |none=>grind
 |some r =>
 have⟨b,u⟩:=r;rw[B]at h;simp only at h;have w:=((pr f).1 _ _ _ _ c (fun a d' h=>by cases h) B).ok c;have Y:=w.2
 have z:∀k:Int,(if k=9/\u.aJ 0=iH then match mS f (.block (d+1)) u.next with
     |none=>none
     |some (O,q)=>some (one k a [] [e,b,O],q)
    else some (one k a [] [e,b],u))=some (t,q)->p.ck=k->(k=9\/k=10)->((p.aJ 0==[105,102])=true/\k=9)\/((p.aJ 0==[105,102])=false/\k=10):=by
  intro k _ Q _;unfold RS.ck at Q;split at Q
  ·rename_i N;exact .inl ⟨by rw[N];rfl,Q.symm⟩
  ·rename_i N;refine .inr ⟨?_,Q.symm⟩
   cases W:(p.aJ 0==[105,102])with
   |false=>rfl
   |true=>exact absurd (eq_of_beq W) N
 have F:p.ck=9\/p.ck=10:=by grind[RS.ck]
 have z:=z p.ck h rfl F;generalize p.ck=k at h z;clear F
 rcases z with⟨N,rfl⟩|⟨N,rfl⟩
 ·by_cases j:u.aJ 0=iH
  ·rw[ai ⟨rfl,j⟩]at h
   have H:(u.aJ 0==[101,108,115,101])=true:=by rw[j];rfl
   have X:=(dv j aU).1;have M:=(dW j aU).ok w
   cases E:mS f (.block (d+1)) u.next with
   |none=>grind
   |some r =>
   have⟨O,p3⟩:=r;rw[E]at h;cases h;refine ak func324 ntmps324 ?_;refine zaz ?_;refine aX [0] (C.block (d+1) _ b u c L B) ?_;refine q5 ?_;refine bj ?_;refine I [0] (dk u 0 w aU) ?_;refine ja [0] (C.block (d+1) _ O q M L E) ?_;refine zbG ?_;refine zd6 ?_;refine I [] (iP 9 a [] [e,b,O] _ oN) ?_;exact zdM
  ·rw[ab (fun R=>j R.2)]at h
   have H:(u.aJ 0==[101,108,115,101])=false:=by
    cases W:(u.aJ 0==[101,108,115,101])with
    |false=>rfl
    |true=>exact absurd (eq_of_beq W) j
   cases h;refine ak func324 ntmps324 ?_;refine zaz ?_;refine aX [0] (C.block (d+1) _ b q c L B) ?_;refine q5 ?_;refine bj ?_;refine I [0] (dk q 0 w aU) ?_;refine zd6 ?_;refine I [] (iP 9 a [] [e,b] _ oN) ?_;exact zdM
 ·rw[ab (fun R=>by cases R.1)]at h;cases h;refine ak func324 ntmps324 ?_;refine zaz ?_;refine aX [0] (C.block (d+1) _ b q c L B) ?_;refine q5 ?_;refine bj ?_;refine zd6 ?_;refine I [] (iP 10 a [] [e,b] _ oN) ?_;exact zdM
open Go.Xp (lS gk gD gP)
def uJ{s t:ah}(h:¬s=t):(s==t)=false:=by
 cases J:(s==t)with
 |false=>rfl
 |true=>exact absurd (eq_of_beq J) h
def Vq{f:Nat}(C:Kg f)(d:Nat)(p:RS)(t:T)(q:RS)(hp:p.ok)(hd:d+(f+1)<=1099511627776)(h:mS (f+1) (.stmt d) p=some (t,q)) :
  GF prog 264 [.loc 0 0,y4 (d:Nat)] [cb p] (.agg (cT t)) [cb q]:=by
 rw[mS]at h;have c:=(iF hp d).ok hp;have M:=tZ p d hp;generalize p.aW d=b at *
 try simp only at h
 have⟨Qp,yl⟩:=id c;generalize T6:b.place=at_ at h;refine ak func264 ntmps264 ?_;refine I [0] M ?_;refine I [0] (j0 b c) ?_;refine ja [0] (dk b 0 c aU) ?_;rw[T6]
 by_cases O:b.aJ 0=lS
 ·rw[ai O]at h
  have e1:(b.aJ 0==[118,97,114])=true:=by rw[O];rfl
  have k:=(dv O aU).1;have G:=(dW O aU).ok c;have A:=(eU G).ok G;have z:=(bU A (s:=[61]) aU).ok A
  cases m:mX (d+1) (b.next.name.2.ba [61])with
  |none=>rw[m]at h;cases h
  |some r =>
  have⟨e,o⟩:=r;rw[m]at h;cases h;have j:=(fY z m).ok z;refine V ?_;refine I [0] (oi b.next G) ?_;refine zdx ?_;refine I [] (iP 13 at_ b.next.name.1 [e] _ oN) ?_;exact ln
 rw[ab O]at h;have e1:(b.aJ 0==[118,97,114])=false:=uJ O
 by_cases w:b.aJ 0=gk\/b.aJ 0=gD
 ·rw[ai w]at h
  have Y:(b.aJ 0==[105,102])=true\/((b.aJ 0==[105,102])=false/\(b.aJ 0==[119,104,105,108,101])=true):=by
   rcases w with w|w
   ·exact .inl (by rw[w];rfl)
   ·exact .inr ⟨by rw[w];rfl,by rw[w];rfl⟩
  have k:b.i<b.l.length:=by
   rcases w with w|w
   ·exact(dv w aU).1
   ·exact(dv w aU).1
  rcases Y with Y|⟨Y,e3⟩
  all_goals
   refine V ?_;refine I [0] (C.cond at_ d b t q c k L h) ?_;exact ln
 rw[ab w]at h
 have Y:(b.aJ 0==[105,102])=false:=uJ fun J=>w (.inl J)
 have e3:(b.aJ 0==[119,104,105,108,101])=false:=uJ fun J=>w (.inr J)
 by_cases Q:b.aJ 0=gP
 ·rw[ai Q]at h
  have e4:(b.aJ 0==[114,101,116,117,114,110])=true:=by rw[Q];rfl
  have k:=(dv Q aU).1;have G:=(dW Q aU).ok c
  cases m:mX (d+1) b.next with
  |none=>rw[m]at h;cases h
  |some r =>
  have⟨e,o⟩:=r;rw[m]at h;cases h;have j:=(fY G m).ok G;refine V ?_;refine I [0] (w8 (d+1) _ e o G L m) ?_;refine I [0] (cX o [59] j aU) ?_;refine zab ?_;refine I [] (iP 11 at_ [] [e] _ oN) ?_;exact ln
 rw[ab Q]at h;have e4:(b.aJ 0==[114,101,116,117,114,110])=false:=uJ Q
 by_cases Z:b.code=0/\b.oh=true/\b.aJ 1=[61]
 ·rw[ai Z]at h;have⟨S,u,N⟩:=Z
  have B:(b.code==0)=true:=by simpa using S
  have aaJ:(b.aJ 1==[61])=true:=by rw[N];rfl
  unfold RS.oh at u
  cases E:b.l[b.i]? with
  |none=>rw[E]at u;cases u
  |some tk =>
  rw[E]at u
  have H:(tk.aj==2)=true:=by simpa using u
  have k:=(b6 E).1
  have F:decide ((b.i:Int)<((b.l.map da).length:Int))=true:=by simpa using k
  have hr:=kY E;have A:=(eU c).ok c;have z:=(bU A (s:=[61]) aU).ok A
  cases m:mX (d+1) (b.name.2.ba [61])with
  |none=>rw[m]at h;cases h
  |some r =>
  have⟨e,o⟩:=r;rw[m]at h;cases h;have j:=(fY z m).ok z;refine V ?_;refine zeV ?_;refine V ?_;refine I [0] (oi b c) ?_;refine zdx ?_;refine I [] (iP 7 at_ b.name.1 [e] _ oN) ?_;exact ln
 rw[ab Z]at h
 cases m:mX (d+1) b with
 |none=>rw[m]at h;cases h
 |some r =>
 have⟨e,o⟩:=r;rw[m]at h;simp only at h;have j:=(fY c m).ok c;have aaC:=j.2
 have W:(b.code==0)=false\/((b.code==0)=true/\b.l.length<=b.i)\/((b.code==0)=true/\∃tk,b.l[b.i]?=some tk/\((tk.aj==2)=false\/((tk.aj==2)=true/\(b.aJ 1==[61])=false))):=by
  by_cases S:b.code=0
  ·refine .inr ?_
   have B:(b.code==0)=true:=by simpa using S
   cases E:b.l[b.i]? with
   |none=>exact .inl ⟨B,nQ E⟩
   |some tk =>
    refine .inr ⟨B,tk,rfl,?_⟩
    by_cases H:tk.aj=2
    ·refine .inr ⟨by simpa using H,uJ fun ZY=>Z ⟨S,?_,ZY⟩⟩;unfold RS.oh;rw[E];simpa using H
    ·exact .inl (by simpa using H)
  ·exact .inl (by simpa using S)
 refine V ?_;refine GW.join (fun fr Γ=>fr=.loc 0 0::y4 (d:Nat)::U::U::.loc 1 0::y4 at_::zU 99 (.v (.bool false)::zU 65 [])/\Γ=[cb b,.box 89 zT]) ?_ ?_
 ·rcases W with B|⟨B,Hi⟩|⟨B,tk,E,H|⟨H,N⟩⟩
  ·exact zbj
  ·have F:decide ((b.i:Int)<((b.l.map da).length:Int))=false:=by simpa using Hi
   exact zbj
  ·have k:=(b6 E).1
   have F:decide ((b.i:Int)<((b.l.map da).length:Int))=true:=by simpa using k
   have hr:=kY E;exact zbj
  ·have k:=(b6 E).1
   have F:decide ((b.i:Int)<((b.l.map da).length:Int))=true:=by simpa using k
   have hr:=kY E;refine zeV ?_;exact bg ⟨_,_,Wk.a6 (by repeat (first|exact sR.nil|refine sR.U ?_|refine sR.eq rfl ?_|refine sR.eq (by rw[N]) ?_)),rfl,rfl⟩
 ·rintro _ _⟨rfl,rfl⟩;refine V ?_;refine I [0] (w8 (d+1) _ e o c L m) ?_
  by_cases k3:e.n.aj=3
  ·have k3':(e.n.aj==3)=true:=by simpa using k3
   by_cases ka:e.n.at_=at_
   ·have ka':(e.n.at_==at_)=true:=by simpa using ka
    by_cases R:o.aJ 0=[61]
    ·have ks':(o.aJ 0==[61])=true:=by rw[R];rfl
     rw[ai ⟨k3,ka,R⟩]at h;have k:=(dv R aU).1;have G:=(dW R aU).ok j
     cases H:e.aw with
     |nil=>rw[H]at h;cases h
     |cons a X =>
     cases hv:mX (d+1) o.next with
     |none=>rw[H,hv]at h;cases h
     |some r =>
     have⟨v,p3⟩:=r;rw[H,hv]at h;cases h;have hp3:=(fY G hv).ok G
     have hr:(bq (a::X))[0]?=some (cT a):=by simp[bq,uP]
     refine V ?_;refine I [0] (dk o 0 j aU) ?_;refine I [0] (w8 (d+1) _ v p3 G L hv) ?_;refine I [0] (cX p3 [59] hp3 aU) ?_;refine aV (aM 0 9 (.a 9 (.a 10 (.a 11 .nil)))) ?_;refine zca ?_;refine jz [] (iP 8 at_ e.n.s [a,v] _ oN) ?_;refine Fl ?_;refine ay ?_;exact pE
    ·have ks':(o.aJ 0==[61])=false:=uJ R;rw[ab (fun J=>R J.2.2)]at h;cases h;refine V ?_;refine I [0] (dk o 0 j aU) ?_;exact zbs
   ·have ka':(e.n.at_==at_)=false:=by simpa using ka
    rw[ab (fun J=>ka J.2.1)]at h;cases h;refine V ?_;exact zbs
  ·have k3':(e.n.aj==3)=false:=by simpa using k3
   rw[ab (fun J=>k3 J.1)]at h;cases h;refine V ?_;exact zbs
def X2(f:Nat):Kg f:=by
 induction f using Nat.strongRecOn with
 |_ f O =>
  cases f with
  |zero=>exact⟨fun d p t q _ _ h=>by simp[mS]at h,fun d p t q _ _ h=>by simp[mS]at h,fun a d p t q _ _ _ h=>by simp[mS]at h⟩
  |succ f =>
   have C:=O f (Nat.lt_succ_self f)
   have l:∀Z,Z<=f->Kg Z:=fun Z h=>O Z (Nat.lt_succ_of_le h)
   exact⟨fun d p t q W T h=>Rs l d p t q W T h,fun d p t q W T h=>Vq C d p t q W T h,fun a d p t q W M T h=>TA C a d p t q W M T h⟩
open Go.Xp (Nd Ar)
def aR(n:Nd):am:=[y4 n.aj,y4 n.at_,y4 n.n,.v (sv n.s),ints n.aw]
def aI(f:Go.Sp.Fn):am:=[.v (sv f.name),strs f.params,y4 f.body]
def bb(a:Ar):am:=[.v (sv a.name),y4 a.size]
abbrev aB(p:Src):am:=[strs p.au,.sl 2 (p.aq.map bb),.sl 3 (p.av.map aI),.sl 5 (p.ae.map aR)]
def FT(k:Int):GF prog 356 [y4 k] [] (.v (.bool (nA k))) []:=by
 unfold nA;refine dj func356 ntmps356 ?_
 cases h:decide ((1:Int)<=k)
 all_goals
  exact aK
def FU(k:Int):GF prog 320 [y4 k] [] (.v (.bool (jt k))) []:=by
 unfold jt;refine dj func320 ntmps320 ?_
 cases h:decide ((7:Int)<=k)
 all_goals
  exact aK
def tg(s:ah):GF prog 319 [.v (sv s)] [] (.v (.bool (ga s))) []:=by
 refine ak func319 ntmps319 ?_;refine I [] jZ ?_;refine GW.range (levels.map fun l=>[strs l]).length (fun k J u=>J=[.v (sv s),U,U,U,U,.sl 1 (levels.map fun l=>[strs l]),y4 ((levels.map fun l=>[strs l]).length:Int),y4 (k:Nat),U,U,U,U,U,U,U]/\u=[]/\((levels.take k).any fun l=>l.contains s)=false) ?_ aU ?_ ?_ ?_
 ·exact kP
 ·exact jA
 ·rintro k _ _ N⟨rfl,rfl,m⟩
  have N:k<levels.length:=by simpa using N
  have hx:levels[k]?=some levels[k]:=by simp[N]
  have z:(levels.map fun l=>[strs l])[k]?=some [strs levels[k]]:=by simp[N]
  have M:levels[k].length<=1099511627776:=by
   have:∀l∈levels,l.length<=1099511627776:=by decide
   exact this _ (getElem_mem N)
  generalize levels[k]=x at *;have W:=jR x s M
  cases i:x.contains s with
  |true =>
   rw[i]at W
   have w:ga s=true:=by
    unfold ga;rw[pz];exact⟨x,bN hx,i⟩
   refine zdw ?_;refine bA ?_;rw[w];exact zai
  |false =>
   rw[i]at W;refine zdw ?_;exact⟨rfl,rfl,_,_,Wk.a6 aC,rfl,rfl,by rw[c7,hx,List.any_append,m];simp only[Option.toList,List.any_cons,List.any_nil,i];rfl⟩
 ·rintro _ _⟨rfl,rfl,m⟩
  have m:ga s=false:=by
   rw[ml ze3]at m;exact m
  refine zaW ?_;rw[m];exact zai
def dK{l:List T}{i:Nat}{t:T}(h:l[i]?=some t):(bq l)[i]?=some (cT t):=by
 induction l generalizing i with
 |nil=>simp at h
 |cons a l O =>
  cases i with
  |zero=>cases h;simp[bq,uP]
  |succ i=>simpa[bq]using O ze8
def gw(t:T)(m:Nat)(M:t.aw.length<=1099511627776):GF prog 318 [.agg (cT t),y4 (m:Nat)] [] (.v (.bool (bX m 0 t.aw))) []:=by
 refine ak func318 ntmps318 ?_;refine GW.range (bq t.aw).length (fun k J u=>J=U::y4 (m:Nat)::U::U::U::U::U::U::.sl 6 (bq t.aw)::y4 ((bq t.aw).length:Int)::y4 (k:Nat)::zU 26 []/\u=[]/\bX m k (t.aw.drop k)=bX m 0 t.aw) ?_ (by rw[bC];exact M) ?_ ?_ ?_
 ·exact⟨_,_,(Wk.cut (n:=0) (a8 _) rfl).trans (Wk.a6 aC),rfl,rfl,rfl⟩
 ·exact jA
 ·rintro k _ _ N⟨rfl,rfl,l⟩
  have N:k<t.aw.length:=by rw[bC]at N;exact N
  have hx:t.aw[k]?=some t.aw[k]:=by simp[N]
  have w:=dK hx;rw[lz N,bX]at l;generalize t.aw[k]=x at *;have e:=FT x.n.aj
  by_cases j:k<m
  ·have o:decide ((k:Int)<(m:Int))=true:=by simpa using j
   have S:decide ((m:Int)<=(k:Int))=false:=by simpa using j
   rw[ai j]at l
   cases i:nA x.n.aj with
   |true =>
    rw[i]at e l;refine zcr ?_;exact zc2
   |false =>
    rw[i]at e l;refine zcr ?_;refine bA ?_;rw[<-l];exact zai
  ·have o:decide ((k:Int)<(m:Int))=false:=by simp;omega
   have S:decide ((m:Int)<=(k:Int))=true:=by simp;omega
   rw[ab j]at l
   cases i:(x.n.aj==14)with
   |true =>
    rw[i]at l
    have r:(x.n.aj != 14)=false:=by simp only[bne,i];rfl
    refine V ?_;exact zc2
   |false =>
    rw[i]at l
    have r:(x.n.aj != 14)=true:=by simp only[bne,i];rfl
    refine zaW ?_;rw[<-l];exact zai
 ·rintro _ _⟨rfl,rfl,l⟩;rw[bC,drop_length,bX]at l;refine zaW ?_;rw[<-l];exact zai
def cq{l:List Nd}{i:Nat}{n:Nd}(h:l[i]?=some n):(l.map aR)[i]?=some (aR n):=by rw[dR,h];rfl
def gE{l:List Int}{i:Nat}{n:Int}(h:l[i]?=some n):(l.map fun i=>[GV.v (ii i)])[i]?=some [y4 n]:=by rw[dR,h];rfl
def C5(p:Src)(O:∀n∈p.ae,n.aw.length<=1000000000000):∀(f a:Nat)(t:T),sub p.ae f a=some t->GF prog 120 [.agg (aB p),y4 (a:Nat)] [] (.agg (cT t)) []:=by
 intro f
 induction f using Nat.strongRecOn with
 |_ f Q =>
 intro a t h
 cases f with
 |zero=>simp[sub]at h
 |succ f =>
 rw[sub]at h
 cases c:p.ae[a]? with
 |none=>rw[c]at h;cases h
 |some n =>
 rw[c]at h;simp only at h
 cases G:oV p.ae f n.aw []with
 |none=>rw[G]at h;cases h
 |some l =>
 rw[G]at h;cases h;have B:=cq c;have j:=O n (bN c);refine ak func120 ntmps120 ?_;refine GW.wk (Wk.A7 (i:=2) (o:=5) 89 6 rfl rfl) ?_
 refine GW.range (n.aw.map fun i=>[GV.v (ii i)]).length (fun k J z=>∃H W g,J=[U,y4 (a:Nat),.loc 0 0,U,.loc 1 0,.loc 2 0,U,U,U,U,U,U,U,U,U,U,U,U,U,ints n.aw,y4 ((n.aw.map fun i=>[GV.v (ii i)]).length:Int),y4 (k:Nat),U,U,U,U,U,U,U,U,U,U,U,U,U] /\
   z=[.box 28 (aB p),.box 89 zT,.box 89 [y4 n.aj,y4 n.at_,y4 n.n,.v (sv n.s),ints n.aw,.vec 3 k],.vec 89 6 0 H] /\
   H.length=k/\H=bq W/\g<=f/\oV p.ae g (n.aw.drop k) W=some l) ?_ (by simp;omega) ?_ ?_ ?_
 ·exact⟨_,_,Wk.a6 aC,[],[],f,rfl,rfl,rfl,rfl,a8 _,G⟩
 ·rintro k _ _⟨_,_,_,rfl,rfl,_⟩;exact dS
 ·rintro k _ _ N⟨H,W,g,rfl,rfl,e,R,X,h⟩
  have N:k<n.aw.length:=by simpa using N
  have hx:n.aw[k]?=some n.aw[k]:=by simp[N]
  rw[lz N]at h;generalize n.aw[k]=x at *
  cases g with
  |zero=>simp[oV]at h
  |succ g =>
  rw[oV]at h
  by_cases E:x<0
  ·rw[ai E]at h;cases h
  rw[ab E]at h
  cases r:sub p.ae g x.toNat with
  |none=>rw[r]at h;cases h
  |some t =>
  rw[r]at h;simp only at h;have A:=Q g L x.toNat t r;rw[Int.toNat_of_nonneg L]at A;have w:=gE hx;refine V ?_;refine aV (aM 0 4 (.a 4 (.a 5 (.a 6 (.q 7 (.a 8 .nil)))))) ?_;refine ay ?_;refine aX [] A ?_;refine zar ?_;refine vy ?_;refine bj ?_;exact⟨rfl,rfl,_,_,Wk.a6 aC,_,W++[t],g,rfl,rfl,by rw[bp,e];rfl,by rw[wK,R];rfl,by omega,h⟩
 ·rintro _ _⟨H,W,g,rfl,rfl,e,R,X,h⟩;rw[bS,drop_length]at h
  have u:W=l:=by cases g<;>(rw[oV]at h;cases h;rfl)
  subst u;subst R;refine bg (GW.wk (Wk.rm (i:=2) (o:=5) rfl rfl rfl rfl e) ?_);exact pE
end Go.Xg
namespace Go.Xg
open Go.RowKit Go.Xw Go.Proofs Go.WideShapes Go.Deep
def flat(v:Value):Prop:=∀a n c,v≠.slice a n c
def Nx(W:World)(v:Value)(xs:List Value):Prop:=∃a c,v=.slice a xs.length c/\(xs=[]\/∃b o,a=some ⟨b,o,none⟩/\xs.length<=c/\∀i x,xs[i]?=some x->jb W.heap b (o+i)=some x/\flat x)
open Classical in
noncomputable def KW(W:World):Fz:=fun b o=>match jb W.heap b o with
 |none=>none
 |some v=>if ∃a n c,v=.slice a n c then(if h:∃xs,Nx W v xs then some (.sl 1 (h.choose.map fun x=>[.v x]))else none)else some (.v v)
def Am{W:World}{b o:Nat}{v:Value}(h:jb W.heap b o=some v)(hf:flat v):KW W b o=some (.v v):=by
 unfold KW;rw[h];simp only;rw[if_neg (by rintro⟨a,n,c,e⟩;exact hf a n c e)]
def MA{W:World}{v:Value}{xs:List Value}(hx:Nx W v xs)(β:Bt):Rel (KW W) β v (.sl 1 (xs.map fun x=>[GV.v x])):=by
 obtain⟨a,c,rfl,h⟩:=hx
 rcases h with rfl|⟨b,o,rfl,hc,Wg⟩
 ·exact .sl0 a c 1
 ·have:=Rel.sl (K:=KW W) (β:=β) b o c 1 (xs.map fun x=>[GV.v x]) (fun i r hr=>by
   rw[List.getElem?_map]at hr
   cases hi:xs[i]? with
   |none=>rw[hi]at hr;cases hr
   |some x =>
    rw[hi]at hr;cases hr;have⟨h1,h2⟩:=Wg i x hi;refine⟨rfl,fun j g hg=>?_⟩
    cases j with
    |zero=>cases hg;rw[Nat.mul_one,Nat.add_zero];exact Am h1 h2
    |succ j=>simp at hg) (by rw[List.length_map];exact hc)
  rw[List.length_map]at this;exact this
def VP(W:World):mo (KW W) W:=fun b o g h=>by
 unfold KW at h
 cases hc:jb W.heap b o with
 |none=>rw[hc]at h;cases h
 |some v =>
  rw[hc]at h;simp only at h;split at h
  ·split at h
   ·rename_i hex;cases h;exact⟨rfl,v,rfl,MA hex.choose_spec _⟩
   ·cases h
  ·cases h;exact⟨rfl,v,rfl,.v v⟩
def NR{W:World}{a:Addr}{n:Nat}{v:Value}(h:W.cell? (a.add n)=some v):jb W.heap a.block (a.off+n)=some v:=by
 unfold Addr.add at h;split at h
 ·rename_i h0;subst h0;have⟨b,o,s⟩:=a;have hs:=World.cell?_spot h;simp only at hs;subst hs;rw[gb]at h;exact h
 ·have⟨b,o,s⟩:=a;simp only at h;rw[gb]at h;exact h
def NH{W:World}{a:Addr}{v:Value}(h:W.cell? (a.add 0)=some v):a.spot=none:=by
 have:=World.cell?_spot h;unfold Addr.add at this;rw[if_pos rfl]at this;exact this
def yh{α:Type}{Q:Nat->α->Prop}:∀{n:Nat},(∀i,i<n->∃x,Q i x)->∃l:List α,l.length=n/\∀i x,l[i]?=some x->Q i x
 |0,_=>⟨[],rfl,fun i x h=>by simp at h⟩
 |n+1,h=>by
  obtain⟨l,h1,h2⟩:=yh (n:=n) fun i hi=>h i L
  have⟨x,hx⟩:=h n L;refine⟨l++[x],by simp[h1],fun i y hi=>?_⟩
  by_cases Hj:i<n
  ·rw[List.getElem?_append_left L]at hi;exact h2 i y hi
  ·have ny:=(List.getElem?_eq_some_iff.1 hi).1;rw[length_append,length_cons,length_nil]at ny
   have:i=n:=by omega
   subst this;rw[List.getElem?_append_right L,h1,Nat.sub_self]at hi
   cases hi;exact hx
def max_le{n:Nat}(h:n<=maxLen):n<=9223372036854775807:=by unfold maxLen at h;omega
end Go.Xg
namespace Go.Xg
open Go.RowKit Go.Xw Go.Proofs Go.Lib
section
variable{P:Program}{W:World}{name:String}{k:IntKind}{zs:List Int}
def MT{g:Nat}{t e:TypeId}{n:Nat}
  (hg:P.globalNamed name=some g)(hty:(P.globals[g]?).map (·.type)=some t)(ht:P.underlying t=some (.array n e))(he:P.underlying e=some (.int k))(T8:P.cellsOf e=1)(Lq:P.cellsOf t=n)
  (h:VarReads P W name (tabData k zs)):TabIs P W name k zs:=by
 have⟨g',t',cs,fuel,p,wV,Ut,YU,hd⟩:=h;obtain rfl:=Option.some.inj (hg.symm.trans wV);obtain rfl:=Option.some.inj (hty.symm.trans Ut);unfold TabIs;rw[YU,<-cells_of_tab ht he T8 Lq hd]
def Ij{g n:Nat}(hg:P.globalNamed name=some g)(hn:zs.length=n)(h:TabIs P W name k zs):sQ W g n:=by
 unfold TabIs World.var? at h;rw[hg]at h;simp only[Option.bind_some]at h
 cases hb:W.heap[g]? with
 |none=>rw[hb]at h;cases h
 |some o =>
  rw[hb]at h
  cases o with
  |cells cs E z =>
   simp only[Option.some.injEq]at h;exact⟨cs,E,z,hb,by rw[h];simpa using hn⟩
  |_=>cases h
def Kc{g:Nat}(hg:P.globalNamed name=some g)(h:TabIs P W name k zs){o:Nat}{z:Int}(ho:zs[o]?=some z):KW W g o=some (.v (.int k z)):=by
 have ny:=(List.getElem?_eq_some_iff.1 ho).1;have hc:=h.cell hg o ny;rw[List.getD_eq_getElem?_getD,ho,gb]at hc
 exact Am hc fun a n c e=>by cases e
end
theorem S0{W:World}(hp:VarReads Tryz.prog W "internal/strconv.uint64pow10" (tabData .u64 vh))(hs:VarReads Tryz.prog W "strings.asciiSpace" (tabData .u8 vo))(hW:W.ShapedOpen Tryz.prog):kH (KW W) (fun _=>.no) W:=by
 have gp:Tryz.prog.globalNamed "internal/strconv.uint64pow10" = some 3:=by kernel_rfl
 have gs:Tryz.prog.globalNamed "strings.asciiSpace" = some 1:=by kernel_rfl
 have tp:=MT gp (t:=328) (by kernel_rfl) Tryz.underlying328 (k:=.u64) (by kernel_rfl) (by kernel_rfl) (by kernel_rfl) hp;have ts:=MT gs (t:=306) (by kernel_rfl) Tryz.underlying306 (k:=.u8) (by kernel_rfl) (by kernel_rfl) (by kernel_rfl) hs;obtain⟨m,hm⟩:=cell_of_shapedOpen_int (g:=0) (zero:=#[.int .i64 0]) (t:=3) hW (of_decide_eq_true (by kernel_rfl)) (by kernel_rfl) rfl (by kernel_rfl) (by kernel_rfl) Tryz.underlying3;rw[gb]at hm;refine⟨⟨m,fun b o g h=>?_⟩,Ij gp aU tp,Ij gs aU ts,fun i b h=>by cases h⟩;unfold yA at h;split at h
 ·rename_i hb;subst hb;split at h
  ·cases h;exact Am hm fun a n c e=>by cases e
  ·cases h
 ·split at h
  ·rename_i hb;subst hb
   cases ho:vh[o]? with
   |none=>rw[ho]at h;cases h
   |some z=>rw[ho]at h;cases h;exact Kc gp tp ho
  ·split at h
   ·rename_i hb;subst hb
    cases ho:vo[o]? with
    |none=>rw[ho]at h;cases h
    |some z=>rw[ho]at h;cases h;exact Kc gs ts ho
   ·cases h
def GF.calls{P:Program}{f:FuncId}{gs:am}{g:GV}(h:GF P f gs [] g []){W:World}{vs:List Value}(hv:bu (KW W) (fun _=>.no) vs gs)(hT:kH (KW W) (fun _=>.no) W) :
  nZ P f vs W fun v w'=>Below W.heap.size W w'/\∃K β,Rel K β v g:=by
 have hI:Inv ⟨W,gx,KW W,fun _=>.no,0⟩ (KW W) (fun _=>.no) [] W :=
  ⟨Ext.refl W,c6.refl _,dJ.refl _,fun _ _=>rfl,VP W,fun i x h=>by simp at h,fun _ _=>rfl,fun i j b h=>zfa,fun i b h=>zfa,fun b o g h=>.inl h,hT⟩
 refine(h ⟨W,gx,KW W,fun _=>.no,0⟩ (KW W) (fun _=>.no) W vs rfl hI hv).mono ?_;rintro v w'⟨K',fX,x,bE,h1,h2,rfl,rfl⟩;exact⟨h1.ext.below,K',fX,h2⟩
end Go.Xg
namespace Go.Xg
open Go.RowKit Go.Xw
def xX{A:Prop}(s:A:=by repeat (first|exact trivial|refine⟨rfl,?_⟩)):A:=s
section
variable{A B C:Prop}(bc:List Nat)
def a7(c:C)(h:B)(s:qv bc C->Hid B->A:=by intro Q J;(refine GL.rE Q nX rfl xX rfl ?_;refine qw dd eb ?_);exact J.1):A:=s ⟨c⟩ ⟨h⟩
def M6(c:C)(h:B)(s:qv bc C->Hid B->A:=by intro Q J;(refine OA rfl rfl (GL.rE Q nX rfl xX rfl (GL.nil (bg (df.mk jP ?_))));refine iM dd eb ?_);exact J.1):A:=s ⟨c⟩ ⟨h⟩
def CD(c:C)(h:B)(s:qv bc C->Hid B->A:=by intro Q J;(refine GL.Ds Q nX rfl xX ?_);exact J.1):A:=s ⟨c⟩ ⟨h⟩
end
def eP(n:Int):bits .and .i64 n 4294967295=n%4294967296:=by
 have h:(BitVec.ofInt 64 4294967295).toNat=2^32-1:=by decide
 have R:(BitVec.ofInt 64 n &&& BitVec.ofInt 64 4294967295).toNat=(n%((2^64:Nat):Int)).toNat%2^32:=by
  rw[BitVec.toNat_and,BitVec.toNat_ofInt,h,Nat.and_two_pow_sub_one_eq_mod]
 show IntKind.i64.wrap ((BitVec.ofInt 64 n &&& BitVec.ofInt 64 4294967295).toNat:Nat)=n%4294967296;rw[R,IntKind.wrap_i64];omega
section
variable{P:Program}{fr:am}{Γ:ap}
def D.eP{x y:Operand}{t m:TypeId}{a:Int}(hx:bf fr x=y4 a)(B:bf fr y=y4 4294967295):D P (.binOp .and t x y m) fr Γ (y4 (a%4294967296)) :=
 D.v2 hx B fun l w h k d o G n=>by
  simp[execOp,eqGuard,h,k,binOp,intBits_and,Go.Xg.eP]
end
end Go.Xg
namespace Go.Xw
open Go.RowKit
class BI (P:Program) (t:TypeId) (e:outParam TypeId):Prop where
 is:P.underlying t=some (.slice e)/\∃i,P.info? e=some i/\i.zero=some (.int .u8 0)/\i.size=1/\i.bytes=1
def PW(P:Program)(t e:TypeId):Bool :=
 (match P.underlying t with|some (.slice b)=>b==e|_=>false)&&(match P.info? e with|some i=>(match i.zero with|some (.int .u8 0)=>true|_=>false)&&i.size==1&&i.bytes==1|none=>false)
theorem BI.mk'{P:Program}{t e:TypeId}(h:PW P t e=true):BI P t e:=by
 unfold PW at h;rw[aZ]at h;have⟨o,b⟩:=h;refine⟨?_,?_⟩
 ·grind
 grind
section
variable{P:Program}{Q:nL}{l:List Value}{w:World}{ops:Array Oper}{rest:List Oper}{d:Option Tmp}{ty:TypeId}{pos:String}{af:Array Edge}
def lL(s:ah):List Value:=s.map fun c=>.int .u8 (c.toNat:Int)
theorem WL.Av{s x:Operand}{t u e:Nat}[hT:BI P t e][hU:pW P u]{base n:Nat}{xs:List Value}{v:Value}{str:ah}(hs:ev l s=v)(o:iw w base e 1 v n xs)(hx:ev l x=sv str)
  (W:n+str.length<=140737488355328)(C:base<=w.heap.size)
  (h:∀B w',iw w' base e 1 B (n+str.length) (xs++lL str)->Ext (fun b=>v.ownBlock=some b) w w'->(∀b,B.ownBlock=some b->v.ownBlock=some b\/w.heap.size<=b)->(Ext gx w w'\/B.ownBlock=v.ownBlock)->WL P ops Q rest (put l d B) w') :
  WL P ops Q (⟨d,.call ⟨.builtin .append,#[s,x],#[t,u]⟩,ty,pos,af,none⟩::rest) l w:=by
 have⟨N,i,M,X,H,E⟩:=hT.is;have z:=hU.und
 have A:(⟨str.toArray⟩:ByteArray).size=str.length:=by rfl
 have F:Lib.strCells ⟨str.toArray⟩=lL str:=by rfl
 have⟨B,w',hr,h2,O,h4⟩:=Lib.run_append_own_string (P:=P) w base t u ty e i N z M X H E v n xs o ⟨str.toArray⟩ zfd ze4 C;rw[A,F]at h2;rw[A]at h4;have S:Ext (fun b=>v.ownBlock=some b) w w':=⟨O.os,O.tape,O.output,O.size,fun j hj hn=>O.block j hj fun he=>hn he.symm⟩;have T:(Builtin.append_ #[t,u] ty #[v,sv str]).run P w=.ok B w':=hr;refine WL.val (v:=B) (w':=w') (by simp[execOp,resolve,invoke,builtin,hs,hx,T]) (h B w' h2 S ?_ ?_)
 ·intro b' Lk
  rcases o.2 with⟨rfl,rfl⟩|⟨g,c,cur,rfl,Y,hg,B2,Z,F,J⟩
  ·by_cases hm:str.length=0
   ·grind
   ·have r:=run_append_nil_string (P:=P) w t u ty e i (.int .u8 0) N z M X ⟨str.toArray⟩ ze4 ze4 ze2
    exact zbM
  ·by_cases G:n+str.length<=c
   ·have R:cur.size=c:=by omega
    have r:=Lib.run_append_room_string (P:=P) w t u ty e i N z M H g n c cur hg ⟨str.toArray⟩ ze4 ze4
    exact zbM
   ·have q:∀j u,xs[j]?=some u->w.cell? ((⟨g,0,none⟩:Addr).add j)=some u:=World.ownsRow.cells (g:=g) o rfl;have r:=Lib.run_append_grow_string (P:=P) w t u ty e i (.int .u8 0) N z M X ⟨g,0,none⟩ n c xs ze2 q ⟨str.toArray⟩ ze4 ze4 zfD
    exact zbM
 ·rcases o.2 with⟨rfl,rfl⟩|⟨g,c,cur,rfl,Y,hg,B2,Z,F,J⟩
  ·exact zbM
  ·by_cases G:n+str.length<=c
   ·have R:cur.size=c:=by omega
    have r:=Lib.run_append_room_string (P:=P) w t u ty e i N z M H g n c cur hg ⟨str.toArray⟩ ze4 ze4
    exact zbM
   ·have q:∀j u,xs[j]?=some u->w.cell? ((⟨g,0,none⟩:Addr).add j)=some u:=World.ownsRow.cells (g:=g) o rfl;have r:=Lib.run_append_grow_string (P:=P) w t u ty e i (.int .u8 0) N z M X ⟨g,0,none⟩ n c xs ze2 q ⟨str.toArray⟩ ze4 ze4 zfD;rw[hr]at r;cases r;exact zde
theorem R.fL{x:Operand}{s:TypeId}{i z:Nat}[n:ec P s i z 1 false]{vs:List Value}{v:Value}(hx:ev l x=.agg vs.toArray)(j:vs[z]?=some v):fB P l w (.field s x i) v:=fun d ty pos af=>by
 have⟨n⟩:=n;unfold I8 at n;split at n
 ·rename_i A M;split at n
  ·rename_i f q;simp only[aZ,beq_iff_eq,bne_iff_ne,ne_eq]at n;have⟨⟨⟨r,b⟩,G⟩,C⟩:=n
   have Z:(isAgg f.type).run P w=.ok false w:=by
    cases T:P.underlying f.type with
    |none=>grind
    |some d =>
     rw[T]at C;unfold isAgg;rw[Sem.run_bind,run_underlying T w]
     cases d<;>simp_all[xw]
   have o:vs.toArray[f.offset]?=some v:=by grind
   have N:vs[f.offset]?=some v:=by grind
   simp[execOp,Instr.field,hx,run_underlying M,q,part,asAgg,Z,o,N]
  grind
 grind
end
end Go.Xw
namespace Go.Xg
open Go.RowKit Go.Xw
open GV (U)
section
variable{P:Program}{m:Nat}{Q:dQ}{fr:am}{Γ:ap}{ops:Array Oper}{rest:List Oper}{d:Option Tmp}{op:Op}{ty:TypeId}{pos:String}{af:Array Edge}
theorem D.fL{x:Operand}{s:TypeId}{i z:Nat}[q:ec P s i z 1 false]{cs:am}{g:GV}(hx:bf fr x=.agg cs)(hg:cs[z]?=some g):D P (.field s x i) fr Γ g:=fun B K r w l o O=>by
 have h:=O.ev x;rw[hx]at h;generalize k:ev l x=v at h
 cases h with
 |agg n _ M h =>
  have j:z<n.length:=by grind
  exact⟨n[z],R.fL k zfA,h z _ g zfA hg⟩
abbrev di(s:ah):List am:=s.map fun c=>[.v (.int .u8 (c.toNat:Int))]
theorem GL.Av{s x:Operand}{t u e:Nat}[hT:BI P t e][hU:pW P u]{i n fz:Nat}{rows:List am}{str:ah}(hx:bf fr x=.v (sv str))(hs:bf fr s=.vec i n)(F:Γ[i]?=some (.vec e 1 fz rows))(hn:rows.length=n)(A:str.isEmpty=false)
  (hb:n+str.length<=140737488355328)
  (h:GL P m ops Q rest (bI fr d (.vec i (n+str.length))) (oset Γ i (.vec e 1 fz (rows++di str)))) :
  GL P m ops Q (⟨d,.call ⟨.builtin .append,#[s,x],#[t,u]⟩,ty,pos,af,none⟩::rest) fr Γ:=fun B K β w l hm hI J=>by
 subst hn
 have A:str≠[]:=by grind
 have⟨h0,xs,o1,H,o3,o4,o5,o6⟩:=hI.ob i _ F;have k:=J.ev s;rw[hs]at k
 have Z:ev l s=h0:=by
  generalize hv:ev l s=v at k
  cases k with
  |vec _ _ a c hh =>
   grind
 have T:(di str).flatten=str.map fun c=>GV.v (.int .u8 (c.toNat:Int)):=by
  unfold di;clear hx A hb h;generalize str=s
  induction s with
  |nil=>rfl
  |cons c r ih=>grind
 have hlen:(di str).length=str.length:=by simp
 refine WL.Av (base:=0) (v:=h0) (n:=rows.length) (xs:=xs) (str:=str) Z H (J.fE hx) hb (bl _) ?_;intro v' w' C z W Y
 obtain⟨K',hK,LD,q⟩:=hI.grow F o1 ⟨H,o3⟩ (news:=di str) (ns:=lL str) ze2 z W (by rw[T];exact(by
   have:(str.map fun c=>GV.v (.int .u8 (c.toNat:Int)))=gT (lL str):=by simp[gT,lL]
   rw[this];exact bu.self)) (fun r hr=>by
   grind[GV.pc]) ze2 (fun b j o v ho hv=>by
  rcases Y with G|G
  ·exact G.c hv (fun h=>h)
  ·have X:o<xs.length:=by rw[H.1];omega
   have⟨b2,c2,R,_,_,O⟩:=H.cells.2 ze2
   have M:b2=b:=by rw[R]at j;cases j;rfl
   subst M;have E:=O o xs[o] (by simp[X]);rw[gb,hv]at E;cases E;have⟨b3,c3,S,_,_,Xl⟩:=C.cells.2 zfe
   have N:b3=b2:=by rw[S,j]at G;cases G;rfl
   subst N
   rw[<-gb];grind)
 rw[<-bD]at q;refine h B K' _ w' _ hm q ((J.mono hK LD).put d ?_);obtain⟨a,c,rfl⟩:=C.shape;exact .vec i _ a c ⟨_,_,bV,by simp,fun _=>by rfl⟩
end
def GF.UO{P:Program}{f:FuncId}{vs:List Value}{v:Value}(h:∀K β w,kH K β w->mo K w->nZ P f vs w fun x w'=>x=v/\Ext gx w w'):GF P f (vs.map GV.v) [] (.v v) []:=fun B K β w t n j O=>by
 have k:t=vs:=by
  have⟨o,b⟩:=O;apply ext_getElem
  ·grind
  ·intro i G C;have:=b i t[i] (.v vs[i]) (by simp[G]) (by simp[C]);exact Rel.eE this
 subst k
 exact(h K β w j.tab j.fz).mono fun x w' ⟨o,b⟩=>⟨K,β,.v v,[],j.same b,by rw[o];exact .v _,rfl,rfl⟩
def kH.cell{K:Fz}{β:Bt}{w:World}(h:kH K β w)(hf:mo K w){b o:Nat}{x:Value}(N:∀m,yA m b o=some (.v x)):jb w.heap b o=some x:=by
 have⟨m,h⟩:=h.le;have⟨_,v,j,z⟩:=hf b o _ (h b o _ (N m));rw[j,Rel.eE z]
theorem kH.maxLen{K:Fz}{β:Bt}{w:World}(h:kH K β w)(hf:mo K w):∃m,w.cell? ⟨0,0,none⟩=some (.int .i64 m):=by
 have⟨m,h⟩:=h.le
 have N:yA m 0 0=some (.v (.int .i64 m)):=by rfl
 have⟨_,v,j,z⟩:=hf _ _ _ (h _ _ _ N)
 grind[gb,Rel.eE]
def sQ.all{K:Fz}{β:Bt}{w:World}(h:kH K β w)(hf:mo K w){b n:Nat}{zs:List Value}(j:sQ w b n)(hn:zs.length=n)(N:∀m o x,zs[o]?=some x->yA m b o=some (.v x)):∃E z,w.heap[b]?=some (.cells zs.toArray E z):=by
 have⟨O,E,z,q,c⟩:=j;refine⟨E,z,?_⟩
 have:O=zs.toArray:=by
  apply Array.ext
  ·grind
  ·intro i k A
   have hx:zs[i]?=some zs.toArray[i]:=by simp
   have G:=h.cell hf (b:=b) (o:=i) (fun m=>N m i _ hx)
   grind[jb,gb,cell_of_row]
 grind
def GF.Y2{P:Program}{f:FuncId}{vs us:List Value}{E:TypeId}(h:∀K β w,kH K β w->mo K w->nZ P f vs w fun x w'=>x=.slice (some ⟨w.heap.size,0,none⟩) us.length us.length/\w'=w.alloc (.cells us.toArray E)):GF P f (vs.map GV.v) [] (.sl 1 (us.map fun u=>[.v u])) []:=fun B K β w z n j O=>by
 have k:z=vs:=by
  have⟨o,b⟩:=O;apply ext_getElem
  ·grind
  ·intro i G C;have:=b i z[i] (.v vs[i]) (by simp[G]) (by simp[C]);exact Rel.eE this
 subst k
 refine(h K β w j.tab j.fz).mono fun x w' ⟨o,b⟩=>?_
 subst o;subst b;have c:=tK.of w (.cells us.toArray E);obtain⟨N,F⟩:=j.rH c (cs:=us.map .v) bu.self (fun g X=>by grind[GV.pc]);refine⟨_,β,.sl 1 (us.map fun u=>[.v u]),[],F,?_,rfl,rfl⟩;have:=Rel.sl (K:=jQ K w.heap.size (us.map .v)) (β:=β) w.heap.size 0 us.length 1 (us.map fun u=>[.v u]) (fun i r A=>?_) ze3
 ·grind
 grind[jQ]
section
variable{B:Bs}{K:Fz}{β:Bt}{Γ:ap}{w:World}
theorem Inv.swap{i:Nat}{y:Ob}(h:Inv B K β Γ w)(A:gV K β w i y):Inv B K β (oset Γ i y) w:=by
 refine⟨h.ext,h.kle,h.ble,h.loc,h.fz,fun j x Y=>?_,fun j Y=>h.out j ze9,h.dis,h.own,h.kn,h.tab⟩;rw[bD,eR]at Y;split at Y
 ·grind
 ·exact h.ob j x Y
def Inv.xn{i E k:Nat}{rows:List am}{x:Value}(h:Inv B K β Γ w)(hi:Γ[i]?=some (.vech E k rows x)):Inv B K β (oset Γ i (.vec E k 0 rows)) w:=by
 have⟨X,q,c,G,C,e⟩:=h.ob i _ hi;exact h.swap ⟨x,X,q,c,G,C,fun b j=>⟨fun o _=>e b j o,fun o g A=>by omega⟩,bl _⟩
def Inv.AV{i E k:Nat}{rows:List am}(h:Inv B K β Γ w)(hi:Γ[i]?=some (.vec E k 0 rows)):∃a c,β i=.gr (.slice a rows.length c) rows.length/\Inv B K β (oset Γ i (.vech E k rows (.slice a rows.length c))) w:=by
 have⟨x,X,q,e,G,C,j,n⟩:=h.ob i _ hi;obtain⟨a,c,rfl⟩:=e.shape;exact⟨a,c,q,h.swap ⟨X,q,e,G,C,fun b l o=>(j b l).1 o L⟩⟩
theorem nr{i:Nat}{x y:Ob}(h:Γ[i]?=some x):(oset Γ i y)[i]?=some y:=by
 grind[List.getElem?_eq_some_iff,bD]
theorem lX{i:Nat}{x y:Ob}:oset (oset Γ i x) i y=oset Γ i y:=by grind[bD,List.set_set]
def Inv.gr{i E k:Nat}{rows:List am}{x:Value}(h:Inv B K β Γ w)(hi:Γ[i]?=some (.vech E k rows x)):β i=.gr x rows.length:=by
 have⟨X,o,_⟩:=h.ob i _ hi;exact o
def Inv.nW{i E k:Nat}{rows:List am}{x:Value}(h:Inv B K β Γ w)(hi:Γ[i]?=some (.vech E k rows x)):∃S,c6 K S/\Rel S β x (.sl k rows)/\Inv B S β (oset Γ i (.vec E k rows.length rows)) w:=by
 have⟨X,o,b,J,C,s⟩:=h.ob i _ hi;have⟨S,n,e,F⟩:=(h.xn hi).jJ (nr hi);rw[<-bD,lX]at F;refine⟨S,n,?_,F⟩
 rcases b.2 with⟨l,Y⟩|⟨g,c,G,l,_,_,R,_⟩
 ·have:rows=[]:=kQ Y;subst this;subst l;exact .sl0 _ _ _
 ·subst l;refine .sl g 0 c k rows (fun j r v=>⟨(C r (bN v)).1,fun q T H=>?_⟩) R;rw[dy];exact e _ g o rfl _ T (rN C v H)
end
section
variable{P:Program}{m:Nat}{Q:dQ}{fr:am}{Γ:ap}{ops:Array Oper}{rest:List Oper}{d:Option Tmp}{op:Op}{ty:TypeId}{pos:String}{af:Array Edge}
theorem Wk.eS(E k:Nat):Wk m fr Γ fr (Γ++[.vech E k [] y6]):=fun B K β w l q n O=>by
 have o:β Γ.length=.no:=n.out _ (a8 _);have F:=n.Au (w':=w) (E:=E) (k:=k) (x:=.slice none 0 0) (xs:=[]) (rows:=[]) (Ext.refl w) (iw.nil w 0 E k) (fun b j=>by cases j) bu.nil (fun r v=>by cases v);have N:dJ β (fP β Γ.length (.gr y6 ([]:List am).length)):=iT zfg;refine⟨K,_,?_,O.mono (c6.refl K) N⟩;have j:fP β Γ.length (.gr y6 ([]:List am).length) Γ.length=.gr y6 ([]:List am).length:=bV;have:=F.swap (i:=Γ.length) (y:=.vech E k [] y6) ⟨[],j,iw.nil w 0 E k,bu.nil,(fun r v=>by cases v),(fun b j=>by cases j)⟩
 grind[bD]
theorem Wk.sr{t i E k:Nat}{rows:List am}{x:Value}(M:bx fr t=.v x)(q:iy fr t=true)(o:Γ[i]?=some (.vech E k rows x)):Wk m fr Γ (bB fr t (.sl k rows)) (oset Γ i (.vec E k rows.length rows)):=fun B K β w l r j O=>by
 have⟨S,n,z,F⟩:=j.nW o;refine⟨S,β,F,?_⟩;have s:nth l t=x:=Rel.eE (by rw[<-M];exact O.nth t);have:=(O.mono n (dJ.refl β)).fg t z
 grind[Fj,nz]
theorem bu.bB{K:Fz}{β:Bt}{x:Value}{g:GV}(z:Rel K β x g):∀{vs:List Value}{cs:am}{o:Nat},bu K β vs cs->cs[o]?=some (.v x)->bu K β vs (bB cs o g):=by
 intro vs
 induction vs with
 |nil=>grind
 |cons v vs O =>
  intro cs o h A
  cases cs with
  |nil=>simp at A
  |cons c cs =>
   have⟨a1,F⟩:=h.nE
   cases o with
   |zero=>cases A;have j:=Rel.eE a1;grind[Xg.bB]
   |succ o=>exact .cons a1 (O F ze2)
theorem Wk.nV{i o j E k:Nat}{T:TypeId}{cs:am}{rows:List am}{x:Value}(hi:Γ[i]?=some (.box T cs))(A:cs[o]?=some (.v x))(W:Nat.beq i j=false)(Y:Γ[j]?=some (.vech E k rows x)):Wk m fr Γ fr (oset (oset Γ j (.vec E k rows.length rows)) i (.box T (bB cs o (.sl k rows)))):=fun B K β w l u n O=>by
 have s:i≠j:=by grind
 have⟨S,r,z,F⟩:=n.nW Y;have⟨b,t,q,c,G,C⟩:=F.ob i (.box T cs) ze9;exact⟨S,β,F.swap ⟨b,t,q,c,bu.bB z G A,C⟩,O.mono r (dJ.refl β)⟩
def dI:List am->Nat->Nat->GV->List am
 |[],_,_,_=>[]
 |r::rs,0,o,g=>bB r o g::rs
 |r::rs,n+1,o,g=>r::dI rs n o g
def DL:∀(l:am)(o:Nat)(g:GV),(bB l o g).length=l.length
 |[],_,_=>rfl
 |_::l,0,_=>rfl
 |_::l,o+1,g=>by simp[bB,DL l o g]
def yP:∀(a b:am)(o:Nat)(g:GV),bB (a++b) (a.length+o) g=a++bB b o g
 |[],b,o,g=>by simp
 |x::a,b,o,g=>by
  rw[cons_append,length_cons,show a.length+1+o=(a.length+o)+1 by omega,bB,yP a b o g];rfl
def BX:∀(a b:am)(o:Nat)(g:GV),o<a.length->bB (a++b) o g=bB a o g++b
 |[],b,o,g,h=>by simp at h
 |x::a,b,0,g,h=>rfl
 |x::a,b,o+1,g,h=>by simp[bB,BX a b o g ze2]
theorem DM{l:am}{o:Nat}{g x:GV}(h:x∈bB l o g):x∈l\/x=g:=by
 induction l generalizing o with
 |nil=>cases h
 |cons y l O =>
  cases o with
  |zero=>grind[bB,eQ]
  |succ o=>grind[bB,mem_cons_self,eQ]
theorem ea:∀(rows:List am)(i o:Nat)(g:GV),(dI rows i o g).length=rows.length
 |[],_,_,_=>rfl
 |r::rs,0,_,_=>rfl
 |r::rs,n+1,o,g=>by simp[dI,ea rs n o g]
theorem rP{k:Nat}{o:Nat}{g:GV}(A:o<k):∀{rows:List am}{i:Nat},gR k rows->i<rows.length->(dI rows i o g).flatten=bB rows.flatten (i*k+o) g
 |[],_,_,h=>by simp at h
 |r::rs,0,N,_=>by
  have:=(N r (mem_cons_self)).1;rw[dI,flatten_cons,flatten_cons,Nat.zero_mul,dy,BX _ _ _ _ L]
 |r::rs,n+1,N,h=>by
  have:=(N r (mem_cons_self)).1;rw[dI,flatten_cons,flatten_cons,rP A (fun r v=>N r (eQ _ v)) ze2,show(n+1)*k+o=r.length+(n*k+o) by grind,yP]
theorem vj{k:Nat}{o:Nat}{g:GV}(hg:g.pc=true):∀{rows:List am}{i:Nat},gR k rows->gR k (dI rows i o g)
 |[],_,_=>fun r v=>by cases v
 |r::rs,0,N=>fun z v=>by
  simp only[dI,List.mem_cons]at v
  rcases v with rfl|v
  ·exact⟨by rw[DL];exact(N r mem_cons_self).1,fun x hx=>by
    rcases DM hx with h|h
    ·exact(N r mem_cons_self).2 x h
    grind⟩
  ·exact N z (eQ _ v)
 |r::rs,n+1,N=>fun z v=>by
  simp only[dI,List.mem_cons]at v
  rcases v with rfl|v
  ·exact N _ mem_cons_self
  ·exact vj hg (fun r v=>N r (eQ _ v)) z v
theorem wb{a b:List am}{r:am}{o:Nat}{g:GV}:dI (a++r::b) a.length o g=a++bB r o g::b:=by
 induction a with
 |nil=>rfl
 |cons x a O=>grind[dI,bB]
theorem Wk.C0{i idx o j E k T k':Nat}{rows ks:List am}{x h:Value}{r:am}(hi:Γ[i]?=some (.vech T k rows h))(A:rows[idx]?=some r)(M:r[o]?=some (.v x))(W:Nat.beq i j=false)(Y:Γ[j]?=some (.vech E k' ks x)) :
  Wk m fr Γ fr (oset (oset Γ j (.vec E k' ks.length ks)) i (.vech T k (dI rows idx o (.sl k' ks)) h)):=fun B K β w l J s O=>by
 have u:i≠j:=by intro e;simp_all
 have⟨S,t,q,F⟩:=s.nW Y;have⟨X,G,b,H,C,n⟩:=F.ob i (.vech T k rows h) ze9;have N:=(b6 A).1
 have z:o<k:=by rw[<-(C r (bN A)).1];grind
 exact⟨S,β,F.swap ⟨X,by grind[ea],by grind[ea],by rw[rP z C N];grind[bu.bB,rN],vj rfl C,n⟩,O.mono t (dJ.refl β)⟩
def D.aS{x y:Operand}{t e:TypeId}{k:Nat}[A:lK P t e k](i:Nat){v:Value}{z:IntKind}{j E:Nat}{rows:List am}(hx:bf fr x=.v v)(C:bf fr y=.v (.int z j))(o:Γ[i]?=some (.vech E k rows v))(Y:j<rows.length):D P (.indexAddr t x y) fr Γ (.vp i rows.length k j 0):=fun B K β w l n O=>by
 have r:=O.fE hx;have⟨Z,q,b,G,F,s⟩:=n.ob i _ o
 rcases b.2 with⟨S,u⟩|⟨g,c,cur,S,_,X,_⟩
 ·omega
 ·subst S;exact⟨_,R.gi r (O.fE C) Y,.vp i _ k j 0 _ ⟨_,_,q,a8 _,fun _=>⟨g,rfl,by simp⟩⟩⟩
def D.TQ{x:Operand}{s:TypeId}{f z k:Nat}{agg:Bool}[F:ec P s f z k agg]{i n k' idx o E:Nat}{rows:List am}{v:Value}(hx:bf fr x=.vp i n k' idx o)(q:Γ[i]?=some (.vech E k' rows v))(hn:rows.length=n):D P (.fieldAddr s x f) fr Γ (.vp i n k' idx (o+z)):=fun B K β w l j O=>by
 have h:=O.ev x;rw[hx]at h;generalize A:ev l x=u at h
 cases h with
 |vp _ _ _ _ _ _ h =>
  have⟨C,m,r,c,G⟩:=h;rw[j.gr q]at r;cases r;obtain⟨b,t,rfl⟩:=G hn;exact⟨_,R.N9 A,.vp i n k' idx _ _ ⟨_,_,j.gr q,c,fun _=>⟨b,t,by simp⟩⟩⟩
theorem D.XV{x:Operand}{t:TypeId}[W:Ty P t false 1]{i n k idx o E:Nat}{rows:List am}{v:Value}{r:am}{g:GV}(hx:bf fr x=.vp i n k idx o)(e:Γ[i]?=some (.vech E k rows v))(hn:rows.length=n)(N:rows[idx]?=some r)(hg:r[o]?=some g):D P (.load t x) fr Γ g:=fun B K β w l H G=>by
 have h:=G.ev x;rw[hx]at h;generalize Z:ev l x=u at h
 cases h with
 |vp _ _ _ _ _ _ h =>
  have⟨S,m,s,T,z⟩:=h;have⟨xs,j,A,C,F,_⟩:=H.ob i _ e;rw[s]at j;cases j;obtain⟨b,J,rfl⟩:=z hn;have⟨u,Y,q⟩:=C.at (rN F N hg);have⟨O,c,M,_,_,X⟩:=A.cells.2 ze2;subst M;cases J
  grind[R.ld,gb]
def zg{v:Value}:∀(l:List Value)(n o:Nat),o<n->(fg l o v).take n=fg (l.take n) o v
 |[],n,o,h=>by simp[fg]
 |x::l,0,o,h=>by omega
 |x::l,n+1,0,h=>by simp[fg]
 |x::l,n+1,o+1,h=>by simp[fg,zg l n o L]
theorem qq{v:Value}:∀(l:List Value)(o:Nat),(fg l o v).length=l.length
 |[],o=>rfl
 |x::l,0=>rfl
 |x::l,o+1=>by simp[fg,qq l o]
theorem GL.xj{x y:Operand}{t:TypeId}[hT:Ty P t false 1]{i n k idx o E:Nat}{rows:List am}{v:Value}{r:am}{g:GV}(hx:bf fr x=.vp i n k idx o)(uW:Γ[i]?=some (.vech E k rows v))(hn:rows.length=n)(hr:rows[idx]?=some r)(hol:Nat.blt o r.length=true)
  (hy:lN (bf fr y)=some [g])(h1:g.one=true)(hp:g.pc=true)(h:GL P m ops Q rest (bI fr d (.v undef)) (oset Γ i (.vech E k (dI rows idx o g) v))):GL P m ops Q (⟨d,.store t x y,ty,pos,af,none⟩::rest) fr Γ:=fun B K β w l hm e W=>by
 have G:=W.ev x;rw[hx]at G;generalize hv:ev l x=u at G
 cases G with
 |vp _ _ _ _ _ _ hh =>
  have⟨h0,mm,e1,e2,e3⟩:=hh;have⟨xs,h4,h5,h6,h7,h8⟩:=e.ob i _ uW;rw[e1]at h4;cases h4;obtain⟨b,hb,rfl⟩:=e3 hn;have ny:=(b6 hr).1
  have YL:o<k:=by rw[<-(h7 r (bN hr)).1];simp_all
  have⟨us,N,O⟩:=(W.ev y).cells hy
  obtain⟨s,rfl⟩:∃s,us=[s]:=by
   have:=O.1
   match us,this with
   |[s],_=>simp
  have R:Rel K β s g:=O.2 0 s g rfl rfl
  have hq:idx*k+o<rows.length*k:=by
   have:(idx+1)*k<=rows.length*k:=sw k ny
   grind
  rcases h5.2 with⟨e5,e6⟩|⟨T,z,cur,e5,C,hg,M,Z,rI,Uw⟩
  ·omega
  ·subst e5;simp only[Value.ownBlock,Option.some.injEq]at hb;subst hb;have aai:rows.length*k<=z*k:=sw k M
   refine WL.st (t:=t) (k:=1) hv rfl hg ze2 L (by rw[N];have:=(lW (R.one h1)).2;grind[lf]) fun w' H=>?_
   rw[N]at H
   have Lp:setL cur (idx*k+o) ([s]:List Value)=(fg cur.toList (idx*k+o) s).toArray:=by
    simp only[setL];rw[<-xp]
   simp only[List.toList_toArray,Lp]at H
   have aaa:rows.flatten.length=rows.length*k:=by grind
   have how:iw w' 0 E k (.slice (some ⟨T,0,none⟩) rows.length z) rows.length (fg xs (idx*k+o) s) :=
    ⟨by grind[qq],.inr ⟨T,z,_,rfl,C,H.blk,M,Z,by simp[qq,rI],by simp_all[List.toList_toArray,zg]⟩⟩
   have Up:bu K β (fg xs (idx*k+o) s) (bB rows.flatten (idx*k+o) g):=by
    have gen:∀(S:List Value)(A:am)(q:Nat),bu K β S A->bu K β (fg S q s) (bB A q g):=by
     intro S
     induction S with
     |nil=>intro A q h;have:A=[]:=kQ h.1.symm;subst this;exact h
     |cons v S ih =>
      intro A q h
      cases A with
      |nil=>grind
      |cons c A =>
       have⟨a1,a2⟩:=h.nE
       cases q with
       |zero=>exact .cons R a2
       |succ q=>exact .cons a1 (ih A q a2)
    grind
   have J:(β i).has T:=by rw[e1];exact rfl
   have X:Inv B K β (oset Γ i (.vech E k (dI rows idx o g) (.slice (some ⟨T,0,none⟩) rows.length z))) w':=by
    refine⟨e.ext.step H.ext (fun j F=>?_),e.kle,e.ble,e.loc,e.fz.ext H.ext (fun b' o' g' wV he=>?_),fun j y F=>?_,fun j F=>e.out j ze9,e.dis,e.own,e.kn,e.tab.step H.ext (fun j F=>⟨i,by grind⟩) (c6.refl K) (fun i b2 h=>.inl ⟨i,h⟩)⟩
    ·subst F;exact(e.own i _ J).symm
    ·grind
    ·rw[bD,eR]at F;split at F
     ·grind[ea,rP,vj,gV]
     ·rename_i Xr;refine(e.ob j y F).ext H.ext (fun b' Y he=>?_) (c6.refl K) (dJ.refl β) rfl (fun _ _ _ h=>h);subst he;exact Xr (e.dis i j _ J Y)
   exact h B K β w' _ hm X (W.put d (.v _))
theorem GL.jw{x:Operand}{ts:Tmp}{t e k C:Nat}{z:List Value}[hT:mO P t e k C][hZ:n5 P t e k z]{q R:Tmp}{MZ:TypeId}{M:String}{O:Array Edge}(i:Nat){n:Nat}{rows:List am}{gs:am}{v:Value}
  (hx:lN (bf fr x)=some gs)(hk:Nat.beq gs.length k=true)(h1:nq gs=true)(hp:lY gs=true)(hs:bx fr ts=.v v)(hsd:Nat.beq ts q=false)(hd:iy fr q=true)(s:Γ[i]?=some (.vech e k rows v))(hn:rows.length=n)
  (S:(n+1<=9223372036854775807/\(n+1)*C<=140737488355328)/\k<=16777216)
  (h:∀a c,GL P m ops Q rest (bI (bI fr (some q) U) (some R) (.v (.slice a (n+1) c))) (oset Γ i (.vech e k (rows++[gs]) (.slice a (n+1) c)))) :
  GL P m ops Q (⟨some q,.buildSlice t 1 #[(0,x)],MZ,M,O,none⟩::⟨some R,.call ⟨.builtin .append,#[.tmp ts,.tmp q],#[t,t]⟩,ty,pos,af,none⟩::rest) fr Γ:=fun B K β w l hm hI N=>by
 subst hn;have⟨us,Y,Z⟩:=(N.ev x).cells hx;have⟨xs,o1,o2,o3,o4,o5⟩:=hI.ob i _ s;have X:nth l ts=v:=Rel.eE (by rw[<-hs];exact N.nth ts);have T:=nz N hd
 have G:ts≠q:=by intro e;simp_all
 have Ql:gs.length=k:=by simp_all
 refine WL.push (base:=0) (v:=v) (vs:=us) (val:=ev l x) (xs:=xs) (n:=rows.length) rfl (fun u=>by rw[show ev (put l (some q) u) (.tmp ts)=nth (fg l q u) ts from rfl,j4 G];exact X) (fun u=>sG T u) Y L (Z.lf h1) o2 S.1.1 S.1.2 S.2 (bl _) ?_;intro u v' w' H F W DT;obtain⟨K',hK,J,E⟩:=(hI.xn s).grow (fz:=0) (nr s) o1 ⟨o2,o3⟩ (news:=[gs]) (ns:=us) H F W ze2 (fun r hr=>by grind[kp]) ze3 (fun b Lk o v ho hv=>by omega);rw[<-bD,lX]at E;have⟨a,c,j,A⟩:=E.AV (nr s);rw[lX]at A;obtain⟨a',c',rfl⟩:=H.shape;rw[bV]at j;simp only[bp,length_cons,length_nil]at j A J;cases j;exact h _ _ B K' _ w' _ hm A (((N.mono hK J).put (some q) (.U u)).put (some R) (.v _))
theorem GL.mr{s x:Operand}{t e k O:Nat}[hT:mO P t e k O](i:Nat){n:Nat}{dt:Tmp}{v:Value}{rows news:List am}(hx:bf fr x=.sl k news)(hs:bf fr s=.v v)(A:Γ[i]?=some (.vech e k rows v))(hn:rows.length=n)(h1:iz news=true)(T:news.isEmpty=false)
  (hb:n+news.length<=9223372036854775807/\(n+news.length)*O<=140737488355328)
  (h:∀a c,GL P m ops Q rest (bI fr (some dt) (.v (.slice a (n+news.length) c))) (oset Γ i (.vech e k (rows++news) (.slice a (n+news.length) c)))) :
  GL P m ops Q (⟨some dt,.call ⟨.builtin .append,#[s,x],#[t,t]⟩,ty,pos,af,none⟩::rest) fr Γ:=fun B K β w l hm Z hF=>by
 subst hn
 have T:news≠[]:=by grind
 have⟨xs,o1,o2,o3,o4,o5⟩:=Z.ob i _ A;have Qr:ev l s=v:=hF.fE hs;have N:=hF.ev x;rw[hx]at N;generalize LB:ev l x=vx at N
 cases N with
 |sl0 a c k=>grind
 |sl b o c _ _ hr _ =>
  have J:gR k news:=fun r Lw=>by
   have⟨j,C⟩:=List.mem_iff_getElem?.1 Lw;refine⟨(hr j r C).1,fun g G=>?_⟩;have⟨q,hq⟩:=List.mem_iff_getElem?.1 G;exact(Z.fz _ _ _ ((hr j r C).2 q g hq)).1
  have F:∀(rows:List am)(o:Nat),(∀(j:Nat)r,rows[j]?=some r->r.length=k/\∀(q:Nat)g,r[q]?=some g->K b (o+j*k+q)=some g)->∀(q:Nat)g,rows.flatten[q]?=some g->K b (o+q)=some g:=by
   intro rows
   induction rows with
   |nil=>simp
   |cons r rows ih =>
    intro o h q g G;rw[flatten_cons]at G;have hl:=(h 0 r rfl).1
    by_cases hq:q<r.length
    ·rw[gA hq]at G;have:=(h 0 r rfl).2 q g G
     grind
    ·rw[hO L,hl]at G
     have:=ih (o+k) (fun j r' C=>by
      have:=h (j+1) r' ze2
      grind) (q-k) g G
     grind
  obtain⟨us,M,Ux⟩:=vF (K:=K) (β:=β) (H:=w.heap) (b:=b) news.flatten o (fun j g C=>by
   obtain⟨hp,u,hu,X⟩:=Z.fz _ _ _ (F news o (fun j r C=>hr j r C) j g C)
   exact⟨u,hu,X.pc hp⟩)
  have Qs:us.length=news.length*k:=by
   rw[M.1,List.length_flatten]
   have:∀(rows:List am),gR k rows->(rows.map List.length).sum=rows.length*k:=by
    intro rows
    induction rows with
    |nil=>simp
    |cons r rows ih =>
     grind[gR]
   grind
  refine WL.app (base:=0) (v:=v) (n:=rows.length) (m:=news.length) (xs:=xs) (news:=us) Qr o2 LB Qs (fun j u C=>by grind[gb]) (M.lf (zW h1)) hb.1 hb.2 (bl _) ?_;intro v' w' W S Hh DT;obtain⟨K',hK,Y,R⟩:=(Z.xn A).grow (fz:=0) (nr A) o1 ⟨o2,o3⟩ (news:=news) (ns:=us) W S Hh M J T (fun b Lk o v ho hv=>by omega);rw[<-bD,lX]at R;have⟨a,c,z,E⟩:=R.AV (nr A);rw[lX]at E;obtain⟨a',c',rfl⟩:=W.shape;rw[bV]at z;simp only[bp]at z E Y;cases z;exact h _ _ B K' _ w' _ hm E ((hF.mono hK Y).put (some dt) (.v _))
end
class uq (P:Program) (t:TypeId):Prop where
 und:∃e j,P.underlying t=some (.pointer e)/\P.info? e=some j
theorem uq.mk'{P:Program}{t e:TypeId}(h:P.underlying t=some (.pointer e))(k:(P.info? e).isSome=true):uq P t:=⟨e,(P.info? e).get k,h,by simp⟩
section
variable{P:Program}{m:Nat}{Q:dQ}{fr:am}{Γ:ap}{ops:Array Oper}{rest:List Oper}{d:Option Tmp}{op:Op}{ty:TypeId}{pos:String}{af:Array Edge}
def D.fj{x y:Operand}{t r:TypeId}[n:uq P t]{i o:Nat}(hx:bf fr x=.loc i o)(C:bf fr y=.v (.pointer none)):D P (.binOp .eql t x y r) fr Γ (.v (.bool false)):=fun B K z w l s O=>by
 have h:=O.ev x;rw[hx]at h;generalize k:ev l x=v at h
 cases h with
 |loc _ _ b u =>
  have⟨e,j,q,c⟩:=n.und
  have W:P.pointee t=e:=by simp[Program.pointee,q]
  have:=run_eql_pointer_nil (P:=P) w t (some ⟨b,o,none⟩) ze2;refine⟨_,fun d ty pos af=>?_,.v _⟩;simp[execOp,eqGuard,k,O.fE C,this]
def D.fm{x y:Operand}{t A:TypeId}[s:uq P t]{i o:Nat}(hx:bf fr x=.loc i o)(C:bf fr y=.loc i o):D P (.binOp .neq t x y A) fr Γ (.v (.bool false)):=fun B K H w l F O=>by
 have h:=O.ev x;rw[hx]at h;have k:=O.ev y;rw[C]at k;generalize z:ev l x=v at h;generalize n:ev l y=G at k
 cases h with
 |loc _ _ b u =>
  cases k with
  |loc _ _ E r =>
   rw[u]at r;cases r;have⟨e,j,q,c⟩:=s.und;have:=Lib.run_neq_ptr_same (P:=P) w ⟨b,o,none⟩ q c;refine⟨_,fun d ty pos af=>?_,.v _⟩;simp[execOp,eqGuard,z,n,this]
theorem Inv.again{B:Bs}{K:Fz}{β:Bt}{Γ:ap}{w w':World}{i E k:Nat}{rows:List am}{x:Value}{xs:List Value}(h:Inv B K β Γ w)(hi:Γ[i]?=some (.vech E k rows x))(A:iw w' 0 E k x rows.length xs)(v:bu K β xs rows.flatten)
  (hx:Ext (fun b=>x.ownBlock=some b) w w'):Inv B K β Γ w':=by
 have⟨T,r,c,G,C,s⟩:=h.ob i _ hi
 have q:∀b,x.ownBlock=some b->(β i).has b:=fun b l=>by rw[r];exact l
 refine⟨h.ext.step hx (fun j Y=>(h.own i j (q j Y)).symm),h.kle,h.ble,h.loc,h.fz.ext hx (fun b o g X e=>by grind),fun j y Y=>?_,h.out,h.dis,h.own,h.kn,h.tab.step hx (fun j Y=>⟨i,q j Y⟩) (c6.refl K) (fun i n h=>.inl ⟨i,h⟩)⟩
 by_cases u:j=i
 ·grind[gV]
 ·exact(h.ob j y Y).ext hx (fun b l e=>u (h.dis j i b l (q b e))) (c6.refl K) (dJ.refl β) rfl (fun _ _ _ h=>h)
theorem GL.VU{s x:Operand}{t u e:Nat}[hT:BI P t e][hU:pW P u](i:Nat){n:Nat}{G:Tmp}{v:Value}{rows:List am}{str:ah}(hx:bf fr x=.v (sv str))(hs:bf fr s=.v v)(k:Γ[i]?=some (.vech e 1 rows v))(hn:rows.length=n)(E:str.isEmpty=false)
  (S:n+str.length<=140737488355328)
  (h:∀a c,GL P m ops Q rest (bI fr (some G) (.v (.slice a (n+str.length) c))) (oset Γ i (.vech e 1 (rows++di str) (.slice a (n+str.length) c)))) :
  GL P m ops Q (⟨some G,.call ⟨.builtin .append,#[s,x],#[t,u]⟩,ty,pos,af,none⟩::rest) fr Γ:=fun B K β w l Z R H=>by
 subst hn
 have E:str≠[]:=by grind
 have⟨xs,o1,T,o3,o4,o5⟩:=R.ob i _ k;have O:ev l s=v:=H.fE hs
 have J:(di str).flatten=str.map fun c=>GV.v (.int .u8 (c.toNat:Int)):=by
  unfold di;clear hx E S h;generalize str=s
  induction s with
  |nil=>rfl
  |cons c r ih=>grind
 have C:(di str).length=str.length:=by simp
 refine WL.Av (base:=0) (v:=v) (n:=rows.length) (xs:=xs) (str:=str) O T (H.fE hx) S (bl _) ?_;intro v' w' N A M DT
 obtain⟨W,X,F,z⟩:=(R.xn k).grow (fz:=0) (nr k) o1 ⟨T,o3⟩ (news:=di str) (ns:=lL str) ze2 A M (by rw[J];exact(by
   have:(str.map fun c=>GV.v (.int .u8 (c.toNat:Int)))=gT (lL str):=by simp[gT,lL]
   rw[this];exact bu.self)) (fun r hr=>by
   grind[GV.pc]) ze2 (fun b Y o v ho hv=>by omega)
 rw[<-bD,lX]at z;have⟨a,c,j,q⟩:=z.AV (nr k);rw[lX]at q;obtain⟨a',c',rfl⟩:=N.shape;rw[bV]at j;simp only[bp,C]at j q F;cases j;exact h _ _ B W _ w' _ Z q ((H.mono X F).put (some G) (.v _))
theorem GL.VT{s x:Operand}{t u e:Nat}[Z:BI P t e][R:pW P u](i:Nat){rows:List am}{v:Value}(hx:bf fr x=.v (sv []))(hs:bf fr s=.v v)(z:Γ[i]?=some (.vech e 1 rows v))(hb:rows.length<=140737488355328)
  (h:GL P m ops Q rest (bI fr d (.v v)) Γ):GL P m ops Q (⟨d,.call ⟨.builtin .append,#[s,x],#[t,u]⟩,ty,pos,af,none⟩::rest) fr Γ:=fun B K β w l hm O C=>by
 have⟨xs,o1,Y,o3,o4,o5⟩:=O.ob i _ z;have G:=C.fE hs;have M:=C.fE hx;have⟨W,X,T,hz,r,F⟩:=Z.is;have XH:(⟨([]:ah).toArray⟩:ByteArray).size=0:=rfl;obtain⟨A,w',hr,N,k,h4⟩:=Lib.run_append_own_string (P:=P) w 0 t u ty e X W R.und T hz r F v rows.length xs Y ⟨([]:ah).toArray⟩ zfd L (bl _)
 have J:A=v:=by
  rcases Y.2 with⟨rfl,h6⟩|⟨g,c,cur,rfl,Qh,hg,B2,Lo,n,H⟩
  ·grind
  ·have S:cur.size=c:=by omega
   have Qq:=Lib.run_append_room_string (P:=P) w t u ty e X W R.und T r g rows.length c cur hg ⟨([]:ah).toArray⟩ L L
   grind
 subst J;have q:(Builtin.append_ #[t,u] ty #[A,sv []]).run P w=.ok A w':=hr;have n:Lib.strCells ⟨([]:ah).toArray⟩=[]:=rfl;rw[n,gL]at N;have o:Ext (fun b=>A.ownBlock=some b) w w':=⟨k.os,k.tape,k.output,k.size,fun j hj hn=>k.block j hj fun he=>hn he.symm⟩;have E:=O.again z N o3 o;exact WL.val (v:=A) (w':=w') (by simp[execOp,resolve,invoke,builtin,G,M,q]) (h B K β w' _ hm E (C.put d (.v _)))
theorem D.dV{x:Operand}{t:TypeId}(i:Nat){E n c:Nat}{a:Option Addr}{rows:List am}(hx:bf fr x=.v (.slice a n c))(o:Γ[i]?=some (.vech E 1 rows (.slice a n c)))(hn:rows.length=n)(W:Nat.blt 0 n=true) :
  D P (.call ⟨.builtin .unsafeSliceData,#[x],#[t]⟩) fr Γ (.vp i n 1 0 0):=fun B K A w l j O=>by
 subst hn
 have W:0<rows.length:=by simp_all
 have⟨Y,q,b,G,C,r⟩:=j.ob i _ o;have k:=O.fE hx
 rcases b.2 with⟨S,u⟩|⟨g,e,cur,S,_,X,R,_⟩
 ·omega
 ·cases S
  have z:=fun s ty=>Lib.run_unsafeSliceData_row (P:=P) (w:=w) s ty ⟨g,0,none⟩ rows.length c L
  exact⟨.pointer (some ⟨g,0,none⟩),fun d ty pos af=>by simp[execOp,resolve,invoke,builtin,k,z],.vp i _ 1 0 0 _ ⟨_,_,q,a8 _,fun _=>⟨g,rfl,by simp⟩⟩⟩
theorem GL.M1{x y:Operand}{pt it e:TypeId}(i:Nat){str:ah}{rows:List am}{v:Value}(hp:P.underlying pt=some (.pointer e))(hc:P.cellsOf e=1)(hx:bf fr x=.vp i str.length 1 0 0)(hy:bf fr y=y4 str.length)(uW:Γ[i]?=some (.vech e 1 rows v))(C:rows=di str)
  (J:str.isEmpty=false)(hb:str.length<=140737488355328)
  (h:GL P m ops Q rest (bI fr d (.v (sv str))) (oset Γ i .lost)):GL P m ops Q (⟨d,.call ⟨.builtin .unsafeString,#[x,y],#[pt,it]⟩,ty,pos,af,none⟩::rest) fr Γ:=fun B K N w l hm n R=>by
 have J:str≠[]:=by grind
 subst C;have⟨xs,o1,o2,o3,o4,o5⟩:=n.ob i _ uW
 have H:(di str).length=str.length:=by simp
 have W:=R.ev x;rw[hx]at W;have Z:=R.fE hy;generalize hv:ev l x=u at W
 cases W with
 |vp _ _ _ _ _ _ hh =>
  have⟨h0,mm,O,e2,e3⟩:=hh;rw[O]at o1;cases o1;obtain⟨b,F,rfl⟩:=e3 H
  rcases o2.2 with⟨h8,h9⟩|⟨g,cap,cur,h8,_,hg,B2,Lo,Lp,Y⟩
  ·grind
  ·subst h8;simp only[Value.ownBlock,Option.some.injEq]at F;subst F
   have UA:xs=lL str:=by
    have T:(di str).flatten=gT (lL str):=by
     have:(di str).flatten=str.map fun c=>GV.v (.int .u8 (c.toNat:Int)):=by
      unfold di;generalize str=s
      induction s with
      |nil=>rfl
      |cons c r ih=>grind
     rw[this];simp[gT,lL]
    rw[T]at o3;apply ext_getElem
    ·grind[lL]
    ·intro j h1 h2;have:=o3.2 j xs[j] (.v (lL str)[j]) (by simp[h1]) (by simp[gT,h2]);exact Rel.eE this
   have z:∀j y,str[j]?=some y->w.cell? ((⟨g,0,none⟩:Addr).add j)=some (.int .u8 y.toNat):=fun j y hy=>by
    grind[World.ownsRow.cells,lL]
   have X:(di str).length<=cur.size:=by omega
   have M:=Lib.run_unsafeString_row (P:=P) w pt it ty e hp hc g cur.size (by simp[World.shape?,hg]) str J L L z
   have q:Ext (·=g) w (w.freeze ⟨g,0,none⟩ str.length):=by
    have:=Lib.below_freeze (Below.refl 0 w) (p:=⟨g,0,none⟩) (bl g) str.length
    exact⟨this.os,this.tape,this.output,this.size,fun k hk hn=>by
     grind[World.freeze]⟩
   have G:(N i).has g:=by rw[O];exact rfl
   have S:Inv B K N (oset Γ i .lost) (w.freeze ⟨g,0,none⟩ str.length):=by
    refine⟨n.ext.step q (fun j t=>by subst t;exact(n.own i _ G).symm),n.kle,n.ble,n.loc,n.fz.ext q (fun b o g' wV he=>by grind),fun j y t=>?_,fun j t=>n.out j ze9,n.dis,n.own,n.kn,n.tab.step q (fun j t=>⟨i,by grind⟩) (c6.refl K) (fun i b2 h=>.inl ⟨i,h⟩)⟩;rw[bD,eR]at t;split at t
    ·rename_i A;split at t
     ·cases t;subst A
      intro b E;rw[O]at E;cases E
      grind[World.freeze]
     grind
    ·rename_i A;exact(n.ob j y t).ext q (fun b hb he=>by subst he;exact A (n.dis i j _ G hb)) (c6.refl K) (dJ.refl N) rfl (fun _ _ _ h=>h)
   exact WL.val (v:=sv str) (w':=w.freeze ⟨g,0,none⟩ str.length) (by simp[execOp,resolve,invoke,builtin,hv,Z,M,sv]) (h B K N _ _ hm S (R.put d (.v _)))
theorem Inv.PU{B:Bs}{K:Fz}{β:Bt}{Γ:ap}{w:World}{x:Bk}{y:Ob}(h:Inv B K β Γ w)(hd:∀b,x.has b->(∀i,¬(β i).has b)/\B.w0.heap.size<=b/\(b≠3/\b≠1))
  (A:gV K (fP β Γ.length x) w Γ.length y)(C:dJ β (fP β Γ.length x)):Inv B K (fP β Γ.length x) (Γ++[y]) w:=by
 refine⟨h.ext,h.kle,h.ble.trans C,h.loc,h.fz,fun i z k=>?_,fun i k=>?_,fun i j b k Y=>?_,fun i b k=>?_,h.kn,⟨h.tab.le,h.tab.pow,h.tab.spc,fun i b k=>?_⟩⟩
 ·by_cases E:i<Γ.length
  ·rw[gA E]at k;exact(h.ob i z k).ext (S:=gx) (Ext.refl w) (fun _ _ h=>h) (c6.refl K) C (cM L) (fun _ _ _ h=>h)
  grind
 ·simp at k;rw[cM L];exact h.out i L
 ·by_cases o:i=Γ.length<;>by_cases c:j=Γ.length
  ·omega
  ·grind[bV,cM]
  ·grind[bV,cM]
  ·rw[cM o]at k;rw[cM c]at Y;exact h.dis i j b k Y
 ·rcases mU k with o|o
  ·grind
  ·exact h.own i b o
 ·rcases mU k with o|o
  ·grind
  ·exact h.tab.free i b o
theorem D.QT{x lo:Operand}{t e:TypeId}{k:Nat}[n:lK P t e k]{rows:List am}{A:IntKind}{i:Nat}(hx:bf fr x=.sl k rows)(G:bf fr lo=.v (.int A i))(hi:Nat.blt i rows.length=true):D P (.slice t x (some lo) none none) fr Γ (.sl k (rows.drop i)):=fun B K β w l s O=>by
 have hi:i<rows.length:=by simp_all
 have h:=O.ev x;rw[hx]at h;have z:=O.fE G;generalize q:ev l x=v at h
 cases h with
 |sl0 a c=>simp at hi
 |sl b o c _ _ h W =>
  refine⟨.slice (some ⟨b,o+i*k,none⟩) (rows.length-i) (c-i),fun d ty pos af=>?_,?_⟩
  ·have C:¬(c=i):=by omega
   have N:(i:Int)<=(rows.length:Int):=by omega
   simp[execOp,Instr.sliceAt,Instr.slice,Instr.sliceBounds,Instr.sliceBound,asIntOf,q,z,run_underlying n.und,iI n.siz,C,Nat.le_of_lt hi,pX]
  ·have:=Rel.sl (K:=K) (β:=β) b (o+i*k) (c-i) k (rows.drop i) (fun j r E=>?_) ze2
   ·grind
   grind
def D.eg{x lo:Operand}{t e:TypeId}{k:Nat}[o:lK P t e k]{rows:List am}{w:IntKind}{n:Int}(i:Nat)(hx:bf fr x=.sl k rows)(G:bf fr lo=.v (.int w n))(hn:n=(i:Int))(hi:Nat.blt i rows.length=true):D P (.slice t x (some lo) none none) fr Γ (.sl k (rows.drop i)):=by
 subst hn;exact D.QT hx G hi
end
def ph(a:Int):Int:=IntKind.i64.wrap a
def oQ(a b:Int):Int:=IntKind.i64.wrap (((a%18446744073709551616).toNat &&& (b%18446744073709551616).toNat:Nat):Int)
def r7(a b:Int):Int:=IntKind.i64.wrap (((a%18446744073709551616).toNat ^^^ (b%18446744073709551616).toNat:Nat):Int)
def Tc(a:Int) : -9223372036854775808<=ph a/\ph a<=9223372036854775807:=by
 unfold ph;rw[IntKind.wrap_i64];omega
def yD(a b:Int)(i:0<=b/\b<=9223372036854775807):0<=oQ a b/\oQ a b<=b:=by
 unfold oQ
 have o:(b%18446744073709551616).toNat=b.toNat:=by rw[Int.emod_eq_of_lt i.1 L]
 have c:(a%18446744073709551616).toNat &&& (b%18446744073709551616).toNat<=b.toNat:=by rw[o];exact Nat.and_le_right
 rw[IntKind.wrap_i64];omega
def Tv(a b:Int):(BitVec.ofInt 64 a &&& BitVec.ofInt 64 b).toNat=(a%18446744073709551616).toNat &&& (b%18446744073709551616).toNat:=by rw[BitVec.toNat_and,BitVec.toNat_ofInt,BitVec.toNat_ofInt];rfl
def Tw(a b:Int):(BitVec.ofInt 64 a ^^^ BitVec.ofInt 64 b).toNat=(a%18446744073709551616).toNat ^^^ (b%18446744073709551616).toNat:=by rw[BitVec.toNat_xor,BitVec.toNat_ofInt,BitVec.toNat_ofInt];rfl
section
variable{P:Program}{fr:am}{Γ:ap}{x y:Operand}{t t':TypeId}{a b:Int}
def D.To(hx:bf fr x=y4 a)(B:bf fr y=y4 b):D P (.binOp .add t x y t') fr Γ (y4 (ph (a+b))) :=
 D.v2 hx B fun l w h k d n G m=>by simp[execOp,eqGuard,h,k,binOp,Op.intArith,ph]
def D.UT(hx:bf fr x=y4 a)(B:bf fr y=y4 b):D P (.binOp .mul t x y t') fr Γ (y4 (ph (a*b))) :=
 D.v2 hx B fun l w h k d n G m=>by simp[execOp,eqGuard,h,k,binOp,Op.intArith,ph]
def D.IU(hx:bf fr x=y4 a)(B:bf fr y=y4 b):D P (.binOp .and t x y t') fr Γ (y4 (oQ a b)) :=
 D.v2 hx B fun l w h k d o G m=>by
  simp[execOp,eqGuard,h,k,binOp,Op.intBits,oQ,IntKind.bits];exact congrArg (fun n:Nat=>IntKind.i64.wrap (n:Int)) (Tv a b)
def D.VL(hx:bf fr x=y4 a)(B:bf fr y=y4 b):D P (.binOp .xor t x y t') fr Γ (y4 (r7 a b)) :=
 D.v2 hx B fun l w h k d o G m=>by
  simp[execOp,eqGuard,h,k,binOp,Op.intBits,r7,IntKind.bits];exact congrArg (fun n:Nat=>IntKind.i64.wrap (n:Int)) (Tw a b)
def D.ES{z:IntKind}{n:Nat}(hx:bf fr x=y4 a)(B:bf fr y=.v (.int z (n:Int))):D P (.binOp .shr t x y t') fr Γ (y4 (a.fdiv (2^min n 64))) :=
 D.v2 hx B fun l w h k d o G m=>by
  have:¬((n:Int)<0):=by omega
  simp[execOp,eqGuard,h,k,binOp,Op.shift,this,IntKind.bits]
end
end Go.Xg
set_option maxHeartbeats 4000000
namespace Go.Xg
open Go.RowKit Go.Xw Go.Proofs Tryz
open GV (U)
structure c9 where
 i:Nat
 h:Int
abbrev ux(code:ah)(c:c9):am:=[.sl 1 (di code),y4 (c.i:Nat),y4 c.h]
def vM(c:c9):Int:=ph (ph (c.h*6364136223846793005)+1442695040888963407)
def A2(h:Int):Int:=oQ (r7 (h.fdiv (2^min 33 64)) (h.fdiv (2^min 45 64))) 255
def kJ(code:ah)(c:c9):Int × c9:=match code[c.i]? with
 |some b=>(oQ (A2 (vM c)+((b.toNat:Nat):Int)) 255,⟨c.i+1,vM c⟩)
 |none=>(A2 (vM c),⟨c.i,vM c⟩)
def bF(code:ah)(n:Int)(c:c9):Int × c9 :=
 if n<=0 then(0,c)else if n<=256 then((kJ code c).1%n,(kJ code c).2)else
  let a:=kJ code c
  let b:=kJ code a.2
  let d:=kJ code b.2
  let e:=kJ code d.2
  ((a.1*16777216+b.1*65536+d.1*256+e.1)%n,e.2)
def Ek(h:Int):0<=A2 h/\A2 h<=255:=yD _ _ ⟨by omega,by omega⟩
def tP(code:ah)(c:c9):0<=(kJ code c).1/\(kJ code c).1<=255:=by
 unfold kJ;split
 ·simp[yD]
 ·exact Ek _
def AE{code:ah}{c:c9}(h:c.i<=code.length):(kJ code c).2.i<=code.length:=by
 grind[kJ]
theorem fK{code:ah}{c:c9}(n:Int)(h:c.i<=code.length):(bF code n c).2.i<=code.length:=by
 unfold bF
 grind[kJ]
def eJ(code:ah){n:Int}(c:c9)(h:0<n):0<=(bF code n c).1/\(bF code n c).1<n:=by
 unfold bF;rw[ab L];split
 ·exact⟨Int.emod_nonneg _ L,Int.emod_lt_of_pos _ h⟩
 ·exact⟨Int.emod_nonneg _ L,Int.emod_lt_of_pos _ h⟩
def GD{s:ah}{i:Nat}{b:UInt8}(h:s[i]?=some b):(di s)[i]?=some [.v (.int .u8 (b.toNat:Nat))]:=by grind
def wF(s:ah):(di s).length=s.length:=by simp
attribute [local irreducible] GW GL GO D GC GA bo bn oQ r7 ph
def tY(code:ah)(c:c9)(M:code.length<=1099511627776)(W:c.i<=code.length) :
  GF prog 100 [.loc 0 0] [.box 115 (ux code c)] (.v (ii (kJ code c).1)) [.box 115 (ux code (kJ code c).2)]:=by
 have l:=Ek (vM c);have N:=wF code;unfold kJ
 cases j:code[c.i]? with
 |some b =>
  have O:=(b6 j).1;have z:=GD j;have k:b.toNat<256:=b.toNat_lt
  have T:decide ((c.i:Int)<((di code).length:Int))=true:=by grind
  simp only;unfold ux;simp only;unfold A2 vM at *;refine ak func100 ntmps100 ?_;refine zc8 ?_;refine OP rfl (fun u=>D.ES (n:=33) rfl rfl) ?_;refine lx ?_;refine ay ?_;refine OP rfl (fun u=>D.ES (n:=45) rfl rfl) ?_;refine lx ?_;refine OP rfl (fun u=>D.VL rfl rfl) ?_;refine lx ?_;refine OP rfl (fun u=>D.IU rfl rfl) ?_;refine lx ?_;refine bj ?_;refine zaN ?_;refine aV (aM 0 15 .nil) ?_;refine ay ?_;refine OP rfl (fun u=>D.IU rfl rfl) ?_;refine lx ?_;exact zbI
 |none =>
  have w:=nQ j
  have T:decide ((c.i:Int)<((di code).length:Int))=false:=by grind
  simp only;unfold ux;simp only;unfold A2 vM at *;refine ak func100 ntmps100 ?_;refine zc8 ?_;refine OP rfl (fun u=>D.ES (n:=33) rfl rfl) ?_;refine lx ?_;refine ay ?_;refine OP rfl (fun u=>D.ES (n:=45) rfl rfl) ?_;refine lx ?_;refine OP rfl (fun u=>D.VL rfl rfl) ?_;refine lx ?_;refine OP rfl (fun u=>D.IU rfl rfl) ?_;refine lx ?_;refine bj ?_;refine aV (aM 0 10 .nil) ?_;exact zbI
def gq(code:ah)(n:Int)(c:c9)(M:code.length<=1099511627776)(W:c.i<=code.length) :
  GF prog 33 [.loc 0 0,y4 n] [.box 115 (ux code c)] (.v (ii (bF code n c).1)) [.box 115 (ux code (bF code n c).2)]:=by
 unfold bF;have o:=tY code c M W;have k:=tP code c;have H:=AE W;generalize kJ code c=a at *;have⟨x,q⟩:=a;simp only at o k H |-
 by_cases s:n<=0
 ·have T:decide (n<=(0:Int))=true:=by grind
  rw[ai s];refine ak func33 ntmps33 ?_;exact az
 ·have T:decide (n<=(0:Int))=false:=by grind
  rw[ab s]
  by_cases e:n<=256
  ·have j:decide (n<=(256:Int))=true:=by grind
   rw[ai e];refine ak func33 ntmps33 ?_;refine I [0] o ?_;exact az
  ·have j:decide (n<=(256:Int))=false:=by grind
   rw[ab e];have b:=tY code q M H;have S:=tP code q;have R:=AE H;generalize kJ code q=a at *;have⟨y,N⟩:=a;simp only at b S R |-;have G:=tY code N M R;have l:=tP code N;have d:=AE R;generalize kJ code N=a at *;have⟨z,A⟩:=a;simp only at G l d |-;have C:=tY code A M d;have O:=tP code A;generalize kJ code A=a at *;have⟨w,J⟩:=a;simp only at C O |-;refine ak func33 ntmps33 ?_;refine I [0] o ?_;refine I [0] b ?_;refine I [0] G ?_;refine I [0] C ?_;exact az
def OB(code:ah)(M:code.length<=1099511627776) :
  GC prog 31 [.sl 1 (di code)] [] fun g l=>∃h,g=.loc 0 0/\l=[.box 115 (ux code ⟨0,h⟩)]:=by
 have O:=wF code;refine ak func31 ntmps31 ?_;refine GW.loop (fun x:Nat=>code.length-x) (fun i fr Γ=>∃h:Int,fr=.sl 1 (di code)::U::U::y4 h::y4 (i:Nat)::zU 27 []/\Γ=[]/\i<=code.length/\0<=h/\h<=4398046511104) 0 ?_ ?_
 ·exact⟨_,_,Wk.a6 aC,_,rfl,rfl,bl _,by omega,by omega⟩
 ·rintro i _ _⟨h,rfl,rfl,m,r,s⟩
  rcases Nat.lt_or_ge i code.length with N|w
  ·have T:decide ((i:Int)<((di code).length:Int))=true:=by grind
   by_cases C:i<4000
   ·have o:decide ((i:Int)<(4000:Int))=true:=by grind
    have z:=GD (cY N);generalize code[i]=b at *;have k:b.toNat<256:=b.toNat_lt;refine V ?_;refine GL.q (D.IU rfl rfl) ?_;refine zak ?_
    have j:=fun a=>yD a 1073741823 ⟨by omega,by omega⟩
    exact⟨i+1,⟨_,_,Wk.a6 aC,_,rfl,rfl,N,(j _).1,by grind⟩,by omega⟩
   ·have o:decide ((i:Int)<(4000:Int))=false:=by grind
    exact zc0
  ·have T:decide ((i:Int)<((di code).length:Int))=false:=by grind
   exact zc0
def xd(code:ah)(c:c9):Int × c9 :=
 let k:=bF code 11 c
 if k.1<4 then((bF code 24 k.2).1-4,(bF code 24 k.2).2)
 else if k.1=4 then(2147483646+(bF code 3 k.2).1,(bF code 3 k.2).2)
 else if k.1=5 then(-2147483649+(bF code 3 k.2).1,(bF code 3 k.2).2)
 else if k.1=6 then(9223372036854775807-(bF code 2 k.2).1,(bF code 2 k.2).2)
 else if k.1=7 then(-9223372036854775807-(bF code 2 k.2).1,(bF code 2 k.2).2)
 else if k.1=8 then(ph (1*2^(bF code 40 k.2).1.toNat),(bF code 40 k.2).2)
 else if k.1=9 then
  let a:=bF code 1000000 k.2
  let b:=bF code 1000000 a.2
  (a.1*b.1,b.2)
 else bF code 2000000 k.2
def Vd{code:ah}{c:c9}(h:c.i<=code.length):(xd code c).2.i<=code.length:=by
 unfold xd
 grind[fK]
def Pe(code:ah)(c:c9) : -9223372036854775808<=(xd code c).1/\(xd code c).1<=9223372036854775807:=by
 unfold xd
 have o:=fun n(h:(0:Int)<n)=>eJ code (bF code 11 c).2 h
 simp only;split
 ·grind
 split
 ·grind
 split
 ·grind
 split
 ·grind
 split
 ·grind
 split
 ·exact Tc _
 split
 ·have b:=o 1000000 L;have G:=eJ code (bF code 1000000 (bF code 11 c).2).2 (n:=1000000) L;have C:=Int.mul_nonneg b.1 G.1;have e:=Int.mul_le_mul (Int.le_of_lt b.2) (Int.le_of_lt G.2) G.1 L;omega
 grind
section
variable{P:Program}{fr:am}{Γ:ap}{x y:Operand}{t t':TypeId}{a:Int}
def D.Zc{z:IntKind}{n:Nat}(hx:bf fr x=y4 a)(B:bf fr y=.v (.int z (n:Int)))(hn:n<=63):D P (.binOp .shl t x y t') fr Γ (y4 (ph (a*2^n))) :=
 D.v2 hx B fun l w h k d q H m=>by
  have o:¬((n:Int)<0):=by omega
  have b:min n 64=n:=by omega
  have G:n<64:=by omega
  simp[execOp,eqGuard,h,k,binOp,Op.shift,o,b,G,IntKind.bits,ph]
end
def OC(code:ah)(c:c9)(O:code.length<=1099511627776)(W:c.i<=code.length) :
  GF prog 36 [.loc 0 0] [.box 115 (ux code c)] (.v (ii (xd code c).1)) [.box 115 (ux code (xd code c).2)]:=by
 unfold xd;have o:=gq code 11 c O W;have l:=eJ code c (n:=11) L;have H:=fK (code:=code) 11 W;generalize bF code 11 c=a at *;have⟨k,r⟩:=a;simp only at o l H |-
 have b:=fun n=>gq code n r O H
 have R:=fun n(h:(0:Int)<n)=>eJ code r h
 have S:=fun n=>fK (code:=code) n H
 by_cases Q:k<4
 ·have T:decide (k<(4:Int))=true:=by grind
  rw[ai Q];have G:=b 24;have e:=R 24 L;exact zaC
 ·have T:decide (k<(4:Int))=false:=by grind
  rw[ab Q];obtain⟨m,rfl⟩:∃m:Nat,k=(m:Int):=⟨k.toNat,by omega⟩
  have j:m=4\/m=5\/m=6\/m=7\/m=8\/m=9\/m=10:=by omega
  rcases j with rfl|rfl|rfl|rfl|rfl|rfl|rfl
  ·have G:=b 3;have e:=R 3 L;rw[ai aU];exact zaC
  ·have G:=b 3;have e:=R 3 L;rw[ab aU,ai aU];exact zaC
  ·have G:=b 2;have e:=R 2 L;rw[ab aU,ab aU,ai aU];exact zaC
  ·have G:=b 2;have e:=R 2 L;rw[ab aU,ab aU,ab aU,ai aU];exact zaC
  ·have G:=b 40;have e:=R 40 L;rw[ab aU,ab aU,ab aU,ab aU,ai aU];generalize bF code 40 r=a at *;have⟨s,M⟩:=a;simp only at G e |-;obtain⟨n,rfl⟩:∃n:Nat,s=(n:Int):=⟨s.toNat,by omega⟩;rw[eV];refine ak func36 ntmps36 ?_;refine I [0] o ?_;refine I [0] G ?_;refine GL.q (D.Zc rfl rfl L) ?_;exact zdr
  ·have G:=b 1000000;have e:=R 1000000 L;have d:=S 1000000;rw[ab aU,ab aU,ab aU,ab aU,ab aU,ai aU];generalize bF code 1000000 r=a at *;have⟨u,M⟩:=a;simp only at G e d |-;have C:=gq code 1000000 M O d;have N:=eJ code M (n:=1000000) L;generalize bF code 1000000 M=a at *;have⟨v,w⟩:=a;simp only at C N |-;have z:=Int.mul_nonneg e.1 N.1;have A:=Int.mul_le_mul (Int.le_of_lt e.2) (Int.le_of_lt N.2) N.1 L;refine ak func36 ntmps36 ?_;refine I [0] o ?_;refine I [0] G ?_;refine I [0] C ?_;exact az
  ·have G:=b 2000000;rw[ab aU,ab aU,ab aU,ab aU,ab aU,ab aU];exact zaC
end Go.Xg
namespace Go.Xg
open Go.RowKit Go.Xw Go.Mn
open Go.Xp (bH)
def Hs(n:Int):IntKind.i32.wrap n=bH n:=by
 rw[IntKind.wrap_i32];unfold bH;split<;>omega
def DX{n:Int}(h:pV n):IntKind.i64.wrap n=n:=by
 unfold pV at h;rw[IntKind.wrap_i64];omega
def VB(n:Int):IntKind.u32.wrap n=((mD n:Nat):Int):=by
 rw[IntKind.wrap_u32,Mu]
def BA{n:Nat}(h:n<4294967296):IntKind.u32.wrap (n:Int)=(n:Int):=by
 rw[IntKind.wrap_u32];omega
def AD{n:Nat}(h:n<4294967296):(BitVec.ofInt 32 (n:Int)).toNat=n:=by
 rw[BitVec.toNat_ofInt];simp;omega
section
variable{P:Program}{fr:am}{Γ:ap}{x y:Operand}{t t':TypeId}
def D.Dx{s t:TypeId}{k k':IntKind}{a:Int}[W:mY P s k'][z:mY P t k](hx:bf fr x=.v (.int k' a)):D P (.convert s t x) fr Γ (.v (.int k (k.wrap a))) :=
 D.v1 hx fun l w h d r u c=>by simp[execOp,h,convert,run_underlying W.und,run_underlying z.und,Conv.intToInt]
def D.V1{s t:TypeId}{a:Int}[W:mY P s .i64][z:mY P t .i32](hx:bf fr x=y4 a):D P (.convert s t x) fr Γ (.v (.int .i32 (bH a))):=by
 rw[<-Hs];exact D.Dx hx
def D.sX{s t:TypeId}{a:Int}[W:mY P s .i64][z:mY P t .u32](hx:bf fr x=y4 a):D P (.convert s t x) fr Γ (.v (.int .u32 ((mD a:Nat):Int))):=by
 rw[<-VB];exact D.Dx hx
def D.CR{s t:TypeId}{a:Nat}[W:mY P s .u32][z:mY P t .i32](hx:bf fr x=.v (.int .u32 (a:Int))):D P (.convert s t x) fr Γ (.v (.int .i32 (bH (a:Int)))):=by
 rw[<-Hs];exact D.Dx hx
def D.Dw{s t:TypeId}{a:Int}[W:mY P s .i32][z:mY P t .i64](hx:bf fr x=.v (.int .i32 a))(h:pV a):D P (.convert s t x) fr Γ (y4 a):=by
 have:=D.Dx (P:=P) (Γ:=Γ) (s:=s) (t:=t) (k:=.i64) hx;rw[DX h]at this;exact this
def D.AH{s t:TypeId}{a:Nat}[W:mY P s .u32][z:mY P t .i64](hx:bf fr x=.v (.int .u32 (a:Int)))(h:a<4294967296):D P (.convert s t x) fr Γ (y4 (a:Int)):=by
 have:=D.Dx (P:=P) (Γ:=Γ) (s:=s) (t:=t) (k:=.i64) hx;rw[show IntKind.i64.wrap (a:Int)=(a:Int) by rw[IntKind.wrap_i64];omega]at this;exact this
def D.Vb{a b:Int}(hx:bf fr x=y4 a)(J:bf fr y=y4 b)(z:b≠0)(r:pV (a.tdiv b)):D P (.binOp .quo t x y t') fr Γ (y4 (a.tdiv b)) :=
 D.v2 hx J fun l w h k d s u c=>by simp[execOp,eqGuard,h,k,binOp,Op.intDiv,z,DX r]
def D.Za{a b:Int}(hx:bf fr x=y4 a)(J:bf fr y=y4 b)(z:b≠0):D P (.binOp .rem t x y t') fr Γ (y4 (a.tmod b)) :=
 D.v2 hx J fun l w h k d r u c=>by simp[execOp,eqGuard,h,k,binOp,Op.intDiv,z]
variable{a b:Nat}
def D.X9(hx:bf fr x=.v (.int .u32 (a:Int)))(J:bf fr y=.v (.int .u32 (b:Int)))(ha:a<4294967296)(B:b<4294967296):D P (.binOp .and t x y t') fr Γ (.v (.int .u32 ((a &&& b:Nat):Int))) :=
 D.v2 hx J fun l w h k d r u c=>by
  have O:(BitVec.ofInt 32 (a:Int) &&& BitVec.ofInt 32 (b:Int)).toNat=a &&& b:=by rw[BitVec.toNat_and,AD ha,AD B]
  have A:=BA (n:=a &&& b) (Nat.lt_of_le_of_lt Nat.and_le_left ha);exact zaO
def D.orU(hx:bf fr x=.v (.int .u32 (a:Int)))(J:bf fr y=.v (.int .u32 (b:Int)))(ha:a<4294967296)(B:b<4294967296):D P (.binOp .or t x y t') fr Γ (.v (.int .u32 ((a |||b:Nat):Int))) :=
 D.v2 hx J fun l w h k d r u c=>by
  have O:(BitVec.ofInt 32 (a:Int) |||BitVec.ofInt 32 (b:Int)).toNat=a |||b:=by rw[BitVec.toNat_or,AD ha,AD B]
  have A:=BA (n:=a |||b) (Nat.or_lt_two_pow (n:=32) ha B);exact zaO
def D.Zh(hx:bf fr x=.v (.int .u32 (a:Int)))(J:bf fr y=.v (.int .u32 (b:Int)))(ha:a<4294967296)(B:b<4294967296):D P (.binOp .xor t x y t') fr Γ (.v (.int .u32 ((a ^^^ b:Nat):Int))) :=
 D.v2 hx J fun l w h k d r u c=>by
  have O:(BitVec.ofInt 32 (a:Int) ^^^ BitVec.ofInt 32 (b:Int)).toNat=a ^^^ b:=by rw[BitVec.toNat_xor,AD ha,AD B]
  have A:=BA (n:=a ^^^ b) (Nat.xor_lt_two_pow (n:=32) ha B);exact zaO
def D.EG(hx:bf fr x=.v (.int .u32 (a:Int)))(J:bf fr y=.v (.int .u32 (b:Int)))(z:1<=b):D P (.binOp .rem t x y t') fr Γ (.v (.int .u32 ((a%b:Nat):Int))) :=
 D.v2 hx J fun l w h k d r u c=>by
  have q:(b:Int)≠0:=by omega
  have T:(a:Int).tmod (b:Int)=((a%b:Nat):Int):=by rw[Int.ofNat_tmod]
  simp only[execOp,eqGuard,h,k,binOp,Op.intDiv,ab q,T];rfl
def D.Zb{n:Nat}{B:IntKind}(hx:bf fr x=.v (.int .u32 (a:Int)))(J:bf fr y=.v (.int B (n:Int)))(hn:n<=31):D P (.binOp .shl t x y t') fr Γ (.v (.int .u32 ((a*2^n%4294967296:Nat):Int))) :=
 D.v2 hx J fun l w h k d r u c=>by
  have O:¬((n:Int)<0):=by omega
  have z:Min.min n 32=n:=by omega
  have A:IntKind.u32.wrap ((a:Int)*2^n)=((a*2^n%4294967296:Nat):Int):=by
   have e:(a:Int)*2^n=((a*2^n:Nat):Int):=by rw[Int.natCast_mul,Int.natCast_pow];rfl
   rw[e,IntKind.wrap_u32];generalize a*2^n=q;omega
  simp[execOp,eqGuard,h,k,binOp,Op.shift,O,IntKind.bits,z,A]
end
end Go.Xg
set_option maxHeartbeats 1000000
namespace Go.Xg
open Go.RowKit Go.Xw Go.Proofs Tryz Go.Sp
open GV (U)
attribute [local irreducible] GW GL GO D GC GA bo bn
def sS{R:Type}{l:List R}{q:R->Bool}{k:Nat}{x:R}(hx:l[k]?=some x)(hf:(l.take k).all q=true)(i:q x=true):(l.take (k+1)).all q=true:=by
 rw[c7,hx,List.all_append,hf];simp[i]
def idxOf(xs:List ah)(s:ah):Int:=match xs.findIdx? (fun x=>s==x)with|some i=>(i:Int)|none => -1
section
variable(xs:List ah)(s:ah)
def gC(M:xs.length<=1099511627776):GF prog 109 [strs xs,.v (sv s)] [] (y4 (idxOf xs s)) []:=by
 refine ak func109 ntmps109 ?_;refine GW.range (xs.map fun s=>[GV.v (sv s)]).length (fun k J u=>J=[strs xs,.v (sv s),U,U,U,U,strs xs,y4 ((xs.map fun s=>[GV.v (sv s)]).length:Int),y4 (k:Nat),U,U,U,U,U,U,U,U,U,U]/\u=[]/\((xs.take k).all fun x=>!(s==x))=true) ?_ zfn ?_ ?_ ?_
 ·exact kP
 ·exact jA
 ·rintro k _ _ N⟨rfl,rfl,W⟩
  have N:k<xs.length:=by simpa using N
  have hx:xs[k]?=some xs[k]:=by simp[N]
  have w:(xs.map fun s=>[GV.v (sv s)])[k]?=some [.v (sv xs[k])]:=by simp[N]
  cases m:(s==xs[k])with
  |true =>
   have i:xs.findIdx? (fun x=>s==x)=some k:=by
    rw[List.findIdx?_eq_some_iff_getElem];refine⟨N,m,fun j Y=>?_⟩;rw[hY]at W;have:=W xs[j] zfb;exact zdc
   unfold idxOf;rw[i];generalize xs[k]=x at *;exact aK
  |false =>
   have l:=sS (q:=fun x=>!(s==x)) hx W (by rw[m];rfl);generalize xs[k]=x at *;refine V ?_;exact⟨rfl,rfl,_,_,Wk.a6 aC,rfl,rfl,l⟩
 ·rintro _ _⟨rfl,rfl,W⟩;rw[ml ze3]at W
  have i:xs.findIdx? (fun x=>s==x)=none:=by
   rw[List.findIdx?_eq_none_iff];intro x hx;rw[hY]at W;have:=W x hx;exact zdc
  unfold idxOf;rw[i];exact aK
def Oq:decide (0<=idxOf xs s)=xs.contains s:=by
 unfold idxOf
 cases h:xs.findIdx? (fun x=>s==x)with
 |some i =>
  rw[List.findIdx?_eq_some_iff_getElem]at h;have⟨o,b,_⟩:=h
  have G:s=xs[i]:=by simpa using b
  have:xs.contains s=true:=by rw[rv,G];exact getElem_mem _
  rw[this];simp
 |none =>
  rw[List.findIdx?_eq_none_iff]at h
  have:xs.contains s=false:=by
   cases W:xs.contains s with
   |false=>rfl
   |true=>have:=h s (rv.1 W);simp at this
  rw[this];rfl
def jm(M:xs.length<=1099511627776):GF prog 48 [strs xs,.v (sv s)] [] (.v (.bool (xs.contains s))) []:=by
 have j:=gC xs s M;rw[<-Oq];generalize idxOf xs s=i at *;refine ak func48 ntmps48 ?_;refine I [] j ?_;exact az
end
end Go.Xg
set_option maxHeartbeats 4000000
namespace Go.Xg
open Go.RowKit Go.Xw Go.Proofs Tryz Go.Mn
open Go.Xp (bH)
attribute [local irreducible] GW GL GO D GC GA bo bn
def fq(n:Int):GF prog 293 [y4 n] [] (y4 (bH n)) []:=by
 refine ak func293 ntmps293 ?_;refine GL.q (D.V1 rfl) ?_;refine bh ?_;refine GL.q (D.Dw rfl (mN n)) ?_;refine zak ?_;refine bA ?_
 grind[bx]
def kW(n:Int):GF prog 294 [y4 n] [] (y4 (n%4294967296)) []:=by
 rw[<-Mu];refine ak func294 ntmps294 ?_;refine GL.q (D.sX rfl) ?_;refine bh ?_;refine GL.q (D.AH rfl (kh n)) ?_;refine zak ?_;refine bA ?_
 grind[bx]
def sd(b:Bool):GF prog 296 [.v (.bool b)] [] (y4 (oG b)) []:=by
 cases b with
 |true =>
  refine ak func296 ntmps296 ?_;exact az
 |false =>
  refine ak func296 ntmps296 ?_;exact az
def UU{x y:Int}(hx:pV x)(J:pV y) : -9223372036854775808<=x*y/\x*y<=9223372036854775807:=by
 unfold pV at hx J;have h:=Int.natAbs_mul x y;have O:x.natAbs*y.natAbs<=2147483648*2147483648:=Nat.mul_le_mul L L;omega
section
variable(a b:Int)
theorem VN:GF prog 339 [y4 a,y4 b] [] (y4 (IQ a b)) []:=by
 unfold IQ;have e:=fq a;have d:=fq b;have w:=fq (bH a+bH b);have z:=mN a;have A:=mN b;unfold pV at z A;generalize bH a=x at *;generalize bH b=y at *;refine ak func339 ntmps339 ?_;refine zb5 ?_;refine I [] w ?_;refine bA ?_
 grind[bx]
theorem PT:GF prog 295 [y4 a,y4 b] [] (y4 (C4 a b)) []:=by
 unfold C4;have e:=fq a;have d:=fq b;have w:=fq (bH a-bH b);have z:=mN a;have A:=mN b;unfold pV at z A;generalize bH a=x at *;generalize bH b=y at *;refine ak func295 ntmps295 ?_;refine zb5 ?_;refine I [] w ?_;refine bA ?_
 grind[bx]
theorem VR:GF prog 340 [y4 a,y4 b] [] (y4 (Jv a b)) []:=by
 unfold Jv;have e:=fq a;have d:=fq b;have A:=fq (bH a*bH b);have z:=mN a;have w:=mN b;have G:=UU z w;unfold pV at z w;generalize bH a=x at *;generalize bH b=y at *;refine ak func340 ntmps340 ?_;refine zb5 ?_;refine I [] A ?_;refine bA ?_
 grind[bx]
theorem Te:GF prog 337 [y4 a,y4 b] [] (.tup [.v (ii (xA a b).1),.v (ii (xA a b).2)]) []:=by
 have r:=TC a b;unfold xA at r |-;have e:=fq a;have d:=fq b;generalize bH a=x at *;generalize bH b=y at *
 by_cases s:y=0
 ·rw[ai s]
  have A:(y==0)=true:=by grind
  refine ak func337 ntmps337 ?_;refine zb5 ?_;refine lJ ?_
  grind[bx]
 ·rw[ab s]at r |-
  have A:(y==0)=false:=by grind
  by_cases O:x = -2147483648
  ·have J:(x == -2147483648)=true:=by grind
   by_cases w:y = -1
   ·have X:(y == -1)=true:=by grind
    rw[ai ⟨O,w⟩];refine ak func337 ntmps337 ?_;refine zb5 ?_;refine lJ ?_
    grind[bx]
   ·have X:(y == -1)=false:=by grind
    rw[ab (fun h=>w h.2)]at r |-;refine ak func337 ntmps337 ?_;refine zb5 ?_;refine GL.q (D.Vb rfl rfl s r) ?_;refine zak ?_;refine lJ ?_
    grind[bx]
  ·have J:(x == -2147483648)=false:=by grind
   rw[ab (fun h=>O h.1)]at r |-;refine ak func337 ntmps337 ?_;refine zb5 ?_;refine GL.q (D.Vb rfl rfl s r) ?_;refine zak ?_;refine lJ ?_
   grind[bx]
theorem Tj:GF prog 338 [y4 a,y4 b] [] (.tup [.v (ii (CZ a b).1),.v (ii (CZ a b).2)]) []:=by
 unfold CZ;have e:=fq a;have d:=fq b;generalize bH a=x at *;generalize bH b=y at *
 by_cases s:y=0
 ·rw[ai s]
  have A:(y==0)=true:=by grind
  refine ak func338 ntmps338 ?_;refine zb5 ?_;refine lJ ?_
  grind[bx]
 ·rw[ab s]
  have A:(y==0)=false:=by grind
  refine ak func338 ntmps338 ?_;refine zb5 ?_;refine GL.q (D.Za rfl rfl s) ?_;refine zak ?_;refine lJ ?_
  grind[bx]
end
def Td(m:Nat):bH ((m%4294967296:Nat):Int)=bH (m:Int):=by simp[bH]
section
variable(a b:Int)
def Q6:GF prog 297 [y4 1,y4 a,y4 b] [] (y4 (n8 1 a b)) []:=by
 have O:=kh b;have o:=kh a
 have G:mD b%32<=31:=by omega
 refine ak func297 ntmps297 ?_;refine zb6 ?_;refine GL.q (D.X9 rfl rfl (kh a) (kh b)) ?_;exact zbc
def Q7:GF prog 297 [y4 2,y4 a,y4 b] [] (y4 (n8 2 a b)) []:=by
 have O:=kh b;have o:=kh a
 have G:mD b%32<=31:=by omega
 refine ak func297 ntmps297 ?_;refine zb6 ?_;refine GL.q (D.orU rfl rfl (kh a) (kh b)) ?_;exact zbc
def Gh:GF prog 297 [y4 3,y4 a,y4 b] [] (y4 (n8 3 a b)) []:=by
 have O:=kh b;have o:=kh a
 have G:mD b%32<=31:=by omega
 refine ak func297 ntmps297 ?_;refine zb6 ?_;refine GL.q (D.Zh rfl rfl (kh a) (kh b)) ?_;exact zbc
def Q8:GF prog 297 [y4 4,y4 a,y4 b] [] (y4 (n8 4 a b)) []:=by
 have O:=kh b;have o:=kh a
 have G:mD b%32<=31:=by omega
 refine ak func297 ntmps297 ?_;refine zb6 ?_;refine GL.q (D.Zb rfl rfl L) ?_;refine zak ?_;refine GL.q (D.CR rfl) ?_;rw[Td];refine bh ?_;refine GL.q (D.Dw rfl (mN _)) ?_;exact zdr
def Q9:GF prog 297 [y4 5,y4 a,y4 b] [] (y4 (n8 5 a b)) []:=by
 have O:=kh b;have o:=kh a
 have G:mD b%32<=31:=by omega
 have s:=fq a;refine ak func297 ntmps297 ?_;refine zb6 ?_;refine I [] s ?_;refine GL.q (D.ES (n:=mD b%32) rfl rfl) ?_;rw[show min (mD b%32) 64=mD b%32 by omega];exact zdr
theorem Ix:GF prog 341 [y4 1,y4 a,y4 b] [] (.v (.bool (jc 1 a b))) []:=by
 have e:=fq a;have d:=fq b;have w:=kW a;have m:=kW b;unfold jc;generalize bH a=x at *;generalize bH b=y at *;refine ak func341 ntmps341 ?_;refine zaI ?_
 grind[bx]
theorem Iy:GF prog 341 [y4 2,y4 a,y4 b] [] (.v (.bool (jc 2 a b))) []:=by
 have e:=fq a;have d:=fq b;have w:=kW a;have m:=kW b;unfold jc;generalize bH a=x at *;generalize bH b=y at *;refine ak func341 ntmps341 ?_;refine zaI ?_
 grind[bx]
theorem Iz:GF prog 341 [y4 3,y4 a,y4 b] [] (.v (.bool (jc 3 a b))) []:=by
 have e:=fq a;have d:=fq b;have w:=kW a;have m:=kW b;unfold jc;generalize bH a=x at *;generalize bH b=y at *;refine ak func341 ntmps341 ?_;refine zaI ?_
 grind[bx]
theorem IA:GF prog 341 [y4 5,y4 a,y4 b] [] (.v (.bool (jc 5 a b))) []:=by
 have e:=fq a;have d:=fq b;have w:=kW a;have m:=kW b;unfold jc;generalize bH a=x at *;generalize bH b=y at *;refine ak func341 ntmps341 ?_;refine zaI ?_
 grind[bx]
theorem IB:GF prog 341 [y4 7,y4 a,y4 b] [] (.v (.bool (jc 7 a b))) []:=by
 have e:=fq a;have d:=fq b;have w:=kW a;have m:=kW b;unfold jc;generalize bH a=x at *;generalize bH b=y at *;refine ak func341 ntmps341 ?_;refine zaI ?_
 grind[bx]
theorem IC:GF prog 341 [y4 9,y4 a,y4 b] [] (.v (.bool (jc 9 a b))) []:=by
 have e:=fq a;have d:=fq b;have w:=kW a;have m:=kW b;unfold jc;generalize bH a=x at *;generalize bH b=y at *;refine ak func341 ntmps341 ?_;refine zaI ?_
 grind[bx]
end
def M0(o:ah)(a:Int)(h:o=[45]\/o=[33]\/o=[126]):GF prog 228 [.v (sv o),y4 a] [] (y4 (VD o a)) []:=by
 rcases h with rfl|rfl|rfl
 ·have W:=PT 0 a;exact zd0
 ·have W:=sd (a==0);exact zd0
 ·have W:=Gh a (-1);exact zd0
def qC:List ah:=[[47],[37],[43],[45],[42],[61,61],[33,61],[60],[62],[60,61],[62,61],[38],[124],[94],[60,60],[62,62]]
def IW(o:ah)(a b:Int)(h:o∈qC):GF prog 298 [.v (sv o),y4 a,y4 b] [] (.tup [.v (ii (qB o a b).1),.v (ii (qB o a b).2)]) []:=by
 unfold qC at h;simp only[List.mem_cons,List.not_mem_nil,or_false]at h
 rcases h with rfl|rfl|rfl|rfl|rfl|rfl|rfl|rfl|rfl|rfl|rfl|rfl|rfl|rfl|rfl|rfl
 ·have W:=Te a b;exact zbi
 ·have W:=Tj a b;exact zbi
 ·have W:=VN a b;exact zbi
 ·have W:=PT a b;exact zbi
 ·have W:=VR a b;exact zbi
 ·have Q:GF _ _ _ _ (y4 0) _:=gC [[61,61],[33,61],[60],[],[62],[],[60,61],[],[62,61]] [61,61] aU;have W:=Ix a b;have z:=sd (jc 1 a b);exact zal
 ·have Q:GF _ _ _ _ (y4 1) _:=gC [[61,61],[33,61],[60],[],[62],[],[60,61],[],[62,61]] [33,61] aU;have W:=Iy a b;have z:=sd (jc 2 a b);exact zal
 ·have Q:GF _ _ _ _ (y4 2) _:=gC [[61,61],[33,61],[60],[],[62],[],[60,61],[],[62,61]] [60] aU;have W:=Iz a b;have z:=sd (jc 3 a b);exact zal
 ·have Q:GF _ _ _ _ (y4 4) _:=gC [[61,61],[33,61],[60],[],[62],[],[60,61],[],[62,61]] [62] aU;have W:=IA a b;have z:=sd (jc 5 a b);exact zal
 ·have Q:GF _ _ _ _ (y4 6) _:=gC [[61,61],[33,61],[60],[],[62],[],[60,61],[],[62,61]] [60,61] aU;have W:=IB a b;have z:=sd (jc 7 a b);exact zal
 ·have Q:GF _ _ _ _ (y4 8) _:=gC [[61,61],[33,61],[60],[],[62],[],[60,61],[],[62,61]] [62,61] aU;have W:=IC a b;have z:=sd (jc 9 a b);exact zal
 ·have Q:GF _ _ _ _ (y4 (-1)) _:=gC [[61,61],[33,61],[60],[],[62],[],[60,61],[],[62,61]] [38] aU;have Y:GF _ _ _ _ (y4 0) _:=gC [[38],[124],[94],[60,60],[62,62]] [38] aU;have W:=Q6 a b;exact zao
 ·have Q:GF _ _ _ _ (y4 (-1)) _:=gC [[61,61],[33,61],[60],[],[62],[],[60,61],[],[62,61]] [124] aU;have Y:GF _ _ _ _ (y4 1) _:=gC [[38],[124],[94],[60,60],[62,62]] [124] aU;have W:=Q7 a b;exact zao
 ·have Q:GF _ _ _ _ (y4 (-1)) _:=gC [[61,61],[33,61],[60],[],[62],[],[60,61],[],[62,61]] [94] aU;have Y:GF _ _ _ _ (y4 2) _:=gC [[38],[124],[94],[60,60],[62,62]] [94] aU;have W:=Gh a b;exact zao
 ·have Q:GF _ _ _ _ (y4 (-1)) _:=gC [[61,61],[33,61],[60],[],[62],[],[60,61],[],[62,61]] [60,60] aU;have Y:GF _ _ _ _ (y4 3) _:=gC [[38],[124],[94],[60,60],[62,62]] [60,60] aU;have W:=Q8 a b;exact zao
 ·have Q:GF _ _ _ _ (y4 (-1)) _:=gC [[61,61],[33,61],[60],[],[62],[],[60,61],[],[62,61]] [62,62] aU;have Y:GF _ _ _ _ (y4 4) _:=gC [[38],[124],[94],[60,60],[62,62]] [62,62] aU;have W:=Q9 a b;exact zao
end Go.Xg
namespace Go.Xg
open Go.RowKit Go.Xw
def BW(a:am):∀(gs b:am)(o:Nat),lO (a++b) (a.length+o) gs=a++lO b o gs
 |[],b,o=>rfl
 |g::gs,b,o=>by rw[lO,lO,yP,kA,BW a gs]
def zz:∀(gs a b:am),a.length=gs.length->lO (a++b) 0 gs=gs++b
 |[],[],b,_=>rfl
 |[],x::a,b,h=>by simp at h
 |g::gs,[],b,h=>by simp at h
 |g::gs,x::a,b,h=>by
  rw[lO,cons_append,bB];have:=BW [g] gs (a++b) 0;simp only[length_cons,length_nil,cons_append,List.nil_append,dy,Nat.add_zero]at this |-;rw[this,zz gs a b ze2]
section
variable{P:Program}{m:Nat}{ops:Array Oper}{Q:dQ}{rest:List Oper}{fr:am}{Γ:ap}{d:Option Tmp}{ty:TypeId}{pos:String}{af:Array Edge}
theorem Iu(n:Nat)(z:List Value):(List.replicate n (gT z)).flatten=zs n z:=by
 induction n with
 |zero=>rfl
 |succ n O=>grind[gT,zs]
theorem GL.XY{x:Operand}{t e k u:Nat}{z:List Value}[hT:mO P t e k u][E:n5 P t e k z]{J:Tmp}{n:Nat}(hx:bf fr x=y4 (n:Nat))(hb:n<=1099511627776/\u*n<=281474976710656)
  (h:∀a c,GL P m ops Q rest (bI fr (some J) (.v (.slice a n c))) (Γ++[.vech e k (List.replicate n (gT z)) (.slice a n c)])) :
  GL P m ops Q (⟨some J,.makeSlice t x x,ty,pos,af,none⟩::rest) fr Γ:=fun B K β w l hm Z Y=>by
 have⟨hu,⟨i,W,hi,hz,LC,S,Qj⟩,hk⟩:=hT.parts;have T:ev l x=ii (n:Nat):=Y.fE hx;obtain⟨w',hr,X,A⟩:=run_make_full (P:=P) (w:=w) 0 t e i W k hu hi hz S .i64 .i64 n ze2 zfd (bl _)
 have UB:W.cells.toList=z:=by
  have H:=E.zero;rw[hi]at H;simp only[Option.bind_some,hz,Option.some.injEq]at H;have hl:=E.zl
  by_cases M:k=1
  ·rw[ai M]at H;rw[H,E.one M];subst M
   match z,hl with
   |[a],_=>rfl
  grind[Value.cells]
 have o:(madeCells W.cells (n*k)).toList=(List.range (n*k)).map fun j=>z.getD (j%k) undef:=by
  unfold madeCells;rw[Array.toList_map,Array.toList_range]
  exact zeo
 rw[o]at X;have s:=Ak (K:=K) (β:=β) (n:=n) E.zl E.pos;rw[<-Iu]at s
 have O:gR k (List.replicate n (gT z)):=fun r hr=>by
  grind[gT,GV.pc]
 have F:Ext gx w w':=⟨A.os,A.tape,A.output,A.size,fun j hj _=>A.block j hj ze3⟩;have N:=Z.Au (x:=.slice (some ⟨w.heap.size,0,none⟩) n n) (rows:=List.replicate n (gT z)) F (by rw[List.length_replicate];exact X) (fun b hb=>by cases hb;simp) s O
 have G:(Γ++[Ob.vec e k 0 (List.replicate n (gT z))])[Γ.length]?=some (Ob.vec e k 0 (List.replicate n (gT z))):=by simp
 have⟨a,c,q,C⟩:=N.AV G;rw[bV]at q
 injection q with DO wv
 injection DO with Ll hb4 hb5
 subst Ll hb5
 have R:oset (Γ++[.vec e k 0 (List.replicate n (gT z))]) Γ.length (.vech e k (List.replicate n (gT z)) (.slice (some ⟨w.heap.size,0,none⟩) (List.replicate n (gT z)).length n))=Γ++[.vech e k (List.replicate n (gT z)) (.slice (some ⟨w.heap.size,0,none⟩) (List.replicate n (gT z)).length n)]:=by
  rw[bD];simp
 rw[R,List.length_replicate]at C;exact zba
end
def Ob.kl:Ob->Bool
 |.vech _ _ _ _=>true
 |_=>false
def fU(β:Bt)(bc:List Nat):Bt:=fun j=>match bc[j]? with
 |some i=>β i
 |none=>.no
section
variable{B:Bs}{K:Fz}{β:Bt}{Γ:ap}{w:World}
def bu.lY{K:Fz}{β fX:Bt}{vs:List Value}{gs:am}(h:bu K β vs gs)(W:∀g∈gs,g.pc=true):bu K fX vs gs:=⟨h.1,fun i v g o b=>(h.2 i v g o b).pc (W g (bN b))⟩
def gR.flat{k:Nat}{rows:List am}(h:gR k rows):∀g∈rows.flatten,g.pc=true:=fun g X=>by
 have⟨r,o,b⟩:=List.mem_flatten.1 X;exact(h r o).2 g b
theorem Inv.pick(h:Inv B K β Γ w)(O:B.m=0){bc:List Nat}{s:ap}(M:s.length=bc.length)(hn:bc.Nodup)
  (hx:∀(j:Nat)x,s[j]?=some x->x.kl=true/\∀i,bc[j]?=some i->Γ[i]?=some x):Inv B K (fU β bc) s w:=by
 have n:∀i b,(fU β bc i).has b->∃q,bc[i]?=some q/\(β q).has b:=fun i b l=>by
  grind[fU,Bk.has]
 refine⟨h.ext,h.kle,fun i=>by rw[h.loc i L];trivial,h.loc,h.fz,fun i x l=>?_,fun i l=>?_,fun i j b l Y=>?_,fun i b l=>?_,h.kn,h.tab.step (S:=gx) (Ext.refl w) (fun _ h=>h.elim) (c6.refl K) (fun i z c=>?_)⟩
 ·have⟨o,c⟩:=hx i x l;have N:=(b6 l).1;have G:bc[i]?=some (bc[i]'L):=cY _
  cases x with
  |vech E k H v =>
   have⟨X,A,T,t,F,u⟩:=h.ob _ _ (c _ G);refine⟨X,?_,T,t.lY F.flat,F,u⟩
   grind[fU]
  |_=>cases o
 ·grind[fU]
 ·have⟨q,o,c⟩:=n i b l;have⟨r,J,C⟩:=n j b Y;have:=h.dis q r b c C
  grind[List.getElem?_eq_some_iff,List.getElem_inj]
 ·have⟨q,o,c⟩:=n i b l;exact h.own q b c
 grind
def Inv.view{i E k:Nat}{rows:List am}{x:Value}(h:Inv B K β Γ w)(hi:Γ[i]?=some (.vech E k rows x)):∃O,c6 K O/\mo O w/\kH O (fun _=>.no) w/\Rel O (fun _=>.no) x (.sl k rows):=by
 have⟨S,j,v,F⟩:=h.nW hi;exact⟨S,j,F.fz,⟨F.tab.le,F.tab.pow,F.tab.spc,fun i b h=>by cases h⟩,v.pc rfl⟩
def Inv.Zd(h:Inv B K β Γ w):kH K (fun _=>.no) w:=⟨h.tab.le,h.tab.pow,h.tab.spc,fun i b h=>by cases h⟩
def Inv.new(h:mo K w)(M:kH K (fun _=>.no) w):Inv ⟨w,gx,K,fun _=>.no,0⟩ K (fun _=>.no) [] w :=
 ⟨Ext.refl w,c6.refl _,dJ.refl _,fun _ _=>rfl,h,fun i x h=>by simp at h,fun _ _=>rfl,fun i j b h=>zfa,fun i b h=>zfa,fun b o g h=>.inl h,M⟩
theorem Inv.C0{i idx o j E k T k':Nat}{rows ks:List am}{x h:Value}{r:am}(n:Inv B K β Γ w)(hi:Γ[i]?=some (.vech T k rows h))(A:rows[idx]?=some r)(H:r[o]?=some (.v x))(t:i≠j)(Y:Γ[j]?=some (.vech E k' ks x)) :
  ∃S,c6 K S/\Inv B S β (oset (oset Γ j (.vec E k' ks.length ks)) i (.vech T k (dI rows idx o (.sl k' ks)) h)) w:=by
 have⟨S,s,q,F⟩:=n.nW Y;have⟨X,u,b,G,C,l⟩:=F.ob i (.vech T k rows h) ze9;have N:=(b6 A).1
 have z:o<k:=by rw[<-(C r (bN A)).1];grind
 exact⟨S,s,F.swap ⟨X,by grind[ea],by grind[ea],by rw[rP z C N];grind[bu.bB,rN],vj rfl C,l⟩⟩
theorem Bj{rows:List am}{i o:Nat}{g:GV}{r:am}(v:rows[i]?=some r):∀q,(dI rows i o g)[q]?=if q=i then some (bB r o g)else rows[q]?:=by
 induction rows generalizing i with
 |nil=>simp at v
 |cons x rs O =>
  intro q
  cases i with
  |zero =>
   grind[dI,bB]
  |succ i =>
   grind[dI,bB]
theorem Inv.zb{T k o E k' jf N:Nat}{h:Value}{raw fin:Nat->am}{ks:Nat->List am}{hd:Nat->Value}{jp:Nat->Nat}(hI:Inv B K β Γ w){b:List am}(Z:Γ[jf]?=some (.vech T k b h))(h0:b.length=N/\∀i,i<N->b[i]?=some (raw i))
  (j:∀i,i<N->(raw i)[o]?=some (.v (hd i))/\bB (raw i) o (.sl k' (ks i))=fin i)(F:∀i,i<N->Γ[jp i]?=some (.vech E k' (ks i) (hd i)))(s:∀i,i<N->jp i≠jf)(C:∀i t,i<N->t<N->jp i=jp t->i=t) :
  ∃c bE rows,c6 K c/\Inv B c β bE w/\bE[jf]?=some (.vech T k rows h)/\rows.length=N/\(∀i,i<N->rows[i]?=some (fin i))/\∀q,q≠jf->(∀i,i<N->q≠jp i)->bE[q]?=Γ[q]?:=by
 have u:∀n,n<=N->∃c bE rows,c6 K c/\Inv B c β bE w/\bE[jf]?=some (.vech T k rows h)/\rows.length=N/\(∀i,i<n->rows[i]?=some (fin i))/\(∀i,n<=i->i<N->rows[i]?=some (raw i))/\(∀i,n<=i->i<N->bE[jp i]?=some (.vech E k' (ks i) (hd i)))/\∀q,q≠jf->(∀i,i<N->q≠jp i)->bE[q]?=Γ[q]?:=by
  intro n
  induction n with
  |zero=>grind[c6]
  |succ n ih =>
   intro hn;have⟨c,bE,rows,a1,z,l,H,J,M,O,S⟩:=ih L;have hr:=M n (a8 _) L;have⟨Y,c2⟩:=j n L;obtain⟨G,W,X⟩:=z.C0 l hr Y (fun e=>s n L e.symm) (O n (a8 _) L);have ny:=(b6 l).1;refine⟨G,_,dI rows n o (.sl k' (ks n)),a1.trans W,X,?_,by grind[ea],fun i A=>?_,fun i A r=>?_,fun i A r=>?_,fun q hq hqj=>?_⟩
   ·grind[bD]
   ·grind[Bj]
   ·grind[Bj]
   ·grind[bD]
   grind[bD]
 have⟨c,bE,rows,a1,z,l,H,J,_,_,S⟩:=u N (a8 _)
 grind
end
section
variable{P:Program}{fn:Func}{R:GV->ap->Prop}{fr:am}{Γ:ap}{e:Exit}
def P8{t:Tmp}{x:Value}(bc:List Nat)(k:ap)(z:fn.results=#[.tmp t])(o:e=.normal\/e=.ret)(hg:bx fr t=.v x)(M:k.length=bc.length)(hn:bc.Nodup)
  (hx:∀(j:Nat)x,k[j]?=some x->x.kl=true/\∀i,bc[j]?=some i->Γ[i]?=some x)(h:R (.v x) k):oZ P fn 0 R e fr Γ :=
 ⟨o,fun B K β w l N n O=>⟨nth l t,K,fU β bc,.v x,k,by rw[results_tmp z,gQ],n.pick N M hn hx,by have:=O.nth t;rw[hg]at this;rw[Rel.eE this];exact .v _,h⟩⟩
theorem Wd{t:Tmp}{T:TypeId}{k:Nat}[Z:Ty P T true k]{i:Nat}{E:TypeId}{cs:am}(bc:List Nat)(n:ap)(O:fn.results=#[.cell t T])(H:e=.normal\/e=.ret)(hg:bx fr t=.loc i 0)(s:Γ[i]?=some (.box E cs))(hk:cs.length=k)(M:lY cs=true)
  (J:n.length=bc.length)(hn:bc.Nodup)(hx:∀(j:Nat)x,n[j]?=some x->x.kl=true/\∀i,bc[j]?=some i->Γ[i]?=some x)(h:R (.agg cs) n):oZ P fn 0 R e fr Γ :=
 ⟨H,fun B K β w l C z F=>by
  have⟨b,vs,W,X,A,Y⟩:=z.ob i _ s
  have r:nth l t=.pointer (some ⟨b,0,none⟩):=by
   have:=F.nth t;rw[hg]at this;generalize nth l t=v at this
   cases this with
   |loc _ _ S G=>grind
  have N:l.toArray.getD t undef=.pointer (some ⟨b,0,none⟩):=by rw[gQ,r]
  have q:=jx (P:=P) (w:=w) (t:=T) (b:=b) (o:=0) (vs:=vs) (k:=k) L (fun j v hj=>by
   grind[World.cell?])
  have c:l[t]?.getD undef=.pointer (some ⟨b,0,none⟩):=by simp_all
  have u:bu K (fU β bc) vs cs:=A.lY (kp M)
  exact⟨.agg vs.toArray,K,fU β bc,.agg cs,n,by simp[results,O,c,asAddr,q],z.pick C J hn hx,.agg vs cs u.1 u.2,h⟩⟩
end
section
variable{P:Program}{fn:Func}{R:GV->ap->Prop}{fr:am}{Γ:ap}{e:Exit}
theorem KJ{Γ:ap}{n:Nat}(h:∀x∈Γ.drop n,x.kl=true):(Γ.drop n).length=((List.range (Γ.length-n)).map (·+n)).length/\((List.range (Γ.length-n)).map (·+n)).Nodup /\
  ∀(j:Nat)x,(Γ.drop n)[j]?=some x->x.kl=true/\∀i,((List.range (Γ.length-n)).map (·+n))[j]?=some i->Γ[i]?=some x:=by
 refine⟨by simp,?_,fun j x Y=>⟨h x (bN Y),fun i o=>?_⟩⟩
 ·unfold List.Nodup;rw[List.pairwise_map]
  exact List.nodup_range.imp fun k l=>k L
 grind
def Wb{t:Tmp}{x:Value}(n:Nat)(z:fn.results=#[.tmp t])(i:e=.normal\/e=.ret)(hg:bx fr t=.v x)(ha:∀x∈Γ.drop n,x.kl=true)(h:R (.v x) (Γ.drop n)):oZ P fn 0 R e fr Γ :=
 have T:=KJ ha
 P8 _ (Γ.drop n) z i hg T.1 T.2.1 T.2.2 h
end
section
variable{P:Program}{m:Nat}{Q:dQ}{fr:am}{Γ:ap}{ops:Array Oper}{rest:List Oper}{d:Option Tmp}{op:Op}{ty:TypeId}{pos:String}{af:Array Edge}
theorem GL.l8{t:TypeId}{x:Operand}{cs:am}(hx:lN (bf fr x)=some cs)(W:lY cs=true)(h:GL P m ops Q rest (bI fr d (.box cs 0)) Γ):GL P m ops Q (⟨d,.box t x,ty,pos,af,none⟩::rest) fr Γ:=fun B K β w l n k O=>by
 have⟨q,o,i⟩:=(O.ev x).cells hx
 refine WL.box rfl fun b Z c=>?_
 rw[o]at c;have⟨N,F⟩:=k.rH c i (kp W);exact h B _ β Z _ n F ((O.mono N (dJ.refl β)).put d (Rel.box (K:=jQ K b cs) (β:=β) b 0 0 cs (fun j g X=>by grind[jQ])))
def GL.borrow{f:FuncId}[hf:fQ P f]{args:List Operand}{T:Array TypeId}{gs:am}{v:Value}(W:GF P f gs [] (.v v) [])
  (k:∀B K β w l,Inv B K β Γ w->FR K β fr l->∃O,mo O w/\kH O (fun _=>.no) w/\bu O (fun _=>.no) (args.map (ev l)) gs)
  (h:GL P m ops Q rest (bI fr d (.v v)) Γ):GL P m ops Q (⟨d,.call ⟨.value (.func f),args.toArray,T⟩,ty,pos,af,none⟩::rest) fr Γ:=fun B K β w l j i S=>by
 have⟨O,o,b,G⟩:=k B K β w l i S
 have z:(execOp (ev l) ⟨d,.call ⟨.value (.func f),args.toArray,T⟩,ty,pos,af,none⟩).run P w=.ok (.enter f (args.map (ev l)).toArray) w:=by simp[execOp,resolve,ev,Deferred.ofValue,invoke,ou]
 refine WL.calls z (W _ O _ w _ rfl (Inv.new o b) G) ?_;rintro x Z⟨X,u,g,A,F,q,rfl,rfl⟩;exact h B K β Z _ j (i.same F.ext) (S.put d (by rw[Rel.eE q];exact .v _))
def tu{P:Program}{w:World}{t e ty:TypeId}{i:TypeInfo}(M:P.underlying t=some (.slice e))(hi:P.info? e=some i)(a b:Option Addr)(n c d:Nat)(W:n<=c) :
  (Builtin.append_ #[t,t] ty #[.slice a n c,.slice b 0 d]).run P w=.ok (.slice a n c) w:=by
 cases a<;>cases b<;>simp[Builtin.append_,run_underlying M,sizeOf,typeInfo,hi,Builtin.lenOf,W,Builtin.firstCells,loadCells,loadCellsFrom,storeCells]
theorem GL.VS{s x:Operand}{t e k u:Nat}[S:mO P t e k u](i:Nat){H:Tmp}{v:Value}{rows:List am}(hx:bf fr x=.sl k [])(Y:bf fr s=.v v)(G:Γ[i]?=some (.vech e k rows v))
  (h:GL P m ops Q rest (bI fr (some H) (.v v)) Γ):GL P m ops Q (⟨some H,.call ⟨.builtin .append,#[s,x],#[t,t]⟩,ty,pos,af,none⟩::rest) fr Γ:=fun B K β w l X J C=>by
 have⟨Z,⟨j,z,W,_⟩,_⟩:=S.parts;have⟨xs,o1,o2,_⟩:=J.ob i _ G;have E:ev l s=v:=C.fE Y;have q:=C.ev x;rw[hx]at q;generalize F:ev l x=vx at q
 obtain⟨b,A,rfl⟩:∃b A,vx=.slice b 0 A:=by
  cases q with
  |sl0 a c k=>simp
  |sl b o c _ _ hr _=>simp
 obtain⟨a,n,c,rfl,T⟩:∃a n c,v=.slice a n c/\n<=c:=by
  rcases o2.2 with⟨N,O⟩|⟨g,M,cur,N,_,_,O,_⟩
  ·grind
  grind
 have r:=tu (P:=P) (w:=w) (ty:=ty) Z W a b n c A T;exact WL.val (v:=.slice a n c) (w':=w) (by simp[execOp,resolve,invoke,builtin,E,F,r]) (h B K β w _ X J (C.put _ (.v _)))
theorem GL.VV{s x:Operand}{t e k A:Nat}[W:mO P t e k A]{i n fz:Nat}{J:Tmp}{rows:List am}(hx:bf fr x=.sl k [])(hs:bf fr s=.vec i n)(H:Γ[i]?=some (.vec e k fz rows))(hn:rows.length=n)
  (h:GL P m ops Q rest (bI fr (some J) (.vec i n)) Γ):GL P m ops Q (⟨some J,.call ⟨.builtin .append,#[s,x],#[t,t]⟩,ty,pos,af,none⟩::rest) fr Γ:=fun B K β w l Z N E=>by
 subst hn;have⟨hu,⟨j,z,Y,_⟩,_⟩:=W.parts;have⟨M,xs,o1,o2,_⟩:=N.ob i _ H;have q:=E.ev s;rw[hs]at q
 have F:ev l s=M:=by
  generalize hv:ev l s=v at q
  cases q with
  |vec _ _ a c hh =>
   grind
 have r:=E.ev x;rw[hx]at r;generalize G:ev l x=vx at r
 obtain⟨b,C,rfl⟩:∃b C,vx=.slice b 0 C:=by
  cases r with
  |sl0 a c k=>simp
  |sl b o c _ _ hr _=>simp
 obtain⟨a,n,c,rfl,X⟩:∃a n c,M=.slice a n c/\n<=c:=by
  rcases o2.2 with⟨S,T⟩|⟨g,O,cur,S,_,_,T,_⟩
  ·grind
  grind
 have u:=tu (P:=P) (w:=w) (ty:=ty) hu Y a b n c C X;exact WL.val (v:=.slice a n c) (w':=w) (by simp[execOp,resolve,invoke,builtin,F,G,u]) (h B K β w _ Z N (E.put _ ze2))
theorem Ck{Γ:ap}{i:Nat}{x:Ob}(h:Γ[i]?=some x):oset Γ i x=Γ:=by
 rw[bD];apply List.ext_getElem?
 grind
theorem GL.nb{s x:Operand}{t e k l:Nat}[A:mO P t e k l](i:Nat){n:Nat}{O:Tmp}{X:Option Addr}{j:Nat}{rows news:List am}(hx:bf fr x=.sl k news)(G:bf fr s=.v (.slice X n j))(o:Γ[i]?=some (.vech e k rows (.slice X n j)))(hn:rows.length=n)(q:iz news=true)
  (u:n+news.length<=9223372036854775807/\(n+news.length)*l<=140737488355328)
  (h:∀a c,GL P m ops Q rest (bI fr (some O) (.v (.slice a (n+news.length) c))) (oset Γ i (.vech e k (rows++news) (.slice a (n+news.length) c)))) :
  GL P m ops Q (⟨some O,.call ⟨.builtin .append,#[s,x],#[t,t]⟩,ty,pos,af,none⟩::rest) fr Γ:=by
 cases news with
 |nil =>
  have z:=h X j
  grind[Ck,GL.VS]
 |cons r rs=>exact GL.mr i hx G o hn q rfl u h
def GL.vB{s x:Operand}{t e k l:Nat}[u:mO P t e k l]{i n fz:Nat}{O:Tmp}{rows news:List am}(hx:bf fr x=.sl k news)(G:bf fr s=.vec i n)(o:Γ[i]?=some (.vec e k fz rows))(hn:rows.length=n)(q:iz news=true)
  (j:n+news.length<=9223372036854775807/\(n+news.length)*l<=140737488355328)
  (h:GL P m ops Q rest (bI fr (some O) (.vec i (n+news.length))) (oset Γ i (.vec e k fz (rows++news)))) :
  GL P m ops Q (⟨some O,.call ⟨.builtin .append,#[s,x],#[t,t]⟩,ty,pos,af,none⟩::rest) fr Γ:=by
 cases news with
 |nil =>
  rw[gL,show n+([]:List am).length=n from rfl,Ck o]at h;exact GL.VV hx G o hn h
 |cons r rs=>exact GL.app hx G o hn q rfl j h
theorem Cs:∀(us vs:List Value),vs.length=us.length->mG vs 0 us=us:=by
 have S:∀(us a vs:List Value),vs.length=us.length->mG (a++vs) a.length us=a++us:=by
  intro us
  induction us with
  |nil=>simp[mG]
  |cons u us O =>
   intro a vs h
   cases vs with
   |nil=>simp at h
   |cons v vs =>
    have M:fg (a++v::vs) a.length u=(a++[u])++vs:=by
     clear O h
     induction a with
     |nil=>rfl
     |cons x a O=>grind[fg]
    grind[mG]
 intro us vs h;exact S us [] vs h
theorem GL.A6{t:TypeId}{z:Value}{agg:Bool}{k:Nat}[hZ:oX P t z][hT:Ty P t agg k]{c ts:Tmp}{cs:am}{S:TypeId}{u:String}{E:Array Edge}{F:Option Tmp}(Qv:z.cells.size=k)(hy:lN (bx fr ts)=some cs)(Hm:Nat.beq ts c=false)(J:iy fr c=true)(hk:cs.length=k)(W:nq cs=true)(hp:lY cs=true)
  (h:GL P m ops Q rest (bI (bI fr (some c) (.box cs 0)) F (.v undef)) Γ):GL P m ops Q (⟨some c,.alloc t,ty,pos,af,none⟩::⟨F,.store t (.tmp c) (.tmp ts),S,u,E,none⟩::rest) fr Γ:=fun B K β w l Z X G=>by
 refine WL.alloc (z:=z) fun b w1 i=>?_
 have⟨A,r,s⟩:=(G.nth ts).cells hy
 have n:ts≠c:=by intro e;simp_all
 have O:ev (put l (some c) (.pointer (some ⟨b,0,none⟩))) (.tmp ts)=nth l ts:=j4 n _;have N:ev (put l (some c) (.pointer (some ⟨b,0,none⟩))) (.tmp c)=.pointer (some ⟨b,0,none⟩):=sG (nz G J) _
 have Qs:A.length=k:=by omega
 refine WL.st (t:=t) (k:=k) N O i.blk ze2 L (by rw[r];simpa using s.lf W) fun T C=>?_
 have q:setL z.cells 0 A=A.toArray:=by
  have:=uj A z.cells.toList 0
  simp_all[Cs,Array.length_toList]
 rw[r,List.toList_toArray,q]at C;have o:tK w T b (.cells A.toArray t):=⟨i.fresh,by rw[C.size];exact i.size,C.blk,i.ext.step C.ext fun j Y=>.inl (by subst Y;rw[i.fresh];simp)⟩;have⟨M,H⟩:=X.rH o s (kp hp);exact h B _ β T _ Z H (((G.mono M (dJ.refl β)).put (some c) (Rel.box (K:=jQ K b cs) (β:=β) b 0 0 cs (fun j g hg=>by grind[jQ]))).put F (.v _))
end
end Go.Xg
set_option maxHeartbeats 2000000
namespace Go.Xg
open Go.RowKit Go.Xw Go.Proofs
open Go.Xp (Nd)
open Go.Sp (Src)
attribute [local irreducible] GW GL GO D GC GA bo bn
def bs(l:List ah):List am:=l.map fun s=>[GV.v (sv s)]
def fO(l:List Int):List am:=l.map fun i=>[GV.v (ii i)]
def Hd(n:Nat)(h:Value):Prop:=∃a c,h=.slice a n c
def rp(x:Go.Sp.Fn)(h:Value):am:=[.v (sv x.name),.v h,y4 x.body]
def rn(x:Go.Sp.Fn)(h:Value):Ob:=.vech 9 1 (bs x.params) h
def db(x:Nd)(h:Value):am:=[y4 x.aj,y4 x.at_,y4 x.n,.v (sv x.s),.v h]
def eT(x:Nd)(h:Value):Ob:=.vech 3 1 (fO x.aw) h
def qm(p:Src)(hg ha hf hn:Value)(v ns:List Value):ap :=
 .vech 9 1 (bs p.au) hg::.vech 79 2 (p.aq.map bb) ha::.vech 53 3 (List.zipWith rp p.av v) hf::(List.zipWith rn p.av v++.vech 82 5 (List.zipWith db p.ae ns) hn::List.zipWith eT p.ae ns)
structure Dg(p:Src)(hg ha hf hn:Value)(fs ns:List Value):Prop where
 g:Hd p.au.length hg
 a:Hd p.aq.length ha
 f:Hd p.av.length hf
 n:Hd p.ae.length hn
 fl:fs.length=p.av.length
 nl:ns.length=p.ae.length
 fh:∀(i:Nat)x y,p.av[i]?=some x->fs[i]?=some y->Hd x.params.length y
 nh:∀(i:Nat)x y,p.ae[i]?=some x->ns[i]?=some y->Hd x.aw.length y
def q9{R:Type}{f:R->Value->Ob}(hf:∀a h,(f a h).kl=true){l:List R}{G:List Value}:∀x∈List.zipWith f l G,x.kl=true:=fun x hx=>by
 have⟨i,j⟩:=List.getElem?_of_mem hx;rw[List.getElem?_zipWith]at j;split at j
 ·cases j;exact hf _ _
 ·cases j
def EY(p:Src)(hg ha hf hn:Value)(v ns:List Value):∀x∈qm p hg ha hf hn v ns,x.kl=true:=fun x hx=>by
 unfold qm at hx
 rcases lp hx with rfl|hx
 ·rfl
 rcases lp hx with rfl|hx
 ·rfl
 rcases lp hx with rfl|hx
 ·rfl
 rcases pG hx with hx|hx
 ·exact zed
 rcases lp hx with rfl|hx
 ·rfl
 ·exact zed
end Go.Xg
set_option maxHeartbeats 1000000
namespace Go.Xg
open Go.RowKit Go.Xw Go.Proofs Tryz Go.Sp
open GV (U)
attribute [local irreducible] GW GL GO D GC GA bo bn
def V6(p:Src)(W:p.ae.length<=1000000000000)(Q:∀n∈p.ae,n.aw.length<=1000000000000):∀(f a d:Nat)(e:Int),d<=801->oS p.ae f a d=some e->GF prog 201 [.agg (aB p),y4 (a:Nat),y4 (d:Nat)] [] (y4 e) []:=by
 intro f
 induction f using Nat.strongRecOn with
 |_ f R =>
 intro a d e T h
 cases f with
 |zero=>simp[oS]at h
 |succ f =>
 rw[oS]at h;refine dj func201 ntmps201 ?_
 by_cases o:p.ae.length<=a
 ·rw[ai (.inl o)]at h;cases h
  have C:decide (((p.ae.map aR).length:Int)<=(a:Int))=true:=by simpa using o
  exact aK
 have C:decide (((p.ae.map aR).length:Int)<=(a:Int))=false:=by simpa using o
 by_cases b:d>800
 ·rw[ai (.inr b)]at h;cases h
  have l:decide ((800:Int)<(d:Int))=true:=by simpa using by omega
  exact aK
 have l:decide ((800:Int)<(d:Int))=false:=by simpa using by omega
 rw[ab L]at h
 cases c:p.ae[a]? with
 |none=>rw[c]at h;cases h
 |some n =>
 rw[c]at h;simp only at h;have E:=cq c;have q:=Q n (bN c);refine V ?_
 refine GW.range (n.aw.map fun i=>[GV.v (ii i)]).length (fun k J z=>∃nx g,J=[U,y4 (a:Nat),y4 (d:Nat),.loc 0 0,U,U,U,y4 nx,U,U,U,U,U,U,U,U,U,U,U,U,U,U,U,U,U,U,ints n.aw,y4 ((n.aw.map fun i=>[GV.v (ii i)]).length:Int),y4 (k:Nat),U,U,U,U,U,U,U,U,U,U,U,U,U,U,U] /\
   z=[.box 28 (aB p)]/\0<=nx/\g<=f/\oR p.ae g (n.aw.drop k) nx d=some e) ?_ (by simp;omega) ?_ ?_ ?_
 ·exact⟨_,_,Wk.a6 aC,_,f,rfl,rfl,by omega,a8 _,h⟩
 ·rintro k _ _⟨_,_,rfl,rfl,_⟩;exact dS
 ·rintro k _ _ N⟨nx,g,rfl,rfl,O,X,h⟩
  have N:k<n.aw.length:=by simpa using N
  have hx:n.aw[k]?=some n.aw[k]:=by simp[N]
  rw[lz N]at h;generalize n.aw[k]=x at *;have t:=gE hx
  cases g with
  |zero=>simp[oR]at h
  |succ g =>
  rw[oR]at h
  by_cases j:x=nx
  ·subst j;rw[ai rfl]at h
   have m:(x != x)=false:=by simp
   cases r:oS p.ae g x.toNat (d+1)with
   |none=>rw[r]at h;cases h
   |some y =>
   rw[r]at h;simp only at h;have A:=R g L x.toNat (d+1) y L r;rw[Int.toNat_of_nonneg O]at A
   by_cases B:y<0
   ·rw[ai B]at h;cases h
    have w:decide (y<(0:Int))=true:=by simpa using B
    refine V ?_;refine I [] A ?_;exact az
   ·rw[ab B]at h
    have w:decide (y<(0:Int))=false:=by simpa using B
    refine V ?_;refine I [] A ?_;exact⟨rfl,rfl,_,_,Wk.a6 aC,_,g,rfl,rfl,by omega,by omega,h⟩
  ·rw[ab j]at h;cases h
   have m:(x != nx)=true:=by simpa using j
   exact aK
 ·rintro _ _⟨nx,g,rfl,rfl,O,X,h⟩;rw[bS,drop_length]at h
  have u:nx=e:=by cases g<;>(rw[oR]at h;cases h;rfl)
  subst u;exact aK
end Go.Xg
