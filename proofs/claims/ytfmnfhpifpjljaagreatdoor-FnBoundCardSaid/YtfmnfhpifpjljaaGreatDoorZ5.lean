/- Part 5 of proofs that are told in their last texts. -/
import Derived.Test.YtfmnfhpifpjljaaGreatDoorZ4
import Derived.Test.YtfmnfhpifpjljaaGreatDoorProg
import Derived.Test.YtfmnfhpifpjljaaGreatDoorZ2
import Derived.Lib.SmallJoins
import Derived.Lib.LaidU8
import Derived.Shelf.Vars
import Derived.Lib.Builder
import Derived.Lib.UnsafeStr
open List (cons_append ext_getElem flatten_cons getD_eq_getElem?_getD getElem_mem length_append length_cons length_nil mem_cons_self)
set_option linter.unusedVariables false
set_option linter.unusedSimpArgs false
set_option linter.defProp false
set_option maxRecDepth 100000
namespace Go.Xg
open Go.RowKit Go.Xw
structure Hid(B:Prop):Prop where
 h:B
structure qR(be:List Nat)(C:Prop):Prop where
 h:C
section
variable{P:Program}{m:Nat}{ops:Array Oper}{Q:dU}{rest:List Oper}{fr:am}{Γ:ap}{d:Option Tmp}{ty:TypeId}{pos:String}{af:Array Edge}
def GL.r7{f:FuncId}{be:List Nat}{args:List Operand}{Hk:Array TypeId}{gs:am}{yo Sj:ap}{g:GV}(hc:qR be (GF P f gs yo g Sj))(ha:ku (args.map (a8 fr)) (mP (cS be Γ.length) gs))(sE:kj be Γ.length=true)
  (vG:seen (cS be Γ.length) Γ be yo)(hl:Nat.ble be.length Sj.length=true)(h:GL P m ops Q rest (bN fr d (eJ (cS be Γ.length) g)) (fB Γ be (Sj.map (Ob.eJ (cS be Γ.length)))))(hf:rf P f=true:=by first|exact eI.ok (self:=by assumption)|kernel_rfl) :
  GL P m ops Q (⟨d,.call ⟨.value (.func f),args.toArray,Hk⟩,ty,pos,af,none⟩::rest) fr Γ:=haveI:eI P f:=⟨hf⟩;GL.Sv be hc.h ha sE vG hl h
def GL.E5{f:FuncId}{be:List Nat}{args:List Operand}{Hk:Array TypeId}{gs:am}{yo:ap}{R:GV->ap->Prop}(hc:qR be (GC P f gs yo R))(ha:ku (args.map (a8 fr)) (mP (cS be Γ.length) gs))(sE:kj be Γ.length=true)
  (vG:seen (cS be Γ.length) Γ be yo)(h:∀g bE,R g bE->be.length<=bE.length/\GL P m ops Q rest (bN fr d (eJ (cS be Γ.length) g)) (fB Γ be (bE.map (Ob.eJ (cS be Γ.length)))))(hf:rf P f=true:=by first|exact eI.ok (self:=by assumption)|kernel_rfl) :
  GL P m ops Q (⟨d,.call ⟨.value (.func f),args.toArray,Hk⟩,ty,pos,af,none⟩::rest) fr Γ:=haveI:eI P f:=⟨hf⟩;GL.K8 be hc.h ha sE vG h
def GL.MT{f:FuncId}{be:List Nat}{x:Operand}{first cap:am}{args:List Operand}{Hk:Array TypeId}{gs:am}{yo:ap}{R:GV->ap->Prop}(hc:qR be (GC P f gs yo R))(hx:a8 fr x=.fn (.func f) first cap)(ha:first++args.map (a8 fr)++cap=mP (cS be Γ.length) gs)(sE:kj be Γ.length=true)
  (vG:seen (cS be Γ.length) Γ be yo)(h:∀g bE,R g bE->be.length<=bE.length/\GL P m ops Q rest (bN fr d (eJ (cS be Γ.length) g)) (fB Γ be (bE.map (Ob.eJ (cS be Γ.length)))))(hf:rf P f=true:=by first|exact eI.ok (self:=by assumption)|kernel_rfl) :
  GL P m ops Q (⟨d,.call ⟨.value x,args.toArray,Hk⟩,ty,pos,af,none⟩::rest) fr Γ:=haveI:eI P f:=⟨hf⟩;GL.oO be hc.h hx ha sE vG h
def GL.MS{f:FuncId}{be:List Nat}{x:Operand}{args:List Operand}{Hk:Array TypeId}{gs:am}{yo:ap}{R:GV->ap->Prop}(hc:qR be (GC P f gs yo R))(hx:a8 fr x=.v (.func (.func f) #[] #[]))(ha:args.map (a8 fr)=mP (cS be Γ.length) gs)(sE:kj be Γ.length=true)
  (vG:seen (cS be Γ.length) Γ be yo)(h:∀g bE,R g bE->be.length<=bE.length/\GL P m ops Q rest (bN fr d (eJ (cS be Γ.length) g)) (fB Γ be (bE.map (Ob.eJ (cS be Γ.length)))))(hf:rf P f=true:=by first|exact eI.ok (self:=by assumption)|kernel_rfl) :
  GL P m ops Q (⟨d,.call ⟨.value x,args.toArray,Hk⟩,ty,pos,af,none⟩::rest) fr Γ:=haveI:eI P f:=⟨hf⟩;GL.Y0 be hc.h hx ha sE vG h
end
section
variable{A:Prop}
def aV(s:A:=by first|omega|assumption|(simp only[List.length_append,List.length_cons,List.length_nil];omega)):A:=s
def aO(s:A:=by first|rfl|assumption):A:=s
def gP(s:A:=by apply K.len;first|exact YG.Zv rfl|exact YG.Rh rfl|exact YG.abd rfl|exact YG.abe rfl|exact YG.lenA rfl):A:=s
def c8(s:A:=by first|exact .inr rfl|exact .inl rfl):A:=s
def gw(s:A:=by apply K.ld;first|exact YG.ldL rfl rfl aO|exact YG.Rc rfl rfl rfl rfl|exact YG.ldV rfl rfl aO aO aO|exact YG.ldH rfl rfl aO aO aO):A:=s
def PK(s:A:=by apply K.ld;first|exact YG.ldL rfl rfl aO|exact YG.XB rfl aO|exact YG.Rc rfl rfl rfl rfl|exact YG.XC rfl rfl rfl|exact YG.ldV rfl rfl aO aO aO|exact YG.ldH rfl rfl aO aO aO):A:=s
def fp(s:A:=by apply K.nck;first|exact YG.abl rfl|exact YG.LJ rfl):A:=s
def fD(s:A:=by apply K.pick;first|exact YG.Tt rfl aO|exact YG.Ts rfl aO):A:=s
def aY(s:A:=by assumption):A:=s
def fE(s:A:=by omega):A:=s
def BB(s:A:=by apply K.bin;first|exact YG.go rfl|exact YG.j0 rfl rfl fE|exact YG.jj rfl rfl|exact YG.jt rfl rfl|exact YG.nI rfl rfl|exact YG.nO rfl rfl|exact YG.cat rfl rfl fE|exact YG.cat rfl rfl (by simp only[List.length_append,List.length_cons,List.length_nil];omega)|exact YG.da rfl rfl fE|exact YG.add rfl rfl fE|exact YG.sub rfl rfl fE|exact YG.mul rfl rfl fE|exact YG.lj rfl rfl fE|exact YG.quo rfl rfl fE|exact YG.rem rfl rfl fE|exact YG.iy rfl rfl):A:=s
def BC(s:A:=by apply K.oI;first|exact YG.lh rfl rfl rfl fE|exact YG.lg rfl rfl fE|exact YG.lf rfl rfl fE|exact YG.gL 1 rfl rfl rfl aO):A:=s
def TH(s:A:=by apply K.idx;first|exact YG.idxV rfl rfl rfl aO fE|exact YG.ba 0 rfl rfl rfl aV|exact YG.ba 1 rfl rfl rfl aV|exact YG.ba 2 rfl rfl rfl aV|exact YG.ba 3 rfl rfl rfl aV|exact YG.ba 4 rfl rfl rfl aV|exact YG.ba 5 rfl rfl rfl aV|exact YG.ba 6 rfl rfl rfl aV):A:=s
def TI(s:A:=by apply K.idx;first|exact YG.ig rfl rfl aY|exact YG.cz rfl rfl aY rfl|exact YG.cz rfl rfl aY fE|exact YG.jM rfl rfl fE|exact YG.idxV rfl rfl rfl aO fE|exact YG.ba 0 rfl rfl rfl aV|exact YG.ba 1 rfl rfl rfl aV|exact YG.ba 2 rfl rfl rfl aV|exact YG.ba 3 rfl rfl rfl aV|exact YG.ba 4 rfl rfl rfl aV|exact YG.ba 5 rfl rfl rfl aV|exact YG.ba 6 rfl rfl rfl aV):A:=s
def yn(s:A:=by first|rfl|exact IntWalk.i64_in _ fE|exact IntWalk.u8_in _ fE|assumption):A:=s
def Hp(s:A:=by apply K.idx;first|exact YG.ig rfl rfl aY|exact YG.cz rfl rfl aY rfl|exact YG.cz rfl rfl aY fE|exact YG.jM rfl rfl fE):A:=s
def fF(s:A:=by apply K.Cp;first|exact YG.mkfn0|exact YG.Cp):A:=s
def fO(s:A:=by apply K.ld;first|exact YG.XB rfl aO|exact YG.XC rfl rfl rfl):A:=s
def PM(s:A:=by apply K.Wx;first|exact YG.WA rfl|exact YG.Wy rfl|exact YG.fldV rfl rfl aO|exact YG.Wz rfl rfl aO):A:=s
def Ma(s:A:=by first|exact YG.mv|exact YG.lB|exact BB|exact PM|exact PK|exact gP|exact fp|exact fD|exact TI|exact YG.ext rfl rfl|exact YG.go rfl|exact BC|exact YG.jn rfl rfl aY|exact YG.idxSC rfl rfl aY rfl|exact fF|exact YG.build rfl|exact YG.neg rfl fE|exact YG.jk rfl rfl|exact YG.mD rfl yn|exact YG.str rfl aO):A:=s
def fP(s:A:=by apply K.Wx;first|exact YG.WA rfl|exact YG.Wy rfl):A:=s
def gx(s:A:=by apply K.Wx;first|exact YG.fldV rfl rfl aO|exact YG.Wz rfl rfl aO):A:=s
def TG(s:A:=by first|exact gw|exact TH|exact gx|exact YG.gq 1 rfl rfl aO aO|exact YG.mv|exact YG.lB|exact BB|exact fP|exact fO|exact gP|exact fp|exact fD|exact Hp|exact YG.ext rfl rfl|exact YG.go rfl|exact BC|exact YG.jn rfl rfl aY|exact YG.idxSC rfl rfl aY rfl|exact fF|exact YG.build rfl|exact YG.neg rfl fE|exact YG.jk rfl rfl|exact YG.mD rfl yn|exact YG.str rfl aO):A:=s
def PL(s:A:=by first|exact gw|exact TH|exact gx|exact YG.gq 1 rfl rfl aO aO):A:=s
end
section
variable{A B:Prop}
def jK(s:A:=by repeat (first|exact dr.n|(apply dr.w;(· decide +kernel))|(apply dr.y;(· first|(apply YQ.t;(· exact rfl);(· exact rfl);(· exact TG))|(apply YQ.t;(· exact rfl);(· apply pR;(· exact rfl);(· first|exact rfl|assumption));(· exact TG))|(apply YQ.f;(· exact rfl);(· apply qA;(· exact rfl);(· first|exact rfl|assumption))))))):A:=s
def di(s:A:=by(try simp only[zU,bN,bU,a8,cJ,List.length_cons,List.length_nil,Nat.reduceAdd,eJ,mP,cS]);rfl):A:=s
def ec(s:A:=by(try simp only[List.cons_append,List.nil_append,oset,pI,bU,cJ,a8,fB,List.map_cons,List.map_nil,Ob.eJ,eJ,mP,cS]);rfl):A:=s
def sX(s:A:=by simp only[zU,bN,bU,a8,cJ];rfl):A:=s
def pO(s:A:=by first|exact ku.refl|(repeat (first|exact ku.nil|exact lA.refl|exact lA.nil|exact lA.U|exact lA.fn0|refine ku.cons ?_ ?_|refine lA.agg ?_))):A:=s
def nS(s:A:=by first|exact trivial|exact⟨rfl,trivial⟩|exact⟨rfl,rfl,trivial⟩|exact⟨rfl,rfl,rfl,trivial⟩|exact⟨rfl,rfl,rfl,rfl,rfl,trivial⟩):A:=s
def Z(h:B)(s:Hid B->A:=by intro hQ;(repeat (first|((first|(apply GL.q;(· exact Ma))|refine GL.nil ?_|refine bl ?_|refine GW.seq ?_|refine GW.region ?_|refine GW.skip ?_|refine jm ?_|refine GW.block ?_|(apply GL.gt;(· exact rfl);(· first|exact rfl|assumption))|(apply GL.gf;(· exact rfl);(· first|exact rfl|assumption))|(apply GL.gu;(· exact rfl))|(apply Mr;(· exact rfl);(· first|exact rfl|assumption))|(apply Mq;(· exact rfl);(· first|exact rfl|assumption)));try refine GN sX ?_)|((first|(apply GL.alloc;(· simp only[gB,Value.cells,List.map_cons,List.map_nil];rfl))|(apply GL.box;(· exact rfl))|(apply GL.st;(· exact rfl);(· exact rfl);(· exact rfl);(· exact rfl);(· exact rfl);(· exact rfl)));refine rV di ec ?_)));exact hQ.1):A:=s ⟨h⟩
def av(h:B)(s:Hid B->A:=by intro hQ;(repeat ((first|(apply OPm;(· exact rfl))|(apply OPa;(· exact rfl))|(apply OP;(· exact rfl);(· intro Γ;(first|exact BB|exact fP|exact fO|exact gP|exact fp|exact Hp|exact YG.ext rfl rfl|exact YG.go rfl|exact BC|exact YG.jn rfl rfl aY|exact YG.idxSC rfl rfl aY rfl|exact fF|exact YG.build rfl|exact YG.neg rfl fE|exact YG.jk rfl rfl|exact YG.mD rfl yn|exact YG.str rfl aO)))|(apply aac;(· exact rfl);(· exact rfl);(· first|exact rfl|assumption))|(apply aab;(· exact rfl);(· exact rfl);(· first|exact rfl|assumption))|(apply aad;(· exact rfl);(· exact rfl);(· first|exact rfl|assumption))|(apply OQ;(· exact rfl);(· exact PL))|(apply Z3;(· exact rfl);(· exact rfl);(· first|exact rfl|assumption);(· intro Γ;(first|exact YG.mv|exact YG.lB|exact BB|exact fP|exact fO|exact gP|exact fp|exact fD|exact Hp|exact YG.ext rfl rfl|exact YG.go rfl|exact BC|exact YG.jn rfl rfl aY|exact YG.idxSC rfl rfl aY rfl|exact fF|exact YG.build rfl|exact YG.neg rfl fE|exact YG.jk rfl rfl|exact YG.mD rfl yn|exact YG.str rfl aO)))|(apply OQt;(· exact rfl);(· exact rfl);(· first|exact rfl|assumption);(· exact PL))|(apply ONf;(· exact rfl);(· exact rfl);(· first|exact rfl|assumption))|(apply ONu;(· exact rfl);(· exact rfl))|(apply OAf;(· exact rfl);(· exact rfl);(· first|exact rfl|assumption);(· exact jK))|(apply OAu;(· exact rfl);(· exact rfl);(· exact jK))|refine GO.nil ?_|(apply OA;(· exact rfl);(· exact rfl);apply GL.alloc;(· simp only[gB,Value.cells,List.map_cons,List.map_nil];rfl);refine GL.nil (bl (dP.mk jK ?_));refine jY di ec ?_)|(apply OA;(· exact rfl);(· exact rfl);apply GL.st;(· exact rfl);(· exact rfl);(· exact rfl);(· exact rfl);(· exact rfl);(· exact rfl);refine GL.nil (bl (dP.mk jK ?_));refine jY di ec ?_)|(apply OA;(· exact rfl);(· exact rfl);apply GL.box;(· exact rfl);refine GL.nil (bl (dP.mk jK ?_));refine jY di ec ?_));try refine Z2 sX ?_));exact hQ.1):A:=s ⟨h⟩
def jB(h:B)(s:Hid B->A:=by intro hQ;(repeat (first|((first|(apply GL.q;(· (first|exact YG.mv|exact YG.lB|exact BB|exact PM|exact PK|exact gP|exact fp|exact fD|exact TI|exact YG.ext rfl rfl|exact YG.go rfl|exact BC|exact YG.jn rfl rfl aY|exact YG.idxSC rfl rfl aY rfl|fail|exact YG.build rfl|exact YG.neg rfl fE|exact YG.jk rfl rfl|exact YG.mD rfl yn|exact YG.str rfl aO)))|refine GL.nil ?_|refine bl ?_|refine GW.seq ?_|refine GW.region ?_|refine GW.skip ?_|refine jm ?_|refine GW.block ?_|(apply GL.gt;(· exact rfl);(· first|exact rfl|assumption))|(apply GL.gf;(· exact rfl);(· first|exact rfl|assumption))|(apply GL.gu;(· exact rfl))|(apply Mr;(· exact rfl);(· first|exact rfl|assumption))|(apply Mq;(· exact rfl);(· first|exact rfl|assumption)));try refine GN sX ?_)|((first|(apply GL.alloc;(· simp only[gB,Value.cells,List.map_cons,List.map_nil];rfl))|(apply GL.box;(· exact rfl))|(apply GL.st;(· exact rfl);(· exact rfl);(· exact rfl);(· exact rfl);(· exact rfl);(· exact rfl)));refine rV di ec ?_)));exact hQ.1):A:=s ⟨h⟩
def CQ(h:B)(s:Hid B->A:=by intro hQ;(repeat (first|((first|(apply GL.q;(· exact Ma))|refine GL.nil ?_|refine bl ?_|refine GW.seq ?_|refine GW.region ?_|refine GW.skip ?_|refine jm ?_|(apply GL.gt;(· exact rfl);(· first|exact rfl|assumption))|(apply GL.gf;(· exact rfl);(· first|exact rfl|assumption))|(apply GL.gu;(· exact rfl))|(apply Mr;(· exact rfl);(· first|exact rfl|assumption))|(apply Mq;(· exact rfl);(· first|exact rfl|assumption)));try refine GN sX ?_)|((first|(apply GL.alloc;(· simp only[gB,Value.cells,List.map_cons,List.map_nil];rfl))|(apply GL.box;(· exact rfl))|(apply GL.st;(· exact rfl);(· exact rfl);(· exact rfl);(· exact rfl);(· exact rfl);(· exact rfl)));refine rV di ec ?_)));exact hQ.1):A:=s ⟨h⟩
def bm(h:B)(s:Hid B->A:=by intro hQ;(try refine GN sX ?_);exact hQ.1):A:=s ⟨h⟩
def lx(h:B)(s:Hid B->A:=by intro hQ;(try refine Z2 sX ?_);exact hQ.1):A:=s ⟨h⟩
def ct(h:B)(s:Hid B->A:=by intro hQ;(refine rV di ec ?_);exact hQ.1):A:=s ⟨h⟩
def PI(h:B)(s:Hid B->A:=by intro hQ;(refine jY di ec ?_);exact hQ.1):A:=s ⟨h⟩
def jA(h:B)(s:Hid B->A:=by intro hQ;((repeat (first|refine GW.exit ?_|refine FF ?_|refine Jg ?_|refine Uz rfl ?_|refine jm ?_|refine bl ?_)));exact hQ.1):A:=s ⟨h⟩
def cb(h:B)(s:Hid B->A:=by intro hQ;((repeat (first|refine GW.ret ?_|refine kX ?_|refine kW ?_|refine bl ?_|refine jm ?_));refine kD rfl c8 rfl (Nat.le_refl _) rfl rfl ?_);exact hQ.1):A:=s ⟨h⟩
def dz(h:B)(s:Hid B->A:=by intro hQ;((repeat (first|refine GW.ret ?_|refine kX ?_|refine kW ?_|refine bl ?_|refine jm ?_));refine WE rfl c8 (Nat.le_refl _) rfl ?_);exact hQ.1):A:=s ⟨h⟩
def yY(h:B)(s:Hid B->A:=by intro hQ;((repeat (first|refine GW.ret ?_|refine kX ?_|refine kW ?_|refine bl ?_|refine jm ?_));refine WG rfl c8 rfl rfl (Nat.le_refl _) rfl rfl ?_);exact hQ.1):A:=s ⟨h⟩
def CO(h:B)(s:Hid B->A:=by intro hQ;((repeat (first|refine GW.ret ?_|refine kX ?_|refine kW ?_|refine bl ?_|refine jm ?_));refine WH rfl c8 rfl rfl rfl (Nat.le_refl _) rfl rfl ?_);exact hQ.1):A:=s ⟨h⟩
def mn(h:B)(s:Hid B->A:=by intro hQ;((repeat (first|refine GW.ret ?_|refine kX ?_|refine kW ?_|refine bl ?_|refine jm ?_));refine AN ?_;refine WH rfl c8 rfl rfl rfl (Nat.le_refl _) rfl rfl ?_);exact hQ.1):A:=s ⟨h⟩
def Ho(h:B)(s:Hid B->A:=by intro hQ;((repeat (first|refine GW.ret ?_|refine kX ?_|refine kW ?_|refine bl ?_|refine jm ?_));refine AN ?_;refine WG rfl c8 rfl rfl (Nat.le_refl _) rfl rfl ?_);exact hQ.1):A:=s ⟨h⟩
def p6(h:B)(s:Hid B->A:=by intro hQ;((repeat (first|refine GW.ret ?_|refine kX ?_|refine kW ?_|refine bl ?_|refine jm ?_));refine AN ?_;refine WI rfl c8 rfl rfl rfl (Nat.le_refl _) rfl rfl ?_);exact hQ.1):A:=s ⟨h⟩
def p8(h:B)(s:Hid B->A:=by intro hQ;((repeat (first|refine GW.ret ?_|refine kX ?_|refine kW ?_|refine bl ?_|refine jm ?_));refine Ze rfl c8 rfl rfl rfl rfl (Nat.le_refl _) rfl rfl ?_);exact hQ.1):A:=s ⟨h⟩
def nj(h:B)(s:Hid B->A:=by intro hQ;((repeat (first|refine GW.ret ?_|refine kX ?_|refine kW ?_|refine bl ?_|refine jm ?_));refine NH rfl c8 rfl rfl rfl rfl rfl (Nat.le_refl _) rfl rfl ?_);exact hQ.1):A:=s ⟨h⟩
def BA(h:B)(s:Hid B->A:=by intro hQ;((repeat (first|refine GW.ret ?_|refine kX ?_|refine kW ?_|refine bl ?_|refine jm ?_));refine AN ?_;refine NH rfl c8 rfl rfl rfl rfl rfl (Nat.le_refl _) rfl rfl ?_);exact hQ.1):A:=s ⟨h⟩
def fJ(h:B)(s:Hid B->A:=by intro hQ;((repeat (first|refine GW.ret ?_|refine kX ?_|refine kW ?_|refine bl ?_|refine jm ?_));refine WI rfl c8 rfl rfl rfl (Nat.le_refl _) rfl rfl ?_);exact hQ.1):A:=s ⟨h⟩
def bL(h:B)(s:Hid B->A:=by intro hQ;(refine GL.XM rfl rfl rfl rfl ?_;refine rV di ec ?_);exact hQ.1):A:=s ⟨h⟩
def nR(h:B)(s:Hid B->A:=by intro hQ;(refine GL.Tk rfl rfl rfl rfl ?_;refine rV di ec ?_);exact hQ.1):A:=s ⟨h⟩
def fH(h:B)(s:Hid B->A:=by intro hQ;(refine GL.push rfl rfl rfl rfl rfl rfl rfl rfl aO ⟨⟨by omega,by omega⟩,by decide⟩ ?_;refine rV di ec ?_);exact hQ.1):A:=s ⟨h⟩
def CN(h:B)(s:Hid B->A:=by intro hQ;(refine OA rfl rfl (GL.Tk rfl rfl rfl rfl (GL.nil (bl (dP.mk jK ?_))));refine jY di ec ?_);exact hQ.1):A:=s ⟨h⟩
def yX(h:B)(s:Hid B->A:=by intro hQ;(refine OA rfl rfl (GL.app rfl rfl rfl aO rfl rfl (by refine⟨?_,?_⟩;(· show _+1<=_;omega);(· show(_+1)*_<=_;omega)) (GL.nil (bl (dP.mk jK ?_))));refine jY di ec ?_);exact hQ.1):A:=s ⟨h⟩
def dn(h:B)(s:Hid B->A:=by intro hQ;(refine OA rfl rfl (GL.XM rfl rfl rfl rfl (GL.nil (bl (dP.mk jK ?_))));refine jY di ec ?_);exact hQ.1):A:=s ⟨h⟩
def Hm(h:B)(s:Hid B->A:=by intro hQ;(refine OA rfl rfl (GL.st rfl rfl rfl rfl rfl rfl (GL.nil (bl (dP.mk jK ?_))));refine jY di ec ?_);exact hQ.1):A:=s ⟨h⟩
def L9(h:B)(s:Hid B->A:=by intro hQ;(refine OA rfl rfl (GL.PD 1 (by kernel_rfl) (by kernel_rfl) rfl rfl rfl rfl aY fE (GL.nil (bl (dP.mk jK ?_))));refine jY di ec ?_);exact hQ.1):A:=s ⟨h⟩
def wq(h:B)(s:Hid B->A:=by intro hQ;(refine GL.xw rfl rfl rfl aO rfl rfl rfl rfl ?_;refine rV di ec ?_);exact hQ.1):A:=s ⟨h⟩
def bI(h:B)(s:Hid B->A:=by intro hQ;(refine⟨by simp,?_⟩;refine rV di ec ?_);exact hQ.1):A:=s ⟨h⟩
def cW(h:B)(s:Hid B->A:=by intro hQ;(refine GL.nil (bl (dP.mk jK ?_));refine jY di ec ?_);exact hQ.1):A:=s ⟨h⟩
def o8(s:A:=by simp only[bj,vy];rfl):A:=s
def iz(s:A:=by first|exact ku.refl|exact lA.refl|(repeat (first|exact ku.nil|exact lA.refl|exact lA.nil|exact lA.U|exact lA.fn0|refine ku.cons ?_ ?_|refine lA.agg ?_|refine lA.tup ?_))):A:=s
def az(s:A:=by repeat (first|exact tB.nil|refine tB.U ?_|refine tB.eq rfl ?_)):A:=s
end
section
variable{A B C:Prop}(be:List Nat)
def jS(c:C)(h:B)(s:qR be C->Hid B->A:=by intro hC hQ;(refine GL.r7 hC pO rfl nS rfl ?_;refine rV di ec ?_);exact hQ.1):A:=s ⟨c⟩ ⟨h⟩
def I(c:C)(h:B)(s:qR be C->Hid B->A:=by intro hC hQ;(refine GL.r7 hC pO rfl nS rfl ?_;refine rV di ec ?_);refine Z ?_;exact hQ.1):A:=s ⟨c⟩ ⟨h⟩
def ml(c:C)(h:B)(s:qR be C->Hid B->A:=by intro hC hQ;(refine OA rfl rfl (GL.r7 hC pO rfl nS rfl (GL.nil (bl (dP.mk jK ?_))));refine jY di ec ?_);exact hQ.1):A:=s ⟨c⟩ ⟨h⟩
def aJ(c:C)(h:B)(s:qR be C->Hid B->A:=by intro hC hQ;(refine OA rfl rfl (GL.r7 hC pO rfl nS rfl (GL.nil (bl (dP.mk jK ?_))));refine jY di ec ?_);refine av ?_;exact hQ.1):A:=s ⟨c⟩ ⟨h⟩
def aaa(c:C)(h:B)(s:qR be C->Hid B->A:=by intro hC hQ;(refine Sl rfl rfl rfl (by first|exact rfl|assumption) (GL.r7 hC pO rfl nS rfl (GL.nil (bl (dP.mk jK ?_))));refine jY di ec ?_);exact hQ.1):A:=s ⟨c⟩ ⟨h⟩
def cj(c:C)(h:B)(s:qR be C->Hid B->A:=by intro hC hQ;(refine Sl rfl rfl rfl (by first|exact rfl|assumption) (GL.r7 hC pO rfl nS rfl (GL.nil (bl (dP.mk jK ?_))));refine jY di ec ?_);refine av ?_;exact hQ.1):A:=s ⟨c⟩ ⟨h⟩
def jT(c:C)(h:B)(s:qR be C->Hid B->A:=by intro hC hQ;(refine GL.MS hC rfl rfl rfl nS ?_;rintro _ _⟨rfl,rfl⟩;refine⟨by simp,?_⟩;refine rV di ec ?_);exact hQ.1):A:=s ⟨c⟩ ⟨h⟩
def ll(c:C)(h:B)(s:qR be C->Hid B->A:=by intro hC hQ;(refine GL.MT hC rfl rfl rfl nS ?_;rintro _ _⟨rfl,rfl⟩;refine⟨by simp,?_⟩;refine rV di ec ?_);exact hQ.1):A:=s ⟨c⟩ ⟨h⟩
def ym(c:C)(h:B)(s:qR be C->Hid B->A:=by intro hC hQ;(refine OA rfl rfl (GL.MS hC rfl rfl rfl nS ?_);rintro _ _⟨rfl,rfl⟩;refine⟨by simp,(GL.nil (bl (dP.mk jK ?_)))⟩;refine jY di ec ?_);exact hQ.1):A:=s ⟨c⟩ ⟨h⟩
def oJ(c:C)(h:B)(s:qR be C->Hid B->A:=by intro hC hQ;(refine OA rfl rfl (GL.MT hC rfl rfl rfl nS ?_);rintro _ _⟨rfl,rfl⟩;refine⟨by simp,(GL.nil (bl (dP.mk jK ?_)))⟩;refine jY di ec ?_);exact hQ.1):A:=s ⟨c⟩ ⟨h⟩
def bx(c:C)(h:B)(s:qR be C->Hid B->A:=by intro hC hQ;(refine GL.E5 hC pO rfl nS ?_);exact hQ.1):A:=s ⟨c⟩ ⟨h⟩
end
def dT{A B C ab8:Prop}(f:C)(n:ab8)(h:B)(s:C->ab8->Hid B->A:=by intro hC hD hQ;refine GC.enter hC hD rfl (by simp only[vD,FE,Nat.reduceSub];rfl) ?_;exact hQ.1):A:=s f n ⟨h⟩
def aj{A B C ab8:Prop}(f:C)(n:ab8)(h:B)(s:C->ab8->Hid B->A:=by intro hC hD hQ;refine GC.enter hC hD rfl (by simp only[vD,FE,Nat.reduceSub];rfl) ?_;refine Z ?_;exact hQ.1):A:=s f n ⟨h⟩
section
variable{A:Prop}
def aw(s:A:=by refine cb ?_;exact⟨rfl,rfl⟩):A:=s
def aB(s:A:=by refine Z ?_;refine cb ?_;exact⟨rfl,rfl⟩):A:=s
def ia(s:A:=by refine dz ?_;exact⟨rfl,rfl⟩):A:=s
def dj(s:A:=by refine Z ?_;refine dz ?_;exact⟨rfl,rfl⟩):A:=s
def dE(s:A:=by refine yY ?_;exact⟨rfl,rfl⟩):A:=s
def nC(s:A:=by refine Z ?_;refine yY ?_;exact⟨rfl,rfl⟩):A:=s
def fo(s:A:=by refine fJ ?_;exact⟨rfl,rfl⟩):A:=s
def pZ(s:A:=by refine Z ?_;refine fJ ?_;exact⟨rfl,rfl⟩):A:=s
def aL(s:A:=by kernel_rfl):A:=s
def X(s:A:=by omega):A:=s
end
def iY{A B:Prop}(h:B)(s:Hid B->A:=by intro hQ;(repeat (first|refine GW.ret ?_|refine kX ?_|refine kW ?_|refine bl ?_|refine jm ?_));exact hQ.1):A:=s ⟨h⟩
section
variable{A:Prop}
def ab4(s:A:=by first|rfl|assumption):A:=s
def iI(s:A:=by rintro k _ _⟨rfl,rfl,_⟩;exact⟨rfl,rfl,rfl⟩):A:=s
def jw(s:A:=by exact⟨_,_,Wk.aW az,rfl,rfl⟩):A:=s
def kz(s:A:=by exact⟨_,_,Wk.aW az,rfl,rfl,rfl⟩):A:=s
def iV(s:A:=by refine Z ?_;exact⟨_,_,Wk.aW az,rfl,rfl⟩):A:=s
def dN(s:A:=by exact⟨rfl,rfl,rfl⟩):A:=s
end
def bp{A B:Prop}(h:B)(s:Hid B->A:=by intro hQ;refine av ?_;refine Z ?_;exact hQ.1):A:=s ⟨h⟩
def dZ{A B:Prop}(h:B)(s:Hid B->A:=by intro hQ;refine Z ?_;refine jA ?_;exact hQ.1):A:=s ⟨h⟩
def ke{A:Prop}(s:A:=by exact⟨⟨by omega,by omega⟩,by decide⟩):A:=s
def aN{A:Prop}(s:A:=by decide):A:=s
def aK:Nat->Nat->Ot->Ot
 |_,0,r=>r
 |s,n+1,r=>.q s (aK (s+1) n r)
def abr:List Nat->Ot->Ot
 |[],r=>r
 |i::l,r=>.q i (abr l r)
def aS{P:Program}{m id:Nat}{ol:List Oper}{Q:dU}{fr:am}{Γ:ap}(ord:Ot)(h:GO P ol.toArray (Q .normal) ord [] fr Γ)(hm:P.follows .mixedOrders=true:=by kernel_rfl)(sE:(Region.noSelect ol.toArray&&(ord.len==ol.length)&&tX ol.toArray ord (Array.replicate ol.toArray.size false))=true:=by kernel_rfl):GW P m (.region id ol.toArray true) Q fr Γ:=GW.draw ord hm sE h
end Go.Xg
namespace Go.Xw
open Go.Proofs Tryz
open Go.Xg (aL)
instance:eI prog 58:=⟨aL⟩
instance:eI prog 61:=⟨aL⟩
instance:eI prog 67:=⟨aL⟩
instance:eI prog 95:=⟨aL⟩
instance:eI prog 96:=⟨aL⟩
instance:eI prog 109:=⟨aL⟩
instance:eI prog 112:=⟨aL⟩
instance:eI prog 114:=⟨aL⟩
instance:eI prog 115:=⟨aL⟩
instance:eI prog 126:=⟨aL⟩
instance:eI prog 127:=⟨aL⟩
instance:eI prog 136:=⟨aL⟩
instance:eI prog 137:=⟨aL⟩
instance:eI prog 139:=⟨aL⟩
instance:eI prog 153:=⟨aL⟩
instance:eI prog 160:=⟨aL⟩
instance:eI prog 163:=⟨aL⟩
instance:eI prog 175:=⟨aL⟩
instance:eI prog 181:=⟨aL⟩
instance:eI prog 211:=⟨aL⟩
instance:eI prog 216:=⟨aL⟩
instance:eI prog 218:=⟨aL⟩
instance:eI prog 238:=⟨aL⟩
instance:eI prog 242:=⟨aL⟩
instance:eI prog 285:=⟨aL⟩
instance:Ty prog 3 false 1:=⟨aL,aL⟩
instance:ps prog 3 (.int .i64 (0)):=⟨aL⟩
instance:Go.Xg.np prog 3 .i64:=⟨aL⟩
instance:Ty prog 4 false 1:=⟨aL,aL⟩
instance:ps prog 4 (.bool false):=⟨aL⟩
instance:Ty prog 5 false 1:=⟨aL,aL⟩
instance:Go.Xg.np prog 5 .u8:=⟨aL⟩
instance:Ty prog 9 false 1:=⟨aL,aL⟩
instance:qp prog 9:=⟨aL⟩
instance:Go.Xg.np prog 21 .i32:=⟨aL⟩
instance:Ty prog 22 false 1:=⟨aL,aL⟩
instance:Go.Xg.Mf prog 22:=Go.Xg.Mf.mk' (e:=5) (aL) (aL)
instance:lN prog 22 5 1:=⟨aL,aL⟩
instance:og prog 22 5 1 [(.int .u8 (0))]:=⟨aL,aL,aL,rfl,by decide,fun _=>rfl⟩
instance:Ty prog 23 false 1:=⟨aL,aL⟩
instance:ps prog 23 (.slice none 0 0):=⟨aL⟩
instance:lN prog 23 9 1:=⟨aL,aL⟩
instance:nF prog 23 9 1 16:=⟨aL⟩
instance:og prog 23 9 1 [(.string ⟨#[]⟩)]:=⟨aL,aL,aL,rfl,by decide,fun _=>rfl⟩
instance:Ty prog 24 false 1:=⟨aL,aL⟩
instance:lN prog 24 79 2:=⟨aL,aL⟩
instance:nF prog 24 79 2 24:=⟨aL⟩
instance:og prog 24 79 2 [(.string ⟨#[]⟩),(.int .i64 (0))]:=⟨aL,aL,aL,rfl,by decide,fun h=>by cases h⟩
instance:Ty prog 25 false 1:=⟨aL,aL⟩
instance:lN prog 25 53 3:=⟨aL,aL⟩
instance:nF prog 25 53 3 48:=⟨aL⟩
instance:og prog 25 53 3 [(.string ⟨#[]⟩),(.slice none 0 0),(.int .i64 (0))]:=⟨aL,aL,aL,rfl,by decide,fun h=>by cases h⟩
instance:Ty prog 26 false 1:=⟨aL,aL⟩
instance:lN prog 26 82 5:=⟨aL,aL⟩
instance:nF prog 26 82 5 64:=⟨aL⟩
instance:og prog 26 82 5 [(.int .i64 (0)),(.int .i64 (0)),(.int .i64 (0)),(.string ⟨#[]⟩),(.slice none 0 0)]:=⟨aL,aL,aL,rfl,by decide,fun h=>by cases h⟩
instance:Ty prog 28 true 4:=⟨aL,aL⟩
instance:ps prog 28 (.agg #[(.slice none 0 0),(.slice none 0 0),(.slice none 0 0),(.slice none 0 0)]):=⟨aL⟩
instance:dV prog 28 0 0 1 false:=⟨aL⟩
instance:dV prog 28 1 1 1 false:=⟨aL⟩
instance:dV prog 28 2 2 1 false:=⟨aL⟩
instance:dV prog 28 3 3 1 false:=⟨aL⟩
instance:qS prog 28 [(0,1),(1,1),(2,1),(3,1)] [(.slice none 0 0),(.slice none 0 0),(.slice none 0 0),(.slice none 0 0)]:=⟨aL,aL⟩
instance:Ty prog 29 false 1:=⟨aL,aL⟩
instance:ps prog 29 (.slice none 0 0):=⟨aL⟩
instance:lN prog 29 3 1:=⟨aL,aL⟩
instance:nF prog 29 3 1 8:=⟨aL⟩
instance:og prog 29 3 1 [(.int .i64 (0))]:=⟨aL,aL,aL,rfl,by decide,fun _=>rfl⟩
instance:Ty prog 33 true 6:=⟨aL,aL⟩
instance:ps prog 33 (.agg #[(.int .i64 (0)),(.int .i64 (0)),(.int .i64 (0)),(.slice none 0 0),(.int .i64 (0)),(.slice none 0 0)]):=⟨aL⟩
instance:dV prog 33 0 0 1 false:=⟨aL⟩
instance:dV prog 33 1 1 1 false:=⟨aL⟩
instance:dV prog 33 2 2 1 false:=⟨aL⟩
instance:dV prog 33 3 3 1 false:=⟨aL⟩
instance:dV prog 33 4 4 1 false:=⟨aL⟩
instance:dV prog 33 5 5 1 false:=⟨aL⟩
instance:Ty prog 53 true 3:=⟨aL,aL⟩
instance:ps prog 53 (.agg #[(.string ⟨#[]⟩),(.slice none 0 0),(.int .i64 (0))]):=⟨aL⟩
instance:dV prog 53 0 0 1 false:=⟨aL⟩
instance:dV prog 53 1 1 1 false:=⟨aL⟩
instance:dV prog 53 2 2 1 false:=⟨aL⟩
instance:qS prog 53 [(0,1),(1,1),(2,1)] [(.string ⟨#[]⟩),(.slice none 0 0),(.int .i64 (0))]:=⟨aL,aL⟩
instance:Ty prog 62 false 1:=⟨aL,aL⟩
instance:lN prog 62 29 1:=⟨aL,aL⟩
instance:nF prog 62 29 1 24:=⟨aL⟩
instance:og prog 62 29 1 [(.slice none 0 0)]:=⟨aL,aL,aL,rfl,by decide,fun _=>rfl⟩
instance:dV prog 64 0 0 4 true:=⟨aL⟩
instance:dV prog 64 1 4 1 false:=⟨aL⟩
instance:dV prog 64 2 5 1 false:=⟨aL⟩
instance:dV prog 64 3 6 1 false:=⟨aL⟩
instance:dV prog 64 4 7 6 true:=⟨aL⟩
instance:dV prog 64 5 13 1 false:=⟨aL⟩
instance:dV prog 64 6 14 1 false:=⟨aL⟩
instance:qS prog 64 [(0,4),(4,1),(5,1),(6,1),(7,6),(13,1),(14,1)] [(.slice none 0 0),(.slice none 0 0),(.slice none 0 0),(.slice none 0 0),(.slice none 0 0),(.slice none 0 0),(.int .i64 (0)),(.int .i64 (0)),(.int .i64 (0)),(.int .i64 (0)),(.slice none 0 0),(.int .i64 (0)),(.slice none 0 0),(.slice none 0 0),(.int .i64 (0))]:=⟨aL,aL⟩
instance:Ty prog 79 true 2:=⟨aL,aL⟩
instance:ps prog 79 (.agg #[(.string ⟨#[]⟩),(.int .i64 (0))]):=⟨aL⟩
instance:dV prog 79 0 0 1 false:=⟨aL⟩
instance:dV prog 79 1 1 1 false:=⟨aL⟩
instance:qS prog 79 [(0,1),(1,1)] [(.string ⟨#[]⟩),(.int .i64 (0))]:=⟨aL,aL⟩
instance:Ty prog 82 true 5:=⟨aL,aL⟩
instance:ps prog 82 (.agg #[(.int .i64 (0)),(.int .i64 (0)),(.int .i64 (0)),(.string ⟨#[]⟩),(.slice none 0 0)]):=⟨aL⟩
instance:dV prog 82 0 0 1 false:=⟨aL⟩
instance:dV prog 82 1 1 1 false:=⟨aL⟩
instance:dV prog 82 2 2 1 false:=⟨aL⟩
instance:dV prog 82 3 3 1 false:=⟨aL⟩
instance:dV prog 82 4 4 1 false:=⟨aL⟩
instance:qS prog 82 [(0,1),(1,1),(2,1),(3,1),(4,1)] [(.int .i64 (0)),(.int .i64 (0)),(.int .i64 (0)),(.string ⟨#[]⟩),(.slice none 0 0)]:=⟨aL,aL⟩
instance:Ty prog 83 false 1:=⟨aL,aL⟩
instance:Ty prog 87 false 1:=⟨aL,aL⟩
instance:lN prog 87 89 6:=⟨aL,aL⟩
instance:nF prog 87 89 6 88:=⟨aL⟩
instance:og prog 87 89 6 [(.int .i64 (0)),(.int .i64 (0)),(.int .i64 (0)),(.string ⟨#[]⟩),(.slice none 0 0),(.slice none 0 0)]:=⟨aL,aL,aL,rfl,by decide,fun h=>by cases h⟩
instance:Ty prog 89 true 6:=⟨aL,aL⟩
instance:ps prog 89 (.agg #[(.int .i64 (0)),(.int .i64 (0)),(.int .i64 (0)),(.string ⟨#[]⟩),(.slice none 0 0),(.slice none 0 0)]):=⟨aL⟩
instance:dV prog 89 0 0 5 true:=⟨aL⟩
instance:dV prog 89 1 5 1 false:=⟨aL⟩
instance:qS prog 89 [(0,5),(5,1)] [(.int .i64 (0)),(.int .i64 (0)),(.int .i64 (0)),(.string ⟨#[]⟩),(.slice none 0 0),(.slice none 0 0)]:=⟨aL,aL⟩
instance:Ty prog 97 false 1:=⟨aL,aL⟩
instance:lN prog 97 132 1:=⟨aL,aL⟩
instance:nF prog 97 132 1 8:=⟨aL⟩
instance:og prog 97 132 1 [(.pointer none)]:=⟨aL,aL,aL,rfl,by decide,fun _=>rfl⟩
instance:Ty prog 113 false 1:=⟨aL,aL⟩
instance:dV prog 115 0 0 1 false:=⟨aL⟩
instance:dV prog 115 1 1 1 false:=⟨aL⟩
instance:dV prog 115 2 2 1 false:=⟨aL⟩
instance:qS prog 115 [(0,1),(1,1),(2,1)] [(.slice none 0 0),(.int .i64 (0)),(.int .i64 (0))]:=⟨aL,aL⟩
instance:Ty prog 127 false 1:=⟨aL,aL⟩
instance:ps prog 127 .nilFunc:=⟨aL⟩
instance:Ty prog 132 false 1:=⟨aL,aL⟩
instance:Ty prog 135 false 1:=⟨aL,aL⟩
instance:Ty prog 136 false 1:=⟨aL,aL⟩
instance:Ty prog 137 false 1:=⟨aL,aL⟩
instance:lN prog 137 205 4:=⟨aL,aL⟩
instance:nF prog 137 205 4 40:=⟨aL⟩
instance:og prog 137 205 4 [(.int .i64 (0)),(.int .i64 (0)),(.string ⟨#[]⟩),(.int .i64 (0))]:=⟨aL,aL,aL,rfl,by decide,fun h=>by cases h⟩
instance:dV prog 155 0 0 4 true:=⟨aL⟩
instance:dV prog 155 1 4 1 false:=⟨aL⟩
instance:dV prog 155 2 5 1 false:=⟨aL⟩
instance:dV prog 155 3 6 1 false:=⟨aL⟩
instance:qS prog 155 [(0,4),(4,1),(5,1),(6,1)] [(.slice none 0 0),(.slice none 0 0),(.slice none 0 0),(.slice none 0 0),(.slice none 0 0),(.int .i64 (0)),(.int .i64 (0))]:=⟨aL,aL⟩
instance:Ty prog 167 false 1:=⟨aL,aL⟩
instance:dV prog 169 0 0 4 true:=⟨aL⟩
instance:dV prog 169 1 4 1 false:=⟨aL⟩
instance:dV prog 169 2 5 1 false:=⟨aL⟩
instance:qS prog 169 [(0,4),(4,1),(5,1)] [(.slice none 0 0),(.slice none 0 0),(.slice none 0 0),(.slice none 0 0),.nilFunc,(.map none)]:=⟨aL,aL⟩
instance:dV prog 172 0 0 1 false:=⟨aL⟩
instance:dV prog 172 1 1 1 false:=⟨aL⟩
instance:dV prog 172 2 2 1 false:=⟨aL⟩
instance:dV prog 172 3 3 1 false:=⟨aL⟩
instance:dV prog 172 4 4 1 false:=⟨aL⟩
instance:qS prog 172 [(0,1),(1,1),(2,1),(3,1),(4,1)] [(.slice none 0 0),(.int .i64 (0)),(.int .i64 (0)),(.int .i64 (0)),(.int .i64 (0))]:=⟨aL,aL⟩
instance:dV prog 181 0 0 1 false:=⟨aL⟩
instance:dV prog 181 1 1 1 false:=⟨aL⟩
instance:dV prog 181 2 2 1 false:=⟨aL⟩
instance:qS prog 181 [(0,1),(1,1),(2,1)] [(.slice none 0 0),(.bool false),(.int .i64 (0))]:=⟨aL,aL⟩
instance:dV prog 191 0 0 5 true:=⟨aL⟩
instance:dV prog 191 1 5 1 false:=⟨aL⟩
instance:qS prog 191 [(0,5),(5,1)] [(.int .i64 (0)),(.int .i64 (0)),(.int .i64 (0)),(.string ⟨#[]⟩),(.slice none 0 0),(.slice none 0 0)]:=⟨aL,aL⟩
instance:Ty prog 194 true 2:=⟨aL,aL⟩
instance:ps prog 194 (.agg #[.nilFunc,.nilFunc]):=⟨aL⟩
instance:dV prog 194 0 0 1 false:=⟨aL⟩
instance:dV prog 194 1 1 1 false:=⟨aL⟩
instance:qS prog 194 [(0,1),(1,1)] [.nilFunc,.nilFunc]:=⟨aL,aL⟩
instance:Ty prog 205 true 4:=⟨aL,aL⟩
instance:ps prog 205 (.agg #[(.int .i64 (0)),(.int .i64 (0)),(.string ⟨#[]⟩),(.int .i64 (0))]):=⟨aL⟩
instance:dV prog 205 0 0 1 false:=⟨aL⟩
instance:dV prog 205 1 1 1 false:=⟨aL⟩
instance:dV prog 205 2 2 1 false:=⟨aL⟩
instance:dV prog 205 3 3 1 false:=⟨aL⟩
instance:qS prog 205 [(0,1),(1,1),(2,1),(3,1)] [(.int .i64 (0)),(.int .i64 (0)),(.string ⟨#[]⟩),(.int .i64 (0))]:=⟨aL,aL⟩
instance:dV prog 210 0 0 1 false:=⟨aL⟩
instance:dV prog 210 1 1 1 false:=⟨aL⟩
instance:dV prog 210 2 2 1 false:=⟨aL⟩
instance:dV prog 210 3 3 1 false:=⟨aL⟩
instance:dV prog 210 4 4 1 false:=⟨aL⟩
instance:dV prog 210 5 5 1 false:=⟨aL⟩
instance:dV prog 210 6 6 4 true:=⟨aL⟩
instance:qS prog 210 [(0,1),(1,1),(2,1),(3,1),(4,1),(5,1),(6,4)] [(.slice none 0 0),(.int .i64 (0)),(.int .i64 (0)),(.int .i64 (0)),(.int .i64 (0)),(.slice none 0 0),(.slice none 0 0),(.slice none 0 0),(.slice none 0 0),(.slice none 0 0)]:=⟨aL,aL⟩
instance:lN prog 232 23 1:=⟨aL,aL⟩
instance:og prog 232 23 1 [(.slice none 0 0)]:=⟨aL,aL,aL,rfl,by decide,fun _=>rfl⟩
instance:Ty prog 244 false 1:=⟨aL,aL⟩
instance:ps prog 246 (.agg #[(.pointer none),(.slice none 0 0)]):=⟨aL⟩
instance:dV prog 246 0 0 1 false:=⟨aL⟩
instance:dV prog 246 1 1 1 false:=⟨aL⟩
instance:Go.Xg.np prog 269 .u32:=⟨aL⟩
end Go.Xw
set_option maxHeartbeats 1000000
namespace Go.Xg
open Go.RowKit Go.Xw Go.Proofs Tryz Go.Sp
open Go.Xp (Tok dS)
attribute [local irreducible] GW GL GO YG GC GA bh bn
def dd(t:Tok):am:=[y4 t.ab,y4 t.n,.v (sv t.s),y4 t.at_]
def Qc(t:Tok):GF prog 222 [.agg (dd t)] [] (.v (sv (dS t))) []:=by
 refine aj func222 ntmps222 ?_;refine GW.cond rfl (fun h=>?_) (fun h=>?_)
 ·refine zdI ?_
  have h:t.ab≠3:=by simpa using h
  rw[dS,D h];exact zak
 ·refine zdI ?_
  have h:t.ab=3:=by simpa using h
  rw[dS,ae h];exact zak
abbrev hE(l:List Tok):GV:=.sl 4 (l.map dd)
abbrev b7(p:RS):Ob:=.box 172 [hE p.l,y4 p.i,y4 p.e,y4 p.code,y4 p.at_]
def kT{l:List Tok}{i:Nat}{t:Tok}(h:l[i]?=some t):(l.map dd)[i]?=some (dd t):=by rw[bO,h];rfl
def jX(p:RS)(A:p.ok):GF prog 172 [.loc 0 0] [b7 p] (y4 p.place) [b7 p]:=by
 have⟨q,d⟩:=A
 cases o:p.l[p.i]? with
 |some t =>
  have r:=kT o;have M:p.i<p.l.length:=(bR o).1
  have F:decide ((p.i:Int)<((p.l.map dd).length:Int))=true:=by simpa using M
  refine aj func172 ntmps172 ?_;refine zaL ?_;refine aS (aK 0 12 .nil) ?_;refine bp ?_;refine cb ?_;rw[RS.place,o];exact zak
 |none =>
  have M:p.l.length<=p.i:=nE o
  have F:decide ((p.i:Int)<((p.l.map dd).length:Int))=false:=by simpa using M
  refine aj func172 ntmps172 ?_;refine zaL ?_;refine cb ?_;rw[RS.place,o];exact zak
open GV (U)
def dq(p:RS)(k:Nat)(A:p.ok)(s:k<=1):GF prog 168 [.loc 0 0,y4 k] [b7 p] (.v (sv (p.aE k))) [b7 p]:=by
 have⟨r,d⟩:=A
 by_cases m:p.code=0
 ·have n:(p.code != 0)=false:=by simpa using m
  cases o:p.l[p.i+k]? with
  |some t =>
   have u:=kT o;have M:p.i+k<p.l.length:=(bR o).1
   have F:decide (((p.l.map dd).length:Int)<=((p.i+k:Nat):Int))=false:=by simp;omega
   refine aj func168 ntmps168 ?_;refine aS (aK 0 19 .nil) ?_;refine bp ?_;refine aS (aK 0 12 (.a 12 (.q 13 .nil))) ?_;refine av ?_;refine aJ [] (Qc t) ?_;refine zdI ?_;rw[RS.aE,ae m,o];exact zak
  |none =>
   have M:p.l.length<=p.i+k:=nE o
   have F:decide (((p.l.map dd).length:Int)<=((p.i+k:Nat):Int))=true:=by simp;omega
   refine aj func168 ntmps168 ?_;refine aS (aK 0 19 .nil) ?_;refine bp ?_;refine cb ?_;rw[RS.aE,ae m,o];exact zak
 ·have n:(p.code != 0)=true:=by simpa using m
  refine aj func168 ntmps168 ?_;refine aS (aK 0 19 .nil) ?_;refine bp ?_;refine cb ?_;rw[RS.aE,D m];exact zak
def j4(p:RS)(c a:Int):GF prog 171 [.loc 0 0,y4 c,y4 a] [b7 p] (.tup []) [b7 (p.fail c a)]:=by
 refine aj func171 ntmps171 ?_;refine GW.cond rfl (fun h=>?_) (fun h=>?_)
 ·refine Z ?_;refine dz ?_
  have h:p.code=0:=by simpa using h
  rw[RS.fail,ae h];exact zak
 ·refine Z ?_;refine dz ?_
  have h:¬p.code=0:=by simpa using h
  rw[RS.fail,D h];exact zak
def cZ(p:RS)(s:ai)(A:p.ok)(r:s≠[]):GF prog 223 [.loc 0 0,.v (sv s)] [b7 p] (.tup []) [b7 (p.a6 s)]:=by
 refine aj func223 ntmps223 ?_;refine jS [0] (dq p 0 A aN) ?_
 by_cases h:p.aE 0=s
 ·have L:(!(p.aE 0==s))=false:=by simp[h]
  have T:=(dG h r).1;have⟨q,d⟩:=A;refine Z ?_;refine dz ?_;rw[RS.a6,ae h];exact zak
 ·have L:(!(p.aE 0==s))=true:=by simpa using h
  refine Z ?_;refine I [0] (jX p A) ?_;refine I [0] (j4 p 7 p.place) ?_;refine dz ?_;rw[RS.a6,D h];exact zak
open Go.Xp (T one levels)
def uJ(p:RS)(d:Nat)(A:p.ok):GF prog 262 [.loc 0 0,y4 d] [b7 p] (.tup []) [b7 (p.aX d)]:=by
 by_cases h:d>60
 ·have L:decide ((60:Int)<(d:Int))=true:=by simp;omega
  refine aj func262 ntmps262 ?_;refine I [0] (jX p A) ?_;refine I [0] (j4 p 9 p.place) ?_;refine dz ?_;rw[RS.aX,ae h];exact zak
 ·have L:decide ((60:Int)<(d:Int))=false:=by simp;omega
  refine aj func262 ntmps262 ?_;refine dz ?_;rw[RS.aX,D h];exact zak
def oA(p:RS)(B:p.ok):GF prog 224 [.loc 0 0] [b7 p] (.v (sv p.name.1)) [b7 p.name.2]:=by
 have⟨r,d⟩:=id B
 by_cases k:p.code=0
 ·have n:(p.code != 0)=false:=by simpa using k
  cases o:p.l[p.i]? with
  |some t =>
   have u:=kT o;have M:p.i<p.l.length:=(bR o).1
   have F:decide (((p.l.map dd).length:Int)<=(p.i:Int))=false:=by simp;omega
   by_cases m:t.ab=2
   ·have A:(t.ab != 2)=false:=by simpa using m
    by_cases q:t.s.length>12
    ·have C:decide ((12:Int)<(t.s.length:Int))=true:=by simp;omega
     refine aj func224 ntmps224 ?_;refine aS (aK 0 24 .nil) ?_;refine bp ?_;refine zcC ?_;refine I [0] (j4 p 8 t.at_) ?_;refine cb ?_;rw[RS.name,ae k,o];simp only[ae m,ae q];exact zak
    ·have C:decide ((12:Int)<(t.s.length:Int))=false:=by simp;omega
     refine aj func224 ntmps224 ?_;refine aS (aK 0 24 .nil) ?_;refine bp ?_;refine zcC ?_;refine cb ?_;rw[RS.name,ae k,o];simp only[ae m,D q];exact zak
   ·have A:(t.ab != 2)=true:=by simpa using m
    refine aj func224 ntmps224 ?_;refine zcW ?_;simp only[D m];exact zak
  |none =>
   have M:p.l.length<=p.i:=nE o
   have F:decide (((p.l.map dd).length:Int)<=(p.i:Int))=true:=by simp;omega
   refine aj func224 ntmps224 ?_;refine zcW ?_;exact zak
 ·have n:(p.code != 0)=true:=by simpa using k
  refine aj func224 ntmps224 ?_;refine cb ?_;rw[RS.name,D k];exact zak
abbrev ints(l:List Int):GV:=.sl 1 (l.map fun i=>[y4 i])
abbrev strs(l:List ai):GV:=.sl 1 (l.map fun s=>[.v (sv s)])
mutual
def Wq:T->am
 |.mk n k=>[.v (ii n.ab),.v (ii n.at_),.v (ii n.n),.v (sv n.s),ints n.au,.sl 6 (bj k)]
def bj:List T->List am
 |[]=>[]
 |t::r=>Wq t::bj r
end
abbrev cT(t:T):am:=[y4 t.n.ab,y4 t.n.at_,y4 t.n.n,.v (sv t.n.s),ints t.n.au,.sl 6 (bj t.au)]
def vy(t:T):Wq t=cT t:=by
 cases t;rfl
def iF(k a:Int)(s:ai)(l:List T)(rows:List am)(h:bj l=rows):GF prog 263 [y4 k,y4 a,.v (sv s),.sl 6 rows] [] (.agg (cT (one k a s l))) []:=by
 subst h;refine aj func263 ntmps263 ?_;exact zeE
def jW:GF prog 225 [] [] (.sl 1 (levels.map fun l=>[strs l])) []:=by
 refine aj func225 ntmps225 ?_
 iterate 10 (refine bL ?_)
 exact aB
def Ei{xs:List ai}{k:Nat}{s x:ai}(h:xs[k]?=some x):(xs.take (k+1)).contains s=((xs.take k).contains s ||(x==s)):=by
 rw[dc,h,List.contains_append];show(_ ||[x].contains s)=_
 congr 1
 exact zdC
def kv(xs:List ai)(s:ai)(T:xs.length<=1099511627776):GF prog 58 [strs xs,.v (sv s)] [] (.v (.bool (xs.contains s))) []:=by
 refine aj func58 ntmps58 ?_;refine GW.range (xs.map fun s=>[GV.v (sv s)]).length (fun k z W=>z=[strs xs,.v (sv s),U,U,U,U,U,strs xs,y4 ((xs.map fun s=>[GV.v (sv s)]).length:Int),y4 k,U,U,U,U,U,U,U]/\W=[]/\(xs.take k).contains s=false) ?_ zfk ?_ ?_ ?_
 ·exact kz
 ·exact iI
 ·rintro k _ _ M⟨rfl,rfl,l⟩
  have M:k<xs.length:=by simpa using M
  have hx:xs[k]?=some xs[k]:=by simp[M]
  have r:(xs.map fun s=>[GV.v (sv s)])[k]?=some [.v (sv xs[k])]:=by simp[M]
  have Q:=Ei (s:=s) hx;refine Z ?_;refine GW.cond rfl (fun w=>?_) (fun w=>?_)
  ·refine zdI ?_
   have A:xs[k]=s:=by simpa using w
   have:s∈xs:=by rw[<-A];exact getElem_mem _
   refine⟨?_,rfl⟩;show GV.v (.bool true)=_;rw[l9.2 this]
  ·refine Z ?_;exact⟨rfl,rfl,_,_,Wk.aW az,rfl,rfl,by rw[Q,l,w];rfl⟩
 ·rintro _ _⟨rfl,rfl,l⟩;refine zdI ?_
  have l:xs.contains s=false:=by simpa using l
  refine⟨?_,rfl⟩;show GV.v (.bool false)=_;rw[l]
end Go.Xg
namespace Go.Xg
open Go.RowKit Go.Xw
section
variable{P:Program}{m:Nat}{Q:dU}{fr:am}{Γ:ap}
theorem GW.A2{c y:Code}{B:Nat}(K:am->ap->Prop)(M:GW P m c (bn B (bh (zc m K) Q)) fr Γ)(v:∀fr Γ,K fr Γ->GW P m y Q fr Γ):GW P m c (bn B (bh (GW P m y Q) Q)) fr Γ:=by
 refine M.mono fun e fr Γ o=>?_
 have d:∀fr Γ,zc m K fr Γ->GW P m y Q fr Γ:=fun fr Γ ⟨C,w,S,k⟩=>GW.wk S (v _ _ k)
 cases e with
 |normal=>exact d _ _ o
 |exit n =>
  grind[bn,bh,GW]
 |_=>exact o
end
section
variable{P:Program}{fn:Func}{m:Nat}{R:GV->ap->Prop}{fr:am}{Γ:ap}{e:Exit}
theorem Ze{n:Nat}{t u:Tmp}{T:TypeId}{k:Nat}[hT:Ty P T true k]{i:Nat}{E:TypeId}{cs:am}{g:GV}(O:fn.results=#[.cell t T,.tmp u])(J:e=.normal\/e=.ret)(hg:cJ fr t=.loc i 0)(s:Γ[i]?=some (.box E cs))(hk:cs.length=k)(d:cJ fr u=g)
  (hm:m<=n)(L:sH n (Γ.take n)=true)(q:(GV.tup [.agg cs,g]).lt n=true)(h:R (.tup [.agg cs,g]) (Γ.take n)):tN P fn m R e fr Γ :=
 ⟨J,fun B K G w l hB C A=>by
  have⟨b,vs,V,W,z,h4⟩:=C.ob i _ s
  have M:nth l t=.pointer (some ⟨b,0,none⟩):=by
   have:=A.nth t;rw[hg]at this;generalize nth l t=v at this
   cases this with
   |loc _ _ S H=>grind
  have N:l.toArray.getD t undef=.pointer (some ⟨b,0,none⟩):=by rw[jI,M]
  have r:=mQ (P:=P) (w:=w) (t:=T) (b:=b) (o:=0) (vs:=vs) (k:=k) X (fun j v hj=>by
   grind[World.cell?])
  have c:l[t]?.getD undef=.pointer (some ⟨b,0,none⟩):=by simp_all
  refine⟨.tuple #[.agg vs.toArray,nth l u],K,dv (below n) G,.tup [.agg cs,g],Γ.take n,?_,C.cut X L,?_,h⟩
  ·rw[<-jI l u];simp[results,O,c,asAddr,r]
  ·refine Rel.res ?_ q;subst d;have F:bA K G [.agg vs.toArray,nth l u] [.agg cs,cJ fr u]:=.cons (.agg vs cs z.1 z.2) (.cons (A.nth u) .nil)
   exact .tup _ _ F.1 F.2⟩
theorem NH{n:Nat}{t u s:Tmp}{T:TypeId}{k:Nat}[hT:Ty P T true k]{i:Nat}{E:TypeId}{cs:am}{g d:GV}(W:fn.results=#[.cell t T,.tmp u,.tmp s])(N:e=.normal\/e=.ret)(hg:cJ fr t=.loc i 0)(F:Γ[i]?=some (.box E cs))(hk:cs.length=k)(r:cJ fr u=g)(z:cJ fr s=d)
  (hm:m<=n)(O:sH n (Γ.take n)=true)(A:(GV.tup [.agg cs,g,d]).lt n=true)(h:R (.tup [.agg cs,g,d]) (Γ.take n)):tN P fn m R e fr Γ :=
 ⟨N,fun B K L w l hB H q=>by
  have⟨b,vs,h1,h2,G,h4⟩:=H.ob i _ F
  have S:nth l t=.pointer (some ⟨b,0,none⟩):=by
   have:=q.nth t;rw[hg]at this;generalize nth l t=v at this
   cases this with
   |loc _ _ b' M=>grind
  have V:l.toArray.getD t undef=.pointer (some ⟨b,0,none⟩):=by rw[jI,S]
  have C:=mQ (P:=P) (w:=w) (t:=T) (b:=b) (o:=0) (vs:=vs) (k:=k) X (fun j v hj=>by
   grind[World.cell?])
  have c:l[t]?.getD undef=.pointer (some ⟨b,0,none⟩):=by simp_all
  refine⟨.tuple #[.agg vs.toArray,nth l u,nth l s],K,dv (below n) L,.tup [.agg cs,g,d],Γ.take n,?_,H.cut X O,?_,h⟩
  ·rw[<-jI l u,<-jI l s];simp[results,W,c,asAddr,C]
  ·refine Rel.res ?_ A;subst r z;have J:bA K L [.agg vs.toArray,nth l u,nth l s] [.agg cs,cJ fr u,cJ fr s]:=.cons (.agg vs cs G.1 G.2) (.cons (q.nth u) (.cons (q.nth s) .nil))
   exact .tup _ _ J.1 J.2⟩
end
open Go.Proofs Tryz Go.Sp
open GV (U)
attribute [local irreducible] GW GL GO YG GC GA bh bn
abbrev C7(c:UInt8):GV:=.v (.int .u8 (c.toNat:Int))
def wR(c:UInt8):GF prog 185 [C7 c] [] (.v (.bool (small c))) []:=by
 unfold small;refine dT func185 ntmps185 ?_
 cases h:decide ((97:Int)<=(c.toNat:Int))
 all_goals
  exact aB
def wQ(c:UInt8):GF prog 240 [C7 c] [] (.v (.bool (eF c))) []:=by
 unfold eF;refine dT func240 ntmps240 ?_
 cases h:decide ((48:Int)<=(c.toNat:Int))
 all_goals
  exact aB
def DI(c:UInt8):GF prog 184 [C7 c] [] (.v (.bool (fv c))) []:=by
 unfold fv;have q:=wR c;have F:=wQ c;generalize small c=H at *;generalize eF c=s at *;refine aj func184 ntmps184 ?_;refine jS [] q ?_
 cases H with
 |true =>
  exact aB
 |false =>
  cases M:decide ((65:Int)<=(c.toNat:Int))with
  |true =>
   cases w:decide ((c.toNat:Int)<=90)with
   |true =>
    exact aB
   |false =>
    refine Z ?_;refine jS [] F ?_
    cases s with
    |true =>
     exact aB
    |false =>
     exact aB
  |false =>
   refine Z ?_;refine jS [] F ?_
   cases s with
   |true =>
    exact aB
   |false =>
    exact aB
def pz(s t:ai)(a:Nat)(q:s.length<=1152921504606846976)(o:t.length<=1152921504606846976)(ha:a<=1152921504606846976) :
  GF prog 290 [.v (sv s),y4 (a:Nat),.v (sv t)] [] (.v (.bool (cr s a t))) []:=by
 by_cases h:a+t.length<=s.length
 ·have L:decide (((a+t.length:Nat):Int)<=(s.length:Int))=true:=by simpa using by omega
  refine aj func290 ntmps290 ?_;refine cb ?_;unfold cr;rw[decide_eq_true h];exact zak
 ·have L:decide (((a+t.length:Nat):Int)<=(s.length:Int))=false:=by simpa using by omega
  refine aj func290 ntmps290 ?_;refine cb ?_;unfold cr;rw[decide_eq_false h];exact zak
def Br(s:ai)(a:Nat)(hs:s.length<=1099511627776)(ha:a<=s.length) :
  GF prog 220 [.v (sv s),y4 (a:Nat)] [] (.tup [y4 ((skip s (s.length+1) a).1:Nat),.v (ii (skip s (s.length+1) a).2)]) []:=by
 generalize T:skip s (s.length+1) a=R;refine aj func220 ntmps220 ?_;refine GW.loop (fun x:Nat × Nat=>x.1) (fun x t z=>t=.v (sv s)::y4 (x.2:Nat)::zU 61 []/\z=[]/\x.2<=s.length/\s.length<x.1+x.2/\skip s x.1 x.2=R) (s.length+1,a) ?_ ?_
 ·exact⟨_,_,Wk.aW az,rfl,rfl,ha,by simp;omega,T⟩
 ·rintro⟨f,a⟩_ _⟨rfl,rfl,ha,W,h⟩;simp only at ha W h
  cases f with
  |zero=>omega
  |succ f =>
  rw[skip]at h
  cases A:s[a]? with
  |none =>
   rw[A]at h;simp only at h;subst h;have M:s.length<=a:=nE A
   have V:decide ((a:Int)<(s.length:Int))=false:=by simpa using M
   refine dZ ?_;exact nC
  |some c =>
   rw[A]at h;simp only at h;have N:a<s.length:=(bR A).1
   have V:decide ((a:Int)<(s.length:Int))=true:=by simpa using N
   have r:fk c=(((c.toNat:Int)==32) ||((c.toNat:Int)==9) ||((c.toNat:Int)==10) ||((c.toNat:Int)==13)):=rfl
   by_cases d:fk c=true
   ·rw[ae d]at h;rw[r]at d;have n:((c.toNat:Int)==32)=true\/(((c.toNat:Int)==32)=false/\((c.toNat:Int)==9)=true)\/(((c.toNat:Int)==32)=false/\((c.toNat:Int)==9)=false/\((c.toNat:Int)==10)=true) \/
      (((c.toNat:Int)==32)=false/\((c.toNat:Int)==9)=false/\((c.toNat:Int)==10)=false/\((c.toNat:Int)==13)=true):=by
     generalize((c.toNat:Int)==32)=C at *;generalize((c.toNat:Int)==9)=E at *;generalize((c.toNat:Int)==10)=F at *;generalize((c.toNat:Int)==13)=G at *;clear r
     revert d;cases C<;>cases E<;>cases F<;>cases G<;>simp
    clear r d
    rcases n with B|⟨B,O⟩|⟨B,O,S⟩|⟨B,O,S,k4⟩
    all_goals
     refine dZ ?_;exact⟨(f,a+1),⟨_,_,Wk.aW az,rfl,rfl,by simp only;omega,by simp only;omega,h⟩,by simp⟩
   ·rw[D d]at h;rw[r]at d
    have n:((c.toNat:Int)==32)=false/\((c.toNat:Int)==9)=false/\((c.toNat:Int)==10)=false/\((c.toNat:Int)==13)=false:=by
     generalize((c.toNat:Int)==32)=C at *;generalize((c.toNat:Int)==9)=E at *;generalize((c.toNat:Int)==10)=F at *;generalize((c.toNat:Int)==13)=G at *;clear r
     revert d;cases C<;>cases E<;>cases F<;>cases G<;>simp
    clear r d;have⟨B,O,S,k4⟩:=n
    by_cases l:cr s a [47,42]=true
    ·rw[ae l]at h;have d:=lP l;have d:a+2<=s.length:=d
     have H:(!cr s a [47,42])=false:=by rw[l];rfl
     try simp only at h
     generalize Q:il s s.length (a+2)=e at h;refine Z ?_;refine I [] (pz s [47,42] a X aN X) ?_;have o:=rN s s.length (a+2) X X;have J:=sN s s.length (a+2) X;rw[Q]at o J;refine GW.A2 (fun t z=>t=.v (sv s)::y4 (a:Nat)::U::U::U::U::y4 (e:Nat)::zU 56 []/\z=[]) ?_ ?_
     ·refine GW.loop (fun x:Nat × Nat=>x.1) (fun x t z=>t=.v (sv s)::y4 (a:Nat)::U::U::U::U::y4 (x.2:Nat)::zU 56 []/\z=[]/\x.2<=s.length/\il s x.1 x.2=e) (s.length,a+2) ?_ ?_
      ·exact⟨_,_,Wk.aW az,rfl,rfl,by simp only;omega,Q⟩
      ·rintro⟨g,k⟩_ _⟨rfl,rfl,m,i⟩;simp only at m i
       by_cases j:k<s.length
       ·have L:decide ((k:Int)<(s.length:Int))=true:=by simpa using j
        cases b:cr s k [42,47]with
        |true =>
         have u:(!cr s k [42,47])=false:=by rw[b];rfl
         have q:k=e:=by
          cases g with
          |zero=>exact i
          |succ g=>rw[il,D (by rw[b];simp)]at i;exact i
         subst q;refine Z ?_;refine I [] (pz s [42,47] k X aN X) ?_;refine jA ?_;exact jw
        |false =>
         have u:(!cr s k [42,47])=true:=by rw[b];rfl
         cases g with
         |zero=>exact absurd ⟨by rw[<-i];exact j,by rw[<-i];exact b⟩ o
         |succ g =>
          rw[il,ae ⟨j,b⟩]at i;refine Z ?_;refine I [] (pz s [42,47] k X aN X) ?_;exact⟨(g,k+1),⟨_,_,Wk.aW az,rfl,rfl,j,i⟩,by simp⟩
       ·have L:decide ((k:Int)<(s.length:Int))=false:=by simp;omega
        have q:k=e:=by
         cases g with
         |zero=>exact i
         |succ g=>rw[il,D (fun hh=>j hh.1)]at i;exact i
        subst q;refine dZ ?_;exact jw
     ·rintro _ _⟨rfl,rfl⟩
      by_cases m:s.length<=e
      ·rw[ae m]at h
       have w:decide ((s.length:Int)<=(e:Int))=true:=by simpa using m
       subst h;exact nC
      ·rw[D m]at h
       have w:decide ((s.length:Int)<=(e:Int))=false:=by simp;omega
       have b:cr s e [42,47]=true:=by
        cases b:cr s e [42,47]with
        |true=>rfl
        |false=>exact absurd ⟨by omega,b⟩ o
       have b:=lP b;have b:e+2<=s.length:=b;refine dZ ?_;exact⟨(f,e+2),⟨_,_,Wk.aW az,rfl,rfl,b,by simp only;omega,h⟩,by simp⟩
    ·rw[D l]at h
     have H:(!cr s a [47,42])=true:=by simpa using l
     subst h;refine Z ?_;refine I [] (pz s [47,42] a X aN X) ?_;exact dE
def wT:GF prog 117 [] [] (strs words) []:=by
 refine aj func117 ntmps117 ?_;refine bL ?_;exact aB
def Ls:GF prog 292 [] [] (strs cx) []:=by
 refine aj func292 ntmps292 ?_;refine bL ?_;exact aB
def Oi(s:ai)(q:s.length<=1099511627776):GF prog 116 [.v (sv s)] [] (.v (.bool (word s))) []:=by
 refine aj func116 ntmps116 ?_;refine GW.loop (fun a:Nat=>s.length-a) (fun a w W=>w=.v (sv s)::U::U::y4 (a:Nat)::zU 18 []/\W=[]/\a<=s.length/\(s.take a).all fv=true) 0 ?_ ?_
 ·exact⟨_,_,Wk.aW az,rfl,rfl,bg _,rfl⟩
 ·rintro a _ _⟨rfl,rfl,z,k⟩
  cases l:s[a]? with
  |some c =>
   have M:a<s.length:=(bR l).1
   have F:decide ((a:Int)<(s.length:Int))=true:=by simpa using M
   have j:(s.take (a+1)).all fv=((s.take a).all fv&&fv c):=by
    rw[dc,l,List.all_append];simp
   have A:=DI c
   cases V:fv c with
   |true =>
    rw[V]at A;refine zeq ?_;exact⟨a+1,⟨_,_,Wk.aW az,rfl,rfl,M,by rw[j,k,V];rfl⟩,by omega⟩
   |false =>
    rw[V]at A;refine zeq ?_;refine cb ?_;refine⟨?_,rfl⟩
    have R:word s=false:=by
     have:s.all fv=false:=by
      rw[List.all_eq_false];exact⟨c,bB l,by rw[V];decide⟩
     unfold word;rw[this];rfl
    rw[R];rfl
  |none =>
   have T:s.length<=a:=nE l
   have F:decide ((a:Int)<(s.length:Int))=false:=by simpa using T
   have k:s.all fv=true:=by rw[kK T]at k;exact k
   cases s with
   |nil =>
    exact zcU
   |cons c r =>
    have t:(c::r)[0]?=some c:=rfl;refine zbk ?_;refine I [] (wR c) ?_;refine cb ?_;refine⟨?_,rfl⟩;unfold word;rw[k];rfl
def fc(s:ai)(q:s.length<=1099511627776):GF prog 55 [.v (sv s)] [] (.v (.bool (bY s))) []:=by
 have R:=Oi s q;unfold bY;generalize word s=b at *;refine aj func55 ntmps55 ?_;refine jS [] R ?_
 cases b with
 |false =>
  exact aB
 |true =>
  by_cases t:s.length<=12
  ·have z:decide ((s.length:Int)<=12)=true:=by simpa using by omega
   refine Z ?_;refine I [] wT ?_;refine I [] (kv words s aN) ?_;refine cb ?_;rw[decide_eq_true t];exact zak
  ·have z:decide ((s.length:Int)<=12)=false:=by simpa using by omega
   refine zdI ?_;rw[decide_eq_false t];exact zak
def HP(s:ai)(a:Nat)(q:s.length<=1099511627776)(ha:a<=s.length) :
  GF prog 291 [.v (sv s),y4 (a:Nat)] [] (.tup [.agg (dd ⟨1,(number s (s.length+1) 0 a).1,[],a⟩),y4 ((number s (s.length+1) 0 a).2:Nat)]) []:=by
 generalize m:number s (s.length+1) 0 a=R;generalize B:a=z at *;refine aj func291 ntmps291 ?_;refine GW.loop (fun x:Nat × Int × Nat=>x.1) (fun x A W=>A=.v (sv s)::y4 (x.2.2:Nat)::U::U::.loc 0 0::U::.loc 1 0::zU 29 []/\W=[.box 205 [y4 0,y4 0,.v (sv []),y4 0],.box 205 (dd ⟨1,x.2.1,[],z⟩)]/\x.2.2<=s.length/\s.length<x.1+x.2.2/\number s x.1 x.2.1 x.2.2=R/\0<=x.2.1/\x.2.1<=21474836479) (s.length+1,0,z) ?_ ?_
 ·exact⟨_,_,Wk.aW az,rfl,rfl,by simp only;omega,by simp only;omega,by rw[<-m],by simp,by simp⟩
 ·rintro⟨f,n,a⟩_ _⟨rfl,rfl,ha,t,h,u,S⟩;simp only at ha t h u S
  cases f with
  |zero=>omega
  |succ f =>
  rw[number]at h
  cases k:s[a]? with
  |none =>
   rw[k]at h;simp only at h;subst h;have V:s.length<=a:=nE k
   have F:decide ((a:Int)<(s.length:Int))=false:=by simpa using V
   refine zbk ?_;refine p8 ?_;exact zak
  |some c =>
   rw[k]at h;simp only at h;have N:a<s.length:=(bR k).1
   have F:decide ((a:Int)<(s.length:Int))=true:=by simpa using N
   have M:=wQ c
   cases r:eF c with
   |false =>
    rw[r]at M;rw[D (by rw[r];simp)]at h;subst h;refine zcn ?_;refine jA ?_;refine Z ?_;refine p8 ?_;exact zak
   |true =>
    rw[r]at M;rw[ae r]at h
    have w:(48:Int)<=(c.toNat:Int)/\(c.toNat:Int)<=57:=by
     simp only[eF,aU,decide_eq_true_eq]at r;exact r
    by_cases T:n<=2147483647
    ·rw[ae T]at h
     have l:decide (n<=2147483647)=true:=by simpa using T
     refine zcn ?_;refine aS (aK 0 10 (.a 10 .nil)) ?_;refine bp ?_;exact⟨(f,n*10+((c.toNat:Int)-48),a+1),⟨_,_,Wk.aW az,rfl,rfl,N,by simp only;omega,h,by simp only;omega,by simp only;omega⟩,by simp⟩
    ·rw[D T]at h
     have l:decide (n<=2147483647)=false:=by simpa using T
     refine zcn ?_;exact⟨(f,n,a+1),⟨_,_,Wk.aW az,rfl,rfl,N,by simp only;omega,h,u,S⟩,by simp⟩
open Go.Xp (Tok)
section
variable{xs:List ai}{p:ai->Bool}{k:Nat}{x:ai}
def Ns(h:(xs.take k).find? p=none)(hx:xs[k]?=some x)(A:p x=true):xs.find? p=some x:=by
 have N:=(bR hx).1
 have:xs=xs.take k++x::xs.drop (k+1):=by
  have M:=List.take_append_drop k xs;rw[l8 N]at M;rw[(bR hx).2]at M;exact M.symm
 rw[this,List.find?_append,h];simp[List.find?_cons,A]
def Nr(h:(xs.take k).find? p=none)(hx:xs[k]?=some x)(A:p x=false):(xs.take (k+1)).find? p=none:=by
 rw[dc,hx,List.find?_append,h];simp[List.find?_cons,A]
end
def Ig:∀x∈cx,x.length<=1152921504606846976:=by decide
def FY(s:ai)(a:Nat)(c:UInt8)(W:s.length<=1099511627776)(S:s[a]?=some c) :
  GF prog 221 [.v (sv s),y4 (a:Nat)] [] (.tup [.agg (dd (gD s a c).1),y4 ((gD s a c).2:Nat)]) []:=by
 have V:a<s.length:=(bR S).1;have i:=wQ c;have n:=wR c;unfold gD
 cases z:eF c with
 |true =>
  rw[z]at i;rw[ae rfl];refine aj func221 ntmps221 ?_;refine I [] i ?_;refine I [] (HP s a W X) ?_;refine p8 ?_;exact zak
 |false =>
  rw[z]at i;rw[D aN]
  cases E:small c with
  |true =>
   rw[E]at n;rw[ae rfl];have C:=oX s fv (s.length+1) a X X;have M:(s.take (gQ s a)).drop a=jx s a:=rfl;have A:run s fv (s.length+1) a=gQ s a:=rfl;rw[A]at C;generalize Q:gQ s a=e at *;generalize R:jx s a=w at *;have R:=M;have Q:=A;refine aj func221 ntmps221 ?_;refine I [] i ?_;refine I [] n ?_;refine GW.A2 (fun t F=>t=.v (sv s)::y4 (a:Nat)::U::U::.loc 0 0::U::y4 (e:Nat)::zU 62 []/\F=[.box 205 [y4 0,y4 0,.v (sv []),y4 0]]) ?_ ?_
   ·refine GW.loop (fun x:Nat × Nat=>x.1) (fun x t F=>t=.v (sv s)::y4 (a:Nat)::U::U::.loc 0 0::U::y4 (x.2:Nat)::zU 62 []/\F=[.box 205 [y4 0,y4 0,.v (sv []),y4 0]]/\x.2<=s.length/\s.length<x.1+x.2/\run s fv x.1 x.2=e) (s.length+1,a) ?_ ?_
    ·exact⟨_,_,Wk.aW az,rfl,rfl,by simp only;omega,by simp only;omega,Q⟩
    ·rintro⟨f,b⟩_ _⟨rfl,rfl,r,m,h⟩;simp only at r m h
     cases f with
     |zero=>omega
     |succ f =>
     rw[run]at h
     cases l:s[b]? with
     |none =>
      rw[l]at h;simp only at h;subst h;have L:s.length<=b:=nE l
      have T:decide ((b:Int)<(s.length:Int))=false:=by simpa using L
      refine dZ ?_;exact jw
     |some O =>
      rw[l]at h;simp only at h;have o:b<s.length:=(bR l).1
      have T:decide ((b:Int)<(s.length:Int))=true:=by simpa using o
      have H:=DI O
      cases G:fv O with
      |true =>
       rw[G]at H;rw[ae G]at h;refine Z ?_;refine I [] H ?_;exact⟨(f,b+1),⟨_,_,Wk.aW az,rfl,rfl,o,by simp only;omega,h⟩,by simp⟩
      |false =>
       rw[G]at H;rw[D (by rw[G];decide)]at h;subst h;refine Z ?_;refine I [] H ?_;refine jA ?_;exact jw
   ·rintro _ _⟨rfl,rfl⟩;have⟨_,h1,h2⟩:=C;refine Z ?_;rw[R];have d:=kv words w aN
    cases u:words.contains w with
    |true =>
     rw[u]at d;refine zdk ?_;rw[ae rfl];exact zak
    |false =>
     rw[u]at d;refine zdk ?_;rw[D aN];exact zak
  |false =>
   rw[E]at n;rw[D aN];refine aj func221 ntmps221 ?_;refine I [] i ?_;refine I [] n ?_;refine I [] Ls ?_;refine GW.range (cx.map fun s=>[GV.v (sv s)]).length (fun k t F=>t=[.v (sv s),y4 (a:Nat),U,U,.loc 0 0,U,U,U,U,U,U,U,U,U,U,U,U,U,U,U,U,U,U,U,U,U,U,U,U,U,U,U,U,U,U,U,U,U,U,U,U,U,U,U,U,U,U,U,U,strs cx,y4 ((cx.map fun s=>[GV.v (sv s)]).length:Int),y4 (k:Nat),U,U,U,U,U,U,U,U,U,U,U,U,U,U,U,U,U]/\F=[.box 205 [y4 0,y4 0,.v (sv []),y4 0]]/\(cx.take k).find? (cr s a)=none) ?_ aN ?_ ?_ ?_
   ·exact kz
   ·exact iI
   ·rintro k _ _ B⟨rfl,rfl,m⟩
    have B:k<cx.length:=by simpa using B
    have hx:cx[k]?=some cx[k]:=by simp[B]
    have hr:(cx.map fun s=>[GV.v (sv s)])[k]?=some [.v (sv cx[k])]:=by simp[B]
    have N:=Ig _ (getElem_mem B);generalize cx[k]=x at *;have j:=pz s x a X N X
    cases r:cr s a x with
    |true =>
     rw[r]at j;have J:=Ns m hx r;refine Z ?_;refine I [] j ?_;refine p8 ?_;rw[J];exact zak
    |false =>
     rw[r]at j;refine Z ?_;refine I [] j ?_;exact⟨rfl,rfl,_,_,Wk.aW az,rfl,rfl,Nr m hx r⟩
   ·rintro _ _⟨rfl,rfl,m⟩
    have m:cx.find? (cr s a)=none:=by
     rw[kK ze6]at m;exact m
    refine Z ?_;refine p8 ?_;rw[m];exact zak
def Hc{s:ai}{a:Nat}{c:UInt8}(k:s[a]?=some c):a<=(gD s a c).2/\(gD s a c).2<=s.length:=by
 have M:a<s.length:=(bR k).1;unfold gD;split
 ·exact(sW s (s.length+1) 0 a X X).2
 ·split
  ·exact(oX s fv (s.length+1) a X X).2
  ·split
   ·rename_i x hx;have:=lP (List.find?_some hx);exact⟨Nat.le_add_right _ _,this⟩
   ·exact⟨aQ _,by omega⟩
def Om(s:ai)(l:List Tok)(r:s.length<=1000000000000)(h:Go.Sp.hE s=some l) :
  GF prog 204 [.v (sv s)] [] (Go.Xg.hE l) []:=by
 rw[Go.Sp.hE]at h;have W:=Br s 0 X (bg _);have d:=tq s (s.length+1) 0 (bg _);generalize S:skip s (s.length+1) 0=R at *;refine aj func204 ntmps204 ?_;refine nR ?_;refine Z ?_;refine I [] W ?_;refine GW.loop (fun x:Nat × Nat × List Tok=>x.1) (fun x w i=>∃n e,w=.v (sv s)::U::U::.vec 0 n::y4 (x.2.1:Nat)::zU 30 []/\i=[.vec 205 4 0 e]/\e.length=n/\e=x.2.2.map dd/\n+x.1<=s.length+2/\x.2.1<=s.length/\qO s x.1 x.2.1 x.2.2=some l) (s.length+2,R.1,[]) ?_ ?_
 ·exact⟨_,_,Wk.aW az,0,[],rfl,rfl,rfl,rfl,by simp,d.2,h⟩
 ·rintro⟨f,a,J⟩_ _⟨n,e,rfl,rfl,V,H,q,z,h⟩;simp only at H q z h
  cases f with
  |zero=>simp[qO]at h
  |succ f =>
  rw[qO]at h
  cases k:s[a]? with
  |none =>
   rw[k]at h;simp only at h;cases h;have T:s.length<=a:=nE k
   have F:decide ((a:Int)<(s.length:Int))=false:=by simpa using T
   subst H;refine zbk ?_;refine GW.wk (Wk.ky (t:=2) rfl rfl rfl V) ?_;exact aw
  |some c =>
   rw[k]at h;simp only at h;have M:a<s.length:=(bR k).1
   have F:decide ((a:Int)<(s.length:Int))=true:=by simpa using M
   have B:=Hc k;have m:=FY s a c X k;generalize gD s a c=tk at *;have A:=Br s tk.2 X B.2;have b:=tq s (s.length+1) tk.2 B.2;generalize skip s (s.length+1) tk.2=G at *;refine Z ?_;refine I [] m ?_;refine zbz ?_;refine I [] A ?_;exact⟨(f,G.1,J++[tk.1]),⟨_,_,(Wk.cut (n:=1) (ed rfl) rfl).trans (Wk.aW az),_,_,rfl,rfl,by simp[V],by rw[kL,H];rfl,by simp only;omega,by simp only;omega,h⟩,by simp⟩
open Go.Xp (T one levels)
structure EU(f:Nat):Prop where
 expr:∀d p t q,p.ok->d+f<=4611686018427387904->mE f (.expr d) p=some (t,q)->GF prog 323 [.loc 0 0,y4 (d:Nat)] [b7 p] (.agg (cT t)) [b7 q]
 level:∀k d p t q,p.ok->k<=9->d+f<=4611686018427387904->mE f (.level k d) p=some (t,q)->GF prog 360 [.loc 0 0,y4 (k:Nat),y4 (d:Nat)] [b7 p] (.agg (cT t)) [b7 q]
 operand:∀d p t q,p.ok->d+f<=4611686018427387904->mE f (.operand d) p=some (t,q)->GF prog 374 [.loc 0 0,y4 (d:Nat)] [b7 p] (.agg (cT t)) [b7 q]
 named:∀a s d p t q,p.ok->d+f<=4611686018427387904->mE f (.named a s d) p=some (t,q)->GF prog 380 [.loc 0 0,y4 a,.v (sv s),y4 (d:Nat)] [b7 p] (.agg (cT t)) [b7 q]
 list:∀d p l q,p.ok->d+f<=4611686018427387904->mL f d p=some (l,q)->GF prog 382 [.loc 0 0,y4 (d:Nat)] [b7 p] (.sl 6 (bj l)) [b7 q]
def Wu{f:Nat}(C:EU f)(d:Nat)(p:RS)(t:T)(q:RS)(A:p.ok)(hd:d+(f+1)<=4611686018427387904)(h:mE (f+1) (.expr d) p=some (t,q)) :
  GF prog 323 [.loc 0 0,y4 (d:Nat)] [b7 p] (.agg (cT t)) [b7 q]:=by
 rw[mE]at h;refine aj func323 ntmps323 ?_;refine I [0] (uJ p d A) ?_;refine I [0] (C.level 0 d _ t q ((im A d).ok A) X X h) ?_;exact fo
def JK{k:Nat}(m:k<9):(levels.map fun l=>[strs l])[k]?=some [strs (levels.getD k [])]:=by
 have:k<levels.length:=m;rw[bO,cq this,getD_eq_getElem?_getD,cq this];rfl
def Cm:∀k,k<9->(levels.getD k []).length<=1099511627776:=by decide
abbrev zT:am:=[y4 0,y4 0,y4 0,.v (sv []),.v y6,.v y6]
def UN{f:Nat}(C:∀F,F<=f->EU F)(k d:Nat)(p:RS)(t:T)(q:RS)(A:p.ok)(o:k<=9)(hd:d+(f+1)<=4611686018427387904)(h:mE (f+1) (.level k d) p=some (t,q)) :
  GF prog 360 [.loc 0 0,y4 (k:Nat),y4 (d:Nat)] [b7 p] (.agg (cT t)) [b7 q]:=by
 rw[mE]at h
 by_cases S:k=9
 ·subst S;rw[ae rfl]at h;refine aj func360 ntmps360 ?_;refine I [] jW ?_;refine I [0] ((C f (aQ _)).operand (d+1) p t q A X h) ?_;exact fo
 ·rw[D S]at h
  have N:((k:Int)==9)=false:=by simp;omega
  cases R:mE f (.level (k+1) d) p with
  |none=>rw[R]at h;cases h
  |some r =>
   have⟨out,G⟩:=r;rw[R]at h;simp only at h;have E:=((rO f).1 _ _ _ _ A R).ok A;refine aj func360 ntmps360 ?_;refine I [] jW ?_;refine I [0] ((C f (aQ _)).level (k+1) d p out G A X X R) ?_;refine GW.loop (fun x:Nat × T × RS=>x.1) (fun x H W=>H=.loc 0 0::y4 (k:Nat)::y4 (d:Nat)::U::U::U::.loc 1 0::.loc 2 0::zU 58 []/\W=[b7 x.2.2,.box 89 zT,.box 89 (cT x.2.1)]/\x.2.2.ok/\x.1<=f/\mE x.1 (.loop k d x.2.1) x.2.2=some (t,q)) (f,out,G) ?_ ?_
   ·exact⟨_,_,Wk.aW az,rfl,rfl,E,aQ _,h⟩
   ·rintro⟨g,out,p⟩_ _⟨rfl,rfl,A,e,h⟩;simp only at A e h
    cases g with
    |zero=>simp[mE]at h
    |succ g =>
    rw[mE]at h
    have o:k<9:=by omega
    by_cases m:p.code=0
    ·have B:(p.code==0)=true:=by simpa using m
     have J:=JK o
     by_cases hit:(levels.getD k []).contains (p.aE 0)=true
     ·rw[ae ⟨m,hit⟩]at h
      cases z:p.l[p.i]? with
      |none=>rw[z]at h;cases h
      |some tk =>
       rw[z]at h;simp only at h;have M:=(bR z).1;have V:=kT z;have L:=A.2
       cases w:mE g (.level (k+1) d) p.next with
       |none=>rw[w]at h;cases h
       |some r =>
        have⟨b,O⟩:=r;rw[w]at h;simp only at h;have u:=(cU M).ok A;have j:=((rO g).1 _ _ _ _ u w).ok u;refine zbv ?_;refine Z ?_;refine zcC ?_;refine aS (aK 0 9 (.a 9 (.a 10 (.a 11 (.a 12 .nil))))) ?_;refine av ?_;refine aJ [0] ((C g X).level (k+1) d p.next b O u X X w) ?_;refine zar ?_;refine ml [] (iF 6 tk.at_ tk.s [out,b] _ o8) ?_;refine Hm ?_;refine bp ?_;exact⟨(g,one 6 tk.at_ tk.s [out,b],O),⟨_,_,(Wk.cut (n:=3) (ed rfl) rfl).trans (Wk.aW az),rfl,rfl,j,by omega,h⟩,by simp⟩
     ·have hit:(levels.getD k []).contains (p.aE 0)=false:=by simpa using hit
      rw[D (by rw[hit];simp)]at h
      obtain⟨rfl,rfl⟩:out=t/\p=q:=by simpa using h
      refine zbv ?_;refine dZ ?_;exact pZ
    ·have B:(p.code==0)=false:=by simpa using m
     rw[D (fun Q=>m Q.1)]at h
     obtain⟨rfl,rfl⟩:out=t/\p=q:=by simpa using h
     refine Z ?_;refine aS (aK 0 6 (.q 7 (.q 10 (.a 6 (.q 8 (.q 9 (.a 11 (.a 12 (.q 13 .nil))))))))) ?_;refine bp ?_;refine jA ?_;exact pZ
def UW{f:Nat}(C:EU f)(a:Int)(s:ai)(d:Nat)(p:RS)(t:T)(q:RS)(A:p.ok)(hd:d+(f+1)<=4611686018427387904)(h:mE (f+1) (.named a s d) p=some (t,q)) :
  GF prog 380 [.loc 0 0,y4 a,.v (sv s),y4 (d:Nat)] [b7 p] (.agg (cT t)) [b7 q]:=by
 rw[mE]at h
 by_cases M:p.aE 0=[91]
 ·rw[ae M]at h
  have J:(p.aE 0==[91])=true:=by simp[M]
  have N:=(dG M aN).1;have B:=A.2;have u:=(dY M aN).ok A
  cases R:mE f (.expr (d+1)) p.next with
  |none=>rw[R]at h;cases h
  |some r =>
   have⟨b,E⟩:=r;rw[R]at h;cases h;have z:=((rO f).1 _ _ _ _ u R).ok u;refine aj func380 ntmps380 ?_;refine zdV ?_;refine I [0] (C.expr (d+1) p.next b E u X R) ?_;refine I [0] (cZ E [93] z aN) ?_;refine zac ?_;refine I [] (iF 3 a s [b] _ o8) ?_;exact fo
 ·rw[D M]at h
  have J:(p.aE 0==[91])=false:=by simpa using M
  by_cases w:p.aE 0=[40]
  ·rw[ae w]at h
   have V:(p.aE 0==[40])=true:=by simp[w]
   have N:=(dG w aN).1;have B:=A.2;have u:=(dY w aN).ok A
   cases R:mL f (d+1) p.next with
   |none=>rw[R]at h;cases h
   |some r =>
    have⟨l,E⟩:=r;rw[R]at h;cases h;refine aj func380 ntmps380 ?_;refine zdV ?_;refine I [0] (C.list (d+1) p.next l q u X R) ?_;refine I [] (iF 4 a s l _ rfl) ?_;exact fo
  ·rw[D w]at h
   have V:(p.aE 0==[40])=false:=by simpa using w
   cases h;refine aj func380 ntmps380 ?_;refine zdV ?_;refine I [] (iF 2 a s [] [] rfl) ?_;exact fo
def bq(l:List T):(bj l).length=l.length:=by
 induction l with
 |nil=>rfl
 |cons a l O=>simp[bj,O]
def xH(l:List T)(a:T):bj (l++[a])=bj l++[cT a]:=by
 induction l with
 |nil=>simp[bj,vy]
 |cons b l O=>simp[bj,O]
def XH{f:Nat}(C:∀F,F<=f->EU F)(d:Nat)(p:RS)(l:List T)(q:RS)(A:p.ok)(hd:d+(f+1)<=4611686018427387904)(h:mL (f+1) d p=some (l,q)) :
  GF prog 382 [.loc 0 0,y4 (d:Nat)] [b7 p] (.sl 6 (bj l)) [b7 q]:=by
 rw[mL]at h
 by_cases M:p.aE 0=[41]
 ·rw[ae M]at h
  have L:(!(p.aE 0==[41]))=false:=by simp[M]
  cases h;refine aj func382 ntmps382 ?_;refine nR ?_;refine Z ?_;refine zdV ?_;refine I [0] (cZ p [41] A aN) ?_;refine GW.wk (Wk.ky (t:=4) rfl rfl rfl rfl) ?_;exact aw
 ·rw[D M]at h
  have L:(!(p.aE 0==[41]))=true:=by simpa using M
  cases R:mE f (.expr d) p with
  |none=>rw[R]at h;cases h
  |some r =>
   have⟨a,E⟩:=r;rw[R]at h;simp only at h;have s:=((rO f).1 _ _ _ _ A R).ok A;refine aj func382 ntmps382 ?_;refine nR ?_;refine Z ?_;refine zdV ?_;refine I [0] ((C f (aQ _)).expr d p a E A X R) ?_;refine zbz ?_;refine GW.loop (fun x:Nat × List T × RS=>x.1) (fun x G o=>∃n e,G=.loc 0 0::y4 (d:Nat)::U::U::U::.vec 1 n::zU 29 []/\o=[b7 x.2.2,.vec 89 6 0 e]/\e.length=n/\e=bj x.2.1/\n<=x.2.2.i+1/\x.2.2.ok/\x.1<=f/\qg x.1 d x.2.1 x.2.2=some (l,q)) (f,[a],E) ?_ ?_
   ·exact⟨_,_,Wk.aW az,_,_,rfl,rfl,rfl,(by simp only[bj,vy];rfl),(by show 1<=E.i+1;omega),s,aQ _,h⟩
   ·rintro⟨g,J,p⟩_ _⟨n,e,rfl,rfl,W,H,S,A,j,h⟩;simp only at H S A j h
    cases g with
    |zero=>simp[qg]at h
    |succ g =>
    rw[qg]at h;have c:=A.2;have Q:=A.1
    by_cases w:p.aE 0=[44]
    ·rw[ae w]at h
     have V:(p.aE 0==[44])=true:=by simp[w]
     have O:=(dG w aN).1;have u:=(dY w aN).ok A
     cases z:mE g (.expr d) p.next with
     |none=>rw[z]at h;cases h
     |some r =>
      have⟨b,N⟩:=r;rw[z]at h;simp only at h;have B:=(rO g).1 _ _ _ _ u z;have k:=B.ok u;have m:p.i+1<=N.i:=B.2.2.2;refine Z ?_;refine zdV ?_;refine I [0] ((C g X).expr d p.next b N u X z) ?_;refine zbz ?_;exact⟨(g,J++[b],N),⟨_,_,Wk.aW az,_,_,rfl,rfl,by simp[W],by rw[xH,H],by simp only;omega,k,by simp only;omega,h⟩,by simp⟩
    ·rw[D w]at h
     have V:(p.aE 0==[44])=false:=by simpa using w
     obtain⟨rfl,rfl⟩:J=l/\p.a6 [41]=q:=by simpa using h
     subst H;refine Z ?_;refine zdV ?_;refine jA ?_;refine Z ?_;refine I [0] (cZ p [41] A aN) ?_;refine GW.wk (Wk.ky (t:=4) rfl rfl rfl W) ?_;exact aw
def O0{f:Nat}(C:EU f)(d:Nat)(p:RS)(t:T)(q:RS)(G:p.ok)(hd:d+(f+1)<=4611686018427387904)(h:mE (f+1) (.operand d) p=some (t,q)) :
  GF prog 374 [.loc 0 0,y4 (d:Nat)] [b7 p] (.agg (cT t)) [b7 q]:=by
 rw[mE]at h;have e:=(im G d).ok G;have c:=uJ p d G;generalize p.aX d=b at *
 try simp only at h
 have⟨V,W⟩:=id e
 by_cases u:b.code=0
 ·rw[ae u]at h
  have E:(b.code != 0)=false:=by simpa using u
  cases o:b.l[b.i]? with
  |none =>
   rw[o]at h;cases h;have S:b.l.length<=b.i:=nE o
   have n:decide (((b.l.map dd).length:Int)<=(b.i:Int))=true:=by simp;omega
   exact zbB
  |some tk =>
   rw[o]at h;simp only at h;have F:b.i<b.l.length:=(bR o).1
   have n:decide (((b.l.map dd).length:Int)<=(b.i:Int))=false:=by simp;omega
   have hr:=kT o;have k:=(cU F).ok e;refine aj func374 ntmps374 ?_;refine I [0] c ?_;refine aS (aK 0 17 .nil) ?_;refine bp ?_;refine zcC ?_
   by_cases w:tk.ab=1
   ·rw[ae w]at h;cases h
    have J:(tk.ab==1)=true:=by simpa using w
    refine Z ?_;exact zeE
   ·rw[D w]at h
    have J:(tk.ab==1)=false:=by simpa using w
    by_cases z:tk.ab=2
    ·rw[ae z]at h
     have L:(tk.ab==2)=true:=by simpa using z
     refine Z ?_;refine I [0] (oA b e) ?_;refine I [0] (C.named tk.at_ b.name.1 d b.name.2 t q ((eO e).ok e) X h) ?_;exact fo
    ·rw[D z]at h
     have L:(tk.ab==2)=false:=by simpa using z
     by_cases j:tk.s=[45]\/tk.s=[33]\/tk.s=[126]
     ·rw[ae j]at h
      cases m:mE f (.operand (d+1)) b.next with
      |none=>exact zeN
      |some r =>
       have⟨a,M⟩:=r;rw[m]at h;cases h
       have N:(tk.s==[45])=true\/((tk.s==[45])=false/\(tk.s==[33])=true)\/((tk.s==[45])=false/\(tk.s==[33])=false/\(tk.s==[126])=true):=by
        rcases j with j|j|j
        ·exact .inl (by simp[j])
        ·exact .inr (.inl (by simp[j]))
        ·exact .inr (.inr (by simp[j]))
       refine Z ?_
       rcases N with B|⟨B,Q⟩|⟨B,Q,R⟩
       all_goals
        refine Z ?_;refine aS (aK 0 7 (.a 7 (.a 8 (.a 9 (.a 10 .nil))))) ?_;refine av ?_;refine aJ [0] (C.operand (d+1) b.next a q k X m) ?_;refine zar ?_;refine ml [] (iF 5 tk.at_ tk.s [a] _ o8) ?_;refine Hm ?_;refine av ?_;exact pZ
     ·rw[D j]at h
      have B:(tk.s==[45])=false:=by simp at j;simpa using j.1
      have Q:(tk.s==[33])=false:=by simp at j;simpa using j.2.1
      have R:(tk.s==[126])=false:=by simp at j;simpa using j.2.2
      by_cases A:tk.s=[40]
      ·rw[ae A]at h
       have O:(tk.s==[40])=true:=by simp[A]
       cases m:mE f (.expr (d+1)) b.next with
       |none=>exact zeN
       |some r =>
        have⟨a,M⟩:=r;rw[m]at h;cases h;have H:=((rO f).1 _ _ _ _ k m).ok k;refine Z ?_;refine I [0] (C.expr (d+1) b.next t M k X m) ?_;refine I [0] (cZ M [41] H aN) ?_;exact fo
      ·rw[D A]at h
       have O:(tk.s==[40])=false:=by simpa using A
       cases h;refine Z ?_;refine I [0] (j4 b 7 tk.at_) ?_;exact zeE
 ·rw[D u]at h
  have E:(b.code != 0)=true:=by simpa using u
  cases h;exact zbB
def rds(f:Nat):EU f:=by
  induction f using Nat.strongRecOn with
  |_ f O =>
   cases f with
   |zero=>exact⟨fun d p t q _ _ h=>by simp[mE]at h,fun k d p t q _ _ _ h=>by simp[mE]at h,fun d p t q _ _ h=>by simp[mE]at h,fun a s d p t q _ _ h=>by simp[mE]at h,fun d p l q _ _ h=>by simp[mL]at h⟩
   |succ f =>
    have C:=O f (Nat.lt_succ_self f)
    have n:∀B,B<=f->EU B:=fun B h=>O B (Nat.lt_succ_of_le h)
    exact⟨fun d p t q A F h=>Wu C d p t q A F h,fun k d p t q A m F h=>UN n k d p t q A m F h,fun d p t q A F h=>O0 C d p t q A F h,fun a s d p t q A F h=>UW C a s d p t q A F h,fun d p l q A F h=>XH n d p l q A F h⟩
open Go.Xp (iv)
structure Mv(f:Nat):Prop where
 block:∀d p t q,p.ok->d+f<=1099511627776->mS f (.block d) p=some (t,q)->GF prog 205 [.loc 0 0,y4 (d:Nat)] [b7 p] (.agg (cT t)) [b7 q]
 stmt:∀d p t q,p.ok->d+f<=1099511627776->mS f (.stmt d) p=some (t,q)->GF prog 264 [.loc 0 0,y4 (d:Nat)] [b7 p] (.agg (cT t)) [b7 q]
 cond:∀a d p t q,p.ok->p.i<p.l.length->d+f<=1099511627776->mS f (.cond a d) p=some (t,q)->GF prog 324 [.loc 0 0,y4 a,y4 (d:Nat)] [b7 p] (.agg (cT t)) [b7 q]
def xX(d:Nat)(p:RS)(t:T)(q:RS)(A:p.ok)(hd:d<=1099511627777)(h:mX d p=some (t,q)):GF prog 323 [.loc 0 0,y4 (d:Nat)] [b7 p] (.agg (cT t)) [b7 q] :=
 (rds (fe p)).expr d p t q A (by have:=A.2;unfold fe;omega) h
def Lt(k a:Int)(s:ai):GF prog 263 [y4 k,y4 a,.v (sv s),.v y6] [] (.agg [y4 k,y4 a,y4 0,.v (sv s),ints [],.v y6]) []:=by
 refine aj func263 ntmps263 ?_;exact zeE
def T6{f:Nat}(C:∀Q,Q<=f->Mv Q)(d:Nat)(p:RS)(t:T)(q:RS)(e:p.ok)(hd:d+(f+1)<=1099511627776)(h:mS (f+1) (.block d) p=some (t,q)) :
  GF prog 205 [.loc 0 0,y4 (d:Nat)] [b7 p] (.agg (cT t)) [b7 q]:=by
 rw[mS]at h;have j:=(im e d).ok e;have m:=uJ p d e;generalize p.aX d=u at *
 try simp only at h
 have M:=(bT j (s:=[123]) aN).ok j
 cases E:mB f (d+1) [] (u.a6 [123])with
 |none=>rw[E]at h;cases h
 |some r =>
  have⟨l,O⟩:=r;rw[E]at h;cases h;generalize L:u.place=V;refine aj func205 ntmps205 ?_;refine I [0] m ?_;refine I [0] (jX u j) ?_;refine I [] (Lt 14 u.place []) ?_;refine I [0] (cZ u [123] j aN) ?_;rw[L];refine GW.wk (Wk.Ge (i:=2) (o:=5) 89 6 rfl rfl) ?_;refine GW.loop (fun x:Nat × List T × RS=>x.1) (fun x S W=>∃n c,S=.loc 0 0::y4 (d:Nat)::U::U::.loc 1 0::.loc 2 0::zU 30 []/\W=[b7 x.2.2,.box 89 zT,.box 89 [y4 14,y4 V,y4 0,.v (sv []),ints [],.vec 3 n],.vec 89 6 0 c]/\c.length=n/\c=bj x.2.1/\n+x.1<=f/\x.2.2.ok/\mB x.1 (d+1) x.2.1 x.2.2=some (l,O)) (f,[],u.a6 [123]) ?_ ?_
  ·exact⟨_,_,Wk.aW az,0,[],rfl,rfl,rfl,rfl,by simp,M,E⟩
  ·rintro⟨g,k,p⟩_ _⟨n,c,rfl,rfl,G,b,H,e,h⟩;simp only at b H e h
   cases g with
   |zero=>simp[mB]at h
   |succ g =>
   rw[mB]at h
   by_cases z:p.code=0
   ·have B:(p.code==0)=true:=by simpa using z
    by_cases A:p.aE 0=[125]
    ·rw[D (fun F=>F.2 A)]at h
     obtain⟨rfl,rfl⟩:k=l/\p=O:=by simpa using h
     have N:(!(p.aE 0==[125]))=false:=by simp[A]
     subst b;refine Z ?_;refine I [0] (dq p 0 e aN) ?_;refine jA ?_;refine Z ?_;exact zci
    ·rw[ae ⟨z,A⟩]at h
     have N:(!(p.aE 0==[125]))=true:=by simpa using A
     cases w:mS g (.stmt (d+1)) p with
     |none=>rw[w]at h;cases h
     |some r =>
      have⟨a,R⟩:=r;rw[w]at h;simp only at h;have J:=((pK g).1 _ _ _ _ e (fun a d' h=>by cases h) w).ok e;refine Z ?_;refine I [0] (dq p 0 e aN) ?_;refine aS (aK 0 5 (.a 5 (.a 6 (.a 7 (.q 8 (.a 9 .nil)))))) ?_;refine av ?_;refine aJ [0] ((C g X).stmt (d+1) p a R e X w) ?_;refine zar ?_;refine yX ?_;refine bp ?_;exact⟨(g,k++[a],R),⟨_,_,Wk.aW az,_,_,rfl,rfl,by simp[G],by rw[xH,b];rfl,by show n+1+g<=f;omega,J,h⟩,by simp⟩
   ·have B:(p.code==0)=false:=by simpa using z
    rw[D (fun F=>z F.1)]at h
    obtain⟨rfl,rfl⟩:k=l/\p=O:=by simpa using h
    subst b;refine zbk ?_;exact zci
def Wg{f:Nat}(C:Mv f)(a:Int)(d:Nat)(p:RS)(t:T)(q:RS)(J:p.ok)(R:p.i<p.l.length)(hd:d+(f+1)<=1099511627776)(h:mS (f+1) (.cond a d) p=some (t,q)) :
  GF prog 324 [.loc 0 0,y4 a,y4 (d:Nat)] [b7 p] (.agg (cT t)) [b7 q]:=by
 rw[mS]at h
 try simp only at h
 have o:=(cU R).ok J;have xr:=J.2;have n:=(bT o (s:=[40]) aN).ok o
 cases F:mX (d+1) (p.next.a6 [40])with
 |none=>rw[F]at h;cases h
 |some r =>
 have⟨e,B⟩:=r;rw[F]at h;simp only at h;have m:=(fT n F).ok n;have c:=(bT m (s:=[41]) aN).ok m
 cases E:mS f (.block (d+1)) (B.a6 [41])with
 |none=>rw[E]at h;cases h
 |some r =>
 have⟨b,u⟩:=r;rw[E]at h;simp only at h;have w:=((pK f).1 _ _ _ _ c (fun a d' h=>by cases h) E).ok c;have W:=w.2
 have z:∀k:Int,(if k=9/\u.aE 0=iv then match mS f (.block (d+1)) u.next with
     |none=>none
     |some (N,q)=>some (one k a [] [e,b,N],q)
    else some (one k a [] [e,b],u))=some (t,q)->p.ck=k->(k=9\/k=10)->((p.aE 0==[105,102])=true/\k=9)\/((p.aE 0==[105,102])=false/\k=10):=by
  intro k _ O _;unfold RS.ck at O;split at O
  ·rename_i M;exact .inl ⟨by rw[M];rfl,O.symm⟩
  ·rename_i M;refine .inr ⟨?_,O.symm⟩
   cases S:(p.aE 0==[105,102])with
   |false=>rfl
   |true=>exact absurd (eq_of_beq S) M
 have G:p.ck=9\/p.ck=10:=by unfold RS.ck;split<;>simp
 have z:=z p.ck h rfl G;generalize p.ck=k at h z;clear G
 rcases z with⟨M,rfl⟩|⟨M,rfl⟩
 ·by_cases j:u.aE 0=iv
  ·rw[ae ⟨rfl,j⟩]at h
   have H:(u.aE 0==[101,108,115,101])=true:=by rw[j];rfl
   have V:=(dG j aN).1;have L:=(dY j aN).ok w
   cases A:mS f (.block (d+1)) u.next with
   |none=>rw[A]at h;cases h
   |some r =>
   have⟨N,p3⟩:=r;rw[A]at h;cases h;refine aj func324 ntmps324 ?_;refine zaA ?_;refine aJ [0] (C.block (d+1) _ b u c X E) ?_;refine CN ?_;refine bp ?_;refine I [0] (dq u 0 w aN) ?_;refine jS [0] (C.block (d+1) _ N q L X A) ?_;refine zbz ?_;refine zd5 ?_;refine I [] (iF 9 a [] [e,b,N] _ o8) ?_;exact fo
  ·rw[D (fun Q=>j Q.2)]at h
   have H:(u.aE 0==[101,108,115,101])=false:=by
    cases S:(u.aE 0==[101,108,115,101])with
    |false=>rfl
    |true=>exact absurd (eq_of_beq S) j
   cases h;refine aj func324 ntmps324 ?_;refine zaA ?_;refine aJ [0] (C.block (d+1) _ b q c X E) ?_;refine CN ?_;refine bp ?_;refine I [0] (dq q 0 w aN) ?_;refine zd5 ?_;refine I [] (iF 9 a [] [e,b] _ o8) ?_;exact fo
 ·rw[D (fun Q=>by cases Q.1)]at h;cases h;refine aj func324 ntmps324 ?_;refine zaA ?_;refine aJ [0] (C.block (d+1) _ b q c X E) ?_;refine CN ?_;refine bp ?_;refine zd5 ?_;refine I [] (iF 10 a [] [e,b] _ o8) ?_;exact fo
open Go.Xp (lV fZ gA gJ)
def vm{s t:ai}(h:¬s=t):(s==t)=false:=by
 cases m:(s==t)with
 |false=>rfl
 |true=>exact absurd (eq_of_beq m) h
def Yo{f:Nat}(C:Mv f)(d:Nat)(p:RS)(t:T)(q:RS)(hp:p.ok)(hd:d+(f+1)<=1099511627776)(h:mS (f+1) (.stmt d) p=some (t,q)) :
  GF prog 264 [.loc 0 0,y4 (d:Nat)] [b7 p] (.agg (cT t)) [b7 q]:=by
 rw[mS]at h;have c:=(im hp d).ok hp;have L:=uJ p d hp;generalize p.aX d=b at *
 try simp only at h
 have⟨S6,xr⟩:=id c;generalize hat:b.place=at_ at h;refine aj func264 ntmps264 ?_;refine I [0] L ?_;refine I [0] (jX b c) ?_;refine jS [0] (dq b 0 c aN) ?_;rw[hat]
 by_cases N:b.aE 0=lV
 ·rw[ae N]at h
  have e1:(b.aE 0==[118,97,114])=true:=by rw[N];rfl
  have k:=(dG N aN).1;have G:=(dY N aN).ok c;have A:=(eO G).ok G;have z:=(bT A (s:=[61]) aN).ok A
  cases m:mX (d+1) (b.next.name.2.a6 [61])with
  |none=>exact zeN
  |some r =>
  have⟨e,o⟩:=r;rw[m]at h;cases h;have j:=(fT z m).ok z;refine Z ?_;refine I [0] (oA b.next G) ?_;refine zdq ?_;refine I [] (iF 13 at_ b.next.name.1 [e] _ o8) ?_;exact fo
 rw[D N]at h;have e1:(b.aE 0==[118,97,114])=false:=vm N
 by_cases w:b.aE 0=fZ\/b.aE 0=gA
 ·rw[ae w]at h
  have W:(b.aE 0==[105,102])=true\/((b.aE 0==[105,102])=false/\(b.aE 0==[119,104,105,108,101])=true):=by
   rcases w with w|w
   ·exact .inl (by rw[w];rfl)
   ·exact .inr ⟨by rw[w];rfl,by rw[w];rfl⟩
  have k:b.i<b.l.length:=by
   rcases w with w|w
   ·exact(dG w aN).1
   ·exact(dG w aN).1
  rcases W with W|⟨W,e3⟩
  all_goals
   refine Z ?_;refine I [0] (C.cond at_ d b t q c k X h) ?_;exact fo
 rw[D w]at h
 have W:(b.aE 0==[105,102])=false:=vm fun J=>w (.inl J)
 have e3:(b.aE 0==[119,104,105,108,101])=false:=vm fun J=>w (.inr J)
 by_cases O:b.aE 0=gJ
 ·rw[ae O]at h
  have e4:(b.aE 0==[114,101,116,117,114,110])=true:=by rw[O];rfl
  have k:=(dG O aN).1;have G:=(dY O aN).ok c
  cases m:mX (d+1) b.next with
  |none=>exact zeN
  |some r =>
  have⟨e,o⟩:=r;rw[m]at h;cases h;have j:=(fT G m).ok G;refine Z ?_;refine I [0] (xX (d+1) _ e o G X m) ?_;refine I [0] (cZ o [59] j aN) ?_;refine zac ?_;refine I [] (iF 11 at_ [] [e] _ o8) ?_;exact fo
 rw[D O]at h;have e4:(b.aE 0==[114,101,116,117,114,110])=false:=vm O
 by_cases h5:b.code=0/\b.ox=true/\b.aE 1=[61]
 ·rw[ae h5]at h;have⟨R,u,M⟩:=h5
  have B:(b.code==0)=true:=by simpa using R
  have abY:(b.aE 1==[61])=true:=by rw[M];rfl
  unfold RS.ox at u
  cases E:b.l[b.i]? with
  |none=>rw[E]at u;cases u
  |some tk =>
  rw[E]at u
  have H:(tk.ab==2)=true:=by simpa using u
  have k:=(bR E).1
  have F:decide ((b.i:Int)<((b.l.map dd).length:Int))=true:=by simpa using k
  have hr:=kT E;have A:=(eO c).ok c;have z:=(bT A (s:=[61]) aN).ok A
  cases m:mX (d+1) (b.name.2.a6 [61])with
  |none=>exact zeN
  |some r =>
  have⟨e,o⟩:=r;rw[m]at h;cases h;have j:=(fT z m).ok z;refine Z ?_;refine zeW ?_;refine Z ?_;refine I [0] (oA b c) ?_;refine zdq ?_;refine I [] (iF 7 at_ b.name.1 [e] _ o8) ?_;exact fo
 rw[D h5]at h
 cases m:mX (d+1) b with
 |none=>exact zeN
 |some r =>
 have⟨e,o⟩:=r;rw[m]at h;simp only at h;have j:=(fT c m).ok c;have abR:=j.2
 have S:(b.code==0)=false\/((b.code==0)=true/\b.l.length<=b.i)\/((b.code==0)=true/\∃tk,b.l[b.i]?=some tk/\((tk.ab==2)=false\/((tk.ab==2)=true/\(b.aE 1==[61])=false))):=by
  by_cases R:b.code=0
  ·refine .inr ?_
   have B:(b.code==0)=true:=by simpa using R
   cases E:b.l[b.i]? with
   |none=>exact .inl ⟨B,nE E⟩
   |some tk =>
    refine .inr ⟨B,tk,rfl,?_⟩
    by_cases H:tk.ab=2
    ·refine .inr ⟨by simpa using H,vm fun h61=>h5 ⟨R,?_,h61⟩⟩;unfold RS.ox;rw[E];simpa using H
    ·exact .inl (by simpa using H)
  ·exact .inl (by simpa using R)
 refine Z ?_;refine GW.join (fun fr Γ=>fr=.loc 0 0::y4 (d:Nat)::U::U::.loc 1 0::y4 at_::zU 99 (.v (.bool false)::zU 65 [])/\Γ=[b7 b,.box 89 zT]) ?_ ?_
 ·rcases S with B|⟨B,NS⟩|⟨B,tk,E,H|⟨H,M⟩⟩
  ·exact zbp
  ·have F:decide ((b.i:Int)<((b.l.map dd).length:Int))=false:=by simpa using NS
   exact zbp
  ·have k:=(bR E).1
   have F:decide ((b.i:Int)<((b.l.map dd).length:Int))=true:=by simpa using k
   have hr:=kT E;exact zbp
  ·have k:=(bR E).1
   have F:decide ((b.i:Int)<((b.l.map dd).length:Int))=true:=by simpa using k
   have hr:=kT E;refine zeW ?_;exact bl ⟨_,_,Wk.aW (by repeat (first|exact tB.nil|refine tB.U ?_|refine tB.eq rfl ?_|refine tB.eq (by rw[M]) ?_)),rfl,rfl⟩
 ·rintro _ _⟨rfl,rfl⟩;refine Z ?_;refine I [0] (xX (d+1) _ e o c X m) ?_
  by_cases k3:e.n.ab=3
  ·have k3':(e.n.ab==3)=true:=by simpa using k3
   by_cases ka:e.n.at_=at_
   ·have ka':(e.n.at_==at_)=true:=by simpa using ka
    by_cases Q:o.aE 0=[61]
    ·have ks':(o.aE 0==[61])=true:=by rw[Q];rfl
     rw[ae ⟨k3,ka,Q⟩]at h;have k:=(dG Q aN).1;have G:=(dY Q aN).ok j
     cases H:e.au with
     |nil=>rw[H]at h;cases h
     |cons a V =>
     cases hv:mX (d+1) o.next with
     |none=>rw[H,hv]at h;cases h
     |some r =>
     have⟨v,p3⟩:=r;rw[H,hv]at h;cases h;have hp3:=(fT G hv).ok G
     have hr:(bj (a::V))[0]?=some (cT a):=by simp[bj,vy]
     refine Z ?_;refine I [0] (dq o 0 j aN) ?_;refine I [0] (xX (d+1) _ v p3 G X hv) ?_;refine I [0] (cZ p3 [59] hp3 aN) ?_;refine aS (aK 0 9 (.a 9 (.a 10 (.a 11 .nil)))) ?_;refine av ?_;refine zar ?_;refine ml [] (iF 8 at_ e.n.s [a,v] _ o8) ?_;refine Hm ?_;refine av ?_;exact pZ
    ·have ks':(o.aE 0==[61])=false:=vm Q;rw[D (fun J=>Q J.2.2)]at h;cases h;refine Z ?_;refine I [0] (dq o 0 j aN) ?_;exact zbx
   ·have ka':(e.n.at_==at_)=false:=by simpa using ka
    rw[D (fun J=>ka J.2.1)]at h;cases h;refine Z ?_;exact zbx
  ·have k3':(e.n.ab==3)=false:=by simpa using k3
   rw[D (fun J=>k3 J.1)]at h;cases h;refine Z ?_;exact zbx
def sds(f:Nat):Mv f:=by
 induction f using Nat.strongRecOn with
 |_ f O =>
  cases f with
  |zero=>exact⟨fun d p t q _ _ h=>by simp[mS]at h,fun d p t q _ _ h=>by simp[mS]at h,fun a d p t q _ _ _ h=>by simp[mS]at h⟩
  |succ f =>
   have C:=O f (Nat.lt_succ_self f)
   have n:∀B,B<=f->Mv B:=fun B h=>O B (Nat.lt_succ_of_le h)
   exact⟨fun d p t q A F h=>T6 n d p t q A F h,fun d p t q A F h=>Yo C d p t q A F h,fun a d p t q A T F h=>Wg C a d p t q A T F h⟩
open Go.Xp (Nd Ar)
def aP(n:Nd):am:=[y4 n.ab,y4 n.at_,y4 n.n,.v (sv n.s),ints n.au]
def aH(f:Go.Sp.Fn):am:=[.v (sv f.name),strs f.params,y4 f.body]
def bb(a:Ar):am:=[.v (sv a.name),y4 a.size]
abbrev aD(p:Src):am:=[strs p.ax,.sl 2 (p.aq.map bb),.sl 3 (p.ak.map aH),.sl 5 (p.ah.map aP)]
def HQ(k:Int):GF prog 356 [y4 k] [] (.v (.bool (nL k))) []:=by
 unfold nL;refine dT func356 ntmps356 ?_
 cases h:decide ((1:Int)<=k)
 all_goals
  exact aB
def HR(k:Int):GF prog 320 [y4 k] [] (.v (.bool (jo k))) []:=by
 unfold jo;refine dT func320 ntmps320 ?_
 cases h:decide ((7:Int)<=k)
 all_goals
  exact aB
def tQ(s:ai):GF prog 319 [.v (sv s)] [] (.v (.bool (fX s))) []:=by
 refine aj func319 ntmps319 ?_;refine I [] jW ?_;refine GW.range (levels.map fun l=>[strs l]).length (fun k z W=>z=[.v (sv s),U,U,U,U,.sl 1 (levels.map fun l=>[strs l]),y4 ((levels.map fun l=>[strs l]).length:Int),y4 (k:Nat),U,U,U,U,U,U,U]/\W=[]/\((levels.take k).any fun l=>l.contains s)=false) ?_ aN ?_ ?_ ?_
 ·exact kz
 ·exact iI
 ·rintro k _ _ m⟨rfl,rfl,t⟩
  have m:k<levels.length:=by simpa using m
  have hx:levels[k]?=some levels[k]:=by simp[m]
  have r:(levels.map fun l=>[strs l])[k]?=some [strs levels[k]]:=by simp[m]
  have B:levels[k].length<=1099511627776:=by
   have:∀l∈levels,l.length<=1099511627776:=by decide
   exact this _ (getElem_mem m)
  generalize levels[k]=x at *;have M:=kv x s B
  cases w:x.contains s with
  |true =>
   rw[w]at M
   have A:fX s=true:=by
    unfold fX;rw[qQ];exact⟨x,bB hx,w⟩
   refine zcn ?_;refine cb ?_;rw[A];exact zak
  |false =>
   rw[w]at M;refine zcn ?_;exact⟨rfl,rfl,_,_,Wk.aW az,rfl,rfl,by rw[dc,hx,List.any_append,t];simp only[Option.toList,List.any_cons,List.any_nil,w];rfl⟩
 ·rintro _ _⟨rfl,rfl,t⟩
  have t:fX s=false:=by
   rw[kK ze6]at t;exact t
  refine zdI ?_;rw[t];exact zak
def dp{l:List T}{i:Nat}{t:T}(h:l[i]?=some t):(bj l)[i]?=some (cT t):=by
 induction l generalizing i with
 |nil=>simp at h
 |cons a l O =>
  cases i with
  |zero=>cases h;simp[bj,vy]
  |succ i=>simpa[bj]using O zfb
def gk(t:T)(m:Nat)(V:t.au.length<=1099511627776):GF prog 318 [.agg (cT t),y4 (m:Nat)] [] (.v (.bool (bW m 0 t.au))) []:=by
 refine aj func318 ntmps318 ?_;refine GW.range (bj t.au).length (fun k A W=>A=U::y4 (m:Nat)::U::U::U::U::U::U::.sl 6 (bj t.au)::y4 ((bj t.au).length:Int)::y4 (k:Nat)::zU 26 []/\W=[]/\bW m k (t.au.drop k)=bW m 0 t.au) ?_ (by rw[bq];exact V) ?_ ?_ ?_
 ·exact⟨_,_,(Wk.cut (n:=0) (aQ _) rfl).trans (Wk.aW az),rfl,rfl,rfl⟩
 ·exact iI
 ·rintro k _ _ l⟨rfl,rfl,s⟩
  have l:k<t.au.length:=by rw[bq]at l;exact l
  have hx:t.au[k]?=some t.au[k]:=by simp[l]
  have r:=dp hx;rw[l8 l,bW]at s;generalize t.au[k]=x at *;have R:=HQ x.n.ab
  by_cases G:k<m
  ·have B:decide ((k:Int)<(m:Int))=true:=by simpa using G
   have o:decide ((m:Int)<=(k:Int))=false:=by simpa using G
   rw[ae G]at s
   cases w:nL x.n.ab with
   |true =>
    rw[w]at R s;refine zbU ?_;exact zcX
   |false =>
    rw[w]at R s;refine zbU ?_;refine cb ?_;rw[<-s];exact zak
  ·have B:decide ((k:Int)<(m:Int))=false:=by simp;omega
   have o:decide ((m:Int)<=(k:Int))=true:=by simp;omega
   rw[D G]at s
   cases w:(x.n.ab==14)with
   |true =>
    rw[w]at s
    have z:(x.n.ab != 14)=false:=by simp only[bne,w];rfl
    refine Z ?_;exact zcX
   |false =>
    rw[w]at s
    have z:(x.n.ab != 14)=true:=by simp only[bne,w];rfl
    refine zdI ?_;rw[<-s];exact zak
 ·rintro _ _⟨rfl,rfl,s⟩;rw[bq,List.drop_length,bW]at s;refine zdI ?_;rw[<-s];exact zak
def b8{l:List Nd}{i:Nat}{n:Nd}(h:l[i]?=some n):(l.map aP)[i]?=some (aP n):=by rw[bO,h];rfl
def ep{l:List Int}{i:Nat}{n:Int}(h:l[i]?=some n):(l.map fun i=>[y4 i])[i]?=some [y4 n]:=by rw[bO,h];rfl
def Bw(p:Src)(m:∀n∈p.ah,n.au.length<=1000000000000):∀(f a:Nat)(t:T),sub p.ah f a=some t->GF prog 120 [.agg (aD p),y4 (a:Nat)] [] (.agg (cT t)) []:=by
 intro f
 induction f using Nat.strongRecOn with
 |_ f O =>
 intro a t h
 cases f with
 |zero=>simp[sub]at h
 |succ f =>
 rw[sub]at h
 cases W:p.ah[a]? with
 |none=>rw[W]at h;cases h
 |some n =>
 rw[W]at h;simp only at h
 cases r:po p.ah f n.au []with
 |none=>rw[r]at h;cases h
 |some l =>
 rw[r]at h;cases h;have u:=b8 W;have A:=m n (bB W);refine aj func120 ntmps120 ?_;refine GW.wk (Wk.Ge (i:=2) (o:=5) 89 6 rfl rfl) ?_
 refine GW.range (n.au.map fun i=>[y4 i]).length (fun k w b=>∃e H g,w=[U,y4 (a:Nat),.loc 0 0,U,.loc 1 0,.loc 2 0,U,U,U,U,U,U,U,U,U,U,U,U,U,ints n.au,y4 ((n.au.map fun i=>[GV.v (ii i)]).length:Int),y4 (k:Nat),U,U,U,U,U,U,U,U,U,U,U,U,U] /\
   b=[.box 28 (aD p),.box 89 zT,.box 89 [y4 n.ab,y4 n.at_,y4 n.n,.v (sv n.s),ints n.au,.vec 3 k],.vec 89 6 0 e] /\
   e.length=k/\e=bj H/\g<=f/\po p.ah g (n.au.drop k) H=some l) ?_ (by simp;omega) ?_ ?_ ?_
 ·exact⟨_,_,Wk.aW az,[],[],f,rfl,rfl,rfl,rfl,aQ _,r⟩
 ·rintro k _ _⟨_,_,_,rfl,rfl,_⟩;exact dN
 ·rintro k _ _ M⟨e,H,g,rfl,rfl,V,J,C,h⟩
  have M:k<n.au.length:=by simpa using M
  have hx:n.au[k]?=some n.au[k]:=by simp[M]
  rw[l8 M]at h;generalize n.au[k]=x at *
  cases g with
  |zero=>simp[po]at h
  |succ g =>
  rw[po]at h
  by_cases j:x<0
  ·rw[ae j]at h;cases h
  rw[D j]at h
  cases E:sub p.ah g x.toNat with
  |none=>rw[E]at h;cases h
  |some t =>
  rw[E]at h;simp only at h;have B:=O g X x.toNat t E;rw[Int.toNat_of_nonneg X]at B;have z:=ep hx;refine Z ?_;refine aS (aK 0 4 (.a 4 (.a 5 (.a 6 (.q 7 (.a 8 .nil)))))) ?_;refine av ?_;refine aJ [] B ?_;refine zar ?_;refine yX ?_;refine bp ?_;exact⟨rfl,rfl,_,_,Wk.aW az,_,H++[t],g,rfl,rfl,by rw[bf,V];rfl,by rw[xH,J];rfl,by omega,h⟩
 ·rintro _ _⟨e,H,g,rfl,rfl,V,J,C,h⟩;rw[bC,List.drop_length]at h
  have c:H=l:=by cases g<;>(rw[po]at h;cases h;rfl)
  subst c;subst J;refine bl (GW.wk (Wk.xe (i:=2) (o:=5) rfl rfl rfl rfl V) ?_);exact pZ
end Go.Xg
namespace Go.Xg
open Go.RowKit Go.Xw Go.Proofs Go.WideShapes Go.Deep
def flat(v:Value):Prop:=∀a n c,v≠.slice a n c
def P8(W:World)(v:Value)(xs:List Value):Prop:=∃a c,v=.slice a xs.length c/\(xs=[]\/∃b o,a=some ⟨b,o,none⟩/\xs.length<=c/\∀i x,xs[i]?=some x->iQ W.heap b (o+i)=some x/\flat x)
open Classical in
noncomputable def KW(W:World):Fz:=fun b o=>match iQ W.heap b o with
 |none=>none
 |some v=>if ∃a n c,v=.slice a n c then(if h:∃xs,P8 W v xs then some (.sl 1 (h.choose.map fun x=>[.v x]))else none)else some (.v v)
def BI{W:World}{b o:Nat}{v:Value}(h:iQ W.heap b o=some v)(hf:flat v):KW W b o=some (.v v):=by
 unfold KW;rw[h];simp only;rw[if_neg (by rintro⟨a,n,c,e⟩;exact hf a n c e)]
def Pc{W:World}{v:Value}{xs:List Value}(hx:P8 W v xs)(β:Bt):Rel (KW W) β v (.sl 1 (xs.map fun x=>[GV.v x])):=by
 obtain⟨a,c,rfl,h⟩:=hx
 rcases h with rfl|⟨b,o,rfl,hc,Zg⟩
 ·exact .sl0 a c 1
 ·have:=Rel.sl (K:=KW W) (β:=β) b o c 1 (xs.map fun x=>[GV.v x]) (fun i r hr=>by
   rw[List.getElem?_map]at hr
   cases hi:xs[i]? with
   |none=>rw[hi]at hr;cases hr
   |some x =>
    rw[hi]at hr;cases hr;have⟨h1,h2⟩:=Zg i x hi;refine⟨rfl,fun j g hg=>?_⟩
    cases j with
    |zero=>cases hg;rw[Nat.mul_one,Nat.add_zero];exact BI h1 h2
    |succ j=>simp at hg) (by rw[List.length_map];exact hc)
  rw[List.length_map]at this;exact this
def YP(W:World):nY (KW W) W:=fun b o g h=>by
 unfold KW at h
 cases hc:iQ W.heap b o with
 |none=>rw[hc]at h;cases h
 |some v =>
  rw[hc]at h;simp only at h;split at h
  ·split at h
   ·rename_i hex;cases h;exact⟨rfl,v,rfl,Pc hex.choose_spec _⟩
   ·cases h
  ·cases h;exact⟨rfl,v,rfl,.v v⟩
def Qo{W:World}{a:Addr}{n:Nat}{v:Value}(h:W.cell? (a.add n)=some v):iQ W.heap a.block (a.off+n)=some v:=by
 unfold Addr.add at h;split at h
 ·rename_i h0;subst h0;have⟨b,o,s⟩:=a;have hs:=World.cell?_spot h;simp only at hs;subst hs;rw[fY]at h;exact h
 ·have⟨b,o,s⟩:=a;simp only at h;rw[fY]at h;exact h
def Qe{W:World}{a:Addr}{v:Value}(h:W.cell? (a.add 0)=some v):a.spot=none:=by
 have:=World.cell?_spot h;unfold Addr.add at this;rw[if_pos rfl]at this;exact this
def zm{α:Type}{Q:Nat->α->Prop}:∀{n:Nat},(∀i,i<n->∃x,Q i x)->∃l:List α,l.length=n/\∀i x,l[i]?=some x->Q i x
 |0,_=>⟨[],rfl,fun i x h=>by simp at h⟩
 |n+1,h=>by
  obtain⟨l,h1,h2⟩:=zm (n:=n) fun i hi=>h i X
  have⟨x,hx⟩:=h n X;refine⟨l++[x],by simp[h1],fun i y hi=>?_⟩
  by_cases Dx:i<n
  ·rw[List.getElem?_append_left X]at hi;exact h2 i y hi
  ·have mo:=(List.getElem?_eq_some_iff.1 hi).1;rw[length_append,length_cons,length_nil]at mo
   have:i=n:=by omega
   subst this;rw[List.getElem?_append_right X,h1,Nat.sub_self]at hi
   cases hi;exact hx
def max_le{n:Nat}(h:n<=maxLen):n<=9223372036854775807:=by unfold maxLen at h;omega
section
variable{H:Type}{enc:TypeId × Value->H}{P:Program}{W:World}
end
section
variable{H:Type}{enc:TypeId × Value->H}{W:World}
end
end Go.Xg
namespace Go.Xg
open Go.RowKit Go.Xw Go.Proofs Go.Lib
section
variable{P:Program}{W:World}{name:String}{k:IntKind}{zs:List Int}
def Pv{g:Nat}{t e:TypeId}{n:Nat}
  (hg:P.globalNamed name=some g)(hty:(P.globals[g]?).map (·.type)=some t)(ht:P.underlying t=some (.array n e))(he:P.underlying e=some (.int k))(WR:P.cellsOf e=1)(NQ:P.cellsOf t=n)
  (h:VarReads P W name (tabData k zs)):TabIs P W name k zs:=by
 have⟨g',t',cs,fuel,p,Dw,Xj,aa7,hd⟩:=h;obtain rfl:=Option.some.inj (hg.symm.trans Dw);obtain rfl:=Option.some.inj (hty.symm.trans Xj);unfold TabIs;rw[aa7,<-cells_of_tab ht he WR NQ hd]
def Km{g n:Nat}(hg:P.globalNamed name=some g)(hn:zs.length=n)(h:TabIs P W name k zs):tA W g n:=by
 unfold TabIs World.var? at h;rw[hg]at h;simp only[Option.bind_some]at h
 cases hb:W.heap[g]? with
 |none=>rw[hb]at h;cases h
 |some o =>
  rw[hb]at h
  cases o with
  |cells cs E z =>
   simp only[Option.some.injEq]at h;exact⟨cs,E,z,hb,by rw[h];simpa using hn⟩
  |_=>cases h
def Mu{g:Nat}(hg:P.globalNamed name=some g)(h:TabIs P W name k zs){o:Nat}{z:Int}(ho:zs[o]?=some z):KW W g o=some (.v (.int k z)):=by
 have mo:=(List.getElem?_eq_some_iff.1 ho).1;have hc:=h.cell hg o mo;rw[getD_eq_getElem?_getD,ho,fY]at hc
 exact BI hc fun a n c e=>by cases e
end
theorem VA{W:World}(hp:VarReads Tryz.prog W "internal/strconv.uint64pow10" (tabData .u64 vV))(hs:VarReads Tryz.prog W "strings.asciiSpace" (tabData .u8 wc))(hW:W.ShapedOpen Tryz.prog):mb (KW W) (fun _=>.no) W:=by
 have gp:Tryz.prog.globalNamed "internal/strconv.uint64pow10" = some 3:=by kernel_rfl
 have gs:Tryz.prog.globalNamed "strings.asciiSpace" = some 1:=by kernel_rfl
 have tp:=Pv gp (t:=328) (by kernel_rfl) Tryz.underlying328 (k:=.u64) (by kernel_rfl) (by kernel_rfl) (by kernel_rfl) hp;have ts:=Pv gs (t:=306) (by kernel_rfl) Tryz.underlying306 (k:=.u8) (by kernel_rfl) (by kernel_rfl) (by kernel_rfl) hs;obtain⟨m,hm⟩:=cell_of_shapedOpen_int (g:=0) (zero:=#[.int .i64 0]) (t:=3) hW (of_decide_eq_true (by kernel_rfl)) (by kernel_rfl) rfl (by kernel_rfl) (by kernel_rfl) Tryz.underlying3;rw[fY]at hm;refine⟨⟨m,fun b o g h=>?_⟩,Km gp aN tp,Km gs aN ts,fun i b h=>by cases h⟩;unfold zE at h;split at h
 ·rename_i hb;subst hb;split at h
  ·cases h;exact BI hm fun a n c e=>by cases e
  ·cases h
 ·split at h
  ·rename_i hb;subst hb
   cases ho:vV[o]? with
   |none=>rw[ho]at h;cases h
   |some z=>rw[ho]at h;cases h;exact Mu gp tp ho
  ·split at h
   ·rename_i hb;subst hb
    cases ho:wc[o]? with
    |none=>rw[ho]at h;cases h
    |some z=>rw[ho]at h;cases h;exact Mu gs ts ho
   ·cases h
def GF.calls{P:Program}{f:FuncId}{gs:am}{g:GV}(h:GF P f gs [] g []){W:World}{vs:List Value}(hv:bA (KW W) (fun _=>.no) vs gs)(hT:mb (KW W) (fun _=>.no) W) :
  nH P f vs W fun v w'=>Below W.heap.size W w'/\∃K β,Rel K β v g:=by
 have hI:Inv ⟨W,gn,KW W,fun _=>.no,0⟩ (KW W) (fun _=>.no) [] W :=
  ⟨Ext.refl W,cY.refl _,dO.refl _,fun _ _=>rfl,YP W,fun i x h=>by simp at h,fun _ _=>rfl,fun i j b h=>zff,fun i b h=>zff,fun b o g h=>.inl h,hT⟩
 refine(h ⟨W,gn,KW W,fun _=>.no,0⟩ (KW W) (fun _=>.no) W vs rfl hI hv).mono ?_;rintro v w'⟨K',fS,x,bE,h1,h2,rfl,rfl⟩;exact⟨h1.ext.below,K',fS,h2⟩
end Go.Xg
namespace Go.Xg
open Go.RowKit Go.Xw
def iy(n:Int):bits .and .i64 n 4294967295=n%4294967296:=by
 have h:(BitVec.ofInt 64 4294967295).toNat=2^32-1:=by decide
 have c:(BitVec.ofInt 64 n &&& BitVec.ofInt 64 4294967295).toNat=(n%((2^64:Nat):Int)).toNat%2^32:=by
  rw[BitVec.toNat_and,BitVec.toNat_ofInt,h,Nat.and_two_pow_sub_one_eq_mod]
 show IntKind.i64.wrap ((BitVec.ofInt 64 n &&& BitVec.ofInt 64 4294967295).toNat:Nat)=n%4294967296;rw[c,IntKind.wrap_i64];omega
section
variable{P:Program}{fr:am}{Γ:ap}
def YG.iy{x y:Operand}{t b:TypeId}{a:Int}(hx:a8 fr x=y4 a)(J:a8 fr y=y4 4294967295):YG P (.binOp .and t x y b) fr Γ (y4 (a%4294967296)) :=
 YG.v2 hx J fun l w h k d r u c=>by
  simp[execOp,eqGuard,h,k,binOp,intBits_and,Go.Xg.iy]
end
end Go.Xg
namespace Go.Xw
open Go.RowKit
class CX (P:Program) (t:TypeId) (e:outParam TypeId):Prop where
 is:P.underlying t=some (.slice e)/\∃i,P.info? e=some i/\i.zero=some (.int .u8 0)/\i.size=1/\i.bytes=1
def Sr(P:Program)(t e:TypeId):Bool :=
 (match P.underlying t with|some (.slice u)=>u==e|_=>false)&&(match P.info? e with|some i=>(match i.zero with|some (.int .u8 0)=>true|_=>false)&&i.size==1&&i.bytes==1|none=>false)
theorem CX.mk'{P:Program}{t e:TypeId}(h:Sr P t e=true):CX P t e:=by
 unfold Sr at h;rw[aU]at h;have⟨M,v⟩:=h;refine⟨?_,?_⟩
 ·grind
 grind
section
variable{P:Program}{Q:ma}{l:List Value}{w:World}{ops:Array Oper}{rest:List Oper}{d:Option Tmp}{ty:TypeId}{pos:String}{af:Array Edge}
def lO(s:ai):List Value:=s.map fun c=>.int .u8 (c.toNat:Int)
theorem WL.BQ{s x:Operand}{t u e:Nat}[hT:CX P t e][hU:qp P u]{base n:Nat}{xs:List Value}{v:Value}{str:ai}(hs:ev l s=v)(o:gT w base e 1 v n xs)(hx:ev l x=sv str)
  (T:n+str.length<=140737488355328)(C:base<=w.heap.size)
  (h:∀B w',gT w' base e 1 B (n+str.length) (xs++lO str)->Ext (fun b=>v.ownBlock=some b) w w'->(∀b,B.ownBlock=some b->v.ownBlock=some b\/w.heap.size<=b)->(Ext gn w w'\/B.ownBlock=v.ownBlock)->WL P ops Q rest (put l d B) w') :
  WL P ops Q (⟨d,.call ⟨.builtin .append,#[s,x],#[t,u]⟩,ty,pos,af,none⟩::rest) l w:=by
 have⟨M,i,L,V,H,E⟩:=hT.is;have z:=hU.und
 have A:(⟨str.toArray⟩:ByteArray).size=str.length:=by rfl
 have F:Lib.strCells ⟨str.toArray⟩=lO str:=by rfl
 have⟨B,w',hr,h2,N,h4⟩:=Lib.run_append_own_string (P:=P) w base t u ty e i M z L V H E v n xs o ⟨str.toArray⟩ zfh ze4 C;rw[A,F]at h2;rw[A]at h4;have R:Ext (fun b=>v.ownBlock=some b) w w':=⟨N.os,N.tape,N.output,N.size,fun j hj hn=>N.block j hj fun he=>hn he.symm⟩;have S:(Builtin.append_ #[t,u] ty #[v,sv str]).run P w=.ok B w':=hr;refine WL.val (v:=B) (w':=w') (by simp[execOp,resolve,invoke,builtin,hs,hx,S]) (h B w' h2 R ?_ ?_)
 ·intro b' Jk
  rcases o.2 with⟨rfl,rfl⟩|⟨g,c,cur,rfl,W,hg,DA,zp,F,J⟩
  ·by_cases hm:str.length=0
   ·grind
   ·have r:=run_append_nil_string (P:=P) w t u ty e i (.int .u8 0) M z L V ⟨str.toArray⟩ ze4 ze4 ze3
    exact zbJ
  ·by_cases G:n+str.length<=c
   ·have O:cur.size=c:=by omega
    have r:=Lib.run_append_room_string (P:=P) w t u ty e i M z L H g n c cur hg ⟨str.toArray⟩ ze4 ze4
    exact zbJ
   ·have q:∀j u,xs[j]?=some u->w.cell? ((⟨g,0,none⟩:Addr).add j)=some u:=World.ownsRow.cells (g:=g) o rfl;have r:=Lib.run_append_grow_string (P:=P) w t u ty e i (.int .u8 0) M z L V ⟨g,0,none⟩ n c xs ze3 q ⟨str.toArray⟩ ze4 ze4 zfQ
    exact zbJ
 ·rcases o.2 with⟨rfl,rfl⟩|⟨g,c,cur,rfl,W,hg,DA,zp,F,J⟩
  ·exact zbJ
  ·by_cases G:n+str.length<=c
   ·have O:cur.size=c:=by omega
    have r:=Lib.run_append_room_string (P:=P) w t u ty e i M z L H g n c cur hg ⟨str.toArray⟩ ze4 ze4
    exact zbJ
   ·have q:∀j u,xs[j]?=some u->w.cell? ((⟨g,0,none⟩:Addr).add j)=some u:=World.ownsRow.cells (g:=g) o rfl;have r:=Lib.run_append_grow_string (P:=P) w t u ty e i (.int .u8 0) M z L V ⟨g,0,none⟩ n c xs ze3 q ⟨str.toArray⟩ ze4 ze4 zfQ;rw[hr]at r;cases r;exact zda
theorem R.jk{x:Operand}{s:TypeId}{i F:Nat}[z:dV P s i F 1 false]{vs:List Value}{v:Value}(hx:ev l x=.agg vs.toArray)(V:vs[F]?=some v):fu P l w (.field s x i) v:=fun d ty pos af=>by
 have⟨z⟩:=z;unfold Lf at z;split at z
 ·rename_i e n;split at z
  ·rename_i f t;simp only[aU,beq_iff_eq,bne_iff_ne,ne_eq]at z;have⟨⟨⟨M,A⟩,B⟩,N⟩:=z
   have S:(isAgg f.type).run P w=.ok false w:=by
    cases G:P.underlying f.type with
    |none=>grind
    |some d =>
     rw[G]at N;unfold isAgg;rw[Sem.run_bind,run_underlying G w]
     cases d<;>simp_all[yt]
   have T:vs.toArray[f.offset]?=some v:=by grind
   have q:vs[f.offset]?=some v:=by grind
   simp[execOp,Instr.field,hx,run_underlying n,t,part,asAgg,S,T,q]
  grind
 grind
end
end Go.Xw
namespace Go.Xg
open Go.RowKit Go.Xw
open GV (U)
section
variable{P:Program}{m:Nat}{Q:dU}{fr:am}{Γ:ap}{ops:Array Oper}{rest:List Oper}{d:Option Tmp}{op:Op}{ty:TypeId}{pos:String}{af:Array Edge}
theorem YG.jk{x:Operand}{s:TypeId}{i F:Nat}[z:dV P s i F 1 false]{cs:am}{g:GV}(hx:a8 fr x=.agg cs)(hg:cs[F]?=some g):YG P (.field s x i) fr Γ g:=fun B K n w l N S=>by
 have h:=S.ev x;rw[hx]at h;generalize T:ev l x=v at h
 cases h with
 |agg e _ V h =>
  have t:F<e.length:=by grind
  exact⟨e[F],R.jk T zfz,h F _ g zfz hg⟩
abbrev cX(s:ai):List am:=s.map fun c=>[.v (.int .u8 (c.toNat:Int))]
theorem GL.BQ{s x:Operand}{t u e:Nat}[hT:CX P t e][hU:qp P u]{i n fz:Nat}{rows:List am}{str:ai}(hx:a8 fr x=.v (sv str))(hs:a8 fr s=.vec i n)(F:Γ[i]?=some (.vec e 1 fz rows))(hn:rows.length=n)(A:str.isEmpty=false)
  (hb:n+str.length<=140737488355328)
  (h:GL P m ops Q rest (bN fr d (.vec i (n+str.length))) (oset Γ i (.vec e 1 fz (rows++cX str)))) :
  GL P m ops Q (⟨d,.call ⟨.builtin .append,#[s,x],#[t,u]⟩,ty,pos,af,none⟩::rest) fr Γ:=fun B K β w l hm hI J=>by
 subst hn
 have A:str≠[]:=by grind
 have⟨h0,xs,o1,H,o3,o4,o5,o6⟩:=hI.ob i _ F;have k:=J.ev s;rw[hs]at k
 have Jw:ev l s=h0:=by
  generalize hv:ev l s=v at k
  cases k with
  |vec _ _ a c hh =>
   grind
 have S:(cX str).flatten=str.map fun c=>GV.v (.int .u8 (c.toNat:Int)):=by
  unfold cX;clear hx A hb h;generalize str=s
  induction s with
  |nil=>rfl
  |cons c r ih=>grind
 have hlen:(cX str).length=str.length:=by simp
 refine WL.BQ (base:=0) (v:=h0) (n:=rows.length) (xs:=xs) (str:=str) Jw H (J.eT hx) hb (bg _) ?_;intro v' w' C z T W
 obtain⟨K',hK,N6,q⟩:=hI.grow F o1 ⟨H,o3⟩ (news:=cX str) (ns:=lO str) ze3 z T (by rw[S];exact(by
   have:(str.map fun c=>GV.v (.int .u8 (c.toNat:Int)))=gB (lO str):=by simp[gB,lO]
   rw[this];exact bA.self)) (fun r hr=>by
   grind[GV.pc]) ze3 (fun b j o v ho hv=>by
  rcases W with G|G
  ·exact G.c hv (fun h=>h)
  ·have V:o<xs.length:=by rw[H.1];omega
   have⟨b2,c2,O,_,_,N⟩:=H.cells.2 ze3
   have L:b2=b:=by rw[O]at j;cases j;rfl
   subst L;have E:=N o xs[o] (by simp[V]);rw[fY,hv]at E;cases E;have⟨b3,c3,R,_,_,hc3⟩:=C.cells.2 zfi
   have M:b3=b2:=by rw[R,j]at G;cases G;rfl
   subst M
   rw[<-fY];grind)
 rw[<-bS]at q;refine h B K' _ w' _ hm q ((J.mono hK N6).put d ?_);obtain⟨a,c,rfl⟩:=C.shape;exact .vec i _ a c ⟨_,_,bH,by simp,fun _=>by rfl⟩
end
def GF.XG{P:Program}{f:FuncId}{vs:List Value}{v:Value}(h:∀K β w,mb K β w->nY K w->nH P f vs w fun x w'=>x=v/\Ext gn w w'):GF P f (vs.map GV.v) [] (.v v) []:=fun B K β w e G N S=>by
 have T:e=vs:=by
  have⟨M,z⟩:=S;apply ext_getElem
  ·grind
  ·intro i A O;have:=z i e[i] (.v vs[i]) (by simp[A]) (by simp[O]);exact Rel.eP this
 subst T
 exact(h K β w N.tab N.fz).mono fun x w' ⟨M,z⟩=>⟨K,β,.v v,[],N.same z,by rw[M];exact .v _,rfl,rfl⟩
def mb.cell{K:Fz}{β:Bt}{w:World}(h:mb K β w)(hf:nY K w){b o:Nat}{x:Value}(k:∀m,zE m b o=some (.v x)):iQ w.heap b o=some x:=by
 have⟨m,h⟩:=h.le;have⟨_,v,T,r⟩:=hf b o _ (h b o _ (k m));rw[T,Rel.eP r]
theorem mb.maxLen{K:Fz}{β:Bt}{w:World}(h:mb K β w)(hf:nY K w):∃m,w.cell? ⟨0,0,none⟩=some (.int .i64 m):=by
 have⟨m,h⟩:=h.le
 have k:zE m 0 0=some (.v (.int .i64 m)):=by rfl
 have⟨_,v,T,r⟩:=hf _ _ _ (h _ _ _ k)
 grind[fY,Rel.eP]
def tA.all{K:Fz}{β:Bt}{w:World}(h:mb K β w)(hf:nY K w){b n:Nat}{zs:List Value}(A:tA w b n)(hn:zs.length=n)(k:∀m o x,zs[o]?=some x->zE m b o=some (.v x)):∃E z,w.heap[b]?=some (.cells zs.toArray E z):=by
 have⟨J,E,z,M,C⟩:=A;refine⟨E,z,?_⟩
 have:J=zs.toArray:=by
  apply Array.ext
  ·grind
  ·intro i t B
   have hx:zs[i]?=some zs.toArray[i]:=by simp
   have F:=h.cell hf (b:=b) (o:=i) (fun m=>k m i _ hx)
   grind[iQ,fY,cell_of_row]
 grind
def GF.abf{P:Program}{f:FuncId}{vs us:List Value}{E:TypeId}(h:∀K β w,mb K β w->nY K w->nH P f vs w fun x w'=>x=.slice (some ⟨w.heap.size,0,none⟩) us.length us.length/\w'=w.alloc (.cells us.toArray E)):GF P f (vs.map GV.v) [] (.sl 1 (us.map fun u=>[.v u])) []:=fun B K β w s H N S=>by
 have W:s=vs:=by
  have⟨M,z⟩:=S;apply ext_getElem
  ·grind
  ·intro i A O;have:=z i s[i] (.v vs[i]) (by simp[A]) (by simp[O]);exact Rel.eP this
 subst W
 refine(h K β w N.tab N.fz).mono fun x w' ⟨M,z⟩=>?_
 subst M;subst z;have T:=ur.of w (.cells us.toArray E);obtain⟨V,G⟩:=N.uC T (cs:=us.map .v) bA.self (fun g C=>by grind[GV.pc]);refine⟨_,β,.sl 1 (us.map fun u=>[.v u]),[],G,?_,rfl,rfl⟩;have:=Rel.sl (K:=j1 K w.heap.size (us.map .v)) (β:=β) w.heap.size 0 us.length 1 (us.map fun u=>[.v u]) (fun i r t=>?_) ze6
 ·grind
 grind[j1]
section
variable{B:Bs}{K:Fz}{β:Bt}{Γ:ap}{w:World}
theorem Inv.swap{i:Nat}{y:Ob}(h:Inv B K β Γ w)(k:gM K β w i y):Inv B K β (oset Γ i y) w:=by
 refine⟨h.ext,h.kle,h.ble,h.loc,h.fz,fun j x G=>?_,fun j G=>h.out j zfe,h.dis,h.own,h.kn,h.tab⟩;rw[bS,ik]at G;split at G
 ·grind
 ·exact h.ob j x G
def Inv.wm{i E k:Nat}{rows:List am}{x:Value}(h:Inv B K β Γ w)(hi:Γ[i]?=some (.vech E k rows x)):Inv B K β (oset Γ i (.vec E k 0 rows)) w:=by
 have⟨u,M,v,z,N,S⟩:=h.ob i _ hi;exact h.swap ⟨x,u,M,v,z,N,fun b A=>⟨fun o _=>S b A o,fun o g l=>by omega⟩,bg _⟩
def Inv.sw{i E k:Nat}{rows:List am}(h:Inv B K β Γ w)(hi:Γ[i]?=some (.vec E k 0 rows)):∃a c,β i=.gr (.slice a rows.length c) rows.length/\Inv B K β (oset Γ i (.vech E k rows (.slice a rows.length c))) w:=by
 have⟨x,u,M,v,z,N,S,T⟩:=h.ob i _ hi;obtain⟨a,c,rfl⟩:=v.shape;exact⟨a,c,M,h.swap ⟨u,M,v,z,N,fun b A o=>(S b A).1 o X⟩⟩
theorem nz{i:Nat}{x y:Ob}(h:Γ[i]?=some x):(oset Γ i y)[i]?=some y:=by
 grind[List.getElem?_eq_some_iff,bS]
theorem lY{i:Nat}{x y:Ob}:oset (oset Γ i x) i y=oset Γ i y:=by grind[bS,List.set_set]
def Inv.gr{i E k:Nat}{rows:List am}{x:Value}(h:Inv B K β Γ w)(hi:Γ[i]?=some (.vech E k rows x)):β i=.gr x rows.length:=by
 have⟨u,M,_⟩:=h.ob i _ hi;exact M
def Inv.rR{i E k:Nat}{rows:List am}{x:Value}(h:Inv B K β Γ w)(hi:Γ[i]?=some (.vech E k rows x)):∃e,cY K e/\Rel e β x (.sl k rows)/\Inv B e β (oset Γ i (.vec E k rows.length rows)) w:=by
 have⟨J,M,v,A,N,T⟩:=h.ob i _ hi;have⟨e,S,t,G⟩:=(h.wm hi).ky (nz hi);rw[<-bS,lY]at G;refine⟨e,S,?_,G⟩
 rcases v.2 with⟨s,R⟩|⟨g,F,z,s,_,_,C,_⟩
 ·have:rows=[]:=jF R;subst this;subst s;exact .sl0 _ _ _
 ·subst s;refine .sl g 0 F k rows (fun j r u=>⟨(N r (bB u)).1,fun q W H=>?_⟩) C;rw[iX];exact t _ g M rfl _ W (se N u H)
end
section
variable{P:Program}{m:Nat}{Q:dU}{fr:am}{Γ:ap}{ops:Array Oper}{rest:List Oper}{d:Option Tmp}{op:Op}{ty:TypeId}{pos:String}{af:Array Edge}
theorem Wk.jO(E k:Nat):Wk m fr Γ fr (Γ++[.vech E k [] y6]):=fun B K β w l H N S=>by
 have R:β Γ.length=.no:=N.out _ (aQ _);have G:=N.BP (w':=w) (E:=E) (k:=k) (x:=.slice none 0 0) (xs:=[]) (rows:=[]) (Ext.refl w) (gT.nil w 0 E k) (fun b v=>by cases v) bA.nil (fun r s=>by cases s);have V:dO β (e9 β Γ.length (.gr y6 ([]:List am).length)):=gK zfu;refine⟨K,_,?_,S.mono (cY.refl K) V⟩;have v:e9 β Γ.length (.gr y6 ([]:List am).length) Γ.length=.gr y6 ([]:List am).length:=bH;have:=G.swap (i:=Γ.length) (y:=.vech E k [] y6) ⟨[],v,gT.nil w 0 E k,bA.nil,(fun r s=>by cases s),(fun b v=>by cases v)⟩
 grind[bS]
theorem Wk.uR{t i E k:Nat}{rows:List am}{x:Value}(o:cJ fr t=.v x)(z:jc fr t=true)(H:Γ[i]?=some (.vech E k rows x)):Wk m fr Γ (bU fr t (.sl k rows)) (oset Γ i (.vec E k rows.length rows)):=fun B K β w l J N S=>by
 have⟨e,T,r,G⟩:=N.rR H;refine⟨e,β,G,?_⟩;have V:nth l t=x:=Rel.eP (by rw[<-o];exact S.nth t);have:=(S.mono T (dO.refl β)).eV t r
 grind[Aw,nK]
theorem bA.bU{K:Fz}{β:Bt}{x:Value}{g:GV}(r:Rel K β x g):∀{vs:List Value}{cs:am}{o:Nat},bA K β vs cs->cs[o]?=some (.v x)->bA K β vs (bU cs o g):=by
 intro vs
 induction vs with
 |nil=>grind
 |cons v vs O =>
  intro cs o h k
  cases cs with
  |nil=>simp at k
  |cons c cs =>
   have⟨a1,M⟩:=h.nQ
   cases o with
   |zero=>cases k;have T:=Rel.eP a1;grind[Xg.bU]
   |succ o=>exact .cons a1 (O M ze3)
theorem Wk.pL{i o j E k:Nat}{T:TypeId}{cs:am}{rows:List am}{x:Value}(hi:Γ[i]?=some (.box T cs))(n:cs[o]?=some (.v x))(L:Nat.beq i j=false)(H:Γ[j]?=some (.vech E k rows x)):Wk m fr Γ fr (oset (oset Γ j (.vec E k rows.length rows)) i (.box T (bU cs o (.sl k rows)))):=fun B K β w l J O S=>by
 have q:i≠j:=by grind
 have⟨e,V,r,G⟩:=O.rR H;have⟨b,s,M,z,A,N⟩:=G.ob i (.box T cs) zfe;exact⟨e,β,G.swap ⟨b,s,M,z,bA.bU r A n,N⟩,S.mono V (dO.refl β)⟩
def dw:List am->Nat->Nat->GV->List am
 |[],_,_,_=>[]
 |r::rs,0,o,g=>bU r o g::rs
 |r::rs,n+1,o,g=>r::dw rs n o g
def FG:∀(l:am)(o:Nat)(g:GV),(bU l o g).length=l.length
 |[],_,_=>rfl
 |_::l,0,_=>rfl
 |_::l,o+1,g=>by simp[bU,FG l o g]
def zX:∀(a b:am)(o:Nat)(g:GV),bU (a++b) (a.length+o) g=a++bU b o g
 |[],b,o,g=>by simp
 |x::a,b,o,g=>by
  rw[cons_append,length_cons,show a.length+1+o=(a.length+o)+1 by omega,bU,zX a b o g];rfl
def Dt:∀(a b:am)(o:Nat)(g:GV),o<a.length->bU (a++b) o g=bU a o g++b
 |[],b,o,g,h=>by simp at h
 |x::a,b,0,g,h=>rfl
 |x::a,b,o+1,g,h=>by simp[bU,Dt a b o g ze3]
theorem FH{l:am}{o:Nat}{g x:GV}(h:x∈bU l o g):x∈l\/x=g:=by
 induction l generalizing o with
 |nil=>cases h
 |cons y l O =>
  cases o with
  |zero=>grind[bU,ew]
  |succ o=>grind[bU,mem_cons_self,ew]
theorem eb:∀(rows:List am)(i o:Nat)(g:GV),(dw rows i o g).length=rows.length
 |[],_,_,_=>rfl
 |r::rs,0,_,_=>rfl
 |r::rs,n+1,o,g=>by simp[dw,eb rs n o g]
theorem si{k:Nat}{o:Nat}{g:GV}(q:o<k):∀{rows:List am}{i:Nat},fM k rows->i<rows.length->(dw rows i o g).flatten=bU rows.flatten (i*k+o) g
 |[],_,_,h=>by simp at h
 |r::rs,0,l,_=>by
  have:=(l r (mem_cons_self)).1;rw[dw,flatten_cons,flatten_cons,Nat.zero_mul,iX,Dt _ _ _ _ X]
 |r::rs,n+1,l,h=>by
  have:=(l r (mem_cons_self)).1;rw[dw,flatten_cons,flatten_cons,si q (fun r s=>l r (ew _ s)) ze3,show(n+1)*k+o=r.length+(n*k+o) by grind,zX]
theorem vZ{k:Nat}{o:Nat}{g:GV}(hg:g.pc=true):∀{rows:List am}{i:Nat},fM k rows->fM k (dw rows i o g)
 |[],_,_=>fun r s=>by cases s
 |r::rs,0,l=>fun j s=>by
  simp only[dw,List.mem_cons]at s
  rcases s with rfl|s
  ·exact⟨by rw[FG];exact(l r mem_cons_self).1,fun x hx=>by
    rcases FH hx with h|h
    ·exact(l r mem_cons_self).2 x h
    grind⟩
  ·exact l j (ew _ s)
 |r::rs,n+1,l=>fun j s=>by
  simp only[dw,List.mem_cons]at s
  rcases s with rfl|s
  ·exact l _ mem_cons_self
  ·exact vZ hg (fun r s=>l r (ew _ s)) j s
theorem Gy{a b:List am}{r:am}{o:Nat}{g:GV}:dw (a++r::b) a.length o g=a++bU r o g::b:=by
 induction a with
 |nil=>rfl
 |cons x a O=>grind[dw,bU]
theorem Wk.LX{i idx o j E k T k':Nat}{rows ks:List am}{x h:Value}{r:am}(hi:Γ[i]?=some (.vech T k rows h))(s:rows[idx]?=some r)(t:r[o]?=some (.v x))(R:Nat.beq i j=false)(J:Γ[j]?=some (.vech E k' ks x)) :
  Wk m fr Γ fr (oset (oset Γ j (.vec E k' ks.length ks)) i (.vech T k (dw rows idx o (.sl k' ks)) h)):=fun B K β w l c O V=>by
 have q:i≠j:=by intro e;simp_all
 have⟨n,W,H,G⟩:=O.rR J;have⟨u,b,z,A,N,S⟩:=G.ob i (.vech T k rows h) zfe;have M:=(bR s).1
 have L:o<k:=by rw[<-(N r (bB s)).1];grind
 exact⟨n,β,G.swap ⟨u,by grind[eb],by grind[eb],by rw[si L N M];grind[bA.bU,se],vZ rfl N,S⟩,V.mono W (dO.refl β)⟩
def YG.ba{x y:Operand}{t e:TypeId}{k:Nat}[W:lN P t e k](i:Nat){v:Value}{C:IntKind}{j E:Nat}{rows:List am}(hx:a8 fr x=.v v)(J:a8 fr y=.v (.int C j))(G:Γ[i]?=some (.vech E k rows v))(H:j<rows.length):YG P (.indexAddr t x y) fr Γ (.vp i rows.length k j 0):=fun B K β w l N S=>by
 have T:=S.eT hx;have⟨u,M,A,L,O,V⟩:=N.ob i _ G
 rcases A.2 with⟨z,n⟩|⟨g,F,cur,z,_,b,_⟩
 ·omega
 ·subst z;exact⟨_,R.jM T (S.eT J) H,.vp i _ k j 0 _ ⟨_,_,M,aQ _,fun _=>⟨g,rfl,by simp⟩⟩⟩
def YG.Wz{x:Operand}{s:TypeId}{f F k:Nat}{agg:Bool}[H:dV P s f F k agg]{i n k' idx o E:Nat}{rows:List am}{v:Value}(hx:a8 fr x=.vp i n k' idx o)(G:Γ[i]?=some (.vech E k' rows v))(hn:rows.length=n):YG P (.fieldAddr s x f) fr Γ (.vp i n k' idx (o+F)):=fun B K β w l N S=>by
 have h:=S.ev x;rw[hx]at h;generalize T:ev l x=u at h
 cases h with
 |vp _ _ _ _ _ _ h =>
  have⟨t,m,M,z,A⟩:=h;rw[N.gr G]at M;cases M;obtain⟨b,C,rfl⟩:=A hn;exact⟨_,R.QE T,.vp i n k' idx _ _ ⟨_,_,N.gr G,z,fun _=>⟨b,C,by simp⟩⟩⟩
theorem YG.ldH{x:Operand}{t:TypeId}[T:Ty P t false 1]{i n k idx o E:Nat}{rows:List am}{v:Value}{r:am}{g:GV}(hx:a8 fr x=.vp i n k idx o)(e:Γ[i]?=some (.vech E k rows v))(hn:rows.length=n)(M:rows[idx]?=some r)(hg:r[o]?=some g):YG P (.load t x) fr Γ g:=fun B K β w l H G=>by
 have h:=G.ev x;rw[hx]at h;generalize hv:ev l x=u at h
 cases h with
 |vp _ _ _ _ _ _ h =>
  have⟨O,m,s,S,z⟩:=h;have⟨xs,j,A,C,F,_⟩:=H.ob i _ e;rw[s]at j;cases j;obtain⟨b,J,rfl⟩:=z hn;have⟨u,W,q⟩:=C.at (se F M hg);have⟨N,c,L,_,_,V⟩:=A.cells.2 ze3;subst L;cases J
  grind[R.ld,fY]
def Ax{v:Value}:∀(l:List Value)(n o:Nat),o<n->(eV l o v).take n=eV (l.take n) o v
 |[],n,o,h=>by simp[eV]
 |x::l,0,o,h=>by omega
 |x::l,n+1,0,h=>by simp[eV]
 |x::l,n+1,o+1,h=>by simp[eV,Ax l n o X]
theorem qP{v:Value}:∀(l:List Value)(o:Nat),(eV l o v).length=l.length
 |[],o=>rfl
 |x::l,0=>rfl
 |x::l,o+1=>by simp[eV,qP l o]
theorem GL.xw{x y:Operand}{t:TypeId}[hT:Ty P t false 1]{i n k idx o E:Nat}{rows:List am}{v:Value}{r:am}{g:GV}(hx:a8 fr x=.vp i n k idx o)(vG:Γ[i]?=some (.vech E k rows v))(hn:rows.length=n)(hr:rows[idx]?=some r)(hol:Nat.blt o r.length=true)
  (hy:mI (a8 fr y)=some [g])(h1:g.one=true)(hp:g.pc=true)(h:GL P m ops Q rest (bN fr d (.v undef)) (oset Γ i (.vech E k (dw rows idx o g) v))):GL P m ops Q (⟨d,.store t x y,ty,pos,af,none⟩::rest) fr Γ:=fun B K β w l hm e T=>by
 have G:=T.ev x;rw[hx]at G;generalize hv:ev l x=u at G
 cases G with
 |vp _ _ _ _ _ _ hh =>
  have⟨h0,mm,e1,e2,e3⟩:=hh;have⟨xs,h4,h5,h6,h7,h8⟩:=e.ob i _ vG;rw[e1]at h4;cases h4;obtain⟨b,hb,rfl⟩:=e3 hn;have mo:=(bR hr).1
  have aaX:o<k:=by rw[<-(h7 r (bB hr)).1];simp_all
  have⟨us,M,N⟩:=(T.ev y).cells hy
  obtain⟨s,rfl⟩:∃s,us=[s]:=by
   have:=N.1
   match us,this with
   |[s],_=>simp
  have O:Rel K β s g:=N.2 0 s g rfl rfl
  have hq:idx*k+o<rows.length*k:=by
   have:(idx+1)*k<=rows.length*k:=rU k mo
   grind
  rcases h5.2 with⟨e5,e6⟩|⟨S,z,cur,e5,C,hg,L,zp,pf,NY⟩
  ·omega
  ·subst e5;simp only[Value.ownBlock,Option.some.injEq]at hb;subst hb;have WO:rows.length*k<=z*k:=rU k L
   refine WL.st (t:=t) (k:=1) hv rfl hg ze3 X (by rw[M];have:=(lX (O.one h1)).2;grind[lI]) fun w' H=>?_
   rw[M]at H
   have AU:setL cur (idx*k+o) ([s]:List Value)=(eV cur.toList (idx*k+o) s).toArray:=by
    simp only[setL];rw[<-yl]
   simp only[List.toList_toArray,AU]at H
   have abw:rows.flatten.length=rows.length*k:=by grind
   have how:gT w' 0 E k (.slice (some ⟨S,0,none⟩) rows.length z) rows.length (eV xs (idx*k+o) s) :=
    ⟨by grind[qP],.inr ⟨S,z,_,rfl,C,H.blk,L,zp,by simp[qP,pf],by simp_all[List.toList_toArray,Ax]⟩⟩
   have Xe:bA K β (eV xs (idx*k+o) s) (bU rows.flatten (idx*k+o) g):=by
    have gen:∀(R:List Value)(A:am)(q:Nat),bA K β R A->bA K β (eV R q s) (bU A q g):=by
     intro R
     induction R with
     |nil=>intro A q h;have:A=[]:=jF h.1.symm;subst this;exact h
     |cons v R ih =>
      intro A q h
      cases A with
      |nil=>grind
      |cons c A =>
       have⟨a1,a2⟩:=h.nQ
       cases q with
       |zero=>exact .cons O a2
       |succ q=>exact .cons a1 (ih A q a2)
    grind
   have J:(β i).has S:=by rw[e1];exact rfl
   have V:Inv B K β (oset Γ i (.vech E k (dw rows idx o g) (.slice (some ⟨S,0,none⟩) rows.length z))) w':=by
    refine⟨e.ext.step H.ext (fun j F=>?_),e.kle,e.ble,e.loc,e.fz.ext H.ext (fun b' o' g' Dw he=>?_),fun j y F=>?_,fun j F=>e.out j zfe,e.dis,e.own,e.kn,e.tab.step H.ext (fun j F=>⟨i,by grind⟩) (cY.refl K) (fun i b2 h=>.inl ⟨i,h⟩)⟩
    ·subst F;exact(e.own i _ J).symm
    ·grind
    ·rw[bS,ik]at F;split at F
     ·grind[eb,si,vZ,gM]
     ·rename_i Jm;refine(e.ob j y F).ext H.ext (fun b' W he=>?_) (cY.refl K) (dO.refl β) rfl (fun _ _ _ h=>h);subst he;exact Jm (e.dis i j _ J W)
   exact h B K β w' _ hm V (T.put d (.v _))
theorem GL.ij{x:Operand}{ts:Tmp}{t e k C:Nat}{z:List Value}[hT:nF P t e k C][hZ:og P t e k z]{q O:Tmp}{PA:TypeId}{L:String}{N:Array Edge}(i:Nat){n:Nat}{rows:List am}{gs:am}{v:Value}
  (hx:mI (a8 fr x)=some gs)(hk:Nat.beq gs.length k=true)(h1:oa gs=true)(hp:pg gs=true)(hs:cJ fr ts=.v v)(hsd:Nat.beq ts q=false)(hd:jc fr q=true)(s:Γ[i]?=some (.vech e k rows v))(hn:rows.length=n)
  (R:(n+1<=9223372036854775807/\(n+1)*C<=140737488355328)/\k<=16777216)
  (h:∀a c,GL P m ops Q rest (bN (bN fr (some q) U) (some O) (.v (.slice a (n+1) c))) (oset Γ i (.vech e k (rows++[gs]) (.slice a (n+1) c)))) :
  GL P m ops Q (⟨some q,.buildSlice t 1 #[(0,x)],PA,L,N,none⟩::⟨some O,.call ⟨.builtin .append,#[.tmp ts,.tmp q],#[t,t]⟩,ty,pos,af,none⟩::rest) fr Γ:=fun B K β w l hm hI M=>by
 subst hn;have⟨us,W,N0⟩:=(M.ev x).cells hx;have⟨xs,o1,o2,o3,o4,o5⟩:=hI.ob i _ s;have V:nth l ts=v:=Rel.eP (by rw[<-hs];exact M.nth ts);have S:=nK M hd
 have G:ts≠q:=by intro e;simp_all
 have Jo:gs.length=k:=by simp_all
 refine WL.push (base:=0) (v:=v) (vs:=us) (val:=ev l x) (xs:=xs) (n:=rows.length) rfl (fun u=>by rw[show ev (put l (some q) u) (.tmp ts)=nth (eV l q u) ts from rfl,oV G];exact V) (fun u=>ti S u) W X (N0.lI h1) o2 R.1.1 R.1.2 R.2 (bg _) ?_;intro u v' w' H F T xR;obtain⟨K',hK,J,E⟩:=(hI.wm s).grow (fz:=0) (nz s) o1 ⟨o2,o3⟩ (news:=[gs]) (ns:=us) H F T ze3 (fun r hr=>by grind[kR]) ze6 (fun b Jk o v ho hv=>by omega);rw[<-bS,lY]at E;have⟨a,c,j,A⟩:=E.sw (nz s);rw[lY]at A;obtain⟨a',c',rfl⟩:=H.shape;rw[bH]at j;simp only[bf,length_cons,length_nil]at j A J;cases j;exact h _ _ B K' _ w' _ hm A (((M.mono hK J).put (some q) (.U u)).put (some O) (.v _))
theorem GL.mx{s x:Operand}{t e k N:Nat}[hT:nF P t e k N](i:Nat){n:Nat}{dt:Tmp}{v:Value}{rows news:List am}(hx:a8 fr x=.sl k news)(hs:a8 fr s=.v v)(A:Γ[i]?=some (.vech e k rows v))(hn:rows.length=n)(h1:ny news=true)(S:news.isEmpty=false)
  (hb:n+news.length<=9223372036854775807/\(n+news.length)*N<=140737488355328)
  (h:∀a c,GL P m ops Q rest (bN fr (some dt) (.v (.slice a (n+news.length) c))) (oset Γ i (.vech e k (rows++news) (.slice a (n+news.length) c)))) :
  GL P m ops Q (⟨some dt,.call ⟨.builtin .append,#[s,x],#[t,t]⟩,ty,pos,af,none⟩::rest) fr Γ:=fun B K β w l hm hI hF=>by
 subst hn
 have S:news≠[]:=by grind
 have⟨xs,o1,o2,o3,o4,o5⟩:=hI.ob i _ A;have Jw:ev l s=v:=hF.eT hs;have M:=hF.ev x;rw[hx]at M;generalize N4:ev l x=vx at M
 cases M with
 |sl0 a c k=>grind
 |sl b o c _ _ hr _ =>
  have J:fM k news:=fun r NU=>by
   have⟨j,C⟩:=List.mem_iff_getElem?.1 NU;refine⟨(hr j r C).1,fun g G=>?_⟩;have⟨q,hq⟩:=List.mem_iff_getElem?.1 G;exact(hI.fz _ _ _ ((hr j r C).2 q g hq)).1
  have F:∀(rows:List am)(o:Nat),(∀(j:Nat)r,rows[j]?=some r->r.length=k/\∀(q:Nat)g,r[q]?=some g->K b (o+j*k+q)=some g)->∀(q:Nat)g,rows.flatten[q]?=some g->K b (o+q)=some g:=by
   intro rows
   induction rows with
   |nil=>simp
   |cons r rows ih =>
    intro o h q g G;rw[flatten_cons]at G;have hl:=(h 0 r rfl).1
    by_cases hq:q<r.length
    ·rw[l7 hq]at G;have:=(h 0 r rfl).2 q g G
     grind
    ·rw[lz X,hl]at G
     have:=ih (o+k) (fun j r' C=>by
      have:=h (j+1) r' ze3
      grind) (q-k) g G
     grind
  obtain⟨us,L,N0⟩:=wC (K:=K) (β:=β) (H:=w.heap) (b:=b) news.flatten o (fun j g C=>by
   obtain⟨hp,u,hu,V⟩:=hI.fz _ _ _ (F news o (fun j r C=>hr j r C) j g C)
   exact⟨u,hu,V.pc hp⟩)
  have S7:us.length=news.length*k:=by
   rw[L.1,List.length_flatten]
   have:∀(rows:List am),fM k rows->(rows.map List.length).sum=rows.length*k:=by
    intro rows
    induction rows with
    |nil=>simp
    |cons r rows ih =>
     grind[fM]
   grind
  refine WL.app (base:=0) (v:=v) (n:=rows.length) (m:=news.length) (xs:=xs) (news:=us) Jw o2 N4 S7 (fun j u C=>by grind[fY]) (L.lI (Bg h1)) hb.1 hb.2 (bg _) ?_;intro v' w' T R Jl xR;obtain⟨K',hK,W,O⟩:=(hI.wm A).grow (fz:=0) (nz A) o1 ⟨o2,o3⟩ (news:=news) (ns:=us) T R Jl L J S (fun b Jk o v ho hv=>by omega);rw[<-bS,lY]at O;have⟨a,c,z,E⟩:=O.sw (nz A);rw[lY]at E;obtain⟨a',c',rfl⟩:=T.shape;rw[bH]at z;simp only[bf]at z E W;cases z;exact h _ _ B K' _ w' _ hm E ((hF.mono hK W).put (some dt) (.v _))
end
class uZ (P:Program) (t:TypeId):Prop where
 und:∃e j,P.underlying t=some (.pointer e)/\P.info? e=some j
theorem uZ.mk'{P:Program}{t e:TypeId}(h:P.underlying t=some (.pointer e))(k:(P.info? e).isSome=true):uZ P t:=⟨e,(P.info? e).get k,h,by simp⟩
section
variable{P:Program}{m:Nat}{Q:dU}{fr:am}{Γ:ap}{ops:Array Oper}{rest:List Oper}{d:Option Tmp}{op:Op}{ty:TypeId}{pos:String}{af:Array Edge}
def YG.jj{x y:Operand}{t c:TypeId}[z:uZ P t]{i o:Nat}(hx:a8 fr x=.loc i o)(J:a8 fr y=.v (.pointer none)):YG P (.binOp .eql t x y c) fr Γ (.v (.bool false)):=fun B K n w l N S=>by
 have h:=S.ev x;rw[hx]at h;generalize T:ev l x=v at h
 cases h with
 |loc _ _ b C =>
  have⟨e,j,M,A⟩:=z.und
  have E:P.pointee t=e:=by simp[Program.pointee,M]
  have:=run_eql_pointer_nil (P:=P) w t (some ⟨b,o,none⟩) ze3;refine⟨_,fun d ty pos af=>?_,.v _⟩;simp[execOp,eqGuard,T,S.eT J,this]
def YG.jt{x y:Operand}{t c:TypeId}[C:uZ P t]{i o:Nat}(hx:a8 fr x=.loc i o)(J:a8 fr y=.loc i o):YG P (.binOp .neq t x y c) fr Γ (.v (.bool false)):=fun B K n w l N T=>by
 have h:=T.ev x;rw[hx]at h;have L:=T.ev y;rw[J]at L;generalize V:ev l x=v at h;generalize S:ev l y=k at L
 cases h with
 |loc _ _ b E =>
  cases L with
  |loc _ _ W z =>
   rw[E]at z;cases z;have⟨e,j,M,A⟩:=C.und;have:=Lib.run_neq_ptr_same (P:=P) w ⟨b,o,none⟩ M A;refine⟨_,fun d ty pos af=>?_,.v _⟩;simp[execOp,eqGuard,V,S,this]
theorem Inv.again{B:Bs}{K:Fz}{β:Bt}{Γ:ap}{w w':World}{i E k:Nat}{rows:List am}{x:Value}{xs:List Value}(h:Inv B K β Γ w)(hi:Γ[i]?=some (.vech E k rows x))(n:gT w' 0 E k x rows.length xs)(r:bA K β xs rows.flatten)
  (hx:Ext (fun b=>x.ownBlock=some b) w w'):Inv B K β Γ w':=by
 have⟨l,M,z,A,N,T⟩:=h.ob i _ hi
 have e:∀b,x.ownBlock=some b->(β i).has b:=fun b v=>by rw[M];exact v
 refine⟨h.ext.step hx (fun j G=>(h.own i j (e j G)).symm),h.kle,h.ble,h.loc,h.fz.ext hx (fun b o g C S=>by grind),fun j y G=>?_,h.out,h.dis,h.own,h.kn,h.tab.step hx (fun j G=>⟨i,e j G⟩) (cY.refl K) (fun i s h=>.inl ⟨i,h⟩)⟩
 by_cases R:j=i
 ·grind[gM]
 ·exact(h.ob j y G).ext hx (fun b v S=>R (h.dis j i b v (e b S))) (cY.refl K) (dO.refl β) rfl (fun _ _ _ h=>h)
theorem GL.YV{s x:Operand}{t u e:Nat}[hT:CX P t e][hU:qp P u](i:Nat){n:Nat}{G:Tmp}{v:Value}{rows:List am}{str:ai}(hx:a8 fr x=.v (sv str))(hs:a8 fr s=.v v)(k:Γ[i]?=some (.vech e 1 rows v))(hn:rows.length=n)(E:str.isEmpty=false)
  (R:n+str.length<=140737488355328)
  (h:∀a c,GL P m ops Q rest (bN fr (some G) (.v (.slice a (n+str.length) c))) (oset Γ i (.vech e 1 (rows++cX str) (.slice a (n+str.length) c)))) :
  GL P m ops Q (⟨some G,.call ⟨.builtin .append,#[s,x],#[t,u]⟩,ty,pos,af,none⟩::rest) fr Γ:=fun B K β w l hm O H=>by
 subst hn
 have E:str≠[]:=by grind
 have⟨xs,o1,S,o3,o4,o5⟩:=O.ob i _ k;have N:ev l s=v:=H.eT hs
 have J:(cX str).flatten=str.map fun c=>GV.v (.int .u8 (c.toNat:Int)):=by
  unfold cX;clear hx E R h;generalize str=s
  induction s with
  |nil=>rfl
  |cons c r ih=>grind
 have C:(cX str).length=str.length:=by simp
 refine WL.BQ (base:=0) (v:=v) (n:=rows.length) (xs:=xs) (str:=str) N S (H.eT hx) R (bg _) ?_;intro v' w' M A L xR
 obtain⟨T,V,F,z⟩:=(O.wm k).grow (fz:=0) (nz k) o1 ⟨S,o3⟩ (news:=cX str) (ns:=lO str) ze3 A L (by rw[J];exact(by
   have:(str.map fun c=>GV.v (.int .u8 (c.toNat:Int)))=gB (lO str):=by simp[gB,lO]
   rw[this];exact bA.self)) (fun r hr=>by
   grind[GV.pc]) ze3 (fun b W o v ho hv=>by omega)
 rw[<-bS,lY]at z;have⟨a,c,j,q⟩:=z.sw (nz k);rw[lY]at q;obtain⟨a',c',rfl⟩:=M.shape;rw[bH]at j;simp only[bf,C]at j q F;cases j;exact h _ _ B T _ w' _ hm q ((H.mono V F).put (some G) (.v _))
theorem GL.YU{s x:Operand}{t u e:Nat}[hT:CX P t e][O:qp P u](i:Nat){rows:List am}{v:Value}(hx:a8 fr x=.v (sv []))(hs:a8 fr s=.v v)(z:Γ[i]?=some (.vech e 1 rows v))(hb:rows.length<=140737488355328)
  (h:GL P m ops Q rest (bN fr d (.v v)) Γ):GL P m ops Q (⟨d,.call ⟨.builtin .append,#[s,x],#[t,u]⟩,ty,pos,af,none⟩::rest) fr Γ:=fun B K β w l hm N C=>by
 have⟨xs,o1,W,o3,o4,o5⟩:=N.ob i _ z;have G:=C.eT hs;have L:=C.eT hx;have⟨T,V,S,hz,r,F⟩:=hT.is;have hs0:(⟨([]:ai).toArray⟩:ByteArray).size=0:=rfl;obtain⟨A,w',hr,M,k,h4⟩:=Lib.run_append_own_string (P:=P) w 0 t u ty e V T O.und S hz r F v rows.length xs W ⟨([]:ai).toArray⟩ zfh X (bg _)
 have J:A=v:=by
  rcases W.2 with⟨rfl,h6⟩|⟨g,c,cur,rfl,NO,hg,DA,zp,n,H⟩
  ·grind
  ·have R:cur.size=c:=by omega
   have NV:=Lib.run_append_room_string (P:=P) w t u ty e V T O.und S r g rows.length c cur hg ⟨([]:ai).toArray⟩ X X
   grind
 subst J;have q:(Builtin.append_ #[t,u] ty #[A,sv []]).run P w=.ok A w':=hr;have n:Lib.strCells ⟨([]:ai).toArray⟩=[]:=rfl;rw[n,fV]at M;have o:Ext (fun b=>A.ownBlock=some b) w w':=⟨k.os,k.tape,k.output,k.size,fun j hj hn=>k.block j hj fun he=>hn he.symm⟩;have E:=N.again z M o3 o;exact WL.val (v:=A) (w':=w') (by simp[execOp,resolve,invoke,builtin,G,L,q]) (h B K β w' _ hm E (C.put d (.v _)))
theorem YG.gq{x:Operand}{t:TypeId}(i:Nat){E n c:Nat}{a:Option Addr}{rows:List am}(hx:a8 fr x=.v (.slice a n c))(G:Γ[i]?=some (.vech E 1 rows (.slice a n c)))(hn:rows.length=n)(H:Nat.blt 0 n=true) :
  YG P (.call ⟨.builtin .unsafeSliceData,#[x],#[t]⟩) fr Γ (.vp i n 1 0 0):=fun B K o w l N S=>by
 subst hn
 have H:0<rows.length:=by simp_all
 have⟨u,M,A,L,O,V⟩:=N.ob i _ G;have T:=S.eT hx
 rcases A.2 with⟨z,j⟩|⟨g,F,cur,z,_,R,C,_⟩
 ·omega
 ·cases z
  have r:=fun J ty=>Lib.run_unsafeSliceData_row (P:=P) (w:=w) J ty ⟨g,0,none⟩ rows.length c X
  exact⟨.pointer (some ⟨g,0,none⟩),fun d ty pos af=>by simp[execOp,resolve,invoke,builtin,T,r],.vp i _ 1 0 0 _ ⟨_,_,M,aQ _,fun _=>⟨g,rfl,by simp⟩⟩⟩
theorem GL.PD{x y:Operand}{pt it e:TypeId}(i:Nat){str:ai}{rows:List am}{v:Value}(hp:P.underlying pt=some (.pointer e))(hc:P.cellsOf e=1)(hx:a8 fr x=.vp i str.length 1 0 0)(hy:a8 fr y=y4 str.length)(vG:Γ[i]?=some (.vech e 1 rows v))(C:rows=cX str)
  (J:str.isEmpty=false)(hb:str.length<=140737488355328)
  (h:GL P m ops Q rest (bN fr d (.v (sv str))) (oset Γ i .lost)):GL P m ops Q (⟨d,.call ⟨.builtin .unsafeString,#[x,y],#[pt,it]⟩,ty,pos,af,none⟩::rest) fr Γ:=fun B K M w l hm n O=>by
 have J:str≠[]:=by grind
 subst C;have⟨xs,o1,o2,o3,o4,o5⟩:=n.ob i _ vG
 have H:(cX str).length=str.length:=by simp
 have T:=O.ev x;rw[hx]at T;have hyv:=O.eT hy;generalize hv:ev l x=u at T
 cases T with
 |vp _ _ _ _ _ _ hh =>
  have⟨h0,mm,N,e2,e3⟩:=hh;rw[N]at o1;cases o1;obtain⟨b,F,rfl⟩:=e3 H
  rcases o2.2 with⟨h8,h9⟩|⟨g,cap,cur,h8,_,hg,DA,zp,AU,W⟩
  ·grind
  ·subst h8;simp only[Value.ownBlock,Option.some.injEq]at F;subst F
   have hxs:xs=lO str:=by
    have S:(cX str).flatten=gB (lO str):=by
     have:(cX str).flatten=str.map fun c=>GV.v (.int .u8 (c.toNat:Int)):=by
      unfold cX;generalize str=s
      induction s with
      |nil=>rfl
      |cons c r ih=>grind
     rw[this];simp[gB,lO]
    rw[S]at o3;apply ext_getElem
    ·grind[lO]
    ·intro j h1 h2;have:=o3.2 j xs[j] (.v (lO str)[j]) (by simp[h1]) (by simp[gB,h2]);exact Rel.eP this
   have z:∀j y,str[j]?=some y->w.cell? ((⟨g,0,none⟩:Addr).add j)=some (.int .u8 y.toNat):=fun j y hy=>by
    grind[World.ownsRow.cells,lO]
   have V:(cX str).length<=cur.size:=by omega
   have L:=Lib.run_unsafeString_row (P:=P) w pt it ty e hp hc g cur.size (by simp[World.shape?,hg]) str J X X z
   have q:Ext (·=g) w (w.freeze ⟨g,0,none⟩ str.length):=by
    have:=Lib.below_freeze (Below.refl 0 w) (p:=⟨g,0,none⟩) (bg g) str.length
    exact⟨this.os,this.tape,this.output,this.size,fun k hk hn=>by
     grind[World.freeze]⟩
   have G:(M i).has g:=by rw[N];exact rfl
   have R:Inv B K M (oset Γ i .lost) (w.freeze ⟨g,0,none⟩ str.length):=by
    refine⟨n.ext.step q (fun j t=>by subst t;exact(n.own i _ G).symm),n.kle,n.ble,n.loc,n.fz.ext q (fun b o g' Dw he=>by grind),fun j y t=>?_,fun j t=>n.out j zfe,n.dis,n.own,n.kn,n.tab.step q (fun j t=>⟨i,by grind⟩) (cY.refl K) (fun i b2 h=>.inl ⟨i,h⟩)⟩;rw[bS,ik]at t;split at t
    ·rename_i A;split at t
     ·cases t;subst A
      intro b E;rw[N]at E;cases E
      grind[World.freeze]
     grind
    ·rename_i A;exact(n.ob j y t).ext q (fun b hb he=>by subst he;exact A (n.dis i j _ G hb)) (cY.refl K) (dO.refl M) rfl (fun _ _ _ h=>h)
   exact WL.val (v:=sv str) (w':=w.freeze ⟨g,0,none⟩ str.length) (by simp[execOp,resolve,invoke,builtin,hv,hyv,L,sv]) (h B K M _ _ hm R (O.put d (.v _)))
theorem Inv.KS{B:Bs}{K:Fz}{β:Bt}{Γ:ap}{w:World}{x:Bk}{y:Ob}(h:Inv B K β Γ w)(hd:∀b,x.has b->(∀i,¬(β i).has b)/\B.w0.heap.size<=b/\(b≠3/\b≠1))
  (l:gM K (e9 β Γ.length x) w Γ.length y)(G:dO β (e9 β Γ.length x)):Inv B K (e9 β Γ.length x) (Γ++[y]) w:=by
 refine⟨h.ext,h.kle,h.ble.trans G,h.loc,h.fz,fun i z t=>?_,fun i t=>?_,fun i j b t H=>?_,fun i b t=>?_,h.kn,⟨h.tab.le,h.tab.pow,h.tab.spc,fun i b t=>?_⟩⟩
 ·by_cases k:i<Γ.length
  ·rw[l7 k]at t;exact(h.ob i z t).ext (S:=gn) (Ext.refl w) (fun _ _ h=>h) (cY.refl K) G (b0 X) (fun _ _ _ h=>h)
  grind
 ·simp at t;rw[b0 X];exact h.out i X
 ·by_cases M:i=Γ.length<;>by_cases v:j=Γ.length
  ·omega
  ·grind[bH,b0]
  ·grind[bH,b0]
  ·rw[b0 M]at t;rw[b0 v]at H;exact h.dis i j b t H
 ·rcases kO t with M|M
  ·grind
  ·exact h.own i b M
 ·rcases kO t with M|M
  ·grind
  ·exact h.tab.free i b M
theorem YG.TA{x lo:Operand}{t e:TypeId}{k:Nat}[A:lN P t e k]{rows:List am}{E:IntKind}{i:Nat}(hx:a8 fr x=.sl k rows)(C:a8 fr lo=.v (.int E i))(hi:Nat.blt i rows.length=true):YG P (.slice t x (some lo) none none) fr Γ (.sl k (rows.drop i)):=fun B K β w l N S=>by
 have hi:i<rows.length:=by simp_all
 have h:=S.ev x;rw[hx]at h;have z:=S.eT C;generalize T:ev l x=v at h
 cases h with
 |sl0 a c=>simp at hi
 |sl b o c _ _ h n =>
  refine⟨.slice (some ⟨b,o+i*k,none⟩) (rows.length-i) (c-i),fun d ty pos af=>?_,?_⟩
  ·have u:¬(c=i):=by omega
   have V:(i:Int)<=(rows.length:Int):=by omega
   simp[execOp,Instr.sliceAt,Instr.slice,Instr.sliceBounds,Instr.sliceBound,asIntOf,T,z,run_underlying A.und,iw A.siz,u,Nat.le_of_lt hi,qs]
  ·have:=Rel.sl (K:=K) (β:=β) b (o+i*k) (c-i) k (rows.drop i) (fun j r s=>?_) ze3
   ·grind
   grind
def YG.gL{x lo:Operand}{t e:TypeId}{k:Nat}[z:lN P t e k]{rows:List am}{A:IntKind}{n:Int}(i:Nat)(hx:a8 fr x=.sl k rows)(B:a8 fr lo=.v (.int A n))(hn:n=(i:Int))(hi:Nat.blt i rows.length=true):YG P (.slice t x (some lo) none none) fr Γ (.sl k (rows.drop i)):=by
 subst hn;exact YG.TA hx B hi
end
def ql(a:Int):Int:=IntKind.i64.wrap a
def pQ(a b:Int):Int:=IntKind.i64.wrap (((a%18446744073709551616).toNat &&& (b%18446744073709551616).toNat:Nat):Int)
def um(a b:Int):Int:=IntKind.i64.wrap (((a%18446744073709551616).toNat ^^^ (b%18446744073709551616).toNat:Nat):Int)
def VN(a:Int) : -9223372036854775808<=ql a/\ql a<=9223372036854775807:=by
 unfold ql;rw[IntKind.wrap_i64];omega
def zG(a b:Int)(v:0<=b/\b<=9223372036854775807):0<=pQ a b/\pQ a b<=b:=by
 unfold pQ
 have M:(b%18446744073709551616).toNat=b.toNat:=by rw[Int.emod_eq_of_lt v.1 X]
 have w:(a%18446744073709551616).toNat &&& (b%18446744073709551616).toNat<=b.toNat:=by rw[M];exact Nat.and_le_right
 rw[IntKind.wrap_i64];omega
def V8(a b:Int):(BitVec.ofInt 64 a &&& BitVec.ofInt 64 b).toNat=(a%18446744073709551616).toNat &&& (b%18446744073709551616).toNat:=by rw[BitVec.toNat_and,BitVec.toNat_ofInt,BitVec.toNat_ofInt];rfl
def V9(a b:Int):(BitVec.ofInt 64 a ^^^ BitVec.ofInt 64 b).toNat=(a%18446744073709551616).toNat ^^^ (b%18446744073709551616).toNat:=by rw[BitVec.toNat_xor,BitVec.toNat_ofInt,BitVec.toNat_ofInt];rfl
section
variable{P:Program}{fr:am}{Γ:ap}{x y:Operand}{t t':TypeId}{a b:Int}
def YG.V2(hx:a8 fr x=y4 a)(J:a8 fr y=y4 b):YG P (.binOp .add t x y t') fr Γ (y4 (ql (a+b))) :=
 YG.v2 hx J fun l w h k d r u c=>by simp[execOp,eqGuard,h,k,binOp,Op.intArith,ql]
def YG.XO(hx:a8 fr x=y4 a)(J:a8 fr y=y4 b):YG P (.binOp .mul t x y t') fr Γ (y4 (ql (a*b))) :=
 YG.v2 hx J fun l w h k d r u c=>by simp[execOp,eqGuard,h,k,binOp,Op.intArith,ql]
def YG.KU(hx:a8 fr x=y4 a)(J:a8 fr y=y4 b):YG P (.binOp .and t x y t') fr Γ (y4 (pQ a b)) :=
 YG.v2 hx J fun l w h k d r u c=>by
  simp[execOp,eqGuard,h,k,binOp,Op.intBits,pQ,IntKind.bits];exact congrArg (fun n:Nat=>IntKind.i64.wrap (n:Int)) (V8 a b)
def YG.YL(hx:a8 fr x=y4 a)(J:a8 fr y=y4 b):YG P (.binOp .xor t x y t') fr Γ (y4 (um a b)) :=
 YG.v2 hx J fun l w h k d r u c=>by
  simp[execOp,eqGuard,h,k,binOp,Op.intBits,um,IntKind.bits];exact congrArg (fun n:Nat=>IntKind.i64.wrap (n:Int)) (V9 a b)
def YG.GK{A:IntKind}{n:Nat}(hx:a8 fr x=y4 a)(J:a8 fr y=.v (.int A (n:Int))):YG P (.binOp .shr t x y t') fr Γ (y4 (a.fdiv (2^min n 64))) :=
 YG.v2 hx J fun l w h k d r u c=>by
  have:¬((n:Int)<0):=by omega
  simp[execOp,eqGuard,h,k,binOp,Op.shift,this,IntKind.bits]
end
end Go.Xg
set_option maxHeartbeats 4000000
namespace Go.Xg
open Go.RowKit Go.Xw Go.Proofs Tryz
open GV (U)
structure c9 where
 i:Nat
 h:Int
abbrev u7(code:ai)(c:c9):am:=[.sl 1 (cX code),y4 (c.i:Nat),y4 c.h]
def wK(c:c9):Int:=ql (ql (c.h*6364136223846793005)+1442695040888963407)
def Co(h:Int):Int:=pQ (um (h.fdiv (2^min 33 64)) (h.fdiv (2^min 45 64))) 255
def lq(code:ai)(c:c9):Int × c9:=match code[c.i]? with
 |some b=>(pQ (Co (wK c)+((b.toNat:Nat):Int)) 255,⟨c.i+1,wK c⟩)
 |none=>(Co (wK c),⟨c.i,wK c⟩)
def bu(code:ai)(n:Int)(c:c9):Int × c9 :=
 if n<=0 then(0,c)else if n<=256 then((lq code c).1%n,(lq code c).2)else
  let a:=lq code c
  let b:=lq code a.2
  let d:=lq code b.2
  let e:=lq code d.2
  ((a.1*16777216+b.1*65536+d.1*256+e.1)%n,e.2)
def Ga(h:Int):0<=Co h/\Co h<=255:=zG _ _ ⟨by omega,by omega⟩
def uA(code:ai)(c:c9):0<=(lq code c).1/\(lq code c).1<=255:=by
 unfold lq;split
 ·exact zG _ _ ⟨by omega,by omega⟩
 ·exact Ga _
def qb{code:ai}{c:c9}(h:c.i<=code.length):(lq code c).2.i<=code.length:=by
 unfold lq;split
 ·rename_i v;exact(bR v).1
 ·exact h
def ea{code:ai}{c:c9}(n:Int)(h:c.i<=code.length):(bu code n c).2.i<=code.length:=by
 unfold bu;split
 ·exact h
 split
 ·exact qb h
 ·exact qb (qb (qb (qb h)))
def eD(code:ai){n:Int}(c:c9)(h:0<n):0<=(bu code n c).1/\(bu code n c).1<n:=by
 unfold bu;rw[D X];split
 ·exact⟨Int.emod_nonneg _ X,Int.emod_lt_of_pos _ h⟩
 ·exact⟨Int.emod_nonneg _ X,Int.emod_lt_of_pos _ h⟩
def IJ{s:ai}{i:Nat}{b:UInt8}(h:s[i]?=some b):(cX s)[i]?=some [.v (.int .u8 (b.toNat:Nat))]:=by simp[cX,h]
def xA(s:ai):(cX s).length=s.length:=by simp[cX]
attribute [local irreducible] GW GL GO YG GC GA bh bn pQ um ql
def uI(code:ai)(c:c9)(V:code.length<=1099511627776)(k:c.i<=code.length) :
  GF prog 100 [.loc 0 0] [.box 115 (u7 code c)] (.v (ii (lq code c).1)) [.box 115 (u7 code (lq code c).2)]:=by
 have G:=Ga (wK c);have B:=xA code;unfold lq
 cases w:code[c.i]? with
 |some b =>
  have M:=(bR w).1;have s:=IJ w;have r:b.toNat<256:=b.toNat_lt
  have F:decide ((c.i:Int)<((cX code).length:Int))=true:=by rw[B];simpa using M
  simp only;unfold u7;simp only;unfold Co wK at *;refine aj func100 ntmps100 ?_;refine zcY ?_;refine OP rfl (fun W=>YG.GK (n:=33) rfl rfl) ?_;refine lx ?_;refine av ?_;refine OP rfl (fun W=>YG.GK (n:=45) rfl rfl) ?_;refine lx ?_;refine OP rfl (fun W=>YG.YL rfl rfl) ?_;refine lx ?_;refine OP rfl (fun W=>YG.KU rfl rfl) ?_;refine lx ?_;refine bp ?_;refine zaL ?_;refine aS (aK 0 15 .nil) ?_;refine av ?_;refine OP rfl (fun W=>YG.KU rfl rfl) ?_;refine lx ?_;exact zby
 |none =>
  have T:=nE w
  have F:decide ((c.i:Int)<((cX code).length:Int))=false:=by rw[B];simpa using T
  simp only;unfold u7;simp only;unfold Co wK at *;refine aj func100 ntmps100 ?_;refine zcY ?_;refine OP rfl (fun W=>YG.GK (n:=33) rfl rfl) ?_;refine lx ?_;refine av ?_;refine OP rfl (fun W=>YG.GK (n:=45) rfl rfl) ?_;refine lx ?_;refine OP rfl (fun W=>YG.YL rfl rfl) ?_;refine lx ?_;refine OP rfl (fun W=>YG.KU rfl rfl) ?_;refine lx ?_;refine bp ?_;refine aS (aK 0 10 .nil) ?_;exact zby
def gi(code:ai)(n:Int)(c:c9)(T:code.length<=1099511627776)(k:c.i<=code.length) :
  GF prog 33 [.loc 0 0,y4 n] [.box 115 (u7 code c)] (.v (ii (bu code n c).1)) [.box 115 (u7 code (bu code n c).2)]:=by
 unfold bu;have M:=uI code c T k;have W:=uA code c;have t:=qb k;generalize lq code c=a at *;have⟨x,G⟩:=a;simp only at M W t |-
 by_cases u:n<=0
 ·have H:decide (n<=(0:Int))=true:=by simpa using u
  rw[ae u];refine aj func33 ntmps33 ?_;exact aw
 ·have H:decide (n<=(0:Int))=false:=by simpa using u
  rw[D u]
  by_cases R:n<=256
  ·have A:decide (n<=(256:Int))=true:=by simpa using R
   rw[ae R];refine aj func33 ntmps33 ?_;refine zed ?_;exact aw
  ·have A:decide (n<=(256:Int))=false:=by simpa using R
   rw[D R];have E:=uI code G T t;have S:=uA code G;have C:=qb t;generalize lq code G=a at *;have⟨y,B⟩:=a;simp only at E S C |-;have F:=uI code B T C;have l:=uA code B;have j:=qb C;generalize lq code B=a at *;have⟨z,e⟩:=a;simp only at F l j |-;have N:=uI code e T j;have o:=uA code e;generalize lq code e=a at *;have⟨w,J⟩:=a;simp only at N o |-;refine aj func33 ntmps33 ?_;refine zed ?_;refine I [0] E ?_;refine I [0] F ?_;refine I [0] N ?_;exact aw
def QX(code:ai)(V:code.length<=1099511627776) :
  GC prog 31 [.sl 1 (cX code)] [] fun g J=>∃h,g=.loc 0 0/\J=[.box 115 (u7 code ⟨0,h⟩)]:=by
 have B:=xA code;refine aj func31 ntmps31 ?_;refine GW.loop (fun x:Nat=>code.length-x) (fun i fr Γ=>∃h:Int,fr=.sl 1 (cX code)::U::U::y4 h::y4 (i:Nat)::zU 27 []/\Γ=[]/\i<=code.length/\0<=h/\h<=4398046511104) 0 ?_ ?_
 ·exact⟨_,_,Wk.aW az,_,rfl,rfl,bg _,by omega,by omega⟩
 ·rintro i _ _⟨h,rfl,rfl,u,s,N⟩
  rcases Nat.lt_or_ge i code.length with M|T
  ·have F:decide ((i:Int)<((cX code).length:Int))=true:=by rw[B];simpa using M
   by_cases O:i<4000
   ·have w:decide ((i:Int)<(4000:Int))=true:=by simpa using by omega
    have z:=IJ (cq M);generalize code[i]=b at *;have r:b.toNat<256:=b.toNat_lt;refine Z ?_;refine GL.q (YG.KU rfl rfl) ?_;refine zaf ?_
    have o:=fun a=>zG a 1073741823 ⟨by omega,by omega⟩
    exact⟨i+1,⟨_,_,Wk.aW az,_,rfl,rfl,M,(o _).1,by have:=(o (h*163+((b.toNat:Nat):Int)+7)).2;omega⟩,by omega⟩
   ·have w:decide ((i:Int)<(4000:Int))=false:=by simpa using by omega
    exact zc6
  ·have F:decide ((i:Int)<((cX code).length:Int))=false:=by rw[B];simpa using T
   exact zc6
def ya(code:ai)(c:c9):Int × c9 :=
 let k:=bu code 11 c
 if k.1<4 then((bu code 24 k.2).1-4,(bu code 24 k.2).2)
 else if k.1=4 then(2147483646+(bu code 3 k.2).1,(bu code 3 k.2).2)
 else if k.1=5 then(-2147483649+(bu code 3 k.2).1,(bu code 3 k.2).2)
 else if k.1=6 then(9223372036854775807-(bu code 2 k.2).1,(bu code 2 k.2).2)
 else if k.1=7 then(-9223372036854775807-(bu code 2 k.2).1,(bu code 2 k.2).2)
 else if k.1=8 then(ql (1*2^(bu code 40 k.2).1.toNat),(bu code 40 k.2).2)
 else if k.1=9 then
  let a:=bu code 1000000 k.2
  let b:=bu code 1000000 a.2
  (a.1*b.1,b.2)
 else bu code 2000000 k.2
def Ya{code:ai}{c:c9}(h:c.i<=code.length):(ya code c).2.i<=code.length:=by
 unfold ya
 have M:=fun n=>ea (code:=code) (c:=(bu code 11 c).2) n (ea 11 h)
 simp only
 repeat (split;exact M _)
 split
 ·exact ea _ (M _)
 ·exact M _
def RH(code:ai)(c:c9) : -9223372036854775808<=(ya code c).1/\(ya code c).1<=9223372036854775807:=by
 unfold ya
 have M:=fun n(h:(0:Int)<n)=>eD code (bu code 11 c).2 h
 simp only;split
 ·have:=M 24 X;simp only;omega
 split
 ·have:=M 3 X;simp only;omega
 split
 ·have:=M 3 X;simp only;omega
 split
 ·have:=M 2 X;simp only;omega
 split
 ·have:=M 2 X;simp only;omega
 split
 ·exact VN _
 split
 ·have w:=M 1000000 X;have v:=eD code (bu code 1000000 (bu code 11 c).2).2 (n:=1000000) X;have N:=Int.mul_nonneg w.1 v.1;have S:=Int.mul_le_mul (Int.le_of_lt w.2) (Int.le_of_lt v.2) v.1 X;simp only;omega
 ·have:=M 2000000 X;omega
section
variable{P:Program}{fr:am}{Γ:ap}{x y:Operand}{t t':TypeId}{a:Int}
def YG.abq{B:IntKind}{n:Nat}(hx:a8 fr x=y4 a)(J:a8 fr y=.v (.int B (n:Int)))(hn:n<=63):YG P (.binOp .shl t x y t') fr Γ (y4 (ql (a*2^n))) :=
 YG.v2 hx J fun l w h k d r u c=>by
  have M:¬((n:Int)<0):=by omega
  have z:min n 64=n:=by omega
  have A:n<64:=by omega
  simp[execOp,eqGuard,h,k,binOp,Op.shift,M,z,A,IntKind.bits,ql]
end
def QY(code:ai)(c:c9)(T:code.length<=1099511627776)(C:c.i<=code.length) :
  GF prog 36 [.loc 0 0] [.box 115 (u7 code c)] (.v (ii (ya code c).1)) [.box 115 (u7 code (ya code c).2)]:=by
 unfold ya;have M:=gi code 11 c T C;have W:=eD code c (n:=11) X;have A:=ea (code:=code) 11 C;generalize bu code 11 c=a at *;have⟨k,G⟩:=a;simp only at M W A |-
 have z:=fun n=>gi code n G T A
 have R:=fun n(h:(0:Int)<n)=>eD code G h
 have E:=fun n=>ea (code:=code) n A
 by_cases o:k<4
 ·have F:decide (k<(4:Int))=true:=by simpa using o
  rw[ae o];have w:=z 24;have l:=R 24 X;exact zaC
 ·have F:decide (k<(4:Int))=false:=by simpa using o
  rw[D o];obtain⟨m,rfl⟩:∃m:Nat,k=(m:Int):=⟨k.toNat,by omega⟩
  have H:m=4\/m=5\/m=6\/m=7\/m=8\/m=9\/m=10:=by omega
  rcases H with rfl|rfl|rfl|rfl|rfl|rfl|rfl
  ·have w:=z 3;have l:=R 3 X;rw[ae aN];exact zaC
  ·have w:=z 3;have l:=R 3 X;rw[D aN,ae aN];exact zaC
  ·have w:=z 2;have l:=R 2 X;rw[D aN,D aN,ae aN];exact zaC
  ·have w:=z 2;have l:=R 2 X;rw[D aN,D aN,D aN,ae aN];exact zaC
  ·have w:=z 40;have l:=R 40 X;rw[D aN,D aN,D aN,D aN,ae aN];generalize bu code 40 G=a at *;have⟨s,B⟩:=a;simp only at w l |-;obtain⟨n,rfl⟩:∃n:Nat,s=(n:Int):=⟨s.toNat,by omega⟩;rw[dC];refine aj func36 ntmps36 ?_;refine zed ?_;refine I [0] w ?_;refine GL.q (YG.abq rfl rfl X) ?_;exact zcy
  ·have w:=z 1000000;have l:=R 1000000 X;have j:=E 1000000;rw[D aN,D aN,D aN,D aN,D aN,ae aN];generalize bu code 1000000 G=a at *;have⟨u,B⟩:=a;simp only at w l j |-;have N:=gi code 1000000 B T j;have r:=eD code B (n:=1000000) X;generalize bu code 1000000 B=a at *;have⟨v,e⟩:=a;simp only at N r |-;have S:=Int.mul_nonneg l.1 r.1;have V:=Int.mul_le_mul (Int.le_of_lt l.2) (Int.le_of_lt r.2) r.1 X;refine aj func36 ntmps36 ?_;refine zed ?_;refine I [0] w ?_;refine I [0] N ?_;exact aw
  ·have w:=z 2000000;rw[D aN,D aN,D aN,D aN,D aN,D aN];exact zaC
end Go.Xg
namespace Go.Xg
open Go.RowKit Go.Xw
def Ds(a:am):∀(gs b:am)(o:Nat),pI (a++b) (a.length+o) gs=a++pI b o gs
 |[],b,o=>rfl
 |g::gs,b,o=>by rw[pI,pI,zX,nD,Ds a gs]
def AQ:∀(gs a b:am),a.length=gs.length->pI (a++b) 0 gs=gs++b
 |[],[],b,_=>rfl
 |[],x::a,b,h=>by simp at h
 |g::gs,[],b,h=>by simp at h
 |g::gs,x::a,b,h=>by
  rw[pI,cons_append,bU];have:=Ds [g] gs (a++b) 0;simp only[length_cons,length_nil,cons_append,List.nil_append,iX,Nat.add_zero]at this |-;rw[this,AQ gs a b ze3]
section
variable{P:Program}{m:Nat}{ops:Array Oper}{Q:dU}{rest:List Oper}{fr:am}{Γ:ap}{d:Option Tmp}{ty:TypeId}{pos:String}{af:Array Edge}
theorem Ku(n:Nat)(z:List Value):(List.replicate n (gB z)).flatten=zs n z:=by
 induction n with
 |zero=>rfl
 |succ n O=>grind[gB,zs]
theorem GL.XN{x:Operand}{t e k u:Nat}{z:List Value}[hT:nF P t e k u][E:og P t e k z]{J:Tmp}{n:Nat}(hx:a8 fr x=y4 (n:Nat))(hb:n<=1099511627776/\u*n<=281474976710656)
  (h:∀a c,GL P m ops Q rest (bN fr (some J) (.v (.slice a n c))) (Γ++[.vech e k (List.replicate n (gB z)) (.slice a n c)])) :
  GL P m ops Q (⟨some J,.makeSlice t x x,ty,pos,af,none⟩::rest) fr Γ:=fun B K β w l hm hI W=>by
 have⟨hu,⟨i,T,hi,hz,N5,R,SV⟩,hk⟩:=hT.parts;have S:ev l x=ii (n:Nat):=W.eT hx;obtain⟨w',hr,V,A⟩:=run_make_full (P:=P) (w:=w) 0 t e i T k hu hi hz R .i64 .i64 n ze3 zfh (bg _)
 have Xr:T.cells.toList=z:=by
  have H:=E.zero;rw[hi]at H;simp only[Option.bind_some,hz,Option.some.injEq]at H;have hl:=E.zl
  by_cases L:k=1
  ·rw[ae L]at H;rw[H,E.one L];subst L
   match z,hl with
   |[a],_=>rfl
  grind[Value.cells]
 have o:(madeCells T.cells (n*k)).toList=(List.range (n*k)).map fun j=>z.getD (j%k) undef:=by
  unfold madeCells;rw[Array.toList_map,Array.toList_range]
  grind[List.map_congr_left,Nat.mod_lt,Array.getElem?_eq_getElem]
 rw[o]at V;have s:=BE (K:=K) (β:=β) (n:=n) E.zl E.pos;rw[<-Ku]at s
 have N:fM k (List.replicate n (gB z)):=fun r hr=>by
  grind[gB,GV.pc]
 have F:Ext gn w w':=⟨A.os,A.tape,A.output,A.size,fun j hj _=>A.block j hj ze6⟩;have M:=hI.BP (x:=.slice (some ⟨w.heap.size,0,none⟩) n n) (rows:=List.replicate n (gB z)) F (by rw[List.length_replicate];exact V) (fun b hb=>by cases hb;simp) s N
 have G:(Γ++[Ob.vec e k 0 (List.replicate n (gB z))])[Γ.length]?=some (Ob.vec e k 0 (List.replicate n (gB z))):=by simp
 have⟨a,c,q,C⟩:=M.sw G;rw[bH]at q
 injection q with Du vF
 injection Du with NN hb4 hb5
 subst NN hb5
 have O:oset (Γ++[.vec e k 0 (List.replicate n (gB z))]) Γ.length (.vech e k (List.replicate n (gB z)) (.slice (some ⟨w.heap.size,0,none⟩) (List.replicate n (gB z)).length n))=Γ++[.vech e k (List.replicate n (gB z)) (.slice (some ⟨w.heap.size,0,none⟩) (List.replicate n (gB z)).length n)]:=by
  rw[bS];simp
 rw[O,List.length_replicate]at C;exact zba
end
def Ob.uG:Ob->Bool
 |.vech _ _ _ _=>true
 |_=>false
def iN(β:Bt)(be:List Nat):Bt:=fun j=>match be[j]? with
 |some i=>β i
 |none=>.no
section
variable{B:Bs}{K:Fz}{β:Bt}{Γ:ap}{w:World}
def bA.pg{K:Fz}{β fS:Bt}{vs:List Value}{gs:am}(h:bA K β vs gs)(A:∀g∈gs,g.pc=true):bA K fS vs gs:=⟨h.1,fun i v g M z=>(h.2 i v g M z).pc (A g (bB z))⟩
def fM.flat{k:Nat}{rows:List am}(h:fM k rows):∀g∈rows.flatten,g.pc=true:=fun g C=>by
 have⟨r,M,v⟩:=List.mem_flatten.1 C;exact(h r M).2 g v
theorem Inv.pick(h:Inv B K β Γ w)(W:B.m=0){be:List Nat}{J:ap}(V:J.length=be.length)(hn:be.Nodup)
  (hx:∀(j:Nat)x,J[j]?=some x->x.uG=true/\∀i,be[j]?=some i->Γ[i]?=some x):Inv B K (iN β be) J w:=by
 have A:∀i b,(iN β be i).has b->∃q,be[i]?=some q/\(β q).has b:=fun i b t=>by
  grind[iN,Bk.has]
 refine⟨h.ext,h.kle,fun i=>by rw[h.loc i X];trivial,h.loc,h.fz,fun i x t=>?_,fun i t=>?_,fun i j b t G=>?_,fun i b t=>?_,h.kn,h.tab.step (S:=gn) (Ext.refl w) (fun _ h=>h.elim) (cY.refl K) (fun i H z=>?_)⟩
 ·have⟨M,z⟩:=hx i x t;have O:=(bR t).1;have C:be[i]?=some (be[i]'X):=cq _
  cases x with
  |vech E k l v =>
   have⟨F,o,L,n,s,u⟩:=h.ob _ _ (z _ C);refine⟨F,?_,L,n.pg s.flat,s,u⟩
   grind[iN]
  |_=>cases M
 ·grind[iN]
 ·have⟨q,M,z⟩:=A i b t;have⟨r,T,N⟩:=A j b G;have:=h.dis q r b z N
  grind[List.getElem?_eq_some_iff,List.getElem_inj]
 ·have⟨q,M,z⟩:=A i b t;exact h.own q b z
 grind
def Inv.view{i E k:Nat}{rows:List am}{x:Value}(h:Inv B K β Γ w)(hi:Γ[i]?=some (.vech E k rows x)):∃W,cY K W/\nY W w/\mb W (fun _=>.no) w/\Rel W (fun _=>.no) x (.sl k rows):=by
 have⟨j,S,r,G⟩:=h.rR hi;exact⟨j,S,G.fz,⟨G.tab.le,G.tab.pow,G.tab.spc,fun i b h=>by cases h⟩,r.pc rfl⟩
def Inv.new(h:nY K w)(q:mb K (fun _=>.no) w):Inv ⟨w,gn,K,fun _=>.no,0⟩ K (fun _=>.no) [] w :=
 ⟨Ext.refl w,cY.refl _,dO.refl _,fun _ _=>rfl,h,fun i x h=>by simp at h,fun _ _=>rfl,fun i j b h=>zff,fun i b h=>zff,fun b o g h=>.inl h,q⟩
theorem Inv.LX{i idx o j E k T k':Nat}{rows ks:List am}{x h:Value}{r:am}(O:Inv B K β Γ w)(hi:Γ[i]?=some (.vech T k rows h))(s:rows[idx]?=some r)(n:r[o]?=some (.v x))(q:i≠j)(J:Γ[j]?=some (.vech E k' ks x)) :
  ∃l,cY K l/\Inv B l β (oset (oset Γ j (.vec E k' ks.length ks)) i (.vech T k (dw rows idx o (.sl k' ks)) h)) w:=by
 have⟨l,V,H,G⟩:=O.rR J;have⟨u,W,z,A,N,S⟩:=G.ob i (.vech T k rows h) zfe;have M:=(bR s).1
 have L:o<k:=by rw[<-(N r (bB s)).1];grind
 exact⟨l,V,G.swap ⟨u,by grind[eb],by grind[eb],by rw[si L N M];grind[bA.bU,se],vZ rfl N,S⟩⟩
theorem CA{rows:List am}{i o:Nat}{g:GV}{r:am}(s:rows[i]?=some r):∀q,(dw rows i o g)[q]?=if q=i then some (bU r o g)else rows[q]?:=by
 induction rows generalizing i with
 |nil=>simp at s
 |cons x rs O =>
  intro q
  cases i with
  |zero =>
   grind[dw,bU]
  |succ i =>
   grind[dw,bU]
theorem Inv.RO{T k o E k' jf N:Nat}{h:Value}{raw fin:Nat->am}{ks:Nat->List am}{hd:Nat->Value}{jp:Nat->Nat}(hI:Inv B K β Γ w){b:List am}(hjf:Γ[jf]?=some (.vech T k b h))(h0:b.length=N/\∀i,i<N->b[i]?=some (raw i))
  (j:∀i,i<N->(raw i)[o]?=some (.v (hd i))/\bU (raw i) o (.sl k' (ks i))=fin i)(F:∀i,i<N->Γ[jp i]?=some (.vech E k' (ks i) (hd i)))(s:∀i,i<N->jp i≠jf)(C:∀i t,i<N->t<N->jp i=jp t->i=t) :
  ∃c bE rows,cY K c/\Inv B c β bE w/\bE[jf]?=some (.vech T k rows h)/\rows.length=N/\(∀i,i<N->rows[i]?=some (fin i))/\∀q,q≠jf->(∀i,i<N->q≠jp i)->bE[q]?=Γ[q]?:=by
 have u:∀n,n<=N->∃c bE rows,cY K c/\Inv B c β bE w/\bE[jf]?=some (.vech T k rows h)/\rows.length=N/\(∀i,i<n->rows[i]?=some (fin i))/\(∀i,n<=i->i<N->rows[i]?=some (raw i))/\(∀i,n<=i->i<N->bE[jp i]?=some (.vech E k' (ks i) (hd i)))/\∀q,q≠jf->(∀i,i<N->q≠jp i)->bE[q]?=Γ[q]?:=by
  intro n
  induction n with
  |zero=>grind[cY]
  |succ n ih =>
   intro hn;have⟨c,bE,rows,a1,z,l,H,J,L,M,O⟩:=ih X;have hr:=L n (aQ _) X;have⟨W,c2⟩:=j n X;obtain⟨G,S,V⟩:=z.LX l hr W (fun e=>s n X e.symm) (M n (aQ _) X);have mo:=(bR l).1;refine⟨G,_,dw rows n o (.sl k' (ks n)),a1.trans S,V,?_,by grind[eb],fun i A=>?_,fun i A r=>?_,fun i A r=>?_,fun q hq hqj=>?_⟩
   ·grind[bS]
   ·grind[CA]
   ·grind[CA]
   ·grind[bS]
   grind[bS]
 have⟨c,bE,rows,a1,z,l,H,J,_,_,O⟩:=u N (aQ _)
 grind
end
section
variable{P:Program}{fn:Func}{R:GV->ap->Prop}{fr:am}{Γ:ap}{e:Exit}
def SN{t:Tmp}{x:Value}(be:List Nat)(J:ap)(r:fn.results=#[.tmp t])(T:e=.normal\/e=.ret)(hg:cJ fr t=.v x)(V:J.length=be.length)(hn:be.Nodup)
  (hx:∀(j:Nat)x,J[j]?=some x->x.uG=true/\∀i,be[j]?=some i->Γ[i]?=some x)(h:R (.v x) J):tN P fn 0 R e fr Γ :=
 ⟨T,fun B K β w l k N S=>⟨nth l t,K,iN β be,.v x,J,by rw[results_tmp r,jI],N.pick k V hn hx,by have:=S.nth t;rw[hg]at this;rw[Rel.eP this];exact .v _,h⟩⟩
end
section
variable{P:Program}{fn:Func}{R:GV->ap->Prop}{fr:am}{Γ:ap}{e:Exit}
theorem Ng{Γ:ap}{n:Nat}(h:∀x∈Γ.drop n,x.uG=true):(Γ.drop n).length=((List.range (Γ.length-n)).map (·+n)).length/\((List.range (Γ.length-n)).map (·+n)).Nodup /\
  ∀(j:Nat)x,(Γ.drop n)[j]?=some x->x.uG=true/\∀i,((List.range (Γ.length-n)).map (·+n))[j]?=some i->Γ[i]?=some x:=by
 refine⟨by simp,?_,fun j x G=>⟨h x (bB G),fun i t=>?_⟩⟩
 ·unfold List.Nodup;rw[List.pairwise_map]
  exact List.nodup_range.imp fun q S=>q X
 grind
def EA{t:Tmp}{x:Value}(n:Nat)(r:fn.results=#[.tmp t])(S:e=.normal\/e=.ret)(hg:cJ fr t=.v x)(ha:∀x∈Γ.drop n,x.uG=true)(h:R (.v x) (Γ.drop n)):tN P fn 0 R e fr Γ :=
 have F:=Ng ha
 SN _ (Γ.drop n) r S hg F.1 F.2.1 F.2.2 h
end
section
variable{P:Program}{m:Nat}{Q:dU}{fr:am}{Γ:ap}{ops:Array Oper}{rest:List Oper}{d:Option Tmp}{op:Op}{ty:TypeId}{pos:String}{af:Array Edge}
theorem GL.wA{t:TypeId}{x:Operand}{cs:am}(hx:mI (a8 fr x)=some cs)(A:pg cs=true)(h:GL P m ops Q rest (bN fr d (.box cs 0)) Γ):GL P m ops Q (⟨d,.box t x,ty,pos,af,none⟩::rest) fr Γ:=fun B K β w l H N S=>by
 have⟨i,M,v⟩:=(S.ev x).cells hx
 refine WL.box rfl fun b u T=>?_
 rw[M]at T;have⟨V,G⟩:=N.uC T v (kR A);exact h B _ β u _ H G ((S.mono V (dO.refl β)).put d (Rel.box (K:=j1 K b cs) (β:=β) b 0 0 cs (fun j g C=>by grind[j1])))
def GL.borrow{f:FuncId}[hf:eI P f]{args:List Operand}{C:Array TypeId}{gs:am}{v:Value}(k:GF P f gs [] (.v v) [])
  (T:∀B K β w l,Inv B K β Γ w->FR K β fr l->∃W,nY W w/\mb W (fun _=>.no) w/\bA W (fun _=>.no) (args.map (ev l)) gs)
  (h:GL P m ops Q rest (bN fr d (.v v)) Γ):GL P m ops Q (⟨d,.call ⟨.value (.func f),args.toArray,C⟩,ty,pos,af,none⟩::rest) fr Γ:=fun B K β w l J N S=>by
 have⟨W,M,z,A⟩:=T B K β w l N S
 have E:(execOp (ev l) ⟨d,.call ⟨.value (.func f),args.toArray,C⟩,ty,pos,af,none⟩).run P w=.ok (.enter f (args.map (ev l)).toArray) w:=by simp[execOp,resolve,ev,Deferred.ofValue,invoke,oG]
 refine WL.calls E (k _ W _ w _ rfl (Inv.new M z) A) ?_;rintro x t⟨i,L,g,F,G,H,rfl,rfl⟩;exact h B K β t _ J (N.same G.ext) (S.put d (by rw[Rel.eP H];exact .v _))
def ua{P:Program}{w:World}{t e ty:TypeId}{i:TypeInfo}(o:P.underlying t=some (.slice e))(hi:P.info? e=some i)(a b:Option Addr)(n c d:Nat)(k:n<=c) :
  (Builtin.append_ #[t,t] ty #[.slice a n c,.slice b 0 d]).run P w=.ok (.slice a n c) w:=by
 cases a<;>cases b<;>simp[Builtin.append_,run_underlying o,sizeOf,typeInfo,hi,Builtin.lenOf,k,Builtin.firstCells,loadCells,loadCellsFrom,storeCells]
theorem GL.YT{s x:Operand}{t e k u:Nat}[O:nF P t e k u](i:Nat){H:Tmp}{v:Value}{rows:List am}(hx:a8 fr x=.sl k [])(W:a8 fr s=.v v)(G:Γ[i]?=some (.vech e k rows v))
  (h:GL P m ops Q rest (bN fr (some H) (.v v)) Γ):GL P m ops Q (⟨some H,.call ⟨.builtin .append,#[s,x],#[t,t]⟩,ty,pos,af,none⟩::rest) fr Γ:=fun B K β w l V J C=>by
 have⟨hu,⟨j,z,T,_⟩,_⟩:=O.parts;have⟨xs,o1,o2,_⟩:=J.ob i _ G;have E:ev l s=v:=C.eT W;have q:=C.ev x;rw[hx]at q;generalize F:ev l x=vx at q
 obtain⟨b,A,rfl⟩:∃b A,vx=.slice b 0 A:=by
  cases q with
  |sl0 a c k=>simp
  |sl b o c _ _ hr _=>simp
 obtain⟨a,n,c,rfl,S⟩:∃a n c,v=.slice a n c/\n<=c:=by
  rcases o2.2 with⟨M,N⟩|⟨g,L,cur,M,_,_,N,_⟩
  ·grind
  grind
 have r:=ua (P:=P) (w:=w) (ty:=ty) hu T a b n c A S;exact WL.val (v:=.slice a n c) (w':=w) (by simp[execOp,resolve,invoke,builtin,E,F,r]) (h B K β w _ V J (C.put _ (.v _)))
theorem GL.YX{s x:Operand}{t e k A:Nat}[T:nF P t e k A]{i n fz:Nat}{J:Tmp}{rows:List am}(hx:a8 fr x=.sl k [])(hs:a8 fr s=.vec i n)(H:Γ[i]?=some (.vec e k fz rows))(hn:rows.length=n)
  (h:GL P m ops Q rest (bN fr (some J) (.vec i n)) Γ):GL P m ops Q (⟨some J,.call ⟨.builtin .append,#[s,x],#[t,t]⟩,ty,pos,af,none⟩::rest) fr Γ:=fun B K β w l hm M E=>by
 subst hn;have⟨hu,⟨j,z,W,_⟩,_⟩:=T.parts;have⟨L,xs,o1,o2,_⟩:=M.ob i _ H;have q:=E.ev s;rw[hs]at q
 have F:ev l s=L:=by
  generalize hv:ev l s=v at q
  cases q with
  |vec _ _ a c hh =>
   grind
 have r:=E.ev x;rw[hx]at r;generalize G:ev l x=vx at r
 obtain⟨b,C,rfl⟩:∃b C,vx=.slice b 0 C:=by
  cases r with
  |sl0 a c k=>simp
  |sl b o c _ _ hr _=>simp
 obtain⟨a,n,c,rfl,V⟩:∃a n c,L=.slice a n c/\n<=c:=by
  rcases o2.2 with⟨O,S⟩|⟨g,N,cur,O,_,_,S,_⟩
  ·grind
  grind
 have u:=ua (P:=P) (w:=w) (ty:=ty) hu W a b n c C V;exact WL.val (v:=.slice a n c) (w':=w) (by simp[execOp,resolve,invoke,builtin,F,G,u]) (h B K β w _ hm M (E.put _ ze3))
theorem DT{Γ:ap}{i:Nat}{x:Ob}(h:Γ[i]?=some x):oset Γ i x=Γ:=by
 rw[bS];apply List.ext_getElem?
 grind
theorem GL.yu{s x:Operand}{t e k F:Nat}[E:nF P t e k F](i:Nat){n:Nat}{C:Tmp}{u:Option Addr}{j:Nat}{rows news:List am}(hx:a8 fr x=.sl k news)(q:a8 fr s=.v (.slice u n j))(G:Γ[i]?=some (.vech e k rows (.slice u n j)))(hn:rows.length=n)(M:ny news=true)
  (z:n+news.length<=9223372036854775807/\(n+news.length)*F<=140737488355328)
  (h:∀a c,GL P m ops Q rest (bN fr (some C) (.v (.slice a (n+news.length) c))) (oset Γ i (.vech e k (rows++news) (.slice a (n+news.length) c)))) :
  GL P m ops Q (⟨some C,.call ⟨.builtin .append,#[s,x],#[t,t]⟩,ty,pos,af,none⟩::rest) fr Γ:=by
 cases news with
 |nil =>
  have A:=h u j
  grind[DT,GL.YT]
 |cons r rs=>exact GL.mx i hx q G hn M rfl z h
def GL.YW{s x:Operand}{t e k F:Nat}[z:nF P t e k F]{i n fz:Nat}{C:Tmp}{rows news:List am}(hx:a8 fr x=.sl k news)(q:a8 fr s=.vec i n)(G:Γ[i]?=some (.vec e k fz rows))(hn:rows.length=n)(M:ny news=true)
  (v:n+news.length<=9223372036854775807/\(n+news.length)*F<=140737488355328)
  (h:GL P m ops Q rest (bN fr (some C) (.vec i (n+news.length))) (oset Γ i (.vec e k fz (rows++news)))) :
  GL P m ops Q (⟨some C,.call ⟨.builtin .append,#[s,x],#[t,t]⟩,ty,pos,af,none⟩::rest) fr Γ:=by
 cases news with
 |nil =>
  rw[fV,show n+([]:List am).length=n from rfl,DT G]at h;exact GL.YX hx q G hn h
 |cons r rs=>exact GL.app hx q G hn M rfl v h
theorem Pg:∀(us vs:List Value),vs.length=us.length->mT vs 0 us=us:=by
 have c:∀(us a vs:List Value),vs.length=us.length->mT (a++vs) a.length us=a++us:=by
  intro us
  induction us with
  |nil=>simp[mT]
  |cons u us O =>
   intro a vs h
   cases vs with
   |nil=>simp at h
   |cons v vs =>
    have n:eV (a++v::vs) a.length u=(a++[u])++vs:=by
     clear O h
     induction a with
     |nil=>rfl
     |cons x a O=>grind[eV]
    grind[mT]
 intro us vs h;exact c us [] vs h
theorem GL.XS{t:TypeId}{z:Value}{agg:Bool}{k:Nat}[hZ:ps P t z][hT:Ty P t agg k]{c ts:Tmp}{cs:am}{O:TypeId}{u:String}{E:Array Edge}{F:Option Tmp}(hzk:z.cells.size=k)(hy:mI (cJ fr ts)=some cs)(FM:Nat.beq ts c=false)(J:jc fr c=true)(hk:cs.length=k)(T:oa cs=true)(hp:pg cs=true)
  (h:GL P m ops Q rest (bN (bN fr (some c) (.box cs 0)) F (.v undef)) Γ):GL P m ops Q (⟨some c,.alloc t,ty,pos,af,none⟩::⟨F,.store t (.tmp c) (.tmp ts),O,u,E,none⟩::rest) fr Γ:=fun B K β w l hm V G=>by
 refine WL.alloc (z:=z) fun b w1 i=>?_
 have⟨A,r,s⟩:=(G.nth ts).cells hy
 have n:ts≠c:=by intro e;simp_all
 have N:ev (put l (some c) (.pointer (some ⟨b,0,none⟩))) (.tmp ts)=nth l ts:=oV n _;have M:ev (put l (some c) (.pointer (some ⟨b,0,none⟩))) (.tmp c)=.pointer (some ⟨b,0,none⟩):=ti (nK G J) _
 have S7:A.length=k:=by omega
 refine WL.st (t:=t) (k:=k) M N i.blk ze3 X (by rw[r];simpa using s.lI T) fun S C=>?_
 have q:setL z.cells 0 A=A.toArray:=by
  have:=yg A z.cells.toList 0
  simp_all[Pg,Array.length_toList]
 rw[r,List.toList_toArray,q]at C;have o:ur w S b (.cells A.toArray t):=⟨i.fresh,by rw[C.size];exact i.size,C.blk,i.ext.step C.ext fun j W=>.inl (by subst W;rw[i.fresh];simp)⟩;have⟨L,H⟩:=V.uC o s (kR hp);exact h B _ β S _ hm H (((G.mono L (dO.refl β)).put (some c) (Rel.box (K:=j1 K b cs) (β:=β) b 0 0 cs (fun j g hg=>by grind[j1]))).put F (.v _))
end
end Go.Xg
set_option maxHeartbeats 2000000
namespace Go.Xg
open Go.RowKit Go.Xw Go.Proofs
open Go.Xp (Nd)
open Go.Sp (Src)
attribute [local irreducible] GW GL GO YG GC GA bh bn
def bX(l:List ai):List am:=l.map fun s=>[GV.v (sv s)]
def bK(l:List Int):List am:=l.map fun i=>[y4 i]
def Hd(n:Nat)(h:Value):Prop:=∃a c,h=.slice a n c
def eN(x:Nd)(h:Value):am:=[y4 x.ab,y4 x.at_,y4 x.n,.v (sv x.s),.v h]
def iP(x:Nd)(h:Value):Ob:=.vech 3 1 (bK x.au) h
def Hv{S:Type}{f:S->Value->Ob}(hf:∀a h,(f a h).uG=true){l:List S}{q:List Value}:∀x∈List.zipWith f l q,x.uG=true:=fun x hx=>by
 have⟨i,t⟩:=List.getElem?_of_mem hx;rw[List.getElem?_zipWith]at t;split at t
 ·cases t;exact hf _ _
 ·cases t
end Go.Xg
set_option maxHeartbeats 4000000
namespace Go.Xg
open Go.RowKit Go.Xw Go.Proofs
open Go.Xp (levels)
def yM:List ai:=[[120],[121],[103],[49],[48],[55],[103,101,116,40,41],[115,105,122,101,40,97,41]]
def lZ(l:List ai)(k:Int):ai:=l.getD k.toNat []
def RD{l:List ai}{k:Int}(h:0<=k/\k<(l.length:Int)):(bX l)[k.toNat]?=some [.v (sv (lZ l k))]:=by
 have m:k.toNat<l.length:=by omega
 unfold lZ;rw[getD_eq_getElem?_getD,cq m,Option.getD_some];simp[bX,m]
def k0{l:List ai}{n:Nat}(h:∀s∈l,s.length<=n)(k:Int):(lZ l k).length<=n:=by
 unfold lZ;rw[getD_eq_getElem?_getD]
 cases m:l[k.toNat]? with
 |none=>exact bg _
 |some s=>exact h s (bB m)
def iC(code:ai):Nat->c9->ai × c9
 |0,c=>(lZ yM (bu code 8 (bu code 9 c).2).1,(bu code 8 (bu code 9 c).2).2)
 |d+1,c =>
  let k:=bu code 9 c
  if k.1<3 then(lZ yM (bu code 8 k.2).1,(bu code 8 k.2).2)
  else if k.1=3 then([97,91]++(iC code d k.2).1++[32,38,32,51,93],(iC code d k.2).2)
  else if k.1=4 then
   let j:=bu code 3 k.2
   (lZ [[45],[33],[126]] j.1++[40]++(iC code d j.2).1++[41],(iC code d j.2).2)
  else if k.1=5 then([97,91]++(iC code d k.2).1++[93],(iC code d k.2).2)
  else
   let j:=bu code 9 k.2
   let a:=iC code d j.2
   let cx:=levels.getD j.1.toNat []
   let o:=bu code (cx.length:Int) a.2
   let b:=iC code d o.2
   ([40]++a.1++[32]++lZ cx o.1++[32]++b.1++[41],b.2)
def GM(k:Int):∀s∈levels.getD k.toNat [],s.length<=2:=fun s q=>by
 rw[getD_eq_getElem?_getD]at q
 cases m:levels[k.toNat]? with
 |none=>rw[m]at q;cases q
 |some l =>
  rw[m]at q
  have h:∀l∈levels,∀s∈l,s.length<=2:=by decide
  exact h l (bB m) s q
def xK:Nat->Nat
 |0=>7
 |d+1=>2*xK d+7
def Zc:∀d,7<=xK d
 |0=>aQ _
 |d+1=>by rw[xK];omega
def mF(code:ai):∀(d:Nat)(c:c9),(iC code d c).1.length<=xK d
 |0,c=>by rw[iC,xK];exact k0 aN _
 |d+1,c=>by
  have O:=mF code d;have R:=Zc d;rw[iC,xK];simp only;split
  ·have:=k0 (l:=yM) (n:=7) aN (bu code 8 (bu code 9 c).2).1;show(lZ yM _).length<=_;omega
  split
  ·have:=O (bu code 9 c).2;exact zaE
  split
  ·have M:=O (bu code 3 (bu code 9 c).2).2;have v:=k0 (l:=[[45],[33],[126]]) (n:=1) aN (bu code 3 (bu code 9 c).2).1;exact zaE
  split
  ·have:=O (bu code 9 c).2;exact zaE
  ·generalize bu code 9 (bu code 9 c).2=j;have M:=O j.2;generalize iC code d j.2=a at *;have v:=k0 (GM j.1) (bu code ((levels.getD j.1.toNat []).length:Int) a.2).1;have w:=O (bu code ((levels.getD j.1.toNat []).length:Int) a.2).2;exact zaE
def qx{code:ai}:∀(d:Nat){c:c9},c.i<=code.length->(iC code d c).2.i<=code.length
 |0,c,h=>by rw[iC];exact ea _ (ea _ h)
 |d+1,c,h=>by
  have O:=fun{c:c9}=>qx (code:=code) d (c:=c)
  have M:=ea (code:=code) 9 h;rw[iC];simp only;split
  ·exact ea _ M
  split
  ·exact O M
  split
  ·exact O (ea _ M)
  split
  ·exact O M
  ·exact O (ea _ (O (ea _ M)))
def oY(code:ai)(d:Nat)(sub:c9->ai × c9)(out:ai)(c:c9):ai × c9 :=
 let k:=bu code 8 c
 if k.1=0/\0<d then
  let e:=iC code 1 k.2
  let a:=sub e.2
  let b:=sub a.2
  (out++[105,102,32,40]++e.1++[41,32,123,32]++a.1++[32,125,32,101,108,115,101,32,123,32]++b.1++[32,125,32],b.2)
 else if k.1=1/\0<d then
  let a:=sub k.2
  (out++[121,32,61,32,51,59,32,119,104,105,108,101,32,40,121,32,62,32,48,41,32,123,32]++a.1++[32,121,32,61,32,121,32,45,32,49,59,32,125,32],a.2)
 else if k.1=2 then
  let e:=iC code 1 k.2
  let f:=iC code 2 e.2
  (out++[97,91]++e.1++[32,38,32,51,93,32,61,32]++f.1++[59,32],f.2)
 else if k.1=3 then
  let e:=iC code 2 k.2
  (out++[112,117,116,40]++e.1++[41,59,32],e.2)
 else if k.1=4 then
  let e:=iC code 1 k.2
  (out++[103,32,61,32,103,32,43,32]++e.1++[59,32],e.2)
 else
  let x:=bu code 2 k.2
  let e:=iC code 2 x.2
  (out++lZ [[120],[121]] x.1++[32,61,32]++e.1++[59,32],e.2)
def kB(g:ai->c9->ai × c9):Nat->ai->c9->ai × c9
 |0,out,c=>(out,c)
 |n+1,out,c=>kB g n (g out c).1 (g out c).2
def we(code:ai):Nat->c9->ai × c9
 |0,c=>kB (oY code 0 fun c=>([],c)) (bu code 4 c).1.toNat [] (bu code 4 c).2
 |d+1,c=>kB (oY code (d+1) (we code d)) (bu code 4 c).1.toNat [] (bu code 4 c).2
section
variable{code:ai}{d:Nat}{sub:c9->ai × c9}
def yj{B:Nat}(q:∀c,(sub c).1.length<=B)(out:ai)(c:c9):(oY code d sub out c).1.length<=out.length+2*B+200:=by
 have M:=fun c=>mF code 1 c
 have v:=fun c=>mF code 2 c
 simp only[xK]at M v;unfold oY;simp only;generalize bu code 8 c=k;split
 ·have a1:=M k.2;have N:=q (iC code 1 k.2).2;have s:=q (sub (iC code 1 k.2).2).2;exact zaE
 split
 ·have N:=q k.2;exact zaE
 split
 ·have a1:=M k.2;have N:=v (iC code 1 k.2).2;exact zaE
 split
 ·have a1:=v k.2;exact zaE
 split
 ·have a1:=M k.2;exact zaE
 ·have a1:=v (bu code 2 k.2).2;have N:=k0 (l:=[[120],[121]]) (n:=1) aN (bu code 2 k.2).1;exact zaE
def CI(q:∀c:c9,c.i<=code.length->(sub c).2.i<=code.length){out:ai}{c:c9}(l:c.i<=code.length):(oY code d sub out c).2.i<=code.length:=by
 have M:=ea (code:=code) 8 l;unfold oY;simp only;generalize bu code 8 c=k at *;split
 ·exact q _ (q _ (qx 1 M))
 split
 ·exact q _ M
 split
 ·exact qx 2 (qx 1 M)
 split
 ·exact qx 2 M
 split
 ·exact qx 1 M
 ·exact qx 2 (ea _ M)
end
def xf{g:ai->c9->ai × c9}{B:Nat}(hg:∀out c,(g out c).1.length<=out.length+B):∀(n:Nat)(out:ai)(c:c9),(kB g n out c).1.length<=out.length+n*B
 |0,out,c=>by rw[kB];show out.length<=_;omega
 |n+1,out,c=>by
  have M:=xf hg n (g out c).1 (g out c).2;have v:=hg out c;rw[kB,Nat.succ_mul];omega
def As{code:ai}{g:ai->c9->ai × c9}(hg:∀out c,c.i<=code.length->(g out c).2.i<=code.length):∀(n:Nat)(out:ai)(c:c9),c.i<=code.length->(kB g n out c).2.i<=code.length
 |0,out,c,h=>by rw[kB];exact h
 |n+1,out,c,h=>by rw[kB];exact As hg n _ _ (hg out c h)
def zB:Nat->Nat
 |0=>600
 |d+1=>6*zB d+600
def yU(code:ai):∀(d:Nat)(c:c9),(we code d c).1.length<=zB d
 |0,c=>by
  rw[we,zB];have h:=eD code c (n:=4) X;have v:=xf (B:=200) (fun out c=>yj (code:=code) (d:=0) (sub:=fun c=>([],c)) (B:=0) (fun c=>aQ _) out c) (bu code 4 c).1.toNat [] (bu code 4 c).2;have w:(bu code 4 c).1.toNat*200<=3*200:=rU _ X;simp only[length_nil]at v;omega
 |d+1,c=>by
  rw[we,zB];have h:=eD code c (n:=4) X;have v:=xf (B:=2*zB d+200) (fun out c=>by have:=yj (code:=code) (d:=d+1) (yU code d) out c;omega) (bu code 4 c).1.toNat [] (bu code 4 c).2;have w:(bu code 4 c).1.toNat*(2*zB d+200)<=3*(2*zB d+200):=rU _ X;simp only[length_nil]at v;omega
def EK{code:ai}:∀(d:Nat){c:c9},c.i<=code.length->(we code d c).2.i<=code.length
 |0,c,h=>by rw[we];exact As (fun out c k=>CI (fun c h=>h) k) _ _ _ (ea _ h)
 |d+1,c,h=>by rw[we];exact As (fun out c k=>CI (fun c h=>EK d h) k) _ _ _ (ea _ h)
open Tryz
open GV (U)
abbrev eA(code:ai)(c:c9):Ob:=.box 115 (u7 code c)
def Wt{d:Nat}(h:d<=3):xK d<=105:=by
 have:d=0\/d=1\/d=2\/d=3:=by omega
 rcases this with rfl|rfl|rfl|rfl<;>decide
def oF{l:List ai}{m:Nat}(h:m<l.length):(bX l)[m]?=some [.v (sv (lZ l (m:Int)))]:=by
 have:=RD (l:=l) (k:=(m:Int)) ⟨by omega,by omega⟩
 rwa[dC]at this
def LD{m:Nat}(h:m<9):(levels.map fun l=>[strs l])[m]?=some [strs (levels.getD m [])]:=by
 have:m<levels.length:=h;rw[bO,getD_eq_getElem?_getD,cq this];rfl
def OE:∀m,m<9->0<(levels.getD m []).length:=by decide
def oM{code:ai}(T:code.length<=1099511627776){c:c9}(k:c.i<=code.length)(n:Int)(hn:0<n):∃(z:Int)(o:c9),GF prog 33 [.loc 0 0,y4 n] [eA code c] (y4 z) [eA code o]/\o.i<=code.length/\0<=z/\z<n:=⟨_,_,gi code n c T k,ea n k,eD code c hn⟩
def EH{code:ai}(T:code.length<=1099511627776){c:c9}(k:c.i<=code.length):∃(z:Int)(o:c9),GF prog 36 [.loc 0 0] [eA code c] (y4 z) [eA code o]/\o.i<=code.length /\ -9223372036854775808<=z/\z<=9223372036854775807:=⟨_,_,QY code c T k,Ya k,RH code c⟩
def mz{code:ai}(T:code.length<=1099511627776){c:c9}(k:c.i<=code.length)(n:Int)(hn:0<n):∃(z:Nat)(o:c9),GF prog 33 [.loc 0 0,y4 n] [eA code c] (y4 (z:Nat)) [eA code o]/\o.i<=code.length/\0<=(z:Int)/\(z:Int)<n:=by
 have⟨z,o,h,i,r⟩:=oM T k n hn;obtain⟨z,rfl⟩:∃q:Nat,z=(q:Int):=⟨z.toNat,by omega⟩;exact⟨z,o,h,i,r⟩
attribute [local irreducible] GW GL GO YG GC GA bh bn pQ um ql
def JF(code:ai)(G:code.length<=1099511627776):∀(d:Nat)(c:c9),d<=3->c.i<=code.length ->
  GF prog 174 [.loc 0 0,y4 (d:Nat)] [eA code c] (.v (sv (iC code d c).1)) [eA code (iC code d c).2]:=by
 intro d
 induction d with
 |zero =>
  intro c hd B;rw[iC];have z:=gi code 9 c G B;have u:=ea (code:=code) 9 B;generalize bu code 9 c=a at *;have⟨k,b⟩:=a;simp only at z u |-;exact zaD
 |succ d ih =>
  intro c hd B
  have hdd:(((d+1:Nat):Int)==0)=false:=by simp;omega
  have hB:=Wt (d:=d) X
  have w:∀c:c9,c.i<=code.length->GF prog 174 [.loc 0 0,y4 (((d+1:Nat):Int)-1)] [eA code c] (.v (sv (iC code d c).1)) [eA code (iC code d c).2]:=fun c B=>by
   rw[show(((d+1:Nat):Int)-1)=(d:Int) by omega];exact ih c X B
  clear ih;rw[iC];have z:=gi code 9 c G B;have r1:=eD code c (n:=9) X;have u:=ea (code:=code) 9 B;generalize bu code 9 c=a at *;have⟨k,b⟩:=a;simp only at z r1 u |-
  by_cases N:k<3
  ·have T:decide (k<(3:Int))=true:=by simpa using N
   rw[ae N];exact zaD
  ·have T:decide (k<(3:Int))=false:=by simpa using N
   rw[D N]
   by_cases C:k=3
   ·subst C;exact zbq
   ·have abH:(k==3)=false:=by simpa using C
    rw[D C]
    by_cases E:k=4
    ·subst E;rw[ae rfl];have e:=gi code 3 b G u;have H:=eD code b (n:=3) X;have J:=ea (code:=code) 3 u;generalize bu code 3 b=a at *;have⟨j,t⟩:=a;simp only at e H J |-;obtain⟨m,rfl⟩:∃m:Nat,j=(m:Int):=⟨j.toNat,by omega⟩;have V:=oF (l:=[[45],[33],[126]]) (m:=m) (by show m<3;omega);have hp:=k0 (l:=[[45],[33],[126]]) (n:=1) aN (m:Int);generalize lZ [[45],[33],[126]] (m:Int)=sg at *;have A:=w t J;have Q:=mF code d t;generalize iC code d t=a at *;have⟨s,M⟩:=a;simp only at A Q |-;refine aj func174 ntmps174 ?_;refine I [0] z ?_;refine aS (.q 1 (aK 6 3 (.f 0 (.a 2 (aK 3 3 (.a 9 (aK 10 3 .nil)))) 2 (.f 0 (aK 3 3 (.a 9 (aK 10 3 .nil))) 9 (.a 0 (aK 3 3 (aK 10 3 .nil))))))) ?_;refine av ?_;refine GO.fork ?_ ?_
     ·refine zar ?_;refine aJ [0] e ?_;refine aJ [0] A ?_;exact aB
     ·refine aJ [0] e ?_;refine GO.fork ?_ ?_
      ·refine zar ?_;refine aJ [0] A ?_;exact aB
      ·refine aJ [0] A ?_;refine zar ?_;exact aB
    ·have abI:(k==4)=false:=by simpa using E
     rw[D E]
     by_cases F:k=5
     ·subst F;exact zbq
     ·have abJ:(k==5)=false:=by simpa using F
      rw[D F];have e:=gi code 9 b G u;have H:=eD code b (n:=9) X;have J:=ea (code:=code) 9 u;generalize bu code 9 b=a at *;have⟨j,t⟩:=a;simp only at e H J |-;obtain⟨m,rfl⟩:∃m:Nat,j=(m:Int):=⟨j.toNat,by omega⟩;rw[dC];have V:=LD (m:=m) X;have hn:=OE m X;have L:=GM (m:Int);rw[dC]at L;generalize levels.getD m []=r at *;have A:=w t J;have Q:=mF code d t;have i3:=qx (code:=code) d J;generalize iC code d t=a at *;have⟨s,M⟩:=a;simp only at A Q i3 |-;have S:=gi code (r.length:Int) M G i3;have r4:=eD code M (n:=(r.length:Int)) X;have i4:=ea (code:=code) (r.length:Int) i3;generalize bu code (r.length:Int) M=a at *;have⟨o,R⟩:=a;simp only at S r4 i4 |-;obtain⟨q,rfl⟩:∃q:Nat,o=(q:Int):=⟨o.toNat,by omega⟩;have hr4:=oF (l:=r) (m:=q) X;have hp:=k0 L (q:Int);generalize lZ r (q:Int)=sg at *;have W:(r.map fun s=>[GV.v (sv s)]).length=r.length:=bC _;rw[<-W]at S;have h5:=w R i4;have b5:=mF code d R;generalize iC code d R=a at *;have⟨s2,c5⟩:=a;simp only at h5 b5 |-;refine aj func174 ntmps174 ?_;refine I [0] z ?_;refine I [] jW ?_;refine I [0] e ?_;refine aS (aK 0 3 (aK 6 4 (aK 15 3 (.a 3 (.q 4 (.q 5 (.a 10 (aK 11 4 (.a 18 (aK 19 3 .nil)))))))))) ?_;refine av ?_;refine aJ [0] A ?_;refine aJ [0] S ?_;refine aJ [0] h5 ?_;exact aB
def A4(code:ai)(S:code.length<=1099511627776)(d:Nat)(hd:d<=3)(sub:c9->ai × c9)
  (hs:0<d->∀c:c9,c.i<=code.length->GF prog 173 [.loc 0 0,y4 ((d:Int)-1)] [eA code c] (.v (sv (sub c).1)) [eA code (sub c).2])
  (R:∀c,(sub c).1.length<=1000000)(hi:∀c:c9,c.i<=code.length->(sub c).2.i<=code.length)(c:c9)(J:c.i<=code.length) :
  GF prog 173 [.loc 0 0,y4 (d:Nat)] [eA code c] (.v (sv (kB (oY code d sub) (bu code 4 c).1.toNat [] (bu code 4 c).2).1)) [eA code (kB (oY code d sub) (bu code 4 c).1.toNat [] (bu code 4 c).2).2]:=by
 have h1:=gi code 4 c S J;have r1:=eD code c (n:=4) X;have i1:=ea (code:=code) 4 J;generalize bu code 4 c=a at *;have⟨n0,c1⟩:=a;simp only at h1 r1 i1 |-;obtain⟨n,rfl⟩:∃n:Nat,n0=(n:Int):=⟨n0.toNat,by omega⟩;rw[dC];have H:=JF code S
 have w:=fun c=>mF code 1 c
 have z:=fun c=>mF code 2 c
 have he1:xK 1=21:=rfl;have xO:xK 2=49:=rfl;rw[he1]at w;rw[xO]at z
 have Q:=fun out c=>yj (code:=code) (d:=d) R out c
 have O:=fun(out:ai)(c:c9)(h:c.i<=code.length)=>CI (code:=code) (d:=d) hi (out:=out) h
 generalize hr:kB (oY code d sub) n [] c1=r;refine aj func173 ntmps173 ?_;refine I [0] h1 ?_;refine GW.loop (fun x:Nat=>x) (fun x fr Γ=>∃out c,fr=.loc 0 0::y4 (d:Nat)::U::U::U::.v (sv out)::y4 (x:Nat)::zU 88 []/\Γ=[eA code c]/\x<=3/\c.i<=code.length/\out.length+x*2000200<=8000000/\kB (oY code d sub) x out c=r) n ?_ ?_
 ·exact⟨_,_,Wk.aW az,_,_,rfl,rfl,by omega,i1,by simp only[length_nil];omega,hr⟩
 ·rintro x _ _⟨out,c,rfl,rfl,hx,J,aaX,h⟩
  cases x with
  |zero =>
   rw[kB]at h;subst h;exact zcU
  |succ x =>
   rw[kB]at h;have Xq:decide ((0:Int)<((x+1:Nat):Int))=true:=decide_eq_true X
   have t:(((x+1:Nat):Int)-1)=(x:Int):=by omega
   have AV:=Q out c;have N:=O out c J
   have b:∀y,oY code d sub out c=y->kB (oY code d sub) x y.1 y.2=r/\y.2.i<=code.length/\y.1.length+x*2000200<=8000000:=by
    rintro _ rfl;exact⟨h,N,by omega⟩
   clear h AV N Q O;unfold oY at b;have G:=gi code 8 c S J;have r3:=eD code c (n:=8) X;have C:=ea (code:=code) 8 J;generalize bu code 8 c=a at *;have⟨k,s⟩:=a;simp only at G r3 C b;obtain⟨m,rfl⟩:∃m:Nat,k=(m:Int):=⟨k.toNat,by omega⟩
   by_cases W:(m:Int)=0/\0<d
   ·have⟨e,j,o⟩:=b _ (ae W);have⟨hm,B⟩:=W
    obtain rfl:m=0:=by omega
    have SY:decide ((0:Int)<(d:Int))=true:=by simpa using B
    have g1:=H 1 s X C;have M:=w s;have L:=qx (code:=code) 1 C;generalize iC code 1 s=a at *;have⟨s1,A⟩:=a;simp only at e j o g1 M L;have u:=hs B A L;have E:=R A;have j2:=hi A L;generalize sub A=a at *;have⟨T,F⟩:=a;simp only at e j o u E j2;have g3:=hs B F j2;have b3:=R F;generalize sub F=a at *;have⟨s3,c5⟩:=a;simp only at e j o g3 b3;refine Z ?_;refine I [0] G ?_;refine I [0] g1 ?_;refine I [0] u ?_;refine I [0] g3 ?_;exact zan
   have b:=fun y h=>b y ((D W).trans h)
   by_cases hB:(m:Int)=1/\0<d
   ·have⟨e,j,o⟩:=b _ (ae hB);have⟨hm,B⟩:=hB
    obtain rfl:m=1:=by omega
    have SY:decide ((0:Int)<(d:Int))=true:=by simpa using B
    have u:=hs B s C;have E:=R s;generalize sub s=a at *;exact zcI
   have b:=fun y h=>b y ((D hB).trans h)
   by_cases hC:(m:Int)=2
   ·have⟨e,j,o⟩:=b _ (ae hC)
    obtain rfl:m=2:=by omega
    have g1:=H 1 s X C;have M:=w s;have L:=qx (code:=code) 1 C;generalize iC code 1 s=a at *;have⟨s1,A⟩:=a;simp only at e j o g1 M L;have u:=H 2 A X L;have E:=z A;generalize iC code 2 A=a at *;have⟨T,F⟩:=a;simp only at e j o u E;refine Z ?_;refine I [0] G ?_;refine I [0] g1 ?_;refine I [0] u ?_;exact zan
   have b:=fun y h=>b y ((D hC).trans h)
   by_cases hD:(m:Int)=3
   ·have⟨e,j,o⟩:=b _ (ae hD)
    obtain rfl:m=3:=by omega
    have u:=H 2 s X C;have E:=z s;generalize iC code 2 s=a at *;exact zcI
   have b:=fun y h=>b y ((D hD).trans h)
   by_cases hF:(m:Int)=4
   ·have⟨e,j,o⟩:=b _ (ae hF)
    obtain rfl:m=4:=by omega
    have g1:=H 1 s X C;have M:=w s;generalize iC code 1 s=a at *;have⟨s1,A⟩:=a;simp only at e j o g1 M;refine Z ?_;refine I [0] G ?_;refine I [0] g1 ?_;exact zan
   have⟨e,j,o⟩:=b _ (D hF);have V:=gi code 2 s S C;have r4:=eD code s (n:=2) X;have i4:=ea (code:=code) 2 C;generalize bu code 2 s=a at *;have⟨q,A⟩:=a;simp only at e j o V r4 i4;obtain⟨q,rfl⟩:∃q':Nat,q=(q':Int):=⟨q.toNat,by omega⟩;have abX:=oF (l:=[[120],[121]]) (m:=q) (by show q<2;omega);have hp:=k0 (l:=[[120],[121]]) (n:=1) aN (q:Int);generalize lZ [[120],[121]] (q:Int)=sg at *;have u:=H 2 A X i4;have E:=z A;generalize iC code 2 A=a at *;have⟨T,F⟩:=a;simp only at e j o u E
   have hm:(m=0/\d=0)\/(m=1/\d=0)\/m=5\/m=6\/m=7:=by omega
   rcases hm with⟨rfl,rfl⟩|⟨rfl,rfl⟩|rfl|rfl|rfl
   all_goals
    refine Z ?_;refine I [0] G ?_;refine aS (.q 0 (.q 2 (.q 8 (.f 1 (.a 3 (aK 4 4 (.a 9 (aK 10 3 .nil)))) 3 (.f 1 (aK 4 4 (.a 9 (aK 10 3 .nil))) 9 (.a 1 (aK 4 4 (aK 10 3 .nil)))))))) ?_;refine av ?_;refine GO.fork ?_ ?_
    ·refine zar ?_;refine aJ [0] V ?_;refine aJ [0] u ?_;refine Z ?_;exact zan
    ·refine aJ [0] V ?_;refine GO.fork ?_ ?_
     ·refine zar ?_;refine aJ [0] u ?_;refine Z ?_;exact zan
     ·refine aJ [0] u ?_;refine dn ?_;refine bp ?_;exact zan
def Yk{d:Nat}(h:d<=3):zB d<=1000000:=by
 have:d=0\/d=1\/d=2\/d=3:=by omega
 rcases this with rfl|rfl|rfl|rfl<;>decide
def wU(code:ai)(T:code.length<=1099511627776):∀(d:Nat)(c:c9),d<=3->c.i<=code.length ->
  GF prog 173 [.loc 0 0,y4 (d:Nat)] [eA code c] (.v (sv (we code d c).1)) [eA code (we code d c).2]
 |0,c,F,k=>by
  rw[we];exact A4 code T 0 F _ (fun h=>absurd h (Nat.lt_irrefl 0)) (fun c=>bg _) (fun c h=>h) c k
 |d+1,c,F,k=>by
  rw[we];refine A4 code T (d+1) F _ (fun h c k=>?_) (fun c=>jy (yU code d c) (Yk X)) (fun c h=>EK d h) c k;rw[show(((d+1:Nat):Int)-1)=(d:Int) by omega];exact wU code T d c X k
end Go.Xg
