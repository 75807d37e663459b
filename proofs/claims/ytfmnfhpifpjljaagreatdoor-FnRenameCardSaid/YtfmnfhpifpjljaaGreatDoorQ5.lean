/- Part 5 of proofs that are told in their last texts. -/
import Derived.Test.YtfmnfhpifpjljaaGreatDoorProg
import Derived.Test.YtfmnfhpifpjljaaGreatDoorQ4
import Derived.Test.YtfmnfhpifpjljaaGreatDoorQ2
import Derived.Lib.SmallJoins
import Derived.Lib.LaidU8
import Derived.Shelf.Vars
import Derived.Lib.AppendStr
open List (all_append all_cons all_nil any_cons any_nil cons_append drop_length ext_getElem flatten_cons getElem_mem length_append length_cons length_nil mem_cons_self nodup_range)
set_option linter.unusedVariables false
set_option linter.unusedSimpArgs false
set_option linter.defProp false
set_option maxRecDepth 100000
namespace Go.Xg
open Go.RowKit Go.Xw
structure Hid(B:Prop):Prop where
 h:B
structure rb(bc:List Nat)(C:Prop):Prop where
 h:C
section
variable{P:Program}{m:Nat}{ops:Array Oper}{Q:dN}{rest:List Oper}{fr:am}{Γ:ap}{d:Option Tmp}{ty:TypeId}{pos:String}{af:Array Edge}
def GL.sk{f:FuncId}{bc:List Nat}{args:List Operand}{Ho:Array TypeId}{gs:am}{yr Ss:ap}{g:GV}(hc:rb bc (GF P f gs yr g Ss))(ha:mi (args.map (bf fr)) (cq (cX bc Γ.length) gs))(uC:jZ bc Γ.length=true)
  (vA:seen (cX bc Γ.length) Γ bc yr)(hl:Nat.ble bc.length Ss.length=true)(h:GL P m ops Q rest (bX fr d (b8 (cX bc Γ.length) g)) (fB Γ bc (Ss.map (Ob.b8 (cX bc Γ.length)))))(hf:rv P f=true:=by first|exact fX.ok (self:=by assumption)|kernel_rfl) :
  GL P m ops Q (⟨d,.call ⟨.value (.func f),args.toArray,Ho⟩,ty,pos,af,none⟩::rest) fr Γ:=haveI:fX P f:=⟨hf⟩;GL.SA bc hc.h ha uC vA hl h
def GL.EZ{f:FuncId}{bc:List Nat}{args:List Operand}{Ho:Array TypeId}{gs:am}{yr:ap}{R:GV->ap->Prop}(hc:rb bc (GC P f gs yr R))(ha:mi (args.map (bf fr)) (cq (cX bc Γ.length) gs))(uC:jZ bc Γ.length=true)
  (vA:seen (cX bc Γ.length) Γ bc yr)(h:∀g bM,R g bM->bc.length<=bM.length/\GL P m ops Q rest (bX fr d (b8 (cX bc Γ.length) g)) (fB Γ bc (bM.map (Ob.b8 (cX bc Γ.length)))))(hf:rv P f=true:=by first|exact fX.ok (self:=by assumption)|kernel_rfl) :
  GL P m ops Q (⟨d,.call ⟨.value (.func f),args.toArray,Ho⟩,ty,pos,af,none⟩::rest) fr Γ:=haveI:fX P f:=⟨hf⟩;GL.KV bc hc.h ha uC vA h
def GL.MB{f:FuncId}{bc:List Nat}{x:Operand}{first cap:am}{args:List Operand}{Ho:Array TypeId}{gs:am}{yr:ap}{R:GV->ap->Prop}(hc:rb bc (GC P f gs yr R))(hx:bf fr x=.fn (.func f) first cap)(ha:first++args.map (bf fr)++cap=cq (cX bc Γ.length) gs)(uC:jZ bc Γ.length=true)
  (vA:seen (cX bc Γ.length) Γ bc yr)(h:∀g bM,R g bM->bc.length<=bM.length/\GL P m ops Q rest (bX fr d (b8 (cX bc Γ.length) g)) (fB Γ bc (bM.map (Ob.b8 (cX bc Γ.length)))))(hf:rv P f=true:=by first|exact fX.ok (self:=by assumption)|kernel_rfl) :
  GL P m ops Q (⟨d,.call ⟨.value x,args.toArray,Ho⟩,ty,pos,af,none⟩::rest) fr Γ:=haveI:fX P f:=⟨hf⟩;GL.oV bc hc.h hx ha uC vA h
def GL.MA{f:FuncId}{bc:List Nat}{x:Operand}{args:List Operand}{Ho:Array TypeId}{gs:am}{yr:ap}{R:GV->ap->Prop}(hc:rb bc (GC P f gs yr R))(hx:bf fr x=.v (.func (.func f) #[] #[]))(ha:args.map (bf fr)=cq (cX bc Γ.length) gs)(uC:jZ bc Γ.length=true)
  (vA:seen (cX bc Γ.length) Γ bc yr)(h:∀g bM,R g bM->bc.length<=bM.length/\GL P m ops Q rest (bX fr d (b8 (cX bc Γ.length) g)) (fB Γ bc (bM.map (Ob.b8 (cX bc Γ.length)))))(hf:rv P f=true:=by first|exact fX.ok (self:=by assumption)|kernel_rfl) :
  GL P m ops Q (⟨d,.call ⟨.value x,args.toArray,Ho⟩,ty,pos,af,none⟩::rest) fr Γ:=haveI:fX P f:=⟨hf⟩;GL.Ze bc hc.h hx ha uC vA h
end
section
variable{A:Prop}
def aS(s:A:=by first|omega|assumption|(simp only[List.length_append,List.length_cons,List.length_nil];omega)):A:=s
def aQ(s:A:=by first|rfl|assumption):A:=s
def gH(s:A:=by apply K.len;first|exact YG.ZJ rfl|exact YG.Rh rfl|exact YG.abg rfl|exact YG.abh rfl|exact YG.lenA rfl):A:=s
def ir(s:A:=by first|exact .inr rfl|exact .inl rfl):A:=s
def fP(s:A:=by apply K.ld;first|exact YG.vE rfl rfl aQ|exact YG.Ab rfl rfl rfl rfl|exact YG.ldV rfl rfl aQ aQ aQ|exact YG.XP rfl rfl aQ aQ aQ):A:=s
def PM(s:A:=by apply K.ld;first|exact YG.vE rfl rfl aQ|exact YG.XN rfl aQ|exact YG.Ab rfl rfl rfl rfl|exact YG.XO rfl rfl rfl|exact YG.ldV rfl rfl aQ aQ aQ|exact YG.XP rfl rfl aQ aQ aQ):A:=s
def eR(s:A:=by apply K.nck;first|exact YG.abo rfl|exact YG.Lz rfl):A:=s
def ff(s:A:=by apply K.pick;first|exact YG.TH rfl aQ|exact YG.TG rfl aQ):A:=s
def aX(s:A:=by assumption):A:=s
def fQ(s:A:=by omega):A:=s
def BK(s:A:=by apply K.bin;first|exact YG.go rfl|exact YG.jK rfl rfl fQ|exact YG.iM rfl rfl|exact YG.iO rfl rfl|exact YG.mM rfl rfl|exact YG.mV rfl rfl|exact YG.cat rfl rfl fQ|exact YG.cat rfl rfl (by simp only[List.length_append,List.length_cons,List.length_nil];omega)|exact YG.jR rfl rfl fQ|exact YG.add rfl rfl fQ|exact YG.sub rfl rfl fQ|exact YG.mul rfl rfl fQ|exact YG.kQ rfl rfl fQ|exact YG.quo rfl rfl fQ|exact YG.rem rfl rfl fQ|exact YG.ib rfl rfl):A:=s
def BL(s:A:=by apply K.nS;first|exact YG.kP rfl rfl rfl fQ|exact YG.kO rfl rfl fQ|exact YG.kL rfl rfl fQ|exact YG.gb 1 rfl rfl rfl aQ):A:=s
def TS(s:A:=by apply K.idx;first|exact YG.idxV rfl rfl rfl aQ fQ|exact YG.a8 0 rfl rfl rfl aS|exact YG.a8 1 rfl rfl rfl aS|exact YG.a8 2 rfl rfl rfl aS|exact YG.a8 3 rfl rfl rfl aS|exact YG.a8 4 rfl rfl rfl aS|exact YG.a8 5 rfl rfl rfl aS|exact YG.a8 6 rfl rfl rfl aS):A:=s
def TT(s:A:=by apply K.idx;first|exact YG.gR rfl rfl aX|exact YG.cx rfl rfl aX rfl|exact YG.cx rfl rfl aX fQ|exact YG.ju rfl rfl fQ|exact YG.idxV rfl rfl rfl aQ fQ|exact YG.a8 0 rfl rfl rfl aS|exact YG.a8 1 rfl rfl rfl aS|exact YG.a8 2 rfl rfl rfl aS|exact YG.a8 3 rfl rfl rfl aS|exact YG.a8 4 rfl rfl rfl aS|exact YG.a8 5 rfl rfl rfl aS|exact YG.a8 6 rfl rfl rfl aS):A:=s
def yo(s:A:=by first|rfl|exact IntWalk.i64_in _ fQ|exact IntWalk.u8_in _ fQ|assumption):A:=s
def Ht(s:A:=by apply K.idx;first|exact YG.gR rfl rfl aX|exact YG.cx rfl rfl aX rfl|exact YG.cx rfl rfl aX fQ|exact YG.ju rfl rfl fQ):A:=s
def fg(s:A:=by apply K.Cw;first|exact YG.mkfn0|exact YG.Cw):A:=s
def fE(s:A:=by apply K.ld;first|exact YG.XN rfl aQ|exact YG.XO rfl rfl rfl):A:=s
def PO(s:A:=by apply K.Wz;first|exact YG.WC rfl|exact YG.WA rfl|exact YG.fldV rfl rfl aQ|exact YG.WB rfl rfl aQ):A:=s
def L3(s:A:=by first|exact YG.mv|exact YG.lp|exact BK|exact PO|exact PM|exact gH|exact eR|exact ff|exact TT|exact YG.ext rfl rfl|exact YG.go rfl|exact BL|exact YG.iQ rfl rfl aX|exact YG.idxSC rfl rfl aX rfl|exact fg|exact YG.build rfl|exact YG.neg rfl fQ|exact YG.iP rfl rfl|exact YG.lZ rfl yo|exact YG.str rfl aQ):A:=s
def fF(s:A:=by apply K.Wz;first|exact YG.WC rfl|exact YG.WA rfl):A:=s
def fR(s:A:=by apply K.Wz;first|exact YG.fldV rfl rfl aQ|exact YG.WB rfl rfl aQ):A:=s
def TR(s:A:=by first|exact fP|exact TS|exact fR|exact YG.fO 1 rfl rfl aQ aQ|exact YG.mv|exact YG.lp|exact BK|exact fF|exact fE|exact gH|exact eR|exact ff|exact Ht|exact YG.ext rfl rfl|exact YG.go rfl|exact BL|exact YG.iQ rfl rfl aX|exact YG.idxSC rfl rfl aX rfl|exact fg|exact YG.build rfl|exact YG.neg rfl fQ|exact YG.iP rfl rfl|exact YG.lZ rfl yo|exact YG.str rfl aQ):A:=s
def PN(s:A:=by first|exact fP|exact TS|exact fR|exact YG.fO 1 rfl rfl aQ aQ):A:=s
end
section
variable{A B:Prop}
def jQ(s:A:=by repeat (first|exact dj.n|(apply dj.w;(· decide +kernel))|(apply dj.y;(· first|(apply YQ.t;(· exact rfl);(· exact rfl);(· exact TR))|(apply YQ.t;(· exact rfl);(· apply pz;(· exact rfl);(· first|exact rfl|assumption));(· exact TR))|(apply YQ.f;(· exact rfl);(· apply qb;(· exact rfl);(· first|exact rfl|assumption))))))):A:=s
def du(s:A:=by(try simp only[zU,bX,bJ,bf,bD,List.length_cons,List.length_nil,Nat.reduceAdd,b8,cq,cX]);rfl):A:=s
def eb(s:A:=by(try simp only[List.cons_append,List.nil_append,oset,pS,bJ,bD,bf,fB,List.map_cons,List.map_nil,Ob.b8,b8,cq,cX]);rfl):A:=s
def nL(s:A:=by simp only[zU,bX,bJ,bf,bD];rfl):A:=s
def n9(s:A:=by first|exact mi.refl|(repeat (first|exact mi.nil|exact nM.refl|exact nM.nil|exact nM.U|exact nM.fn0|refine mi.cons ?_ ?_|refine nM.agg ?_))):A:=s
def oN(s:A:=by first|exact trivial|exact⟨rfl,trivial⟩|exact⟨rfl,rfl,trivial⟩|exact⟨rfl,rfl,rfl,trivial⟩|exact⟨rfl,rfl,rfl,rfl,rfl,trivial⟩):A:=s
def I(h:B)(s:Hid B->A:=by intro hQ;(repeat (first|((first|(apply GL.q;(· exact L3))|refine GL.nil ?_|refine bh ?_|refine GW.seq ?_|refine GW.region ?_|refine GW.skip ?_|refine jN ?_|refine GW.block ?_|(apply GL.gt;(· exact rfl);(· first|exact rfl|assumption))|(apply GL.gf;(· exact rfl);(· first|exact rfl|assumption))|(apply GL.gu;(· exact rfl))|(apply Md;(· exact rfl);(· first|exact rfl|assumption))|(apply Mc;(· exact rfl);(· first|exact rfl|assumption)));try refine GN nL ?_)|((first|(apply GL.alloc;(· simp only[gZ,Value.cells,List.map_cons,List.map_nil];rfl))|(apply GL.box;(· exact rfl))|(apply GL.st;(· exact rfl);(· exact rfl);(· exact rfl);(· exact rfl);(· exact rfl);(· exact rfl)));refine oc du eb ?_)));exact hQ.1):A:=s ⟨h⟩
def ax(h:B)(s:Hid B->A:=by intro hQ;(repeat ((first|(apply OPm;(· exact rfl))|(apply OPa;(· exact rfl))|(apply OP;(· exact rfl);(· intro Γ;(first|exact BK|exact fF|exact fE|exact gH|exact eR|exact Ht|exact YG.ext rfl rfl|exact YG.go rfl|exact BL|exact YG.iQ rfl rfl aX|exact YG.idxSC rfl rfl aX rfl|exact fg|exact YG.build rfl|exact YG.neg rfl fQ|exact YG.iP rfl rfl|exact YG.lZ rfl yo|exact YG.str rfl aQ)))|(apply aak;(· exact rfl);(· exact rfl);(· first|exact rfl|assumption))|(apply aaj;(· exact rfl);(· exact rfl);(· first|exact rfl|assumption))|(apply aal;(· exact rfl);(· exact rfl);(· first|exact rfl|assumption))|(apply OQ;(· exact rfl);(· exact PN))|(apply OPt;(· exact rfl);(· exact rfl);(· first|exact rfl|assumption);(· intro Γ;(first|exact YG.mv|exact YG.lp|exact BK|exact fF|exact fE|exact gH|exact eR|exact ff|exact Ht|exact YG.ext rfl rfl|exact YG.go rfl|exact BL|exact YG.iQ rfl rfl aX|exact YG.idxSC rfl rfl aX rfl|exact fg|exact YG.build rfl|exact YG.neg rfl fQ|exact YG.iP rfl rfl|exact YG.lZ rfl yo|exact YG.str rfl aQ)))|(apply OQt;(· exact rfl);(· exact rfl);(· first|exact rfl|assumption);(· exact PN))|(apply ONf;(· exact rfl);(· exact rfl);(· first|exact rfl|assumption))|(apply ONu;(· exact rfl);(· exact rfl))|(apply OAf;(· exact rfl);(· exact rfl);(· first|exact rfl|assumption);(· exact jQ))|(apply OAu;(· exact rfl);(· exact rfl);(· exact jQ))|refine GO.nil ?_|(apply OA;(· exact rfl);(· exact rfl);apply GL.alloc;(· simp only[gZ,Value.cells,List.map_cons,List.map_nil];rfl);refine GL.nil (bh (dL.mk jQ ?_));refine j4 du eb ?_)|(apply OA;(· exact rfl);(· exact rfl);apply GL.st;(· exact rfl);(· exact rfl);(· exact rfl);(· exact rfl);(· exact rfl);(· exact rfl);refine GL.nil (bh (dL.mk jQ ?_));refine j4 du eb ?_)|(apply OA;(· exact rfl);(· exact rfl);apply GL.box;(· exact rfl);refine GL.nil (bh (dL.mk jQ ?_));refine j4 du eb ?_));try refine GON nL ?_));exact hQ.1):A:=s ⟨h⟩
def jF(h:B)(s:Hid B->A:=by intro hQ;(repeat (first|((first|(apply GL.q;(· (first|exact YG.mv|exact YG.lp|exact BK|exact PO|exact PM|exact gH|exact eR|exact ff|exact TT|exact YG.ext rfl rfl|exact YG.go rfl|exact BL|exact YG.iQ rfl rfl aX|exact YG.idxSC rfl rfl aX rfl|fail|exact YG.build rfl|exact YG.neg rfl fQ|exact YG.iP rfl rfl|exact YG.lZ rfl yo|exact YG.str rfl aQ)))|refine GL.nil ?_|refine bh ?_|refine GW.seq ?_|refine GW.region ?_|refine GW.skip ?_|refine jN ?_|refine GW.block ?_|(apply GL.gt;(· exact rfl);(· first|exact rfl|assumption))|(apply GL.gf;(· exact rfl);(· first|exact rfl|assumption))|(apply GL.gu;(· exact rfl))|(apply Md;(· exact rfl);(· first|exact rfl|assumption))|(apply Mc;(· exact rfl);(· first|exact rfl|assumption)));try refine GN nL ?_)|((first|(apply GL.alloc;(· simp only[gZ,Value.cells,List.map_cons,List.map_nil];rfl))|(apply GL.box;(· exact rfl))|(apply GL.st;(· exact rfl);(· exact rfl);(· exact rfl);(· exact rfl);(· exact rfl);(· exact rfl)));refine oc du eb ?_)));exact hQ.1):A:=s ⟨h⟩
def y9(h:B)(s:Hid B->A:=by intro hQ;(repeat (first|((first|(apply GL.q;(· exact L3))|refine GL.nil ?_|refine bh ?_|refine GW.seq ?_|refine GW.region ?_|refine GW.skip ?_|refine jN ?_|(apply GL.gt;(· exact rfl);(· first|exact rfl|assumption))|(apply GL.gf;(· exact rfl);(· first|exact rfl|assumption))|(apply GL.gu;(· exact rfl))|(apply Md;(· exact rfl);(· first|exact rfl|assumption))|(apply Mc;(· exact rfl);(· first|exact rfl|assumption)));try refine GN nL ?_)|((first|(apply GL.alloc;(· simp only[gZ,Value.cells,List.map_cons,List.map_nil];rfl))|(apply GL.box;(· exact rfl))|(apply GL.st;(· exact rfl);(· exact rfl);(· exact rfl);(· exact rfl);(· exact rfl);(· exact rfl)));refine oc du eb ?_)));exact hQ.1):A:=s ⟨h⟩
def bb(h:B)(s:Hid B->A:=by intro hQ;(try refine GN nL ?_);exact hQ.1):A:=s ⟨h⟩
def jj(h:B)(s:Hid B->A:=by intro hQ;(try refine GON nL ?_);exact hQ.1):A:=s ⟨h⟩
def dA(h:B)(s:Hid B->A:=by intro hQ;(refine oc du eb ?_);exact hQ.1):A:=s ⟨h⟩
def PK(h:B)(s:Hid B->A:=by intro hQ;(refine j4 du eb ?_);exact hQ.1):A:=s ⟨h⟩
def jE(h:B)(s:Hid B->A:=by intro hQ;((repeat (first|refine GW.exit ?_|refine Fi ?_|refine I8 ?_|refine UE rfl ?_|refine jN ?_|refine bh ?_)));exact hQ.1):A:=s ⟨h⟩
def bB(h:B)(s:Hid B->A:=by intro hQ;((repeat (first|refine GW.ret ?_|refine gV ?_|refine gU ?_|refine bh ?_|refine jN ?_));refine qc rfl ir rfl (Nat.le_refl _) rfl rfl ?_);exact hQ.1):A:=s ⟨h⟩
def cm(h:B)(s:Hid B->A:=by intro hQ;((repeat (first|refine GW.ret ?_|refine gV ?_|refine gU ?_|refine bh ?_|refine jN ?_));refine WN rfl ir (Nat.le_refl _) rfl ?_);exact hQ.1):A:=s ⟨h⟩
def lW(h:B)(s:Hid B->A:=by intro hQ;((repeat (first|refine GW.ret ?_|refine gV ?_|refine gU ?_|refine bh ?_|refine jN ?_));refine WO rfl ir rfl rfl (Nat.le_refl _) rfl rfl ?_);exact hQ.1):A:=s ⟨h⟩
def C0(h:B)(s:Hid B->A:=by intro hQ;((repeat (first|refine GW.ret ?_|refine gV ?_|refine gU ?_|refine bh ?_|refine jN ?_));refine WQ rfl ir rfl rfl rfl (Nat.le_refl _) rfl rfl ?_);exact hQ.1):A:=s ⟨h⟩
def mD(h:B)(s:Hid B->A:=by intro hQ;((repeat (first|refine GW.ret ?_|refine gV ?_|refine gU ?_|refine bh ?_|refine jN ?_));refine xK ?_;refine WQ rfl ir rfl rfl rfl (Nat.le_refl _) rfl rfl ?_);exact hQ.1):A:=s ⟨h⟩
def Hs(h:B)(s:Hid B->A:=by intro hQ;((repeat (first|refine GW.ret ?_|refine gV ?_|refine gU ?_|refine bh ?_|refine jN ?_));refine xK ?_;refine WO rfl ir rfl rfl (Nat.le_refl _) rfl rfl ?_);exact hQ.1):A:=s ⟨h⟩
def ql(h:B)(s:Hid B->A:=by intro hQ;((repeat (first|refine GW.ret ?_|refine gV ?_|refine gU ?_|refine bh ?_|refine jN ?_));refine xK ?_;refine WR rfl ir rfl rfl rfl (Nat.le_refl _) rfl rfl ?_);exact hQ.1):A:=s ⟨h⟩
def kU(h:B)(s:Hid B->A:=by intro hQ;((repeat (first|refine GW.ret ?_|refine gV ?_|refine gU ?_|refine bh ?_|refine jN ?_));refine SQ rfl ir rfl rfl rfl rfl (Nat.le_refl _) rfl rfl ?_);exact hQ.1):A:=s ⟨h⟩
def oM(h:B)(s:Hid B->A:=by intro hQ;((repeat (first|refine GW.ret ?_|refine gV ?_|refine gU ?_|refine bh ?_|refine jN ?_));refine xK ?_;refine SQ rfl ir rfl rfl rfl rfl (Nat.le_refl _) rfl rfl ?_);exact hQ.1):A:=s ⟨h⟩
def me(h:B)(s:Hid B->A:=by intro hQ;((repeat (first|refine GW.ret ?_|refine gV ?_|refine gU ?_|refine bh ?_|refine jN ?_));refine Ns rfl ir rfl rfl rfl rfl rfl (Nat.le_refl _) rfl rfl ?_);exact hQ.1):A:=s ⟨h⟩
def BJ(h:B)(s:Hid B->A:=by intro hQ;((repeat (first|refine GW.ret ?_|refine gV ?_|refine gU ?_|refine bh ?_|refine jN ?_));refine xK ?_;refine Ns rfl ir rfl rfl rfl rfl rfl (Nat.le_refl _) rfl rfl ?_);exact hQ.1):A:=s ⟨h⟩
def ej(h:B)(s:Hid B->A:=by intro hQ;((repeat (first|refine GW.ret ?_|refine gV ?_|refine gU ?_|refine bh ?_|refine jN ?_));refine WR rfl ir rfl rfl rfl (Nat.le_refl _) rfl rfl ?_);exact hQ.1):A:=s ⟨h⟩
def bT(h:B)(s:Hid B->A:=by intro hQ;(refine GL.X0 rfl rfl rfl rfl ?_;refine oc du eb ?_);exact hQ.1):A:=s ⟨h⟩
def pO(h:B)(s:Hid B->A:=by intro hQ;(refine GL.mkV rfl rfl rfl rfl ?_;refine oc du eb ?_);exact hQ.1):A:=s ⟨h⟩
def eX(h:B)(s:Hid B->A:=by intro hQ;(refine GL.push rfl rfl rfl rfl rfl rfl rfl rfl aQ ⟨⟨by omega,by omega⟩,by decide⟩ ?_;refine oc du eb ?_);exact hQ.1):A:=s ⟨h⟩
def qC(h:B)(s:Hid B->A:=by intro hQ;(refine OA rfl rfl (GL.mkV rfl rfl rfl rfl (GL.nil (bh (dL.mk jQ ?_))));refine j4 du eb ?_);exact hQ.1):A:=s ⟨h⟩
def lV(h:B)(s:Hid B->A:=by intro hQ;(refine OA rfl rfl (GL.app rfl rfl rfl aQ rfl rfl (by refine⟨?_,?_⟩;(· show _+1<=_;omega);(· show(_+1)*_<=_;omega)) (GL.nil (bh (dL.mk jQ ?_))));refine j4 du eb ?_);exact hQ.1):A:=s ⟨h⟩
def cM(h:B)(s:Hid B->A:=by intro hQ;(refine OA rfl rfl (GL.X0 rfl rfl rfl rfl (GL.nil (bh (dL.mk jQ ?_))));refine j4 du eb ?_);exact hQ.1):A:=s ⟨h⟩
def Hr(h:B)(s:Hid B->A:=by intro hQ;(refine OA rfl rfl (GL.st rfl rfl rfl rfl rfl rfl (GL.nil (bh (dL.mk jQ ?_))));refine j4 du eb ?_);exact hQ.1):A:=s ⟨h⟩
def L2(h:B)(s:Hid B->A:=by intro hQ;(refine OA rfl rfl (GL.PG 1 (by kernel_rfl) (by kernel_rfl) rfl rfl rfl rfl aX fQ (GL.nil (bh (dL.mk jQ ?_))));refine j4 du eb ?_);exact hQ.1):A:=s ⟨h⟩
def pP(h:B)(s:Hid B->A:=by intro hQ;(refine GL.xr rfl rfl rfl aQ rfl rfl rfl rfl ?_;refine oc du eb ?_);exact hQ.1):A:=s ⟨h⟩
def ch(h:B)(s:Hid B->A:=by intro hQ;(refine⟨by simp,?_⟩;refine oc du eb ?_);exact hQ.1):A:=s ⟨h⟩
def cD(h:B)(s:Hid B->A:=by intro hQ;(refine GL.nil (bh (dL.mk jQ ?_));refine j4 du eb ?_);exact hQ.1):A:=s ⟨h⟩
def pk(s:A:=by simp only[bj,ru];rfl):A:=s
def fJ(s:A:=by first|exact mi.refl|exact nM.refl|(repeat (first|exact mi.nil|exact nM.refl|exact nM.nil|exact nM.U|exact nM.fn0|refine mi.cons ?_ ?_|refine nM.agg ?_|refine nM.tup ?_))):A:=s
def az(s:A:=by repeat (first|exact tC.nil|refine tC.U ?_|refine tC.eq rfl ?_)):A:=s
end
section
variable{A B C:Prop}(bc:List Nat)
def ig(c:C)(h:B)(s:rb bc C->Hid B->A:=by intro hC hQ;(refine GL.sk hC n9 rfl oN rfl ?_;refine oc du eb ?_);exact hQ.1):A:=s ⟨c⟩ ⟨h⟩
def D(c:C)(h:B)(s:rb bc C->Hid B->A:=by intro hC hQ;(refine GL.sk hC n9 rfl oN rfl ?_;refine oc du eb ?_);refine I ?_;exact hQ.1):A:=s ⟨c⟩ ⟨h⟩
def mA(c:C)(h:B)(s:rb bc C->Hid B->A:=by intro hC hQ;(refine OA rfl rfl (GL.sk hC n9 rfl oN rfl (GL.nil (bh (dL.mk jQ ?_))));refine j4 du eb ?_);exact hQ.1):A:=s ⟨c⟩ ⟨h⟩
def aP(c:C)(h:B)(s:rb bc C->Hid B->A:=by intro hC hQ;(refine OA rfl rfl (GL.sk hC n9 rfl oN rfl (GL.nil (bh (dL.mk jQ ?_))));refine j4 du eb ?_);refine ax ?_;exact hQ.1):A:=s ⟨c⟩ ⟨h⟩
def aah(c:C)(h:B)(s:rb bc C->Hid B->A:=by intro hC hQ;(refine Su rfl rfl rfl (by first|exact rfl|assumption) (GL.sk hC n9 rfl oN rfl (GL.nil (bh (dL.mk jQ ?_))));refine j4 du eb ?_);exact hQ.1):A:=s ⟨c⟩ ⟨h⟩
def cH(c:C)(h:B)(s:rb bc C->Hid B->A:=by intro hC hQ;(refine Su rfl rfl rfl (by first|exact rfl|assumption) (GL.sk hC n9 rfl oN rfl (GL.nil (bh (dL.mk jQ ?_))));refine j4 du eb ?_);refine ax ?_;exact hQ.1):A:=s ⟨c⟩ ⟨h⟩
def jW(c:C)(h:B)(s:rb bc C->Hid B->A:=by intro hC hQ;(refine GL.MA hC rfl rfl rfl oN ?_;rintro _ _⟨rfl,rfl⟩;refine⟨by simp,?_⟩;refine oc du eb ?_);exact hQ.1):A:=s ⟨c⟩ ⟨h⟩
def oJ(c:C)(h:B)(s:rb bc C->Hid B->A:=by intro hC hQ;(refine GL.MB hC rfl rfl rfl oN ?_;rintro _ _⟨rfl,rfl⟩;refine⟨by simp,?_⟩;refine oc du eb ?_);exact hQ.1):A:=s ⟨c⟩ ⟨h⟩
def yn(c:C)(h:B)(s:rb bc C->Hid B->A:=by intro hC hQ;(refine OA rfl rfl (GL.MA hC rfl rfl rfl oN ?_);rintro _ _⟨rfl,rfl⟩;refine⟨by simp,(GL.nil (bh (dL.mk jQ ?_)))⟩;refine j4 du eb ?_);exact hQ.1):A:=s ⟨c⟩ ⟨h⟩
def oK(c:C)(h:B)(s:rb bc C->Hid B->A:=by intro hC hQ;(refine OA rfl rfl (GL.MB hC rfl rfl rfl oN ?_);rintro _ _⟨rfl,rfl⟩;refine⟨by simp,(GL.nil (bh (dL.mk jQ ?_)))⟩;refine j4 du eb ?_);exact hQ.1):A:=s ⟨c⟩ ⟨h⟩
def b6(c:C)(h:B)(s:rb bc C->Hid B->A:=by intro hC hQ;(refine GL.EZ hC n9 rfl oN ?_);exact hQ.1):A:=s ⟨c⟩ ⟨h⟩
end
def dc{A B C acj:Prop}(f:C)(n:acj)(h:B)(s:C->acj->Hid B->A:=by intro hC hD hQ;refine GC.enter hC hD rfl (by simp only[vu,Fh,Nat.reduceSub];rfl) ?_;exact hQ.1):A:=s f n ⟨h⟩
def au{A B C acj:Prop}(f:C)(n:acj)(h:B)(s:C->acj->Hid B->A:=by intro hC hD hQ;refine GC.enter hC hD rfl (by simp only[vu,Fh,Nat.reduceSub];rfl) ?_;refine I ?_;exact hQ.1):A:=s f n ⟨h⟩
section
variable{A:Prop}
def ay(s:A:=by refine bB ?_;exact⟨rfl,rfl⟩):A:=s
def aK(s:A:=by refine I ?_;refine bB ?_;exact⟨rfl,rfl⟩):A:=s
def oL(s:A:=by refine cm ?_;exact⟨rfl,rfl⟩):A:=s
def dF(s:A:=by refine I ?_;refine cm ?_;exact⟨rfl,rfl⟩):A:=s
def eA(s:A:=by refine lW ?_;exact⟨rfl,rfl⟩):A:=s
def rR(s:A:=by refine I ?_;refine lW ?_;exact⟨rfl,rfl⟩):A:=s
def lJ(s:A:=by refine ej ?_;exact⟨rfl,rfl⟩):A:=s
def kT(s:A:=by refine I ?_;refine ej ?_;exact⟨rfl,rfl⟩):A:=s
def aO(s:A:=by kernel_rfl):A:=s
def V(s:A:=by omega):A:=s
end
def nq{A B:Prop}(h:B)(s:Hid B->A:=by intro hQ;(repeat (first|refine GW.ret ?_|refine gV ?_|refine gU ?_|refine bh ?_|refine jN ?_));exact hQ.1):A:=s ⟨h⟩
section
variable{A:Prop}
def aci(s:A:=by first|rfl|assumption):A:=s
def jA(s:A:=by rintro k _ _⟨rfl,rfl,_⟩;exact⟨rfl,rfl,rfl⟩):A:=s
def fV(s:A:=by exact⟨_,_,Wk.aZ az,rfl,rfl⟩):A:=s
def lk(s:A:=by exact⟨_,_,Wk.aZ az,rfl,rfl,rfl⟩):A:=s
def fq(s:A:=by refine I ?_;exact⟨_,_,Wk.aZ az,rfl,rfl⟩):A:=s
def dO(s:A:=by exact⟨rfl,rfl,rfl⟩):A:=s
end
def bn{A B:Prop}(h:B)(s:Hid B->A:=by intro hQ;refine ax ?_;refine I ?_;exact hQ.1):A:=s ⟨h⟩
def eC{A B:Prop}(h:B)(s:Hid B->A:=by intro hQ;refine I ?_;refine jE ?_;exact hQ.1):A:=s ⟨h⟩
def np{A:Prop}(s:A:=by exact⟨⟨by omega,by omega⟩,by decide⟩):A:=s
def aR{A:Prop}(s:A:=by decide):A:=s
def aL:Nat->Nat->Ot->Ot
 |_,0,r=>r
 |s,n+1,r=>.q s (aL (s+1) n r)
def abv:List Nat->Ot->Ot
 |[],r=>r
 |i::l,r=>.q i (abv l r)
def aV{P:Program}{m id:Nat}{ol:List Oper}{Q:dN}{fr:am}{Γ:ap}(ord:Ot)(h:GO P ol.toArray (Q .normal) ord [] fr Γ)(hm:P.follows .mixedOrders=true:=by kernel_rfl)(uC:(Region.noSelect ol.toArray&&(ord.len==ol.length)&&tW ol.toArray ord (Array.replicate ol.toArray.size false))=true:=by kernel_rfl):GW P m (.region id ol.toArray true) Q fr Γ:=GW.draw ord hm uC h
end Go.Xg
namespace Go.Xw
open Go.Proofs Tryz
open Go.Xg (aO)
instance:fX prog 48:=⟨aO⟩
instance:fX prog 53:=⟨aO⟩
instance:fX prog 54:=⟨aO⟩
instance:fX prog 58:=⟨aO⟩
instance:fX prog 61:=⟨aO⟩
instance:fX prog 67:=⟨aO⟩
instance:fX prog 109:=⟨aO⟩
instance:fX prog 112:=⟨aO⟩
instance:fX prog 114:=⟨aO⟩
instance:fX prog 115:=⟨aO⟩
instance:fX prog 126:=⟨aO⟩
instance:fX prog 127:=⟨aO⟩
instance:fX prog 136:=⟨aO⟩
instance:fX prog 137:=⟨aO⟩
instance:fX prog 139:=⟨aO⟩
instance:fX prog 140:=⟨aO⟩
instance:fX prog 175:=⟨aO⟩
instance:fX prog 181:=⟨aO⟩
instance:fX prog 183:=⟨aO⟩
instance:fX prog 238:=⟨aO⟩
instance:fX prog 242:=⟨aO⟩
instance:Ty prog 3 false 1:=⟨aO,aO⟩
instance:qm prog 3 (.int .i64 (0)):=⟨aO⟩
instance:Go.Xg.nC prog 3 .i64:=⟨aO⟩
instance:Ty prog 4 false 1:=⟨aO,aO⟩
instance:Ty prog 5 false 1:=⟨aO,aO⟩
instance:Go.Xg.nC prog 5 .u8:=⟨aO⟩
instance:Ty prog 9 false 1:=⟨aO,aO⟩
instance:qG prog 9:=⟨aO⟩
instance:Go.Xg.nC prog 21 .i32:=⟨aO⟩
instance:Ty prog 22 false 1:=⟨aO,aO⟩
instance:Go.Xg.L7 prog 22:=Go.Xg.L7.mk' (e:=5) (aO) (aO)
instance:lX prog 22 5 1:=⟨aO,aO⟩
instance:od prog 22 5 1 [(.int .u8 (0))]:=⟨aO,aO,aO,rfl,by decide,fun _=>rfl⟩
instance:Ty prog 23 false 1:=⟨aO,aO⟩
instance:qm prog 23 (.slice none 0 0):=⟨aO⟩
instance:lX prog 23 9 1:=⟨aO,aO⟩
instance:nu prog 23 9 1 16:=⟨aO⟩
instance:od prog 23 9 1 [(.string ⟨#[]⟩)]:=⟨aO,aO,aO,rfl,by decide,fun _=>rfl⟩
instance:Ty prog 24 false 1:=⟨aO,aO⟩
instance:lX prog 24 79 2:=⟨aO,aO⟩
instance:nu prog 24 79 2 24:=⟨aO⟩
instance:od prog 24 79 2 [(.string ⟨#[]⟩),(.int .i64 (0))]:=⟨aO,aO,aO,rfl,by decide,fun h=>by cases h⟩
instance:Ty prog 25 false 1:=⟨aO,aO⟩
instance:lX prog 25 53 3:=⟨aO,aO⟩
instance:nu prog 25 53 3 48:=⟨aO⟩
instance:od prog 25 53 3 [(.string ⟨#[]⟩),(.slice none 0 0),(.int .i64 (0))]:=⟨aO,aO,aO,rfl,by decide,fun h=>by cases h⟩
instance:Ty prog 26 false 1:=⟨aO,aO⟩
instance:lX prog 26 82 5:=⟨aO,aO⟩
instance:nu prog 26 82 5 64:=⟨aO⟩
instance:od prog 26 82 5 [(.int .i64 (0)),(.int .i64 (0)),(.int .i64 (0)),(.string ⟨#[]⟩),(.slice none 0 0)]:=⟨aO,aO,aO,rfl,by decide,fun h=>by cases h⟩
instance:Ty prog 28 true 4:=⟨aO,aO⟩
instance:qm prog 28 (.agg #[(.slice none 0 0),(.slice none 0 0),(.slice none 0 0),(.slice none 0 0)]):=⟨aO⟩
instance:ed prog 28 0 0 1 false:=⟨aO⟩
instance:ed prog 28 1 1 1 false:=⟨aO⟩
instance:ed prog 28 2 2 1 false:=⟨aO⟩
instance:ed prog 28 3 3 1 false:=⟨aO⟩
instance:sd prog 28 [(0,1),(1,1),(2,1),(3,1)] [(.slice none 0 0),(.slice none 0 0),(.slice none 0 0),(.slice none 0 0)]:=⟨aO,aO⟩
instance:Ty prog 29 false 1:=⟨aO,aO⟩
instance:qm prog 29 (.slice none 0 0):=⟨aO⟩
instance:lX prog 29 3 1:=⟨aO,aO⟩
instance:nu prog 29 3 1 8:=⟨aO⟩
instance:od prog 29 3 1 [(.int .i64 (0))]:=⟨aO,aO,aO,rfl,by decide,fun _=>rfl⟩
instance:Ty prog 33 true 6:=⟨aO,aO⟩
instance:qm prog 33 (.agg #[(.int .i64 (0)),(.int .i64 (0)),(.int .i64 (0)),(.slice none 0 0),(.int .i64 (0)),(.slice none 0 0)]):=⟨aO⟩
instance:ed prog 33 0 0 1 false:=⟨aO⟩
instance:ed prog 33 1 1 1 false:=⟨aO⟩
instance:ed prog 33 2 2 1 false:=⟨aO⟩
instance:ed prog 33 3 3 1 false:=⟨aO⟩
instance:ed prog 33 4 4 1 false:=⟨aO⟩
instance:ed prog 33 5 5 1 false:=⟨aO⟩
instance:Ty prog 53 true 3:=⟨aO,aO⟩
instance:qm prog 53 (.agg #[(.string ⟨#[]⟩),(.slice none 0 0),(.int .i64 (0))]):=⟨aO⟩
instance:ed prog 53 0 0 1 false:=⟨aO⟩
instance:ed prog 53 1 1 1 false:=⟨aO⟩
instance:ed prog 53 2 2 1 false:=⟨aO⟩
instance:sd prog 53 [(0,1),(1,1),(2,1)] [(.string ⟨#[]⟩),(.slice none 0 0),(.int .i64 (0))]:=⟨aO,aO⟩
instance:Ty prog 62 false 1:=⟨aO,aO⟩
instance:lX prog 62 29 1:=⟨aO,aO⟩
instance:nu prog 62 29 1 24:=⟨aO⟩
instance:od prog 62 29 1 [(.slice none 0 0)]:=⟨aO,aO,aO,rfl,by decide,fun _=>rfl⟩
instance:ed prog 64 0 0 4 true:=⟨aO⟩
instance:ed prog 64 1 4 1 false:=⟨aO⟩
instance:ed prog 64 2 5 1 false:=⟨aO⟩
instance:ed prog 64 3 6 1 false:=⟨aO⟩
instance:ed prog 64 4 7 6 true:=⟨aO⟩
instance:ed prog 64 5 13 1 false:=⟨aO⟩
instance:ed prog 64 6 14 1 false:=⟨aO⟩
instance:sd prog 64 [(0,4),(4,1),(5,1),(6,1),(7,6),(13,1),(14,1)] [(.slice none 0 0),(.slice none 0 0),(.slice none 0 0),(.slice none 0 0),(.slice none 0 0),(.slice none 0 0),(.int .i64 (0)),(.int .i64 (0)),(.int .i64 (0)),(.int .i64 (0)),(.slice none 0 0),(.int .i64 (0)),(.slice none 0 0),(.slice none 0 0),(.int .i64 (0))]:=⟨aO,aO⟩
instance:Ty prog 79 true 2:=⟨aO,aO⟩
instance:qm prog 79 (.agg #[(.string ⟨#[]⟩),(.int .i64 (0))]):=⟨aO⟩
instance:ed prog 79 0 0 1 false:=⟨aO⟩
instance:ed prog 79 1 1 1 false:=⟨aO⟩
instance:sd prog 79 [(0,1),(1,1)] [(.string ⟨#[]⟩),(.int .i64 (0))]:=⟨aO,aO⟩
instance:Ty prog 82 true 5:=⟨aO,aO⟩
instance:qm prog 82 (.agg #[(.int .i64 (0)),(.int .i64 (0)),(.int .i64 (0)),(.string ⟨#[]⟩),(.slice none 0 0)]):=⟨aO⟩
instance:ed prog 82 0 0 1 false:=⟨aO⟩
instance:ed prog 82 1 1 1 false:=⟨aO⟩
instance:ed prog 82 2 2 1 false:=⟨aO⟩
instance:ed prog 82 3 3 1 false:=⟨aO⟩
instance:ed prog 82 4 4 1 false:=⟨aO⟩
instance:sd prog 82 [(0,1),(1,1),(2,1),(3,1),(4,1)] [(.int .i64 (0)),(.int .i64 (0)),(.int .i64 (0)),(.string ⟨#[]⟩),(.slice none 0 0)]:=⟨aO,aO⟩
instance:Ty prog 83 false 1:=⟨aO,aO⟩
instance:Ty prog 87 false 1:=⟨aO,aO⟩
instance:lX prog 87 89 6:=⟨aO,aO⟩
instance:nu prog 87 89 6 88:=⟨aO⟩
instance:od prog 87 89 6 [(.int .i64 (0)),(.int .i64 (0)),(.int .i64 (0)),(.string ⟨#[]⟩),(.slice none 0 0),(.slice none 0 0)]:=⟨aO,aO,aO,rfl,by decide,fun h=>by cases h⟩
instance:Ty prog 89 true 6:=⟨aO,aO⟩
instance:qm prog 89 (.agg #[(.int .i64 (0)),(.int .i64 (0)),(.int .i64 (0)),(.string ⟨#[]⟩),(.slice none 0 0),(.slice none 0 0)]):=⟨aO⟩
instance:ed prog 89 0 0 5 true:=⟨aO⟩
instance:ed prog 89 1 5 1 false:=⟨aO⟩
instance:sd prog 89 [(0,5),(5,1)] [(.int .i64 (0)),(.int .i64 (0)),(.int .i64 (0)),(.string ⟨#[]⟩),(.slice none 0 0),(.slice none 0 0)]:=⟨aO,aO⟩
instance:Ty prog 97 false 1:=⟨aO,aO⟩
instance:lX prog 97 132 1:=⟨aO,aO⟩
instance:nu prog 97 132 1 8:=⟨aO⟩
instance:od prog 97 132 1 [(.pointer none)]:=⟨aO,aO,aO,rfl,by decide,fun _=>rfl⟩
instance:ed prog 115 0 0 1 false:=⟨aO⟩
instance:ed prog 115 1 1 1 false:=⟨aO⟩
instance:ed prog 115 2 2 1 false:=⟨aO⟩
instance:sd prog 115 [(0,1),(1,1),(2,1)] [(.slice none 0 0),(.int .i64 (0)),(.int .i64 (0))]:=⟨aO,aO⟩
instance:Ty prog 127 false 1:=⟨aO,aO⟩
instance:qm prog 127 .nilFunc:=⟨aO⟩
instance:Ty prog 132 false 1:=⟨aO,aO⟩
instance:Ty prog 135 false 1:=⟨aO,aO⟩
instance:Ty prog 136 false 1:=⟨aO,aO⟩
instance:Ty prog 137 false 1:=⟨aO,aO⟩
instance:lX prog 137 205 4:=⟨aO,aO⟩
instance:nu prog 137 205 4 40:=⟨aO⟩
instance:od prog 137 205 4 [(.int .i64 (0)),(.int .i64 (0)),(.string ⟨#[]⟩),(.int .i64 (0))]:=⟨aO,aO,aO,rfl,by decide,fun h=>by cases h⟩
instance:ed prog 155 0 0 4 true:=⟨aO⟩
instance:ed prog 155 1 4 1 false:=⟨aO⟩
instance:ed prog 155 2 5 1 false:=⟨aO⟩
instance:ed prog 155 3 6 1 false:=⟨aO⟩
instance:sd prog 155 [(0,4),(4,1),(5,1),(6,1)] [(.slice none 0 0),(.slice none 0 0),(.slice none 0 0),(.slice none 0 0),(.slice none 0 0),(.int .i64 (0)),(.int .i64 (0))]:=⟨aO,aO⟩
instance:ed prog 172 0 0 1 false:=⟨aO⟩
instance:ed prog 172 1 1 1 false:=⟨aO⟩
instance:ed prog 172 2 2 1 false:=⟨aO⟩
instance:ed prog 172 3 3 1 false:=⟨aO⟩
instance:ed prog 172 4 4 1 false:=⟨aO⟩
instance:sd prog 172 [(0,1),(1,1),(2,1),(3,1),(4,1)] [(.slice none 0 0),(.int .i64 (0)),(.int .i64 (0)),(.int .i64 (0)),(.int .i64 (0))]:=⟨aO,aO⟩
instance:ed prog 181 0 0 1 false:=⟨aO⟩
instance:ed prog 181 1 1 1 false:=⟨aO⟩
instance:ed prog 181 2 2 1 false:=⟨aO⟩
instance:sd prog 181 [(0,1),(1,1),(2,1)] [(.slice none 0 0),(.bool false),(.int .i64 (0))]:=⟨aO,aO⟩
instance:ed prog 191 0 0 5 true:=⟨aO⟩
instance:ed prog 191 1 5 1 false:=⟨aO⟩
instance:sd prog 191 [(0,5),(5,1)] [(.int .i64 (0)),(.int .i64 (0)),(.int .i64 (0)),(.string ⟨#[]⟩),(.slice none 0 0),(.slice none 0 0)]:=⟨aO,aO⟩
instance:Ty prog 194 true 2:=⟨aO,aO⟩
instance:qm prog 194 (.agg #[.nilFunc,.nilFunc]):=⟨aO⟩
instance:ed prog 194 0 0 1 false:=⟨aO⟩
instance:ed prog 194 1 1 1 false:=⟨aO⟩
instance:sd prog 194 [(0,1),(1,1)] [.nilFunc,.nilFunc]:=⟨aO,aO⟩
instance:Ty prog 205 true 4:=⟨aO,aO⟩
instance:qm prog 205 (.agg #[(.int .i64 (0)),(.int .i64 (0)),(.string ⟨#[]⟩),(.int .i64 (0))]):=⟨aO⟩
instance:ed prog 205 0 0 1 false:=⟨aO⟩
instance:ed prog 205 1 1 1 false:=⟨aO⟩
instance:ed prog 205 2 2 1 false:=⟨aO⟩
instance:ed prog 205 3 3 1 false:=⟨aO⟩
instance:sd prog 205 [(0,1),(1,1),(2,1),(3,1)] [(.int .i64 (0)),(.int .i64 (0)),(.string ⟨#[]⟩),(.int .i64 (0))]:=⟨aO,aO⟩
instance:ed prog 210 0 0 1 false:=⟨aO⟩
instance:ed prog 210 1 1 1 false:=⟨aO⟩
instance:ed prog 210 2 2 1 false:=⟨aO⟩
instance:ed prog 210 3 3 1 false:=⟨aO⟩
instance:ed prog 210 4 4 1 false:=⟨aO⟩
instance:ed prog 210 5 5 1 false:=⟨aO⟩
instance:ed prog 210 6 6 4 true:=⟨aO⟩
instance:sd prog 210 [(0,1),(1,1),(2,1),(3,1),(4,1),(5,1),(6,4)] [(.slice none 0 0),(.int .i64 (0)),(.int .i64 (0)),(.int .i64 (0)),(.int .i64 (0)),(.slice none 0 0),(.slice none 0 0),(.slice none 0 0),(.slice none 0 0),(.slice none 0 0)]:=⟨aO,aO⟩
instance:lX prog 232 23 1:=⟨aO,aO⟩
instance:od prog 232 23 1 [(.slice none 0 0)]:=⟨aO,aO,aO,rfl,by decide,fun _=>rfl⟩
instance:Ty prog 244 false 1:=⟨aO,aO⟩
instance:qm prog 246 (.agg #[(.pointer none),(.slice none 0 0)]):=⟨aO⟩
instance:ed prog 246 0 0 1 false:=⟨aO⟩
instance:ed prog 246 1 1 1 false:=⟨aO⟩
instance:Go.Xg.nC prog 269 .u32:=⟨aO⟩
end Go.Xw
set_option maxHeartbeats 1000000
namespace Go.Xg
open Go.RowKit Go.Xw Go.Proofs Tryz Go.Sp
open Go.Xp (Tok dS)
attribute [local irreducible] GW GL GO YG GC GA bo bq
def dp(t:Tok):am:=[y4 t.ai,y4 t.n,.v (sv t.s),y4 t.at_]
def Qh(t:Tok):GF prog 222 [.agg (dp t)] [] (.v (sv (dS t))) []:=by
 refine au func222 ntmps222 ?_;refine GW.cond rfl (fun h=>?_) (fun h=>?_)
 ·refine zbb ?_
  have h:t.ai≠3:=by simpa using h
  rw[dS,ae h];exact zah
 ·refine zbb ?_
  have h:t.ai=3:=by simpa using h
  rw[dS,ak h];exact zah
abbrev iv(l:List Tok):GV:=.sl 4 (l.map dp)
abbrev cb(p:RS):Ob:=.box 172 [iv p.l,y4 p.i,y4 p.e,y4 p.code,y4 p.at_]
def lA{l:List Tok}{i:Nat}{t:Tok}(h:l[i]?=some t):(l.map dp)[i]?=some (dp t):=by rw[dB,h];rfl
def jY(p:RS)(W:p.ok):GF prog 172 [.loc 0 0] [cb p] (y4 p.place) [cb p]:=by
 have⟨X,G⟩:=W
 cases M:p.l[p.i]? with
 |some t =>
  have w:=lA M;have N:p.i<p.l.length:=(bY M).1
  have T:decide ((p.i:Int)<((p.l.map dp).length:Int))=true:=by simpa using N
  refine au func172 ntmps172 ?_;refine zaP ?_;refine aV (aL 0 12 .nil) ?_;refine bn ?_;refine bB ?_;rw[RS.place,M];exact zah
 |none =>
  have N:p.l.length<=p.i:=oP M
  have T:decide ((p.i:Int)<((p.l.map dp).length:Int))=false:=by simpa using N
  refine au func172 ntmps172 ?_;refine zaP ?_;refine bB ?_;rw[RS.place,M];exact zah
open GV (U)
def dz(p:RS)(k:Nat)(X:p.ok)(O:k<=1):GF prog 168 [.loc 0 0,y4 k] [cb p] (.v (sv (p.aJ k))) [cb p]:=by
 have⟨Y,G⟩:=X
 by_cases W:p.code=0
 ·have u:(p.code != 0)=false:=by simpa using W
  cases M:p.l[p.i+k]? with
  |some t =>
   have w:=lA M;have N:p.i+k<p.l.length:=(bY M).1
   have T:decide (((p.l.map dp).length:Int)<=((p.i+k:Nat):Int))=false:=by simp;omega
   refine au func168 ntmps168 ?_;refine aV (aL 0 19 .nil) ?_;refine bn ?_;refine aV (aL 0 12 (.a 12 (.q 13 .nil))) ?_;refine ax ?_;refine aP [] (Qh t) ?_;refine zbb ?_;rw[RS.aJ,ak W,M];exact zah
  |none =>
   have N:p.l.length<=p.i+k:=oP M
   have T:decide (((p.l.map dp).length:Int)<=((p.i+k:Nat):Int))=true:=by simp;omega
   refine au func168 ntmps168 ?_;refine aV (aL 0 19 .nil) ?_;refine bn ?_;refine bB ?_;rw[RS.aJ,ak W,M];exact zah
 ·have u:(p.code != 0)=true:=by simpa using W
  refine au func168 ntmps168 ?_;refine aV (aL 0 19 .nil) ?_;refine bn ?_;refine bB ?_;rw[RS.aJ,ae W];exact zah
def kg(p:RS)(c a:Int):GF prog 171 [.loc 0 0,y4 c,y4 a] [cb p] (.tup []) [cb (p.fail c a)]:=by
 refine au func171 ntmps171 ?_;refine GW.cond rfl (fun h=>?_) (fun h=>?_)
 ·refine I ?_;refine cm ?_
  have h:p.code=0:=by simpa using h
  rw[RS.fail,ak h];exact zah
 ·refine I ?_;refine cm ?_
  have h:¬p.code=0:=by simpa using h
  rw[RS.fail,ae h];exact zah
def da(p:RS)(s:ab)(W:p.ok)(H:s≠[]):GF prog 223 [.loc 0 0,.v (sv s)] [cb p] (.tup []) [cb (p.ba s)]:=by
 refine au func223 ntmps223 ?_;refine ig [0] (dz p 0 W aR) ?_
 by_cases h:p.aJ 0=s
 ·have e:(!(p.aJ 0==s))=false:=by simp[h]
  have M:=(dH h H).1;have⟨X,G⟩:=W;refine I ?_;refine cm ?_;rw[RS.ba,ak h];exact zah
 ·have e:(!(p.aJ 0==s))=true:=by simpa using h
  refine I ?_;refine D [0] (jY p W) ?_;refine D [0] (kg p 7 p.place) ?_;refine cm ?_;rw[RS.ba,ae h];exact zah
open Go.Xp (T one levels)
def uG(p:RS)(d:Nat)(W:p.ok):GF prog 262 [.loc 0 0,y4 d] [cb p] (.tup []) [cb (p.a6 d)]:=by
 by_cases h:d>60
 ·have e:decide ((60:Int)<(d:Int))=true:=by simp;omega
  refine au func262 ntmps262 ?_;refine D [0] (jY p W) ?_;refine D [0] (kg p 9 p.place) ?_;refine cm ?_;rw[RS.a6,ak h];exact zah
 ·have e:decide ((60:Int)<(d:Int))=false:=by simp;omega
  refine au func262 ntmps262 ?_;refine cm ?_;rw[RS.a6,ae h];exact zah
def ou(p:RS)(X:p.ok):GF prog 224 [.loc 0 0] [cb p] (.v (sv p.name.1)) [cb p.name.2]:=by
 have⟨Y,H⟩:=id X
 by_cases W:p.code=0
 ·have u:(p.code != 0)=false:=by simpa using W
  cases M:p.l[p.i]? with
  |some t =>
   have w:=lA M;have O:p.i<p.l.length:=(bY M).1
   have T:decide (((p.l.map dp).length:Int)<=(p.i:Int))=false:=by simp;omega
   by_cases N:t.ai=2
   ·have R:(t.ai != 2)=false:=by simpa using N
    by_cases G:t.s.length>12
    ·have o:decide ((12:Int)<(t.s.length:Int))=true:=by simp;omega
     refine au func224 ntmps224 ?_;refine aV (aL 0 24 .nil) ?_;refine bn ?_;refine zcP ?_;refine D [0] (kg p 8 t.at_) ?_;refine bB ?_;rw[RS.name,ak W,M];simp only[ak N,ak G];exact zah
    ·have o:decide ((12:Int)<(t.s.length:Int))=false:=by simp;omega
     refine au func224 ntmps224 ?_;refine aV (aL 0 24 .nil) ?_;refine bn ?_;refine zcP ?_;refine bB ?_;rw[RS.name,ak W,M];simp only[ak N,ae G];exact zah
   ·have R:(t.ai != 2)=true:=by simpa using N
    refine au func224 ntmps224 ?_;refine zc9 ?_;simp only[ae N];exact zah
  |none =>
   have O:p.l.length<=p.i:=oP M
   have T:decide (((p.l.map dp).length:Int)<=(p.i:Int))=true:=by simp;omega
   refine au func224 ntmps224 ?_;refine zc9 ?_;exact zah
 ·have u:(p.code != 0)=true:=by simpa using W
  refine au func224 ntmps224 ?_;refine bB ?_;rw[RS.name,ae W];exact zah
abbrev ints(l:List Int):GV:=.sl 1 (l.map fun i=>[.v (ii i)])
abbrev strs(l:List ab):GV:=.sl 1 (l.map fun s=>[.v (sv s)])
mutual
def Ws:T->am
 |.mk n k=>[.v (ii n.ai),.v (ii n.at_),.v (ii n.n),.v (sv n.s),ints n.aw,.sl 6 (bj k)]
def bj:List T->List am
 |[]=>[]
 |t::r=>Ws t::bj r
end
abbrev cT(t:T):am:=[y4 t.n.ai,y4 t.n.at_,y4 t.n.n,.v (sv t.n.s),ints t.n.aw,.sl 6 (bj t.aw)]
theorem ru(t:T):Ws t=cT t:=by
 cases t;rfl
def iT(k a:Int)(s:ab)(l:List T)(rows:List am)(h:bj l=rows):GF prog 263 [y4 k,y4 a,.v (sv s),.sl 6 rows] [] (.agg (cT (one k a s l))) []:=by
 subst h;refine au func263 ntmps263 ?_;exact zeJ
def jX:GF prog 225 [] [] (.sl 1 (levels.map fun l=>[strs l])) []:=by
 refine au func225 ntmps225 ?_
 iterate 10 (refine bT ?_)
 exact aK
def D9{xs:List ab}{k:Nat}{s x:ab}(h:xs[k]?=some x):(xs.take (k+1)).contains s=((xs.take k).contains s ||(x==s)):=by
 rw[dd,h,List.contains_append];show(_ ||[x].contains s)=_
 congr 1
 rw[List.contains_cons,List.contains_nil,Bool.or_false];exact Bool.beq_comm
def iR(xs:List ab)(s:ab)(M:xs.length<=1099511627776):GF prog 58 [strs xs,.v (sv s)] [] (.v (.bool (xs.contains s))) []:=by
 refine au func58 ntmps58 ?_;refine GW.range (xs.map fun s=>[GV.v (sv s)]).length (fun k J u=>J=[strs xs,.v (sv s),U,U,U,U,U,strs xs,y4 ((xs.map fun s=>[GV.v (sv s)]).length:Int),y4 k,U,U,U,U,U,U,U]/\u=[]/\(xs.take k).contains s=false) ?_ zfy ?_ ?_ ?_
 ·exact lk
 ·exact jA
 ·rintro k _ _ N⟨rfl,rfl,W⟩
  have N:k<xs.length:=by simpa using N
  have hx:xs[k]?=some xs[k]:=by simp[N]
  have z:(xs.map fun s=>[GV.v (sv s)])[k]?=some [.v (sv xs[k])]:=by simp[N]
  have w:=D9 (s:=s) hx;refine I ?_;refine GW.cond rfl (fun b=>?_) (fun b=>?_)
  ·refine zbb ?_
   have G:xs[k]=s:=by simpa using b
   have:s∈xs:=by rw[<-G];exact getElem_mem _
   refine⟨?_,rfl⟩;show GV.v (.bool true)=_;rw[p6.2 this]
  ·refine I ?_;exact⟨rfl,rfl,_,_,Wk.aZ az,rfl,rfl,by rw[w,W,b];rfl⟩
 ·rintro _ _⟨rfl,rfl,W⟩;refine zbb ?_
  have W:xs.contains s=false:=by simpa using W
  refine⟨?_,rfl⟩;show GV.v (.bool false)=_;rw[W]
end Go.Xg
namespace Go.Xg
open Go.RowKit Go.Xw
section
variable{P:Program}{m:Nat}{Q:dN}{fr:am}{Γ:ap}
theorem GW.A3{c y:Code}{B:Nat}(K:am->ap->Prop)(o:GW P m c (bq B (bo (zf m K) Q)) fr Γ)(b:∀fr Γ,K fr Γ->GW P m y Q fr Γ):GW P m c (bq B (bo (GW P m y Q) Q)) fr Γ:=by
 refine o.mono fun e fr Γ J=>?_
 have S:∀fr Γ,zf m K fr Γ->GW P m y Q fr Γ:=fun fr Γ ⟨s,v,l,N⟩=>GW.wk l (b _ _ N)
 cases e with
 |normal=>exact S _ _ J
 |exit n =>
  grind[bq,bo,GW]
 |_=>exact J
end
section
variable{P:Program}{fn:Func}{m:Nat}{R:GV->ap->Prop}{fr:am}{Γ:ap}{e:Exit}
theorem SQ{n:Nat}{t u:Tmp}{T:TypeId}{k:Nat}[hT:Ty P T true k]{i:Nat}{E:TypeId}{cs:am}{g:GV}(S:fn.results=#[.cell t T,.tmp u])(J:e=.normal\/e=.ret)(hg:bD fr t=.loc i 0)(s:Γ[i]?=some (.box E cs))(hk:cs.length=k)(d:bD fr u=g)
  (hm:m<=n)(M:sO n (Γ.take n)=true)(q:(GV.tup [.agg cs,g]).lt n=true)(h:R (.tup [.agg cs,g]) (Γ.take n)):qv P fn m R e fr Γ :=
 ⟨J,fun B K G w l hB C A=>by
  have⟨b,vs,X,Y,z,Z⟩:=C.ob i _ s
  have N:nth l t=.pointer (some ⟨b,0,none⟩):=by
   have:=A.nth t;rw[hg]at this;generalize nth l t=v at this
   cases this with
   |loc _ _ W H=>grind
  have O:l.toArray.getD t undef=.pointer (some ⟨b,0,none⟩):=by rw[iJ,N]
  have r:=km (P:=P) (w:=w) (t:=T) (b:=b) (o:=0) (vs:=vs) (k:=k) V (fun j v hj=>by
   grind[World.cell?])
  have c:l[t]?.getD undef=.pointer (some ⟨b,0,none⟩):=by simp_all
  refine⟨.tuple #[.agg vs.toArray,nth l u],K,dT (below n) G,.tup [.agg cs,g],Γ.take n,?_,C.cut V M,?_,h⟩
  ·rw[<-iJ l u];simp[results,S,c,asAddr,r]
  ·refine Rel.res ?_ q;subst d;have F:bF K G [.agg vs.toArray,nth l u] [.agg cs,bD fr u]:=.cons (.agg vs cs z.1 z.2) (.cons (A.nth u) .nil)
   exact .tup _ _ F.1 F.2⟩
theorem Ns{n:Nat}{t u s:Tmp}{T:TypeId}{k:Nat}[hT:Ty P T true k]{i:Nat}{E:TypeId}{cs:am}{g d:GV}(Y:fn.results=#[.cell t T,.tmp u,.tmp s])(O:e=.normal\/e=.ret)(hg:bD fr t=.loc i 0)(F:Γ[i]?=some (.box E cs))(hk:cs.length=k)(r:bD fr u=g)(z:bD fr s=d)
  (hm:m<=n)(S:sO n (Γ.take n)=true)(A:(GV.tup [.agg cs,g,d]).lt n=true)(h:R (.tup [.agg cs,g,d]) (Γ.take n)):qv P fn m R e fr Γ :=
 ⟨O,fun B K M w l hB H q=>by
  have⟨b,vs,h1,h2,G,h4⟩:=H.ob i _ F
  have W:nth l t=.pointer (some ⟨b,0,none⟩):=by
   have:=q.nth t;rw[hg]at this;generalize nth l t=v at this
   cases this with
   |loc _ _ Z N=>grind
  have X:l.toArray.getD t undef=.pointer (some ⟨b,0,none⟩):=by rw[iJ,W]
  have C:=km (P:=P) (w:=w) (t:=T) (b:=b) (o:=0) (vs:=vs) (k:=k) V (fun j v hj=>by
   grind[World.cell?])
  have c:l[t]?.getD undef=.pointer (some ⟨b,0,none⟩):=by simp_all
  refine⟨.tuple #[.agg vs.toArray,nth l u,nth l s],K,dT (below n) M,.tup [.agg cs,g,d],Γ.take n,?_,H.cut V S,?_,h⟩
  ·rw[<-iJ l u,<-iJ l s];simp[results,Y,c,asAddr,C]
  ·refine Rel.res ?_ A;subst r z;have J:bF K M [.agg vs.toArray,nth l u,nth l s] [.agg cs,bD fr u,bD fr s]:=.cons (.agg vs cs G.1 G.2) (.cons (q.nth u) (.cons (q.nth s) .nil))
   exact .tup _ _ J.1 J.2⟩
end
open Go.Proofs Tryz Go.Sp
open GV (U)
attribute [local irreducible] GW GL GO YG GC GA bo bq
abbrev Da(c:UInt8):GV:=.v (.int .u8 (c.toNat:Int))
def wP(c:UInt8):GF prog 185 [Da c] [] (.v (.bool (small c))) []:=by
 unfold small;refine dc func185 ntmps185 ?_
 cases h:decide ((97:Int)<=(c.toNat:Int))
 all_goals
  exact aK
def wO(c:UInt8):GF prog 240 [Da c] [] (.v (.bool (eM c))) []:=by
 unfold eM;refine dc func240 ntmps240 ?_
 cases h:decide ((48:Int)<=(c.toNat:Int))
 all_goals
  exact aK
def Dw(c:UInt8):GF prog 184 [Da c] [] (.v (.bool (et c))) []:=by
 unfold et;have G:=wP c;have T:=wO c;generalize small c=n at *;generalize eM c=m at *;refine au func184 ntmps184 ?_;refine ig [] G ?_
 cases n with
 |true =>
  refine zbb ?_
  grind[bD]
 |false =>
  cases o:decide ((65:Int)<=(c.toNat:Int))with
  |true =>
   cases b:decide ((c.toNat:Int)<=90)with
   |true =>
    refine zbb ?_
    grind[bD]
   |false =>
    refine I ?_;refine ig [] T ?_
    cases m with
    |true =>
     refine zbb ?_
     grind[bD]
    |false =>
     refine zbb ?_
     grind[bD]
  |false =>
   refine I ?_;refine ig [] T ?_
   cases m with
   |true =>
    refine zbb ?_
    grind[bD]
   |false =>
    refine zbb ?_
    grind[bD]
def pI(s t:ab)(a:Nat)(G:s.length<=1152921504606846976)(M:t.length<=1152921504606846976)(ha:a<=1152921504606846976) :
  GF prog 290 [.v (sv s),y4 (a:Nat),.v (sv t)] [] (.v (.bool (cw s a t))) []:=by
 by_cases h:a+t.length<=s.length
 ·have e:decide (((a+t.length:Nat):Int)<=(s.length:Int))=true:=by grind
  refine au func290 ntmps290 ?_;refine bB ?_;unfold cw;rw[decide_eq_true h];exact zah
 ·have e:decide (((a+t.length:Nat):Int)<=(s.length:Int))=false:=by grind
  refine au func290 ntmps290 ?_;refine bB ?_;unfold cw
  grind[bD]
def BB(s:ab)(a:Nat)(G:s.length<=1099511627776)(ha:a<=s.length) :
  GF prog 220 [.v (sv s),y4 (a:Nat)] [] (.tup [y4 ((skip s (s.length+1) a).1:Nat),.v (ii (skip s (s.length+1) a).2)]) []:=by
 generalize r:skip s (s.length+1) a=R;refine au func220 ntmps220 ?_;refine GW.loop (fun x:Nat × Nat=>x.1) (fun x J u=>J=.v (sv s)::y4 (x.2:Nat)::zU 61 []/\u=[]/\x.2<=s.length/\s.length<x.1+x.2/\skip s x.1 x.2=R) (s.length+1,a) ?_ ?_
 ·exact⟨_,_,Wk.aZ az,rfl,rfl,ha,by omega,r⟩
 ·rintro⟨f,a⟩_ _⟨rfl,rfl,ha,z,h⟩;simp only at ha z h
  cases f with
  |zero=>omega
  |succ f =>
  rw[skip]at h
  cases W:s[a]? with
  |none =>
   rw[W]at h;simp only at h;subst h;have A:s.length<=a:=oP W
   have w:decide ((a:Int)<(s.length:Int))=false:=by grind
   refine eC ?_;exact rR
  |some c =>
   rw[W]at h;simp only at h;have B:a<s.length:=(bY W).1
   have w:decide ((a:Int)<(s.length:Int))=true:=by grind
   have i:fA c=(((c.toNat:Int)==32) ||((c.toNat:Int)==9) ||((c.toNat:Int)==10) ||((c.toNat:Int)==13)):=rfl
   by_cases N:fA c=true
   ·rw[ak N]at h;rw[i]at N;have T:((c.toNat:Int)==32)=true\/(((c.toNat:Int)==32)=false/\((c.toNat:Int)==9)=true)\/(((c.toNat:Int)==32)=false/\((c.toNat:Int)==9)=false/\((c.toNat:Int)==10)=true) \/
      (((c.toNat:Int)==32)=false/\((c.toNat:Int)==9)=false/\((c.toNat:Int)==10)=false/\((c.toNat:Int)==13)=true):=by
     grind
    clear i N
    rcases T with X|⟨X,n⟩|⟨X,n,q⟩|⟨X,n,q,C⟩
    all_goals
     refine eC ?_;exact⟨(f,a+1),⟨_,_,Wk.aZ az,rfl,rfl,by simp only;omega,by simp only;omega,h⟩,by simp⟩
   ·rw[ae N]at h;rw[i]at N
    have T:((c.toNat:Int)==32)=false/\((c.toNat:Int)==9)=false/\((c.toNat:Int)==10)=false/\((c.toNat:Int)==13)=false:=by
     grind
    clear i N;have⟨X,n,q,C⟩:=T
    by_cases Y:cw s a [47,42]=true
    ·rw[ak Y]at h;have N:=nD Y;have N:a+2<=s.length:=N
     have m:(!cw s a [47,42])=false:=by grind
     try simp only at h
     generalize o:iC s s.length (a+2)=e at h;refine I ?_;refine D [] (pI s [47,42] a V aR V) ?_;have j:=rW s s.length (a+2) V V;have l:=sR s s.length (a+2) V;rw[o]at j l;refine GW.A3 (fun J u=>J=.v (sv s)::y4 (a:Nat)::U::U::U::U::y4 (e:Nat)::zU 56 []/\u=[]) ?_ ?_
     ·refine GW.loop (fun x:Nat × Nat=>x.1) (fun x J u=>J=.v (sv s)::y4 (a:Nat)::U::U::U::U::y4 (x.2:Nat)::zU 56 []/\u=[]/\x.2<=s.length/\iC s x.1 x.2=e) (s.length,a+2) ?_ ?_
      ·exact⟨_,_,Wk.aZ az,rfl,rfl,by omega,o⟩
      ·rintro⟨g,b⟩_ _⟨rfl,rfl,O,S⟩;simp only at O S
       by_cases d:b<s.length
       ·have Z:decide ((b:Int)<(s.length:Int))=true:=by grind
        cases E:cw s b [42,47]with
        |true =>
         have Q:(!cw s b [42,47])=false:=by grind
         have t:b=e:=by
          cases g with
          |zero=>exact S
          |succ g=>simp_all[iC,ae]
         subst t;refine I ?_;refine D [] (pI s [42,47] b V aR V) ?_;refine jE ?_;exact fV
        |false =>
         have Q:(!cw s b [42,47])=true:=by grind
         cases g with
         |zero=>exact absurd ⟨by rw[<-S];exact d,by rw[<-S];exact E⟩ j
         |succ g =>
          rw[iC,ak ⟨d,E⟩]at S;refine I ?_;refine D [] (pI s [42,47] b V aR V) ?_;exact⟨(g,b+1),⟨_,_,Wk.aZ az,rfl,rfl,d,S⟩,by simp⟩
       ·have Z:decide ((b:Int)<(s.length:Int))=false:=by grind
        have t:b=e:=by
         cases g with
         |zero=>exact S
         |succ g=>grind[iC]
        subst t;refine eC ?_;exact fV
     ·rintro _ _⟨rfl,rfl⟩
      by_cases O:s.length<=e
      ·rw[ak O]at h
       have k:decide ((s.length:Int)<=(e:Int))=true:=by grind
       subst h;exact rR
      ·rw[ae O]at h
       have k:decide ((s.length:Int)<=(e:Int))=false:=by grind
       have E:cw s e [42,47]=true:=by
        grind
       have E:=nD E;have E:e+2<=s.length:=E;refine eC ?_;exact⟨(f,e+2),⟨_,_,Wk.aZ az,rfl,rfl,E,by omega,h⟩,by simp⟩
    ·rw[ae Y]at h
     have m:(!cw s a [47,42])=true:=by grind
     subst h;refine I ?_;refine D [] (pI s [47,42] a V aR V) ?_;refine lW ?_
     grind[bD]
def wQ:GF prog 117 [] [] (strs words) []:=by
 refine au func117 ntmps117 ?_;refine bT ?_;exact aK
def Ll:GF prog 292 [] [] (strs cy) []:=by
 refine au func292 ntmps292 ?_;refine bT ?_;exact aK
def Oc(s:ab)(G:s.length<=1099511627776):GF prog 116 [.v (sv s)] [] (.v (.bool (word s))) []:=by
 refine au func116 ntmps116 ?_;refine GW.loop (fun a:Nat=>s.length-a) (fun a J u=>J=.v (sv s)::U::U::y4 (a:Nat)::zU 18 []/\u=[]/\a<=s.length/\(s.take a).all et=true) 0 ?_ ?_
 ·exact⟨_,_,Wk.aZ az,rfl,rfl,bp _,rfl⟩
 ·rintro a _ _⟨rfl,rfl,z,n⟩
  cases X:s[a]? with
  |some c =>
   have N:a<s.length:=(bY X).1
   have T:decide ((a:Int)<(s.length:Int))=true:=by grind
   have l:(s.take (a+1)).all et=((s.take a).all et&&et c):=by
    grind[dd]
   have W:=Dw c
   cases d:et c with
   |true =>
    rw[d]at W;refine I ?_;refine D [] W ?_;exact⟨a+1,⟨_,_,Wk.aZ az,rfl,rfl,N,by grind⟩,by omega⟩
   |false =>
    rw[d]at W;refine I ?_;refine D [] W ?_;refine bB ?_;refine⟨?_,rfl⟩
    have m:word s=false:=by
     have:s.all et=false:=by
      grind
     unfold word;grind
    rw[m];rfl
  |none =>
   have w:s.length<=a:=oP X
   have T:decide ((a:Int)<(s.length:Int))=false:=by grind
   have n:s.all et=true:=by grind
   cases s with
   |nil =>
    exact zc4
   |cons c r =>
    have A:(c::r)[0]?=some c:=rfl;refine zb4 ?_;refine D [] (wP c) ?_;refine bB ?_;refine⟨?_,rfl⟩;unfold word;rw[n];rfl
def eJ(s:ab)(G:s.length<=1099511627776):GF prog 55 [.v (sv s)] [] (.v (.bool (bm s))) []:=by
 have l:=Oc s G;unfold bm;generalize word s=b at *;refine au func55 ntmps55 ?_;refine ig [] l ?_
 cases b with
 |false =>
  exact aK
 |true =>
  by_cases c:s.length<=12
  ·have d:decide ((s.length:Int)<=12)=true:=by grind
   refine I ?_;refine D [] wQ ?_;refine D [] (iR words s aR) ?_;refine bB ?_;rw[decide_eq_true c];exact zah
  ·have d:decide ((s.length:Int)<=12)=false:=by grind
   refine zbb ?_;rw[decide_eq_false c];exact zah
def HO(s:ab)(a:Nat)(G:s.length<=1099511627776)(ha:a<=s.length) :
  GF prog 291 [.v (sv s),y4 (a:Nat)] [] (.tup [.agg (dp ⟨1,(number s (s.length+1) 0 a).1,[],a⟩),y4 ((number s (s.length+1) 0 a).2:Nat)]) []:=by
 generalize j:number s (s.length+1) 0 a=R;generalize i:a=X at *;refine au func291 ntmps291 ?_;refine GW.loop (fun x:Nat × Int × Nat=>x.1) (fun x M z=>M=.v (sv s)::y4 (x.2.2:Nat)::U::U::.loc 0 0::U::.loc 1 0::zU 29 []/\z=[.box 205 [y4 0,y4 0,.v (sv []),y4 0],.box 205 (dp ⟨1,x.2.1,[],X⟩)]/\x.2.2<=s.length/\s.length<x.1+x.2.2/\number s x.1 x.2.1 x.2.2=R/\0<=x.2.1/\x.2.1<=21474836479) (s.length+1,0,X) ?_ ?_
 ·exact⟨_,_,Wk.aZ az,rfl,rfl,by omega,by omega,by omega,by simp,by simp⟩
 ·rintro⟨f,n,a⟩_ _⟨rfl,rfl,ha,l,h,t,e⟩;simp only at ha l h t e
  cases f with
  |zero=>omega
  |succ f =>
  rw[number]at h
  cases W:s[a]? with
  |none =>
   rw[W]at h;simp only at h;subst h;have w:s.length<=a:=oP W
   have T:decide ((a:Int)<(s.length:Int))=false:=by grind
   refine zb4 ?_;exact zeK
  |some c =>
   rw[W]at h;simp only at h;have N:a<s.length:=(bY W).1
   have T:decide ((a:Int)<(s.length:Int))=true:=by grind
   have J:=wO c
   cases F:eM c with
   |false =>
    rw[F]at J;rw[ae zff]at h;subst h;refine zdG ?_;refine jE ?_;refine I ?_;exact zeK
   |true =>
    rw[F]at J;rw[ak F]at h
    have u:(48:Int)<=(c.toNat:Int)/\(c.toNat:Int)<=57:=by
     simp_all[eM,aI,decide_eq_true_eq]
    by_cases d:n<=2147483647
    ·rw[ak d]at h
     have m:decide (n<=2147483647)=true:=by grind
     refine zdG ?_;refine aV (aL 0 10 (.a 10 .nil)) ?_;refine bn ?_;exact⟨(f,n*10+((c.toNat:Int)-48),a+1),⟨_,_,Wk.aZ az,rfl,rfl,N,by grind,h,by grind,by grind⟩,by simp⟩
    ·rw[ae d]at h
     have m:decide (n<=2147483647)=false:=by grind
     refine zdG ?_;exact⟨(f,n,a+1),⟨_,_,Wk.aZ az,rfl,rfl,N,by grind,h,t,e⟩,by simp⟩
open Go.Xp (Tok)
section
variable{xs:List ab}{p:ab->Bool}{k:Nat}{x:ab}
theorem M7(h:(xs.take k).find? p=none)(hx:xs[k]?=some x)(W:p x=true):xs.find? p=some x:=by
 grind[List.getElem?_eq_some_iff,List.take_append_drop,j3]
theorem M6(h:(xs.take k).find? p=none)(hx:xs[k]?=some x)(W:p x=false):(xs.take (k+1)).find? p=none:=by
 grind[dd]
end
def Ia:∀x∈cy,x.length<=1152921504606846976:=by decide
def FK(s:ab)(a:Nat)(c:UInt8)(Y:s.length<=1099511627776)(S:s[a]?=some c) :
  GF prog 221 [.v (sv s),y4 (a:Nat)] [] (.tup [.agg (dp (gT s a c).1),y4 ((gT s a c).2:Nat)]) []:=by
 have X:a<s.length:=(bY S).1;have i:=wO c;have m:=wP c;unfold gT
 cases u:eM c with
 |true =>
  rw[u]at i;rw[ak rfl];refine au func221 ntmps221 ?_;refine D [] i ?_;refine D [] (HO s a Y V) ?_;exact zeK
 |false =>
  rw[u]at i;rw[ae aR]
  cases C:small c with
  |true =>
   rw[C]at m;rw[ak rfl];have B:=lU s et (s.length+1) a V V;have M:(s.take (ij s a)).drop a=jB s a:=rfl;have z:run s et (s.length+1) a=ij s a:=rfl;rw[z]at B;generalize Q:ij s a=e at *;generalize R:jB s a=w at *;have R:=M;have Q:=z;refine au func221 ntmps221 ?_;refine D [] i ?_;refine D [] m ?_;refine GW.A3 (fun r E=>r=.v (sv s)::y4 (a:Nat)::U::U::.loc 0 0::U::y4 (e:Nat)::zU 62 []/\E=[.box 205 [y4 0,y4 0,.v (sv []),y4 0]]) ?_ ?_
   ·refine GW.loop (fun x:Nat × Nat=>x.1) (fun x r E=>r=.v (sv s)::y4 (a:Nat)::U::U::.loc 0 0::U::y4 (x.2:Nat)::zU 62 []/\E=[.box 205 [y4 0,y4 0,.v (sv []),y4 0]]/\x.2<=s.length/\s.length<x.1+x.2/\run s et x.1 x.2=e) (s.length+1,a) ?_ ?_
    ·exact⟨_,_,Wk.aZ az,rfl,rfl,by omega,by omega,Q⟩
    ·rintro⟨f,b⟩_ _⟨rfl,rfl,o,n,h⟩;simp only at o n h
     cases f with
     |zero=>omega
     |succ f =>
     rw[run]at h
     cases l:s[b]? with
     |none =>
      rw[l]at h;simp only at h;subst h;have W:s.length<=b:=oP l
      have T:decide ((b:Int)<(s.length:Int))=false:=by grind
      refine eC ?_;exact fV
     |some O =>
      rw[l]at h;simp only at h;have A:b<s.length:=(bY l).1
      have T:decide ((b:Int)<(s.length:Int))=true:=by grind
      have G:=Dw O
      cases J:et O with
      |true =>
       rw[J]at G;rw[ak J]at h;refine I ?_;refine D [] G ?_;exact⟨(f,b+1),⟨_,_,Wk.aZ az,rfl,rfl,A,by omega,h⟩,by simp⟩
      |false =>
       rw[J]at G;rw[ae zff]at h;subst h;refine I ?_;refine D [] G ?_;refine jE ?_;exact fV
   ·rintro _ _⟨rfl,rfl⟩;have⟨_,Z,h2⟩:=B;refine I ?_;rw[R];have d:=iR words w aR
    cases t:words.contains w with
    |true =>
     rw[t]at d;refine zdB ?_;rw[ak rfl];exact zah
    |false =>
     rw[t]at d;refine zdB ?_;rw[ae aR];exact zah
  |false =>
   rw[C]at m;rw[ae aR];refine au func221 ntmps221 ?_;refine D [] i ?_;refine D [] m ?_;refine D [] Ll ?_;refine GW.range (cy.map fun s=>[GV.v (sv s)]).length (fun k r E=>r=[.v (sv s),y4 (a:Nat),U,U,.loc 0 0,U,U,U,U,U,U,U,U,U,U,U,U,U,U,U,U,U,U,U,U,U,U,U,U,U,U,U,U,U,U,U,U,U,U,U,U,U,U,U,U,U,U,U,U,strs cy,y4 ((cy.map fun s=>[GV.v (sv s)]).length:Int),y4 (k:Nat),U,U,U,U,U,U,U,U,U,U,U,U,U,U,U,U,U]/\E=[.box 205 [y4 0,y4 0,.v (sv []),y4 0]]/\(cy.take k).find? (cw s a)=none) ?_ aR ?_ ?_ ?_
   ·exact lk
   ·exact jA
   ·rintro k _ _ F⟨rfl,rfl,n⟩
    have F:k<cy.length:=by grind
    have hx:cy[k]?=some cy[k]:=by simp[F]
    have hr:(cy.map fun s=>[GV.v (sv s)])[k]?=some [.v (sv cy[k])]:=by simp[F]
    have N:=Ia _ (getElem_mem F);generalize cy[k]=x at *;have j:=pI s x a V N V
    cases o:cw s a x with
    |true =>
     rw[o]at j;have H:=M7 n hx o;refine I ?_;refine D [] j ?_;refine kU ?_;rw[H];exact zah
    |false =>
     rw[o]at j;refine I ?_;refine D [] j ?_;exact⟨rfl,rfl,_,_,Wk.aZ az,rfl,rfl,M6 n hx o⟩
   ·rintro _ _⟨rfl,rfl,n⟩
    have n:cy.find? (cw s a)=none:=by
     grind
    refine I ?_;refine kU ?_;rw[n];exact zah
def Hk{s:ab}{a:Nat}{c:UInt8}(W:s[a]?=some c):a<=(gT s a c).2/\(gT s a c).2<=s.length:=by
 have N:a<s.length:=(bY W).1;unfold gT;split
 ·grind[sW]
 ·split
  ·exact(lU s et (s.length+1) a V V).2
  grind[cw]
def Of(s:ab)(l:List Tok)(G:s.length<=1000000000000)(h:Go.Sp.iv s=some l) :
  GF prog 204 [.v (sv s)] [] (Go.Xg.iv l) []:=by
 rw[Go.Sp.iv]at h;have w:=BB s 0 V (bp _);have J:=tt s (s.length+1) 0 (bp _);generalize Q:skip s (s.length+1) 0=R at *;refine au func204 ntmps204 ?_;refine pO ?_;refine I ?_;refine D [] w ?_;refine GW.loop (fun x:Nat × Nat × List Tok=>x.1) (fun x M C=>∃n H,M=.v (sv s)::U::U::.vec 0 n::y4 (x.2.1:Nat)::zU 30 []/\C=[.vec 205 4 0 H]/\H.length=n/\H=x.2.2.map dp/\n+x.1<=s.length+2/\x.2.1<=s.length/\qZ s x.1 x.2.1 x.2.2=some l) (s.length+2,R.1,[]) ?_ ?_
 ·exact⟨_,_,Wk.aZ az,0,[],rfl,rfl,rfl,rfl,by simp,J.2,h⟩
 ·rintro⟨f,a,T⟩_ _⟨n,H,rfl,rfl,d,S,B,z,h⟩;simp only at S B z h
  cases f with
  |zero=>simp[qZ]at h
  |succ f =>
  rw[qZ]at h
  cases W:s[a]? with
  |none =>
   rw[W]at h;simp only at h;cases h;have A:s.length<=a:=oP W
   have X:decide ((a:Int)<(s.length:Int))=false:=by grind
   subst S;refine zb4 ?_;refine GW.wk (Wk.jx (t:=2) rfl rfl rfl d) ?_;exact ay
  |some c =>
   rw[W]at h;simp only at h;have N:a<s.length:=(bY W).1
   have X:decide ((a:Int)<(s.length:Int))=true:=by grind
   have m:=Hk W;have F:=FK s a c V W;generalize gT s a c=tk at *;have u:=BB s tk.2 V m.2;have i:=tt s (s.length+1) tk.2 m.2;generalize skip s (s.length+1) tk.2=o at *;refine I ?_;refine D [] F ?_;refine zbD ?_;refine D [] u ?_;exact⟨(f,o.1,T++[tk.1]),⟨_,_,(Wk.cut (n:=1) (ek rfl) rfl).trans (Wk.aZ az),_,_,rfl,rfl,by simp[d],by rw[gJ,S];rfl,by omega,by grind,h⟩,by simp⟩
open Go.Xp (T one levels)
structure EL(f:Nat):Prop where
 expr:∀d p t q,p.ok->d+f<=4611686018427387904->mE f (.expr d) p=some (t,q)->GF prog 323 [.loc 0 0,y4 (d:Nat)] [cb p] (.agg (cT t)) [cb q]
 level:∀k d p t q,p.ok->k<=9->d+f<=4611686018427387904->mE f (.level k d) p=some (t,q)->GF prog 360 [.loc 0 0,y4 (k:Nat),y4 (d:Nat)] [cb p] (.agg (cT t)) [cb q]
 operand:∀d p t q,p.ok->d+f<=4611686018427387904->mE f (.operand d) p=some (t,q)->GF prog 374 [.loc 0 0,y4 (d:Nat)] [cb p] (.agg (cT t)) [cb q]
 named:∀a s d p t q,p.ok->d+f<=4611686018427387904->mE f (.named a s d) p=some (t,q)->GF prog 380 [.loc 0 0,y4 a,.v (sv s),y4 (d:Nat)] [cb p] (.agg (cT t)) [cb q]
 list:∀d p l q,p.ok->d+f<=4611686018427387904->mL f d p=some (l,q)->GF prog 382 [.loc 0 0,y4 (d:Nat)] [cb p] (.sl 6 (bj l)) [cb q]
def Ww{f:Nat}(C:EL f)(d:Nat)(p:RS)(t:T)(q:RS)(W:p.ok)(hd:d+(f+1)<=4611686018427387904)(h:mE (f+1) (.expr d) p=some (t,q)) :
  GF prog 323 [.loc 0 0,y4 (d:Nat)] [cb p] (.agg (cT t)) [cb q]:=by
 rw[mE]at h;refine au func323 ntmps323 ?_;refine D [0] (uG p d W) ?_;refine D [0] (C.level 0 d _ t q ((iF W d).ok W) V V h) ?_;exact zd0
def Jx{k:Nat}(N:k<9):(levels.map fun l=>[strs l])[k]?=some [strs (levels.getD k [])]:=by
 have:k<levels.length:=N
 grind
def Ct:∀k,k<9->(levels.getD k []).length<=1099511627776:=by decide
abbrev zT:am:=[y4 0,y4 0,y4 0,.v (sv []),.v y6,.v y6]
def UU{f:Nat}(C:∀Z,Z<=f->EL Z)(k d:Nat)(p:RS)(t:T)(q:RS)(W:p.ok)(N:k<=9)(hd:d+(f+1)<=4611686018427387904)(h:mE (f+1) (.level k d) p=some (t,q)) :
  GF prog 360 [.loc 0 0,y4 (k:Nat),y4 (d:Nat)] [cb p] (.agg (cT t)) [cb q]:=by
 rw[mE]at h
 by_cases G:k=9
 ·subst G;rw[ak rfl]at h;refine au func360 ntmps360 ?_;refine D [] jX ?_;refine D [0] ((C f (aY _)).operand (d+1) p t q W V h) ?_;exact zd0
 ·rw[ae G]at h
  have o:((k:Int)==9)=false:=by grind
  cases m:mE f (.level (k+1) d) p with
  |none=>grind
  |some r =>
   have⟨out,J⟩:=r;rw[m]at h;simp only at h;have X:=((rY f).1 _ _ _ _ W m).ok W;refine au func360 ntmps360 ?_;refine D [] jX ?_;refine D [0] ((C f (aY _)).level (k+1) d p out J W V V m) ?_;refine GW.loop (fun x:Nat × T × RS=>x.1) (fun x Q B=>Q=.loc 0 0::y4 (k:Nat)::y4 (d:Nat)::U::U::U::.loc 1 0::.loc 2 0::zU 58 []/\B=[cb x.2.2,.box 89 zT,.box 89 (cT x.2.1)]/\x.2.2.ok/\x.1<=f/\mE x.1 (.loop k d x.2.1) x.2.2=some (t,q)) (f,out,J) ?_ ?_
   ·exact⟨_,_,Wk.aZ az,rfl,rfl,X,aY _,h⟩
   ·rintro⟨g,out,p⟩_ _⟨rfl,rfl,W,F,h⟩;simp only at W F h
    cases g with
    |zero=>simp[mE]at h
    |succ g =>
    rw[mE]at h
    have N:k<9:=by omega
    by_cases Y:p.code=0
    ·have u:(p.code==0)=true:=by grind
     have z:=Jx N
     by_cases hit:(levels.getD k []).contains (p.aJ 0)=true
     ·rw[ak ⟨Y,hit⟩]at h
      cases M:p.l[p.i]? with
      |none=>grind
      |some tk =>
       rw[M]at h;simp only at h;have O:=(bY M).1;have E:=lA M;have A:=W.2
       cases j:mE g (.level (k+1) d) p.next with
       |none=>grind
       |some r =>
        have⟨b,c⟩:=r;rw[j]at h;simp only at h;have e:=(cY O).ok W;have H:=((rY g).1 _ _ _ _ e j).ok e;refine zbA ?_;refine I ?_;refine zcP ?_;refine aV (aL 0 9 (.a 9 (.a 10 (.a 11 (.a 12 .nil))))) ?_;refine ax ?_;refine aP [0] ((C g V).level (k+1) d p.next b c e V V j) ?_;refine zap ?_;refine mA [] (iT 6 tk.at_ tk.s [out,b] _ pk) ?_;refine Hr ?_;refine bn ?_;exact⟨(g,one 6 tk.at_ tk.s [out,b],c),⟨_,_,(Wk.cut (n:=3) (ek rfl) rfl).trans (Wk.aZ az),rfl,rfl,H,by omega,h⟩,by simp⟩
     ·have hit:(levels.getD k []).contains (p.aJ 0)=false:=by grind
      rw[ae zff]at h
      obtain⟨rfl,rfl⟩:out=t/\p=q:=by grind
      refine zbA ?_;refine eC ?_;exact kT
    ·have u:(p.code==0)=false:=by grind
     rw[ae (fun w=>Y w.1)]at h
     obtain⟨rfl,rfl⟩:out=t/\p=q:=by grind
     refine I ?_;refine aV (aL 0 6 (.q 7 (.q 10 (.a 6 (.q 8 (.q 9 (.a 11 (.a 12 (.q 13 .nil))))))))) ?_;refine bn ?_;refine jE ?_;exact kT
def U1{f:Nat}(C:EL f)(a:Int)(s:ab)(d:Nat)(p:RS)(t:T)(q:RS)(W:p.ok)(hd:d+(f+1)<=4611686018427387904)(h:mE (f+1) (.named a s d) p=some (t,q)) :
  GF prog 380 [.loc 0 0,y4 a,.v (sv s),y4 (d:Nat)] [cb p] (.agg (cT t)) [cb q]:=by
 rw[mE]at h
 by_cases o:p.aJ 0=[91]
 ·rw[ak o]at h
  have E:(p.aJ 0==[91])=true:=by simp[o]
  have N:=(dH o aR).1;have k:=W.2;have e:=(dZ o aR).ok W
  cases i:mE f (.expr (d+1)) p.next with
  |none=>grind
  |some r =>
   have⟨b,H⟩:=r;rw[i]at h;cases h;have X:=((rY f).1 _ _ _ _ e i).ok e;refine au func380 ntmps380 ?_;refine D [0] (dz p 0 W aR) ?_;refine D [0] (C.expr (d+1) p.next b H e V i) ?_;refine D [0] (da H [93] X aR) ?_;refine zac ?_;refine D [] (iT 3 a s [b] _ pk) ?_;exact zd0
 ·rw[ae o]at h
  have E:(p.aJ 0==[91])=false:=by grind
  by_cases c:p.aJ 0=[40]
  ·rw[ak c]at h
   have j:(p.aJ 0==[40])=true:=by simp[c]
   have N:=(dH c aR).1;have k:=W.2;have e:=(dZ c aR).ok W
   cases i:mL f (d+1) p.next with
   |none=>grind
   |some r =>
    have⟨l,H⟩:=r;rw[i]at h;cases h;refine au func380 ntmps380 ?_;refine D [0] (dz p 0 W aR) ?_;refine D [0] (C.list (d+1) p.next l q e V i) ?_;refine D [] (iT 4 a s l _ rfl) ?_;exact zd0
  ·rw[ae c]at h
   have j:(p.aJ 0==[40])=false:=by grind
   cases h;refine au func380 ntmps380 ?_;refine D [0] (dz p 0 W aR) ?_;refine D [] (iT 2 a s [] [] rfl) ?_;exact zd0
theorem bH(l:List T):(bj l).length=l.length:=by
 induction l with
 |nil=>rfl
 |cons a l O=>simp[bj,O]
theorem sn(l:List T)(a:T):bj (l++[a])=bj l++[cT a]:=by
 induction l with
 |nil=>simp[bj,ru]
 |cons b l O=>simp[bj,O]
def XU{f:Nat}(C:∀u,u<=f->EL u)(d:Nat)(p:RS)(l:List T)(q:RS)(W:p.ok)(hd:d+(f+1)<=4611686018427387904)(h:mL (f+1) d p=some (l,q)) :
  GF prog 382 [.loc 0 0,y4 (d:Nat)] [cb p] (.sl 6 (bj l)) [cb q]:=by
 rw[mL]at h
 by_cases o:p.aJ 0=[41]
 ·rw[ak o]at h
  have E:(!(p.aJ 0==[41]))=false:=by simp[o]
  cases h;refine au func382 ntmps382 ?_;refine pO ?_;refine zcq ?_;refine D [0] (da p [41] W aR) ?_;refine GW.wk (Wk.jx (t:=4) rfl rfl rfl rfl) ?_;exact ay
 ·rw[ae o]at h
  have E:(!(p.aJ 0==[41]))=true:=by grind
  cases s:mE f (.expr d) p with
  |none=>grind
  |some r =>
   have⟨a,J⟩:=r;rw[s]at h;simp only at h;have Y:=((rY f).1 _ _ _ _ W s).ok W;refine au func382 ntmps382 ?_;refine pO ?_;refine zcq ?_;refine D [0] ((C f (aY _)).expr d p a J W V s) ?_;refine zbD ?_;refine GW.loop (fun x:Nat × List T × RS=>x.1) (fun x M Q=>∃n H,M=.loc 0 0::y4 (d:Nat)::U::U::U::.vec 1 n::zU 29 []/\Q=[cb x.2.2,.vec 89 6 0 H]/\H.length=n/\H=bj x.2.1/\n<=x.2.2.i+1/\x.2.2.ok/\x.1<=f/\qy x.1 d x.2.1 x.2.2=some (l,q)) (f,[a],J) ?_ ?_
   ·exact⟨_,_,Wk.aZ az,_,_,rfl,rfl,rfl,(by simp only[bj,ru];rfl),(by show 1<=J.i+1;omega),Y,aY _,h⟩
   ·rintro⟨g,X,p⟩_ _⟨n,H,rfl,rfl,z,R,w,W,F,h⟩;simp only at R w W F h
    cases g with
    |zero=>simp[qy]at h
    |succ g =>
    rw[qy]at h;have B:=W.2;have A:=W.1
    by_cases c:p.aJ 0=[44]
    ·rw[ak c]at h
     have k:(p.aJ 0==[44])=true:=by simp[c]
     have O:=(dH c aR).1;have e:=(dZ c aR).ok W
     cases m:mE g (.expr d) p.next with
     |none=>grind
     |some r =>
      have⟨b,Z⟩:=r;rw[m]at h;simp only at h;have j:=(rY g).1 _ _ _ _ e m;have G:=j.ok e;have N:p.i+1<=Z.i:=j.2.2.2;refine zcq ?_;refine D [0] ((C g V).expr d p.next b Z e V m) ?_;refine zbD ?_;exact⟨(g,X++[b],Z),⟨_,_,Wk.aZ az,_,_,rfl,rfl,by simp[z],by rw[sn,R],by grind,G,by omega,h⟩,by simp⟩
    ·rw[ae c]at h
     have k:(p.aJ 0==[44])=false:=by grind
     obtain⟨rfl,rfl⟩:X=l/\p.ba [41]=q:=by grind
     subst R;refine zcq ?_;refine jE ?_;refine I ?_;refine D [0] (da p [41] W aR) ?_;refine GW.wk (Wk.jx (t:=4) rfl rfl rfl z) ?_;exact ay
def OX{f:Nat}(C:EL f)(d:Nat)(p:RS)(t:T)(q:RS)(W:p.ok)(hd:d+(f+1)<=4611686018427387904)(h:mE (f+1) (.operand d) p=some (t,q)) :
  GF prog 374 [.loc 0 0,y4 (d:Nat)] [cb p] (.agg (cT t)) [cb q]:=by
 rw[mE]at h;have e:=(iF W d).ok W;have o:=uG p d W;generalize p.a6 d=H at *
 try simp only at h
 have⟨F,J⟩:=id e
 by_cases Y:H.code=0
 ·rw[ak Y]at h
  have u:(H.code != 0)=false:=by grind
  cases M:H.l[H.i]? with
  |none =>
   rw[M]at h;cases h;have E:H.l.length<=H.i:=oP M
   have m:decide (((H.l.map dp).length:Int)<=(H.i:Int))=true:=by grind
   exact zbH
  |some tk =>
   rw[M]at h;simp only at h;have N:H.i<H.l.length:=(bY M).1
   have m:decide (((H.l.map dp).length:Int)<=(H.i:Int))=false:=by grind
   have b:=lA M;have j:=(cY N).ok e;refine au func374 ntmps374 ?_;refine D [0] o ?_;refine aV (aL 0 17 .nil) ?_;refine bn ?_;refine zcP ?_
   by_cases S:tk.ai=1
   ·rw[ak S]at h;cases h
    have O:(tk.ai==1)=true:=by grind
    refine I ?_;exact zeJ
   ·rw[ae S]at h
    have O:(tk.ai==1)=false:=by grind
    by_cases Z:tk.ai=2
    ·rw[ak Z]at h
     have c:(tk.ai==2)=true:=by grind
     refine I ?_;refine D [0] (ou H e) ?_;refine D [0] (C.named tk.at_ H.name.1 d H.name.2 t q ((eV e).ok e) V h) ?_;exact zd0
    ·rw[ae Z]at h
     have c:(tk.ai==2)=false:=by grind
     by_cases A:tk.s=[45]\/tk.s=[33]\/tk.s=[126]
     ·rw[ak A]at h
      cases k:mE f (.operand (d+1)) H.next with
      |none=>grind
      |some r =>
       have⟨a,X⟩:=r;rw[k]at h;cases h
       have n:(tk.s==[45])=true\/((tk.s==[45])=false/\(tk.s==[33])=true)\/((tk.s==[45])=false/\(tk.s==[33])=false/\(tk.s==[126])=true):=by
        grind
       refine I ?_
       rcases n with w|⟨w,R⟩|⟨w,R,B⟩
       all_goals
        refine I ?_;refine aV (aL 0 7 (.a 7 (.a 8 (.a 9 (.a 10 .nil))))) ?_;refine ax ?_;refine aP [0] (C.operand (d+1) H.next a q j V k) ?_;refine zap ?_;refine mA [] (iT 5 tk.at_ tk.s [a] _ pk) ?_;refine Hr ?_;refine ax ?_;exact kT
     ·rw[ae A]at h
      have w:(tk.s==[45])=false:=by grind
      have R:(tk.s==[33])=false:=by grind
      have B:(tk.s==[126])=false:=by grind
      by_cases z:tk.s=[40]
      ·rw[ak z]at h
       have Q:(tk.s==[40])=true:=by simp[z]
       cases k:mE f (.expr (d+1)) H.next with
       |none=>grind
       |some r =>
        have⟨a,X⟩:=r;rw[k]at h;cases h;have G:=((rY f).1 _ _ _ _ j k).ok j;refine I ?_;refine D [0] (C.expr (d+1) H.next t X j V k) ?_;refine D [0] (da X [41] G aR) ?_;exact lJ
      ·rw[ae z]at h
       have Q:(tk.s==[40])=false:=by grind
       cases h;refine I ?_;refine D [0] (kg H 7 tk.at_) ?_;exact zeJ
 ·rw[ae Y]at h
  have u:(H.code != 0)=true:=by grind
  cases h;exact zbH
def rds(f:Nat):EL f:=by
  induction f using Nat.strongRecOn with
  |_ f O =>
   cases f with
   |zero=>exact⟨fun d p t q _ _ h=>by simp[mE]at h,fun k d p t q _ _ _ h=>by simp[mE]at h,fun d p t q _ _ h=>by simp[mE]at h,fun a s d p t q _ _ h=>by simp[mE]at h,fun d p l q _ _ h=>by simp[mL]at h⟩
   |succ f =>
    have C:=O f (Nat.lt_succ_self f)
    have m:∀Z,Z<=f->EL Z:=fun Z h=>O Z (Nat.lt_succ_of_le h)
    exact⟨fun d p t q W T h=>Ww C d p t q W T h,fun k d p t q W N T h=>UU m k d p t q W N T h,fun d p t q W T h=>OX C d p t q W T h,fun a s d p t q W T h=>U1 C a s d p t q W T h,fun d p l q W T h=>XU m d p l q W T h⟩
open Go.Xp (iH)
structure Mk(f:Nat):Prop where
 block:∀d p t q,p.ok->d+f<=1099511627776->mS f (.block d) p=some (t,q)->GF prog 205 [.loc 0 0,y4 (d:Nat)] [cb p] (.agg (cT t)) [cb q]
 stmt:∀d p t q,p.ok->d+f<=1099511627776->mS f (.stmt d) p=some (t,q)->GF prog 264 [.loc 0 0,y4 (d:Nat)] [cb p] (.agg (cT t)) [cb q]
 cond:∀a d p t q,p.ok->p.i<p.l.length->d+f<=1099511627776->mS f (.cond a d) p=some (t,q)->GF prog 324 [.loc 0 0,y4 a,y4 (d:Nat)] [cb p] (.agg (cT t)) [cb q]
def xV(d:Nat)(p:RS)(t:T)(q:RS)(W:p.ok)(hd:d<=1099511627777)(h:mX d p=some (t,q)):GF prog 323 [.loc 0 0,y4 (d:Nat)] [cb p] (.agg (cT t)) [cb q] :=
 (rds (fe p)).expr d p t q W (by have:=W.2;grind[fe]) h
def Lm(k a:Int)(s:ab):GF prog 263 [y4 k,y4 a,.v (sv s),.v y6] [] (.agg [y4 k,y4 a,y4 0,.v (sv s),ints [],.v y6]) []:=by
 refine au func263 ntmps263 ?_;exact zeJ
def Ug{f:Nat}(C:∀Z,Z<=f->Mk Z)(d:Nat)(p:RS)(t:T)(q:RS)(W:p.ok)(hd:d+(f+1)<=1099511627776)(h:mS (f+1) (.block d) p=some (t,q)) :
  GF prog 205 [.loc 0 0,y4 (d:Nat)] [cb p] (.agg (cT t)) [cb q]:=by
 rw[mS]at h;have e:=(iF W d).ok W;have u:=uG p d W;generalize p.a6 d=J at *
 try simp only at h
 have A:=(b0 e (s:=[123]) aR).ok e
 cases m:mB f (d+1) [] (J.ba [123])with
 |none=>grind
 |some r =>
  have⟨l,E⟩:=r;rw[m]at h;cases h;generalize k:J.place=O;refine au func205 ntmps205 ?_;refine D [0] u ?_;refine D [0] (jY J e) ?_;refine D [] (Lm 14 J.place []) ?_;refine D [0] (da J [123] e aR) ?_;rw[k];refine GW.wk (Wk.tV (i:=2) (o:=5) 89 6 rfl rfl) ?_;refine GW.loop (fun x:Nat × List T × RS=>x.1) (fun x N Q=>∃n H,N=.loc 0 0::y4 (d:Nat)::U::U::.loc 1 0::.loc 2 0::zU 30 []/\Q=[cb x.2.2,.box 89 zT,.box 89 [y4 14,y4 O,y4 0,.v (sv []),ints [],.vec 3 n],.vec 89 6 0 H]/\H.length=n/\H=bj x.2.1/\n+x.1<=f/\x.2.2.ok/\mB x.1 (d+1) x.2.1 x.2.2=some (l,E)) (f,[],J.ba [123]) ?_ ?_
  ·exact⟨_,_,Wk.aZ az,0,[],rfl,rfl,rfl,rfl,by simp,A,m⟩
  ·rintro⟨g,X,p⟩_ _⟨n,H,rfl,rfl,c,R,B,W,h⟩;simp only at R B W h
   cases g with
   |zero=>simp[mB]at h
   |succ g =>
   rw[mB]at h
   by_cases b:p.code=0
   ·have w:(p.code==0)=true:=by grind
    by_cases M:p.aJ 0=[125]
    ·rw[ae (fun Y=>Y.2 M)]at h
     obtain⟨rfl,rfl⟩:X=l/\p=E:=by grind
     have z:(!(p.aJ 0==[125]))=false:=by simp[M]
     subst R;refine zcq ?_;refine jE ?_;refine I ?_;exact zcy
    ·rw[ak ⟨b,M⟩]at h
     have z:(!(p.aJ 0==[125]))=true:=by grind
     cases j:mS g (.stmt (d+1)) p with
     |none=>grind
     |some r =>
      have⟨a,F⟩:=r;rw[j]at h;simp only at h;have G:=((pU g).1 _ _ _ _ W (fun a S h=>by cases h) j).ok W;refine zcq ?_;refine zdu ?_;refine aP [0] ((C g V).stmt (d+1) p a F W V j) ?_;refine zcM ?_;exact⟨(g,X++[a],F),⟨_,_,Wk.aZ az,_,_,rfl,rfl,by simp[c],by rw[sn,R];rfl,by show n+1+g<=f;omega,G,h⟩,by simp⟩
   ·have w:(p.code==0)=false:=by grind
    rw[ae (fun Y=>b Y.1)]at h
    obtain⟨rfl,rfl⟩:X=l/\p=E:=by grind
    subst R;refine zb4 ?_;exact zcy
def Wh{f:Nat}(C:Mk f)(a:Int)(d:Nat)(p:RS)(t:T)(q:RS)(J:p.ok)(S:p.i<p.l.length)(hd:d+(f+1)<=1099511627776)(h:mS (f+1) (.cond a d) p=some (t,q)) :
  GF prog 324 [.loc 0 0,y4 a,y4 (d:Nat)] [cb p] (.agg (cT t)) [cb q]:=by
 rw[mS]at h
 try simp only at h
 have o:=(cY S).ok J;have Z:=J.2;have n:=(b0 o (s:=[40]) aR).ok o
 cases G:mX (d+1) (p.next.ba [40])with
 |none=>grind
 |some r =>
 have⟨e,A⟩:=r;rw[G]at h;simp only at h;have m:=(gk n G).ok n;have c:=(b0 m (s:=[41]) aR).ok m
 cases B:mS f (.block (d+1)) (A.ba [41])with
 |none=>grind
 |some r =>
 have⟨b,u⟩:=r;rw[B]at h;simp only at h;have w:=((pU f).1 _ _ _ _ c (fun a d' h=>by cases h) B).ok c;have Y:=w.2
 have z:∀k:Int,(if k=9/\u.aJ 0=iH then match mS f (.block (d+1)) u.next with
     |none=>none
     |some (O,q)=>some (one k a [] [e,b,O],q)
    else some (one k a [] [e,b],u))=some (t,q)->p.ck=k->(k=9\/k=10)->((p.aJ 0==[105,102])=true/\k=9)\/((p.aJ 0==[105,102])=false/\k=10):=by
  intro k _ Q _;unfold RS.ck at Q;split at Q
  ·rename_i N;exact .inl ⟨by rw[N];rfl,Q.symm⟩
  ·rename_i N;refine .inr ⟨?_,Q.symm⟩
   cases W:(p.aJ 0==[105,102])with
   |false=>rfl
   |true=>exact absurd (eq_of_beq W) N
 have F:p.ck=9\/p.ck=10:=by grind[RS.ck]
 have z:=z p.ck h rfl F;generalize p.ck=k at h z;clear F
 rcases z with⟨N,rfl⟩|⟨N,rfl⟩
 ·by_cases j:u.aJ 0=iH
  ·rw[ak ⟨rfl,j⟩]at h
   have H:(u.aJ 0==[101,108,115,101])=true:=by rw[j];rfl
   have X:=(dH j aR).1;have M:=(dZ j aR).ok w
   cases E:mS f (.block (d+1)) u.next with
   |none=>grind
   |some r =>
   have⟨O,p3⟩:=r;rw[E]at h;cases h;refine au func324 ntmps324 ?_;refine zaB ?_;refine aP [0] (C.block (d+1) _ b u c V B) ?_;refine qC ?_;refine bn ?_;refine D [0] (dz u 0 w aR) ?_;refine ig [0] (C.block (d+1) _ O q M V E) ?_;refine zbD ?_;refine zes ?_;refine D [] (iT 9 a [] [e,b,O] _ pk) ?_;exact zd0
  ·rw[ae (fun R=>j R.2)]at h
   have H:(u.aJ 0==[101,108,115,101])=false:=by
    cases W:(u.aJ 0==[101,108,115,101])with
    |false=>rfl
    |true=>exact absurd (eq_of_beq W) j
   cases h;refine au func324 ntmps324 ?_;refine zaB ?_;refine aP [0] (C.block (d+1) _ b q c V B) ?_;refine qC ?_;refine bn ?_;refine D [0] (dz q 0 w aR) ?_;refine zes ?_;refine D [] (iT 9 a [] [e,b] _ pk) ?_;exact zd0
 ·rw[ae (fun R=>by cases R.1)]at h;cases h;refine au func324 ntmps324 ?_;refine zaB ?_;refine aP [0] (C.block (d+1) _ b q c V B) ?_;refine qC ?_;refine bn ?_;refine zes ?_;refine D [] (iT 10 a [] [e,b] _ pk) ?_;exact zd0
open Go.Xp (l7 gy gP gW)
def vf{s t:ab}(h:¬s=t):(s==t)=false:=by
 cases J:(s==t)with
 |false=>rfl
 |true=>exact absurd (eq_of_beq J) h
def YH{f:Nat}(C:Mk f)(d:Nat)(p:RS)(t:T)(q:RS)(hp:p.ok)(hd:d+(f+1)<=1099511627776)(h:mS (f+1) (.stmt d) p=some (t,q)) :
  GF prog 264 [.loc 0 0,y4 (d:Nat)] [cb p] (.agg (cT t)) [cb q]:=by
 rw[mS]at h;have c:=(iF hp d).ok hp;have M:=uG p d hp;generalize p.a6 d=b at *
 try simp only at h
 have⟨Te,vz⟩:=id c;generalize hat:b.place=at_ at h;refine au func264 ntmps264 ?_;refine D [0] M ?_;refine D [0] (jY b c) ?_;refine ig [0] (dz b 0 c aR) ?_;rw[hat]
 by_cases O:b.aJ 0=l7
 ·rw[ak O]at h
  have e1:(b.aJ 0==[118,97,114])=true:=by rw[O];rfl
  have k:=(dH O aR).1;have G:=(dZ O aR).ok c;have A:=(eV G).ok G;have z:=(b0 A (s:=[61]) aR).ok A
  cases m:mX (d+1) (b.next.name.2.ba [61])with
  |none=>rw[m]at h;cases h
  |some r =>
  have⟨e,o⟩:=r;rw[m]at h;cases h;have j:=(gk z m).ok z;refine I ?_;refine D [0] (ou b.next G) ?_;refine zdH ?_;refine D [] (iT 13 at_ b.next.name.1 [e] _ pk) ?_;exact lJ
 rw[ae O]at h;have e1:(b.aJ 0==[118,97,114])=false:=vf O
 by_cases w:b.aJ 0=gy\/b.aJ 0=gP
 ·rw[ak w]at h
  have Y:(b.aJ 0==[105,102])=true\/((b.aJ 0==[105,102])=false/\(b.aJ 0==[119,104,105,108,101])=true):=by
   rcases w with w|w
   ·exact .inl (by rw[w];rfl)
   ·exact .inr ⟨by rw[w];rfl,by rw[w];rfl⟩
  have k:b.i<b.l.length:=by
   rcases w with w|w
   ·exact(dH w aR).1
   ·exact(dH w aR).1
  rcases Y with Y|⟨Y,e3⟩
  all_goals
   refine I ?_;refine D [0] (C.cond at_ d b t q c k V h) ?_;exact lJ
 rw[ae w]at h
 have Y:(b.aJ 0==[105,102])=false:=vf fun J=>w (.inl J)
 have e3:(b.aJ 0==[119,104,105,108,101])=false:=vf fun J=>w (.inr J)
 by_cases Q:b.aJ 0=gW
 ·rw[ak Q]at h
  have e4:(b.aJ 0==[114,101,116,117,114,110])=true:=by rw[Q];rfl
  have k:=(dH Q aR).1;have G:=(dZ Q aR).ok c
  cases m:mX (d+1) b.next with
  |none=>rw[m]at h;cases h
  |some r =>
  have⟨e,o⟩:=r;rw[m]at h;cases h;have j:=(gk G m).ok G;refine I ?_;refine D [0] (xV (d+1) _ e o G V m) ?_;refine D [0] (da o [59] j aR) ?_;refine zac ?_;refine D [] (iT 11 at_ [] [e] _ pk) ?_;exact lJ
 rw[ae Q]at h;have e4:(b.aJ 0==[114,101,116,117,114,110])=false:=vf Q
 by_cases Z:b.code=0/\b.ot=true/\b.aJ 1=[61]
 ·rw[ak Z]at h;have⟨S,u,N⟩:=Z
  have B:(b.code==0)=true:=by simpa using S
  have acb:(b.aJ 1==[61])=true:=by rw[N];rfl
  unfold RS.ot at u
  cases E:b.l[b.i]? with
  |none=>rw[E]at u;cases u
  |some tk =>
  rw[E]at u
  have H:(tk.ai==2)=true:=by simpa using u
  have k:=(bY E).1
  have F:decide ((b.i:Int)<((b.l.map dp).length:Int))=true:=by simpa using k
  have hr:=lA E;have A:=(eV c).ok c;have z:=(b0 A (s:=[61]) aR).ok A
  cases m:mX (d+1) (b.name.2.ba [61])with
  |none=>rw[m]at h;cases h
  |some r =>
  have⟨e,o⟩:=r;rw[m]at h;cases h;have j:=(gk z m).ok z;refine I ?_;refine ze7 ?_;refine I ?_;refine D [0] (ou b c) ?_;refine zdH ?_;refine D [] (iT 7 at_ b.name.1 [e] _ pk) ?_;exact lJ
 rw[ae Z]at h
 cases m:mX (d+1) b with
 |none=>rw[m]at h;cases h
 |some r =>
 have⟨e,o⟩:=r;rw[m]at h;simp only at h;have j:=(gk c m).ok c;have ab2:=j.2
 have W:(b.code==0)=false\/((b.code==0)=true/\b.l.length<=b.i)\/((b.code==0)=true/\∃tk,b.l[b.i]?=some tk/\((tk.ai==2)=false\/((tk.ai==2)=true/\(b.aJ 1==[61])=false))):=by
  by_cases S:b.code=0
  ·refine .inr ?_
   have B:(b.code==0)=true:=by simpa using S
   cases E:b.l[b.i]? with
   |none=>exact .inl ⟨B,oP E⟩
   |some tk =>
    refine .inr ⟨B,tk,rfl,?_⟩
    by_cases H:tk.ai=2
    ·refine .inr ⟨by simpa using H,vf fun h61=>Z ⟨S,?_,h61⟩⟩;unfold RS.ot;rw[E];simpa using H
    ·exact .inl (by simpa using H)
  ·exact .inl (by simpa using S)
 refine I ?_;refine GW.join (fun fr Γ=>fr=.loc 0 0::y4 (d:Nat)::U::U::.loc 1 0::y4 at_::zU 99 (.v (.bool false)::zU 65 [])/\Γ=[cb b,.box 89 zT]) ?_ ?_
 ·rcases W with B|⟨B,NI⟩|⟨B,tk,E,H|⟨H,N⟩⟩
  ·exact zbk
  ·have F:decide ((b.i:Int)<((b.l.map dp).length:Int))=false:=by simpa using NI
   exact zbk
  ·have k:=(bY E).1
   have F:decide ((b.i:Int)<((b.l.map dp).length:Int))=true:=by simpa using k
   have hr:=lA E;exact zbk
  ·have k:=(bY E).1
   have F:decide ((b.i:Int)<((b.l.map dp).length:Int))=true:=by simpa using k
   have hr:=lA E;refine ze7 ?_;exact bh ⟨_,_,Wk.aZ (by repeat (first|exact tC.nil|refine tC.U ?_|refine tC.eq rfl ?_|refine tC.eq (by rw[N]) ?_)),rfl,rfl⟩
 ·rintro _ _⟨rfl,rfl⟩;refine I ?_;refine D [0] (xV (d+1) _ e o c V m) ?_
  by_cases k3:e.n.ai=3
  ·have k3':(e.n.ai==3)=true:=by simpa using k3
   by_cases ka:e.n.at_=at_
   ·have ka':(e.n.at_==at_)=true:=by simpa using ka
    by_cases R:o.aJ 0=[61]
    ·have ks':(o.aJ 0==[61])=true:=by rw[R];rfl
     rw[ak ⟨k3,ka,R⟩]at h;have k:=(dH R aR).1;have G:=(dZ R aR).ok j
     cases H:e.aw with
     |nil=>rw[H]at h;cases h
     |cons a X =>
     cases hv:mX (d+1) o.next with
     |none=>rw[H,hv]at h;cases h
     |some r =>
     have⟨v,p3⟩:=r;rw[H,hv]at h;cases h;have hp3:=(gk G hv).ok G
     have hr:(bj (a::X))[0]?=some (cT a):=by simp[bj,ru]
     refine I ?_;refine D [0] (dz o 0 j aR) ?_;refine D [0] (xV (d+1) _ v p3 G V hv) ?_;refine D [0] (da p3 [59] hp3 aR) ?_;refine aV (aL 0 9 (.a 9 (.a 10 (.a 11 .nil)))) ?_;refine zdP ?_;refine mA [] (iT 8 at_ e.n.s [a,v] _ pk) ?_;refine Hr ?_;refine ax ?_;exact kT
    ·have ks':(o.aJ 0==[61])=false:=vf R;rw[ae (fun J=>R J.2.2)]at h;cases h;refine I ?_;refine D [0] (dz o 0 j aR) ?_;exact zbC
   ·have ka':(e.n.at_==at_)=false:=by simpa using ka
    rw[ae (fun J=>ka J.2.1)]at h;cases h;refine I ?_;exact zbC
  ·have k3':(e.n.ai==3)=false:=by simpa using k3
   rw[ae (fun J=>k3 J.1)]at h;cases h;refine I ?_;exact zbC
def sds(f:Nat):Mk f:=by
 induction f using Nat.strongRecOn with
 |_ f O =>
  cases f with
  |zero=>exact⟨fun d p t q _ _ h=>by simp[mS]at h,fun d p t q _ _ h=>by simp[mS]at h,fun a d p t q _ _ _ h=>by simp[mS]at h⟩
  |succ f =>
   have C:=O f (Nat.lt_succ_self f)
   have l:∀Z,Z<=f->Mk Z:=fun Z h=>O Z (Nat.lt_succ_of_le h)
   exact⟨fun d p t q W T h=>Ug l d p t q W T h,fun d p t q W T h=>YH C d p t q W T h,fun a d p t q W M T h=>Wh C a d p t q W M T h⟩
open Go.Xp (Nd Ar)
def aN(n:Nd):am:=[y4 n.ai,y4 n.at_,y4 n.n,.v (sv n.s),ints n.aw]
def aD(f:Go.Sp.Fn):am:=[.v (sv f.name),strs f.params,y4 f.body]
def aW(a:Ar):am:=[.v (sv a.name),y4 a.size]
abbrev aB(p:Src):am:=[strs p.aq,.sl 2 (p.aj.map aW),.sl 3 (p.av.map aD),.sl 5 (p.ah.map aN)]
def HP(k:Int):GF prog 356 [y4 k] [] (.v (.bool (nQ k))) []:=by
 unfold nQ;refine dc func356 ntmps356 ?_
 cases h:decide ((1:Int)<=k)
 all_goals
  exact aK
def HQ(k:Int):GF prog 320 [y4 k] [] (.v (.bool (im k))) []:=by
 unfold im;refine dc func320 ntmps320 ?_
 cases h:decide ((7:Int)<=k)
 all_goals
  exact aK
def tP(s:ab):GF prog 319 [.v (sv s)] [] (.v (.bool (eD s))) []:=by
 refine au func319 ntmps319 ?_;refine D [] jX ?_;refine GW.range (levels.map fun l=>[strs l]).length (fun k J u=>J=[.v (sv s),U,U,U,U,.sl 1 (levels.map fun l=>[strs l]),y4 ((levels.map fun l=>[strs l]).length:Int),y4 (k:Nat),U,U,U,U,U,U,U]/\u=[]/\((levels.take k).any fun l=>l.contains s)=false) ?_ aR ?_ ?_ ?_
 ·exact lk
 ·exact jA
 ·rintro k _ _ N⟨rfl,rfl,m⟩
  have N:k<levels.length:=by simpa using N
  have hx:levels[k]?=some levels[k]:=by simp[N]
  have z:(levels.map fun l=>[strs l])[k]?=some [strs levels[k]]:=by simp[N]
  have M:levels[k].length<=1099511627776:=by
   have:∀l∈levels,l.length<=1099511627776:=by decide
   exact this _ (getElem_mem N)
  generalize levels[k]=x at *;have W:=iR x s M
  cases i:x.contains s with
  |true =>
   rw[i]at W
   have w:eD s=true:=by
    unfold eD;rw[mh];exact⟨x,bP hx,i⟩
   refine I ?_;refine D [] W ?_;refine bB ?_;rw[w];exact zah
  |false =>
   exact zbL
 ·rintro _ _⟨rfl,rfl,m⟩
  have m:eD s=false:=by
   rw[ln zfg]at m;exact m
  refine zbb ?_;rw[m];exact zah
def dG{l:List T}{i:Nat}{t:T}(h:l[i]?=some t):(bj l)[i]?=some (cT t):=by
 induction l generalizing i with
 |nil=>simp at h
 |cons a l O =>
  cases i with
  |zero=>cases h;simp[bj,ru]
  |succ i=>simpa[bj]using O (by simpa using h)
def gC(t:T)(m:Nat)(M:t.aw.length<=1099511627776):GF prog 318 [.agg (cT t),y4 (m:Nat)] [] (.v (.bool (bR m 0 t.aw))) []:=by
 refine au func318 ntmps318 ?_;refine GW.range (bj t.aw).length (fun k J u=>J=U::y4 (m:Nat)::U::U::U::U::U::U::.sl 6 (bj t.aw)::y4 ((bj t.aw).length:Int)::y4 (k:Nat)::zU 26 []/\u=[]/\bR m k (t.aw.drop k)=bR m 0 t.aw) ?_ (by rw[bH];exact M) ?_ ?_ ?_
 ·exact⟨_,_,(Wk.cut (n:=0) (aY _) rfl).trans (Wk.aZ az),rfl,rfl,rfl⟩
 ·exact jA
 ·rintro k _ _ N⟨rfl,rfl,l⟩
  have N:k<t.aw.length:=by rw[bH]at N;exact N
  have hx:t.aw[k]?=some t.aw[k]:=by simp[N]
  have w:=dG hx;rw[j3 N,bR]at l;generalize t.aw[k]=x at *;have e:=HP x.n.ai
  by_cases j:k<m
  ·have o:decide ((k:Int)<(m:Int))=true:=by simpa using j
   have S:decide ((m:Int)<=(k:Int))=false:=by simpa using j
   rw[ak j]at l
   cases i:nQ x.n.ai with
   |true =>
    rw[i]at e l;refine zcv ?_;exact zda
   |false =>
    rw[i]at e l;refine zcv ?_;refine bB ?_;rw[<-l];exact zah
  ·have o:decide ((k:Int)<(m:Int))=false:=by simp;omega
   have S:decide ((m:Int)<=(k:Int))=true:=by simp;omega
   rw[ae j]at l
   cases i:(x.n.ai==14)with
   |true =>
    rw[i]at l
    have r:(x.n.ai != 14)=false:=by simp only[bne,i];rfl
    refine I ?_;exact zda
   |false =>
    rw[i]at l
    have r:(x.n.ai != 14)=true:=by simp only[bne,i];rfl
    refine zbb ?_;rw[<-l];exact zah
 ·rintro _ _⟨rfl,rfl,l⟩;rw[bH,drop_length,bR]at l;refine zbb ?_;rw[<-l];exact zah
def cr{l:List Nd}{i:Nat}{n:Nd}(h:l[i]?=some n):(l.map aN)[i]?=some (aN n):=by rw[dB,h];rfl
def ic{l:List Int}{i:Nat}{n:Int}(h:l[i]?=some n):(l.map fun i=>[GV.v (ii i)])[i]?=some [y4 n]:=by rw[dB,h];rfl
def Ez(p:Src)(O:∀n∈p.ah,n.aw.length<=1000000000000):∀(f a:Nat)(t:T),sub p.ah f a=some t->GF prog 120 [.agg (aB p),y4 (a:Nat)] [] (.agg (cT t)) []:=by
 intro f
 induction f using Nat.strongRecOn with
 |_ f Q =>
 intro a t h
 cases f with
 |zero=>simp[sub]at h
 |succ f =>
 rw[sub]at h
 cases c:p.ah[a]? with
 |none=>rw[c]at h;cases h
 |some n =>
 rw[c]at h;simp only at h
 cases G:pC p.ah f n.aw []with
 |none=>rw[G]at h;cases h
 |some l =>
 rw[G]at h;cases h;have B:=cr c;have j:=O n (bP c);refine au func120 ntmps120 ?_;refine GW.wk (Wk.tV (i:=2) (o:=5) 89 6 rfl rfl) ?_
 refine GW.range (n.aw.map fun i=>[GV.v (ii i)]).length (fun k J z=>∃H W g,J=[U,y4 (a:Nat),.loc 0 0,U,.loc 1 0,.loc 2 0,U,U,U,U,U,U,U,U,U,U,U,U,U,ints n.aw,y4 ((n.aw.map fun i=>[GV.v (ii i)]).length:Int),y4 (k:Nat),U,U,U,U,U,U,U,U,U,U,U,U,U] /\
   z=[.box 28 (aB p),.box 89 zT,.box 89 [y4 n.ai,y4 n.at_,y4 n.n,.v (sv n.s),ints n.aw,.vec 3 k],.vec 89 6 0 H] /\
   H.length=k/\H=bj W/\g<=f/\pC p.ah g (n.aw.drop k) W=some l) ?_ (by simp;omega) ?_ ?_ ?_
 ·exact⟨_,_,Wk.aZ az,[],[],f,rfl,rfl,rfl,rfl,aY _,G⟩
 ·rintro k _ _⟨_,_,_,rfl,rfl,_⟩;exact dO
 ·rintro k _ _ N⟨H,W,g,rfl,rfl,e,R,X,h⟩
  have N:k<n.aw.length:=by simpa using N
  have hx:n.aw[k]?=some n.aw[k]:=by simp[N]
  rw[j3 N]at h;generalize n.aw[k]=x at *
  cases g with
  |zero=>simp[pC]at h
  |succ g =>
  rw[pC]at h
  by_cases E:x<0
  ·rw[ak E]at h;cases h
  rw[ae E]at h
  cases r:sub p.ah g x.toNat with
  |none=>rw[r]at h;cases h
  |some t =>
  rw[r]at h;simp only at h;have A:=Q g V x.toNat t r;rw[Int.toNat_of_nonneg V]at A;have w:=ic hx;refine I ?_;refine aV (aL 0 4 (.a 4 (.a 5 (.a 6 (.q 7 (.a 8 .nil)))))) ?_;refine ax ?_;refine aP [] A ?_;refine zcM ?_;exact⟨rfl,rfl,_,_,Wk.aZ az,_,W++[t],g,rfl,rfl,by rw[br,e];rfl,by rw[sn,R];rfl,by omega,h⟩
 ·rintro _ _⟨H,W,g,rfl,rfl,e,R,X,h⟩;rw[ct,drop_length]at h
  have u:W=l:=by cases g<;>(rw[pC]at h;cases h;rfl)
  subst u;subst R;refine bh (GW.wk (Wk.pd (i:=2) (o:=5) rfl rfl rfl rfl e) ?_);exact kT
end Go.Xg
namespace Go.Xg
open Go.RowKit Go.Xw Go.Proofs Go.WideShapes Go.Deep
def flat(v:Value):Prop:=∀a n c,v≠.slice a n c
def Qc(W:World)(v:Value)(xs:List Value):Prop:=∃a c,v=.slice a xs.length c/\(xs=[]\/∃b o,a=some ⟨b,o,none⟩/\xs.length<=c/\∀i x,xs[i]?=some x->jd W.heap b (o+i)=some x/\flat x)
open Classical in
noncomputable def KW(W:World):Fz:=fun b o=>match jd W.heap b o with
 |none=>none
 |some v=>if ∃a n c,v=.slice a n c then(if h:∃xs,Qc W v xs then some (.sl 1 (h.choose.map fun x=>[.v x]))else none)else some (.v v)
def BP{W:World}{b o:Nat}{v:Value}(h:jd W.heap b o=some v)(hf:flat v):KW W b o=some (.v v):=by
 unfold KW;rw[h];simp only;rw[if_neg (by rintro⟨a,n,c,e⟩;exact hf a n c e)]
def O8{W:World}{v:Value}{xs:List Value}(hx:Qc W v xs)(β:Bt):Rel (KW W) β v (.sl 1 (xs.map fun x=>[GV.v x])):=by
 obtain⟨a,c,rfl,h⟩:=hx
 rcases h with rfl|⟨b,o,rfl,hc,Zw⟩
 ·exact .sl0 a c 1
 ·have:=Rel.sl (K:=KW W) (β:=β) b o c 1 (xs.map fun x=>[GV.v x]) (fun i r hr=>by
   rw[List.getElem?_map]at hr
   cases hi:xs[i]? with
   |none=>rw[hi]at hr;cases hr
   |some x =>
    rw[hi]at hr;cases hr;have⟨h1,h2⟩:=Zw i x hi;refine⟨rfl,fun j g hg=>?_⟩
    cases j with
    |zero=>cases hg;rw[Nat.mul_one,Nat.add_zero];exact BP h1 h2
    |succ j=>simp at hg) (by rw[List.length_map];exact hc)
  rw[List.length_map]at this;exact this
def Y6(W:World):oa (KW W) W:=fun b o g h=>by
 unfold KW at h
 cases hc:jd W.heap b o with
 |none=>rw[hc]at h;cases h
 |some v =>
  rw[hc]at h;simp only at h;split at h
  ·split at h
   ·rename_i hex;cases h;exact⟨rfl,v,rfl,O8 hex.choose_spec _⟩
   ·cases h
  ·cases h;exact⟨rfl,v,rfl,.v v⟩
def Qs{W:World}{a:Addr}{n:Nat}{v:Value}(h:W.cell? (a.add n)=some v):jd W.heap a.block (a.off+n)=some v:=by
 unfold Addr.add at h;split at h
 ·rename_i h0;subst h0;have⟨b,o,s⟩:=a;have hs:=World.cell?_spot h;simp only at hs;subst hs;rw[fS]at h;exact h
 ·have⟨b,o,s⟩:=a;simp only at h;rw[fS]at h;exact h
def Qk{W:World}{a:Addr}{v:Value}(h:W.cell? (a.add 0)=some v):a.spot=none:=by
 have:=World.cell?_spot h;unfold Addr.add at this;rw[if_pos rfl]at this;exact this
def zn{α:Type}{Q:Nat->α->Prop}:∀{n:Nat},(∀i,i<n->∃x,Q i x)->∃l:List α,l.length=n/\∀i x,l[i]?=some x->Q i x
 |0,_=>⟨[],rfl,fun i x h=>by simp at h⟩
 |n+1,h=>by
  obtain⟨l,h1,h2⟩:=zn (n:=n) fun i hi=>h i V
  have⟨x,hx⟩:=h n V;refine⟨l++[x],by simp[h1],fun i y hi=>?_⟩
  by_cases Je:i<n
  ·rw[List.getElem?_append_left V]at hi;exact h2 i y hi
  ·have ps:=(List.getElem?_eq_some_iff.1 hi).1;rw[length_append,length_cons,length_nil]at ps
   have:i=n:=by omega
   subst this;rw[List.getElem?_append_right V,h1,Nat.sub_self]at hi
   cases hi;exact hx
def max_le{n:Nat}(h:n<=maxLen):n<=9223372036854775807:=by unfold maxLen at h;omega
section
variable{H:Type}{enc:TypeId × Value->H}{P:Program}{W:World}
end
section
variable{H:Type}{enc:TypeId × Value->H}{W:World}
end
end Go.Xg
namespace Go.Xg
open Go.RowKit Go.Xw Go.Proofs Go.Lib
section
variable{P:Program}{W:World}{name:String}{k:IntKind}{zs:List Int}
def Pz{g:Nat}{t e:TypeId}{n:Nat}
  (hg:P.globalNamed name=some g)(hty:(P.globals[g]?).map (·.type)=some t)(ht:P.underlying t=some (.array n e))(he:P.underlying e=some (.int k))(W5:P.cellsOf e=1)(NG:P.cellsOf t=n)
  (h:VarReads P W name (tabData k zs)):TabIs P W name k zs:=by
 have⟨g',t',cs,fuel,p,xO,Xt,aa9,hd⟩:=h;obtain rfl:=Option.some.inj (hg.symm.trans xO);obtain rfl:=Option.some.inj (hty.symm.trans Xt);unfold TabIs;rw[aa9,<-cells_of_tab ht he W5 NG hd]
def Ki{g n:Nat}(hg:P.globalNamed name=some g)(hn:zs.length=n)(h:TabIs P W name k zs):tB W g n:=by
 unfold TabIs World.var? at h;rw[hg]at h;simp only[Option.bind_some]at h
 cases hb:W.heap[g]? with
 |none=>rw[hb]at h;cases h
 |some o =>
  rw[hb]at h
  cases o with
  |cells cs E z =>
   simp only[Option.some.injEq]at h;exact⟨cs,E,z,hb,by rw[h];simpa using hn⟩
  |_=>cases h
def Mf{g:Nat}(hg:P.globalNamed name=some g)(h:TabIs P W name k zs){o:Nat}{z:Int}(ho:zs[o]?=some z):KW W g o=some (.v (.int k z)):=by
 have ps:=(List.getElem?_eq_some_iff.1 ho).1;have hc:=h.cell hg o ps;rw[List.getD_eq_getElem?_getD,ho,fS]at hc
 exact BP hc fun a n c e=>by cases e
end
theorem VJ{W:World}(hp:VarReads Tryz.prog W "internal/strconv.uint64pow10" (tabData .u64 vP))(hs:VarReads Tryz.prog W "strings.asciiSpace" (tabData .u8 v7))(hW:W.ShapedOpen Tryz.prog):mJ (KW W) (fun _=>.no) W:=by
 have gp:Tryz.prog.globalNamed "internal/strconv.uint64pow10" = some 3:=by kernel_rfl
 have gs:Tryz.prog.globalNamed "strings.asciiSpace" = some 1:=by kernel_rfl
 have tp:=Pz gp (t:=328) (by kernel_rfl) Tryz.underlying328 (k:=.u64) (by kernel_rfl) (by kernel_rfl) (by kernel_rfl) hp;have ts:=Pz gs (t:=306) (by kernel_rfl) Tryz.underlying306 (k:=.u8) (by kernel_rfl) (by kernel_rfl) (by kernel_rfl) hs;obtain⟨m,hm⟩:=cell_of_shapedOpen_int (g:=0) (zero:=#[.int .i64 0]) (t:=3) hW (of_decide_eq_true (by kernel_rfl)) (by kernel_rfl) rfl (by kernel_rfl) (by kernel_rfl) Tryz.underlying3;rw[fS]at hm;refine⟨⟨m,fun b o g h=>?_⟩,Ki gp aR tp,Ki gs aR ts,fun i b h=>by cases h⟩;unfold zI at h;split at h
 ·rename_i hb;subst hb;split at h
  ·cases h;exact BP hm fun a n c e=>by cases e
  ·cases h
 ·split at h
  ·rename_i hb;subst hb
   cases ho:vP[o]? with
   |none=>rw[ho]at h;cases h
   |some z=>rw[ho]at h;cases h;exact Mf gp tp ho
  ·split at h
   ·rename_i hb;subst hb
    cases ho:v7[o]? with
    |none=>rw[ho]at h;cases h
    |some z=>rw[ho]at h;cases h;exact Mf gs ts ho
   ·cases h
def GF.calls{P:Program}{f:FuncId}{gs:am}{g:GV}(h:GF P f gs [] g []){W:World}{vs:List Value}(hv:bF (KW W) (fun _=>.no) vs gs)(hT:mJ (KW W) (fun _=>.no) W) :
  pF P f vs W fun v w'=>Below W.heap.size W w'/\∃K β,Rel K β v g:=by
 have hI:Inv ⟨W,gS,KW W,fun _=>.no,0⟩ (KW W) (fun _=>.no) [] W :=
  ⟨Ext.refl W,dm.refl _,dV.refl _,fun _ _=>rfl,Y6 W,fun i x h=>by simp at h,fun _ _=>rfl,fun i j b h=>zfn,fun i b h=>zfn,fun b o g h=>.inl h,hT⟩
 refine(h ⟨W,gS,KW W,fun _=>.no,0⟩ (KW W) (fun _=>.no) W vs rfl hI hv).mono ?_;rintro v w'⟨K',gi,x,bM,h1,h2,rfl,rfl⟩;exact⟨h1.ext.below,K',gi,h2⟩
end Go.Xg
namespace Go.Xg
open Go.RowKit Go.Xw
def ib(n:Int):bits .and .i64 n 4294967295=n%4294967296:=by
 have h:(BitVec.ofInt 64 4294967295).toNat=2^32-1:=by decide
 have R:(BitVec.ofInt 64 n &&& BitVec.ofInt 64 4294967295).toNat=(n%((2^64:Nat):Int)).toNat%2^32:=by
  rw[BitVec.toNat_and,BitVec.toNat_ofInt,h,Nat.and_two_pow_sub_one_eq_mod]
 show IntKind.i64.wrap ((BitVec.ofInt 64 n &&& BitVec.ofInt 64 4294967295).toNat:Nat)=n%4294967296;rw[R,IntKind.wrap_i64];omega
section
variable{P:Program}{fr:am}{Γ:ap}
def YG.ib{x y:Operand}{t m:TypeId}{a:Int}(hx:bf fr x=y4 a)(B:bf fr y=y4 4294967295):YG P (.binOp .and t x y m) fr Γ (y4 (a%4294967296)) :=
 YG.v2 hx B fun l w h k d o G n=>by
  simp[execOp,eqGuard,h,k,binOp,intBits_and,Go.Xg.ib]
end
end Go.Xg
namespace Go.Xw
open Go.RowKit
class C6 (P:Program) (t:TypeId) (e:outParam TypeId):Prop where
 is:P.underlying t=some (.slice e)/\∃i,P.info? e=some i/\i.zero=some (.int .u8 0)/\i.size=1/\i.bytes=1
def Sz(P:Program)(t e:TypeId):Bool :=
 (match P.underlying t with|some (.slice b)=>b==e|_=>false)&&(match P.info? e with|some i=>(match i.zero with|some (.int .u8 0)=>true|_=>false)&&i.size==1&&i.bytes==1|none=>false)
theorem C6.mk'{P:Program}{t e:TypeId}(h:Sz P t e=true):C6 P t e:=by
 unfold Sz at h;rw[aI]at h;have⟨o,b⟩:=h;refine⟨?_,?_⟩
 ·grind
 grind
section
variable{P:Program}{Q:mj}{l:List Value}{w:World}{ops:Array Oper}{rest:List Oper}{d:Option Tmp}{ty:TypeId}{pos:String}{af:Array Edge}
def lY(s:ab):List Value:=s.map fun c=>.int .u8 (c.toNat:Int)
theorem WL.BW{s x:Operand}{t u e:Nat}[hT:C6 P t e][hU:qG P u]{base n:Nat}{xs:List Value}{v:Value}{str:ab}(hs:ev l s=v)(o:iz w base e 1 v n xs)(hx:ev l x=sv str)
  (W:n+str.length<=140737488355328)(C:base<=w.heap.size)
  (h:∀B w',iz w' base e 1 B (n+str.length) (xs++lY str)->Ext (fun b=>v.ownBlock=some b) w w'->(∀b,B.ownBlock=some b->v.ownBlock=some b\/w.heap.size<=b)->(Ext gS w w'\/B.ownBlock=v.ownBlock)->WL P ops Q rest (put l d B) w') :
  WL P ops Q (⟨d,.call ⟨.builtin .append,#[s,x],#[t,u]⟩,ty,pos,af,none⟩::rest) l w:=by
 have⟨N,i,M,X,H,E⟩:=hT.is;have z:=hU.und
 have A:(⟨str.toArray⟩:ByteArray).size=str.length:=by rfl
 have F:Lib.strCells ⟨str.toArray⟩=lY str:=by rfl
 have⟨B,w',hr,h2,O,h4⟩:=Lib.run_append_own_string (P:=P) w base t u ty e i N z M X H E v n xs o ⟨str.toArray⟩ zfr zfh C;rw[A,F]at h2;rw[A]at h4;have S:Ext (fun b=>v.ownBlock=some b) w w':=⟨O.os,O.tape,O.output,O.size,fun j hj hn=>O.block j hj fun he=>hn he.symm⟩;have T:(Builtin.append_ #[t,u] ty #[v,sv str]).run P w=.ok B w':=hr;refine WL.val (v:=B) (w':=w') (by simp[execOp,resolve,invoke,builtin,hs,hx,T]) (h B w' h2 S ?_ ?_)
 ·intro b' Nz
  rcases o.2 with⟨rfl,rfl⟩|⟨g,c,cur,rfl,Y,hg,Ds,Z,F,J⟩
  ·by_cases hm:str.length=0
   ·grind
   ·have r:=run_append_nil_string (P:=P) w t u ty e i (.int .u8 0) N z M X ⟨str.toArray⟩ zfh zfh zff
    exact zbU
  ·by_cases G:n+str.length<=c
   ·have R:cur.size=c:=by omega
    have r:=Lib.run_append_room_string (P:=P) w t u ty e i N z M H g n c cur hg ⟨str.toArray⟩ zfh zfh
    exact zbU
   ·have q:∀j u,xs[j]?=some u->w.cell? ((⟨g,0,none⟩:Addr).add j)=some u:=World.ownsRow.cells (g:=g) o rfl;have r:=Lib.run_append_grow_string (P:=P) w t u ty e i (.int .u8 0) N z M X ⟨g,0,none⟩ n c xs zff q ⟨str.toArray⟩ zfh zfh zfM
    exact zbU
 ·rcases o.2 with⟨rfl,rfl⟩|⟨g,c,cur,rfl,Y,hg,Ds,Z,F,J⟩
  ·exact zbU
  ·by_cases G:n+str.length<=c
   ·have R:cur.size=c:=by omega
    have r:=Lib.run_append_room_string (P:=P) w t u ty e i N z M H g n c cur hg ⟨str.toArray⟩ zfh zfh
    exact zbU
   ·have q:∀j u,xs[j]?=some u->w.cell? ((⟨g,0,none⟩:Addr).add j)=some u:=World.ownsRow.cells (g:=g) o rfl;have r:=Lib.run_append_grow_string (P:=P) w t u ty e i (.int .u8 0) N z M X ⟨g,0,none⟩ n c xs zff q ⟨str.toArray⟩ zfh zfh zfM;rw[hr]at r;cases r;exact zdm
theorem R.iP{x:Operand}{s:TypeId}{i z:Nat}[n:ed P s i z 1 false]{vs:List Value}{v:Value}(hx:ev l x=.agg vs.toArray)(j:vs[z]?=some v):fL P l w (.field s x i) v:=fun d ty pos af=>by
 have⟨n⟩:=n;unfold K9 at n;split at n
 ·rename_i A M;split at n
  ·rename_i f q;simp only[aI,beq_iff_eq,bne_iff_ne,ne_eq]at n;have⟨⟨⟨r,b⟩,G⟩,C⟩:=n
   have Z:(isAgg f.type).run P w=.ok false w:=by
    cases T:P.underlying f.type with
    |none=>grind
    |some d =>
     rw[T]at C;unfold isAgg;rw[Sem.run_bind,run_underlying T w]
     cases d<;>simp_all[yw]
   have o:vs.toArray[f.offset]?=some v:=by grind
   have N:vs[f.offset]?=some v:=by grind
   simp[execOp,Instr.field,hx,run_underlying M,q,part,asAgg,Z,o,N]
  grind
 grind
end
end Go.Xw
namespace Go.Xg
open Go.RowKit Go.Xw
open GV (U)
section
variable{P:Program}{m:Nat}{Q:dN}{fr:am}{Γ:ap}{ops:Array Oper}{rest:List Oper}{d:Option Tmp}{op:Op}{ty:TypeId}{pos:String}{af:Array Edge}
theorem YG.iP{x:Operand}{s:TypeId}{i z:Nat}[q:ed P s i z 1 false]{cs:am}{g:GV}(hx:bf fr x=.agg cs)(hg:cs[z]?=some g):YG P (.field s x i) fr Γ g:=fun B K r w l o O=>by
 have h:=O.ev x;rw[hx]at h;generalize k:ev l x=v at h
 cases h with
 |agg n _ M h =>
  have j:z<n.length:=by grind
  exact⟨n[z],R.iP k zfJ,h z _ g zfJ hg⟩
abbrev dy(s:ab):List am:=s.map fun c=>[.v (.int .u8 (c.toNat:Int))]
theorem GL.BW{s x:Operand}{t u e:Nat}[hT:C6 P t e][hU:qG P u]{i n fz:Nat}{rows:List am}{str:ab}(hx:bf fr x=.v (sv str))(hs:bf fr s=.vec i n)(F:Γ[i]?=some (.vec e 1 fz rows))(hn:rows.length=n)(A:str.isEmpty=false)
  (hb:n+str.length<=140737488355328)
  (h:GL P m ops Q rest (bX fr d (.vec i (n+str.length))) (oset Γ i (.vec e 1 fz (rows++dy str)))) :
  GL P m ops Q (⟨d,.call ⟨.builtin .append,#[s,x],#[t,u]⟩,ty,pos,af,none⟩::rest) fr Γ:=fun B K β w l hm hI J=>by
 subst hn
 have A:str≠[]:=by grind
 have⟨h0,xs,o1,H,o3,o4,o5,o6⟩:=hI.ob i _ F;have k:=J.ev s;rw[hs]at k
 have Z:ev l s=h0:=by
  generalize hv:ev l s=v at k
  cases k with
  |vec _ _ a c hh =>
   grind
 have T:(dy str).flatten=str.map fun c=>GV.v (.int .u8 (c.toNat:Int)):=by
  unfold dy;clear hx A hb h;generalize str=s
  induction s with
  |nil=>rfl
  |cons c r ih=>grind
 have hlen:(dy str).length=str.length:=by simp
 refine WL.BW (base:=0) (v:=h0) (n:=rows.length) (xs:=xs) (str:=str) Z H (J.gq hx) hb (bp _) ?_;intro v' w' C z W Y
 obtain⟨K',hK,NX,q⟩:=hI.grow F o1 ⟨H,o3⟩ (news:=dy str) (ns:=lY str) zff z W (by rw[T];exact(by
   have:(str.map fun c=>GV.v (.int .u8 (c.toNat:Int)))=gZ (lY str):=by simp[gZ,lY]
   rw[this];exact bF.self)) (fun r hr=>by
   grind[GV.pc]) zff (fun b j o v ho hv=>by
  rcases Y with G|G
  ·exact G.c hv (fun h=>h)
  ·have X:o<xs.length:=by rw[H.1];omega
   have⟨b2,c2,R,_,_,O⟩:=H.cells.2 zff
   have M:b2=b:=by rw[R]at j;cases j;rfl
   subst M;have E:=O o xs[o] (by simp[X]);rw[fS,hv]at E;cases E;have⟨b3,c3,S,_,_,hc3⟩:=C.cells.2 zfs
   have N:b3=b2:=by rw[S,j]at G;cases G;rfl
   subst N
   rw[<-fS];grind)
 rw[<-bI]at q;refine h B K' _ w' _ hm q ((J.mono hK NX).put d ?_);obtain⟨a,c,rfl⟩:=C.shape;exact .vec i _ a c ⟨_,_,b7,by simp,fun _=>by rfl⟩
end
def GF.XT{P:Program}{f:FuncId}{vs:List Value}{v:Value}(h:∀K β w,mJ K β w->oa K w->pF P f vs w fun x w'=>x=v/\Ext gS w w'):GF P f (vs.map GV.v) [] (.v v) []:=fun B K β w t n j O=>by
 have k:t=vs:=by
  have⟨o,b⟩:=O;apply ext_getElem
  ·grind
  ·intro i G C;have:=b i t[i] (.v vs[i]) (by simp[G]) (by simp[C]);exact Rel.eW this
 subst k
 exact(h K β w j.tab j.fz).mono fun x w' ⟨o,b⟩=>⟨K,β,.v v,[],j.same b,by rw[o];exact .v _,rfl,rfl⟩
def mJ.cell{K:Fz}{β:Bt}{w:World}(h:mJ K β w)(hf:oa K w){b o:Nat}{x:Value}(N:∀m,zI m b o=some (.v x)):jd w.heap b o=some x:=by
 have⟨m,h⟩:=h.le;have⟨_,v,j,z⟩:=hf b o _ (h b o _ (N m));rw[j,Rel.eW z]
theorem mJ.maxLen{K:Fz}{β:Bt}{w:World}(h:mJ K β w)(hf:oa K w):∃m,w.cell? ⟨0,0,none⟩=some (.int .i64 m):=by
 have⟨m,h⟩:=h.le
 have N:zI m 0 0=some (.v (.int .i64 m)):=by rfl
 have⟨_,v,j,z⟩:=hf _ _ _ (h _ _ _ N)
 grind[fS,Rel.eW]
def tB.all{K:Fz}{β:Bt}{w:World}(h:mJ K β w)(hf:oa K w){b n:Nat}{zs:List Value}(j:tB w b n)(hn:zs.length=n)(N:∀m o x,zs[o]?=some x->zI m b o=some (.v x)):∃E z,w.heap[b]?=some (.cells zs.toArray E z):=by
 have⟨O,E,z,q,c⟩:=j;refine⟨E,z,?_⟩
 have:O=zs.toArray:=by
  apply Array.ext
  ·grind
  ·intro i k A
   have hx:zs[i]?=some zs.toArray[i]:=by simp
   have G:=h.cell hf (b:=b) (o:=i) (fun m=>N m i _ hx)
   grind[jd,fS,cell_of_row]
 grind
def GF.abj{P:Program}{f:FuncId}{vs us:List Value}{E:TypeId}(h:∀K β w,mJ K β w->oa K w->pF P f vs w fun x w'=>x=.slice (some ⟨w.heap.size,0,none⟩) us.length us.length/\w'=w.alloc (.cells us.toArray E)):GF P f (vs.map GV.v) [] (.sl 1 (us.map fun u=>[.v u])) []:=fun B K β w z n j O=>by
 have k:z=vs:=by
  have⟨o,b⟩:=O;apply ext_getElem
  ·grind
  ·intro i G C;have:=b i z[i] (.v vs[i]) (by simp[G]) (by simp[C]);exact Rel.eW this
 subst k
 refine(h K β w j.tab j.fz).mono fun x w' ⟨o,b⟩=>?_
 subst o;subst b;have c:=va.of w (.cells us.toArray E);obtain⟨N,F⟩:=j.uz c (cs:=us.map .v) bF.self (fun g X=>by grind[GV.pc]);refine⟨_,β,.sl 1 (us.map fun u=>[.v u]),[],F,?_,rfl,rfl⟩;have:=Rel.sl (K:=kb K w.heap.size (us.map .v)) (β:=β) w.heap.size 0 us.length 1 (us.map fun u=>[.v u]) (fun i r A=>?_) zfg
 ·grind
 grind[kb]
section
variable{B:Bs}{K:Fz}{β:Bt}{Γ:ap}{w:World}
theorem Inv.swap{i:Nat}{y:Ob}(h:Inv B K β Γ w)(A:hO K β w i y):Inv B K β (oset Γ i y) w:=by
 refine⟨h.ext,h.kle,h.ble,h.loc,h.fz,fun j x Y=>?_,fun j Y=>h.out j zfl,h.dis,h.own,h.kn,h.tab⟩;rw[bI,eY]at Y;split at Y
 ·grind
 ·exact h.ob j x Y
def Inv.yk{i E k:Nat}{rows:List am}{x:Value}(h:Inv B K β Γ w)(hi:Γ[i]?=some (.vech E k rows x)):Inv B K β (oset Γ i (.vec E k 0 rows)) w:=by
 have⟨X,q,c,G,C,e⟩:=h.ob i _ hi;exact h.swap ⟨x,X,q,c,G,C,fun b j=>⟨fun o _=>e b j o,fun o g A=>by omega⟩,bp _⟩
def Inv.wH{i E k:Nat}{rows:List am}(h:Inv B K β Γ w)(hi:Γ[i]?=some (.vec E k 0 rows)):∃a c,β i=.gr (.slice a rows.length c) rows.length/\Inv B K β (oset Γ i (.vech E k rows (.slice a rows.length c))) w:=by
 have⟨x,X,q,e,G,C,j,n⟩:=h.ob i _ hi;obtain⟨a,c,rfl⟩:=e.shape;exact⟨a,c,q,h.swap ⟨X,q,e,G,C,fun b l o=>(j b l).1 o V⟩⟩
theorem nI{i:Nat}{x y:Ob}(h:Γ[i]?=some x):(oset Γ i y)[i]?=some y:=by
 grind[List.getElem?_eq_some_iff,bI]
theorem ma{i:Nat}{x y:Ob}:oset (oset Γ i x) i y=oset Γ i y:=by grind[bI,List.set_set]
def Inv.gr{i E k:Nat}{rows:List am}{x:Value}(h:Inv B K β Γ w)(hi:Γ[i]?=some (.vech E k rows x)):β i=.gr x rows.length:=by
 have⟨X,o,_⟩:=h.ob i _ hi;exact o
def Inv.pb{i E k:Nat}{rows:List am}{x:Value}(h:Inv B K β Γ w)(hi:Γ[i]?=some (.vech E k rows x)):∃S,dm K S/\Rel S β x (.sl k rows)/\Inv B S β (oset Γ i (.vec E k rows.length rows)) w:=by
 have⟨X,o,b,J,C,s⟩:=h.ob i _ hi;have⟨S,n,e,F⟩:=(h.yk hi).jx (nI hi);rw[<-bI,ma]at F;refine⟨S,n,?_,F⟩
 rcases b.2 with⟨l,Y⟩|⟨g,c,G,l,_,_,R,_⟩
 ·have:rows=[]:=ll Y;subst this;subst l;exact .sl0 _ _ _
 ·subst l;refine .sl g 0 c k rows (fun j r v=>⟨(C r (bP v)).1,fun q T H=>?_⟩) R;rw[dJ];exact e _ g o rfl _ T (sA C v H)
end
section
variable{P:Program}{m:Nat}{Q:dN}{fr:am}{Γ:ap}{ops:Array Oper}{rest:List Oper}{d:Option Tmp}{op:Op}{ty:TypeId}{pos:String}{af:Array Edge}
theorem Wk.gz(E k:Nat):Wk m fr Γ fr (Γ++[.vech E k [] y6]):=fun B K β w l q n O=>by
 have o:β Γ.length=.no:=n.out _ (aY _);have F:=n.BV (w':=w) (E:=E) (k:=k) (x:=.slice none 0 0) (xs:=[]) (rows:=[]) (Ext.refl w) (iz.nil w 0 E k) (fun b j=>by cases j) bF.nil (fun r v=>by cases v);have N:dV β (fU β Γ.length (.gr y6 ([]:List am).length)):=iV zfu;refine⟨K,_,?_,O.mono (dm.refl K) N⟩;have j:fU β Γ.length (.gr y6 ([]:List am).length) Γ.length=.gr y6 ([]:List am).length:=b7;have:=F.swap (i:=Γ.length) (y:=.vech E k [] y6) ⟨[],j,iz.nil w 0 E k,bF.nil,(fun r v=>by cases v),(fun b j=>by cases j)⟩
 grind[bI]
theorem Wk.Bw{t i E k:Nat}{rows:List am}{x:Value}(M:bD fr t=.v x)(q:il fr t=true)(o:Γ[i]?=some (.vech E k rows x)):Wk m fr Γ (bJ fr t (.sl k rows)) (oset Γ i (.vec E k rows.length rows)):=fun B K β w l r j O=>by
 have⟨S,n,z,F⟩:=j.pb o;refine⟨S,β,F,?_⟩;have s:nth l t=x:=Rel.eW (by rw[<-M];exact O.nth t);have:=(O.mono n (dV.refl β)).fc t z
 grind[Av,nP]
theorem bF.bJ{K:Fz}{β:Bt}{x:Value}{g:GV}(z:Rel K β x g):∀{vs:List Value}{cs:am}{o:Nat},bF K β vs cs->cs[o]?=some (.v x)->bF K β vs (bJ cs o g):=by
 intro vs
 induction vs with
 |nil=>grind
 |cons v vs O =>
  intro cs o h A
  cases cs with
  |nil=>simp at A
  |cons c cs =>
   have⟨a1,F⟩:=h.oI
   cases o with
   |zero=>cases A;have j:=Rel.eW a1;grind[Xg.bJ]
   |succ o=>exact .cons a1 (O F zff)
theorem Wk.o9{i o j E k:Nat}{T:TypeId}{cs:am}{rows:List am}{x:Value}(hi:Γ[i]?=some (.box T cs))(A:cs[o]?=some (.v x))(W:Nat.beq i j=false)(Y:Γ[j]?=some (.vech E k rows x)):Wk m fr Γ fr (oset (oset Γ j (.vec E k rows.length rows)) i (.box T (bJ cs o (.sl k rows)))):=fun B K β w l u n O=>by
 have s:i≠j:=by grind
 have⟨S,r,z,F⟩:=n.pb Y;have⟨b,t,q,c,G,C⟩:=F.ob i (.box T cs) zfl;exact⟨S,β,F.swap ⟨b,t,q,c,bF.bJ z G A,C⟩,O.mono r (dV.refl β)⟩
def df:List am->Nat->Nat->GV->List am
 |[],_,_,_=>[]
 |r::rs,0,o,g=>bJ r o g::rs
 |r::rs,n+1,o,g=>r::df rs n o g
def Fj:∀(l:am)(o:Nat)(g:GV),(bJ l o g).length=l.length
 |[],_,_=>rfl
 |_::l,0,_=>rfl
 |_::l,o+1,g=>by simp[bJ,Fj l o g]
def zZ:∀(a b:am)(o:Nat)(g:GV),bJ (a++b) (a.length+o) g=a++bJ b o g
 |[],b,o,g=>by simp
 |x::a,b,o,g=>by
  rw[cons_append,length_cons,show a.length+1+o=(a.length+o)+1 by omega,bJ,zZ a b o g];rfl
def Dn:∀(a b:am)(o:Nat)(g:GV),o<a.length->bJ (a++b) o g=bJ a o g++b
 |[],b,o,g,h=>by simp at h
 |x::a,b,0,g,h=>rfl
 |x::a,b,o+1,g,h=>by simp[bJ,Dn a b o g zff]
theorem Fk{l:am}{o:Nat}{g x:GV}(h:x∈bJ l o g):x∈l\/x=g:=by
 induction l generalizing o with
 |nil=>cases h
 |cons y l O =>
  cases o with
  |zero=>grind[bJ,ec]
  |succ o=>grind[bJ,mem_cons_self,ec]
theorem dR:∀(rows:List am)(i o:Nat)(g:GV),(df rows i o g).length=rows.length
 |[],_,_,_=>rfl
 |r::rs,0,_,_=>rfl
 |r::rs,n+1,o,g=>by simp[df,dR rs n o g]
theorem sB{k:Nat}{o:Nat}{g:GV}(A:o<k):∀{rows:List am}{i:Nat},gE k rows->i<rows.length->(df rows i o g).flatten=bJ rows.flatten (i*k+o) g
 |[],_,_,h=>by simp at h
 |r::rs,0,N,_=>by
  have:=(N r (mem_cons_self)).1;rw[df,flatten_cons,flatten_cons,Nat.zero_mul,dJ,Dn _ _ _ _ V]
 |r::rs,n+1,N,h=>by
  have:=(N r (mem_cons_self)).1;rw[df,flatten_cons,flatten_cons,sB A (fun r v=>N r (ec _ v)) zff,show(n+1)*k+o=r.length+(n*k+o) by grind,zZ]
theorem vV{k:Nat}{o:Nat}{g:GV}(hg:g.pc=true):∀{rows:List am}{i:Nat},gE k rows->gE k (df rows i o g)
 |[],_,_=>fun r v=>by cases v
 |r::rs,0,N=>fun z v=>by
  simp only[df,List.mem_cons]at v
  rcases v with rfl|v
  ·exact⟨by rw[Fj];exact(N r mem_cons_self).1,fun x hx=>by
    rcases Fk hx with h|h
    ·exact(N r mem_cons_self).2 x h
    grind⟩
  ·exact N z (ec _ v)
 |r::rs,n+1,N=>fun z v=>by
  simp only[df,List.mem_cons]at v
  rcases v with rfl|v
  ·exact N _ mem_cons_self
  ·exact vV hg (fun r v=>N r (ec _ v)) z v
theorem Gx{a b:List am}{r:am}{o:Nat}{g:GV}:df (a++r::b) a.length o g=a++bJ r o g::b:=by
 induction a with
 |nil=>rfl
 |cons x a O=>grind[df,bJ]
theorem Wk.LS{i idx o j E k T k':Nat}{rows ks:List am}{x h:Value}{r:am}(hi:Γ[i]?=some (.vech T k rows h))(A:rows[idx]?=some r)(M:r[o]?=some (.v x))(W:Nat.beq i j=false)(Y:Γ[j]?=some (.vech E k' ks x)) :
  Wk m fr Γ fr (oset (oset Γ j (.vec E k' ks.length ks)) i (.vech T k (df rows idx o (.sl k' ks)) h)):=fun B K β w l J s O=>by
 have u:i≠j:=by intro e;simp_all
 have⟨S,t,q,F⟩:=s.pb Y;have⟨X,G,b,H,C,n⟩:=F.ob i (.vech T k rows h) zfl;have N:=(bY A).1
 have z:o<k:=by rw[<-(C r (bP A)).1];grind
 exact⟨S,β,F.swap ⟨X,by grind[dR],by grind[dR],by rw[sB z C N];grind[bF.bJ,sA],vV rfl C,n⟩,O.mono t (dV.refl β)⟩
def YG.a8{x y:Operand}{t e:TypeId}{k:Nat}[A:lX P t e k](i:Nat){v:Value}{z:IntKind}{j E:Nat}{rows:List am}(hx:bf fr x=.v v)(C:bf fr y=.v (.int z j))(o:Γ[i]?=some (.vech E k rows v))(Y:j<rows.length):YG P (.indexAddr t x y) fr Γ (.vp i rows.length k j 0):=fun B K β w l n O=>by
 have r:=O.gq hx;have⟨Z,q,b,G,F,s⟩:=n.ob i _ o
 rcases b.2 with⟨S,u⟩|⟨g,c,cur,S,_,X,_⟩
 ·omega
 ·subst S;exact⟨_,R.ju r (O.gq C) Y,.vp i _ k j 0 _ ⟨_,_,q,aY _,fun _=>⟨g,rfl,by simp⟩⟩⟩
def YG.WB{x:Operand}{s:TypeId}{f z k:Nat}{agg:Bool}[F:ed P s f z k agg]{i n k' idx o E:Nat}{rows:List am}{v:Value}(hx:bf fr x=.vp i n k' idx o)(q:Γ[i]?=some (.vech E k' rows v))(hn:rows.length=n):YG P (.fieldAddr s x f) fr Γ (.vp i n k' idx (o+z)):=fun B K β w l j O=>by
 have h:=O.ev x;rw[hx]at h;generalize A:ev l x=u at h
 cases h with
 |vp _ _ _ _ _ _ h =>
  have⟨C,m,r,c,G⟩:=h;rw[j.gr q]at r;cases r;obtain⟨b,t,rfl⟩:=G hn;exact⟨_,R.QK A,.vp i n k' idx _ _ ⟨_,_,j.gr q,c,fun _=>⟨b,t,by simp⟩⟩⟩
theorem YG.XP{x:Operand}{t:TypeId}[W:Ty P t false 1]{i n k idx o E:Nat}{rows:List am}{v:Value}{r:am}{g:GV}(hx:bf fr x=.vp i n k idx o)(e:Γ[i]?=some (.vech E k rows v))(hn:rows.length=n)(N:rows[idx]?=some r)(hg:r[o]?=some g):YG P (.load t x) fr Γ g:=fun B K β w l H G=>by
 have h:=G.ev x;rw[hx]at h;generalize Z:ev l x=u at h
 cases h with
 |vp _ _ _ _ _ _ h =>
  have⟨S,m,s,T,z⟩:=h;have⟨xs,j,A,C,F,_⟩:=H.ob i _ e;rw[s]at j;cases j;obtain⟨b,J,rfl⟩:=z hn;have⟨u,Y,q⟩:=C.at (sA F N hg);have⟨O,c,M,_,_,X⟩:=A.cells.2 zff;subst M;cases J
  grind[R.ld,fS]
def Aw{v:Value}:∀(l:List Value)(n o:Nat),o<n->(fc l o v).take n=fc (l.take n) o v
 |[],n,o,h=>by simp[fc]
 |x::l,0,o,h=>by omega
 |x::l,n+1,0,h=>by simp[fc]
 |x::l,n+1,o+1,h=>by simp[fc,Aw l n o V]
theorem q6{v:Value}:∀(l:List Value)(o:Nat),(fc l o v).length=l.length
 |[],o=>rfl
 |x::l,0=>rfl
 |x::l,o+1=>by simp[fc,q6 l o]
theorem GL.xr{x y:Operand}{t:TypeId}[hT:Ty P t false 1]{i n k idx o E:Nat}{rows:List am}{v:Value}{r:am}{g:GV}(hx:bf fr x=.vp i n k idx o)(vA:Γ[i]?=some (.vech E k rows v))(hn:rows.length=n)(hr:rows[idx]?=some r)(hol:Nat.blt o r.length=true)
  (hy:mO (bf fr y)=some [g])(h1:g.one=true)(hp:g.pc=true)(h:GL P m ops Q rest (bX fr d (.v undef)) (oset Γ i (.vech E k (df rows idx o g) v))):GL P m ops Q (⟨d,.store t x y,ty,pos,af,none⟩::rest) fr Γ:=fun B K β w l hm e W=>by
 have G:=W.ev x;rw[hx]at G;generalize hv:ev l x=u at G
 cases G with
 |vp _ _ _ _ _ _ hh =>
  have⟨h0,mm,e1,e2,e3⟩:=hh;have⟨xs,h4,h5,h6,h7,h8⟩:=e.ob i _ vA;rw[e1]at h4;cases h4;obtain⟨b,hb,rfl⟩:=e3 hn;have ps:=(bY hr).1
  have aa0:o<k:=by rw[<-(h7 r (bP hr)).1];simp_all
  have⟨us,N,O⟩:=(W.ev y).cells hy
  obtain⟨s,rfl⟩:∃s,us=[s]:=by
   have:=O.1
   match us,this with
   |[s],_=>simp
  have R:Rel K β s g:=O.2 0 s g rfl rfl
  have hq:idx*k+o<rows.length*k:=by
   have:(idx+1)*k<=rows.length*k:=s0 k ps
   grind
  rcases h5.2 with⟨e5,e6⟩|⟨T,z,cur,e5,C,hg,M,Z,sM,Fx⟩
  ·omega
  ·subst e5;simp only[Value.ownBlock,Option.some.injEq]at hb;subst hb;have abF:rows.length*k<=z*k:=s0 k M
   refine WL.st (t:=t) (k:=1) hv rfl hg zff V (by rw[N];have:=(l9 (R.one h1)).2;grind[lS]) fun w' H=>?_
   rw[N]at H
   have NF:setL cur (idx*k+o) ([s]:List Value)=(fc cur.toList (idx*k+o) s).toArray:=by
    simp only[setL];rw[<-ym]
   simp only[List.toList_toArray,NF]at H
   have abz:rows.flatten.length=rows.length*k:=by grind
   have how:iz w' 0 E k (.slice (some ⟨T,0,none⟩) rows.length z) rows.length (fc xs (idx*k+o) s) :=
    ⟨by grind[q6],.inr ⟨T,z,_,rfl,C,H.blk,M,Z,by simp[q6,sM],by simp_all[List.toList_toArray,Aw]⟩⟩
   have Xm:bF K β (fc xs (idx*k+o) s) (bJ rows.flatten (idx*k+o) g):=by
    have gen:∀(S:List Value)(A:am)(q:Nat),bF K β S A->bF K β (fc S q s) (bJ A q g):=by
     intro S
     induction S with
     |nil=>intro A q h;have:A=[]:=ll h.1.symm;subst this;exact h
     |cons v S ih =>
      intro A q h
      cases A with
      |nil=>grind
      |cons c A =>
       have⟨a1,a2⟩:=h.oI
       cases q with
       |zero=>exact .cons R a2
       |succ q=>exact .cons a1 (ih A q a2)
    grind
   have J:(β i).has T:=by rw[e1];exact rfl
   have X:Inv B K β (oset Γ i (.vech E k (df rows idx o g) (.slice (some ⟨T,0,none⟩) rows.length z))) w':=by
    refine⟨e.ext.step H.ext (fun j F=>?_),e.kle,e.ble,e.loc,e.fz.ext H.ext (fun b' o' g' xO he=>?_),fun j y F=>?_,fun j F=>e.out j zfl,e.dis,e.own,e.kn,e.tab.step H.ext (fun j F=>⟨i,by grind⟩) (dm.refl K) (fun i b2 h=>.inl ⟨i,h⟩)⟩
    ·subst F;exact(e.own i _ J).symm
    ·grind
    ·rw[bI,eY]at F;split at F
     ·grind[dR,sB,vV,hO]
     ·rename_i hij;refine(e.ob j y F).ext H.ext (fun b' Y he=>?_) (dm.refl K) (dV.refl β) rfl (fun _ _ _ h=>h);subst he;exact hij (e.dis i j _ J Y)
   exact h B K β w' _ hm X (W.put d (.v _))
theorem GL.kx{x:Operand}{ts:Tmp}{t e k C:Nat}{z:List Value}[hT:nu P t e k C][hZ:od P t e k z]{q R:Tmp}{PE:TypeId}{M:String}{O:Array Edge}(i:Nat){n:Nat}{rows:List am}{gs:am}{v:Value}
  (hx:mO (bf fr x)=some gs)(hk:Nat.beq gs.length k=true)(h1:n7 gs=true)(hp:mZ gs=true)(hs:bD fr ts=.v v)(hsd:Nat.beq ts q=false)(hd:il fr q=true)(s:Γ[i]?=some (.vech e k rows v))(hn:rows.length=n)
  (S:(n+1<=9223372036854775807/\(n+1)*C<=140737488355328)/\k<=16777216)
  (h:∀a c,GL P m ops Q rest (bX (bX fr (some q) U) (some R) (.v (.slice a (n+1) c))) (oset Γ i (.vech e k (rows++[gs]) (.slice a (n+1) c)))) :
  GL P m ops Q (⟨some q,.buildSlice t 1 #[(0,x)],PE,M,O,none⟩::⟨some R,.call ⟨.builtin .append,#[.tmp ts,.tmp q],#[t,t]⟩,ty,pos,af,none⟩::rest) fr Γ:=fun B K β w l hm hI N=>by
 subst hn;have⟨us,Y,Z⟩:=(N.ev x).cells hx;have⟨xs,o1,o2,o3,o4,o5⟩:=hI.ob i _ s;have X:nth l ts=v:=Rel.eW (by rw[<-hs];exact N.nth ts);have T:=nP N hd
 have G:ts≠q:=by intro e;simp_all
 have S8:gs.length=k:=by simp_all
 refine WL.push (base:=0) (v:=v) (vs:=us) (val:=ev l x) (xs:=xs) (n:=rows.length) rfl (fun u=>by rw[show ev (put l (some q) u) (.tmp ts)=nth (fc l q u) ts from rfl,o7 G];exact X) (fun u=>vL T u) Y V (Z.lS h1) o2 S.1.1 S.1.2 S.2 (bp _) ?_;intro u v' w' H F W Fs;obtain⟨K',hK,J,E⟩:=(hI.yk s).grow (fz:=0) (nI s) o1 ⟨o2,o3⟩ (news:=[gs]) (ns:=us) H F W zff (fun r hr=>by grind[lz]) zfg (fun b Nz o v ho hv=>by omega);rw[<-bI,ma]at E;have⟨a,c,j,A⟩:=E.wH (nI s);rw[ma]at A;obtain⟨a',c',rfl⟩:=H.shape;rw[b7]at j;simp only[br,length_cons,length_nil]at j A J;cases j;exact h _ _ B K' _ w' _ hm A (((N.mono hK J).put (some q) (.U u)).put (some R) (.v _))
theorem GL.ml{s x:Operand}{t e k O:Nat}[hT:nu P t e k O](i:Nat){n:Nat}{dt:Tmp}{v:Value}{rows news:List am}(hx:bf fr x=.sl k news)(hs:bf fr s=.v v)(A:Γ[i]?=some (.vech e k rows v))(hn:rows.length=n)(h1:lg news=true)(T:news.isEmpty=false)
  (hb:n+news.length<=9223372036854775807/\(n+news.length)*O<=140737488355328)
  (h:∀a c,GL P m ops Q rest (bX fr (some dt) (.v (.slice a (n+news.length) c))) (oset Γ i (.vech e k (rows++news) (.slice a (n+news.length) c)))) :
  GL P m ops Q (⟨some dt,.call ⟨.builtin .append,#[s,x],#[t,t]⟩,ty,pos,af,none⟩::rest) fr Γ:=fun B K β w l hm Z hF=>by
 subst hn
 have T:news≠[]:=by grind
 have⟨xs,o1,o2,o3,o4,o5⟩:=Z.ob i _ A;have Ti:ev l s=v:=hF.gq hs;have N:=hF.ev x;rw[hx]at N;generalize NV:ev l x=vx at N
 cases N with
 |sl0 a c k=>grind
 |sl b o c _ _ hr _ =>
  have J:gE k news:=fun r NQ=>by
   have⟨j,C⟩:=List.mem_iff_getElem?.1 NQ;refine⟨(hr j r C).1,fun g G=>?_⟩;have⟨q,hq⟩:=List.mem_iff_getElem?.1 G;exact(Z.fz _ _ _ ((hr j r C).2 q g hq)).1
  have F:∀(rows:List am)(o:Nat),(∀(j:Nat)r,rows[j]?=some r->r.length=k/\∀(q:Nat)g,r[q]?=some g->K b (o+j*k+q)=some g)->∀(q:Nat)g,rows.flatten[q]?=some g->K b (o+q)=some g:=by
   intro rows
   induction rows with
   |nil=>simp
   |cons r rows ih =>
    intro o h q g G;rw[flatten_cons]at G;have hl:=(h 0 r rfl).1
    by_cases hq:q<r.length
    ·rw[j1 hq]at G;have:=(h 0 r rfl).2 q g G
     grind
    ·rw[j0 V,hl]at G
     have:=ih (o+k) (fun j r' C=>by
      have:=h (j+1) r' zff
      grind) (q-k) g G
     grind
  obtain⟨us,M,Xy⟩:=wx (K:=K) (β:=β) (H:=w.heap) (b:=b) news.flatten o (fun j g C=>by
   obtain⟨hp,u,hu,X⟩:=Z.fz _ _ _ (F news o (fun j r C=>hr j r C) j g C)
   exact⟨u,hu,X.pc hp⟩)
  have Tj:us.length=news.length*k:=by
   rw[M.1,List.length_flatten]
   have:∀(rows:List am),gE k rows->(rows.map List.length).sum=rows.length*k:=by
    intro rows
    induction rows with
    |nil=>simp
    |cons r rows ih =>
     grind[gE]
   grind
  refine WL.app (base:=0) (v:=v) (n:=rows.length) (m:=news.length) (xs:=xs) (news:=us) Ti o2 NV Tj (fun j u C=>by grind[fS]) (M.lS (Bl h1)) hb.1 hb.2 (bp _) ?_;intro v' w' W S Jd Fs;obtain⟨K',hK,Y,R⟩:=(Z.yk A).grow (fz:=0) (nI A) o1 ⟨o2,o3⟩ (news:=news) (ns:=us) W S Jd M J T (fun b Nz o v ho hv=>by omega);rw[<-bI,ma]at R;have⟨a,c,z,E⟩:=R.wH (nI A);rw[ma]at E;obtain⟨a',c',rfl⟩:=W.shape;rw[b7]at z;simp only[br]at z E Y;cases z;exact h _ _ B K' _ w' _ hm E ((hF.mono hK Y).put (some dt) (.v _))
end
def Dl(a:am):∀(gs b:am)(o:Nat),pS (a++b) (a.length+o) gs=a++pS b o gs
 |[],b,o=>rfl
 |g::gs,b,o=>by rw[pS,pS,zZ,mg,Dl a gs]
def AU:∀(gs a b:am),a.length=gs.length->pS (a++b) 0 gs=gs++b
 |[],[],b,_=>rfl
 |[],x::a,b,h=>by simp at h
 |g::gs,[],b,h=>by simp at h
 |g::gs,x::a,b,h=>by
  rw[pS,cons_append,bJ];have:=Dl [g] gs (a++b) 0;simp only[length_cons,length_nil,cons_append,List.nil_append,dJ,Nat.add_zero]at this |-;rw[this,AU gs a b zff]
section
variable{P:Program}{m:Nat}{ops:Array Oper}{Q:dN}{rest:List Oper}{fr:am}{Γ:ap}{d:Option Tmp}{ty:TypeId}{pos:String}{af:Array Edge}
theorem Kt(n:Nat)(z:List Value):(List.replicate n (gZ z)).flatten=zs n z:=by
 induction n with
 |zero=>rfl
 |succ n O=>grind[gZ,zs]
theorem GL.mkN{x:Operand}{t e k u:Nat}{z:List Value}[hT:nu P t e k u][E:od P t e k z]{J:Tmp}{n:Nat}(hx:bf fr x=y4 (n:Nat))(hb:n<=1099511627776/\u*n<=281474976710656)
  (h:∀a c,GL P m ops Q rest (bX fr (some J) (.v (.slice a n c))) (Γ++[.vech e k (List.replicate n (gZ z)) (.slice a n c)])) :
  GL P m ops Q (⟨some J,.makeSlice t x x,ty,pos,af,none⟩::rest) fr Γ:=fun B K β w l hm Z Y=>by
 have⟨hu,⟨i,W,hi,hz,NW,S,S6⟩,hk⟩:=hT.parts;have T:ev l x=ii (n:Nat):=Y.gq hx;obtain⟨w',hr,X,A⟩:=run_make_full (P:=P) (w:=w) 0 t e i W k hu hi hz S .i64 .i64 n zff zfr (bp _)
 have XB:W.cells.toList=z:=by
  have H:=E.zero;rw[hi]at H;simp only[Option.bind_some,hz,Option.some.injEq]at H;have hl:=E.zl
  by_cases M:k=1
  ·rw[ak M]at H;rw[H,E.one M];subst M
   match z,hl with
   |[a],_=>rfl
  grind[Value.cells]
 have o:(madeCells W.cells (n*k)).toList=(List.range (n*k)).map fun j=>z.getD (j%k) undef:=by
  unfold madeCells;rw[Array.toList_map,Array.toList_range]
  exact zey
 rw[o]at X;have s:=BN (K:=K) (β:=β) (n:=n) E.zl E.pos;rw[<-Kt]at s
 have O:gE k (List.replicate n (gZ z)):=fun r hr=>by
  grind[gZ,GV.pc]
 have F:Ext gS w w':=⟨A.os,A.tape,A.output,A.size,fun j hj _=>A.block j hj zfg⟩;have N:=Z.BV (x:=.slice (some ⟨w.heap.size,0,none⟩) n n) (rows:=List.replicate n (gZ z)) F (by rw[List.length_replicate];exact X) (fun b hb=>by cases hb;simp) s O
 have G:(Γ++[Ob.vec e k 0 (List.replicate n (gZ z))])[Γ.length]?=some (Ob.vec e k 0 (List.replicate n (gZ z))):=by simp
 have⟨a,c,q,C⟩:=N.wH G;rw[b7]at q
 injection q with Jb xM
 injection Jb with NA hb4 hb5
 subst NA hb5
 have R:oset (Γ++[.vec e k 0 (List.replicate n (gZ z))]) Γ.length (.vech e k (List.replicate n (gZ z)) (.slice (some ⟨w.heap.size,0,none⟩) (List.replicate n (gZ z)).length n))=Γ++[.vech e k (List.replicate n (gZ z)) (.slice (some ⟨w.heap.size,0,none⟩) (List.replicate n (gZ z)).length n)]:=by
  rw[bI];simp
 rw[R,List.length_replicate]at C;exact zba
end
def Ob.mP:Ob->Bool
 |.vech _ _ _ _=>true
 |_=>false
def ga(β:Bt)(bc:List Nat):Bt:=fun j=>match bc[j]? with
 |some i=>β i
 |none=>.no
section
variable{B:Bs}{K:Fz}{β:Bt}{Γ:ap}{w:World}
def bF.mZ{K:Fz}{β gi:Bt}{vs:List Value}{gs:am}(h:bF K β vs gs)(W:∀g∈gs,g.pc=true):bF K gi vs gs:=⟨h.1,fun i v g o b=>(h.2 i v g o b).pc (W g (bP b))⟩
def gE.flat{k:Nat}{rows:List am}(h:gE k rows):∀g∈rows.flatten,g.pc=true:=fun g X=>by
 have⟨r,o,b⟩:=List.mem_flatten.1 X;exact(h r o).2 g b
theorem Inv.pick(h:Inv B K β Γ w)(O:B.m=0){bc:List Nat}{s:ap}(M:s.length=bc.length)(hn:bc.Nodup)
  (hx:∀(j:Nat)x,s[j]?=some x->x.mP=true/\∀i,bc[j]?=some i->Γ[i]?=some x):Inv B K (ga β bc) s w:=by
 have n:∀i b,(ga β bc i).has b->∃q,bc[i]?=some q/\(β q).has b:=fun i b l=>by
  grind[ga,Bk.has]
 refine⟨h.ext,h.kle,fun i=>by rw[h.loc i V];trivial,h.loc,h.fz,fun i x l=>?_,fun i l=>?_,fun i j b l Y=>?_,fun i b l=>?_,h.kn,h.tab.step (S:=gS) (Ext.refl w) (fun _ h=>h.elim) (dm.refl K) (fun i z c=>?_)⟩
 ·have⟨o,c⟩:=hx i x l;have N:=(bY l).1;have G:bc[i]?=some (bc[i]'V):=cK _
  cases x with
  |vech E k H v =>
   have⟨X,A,T,t,F,u⟩:=h.ob _ _ (c _ G);refine⟨X,?_,T,t.mZ F.flat,F,u⟩
   grind[ga]
  |_=>cases o
 ·grind[ga]
 ·have⟨q,o,c⟩:=n i b l;have⟨r,J,C⟩:=n j b Y;have:=h.dis q r b c C
  grind[List.getElem?_eq_some_iff,List.getElem_inj]
 ·have⟨q,o,c⟩:=n i b l;exact h.own q b c
 grind
def Inv.view{i E k:Nat}{rows:List am}{x:Value}(h:Inv B K β Γ w)(hi:Γ[i]?=some (.vech E k rows x)):∃O,dm K O/\oa O w/\mJ O (fun _=>.no) w/\Rel O (fun _=>.no) x (.sl k rows):=by
 have⟨S,j,v,F⟩:=h.pb hi;exact⟨S,j,F.fz,⟨F.tab.le,F.tab.pow,F.tab.spc,fun i b h=>by cases h⟩,v.pc rfl⟩
def Inv.new(h:oa K w)(M:mJ K (fun _=>.no) w):Inv ⟨w,gS,K,fun _=>.no,0⟩ K (fun _=>.no) [] w :=
 ⟨Ext.refl w,dm.refl _,dV.refl _,fun _ _=>rfl,h,fun i x h=>by simp at h,fun _ _=>rfl,fun i j b h=>zfn,fun i b h=>zfn,fun b o g h=>.inl h,M⟩
theorem Inv.LS{i idx o j E k T k':Nat}{rows ks:List am}{x h:Value}{r:am}(n:Inv B K β Γ w)(hi:Γ[i]?=some (.vech T k rows h))(A:rows[idx]?=some r)(H:r[o]?=some (.v x))(t:i≠j)(Y:Γ[j]?=some (.vech E k' ks x)) :
  ∃S,dm K S/\Inv B S β (oset (oset Γ j (.vec E k' ks.length ks)) i (.vech T k (df rows idx o (.sl k' ks)) h)) w:=by
 have⟨S,s,q,F⟩:=n.pb Y;have⟨X,u,b,G,C,l⟩:=F.ob i (.vech T k rows h) zfl;have N:=(bY A).1
 have z:o<k:=by rw[<-(C r (bP A)).1];grind
 exact⟨S,s,F.swap ⟨X,by grind[dR],by grind[dR],by rw[sB z C N];grind[bF.bJ,sA],vV rfl C,l⟩⟩
theorem yW{rows:List am}{i o:Nat}{g:GV}{r:am}(v:rows[i]?=some r):∀q,(df rows i o g)[q]?=if q=i then some (bJ r o g)else rows[q]?:=by
 induction rows generalizing i with
 |nil=>simp at v
 |cons x rs O =>
  intro q
  cases i with
  |zero =>
   grind[df,bJ]
  |succ i =>
   grind[df,bJ]
theorem Inv.Am{T k o E k' jf N:Nat}{h:Value}{raw fin:Nat->am}{ks:Nat->List am}{hd:Nat->Value}{jp:Nat->Nat}(hI:Inv B K β Γ w){b:List am}(Z:Γ[jf]?=some (.vech T k b h))(h0:b.length=N/\∀i,i<N->b[i]?=some (raw i))
  (j:∀i,i<N->(raw i)[o]?=some (.v (hd i))/\bJ (raw i) o (.sl k' (ks i))=fin i)(F:∀i,i<N->Γ[jp i]?=some (.vech E k' (ks i) (hd i)))(s:∀i,i<N->jp i≠jf)(C:∀i t,i<N->t<N->jp i=jp t->i=t) :
  ∃c bM rows,dm K c/\Inv B c β bM w/\bM[jf]?=some (.vech T k rows h)/\rows.length=N/\(∀i,i<N->rows[i]?=some (fin i))/\∀q,q≠jf->(∀i,i<N->q≠jp i)->bM[q]?=Γ[q]?:=by
 have u:∀n,n<=N->∃c bM rows,dm K c/\Inv B c β bM w/\bM[jf]?=some (.vech T k rows h)/\rows.length=N/\(∀i,i<n->rows[i]?=some (fin i))/\(∀i,n<=i->i<N->rows[i]?=some (raw i))/\(∀i,n<=i->i<N->bM[jp i]?=some (.vech E k' (ks i) (hd i)))/\∀q,q≠jf->(∀i,i<N->q≠jp i)->bM[q]?=Γ[q]?:=by
  intro n
  induction n with
  |zero=>grind[dm]
  |succ n ih =>
   intro hn;have⟨c,bM,rows,a1,z,l,H,J,M,O,S⟩:=ih V;have hr:=M n (aY _) V;have⟨Y,c2⟩:=j n V;obtain⟨G,W,X⟩:=z.LS l hr Y (fun e=>s n V e.symm) (O n (aY _) V);have ps:=(bY l).1;refine⟨G,_,df rows n o (.sl k' (ks n)),a1.trans W,X,?_,by grind[dR],fun i A=>?_,fun i A r=>?_,fun i A r=>?_,fun q hq hqj=>?_⟩
   ·grind[bI]
   ·grind[yW]
   ·grind[yW]
   ·grind[bI]
   grind[bI]
 have⟨c,bM,rows,a1,z,l,H,J,_,_,S⟩:=u N (aY _)
 grind
end
section
variable{P:Program}{fn:Func}{R:GV->ap->Prop}{fr:am}{Γ:ap}{e:Exit}
def SO{t:Tmp}{x:Value}(bc:List Nat)(k:ap)(z:fn.results=#[.tmp t])(o:e=.normal\/e=.ret)(hg:bD fr t=.v x)(M:k.length=bc.length)(hn:bc.Nodup)
  (hx:∀(j:Nat)x,k[j]?=some x->x.mP=true/\∀i,bc[j]?=some i->Γ[i]?=some x)(h:R (.v x) k):qv P fn 0 R e fr Γ :=
 ⟨o,fun B K β w l N n O=>⟨nth l t,K,ga β bc,.v x,k,by rw[results_tmp z,iJ],n.pick N M hn hx,by have:=O.nth t;rw[hg]at this;rw[Rel.eW this];exact .v _,h⟩⟩
theorem Zt{t:Tmp}{T:TypeId}{k:Nat}[Z:Ty P T true k]{i:Nat}{E:TypeId}{cs:am}(bc:List Nat)(n:ap)(O:fn.results=#[.cell t T])(H:e=.normal\/e=.ret)(hg:bD fr t=.loc i 0)(s:Γ[i]?=some (.box E cs))(hk:cs.length=k)(M:mZ cs=true)
  (J:n.length=bc.length)(hn:bc.Nodup)(hx:∀(j:Nat)x,n[j]?=some x->x.mP=true/\∀i,bc[j]?=some i->Γ[i]?=some x)(h:R (.agg cs) n):qv P fn 0 R e fr Γ :=
 ⟨H,fun B K β w l C z F=>by
  have⟨b,vs,W,X,A,Y⟩:=z.ob i _ s
  have r:nth l t=.pointer (some ⟨b,0,none⟩):=by
   have:=F.nth t;rw[hg]at this;generalize nth l t=v at this
   cases this with
   |loc _ _ S G=>grind
  have N:l.toArray.getD t undef=.pointer (some ⟨b,0,none⟩):=by rw[iJ,r]
  have q:=km (P:=P) (w:=w) (t:=T) (b:=b) (o:=0) (vs:=vs) (k:=k) V (fun j v hj=>by
   grind[World.cell?])
  have c:l[t]?.getD undef=.pointer (some ⟨b,0,none⟩):=by simp_all
  have u:bF K (ga β bc) vs cs:=A.mZ (lz M)
  exact⟨.agg vs.toArray,K,ga β bc,.agg cs,n,by simp[results,O,c,asAddr,q],z.pick C J hn hx,.agg vs cs u.1 u.2,h⟩⟩
end
section
variable{P:Program}{fn:Func}{R:GV->ap->Prop}{fr:am}{Γ:ap}{e:Exit}
theorem MT{Γ:ap}{n:Nat}(h:∀x∈Γ.drop n,x.mP=true):(Γ.drop n).length=((List.range (Γ.length-n)).map (·+n)).length/\((List.range (Γ.length-n)).map (·+n)).Nodup /\
  ∀(j:Nat)x,(Γ.drop n)[j]?=some x->x.mP=true/\∀i,((List.range (Γ.length-n)).map (·+n))[j]?=some i->Γ[i]?=some x:=by
 refine⟨by simp,?_,fun j x Y=>⟨h x (bP Y),fun i o=>?_⟩⟩
 ·unfold List.Nodup;rw[List.pairwise_map]
  exact List.nodup_range.imp fun k l=>k V
 grind
def Zs{t:Tmp}{x:Value}(n:Nat)(z:fn.results=#[.tmp t])(i:e=.normal\/e=.ret)(hg:bD fr t=.v x)(ha:∀x∈Γ.drop n,x.mP=true)(h:R (.v x) (Γ.drop n)):qv P fn 0 R e fr Γ :=
 have T:=MT ha
 SO _ (Γ.drop n) z i hg T.1 T.2.1 T.2.2 h
end
section
variable{P:Program}{m:Nat}{Q:dN}{fr:am}{Γ:ap}{ops:Array Oper}{rest:List Oper}{d:Option Tmp}{op:Op}{ty:TypeId}{pos:String}{af:Array Edge}
theorem GL.k0{t:TypeId}{x:Operand}{cs:am}(hx:mO (bf fr x)=some cs)(W:mZ cs=true)(h:GL P m ops Q rest (bX fr d (.box cs 0)) Γ):GL P m ops Q (⟨d,.box t x,ty,pos,af,none⟩::rest) fr Γ:=fun B K β w l n k O=>by
 have⟨q,o,i⟩:=(O.ev x).cells hx
 refine WL.box rfl fun b Z c=>?_
 rw[o]at c;have⟨N,F⟩:=k.uz c i (lz W);exact h B _ β Z _ n F ((O.mono N (dV.refl β)).put d (Rel.box (K:=kb K b cs) (β:=β) b 0 0 cs (fun j g X=>by grind[kb])))
def GL.borrow{f:FuncId}[hf:fX P f]{args:List Operand}{T:Array TypeId}{gs:am}{v:Value}(W:GF P f gs [] (.v v) [])
  (k:∀B K β w l,Inv B K β Γ w->FR K β fr l->∃O,oa O w/\mJ O (fun _=>.no) w/\bF O (fun _=>.no) (args.map (ev l)) gs)
  (h:GL P m ops Q rest (bX fr d (.v v)) Γ):GL P m ops Q (⟨d,.call ⟨.value (.func f),args.toArray,T⟩,ty,pos,af,none⟩::rest) fr Γ:=fun B K β w l j i S=>by
 have⟨O,o,b,G⟩:=k B K β w l i S
 have z:(execOp (ev l) ⟨d,.call ⟨.value (.func f),args.toArray,T⟩,ty,pos,af,none⟩).run P w=.ok (.enter f (args.map (ev l)).toArray) w:=by simp[execOp,resolve,ev,Deferred.ofValue,invoke,oF]
 refine WL.calls z (W _ O _ w _ rfl (Inv.new o b) G) ?_;rintro x Z⟨X,u,g,A,F,q,rfl,rfl⟩;exact h B K β Z _ j (i.same F.ext) (S.put d (by rw[Rel.eW q];exact .v _))
def uc{P:Program}{w:World}{t e ty:TypeId}{i:TypeInfo}(M:P.underlying t=some (.slice e))(hi:P.info? e=some i)(a b:Option Addr)(n c d:Nat)(W:n<=c) :
  (Builtin.append_ #[t,t] ty #[.slice a n c,.slice b 0 d]).run P w=.ok (.slice a n c) w:=by
 cases a<;>cases b<;>simp[Builtin.append_,run_underlying M,sizeOf,typeInfo,hi,Builtin.lenOf,W,Builtin.firstCells,loadCells,loadCellsFrom,storeCells]
theorem GL.Y9{s x:Operand}{t e k u:Nat}[S:nu P t e k u](i:Nat){H:Tmp}{v:Value}{rows:List am}(hx:bf fr x=.sl k [])(Y:bf fr s=.v v)(G:Γ[i]?=some (.vech e k rows v))
  (h:GL P m ops Q rest (bX fr (some H) (.v v)) Γ):GL P m ops Q (⟨some H,.call ⟨.builtin .append,#[s,x],#[t,t]⟩,ty,pos,af,none⟩::rest) fr Γ:=fun B K β w l X J C=>by
 have⟨Z,⟨j,z,W,_⟩,_⟩:=S.parts;have⟨xs,o1,o2,_⟩:=J.ob i _ G;have E:ev l s=v:=C.gq Y;have q:=C.ev x;rw[hx]at q;generalize F:ev l x=vx at q
 obtain⟨b,A,rfl⟩:∃b A,vx=.slice b 0 A:=by
  cases q with
  |sl0 a c k=>simp
  |sl b o c _ _ hr _=>simp
 obtain⟨a,n,c,rfl,T⟩:∃a n c,v=.slice a n c/\n<=c:=by
  rcases o2.2 with⟨N,O⟩|⟨g,M,cur,N,_,_,O,_⟩
  ·grind
  grind
 have r:=uc (P:=P) (w:=w) (ty:=ty) Z W a b n c A T;exact WL.val (v:=.slice a n c) (w':=w) (by simp[execOp,resolve,invoke,builtin,E,F,r]) (h B K β w _ X J (C.put _ (.v _)))
theorem GL.Zc{s x:Operand}{t e k A:Nat}[W:nu P t e k A]{i n fz:Nat}{J:Tmp}{rows:List am}(hx:bf fr x=.sl k [])(hs:bf fr s=.vec i n)(H:Γ[i]?=some (.vec e k fz rows))(hn:rows.length=n)
  (h:GL P m ops Q rest (bX fr (some J) (.vec i n)) Γ):GL P m ops Q (⟨some J,.call ⟨.builtin .append,#[s,x],#[t,t]⟩,ty,pos,af,none⟩::rest) fr Γ:=fun B K β w l Z N E=>by
 subst hn;have⟨hu,⟨j,z,Y,_⟩,_⟩:=W.parts;have⟨M,xs,o1,o2,_⟩:=N.ob i _ H;have q:=E.ev s;rw[hs]at q
 have F:ev l s=M:=by
  generalize hv:ev l s=v at q
  cases q with
  |vec _ _ a c hh =>
   grind
 have r:=E.ev x;rw[hx]at r;generalize G:ev l x=vx at r
 obtain⟨b,C,rfl⟩:∃b C,vx=.slice b 0 C:=by
  cases r with
  |sl0 a c k=>simp
  |sl b o c _ _ hr _=>simp
 obtain⟨a,n,c,rfl,X⟩:∃a n c,M=.slice a n c/\n<=c:=by
  rcases o2.2 with⟨S,T⟩|⟨g,O,cur,S,_,_,T,_⟩
  ·grind
  grind
 have u:=uc (P:=P) (w:=w) (ty:=ty) hu Y a b n c C X;exact WL.val (v:=.slice a n c) (w':=w) (by simp[execOp,resolve,invoke,builtin,F,G,u]) (h B K β w _ Z N (E.put _ zff))
theorem uL{Γ:ap}{i:Nat}{x:Ob}(h:Γ[i]?=some x):oset Γ i x=Γ:=by
 rw[bI];apply List.ext_getElem?
 grind
theorem GL.oQ{s x:Operand}{t e k l:Nat}[A:nu P t e k l](i:Nat){n:Nat}{O:Tmp}{X:Option Addr}{j:Nat}{rows news:List am}(hx:bf fr x=.sl k news)(G:bf fr s=.v (.slice X n j))(o:Γ[i]?=some (.vech e k rows (.slice X n j)))(hn:rows.length=n)(q:lg news=true)
  (u:n+news.length<=9223372036854775807/\(n+news.length)*l<=140737488355328)
  (h:∀a c,GL P m ops Q rest (bX fr (some O) (.v (.slice a (n+news.length) c))) (oset Γ i (.vech e k (rows++news) (.slice a (n+news.length) c)))) :
  GL P m ops Q (⟨some O,.call ⟨.builtin .append,#[s,x],#[t,t]⟩,ty,pos,af,none⟩::rest) fr Γ:=by
 cases news with
 |nil =>
  have z:=h X j
  grind[uL,GL.Y9]
 |cons r rs=>exact GL.ml i hx G o hn q rfl u h
def GL.yx{s x:Operand}{t e k l:Nat}[u:nu P t e k l]{i n fz:Nat}{O:Tmp}{rows news:List am}(hx:bf fr x=.sl k news)(G:bf fr s=.vec i n)(o:Γ[i]?=some (.vec e k fz rows))(hn:rows.length=n)(q:lg news=true)
  (j:n+news.length<=9223372036854775807/\(n+news.length)*l<=140737488355328)
  (h:GL P m ops Q rest (bX fr (some O) (.vec i (n+news.length))) (oset Γ i (.vec e k fz (rows++news)))) :
  GL P m ops Q (⟨some O,.call ⟨.builtin .append,#[s,x],#[t,t]⟩,ty,pos,af,none⟩::rest) fr Γ:=by
 cases news with
 |nil =>
  rw[eT,show n+([]:List am).length=n from rfl,uL o]at h;exact GL.Zc hx G o hn h
 |cons r rs=>exact GL.app hx G o hn q rfl j h
theorem Ph:∀(us vs:List Value),vs.length=us.length->nd vs 0 us=us:=by
 have S:∀(us a vs:List Value),vs.length=us.length->nd (a++vs) a.length us=a++us:=by
  intro us
  induction us with
  |nil=>simp[nd]
  |cons u us O =>
   intro a vs h
   cases vs with
   |nil=>simp at h
   |cons v vs =>
    have M:fc (a++v::vs) a.length u=(a++[u])++vs:=by
     clear O h
     induction a with
     |nil=>rfl
     |cons x a O=>grind[fc]
    grind[nd]
 intro us vs h;exact S us [] vs h
theorem GL.Ae{t:TypeId}{z:Value}{agg:Bool}{k:Nat}[hZ:qm P t z][hT:Ty P t agg k]{c ts:Tmp}{cs:am}{S:TypeId}{u:String}{E:Array Edge}{F:Option Tmp}(hzk:z.cells.size=k)(hy:mO (bD fr ts)=some cs)(NN:Nat.beq ts c=false)(J:il fr c=true)(hk:cs.length=k)(W:n7 cs=true)(hp:mZ cs=true)
  (h:GL P m ops Q rest (bX (bX fr (some c) (.box cs 0)) F (.v undef)) Γ):GL P m ops Q (⟨some c,.alloc t,ty,pos,af,none⟩::⟨F,.store t (.tmp c) (.tmp ts),S,u,E,none⟩::rest) fr Γ:=fun B K β w l Z X G=>by
 refine WL.alloc (z:=z) fun b w1 i=>?_
 have⟨A,r,s⟩:=(G.nth ts).cells hy
 have n:ts≠c:=by intro e;simp_all
 have O:ev (put l (some c) (.pointer (some ⟨b,0,none⟩))) (.tmp ts)=nth l ts:=o7 n _;have N:ev (put l (some c) (.pointer (some ⟨b,0,none⟩))) (.tmp c)=.pointer (some ⟨b,0,none⟩):=vL (nP G J) _
 have Tj:A.length=k:=by omega
 refine WL.st (t:=t) (k:=k) N O i.blk zff V (by rw[r];simpa using s.lS W) fun T C=>?_
 have q:setL z.cells 0 A=A.toArray:=by
  have:=yd A z.cells.toList 0
  simp_all[Ph,Array.length_toList]
 rw[r,List.toList_toArray,q]at C;have o:va w T b (.cells A.toArray t):=⟨i.fresh,by rw[C.size];exact i.size,C.blk,i.ext.step C.ext fun j Y=>.inl (by subst Y;rw[i.fresh];simp)⟩;have⟨M,H⟩:=X.uz o s (lz hp);exact h B _ β T _ Z H (((G.mono M (dV.refl β)).put (some c) (Rel.box (K:=kb K b cs) (β:=β) b 0 0 cs (fun j g hg=>by grind[kb]))).put F (.v _))
end
end Go.Xg
set_option maxHeartbeats 2000000
namespace Go.Xg
open Go.RowKit Go.Xw Go.Proofs
open Go.Xp (Nd)
open Go.Sp (Src)
attribute [local irreducible] GW GL GO YG GC GA bo bq
def bs(l:List ab):List am:=l.map fun s=>[GV.v (sv s)]
def fZ(l:List Int):List am:=l.map fun i=>[GV.v (ii i)]
def Hd(n:Nat)(h:Value):Prop:=∃a c,h=.slice a n c
def kD(x:Go.Sp.Fn)(h:Value):am:=[.v (sv x.name),.v h,y4 x.body]
def nK(x:Go.Sp.Fn)(h:Value):Ob:=.vech 9 1 (bs x.params) h
def bV(x:Nd)(h:Value):am:=[y4 x.ai,y4 x.at_,y4 x.n,.v (sv x.s),.v h]
def cB(x:Nd)(h:Value):Ob:=.vech 3 1 (fZ x.aw) h
def qV(p:Src)(hg ha hf hn:Value)(v ns:List Value):ap :=
 .vech 9 1 (bs p.aq) hg::.vech 79 2 (p.aj.map aW) ha::.vech 53 3 (List.zipWith kD p.av v) hf::(List.zipWith nK p.av v++.vech 82 5 (List.zipWith bV p.ah ns) hn::List.zipWith cB p.ah ns)
structure Qi(p:Src)(hg ha hf hn:Value)(fs ns:List Value):Prop where
 g:Hd p.aq.length hg
 a:Hd p.aj.length ha
 f:Hd p.av.length hf
 n:Hd p.ah.length hn
 fl:fs.length=p.av.length
 nl:ns.length=p.ah.length
 fh:∀(i:Nat)x y,p.av[i]?=some x->fs[i]?=some y->Hd x.params.length y
 nh:∀(i:Nat)x y,p.ah[i]?=some x->ns[i]?=some y->Hd x.aw.length y
def jC{R:Type}{f:R->Value->Ob}(hf:∀a h,(f a h).mP=true){l:List R}{G:List Value}:∀x∈List.zipWith f l G,x.mP=true:=fun x hx=>by
 have⟨i,j⟩:=List.getElem?_of_mem hx;rw[List.getElem?_zipWith]at j;split at j
 ·cases j;exact hf _ _
 ·cases j
def R3(p:Src)(hg ha hf hn:Value)(v ns:List Value):∀x∈qV p hg ha hf hn v ns,x.mP=true:=fun x hx=>by
 unfold qV at hx
 rcases iY hx with rfl|hx
 ·rfl
 rcases iY hx with rfl|hx
 ·rfl
 rcases iY hx with rfl|hx
 ·rfl
 rcases oO hx with hx|hx
 ·exact zcN
 rcases iY hx with rfl|hx
 ·rfl
 ·exact zcN
end Go.Xg
set_option maxHeartbeats 1000000
namespace Go.Xg
open Go.RowKit Go.Xw Go.Proofs Tryz Go.Sp
open GV (U)
attribute [local irreducible] GW GL GO YG GC GA bo bq
def tD{R:Type}{l:List R}{q:R->Bool}{k:Nat}{x:R}(hx:l[k]?=some x)(hf:(l.take k).all q=true)(i:q x=true):(l.take (k+1)).all q=true:=by
 rw[dd,hx,all_append,hf];simp[i]
def idxOf(xs:List ab)(s:ab):Int:=match xs.findIdx? (fun x=>s==x)with|some i=>(i:Int)|none => -1
section
variable(xs:List ab)(s:ab)
def gO(M:xs.length<=1099511627776):GF prog 109 [strs xs,.v (sv s)] [] (y4 (idxOf xs s)) []:=by
 refine au func109 ntmps109 ?_;refine GW.range (xs.map fun s=>[GV.v (sv s)]).length (fun k J u=>J=[strs xs,.v (sv s),U,U,U,U,strs xs,y4 ((xs.map fun s=>[GV.v (sv s)]).length:Int),y4 (k:Nat),U,U,U,U,U,U,U,U,U,U]/\u=[]/\((xs.take k).all fun x=>!(s==x))=true) ?_ zfy ?_ ?_ ?_
 ·exact lk
 ·exact jA
 ·rintro k _ _ N⟨rfl,rfl,W⟩
  have N:k<xs.length:=by simpa using N
  have hx:xs[k]?=some xs[k]:=by simp[N]
  have w:(xs.map fun s=>[GV.v (sv s)])[k]?=some [.v (sv xs[k])]:=by simp[N]
  cases m:(s==xs[k])with
  |true =>
   have i:xs.findIdx? (fun x=>s==x)=some k:=by
    rw[List.findIdx?_eq_some_iff_getElem];refine⟨N,m,fun j Y=>?_⟩;rw[ea]at W;have:=W xs[j] zfo;exact zdk
   unfold idxOf;rw[i];generalize xs[k]=x at *;exact aK
  |false =>
   have l:=tD (q:=fun x=>!(s==x)) hx W (by rw[m];rfl);generalize xs[k]=x at *;refine I ?_;exact⟨rfl,rfl,_,_,Wk.aZ az,rfl,rfl,l⟩
 ·rintro _ _⟨rfl,rfl,W⟩;rw[ln zfg]at W
  have i:xs.findIdx? (fun x=>s==x)=none:=by
   rw[List.findIdx?_eq_none_iff];intro x hx;rw[ea]at W;have:=W x hx;exact zdk
  unfold idxOf;rw[i];exact aK
def QV:decide (0<=idxOf xs s)=xs.contains s:=by
 unfold idxOf
 cases h:xs.findIdx? (fun x=>s==x)with
 |some i =>
  rw[List.findIdx?_eq_some_iff_getElem]at h;have⟨o,b,_⟩:=h
  have G:s=xs[i]:=by simpa using b
  have:xs.contains s=true:=by rw[p6,G];exact getElem_mem _
  rw[this];simp
 |none =>
  rw[List.findIdx?_eq_none_iff]at h
  have:xs.contains s=false:=by
   cases W:xs.contains s with
   |false=>rfl
   |true=>have:=h s (p6.1 W);simp at this
  rw[this];rfl
def iL(M:xs.length<=1099511627776):GF prog 48 [strs xs,.v (sv s)] [] (.v (.bool (xs.contains s))) []:=by
 have j:=gO xs s M;rw[<-QV];generalize idxOf xs s=i at *;refine au func48 ntmps48 ?_;refine D [] j ?_;exact ay
end
def Zm(p:Src)(W:p.ah.length<=1000000000000)(Q:∀n∈p.ah,n.aw.length<=1000000000000):∀(f a d:Nat)(e:Int),d<=801->py p.ah f a d=some e->GF prog 201 [.agg (aB p),y4 (a:Nat),y4 (d:Nat)] [] (y4 e) []:=by
 intro f
 induction f using Nat.strongRecOn with
 |_ f R =>
 intro a d e T h
 cases f with
 |zero=>simp[py]at h
 |succ f =>
 rw[py]at h;refine dc func201 ntmps201 ?_
 by_cases o:p.ah.length<=a
 ·rw[ak (.inl o)]at h;cases h
  have C:decide (((p.ah.map aN).length:Int)<=(a:Int))=true:=by simpa using o
  exact aK
 have C:decide (((p.ah.map aN).length:Int)<=(a:Int))=false:=by simpa using o
 by_cases b:d>800
 ·rw[ak (.inr b)]at h;cases h
  have l:decide ((800:Int)<(d:Int))=true:=by simpa using by omega
  exact aK
 have l:decide ((800:Int)<(d:Int))=false:=by simpa using by omega
 rw[ae V]at h
 cases c:p.ah[a]? with
 |none=>rw[c]at h;cases h
 |some n =>
 rw[c]at h;simp only at h;have E:=cr c;have q:=Q n (bP c);refine I ?_
 refine GW.range (n.aw.map fun i=>[GV.v (ii i)]).length (fun k J z=>∃nx g,J=[U,y4 (a:Nat),y4 (d:Nat),.loc 0 0,U,U,U,y4 nx,U,U,U,U,U,U,U,U,U,U,U,U,U,U,U,U,U,U,ints n.aw,y4 ((n.aw.map fun i=>[GV.v (ii i)]).length:Int),y4 (k:Nat),U,U,U,U,U,U,U,U,U,U,U,U,U,U,U] /\
   z=[.box 28 (aB p)]/\0<=nx/\g<=f/\px p.ah g (n.aw.drop k) nx d=some e) ?_ (by simp;omega) ?_ ?_ ?_
 ·exact⟨_,_,Wk.aZ az,_,f,rfl,rfl,by omega,aY _,h⟩
 ·rintro k _ _⟨_,_,rfl,rfl,_⟩;exact dO
 ·rintro k _ _ N⟨nx,g,rfl,rfl,O,X,h⟩
  have N:k<n.aw.length:=by simpa using N
  have hx:n.aw[k]?=some n.aw[k]:=by simp[N]
  rw[j3 N]at h;generalize n.aw[k]=x at *;have t:=ic hx
  cases g with
  |zero=>simp[px]at h
  |succ g =>
  rw[px]at h
  by_cases j:x=nx
  ·subst j;rw[ak rfl]at h
   have m:(x != x)=false:=by simp
   cases r:py p.ah g x.toNat (d+1)with
   |none=>rw[r]at h;cases h
   |some y =>
   rw[r]at h;simp only at h;have A:=R g V x.toNat (d+1) y V r;rw[Int.toNat_of_nonneg O]at A
   by_cases B:y<0
   ·rw[ak B]at h;cases h
    have w:decide (y<(0:Int))=true:=by simpa using B
    refine I ?_;refine D [] A ?_;exact ay
   ·rw[ae B]at h
    have w:decide (y<(0:Int))=false:=by simpa using B
    refine I ?_;refine D [] A ?_;exact⟨rfl,rfl,_,_,Wk.aZ az,_,g,rfl,rfl,by omega,by omega,h⟩
  ·rw[ae j]at h;cases h
   have m:(x != nx)=true:=by simpa using j
   exact aK
 ·rintro _ _⟨nx,g,rfl,rfl,O,X,h⟩;rw[ct,drop_length]at h
  have u:nx=e:=by cases g<;>(rw[px]at h;cases h;rfl)
  subst u;exact aK
open Go.Xp (T)
def ZX(a n:Int)(s:ab)(ks:List Int)(l:List T)(G:s.length<=1099511627776)(M:l.length<=1099511627776)(ha:decide (a<0)=false):GF prog 260 [.agg (cT (.mk ⟨1,a,n,s,ks⟩ l))] [] (.v (.bool (cN (.mk ⟨1,a,n,s,ks⟩ l)))) []:=by
 have Z:cN (.mk ⟨1,a,n,s,ks⟩ l)=(decide ((0:Int)<=n)&&(decide (n<=2147483647)&&((s==[])&&((l.length:Int)==0)))):=by unfold cN own;rw[ae zfi];rfl
 rw[Z];refine dc func260 ntmps260 ?_
 cases o:decide ((0:Int)<=n)with
 |false =>
  exact aK
 |true =>
  cases q:decide (n<=2147483647)with
  |false =>
   exact aK
  |true =>
   cases b:(s==[])with
   |false =>
    exact aK
   |true =>
    refine zbb ?_;exact zdx
section
variable(a:Int)(s:ab)(ks:List Int)(l:List T)
def ZY(G:s.length<=1099511627776)(M:l.length<=1099511627776)(ha:decide (a<0)=false):GF prog 260 [.agg (cT (.mk ⟨2,a,0,s,ks⟩ l))] [] (.v (.bool (cN (.mk ⟨2,a,0,s,ks⟩ l)))) []:=by
 have Z:cN (.mk ⟨2,a,0,s,ks⟩ l)=(bm s&&((l.length:Int)==0)):=by unfold cN own;rw[ae zfi];rfl
 rw[Z];refine dc func260 ntmps260 ?_
 cases o:bm s with
 |false =>
  exact zai
 |true =>
  refine I ?_;have W:=eJ s G;rw[o]at W;refine D [] W ?_;refine bB ?_;exact zdx
theorem ZZ(G:s.length<=1099511627776)(M:l.length<=1099511627776)(ha:decide (a<0)=false):GF prog 260 [.agg (cT (.mk ⟨3,a,0,s,ks⟩ l))] [] (.v (.bool (cN (.mk ⟨3,a,0,s,ks⟩ l)))) []:=by
 have Z:cN (.mk ⟨3,a,0,s,ks⟩ l)=(bm s&&(((l.length:Int)==1)&&bR 1 0 l)):=by unfold cN own;rw[ae zfi];rfl
 rw[Z];refine dc func260 ntmps260 ?_
 cases o:bm s with
 |false =>
  exact zai
 |true =>
  cases q:((l.length:Int)==1)with
  |false =>
   have C:((((bj l).length:Int)==1))=false:=by grind[bH]
   exact zai
  |true =>
   have C:((((bj l).length:Int)==1))=true:=by grind[bH]
   refine I ?_;have W:=eJ s G;rw[o]at W;refine D [] W ?_;have W:=gC (.mk ⟨3,a,0,s,ks⟩ l) 1 M;exact zaJ
def Z0(G:s.length<=1099511627776)(M:l.length<=1099511627776)(ha:decide (a<0)=false):GF prog 260 [.agg (cT (.mk ⟨4,a,0,s,ks⟩ l))] [] (.v (.bool (cN (.mk ⟨4,a,0,s,ks⟩ l)))) []:=by
 have Z:cN (.mk ⟨4,a,0,s,ks⟩ l)=(bm s&&bR l.length 0 l):=by unfold cN own;rw[ae zfi];rfl
 rw[Z];refine dc func260 ntmps260 ?_
 cases o:bm s with
 |false =>
  exact zai
 |true =>
  refine I ?_;have W:=eJ s G;rw[o]at W;refine D [] W ?_;have W:=gC (.mk ⟨4,a,0,s,ks⟩ l) (bj l).length M;refine D [] W ?_;refine bB ?_;exact zdx
theorem Z2(G:s.length<=1099511627776)(M:l.length<=1099511627776)(ha:decide (a<0)=false):GF prog 260 [.agg (cT (.mk ⟨6,a,0,s,ks⟩ l))] [] (.v (.bool (cN (.mk ⟨6,a,0,s,ks⟩ l)))) []:=by
 have Z:cN (.mk ⟨6,a,0,s,ks⟩ l)=(eD s&&(((l.length:Int)==2)&&bR 2 0 l)):=by unfold cN own;rw[ae zfi];rfl
 rw[Z];refine dc func260 ntmps260 ?_
 cases o:eD s with
 |false =>
  refine I ?_;have W:=tP s;rw[o]at W;exact zbq
 |true =>
  cases q:((l.length:Int)==2)with
  |false =>
   have C:((((bj l).length:Int)==2))=false:=by grind[bH]
   refine I ?_;have W:=tP s;rw[o]at W;exact zbq
  |true =>
   have C:((((bj l).length:Int)==2))=true:=by grind[bH]
   refine I ?_;have W:=tP s;rw[o]at W;refine D [] W ?_;have W:=gC (.mk ⟨6,a,0,s,ks⟩ l) 2 M;exact zaJ
theorem Z3(G:s.length<=1099511627776)(M:l.length<=1099511627776)(ha:decide (a<0)=false):GF prog 260 [.agg (cT (.mk ⟨7,a,0,s,ks⟩ l))] [] (.v (.bool (cN (.mk ⟨7,a,0,s,ks⟩ l)))) []:=by
 have Z:cN (.mk ⟨7,a,0,s,ks⟩ l)=(bm s&&(((l.length:Int)==1)&&bR 1 0 l)):=by unfold cN own;rw[ae zfi];rfl
 rw[Z];refine dc func260 ntmps260 ?_
 cases o:bm s with
 |false =>
  exact zai
 |true =>
  cases q:((l.length:Int)==1)with
  |false =>
   have C:((((bj l).length:Int)==1))=false:=by grind[bH]
   exact zai
  |true =>
   have C:((((bj l).length:Int)==1))=true:=by grind[bH]
   refine I ?_;have W:=eJ s G;rw[o]at W;refine D [] W ?_;have W:=gC (.mk ⟨7,a,0,s,ks⟩ l) 1 M;exact zaJ
theorem Z4(G:s.length<=1099511627776)(M:l.length<=1099511627776)(ha:decide (a<0)=false):GF prog 260 [.agg (cT (.mk ⟨8,a,0,s,ks⟩ l))] [] (.v (.bool (cN (.mk ⟨8,a,0,s,ks⟩ l)))) []:=by
 have Z:cN (.mk ⟨8,a,0,s,ks⟩ l)=(bm s&&(((l.length:Int)==2)&&bR 2 0 l)):=by unfold cN own;rw[ae zfi];rfl
 rw[Z];refine dc func260 ntmps260 ?_
 cases o:bm s with
 |false =>
  exact zai
 |true =>
  cases q:((l.length:Int)==2)with
  |false =>
   have C:((((bj l).length:Int)==2))=false:=by grind[bH]
   exact zai
  |true =>
   have C:((((bj l).length:Int)==2))=true:=by grind[bH]
   refine I ?_;have W:=eJ s G;rw[o]at W;refine D [] W ?_;have W:=gC (.mk ⟨8,a,0,s,ks⟩ l) 2 M;exact zaJ
theorem Yf(G:s.length<=1099511627776)(M:l.length<=1099511627776)(ha:decide (a<0)=false):GF prog 260 [.agg (cT (.mk ⟨10,a,0,s,ks⟩ l))] [] (.v (.bool (cN (.mk ⟨10,a,0,s,ks⟩ l)))) []:=by
 have Z:cN (.mk ⟨10,a,0,s,ks⟩ l)=((s==[])&&(((l.length:Int)==2)&&bR 1 0 l)):=by unfold cN own;rw[ae zfi];rfl
 rw[Z];refine dc func260 ntmps260 ?_
 cases o:(s==[])with
 |false =>
  exact aK
 |true =>
  cases q:((l.length:Int)==2)with
  |false =>
   have C:((((bj l).length:Int)==2))=false:=by grind[bH]
   exact aK
  |true =>
   have C:((((bj l).length:Int)==2))=true:=by grind[bH]
   refine I ?_;have W:=gC (.mk ⟨10,a,0,s,ks⟩ l) 1 M;exact zaJ
theorem Yg(G:s.length<=1099511627776)(M:l.length<=1099511627776)(ha:decide (a<0)=false):GF prog 260 [.agg (cT (.mk ⟨11,a,0,s,ks⟩ l))] [] (.v (.bool (cN (.mk ⟨11,a,0,s,ks⟩ l)))) []:=by
 have Z:cN (.mk ⟨11,a,0,s,ks⟩ l)=((s==[])&&(((l.length:Int)==1)&&bR 1 0 l)):=by unfold cN own;rw[ae zfi];rfl
 rw[Z];refine dc func260 ntmps260 ?_
 cases o:(s==[])with
 |false =>
  exact aK
 |true =>
  cases q:((l.length:Int)==1)with
  |false =>
   have C:((((bj l).length:Int)==1))=false:=by grind[bH]
   exact aK
  |true =>
   have C:((((bj l).length:Int)==1))=true:=by grind[bH]
   refine I ?_;have W:=gC (.mk ⟨11,a,0,s,ks⟩ l) 1 M;exact zaJ
theorem Yh(G:s.length<=1099511627776)(M:l.length<=1099511627776)(ha:decide (a<0)=false):GF prog 260 [.agg (cT (.mk ⟨12,a,0,s,ks⟩ l))] [] (.v (.bool (cN (.mk ⟨12,a,0,s,ks⟩ l)))) []:=by
 have Z:cN (.mk ⟨12,a,0,s,ks⟩ l)=((s==[])&&(((l.length:Int)==1)&&bR 1 0 l)):=by unfold cN own;rw[ae zfi];rfl
 rw[Z];refine dc func260 ntmps260 ?_
 cases o:(s==[])with
 |false =>
  exact aK
 |true =>
  cases q:((l.length:Int)==1)with
  |false =>
   have C:((((bj l).length:Int)==1))=false:=by grind[bH]
   exact aK
  |true =>
   have C:((((bj l).length:Int)==1))=true:=by grind[bH]
   refine I ?_;have W:=gC (.mk ⟨12,a,0,s,ks⟩ l) 1 M;exact zaJ
theorem Yi(G:s.length<=1099511627776)(M:l.length<=1099511627776)(ha:decide (a<0)=false):GF prog 260 [.agg (cT (.mk ⟨13,a,0,s,ks⟩ l))] [] (.v (.bool (cN (.mk ⟨13,a,0,s,ks⟩ l)))) []:=by
 have Z:cN (.mk ⟨13,a,0,s,ks⟩ l)=(bm s&&(((l.length:Int)==1)&&bR 1 0 l)):=by unfold cN own;rw[ae zfi];rfl
 rw[Z];refine dc func260 ntmps260 ?_
 cases o:bm s with
 |false =>
  exact zai
 |true =>
  cases q:((l.length:Int)==1)with
  |false =>
   have C:((((bj l).length:Int)==1))=false:=by grind[bH]
   exact zai
  |true =>
   have C:((((bj l).length:Int)==1))=true:=by grind[bH]
   refine I ?_;have W:=eJ s G;rw[o]at W;refine D [] W ?_;have W:=gC (.mk ⟨13,a,0,s,ks⟩ l) 1 M;exact zaJ
theorem Z1(H:s.length<=1099511627776)(M:l.length<=1099511627776)(ha:decide (a<0)=false):GF prog 260 [.agg (cT (.mk ⟨5,a,0,s,ks⟩ l))] [] (.v (.bool (cN (.mk ⟨5,a,0,s,ks⟩ l)))) []:=by
 have Z:cN (.mk ⟨5,a,0,s,ks⟩ l)=((s==[45] ||s==[33] ||s==[126])&&(((l.length:Int)==1)&&bR 1 0 l)):=by unfold cN own;rw[ae zfi];rfl
 rw[Z];refine dc func260 ntmps260 ?_
 cases o:(s==[45])with
 |true =>
  cases C:((l.length:Int)==1)with
  |false =>
   have N:(((bj l).length:Int)==1)=false:=by grind[bH]
   exact aK
  |true =>
   have N:(((bj l).length:Int)==1)=true:=by grind[bH]
   exact zcr
 |false =>
  cases b:(s==[33])with
  |true =>
   cases C:((l.length:Int)==1)with
   |false =>
    have N:(((bj l).length:Int)==1)=false:=by grind[bH]
    exact aK
   |true =>
    have N:(((bj l).length:Int)==1)=true:=by grind[bH]
    exact zcr
  |false =>
   cases G:(s==[126])with
   |false =>
    exact aK
   |true =>
    cases C:((l.length:Int)==1)with
    |false =>
     have N:(((bj l).length:Int)==1)=false:=by grind[bH]
     exact aK
    |true =>
     have N:(((bj l).length:Int)==1)=true:=by grind[bH]
     exact zcr
theorem Z5(G:s.length<=1099511627776)(M:l.length<=1099511627776)(ha:decide (a<0)=false):GF prog 260 [.agg (cT (.mk ⟨9,a,0,s,ks⟩ l))] [] (.v (.bool (cN (.mk ⟨9,a,0,s,ks⟩ l)))) []:=by
 have Z:cN (.mk ⟨9,a,0,s,ks⟩ l)=((s==[])&&((((l.length:Int)==2) ||((l.length:Int)==3))&&bR 1 0 l)):=by unfold cN own;rw[ae zfi];rfl
 rw[Z];refine dc func260 ntmps260 ?_
 cases o:(s==[])with
 |false =>
  exact aK
 |true =>
  cases q:((l.length:Int)==2)with
  |true =>
   have C:(((bj l).length:Int)==2)=true:=by grind[bH]
   exact zeL
  |false =>
   have C:(((bj l).length:Int)==2)=false:=by grind[bH]
   cases b:((l.length:Int)==3)with
   |true =>
    have i:(((bj l).length:Int)==3)=true:=by grind[bH]
    exact zeL
   |false =>
    have i:(((bj l).length:Int)==3)=false:=by grind[bH]
    exact aK
theorem Yj(G:s.length<=1099511627776)(M:l.length<=1099511627776)(ha:decide (a<0)=false):GF prog 260 [.agg (cT (.mk ⟨14,a,0,s,ks⟩ l))] [] (.v (.bool (cN (.mk ⟨14,a,0,s,ks⟩ l)))) []:=by
 have Z:cN (.mk ⟨14,a,0,s,ks⟩ l)=((l.all fun x=>im x.n.ai)&&(s==[])):=by unfold cN own;rw[ae zfi];rfl
 rw[Z];refine au func260 ntmps260 ?_;refine GW.range (bj l).length (fun k J u=>∃n,J=U::.loc 0 0::U::.loc 1 0::zU 172 (.sl 6 (bj l)::y4 ((bj l).length:Int)::y4 (k:Nat)::zU 12 [])/\u=[.box 89 (cT (.mk ⟨14,a,0,s,ks⟩ l)),.box 82 n]/\n=aN ⟨14,a,0,s,ks⟩/\((l.take k).all fun x=>im x.n.ai)=true) ?_ (by grind[bH]) ?_ ?_ ?_
 ·exact⟨_,_,Wk.aZ az,_,rfl,rfl,rfl,rfl⟩
 ·rintro k _ _⟨_,rfl,rfl,_⟩;exact dO
 ·rintro k _ _ N⟨_,rfl,rfl,rfl,m⟩
  have N:k<l.length:=by grind[bH]
  have hx:l[k]?=some l[k]:=by simp[N]
  have w:=dG hx;generalize l[k]=x at *;have e:=HQ x.n.ai
  cases i:im x.n.ai with
  |true =>
   rw[i]at e;refine zcv ?_;exact⟨rfl,rfl,_,_,(Wk.cut (n:=2) (ek rfl) rfl).trans (Wk.aZ az),_,rfl,rfl,rfl,by grind[dd]⟩
  |false =>
   rw[i]at e;refine zcv ?_;refine bB ?_
   have ha:(l.all fun x=>im x.n.ai)=false:=by
    grind
   rw[ha];exact zah
 ·rintro _ _⟨_,rfl,rfl,rfl,m⟩
  have m:(l.all fun x=>im x.n.ai)=true:=by
   grind[ln,bH]
  rw[m];exact aK
end
section
variable(k a n:Int)(s:ab)(ks:List Int)(l:List T)
theorem Z9(N:k=1\/k=2\/k=3\/k=4\/k=5\/k=6\/k=7\/k=8\/k=9\/k=10\/k=11\/k=12\/k=13\/k=14\/True)(hx:¬(k=1\/k=2\/k=3\/k=4\/k=5\/k=6\/k=7\/k=8\/k=9\/k=10\/k=11\/k=12\/k=13\/k=14))(ha:decide (a<0)=false)(hn:(n != 0)=false):GF prog 260 [.agg (cT (.mk ⟨k,a,n,s,ks⟩ l))] [] (.v (.bool (cN (.mk ⟨k,a,n,s,ks⟩ l)))) []:=by
 simp only[not_or]at hx;have⟨o,c,G,C,e,q,O,S,d,W,w,b,X,Y⟩:=hx
 have o:(k==1)=false:=by grind
 have i:(k != 1)=true:=by grind
 have c:(k==2)=false:=by grind
 have G:(k==3)=false:=by grind
 have C:(k==4)=false:=by grind
 have e:(k==5)=false:=by grind
 have q:(k==6)=false:=by grind
 have O:(k==7)=false:=by grind
 have S:(k==8)=false:=by grind
 have d:(k==9)=false:=by grind
 have W:(k==10)=false:=by grind
 have w:(k==11)=false:=by grind
 have b:(k==12)=false:=by grind
 have X:(k==13)=false:=by grind
 have Y:(k==14)=false:=by grind
 have Z:cN (.mk ⟨k,a,n,s,ks⟩ l)=false:=by
  show own ⟨k,a,n,s,ks⟩ _ _ _=_;simp[own,o,c,G,C,e,q,O,S,d,W,w,b,X,Y]
 exact zdC
theorem Z6(ha:decide (a<0)=true):GF prog 260 [.agg (cT (.mk ⟨k,a,n,s,ks⟩ l))] [] (.v (.bool (cN (.mk ⟨k,a,n,s,ks⟩ l)))) []:=by
 have Z:cN (.mk ⟨k,a,n,s,ks⟩ l)=false:=by
  show own ⟨k,a,n,s,ks⟩ _ _ _=_;unfold own;grind
 exact zdC
theorem Z8(ha:decide (a<0)=false)(N:(k != 1)=true)(hn:(n != 0)=true):GF prog 260 [.agg (cT (.mk ⟨k,a,n,s,ks⟩ l))] [] (.v (.bool (cN (.mk ⟨k,a,n,s,ks⟩ l)))) []:=by
 have Z:cN (.mk ⟨k,a,n,s,ks⟩ l)=false:=by
  show own ⟨k,a,n,s,ks⟩ _ _ _=_;unfold own;grind
 exact zdC
end
def Q7(t:T)(G:t.n.s.length<=1099511627776)(M:t.aw.length<=1099511627776):GF prog 260 [.agg (cT t)] [] (.v (.bool (cN t))) []:=by
 have⟨⟨k,a,n,s,u⟩,l⟩:=t
 cases w:decide (a<0)with
 |true=>exact Z6 k a n s u l w
 |false =>
 by_cases z:k=1
 ·subst z;exact ZX a n s u l G M w
 by_cases c:n=0
 ·subst c
  by_cases h:k=1\/k=2\/k=3\/k=4\/k=5\/k=6\/k=7\/k=8\/k=9\/k=10\/k=11\/k=12\/k=13\/k=14
  ·rcases h with rfl|rfl|rfl|rfl|rfl|rfl|rfl|rfl|rfl|rfl|rfl|rfl|rfl|rfl
   ·exact absurd rfl z
   ·exact ZY a s u l G M w
   ·exact ZZ a s u l G M w
   ·exact Z0 a s u l G M w
   ·exact Z1 a s u l G M w
   ·exact Z2 a s u l G M w
   ·exact Z3 a s u l G M w
   ·exact Z4 a s u l G M w
   ·exact Z5 a s u l G M w
   ·exact Yf a s u l G M w
   ·exact Yg a s u l G M w
   ·exact Yh a s u l G M w
   ·exact Yi a s u l G M w
   ·exact Yj a s u l G M w
  ·exact Z9 k a 0 s u l zfg h w rfl
 ·exact Z8 k a n s u l w zff zff
def Ml(l:List T):c9 l=l.all dC:=by
 induction l with
 |nil=>simp[c9]
 |cons a l O=>simp[c9,O]
def Q4:∀(J:Nat)(t:T),SizeOf.sizeOf t<=J->GQ t->GF prog 202 [.agg (cT t)] [] (.v (.bool (dC t))) []:=by
 intro J
 induction J with
 |zero=>intro t h _;cases t;simp at h
 |succ J S =>
 intro t w z;have⟨n,l⟩:=t;have W:=z;rw[GQ]at z;have⟨G,M,j⟩:=z
 have Z:dC (.mk n l)=(c9 l&&cN (.mk n l)):=by rw[dC]
 rw[Z];rw[Ml];refine au func202 ntmps202 ?_;refine GW.range (bj l).length (fun k O u=>O=[U,.loc 0 0,U,U,U,U,.sl 6 (bj l),y4 ((bj l).length:Int),y4 (k:Nat),U,U,U,U,U,U,U,U,U]/\u=[.box 89 (cT (.mk n l))]/\((l.take k).all dC)=true) ?_ (by rw[bH];exact M) ?_ ?_ ?_
 ·exact lk
 ·exact jA
 ·rintro k _ _ N⟨rfl,rfl,m⟩
  have N:k<l.length:=by rw[bH]at N;exact N
  have hx:l[k]?=some l[k]:=by simp[N]
  have Q:=bP hx;have R:=List.sizeOf_lt_of_mem Q;have B:=dG hx;have e:=S l[k] (by simp at w;omega) (GS j Q);generalize l[k]=x at *
  cases i:dC x with
  |true =>
   rw[i]at e;refine zcv ?_;exact⟨rfl,rfl,_,_,(Wk.cut (n:=1) (ek rfl) rfl).trans (Wk.aZ az),rfl,rfl,by rw[dd,hx,all_append,m];simp only[Option.toList,all_cons,all_nil,i];rfl⟩
  |false =>
   rw[i]at e;refine zcv ?_;refine bB ?_
   have A:(l.all dC)=false:=by
    rw[List.all_eq_false];exact⟨x,bP hx,by simp[i]⟩
   rw[A];exact zah
 ·rintro _ _⟨rfl,rfl,m⟩
  have m:(l.all dC)=true:=by
   rw[ln (by rw[bH];omega)]at m;exact m
  rw[m];refine I ?_;refine D [] (Q7 (.mk n l) G M) ?_;exact ay
def Q3(t:T)(h:GQ t):GF prog 202 [.agg (cT t)] [] (.v (.bool (dC t))) []:=Q4 _ t (aY _) h
open Go.Xp (Ar)
structure BC(p:Src):Prop where
 aq:p.aq.length<=1000000000000/\∀s∈p.aq,s.length<=1000000000000
 aj:p.aj.length<=1000000000000/\∀a∈p.aj,a.name.length<=1000000000000
 av:p.av.length<=1000000000000/\∀f∈p.av,f.name.length<=1000000000000/\f.params.length<=1000000000000/\∀s∈f.params,s.length<=1000000000000
 ah:p.ah.length<=1000000000000/\∀n∈p.ah,n.s.length<=1000000000000/\n.aw.length<=1000000000000
def JY{l:List ab}{i:Nat}{s:ab}(h:l[i]?=some s):(l.map fun s=>[GV.v (sv s)])[i]?=some [.v (sv s)]:=by grind
def vT{l:List Ar}{i:Nat}{s:Ar}(h:l[i]?=some s):(l.map aW)[i]?=some (aW s):=by grind
def x9{l:List Go.Sp.Fn}{i:Nat}{s:Go.Sp.Fn}(h:l[i]?=some s):(l.map aD)[i]?=some (aD s):=by grind
def vc{R:Type}{l:List R}{q:R->Bool}{k:Nat}{x:R}(hx:l[k]?=some x)(i:q x=false):l.all q=false:=by
 grind
def A6(p:Src)(X:BC p)(b:Bool)(h:pf p=some b):GF prog 145 [.agg (aB p)] [] (.v (.bool b)) []:=by
 unfold pf at h;refine au func145 ntmps145 ?_;refine GW.range (p.aq.map fun s=>[GV.v (sv s)]).length (fun k J u=>J=[U,.loc 0 0,U,y4 0,U,U,U,U,U,U,U,U,U,U,U,strs p.aq,y4 ((p.aq.map fun s=>[GV.v (sv s)]).length:Int),y4 (k:Nat),U,U,U,U,U,U,U,U,U,U,U,U,U,U,U,U,U,U,U,U,U,U,U,U,U,U,U,U,U,U,U,U,U,U,U,U,U,U,U,U,U,U,U,U,U,U,U,U,U,U,U,U,U,U,U,U,U,U,U,U,U,U,U,U,U,U,U,U,U,U,U,U,U,U,U,U,U,U,U,U,U,U,U,U,U,U,U]/\u=[.box 28 (aB p)]/\((p.aq.take k).all bm)=true) ?_ (by simpa using by have:=X.aq.1;omega) ?_ ?_ ?_
 ·exact lk
 ·exact jA
 ·rintro k _ _ N⟨rfl,rfl,q⟩
  have N:k<p.aq.length:=by grind
  have hx:p.aq[k]?=some p.aq[k]:=by simp[N]
  have B:=JY hx;have M:=X.aq.2 _ (bP hx);generalize p.aq[k]=x at *;have m:=eJ x V
  cases i:bm x with
  |true =>
   rw[i]at m;refine I ?_;refine D [] m ?_;exact⟨rfl,rfl,_,_,Wk.aZ az,rfl,rfl,tD hx q i⟩
  |false =>
   rw[i]at m;rw[ak (show dq p.aq=false from vc hx i)]at h;cases h;exact zc5
 ·rintro _ _⟨rfl,rfl,q⟩;rw[ln zfg]at q;rw[ae (by grind[dq])]at h;refine I ?_;refine GW.range (p.aj.map aW).length (fun k J u=>J=U::.loc 0 0::U::y4 0::zU 22 (.sl 2 (p.aj.map aW)::y4 ((p.aj.map aW).length:Int)::y4 (k:Nat)::zU 76 [])/\u=[.box 28 (aB p)]/\((p.aj.take k).all kc)=true) ?_ (by simpa using by have:=X.aj.1;omega) ?_ ?_ ?_
  ·exact lk
  ·exact jA
  ·rintro k _ _ N⟨rfl,rfl,q⟩
   have N:k<p.aj.length:=by grind
   have hx:p.aj[k]?=some p.aj[k]:=by simp[N]
   have B:=vT hx;have M:=X.aj.2 _ (bP hx);generalize p.aj[k]=x at *;have m:=eJ x.name V
   cases i:bm x.name with
   |false =>
    rw[i]at m;rw[ak (vc hx (by simp[kc,i]))]at h;cases h;exact zc5
   |true =>
    rw[i]at m
    cases w:decide (x.size<0)with
    |true =>
     rw[ak (vc hx (by grind[kc]))]at h;cases h;exact zc5
    |false =>
     cases A:decide (2147483647<x.size)with
     |true =>
      rw[ak (vc hx (by grind[kc]))]at h;cases h;exact zc5
     |false =>
      refine I ?_;refine D [] m ?_;exact⟨rfl,rfl,_,_,(Wk.cut (n:=1) (ek rfl) rfl).trans (Wk.aZ az),rfl,rfl,tD hx q (by grind[kc])⟩
  ·rintro _ _⟨rfl,rfl,q⟩;rw[ln zfg]at q;rw[ae zff]at h;refine I ?_;refine GW.range (p.av.map aD).length (fun k J u=>∃nx,J=U::.loc 0 0::U::y4 nx::zU 44 (.sl 3 (p.av.map aD)::y4 ((p.av.map aD).length:Int)::y4 (k:Nat)::zU 54 [])/\u=[.box 28 (aB p)]/\0<=nx/\(match jt p.ah (p.av.drop k) nx with|none=>none|some none=>some false|some (some next)=>some (next==(p.ah.length:Int)&&decide (next<=800)))=some b) ?_ (by simpa using by have:=X.av.1;omega) ?_ ?_ ?_
   ·exact⟨_,_,Wk.aZ az,_,rfl,rfl,Int.le_refl _,h⟩
   ·rintro k _ _⟨_,rfl,rfl,_⟩;exact dO
   ·clear h q;rintro k _ _ N⟨nx,rfl,rfl,O,h⟩
    have N:k<p.av.length:=by grind
    have hx:p.av[k]?=some p.av[k]:=by simp[N]
    have B:=x9 hx;have M:=X.av.2 _ (bP hx);rw[j3 N,jt]at h;generalize p.av[k]=x at *
    cases m:py p.ah (fN p.ah) nx.toNat 0 with
    |none=>grind
    |some e =>
    rw[m]at h;simp only at h;have l:=Zm p X.ah.1 (fun n d=>(X.ah.2 n d).2) _ _ 0 _ V m;rw[Int.toNat_of_nonneg O]at l;have r:=eJ x.name V
    by_cases w:x.body=nx
    ·have C:(x.body != nx)=false:=by grind
     cases i:bm x.name with
     |false =>
      rw[i]at r;rw[ak (.inr (.inl i))]at h;cases h;refine I ?_;refine D [] l ?_;refine D [] r ?_;exact ay
     |true =>
      rw[i]at r
      by_cases A:e<0
      ·have z:decide (e<0)=true:=by grind
       rw[ak (.inr (.inr A))]at h;cases h;refine I ?_;refine D [] l ?_;refine D [] r ?_;exact ay
      ·have z:decide (e<0)=false:=by grind
       rw[ae zff]at h;refine I ?_;refine D [] l ?_;refine D [] r ?_;refine GW.range (x.params.map fun s=>[GV.v (sv s)]).length (fun j J u=>J=[U,.loc 0 0,U,y4 nx,U,U,U,U,U,.loc 1 0,y4 e,U,U,U,U,U,U,U,U,U,U,U,U,U,U,U,U,U,U,U,U,U,U,U,U,U,U,U,U,U,U,U,U,U,U,U,U,U,.sl 3 (p.av.map aD),y4 ((p.av.map aD).length:Int),y4 (k:Nat),U,U,U,U,U,U,U,U,U,U,U,U,U,U,U,U,U,U,U,U,U,strs x.params,y4 ((x.params.map fun s=>[GV.v (sv s)]).length:Int),y4 (j:Nat),U,U,U,U,U,U,U,U,U,U,U,U,U,U,U,U,U,U,U,U,U,U,U,U,U,U,U,U,U,U]/\u=[.box 28 (aB p),.box 53 (aD x)]/\((x.params.take j).all bm)=true) ?_ zff ?_ ?_ ?_
       ·exact lk
       ·exact jA
       ·rintro j _ _ Z⟨rfl,rfl,q⟩
        have Z:j<x.params.length:=by grind
        have Y:x.params[j]?=some x.params[j]:=by simp[Z]
        have Q:=JY Y;have F:=M.2.2 _ (bP Y);generalize x.params[j]=y at *;have c:=eJ y V
        cases i:bm y with
        |true =>
         rw[i]at c;refine I ?_;refine D [] c ?_;exact⟨rfl,rfl,_,_,Wk.aZ az,rfl,rfl,tD Y q i⟩
        |false =>
         rw[i]at c;rw[ak (show dq x.params=false from vc Y i)]at h;cases h;refine I ?_;exact ze1
       ·rintro _ _⟨rfl,rfl,q⟩;rw[ln zfg]at q;rw[ae (by grind[dq])]at h
        cases G:sub p.ah (fN p.ah) nx.toNat with
        |none=>rw[G]at h;cases h
        |some t =>
        rw[G]at h;simp only at h;have W:=Ez p (fun n d=>(X.ah.2 n d).2) _ _ _ G;rw[Int.toNat_of_nonneg O]at W;have o:=Q3 t ((YL (fun n d=>by have:=X.ah.2 n d;omega) _).1 _ _ G)
        by_cases H:t.n.ai=14
        ·have E:(t.n.ai != 14)=false:=by grind
         cases i:dC t with
         |false =>
          rw[i]at o;rw[ak (.inr i)]at h;cases h;refine I ?_;refine D [] W ?_;exact zcH
         |true =>
          rw[i]at o;rw[ae zff]at h;refine I ?_;refine D [] W ?_;refine D [] o ?_;exact⟨rfl,rfl,_,_,(Wk.cut (n:=1) (ek rfl) rfl).trans (Wk.aZ az),_,rfl,rfl,by omega,h⟩
        ·have E:(t.n.ai != 14)=true:=by grind
         rw[ak (.inl H)]at h;cases h;refine I ?_;exact zbq
    ·have C:(x.body != nx)=true:=by grind
     rw[ak (.inl w)]at h;cases h;refine I ?_;refine D [] l ?_;exact ay
   ·clear h q;rintro _ _⟨nx,rfl,rfl,O,h⟩;rw[ct,drop_length,jt]at h;simp only at h;cases h
    cases w:(nx==(p.ah.length:Int))with
    |false =>
     have C:(nx==((p.ah.map aN).length:Int))=false:=by grind
     exact aK
    |true =>
     have C:(nx==((p.ah.map aN).length:Int))=true:=by grind
     exact aK
open Go.Xp (levels)
def nX(k:Int)(s:ab):Int:=if k=6 then(match levels.findIdx? (fun l=>l.contains s)with|some i=>(i:Int)|none => -1)else 9
def Ln(t:T):GF prog 357 [.agg (cT t)] [] (.v (.int .i64 (nX t.n.ai t.n.s))) []:=by
 refine dc func357 ntmps357 ?_
 by_cases o:t.n.ai=6
 ·have E:(t.n.ai != 6)=false:=by simpa using o
  unfold nX;rw[ak o];refine I ?_;refine D [] jX ?_;refine GW.range (levels.map fun l=>[strs l]).length (fun k J u=>J=[U,.loc 0 0,U,U,U,U,U,U,U,U,U,.sl 1 (levels.map fun l=>[strs l]),y4 ((levels.map fun l=>[strs l]).length:Int),y4 (k:Nat),U,U,U,U,U,U,U,U,U,U,U]/\u=[.box 89 (cT t)]/\((levels.take k).any fun l=>l.contains t.n.s)=false) ?_ aR ?_ ?_ ?_
  ·exact lk
  ·exact jA
  ·rintro k _ _ N⟨rfl,rfl,m⟩
   have N:k<levels.length:=by simpa using N
   have hx:levels[k]?=some levels[k]:=by simp[N]
   have w:(levels.map fun l=>[strs l])[k]?=some [strs levels[k]]:=by simp[N]
   have M:levels[k].length<=1099511627776:=by
    have:∀l∈levels,l.length<=1099511627776:=by decide
    exact this _ (getElem_mem N)
   have H:levels[k].contains t.n.s=true->levels.findIdx? (fun l=>l.contains t.n.s)=some k:=by
    intro X;rw[List.findIdx?_eq_some_iff_getElem];refine⟨N,X,fun j Y=>?_⟩;rw[List.any_eq_false]at m;refine m _ ?_;rw[List.mem_take_iff_getElem];exact⟨j,by omega,rfl⟩
   generalize levels[k]=x at *;have W:=iR x t.n.s M
   cases i:x.contains t.n.s with
   |true =>
    rw[i]at W;rw[H i];refine I ?_;exact zbq
   |false =>
    exact zbL
  ·rintro _ _⟨rfl,rfl,m⟩;rw[ln zfg]at m
   have c:levels.findIdx? (fun l=>l.contains t.n.s)=none:=by
    rw[List.findIdx?_eq_none_iff];intro x hx;rw[List.any_eq_false]at m;simpa using m x hx
   rw[c];exact aK
 ·have E:(t.n.ai != 6)=true:=by simpa using o
  unfold nX;rw[ae o];refine I ?_;refine D [] jX ?_;exact ay
open Go.Xp (bL hY E5)
def T8(n:Int):GF prog 343 [y4 n] [] (y4 (n%4294967296)) []:=by
 refine au func343 ntmps343 ?_;exact ay
def V8(n:Int):GF prog 342 [y4 n] [] (y4 (bL n)) []:=by
 unfold bL
 have i:0<=n%4294967296/\n%4294967296<4294967296:=by omega
 have W:=T8 n;generalize n%4294967296=m at *;refine dc func342 ntmps342 ?_
 by_cases h:m>2147483647
 ·have e:decide ((2147483647:Int)<m)=true:=by simpa using h
  rw[ak h];refine I ?_;exact zbq
 ·have e:decide ((2147483647:Int)<m)=false:=by simpa using h
  rw[ae h];refine I ?_;exact zbq
def DE(k:Nat)(h:k<=57):[[GV.v (.int .u8 (k:Int))]]=[UInt8.ofNat k].map fun c=>[GV.v (.int .u8 (c.toNat:Int))]:=by
 have:(UInt8.ofNat k).toNat=k:=by simp;omega
 simp[this]
def HN(n:Nat)(hn:n<=1099511627776):GF prog 373 [y4 (n:Int)] [] (.v (sv (hY n))) []:=by
 induction n using Nat.strongRecOn with
 |_ n O =>
 unfold hY;refine dc func373 ntmps373 ?_
 by_cases h:n<10
 ·have e:decide ((n:Int)<10)=true:=by simpa using by omega
  have l:=DE (48+n) V;rw[Int.natCast_add]at l;rw[dif_pos h];refine I ?_;refine bT ?_;exact aK
 ·have e:decide ((n:Int)<10)=false:=by simpa using by omega
  rw[dif_neg h];have W:=O (n / 10) V V;have M:=E5 (n / 10);have l:=DE (48+n%10) V;rw[Int.natCast_add]at l;refine I ?_;refine aV (.q 0 (.q 1 (aL 3 4 (.f 2 (.a 7 (aL 8 3 .nil)) 7 (.q 8 (.a 2 (.q 9 (.q 10 .nil)))))))) ?_;refine ax ?_;refine GO.fork ?_ ?_
  ·refine aP [] W ?_;refine zap ?_;exact aK
  ·refine zap ?_;refine aP [] W ?_;exact aK
end Go.Xg
set_option maxHeartbeats 2000000
namespace Go.Xg
open Go.RowKit Go.Xw Go.Proofs
attribute [local irreducible] GW GL GO YG GC GA bo bq
def qA{p:Nat->Bool}{Γ:ap}(h:∀x∈Γ,x.mP=true):kW p Γ=true:=by
 induction Γ with
 |nil=>rfl
 |cons x r O =>
  rw[kW,O fun y B=>h y (ec _ B),Bool.and_true];have:=h x mem_cons_self
  cases x<;>first|rfl|cases this
section
variable{P:Program}{fn:Func}{m:Nat}{R:GV->ap->Prop}{fr:am}{Γ:ap}{e:Exit}
end
end Go.Xg
namespace Go.Xg
open Go.RowKit Go.Xw Go.Proofs
def JW{x:Ob}(h:x.mP=true)(f:Nat->Nat):x.b8 f=x:=by cases x<;>first|rfl|cases h
theorem JC{X:ap}(h:∀x∈X,x.mP=true)(f:Nat->Nat):X.map (Ob.b8 f)=X :=
 (List.map_congr_left fun x hx=>JW (h x hx) f).trans (List.map_id _)
def H7(s n N:Nat)(h:s+n<=N):jZ (List.range' s n) N=true:=by
 induction n generalizing s with
 |zero=>rfl
 |succ n O =>
  rw[List.range'_succ,jZ,O (s+1) V]
  have o:Nat.blt s N=true:=by rw[Nat.blt_eq];omega
  have b:(List.range' (s+1) n).contains s=false:=by
   cases W:(List.range' (s+1) n).contains s with
   |false=>rfl
   |true =>
    have:=List.mem_range'_1.1 (p6.1 W);omega
  rw[o,b];rfl
def Bx(f:Nat->Nat):∀(X A C:ap),(∀x∈X,x.mP=true)->seen f (A++(X++C)) (List.range' A.length X.length) X
 |[],A,C,_=>trivial
 |x::X,A,C,h=>by
  rw[length_cons,List.range'_succ,seen];refine⟨by rw[j0 (aY _),r9,JW (h x mem_cons_self)];rfl,?_⟩
  have:=Bx f X (A++[x]) C fun y B=>h y (ec _ B)
  rw[br,List.length_singleton,dP]at this;exact this
section
variable{P:Program}{m:Nat}{Q:dN}{fr:am}{Γ:ap}{ops:Array Oper}{rest:List Oper}{d:Option Tmp}{op:Op}{ty:TypeId}{pos:String}{af:Array Edge}
end
attribute [local irreducible] GW GL GO YG GC GA bo bq
def wj{R S:Type}{f:R->Value->S}{l:List R}{G:List Value}{i:Nat}{x:R}{h:Value}(o:l[i]?=some x)(b:G[i]?=some h):(List.zipWith f l G)[i]?=some (f x h):=by rw[List.getElem?_zipWith,o,b]
end Go.Xg
namespace Go.Xg
open Go.RowKit Go.Xw
def Ms(A C:ap)(x:Ob):(A++x::C)[A.length]?=some x:=by
 rw[j0 (aY _),r9];rfl
theorem oC(A C:ap)(x y:Ob):oset (A++x::C) A.length y=A++y::C:=by
 rw[bI,List.set_append_right _ _ (aY _),r9];rfl
def rI(q:Nat->Bool):∀(A B:ap),kW q (A++B)=(kW q A&&kW q B)
 |[],B=>by simp[kW]
 |a::A,B=>by simp only[cons_append,kW,rI q A B,Bool.and_assoc]
section
variable(a b c d e:Ob)(X:ap)(k x y:Ob)
def JM:(a::b::c::d::e::(X++[k,x]))[X.length+6]?=some x:=by
 simp
def o5e(F C:ap):(a::b::c::d::e::(F++x::C))[F.length+5]?=some x:=by
 simp
theorem o5f(F C:ap):oset (a::b::c::d::e::(F++x::C)) (F.length+5) y=a::b::c::d::e::(F++y::C):=by
 have:=oC (a::b::c::d::e::F) C x y;exact zdk
def o5b:oset (a::b::c::d::e::(X++[k,x])) (X.length+6) y=a::b::c::d::e::(X++[k,y]):=by
 have:=oC (a::b::c::d::e::(X++[k])) [] x y;exact zdk
def o5c:(a::b::c::d::e::(X++[k,x]))[X.length+5]?=some k:=by
 simp
def o5d:oset (a::b::c::d::e::(X++[k,x])) (X.length+5) y=a::b::c::d::e::(X++[y,x]):=by
 have:=oC (a::b::c::d::e::X) [x] k y;exact zdk
end
section
variable{P:Program}{m:Nat}{Q:dN}{fr:am}{Γ:ap}{ops:Array Oper}{rest:List Oper}{d:Option Tmp}{op:Op}{ty:TypeId}{pos:String}{af:Array Edge}
def Wk.yB{A:ap}{x:Ob}(o:Γ=A++[x])(j:m<=A.length)(ha:∀q,kW q A=true):Wk m fr Γ (u3 A.length fr) A:=by
 subst o;have h:=Wk.cut (m:=m) (fr:=fr) (Γ:=A++[x]) (n:=A.length) j (by simp[ha]);simpa using h
def GL.Ga{t:TypeId}{z:Value}{agg:Bool}{k:Nat}[Y:qm P t z][H:Ty P t agg k]{O ts:Tmp}{cs:am}{w:TypeId}{C:String}{A:Array Edge}{W:Option Tmp}(n:z.cells.size=k)(G:mO (bD fr ts)=some cs)(l:Nat.beq ts O=false)(s:il fr O=true)(N:cs.length=k)(F:n7 cs=true)
  (h:GL P m ops Q rest (bX (bX fr (some O) (.loc Γ.length 0)) W (.v undef)) (Γ++[.box t cs])):GL P m ops Q (⟨some O,.alloc t,ty,pos,af,none⟩::⟨W,.store t (.tmp O) (.tmp ts),w,C,A,none⟩::rest) fr Γ:=by
 refine GL.alloc (cs:=gZ z.cells.toList) rfl ?_
 have Z:ts≠O:=by intro e;subst e;simp at l
 have r:∀(fr:am)(t:Nat)(g:GV),il fr t=true->bD (bJ fr t g) t=g:=by
  intro fr
  induction fr with
  |nil=>intro t g h;cases h
  |cons x fr S=>intro t g h;cases t with|zero=>rfl|succ t=>exact S t g h
 have q:∀(fr:am)(t u:Nat)(g:GV),u≠t->bD (bJ fr t g) u=bD fr u:=by
  intro fr
  induction fr with
  |nil=>intro t u g _;rfl
  |cons x fr S =>
   intro t u g h
   cases t with
   |zero=>cases u with|zero=>exact absurd rfl h|succ u=>rfl
   |succ t=>cases u with|zero=>rfl|succ u=>exact S t u g V
 have j:(gZ z.cells.toList).length=k:=by simp[gZ,n]
 refine GL.st (i:=Γ.length) (o:=0) (E:=t) (cs:=gZ z.cells.toList) (gs:=cs) (r fr O _ s) zfg ?_ N F (by rw[j];simp) ?_
 ·show mO (bD (bJ fr O _) ts)=some cs;rw[q fr O ts _ Z];exact G
 ·have B:pS (gZ z.cells.toList) 0 cs=cs:=by
   have:=AU cs (gZ z.cells.toList) [] (by rw[j,N]);exact zdk
  rw[B];have e:=oC Γ [] (.box t (gZ z.cells.toList)) (.box t cs);rw[e];exact h
end
section
variable{P:Program}{fn:Func}{R:GV->ap->Prop}{fr:am}{Γ:ap}{e:Exit}
def GB{X Y Z:ap}(r:∀x∈X,x.mP=true)(s:∀x∈Z,x.mP=true) :
  (X++Z).length=(List.range X.length++(List.range Z.length).map (·+(X.length+Y.length))).length/\(List.range X.length++(List.range Z.length).map (·+(X.length+Y.length))).Nodup /\
  ∀(j:Nat)x,(X++Z)[j]?=some x->x.mP=true/\∀i,(List.range X.length++(List.range Z.length).map (·+(X.length+Y.length)))[j]?=some i->(X++(Y++Z))[i]?=some x:=by
 refine⟨by simp,?_,fun j x l=>⟨?_,fun i o=>?_⟩⟩
 ·rw[List.nodup_append];refine⟨nodup_range,?_,?_⟩
  ·unfold List.Nodup;rw[List.pairwise_map]
   exact(nodup_range (n:=Z.length)).imp fun q w=>q V
  ·intro a v b t;rw[List.mem_range]at v;obtain⟨c,W,rfl⟩:=ra.1 t;omega
 ·rcases oO (bP l)with h|h
  ·exact r x h
  ·exact s x h
 ·by_cases M:j<X.length
  ·rw[j1 M]at l;rw[j1 zfy,List.getElem?_range M]at o;cases o;rw[j1 M];exact l
  ·rw[j0 V]at l;rw[j0 zfy,List.length_range]at o;have u:=(bY l).1;rw[dB,List.getElem?_range u]at o;cases o;show(X++(Y++Z))[j-X.length+(X.length+Y.length)]?=some x;rw[j0 V,j0 V,show j-X.length+(X.length+Y.length)-X.length-Y.length=j-X.length by omega];exact l
section
variable{t u:Tmp}{T:TypeId}{k:Nat}
def WS[hT:Ty P T true k]{i:Nat}{E:TypeId}{cs:am}{y:Value}(bc:List Nat)(r:ap)(hr:fn.results=#[.cell t T,.tmp u])(Z:e=.normal\/e=.ret)(hg:bD fr t=.loc i 0)(F:Γ[i]?=some (.box E cs))(hk:cs.length=k)(hp:mZ cs=true)(s:bD fr u=.v y)
  (hl:r.length=bc.length)(hn:bc.Nodup)(hx:∀(j:Nat)x,r[j]?=some x->x.mP=true/\∀i,bc[j]?=some i->Γ[i]?=some x)(h:R (.tup [.agg cs,.v y]) r):qv P fn 0 R e fr Γ :=
 ⟨Z,fun B K G w l Y N M=>by
  have⟨b,vs,S,W,H,h4⟩:=N.ob i _ F
  have C:nth l t=.pointer (some ⟨b,0,none⟩):=by
   have:=M.nth t;rw[hg]at this;generalize nth l t=v at this
   cases this with
   |loc _ _ b' n=>rw[S]at n;cases n;rfl
  have A:l.toArray.getD t undef=.pointer (some ⟨b,0,none⟩):=by rw[iJ,C]
  have z:=km (P:=P) (w:=w) (t:=T) (b:=b) (o:=0) (vs:=vs) (k:=k) (by rw[H.1,hk]) (fun j v hj=>by
   rw[dJ,cell_of_row w b j _ E (0,0) W];simpa using hj)
  have q:l[t]?.getD undef=.pointer (some ⟨b,0,none⟩):=by simpa using A
  have J:bF K (ga G bc) vs cs:=H.mZ (lz hp);have hu:nth l u=y:=Rel.eW (by rw[<-s];exact M.nth u);refine⟨.tuple #[.agg vs.toArray,y],K,ga G bc,.tup [.agg cs,.v y],r,?_,N.pick Y hl hn hx,?_,h⟩
  ·rw[<-hu,<-iJ l u];simp[results,hr,q,asAddr,z]
  ·have O:bF K (ga G bc) [.agg vs.toArray,y] [.agg cs,.v y]:=.cons (.agg vs cs J.1 J.2) (.cons (.v _) .nil)
   exact .tup [.agg vs.toArray,y] _ O.1 O.2⟩
def Nt[n:Ty P T true k]{i:Nat}{E:TypeId}{cs:am}{y:Value}(X Y Z:ap)(w:fn.results=#[.cell t T,.tmp u])(l:e=.normal\/e=.ret)(hg:bD fr t=.loc i 0)(o:Γ[i]?=some (.box E cs))(N:cs.length=k)(W:mZ cs=true)(z:bD fr u=.v y)
  (G:Γ=X++(Y++Z))(q:∀x∈X,x.mP=true)(j:∀x∈Z,x.mP=true)(h:R (.tup [.agg cs,.v y]) (X++Z)):qv P fn 0 R e fr Γ:=by
 have H:=GB (Y:=Y) q j;exact WS _ (X++Z) w l hg o N W z H.1 H.2.1 (by rw[G];exact H.2.2) h
end
def Zu{t:Tmp}{T:TypeId}{k:Nat}[n:Ty P T true k]{i:Nat}{E:TypeId}{cs:am}(X Y Z:ap)(v:fn.results=#[.cell t T])(l:e=.normal\/e=.ret)(hg:bD fr t=.loc i 0)(o:Γ[i]?=some (.box E cs))(N:cs.length=k)(W:mZ cs=true)
  (G:Γ=X++(Y++Z))(q:∀x∈X,x.mP=true)(j:∀x∈Z,x.mP=true)(h:R (.agg cs) (X++Z)):qv P fn 0 R e fr Γ:=by
 have H:=GB (Y:=Y) q j;exact Zt _ (X++Z) v l hg o N W H.1 H.2.1 (by rw[G];exact H.2.2) h
end
def nY{A B:Prop}(h:B)(s:Hid B->A:=by intro J;(repeat (first|((first|(apply GL.q;(· exact L3))|refine GL.nil ?_|refine bh ?_|refine GW.seq ?_|refine GW.region ?_|refine GW.skip ?_|refine jN ?_|refine GW.block ?_|(apply GL.gt;(· exact rfl);(· first|exact rfl|assumption))|(apply GL.gf;(· exact rfl);(· first|exact rfl|assumption))|(apply GL.gu;(· exact rfl))|(apply Md;(· exact rfl);(· first|exact rfl|assumption))|(apply Mc;(· exact rfl);(· first|exact rfl|assumption)));try refine GN nL ?_)|((first|(apply GL.box;(· exact rfl))|(apply GL.st;(· exact rfl);(· exact rfl);(· exact rfl);(· exact rfl);(· exact rfl);(· exact rfl)));refine oc du eb ?_)));exact J.1):A:=s ⟨h⟩
end Go.Xg
