/- Part 10 of proofs that are told in their last texts. -/
import Derived.Test.YtfmnfhpifpjljaaGreatDoorCards
import Derived.ProofKit
import Derived.Test.YtfmnfhpifpjljaaGreatDoorO9
open List (cons_append length_cons length_nil map_nil nil_append)
set_option linter.unusedVariables false
set_option linter.unusedSimpArgs false
set_option maxRecDepth 100000
set_option maxHeartbeats 4000000
namespace Go.Xg
open Go.RowKit Go.Xw Go.Proofs Tryz Go.Sp Go.Im Go.Mn
open GV (U)
attribute [local irreducible] GW GL GO D GC GA bo bn
theorem Nv(code:ah):GF prog 5 [.sl 1 (di code)] [] (.v (.bool true)) []:=by
 have hbl:=wF code
 rcases Nat.lt_or_ge 1048576 code.length with ny|Hi
 ·have hd:decide ((1048576:Int)<((di code).length:Int))=true:=decide_eq_true L;refine ak func5 ntmps5 ?_;exact az
 ·have hd:decide ((1048576:Int)<((di code).length:Int))=false:=decide_eq_false L;refine ak func5 ntmps5 ?_;refine bP [] (ID code L) ?_;rintro _ _⟨rfl,a,b,W,C,X,rfl⟩;refine ch ?_;have u:=GC.SM (Ti a b W C X);have A:=Re a b W
  by_cases E:(nj a b).2=0
  ·have⟨x,y,⟨Z,F⟩,⟨fb,G⟩,R,e⟩:=OZ E;have⟨l,hl⟩:=sE R
   have s:cH (ep a b x y)<=1048576:=by rw[AX F G];exact W
   have r:=zI F G C X;have Q:=Jt Z fb F G hl.test;have hN:=GC.JL (An _ s r);have J:=GC.JL (An a L C);have N:=GC.JL (An b L X);have hW:=JZ _ s r hl;have⟨cc,z,hK,B⟩:=C7 _ s r;have⟨Y,za,H,i⟩:=C7 a L C;have j:=Kd a L C [3] 400;have m:=Kd _ s r [3] 400
   have S:=fun d:fk a=true=>L5 d (L4 F d) G R [3] 400
   rw[e]at u A
   have O:cc=0:=by rw[R]at B;simpa using B
   subst O
   have e0:(((bs (qg (ep a b x y))).length:Int)==(((bs (qg a)).length+(bs (qg b)).length:Nat):Int))=true:=by
    rw[nJ,nJ,nJ,Q];simp
   have nl:∀q:Src,cH q<=1048576->fI q=true->(bs (qg q)).length<=3145728:=fun q h k=>by
    obtain⟨⟨s1,-⟩,⟨s3,-⟩,⟨s5,-⟩,-⟩:=gg q;rw[nJ];unfold qg;rw[ai k,lU];omega
   have n1:=nl a L Z;have n2:=nl b L fb;have ho:=O5 a [3] 400;generalize ep a b x y=p at *;generalize bs (qg p)=np at *;generalize bs (qg a)=nna at *;generalize bs (qg b)=nnb at *;generalize lT p [3] 400=mp at *;generalize lT a [3] 400=ma at *;unfold Bh ints at j m;refine zcs ?_;refine I [] A ?_;refine I [] hK ?_;refine I [] H ?_;refine GW.join (fun fr Γ=>fr=U::U::U::.loc 0 0::.loc 1 0::.loc 2 0::U::U::U::y4 0::zU 59 (.v (.bool false)::zU 19 [])/\Γ=[.box 28 (aB a),.box 28 (aB b),.box 28 (aB p),.box 28 (aB p)]) ?_ ?_
   ·cases d:fk a with
    |true =>
     have⟨q1,q2,q3,q4⟩:=S d;have o:=Tl ma (b:=mp) L q1 q2 q3 q4;rw[d]at i
     have i:Y=0:=by simpa using i
     subst i;unfold Bh ints at o;refine zbL ?_;refine GO.fork ?_ ?_
     ·refine zm rfl rfl rfl ze6 (GL.Ce rfl rfl rfl rfl (GL.nil (bg (df.mk zeZ ?_))));refine zad ?_
      refine GO.fork ?_ ?_
      ·refine pR [] j ?_;refine zm rfl rfl rfl ze6 (GL.Ce rfl rfl rfl rfl (GL.nil (bg (df.mk zeZ ?_))));refine zad ?_
       exact zdA
      ·refine zm rfl rfl rfl ze6 (GL.Ce rfl rfl rfl rfl (GL.nil (bg (df.mk zeZ ?_))));refine zad ?_
       refine pR [] j ?_;exact zdA
     ·refine zm rfl rfl rfl ze6 (GL.Ce rfl rfl rfl rfl (GL.nil (bg (df.mk zeZ ?_))));refine zad ?_
      refine zm rfl rfl rfl ze6 (GL.Ce rfl rfl rfl rfl (GL.nil (bg (df.mk zeZ ?_))));refine zad ?_
      refine pR [] j ?_;exact zdA
    |false =>
     have i:(Y==0)=false:=by rw[<-d,<-i]
     refine zbL ?_;refine GO.fork ?_ ?_
     ·refine ay ?_;refine GO.fork ?_ ?_
      ·exact zeS
      ·exact zeS
     ·exact zeS
   rintro _ _⟨rfl,rfl⟩;refine V ?_;refine aV (aM 0 4 (.a 4 (aM 5 3 (.q 10 (.q 13 (.a 8 (.q 9 (.a 11 (.q 12 (.a 14 (aM 15 5 .nil))))))))))) ?_;refine ay ?_;refine bW [] hW ?_;refine bW [] hN ?_;refine bW [] J ?_;refine bW [] N ?_;refine zaW ?_;exact⟨congrArg (fun b=>GV.v (.bool b)) e0,rfl⟩
  ·have T:=OY E
   have Xk:((nj a b).2==0)=false:=by simpa using E
   rw[T]at u A;generalize(nj a b).2=c at *
   have e1:(c != c)=false:=by simp
   have e2:(c != 0)=true:=by simpa using E
   have e3:aB kL=[.sl 1 [],.sl 2 [],.sl 3 [],.sl 5 []]:=rfl;rw[e3]at u A;refine zcs ?_;refine I [] A ?_;exact az
end Go.Xg
namespace Go.Xg
open Go.RowKit Go.Xw Go.Proofs Go.WideShapes Go.Deep
def VC(c:UInt8):Value:=.int .u8 (c.toNat:Int)
theorem RO(c:UInt8):flat (VC c):=fun a n d e=>by cases e
theorem wf_u8{z:Int}(h:(Lit.int .u8 z).wf=true):∃c:UInt8,z=((c.toNat:Nat):Int):=by
 simp only[Lit.wf,aZ,decide_eq_true_eq]at h
 have o:IntKind.min .u8=0:=by decide
 have b:IntKind.max .u8=255:=by decide
 rw[o,b]at h;refine⟨UInt8.ofNat z.toNat,?_⟩
 have G:z.toNat<256:=by omega
 have C:(UInt8.ofNat z.toNat).toNat=z.toNat:=by simp[Nat.mod_eq_of_lt G]
 rw[C];omega
section
variable{H:Type}{enc:TypeId × Value->H}{P:Program}{W:World}
theorem Mp{t e:TypeId}{n:Nat}{v:Value}{y:DataW H × List MemPlace}(O:P.underlying t=some (.slice e))(B:P.underlying e=some (.int .u8))(X:P.cellsOf e=1)(h:DataW.trod enc P W 0 (fun _=>true) true n t [v]=some y) :
  ∃l:ah,Nx W v (l.map VC)/\l.length<=9223372036854775807:=by
 rcases open_slice1 O X h with⟨w,_⟩|⟨a,len,d,m,R,aaS,aaU,F,w,_,M,C,T,_,hx⟩
 ·injection w with hv;subst hv
  exact⟨[],⟨none,0,rfl,.inl rfl⟩,bl _⟩
 ·injection w with hv _;subst hv
  simp only[if_true]at T
  obtain⟨l,r,k⟩:=yh (n:=len) (Q:=fun i(c:UInt8)=>W.cell? (a.add i)=some (VC c)) (fun i j=>by
   have⟨A,N⟩:=hx i L;have⟨z,G,_,E⟩:=DataW.trod_int B N
   injection G with G _
   rw[G]at A;obtain⟨c,rfl⟩:=wf_u8 E
   exact⟨c,A⟩)
  refine⟨l,⟨some a,d,by rw[bS,r],?_⟩,by rw[r];exact max_le (jC M C)⟩
  by_cases J:len=0
  ·have:l=[]:=kQ L;subst this;exact .inl rfl
  ·refine .inr ⟨a.block,a.off,?_,by rw[bS,r];exact M,fun i x j=>?_⟩
   ·have u:l[0]?=some (l[0]'L):=cY _;have:=NH (k 0 _ u);obtain⟨b,o,s⟩:=a;simp only at this;rw[this]
   ·rw[dR]at j
    cases q:l[i]? with
    |none=>rw[q]at j;cases j
    |some c =>
     rw[q]at j;cases j;exact⟨NR (k i c q),RO c⟩
theorem Mq(β:Bt){t e:TypeId}{v:Value}{d:DataW H}{k:List MemPlace}{r:Reach}{S:Nat}(M:P.underlying t=some (.slice e))(i:P.underlying e=some (.int .u8))(X:P.cellsOf e=1)(j:Value.okWide P W r S t v)(h:DataW.Trod enc P W 0 (fun _=>true) true t v d k) :
  ∃l:ah,Rel (KW W) β v (.sl 1 (di l))/\l.length<=9223372036854775807:=by
 obtain⟨Y,len,c,rfl⟩:=okWide_slice M j;have⟨R,m⟩:=h;have⟨l,o,b⟩:=Mp M i X m;refine⟨l,?_,b⟩;have:=MA o β;rw[List.map_map]at this;exact this
end
end Go.Xg
namespace Go.Pn
open Go.RowKit Go.Proofs Go.Proofs.YtfmnfhpifpjljaaGreatDoor
theorem Lf{P:Program}{c:OpenClaim}(ng:P.funcs.any Func.goes=false)(G:c.start=.entering):false=c.goesBy P:=by
 have n:∀g:FuncId,(P.funcs[g]?).any Func.goes=false:=fun g=>by
  cases h:P.funcs[g]? with
  |none=>rfl
  |some fn =>
   have:=Array.any_eq_false'.1 ng fn (Array.mem_of_getElem? h);show Func.goes fn=false;exact zdc
 have Q:∀f,P.goes f=false:=fun f=>by
  unfold Program.goes;rw[ng,Bool.and_false,Bool.or_false,List.any_eq_false];intro x hx;rw[n x];decide
 unfold OpenClaim.goesBy Program.goesAt Program.goesFrom;rw[G]
 cases P.funcNamed c.func with
 |none=>rfl
 |some f=>show false=(P.goes f ||false);rw[Q f];rfl
theorem ng:Tryz.pinned.checked.prog.funcs.any Func.goes=false:=by kernel_rfl
end Go.Pn
