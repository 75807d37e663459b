/- Part 18 of proofs that are told in their last texts. -/
import Derived.Test.YtfahcenafcklmaaGreatDoorZ17
import Derived.Test.YtfahcenafcklmaaGreatDoorZ6
import Derived.Lib.SlicesCompact
import Derived.Test.YtfahcenafcklmaaGreatDoorZ11
import Derived.Test.YtfahcenafcklmaaGreatDoorZ12
import Derived.Test.YtfahcenafcklmaaGreatDoorZ14
import Derived.Lib.OwnBridge
import Derived.Lib.AppendIntMem
import Derived.Test.YtfahcenafcklmaaGreatDoorZ16
open List (cons_append getElem?_zipWith length_cons length_nil length_set nil_append set_cons_zero zipWith_cons_cons)
set_option linter.unusedVariables false
set_option linter.unusedSimpArgs false
set_option maxRecDepth 100000
set_option maxHeartbeats 4000000
namespace Go.Sp
open Go.Xp Go.Im
theorem F6 {α:Type} (f:α->Nat):∀ (l:List α) (i:Nat) (x y:α),l[i]?=some x->aV f (l.set i y)+f x=aV f l+f y
 | [],i,x,y,h=>by simp at h
 | z::l,0,x,y,h=>by cases h;rw [set_cons_zero,aV,aV];omega
 | z::l,i+1,x,y,h=>by have:=F6 f l i x y zeO;rw [List.set_cons_succ,aV,aV];omega
theorem yG (p:Src) (i:Nat) (x y:Nd) (h:p.nodes[i]?=some x):cv ⟨p.globals,p.arrays,p.fns,p.nodes.set i y⟩+(x.s.length+x.kids.length+1)=cv p+(y.s.length+y.kids.length+1):=by
 have:=F6 (fun n:Nd=>n.s.length+n.kids.length+1) p.nodes i x y h;unfold cv;simp only at *;omega
end Go.Sp
namespace Go.Xg
open Go.RowKit Go.Xw Go.Proofs Tryz Go.Sp Go.Im
open GV (U)
open Go.Xp (Nd)
theorem tF {o:Nat} {g:GV} {x x':Nd} (hg:∀ y,bN (dn x y) o g=dn x' y):∀ {aP:List Nd} {ns:List Value} {i:Nat},ns.length=aP.length->aP[i]?=some x->fM (List.zipWith dn aP ns) i o g=List.zipWith dn (aP.set i x') ns
 | [],ns,i,hl,h=>by simp at h
 | n::aP,[],i,hl,h=>by simp at hl
 | n::aP,v::ns,0,hl,h=>by
  cases h;rw [zipWith_cons_cons,set_cons_zero,zipWith_cons_cons,fM,hg]
 | n::aP,v::ns,i+1,hl,h=>by
  have:=tF hg (aP:=aP) (ns:=ns) (i:=i) zeQ zeO;rw [zipWith_cons_cons,fM,this];rfl
theorem tN {x x':Nd} (hk:x'.kids=x.kids):∀ {aP:List Nd} {ns:List Value} {i:Nat},aP[i]?=some x->List.zipWith iu (aP.set i x') ns=List.zipWith iu aP ns
 | [],ns,i,h=>by simp at h
 | n::aP,[],i,h=>by cases i <;> simp
 | n::aP,v::ns,0,h=>by
  cases h;rw [set_cons_zero,zipWith_cons_cons,zipWith_cons_cons];unfold iu;rw [hk]
 | n::aP,v::ns,i+1,h=>by
  have:=tN hk (aP:=aP) (ns:=ns) (i:=i) zeO;rw [List.set_cons_succ,zipWith_cons_cons,this];rfl
theorem oH.same {aP:List Nd} {h:Value} {ns:List Value} (H:oH aP h ns) {i:Nat} {x x':Nd} (hx:aP[i]?=some x) (hk:x'.kids=x.kids):oH (aP.set i x') h ns:=by
 obtain ⟨a,c,e⟩:=H.head;refine ⟨⟨a,c,by rw [e,length_set]⟩,by rw [length_set];exact H.len,fun j y v D I=>?_⟩;rw [fq] at D
 by_cases fA:i=j
 ·rw [ah fA] at D;split at D
  ·cases D;subst fA;rw [hk];exact H.kid i x v hx I
  ·cases D
 ·rw [ad fA] at D;exact H.kid j y v D I
abbrev nz (code:ae) (c:dj) (p:Src) (hg ha hf hn:Value) (ns:List Value):List Ob :=
 [jF code c,.box 28 [.v (.slice none 0 0),.v (.slice none 0 0),.v (.slice none 0 0),.v (.slice none 0 0)],.vech 9 1 (jM p.globals) hg,.vech 98 2 (p.arrays.map bY) ha,.vech 65 3 (p.fns.map br) hf,.gone,.box 28 [.v hg,.v ha,.v hf,.v hn]]++cx p.nodes hn ns
theorem Wk.Iw {m:Nat} {fr:List GV} {code:ae} {c:dj} {p:Src} {hg ha hf hn:Value} {ns:List Value} (HG:nu p hg ha hf hn ns) (hm:m<=7) :
  Wk m fr (nz code c p hg ha hf hn ns) (vX 7 fr) [jF code c,.box 28 [.v (.slice none 0 0),.v (.slice none 0 0),.v (.slice none 0 0),.v (.slice none 0 0)],.vec 9 1 (jM p.globals).length (jM p.globals),.vec 98 2 (p.arrays.map bY).length (p.arrays.map bY),.vec 65 3 (p.fns.map br).length (p.fns.map br),.gone,.box 28 (aL p)]:=by
 refine (Wk.rh (i:=6) (o:=0) (j:=2) (x:=hg) rfl rfl rfl rfl).trans ?_;refine (Wk.rh (i:=6) (o:=1) (j:=3) (x:=ha) rfl rfl rfl rfl).trans ?_;refine (Wk.rh (i:=6) (o:=2) (j:=4) (x:=hf) rfl rfl rfl rfl).trans ?_;exact Wk.xO (i:=6) (o:=3) [jF code c,.box 28 [.v (.slice none 0 0),.v (.slice none 0 0),.v (.slice none 0 0),.v (.slice none 0 0)],.vec 9 1 (jM p.globals).length (jM p.globals),.vec 98 2 (p.arrays.map bY).length (p.arrays.map bY),.vec 65 3 (p.fns.map br).length (p.fns.map br),.gone,.box 28 [.sl 1 (jM p.globals),.sl 2 (p.arrays.map bY),.sl 3 (p.fns.map br),.v hn]] HG.n rfl hm rfl rfl rfl
def WX (code:ae) (g:GV) (Δ:List Ob):Prop:=∃ (c:dj) (p:Src),c.i<=code.length/\cv p<=1048576/\gY p/\g=.agg (aL p)/\Δ=[jF code c]
def nr (code:ae) (k i j:Nat) (fr:List GV) (Γ:List Ob):Prop:=∃ (c:dj) (p:Src) (hg ha hf hn:Value) (ns:List Value),fr=[.loc 0 0,U,.loc 1 0,.loc 6 0,.v (ii (k:Nat)),.v (ii (i:Nat)),U,U,U,U,U,U,U,U,U,U,U,U,U,U,U,U,U,U,U,U,U,U,U,U,U,U,U,U,U,U,U,U,U,U,U,U,U,U,U,U,U,U,U,U,U,U,U,U,U,U,U,U,U,U,U,U,U,U,U,U,U,U,U,U,U,U,U,U,U,U,U,U,U,U,U,U,U,U,U,U,U,U,U,U,U,U,U,U,U,U,U,U,U,U,U,U,U]/\Γ=nz code c p hg ha hf hn ns /\
 c.i<=code.length/\nu p hg ha hf hn ns/\cv p<=600000+10 * j/\gY p/\i < p.nodes.length
theorem nr.next {code:ae} {k i j:Nat} {fr:List GV} {Γ:List Ob} (h:nr code k i j fr Γ):nr code k i (j+1) fr Γ:=by
 obtain ⟨c,p,hg,ha,hf,hn,ns,D,I,h3,h4,h5,h6⟩:=h;exact ⟨c,p,hg,ha,hf,hn,ns,D,I,h3,h4,by omega,h6⟩
attribute [local irreducible] GW GL GO YG GC GA bu bs pS uE qo
theorem Ff (code:ae) (hl:code.length<=1099511627776) (c:dj) (hc:c.i<=code.length) :
  GC prog 76 [.loc 0 0] [jF code c] (WX code):=by
 have hB:=fun (n:Int) (c:dj) (h:c.i<=code.length)=>dB code n c hl h
 have PL:=fun (n:Int) (c:dj) (h:c.i<=code.length)=>cP (code:=code) (c:=c) n h
 have hR:=fun (c:dj) (h:c.i<=code.length)=>Fc code c hl h
 refine aj func76 ntmps76 ?_;refine dW [0] (GP code hl c hc) ?_;rintro _ _ ⟨c1,p,_,_,_,_,ns,i1,⟨⟨ag,cg,rfl⟩,⟨aa,ca,rfl⟩,⟨af,cf,rfl⟩,⟨⟨an,cn,rfl⟩,N2,N3⟩⟩,hw,dQ,rfl,rfl⟩;unfold qh;refine zc5 ?_;have HG:nu p (.slice ag p.globals.length cg) (.slice aa p.arrays.length ca) (.slice af p.fns.length cf) (.slice an p.nodes.length cn) ns:=⟨⟨_,_,rfl⟩,⟨_,_,rfl⟩,⟨_,_,rfl⟩,⟨⟨_,_,rfl⟩,N2,N3⟩⟩;have g1:=hB 14 c1 i1;have r1:=cQ code c1 (n:=14) X;have i2:=PL 14 c1 i1;generalize aW code 14 c1=a at *;obtain ⟨k,c2⟩:=a;simp only at g1 r1 i2;obtain ⟨k,rfl⟩:∃ q:Nat,k=(q:Int):=⟨k.toNat,by omega⟩;refine GL.wk (Wk.unpack 5 rfl) ?_;simp only [oset,cons_append,nil_append];unfold cx;refine kJ [0] g1 ?_;simp only [fk]
 by_cases h0:p.nodes.length=0
 ·have rA:(((p.nodes.map aO).length:Int)==0)=true:=by rw [cU,h0];rfl
  refine GL.wk (c6:=[.loc 0 0,U,.loc 1 0,.loc 6 0,U,U,U,U,U,.v (ii (k:Nat)),U,U,U,U,U,U,U,U,U,U,U,U,U,U,U,U,U,U,U,U,U,U,U,U,U,U,U,U,U,U,U,U,U,U,U,U,U,U,U,U,U,U,U,U,U,U,U,U,U,U,U,U,U,U,U,U,U,U,U,U,U,U,U,U,U,U,U,U,U,U,U,U,U,U,U,U,U,U,U,U,U,U,U,U,U,U,U,U,U,U,U,U,U]) (aU:=[jF code c2,.box 28 [.v (.slice none 0 0),.v (.slice none 0 0),.v (.slice none 0 0),.v (.slice none 0 0)],.vec 9 1 (jM p.globals).length (jM p.globals),.vec 98 2 (p.arrays.map bY).length (p.arrays.map bY),.vec 65 3 (p.fns.map br).length (p.fns.map br),.gone,.box 28 (aL p)]) ?_ ?_
  ·refine Wk.trans (Wk.Iw (code:=code) (c:=c2) HG ?_) ?_
   ·exact fU rfl
   ·exact Wk.aX aw
  refine ab ?_;refine mh ?_;exact ⟨c2,p,i2,by omega,dQ,rfl,rfl⟩
 ·have rA:((p.nodes.length:Int)==0)=false:=by simp only [beq_eq_false_iff_ne];omega
  have g2:=hB (p.nodes.length:Int) c2 i2;have r2:=cQ code c2 (n:=(p.nodes.length:Int)) X;have i3:=PL (p.nodes.length:Int) c2 i2;generalize aW code (p.nodes.length:Int) c2=a at *;obtain ⟨i,c3⟩:=a;simp only at g2 r2 i3;obtain ⟨i,rfl⟩:∃ q:Nat,i=(q:Int):=⟨i.toNat,by omega⟩
  have hi:i < p.nodes.length:=by omega
  have hw:cv p<=600000+10 * 0:=hw;refine ab ?_;refine kJ [0] g2 ?_;simp only [fk];refine ab ?_;refine GW.join (nr code k i 1) ?_ ?_
  ·by_cases hk:(k:Int)=0
   ·have eZ:((k:Int)==0)=true:=by rw [hk];rfl
    obtain ⟨x,hx⟩:∃ x,p.nodes[i]?=some x:=⟨p.nodes[i]'X,ec _⟩;obtain ⟨y,hy⟩:∃ y,ns[i]?=some y:=⟨ns[i]'X,ec _⟩
    have bn:(List.zipWith dn p.nodes ns)[i]?=some [.v (ii x.kind),.v (ii x.at_),.v (ii x.n),.v (sv x.s),.v y]:=by rw [getElem?_zipWith,hx,hy];rfl
    have iF:(List.zipWith dn p.nodes ns).length=p.nodes.length:=by rw [rj];omega
    have g3:=hB 16 c3 i3;have qx:=PL 16 c3 i3;have r3:=cQ code c3 (n:=16) X;generalize aW code 16 c3=a at *;obtain ⟨z,c4⟩:=a;simp only at g3 qx r3;have e1:=tF (o:=0) (g:=.v (ii z)) (x:=x) (x':=({ kind:=z,at_:=x.at_,n:=x.n,s:=x.s,kids:=x.kids }:Nd)) (fun y=>rfl) N2 hx;have e2:=tN (x:=x) (x':=({ kind:=z,at_:=x.at_,n:=x.n,s:=x.s,kids:=x.kids }:Nd)) rfl (ns:=ns) hx;refine zaT ?_;refine OA rfl rfl (GL.Dz rfl rfl iF bn rfl rfl rfl rfl ?_);refine GL.nil (bo (dm.mk zeG ?_))
    refine zcX ?_;refine ⟨_,_,Wk.aX aw,c4,⟨p.globals,p.arrays,p.fns,p.nodes.set i ({ kind:=z,at_:=x.at_,n:=x.n,s:=x.s,kids:=x.kids }:Nd)⟩,_,_,_,_,ns,rfl,?_,qx,⟨HG.g,HG.a,HG.f,HG.n.same hx rfl⟩,?_,sD dQ i ?_,by rw [length_set];exact hi⟩
    ·exact zbI
    ·have:=yG p i x ({ kind:=z,at_:=x.at_,n:=x.n,s:=x.s,kids:=x.kids }:Nd) hx;simp only at *;omega
    ·exact zdB
   ·have eZ:((k:Int)==0)=false:=by simpa using hk
    refine ab ?_;exact ⟨_,_,Wk.aX aw,nr.next ⟨c3,p,_,_,_,_,ns,rfl,rfl,i3,HG,hw,dQ,hi⟩⟩
  rintro _ _ ⟨c,p,_,_,_,_,ns,rfl,rfl,ic,⟨⟨ag,cg,rfl⟩,⟨aa,ca,rfl⟩,⟨af,cf,rfl⟩,⟨⟨an,cn,rfl⟩,N2,N3⟩⟩,hw,dQ,hi⟩;have HG:nu p (.slice ag p.globals.length cg) (.slice aa p.arrays.length ca) (.slice af p.fns.length cf) (.slice an p.nodes.length cn) ns:=⟨⟨_,_,rfl⟩,⟨_,_,rfl⟩,⟨_,_,rfl⟩,⟨⟨_,_,rfl⟩,N2,N3⟩⟩;refine zaR ?_;refine GW.join (nr code k i 2) ?_ ?_
  ·by_cases hk:(k:Int)=1
   ·have eZ:((k:Int)==1)=true:=by rw [hk];rfl
    obtain ⟨x,hx⟩:∃ x,p.nodes[i]?=some x:=⟨p.nodes[i]'X,ec _⟩;obtain ⟨y,hy⟩:∃ y,ns[i]?=some y:=⟨ns[i]'X,ec _⟩
    have bn:(List.zipWith dn p.nodes ns)[i]?=some [.v (ii x.kind),.v (ii x.at_),.v (ii x.n),.v (sv x.s),.v y]:=by rw [getElem?_zipWith,hx,hy];rfl
    have iF:(List.zipWith dn p.nodes ns).length=p.nodes.length:=by rw [rj];omega
    have g3:=hB 6 c ic;have qx:=PL 6 c ic;have r3:=cQ code c (n:=6) X;generalize aW code 6 c=a at *;obtain ⟨z,c4⟩:=a;simp only at g3 qx r3;obtain ⟨q,rfl⟩:∃ q:Nat,z=(q:Int):=⟨z.toNat,by omega⟩;have hr:=qR (l:=[[],[88],[119,104,105,108,101],[111,107],[43],[45]]) (m:=q) (by show q < 6;omega);have hp:=mF (l:=[[],[88],[119,104,105,108,101],[111,107],[43],[45]]) (n:=5) aE (q:Int);generalize mD [[],[88],[119,104,105,108,101],[111,107],[43],[45]] (q:Int)=sg at *;have e1:=tF (o:=3) (g:=.v (sv sg)) (x:=x) (x':=({ kind:=x.kind,at_:=x.at_,n:=x.n,s:=sg,kids:=x.kids }:Nd)) (fun y=>rfl) N2 hx;have e2:=tN (x:=x) (x':=({ kind:=x.kind,at_:=x.at_,n:=x.n,s:=sg,kids:=x.kids }:Nd)) rfl (ns:=ns) hx;refine ab ?_;refine aS (aC 0 3 (.q 4 (.f 3 (.a 5 (aC 6 4 (.a 10 .nil))) 5 (.a 3 (aC 6 4 (.a 10 .nil)))))) ?_;refine aq ?_;refine GO.fork ?_ ?_
    ·refine zaN ?_;refine lx [0] g3 ?_;simp only [fk];refine zan ?_;refine OA rfl rfl (GL.Dz rfl rfl iF bn rfl rfl rfl rfl ?_);refine GL.nil (bo (dm.mk zeG ?_))
     refine zcX ?_;refine ⟨_,_,Wk.aX aw,c4,⟨p.globals,p.arrays,p.fns,p.nodes.set i ({ kind:=x.kind,at_:=x.at_,n:=x.n,s:=sg,kids:=x.kids }:Nd)⟩,_,_,_,_,ns,rfl,?_,qx,⟨HG.g,HG.a,HG.f,HG.n.same hx rfl⟩,?_,sD dQ i ?_,by rw [length_set];exact hi⟩
     ·exact zbI
     ·exact zco
     ·exact zdB
    ·refine lx [0] g3 ?_;simp only [fk];refine aq ?_;refine dA ?_;refine zan ?_;refine OA rfl rfl (GL.Dz rfl rfl iF bn rfl rfl rfl rfl ?_);refine GL.nil (bo (dm.mk zeG ?_))
     refine zcX ?_;refine ⟨_,_,Wk.aX aw,c4,⟨p.globals,p.arrays,p.fns,p.nodes.set i ({ kind:=x.kind,at_:=x.at_,n:=x.n,s:=sg,kids:=x.kids }:Nd)⟩,_,_,_,_,ns,rfl,?_,qx,⟨HG.g,HG.a,HG.f,HG.n.same hx rfl⟩,?_,sD dQ i ?_,by rw [length_set];exact hi⟩
     ·exact zbI
     ·exact zco
     ·exact zdB
   ·have eZ:((k:Int)==1)=false:=by simpa using hk
    exact zam
  rintro _ _ ⟨c,p,_,_,_,_,ns,rfl,rfl,ic,⟨⟨ag,cg,rfl⟩,⟨aa,ca,rfl⟩,⟨af,cf,rfl⟩,⟨⟨an,cn,rfl⟩,N2,N3⟩⟩,hw,dQ,hi⟩;have HG:nu p (.slice ag p.globals.length cg) (.slice aa p.arrays.length ca) (.slice af p.fns.length cf) (.slice an p.nodes.length cn) ns:=⟨⟨_,_,rfl⟩,⟨_,_,rfl⟩,⟨_,_,rfl⟩,⟨⟨_,_,rfl⟩,N2,N3⟩⟩;refine zaR ?_;refine GW.join (nr code k i 3) ?_ ?_
  ·by_cases hk:(k:Int)=2
   ·have eZ:((k:Int)==2)=true:=by rw [hk];rfl
    obtain ⟨x,hx⟩:∃ x,p.nodes[i]?=some x:=⟨p.nodes[i]'X,ec _⟩;obtain ⟨y,hy⟩:∃ y,ns[i]?=some y:=⟨ns[i]'X,ec _⟩
    have bn:(List.zipWith dn p.nodes ns)[i]?=some [.v (ii x.kind),.v (ii x.at_),.v (ii x.n),.v (sv x.s),.v y]:=by rw [getElem?_zipWith,hx,hy];rfl
    have iF:(List.zipWith dn p.nodes ns).length=p.nodes.length:=by rw [rj];omega
    have g3:=hR c ic;have qx:=Ba (code:=code) ic;have r3:=tC code c;generalize qU code c=a at *;obtain ⟨z,c4⟩:=a;simp only at g3 qx r3;have e1:=tF (o:=2) (g:=.v (ii z)) (x:=x) (x':=({ kind:=x.kind,at_:=x.at_,n:=z,s:=x.s,kids:=x.kids }:Nd)) (fun y=>rfl) N2 hx;have e2:=tN (x:=x) (x':=({ kind:=x.kind,at_:=x.at_,n:=z,s:=x.s,kids:=x.kids }:Nd)) rfl (ns:=ns) hx;refine zaT ?_;refine OA rfl rfl (GL.Dz rfl rfl iF bn rfl rfl rfl rfl ?_);refine GL.nil (bo (dm.mk zeG ?_))
    refine zcX ?_;refine ⟨_,_,Wk.aX aw,c4,⟨p.globals,p.arrays,p.fns,p.nodes.set i ({ kind:=x.kind,at_:=x.at_,n:=z,s:=x.s,kids:=x.kids }:Nd)⟩,_,_,_,_,ns,rfl,?_,qx,⟨HG.g,HG.a,HG.f,HG.n.same hx rfl⟩,?_,sD dQ i ?_,by rw [length_set];exact hi⟩
    ·exact zbI
    ·have:=yG p i x ({ kind:=x.kind,at_:=x.at_,n:=z,s:=x.s,kids:=x.kids }:Nd) hx;simp only at *;omega
    ·exact r3
   ·have eZ:((k:Int)==2)=false:=by simpa using hk
    exact zam
  rintro _ _ ⟨c,p,_,_,_,_,ns,rfl,rfl,ic,⟨⟨ag,cg,rfl⟩,⟨aa,ca,rfl⟩,⟨af,cf,rfl⟩,⟨⟨an,cn,rfl⟩,N2,N3⟩⟩,hw,dQ,hi⟩;have HG:nu p (.slice ag p.globals.length cg) (.slice aa p.arrays.length ca) (.slice af p.fns.length cf) (.slice an p.nodes.length cn) ns:=⟨⟨_,_,rfl⟩,⟨_,_,rfl⟩,⟨_,_,rfl⟩,⟨⟨_,_,rfl⟩,N2,N3⟩⟩;refine zaR ?_;refine GW.join (nr code k i 4) ?_ ?_
  ·by_cases hk:(k:Int)=3
   ·have eZ:((k:Int)==3)=true:=by rw [hk];rfl
    obtain ⟨x,hx⟩:∃ x,p.nodes[i]?=some x:=⟨p.nodes[i]'X,ec _⟩;obtain ⟨y,hy⟩:∃ y,ns[i]?=some y:=⟨ns[i]'X,ec _⟩
    have bn:(List.zipWith dn p.nodes ns)[i]?=some [.v (ii x.kind),.v (ii x.at_),.v (ii x.n),.v (sv x.s),.v y]:=by rw [getElem?_zipWith,hx,hy];rfl
    have iF:(List.zipWith dn p.nodes ns).length=p.nodes.length:=by rw [rj];omega
    obtain ⟨a3,d3,rfl⟩:=N3 i x y hx hy
    have Db:p.nodes.length<=1000000:=by have:=(wJ p).2.2.2;omega
    have aal:x.kids.length<=1000000:=by have:=XV hx;omega
    have kA:(lZ x.kids).length=x.kids.length:=by simp [lZ]
    have gy:(List.zipWith iu p.nodes ns)[i]?=some (.vech 3 1 (lZ x.kids) (.slice a3 x.kids.length d3)):=by rw [getElem?_zipWith,hx,hy];rfl
    have Tw:=fun (y:Value)=>xN (x.kids++[((p.nodes.length:Int) - 1)]) y N2 hx
    have ei:=fun (y:Value)=>xJ (x.kids++[((p.nodes.length:Int) - 1)]) y N2 hx
    have lB:lZ (x.kids++[((p.nodes.length:Int) - 1)])=lZ x.kids++[[.v (ii ((p.nodes.length:Int) - 1))]]:=by simp [lZ]
    rw [lB] at ei
    have iK:=fun (a:Option Addr) (c:Nat)=>HG.n.put hx (x.kids++[((p.nodes.length:Int) - 1)]) (b:=a) (d:=c) (n:=(lZ x.kids).length+1) (by simp [lZ])
    have Jl:∀ x0 x1 x2 x3 x4 x5 x6 x7:Ob,(x0::x1::x2::x3::x4::x5::x6::x7::List.zipWith iu p.nodes ns)[i+8]?=some (.vech 3 1 (lZ x.kids) (.slice a3 x.kids.length d3)):=fun _ _ _ _ _ _ _ _=>gy
    refine ab ?_;refine aS (aC 0 13 (.a 13 (.a 14 (.q 15 (.q 16 (.a 17 .nil)))))) ?_;refine zan ?_;refine OA rfl rfl (GL.TW rfl rfl rfl rfl (GL.nil (bo (dm.mk zeH ?_))))
    refine jx cR dw ?_;refine aq ?_;refine OA rfl rfl (GL.sQ (i+8) (news:=[[.v (ii ((p.nodes.length:Int) - 1))]]) rfl rfl (Jl _ _ _ _ _ _ _ _) rfl rfl rfl ⟨by show _+1<=_;omega,by show (_+1) * _<=_;omega⟩ ?_);intro a4 c4;refine GL.nil (bo (dm.mk zeH ?_))
    refine jx cR (by simp only [oset];rw [ei]) ?_;refine zan ?_;refine OA rfl rfl (GL.Dz rfl rfl iF bn rfl rfl rfl rfl ?_);refine GL.nil (bo (dm.mk zeG ?_))
    refine zcX ?_;rw [Tw];refine ⟨_,_,Wk.aX aw,c,⟨p.globals,p.arrays,p.fns,p.nodes.set i (dX x (x.kids++[((p.nodes.length:Int) - 1)]))⟩,_,_,_,_,_,rfl,rfl,ic,⟨HG.g,HG.a,HG.f,iK _ _⟩,?_,sD dQ i ?_,by rw [length_set];exact hi⟩
    ·have:=yG p i x (dX x (x.kids++[((p.nodes.length:Int) - 1)])) hx;unfold dX at *;simp only [aJ,length_cons,length_nil] at *;omega
    ·exact zdB
   ·have eZ:((k:Int)==3)=false:=by simpa using hk
    exact zam
  rintro _ _ ⟨c,p,_,_,_,_,ns,rfl,rfl,ic,⟨⟨ag,cg,rfl⟩,⟨aa,ca,rfl⟩,⟨af,cf,rfl⟩,⟨⟨an,cn,rfl⟩,N2,N3⟩⟩,hw,dQ,hi⟩;have HG:nu p (.slice ag p.globals.length cg) (.slice aa p.arrays.length ca) (.slice af p.fns.length cf) (.slice an p.nodes.length cn) ns:=⟨⟨_,_,rfl⟩,⟨_,_,rfl⟩,⟨_,_,rfl⟩,⟨⟨_,_,rfl⟩,N2,N3⟩⟩;refine zaR ?_;refine GW.join (nr code k i 5) ?_ ?_
  ·by_cases hk:(k:Int)=4
   ·have eZ:((k:Int)==4)=true:=by rw [hk];rfl
    obtain ⟨x,hx⟩:∃ x,p.nodes[i]?=some x:=⟨p.nodes[i]'X,ec _⟩;obtain ⟨y,hy⟩:∃ y,ns[i]?=some y:=⟨ns[i]'X,ec _⟩
    have bn:(List.zipWith dn p.nodes ns)[i]?=some [.v (ii x.kind),.v (ii x.at_),.v (ii x.n),.v (sv x.s),.v y]:=by rw [getElem?_zipWith,hx,hy];rfl
    have iF:(List.zipWith dn p.nodes ns).length=p.nodes.length:=by rw [rj];omega
    have g3:=hR c ic;have qx:=Ba (code:=code) ic;have r3:=tC code c;generalize qU code c=a at *;obtain ⟨z,c4⟩:=a;simp only at g3 qx r3;have e1:=tF (o:=1) (g:=.v (ii z)) (x:=x) (x':=({ kind:=x.kind,at_:=z,n:=x.n,s:=x.s,kids:=x.kids }:Nd)) (fun y=>rfl) N2 hx;have e2:=tN (x:=x) (x':=({ kind:=x.kind,at_:=z,n:=x.n,s:=x.s,kids:=x.kids }:Nd)) rfl (ns:=ns) hx;refine zaT ?_;refine OA rfl rfl (GL.Dz rfl rfl iF bn rfl rfl rfl rfl ?_);refine GL.nil (bo (dm.mk zeG ?_))
    refine zcX ?_;refine ⟨_,_,Wk.aX aw,c4,⟨p.globals,p.arrays,p.fns,p.nodes.set i ({ kind:=x.kind,at_:=z,n:=x.n,s:=x.s,kids:=x.kids }:Nd)⟩,_,_,_,_,ns,rfl,?_,qx,⟨HG.g,HG.a,HG.f,HG.n.same hx rfl⟩,?_,sD dQ i ?_,by rw [length_set];exact hi⟩
    ·exact zbI
    ·have:=yG p i x ({ kind:=x.kind,at_:=z,n:=x.n,s:=x.s,kids:=x.kids }:Nd) hx;simp only at *;omega
    ·exact zdB
   ·have eZ:((k:Int)==4)=false:=by simpa using hk
    exact zam
  rintro _ _ ⟨c,p,_,_,_,_,ns,rfl,rfl,ic,⟨⟨ag,cg,rfl⟩,⟨aa,ca,rfl⟩,⟨af,cf,rfl⟩,⟨⟨an,cn,rfl⟩,N2,N3⟩⟩,hw,dQ,hi⟩;have HG:nu p (.slice ag p.globals.length cg) (.slice aa p.arrays.length ca) (.slice af p.fns.length cf) (.slice an p.nodes.length cn) ns:=⟨⟨_,_,rfl⟩,⟨_,_,rfl⟩,⟨_,_,rfl⟩,⟨⟨_,_,rfl⟩,N2,N3⟩⟩;unfold nz cx;simp only [cons_append,nil_append];refine GW.seq ?_;refine GW.seq ?_;refine GW.join (fun fr Γ=>∃ (b:Bool) (c:dj) (p:Src) (hg ha hf hn:Value) (ns:List Value),fr=[.loc 0 0,U,.loc 1 0,.loc 6 0,.v (ii (k:Nat)),.v (ii (i:Nat)),U,U,U,U,U,U,U,U,U,U,U,U,U,U,U,U,U,U,U,U,U,U,U,U,U,U,U,U,U,U,U,U,U,U,U,U,U,U,U,U,U,U,U,U,U,U,U,U,U,U,U,U,U,U,U,U,U,U,U,U,U,U,U,U,U,U,U,U,U,U,U,U,U,U,U,U,U,U,U,.v (.bool b),U,U,U,U,U,U,U,U,U,U,U,U,U,U,U,U,U]/\Γ=nz code c p hg ha hf hn ns/\c.i<=code.length/\nu p hg ha hf hn ns/\cv p<=600000+10 * 5/\gY p/\i < p.nodes.length/\(b=true->0 < p.fns.length)) ?_ ?_
  ·by_cases hk:(k:Int)=5
   ·have eZ:((k:Int)==5)=true:=by rw [hk];rfl
    refine ab ?_;exact ⟨_,_,Wk.aX aw,decide ((0:Int) < (p.fns.length:Int)),c,p,_,_,_,_,ns,rfl,rfl,ic,HG,hw,dQ,hi,fun h=>by have:=lJ h;omega⟩
   ·have eZ:((k:Int)==5)=false:=by simpa using hk
    refine ab ?_;exact ⟨_,_,Wk.aX aw,false,c,p,_,_,_,_,ns,rfl,rfl,ic,HG,hw,dQ,hi,fun h=>by cases h⟩
  rintro _ _ ⟨b,c,p,_,_,_,_,ns,rfl,rfl,ic,⟨⟨ag,cg,rfl⟩,⟨aa,ca,rfl⟩,⟨af,cf,rfl⟩,⟨⟨an,cn,rfl⟩,N2,N3⟩⟩,hw,dQ,hi,HJ⟩;have HG:nu p (.slice ag p.globals.length cg) (.slice aa p.arrays.length ca) (.slice af p.fns.length cf) (.slice an p.nodes.length cn) ns:=⟨⟨_,_,rfl⟩,⟨_,_,rfl⟩,⟨_,_,rfl⟩,⟨⟨_,_,rfl⟩,N2,N3⟩⟩;refine zaR ?_;refine GW.join (nr code k i 6) ?_ ?_
  ·cases b with
   | true =>
    have HJ:=HJ rfl
    obtain ⟨f,r,pF⟩:∃ f r,p.fns=f::r:=by
     cases hq:p.fns with
     | nil=>rw [hq] at HJ;exact absurd HJ (Nat.lt_irrefl 0)
     | cons f r=>exact ⟨f,r,rfl⟩
    have g3:=hR c ic;have qx:=Ba (code:=code) ic;have r3:=tC code c;generalize qU code c=a at *;obtain ⟨z,c4⟩:=a;simp only at g3 qx r3
    have bn:(p.fns.map br)[0]?=some [.v (sv f.name),strs f.params,.v (ii f.body)]:=by rw [pF];rfl
    have EO:0 < (p.fns.map br).length:=by rw [pF];exact Nat.succ_pos _
    refine ab ?_;refine aS (aC 0 3 (.a 3 (.q 4 (.q 5 (.a 6 .nil))))) ?_;refine aq ?_;refine lx [0] g3 ?_;simp only [fk];refine aq ?_;refine OA rfl rfl (GL.Dz rfl rfl rfl bn rfl rfl rfl rfl ?_);refine GL.nil (bo (dm.mk (by repeat (first | exact cS.n | (apply cS.w;(· decide +kernel)) | (apply cS.y;(· first | (apply YQ.t;(· exact rfl);(· exact rfl);(· (first | exact YG.Qj 4 0 rfl rfl rfl rfl (dG _ _ _ _) EO | (first | exact fi | (apply K.idx;first | exact YG.idxV rfl rfl rfl ay X | exact YG.aM 0 rfl rfl rfl az | exact YG.aM 1 rfl rfl rfl az | exact YG.aM 2 rfl rfl rfl az | exact YG.aM 3 rfl rfl rfl az | exact YG.aM 4 rfl rfl rfl az | exact YG.aM 5 rfl rfl rfl az | exact YG.aM 6 rfl rfl rfl az) | exact fj | exact YG.fg 1 rfl rfl ay ay | exact YG.mv | exact YG.ky | (apply K.bin;first | exact YG.go rfl | exact YG.ja rfl rfl X | exact YG.gZ rfl rfl | exact YG.ig rfl rfl | exact YG.mN rfl rfl | exact YG.mR rfl rfl | exact YG.cat rfl rfl X | exact YG.cat rfl rfl ze8 | exact YG.addN rfl rfl X | exact YG.add rfl rfl X | exact YG.sub rfl rfl X | exact YG.mul rfl rfl X | exact YG.km rfl rfl X | exact YG.quo rfl rfl X | exact YG.rem rfl rfl X | exact YG.gi rfl rfl) | exact eN | exact eM | exact fE | exact eh | exact eE | (apply K.idx;first | exact YG.fR rfl rfl aH | exact YG.b6 rfl rfl aH rfl | exact YG.b6 rfl rfl aH X | exact YG.jd rfl rfl X) | exact YG.ext rfl rfl | exact YG.go rfl | (apply K.nR;first | exact YG.kl rfl rfl rfl X | exact YG.kj rfl rfl X | exact YG.ki rfl rfl X | exact YG.fw 1 rfl rfl rfl ay) | exact YG.ia rfl rfl aH | exact YG.idxSC rfl rfl aH rfl | exact eG | exact YG.build rfl | exact YG.neg rfl X | exact YG.hH rfl rfl | exact YG.lM rfl zfc | exact YG.str rfl ay)))) | (apply YQ.t;(· exact rfl);(· apply o9;(· exact rfl);(· first | exact rfl | assumption));(· (first | exact YG.Qj 4 0 rfl rfl rfl rfl (dG _ _ _ _) EO | (first | exact fi | (apply K.idx;first | exact YG.idxV rfl rfl rfl ay X | exact YG.aM 0 rfl rfl rfl az | exact YG.aM 1 rfl rfl rfl az | exact YG.aM 2 rfl rfl rfl az | exact YG.aM 3 rfl rfl rfl az | exact YG.aM 4 rfl rfl rfl az | exact YG.aM 5 rfl rfl rfl az | exact YG.aM 6 rfl rfl rfl az) | exact fj | exact YG.fg 1 rfl rfl ay ay | exact YG.mv | exact YG.ky | (apply K.bin;first | exact YG.go rfl | exact YG.ja rfl rfl X | exact YG.gZ rfl rfl | exact YG.ig rfl rfl | exact YG.mN rfl rfl | exact YG.mR rfl rfl | exact YG.cat rfl rfl X | exact YG.cat rfl rfl ze8 | exact YG.addN rfl rfl X | exact YG.add rfl rfl X | exact YG.sub rfl rfl X | exact YG.mul rfl rfl X | exact YG.km rfl rfl X | exact YG.quo rfl rfl X | exact YG.rem rfl rfl X | exact YG.gi rfl rfl) | exact eN | exact eM | exact fE | exact eh | exact eE | (apply K.idx;first | exact YG.fR rfl rfl aH | exact YG.b6 rfl rfl aH rfl | exact YG.b6 rfl rfl aH X | exact YG.jd rfl rfl X) | exact YG.ext rfl rfl | exact YG.go rfl | (apply K.nR;first | exact YG.kl rfl rfl rfl X | exact YG.kj rfl rfl X | exact YG.ki rfl rfl X | exact YG.fw 1 rfl rfl rfl ay) | exact YG.ia rfl rfl aH | exact YG.idxSC rfl rfl aH rfl | exact eG | exact YG.build rfl | exact YG.neg rfl X | exact YG.hH rfl rfl | exact YG.lM rfl zfc | exact YG.str rfl ay)))) | (apply YQ.f;(· exact rfl);(· apply pX;(· exact rfl);(· first | exact rfl | assumption))))))) ?_))
    refine zcX ?_;refine ⟨_,_,Wk.aX aw,c4,⟨p.globals,p.arrays,({ name:=f.name,params:=f.params,body:=z }:Go.Sp.Fn)::r,p.nodes⟩,_,_,.slice af p.fns.length cf,_,ns,rfl,?_,qx,⟨HG.g,HG.a,?_,HG.n⟩,?_,⟨dQ.arrays,dQ.nodes⟩,hi⟩
    ·unfold nz cx;simp only;rw [pF];rfl
    ·exact ⟨_,_,by rw [pF];rfl⟩
    ·have:=VJ p f ({ name:=f.name,params:=f.params,body:=z }:Go.Sp.Fn) r pF rfl rfl;omega
   | false =>
    exact zam
  rintro _ _ ⟨c,p,_,_,_,_,ns,rfl,rfl,ic,⟨⟨ag,cg,rfl⟩,⟨aa,ca,rfl⟩,⟨af,cf,rfl⟩,⟨⟨an,cn,rfl⟩,N2,N3⟩⟩,hw,dQ,hi⟩;have HG:nu p (.slice ag p.globals.length cg) (.slice aa p.arrays.length ca) (.slice af p.fns.length cf) (.slice an p.nodes.length cn) ns:=⟨⟨_,_,rfl⟩,⟨_,_,rfl⟩,⟨_,_,rfl⟩,⟨⟨_,_,rfl⟩,N2,N3⟩⟩;refine zaR ?_;refine GW.join (nr code k i 7) ?_ ?_
  ·by_cases hk:(k:Int)=6
   ·have eZ:((k:Int)==6)=true:=by rw [hk];rfl
    have g3:=hR c ic;have qx:=Ba (code:=code) ic;have r3:=tC code c;generalize qU code c=a at *;obtain ⟨z,c4⟩:=a;simp only at g3 qx r3
    have S1:p.arrays.length<=1000000:=by have:=(wJ p).2.1;omega
    have iF:(p.arrays.map bY).length=p.arrays.length:=cU _;refine ab ?_;refine aS (aC 0 3 (.a 3 (.q 4 (.a 5 (.a 6 (.q 7 (.a 8 .nil))))))) ?_;refine aq ?_;refine lx [0] g3 ?_;simp only [fk];refine aq ?_;refine zaN ?_;refine OA rfl rfl (GL.sQ 3 (news:=[[.v (sv [122,122]),.v (ii z)]]) rfl rfl rfl iF rfl rfl ⟨by show _+1<=_;omega,by show (_+1) * _<=_;omega⟩ ?_);intro a5 c5;refine nV ?_;refine bF ?_;refine ⟨_,_,Wk.aX aw,c4,⟨p.globals,p.arrays++[⟨[122,122],z⟩],p.fns,p.nodes⟩,_,.slice a5 (p.arrays.length+1) c5,_,_,ns,rfl,?_,qx,⟨HG.g,⟨a5,c5,?_⟩,HG.f,HG.n⟩,?_,⟨fun a ha=>?_,dQ.nodes⟩,hi⟩
    ·unfold nz cx;simp only;rw [lI];rfl
    ·simp
    ·rw [VI];exact zdq
    ·rcases nY ha with ha | ha
     ·exact dQ.arrays a ha
     ·rw [List.mem_singleton] at ha;subst ha;exact r3
   ·have eZ:((k:Int)==6)=false:=by simpa using hk
    exact zam
  rintro _ _ ⟨c,p,_,_,_,_,ns,rfl,rfl,ic,⟨⟨ag,cg,rfl⟩,⟨aa,ca,rfl⟩,⟨af,cf,rfl⟩,⟨⟨an,cn,rfl⟩,N2,N3⟩⟩,hw,dQ,hi⟩;have HG:nu p (.slice ag p.globals.length cg) (.slice aa p.arrays.length ca) (.slice af p.fns.length cf) (.slice an p.nodes.length cn) ns:=⟨⟨_,_,rfl⟩,⟨_,_,rfl⟩,⟨_,_,rfl⟩,⟨⟨_,_,rfl⟩,N2,N3⟩⟩;refine GW.wk (c6:=[.loc 0 0,U,.loc 1 0,.loc 6 0,U,U,U,U,U,U,U,U,U,U,U,U,U,U,U,U,U,U,U,U,U,U,U,U,U,U,U,U,U,U,U,U,U,U,U,U,U,U,U,U,U,U,U,U,U,U,U,U,U,U,U,U,U,U,U,U,U,U,U,U,U,U,U,U,U,U,U,U,U,U,U,U,U,U,U,U,U,U,U,U,U,U,U,U,U,U,U,U,U,U,U,U,U,U,U,U,U,U,U]) (aU:=[jF code c,.box 28 [.v (.slice none 0 0),.v (.slice none 0 0),.v (.slice none 0 0),.v (.slice none 0 0)],.vec 9 1 (jM p.globals).length (jM p.globals),.vec 98 2 (p.arrays.map bY).length (p.arrays.map bY),.vec 65 3 (p.fns.map br).length (p.fns.map br),.gone,.box 28 (aL p)]) ?_ ?_
  ·refine Wk.trans (Wk.Iw (code:=code) (c:=c) HG ?_) ?_
   ·exact fU rfl
   ·exact Wk.aX aw
  refine ab ?_;refine mh ?_;exact ⟨c,p,ic,by omega,dQ,rfl,rfl⟩
end Go.Xg
set_option maxHeartbeats 1000000
namespace Go.Xg
open Go.RowKit Go.Xw Go.Proofs Tryz Go.Im
open Go.Xp (Tok aB)
open Go.Sp (Src)
attribute [local irreducible] GW GL GO YG GC GA bu bs
theorem Nl (x:ae) (h:x.length > 6000) (hl:x.length<=1099511627776):GF prog 85 [.v (sv x)] [] (.tup [eI [],.v (ii 1),.v (ii 0)]) []:=by
 have hd:decide ((6000:Int) < (x.length:Int))=true:=decide_eq_true X;refine aj func85 ntmps85 ?_;exact zcG
theorem Kl (x:ae) (ts:List Tok) (c z:Int) (h:¬ x.length > 6000) (hX:GF prog 120 [.v (sv x)] [] (.tup [eI ts,.v (ii c),.v (ii z)]) []):GF prog 85 [.v (sv x)] [] (.tup [eI ts,.v (ii c),.v (ii z)]) []:=by
 have hd:decide ((6000:Int) < (x.length:Int))=false:=decide_eq_false X;refine aj func85 ntmps85 ?_;refine V [] hX ?_;refine yF ?_;exact zag
theorem D5 (x:ae) (ts:List Tok) (c z:Int) (hL:GF prog 85 [.v (sv x)] [] (.tup [eI ts,.v (ii c),.v (ii z)]) []) (hc:(c != 0)=true):GF prog 33 [.v (sv x)] [] (.tup [.agg (aL ⟨[],[],[],[]⟩),.v (ii c),.v (ii z)]) []:=by
 refine aj func33 ntmps33 ?_;refine V [] hL ?_;refine wQ ?_;exact zaK
theorem zr (x:ae) (ts:List Tok) (z k a:Int) (r:Src) (hx:x.length<=6000) (hL:GF prog 85 [.v (sv x)] [] (.tup [eI ts,.v (ii 0),.v (ii z)]) []) (hP:GF prog 86 [eI ts,.v (ii (x.length:Int))] [] (.tup [.agg (aL r),.v (ii k),.v (ii a)]) []):GF prog 33 [.v (sv x)] [] (.tup [.agg (aL r),.v (ii k),.v (ii a)]) []:=by
 refine aj func33 ntmps33 ?_;refine V [] hL ?_;refine V [] hP ?_;refine kZ ?_;exact zag
theorem G9 (x:ae) (hx:x.length<=1099511627776):GF prog 33 [.v (sv x)] [] (.tup [.agg (aL (qd x).1),.v (ii (qd x).2.1),.v (ii (qd x).2.2)]) []:=by
 by_cases hl:x.length > 6000
 ·rw [xK hl];exact D5 x [] 1 0 (Nl x hl hx) rfl
 ·obtain ⟨ts,c,z,q,st,hr⟩:=reads x;have hL:=Kl x ts c z hl (Fo x _ ts c z X hr.lex);have hlen:=hr.len;rw [Cj hl hr]
  by_cases hc:c=0
  ·subst hc;rw [ad zeL];have hP:=zm (G:=ts.length+1) (f:=40 * ts.length+100) ts (x.length:Int) q st X X (fun h=>by have:=(hr.ok h).2;omega) hr.read
   by_cases hq:q.code=0
   ·rw [ad (by simpa using hq)]
    by_cases h8:aB st.trees > 800
    ·rw [ah h8];unfold Dw at hP;rw [ah hq,ah h8] at hP;exact zr x ts z 10 0 ⟨[],[],[],[]⟩ X hL hP
    ·rw [ad h8];rw [Mn hq h8 (hr.ok hq).1.len] at hP;exact zr x ts z 0 0 _ X hL hP
   ·rw [ah (by simpa using hq)];unfold Dw at hP;rw [ad hq] at hP;exact zr x ts z q.code q.at_ ⟨[],[],[],[]⟩ X hL hP
  ·rw [ah hc];exact D5 x ts c z hL zfu
end Go.Xg
namespace Go.Xg
open Go.RowKit Go.Xw Go.Proofs Go.WideShapes Go.Deep
def UB (c:UInt8):Value:=.int .u8 (c.toNat:Int)
theorem Q2 (c:UInt8):flat (UB c):=fun a n d e=>by cases e
theorem wf_u8 {z:Int} (h:(Lit.int .u8 z).wf=true):∃ c:UInt8,z=((c.toNat:Nat):Int):=by
 simp only [Lit.wf,au,decide_eq_true_eq] at h
 have D:IntKind.min .u8=0:=by decide
 have I:IntKind.max .u8=255:=by decide
 rw [D,I] at h;refine ⟨UInt8.ofNat z.toNat,?_⟩
 have h3:z.toNat < 256:=by omega
 have h4:(UInt8.ofNat z.toNat).toNat=z.toNat:=by simp [Nat.mod_eq_of_lt h3]
 rw [h4];omega
section
variable {H:Type} {enc:TypeId × Value->H} {P:Program} {W:World}
theorem Mi {t e:TypeId} {n:Nat} {v:Value} {y:DataW H × List MemPlace} (ht:P.underlying t=some (.slice e)) (he:P.underlying e=some (.int .u8)) (hc:P.cellsOf e=1) (h:DataW.trod enc P W 0 (fun _=>true) true n t [v]=some y) :
  ∃ l:ae,Nj W v (l.map UB)/\l.length<=9223372036854775807:=by
 rcases open_slice1 ht hc h with ⟨nD,_⟩ | ⟨a,len,cap,m,n',aaG,aaH,Pl,nD,_,hl,hm,u7,_,hx⟩
 ·injection nD with hv;subst hv
  exact ⟨[],⟨none,0,rfl,.inl rfl⟩,aY _⟩
 ·injection nD with hv _;subst hv
  simp only [if_true] at u7
  obtain ⟨l,D,I⟩:=yT (n:=len) (Q:=fun i (c:UInt8)=>W.cell? (a.add i)=some (UB c)) (fun i hi=>by
   obtain ⟨c1,c2⟩:=hx i X;obtain ⟨z,hs,_,hz⟩:=DataW.trod_int he c2
   injection hs with hs _
   rw [hs] at c1;obtain ⟨c,rfl⟩:=wf_u8 hz
   exact ⟨c,c1⟩)
  refine ⟨l,⟨some a,cap,by rw [cU,D],?_⟩,by rw [D];exact max_le (gm hl hm)⟩
  by_cases h0:len=0
  ·have:l=[]:=gk X;subst this;exact .inl rfl
  ·refine .inr ⟨a.block,a.off,?_,by rw [cU,D];exact hl,fun i x hi=>?_⟩
   ·have sc:l[0]?=some (l[0]'X):=ec _;have:=Ns (I 0 _ sc);obtain ⟨b,o,s⟩:=a;simp only at this;rw [this]
   ·rw [bP] at hi
    cases P0:l[i]? with
    | none=>rw [P0] at hi;cases hi
    | some c =>
     rw [P0] at hi;cases hi;exact ⟨Ny (I i c P0),Q2 c⟩
theorem Du (β:Bt) {t e:TypeId} {v:Value} {d:DataW H} {ps:List MemPlace} {r:Reach} {b0:Nat} (ht:P.underlying t=some (.slice e)) (he:P.underlying e=some (.int .u8)) (hc:P.cellsOf e=1) (hv:Value.okWide P W r b0 t v) (h:DataW.Trod enc P W 0 (fun _=>true) true t v d ps) :
  ∃ l:ae,Rel (KW W) β v (.sl 1 (bI l))/\l.length<=9223372036854775807:=by
 obtain ⟨a0,len,cap,rfl⟩:=okWide_slice ht hv;obtain ⟨fuel,hf⟩:=h;obtain ⟨l,D,I⟩:=Mi ht he hc hf;refine ⟨l,?_,I⟩;have:=Ms D β;rw [List.map_map] at this;exact this
end
end Go.Xg
