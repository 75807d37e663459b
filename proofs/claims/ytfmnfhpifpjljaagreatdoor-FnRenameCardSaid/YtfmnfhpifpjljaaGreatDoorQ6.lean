/- Part 6 of proofs that are told in their last texts. -/
import Derived.Test.YtfmnfhpifpjljaaGreatDoorQ5
open List (any_eq_false cons_append length_cons length_nil map_take nil_append)
set_option linter.unusedVariables false
set_option linter.unusedSimpArgs false
set_option linter.defProp false
set_option maxRecDepth 100000
set_option maxHeartbeats 2000000
namespace Go
def za7{A:Prop}(s:A:=by refine lV ?_;refine bn ?_;refine GW.wk (Wk.jx (t:=7) rfl rfl rfl (by simp[chunk])) ?_;refine kU ?_;exact zah):A:=s
end Go
namespace Go.Xg
open Go.RowKit Go.Xw Go.Proofs Tryz Go.Im
open GV (U)
open Go.Xp (Ar)
open Go.Sp (Src)
attribute [local irreducible] GW GL GO YG GC GA bo bq
def xQ(s:ab):GF prog 46 [.v (sv s)] [] (.v (.bool (dx s))) []:=by
 unfold dx jw jM dY
 cases o:(s==[103,101,116])
 all_goals cases b:(s==[112,117,116])
 all_goals
  refine au func46 ntmps46 ?_;exact ay
section
variable{qs:FuncId}
theorem EG[fX prog qs](q:Go.Sp.Fn->Bool)(l:List (Go.Sp.Fn))(hn:l.length<=1099511627776)(W:∀x∈l,GF prog qs [.agg (aD x)] [] (.v (.bool (q x))) []) :
  GF prog 113 [.sl 3 (l.map aD),.v (.func (.func qs) #[] #[])] [] (y4 (bN q l)) []:=by
 have C:(l.map aD).length=l.length:=by simp
 refine au func113 ntmps113 ?_;refine GW.range (l.map aD).length (fun k J u=>J=[.sl 3 (l.map aD),.v (.func (.func qs) #[] #[]),U,U,U,U,U,y4 ((l.map aD).length:Int),y4 (k:Nat),U,U,U,U,U,U,U,U,U,U]/\u=[]/\(l.take k).all (fun y=>!q y)=true) ?_ V ?_ ?_ ?_
 ·exact lk
 ·simp[aD,ii,bD,il]
 ·rintro k _ _ N⟨rfl,rfl,n⟩;rw[C]at N;obtain⟨x,w⟩:∃x,l[k]?=some x:=⟨l[k],by simp[N]⟩
  have z:(l.map aD)[k]?=some (aD x):=by grind
  have h:=W x (bP w);have m:=og (f:=q) w
  have hit:=fun o=>oY (f:=q) w o n
  unfold aD at z h
  cases i:q x with
  |true =>
   rw[i]at h;rw[hit i];refine I ?_;refine jW [] h ?_;exact aK
  |false =>
   rw[i]at h m;refine I ?_;refine jW [] h ?_;exact zbJ
 ·rintro _ _⟨rfl,rfl,n⟩;rw[C,dD]at n;rw[mr n];refine zbb ?_
  grind[bD]
theorem um[fX prog qs](q:Go.Sp.Fn->Bool)(l:List (Go.Sp.Fn))(hn:l.length<=1099511627776)(W:∀x∈l,GF prog qs [.agg (aD x)] [] (.v (.bool (q x))) []) :
  GF prog 66 [.sl 3 (l.map aD),.v (.func (.func qs) #[] #[])] [] (.v (.bool (l.any q))) []:=by
 have h:=EG q l hn W;rw[<-xG];generalize bN q l=z at *;refine au func66 ntmps66 ?_;refine D [] h ?_;refine bB ?_
 grind[bD]
theorem D7[fX prog qs](q:Go.Sp.Fn->Bool)(s:ab)(l:List (Go.Sp.Fn))(hn:l.length<=1099511627776)(W:∀x∈l,GF prog qs [.agg (aD x),.box [.v (sv s)] 0] [] (.v (.bool (q x))) []) :
  GF prog 113 [.sl 3 (l.map aD),.fn (.func qs) [] [.box [.v (sv s)] 0]] [] (y4 (bN q l)) []:=by
 have C:(l.map aD).length=l.length:=by simp
 refine au func113 ntmps113 ?_;refine GW.range (l.map aD).length (fun k J u=>J=[.sl 3 (l.map aD),.fn (.func qs) [] [.box [.v (sv s)] 0],U,U,U,U,U,y4 ((l.map aD).length:Int),y4 (k:Nat),U,U,U,U,U,U,U,U,U,U]/\u=[]/\(l.take k).all (fun y=>!q y)=true) ?_ V ?_ ?_ ?_
 ·exact lk
 ·exact jA
 ·rintro k _ _ N⟨rfl,rfl,n⟩;rw[C]at N;obtain⟨x,w⟩:∃x,l[k]?=some x:=⟨l[k],by simp[N]⟩
  have z:(l.map aD)[k]?=some (aD x):=by grind
  have h:=W x (bP w);have m:=og (f:=q) w
  have hit:=fun o=>oY (f:=q) w o n
  unfold aD at z h
  cases i:q x with
  |true =>
   exact zeM
  |false =>
   rw[i]at h m;refine I ?_;refine oJ [] h ?_;exact zbJ
 ·rintro _ _⟨rfl,rfl,n⟩;rw[C,dD]at n;rw[mr n];refine zbb ?_
  grind[bD]
theorem D6[fX prog qs](q:Ar->Bool)(s:ab)(l:List (Ar))(hn:l.length<=1099511627776)(W:∀x∈l,GF prog qs [.agg (aW x),.box [.v (sv s)] 0] [] (.v (.bool (q x))) []) :
  GF prog 111 [.sl 2 (l.map aW),.fn (.func qs) [] [.box [.v (sv s)] 0]] [] (y4 (bN q l)) []:=by
 have C:(l.map aW).length=l.length:=by simp
 refine au func111 ntmps111 ?_;refine GW.range (l.map aW).length (fun k J u=>J=[.sl 2 (l.map aW),.fn (.func qs) [] [.box [.v (sv s)] 0],U,U,U,U,U,y4 ((l.map aW).length:Int),y4 (k:Nat),U,U,U,U,U,U,U,U,U,U]/\u=[]/\(l.take k).all (fun y=>!q y)=true) ?_ V ?_ ?_ ?_
 ·exact lk
 ·exact jA
 ·rintro k _ _ N⟨rfl,rfl,n⟩;rw[C]at N;obtain⟨x,w⟩:∃x,l[k]?=some x:=⟨l[k],by simp[N]⟩
  have z:(l.map aW)[k]?=some (aW x):=by grind
  have h:=W x (bP w);have m:=og (f:=q) w
  have hit:=fun o=>oY (f:=q) w o n
  unfold aW at z h
  cases i:q x with
  |true =>
   exact zeM
  |false =>
   rw[i]at h m;refine I ?_;refine oJ [] h ?_;exact zbJ
 ·rintro _ _⟨rfl,rfl,n⟩;rw[C,dD]at n;rw[mr n];refine zbb ?_
  grind[bD]
end
def UA(x:Go.Sp.Fn)(s:ab):GF prog 114 [.agg (aD x),.box [.v (sv s)] 0] [] (.v (.bool (x.name==s))) []:=by
 unfold aD;refine au func114 ntmps114 ?_;exact ay
def AN(p:Src)(s:ab)(hn:p.av.length<=1099511627776):GF prog 52 [.agg (aB p),.v (sv s)] [] (y4 (bN (fun x:Go.Sp.Fn=>x.name==s) p.av)) []:=by
 have h:=D7 (fun x:Go.Sp.Fn=>x.name==s) s p.av hn (fun x _=>UA x s);generalize bN (fun x:Go.Sp.Fn=>x.name==s) p.av=z at *;refine dc func52 ntmps52 ?_;exact zbZ
def KP(x:Ar)(s:ab):GF prog 112 [.agg (aW x),.box [.v (sv s)] 0] [] (.v (.bool (x.name==s))) []:=by
 unfold aW;refine au func112 ntmps112 ?_;exact ay
def sf(p:Src)(s:ab)(hn:p.aj.length<=1099511627776):GF prog 51 [.agg (aB p),.v (sv s)] [] (y4 (bN (fun x:Ar=>x.name==s) p.aj)) []:=by
 have h:=D6 (fun x:Ar=>x.name==s) s p.aj hn (fun x _=>KP x s);generalize bN (fun x:Ar=>x.name==s) p.aj=z at *;refine dc func51 ntmps51 ?_;exact zbZ
def L1(x:Go.Sp.Fn):GF prog 136 [.agg (aD x)] [] (.v (.bool (decide (x.params.length>40)))) []:=by
 have h:decide ((40:Int)<((x.params.map fun s=>[GV.v (sv s)]).length:Int))=decide (x.params.length>40):=by
  grind
 rw[<-h];unfold aD strs;refine au func136 ntmps136 ?_;exact ay
def P7(x:Go.Sp.Fn):GF prog 67 [.agg (aD x)] [] (.v (.bool (kd x))) []:=by
 have h:(((x.params.map fun s=>[GV.v (sv s)]).length:Int)==0)=(x.params.length==0):=by
  grind
 unfold kd iI;rw[<-h];unfold aD strs
 cases o:(x.name==[109,97,105,110])
 all_goals
  refine au func67 ntmps67 ?_;exact ay
end Go.Xg
namespace Go.Xg
open Go.RowKit Go.Xw Go.Proofs Go.Im
attribute [local irreducible] GW GL GO YG GC GA bo bq
section
variable{B:Bs}{K:Fz}{β:Bt}{w:World}{l:List Value}{fr:am}{A C:ap}
def fm{x y:Operand}{E k:Nat}{rows:List am}{h z:Value}(j:Inv B K β (A++(.vech E k rows h::C)) w)(Q:FR K β fr l)(hx:bf fr x=.v h)(F:bf fr y=.v z) :
  ∃O,oa O w/\mJ O (fun _=>.no) w/\bF O (fun _=>.no) ([x,y].map (ev l)) [.sl k rows,.v z]:=by
 obtain⟨O,N,o,b,G⟩:=j.view (i:=A.length) (E:=E) (k:=k) (rows:=rows) (x:=h) (by rw[j0 (aY _),r9];rfl);refine⟨O,o,b,?_⟩;show bF O _ [ev l x,ev l y] _;rw[Q.gq hx,Q.gq F];exact .cons G (.cons (.v _) .nil)
end
def pg(l:List ab):(bs l).length=l.length:=by simp[bs]
end Go.Xg
set_option maxHeartbeats 4000000
namespace Go.Xg
open Go.RowKit Go.Xw Go.Proofs Go.Im
attribute [local irreducible] GW GL GO YG GC GA bo bq
def mu(l:List ab):lg (l.map fun s=>[GV.v (sv s)])=true:=by
 induction l with
 |nil=>rfl
 |cons s l O=>rw[List.map_cons,lg,O];rfl
def GW.Df{P:Program}{m:Nat}{c:Code}{Q:dN}{fr dh:am}{Γ bM:ap}(o:tC fr dh)(b:Γ=bM)(h:GW P m c Q dh bM):GW P m c Q fr Γ:=by
 subst b;exact GW.wk (Wk.aZ o) h
open Tryz
open Go.Xp (Nd)
open Go.Sp (Src)
def uD(n:Nd):Bool:=(n.ai==4&&n.s==[115,105,122,101])&&((n.aw.length:Int)==1)
def AY(p:Src)(a:Nat)(n:Nd)(hn:p.ah[a]?=some n):GF prog 138 [.agg (aB p),y4 (a:Nat)] [] (.v (.bool (uD n))) []:=by
 have w:=cr hn
 have e:(n.aw.map fun i=>[GV.v (ii i)]).length=n.aw.length:=by simp
 unfold uD;rw[<-e];unfold aN ints at w;generalize(n.aw.map fun i=>[GV.v (ii i)])=z at *
 cases o:(n.ai==4)
 all_goals cases b:(n.s==[115,105,122,101])
 all_goals
  refine au func138 ntmps138 ?_;exact ay
def XZ(p:Src)(s:ab)(hn:p.av.length<=1099511627776):GF prog 259 [.agg (aB p),.v (sv s)] [] (y4 (gD p s)) []:=by
 have O:=AN p s hn;unfold gD jw jM dY
 cases o:(s==[103,101,116])with
 |true =>
  rw[ak zfp];exact zei
 |false =>
  rw[ae zfp]
  cases b:(s==[112,117,116])with
  |true =>
   rw[ak (.inl zfE)];exact zei
  |false =>
   cases G:(s==[115,105,122,101])with
   |true =>
    rw[ak (.inr (by simpa using G))];exact zei
   |false =>
    rw[ae (by simpa using And.intro (show ¬s=[112,117,116] by simpa using b) (show ¬s=[115,105,122,101] by simpa using G))];unfold bN at O
    cases hx:p.av.findIdx? (fun f:Go.Sp.Fn=>f.name==s)with
    |none =>
     rw[hx]at O
     have T:decide ((0:Int) <= -1)=false:=by decide
     refine au func259 ntmps259 ?_;exact ze2
    |some i =>
     rw[hx]at O;have j:i<p.av.length:=(List.findIdx?_eq_some_iff_getElem.1 hx).1;obtain⟨f,l⟩:∃f,p.av[i]?=some f:=⟨p.av[i],by simp[j]⟩
     have w:(p.av.map aD)[i]?=some (aD f):=by rw[dB,l];rfl
     have c:(f.params.map fun s=>[GV.v (sv s)]).length=f.params.length:=by simp
     have T:decide ((0:Int)<=((i:Nat):Int))=true:=by simp
     unfold aD at w;simp only at O |-;unfold iq;rw[l];simp only;rw[<-c];refine au func259 ntmps259 ?_;exact ze2
open Go.Xp (T Ar dw)
def Jq{p:Src}{a:Nat}{n:Nd}{l:List T}(r:dM p.ah a (.mk n l)):bU (.mk n l)=uD n:=by
 rw[dM]at r;unfold bU uD dY
 congr 1
 rw[r.2.1,dw]
 grind[T.aw]
section
variable(p:Src)(a:Nat)(n:Nd)(l:List T)(ls:List ab)
theorem HI(r:dM p.ah a (.mk n l))(o:p.av.length<=1099511627776)(N:p.aj.length<=1099511627776)(t:ls.length<=1099511627776) :
  GF prog 200 [.agg (aB p),y4 (a:Nat),strs ls] [] (y4 (dv p (.mk n l) ls)) []:=by
 have M:=Jq r;rw[dM]at r;have⟨d,O,J⟩:=r;have Q:=AY p a n d;have w:=cr d
 have e:(n.aw.map fun i=>[GV.v (ii i)]).length=l.length:=by grind[dw]
 unfold dv;rw[M]
 cases B:uD n with
 |true =>
  rw[B]at Q;rw[ak rfl]
  have q:l.length=1:=by
   unfold uD at B
   grind
  obtain⟨u,rfl⟩:∃u,l=[u]:=by
   match l,q with
   |[u],_=>simp
  have G:p.ah[a+1]?=some u.n:=by
   rw[dn]at J;have:=J.1
   cases u;rw[dM]at this;exact this.1
  have Y:n.aw[0]?=some (((a+1:Nat)):Int):=by rw[O];rfl
  have H:=ic Y;have A:=cr G;show GF _ _ _ _ (y4 (if ew p u.n ls=true then 24 else 0)) _;generalize u.n=m at *;have C:=sf p m.s N;have F:=iL ls m.s t;have k:ew p m ls=((m.ai != 2 ||decide (bN (fun x:Ar=>x.name==m.s) p.aj<0)) ||ls.contains m.s):=rfl;rw[k];generalize bN (fun x:Ar=>x.name==m.s) p.aj=z at *;unfold aN at w A
  cases E:(m.ai != 2)with
  |true =>
   refine au func200 ntmps200 ?_;refine zeG ?_;exact zbv
  |false =>
   cases j:decide (z<0)with
   |true =>
    refine au func200 ntmps200 ?_;refine zeG ?_;refine bn ?_;refine D [] C ?_;exact ay
   |false =>
    generalize ls.contains m.s=b at *;cases b
    all_goals
     refine au func200 ntmps200 ?_;refine zeG ?_;refine bn ?_;refine D [] C ?_;refine D [] F ?_;exact ay
 |false =>
  rw[B]at Q;rw[ae aR];have c:=XZ p n.s o;show GF _ _ _ _ (y4 (if gD p n.s = -1 then 22 else if gD p n.s=(l.length:Int)then 0 else 23)) _;generalize gD p n.s=z at *;rw[<-e];unfold aN at w;unfold ints at w;generalize(n.aw.map fun i=>[GV.v (ii i)])=R at *
  cases E:(z == -1)with
  |true =>
   rw[ak zff];exact zca
  |false =>
   rw[ae zff]
   cases j:(z==(R.length:Int))with
   |true =>
    rw[ak zff];exact zca
   |false =>
    rw[ae zff];exact zca
theorem H3(r:dM p.ah a (.mk n l))(u:p.av.length<=1099511627776)(N:p.aj.length<=1099511627776)(Z:p.aq.length<=1099511627776)(o:ls.length<=1099511627776) :
  GF prog 139 [.agg (aB p),y4 (a:Nat),strs ls] [] (y4 (bG p (.mk n l) ls)) []:=by
 have Q:=HI p a n l ls r u N o
 have d:p.ah[a]?=some n:=by grind[dM]
 clear r;have B:=cr d;have q:=iL ls n.s o;have H:=iL p.aq n.s Z;have t:=sf p n.s N
 have w:(ls.map fun s=>[GV.v (sv s)]).length=ls.length:=by simp
 have e:bG p (.mk n l) ls=(if n.ai=13 then(if ls.contains n.s=true then 21 else if ls.length>=40 then 26 else 0)
  else if n.ai=2\/n.ai=7 then(if ls.contains n.s=false/\p.aq.contains n.s=false then 22 else 0)
  else if n.ai=3\/n.ai=8 then(if ls.contains n.s=true\/bN (fun x:Ar=>x.name==n.s) p.aj<0 then 24 else 0)
  else if n.ai=4 then dv p (.mk n l) ls else 0):=rfl
 rw[e];generalize dv p (.mk n l) ls=M at *;have⟨k,at_,i,s,Y⟩:=n;simp only at *;unfold aN at B;simp only at B;generalize bN (fun x:Ar=>x.name==s) p.aj=z at *;generalize ls.contains s=b at *;generalize p.aq.contains s=g at *;rw[<-w]
 by_cases W:k=13
 ·subst W
  have m:((13:Int)==13)=true:=by decide
  rw[ak rfl]
  cases b with
  |true =>
   exact zaC
  |false =>
   cases C:decide ((40:Int)<=(((ls.map fun s=>[GV.v (sv s)]).length:Nat):Int))with
   |true =>
    rw[ae aR,ak zff];exact zaC
   |false =>
    rw[ae aR,ae zff];exact zaC
 rw[ae W]
 by_cases c:k=2
 ·subst c
  have m:((2:Int)==13)=false:=by decide
  have E:((2:Int)==2)=true:=by decide
  rw[ak aR]
  cases b with
  |true =>
   exact zaC
  |false =>
   cases g
   all_goals
    exact zd5
 by_cases O:k=7
 ·subst O
  have m:((7:Int)==13)=false:=by decide
  have E:((7:Int)==2)=false:=by decide
  have R:((7:Int)==7)=true:=by decide
  rw[ak aR]
  cases b with
  |true =>
   exact zaC
  |false =>
   cases g
   all_goals
    exact zd5
 rw[ae V]
 by_cases G:k=3
 ·subst G
  have m:((3:Int)==13)=false:=by decide
  have E:((3:Int)==2)=false:=by decide
  have R:((3:Int)==7)=false:=by decide
  have A:((3:Int)==3)=true:=by decide
  rw[ak aR]
  cases b with
  |true =>
   exact zaC
  |false =>
   cases J:decide (z<0)with
   |true =>
    rw[ak (.inr zff)];exact zbi
   |false =>
    rw[ae zff];exact zbi
 by_cases S:k=8
 ·subst S
  have m:((8:Int)==13)=false:=by decide
  have E:((8:Int)==2)=false:=by decide
  have R:((8:Int)==7)=false:=by decide
  have A:((8:Int)==3)=false:=by decide
  have F:((8:Int)==8)=true:=by decide
  rw[ak aR]
  cases b with
  |true =>
   exact zaC
  |false =>
   cases J:decide (z<0)with
   |true =>
    rw[ak (.inr zff)];exact zbi
   |false =>
    rw[ae zff];exact zbi
 rw[ae V]
 by_cases C:k=4
 ·subst C
  have m:((4:Int)==13)=false:=by decide
  have E:((4:Int)==2)=false:=by decide
  have R:((4:Int)==7)=false:=by decide
  have A:((4:Int)==3)=false:=by decide
  have F:((4:Int)==8)=false:=by decide
  have X:((4:Int)==4)=true:=by decide
  rw[ak rfl];refine au func139 ntmps139 ?_;refine D [] q ?_;refine D [] Q ?_;exact ay
 rw[ae C]
 have m:(k==13)=false:=by grind
 have E:(k==2)=false:=by grind
 have R:(k==7)=false:=by grind
 have A:(k==3)=false:=by grind
 have F:(k==8)=false:=by grind
 have X:(k==4)=false:=by grind
 exact zaC
end
def WG{K O:Fz}{β:Bt}{v:Value}{gs:am}(N:dm K O)(W:∀g∈gs,g.pc=true)(h:Rel K β v (.agg gs)):Rel O (fun _=>.no) v (.agg gs):=by
 cases h with
 |agg l Q M h =>
  exact .agg l gs M fun i v g o b=>((h i v g o b).mono N (dV.refl β)).pc (W g (bP b))
def K8(p:Src):∀g∈aB p,g.pc=true:=fun g X=>by
 simp only[aB,List.mem_cons,List.not_mem_nil,or_false]at X
 rcases X with rfl|rfl|rfl|rfl<;>rfl
def oU{B:Bs}{K:Fz}{β:Bt}{w:World}{l:List Value}{fr:am}{A C:ap}{p:Src}{x y u:Operand}{E k:Nat}{rows:List am}{h z:Value}(j:Inv B K β (A++(.vech E k rows h::C)) w)(Q:FR K β fr l)(hx:bf fr x=.agg (aB p))(H:bf fr y=.v z)(M:bf fr u=.v h) :
  ∃O,oa O w/\mJ O (fun _=>.no) w/\bF O (fun _=>.no) ([x,y,u].map (ev l)) [.agg (aB p),.v z,.sl k rows]:=by
 obtain⟨O,N,o,b,G⟩:=j.view (i:=A.length) (E:=E) (k:=k) (rows:=rows) (x:=h) (by rw[j0 (aY _),r9];rfl);have F:=Q.ev x;rw[hx]at F;refine⟨O,o,b,?_⟩;show bF O _ [ev l x,ev l y,ev l u] _;rw[Q.gq H,Q.gq M];exact .cons (WG N (K8 p) F) (.cons (.v _) (.cons G .nil))
def VK(p:Src)(a:Nat)(n:Nd)(l:List T)(ls:List ab)(c:CS)(R S W:TypeId)(s:Option Addr)(t:Nat)(e:dM p.ah a (.mk n l))(H:p.av.length<=1099511627776)(G:p.aj.length<=1099511627776)(J:p.aq.length<=1099511627776)(O:ls.length<=1099511627776) :
  GF prog 137 [y4 (a:Nat),.v (.slice s ls.length t),.loc 0 0,.loc 1 0,.box (aB p) 0,.loc 2 0] [.box R [y4 c.code],.box S [y4 c.skip],.box W [y4 c.place],.vech 9 1 (bs ls) (.slice s ls.length t)] (.tup [])
   [.box R [.v (ii (cz p c a (.mk n l) ls).code)],.box S [.v (ii (cz p c a (.mk n l) ls).skip)],.box W [.v (ii (cz p c a (.mk n l) ls).place)],.vech 9 1 (bs ls) (.slice s ls.length t)]:=by
 have hs:=Jq e;have k:=H3 p a n l ls e H G J O;rw[dM]at e;have⟨Z,Y,o⟩:=e;have j:=AY p a n Z;have hr:=cr Z;have⟨code,place,skip⟩:=c;unfold cz;rw[hs];simp only;generalize bG p (.mk n l) ls=z at *
 cases E:(code != 0)with
 |true =>
  rw[ak (.inl (by simpa using E))];refine au func137 ntmps137 ?_;exact oL
 |false =>
  cases F:(((a:Nat):Int)==skip)with
  |true =>
   rw[ak (.inr (by simpa using F))];refine au func137 ntmps137 ?_;exact oL
  |false =>
   rw[ae (by rintro(h|h);(· simp at E;exact h E);(· simp at F;exact F h))];simp only
   cases q:uD n with
   |false =>
    rw[q]at j;rw[ae (show ¬(false=true) by decide)];unfold aN at hr
    cases i:(z != 0)with
    |true =>
     exact zeC
    |false =>
     exact zeD
   |true =>
    rw[q]at j;rw[ak rfl]
    have N:l.length=1:=by
     unfold uD at q;simp only[aI,beq_iff_eq]at q;rw[Y,dw]at q;omega
    obtain⟨u,rfl⟩:∃u,l=[u]:=by
     match l,N with
     |[u],_=>exact⟨u,rfl⟩
    have hm:p.ah[a+1]?=some u.n:=by
     rw[dn]at o;have:=o.1
     cases u;rw[dM]at this;exact this.1
    have M:n.aw[0]?=some (((a+1:Nat)):Int):=by rw[Y];rfl
    have hr0:=ic M;have Q:=cr hm;rw[show ke (.mk n [u])=u.n from rfl];generalize u.n=m at *;unfold aN at hr Q
    cases X:(m.ai != 2)with
    |true =>
     rw[ak (show m.ai≠2 by simpa using X)]
     cases i:(z != 0)with
     |true =>
      exact zeC
     |false =>
      exact zeD
    |false =>
     rw[ae (show ¬(m.ai≠2) by simpa using X)]
     cases i:(z != 0)with
     |true =>
      exact zeC
     |false =>
      exact zeD
open GV (U)
open Go.Xp (aU aM)
def Kl(p:Src):GV:=.fn (.func 137) [] [.loc 0 0,.loc 1 0,.box (aB p) 0,.loc 2 0]
def TN(p:Src):GV:=.fn (.func 115) [] [.loc 3 0,.loc 4 0,.box (aB p) 0,.loc 5 0]
def DI(p:Src)(j Y i k X z:TypeId)(s:CS)(ls:List ab)(S:Option Addr)(c:Nat):ap :=
 [.box j [y4 s.code],.box Y [y4 s.skip],.box i [y4 s.place],.box k [Kl p],.box X [.v (.slice S ls.length c)],.box z [TN p],.vech 9 1 (bs ls) (.slice S ls.length c)]
def Se(p:Src)(B C E G H J:TypeId)(hp:p.ah.length<=1048576)(W:∀n∈p.ah,n.aw.length<=1099511627776)(R:p.av.length<=1099511627776)(Q:p.aj.length<=1099511627776)(S:p.aq.length<=1099511627776):∀(N:Nat)(t:T),aU t<=N->∀(a:Nat)(s:CS)(ls:List ab)(j:Option Addr)(m:Nat),dM p.ah a t->ls.length+aU t<=8388608 ->
  GC prog 115 [y4 (a:Nat),.loc 3 0,.loc 4 0,.box (aB p) 0,.loc 5 0] (DI p B C E G H J s ls j m) fun g Δ=>g=.tup []/\∃b c,Δ=DI p B C E G H J (eo (cz p) t a s ls).1 (eo (cz p) t a s ls).2 b c:=by
 intro N
 induction N with
 |zero=>intro t h;exact zd6
 |succ N ih =>
 intro t hN a s ls j m q X
 cases t with
 |mk n l =>
 rw[Go.Xp.aU]at hN X;have A:=q;rw[dM]at q;have⟨hn,hk,Y⟩:=q;rw[eo];have hr:=cr hn;have Ta:=W n (bP hn);have ht:=VK p a n l ls s B C E j m A R Q S V;generalize Fu:(cz p) s a (.mk n l) ls=o at *
 have d:n.aw.length=l.length:=by rw[hk,dw]
 unfold aN at hr;unfold DI Kl TN;refine au func115 ntmps115 ?_;refine GL.oV [0,1,2,6] ht rfl rfl rfl (by repeat (first|exact trivial|refine⟨rfl,?_⟩)) ?_;rintro _ _⟨rfl,rfl⟩;refine zas ?_;refine GW.range (n.aw.map fun i=>[GV.v (ii i)]).length (fun k fr Γ=>∃b c,fr=[y4 (a:Nat),.loc 3 0,.loc 4 0,.box (aB p) 0,.loc 5 0,U,U,U,U,U,U,U,U,U,U,U,U,ints n.aw,y4 ((n.aw.map fun i=>[GV.v (ii i)]).length:Int),y4 (k:Nat),U,U,U,U,U,U,U,U,U,U,U,U,U,U,U,U,U,U,U,U,U,U,U]/\Γ=DI p B C E G H J (c6 (cz p) (l.take k) (a+1) o ls).1 (c6 (cz p) (l.take k) (a+1) o ls).2 b c) ?_ zff ?_ ?_ ?_
 ·exact⟨_,_,Wk.aZ az,j,m,rfl,rfl⟩
 ·rintro k _ _⟨j,m,rfl,rfl⟩;exact dO
 ·rintro k _ _ z⟨j,m,rfl,rfl⟩;rw[ct,d]at z;obtain⟨u,F⟩:∃u,l[k]?=some u:=⟨l[k],by simp[z]⟩;have r:=qw (n:=a+1) F;rw[<-hk]at r;have Th:=ic r;have sM:=mz F;have Z:dM p.ah (a+1+aM (l.take k)) u:=dn.ix l (a+1) k u Y F
  have w:(c6 (cz p) (l.take k) (a+1) o ls).2.length<=ls.length+aM (l.take k):=by
   exact zeU
  rw[wC _ F];generalize(c6 (cz p) (l.take k) (a+1) o ls).1=s2 at *;generalize(c6 (cz p) (l.take k) (a+1) o ls).2=e at *;have hv:=ih u V (a+1+aM (l.take k)) s2 e j m Z V;unfold DI Kl TN at hv |-;refine I ?_;refine GL.oV [0,1,2,3,4,5,6] hv rfl rfl rfl (by repeat (first|exact trivial|refine⟨rfl,?_⟩)) ?_;rintro _ _⟨rfl,b,c,rfl⟩;exact zeV
 ·rintro _ _⟨j,m,rfl,rfl⟩;rw[ct,d,dD]
  have w:(c6 (cz p) l (a+1) o ls).2.length<=ls.length+aM l:=by
   exact zeU
  generalize(c6 (cz p) l (a+1) o ls).1=s2 at *;generalize(c6 (cz p) l (a+1) o ls).2=e at *;have AV:(bs e).length=e.length:=pg e;unfold DI Kl TN;refine bh ?_
  cases hv:(n.ai==13)with
  |false =>
   exact zel
  |true =>
   rw[ak zff];refine zbs ?_;refine OA rfl rfl (GL.ml 6 (news:=[[.v (sv n.s)]]) rfl rfl rfl aQ rfl rfl (by refine⟨?_,?_⟩;(· show _+1<=_;omega);(· show(_+1)*_<=_;omega)) ?_);intro M O;refine zaO ?_;exact⟨rfl,M,O,by simp[bs]⟩
def Up(p:Src)(j Y k:TypeId)(i:Nat)(f:Go.Sp.Fn)(t:T)(s:CS)(X:p.ah.length<=1048576)(e:∀n∈p.ah,n.aw.length<=1099511627776)(o:p.av.length<=1099511627776)(N:p.aj.length<=1099511627776)(Z:p.aq.length<=1099511627776)
  (hf:p.av[i]?=some f)(W:f.params.length<=1048576)(A:0<=f.body)(r:dM p.ah f.body.toNat t)(z:aU t<=1048576) :
  GF prog 53 [.agg (aB p),y4 (i:Nat),Kl p] [.box j [y4 s.code],.box Y [y4 s.skip],.box k [y4 s.place]] (.tup []) [.box j [.v (ii (eo (cz p) t f.body.toNat s f.params).1.code)],.box Y [.v (ii (eo (cz p) t f.body.toNat s f.params).1.skip)],.box k [.v (ii (eo (cz p) t f.body.toNat s f.params).1.place)]]:=by
 have w:(p.av.map aD)[i]?=some (aD f):=by grind
 have d:(f.params.map fun s=>[GV.v (sv s)]).length=f.params.length:=by simp
 have F:=mu f.params;obtain⟨b,m⟩:∃b:Nat,f.body=(b:Int):=⟨f.body.toNat,by omega⟩;rw[m,ik]at r |-;unfold aD at w;rw[m]at w;unfold Kl;refine dc func53 ntmps53 ?_;refine jF ?_;refine GL.wk (Wk.freeze (i:=3) rfl rfl rfl (aY _)) ?_;refine GN (by simp only[nZ,nG];rfl) ?_;refine GL.wk (Wk.aZ (dh:=[U,y4 (i:Nat),U,.box (aB p) 0,U,.loc 4 0,U,U,U,U,U,U,U,strs f.params,U,U,U,U,U,U,U,U,U,U]) az) ?_;refine GL.wk (Wk.gz 9 1) ?_;refine GL.oQ 5 rfl rfl rfl rfl F V ?_;intro S c;rw[d];refine zdX ?_;refine GW.Df (dh:=U::y4 (i:Nat)::U::.box (aB p) 0::U::.loc 4 0::.loc 6 0::.loc 7 0::zU 16 []) (bM:=[.box j [y4 s.code],.box Y [y4 s.skip],.box k [y4 s.place],.gone,.box _ [.fn (.func 137) [] [.loc 0 0,.loc 1 0,.box (aB p) 0,.loc 2 0]],.vech 9 1 (bs f.params) (.slice S f.params.length c),.box _ [.v (.slice S f.params.length c)],.box _ [.fn (.func 115) [] [.loc 4 0,.loc 6 0,.box (aB p) 0,.loc 7 0]]]) az rfl ?_;refine zeq ?_;have q:=Se p j Y k;refine OA rfl rfl (GL.oV [0,1,2,4,6,7,5] (q _ _ _ X e o N Z _ t (aY _) b s f.params S c r V) rfl rfl rfl (by repeat (first|exact trivial|refine⟨rfl,?_⟩)) ?_);rintro _ _⟨rfl,u,l,rfl⟩;refine⟨by simp[DI],?_⟩;unfold DI;refine zaO ?_;simp
end Go.Xg
namespace Go.Im
open Go.Xp Go.Sp
def IM{l:List ab}:tK l=false↔∀k,k<l.length->oW l k=false:=by
 unfold tK;rw[any_eq_false];constructor
 ·intro h k N;have:=h k (List.mem_range.2 N);exact zdk
 ·intro h k N;rw[h k (List.mem_range.1 N)];decide
def sQ{l:List Ar}{k:Nat}{a:Ar}(h:l[k]?=some a):ez (l.take (k+1))=ez (l.take k)+a.size:=by
 unfold ez;rw[dd,h,List.foldl_append];rfl
def uZ{l:List Ar}(h:∀a∈l,0<=a.size/\a.size<=2147483648):∀k,0<=ez (l.take k)/\ez (l.take k)<=(k:Int)*2147483648:=by
 intro k
 induction k with
 |zero=>simp[ez]
 |succ k O =>
  cases hx:l[k]? with
  |none =>
   have:l.take (k+1)=l.take k:=by rw[dd,hx];simp
   rw[this];omega
  |some a =>
   have:=h a (bP hx);rw[sQ hx];omega
def Ff(p:Src)(l:List T)(a:Nat):eU p [] l a=(0,0):=by rfl
end Go.Im
namespace Go.Xg
open Go.RowKit Go.Xw Go.Proofs Tryz Go.Im
open GV (U)
open Go.Xp (T aU)
open Go.Sp (Src)
def YG.Ep{P:Program}{fr:am}{Γ:ap}{x up:Operand}{t e:TypeId}{k:Nat}[n:lX P t e k]{rows:List am}{E:IntKind}{i:Nat}(hx:bf fr x=.sl k rows)(m:bf fr up=.v (.int E i))(hi:i<rows.length):YG P (.slice t x none (some up) none) fr Γ (.sl k (rows.take i)):=fun B K β w l F O=>by
 have h:=O.ev x;rw[hx]at h;have A:=O.gq m;generalize s:ev l x=v at h
 cases h with
 |sl0 a c=>simp at hi
 |sl b o c _ _ h X =>
  refine⟨.slice (some ⟨b,o,none⟩) i c,fun d H G u=>?_,?_⟩
  ·have C:¬(c=0):=by omega
   have N:(i:Int)<=(c:Int):=by omega
   have W:i<=c:=by omega
   simp[execOp,Instr.sliceAt,Instr.slice,Instr.sliceBounds,Instr.sliceBound,asIntOf,s,A,run_underlying n.und,iK n.siz,C,N,W,qH]
  ·have:=Rel.sl (K:=K) (β:=β) b o c k (rows.take i) (fun j r z=>?_) (by simp;omega)
   ·rw[mf,Nat.min_eq_left (Nat.le_of_lt hi)]at this;exact this
   ·have Y:j<i:=by
     rcases Nat.lt_or_ge j i with q|q
     ·exact q
     ·rw[List.getElem?_eq_none (by rw[mf];omega)]at z;cases z
    rw[List.getElem?_take,ak Y]at z;exact h j r z
attribute [local irreducible] GW GL GO YG GC GA bo bq
def Di(p:Src)(i:Nat)(f:Go.Sp.Fn)(t:T)(b:p.ah.length<=1048576)(e:∀n∈p.ah,n.aw.length<=1099511627776)(r:p.av.length<=1099511627776)(W:p.aj.length<=1099511627776)(Z:p.aq.length<=1099511627776)
  (hf:p.av[i]?=some f)(S:f.params.length<=1048576)(m:0<=f.body)(w:dM p.ah f.body.toNat t)(z:aU t<=1048576) :
  GF prog 68 [.agg (aB p),y4 (i:Nat)] [] (.tup [.v (ii (fy p f t f.body.toNat).1),.v (ii (fy p f t f.body.toNat).2)]) []:=by
 have A:(p.av.map aD)[i]?=some (aD f):=by rw[dB,hf];rfl
 have C:(f.params.map fun s=>[GV.v (sv s)]).length=f.params.length:=by simp
 have l:=Up p 3 3 3 i f t ⟨0,0,-1⟩ b e r W Z hf S m w z;unfold aD at A;unfold fy;refine au func68 ntmps68 ?_;refine GW.range (f.params.map fun s=>[GV.v (sv s)]).length (fun k J B=>J=[U,y4 (i:Nat),.loc 0 0,U,U,U,strs f.params,U,U,U,U,U,U,U,U,U,U,U,strs f.params,y4 ((f.params.map fun s=>[GV.v (sv s)]).length:Int),y4 (k:Nat),U,U,U,U,U,U,U,U,U,U,U,U,U,U,U,U]/\B=[.box 28 (aB p)]/\∀j,j<k->oW f.params j=false) ?_ V ?_ ?_ ?_
 ·exact⟨_,_,Wk.aZ az,rfl,rfl,fun j Y=>absurd Y (Nat.not_lt_zero _)⟩
 ·exact jA
 ·rintro k _ _ N⟨rfl,rfl,o⟩;have Q:=N;rw[C]at N;obtain⟨x,hx⟩:∃x,f.params[k]?=some x:=⟨f.params[k],by simp[N]⟩
  have c:(f.params.map fun s=>[GV.v (sv s)])[k]?=some [.v (sv x)]:=by rw[dB,hx];rfl
  have R:=iL (f.params.take k) x (by rw[mf];omega)
  have X:oW f.params k=(f.params.take k).contains x:=by unfold oW;rw[hx]
  rw[<-X]at R;unfold strs at R;rw[map_take]at R
  cases O:oW f.params k with
  |true =>
   rw[O]at R
   have u:tK f.params=true:=by
    cases h:tK f.params with
    |true=>rfl
    |false=>rw[IM.1 h k N]at O;cases O
   rw[ak u];refine I ?_;refine GL.q (YG.Ep rfl rfl Q) ?_;refine zad ?_;refine D [] R ?_;exact eA
  |false =>
   rw[O]at R;refine I ?_;refine GL.q (YG.Ep rfl rfl Q) ?_;refine zad ?_;refine D [] R ?_
   exact⟨rfl,rfl,_,_,Wk.aZ az,rfl,rfl,fun j Y=>by
    rcases Nat.lt_succ_iff_lt_or_eq.1 Y with h|rfl
    ·exact o j h
    ·exact O⟩
 ·rintro _ _⟨rfl,rfl,o⟩;rw[C]at o;rw[ae (by rw[IM.2 o];decide)];refine bh ?_;refine GW.wk (Wk.freeze (i:=0) rfl rfl rfl (bp _)) ?_;refine GW.Df (dh:=U::y4 (i:Nat)::.box (aB p) 0::zU 34 []) (bM:=[.gone]) az rfl ?_;refine I ?_;refine D [1,3,2] l ?_;refine aV (aL 0 4 .nil) ?_;refine ax ?_;exact rR
open Go.Xp (Ar)
def D1(p:Src)(r:p.av.length<=1099511627776)(O:p.aj.length<=1048576)(w:∀a∈p.aj,0<=a.size/\a.size<=2147483648):GF prog 65 [.agg (aB p)] [] (.v (.bool (fD p))) []:=by
 have C:(p.aj.map aW).length=p.aj.length:=by simp
 have b:(p.av.map aD).length=p.av.length:=by simp
 have Z:(p.aq.map fun s=>[GV.v (sv s)]).length=p.aq.length:=by simp
 have Q:=um (qs:=136) (fun x=>decide (x.params.length>40)) p.av r (fun x _=>L1 x);unfold fD;generalize p.av.any (fun x=>decide (x.params.length>40))=E at *;have i:=uZ w;refine au func65 ntmps65 ?_;refine GW.range (p.aj.map aW).length (fun k J B=>J=U::.loc 0 0::U::y4 (ez (p.aj.take k))::U::U::U::.sl 2 (p.aj.map aW)::y4 ((p.aj.map aW).length:Int)::y4 (k:Nat)::zU 30 []/\B=[.box 28 (aB p)]/\(p.aj.take k).all (fun a=>!(a.size==0))=true) ?_ V ?_ ?_ ?_
 ·exact lk
 ·exact jA
 ·rintro k _ _ N⟨rfl,rfl,o⟩;rw[C]at N;obtain⟨x,hx⟩:∃x,p.aj[k]?=some x:=⟨p.aj[k],by simp[N]⟩
  have A:(p.aj.map aW)[k]?=some (aW x):=by rw[dB,hx];rfl
  have l:=og (f:=fun a:Ar=>a.size==0) hx;have R:=sQ hx;have u:=i k;have W:=w x (bP hx);unfold aW at A
  cases q:(x.size==0)with
  |true =>
   have:p.aj.any (fun a=>a.size==0)=true:=mh.2 ⟨x,bP hx,q⟩;rw[this];exact aK
  |false =>
   rw[R];generalize ez (p.aj.take k)=c at *;refine I ?_;exact⟨rfl,rfl,_,_,(Wk.cut (n:=1) (bp _) rfl).trans (Wk.aZ az),rfl,rfl,by rw[l,o,q];rfl⟩
 ·rintro _ _⟨rfl,rfl,o⟩;rw[C,dD]at o |-
  have:p.aj.any (fun a=>a.size==0)=false:=by
   rw[any_eq_false];rw[ea]at o;intro x hx;simpa using o x hx
  rw[this];have z:decide (p.av.length>40)=decide ((40:Int)<((p.av.map aD).length:Int)):=decide_eq_decide.2 (by rw[b];omega);have S:decide (p.aq.length>29)=decide ((29:Int)<((p.aq.map fun s=>[GV.v (sv s)]).length:Int)):=decide_eq_decide.2 (by rw[Z];omega);have t:decide (ez p.aj>8000)=decide ((8000:Int)<ez p.aj):=rfl;rw[z,S,t];generalize ez p.aj=c at *;refine bh ?_
  cases q:decide ((40:Int)<((p.av.map aD).length:Int))
  all_goals cases d:decide ((29:Int)<((p.aq.map fun s=>[GV.v (sv s)]).length:Int))
  all_goals cases G:decide ((8000:Int)<c)
  all_goals
   refine I ?_
   first
    |(refine bB ?_;exact⟨rfl,rfl⟩)
    |(refine ig [] Q ?_;refine I ?_;refine bB ?_;exact⟨rfl,rfl⟩)
open Go.Xp (aM)
def C7(p:Src)(O:GF prog 64 [.agg (aB p)] [] (.v (.bool false)) []):GF prog 16 [.agg (aB p)] [] (.tup [y4 20,y4 0]) []:=by
 refine au func16 ntmps16 ?_;refine D [] O ?_;refine lW ?_
 grind[bD]
def AA(p:Src)(l:List T)(ns:List ab)(hns:ns.length<=8388608)(Z:p.av.length=l.length)(NH:p.av.length<=1048576)
  (X:GF prog 64 [.agg (aB p)] [] (.v (.bool true)) [])
  (W:GC prog 47 [.agg (aB p)] [] fun g Δ=>∃a c,g=.v (.slice a ns.length c)/\Δ=[.vech 9 1 (bs ns) (.slice a ns.length c)])
  (J:GF prog 65 [.agg (aB p)] [] (.v (.bool (fD p))) [])
  (hq:∀i f t,p.av[i]?=some f->l[i]?=some t->GF prog 68 [.agg (aB p),y4 (i:Nat)] [] (.tup [.v (ii (fy p f t (aM (l.take i))).1),.v (ii (fy p f t (aM (l.take i))).2)]) []) :
  GF prog 16 [.agg (aB p)] []
   (.tup [.v (ii (if ey ns=true then((21,0):Int × Int)else if fD p=true then(26,0)else if p.av.any kd=false then(25,0)else eU p p.av l 0).1),.v (ii (if ey ns=true then((21,0):Int × Int)else if fD p=true then(26,0)else if p.av.any kd=false then(25,0)else eU p p.av l 0).2)]) []:=by
 have B:(ns.map fun s=>[GV.v (sv s)]).length=ns.length:=by simp
 have A:(p.av.map aD).length=p.av.length:=by simp
 have E:=um (qs:=67) kd p.av V (fun x _=>P7 x);generalize fD p=tm at *;refine au func16 ntmps16 ?_;refine D [] X ?_;refine b6 [] W ?_;rintro _ _⟨ad,cp,rfl,rfl⟩;refine ch ?_;refine GL.wk (Wk.Bw (t:=14) (i:=1) rfl rfl rfl) ?_;refine GL.wk (Wk.cut (n:=1) (bp _) rfl) ?_;refine GL.wk (Wk.aZ (dh:=U::.loc 0 0::zU 12 (strs ns::zU 40 [])) az) ?_;refine zad ?_;refine GW.range (ns.map fun s=>[GV.v (sv s)]).length (fun k G O=>G=[U,.loc 0 0,U,U,strs ns,U,U,U,U,U,U,U,U,U,U,strs ns,y4 ((ns.map fun s=>[GV.v (sv s)]).length:Int),y4 (k:Nat),U,U,U,U,U,U,U,U,U,U,U,U,U,U,U,U,U,U,U,U,U,U,U,U,U,U,U,U,U,U,U,U,U,U,U,U,U]/\O=[.box 28 (aB p)]/\∀j,j<k->lx ns j=false) ?_ V ?_ ?_ ?_
 ·exact⟨_,_,Wk.aZ az,rfl,rfl,fun j R=>absurd R (Nat.not_lt_zero _)⟩
 ·exact jA
 ·rintro k _ _ b⟨rfl,rfl,d⟩;have m:=b;rw[B]at b;obtain⟨x,hx⟩:∃x,ns[k]?=some x:=⟨ns[k],by simp[b]⟩
  have hrs:(ns.map fun s=>[GV.v (sv s)])[k]?=some [.v (sv x)]:=by grind
  have w:=xQ x;have u:=iL (ns.take k) x zff
  have F:lx ns k=(dx x ||(ns.take k).contains x):=by grind[lx]
  unfold strs at u;rw[map_take]at u
  cases H:dx x with
  |true =>
   rw[H]at w F
   have o:ey ns=true:=by
    grind[ey]
   rw[ak o];refine I ?_;refine D [] w ?_;exact eA
  |false =>
   rw[H]at w F
   cases z:(ns.take k).contains x with
   |true =>
    rw[z]at u F
    have o:ey ns=true:=by
     grind[ey]
    rw[ak o];refine I ?_;refine D [] w ?_;refine GL.q (YG.Ep rfl rfl m) ?_;refine zad ?_;refine D [] u ?_;exact eA
   |false =>
    rw[z]at u F;refine I ?_;refine D [] w ?_;refine GL.q (YG.Ep rfl rfl m) ?_;refine zad ?_;refine D [] u ?_
    exact⟨rfl,rfl,_,_,Wk.aZ az,rfl,rfl,fun j R=>by
     grind⟩
 ·rintro _ _⟨rfl,rfl,d⟩;rw[B]at d;rw[ae (show ¬ey ns=true by grind[ey])];refine bh ?_
  cases tm with
  |true =>
   rw[ak rfl];refine zdG ?_;exact eA
  |false =>
   rw[ae aR]
   cases C:p.av.any kd with
   |false =>
    rw[C]at E;rw[ak rfl];refine zdG ?_;refine D [] E ?_;exact eA
   |true =>
    rw[C]at E;rw[ae aR];refine zdG ?_;refine D [] E ?_;refine GW.range (p.av.map aD).length (fun k G O=>G=U::.loc 0 0::zU 37 (.sl 3 (p.av.map aD)::y4 ((p.av.map aD).length:Int)::y4 (k:Nat)::zU 13 [])/\O=[.box 28 (aB p)]/\eU p p.av l 0=eU p (p.av.drop k) (l.drop k) (aM (l.take k))) ?_ V ?_ ?_ ?_
    ·exact⟨_,_,Wk.aZ az,rfl,rfl,by rfl⟩
    ·exact jA
    ·rintro k _ _ b⟨rfl,rfl,e⟩;rw[A]at b;obtain⟨f,Y⟩:∃f,p.av[k]?=some f:=⟨p.av[k],by simp[b]⟩;obtain⟨t,S⟩:∃t,l[k]?=some t:=⟨l[k]'V,cK _⟩;have Q:=hq k f t Y S
     have M:p.av.drop k=f::p.av.drop (k+1):=by grind[j3,cK,sZ]
     have N:l.drop k=t::l.drop (k+1):=by grind[j3,cK,sZ]
     rw[M,N,eU,<-R7 S]at e
     cases H:((fy p f t (aM (l.take k))).1 != 0)with
     |true =>
      rw[ak zff]at e;rw[e];generalize fy p f t (aM (l.take k))=r at *;refine I ?_;refine D [] Q ?_;exact eA
     |false =>
      rw[ae zff]at e;generalize fy p f t (aM (l.take k))=r at *;refine I ?_;refine D [] Q ?_;exact⟨rfl,rfl,_,_,Wk.aZ az,rfl,rfl,e⟩
    ·rintro _ _⟨rfl,rfl,e⟩;rw[A,List.drop_length,Ff]at e;rw[e];refine bh ?_;exact rR
def Nw(p:Src)(c z:Int)(h:GF prog 16 [.agg (aB p)] [] (.tup [y4 c,y4 z]) []):GF prog 44 [.agg (aB p)] [] (.v (.bool (c==0))) []:=by
 refine au func44 ntmps44 ?_;refine D [] h ?_;refine bB ?_
 grind[bD]
end Go.Xg
set_option maxHeartbeats 2000000
namespace Go.Xg
open Go.RowKit Go.Xw Go.Proofs Tryz Go.Im
open GV (U)
open Go.Xp (Ar)
open Go.Sp (Src)
attribute [local irreducible] GW GL GO YG GC GA bo bq
def cC(p:Src)(h:Value)(c:SS):am:=[strs p.aq,.sl 2 (p.aj.map aW),.sl 3 (p.av.map aD),.sl 5 (p.ah.map aN),.v h,y4 c.code,y4 c.at_]
def jI(p:Src)(h:Value)(c:SS)(k z:Int):GF prog 206 [.loc 0 0,y4 k,y4 z] [.box 155 (cC p h c)] (.tup []) [.box 155 (cC p h (c.fail k z))]:=by
 unfold SS.fail
 cases W:(c.code==0)with
 |true =>
  rw[ak (by simpa using W)];unfold cC;refine au func206 ntmps206 ?_;exact oL
 |false =>
  rw[ae (by simpa using W)];unfold cC;refine au func206 ntmps206 ?_;exact oL
def wU(s:ab):GF prog 56 [.v (sv s)] [] (.v (.bool (dx s))) []:=by
 unfold dx jw jM dY
 cases o:(s==[103,101,116])
 all_goals cases b:(s==[112,117,116])
 all_goals
  refine au func56 ntmps56 ?_;exact ay
def wT(p:Src)(s:ab)(hn:p.aj.length<=1099511627776):GF prog 118 [.agg (aB p),.v (sv s)] [] (y4 (bN (fun x:Ar=>x.name==s) p.aj)) []:=by
 have C:(p.aj.map aW).length=p.aj.length:=by simp
 refine au func118 ntmps118 ?_;refine GW.range (p.aj.map aW).length (fun k J u=>J=[U,.v (sv s),.loc 0 0,U,U,U,U,U,.sl 2 (p.aj.map aW),y4 ((p.aj.map aW).length:Int),y4 (k:Nat),U,U,U,U,U,U,U,U,U,U]/\u=[.box 28 (aB p)]/\(p.aj.take k).all (fun y=>!(y.name==s))=true) ?_ V ?_ ?_ ?_
 ·exact lk
 ·exact jA
 ·rintro k _ _ N⟨rfl,rfl,o⟩;rw[C]at N;obtain⟨x,w⟩:∃x,p.aj[k]?=some x:=⟨p.aj[k],by simp[N]⟩
  have z:(p.aj.map aW)[k]?=some (aW x):=by rw[dB,w];rfl
  have l:=og (f:=fun y:Ar=>y.name==s) w
  have hit:=fun q=>oY (f:=fun y:Ar=>y.name==s) w q o
  unfold aW at z
  cases i:(x.name==s)with
  |true =>
   rw[hit i];exact aK
  |false =>
   exact zcI
 ·rintro _ _⟨rfl,rfl,o⟩;rw[C,dD]at o;rw[mr o];exact aK
def Cr(p:Src)(s:ab)(hn:p.av.length<=1099511627776):GF prog 94 [.agg (aB p),.v (sv s)] [] (y4 (bN (fun x:Go.Sp.Fn=>x.name==s) p.av)) []:=by
 have C:(p.av.map aD).length=p.av.length:=by simp
 refine au func94 ntmps94 ?_;refine GW.range (p.av.map aD).length (fun k J u=>J=[U,.v (sv s),.loc 0 0,U,U,U,U,U,.sl 3 (p.av.map aD),y4 ((p.av.map aD).length:Int),y4 (k:Nat),U,U,U,U,U,U,U,U,U,U]/\u=[.box 28 (aB p)]/\(p.av.take k).all (fun y=>!(y.name==s))=true) ?_ V ?_ ?_ ?_
 ·exact lk
 ·exact jA
 ·rintro k _ _ N⟨rfl,rfl,o⟩;rw[C]at N;obtain⟨x,w⟩:∃x,p.av[k]?=some x:=⟨p.av[k],by simp[N]⟩
  have z:(p.av.map aD)[k]?=some (aD x):=by rw[dB,w];rfl
  have l:=og (f:=fun y:Go.Sp.Fn=>y.name==s) w
  have hit:=fun q=>oY (f:=fun y:Go.Sp.Fn=>y.name==s) w q o
  unfold aD at z
  cases i:(x.name==s)with
  |true =>
   rw[hit i];exact aK
  |false =>
   exact zcI
 ·rintro _ _⟨rfl,rfl,o⟩;rw[C,dD]at o;rw[mr o];exact aK
def UO(l:List ab)(s:ab)(hn:l.length<=1099511627776):GF prog 186 [strs l,.v (sv s)] [] (y4 (ve l s)) []:=by
 have C:(l.map fun s=>[GV.v (sv s)]).length=l.length:=by simp
 unfold ve;refine au func186 ntmps186 ?_;refine GW.range (l.map fun s=>[GV.v (sv s)]).length (fun k J u=>J=[strs l,.v (sv s),U,U,U,U,U,strs l,y4 ((l.map fun s=>[GV.v (sv s)]).length:Int),y4 (k:Nat),U,U,U,U,U,U,U,U,U]/\u=[]/\(l.take k).all (fun y=>!(y==s))=true) ?_ V ?_ ?_ ?_
 ·exact lk
 ·exact jA
 ·rintro k _ _ N⟨rfl,rfl,n⟩;rw[C]at N;obtain⟨x,w⟩:∃x,l[k]?=some x:=⟨l[k],by simp[N]⟩
  have z:(l.map fun s=>[GV.v (sv s)])[k]?=some [.v (sv x)]:=by rw[dB,w];rfl
  have m:=og (f:=fun y:ab=>y==s) w
  have hit:=fun o=>oY (f:=fun y:ab=>y==s) w o n
  cases i:(x==s)with
  |true =>
   rw[hit i];exact aK
  |false =>
   refine I ?_;exact⟨rfl,rfl,_,_,Wk.aZ az,rfl,rfl,by rw[m,n,i];rfl⟩
 ·rintro _ _⟨rfl,rfl,n⟩;rw[C,dD]at n;rw[mr n];exact aK
end Go.Xg
set_option maxHeartbeats 4000000
namespace Go.Im
open Go.Xp Go.Sp
def xB(l:List ab)(k:Nat):Bool:=(List.range k).any (oW l)
def Dc(l:List ab)(k:Nat):xB l (k+1)=(xB l k ||oW l k):=by
 unfold xB;rw[List.range_succ,List.any_append];simp
def lT(f:Go.Sp.Fn)(c:SS)(k:Nat):SS:=⟨f.params.take k,if xB f.params k=true then jr c.code 21 else c.code,if xB f.params k=true/\c.code=0 then 0 else c.at_⟩
section
variable{f:Go.Sp.Fn}{c:SS}{k:Nat}
def Rz(h:oW f.params k=true):(lT f c (k+1)).code=((lT f c k).fail 21 0).code/\(lT f c (k+1)).at_=((lT f c k).fail 21 0).at_:=by
 unfold lT SS.fail;simp only[Dc,h,Bool.or_true,true_and,if_true];unfold jr
 cases xB f.params k<;>by_cases o:c.code=0<;>simp[o]
def O0(h:oW f.params k=false):(lT f c (k+1)).code=(lT f c k).code/\(lT f c (k+1)).at_=(lT f c k).at_:=by
 unfold lT;simp only[Dc,h,Bool.or_false,and_self]
end
end Go.Im
namespace Go.Xg
open Go.RowKit Go.Xw Go.Proofs Tryz Go.Im
open GV (U)
open Go.Sp (Src)
attribute [local irreducible] GW GL GO YG GC GA bo bq
def HU(p:Src)(J:Value)(c:SS)(f:Go.Sp.Fn)(Q:f.params.length<=1048576) :
  GC prog 149 [.loc 0 0,.agg (aD f)] [.box 155 (cC p J c)] fun g Δ=>g=.tup []/\∃i j,Δ=[.box 155 (cC p (.slice i f.params.length j) (rJ f c)),.vech 9 1 (bs f.params) (.slice i f.params.length j)]:=by
 have E:(f.params.map fun s=>[GV.v (sv s)]).length=f.params.length:=by simp
 have u:rJ f c=⟨f.params,(lT f c f.params.length).code,(lT f c f.params.length).at_⟩:=by
  unfold rJ lT xB tK;rfl
 rw[u]
 have t:(lT f c 0).code=c.code/\(lT f c 0).at_=c.at_:=by unfold lT xB;simp
 rw[show cC p J c=cC p J (lT f c 0) by unfold cC;rw[t.1,t.2]];unfold cC aD;refine dc func149 ntmps149 ?_;refine GW.wk (Wk.gz 9 1) ?_;refine zbc ?_;refine I ?_;refine GW.range (f.params.map fun s=>[GV.v (sv s)]).length (fun k S Z=>∃i j R n B,S=[.loc 0 0,U,U,.loc 2 0,U,U,U,U,U,U,strs f.params,y4 ((f.params.map fun s=>[GV.v (sv s)]).length:Int),y4 (k:Nat),U,U,U,U,U,U,U,U,U,U,U,U,U,U,U,U,U,U,U,U,U,U]/\Z=[.box 155 (cC p (.slice i n j) (lT f c k)),.vech 9 1 R (.slice i n j),B]/\R.length=n/\R=bs (f.params.take k)) ?_ V ?_ ?_ ?_
 ·exact⟨_,_,Wk.aZ az,none,0,[],0,_,rfl,rfl,rfl,by simp[bs]⟩
 ·rintro k _ _⟨i,j,R,n,B,rfl,rfl,_⟩;exact dO
 ·rintro k _ _ z⟨i,j,R,n,B,rfl,rfl,d,m⟩;rw[E]at z;obtain⟨x,hx⟩:∃x,f.params[k]?=some x:=⟨f.params[k],by simp[z]⟩
  have X:(f.params.map fun s=>[GV.v (sv s)])[k]?=some [.v (sv x)]:=by rw[dB,hx];rfl
  have e:bs (f.params.take (k+1))=R++[[.v (sv x)]]:=by rw[dd,hx,m];simp[bs]
  have W:n<=1048576:=by rw[<-d,m,pg,mf];omega
  have r:GF prog 58 [.sl 1 R,.v (sv x)] [] (.v (.bool ((f.params.take k).contains x))) []:=by
   rw[m];exact iR (f.params.take k) x (by rw[mf];omega)
  have T:oW f.params k=(f.params.take k).contains x:=by unfold oW;rw[hx]
  rw[<-T]at r;have b:=jI p (.slice i n j) (lT f c k) 21 0;clear m
  cases F:oW f.params k with
  |true =>
   rw[F]at r;have⟨G,H⟩:=Rz (c:=c) F;unfold cC at b |-;rw[G,H];generalize(lT f c k).fail 21 0=s1 at *;generalize lT f c k=Y at *;refine I ?_;refine GL.borrow r (fun B K β w l N M=>fm (A:=[_]) (C:=[_]) N M rfl rfl) ?_;refine zad ?_;refine D [0] b ?_;exact zbP
  |false =>
   rw[F]at r;have⟨G,H⟩:=O0 (c:=c) F;unfold cC at b |-;rw[G,H];generalize lT f c k=Y at *;refine I ?_;refine GL.borrow r (fun B K β w l N M=>fm (A:=[_]) (C:=[_]) N M rfl rfl) ?_;refine zad ?_;exact zbP
 ·rintro _ _⟨i,j,R,n,B,rfl,rfl,d,m⟩;rw[E]at m |-;rw[dD]at m
  have O:n=f.params.length:=by rw[<-d,m,pg]
  subst O;refine zd1 ?_;exact WN (n:=2) rfl ir (ek rfl) rfl ⟨rfl,i,j,by rw[m];rfl⟩
open Go.Xp (Nd T)
def cO(p:Src)(c:SS)(ls:List ab)(S:Option Addr)(d:Nat):ap:=[.box 155 (cC p (.slice S ls.length d) c),.vech 9 1 (bs ls) (.slice S ls.length d)]
section
variable(p:Src)(c:SS)(n:Nd)(l:List T)(S:Option Addr)(d:Nat)
def HS(o:(n.s==[103,101,116])=true)(M:l.length<=1099511627776) :
  GF prog 207 [.loc 0 0,.agg (cT (.mk n l))] (cO p c c.ls S d) (.v (.bool true)) (cO p (fK c n l.length 0) c.ls S d):=by
 have X:(bj l).length=l.length:=bH l;unfold cO;unfold fK;show GF _ _ _ _ (.v (.bool true)) [.box _ (cC p _ (if l.length≠0 then _ else _)),_];have Q:=jI p (.slice S c.ls.length d) c 23 n.at_;unfold cC at Q |-
 cases N:(((bj l).length:Int) != ((0:Nat):Int))with
 |true =>
  rw[ak (show l.length≠0 by rw[X,bne_iff_ne]at N;omega)];exact zdc
 |false =>
  rw[ae (show ¬l.length≠0 by rw[X,bne_eq_false_iff_eq]at N;omega)];refine au func207 ntmps207 ?_;exact ay
def HT(o:(n.s==[103,101,116])=false)(b:(n.s==[112,117,116])=true)(M:l.length<=1099511627776) :
  GF prog 207 [.loc 0 0,.agg (cT (.mk n l))] (cO p c c.ls S d) (.v (.bool true)) (cO p (fK c n l.length 1) c.ls S d):=by
 have X:(bj l).length=l.length:=bH l;unfold cO;unfold fK;show GF _ _ _ _ (.v (.bool true)) [.box _ (cC p _ (if l.length≠1 then _ else _)),_];have Q:=jI p (.slice S c.ls.length d) c 23 n.at_;unfold cC at Q |-
 cases N:(((bj l).length:Int) != ((1:Nat):Int))with
 |true =>
  rw[ak (show l.length≠1 by rw[X,bne_iff_ne]at N;omega)];exact zdc
 |false =>
  rw[ae (show ¬l.length≠1 by rw[X,bne_eq_false_iff_eq]at N;omega)];refine au func207 ntmps207 ?_;exact ay
def Lp(o:(n.s==[103,101,116])=false)(b:(n.s==[112,117,116])=false)(G:(n.s==[115,105,122,101])=false)(M:l.length<=1099511627776)
  (O:GF prog 94 [.agg (aB p),.v (sv n.s)] [] (y4 (-1)) []) :
  GF prog 207 [.loc 0 0,.agg (cT (.mk n l))] (cO p c c.ls S d) (.v (.bool false)) (cO p (c.fail 22 n.at_) c.ls S d):=by
 have Q:=jI p (.slice S c.ls.length d) c 22 n.at_
 have W:decide ((-1:Int)<0)=true:=by decide
 unfold cO;unfold cC at Q |-;generalize c.fail 22 n.at_=r at *;exact zb2
end
def Lo(p:Src)(c:SS)(n:Nd)(l:List T)(i:Nat)(f:Go.Sp.Fn)(S:Option Addr)(d:Nat)(o:(n.s==[103,101,116])=false)(b:(n.s==[112,117,116])=false)(G:(n.s==[115,105,122,101])=false)(M:l.length<=1099511627776)
  (hf:p.av[i]?=some f)(O:GF prog 94 [.agg (aB p),.v (sv n.s)] [] (y4 ((i:Nat):Int)) []) :
  GF prog 207 [.loc 0 0,.agg (cT (.mk n l))] (cO p c c.ls S d) (.v (.bool true)) (cO p (fK c n l.length f.params.length) c.ls S d):=by
 have X:(bj l).length=l.length:=bH l
 have W:decide (((i:Nat):Int)<0)=false:=by simp
 have w:(p.av.map aD)[i]?=some (aD f):=by rw[dB,hf];rfl
 have e:(f.params.map fun s=>[GV.v (sv s)]).length=f.params.length:=by simp
 unfold aD at w;rw[<-e];unfold cO;unfold fK;show GF _ _ _ _ (.v (.bool true)) [.box _ (cC p _ (if l.length≠(f.params.map fun s=>[GV.v (sv s)]).length then _ else _)),_];have Q:=jI p (.slice S c.ls.length d) c 23 n.at_;unfold cC at Q |-
 cases N:(((bj l).length:Int) != (((f.params.map fun s=>[GV.v (sv s)]).length:Nat):Int))with
 |true =>
  rw[ak (show l.length≠(f.params.map fun s=>[GV.v (sv s)]).length by rw[X,bne_iff_ne]at N;omega)];generalize c.fail 23 n.at_=r at *;exact zb2
 |false =>
  rw[ae (show ¬l.length≠(f.params.map fun s=>[GV.v (sv s)]).length by rw[X,bne_eq_false_iff_eq]at N;omega)];refine au func207 ntmps207 ?_;refine aV (aL 0 7 (.a 7 (.q 8 .nil))) ?_;refine ax ?_;refine aP [] O ?_;exact aK
open Go.Xp (Ar)
section
variable(p:Src)(c:SS)
def Ed(n:Nd)(u:T)(S:Option Addr)(d:Nat)(G:(n.s==[103,101,116])=false)(e:(n.s==[112,117,116])=false)(H:(n.s==[115,105,122,101])=true)(N:p.aj.length<=1099511627776)(o:c.ls.length<=1099511627776) :
  GF prog 207 [.loc 0 0,.agg (cT (.mk n [u]))] (cO p c c.ls S d) (.v (.bool false)) (cO p (if ew p u.n c.ls=true then c.fail 24 n.at_ else c) c.ls S d):=by
 have E:(bj [u])[0]?=some (cT u):=dG rfl;have m:=wT p u.n.s N;have t:=iR c.ls u.n.s o;have Q:=jI p (.slice S c.ls.length d) c 24 n.at_;rw[show ew p u.n c.ls=((u.n.ai != 2 ||decide (bN (fun x:Ar=>x.name==u.n.s) p.aj<0)) ||c.ls.contains u.n.s)from rfl];generalize bN (fun x:Ar=>x.name==u.n.s) p.aj=z at *;unfold cO;unfold cC at Q |-
 cases J:(u.n.ai != 2)with
 |true =>
  rw[ak zfH];generalize c.fail 24 n.at_=r at *;refine au func207 ntmps207 ?_;refine zbf ?_;refine ax ?_;exact zcX
 |false =>
  cases j:decide (z<0)with
  |true =>
   rw[ak zfH];generalize c.fail 24 n.at_=r at *;refine au func207 ntmps207 ?_;refine zbf ?_;refine ax ?_;refine cH [] m ?_;exact zcX
  |false =>
   generalize c.ls.contains u.n.s=b at *
   cases b with
   |true =>
    rw[ak zfH];generalize c.fail 24 n.at_=r at *;refine au func207 ntmps207 ?_;refine zbf ?_;refine ax ?_;refine cH [] m ?_;refine Su rfl rfl rfl (by first|exact rfl|assumption) (GL.borrow t (fun B K F w l i O=>fm (A:=[_]) (C:=[_]) i O rfl rfl) ?_);refine cD ?_;exact zcX
   |false =>
    rw[ae aR];refine au func207 ntmps207 ?_;refine zbf ?_;refine ax ?_;refine cH [] m ?_;refine Su rfl rfl rfl (by first|exact rfl|assumption) (GL.borrow t (fun B K F w l i O=>fm (A:=[_]) (C:=[_]) i O rfl rfl) ?_);refine cD ?_;exact zbv
def Ee(n:Nd)(l:List T)(S:Option Addr)(d:Nat)(o:(n.s==[103,101,116])=false)(b:(n.s==[112,117,116])=false)(G:(n.s==[115,105,122,101])=true)(M:l.length≠1) :
  GF prog 207 [.loc 0 0,.agg (cT (.mk n l))] (cO p c c.ls S d) (.v (.bool false)) (cO p (c.fail 23 n.at_) c.ls S d):=by
 have Q:=jI p (.slice S c.ls.length d) c 23 n.at_;have X:(bj l).length=l.length:=bH l
 have g1:(((bj l).length:Int)==1)=false:=by rw[X,beq_eq_false_iff_ne];omega
 have O:(((bj l).length:Int) != 1)=true:=by rw[X,bne_iff_ne];omega
 unfold cO;unfold cC at Q |-;generalize c.fail 23 n.at_=r at *;refine au func207 ntmps207 ?_;refine zbf ?_;exact zcX
def Og(t:T)(S:Option Addr)(d:Nat)(Q:p.aj.length<=1099511627776)(q:p.av.length<=1099511627776)(m:c.ls.length<=1099511627776)(M:t.aw.length<=1099511627776) :
  GF prog 207 [.loc 0 0,.agg (cT t)] (cO p c c.ls S d) (.v (.bool (gQ p c t).2)) (cO p (gQ p c t).1 c.ls S d):=by
 cases t with
 |mk n l =>
 have M:l.length<=1099511627776:=M
 cases o:(n.s==[103,101,116])with
 |true =>
  have e:gQ p c (.mk n l)=(fK c n l.length 0,true):=by
   unfold gQ jw;exact ak (show n.s=_ by simpa using o)
  rw[e];exact HS p c n l S d o M
 |false =>
  have r:¬n.s=[103,101,116]:=by simpa using o
  cases b:(n.s==[112,117,116])with
  |true =>
   have e:gQ p c (.mk n l)=(fK c n l.length 1,true):=by
    unfold gQ jw jM;rw[ae (show ¬(T.mk n l).n.s=_ from r)];exact ak (show n.s=_ by simpa using b)
   rw[e];exact HT p c n l S d o b M
  |false =>
   have J:¬n.s=[112,117,116]:=by simpa using b
   cases G:(n.s==[115,105,122,101])with
   |true =>
    have e:gQ p c (.mk n l)=(fK (if l.length=1/\ew p (ke (.mk n l)) c.ls=true then c.fail 24 n.at_ else c) n l.length 1,false):=by
     unfold gQ jw jM dY;rw[ae (show ¬(T.mk n l).n.s=_ from r),ae (show ¬(T.mk n l).n.s=_ from J)];exact ak (show n.s=_ by simpa using G)
    rw[e]
    by_cases N:l.length=1
    ·obtain⟨u,rfl⟩:∃u,l=[u]:=by
      match l,N with
      |[u],_=>exact⟨u,rfl⟩
     have R:fK (if[u].length=1/\ew p (ke (.mk n [u])) c.ls=true then c.fail 24 n.at_ else c) n [u].length 1=(if ew p u.n c.ls=true then c.fail 24 n.at_ else c):=by
      unfold fK;rw[ae zfg];show(if _/\ew p u.n c.ls=true then _ else _)=_
      by_cases j:ew p u.n c.ls=true
      ·rw[ak j];exact ak ⟨rfl,j⟩
      ·rw[ae j];exact ae fun h=>j h.2
     rw[R];exact Ed p c n u S d o b G Q m
    ·have R:fK (if l.length=1/\ew p (ke (.mk n l)) c.ls=true then c.fail 24 n.at_ else c) n l.length 1=c.fail 23 n.at_:=by
      rw[ae fun h=>N h.1];unfold fK;exact ak N
     rw[R];exact Ee p c n l S d o b G N
   |false =>
    have W:¬n.s=[115,105,122,101]:=by simpa using G
    have O:=Cr p n.s q;unfold bN at O
    cases hx:p.av.findIdx? (fun f:Go.Sp.Fn=>f.name==n.s)with
    |none =>
     rw[hx]at O
     have e:gQ p c (.mk n l)=(c.fail 22 n.at_,false):=by
      refine zbm ?_;rfl
     rw[e];exact Lp p c n l S d o b G M O
    |some i =>
     rw[hx]at O;have k:i<p.av.length:=(List.findIdx?_eq_some_iff_getElem.1 hx).1;obtain⟨f,w⟩:∃f,p.av[i]?=some f:=⟨p.av[i],by simp[k]⟩
     have e:gQ p c (.mk n l)=(fK c n l.length f.params.length,true):=by
      refine zbm ?_;show(fK c n l.length (iq p i),true)=_;unfold iq;rw[w]
     rw[e];exact Lo p c n l i f S d o b G M w O
end
end Go.Xg
namespace Go.Im
open Go.Xp Go.Sp
theorem DB(p:Src)(u:T):∀(l:List T)(c:SS),kJ p (l++[u]) c=oz p u (kJ p l c)
 |[],c=>by rfl
 |t::l,c=>by rw[cons_append,kJ,kJ,DB p u l]
def OK(p:Src){l:List T}{k:Nat}{u:T}(h:l[k]?=some u)(c:SS):kJ p (l.take (k+1)) c=oz p u (kJ p (l.take k) c):=by
 grind[dd,DB]
def Sc(c:SS)(n:Nd):(nk c n).ls.length<=c.ls.length+1:=by
 unfold nk
 grind[SS.ry]
mutual
theorem U3(p:Src):∀(t:T)(c:SS),(oz p t c).ls.length<=c.ls.length+aU t
 |.mk n l,c=>by
  rw[oz,aU];refine jk (Sc _ _) ?_;split
  ·have:=w5 p l (kK p c (.mk n l)).1
   grind[vQ]
  grind[vQ]
theorem w5(p:Src):∀(l:List T)(c:SS),(kJ p l c).ls.length<=c.ls.length+aM l
 |[],c=>by grind[kJ]
 |t::r,c=>by
  rw[kJ,aM];have o:=w5 p r (oz p t c);have b:=U3 p t c;omega
end
def QL(p:Src)(l:List T)(c:SS):oo p [] l c=c:=by unfold oo;rfl
end Go.Im
namespace Go.Xg
open Go.RowKit Go.Xw Go.Proofs Tryz Go.Im
open GV (U)
open Go.Xp (Nd T Ar aU aM eP)
open Go.Sp (Src)
attribute [local irreducible] GW GL GO YG GC GA bo bq
section
variable(p:Src)
theorem Oh(Fl:p.aj.length<=1099511627776)(NH:p.av.length<=1099511627776)(vw:p.aq.length<=1099511627776):∀(N:Nat)(t:T),aU t<=N->∀(c:SS)(m:Option Addr)(o:Nat),c.ls.length+aU t<=8388608 ->
  GC prog 150 [.loc 0 0,.agg (cT t)] (cO p c c.ls m o) fun g Δ=>g=.tup []/\∃R W,Δ=cO p (oz p t c) (oz p t c).ls R W:=by
 intro N
 induction N with
 |zero=>intro t h;exact zd6
 |succ N ih =>
 intro t hN c m o hls
 cases t with
 |mk n l =>
 rw[Go.Xp.aU]at hN hls;have NL:=eP l;have xn:(bj l).length=l.length:=bH l;rw[oz];have H:=vQ p c (.mk n l);have O:=iR c.ls n.s V;have hG:=iR p.aq n.s vw;have hA:=wT p n.s Fl;have hC:=Og p c (.mk n l) m o Fl NH V (by grind[T.aw]);have M:=jI p (.slice m c.ls.length o) c 22 n.at_;have E:=jI p (.slice m c.ls.length o) c 24 n.at_
 have j:kK p c (.mk n l)=(if n.ai=2\/n.ai=7 then(if c.ls.contains n.s=false/\p.aq.contains n.s=false then c.fail 22 n.at_ else c,true)
  else if n.ai=3\/n.ai=8 then(if c.ls.contains n.s=true\/bN (fun x:Ar=>x.name==n.s) p.aj<0 then c.fail 24 n.at_ else c,true)
  else if n.ai=4 then gQ p c (.mk n l)else(c,true)):=rfl
 obtain⟨P,hP⟩:∃P,kK p c (.mk n l)=P:=⟨_,rfl⟩;rw[hP]at j H |-;unfold cO at hC |-;unfold cC at hC M E |-;refine au func150 ntmps150 ?_;refine aV (aL 0 6 (.a 6 (.q 7 .nil))) ?_;refine ax ?_;refine OA rfl rfl (GL.borrow O (fun B K β w l Y X=>fm (A:=[_]) (C:=[_,_]) Y X rfl rfl) ?_);refine cD ?_;refine ax ?_;refine y9 ?_;refine GW.join (fun fr Γ=>fr=.loc 0 0::U::U::.loc 2 0::.loc 3 0::U::.v (.bool P.2)::zU 103 []/\Γ=[.box 155 (cC p (.slice m c.ls.length o) P.1),.vech 9 1 (bs c.ls) (.slice m c.ls.length o),.box 89 (cT (.mk n l)),.box 82 (aN n)]) ?_ ?_
 ·have⟨J,at_,nn,s,ks⟩:=n;simp only at *;unfold cC;generalize gQ p c (.mk ⟨J,at_,nn,s,ks⟩ l)=cs at *;generalize bN (fun x:Ar=>x.name==s) p.aj=z at *;generalize c.ls.contains s=b at *;generalize p.aq.contains s=g at *;generalize c.fail 22 at_=c22 at *;generalize c.fail 24 at_=c24 at *
  by_cases h2:J=2
  ·subst h2
   have q2:((2:Int)==2)=true:=by decide
   rw[ak aR]at j;subst j
   cases b with
   |true =>
    refine zaZ ?_;refine bn ?_;exact fV
   |false =>
    cases g with
    |true =>
     refine zaZ ?_;refine ax ?_;refine cH [] hG ?_;exact fq
    |false =>
     exact zds
  by_cases h7:J=7
  ·subst h7
   have q2:((7:Int)==2)=false:=by decide
   have q7:((7:Int)==7)=true:=by decide
   rw[ak aR]at j;subst j
   cases b with
   |true =>
    refine zaZ ?_;refine bn ?_;exact fV
   |false =>
    cases g with
    |true =>
     refine zaZ ?_;refine ax ?_;refine cH [] hG ?_;exact fq
    |false =>
     exact zds
  rw[ae V]at j
  by_cases h3:J=3
  ·subst h3
   have q2:((3:Int)==2)=false:=by decide
   have q7:((3:Int)==7)=false:=by decide
   have q3:((3:Int)==3)=true:=by decide
   rw[ak aR]at j
   cases b with
   |true =>
    exact zcE
   |false =>
    cases hz:decide (z<0)with
    |true =>
     exact zdb
    |false =>
     rw[ae zff]at j;subst j;refine za3 ?_;exact fq
  by_cases h8:J=8
  ·subst h8
   have q2:((8:Int)==2)=false:=by decide
   have q7:((8:Int)==7)=false:=by decide
   have q3:((8:Int)==3)=false:=by decide
   have q8:((8:Int)==8)=true:=by decide
   rw[ak aR]at j
   cases b with
   |true =>
    exact zcE
   |false =>
    cases hz:decide (z<0)with
    |true =>
     exact zdb
    |false =>
     rw[ae zff]at j;subst j;refine za3 ?_;exact fq
  rw[ae V]at j
  by_cases h4:J=4
  ·subst h4
   have q2:((4:Int)==2)=false:=by decide
   have q7:((4:Int)==7)=false:=by decide
   have q3:((4:Int)==3)=false:=by decide
   have q8:((4:Int)==8)=false:=by decide
   have q4:((4:Int)==4)=true:=by decide
   rw[ak rfl]at j;subst j;refine I ?_;refine D [0,1] hC ?_;exact fV
  rw[ae h4]at j;subst j
  have q2:(J==2)=false:=by grind
  have q7:(J==7)=false:=by grind
  have q3:(J==3)=false:=by grind
  have q8:(J==8)=false:=by grind
  have q4:(J==4)=false:=by grind
  exact fq
 ·rintro _ _⟨rfl,rfl⟩;clear j hC M E;have⟨S,d⟩:=P;simp only at H |-;rw[<-H]at hls;rw[show cC p (.slice m c.ls.length o) S=cC p (.slice m S.ls.length o) S by rw[H],<-H];clear O;refine I ?_;refine GW.range (bj l).length (fun k fr Γ=>∃m o i,fr=.loc 0 0::U::U::.loc 2 0::.loc 3 0::U::.v (.bool d)::zU 57 (.sl 6 (bj l)::y4 ((bj l).length:Int)::y4 (k:Nat)::zU 43 [])/\Γ=[.box 155 (cC p (.slice m i.ls.length o) i),.vech 9 1 (bs i.ls) (.slice m i.ls.length o),.box 89 (cT (.mk n l)),.box 82 (aN n)]/\i=(if d=true then kJ p (l.take k) S else S)) ?_ V ?_ ?_ ?_
  ·exact⟨_,_,Wk.aZ az,m,o,S,rfl,rfl,by simp[kJ]⟩
  ·rintro k _ _⟨m,o,i,rfl,rfl,_⟩;exact dO
  ·rintro k _ _ ps⟨m,o,i,rfl,rfl,r⟩;rw[xn]at ps;obtain⟨u,hu⟩:∃u,l[k]?=some u:=⟨l[k],by simp[ps]⟩;have hr:=dG hu;have sM:=mz hu
   cases d with
   |false =>
    refine I ?_;exact⟨rfl,rfl,_,_,(Wk.cut (n:=4) (ek rfl) rfl).trans (Wk.aZ az),m,o,i,rfl,rfl,r⟩
   |true =>
    rw[ak rfl]at r;have Q:=w5 p (l.take k) S;rw[<-r]at Q;have hi:=ih u V i m o V;unfold cO at hi;rw[ak rfl,OK p hu,<-r];refine I ?_;refine b6 [0,1] hi ?_;rintro _ _⟨rfl,R,W,rfl⟩;refine zas ?_;exact⟨rfl,rfl,_,_,(Wk.cut (n:=4) (ek rfl) rfl).trans (Wk.aZ az),R,W,_,rfl,rfl,rfl⟩
  ·rintro _ _⟨m,o,i,rfl,rfl,r⟩;rw[xn,dD]at r;rw[<-r]
   have Q:i.ls.length<=8388608:=by
    grind[w5]
   clear r ih;refine bh ?_;have O:=iR i.ls n.s V;have AV:=pg i.ls;have Z:=jI p (.slice m i.ls.length o) i 21 n.at_;have h26:=jI p (.slice m i.ls.length o) i 26 n.at_;have l21:=i.ry 21 n.at_;have l26:=i.ry 26 n.at_
   cases hv:(n.ai != 13)with
   |true =>
    have e:nk i n=i:=by grind[nk]
    rw[e];refine I ?_;refine cm ?_;exact⟨rfl,m,o,rfl⟩
   |false =>
    have hv':¬n.ai≠13:=by grind
    unfold cC at Z h26
    cases hb:i.ls.contains n.s with
    |true =>
     rw[hb]at O
     have e:nk i n=⟨(i.fail 21 n.at_).ls++[n.s],(i.fail 21 n.at_).code,(i.fail 21 n.at_).at_⟩:=by unfold nk;grind
     rw[e];generalize i.fail 21 n.at_=y at *;refine zdt ?_;refine OA rfl rfl (GL.borrow O (fun B K β w l Y X=>fm (A:=[_]) (C:=[_,_]) Y X rfl rfl) ?_);refine zdy ?_;refine D [0] Z ?_;refine zch ?_;refine OA rfl rfl (GL.ml 1 (news:=[[.v (sv n.s)]]) rfl rfl rfl aQ rfl rfl (by refine⟨?_,?_⟩;(· show _+1<=_;omega);(· show(_+1)*_<=_;omega)) ?_);intro F G;refine zaO ?_;exact⟨rfl,F,G,by simp[cO,cC,bs,l21]⟩
    |false =>
     rw[hb]at O
     cases SW:((i.ls.length:Int)==40)with
     |true =>
      have e:nk i n=⟨(i.fail 26 n.at_).ls++[n.s],(i.fail 26 n.at_).code,(i.fail 26 n.at_).at_⟩:=by
       unfold nk
       grind
      rw[e];generalize i.fail 26 n.at_=y at *;refine zdt ?_;refine OA rfl rfl (GL.borrow O (fun B K β w l Y X=>fm (A:=[_]) (C:=[_,_]) Y X rfl rfl) ?_);refine zdy ?_;refine D [0] h26 ?_;refine zch ?_;refine OA rfl rfl (GL.ml 1 (news:=[[.v (sv n.s)]]) rfl rfl rfl aQ rfl rfl (by refine⟨?_,?_⟩;(· show _+1<=_;omega);(· show(_+1)*_<=_;omega)) ?_);intro F G;refine zaO ?_;exact⟨rfl,F,G,by simp[cO,cC,bs,l26]⟩
     |false =>
      have e:nk i n=⟨i.ls++[n.s],i.code,i.at_⟩:=by
       unfold nk
       grind
      rw[e];refine zdt ?_;refine OA rfl rfl (GL.borrow O (fun B K β w l Y X=>fm (A:=[_]) (C:=[_,_]) Y X rfl rfl) ?_);refine zdy ?_;refine zch ?_;refine OA rfl rfl (GL.ml 1 (news:=[[.v (sv n.s)]]) rfl rfl rfl aQ rfl rfl (by refine⟨?_,?_⟩;(· show _+1<=_;omega);(· show(_+1)*_<=_;omega)) ?_);intro F G;refine zaO ?_;exact⟨rfl,F,G,by simp[cO,cC,bs]⟩
def Ch(h:Value)(k e:Int):GF prog 206 [.loc 0 0,y4 e,y4 0] [.box 155 (cC p h ⟨[],k,0⟩)] (.tup []) [.box 155 (cC p h ⟨[],jr k e,0⟩)]:=by
 have:=jI p h ⟨[],k,0⟩ e 0
 rwa[show(SS.fail ⟨[],k,0⟩ e 0)=⟨[],jr k e,0⟩ by unfold SS.fail jr;by_cases N:k=0<;>simp[N]]at this
def FM(h:Value)(k:Int)(Q:p.aj.length<=1048576)(w:∀a∈p.aj,0<=a.size/\a.size<=2147483648)
  (rest:(p.aj.all fun a=>!nJ a)=true->GF prog 148 [.loc 0 0] [.box 155 (cC p h ⟨[],k,0⟩)] (.tup []) [.box 155 (cC p h ⟨[],rN p k,0⟩)]) :
  GF prog 148 [.loc 0 0] [.box 155 (cC p h ⟨[],k,0⟩)] (.tup []) [.box 155 (cC p h ⟨[],rN p k,0⟩)]:=by
 cases S:(p.aj.all fun a=>!nJ a)with
 |true=>exact rest S
 |false =>
 have C:(p.aj.map aW).length=p.aj.length:=by simp
 have i:=uZ w;have B:=Ch p h k 26
 have T:p.aj.any nJ=true:=by
  cases r:p.aj.any nJ with
  |true=>rfl
  |false =>
   rw[any_eq_false]at r;rw[List.all_eq_false]at S;have⟨x,hx,q⟩:=S;have:=r x hx;simp at q;rw[q]at this;exact absurd rfl this
 rw[show rN p k=jr k 26 by unfold rN;exact ak T];unfold cC at B |-;refine au func148 ntmps148 ?_;refine GW.range (p.aj.map aW).length (fun N J u=>J=.loc 0 0::U::y4 (ez (p.aj.take N))::U::U::U::U::U::U::U::U::U::.sl 2 (p.aj.map aW)::y4 ((p.aj.map aW).length:Int)::y4 (N:Nat)::zU 79 []/\u=[.box 155 [strs p.aq,.sl 2 (p.aj.map aW),.sl 3 (p.av.map aD),.sl 5 (p.ah.map aN),.v h,y4 k,y4 0]]/\(p.aj.take N).all (fun a=>!nJ a)=true) ?_ V ?_ ?_ ?_
 ·exact lk
 ·rintro N _ _⟨rfl,rfl,_⟩;exact dO
 ·rintro N _ _ O⟨rfl,rfl,o⟩;rw[C]at O;obtain⟨x,hx⟩:∃x,p.aj[N]?=some x:=⟨p.aj[N],by simp[O]⟩
  have z:(p.aj.map aW)[N]?=some (aW x):=by rw[dB,hx];rfl
  have l:=og (f:=nJ) hx;have R:=sQ hx;have s:=i N;have X:=w x (bP hx);have W:nJ x=(decide (x.size<1) ||decide (8000<x.size)):=rfl;unfold aW at z
  cases q:decide (x.size<1)with
  |true =>
   refine I ?_;refine D [0] B ?_;exact oL
  |false =>
   cases b:decide (8000<x.size)with
   |true =>
    refine I ?_;refine D [0] B ?_;exact oL
   |false =>
    rw[R];generalize ez (p.aj.take N)=c at *;refine I ?_;exact⟨rfl,rfl,_,_,(Wk.cut (n:=1) (aY _) rfl).trans (Wk.aZ az),rfl,rfl,by rw[l,o,W,q,b];rfl⟩
 ·rintro _ _⟨rfl,rfl,o⟩;rw[C,dD]at o;rw[o]at S;cases S
theorem Ef(h:Value)(k:Int)(Z:p.aj.length<=1048576)(NH:p.av.length<=1048576)(F:∀a∈p.aj,0<=a.size/\a.size<=2147483648)(N:(p.aj.all fun a=>!nJ a)=true) :
  GF prog 148 [.loc 0 0] [.box 155 (cC p h ⟨[],k,0⟩)] (.tup []) [.box 155 (cC p h ⟨[],rN p k,0⟩)]:=by
 have C:(p.aj.map aW).length=p.aj.length:=by simp
 have B:(p.av.map aD).length=p.av.length:=by simp
 have vw:(p.aq.map fun s=>[GV.v (sv s)]).length=p.aq.length:=by simp
 have hb:=uZ F
 have X:p.aj.any nJ=false:=by
  grind
 have m:=Ch p h;unfold cC at m |-;refine au func148 ntmps148 ?_;refine GW.range (p.aj.map aW).length (fun o z G=>z=.loc 0 0::U::y4 (ez (p.aj.take o))::U::U::U::U::U::U::U::U::U::.sl 2 (p.aj.map aW)::y4 ((p.aj.map aW).length:Int)::y4 (o:Nat)::zU 79 []/\G=[.box 155 [strs p.aq,.sl 2 (p.aj.map aW),.sl 3 (p.av.map aD),.sl 5 (p.ah.map aN),.v h,y4 k,y4 0]]) ?_ V ?_ ?_ ?_
 ·exact fV
 ·rintro o _ _⟨rfl,rfl⟩;exact dO
 ·rintro o _ _ l⟨rfl,rfl⟩;rw[C]at l;obtain⟨x,hx⟩:∃x,p.aj[o]?=some x:=⟨p.aj[o],by simp[l]⟩
  have E:(p.aj.map aW)[o]?=some (aW x):=by grind
  have O:=sQ hx;have hbk:=hb o;have hxs:=F x (bP hx)
  have t:nJ x=false:=by
   grind
  unfold nJ at t;rw[Bool.or_eq_false_iff]at t;have⟨J,M⟩:=t;have M:decide (8000<x.size)=false:=M;unfold aW at E;rw[O];generalize ez (p.aj.take o)=c at *;refine I ?_;exact⟨rfl,rfl,_,_,(Wk.cut (n:=1) (aY _) rfl).trans (Wk.aZ az),rfl,rfl⟩
 ·rintro _ _⟨rfl,rfl⟩;rw[C,dD];refine bh ?_;refine GW.seq ?_;have e1:decide (p.av.length>40)=decide ((40:Int)<((p.av.map aD).length:Int)):=decide_eq_decide.2 V;have e2:decide (p.aq.length>29)=decide ((29:Int)<((p.aq.map fun s=>[GV.v (sv s)]).length:Int)):=decide_eq_decide.2 V
  have A:uX p=((decide ((40:Int)<((p.av.map aD).length:Int)) ||decide ((29:Int)<((p.aq.map fun s=>[GV.v (sv s)]).length:Int))) ||decide ((8000:Int)<ez p.aj)):=by unfold uX;grind
  refine GW.join (fun z G=>z=.loc 0 0::zU 93 []/\G=[.box 155 [strs p.aq,.sl 2 (p.aj.map aW),.sl 3 (p.av.map aD),.sl 5 (p.ah.map aN),.v h,y4 (if uX p=true then jr k 26 else k),y4 0]]) ?_ ?_
  ·rw[A];have d:=m k 26;generalize ez p.aj=c at *
   cases J:decide ((40:Int)<((p.av.map aD).length:Int))
   all_goals cases M:decide ((29:Int)<((p.aq.map fun s=>[GV.v (sv s)]).length:Int))
   all_goals cases h3:decide ((8000:Int)<c)
   all_goals
    refine I ?_
    first
     |exact fV
     |(refine ig [0] d ?_;refine I ?_;exact⟨_,_,Wk.aZ az,rfl,rfl⟩)
  ·rintro _ _⟨rfl,rfl⟩;generalize Q:(if uX p=true then jr k 26 else k)=H
   have w:∀j:Nat,∀x:Go.Sp.Fn,p.av[j]?=some x->(p.av.take (j+1)).any (fun f=>decide (f.params.length>40))=((p.av.take j).any (fun f=>decide (f.params.length>40)) ||decide (x.params.length>40)):=fun j x hx=>by
    rw[dd,hx,List.any_append];simp
   refine I ?_;refine GW.range (p.av.map aD).length (fun j z G=>∃b,z=.loc 0 0::zU 58 (.sl 3 (p.av.map aD)::y4 ((p.av.map aD).length:Int)::y4 (j:Nat)::zU 32 [])/\G=[.box 155 [strs p.aq,.sl 2 (p.aj.map aW),.sl 3 (p.av.map aD),.sl 5 (p.ah.map aN),.v h,y4 b,y4 0]]/\b=(if(p.av.take j).any (fun f=>decide (f.params.length>40))=true then jr H 26 else H)) ?_ V ?_ ?_ ?_
   ·exact⟨_,_,Wk.aZ az,H,rfl,rfl,by simp⟩
   ·rintro j _ _⟨b,rfl,rfl,_⟩;exact dO
   ·rintro j _ _ l⟨b,rfl,rfl,u⟩;rw[B]at l;obtain⟨x,hx⟩:∃x,p.av[j]?=some x:=⟨p.av[j],by simp[l]⟩
    have E:(p.av.map aD)[j]?=some (aD x):=by grind
    have W:(x.params.map fun s=>[GV.v (sv s)]).length=x.params.length:=by simp
    have S:=w j x hx;have t:decide (x.params.length>40)=decide ((40:Int)<((x.params.map fun s=>[GV.v (sv s)]).length:Int)):=decide_eq_decide.2 V;have d:=m b 26;rw[S,t];unfold aD at E
    cases J:decide ((40:Int)<((x.params.map fun s=>[GV.v (sv s)]).length:Int))with
    |true =>
     have e:jr b 26=jr H 26:=by grind[jr]
     rw[e]at d;refine I ?_;refine D [0] d ?_;exact⟨rfl,rfl,_,_,(Wk.cut (n:=1) (aY _) rfl).trans (Wk.aZ az),_,rfl,rfl,by simp⟩
    |false =>
     refine I ?_;exact⟨rfl,rfl,_,_,(Wk.cut (n:=1) (aY _) rfl).trans (Wk.aZ az),b,rfl,rfl,by grind⟩
   ·rintro _ _⟨b,rfl,rfl,u⟩;rw[B,dD]at u
    have Y:rN p k=(if ly p=true then jr b 25 else b):=by
     grind[rN,ly,jr]
    rw[Y];refine bh ?_;have q:=m b 25;have r:=Cr p iI V;unfold bN at r;clear Y u Q
    cases hx:p.av.findIdx? (fun f:Go.Sp.Fn=>f.name==iI)with
    |none =>
     rw[hx]at r
     have t:decide ((-1:Int)<0)=true:=by decide
     simp only at r;rw[show(if ly p=true then jr b 25 else b)=jr b 25 from ak (by grind[ly])];exact zez
    |some i =>
     rw[hx]at r;have hi:i<p.av.length:=(List.findIdx?_eq_some_iff_getElem.1 hx).1;obtain⟨f,hf⟩:∃f,p.av[i]?=some f:=⟨p.av[i],by simp[hi]⟩
     have E:(p.av.map aD)[i]?=some (aD f):=by grind
     have W:(f.params.map fun s=>[GV.v (sv s)]).length=f.params.length:=by simp
     have t:decide (((i:Nat):Int)<0)=false:=by simp
     have T:decide (iq p i>0)=decide ((0:Int)<((f.params.map fun s=>[GV.v (sv s)]).length:Int)):=by
      grind[iq]
     simp only at r
     have R:ly p=decide (iq p i>0):=by grind[ly]
     rw[T]at R;unfold aD at E
     cases J:decide ((0:Int)<((f.params.map fun s=>[GV.v (sv s)]).length:Int))with
     |true =>
      rw[show(if ly p=true then jr b 25 else b)=jr b 25 from ak zff];exact zez
     |false =>
      rw[show(if ly p=true then jr b 25 else b)=b from ae zff];refine I ?_;refine D [] r ?_;refine cm ?_;simp
def L8(O:GF prog 76 [.agg (aB p)] [] (.v (.bool false)) []):GF prog 80 [.agg (aB p)] [] (.tup [y4 20,y4 0]) []:=by
 refine au func80 ntmps80 ?_;refine D [] O ?_;exact eA
def Ku(l:List T)(G e:SS)(X:p.av.length=l.length)(Y:p.av.length<=1048576)(z:p.aj.length<=1099511627776)(C:p.aq.length<=1099511627776)
  (q:∀f∈p.av,f.params.length<=1048576)(F:∀t∈l,aU t<=1048576)
  (W:GF prog 76 [.agg (aB p)] [] (.v (.bool true)) [])
  (H:GF prog 147 [.loc 0 0] [.box 155 (cC p y6 ⟨[],0,0⟩)] (.tup []) [.box 155 (cC p y6 G)])
  (M:GF prog 148 [.loc 0 0] [.box 155 (cC p y6 G)] (.tup []) [.box 155 (cC p y6 e)])
  (r:∀(i:Nat)(f:Go.Sp.Fn)(t:T),p.av[i]?=some f->l[i]?=some t->GF prog 120 [.agg (aB p),y4 f.body] [] (.agg (cT t)) []) :
  GF prog 80 [.agg (aB p)] [] (.tup [.v (ii (oo p p.av l e).code),.v (ii (oo p p.av l e).at_)]) []:=by
 have o:(p.av.map aD).length=p.av.length:=by simp
 unfold cC at H M;refine au func80 ntmps80 ?_;refine D [] W ?_;refine D [1] H ?_;refine D [1] M ?_;refine GW.range (p.av.map aD).length (fun k S Γ=>∃h c,S=U::.loc 0 0::U::U::.loc 1 0::zU 13 (.sl 3 (p.av.map aD)::y4 ((p.av.map aD).length:Int)::y4 (k:Nat)::zU 26 [])/\Γ=[.box 28 (aB p),.box 155 (cC p h c)]/\oo p p.av l e=oo p (p.av.drop k) (l.drop k) c) ?_ V ?_ ?_ ?_
 ·exact⟨_,_,Wk.aZ az,_,e,rfl,rfl,rfl⟩
 ·rintro k _ _⟨h,c,rfl,rfl,_⟩;exact dO
 ·rintro k _ _ b⟨h,c,rfl,rfl,d⟩;rw[o]at b;obtain⟨f,m⟩:∃f,p.av[k]?=some f:=⟨p.av[k],by simp[b]⟩;obtain⟨t,s⟩:∃t,l[k]?=some t:=⟨l[k]'V,cK _⟩
  have hr:(p.av.map aD)[k]?=some (aD f):=by rw[dB,m];rfl
  have A:p.av.drop k=f::p.av.drop (k+1):=by rw[j3 b];rw[cK b]at m;rw[sZ m]
  have B:l.drop k=t::l.drop (k+1):=by rw[j3 V];rw[cK V]at s;rw[sZ s]
  have Z:=q f (bP m);have hz:=F t (bP s);have E:=r k f t m s;have J:=HU p h c f Z;rw[A,B,oo]at d
  cases N:(c.code==0)with
  |false =>
   rw[ae (by simpa using N)]at d;unfold cC aD at *;refine I ?_;exact⟨rfl,rfl,_,_,(Wk.cut (n:=2) (bp _) rfl).trans (Wk.aZ az),h,c,rfl,rfl,d⟩
  |true =>
   rw[ak (by simpa using N)]at d
   have j:=fun u w=>Oh p z V C _ t (aY _) (rJ f c) u w (by show f.params.length+_<=_;omega)
   rw[d];generalize oz p t (rJ f c)=Q at *;unfold cO at j;unfold aD at hr J;rw[show cC p h c=[strs p.aq,.sl 2 (p.aj.map aW),.sl 3 (p.av.map aD),.sl 5 (p.ah.map aN),.v h,y4 c.code,y4 c.at_]from rfl]at *;refine I ?_;refine b6 [1] J ?_;rintro _ _⟨rfl,u,w,rfl⟩;refine zas ?_;refine D [] E ?_;refine b6 [1,3] (j u w) ?_;rintro _ _⟨rfl,O,R,rfl⟩;refine zas ?_;exact⟨rfl,rfl,_,_,(Wk.cut (n:=2) (bp _) rfl).trans (Wk.aZ az),_,Q,rfl,rfl,rfl⟩
 ·rintro _ _⟨h,c,rfl,rfl,d⟩;rw[o,List.drop_length,QL]at d;rw[d];unfold cC;refine bh ?_;refine I ?_;refine aV (aL 0 10 .nil) ?_;refine ax ?_;exact rR
end
def Oj:∀(N:Nat)(t:T),aU t<=N->∀(out:List ab)(S:Option Addr)(c:Nat),out.length+aU t<=8388608 ->
  GC prog 119 [.v (.slice S out.length c),.agg (cT t)] [.vech 9 1 (bs out) (.slice S out.length c)] fun g r=>∃w Y,g=.v (.slice w (out++bW t).length Y)/\r=[.vech 9 1 (bs (out++bW t)) (.slice w (out++bW t).length Y)]:=by
 intro N
 induction N with
 |zero=>intro t h;exact zd6
 |succ N W =>
 intro t C out S c m
 cases t with
 |mk n l =>
 rw[Go.Xp.aU]at C m;have q:=eP l;have X:(bj l).length=l.length:=bH l;rw[bW];refine au func119 ntmps119 ?_;refine GW.range (bj l).length (fun k J E=>∃S c o,J=.v (.slice S o.length c)::U::U::.loc 1 0::U::U::U::U::.sl 6 (bj l)::y4 ((bj l).length:Int)::y4 (k:Nat)::zU 18 []/\E=[.vech 9 1 (bs o) (.slice S o.length c),.box 89 (cT (.mk n l))]/\o=out++bC (l.take k)) ?_ V ?_ ?_ ?_
 ·exact⟨_,_,Wk.aZ az,S,c,out,rfl,rfl,by simp[bC]⟩
 ·rintro k _ _⟨S,c,o,rfl,rfl,_⟩;exact dO
 ·rintro k _ _ Q⟨S,c,o,rfl,rfl,B⟩;rw[X]at Q;obtain⟨u,M⟩:∃u,l[k]?=some u:=⟨l[k],by simp[Q]⟩;have F:=dG M;have z:=mz M
  have d:o.length<=out.length+aM (l.take k):=by rw[B,br];have:=jJ (l.take k);omega
  have i:=W u V o S c V
  have R:out++bC (l.take (k+1))=o++bW u:=by rw[zG M,B,dP]
  rw[R];refine I ?_;refine b6 [0] i ?_;rintro _ _⟨w,Y,rfl,rfl⟩;refine zas ?_;exact⟨rfl,rfl,_,_,(Wk.cut (n:=2) (ek rfl) rfl).trans (Wk.aZ az),w,Y,_,rfl,rfl,rfl⟩
 ·rintro _ _⟨S,c,o,rfl,rfl,B⟩;rw[X,dD]at B
  have d:o.length<=out.length+aM l:=by rw[B,br];have:=jJ l;omega
  have Z:=pg o;rw[<-dP,<-B];clear B W;refine bh ?_
  cases j:(n.ai==13)with
  |false =>
   rw[ae (by simpa using j),eT];refine zd1 ?_;exact qc (n:=1) rfl ir rfl (ek rfl) rfl rfl ⟨S,c,rfl,rfl⟩
  |true =>
   rw[ak (by simpa using j)];refine I ?_;refine GL.kx 0 rfl rfl rfl rfl rfl rfl rfl rfl aQ np ?_;intro O A;refine zb0 ?_;refine nq ?_;exact qc (n:=1) rfl ir rfl (ek rfl) rfl rfl ⟨O,A,by show GV.v (.slice O ((bs o).length+1) A)=_;simp[bs],by show[Ob.vech _ 1 (bs o++[[.v (sv n.s)]]) (.slice O ((bs o).length+1) A)]=_;simp[bs]⟩
end Go.Xg
namespace Go.Xg
open Go.RowKit Go.Xw Go.Proofs
section
variable{P:Program}{m:Nat}{ops:Array Oper}{Q:dN}{rest:List Oper}{fr:am}{Γ:ap}
def PH{o:Oper}{a:Act}{next s:Act->World->Prop}{Q Q':Exit->Act->World->Prop}(hn:∀a w,next a w->s a w)(J:∀e a w,Q e a w->Q' e a w):∀r,o.upon P a next Q r->o.upon P a s Q' r:=by
 have M:LetsOut Q->LetsOut Q':=fun⟨a,w,h⟩=>⟨a,w,J _ _ _ h⟩
 intro r h;unfold Oper.upon at h |-;split at h
 ·exact hn _ _ h
 ·exact hn _ _ h
 ·exact hn _ _ h
 ·refine Calls.mono h fun e Z i=>?_
  cases e with
  |returned v=>exact hn _ _ i
  |panicked H=>exact J _ _ _ i
  |outgrown=>exact M i
 ·exact Rows.mono h fun v Z j=>hn _ _ j
 ·exact J _ _ _ h
 ·exact h
def zH{Q Q':Exit->Act->World->Prop}(J:∀e a w,Q e a w->Q' e a w):∀(l:List Oper)(a:Act)(w:World),wpList P ops Q l a w->wpList P ops Q' l a w
 |[],a,w,h=>J _ _ _ h
 |o::l,a,w,h=>by
  have O:=zH J l;unfold wpList at h |-;split at h
  ·rename_i n;rw[ak n]
   rcases h with h|⟨q,b⟩
   ·exact .inl (PH O J _ h)
   ·exact .inr ⟨q,by have⟨a,w,h⟩:=b;exact⟨a,w,J _ _ _ h⟩⟩
  ·rename_i n;rw[ae n];exact O _ _ h
theorem GL.mono{Q':dN}(h:GL P m ops Q rest fr Γ)(J:∀e fr Γ,Q e fr Γ->Q' e fr Γ):GL P m ops Q' rest fr Γ:=fun B K n w l j i O =>
 zH (fun e a w ⟨l,v,K,n,fr,Γ,i,O,q⟩=>⟨l,v,K,n,fr,Γ,i,O,J _ _ _ q⟩) _ _ _ (h B K n w l j i O)
def GL.ZG{z y:Code}(K:am->ap->Prop)(o:GL P m ops (bo (GW P m z (bo (zf m K) Q)) Q) rest fr Γ)(b:∀fr Γ,K fr Γ->GW P m y Q fr Γ):GL P m ops (bo (GW P m z (bo (GW P m y Q) Q)) (bo (GW P m y Q) Q)) rest fr Γ:=by
 refine o.mono fun e fr Γ J=>?_
 cases e with
 |normal=>exact GW.join K J b
 |_=>exact J
def GL.wH{t i n E k:Nat}{rows:List am}(M:bD fr t=.vec i n)(q:il fr t=true)(o:Γ[i]?=some (.vec E k 0 rows))(hn:rows.length=n)
  (h:∀a c,GL P m ops Q rest (bJ fr t (.v (.slice a n c))) (oset Γ i (.vech E k rows (.slice a n c)))):GL P m ops Q rest fr Γ:=fun B K β w l A s O=>by
 subst hn;have⟨a,c,u,F⟩:=s.wH o
 have j:nth l t=.slice a rows.length c:=by
  have:=O.nth t;rw[M]at this;generalize nth l t=x at this
  cases this with
  |vec i n W J h =>
   have⟨C,d,z,_,r⟩:=h;rw[u]at z;cases z;exact r rfl
 have:=O.fc t (Rel.v (K:=K) (β:=β) (.slice a rows.length c));rw[<-j,Av (nP O q),j]at this;exact h a c B K β w l A F this
end
end Go.Xg
namespace Go.Im
open Go.Xp Go.Sp
theorem zi(o:List ab)(u:T):∀(l:List T)(J:List ab),jo o (l++[u]) J=jo o l J++[mG o u (J++bC l)]
 |[],J=>by simp[jo,bC]
 |t::l,J=>by rw[cons_append,jo,zi o u l,jo,bC,dP];rfl
theorem HH(o:List ab){l:List T}{k:Nat}{u:T}(h:l[k]?=some u)(J:List ab):jo o (l.take (k+1)) J=jo o (l.take k) J++[mG o u (J++bC (l.take k))]:=by
 grind[dd,zi]
def LG(o:List ab)(n:Nd)(J:List ab):Int:=if(n.ai=2\/n.ai=7)/\J.contains n.s=true then ve o n.s+1 else n.n
section
variable{o:List ab}{n:Nd}{J:List ab}
theorem Qo(h:n.ai=13):rV o n J=⟨n.ai,n.at_,ve o n.s+1,n.s,n.aw⟩:=by unfold rV;grind
def Qp(h:¬n.ai=13):rV o n J=⟨n.ai,n.at_,LG o n J,n.s,n.aw⟩:=by
 unfold rV LG;rw[ae h];split<;>rfl
end
def Wc(o:List ab)(s:ab) : -1<=ve o s/\ve o s<=(o.length:Int):=by
 unfold ve bN
 grind[List.findIdx?_eq_some_iff_getElem]
end Go.Im
namespace Go.Xg
open Go.RowKit Go.Xw Go.Proofs Tryz Go.Im
open GV (U)
open Go.Xp (Nd T aU aM eP)
attribute [local irreducible] GW GL GO YG GC GA bo bq
def Ol(c:List ab)(Q:c.length<=1099511627776):∀(N:Nat)(t:T),aU t<=N->∀(b:List ab),b.length+aU t<=8388608 ->
  GF prog 121 [strs c,strs b,.agg (cT t)] [] (.tup [.agg (cT (mG c t b)),strs (b++bW t)]) []:=by
 intro N
 induction N with
 |zero=>intro t h;exact zd6
 |succ N ih =>
 intro t hN b O
 cases t with
 |mk n l =>
 rw[Go.Xp.aU]at hN O;have NL:=eP l;have B:(bj l).length=l.length:=bH l;have z:=iR b n.s V;have M:=UO c n.s Q;have hAl:=Wc c n.s;rw[mG,bW];obtain⟨H,G⟩:∃H,LG c n b=H:=⟨_,rfl⟩;have d:=G;unfold LG at d;refine au func121 ntmps121 ?_;refine GL.ZG (fun J X=>J=strs c::strs b::U::U::U::.loc 0 0::.loc 1 0::U::.loc 2 0::zU 76 []/\X=[.box 89 (cT (.mk n l)),.box 89 zT,.box 89 [y4 n.ai,y4 n.at_,y4 H,.v (sv n.s),ints n.aw,.v y6]]) ?_ ?_
 ·generalize ve c n.s=an at *
  cases q2:(n.ai==2)with
  |true =>
   cases A:b.contains n.s with
   |true =>
    rw[A]at z;rw[ak ⟨.inl zff,A⟩]at d;subst d;refine zcz ?_;refine D [] M ?_;exact fV
   |false =>
    exact zem
  |false =>
   cases q7:(n.ai==7)with
   |true =>
    cases A:b.contains n.s with
    |true =>
     rw[A]at z;rw[ak ⟨.inr zff,A⟩]at d;subst d;refine zcz ?_;refine D [] M ?_;exact fV
    |false =>
     exact zem
   |false =>
    rw[ae zff]at d;subst d;exact fq
 ·rintro _ _⟨rfl,rfl⟩;refine GW.wk (Wk.tV (i:=2) (o:=5) 89 6 rfl rfl) ?_;refine zcm ?_;refine I ?_
  refine GW.range (bj l).length (fun k J X=>∃e j,J=strs c::strs j::U::U::U::.loc 0 0::.loc 1 0::U::.loc 2 0::zU 33 (.sl 6 (bj l)::y4 ((bj l).length:Int)::y4 (k:Nat)::zU 40 []) /\
   X=[.box 89 (cT (.mk n l)),.box 89 zT,.box 89 [y4 n.ai,y4 n.at_,y4 H,.v (sv n.s),ints n.aw,.vec 3 k],.vec 89 6 0 e] /\
   e.length=k/\e=bj (jo c (l.take k) b)/\j=b++bC (l.take k)) ?_ V ?_ ?_ ?_
  ·exact⟨_,_,Wk.aZ az,[],b,rfl,rfl,rfl,by rfl,by simp[bC]⟩
  ·rintro k _ _⟨_,_,rfl,rfl,_⟩;exact dO
  ·rintro k _ _ F⟨e,j,rfl,rfl,E,m,r⟩;rw[B]at F;obtain⟨u,hu⟩:∃u,l[k]?=some u:=⟨l[k],by simp[F]⟩;have hr:=dG hu;have sM:=mz hu
   have Z:j.length<=b.length+aM (l.take k):=by grind[br,jJ]
   have hi:=ih u V j V
   have S:b++bC (l.take (k+1))=j++bW u:=by grind[zG,dP]
   have R:bj (jo c (l.take (k+1)) b)=e++[cT (mG c u j)]:=by
    grind[HH,sn,ru]
   rw[S,R];clear m r;generalize mG c u j=bu at *;refine I ?_;refine D [] hi ?_;refine zbD ?_;exact⟨rfl,rfl,_,_,(Wk.cut (n:=4) (ek rfl) rfl).trans (Wk.aZ az),_,_,rfl,rfl,by grind,rfl,rfl⟩
  ·rintro _ _⟨e,j,rfl,rfl,E,m,r⟩;rw[B,dD]at m r;rw[B]at E |-;rw[<-dP,<-r]
   have zr:j.length<=b.length+aM l:=by grind[br,jJ]
   have Y:j.length*16<=140737488355328:=by omega
   refine bh (GW.wk (Wk.pd (i:=2) (o:=5) rfl rfl rfl rfl E) ?_);simp only[bJ,oset];refine GW.Df (dh:=strs c::strs j::U::U::U::.loc 0 0::.loc 1 0::U::.loc 2 0::zU 76 []) (bM:=[.box 89 (cT (.mk n l)),.box 89 zT,.box 89 [y4 n.ai,y4 n.at_,y4 H,.v (sv n.s),ints n.aw,.sl 6 e],.vec 89 6 l.length e]) az rfl ?_;subst m;clear r
   cases hv:(n.ai==13)with
   |false =>
    rw[ae zff,eT,Qp zff,G];refine I ?_;exact zeK
   |true =>
    rw[ak zff,Qo zff]
    have C:(j.map fun s=>[GV.v (sv s)]).length=j.length:=by simp
    have W:strs (j++[n.s])=.sl 1 ((j.map fun s=>[GV.v (sv s)])++[[.v (sv n.s)]]):=by simp
    rw[W];have w:lg (j.map fun s=>[GV.v (sv s)])=true:=mu j;generalize ve c n.s=an at *;refine I ?_;refine D [] M ?_;refine aV (.q 1 (aL 3 3 (.f 0 (.f 2 (.a 6 (.a 7 (.q 8 .nil))) 6 (.a 2 (.a 7 (.q 8 .nil)))) 6 (.a 0 (.a 2 (.a 7 (.q 8 .nil))))))) ?_;refine ax ?_;refine GO.fork ?_ ?_
    ·refine qC ?_;refine ax ?_;refine GO.fork ?_ ?_
     ·refine OA rfl rfl (GL.yx rfl rfl rfl rfl w V ?_);rw[C];refine cD ?_;simp only[dJ];refine zdP ?_;exact za7
     ·refine zap ?_;exact zcF
    ·refine zap ?_;refine qC ?_;refine ax ?_;exact zcF
end Go.Xg
set_option maxHeartbeats 1000000
namespace Go.Xg
open Go.RowKit Go.Xw Go.Proofs Tryz Go.Sp
open Go.Xp (Nd T bL hY E er bl wt gI re fk)
attribute [local irreducible] GW GL GO YG GC GA bo bq
def fx{C:Nd}{l W:List T}{k v:Int}{s:ab}(h:er (.mk C l)=.mk ⟨k,0,v,s,[]⟩ W):C.ai=k/\C.n=v/\C.s=s/\bl l=W:=by
 grind[er]
theorem wB{l:List T}{x:T}(h:bl l=[x]):∃t,l=[t]/\er t=x:=by
 match l,h with
 |[t],h=>grind[bl]
 |[],h=>grind[bl]
 |t::u::r,h=>grind[bl]
theorem Cc{l:List T}{x y:T}(h:bl l=[x,y]):∃t u,l=[t,u]/\er t=x/\er u=y:=by
 match l,h with
 |t::r,h =>
  grind[bl,wB]
 |[],h=>grind[bl]
def aaq{l:List T}{x y z:T}(h:bl l=[x,y,z]):∃t u w,l=[t,u,w]/\er t=x/\er u=y/\er w=z:=by
 match l,h with
 |t::r,h =>
  grind[bl,Cc]
 |[],h=>grind[bl]
theorem R8{a:E}(h:a.ok=true){t:T}(M:er t=a.tree):nX t.n.ai t.n.s=(a.lv:Int):=by
 have⟨C,l⟩:=t
 cases a with
 |bin s a b =>
  have⟨o,_,c,_⟩:=fx M;simp only[E.ok,aI]at h;have d:=(Go.Xp.sw h.1.1).1;simp only[T.n,o,c,nX,ak,E.lv]
  grind[fk]
 |num n=>exact zbN
 |name n=>exact zbN
 |at_ s a=>exact zbN
 |call s a=>exact zbN
 |un s a=>exact zbN
def rQ{a:E}(h:a.ok=true){t:T}(M:er t=a.tree):GF prog 357 [.agg (cT t)] [] (y4 (a.lv:Int)) []:=by
 have:=Ln t
 grind[R8]
def C8(n:Int)(h:0<=n/\n<=2147483647):GF prog 358 [y4 n] [] (.v (sv (hY n.toNat))) []:=by
 have l:=V8 n
 have u:bL n=n:=by grind[bL]
 rw[u]at l;have T:=HN n.toNat V;rw[Int.toNat_of_nonneg h.1]at T
 have e:decide (n<0)=false:=by grind
 refine au func358 ntmps358 ?_;refine D [] l ?_;refine D [] T ?_;exact ay
abbrev lim:Nat:=1000000000000
def sb(a:E):Prop:=∀(t:T)(k:Nat),a.ok=true->er t=a.tree->wt a.tree<=lim->¬a.lv<k->GF prog 321 [.agg (cT t),y4 (k:Int)] [] (.v (sv a.bS)) []
def pE(a:E):Prop:=∀(t:T)(k:Nat),a.ok=true->er t=a.tree->wt a.tree<=lim->GF prog 321 [.agg (cT t),y4 (k:Int)] [] (.v (sv (re a.lv k a.bS))) []
def sb.p{a:E}(C:sb a):pE a:=by
 intro t k A M i;unfold re
 by_cases h:a.lv<k
 ·rw[ak h]
  have e:decide ((a.lv:Int)<(k:Int))=true:=by grind
  have N:=(E.len a A).1;have o:=C t 0 A M i V;have R:=i;unfold lim at R;generalize a.bS=x at *;refine au func321 ntmps321 ?_;refine D [] (rQ A M) ?_;exact zcH
 ·rw[ae h];exact C t k A M i h
def Ow(n:Int):sb (.num n):=by
 intro t k A M i h
 have e:decide (((E.num n).lv:Int)<(k:Int))=false:=by grind
 have X:=rQ A M;have⟨⟨w,d,m,q,u⟩,l⟩:=t;have⟨o,b,G,N⟩:=fx M;simp only at o b G;subst o b G;simp only[E.ok,aI]at A;have c:=C8 m ⟨q9 A.1,q9 A.2⟩;rw[E.bS];simp only[cT,T.n,T.aw]at X |-;refine au func321 ntmps321 ?_;refine D [] X ?_;exact ze1
def Ls(s:ab):sb (.name s):=by
 intro t k A M i h
 have e:decide (((E.name s).lv:Int)<(k:Int))=false:=by grind
 have X:=rQ A M;have⟨⟨w,c,q,m,u⟩,l⟩:=t;have⟨o,b,G,N⟩:=fx M;simp only at o b G;subst o b G;rw[E.bS];simp only[cT,T.n,T.aw]at X |-;refine au func321 ntmps321 ?_;refine D [] X ?_;exact ay
def Re(s:ab)(a:E)(C:pE a):sb (.at_ s a):=by
 intro t k A M i h
 have e:decide (((E.at_ s a).lv:Int)<(k:Int))=false:=by grind
 have X:=rQ A M;have⟨⟨w,c,q,m,u⟩,l⟩:=t;have⟨o,b,G,N⟩:=fx M;simp only at o b G;subst o b G;obtain⟨x,rfl,hx⟩:=wB N;simp only[E.ok,aI]at A;rw[E.tree,wt]at i;simp only[gI,lim]at i;have W:=C x 0 A.2 hx zff;unfold re at W;rw[ae V]at W;have O:=(E.len a A.2).1;have v:(bj [x])[0]?=some (cT x):=dG rfl;rw[E.bS];generalize a.bS=y at *;simp only[cT,T.n,T.aw]at X |-;refine au func321 ntmps321 ?_;refine D [] X ?_;refine aV (aL 0 8 (.a 8 (aL 9 3 .nil))) ?_;refine ax ?_;refine aP [] W ?_;exact aK
def Rf(s:ab)(a:E)(C:pE a):sb (.un s a):=by
 intro t k A M i h
 have e:decide (((E.un s a).lv:Int)<(k:Int))=false:=by grind
 have X:=rQ A M;have⟨⟨w,c,r,m,u⟩,l⟩:=t;have⟨o,b,G,N⟩:=fx M;simp only at o b G;subst o b G;obtain⟨x,rfl,hx⟩:=wB N;simp only[E.ok,aI]at A;rw[E.tree,wt]at i;simp only[gI,lim]at i;have Y:=C x 9 A.2 hx zff;have O:=(E.len a A.2).1;have W:=Go.Xp.td a.lv 9 a.bS;have v:(bj [x])[0]?=some (cT x):=dG rfl;rw[E.bS];generalize re a.lv 9 a.bS=y at *;simp only[cT,T.n,T.aw]at X |-;refine au func321 ntmps321 ?_;refine D [] X ?_;refine aV (aL 0 8 (.a 8 (.q 9 (.a 10 (.q 11 (.q 12 .nil)))))) ?_;refine ax ?_;refine aP [] jX ?_;refine aP [] Y ?_;exact aK
def Ov(s:ab)(a b:E)(z:pE a)(C:pE b):sb (.bin s a b):=by
 intro t k A M i h
 have e:decide (((E.bin s a b).lv:Int)<(k:Int))=false:=by grind
 have X:=rQ A M;have⟨⟨R,j,Y,m,S⟩,l⟩:=t;have⟨o,c,G,N⟩:=fx M;simp only at o c G;subst o c G;obtain⟨x,y,rfl,hx,J⟩:=Cc N;simp only[E.ok,aI]at A;rw[E.tree,wt]at i;simp only[gI,lim]at i;have B:=z x (fk m) A.1.2 hx zff;have r:=C y (fk m+1) A.2 J zff;have F:=(Go.Xp.sw A.1.1).1;have O:=(E.len a A.1.2).1;have W:=Go.Xp.td a.lv (fk m) a.bS;have d:=(E.len b A.2).1;have v:=Go.Xp.td b.lv (fk m+1) b.bS;have Q:(bj [x,y])[0]?=some (cT x):=dG rfl;have H:(bj [x,y])[1]?=some (cT y):=dG rfl;rw[E.bS];simp only[E.lv]at X e;generalize re a.lv (fk m) a.bS=u at *;generalize re b.lv (fk m+1) b.bS=w at *;simp only[cT,T.n,T.aw]at X |-;refine au func321 ntmps321 ?_;refine D [] X ?_;refine D [] X ?_;refine aV (aL 0 5 (aL 7 3 (aL 12 6 (.a 5 (.q 6 (.q 10 (.q 11 (.a 18 (.q 19 (.q 20 .nil)))))))))) ?_;exact ze3
open GV (U)
open Go.Xp (cE A2 wL)
def KJ(b:Bool)(a:E):Prop:=∀t,er t=a.tree->GF prog 261 [.agg (cT t),.v (.bool b)] [] (.v (sv (a.out b))) []
def MX:∀{ts:List T}{e:List E}(h:bl ts=E.aE e),ts.length=e.length/\∀(k:Nat)t a,ts[k]?=some t->e[k]?=some a->er t=a.tree
 |[],[],_=>⟨rfl,fun k t a h=>by simp at h⟩
 |[],a::l,h=>by grind[bl,E.aE]
 |t::r,[],h=>by grind[bl,E.aE]
 |t::r,a::l,h=>by
  rw[bl,E.aE]at h
  injection h with h1 h2
  have⟨G,C⟩:=MX h2
  grind
def Dx(b:Bool)(e:List E)(C:∀a∈e,KJ b a)(ts:List T)(j:bl ts=E.aE e)(m:(cE (e.map (E.out b))).length<=lim)(hn:e.length<=lim) :
  GF prog 359 [.sl 6 (bj ts),.v (.bool b)] [] (.v (sv (cE (e.map (E.out b))))) []:=by
 have⟨c,A⟩:=MX j;unfold lim at m hn;refine au func359 ntmps359 ?_;refine GW.range (bj ts).length (fun k J z=>∃y,J=U::.v (.bool b)::U::U::U::.v (sv y)::U::U::.sl 6 (bj ts)::y4 ((bj ts).length:Int)::y4 (k:Nat)::zU 15 []/\z=[]/\y=cE ((e.map (E.out b)).take k)) ?_ (by rw[bH];omega) ?_ ?_ ?_
 ·exact⟨_,_,Wk.aZ az,[],rfl,rfl,by rfl⟩
 ·rintro k _ _⟨y,rfl,rfl,_⟩;exact dO
 ·rintro k _ _ N⟨y,rfl,rfl,B⟩
  have N:k<e.length:=by grind[bH]
  have w:k<ts.length:=by omega
  have hx:e[k]?=some e[k]:=by simp[N]
  have M:ts[k]?=some ts[k]:=by simp[w]
  have q:=A k _ _ M hx;have F:=dG M;have W:=C _ (bP hx) _ q;have i:=wL (e.map (E.out b)) (k+1);have R:=wL (e.map (E.out b)) k
  have d:(e.map (E.out b)).take (k+1)=(e.map (E.out b)).take k++[e[k].out b]:=by
   grind[dd,dB]
  rw[d]at i;generalize ts[k]=t at *;generalize e[k]=a at *;generalize a.out b=x at *
  by_cases o:k=0
  ·subst o
   have r:decide ((0:Int)<((0:Nat):Int))=false:=by decide
   have Y:cE ((e.map (E.out b)).take 0++[x])=[]++x:=by simp[cE]
   have u:cE ((e.map (E.out b)).take 0)=[]:=by rfl
   rw[u]at B;subst B;rw[Y]at i
   have i:x.length<=(cE (e.map (E.out b))).length:=by grind
   exact zco
  ·have r:decide ((0:Int)<(k:Int))=true:=by grind
   have l:(e.map (E.out b)).take k≠[]:=by
    grind[List.take_eq_nil_iff,List.map_eq_nil_iff]
   have Y:=A2 l x;rw[Y]at i;rw[<-B]at i Y R;simp only[br,length_cons,length_nil]at i;exact zco
 ·rintro _ _⟨y,rfl,rfl,B⟩;have:(e.map (E.out b)).take (bj ts).length=e.map (E.out b):=ln (by grind[bH]);rw[this]at B;subst B;exact aK
theorem pE.out{a:E}(C:pE a)(A:a.ok=true)(i:wt a.tree<=lim):KJ true a:=by
 intro t M;have o:=C t 0 A M i;unfold re at o;rw[ae V]at o;show GF _ _ _ _ (.v (sv a.bS)) _;refine au func261 ntmps261 ?_;exact zcH
def C3:∀l:List E,l.length<=gI (E.aE l)
 |[]=>bp _
 |a::l=>by
  have:=C3 l;rw[E.aE,gI,length_cons]
  have:1<=wt a.tree:=by cases a<;>(rw[E.tree,wt];omega)
  omega
def C4:∀{l:List E}{a:E},a∈l->wt a.tree<=gI (E.aE l)
 |[],_,h=>by cases h
 |b::l,a,h=>by
  rw[E.aE,gI]
  rcases iY h with rfl|h
  ·omega
  ·have:=C4 h;omega
def CB:∀{l:List E}{a:E},E.cJ l=true->a∈l->a.ok=true
 |[],_,_,h=>by cases h
 |b::l,a,A,h=>by
  simp only[E.cJ,aI]at A
  rcases iY h with rfl|h
  ·exact A.1
  ·exact CB A.2 h
def Lr(s:ab)(e:List E)(C:∀a∈e,pE a):sb (.call s e):=by
 intro t k A M i h
 have j:decide (((E.call s e).lv:Int)<(k:Int))=false:=by grind
 have X:=rQ A M;have⟨⟨w,c,r,q,u⟩,l⟩:=t;have⟨o,b,G,N⟩:=fx M;simp only at o b G;subst o b G;simp only[E.ok,aI]at A;rw[E.tree,wt]at i;have O:=(E.lens e A.2).1;have d:=C3 e
 have m:E.eh e=e.map (E.out true):=by rw[E.Sb];rfl
 have Y:=Dx true e (fun a v=>(C a v).out (CB A.2 v) (by have:=C4 v;omega)) l N zff V;rw[<-m]at Y;unfold lim at i;simp only at i;rw[E.bS];generalize cE (E.eh e)=y at *;simp only[cT,T.n,T.aw]at X |-;refine au func321 ntmps321 ?_;refine D [] X ?_;exact zdz
mutual
def vF:∀a:E,pE a
 |.num n=>(Ow n).p
 |.name s=>(Ls s).p
 |.at_ s a=>(Re s a (vF a)).p
 |.call s l=>(Lr s l (Ju l)).p
 |.un s a=>(Rf s a (vF a)).p
 |.bin s a b=>(Ov s a b (vF a) (vF b)).p
def Ju:∀l:List E,∀a∈l,pE a
 |[]=>fun a h=>by cases h
 |b::l=>fun a h=>by
  rcases iY h with h|h
  ·rw[h];exact vF b
  ·exact Ju l a h
end
def nB(a:E):Prop:=∀(t:T),a.ok=true->er t=a.tree->wt a.tree<=lim->GF prog 322 [.agg (cT t)] [] (.v (sv a.full)) []
theorem nB.out{a:E}(C:nB a)(A:a.ok=true)(i:wt a.tree<=lim):KJ false a:=by
 intro t M;have o:=C t A M i;show GF _ _ _ _ (.v (sv a.full)) _;refine au func261 ntmps261 ?_;exact zcH
def QP(n:Int):nB (.num n):=by
 intro t A M i;have⟨⟨w,d,k,m,u⟩,l⟩:=t;have⟨o,b,G,N⟩:=fx M;simp only at o b G;subst o b G;simp only[E.ok,aI]at A;have c:=C8 k ⟨q9 A.1,q9 A.2⟩;rw[E.full];simp only[cT,T.n,T.aw];refine au func322 ntmps322 ?_;exact ze1
section
variable(s:ab)
def Np:nB (.name s):=by
 intro t A M i;have⟨⟨w,c,m,k,u⟩,l⟩:=t;have⟨o,b,G,N⟩:=fx M;simp only at o b G;subst o b G;rw[E.full];simp only[cT,T.n,T.aw];refine au func322 ntmps322 ?_;exact ay
def UB(a:E)(C:nB a):nB (.at_ s a):=by
 intro t A O i;exact zan
def Nn(e:List E)(C:∀a∈e,nB a):nB (.call s e):=by
 intro t A O i;have⟨⟨w,c,q,k,u⟩,l⟩:=t;have⟨o,b,G,M⟩:=fx O;simp only at o b G;subst o b G;simp only[E.ok,aI]at A;rw[E.tree,wt]at i;have N:=(E.lens e A.2).2;have d:=C3 e
 have m:E.rX e=e.map (E.out false):=by rw[E.Nq];rfl
 have Y:=Dx false e (fun a v=>(C a v).out (CB A.2 v) (by have:=C4 v;omega)) l M zff V;rw[<-m]at Y;unfold lim at i;simp only at i;rw[E.full];generalize cE (E.rX e)=y at *;simp only[cT,T.n,T.aw]at |-;refine au func322 ntmps322 ?_;exact zdz
def UC(a:E)(C:nB a):nB (.un s a):=by
 intro t A O i;exact zan
def QO(a b:E)(v:nB a)(z:nB b):nB (.bin s a b):=by
 intro t A O i;have⟨⟨J,e,m,k,Q⟩,l⟩:=t;have⟨o,c,G,M⟩:=fx O;simp only at o c G;subst o c G;obtain⟨x,y,rfl,hx,F⟩:=Cc M;simp only[E.ok,aI]at A;rw[E.tree,wt]at i;simp only[gI,lim]at i;have B:=v x A.1.2 hx zff;have r:=z y A.2 F zff;have N:=(E.len a A.1.2).2;have d:=(E.len b A.2).2;have H:(bj [x,y])[0]?=some (cT x):=dG rfl;have C:(bj [x,y])[1]?=some (cT y):=dG rfl;rw[E.full];generalize a.full=u at *;generalize b.full=w at *;simp only[cT,T.n,T.aw]at |-;refine au func322 ntmps322 ?_;refine aV (aL 0 4 (aL 7 3 (aL 12 4 (.a 4 (.q 5 (.q 6 (.q 10 (.q 11 (.a 16 (aL 17 3 .nil)))))))))) ?_;exact ze3
end
mutual
def yK:∀a:E,nB a
 |.num n=>QP n
 |.name s=>Np s
 |.at_ s a=>UB s a (yK a)
 |.call s l=>Nn s l (Nl l)
 |.un s a=>UC s a (yK a)
 |.bin s a b=>QO s a b (yK a) (yK b)
def Nl:∀l:List E,∀a∈l,nB a
 |[]=>fun a h=>by cases h
 |b::l=>fun a h=>by
  rcases iY h with h|h
  ·rw[h];exact yK b
  ·exact Nl l a h
end
def qM(b:Bool){a:E}(A:a.ok=true)(i:wt a.tree<=lim):KJ b a:=by
 cases b with
 |true=>exact(vF a).out A i
 |false=>exact(yK a).out A i
def kv(b:Bool)(a:E)(A:a.ok=true):(a.out b).length+4<=wt a.tree:=by
 grind[E.len,E.out,wt,E.tree]
open Go.Xp (S cj fY)
def Kp(x:E->Go.Xp.ab):∀(l:List S)(T:Go.Xp.ab),T.length<=(S.eh x T l).length
 |[],T=>by simp[S.eh]
 |a::l,T=>by
  rw[S.eh];have:=Kp x l (T++a.bS x++[32])
  grind
def oe(b:Bool)(s:S):Prop:=∀t,s.ok=true->er t=s.tree->wt s.tree<=lim->GF prog 203 [.agg (cT t),.v (.bool b)] [] (.v (sv (s.bS (E.out b)))) []
def vb(b:Bool)(l:List S):Prop:=∀t,S.cJ l=true->er t=cj l->wt (cj l)<=lim->GF prog 203 [.agg (cT t),.v (.bool b)] [] (.v (sv (fY (E.out b) l))) []
def J6:∀{ts:List T}{e:List S}(h:bl ts=S.aE e),ts.length=e.length/\∀(k:Nat)t a,ts[k]?=some t->e[k]?=some a->er t=a.tree
 |[],[],_=>⟨rfl,fun k t a h=>by simp at h⟩
 |[],a::l,h=>by grind[bl,S.aE]
 |t::r,[],h=>by grind[bl,S.aE]
 |t::r,a::l,h=>by
  rw[bl,S.aE]at h
  injection h with h1 h2
  have⟨G,C⟩:=J6 h2
  grind
def Hb:∀{l:List S}{a:S},a∈l->wt a.tree<=gI (S.aE l)
 |[],_,h=>by cases h
 |b::l,a,h=>by
  rw[S.aE,gI]
  rcases iY h with rfl|h
  ·omega
  ·have:=Hb h;omega
def G9:∀l:List S,l.length<=gI (S.aE l)
 |[]=>bp _
 |a::l=>by
  have:=G9 l;rw[S.aE,gI,length_cons]
  have:1<=wt a.tree:=by cases a<;>(rw[S.tree,wt];omega)
  omega
def GX:∀{l:List S}{a:S},S.cJ l=true->a∈l->a.ok=true
 |[],_,_,h=>by cases h
 |b::l,a,A,h=>by
  simp only[S.cJ,aI]at A
  rcases iY h with rfl|h
  ·exact A.1
  ·exact GX A.2 h
section
variable(b:Bool)(s:Go.Xp.ab)(a:E)
def P4:oe b (.var s a):=by
 intro t A N i;have⟨⟨z,d,m,k,B⟩,l⟩:=t;have⟨o,c,G,M⟩:=fx N;simp only at o c G;subst o c G;obtain⟨u,rfl,F⟩:=wB M;simp only[S.ok,aI]at A;rw[S.tree,wt]at i;simp only[gI,lim]at i;have v:=qM b (a:=a) A.2 zff u F;have q:=kv b a A.2;have w:(bj [u])[0]?=some (cT u):=dG rfl;rw[S.bS];generalize a.out b=O at *;simp only[cT,T.n,T.aw];refine au func203 ntmps203 ?_;refine aV (aL 0 10 (.a 10 (aL 11 3 .nil))) ?_;refine ax ?_;refine aP [] v ?_;exact aK
def P3:oe b (.set s a):=by
 intro t A N i;have⟨⟨z,d,m,k,B⟩,l⟩:=t;have⟨o,c,G,M⟩:=fx N;simp only at o c G;subst o c G;obtain⟨u,rfl,F⟩:=wB M;simp only[S.ok,aI]at A;rw[S.tree,wt]at i;simp only[gI,lim]at i;have v:=qM b (a:=a) A.2 zff u F;have q:=kv b a A.2;have w:(bj [u])[0]?=some (cT u):=dG rfl;rw[S.bS];generalize a.out b=O at *;simp only[cT,T.n,T.aw];refine au func203 ntmps203 ?_;refine aV (aL 0 9 (.a 9 (aL 10 3 .nil))) ?_;refine ax ?_;refine aP [] v ?_;exact aK
def P1(c:E):oe b (.put s a c):=by
 intro t A N i;have⟨⟨J,e,Q,k,O⟩,l⟩:=t;have⟨o,d,H,M⟩:=fx N;simp only at o d H;subst o d H;obtain⟨u,w,rfl,G,z⟩:=Cc M;simp only[S.ok,aI]at A;rw[S.tree,wt]at i;simp only[gI,lim]at i;have v:=qM b (a:=a) A.2.1 zff u G;have r:=kv b a A.2.1;have B:(bj [u,w])[0]?=some (cT u):=dG rfl;have F:=qM b (a:=c) A.2.2 zff w z;have m:=kv b c A.2.2;have C:(bj [u,w])[1]?=some (cT w):=dG rfl;rw[S.bS];generalize a.out b=R at *;generalize c.out b=W at *;simp only[cT,T.n,T.aw];refine au func203 ntmps203 ?_;refine aV (aL 0 9 (aL 12 5 (.a 9 (.q 10 (.q 11 (.a 17 (aL 18 3 .nil))))))) ?_;refine ax ?_;refine aP [] v ?_;refine aP [] F ?_;exact aK
end
section
variable(b:Bool)(c:E)(p:List S)
theorem PZ(R:vb b p):oe b (.if1 c p):=by
 intro t A N i;have⟨⟨O,e,s,k,Q⟩,l⟩:=t;have⟨o,d,H,M⟩:=fx N;simp only at o d H;subst o d H;obtain⟨u,w,rfl,G,B⟩:=Cc M;simp only[S.ok,aI]at A;rw[S.tree,wt]at i;simp only[gI,lim]at i;have z:=qM b (a:=c) A.1 zff u G;have r:=kv b c A.1;have C:(bj [u,w])[0]?=some (cT u):=dG rfl;have F:=R w A.2 B (by grind[cj]);have m:=Go.Xp.s9 (E.out b) (kv b) A.2;rw[cj]at m;have J:(bj [u,w])[1]?=some (cT w):=dG rfl;rw[S.bS];generalize c.out b=W at *
 change GF _ _ _ _ (.v (sv _)) _ at F
 exact zaS
theorem P0(q:List S)(G:vb b p)(H:vb b q):oe b (.if2 c p q):=by
 intro t i R F;have⟨⟨X,W,vv,Z,Y⟩,l⟩:=t;have⟨A,B,C,J⟩:=fx R;simp only at A B C;subst A B C;obtain⟨m,o,r,rfl,u,w,z⟩:=aaq J;simp only[S.ok,aI]at i;rw[S.tree,wt]at F;simp only[gI,lim]at F;have s:=qM b (a:=c) i.1 zff m u;have M:=kv b c i.1;have N:(bj [m,o,r])[0]?=some (cT m):=dG rfl;have d:=G o i.2.1 w (by grind[cj]);have j:=Go.Xp.s9 (E.out b) (kv b) i.2.1;rw[cj]at j;have O:(bj [m,o,r])[1]?=some (cT o):=dG rfl;have e:=H r i.2.2 z (by grind[cj]);have k:=Go.Xp.s9 (E.out b) (kv b) i.2.2;rw[cj]at k;have Q:(bj [m,o,r])[2]?=some (cT r):=dG rfl;rw[S.bS];generalize c.out b=y0 at *
 change GF _ _ _ _ (.v (sv _)) _ at d
 unfold fY at d j;generalize S.eh (E.out b) [123,32] p++[125]=y1 at *
 change GF _ _ _ _ (.v (sv _)) _ at e
 unfold fY at e k;generalize S.eh (E.out b) [123,32] q++[125]=y2 at *;simp only[cT,T.n,T.aw];refine au func203 ntmps203 ?_;refine aV (aL 0 5 (aL 8 5 (.a 5 (.q 6 (.q 7 (.a 13 (.q 14 (.q 15 .nil)))))))) ?_;refine ax ?_;refine aP [] s ?_;refine aP [] d ?_;refine zcv ?_;exact ay
theorem Ih(R:vb b p):oe b (.while_ c p):=by
 intro t A N i;have⟨⟨O,e,s,k,Q⟩,l⟩:=t;have⟨o,d,H,M⟩:=fx N;simp only at o d H;subst o d H;obtain⟨u,w,rfl,G,B⟩:=Cc M;simp only[S.ok,aI]at A;rw[S.tree,wt]at i;simp only[gI,lim]at i;have z:=qM b (a:=c) A.1 zff u G;have r:=kv b c A.1;have C:(bj [u,w])[0]?=some (cT u):=dG rfl;have F:=R w A.2 B (by grind[cj]);have m:=Go.Xp.s9 (E.out b) (kv b) A.2;rw[cj]at m;have J:(bj [u,w])[1]?=some (cT w):=dG rfl;rw[S.bS];generalize c.out b=W at *
 change GF _ _ _ _ (.v (sv _)) _ at F
 exact zaS
end
def P2(b:Bool)(a:E):oe b (.ret a):=by
 intro t A N i;exact zav
def Sq(b:Bool)(a:E):oe b (.do_ a):=by
 intro t A N i;exact zav
def sG(b:Bool)(e:List S)(C:∀a∈e,oe b a):vb b e:=by
 intro t F Q i;have⟨⟨Y,q,Z,s,H⟩,l⟩:=t;have⟨o,c,G,M⟩:=fx Q;simp only at o c G;subst o c G;have⟨m,A⟩:=J6 M;have N:=Go.Xp.s9 (E.out b) (kv b) F;rw[cj,wt]at i;rw[cj,wt]at N;have r:=G9 e;unfold fY at N |-;unfold lim at i;simp only[br,length_cons,length_nil]at i N;simp only[cT,T.n,T.aw];refine au func203 ntmps203 ?_;refine GW.range (bj l).length (fun k J R=>∃y,J=U::.v (.bool b)::.loc 0 0::U::U::U::.v (sv y)::zU 124 (.sl 6 (bj l)::y4 ((bj l).length:Int)::y4 (k:Nat)::zU 12 [])/\R=[.box 89 [y4 14,y4 q,y4 0,.v (sv []),ints H,.sl 6 (bj l)]]/\S.eh (E.out b) y (e.drop k)=S.eh (E.out b) [123,32] e) ?_ (by rw[bH];omega) ?_ ?_ ?_
 ·exact⟨_,_,Wk.aZ az,_,rfl,rfl,rfl⟩
 ·rintro k _ _⟨y,rfl,rfl,_⟩;exact dO
 ·rintro k _ _ O⟨y,rfl,rfl,B⟩
  have O:k<e.length:=by grind[bH]
  have u:k<l.length:=by omega
  have hx:e[k]?=some e[k]:=by simp[O]
  have d:l[k]?=some l[k]:=by simp[u]
  have X:=dG d;rw[j3 O,S.eh]at B;have j:=bP hx;have W:=C _ j _ (GX F j) (A k _ _ d hx) (by have:=Hb j;grind);generalize l[k]=t at *;generalize z:e[k].bS (E.out b)=x at *;have w:=Kp (E.out b) (e.drop (k+1)) (y++x++[32]);rw[B]at w;simp only[br,length_cons,length_nil]at w;refine I ?_;refine D [] W ?_;exact⟨rfl,rfl,_,_,(Wk.cut (n:=1) (ek rfl) rfl).trans (Wk.aZ az),_,rfl,rfl,B⟩
 ·rintro _ _⟨y,rfl,rfl,B⟩;rw[List.drop_of_length_le (by simp_all[bH,aY]),S.eh]at B;subst B;exact aK
mutual
def YZ(b:Bool):∀s:S,oe b s
 |.set s a=>P3 b s a
 |.put s a c=>P1 b s a c
 |.if1 c p=>PZ b c p (sG b p (tw b p))
 |.if2 c p q=>P0 b c p q (sG b p (tw b p)) (sG b q (tw b q))
 |.while_ c p=>Ih b c p (sG b p (tw b p))
 |.ret a=>P2 b a
 |.do_ a=>Sq b a
 |.var s a=>P4 b s a
def tw(b:Bool):∀l:List S,∀a∈l,oe b a
 |[]=>fun a h=>by cases h
 |c::l=>fun a h=>by
  rcases iY h with h|h
  ·rw[h];exact YZ b c
  ·exact tw b l a h
end
def YY(b:Bool)(l:List S):vb b l:=sG b l (tw b l)
open Go.Xp (fv)
def Od(p:Src)(J:BC p)(ls:List (List S))(w:EA p ls):GF prog 146 [.agg (aB p)] [] (.v (.bool (ls.all fun l=>fv l 1))) []:=by
 refine au func146 ntmps146 ?_;refine GW.range (p.av.map aD).length (fun k N Γ=>N=U::.loc 0 0::U::U::U::U::U::U::.sl 3 (p.av.map aD)::y4 ((p.av.map aD).length:Int)::y4 (k:Nat)::zU 34 []/\Γ=[.box 28 (aB p)]/\((ls.take k).all fun l=>fv l 1)=true) ?_ (by simpa using by have:=J.av.1;omega) ?_ ?_ ?_
 ·exact lk
 ·exact jA
 ·rintro k _ _ u⟨rfl,rfl,s⟩
  have u:k<p.av.length:=by simpa using u
  have B:k<ls.length:=by rw[w.len];exact u
  have hx:p.av[k]?=some p.av[k]:=by simp[u]
  have e:ls[k]?=some ls[k]:=by simp[B]
  have hr:=x9 hx;have⟨O,H,Z,t,o,A⟩:=w.at_ k _ _ hx e;have F:=Ez p (fun n Y=>(J.ah.2 n Y).2) _ _ _ o;rw[Int.toNat_of_nonneg O]at F;have d:=YY true ls[k] t H A (by unfold lim;omega);have⟨M,t2,q,f,Q,h2,h3,h4,R,T,j⟩:=Uf H Z;have r:=Of _ M V Q;have C:RS.ok ⟨M,0,(fY E.bS ls[k]).length,0,0⟩:=⟨bp _,by simp only;omega⟩;have b:=(sds f).block 1 _ t2 q C V R
  have G:(E.out true)=E.bS:=by funext a;rfl
  rw[G]at d;generalize fY E.bS ls[k]=tx at *;generalize c:fv ls[k] 1=fit at *;generalize p.av[k]=x at *
  rcases j with⟨j,W,rfl⟩|⟨j,rfl⟩
  ·have z:(q.code != 0)=false:=by simpa using j
   have X:((q.i:Int) != ((q.l.map dp).length:Int))=false:=by rw[ct,T];simp[W]
   refine zec ?_;refine bn ?_;exact⟨rfl,rfl,_,_,(Wk.cut (n:=1) (ek rfl) rfl).trans (Wk.aZ az),rfl,rfl,tD e s c⟩
  ·have z:(q.code != 0)=true:=by simpa using j
   have m:(ls.all fun l=>fv l 1)=false:=vc e c;rw[m];refine zec ?_;exact zbv
 ·rintro _ _⟨rfl,rfl,s⟩;rw[ln (by rw[ct,w.len];exact aY _)]at s;rw[s];exact aK
def L9(p:Src)(W:BC p)(h:pf p=some false):GF prog 76 [.agg (aB p)] [] (.v (.bool false)) []:=by
 have G:=A6 p W false h;refine au func76 ntmps76 ?_;refine D [] G ?_;exact ay
def Mb(p:Src)(W:BC p)(h:pf p=some true)(ls:List (List S))(i:EA p ls):GF prog 76 [.agg (aB p)] [] (.v (.bool (ls.all fun l=>fv l 1))) []:=by
 have G:=A6 p W true h;have m:=Od p W ls i;generalize(ls.all fun l=>fv l 1)=b at *;refine au func76 ntmps76 ?_;refine D [] G ?_;refine D [] m ?_;exact ay
open Go.Im
def Vz{p:Src}(t:cU p<=1048576):BC p:=by
 have⟨⟨a1,F⟩,⟨o,m⟩,⟨r,M⟩,⟨E,W⟩⟩:=gn p;exact⟨⟨by omega,fun s G=>by have:=F s G;omega⟩,⟨by omega,fun s G=>by have:=m s G;omega⟩,⟨by omega,fun f l=>by have⟨w,R,q⟩:=M f l;exact⟨by omega,by omega,fun s G=>by have:=q s G;omega⟩⟩,⟨by omega,fun n c=>by have⟨w,R⟩:=W n c;exact⟨by omega,by omega⟩⟩⟩
def Ma(p:Src)(n:cU p<=1048576):GF prog 76 [.agg (aB p)] [] (.v (.bool (fI p))) []:=by
 have z:=Vz n;have⟨b,i⟩:=LZ p
 cases b with
 |false=>rw[aar i];exact L9 p z i
 |true =>
  have⟨l,M⟩:=VH i;have⟨t,m⟩:=M.uy;rw[QG M m];exact Mb p z i t (My M m n)
end Go.Xg
