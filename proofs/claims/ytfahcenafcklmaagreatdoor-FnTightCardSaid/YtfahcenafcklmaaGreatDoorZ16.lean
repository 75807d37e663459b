/- Part 16 of proofs that are told in their last texts. -/
import Derived.Test.YtfahcenafcklmaaGreatDoorZ15
import Derived.Test.YtfahcenafcklmaaGreatDoorZ10
import Derived.Test.YtfahcenafcklmaaGreatDoorZ11
import Derived.Test.YtfahcenafcklmaaGreatDoorZ4
import Derived.Test.YtfahcenafcklmaaGreatDoorZ14
import Derived.Test.YtfahcenafcklmaaGreatDoorZ5
import Derived.Test.YtfahcenafcklmaaGreatDoorZ6
import Derived.Test.YtfahcenafcklmaaGreatDoorZ12
import Derived.Test.YtfahcenafcklmaaGreatDoorZ13
open List (ext_getElem? getElem?_mapIdx length_cons length_set)
set_option linter.unusedVariables false
set_option linter.unusedSimpArgs false
set_option maxRecDepth 100000
set_option maxHeartbeats 1000000
namespace Go.Xg
open Go.RowKit Go.Xw Go.Proofs Tryz Go.Sp Go.Im
open GV (U)
open Go.Xp (gQ fv)
attribute [local irreducible] GW GL GO YG GC GA bu bs
theorem J9 {f:Nat} (p:RS) (st:PS) (h:HW) (q:RS) (c9:PS) (hp:p.ok) (hs:is p 0 gQ=false) (jQ:is p 0 fv=false) (hw:iW f p st=some (q,c9)) :
  GC prog 145 [.loc 0 0] (ux p st h) (fun g aU=>g=.tup []/\∃ h',aU=ux q c9 h'):=by
 unfold iW at hw;rw [ad zeZ,ad (by rw [jQ];decide)] at hw;cases hw;have hi:=kg p 0 gQ (hx st h) hp aE;have nF:=kg p 0 fv (hx st h) hp aE;have E1:=yH p (hx st h) hp;rw [hs] at hi;rw [jQ] at nF;refine aj func145 ntmps145 ?_;refine V [0] hi ?_;refine V [0] nF ?_;refine V [0] E1 ?_;exact zcP
abbrev US (p:RS) (st:PS) (h:HW) (s:ae) (acc:List ae) (a:Option Addr) (c:Nat):List Ob:=ux p st h++[.box 65 [.v (sv s),.v (.slice a acc.length c),.v (ii 0)],.vech 9 1 (acc.map lr) (.slice a acc.length c)]
theorem Ka {f:Nat} (p:RS) (st:PS) (h:HW) (q:RS) (c9:PS) (n:Nat) (hp:p.ok) (hn:st.le n) (hb:n+f+4<=1099511627776) (xA:is p 0 gQ=false) (hs:is p 0 fv=true) (hw:iW f p st=some (q,c9)) :
  GC prog 145 [.loc 0 0] (ux p st h) (fun g aU=>g=.tup []/\∃ h',aU=ux q c9 h'):=by
 obtain ⟨Dd,dv⟩:=id hp;obtain ⟨ub,bL,Tm,Zb⟩:=hn;unfold iW at hw;rw [ad (by rw [xA];decide),ah hs] at hw;have Tg:=kg p 0 gQ (hx st h) hp aE;rw [xA] at Tg;have hi:=kg p 0 fv (hx st h) hp aE;rw [hs] at hi;have jY:=(fp hs).ok hp
 have cL:=qO p.next (hx st h) jY
 have dR:=(eX jY).ok jY;generalize (tok p.next 0).s=s at *
 generalize bx p.next=p2 at *
 have oO:=eO p2 [40] (hx st h) dR;have za:=(bS dR [40]).ok dR;generalize want p2 [40]=p3 at *
 cases hm:oP f [] p3 with
 | none=>rw [hm] at hw;cases hw
 | some r =>
 obtain ⟨l,q1⟩:=r;rw [hm] at hw;simp only at hw;refine aj func145 ntmps145 ?_;refine V [0] Tg ?_;refine zdJ ?_;refine zaj ?_;refine V [0] oO ?_;refine GW.wk (Wk.oD 9 1) ?_;refine GW.loop (fun z:Nat × List ae × RS=>z.1) (fun z fr Γ=>∃ a c,fr=[.loc 0 0,U,U,U,.loc 5 0,U,U,U,U,U,U,U,U,U,U,U,U,U,U,U,U,U,U,U,U,U,U,U,U,U,U,U,U,U,U,U,U,U,U,U,U,U,U,U,U,U,U,U,U,U,U,U,U,U,U,U,U,U,U,U,U,U,U,U,U,U,U,U,U,U,U,U,U,U,U,U,U,U,U,U,U,U,U,U,U,U,U,U,U,U,U,U,U,U,U,U,U,U,U,U,U,U,U,U,U,U,U,U,U,U,U,U,U,U,U,U,U,U,U,U,U,U,U,U,U,U,U,U,U,U,U,U,U,U,U,U,U,U,U,U,U,U,U,U,U,U,U,U,U,U,U,U,U]/\Γ=US z.2.2 st h s z.2.1 a c/\z.2.2.ok/\z.2.1.length+z.1<=f/\oP z.1 z.2.1 z.2.2=some (l,q1)) (f,[],p3) ?_ ?_
 ·exact ⟨_,_,Wk.aX aw,none,0,rfl,rfl,za,by simp,hm⟩
 clear hm za oO dR cL hi Tg jY;rintro ⟨g,acc,p⟩ _ _ ⟨a,c,rfl,rfl,hp,y8,hm⟩;simp only at hp y8 hm
 cases g with
 | zero=>cases hm
 | succ g =>
 rw [oP] at hm;have hi:=kg p 0 [41] (hx st h) hp aE
 by_cases hgo:p.code=0/\is p 0 [41]=false
 ·obtain ⟨hc,vc⟩:=id hgo;rw [ah hgo] at hm;rw [vc] at hi
  have de:(p.code==0)=true:=by simpa using hc
  by_cases h0:acc.length=0
  ·obtain rfl:=gk h0
   have hd:decide ((0:Int) < (([]:List ae).length:Int))=false:=by decide
   rw [ah (by rfl)] at hm;have cL:=qO p (hx st h) hp;have dR:=(eX hp).ok hp;generalize (tok p 0).s=s2 at *;refine zbr ?_;refine zbp ?_;refine ax [0] cL ?_;refine zaN ?_;refine OA rfl rfl (GL.sQ 6 (news:=[lr s2]) rfl rfl rfl ay rfl rfl (by refine ⟨?_,?_⟩;(· show _+1<=_;omega);(· show (_+1) * _<=_;omega)) ?_);intro a2 c2;refine nV ?_;refine bF ?_;exact ⟨(g,[s2],bx p),⟨_,_,Wk.aX aw,a2,c2,rfl,rfl,dR,by simp at y8 |-;omega,hm⟩,by simp⟩
  ·have hd:decide ((0:Int) < (acc.length:Int))=true:=by simpa using by omega
   rw [ad h0] at hm;have Zu:=eO p [44] (hx st h) hp;have mo:=(bS hp [44]).ok hp;generalize want p [44]=pw at *;have cL:=qO pw (hx st h) mo;have dR:=(eX mo).ok mo;generalize (tok pw 0).s=s2 at *
   have hlen:(acc.map lr).length<=f:=by simp;omega
   refine zbr ?_;refine zaj ?_;refine V [0] Zu ?_;refine zbp ?_;refine ax [0] cL ?_;refine zaN ?_;refine OA rfl rfl (GL.sQ 6 (news:=[lr s2]) rfl rfl rfl ay rfl rfl (by refine ⟨?_,?_⟩;(· show _+1<=_;omega);(· show (_+1) * _<=_;omega)) ?_);intro a2 c2;refine nV ?_
   try rw [show (acc.map lr).length+1=(acc++[s2]).length by simp]
   rw [show (acc.map lr).length+[lr s2].length=(acc++[s2]).length by simp,<-wA lr acc s2];refine bF ?_;exact ⟨(g,acc++[s2],bx pw),⟨_,_,Wk.aX aw,a2,c2,rfl,rfl,dR,by simp;omega,hm⟩,by simp⟩
 ·rw [ad hgo] at hm
  obtain ⟨rfl,rfl⟩:acc=l/\want p [41]=q1:=by simpa using hm
  clear hm;have ze:=eO p [41] (hx st h) hp;have Wl:=(bS hp [41]).ok hp
  have gX:(kE st.trees).length+1<=1099511627776:=by rw [mW];omega
  have kP:(st.fns.map qf).length+1<=1099511627776:=by simp;omega
  by_cases hc:p.code=0
  ·have de:(p.code==0)=true:=by simpa using hc
   have vc:is p 0 [41]=true:=by
    cases h3:is p 0 [41] with
    | true=>rfl
    | false=>exact absurd ⟨hc,h3⟩ hgo
   rw [vc] at hi
   by_cases hqc:(want p [41]).code=0
   ·have Om:((want p [41]).code==0)=true:=by simpa using hqc
    rw [ah hqc] at hw
    cases ea:iS f (.block 1) (want p [41]) with
    | none=>rw [ea] at hw;cases hw
    | some r =>
    obtain ⟨t,qq⟩:=r;rw [ea] at hw
    obtain ⟨rfl,rfl⟩:qq=q/\_=c9:=by simpa using hw
    have et:=(Wy f).block 1 _ t qq (hx st h) Wl X ea;clear ea hqc;generalize want p [41]=pq at *;refine zbr ?_;refine zep ?_;refine zb4 ?_;refine OA rfl rfl (GL.sQ 1 (news:=[[qT t]]) rfl rfl rfl ay rfl rfl (by refine ⟨?_,?_⟩;(· show _+1<=_;omega);(· show (_+1) * _<=_;omega)) ?_);intro a3 c3;refine nV ?_
    try rw [show (kE st.trees).length+1=(st.trees++[t]).length by simp [mW]]
    refine zdp ?_;apply GW.wk
    ·apply Wk.rh (i:=5) (o:=1) (j:=6)
     ·rfl
     ·rfl
     ·rfl
     ·rfl
    refine zd2 ?_;refine OA rfl rfl (GL.sQ 4 (news:=[qf (s,acc)]) rfl rfl rfl ay rfl rfl (by refine ⟨?_,?_⟩;(· show _+1<=_;omega);(· show (_+1) * _<=_;omega)) ?_);intro a4 c4;refine nV ?_
    try rw [show (st.fns.map qf).length+1=(st.fns++[(s,acc)]).length by simp]
    exact zaZ
   ·have Om:((want p [41]).code==0)=false:=by simpa using hqc
    rw [ad hqc] at hw;cases hw;clear hqc;generalize want p [41]=pq at *;refine zbr ?_;refine zep ?_;refine zaj ?_;refine V [0] ze ?_;exact zcP
  ·have de:(p.code==0)=false:=by simpa using hc
   by_cases hqc:(want p [41]).code=0
   ·have Om:((want p [41]).code==0)=true:=by simpa using hqc
    rw [ah hqc] at hw
    cases ea:iS f (.block 1) (want p [41]) with
    | none=>rw [ea] at hw;cases hw
    | some r =>
    obtain ⟨t,qq⟩:=r;rw [ea] at hw
    obtain ⟨rfl,rfl⟩:qq=q/\_=c9:=by simpa using hw
    have et:=(Wy f).block 1 _ t qq (hx st h) Wl X ea;clear ea hqc;generalize want p [41]=pq at *;refine zbk ?_;refine zb4 ?_;refine OA rfl rfl (GL.sQ 1 (news:=[[qT t]]) rfl rfl rfl ay rfl rfl (by refine ⟨?_,?_⟩;(· show _+1<=_;omega);(· show (_+1) * _<=_;omega)) ?_);intro a3 c3;refine nV ?_
    try rw [show (kE st.trees).length+1=(st.trees++[t]).length by simp [mW]]
    refine zdp ?_;apply GW.wk
    ·apply Wk.rh (i:=5) (o:=1) (j:=6)
     ·rfl
     ·rfl
     ·rfl
     ·rfl
    refine zd2 ?_;refine OA rfl rfl (GL.sQ 4 (news:=[qf (s,acc)]) rfl rfl rfl ay rfl rfl (by refine ⟨?_,?_⟩;(· show _+1<=_;omega);(· show (_+1) * _<=_;omega)) ?_);intro a4 c4;refine nV ?_
    try rw [show (st.fns.map qf).length+1=(st.fns++[(s,acc)]).length by simp]
    exact zaZ
   ·have Om:((want p [41]).code==0)=false:=by simpa using hqc
    rw [ad hqc] at hw;cases hw;clear hqc;generalize want p [41]=pq at *;refine zbk ?_;refine zaj ?_;refine V [0] ze ?_;exact zcP
open Go.Xp (Tok T aB aQ cD)
theorem RU {f:Nat} (p:RS) (st:PS) (h:HW) (q:RS) (c9:PS) (n:Nat) (hp:p.ok) (hn:st.le n) (hb:n+f+4<=1099511627776) (hw:iW f p st=some (q,c9)) :
  GC prog 145 [.loc 0 0] (ux p st h) (fun g aU=>g=.tup []/\∃ h',aU=ux q c9 h'):=by
 cases D:is p 0 gQ with
 | true=>exact M5 p st h q c9 n hp hn X D hw
 | false =>
  cases I:is p 0 fv with
  | true=>exact Ka p st h q c9 n hp hn hb D I hw
  | false=>exact J9 p st h q c9 hp D I hw
def np (fns:List (ae × List ae)) (trees:List T) (k:Nat):List (List GV):=fns.mapIdx fun i x=>[.v (sv x.1),strs x.2,.v (ii (if i < k then ((aB (trees.take i):Nat):Int) else 0))]
theorem FK:∀ (rows:List (List GV)) (i j o:Nat) (g:GV),(fM rows i o g)[j]?=if j=i then (rows[j]?).map (fun r=>bN r o g) else rows[j]?
 | [],i,j,o,g=>by simp [fM]
 | r::rs,0,0,o,g=>by simp [fM]
 | r::rs,0,j+1,o,g=>by simp [fM]
 | r::rs,i+1,0,o,g=>by simp [fM]
 | r::rs,i+1,j+1,o,g=>by
  rw [fM,List.getElem?_cons_succ,FK rs i j o g];simp
theorem Rz (fns:List (ae × List ae)) (trees:List T):fns.map qf=np fns trees 0:=by
 apply ext_getElem?;intro i;rw [np,getElem?_mapIdx,bP]
 cases fns[i]? <;> simp [qf]
theorem Mv (fns:List (ae × List ae)) (trees:List T) (k:Nat):fM (np fns trees k) k 2 (.v (ii ((aB (trees.take k):Nat):Int)))=np fns trees (k+1):=by
 apply ext_getElem?;intro i;rw [FK,np,np,getElem?_mapIdx,getElem?_mapIdx]
 by_cases h:i=k
 ·subst h;rw [ah rfl]
  cases fns[i]? with
  | none=>rfl
  | some x=>simp [bN]
 ·rw [ad h]
  cases fns[i]? with
  | none=>rfl
  | some x =>
   have:(i < k)=(i < k+1):=by simp;omega
   simp [this]
theorem O1 {fns:List (ae × List ae)} {trees:List T} {k:Nat} (j:Nat) (h:k < fns.length):∃ x,(np fns trees j)[k]?=some [.v (sv x.1),strs x.2,.v (ii (if k < j then ((aB (trees.take k):Nat):Int) else 0))]/\fns[k]?=some x:=by
 refine ⟨fns[k],?_,by simp [h]⟩;rw [np,getElem?_mapIdx];simp [h]
def Dw (q:RS) (st:PS):GV :=
 if q.code=0 then
  if aB st.trees > 800 then .tup [.agg [.sl 1 [],.sl 2 [],.sl 3 [],.sl 5 []],.v (ii 10),.v (ii 0)]
  else .tup [.agg [.sl 1 (st.globals.map lr),.sl 2 (st.arrays.map qV),.sl 3 (np st.fns st.trees st.trees.length),.sl 5 ((cD 0 st.trees).map rY)],.v (ii 0),.v (ii 0)]
 else .tup [.agg [.sl 1 [],.sl 2 [],.sl 3 [],.sl 5 []],.v (ii q.code),.v (ii q.at_)]
theorem zm {G f:Nat} (ts:List Tok) (e:Int) (q:RS) (st:PS) (hl:ts.length<=1099511627776) (hb:G+f+4<=1099511627776) (hz:q.code=0->aB st.trees<=1099511627776) (h:kD G f ⟨ts,0,e,0,0⟩ .empty=some (q,st)) :
  GF prog 86 [eI ts,.v (ii e)] [] (Dw q st) []:=by
 unfold Dw;refine aj func86 ntmps86 ?_;refine GW.wk (Wk.oD 79 1) ?_;refine GW.wk (Wk.oD 9 1) ?_;refine GW.wk (Wk.oD 98 2) ?_;refine GW.wk (Wk.oD 65 3) ?_;refine GW.loop (fun z:Nat × RS × PS=>z.1) (fun z fr Γ=>∃ h n,fr=[eI ts,.v (ii e),U,U,.loc 0 0,.v (ii 0),.v (ii 0),.loc 1 0,U,U,U,U,U,U,U,U,U,U,U,U,U,U,U,U,U,U,U,U,U,U,U,U,U,U,U,U,U,U,U,U,U,U,U,U,U,U,U,U,U,U,U,U,U,U,U,U,U,U,U,U,U,U,U,U,U,U,U,U,U,U,U,U,U,U,U,U,U,U,U]/\Γ=.box 28 [.v (.slice none 0 0),.v (.slice none 0 0),.v (.slice none 0 0),.v (.slice none 0 0)]::ux z.2.1 z.2.2 h/\z.2.1.l=ts/\z.2.1.ok/\z.2.2.le n/\n+z.1<=G/\kD z.1 f z.2.1 z.2.2=some (q,st)) (G,⟨ts,0,e,0,0⟩,.empty) ?_ ?_
 ·exact ⟨_,_,Wk.aX aw,⟨none,0,none,0,none,0,none,0⟩,0,rfl,rfl,rfl,⟨aY _,hl⟩,⟨aD _,aD _,aD _,rfl⟩,by simp,h⟩
 clear h;rintro ⟨g,p,s⟩ _ _ ⟨hd,n,rfl,rfl,dv,hp,hn,y8,h⟩;simp only at dv hp hn y8 h
 cases g with
 | zero=>cases h
 | succ g =>
 rw [kD] at h
 by_cases hgo:p.code=0/\p.i < p.l.length
 ·rw [ah hgo] at h
  have de:(p.code==0)=true:=by simpa using hgo.1
  have ar:decide ((p.i:Int) < ((ts.map cH).length:Int))=true:=by
   have:=hgo.2;rw [dv] at this;exact zcb
  cases hw:iW f p s with
  | none=>rw [hw] at h;cases h
  | some r =>
   obtain ⟨p2,s2⟩:=r;rw [hw] at h;simp only at h;have ej:=Qi hp hw;refine ab ?_;refine dW [1,2,3,4,5] (RU p s hd p2 s2 n hp hn X hw) ?_;rintro _ _ ⟨rfl,nE,rfl⟩;refine zc5 ?_;exact ⟨(g,p2,s2),⟨_,_,Wk.aX aw,nE,n+1,rfl,rfl,by rw [ej.1,dv],ej.ok hp,Vb hw hn,by show n+1+g<=G;omega,h⟩,by simp⟩
 ·rw [ad hgo] at h
  obtain ⟨rfl,rfl⟩:p=q/\s=st:=by simpa using h
  clear h
  have hex:∀ b1 b2:Bool,(p.code==0)=b1->decide ((p.i:Int) < ((ts.map cH).length:Int))=b2->b1=true->b2=false:=fun b1 b2 D I h3=>by
   subst h3
   cases b2 with
   | false=>rfl
   | true=>exact absurd ⟨by simpa using D,by rw [dv];simpa using I⟩ hgo
  by_cases hc:p.code=0
  ·rw [ah hc];have hz:=hz hc
   have de:(p.code==0)=true:=by simpa using hc
   have lV:(p.code != 0)=false:=by simpa using hc
   have ar:=hex _ _ de rfl rfl;have lX:=hn.trees;have HJ:=hn.fns;have td:=mW s.trees;have ow:=Go.Xp.jK s.trees;refine zbk ?_;refine GW.wk (by apply Wk.VE (t:=52) (i:=2) <;> rfl) ?_;simp only [oset,bN];refine ab ?_;refine GW.wk (Wk.oD 78 5) ?_;rw [Rz s.fns s.trees]
   refine GW.range s.trees.length (fun k fr Γ=>∃ aN cN,fr=[U,U,U,U,.loc 0 0,.v (ii 0),.v (ii 0),U,.loc 6 0,U,U,U,U,U,U,U,U,U,U,U,U,U,U,U,U,U,U,U,U,U,U,U,U,U,U,U,U,U,U,U,U,U,U,U,U,U,U,U,U,U,U,U,.sl 1 (kE s.trees),.v (ii (s.trees.length:Int)),.v (ii (k:Nat)),U,U,U,U,U,U,U,U,U,U,U,U,U,U,U,U,U,U,U,U,U,U,U,U]/\Γ=[.box 28 [.v (.slice none 0 0),.v (.slice none 0 0),.v (.slice none 0 0),.v (.slice none 0 0)],b7 p (hx s hd),.vec 79 1 (kE s.trees).length (kE s.trees),.vech 9 1 (s.globals.map lr) (.slice hd.aG s.globals.length hd.cG),.vech 98 2 (s.arrays.map qV) (.slice hd.aA s.arrays.length hd.cA),.vech 65 3 (np s.fns s.trees k) (.slice hd.aF s.fns.length hd.cF),
    .box 28 [.v (.slice hd.aG s.globals.length hd.cG),.v (.slice hd.aA s.arrays.length hd.cA),.v (.slice hd.aF s.fns.length hd.cF),.v (.slice aN (aB (s.trees.take k)) cN)],.vech 78 5 ((cD 0 (s.trees.take k)).map rY) (.slice aN (aB (s.trees.take k)) cN)]) ?_ X ?_ ?_ ?_
   ·exact ⟨_,_,Wk.aX aw,none,0,rfl,rfl⟩
   ·rintro k _ _ ⟨aN,cN,rfl,rfl⟩;exact gU
   ·rintro k _ _ ar ⟨aN,cN,rfl,rfl⟩;obtain ⟨t,ht⟩:∃ t,s.trees[k]?=some t:=⟨s.trees[k],by simp [ar]⟩;have hr:=Bb ht;have fJ:=Go.Xp.uC ht;have hle:=Go.Xp.uB s.trees (k+1)
    have kB:s.trees.take (k+1)=s.trees.take k++[t]:=by rw [eK,ht];rfl
    obtain ⟨x,ke,Dg⟩:=O1 (fns:=s.fns) (trees:=s.trees) (k:=k) k X;rw [ad (Nat.lt_irrefl k)] at ke;have zb:k < (np s.fns s.trees k).length:=(bh ke).1
    have hX:((cD 0 (s.trees.take k)).map rY).length=aB (s.trees.take k):=by rw [cU,Go.Xp.mV]
    have pE:=K4 (aQ t) t (aD _) (aB (s.trees.take k)) _ aN cN hX X;rw [<-Mv s.fns s.trees k,kB,Go.Xp.yg,Go.Xp.oe];simp only [cD,aB,fk,Nat.add_zero,eo,lI];generalize (cD 0 (s.trees.take k)).map rY=aaJ at *;generalize aB (s.trees.take k)=z at *;generalize np s.fns s.trees k=R at *;refine ab ?_;refine Gh ?_;refine ab ?_;refine dW [7] pE ?_;rintro _ _ ⟨a5,c5,rfl,rfl⟩;refine zc5 ?_;exact ⟨rfl,rfl,_,_,Wk.aX aw,a5,c5,rfl,rfl⟩
   ·rintro _ _ ⟨aN,cN,rfl,rfl⟩;rw [iZ]
    have hX:((cD 0 s.trees).map rY).length=aB s.trees:=by rw [cU,Go.Xp.mV]
    by_cases h8:aB s.trees > 800
    ·rw [ah h8]
     have SU:decide ((800:Int) < (aB s.trees:Int))=true:=by simpa using by omega
     generalize aB s.trees=z at *;refine ab ?_;refine wQ ?_;exact zaK
    ·rw [ad h8]
     have SU:decide ((800:Int) < (((cD 0 s.trees).map rY).length:Int))=false:=by rw [hX];simpa using by omega
     refine bo ?_;refine GW.wk (by apply Wk.rh (i:=6) (o:=0) (j:=3) <;> rfl) ?_;simp only [oset,bN];refine GW.wk (by apply Wk.rh (i:=6) (o:=1) (j:=4) <;> rfl) ?_;simp only [oset,bN];refine GW.wk (by apply Wk.rh (i:=6) (o:=2) (j:=5) <;> rfl) ?_;simp only [oset,bN];refine GW.wk (by apply Wk.rh (i:=6) (o:=3) (j:=7) <;> rfl) ?_;simp only [oset,bN];refine ab ?_;refine kZ ?_;exact zag
  ·rw [ad hc]
   have de:(p.code==0)=false:=by simpa using hc
   have lV:(p.code != 0)=true:=by simpa using hc
   refine zbk ?_;refine aS (aC 0 9 (.a 9 (.q 10 (.q 11 .nil)))) ?_;refine bF ?_;refine wQ ?_;exact zaK
end Go.Xg
namespace Go.Xg
open Go.RowKit Go.Xw Go.Proofs Tryz
open GV (U)
open Go.Sp (small dN dV)
open Go.Im (nQ)
attribute [local irreducible] GW GL GO YG GC GA bu bs
theorem yd (c:UInt8):GF prog 237 [C1 c] [] (.v (.bool (dN c))) []:=by
 unfold dN;refine fD func237 ntmps237 ?_
 cases h:decide ((48:Int)<=(c.toNat:Int))
 all_goals
  exact av
theorem zS (c:UInt8):GF prog 239 [C1 c] [] (.v (.bool (small c))) []:=by
 unfold small;refine fD func239 ntmps239 ?_
 cases h:decide ((97:Int)<=(c.toNat:Int))
 all_goals
  exact av
theorem JH (c:UInt8):GF prog 240 [C1 c] [] (.v (.bool (dV c))) []:=by
 unfold dV;have hs:=zS c;have hd:=yd c;generalize small c=b1 at *;generalize dN c=b2 at *;refine aj func240 ntmps240 ?_;refine kJ [] hs ?_
 cases b1 with
 | true =>
  exact av
 | false =>
  cases D:decide ((65:Int)<=(c.toNat:Int)) with
  | true =>
   cases I:decide ((c.toNat:Int)<=90) with
   | true =>
    exact av
   | false =>
    refine ab ?_;refine kJ [] hd ?_
    cases b2 with
    | true =>
     exact av
    | false =>
     exact av
  | false =>
   refine ab ?_;refine kJ [] hd ?_
   cases b2 with
   | true =>
    exact av
   | false =>
    exact av
theorem Qz (test:FuncId) [hf:ba prog test] (p:UInt8->Bool) (ht:∀ c,GF prog test [C1 c] [] (.v (.bool (p c))) []) (s:ae) (a:Nat) (hs:s.length<=1099511627776) (ha:a<=s.length) :
  GF prog 238 [.v (sv s),.v (ii (a:Nat)),.v (.func (.func test) #[] #[])] [] (.v (ii (Go.Sp.run s p (s.length+1) a:Nat))) []:=by
 generalize hR:Go.Sp.run s p (s.length+1) a=R;refine aj func238 ntmps238 ?_;refine GW.loop (fun x:Nat × Nat=>x.1) (fun x fr Γ=>fr=[.v (sv s),.v (ii (x.2:Nat)),.v (.func (.func test) #[] #[]),U,U,U,U,U,U,U,U,U,U,U,U,U,U,U,U,U,U]/\Γ=[]/\x.2<=s.length/\s.length < x.1+x.2/\Go.Sp.run s p x.1 x.2=R) (s.length+1,a) ?_ ?_
 ·exact ⟨_,_,Wk.aX aw,rfl,rfl,ha,by simp only;omega,hR⟩
 ·rintro ⟨f,a⟩ _ _ ⟨rfl,rfl,ha,Y0,h⟩;simp only at ha Y0 h
  cases f with
  | zero=>omega
  | succ f =>
  rw [Go.Sp.run] at h
  cases hc:s[a]? with
  | none =>
   rw [hc] at h;simp only at h;subst h;have hO:s.length<=a:=nZ hc
   have hd:decide ((a:Int) < (s.length:Int))=false:=by simpa using hO
   exact zcv
  | some c =>
   rw [hc] at h;simp only at h;have ar:a < s.length:=(bh hc).1
   have hd:decide ((a:Int) < (s.length:Int))=true:=by simpa using ar
   have mP:=ht c
   cases hdc:p c with
   | false =>
    rw [hdc] at mP;rw [ad (by rw [hdc];simp)] at h;subst h;refine ab ?_;refine kp [] mP ?_;exact zcv
   | true =>
    rw [hdc] at mP;rw [ah hdc] at h;refine ab ?_;refine kp [] mP ?_;refine ab ?_;exact ⟨(f,a+1),⟨_,_,Wk.aX aw,rfl,rfl,ar,by simp only;omega,h⟩,by simp⟩
theorem MC:Go.Lib.asciiSpaceTab=vF:=by decide
theorem KV:Go.Lib.fields [105,110,116,32,118,97,114,32,102,117,110,99,32,105,102,32,101,108,115,101,32,119,104,105,108,101,32,114,101,116,117,114,110,32,124,124,32,38,38,32,61,61,32,33,61,32,60,61,32,62,61,32,60,60,32,62,62,32,40,32,41,32,123,32,125,32,91,32,93,32,44,32,59,32,61,32,60,32,62,32,43,32,45,32,42,32,47,32,37,32,38,32,124,32,94,32,33,32,126]=nQ:=by decide +kernel
open Go.Im (lq)
theorem nh.tA {P:Program} {f:FuncId} {vs:List Value} {w:World} {R:Value->World->Prop} (h:Calls P f vs.toArray w fun e w'=>∃ v,e=.returned v/\R v w'):nh P f vs w R:=h
theorem Ni:GF prog 297 [.v (sv [105,110,116,32,118,97,114,32,102,117,110,99,32,105,102,32,101,108,115,101,32,119,104,105,108,101,32,114,101,116,117,114,110,32,124,124,32,38,38,32,61,61,32,33,61,32,60,61,32,62,61,32,60,60,32,62,62,32,40,32,41,32,123,32,125,32,91,32,93,32,44,32,59,32,61,32,60,32,62,32,43,32,45,32,42,32,47,32,37,32,38,32,124,32,94,32,33,32,126])] [] (strs nQ) []:=by
 have:=GF.XT (P:=prog) (f:=297) (vs:=[sv [105,110,116,32,118,97,114,32,102,117,110,99,32,105,102,32,101,108,115,101,32,119,104,105,108,101,32,114,101,116,117,114,110,32,124,124,32,38,38,32,61,61,32,33,61,32,60,61,32,62,61,32,60,60,32,62,62,32,40,32,41,32,123,32,125,32,91,32,93,32,44,32,59,32,61,32,60,32,62,32,43,32,45,32,42,32,47,32,37,32,38,32,124,32,94,32,33,32,126]]) (us:=nQ.map sv) (E:=9) fun K β w ht hf=>?_
 ·rw [List.map_map] at this;exact this
 ·obtain ⟨E,z,pZ⟩:=sN.all ht hf ht.spc (zs:=vF.map fun z=>Value.int .u8 z) aE (fun m o x hx=>by
   rw [bP] at hx;unfold w5;rw [ad aE,ad aE,ah rfl]
   cases hs:vF[o]? with
   | none=>rw [hs] at hx;cases hx
   | some y=>rw [hs] at hx;cases hx;rfl)
  have zL:Go.Lib.TabIs prog w "strings.asciiSpace" .u8 Go.Lib.asciiSpaceTab:=by
   unfold Go.Lib.TabIs World.var?;rw [show prog.globalNamed "strings.asciiSpace" = some 2 by kernel_rfl,MC];simp only [Option.bind_some,pZ]
  have h:=strings_Fields_laid ⟨[105,110,116,32,118,97,114,32,102,117,110,99,32,105,102,32,101,108,115,101,32,119,104,105,108,101,32,114,101,116,117,114,110,32,124,124,32,38,38,32,61,61,32,33,61,32,60,61,32,62,61,32,60,60,32,62,62,32,40,32,41,32,123,32,125,32,91,32,93,32,44,32,59,32,61,32,60,32,62,32,43,32,45,32,42,32,47,32,37,32,38,32,124,32,94,32,33,32,126].toArray⟩ w aE (fun j b hb=>by
   have:∀ b∈([105,110,116,32,118,97,114,32,102,117,110,99,32,105,102,32,101,108,115,101,32,119,104,105,108,101,32,114,101,116,117,114,110,32,124,124,32,38,38,32,61,61,32,33,61,32,60,61,32,62,61,32,60,60,32,62,62,32,40,32,41,32,123,32,125,32,91,32,93,32,44,32,59,32,61,32,60,32,62,32,43,32,45,32,42,32,47,32,37,32,38,32,124,32,94,32,33,32,126]:List UInt8),b.toNat < 128:=by decide
   exact this b (bM hb)) zL
  refine nh.tA (Calls.mono h ?_);rintro e w' ⟨D,I⟩;rw [show ((⟨[105,110,116,32,118,97,114,32,102,117,110,99,32,105,102,32,101,108,115,101,32,119,104,105,108,101,32,114,101,116,117,114,110,32,124,124,32,38,38,32,61,61,32,33,61,32,60,61,32,62,61,32,60,60,32,62,62,32,40,32,41,32,123,32,125,32,91,32,93,32,44,32,59,32,61,32,60,32,62,32,43,32,45,32,42,32,47,32,37,32,38,32,124,32,94,32,33,32,126].toArray⟩:ByteArray).data.toList)=[105,110,116,32,118,97,114,32,102,117,110,99,32,105,102,32,101,108,115,101,32,119,104,105,108,101,32,114,101,116,117,114,110,32,124,124,32,38,38,32,61,61,32,33,61,32,60,61,32,62,61,32,60,60,32,62,62,32,40,32,41,32,123,32,125,32,91,32,93,32,44,32,59,32,61,32,60,32,62,32,43,32,45,32,42,32,47,32,37,32,38,32,124,32,94,32,33,32,126] from rfl,KV] at D I;exact ⟨_,D,by rw [cU],I⟩
theorem RE:GF prog 281 [] [] (strs nQ) []:=by
 have h:=Ni;generalize nQ=l at *;refine aj func281 ntmps281 ?_;exact zbT
theorem zO (s:ae):GF prog 241 [.v (sv s)] [] (.v (.bool (lq s))) []:=by
 have h:=RE;have hc:=vN nQ s aE;unfold lq;generalize nQ=l at *;refine aj func241 ntmps241 ?_;refine V [] h ?_;exact zcs
open Go.Sp (gh eT)
open Go.Im (dd jt ij mM l0 tJ mf)
theorem O9 (s:ae) (a:Nat) (c:UInt8) (hs:s.length<=1099511627776) (hc:s[a]?=some c):GF prog 242 [.v (sv s),.v (ii (a:Nat))] [] (.v (sv (ij s a))) []:=by
 have ar:a < s.length:=(bh hc).1;have iy:=zS c;refine aj func242 ntmps242 ?_;refine GW.loop (fun x:Nat=>x) (fun x fr Γ=>fr=[.v (sv s),.v (ii (a:Nat)),U,U,U,.v (ii (x:Nat)),U,U,U,U,U,U,U,U,U,U,U,U,U,U,U,U,U,U,U,U,U,U,U,U,U,U,U,U,U,U,U,U]/\Γ=[]/\x<=2/\∀ j,x < j->j<=2->jt s a j=false) 2 ?_ ?_
 ·exact ⟨_,_,Wk.aX aw,rfl,rfl,aD _,fun j D I=>by omega⟩
 ·rintro x _ _ ⟨rfl,rfl,hx,cE⟩
  have ra:∀ k,x=k+1->jt s a x=false->∀ j,k < j->j<=2->jt s a j=false:=fun k hk ht j D I=>by
   by_cases hj:j=x
   ·rw [hj];exact ht
   ·exact cE j X I
  have MP:∀ k,jt s a k=(decide (a+k<=s.length)&&!(small c)&&lq (dd s a (a+k))):=fun k=>by unfold jt;rw [hc]
  match x,hx,cE,ra with
  | 0,_,cE,_ =>
   have e:ij s a=[]:=by unfold ij;rw [cE 2 X X,cE 1 X X];rfl
   rw [e];exact zcv
  | 1,_,cE,ra =>
   have hle:decide (((a+1:Nat):Int)<=(s.length:Int))=true:=by simpa using by omega
   have hb:a<=a+1/\a+1<=s.length:=by omega
   have ht:=MP 1;rw [show decide (a+1<=s.length)=true from decide_eq_true X] at ht
   cases hsc:small c with
   | true =>
    rw [hsc] at iy ht;refine ab ?_;refine V [] iy ?_;exact zdw
   | false =>
    rw [hsc] at iy ht;have dE:=zO (dd s a (a+1))
    cases hg:lq (dd s a (a+1)) with
    | false =>
     rw [hg] at dE ht;refine zc4 ?_;exact zdw
    | true =>
     rw [hg] at dE ht
     have e:ij s a=dd s a (a+1):=by unfold ij;rw [cE 2 X X,ht];rfl
     rw [e];refine zc4 ?_;exact ao
  | 2,_,cE,ra =>
   have ht:=MP 2
   by_cases kP:a+2<=s.length
   ·have hle:decide (((a+2:Nat):Int)<=(s.length:Int))=true:=by simpa using by omega
    have hb:a<=a+2/\a+2<=s.length:=by omega
    rw [show decide (a+2<=s.length)=true by simpa using kP] at ht
    cases hsc:small c with
    | true =>
     rw [hsc] at iy ht;refine ab ?_;refine V [] iy ?_;exact zbE
    | false =>
     rw [hsc] at iy ht;have dE:=zO (dd s a (a+2))
     cases hg:lq (dd s a (a+2)) with
     | false =>
      rw [hg] at dE ht;refine zc4 ?_;exact zbE
     | true =>
      rw [hg] at dE ht
      have e:ij s a=dd s a (a+2):=by unfold ij;rw [ht];rfl
      rw [e];refine zc4 ?_;exact ao
   ·have hle:decide (((a+2:Nat):Int)<=(s.length:Int))=false:=by simpa using by omega
    rw [show decide (a+2<=s.length)=false by simpa using kP] at ht;refine ab ?_;exact zbE
  | n+3,hx,_,_=>omega
def JN (n:Int) (e:Nat) (a:Nat):GV:=if n > 2147483647 then .tup [.agg (cH tJ),.v (ii (a:Nat)),.v (ii 3)] else .tup [.agg (cH ⟨1,n,[],a⟩),.v (ii (e:Nat)),.v (ii 0)]
theorem MO (s:ae) (a:Nat) (c:UInt8) (hs:s.length<=1099511627776) (hc:s[a]?=some c) (hd:dN c=true) :
  GF prog 181 [.v (sv s),.v (ii (a:Nat))] [] (JN (l0 (dd s a (mM s a)) 0) (mM s a) a) []:=by
 have ar:a < s.length:=(bh hc).1;have mP:=yd c;rw [hd] at mP;have oA:=Qz 237 dN yd s a hs X;obtain ⟨e1,e2,e3⟩:=Go.Sp.oa s dN (s.length+1) a X X;have cp:=Go.Im.Cw s dN (s.length+1) a X;unfold mM;generalize Go.Sp.run s dN (s.length+1) a=e at *;clear e1;generalize hR:l0 (dd s a e) 0=R;refine aj func181 ntmps181 ?_;refine V [] mP ?_;refine V [] oA ?_;refine GW.loop (fun x:Nat × Int=>e - x.1) (fun x fr Γ=>fr=[.v (sv s),.v (ii (a:Nat)),U,U,.loc 0 0,.v (ii 0),.v (ii 0),U,.v (ii (e:Nat)),.v (ii x.2),.v (ii (x.1:Nat)),U,U,U,U,U,U,U,U,U,U,U,U,U,U,U,U,U,U,U,U,U,U,U,U,U,U,U,U,U,U,U,U,U,U,U,U,U,U,U,U,U,U,U,U,U,U,U,U,U,U,U,U,U,U,U,U,U,U,U,U,U,U,U,U,U,U,U,U,U,U]/\Γ=[.box 168 (cH tJ)]/\a<=x.1/\x.1<=e/\l0 (dd s x.1 e) x.2=R/\0<=x.2/\x.2<=21474836480) (a,0) ?_ ?_
 ·exact ⟨_,_,Wk.aX aw,rfl,rfl,aD _,e2,hR,by simp,by simp⟩
 ·rintro ⟨i,n⟩ _ _ ⟨rfl,rfl,hi,Y4,h,sZ,ub⟩;simp only at hi Y4 h sZ ub
  have fin:R=n->True:=fun _=>trivial
  by_cases lX:i < e
  ·have PO:decide ((i:Int) < (e:Int))=true:=by simpa using lX
   by_cases hn:n<=2147483647
   ·have u9:decide (n<=2147483647)=true:=by simpa using hn
    have rD:i < s.length:=by omega
    obtain ⟨d,nE⟩:∃ d,s[i]?=some d:=⟨s[i],by simp [rD]⟩
    have fG:dN d=true:=by
     have:d∈dd s a e:=by
      unfold dd;rw [List.mem_iff_getElem?];exact ⟨i - a,by rw [List.getElem?_drop,List.getElem?_take,show a+(i - a)=i by omega,ah lX];exact nE⟩
     exact cp d this
    have xy:(48:Int)<=(d.toNat:Int)/\(d.toNat:Int)<=57:=by
     simp only [dN,au,decide_eq_true_eq] at fG;exact fG
    rw [Go.Im.py nE lX e3,l0,ah hn] at h;refine ab ?_;exact ⟨(i+1,10 * n+((d.toNat:Int) - 48)),⟨_,_,Wk.aX aw,rfl,rfl,by simp only;omega,lX,h,by simp only;omega,by simp only;omega⟩,by simp only;omega⟩
   ·have u9:decide (n<=2147483647)=false:=by simpa using hn
    have Lk:R=n:=by
     rw [<-h]
     cases hw:dd s i e with
     | nil=>rw [l0]
     | cons d r=>rw [l0,ad hn]
    rw [Lk];clear h Lk hR fin
    have bL:decide (2147483647 < n)=true:=by simpa using by omega
    unfold JN;rw [ah X];exact zd9
  ·have PO:decide ((i:Int) < (e:Int))=false:=by simpa using by omega
   have Lk:R=n:=by
    rw [<-h];have:dd s i e=[]:=gk (by rw [Go.Im.lk e3];omega);rw [this,l0]
   rw [Lk];clear h Lk hR fin;unfold JN
   by_cases hn:n > 2147483647
   ·have bL:decide (2147483647 < n)=true:=by simpa using hn
    rw [ah hn];exact zd9
   ·have bL:decide (2147483647 < n)=false:=by simpa using hn
    rw [ad hn];exact zd9
theorem RR (s:ae) (a:Nat) (c:UInt8) (hs:s.length<=1099511627776) (hc:s[a]?=some c) :
  GF prog 181 [.v (sv s),.v (ii (a:Nat))] [] (.tup [.agg (cH (mf s a c).1),.v (ii ((mf s a c).2.1:Nat)),.v (ii (mf s a c).2.2)]) []:=by
 have ar:a < s.length:=(bh hc).1;have mP:=yd c;have iy:=zS c
 by_cases hd:dN c=true
 ·have h:=MO s a c hs hc hd;unfold JN at h;unfold mf;rw [ah hd];split at h
  ·rename_i hn;rw [ah hn];exact h
  ·rename_i hn;rw [ad hn];exact h
 ·have AG:dN c=false:=by simpa using hd
  unfold mf;rw [ad hd];rw [AG] at mP
  by_cases hsc:small c=true
  ·rw [ah hsc];rw [hsc] at iy;have oA:=Qz 240 dV JH s a hs X;obtain ⟨e1,e2,e3⟩:=Go.Sp.oa s dV (s.length+1) a X X;have hw:gh s a=(s.take (eT s a)).drop a:=rfl;have dE:=zO (gh s a);unfold eT at hw |-;rw [hw] at dE |-;generalize Go.Sp.run s dV (s.length+1) a=e at *;have hb:a<=e/\e<=s.length:=⟨e2,e3⟩
   cases hg:lq ((s.take e).drop a) with
   | true =>
    exact zbB
   | false =>
    exact zbB
  ·have XH:small c=false:=by simpa using hsc
   rw [ad hsc];rw [XH] at iy;have P8:=O9 s a c hs hc
   have hlen:(ij s a).length<=2:=by
    have:(ij s a=dd s a (a+2)\/ij s a=dd s a (a+1))\/ij s a=[]:=by
     unfold ij;split
     ·exact .inl (.inl rfl)
     ·split
      ·exact .inl (.inr rfl)
      ·exact zbd
    rcases this with (h | h) | h <;> rw [h]
    ·unfold dd;rw [jw,lH];omega
    ·unfold dd;rw [jw,lH];omega
    ·simp
   generalize ij s a=x at *
   by_cases hx:x=[]
   ·have HS:(x==[])=true:=by simpa using hx
    rw [ah hx];exact zcd
   ·have HS:(x==[])=false:=by simpa using hx
    rw [ad hx];exact zcd
open Go.Xp (Tok)
open Go.Sp (bR eH)
open Go.Im (oB tj)
def BZ (x t:ae):Bool:=decide (t.length<=x.length)&&(x.take t.length==t)
theorem IZ (x t:ae) (hx:x.length<=1099511627776) (ht:t.length<=1099511627776):GF prog 236 [.v (sv x),.v (sv t)] [] (.v (.bool (BZ x t))) []:=by
 unfold BZ
 by_cases h:t.length<=x.length
 ·have D:decide ((t.length:Int)<=(x.length:Int))=true:=by simpa using h
  rw [decide_eq_true h];refine aj func236 ntmps236 ?_;exact ao
 ·have D:decide ((t.length:Int)<=(x.length:Int))=false:=by simpa using by omega
  rw [decide_eq_false h];refine aj func236 ntmps236 ?_;exact ao
theorem Gs (x t:ae) (hx:x.length<=1099511627776) (ht:t.length<=1099511627776):GF prog 180 [.v (sv x),.v (sv t)] [] (.v (.bool (BZ x t))) []:=by
 have h:=IZ x t hx ht;generalize BZ x t=b at *;refine aj func180 ntmps180 ?_;exact zbT
theorem GH {s t:ae} {a:Nat} (ha:a<=s.length):BZ (s.drop a) t=bR s a t:=by
 unfold BZ bR;rw [jw,List.drop_take,show a+t.length - a=t.length by omega]
 congr 1
 rw [Bool.eq_iff_iff];simp;omega
theorem Gt (c:UInt8):GF prog 179 [.v (sv [32,9,10,13]),C1 c] [] (.v (ii (Go.Lib.indexByte [32,9,10,13] c))) []:=by
 refine GF.H9 (vs:=[sv [32,9,10,13],.int .u8 (c.toNat:Int)]) fun K β w ht hf=>?_
 refine nh.tA (Calls.mono (strings_IndexByte ⟨[32,9,10,13].toArray⟩ (c.toNat:Int) w) ?_);rintro e w' ⟨D,I⟩;refine ⟨_,D,?_,by rw [I];exact Ext.refl w⟩;simp
theorem Nk (x:ae) (hx:x.length<=4294967280):GF prog 156 [.v (sv x),.v (sv [42,47])] [] (.v (ii (Go.Lib.index x [42,47]))) []:=by
 refine GF.H9 (vs:=[sv x,sv [42,47]]) fun K β w ht hf=>?_
 obtain ⟨m,hm⟩:=ht.maxLen hf;refine nh.tA (Calls.mono (strings_Index ⟨x.toArray⟩ ⟨[42,47].toArray⟩ m w (by show (x.toArray).size < _;simp;omega) hm) ?_);rintro e w' ⟨D,I⟩;refine ⟨_,D,?_,by rw [I];exact Ext.refl w⟩;simp
theorem Nv (c:UInt8):decide ((0:Int)<=Go.Lib.indexByte [32,9,10,13] c)=eH c:=by
 have hb:eH c=((32:UInt8)==c || (9:UInt8)==c || (10:UInt8)==c || (13:UInt8)==c):=by
  have e:∀ k:UInt8,((c.toNat:Int)==(k.toNat:Int))=(k==c):=fun k=>by
   rw [Bool.eq_iff_iff];simp only [beq_iff_eq]
   exact ⟨fun h=>by
    have:c.toNat=k.toNat:=by omega
    exact (UInt8.toNat_inj.1 this).symm,fun h=>by rw [h]⟩
  have e1:=e 32;have e2:=e 9;have e3:=e 10;have e4:=e 13;unfold eH;rw [<-e1,<-e2,<-e3,<-e4];rfl
 rw [hb];unfold Go.Lib.indexByte Go.Lib.indexByte Go.Lib.indexByte Go.Lib.indexByte Go.Lib.indexByte
 cases (32:UInt8)==c <;> cases (9:UInt8)==c <;> cases (10:UInt8)==c <;> cases (13:UInt8)==c <;> decide
theorem LW (l:ae):Go.Lib.index l [42,47]=(match tj l with | none => -1 | some n=>(n:Int)):=by
 induction l with
 | nil=>rfl
 | cons b l ih =>
  rw [Go.Lib.index,tj];split
  ·rfl
  ·rw [ih]
   cases tj l with
   | none=>rfl
   | some n =>
    simp only;rw [ad (by simp <;> omega)];simp
theorem Fo (s:ae) (f:Nat) (ts:List Tok) (c z:Int) (hs:s.length<=4294967280) (h:oB s f 0 []=some (ts,c,z)) :
  GF prog 120 [.v (sv s)] [] (.tup [eI ts,.v (ii c),.v (ii z)]) []:=by
 refine aj func120 ntmps120 ?_;refine GW.wk (Wk.Ch (t:=5) (a:=none) (c:=0) 168 4 rfl) ?_;refine GW.loop (fun x:Nat × Nat × List Tok=>x.1) (fun x fr Γ=>∃ n rows,fr=[.v (sv s),U,.v (.slice none 0 0),.v (ii 0),.v (ii 0),.vec 0 n,.v (ii (x.2.1:Nat)),U,U,U,U,U,U,U,U,U,U,U,U,U,U,U,U,U,U,U,U,U,U,U,U,U,U,U,U,U,U,U,U,U,U,U,U,U,U,U,U,U,U,U,U,U,U,U,U]/\Γ=[.vec 168 4 0 rows]/\rows.length=n/\rows=x.2.2.map cH/\x.2.1<=s.length/\n<=x.2.1/\oB s x.1 x.2.1 x.2.2=some (ts,c,z)) (f,0,[]) ?_ ?_
 ·exact ⟨_,_,Wk.aX aw,0,[],rfl,rfl,rfl,rfl,aY _,aD _,h⟩
 ·clear h;rintro ⟨f,a,acc⟩ _ _ ⟨n,rows,rfl,rfl,hn,bn,ha,xq,h⟩;simp only at bn ha xq h
  cases f with
  | zero=>cases h
  | succ f =>
  rw [oB] at h
  cases hc:s[a]? with
  | none =>
   rw [hc] at h;cases h;have hO:s.length<=a:=nZ hc
   have hd:decide ((a:Int) < (s.length:Int))=false:=by simpa using hO
   refine dF ?_;refine GW.wk (Wk.kG (t:=5) rfl rfl rfl hn) ?_;refine ab ?_;refine yF ?_;exact ⟨by rw [bn];rfl,rfl⟩
  | some ch =>
   rw [hc] at h;simp only at h;have ar:a < s.length:=(bh hc).1
   have hd:decide ((a:Int) < (s.length:Int))=true:=by simpa using ar
   have HI:=Gt ch;have pB:=Nv ch
   cases hb:eH ch with
   | true =>
    rw [ah hb] at h;rw [hb] at pB;generalize Go.Lib.indexByte [32,9,10,13] ch=ib at *;refine ab ?_;refine V [] HI ?_;refine iw ?_;exact ⟨(f,a+1,acc),⟨_,_,Wk.aX aw,n,rows,rfl,rfl,hn,bn,ar,by simp only;omega,h⟩,by simp⟩
   | false =>
    rw [ad (by rw [hb];decide)] at h;rw [hb] at pB;generalize Go.Lib.indexByte [32,9,10,13] ch=ib at *;have zK:=Gs (s.drop a) [47,42] (by rw [jw];omega) aE;rw [GH ha] at zK
    cases oM:bR s a [47,42] with
    | true =>
     rw [ah oM] at h;rw [oM] at zK;have gD:=Go.Sp.jE oM;simp only [length_cons,List.length_nil] at gD;have xp:=Nk (s.drop (a+2)) (by rw [jw];omega);rw [LW] at xp
     have Ll:a+2<=s.length:=by omega
     cases hi:tj (s.drop (a+2)) with
     | none =>
      rw [hi] at xp h;cases h;refine zc6 ?_;refine V [] xp ?_;exact zcG
     | some e =>
      rw [hi] at xp h;have jc:=Go.Im.B4 hi;rw [jw] at jc
      have S9:decide (((e:Nat):Int) < 0)=false:=by simp
      refine zc6 ?_;refine V [] xp ?_;refine iw ?_;exact ⟨(f,a+(e+4),acc),⟨_,_,Wk.aX aw,n,rows,rfl,rfl,hn,bn,by simp only;omega,by simp only;omega,h⟩,by simp⟩
    | false =>
     rw [ad (by rw [oM];decide)] at h;rw [oM] at zK;have kB:=RR s a ch X hc
     have ei:=fun h0=>Go.Im.IJ hc h0
     generalize mf s a ch=R at *;obtain ⟨t,e,code⟩:=R;simp only at kB h ei
     by_cases h0:code=0
     ·rw [ad zfi] at h
      have rA:(code != 0)=false:=by simpa using h0
      obtain ⟨_,_,k3,k4⟩:=ei h0;refine zc6 ?_;refine V [] kB ?_;refine zdI ?_;exact ⟨(f,e,acc++[t]),⟨_,_,(Wk.cut (n:=1) (fU rfl) rfl).trans (Wk.aX aw),_,_,rfl,rfl,by simp [hn],by rw [lI,bn];rfl,k4,by simp only;omega,h⟩,by simp⟩
     ·rw [ah h0] at h
      have rA:(code != 0)=true:=by simpa using h0
      cases h;refine zc6 ?_;refine V [] kB ?_;exact zcG
open Go.Xp (T aQ)
open Go.Im (dp gq)
theorem OC:∀ (N:Nat) (t:T),aQ t<=N->aQ t<=1099511627776->GF prog 118 [uT t] [] (.v (.bool (gq t))) []:=by
 intro N
 induction N with
 | zero=>intro t h;exact zdz
 | succ N ih =>
 intro t hN hb;rw [Go.Xp.eg] at hN hb;have kA:=Go.Xp.jK t.kids;have kC:=qW t.kids;rw [Go.Im.vh,Go.Im.qJ];unfold uT;generalize t.n.kind=kd;refine fD func118 ntmps118 ?_;refine RT ?_;refine GW.join (fun fr Γ=>fr=[.box [.v (ii kd),.v (ii t.n.at_),.v (ii t.n.n),.v (sv t.n.s),ints t.n.kids,.sl 1 (cj t.kids)] 0,U,U,U,.v (.bool (dp kd t.kids.length)),U,U,U,U,U,U,U,U,U,U,U,U,U,U,U,U,U,U,U,U,U,U,U,U,U,U,U,U,U,U,U,U,U,U,U,U,U,U,U,U,U,U,U,U,U,U,U,U,U,U,U,U,U,U,U,U,U,U,U]/\Γ=[]) ?_ ?_
 ·rw [<-kC];generalize (cj t.kids)=l
  by_cases D:kd=1
  ·subst D
   have cI:((1:Int)==1)=true:=by decide
   rw [show dp 1 l.length=((l.length:Int)==0) by unfold dp;simp];exact jN
  by_cases I:kd=2
  ·subst I
   have cI:((2:Int)==1)=false:=by decide
   have lQ:((2:Int)==2)=true:=by decide
   rw [show dp 2 l.length=((l.length:Int)==0) by unfold dp;simp];exact jN
  by_cases h4:kd=4
  ·subst h4
   have cI:((4:Int)==1)=false:=by decide
   have lQ:((4:Int)==2)=false:=by decide
   have f4:((4:Int)==4)=true:=by decide
   rw [show dp 4 l.length=true by unfold dp;simp];exact jN
  by_cases AB:kd=14
  ·subst AB
   have cI:((14:Int)==1)=false:=by decide
   have lQ:((14:Int)==2)=false:=by decide
   have f4:((14:Int)==4)=false:=by decide
   have f14:((14:Int)==14)=true:=by decide
   rw [show dp 14 l.length=true by unfold dp;simp];exact jN
  by_cases h3:kd=3
  ·subst h3
   have cI:((3:Int)==1)=false:=by decide
   have lQ:((3:Int)==2)=false:=by decide
   have f4:((3:Int)==4)=false:=by decide
   have f14:((3:Int)==14)=false:=by decide
   have ln:((3:Int)==3)=true:=by decide
   rw [show dp 3 l.length=((l.length:Int)==1) by unfold dp;simp];exact jN
  by_cases h5:kd=5
  ·subst h5
   have cI:((5:Int)==1)=false:=by decide
   have lQ:((5:Int)==2)=false:=by decide
   have f4:((5:Int)==4)=false:=by decide
   have f14:((5:Int)==14)=false:=by decide
   have ln:((5:Int)==3)=false:=by decide
   have f5:((5:Int)==5)=true:=by decide
   rw [show dp 5 l.length=((l.length:Int)==1) by unfold dp;simp];exact jN
  by_cases h7:kd=7
  ·subst h7
   have cI:((7:Int)==1)=false:=by decide
   have lQ:((7:Int)==2)=false:=by decide
   have f4:((7:Int)==4)=false:=by decide
   have f14:((7:Int)==14)=false:=by decide
   have ln:((7:Int)==3)=false:=by decide
   have f5:((7:Int)==5)=false:=by decide
   have f7:((7:Int)==7)=true:=by decide
   rw [show dp 7 l.length=((l.length:Int)==1) by unfold dp;simp];exact jN
  by_cases oL:kd=11
  ·subst oL
   have cI:((11:Int)==1)=false:=by decide
   have lQ:((11:Int)==2)=false:=by decide
   have f4:((11:Int)==4)=false:=by decide
   have f14:((11:Int)==14)=false:=by decide
   have ln:((11:Int)==3)=false:=by decide
   have f5:((11:Int)==5)=false:=by decide
   have f7:((11:Int)==7)=false:=by decide
   have f11:((11:Int)==11)=true:=by decide
   rw [show dp 11 l.length=((l.length:Int)==1) by unfold dp;simp];exact jN
  by_cases lS:kd=12
  ·subst lS
   have cI:((12:Int)==1)=false:=by decide
   have lQ:((12:Int)==2)=false:=by decide
   have f4:((12:Int)==4)=false:=by decide
   have f14:((12:Int)==14)=false:=by decide
   have ln:((12:Int)==3)=false:=by decide
   have f5:((12:Int)==5)=false:=by decide
   have f7:((12:Int)==7)=false:=by decide
   have f11:((12:Int)==11)=false:=by decide
   have f12:((12:Int)==12)=true:=by decide
   rw [show dp 12 l.length=((l.length:Int)==1) by unfold dp;simp];exact jN
  by_cases lT:kd=13
  ·subst lT
   have cI:((13:Int)==1)=false:=by decide
   have lQ:((13:Int)==2)=false:=by decide
   have f4:((13:Int)==4)=false:=by decide
   have f14:((13:Int)==14)=false:=by decide
   have ln:((13:Int)==3)=false:=by decide
   have f5:((13:Int)==5)=false:=by decide
   have f7:((13:Int)==7)=false:=by decide
   have f11:((13:Int)==11)=false:=by decide
   have f12:((13:Int)==12)=false:=by decide
   have f13:((13:Int)==13)=true:=by decide
   rw [show dp 13 l.length=((l.length:Int)==1) by unfold dp;simp];exact jN
  by_cases h6:kd=6
  ·subst h6
   have cI:((6:Int)==1)=false:=by decide
   have lQ:((6:Int)==2)=false:=by decide
   have f4:((6:Int)==4)=false:=by decide
   have f14:((6:Int)==14)=false:=by decide
   have ln:((6:Int)==3)=false:=by decide
   have f5:((6:Int)==5)=false:=by decide
   have f7:((6:Int)==7)=false:=by decide
   have f11:((6:Int)==11)=false:=by decide
   have f12:((6:Int)==12)=false:=by decide
   have f13:((6:Int)==13)=false:=by decide
   have f6:((6:Int)==6)=true:=by decide
   rw [show dp 6 l.length=((l.length:Int)==2) by unfold dp;simp];exact jN
  by_cases h8:kd=8
  ·subst h8
   have cI:((8:Int)==1)=false:=by decide
   have lQ:((8:Int)==2)=false:=by decide
   have f4:((8:Int)==4)=false:=by decide
   have f14:((8:Int)==14)=false:=by decide
   have ln:((8:Int)==3)=false:=by decide
   have f5:((8:Int)==5)=false:=by decide
   have f7:((8:Int)==7)=false:=by decide
   have f11:((8:Int)==11)=false:=by decide
   have f12:((8:Int)==12)=false:=by decide
   have f13:((8:Int)==13)=false:=by decide
   have f6:((8:Int)==6)=false:=by decide
   have f8:((8:Int)==8)=true:=by decide
   rw [show dp 8 l.length=((l.length:Int)==2) by unfold dp;simp];exact jN
  by_cases ly:kd=10
  ·subst ly
   have cI:((10:Int)==1)=false:=by decide
   have lQ:((10:Int)==2)=false:=by decide
   have f4:((10:Int)==4)=false:=by decide
   have f14:((10:Int)==14)=false:=by decide
   have ln:((10:Int)==3)=false:=by decide
   have f5:((10:Int)==5)=false:=by decide
   have f7:((10:Int)==7)=false:=by decide
   have f11:((10:Int)==11)=false:=by decide
   have f12:((10:Int)==12)=false:=by decide
   have f13:((10:Int)==13)=false:=by decide
   have f6:((10:Int)==6)=false:=by decide
   have f8:((10:Int)==8)=false:=by decide
   have f10:((10:Int)==10)=true:=by decide
   rw [show dp 10 l.length=((l.length:Int)==2) by unfold dp;simp];exact jN
  by_cases h9:kd=9
  ·subst h9
   have cI:((9:Int)==1)=false:=by decide
   have lQ:((9:Int)==2)=false:=by decide
   have f4:((9:Int)==4)=false:=by decide
   have f14:((9:Int)==14)=false:=by decide
   have ln:((9:Int)==3)=false:=by decide
   have f5:((9:Int)==5)=false:=by decide
   have f7:((9:Int)==7)=false:=by decide
   have f11:((9:Int)==11)=false:=by decide
   have f12:((9:Int)==12)=false:=by decide
   have f13:((9:Int)==13)=false:=by decide
   have f6:((9:Int)==6)=false:=by decide
   have f8:((9:Int)==8)=false:=by decide
   have f10:((9:Int)==10)=false:=by decide
   have f9:((9:Int)==9)=true:=by decide
   cases hq:((l.length:Int)==2) with
   | true =>
    rw [show dp 9 l.length=true by unfold dp;simp [hq]];exact jN
   | false =>
    rw [show dp 9 l.length=((l.length:Int)==3) by unfold dp;simp [hq]];exact jN
  have e:dp kd l.length=false:=by unfold dp;simp [D,I,h4,AB,h3,h5,h7,oL,lS,lT,h6,h8,ly,h9]
  rw [e]
  have g1:(kd==1)=false:=by simpa using D
  have g2:(kd==2)=false:=by simpa using I
  have g4:(kd==4)=false:=by simpa using h4
  have g14:(kd==14)=false:=by simpa using AB
  have g3:(kd==3)=false:=by simpa using h3
  have g5:(kd==5)=false:=by simpa using h5
  have g7:(kd==7)=false:=by simpa using h7
  have g11:(kd==11)=false:=by simpa using oL
  have g12:(kd==12)=false:=by simpa using lS
  have g13:(kd==13)=false:=by simpa using lT
  have g6:(kd==6)=false:=by simpa using h6
  have g8:(kd==8)=false:=by simpa using h8
  have g10:(kd==10)=false:=by simpa using ly
  have g9:(kd==9)=false:=by simpa using h9
  exact jN
 ·rintro _ _ ⟨rfl,rfl⟩;generalize dp kd t.kids.length=b0;refine ab ?_;refine GW.range (cj t.kids).length (fun k fr Γ=>fr=[U,U,U,U,.v (.bool (b0&&(t.kids.take k).all gq)),U,U,U,U,U,U,U,U,U,U,U,U,U,U,U,U,U,U,U,U,U,U,U,U,U,U,U,U,U,U,U,U,U,U,U,U,U,U,U,U,U,U,U,U,U,U,.sl 1 (cj t.kids),.v (ii ((cj t.kids).length:Int)),.v (ii (k:Nat)),U,U,U,U,U,U,U,U,U,U]/\Γ=[]) ?_ X ?_ ?_ ?_
  ·refine ⟨_,_,Wk.aX (c6:=[U,U,U,U,.v (.bool b0),U,U,U,U,U,U,U,U,U,U,U,U,U,U,U,U,U,U,U,U,U,U,U,U,U,U,U,U,U,U,U,U,U,U,U,U,U,U,U,U,U,U,U,U,U,U,.sl 1 (cj t.kids),.v (ii ((cj t.kids).length:Int)),.v (ii (0:Nat)),U,U,U,U,U,U,U,U,U,U]) aw,?_,rfl⟩;rw [List.take_zero,List.all_nil,Bool.and_true]
  ·rintro k _ _ ⟨rfl,rfl⟩;exact gU
  ·rintro k _ _ ar ⟨rfl,rfl⟩;rw [kC] at ar;obtain ⟨kid,gy⟩:∃ kid,t.kids[k]?=some kid:=⟨t.kids[k],by simp [ar]⟩;have hr:=vB gy;have fJ:=Go.Xp.uC gy;have hle:=Go.Xp.uB t.kids (k+1);have xo:=ih kid X X
   have cp:(t.kids.take (k+1)).all gq=((t.kids.take k).all gq&&gq kid):=by rw [eK,gy,List.all_append];simp
   rw [cp,<-Bool.and_assoc];generalize (b0&&(t.kids.take k).all gq)=b at *
   cases b with
   | true =>
    refine ab ?_;refine V [] xo ?_;exact zbD
   | false =>
    refine ab ?_;exact zbD
  ·rintro _ _ ⟨rfl,rfl⟩;rw [kC,iZ];exact av
def wF (l:List T):Int:=match l.findIdx? (fun t=>!(gq t)) with | some i=>(i:Int) | none => -1
theorem LY (t:T) (hb:aQ t<=1099511627776):GF prog 117 [uT t] [] (.v (.bool (!(gq t)))) []:=by
 have h:=OC _ t (aD _) hb;generalize gq t=b at *;refine aj func117 ntmps117 ?_;exact zbT
theorem Gv (l:List T) (hl:l.length<=1099511627776) (hb:∀ t∈l,aQ t<=1099511627776) :
  GF prog 178 [.sl 1 (cj l),.v (.func (.func 117) #[] #[])] [] (.v (ii (wF l))) []:=by
 have kC:=qW l;refine aj func178 ntmps178 ?_;refine GW.range (cj l).length (fun k fr Γ=>fr=[.sl 1 (cj l),.v (.func (.func 117) #[] #[]),U,U,U,U,U,.v (ii ((cj l).length:Int)),.v (ii (k:Nat)),U,U,U,U,U,U,U,U,U,U]/\Γ=[]/\(l.take k).all gq=true) ?_ X ?_ ?_ ?_
 ·exact qn
 ·exact nc
 ·rintro k _ _ ar ⟨rfl,rfl,cp⟩;rw [kC] at ar
  have gE:l[k]?=some l[k]:=by simp [ar]
  have hr:=vB gE;have cE:=LY l[k] (hb _ (List.getElem_mem ar))
  have eP:(l.take (k+1)).all gq=((l.take k).all gq&&gq l[k]):=by rw [eK,gE,List.all_append];simp
  have Lp:gq l[k]=false->wF l=(k:Int):=fun h0=>by
   have:l.findIdx? (fun t=>!(gq t))=some k:=by
    rw [List.findIdx?_eq_some_iff_getElem];refine ⟨ar,by simp [h0],fun j hj=>?_⟩;rw [fV] at cp;have:=cp l[j] ze2;simp [this]
   unfold wF;rw [this]
  generalize l[k]=t at *
  cases hk:gq t with
  | true =>
   rw [hk] at cE eP;refine ab ?_;refine kp [] cE ?_;exact zds
  | false =>
   rw [hk] at cE;rw [Lp hk];refine ab ?_;refine kp [] cE ?_;exact av
 ·rintro _ _ ⟨rfl,rfl,cp⟩;rw [kC,iZ] at cp
  have:l.findIdx? (fun t=>!(gq t))=none:=by
   rw [List.findIdx?_eq_none_iff];intro x hx;rw [fV] at cp;simp [cp x hx]
  unfold wF;rw [this];exact av
theorem OW (l:List T):decide ((0:Int)<=wF l)=!(l.all gq):=by
 unfold wF
 cases h:l.findIdx? (fun t=>!(gq t)) with
 | some i =>
  rw [List.findIdx?_eq_some_iff_getElem] at h;obtain ⟨D,I,_⟩:=h
  have:l.all gq=false:=by
   rw [List.all_eq_false];exact ⟨l[i],List.getElem_mem _,by simpa using I⟩
  rw [this];simp
 | none =>
  rw [List.findIdx?_eq_none_iff] at h
  have:l.all gq=true:=by rw [fV];intro x hx;simpa using h x hx
  rw [this];rfl
theorem uF (l:List T) (hl:l.length<=1099511627776) (hb:∀ t∈l,aQ t<=1099511627776) :
  GF prog 116 [.sl 1 (cj l),.v (.func (.func 117) #[] #[])] [] (.v (.bool (!(l.all gq)))) []:=by
 have h:=Gv l hl hb;rw [<-OW];generalize wF l=z at *;refine aj func116 ntmps116 ?_;exact zbT
end Go.Xg
set_option maxHeartbeats 2000000
namespace Go.Xg
open Go.RowKit Go.Xw Go.Proofs Tryz Go.Im
open Go.Xp (Tok T aQ aB cD)
open Go.Sp (Src)
attribute [local irreducible] GW GL GO YG GC GA bu bs
theorem Pt:Wr 80 119 cM dk :=
 ⟨fun a D I h3=>CO _ a (aD _) D I h3,fun l d D I h3=>E6 l d D I,fun l d s h=>E7 h⟩
theorem D0 (p:Src) (h:p.nodes.length > 800):GF prog 62 [.agg (aL p)] [] (.v (.bool false)) []:=by
 have hm:(p.nodes.map aO).length=p.nodes.length:=by simp
 have hd:decide ((800:Int) < ((p.nodes.map aO).length:Int))=true:=by rw [hm];simpa using by omega
 refine aj func62 ntmps62 ?_;exact ao
theorem Bz (p:Src) (h:p.nodes.length<=800) (hk:∀ n∈p.nodes,n.kids.length<=1099511627776) (hf:p.fns.length<=1099511627776) (hb:lh p.nodes p.fns 0 []=none):GF prog 62 [.agg (aL p)] [] (.v (.bool false)) []:=by
 have hm:(p.nodes.map aO).length=p.nodes.length:=by simp
 have hd:decide ((800:Int) < ((p.nodes.map aO).length:Int))=false:=by rw [hm];simpa using by omega
 have hB:=qC p X hk hf;rw [hb] at hB;unfold w9 at hB;refine aj func62 ntmps62 ?_;refine V [] hB ?_;exact ao
theorem Gq (p:Src) (l:List T) (e:Nat) (h:p.nodes.length<=800) (hk:∀ n∈p.nodes,n.kids.length<=1099511627776) (hf:p.fns.length<=1099511627776) (hb:lh p.nodes p.fns 0 []=some (l,e)) (he:e≠p.nodes.length):GF prog 62 [.agg (aL p)] [] (.v (.bool false)) []:=by
 have hm:(p.nodes.map aO).length=p.nodes.length:=by simp
 have hd:decide ((800:Int) < ((p.nodes.map aO).length:Int))=false:=by rw [hm];simpa using by omega
 have hB:=qC p X hk hf;rw [hb] at hB;unfold w9 at hB;simp only at hB;rw [show ((e:Int)==(p.nodes.length:Int))=false by simp only [beq_eq_false_iff_ne,ne_eq];omega] at hB;refine aj func62 ntmps62 ?_;refine V [] hB ?_;exact ao
theorem DZ (p:Src) (l:List T) (h:p.nodes.length<=800) (hk:∀ n∈p.nodes,n.kids.length<=1099511627776) (hf:p.fns.length<=1099511627776) (hb:lh p.nodes p.fns 0 []=some (l,p.nodes.length)) (hl:l.length<=1099511627776) (hs:∀ t∈l,aQ t<=1099511627776) (hn:l.all gq=false):GF prog 62 [.agg (aL p)] [] (.v (.bool false)) []:=by
 have hm:(p.nodes.map aO).length=p.nodes.length:=by simp
 have hd:decide ((800:Int) < ((p.nodes.map aO).length:Int))=false:=by rw [hm];simpa using by omega
 have hB:=qC p X hk hf;rw [hb] at hB;unfold w9 at hB;simp only at hB;rw [show ((p.nodes.length:Int)==(p.nodes.length:Int))=true by simp] at hB;have hC:=uF l hl hs;rw [hn] at hC;refine aj func62 ntmps62 ?_;refine V [] hB ?_;refine V [] hC ?_;exact ao
theorem Mu (st:PS) (h:st.fns.length=st.trees.length):np st.fns st.trees st.trees.length=(iU st).map br:=by
 unfold np iU;apply ext_getElem?;intro i;rw [bP,getElem?_mapIdx,getElem?_mapIdx]
 cases hx:st.fns[i]? with
 | none=>rfl
 | some x =>
  have hi:=(bh hx).1;simp only [Option.map_some];rw [ah X];rfl
def QA (st:PS):Src:=⟨st.globals,st.arrays,iU st,cD 0 st.trees⟩
theorem Mn {q:Go.Sp.RS} {st:PS} (hc:q.code=0) (h8:¬ aB st.trees > 800) (h:st.fns.length=st.trees.length):Dw q st=.tup [.agg (aL (QA st)),.v (ii 0),.v (ii 0)]:=by
 unfold Dw;rw [ah hc,ad h8,Mu st h];rfl
theorem Gr (p:Src) (l:List T) (x:ae) (ts:List Tok) (c z:Int) (h:p.nodes.length<=800) (hB:GF prog 87 [.agg (aL p)] [] (.tup [.sl 1 (cj l),.v (.bool true)]) [])
  (hC:GF prog 116 [.sl 1 (cj l),.v (.func (.func 117) #[] #[])] [] (.v (.bool false)) [])
  (hL:GF prog 88 [.agg (aL p),.sl 1 (cj l),.v (gW 80),.v (gW 119)] [] (.v (sv x)) [])
  (hX:GF prog 120 [.v (sv x)] [] (.tup [eI ts,.v (ii c),.v (ii z)]) []) (hc:(c != 0)=true) :
  GF prog 62 [.agg (aL p)] [] (.v (.bool false)) []:=by
 have hm:(p.nodes.map aO).length=p.nodes.length:=by simp
 have hd:decide ((800:Int) < ((p.nodes.map aO).length:Int))=false:=by rw [hm];simpa using by omega
 refine aj func62 ntmps62 ?_;refine V [] hB ?_;refine V [] hC ?_;refine V [] hL ?_;refine V [] hX ?_;exact ao
theorem yN (p:Src) (l:List T) (x:ae) (ts:List Tok) (c k a:Int) (h:p.nodes.length<=800) (hB:GF prog 87 [.agg (aL p)] [] (.tup [.sl 1 (cj l),.v (.bool true)]) [])
  (hC:GF prog 116 [.sl 1 (cj l),.v (.func (.func 117) #[] #[])] [] (.v (.bool false)) [])
  (hL:GF prog 88 [.agg (aL p),.sl 1 (cj l),.v (gW 80),.v (gW 119)] [] (.v (sv x)) [])
  (hX:GF prog 120 [.v (sv x)] [] (.tup [eI ts,.v (ii 0),.v (ii c)]) [])
  (hP:GF prog 86 [eI ts,.v (ii (x.length:Int))] [] (.tup [.agg [.sl 1 [],.sl 2 [],.sl 3 [],.sl 5 []],.v (ii k),.v (ii a)]) []) (hk:(k==0)=false) :
  GF prog 62 [.agg (aL p)] [] (.v (.bool false)) []:=by
 have hm:(p.nodes.map aO).length=p.nodes.length:=by simp
 have hd:decide ((800:Int) < ((p.nodes.map aO).length:Int))=false:=by rw [hm];simpa using by omega
 refine aj func62 ntmps62 ?_;refine zaB ?_;exact ao
theorem IV (p r:Src) (l:List T) (x:ae) (ts:List Tok) (c:Int) (h:p.nodes.length<=800) (hB:GF prog 87 [.agg (aL p)] [] (.tup [.sl 1 (cj l),.v (.bool true)]) [])
  (hC:GF prog 116 [.sl 1 (cj l),.v (.func (.func 117) #[] #[])] [] (.v (.bool false)) [])
  (hL:GF prog 88 [.agg (aL p),.sl 1 (cj l),.v (gW 80),.v (gW 119)] [] (.v (sv x)) [])
  (hX:GF prog 120 [.v (sv x)] [] (.tup [eI ts,.v (ii 0),.v (ii c)]) [])
   (hg:GF prog 121 [strs p.globals,strs r.globals] [] (.v (.bool false)) [])
  (hP:GF prog 86 [eI ts,.v (ii (x.length:Int))] [] (.tup [.agg (aL r),.v (ii 0),.v (ii 0)]) []) :
  GF prog 62 [.agg (aL p)] [] (.v (.bool false)) []:=by
 have hm:(p.nodes.map aO).length=p.nodes.length:=by simp
 have hd:decide ((800:Int) < ((p.nodes.map aO).length:Int))=false:=by rw [hm];simpa using by omega
 refine aj func62 ntmps62 ?_;refine zaB ?_;refine V [] hg ?_;exact ao
theorem IW (p r:Src) (l:List T) (x:ae) (ts:List Tok) (c:Int) (h:p.nodes.length<=800) (hB:GF prog 87 [.agg (aL p)] [] (.tup [.sl 1 (cj l),.v (.bool true)]) [])
  (hC:GF prog 116 [.sl 1 (cj l),.v (.func (.func 117) #[] #[])] [] (.v (.bool false)) [])
  (hL:GF prog 88 [.agg (aL p),.sl 1 (cj l),.v (gW 80),.v (gW 119)] [] (.v (sv x)) [])
  (hX:GF prog 120 [.v (sv x)] [] (.tup [eI ts,.v (ii 0),.v (ii c)]) [])
   (hg:GF prog 121 [strs p.globals,strs r.globals] [] (.v (.bool true)) [])
  (ha:GF prog 122 [(.sl 2 (p.arrays.map fun s=>bY s)),(.sl 2 (r.arrays.map fun s=>bY s))] [] (.v (.bool false)) [])
  (hP:GF prog 86 [eI ts,.v (ii (x.length:Int))] [] (.tup [.agg (aL r),.v (ii 0),.v (ii 0)]) []) :
  GF prog 62 [.agg (aL p)] [] (.v (.bool false)) []:=by
 have hm:(p.nodes.map aO).length=p.nodes.length:=by simp
 have hd:decide ((800:Int) < ((p.nodes.map aO).length:Int))=false:=by rw [hm];simpa using by omega
 refine aj func62 ntmps62 ?_;refine zaB ?_;refine V [] hg ?_;refine V [] ha ?_;exact ao
theorem IX (p r:Src) (l:List T) (x:ae) (ts:List Tok) (c:Int) (h:p.nodes.length<=800) (hB:GF prog 87 [.agg (aL p)] [] (.tup [.sl 1 (cj l),.v (.bool true)]) [])
  (hC:GF prog 116 [.sl 1 (cj l),.v (.func (.func 117) #[] #[])] [] (.v (.bool false)) [])
  (hL:GF prog 88 [.agg (aL p),.sl 1 (cj l),.v (gW 80),.v (gW 119)] [] (.v (sv x)) [])
  (hX:GF prog 120 [.v (sv x)] [] (.tup [eI ts,.v (ii 0),.v (ii c)]) [])
   (hg:GF prog 121 [strs p.globals,strs r.globals] [] (.v (.bool true)) [])
  (ha:GF prog 122 [(.sl 2 (p.arrays.map fun s=>bY s)),(.sl 2 (r.arrays.map fun s=>bY s))] [] (.v (.bool true)) [])
  (hf:GF prog 123 [.sl 3 (p.fns.map br),.sl 3 (r.fns.map br),.v (.func (.func 124) #[] #[])] [] (.v (.bool false)) [])
  (hP:GF prog 86 [eI ts,.v (ii (x.length:Int))] [] (.tup [.agg (aL r),.v (ii 0),.v (ii 0)]) []) :
  GF prog 62 [.agg (aL p)] [] (.v (.bool false)) []:=by
 have hm:(p.nodes.map aO).length=p.nodes.length:=by simp
 have hd:decide ((800:Int) < ((p.nodes.map aO).length:Int))=false:=by rw [hm];simpa using by omega
 refine aj func62 ntmps62 ?_;refine zaB ?_;refine V [] hg ?_;refine V [] ha ?_;refine V [] hf ?_;exact ao
theorem IY (p r:Src) (l:List T) (x:ae) (ts:List Tok) (c:Int) (b:Bool) (h:p.nodes.length<=800) (hB:GF prog 87 [.agg (aL p)] [] (.tup [.sl 1 (cj l),.v (.bool true)]) [])
  (hC:GF prog 116 [.sl 1 (cj l),.v (.func (.func 117) #[] #[])] [] (.v (.bool false)) [])
  (hL:GF prog 88 [.agg (aL p),.sl 1 (cj l),.v (gW 80),.v (gW 119)] [] (.v (sv x)) [])
  (hX:GF prog 120 [.v (sv x)] [] (.tup [eI ts,.v (ii 0),.v (ii c)]) [])
   (hg:GF prog 121 [strs p.globals,strs r.globals] [] (.v (.bool true)) [])
  (ha:GF prog 122 [(.sl 2 (p.arrays.map fun s=>bY s)),(.sl 2 (r.arrays.map fun s=>bY s))] [] (.v (.bool true)) [])
  (hf:GF prog 123 [.sl 3 (p.fns.map br),.sl 3 (r.fns.map br),.v (.func (.func 124) #[] #[])] [] (.v (.bool true)) [])
  (hn:GF prog 125 [.sl 5 (p.nodes.map aO),.sl 5 (r.nodes.map aO),.v (.func (.func 126) #[] #[])] [] (.v (.bool b)) [])
  (hP:GF prog 86 [eI ts,.v (ii (x.length:Int))] [] (.tup [.agg (aL r),.v (ii 0),.v (ii 0)]) []) :
  GF prog 62 [.agg (aL p)] [] (.v (.bool b)) []:=by
 have hm:(p.nodes.map aO).length=p.nodes.length:=by simp
 have hd:decide ((800:Int) < ((p.nodes.map aO).length:Int))=false:=by rw [hm];simpa using by omega
 refine aj func62 ntmps62 ?_;refine zaB ?_;refine V [] hg ?_;refine V [] ha ?_;refine V [] hf ?_;refine V [] hn ?_;exact ao
theorem D1 (p r:Src) (l:List T) (x:ae) (ts:List Tok) (c:Int) (b1 b2 b3 b4:Bool) (h:p.nodes.length<=800) (hB:GF prog 87 [.agg (aL p)] [] (.tup [.sl 1 (cj l),.v (.bool true)]) [])
  (hC:GF prog 116 [.sl 1 (cj l),.v (.func (.func 117) #[] #[])] [] (.v (.bool false)) [])
  (hL:GF prog 88 [.agg (aL p),.sl 1 (cj l),.v (gW 80),.v (gW 119)] [] (.v (sv x)) [])
  (hX:GF prog 120 [.v (sv x)] [] (.tup [eI ts,.v (ii 0),.v (ii c)]) [])
  (hg:GF prog 121 [strs p.globals,strs r.globals] [] (.v (.bool b1)) [])
  (ha:GF prog 122 [(.sl 2 (p.arrays.map fun s=>bY s)),(.sl 2 (r.arrays.map fun s=>bY s))] [] (.v (.bool b2)) [])
  (hf:GF prog 123 [.sl 3 (p.fns.map br),.sl 3 (r.fns.map br),.v (.func (.func 124) #[] #[])] [] (.v (.bool b3)) [])
  (hn:GF prog 125 [.sl 5 (p.nodes.map aO),.sl 5 (r.nodes.map aO),.v (.func (.func 126) #[] #[])] [] (.v (.bool b4)) [])
  (hP:GF prog 86 [eI ts,.v (ii (x.length:Int))] [] (.tup [.agg (aL r),.v (ii 0),.v (ii 0)]) []) :
  GF prog 62 [.agg (aL p)] [] (.v (.bool (b1&&(b2&&(b3&&b4))))) []:=by
 cases b1 with
 | false=>exact IV p r l x ts c h hB hC hL hX hg hP
 | true =>
  cases b2 with
  | false=>exact IW p r l x ts c h hB hC hL hX hg ha hP
  | true =>
   cases b3 with
   | false=>exact IX p r l x ts c h hB hC hL hX hg ha hf hP
   | true=>exact IY p r l x ts c b4 h hB hC hL hX hg ha hf hn hP
end Go.Xg
set_option maxHeartbeats 1000000
namespace Go.Xg
open Go.RowKit Go.Xw Go.Proofs Tryz Go.Im
open Go.Xp (aB cD)
open Go.Sp (Src)
attribute [local irreducible] GW GL GO YG GC GA bu bs
theorem K5 {st:PS} {f:Go.Sp.Fn} (h:f∈iU st):∃ x∈st.fns,f.params=x.2:=by
 unfold iU at h;obtain ⟨i,hi⟩:=List.getElem?_of_mem h;rw [getElem?_mapIdx] at hi
 cases hx:st.fns[i]? with
 | none=>rw [hx] at hi;cases hi
 | some x=>rw [hx] at hi;cases hi;exact ⟨x,bM hx,rfl⟩
theorem rl (p:Src) (hw:cv p<=1048576) (hn:gY p):GF prog 62 [.agg (aL p)] [] (.v (.bool (fI p))) []:=by
 obtain ⟨⟨s1,s2⟩,⟨s3,s4⟩,⟨s5,s6⟩,⟨s7,s8⟩⟩:=sI p
 have kA:∀ n∈p.nodes,n.kids.length<=1099511627776:=fun n h=>by have:=(s8 n h).2;omega
 have hB:=qC p X kA X;unfold fI
 by_cases h8:p.nodes.length > 800
 ·rw [ah h8];exact D0 p h8
 rw [ad h8]
 cases hb:lh p.nodes p.fns 0 [] with
 | none=>exact Bz p X kA X hb
 | some y =>
  obtain ⟨l,e⟩:=y;simp only
  by_cases he:e≠p.nodes.length
  ·rw [ah he];exact Gq p l e X kA X hb he
  rw [ad he]
  have he:e=p.nodes.length:=by simpa using he
  subst he;obtain ⟨l',D,I,h3,h4,h5⟩:=BO _ _ _ _ _ hb;rw [List.nil_append] at D;subst D
  have hz:aB l=p.nodes.length:=by omega
  have aan:=Rb hn I hz;have kC:=tK I hz;have ow:=dH.len h3;have dQ:=da.num hn.nodes l 0 I
  by_cases hk:l.all gq=false
  ·rw [ah hk];exact DZ p l X kA X hb X (fun t ht=>by have:=(kC t ht).2;omega) hk
  rw [ad hk]
  have hk:l.all gq=true:=by simpa using hk
  obtain ⟨ts,c,z,q,st,hr⟩:=reads (jJ cM dk p l);rw [zX hr];rw [hb] at hB;unfold w9 at hB;simp only at hB;rw [show ((p.nodes.length:Int)==(p.nodes.length:Int))=true by simp] at hB;have hC:=uF l X (fun t ht=>by have:=(kC t ht).2;omega);rw [hk] at hC;have hL:=zR 80 119 cM dk Pt p l X X X X X hn.arrays (fun f h=>by have:=(s6 f h).2.1;omega)
   (fun t ht=>⟨fV.1 hk t ht,eC dQ ht,by have:=(kC t ht).1;omega,by have:=(kC t ht).2;omega⟩)
  have hX:=Fo _ _ ts c z X hr.lex;have aaE:=hr.len;have hP:=zm ts (((jJ cM dk p l).length:Nat):Int) q st X X (fun h=>by have:=(hr.ok h).2;omega) hr.read;have iy:=LS _ _ _ _ _ _ (aD _) hr.read ⟨aY _,aY _,aY _,fun x h=>by cases h⟩;have ei:=hr.ok;clear hr hb;generalize hxg:jJ cM dk p l=x at *
  by_cases hc:c≠0
  ·rw [ah hc];exact Gr p l x ts c z X hB hC hL hX zfu
  rw [ad hc]
  have hc:c=0:=by simpa using hc
  subst hc
  by_cases hq:q.code≠0
  ·rw [ah hq];unfold Dw at hP;rw [ad hq] at hP;exact yN p l x ts z q.code q.at_ X hB hC hL hX hP (by simpa using hq)
  rw [ad hq]
  have hq:q.code=0:=by simpa using hq
  obtain ⟨wZ,Wv⟩:=ei hq
  by_cases h9:aB st.trees > 800
  ·rw [ah h9];unfold Dw at hP;rw [ah hq,ah h9] at hP;exact yN p l x ts z 10 0 X hB hC hL hX hP aE
  rw [ad h9];rw [Mn hq h9 wZ.len] at hP;obtain ⟨m1,m2,m3,m4⟩:=iy
  have pE:(cD 0 st.trees).length<=800:=by rw [Go.Xp.mV];omega
  unfold same;refine D1 p (QA st) l x ts z _ _ _ _ X hB hC hL hX ?_ ?_ ?_ ?_ hP
  ·exact G7 _ _ X (by show st.globals.length<=_;omega)
  ·exact QI _ _ X (by show st.arrays.length<=_;omega)
  ·refine Gn p.fns (iU st) X ?_ (fun f h=>by have:=(s6 f h).2.1;omega) (fun f h=>?_)
   ·unfold iU;rw [List.length_mapIdx];omega
   ·obtain ⟨y,hy,h6⟩:=K5 h;rw [h6];have:=m4 y hy;omega
  ·exact Gp p.nodes (cD 0 st.trees) X X kA (fun n h=>by have:=zE st.trees 0 n h;omega)
end Go.Xg
set_option maxHeartbeats 4000000
namespace Go.Xg
open Go.RowKit Go.Xw Go.Proofs Tryz Go.Im
open GV (U)
open Go.Xp (Nd T aQ aB jK fQ cD mV bj wo yg)
theorem Bf:∀ (aaJ A Δ:List Ob),aaJ.length<=Δ.length->eD (A++aaJ) (List.range' A.length aaJ.length) Δ=A++Δ
 | [],A,Δ,h=>by
  show eD (A++[]) [] Δ=_;rw [eD,fk]
 | x::aaJ,A,[],h=>by simp at h
 | x::aaJ,A,y::Δ,h=>by
  rw [length_cons,List.range'_succ,eD]
  have e:oset (A++x::aaJ) A.length y=(A++[y])++aaJ:=by rw [zW];simp
  have:=Bf aaJ (A++[y]) Δ zeO;rw [aJ,List.length_singleton] at this;rw [e,this];simp
section
variable {P:Program} {m:Nat} {Q:dL} {fr:List GV} {Γ:List Ob} {ops:Array Oper} {rest:List Oper} {d:Option Tmp} {op:Op} {ty:TypeId} {pos:String} {af:Array Edge}
theorem GL.QS {f:FuncId} [hf:ba P f] (A aaJ:List Ob) {args:List Operand} {qm:Array TypeId} {gs:List GV} {R:GV->List Ob->Prop} (hc:GC P f gs aaJ R) (bO:Γ=A++aaJ) (hX:∀ x∈aaJ,x.AW=true) (Te:∀ r,Go.Xg.l9 r gs=gs) (ha:lf (args.map (bg fr)) gs)
  (h:∀ g Δ,R g Δ->aaJ.length<=Δ.length/\(∀ x∈Δ,x.AW=true)/\(∀ r,dU r g=g)/\GL P m ops Q rest (bK fr d g) (A++Δ)) :
  GL P m ops Q (⟨d,.call ⟨.value (.func f),args.toArray,qm⟩,ty,pos,af,none⟩::rest) fr Γ:=by
 subst bO
 refine GL.I9 (List.range' A.length aaJ.length) hc (by rw [Te];exact ha) (GZ _ _ _ (by simp only [aJ];omega)) ?_ fun g Δ hr=>?_
 ·have:=Be (ct (List.range' A.length aaJ.length) (A++aaJ).length) aaJ A [] hX;rw [fk] at this;exact this
 obtain ⟨D,I,h3,h4⟩:=h g Δ hr;refine ⟨by rw [List.length_range'];exact D,?_⟩;rw [Rm I,Bf _ _ _ D,h3];exact h4
end
def cx (aP:List Nd) (h:Value) (ns:List Value):List Ob:=.vech 78 5 (List.zipWith dn aP ns) h::List.zipWith iu aP ns
structure oH (aP:List Nd) (h:Value) (ns:List Value):Prop where
 head:∃ a c,h=.slice a aP.length c
 len:ns.length=aP.length
 kid:∀ (i:Nat) x y,aP[i]?=some x->ns[i]?=some y->Hd x.kids.length y
theorem wE {aP:List Nd} {h:Value} {ns:List Value}:∀ x∈cx aP h ns,x.AW=true:=fun x hx=>by
 rcases ew hx with rfl | hx
 ·rfl
 ·exact Gm (fun _ _=>rfl) x hx
theorem sn {aP:List Nd} {h:Value} {ns:List Value} (H:oH aP h ns):(cx aP h ns).length=aP.length+1:=by
 unfold cx;rw [length_cons,rj,H.len,Nat.min_self]
def dX (x:Nd) (ks:List Int):Nd:=⟨x.kind,x.at_,x.n,x.s,ks⟩
theorem oH.snoc {aP:List Nd} {h:Value} {ns:List Value} (H:oH aP h ns) (x:Nd) {a b:Option Addr} {c d:Nat}:oH (aP++[x]) (.slice a (aP.length+1) c) (ns++[.slice b x.kids.length d]):=by
 refine ⟨⟨a,c,by simp⟩,by simp [H.len],fun i y v D I=>?_⟩;have hl:=H.len
 rcases Nat.lt_or_ge i aP.length with hi | hi
 ·rw [il hi] at D;rw [il X] at I;exact H.kid i y v D I
 ·rw [jO hi] at D;rw [jO X,hl] at I
  cases hk:i - aP.length with
  | zero =>
   rw [hk] at D I
   cases D;cases I
   exact zaL
  | succ k=>rw [hk] at D;simp at D
theorem GX {aP:List Nd} {ns:List Value} (hl:ns.length=aP.length) (x:Nd) (y h:Value):cx (aP++[x]) h (ns++[y])=.vech 78 5 (List.zipWith dn aP ns++[dn x y]) h::(List.zipWith iu aP ns++[iu x y]):=by
 unfold cx;rw [List.zipWith_append hl.symm,List.zipWith_append hl.symm];rfl
theorem oH.put {aP:List Nd} {h:Value} {ns:List Value} (H:oH aP h ns) {i:Nat} {x:Nd} (hx:aP[i]?=some x) (ks:List Int) {b:Option Addr} {d n:Nat} (hn:n=ks.length):oH (aP.set i (dX x ks)) h (ns.set i (.slice b n d)):=by
 subst hn;obtain ⟨a,c,e⟩:=H.head;refine ⟨⟨a,c,by rw [e,length_set]⟩,by simp [H.len],fun j y v D I=>?_⟩;rw [fq] at D I
 by_cases fA:i=j
 ·rw [ah fA] at D I;split at D
  ·cases D;split at I
   ·cases I;exact zaL
   ·cases I
  ·cases D
 ·rw [ad fA] at D I;exact H.kid j y v D I
theorem xN:∀ {aP:List Nd} {ns:List Value} {i:Nat} {x:Nd} (ks:List Int) (y:Value),ns.length=aP.length->aP[i]?=some x->fM (List.zipWith dn aP ns) i 4 (.v y)=List.zipWith dn (aP.set i (dX x ks)) (ns.set i y)
 | [],ns,i,x,ks,y,hl,h=>by simp at h
 | n::aP,[],i,x,ks,y,hl,h=>by simp at hl
 | n::aP,v::ns,0,x,ks,y,hl,h=>by cases h;rfl
 | n::aP,v::ns,i+1,x,ks,y,hl,h=>by
  have:=xN (aP:=aP) (ns:=ns) (i:=i) (x:=x) ks y zeQ zeO;rw [List.zipWith_cons_cons,fM,this];rfl
theorem xJ:∀ {aP:List Nd} {ns:List Value} {i:Nat} {x:Nd} (ks:List Int) (y:Value),ns.length=aP.length->aP[i]?=some x->oset (List.zipWith iu aP ns) i (.vech 3 1 (lZ ks) y)=List.zipWith iu (aP.set i (dX x ks)) (ns.set i y)
 | [],ns,i,x,ks,y,hl,h=>by simp at h
 | n::aP,[],i,x,ks,y,hl,h=>by simp at hl
 | n::aP,v::ns,0,x,ks,y,hl,h=>by cases h;rfl
 | n::aP,v::ns,i+1,x,ks,y,hl,h=>by
  have:=xJ (aP:=aP) (ns:=ns) (i:=i) (x:=x) ks y zeQ zeO;rw [List.zipWith_cons_cons,oset,this];rfl
def ji (aP:List Nd) (n:Nd) (l:List T) (k:Nat):List Nd:=aP++dX n (bj (aP.length+1) (l.take k))::cD (aP.length+1) (l.take k)
theorem Fv {aP:List Nd} {n:Nd} {l:List T} {k:Nat}:(ji aP n l k).length=aP.length+1+aB (l.take k):=by
 unfold ji;rw [aJ,length_cons,mV];omega
theorem Rn {aP:List Nd} {n:Nd} {l:List T} {k:Nat}:(ji aP n l k)[aP.length]?=some (dX n (bj (aP.length+1) (l.take k))):=by
 unfold ji;rw [jO (aD _),wR];rfl
theorem Mc {aP:List Nd} {n:Nd} {l:List T} {k:Nat} {u:T} (h:l[k]?=some u) :
  (ji aP n l k).set aP.length (dX (dX n (bj (aP.length+1) (l.take k))) (bj (aP.length+1) (l.take k)++[(((ji aP n l k).length:Nat):Int)]))++fQ (ji aP n l k).length u=ji aP n l (k+1):=by
 have kB:l.take (k+1)=l.take k++[u]:=by rw [eK,h];rfl
 rw [Fv];unfold ji;rw [List.set_append_right _ _ (aD _),wR,List.set_cons_zero,kB,wo,yg];simp only [bj,cD,fk,dX,fF,List.cons_append]
theorem OV {aP:List Nd} {n:Nd} {l:List T}:ji aP n l l.length=aP++fQ aP.length (.mk n l):=by
 unfold ji dX;rw [iZ,fQ]
attribute [local irreducible] GW GL GO YG GC GA bu bs
theorem OH:∀ (N:Nat) (t:T),aQ t<=N->∀ (aP:List Nd) (h:Value) (ns:List Value),oH aP h ns->aP.length+aQ t<=8388608 ->
  GC prog 218 [.v h,.agg (cT t)] (cx aP h ns) fun g Δ=>∃ h' mT,oH (aP++fQ aP.length t) h' mT/\g=.v h'/\Δ=cx (aP++fQ aP.length t) h' mT:=by
 intro N
 induction N with
 | zero=>intro t h;have:=iQ t;omega
 | succ N ih =>
 intro t hN aP h ns H hb
 cases t with
 | mk n l =>
 rw [Go.Xp.aQ] at hN hb;have ow:=jK l;have jc:(bb l).length=l.length:=bc l;have qv:=sn H;have Db:=H.len;obtain ⟨a0,c0,rfl⟩:=H.head
 have iF:(List.zipWith dn aP ns).length=aP.length:=by rw [rj];omega
 have YO:(List.zipWith iu aP ns).length=aP.length:=by rw [rj];omega
 have YN:∀ q,qy q (List.zipWith iu aP ns)=true:=fun q=>Ih (Gm (fun _ _=>rfl))
 have LF:=fun (y h:Value)=>GX Db (dX n []) y h
 have YH:=fun (a:Option Addr) (c:Nat)=>H.snoc (dX n []) (a:=a) (c:=c) (b:=none) (d:=0)
 refine fD func218 ntmps218 ?_;rw [qv];unfold cx;generalize List.zipWith dn aP ns=R at *;generalize List.zipWith iu aP ns=O at *;refine GW.seq ?_;refine GW.region ?_;refine GL.W2 rfl rfl ?_;refine om ?_;refine IL ?_;refine GL.XX rfl rfl rfl rfl rfl rfl ?_;refine om ?_
 have hq:∀ x:Ob,(x::O).length=O.length+1:=fun x=>rfl
 simp only [hq,List.cons_append]
 have Wc:∀ x y:Ob,(x::(O++[y]))[O.length+1]?=some y:=fun x y=>R7 (x::O) [] y
 have Zo:∀ x y z:Ob,oset (x::(O++[y])) (O.length+1) z=x::(O++[z]):=fun x y z=>zW (x::O) [] y z
 refine ab ?_;refine GL.st rfl (Wc _ _) rfl rfl rfl rfl ?_;refine r6 sq (Zo _ _ _) ?_;refine ab ?_;refine GL.q (YG.OM rfl (Wc _ _) rfl rfl) ?_;refine om ?_;refine GL.qe 0 rfl rfl rfl rfl rfl rfl rfl rfl iF tL ?_;intro a1 c1;refine zcW ?_;refine GW.range (bb l).length (fun k fr Γ=>∃ h' mT,fr=[.v h',U,U,.box (cT (.mk n l)) 0,U,.v (ii (aP.length:Nat)),U,U,U,U,U,U,U,U,U,U,U,U,U,.sl 6 (bb l),.v (ii ((bb l).length:Int)),.v (ii (k:Nat)),U,U,U,U,U,U,U,U,U,U,U,U,U,U,U,U,U,U,U,U,U]/\oH (ji aP n l k) h' mT/\Γ=cx (ji aP n l k) h' mT) ?_ X ?_ ?_ ?_
 ·have e0:ji aP n l 0=aP++[dX n []]:=by unfold ji;rw [List.take_zero];rfl
  rw [e0];refine ⟨_,_,((Wk.QX (A:=_::O) rfl (by rw [length_cons,YO];exact aD _) (fun q=>by simp only [qy,YN];rfl)).trans (Wk.oD 3 1)).trans (Wk.aX aw),_,ns++[.slice none 0 0],rfl,YH a1 c1,?_⟩;rw [LF];rfl
 ·rintro k _ _ ⟨h',mT,rfl,_,rfl⟩;exact gU
 ·rintro k _ _ ar ⟨h',mT,rfl,HM,rfl⟩;rw [jc] at ar;obtain ⟨u,hu⟩:∃ u,l[k]?=some u:=⟨l[k],by simp [ar]⟩;have hr:=cJ hu;have fJ:=Ph hu;have hMl:=Fv (aP:=aP) (n:=n) (l:=l) (k:=k);have HC:=Rn (aP:=aP) (n:=n) (l:=l) (k:=k);have YM:=Mc (aP:=aP) (n:=n) hu;rw [<-YM];obtain ⟨a2,c2,rfl⟩:=HM.head;have Tn:=HM.len;obtain ⟨y,hy⟩:∃ y,mT[aP.length]?=some y:=⟨mT[aP.length]'X,ec _⟩;obtain ⟨a3,c3,rfl⟩:=HM.kid _ _ _ HC hy
  have iK:=fun (a:Option Addr) (c:Nat)=>HM.put HC (bj (aP.length+1) (l.take k)++[(((ji aP n l k).length:Nat):Int)]) (b:=a) (d:=c) (n:=(bj (aP.length+1) (l.take k)).length+1) zeL
  have Tw:=fun (y:Value)=>xN (bj (aP.length+1) (l.take k)++[(((ji aP n l k).length:Nat):Int)]) y Tn HC
  have ei:=fun (y:Value)=>xJ (bj (aP.length+1) (l.take k)++[(((ji aP n l k).length:Nat):Int)]) y Tn HC
  have bn:(List.zipWith dn (ji aP n l k) mT)[aP.length]?=some (dn (dX n (bj (aP.length+1) (l.take k))) (.slice a3 (bj (aP.length+1) (l.take k)).length c3)):=by rw [List.getElem?_zipWith,HC,hy];rfl
  have gy:(List.zipWith iu (ji aP n l k) mT)[aP.length]?=some (.vech 3 1 (lZ (bj (aP.length+1) (l.take k))) (.slice a3 (bj (aP.length+1) (l.take k)).length c3)):=by rw [List.getElem?_zipWith,HC,hy];rfl
  have P0:aP.length < (List.zipWith dn (ji aP n l k) mT).length:=by rw [rj];omega
  have kA:(lZ (bj (aP.length+1) (l.take k))).length=(bj (aP.length+1) (l.take k)).length:=by simp [lZ]
  have lB:lZ (bj (aP.length+1) (l.take k)++[(((ji aP n l k).length:Nat):Int)])=lZ (bj (aP.length+1) (l.take k))++[[.v (ii ((ji aP n l k).length:Nat))]]:=by simp [lZ]
  have pG:(bj (aP.length+1) (l.take k)).length<=8388608:=by
   rw [Go.Xp.my,lH];omega
  rw [lB] at ei
  have xo:=fun (h:Value) (FA:List Value) H2=>ih u X ((ji aP n l k).set aP.length (dX (dX n (bj (aP.length+1) (l.take k))) (bj (aP.length+1) (l.take k)++[(((ji aP n l k).length:Nat):Int)]))) h FA H2 (by rw [length_set];omega)
  rw [length_set] at xo;unfold cx;generalize Lw:bj (aP.length+1) (l.take k)=ks at *;generalize hM:ji aP n l k=M at *;generalize hM2:M.set aP.length (dX (dX n ks) (ks++[((M.length:Nat):Int)]))=M2 at *
  have Jl:∀ x:Ob,(x::List.zipWith iu M mT)[aP.length+1]?=some (.vech 3 1 (lZ ks) (.slice a3 ks.length c3)):=fun x=>gy
  generalize List.zipWith iu M mT=O2 at *;generalize List.zipWith dn M mT=R2 at *;unfold dn dX at bn;refine IL ?_;refine GL.XY rfl rfl rfl rfl rfl rfl rfl ?_;refine om ?_;refine ab ?_;refine GL.qe (aP.length+1) rfl rfl rfl rfl rfl rfl rfl (Jl _) kA tL ?_;intro a4 c4;refine r6 sq (by simp only [oset];rw [ei]) ?_;refine ab ?_;refine Gh ?_;simp only [eo];rw [Tw];have H2:=iK a4 c4;have kP:=sn H2;refine ab ?_;refine GL.QS [] (cx M2 (.slice a2 M.length c2) (mT.set aP.length (.slice a4 (ks.length+1) c4))) (xo _ _ H2) rfl wE (fun _=>rfl) (um) ?_;rintro _ _ ⟨h5,ZR,H5,rfl,rfl⟩;have We:=sn H5;rw [aJ] at We;refine ⟨by rw [kP,We];omega,wE,fun _=>rfl,?_⟩;rw [List.nil_append];refine om ?_;refine ab ?_;exact ⟨rfl,rfl,_,_,Wk.aX aw,h5,ZR,rfl,H5,rfl⟩
 ·rintro _ _ ⟨h',mT,rfl,HM,rfl⟩;rw [jc] at HM |-;rw [OV] at HM |-;have Xy:=sn HM;refine bo ?_;unfold cx;refine ab ?_;refine CR ?_;refine BW (n:=(cx (aP++fQ aP.length (.mk n l)) h' mT).length) rfl ik rfl (by rw [Xy,aJ];omega) ?_ rfl ?_
  ·show tz _ (List.take _ (cx _ _ _))=true;rw [iZ];exact Ih wE
  ·show ∃ I FA,_/\_/\List.take _ (cx _ _ _)=_;rw [iZ];exact ⟨h',mT,HM,rfl,rfl⟩
end Go.Xg
set_option maxHeartbeats 2000000
namespace Go.Xg
open Go.RowKit Go.Xw Go.Proofs Go.Im
def MT (l:List Value) (i:Nat):Value:=(l[i]?).getD undef
end Go.Xg
