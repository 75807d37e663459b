/- Part 11 of proofs that are told in their last texts. -/
import Derived.Test.YtfahcenafcklmaaGreatDoorZ10
import Derived.Test.YtfahcenafcklmaaGreatDoorZ1
import Derived.Test.YtfahcenafcklmaaGreatDoorZ5
import Derived.Deep.Slices
import Derived.Deep.Fields
import Derived.ChangeSame
import Derived.Lib.SmallJoins
import Derived.SliceStrings
import Derived.ChangeSlices
import Derived.Lib.LaidU8
import Derived.Shelf.Vars
import Derived.Laws.Bits128
import Derived.Lib.AppendStr
open List (flatten_cons length_cons mem_cons_self)
set_option linter.unusedVariables false
set_option linter.unusedSimpArgs false
set_option maxRecDepth 100000
set_option maxHeartbeats 1000000
namespace Go.Xg
open Go.RowKit Go.Xw Go.Proofs Tryz Go.Sp
open GV (U)
open Go.Xp (T)
attribute [local irreducible] GW GL GO YG GC GA bu bs
theorem Rq {f:Nat} (C:D7 f) (a:Int) (s:ae) (d:Nat) (p:RS) (t:T) (q:RS) (hp:p.ok) (hd:d+(f+1)<=4611686018427387904) (h:mE (f+1) (.named a s d) p=some (t,q)) :
  GF prog 311 [.loc 0 0,.v (ii a),.v (sv s),.v (ii (d:Nat))] [bJ p] (.agg (cT t)) [bJ q]:=by
 rw [mE] at h
 by_cases D:p.sign 0=[91]
 ·rw [ah D] at h
  have cY:(p.sign 0==[91])=true:=by simp [D]
  have ar:=(cW D aE).1;have dv:=hp.2;have dr:=(db D aE).ok hp
  cases he:mE f (.expr (d+1)) p.next with
  | none=>exact zaQ
  | some r =>
   obtain ⟨b,p1⟩:=r;rw [he] at h;cases h;have jY:=((rb f).1 _ _ _ _ dr he).ok dr;refine aj func311 ntmps311 ?_;refine V [0] (cO p 0 hp aE) ?_;refine V [0] (C.expr (d+1) p.next b p1 dr X he) ?_;refine V [0] (cw p1 [93] jY aE) ?_;refine zaj ?_;refine V [] (gA 3 a s [b] _ oh) ?_;exact eJ
 ·rw [ad D] at h
  have cY:(p.sign 0==[91])=false:=by simpa using D
  by_cases I:p.sign 0=[40]
  ·rw [ah I] at h
   have qt:(p.sign 0==[40])=true:=by simp [I]
   have ar:=(cW I aE).1;have dv:=hp.2;have dr:=(db I aE).ok hp
   cases he:mL f (d+1) p.next with
   | none=>exact zaQ
   | some r =>
    obtain ⟨l,p1⟩:=r;rw [he] at h;cases h;refine aj func311 ntmps311 ?_;refine V [0] (cO p 0 hp aE) ?_;refine V [0] (C.list (d+1) p.next l q dr X he) ?_;refine V [] (gA 4 a s l _ rfl) ?_;exact eJ
  ·rw [ad I] at h
   have qt:(p.sign 0==[40])=false:=by simpa using I
   cases h;refine aj func311 ntmps311 ?_;refine V [0] (cO p 0 hp aE) ?_;refine V [] (gA 2 a s [] [] rfl) ?_;exact eJ
theorem bc (l:List T):(bb l).length=l.length:=by
 induction l with
 | nil=>rfl
 | cons a l ih=>simp [bb,ih]
theorem xc (l:List T) (a:T):bb (l++[a])=bb l++[cT a]:=by
 induction l with
 | nil=>simp [bb,uP]
 | cons b l ih=>simp [bb,ih]
theorem TT {f:Nat} (C:∀ f',f'<=f->D7 f') (d:Nat) (p:RS) (l:List T) (q:RS) (hp:p.ok) (hd:d+(f+1)<=4611686018427387904) (h:mL (f+1) d p=some (l,q)) :
  GF prog 315 [.loc 0 0,.v (ii (d:Nat))] [bJ p] (.sl 6 (bb l)) [bJ q]:=by
 rw [mL] at h
 by_cases D:p.sign 0=[41]
 ·rw [ah D] at h
  have cY:(!(p.sign 0==[41]))=false:=by simp [D]
  cases h;refine aj func315 ntmps315 ?_;refine rM ?_;refine zbP ?_;refine V [0] (cw p [41] hp aE) ?_;refine GW.wk (Wk.kG (t:=4) rfl rfl rfl rfl) ?_;exact ao
 ·rw [ad D] at h
  have cY:(!(p.sign 0==[41]))=true:=by simpa using D
  cases he:mE f (.expr d) p with
  | none=>exact zaQ
  | some r =>
   obtain ⟨a,p1⟩:=r;rw [he] at h;simp only at h;have jY:=((rb f).1 _ _ _ _ hp he).ok hp;refine aj func315 ntmps315 ?_;refine rM ?_;refine zbP ?_;refine V [0] ((C f (aD _)).expr d p a p1 hp X he) ?_;refine zdI ?_;refine GW.loop (fun x:Nat × List T × RS=>x.1) (fun x fr Γ=>∃ n rows,fr=[.loc 0 0,.v (ii (d:Nat)),U,U,U,.vec 1 n,U,U,U,U,U,U,U,U,U,U,U,U,U,U,U,U,U,U,U,U,U,U,U,U,U,U,U,U,U]/\Γ=[bJ x.2.2,.vec 86 6 0 rows]/\rows.length=n/\rows=bb x.2.1/\n<=x.2.2.i+1/\x.2.2.ok/\x.1<=f/\pK x.1 d x.2.1 x.2.2=some (l,q)) (f,[a],p1) ?_ ?_
   ·exact ⟨_,_,Wk.aX aw,_,_,rfl,rfl,rfl,(by simp only [bb,uP];rfl),(by show 1<=p1.i+1;omega),jY,aD _,h⟩
   ·rintro ⟨g,acc,p⟩ _ _ ⟨n,rows,rfl,rfl,hn,bn,HL,hp,Ls,h⟩;simp only at bn HL hp Ls h
    cases g with
    | zero=>simp [pK] at h
    | succ g =>
    rw [pK] at h;have dv:=hp.2;have Dd:=hp.1
    by_cases I:p.sign 0=[44]
    ·rw [ah I] at h
     have qt:(p.sign 0==[44])=true:=by simp [I]
     have ar:=(cW I aE).1;have dr:=(db I aE).ok hp
     cases hb:mE g (.expr d) p.next with
     | none=>exact zaS
     | some r =>
      obtain ⟨b,p2⟩:=r;rw [hb] at h;simp only at h;have Qb:=(rb g).1 _ _ _ _ dr hb;have dR:=Qb.ok dr;have nF:p.i+1<=p2.i:=Qb.2.2.2;refine zbP ?_;refine V [0] ((C g X).expr d p.next b p2 dr X hb) ?_;refine zdI ?_;exact ⟨(g,acc++[b],p2),⟨_,_,Wk.aX aw,_,_,rfl,rfl,by simp [hn],by rw [xc,bn],by simp only;omega,dR,by simp only;omega,h⟩,by simp⟩
    ·rw [ad I] at h
     have qt:(p.sign 0==[44])=false:=by simpa using I
     obtain ⟨rfl,rfl⟩:acc=l/\p.aI [41]=q:=by simpa using h
     subst bn;refine zbP ?_;refine zep ?_;refine V [0] (cw p [41] hp aE) ?_;refine GW.wk (Wk.kG (t:=4) rfl rfl rfl hn) ?_;exact ao
theorem Mj {f:Nat} (C:D7 f) (d:Nat) (p:RS) (t:T) (q:RS) (hp:p.ok) (hd:d+(f+1)<=4611686018427387904) (h:mE (f+1) (.operand d) p=some (t,q)) :
  GF prog 308 [.loc 0 0,.v (ii (d:Nat))] [bJ p] (.agg (cT t)) [bJ q]:=by
 rw [mE] at h;have lY:=(fX hp d).ok hp;have we:=ue p d hp;generalize p.deep d=p1 at *
 try simp only at h
 obtain ⟨Dd,dv⟩:=id lY
 by_cases hc:p1.code=0
 ·rw [ah hc] at h
  have de:(p1.code != 0)=false:=by simpa using hc
  cases ht:p1.l[p1.i]? with
  | none =>
   rw [ht] at h;cases h;have hO:p1.l.length<=p1.i:=nZ ht
   have Xq:decide (((p1.l.map cH).length:Int)<=(p1.i:Int))=true:=by simp;omega
   exact zbe
  | some tk =>
   rw [ht] at h;simp only at h;have ar:p1.i < p1.l.length:=(bh ht).1
   have Xq:decide (((p1.l.map cH).length:Int)<=(p1.i:Int))=false:=by simp;omega
   have hr:=jS ht;have dr:=(cl ar).ok lY;refine aj func308 ntmps308 ?_;refine V [0] we ?_;refine aS (aC 0 17 .nil) ?_;refine bF ?_;refine zci ?_
   by_cases k1:tk.kind=1
   ·rw [ah k1] at h;cases h
    have ZF:(tk.kind==1)=true:=by simpa using k1
    refine ab ?_;refine qY ?_;exact zaK
   ·rw [ad k1] at h
    have ZF:(tk.kind==1)=false:=by simpa using k1
    by_cases k2:tk.kind=2
    ·rw [ah k2] at h
     have ZH:(tk.kind==2)=true:=by simpa using k2
     refine ab ?_;refine V [0] (nK p1 lY) ?_;refine V [0] (C.named tk.at_ p1.name.1 d p1.name.2 t q ((dY lY).ok lY) X h) ?_;exact eJ
    ·rw [ad k2] at h
     have ZH:(tk.kind==2)=false:=by simpa using k2
     by_cases s3:tk.s=[45]\/tk.s=[33]\/tk.s=[126]
     ·rw [ah s3] at h
      cases he:mE f (.operand (d+1)) p1.next with
      | none=>exact zaQ
      | some r =>
       obtain ⟨a,p2⟩:=r;rw [he] at h;cases h
       have ZT:(tk.s==[45])=true\/((tk.s==[45])=false/\(tk.s==[33])=true)\/((tk.s==[45])=false/\(tk.s==[33])=false/\(tk.s==[126])=true):=by
        rcases s3 with s3 | s3 | s3
        ·exact .inl (by simp [s3])
        ·exact .inr (.inl (by simp [s3]))
        ·exact .inr (.inr (by simp [s3]))
       refine ab ?_
       rcases ZT with e1 | ⟨e1,e2⟩ | ⟨e1,e2,e3⟩
       all_goals
        refine ab ?_;refine aS (aC 0 7 (.a 7 (.a 8 (.a 9 (.a 10 .nil))))) ?_;refine aq ?_;refine ax [0] (C.operand (d+1) p1.next a q dr X he) ?_;refine zaN ?_;refine lx [] (gA 5 tk.at_ tk.s [a] _ oh) ?_;refine Ge ?_;refine aq ?_;exact ph
     ·rw [ad s3] at h
      have e1:(tk.s==[45])=false:=by simp at s3;simpa using s3.1
      have e2:(tk.s==[33])=false:=by simp at s3;simpa using s3.2.1
      have e3:(tk.s==[126])=false:=by simp at s3;simpa using s3.2.2
      by_cases s4:tk.s=[40]
      ·rw [ah s4] at h
       have ZU:(tk.s==[40])=true:=by simp [s4]
       cases he:mE f (.expr (d+1)) p1.next with
       | none=>exact zaQ
       | some r =>
        obtain ⟨a,p2⟩:=r;rw [he] at h;cases h;have dR:=((rb f).1 _ _ _ _ dr he).ok dr;refine ab ?_;refine V [0] (C.expr (d+1) p1.next t p2 dr X he) ?_;refine V [0] (cw p2 [41] dR aE) ?_;exact eJ
      ·rw [ad s4] at h
       have ZU:(tk.s==[40])=false:=by simpa using s4
       cases h;refine ab ?_;refine V [0] (jh p1 7 tk.at_) ?_;refine qY ?_;exact zaK
 ·rw [ad hc] at h
  have de:(p1.code != 0)=true:=by simpa using hc
  cases h;exact zbe
theorem ZS (f:Nat):D7 f:=by
  induction f using Nat.strongRecOn with
  | _ f ih =>
   cases f with
   | zero=>exact ⟨fun d p t q _ _ h=>by simp [mE] at h,fun k d p t q _ _ _ h=>by simp [mE] at h,fun d p t q _ _ h=>by simp [mE] at h,fun a s d p t q _ _ h=>by simp [mE] at h,fun d p l q _ _ h=>by simp [mL] at h⟩
   | succ f =>
    have C:=ih f (Nat.lt_succ_self f)
    have Cs:∀ f',f'<=f->D7 f':=fun f' h=>ih f' (Nat.lt_succ_of_le h)
    exact ⟨fun d p t q hp hd h=>Sm C d p t q hp hd h,fun k d p t q hp hk hd h=>Rj Cs k d p t q hp hk hd h,fun d p t q hp hd h=>Mj C d p t q hp hd h,fun a s d p t q hp hd h=>Rq C a s d p t q hp hd h,fun d p l q hp hd h=>TT Cs d p l q hp hd h⟩
open Go.Xp (one gF)
structure Kp (f:Nat):Prop where
 block:∀ d p t q,p.ok->d+f<=1099511627776->mS f (.block d) p=some (t,q)->GF prog 196 [.loc 0 0,.v (ii (d:Nat))] [bJ p] (.agg (cT t)) [bJ q]
 stmt:∀ d p t q,p.ok->d+f<=1099511627776->mS f (.stmt d) p=some (t,q)->GF prog 254 [.loc 0 0,.v (ii (d:Nat))] [bJ p] (.agg (cT t)) [bJ q]
 cond:∀ a d p t q,p.ok->p.i < p.l.length->d+f<=1099511627776->mS f (.cond a d) p=some (t,q)->GF prog 290 [.loc 0 0,.v (ii a),.v (ii (d:Nat))] [bJ p] (.agg (cT t)) [bJ q]
theorem xG (d:Nat) (p:RS) (t:T) (q:RS) (hp:p.ok) (hd:d<=1099511627777) (h:mX d p=some (t,q)):GF prog 289 [.loc 0 0,.v (ii (d:Nat))] [bJ p] (.agg (cT t)) [bJ q] :=
 (ZS (fe p)).expr d p t q hp (by have:=hp.2;unfold fe;omega) h
theorem Jz (k a:Int) (s:ae):GF prog 253 [.v (ii k),.v (ii a),.v (sv s),.v (.slice none 0 0)] [] (.agg [.v (ii k),.v (ii a),.v (ii 0),.v (sv s),ints [],.v (.slice none 0 0)]) []:=by
 refine aj func253 ntmps253 ?_;refine qY ?_;exact zaK
theorem QQ {f:Nat} (C:∀ f',f'<=f->Kp f') (d:Nat) (p:RS) (t:T) (q:RS) (hp:p.ok) (hd:d+(f+1)<=1099511627776) (h:mS (f+1) (.block d) p=some (t,q)) :
  GF prog 196 [.loc 0 0,.v (ii (d:Nat))] [bJ p] (.agg (cT t)) [bJ q]:=by
 rw [mS] at h;have lY:=(fX hp d).ok hp;have we:=ue p d hp;generalize p.deep d=p1 at *
 try simp only at h
 have xw:=(bq lY (s:=[123]) aE).ok lY
 cases he:mB f (d+1) [] (p1.aI [123]) with
 | none=>exact zaQ
 | some r =>
  obtain ⟨l,q1⟩:=r;rw [he] at h;cases h;generalize dv:p1.place=pl;refine aj func196 ntmps196 ?_;refine V [0] we ?_;refine V [0] (iX p1 lY) ?_;refine V [] (Jz 14 p1.place []) ?_;refine V [0] (cw p1 [123] lY aE) ?_;rw [dv];refine GW.wk (Wk.JJ (i:=2) (o:=5) 86 6 rfl rfl) ?_;refine GW.loop (fun x:Nat × List T × RS=>x.1) (fun x fr Γ=>∃ n rows,fr=[.loc 0 0,.v (ii (d:Nat)),U,U,.loc 1 0,.loc 2 0,U,U,U,U,U,U,U,U,U,U,U,U,U,U,U,U,U,U,U,U,U,U,U,U,U,U,U,U,U,U]/\Γ=[bJ x.2.2,.box 86 zT,.box 86 [.v (ii 14),.v (ii pl),.v (ii 0),.v (sv []),ints [],.vec 3 n],.vec 86 6 0 rows]/\rows.length=n/\rows=bb x.2.1/\n+x.1<=f/\x.2.2.ok/\mB x.1 (d+1) x.2.1 x.2.2=some (l,q1)) (f,[],p1.aI [123]) ?_ ?_
  ·exact ⟨_,_,Wk.aX aw,0,[],rfl,rfl,rfl,rfl,by simp,xw,he⟩
  ·rintro ⟨g,acc,p⟩ _ _ ⟨n,rows,rfl,rfl,hn,bn,y8,hp,h⟩;simp only at bn y8 hp h
   cases g with
   | zero=>simp [mB] at h
   | succ g =>
   rw [mB] at h
   by_cases hc:p.code=0
   ·have de:(p.code==0)=true:=by simpa using hc
    by_cases hs:p.sign 0=[125]
    ·rw [ad (fun hh=>hh.2 hs)] at h
     obtain ⟨rfl,rfl⟩:acc=l/\p=q1:=by simpa using h
     have mq:(!(p.sign 0==[125]))=false:=by simp [hs]
     subst bn;refine zbP ?_;refine zep ?_;exact zb2
    ·rw [ah ⟨hc,hs⟩] at h
     have mq:(!(p.sign 0==[125]))=true:=by simpa using hs
     cases hb:mS g (.stmt (d+1)) p with
     | none=>exact zaS
     | some r =>
      obtain ⟨a,p2⟩:=r;rw [hb] at h;simp only at h;have dR:=((oX g).1 _ _ _ _ hp (fun a d' h=>by cases h) hb).ok hp;refine zbP ?_;refine aS (aC 0 5 (.a 5 (.a 6 (.a 7 (.q 8 (.a 9 .nil)))))) ?_;refine aq ?_;refine ax [0] ((C g X).stmt (d+1) p a p2 hp X hb) ?_;refine zaN ?_;refine CP ?_;refine bF ?_;exact ⟨(g,acc++[a],p2),⟨_,_,Wk.aX aw,_,_,rfl,rfl,by simp [hn],by rw [xc,bn];rfl,by show n+1+g<=f;omega,dR,h⟩,by simp⟩
   ·have de:(p.code==0)=false:=by simpa using hc
    rw [ad (fun hh=>hc hh.1)] at h
    obtain ⟨rfl,rfl⟩:acc=l/\p=q1:=by simpa using h
    subst bn;refine zbk ?_;exact zb2
theorem Sg {f:Nat} (C:Kp f) (a:Int) (d:Nat) (p:RS) (t:T) (q:RS) (hp:p.ok) (ar:p.i < p.l.length) (hd:d+(f+1)<=1099511627776) (h:mS (f+1) (.cond a d) p=some (t,q)) :
  GF prog 290 [.loc 0 0,.v (ii a),.v (ii (d:Nat))] [bJ p] (.agg (cT t)) [bJ q]:=by
 rw [mS] at h
 try simp only at h
 have dr:=(cl ar).ok hp;have dv:=hp.2;have xw:=(bq dr (s:=[40]) aE).ok dr
 cases he:mX (d+1) (p.next.aI [40]) with
 | none=>exact zaQ
 | some r =>
 obtain ⟨e,p1⟩:=r;rw [he] at h;simp only at h;have jY:=(eQ xw he).ok xw;have ET:=(bq jY (s:=[41]) aE).ok jY
 cases hb:mS f (.block (d+1)) (p1.aI [41]) with
 | none=>exact zaS
 | some r =>
 obtain ⟨b,p2⟩:=r;rw [hb] at h;simp only at h;have dR:=((oX f).1 _ _ _ _ ET (fun a d' h=>by cases h) hb).ok ET;have Tt:=dR.2
 have key:∀ k:Int,(if k=9/\p2.sign 0=gF then match mS f (.block (d+1)) p2.next with
     | none=>none
     | some (b2,q)=>some (one k a [] [e,b,b2],q)
    else some (one k a [] [e,b],p2))=some (t,q)->p.ck=k->(k=9\/k=10)->((p.sign 0==[105,102])=true/\k=9)\/((p.sign 0==[105,102])=false/\k=10):=by
  intro k _ hk _;unfold RS.ck at hk;split at hk
  ·rename_i hs;exact .inl ⟨by rw [hs];rfl,hk.symm⟩
  ·rename_i hs;refine .inr ⟨?_,hk.symm⟩
   cases hq:(p.sign 0==[105,102]) with
   | false=>rfl
   | true=>exact absurd (eq_of_beq hq) hs
 have qu:p.ck=9\/p.ck=10:=by unfold RS.ck;split <;> simp
 have key:=key p.ck h rfl qu;generalize p.ck=k at h key;clear qu
 rcases key with ⟨hs,rfl⟩ | ⟨hs,rfl⟩
 ·by_cases jc:p2.sign 0=gF
  ·rw [ah ⟨rfl,jc⟩] at h
   have Xm:(p2.sign 0==[101,108,115,101])=true:=by rw [jc];rfl
   have lX:=(cW jc aE).1;have XE:=(db jc aE).ok dR
   cases dS:mS f (.block (d+1)) p2.next with
   | none=>rw [dS] at h;cases h
   | some r =>
   obtain ⟨b2,p3⟩:=r;rw [dS] at h;cases h;refine aj func290 ntmps290 ?_;refine zaq ?_;refine ax [0] (C.block (d+1) _ b p2 ET X hb) ?_;refine CQ ?_;refine bF ?_;refine V [0] (cO p2 0 dR aE) ?_;refine kJ [0] (C.block (d+1) _ b2 q XE X dS) ?_;refine zdI ?_;refine zdF ?_;refine V [] (gA 9 a [] [e,b,b2] _ oh) ?_;exact eJ
  ·rw [ad (fun hh=>jc hh.2)] at h
   have Xm:(p2.sign 0==[101,108,115,101])=false:=by
    cases hq:(p2.sign 0==[101,108,115,101]) with
    | false=>rfl
    | true=>exact absurd (eq_of_beq hq) jc
   cases h;refine aj func290 ntmps290 ?_;refine zaq ?_;refine ax [0] (C.block (d+1) _ b q ET X hb) ?_;refine CQ ?_;refine bF ?_;refine V [0] (cO q 0 dR aE) ?_;refine zdF ?_;refine V [] (gA 9 a [] [e,b] _ oh) ?_;exact eJ
 ·rw [ad (fun hh=>by cases hh.1)] at h;cases h;refine aj func290 ntmps290 ?_;refine zaq ?_;refine ax [0] (C.block (d+1) _ b q ET X hb) ?_;refine CQ ?_;refine bF ?_;refine zdF ?_;refine V [] (gA 10 a [] [e,b] _ oh) ?_;exact eJ
open Go.Xp (lF eW fC fL)
theorem uL {s t:ae} (h:¬ s=t):(s==t)=false:=by
 cases hq:(s==t) with
 | false=>rfl
 | true=>exact absurd (eq_of_beq hq) h
theorem Uv {f:Nat} (C:Kp f) (d:Nat) (p:RS) (t:T) (q:RS) (hp:p.ok) (hd:d+(f+1)<=1099511627776) (h:mS (f+1) (.stmt d) p=some (t,q)) :
  GF prog 254 [.loc 0 0,.v (ii (d:Nat))] [bJ p] (.agg (cT t)) [bJ q]:=by
 rw [mS] at h;have lY:=(fX hp d).ok hp;have we:=ue p d hp;generalize p.deep d=p1 at *
 try simp only at h
 obtain ⟨Dd,dv⟩:=id lY;generalize pY:p1.place=at_ at h;refine aj func254 ntmps254 ?_;refine V [0] we ?_;refine V [0] (iX p1 lY) ?_;refine kJ [0] (cO p1 0 lY aE) ?_;rw [pY]
 by_cases D:p1.sign 0=lF
 ·rw [ah D] at h
  have e1:(p1.sign 0==[118,97,114])=true:=by rw [D];rfl
  have ar:=(cW D aE).1;have hn:=(db D aE).ok lY;have cL:=(dY hn).ok hn;have dq:=(bq cL (s:=[61]) aE).ok cL
  cases he:mX (d+1) (p1.next.name.2.aI [61]) with
  | none=>exact zaQ
  | some r =>
  obtain ⟨e,p2⟩:=r;rw [he] at h;cases h;have dR:=(eQ dq he).ok dq;refine ab ?_;refine V [0] (nK p1.next hn) ?_;refine zcL ?_;refine V [] (gA 13 at_ p1.next.name.1 [e] _ oh) ?_;exact eJ
 rw [ad D] at h;have e1:(p1.sign 0==[118,97,114])=false:=uL D
 by_cases I:p1.sign 0=eW\/p1.sign 0=fC
 ·rw [ah I] at h
  have e2:(p1.sign 0==[105,102])=true\/((p1.sign 0==[105,102])=false/\(p1.sign 0==[119,104,105,108,101])=true):=by
   rcases I with I | I
   ·exact .inl (by rw [I];rfl)
   ·exact .inr ⟨by rw [I];rfl,by rw [I];rfl⟩
  have ar:p1.i < p1.l.length:=by
   rcases I with I | I
   ·exact (cW I aE).1
   ·exact (cW I aE).1
  rcases e2 with e2 | ⟨e2,e3⟩
  all_goals
   refine ab ?_;refine V [0] (C.cond at_ d p1 t q lY ar X h) ?_;exact eJ
 rw [ad I] at h
 have e2:(p1.sign 0==[105,102])=false:=uL fun hh=>I (.inl hh)
 have e3:(p1.sign 0==[119,104,105,108,101])=false:=uL fun hh=>I (.inr hh)
 by_cases h4:p1.sign 0=fL
 ·rw [ah h4] at h
  have e4:(p1.sign 0==[114,101,116,117,114,110])=true:=by rw [h4];rfl
  have ar:=(cW h4 aE).1;have hn:=(db h4 aE).ok lY
  cases he:mX (d+1) p1.next with
  | none=>exact zaQ
  | some r =>
  obtain ⟨e,p2⟩:=r;rw [he] at h;cases h;have dR:=(eQ hn he).ok hn;refine ab ?_;refine V [0] (xG (d+1) _ e p2 hn X he) ?_;refine V [0] (cw p2 [59] dR aE) ?_;refine zaj ?_;refine V [] (gA 11 at_ [] [e] _ oh) ?_;exact eJ
 rw [ad h4] at h;have e4:(p1.sign 0==[114,101,116,117,114,110])=false:=uL h4
 by_cases h5:p1.code=0/\p1.nH=true/\p1.sign 1=[61]
 ·rw [ah h5] at h;obtain ⟨hc,ES,lC⟩:=h5
  have de:(p1.code==0)=true:=by simpa using hc
  have aaC:(p1.sign 1==[61])=true:=by rw [lC];rfl
  unfold RS.nH at ES
  cases ht:p1.l[p1.i]? with
  | none=>rw [ht] at ES;cases ES
  | some tk =>
  rw [ht] at ES
  have hk:(tk.kind==2)=true:=by simpa using ES
  have ar:=(bh ht).1
  have Ol:decide ((p1.i:Int) < ((p1.l.map cH).length:Int))=true:=by simpa using ar
  have hr:=jS ht;have cL:=(dY lY).ok lY;have dq:=(bq cL (s:=[61]) aE).ok cL
  cases he:mX (d+1) (p1.name.2.aI [61]) with
  | none=>exact zaQ
  | some r =>
  obtain ⟨e,p2⟩:=r;rw [he] at h;cases h;have dR:=(eQ dq he).ok dq;refine ab ?_;refine zeq ?_;refine ab ?_;refine V [0] (nK p1 lY) ?_;refine zcL ?_;refine V [] (gA 7 at_ p1.name.1 [e] _ oh) ?_;exact eJ
 rw [ad h5] at h
 cases he:mX (d+1) p1 with
 | none=>exact zaQ
 | some r =>
 obtain ⟨e,p2⟩:=r;rw [he] at h;simp only at h;have dR:=(eQ lY he).ok lY;have Tt:=dR.2
 have E0:(p1.code==0)=false\/((p1.code==0)=true/\p1.l.length<=p1.i)\/((p1.code==0)=true/\∃ tk,p1.l[p1.i]?=some tk/\((tk.kind==2)=false\/((tk.kind==2)=true/\(p1.sign 1==[61])=false))):=by
  by_cases hc:p1.code=0
  ·refine .inr ?_
   have de:(p1.code==0)=true:=by simpa using hc
   cases ht:p1.l[p1.i]? with
   | none=>exact .inl ⟨de,nZ ht⟩
   | some tk =>
    refine .inr ⟨de,tk,rfl,?_⟩
    by_cases hk:tk.kind=2
    ·refine .inr ⟨by simpa using hk,uL fun YB=>h5 ⟨hc,?_,YB⟩⟩;unfold RS.nH;rw [ht];simpa using hk
    ·exact .inl zfv
  ·exact .inl zfu
 refine ab ?_;refine GW.join (fun fr Γ=>fr=[.loc 0 0,.v (ii (d:Nat)),U,U,.loc 1 0,.v (ii at_),U,U,U,U,U,U,U,U,U,U,U,U,U,U,U,U,U,U,U,U,U,U,U,U,U,U,U,U,U,U,U,U,U,U,U,U,U,U,U,U,U,U,U,U,U,U,U,U,U,U,U,U,U,U,U,U,U,U,U,U,U,U,U,U,U,U,U,U,U,U,U,U,U,U,U,U,U,U,U,U,U,U,U,U,U,U,U,U,U,U,U,U,U,U,U,U,U,U,U,.v (.bool false),U,U,U,U,U,U,U,U,U,U,U,U,U,U,U,U,U,U,U,U,U,U,U,U,U,U,U,U,U,U,U,U,U,U,U,U,U,U,U,U,U,U,U,U,U,U,U,U,U,U,U,U,U,U,U,U,U,U,U,U,U,U,U,U,U]/\Γ=[bJ p1,.box 86 zT]) ?_ ?_
 ·rcases E0 with de | ⟨de,hO⟩ | ⟨de,tk,ht,hk | ⟨hk,lC⟩⟩
  ·exact za0
  ·have Ol:decide ((p1.i:Int) < ((p1.l.map cH).length:Int))=false:=by simpa using hO
   exact za0
  ·have ar:=(bh ht).1
   have Ol:decide ((p1.i:Int) < ((p1.l.map cH).length:Int))=true:=by simpa using ar
   have hr:=jS ht;exact za0
  ·have ar:=(bh ht).1
   have Ol:decide ((p1.i:Int) < ((p1.l.map cH).length:Int))=true:=by simpa using ar
   have hr:=jS ht;refine zeq ?_;exact bo ⟨_,_,Wk.aX (by repeat (first | exact tQ.nil | refine tQ.U ?_ | refine tQ.eq rfl ?_ | refine tQ.eq (by rw [lC]) ?_)),rfl,rfl⟩
 ·rintro _ _ ⟨rfl,rfl⟩;refine ab ?_;refine V [0] (xG (d+1) _ e p2 lY X he) ?_
  by_cases k3:e.n.kind=3
  ·have ZI:(e.n.kind==3)=true:=by simpa using k3
   by_cases ka:e.n.at_=at_
   ·have ZJ:(e.n.at_==at_)=true:=by simpa using ka
    by_cases ks:p2.sign 0=[61]
    ·have ZK:(p2.sign 0==[61])=true:=by rw [ks];rfl
     rw [ah ⟨k3,ka,ks⟩] at h;have ar:=(cW ks aE).1;have hn:=(db ks aE).ok dR
     cases hk:e.kids with
     | nil=>rw [hk] at h;cases h
     | cons a rest =>
     cases hv:mX (d+1) p2.next with
     | none=>rw [hk,hv] at h;cases h
     | some r =>
     obtain ⟨v,p3⟩:=r;rw [hk,hv] at h;cases h;have za:=(eQ hn hv).ok hn
     have hr:(bb (a::rest))[0]?=some (cT a):=by simp [bb,uP]
     refine ab ?_;refine V [0] (cO p2 0 dR aE) ?_;refine V [0] (xG (d+1) _ v p3 hn X hv) ?_;refine V [0] (cw p3 [59] za aE) ?_;refine aS (aC 0 9 (.a 9 (.a 10 (.a 11 .nil)))) ?_;refine aq ?_;refine zaN ?_;refine lx [] (gA 8 at_ e.n.s [a,v] _ oh) ?_;refine Ge ?_;refine aq ?_;exact ph
    ·have ZK:(p2.sign 0==[61])=false:=uL ks;rw [ad (fun hh=>ks hh.2.2)] at h;cases h;refine ab ?_;refine V [0] (cO p2 0 dR aE) ?_;exact za8
   ·have ZJ:(e.n.at_==at_)=false:=by simpa using ka
    rw [ad (fun hh=>ka hh.2.1)] at h;cases h;refine ab ?_;exact za8
  ·have ZI:(e.n.kind==3)=false:=by simpa using k3
   rw [ad (fun hh=>k3 hh.1)] at h;cases h;refine ab ?_;exact za8
theorem WJ (f:Nat):Kp f:=by
 induction f using Nat.strongRecOn with
 | _ f ih =>
  cases f with
  | zero=>exact ⟨fun d p t q _ _ h=>by simp [mS] at h,fun d p t q _ _ h=>by simp [mS] at h,fun a d p t q _ _ _ h=>by simp [mS] at h⟩
  | succ f =>
   have C:=ih f (Nat.lt_succ_self f)
   have Cs:∀ f',f'<=f->Kp f':=fun f' h=>ih f' (Nat.lt_succ_of_le h)
   exact ⟨fun d p t q hp hd h=>QQ Cs d p t q hp hd h,fun d p t q hp hd h=>Uv C d p t q hp hd h,fun a d p t q hp hl hd h=>Sg C a d p t q hp hl hd h⟩
open Go.Xp (Nd levels Ar)
def aO (n:Nd):List GV:=[.v (ii n.kind),.v (ii n.at_),.v (ii n.n),.v (sv n.s),ints n.kids]
def br (f:Go.Sp.Fn):List GV:=[.v (sv f.name),strs f.params,.v (ii f.body)]
def bY (a:Ar):List GV:=[.v (sv a.name),.v (ii a.size)]
abbrev aL (p:Src):List GV:=[strs p.globals,.sl 2 (p.arrays.map bY),.sl 3 (p.fns.map br),.sl 5 (p.nodes.map aO)]
theorem uy (k:Int):GF prog 82 [.v (ii k)] [] (.v (.bool (fa k))) []:=by
 unfold fa;refine fD func82 ntmps82 ?_
 cases h:decide ((1:Int)<=k)
 all_goals
  exact av
theorem GM (k:Int):GF prog 288 [.v (ii k)] [] (.v (.bool (fZ k))) []:=by
 unfold fZ;refine fD func288 ntmps288 ?_
 cases h:decide ((7:Int)<=k)
 all_goals
  exact av
theorem tm (s:ae):GF prog 287 [.v (sv s)] [] (.v (.bool (fm s))) []:=by
 refine aj func287 ntmps287 ?_;refine V [] iV ?_;refine GW.range (levels.map fun l=>[strs l]).length (fun k fr Γ=>fr=[.v (sv s),U,U,U,U,.sl 1 (levels.map fun l=>[strs l]),.v (ii ((levels.map fun l=>[strs l]).length:Int)),.v (ii (k:Nat)),U,U,U,U,U,U,U]/\Γ=[]/\((levels.take k).any fun l=>l.contains s)=false) ?_ aE ?_ ?_ ?_
 ·exact qn
 ·exact nc
 ·rintro k _ _ hk ⟨rfl,rfl,hf⟩
  have hk:k < levels.length:=by simpa using hk
  have hx:levels[k]?=some levels[k]:=by simp [hk]
  have hr:(levels.map fun l=>[strs l])[k]?=some [strs levels[k]]:=by simp [hk]
  have qb:levels[k].length<=1099511627776:=by
   have:∀ l∈levels,l.length<=1099511627776:=by decide
   exact this _ (List.getElem_mem hk)
  generalize levels[k]=x at *;have hh:=qK x s qb
  cases hb:x.contains s with
  | true =>
   rw [hb] at hh
   have ha:fm s=true:=by
    unfold fm;rw [yK];exact ⟨x,bM hx,hb⟩
   refine ab ?_;refine V [] hh ?_;refine cq ?_;rw [ha];exact zag
  | false =>
   exact zba
 ·rintro _ _ ⟨rfl,rfl,hf⟩
  have hf:fm s=false:=by
   rw [nq zeL] at hf;exact hf
  refine zcr ?_;rw [hf];exact zag
theorem cJ {l:List T} {i:Nat} {t:T} (h:l[i]?=some t):(bb l)[i]?=some (cT t):=by
 induction l generalizing i with
 | nil=>simp at h
 | cons a l ih =>
  cases i with
  | zero=>cases h;simp [bb,uP]
  | succ i=>simpa [bb] using ih zeO
theorem fb (t:T) (m:Nat) (hl:t.kids.length<=1099511627776):GF prog 286 [.agg (cT t),.v (ii (m:Nat))] [] (.v (.bool (bB m 0 t.kids))) []:=by
 refine aj func286 ntmps286 ?_;refine GW.range (bb t.kids).length (fun k fr Γ=>fr=[U,.v (ii (m:Nat)),U,U,U,U,U,U,.sl 6 (bb t.kids),.v (ii ((bb t.kids).length:Int)),.v (ii (k:Nat)),U,U,U,U,U,U,U,U,U,U,U,U,U,U,U,U,U,U,U,U,U,U,U,U,U,U]/\Γ=[]/\bB m k (t.kids.drop k)=bB m 0 t.kids) ?_ (by rw [bc];exact hl) ?_ ?_ ?_
 ·exact ⟨_,_,(Wk.cut (n:=0) (aD _) rfl).trans (Wk.aX aw),rfl,rfl,rfl⟩
 ·exact nc
 ·rintro k _ _ hk ⟨rfl,rfl,hf⟩
  have hk:k < t.kids.length:=by rw [bc] at hk;exact hk
  have hx:t.kids[k]?=some t.kids[k]:=by simp [hk]
  have hr:=cJ hx;rw [o8 hk,bB] at hf;generalize t.kids[k]=x at *;have he:=uy x.n.kind
  by_cases hm:k < m
  ·have P2:decide ((k:Int) < (m:Int))=true:=by simpa using hm
   have nk:decide ((m:Int)<=(k:Int))=false:=by simpa using hm
   rw [ah hm] at hf
   cases hb:fa x.n.kind with
   | true =>
    rw [hb] at he hf;refine zbn ?_;exact zcw
   | false =>
    rw [hb] at he hf;refine zbn ?_;refine cq ?_;rw [<-hf];exact zag
  ·have P2:decide ((k:Int) < (m:Int))=false:=by simp;omega
   have nk:decide ((m:Int)<=(k:Int))=true:=by simp;omega
   rw [ad hm] at hf
   cases hb:(x.n.kind==14) with
   | true =>
    rw [hb] at hf
    have bA:(x.n.kind != 14)=false:=by simp only [bne,hb];rfl
    refine ab ?_;exact zcw
   | false =>
    rw [hb] at hf
    have bA:(x.n.kind != 14)=true:=by simp only [bne,hb];rfl
    refine zcr ?_;rw [<-hf];exact zag
 ·rintro _ _ ⟨rfl,rfl,hf⟩;rw [bc,List.drop_length,bB] at hf;refine zcr ?_;rw [<-hf];exact zag
theorem FJ {l:List Nd} {i:Nat} {n:Nd} (h:l[i]?=some n):(l.map aO)[i]?=some (aO n):=by rw [bP,h];rfl
theorem Iu {l:List Int} {i:Nat} {n:Int} (h:l[i]?=some n):(l.map fun i=>[GV.v (ii i)])[i]?=some [.v (ii n)]:=by rw [bP,h];rfl
theorem DU (p:Src) (hk:∀ n∈p.nodes,n.kids.length<=1000000000000):∀ (f a:Nat) (t:T),sub p.nodes f a=some t->GF prog 84 [.agg (aL p),.v (ii (a:Nat))] [] (.agg (cT t)) []:=by
 intro f
 induction f using Nat.strongRecOn with
 | _ f ih =>
 intro a t h
 cases f with
 | zero=>simp [sub] at h
 | succ f =>
 rw [sub] at h
 cases hn:p.nodes[a]? with
 | none=>exact zde
 | some n =>
 rw [hn] at h;simp only at h
 cases hs:oE p.nodes f n.kids [] with
 | none=>rw [hs] at h;cases h
 | some l =>
 rw [hs] at h;cases h;have hr:=FJ hn;have kA:=hk n (bM hn);refine aj func84 ntmps84 ?_;refine GW.wk (Wk.JJ (i:=2) (o:=5) 86 6 rfl rfl) ?_
 refine GW.range (n.kids.map fun i=>[GV.v (ii i)]).length (fun k fr Γ=>∃ rows acc g,fr=[U,.v (ii (a:Nat)),.loc 0 0,U,.loc 1 0,.loc 2 0,U,U,U,U,U,U,U,U,U,U,U,U,U,ints n.kids,.v (ii ((n.kids.map fun i=>[GV.v (ii i)]).length:Int)),.v (ii (k:Nat)),U,U,U,U,U,U,U,U,U,U,U,U,U] /\
   Γ=[.box 28 (aL p),.box 86 zT,.box 86 [.v (ii n.kind),.v (ii n.at_),.v (ii n.n),.v (sv n.s),ints n.kids,.vec 3 k],.vec 86 6 0 rows] /\
   rows.length=k/\rows=bb acc/\g<=f/\oE p.nodes g (n.kids.drop k) acc=some l) ?_ ze6 ?_ ?_ ?_
 ·exact ⟨_,_,Wk.aX aw,[],[],f,rfl,rfl,rfl,rfl,aD _,hs⟩
 ·rintro k _ _ ⟨_,_,_,rfl,rfl,_⟩;exact gU
 ·rintro k _ _ ar ⟨rows,acc,g,rfl,rfl,zb,bn,hg,h⟩
  have ar:k < n.kids.length:=by simpa using ar
  have hx:n.kids[k]?=some n.kids[k]:=by simp [ar]
  rw [o8 ar] at h;generalize n.kids[k]=x at *
  cases g with
  | zero=>simp [oE] at h
  | succ g =>
  rw [oE] at h
  by_cases kc:x < 0
  ·rw [ah kc] at h;cases h
  rw [ad kc] at h
  cases dI:sub p.nodes g x.toNat with
  | none=>rw [dI] at h;cases h
  | some t =>
  rw [dI] at h;simp only at h;have ym:=ih g X x.toNat t dI;rw [Int.toNat_of_nonneg X] at ym;have xz:=Iu hx;refine ab ?_;refine aS (aC 0 4 (.a 4 (.a 5 (.a 6 (.q 7 (.a 8 .nil)))))) ?_;refine aq ?_;refine ax [] ym ?_;refine zaN ?_;refine CP ?_;refine bF ?_;exact ⟨rfl,rfl,_,_,Wk.aX aw,_,acc++[t],g,rfl,rfl,by rw [aJ,zb];rfl,by rw [xc,bn];rfl,by omega,h⟩
 ·rintro _ _ ⟨rows,acc,g,rfl,rfl,zb,bn,hg,h⟩;rw [cU,List.drop_length] at h
  have jH:acc=l:=by cases g <;> (rw [oE] at h;cases h;rfl)
  subst jH;subst bn;refine bo (GW.wk (Wk.yA (i:=2) (o:=5) rfl rfl rfl rfl zb) ?_);exact ph
end Go.Xg
namespace Go.Xg
open Go.RowKit Go.Xw Go.Proofs Go.WideShapes Go.Deep
def flat (v:Value):Prop:=∀ a n c,v≠.slice a n c
def Nj (W:World) (v:Value) (xs:List Value):Prop:=∃ a c,v=.slice a xs.length c/\(xs=[]\/∃ b o,a=some ⟨b,o,none⟩/\xs.length<=c/\∀ i x,xs[i]?=some x->gO W.heap b (o+i)=some x/\flat x)
open Classical in
noncomputable def KW (W:World):Fz:=fun b o=>match gO W.heap b o with
 | none=>none
 | some v=>if ∃ a n c,v=.slice a n c then (if h:∃ xs,Nj W v xs then some (.sl 1 (h.choose.map fun x=>[.v x])) else none) else some (.v v)
theorem BA {W:World} {b o:Nat} {v:Value} (h:gO W.heap b o=some v) (hf:flat v):KW W b o=some (.v v):=by
 unfold KW;rw [h];simp only;rw [if_neg (by rintro ⟨a,n,c,e⟩;exact hf a n c e)]
theorem Ms {W:World} {v:Value} {xs:List Value} (hx:Nj W v xs) (β:Bt):Rel (KW W) β v (.sl 1 (xs.map fun x=>[GV.v x])):=by
 obtain ⟨a,c,rfl,h⟩:=hx
 rcases h with rfl | ⟨b,o,rfl,hc,pZ⟩
 ·exact .sl0 a c 1
 ·have:=Rel.sl (K:=KW W) (β:=β) b o c 1 (xs.map fun x=>[GV.v x]) (fun i r hr=>by
   rw [List.getElem?_map] at hr
   cases hi:xs[i]? with
   | none=>rw [hi] at hr;cases hr
   | some x =>
    rw [hi] at hr;cases hr;obtain ⟨D,I⟩:=pZ i x hi;refine ⟨rfl,fun j g hg=>?_⟩
    cases j with
    | zero=>cases hg;rw [Nat.mul_one,Nat.add_zero];exact BA D I
    | succ j=>simp at hg) (by rw [List.length_map];exact hc)
  rw [List.length_map] at this;exact this
theorem UH (W:World):rQ (KW W) W:=fun b o g h=>by
 unfold KW at h
 cases hc:gO W.heap b o with
 | none=>rw [hc] at h;cases h
 | some v =>
  rw [hc] at h;simp only at h;split at h
  ·split at h
   ·rename_i hex;cases h;exact ⟨rfl,v,rfl,Ms hex.choose_spec _⟩
   ·cases h
  ·cases h;exact ⟨rfl,v,rfl,.v v⟩
theorem Ny {W:World} {a:Addr} {n:Nat} {v:Value} (h:W.cell? (a.add n)=some v):gO W.heap a.block (a.off+n)=some v:=by
 unfold Addr.add at h;split at h
 ·rename_i h0;subst h0;obtain ⟨b,o,s⟩:=a;have hs:=World.cell?_spot h;simp only at hs;subst hs;rw [fo] at h;exact h
 ·obtain ⟨b,o,s⟩:=a;simp only at h;rw [fo] at h;exact h
theorem Ns {W:World} {a:Addr} {v:Value} (h:W.cell? (a.add 0)=some v):a.spot=none:=by
 have:=World.cell?_spot h;unfold Addr.add at this;rw [if_pos rfl] at this;exact this
theorem yT {α:Type} {Q:Nat->α->Prop}:∀ {n:Nat},(∀ i,i < n->∃ x,Q i x)->∃ l:List α,l.length=n/\∀ i x,l[i]?=some x->Q i x
 | 0,_=>⟨[],rfl,fun i x h=>by simp at h⟩
 | n+1,h=>by
  obtain ⟨l,D,I⟩:=yT (n:=n) fun i hi=>h i X
  obtain ⟨x,hx⟩:=h n X;refine ⟨l++[x],by simp [D],fun i y hi=>?_⟩
  by_cases rD:i < n
  ·rw [List.getElem?_append_left X] at hi;exact I i y hi
  ·have ar:=(List.getElem?_eq_some_iff.1 hi).1;rw [List.length_append,length_cons,List.length_nil] at ar
   have:i=n:=by omega
   subst this;rw [List.getElem?_append_right X,D,Nat.sub_self] at hi
   cases hi;exact hx
theorem max_le {n:Nat} (h:n<=maxLen):n<=9223372036854775807:=by unfold maxLen at h;omega
section
variable {H:Type} {enc:TypeId × Value->H} {P:Program} {W:World}
end
section
variable {H:Type} {enc:TypeId × Value->H} {W:World}
end
end Go.Xg
namespace Go.Xg
open Go.RowKit Go.Xw Go.Proofs Go.Lib
theorem ML {P:Program} {W:World} {name:String} {k:IntKind} {zs:List Int} {g:Nat} {t e:TypeId} {n:Nat}
  (hg:P.globalNamed name=some g) (Zr:(P.globals[g]?).map (·.type)=some t) (ht:P.underlying t=some (.array n e)) (he:P.underlying e=some (.int k)) (Ln:P.cellsOf e=1) (YX:P.cellsOf t=n)
  (h:VarReads P W name (tabData k zs)):TabIs P W name k zs:=by
 obtain ⟨g',t',cs,fuel,p,jX,AO,XM,hd⟩:=h;obtain rfl:=Option.some.inj (hg.symm.trans jX);obtain rfl:=Option.some.inj (Zr.symm.trans AO);unfold TabIs;rw [XM,<-cells_of_tab ht he Ln YX hd]
theorem IF {P:Program} {W:World} {name:String} {k:IntKind} {zs:List Int} {g n:Nat} (hg:P.globalNamed name=some g) (hn:zs.length=n) (h:TabIs P W name k zs):sN W g n:=by
 unfold TabIs World.var? at h;rw [hg] at h;simp only [Option.bind_some] at h
 cases hb:W.heap[g]? with
 | none=>exact zaS
 | some o =>
  rw [hb] at h
  cases o with
  | cells cs E z =>
   simp only [Option.some.injEq] at h;exact ⟨cs,E,z,hb,by rw [h];simpa using hn⟩
  | _=>cases h
theorem Kk {P:Program} {W:World} {name:String} {k:IntKind} {zs:List Int} {g:Nat} (hg:P.globalNamed name=some g) (h:TabIs P W name k zs) {o:Nat} {z:Int} (ho:zs[o]?=some z):KW W g o=some (.v (.int k z)):=by
 have ar:=(List.getElem?_eq_some_iff.1 ho).1;have hc:=h.cell hg o ar;rw [List.getD_eq_getElem?_getD,ho,fo] at hc
 exact BA hc fun a n c e=>by cases e
theorem IG {W:World} (hp:VarReads Tryz.prog W "internal/strconv.uint64pow10" (tabData .u64 vq)) (hs:VarReads Tryz.prog W "strings.asciiSpace" (tabData .u8 vF)) (hW:W.ShapedOpen Tryz.prog):nv (KW W) (fun _=>.no) W:=by
 have gp:Tryz.prog.globalNamed "internal/strconv.uint64pow10" = some 1:=by kernel_rfl
 have gs:Tryz.prog.globalNamed "strings.asciiSpace" = some 2:=by kernel_rfl
 have tp:=ML gp (t:=254) (by kernel_rfl) Tryz.underlying254 (k:=.u64) (by kernel_rfl) (by kernel_rfl) (by kernel_rfl) hp;have ts:=ML gs (t:=257) (by kernel_rfl) Tryz.underlying257 (k:=.u8) (by kernel_rfl) (by kernel_rfl) (by kernel_rfl) hs;obtain ⟨m,hm⟩:=cell_of_shapedOpen_int (g:=0) (zero:=#[.int .i64 0]) (t:=3) hW (of_decide_eq_true (by kernel_rfl)) (by kernel_rfl) rfl (by kernel_rfl) (by kernel_rfl) Tryz.underlying3;rw [fo] at hm;refine ⟨⟨m,fun b o g h=>?_⟩,IF gp aE tp,IF gs aE ts,fun i b h=>by cases h⟩;unfold w5 at h;split at h
 ·rename_i hb;subst hb;split at h
  ·cases h;exact BA hm fun a n c e=>by cases e
  ·cases h
 ·split at h
  ·rename_i hb;subst hb
   cases ho:vq[o]? with
   | none=>rw [ho] at h;cases h
   | some z=>rw [ho] at h;cases h;exact Kk gp tp ho
  ·split at h
   ·rename_i hb;subst hb
    cases ho:vF[o]? with
    | none=>rw [ho] at h;cases h
    | some z=>rw [ho] at h;cases h;exact Kk gs ts ho
   ·cases h
theorem GF.calls {P:Program} {f:FuncId} {gs:List GV} {g:GV} (h:GF P f gs [] g []) {W:World} {vs:List Value} (hv:bm (KW W) (fun _=>.no) vs gs) (hT:nv (KW W) (fun _=>.no) W) :
  nh P f vs W fun v w'=>Below W.heap.size W w'/\∃ K β,Rel K β v g:=by
 have hI:Inv ⟨W,gR,KW W,fun _=>.no,0⟩ (KW W) (fun _=>.no) [] W :=
  ⟨Ext.refl W,cZ.refl _,dx.refl _,fun _ _=>rfl,UH W,fun i x h=>by simp at h,fun _ _=>rfl,fun i j b h=>zeT,fun i b h=>zeT,fun b o g h=>.inl h,hT⟩
 refine (h ⟨W,gR,KW W,fun _=>.no,0⟩ (KW W) (fun _=>.no) W vs rfl hI hv).mono ?_;rintro v w' ⟨K',bT,x,aU,D,I,rfl,rfl⟩;exact ⟨D.ext.below,K',bT,I⟩
end Go.Xg
namespace Go.Xg
open Go.RowKit Go.Xw
theorem gi (n:Int):bits .and .i64 n 4294967295=n % 4294967296:=by
 have h:(BitVec.ofInt 64 4294967295).toNat=2 ^ 32 - 1:=by decide
 have key:(BitVec.ofInt 64 n &&& BitVec.ofInt 64 4294967295).toNat=(n % ((2 ^ 64:Nat):Int)).toNat % 2 ^ 32:=by
  rw [BitVec.toNat_and,BitVec.toNat_ofInt,h,Nat.and_two_pow_sub_one_eq_mod]
 show IntKind.i64.wrap ((BitVec.ofInt 64 n &&& BitVec.ofInt 64 4294967295).toNat:Nat)=n % 4294967296;rw [key,IntKind.wrap_i64];omega
section
variable {P:Program} {fr:List GV} {Γ:List Ob}
theorem YG.gi {x y:Operand} {t t':TypeId} {a:Int} (hx:bg fr x=.v (ii a)) (hy:bg fr y=.v (ii 4294967295)):YG P (.binOp .and t x y t') fr Γ (.v (ii (a % 4294967296))) :=
 YG.v2 hx hy fun l w h k d ty pos af=>by
  simp [execOp,eqGuard,h,k,binOp,intBits_and,Go.Xg.gi]
end
end Go.Xg
namespace Go.Xw
open Go.RowKit
class CW (P:Program) (t:TypeId) (e:outParam TypeId):Prop where
 is:P.underlying t=some (.slice e)/\∃ i,P.info? e=some i/\i.zero=some (.int .u8 0)/\i.size=1/\i.bytes=1
def Px (P:Program) (t e:TypeId):Bool :=
 (match P.underlying t with | some (.slice e')=>e'==e | _=>false)&&(match P.info? e with | some i=>(match i.zero with | some (.int .u8 0)=>true | _=>false)&&i.size==1&&i.bytes==1 | none=>false)
theorem CW.mk' {P:Program} {t e:TypeId} (h:Px P t e=true):CW P t e:=by
 unfold Px at h;rw [au] at h;obtain ⟨D,I⟩:=h;refine ⟨?_,?_⟩
 ·split at D
  ·rename_i e' hu;rw [hu];simp at D;rw [D]
  ·cases D
 ·split at I
  ·rename_i i hi;simp only [au,beq_iff_eq] at I;obtain ⟨⟨h4,h5⟩,h6⟩:=I;split at h4
   ·rename_i hz;exact ⟨i,hi,hz,h5,h6⟩
   ·cases h4
  ·cases I
section
variable {P:Program} {Q:lL} {l:List Value} {w:World} {ops:Array Oper} {rest:List Oper} {d:Option Tmp} {ty:TypeId} {pos:String} {af:Array Edge}
def kK (s:ae):List Value:=s.map fun c=>.int .u8 (c.toNat:Int)
theorem WL.BI {s x:Operand} {t u e:Nat} [hT:CW P t e] [hU:pQ P u] {base n:Nat} {xs:List Value} {v:Value} {str:ae} (hs:ev l s=v) (gz:gV w base e 1 v n xs) (hx:ev l x=sv str)
  (xm:n+str.length<=140737488355328) (AE:base<=w.heap.size)
  (h:∀ v' w',gV w' base e 1 v' (n+str.length) (xs++kK str)->Ext (fun b=>v.ownBlock=some b) w w'->(∀ b,v'.ownBlock=some b->v.ownBlock=some b\/w.heap.size<=b)->(Ext gR w w'\/v'.ownBlock=v.ownBlock)->WL P ops Q rest (put l d v') w') :
  WL P ops Q (⟨d,.call ⟨.builtin .append,#[s,x],#[t,u]⟩,ty,pos,af,none⟩::rest) l w:=by
 obtain ⟨hu,i,hi,hz,fJ,AF⟩:=hT.is;have fK:=hU.und
 have se:(⟨str.toArray⟩:ByteArray).size=str.length:=by simp [ByteArray.size]
 have nD:Lib.strCells ⟨str.toArray⟩=kK str:=by simp [Lib.strCells,kK]
 obtain ⟨v',w',hr,I,h3,h4⟩:=Lib.run_append_own_string (P:=P) w base t u ty e i hu fK hi hz fJ AF v n xs gz ⟨str.toArray⟩ (by rw [se];simp only [maxLen];omega) ze4 AE;rw [se,nD] at I;rw [se] at h4;have iJ:Ext (fun b=>v.ownBlock=some b) w w':=⟨h3.os,h3.tape,h3.output,h3.size,fun j hj hn=>h3.block j hj fun he=>hn he.symm⟩;have oA:(Builtin.append_ #[t,u] ty #[v,sv str]).run P w=.ok v' w':=hr;refine WL.val (v:=v') (w':=w') (by simp [execOp,resolve,invoke,builtin,hs,hx,oA]) (h v' w' I iJ ?_ ?_)
 ·intro b' bA
  rcases gz.2 with ⟨rfl,rfl⟩ | ⟨g,cap,cur,rfl,oM,hg,s9,Da,nD,AP⟩
  ·by_cases hm:str.length=0
   ·have:=h4.2 ⟨rfl,hm⟩;subst this;cases bA
   ·have dT:=run_append_nil_string (P:=P) w t u ty e i (.int .u8 0) hu fK hi hz ⟨str.toArray⟩ zeM ze4 (by rw [AF,se];omega);rw [hr] at dT;cases dT;exact zaX
  ·by_cases hroom:n+str.length<=cap
   ·have S5:cur.size=cap:=by simpa using nD
    have dT:=Lib.run_append_room_string (P:=P) w t u ty e i hu fK hi fJ g n cap cur hg ⟨str.toArray⟩ (by rw [se];exact hroom) ze4;rw [hr] at dT;cases dT;exact .inl bA
   ·have holds:∀ j u,xs[j]?=some u->w.cell? ((⟨g,0,none⟩:Addr).add j)=some u:=World.ownsRow.cells (g:=g) gz rfl;have dT:=Lib.run_append_grow_string (P:=P) w t u ty e i (.int .u8 0) hu fK hi hz ⟨g,0,none⟩ n cap xs zfl holds ⟨str.toArray⟩ ze4 ze4 zfD;rw [hr] at dT;cases dT;exact zaX
 ·rcases gz.2 with ⟨rfl,rfl⟩ | ⟨g,cap,cur,rfl,oM,hg,s9,Da,nD,AP⟩
  ·exact .inl (iJ.mono fun k _ hk=>by cases hk)
  ·by_cases hroom:n+str.length<=cap
   ·have S5:cur.size=cap:=by simpa using nD
    have dT:=Lib.run_append_room_string (P:=P) w t u ty e i hu fK hi fJ g n cap cur hg ⟨str.toArray⟩ (by rw [se];exact hroom) ze4;rw [hr] at dT;cases dT;exact zbd
   ·have holds:∀ j u,xs[j]?=some u->w.cell? ((⟨g,0,none⟩:Addr).add j)=some u:=World.ownsRow.cells (g:=g) gz rfl;have dT:=Lib.run_append_grow_string (P:=P) w t u ty e i (.int .u8 0) hu fK hi hz ⟨g,0,none⟩ n cap xs zfl holds ⟨str.toArray⟩ ze4 ze4 zfD;rw [hr] at dT;cases dT;exact zcy
theorem R.hH {x:Operand} {s:TypeId} {i off:Nat} [hT:ft P s i off 1 false] {vs:List Value} {v:Value} (hx:ev l x=.agg vs.toArray) (hv:vs[off]?=some v):ep P l w (.field s x i) v:=fun d ty pos af=>by
 obtain ⟨hT⟩:=hT;unfold Jg at hT;split at hT
 ·rename_i fs hu;split at hT
  ·rename_i f hf;simp only [au,beq_iff_eq,bne_iff_ne,ne_eq] at hT;obtain ⟨⟨⟨D,I⟩,h3⟩,h4⟩:=hT
   have YS:(isAgg f.type).run P w=.ok false w:=by
    cases hd:P.underlying f.type with
    | none=>simp [hd] at h4
    | some d =>
     rw [hd] at h4;unfold isAgg;rw [Sem.run_bind,run_underlying hd w]
     cases d <;> simp_all [x8]
   have LI:vs.toArray[f.offset]?=some v:=by rw [D];simpa using hv
   have Zs:vs[f.offset]?=some v:=by rw [D];exact hv
   simp [execOp,Instr.field,hx,run_underlying hu,hf,part,asAgg,YS,LI,Zs]
  ·cases hT
 ·cases hT
end
end Go.Xw
namespace Go.Xg
open Go.RowKit Go.Xw
open GV (U)
section
variable {P:Program} {m:Nat} {Q:dL} {fr:List GV} {Γ:List Ob} {ops:Array Oper} {rest:List Oper} {d:Option Tmp} {op:Op} {ty:TypeId} {pos:String} {af:Array Edge}
theorem YG.hH {x:Operand} {s:TypeId} {i off:Nat} [hT:ft P s i off 1 false] {cs:List GV} {g:GV} (hx:bg fr x=.agg cs) (hg:cs[off]?=some g):YG P (.field s x i) fr Γ g:=fun B K β w l hI hF=>by
 have h:=hF.ev x;rw [hx] at h;generalize hv:ev l x=v at h
 cases h with
 | agg vs _ hl h =>
  have hi:off < vs.length:=by rw [hl];exact (bh hg).1
  exact ⟨vs[off],R.hH hv zfp,h off _ g zfp hg⟩
abbrev bI (s:ae):List (List GV):=s.map fun c=>[.v (.int .u8 (c.toNat:Int))]
theorem GL.BI {s x:Operand} {t u e:Nat} [hT:CW P t e] [hU:pQ P u] {i n fz:Nat} {rows:List (List GV)} {str:ae} (hx:bg fr x=.v (sv str)) (hs:bg fr s=.vec i n) (bO:Γ[i]?=some (.vec e 1 fz rows)) (hn:rows.length=n) (bZ:str.isEmpty=false)
  (hb:n+str.length<=140737488355328)
  (h:GL P m ops Q rest (bK fr d (.vec i (n+str.length))) (oset Γ i (.vec e 1 fz (rows++bI str)))) :
  GL P m ops Q (⟨d,.call ⟨.builtin .append,#[s,x],#[t,u]⟩,ty,pos,af,none⟩::rest) fr Γ:=fun B K β w l hm hI hF=>by
 subst hn
 have bZ:str≠[]:=by intro h0;rw [h0] at bZ;cases bZ
 obtain ⟨h0,xs,o1,o2,o3,o4,o5,o6⟩:=hI.ob i _ bO;have xB:=hF.ev s;rw [hs] at xB
 have vd:ev l s=h0:=by
  generalize hv:ev l s=v at xB
  cases xB with
  | vec _ _ a c hh =>
   obtain ⟨h',m',e1,e2,e3⟩:=hh;rw [o1] at e1;cases e1;exact e3 rfl
 have pE:(bI str).flatten=str.map fun c=>GV.v (.int .u8 (c.toNat:Int)):=by
  unfold bI;clear hx bZ hb h;generalize str=s
  induction s with
  | nil=>rfl
  | cons c r ih=>simp only [List.map_cons,flatten_cons,ih];rfl
 have hlen:(bI str).length=str.length:=by simp [bI]
 refine WL.BI (base:=0) (v:=h0) (n:=rows.length) (xs:=xs) (str:=str) vd o2 (hF.lO hx) hb (aY _) ?_;intro v' w' how iJ pF va
 obtain ⟨K',hK,kU,bE⟩:=hI.grow bO o1 ⟨o2,o3⟩ (news:=bI str) (ns:=kK str) (by rw [hlen];exact how) iJ pF (by rw [pE];exact (by
   have:(str.map fun c=>GV.v (.int .u8 (c.toNat:Int)))=oy (kK str):=by simp [oy,kK]
   rw [this];exact bm.self)) (fun r hr=>by
   simp only [bI,yJ] at hr;obtain ⟨c,_,rfl⟩:=hr
   exact ⟨rfl,fun g hg=>by rw [List.mem_singleton] at hg;subst hg;rfl⟩) (by intro h0;exact bZ (List.map_eq_nil_iff.1 h0)) (fun b bA o v ho hv=>by
  rcases va with h7 | h7
  ·exact h7.c hv (fun h=>h)
  ·have iG:o < xs.length:=by rw [o2.1];exact wT ho (la 1 o6)
   obtain ⟨b2,c2,kO,_,_,lV⟩:=o2.cells.2 (by intro h0;rw [h0] at iG;simp at iG)
   have dS:b2=b:=by rw [kO] at bA;cases bA;rfl
   subst dS;have Dh:=lV o xs[o] (by simp [iG]);rw [fo,hv] at Dh;cases Dh;obtain ⟨b3,c3,Lo,_,_,Lm⟩:=how.cells.2 (by intro h0;have:xs=[]:=(List.append_eq_nil_iff.1 h0).1;rw [this] at iG;simp at iG)
   have rB:b3=b2:=by rw [Lo,bA] at h7;cases h7;rfl
   subst rB
   rw [<-fo];exact Lm o _ zfz)
 rw [<-bG] at bE;refine h B K' _ w' _ hm bE ((hF.mono hK kU).put d ?_);obtain ⟨a,c,rfl⟩:=how.shape;exact .vec i _ a c ⟨_,_,bD,by simp [hlen],fun _=>by simp [hlen]⟩
end
theorem GF.H9 {P:Program} {f:FuncId} {vs:List Value} {v:Value} (h:∀ K β w,nv K β w->rQ K w->nh P f vs w fun x w'=>x=v/\Ext gR w w'):GF P f (vs.map GV.v) [] (.v v) []:=fun B K β w us hm hI hF=>by
 have hv:us=vs:=by
  obtain ⟨D,I⟩:=hF;apply List.ext_getElem
  ·simpa using D
  ·intro i h3 h4;have:=I i us[i] (.v vs[i]) (by simp [h3]) (by simp [h4]);exact Rel.gS this
 subst hv
 exact (h K β w hI.tab hI.fz).mono fun x w' ⟨D,I⟩=>⟨K,β,.v v,[],hI.same I,by rw [D];exact .v _,rfl,rfl⟩
theorem nv.cell {K:Fz} {β:Bt} {w:World} (h:nv K β w) (hf:rQ K w) {b o:Nat} {x:Value} (hk:∀ m,w5 m b o=some (.v x)):gO w.heap b o=some x:=by
 obtain ⟨m,h⟩:=h.le;obtain ⟨_,v,hv,hr⟩:=hf b o _ (h b o _ (hk m));rw [hv,Rel.gS hr]
theorem nv.maxLen {K:Fz} {β:Bt} {w:World} (h:nv K β w) (hf:rQ K w):∃ m,w.cell? ⟨0,0,none⟩=some (.int .i64 m):=by
 obtain ⟨m,h⟩:=h.le
 have hk:w5 m 0 0=some (.v (.int .i64 m)):=by simp [w5]
 obtain ⟨_,v,hv,hr⟩:=hf _ _ _ (h _ _ _ hk);exact ⟨m,by rw [fo,hv,Rel.gS hr]⟩
theorem sN.all {K:Fz} {β:Bt} {w:World} (h:nv K β w) (hf:rQ K w) {b n:Nat} {zs:List Value} (hb:sN w b n) (hn:zs.length=n) (hk:∀ m o x,zs[o]?=some x->w5 m b o=some (.v x)):∃ E z,w.heap[b]?=some (.cells zs.toArray E z):=by
 obtain ⟨cs,E,z,D,I⟩:=hb;refine ⟨E,z,?_⟩
 have:cs=zs.toArray:=by
  apply Array.ext
  ·simp [I,hn]
  ·intro i hi oN
   have hx:zs[i]?=some zs.toArray[i]:=by simp
   have h3:=h.cell hf (b:=b) (o:=i) (fun m=>hk m i _ hx)
   have h4:gO w.heap b i=cs[i]?:=by rw [<-fo,cell_of_row w b i cs E z D]
   rw [h4] at h3;simpa [hi] using h3
 rw [D,this]
theorem GF.XT {P:Program} {f:FuncId} {vs us:List Value} {E:TypeId} (h:∀ K β w,nv K β w->rQ K w->nh P f vs w fun x w'=>x=.slice (some ⟨w.heap.size,0,none⟩) us.length us.length/\w'=w.alloc (.cells us.toArray E)):GF P f (vs.map GV.v) [] (.sl 1 (us.map fun u=>[.v u])) []:=fun B K β w ws hm hI hF=>by
 have hv:ws=vs:=by
  obtain ⟨D,I⟩:=hF;apply List.ext_getElem
  ·simpa using D
  ·intro i h3 h4;have:=I i ws[i] (.v vs[i]) (by simp [h3]) (by simp [h4]);exact Rel.gS this
 subst hv
 refine (h K β w hI.tab hI.fz).mono fun x w' ⟨D,I⟩=>?_
 subst D;subst I;have hn:=uG.of w (.cells us.toArray E);obtain ⟨hle,bE⟩:=hI.tX hn (cs:=us.map .v) bm.self (fun g hg=>by obtain ⟨u,_,rfl⟩:=yJ.1 hg;rfl);refine ⟨_,β,.sl 1 (us.map fun u=>[.v u]),[],bE,?_,rfl,rfl⟩;have:=Rel.sl (K:=lg K w.heap.size (us.map .v)) (β:=β) w.heap.size 0 us.length 1 (us.map fun u=>[.v u]) (fun i r hr=>?_) zeL
 ·rw [cU] at this;exact this
 ·rw [bP] at hr
  cases hu:us[i]? with
  | none=>rw [hu] at hr;cases hr
  | some u =>
   rw [hu] at hr;cases hr;refine ⟨rfl,fun j g hg=>?_⟩
   cases j with
   | zero=>cases hg;rw [eo,Nat.mul_one,Nat.add_zero];exact uI (by rw [bP,hu];rfl)
   | succ j=>simp at hg
section
variable {B:Bs} {K:Fz} {β:Bt} {Γ:List Ob} {w:World}
theorem Inv.swap {i:Nat} {y:Ob} (h:Inv B K β Γ w) (ho:jD K β w i y):Inv B K β (oset Γ i y) w:=by
 refine ⟨h.ext,h.kle,h.ble,h.loc,h.fz,fun j x hj=>?_,fun j hj=>h.out j zfC,h.dis,h.own,h.kn,h.tab⟩;rw [bG,fq] at hj;split at hj
 ·rename_i fA;split at hj
  ·cases hj;subst fA;exact ho
  ·cases hj
 ·exact h.ob j x hj
theorem Inv.Br {i E k:Nat} {rows:List (List GV)} {x:Value} (h:Inv B K β Γ w) (hi:Γ[i]?=some (.vech E k rows x)):Inv B K β (oset Γ i (.vec E k 0 rows)) w:=by
 obtain ⟨xs,D,I,h3,h4,h5⟩:=h.ob i _ hi;exact h.swap ⟨x,xs,D,I,h3,h4,fun b hb=>⟨fun o _=>h5 b hb o,fun o g ho=>by omega⟩,aY _⟩
theorem Inv.Oh {i E k:Nat} {rows:List (List GV)} (h:Inv B K β Γ w) (hi:Γ[i]?=some (.vec E k 0 rows)):∃ a c,β i=.gr (.slice a rows.length c) rows.length/\Inv B K β (oset Γ i (.vech E k rows (.slice a rows.length c))) w:=by
 obtain ⟨x,xs,D,I,h3,h4,h5,h6⟩:=h.ob i _ hi;obtain ⟨a,c,rfl⟩:=I.shape;exact ⟨a,c,D,h.swap ⟨xs,D,I,h3,h4,fun b hb o=>(h5 b hb).1 o X⟩⟩
theorem pf {i:Nat} {x y:Ob} (h:Γ[i]?=some x):(oset Γ i y)[i]?=some y:=by
 have:=(bh h).1;rw [bG,fq];simp [this]
theorem nP {i:Nat} {x y:Ob}:oset (oset Γ i x) i y=oset Γ i y:=by rw [bG,bG,bG,List.set_set]
theorem Inv.gr {i E k:Nat} {rows:List (List GV)} {x:Value} (h:Inv B K β Γ w) (hi:Γ[i]?=some (.vech E k rows x)):β i=.gr x rows.length:=by
 obtain ⟨xs,D,_⟩:=h.ob i _ hi;exact D
theorem Inv.Bh {i E k:Nat} {rows:List (List GV)} {x:Value} (h:Inv B K β Γ w) (hi:Γ[i]?=some (.vech E k rows x)):∃ K',cZ K K'/\Rel K' β x (.sl k rows)/\Inv B K' β (oset Γ i (.vec E k rows.length rows)) w:=by
 obtain ⟨xs,D,I,h3,h4,h5⟩:=h.ob i _ hi;obtain ⟨K',hK,AH,bE⟩:=(h.Br hi).kG (pf hi);rw [<-bG,nP] at bE;refine ⟨K',hK,?_,bE⟩
 rcases I.2 with ⟨e5,e6⟩ | ⟨g,cap,cu,e5,_,_,s9,_⟩
 ·have:rows=[]:=gk e6;subst this;subst e5;exact .sl0 _ _ _
 ·subst e5;refine .sl g 0 cap k rows (fun j r hr=>⟨(h4 r (bM hr)).1,fun q g' jX=>?_⟩) s9;rw [eo];exact AH _ g D rfl _ g' (tD h4 hr jX)
end
section
variable {P:Program} {m:Nat} {Q:dL} {fr:List GV} {Γ:List Ob} {ops:Array Oper} {rest:List Oper} {d:Option Tmp} {op:Op} {ty:TypeId} {pos:String} {af:Array Edge}
theorem Wk.oD (E k:Nat):Wk m fr Γ fr (Γ++[.vech E k [] (.slice none 0 0)]):=fun B K β w l hm hI hF=>by
 have cE:β Γ.length=.no:=hI.out _ (aD _);have bE:=hI.I4 (w':=w) (E:=E) (k:=k) (x:=.slice none 0 0) (xs:=[]) (rows:=[]) (Ext.refl w) (gV.nil w 0 E k) (fun b hb=>by cases hb) bm.nil (fun r hr=>by cases hr);have hle:dx β (ff β Γ.length (.gr (.slice none 0 0) ([]:List (List GV)).length)):=iO ze9;refine ⟨K,_,?_,hF.mono (cZ.refl K) hle⟩;have hb:ff β Γ.length (.gr (.slice none 0 0) ([]:List (List GV)).length) Γ.length=.gr (.slice none 0 0) ([]:List (List GV)).length:=bD;have:=bE.swap (i:=Γ.length) (y:=.vech E k [] (.slice none 0 0)) ⟨[],hb,gV.nil w 0 E k,bm.nil,(fun r hr=>by cases hr),(fun b hb=>by cases hb)⟩;rw [bG] at this;exact zcb
theorem Wk.VE {t i E k:Nat} {rows:List (List GV)} {x:Value} (ht:cB fr t=.v x) (lW:jg fr t=true) (bO:Γ[i]?=some (.vech E k rows x)):Wk m fr Γ (bN fr t (.sl k rows)) (oset Γ i (.vec E k rows.length rows)):=fun B K β w l hm hI hF=>by
 obtain ⟨K',hK,hr,bE⟩:=hI.Bh bO;refine ⟨K',β,bE,?_⟩;have hv:nth l t=x:=Rel.gS (by rw [<-ht];exact hF.nth t);have:=(hF.mono hK (dx.refl β)).fh t hr;rw [<-hv,Gb (nG hF lW)] at this;exact this
theorem bm.bN {K:Fz} {β:Bt} {x:Value} {g:GV} (hr:Rel K β x g):∀ {vs:List Value} {cs:List GV} {o:Nat},bm K β vs cs->cs[o]?=some (.v x)->bm K β vs (bN cs o g):=by
 intro vs
 induction vs with
 | nil=>intro cs o h ho;exact zc1
 | cons v vs ih =>
  intro cs o h ho
  cases cs with
  | nil=>simp at ho
  | cons c cs =>
   obtain ⟨a1,a2⟩:=h.oT
   cases o with
   | zero=>cases ho;have hv:=Rel.gS a1;subst hv;exact .cons hr a2
   | succ o=>exact .cons a1 (ih a2 (by simpa using ho))
theorem Wk.rh {i o j E k:Nat} {T:TypeId} {cs:List GV} {rows:List (List GV)} {x:Value} (hi:Γ[i]?=some (.box T cs)) (ho:cs[o]?=some (.v x)) (fA:Nat.beq i j=false) (hj:Γ[j]?=some (.vech E k rows x)):Wk m fr Γ fr (oset (oset Γ j (.vec E k rows.length rows)) i (.box T (bN cs o (.sl k rows)))):=fun B K β w l hm hI hF=>by
 have bZ:i≠j:=by intro e;subst e;simp at fA
 obtain ⟨K',hK,hr,bE⟩:=hI.Bh hj;obtain ⟨b,vs,D,I,h3,h4⟩:=bE.ob i (.box T cs) zeY;exact ⟨K',β,bE.swap ⟨b,vs,D,I,bm.bN hr h3 ho,h4⟩,hF.mono hK (dx.refl β)⟩
def fM:List (List GV)->Nat->Nat->GV->List (List GV)
 | [],_,_,_=>[]
 | r::rs,0,o,g=>bN r o g::rs
 | r::rs,n+1,o,g=>r::fM rs n o g
theorem ED:∀ (l:List GV) (o:Nat) (g:GV),(bN l o g).length=l.length
 | [],_,_=>rfl
 | _::l,0,_=>rfl
 | _::l,o+1,g=>by simp [bN,ED l o g]
theorem zG:∀ (a b:List GV) (o:Nat) (g:GV),bN (a++b) (a.length+o) g=a++bN b o g
 | [],b,o,g=>by simp
 | x::a,b,o,g=>by
  rw [List.cons_append,length_cons,show a.length+1+o=(a.length+o)+1 by omega,bN,zG a b o g];rfl
theorem C7:∀ (a b:List GV) (o:Nat) (g:GV),o < a.length->bN (a++b) o g=bN a o g++b
 | [],b,o,g,h=>by simp at h
 | x::a,b,0,g,h=>rfl
 | x::a,b,o+1,g,h=>by simp [bN,C7 a b o g zeO]
theorem Od {l:List GV} {o:Nat} {g x:GV} (h:x∈bN l o g):x∈l\/x=g:=by
 induction l generalizing o with
 | nil=>cases h
 | cons y l ih =>
  cases o with
  | zero =>
   simp only [bN,List.mem_cons] at h;rcases h with h | h
   ·exact .inr h
   ·exact .inl (di _ h)
  | succ o =>
   simp only [bN,List.mem_cons] at h;rcases h with h | h
   ·exact .inl (by rw [h];exact mem_cons_self)
   ·exact (ih h).imp (di _) id
theorem dG:∀ (rows:List (List GV)) (i o:Nat) (g:GV),(fM rows i o g).length=rows.length
 | [],_,_,_=>rfl
 | r::rs,0,_,_=>rfl
 | r::rs,n+1,o,g=>by simp [fM,dG rs n o g]
theorem ui {k:Nat} {o:Nat} {g:GV} (ho:o < k):∀ {rows:List (List GV)} {i:Nat},jk k rows->i < rows.length->(fM rows i o g).flatten=bN rows.flatten (i * k+o) g
 | [],_,_,h=>by simp at h
 | r::rs,0,hk,_=>by
  have:=(hk r (mem_cons_self)).1;rw [fM,flatten_cons,flatten_cons,Nat.zero_mul,eo,C7 _ _ _ _ X]
 | r::rs,n+1,hk,h=>by
  have:=(hk r (mem_cons_self)).1;rw [fM,flatten_cons,flatten_cons,ui ho (fun r hr=>hk r (di _ hr)) zeO,show (n+1) * k+o=r.length+(n * k+o) by rw [Nat.succ_mul];omega,zG]
theorem yz {k:Nat} {o:Nat} {g:GV} (hg:g.pc=true):∀ {rows:List (List GV)} {i:Nat},jk k rows->jk k (fM rows i o g)
 | [],_,_=>fun r hr=>by cases hr
 | r::rs,0,hk=>fun r' hr=>by
  simp only [fM,List.mem_cons] at hr
  rcases hr with rfl | hr
  ·exact ⟨by rw [ED];exact (hk r mem_cons_self).1,fun x hx=>by
    rcases Od hx with h | h
    ·exact (hk r mem_cons_self).2 x h
    ·rw [h];exact hg⟩
  ·exact hk r' (di _ hr)
 | r::rs,n+1,hk=>fun r' hr=>by
  simp only [fM,List.mem_cons] at hr
  rcases hr with rfl | hr
  ·exact hk _ mem_cons_self
  ·exact yz hg (fun r hr=>hk r (di _ hr)) r' hr
theorem FL {a b:List (List GV)} {r:List GV} {o:Nat} {g:GV}:fM (a++r::b) a.length o g=a++bN r o g::b:=by
 induction a with
 | nil=>rfl
 | cons x a ih=>rw [List.cons_append,length_cons,fM,ih];rfl
theorem Wk.JY {i idx o j E k T k':Nat} {rows ks:List (List GV)} {x h:Value} {r:List GV} (hi:Γ[i]?=some (.vech T k rows h)) (hr:rows[idx]?=some r) (ho:r[o]?=some (.v x)) (fA:Nat.beq i j=false) (hj:Γ[j]?=some (.vech E k' ks x)) :
  Wk m fr Γ fr (oset (oset Γ j (.vec E k' ks.length ks)) i (.vech T k (fM rows idx o (.sl k' ks)) h)):=fun B K β w l hm hI hF=>by
 have bZ:i≠j:=by intro e;subst e;simp at fA
 obtain ⟨K',hK,iL,bE⟩:=hI.Bh hj;obtain ⟨xs,D,I,h3,h4,h5⟩:=bE.ob i (.vech T k rows h) zeY;have ar:=(bh hr).1
 have xt:o < k:=by rw [<-(h4 r (bM hr)).1];exact (bh ho).1
 exact ⟨K',β,bE.swap ⟨xs,by rw [dG];exact D,by rw [dG];exact I,by rw [ui xt h4 ar];exact bm.bN iL h3 (tD h4 hr ho),yz rfl h4,h5⟩,hF.mono hK (dx.refl β)⟩
theorem YG.aM {x y:Operand} {t e:TypeId} {k:Nat} [hT:nt P t e k] (i:Nat) {v:Value} {kk:IntKind} {j E:Nat} {rows:List (List GV)} (hx:bg fr x=.v v) (hy:bg fr y=.v (.int kk j)) (bO:Γ[i]?=some (.vech E k rows v)) (hj:j < rows.length):YG P (.indexAddr t x y) fr Γ (.vp i rows.length k j 0):=fun B K β w l hI hF=>by
 have hv:=hF.lO hx;obtain ⟨xs,D,I,h3,h4,h5⟩:=hI.ob i _ bO
 rcases I.2 with ⟨h8,h9⟩ | ⟨g,cap,cur,h8,_,hg,_⟩
 ·omega
 ·subst h8;exact ⟨_,R.jd hv (hF.lO hy) hj,.vp i _ k j 0 _ ⟨_,_,D,aD _,fun _=>⟨g,rfl,by simp⟩⟩⟩
theorem YG.SG {x:Operand} {s:TypeId} {f off k:Nat} {agg:Bool} [hT:ft P s f off k agg] {i n k' idx o E:Nat} {rows:List (List GV)} {v:Value} (hx:bg fr x=.vp i n k' idx o) (bO:Γ[i]?=some (.vech E k' rows v)) (hn:rows.length=n):YG P (.fieldAddr s x f) fr Γ (.vp i n k' idx (o+off)):=fun B K β w l hI hF=>by
 have h:=hF.ev x;rw [hx] at h;generalize hv:ev l x=u at h
 cases h with
 | vp _ _ _ _ _ _ h =>
  obtain ⟨h0,m,D,I,h3⟩:=h;rw [hI.gr bO] at D;cases D;obtain ⟨b,hb,rfl⟩:=h3 hn;exact ⟨_,R.N7 hv,.vp i n k' idx _ _ ⟨_,_,hI.gr bO,I,fun _=>⟨b,hb,by rw [iD]⟩⟩⟩
theorem YG.WA {x:Operand} {t:TypeId} [hT:Ty P t false 1] {i n k idx o E:Nat} {rows:List (List GV)} {v:Value} {r:List GV} {g:GV} (hx:bg fr x=.vp i n k idx o) (bO:Γ[i]?=some (.vech E k rows v)) (hn:rows.length=n) (hr:rows[idx]?=some r) (hg:r[o]?=some g):YG P (.load t x) fr Γ g:=fun B K β w l hI hF=>by
 have h:=hF.ev x;rw [hx] at h;generalize hv:ev l x=u at h
 cases h with
 | vp _ _ _ _ _ _ h =>
  obtain ⟨h0,m,D,I,h3⟩:=h;obtain ⟨xs,h4,h5,h6,h7,_⟩:=hI.ob i _ bO;rw [D] at h4;cases h4;obtain ⟨b,hb,rfl⟩:=h3 hn;obtain ⟨u,hu,iL⟩:=h6.at (tD h7 hr hg);obtain ⟨b2,c,he,_,_,hc⟩:=h5.cells.2 (by intro h0;rw [h0] at hu;simp at hu);subst he;cases hb;exact ⟨u,R.ld hv (by rw [<-fo];exact hc _ _ hu),iL⟩
theorem Gc {v:Value}:∀ (l:List Value) (n o:Nat),o < n->(fh l o v).take n=fh (l.take n) o v
 | [],n,o,h=>by simp [fh]
 | x::l,0,o,h=>by omega
 | x::l,n+1,0,h=>by simp [fh]
 | x::l,n+1,o+1,h=>by simp [fh,Gc l n o X]
theorem wO {v:Value}:∀ (l:List Value) (o:Nat),(fh l o v).length=l.length
 | [],o=>rfl
 | x::l,0=>rfl
 | x::l,o+1=>by simp [fh,wO l o]
theorem GL.Dz {x y:Operand} {t:TypeId} [hT:Ty P t false 1] {i n k idx o E:Nat} {rows:List (List GV)} {v:Value} {r:List GV} {g:GV} (hx:bg fr x=.vp i n k idx o) (bO:Γ[i]?=some (.vech E k rows v)) (hn:rows.length=n) (hr:rows[idx]?=some r) (xt:Nat.blt o r.length=true)
  (hy:lR (bg fr y)=some [g]) (D:g.one=true) (hp:g.pc=true) (h:GL P m ops Q rest (bK fr d (.v undef)) (oset Γ i (.vech E k (fM rows idx o g) v))):GL P m ops Q (⟨d,.store t x y,ty,pos,af,none⟩::rest) fr Γ:=fun B K β w l hm hI hF=>by
 have Tx:=hF.ev x;rw [hx] at Tx;generalize hv:ev l x=u at Tx
 cases Tx with
 | vp _ _ _ _ _ _ hh =>
  obtain ⟨h0,mm,e1,e2,e3⟩:=hh;obtain ⟨xs,h4,h5,h6,h7,h8⟩:=hI.ob i _ bO;rw [e1] at h4;cases h4;obtain ⟨b,hb,rfl⟩:=e3 hn;have ar:=(bh hr).1
  have Tq:o < k:=by rw [<-(h7 r (bM hr)).1];simpa using xt
  obtain ⟨us,mr,mQ⟩:=(hF.ev y).cells hy
  obtain ⟨u1,rfl⟩:∃ u1,us=[u1]:=by
   have:=mQ.1
   match us,this with
   | [u1],_=>exact ⟨u1,rfl⟩
  have Wq:Rel K β u1 g:=mQ.2 0 u1 g rfl rfl
  have hq:idx * k+o < rows.length * k:=by
   have:(idx+1) * k<=rows.length * k:=la k ar;rw [Nat.succ_mul] at this;omega
  rcases h5.2 with ⟨e5,e6⟩ | ⟨g0,cap,cur,e5,UR,hg,s9,Da,fJ,kB⟩
  ·omega
  ·subst e5;simp only [Value.ownBlock,Option.some.injEq] at hb;subst hb;have aae:rows.length * k<=cap * k:=la k s9
   refine WL.st (t:=t) (k:=1) hv rfl hg (by rw [mr];rfl) X (by rw [mr];have:=(wG (Wq.one D)).2;simpa [Xw.mA] using this) fun w' hs=>?_
   rw [mr] at hs
   have nD:uA cur (idx * k+o) ([u1]:List Value)=(fh cur.toList (idx * k+o) u1).toArray:=by
    simp only [uA];rw [<-Bu]
   simp only [List.toList_toArray,nD] at hs
   have DP:rows.flatten.length=rows.length * k:=by rw [<-h6.1];exact h5.1
   have how:gV w' 0 E k (.slice (some ⟨g0,0,none⟩) rows.length cap) rows.length (fh xs (idx * k+o) u1) :=
    ⟨by rw [wO];exact h5.1,.inr ⟨g0,cap,_,rfl,UR,hs.blk,s9,Da,by simp [wO,fJ],by rw [List.toList_toArray,Gc _ _ _ hq,kB]⟩⟩
   have iL:bm K β (fh xs (idx * k+o) u1) (bN rows.flatten (idx * k+o) g):=by
    have gen:∀ (vs:List Value) (cs:List GV) (q:Nat),bm K β vs cs->bm K β (fh vs q u1) (bN cs q g):=by
     intro vs
     induction vs with
     | nil=>intro cs q h;have:cs=[]:=gk h.1.symm;subst this;exact h
     | cons v vs ih =>
      intro cs q h
      cases cs with
      | nil=>have:=h.1;simp at this
      | cons c cs =>
       obtain ⟨a1,a2⟩:=h.oT
       cases q with
       | zero=>exact .cons Wq a2
       | succ q=>exact .cons a1 (ih cs q a2)
    exact gen _ _ _ h6
   have ea:(β i).has g0:=by rw [e1];exact rfl
   have bE:Inv B K β (oset Γ i (.vech E k (fM rows idx o g) (.slice (some ⟨g0,0,none⟩) rows.length cap))) w':=by
    refine ⟨hI.ext.step hs.ext (fun j hj=>?_),hI.kle,hI.ble,hI.loc,hI.fz.ext hs.ext (fun b' o' g' jX he=>?_),fun j y hj=>?_,fun j hj=>hI.out j zfC,hI.dis,hI.own,hI.kn,hI.tab.step hs.ext (fun j hj=>⟨i,by subst hj;exact ea⟩) (cZ.refl K) (fun i b2 h=>.inl ⟨i,h⟩)⟩
    ·subst hj;exact (hI.own i _ ea).symm
    ·subst he;rw [h8 _ rfl] at jX;cases jX
    ·rw [bG,fq] at hj;split at hj
     ·rename_i fA;split at hj
      ·cases hj;subst fA
       exact ⟨_,by rw [dG];exact e1,by rw [dG];exact how,by rw [ui Tq h7 ar];exact iL,yz hp h7,h8⟩
      ·cases hj
     ·rename_i fA;refine (hI.ob j y hj).ext hs.ext (fun b' bA he=>?_) (cZ.refl K) (dx.refl β) rfl (fun _ _ _ h=>h);subst he;exact fA (hI.dis i j _ ea bA)
   exact h B K β w' _ hm bE (hF.put d (.v _))
theorem GL.qe {x:Operand} {ts:Tmp} {t e k mK:Nat} {z:List Value} [hT:rZ P t e k mK] [hZ:qp P t e k z] {d1 dt:Tmp} {MQ:TypeId} {FE:String} {Kq:Array Edge} (i:Nat) {n:Nat} {rows:List (List GV)} {gs:List GV} {v:Value}
  (hx:lR (bg fr x)=some gs) (hk:Nat.beq gs.length k=true) (D:mC gs=true) (hp:qz gs=true) (hs:cB fr ts=.v v) (TA:Nat.beq ts d1=false) (hd:jg fr d1=true) (bO:Γ[i]?=some (.vech e k rows v)) (hn:rows.length=n)
  (hb:(n+1<=9223372036854775807/\(n+1) * mK<=140737488355328)/\k<=16777216)
  (h:∀ a c,GL P m ops Q rest (bK (bK fr (some d1) U) (some dt) (.v (.slice a (n+1) c))) (oset Γ i (.vech e k (rows++[gs]) (.slice a (n+1) c)))) :
  GL P m ops Q (⟨some d1,.buildSlice t 1 #[(0,x)],MQ,FE,Kq,none⟩::⟨some dt,.call ⟨.builtin .append,#[.tmp ts,.tmp d1],#[t,t]⟩,ty,pos,af,none⟩::rest) fr Γ:=fun B K β w l hm hI hF=>by
 subst hn;obtain ⟨us,mr,mQ⟩:=(hF.ev x).cells hx;obtain ⟨xs,o1,o2,o3,o4,o5⟩:=hI.ob i _ bO;have vd:nth l ts=v:=Rel.gS (by rw [<-hs];exact hF.nth ts);have AG:=nG hF hd
 have XA:ts≠d1:=by intro e;subst e;simp at TA
 have eZ:gs.length=k:=by simpa using hk
 refine WL.push (base:=0) (v:=v) (vs:=us) (val:=ev l x) (xs:=xs) (n:=rows.length) rfl (fun u=>by rw [show ev (put l (some d1) u) (.tmp ts)=nth (fh l d1 u) ts from rfl,n9 XA];exact vd) (fun u=>sC AG u) mr (by rw [mQ.1,eZ]) (mQ.mA D) o2 hb.1.1 hb.1.2 hb.2 (aY _) ?_;intro u v' w' how iJ pF va;obtain ⟨K',hK,kU,bE⟩:=(hI.Br bO).grow (fz:=0) (pf bO) o1 ⟨o2,o3⟩ (news:=[gs]) (ns:=us) how iJ pF (by simpa using mQ) (fun r hr=>by simp at hr;subst hr;exact ⟨eZ,l7 hp⟩) zeL (fun b bA o v ho hv=>by omega);rw [<-bG,nP] at bE;obtain ⟨a,c,sW,sV⟩:=bE.Oh (pf bO);rw [nP] at sV;obtain ⟨a',c',rfl⟩:=how.shape;rw [bD] at sW;simp only [aJ,length_cons,List.length_nil] at sW sV kU;cases sW;exact h _ _ B K' _ w' _ hm sV (((hF.mono hK kU).put (some d1) (.U u)).put (some dt) (.v _))
theorem GL.sQ {s x:Operand} {t e k mK:Nat} [hT:rZ P t e k mK] (i:Nat) {n:Nat} {dt:Tmp} {v:Value} {rows news:List (List GV)} (hx:bg fr x=.sl k news) (hs:bg fr s=.v v) (bO:Γ[i]?=some (.vech e k rows v)) (hn:rows.length=n) (D:A8 news=true) (bZ:news.isEmpty=false)
  (hb:n+news.length<=9223372036854775807/\(n+news.length) * mK<=140737488355328)
  (h:∀ a c,GL P m ops Q rest (bK fr (some dt) (.v (.slice a (n+news.length) c))) (oset Γ i (.vech e k (rows++news) (.slice a (n+news.length) c)))) :
  GL P m ops Q (⟨some dt,.call ⟨.builtin .append,#[s,x],#[t,t]⟩,ty,pos,af,none⟩::rest) fr Γ:=fun B K β w l hm hI hF=>by
 subst hn
 have bZ:news≠[]:=by intro h0;rw [h0] at bZ;cases bZ
 obtain ⟨xs,o1,o2,o3,o4,o5⟩:=hI.ob i _ bO;have vd:ev l s=v:=hF.lO hs;have E2:=hF.ev x;rw [hx] at E2;generalize xD:ev l x=vx at E2
 cases E2 with
 | sl0 a c k=>exact absurd rfl bZ
 | sl b o c _ _ hr _ =>
  have lE:jk k news:=fun r LC=>by
   exact zbc
  have DP:∀ (rows:List (List GV)) (o:Nat),(∀ (j:Nat) r,rows[j]?=some r->r.length=k/\∀ (q:Nat) g,r[q]?=some g->K b (o+j * k+q)=some g)->∀ (q:Nat) g,rows.flatten[q]?=some g->K b (o+q)=some g:=by
   intro rows
   induction rows with
   | nil=>intro o _ q g hg;simp at hg
   | cons r rows ih =>
    intro o h q g hg;rw [flatten_cons] at hg;have hl:=(h 0 r rfl).1
    by_cases hq:q < r.length
    ·rw [il hq] at hg;have:=(h 0 r rfl).2 q g hg;exact zcb
    ·rw [jO X,hl] at hg
     have:=ih (o+k) (fun j r' hj=>by
      have:=h (j+1) r' ze1;refine ⟨this.1,fun q g hg=>?_⟩;have:=this.2 q g hg
      rw [show o+(j+1) * k+q=o+k+j * k+q by rw [Nat.succ_mul];omega] at this;exact this) (q - k) g hg
     rw [show o+k+(q - k)=o+q by omega] at this;exact this
  obtain ⟨us,mr,mQ⟩:=vU (K:=K) (β:=β) (H:=w.heap) (b:=b) news.flatten o (fun j g hj=>by
   obtain ⟨hp,u,hu,iL⟩:=hI.fz _ _ _ (DP news o (fun j r hj=>hr j r hj) j g hj)
   exact ⟨u,hu,iL.pc hp⟩)
  have De:us.length=news.length * k:=by
   rw [mr.1,List.length_flatten]
   have:∀ (rows:List (List GV)),jk k rows->(rows.map List.length).sum=rows.length * k:=by
    intro rows
    induction rows with
    | nil=>intro _;simp
    | cons r rows ih =>
     intro hk;rw [List.map_cons,List.sum_cons,ih (fun r hr=>hk r (di _ hr)),(hk r (mem_cons_self)).1,length_cons,Nat.succ_mul];omega
   exact this news lE
  refine WL.app (base:=0) (v:=v) (n:=rows.length) (m:=news.length) (xs:=xs) (news:=us) vd o2 xD De (fun j u hj=>by rw [fo];exact mQ j u hj) (mr.mA (A9 D)) hb.1 hb.2 (aY _) ?_;intro v' w' how iJ pF va;obtain ⟨K',hK,kU,bE⟩:=(hI.Br bO).grow (fz:=0) (pf bO) o1 ⟨o2,o3⟩ (news:=news) (ns:=us) how iJ pF mr lE bZ (fun b bA o v ho hv=>by omega);rw [<-bG,nP] at bE;obtain ⟨a,c,sW,sV⟩:=bE.Oh (pf bO);rw [nP] at sV;obtain ⟨a',c',rfl⟩:=how.shape;rw [bD] at sW;simp only [aJ] at sW sV kU;cases sW;exact zdG
end
end Go.Xg
