/- Part 8 of proofs that are told in their last texts. -/
import Derived.Test.YtcoplmnahnipiaaGreatDoorQ7
import Derived.Laws.StructEq
import Derived.Test.YtcoplmnahnipiaaGreatDoorQ1
import Derived.Test.YtcoplmnahnipiaaGreatDoorQ5
import Derived.Test.YtcoplmnahnipiaaGreatDoorQ2
import Derived.Test.YtcoplmnahnipiaaGreatDoorQ6
import Derived.Test.YtcoplmnahnipiaaGreatDoorQ3
open List (all_eq_true append_nil cons_append ext_getElem? getElem?_cons_succ getElem?_eq_getElem getElem?_eq_none getElem?_map getElem?_mapIdx length_append length_cons length_drop length_map length_nil length_take map_append map_nil mem_of_getElem? mem_singleton nil_append take_add_one take_length)
set_option linter.unusedVariables false
set_option linter.unusedSimpArgs false
set_option maxRecDepth 100000
set_option maxHeartbeats 2000000
namespace Go.Xg
open Go.RowKit Go.Xw Go.Proofs
open Go.Xp (Nd Ar)
open Go.Im (y9 ff ry rz sU lN nu)
theorem Wp (w:World) (s s':ah) (n n':Int):(Op.equalIn 10000 88 (.agg #[sv s,ii n]) (.agg #[sv s',ii n'])).run Tryz.prog w=.ok ((s==s')&&(n==n')) w:=by
 have hf:(Tryz.prog.fieldsOf 88).toList=[(Tryz.prog.fieldsOf 88)[0]!,(Tryz.prog.fieldsOf 88)[1]!]:=by kernel_rfl
 have a0:((Tryz.prog.fieldsOf 88)[0]!).type=9:=by kernel_rfl
 have a1:((Tryz.prog.fieldsOf 88)[1]!).type=3:=by kernel_rfl
 have b0:((Tryz.prog.fieldsOf 88)[0]!).offset=0:=by kernel_rfl
 have b1:((Tryz.prog.fieldsOf 88)[1]!).offset=1:=by kernel_rfl
 have c0:((Tryz.prog.fieldsOf 88)[0]!).name = "Name" := by kernel_rfl
 have c1:((Tryz.prog.fieldsOf 88)[1]!).name = "Size" := by kernel_rfl
 rw [show (10000:Nat)=9999+1 from rfl,run_equalIn_agg w 9999 _ _ _ (by kernel_rfl) (by kernel_rfl),hf];generalize (Tryz.prog.fieldsOf 88)[0]! = f0 at *;generalize (Tryz.prog.fieldsOf 88)[1]! = f1 at *
 have hs:Tryz.prog.underlying 9=some .string:=by kernel_rfl
 have hi:Tryz.prog.underlying 3=some (.int .i64):=by kernel_rfl
 have p0:∀ (a:ah) (b:Int) w,(part f0.type #[sv a,ii b] f0.offset).run Tryz.prog w=.ok (sv a) w:=fun a b w=>by
  rw [a0,b0];rfl
 have p1:∀ (a:ah) (b:Int) w,(part f1.type #[sv a,ii b] f1.offset).run Tryz.prog w=.ok (ii b) w:=fun a b w=>by
  rw [a1,b1];rfl
 have e0:∀ w,(Op.equalIn 9999 f0.type (sv s) (sv s')).run Tryz.prog w=.ok (s==s') w:=fun w=>by
  rw [a0,show (9999:Nat)=9998+1 from rfl];have:=run_equalIn_string (P:=Tryz.prog) w 9998 9 ⟨s.toArray⟩ ⟨s'.toArray⟩ hs;rw [show sv s=.string ⟨s.toArray⟩ from rfl,show sv s'=.string ⟨s'.toArray⟩ from rfl,this];simp [toList_mk]
 have e1:∀ w,(Op.equalIn 9999 f1.type (ii n) (ii n')).run Tryz.prog w=.ok (n==n') w:=fun w=>by
  rw [a1,show (9999:Nat)=9998+1 from rfl];exact run_equalIn_int (P:=Tryz.prog) w 9998 3 .i64 .i64 n n' hi
 have n0:f0.name ≠ "_" := by rw [c0];decide
 have n1:f1.name ≠ "_" := by rw [c1];decide
 rw [Op.eqFields,if_pos n0];simp only [Sem.run_bind,p0,Result.andThen_ok,e0]
 cases s==s' with
 | false=>simp
 | true =>
  simp only [Bool.not_true,Bool.false_eq_true,if_false,Bool.true_and];rw [Op.eqFields,if_pos n1];simp only [Sem.run_bind,p1,Result.andThen_ok,e1]
  cases n==n' with
  | false=>simp
  | true=>simp [Op.eqFields]
theorem YG.Vt {fr:List GV} {Γ:List Ob} {x y:Operand} {t':TypeId} {s s':ah} {n n':Int} (hx:aX fr x=.agg [.v (sv s),.v (ii n)]) (hy:aX fr y=.agg [.v (sv s'),.v (ii n')]) :
  YG Tryz.prog (.binOp .neq 88 x y t') fr Γ (.v (.bool (!((s==s')&&(n==n'))))):=fun B K β w l hI hF=>by
 have two:∀ {v:Value} {a b:Value},Rel K β v (.agg [.v a,.v b])->v=.agg #[a,b]:=fun {v a b} h=>by
  cases h with
  | agg vs _ hl hh =>
   match vs,hl with
   | [u1,u2],_ =>
    have h1:=Rel.eC (hh 0 u1 (.v a) rfl rfl);have h2:=Rel.eC (hh 1 u2 (.v b) rfl rfl);rw [h1,h2]
 have rH:=two (by rw [<-hx];exact hF.ev x);have U8:=two (by rw [<-hy];exact hF.ev y);refine ⟨_,fun d ty pos af=>?_,.v _⟩;have hg:=run_eqGuard_agg (P:=Tryz.prog) w .neq 88 x y #[sv s,ii n] #[sv s',ii n'] (by kernel_rfl);have hn:=run_neq_struct (P:=Tryz.prog) w 88 #[sv s,ii n] #[sv s',ii n'];rw [Wp,Result.andThen_ok] at hn;simp [execOp,rH,U8,hg,hn]
attribute [local irreducible] GW GL GO YG GC GA aU aZ
theorem RY (a b:List Ar) (ha:a.length<=1099511627776) (hb:b.length<=1099511627776):GF Tryz.prog 165 [(.sl 2 (a.map fun s=>aD s)),(.sl 2 (b.map fun s=>aD s))] [] (.v (.bool (ff y9 a b))) []:=by
 have ky:(a.map fun s=>aD s).length=a.length:=by simp
 have qu:(b.map fun s=>aD s).length=b.length:=by simp
 by_cases hl:a.length=b.length
 ·have hd:(((a.map fun s=>aD s).length:Int) != ((b.map fun s=>aD s).length:Int))=false:=by rw [ky,qu,hl];simp
  refine ai Tryz.func165 Tryz.ntmps165 ?_;refine GW.range (a.map fun s=>aD s).length (fun k fr Γ=>fr=[(.sl 2 (a.map fun s=>aD s)),(.sl 2 (b.map fun s=>aD s)),.U,.U,.U,.U,.U,.U,.U,.U,.U,.U,.v (ii ((a.map fun s=>aD s).length:Int)),.v (ii (k:Nat)),.U,.U,.U,.U,.U,.U,.U,.U,.U,.U,.U,.U]/\Γ=[]/\sU y9 a b k) ?_ ag ?_ ?_ ?_
  ·exact ⟨_,_,Wk.aC aq,rfl,rfl,fun j x y h=>by omega⟩
  ·exact gx
  ·rintro k _ _ ak ⟨rfl,rfl,kB⟩;rw [ky] at ak
   have ng:a[k]?=some a[k]:=by simp [ak]
   have pR:k < b.length:=by omega
   have oF:b[k]?=some b[k]:=by simp [pR]
   have Fm:(a.map fun s=>aD s)[k]?=some (aD a[k]):=by rw [getElem?_map,ng];rfl
   have Fo:(b.map fun s=>aD s)[k]?=some (aD b[k]):=by rw [getElem?_map,oF];rfl
   generalize a[k]=x at *;generalize b[k]=y at *;unfold aD at Fm Fo
   cases iU:y9 x y with
   | true =>
    have bO:(!((x.name==y.name)&&(x.size==y.size)))=false:=by rw [show ((x.name==y.name)&&(x.size==y.size))=y9 x y from rfl,iU];rfl
    refine ae ?_;refine aI (aB 0 9 .nil) ?_;refine ar ?_;apply OP
    ·exact rfl
    ·intro Γ;exact YG.Vt rfl rfl
    refine Ec ?_;refine bf ?_;exact ⟨rfl,rfl,_,_,Wk.aC aq,rfl,rfl,lN ng oF kB iU⟩
   | false =>
    have bO:(!((x.name==y.name)&&(x.size==y.size)))=true:=by rw [show ((x.name==y.name)&&(x.size==y.size))=y9 x y from rfl,iU];rfl
    rw [rz ng oF (p:=y9) iU];refine ae ?_;refine aI (aB 0 9 .nil) ?_;refine ar ?_;apply OP
    ·exact rfl
    ·intro Γ;exact YG.Vt rfl rfl
    refine Ec ?_;refine ar ?_;exact av
  ·rintro _ _ ⟨rfl,rfl,kB⟩;rw [ky] at kB;rw [nu hl kB];exact av
 ·have hd:(((a.map fun s=>aD s).length:Int) != ((b.map fun s=>aD s).length:Int))=true:=by rw [ky,qu];simpa using by omega
  rw [ry hl];refine ai Tryz.func165 Tryz.ntmps165 ?_;exact al
end Go.Xg
set_option maxHeartbeats 1000000
namespace Go.Xg
open Go.RowKit Go.Xw Go.Proofs
open Go.Xp (Tok Nd T bh one levels gm dL ed dr dc ox)
open Go.Sp Go.Im
attribute [local irreducible] GW GL GO YG GC GA aU aZ
structure HE (f:Nat):Prop where
 expr:∀ d p t q x,p.ok->d+f<=1099511627776->iE f (.expr d) p=some (t,q)->GF Tryz.prog 288 [.loc 0 0,.v (ii (d:Nat))] [bK p x] (qT t) [bK q x]
 level:∀ k d p t q x,p.ok->k<=9->d+f<=1099511627776->iE f (.level k d) p=some (t,q)->GF Tryz.prog 299 [.loc 0 0,.v (ii (k:Nat)),.v (ii (d:Nat))] [bK p x] (qT t) [bK q x]
 operand:∀ d p t q x,p.ok->d+f<=1099511627776->iE f (.operand d) p=some (t,q)->GF Tryz.prog 304 [.loc 0 0,.v (ii (d:Nat))] [bK p x] (qT t) [bK q x]
 exprs:∀ d p l q x,p.ok->d+f<=1099511627776->iA f d [] p=some (l,q)->GF Tryz.prog 306 [.loc 0 0,.v (ii (d:Nat))] [bK p x] (.sl 1 (kc l)) [bK q x]
theorem GM:GF Tryz.prog 271 [.v (ii 0),.v (ii 0),.v (sv []),.sl 1 []] [] (qT T.zero) []:=ew 0 0 [] [] [] rfl
theorem TV {f:Nat} (C:HE f) (d:Nat) (p:RS) (t:T) (q:RS) (x:PX) (hp:p.ok) (hd:d+(f+1)<=1099511627776) (h:iE (f+1) (.expr d) p=some (t,q)) :
  GF Tryz.prog 288 [.loc 0 0,.v (ii (d:Nat))] [bK p x] (qT t) [bK q x]:=by
 rw [iE] at h;have dE:=vW p d x hp
 by_cases hc:(bM p d).code=0
 ·have dq:((bM p d).code==0)=true:=by simpa using hc
  rw [if_pos hc] at h;rw [dq] at dE;rw [oA hc] at h dE;have hl:=C.level 0 (d+1) p t q x hp ag ag h;refine ai Tryz.func288 Tryz.ntmps288 ?_;refine ab [0] dE ?_;refine ab [0] hl ?_;exact al
 ·have dq:((bM p d).code==0)=false:=by simpa using hc
  rw [if_neg hc] at h;rw [dq] at dE;cases h;refine ai Tryz.func288 Tryz.ntmps288 ?_;refine ab [0] dE ?_;refine ab [] GM ?_;exact al
theorem SL {f:Nat} (C:∀ f',f'<=f->HE f') (k d:Nat) (p:RS) (t:T) (q:RS) (x:PX) (hp:p.ok) (hk:k<=9) (hd:d+(f+1)<=1099511627776) (h:iE (f+1) (.level k d) p=some (t,q)) :
  GF Tryz.prog 299 [.loc 0 0,.v (ii (k:Nat)),.v (ii (d:Nat))] [bK p x] (qT t) [bK q x]:=by
 rw [iE] at h
 by_cases AZ:k=9
 ·subst AZ;rw [if_pos rfl] at h;have ho:=(C f (Nat.le_refl _)).operand d p t q x hp ag h;refine ai Tryz.func299 Tryz.ntmps299 ?_;refine ab [] tu ?_;refine ab [0] ho ?_;exact al
 ·rw [if_neg AZ] at h
  have Zc:((k:Int)==9)=false:=by simp;omega
  cases he:iE f (.level (k+1) d) p with
  | none=>rw [he] at h;cases h
  | some r =>
   obtain ⟨out,p1⟩:=r;rw [he] at h;simp only at h;have lA:=((iV f).1 _ _ _ _ hp he).ok hp;have hl:=(C f (Nat.le_refl _)).level (k+1) d p out p1 x hp ag ag he;refine ai Tryz.func299 Tryz.ntmps299 ?_;refine ab [] tu ?_;refine ab [0] hl ?_;refine GW.loop (fun z:Nat × T × RS=>z.1) (fun z fr Γ=>fr=[.loc 0 0,.v (ii (k:Nat)),.v (ii (d:Nat)),.U,.U,.U,.U,qT z.2.1,.U,.U,.U,.U,.U,.U,.U,.U,.U,.U,.U,.U,.U,.U,.U,.U,.U,.U,.U,.U,.U,.U,.U,.U,.U,.U,.U,.U,.U,.U,.U,.U,.U,.U,.U,.U,.U,.U,.U,.U,.U,.U,.U,.U,.U,.U,.U,.U,.U,.U,.U,.U,.U,.U,.U,.U]/\Γ=[bK z.2.2 x]/\z.2.2.ok/\z.1<=f/\iE z.1 (.loop k d z.2.1) z.2.2=some (t,q)) (f,out,p1) ?_ ?_
   ·exact ⟨_,_,Wk.aC aq,rfl,rfl,lA,Nat.le_refl _,h⟩
   ·clear h he hl;rintro ⟨g,out,p⟩ _ _ ⟨rfl,rfl,hp,MP,h⟩;simp only at hp MP h
    cases g with
    | zero=>simp [iE] at h
    | succ g =>
    rw [iE] at h
    have hk:k < 9:=by omega
    have ht:=rp p 0 x hp aJ
    by_cases hc:p.code=0
    ·have dq:(p.code==0)=true:=by simpa using hc
     by_cases h3:(tok p 0).kind=3
     ·have jX:((tok p 0).kind==3)=true:=by simpa using h3
      have Rb:=IJ hk;have Q6:=kp (levels.getD k []) (tok p 0).s (Cc k hk)
      by_cases hit:(levels.getD k []).contains (tok p 0).s=true
      ·rw [if_pos ⟨hc,h3,hit⟩] at h;rw [hit] at Q6;have ak:p.i < p.l.length:=rP (k:=0) ag;have cQ:=hp.2
       cases hb:iE g (.level (k+1) d) p.next with
       | none=>rw [hb] at h;cases h
       | some r =>
        obtain ⟨b,p2⟩:=r;rw [hb] at h;simp only at h;have de:=(dv ak).ok hp;have dF:=((iV g).1 _ _ _ _ de hb).ok de
        have jA:=(C g ag).level (k+1) d p.next b p2 x de ag ag hb
        generalize tok p 0=tk at *;have il:=ew 6 tk.at_ tk.s [out,b] [[qT out],[qT b]] (gh _);refine ae ?_;refine aI (aB 0 7 (.a 7 (aB 8 4 (.q 13 (.q 16 (.a 12 (.q 14 (.q 15 (.a 17 (.q 18 (.a 19 (.q 20 .nil)))))))))))) ?_;refine ar ?_;refine bB [0] ht ?_;refine bB [] tu ?_;refine bB [0] ht ?_;refine bB [] Q6 ?_;refine ae ?_;refine ab [0] ht ?_;refine aI (aB 0 9 (.a 9 (.a 10 (.a 11 (.q 12 .nil))))) ?_;refine ar ?_;refine aE [0] jA ?_;refine ey ?_;refine ar ?_;refine aE [] il ?_;refine ae ?_;exact ⟨(g,one 6 tk.at_ tk.s [out,b],p2),⟨_,_,(Wk.cut (n:=1) (Nat.le_of_ble_eq_true rfl) rfl).trans (Wk.aC aq),rfl,rfl,dF,by omega,h⟩,by simp⟩
      ·have hit:(levels.getD k []).contains (tok p 0).s=false:=by simpa using hit
       rw [if_neg (by rw [hit];simp)] at h
       obtain ⟨rfl,rfl⟩:out=t/\p=q:=by simpa using h
       rw [hit] at Q6;generalize tok p 0=tk at *;refine ae ?_;refine aI (aB 0 7 (.a 7 (aB 8 4 (.q 13 (.q 16 (.a 12 (.q 14 (.q 15 (.a 17 (.q 18 (.a 19 (.q 20 .nil)))))))))))) ?_;refine ar ?_;refine bB [0] ht ?_;refine bB [] tu ?_;refine bB [0] ht ?_;refine bB [] Q6 ?_;refine bH ?_;exact av
     ·have jX:((tok p 0).kind==3)=false:=by simpa using h3
      rw [if_neg (fun hh=>h3 hh.2.1)] at h
      obtain ⟨rfl,rfl⟩:out=t/\p=q:=by simpa using h
      generalize tok p 0=tk at *;refine ae ?_;refine aI (aB 0 7 (.a 7 (aB 8 4 (.q 13 (.q 16 (.a 12 (.q 14 (.q 15 (.a 17 (.q 18 (.a 19 (.q 20 .nil)))))))))))) ?_;refine ar ?_;refine bB [0] ht ?_;refine bH ?_;exact av
    ·have dq:(p.code==0)=false:=by simpa using hc
     rw [if_neg (fun hh=>hc hh.1)] at h
     obtain ⟨rfl,rfl⟩:out=t/\p=q:=by simpa using h
     refine ae ?_;refine aI (aB 0 7 (.a 7 (aB 8 4 (.q 13 (.q 16 (.a 12 (.q 14 (.q 15 (.a 17 (.q 18 (.a 19 (.q 20 .nil)))))))))))) ?_;refine bf ?_;refine jc ?_;exact av
theorem Sr {f:Nat} (C:∀ f',f'<=f->HE f') (d:Nat) (p:RS) (l:List T) (q:RS) (x:PX) (hp:p.ok) (hd:d+(f+1)<=1099511627776) (h:iA (f+1) d [] p=some (l,q)) :
  GF Tryz.prog 306 [.loc 0 0,.v (ii (d:Nat))] [bK p x] (.sl 1 (kc l)) [bK q x]:=by
 refine ai Tryz.func306 Tryz.ntmps306 ?_;refine GW.wk (Wk.Cj (t:=5) (a:=none) (c:=0) 152 1 rfl) ?_;refine GW.loop (fun z:Nat × List T × RS=>z.1) (fun z fr Γ=>∃ n rows,fr=[.loc 0 0,.v (ii (d:Nat)),.U,.U,.U,.vec 1 n,.U,.U,.U,.U,.U,.U,.U,.U,.U,.U,.U,.U,.U,.U,.U,.U,.U,.U,.U,.U,.U,.U,.U,.U,.U,.U]/\Γ=[bK z.2.2 x,.vec 152 1 0 rows]/\rows.length=n/\rows=kc z.2.1/\n+z.1<=f+1/\z.2.2.ok/\iA z.1 d z.2.1 z.2.2=some (l,q)) (f+1,[],p) ?_ ?_
 ·exact ⟨_,_,Wk.aC aq,0,[],rfl,rfl,rfl,rfl,by simp,hp,h⟩
 ·clear h hp;rintro ⟨g,acc,p⟩ _ _ ⟨n,rows,rfl,rfl,hn,bt,zk,hp,h⟩;simp only at bt zk hp h
  cases g with
  | zero=>simp [iA] at h
  | succ g =>
  rw [iA] at h;have hi:=jN p 0 [41] x hp aJ
  have kU:acc.length=n:=by rw [<-hn,bt,mN]
  by_cases hc:p.code=0
  ·have dq:(p.code==0)=true:=by simpa using hc
   cases hs:is p 0 [41] with
   | true =>
    rw [hs] at hi;rw [if_neg (fun hh=>by have:=hh.2;rw [hs] at this;cases this)] at h
    obtain ⟨rfl,rfl⟩:acc=l/\want p [41]=q:=by simpa using h
    have hw:=eL p [41] x hp;subst bt;refine ae ?_;refine ab [0] hi ?_;refine jc ?_;refine ae ?_;refine bS ?_;refine ae ?_;refine ab [0] hw ?_;refine GW.wk (Wk.jw (t:=4) rfl rfl rfl hn) ?_;exact al
   | false =>
    rw [hs] at hi;rw [if_pos ⟨hc,hs⟩] at h
    by_cases h0:acc.length=0
    ·rw [if_pos h0] at h
     have sX:decide ((0:Int) < (n:Int))=false:=by simpa using by omega
     cases hb:iE g (.expr d) p with
     | none=>rw [hb] at h;cases h
     | some r =>
      obtain ⟨a,p2⟩:=r;rw [hb] at h;simp only at h;have dF:=((iV g).1 _ _ _ _ hp hb).ok hp;have he:=(C g ag).expr d p a p2 x hp ag hb;refine ae ?_;refine ab [0] hi ?_;refine ab [0] he ?_;refine eP ?_;refine ae ?_;exact ⟨(g,acc++[a],p2),⟨_,_,Wk.aC aq,_,_,rfl,rfl,by simp [hn],by rw [vy,bt],by show n+1+g<=f+1;omega,dF,h⟩,by simp⟩
    ·rw [if_neg h0] at h
     have sX:decide ((0:Int) < (n:Int))=true:=by simpa using by omega
     have lQ:=(cg hp [44]).ok hp;have hw:=eL p [44] x hp
     cases hb:iE g (.expr d) (want p [44]) with
     | none=>rw [hb] at h;cases h
     | some r =>
      obtain ⟨a,p2⟩:=r;rw [hb] at h;simp only at h;have dF:=((iV g).1 _ _ _ _ lQ hb).ok lQ;have he:=(C g ag).expr d _ a p2 x lQ ag hb;refine ae ?_;refine ab [0] hi ?_;refine bS ?_;refine ae ?_;refine ab [0] hw ?_;refine ab [0] he ?_;refine eP ?_;refine ae ?_;exact ⟨(g,acc++[a],p2),⟨_,_,Wk.aC aq,_,_,rfl,rfl,by simp [hn],by rw [vy,bt],by show n+1+g<=f+1;omega,dF,h⟩,by simp⟩
  ·have dq:(p.code==0)=false:=by simpa using hc
   rw [if_neg (fun hh=>hc hh.1)] at h
   obtain ⟨rfl,rfl⟩:acc=l/\want p [41]=q:=by simpa using h
   have hw:=eL p [41] x hp;subst bt;refine bH ?_;refine ae ?_;refine bS ?_;refine ae ?_;refine ab [0] hw ?_;refine GW.wk (Wk.jw (t:=4) rfl rfl rfl hn) ?_;exact al
theorem NM {f:Nat} (C:HE f) (d:Nat) (p:RS) (t:T) (q:RS) (x:PX) (hp:p.ok) (hd:d+(f+1)<=1099511627776) (h:iE (f+1) (.operand d) p=some (t,q)) :
  GF Tryz.prog 304 [.loc 0 0,.v (ii (d:Nat))] [bK p x] (qT t) [bK q x]:=by
 rw [iE] at h;have dE:=vW p d x hp;have ht:=rp p 0 x hp aJ
 by_cases hc:(bM p d).code=0
 case neg =>
  have dq:((bM p d).code==0)=false:=by simpa using hc
  rw [if_neg hc] at h;rw [dq] at dE;cases h;refine ai Tryz.func304 Tryz.ntmps304 ?_;refine ab [0] ht ?_;refine ab [0] dE ?_;refine ab [] GM ?_;exact al
 case pos =>
 have dq:((bM p d).code==0)=true:=by simpa using hc
 rw [if_pos hc] at h;rw [dq,oA hc] at dE;clear hc dq;have h1:=jN p 0 [45] x hp aJ;have h2:=jN p 0 [33] x hp aJ;have h3:=jN p 0 [126] x hp aJ;have cQ:=hp.2;have Db:=hp.1
 cases gy:is p 0 [45] with
 | true =>
  rw [gy] at h1;rw [if_pos (.inl gy)] at h;have ak:p.i < p.l.length:=is_lt (k:=0) gy;have de:=(dv ak).ok hp
  cases hb:iE f (.operand (d+1)) p.next with
  | none=>rw [hb] at h;cases h
  | some r =>
   obtain ⟨b,p2⟩:=r;rw [hb] at h;cases h
   have xM:=C.operand (d+1) p.next b _ x de ag hb
   generalize tok p 0=tk at *;have il:=ew 5 tk.at_ tk.s [b] [[qT b]] (gh _);refine ai Tryz.func304 Tryz.ntmps304 ?_;refine ab [0] ht ?_;refine ab [0] dE ?_;refine ab [0] h1 ?_;refine aI (aB 0 7 (.a 7 (.a 8 (.a 9 (.q 10 .nil))))) ?_;refine ar ?_;refine aE [0] xM ?_;refine ey ?_;refine ar ?_;refine aE [] il ?_;exact av
 | false =>
 rw [gy] at h1
 cases iR:is p 0 [33] with
 | true =>
  rw [iR] at h2;rw [if_pos (.inr (.inl iR))] at h;have ak:p.i < p.l.length:=is_lt (k:=0) iR;have de:=(dv ak).ok hp
  cases hb:iE f (.operand (d+1)) p.next with
  | none=>rw [hb] at h;cases h
  | some r =>
   obtain ⟨b,p2⟩:=r;rw [hb] at h;cases h
   have xM:=C.operand (d+1) p.next b _ x de ag hb
   generalize tok p 0=tk at *;have il:=ew 5 tk.at_ tk.s [b] [[qT b]] (gh _);refine ai Tryz.func304 Tryz.ntmps304 ?_;refine ab [0] ht ?_;refine ab [0] dE ?_;refine ab [0] h1 ?_;refine ab [0] h2 ?_;refine aI (aB 0 7 (.a 7 (.a 8 (.a 9 (.q 10 .nil))))) ?_;refine ar ?_;refine aE [0] xM ?_;refine ey ?_;refine ar ?_;refine aE [] il ?_;exact av
 | false =>
 rw [iR] at h2
 cases sf:is p 0 [126] with
 | true =>
  rw [sf] at h3;rw [if_pos (.inr (.inr sf))] at h;have ak:p.i < p.l.length:=is_lt (k:=0) sf;have de:=(dv ak).ok hp
  cases hb:iE f (.operand (d+1)) p.next with
  | none=>rw [hb] at h;cases h
  | some r =>
   obtain ⟨b,p2⟩:=r;rw [hb] at h;cases h
   have xM:=C.operand (d+1) p.next b _ x de ag hb
   generalize tok p 0=tk at *;have il:=ew 5 tk.at_ tk.s [b] [[qT b]] (gh _);refine ai Tryz.func304 Tryz.ntmps304 ?_;refine ab [0] ht ?_;refine ab [0] dE ?_;refine ab [0] h1 ?_;refine ab [0] h2 ?_;refine ab [0] h3 ?_;refine aI (aB 0 7 (.a 7 (.a 8 (.a 9 (.q 10 .nil))))) ?_;refine ar ?_;refine aE [0] xM ?_;refine ey ?_;refine ar ?_;refine aE [] il ?_;exact av
 | false =>
 rw [sf] at h3;rw [if_neg (by rw [gy,iR,sf];decide)] at h
 by_cases hk:(tok p 0).kind=1
 case pos =>
  rw [if_pos hk] at h;have ak:p.i < p.l.length:=rP (k:=0) ag
  have ly:((tok p 0).kind==1)=true:=by simpa using hk
  cases h;generalize tok p 0=tk at *;have il:=NI 1 tk.at_ [] [];refine ai Tryz.func304 Tryz.ntmps304 ?_;refine ab [0] ht ?_;refine ab [0] dE ?_;refine ab [0] h1 ?_;refine ab [0] h2 ?_;refine ab [0] h3 ?_;refine ab [] il ?_;refine GW.wk (Wk.freeze (i:=2) rfl rfl rfl (Nat.le_of_ble_eq_true rfl)) ?_;exact al
 case neg =>
 rw [if_neg hk] at h
 have ly:((tok p 0).kind==1)=false:=by simpa using hk
 have h4:=jN p 0 [40] x hp aJ
 cases w9:is p 0 [40] with
 | true =>
  rw [w9] at h4;rw [if_pos w9] at h;have ak:p.i < p.l.length:=is_lt (k:=0) w9;have de:=(dv ak).ok hp
  cases hb:iE f (.expr (d+1)) p.next with
  | none=>rw [hb] at h;cases h
  | some r =>
   obtain ⟨b,p2⟩:=r;rw [hb] at h;cases h;have dF:=((iV f).1 _ _ _ _ de hb).ok de
   have xM:=C.expr (d+1) p.next _ p2 x de ag hb
   have hw:=eL p2 [41] x dF;generalize tok p 0=tk at *;refine ai Tryz.func304 Tryz.ntmps304 ?_;refine ab [0] ht ?_;refine ab [0] dE ?_;refine ab [0] h1 ?_;refine ab [0] h2 ?_;refine ab [0] h3 ?_;refine ab [0] h4 ?_;refine ab [0] xM ?_;refine bS ?_;refine ae ?_;refine ab [0] hw ?_;exact al
 | false =>
 rw [w9] at h4;rw [if_neg (by rw [w9];decide)] at h;have hn:=qP p x hp;have de:=(gO hp).ok hp
 by_cases gV:(bm p).code=0
 case neg =>
  rw [if_neg gV] at h
  have Y4:((bm p).code != 0)=true:=by simpa using gV
  cases h;generalize tok p 0=tk at *;generalize bm p=p1 at *;have il:=ew 2 tk.at_ tk.s [] [] rfl;refine ai Tryz.func304 Tryz.ntmps304 ?_;refine ab [0] ht ?_;refine ab [0] dE ?_;refine ab [0] h1 ?_;refine ab [0] h2 ?_;refine ab [0] h3 ?_;refine ab [0] h4 ?_;refine ab [0] hn ?_;refine ab [] il ?_;exact al
 case pos =>
 rw [if_pos gV] at h
 have Y4:((bm p).code != 0)=false:=by simpa using gV
 generalize bm p=p1 at *;generalize tok p 0=tk at *;have h5:=jN p1 0 [91] x de aJ;have aas:=de.2;have aar:=de.1
 cases hs5:is p1 0 [91] with
 | true =>
  rw [hs5] at h5;rw [if_pos hs5] at h;have ak:p1.i < p1.l.length:=is_lt (k:=0) hs5;have Fl:=(dv ak).ok de
  cases hb:iE f (.expr (d+1)) p1.next with
  | none=>rw [hb] at h;cases h
  | some r =>
   obtain ⟨b,p2⟩:=r;rw [hb] at h;cases h;have dF:=((iV f).1 _ _ _ _ Fl hb).ok Fl
   have xM:=C.expr (d+1) p1.next b p2 x Fl ag hb
   have hw:=eL p2 [93] x dF;have il:=ew 3 tk.at_ tk.s [b] [[qT b]] (gh _);refine ai Tryz.func304 Tryz.ntmps304 ?_;refine ab [0] ht ?_;refine ab [0] dE ?_;refine ab [0] h1 ?_;refine ab [0] h2 ?_;refine ab [0] h3 ?_;refine ab [0] h4 ?_;refine ab [0] hn ?_;refine ab [0] h5 ?_;refine ab [0] xM ?_;refine bS ?_;refine ae ?_;refine ab [0] hw ?_;refine bS ?_;refine ae ?_;refine ab [] il ?_;exact al
 | false =>
 rw [hs5] at h5;rw [if_neg (by rw [hs5];decide)] at h;have h6:=jN p1 0 [40] x de aJ
 cases hs6:is p1 0 [40] with
 | true =>
  rw [hs6] at h6;rw [if_pos hs6] at h;have ak:p1.i < p1.l.length:=is_lt (k:=0) hs6;have Fl:=(dv ak).ok de
  cases hb:iA f (d+1) [] p1.next with
  | none=>rw [hb] at h;cases h
  | some r =>
   obtain ⟨b,p2⟩:=r;rw [hb] at h;cases h
   have xM:=C.exprs (d+1) p1.next b _ x Fl ag hb
   have il:=ew 4 tk.at_ tk.s b (kc b) rfl;refine ai Tryz.func304 Tryz.ntmps304 ?_;refine ab [0] ht ?_;refine ab [0] dE ?_;refine ab [0] h1 ?_;refine ab [0] h2 ?_;refine ab [0] h3 ?_;refine ab [0] h4 ?_;refine ab [0] hn ?_;refine ab [0] h5 ?_;refine ab [0] h6 ?_;refine aI (aB 0 6 (.a 6 (.a 7 (.q 8 .nil)))) ?_;refine ar ?_;refine aE [0] xM ?_;refine aE [] il ?_;exact av
 | false =>
  rw [hs6] at h6;rw [if_neg (by rw [hs6];decide)] at h;cases h;have il:=ew 2 tk.at_ tk.s [] [] rfl;refine ai Tryz.func304 Tryz.ntmps304 ?_;refine ab [0] ht ?_;refine ab [0] dE ?_;refine ab [0] h1 ?_;refine ab [0] h2 ?_;refine ab [0] h3 ?_;refine ab [0] h4 ?_;refine ab [0] hn ?_;refine ab [0] h5 ?_;refine ab [0] h6 ?_;refine ab [] il ?_;exact al
theorem X8 (f:Nat):HE f:=by
 induction f using Nat.strongRecOn with
 | _ f ih =>
  cases f with
  | zero=>exact ⟨fun d p t q x _ _ h=>by simp [iE] at h,fun k d p t q x _ _ _ h=>by simp [iE] at h,fun d p t q x _ _ h=>by simp [iE] at h,fun d p l q x _ _ h=>by simp [iA] at h⟩
  | succ f =>
   have C:=ih f (Nat.lt_succ_self f)
   have Cs:∀ f',f'<=f->HE f':=fun f' h=>ih f' (Nat.lt_succ_of_le h)
   exact ⟨fun d p t q x hp hd h=>TV C d p t q x hp hd h,fun k d p t q x hp hk hd h=>SL Cs k d p t q x hp hk hd h,fun d p t q x hp hd h=>NM C d p t q x hp hd h,fun d p l q x hp hd h=>Sr Cs d p l q x hp hd h⟩
end Go.Xg
namespace Go.Im
open Go.Xp Go.Sp
def VO (f d:Nat) (p:RS):Option (T × RS) :=
 if (tok p 0).kind=2/\is p 1 [61]=true then match iE f (.expr (d+1)) (want (bm p) [61]) with
  | none=>none
  | some (e,q)=>some (one 7 (tok p 0).at_ (tok p 0).s [e],want q [59])
 else match iE f (.expr (d+1)) p with
  | none=>none
  | some (e,q) =>
   if wH p q e then match e.kids,iE f (.expr (d+1)) (want q [61]) with
    | a::_,some (v,q)=>some (one 8 (tok p 0).at_ e.n.s [a,v],want q [59])
    | _,_=>none
   else some (one 12 (tok p 0).at_ [] [e],want q [59])
end Go.Im
namespace Go.Xg
open Go.RowKit Go.Xw Go.Proofs
open Go.Xp (Tok Nd T bh one levels gm dL ed dr dc ox)
open Go.Sp Go.Im
attribute [local irreducible] GW GL GO YG GC GA aU aZ
theorem Qk {f:Nat} (d:Nat) (p:RS) (t:T) (q:RS) (x:PX) (hp:p.ok) (hd:d+1+f<=1099511627776) (h:VO f d p=some (t,q)) :
  GF Tryz.prog 289 [.loc 0 0,.v (ii (d:Nat))] [bK p x] (qT t) [bK q x]:=by
 unfold VO at h;have C:=X8 f;have ht:=rp p 0 x hp aJ;have hi:=jN p 1 [61] x hp aJ
 have main:∀ kk,((tok p 0).kind==2)=kk->(kk=true->is p 1 [61]=false)->GF Tryz.prog 289 [.loc 0 0,.v (ii (d:Nat))] [bK p x] (qT t) [bK q x]:=by
  intro kk hk og
  rw [if_neg (fun hh=>by
   have h1:kk=true:=by rw [<-hk];simpa using hh.1
   have h2:=og h1
   rw [hh.2] at h2;cases h2)] at h
  cases he:iE f (.expr (d+1)) p with
  | none=>rw [he] at h;cases h
  | some r =>
   obtain ⟨e,q1⟩:=r;rw [he] at h;simp only at h;have qv:=((iV f).1 _ _ _ _ hp he).ok hp;have aax:=qv.1;have aay:=qv.2;have hex:=C.expr (d+1) p e q1 x hp ag he;have Q9:=jN q1 0 [61] x qv aJ
   have EW:e.n.kind=3->q1.code=0->∃ zA,q1.l[q1.i - 1]?=some zA/\uh q1=zA.s/\1<=q1.i:=by
    intro _ hc;have h1:=Vc f _ _ _ _ hp he hc (fun k d out h=>by cases h);have h2:=qv.1
    have ak:q1.i - 1 < q1.l.length:=by omega
    exact ⟨q1.l[q1.i - 1],by simp [ak],by unfold uh;simp [ak],by omega⟩
   by_cases hput:wH p q1 e
   ·rw [if_pos hput] at h;have kz:=hput;obtain ⟨s1,s2,s3,s4,s5,s6⟩:=kz;obtain ⟨zA,a1,a2,a3⟩:=EW s1 s2
    have iL:kk=true:=by rw [<-hk];simpa using s5
    subst iL;have zi:=og rfl;rw [zi] at hi;rw [s6] at Q9
    match vf:e.kids,hv:iE f (.expr (d+1)) (want q1 [61]),h with
    | a::rk,some (v,q2),h =>
     cases h;have lQ:=(cg qv [61]).ok qv;have Ir:=((iV f).1 _ _ _ _ lQ hv).ok lQ;have hw:=eL q1 [61] x qv;have Y8:=C.expr (d+1) _ v q2 x lQ ag hv;have oI:=eL q2 [59] x Ir;have hr:=kl a1;have df:(kc e.kids)[0]?=some [qT a]:=Bp (by rw [vf];rfl);have M1:(kc (a::rk))[0]?=some [qT a]:=Bp rfl
     have b1:(e.n.kind==3)=true:=by simpa using s1
     have b2:(q1.code==0)=true:=by simpa using s2
     have b3:(zA.s==[93])=true:=by rw [<-a2];simpa using s3
     have b4:(e.n.at_==(tok p 0).at_)=true:=by simpa using s4
     have il:=ew 8 (tok p 0).at_ e.n.s [a,v] [[qT a],[qT v]] (gh _);generalize tok p 0=tk at *;refine ai Tryz.func289 Tryz.ntmps289 ?_;refine ab [0] ht ?_;refine ab [0] hi ?_;refine ab [0] hex ?_;refine aI (aB 0 45 (.a 45 (.q 46 .nil))) ?_;refine ar ?_;refine bB [0] Q9 ?_;refine ae ?_;refine bS ?_;refine ae ?_;refine ab [0] hw ?_;refine ab [0] Y8 ?_;refine bS ?_;refine ae ?_;refine ab [0] oI ?_;refine aI (aB 0 14 (.a 14 (.a 15 (.q 16 .nil)))) ?_;refine ar ?_;refine ey ?_;refine ar ?_;refine aE [] il ?_;exact av
    | [],_,h=>simp at h
    | _::_,none,h=>simp at h
   ·rw [if_neg hput] at h;cases h;have hw:=eL q1 [59] x qv;have il:=ew 12 (tok p 0).at_ [] [e] [[qT e]] (gh _)
    cases kk with
    | true =>
     have zi:=og rfl;rw [zi] at hi;refine ai Tryz.func289 Tryz.ntmps289 ?_;refine ab [0] ht ?_;refine ab [0] hi ?_;refine ab [0] hex ?_;refine GW.join (fun fr Γ=>fr=[.loc 0 0,.v (ii (d:Nat)),.U,.U,.U,.loc 1 0,.U,.U,qT e,.U,.U,.U,.U,.U,.U,.U,.U,.U,.U,.U,.U,.U,.U,.U,.U,.U,.U,.U,.U,.U,.U,.U,.U,.U,.U,.U,.U,.U,.U,.U,.U,.U,.U,.U,.U,.U,.U,.U,.U,.U,.U,.U,.U,.U,.U,.U,.U,.U,.U,.U,.U,.U,.U,.U,.U,.U,.U,.U,.U,.U,.U,.U,.U,.U,.U,.U,.U,.U,.U,.U,.U,.U,.U,.U,.U,.U,.U,.v (.bool false),.U,.U,.U,.U,.U,.U,.U,.U,.U,.U,.U,.U,.U,.U,.U,.U,.U,.U,.U,.U,.U,.U,.U,.U,.U,.U,.U,.U,.U,.U,.U,.U,.U,.U]/\Γ=[bK q1 x,.box 203 (c8 (tok p 0))]) ?_ ?_
     ·by_cases s1:e.n.kind=3
      ·have b1:(e.n.kind==3)=true:=by simpa using s1
       by_cases s2:q1.code=0
       ·have b2:(q1.code==0)=true:=by simpa using s2
        obtain ⟨zA,a1,a2,a3⟩:=EW s1 s2;have hr:=kl a1
        by_cases s3:uh q1=[93]
        ·have b3:(zA.s==[93])=true:=by rw [<-a2];simpa using s3
         by_cases s4:e.n.at_=(tok p 0).at_
         ·have b4:(e.n.at_==(tok p 0).at_)=true:=by simpa using s4
          have s6:is q1 0 [61]=false:=by
           cases h6:is q1 0 [61] with
           | false=>rfl
           | true=>exact absurd ⟨s1,s2,s3,s4,by simpa using hk,h6⟩ hput
          rw [s6] at Q9;generalize tok p 0=tk at *;refine aI (aB 0 45 (.a 45 (.q 46 .nil))) ?_;refine ar ?_;refine bB [0] Q9 ?_;exact ij
         ·have b4:(e.n.at_==(tok p 0).at_)=false:=by simpa using s4
          generalize tok p 0=tk at *;refine aI (aB 0 45 (.a 45 (.q 46 .nil))) ?_;refine bf ?_;exact jn
        ·have b3:(zA.s==[93])=false:=by rw [<-a2];simpa using s3
         generalize tok p 0=tk at *;refine aI (aB 0 45 (.a 45 (.q 46 .nil))) ?_;refine bf ?_;exact jn
       ·have b2:(q1.code==0)=false:=by simpa using s2
        generalize tok p 0=tk at *;refine aI (aB 0 45 (.a 45 (.q 46 .nil))) ?_;refine bf ?_;exact jn
      ·have b1:(e.n.kind==3)=false:=by simpa using s1
       generalize tok p 0=tk at *;refine aI (aB 0 45 (.a 45 (.q 46 .nil))) ?_;refine bf ?_;exact jn
     ·rintro _ _ ⟨rfl,rfl⟩;generalize tok p 0=tk at *;refine ae ?_;refine bS ?_;refine ae ?_;refine ab [0] hw ?_;refine bS ?_;refine ae ?_;refine ab [] il ?_;exact al
    | false =>
     refine ai Tryz.func289 Tryz.ntmps289 ?_;refine ab [0] ht ?_;refine ab [0] hex ?_;refine GW.join (fun fr Γ=>fr=[.loc 0 0,.v (ii (d:Nat)),.U,.U,.U,.loc 1 0,.U,.U,qT e,.U,.U,.U,.U,.U,.U,.U,.U,.U,.U,.U,.U,.U,.U,.U,.U,.U,.U,.U,.U,.U,.U,.U,.U,.U,.U,.U,.U,.U,.U,.U,.U,.U,.U,.U,.U,.U,.U,.U,.U,.U,.U,.U,.U,.U,.U,.U,.U,.U,.U,.U,.U,.U,.U,.U,.U,.U,.U,.U,.U,.U,.U,.U,.U,.U,.U,.U,.U,.U,.U,.U,.U,.U,.U,.U,.U,.U,.U,.v (.bool false),.U,.U,.U,.U,.U,.U,.U,.U,.U,.U,.U,.U,.U,.U,.U,.U,.U,.U,.U,.U,.U,.U,.U,.U,.U,.U,.U,.U,.U,.U,.U,.U,.U,.U]/\Γ=[bK q1 x,.box 203 (c8 (tok p 0))]) ?_ ?_
     ·by_cases s1:e.n.kind=3
      ·have b1:(e.n.kind==3)=true:=by simpa using s1
       by_cases s2:q1.code=0
       ·have b2:(q1.code==0)=true:=by simpa using s2
        obtain ⟨zA,a1,a2,a3⟩:=EW s1 s2;have hr:=kl a1
        by_cases s3:uh q1=[93]
        ·have b3:(zA.s==[93])=true:=by rw [<-a2];simpa using s3
         by_cases s4:e.n.at_=(tok p 0).at_
         ·have b4:(e.n.at_==(tok p 0).at_)=true:=by simpa using s4
          generalize tok p 0=tk at *;refine aI (aB 0 45 (.a 45 (.q 46 .nil))) ?_;refine bf ?_;exact jn
         ·have b4:(e.n.at_==(tok p 0).at_)=false:=by simpa using s4
          generalize tok p 0=tk at *;refine aI (aB 0 45 (.a 45 (.q 46 .nil))) ?_;refine bf ?_;exact jn
        ·have b3:(zA.s==[93])=false:=by rw [<-a2];simpa using s3
         generalize tok p 0=tk at *;refine aI (aB 0 45 (.a 45 (.q 46 .nil))) ?_;refine bf ?_;exact jn
       ·have b2:(q1.code==0)=false:=by simpa using s2
        generalize tok p 0=tk at *;refine aI (aB 0 45 (.a 45 (.q 46 .nil))) ?_;refine bf ?_;exact jn
      ·have b1:(e.n.kind==3)=false:=by simpa using s1
       generalize tok p 0=tk at *;refine aI (aB 0 45 (.a 45 (.q 46 .nil))) ?_;refine bf ?_;exact jn
     ·rintro _ _ ⟨rfl,rfl⟩;generalize tok p 0=tk at *;refine ae ?_;refine bS ?_;refine ae ?_;refine ab [0] hw ?_;refine bS ?_;refine ae ?_;refine ab [] il ?_;exact al
 by_cases hk:(tok p 0).kind=2
 ·cases zi:is p 1 [61] with
  | true =>
   clear main;rw [if_pos ⟨hk,zi⟩] at h;rw [zi] at hi
   have ly:((tok p 0).kind==2)=true:=by simpa using hk
   have hn:=qP p x hp;have de:=(gO hp).ok hp;have hw:=eL (bm p) [61] x de;have lQ:=(cg de [61]).ok de
   cases he:iE f (.expr (d+1)) (want (bm p) [61]) with
   | none=>rw [he] at h;cases h
   | some r =>
    obtain ⟨e,q1⟩:=r;rw [he] at h;cases h;have qv:=((iV f).1 _ _ _ _ lQ he).ok lQ;have hex:=C.expr (d+1) _ e q1 x lQ ag he;have oI:=eL q1 [59] x qv;have il:=ew 7 (tok p 0).at_ (tok p 0).s [e] [[qT e]] (gh _);generalize tok p 0=tk at *;refine ai Tryz.func289 Tryz.ntmps289 ?_;refine ab [0] ht ?_;refine ab [0] hi ?_;refine ab [0] hn ?_;refine bS ?_;refine ae ?_;refine ab [0] hw ?_;refine ab [0] hex ?_;refine bS ?_;refine ae ?_;refine ab [0] oI ?_;refine bS ?_;refine ae ?_;refine ab [] il ?_;exact al
  | false=>exact main true (by simpa using hk) (fun _=>zi)
 ·exact main false (by simpa using hk) (fun h=>by cases h)
end Go.Xg
namespace Go.Xg
open Go.RowKit Go.Xw Go.Proofs
open Go.Xp (Tok Nd T bh one levels gm dL ed dr dc ox qA)
open Go.Sp Go.Im
attribute [local irreducible] GW GL GO YG GC GA aU aZ
theorem NH (k a:Int) (s:ah):GF Tryz.prog 271 [.v (ii k),.v (ii a),.v (sv s),.v (.slice none 0 0)] [] (.loc 0 0) [.box 190 [.v (ii k),.v (ii a),.v (ii 0),.v (sv s),.v (.slice none 0 0),.v (.slice none 0 0)]]:=by
 refine ai Tryz.func271 Tryz.ntmps271 ?_;refine GW.wk (Wk.cells 0 rfl (ds:=[.v (ii k),.v (ii a),.v (ii 0),.v (sv s),.v (.slice none 0 0),.v (.slice none 0 0)]) jd) ?_;refine GW.ret ?_;refine rY (n:=1) rfl cj rfl (Nat.zero_le _) rfl rfl ?_;exact ⟨rfl,rfl⟩
structure QJ (f:Nat):Prop where
 block:∀ d p t q x,p.ok->d+3+f<=1099511627776->iS f (.block d) p=some (t,q)->GF Tryz.prog 244 [.loc 0 0,.v (ii (d:Nat))] [bK p x] (qT t) [bK q x]
 stmt:∀ d p t q x,p.ok->d+3+f<=1099511627776->iS f (.stmt d) p=some (t,q)->GF Tryz.prog 273 [.loc 0 0,.v (ii (d:Nat))] [bK p x] (qT t) [bK q x]
theorem R8 {f:Nat} (C:∀ f',f'<=f->QJ f') (d:Nat) (p:RS) (t:T) (q:RS) (x:PX) (hp:p.ok) (hd:d+3+(f+1)<=1099511627776) (h:iS (f+1) (.block d) p=some (t,q)) :
  GF Tryz.prog 244 [.loc 0 0,.v (ii (d:Nat))] [bK p x] (qT t) [bK q x]:=by
 rw [iS] at h;have dE:=vW p d x hp;have ht:=rp p 0 x hp aJ;have C9:=NH 14 (tok p 0).at_ []
 by_cases hc:(bM p d).code=0
 case neg =>
  have dq:((bM p d).code==0)=false:=by simpa using hc
  rw [if_neg hc] at h;rw [dq] at dE;cases h;generalize tok p 0=tk at *;refine ai Tryz.func244 Tryz.ntmps244 ?_;refine ab [0] ht ?_;refine ab [] C9 ?_;refine ab [0] dE ?_;refine GW.wk (Wk.cells 1 rfl (ds:=[.v (ii 14),.v (ii tk.at_),.v (ii 0),.v (sv []),.v (.slice none 0 0),.sl 1 []]) jd) ?_;refine GW.wk (Wk.freeze (i:=1) rfl rfl rfl (Nat.le_of_ble_eq_true rfl)) ?_;exact al
 case pos =>
 have dq:((bM p d).code==0)=true:=by simpa using hc
 rw [if_pos hc] at h;rw [dq,oA hc] at dE;clear hc dq;have lQ:=(cg hp [123]).ok hp;have hw:=eL p [123] x hp
 cases he:iB f (d+1) [] (want p [123]) with
 | none=>rw [he] at h;cases h
 | some r =>
  obtain ⟨l,q1⟩:=r;rw [he] at h;cases h;generalize tok p 0=tk at *;refine ai Tryz.func244 Tryz.ntmps244 ?_;refine ab [0] ht ?_;refine ab [] C9 ?_;refine ab [0] dE ?_;refine bS ?_;refine ae ?_;refine ab [0] hw ?_;refine GW.wk (Wk.Kw (i:=1) (o:=5) 152 1 rfl rfl) ?_;refine GW.loop (fun z:Nat × List T × RS=>z.1) (fun z fr Γ=>∃ n rows,fr=[.loc 0 0,.v (ii (d:Nat)),.U,.U,.U,.loc 1 0,.U,.U,.U,.U,.U,.U,.U,.U,.U,.U,.U,.U,.U,.U,.U,.U,.U,.U,.U,.U,.U,.U,.U,.U,.U,.U,.U,.U,.U,.U,.U,.U,.U,.U,.U,.U,.U,.U,.U]/\Γ=[bK z.2.2 x,.box 190 [.v (ii 14),.v (ii tk.at_),.v (ii 0),.v (sv []),.v (.slice none 0 0),.vec 2 n],.vec 152 1 0 rows]/\rows.length=n/\rows=kc z.2.1/\n+z.1<=f/\z.2.2.ok/\iB z.1 (d+1) z.2.1 z.2.2=some (l,q1)) (f,[],want p [123]) ?_ ?_
  ·exact ⟨_,_,Wk.aC aq,0,[],rfl,rfl,rfl,rfl,by simp,lQ,he⟩
  ·clear he lQ hw dE ht;rintro ⟨g,acc,p⟩ _ _ ⟨n,rows,rfl,rfl,hn,bt,zk,hp,h⟩;simp only at bt zk hp h
   cases g with
   | zero=>simp [iB] at h
   | succ g =>
   rw [iB] at h;have hi:=jN p 0 [125] x hp aJ
   by_cases hc:p.code=0
   ·have dq:(p.code==0)=true:=by simpa using hc
    cases hs:is p 0 [125] with
    | true =>
     rw [hs] at hi;rw [if_neg (fun hh=>by have:=hh.2;rw [hs] at this;cases this)] at h
     obtain ⟨rfl,rfl⟩:acc=l/\p=q1:=by simpa using h
     have hw:=eL p [125] x hp;subst bt;refine ae ?_;refine ab [0] hi ?_;refine jc ?_;refine ae ?_;refine bS ?_;refine ae ?_;refine ab [0] hw ?_;refine GW.wk (Wk.yO (i:=1) (o:=5) rfl rfl rfl rfl hn) ?_;refine GW.wk (Wk.freeze (i:=1) rfl rfl rfl (Nat.le_of_ble_eq_true rfl)) ?_;exact al
    | false =>
     rw [hs] at hi;rw [if_pos ⟨hc,hs⟩] at h
     cases hb:iS g (.stmt (d+1)) p with
     | none=>rw [hb] at h;cases h
     | some r =>
      obtain ⟨a,p2⟩:=r;rw [hb] at h;simp only at h;have dF:=((D5 g).1 _ _ _ _ hp hb).ok hp;have cn:=(C g ag).stmt (d+1) p a p2 x hp ag hb;refine ae ?_;refine ab [0] hi ?_;refine aI (aB 0 8 (.a 8 (.a 9 (.a 10 (.q 11 (.q 12 (.a 13 .nil))))))) ?_;refine ar ?_;refine aE [0] cn ?_;refine ey ?_;refine ar ?_;refine CA ?_;refine bf ?_;exact ⟨(g,acc++[a],p2),⟨_,_,Wk.aC aq,_,_,rfl,rfl,by simp [hn],by rw [vy,bt];rfl,by show n+1+g<=f;omega,dF,h⟩,by simp⟩
   ·have dq:(p.code==0)=false:=by simpa using hc
    rw [if_neg (fun hh=>hc hh.1)] at h
    obtain ⟨rfl,rfl⟩:acc=l/\p=q1:=by simpa using h
    have hw:=eL p [125] x hp;subst bt;refine bH ?_;refine ae ?_;refine bS ?_;refine ae ?_;refine ab [0] hw ?_;refine GW.wk (Wk.yO (i:=1) (o:=5) rfl rfl rfl rfl hn) ?_;refine GW.wk (Wk.freeze (i:=1) rfl rfl rfl (Nat.le_of_ble_eq_true rfl)) ?_;exact al
theorem VU {f:Nat} (C:QJ f) (d:Nat) (p:RS) (t:T) (q:RS) (x:PX) (hp:p.ok) (hd:d+3+(f+1)<=1099511627776) (h:iS (f+1) (.stmt d) p=some (t,q)) :
  GF Tryz.prog 273 [.loc 0 0,.v (ii (d:Nat))] [bK p x] (qT t) [bK q x]:=by
 rw [iS] at h;have E:=X8 f;have dE:=vW p d x hp;have ht:=rp p 0 x hp aJ
 by_cases hc:(bM p d).code=0
 case neg =>
  have dq:((bM p d).code==0)=false:=by simpa using hc
  rw [if_neg hc] at h;rw [dq] at dE;cases h;refine ai Tryz.func273 Tryz.ntmps273 ?_;refine ab [0] ht ?_;refine ab [0] dE ?_;refine ab [] GM ?_;exact al
 case pos =>
 have dq:((bM p d).code==0)=true:=by simpa using hc
 rw [if_pos hc] at h;rw [dq,oA hc] at dE;clear hc dq;have cQ:=hp.2;have Db:=hp.1;have h1:=jN p 0 gm x hp aJ;have h2:=jN p 0 dL x hp aJ;have h3:=jN p 0 dr x hp aJ;have h4:=jN p 0 dc x hp aJ
 cases gy:is p 0 gm with
 | true =>
  rw [gy] at h1;rw [if_pos gy] at h;have ak:p.i < p.l.length:=is_lt (k:=0) gy;have de:=(dv ak).ok hp
  have hn:=qP p.next x de
  have xP:=(gO de).ok de;have hw:=eL _ [61] x xP;have lQ:=(cg xP [61]).ok xP
  cases he:iE f (.expr (d+1)) (want (bm p.next) [61]) with
  | none=>rw [he] at h;cases h
  | some r =>
   obtain ⟨e,q1⟩:=r;rw [he] at h;cases h;have qv:=((iV f).1 _ _ _ _ lQ he).ok lQ;have hex:=E.expr (d+1) _ e q1 x lQ ag he;have oI:=eL q1 [59] x qv;have il:=ew 13 (tok p 0).at_ (tok p.next 0).s [e] [[qT e]] (gh _);generalize tok p 0=tk at *
   generalize tok p.next 0=tn at *
   refine ai Tryz.func273 Tryz.ntmps273 ?_;refine ab [0] ht ?_;refine ab [0] dE ?_;refine ab [0] h1 ?_;refine ab [0] hn ?_;refine bS ?_;refine ae ?_;refine ab [0] hw ?_;refine ab [0] hex ?_;refine bS ?_;refine ae ?_;refine ab [0] oI ?_;refine bS ?_;refine ae ?_;refine ab [] il ?_;exact al
 | false =>
 rw [gy] at h1;rw [if_neg (by rw [gy];decide)] at h
 have main:∀ bi bw:Bool,is p 0 dL=bi->is p 0 dr=bw->(bi=true\/bw=true)->GF Tryz.prog 273 [.loc 0 0,.v (ii (d:Nat))] [bK p x] (qT t) [bK q x]:=by
  intro bi bw vb XM vh
  have nf:is p 0 dL=true\/is p 0 dr=true:=by rw [vb,XM];exact vh
  have ak:p.i < p.l.length:=by rcases nf with hh | hh <;> exact is_lt (k:=0) hh
  rw [if_pos nf] at h;have de:=(dv ak).ok hp
  have hw:=eL p.next [40] x de
  have lQ:=(cg de [40]).ok de
  cases he:iE f (.expr (d+1)) (want p.next [40]) with
  | none=>rw [he] at h;cases h
  | some r =>
  obtain ⟨c,q1⟩:=r;rw [he] at h;simp only at h;have qv:=((iV f).1 _ _ _ _ lQ he).ok lQ;have hex:=E.expr (d+1) _ c q1 x lQ ag he;have oI:=eL q1 [41] x qv;have US:=(cg qv [41]).ok qv
  cases hb:iS f (.block (d+1)) (want q1 [41]) with
  | none=>rw [hb] at h;cases h
  | some r =>
  obtain ⟨b,q2⟩:=r;rw [hb] at h;simp only at h;have Ir:=((D5 f).1 _ _ _ _ US hb).ok US;have aaA:=Ir.2;have aaz:=Ir.1;have dj:=C.block (d+1) _ b q2 x US ag hb;have eX:=jN q2 0 ed x Ir aJ;rw [vb] at h2;rw [XM] at h3
  cases bi with
  | true =>
   have J4:∀ (cc ee:Bool),(q2.code==0)=cc->is q2 0 ed=ee->(cc=false\/ee=false)->GF Tryz.prog 273 [.loc 0 0,.v (ii (d:Nat))] [bK p x] (qT t) [bK q x]:=by
    intro cc ee sZ w5 UP
    rw [if_neg (fun hh=>by
     rcases UP with h0 | h0
     ·rw [h0] at sZ;have:=hh.2.1;simp [this] at sZ
     ·rw [h0] at w5;rw [w5] at hh;exact absurd hh.2.2 aJ),if_pos vb] at h
    cases h;rw [w5] at eX;have il:=ew 9 (tok p 0).at_ [] [c,b] [[qT c],[qT b]] (gh _);generalize tok p 0=tk at *
    cases cc with
    | true =>
     cases ee with
     | true=>simp at UP
     | false =>
      refine ai Tryz.func273 Tryz.ntmps273 ?_;refine ab [0] ht ?_;refine ab [0] dE ?_;refine ab [0] h1 ?_;refine ab [0] h2 ?_;refine ab [0] h2 ?_;refine bS ?_;refine ae ?_;refine ab [0] hw ?_;refine ab [0] hex ?_;refine kJ ?_;refine ae ?_;refine bS ?_;refine ae ?_;refine ab [0] oI ?_;refine ab [0] dj ?_;refine eP ?_;refine ae ?_;refine ab [0] eX ?_;refine GL.wk (Wk.jw (t:=108) rfl rfl rfl rfl) ?_;refine bI ?_;refine ab [] il ?_;exact al
    | false =>
     refine ai Tryz.func273 Tryz.ntmps273 ?_;refine ab [0] ht ?_;refine ab [0] dE ?_;refine ab [0] h1 ?_;refine ab [0] h2 ?_;refine ab [0] h2 ?_;refine bS ?_;refine ae ?_;refine ab [0] hw ?_;refine ab [0] hex ?_;refine kJ ?_;refine ae ?_;refine bS ?_;refine ae ?_;refine ab [0] oI ?_;refine ab [0] dj ?_;refine eP ?_;refine ae ?_;refine GL.wk (Wk.jw (t:=108) rfl rfl rfl rfl) ?_;refine bI ?_;refine ab [] il ?_;exact al
   by_cases jJ:q2.code=0
   ·cases w5:is q2 0 ed with
    | true =>
     clear J4;rw [if_pos ⟨vb,jJ,w5⟩] at h;rw [w5] at eX
     have sZ:(q2.code==0)=true:=by simpa using jJ
     have mT:q2.i < q2.l.length:=is_lt (k:=0) w5;have hqn:=(dv mT).ok Ir
     cases eI:iS f (.block (d+1)) q2.next with
     | none=>rw [eI] at h;cases h
     | some r =>
      obtain ⟨b2,q3⟩:=r;rw [eI] at h;cases h;have Wz:=C.block (d+1) _ b2 _ x hqn ag eI;have il:=ew 9 (tok p 0).at_ [] [c,b,b2] [[qT c],[qT b],[qT b2]] (gh _);generalize tok p 0=tk at *;refine ai Tryz.func273 Tryz.ntmps273 ?_;refine ab [0] ht ?_;refine ab [0] dE ?_;refine ab [0] h1 ?_;refine ab [0] h2 ?_;refine ab [0] h2 ?_;refine bS ?_;refine ae ?_;refine ab [0] hw ?_;refine ab [0] hex ?_;refine kJ ?_;refine ae ?_;refine bS ?_;refine ae ?_;refine ab [0] oI ?_;refine ab [0] dj ?_;refine eP ?_;refine ae ?_;refine ab [0] eX ?_;refine ab [0] Wz ?_;refine eP ?_;refine ae ?_;refine GL.wk (Wk.jw (t:=108) rfl rfl rfl rfl) ?_;refine bI ?_;refine ab [] il ?_;exact al
    | false=>exact J4 true false (by simpa using jJ) w5 (.inr rfl)
   ·exact J4 false _ (by simpa using jJ) rfl (.inl rfl)
  | false =>
   have Y3:bw=true:=by simpa using vh
   subst Y3;rw [if_neg (fun hh=>by have:=hh.1;rw [vb] at this;cases this),if_neg (by rw [vb];decide)] at h;cases h;have il:=ew 10 (tok p 0).at_ [] [c,b] [[qT c],[qT b]] (gh _);generalize tok p 0=tk at *;refine ai Tryz.func273 Tryz.ntmps273 ?_;refine ab [0] ht ?_;refine ab [0] dE ?_;refine ab [0] h1 ?_;refine ab [0] h2 ?_;refine ab [0] h3 ?_;refine ab [0] h2 ?_;refine bS ?_;refine ae ?_;refine ab [0] hw ?_;refine ab [0] hex ?_;refine kJ ?_;refine ae ?_;refine bS ?_;refine ae ?_;refine ab [0] oI ?_;refine ab [0] dj ?_;refine eP ?_;refine ae ?_;refine GL.wk (Wk.jw (t:=108) rfl rfl rfl rfl) ?_;refine bI ?_;refine ab [] il ?_;exact al
 cases iR:is p 0 dL with
 | true=>exact main true _ iR rfl (.inl rfl)
 | false =>
 cases sf:is p 0 dr with
 | true=>exact main false true iR sf (.inr rfl)
 | false =>
 clear main;rw [iR] at h2;rw [sf] at h3;rw [if_neg (by rw [iR,sf];decide)] at h
 cases w9:is p 0 dc with
 | true =>
  rw [w9] at h4;rw [if_pos w9] at h;have ak:p.i < p.l.length:=is_lt (k:=0) w9;have de:=(dv ak).ok hp
  cases he:iE f (.expr (d+1)) p.next with
  | none=>rw [he] at h;cases h
  | some r =>
   obtain ⟨e,q1⟩:=r;rw [he] at h;cases h;have qv:=((iV f).1 _ _ _ _ de he).ok de;have hex:=E.expr (d+1) _ e q1 x de ag he;have oI:=eL q1 [59] x qv;have il:=ew 11 (tok p 0).at_ [] [e] [[qT e]] (gh _);generalize tok p 0=tk at *;refine ai Tryz.func273 Tryz.ntmps273 ?_;refine ab [0] ht ?_;refine ab [0] dE ?_;refine ab [0] h1 ?_;refine ab [0] h2 ?_;refine ab [0] h3 ?_;refine ab [0] h4 ?_;refine ab [0] hex ?_;refine bS ?_;refine ae ?_;refine ab [0] oI ?_;refine bS ?_;refine ae ?_;refine ab [] il ?_;exact al
 | false =>
  rw [w9] at h4;rw [if_neg (by rw [w9];decide)] at h;have UY:=Qk (f:=f) d p t q x hp ag h;generalize tok p 0=tk at *;refine ai Tryz.func273 Tryz.ntmps273 ?_;refine ab [0] ht ?_;refine ab [0] dE ?_;refine ab [0] h1 ?_;refine ab [0] h2 ?_;refine ab [0] h3 ?_;refine ab [0] h4 ?_;refine ab [0] UY ?_;exact al
theorem Yb (f:Nat):QJ f:=by
 induction f using Nat.strongRecOn with
 | _ f ih =>
  cases f with
  | zero=>exact ⟨fun d p t q x _ _ h=>by simp [iS] at h,fun d p t q x _ _ h=>by simp [iS] at h⟩
  | succ f =>
   have C:=ih f (Nat.lt_succ_self f)
   have Cs:∀ f',f'<=f->QJ f':=fun f' h=>ih f' (Nat.lt_succ_of_le h)
   exact ⟨fun d p t q x hp hd h=>R8 Cs d p t q x hp hd h,fun d p t q x hp hd h=>VU C d p t q x hp hd h⟩
end Go.Xg
namespace Go.Xg
open Go.RowKit Go.Xw Go.Proofs
open Go.Xp (Tok Nd T aP az lO ea bX)
attribute [local irreducible] GW GL GO YG GC GA aU aZ
def r7 (n:Nd):List GV:=[.v (ii n.kind),.v (ii n.at_),.v (ii n.n),.v (sv n.s),ints n.kids]
def Co (t:T) (x:Value):List GV:=[.v (ii t.n.kind),.v (ii t.n.at_),.v (ii t.n.n),.v (sv t.n.s),.v x]
theorem Mj:∀ (N:Nat) (t:T),aP t<=N->∀ (n:Nat) (rows:List (List GV)) (a:Option Addr) (c:Nat),rows.length=n->n+aP t<=1099511627776 ->
  GC Tryz.prog 207 [.v (.slice a n c),qT t] [.vech 91 5 rows (.slice a n c)] fun g aK=>∃ a c,g=.v (.slice a (n+aP t) c)/\aK=[.vech 91 5 (rows++(lO n t).map r7) (.slice a (n+aP t) c)]:=by
 intro N
 induction N with
 | zero=>intro t h;rw [Go.Xp.ef] at h;omega
 | succ N ih =>
 intro t hN n rows a c hn hb;subst hn;rw [Go.Xp.ef] at hb hN;have eR:=Go.Xp.bL t.kids;refine ai Tryz.func207 Tryz.ntmps207 ?_;refine GL.jv 0 rfl rfl rfl rfl rfl rfl rfl rfl aY mc ?_;intro a c;refine bI ?_;refine ae ?_;refine GW.wk (Wk.oY 3 1) ?_
 refine GW.range (kc t.kids).length (fun k fr Γ=>∃ a c a2 c2,fr=[.v (.slice a (rows.length+1+az (t.kids.take k)) c),qT t,.U,.U,.U,.v (ii (rows.length:Nat)),.U,.U,.U,.U,.U,.U,.U,.U,.U,.U,.U,.U,.U,.U,.sl 1 (kc t.kids),.v (ii ((kc t.kids).length:Int)),.v (ii (k:Nat)),.U,.U,.U,.U,.U,.U,.U,.U,.U,.U,.U,.U,.U,.U,.U,.U,.U,.U,.U,.U,.U] /\
  Γ=[.vech 91 5 (rows++Co t (.slice a2 k c2)::(ea (rows.length+1) (t.kids.take k)).map r7) (.slice a (rows.length+1+az (t.kids.take k)) c),.vech 3 1 ((bX (rows.length+1) (t.kids.take k)).map fun z=>[.v (ii z)]) (.slice a2 k c2)]) ?_ (by rw [mN];omega) ?_ ?_ ?_
 ·refine ⟨_,_,Wk.aC aq,a,c,none,0,rfl,?_⟩;rfl
 ·rintro k _ _ ⟨a,c,a2,c2,rfl,rfl⟩;exact dS
 ·rintro k _ _ ak ⟨a,c,a2,c2,rfl,rfl⟩;rw [mN] at ak;obtain ⟨kid,fp⟩:∃ kid,t.kids[k]?=some kid:=⟨t.kids[k],by simp [ak]⟩;have hr:=Bp fp;have cS:=Go.Xp.uL fp;have hle:=Go.Xp.uK t.kids (k+1)
  have jZ:t.kids.take (k+1)=t.kids.take k++[kid]:=by rw [take_add_one,fp];rfl
  have hX:((ea (rows.length+1) (t.kids.take k)).map r7).length=az (t.kids.take k):=by rw [length_map,Go.Xp.yu]
  have vf:((bX (rows.length+1) (t.kids.take k)).map fun z=>[GV.v (ii z)]).length=k:=by rw [length_map,Go.Xp.dV,length_take];omega
  rw [jZ,Go.Xp.Ka,Go.Xp.H9,Go.Xp.mP];simp only [bX,ea,az,append_nil,Nat.add_zero,map_append,List.map_cons,map_nil,<-Nat.add_assoc]
  have C8:=fun (rs:List (List GV)) a c h=>ih kid ag (rows.length+1+az (t.kids.take k)) rs a c h ag
  generalize (ea (rows.length+1) (t.kids.take k)).map r7=X at *;generalize ((bX (rows.length+1) (t.kids.take k)).map fun z=>[GV.v (ii z)])=ks at *;generalize az (t.kids.take k)=s at *;subst vf
  have jA:∀ r:List GV,(rows++r::X).length=rows.length+1+s:=fun r=>by simp;omega
  have bt:(rows++Co t (.slice a2 ks.length c2)::X)[rows.length]?=some (Co t (.slice a2 ks.length c2)):=by simp
  have eS:=jA (Co t (.slice a2 ks.length c2));unfold Co at bt eS |-;refine ae ?_;refine GL.jv 1 rfl rfl rfl rfl rfl rfl rfl rfl aY mc ?_;intro a3 c3;refine bI ?_;refine ae ?_;refine oN ?_;rw [Ga];simp only [bs];refine ae ?_;refine cm [0] (C8 _ _ _ (jA _)) ?_;rintro _ _ ⟨a4,c4,rfl,rfl⟩;refine cW ?_;refine ae ?_;refine ⟨rfl,rfl,_,_,Wk.aC aq,a4,c4,a3,c3,rfl,?_⟩;rw [List.append_assoc];rfl
 ·rintro _ _ ⟨a,c,a2,c2,rfl,rfl⟩;rw [mN,take_length];rw [Go.Xp.ef,Go.Xp.Mh]
  have vf:((bX (rows.length+1) t.kids).map fun z=>[GV.v (ii z)]).length=t.kids.length:=by rw [length_map,Go.Xp.dV]
  have og:ints (bX (rows.length+1) t.kids)=.sl 1 ((bX (rows.length+1) t.kids).map fun z=>[GV.v (ii z)]):=rfl;rw [List.map_cons];simp only [r7,Co];rw [og,show rows.length+(az t.kids+1)=rows.length+1+az t.kids by omega];generalize (ea (rows.length+1) t.kids).map r7=X at *;generalize ((bX (rows.length+1) t.kids).map fun z=>[GV.v (ii z)])=ks at *;generalize az t.kids=s at *
  have bt:∀ r:List GV,(rows++r::X)[rows.length]?=some r:=fun r=>by simp
  refine bb ?_;apply GW.wk
  ·apply Wk.KP (i:=0) (idx:=rows.length) (o:=4) (j:=1)
   ·rfl
   ·exact bt _
   ·rfl
   ·rfl
   ·rfl
  rw [Ga];simp only [bs];refine ae ?_;refine bR ?_;exact ⟨_,_,rfl,rfl⟩
end Go.Xg
namespace Go.Xg
open Go.RowKit Go.Xw Go.Proofs
open Go.Xp (Tok Nd T bh one levels gm dL ed dr dc lj mD ox Ar)
open Go.Sp Go.Im
attribute [local irreducible] GW GL GO YG GC GA aU aZ
structure HW where
 aT:Option Addr
 cT:Nat
 aG:Option Addr
 cG:Nat
 aA:Option Addr
 cA:Nat
 aF:Option Addr
 cF:Nat
def qU (x:Ar):List GV:=[.v (sv x.name),.v (ii x.size)]
def qa (x:ah × List ah):List GV:=[.v (sv x.1),strs x.2,.v (ii 0)]
def kW (x:ah):List GV:=[.v (sv x)]
abbrev hx (st:PS) (h:HW):PX:=⟨.slice h.aT st.trees.length h.cT,.slice h.aG st.globals.length h.cG,.slice h.aA st.arrays.length h.cA,.slice h.aF st.fns.length h.cF,.slice none 0 0⟩
abbrev uE (p:RS) (st:PS) (h:HW):List Ob:=[bK p (hx st h),.vech 152 1 (kc st.trees) (.slice h.aT st.trees.length h.cT),.vech 9 1 (st.globals.map kW) (.slice h.aG st.globals.length h.cG),.vech 88 2 (st.arrays.map qU) (.slice h.aA st.arrays.length h.cA),.vech 60 3 (st.fns.map qa) (.slice h.aF st.fns.length h.cF)]
theorem wx {α β:Type} (g:α->β) (l:List α) (x:α):(l++[x]).map g=l.map g++[g x]:=by simp
theorem Ox {f:Nat} (p:RS) (st:PS) (h:HW) (q:RS) (dQ:PS) (n:Nat) (hp:p.ok) (hn:st.le n) (hb:n+1<=1099511627776) (hs:is p 0 lj=true) (hw:iW f p st=some (q,dQ)) :
  GC Tryz.prog 206 [.loc 0 0] (uE p st h) (fun g aK=>g=.tup []/\∃ h',aK=uE q dQ h'):=by
 obtain ⟨Db,cQ⟩:=id hp;obtain ⟨Fg,bO,hn3,hn4⟩:=hn;unfold iW at hw;rw [if_pos hs] at hw;have hi:=jN p 0 lj (hx st h) hp aJ;rw [hs] at hi;have lA:=(jx hs).ok hp
 have eK:=qP p.next (hx st h) lA
 have dF:=(gO lA).ok lA;generalize (tok p.next 0).s=s at *
 generalize bm p.next=p2 at *
 have r9:=jN p2 0 [91] (hx st h) dF aJ
 have aaa:¬ (p2.code=0/\is p2 0 [91]=true)->True:=fun _=>trivial
 cases hc:(p2.code==0) with
 | false =>
  have dq:¬ p2.code=0:=by simpa using hc
  rw [if_neg (fun hh=>dq hh.1)] at hw;cases hw
  have xH:(st.globals.map kW).length+1=(st.globals++[s]).length:=by simp
  have pk:st.globals.map kW++[[GV.v (sv s)]]=(st.globals++[s]).map kW:=by simp [kW]
  have hlen:(st.globals.map kW).length+1<=1099511627776:=by simp;omega
  refine ai Tryz.func206 Tryz.ntmps206 ?_;refine ab [0] hi ?_;refine ab [0] eK ?_;refine GL.jv 2 rfl rfl rfl rfl rfl rfl rfl rfl aY mc ?_;intro a c;refine bI ?_;rw [xH,pk];refine ae ?_;refine bS ?_;refine ae ?_;refine ab [0] (eL p2 [59] (hx { st with globals:=st.globals++[s] } { h with aG:=a,cG:=c }) dF) ?_;refine cV ?_;exact ⟨rfl,{ h with aG:=a,cG:=c },rfl⟩
 | true =>
  have dq:p2.code=0:=by simpa using hc
  cases eI:is p2 0 [91] with
  | false =>
   rw [eI] at r9;rw [if_neg (fun hh=>by have:=hh.2;rw [eI] at this;cases this)] at hw;cases hw
   have xH:(st.globals.map kW).length+1=(st.globals++[s]).length:=by simp
   have pk:st.globals.map kW++[[GV.v (sv s)]]=(st.globals++[s]).map kW:=by simp [kW]
   have hlen:(st.globals.map kW).length+1<=1099511627776:=by simp;omega
   refine ai Tryz.func206 Tryz.ntmps206 ?_;refine ab [0] hi ?_;refine ab [0] eK ?_;refine ab [0] r9 ?_;refine GL.jv 2 rfl rfl rfl rfl rfl rfl rfl rfl aY mc ?_;intro a c;refine bI ?_;rw [xH,pk];refine ae ?_;refine bS ?_;refine ae ?_;refine ab [0] (eL p2 [59] (hx { st with globals:=st.globals++[s] } { h with aG:=a,cG:=c }) dF) ?_;refine cV ?_;exact ⟨rfl,{ h with aG:=a,cG:=c },rfl⟩
  | true =>
   rw [eI] at r9;rw [if_pos ⟨dq,eI⟩] at hw;have zn:=(jx eI).ok dF;have aat:=dF.1;have UQ:=dF.2;have aau:=zn.1;have aav:=zn.2
   have ht:=rp p2.next 0 (hx st h) zn aJ
   have Fv:=yS p2.next (hx st h) zn
   have EW:(tok p2.next 0).kind=1->p2.next.next.ok:=fun hk=>(dv (rP (p:=p2.next) (k:=0) (by rw [hk];decide))).ok zn
   generalize tok p2.next 0=tk at *
   by_cases hk:tk.kind=1
   ·rw [if_pos hk] at hw;cases hw
    have ly:(tk.kind != 1)=false:=by simpa using hk
    have Rh:=EW hk;have aaw:=Rh.1
    have Ft:=eL p2.next.next [93] (hx st h) Rh
    have hp5:=(cg Rh [93]).ok Rh
    generalize want p2.next.next [93]=p5 at *
    have xH:(st.arrays.map qU).length+1=(st.arrays++[(⟨s,tk.n⟩:Ar)]).length:=by simp
    have pk:st.arrays.map qU++[[GV.v (sv s),.v (ii tk.n)]]=(st.arrays++[(⟨s,tk.n⟩:Ar)]).map qU:=by simp [qU]
    have hlen:(st.arrays.map qU).length+1<=1099511627776:=by simp;omega
    refine ai Tryz.func206 Tryz.ntmps206 ?_;refine ab [0] hi ?_;refine ab [0] eK ?_;refine ab [0] r9 ?_;refine ab [0] ht ?_;refine bS ?_;refine ae ?_;refine ab [0] Ft ?_;refine aI (aB 0 10 (.a 10 (.a 11 (aB 12 3 (.a 15 .nil))))) ?_;refine ar ?_;refine ey ?_;refine ar ?_;refine OA rfl rfl (GL.pJ 3 rfl rfl rfl aY rfl rfl (by refine ⟨?_,?_⟩;(· show _+1<=_;omega);(· show (_+1) * _<=_;omega)) ?_);intro a c;refine dy ?_;generalize hX:chunk 1 2 _=X
    obtain rfl:X=[qU ⟨s,tk.n⟩]:=by rw [<-hX];rfl
    clear hX
    try (generalize hX:chunk 1 2 _=X;obtain rfl:X=[qU ⟨s,tk.n⟩]:=by rw [<-hX];rfl)
    rw [show (st.arrays.map qU).length+[qU ⟨s,tk.n⟩].length=(st.arrays++[(⟨s,tk.n⟩:Ar)]).length by simp,<-wx qU st.arrays ⟨s,tk.n⟩];refine bf ?_;refine bS ?_;refine ae ?_;refine ab [0] (eL p5 [59] (hx { st with arrays:=st.arrays++[⟨s,tk.n⟩] } { h with aA:=a,cA:=c }) hp5) ?_;refine cV ?_;exact ⟨rfl,{ h with aA:=a,cA:=c },rfl⟩
   ·rw [if_neg hk] at hw;cases hw
    have ly:(tk.kind != 1)=true:=by simpa using hk
    refine ai Tryz.func206 Tryz.ntmps206 ?_;refine ab [0] hi ?_;refine ab [0] eK ?_;refine ab [0] r9 ?_;refine ab [0] ht ?_;refine ab [0] Fv ?_;refine cV ?_;exact ⟨rfl,h,rfl⟩
theorem Le {f:Nat} (p:RS) (st:PS) (h:HW) (q:RS) (dQ:PS) (hp:p.ok) (hs:is p 0 lj=false) (iR:is p 0 mD=false) (hw:iW f p st=some (q,dQ)) :
  GC Tryz.prog 206 [.loc 0 0] (uE p st h) (fun g aK=>g=.tup []/\∃ h',aK=uE q dQ h'):=by
 unfold iW at hw;rw [if_neg (by rw [hs];decide),if_neg (by rw [iR];decide)] at hw;cases hw;have hi:=jN p 0 lj (hx st h) hp aJ;have r9:=jN p 0 mD (hx st h) hp aJ;have Fv:=yS p (hx st h) hp;rw [hs] at hi;rw [iR] at r9;refine ai Tryz.func206 Tryz.ntmps206 ?_;refine ab [0] hi ?_;refine ab [0] r9 ?_;refine ab [0] Fv ?_;refine cV ?_;exact ⟨rfl,h,rfl⟩
abbrev Wn (p:RS) (st:PS) (h:HW) (s:ah) (acc:List ah) (a:Option Addr) (c:Nat):List Ob:=uE p st h++[.box 60 [.v (sv s),.v (.slice a acc.length c),.v (ii 0)],.vech 9 1 (acc.map kW) (.slice a acc.length c)]
theorem Lf {f:Nat} (p:RS) (st:PS) (h:HW) (q:RS) (dQ:PS) (n:Nat) (hp:p.ok) (hn:st.le n) (hb:n+f+4<=1099511627776) (rF:is p 0 lj=false) (hs:is p 0 mD=true) (hw:iW f p st=some (q,dQ)) :
  GC Tryz.prog 206 [.loc 0 0] (uE p st h) (fun g aK=>g=.tup []/\∃ h',aK=uE q dQ h'):=by
 obtain ⟨Db,cQ⟩:=id hp;obtain ⟨Fg,bO,hn3,hn4⟩:=hn;unfold iW at hw;rw [if_neg (by rw [rF];decide),if_pos hs] at hw;have xI:=jN p 0 lj (hx st h) hp aJ;rw [rF] at xI;have hi:=jN p 0 mD (hx st h) hp aJ;rw [hs] at hi;have lA:=(jx hs).ok hp
 have eK:=qP p.next (hx st h) lA
 have dF:=(gO lA).ok lA;generalize (tok p.next 0).s=s at *
 generalize bm p.next=p2 at *
 have oI:=eL p2 [40] (hx st h) dF;have zn:=(cg dF [40]).ok dF;generalize want p2 [40]=p3 at *
 cases hm:oJ f [] p3 with
 | none=>rw [hm] at hw;cases hw
 | some r =>
 obtain ⟨l,q1⟩:=r;rw [hm] at hw;simp only at hw;refine ai Tryz.func206 Tryz.ntmps206 ?_;refine ab [0] xI ?_;refine ab [0] hi ?_;refine ab [0] eK ?_;refine bS ?_;refine ae ?_;refine ab [0] oI ?_;refine GW.wk (Wk.oY 9 1) ?_;refine GW.loop (fun z:Nat × List ah × RS=>z.1) (fun z fr Γ=>∃ a c,fr=[.loc 0 0,.U,.U,.U,.loc 5 0,.U,.U,.U,.U,.U,.U,.U,.U,.U,.U,.U,.U,.U,.U,.U,.U,.U,.U,.U,.U,.U,.U,.U,.U,.U,.U,.U,.U,.U,.U,.U,.U,.U,.U,.U,.U,.U,.U,.U,.U,.U,.U,.U,.U,.U,.U,.U,.U,.U,.U,.U,.U,.U,.U,.U,.U,.U,.U,.U,.U,.U,.U,.U,.U,.U,.U,.U,.U,.U,.U,.U,.U,.U,.U,.U,.U,.U,.U,.U,.U,.U,.U,.U,.U,.U,.U,.U,.U,.U,.U,.U,.U,.U,.U,.U,.U,.U,.U,.U,.U,.U,.U,.U,.U,.U,.U,.U,.U,.U,.U,.U,.U,.U,.U,.U,.U,.U,.U,.U,.U,.U,.U,.U,.U,.U,.U,.U,.U,.U,.U,.U,.U,.U,.U,.U,.U,.U,.U,.U,.U,.U,.U,.U,.U,.U,.U,.U,.U]/\Γ=Wn z.2.2 st h s z.2.1 a c/\z.2.2.ok/\z.2.1.length+z.1<=f/\oJ z.1 z.2.1 z.2.2=some (l,q1)) (f,[],p3) ?_ ?_
 ·exact ⟨_,_,Wk.aC aq,none,0,rfl,rfl,zn,by simp,hm⟩
 clear hm zn oI dF eK hi xI lA;rintro ⟨g,acc,p⟩ _ _ ⟨a,c,rfl,rfl,hp,zk,hm⟩;simp only at hp zk hm
 cases g with
 | zero=>cases hm
 | succ g =>
 rw [oJ] at hm;have hi:=jN p 0 [41] (hx st h) hp aJ
 by_cases hgo:p.code=0/\is p 0 [41]=false
 ·obtain ⟨hc,sf⟩:=id hgo;rw [if_pos hgo] at hm;rw [sf] at hi
  have dq:(p.code==0)=true:=by simpa using hc
  by_cases h0:acc.length=0
  ·obtain rfl:=List.eq_nil_of_length_eq_zero h0
   have hd:decide ((0:Int) < (([]:List ah).length:Int))=false:=by decide
   rw [if_pos (by rfl)] at hm;have eK:=qP p (hx st h) hp;have dF:=(gO hp).ok hp;generalize (tok p 0).s=s2 at *;refine ae ?_;refine ab [0] hi ?_;refine aI (aB 0 3 (.a 3 (.a 4 (.a 5 (.q 6 (.a 7 .nil)))))) ?_;refine ar ?_;refine aE [0] eK ?_;refine ey ?_;refine ar ?_;refine OA rfl rfl (GL.pJ 6 (news:=[kW s2]) rfl rfl rfl aY rfl rfl (by refine ⟨?_,?_⟩;(· show _+1<=_;omega);(· show (_+1) * _<=_;omega)) ?_);intro a2 c2;refine dy ?_;refine bf ?_;exact ⟨(g,[s2],bm p),⟨_,_,Wk.aC aq,a2,c2,rfl,rfl,dF,by simp at zk |-;omega,hm⟩,by simp⟩
  ·have hd:decide ((0:Int) < (acc.length:Int))=true:=by simpa using by omega
   rw [if_neg h0] at hm;have hwc:=eL p [44] (hx st h) hp;have lQ:=(cg hp [44]).ok hp;generalize want p [44]=pw at *;have eK:=qP pw (hx st h) lQ;have dF:=(gO lQ).ok lQ;generalize (tok pw 0).s=s2 at *
   have hlen:(acc.map kW).length<=f:=by simp;omega
   refine ae ?_;refine ab [0] hi ?_;refine bS ?_;refine ae ?_;refine ab [0] hwc ?_;refine aI (aB 0 3 (.a 3 (.a 4 (.a 5 (.q 6 (.a 7 .nil)))))) ?_;refine ar ?_;refine aE [0] eK ?_;refine ey ?_;refine ar ?_;refine OA rfl rfl (GL.pJ 6 (news:=[kW s2]) rfl rfl rfl aY rfl rfl (by refine ⟨?_,?_⟩;(· show _+1<=_;omega);(· show (_+1) * _<=_;omega)) ?_);intro a2 c2;refine dy ?_
   try rw [show (acc.map kW).length+1=(acc++[s2]).length by simp]
   rw [show (acc.map kW).length+[kW s2].length=(acc++[s2]).length by simp,<-wx kW acc s2];refine bf ?_;exact ⟨(g,acc++[s2],bm pw),⟨_,_,Wk.aC aq,a2,c2,rfl,rfl,dF,by simp;omega,hm⟩,by simp⟩
 ·rw [if_neg hgo] at hm
  obtain ⟨rfl,rfl⟩:acc=l/\want p [41]=q1:=by simpa using hm
  clear hm;have Rn:=eL p [41] (hx st h) hp;have XV:=(cg hp [41]).ok hp
  have eS:(kc st.trees).length+1<=1099511627776:=by rw [mN];omega
  have jA:(st.fns.map qa).length+1<=1099511627776:=by simp;omega
  by_cases hc:p.code=0
  ·have dq:(p.code==0)=true:=by simpa using hc
   have sf:is p 0 [41]=true:=by
    cases h3:is p 0 [41] with
    | true=>rfl
    | false=>exact absurd ⟨hc,h3⟩ hgo
   rw [sf] at hi
   by_cases hqc:(want p [41]).code=0
   ·have Pr:((want p [41]).code==0)=true:=by simpa using hqc
    rw [if_pos hqc] at hw
    cases ek:iS f (.block 1) (want p [41]) with
    | none=>rw [ek] at hw;cases hw
    | some r =>
    obtain ⟨t,qq⟩:=r;rw [ek] at hw
    obtain ⟨rfl,rfl⟩:qq=q/\_=dQ:=by simpa using hw
    have dj:=(Yb f).block 1 _ t qq (hx st h) XV ag ek;clear ek hqc;generalize want p [41]=pq at *;refine ae ?_;refine ab [0] hi ?_;refine jc ?_;refine ae ?_;refine bS ?_;refine ae ?_;refine ab [0] Rn ?_;refine aI (aB 0 6 (.a 6 (.a 7 (.a 8 (.q 9 (.q 10 (.a 11 .nil))))))) ?_;refine ar ?_;refine aE [0] dj ?_;refine ey ?_;refine ar ?_;refine OA rfl rfl (GL.pJ 1 (news:=[[qT t]]) rfl rfl rfl aY rfl rfl (by refine ⟨?_,?_⟩;(· show _+1<=_;omega);(· show (_+1) * _<=_;omega)) ?_);intro a3 c3;refine dy ?_
    try rw [show (kc st.trees).length+1=(st.trees++[t]).length by simp [mN]]
    rw [show (kc st.trees).length+[[qT t]].length=(st.trees++[t]).length by simp [mN],<-vy st.trees t];refine bf ?_;apply GW.wk
    ·apply Wk.yM (i:=5) (o:=1) (j:=6)
     ·rfl
     ·rfl
     ·rfl
     ·rfl
    simp only [oset,bs];refine aI (aB 0 7 (.a 7 (.a 8 (aB 9 3 (.a 12 .nil))))) ?_;refine ar ?_;refine ey ?_;refine ar ?_;refine OA rfl rfl (GL.pJ 4 (news:=[qa (s,acc)]) rfl rfl rfl aY rfl rfl (by refine ⟨?_,?_⟩;(· show _+1<=_;omega);(· show (_+1) * _<=_;omega)) ?_);intro a4 c4;refine dy ?_
    try rw [show (st.fns.map qa).length+1=(st.fns++[(s,acc)]).length by simp]
    rw [show (st.fns.map qa).length+[qa (s,acc)].length=(st.fns++[(s,acc)]).length by simp,<-wx qa st.fns (s,acc)];refine bf ?_;refine cV ?_;exact ⟨rfl,{ h with aT:=a3,cT:=c3,aF:=a4,cF:=c4 },rfl⟩
   ·have Pr:((want p [41]).code==0)=false:=by simpa using hqc
    rw [if_neg hqc] at hw;cases hw;clear hqc;generalize want p [41]=pq at *;refine ae ?_;refine ab [0] hi ?_;refine jc ?_;refine ae ?_;refine bS ?_;refine ae ?_;refine ab [0] Rn ?_;refine cV ?_;exact ⟨rfl,h,rfl⟩
  ·have dq:(p.code==0)=false:=by simpa using hc
   by_cases hqc:(want p [41]).code=0
   ·have Pr:((want p [41]).code==0)=true:=by simpa using hqc
    rw [if_pos hqc] at hw
    cases ek:iS f (.block 1) (want p [41]) with
    | none=>rw [ek] at hw;cases hw
    | some r =>
    obtain ⟨t,qq⟩:=r;rw [ek] at hw
    obtain ⟨rfl,rfl⟩:qq=q/\_=dQ:=by simpa using hw
    have dj:=(Yb f).block 1 _ t qq (hx st h) XV ag ek;clear ek hqc;generalize want p [41]=pq at *;refine bH ?_;refine ae ?_;refine bS ?_;refine ae ?_;refine ab [0] Rn ?_;refine aI (aB 0 6 (.a 6 (.a 7 (.a 8 (.q 9 (.q 10 (.a 11 .nil))))))) ?_;refine ar ?_;refine aE [0] dj ?_;refine ey ?_;refine ar ?_;refine OA rfl rfl (GL.pJ 1 (news:=[[qT t]]) rfl rfl rfl aY rfl rfl (by refine ⟨?_,?_⟩;(· show _+1<=_;omega);(· show (_+1) * _<=_;omega)) ?_);intro a3 c3;refine dy ?_
    try rw [show (kc st.trees).length+1=(st.trees++[t]).length by simp [mN]]
    rw [show (kc st.trees).length+[[qT t]].length=(st.trees++[t]).length by simp [mN],<-vy st.trees t];refine bf ?_;apply GW.wk
    ·apply Wk.yM (i:=5) (o:=1) (j:=6)
     ·rfl
     ·rfl
     ·rfl
     ·rfl
    simp only [oset,bs];refine aI (aB 0 7 (.a 7 (.a 8 (aB 9 3 (.a 12 .nil))))) ?_;refine ar ?_;refine ey ?_;refine ar ?_;refine OA rfl rfl (GL.pJ 4 (news:=[qa (s,acc)]) rfl rfl rfl aY rfl rfl (by refine ⟨?_,?_⟩;(· show _+1<=_;omega);(· show (_+1) * _<=_;omega)) ?_);intro a4 c4;refine dy ?_
    try rw [show (st.fns.map qa).length+1=(st.fns++[(s,acc)]).length by simp]
    rw [show (st.fns.map qa).length+[qa (s,acc)].length=(st.fns++[(s,acc)]).length by simp,<-wx qa st.fns (s,acc)];refine bf ?_;refine cV ?_;exact ⟨rfl,{ h with aT:=a3,cT:=c3,aF:=a4,cF:=c4 },rfl⟩
   ·have Pr:((want p [41]).code==0)=false:=by simpa using hqc
    rw [if_neg hqc] at hw;cases hw;clear hqc;generalize want p [41]=pq at *;refine bH ?_;refine ae ?_;refine bS ?_;refine ae ?_;refine ab [0] Rn ?_;refine cV ?_;exact ⟨rfl,h,rfl⟩
end Go.Xg
namespace Go.Xg
open Go.RowKit Go.Xw Go.Proofs
open Go.Xp (Tok Nd T bh one levels gm dL ed dr dc lj mD ox Ar az aP ea lO)
open Go.Sp Go.Im
attribute [local irreducible] GW GL GO YG GC GA aU aZ
theorem Tv {f:Nat} (p:RS) (st:PS) (h:HW) (q:RS) (dQ:PS) (n:Nat) (hp:p.ok) (hn:st.le n) (hb:n+f+4<=1099511627776) (hw:iW f p st=some (q,dQ)) :
  GC Tryz.prog 206 [.loc 0 0] (uE p st h) (fun g aK=>g=.tup []/\∃ h',aK=uE q dQ h'):=by
 cases h1:is p 0 lj with
 | true=>exact Ox p st h q dQ n hp hn ag h1 hw
 | false =>
  cases h2:is p 0 mD with
  | true=>exact Lf p st h q dQ n hp hn hb h1 h2 hw
  | false=>exact Le p st h q dQ hp h1 h2 hw
def nm (fns:List (ah × List ah)) (trees:List T) (k:Nat):List (List GV):=fns.mapIdx fun i x=>[.v (sv x.1),strs x.2,.v (ii (if i < k then ((az (trees.take i):Nat):Int) else 0))]
theorem F9:∀ (rows:List (List GV)) (i j o:Nat) (g:GV),(dk rows i o g)[j]?=if j=i then (rows[j]?).map (fun r=>bs r o g) else rows[j]?
 | [],i,j,o,g=>by simp [dk]
 | r::rs,0,0,o,g=>by simp [dk]
 | r::rs,0,j+1,o,g=>by simp [dk]
 | r::rs,i+1,0,o,g=>by simp [dk]
 | r::rs,i+1,j+1,o,g=>by
  rw [dk,getElem?_cons_succ,F9 rs i j o g];simp
theorem S6 (fns:List (ah × List ah)) (trees:List T):fns.map qa=nm fns trees 0:=by
 apply ext_getElem?;intro i;rw [nm,getElem?_mapIdx,getElem?_map]
 cases fns[i]? <;> simp [qa]
theorem NU (fns:List (ah × List ah)) (trees:List T) (k:Nat):dk (nm fns trees k) k 2 (.v (ii ((az (trees.take k):Nat):Int)))=nm fns trees (k+1):=by
 apply ext_getElem?;intro i;rw [F9,nm,nm,getElem?_mapIdx,getElem?_mapIdx]
 by_cases h:i=k
 ·subst h;rw [if_pos rfl]
  cases fns[i]? with
  | none=>rfl
  | some x=>simp [bs]
 ·rw [if_neg h]
  cases fns[i]? with
  | none=>rfl
  | some x =>
   have:(i < k)=(i < k+1):=by simp;omega
   simp [this]
theorem Qb {fns:List (ah × List ah)} {trees:List T} {k:Nat} (j:Nat) (h:k < fns.length):∃ x,(nm fns trees j)[k]?=some [.v (sv x.1),strs x.2,.v (ii (if k < j then ((az (trees.take k):Nat):Int) else 0))]/\fns[k]?=some x:=by
 refine ⟨fns[k],?_,by simp [h]⟩;rw [nm,getElem?_mapIdx];simp [h]
def I0 (q:RS) (st:PS):GV :=
 if q.code=0 then
  if az st.trees > 800 then .tup [.agg [.sl 1 [],.sl 2 [],.sl 3 [],.sl 5 []],.v (ii 10),.v (ii 0)]
  else .tup [.agg [.sl 1 (st.globals.map kW),.sl 2 (st.arrays.map qU),.sl 3 (nm st.fns st.trees st.trees.length),.sl 5 ((ea 0 st.trees).map r7)],.v (ii 0),.v (ii 0)]
 else .tup [.agg [.sl 1 [],.sl 2 [],.sl 3 [],.sl 5 []],.v (ii q.code),.v (ii q.at_)]
theorem Ht {G f:Nat} (ts:List Tok) (e:Int) (q:RS) (st:PS) (hl:ts.length<=1099511627776) (hb:G+f+4<=1099511627776) (hz:q.code=0->az st.trees<=1099511627776) (h:ni G f ⟨ts,0,e,0,0⟩ .empty=some (q,st)) :
  GF Tryz.prog 163 [iw ts,.v (ii e)] [] (I0 q st) []:=by
 unfold I0;refine ai Tryz.func163 Tryz.ntmps163 ?_;refine GW.wk (Wk.oY 152 1) ?_;refine GW.wk (Wk.oY 9 1) ?_;refine GW.wk (Wk.oY 88 2) ?_;refine GW.wk (Wk.oY 60 3) ?_;refine GW.loop (fun z:Nat × RS × PS=>z.1) (fun z fr Γ=>∃ h n,fr=[iw ts,.v (ii e),.U,.U,.loc 0 0,.v (ii 0),.v (ii 0),.loc 1 0,.U,.U,.U,.U,.U,.U,.U,.U,.U,.U,.U,.U,.U,.U,.U,.U,.U,.U,.U,.U,.U,.U,.U,.U,.U,.U,.U,.U,.U,.U,.U,.U,.U,.U,.U,.U,.U,.U,.U,.U,.U,.U,.U,.U,.U,.U,.U,.U,.U,.U,.U,.U,.U,.U,.U,.U,.U,.U,.U,.U,.U,.U,.U,.U,.U,.U,.U,.U,.U,.U,.U]/\Γ=.box 34 [.v (.slice none 0 0),.v (.slice none 0 0),.v (.slice none 0 0),.v (.slice none 0 0)]::uE z.2.1 z.2.2 h/\z.2.1.l=ts/\z.2.1.ok/\z.2.2.le n/\n+z.1<=G/\ni z.1 f z.2.1 z.2.2=some (q,st)) (G,⟨ts,0,e,0,0⟩,.empty) ?_ ?_
 ·exact ⟨_,_,Wk.aC aq,⟨none,0,none,0,none,0,none,0⟩,0,rfl,rfl,rfl,⟨Nat.zero_le _,hl⟩,⟨Nat.le_refl _,Nat.le_refl _,Nat.le_refl _,rfl⟩,by simp,h⟩
 clear h;rintro ⟨g,p,s⟩ _ _ ⟨hd,n,rfl,rfl,cQ,hp,hn,zk,h⟩;simp only at cQ hp hn zk h
 cases g with
 | zero=>cases h
 | succ g =>
 rw [ni] at h
 by_cases hgo:p.code=0/\p.i < p.l.length
 ·rw [if_pos hgo] at h
  have dq:(p.code==0)=true:=by simpa using hgo.1
  have ak:decide ((p.i:Int) < ((ts.map c8).length:Int))=true:=by
   have:=hgo.2;rw [cQ] at this;simpa using this
  cases hw:iW f p s with
  | none=>rw [hw] at h;cases h
  | some r =>
   obtain ⟨p2,s2⟩:=r;rw [hw] at h;simp only at h;have kB:=WN hp hw;refine ae ?_;refine cm [1,2,3,4,5] (Tv p s hd p2 s2 n hp hn ag hw) ?_;rintro _ _ ⟨rfl,dd,rfl⟩;refine cW ?_;refine ae ?_;exact ⟨(g,p2,s2),⟨_,_,Wk.aC aq,dd,n+1,rfl,rfl,by rw [kB.1,cQ],kB.ok hp,WK hw hn,by show n+1+g<=G;omega,h⟩,by simp⟩
 ·rw [if_neg hgo] at h
  obtain ⟨rfl,rfl⟩:p=q/\s=st:=by simpa using h
  clear h
  have hex:∀ b1 b2:Bool,(p.code==0)=b1->decide ((p.i:Int) < ((ts.map c8).length:Int))=b2->b1=true->b2=false:=fun b1 b2 h1 h2 h3=>by
   subst h3
   cases b2 with
   | false=>rfl
   | true=>exact absurd ⟨by simpa using h1,by rw [cQ];simpa using h2⟩ hgo
  by_cases hc:p.code=0
  ·rw [if_pos hc];have hz:=hz hc
   have dq:(p.code==0)=true:=by simpa using hc
   have jJ:(p.code != 0)=false:=by simpa using hc
   have ak:=hex _ _ dq rfl rfl;have mT:=hn.trees;have hlf:=hn.fns;have tg:=mN s.trees;have pQ:=Go.Xp.bL s.trees;refine bH ?_;refine ae ?_;refine GW.wk (by apply Wk.rm (t:=52) (i:=2) <;> rfl) ?_;simp only [oset,bs];refine ae ?_;refine GW.wk (Wk.oY 91 5) ?_;rw [S6 s.fns s.trees]
   refine GW.range s.trees.length (fun k fr Γ=>∃ aN cN,fr=[.U,.U,.U,.U,.loc 0 0,.v (ii 0),.v (ii 0),.U,.loc 6 0,.U,.U,.U,.U,.U,.U,.U,.U,.U,.U,.U,.U,.U,.U,.U,.U,.U,.U,.U,.U,.U,.U,.U,.U,.U,.U,.U,.U,.U,.U,.U,.U,.U,.U,.U,.U,.U,.U,.U,.U,.U,.U,.U,.sl 1 (kc s.trees),.v (ii (s.trees.length:Int)),.v (ii (k:Nat)),.U,.U,.U,.U,.U,.U,.U,.U,.U,.U,.U,.U,.U,.U,.U,.U,.U,.U,.U,.U,.U,.U,.U,.U]/\Γ=[.box 34 [.v (.slice none 0 0),.v (.slice none 0 0),.v (.slice none 0 0),.v (.slice none 0 0)],bK p (hx s hd),.vec 152 1 (kc s.trees).length (kc s.trees),.vech 9 1 (s.globals.map kW) (.slice hd.aG s.globals.length hd.cG),.vech 88 2 (s.arrays.map qU) (.slice hd.aA s.arrays.length hd.cA),.vech 60 3 (nm s.fns s.trees k) (.slice hd.aF s.fns.length hd.cF),
    .box 34 [.v (.slice hd.aG s.globals.length hd.cG),.v (.slice hd.aA s.arrays.length hd.cA),.v (.slice hd.aF s.fns.length hd.cF),.v (.slice aN (az (s.trees.take k)) cN)],.vech 91 5 ((ea 0 (s.trees.take k)).map r7) (.slice aN (az (s.trees.take k)) cN)]) ?_ ag ?_ ?_ ?_
   ·exact ⟨_,_,Wk.aC aq,none,0,rfl,rfl⟩
   ·rintro k _ _ ⟨aN,cN,rfl,rfl⟩;exact dS
   ·rintro k _ _ ak ⟨aN,cN,rfl,rfl⟩;obtain ⟨t,ht⟩:∃ t,s.trees[k]?=some t:=⟨s.trees[k],by simp [ak]⟩;have hr:=Bp ht;have cS:=Go.Xp.uL ht;have hle:=Go.Xp.uK s.trees (k+1)
    have jZ:s.trees.take (k+1)=s.trees.take k++[t]:=by rw [take_add_one,ht];rfl
    obtain ⟨x,vj,Iv⟩:=Qb (fns:=s.fns) (trees:=s.trees) (k:=k) k ag;rw [if_neg (Nat.lt_irrefl k)] at vj;have vi:k < (nm s.fns s.trees k).length:=(List.getElem?_eq_some_iff.1 vj).1
    have hX:((ea 0 (s.trees.take k)).map r7).length=az (s.trees.take k):=by rw [length_map,Go.Xp.yu]
    have jK:=Mj (aP t) t (Nat.le_refl _) (az (s.trees.take k)) _ aN cN hX ag;rw [<-NU s.fns s.trees k,jZ,Go.Xp.H9,Go.Xp.mP];simp only [ea,az,append_nil,Nat.add_zero,Nat.zero_add,map_append];generalize (ea 0 (s.trees.take k)).map r7=X at *;generalize az (s.trees.take k)=z at *;generalize nm s.fns s.trees k=R at *;refine ae ?_;refine oN ?_;refine ae ?_;refine cm [7] jK ?_;rintro _ _ ⟨a5,c5,rfl,rfl⟩;refine cW ?_;refine ae ?_;exact ⟨rfl,rfl,_,_,Wk.aC aq,a5,c5,rfl,rfl⟩
   ·rintro _ _ ⟨aN,cN,rfl,rfl⟩;rw [take_length]
    have hX:((ea 0 s.trees).map r7).length=az s.trees:=by rw [length_map,Go.Xp.yu]
    by_cases h8:az s.trees > 800
    ·rw [if_pos h8]
     have h8':decide ((800:Int) < (az s.trees:Int))=true:=by simpa using by omega
     generalize az s.trees=z at *;refine ae ?_;refine BA ?_;exact ⟨_,jd,rfl,rfl⟩
    ·rw [if_neg h8]
     have h8':decide ((800:Int) < (((ea 0 s.trees).map r7).length:Int))=false:=by rw [hX];simpa using by omega
     refine bb ?_;refine GW.wk (by apply Wk.yM (i:=6) (o:=0) (j:=3) <;> rfl) ?_;simp only [oset,bs];refine GW.wk (by apply Wk.yM (i:=6) (o:=1) (j:=4) <;> rfl) ?_;simp only [oset,bs];refine GW.wk (by apply Wk.yM (i:=6) (o:=2) (j:=5) <;> rfl) ?_;simp only [oset,bs];refine GW.wk (by apply Wk.yM (i:=6) (o:=3) (j:=7) <;> rfl) ?_;simp only [oset,bs];refine ae ?_;refine lU ?_;exact ⟨rfl,rfl⟩
  ·rw [if_neg hc]
   have dq:(p.code==0)=false:=by simpa using hc
   have jJ:(p.code != 0)=true:=by simpa using hc
   refine bH ?_;refine ae ?_;refine aI (aB 0 9 (.a 9 (.q 10 (.q 11 .nil)))) ?_;refine bf ?_;refine BA ?_;exact ⟨_,jd,rfl,rfl⟩
end Go.Xg
namespace Go.Xg
open Go.RowKit Go.Xw Go.Proofs
open Go.Xp (Tok Nd T)
open Go.Sp (small dT dN bx fa eB dA)
open Go.Im (lH jM cy gi fH jI jR qe ki mW pV)
attribute [local irreducible] GW GL GO YG GC GA aU aZ
theorem yn (c:UInt8):GF Tryz.prog 186 [CP c] [] (.v (.bool (dT c))) []:=by
 unfold dT;refine da Tryz.func186 Tryz.ntmps186 ?_
 cases h:decide ((48:Int)<=(c.toNat:Int))
 all_goals
  exact av
theorem Ac (c:UInt8):GF Tryz.prog 146 [CP c] [] (.v (.bool (small c))) []:=by
 unfold small;refine da Tryz.func146 Tryz.ntmps146 ?_
 cases h:decide ((97:Int)<=(c.toNat:Int))
 all_goals
  exact av
theorem Ku (c:UInt8):GF Tryz.prog 148 [CP c] [] (.v (.bool (dN c))) []:=by
 unfold dN;have hs:=Ac c;have hd:=yn c;generalize small c=b1 at *;generalize dT c=b2 at *;refine ai Tryz.func148 Tryz.ntmps148 ?_;refine iz [] hs ?_
 cases b1 with
 | true =>
  exact av
 | false =>
  cases h1:decide ((65:Int)<=(c.toNat:Int)) with
  | true =>
   cases h2:decide ((c.toNat:Int)<=90) with
   | true =>
    exact av
   | false =>
    refine ae ?_;refine iz [] hd ?_
    cases b2 with
    | true =>
     exact av
    | false =>
     exact av
  | false =>
   refine ae ?_;refine iz [] hd ?_
   cases b2 with
   | true =>
    exact av
   | false =>
    exact av
theorem RJ (test:FuncId) [hf:aH Tryz.prog test] (p:UInt8->Bool) (ht:∀ c,GF Tryz.prog test [CP c] [] (.v (.bool (p c))) []) (s:ah) (a:Nat) (hs:s.length<=1099511627776) (ha:a<=s.length) :
  GF Tryz.prog 147 [.v (sv s),.v (ii (a:Nat)),.v (.func (.func test) #[] #[])] [] (.v (ii (Go.Sp.run s p (s.length+1) a:Nat))) []:=by
 generalize hR:Go.Sp.run s p (s.length+1) a=R;refine ai Tryz.func147 Tryz.ntmps147 ?_;refine GW.loop (fun x:Nat × Nat=>x.1) (fun x fr Γ=>fr=[.v (sv s),.v (ii (x.2:Nat)),.v (.func (.func test) #[] #[]),.U,.U,.U,.U,.U,.U,.U,.U,.U,.U,.U,.U,.U,.U,.U,.U,.U,.U]/\Γ=[]/\x.2<=s.length/\s.length < x.1+x.2/\Go.Sp.run s p x.1 x.2=R) (s.length+1,a) ?_ ?_
 ·exact ⟨_,_,Wk.aC aq,rfl,rfl,ha,by simp only;omega,hR⟩
 ·rintro ⟨f,a⟩ _ _ ⟨rfl,rfl,ha,hf2,h⟩;simp only at ha hf2 h
  cases f with
  | zero=>omega
  | succ f =>
  rw [Go.Sp.run] at h
  cases hc:s[a]? with
  | none =>
   rw [hc] at h;simp only at h;subst h;have lx:s.length<=a:=List.getElem?_eq_none_iff.1 hc
   have hd:decide ((a:Int) < (s.length:Int))=false:=by simpa using lx
   refine bH ?_;exact av
  | some c =>
   rw [hc] at h;simp only at h;have ak:a < s.length:=(List.getElem?_eq_some_iff.1 hc).1
   have hd:decide ((a:Int) < (s.length:Int))=true:=by simpa using ak
   have mx:=ht c
   cases hdc:p c with
   | false =>
    rw [hdc] at mx;rw [if_neg (by rw [hdc];simp)] at h;subst h;refine ae ?_;refine iC [] mx ?_;refine bH ?_;exact av
   | true =>
    rw [hdc] at mx;rw [if_pos hdc] at h;refine ae ?_;refine iC [] mx ?_;refine ae ?_;exact ⟨(f,a+1),⟨_,_,Wk.aC aq,rfl,rfl,ak,by simp only;omega,h⟩,by simp⟩
theorem N0:Go.Lib.asciiSpaceTab=vE:=by decide
theorem Me:Go.Lib.fields [105,110,116,32,118,97,114,32,102,117,110,99,32,105,102,32,101,108,115,101,32,119,104,105,108,101,32,114,101,116,117,114,110,32,124,124,32,38,38,32,61,61,32,33,61,32,60,61,32,62,61,32,60,60,32,62,62,32,40,32,41,32,123,32,125,32,91,32,93,32,44,32,59,32,61,32,60,32,62,32,43,32,45,32,42,32,47,32,37,32,38,32,124,32,94,32,33,32,126]=lH:=by decide +kernel
theorem mh.Ae {P:Program} {f:FuncId} {vs:List Value} {w:World} {R:Value->World->Prop} (h:Calls P f vs.toArray w fun e w'=>∃ v,e=.returned v/\R v w'):mh P f vs w R:=h
theorem OI:GF Tryz.prog 216 [.v (sv [105,110,116,32,118,97,114,32,102,117,110,99,32,105,102,32,101,108,115,101,32,119,104,105,108,101,32,114,101,116,117,114,110,32,124,124,32,38,38,32,61,61,32,33,61,32,60,61,32,62,61,32,60,60,32,62,62,32,40,32,41,32,123,32,125,32,91,32,93,32,44,32,59,32,61,32,60,32,62,32,43,32,45,32,42,32,47,32,37,32,38,32,124,32,94,32,33,32,126])] [] (strs lH) []:=by
 have:=GF.ZG (P:=Tryz.prog) (f:=216) (vs:=[sv [105,110,116,32,118,97,114,32,102,117,110,99,32,105,102,32,101,108,115,101,32,119,104,105,108,101,32,114,101,116,117,114,110,32,124,124,32,38,38,32,61,61,32,33,61,32,60,61,32,62,61,32,60,60,32,62,62,32,40,32,41,32,123,32,125,32,91,32,93,32,44,32,59,32,61,32,60,32,62,32,43,32,45,32,42,32,47,32,37,32,38,32,124,32,94,32,33,32,126]]) (us:=lH.map sv) (E:=9) fun K β w ht hf=>?_
 ·rw [List.map_map] at this;exact this
 ·obtain ⟨E,z,lg⟩:=sM.all ht hf ht.spc (zs:=vE.map fun z=>Value.int .u8 z) aJ (fun m o x hx=>by
   rw [getElem?_map] at hx;unfold xg;rw [if_neg aJ,if_neg aJ,if_pos rfl]
   cases hs:vE[o]? with
   | none=>rw [hs] at hx;cases hx
   | some y=>rw [hs] at hx;cases hx;rfl)
  have zX:Go.Lib.TabIs Tryz.prog w "strings.asciiSpace" .u8 Go.Lib.asciiSpaceTab:=by
   unfold Go.Lib.TabIs World.var?;rw [show Tryz.prog.globalNamed "strings.asciiSpace" = some 0 by kernel_rfl,N0];simp only [Option.bind_some,lg]
  have h:=Tryz.strings_Fields_laid ⟨[105,110,116,32,118,97,114,32,102,117,110,99,32,105,102,32,101,108,115,101,32,119,104,105,108,101,32,114,101,116,117,114,110,32,124,124,32,38,38,32,61,61,32,33,61,32,60,61,32,62,61,32,60,60,32,62,62,32,40,32,41,32,123,32,125,32,91,32,93,32,44,32,59,32,61,32,60,32,62,32,43,32,45,32,42,32,47,32,37,32,38,32,124,32,94,32,33,32,126].toArray⟩ w aJ (fun j b hb=>by
   have:∀ b∈([105,110,116,32,118,97,114,32,102,117,110,99,32,105,102,32,101,108,115,101,32,119,104,105,108,101,32,114,101,116,117,114,110,32,124,124,32,38,38,32,61,61,32,33,61,32,60,61,32,62,61,32,60,60,32,62,62,32,40,32,41,32,123,32,125,32,91,32,93,32,44,32,59,32,61,32,60,32,62,32,43,32,45,32,42,32,47,32,37,32,38,32,124,32,94,32,33,32,126]:List UInt8),b.toNat < 128:=by decide
   exact this b (mem_of_getElem? hb)) zX
  refine mh.Ae (Calls.mono h ?_);rintro e w' ⟨h1,h2⟩;rw [show ((⟨[105,110,116,32,118,97,114,32,102,117,110,99,32,105,102,32,101,108,115,101,32,119,104,105,108,101,32,114,101,116,117,114,110,32,124,124,32,38,38,32,61,61,32,33,61,32,60,61,32,62,61,32,60,60,32,62,62,32,40,32,41,32,123,32,125,32,91,32,93,32,44,32,59,32,61,32,60,32,62,32,43,32,45,32,42,32,47,32,37,32,38,32,124,32,94,32,33,32,126].toArray⟩:ByteArray).data.toList)=[105,110,116,32,118,97,114,32,102,117,110,99,32,105,102,32,101,108,115,101,32,119,104,105,108,101,32,114,101,116,117,114,110,32,124,124,32,38,38,32,61,61,32,33,61,32,60,61,32,62,61,32,60,60,32,62,62,32,40,32,41,32,123,32,125,32,91,32,93,32,44,32,59,32,61,32,60,32,62,32,43,32,45,32,42,32,47,32,37,32,38,32,124,32,94,32,33,32,126] from rfl,Me] at h1 h2;exact ⟨_,h1,by rw [length_map],h2⟩
theorem Tb:GF Tryz.prog 187 [] [] (strs lH) []:=by
 have h:=OI;generalize lH=l at *;refine ai Tryz.func187 Tryz.ntmps187 ?_;refine ab [] h ?_;exact al
theorem z8 (s:ah):GF Tryz.prog 149 [.v (sv s)] [] (.v (.bool (jM s))) []:=by
 have h:=Tb;have hc:=kp lH s aJ;unfold jM;generalize lH=l at *;refine ai Tryz.func149 Tryz.ntmps149 ?_;refine ab [] h ?_;refine ab [] hc ?_;exact al
theorem Qh (s:ah) (a:Nat) (c:UInt8) (hs:s.length<=1099511627776) (hc:s[a]?=some c):GF Tryz.prog 238 [.v (sv s),.v (ii (a:Nat))] [] (.v (sv (fH s a))) []:=by
 have ak:a < s.length:=(List.getElem?_eq_some_iff.1 hc).1;have iT:=Ac c;refine ai Tryz.func238 Tryz.ntmps238 ?_;refine GW.loop (fun x:Nat=>x) (fun x fr Γ=>fr=[.v (sv s),.v (ii (a:Nat)),.U,.U,.U,.v (ii (x:Nat)),.U,.U,.U,.U,.U,.U,.U,.U,.U,.U,.U,.U,.U,.U,.U,.U,.U,.U,.U,.U,.U,.U,.U,.U,.U,.U,.U,.U,.U,.U,.U,.U]/\Γ=[]/\x<=2/\∀ j,x < j->j<=2->gi s a j=false) 2 ?_ ?_
 ·exact ⟨_,_,Wk.aC aq,rfl,rfl,Nat.le_refl _,fun j h1 h2=>by omega⟩
 ·rintro x _ _ ⟨rfl,rfl,hx,b8⟩
  have rj:∀ k,x=k+1->gi s a x=false->∀ j,k < j->j<=2->gi s a j=false:=fun k hk ht j h1 h2=>by
   by_cases hj:j=x
   ·rw [hj];exact ht
   ·exact b8 j ag h2
  have Oe:∀ k,gi s a k=(decide (a+k<=s.length)&&!(small c)&&jM (cy s a (a+k))):=fun k=>by unfold gi;rw [hc]
  match x,hx,b8,rj with
  | 0,_,b8,_ =>
   have e:fH s a=[]:=by unfold fH;rw [b8 2 ag ag,b8 1 ag ag];rfl
   rw [e];refine bH ?_;exact av
  | 1,_,b8,rj =>
   have hle:decide (((a+1:Nat):Int)<=(s.length:Int))=true:=by simpa using by omega
   have hb:a<=a+1/\a+1<=s.length:=by omega
   have ht:=Oe 1;rw [show decide (a+1<=s.length)=true from decide_eq_true ag] at ht
   cases hsc:small c with
   | true =>
    rw [hsc] at iT ht;refine ae ?_;refine ab [] iT ?_;exact ⟨0,⟨_,_,Wk.aC aq,rfl,rfl,by omega,rj 0 rfl ht⟩,by omega⟩
   | false =>
    rw [hsc] at iT ht;have dJ:=z8 (cy s a (a+1))
    cases hg:jM (cy s a (a+1)) with
    | false =>
     rw [hg] at dJ ht;refine ae ?_;refine ab [] iT ?_;refine ab [] dJ ?_;exact ⟨0,⟨_,_,Wk.aC aq,rfl,rfl,by omega,rj 0 rfl ht⟩,by omega⟩
    | true =>
     rw [hg] at dJ ht
     have e:fH s a=cy s a (a+1):=by unfold fH;rw [b8 2 ag ag,ht];rfl
     rw [e];refine ae ?_;refine ab [] iT ?_;refine ab [] dJ ?_;exact al
  | 2,_,b8,rj =>
   have ht:=Oe 2
   by_cases jA:a+2<=s.length
   ·have hle:decide (((a+2:Nat):Int)<=(s.length:Int))=true:=by simpa using by omega
    have hb:a<=a+2/\a+2<=s.length:=by omega
    rw [show decide (a+2<=s.length)=true by simpa using jA] at ht
    cases hsc:small c with
    | true =>
     rw [hsc] at iT ht;refine ae ?_;refine ab [] iT ?_;exact ⟨1,⟨_,_,Wk.aC aq,rfl,rfl,by omega,rj 1 rfl ht⟩,by omega⟩
    | false =>
     rw [hsc] at iT ht;have dJ:=z8 (cy s a (a+2))
     cases hg:jM (cy s a (a+2)) with
     | false =>
      rw [hg] at dJ ht;refine ae ?_;refine ab [] iT ?_;refine ab [] dJ ?_;exact ⟨1,⟨_,_,Wk.aC aq,rfl,rfl,by omega,rj 1 rfl ht⟩,by omega⟩
     | true =>
      rw [hg] at dJ ht
      have e:fH s a=cy s a (a+2):=by unfold fH;rw [ht];rfl
      rw [e];refine ae ?_;refine ab [] iT ?_;refine ab [] dJ ?_;exact al
   ·have hle:decide (((a+2:Nat):Int)<=(s.length:Int))=false:=by simpa using by omega
    rw [show decide (a+2<=s.length)=false by simpa using jA] at ht;refine ae ?_;exact ⟨1,⟨_,_,Wk.aC aq,rfl,rfl,by omega,rj 1 rfl ht⟩,by omega⟩
  | n+3,hx,_,_=>omega
def Ky (n:Int) (e:Nat) (a:Nat):GV:=if n > 2147483647 then .tup [.agg (c8 qe),.v (ii (a:Nat)),.v (ii 3)] else .tup [.agg (c8 ⟨1,n,[],a⟩),.v (ii (e:Nat)),.v (ii 0)]
theorem Oc (s:ah) (a:Nat) (c:UInt8) (hs:s.length<=1099511627776) (hc:s[a]?=some c) (hd:dT c=true) :
  GF Tryz.prog 205 [.v (sv s),.v (ii (a:Nat))] [] (Ky (jR (cy s a (jI s a)) 0) (jI s a) a) []:=by
 have ak:a < s.length:=(List.getElem?_eq_some_iff.1 hc).1;have mx:=yn c;rw [hd] at mx;have mU:=RJ 186 dT yn s a hs ag;obtain ⟨e1,e2,e3⟩:=Go.Sp.pE s dT (s.length+1) a ag ag;have aQ:=Go.Im.Ct s dT (s.length+1) a ag;unfold jI;generalize Go.Sp.run s dT (s.length+1) a=e at *;clear e1;generalize hR:jR (cy s a e) 0=R;refine ai Tryz.func205 Tryz.ntmps205 ?_;refine ab [] mx ?_;refine ab [] mU ?_;refine GW.loop (fun x:Nat × Int=>e - x.1) (fun x fr Γ=>fr=[.v (sv s),.v (ii (a:Nat)),.U,.U,.loc 0 0,.v (ii 0),.v (ii 0),.U,.v (ii (e:Nat)),.v (ii x.2),.v (ii (x.1:Nat)),.U,.U,.U,.U,.U,.U,.U,.U,.U,.U,.U,.U,.U,.U,.U,.U,.U,.U,.U,.U,.U,.U,.U,.U,.U,.U,.U,.U,.U,.U,.U,.U,.U,.U,.U,.U,.U,.U,.U,.U,.U,.U,.U,.U,.U,.U,.U,.U,.U,.U,.U,.U,.U,.U,.U,.U,.U,.U,.U,.U,.U,.U,.U,.U,.U,.U,.U,.U,.U,.U]/\Γ=[.box 203 (c8 qe)]/\a<=x.1/\x.1<=e/\jR (cy s x.1 e) x.2=R/\0<=x.2/\x.2<=21474836480) (a,0) ?_ ?_
 ·exact ⟨_,_,Wk.aC aq,rfl,rfl,Nat.le_refl _,e2,hR,by simp,by simp⟩
 ·rintro ⟨i,n⟩ _ _ ⟨rfl,rfl,hi,hie,h,C9,Fg⟩;simp only at hi hie h C9 Fg
  have fin:R=n->True:=fun _=>trivial
  by_cases mT:i < e
  ·have MN:decide ((i:Int) < (e:Int))=true:=by simpa using mT
   by_cases hn:n<=2147483647
   ·have A1:decide (n<=2147483647)=true:=by simpa using hn
    have sc:i < s.length:=by omega
    obtain ⟨d,dd⟩:∃ d,s[i]?=some d:=⟨s[i],by simp [sc]⟩
    have fF:dT d=true:=by
     have:d∈cy s a e:=by
      unfold cy;rw [List.mem_iff_getElem?];exact ⟨i - a,by rw [List.getElem?_drop,List.getElem?_take,show a+(i - a)=i by omega,if_pos mT];exact dd⟩
     exact aQ d this
    have xQ:(48:Int)<=(d.toNat:Int)/\(d.toNat:Int)<=57:=by
     simp only [dT,Bool.and_eq_true,decide_eq_true_eq] at fF;exact fF
    rw [Go.Im.pf dd mT e3,jR,if_pos hn] at h;refine ae ?_;exact ⟨(i+1,10 * n+((d.toNat:Int) - 48)),⟨_,_,Wk.aC aq,rfl,rfl,by simp only;omega,mT,h,by simp only;omega,by simp only;omega⟩,by simp only;omega⟩
   ·have A1:decide (n<=2147483647)=false:=by simpa using hn
    have eE:R=n:=by
     rw [<-h]
     cases hw:cy s i e with
     | nil=>rw [jR]
     | cons d r=>rw [jR,if_neg hn]
    rw [eE];clear h eE hR fin
    have bO:decide (2147483647 < n)=true:=by simpa using by omega
    unfold Ky;rw [if_pos ag];refine bH ?_;refine ae ?_;refine lU ?_;exact ⟨rfl,rfl⟩
  ·have MN:decide ((i:Int) < (e:Int))=false:=by simpa using by omega
   have eE:R=n:=by
    rw [<-h];have:cy s i e=[]:=List.eq_nil_of_length_eq_zero (by rw [Go.Im.kO e3];omega);rw [this,jR]
   rw [eE];clear h eE hR fin;unfold Ky
   by_cases hn:n > 2147483647
   ·have bO:decide (2147483647 < n)=true:=by simpa using hn
    rw [if_pos hn];refine bH ?_;refine ae ?_;refine lU ?_;exact ⟨rfl,rfl⟩
   ·have bO:decide (2147483647 < n)=false:=by simpa using hn
    rw [if_neg hn];refine bH ?_;refine ae ?_;refine lU ?_;exact ⟨rfl,rfl⟩
theorem Tt (s:ah) (a:Nat) (c:UInt8) (hs:s.length<=1099511627776) (hc:s[a]?=some c) :
  GF Tryz.prog 205 [.v (sv s),.v (ii (a:Nat))] [] (.tup [.agg (c8 (ki s a c).1),.v (ii ((ki s a c).2.1:Nat)),.v (ii (ki s a c).2.2)]) []:=by
 have ak:a < s.length:=(List.getElem?_eq_some_iff.1 hc).1;have mx:=yn c;have iT:=Ac c
 by_cases hd:dT c=true
 ·have h:=Oc s a c hs hc hd;unfold Ky at h;unfold ki;rw [if_pos hd];split at h
  ·rename_i hn;rw [if_pos hn];exact h
  ·rename_i hn;rw [if_neg hn];exact h
 ·have MM:dT c=false:=by simpa using hd
  unfold ki;rw [if_neg hd];rw [MM] at mx
  by_cases hsc:small c=true
  ·rw [if_pos hsc];rw [hsc] at iT;have mU:=RJ 148 dN Ku s a hs ag;obtain ⟨e1,e2,e3⟩:=Go.Sp.pE s dN (s.length+1) a ag ag;have hw:fa s a=(s.take (eB s a)).drop a:=rfl;have dJ:=z8 (fa s a);unfold eB at hw |-;rw [hw] at dJ |-;generalize Go.Sp.run s dN (s.length+1) a=e at *;have hb:a<=e/\e<=s.length:=⟨e2,e3⟩
   cases hg:jM ((s.take e).drop a) with
   | true =>
    rw [hg] at dJ;refine ai Tryz.func205 Tryz.ntmps205 ?_;refine ab [] mx ?_;refine ab [] iT ?_;refine ab [] mU ?_;refine ab [] dJ ?_;refine lU ?_;exact ⟨rfl,rfl⟩
   | false =>
    rw [hg] at dJ;refine ai Tryz.func205 Tryz.ntmps205 ?_;refine ab [] mx ?_;refine ab [] iT ?_;refine ab [] mU ?_;refine ab [] dJ ?_;refine lU ?_;exact ⟨rfl,rfl⟩
  ·have Zp:small c=false:=by simpa using hsc
   rw [if_neg hsc];rw [Zp] at iT;have X0:=Qh s a c hs hc
   have hlen:(fH s a).length<=2:=by
    have:(fH s a=cy s a (a+2)\/fH s a=cy s a (a+1))\/fH s a=[]:=by
     unfold fH;split
     ·exact .inl (.inl rfl)
     ·split
      ·exact .inl (.inr rfl)
      ·exact .inr rfl
    rcases this with (h | h) | h <;> rw [h]
    ·unfold cy;rw [length_drop,length_take];omega
    ·unfold cy;rw [length_drop,length_take];omega
    ·simp
   generalize fH s a=x at *
   by_cases hx:x=[]
   ·have Iu:(x==[])=true:=by simpa using hx
    rw [if_pos hx];refine ai Tryz.func205 Tryz.ntmps205 ?_;refine ab [] mx ?_;refine ab [] iT ?_;refine ab [] X0 ?_;refine lU ?_;exact ⟨rfl,rfl⟩
   ·have Iu:(x==[])=false:=by simpa using hx
    rw [if_neg hx];refine ai Tryz.func205 Tryz.ntmps205 ?_;refine ab [] mx ?_;refine ab [] iT ?_;refine ab [] X0 ?_;refine lU ?_;exact ⟨rfl,rfl⟩
def B4 (x t:ah):Bool:=decide (t.length<=x.length)&&(x.take t.length==t)
theorem Ju (x t:ah) (hx:x.length<=1099511627776) (ht:t.length<=1099511627776):GF Tryz.prog 236 [.v (sv x),.v (sv t)] [] (.v (.bool (B4 x t))) []:=by
 unfold B4
 by_cases h:t.length<=x.length
 ·have h1:decide ((t.length:Int)<=(x.length:Int))=true:=by simpa using h
  rw [decide_eq_true h];refine ai Tryz.func236 Tryz.ntmps236 ?_;exact al
 ·have h1:decide ((t.length:Int)<=(x.length:Int))=false:=by simpa using by omega
  rw [decide_eq_false h];refine ai Tryz.func236 Tryz.ntmps236 ?_;exact al
theorem GZ (x t:ah) (hx:x.length<=1099511627776) (ht:t.length<=1099511627776):GF Tryz.prog 203 [.v (sv x),.v (sv t)] [] (.v (.bool (B4 x t))) []:=by
 have h:=Ju x t hx ht;generalize B4 x t=b at *;refine ai Tryz.func203 Tryz.ntmps203 ?_;refine ab [] h ?_;exact al
theorem Ha {s t:ah} {a:Nat} (ha:a<=s.length):B4 (s.drop a) t=bx s a t:=by
 unfold B4 bx;rw [length_drop,List.drop_take,show a+t.length - a=t.length by omega]
 congr 1
 rw [Bool.eq_iff_iff];simp;omega
theorem G0 (c:UInt8):GF Tryz.prog 202 [.v (sv [32,9,10,13]),CP c] [] (.v (ii (Go.Lib.indexByte [32,9,10,13] c))) []:=by
 refine GF.Vo (vs:=[sv [32,9,10,13],.int .u8 (c.toNat:Int)]) fun K β w ht hf=>?_
 refine mh.Ae (Calls.mono (Tryz.strings_IndexByte ⟨[32,9,10,13].toArray⟩ (c.toNat:Int) w) ?_);rintro e w' ⟨h1,h2⟩;refine ⟨_,h1,?_,by rw [h2];exact Ext.refl w⟩;simp
theorem ON (x:ah) (hx:x.length<=4294967280):GF Tryz.prog 204 [.v (sv x),.v (sv [42,47])] [] (.v (ii (Go.Lib.index x [42,47]))) []:=by
 refine GF.Vo (vs:=[sv x,sv [42,47]]) fun K β w ht hf=>?_
 obtain ⟨m,hm⟩:=ht.maxLen hf;refine mh.Ae (Calls.mono (Tryz.strings_Index ⟨x.toArray⟩ ⟨[42,47].toArray⟩ m w (by show (x.toArray).size < _;simp;omega) hm) ?_);rintro e w' ⟨h1,h2⟩;refine ⟨_,h1,?_,by rw [h2];exact Ext.refl w⟩;simp
theorem OT (c:UInt8):decide ((0:Int)<=Go.Lib.indexByte [32,9,10,13] c)=dA c:=by
 have hb:dA c=((32:UInt8)==c || (9:UInt8)==c || (10:UInt8)==c || (13:UInt8)==c):=by
  have e:∀ k:UInt8,((c.toNat:Int)==(k.toNat:Int))=(k==c):=fun k=>by
   rw [Bool.eq_iff_iff];simp only [beq_iff_eq]
   exact ⟨fun h=>by
    have:c.toNat=k.toNat:=by omega
    exact (UInt8.toNat_inj.1 this).symm,fun h=>by rw [h]⟩
  have e1:=e 32;have e2:=e 9;have e3:=e 10;have e4:=e 13;unfold dA;rw [<-e1,<-e2,<-e3,<-e4];rfl
 rw [hb];unfold Go.Lib.indexByte Go.Lib.indexByte Go.Lib.indexByte Go.Lib.indexByte Go.Lib.indexByte
 cases (32:UInt8)==c <;> cases (9:UInt8)==c <;> cases (10:UInt8)==c <;> cases (13:UInt8)==c <;> decide
theorem Nf (l:ah):Go.Lib.index l [42,47]=(match pV l with | none => -1 | some n=>(n:Int)):=by
 induction l with
 | nil=>rfl
 | cons b l ih =>
  rw [Go.Lib.index,pV];split
  ·rfl
  ·rw [ih]
   cases pV l with
   | none=>rfl
   | some n =>
    simp only;rw [if_neg (by simp <;> omega)];simp
theorem PU (s:ah) (f:Nat) (ts:List Tok) (c z:Int) (hs:s.length<=4294967280) (h:mW s f 0 []=some (ts,c,z)) :
  GF Tryz.prog 162 [.v (sv s)] [] (.tup [iw ts,.v (ii c),.v (ii z)]) []:=by
 refine ai Tryz.func162 Tryz.ntmps162 ?_;refine GW.wk (Wk.Cj (t:=5) (a:=none) (c:=0) 203 4 rfl) ?_;refine GW.loop (fun x:Nat × Nat × List Tok=>x.1) (fun x fr Γ=>∃ n rows,fr=[.v (sv s),.U,.v (.slice none 0 0),.v (ii 0),.v (ii 0),.vec 0 n,.v (ii (x.2.1:Nat)),.U,.U,.U,.U,.U,.U,.U,.U,.U,.U,.U,.U,.U,.U,.U,.U,.U,.U,.U,.U,.U,.U,.U,.U,.U,.U,.U,.U,.U,.U,.U,.U,.U,.U,.U,.U,.U,.U,.U,.U,.U,.U,.U,.U,.U,.U,.U,.U]/\Γ=[.vec 203 4 0 rows]/\rows.length=n/\rows=x.2.2.map c8/\x.2.1<=s.length/\n<=x.2.1/\mW s x.1 x.2.1 x.2.2=some (ts,c,z)) (f,0,[]) ?_ ?_
 ·exact ⟨_,_,Wk.aC aq,0,[],rfl,rfl,rfl,rfl,Nat.zero_le _,Nat.le_refl _,h⟩
 ·clear h;rintro ⟨f,a,acc⟩ _ _ ⟨n,rows,rfl,rfl,hn,bt,ha,Iq,h⟩;simp only at bt ha Iq h
  cases f with
  | zero=>cases h
  | succ f =>
  rw [mW] at h
  cases hc:s[a]? with
  | none =>
   rw [hc] at h;cases h;have lx:s.length<=a:=List.getElem?_eq_none_iff.1 hc
   have hd:decide ((a:Int) < (s.length:Int))=false:=by simpa using lx
   refine bH ?_;refine GW.wk (Wk.jw (t:=5) rfl rfl rfl hn) ?_;refine ae ?_;refine Jk ?_;exact ⟨by rw [bt];rfl,rfl⟩
  | some ch =>
   rw [hc] at h;simp only at h;have ak:a < s.length:=(List.getElem?_eq_some_iff.1 hc).1
   have hd:decide ((a:Int) < (s.length:Int))=true:=by simpa using ak
   have MU:=G0 ch;have oa:=OT ch
   cases hb:dA ch with
   | true =>
    rw [if_pos hb] at h;rw [hb] at oa;generalize Go.Lib.indexByte [32,9,10,13] ch=ib at *;refine ae ?_;refine ab [] MU ?_;refine jc ?_;exact ⟨(f,a+1,acc),⟨_,_,Wk.aC aq,n,rows,rfl,rfl,hn,bt,ak,by simp only;omega,h⟩,by simp⟩
   | false =>
    rw [if_neg (by rw [hb];decide)] at h;rw [hb] at oa;generalize Go.Lib.indexByte [32,9,10,13] ch=ib at *;have nC:=GZ (s.drop a) [47,42] (by rw [length_drop];omega) aJ;rw [Ha ha] at nC
    cases nB:bx s a [47,42] with
    | true =>
     rw [if_pos nB] at h;rw [nB] at nC;have nc:=Go.Sp.jt nB;simp only [length_cons,length_nil] at nc;have xJ:=ON (s.drop (a+2)) (by rw [length_drop];omega);rw [Nf] at xJ
     have MJ:a+2<=s.length:=by omega
     cases hi:pV (s.drop (a+2)) with
     | none =>
      rw [hi] at xJ h;cases h;refine ae ?_;refine ab [] MU ?_;refine ab [] nC ?_;refine ab [] xJ ?_;refine q9 ?_;exact ⟨_,jd,rfl,rfl⟩
     | some e =>
      rw [hi] at xJ h;have eX:=Go.Im.B7 hi;rw [length_drop] at eX
      have UB:decide (((e:Nat):Int) < 0)=false:=by simp
      refine ae ?_;refine ab [] MU ?_;refine ab [] nC ?_;refine ab [] xJ ?_;refine jc ?_;exact ⟨(f,a+(e+4),acc),⟨_,_,Wk.aC aq,n,rows,rfl,rfl,hn,bt,by simp only;omega,by simp only;omega,h⟩,by simp⟩
    | false =>
     rw [if_neg (by rw [nB];decide)] at h;rw [nB] at nC;have jZ:=Tt s a ch ag hc
     have eF:=fun h0=>Go.Im.Jh hc h0
     generalize ki s a ch=R at *;obtain ⟨t,e,code⟩:=R;simp only at jZ h eF
     by_cases h0:code=0
     ·rw [if_neg (by simpa using h0)] at h
      have sX:(code != 0)=false:=by simpa using h0
      obtain ⟨_,_,k3,k4⟩:=eF h0;refine ae ?_;refine ab [] MU ?_;refine ab [] nC ?_;refine ab [] jZ ?_;refine eP ?_;refine ae ?_;exact ⟨(f,e,acc++[t]),⟨_,_,(Wk.cut (n:=1) (Nat.le_of_ble_eq_true rfl) rfl).trans (Wk.aC aq),_,_,rfl,rfl,by simp [hn],by rw [map_append,bt];rfl,k4,by simp only;omega,h⟩,by simp⟩
     ·rw [if_pos h0] at h
      have sX:(code != 0)=true:=by simpa using h0
      cases h;refine ae ?_;refine ab [] MU ?_;refine ab [] nC ?_;refine ab [] jZ ?_;refine q9 ?_;exact ⟨_,jd,rfl,rfl⟩
end Go.Xg
namespace Go.Xg
open Go.RowKit Go.Xw Go.Proofs
open Go.Xp (Tok Nd T aP az)
open Go.Sp (Src)
open Go.Im (om qh tr ji cX fP uH)
attribute [local irreducible] GW GL GO YG GC GA aU aZ
theorem PC:∀ (N:Nat) (t:T),aP t<=N->aP t<=1099511627776->GF Tryz.prog 158 [uT t] [] (.v (.bool (fP t))) []:=by
 intro N
 induction N with
 | zero=>intro t h;rw [Go.Xp.ef] at h;omega
 | succ N ih =>
 intro t hN hb;rw [Go.Xp.ef] at hN hb;have eR:=Go.Xp.bL t.kids;have pn:=qW t.kids;rw [Go.Im.xU,Go.Im.tq];unfold uT;generalize t.n.kind=kd;refine da Tryz.func158 Tryz.ntmps158 ?_;refine Jm ?_;refine GW.join (fun fr Γ=>fr=[.box [.v (ii kd),.v (ii t.n.at_),.v (ii t.n.n),.v (sv t.n.s),ints t.n.kids,.sl 1 (ca t.kids)] 0,.U,.U,.U,.v (.bool (cX kd t.kids.length)),.U,.U,.U,.U,.U,.U,.U,.U,.U,.U,.U,.U,.U,.U,.U,.U,.U,.U,.U,.U,.U,.U,.U,.U,.U,.U,.U,.U,.U,.U,.U,.U,.U,.U,.U,.U,.U,.U,.U,.U,.U,.U,.U,.U,.U,.U,.U,.U,.U,.U,.U,.U,.U,.U,.U,.U,.U,.U,.U]/\Γ=[]) ?_ ?_
 ·rw [<-pn];generalize (ca t.kids)=l
  by_cases h1:kd=1
  ·subst h1
   have f1:((1:Int)==1)=true:=by decide
   rw [show cX 1 l.length=((l.length:Int)==0) by unfold cX;simp];exact ij
  by_cases h2:kd=2
  ·subst h2
   have f1:((2:Int)==1)=false:=by decide
   have f2:((2:Int)==2)=true:=by decide
   rw [show cX 2 l.length=((l.length:Int)==0) by unfold cX;simp];exact ij
  by_cases h4:kd=4
  ·subst h4
   have f1:((4:Int)==1)=false:=by decide
   have f2:((4:Int)==2)=false:=by decide
   have f4:((4:Int)==4)=true:=by decide
   rw [show cX 4 l.length=true by unfold cX;simp];exact ij
  by_cases AO:kd=14
  ·subst AO
   have f1:((14:Int)==1)=false:=by decide
   have f2:((14:Int)==2)=false:=by decide
   have f4:((14:Int)==4)=false:=by decide
   have f14:((14:Int)==14)=true:=by decide
   rw [show cX 14 l.length=true by unfold cX;simp];exact ij
  by_cases h3:kd=3
  ·subst h3
   have f1:((3:Int)==1)=false:=by decide
   have f2:((3:Int)==2)=false:=by decide
   have f4:((3:Int)==4)=false:=by decide
   have f14:((3:Int)==14)=false:=by decide
   have f3:((3:Int)==3)=true:=by decide
   rw [show cX 3 l.length=((l.length:Int)==1) by unfold cX;simp];exact ij
  by_cases h5:kd=5
  ·subst h5
   have f1:((5:Int)==1)=false:=by decide
   have f2:((5:Int)==2)=false:=by decide
   have f4:((5:Int)==4)=false:=by decide
   have f14:((5:Int)==14)=false:=by decide
   have f3:((5:Int)==3)=false:=by decide
   have f5:((5:Int)==5)=true:=by decide
   rw [show cX 5 l.length=((l.length:Int)==1) by unfold cX;simp];exact ij
  by_cases h7:kd=7
  ·subst h7
   have f1:((7:Int)==1)=false:=by decide
   have f2:((7:Int)==2)=false:=by decide
   have f4:((7:Int)==4)=false:=by decide
   have f14:((7:Int)==14)=false:=by decide
   have f3:((7:Int)==3)=false:=by decide
   have f5:((7:Int)==5)=false:=by decide
   have f7:((7:Int)==7)=true:=by decide
   rw [show cX 7 l.length=((l.length:Int)==1) by unfold cX;simp];exact ij
  by_cases oC:kd=11
  ·subst oC
   have f1:((11:Int)==1)=false:=by decide
   have f2:((11:Int)==2)=false:=by decide
   have f4:((11:Int)==4)=false:=by decide
   have f14:((11:Int)==14)=false:=by decide
   have f3:((11:Int)==3)=false:=by decide
   have f5:((11:Int)==5)=false:=by decide
   have f7:((11:Int)==7)=false:=by decide
   have f11:((11:Int)==11)=true:=by decide
   rw [show cX 11 l.length=((l.length:Int)==1) by unfold cX;simp];exact ij
  by_cases n9:kd=12
  ·subst n9
   have f1:((12:Int)==1)=false:=by decide
   have f2:((12:Int)==2)=false:=by decide
   have f4:((12:Int)==4)=false:=by decide
   have f14:((12:Int)==14)=false:=by decide
   have f3:((12:Int)==3)=false:=by decide
   have f5:((12:Int)==5)=false:=by decide
   have f7:((12:Int)==7)=false:=by decide
   have f11:((12:Int)==11)=false:=by decide
   have f12:((12:Int)==12)=true:=by decide
   rw [show cX 12 l.length=((l.length:Int)==1) by unfold cX;simp];exact ij
  by_cases eH:kd=13
  ·subst eH
   have f1:((13:Int)==1)=false:=by decide
   have f2:((13:Int)==2)=false:=by decide
   have f4:((13:Int)==4)=false:=by decide
   have f14:((13:Int)==14)=false:=by decide
   have f3:((13:Int)==3)=false:=by decide
   have f5:((13:Int)==5)=false:=by decide
   have f7:((13:Int)==7)=false:=by decide
   have f11:((13:Int)==11)=false:=by decide
   have f12:((13:Int)==12)=false:=by decide
   have f13:((13:Int)==13)=true:=by decide
   rw [show cX 13 l.length=((l.length:Int)==1) by unfold cX;simp];exact ij
  by_cases h6:kd=6
  ·subst h6
   have f1:((6:Int)==1)=false:=by decide
   have f2:((6:Int)==2)=false:=by decide
   have f4:((6:Int)==4)=false:=by decide
   have f14:((6:Int)==14)=false:=by decide
   have f3:((6:Int)==3)=false:=by decide
   have f5:((6:Int)==5)=false:=by decide
   have f7:((6:Int)==7)=false:=by decide
   have f11:((6:Int)==11)=false:=by decide
   have f12:((6:Int)==12)=false:=by decide
   have f13:((6:Int)==13)=false:=by decide
   have f6:((6:Int)==6)=true:=by decide
   rw [show cX 6 l.length=((l.length:Int)==2) by unfold cX;simp];exact ij
  by_cases h8:kd=8
  ·subst h8
   have f1:((8:Int)==1)=false:=by decide
   have f2:((8:Int)==2)=false:=by decide
   have f4:((8:Int)==4)=false:=by decide
   have f14:((8:Int)==14)=false:=by decide
   have f3:((8:Int)==3)=false:=by decide
   have f5:((8:Int)==5)=false:=by decide
   have f7:((8:Int)==7)=false:=by decide
   have f11:((8:Int)==11)=false:=by decide
   have f12:((8:Int)==12)=false:=by decide
   have f13:((8:Int)==13)=false:=by decide
   have f6:((8:Int)==6)=false:=by decide
   have f8:((8:Int)==8)=true:=by decide
   rw [show cX 8 l.length=((l.length:Int)==2) by unfold cX;simp];exact ij
  by_cases kZ:kd=10
  ·subst kZ
   have f1:((10:Int)==1)=false:=by decide
   have f2:((10:Int)==2)=false:=by decide
   have f4:((10:Int)==4)=false:=by decide
   have f14:((10:Int)==14)=false:=by decide
   have f3:((10:Int)==3)=false:=by decide
   have f5:((10:Int)==5)=false:=by decide
   have f7:((10:Int)==7)=false:=by decide
   have f11:((10:Int)==11)=false:=by decide
   have f12:((10:Int)==12)=false:=by decide
   have f13:((10:Int)==13)=false:=by decide
   have f6:((10:Int)==6)=false:=by decide
   have f8:((10:Int)==8)=false:=by decide
   have f10:((10:Int)==10)=true:=by decide
   rw [show cX 10 l.length=((l.length:Int)==2) by unfold cX;simp];exact ij
  by_cases h9:kd=9
  ·subst h9
   have f1:((9:Int)==1)=false:=by decide
   have f2:((9:Int)==2)=false:=by decide
   have f4:((9:Int)==4)=false:=by decide
   have f14:((9:Int)==14)=false:=by decide
   have f3:((9:Int)==3)=false:=by decide
   have f5:((9:Int)==5)=false:=by decide
   have f7:((9:Int)==7)=false:=by decide
   have f11:((9:Int)==11)=false:=by decide
   have f12:((9:Int)==12)=false:=by decide
   have f13:((9:Int)==13)=false:=by decide
   have f6:((9:Int)==6)=false:=by decide
   have f8:((9:Int)==8)=false:=by decide
   have f10:((9:Int)==10)=false:=by decide
   have f9:((9:Int)==9)=true:=by decide
   cases hq:((l.length:Int)==2) with
   | true =>
    rw [show cX 9 l.length=true by unfold cX;simp [hq]];exact ij
   | false =>
    rw [show cX 9 l.length=((l.length:Int)==3) by unfold cX;simp [hq]];exact ij
  have e:cX kd l.length=false:=by unfold cX;simp [h1,h2,h4,AO,h3,h5,h7,oC,n9,eH,h6,h8,kZ,h9]
  rw [e]
  have g1:(kd==1)=false:=by simpa using h1
  have g2:(kd==2)=false:=by simpa using h2
  have g4:(kd==4)=false:=by simpa using h4
  have g14:(kd==14)=false:=by simpa using AO
  have g3:(kd==3)=false:=by simpa using h3
  have g5:(kd==5)=false:=by simpa using h5
  have g7:(kd==7)=false:=by simpa using h7
  have g11:(kd==11)=false:=by simpa using oC
  have g12:(kd==12)=false:=by simpa using n9
  have g13:(kd==13)=false:=by simpa using eH
  have g6:(kd==6)=false:=by simpa using h6
  have g8:(kd==8)=false:=by simpa using h8
  have g10:(kd==10)=false:=by simpa using kZ
  have g9:(kd==9)=false:=by simpa using h9
  exact ij
 ·rintro _ _ ⟨rfl,rfl⟩;generalize cX kd t.kids.length=b0;refine ae ?_;refine GW.range (ca t.kids).length (fun k fr Γ=>fr=[.U,.U,.U,.U,.v (.bool (b0&&(t.kids.take k).all fP)),.U,.U,.U,.U,.U,.U,.U,.U,.U,.U,.U,.U,.U,.U,.U,.U,.U,.U,.U,.U,.U,.U,.U,.U,.U,.U,.U,.U,.U,.U,.U,.U,.U,.U,.U,.U,.U,.U,.U,.U,.U,.U,.U,.U,.U,.U,.sl 1 (ca t.kids),.v (ii ((ca t.kids).length:Int)),.v (ii (k:Nat)),.U,.U,.U,.U,.U,.U,.U,.U,.U,.U]/\Γ=[]) ?_ ag ?_ ?_ ?_
  ·refine ⟨_,_,Wk.aC (b7:=[.U,.U,.U,.U,.v (.bool b0),.U,.U,.U,.U,.U,.U,.U,.U,.U,.U,.U,.U,.U,.U,.U,.U,.U,.U,.U,.U,.U,.U,.U,.U,.U,.U,.U,.U,.U,.U,.U,.U,.U,.U,.U,.U,.U,.U,.U,.U,.U,.U,.U,.U,.U,.U,.sl 1 (ca t.kids),.v (ii ((ca t.kids).length:Int)),.v (ii (0:Nat)),.U,.U,.U,.U,.U,.U,.U,.U,.U,.U]) aq,?_,rfl⟩;rw [List.take_zero,List.all_nil,Bool.and_true]
  ·rintro k _ _ ⟨rfl,rfl⟩;exact dS
  ·rintro k _ _ ak ⟨rfl,rfl⟩;rw [pn] at ak;obtain ⟨kid,fp⟩:∃ kid,t.kids[k]?=some kid:=⟨t.kids[k],by simp [ak]⟩;have hr:=vB fp;have cS:=Go.Xp.uL fp;have hle:=Go.Xp.uK t.kids (k+1);have C8:=ih kid ag ag
   have aQ:(t.kids.take (k+1)).all fP=((t.kids.take k).all fP&&fP kid):=by rw [take_add_one,fp,List.all_append];simp
   rw [aQ,<-Bool.and_assoc];generalize (b0&&(t.kids.take k).all fP)=b at *
   cases b with
   | true =>
    refine ae ?_;refine ab [] C8 ?_;exact ⟨rfl,rfl,_,_,Wk.aC aq,rfl,rfl⟩
   | false =>
    refine ae ?_;exact ⟨rfl,rfl,_,_,Wk.aC aq,rfl,rfl⟩
  ·rintro _ _ ⟨rfl,rfl⟩;rw [pn,take_length];exact av
def wD (l:List T):Int:=match l.findIdx? (fun t=>!(fP t)) with | some i=>(i:Int) | none => -1
theorem Ni (t:T) (hb:aP t<=1099511627776):GF Tryz.prog 157 [uT t] [] (.v (.bool (!(fP t)))) []:=by
 have h:=PC _ t (Nat.le_refl _) hb;generalize fP t=b at *;refine ai Tryz.func157 Tryz.ntmps157 ?_;refine ab [] h ?_;exact al
theorem G2 (l:List T) (hl:l.length<=1099511627776) (hb:∀ t∈l,aP t<=1099511627776) :
  GF Tryz.prog 194 [.sl 1 (ca l),.v (.func (.func 157) #[] #[])] [] (.v (ii (wD l))) []:=by
 have pn:=qW l;refine ai Tryz.func194 Tryz.ntmps194 ?_;refine GW.range (ca l).length (fun k fr Γ=>fr=[.sl 1 (ca l),.v (.func (.func 157) #[] #[]),.U,.U,.U,.U,.U,.v (ii ((ca l).length:Int)),.v (ii (k:Nat)),.U,.U,.U,.U,.U,.U,.U,.U,.U,.U]/\Γ=[]/\(l.take k).all fP=true) ?_ ag ?_ ?_ ?_
 ·exact jy
 ·exact gx
 ·rintro k _ _ ak ⟨rfl,rfl,aQ⟩;rw [pn] at ak
  have cI:l[k]?=some l[k]:=by simp [ak]
  have hr:=vB cI;have b8:=Ni l[k] (hb _ (List.getElem_mem ak))
  have bu:(l.take (k+1)).all fP=((l.take k).all fP&&fP l[k]):=by rw [take_add_one,cI,List.all_append];simp
  have zh:fP l[k]=false->wD l=(k:Int):=fun h0=>by
   have:l.findIdx? (fun t=>!(fP t))=some k:=by
    rw [List.findIdx?_eq_some_iff_getElem];refine ⟨ak,by simp [h0],fun j hj=>?_⟩;rw [all_eq_true] at aQ;have:=aQ l[j] (by rw [List.mem_take_iff_getElem];exact ⟨j,by omega,rfl⟩);simp [this]
   unfold wD;rw [this]
  generalize l[k]=t at *
  cases hk:fP t with
  | true =>
   rw [hk] at b8 bu;refine ae ?_;refine iC [] b8 ?_;refine ae ?_;exact ⟨rfl,rfl,_,_,Wk.aC aq,rfl,rfl,by rw [bu,aQ];rfl⟩
  | false =>
   rw [hk] at b8;rw [zh hk];refine ae ?_;refine iC [] b8 ?_;exact av
 ·rintro _ _ ⟨rfl,rfl,aQ⟩;rw [pn,take_length] at aQ
  have:l.findIdx? (fun t=>!(fP t))=none:=by
   rw [List.findIdx?_eq_none_iff];intro x hx;rw [all_eq_true] at aQ;simp [aQ x hx]
  unfold wD;rw [this];exact av
theorem P2 (l:List T):decide ((0:Int)<=wD l)=!(l.all fP):=by
 unfold wD
 cases h:l.findIdx? (fun t=>!(fP t)) with
 | some i =>
  rw [List.findIdx?_eq_some_iff_getElem] at h;obtain ⟨h1,h2,_⟩:=h
  have:l.all fP=false:=by
   rw [List.all_eq_false];exact ⟨l[i],List.getElem_mem _,by simpa using h2⟩
  rw [this];simp
 | none =>
  rw [List.findIdx?_eq_none_iff] at h
  have:l.all fP=true:=by rw [all_eq_true];intro x hx;simpa using h x hx
  rw [this];rfl
theorem uN (l:List T) (hl:l.length<=1099511627776) (hb:∀ t∈l,aP t<=1099511627776) :
  GF Tryz.prog 156 [.sl 1 (ca l),.v (.func (.func 157) #[] #[])] [] (.v (.bool (!(l.all fP)))) []:=by
 have h:=G2 l hl hb;rw [<-P2];generalize wD l=z at *;refine ai Tryz.func156 Tryz.ntmps156 ?_;refine ab [] h ?_;exact al
end Go.Xg
set_option maxHeartbeats 2000000
namespace Go.Xg
open Go.RowKit Go.Xw Go.Proofs
open Go.Xp (Tok Nd T Ar aP az ea)
open Go.Sp (Src)
open Go.Im
attribute [local irreducible] GW GL GO YG GC GA aU aZ
theorem QH:Wr 160 161 cP ft :=
 ⟨fun a h1 h2 h3=>Tp _ a (Nat.le_refl _) h1 h2 h3,fun l d h1 h2 h3=>Pv l d h1 h2,fun l d s h=>Pw h⟩
theorem Ef (p:Src) (h:p.nodes.length > 800):GF Tryz.prog 136 [.agg (ax p)] [] (.v (.bool false)) []:=by
 have hm:(p.nodes.map ay).length=p.nodes.length:=by simp
 have hd:decide ((800:Int) < ((p.nodes.map ay).length:Int))=true:=by rw [hm];simpa using by omega
 refine ai Tryz.func136 Tryz.ntmps136 ?_;exact al
theorem BE (p:Src) (h:p.nodes.length<=800) (hk:∀ n∈p.nodes,n.kids.length<=1099511627776) (hf:p.fns.length<=1099511627776) (hb:ji p.nodes p.fns 0 []=none):GF Tryz.prog 136 [.agg (ax p)] [] (.v (.bool false)) []:=by
 have hm:(p.nodes.map ay).length=p.nodes.length:=by simp
 have hd:decide ((800:Int) < ((p.nodes.map ay).length:Int))=false:=by rw [hm];simpa using by omega
 have hB:=vQ p ag hk hf;rw [hb] at hB;unfold BN at hB;refine ai Tryz.func136 Tryz.ntmps136 ?_;refine ab [] hB ?_;exact al
theorem GX (p:Src) (l:List T) (e:Nat) (h:p.nodes.length<=800) (hk:∀ n∈p.nodes,n.kids.length<=1099511627776) (hf:p.fns.length<=1099511627776) (hb:ji p.nodes p.fns 0 []=some (l,e)) (he:e≠p.nodes.length):GF Tryz.prog 136 [.agg (ax p)] [] (.v (.bool false)) []:=by
 have hm:(p.nodes.map ay).length=p.nodes.length:=by simp
 have hd:decide ((800:Int) < ((p.nodes.map ay).length:Int))=false:=by rw [hm];simpa using by omega
 have hB:=vQ p ag hk hf;rw [hb] at hB;unfold BN at hB;simp only at hB;rw [show ((e:Int)==(p.nodes.length:Int))=false by simp only [beq_eq_false_iff_ne,ne_eq];omega] at hB;refine ai Tryz.func136 Tryz.ntmps136 ?_;refine ab [] hB ?_;exact al
theorem Ee (p:Src) (l:List T) (h:p.nodes.length<=800) (hk:∀ n∈p.nodes,n.kids.length<=1099511627776) (hf:p.fns.length<=1099511627776) (hb:ji p.nodes p.fns 0 []=some (l,p.nodes.length)) (hl:l.length<=1099511627776) (hs:∀ t∈l,aP t<=1099511627776) (hn:l.all fP=false):GF Tryz.prog 136 [.agg (ax p)] [] (.v (.bool false)) []:=by
 have hm:(p.nodes.map ay).length=p.nodes.length:=by simp
 have hd:decide ((800:Int) < ((p.nodes.map ay).length:Int))=false:=by rw [hm];simpa using by omega
 have hB:=vQ p ag hk hf;rw [hb] at hB;unfold BN at hB;simp only at hB;rw [show ((p.nodes.length:Int)==(p.nodes.length:Int))=true by simp] at hB;have hC:=uN l hl hs;rw [hn] at hC;refine ai Tryz.func136 Tryz.ntmps136 ?_;refine ab [] hB ?_;refine ab [] hC ?_;exact al
theorem NT (st:PS) (h:st.fns.length=st.trees.length):nm st.fns st.trees st.trees.length=(oR st).map aw:=by
 unfold nm oR;apply ext_getElem?;intro i;rw [getElem?_map,getElem?_mapIdx,getElem?_mapIdx]
 cases hx:st.fns[i]? with
 | none=>rfl
 | some x =>
  have hi:=(List.getElem?_eq_some_iff.1 hx).1;simp only [Option.map_some];rw [if_pos ag];rfl
def RL (st:PS):Src:=⟨st.globals,st.arrays,oR st,ea 0 st.trees⟩
theorem VF {q:Go.Sp.RS} {st:PS} (hc:q.code=0) (h8:¬ az st.trees > 800) (h:st.fns.length=st.trees.length):I0 q st=.tup [.agg (ax (RL st)),.v (ii 0),.v (ii 0)]:=by
 unfold I0;rw [if_pos hc,if_neg h8,NT st h];rfl
theorem GY (p:Src) (l:List T) (x:ah) (ts:List Tok) (c z:Int) (h:p.nodes.length<=800) (hB:GF Tryz.prog 155 [.agg (ax p)] [] (.tup [.sl 1 (ca l),.v (.bool true)]) [])
  (hC:GF Tryz.prog 156 [.sl 1 (ca l),.v (.func (.func 157) #[] #[])] [] (.v (.bool false)) [])
  (hL:GF Tryz.prog 159 [.agg (ax p),.sl 1 (ca l),.v (iF 160),.v (iF 161)] [] (.v (sv x)) [])
  (hX:GF Tryz.prog 162 [.v (sv x)] [] (.tup [iw ts,.v (ii c),.v (ii z)]) []) (hc:(c != 0)=true) :
  GF Tryz.prog 136 [.agg (ax p)] [] (.v (.bool false)) []:=by
 have hm:(p.nodes.map ay).length=p.nodes.length:=by simp
 have hd:decide ((800:Int) < ((p.nodes.map ay).length:Int))=false:=by rw [hm];simpa using by omega
 refine ai Tryz.func136 Tryz.ntmps136 ?_;refine ab [] hB ?_;refine ab [] hC ?_;refine ab [] hL ?_;refine ab [] hX ?_;exact al
theorem yY (p:Src) (l:List T) (x:ah) (ts:List Tok) (c k a:Int) (h:p.nodes.length<=800) (hB:GF Tryz.prog 155 [.agg (ax p)] [] (.tup [.sl 1 (ca l),.v (.bool true)]) [])
  (hC:GF Tryz.prog 156 [.sl 1 (ca l),.v (.func (.func 157) #[] #[])] [] (.v (.bool false)) [])
  (hL:GF Tryz.prog 159 [.agg (ax p),.sl 1 (ca l),.v (iF 160),.v (iF 161)] [] (.v (sv x)) [])
  (hX:GF Tryz.prog 162 [.v (sv x)] [] (.tup [iw ts,.v (ii 0),.v (ii c)]) [])
  (hP:GF Tryz.prog 163 [iw ts,.v (ii (x.length:Int))] [] (.tup [.agg [.sl 1 [],.sl 2 [],.sl 3 [],.sl 5 []],.v (ii k),.v (ii a)]) []) (hk:(k==0)=false) :
  GF Tryz.prog 136 [.agg (ax p)] [] (.v (.bool false)) []:=by
 have hm:(p.nodes.map ay).length=p.nodes.length:=by simp
 have hd:decide ((800:Int) < ((p.nodes.map ay).length:Int))=false:=by rw [hm];simpa using by omega
 refine ai Tryz.func136 Tryz.ntmps136 ?_;refine ab [] hB ?_;refine ab [] hC ?_;refine ab [] hL ?_;refine ab [] hX ?_;refine ab [] hP ?_;exact al
theorem Jq (p r:Src) (l:List T) (x:ah) (ts:List Tok) (c:Int) (h:p.nodes.length<=800) (hB:GF Tryz.prog 155 [.agg (ax p)] [] (.tup [.sl 1 (ca l),.v (.bool true)]) [])
  (hC:GF Tryz.prog 156 [.sl 1 (ca l),.v (.func (.func 157) #[] #[])] [] (.v (.bool false)) [])
  (hL:GF Tryz.prog 159 [.agg (ax p),.sl 1 (ca l),.v (iF 160),.v (iF 161)] [] (.v (sv x)) [])
  (hX:GF Tryz.prog 162 [.v (sv x)] [] (.tup [iw ts,.v (ii 0),.v (ii c)]) [])
   (hg:GF Tryz.prog 164 [strs p.globals,strs r.globals] [] (.v (.bool false)) [])
  (hP:GF Tryz.prog 163 [iw ts,.v (ii (x.length:Int))] [] (.tup [.agg (ax r),.v (ii 0),.v (ii 0)]) []) :
  GF Tryz.prog 136 [.agg (ax p)] [] (.v (.bool false)) []:=by
 have hm:(p.nodes.map ay).length=p.nodes.length:=by simp
 have hd:decide ((800:Int) < ((p.nodes.map ay).length:Int))=false:=by rw [hm];simpa using by omega
 refine ai Tryz.func136 Tryz.ntmps136 ?_;refine ab [] hB ?_;refine ab [] hC ?_;refine ab [] hL ?_;refine ab [] hX ?_;refine ab [] hP ?_;refine ab [] hg ?_;exact al
theorem Jr (p r:Src) (l:List T) (x:ah) (ts:List Tok) (c:Int) (h:p.nodes.length<=800) (hB:GF Tryz.prog 155 [.agg (ax p)] [] (.tup [.sl 1 (ca l),.v (.bool true)]) [])
  (hC:GF Tryz.prog 156 [.sl 1 (ca l),.v (.func (.func 157) #[] #[])] [] (.v (.bool false)) [])
  (hL:GF Tryz.prog 159 [.agg (ax p),.sl 1 (ca l),.v (iF 160),.v (iF 161)] [] (.v (sv x)) [])
  (hX:GF Tryz.prog 162 [.v (sv x)] [] (.tup [iw ts,.v (ii 0),.v (ii c)]) [])
   (hg:GF Tryz.prog 164 [strs p.globals,strs r.globals] [] (.v (.bool true)) [])
  (ha:GF Tryz.prog 165 [(.sl 2 (p.arrays.map fun s=>aD s)),(.sl 2 (r.arrays.map fun s=>aD s))] [] (.v (.bool false)) [])
  (hP:GF Tryz.prog 163 [iw ts,.v (ii (x.length:Int))] [] (.tup [.agg (ax r),.v (ii 0),.v (ii 0)]) []) :
  GF Tryz.prog 136 [.agg (ax p)] [] (.v (.bool false)) []:=by
 have hm:(p.nodes.map ay).length=p.nodes.length:=by simp
 have hd:decide ((800:Int) < ((p.nodes.map ay).length:Int))=false:=by rw [hm];simpa using by omega
 refine ai Tryz.func136 Tryz.ntmps136 ?_;refine ab [] hB ?_;refine ab [] hC ?_;refine ab [] hL ?_;refine ab [] hX ?_;refine ab [] hP ?_;refine ab [] hg ?_;refine ab [] ha ?_;exact al
theorem Js (p r:Src) (l:List T) (x:ah) (ts:List Tok) (c:Int) (h:p.nodes.length<=800) (hB:GF Tryz.prog 155 [.agg (ax p)] [] (.tup [.sl 1 (ca l),.v (.bool true)]) [])
  (hC:GF Tryz.prog 156 [.sl 1 (ca l),.v (.func (.func 157) #[] #[])] [] (.v (.bool false)) [])
  (hL:GF Tryz.prog 159 [.agg (ax p),.sl 1 (ca l),.v (iF 160),.v (iF 161)] [] (.v (sv x)) [])
  (hX:GF Tryz.prog 162 [.v (sv x)] [] (.tup [iw ts,.v (ii 0),.v (ii c)]) [])
   (hg:GF Tryz.prog 164 [strs p.globals,strs r.globals] [] (.v (.bool true)) [])
  (ha:GF Tryz.prog 165 [(.sl 2 (p.arrays.map fun s=>aD s)),(.sl 2 (r.arrays.map fun s=>aD s))] [] (.v (.bool true)) [])
  (hf:GF Tryz.prog 166 [.sl 3 (p.fns.map aw),.sl 3 (r.fns.map aw),.v (.func (.func 167) #[] #[])] [] (.v (.bool false)) [])
  (hP:GF Tryz.prog 163 [iw ts,.v (ii (x.length:Int))] [] (.tup [.agg (ax r),.v (ii 0),.v (ii 0)]) []) :
  GF Tryz.prog 136 [.agg (ax p)] [] (.v (.bool false)) []:=by
 have hm:(p.nodes.map ay).length=p.nodes.length:=by simp
 have hd:decide ((800:Int) < ((p.nodes.map ay).length:Int))=false:=by rw [hm];simpa using by omega
 refine ai Tryz.func136 Tryz.ntmps136 ?_;refine ab [] hB ?_;refine ab [] hC ?_;refine ab [] hL ?_;refine ab [] hX ?_;refine ab [] hP ?_;refine ab [] hg ?_;refine ab [] ha ?_;refine ab [] hf ?_;exact al
theorem Jt (p r:Src) (l:List T) (x:ah) (ts:List Tok) (c:Int) (b:Bool) (h:p.nodes.length<=800) (hB:GF Tryz.prog 155 [.agg (ax p)] [] (.tup [.sl 1 (ca l),.v (.bool true)]) [])
  (hC:GF Tryz.prog 156 [.sl 1 (ca l),.v (.func (.func 157) #[] #[])] [] (.v (.bool false)) [])
  (hL:GF Tryz.prog 159 [.agg (ax p),.sl 1 (ca l),.v (iF 160),.v (iF 161)] [] (.v (sv x)) [])
  (hX:GF Tryz.prog 162 [.v (sv x)] [] (.tup [iw ts,.v (ii 0),.v (ii c)]) [])
   (hg:GF Tryz.prog 164 [strs p.globals,strs r.globals] [] (.v (.bool true)) [])
  (ha:GF Tryz.prog 165 [(.sl 2 (p.arrays.map fun s=>aD s)),(.sl 2 (r.arrays.map fun s=>aD s))] [] (.v (.bool true)) [])
  (hf:GF Tryz.prog 166 [.sl 3 (p.fns.map aw),.sl 3 (r.fns.map aw),.v (.func (.func 167) #[] #[])] [] (.v (.bool true)) [])
  (hn:GF Tryz.prog 168 [.sl 5 (p.nodes.map ay),.sl 5 (r.nodes.map ay),.v (.func (.func 169) #[] #[])] [] (.v (.bool b)) [])
  (hP:GF Tryz.prog 163 [iw ts,.v (ii (x.length:Int))] [] (.tup [.agg (ax r),.v (ii 0),.v (ii 0)]) []) :
  GF Tryz.prog 136 [.agg (ax p)] [] (.v (.bool b)) []:=by
 have hm:(p.nodes.map ay).length=p.nodes.length:=by simp
 have hd:decide ((800:Int) < ((p.nodes.map ay).length:Int))=false:=by rw [hm];simpa using by omega
 refine ai Tryz.func136 Tryz.ntmps136 ?_;refine ab [] hB ?_;refine ab [] hC ?_;refine ab [] hL ?_;refine ab [] hX ?_;refine ab [] hP ?_;refine ab [] hg ?_;refine ab [] ha ?_;refine ab [] hf ?_;refine ab [] hn ?_;exact al
theorem Eg (p r:Src) (l:List T) (x:ah) (ts:List Tok) (c:Int) (b1 b2 b3 b4:Bool) (h:p.nodes.length<=800) (hB:GF Tryz.prog 155 [.agg (ax p)] [] (.tup [.sl 1 (ca l),.v (.bool true)]) [])
  (hC:GF Tryz.prog 156 [.sl 1 (ca l),.v (.func (.func 157) #[] #[])] [] (.v (.bool false)) [])
  (hL:GF Tryz.prog 159 [.agg (ax p),.sl 1 (ca l),.v (iF 160),.v (iF 161)] [] (.v (sv x)) [])
  (hX:GF Tryz.prog 162 [.v (sv x)] [] (.tup [iw ts,.v (ii 0),.v (ii c)]) [])
  (hg:GF Tryz.prog 164 [strs p.globals,strs r.globals] [] (.v (.bool b1)) [])
  (ha:GF Tryz.prog 165 [(.sl 2 (p.arrays.map fun s=>aD s)),(.sl 2 (r.arrays.map fun s=>aD s))] [] (.v (.bool b2)) [])
  (hf:GF Tryz.prog 166 [.sl 3 (p.fns.map aw),.sl 3 (r.fns.map aw),.v (.func (.func 167) #[] #[])] [] (.v (.bool b3)) [])
  (hn:GF Tryz.prog 168 [.sl 5 (p.nodes.map ay),.sl 5 (r.nodes.map ay),.v (.func (.func 169) #[] #[])] [] (.v (.bool b4)) [])
  (hP:GF Tryz.prog 163 [iw ts,.v (ii (x.length:Int))] [] (.tup [.agg (ax r),.v (ii 0),.v (ii 0)]) []) :
  GF Tryz.prog 136 [.agg (ax p)] [] (.v (.bool (b1&&(b2&&(b3&&b4))))) []:=by
 cases b1 with
 | false=>exact Jq p r l x ts c h hB hC hL hX hg hP
 | true =>
  cases b2 with
  | false=>exact Jr p r l x ts c h hB hC hL hX hg ha hP
  | true =>
   cases b3 with
   | false=>exact Js p r l x ts c h hB hC hL hX hg ha hf hP
   | true=>exact Jt p r l x ts c b4 h hB hC hL hX hg ha hf hn hP
end Go.Xg
set_option maxHeartbeats 1000000
namespace Go.Xg
open Go.RowKit Go.Xw Go.Proofs
open Go.Xp (Tok Nd T Ar aP az ea)
open Go.Sp (Src)
open Go.Im
attribute [local irreducible] GW GL GO YG GC GA aU aZ
theorem Mm {st:PS} {f:Go.Sp.Fn} (h:f∈oR st):∃ x∈st.fns,f.params=x.2:=by
 unfold oR at h;obtain ⟨i,hi⟩:=List.getElem?_of_mem h;rw [getElem?_mapIdx] at hi
 cases hx:st.fns[i]? with
 | none=>rw [hx] at hi;cases hi
 | some x=>rw [hx] at hi;cases hi;exact ⟨x,mem_of_getElem? hx,rfl⟩
theorem Ln (p:Src) (hw:eh p<=1048576) (hn:xh p):GF Tryz.prog 136 [.agg (ax p)] [] (.v (.bool (fI p))) []:=by
 obtain ⟨⟨s1,s2⟩,⟨s3,s4⟩,⟨s5,s6⟩,⟨s7,s8⟩⟩:=gR p
 have eR:∀ n∈p.nodes,n.kids.length<=1099511627776:=fun n h=>by have:=(s8 n h).2;omega
 have hB:=vQ p ag eR ag;unfold fI
 by_cases h8:p.nodes.length > 800
 ·rw [if_pos h8];exact Ef p h8
 rw [if_neg h8]
 cases hb:ji p.nodes p.fns 0 [] with
 | none=>exact BE p ag eR ag hb
 | some y =>
  obtain ⟨l,e⟩:=y;simp only
  by_cases he:e≠p.nodes.length
  ·rw [if_pos he];exact GX p l e ag eR ag hb he
  rw [if_neg he]
  have he:e=p.nodes.length:=by simpa using he
  subst he;obtain ⟨l',h1,h2,h3,h4,h5⟩:=BO _ _ _ _ _ hb;rw [nil_append] at h1;subst h1
  have hz:az l=p.nodes.length:=by omega
  have aan:=SG hn h2 hz;have pn:=Gy h2 hz;have pQ:=fw.len h3;have Zl:=dw.num hn.nodes l 0 h2
  by_cases hk:l.all fP=false
  ·rw [if_pos hk];exact Ee p l ag eR ag hb ag (fun t ht=>by have:=(pn t ht).2;omega) hk
  rw [if_neg hk]
  have hk:l.all fP=true:=by simpa using hk
  obtain ⟨ts,c,z,q,st,hr⟩:=reads (mV cP ft p l);rw [Ag hr];rw [hb] at hB;unfold BN at hB;simp only at hB;rw [show ((p.nodes.length:Int)==(p.nodes.length:Int))=true by simp] at hB;have hC:=uN l ag (fun t ht=>by have:=(pn t ht).2;omega);rw [hk] at hC;have hL:=PJ 160 161 cP ft QH p l ag ag ag ag ag hn.arrays (fun f h=>by have:=(s6 f h).2.1;omega)
   (fun t ht=>⟨List.all_eq_true.1 hk t ht,jD Zl ht,by have:=(pn t ht).1;omega,by have:=(pn t ht).2;omega⟩)
  have hX:=PU _ _ ts c z ag hr.lex;have aaF:=hr.len;have hP:=Ht ts (((mV cP ft p l).length:Nat):Int) q st ag ag (fun h=>by have:=(hr.ok h).2;omega) hr.read;have iT:=Nb _ _ _ _ _ _ (Nat.le_refl _) hr.read ⟨Nat.zero_le _,Nat.zero_le _,Nat.zero_le _,fun x h=>by cases h⟩;have eF:=hr.ok;clear hr hb;generalize hxg:mV cP ft p l=x at *
  by_cases hc:c≠0
  ·rw [if_pos hc];exact GY p l x ts c z ag hB hC hL hX (by simpa using hc)
  rw [if_neg hc]
  have hc:c=0:=by simpa using hc
  subst hc
  by_cases hq:q.code≠0
  ·rw [if_pos hq];unfold I0 at hP;rw [if_neg hq] at hP;exact yY p l x ts z q.code q.at_ ag hB hC hL hX hP (by simpa using hq)
  rw [if_neg hq]
  have hq:q.code=0:=by simpa using hq
  obtain ⟨Dc,M5⟩:=eF hq
  by_cases h9:az st.trees > 800
  ·rw [if_pos h9];unfold I0 at hP;rw [if_pos hq,if_pos h9] at hP;exact yY p l x ts z 10 0 ag hB hC hL hX hP aJ
  rw [if_neg h9];rw [VF hq h9 Dc.len] at hP;obtain ⟨m1,m2,m3,m4⟩:=iT
  have jK:(ea 0 st.trees).length<=800:=by rw [Go.Xp.yu];omega
  unfold same;refine Eg p (RL st) l x ts z _ _ _ _ ag hB hC hL hX ?_ ?_ ?_ ?_ hP
  ·exact HD _ _ ag (by show st.globals.length<=_;omega)
  ·exact RY _ _ ag (by show st.arrays.length<=_;omega)
  ·refine GR p.fns (oR st) ag ?_ (fun f h=>by have:=(s6 f h).2.1;omega) (fun f h=>?_)
   ·unfold oR;rw [List.length_mapIdx];omega
   ·obtain ⟨y,hy,h6⟩:=Mm h;rw [h6];have:=m4 y hy;omega
  ·exact GS p.nodes (ea 0 st.trees) ag ag eR (fun n h=>by have:=zM st.trees 0 n h;omega)
end Go.Xg
set_option maxHeartbeats 2000000
namespace Go.Im
open Go.Xp Go.Sp
theorem Bg (p:Src):(cJ p).length=p.globals.length+p.arrays.length+p.fns.length:=by simp [cJ,eM,iq];omega
end Go.Im
namespace Go.Xg
open Go.RowKit Go.Xw Go.Proofs
open Go.Xp (Nd Ar)
open Go.Sp (Src)
open Go.Im
attribute [local irreducible] GW GL GO YG GC GA aU aZ
theorem wG:∀ l:List ah,ma (b9 l)=true
 | []=>rfl
 | s::l=>by
  have:=wG l;unfold b9 at this |-;rw [List.map_cons,ma,this];rfl
theorem o8 (l:List ah):(b9 l).length=l.length:=by simp [b9]
theorem Jx (p:Src) (hw:eh p<=1048576):GC Tryz.prog 82 [.agg (ax p)] [] fun g Δ=>∃ a c,g=.v (.slice a (cJ p).length c)/\Δ=[.vech 9 1 (b9 (cJ p)) (.slice a (cJ p).length c)]:=by
 obtain ⟨⟨a1,a2⟩,⟨b1,b2⟩,⟨c1,c2⟩,⟨d1,d2⟩⟩:=gR p
 have ve:(p.globals.map fun s=>[GV.v (sv s)]).length=p.globals.length:=by simp
 have gZ:ma (p.globals.map fun s=>[GV.v (sv s)])=true:=wG p.globals;refine da Tryz.func82 Tryz.ntmps82 ?_;refine GW.wk (Wk.oY 9 1) ?_;simp only [nil_append];refine ae ?_;refine GL.DY 0 rfl rfl rfl rfl gZ (by refine ⟨?_,?_⟩;(· rw [ve];omega);(· rw [ve];omega)) ?_;intro a c;rw [ve];refine cr ?_;simp only [nil_append,length_nil,Nat.zero_add];refine ae ?_;refine GW.range (p.arrays.map aD).length (fun k fr Γ=>∃ a c R n,fr=[.U,.loc 1 0,.U,.v (.slice a n c),.U,.U,.U,.U,.U,.U,.U,.U,.sl 2 (p.arrays.map aD),.v (ii ((p.arrays.map aD).length:Int)),.v (ii (k:Nat)),.U,.U,.U,.U,.U,.U,.U,.U,.U,.U,.U,.U,.U,.U,.U,.U,.U,.U,.U,.U,.U,.U,.U]/\Γ=[.vech 9 1 R (.slice a n c),.box 34 (ax p)]/\R.length=n/\R=b9 (p.globals++(eM p).take k)) ?_ (by rw [length_map];omega) ?_ ?_ ?_
 ·exact ⟨_,_,Wk.aC aq,_,_,_,_,rfl,rfl,ve,by simp [b9]⟩
 ·rintro k _ _ ⟨a,c,R,n,rfl,rfl,_⟩;exact dS
 ·rintro k _ _ hk ⟨a,c,R,n,rfl,rfl,eE,hR⟩
  have hk:k < p.arrays.length:=by simpa using hk
  have hx:p.arrays[k]?=some p.arrays[k]:=by simp [hk]
  have hr:=F7 hx
  have bu:b9 (p.globals++(eM p).take (k+1))=R++[[.v (sv p.arrays[k].name)]]:=by
   have:(eM p)[k]?=some p.arrays[k].name:=by rw [eM,getElem?_map,hx];rfl
   rw [take_add_one,this,hR];simp [b9]
  have vg:n<=4194304:=by
   rw [<-eE,hR,o8,length_append,length_take];omega
  clear hR;unfold aD at hr;generalize p.arrays[k]=x at *;refine ae ?_;refine GL.jv 0 rfl rfl rfl rfl rfl rfl rfl rfl aY mc ?_;intro a2 c2;refine bI ?_;refine ae ?_;exact ⟨rfl,rfl,_,_,(Wk.cut (n:=2) (Nat.zero_le _) rfl).trans (Wk.aC aq),a2,c2,_,_,rfl,rfl,by simp [eE],bu.symm⟩
 ·rintro _ _ ⟨a,c,R,n,rfl,rfl,eE,hR⟩;rw [length_map,show p.arrays.length=(eM p).length by simp [eM],take_length] at hR;refine bb ?_;refine ae ?_;refine GW.range (p.fns.map aw).length (fun k fr Γ=>∃ a c R n,fr=[.U,.loc 1 0,.U,.v (.slice a n c),.U,.U,.U,.U,.U,.U,.U,.U,.U,.U,.U,.U,.U,.U,.U,.U,.U,.U,.U,.U,.U,.sl 3 (p.fns.map aw),.v (ii ((p.fns.map aw).length:Int)),.v (ii (k:Nat)),.U,.U,.U,.U,.U,.U,.U,.U,.U,.U]/\Γ=[.vech 9 1 R (.slice a n c),.box 34 (ax p)]/\R.length=n/\R=b9 ((p.globals++eM p)++(iq p).take k)) ?_ (by rw [length_map];omega) ?_ ?_ ?_
  ·exact ⟨_,_,Wk.aC aq,_,_,_,_,rfl,rfl,eE,by rw [hR];simp⟩
  ·rintro k _ _ ⟨a,c,R,n,rfl,rfl,_⟩;exact dS
  ·rintro k _ _ hk ⟨a,c,R,n,rfl,rfl,eE,hR⟩
   have hk:k < p.fns.length:=by simpa using hk
   have hx:p.fns[k]?=some p.fns[k]:=by simp [hk]
   have hr:=Bo hx
   have bu:b9 ((p.globals++eM p)++(iq p).take (k+1))=R++[[.v (sv p.fns[k].name)]]:=by
    have:(iq p)[k]?=some p.fns[k].name:=by rw [iq,getElem?_map,hx];rfl
    rw [take_add_one,this,hR];simp [b9]
   have vg:n<=4194304:=by
    rw [<-eE,hR,o8,length_append,length_append,length_take,eM,length_map];omega
   clear hR;unfold aw at hr;generalize p.fns[k]=x at *;refine ae ?_;refine GL.jv 0 rfl rfl rfl rfl rfl rfl rfl rfl aY mc ?_;intro a2 c2;refine bI ?_;refine ae ?_;exact ⟨rfl,rfl,_,_,(Wk.cut (n:=2) (Nat.zero_le _) rfl).trans (Wk.aC aq),a2,c2,_,_,rfl,rfl,by simp [eE],bu.symm⟩
  ·rintro _ _ ⟨a,c,R,n,rfl,rfl,eE,hR⟩;rw [length_map,show p.fns.length=(iq p).length by simp [iq],take_length] at hR
   have rD:n=(cJ p).length:=by rw [<-eE,hR,o8];rfl
   subst rD;refine bb ?_;refine ae ?_;refine ic ?_;exact rY (n:=1) rfl cj rfl (Nat.zero_le _) rfl rfl ⟨a,c,rfl,by rw [hR];rfl⟩
end Go.Xg
set_option maxHeartbeats 4000000
namespace Go.Im
open Go.Xp Go.Sp
def xc (l:List ah) (k:Nat):Int:=if (List.range k).any (kj l)=true then 21 else 0
theorem P1 (l:List ah) (k:Nat):xc l (k+1)=if kj l k=true then fK (xc l k) 21 else xc l k:=by
 unfold xc;rw [List.range_succ,List.any_append]
 cases h:(List.range k).any (kj l) with
 | true=>simp [fK]
 | false=>simp [fK]
theorem SR (l:List ah):xc l l.length=if dY l=true then 21 else 0:=rfl
end Go.Im
namespace Go.Xg
open Go.RowKit Go.Xw Go.Proofs
open Go.Xp (Nd T Ar aP az)
open Go.Sp (Src)
open Go.Im
attribute [local irreducible] GW GL GO YG GC GA aU aZ
theorem Kh (p:Src) (hw:eh p<=1048576) :
  GF Tryz.prog 130 [.loc 0 0] [.box 133 (cC p (.slice none 0 0) ⟨[],0,0⟩)] (.tup []) [.box 133 (cC p (.slice none 0 0) ⟨[],(if dY (cJ p)=true then 21 else 0),0⟩)]:=by
 obtain ⟨⟨a1,a2⟩,⟨b1,b2⟩,⟨c1,c2⟩,⟨d1,d2⟩⟩:=gR p
 have ve:(p.globals.map fun s=>[GV.v (sv s)]).length=p.globals.length:=by simp
 have gZ:ma (p.globals.map fun s=>[GV.v (sv s)])=true:=wG p.globals;have rD:=Bg p;rw [<-SR]
 have xz:=fun k=>BX p (.slice none 0 0) (xc (cJ p) k) 21
 rw [show (0:Int)=xc (cJ p) 0 from rfl];unfold cC at xz |-;refine ai Tryz.func130 Tryz.ntmps130 ?_;refine kJ ?_;refine ae ?_;refine kJ ?_;refine ae ?_;refine GL.Wh rfl rfl rfl rfl gZ (by refine ⟨?_,?_⟩;(· rw [ve];omega);(· rw [ve];omega)) ?_;rw [ve];refine cr ?_;simp only [Nat.zero_add];refine ae ?_;refine GW.range (p.arrays.map aD).length (fun k fr Γ=>∃ R n,fr=[.loc 0 0,.U,.vec 1 0,.vec 2 n,.U,.U,.U,.U,.U,.U,.U,.U,.U,.U,.U,.U,.U,.U,.U,.U,.U,.U,.sl 2 (p.arrays.map aD),.v (ii ((p.arrays.map aD).length:Int)),.v (ii (k:Nat)),.U,.U,.U,.U,.U,.U,.U,.U,.U,.U,.U,.U,.U,.U,.U,.U,.U,.U,.U,.U,.U,.U,.U,.U,.U,.U,.U,.U,.U,.U,.U,.U,.U,.U,.U,.U,.U,.U,.U,.U,.U,.U,.U,.U,.U]/\Γ=[.box 133 [strs p.globals,.sl 2 (p.arrays.map aD),.sl 3 (p.fns.map aw),.sl 5 (p.nodes.map ay),.v (.slice none 0 0),.v (ii (xc (cJ p) 0)),.v (ii 0)],.vec 9 1 0 [],.vec 9 1 0 R]/\R.length=n/\R=b9 (p.globals++(eM p).take k)) ?_ (by rw [length_map];omega) ?_ ?_ ?_
 ·exact ⟨_,_,Wk.aC aq,_,_,rfl,rfl,ve,by simp [b9,chunk]⟩
 ·rintro k _ _ ⟨R,n,rfl,rfl,_⟩;exact dS
 ·rintro k _ _ hk ⟨R,n,rfl,rfl,eE,hR⟩
  have hk:k < p.arrays.length:=by simpa using hk
  have hx:p.arrays[k]?=some p.arrays[k]:=by simp [hk]
  have hr:=F7 hx
  have bu:b9 (p.globals++(eM p).take (k+1))=R++[[.v (sv p.arrays[k].name)]]:=by
   have:(eM p)[k]?=some p.arrays[k].name:=by rw [eM,getElem?_map,hx];rfl
   rw [take_add_one,this,hR];simp [b9]
  have vg:n<=4194304:=by
   rw [<-eE,hR,o8,length_append,length_take];omega
  have hb:n+1<=9223372036854775807/\(n+1) * 16<=140737488355328:=by omega
  clear hR;unfold aD at hr;generalize p.arrays[k]=x at *;refine ae ?_;refine eP ?_;refine ae ?_;exact ⟨rfl,rfl,_,_,(Wk.cut (n:=3) (Nat.le_of_ble_eq_true rfl) rfl).trans (Wk.aC aq),_,_,rfl,rfl,by simp [eE],bu.symm⟩
 ·rintro _ _ ⟨R,n,rfl,rfl,eE,hR⟩;rw [length_map,show p.arrays.length=(eM p).length by simp [eM],take_length] at hR;refine bb ?_;refine ae ?_;refine GW.range (p.fns.map aw).length (fun k fr Γ=>∃ R n,fr=[.loc 0 0,.U,.vec 1 0,.vec 2 n,.U,.U,.U,.U,.U,.U,.U,.U,.U,.U,.U,.U,.U,.U,.U,.U,.U,.U,.U,.U,.U,.U,.U,.U,.U,.U,.U,.U,.U,.U,.U,.U,.U,.U,.sl 3 (p.fns.map aw),.v (ii ((p.fns.map aw).length:Int)),.v (ii (k:Nat)),.U,.U,.U,.U,.U,.U,.U,.U,.U,.U,.U,.U,.U,.U,.U,.U,.U,.U,.U,.U,.U,.U,.U,.U,.U,.U,.U,.U,.U]/\Γ=[.box 133 [strs p.globals,.sl 2 (p.arrays.map aD),.sl 3 (p.fns.map aw),.sl 5 (p.nodes.map ay),.v (.slice none 0 0),.v (ii (xc (cJ p) 0)),.v (ii 0)],.vec 9 1 0 [],.vec 9 1 0 R]/\R.length=n/\R=b9 ((p.globals++eM p)++(iq p).take k)) ?_ (by rw [length_map];omega) ?_ ?_ ?_
  ·exact ⟨_,_,Wk.aC aq,_,_,rfl,rfl,eE,by rw [hR];simp⟩
  ·rintro k _ _ ⟨R,n,rfl,rfl,_⟩;exact dS
  ·rintro k _ _ hk ⟨R,n,rfl,rfl,eE,hR⟩
   have hk:k < p.fns.length:=by simpa using hk
   have hx:p.fns[k]?=some p.fns[k]:=by simp [hk]
   have hr:=Bo hx
   have bu:b9 ((p.globals++eM p)++(iq p).take (k+1))=R++[[.v (sv p.fns[k].name)]]:=by
    have:(iq p)[k]?=some p.fns[k].name:=by rw [iq,getElem?_map,hx];rfl
    rw [take_add_one,this,hR];simp [b9]
   have vg:n<=4194304:=by
    rw [<-eE,hR,o8,length_append,length_append,length_take,eM,length_map];omega
   have hb:n+1<=9223372036854775807/\(n+1) * 16<=140737488355328:=by omega
   clear hR;unfold aw at hr;generalize p.fns[k]=x at *;refine ae ?_;refine eP ?_;refine ae ?_;exact ⟨rfl,rfl,_,_,(Wk.cut (n:=3) (Nat.le_of_ble_eq_true rfl) rfl).trans (Wk.aC aq),_,_,rfl,rfl,by simp [eE],bu.symm⟩
  ·rintro _ _ ⟨R,n,rfl,rfl,eE,hR⟩;rw [length_map,show p.fns.length=(iq p).length by simp [iq],take_length] at hR;have hR:R=b9 (cJ p):=hR
   have nA:R.length=(cJ p).length:=by rw [hR,o8]
   have UL:n=R.length:=eE.symm;subst UL;refine bb ?_;refine GW.wk (Wk.jw (t:=3) rfl rfl rfl rfl) ?_;refine GW.wk (Wk.cut (n:=2) (Nat.le_of_ble_eq_true rfl) rfl) ?_;refine GW.Ma (b7:=[.loc 0 0,.U,.vec 1 0,.sl 1 R,.U,.U,.U,.U,.U,.U,.U,.U,.U,.U,.U,.U,.U,.U,.U,.U,.U,.U,.U,.U,.U,.U,.U,.U,.U,.U,.U,.U,.U,.U,.U,.U,.U,.U,.U,.U,.U,.U,.U,.U,.U,.U,.U,.U,.U,.U,.U,.U,.U,.U,.U,.U,.U,.U,.U,.U,.U,.U,.U,.U,.U,.U,.U,.U,.U,.U]) (aK:=[.box 133 [strs p.globals,.sl 2 (p.arrays.map aD),.sl 3 (p.fns.map aw),.sl 5 (p.nodes.map ay),.v (.slice none 0 0),.v (ii (xc (cJ p) 0)),.v (ii 0)],.vec 9 1 0 []]) aq rfl ?_;refine ae ?_;refine GW.range R.length (fun k fr Γ=>∃ S n fz,fr=[.loc 0 0,.U,.vec 1 n,.U,.U,.U,.U,.U,.U,.U,.U,.U,.U,.U,.U,.U,.U,.U,.U,.U,.U,.U,.U,.U,.U,.U,.U,.U,.U,.U,.U,.U,.U,.U,.U,.U,.U,.U,.U,.U,.U,.U,.U,.U,.U,.U,.U,.U,.U,.U,.sl 1 R,.v (ii (R.length:Int)),.v (ii (k:Nat)),.U,.U,.U,.U,.U,.U,.U,.U,.U,.U,.U,.U,.U,.U,.U,.U,.U]/\Γ=[.box 133 [strs p.globals,.sl 2 (p.arrays.map aD),.sl 3 (p.fns.map aw),.sl 5 (p.nodes.map ay),.v (.slice none 0 0),.v (ii (xc (cJ p) k)),.v (ii 0)],.vec 9 1 fz S]/\S.length=n/\S=b9 ((cJ p).take k)) ?_ ag ?_ ?_ ?_
   ·exact ⟨_,_,Wk.aC aq,_,_,_,rfl,rfl,rfl,by simp [b9]⟩
   ·rintro k _ _ ⟨S,n,fz,rfl,rfl,_⟩;exact dS
   ·rintro k _ _ hk ⟨S,n,fz,rfl,rfl,mw,hS⟩;rw [nA] at hk;obtain ⟨x,hx⟩:∃ x,(cJ p)[k]?=some x:=⟨(cJ p)[k],by simp [hk]⟩
    have Ri:R[k]?=some [.v (sv x)]:=by rw [hR,b9,getElem?_map,hx];rfl
    have bu:b9 ((cJ p).take (k+1))=S++[[.v (sv x)]]:=by rw [take_add_one,hx,hS];simp [b9]
    have vg:n<=8388608:=by rw [<-mw,hS,o8,length_take];omega
    have hb:n+1<=9223372036854775807/\(n+1) * 16<=140737488355328:=by omega
    have hd:kj (cJ p) k=(l6 x || ((cJ p).take k).contains x):=by unfold kj;rw [hx]
    have MH:=Ki x
    have hL:GF Tryz.prog 74 [.sl 1 S,.v (sv x)] [] (.v (.bool (((cJ p).take k).contains x))) []:=by
     rw [hS];exact jj ((cJ p).take k) x (by rw [length_take];omega)
    have hF:=xz k;rw [P1];clear hS hR nA;generalize xc (cJ p) k=cd at *;generalize kj (cJ p) k=bn at *
    cases h1:l6 x with
    | true =>
     rw [h1] at MH hd;subst hd;rw [if_pos (by simp)];refine ae ?_;refine ab [] MH ?_;refine ab [0] hF ?_;refine eP ?_;refine ae ?_;exact ⟨rfl,rfl,_,_,Wk.aC aq,_,_,_,rfl,rfl,by simp [mw],bu.symm⟩
    | false =>
     rw [h1] at MH hd
     cases h2:((cJ p).take k).contains x with
     | true =>
      rw [h2] at hL hd;subst hd;rw [if_pos (by simp)];refine ae ?_;refine ab [] MH ?_;refine GL.wk (Wk.jw (t:=59) rfl rfl rfl mw) ?_;refine bI ?_;refine ae ?_;refine ab [] hL ?_;refine ab [0] hF ?_;refine eP ?_;refine ae ?_;exact ⟨rfl,rfl,_,_,Wk.aC aq,_,_,_,rfl,rfl,by simp [mw],bu.symm⟩
     | false =>
      rw [h2] at hL hd;subst hd;rw [if_neg (by simp)];refine ae ?_;refine ab [] MH ?_;refine GL.wk (Wk.jw (t:=59) rfl rfl rfl mw) ?_;refine bI ?_;refine ae ?_;refine ab [] hL ?_;refine eP ?_;refine ae ?_;exact ⟨rfl,rfl,_,_,Wk.aC aq,_,_,_,rfl,rfl,by simp [mw],bu.symm⟩
   ·rintro _ _ ⟨S,n,fz,rfl,rfl,mw,hS⟩;rw [nA];exact fT
theorem IC (p:Src) (c z:Int) (h:GF Tryz.prog 97 [.agg (ax p)] [] (.tup [.v (ii c),.v (ii z)]) []):GF Tryz.prog 39 [.agg (ax p)] [] (.v (.bool (c==0))) []:=by
 refine ai Tryz.func39 Tryz.ntmps39 ?_;refine ab [] h ?_;exact al
end Go.Xg
namespace Go.Im
open Go.Xp Go.Sp
def qI (p:Src) (fn:Int):Bool:=(ig p&&decide ((0:Int)<=fn))&&decide (fn < (p.fns.length:Int))
end Go.Im
namespace Go.Xg
open Go.RowKit Go.Xw Go.Proofs
open Go.Xp (Nd T Ar aP az bL)
open Go.Sp (Src)
open Go.Im
attribute [local irreducible] GW GL GO YG GC GA aU aZ
theorem Jb {l:List T} {t:T} (h:t∈l):aP t<=az l:=by
 obtain ⟨k,hk⟩:=List.getElem?_of_mem h;have:=tI hk;omega
theorem EP {p:Src} (h:fI p=false):ig p=false:=by unfold ig;rw [h];rfl
theorem C1 {p:Src} {l:List T} (h:fI p=true) (hl:fJ p l):ig p=((CR p l).1==0):=by
 unfold ig;rw [h,hl.Ew];simp only [Bool.true_and];rfl
theorem SA (p:Src) (hw:eh p<=1048576) (hn:xh p):GF Tryz.prog 45 [.agg (ax p)] [] (.v (.bool (ig p))) []:=by
 obtain ⟨⟨a1,a2⟩,⟨b1,b2⟩,⟨c1,c2⟩,⟨d1,d2⟩⟩:=gR p;have hF:=Ln p hw hn
 cases hf:fI p with
 | false =>
  rw [hf] at hF;have:=MA p _ _ (Li p hF);rw [EP hf];exact this
 | true =>
  rw [hf] at hF;obtain ⟨l,hl⟩:=tV hf;have hlen:=fw.len hl.fns;have rD:=Bg p;have jo:=CL hl
  have hc:=Jp p l (cJ p) ag hlen ag hF (Jx p hw) (Od p ag ag fun a ha=>⟨(jo a ha).1,by have:=(jo a ha).2;omega⟩) fun i f t h1 h2=>by
   obtain ⟨e1,_⟩:=fw.at_ hl.fns i f t h1 h2;have h7:=dw.ix l 0 i _ hl.st h2;rw [Nat.zero_add] at e1 h7
   have hb:f.body.toNat=az (l.take i):=by rw [e1,Int.toNat_natCast]
   have hz:=Jb (mem_of_getElem? h2);have:=hl.len;have:=Ml p i f t ag (fun n h=>by have:=(d2 n h).2;omega) ag ag ag h1 (by have:=(c2 f (mem_of_getElem? h1)).2.1;omega) ag (by rw [hb];exact h7) ag;rw [hb] at this;exact this
  rw [C1 hf hl];exact MA p _ _ hc
theorem Ii (p:Src) (hw:eh p<=1048576):GF Tryz.prog 39 [.agg (ax p)] [] (.v (.bool (ig p))) []:=by
 obtain ⟨⟨a1,a2⟩,⟨b1,b2⟩,⟨c1,c2⟩,⟨d1,d2⟩⟩:=gR p;have hF:=Lm p hw
 cases hf:fI p with
 | false =>
  rw [hf] at hF;have:=IC p _ _ (Lh p hF);rw [EP hf];exact this
 | true =>
  rw [hf] at hF;obtain ⟨l,hl⟩:=tV hf;have hlen:=fw.len hl.fns;have jo:=CL hl
  have U3:∀ a∈p.arrays,0<=a.size/\a.size<=2147483648:=fun a ha=>⟨(jo a ha).1,by have:=(jo a ha).2;omega⟩
  obtain ⟨ls,hm⟩:=hl.JN
  have hS:=fun k=>FB p (.slice none 0 0) k ag U3 fun h=>DU p (.slice none 0 0) k ag ag U3 h
  have hle:=hl.len
  have hc:=Jo p l _ _ hlen ag ag ag (fun f h=>by have:=(c2 f h).2.1;omega) (fun t ht=>by have:=Jb ht;omega) hF (Kh p hw) (hS _) fun i f t h1 h2=>by
   obtain ⟨e1,_⟩:=fw.at_ hl.fns i f t h1 h2;have h7:=dw.ix l 0 i _ hl.st h2;rw [Nat.zero_add] at e1 h7;rw [e1];exact D8 p (fun n h=>by have:=(d2 n h).2;omega) _ _ t ((vG _).1 t _ h7 (Nat.le_refl _))
  have:=IC p _ _ hc;have hs:=TK (p:=p) (l:=l) (fun a ha=>(jo a ha).1) (fun t ht=>by obtain ⟨i,hi⟩:=List.getElem?_of_mem ht;exact (hm.wf hi).1)
  have e:((LP p l).code==0)=ig p:=by
   rw [C1 hf hl]
   by_cases h0:(CR p l).1=0
   ·rw [h0,hs.1 h0]
   ·have h1:(LP p l).code≠0:=fun e=>h0 (hs.2 e)
    rw [show ((CR p l).1==0)=false by simpa using h0,show ((LP p l).code==0)=false by simpa using h1]
  rw [<-e];exact this
end Go.Xg
namespace Go.Im
open Go.Xp Go.Sp
end Go.Im
namespace Go.Xg
open Go.RowKit Go.Xw Go.Proofs
open Go.Xp (Nd T Ar aP az bL)
open Go.Sp (Src)
open Go.Im
attribute [local irreducible] GW GL GO YG GC GA aU aZ
theorem VV (p:Src) (hk:∀ n∈p.nodes,n.kids.length<=1000000000000) (f:Go.Sp.Fn) (t:T) (hb:0<=f.body) (cn:et p.nodes f.body.toNat t):GF Tryz.prog 99 [.agg (ax p),.v (ii f.body)] [] (.agg (cT t)) []:=by
 have:=D8 p hk _ _ t ((vG _).1 t _ cn (Nat.le_refl _))
 rwa [Int.toNat_of_nonneg hb] at this
end Go.Xg
namespace Go.Im
open Go.Xp Go.Sp
theorem Good.Ew {p:Src} {l:List T} (h:Good p l):ji p.nodes p.fns 0 []=some (l,p.nodes.length):=h.st.Ew
structure sK (p:Src) (l:List T) (i:Nat) (f:Go.Sp.Fn) (t:T):Prop where
 good:Good p l
 gf:p.fns[i]?=some f
 gt:l[i]?=some t
 ok:IY p t f.params
 wf:gz t
 z:zT t
 st:et p.nodes f.body.toNat t
 body:0<=f.body
 sz:aP t<=800
theorem Good.fn {p:Src} {l:List T} (h:Good p l) {i:Nat} {f:Go.Sp.Fn} {t:T} (e1:p.fns[i]?=some f) (e2:l[i]?=some t):sK p l i f t:=by
 obtain ⟨a1,a2,a3,a4,a5⟩:=h.at_ _ _ _ e1 e2;refine ⟨h,e1,e2,a1,a2,a3,a4,a5,?_⟩;have:=h.st.few;have:=a4.le;omega
theorem yA {p:Src} {fn:Int} (h:qI p fn=true):∃ (i:Nat) (l:List T) (f:Go.Sp.Fn) (t:T),fn=(i:Int)/\sK p l i f t:=by
 unfold qI at h;simp only [Bool.and_eq_true,decide_eq_true_eq] at h;obtain ⟨⟨h1,h2⟩,h3⟩:=h;obtain ⟨l,hl⟩:=SB h1;have hlen:=hl.len
 have hi:fn.toNat < p.fns.length:=by omega
 have e1:p.fns[fn.toNat]?=some p.fns[fn.toNat]:=getElem?_eq_getElem _;have e2:l[fn.toNat]?=some (l[fn.toNat]'(by omega)):=getElem?_eq_getElem _;obtain ⟨a1,a2,a3,a4,a5⟩:=hl.at_ _ _ _ e1 e2;refine ⟨fn.toNat,l,_,_,by omega,hl,e1,e2,a1,a2,a3,a4,a5,?_⟩;have:=hl.st.few;have:=a4.le;omega
end Go.Im
namespace Go.Xg
open Go.RowKit Go.Xw Go.Proofs
open Go.Xp (Nd T Ar aP az bL)
open Go.Sp (Src)
open Go.Im
attribute [local irreducible] GW GL GO YG GC GA aU aZ
end Go.Xg
namespace Go.Im
open Go.Xp Go.Sp
theorem Sb (p:Src) (s:List Int) (a:Nat) (t:T) (ls:List ah):(fj p s a t ls).length<=s.length+1:=by
 unfold fj;rw [length_append];have:=BR p t.n;omega
end Go.Im
namespace Go.Xg
open Go.RowKit Go.Xw Go.Proofs
open Go.Xp (Nd T Ar aP az)
open Go.Sp (Src)
open Go.Im
attribute [local irreducible] GW GL GO YG GC GA aU aZ
theorem Tm (p:Src) (a:Nat) (n:Nd) (l:List T) (ls:List ah) (s:List Int) (E1:TypeId) (eb:Option Addr) (ec:Nat) (ad:Option Addr) (cp:Nat) (hn:p.nodes[a]?=some n) (iK:p.fns.length<=1099511627776) (hs:s.length<=1048576000) :
  GC Tryz.prog 104 [.v (ii (a:Nat)),.v (.slice ad ls.length cp),.box (ax p) 0,.loc 0 0] [.box E1 [.v (.slice eb s.length ec)],.vech 3 1 (bc s) (.slice eb s.length ec),.vech 9 1 (b9 ls) (.slice ad ls.length cp)] fun g Δ=>g=.tup []/\∃ wT wU,
   Δ=[.box E1 [.v (.slice wT (fj p s a (.mk n l) ls).length wU)],.vech 3 1 (bc (fj p s a (.mk n l) ls)) (.slice wT (fj p s a (.mk n l) ls).length wU),.vech 9 1 (b9 ls) (.slice ad ls.length cp)]:=by
 have hr:=jT hn;have ua:=eO s;have hA:=Mk p n.s iK;have e0:cD (fun x:Go.Sp.Fn=>x.name==n.s) p.fns=nU p n.s:=rfl;rw [e0] at hA;have e:fj p s a (.mk n l) ls=s++(if n.kind=4/\0<=nU p n.s then [nU p n.s] else []):=rfl;rw [e];unfold ay at hr;generalize nU p n.s=z at *
 cases h1:(n.kind==4) with
 | false =>
  rw [if_neg (fun h=>by rw [h.1] at h1;cases h1),append_nil];refine ai Tryz.func104 Tryz.ntmps104 ?_;refine aI (aB 0 7 (.a 7 (.q 8 .nil))) ?_;refine ar ?_;refine aE [] hA ?_;refine ae ?_;refine cV ?_;exact ⟨rfl,eb,ec,rfl⟩
 | true =>
  cases h2:decide ((0:Int)<=z) with
  | false =>
   rw [if_neg (fun h=>by have:=of_decide_eq_false h2;exact this h.2),append_nil];refine ai Tryz.func104 Tryz.ntmps104 ?_;refine aI (aB 0 7 (.a 7 (.q 8 .nil))) ?_;refine ar ?_;refine aE [] hA ?_;refine ae ?_;refine cV ?_;exact ⟨rfl,eb,ec,rfl⟩
  | true =>
   rw [if_pos ⟨by simpa using h1,by simpa using h2⟩];refine ai Tryz.func104 Tryz.ntmps104 ?_;refine aI (aB 0 7 (.a 7 (.q 8 .nil))) ?_;refine ar ?_;refine aE [] hA ?_;refine ae ?_;refine GL.jv 1 rfl rfl rfl rfl rfl rfl rfl rfl aY mc ?_;intro sO sS;refine bI ?_;refine ae ?_;refine cV ?_;exact ⟨rfl,sO,sS,by simp [bc]⟩
end Go.Xg
namespace Go.Xg
open Go.RowKit Go.Xw Go.Proofs
open Go.Xp (Nd T Ar aP az dV)
open Go.Sp (Src)
open Go.Im
attribute [local irreducible] GW GL GO YG GC GA aU aZ
def Gu (p:Src):GV:=.fn (.func 104) [] [.box (ax p) 0,.loc 0 0]
def RN (p:Src):GV:=.fn (.func 127) [] [.loc 2 0,.loc 3 0,.box (ax p) 0,.loc 4 0]
def RG (E1:TypeId) (s:List Int) (eb:Option Addr) (ec:Nat):List Ob:=[.box E1 [.v (.slice eb s.length ec)],.vech 3 1 (bc s) (.slice eb s.length ec)]
def Dz (p:Src) (E1 E2 E3 E4:TypeId) (s:List Int) (ls:List ah) (ad:Option Addr) (cp:Nat) (eb:Option Addr) (ec:Nat):List Ob :=
 [.box E1 [.v (.slice eb s.length ec)],.vech 3 1 (bc s) (.slice eb s.length ec),.box E2 [Gu p],.box E3 [.v (.slice ad ls.length cp)],.box E4 [RN p],.vech 9 1 (b9 ls) (.slice ad ls.length cp)]
theorem QD (p:Src) (E1 E2 E3 E4:TypeId) (hp:p.nodes.length<=1048576) (eR:∀ n∈p.nodes,n.kids.length<=1099511627776) (iK:p.fns.length<=1099511627776):∀ (N:Nat) (t:T),aP t<=N->∀ (a:Nat) (s:List Int) (ls:List ah) (ad:Option Addr) (cp:Nat) (eb:Option Addr) (ec:Nat),et p.nodes a t->ls.length+aP t<=8388608->s.length+aP t<=8388608 ->
  GC Tryz.prog 127 [.v (ii (a:Nat)),.loc 2 0,.loc 3 0,.box (ax p) 0,.loc 4 0] (Dz p E1 E2 E3 E4 s ls ad cp eb ec) fun g Δ=>g=.tup []/\∃ qm qo wT wU,Δ=Dz p E1 E2 E3 E4 (iD (fj p) t a s ls).1 (iD (fj p) t a s ls).2 qm qo wT wU:=by
 intro N
 induction N with
 | zero=>intro t h;have:=km t;omega
 | succ N ih =>
 intro t hN a s ls ad cp eb ec cn my qx
 cases t with
 | mk n l =>
 rw [Go.Xp.aP] at hN my qx;have U0:=cn;rw [et] at cn;obtain ⟨hn,hk,ua⟩:=cn;rw [iD];have hr:=jT hn;have oF:=eR n (mem_of_getElem? hn);have ht:=Tm p a n l ls s E1 eb ec ad cp hn iK ag;have aaC:((fj p) s a (.mk n l) ls).length<=s.length+1:=Sb _ _ _ _ _;generalize gy:(fj p) s a (.mk n l) ls=s1 at *
 have A0:n.kids.length=l.length:=by rw [hk,dV]
 unfold ay at hr;unfold Dz Gu RN;refine ai Tryz.func127 Tryz.ntmps127 ?_;refine GL.vS [0,1,5] ht rfl rfl rfl (by repeat (first | exact trivial | refine ⟨rfl,?_⟩)) ?_;rintro _ _ ⟨rfl,eb,ec,rfl⟩;refine cW ?_;refine ae ?_;refine GW.range (n.kids.map fun i=>[GV.v (ii i)]).length (fun k fr Γ=>∃ qm qo wT wU,fr=[.v (ii (a:Nat)),.loc 2 0,.loc 3 0,.box (ax p) 0,.loc 4 0,.U,.U,.U,.U,.U,.U,.U,.U,.U,.U,.U,.U,ints n.kids,.v (ii ((n.kids.map fun i=>[GV.v (ii i)]).length:Int)),.v (ii (k:Nat)),.U,.U,.U,.U,.U,.U,.U,.U,.U,.U,.U,.U,.U,.U,.U,.U,.U,.U,.U,.U,.U,.U,.U]/\Γ=Dz p E1 E2 E3 E4 (dU (fj p) (l.take k) (a+1) s1 ls).1 (dU (fj p) (l.take k) (a+1) s1 ls).2 qm qo wT wU) ?_ (by rw [length_map];omega) ?_ ?_ ?_
 ·exact ⟨_,_,Wk.aC aq,ad,cp,eb,ec,rfl,rfl⟩
 ·rintro k _ _ ⟨ad,cp,eb,ec,rfl,rfl⟩;exact dS
 ·rintro k _ _ ak ⟨ad,cp,eb,ec,rfl,rfl⟩;rw [length_map,A0] at ak;obtain ⟨u,hu⟩:∃ u,l[k]?=some u:=⟨l[k],by simp [ak]⟩;have iL:=xV (n:=a+1) hu;rw [<-hk] at iL;have rE:=pC iL;have cS:=tI hu;have U1:et p.nodes (a+1+az (l.take k)) u:=dw.ix l (a+1) k u ua hu
  have hlen:(dU (fj p) (l.take k) (a+1) s1 ls).2.length<=ls.length+az (l.take k):=by
   rw [qF,length_append];have:=uw (l.take k);omega
  have J0:(dU (fj p) (l.take k) (a+1) s1 ls).1.length<=s1.length+az (l.take k):=by
   rw [EI,length_append];have:=Ez p (l.take k);omega
  rw [EH _ hu];generalize (dU (fj p) (l.take k) (a+1) s1 ls).1=s2 at *;generalize (dU (fj p) (l.take k) (a+1) s1 ls).2=ls2 at *;have hv:=ih u ag (a+1+az (l.take k)) s2 ls2 ad cp eb ec U1 ag ag;unfold Dz Gu RN at hv |-;refine ae ?_;refine GL.vS [0,1,2,3,4,5] hv rfl rfl rfl (by repeat (first | exact trivial | refine ⟨rfl,?_⟩)) ?_;rintro _ _ ⟨rfl,qm,qo,wT,wU,rfl⟩;refine cW ?_;refine ae ?_;exact ⟨rfl,rfl,_,_,Wk.aC aq,qm,qo,wT,wU,rfl,rfl⟩
 ·rintro _ _ ⟨ad,cp,eb,ec,rfl,rfl⟩;rw [length_map,A0,take_length]
  have hlen:(dU (fj p) l (a+1) s1 ls).2.length<=ls.length+az l:=by
   rw [qF,length_append];have:=uw l;omega
  generalize (dU (fj p) l (a+1) s1 ls).1=s2 at *;generalize (dU (fj p) l (a+1) s1 ls).2=ls2 at *;have Rb:(b9 ls2).length=ls2.length:=vF ls2;unfold Dz Gu RN;refine bb ?_
  cases hv:(n.kind==13) with
  | false =>
   rw [if_neg (by simpa using hv)];refine ae ?_;refine cV ?_;exact ⟨rfl,ad,cp,eb,ec,rfl⟩
  | true =>
   rw [if_pos (by simpa using hv)];refine ae ?_;refine aI (aB 0 7 (.a 7 (.a 8 (.a 9 .nil)))) ?_;refine ar ?_;refine ey ?_;refine ar ?_;refine OA rfl rfl (GL.pJ 5 (news:=[[.v (sv n.s)]]) rfl rfl rfl aY rfl rfl (by refine ⟨?_,?_⟩;(· show _+1<=_;omega);(· show (_+1) * _<=_;omega)) ?_);intro sO sS;refine dy ?_;refine bf ?_;refine cV ?_;exact ⟨rfl,sO,sS,eb,ec,by simp [b9]⟩
theorem Sj (p:Src) (E1:TypeId) (i:Nat) (f:Go.Sp.Fn) (t:T) (s:List Int) (eb:Option Addr) (ec:Nat) (hp:p.nodes.length<=1048576) (eR:∀ n∈p.nodes,n.kids.length<=1099511627776) (iK:p.fns.length<=1099511627776)
  (hf:p.fns[i]?=some f) (xN:f.params.length<=1048576) (hb:0<=f.body) (cn:et p.nodes f.body.toNat t) (cS:aP t<=1048576) (hs:s.length+aP t<=8388608) :
  GC Tryz.prog 88 [.agg (ax p),.v (ii (i:Nat)),Gu p] (RG E1 s eb ec) fun g Δ=>g=.tup []/\∃ wT wU,Δ=RG E1 (iD (fj p) t f.body.toNat s f.params).1 wT wU:=by
 have hr:(p.fns.map aw)[i]?=some (aw f):=by rw [getElem?_map,hf];rfl
 have cQ:(f.params.map fun s=>[GV.v (sv s)]).length=f.params.length:=by simp
 have gZ:=FZ f.params;obtain ⟨b,xE⟩:∃ b:Nat,f.body=(b:Int):=⟨f.body.toNat,by omega⟩;rw [xE,Int.toNat_natCast] at cn |-;unfold aw at hr;rw [xE] at hr;unfold Gu RG;refine da Tryz.func88 Tryz.ntmps88 ?_;refine jg ?_;refine GL.wk (Wk.freeze (i:=2) rfl rfl rfl (Nat.le_refl _)) ?_;refine GN (by simp only [ot,ny];rfl) ?_;refine GL.wk (Wk.aC (b7:=[.U,.v (ii (i:Nat)),.U,.box (ax p) 0,.U,.loc 3 0,.U,.U,.U,.U,.U,.U,.U,strs f.params,.U,.U,.U,.U,.U,.U,.U,.U,.U,.U]) aq) ?_;refine GL.wk (Wk.oY 9 1) ?_;refine GL.DY 4 rfl rfl rfl rfl gZ (by refine ⟨?_,?_⟩;(· rw [cQ];omega);(· rw [cQ];omega)) ?_;intro ad cp;rw [cQ];refine cr ?_;simp only [nil_append,length_nil,Nat.zero_add];refine ae ?_;refine GW.Ma (b7:=[.U,.v (ii (i:Nat)),.U,.box (ax p) 0,.U,.loc 3 0,.loc 5 0,.loc 6 0,.U,.U,.U,.U,.U,.U,.U,.U,.U,.U,.U,.U,.U,.U,.U,.U]) (aK:=[.box E1 [.v (.slice eb s.length ec)],.vech 3 1 (bc s) (.slice eb s.length ec),.gone,.box _ [.fn (.func 104) [] [.box (ax p) 0,.loc 0 0]],.vech 9 1 (b9 f.params) (.slice ad f.params.length cp),.box _ [.v (.slice ad f.params.length cp)],.box _ [.fn (.func 127) [] [.loc 3 0,.loc 5 0,.box (ax p) 0,.loc 6 0]]]) aq rfl ?_;refine aI (aB 0 7 (.a 7 .nil)) ?_;refine ar ?_;have hv:=QD p E1;refine OA rfl rfl (GL.vS [0,1,3,5,6,4] (hv _ _ _ hp eR iK _ t (Nat.le_refl _) b s f.params ad cp eb ec cn ag hs) rfl rfl rfl (by repeat (first | exact trivial | refine ⟨rfl,?_⟩)) ?_);rintro _ _ ⟨rfl,qm,qo,wT,wU,rfl⟩;refine ⟨by simp [Dz],?_⟩;unfold Dz;refine dy ?_;refine bf ?_;refine cV ?_;exact ⟨rfl,wT,wU,rfl⟩
end Go.Xg
namespace Go.Im
open Go.Xp Go.Sp
def nb (p:Src) (l:List T) (x:Int):List Int:=match l[x.toNat]? with | some t=>bT p t | none=>[]
theorem BS (p:Src) (l:List T) (x:Int):∀ y∈nb p l x,0<=y/\y < (p.fns.length:Int):=by
 intro y hy;unfold nb at hy;split at hy
 ·exact mM p _ y hy
 ·simp at hy
structure Trail (p:Src) (L:List Int):Prop where
 nodup:L.Nodup
 rng:∀ y∈L,0<=y/\y < (p.fns.length:Int)
theorem Trail.len {p:Src} {L:List Int} (h:Trail p L):L.length<=p.fns.length:=Dt h.nodup h.rng
theorem Trail.add {p:Src} {L ks:List Int} (h:Trail p L) (hk:∀ y∈ks,0<=y/\y < (p.fns.length:Int)):Trail p (dK L ks) :=
 ⟨vN h.nodup,fun y hy=>by
  rcases qC.1 hy with h1 | h1
  ·exact h.rng y h1
  ·exact hk y h1⟩
def pK (p:Src) (l:List T) (L:List Int):List Int:=mZ (nb p l) (p.fns.length+1) 0 L
theorem Ep {cs:Int->List Int} {f i:Nat} {L:List Int} {x:Int} (h:L[i]?=some x):mZ cs (f+1) i L=mZ cs f (i+1) (dK L (cs x)):=by rw [mZ,h]
theorem Et {cs:Int->List Int} {f i:Nat} {L:List Int} (h:L.length<=i):mZ cs f i L=L:=by
 cases f with
 | zero=>rfl
 | succ f=>rw [mZ,getElem?_eq_none h]
theorem BM {p:Src} {l:List T}:∀ (f i:Nat) (L:List Int),Trail p L->Trail p (mZ (nb p l) f i L)
 | 0,i,L,h=>h
 | f+1,i,L,h=>by
  rw [mZ];split
  ·exact h
  ·exact BM f (i+1) _ (h.add (BS p l _))
end Go.Im
namespace Go.Xg
open Go.RowKit Go.Xw Go.Proofs
open Go.Xp (Nd T Ar aP az)
open Go.Sp (Src)
open Go.Im
attribute [local irreducible] GW GL GO YG GC GA aU aZ
theorem P3 (l:List Int):ma (l.map fun i=>[GV.v (ii i)])=true:=by
 induction l with
 | nil=>rfl
 | cons s l ih=>rw [List.map_cons,ma,ih];rfl
theorem HP (p:Src) (hw:eh p<=1048576) {l:List T} {i:Nat} {f:Go.Sp.Fn} {t:T} (h:sK p l i f t) :
  GF Tryz.prog 46 [.agg (ax p),.v (ii (i:Nat))] [] (ints (bT p t)) []:=by
 obtain ⟨⟨a1,a2⟩,⟨b1,b2⟩,⟨c1,c2⟩,⟨d1,d2⟩⟩:=gR p;have cS:=h.sz;have zg:=LS p _ t (Nat.le_refl _)
 have hE:=fun eb ec=>Sj p 40 i f t [] eb ec ag (fun n hn=>by have:=(d2 n hn).2;omega) ag h.gf (by have:=(c2 f (mem_of_getElem? h.gf)).2.1;omega) h.body h.st ag (by show 0+_<=_;omega)
 rw [QS,nil_append] at hE;obtain ⟨e1,e2⟩:=TO (oz p t)
 have hS:=fun a c=>Lx (oz p t) 3 a c ag
 have hC:=fun a c=>Lj (gw (oz p t)) 3 a c (by rw [nH];omega) e2
 rw [e1] at hC;rw [nH] at hC;unfold Gu RG at hE;unfold bT;generalize oL (oz p t)=rr at *;generalize gw (oz p t)=ss at *;refine da Tryz.func46 Tryz.ntmps46 ?_;refine GW.wk (Wk.oY 3 1) ?_;simp only [nil_append];refine jg ?_;refine GL.wk (Wk.freeze (i:=1) rfl rfl rfl (Nat.zero_le _)) ?_;refine cr ?_;refine ae ?_;refine cm [2,0] (hE none 0) ?_;rintro _ _ ⟨rfl,eb,ec,rfl⟩;refine cW ?_;refine ae ?_;refine ab [0] (hS eb ec) ?_;refine cm [0] (hC eb ec) ?_;rintro _ _ ⟨rfl,fz,S,rfl⟩;refine cW ?_;exact av
theorem LV (p:Src) (hw:eh p<=1048576) {l:List T} (hg:Go.Im.Good p l) (L0:List Int) (hL:Trail p L0) :
  GF Tryz.prog 69 [.agg (ax p),ints L0] [] (ints (gw (pK p l L0))) []:=by
 obtain ⟨⟨a1,a2⟩,⟨b1,b2⟩,⟨c1,c2⟩,⟨d1,d2⟩⟩:=gR p;have hlen:=hg.len;have tZ:=hL.len
 have cQ:(L0.map fun i=>[GV.v (ii i)]).length=L0.length:=by simp
 have gZ:=P3 L0;obtain ⟨N,hN⟩:∃ N,p.fns.length=N:=⟨_,rfl⟩;refine da Tryz.func69 Tryz.ntmps69 ?_;refine GW.wk (Wk.oY 3 1) ?_;simp only [nil_append];refine ae ?_;refine GL.DY 0 rfl rfl rfl rfl gZ (by refine ⟨?_,?_⟩;(· rw [cQ];omega);(· rw [cQ];omega)) ?_;intro ad cp;rw [cQ];refine cr ?_;simp only [nil_append,length_nil,Nat.zero_add];refine ae ?_;refine GW.loop (fun s:Nat × List Int=>N - s.1) (fun s fr Γ=>∃ a c n S,fr=[.U,.U,.loc 1 0,.U,.U,.v (.slice a n c),.v (ii (s.1:Nat)),.U,.U,.U,.U,.U,.U,.U,.U,.U,.U,.U,.U,.U,.U,.U,.U,.U,.U,.U,.U,.U,.U,.U,.U,.U,.U,.U,.U,.U,.U,.U,.U,.U]/\Γ=[.vech 3 1 S (.slice a n c),.box 34 (ax p)]/\S.length=n/\S=bc s.2/\Trail p s.2/\s.1<=s.2.length/\mZ (nb p l) (N+1 - s.1) s.1 s.2=pK p l L0) (0,L0) ?_ ?_
 ·exact ⟨_,_,Wk.aC aq,ad,cp,_,_,rfl,rfl,cQ,rfl,hL,Nat.zero_le _,by rw [<-hN];rfl⟩
 rintro ⟨i,L⟩ _ _ ⟨a,c,n,S,rfl,rfl,mw,hS,hW,hi,he⟩;simp only at hS hW hi he;have pQ:=hW.len
 have rD:n=L.length:=by rw [<-mw,hS,eO]
 by_cases ak:i < L.length
 ·have hd:decide ((i:Int) < (n:Int))=true:=decide_eq_true ag;obtain ⟨x,hx⟩:∃ x,L[i]?=some x:=⟨L[i],by simp [ak]⟩
  have hrx:S[i]?=some [.v (ii x)]:=by rw [hS];unfold bc;rw [getElem?_map,hx];rfl
  have rG:=hW.rng x (mem_of_getElem? hx);obtain ⟨j,hj⟩:∃ j:Nat,x=(j:Int):=⟨x.toNat,by omega⟩;subst hj
  have oE:j < p.fns.length:=by omega
  obtain ⟨f,hf⟩:∃ f,p.fns[j]?=some f:=⟨p.fns[j],by simp [oE]⟩;obtain ⟨t,ht⟩:∃ t,l[j]?=some t:=⟨l[j]'ag,getElem?_eq_getElem _⟩;have hC:=HP p hw (hg.fn hf ht)
  have eJ:nb p l (j:Int)=bT p t:=by unfold nb;rw [Int.toNat_natCast,ht]
  have pS:mZ (nb p l) (N+1 - (i+1)) (i+1) (dK L (bT p t))=pK p l L0:=by
   rw [<-he,show N+1 - i=(N+1 - (i+1))+1 by omega,Ep hx,eJ]
  have td:=mM p t;have eR:=y7 p t
  have MX:((bT p t).map fun i=>[GV.v (ii i)]).length=(bT p t).length:=by simp
  have qt:i+1<=(dK L (bT p t)).length:=by
   obtain ⟨m,hm⟩:=vO (bT p t) L;rw [hm,length_append];omega
  generalize bT p t=ks at *;refine ae ?_;refine aI (aB 0 5 (.q 7 (.a 5 (.q 6 .nil)))) ?_;refine ar ?_;refine aE [] hC ?_;refine ae ?_;refine GW.range (ks.map fun i=>[GV.v (ii i)]).length (fun k fr Γ=>∃ a c n S,fr=[.U,.U,.loc 1 0,.U,.U,.v (.slice a n c),.v (ii (i:Nat)),.U,.U,.U,.U,.U,.U,.U,.U,.U,.U,.U,.U,.U,.U,.U,ints ks,.v (ii ((ks.map fun i=>[GV.v (ii i)]).length:Int)),.v (ii (k:Nat)),.U,.U,.U,.U,.U,.U,.U,.U,.U,.U,.U,.U,.U,.U,.U]/\Γ=[.vech 3 1 S (.slice a n c),.box 34 (ax p)]/\S.length=n/\S=bc (dK L (ks.take k))) ?_ ag ?_ ?_ ?_
  ·exact ⟨_,_,Wk.aC aq,a,c,n,S,rfl,rfl,mw,hS⟩
  ·rintro k _ _ ⟨a,c,n,S,rfl,rfl,_⟩;exact dS
  ·rintro k _ _ hk ⟨a,c,n,S,rfl,rfl,mw,hS⟩;rw [MX] at hk;obtain ⟨y,hy⟩:∃ y,ks[k]?=some y:=⟨ks[k],by simp [hk]⟩
   have hry:(ks.map fun i=>[GV.v (ii i)])[k]?=some [.v (ii y)]:=by rw [getElem?_map,hy];rfl
   have Ut:=hW.add (ks:=ks.take k) fun y hy=>td y (List.mem_of_mem_take hy)
   have XL:=Ut.len
   have AQ:GF Tryz.prog 56 [.sl 1 S,.v (ii y)] [] (.v (.bool ((dK L (ks.take k)).contains y))) []:=by
    rw [hS];exact yX (dK L (ks.take k)) y ag
   have Pq:=CK L ks k y hy
   have vg:n<=1048576:=by rw [<-mw,hS,eO];omega
   rw [Pq]
   cases hb:(dK L (ks.take k)).contains y with
   | true =>
    rw [hb] at AQ;rw [if_pos rfl];refine ae ?_;refine GL.borrow AQ (fun B K β w l hI hF=>gS (A:=[]) (C:=[_]) hI hF rfl rfl) ?_;refine cr ?_;refine ae ?_;exact ⟨rfl,rfl,_,_,Wk.aC aq,a,c,n,S,rfl,rfl,mw,hS⟩
   | false =>
    rw [hb] at AQ;rw [if_neg aJ]
    have w8:bc (dK L (ks.take k)++[y])=S++[[.v (ii y)]]:=by rw [hS];simp [bc]
    rw [w8];clear hS;refine ae ?_;refine GL.borrow AQ (fun B K β w l hI hF=>gS (A:=[]) (C:=[_]) hI hF rfl rfl) ?_;refine cr ?_;refine ae ?_;refine GL.jv 0 rfl rfl rfl rfl rfl rfl rfl rfl aY mc ?_;intro a2 c2;refine bI ?_;refine ae ?_;exact ⟨rfl,rfl,_,_,Wk.aC aq,a2,c2,_,_,rfl,rfl,by simp [mw],rfl⟩
  ·rintro _ _ ⟨a,c,n,S,rfl,rfl,mw,hS⟩;rw [MX,take_length] at hS;refine gE (bb ?_);refine ae ?_;exact ⟨(i+1,dK L ks),⟨_,_,Wk.aC aq,a,c,n,S,rfl,rfl,mw,hS,hW.add td,qt,pS⟩,by show N - (i+1) < N - i;omega⟩
 ·have hd:decide ((i:Int) < (n:Int))=false:=decide_eq_false ag;have hb:=Et (cs:=nb p l) (f:=N+1 - i) (i:=i) (L:=L) ag;rw [hb] at he;rw [<-he];have XK:=Lx L 3 a c ag;rw [<-rD,<-hS] at XK
  have ua:(bc (gw L)).length=n:=by rw [eO,nH,rD]
  refine bH ?_;refine ae ?_;refine ab [0] XK ?_;refine GW.wk (Wk.rm (t:=4) (i:=0) rfl rfl rfl) ?_;exact al
end Go.Xg
namespace Go.Im
open Go.Xp Go.Sp
theorem xm {l:List Int} {k:Nat} {x n:Int} (h:l[k]?=some x) (hc:(l.take k).contains n=false) (hx:(x==n)=false):(l.take (k+1)).contains n=false:=by
 rw [take_add_one,h];simp only [List.contains_eq_mem,decide_eq_false_iff_not,List.mem_append,not_or] at *;refine ⟨hc,?_⟩;simp only [Option.toList_some,mem_singleton];intro e;subst e;simp at hx
theorem EB {l:List Int} {k:Nat} {x n:Int} (h:l[k]?=some x) (hx:(x==n)=true):l.contains n=true:=by
 have:x=n:=by simpa using hx
 subst this;exact List.contains_iff_mem.2 (mem_of_getElem? h)
theorem S3 {l:List Int} {n:Int} (h:l.contains n=true):ir l n=l:=by unfold ir;rw [if_pos h]
theorem wW:∀ (ks l:List Int),(ks.foldl ir l).length<=l.length+ks.length
 | [],l=>by simp
 | k::r,l=>by
  have:=wW r (ir l k);have:=P7 (l:=l) (n:=k);rw [List.foldl_cons,length_cons];omega
end Go.Im
namespace Go.Xg
open Go.RowKit Go.Xw Go.Proofs
open Go.Xp (Nd T Ar aP az bL)
open Go.Sp (Src)
open Go.Im
attribute [local irreducible] GW GL GO YG GC GA aU aZ
theorem PH (l:List Int) (n:Int) (a:Option Addr) (c:Nat) (hl:l.length<=8388608) :
  GC Tryz.prog 134 [.v (.slice a l.length c),.v (ii n)] [.vech 3 1 (bc l) (.slice a l.length c)] fun g Δ =>
   (l.contains n=true/\g=.v (.slice a l.length c)/\Δ=[.vech 3 1 (bc l) (.slice a l.length c)]) \/
   (l.contains n=false/\∃ a' c',g=.v (.slice a' (ir l n).length c')/\Δ=[.vech 3 1 (bc l) (.slice a l.length c),.vech 3 1 (bc (ir l n)) (.slice a' (ir l n).length c')]):=by
 have pQ:=eO l;refine ai Tryz.func134 Tryz.ntmps134 ?_;refine kJ ?_;refine GL.qJ (t:=9) rfl rfl rfl rfl ?_;intro a1 c1;refine bI ?_;refine ae ?_;refine GW.range l.length (fun k fr Γ=>∃ a1 c1 m dn S,fr=[.v (.slice a l.length c),.v (ii n),.U,.U,.U,.v (.slice a1 m c1),.v (.bool dn),.U,.U,.U,.v (.slice a l.length c),.v (ii (l.length:Int)),.v (ii (k:Nat)),.U,.U,.U,.U,.U,.U,.U,.U,.U,.U,.U,.U,.U,.U,.U,.U,.U,.U,.U,.U,.U,.U,.U,.U,.U,.U,.U,.U,.U,.U]/\Γ=[.vech 3 1 (bc l) (.slice a l.length c),.vech 3 1 S (.slice a1 m c1)]/\S.length=m/\S=bc (jl l n k).1/\dn=(jl l n k).2/\(l.take k).contains n=false) ?_ ag ?_ ?_ ?_
 ·exact ⟨_,_,Wk.aC aq,a1,c1,0,false,[],rfl,rfl,rfl,rfl,rfl,rfl⟩
 ·rintro k _ _ ⟨a1,c1,m,dn,S,rfl,rfl,_⟩;exact dS
 ·rintro k _ _ ak ⟨a1,c1,m,dn,S,rfl,rfl,wX,hS,Io,hc⟩;obtain ⟨x,hx⟩:∃ x,l[k]?=some x:=⟨l[k],by simp [ak]⟩
  have hr:(bc l)[k]?=some [.v (ii x)]:=by unfold bc;rw [getElem?_map,hx];rfl
  have eR:k < (bc l).length:=by omega
  have hm:m<=8388609:=by
   have:=(F5 l n k).1;rw [<-wX,hS,eO];omega
  have pS:=DB (n:=n) hx
  cases h1:(x==n) with
  | true =>
   refine ae ?_;refine ic ?_;exact rY (n:=1) rfl cj rfl (Nat.le_of_ble_eq_true rfl) rfl rfl (.inl ⟨EB hx h1,rfl,rfl⟩)
  | false =>
   have gV:=xm hx hc h1
   cases dn with
   | true =>
    have e:jl l n (k+1)=((jl l n k).1++[x],true):=by rw [pS];unfold ov;rw [<-Io];rfl
    have w8:bc (jl l n (k+1)).1=S++[[.v (ii x)]]:=by rw [e,hS];simp [bc]
    clear hS;refine ae ?_;refine GL.jv 1 rfl rfl rfl rfl rfl rfl rfl rfl aY mc ?_;intro a2 c2;refine bI ?_;refine ae ?_;exact ⟨rfl,rfl,_,_,Wk.aC aq,a2,c2,_,true,_,rfl,rfl,by simp [wX],w8.symm,by rw [e],gV⟩
   | false =>
    cases h3:decide (n < x) with
    | true =>
     have e:jl l n (k+1)=((jl l n k).1++[n]++[x],true):=by rw [pS];unfold ov;rw [<-Io,h3];rfl
     have w8:bc (jl l n (k+1)).1=(S++[[.v (ii n)]])++[[.v (ii x)]]:=by rw [e,hS];simp [bc]
     have hSl:(S++[[GV.v (ii n)]]).length=m+1:=by rw [length_append,wX];rfl
     clear hS;refine ae ?_;refine GL.jv 1 rfl rfl rfl rfl rfl rfl rfl rfl aY mc ?_;intro a2 c2;refine bI ?_;refine ae ?_;refine GL.jv 1 rfl rfl rfl rfl rfl rfl rfl rfl aY mc ?_;intro a3 c3;refine bI ?_;refine ae ?_;exact ⟨rfl,rfl,_,_,Wk.aC aq,a3,c3,_,true,_,rfl,rfl,by simp [wX],w8.symm,by rw [e],gV⟩
    | false =>
     have e:jl l n (k+1)=((jl l n k).1++[x],false):=by rw [pS];unfold ov;rw [<-Io,h3];rfl
     have w8:bc (jl l n (k+1)).1=S++[[.v (ii x)]]:=by rw [e,hS];simp [bc]
     clear hS;refine ae ?_;refine GL.jv 1 rfl rfl rfl rfl rfl rfl rfl rfl aY mc ?_;intro a2 c2;refine bI ?_;refine ae ?_;exact ⟨rfl,rfl,_,_,Wk.aC aq,a2,c2,_,false,_,rfl,rfl,by simp [wX],w8.symm,by rw [e],gV⟩
 ·rintro _ _ ⟨a1,c1,m,dn,S,rfl,rfl,wX,hS,Io,hc⟩;rw [take_length] at hc;have oW:=P8 l n hc
  have hm:m<=8388609:=by
   have:=(F5 l n l.length).1;rw [<-wX,hS,eO];omega
  refine bb ?_
  cases dn with
  | true =>
   rw [if_pos Io.symm] at oW
   have e:m=(ir l n).length:=by rw [<-wX,hS,eO,oW]
   subst e;rw [oW] at hS;subst hS;refine ae ?_;refine ic ?_;exact rY (n:=2) rfl cj rfl (Nat.le_of_ble_eq_true rfl) rfl rfl (.inr ⟨hc,a1,c1,rfl,rfl⟩)
  | false =>
   rw [if_neg (by rw [<-Io];decide)] at oW
   have w8:bc (ir l n)=S++[[.v (ii n)]]:=by rw [<-oW,hS];simp [bc]
   have e:(ir l n).length=m+1:=by rw [<-eO,w8,length_append,wX];rfl
   rw [w8,e];clear hS;subst wX;refine ae ?_;refine GL.jv 1 rfl rfl rfl rfl rfl rfl rfl rfl aY mc ?_;intro a2 c2;refine bI ?_;refine ae ?_;refine ic ?_;exact rY (n:=2) rfl cj rfl (Nat.le_of_ble_eq_true rfl) rfl rfl (.inr ⟨hc,a2,c2,rfl,rfl⟩)
end Go.Xg
namespace Go.Im
open Go.Xp Go.Sp
def lE (l ks:List Int):List Int:=ks.foldl ir l
theorem KC (l a b:List Int):lE l (a++b)=lE (lE l a) b:=List.foldl_append
theorem KD (l ks:List Int):(lE l ks).length<=l.length+ks.length:=wW ks l
theorem LQ (p:Src) {l:List T} {k:Nat} {u:T} (h:l[k]?=some u) (o:List Int) (n:Nd):lE o (tU p n++gY p (l.take (k+1)))=lE (lE o (tU p n++gY p (l.take k))) (oz p u):=by
 rw [LR p h,<-List.append_assoc,KC]
end Go.Im
namespace Go.Xg
open Go.RowKit Go.Xw Go.Proofs
open Go.Xp (Nd T Ar aP az bL)
open Go.Sp (Src)
open Go.Im
attribute [local irreducible] GW GL GO YG GC GA aU aZ
def TD (l r:List Int) (a:Option Addr) (c:Nat) (g:GV) (Δ:List Ob):Prop :=
 (r=l/\g=.v (.slice a l.length c)/\Δ=[.vech 3 1 (bc l) (.slice a l.length c)]) \/
 (∃ a' c',g=.v (.slice a' r.length c')/\Δ=[.vech 3 1 (bc l) (.slice a l.length c),.vech 3 1 (bc r) (.slice a' r.length c')])
theorem Nq (l:List Int) (n:Int) (a:Option Addr) (c:Nat) (hl:l.length<=8388608) :
  GC Tryz.prog 134 [.v (.slice a l.length c),.v (ii n)] [.vech 3 1 (bc l) (.slice a l.length c)] (TD l (ir l n) a c):=by
 refine (PH l n a c hl).mono fun g Δ h=>?_
 rcases h with ⟨h1,h2,h3⟩ | ⟨h1,a',c',h2,h3⟩
 ·exact .inl ⟨S3 h1,h2,h3⟩
 ·exact .inr ⟨a',c',h2,h3⟩
theorem Kg (p:Src) (iK:p.fns.length<=1099511627776):∀ (N:Nat) (t:T),aP t<=N->∀ (l:List Int) (a:Option Addr) (c:Nat),l.length+aP t<=8388608 ->
  GC Tryz.prog 98 [.v (.slice a l.length c),.agg (ax p),.agg (cT t)] [.vech 3 1 (bc l) (.slice a l.length c)] (TD l (lE l (oz p t)) a c):=by
 intro N
 induction N with
 | zero=>intro t h;have:=km t;omega
 | succ N ih =>
 intro t hN l a c my
 cases t with
 | mk n ks =>
 rw [Go.Xp.aP] at hN my;have pQ:=bL ks;have eX:(aR ks).length=ks.length:=aS ks;have hF:=B8 p n.s iK;have e0:cD (fun x:Go.Sp.Fn=>x.name==n.s) p.fns=nU p n.s:=rfl;rw [e0] at hF;have hP:=Nq l (nU p n.s) a c ag
 have gV:tU p n=if n.kind=4/\0<=nU p n.s then [nU p n.s] else []:=rfl
 rw [oz];generalize nU p n.s=z at *;refine ai Tryz.func98 Tryz.ntmps98 ?_;refine ab [] hF ?_
 refine GL.WO (fun fr Γ=>∃ h L,fr=[.v h,.U,.U,.U,.loc 1 0,.loc 2 0,.U,.U,.U,.U,.U,.U,.U,.U,.U,.U,.U,.U,.U,.U,.U,.U,.U,.U,.U,.U,.U,.U,.U,.U,.U,.U,.U,.U,.U,.U,.U,.U,.U]/\L=lE l (tU p n) /\
  ((L=l/\h=.slice a l.length c/\Γ=[.vech 3 1 (bc l) (.slice a l.length c),.box 34 (ax p),.box 94 (cT (.mk n ks))]) \/
   (∃ a' c',h=.slice a' L.length c'/\Γ=[.vech 3 1 (bc l) (.slice a l.length c),.box 34 (ax p),.box 94 (cT (.mk n ks)),.vech 3 1 (bc L) (.slice a' L.length c')]))) ?_ ?_
 ·cases q4:(n.kind==4) with
  | false =>
   rw [if_neg (fun h=>by rw [h.1] at q4;cases q4)] at gV;refine ae ?_;exact ⟨_,_,Wk.aC aq,_,l,rfl,by rw [gV];rfl,.inl ⟨rfl,rfl,rfl⟩⟩
  | true =>
   cases q5:decide ((0:Int)<=z) with
   | false =>
    rw [if_neg (fun h=>by have:=of_decide_eq_false q5;exact this h.2)] at gV;refine ae ?_;exact ⟨_,_,Wk.aC aq,_,l,rfl,by rw [gV];rfl,.inl ⟨rfl,rfl,rfl⟩⟩
   | true =>
    rw [if_pos ⟨by simpa using q4,by simpa using q5⟩] at gV;refine ae ?_;refine cm [0] hP ?_;rintro _ _ (⟨h1,rfl,rfl⟩ | ⟨a',c',rfl,rfl⟩)
    ·refine cW ?_;refine ae ?_;exact ⟨_,_,Wk.aC aq,_,l,rfl,by rw [gV];exact h1.symm,.inl ⟨rfl,rfl,rfl⟩⟩
    ·refine cW ?_;refine ae ?_;exact ⟨_,_,Wk.aC aq,_,ir l z,rfl,by rw [gV];rfl,.inr ⟨a',c',rfl,rfl⟩⟩
 ·rintro _ _ ⟨h,L0,rfl,hL0,Il⟩;have aah:=BR p n
  rcases Il with ⟨e1,rfl,rfl⟩ | ⟨a0,c0,rfl,rfl⟩
  all_goals
   refine ae ?_
   refine GW.range (aR ks).length (fun k fr Γ=>∃ h L,fr=[.v h,.U,.U,.U,.loc 1 0,.loc 2 0,.U,.U,.U,.U,.U,.U,.U,.U,.U,.U,.U,.U,.U,.U,.U,.U,.U,.U,.U,.U,.U,.sl 6 (aR ks),.v (ii ((aR ks).length:Int)),.v (ii (k:Nat)),.U,.U,.U,.U,.U,.U,.U,.U,.U]/\L=lE l (tU p n++gY p (ks.take k)) /\
    ((L=l/\h=.slice a l.length c/\Γ=[.vech 3 1 (bc l) (.slice a l.length c),.box 34 (ax p),.box 94 (cT (.mk n ks))]) \/
     (∃ a' c',h=.slice a' L.length c'/\Γ=[.vech 3 1 (bc l) (.slice a l.length c),.box 34 (ax p),.box 94 (cT (.mk n ks)),.vech 3 1 (bc L) (.slice a' L.length c')]))) ?_ ag ?_ ?_ ?_
   ·exact ⟨_,_,Wk.aC aq,_,L0,rfl,by rw [List.take_zero,gY,append_nil];exact hL0,by first | exact .inl ⟨e1,rfl,rfl⟩ | exact .inr ⟨_,_,rfl,rfl⟩⟩
   ·rintro k _ _ ⟨h,L,rfl,_,Il⟩;exact dS
   ·rintro k _ _ ak ⟨h,L,rfl,hL,Il⟩;rw [eX] at ak;obtain ⟨u,hu⟩:∃ u,ks[k]?=some u:=⟨ks[k],by simp [ak]⟩;have hr:=cU hu;have cS:=tI hu
    have hLl:L.length<=l.length+1+az (ks.take k):=by
     have:=KD l (tU p n++gY p (ks.take k));have:=Ez p (ks.take k);rw [length_append] at *;rw [hL];omega
    have pS:=LQ p hu l n;rw [<-hL] at pS;rw [pS]
    rcases Il with ⟨e2,rfl,rfl⟩ | ⟨a',c',rfl,rfl⟩
    ·subst e2;have hi:=ih u ag L a c ag;generalize lE L (oz p u)=L2 at *;refine ae ?_;refine cm [0] hi ?_;rintro _ _ (⟨h1,rfl,rfl⟩ | ⟨a2,c2,rfl,rfl⟩)
     ·refine cW ?_;refine ae ?_;exact ⟨rfl,rfl,_,_,(Wk.cut (n:=3) (Nat.le_of_ble_eq_true rfl) rfl).trans (Wk.aC aq),_,L2,rfl,rfl,.inl ⟨h1,rfl,rfl⟩⟩
     ·refine cW ?_;refine ae ?_;exact ⟨rfl,rfl,_,_,(Wk.keep (n:=3) (j:=4) (Nat.le_of_ble_eq_true rfl) aJ rfl rfl rfl).trans (Wk.aC aq),_,L2,rfl,rfl,.inr ⟨a2,c2,rfl,rfl⟩⟩
    ·have hi:=ih u ag L a' c' ag;generalize lE L (oz p u)=L2 at *;refine ae ?_;refine cm [3] hi ?_;rintro _ _ (⟨rfl,rfl,rfl⟩ | ⟨a2,c2,rfl,rfl⟩)
     ·refine cW ?_;refine ae ?_;exact ⟨rfl,rfl,_,_,(Wk.cut (n:=4) (Nat.le_of_ble_eq_true rfl) rfl).trans (Wk.aC aq),_,_,rfl,rfl,.inr ⟨a',c',rfl,rfl⟩⟩
     ·refine cW ?_;refine ae ?_;exact ⟨rfl,rfl,_,_,(Wk.keep (n:=3) (j:=5) (Nat.le_of_ble_eq_true rfl) aJ rfl rfl rfl).trans (Wk.aC aq),_,L2,rfl,rfl,.inr ⟨a2,c2,rfl,rfl⟩⟩
   ·rintro _ _ ⟨h,L,rfl,hL,Il⟩;rw [eX,take_length] at hL;rw [<-hL];refine bb ?_
    rcases Il with ⟨e2,rfl,rfl⟩ | ⟨a',c',rfl,rfl⟩
    ·refine ae ?_;refine ic ?_;exact rY (n:=1) rfl cj rfl (Nat.le_of_ble_eq_true rfl) rfl rfl (.inl ⟨e2,rfl,rfl⟩)
    ·refine GW.wk (Wk.keep (n:=1) (j:=3) (Nat.le_refl _) aJ rfl rfl rfl) ?_;refine GW.Ma (b7:=[.v (.slice a' L.length c'),.U,.U,.U,.U,.U,.U,.U,.U,.U,.U,.U,.U,.U,.U,.U,.U,.U,.U,.U,.U,.U,.U,.U,.U,.U,.U,.U,.U,.U,.U,.U,.U,.U,.U,.U,.U,.U,.U]) (aK:=[.vech 3 1 (bc l) (.slice a l.length c),.vech 3 1 (bc L) (.slice a' L.length c')]) aq rfl ?_;refine ae ?_;refine ic ?_;exact rY (n:=2) rfl cj rfl (Nat.le_of_ble_eq_true rfl) rfl rfl (.inr ⟨a',c',rfl,rfl⟩)
end Go.Xg
namespace Go.Im
open Go.Xp Go.Sp
theorem KE (ks:List Int):lE [] ks=oL ks:=rfl
theorem yB {p:Src} {i:Nat} (hg:ig p=true) (hi:i < p.fns.length):qI p (i:Int)=true:=by
 unfold qI;rw [hg,decide_eq_true (show (0:Int)<=(i:Int) by omega),decide_eq_true (show (i:Int) < (p.fns.length:Int) by omega)];rfl
end Go.Im
namespace Go.Xg
open Go.RowKit Go.Xw Go.Proofs
open Go.Xp (Nd T Ar aP az bL)
open Go.Sp (Src)
open Go.Im
attribute [local irreducible] GW GL GO YG GC GA aU aZ
theorem AA (p:Src) (hw:eh p<=1048576) {l:List T} {i:Nat} {f:Go.Sp.Fn} {t:T} (hg:ig p=true) (h:sK p l i f t) :
  GC Tryz.prog 40 [.agg (ax p),.v (ii (i:Nat))] [] fun g Δ=>∃ a c,g=.v (.slice a (bT p t).length c)/\Δ=[.vech 3 1 (bc (bT p t)) (.slice a (bT p t).length c)]:=by
 obtain ⟨⟨a1,a2⟩,⟨b1,b2⟩,⟨c1,c2⟩,⟨d1,d2⟩⟩:=gR p;have hG:=Ii p hw;rw [hg] at hG
 have jK:(p.fns.map aw).length=p.fns.length:=by simp
 have hi:=(List.getElem?_eq_some_iff.1 h.gf).1
 have hr:(p.fns.map aw)[i]?=some (aw f):=by rw [getElem?_map,h.gf];rfl
 have q2:decide ((i:Int) < 0)=false:=decide_eq_false ag;have q3:decide (((p.fns.map aw).length:Int)<=(i:Int))=false:=decide_eq_false (by rw [jK];omega);have hS:=VV p (fun n hn=>by have:=(d2 n hn).2;omega) f t h.body h.st
 have hC:=fun a c=>Kg p ag _ t (Nat.le_refl _) [] a c (by have:=h.sz;show 0+_<=_;omega)
 rw [KE] at hC;unfold bT;unfold aw at hr;generalize oL (oz p t)=rr at *;refine ai Tryz.func40 Tryz.ntmps40 ?_;refine ab [] hG ?_;refine aI (aB 1 8 (.f 0 (.a 9 (.a 10 (.q 11 .nil))) 9 (.a 0 (.a 10 (.q 11 .nil))))) ?_;refine ar ?_;refine GO.fork ?_ ?_
 ·refine OA rfl rfl (GL.RB rfl rfl rfl rfl ?_);refine GL.qJ (t:=19) rfl rfl rfl rfl ?_;intro a1 c1;refine dy ?_;refine ar ?_;refine aE [] hS ?_;refine OA rfl rfl ?_;refine cm [1] (hC a1 c1) ?_;rintro _ _ (⟨h1,rfl,rfl⟩ | ⟨a',c',rfl,rfl⟩)
  ·refine ⟨by simp,?_⟩;refine dy ?_;subst h1;refine bf ?_;refine ic ?_;refine oS 1 rfl cj rfl ?_ ?_
   ·intro x hx;rw [List.mem_singleton.1 hx];rfl
   ·exact ⟨_,_,rfl,rfl⟩
  ·refine ⟨by simp,?_⟩;refine dy ?_;refine bf ?_;refine ic ?_;refine oS 2 rfl cj rfl ?_ ?_
   ·intro x hx;rw [List.mem_singleton.1 hx];rfl
   ·exact ⟨_,_,rfl,rfl⟩
 ·refine aE [] hS ?_;refine OA rfl rfl (GL.RB rfl rfl rfl rfl ?_);refine GL.qJ (t:=19) rfl rfl rfl rfl ?_;intro a1 c1;refine dy ?_;refine ar ?_;refine OA rfl rfl ?_;refine cm [1] (hC a1 c1) ?_;rintro _ _ (⟨h1,rfl,rfl⟩ | ⟨a',c',rfl,rfl⟩)
  ·refine ⟨by simp,?_⟩;refine dy ?_;subst h1;refine bf ?_;refine ic ?_;refine oS 1 rfl cj rfl ?_ ?_
   ·intro x hx;rw [List.mem_singleton.1 hx];rfl
   ·exact ⟨_,_,rfl,rfl⟩
  ·refine ⟨by simp,?_⟩;refine dy ?_;refine bf ?_;refine ic ?_;refine oS 2 rfl cj rfl ?_ ?_
   ·intro x hx;rw [List.mem_singleton.1 hx];rfl
   ·exact ⟨_,_,rfl,rfl⟩
theorem uM (p:Src) (t:T):Trail p (bT p t):=⟨tB (nR p t),mM p t⟩
theorem Nr (p:Src) (hw:eh p<=1048576) (lu:ig p=true) {l:List T} {i0:Nat} {f0:Go.Sp.Fn} {t0:T} (h0:sK p l i0 f0 t0) :
  GF Tryz.prog 52 [.agg (ax p),.v (ii (i0:Nat))] [] (ints (pK p l (bT p t0))) []:=by
 obtain ⟨⟨a1,a2⟩,⟨b1,b2⟩,⟨c1,c2⟩,⟨d1,d2⟩⟩:=gR p;have hlen:=h0.good.len;have hg:=h0.good;have hL:=uM p t0;have tZ:=hL.len;have hC0:=AA p hw lu h0;generalize bT p t0=L0 at *;obtain ⟨N,hN⟩:∃ N,p.fns.length=N:=⟨_,rfl⟩;have xI:=eO L0;refine ai Tryz.func52 Tryz.ntmps52 ?_;refine cm [] hC0 ?_;rintro _ _ ⟨ad,cp,rfl,rfl⟩;refine cW ?_;refine ae ?_;refine GW.loop (fun s:Nat × List Int=>N - s.1) (fun s fr Γ=>∃ a c n S,fr=[.U,.U,.loc 0 0,.U,.U,.v (.slice a n c),.v (ii (s.1:Nat)),.U,.U,.U,.U,.U,.U,.U,.U,.U,.U,.U,.U,.U,.U,.U,.U,.U,.U,.U,.U,.U,.U,.U,.U,.U,.U,.U,.U,.U,.U,.U,.U]/\Γ=[.box 34 (ax p),.vech 3 1 S (.slice a n c)]/\S.length=n/\S=bc s.2/\Trail p s.2/\s.1<=s.2.length/\mZ (nb p l) (N+1 - s.1) s.1 s.2=pK p l L0) (0,L0) ?_ ?_
 ·exact ⟨_,_,Wk.aC aq,ad,cp,_,_,rfl,rfl,xI,rfl,hL,Nat.zero_le _,by rw [<-hN];rfl⟩
 rintro ⟨i,L⟩ _ _ ⟨a,c,n,S,rfl,rfl,mw,hS,hW,hi,he⟩;simp only at hS hW hi he;have pQ:=hW.len
 have rD:n=L.length:=by rw [<-mw,hS,eO]
 by_cases ak:i < L.length
 ·have hd:decide ((i:Int) < (n:Int))=true:=decide_eq_true ag;obtain ⟨x,hx⟩:∃ x,L[i]?=some x:=⟨L[i],by simp [ak]⟩
  have hrx:S[i]?=some [.v (ii x)]:=by rw [hS];unfold bc;rw [getElem?_map,hx];rfl
  have rG:=hW.rng x (mem_of_getElem? hx);obtain ⟨j,hj⟩:∃ j:Nat,x=(j:Int):=⟨x.toNat,by omega⟩;subst hj
  have oE:j < p.fns.length:=by omega
  obtain ⟨f,hf⟩:∃ f,p.fns[j]?=some f:=⟨p.fns[j],by simp [oE]⟩;obtain ⟨t,ht⟩:∃ t,l[j]?=some t:=⟨l[j]'ag,getElem?_eq_getElem _⟩;have hC:=AA p hw lu (hg.fn hf ht)
  have eJ:nb p l (j:Int)=bT p t:=by unfold nb;rw [Int.toNat_natCast,ht]
  have pS:mZ (nb p l) (N+1 - (i+1)) (i+1) (dK L (bT p t))=pK p l L0:=by
   rw [<-he,show N+1 - i=(N+1 - (i+1))+1 by omega,Ep hx,eJ]
  have td:=mM p t;have eR:=y7 p t
  have MX:((bT p t).map fun i=>[GV.v (ii i)]).length=(bT p t).length:=by simp
  have qt:i+1<=(dK L (bT p t)).length:=by
   obtain ⟨m,hm⟩:=vO (bT p t) L;rw [hm,length_append];omega
  generalize bT p t=ks at *;refine ae ?_;refine aI (aB 0 5 (.q 7 (.a 5 (.q 6 .nil)))) ?_;refine ar ?_;refine OA rfl rfl ?_;refine cm [] hC ?_;rintro _ _ ⟨a2,c2,rfl,rfl⟩;refine ⟨by simp,?_⟩;refine GL.wk (Wk.rm (t:=23) (i:=2) rfl rfl rfl) ?_;refine dy ?_;refine bf ?_;refine GW.range (ks.map fun i=>[GV.v (ii i)]).length (fun k fr Γ=>∃ a c n S B,fr=[.U,.U,.loc 0 0,.U,.U,.v (.slice a n c),.v (ii (i:Nat)),.U,.U,.U,.U,.U,.U,.U,.U,.U,.U,.U,.U,.U,.U,.U,.U,ints ks,.v (ii ((ks.map fun i=>[GV.v (ii i)]).length:Int)),.v (ii (k:Nat)),.U,.U,.U,.U,.U,.U,.U,.U,.U,.U,.U,.U,.U]/\Γ=[.box 34 (ax p),.vech 3 1 S (.slice a n c),B]/\S.length=n/\S=bc (dK L (ks.take k))) ?_ ag ?_ ?_ ?_
  ·exact ⟨_,_,Wk.aC aq,a,c,n,S,_,rfl,rfl,mw,hS⟩
  ·rintro k _ _ ⟨a,c,n,S,B,rfl,rfl,_⟩;exact dS
  ·rintro k _ _ hk ⟨a,c,n,S,B,rfl,rfl,mw,hS⟩;rw [MX] at hk;obtain ⟨y,hy⟩:∃ y,ks[k]?=some y:=⟨ks[k],by simp [hk]⟩
   have hry:(ks.map fun i=>[GV.v (ii i)])[k]?=some [.v (ii y)]:=by rw [getElem?_map,hy];rfl
   have Ut:=hW.add (ks:=ks.take k) fun y hy=>td y (List.mem_of_mem_take hy)
   have XL:=Ut.len
   have AQ:GF Tryz.prog 51 [.sl 1 S,.v (ii y)] [] (.v (.bool ((dK L (ks.take k)).contains y))) []:=by
    rw [hS];exact FC (dK L (ks.take k)) y ag
   have Pq:=CK L ks k y hy
   have vg:n<=1048576:=by rw [<-mw,hS,eO];omega
   rw [Pq]
   cases hb:(dK L (ks.take k)).contains y with
   | true =>
    rw [hb] at AQ;rw [if_pos rfl];refine ae ?_;refine GL.borrow AQ (fun B K β w l hI hF=>gS (A:=[_]) (C:=[_]) hI hF rfl rfl) ?_;refine cr ?_;refine ae ?_;exact ⟨rfl,rfl,_,_,Wk.aC aq,a,c,n,S,B,rfl,rfl,mw,hS⟩
   | false =>
    rw [hb] at AQ;rw [if_neg aJ]
    have w8:bc (dK L (ks.take k)++[y])=S++[[.v (ii y)]]:=by rw [hS];simp [bc]
    rw [w8];clear hS;refine ae ?_;refine GL.borrow AQ (fun B K β w l hI hF=>gS (A:=[_]) (C:=[_]) hI hF rfl rfl) ?_;refine cr ?_;refine ae ?_;refine GL.jv 1 rfl rfl rfl rfl rfl rfl rfl rfl aY mc ?_;intro a2 c2;refine bI ?_;refine ae ?_;exact ⟨rfl,rfl,_,_,Wk.aC aq,a2,c2,_,_,B,rfl,rfl,by simp [mw],rfl⟩
  ·rintro _ _ ⟨a,c,n,S,B,rfl,rfl,mw,hS⟩;rw [MX,take_length] at hS;refine gE (bb ?_);refine ae ?_;exact ⟨(i+1,dK L ks),⟨_,_,(Wk.cut (n:=2) (Nat.zero_le _) rfl).trans (Wk.aC aq),a,c,n,S,rfl,rfl,mw,hS,hW.add td,qt,pS⟩,by show N - (i+1) < N - i;omega⟩
 ·have hd:decide ((i:Int) < (n:Int))=false:=decide_eq_false ag;have hb:=Et (cs:=nb p l) (f:=N+1 - i) (i:=i) (L:=L) ag;rw [hb] at he;rw [<-he];subst hS;refine bH ?_;refine ae ?_;refine GW.wk (Wk.rm (t:=4) (i:=1) rfl rfl rfl) ?_;exact al
end Go.Xg
namespace Go.Im
open Go.Xp Go.Sp
def b6 (p:Src) (fn:Int):List Int:=if qI p fn=true then (match ji p.nodes p.fns 0 [] with | some (l,_)=>pK p l (nb p l fn) | none=>[]) else []
theorem xv {p:Src} {l:List T} {i:Nat} {f:Go.Sp.Fn} {t:T} (hh:qI p (i:Int)=true) (h:sK p l i f t):b6 p (i:Int)=pK p l (bT p t):=by
 unfold b6;rw [if_pos hh,h.good.Ew];simp only;unfold nb;rw [Int.toNat_natCast,h.gt]
theorem zN {p:Src} {fn:Int} (h:qI p fn=false):b6 p fn=[]:=by unfold b6;rw [h];rfl
theorem Mq {p:Src} {fn:Int}:Trail p (b6 p fn):=by
 cases hh:qI p fn with
 | false=>rw [zN hh];exact ⟨List.Pairwise.nil,by simp⟩
 | true =>
  obtain ⟨i,l,f,t,rfl,h⟩:=yA hh;rw [xv hh h];exact BM _ _ _ ⟨tB (nR p t),mM p t⟩
def mj (p:Src) (a b:Int):Bool:=(b6 p a).contains b
theorem Gl (l:List Int) (x:Int):(gw l).contains x=l.contains x:=by
 cases h:l.contains x with
 | true=>exact List.contains_iff_mem.2 (wL.2 (List.contains_iff_mem.1 h))
 | false =>
  cases h2:(gw l).contains x with
  | false=>rfl
  | true=>rw [List.contains_iff_mem.2 (wL.1 (List.contains_iff_mem.1 h2))] at h;cases h
end Go.Im
namespace Go.Xg
open Go.RowKit Go.Xw Go.Proofs
open Go.Xp (Nd T Ar aP az bL)
open Go.Sp (Src)
open Go.Im
attribute [local irreducible] GW GL GO YG GC GA aU aZ
theorem Sc (p:Src) (hw:eh p<=1048576) (lu:ig p=true) {l:List T} {i:Nat} {f:Go.Sp.Fn} {t:T} (h:sK p l i f t) (z2:Int) :
  GF Tryz.prog 54 [.agg (ax p),.v (ii (i:Nat)),.v (ii z2)] [] (.v (.bool (mj p (i:Int) z2))) []:=by
 obtain ⟨⟨a1,a2⟩,⟨b1,b2⟩,⟨c1,c2⟩,⟨d1,d2⟩⟩:=gR p;have hi:=(List.getElem?_eq_some_iff.1 h.gf).1;have hC:=HP p hw h;have hT:=LV p hw h.good (bT p t) (uM p t);have XL:=(BM (p:=p) (l:=l) (p.fns.length+1) 0 _ (uM p t)).len
 have hH:GF Tryz.prog 56 [ints (gw (pK p l (bT p t))),.v (ii z2)] [] (.v (.bool (mj p (i:Int) z2))) []:=by
  have:=yX (gw (pK p l (bT p t))) z2 (by rw [nH];unfold pK;omega);rw [Gl] at this;unfold mj;rw [xv (yB lu hi) h];exact this
 generalize gw (pK p l (bT p t))=L at *;generalize bT p t=ks at *;generalize mj p (i:Int) z2=b at *;refine ai Tryz.func54 Tryz.ntmps54 ?_;refine aI (aB 0 3 (.q 5 (.a 3 (.a 4 (.a 6 (.q 7 .nil)))))) ?_;refine ar ?_;refine aE [] hC ?_;refine aE [] hT ?_;refine aE [] hH ?_;exact av
end Go.Xg
namespace Go.Im
open Go.Xp Go.Sp
end Go.Im
namespace Go.Xg
open Go.RowKit Go.Xw Go.Proofs
open Go.Xp (Nd T Ar aP az bL)
open Go.Sp (Src)
open Go.Im
attribute [local irreducible] GW GL GO YG GC GA aU aZ
end Go.Xg
namespace Go.Im
open Go.Xp Go.Sp
theorem Si (p:Src) (l:List T) (x:Int):Trail p (nb p l x):=by
 refine ⟨?_,BS p l x⟩;unfold nb;split
 ·exact tB (nR p _)
 ·exact List.Pairwise.nil
theorem C0 (p:Src):Xu (b6 p):=by
 intro a b hb c hc
 have ha:qI p a=true:=by
  cases h:qI p a with
  | true=>rfl
  | false=>rw [zN h] at hb;cases hb
 have bq:qI p b=true:=by
  cases h:qI p b with
  | true=>rfl
  | false=>rw [zN h] at hc;cases hc
 obtain ⟨i,l,f,t,rfl,h⟩:=yA ha
 have hF:∀ x,qI p x=true->b6 p x=pK p l (nb p l x):=by
  intro x hx;unfold b6;rw [if_pos hx,h.good.Ew]
 rw [hF _ ha] at hb |-;rw [hF _ bq] at hc;have hw:=Si p l (i:Int);have zg:=AE (nb p l) p.fns.length (BS p l) (p.fns.length+1) 0 (nb p l (i:Int)) hw.nodup hw.rng (by omega) (fun j x hj=>by omega);exact CN (nb p l) (fun x=>x∈pK p l (nb p l (i:Int))) (fun x hx y hy=>zg x hx y hy) _ 0 (nb p l b) (fun x hx=>zg b hb x hx) c hc
def iQ (p:Src):List (List Int):=if ig p=true then fo (b6 p) p.fns.length else []
theorem JD {p:Src} {a b:Int} (h:a≠b):(mj p a b&&mj p b a)=fG (b6 p) a b:=by
 unfold fG mj;rw [show (a==b)=false from by simpa using h,Bool.false_or]
end Go.Im
namespace Go.Xg
open Go.RowKit Go.Xw Go.Proofs
open Go.Xp (Nd T Ar aP az bL)
open Go.Sp (Src)
open Go.Im
attribute [local irreducible] GW GL GO YG GC GA aU aZ
theorem Mr (p:Src) (hw:eh p<=1048576) (lu:ig p=true) {i:Nat} (hi:i < p.fns.length) :
  GF Tryz.prog 52 [.agg (ax p),.v (ii (i:Nat))] [] (ints (b6 p (i:Int))) []:=by
 obtain ⟨i',l,f,t,he,h⟩:=yA (yB lu hi)
 have:i'=i:=by omega
 subst this;rw [xv (yB lu hi) h];exact Nr p hw lu h
theorem Pc (p:Src) (x:Int):(b6 p x).length<=p.fns.length:=(Mq (p:=p) (fn:=x)).len
theorem CZ (p:Src) (hw:eh p<=1048576) (a b:Int):GF Tryz.prog 51 [ints (b6 p a),.v (ii b)] [] (.v (.bool ((b6 p a).contains b))) []:=by
 obtain ⟨⟨a1,a2⟩,⟨b1,b2⟩,⟨c1,c2⟩,⟨d1,d2⟩⟩:=gR p;have:=Pc p a;exact FC (b6 p a) b ag
theorem Ns (p:Src) (hw:eh p<=1048576) (lu:ig p=true) {a b:Nat} (ha:a < p.fns.length) (hb:b < p.fns.length) :
  GF Tryz.prog 61 [.agg (ax p),.v (ii (a:Nat)),.v (ii (b:Nat))] [] (.v (.bool (fG (b6 p) (a:Int) (b:Int)))) []:=by
 have hA:=Mr p hw lu ha;have hB:=Mr p hw lu hb;have Q0:=CZ p hw (a:Int) (b:Int);have hHb:=CZ p hw (b:Int) (a:Int);unfold fG;generalize b6 p (a:Int)=La at *;generalize b6 p (b:Int)=Lb at *
 cases he:((a:Int)==(b:Int)) with
 | true =>
  rw [Bool.true_or];refine ai Tryz.func61 Tryz.ntmps61 ?_;exact al
 | false =>
  rw [Bool.false_or]
  cases h1:La.contains (b:Int) with
  | false =>
   rw [h1] at Q0;rw [Bool.false_and];refine ai Tryz.func61 Tryz.ntmps61 ?_;refine ab [] hA ?_;refine ab [] Q0 ?_;exact al
  | true =>
   rw [h1] at Q0;rw [Bool.true_and];generalize Lb.contains (a:Int)=z at *;refine ai Tryz.func61 Tryz.ntmps61 ?_;refine ab [] hA ?_;refine ab [] Q0 ?_;refine ab [] hB ?_;refine ab [] hHb ?_;exact al
end Go.Xg
namespace Go.Xg
open Go.RowKit Go.Xw Go.Proofs
open Go.Im
def cR (gs:List (List Int)):List (List GV):=gs.map fun g=>[.sl 1 (bc g)]
theorem Inv.QQ {B:Bs} {K:Fz} {β:Bt} {w:World} {Γ:List Ob} {jf base:Nat} {T E:TypeId} {h:Value} {rows:List (List GV)} {gs:List (List Int)} {hd:Nat->Value} (hI:Inv B K β Γ w)
  (MW:Γ[jf]?=some (.vech T 1 rows h)) (hlen:rows.length=gs.length) (bt:∀ i,i < gs.length->rows[i]?=some [.v (hd i)])
  (fp:∀ i (g:List Int),gs[i]?=some g->Γ[base+i]?=some (.vech E 1 (bc g) (hd i))) (ak:jf < base) :
  ∃ K1 RX,cl K K1/\Inv B K1 β RX w/\RX[jf]?=some (.vech T 1 (cR gs) h):=by
 obtain ⟨K',aK,rows',a1,a2,a3,a4,a5,-⟩:=hI.Ai (T:=T) (k:=1) (o:=0) (E:=E) (k':=1) (jf:=jf) (N:=gs.length) (h:=h) (raw:=fun i=>[.v (hd i)]) (fin:=fun i=>[.sl 1 (bc (gs[i]?.getD []))]) (ks:=fun i=>bc (gs[i]?.getD [])) (hd:=hd) (jp:=fun i=>base+i) MW ⟨hlen,bt⟩
  (fun i hi=>⟨rfl,rfl⟩) (fun i hi=>by
   have hg:gs[i]?=some gs[i]:=getElem?_eq_getElem hi;have:=fp i _ hg;rw [this]
   simp only [hg,Option.getD_some]) (fun i hi=>by omega) (fun i i' _ _ h=>by omega)
 have he:rows'=cR gs:=by
  refine ext_getElem? fun i=>?_
  unfold cR;rw [getElem?_map]
  by_cases hi:i < gs.length
  ·rw [a5 i hi,getElem?_eq_getElem hi];rfl
  ·rw [getElem?_eq_none ag,getElem?_eq_none ag];rfl
 subst he;exact ⟨K',aK,a1,a2,a3⟩
theorem Inv.deep {B:Bs} {K:Fz} {β:Bt} {w:World} {Γ:List Ob} {jf base:Nat} {T E:TypeId} {h:Value} {rows:List (List GV)} {gs:List (List Int)} {hd:Nat->Value} (hI:Inv B K β Γ w)
  (MW:Γ[jf]?=some (.vech T 1 rows h)) (hlen:rows.length=gs.length) (bt:∀ i,i < gs.length->rows[i]?=some [.v (hd i)])
  (fp:∀ i (g:List Int),gs[i]?=some g->Γ[base+i]?=some (.vech E 1 (bc g) (hd i))) (ak:jf < base) :
  ∃ K1,cl K K1/\jh K1 w/\gD K1 (fun _=>.no) w/\Rel K1 (fun _=>.no) h (.sl 1 (cR gs)):=by
 obtain ⟨K',aK,a1,a2,a3⟩:=hI.QQ MW hlen bt fp ak;obtain ⟨K1,b1,b2,b3,b4⟩:=a2.view a3;exact ⟨K1,a1.trans b1,b2,b3,b4⟩
open Go.Xp (Nd T Ar aP az bL)
open Go.Sp (Src)
attribute [local irreducible] GW GL GO YG GC GA aU aZ
theorem EA (p:Src) (hw:eh p<=1048576) (lu:ig p=true) {a:Nat} (ha:a < p.fns.length) (z:Int) :
  GF Tryz.prog 54 [.agg (ax p),.v (ii (a:Nat)),.v (ii z)] [] (.v (.bool (mj p (a:Int) z))) []:=by
 obtain ⟨i',l,f,t,he,h⟩:=yA (yB lu ha)
 have:i'=a:=by omega
 subst this;exact Sc p hw lu h z
theorem MB (p:Src) (hw:eh p<=1048576) (lu:ig p=true) {a k:Nat} (ha:a < p.fns.length) (hk:k < p.fns.length) (r:List Int) :
  GF Tryz.prog 112 [.sl 1 (bc ((a:Int)::r)),.box (ax p) 0,.box [.v (ii (k:Nat))] 0] [] (.v (.bool (mj p (a:Int) (k:Int)&&mj p (k:Int) (a:Int)))) []:=by
 have hA:=EA p hw lu ha (k:Int);have hB:=EA p hw lu hk (a:Int);have hr:(bc ((a:Int)::r))[0]?=some [.v (ii (a:Int))]:=rfl
 have hln:0 < (bc ((a:Int)::r)).length:=by simp [bc]
 generalize bc ((a:Int)::r)=R at *
 cases h1:mj p (a:Int) (k:Int) with
 | false =>
  rw [h1] at hA;rw [Bool.false_and];refine ai Tryz.func112 Tryz.ntmps112 ?_;refine aI (aB 0 5 (.a 5 (aB 6 6 (.a 12 (.q 13 (.q 14 .nil)))))) ?_;refine ar ?_;refine aE [] hA ?_;exact av
 | true =>
  rw [h1] at hA;rw [Bool.true_and];generalize mj p (k:Int) (a:Int)=z at *;refine ai Tryz.func112 Tryz.ntmps112 ?_;refine aI (aB 0 5 (.a 5 (aB 6 6 (.a 12 (.q 13 (.q 14 .nil)))))) ?_;refine ar ?_;refine aE [] hA ?_;refine bB [] hB ?_;exact av
theorem Ei {mn:FuncId} [aH Tryz.prog mn] (pr:List Int->Bool) (c1 c2:List GV) (ls:List (List Int)) (hn:ls.length<=1099511627776) (hc:∀ l∈ls,GF Tryz.prog mn [.sl 1 (bc l),.box c1 0,.box c2 0] [] (.v (.bool (pr l))) []) :
  GF Tryz.prog 66 [.sl 1 (cR ls),.fn (.func mn) [] [.box c1 0,.box c2 0]] [] (.v (ii (cD pr ls))) []:=by
 have dI:(cR ls).length=ls.length:=by simp [cR]
 refine ai Tryz.func66 Tryz.ntmps66 ?_;refine GW.range (cR ls).length (fun k fr Γ=>fr=[.sl 1 (cR ls),.fn (.func mn) [] [.box c1 0,.box c2 0],.U,.U,.U,.U,.U,.v (ii ((cR ls).length:Int)),.v (ii (k:Nat)),.U,.U,.U,.U,.U,.U,.U,.U,.U,.U]/\Γ=[]/\(ls.take k).all (fun y=>!pr y)=true) ?_ ag ?_ ?_ ?_
 ·exact jy
 ·exact gx
 ·rintro k _ _ ak ⟨rfl,rfl,aQ⟩;rw [dI] at ak;obtain ⟨x,cI⟩:∃ x,ls[k]?=some x:=⟨ls[k],by simp [ak]⟩
  have hr:(cR ls)[k]?=some [.sl 1 (bc x)]:=by unfold cR;rw [getElem?_map,cI];rfl
  have h:=hc x (mem_of_getElem? cI);have bu:=lW (f:=pr) cI
  have hit:=fun h0=>lZ (f:=pr) cI h0 aQ
  generalize bc x=X at *
  cases hb:pr x with
  | true =>
   rw [hb] at h;rw [hit hb];refine ae ?_;refine kY [] h ?_;exact av
  | false =>
   rw [hb] at h bu;refine ae ?_;refine kY [] h ?_;refine ae ?_;exact ⟨rfl,rfl,_,_,Wk.aC aq,rfl,rfl,by rw [bu,aQ];rfl⟩
 ·rintro _ _ ⟨rfl,rfl,aQ⟩;rw [dI,take_length] at aQ;rw [jz aQ];exact av
end Go.Xg
namespace Go.Xg
open Go.RowKit Go.Xw Go.Proofs
open Go.Im
def fu (gs:List (List Int)) (hs:List Value):List Ob:=List.zipWith (fun g h=>Ob.vech 3 1 (bc g) h) gs hs
def ik (hs:List Value):List (List GV):=hs.map fun h=>[.v h]
def iG (gs:List (List Int)) (h:Value) (hs:List Value):List Ob:=.vech 40 1 (ik hs) h::fu gs hs
structure n8 (gs:List (List Int)) (h:Value) (hs:List Value):Prop where
 head:∃ a c,h=.slice a gs.length c
 len:hs.length=gs.length
 kid:∀ (i:Nat) g x,gs[i]?=some g->hs[i]?=some x->∃ a c,x=.slice a g.length c
theorem py {gs:List (List Int)} {hs:List Value} (h:hs.length=gs.length):(fu gs hs).length=gs.length:=by simp [fu,h]
theorem vc (hs:List Value):(ik hs).length=hs.length:=by simp [ik]
theorem rJ {gs:List (List Int)} {hs:List Value} {i:Nat} {g:List Int} {h:Value} (hg:gs[i]?=some g) (hh:hs[i]?=some h):(fu gs hs)[i]?=some (.vech 3 1 (bc g) h):=by
 unfold fu;rw [List.getElem?_zipWith,hg,hh]
theorem Nh {gs:List (List Int)} {hs:List Value}:∀ x∈fu gs hs,x.lR=true:=fun x hx=>by
 unfold fu at hx;obtain ⟨i,hi⟩:=List.mem_iff_getElem?.1 hx;rw [List.getElem?_zipWith] at hi;split at hi
 ·cases hi;rfl
 ·cases hi
theorem ph {gs:List (List Int)} {h:Value} {hs:List Value}:∀ x∈iG gs h hs,x.lR=true:=fun x hx=>by
 rcases List.mem_cons.1 hx with rfl | hx
 ·rfl
 ·exact Nh x hx
theorem Dx (A:List Ob) (x y:Ob):oset (A++[x]) A.length y=A++[y]:=by
 induction A with
 | nil=>rfl
 | cons a A ih=>simp only [cons_append,length_cons,oset,ih]
theorem wo:∀ {gs:List (List Int)} {hs:List Value} (g:List Int) (h:Value),hs.length=gs.length->fu gs hs++[.vech 3 1 (bc g) h]=fu (gs++[g]) (hs++[h])
 | [],[],g,h,_=>rfl
 | x::gs,y::hs,g,h,hl=>by
  have:=wo (gs:=gs) (hs:=hs) g h (by simpa using hl);unfold fu at this |-;simp only [cons_append,List.zipWith_cons_cons,this]
 | [],y::hs,g,h,hl=>by simp at hl
 | x::gs,[],g,h,hl=>by simp at hl
theorem ud:∀ (gs:List (List Int)) (hs:List Value) (i:Nat) (g:List Int) (h:Value),oset (fu gs hs) i (.vech 3 1 (bc g) h)=fu (gs.set i g) (hs.set i h)
 | [],hs,i,g,h=>by simp [fu,oset]
 | x::gs,[],i,g,h=>by simp [fu,oset]
 | x::gs,y::hs,0,g,h=>rfl
 | x::gs,y::hs,i+1,g,h=>by
  have:=ud gs hs i g h;unfold fu at this |-;simp only [List.zipWith_cons_cons,List.set_cons_succ,oset,this]
theorem B5:∀ (hs:List Value) (i:Nat) (h:Value),dk (ik hs) i 0 (.v h)=ik (hs.set i h)
 | [],i,h=>rfl
 | y::hs,0,h=>rfl
 | y::hs,i+1,h=>by
  have:=B5 hs i h;unfold ik at this |-;simp only [List.map_cons,List.set_cons_succ,dk,this]
theorem n8.snoc {gs:List (List Int)} {h:Value} {hs:List Value} (H:n8 gs h hs) (g:List Int) {a b:Option Addr} {c d:Nat}:n8 (gs++[g]) (.slice a (gs.length+1) c) (hs++[.slice b g.length d]):=by
 refine ⟨⟨a,c,by simp⟩,by simp [H.len],fun i g' x h1 h2=>?_⟩;have hl:=H.len
 rcases Nat.lt_or_ge i gs.length with hi | hi
 ·rw [List.getElem?_append_left hi] at h1;rw [List.getElem?_append_left ag] at h2;exact H.kid i g' x h1 h2
 ·rw [List.getElem?_append_right hi] at h1;rw [List.getElem?_append_right ag] at h2;rw [hl] at h2
  cases hk:i - gs.length with
  | zero =>
   rw [hk] at h1 h2
   cases h1;cases h2
   exact ⟨_,_,rfl⟩
  | succ k=>rw [hk] at h1;simp at h1
theorem n8.set {gs:List (List Int)} {h:Value} {hs:List Value} (H:n8 gs h hs) {i:Nat} (g:List Int) {b:Option Addr} {d n:Nat} (hn:n=g.length):n8 (gs.set i g) h (hs.set i (.slice b n d)):=by
 subst hn;obtain ⟨a,c,e⟩:=H.head;refine ⟨⟨a,c,by rw [e];simp⟩,by simp [H.len],fun j g' x h1 h2=>?_⟩;rw [List.getElem?_set] at h1 h2
 by_cases eQ:i=j
 ·rw [if_pos eQ] at h1 h2;split at h1
  ·cases h1;split at h2
   ·cases h2;exact ⟨_,_,rfl⟩
   ·cases h2
  ·cases h1
 ·rw [if_neg eQ] at h1 h2;exact H.kid j g' x h1 h2
theorem wb (F:Int->List Int):∀ k,(fo F k).length<=k
 | 0=>by simp [fo]
 | k+1=>by
  have:=wb F k;rw [fo];unfold lq;split
  ·rw [List.length_set];omega
  ·rw [length_append];simp only [length_cons,length_nil];omega
theorem wa {F:Int->List Int}:∀ (k:Nat),∀ g∈fo F k,g.length<=k
 | 0,g,h=>by simp [fo] at h
 | k+1,g,h=>by
  have ih:=wa (F:=F) k;rw [fo] at h;unfold lq at h;split at h
  ·rename_i i _
   rcases List.mem_or_eq_of_mem_set h with h | rfl
   ·have:=ih g h;omega
   ·cases hg:(fo F k)[i]? with
    | none=>simp
    | some l =>
     have:=ih l (mem_of_getElem? hg);simp only [Option.getD_some,length_append,length_cons,length_nil];omega
  ·rcases List.mem_append.1 h with h | h
   ·have:=ih g h;omega
   ·rw [mem_singleton] at h;subst h;simp
theorem Wt {K K1:Fz} {β:Bt} {v:Value} {f:Fn} {cap:List GV} (hk:cl K K1) (hp:∀ g∈cap,g.pc=true) (h:Rel K β v (.fn f [] cap)):Rel K1 (fun _=>.no) v (.fn f [] cap):=by
 cases h with
 | fn f xs ys first cap hl iM h h' =>
  exact .fn f xs ys [] cap hl iM (fun i v g _ hg=>by simp at hg) (fun i v g h1 h2=>((h' i v g h1 h2).mono hk (cY.refl β)).pc (hp g (mem_of_getElem? h2)))
theorem zQ {B:Bs} {K:Fz} {β:Bt} {w:World} {gs:List (List Int)} {h:Value} {hs:List Value} {A C:List Ob} (H:n8 gs h hs) (hI:Inv B K β (A++(iG gs h hs++C)) w) :
  ∃ K1,cl K K1/\jh K1 w/\gD K1 (fun _=>.no) w/\Rel K1 (fun _=>.no) h (.sl 1 (cR gs)):=by
 have hl:=H.len;have eR:=py hl;refine hI.deep (jf:=A.length) (base:=A.length+1) (T:=40) (E:=3) (rows:=ik hs) (hd:=fun i=>hs[i]?.getD (.slice none 0 0)) ?_ (by simp [ik,hl]) (fun i hi=>?_) (fun i g hg=>?_) ag
 ·rw [List.getElem?_append_right (Nat.le_refl _),Nat.sub_self];rfl
 ·have:hs[i]?=some hs[i]:=getElem?_eq_getElem ag;simp [ik,this]
 ·have hi:=(List.getElem?_eq_some_iff.1 hg).1;have:hs[i]?=some hs[i]:=getElem?_eq_getElem ag;rw [List.getElem?_append_right ag,show A.length+1+i - A.length=i+1 by omega];unfold iG;rw [cons_append,getElem?_cons_succ,List.getElem?_append_left ag];simp only [this,Option.getD_some];exact rJ hg this
theorem GC.VL {f:FuncId} {args:List GV} {G:List (List Int)} (h:GC Tryz.prog f args [] fun g Δ=>∃ h hs,n8 G h hs/\g=.v h/\Δ=iG G h hs):GF Tryz.prog f args [] (.sl 1 (cR G)) []:=fun B K β w vs hm hI hF =>
 (h B K β w vs hm hI hF).mono fun v w' ⟨K',bA,g,aK,bg,hr,x,hs,H,hg,bz⟩=>by
  subst hg;subst bz;have hl:=H.len
  obtain ⟨K1,RX,k1,i1,j1⟩:=bg.QQ (jf:=0) (base:=1) (T:=40) (E:=3) (rows:=ik hs) (gs:=G) (h:=x) (hd:=fun i=>hs[i]?.getD (.slice none 0 0)) rfl (by simp [ik,hl]) (fun i hi=>by
   have:hs[i]?=some hs[i]:=getElem?_eq_getElem ag
   simp [ik,this]) (fun i g hg=>by
   have hi:=(List.getElem?_eq_some_iff.1 hg).1;have:hs[i]?=some hs[i]:=getElem?_eq_getElem ag;rw [Nat.add_comm];unfold iG;simp only [getElem?_cons_succ,this,Option.getD_some]
   exact rJ hg this) ag
  obtain ⟨K2,k2,r2,i2⟩:=i1.qb j1;have hv:=Rel.eC hr;refine ⟨K2,_,.sl 1 (cR G),[],i2.cut (n:=0) (by rw [hm];exact Nat.le_refl _) rfl,?_,rfl,rfl⟩;rw [hv];exact r2.pc rfl
end Go.Xg
namespace Go.Xg
open Go.RowKit Go.Xw
theorem Tu {A B:Prop} (h:B) (s:Hid B->A:=by intro hQ;(repeat (first | ((first | (apply GL.q;(· exact Ld)) | refine GL.nil ?_ | refine bb ?_ | refine GW.seq ?_ | refine GW.region ?_ | refine GW.skip ?_ | refine gE ?_ | refine GW.block ?_ | (apply GL.gt;(· exact rfl);(· first | exact rfl | assumption)) | (apply GL.gf;(· exact rfl);(· first | exact rfl | assumption)) | (apply GL.gu;(· exact rfl)) | (apply Lq;(· exact rfl);(· first | exact rfl | assumption)) | (apply Lp;(· exact rfl);(· first | exact rfl | assumption)));try refine GN wP ?_) | ((first | (apply GL.box;(· exact rfl)) | (apply GL.st;(· exact rfl);(· exact rfl);(· exact rfl);(· exact rfl);(· exact rfl);(· exact rfl)));refine rq dh en ?_)));exact hQ.1):A:=s ⟨h⟩
end Go.Xg
namespace Go.Xg
open Go.RowKit Go.Xw Go.Proofs
open Go.Xp (Nd T Ar aP az bL)
open Go.Sp (Src)
open Go.Im
attribute [local irreducible] GW GL GO YG GC GA aU aZ
theorem Pf (p:Src) (hw:eh p<=1048576) (lu:ig p=true) :
  GC Tryz.prog 62 [.agg (ax p)] [] fun g Δ=>∃ h hs,n8 (fo (b6 p) p.fns.length) h hs/\g=.v h/\Δ=iG (fo (b6 p) p.fns.length) h hs:=by
 obtain ⟨⟨a1,a2⟩,⟨b1,b2⟩,⟨c1,c2⟩,⟨d1,d2⟩⟩:=gR p
 have vd:(p.fns.map aw).length=p.fns.length:=by simp
 refine da Tryz.func62 Tryz.ntmps62 ?_;refine GW.seq ?_;refine GW.region ?_;refine GL.Ex rfl rfl ?_;refine cr ?_;refine ae ?_;refine GW.wk (Wk.oY 40 1) ?_;simp only [nil_append];refine GW.range (p.fns.map aw).length (fun k fr Γ=>∃ h hs,fr=[.U,.box (ax p) 0,.U,.v h,.U,.U,.U,.sl 3 (p.fns.map aw),.v (ii ((p.fns.map aw).length:Int)),.v (ii (k:Nat)),.U,.U,.U,.U,.U,.U,.U,.U,.U,.U,.U,.U,.U,.U,.U,.U,.U,.U,.U,.U,.U,.U,.U,.U]/\n8 (fo (b6 p) k) h hs/\Γ=iG (fo (b6 p) k) h hs) ?_ ag ?_ ?_ ?_
 ·exact ⟨_,_,Wk.aC aq,.slice none 0 0,[],rfl,⟨⟨none,0,rfl⟩,rfl,fun i g x h=>by simp [fo] at h⟩,rfl⟩
 ·rintro k _ _ ⟨h,hs,rfl,_,rfl⟩;exact dS
 ·rintro k _ _ hk ⟨h,hs,rfl,H,rfl⟩;rw [vd] at hk;have E8:fo (b6 p) (k+1)=lq (b6 p) (fo (b6 p) k) (k:Int):=rfl;have MQ:=B1 (C0 p) k;have jq:=wb (b6 p) k;have MR:=wa (F:=b6 p) k;rw [E8];clear E8;generalize fo (b6 p) k=gs at *
  have hIx:GF Tryz.prog 66 [.sl 1 (cR gs),.fn (.func 112) [] [.box (ax p) 0,.box [.v (ii (k:Nat))] 0]] [] (.v (ii (cD (fun g=>fG (b6 p) (g.headD 0) (k:Int)) gs))) []:=by
   refine Ei _ _ _ gs ag fun g hg=>?_
   obtain ⟨a,r,rfl⟩:∃ a r,g=a::r:=List.exists_cons_of_ne_nil (MQ.ne g hg);obtain ⟨r1,r2,-⟩:=MQ.mem _ hg a (by simp);obtain ⟨j,rfl⟩:∃ j:Nat,a=(j:Int):=⟨a.toNat,by omega⟩;have:=MB p hw lu (a:=j) (k:=k) ag hk r;rw [JD ag] at this;exact this
  refine Tu ?_;refine GL.Vu rfl rfl rfl rfl rfl rfl rfl ?_;refine cr ?_;refine ae ?_;refine GL.borrow hIx (fun B K β w l hI hF=>?_) ?_
  ·obtain ⟨K1,sd,h1,h2,h3⟩:=zQ (A:=[]) (C:=[]) H (by rw [append_nil];exact hI);refine ⟨K1,h1,h2,?_⟩;have hr:=hF.ev (.tmp 13);show ba K1 _ [ev l (.tmp 12),ev l (.tmp 13)] _;rw [hF.gU (x:=.tmp 12) (a:=h) rfl];exact .cons h3 (.cons (Wt sd (cap:=[.box (ax p) 0,.box [.v (ii (k:Int))] 0]) (by intro g hg;simp only [List.mem_cons,List.not_mem_nil,or_false] at hg;rcases hg with rfl | rfl <;> rfl) hr) .nil)
  refine cr ?_;unfold lq yz cD
  cases hz:gs.findIdx? (fun g=>fG (b6 p) (g.headD 0) (k:Int)) with
  | none =>
   obtain ⟨a0,c0,e0⟩:=H.head;have hl:=H.len
   have vi:(ik hs).length=gs.length:=by rw [vc,hl]
   simp only;refine ae ?_;refine kJ ?_
   have rA:(Ob.vech 40 1 (ik hs) h::(fu gs hs++[.vec 3 1 0 (chunk 1 1 [.v (ii (k:Nat))])]))[(fu gs hs).length+1]?=some (.vec 3 1 0 (chunk 1 1 [.v (ii (k:Nat))])):=by simp
   refine GL.qJ (t:=19) rfl rfl rA rfl ?_;intro a1 c1;refine rq rfl (Dx (Ob.vech 40 1 (ik hs) h::fu gs hs) _ _) ?_;refine cr ?_;refine GL.jv 0 rfl rfl rfl rfl rfl rfl rfl rfl vi mc ?_;intro a2 c2;refine bI ?_;refine ae ?_;refine ⟨rfl,rfl,_,_,Wk.aC aq,_,hs++[.slice a1 1 c1],rfl,H.snoc [(k:Int)],?_⟩;unfold iG;rw [<-wo _ _ hl];show _=_;simp only [ik,map_append,List.map_cons,map_nil];rfl
  | some i =>
   obtain ⟨a0,c0,e0⟩:=H.head;have hl:=H.len
   have vi:(ik hs).length=gs.length:=by rw [vc,hl]
   obtain ⟨hi,-,-⟩:=List.findIdx?_eq_some_iff_getElem.1 hz;have JW:gs[i]?=some gs[i]:=getElem?_eq_getElem hi;have od:hs[i]?=some (hs[i]'ag):=getElem?_eq_getElem _;obtain ⟨a1,c1,e1⟩:=H.kid i _ _ JW od;have hgb:=MR _ (mem_of_getElem? JW);generalize gs[i]=g at *;generalize hs[i]'ag=x at *;subst e1
   have rE:(ik hs)[i]?=some [.v (.slice a1 g.length c1)]:=by simp [ik,od]
   have qt:i < (ik hs).length:=by omega
   have fp:(Ob.vech 40 1 (ik hs) h::fu gs hs)[i+1]?=some (.vech 3 1 (bc g) (.slice a1 g.length c1)):=by rw [getElem?_cons_succ];exact rJ JW od
   have JX:(bc g).length=g.length:=by simp [bc]
   simp only;rw [JW,Option.getD_some];refine ae ?_;refine aI (aB 0 7 (.a 7 (.a 8 (.q 9 (.a 10 .nil))))) ?_;refine ar ?_;refine ey ?_;refine ar ?_;refine OA rfl rfl (GL.pJ (i+1) (news:=[[.v (ii (k:Nat))]]) rfl rfl fp JX rfl rfl ⟨by show g.length+1<=_;omega,by show (g.length+1) * _<=_;omega⟩ ?_);intro a2 c2;refine dy ?_;refine ar ?_;refine OA rfl rfl (GL.VP rfl rfl rfl rE rfl rfl rfl rfl ?_);refine dy ?_;refine bf ?_;refine ⟨rfl,rfl,_,_,Wk.aC aq,h,hs.set i (.slice a2 (g.length+1) c2),rfl,H.set (g++[(k:Int)]) (by simp),?_⟩;unfold iG;rw [<-ud,<-B5,show bc (g++[(k:Int)])=bc g++[[.v (ii (k:Nat))]] by simp [bc]];rfl
 ·rintro _ _ ⟨h,hs,rfl,H,rfl⟩;rw [vd] at H;rw [vd];refine bb ?_;refine ae ?_;refine ic ?_;refine oS 0 rfl cj rfl ph ⟨h,hs,H,rfl,rfl⟩
end Go.Xg
