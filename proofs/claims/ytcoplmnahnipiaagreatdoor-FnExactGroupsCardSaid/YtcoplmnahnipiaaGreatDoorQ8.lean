/- Part 8 of proofs that are told in their last texts. -/
import Derived.Test.YtcoplmnahnipiaaGreatDoorQ7
import Derived.Laws.StructEq
import Derived.Test.YtcoplmnahnipiaaGreatDoorQ1
import Derived.Test.YtcoplmnahnipiaaGreatDoorQ5
import Derived.Test.YtcoplmnahnipiaaGreatDoorQ2
import Derived.Test.YtcoplmnahnipiaaGreatDoorQ6
import Derived.Test.YtcoplmnahnipiaaGreatDoorQ3
open List (all_eq_true append_nil cons_append ext_getElem? getElem?_cons_succ getElem?_eq_getElem getElem?_eq_none getElem?_map getElem?_mapIdx length_append length_cons length_drop length_map length_nil length_take map_append map_nil mem_of_getElem? mem_singleton nil_append take_add_one take_length)
set_option linter.unusedVariables false
set_option linter.unusedSimpArgs false
set_option maxRecDepth 100000
set_option maxHeartbeats 2000000
namespace Go.Xg
open Go.RowKit Go.Xw Go.Proofs
open Go.Xp (Nd Ar)
open Go.Im (za fg rv ry sR lN nw)
theorem Wu (w:World) (s s':ah) (n n':Int):(Op.equalIn 10000 88 (.agg #[sv s,ii n]) (.agg #[sv s',ii n'])).run Tryz.prog w=.ok ((s==s')&&(n==n')) w:=by
 have hf:(Tryz.prog.fieldsOf 88).toList=[(Tryz.prog.fieldsOf 88)[0]!,(Tryz.prog.fieldsOf 88)[1]!]:=by kernel_rfl
 have a0:((Tryz.prog.fieldsOf 88)[0]!).type=9:=by kernel_rfl
 have a1:((Tryz.prog.fieldsOf 88)[1]!).type=3:=by kernel_rfl
 have b0:((Tryz.prog.fieldsOf 88)[0]!).offset=0:=by kernel_rfl
 have b1:((Tryz.prog.fieldsOf 88)[1]!).offset=1:=by kernel_rfl
 have c0:((Tryz.prog.fieldsOf 88)[0]!).name = "Name" := by kernel_rfl
 have c1:((Tryz.prog.fieldsOf 88)[1]!).name = "Size" := by kernel_rfl
 rw [show (10000:Nat)=9999+1 from rfl,run_equalIn_agg w 9999 _ _ _ (by kernel_rfl) (by kernel_rfl),hf];generalize (Tryz.prog.fieldsOf 88)[0]! = f0 at *;generalize (Tryz.prog.fieldsOf 88)[1]! = f1 at *
 have hs:Tryz.prog.underlying 9=some .string:=by kernel_rfl
 have hi:Tryz.prog.underlying 3=some (.int .i64):=by kernel_rfl
 have p0:∀ (a:ah) (b:Int) w,(part f0.type #[sv a,ii b] f0.offset).run Tryz.prog w=.ok (sv a) w:=fun a b w=>by
  rw [a0,b0];rfl
 have p1:∀ (a:ah) (b:Int) w,(part f1.type #[sv a,ii b] f1.offset).run Tryz.prog w=.ok (ii b) w:=fun a b w=>by
  rw [a1,b1];rfl
 have e0:∀ w,(Op.equalIn 9999 f0.type (sv s) (sv s')).run Tryz.prog w=.ok (s==s') w:=fun w=>by
  rw [a0,show (9999:Nat)=9998+1 from rfl];have:=run_equalIn_string (P:=Tryz.prog) w 9998 9 ⟨s.toArray⟩ ⟨s'.toArray⟩ hs;rw [show sv s=.string ⟨s.toArray⟩ from rfl,show sv s'=.string ⟨s'.toArray⟩ from rfl,this];simp [toList_mk]
 have e1:∀ w,(Op.equalIn 9999 f1.type (ii n) (ii n')).run Tryz.prog w=.ok (n==n') w:=fun w=>by
  rw [a1,show (9999:Nat)=9998+1 from rfl];exact run_equalIn_int (P:=Tryz.prog) w 9998 3 .i64 .i64 n n' hi
 have n0:f0.name ≠ "_" := by rw [c0];decide
 have n1:f1.name ≠ "_" := by rw [c1];decide
 rw [Op.eqFields,if_pos n0];simp only [Sem.run_bind,p0,Result.andThen_ok,e0]
 cases s==s' with
 | false=>simp
 | true =>
  simp only [Bool.not_true,Bool.false_eq_true,if_false,Bool.true_and];rw [Op.eqFields,if_pos n1];simp only [Sem.run_bind,p1,Result.andThen_ok,e1]
  cases n==n' with
  | false=>simp
  | true=>simp [Op.eqFields]
theorem YG.Vx {fr:List GV} {Γ:List Ob} {x y:Operand} {t':TypeId} {s s':ah} {n n':Int} (hx:aY fr x=.agg [.v (sv s),.v (ii n)]) (hy:aY fr y=.agg [.v (sv s'),.v (ii n')]) :
  YG Tryz.prog (.binOp .neq 88 x y t') fr Γ (.v (.bool (!((s==s')&&(n==n'))))):=fun B K β w l hI hF=>by
 have two:∀ {v:Value} {a b:Value},Rel K β v (.agg [.v a,.v b])->v=.agg #[a,b]:=fun {v a b} h=>by
  cases h with
  | agg vs _ hl hh =>
   match vs,hl with
   | [u1,u2],_ =>
    have h1:=Rel.eD (hh 0 u1 (.v a) rfl rfl);have h2:=Rel.eD (hh 1 u2 (.v b) rfl rfl);rw [h1,h2]
 have rG:=two (by rw [<-hx];exact hF.ev x);have Ve:=two (by rw [<-hy];exact hF.ev y);refine ⟨_,fun d ty pos af=>?_,.v _⟩;have hg:=run_eqGuard_agg (P:=Tryz.prog) w .neq 88 x y #[sv s,ii n] #[sv s',ii n'] (by kernel_rfl);have hn:=run_neq_struct (P:=Tryz.prog) w 88 #[sv s,ii n] #[sv s',ii n'];rw [Wu,Result.andThen_ok] at hn;simp [execOp,rG,Ve,hg,hn]
attribute [local irreducible] GW GL GO YG GC GA aV aZ
theorem R9 (a b:List Ar) (ha:a.length<=1099511627776) (hb:b.length<=1099511627776):GF Tryz.prog 165 [(.sl 2 (a.map fun s=>aD s)),(.sl 2 (b.map fun s=>aD s))] [] (.v (.bool (fg za a b))) []:=by
 have kz:(a.map fun s=>aD s).length=a.length:=by simp
 have qt:(b.map fun s=>aD s).length=b.length:=by simp
 by_cases hl:a.length=b.length
 ·have hd:(((a.map fun s=>aD s).length:Int) != ((b.map fun s=>aD s).length:Int))=false:=by rw [kz,qt,hl];simp
  refine ai Tryz.func165 Tryz.ntmps165 ?_;refine GW.range (a.map fun s=>aD s).length (fun k fr Γ=>fr=[(.sl 2 (a.map fun s=>aD s)),(.sl 2 (b.map fun s=>aD s)),.U,.U,.U,.U,.U,.U,.U,.U,.U,.U,.v (ii ((a.map fun s=>aD s).length:Int)),.v (ii (k:Nat)),.U,.U,.U,.U,.U,.U,.U,.U,.U,.U,.U,.U]/\Γ=[]/\sR za a b k) ?_ ag ?_ ?_ ?_
  ·exact ⟨_,_,Wk.aC aq,rfl,rfl,fun j x y h=>by omega⟩
  ·exact gy
  ·rintro k _ _ ak ⟨rfl,rfl,kC⟩;rw [kz] at ak
   have ni:a[k]?=some a[k]:=by simp [ak]
   have pR:k < b.length:=by omega
   have oG:b[k]?=some b[k]:=by simp [pR]
   have Fv:(a.map fun s=>aD s)[k]?=some (aD a[k]):=by rw [getElem?_map,ni];rfl
   have Fw:(b.map fun s=>aD s)[k]?=some (aD b[k]):=by rw [getElem?_map,oG];rfl
   generalize a[k]=x at *;generalize b[k]=y at *;unfold aD at Fv Fw
   cases iV:za x y with
   | true =>
    have bO:(!((x.name==y.name)&&(x.size==y.size)))=false:=by rw [show ((x.name==y.name)&&(x.size==y.size))=za x y from rfl,iV];rfl
    refine ae ?_;refine aI (aB 0 9 .nil) ?_;refine ar ?_;apply OP
    ·exact rfl
    ·intro Γ;exact YG.Vx rfl rfl
    refine Ej ?_;refine bf ?_;exact ⟨rfl,rfl,_,_,Wk.aC aq,rfl,rfl,lN ni oG kC iV⟩
   | false =>
    have bO:(!((x.name==y.name)&&(x.size==y.size)))=true:=by rw [show ((x.name==y.name)&&(x.size==y.size))=za x y from rfl,iV];rfl
    rw [ry ni oG (p:=za) iV];refine ae ?_;refine aI (aB 0 9 .nil) ?_;refine ar ?_;apply OP
    ·exact rfl
    ·intro Γ;exact YG.Vx rfl rfl
    refine Ej ?_;refine ar ?_;exact av
  ·rintro _ _ ⟨rfl,rfl,kC⟩;rw [kz] at kC;rw [nw hl kC];exact av
 ·have hd:(((a.map fun s=>aD s).length:Int) != ((b.map fun s=>aD s).length:Int))=true:=by rw [kz,qt];simpa using by omega
  rw [rv hl];refine ai Tryz.func165 Tryz.ntmps165 ?_;exact al
end Go.Xg
set_option maxHeartbeats 1000000
namespace Go.Xg
open Go.RowKit Go.Xw Go.Proofs
open Go.Xp (Tok Nd T bh one levels gn dN eg dv dd oy)
open Go.Sp Go.Im
attribute [local irreducible] GW GL GO YG GC GA aV aZ
structure HP (f:Nat):Prop where
 expr:∀ d p t q x,p.ok->d+f<=1099511627776->iE f (.expr d) p=some (t,q)->GF Tryz.prog 288 [.loc 0 0,.v (ii (d:Nat))] [bK p x] (qT t) [bK q x]
 level:∀ k d p t q x,p.ok->k<=9->d+f<=1099511627776->iE f (.level k d) p=some (t,q)->GF Tryz.prog 299 [.loc 0 0,.v (ii (k:Nat)),.v (ii (d:Nat))] [bK p x] (qT t) [bK q x]
 operand:∀ d p t q x,p.ok->d+f<=1099511627776->iE f (.operand d) p=some (t,q)->GF Tryz.prog 304 [.loc 0 0,.v (ii (d:Nat))] [bK p x] (qT t) [bK q x]
 exprs:∀ d p l q x,p.ok->d+f<=1099511627776->iA f d [] p=some (l,q)->GF Tryz.prog 306 [.loc 0 0,.v (ii (d:Nat))] [bK p x] (.sl 1 (ke l)) [bK q x]
theorem G1:GF Tryz.prog 271 [.v (ii 0),.v (ii 0),.v (sv []),.sl 1 []] [] (qT T.zero) []:=ey 0 0 [] [] [] rfl
theorem Ua {f:Nat} (C:HP f) (d:Nat) (p:RS) (t:T) (q:RS) (x:PX) (hp:p.ok) (hd:d+(f+1)<=1099511627776) (h:iE (f+1) (.expr d) p=some (t,q)) :
  GF Tryz.prog 288 [.loc 0 0,.v (ii (d:Nat))] [bK p x] (qT t) [bK q x]:=by
 rw [iE] at h;have dG:=vT p d x hp
 by_cases hc:(bM p d).code=0
 ·have du:((bM p d).code==0)=true:=by simpa using hc
  rw [if_pos hc] at h;rw [du] at dG;rw [oB hc] at h dG;have hl:=C.level 0 (d+1) p t q x hp ag ag h;refine ai Tryz.func288 Tryz.ntmps288 ?_;refine ab [0] dG ?_;refine ab [0] hl ?_;exact al
 ·have du:((bM p d).code==0)=false:=by simpa using hc
  rw [if_neg hc] at h;rw [du] at dG;cases h;refine ai Tryz.func288 Tryz.ntmps288 ?_;refine ab [0] dG ?_;refine ab [] G1 ?_;exact al
theorem SV {f:Nat} (C:∀ f',f'<=f->HP f') (k d:Nat) (p:RS) (t:T) (q:RS) (x:PX) (hp:p.ok) (hk:k<=9) (hd:d+(f+1)<=1099511627776) (h:iE (f+1) (.level k d) p=some (t,q)) :
  GF Tryz.prog 299 [.loc 0 0,.v (ii (k:Nat)),.v (ii (d:Nat))] [bK p x] (qT t) [bK q x]:=by
 rw [iE] at h
 by_cases A3:k=9
 ·subst A3;rw [if_pos rfl] at h;have ho:=(C f (Nat.le_refl _)).operand d p t q x hp ag h;refine ai Tryz.func299 Tryz.ntmps299 ?_;refine ab [] tl ?_;refine ab [0] ho ?_;exact al
 ·rw [if_neg A3] at h
  have Ze:((k:Int)==9)=false:=by simp;omega
  cases he:iE f (.level (k+1) d) p with
  | none=>rw [he] at h;cases h
  | some r =>
   obtain ⟨out,p1⟩:=r;rw [he] at h;simp only at h;have lA:=((iX f).1 _ _ _ _ hp he).ok hp;have hl:=(C f (Nat.le_refl _)).level (k+1) d p out p1 x hp ag ag he;refine ai Tryz.func299 Tryz.ntmps299 ?_;refine ab [] tl ?_;refine ab [0] hl ?_;refine GW.loop (fun z:Nat × T × RS=>z.1) (fun z fr Γ=>fr=[.loc 0 0,.v (ii (k:Nat)),.v (ii (d:Nat)),.U,.U,.U,.U,qT z.2.1,.U,.U,.U,.U,.U,.U,.U,.U,.U,.U,.U,.U,.U,.U,.U,.U,.U,.U,.U,.U,.U,.U,.U,.U,.U,.U,.U,.U,.U,.U,.U,.U,.U,.U,.U,.U,.U,.U,.U,.U,.U,.U,.U,.U,.U,.U,.U,.U,.U,.U,.U,.U,.U,.U,.U,.U]/\Γ=[bK z.2.2 x]/\z.2.2.ok/\z.1<=f/\iE z.1 (.loop k d z.2.1) z.2.2=some (t,q)) (f,out,p1) ?_ ?_
   ·exact ⟨_,_,Wk.aC aq,rfl,rfl,lA,Nat.le_refl _,h⟩
   ·clear h he hl;rintro ⟨g,out,p⟩ _ _ ⟨rfl,rfl,hp,MY,h⟩;simp only at hp MY h
    cases g with
    | zero=>simp [iE] at h
    | succ g =>
    rw [iE] at h
    have hk:k < 9:=by omega
    have ht:=rn p 0 x hp aJ
    by_cases hc:p.code=0
    ·have du:(p.code==0)=true:=by simpa using hc
     by_cases h3:(tok p 0).kind=3
     ·have jY:((tok p 0).kind==3)=true:=by simpa using h3
      have Rn:=IX hk;have Ri:=kq (levels.getD k []) (tok p 0).s (Ci k hk)
      by_cases hit:(levels.getD k []).contains (tok p 0).s=true
      ·rw [if_pos ⟨hc,h3,hit⟩] at h;rw [hit] at Ri;have ak:p.i < p.l.length:=rO (k:=0) ag;have cR:=hp.2
       cases hb:iE g (.level (k+1) d) p.next with
       | none=>rw [hb] at h;cases h
       | some r =>
        obtain ⟨b,p2⟩:=r;rw [hb] at h;simp only at h;have df:=(dx ak).ok hp;have dH:=((iX g).1 _ _ _ _ df hb).ok df
        have jB:=(C g ag).level (k+1) d p.next b p2 x df ag ag hb
        generalize tok p 0=tk at *;have im:=ey 6 tk.at_ tk.s [out,b] [[qT out],[qT b]] (gi _);refine ae ?_;refine aI (aB 0 7 (.a 7 (aB 8 4 (.q 13 (.q 16 (.a 12 (.q 14 (.q 15 (.a 17 (.q 18 (.a 19 (.q 20 .nil)))))))))))) ?_;refine ar ?_;refine bB [0] ht ?_;refine bB [] tl ?_;refine bB [0] ht ?_;refine bB [] Ri ?_;refine ae ?_;refine ab [0] ht ?_;refine aI (aB 0 9 (.a 9 (.a 10 (.a 11 (.q 12 .nil))))) ?_;refine ar ?_;refine aE [0] jB ?_;refine eA ?_;refine ar ?_;refine aE [] im ?_;refine ae ?_;exact ⟨(g,one 6 tk.at_ tk.s [out,b],p2),⟨_,_,(Wk.cut (n:=1) (Nat.le_of_ble_eq_true rfl) rfl).trans (Wk.aC aq),rfl,rfl,dH,by omega,h⟩,by simp⟩
      ·have hit:(levels.getD k []).contains (tok p 0).s=false:=by simpa using hit
       rw [if_neg (by rw [hit];simp)] at h
       obtain ⟨rfl,rfl⟩:out=t/\p=q:=by simpa using h
       rw [hit] at Ri;generalize tok p 0=tk at *;refine ae ?_;refine aI (aB 0 7 (.a 7 (aB 8 4 (.q 13 (.q 16 (.a 12 (.q 14 (.q 15 (.a 17 (.q 18 (.a 19 (.q 20 .nil)))))))))))) ?_;refine ar ?_;refine bB [0] ht ?_;refine bB [] tl ?_;refine bB [0] ht ?_;refine bB [] Ri ?_;refine bI ?_;exact av
     ·have jY:((tok p 0).kind==3)=false:=by simpa using h3
      rw [if_neg (fun hh=>h3 hh.2.1)] at h
      obtain ⟨rfl,rfl⟩:out=t/\p=q:=by simpa using h
      generalize tok p 0=tk at *;refine ae ?_;refine aI (aB 0 7 (.a 7 (aB 8 4 (.q 13 (.q 16 (.a 12 (.q 14 (.q 15 (.a 17 (.q 18 (.a 19 (.q 20 .nil)))))))))))) ?_;refine ar ?_;refine bB [0] ht ?_;refine bI ?_;exact av
    ·have du:(p.code==0)=false:=by simpa using hc
     rw [if_neg (fun hh=>hc hh.1)] at h
     obtain ⟨rfl,rfl⟩:out=t/\p=q:=by simpa using h
     refine ae ?_;refine aI (aB 0 7 (.a 7 (aB 8 4 (.q 13 (.q 16 (.a 12 (.q 14 (.q 15 (.a 17 (.q 18 (.a 19 (.q 20 .nil)))))))))))) ?_;refine bf ?_;refine jd ?_;exact av
theorem SA {f:Nat} (C:∀ f',f'<=f->HP f') (d:Nat) (p:RS) (l:List T) (q:RS) (x:PX) (hp:p.ok) (hd:d+(f+1)<=1099511627776) (h:iA (f+1) d [] p=some (l,q)) :
  GF Tryz.prog 306 [.loc 0 0,.v (ii (d:Nat))] [bK p x] (.sl 1 (ke l)) [bK q x]:=by
 refine ai Tryz.func306 Tryz.ntmps306 ?_;refine GW.wk (Wk.Cr (t:=5) (a:=none) (c:=0) 152 1 rfl) ?_;refine GW.loop (fun z:Nat × List T × RS=>z.1) (fun z fr Γ=>∃ n rows,fr=[.loc 0 0,.v (ii (d:Nat)),.U,.U,.U,.vec 1 n,.U,.U,.U,.U,.U,.U,.U,.U,.U,.U,.U,.U,.U,.U,.U,.U,.U,.U,.U,.U,.U,.U,.U,.U,.U,.U]/\Γ=[bK z.2.2 x,.vec 152 1 0 rows]/\rows.length=n/\rows=ke z.2.1/\n+z.1<=f+1/\z.2.2.ok/\iA z.1 d z.2.1 z.2.2=some (l,q)) (f+1,[],p) ?_ ?_
 ·exact ⟨_,_,Wk.aC aq,0,[],rfl,rfl,rfl,rfl,by simp,hp,h⟩
 ·clear h hp;rintro ⟨g,acc,p⟩ _ _ ⟨n,rows,rfl,rfl,hn,bt,zm,hp,h⟩;simp only at bt zm hp h
  cases g with
  | zero=>simp [iA] at h
  | succ g =>
  rw [iA] at h;have hi:=jO p 0 [41] x hp aJ
  have kV:acc.length=n:=by rw [<-hn,bt,mO]
  by_cases hc:p.code=0
  ·have du:(p.code==0)=true:=by simpa using hc
   cases hs:is p 0 [41] with
   | true =>
    rw [hs] at hi;rw [if_neg (fun hh=>by have:=hh.2;rw [hs] at this;cases this)] at h
    obtain ⟨rfl,rfl⟩:acc=l/\want p [41]=q:=by simpa using h
    have hw:=eM p [41] x hp;subst bt;refine ae ?_;refine ab [0] hi ?_;refine jd ?_;refine ae ?_;refine bS ?_;refine ae ?_;refine ab [0] hw ?_;refine GW.wk (Wk.jx (t:=4) rfl rfl rfl hn) ?_;exact al
   | false =>
    rw [hs] at hi;rw [if_pos ⟨hc,hs⟩] at h
    by_cases h0:acc.length=0
    ·rw [if_pos h0] at h
     have sU:decide ((0:Int) < (n:Int))=false:=by simpa using by omega
     cases hb:iE g (.expr d) p with
     | none=>rw [hb] at h;cases h
     | some r =>
      obtain ⟨a,p2⟩:=r;rw [hb] at h;simp only at h;have dH:=((iX g).1 _ _ _ _ hp hb).ok hp;have he:=(C g ag).expr d p a p2 x hp ag hb;refine ae ?_;refine ab [0] hi ?_;refine ab [0] he ?_;refine eQ ?_;refine ae ?_;exact ⟨(g,acc++[a],p2),⟨_,_,Wk.aC aq,_,_,rfl,rfl,by simp [hn],by rw [vt,bt],by show n+1+g<=f+1;omega,dH,h⟩,by simp⟩
    ·rw [if_neg h0] at h
     have sU:decide ((0:Int) < (n:Int))=true:=by simpa using by omega
     have lQ:=(cj hp [44]).ok hp;have hw:=eM p [44] x hp
     cases hb:iE g (.expr d) (want p [44]) with
     | none=>rw [hb] at h;cases h
     | some r =>
      obtain ⟨a,p2⟩:=r;rw [hb] at h;simp only at h;have dH:=((iX g).1 _ _ _ _ lQ hb).ok lQ;have he:=(C g ag).expr d _ a p2 x lQ ag hb;refine ae ?_;refine ab [0] hi ?_;refine bS ?_;refine ae ?_;refine ab [0] hw ?_;refine ab [0] he ?_;refine eQ ?_;refine ae ?_;exact ⟨(g,acc++[a],p2),⟨_,_,Wk.aC aq,_,_,rfl,rfl,by simp [hn],by rw [vt,bt],by show n+1+g<=f+1;omega,dH,h⟩,by simp⟩
  ·have du:(p.code==0)=false:=by simpa using hc
   rw [if_neg (fun hh=>hc hh.1)] at h
   obtain ⟨rfl,rfl⟩:acc=l/\want p [41]=q:=by simpa using h
   have hw:=eM p [41] x hp;subst bt;refine bI ?_;refine ae ?_;refine bS ?_;refine ae ?_;refine ab [0] hw ?_;refine GW.wk (Wk.jx (t:=4) rfl rfl rfl hn) ?_;exact al
theorem NU {f:Nat} (C:HP f) (d:Nat) (p:RS) (t:T) (q:RS) (x:PX) (hp:p.ok) (hd:d+(f+1)<=1099511627776) (h:iE (f+1) (.operand d) p=some (t,q)) :
  GF Tryz.prog 304 [.loc 0 0,.v (ii (d:Nat))] [bK p x] (qT t) [bK q x]:=by
 rw [iE] at h;have dG:=vT p d x hp;have ht:=rn p 0 x hp aJ
 by_cases hc:(bM p d).code=0
 case neg =>
  have du:((bM p d).code==0)=false:=by simpa using hc
  rw [if_neg hc] at h;rw [du] at dG;cases h;refine ai Tryz.func304 Tryz.ntmps304 ?_;refine ab [0] ht ?_;refine ab [0] dG ?_;refine ab [] G1 ?_;exact al
 case pos =>
 have du:((bM p d).code==0)=true:=by simpa using hc
 rw [if_pos hc] at h;rw [du,oB hc] at dG;clear hc du;have h1:=jO p 0 [45] x hp aJ;have h2:=jO p 0 [33] x hp aJ;have h3:=jO p 0 [126] x hp aJ;have cR:=hp.2;have Dg:=hp.1
 cases gz:is p 0 [45] with
 | true =>
  rw [gz] at h1;rw [if_pos (.inl gz)] at h;have ak:p.i < p.l.length:=is_lt (k:=0) gz;have df:=(dx ak).ok hp
  cases hb:iE f (.operand (d+1)) p.next with
  | none=>rw [hb] at h;cases h
  | some r =>
   obtain ⟨b,p2⟩:=r;rw [hb] at h;cases h
   have xK:=C.operand (d+1) p.next b _ x df ag hb
   generalize tok p 0=tk at *;have im:=ey 5 tk.at_ tk.s [b] [[qT b]] (gi _);refine ai Tryz.func304 Tryz.ntmps304 ?_;refine ab [0] ht ?_;refine ab [0] dG ?_;refine ab [0] h1 ?_;refine aI (aB 0 7 (.a 7 (.a 8 (.a 9 (.q 10 .nil))))) ?_;refine ar ?_;refine aE [0] xK ?_;refine eA ?_;refine ar ?_;refine aE [] im ?_;exact av
 | false =>
 rw [gz] at h1
 cases iT:is p 0 [33] with
 | true =>
  rw [iT] at h2;rw [if_pos (.inr (.inl iT))] at h;have ak:p.i < p.l.length:=is_lt (k:=0) iT;have df:=(dx ak).ok hp
  cases hb:iE f (.operand (d+1)) p.next with
  | none=>rw [hb] at h;cases h
  | some r =>
   obtain ⟨b,p2⟩:=r;rw [hb] at h;cases h
   have xK:=C.operand (d+1) p.next b _ x df ag hb
   generalize tok p 0=tk at *;have im:=ey 5 tk.at_ tk.s [b] [[qT b]] (gi _);refine ai Tryz.func304 Tryz.ntmps304 ?_;refine ab [0] ht ?_;refine ab [0] dG ?_;refine ab [0] h1 ?_;refine ab [0] h2 ?_;refine aI (aB 0 7 (.a 7 (.a 8 (.a 9 (.q 10 .nil))))) ?_;refine ar ?_;refine aE [0] xK ?_;refine eA ?_;refine ar ?_;refine aE [] im ?_;exact av
 | false =>
 rw [iT] at h2
 cases sc:is p 0 [126] with
 | true =>
  rw [sc] at h3;rw [if_pos (.inr (.inr sc))] at h;have ak:p.i < p.l.length:=is_lt (k:=0) sc;have df:=(dx ak).ok hp
  cases hb:iE f (.operand (d+1)) p.next with
  | none=>rw [hb] at h;cases h
  | some r =>
   obtain ⟨b,p2⟩:=r;rw [hb] at h;cases h
   have xK:=C.operand (d+1) p.next b _ x df ag hb
   generalize tok p 0=tk at *;have im:=ey 5 tk.at_ tk.s [b] [[qT b]] (gi _);refine ai Tryz.func304 Tryz.ntmps304 ?_;refine ab [0] ht ?_;refine ab [0] dG ?_;refine ab [0] h1 ?_;refine ab [0] h2 ?_;refine ab [0] h3 ?_;refine aI (aB 0 7 (.a 7 (.a 8 (.a 9 (.q 10 .nil))))) ?_;refine ar ?_;refine aE [0] xK ?_;refine eA ?_;refine ar ?_;refine aE [] im ?_;exact av
 | false =>
 rw [sc] at h3;rw [if_neg (by rw [gz,iT,sc];decide)] at h
 by_cases hk:(tok p 0).kind=1
 case pos =>
  rw [if_pos hk] at h;have ak:p.i < p.l.length:=rO (k:=0) ag
  have ly:((tok p 0).kind==1)=true:=by simpa using hk
  cases h;generalize tok p 0=tk at *;have im:=NQ 1 tk.at_ [] [];refine ai Tryz.func304 Tryz.ntmps304 ?_;refine ab [0] ht ?_;refine ab [0] dG ?_;refine ab [0] h1 ?_;refine ab [0] h2 ?_;refine ab [0] h3 ?_;refine ab [] im ?_;refine GW.wk (Wk.freeze (i:=2) rfl rfl rfl (Nat.le_of_ble_eq_true rfl)) ?_;exact al
 case neg =>
 rw [if_neg hk] at h
 have ly:((tok p 0).kind==1)=false:=by simpa using hk
 have h4:=jO p 0 [40] x hp aJ
 cases w6:is p 0 [40] with
 | true =>
  rw [w6] at h4;rw [if_pos w6] at h;have ak:p.i < p.l.length:=is_lt (k:=0) w6;have df:=(dx ak).ok hp
  cases hb:iE f (.expr (d+1)) p.next with
  | none=>rw [hb] at h;cases h
  | some r =>
   obtain ⟨b,p2⟩:=r;rw [hb] at h;cases h;have dH:=((iX f).1 _ _ _ _ df hb).ok df
   have xK:=C.expr (d+1) p.next _ p2 x df ag hb
   have hw:=eM p2 [41] x dH;generalize tok p 0=tk at *;refine ai Tryz.func304 Tryz.ntmps304 ?_;refine ab [0] ht ?_;refine ab [0] dG ?_;refine ab [0] h1 ?_;refine ab [0] h2 ?_;refine ab [0] h3 ?_;refine ab [0] h4 ?_;refine ab [0] xK ?_;refine bS ?_;refine ae ?_;refine ab [0] hw ?_;exact al
 | false =>
 rw [w6] at h4;rw [if_neg (by rw [w6];decide)] at h;have hn:=qO p x hp;have df:=(gP hp).ok hp
 by_cases gW:(bm p).code=0
 case neg =>
  rw [if_neg gW] at h
  have Y6:((bm p).code != 0)=true:=by simpa using gW
  cases h;generalize tok p 0=tk at *;generalize bm p=p1 at *;have im:=ey 2 tk.at_ tk.s [] [] rfl;refine ai Tryz.func304 Tryz.ntmps304 ?_;refine ab [0] ht ?_;refine ab [0] dG ?_;refine ab [0] h1 ?_;refine ab [0] h2 ?_;refine ab [0] h3 ?_;refine ab [0] h4 ?_;refine ab [0] hn ?_;refine ab [] im ?_;exact al
 case pos =>
 rw [if_pos gW] at h
 have Y6:((bm p).code != 0)=false:=by simpa using gW
 generalize bm p=p1 at *;generalize tok p 0=tk at *;have h5:=jO p1 0 [91] x df aJ;have aas:=df.2;have aar:=df.1
 cases hs5:is p1 0 [91] with
 | true =>
  rw [hs5] at h5;rw [if_pos hs5] at h;have ak:p1.i < p1.l.length:=is_lt (k:=0) hs5;have Fu:=(dx ak).ok df
  cases hb:iE f (.expr (d+1)) p1.next with
  | none=>rw [hb] at h;cases h
  | some r =>
   obtain ⟨b,p2⟩:=r;rw [hb] at h;cases h;have dH:=((iX f).1 _ _ _ _ Fu hb).ok Fu
   have xK:=C.expr (d+1) p1.next b p2 x Fu ag hb
   have hw:=eM p2 [93] x dH;have im:=ey 3 tk.at_ tk.s [b] [[qT b]] (gi _);refine ai Tryz.func304 Tryz.ntmps304 ?_;refine ab [0] ht ?_;refine ab [0] dG ?_;refine ab [0] h1 ?_;refine ab [0] h2 ?_;refine ab [0] h3 ?_;refine ab [0] h4 ?_;refine ab [0] hn ?_;refine ab [0] h5 ?_;refine ab [0] xK ?_;refine bS ?_;refine ae ?_;refine ab [0] hw ?_;refine bS ?_;refine ae ?_;refine ab [] im ?_;exact al
 | false =>
 rw [hs5] at h5;rw [if_neg (by rw [hs5];decide)] at h;have h6:=jO p1 0 [40] x df aJ
 cases hs6:is p1 0 [40] with
 | true =>
  rw [hs6] at h6;rw [if_pos hs6] at h;have ak:p1.i < p1.l.length:=is_lt (k:=0) hs6;have Fu:=(dx ak).ok df
  cases hb:iA f (d+1) [] p1.next with
  | none=>rw [hb] at h;cases h
  | some r =>
   obtain ⟨b,p2⟩:=r;rw [hb] at h;cases h
   have xK:=C.exprs (d+1) p1.next b _ x Fu ag hb
   have im:=ey 4 tk.at_ tk.s b (ke b) rfl;refine ai Tryz.func304 Tryz.ntmps304 ?_;refine ab [0] ht ?_;refine ab [0] dG ?_;refine ab [0] h1 ?_;refine ab [0] h2 ?_;refine ab [0] h3 ?_;refine ab [0] h4 ?_;refine ab [0] hn ?_;refine ab [0] h5 ?_;refine ab [0] h6 ?_;refine aI (aB 0 6 (.a 6 (.a 7 (.q 8 .nil)))) ?_;refine ar ?_;refine aE [0] xK ?_;refine aE [] im ?_;exact av
 | false =>
  rw [hs6] at h6;rw [if_neg (by rw [hs6];decide)] at h;cases h;have im:=ey 2 tk.at_ tk.s [] [] rfl;refine ai Tryz.func304 Tryz.ntmps304 ?_;refine ab [0] ht ?_;refine ab [0] dG ?_;refine ab [0] h1 ?_;refine ab [0] h2 ?_;refine ab [0] h3 ?_;refine ab [0] h4 ?_;refine ab [0] hn ?_;refine ab [0] h5 ?_;refine ab [0] h6 ?_;refine ab [] im ?_;exact al
theorem Yc (f:Nat):HP f:=by
 induction f using Nat.strongRecOn with
 | _ f ih =>
  cases f with
  | zero=>exact ⟨fun d p t q x _ _ h=>by simp [iE] at h,fun k d p t q x _ _ _ h=>by simp [iE] at h,fun d p t q x _ _ h=>by simp [iE] at h,fun d p l q x _ _ h=>by simp [iA] at h⟩
  | succ f =>
   have C:=ih f (Nat.lt_succ_self f)
   have Cs:∀ f',f'<=f->HP f':=fun f' h=>ih f' (Nat.lt_succ_of_le h)
   exact ⟨fun d p t q x hp hd h=>Ua C d p t q x hp hd h,fun k d p t q x hp hk hd h=>SV Cs k d p t q x hp hk hd h,fun d p t q x hp hd h=>NU C d p t q x hp hd h,fun d p l q x hp hd h=>SA Cs d p l q x hp hd h⟩
end Go.Xg
namespace Go.Im
open Go.Xp Go.Sp
def VS (f d:Nat) (p:RS):Option (T × RS) :=
 if (tok p 0).kind=2/\is p 1 [61]=true then match iE f (.expr (d+1)) (want (bm p) [61]) with
  | none=>none
  | some (e,q)=>some (one 7 (tok p 0).at_ (tok p 0).s [e],want q [59])
 else match iE f (.expr (d+1)) p with
  | none=>none
  | some (e,q) =>
   if wE p q e then match e.kids,iE f (.expr (d+1)) (want q [61]) with
    | a::_,some (v,q)=>some (one 8 (tok p 0).at_ e.n.s [a,v],want q [59])
    | _,_=>none
   else some (one 12 (tok p 0).at_ [] [e],want q [59])
end Go.Im
namespace Go.Xg
open Go.RowKit Go.Xw Go.Proofs
open Go.Xp (Tok Nd T bh one levels gn dN eg dv dd oy)
open Go.Sp Go.Im
attribute [local irreducible] GW GL GO YG GC GA aV aZ
theorem Qu {f:Nat} (d:Nat) (p:RS) (t:T) (q:RS) (x:PX) (hp:p.ok) (hd:d+1+f<=1099511627776) (h:VS f d p=some (t,q)) :
  GF Tryz.prog 289 [.loc 0 0,.v (ii (d:Nat))] [bK p x] (qT t) [bK q x]:=by
 unfold VS at h;have C:=Yc f;have ht:=rn p 0 x hp aJ;have hi:=jO p 1 [61] x hp aJ
 have main:∀ kk,((tok p 0).kind==2)=kk->(kk=true->is p 1 [61]=false)->GF Tryz.prog 289 [.loc 0 0,.v (ii (d:Nat))] [bK p x] (qT t) [bK q x]:=by
  intro kk hk oh
  rw [if_neg (fun hh=>by
   have h1:kk=true:=by rw [<-hk];simpa using hh.1
   have h2:=oh h1
   rw [hh.2] at h2;cases h2)] at h
  cases he:iE f (.expr (d+1)) p with
  | none=>rw [he] at h;cases h
  | some r =>
   obtain ⟨e,q1⟩:=r;rw [he] at h;simp only at h;have qu:=((iX f).1 _ _ _ _ hp he).ok hp;have aax:=qu.1;have aay:=qu.2;have hex:=C.expr (d+1) p e q1 x hp ag he;have Rl:=jO q1 0 [61] x qu aJ
   have E9:e.n.kind=3->q1.code=0->∃ zD,q1.l[q1.i - 1]?=some zD/\ue q1=zD.s/\1<=q1.i:=by
    intro _ hc;have h1:=Vi f _ _ _ _ hp he hc (fun k d out h=>by cases h);have h2:=qu.1
    have ak:q1.i - 1 < q1.l.length:=by omega
    exact ⟨q1.l[q1.i - 1],by simp [ak],by unfold ue;simp [ak],by omega⟩
   by_cases hput:wE p q1 e
   ·rw [if_pos hput] at h;have kA:=hput;obtain ⟨s1,s2,s3,s4,s5,s6⟩:=kA;obtain ⟨zD,a1,a2,a3⟩:=E9 s1 s2
    have iM:kk=true:=by rw [<-hk];simpa using s5
    subst iM;have zj:=oh rfl;rw [zj] at hi;rw [s6] at Rl
    match vc:e.kids,hv:iE f (.expr (d+1)) (want q1 [61]),h with
    | a::rk,some (v,q2),h =>
     cases h;have lQ:=(cj qu [61]).ok qu;have IA:=((iX f).1 _ _ _ _ lQ hv).ok lQ;have hw:=eM q1 [61] x qu;have Za:=C.expr (d+1) _ v q2 x lQ ag hv;have oJ:=eM q2 [59] x IA;have hr:=km a1;have dh:(ke e.kids)[0]?=some [qT a]:=Bv (by rw [vc];rfl);have Na:(ke (a::rk))[0]?=some [qT a]:=Bv rfl
     have b1:(e.n.kind==3)=true:=by simpa using s1
     have b2:(q1.code==0)=true:=by simpa using s2
     have b3:(zD.s==[93])=true:=by rw [<-a2];simpa using s3
     have b4:(e.n.at_==(tok p 0).at_)=true:=by simpa using s4
     have im:=ey 8 (tok p 0).at_ e.n.s [a,v] [[qT a],[qT v]] (gi _);generalize tok p 0=tk at *;refine ai Tryz.func289 Tryz.ntmps289 ?_;refine ab [0] ht ?_;refine ab [0] hi ?_;refine ab [0] hex ?_;refine aI (aB 0 45 (.a 45 (.q 46 .nil))) ?_;refine ar ?_;refine bB [0] Rl ?_;refine ae ?_;refine bS ?_;refine ae ?_;refine ab [0] hw ?_;refine ab [0] Za ?_;refine bS ?_;refine ae ?_;refine ab [0] oJ ?_;refine aI (aB 0 14 (.a 14 (.a 15 (.q 16 .nil)))) ?_;refine ar ?_;refine eA ?_;refine ar ?_;refine aE [] im ?_;exact av
    | [],_,h=>simp at h
    | _::_,none,h=>simp at h
   ·rw [if_neg hput] at h;cases h;have hw:=eM q1 [59] x qu;have im:=ey 12 (tok p 0).at_ [] [e] [[qT e]] (gi _)
    cases kk with
    | true =>
     have zj:=oh rfl;rw [zj] at hi;refine ai Tryz.func289 Tryz.ntmps289 ?_;refine ab [0] ht ?_;refine ab [0] hi ?_;refine ab [0] hex ?_;refine GW.join (fun fr Γ=>fr=[.loc 0 0,.v (ii (d:Nat)),.U,.U,.U,.loc 1 0,.U,.U,qT e,.U,.U,.U,.U,.U,.U,.U,.U,.U,.U,.U,.U,.U,.U,.U,.U,.U,.U,.U,.U,.U,.U,.U,.U,.U,.U,.U,.U,.U,.U,.U,.U,.U,.U,.U,.U,.U,.U,.U,.U,.U,.U,.U,.U,.U,.U,.U,.U,.U,.U,.U,.U,.U,.U,.U,.U,.U,.U,.U,.U,.U,.U,.U,.U,.U,.U,.U,.U,.U,.U,.U,.U,.U,.U,.U,.U,.U,.U,.v (.bool false),.U,.U,.U,.U,.U,.U,.U,.U,.U,.U,.U,.U,.U,.U,.U,.U,.U,.U,.U,.U,.U,.U,.U,.U,.U,.U,.U,.U,.U,.U,.U,.U,.U,.U]/\Γ=[bK q1 x,.box 203 (da (tok p 0))]) ?_ ?_
     ·by_cases s1:e.n.kind=3
      ·have b1:(e.n.kind==3)=true:=by simpa using s1
       by_cases s2:q1.code=0
       ·have b2:(q1.code==0)=true:=by simpa using s2
        obtain ⟨zD,a1,a2,a3⟩:=E9 s1 s2;have hr:=km a1
        by_cases s3:ue q1=[93]
        ·have b3:(zD.s==[93])=true:=by rw [<-a2];simpa using s3
         by_cases s4:e.n.at_=(tok p 0).at_
         ·have b4:(e.n.at_==(tok p 0).at_)=true:=by simpa using s4
          have s6:is q1 0 [61]=false:=by
           cases h6:is q1 0 [61] with
           | false=>rfl
           | true=>exact absurd ⟨s1,s2,s3,s4,by simpa using hk,h6⟩ hput
          rw [s6] at Rl;generalize tok p 0=tk at *;refine aI (aB 0 45 (.a 45 (.q 46 .nil))) ?_;refine ar ?_;refine bB [0] Rl ?_;exact ik
         ·have b4:(e.n.at_==(tok p 0).at_)=false:=by simpa using s4
          generalize tok p 0=tk at *;refine aI (aB 0 45 (.a 45 (.q 46 .nil))) ?_;refine bf ?_;exact jo
        ·have b3:(zD.s==[93])=false:=by rw [<-a2];simpa using s3
         generalize tok p 0=tk at *;refine aI (aB 0 45 (.a 45 (.q 46 .nil))) ?_;refine bf ?_;exact jo
       ·have b2:(q1.code==0)=false:=by simpa using s2
        generalize tok p 0=tk at *;refine aI (aB 0 45 (.a 45 (.q 46 .nil))) ?_;refine bf ?_;exact jo
      ·have b1:(e.n.kind==3)=false:=by simpa using s1
       generalize tok p 0=tk at *;refine aI (aB 0 45 (.a 45 (.q 46 .nil))) ?_;refine bf ?_;exact jo
     ·rintro _ _ ⟨rfl,rfl⟩;generalize tok p 0=tk at *;refine ae ?_;refine bS ?_;refine ae ?_;refine ab [0] hw ?_;refine bS ?_;refine ae ?_;refine ab [] im ?_;exact al
    | false =>
     refine ai Tryz.func289 Tryz.ntmps289 ?_;refine ab [0] ht ?_;refine ab [0] hex ?_;refine GW.join (fun fr Γ=>fr=[.loc 0 0,.v (ii (d:Nat)),.U,.U,.U,.loc 1 0,.U,.U,qT e,.U,.U,.U,.U,.U,.U,.U,.U,.U,.U,.U,.U,.U,.U,.U,.U,.U,.U,.U,.U,.U,.U,.U,.U,.U,.U,.U,.U,.U,.U,.U,.U,.U,.U,.U,.U,.U,.U,.U,.U,.U,.U,.U,.U,.U,.U,.U,.U,.U,.U,.U,.U,.U,.U,.U,.U,.U,.U,.U,.U,.U,.U,.U,.U,.U,.U,.U,.U,.U,.U,.U,.U,.U,.U,.U,.U,.U,.U,.v (.bool false),.U,.U,.U,.U,.U,.U,.U,.U,.U,.U,.U,.U,.U,.U,.U,.U,.U,.U,.U,.U,.U,.U,.U,.U,.U,.U,.U,.U,.U,.U,.U,.U,.U,.U]/\Γ=[bK q1 x,.box 203 (da (tok p 0))]) ?_ ?_
     ·by_cases s1:e.n.kind=3
      ·have b1:(e.n.kind==3)=true:=by simpa using s1
       by_cases s2:q1.code=0
       ·have b2:(q1.code==0)=true:=by simpa using s2
        obtain ⟨zD,a1,a2,a3⟩:=E9 s1 s2;have hr:=km a1
        by_cases s3:ue q1=[93]
        ·have b3:(zD.s==[93])=true:=by rw [<-a2];simpa using s3
         by_cases s4:e.n.at_=(tok p 0).at_
         ·have b4:(e.n.at_==(tok p 0).at_)=true:=by simpa using s4
          generalize tok p 0=tk at *;refine aI (aB 0 45 (.a 45 (.q 46 .nil))) ?_;refine bf ?_;exact jo
         ·have b4:(e.n.at_==(tok p 0).at_)=false:=by simpa using s4
          generalize tok p 0=tk at *;refine aI (aB 0 45 (.a 45 (.q 46 .nil))) ?_;refine bf ?_;exact jo
        ·have b3:(zD.s==[93])=false:=by rw [<-a2];simpa using s3
         generalize tok p 0=tk at *;refine aI (aB 0 45 (.a 45 (.q 46 .nil))) ?_;refine bf ?_;exact jo
       ·have b2:(q1.code==0)=false:=by simpa using s2
        generalize tok p 0=tk at *;refine aI (aB 0 45 (.a 45 (.q 46 .nil))) ?_;refine bf ?_;exact jo
      ·have b1:(e.n.kind==3)=false:=by simpa using s1
       generalize tok p 0=tk at *;refine aI (aB 0 45 (.a 45 (.q 46 .nil))) ?_;refine bf ?_;exact jo
     ·rintro _ _ ⟨rfl,rfl⟩;generalize tok p 0=tk at *;refine ae ?_;refine bS ?_;refine ae ?_;refine ab [0] hw ?_;refine bS ?_;refine ae ?_;refine ab [] im ?_;exact al
 by_cases hk:(tok p 0).kind=2
 ·cases zj:is p 1 [61] with
  | true =>
   clear main;rw [if_pos ⟨hk,zj⟩] at h;rw [zj] at hi
   have ly:((tok p 0).kind==2)=true:=by simpa using hk
   have hn:=qO p x hp;have df:=(gP hp).ok hp;have hw:=eM (bm p) [61] x df;have lQ:=(cj df [61]).ok df
   cases he:iE f (.expr (d+1)) (want (bm p) [61]) with
   | none=>rw [he] at h;cases h
   | some r =>
    obtain ⟨e,q1⟩:=r;rw [he] at h;cases h;have qu:=((iX f).1 _ _ _ _ lQ he).ok lQ;have hex:=C.expr (d+1) _ e q1 x lQ ag he;have oJ:=eM q1 [59] x qu;have im:=ey 7 (tok p 0).at_ (tok p 0).s [e] [[qT e]] (gi _);generalize tok p 0=tk at *;refine ai Tryz.func289 Tryz.ntmps289 ?_;refine ab [0] ht ?_;refine ab [0] hi ?_;refine ab [0] hn ?_;refine bS ?_;refine ae ?_;refine ab [0] hw ?_;refine ab [0] hex ?_;refine bS ?_;refine ae ?_;refine ab [0] oJ ?_;refine bS ?_;refine ae ?_;refine ab [] im ?_;exact al
  | false=>exact main true (by simpa using hk) (fun _=>zj)
 ·exact main false (by simpa using hk) (fun h=>by cases h)
end Go.Xg
namespace Go.Xg
open Go.RowKit Go.Xw Go.Proofs
open Go.Xp (Tok Nd T bh one levels gn dN eg dv dd oy qz)
open Go.Sp Go.Im
attribute [local irreducible] GW GL GO YG GC GA aV aZ
theorem NP (k a:Int) (s:ah):GF Tryz.prog 271 [.v (ii k),.v (ii a),.v (sv s),.v (.slice none 0 0)] [] (.loc 0 0) [.box 190 [.v (ii k),.v (ii a),.v (ii 0),.v (sv s),.v (.slice none 0 0),.v (.slice none 0 0)]]:=by
 refine ai Tryz.func271 Tryz.ntmps271 ?_;refine GW.wk (Wk.cells 0 rfl (ds:=[.v (ii k),.v (ii a),.v (ii 0),.v (sv s),.v (.slice none 0 0),.v (.slice none 0 0)]) jg) ?_;refine GW.ret ?_;refine rV (n:=1) rfl cl rfl (Nat.zero_le _) rfl rfl ?_;exact ⟨rfl,rfl⟩
structure QT (f:Nat):Prop where
 block:∀ d p t q x,p.ok->d+3+f<=1099511627776->iS f (.block d) p=some (t,q)->GF Tryz.prog 244 [.loc 0 0,.v (ii (d:Nat))] [bK p x] (qT t) [bK q x]
 stmt:∀ d p t q x,p.ok->d+3+f<=1099511627776->iS f (.stmt d) p=some (t,q)->GF Tryz.prog 273 [.loc 0 0,.v (ii (d:Nat))] [bK p x] (qT t) [bK q x]
theorem Sh {f:Nat} (C:∀ f',f'<=f->QT f') (d:Nat) (p:RS) (t:T) (q:RS) (x:PX) (hp:p.ok) (hd:d+3+(f+1)<=1099511627776) (h:iS (f+1) (.block d) p=some (t,q)) :
  GF Tryz.prog 244 [.loc 0 0,.v (ii (d:Nat))] [bK p x] (qT t) [bK q x]:=by
 rw [iS] at h;have dG:=vT p d x hp;have ht:=rn p 0 x hp aJ;have De:=NP 14 (tok p 0).at_ []
 by_cases hc:(bM p d).code=0
 case neg =>
  have du:((bM p d).code==0)=false:=by simpa using hc
  rw [if_neg hc] at h;rw [du] at dG;cases h;generalize tok p 0=tk at *;refine ai Tryz.func244 Tryz.ntmps244 ?_;refine ab [0] ht ?_;refine ab [] De ?_;refine ab [0] dG ?_;refine GW.wk (Wk.cells 1 rfl (ds:=[.v (ii 14),.v (ii tk.at_),.v (ii 0),.v (sv []),.v (.slice none 0 0),.sl 1 []]) jg) ?_;refine GW.wk (Wk.freeze (i:=1) rfl rfl rfl (Nat.le_of_ble_eq_true rfl)) ?_;exact al
 case pos =>
 have du:((bM p d).code==0)=true:=by simpa using hc
 rw [if_pos hc] at h;rw [du,oB hc] at dG;clear hc du;have lQ:=(cj hp [123]).ok hp;have hw:=eM p [123] x hp
 cases he:iB f (d+1) [] (want p [123]) with
 | none=>rw [he] at h;cases h
 | some r =>
  obtain ⟨l,q1⟩:=r;rw [he] at h;cases h;generalize tok p 0=tk at *;refine ai Tryz.func244 Tryz.ntmps244 ?_;refine ab [0] ht ?_;refine ab [] De ?_;refine ab [0] dG ?_;refine bS ?_;refine ae ?_;refine ab [0] hw ?_;refine GW.wk (Wk.KG (i:=1) (o:=5) 152 1 rfl rfl) ?_;refine GW.loop (fun z:Nat × List T × RS=>z.1) (fun z fr Γ=>∃ n rows,fr=[.loc 0 0,.v (ii (d:Nat)),.U,.U,.U,.loc 1 0,.U,.U,.U,.U,.U,.U,.U,.U,.U,.U,.U,.U,.U,.U,.U,.U,.U,.U,.U,.U,.U,.U,.U,.U,.U,.U,.U,.U,.U,.U,.U,.U,.U,.U,.U,.U,.U,.U,.U]/\Γ=[bK z.2.2 x,.box 190 [.v (ii 14),.v (ii tk.at_),.v (ii 0),.v (sv []),.v (.slice none 0 0),.vec 2 n],.vec 152 1 0 rows]/\rows.length=n/\rows=ke z.2.1/\n+z.1<=f/\z.2.2.ok/\iB z.1 (d+1) z.2.1 z.2.2=some (l,q1)) (f,[],want p [123]) ?_ ?_
  ·exact ⟨_,_,Wk.aC aq,0,[],rfl,rfl,rfl,rfl,by simp,lQ,he⟩
  ·clear he lQ hw dG ht;rintro ⟨g,acc,p⟩ _ _ ⟨n,rows,rfl,rfl,hn,bt,zm,hp,h⟩;simp only at bt zm hp h
   cases g with
   | zero=>simp [iB] at h
   | succ g =>
   rw [iB] at h;have hi:=jO p 0 [125] x hp aJ
   by_cases hc:p.code=0
   ·have du:(p.code==0)=true:=by simpa using hc
    cases hs:is p 0 [125] with
    | true =>
     rw [hs] at hi;rw [if_neg (fun hh=>by have:=hh.2;rw [hs] at this;cases this)] at h
     obtain ⟨rfl,rfl⟩:acc=l/\p=q1:=by simpa using h
     have hw:=eM p [125] x hp;subst bt;refine ae ?_;refine ab [0] hi ?_;refine jd ?_;refine ae ?_;refine bS ?_;refine ae ?_;refine ab [0] hw ?_;refine GW.wk (Wk.yP (i:=1) (o:=5) rfl rfl rfl rfl hn) ?_;refine GW.wk (Wk.freeze (i:=1) rfl rfl rfl (Nat.le_of_ble_eq_true rfl)) ?_;exact al
    | false =>
     rw [hs] at hi;rw [if_pos ⟨hc,hs⟩] at h
     cases hb:iS g (.stmt (d+1)) p with
     | none=>rw [hb] at h;cases h
     | some r =>
      obtain ⟨a,p2⟩:=r;rw [hb] at h;simp only at h;have dH:=((Ee g).1 _ _ _ _ hp hb).ok hp;have cq:=(C g ag).stmt (d+1) p a p2 x hp ag hb;refine ae ?_;refine ab [0] hi ?_;refine aI (aB 0 8 (.a 8 (.a 9 (.a 10 (.q 11 (.q 12 (.a 13 .nil))))))) ?_;refine ar ?_;refine aE [0] cq ?_;refine eA ?_;refine ar ?_;refine CF ?_;refine bf ?_;exact ⟨(g,acc++[a],p2),⟨_,_,Wk.aC aq,_,_,rfl,rfl,by simp [hn],by rw [vt,bt];rfl,by show n+1+g<=f;omega,dH,h⟩,by simp⟩
   ·have du:(p.code==0)=false:=by simpa using hc
    rw [if_neg (fun hh=>hc hh.1)] at h
    obtain ⟨rfl,rfl⟩:acc=l/\p=q1:=by simpa using h
    have hw:=eM p [125] x hp;subst bt;refine bI ?_;refine ae ?_;refine bS ?_;refine ae ?_;refine ab [0] hw ?_;refine GW.wk (Wk.yP (i:=1) (o:=5) rfl rfl rfl rfl hn) ?_;refine GW.wk (Wk.freeze (i:=1) rfl rfl rfl (Nat.le_of_ble_eq_true rfl)) ?_;exact al
theorem VY {f:Nat} (C:QT f) (d:Nat) (p:RS) (t:T) (q:RS) (x:PX) (hp:p.ok) (hd:d+3+(f+1)<=1099511627776) (h:iS (f+1) (.stmt d) p=some (t,q)) :
  GF Tryz.prog 273 [.loc 0 0,.v (ii (d:Nat))] [bK p x] (qT t) [bK q x]:=by
 rw [iS] at h;have E:=Yc f;have dG:=vT p d x hp;have ht:=rn p 0 x hp aJ
 by_cases hc:(bM p d).code=0
 case neg =>
  have du:((bM p d).code==0)=false:=by simpa using hc
  rw [if_neg hc] at h;rw [du] at dG;cases h;refine ai Tryz.func273 Tryz.ntmps273 ?_;refine ab [0] ht ?_;refine ab [0] dG ?_;refine ab [] G1 ?_;exact al
 case pos =>
 have du:((bM p d).code==0)=true:=by simpa using hc
 rw [if_pos hc] at h;rw [du,oB hc] at dG;clear hc du;have cR:=hp.2;have Dg:=hp.1;have h1:=jO p 0 gn x hp aJ;have h2:=jO p 0 dN x hp aJ;have h3:=jO p 0 dv x hp aJ;have h4:=jO p 0 dd x hp aJ
 cases gz:is p 0 gn with
 | true =>
  rw [gz] at h1;rw [if_pos gz] at h;have ak:p.i < p.l.length:=is_lt (k:=0) gz;have df:=(dx ak).ok hp
  have hn:=qO p.next x df
  have xN:=(gP df).ok df;have hw:=eM _ [61] x xN;have lQ:=(cj xN [61]).ok xN
  cases he:iE f (.expr (d+1)) (want (bm p.next) [61]) with
  | none=>rw [he] at h;cases h
  | some r =>
   obtain ⟨e,q1⟩:=r;rw [he] at h;cases h;have qu:=((iX f).1 _ _ _ _ lQ he).ok lQ;have hex:=E.expr (d+1) _ e q1 x lQ ag he;have oJ:=eM q1 [59] x qu;have im:=ey 13 (tok p 0).at_ (tok p.next 0).s [e] [[qT e]] (gi _);generalize tok p 0=tk at *
   generalize tok p.next 0=tn at *
   refine ai Tryz.func273 Tryz.ntmps273 ?_;refine ab [0] ht ?_;refine ab [0] dG ?_;refine ab [0] h1 ?_;refine ab [0] hn ?_;refine bS ?_;refine ae ?_;refine ab [0] hw ?_;refine ab [0] hex ?_;refine bS ?_;refine ae ?_;refine ab [0] oJ ?_;refine bS ?_;refine ae ?_;refine ab [] im ?_;exact al
 | false =>
 rw [gz] at h1;rw [if_neg (by rw [gz];decide)] at h
 have main:∀ bi bw:Bool,is p 0 dN=bi->is p 0 dv=bw->(bi=true\/bw=true)->GF Tryz.prog 273 [.loc 0 0,.v (ii (d:Nat))] [bK p x] (qT t) [bK q x]:=by
  intro bi bw u7 XQ ve
  have ng:is p 0 dN=true\/is p 0 dv=true:=by rw [u7,XQ];exact ve
  have ak:p.i < p.l.length:=by rcases ng with hh | hh <;> exact is_lt (k:=0) hh
  rw [if_pos ng] at h;have df:=(dx ak).ok hp
  have hw:=eM p.next [40] x df
  have lQ:=(cj df [40]).ok df
  cases he:iE f (.expr (d+1)) (want p.next [40]) with
  | none=>rw [he] at h;cases h
  | some r =>
  obtain ⟨c,q1⟩:=r;rw [he] at h;simp only at h;have qu:=((iX f).1 _ _ _ _ lQ he).ok lQ;have hex:=E.expr (d+1) _ c q1 x lQ ag he;have oJ:=eM q1 [41] x qu;have UZ:=(cj qu [41]).ok qu
  cases hb:iS f (.block (d+1)) (want q1 [41]) with
  | none=>rw [hb] at h;cases h
  | some r =>
  obtain ⟨b,q2⟩:=r;rw [hb] at h;simp only at h;have IA:=((Ee f).1 _ _ _ _ UZ hb).ok UZ;have aaA:=IA.2;have aaz:=IA.1;have dk:=C.block (d+1) _ b q2 x UZ ag hb;have eY:=jO q2 0 eg x IA aJ;rw [u7] at h2;rw [XQ] at h3
  cases bi with
  | true =>
   have Kd:∀ (cc ee:Bool),(q2.code==0)=cc->is q2 0 eg=ee->(cc=false\/ee=false)->GF Tryz.prog 273 [.loc 0 0,.v (ii (d:Nat))] [bK p x] (qT t) [bK q x]:=by
    intro cc ee sW wX UW
    rw [if_neg (fun hh=>by
     rcases UW with h0 | h0
     ·rw [h0] at sW;have:=hh.2.1;simp [this] at sW
     ·rw [h0] at wX;rw [wX] at hh;exact absurd hh.2.2 aJ),if_pos u7] at h
    cases h;rw [wX] at eY;have im:=ey 9 (tok p 0).at_ [] [c,b] [[qT c],[qT b]] (gi _);generalize tok p 0=tk at *
    cases cc with
    | true =>
     cases ee with
     | true=>simp at UW
     | false =>
      refine ai Tryz.func273 Tryz.ntmps273 ?_;refine ab [0] ht ?_;refine ab [0] dG ?_;refine ab [0] h1 ?_;refine ab [0] h2 ?_;refine ab [0] h2 ?_;refine bS ?_;refine ae ?_;refine ab [0] hw ?_;refine ab [0] hex ?_;refine kK ?_;refine ae ?_;refine bS ?_;refine ae ?_;refine ab [0] oJ ?_;refine ab [0] dk ?_;refine eQ ?_;refine ae ?_;refine ab [0] eY ?_;refine GL.wk (Wk.jx (t:=108) rfl rfl rfl rfl) ?_;refine bJ ?_;refine ab [] im ?_;exact al
    | false =>
     refine ai Tryz.func273 Tryz.ntmps273 ?_;refine ab [0] ht ?_;refine ab [0] dG ?_;refine ab [0] h1 ?_;refine ab [0] h2 ?_;refine ab [0] h2 ?_;refine bS ?_;refine ae ?_;refine ab [0] hw ?_;refine ab [0] hex ?_;refine kK ?_;refine ae ?_;refine bS ?_;refine ae ?_;refine ab [0] oJ ?_;refine ab [0] dk ?_;refine eQ ?_;refine ae ?_;refine GL.wk (Wk.jx (t:=108) rfl rfl rfl rfl) ?_;refine bJ ?_;refine ab [] im ?_;exact al
   by_cases jK:q2.code=0
   ·cases wX:is q2 0 eg with
    | true =>
     clear Kd;rw [if_pos ⟨u7,jK,wX⟩] at h;rw [wX] at eY
     have sW:(q2.code==0)=true:=by simpa using jK
     have mU:q2.i < q2.l.length:=is_lt (k:=0) wX;have hqn:=(dx mU).ok IA
     cases eJ:iS f (.block (d+1)) q2.next with
     | none=>rw [eJ] at h;cases h
     | some r =>
      obtain ⟨b2,q3⟩:=r;rw [eJ] at h;cases h;have WD:=C.block (d+1) _ b2 _ x hqn ag eJ;have im:=ey 9 (tok p 0).at_ [] [c,b,b2] [[qT c],[qT b],[qT b2]] (gi _);generalize tok p 0=tk at *;refine ai Tryz.func273 Tryz.ntmps273 ?_;refine ab [0] ht ?_;refine ab [0] dG ?_;refine ab [0] h1 ?_;refine ab [0] h2 ?_;refine ab [0] h2 ?_;refine bS ?_;refine ae ?_;refine ab [0] hw ?_;refine ab [0] hex ?_;refine kK ?_;refine ae ?_;refine bS ?_;refine ae ?_;refine ab [0] oJ ?_;refine ab [0] dk ?_;refine eQ ?_;refine ae ?_;refine ab [0] eY ?_;refine ab [0] WD ?_;refine eQ ?_;refine ae ?_;refine GL.wk (Wk.jx (t:=108) rfl rfl rfl rfl) ?_;refine bJ ?_;refine ab [] im ?_;exact al
    | false=>exact Kd true false (by simpa using jK) wX (.inr rfl)
   ·exact Kd false _ (by simpa using jK) rfl (.inl rfl)
  | false =>
   have Y5:bw=true:=by simpa using ve
   subst Y5;rw [if_neg (fun hh=>by have:=hh.1;rw [u7] at this;cases this),if_neg (by rw [u7];decide)] at h;cases h;have im:=ey 10 (tok p 0).at_ [] [c,b] [[qT c],[qT b]] (gi _);generalize tok p 0=tk at *;refine ai Tryz.func273 Tryz.ntmps273 ?_;refine ab [0] ht ?_;refine ab [0] dG ?_;refine ab [0] h1 ?_;refine ab [0] h2 ?_;refine ab [0] h3 ?_;refine ab [0] h2 ?_;refine bS ?_;refine ae ?_;refine ab [0] hw ?_;refine ab [0] hex ?_;refine kK ?_;refine ae ?_;refine bS ?_;refine ae ?_;refine ab [0] oJ ?_;refine ab [0] dk ?_;refine eQ ?_;refine ae ?_;refine GL.wk (Wk.jx (t:=108) rfl rfl rfl rfl) ?_;refine bJ ?_;refine ab [] im ?_;exact al
 cases iT:is p 0 dN with
 | true=>exact main true _ iT rfl (.inl rfl)
 | false =>
 cases sc:is p 0 dv with
 | true=>exact main false true iT sc (.inr rfl)
 | false =>
 clear main;rw [iT] at h2;rw [sc] at h3;rw [if_neg (by rw [iT,sc];decide)] at h
 cases w6:is p 0 dd with
 | true =>
  rw [w6] at h4;rw [if_pos w6] at h;have ak:p.i < p.l.length:=is_lt (k:=0) w6;have df:=(dx ak).ok hp
  cases he:iE f (.expr (d+1)) p.next with
  | none=>rw [he] at h;cases h
  | some r =>
   obtain ⟨e,q1⟩:=r;rw [he] at h;cases h;have qu:=((iX f).1 _ _ _ _ df he).ok df;have hex:=E.expr (d+1) _ e q1 x df ag he;have oJ:=eM q1 [59] x qu;have im:=ey 11 (tok p 0).at_ [] [e] [[qT e]] (gi _);generalize tok p 0=tk at *;refine ai Tryz.func273 Tryz.ntmps273 ?_;refine ab [0] ht ?_;refine ab [0] dG ?_;refine ab [0] h1 ?_;refine ab [0] h2 ?_;refine ab [0] h3 ?_;refine ab [0] h4 ?_;refine ab [0] hex ?_;refine bS ?_;refine ae ?_;refine ab [0] oJ ?_;refine bS ?_;refine ae ?_;refine ab [] im ?_;exact al
 | false =>
  rw [w6] at h4;rw [if_neg (by rw [w6];decide)] at h;have U4:=Qu (f:=f) d p t q x hp ag h;generalize tok p 0=tk at *;refine ai Tryz.func273 Tryz.ntmps273 ?_;refine ab [0] ht ?_;refine ab [0] dG ?_;refine ab [0] h1 ?_;refine ab [0] h2 ?_;refine ab [0] h3 ?_;refine ab [0] h4 ?_;refine ab [0] U4 ?_;exact al
theorem Yf (f:Nat):QT f:=by
 induction f using Nat.strongRecOn with
 | _ f ih =>
  cases f with
  | zero=>exact ⟨fun d p t q x _ _ h=>by simp [iS] at h,fun d p t q x _ _ h=>by simp [iS] at h⟩
  | succ f =>
   have C:=ih f (Nat.lt_succ_self f)
   have Cs:∀ f',f'<=f->QT f':=fun f' h=>ih f' (Nat.lt_succ_of_le h)
   exact ⟨fun d p t q x hp hd h=>Sh Cs d p t q x hp hd h,fun d p t q x hp hd h=>VY C d p t q x hp hd h⟩
end Go.Xg
namespace Go.Xg
open Go.RowKit Go.Xw Go.Proofs
open Go.Xp (Tok Nd T aP az lO ef bX)
attribute [local irreducible] GW GL GO YG GC GA aV aZ
def rY (n:Nd):List GV:=[.v (ii n.kind),.v (ii n.at_),.v (ii n.n),.v (sv n.s),ints n.kids]
def Cw (t:T) (x:Value):List GV:=[.v (ii t.n.kind),.v (ii t.n.at_),.v (ii t.n.n),.v (sv t.n.s),.v x]
theorem Ms:∀ (N:Nat) (t:T),aP t<=N->∀ (n:Nat) (rows:List (List GV)) (a:Option Addr) (c:Nat),rows.length=n->n+aP t<=1099511627776 ->
  GC Tryz.prog 207 [.v (.slice a n c),qT t] [.vech 91 5 rows (.slice a n c)] fun g aK=>∃ a c,g=.v (.slice a (n+aP t) c)/\aK=[.vech 91 5 (rows++(lO n t).map rY) (.slice a (n+aP t) c)]:=by
 intro N
 induction N with
 | zero=>intro t h;rw [Go.Xp.eh] at h;omega
 | succ N ih =>
 intro t hN n rows a c hn hb;subst hn;rw [Go.Xp.eh] at hb hN;have eS:=Go.Xp.bL t.kids;refine ai Tryz.func207 Tryz.ntmps207 ?_;refine GL.jw 0 rfl rfl rfl rfl rfl rfl rfl rfl aR me ?_;intro a c;refine bJ ?_;refine ae ?_;refine GW.wk (Wk.oY 3 1) ?_
 refine GW.range (ke t.kids).length (fun k fr Γ=>∃ a c a2 c2,fr=[.v (.slice a (rows.length+1+az (t.kids.take k)) c),qT t,.U,.U,.U,.v (ii (rows.length:Nat)),.U,.U,.U,.U,.U,.U,.U,.U,.U,.U,.U,.U,.U,.U,.sl 1 (ke t.kids),.v (ii ((ke t.kids).length:Int)),.v (ii (k:Nat)),.U,.U,.U,.U,.U,.U,.U,.U,.U,.U,.U,.U,.U,.U,.U,.U,.U,.U,.U,.U,.U] /\
  Γ=[.vech 91 5 (rows++Cw t (.slice a2 k c2)::(ef (rows.length+1) (t.kids.take k)).map rY) (.slice a (rows.length+1+az (t.kids.take k)) c),.vech 3 1 ((bX (rows.length+1) (t.kids.take k)).map fun z=>[.v (ii z)]) (.slice a2 k c2)]) ?_ (by rw [mO];omega) ?_ ?_ ?_
 ·refine ⟨_,_,Wk.aC aq,a,c,none,0,rfl,?_⟩;rfl
 ·rintro k _ _ ⟨a,c,a2,c2,rfl,rfl⟩;exact dQ
 ·rintro k _ _ ak ⟨a,c,a2,c2,rfl,rfl⟩;rw [mO] at ak;obtain ⟨kid,fq⟩:∃ kid,t.kids[k]?=some kid:=⟨t.kids[k],by simp [ak]⟩;have hr:=Bv fq;have cU:=Go.Xp.uI fq;have hle:=Go.Xp.uH t.kids (k+1)
  have j0:t.kids.take (k+1)=t.kids.take k++[kid]:=by rw [take_add_one,fq];rfl
  have hX:((ef (rows.length+1) (t.kids.take k)).map rY).length=az (t.kids.take k):=by rw [length_map,Go.Xp.yv]
  have vc:((bX (rows.length+1) (t.kids.take k)).map fun z=>[GV.v (ii z)]).length=k:=by rw [length_map,Go.Xp.dX,length_take];omega
  rw [j0,Go.Xp.Kj,Go.Xp.Ik,Go.Xp.mQ];simp only [bX,ef,az,append_nil,Nat.add_zero,map_append,List.map_cons,map_nil,<-Nat.add_assoc]
  have Dd:=fun (rs:List (List GV)) a c h=>ih kid ag (rows.length+1+az (t.kids.take k)) rs a c h ag
  generalize (ef (rows.length+1) (t.kids.take k)).map rY=X at *;generalize ((bX (rows.length+1) (t.kids.take k)).map fun z=>[GV.v (ii z)])=ks at *;generalize az (t.kids.take k)=s at *;subst vc
  have jB:∀ r:List GV,(rows++r::X).length=rows.length+1+s:=fun r=>by simp;omega
  have bt:(rows++Cw t (.slice a2 ks.length c2)::X)[rows.length]?=some (Cw t (.slice a2 ks.length c2)):=by simp
  have eT:=jB (Cw t (.slice a2 ks.length c2));unfold Cw at bt eT |-;refine ae ?_;refine GL.jw 1 rfl rfl rfl rfl rfl rfl rfl rfl aR me ?_;intro a3 c3;refine bJ ?_;refine ae ?_;refine oO ?_;rw [Gh];simp only [bs];refine ae ?_;refine cn [0] (Dd _ _ _ (jB _)) ?_;rintro _ _ ⟨a4,c4,rfl,rfl⟩;refine cX ?_;refine ae ?_;refine ⟨rfl,rfl,_,_,Wk.aC aq,a4,c4,a3,c3,rfl,?_⟩;rw [List.append_assoc];rfl
 ·rintro _ _ ⟨a,c,a2,c2,rfl,rfl⟩;rw [mO,take_length];rw [Go.Xp.eh,Go.Xp.Mq]
  have vc:((bX (rows.length+1) t.kids).map fun z=>[GV.v (ii z)]).length=t.kids.length:=by rw [length_map,Go.Xp.dX]
  have oh:ints (bX (rows.length+1) t.kids)=.sl 1 ((bX (rows.length+1) t.kids).map fun z=>[GV.v (ii z)]):=rfl;rw [List.map_cons];simp only [rY,Cw];rw [oh,show rows.length+(az t.kids+1)=rows.length+1+az t.kids by omega];generalize (ef (rows.length+1) t.kids).map rY=X at *;generalize ((bX (rows.length+1) t.kids).map fun z=>[GV.v (ii z)])=ks at *;generalize az t.kids=s at *
  have bt:∀ r:List GV,(rows++r::X)[rows.length]?=some r:=fun r=>by simp
  refine bb ?_;apply GW.wk
  ·apply Wk.KZ (i:=0) (idx:=rows.length) (o:=4) (j:=1)
   ·rfl
   ·exact bt _
   ·rfl
   ·rfl
   ·rfl
  rw [Gh];simp only [bs];refine ae ?_;refine bR ?_;exact ⟨_,_,rfl,rfl⟩
end Go.Xg
namespace Go.Xg
open Go.RowKit Go.Xw Go.Proofs
open Go.Xp (Tok Nd T bh one levels gn dN eg dv dd lj mF oy Ar)
open Go.Sp Go.Im
attribute [local irreducible] GW GL GO YG GC GA aV aZ
structure HW where
 aT:Option Addr
 cT:Nat
 aG:Option Addr
 cG:Nat
 aA:Option Addr
 cA:Nat
 aF:Option Addr
 cF:Nat
def qS (x:Ar):List GV:=[.v (sv x.name),.v (ii x.size)]
def qa (x:ah × List ah):List GV:=[.v (sv x.1),strs x.2,.v (ii 0)]
def kX (x:ah):List GV:=[.v (sv x)]
abbrev hx (st:PS) (h:HW):PX:=⟨.slice h.aT st.trees.length h.cT,.slice h.aG st.globals.length h.cG,.slice h.aA st.arrays.length h.cA,.slice h.aF st.fns.length h.cF,.slice none 0 0⟩
abbrev uB (p:RS) (st:PS) (h:HW):List Ob:=[bK p (hx st h),.vech 152 1 (ke st.trees) (.slice h.aT st.trees.length h.cT),.vech 9 1 (st.globals.map kX) (.slice h.aG st.globals.length h.cG),.vech 88 2 (st.arrays.map qS) (.slice h.aA st.arrays.length h.cA),.vech 60 3 (st.fns.map qa) (.slice h.aF st.fns.length h.cF)]
theorem wq {α β:Type} (g:α->β) (l:List α) (x:α):(l++[x]).map g=l.map g++[g x]:=by simp
theorem OJ {f:Nat} (p:RS) (st:PS) (h:HW) (q:RS) (dT:PS) (n:Nat) (hp:p.ok) (hn:st.le n) (hb:n+1<=1099511627776) (hs:is p 0 lj=true) (hw:iW f p st=some (q,dT)) :
  GC Tryz.prog 206 [.loc 0 0] (uB p st h) (fun g aK=>g=.tup []/\∃ h',aK=uB q dT h'):=by
 obtain ⟨Dg,cR⟩:=id hp;obtain ⟨Fo,bO,hn3,hn4⟩:=hn;unfold iW at hw;rw [if_pos hs] at hw;have hi:=jO p 0 lj (hx st h) hp aJ;rw [hs] at hi;have lA:=(jy hs).ok hp
 have eL:=qO p.next (hx st h) lA
 have dH:=(gP lA).ok lA;generalize (tok p.next 0).s=s at *
 generalize bm p.next=p2 at *
 have r6:=jO p2 0 [91] (hx st h) dH aJ
 have aaa:¬ (p2.code=0/\is p2 0 [91]=true)->True:=fun _=>trivial
 cases hc:(p2.code==0) with
 | false =>
  have du:¬ p2.code=0:=by simpa using hc
  rw [if_neg (fun hh=>du hh.1)] at hw;cases hw
  have xF:(st.globals.map kX).length+1=(st.globals++[s]).length:=by simp
  have pk:st.globals.map kX++[[GV.v (sv s)]]=(st.globals++[s]).map kX:=by simp [kX]
  have hlen:(st.globals.map kX).length+1<=1099511627776:=by simp;omega
  refine ai Tryz.func206 Tryz.ntmps206 ?_;refine ab [0] hi ?_;refine ab [0] eL ?_;refine GL.jw 2 rfl rfl rfl rfl rfl rfl rfl rfl aR me ?_;intro a c;refine bJ ?_;rw [xF,pk];refine ae ?_;refine bS ?_;refine ae ?_;refine ab [0] (eM p2 [59] (hx { st with globals:=st.globals++[s] } { h with aG:=a,cG:=c }) dH) ?_;refine cW ?_;exact ⟨rfl,{ h with aG:=a,cG:=c },rfl⟩
 | true =>
  have du:p2.code=0:=by simpa using hc
  cases eJ:is p2 0 [91] with
  | false =>
   rw [eJ] at r6;rw [if_neg (fun hh=>by have:=hh.2;rw [eJ] at this;cases this)] at hw;cases hw
   have xF:(st.globals.map kX).length+1=(st.globals++[s]).length:=by simp
   have pk:st.globals.map kX++[[GV.v (sv s)]]=(st.globals++[s]).map kX:=by simp [kX]
   have hlen:(st.globals.map kX).length+1<=1099511627776:=by simp;omega
   refine ai Tryz.func206 Tryz.ntmps206 ?_;refine ab [0] hi ?_;refine ab [0] eL ?_;refine ab [0] r6 ?_;refine GL.jw 2 rfl rfl rfl rfl rfl rfl rfl rfl aR me ?_;intro a c;refine bJ ?_;rw [xF,pk];refine ae ?_;refine bS ?_;refine ae ?_;refine ab [0] (eM p2 [59] (hx { st with globals:=st.globals++[s] } { h with aG:=a,cG:=c }) dH) ?_;refine cW ?_;exact ⟨rfl,{ h with aG:=a,cG:=c },rfl⟩
  | true =>
   rw [eJ] at r6;rw [if_pos ⟨du,eJ⟩] at hw;have zo:=(jy eJ).ok dH;have aat:=dH.1;have UX:=dH.2;have aau:=zo.1;have aav:=zo.2
   have ht:=rn p2.next 0 (hx st h) zo aJ
   have FD:=yT p2.next (hx st h) zo
   have E9:(tok p2.next 0).kind=1->p2.next.next.ok:=fun hk=>(dx (rO (p:=p2.next) (k:=0) (by rw [hk];decide))).ok zo
   generalize tok p2.next 0=tk at *
   by_cases hk:tk.kind=1
   ·rw [if_pos hk] at hw;cases hw
    have ly:(tk.kind != 1)=false:=by simpa using hk
    have Rs:=E9 hk;have aaw:=Rs.1
    have FB:=eM p2.next.next [93] (hx st h) Rs
    have hp5:=(cj Rs [93]).ok Rs
    generalize want p2.next.next [93]=p5 at *
    have xF:(st.arrays.map qS).length+1=(st.arrays++[(⟨s,tk.n⟩:Ar)]).length:=by simp
    have pk:st.arrays.map qS++[[GV.v (sv s),.v (ii tk.n)]]=(st.arrays++[(⟨s,tk.n⟩:Ar)]).map qS:=by simp [qS]
    have hlen:(st.arrays.map qS).length+1<=1099511627776:=by simp;omega
    refine ai Tryz.func206 Tryz.ntmps206 ?_;refine ab [0] hi ?_;refine ab [0] eL ?_;refine ab [0] r6 ?_;refine ab [0] ht ?_;refine bS ?_;refine ae ?_;refine ab [0] FB ?_;refine aI (aB 0 10 (.a 10 (.a 11 (aB 12 3 (.a 15 .nil))))) ?_;refine ar ?_;refine eA ?_;refine ar ?_;refine OA rfl rfl (GL.pJ 3 rfl rfl rfl aR rfl rfl (by refine ⟨?_,?_⟩;(· show _+1<=_;omega);(· show (_+1) * _<=_;omega)) ?_);intro a c;refine dA ?_;generalize hX:chunk 1 2 _=X
    obtain rfl:X=[qS ⟨s,tk.n⟩]:=by rw [<-hX];rfl
    clear hX
    try (generalize hX:chunk 1 2 _=X;obtain rfl:X=[qS ⟨s,tk.n⟩]:=by rw [<-hX];rfl)
    rw [show (st.arrays.map qS).length+[qS ⟨s,tk.n⟩].length=(st.arrays++[(⟨s,tk.n⟩:Ar)]).length by simp,<-wq qS st.arrays ⟨s,tk.n⟩];refine bf ?_;refine bS ?_;refine ae ?_;refine ab [0] (eM p5 [59] (hx { st with arrays:=st.arrays++[⟨s,tk.n⟩] } { h with aA:=a,cA:=c }) hp5) ?_;refine cW ?_;exact ⟨rfl,{ h with aA:=a,cA:=c },rfl⟩
   ·rw [if_neg hk] at hw;cases hw
    have ly:(tk.kind != 1)=true:=by simpa using hk
    refine ai Tryz.func206 Tryz.ntmps206 ?_;refine ab [0] hi ?_;refine ab [0] eL ?_;refine ab [0] r6 ?_;refine ab [0] ht ?_;refine ab [0] FD ?_;refine cW ?_;exact ⟨rfl,h,rfl⟩
theorem Ln {f:Nat} (p:RS) (st:PS) (h:HW) (q:RS) (dT:PS) (hp:p.ok) (hs:is p 0 lj=false) (iT:is p 0 mF=false) (hw:iW f p st=some (q,dT)) :
  GC Tryz.prog 206 [.loc 0 0] (uB p st h) (fun g aK=>g=.tup []/\∃ h',aK=uB q dT h'):=by
 unfold iW at hw;rw [if_neg (by rw [hs];decide),if_neg (by rw [iT];decide)] at hw;cases hw;have hi:=jO p 0 lj (hx st h) hp aJ;have r6:=jO p 0 mF (hx st h) hp aJ;have FD:=yT p (hx st h) hp;rw [hs] at hi;rw [iT] at r6;refine ai Tryz.func206 Tryz.ntmps206 ?_;refine ab [0] hi ?_;refine ab [0] r6 ?_;refine ab [0] FD ?_;refine cW ?_;exact ⟨rfl,h,rfl⟩
abbrev Ws (p:RS) (st:PS) (h:HW) (s:ah) (acc:List ah) (a:Option Addr) (c:Nat):List Ob:=uB p st h++[.box 60 [.v (sv s),.v (.slice a acc.length c),.v (ii 0)],.vech 9 1 (acc.map kX) (.slice a acc.length c)]
theorem Lo {f:Nat} (p:RS) (st:PS) (h:HW) (q:RS) (dT:PS) (n:Nat) (hp:p.ok) (hn:st.le n) (hb:n+f+4<=1099511627776) (rE:is p 0 lj=false) (hs:is p 0 mF=true) (hw:iW f p st=some (q,dT)) :
  GC Tryz.prog 206 [.loc 0 0] (uB p st h) (fun g aK=>g=.tup []/\∃ h',aK=uB q dT h'):=by
 obtain ⟨Dg,cR⟩:=id hp;obtain ⟨Fo,bO,hn3,hn4⟩:=hn;unfold iW at hw;rw [if_neg (by rw [rE];decide),if_pos hs] at hw;have xG:=jO p 0 lj (hx st h) hp aJ;rw [rE] at xG;have hi:=jO p 0 mF (hx st h) hp aJ;rw [hs] at hi;have lA:=(jy hs).ok hp
 have eL:=qO p.next (hx st h) lA
 have dH:=(gP lA).ok lA;generalize (tok p.next 0).s=s at *
 generalize bm p.next=p2 at *
 have oJ:=eM p2 [40] (hx st h) dH;have zo:=(cj dH [40]).ok dH;generalize want p2 [40]=p3 at *
 cases hm:oK f [] p3 with
 | none=>rw [hm] at hw;cases hw
 | some r =>
 obtain ⟨l,q1⟩:=r;rw [hm] at hw;simp only at hw;refine ai Tryz.func206 Tryz.ntmps206 ?_;refine ab [0] xG ?_;refine ab [0] hi ?_;refine ab [0] eL ?_;refine bS ?_;refine ae ?_;refine ab [0] oJ ?_;refine GW.wk (Wk.oY 9 1) ?_;refine GW.loop (fun z:Nat × List ah × RS=>z.1) (fun z fr Γ=>∃ a c,fr=[.loc 0 0,.U,.U,.U,.loc 5 0,.U,.U,.U,.U,.U,.U,.U,.U,.U,.U,.U,.U,.U,.U,.U,.U,.U,.U,.U,.U,.U,.U,.U,.U,.U,.U,.U,.U,.U,.U,.U,.U,.U,.U,.U,.U,.U,.U,.U,.U,.U,.U,.U,.U,.U,.U,.U,.U,.U,.U,.U,.U,.U,.U,.U,.U,.U,.U,.U,.U,.U,.U,.U,.U,.U,.U,.U,.U,.U,.U,.U,.U,.U,.U,.U,.U,.U,.U,.U,.U,.U,.U,.U,.U,.U,.U,.U,.U,.U,.U,.U,.U,.U,.U,.U,.U,.U,.U,.U,.U,.U,.U,.U,.U,.U,.U,.U,.U,.U,.U,.U,.U,.U,.U,.U,.U,.U,.U,.U,.U,.U,.U,.U,.U,.U,.U,.U,.U,.U,.U,.U,.U,.U,.U,.U,.U,.U,.U,.U,.U,.U,.U,.U,.U,.U,.U,.U,.U]/\Γ=Ws z.2.2 st h s z.2.1 a c/\z.2.2.ok/\z.2.1.length+z.1<=f/\oK z.1 z.2.1 z.2.2=some (l,q1)) (f,[],p3) ?_ ?_
 ·exact ⟨_,_,Wk.aC aq,none,0,rfl,rfl,zo,by simp,hm⟩
 clear hm zo oJ dH eL hi xG lA;rintro ⟨g,acc,p⟩ _ _ ⟨a,c,rfl,rfl,hp,zm,hm⟩;simp only at hp zm hm
 cases g with
 | zero=>cases hm
 | succ g =>
 rw [oK] at hm;have hi:=jO p 0 [41] (hx st h) hp aJ
 by_cases hgo:p.code=0/\is p 0 [41]=false
 ·obtain ⟨hc,sc⟩:=id hgo;rw [if_pos hgo] at hm;rw [sc] at hi
  have du:(p.code==0)=true:=by simpa using hc
  by_cases h0:acc.length=0
  ·obtain rfl:=List.eq_nil_of_length_eq_zero h0
   have hd:decide ((0:Int) < (([]:List ah).length:Int))=false:=by decide
   rw [if_pos (by rfl)] at hm;have eL:=qO p (hx st h) hp;have dH:=(gP hp).ok hp;generalize (tok p 0).s=s2 at *;refine ae ?_;refine ab [0] hi ?_;refine aI (aB 0 3 (.a 3 (.a 4 (.a 5 (.q 6 (.a 7 .nil)))))) ?_;refine ar ?_;refine aE [0] eL ?_;refine eA ?_;refine ar ?_;refine OA rfl rfl (GL.pJ 6 (news:=[kX s2]) rfl rfl rfl aR rfl rfl (by refine ⟨?_,?_⟩;(· show _+1<=_;omega);(· show (_+1) * _<=_;omega)) ?_);intro a2 c2;refine dA ?_;refine bf ?_;exact ⟨(g,[s2],bm p),⟨_,_,Wk.aC aq,a2,c2,rfl,rfl,dH,by simp at zm |-;omega,hm⟩,by simp⟩
  ·have hd:decide ((0:Int) < (acc.length:Int))=true:=by simpa using by omega
   rw [if_neg h0] at hm;have hwc:=eM p [44] (hx st h) hp;have lQ:=(cj hp [44]).ok hp;generalize want p [44]=pw at *;have eL:=qO pw (hx st h) lQ;have dH:=(gP lQ).ok lQ;generalize (tok pw 0).s=s2 at *
   have hlen:(acc.map kX).length<=f:=by simp;omega
   refine ae ?_;refine ab [0] hi ?_;refine bS ?_;refine ae ?_;refine ab [0] hwc ?_;refine aI (aB 0 3 (.a 3 (.a 4 (.a 5 (.q 6 (.a 7 .nil)))))) ?_;refine ar ?_;refine aE [0] eL ?_;refine eA ?_;refine ar ?_;refine OA rfl rfl (GL.pJ 6 (news:=[kX s2]) rfl rfl rfl aR rfl rfl (by refine ⟨?_,?_⟩;(· show _+1<=_;omega);(· show (_+1) * _<=_;omega)) ?_);intro a2 c2;refine dA ?_
   try rw [show (acc.map kX).length+1=(acc++[s2]).length by simp]
   rw [show (acc.map kX).length+[kX s2].length=(acc++[s2]).length by simp,<-wq kX acc s2];refine bf ?_;exact ⟨(g,acc++[s2],bm pw),⟨_,_,Wk.aC aq,a2,c2,rfl,rfl,dH,by simp;omega,hm⟩,by simp⟩
 ·rw [if_neg hgo] at hm
  obtain ⟨rfl,rfl⟩:acc=l/\want p [41]=q1:=by simpa using hm
  clear hm;have RA:=eM p [41] (hx st h) hp;have XZ:=(cj hp [41]).ok hp
  have eT:(ke st.trees).length+1<=1099511627776:=by rw [mO];omega
  have jB:(st.fns.map qa).length+1<=1099511627776:=by simp;omega
  by_cases hc:p.code=0
  ·have du:(p.code==0)=true:=by simpa using hc
   have sc:is p 0 [41]=true:=by
    cases h3:is p 0 [41] with
    | true=>rfl
    | false=>exact absurd ⟨hc,h3⟩ hgo
   rw [sc] at hi
   by_cases hqc:(want p [41]).code=0
   ·have PB:((want p [41]).code==0)=true:=by simpa using hqc
    rw [if_pos hqc] at hw
    cases en:iS f (.block 1) (want p [41]) with
    | none=>rw [en] at hw;cases hw
    | some r =>
    obtain ⟨t,qq⟩:=r;rw [en] at hw
    obtain ⟨rfl,rfl⟩:qq=q/\_=dT:=by simpa using hw
    have dk:=(Yf f).block 1 _ t qq (hx st h) XZ ag en;clear en hqc;generalize want p [41]=pq at *;refine ae ?_;refine ab [0] hi ?_;refine jd ?_;refine ae ?_;refine bS ?_;refine ae ?_;refine ab [0] RA ?_;refine aI (aB 0 6 (.a 6 (.a 7 (.a 8 (.q 9 (.q 10 (.a 11 .nil))))))) ?_;refine ar ?_;refine aE [0] dk ?_;refine eA ?_;refine ar ?_;refine OA rfl rfl (GL.pJ 1 (news:=[[qT t]]) rfl rfl rfl aR rfl rfl (by refine ⟨?_,?_⟩;(· show _+1<=_;omega);(· show (_+1) * _<=_;omega)) ?_);intro a3 c3;refine dA ?_
    try rw [show (ke st.trees).length+1=(st.trees++[t]).length by simp [mO]]
    rw [show (ke st.trees).length+[[qT t]].length=(st.trees++[t]).length by simp [mO],<-vt st.trees t];refine bf ?_;apply GW.wk
    ·apply Wk.yN (i:=5) (o:=1) (j:=6)
     ·rfl
     ·rfl
     ·rfl
     ·rfl
    simp only [oset,bs];refine aI (aB 0 7 (.a 7 (.a 8 (aB 9 3 (.a 12 .nil))))) ?_;refine ar ?_;refine eA ?_;refine ar ?_;refine OA rfl rfl (GL.pJ 4 (news:=[qa (s,acc)]) rfl rfl rfl aR rfl rfl (by refine ⟨?_,?_⟩;(· show _+1<=_;omega);(· show (_+1) * _<=_;omega)) ?_);intro a4 c4;refine dA ?_
    try rw [show (st.fns.map qa).length+1=(st.fns++[(s,acc)]).length by simp]
    rw [show (st.fns.map qa).length+[qa (s,acc)].length=(st.fns++[(s,acc)]).length by simp,<-wq qa st.fns (s,acc)];refine bf ?_;refine cW ?_;exact ⟨rfl,{ h with aT:=a3,cT:=c3,aF:=a4,cF:=c4 },rfl⟩
   ·have PB:((want p [41]).code==0)=false:=by simpa using hqc
    rw [if_neg hqc] at hw;cases hw;clear hqc;generalize want p [41]=pq at *;refine ae ?_;refine ab [0] hi ?_;refine jd ?_;refine ae ?_;refine bS ?_;refine ae ?_;refine ab [0] RA ?_;refine cW ?_;exact ⟨rfl,h,rfl⟩
  ·have du:(p.code==0)=false:=by simpa using hc
   by_cases hqc:(want p [41]).code=0
   ·have PB:((want p [41]).code==0)=true:=by simpa using hqc
    rw [if_pos hqc] at hw
    cases en:iS f (.block 1) (want p [41]) with
    | none=>rw [en] at hw;cases hw
    | some r =>
    obtain ⟨t,qq⟩:=r;rw [en] at hw
    obtain ⟨rfl,rfl⟩:qq=q/\_=dT:=by simpa using hw
    have dk:=(Yf f).block 1 _ t qq (hx st h) XZ ag en;clear en hqc;generalize want p [41]=pq at *;refine bI ?_;refine ae ?_;refine bS ?_;refine ae ?_;refine ab [0] RA ?_;refine aI (aB 0 6 (.a 6 (.a 7 (.a 8 (.q 9 (.q 10 (.a 11 .nil))))))) ?_;refine ar ?_;refine aE [0] dk ?_;refine eA ?_;refine ar ?_;refine OA rfl rfl (GL.pJ 1 (news:=[[qT t]]) rfl rfl rfl aR rfl rfl (by refine ⟨?_,?_⟩;(· show _+1<=_;omega);(· show (_+1) * _<=_;omega)) ?_);intro a3 c3;refine dA ?_
    try rw [show (ke st.trees).length+1=(st.trees++[t]).length by simp [mO]]
    rw [show (ke st.trees).length+[[qT t]].length=(st.trees++[t]).length by simp [mO],<-vt st.trees t];refine bf ?_;apply GW.wk
    ·apply Wk.yN (i:=5) (o:=1) (j:=6)
     ·rfl
     ·rfl
     ·rfl
     ·rfl
    simp only [oset,bs];refine aI (aB 0 7 (.a 7 (.a 8 (aB 9 3 (.a 12 .nil))))) ?_;refine ar ?_;refine eA ?_;refine ar ?_;refine OA rfl rfl (GL.pJ 4 (news:=[qa (s,acc)]) rfl rfl rfl aR rfl rfl (by refine ⟨?_,?_⟩;(· show _+1<=_;omega);(· show (_+1) * _<=_;omega)) ?_);intro a4 c4;refine dA ?_
    try rw [show (st.fns.map qa).length+1=(st.fns++[(s,acc)]).length by simp]
    rw [show (st.fns.map qa).length+[qa (s,acc)].length=(st.fns++[(s,acc)]).length by simp,<-wq qa st.fns (s,acc)];refine bf ?_;refine cW ?_;exact ⟨rfl,{ h with aT:=a3,cT:=c3,aF:=a4,cF:=c4 },rfl⟩
   ·have PB:((want p [41]).code==0)=false:=by simpa using hqc
    rw [if_neg hqc] at hw;cases hw;clear hqc;generalize want p [41]=pq at *;refine bI ?_;refine ae ?_;refine bS ?_;refine ae ?_;refine ab [0] RA ?_;refine cW ?_;exact ⟨rfl,h,rfl⟩
end Go.Xg
namespace Go.Xg
open Go.RowKit Go.Xw Go.Proofs
open Go.Xp (Tok Nd T bh one levels gn dN eg dv dd lj mF oy Ar az aP ef lO)
open Go.Sp Go.Im
attribute [local irreducible] GW GL GO YG GC GA aV aZ
theorem TF {f:Nat} (p:RS) (st:PS) (h:HW) (q:RS) (dT:PS) (n:Nat) (hp:p.ok) (hn:st.le n) (hb:n+f+4<=1099511627776) (hw:iW f p st=some (q,dT)) :
  GC Tryz.prog 206 [.loc 0 0] (uB p st h) (fun g aK=>g=.tup []/\∃ h',aK=uB q dT h'):=by
 cases h1:is p 0 lj with
 | true=>exact OJ p st h q dT n hp hn ag h1 hw
 | false =>
  cases h2:is p 0 mF with
  | true=>exact Lo p st h q dT n hp hn hb h1 h2 hw
  | false=>exact Ln p st h q dT hp h1 h2 hw
def np (fns:List (ah × List ah)) (trees:List T) (k:Nat):List (List GV):=fns.mapIdx fun i x=>[.v (sv x.1),strs x.2,.v (ii (if i < k then ((az (trees.take i):Nat):Int) else 0))]
theorem Gg:∀ (rows:List (List GV)) (i j o:Nat) (g:GV),(dm rows i o g)[j]?=if j=i then (rows[j]?).map (fun r=>bs r o g) else rows[j]?
 | [],i,j,o,g=>by simp [dm]
 | r::rs,0,0,o,g=>by simp [dm]
 | r::rs,0,j+1,o,g=>by simp [dm]
 | r::rs,i+1,0,o,g=>by simp [dm]
 | r::rs,i+1,j+1,o,g=>by
  rw [dm,getElem?_cons_succ,Gg rs i j o g];simp
theorem Te (fns:List (ah × List ah)) (trees:List T):fns.map qa=np fns trees 0:=by
 apply ext_getElem?;intro i;rw [np,getElem?_mapIdx,getElem?_map]
 cases fns[i]? <;> simp [qa]
theorem N2 (fns:List (ah × List ah)) (trees:List T) (k:Nat):dm (np fns trees k) k 2 (.v (ii ((az (trees.take k):Nat):Int)))=np fns trees (k+1):=by
 apply ext_getElem?;intro i;rw [Gg,np,np,getElem?_mapIdx,getElem?_mapIdx]
 by_cases h:i=k
 ·subst h;rw [if_pos rfl]
  cases fns[i]? with
  | none=>rfl
  | some x=>simp [bs]
 ·rw [if_neg h]
  cases fns[i]? with
  | none=>rfl
  | some x =>
   have:(i < k)=(i < k+1):=by simp;omega
   simp [this]
theorem Ql {fns:List (ah × List ah)} {trees:List T} {k:Nat} (j:Nat) (h:k < fns.length):∃ x,(np fns trees j)[k]?=some [.v (sv x.1),strs x.2,.v (ii (if k < j then ((az (trees.take k):Nat):Int) else 0))]/\fns[k]?=some x:=by
 refine ⟨fns[k],?_,by simp [h]⟩;rw [np,getElem?_mapIdx];simp [h]
def I9 (q:RS) (st:PS):GV :=
 if q.code=0 then
  if az st.trees > 800 then .tup [.agg [.sl 1 [],.sl 2 [],.sl 3 [],.sl 5 []],.v (ii 10),.v (ii 0)]
  else .tup [.agg [.sl 1 (st.globals.map kX),.sl 2 (st.arrays.map qS),.sl 3 (np st.fns st.trees st.trees.length),.sl 5 ((ef 0 st.trees).map rY)],.v (ii 0),.v (ii 0)]
 else .tup [.agg [.sl 1 [],.sl 2 [],.sl 3 [],.sl 5 []],.v (ii q.code),.v (ii q.at_)]
theorem HC {G f:Nat} (ts:List Tok) (e:Int) (q:RS) (st:PS) (hl:ts.length<=1099511627776) (hb:G+f+4<=1099511627776) (hz:q.code=0->az st.trees<=1099511627776) (h:nj G f ⟨ts,0,e,0,0⟩ .empty=some (q,st)) :
  GF Tryz.prog 163 [iy ts,.v (ii e)] [] (I9 q st) []:=by
 unfold I9;refine ai Tryz.func163 Tryz.ntmps163 ?_;refine GW.wk (Wk.oY 152 1) ?_;refine GW.wk (Wk.oY 9 1) ?_;refine GW.wk (Wk.oY 88 2) ?_;refine GW.wk (Wk.oY 60 3) ?_;refine GW.loop (fun z:Nat × RS × PS=>z.1) (fun z fr Γ=>∃ h n,fr=[iy ts,.v (ii e),.U,.U,.loc 0 0,.v (ii 0),.v (ii 0),.loc 1 0,.U,.U,.U,.U,.U,.U,.U,.U,.U,.U,.U,.U,.U,.U,.U,.U,.U,.U,.U,.U,.U,.U,.U,.U,.U,.U,.U,.U,.U,.U,.U,.U,.U,.U,.U,.U,.U,.U,.U,.U,.U,.U,.U,.U,.U,.U,.U,.U,.U,.U,.U,.U,.U,.U,.U,.U,.U,.U,.U,.U,.U,.U,.U,.U,.U,.U,.U,.U,.U,.U,.U]/\Γ=.box 34 [.v (.slice none 0 0),.v (.slice none 0 0),.v (.slice none 0 0),.v (.slice none 0 0)]::uB z.2.1 z.2.2 h/\z.2.1.l=ts/\z.2.1.ok/\z.2.2.le n/\n+z.1<=G/\nj z.1 f z.2.1 z.2.2=some (q,st)) (G,⟨ts,0,e,0,0⟩,.empty) ?_ ?_
 ·exact ⟨_,_,Wk.aC aq,⟨none,0,none,0,none,0,none,0⟩,0,rfl,rfl,rfl,⟨Nat.zero_le _,hl⟩,⟨Nat.le_refl _,Nat.le_refl _,Nat.le_refl _,rfl⟩,by simp,h⟩
 clear h;rintro ⟨g,p,s⟩ _ _ ⟨hd,n,rfl,rfl,cR,hp,hn,zm,h⟩;simp only at cR hp hn zm h
 cases g with
 | zero=>cases h
 | succ g =>
 rw [nj] at h
 by_cases hgo:p.code=0/\p.i < p.l.length
 ·rw [if_pos hgo] at h
  have du:(p.code==0)=true:=by simpa using hgo.1
  have ak:decide ((p.i:Int) < ((ts.map da).length:Int))=true:=by
   have:=hgo.2;rw [cR] at this;simpa using this
  cases hw:iW f p s with
  | none=>rw [hw] at h;cases h
  | some r =>
   obtain ⟨p2,s2⟩:=r;rw [hw] at h;simp only at h;have kC:=WS hp hw;refine ae ?_;refine cn [1,2,3,4,5] (TF p s hd p2 s2 n hp hn ag hw) ?_;rintro _ _ ⟨rfl,de,rfl⟩;refine cX ?_;refine ae ?_;exact ⟨(g,p2,s2),⟨_,_,Wk.aC aq,de,n+1,rfl,rfl,by rw [kC.1,cR],kC.ok hp,WQ hw hn,by show n+1+g<=G;omega,h⟩,by simp⟩
 ·rw [if_neg hgo] at h
  obtain ⟨rfl,rfl⟩:p=q/\s=st:=by simpa using h
  clear h
  have hex:∀ b1 b2:Bool,(p.code==0)=b1->decide ((p.i:Int) < ((ts.map da).length:Int))=b2->b1=true->b2=false:=fun b1 b2 h1 h2 h3=>by
   subst h3
   cases b2 with
   | false=>rfl
   | true=>exact absurd ⟨by simpa using h1,by rw [cR];simpa using h2⟩ hgo
  by_cases hc:p.code=0
  ·rw [if_pos hc];have hz:=hz hc
   have du:(p.code==0)=true:=by simpa using hc
   have jK:(p.code != 0)=false:=by simpa using hc
   have ak:=hex _ _ du rfl rfl;have mU:=hn.trees;have hlf:=hn.fns;have s9:=mO s.trees;have pQ:=Go.Xp.bL s.trees;refine bI ?_;refine ae ?_;refine GW.wk (by apply Wk.rl (t:=52) (i:=2) <;> rfl) ?_;simp only [oset,bs];refine ae ?_;refine GW.wk (Wk.oY 91 5) ?_;rw [Te s.fns s.trees]
   refine GW.range s.trees.length (fun k fr Γ=>∃ aN cN,fr=[.U,.U,.U,.U,.loc 0 0,.v (ii 0),.v (ii 0),.U,.loc 6 0,.U,.U,.U,.U,.U,.U,.U,.U,.U,.U,.U,.U,.U,.U,.U,.U,.U,.U,.U,.U,.U,.U,.U,.U,.U,.U,.U,.U,.U,.U,.U,.U,.U,.U,.U,.U,.U,.U,.U,.U,.U,.U,.U,.sl 1 (ke s.trees),.v (ii (s.trees.length:Int)),.v (ii (k:Nat)),.U,.U,.U,.U,.U,.U,.U,.U,.U,.U,.U,.U,.U,.U,.U,.U,.U,.U,.U,.U,.U,.U,.U,.U]/\Γ=[.box 34 [.v (.slice none 0 0),.v (.slice none 0 0),.v (.slice none 0 0),.v (.slice none 0 0)],bK p (hx s hd),.vec 152 1 (ke s.trees).length (ke s.trees),.vech 9 1 (s.globals.map kX) (.slice hd.aG s.globals.length hd.cG),.vech 88 2 (s.arrays.map qS) (.slice hd.aA s.arrays.length hd.cA),.vech 60 3 (np s.fns s.trees k) (.slice hd.aF s.fns.length hd.cF),
    .box 34 [.v (.slice hd.aG s.globals.length hd.cG),.v (.slice hd.aA s.arrays.length hd.cA),.v (.slice hd.aF s.fns.length hd.cF),.v (.slice aN (az (s.trees.take k)) cN)],.vech 91 5 ((ef 0 (s.trees.take k)).map rY) (.slice aN (az (s.trees.take k)) cN)]) ?_ ag ?_ ?_ ?_
   ·exact ⟨_,_,Wk.aC aq,none,0,rfl,rfl⟩
   ·rintro k _ _ ⟨aN,cN,rfl,rfl⟩;exact dQ
   ·rintro k _ _ ak ⟨aN,cN,rfl,rfl⟩;obtain ⟨t,ht⟩:∃ t,s.trees[k]?=some t:=⟨s.trees[k],by simp [ak]⟩;have hr:=Bv ht;have cU:=Go.Xp.uI ht;have hle:=Go.Xp.uH s.trees (k+1)
    have j0:s.trees.take (k+1)=s.trees.take k++[t]:=by rw [take_add_one,ht];rfl
    obtain ⟨x,vg,IF⟩:=Ql (fns:=s.fns) (trees:=s.trees) (k:=k) k ag;rw [if_neg (Nat.lt_irrefl k)] at vg;have vf:k < (np s.fns s.trees k).length:=(List.getElem?_eq_some_iff.1 vg).1
    have hX:((ef 0 (s.trees.take k)).map rY).length=az (s.trees.take k):=by rw [length_map,Go.Xp.yv]
    have jL:=Ms (aP t) t (Nat.le_refl _) (az (s.trees.take k)) _ aN cN hX ag;rw [<-N2 s.fns s.trees k,j0,Go.Xp.Ik,Go.Xp.mQ];simp only [ef,az,append_nil,Nat.add_zero,Nat.zero_add,map_append];generalize (ef 0 (s.trees.take k)).map rY=X at *;generalize az (s.trees.take k)=z at *;generalize np s.fns s.trees k=R at *;refine ae ?_;refine oO ?_;refine ae ?_;refine cn [7] jL ?_;rintro _ _ ⟨a5,c5,rfl,rfl⟩;refine cX ?_;refine ae ?_;exact ⟨rfl,rfl,_,_,Wk.aC aq,a5,c5,rfl,rfl⟩
   ·rintro _ _ ⟨aN,cN,rfl,rfl⟩;rw [take_length]
    have hX:((ef 0 s.trees).map rY).length=az s.trees:=by rw [length_map,Go.Xp.yv]
    by_cases h8:az s.trees > 800
    ·rw [if_pos h8]
     have h8':decide ((800:Int) < (az s.trees:Int))=true:=by simpa using by omega
     generalize az s.trees=z at *;refine ae ?_;refine BE ?_;exact ⟨_,jg,rfl,rfl⟩
    ·rw [if_neg h8]
     have h8':decide ((800:Int) < (((ef 0 s.trees).map rY).length:Int))=false:=by rw [hX];simpa using by omega
     refine bb ?_;refine GW.wk (by apply Wk.yN (i:=6) (o:=0) (j:=3) <;> rfl) ?_;simp only [oset,bs];refine GW.wk (by apply Wk.yN (i:=6) (o:=1) (j:=4) <;> rfl) ?_;simp only [oset,bs];refine GW.wk (by apply Wk.yN (i:=6) (o:=2) (j:=5) <;> rfl) ?_;simp only [oset,bs];refine GW.wk (by apply Wk.yN (i:=6) (o:=3) (j:=7) <;> rfl) ?_;simp only [oset,bs];refine ae ?_;refine lV ?_;exact ⟨rfl,rfl⟩
  ·rw [if_neg hc]
   have du:(p.code==0)=false:=by simpa using hc
   have jK:(p.code != 0)=true:=by simpa using hc
   refine bI ?_;refine ae ?_;refine aI (aB 0 9 (.a 9 (.q 10 (.q 11 .nil)))) ?_;refine bf ?_;refine BE ?_;exact ⟨_,jg,rfl,rfl⟩
end Go.Xg
namespace Go.Xg
open Go.RowKit Go.Xw Go.Proofs
open Go.Xp (Tok Nd T)
open Go.Sp (small dV dP bx fb eC dC)
open Go.Im (lH jN cB gk fJ jJ jS qe kj mY pV)
attribute [local irreducible] GW GL GO YG GC GA aV aZ
theorem yo (c:UInt8):GF Tryz.prog 186 [CV c] [] (.v (.bool (dV c))) []:=by
 unfold dV;refine db Tryz.func186 Tryz.ntmps186 ?_
 cases h:decide ((48:Int)<=(c.toNat:Int))
 all_goals
  exact av
theorem Af (c:UInt8):GF Tryz.prog 146 [CV c] [] (.v (.bool (small c))) []:=by
 unfold small;refine db Tryz.func146 Tryz.ntmps146 ?_
 cases h:decide ((97:Int)<=(c.toNat:Int))
 all_goals
  exact av
theorem KE (c:UInt8):GF Tryz.prog 148 [CV c] [] (.v (.bool (dP c))) []:=by
 unfold dP;have hs:=Af c;have hd:=yo c;generalize small c=b1 at *;generalize dV c=b2 at *;refine ai Tryz.func148 Tryz.ntmps148 ?_;refine iC [] hs ?_
 cases b1 with
 | true =>
  exact av
 | false =>
  cases h1:decide ((65:Int)<=(c.toNat:Int)) with
  | true =>
   cases h2:decide ((c.toNat:Int)<=90) with
   | true =>
    exact av
   | false =>
    refine ae ?_;refine iC [] hd ?_
    cases b2 with
    | true =>
     exact av
    | false =>
     exact av
  | false =>
   refine ae ?_;refine iC [] hd ?_
   cases b2 with
   | true =>
    exact av
   | false =>
    exact av
theorem RT (test:FuncId) [hf:aH Tryz.prog test] (p:UInt8->Bool) (ht:∀ c,GF Tryz.prog test [CV c] [] (.v (.bool (p c))) []) (s:ah) (a:Nat) (hs:s.length<=1099511627776) (ha:a<=s.length) :
  GF Tryz.prog 147 [.v (sv s),.v (ii (a:Nat)),.v (.func (.func test) #[] #[])] [] (.v (ii (Go.Sp.run s p (s.length+1) a:Nat))) []:=by
 generalize hR:Go.Sp.run s p (s.length+1) a=R;refine ai Tryz.func147 Tryz.ntmps147 ?_;refine GW.loop (fun x:Nat × Nat=>x.1) (fun x fr Γ=>fr=[.v (sv s),.v (ii (x.2:Nat)),.v (.func (.func test) #[] #[]),.U,.U,.U,.U,.U,.U,.U,.U,.U,.U,.U,.U,.U,.U,.U,.U,.U,.U]/\Γ=[]/\x.2<=s.length/\s.length < x.1+x.2/\Go.Sp.run s p x.1 x.2=R) (s.length+1,a) ?_ ?_
 ·exact ⟨_,_,Wk.aC aq,rfl,rfl,ha,by simp only;omega,hR⟩
 ·rintro ⟨f,a⟩ _ _ ⟨rfl,rfl,ha,hf2,h⟩;simp only at ha hf2 h
  cases f with
  | zero=>omega
  | succ f =>
  rw [Go.Sp.run] at h
  cases hc:s[a]? with
  | none =>
   rw [hc] at h;simp only at h;subst h;have lx:s.length<=a:=List.getElem?_eq_none_iff.1 hc
   have hd:decide ((a:Int) < (s.length:Int))=false:=by simpa using lx
   refine bI ?_;exact av
  | some c =>
   rw [hc] at h;simp only at h;have ak:a < s.length:=(List.getElem?_eq_some_iff.1 hc).1
   have hd:decide ((a:Int) < (s.length:Int))=true:=by simpa using ak
   have my:=ht c
   cases hdc:p c with
   | false =>
    rw [hdc] at my;rw [if_neg (by rw [hdc];simp)] at h;subst h;refine ae ?_;refine iD [] my ?_;refine bI ?_;exact av
   | true =>
    rw [hdc] at my;rw [if_pos hdc] at h;refine ae ?_;refine iD [] my ?_;refine ae ?_;exact ⟨(f,a+1),⟨_,_,Wk.aC aq,rfl,rfl,ak,by simp only;omega,h⟩,by simp⟩
theorem N8:Go.Lib.asciiSpaceTab=vB:=by decide
theorem Mn:Go.Lib.fields [105,110,116,32,118,97,114,32,102,117,110,99,32,105,102,32,101,108,115,101,32,119,104,105,108,101,32,114,101,116,117,114,110,32,124,124,32,38,38,32,61,61,32,33,61,32,60,61,32,62,61,32,60,60,32,62,62,32,40,32,41,32,123,32,125,32,91,32,93,32,44,32,59,32,61,32,60,32,62,32,43,32,45,32,42,32,47,32,37,32,38,32,124,32,94,32,33,32,126]=lH:=by decide +kernel
theorem mi.Ah {P:Program} {f:FuncId} {vs:List Value} {w:World} {R:Value->World->Prop} (h:Calls P f vs.toArray w fun e w'=>∃ v,e=.returned v/\R v w'):mi P f vs w R:=h
theorem OU:GF Tryz.prog 216 [.v (sv [105,110,116,32,118,97,114,32,102,117,110,99,32,105,102,32,101,108,115,101,32,119,104,105,108,101,32,114,101,116,117,114,110,32,124,124,32,38,38,32,61,61,32,33,61,32,60,61,32,62,61,32,60,60,32,62,62,32,40,32,41,32,123,32,125,32,91,32,93,32,44,32,59,32,61,32,60,32,62,32,43,32,45,32,42,32,47,32,37,32,38,32,124,32,94,32,33,32,126])] [] (strs lH) []:=by
 have:=GF.ZI (P:=Tryz.prog) (f:=216) (vs:=[sv [105,110,116,32,118,97,114,32,102,117,110,99,32,105,102,32,101,108,115,101,32,119,104,105,108,101,32,114,101,116,117,114,110,32,124,124,32,38,38,32,61,61,32,33,61,32,60,61,32,62,61,32,60,60,32,62,62,32,40,32,41,32,123,32,125,32,91,32,93,32,44,32,59,32,61,32,60,32,62,32,43,32,45,32,42,32,47,32,37,32,38,32,124,32,94,32,33,32,126]]) (us:=lH.map sv) (E:=9) fun K β w ht hf=>?_
 ·rw [List.map_map] at this;exact this
 ·obtain ⟨E,z,lg⟩:=sJ.all ht hf ht.spc (zs:=vB.map fun z=>Value.int .u8 z) aJ (fun m o x hx=>by
   rw [getElem?_map] at hx;unfold xd;rw [if_neg aJ,if_neg aJ,if_pos rfl]
   cases hs:vB[o]? with
   | none=>rw [hs] at hx;cases hx
   | some y=>rw [hs] at hx;cases hx;rfl)
  have z6:Go.Lib.TabIs Tryz.prog w "strings.asciiSpace" .u8 Go.Lib.asciiSpaceTab:=by
   unfold Go.Lib.TabIs World.var?;rw [show Tryz.prog.globalNamed "strings.asciiSpace" = some 0 by kernel_rfl,N8];simp only [Option.bind_some,lg]
  have h:=Tryz.strings_Fields_laid ⟨[105,110,116,32,118,97,114,32,102,117,110,99,32,105,102,32,101,108,115,101,32,119,104,105,108,101,32,114,101,116,117,114,110,32,124,124,32,38,38,32,61,61,32,33,61,32,60,61,32,62,61,32,60,60,32,62,62,32,40,32,41,32,123,32,125,32,91,32,93,32,44,32,59,32,61,32,60,32,62,32,43,32,45,32,42,32,47,32,37,32,38,32,124,32,94,32,33,32,126].toArray⟩ w aJ (fun j b hb=>by
   have:∀ b∈([105,110,116,32,118,97,114,32,102,117,110,99,32,105,102,32,101,108,115,101,32,119,104,105,108,101,32,114,101,116,117,114,110,32,124,124,32,38,38,32,61,61,32,33,61,32,60,61,32,62,61,32,60,60,32,62,62,32,40,32,41,32,123,32,125,32,91,32,93,32,44,32,59,32,61,32,60,32,62,32,43,32,45,32,42,32,47,32,37,32,38,32,124,32,94,32,33,32,126]:List UInt8),b.toNat < 128:=by decide
   exact this b (mem_of_getElem? hb)) z6
  refine mi.Ah (Calls.mono h ?_);rintro e w' ⟨h1,h2⟩;rw [show ((⟨[105,110,116,32,118,97,114,32,102,117,110,99,32,105,102,32,101,108,115,101,32,119,104,105,108,101,32,114,101,116,117,114,110,32,124,124,32,38,38,32,61,61,32,33,61,32,60,61,32,62,61,32,60,60,32,62,62,32,40,32,41,32,123,32,125,32,91,32,93,32,44,32,59,32,61,32,60,32,62,32,43,32,45,32,42,32,47,32,37,32,38,32,124,32,94,32,33,32,126].toArray⟩:ByteArray).data.toList)=[105,110,116,32,118,97,114,32,102,117,110,99,32,105,102,32,101,108,115,101,32,119,104,105,108,101,32,114,101,116,117,114,110,32,124,124,32,38,38,32,61,61,32,33,61,32,60,61,32,62,61,32,60,60,32,62,62,32,40,32,41,32,123,32,125,32,91,32,93,32,44,32,59,32,61,32,60,32,62,32,43,32,45,32,42,32,47,32,37,32,38,32,124,32,94,32,33,32,126] from rfl,Mn] at h1 h2;exact ⟨_,h1,by rw [length_map],h2⟩
theorem Tj:GF Tryz.prog 187 [] [] (strs lH) []:=by
 have h:=OU;generalize lH=l at *;refine ai Tryz.func187 Tryz.ntmps187 ?_;refine ab [] h ?_;exact al
theorem Ac (s:ah):GF Tryz.prog 149 [.v (sv s)] [] (.v (.bool (jN s))) []:=by
 have h:=Tj;have hc:=kq lH s aJ;unfold jN;generalize lH=l at *;refine ai Tryz.func149 Tryz.ntmps149 ?_;refine ab [] h ?_;refine ab [] hc ?_;exact al
theorem Qr (s:ah) (a:Nat) (c:UInt8) (hs:s.length<=1099511627776) (hc:s[a]?=some c):GF Tryz.prog 238 [.v (sv s),.v (ii (a:Nat))] [] (.v (sv (fJ s a))) []:=by
 have ak:a < s.length:=(List.getElem?_eq_some_iff.1 hc).1;have iU:=Af c;refine ai Tryz.func238 Tryz.ntmps238 ?_;refine GW.loop (fun x:Nat=>x) (fun x fr Γ=>fr=[.v (sv s),.v (ii (a:Nat)),.U,.U,.U,.v (ii (x:Nat)),.U,.U,.U,.U,.U,.U,.U,.U,.U,.U,.U,.U,.U,.U,.U,.U,.U,.U,.U,.U,.U,.U,.U,.U,.U,.U,.U,.U,.U,.U,.U,.U]/\Γ=[]/\x<=2/\∀ j,x < j->j<=2->gk s a j=false) 2 ?_ ?_
 ·exact ⟨_,_,Wk.aC aq,rfl,rfl,Nat.le_refl _,fun j h1 h2=>by omega⟩
 ·rintro x _ _ ⟨rfl,rfl,hx,b9⟩
  have ri:∀ k,x=k+1->gk s a x=false->∀ j,k < j->j<=2->gk s a j=false:=fun k hk ht j h1 h2=>by
   by_cases hj:j=x
   ·rw [hj];exact ht
   ·exact b9 j ag h2
  have Oo:∀ k,gk s a k=(decide (a+k<=s.length)&&!(small c)&&jN (cB s a (a+k))):=fun k=>by unfold gk;rw [hc]
  match x,hx,b9,ri with
  | 0,_,b9,_ =>
   have e:fJ s a=[]:=by unfold fJ;rw [b9 2 ag ag,b9 1 ag ag];rfl
   rw [e];refine bI ?_;exact av
  | 1,_,b9,ri =>
   have hle:decide (((a+1:Nat):Int)<=(s.length:Int))=true:=by simpa using by omega
   have hb:a<=a+1/\a+1<=s.length:=by omega
   have ht:=Oo 1;rw [show decide (a+1<=s.length)=true from decide_eq_true ag] at ht
   cases hsc:small c with
   | true =>
    rw [hsc] at iU ht;refine ae ?_;refine ab [] iU ?_;exact ⟨0,⟨_,_,Wk.aC aq,rfl,rfl,by omega,ri 0 rfl ht⟩,by omega⟩
   | false =>
    rw [hsc] at iU ht;have dL:=Ac (cB s a (a+1))
    cases hg:jN (cB s a (a+1)) with
    | false =>
     rw [hg] at dL ht;refine ae ?_;refine ab [] iU ?_;refine ab [] dL ?_;exact ⟨0,⟨_,_,Wk.aC aq,rfl,rfl,by omega,ri 0 rfl ht⟩,by omega⟩
    | true =>
     rw [hg] at dL ht
     have e:fJ s a=cB s a (a+1):=by unfold fJ;rw [b9 2 ag ag,ht];rfl
     rw [e];refine ae ?_;refine ab [] iU ?_;refine ab [] dL ?_;exact al
  | 2,_,b9,ri =>
   have ht:=Oo 2
   by_cases jB:a+2<=s.length
   ·have hle:decide (((a+2:Nat):Int)<=(s.length:Int))=true:=by simpa using by omega
    have hb:a<=a+2/\a+2<=s.length:=by omega
    rw [show decide (a+2<=s.length)=true by simpa using jB] at ht
    cases hsc:small c with
    | true =>
     rw [hsc] at iU ht;refine ae ?_;refine ab [] iU ?_;exact ⟨1,⟨_,_,Wk.aC aq,rfl,rfl,by omega,ri 1 rfl ht⟩,by omega⟩
    | false =>
     rw [hsc] at iU ht;have dL:=Ac (cB s a (a+2))
     cases hg:jN (cB s a (a+2)) with
     | false =>
      rw [hg] at dL ht;refine ae ?_;refine ab [] iU ?_;refine ab [] dL ?_;exact ⟨1,⟨_,_,Wk.aC aq,rfl,rfl,by omega,ri 1 rfl ht⟩,by omega⟩
     | true =>
      rw [hg] at dL ht
      have e:fJ s a=cB s a (a+2):=by unfold fJ;rw [ht];rfl
      rw [e];refine ae ?_;refine ab [] iU ?_;refine ab [] dL ?_;exact al
   ·have hle:decide (((a+2:Nat):Int)<=(s.length:Int))=false:=by simpa using by omega
    rw [show decide (a+2<=s.length)=false by simpa using jB] at ht;refine ae ?_;exact ⟨1,⟨_,_,Wk.aC aq,rfl,rfl,by omega,ri 1 rfl ht⟩,by omega⟩
  | n+3,hx,_,_=>omega
def KJ (n:Int) (e:Nat) (a:Nat):GV:=if n > 2147483647 then .tup [.agg (da qe),.v (ii (a:Nat)),.v (ii 3)] else .tup [.agg (da ⟨1,n,[],a⟩),.v (ii (e:Nat)),.v (ii 0)]
theorem Ol (s:ah) (a:Nat) (c:UInt8) (hs:s.length<=1099511627776) (hc:s[a]?=some c) (hd:dV c=true) :
  GF Tryz.prog 205 [.v (sv s),.v (ii (a:Nat))] [] (KJ (jS (cB s a (jJ s a)) 0) (jJ s a) a) []:=by
 have ak:a < s.length:=(List.getElem?_eq_some_iff.1 hc).1;have my:=yo c;rw [hd] at my;have mV:=RT 186 dV yo s a hs ag;obtain ⟨e1,e2,e3⟩:=Go.Sp.pE s dV (s.length+1) a ag ag;have aQ:=Go.Im.Cy s dV (s.length+1) a ag;unfold jJ;generalize Go.Sp.run s dV (s.length+1) a=e at *;clear e1;generalize hR:jS (cB s a e) 0=R;refine ai Tryz.func205 Tryz.ntmps205 ?_;refine ab [] my ?_;refine ab [] mV ?_;refine GW.loop (fun x:Nat × Int=>e - x.1) (fun x fr Γ=>fr=[.v (sv s),.v (ii (a:Nat)),.U,.U,.loc 0 0,.v (ii 0),.v (ii 0),.U,.v (ii (e:Nat)),.v (ii x.2),.v (ii (x.1:Nat)),.U,.U,.U,.U,.U,.U,.U,.U,.U,.U,.U,.U,.U,.U,.U,.U,.U,.U,.U,.U,.U,.U,.U,.U,.U,.U,.U,.U,.U,.U,.U,.U,.U,.U,.U,.U,.U,.U,.U,.U,.U,.U,.U,.U,.U,.U,.U,.U,.U,.U,.U,.U,.U,.U,.U,.U,.U,.U,.U,.U,.U,.U,.U,.U,.U,.U,.U,.U,.U,.U]/\Γ=[.box 203 (da qe)]/\a<=x.1/\x.1<=e/\jS (cB s x.1 e) x.2=R/\0<=x.2/\x.2<=21474836480) (a,0) ?_ ?_
 ·exact ⟨_,_,Wk.aC aq,rfl,rfl,Nat.le_refl _,e2,hR,by simp,by simp⟩
 ·rintro ⟨i,n⟩ _ _ ⟨rfl,rfl,hi,hie,h,De,Fo⟩;simp only at hi hie h De Fo
  have fin:R=n->True:=fun _=>trivial
  by_cases mU:i < e
  ·have MW:decide ((i:Int) < (e:Int))=true:=by simpa using mU
   by_cases hn:n<=2147483647
   ·have A5:decide (n<=2147483647)=true:=by simpa using hn
    have r7:i < s.length:=by omega
    obtain ⟨d,de⟩:∃ d,s[i]?=some d:=⟨s[i],by simp [r7]⟩
    have fG:dV d=true:=by
     have:d∈cB s a e:=by
      unfold cB;rw [List.mem_iff_getElem?];exact ⟨i - a,by rw [List.getElem?_drop,List.getElem?_take,show a+(i - a)=i by omega,if_pos mU];exact de⟩
     exact aQ d this
    have xO:(48:Int)<=(d.toNat:Int)/\(d.toNat:Int)<=57:=by
     simp only [dV,Bool.and_eq_true,decide_eq_true_eq] at fG;exact fG
    rw [Go.Im.pf de mU e3,jS,if_pos hn] at h;refine ae ?_;exact ⟨(i+1,10 * n+((d.toNat:Int) - 48)),⟨_,_,Wk.aC aq,rfl,rfl,by simp only;omega,mU,h,by simp only;omega,by simp only;omega⟩,by simp only;omega⟩
   ·have A5:decide (n<=2147483647)=false:=by simpa using hn
    have eF:R=n:=by
     rw [<-h]
     cases hw:cB s i e with
     | nil=>rw [jS]
     | cons d r=>rw [jS,if_neg hn]
    rw [eF];clear h eF hR fin
    have bO:decide (2147483647 < n)=true:=by simpa using by omega
    unfold KJ;rw [if_pos ag];refine bI ?_;refine ae ?_;refine lV ?_;exact ⟨rfl,rfl⟩
  ·have MW:decide ((i:Int) < (e:Int))=false:=by simpa using by omega
   have eF:R=n:=by
    rw [<-h];have:cB s i e=[]:=List.eq_nil_of_length_eq_zero (by rw [Go.Im.kP e3];omega);rw [this,jS]
   rw [eF];clear h eF hR fin;unfold KJ
   by_cases hn:n > 2147483647
   ·have bO:decide (2147483647 < n)=true:=by simpa using hn
    rw [if_pos hn];refine bI ?_;refine ae ?_;refine lV ?_;exact ⟨rfl,rfl⟩
   ·have bO:decide (2147483647 < n)=false:=by simpa using hn
    rw [if_neg hn];refine bI ?_;refine ae ?_;refine lV ?_;exact ⟨rfl,rfl⟩
theorem TD (s:ah) (a:Nat) (c:UInt8) (hs:s.length<=1099511627776) (hc:s[a]?=some c) :
  GF Tryz.prog 205 [.v (sv s),.v (ii (a:Nat))] [] (.tup [.agg (da (kj s a c).1),.v (ii ((kj s a c).2.1:Nat)),.v (ii (kj s a c).2.2)]) []:=by
 have ak:a < s.length:=(List.getElem?_eq_some_iff.1 hc).1;have my:=yo c;have iU:=Af c
 by_cases hd:dV c=true
 ·have h:=Ol s a c hs hc hd;unfold KJ at h;unfold kj;rw [if_pos hd];split at h
  ·rename_i hn;rw [if_pos hn];exact h
  ·rename_i hn;rw [if_neg hn];exact h
 ·have MV:dV c=false:=by simpa using hd
  unfold kj;rw [if_neg hd];rw [MV] at my
  by_cases hsc:small c=true
  ·rw [if_pos hsc];rw [hsc] at iU;have mV:=RT 148 dP KE s a hs ag;obtain ⟨e1,e2,e3⟩:=Go.Sp.pE s dP (s.length+1) a ag ag;have hw:fb s a=(s.take (eC s a)).drop a:=rfl;have dL:=Ac (fb s a);unfold eC at hw |-;rw [hw] at dL |-;generalize Go.Sp.run s dP (s.length+1) a=e at *;have hb:a<=e/\e<=s.length:=⟨e2,e3⟩
   cases hg:jN ((s.take e).drop a) with
   | true =>
    rw [hg] at dL;refine ai Tryz.func205 Tryz.ntmps205 ?_;refine ab [] my ?_;refine ab [] iU ?_;refine ab [] mV ?_;refine ab [] dL ?_;refine lV ?_;exact ⟨rfl,rfl⟩
   | false =>
    rw [hg] at dL;refine ai Tryz.func205 Tryz.ntmps205 ?_;refine ab [] my ?_;refine ab [] iU ?_;refine ab [] mV ?_;refine ab [] dL ?_;refine lV ?_;exact ⟨rfl,rfl⟩
  ·have Zr:small c=false:=by simpa using hsc
   rw [if_neg hsc];rw [Zr] at iU;have X4:=Qr s a c hs hc
   have hlen:(fJ s a).length<=2:=by
    have:(fJ s a=cB s a (a+2)\/fJ s a=cB s a (a+1))\/fJ s a=[]:=by
     unfold fJ;split
     ·exact .inl (.inl rfl)
     ·split
      ·exact .inl (.inr rfl)
      ·exact .inr rfl
    rcases this with (h | h) | h <;> rw [h]
    ·unfold cB;rw [length_drop,length_take];omega
    ·unfold cB;rw [length_drop,length_take];omega
    ·simp
   generalize fJ s a=x at *
   by_cases hx:x=[]
   ·have ID:(x==[])=true:=by simpa using hx
    rw [if_pos hx];refine ai Tryz.func205 Tryz.ntmps205 ?_;refine ab [] my ?_;refine ab [] iU ?_;refine ab [] X4 ?_;refine lV ?_;exact ⟨rfl,rfl⟩
   ·have ID:(x==[])=false:=by simpa using hx
    rw [if_neg hx];refine ai Tryz.func205 Tryz.ntmps205 ?_;refine ab [] my ?_;refine ab [] iU ?_;refine ab [] X4 ?_;refine lV ?_;exact ⟨rfl,rfl⟩
def B9 (x t:ah):Bool:=decide (t.length<=x.length)&&(x.take t.length==t)
theorem JD (x t:ah) (hx:x.length<=1099511627776) (ht:t.length<=1099511627776):GF Tryz.prog 236 [.v (sv x),.v (sv t)] [] (.v (.bool (B9 x t))) []:=by
 unfold B9
 by_cases h:t.length<=x.length
 ·have h1:decide ((t.length:Int)<=(x.length:Int))=true:=by simpa using h
  rw [decide_eq_true h];refine ai Tryz.func236 Tryz.ntmps236 ?_;exact al
 ·have h1:decide ((t.length:Int)<=(x.length:Int))=false:=by simpa using by omega
  rw [decide_eq_false h];refine ai Tryz.func236 Tryz.ntmps236 ?_;exact al
theorem G8 (x t:ah) (hx:x.length<=1099511627776) (ht:t.length<=1099511627776):GF Tryz.prog 203 [.v (sv x),.v (sv t)] [] (.v (.bool (B9 x t))) []:=by
 have h:=JD x t hx ht;generalize B9 x t=b at *;refine ai Tryz.func203 Tryz.ntmps203 ?_;refine ab [] h ?_;exact al
theorem Hk {s t:ah} {a:Nat} (ha:a<=s.length):B9 (s.drop a) t=bx s a t:=by
 unfold B9 bx;rw [length_drop,List.drop_take,show a+t.length - a=t.length by omega]
 congr 1
 rw [Bool.eq_iff_iff];simp;omega
theorem G9 (c:UInt8):GF Tryz.prog 202 [.v (sv [32,9,10,13]),CV c] [] (.v (ii (Go.Lib.indexByte [32,9,10,13] c))) []:=by
 refine GF.Vs (vs:=[sv [32,9,10,13],.int .u8 (c.toNat:Int)]) fun K β w ht hf=>?_
 refine mi.Ah (Calls.mono (Tryz.strings_IndexByte ⟨[32,9,10,13].toArray⟩ (c.toNat:Int) w) ?_);rintro e w' ⟨h1,h2⟩;refine ⟨_,h1,?_,by rw [h2];exact Ext.refl w⟩;simp
theorem OZ (x:ah) (hx:x.length<=4294967280):GF Tryz.prog 204 [.v (sv x),.v (sv [42,47])] [] (.v (ii (Go.Lib.index x [42,47]))) []:=by
 refine GF.Vs (vs:=[sv x,sv [42,47]]) fun K β w ht hf=>?_
 obtain ⟨m,hm⟩:=ht.maxLen hf;refine mi.Ah (Calls.mono (Tryz.strings_Index ⟨x.toArray⟩ ⟨[42,47].toArray⟩ m w (by show (x.toArray).size < _;simp;omega) hm) ?_);rintro e w' ⟨h1,h2⟩;refine ⟨_,h1,?_,by rw [h2];exact Ext.refl w⟩;simp
theorem O3 (c:UInt8):decide ((0:Int)<=Go.Lib.indexByte [32,9,10,13] c)=dC c:=by
 have hb:dC c=((32:UInt8)==c || (9:UInt8)==c || (10:UInt8)==c || (13:UInt8)==c):=by
  have e:∀ k:UInt8,((c.toNat:Int)==(k.toNat:Int))=(k==c):=fun k=>by
   rw [Bool.eq_iff_iff];simp only [beq_iff_eq]
   exact ⟨fun h=>by
    have:c.toNat=k.toNat:=by omega
    exact (UInt8.toNat_inj.1 this).symm,fun h=>by rw [h]⟩
  have e1:=e 32;have e2:=e 9;have e3:=e 10;have e4:=e 13;unfold dC;rw [<-e1,<-e2,<-e3,<-e4];rfl
 rw [hb];unfold Go.Lib.indexByte Go.Lib.indexByte Go.Lib.indexByte Go.Lib.indexByte Go.Lib.indexByte
 cases (32:UInt8)==c <;> cases (9:UInt8)==c <;> cases (10:UInt8)==c <;> cases (13:UInt8)==c <;> decide
theorem Nq (l:ah):Go.Lib.index l [42,47]=(match pV l with | none => -1 | some n=>(n:Int)):=by
 induction l with
 | nil=>rfl
 | cons b l ih =>
  rw [Go.Lib.index,pV];split
  ·rfl
  ·rw [ih]
   cases pV l with
   | none=>rfl
   | some n =>
    simp only;rw [if_neg (by simp <;> omega)];simp
theorem P5 (s:ah) (f:Nat) (ts:List Tok) (c z:Int) (hs:s.length<=4294967280) (h:mY s f 0 []=some (ts,c,z)) :
  GF Tryz.prog 162 [.v (sv s)] [] (.tup [iy ts,.v (ii c),.v (ii z)]) []:=by
 refine ai Tryz.func162 Tryz.ntmps162 ?_;refine GW.wk (Wk.Cr (t:=5) (a:=none) (c:=0) 203 4 rfl) ?_;refine GW.loop (fun x:Nat × Nat × List Tok=>x.1) (fun x fr Γ=>∃ n rows,fr=[.v (sv s),.U,.v (.slice none 0 0),.v (ii 0),.v (ii 0),.vec 0 n,.v (ii (x.2.1:Nat)),.U,.U,.U,.U,.U,.U,.U,.U,.U,.U,.U,.U,.U,.U,.U,.U,.U,.U,.U,.U,.U,.U,.U,.U,.U,.U,.U,.U,.U,.U,.U,.U,.U,.U,.U,.U,.U,.U,.U,.U,.U,.U,.U,.U,.U,.U,.U,.U]/\Γ=[.vec 203 4 0 rows]/\rows.length=n/\rows=x.2.2.map da/\x.2.1<=s.length/\n<=x.2.1/\mY s x.1 x.2.1 x.2.2=some (ts,c,z)) (f,0,[]) ?_ ?_
 ·exact ⟨_,_,Wk.aC aq,0,[],rfl,rfl,rfl,rfl,Nat.zero_le _,Nat.le_refl _,h⟩
 ·clear h;rintro ⟨f,a,acc⟩ _ _ ⟨n,rows,rfl,rfl,hn,bt,ha,Iz,h⟩;simp only at bt ha Iz h
  cases f with
  | zero=>cases h
  | succ f =>
  rw [mY] at h
  cases hc:s[a]? with
  | none =>
   rw [hc] at h;cases h;have lx:s.length<=a:=List.getElem?_eq_none_iff.1 hc
   have hd:decide ((a:Int) < (s.length:Int))=false:=by simpa using lx
   refine bI ?_;refine GW.wk (Wk.jx (t:=5) rfl rfl rfl hn) ?_;refine ae ?_;refine Jt ?_;exact ⟨by rw [bt];rfl,rfl⟩
  | some ch =>
   rw [hc] at h;simp only at h;have ak:a < s.length:=(List.getElem?_eq_some_iff.1 hc).1
   have hd:decide ((a:Int) < (s.length:Int))=true:=by simpa using ak
   have M3:=G9 ch;have oc:=O3 ch
   cases hb:dC ch with
   | true =>
    rw [if_pos hb] at h;rw [hb] at oc;generalize Go.Lib.indexByte [32,9,10,13] ch=ib at *;refine ae ?_;refine ab [] M3 ?_;refine jd ?_;exact ⟨(f,a+1,acc),⟨_,_,Wk.aC aq,n,rows,rfl,rfl,hn,bt,ak,by simp only;omega,h⟩,by simp⟩
   | false =>
    rw [if_neg (by rw [hb];decide)] at h;rw [hb] at oc;generalize Go.Lib.indexByte [32,9,10,13] ch=ib at *;have nD:=G8 (s.drop a) [47,42] (by rw [length_drop];omega) aJ;rw [Hk ha] at nD
    cases nC:bx s a [47,42] with
    | true =>
     rw [if_pos nC] at h;rw [nC] at nD;have nf:=Go.Sp.ju nC;simp only [length_cons,length_nil] at nf;have xH:=OZ (s.drop (a+2)) (by rw [length_drop];omega);rw [Nq] at xH
     have MS:a+2<=s.length:=by omega
     cases hi:pV (s.drop (a+2)) with
     | none =>
      rw [hi] at xH h;cases h;refine ae ?_;refine ab [] M3 ?_;refine ab [] nD ?_;refine ab [] xH ?_;refine qZ ?_;exact ⟨_,jg,rfl,rfl⟩
     | some e =>
      rw [hi] at xH h;have eY:=Go.Im.Ce hi;rw [length_drop] at eY
      have UH:decide (((e:Nat):Int) < 0)=false:=by simp
      refine ae ?_;refine ab [] M3 ?_;refine ab [] nD ?_;refine ab [] xH ?_;refine jd ?_;exact ⟨(f,a+(e+4),acc),⟨_,_,Wk.aC aq,n,rows,rfl,rfl,hn,bt,by simp only;omega,by simp only;omega,h⟩,by simp⟩
    | false =>
     rw [if_neg (by rw [nC];decide)] at h;rw [nC] at nD;have j0:=TD s a ch ag hc
     have eG:=fun h0=>Go.Im.Jq hc h0
     generalize kj s a ch=R at *;obtain ⟨t,e,code⟩:=R;simp only at j0 h eG
     by_cases h0:code=0
     ·rw [if_neg (by simpa using h0)] at h
      have sU:(code != 0)=false:=by simpa using h0
      obtain ⟨_,_,k3,k4⟩:=eG h0;refine ae ?_;refine ab [] M3 ?_;refine ab [] nD ?_;refine ab [] j0 ?_;refine eQ ?_;refine ae ?_;exact ⟨(f,e,acc++[t]),⟨_,_,(Wk.cut (n:=1) (Nat.le_of_ble_eq_true rfl) rfl).trans (Wk.aC aq),_,_,rfl,rfl,by simp [hn],by rw [map_append,bt];rfl,k4,by simp only;omega,h⟩,by simp⟩
     ·rw [if_pos h0] at h
      have sU:(code != 0)=true:=by simpa using h0
      cases h;refine ae ?_;refine ab [] M3 ?_;refine ab [] nD ?_;refine ab [] j0 ?_;refine qZ ?_;exact ⟨_,jg,rfl,rfl⟩
end Go.Xg
namespace Go.Xg
open Go.RowKit Go.Xw Go.Proofs
open Go.Xp (Tok Nd T aP az)
open Go.Sp (Src)
open Go.Im (oo qh tr jj cY fQ uE)
attribute [local irreducible] GW GL GO YG GC GA aV aZ
theorem PM:∀ (N:Nat) (t:T),aP t<=N->aP t<=1099511627776->GF Tryz.prog 158 [uT t] [] (.v (.bool (fQ t))) []:=by
 intro N
 induction N with
 | zero=>intro t h;rw [Go.Xp.eh] at h;omega
 | succ N ih =>
 intro t hN hb;rw [Go.Xp.eh] at hN hb;have eS:=Go.Xp.bL t.kids;have pn:=qV t.kids;rw [Go.Im.xS,Go.Im.th];unfold uT;generalize t.n.kind=kd;refine db Tryz.func158 Tryz.ntmps158 ?_;refine Jv ?_;refine GW.join (fun fr Γ=>fr=[.box [.v (ii kd),.v (ii t.n.at_),.v (ii t.n.n),.v (sv t.n.s),ints t.n.kids,.sl 1 (cg t.kids)] 0,.U,.U,.U,.v (.bool (cY kd t.kids.length)),.U,.U,.U,.U,.U,.U,.U,.U,.U,.U,.U,.U,.U,.U,.U,.U,.U,.U,.U,.U,.U,.U,.U,.U,.U,.U,.U,.U,.U,.U,.U,.U,.U,.U,.U,.U,.U,.U,.U,.U,.U,.U,.U,.U,.U,.U,.U,.U,.U,.U,.U,.U,.U,.U,.U,.U,.U,.U,.U]/\Γ=[]) ?_ ?_
 ·rw [<-pn];generalize (cg t.kids)=l
  by_cases h1:kd=1
  ·subst h1
   have f1:((1:Int)==1)=true:=by decide
   rw [show cY 1 l.length=((l.length:Int)==0) by unfold cY;simp];exact ik
  by_cases h2:kd=2
  ·subst h2
   have f1:((2:Int)==1)=false:=by decide
   have f2:((2:Int)==2)=true:=by decide
   rw [show cY 2 l.length=((l.length:Int)==0) by unfold cY;simp];exact ik
  by_cases h4:kd=4
  ·subst h4
   have f1:((4:Int)==1)=false:=by decide
   have f2:((4:Int)==2)=false:=by decide
   have f4:((4:Int)==4)=true:=by decide
   rw [show cY 4 l.length=true by unfold cY;simp];exact ik
  by_cases AU:kd=14
  ·subst AU
   have f1:((14:Int)==1)=false:=by decide
   have f2:((14:Int)==2)=false:=by decide
   have f4:((14:Int)==4)=false:=by decide
   have f14:((14:Int)==14)=true:=by decide
   rw [show cY 14 l.length=true by unfold cY;simp];exact ik
  by_cases h3:kd=3
  ·subst h3
   have f1:((3:Int)==1)=false:=by decide
   have f2:((3:Int)==2)=false:=by decide
   have f4:((3:Int)==4)=false:=by decide
   have f14:((3:Int)==14)=false:=by decide
   have f3:((3:Int)==3)=true:=by decide
   rw [show cY 3 l.length=((l.length:Int)==1) by unfold cY;simp];exact ik
  by_cases h5:kd=5
  ·subst h5
   have f1:((5:Int)==1)=false:=by decide
   have f2:((5:Int)==2)=false:=by decide
   have f4:((5:Int)==4)=false:=by decide
   have f14:((5:Int)==14)=false:=by decide
   have f3:((5:Int)==3)=false:=by decide
   have f5:((5:Int)==5)=true:=by decide
   rw [show cY 5 l.length=((l.length:Int)==1) by unfold cY;simp];exact ik
  by_cases h7:kd=7
  ·subst h7
   have f1:((7:Int)==1)=false:=by decide
   have f2:((7:Int)==2)=false:=by decide
   have f4:((7:Int)==4)=false:=by decide
   have f14:((7:Int)==14)=false:=by decide
   have f3:((7:Int)==3)=false:=by decide
   have f5:((7:Int)==5)=false:=by decide
   have f7:((7:Int)==7)=true:=by decide
   rw [show cY 7 l.length=((l.length:Int)==1) by unfold cY;simp];exact ik
  by_cases oD:kd=11
  ·subst oD
   have f1:((11:Int)==1)=false:=by decide
   have f2:((11:Int)==2)=false:=by decide
   have f4:((11:Int)==4)=false:=by decide
   have f14:((11:Int)==14)=false:=by decide
   have f3:((11:Int)==3)=false:=by decide
   have f5:((11:Int)==5)=false:=by decide
   have f7:((11:Int)==7)=false:=by decide
   have f11:((11:Int)==11)=true:=by decide
   rw [show cY 11 l.length=((l.length:Int)==1) by unfold cY;simp];exact ik
  by_cases oa:kd=12
  ·subst oa
   have f1:((12:Int)==1)=false:=by decide
   have f2:((12:Int)==2)=false:=by decide
   have f4:((12:Int)==4)=false:=by decide
   have f14:((12:Int)==14)=false:=by decide
   have f3:((12:Int)==3)=false:=by decide
   have f5:((12:Int)==5)=false:=by decide
   have f7:((12:Int)==7)=false:=by decide
   have f11:((12:Int)==11)=false:=by decide
   have f12:((12:Int)==12)=true:=by decide
   rw [show cY 12 l.length=((l.length:Int)==1) by unfold cY;simp];exact ik
  by_cases eI:kd=13
  ·subst eI
   have f1:((13:Int)==1)=false:=by decide
   have f2:((13:Int)==2)=false:=by decide
   have f4:((13:Int)==4)=false:=by decide
   have f14:((13:Int)==14)=false:=by decide
   have f3:((13:Int)==3)=false:=by decide
   have f5:((13:Int)==5)=false:=by decide
   have f7:((13:Int)==7)=false:=by decide
   have f11:((13:Int)==11)=false:=by decide
   have f12:((13:Int)==12)=false:=by decide
   have f13:((13:Int)==13)=true:=by decide
   rw [show cY 13 l.length=((l.length:Int)==1) by unfold cY;simp];exact ik
  by_cases h6:kd=6
  ·subst h6
   have f1:((6:Int)==1)=false:=by decide
   have f2:((6:Int)==2)=false:=by decide
   have f4:((6:Int)==4)=false:=by decide
   have f14:((6:Int)==14)=false:=by decide
   have f3:((6:Int)==3)=false:=by decide
   have f5:((6:Int)==5)=false:=by decide
   have f7:((6:Int)==7)=false:=by decide
   have f11:((6:Int)==11)=false:=by decide
   have f12:((6:Int)==12)=false:=by decide
   have f13:((6:Int)==13)=false:=by decide
   have f6:((6:Int)==6)=true:=by decide
   rw [show cY 6 l.length=((l.length:Int)==2) by unfold cY;simp];exact ik
  by_cases h8:kd=8
  ·subst h8
   have f1:((8:Int)==1)=false:=by decide
   have f2:((8:Int)==2)=false:=by decide
   have f4:((8:Int)==4)=false:=by decide
   have f14:((8:Int)==14)=false:=by decide
   have f3:((8:Int)==3)=false:=by decide
   have f5:((8:Int)==5)=false:=by decide
   have f7:((8:Int)==7)=false:=by decide
   have f11:((8:Int)==11)=false:=by decide
   have f12:((8:Int)==12)=false:=by decide
   have f13:((8:Int)==13)=false:=by decide
   have f6:((8:Int)==6)=false:=by decide
   have f8:((8:Int)==8)=true:=by decide
   rw [show cY 8 l.length=((l.length:Int)==2) by unfold cY;simp];exact ik
  by_cases la:kd=10
  ·subst la
   have f1:((10:Int)==1)=false:=by decide
   have f2:((10:Int)==2)=false:=by decide
   have f4:((10:Int)==4)=false:=by decide
   have f14:((10:Int)==14)=false:=by decide
   have f3:((10:Int)==3)=false:=by decide
   have f5:((10:Int)==5)=false:=by decide
   have f7:((10:Int)==7)=false:=by decide
   have f11:((10:Int)==11)=false:=by decide
   have f12:((10:Int)==12)=false:=by decide
   have f13:((10:Int)==13)=false:=by decide
   have f6:((10:Int)==6)=false:=by decide
   have f8:((10:Int)==8)=false:=by decide
   have f10:((10:Int)==10)=true:=by decide
   rw [show cY 10 l.length=((l.length:Int)==2) by unfold cY;simp];exact ik
  by_cases h9:kd=9
  ·subst h9
   have f1:((9:Int)==1)=false:=by decide
   have f2:((9:Int)==2)=false:=by decide
   have f4:((9:Int)==4)=false:=by decide
   have f14:((9:Int)==14)=false:=by decide
   have f3:((9:Int)==3)=false:=by decide
   have f5:((9:Int)==5)=false:=by decide
   have f7:((9:Int)==7)=false:=by decide
   have f11:((9:Int)==11)=false:=by decide
   have f12:((9:Int)==12)=false:=by decide
   have f13:((9:Int)==13)=false:=by decide
   have f6:((9:Int)==6)=false:=by decide
   have f8:((9:Int)==8)=false:=by decide
   have f10:((9:Int)==10)=false:=by decide
   have f9:((9:Int)==9)=true:=by decide
   cases hq:((l.length:Int)==2) with
   | true =>
    rw [show cY 9 l.length=true by unfold cY;simp [hq]];exact ik
   | false =>
    rw [show cY 9 l.length=((l.length:Int)==3) by unfold cY;simp [hq]];exact ik
  have e:cY kd l.length=false:=by unfold cY;simp [h1,h2,h4,AU,h3,h5,h7,oD,oa,eI,h6,h8,la,h9]
  rw [e]
  have g1:(kd==1)=false:=by simpa using h1
  have g2:(kd==2)=false:=by simpa using h2
  have g4:(kd==4)=false:=by simpa using h4
  have g14:(kd==14)=false:=by simpa using AU
  have g3:(kd==3)=false:=by simpa using h3
  have g5:(kd==5)=false:=by simpa using h5
  have g7:(kd==7)=false:=by simpa using h7
  have g11:(kd==11)=false:=by simpa using oD
  have g12:(kd==12)=false:=by simpa using oa
  have g13:(kd==13)=false:=by simpa using eI
  have g6:(kd==6)=false:=by simpa using h6
  have g8:(kd==8)=false:=by simpa using h8
  have g10:(kd==10)=false:=by simpa using la
  have g9:(kd==9)=false:=by simpa using h9
  exact ik
 ·rintro _ _ ⟨rfl,rfl⟩;generalize cY kd t.kids.length=b0;refine ae ?_;refine GW.range (cg t.kids).length (fun k fr Γ=>fr=[.U,.U,.U,.U,.v (.bool (b0&&(t.kids.take k).all fQ)),.U,.U,.U,.U,.U,.U,.U,.U,.U,.U,.U,.U,.U,.U,.U,.U,.U,.U,.U,.U,.U,.U,.U,.U,.U,.U,.U,.U,.U,.U,.U,.U,.U,.U,.U,.U,.U,.U,.U,.U,.U,.U,.U,.U,.U,.U,.sl 1 (cg t.kids),.v (ii ((cg t.kids).length:Int)),.v (ii (k:Nat)),.U,.U,.U,.U,.U,.U,.U,.U,.U,.U]/\Γ=[]) ?_ ag ?_ ?_ ?_
  ·refine ⟨_,_,Wk.aC (b8:=[.U,.U,.U,.U,.v (.bool b0),.U,.U,.U,.U,.U,.U,.U,.U,.U,.U,.U,.U,.U,.U,.U,.U,.U,.U,.U,.U,.U,.U,.U,.U,.U,.U,.U,.U,.U,.U,.U,.U,.U,.U,.U,.U,.U,.U,.U,.U,.U,.U,.U,.U,.U,.U,.sl 1 (cg t.kids),.v (ii ((cg t.kids).length:Int)),.v (ii (0:Nat)),.U,.U,.U,.U,.U,.U,.U,.U,.U,.U]) aq,?_,rfl⟩;rw [List.take_zero,List.all_nil,Bool.and_true]
  ·rintro k _ _ ⟨rfl,rfl⟩;exact dQ
  ·rintro k _ _ ak ⟨rfl,rfl⟩;rw [pn] at ak;obtain ⟨kid,fq⟩:∃ kid,t.kids[k]?=some kid:=⟨t.kids[k],by simp [ak]⟩;have hr:=vy fq;have cU:=Go.Xp.uI fq;have hle:=Go.Xp.uH t.kids (k+1);have Dd:=ih kid ag ag
   have aQ:(t.kids.take (k+1)).all fQ=((t.kids.take k).all fQ&&fQ kid):=by rw [take_add_one,fq,List.all_append];simp
   rw [aQ,<-Bool.and_assoc];generalize (b0&&(t.kids.take k).all fQ)=b at *
   cases b with
   | true =>
    refine ae ?_;refine ab [] Dd ?_;exact ⟨rfl,rfl,_,_,Wk.aC aq,rfl,rfl⟩
   | false =>
    refine ae ?_;exact ⟨rfl,rfl,_,_,Wk.aC aq,rfl,rfl⟩
  ·rintro _ _ ⟨rfl,rfl⟩;rw [pn,take_length];exact av
def wA (l:List T):Int:=match l.findIdx? (fun t=>!(fQ t)) with | some i=>(i:Int) | none => -1
theorem Nt (t:T) (hb:aP t<=1099511627776):GF Tryz.prog 157 [uT t] [] (.v (.bool (!(fQ t)))) []:=by
 have h:=PM _ t (Nat.le_refl _) hb;generalize fQ t=b at *;refine ai Tryz.func157 Tryz.ntmps157 ?_;refine ab [] h ?_;exact al
theorem Hb (l:List T) (hl:l.length<=1099511627776) (hb:∀ t∈l,aP t<=1099511627776) :
  GF Tryz.prog 194 [.sl 1 (cg l),.v (.func (.func 157) #[] #[])] [] (.v (ii (wA l))) []:=by
 have pn:=qV l;refine ai Tryz.func194 Tryz.ntmps194 ?_;refine GW.range (cg l).length (fun k fr Γ=>fr=[.sl 1 (cg l),.v (.func (.func 157) #[] #[]),.U,.U,.U,.U,.U,.v (ii ((cg l).length:Int)),.v (ii (k:Nat)),.U,.U,.U,.U,.U,.U,.U,.U,.U,.U]/\Γ=[]/\(l.take k).all fQ=true) ?_ ag ?_ ?_ ?_
 ·exact jz
 ·exact gy
 ·rintro k _ _ ak ⟨rfl,rfl,aQ⟩;rw [pn] at ak
  have cJ:l[k]?=some l[k]:=by simp [ak]
  have hr:=vy cJ;have b9:=Nt l[k] (hb _ (List.getElem_mem ak))
  have bu:(l.take (k+1)).all fQ=((l.take k).all fQ&&fQ l[k]):=by rw [take_add_one,cJ,List.all_append];simp
  have zi:fQ l[k]=false->wA l=(k:Int):=fun h0=>by
   have:l.findIdx? (fun t=>!(fQ t))=some k:=by
    rw [List.findIdx?_eq_some_iff_getElem];refine ⟨ak,by simp [h0],fun j hj=>?_⟩;rw [all_eq_true] at aQ;have:=aQ l[j] (by rw [List.mem_take_iff_getElem];exact ⟨j,by omega,rfl⟩);simp [this]
   unfold wA;rw [this]
  generalize l[k]=t at *
  cases hk:fQ t with
  | true =>
   rw [hk] at b9 bu;refine ae ?_;refine iD [] b9 ?_;refine ae ?_;exact ⟨rfl,rfl,_,_,Wk.aC aq,rfl,rfl,by rw [bu,aQ];rfl⟩
  | false =>
   rw [hk] at b9;rw [zi hk];refine ae ?_;refine iD [] b9 ?_;exact av
 ·rintro _ _ ⟨rfl,rfl,aQ⟩;rw [pn,take_length] at aQ
  have:l.findIdx? (fun t=>!(fQ t))=none:=by
   rw [List.findIdx?_eq_none_iff];intro x hx;rw [all_eq_true] at aQ;simp [aQ x hx]
  unfold wA;rw [this];exact av
theorem Qc (l:List T):decide ((0:Int)<=wA l)=!(l.all fQ):=by
 unfold wA
 cases h:l.findIdx? (fun t=>!(fQ t)) with
 | some i =>
  rw [List.findIdx?_eq_some_iff_getElem] at h;obtain ⟨h1,h2,_⟩:=h
  have:l.all fQ=false:=by
   rw [List.all_eq_false];exact ⟨l[i],List.getElem_mem _,by simpa using h2⟩
  rw [this];simp
 | none =>
  rw [List.findIdx?_eq_none_iff] at h
  have:l.all fQ=true:=by rw [all_eq_true];intro x hx;simpa using h x hx
  rw [this];rfl
theorem uK (l:List T) (hl:l.length<=1099511627776) (hb:∀ t∈l,aP t<=1099511627776) :
  GF Tryz.prog 156 [.sl 1 (cg l),.v (.func (.func 157) #[] #[])] [] (.v (.bool (!(l.all fQ)))) []:=by
 have h:=Hb l hl hb;rw [<-Qc];generalize wA l=z at *;refine ai Tryz.func156 Tryz.ntmps156 ?_;refine ab [] h ?_;exact al
end Go.Xg
set_option maxHeartbeats 2000000
namespace Go.Xg
open Go.RowKit Go.Xw Go.Proofs
open Go.Xp (Tok Nd T Ar aP az ef)
open Go.Sp (Src)
open Go.Im
attribute [local irreducible] GW GL GO YG GC GA aV aZ
theorem QR:Wr 160 161 cQ fu :=
 ⟨fun a h1 h2 h3=>Tx _ a (Nat.le_refl _) h1 h2 h3,fun l d h1 h2 h3=>PF l d h1 h2,fun l d s h=>PG h⟩
theorem Em (p:Src) (h:p.nodes.length > 800):GF Tryz.prog 136 [.agg (ax p)] [] (.v (.bool false)) []:=by
 have hm:(p.nodes.map ay).length=p.nodes.length:=by simp
 have hd:decide ((800:Int) < ((p.nodes.map ay).length:Int))=true:=by rw [hm];simpa using by omega
 refine ai Tryz.func136 Tryz.ntmps136 ?_;exact al
theorem BK (p:Src) (h:p.nodes.length<=800) (hk:∀ n∈p.nodes,n.kids.length<=1099511627776) (hf:p.fns.length<=1099511627776) (hb:jj p.nodes p.fns 0 []=none):GF Tryz.prog 136 [.agg (ax p)] [] (.v (.bool false)) []:=by
 have hm:(p.nodes.map ay).length=p.nodes.length:=by simp
 have hd:decide ((800:Int) < ((p.nodes.map ay).length:Int))=false:=by rw [hm];simpa using by omega
 have hB:=vN p ag hk hf;rw [hb] at hB;unfold BS at hB;refine ai Tryz.func136 Tryz.ntmps136 ?_;refine ab [] hB ?_;exact al
theorem G6 (p:Src) (l:List T) (e:Nat) (h:p.nodes.length<=800) (hk:∀ n∈p.nodes,n.kids.length<=1099511627776) (hf:p.fns.length<=1099511627776) (hb:jj p.nodes p.fns 0 []=some (l,e)) (he:e≠p.nodes.length):GF Tryz.prog 136 [.agg (ax p)] [] (.v (.bool false)) []:=by
 have hm:(p.nodes.map ay).length=p.nodes.length:=by simp
 have hd:decide ((800:Int) < ((p.nodes.map ay).length:Int))=false:=by rw [hm];simpa using by omega
 have hB:=vN p ag hk hf;rw [hb] at hB;unfold BS at hB;simp only at hB;rw [show ((e:Int)==(p.nodes.length:Int))=false by simp only [beq_eq_false_iff_ne,ne_eq];omega] at hB;refine ai Tryz.func136 Tryz.ntmps136 ?_;refine ab [] hB ?_;exact al
theorem El (p:Src) (l:List T) (h:p.nodes.length<=800) (hk:∀ n∈p.nodes,n.kids.length<=1099511627776) (hf:p.fns.length<=1099511627776) (hb:jj p.nodes p.fns 0 []=some (l,p.nodes.length)) (hl:l.length<=1099511627776) (hs:∀ t∈l,aP t<=1099511627776) (hn:l.all fQ=false):GF Tryz.prog 136 [.agg (ax p)] [] (.v (.bool false)) []:=by
 have hm:(p.nodes.map ay).length=p.nodes.length:=by simp
 have hd:decide ((800:Int) < ((p.nodes.map ay).length:Int))=false:=by rw [hm];simpa using by omega
 have hB:=vN p ag hk hf;rw [hb] at hB;unfold BS at hB;simp only at hB;rw [show ((p.nodes.length:Int)==(p.nodes.length:Int))=true by simp] at hB;have hC:=uK l hl hs;rw [hn] at hC;refine ai Tryz.func136 Tryz.ntmps136 ?_;refine ab [] hB ?_;refine ab [] hC ?_;exact al
theorem N1 (st:PS) (h:st.fns.length=st.trees.length):np st.fns st.trees st.trees.length=(oR st).map aw:=by
 unfold np oR;apply ext_getElem?;intro i;rw [getElem?_map,getElem?_mapIdx,getElem?_mapIdx]
 cases hx:st.fns[i]? with
 | none=>rfl
 | some x =>
  have hi:=(List.getElem?_eq_some_iff.1 hx).1;simp only [Option.map_some];rw [if_pos ag];rfl
def RU (st:PS):Src:=⟨st.globals,st.arrays,oR st,ef 0 st.trees⟩
theorem VJ {q:Go.Sp.RS} {st:PS} (hc:q.code=0) (h8:¬ az st.trees > 800) (h:st.fns.length=st.trees.length):I9 q st=.tup [.agg (ax (RU st)),.v (ii 0),.v (ii 0)]:=by
 unfold I9;rw [if_pos hc,if_neg h8,N1 st h];rfl
theorem G7 (p:Src) (l:List T) (x:ah) (ts:List Tok) (c z:Int) (h:p.nodes.length<=800) (hB:GF Tryz.prog 155 [.agg (ax p)] [] (.tup [.sl 1 (cg l),.v (.bool true)]) [])
  (hC:GF Tryz.prog 156 [.sl 1 (cg l),.v (.func (.func 157) #[] #[])] [] (.v (.bool false)) [])
  (hL:GF Tryz.prog 159 [.agg (ax p),.sl 1 (cg l),.v (iG 160),.v (iG 161)] [] (.v (sv x)) [])
  (hX:GF Tryz.prog 162 [.v (sv x)] [] (.tup [iy ts,.v (ii c),.v (ii z)]) []) (hc:(c != 0)=true) :
  GF Tryz.prog 136 [.agg (ax p)] [] (.v (.bool false)) []:=by
 have hm:(p.nodes.map ay).length=p.nodes.length:=by simp
 have hd:decide ((800:Int) < ((p.nodes.map ay).length:Int))=false:=by rw [hm];simpa using by omega
 refine ai Tryz.func136 Tryz.ntmps136 ?_;refine ab [] hB ?_;refine ab [] hC ?_;refine ab [] hL ?_;refine ab [] hX ?_;exact al
theorem yZ (p:Src) (l:List T) (x:ah) (ts:List Tok) (c k a:Int) (h:p.nodes.length<=800) (hB:GF Tryz.prog 155 [.agg (ax p)] [] (.tup [.sl 1 (cg l),.v (.bool true)]) [])
  (hC:GF Tryz.prog 156 [.sl 1 (cg l),.v (.func (.func 157) #[] #[])] [] (.v (.bool false)) [])
  (hL:GF Tryz.prog 159 [.agg (ax p),.sl 1 (cg l),.v (iG 160),.v (iG 161)] [] (.v (sv x)) [])
  (hX:GF Tryz.prog 162 [.v (sv x)] [] (.tup [iy ts,.v (ii 0),.v (ii c)]) [])
  (hP:GF Tryz.prog 163 [iy ts,.v (ii (x.length:Int))] [] (.tup [.agg [.sl 1 [],.sl 2 [],.sl 3 [],.sl 5 []],.v (ii k),.v (ii a)]) []) (hk:(k==0)=false) :
  GF Tryz.prog 136 [.agg (ax p)] [] (.v (.bool false)) []:=by
 have hm:(p.nodes.map ay).length=p.nodes.length:=by simp
 have hd:decide ((800:Int) < ((p.nodes.map ay).length:Int))=false:=by rw [hm];simpa using by omega
 refine ai Tryz.func136 Tryz.ntmps136 ?_;refine ab [] hB ?_;refine ab [] hC ?_;refine ab [] hL ?_;refine ab [] hX ?_;refine ab [] hP ?_;exact al
theorem Jz (p r:Src) (l:List T) (x:ah) (ts:List Tok) (c:Int) (h:p.nodes.length<=800) (hB:GF Tryz.prog 155 [.agg (ax p)] [] (.tup [.sl 1 (cg l),.v (.bool true)]) [])
  (hC:GF Tryz.prog 156 [.sl 1 (cg l),.v (.func (.func 157) #[] #[])] [] (.v (.bool false)) [])
  (hL:GF Tryz.prog 159 [.agg (ax p),.sl 1 (cg l),.v (iG 160),.v (iG 161)] [] (.v (sv x)) [])
  (hX:GF Tryz.prog 162 [.v (sv x)] [] (.tup [iy ts,.v (ii 0),.v (ii c)]) [])
   (hg:GF Tryz.prog 164 [strs p.globals,strs r.globals] [] (.v (.bool false)) [])
  (hP:GF Tryz.prog 163 [iy ts,.v (ii (x.length:Int))] [] (.tup [.agg (ax r),.v (ii 0),.v (ii 0)]) []) :
  GF Tryz.prog 136 [.agg (ax p)] [] (.v (.bool false)) []:=by
 have hm:(p.nodes.map ay).length=p.nodes.length:=by simp
 have hd:decide ((800:Int) < ((p.nodes.map ay).length:Int))=false:=by rw [hm];simpa using by omega
 refine ai Tryz.func136 Tryz.ntmps136 ?_;refine ab [] hB ?_;refine ab [] hC ?_;refine ab [] hL ?_;refine ab [] hX ?_;refine ab [] hP ?_;refine ab [] hg ?_;exact al
theorem JA (p r:Src) (l:List T) (x:ah) (ts:List Tok) (c:Int) (h:p.nodes.length<=800) (hB:GF Tryz.prog 155 [.agg (ax p)] [] (.tup [.sl 1 (cg l),.v (.bool true)]) [])
  (hC:GF Tryz.prog 156 [.sl 1 (cg l),.v (.func (.func 157) #[] #[])] [] (.v (.bool false)) [])
  (hL:GF Tryz.prog 159 [.agg (ax p),.sl 1 (cg l),.v (iG 160),.v (iG 161)] [] (.v (sv x)) [])
  (hX:GF Tryz.prog 162 [.v (sv x)] [] (.tup [iy ts,.v (ii 0),.v (ii c)]) [])
   (hg:GF Tryz.prog 164 [strs p.globals,strs r.globals] [] (.v (.bool true)) [])
  (ha:GF Tryz.prog 165 [(.sl 2 (p.arrays.map fun s=>aD s)),(.sl 2 (r.arrays.map fun s=>aD s))] [] (.v (.bool false)) [])
  (hP:GF Tryz.prog 163 [iy ts,.v (ii (x.length:Int))] [] (.tup [.agg (ax r),.v (ii 0),.v (ii 0)]) []) :
  GF Tryz.prog 136 [.agg (ax p)] [] (.v (.bool false)) []:=by
 have hm:(p.nodes.map ay).length=p.nodes.length:=by simp
 have hd:decide ((800:Int) < ((p.nodes.map ay).length:Int))=false:=by rw [hm];simpa using by omega
 refine ai Tryz.func136 Tryz.ntmps136 ?_;refine ab [] hB ?_;refine ab [] hC ?_;refine ab [] hL ?_;refine ab [] hX ?_;refine ab [] hP ?_;refine ab [] hg ?_;refine ab [] ha ?_;exact al
theorem JB (p r:Src) (l:List T) (x:ah) (ts:List Tok) (c:Int) (h:p.nodes.length<=800) (hB:GF Tryz.prog 155 [.agg (ax p)] [] (.tup [.sl 1 (cg l),.v (.bool true)]) [])
  (hC:GF Tryz.prog 156 [.sl 1 (cg l),.v (.func (.func 157) #[] #[])] [] (.v (.bool false)) [])
  (hL:GF Tryz.prog 159 [.agg (ax p),.sl 1 (cg l),.v (iG 160),.v (iG 161)] [] (.v (sv x)) [])
  (hX:GF Tryz.prog 162 [.v (sv x)] [] (.tup [iy ts,.v (ii 0),.v (ii c)]) [])
   (hg:GF Tryz.prog 164 [strs p.globals,strs r.globals] [] (.v (.bool true)) [])
  (ha:GF Tryz.prog 165 [(.sl 2 (p.arrays.map fun s=>aD s)),(.sl 2 (r.arrays.map fun s=>aD s))] [] (.v (.bool true)) [])
  (hf:GF Tryz.prog 166 [.sl 3 (p.fns.map aw),.sl 3 (r.fns.map aw),.v (.func (.func 167) #[] #[])] [] (.v (.bool false)) [])
  (hP:GF Tryz.prog 163 [iy ts,.v (ii (x.length:Int))] [] (.tup [.agg (ax r),.v (ii 0),.v (ii 0)]) []) :
  GF Tryz.prog 136 [.agg (ax p)] [] (.v (.bool false)) []:=by
 have hm:(p.nodes.map ay).length=p.nodes.length:=by simp
 have hd:decide ((800:Int) < ((p.nodes.map ay).length:Int))=false:=by rw [hm];simpa using by omega
 refine ai Tryz.func136 Tryz.ntmps136 ?_;refine ab [] hB ?_;refine ab [] hC ?_;refine ab [] hL ?_;refine ab [] hX ?_;refine ab [] hP ?_;refine ab [] hg ?_;refine ab [] ha ?_;refine ab [] hf ?_;exact al
theorem JC (p r:Src) (l:List T) (x:ah) (ts:List Tok) (c:Int) (b:Bool) (h:p.nodes.length<=800) (hB:GF Tryz.prog 155 [.agg (ax p)] [] (.tup [.sl 1 (cg l),.v (.bool true)]) [])
  (hC:GF Tryz.prog 156 [.sl 1 (cg l),.v (.func (.func 157) #[] #[])] [] (.v (.bool false)) [])
  (hL:GF Tryz.prog 159 [.agg (ax p),.sl 1 (cg l),.v (iG 160),.v (iG 161)] [] (.v (sv x)) [])
  (hX:GF Tryz.prog 162 [.v (sv x)] [] (.tup [iy ts,.v (ii 0),.v (ii c)]) [])
   (hg:GF Tryz.prog 164 [strs p.globals,strs r.globals] [] (.v (.bool true)) [])
  (ha:GF Tryz.prog 165 [(.sl 2 (p.arrays.map fun s=>aD s)),(.sl 2 (r.arrays.map fun s=>aD s))] [] (.v (.bool true)) [])
  (hf:GF Tryz.prog 166 [.sl 3 (p.fns.map aw),.sl 3 (r.fns.map aw),.v (.func (.func 167) #[] #[])] [] (.v (.bool true)) [])
  (hn:GF Tryz.prog 168 [.sl 5 (p.nodes.map ay),.sl 5 (r.nodes.map ay),.v (.func (.func 169) #[] #[])] [] (.v (.bool b)) [])
  (hP:GF Tryz.prog 163 [iy ts,.v (ii (x.length:Int))] [] (.tup [.agg (ax r),.v (ii 0),.v (ii 0)]) []) :
  GF Tryz.prog 136 [.agg (ax p)] [] (.v (.bool b)) []:=by
 have hm:(p.nodes.map ay).length=p.nodes.length:=by simp
 have hd:decide ((800:Int) < ((p.nodes.map ay).length:Int))=false:=by rw [hm];simpa using by omega
 refine ai Tryz.func136 Tryz.ntmps136 ?_;refine ab [] hB ?_;refine ab [] hC ?_;refine ab [] hL ?_;refine ab [] hX ?_;refine ab [] hP ?_;refine ab [] hg ?_;refine ab [] ha ?_;refine ab [] hf ?_;refine ab [] hn ?_;exact al
theorem En (p r:Src) (l:List T) (x:ah) (ts:List Tok) (c:Int) (b1 b2 b3 b4:Bool) (h:p.nodes.length<=800) (hB:GF Tryz.prog 155 [.agg (ax p)] [] (.tup [.sl 1 (cg l),.v (.bool true)]) [])
  (hC:GF Tryz.prog 156 [.sl 1 (cg l),.v (.func (.func 157) #[] #[])] [] (.v (.bool false)) [])
  (hL:GF Tryz.prog 159 [.agg (ax p),.sl 1 (cg l),.v (iG 160),.v (iG 161)] [] (.v (sv x)) [])
  (hX:GF Tryz.prog 162 [.v (sv x)] [] (.tup [iy ts,.v (ii 0),.v (ii c)]) [])
  (hg:GF Tryz.prog 164 [strs p.globals,strs r.globals] [] (.v (.bool b1)) [])
  (ha:GF Tryz.prog 165 [(.sl 2 (p.arrays.map fun s=>aD s)),(.sl 2 (r.arrays.map fun s=>aD s))] [] (.v (.bool b2)) [])
  (hf:GF Tryz.prog 166 [.sl 3 (p.fns.map aw),.sl 3 (r.fns.map aw),.v (.func (.func 167) #[] #[])] [] (.v (.bool b3)) [])
  (hn:GF Tryz.prog 168 [.sl 5 (p.nodes.map ay),.sl 5 (r.nodes.map ay),.v (.func (.func 169) #[] #[])] [] (.v (.bool b4)) [])
  (hP:GF Tryz.prog 163 [iy ts,.v (ii (x.length:Int))] [] (.tup [.agg (ax r),.v (ii 0),.v (ii 0)]) []) :
  GF Tryz.prog 136 [.agg (ax p)] [] (.v (.bool (b1&&(b2&&(b3&&b4))))) []:=by
 cases b1 with
 | false=>exact Jz p r l x ts c h hB hC hL hX hg hP
 | true =>
  cases b2 with
  | false=>exact JA p r l x ts c h hB hC hL hX hg ha hP
  | true =>
   cases b3 with
   | false=>exact JB p r l x ts c h hB hC hL hX hg ha hf hP
   | true=>exact JC p r l x ts c b4 h hB hC hL hX hg ha hf hn hP
end Go.Xg
set_option maxHeartbeats 1000000
namespace Go.Xg
open Go.RowKit Go.Xw Go.Proofs
open Go.Xp (Tok Nd T Ar aP az ef)
open Go.Sp (Src)
open Go.Im
attribute [local irreducible] GW GL GO YG GC GA aV aZ
theorem Mv {st:PS} {f:Go.Sp.Fn} (h:f∈oR st):∃ x∈st.fns,f.params=x.2:=by
 unfold oR at h;obtain ⟨i,hi⟩:=List.getElem?_of_mem h;rw [getElem?_mapIdx] at hi
 cases hx:st.fns[i]? with
 | none=>rw [hx] at hi;cases hi
 | some x=>rw [hx] at hi;cases hi;exact ⟨x,mem_of_getElem? hx,rfl⟩
theorem Lw (p:Src) (hw:ej p<=1048576) (hn:xe p):GF Tryz.prog 136 [.agg (ax p)] [] (.v (.bool (fI p))) []:=by
 obtain ⟨⟨s1,s2⟩,⟨s3,s4⟩,⟨s5,s6⟩,⟨s7,s8⟩⟩:=gS p
 have eS:∀ n∈p.nodes,n.kids.length<=1099511627776:=fun n h=>by have:=(s8 n h).2;omega
 have hB:=vN p ag eS ag;unfold fI
 by_cases h8:p.nodes.length > 800
 ·rw [if_pos h8];exact Em p h8
 rw [if_neg h8]
 cases hb:jj p.nodes p.fns 0 [] with
 | none=>exact BK p ag eS ag hb
 | some y =>
  obtain ⟨l,e⟩:=y;simp only
  by_cases he:e≠p.nodes.length
  ·rw [if_pos he];exact G6 p l e ag eS ag hb he
  rw [if_neg he]
  have he:e=p.nodes.length:=by simpa using he
  subst he;obtain ⟨l',h1,h2,h3,h4,h5⟩:=BU _ _ _ _ _ hb;rw [nil_append] at h1;subst h1
  have hz:az l=p.nodes.length:=by omega
  have aan:=SO hn h2 hz;have pn:=GK h2 hz;have pQ:=fx.len h3;have Zn:=dy.num hn.nodes l 0 h2
  by_cases hk:l.all fQ=false
  ·rw [if_pos hk];exact El p l ag eS ag hb ag (fun t ht=>by have:=(pn t ht).2;omega) hk
  rw [if_neg hk]
  have hk:l.all fQ=true:=by simpa using hk
  obtain ⟨ts,c,z,q,st,hr⟩:=reads (mW cQ fu p l);rw [Aj hr];rw [hb] at hB;unfold BS at hB;simp only at hB;rw [show ((p.nodes.length:Int)==(p.nodes.length:Int))=true by simp] at hB;have hC:=uK l ag (fun t ht=>by have:=(pn t ht).2;omega);rw [hk] at hC;have hL:=PV 160 161 cQ fu QR p l ag ag ag ag ag hn.arrays (fun f h=>by have:=(s6 f h).2.1;omega)
   (fun t ht=>⟨List.all_eq_true.1 hk t ht,jE Zn ht,by have:=(pn t ht).1;omega,by have:=(pn t ht).2;omega⟩)
  have hX:=P5 _ _ ts c z ag hr.lex;have aaF:=hr.len;have hP:=HC ts (((mW cQ fu p l).length:Nat):Int) q st ag ag (fun h=>by have:=(hr.ok h).2;omega) hr.read;have iU:=Nn _ _ _ _ _ _ (Nat.le_refl _) hr.read ⟨Nat.zero_le _,Nat.zero_le _,Nat.zero_le _,fun x h=>by cases h⟩;have eG:=hr.ok;clear hr hb;generalize hxg:mW cQ fu p l=x at *
  by_cases hc:c≠0
  ·rw [if_pos hc];exact G7 p l x ts c z ag hB hC hL hX (by simpa using hc)
  rw [if_neg hc]
  have hc:c=0:=by simpa using hc
  subst hc
  by_cases hq:q.code≠0
  ·rw [if_pos hq];unfold I9 at hP;rw [if_neg hq] at hP;exact yZ p l x ts z q.code q.at_ ag hB hC hL hX hP (by simpa using hq)
  rw [if_neg hq]
  have hq:q.code=0:=by simpa using hq
  obtain ⟨Dh,Ng⟩:=eG hq
  by_cases h9:az st.trees > 800
  ·rw [if_pos h9];unfold I9 at hP;rw [if_pos hq,if_pos h9] at hP;exact yZ p l x ts z 10 0 ag hB hC hL hX hP aJ
  rw [if_neg h9];rw [VJ hq h9 Dh.len] at hP;obtain ⟨m1,m2,m3,m4⟩:=iU
  have jL:(ef 0 st.trees).length<=800:=by rw [Go.Xp.yv];omega
  unfold same;refine En p (RU st) l x ts z _ _ _ _ ag hB hC hL hX ?_ ?_ ?_ ?_ hP
  ·exact HO _ _ ag (by show st.globals.length<=_;omega)
  ·exact R9 _ _ ag (by show st.arrays.length<=_;omega)
  ·refine G4 p.fns (oR st) ag ?_ (fun f h=>by have:=(s6 f h).2.1;omega) (fun f h=>?_)
   ·unfold oR;rw [List.length_mapIdx];omega
   ·obtain ⟨y,hy,h6⟩:=Mv h;rw [h6];have:=m4 y hy;omega
  ·exact G5 p.nodes (ef 0 st.trees) ag ag eS (fun n h=>by have:=zP st.trees 0 n h;omega)
end Go.Xg
set_option maxHeartbeats 2000000
namespace Go.Im
open Go.Xp Go.Sp
theorem Bl (p:Src):(cK p).length=p.globals.length+p.arrays.length+p.fns.length:=by simp [cK,eN,ir];omega
end Go.Im
namespace Go.Xg
open Go.RowKit Go.Xw Go.Proofs
open Go.Xp (Nd Ar)
open Go.Sp (Src)
open Go.Im
attribute [local irreducible] GW GL GO YG GC GA aV aZ
theorem wD:∀ l:List ah,mb (ca l)=true
 | []=>rfl
 | s::l=>by
  have:=wD l;unfold ca at this |-;rw [List.map_cons,mb,this];rfl
theorem o8 (l:List ah):(ca l).length=l.length:=by simp [ca]
theorem JH (p:Src) (hw:ej p<=1048576):GC Tryz.prog 82 [.agg (ax p)] [] fun g Δ=>∃ a c,g=.v (.slice a (cK p).length c)/\Δ=[.vech 9 1 (ca (cK p)) (.slice a (cK p).length c)]:=by
 obtain ⟨⟨a1,a2⟩,⟨b1,b2⟩,⟨c1,c2⟩,⟨d1,d2⟩⟩:=gS p
 have vb:(p.globals.map fun s=>[GV.v (sv s)]).length=p.globals.length:=by simp
 have ia:mb (p.globals.map fun s=>[GV.v (sv s)])=true:=wD p.globals;refine db Tryz.func82 Tryz.ntmps82 ?_;refine GW.wk (Wk.oY 9 1) ?_;simp only [nil_append];refine ae ?_;refine GL.D5 0 rfl rfl rfl rfl ia (by refine ⟨?_,?_⟩;(· rw [vb];omega);(· rw [vb];omega)) ?_;intro a c;rw [vb];refine ct ?_;simp only [nil_append,length_nil,Nat.zero_add];refine ae ?_;refine GW.range (p.arrays.map aD).length (fun k fr Γ=>∃ a c R n,fr=[.U,.loc 1 0,.U,.v (.slice a n c),.U,.U,.U,.U,.U,.U,.U,.U,.sl 2 (p.arrays.map aD),.v (ii ((p.arrays.map aD).length:Int)),.v (ii (k:Nat)),.U,.U,.U,.U,.U,.U,.U,.U,.U,.U,.U,.U,.U,.U,.U,.U,.U,.U,.U,.U,.U,.U,.U]/\Γ=[.vech 9 1 R (.slice a n c),.box 34 (ax p)]/\R.length=n/\R=ca (p.globals++(eN p).take k)) ?_ (by rw [length_map];omega) ?_ ?_ ?_
 ·exact ⟨_,_,Wk.aC aq,_,_,_,_,rfl,rfl,vb,by simp [ca]⟩
 ·rintro k _ _ ⟨a,c,R,n,rfl,rfl,_⟩;exact dQ
 ·rintro k _ _ hk ⟨a,c,R,n,rfl,rfl,eF,hR⟩
  have hk:k < p.arrays.length:=by simpa using hk
  have hx:p.arrays[k]?=some p.arrays[k]:=by simp [hk]
  have hr:=Ge hx
  have bu:ca (p.globals++(eN p).take (k+1))=R++[[.v (sv p.arrays[k].name)]]:=by
   have:(eN p)[k]?=some p.arrays[k].name:=by rw [eN,getElem?_map,hx];rfl
   rw [take_add_one,this,hR];simp [ca]
  have vd:n<=4194304:=by
   rw [<-eF,hR,o8,length_append,length_take];omega
  clear hR;unfold aD at hr;generalize p.arrays[k]=x at *;refine ae ?_;refine GL.jw 0 rfl rfl rfl rfl rfl rfl rfl rfl aR me ?_;intro a2 c2;refine bJ ?_;refine ae ?_;exact ⟨rfl,rfl,_,_,(Wk.cut (n:=2) (Nat.zero_le _) rfl).trans (Wk.aC aq),a2,c2,_,_,rfl,rfl,by simp [eF],bu.symm⟩
 ·rintro _ _ ⟨a,c,R,n,rfl,rfl,eF,hR⟩;rw [length_map,show p.arrays.length=(eN p).length by simp [eN],take_length] at hR;refine bb ?_;refine ae ?_;refine GW.range (p.fns.map aw).length (fun k fr Γ=>∃ a c R n,fr=[.U,.loc 1 0,.U,.v (.slice a n c),.U,.U,.U,.U,.U,.U,.U,.U,.U,.U,.U,.U,.U,.U,.U,.U,.U,.U,.U,.U,.U,.sl 3 (p.fns.map aw),.v (ii ((p.fns.map aw).length:Int)),.v (ii (k:Nat)),.U,.U,.U,.U,.U,.U,.U,.U,.U,.U]/\Γ=[.vech 9 1 R (.slice a n c),.box 34 (ax p)]/\R.length=n/\R=ca ((p.globals++eN p)++(ir p).take k)) ?_ (by rw [length_map];omega) ?_ ?_ ?_
  ·exact ⟨_,_,Wk.aC aq,_,_,_,_,rfl,rfl,eF,by rw [hR];simp⟩
  ·rintro k _ _ ⟨a,c,R,n,rfl,rfl,_⟩;exact dQ
  ·rintro k _ _ hk ⟨a,c,R,n,rfl,rfl,eF,hR⟩
   have hk:k < p.fns.length:=by simpa using hk
   have hx:p.fns[k]?=some p.fns[k]:=by simp [hk]
   have hr:=Bu hx
   have bu:ca ((p.globals++eN p)++(ir p).take (k+1))=R++[[.v (sv p.fns[k].name)]]:=by
    have:(ir p)[k]?=some p.fns[k].name:=by rw [ir,getElem?_map,hx];rfl
    rw [take_add_one,this,hR];simp [ca]
   have vd:n<=4194304:=by
    rw [<-eF,hR,o8,length_append,length_append,length_take,eN,length_map];omega
   clear hR;unfold aw at hr;generalize p.fns[k]=x at *;refine ae ?_;refine GL.jw 0 rfl rfl rfl rfl rfl rfl rfl rfl aR me ?_;intro a2 c2;refine bJ ?_;refine ae ?_;exact ⟨rfl,rfl,_,_,(Wk.cut (n:=2) (Nat.zero_le _) rfl).trans (Wk.aC aq),a2,c2,_,_,rfl,rfl,by simp [eF],bu.symm⟩
  ·rintro _ _ ⟨a,c,R,n,rfl,rfl,eF,hR⟩;rw [length_map,show p.fns.length=(ir p).length by simp [ir],take_length] at hR
   have rC:n=(cK p).length:=by rw [<-eF,hR,o8];rfl
   subst rC;refine bb ?_;refine ae ?_;refine ig ?_;exact rV (n:=1) rfl cl rfl (Nat.zero_le _) rfl rfl ⟨a,c,rfl,by rw [hR];rfl⟩
end Go.Xg
set_option maxHeartbeats 4000000
namespace Go.Im
open Go.Xp Go.Sp
def w9 (l:List ah) (k:Nat):Int:=if (List.range k).any (kl l)=true then 21 else 0
theorem Qb (l:List ah) (k:Nat):w9 l (k+1)=if kl l k=true then fL (w9 l k) 21 else w9 l k:=by
 unfold w9;rw [List.range_succ,List.any_append]
 cases h:(List.range k).any (kl l) with
 | true=>simp [fL]
 | false=>simp [fL]
theorem S2 (l:List ah):w9 l l.length=if ea l=true then 21 else 0:=rfl
end Go.Im
namespace Go.Xg
open Go.RowKit Go.Xw Go.Proofs
open Go.Xp (Nd T Ar aP az)
open Go.Sp (Src)
open Go.Im
attribute [local irreducible] GW GL GO YG GC GA aV aZ
theorem Kq (p:Src) (hw:ej p<=1048576) :
  GF Tryz.prog 130 [.loc 0 0] [.box 133 (cC p (.slice none 0 0) ⟨[],0,0⟩)] (.tup []) [.box 133 (cC p (.slice none 0 0) ⟨[],(if ea (cK p)=true then 21 else 0),0⟩)]:=by
 obtain ⟨⟨a1,a2⟩,⟨b1,b2⟩,⟨c1,c2⟩,⟨d1,d2⟩⟩:=gS p
 have vb:(p.globals.map fun s=>[GV.v (sv s)]).length=p.globals.length:=by simp
 have ia:mb (p.globals.map fun s=>[GV.v (sv s)])=true:=wD p.globals;have rC:=Bl p;rw [<-S2]
 have xw:=fun k=>B4 p (.slice none 0 0) (w9 (cK p) k) 21
 rw [show (0:Int)=w9 (cK p) 0 from rfl];unfold cC at xw |-;refine ai Tryz.func130 Tryz.ntmps130 ?_;refine kK ?_;refine ae ?_;refine kK ?_;refine ae ?_;refine GL.Wm rfl rfl rfl rfl ia (by refine ⟨?_,?_⟩;(· rw [vb];omega);(· rw [vb];omega)) ?_;rw [vb];refine ct ?_;simp only [Nat.zero_add];refine ae ?_;refine GW.range (p.arrays.map aD).length (fun k fr Γ=>∃ R n,fr=[.loc 0 0,.U,.vec 1 0,.vec 2 n,.U,.U,.U,.U,.U,.U,.U,.U,.U,.U,.U,.U,.U,.U,.U,.U,.U,.U,.sl 2 (p.arrays.map aD),.v (ii ((p.arrays.map aD).length:Int)),.v (ii (k:Nat)),.U,.U,.U,.U,.U,.U,.U,.U,.U,.U,.U,.U,.U,.U,.U,.U,.U,.U,.U,.U,.U,.U,.U,.U,.U,.U,.U,.U,.U,.U,.U,.U,.U,.U,.U,.U,.U,.U,.U,.U,.U,.U,.U,.U,.U]/\Γ=[.box 133 [strs p.globals,.sl 2 (p.arrays.map aD),.sl 3 (p.fns.map aw),.sl 5 (p.nodes.map ay),.v (.slice none 0 0),.v (ii (w9 (cK p) 0)),.v (ii 0)],.vec 9 1 0 [],.vec 9 1 0 R]/\R.length=n/\R=ca (p.globals++(eN p).take k)) ?_ (by rw [length_map];omega) ?_ ?_ ?_
 ·exact ⟨_,_,Wk.aC aq,_,_,rfl,rfl,vb,by simp [ca,chunk]⟩
 ·rintro k _ _ ⟨R,n,rfl,rfl,_⟩;exact dQ
 ·rintro k _ _ hk ⟨R,n,rfl,rfl,eF,hR⟩
  have hk:k < p.arrays.length:=by simpa using hk
  have hx:p.arrays[k]?=some p.arrays[k]:=by simp [hk]
  have hr:=Ge hx
  have bu:ca (p.globals++(eN p).take (k+1))=R++[[.v (sv p.arrays[k].name)]]:=by
   have:(eN p)[k]?=some p.arrays[k].name:=by rw [eN,getElem?_map,hx];rfl
   rw [take_add_one,this,hR];simp [ca]
  have vd:n<=4194304:=by
   rw [<-eF,hR,o8,length_append,length_take];omega
  have hb:n+1<=9223372036854775807/\(n+1) * 16<=140737488355328:=by omega
  clear hR;unfold aD at hr;generalize p.arrays[k]=x at *;refine ae ?_;refine eQ ?_;refine ae ?_;exact ⟨rfl,rfl,_,_,(Wk.cut (n:=3) (Nat.le_of_ble_eq_true rfl) rfl).trans (Wk.aC aq),_,_,rfl,rfl,by simp [eF],bu.symm⟩
 ·rintro _ _ ⟨R,n,rfl,rfl,eF,hR⟩;rw [length_map,show p.arrays.length=(eN p).length by simp [eN],take_length] at hR;refine bb ?_;refine ae ?_;refine GW.range (p.fns.map aw).length (fun k fr Γ=>∃ R n,fr=[.loc 0 0,.U,.vec 1 0,.vec 2 n,.U,.U,.U,.U,.U,.U,.U,.U,.U,.U,.U,.U,.U,.U,.U,.U,.U,.U,.U,.U,.U,.U,.U,.U,.U,.U,.U,.U,.U,.U,.U,.U,.U,.U,.sl 3 (p.fns.map aw),.v (ii ((p.fns.map aw).length:Int)),.v (ii (k:Nat)),.U,.U,.U,.U,.U,.U,.U,.U,.U,.U,.U,.U,.U,.U,.U,.U,.U,.U,.U,.U,.U,.U,.U,.U,.U,.U,.U,.U,.U]/\Γ=[.box 133 [strs p.globals,.sl 2 (p.arrays.map aD),.sl 3 (p.fns.map aw),.sl 5 (p.nodes.map ay),.v (.slice none 0 0),.v (ii (w9 (cK p) 0)),.v (ii 0)],.vec 9 1 0 [],.vec 9 1 0 R]/\R.length=n/\R=ca ((p.globals++eN p)++(ir p).take k)) ?_ (by rw [length_map];omega) ?_ ?_ ?_
  ·exact ⟨_,_,Wk.aC aq,_,_,rfl,rfl,eF,by rw [hR];simp⟩
  ·rintro k _ _ ⟨R,n,rfl,rfl,_⟩;exact dQ
  ·rintro k _ _ hk ⟨R,n,rfl,rfl,eF,hR⟩
   have hk:k < p.fns.length:=by simpa using hk
   have hx:p.fns[k]?=some p.fns[k]:=by simp [hk]
   have hr:=Bu hx
   have bu:ca ((p.globals++eN p)++(ir p).take (k+1))=R++[[.v (sv p.fns[k].name)]]:=by
    have:(ir p)[k]?=some p.fns[k].name:=by rw [ir,getElem?_map,hx];rfl
    rw [take_add_one,this,hR];simp [ca]
   have vd:n<=4194304:=by
    rw [<-eF,hR,o8,length_append,length_append,length_take,eN,length_map];omega
   have hb:n+1<=9223372036854775807/\(n+1) * 16<=140737488355328:=by omega
   clear hR;unfold aw at hr;generalize p.fns[k]=x at *;refine ae ?_;refine eQ ?_;refine ae ?_;exact ⟨rfl,rfl,_,_,(Wk.cut (n:=3) (Nat.le_of_ble_eq_true rfl) rfl).trans (Wk.aC aq),_,_,rfl,rfl,by simp [eF],bu.symm⟩
  ·rintro _ _ ⟨R,n,rfl,rfl,eF,hR⟩;rw [length_map,show p.fns.length=(ir p).length by simp [ir],take_length] at hR;have hR:R=ca (cK p):=hR
   have nB:R.length=(cK p).length:=by rw [hR,o8]
   have UR:n=R.length:=eF.symm;subst UR;refine bb ?_;refine GW.wk (Wk.jx (t:=3) rfl rfl rfl rfl) ?_;refine GW.wk (Wk.cut (n:=2) (Nat.le_of_ble_eq_true rfl) rfl) ?_;refine GW.Mj (b8:=[.loc 0 0,.U,.vec 1 0,.sl 1 R,.U,.U,.U,.U,.U,.U,.U,.U,.U,.U,.U,.U,.U,.U,.U,.U,.U,.U,.U,.U,.U,.U,.U,.U,.U,.U,.U,.U,.U,.U,.U,.U,.U,.U,.U,.U,.U,.U,.U,.U,.U,.U,.U,.U,.U,.U,.U,.U,.U,.U,.U,.U,.U,.U,.U,.U,.U,.U,.U,.U,.U,.U,.U,.U,.U,.U]) (aK:=[.box 133 [strs p.globals,.sl 2 (p.arrays.map aD),.sl 3 (p.fns.map aw),.sl 5 (p.nodes.map ay),.v (.slice none 0 0),.v (ii (w9 (cK p) 0)),.v (ii 0)],.vec 9 1 0 []]) aq rfl ?_;refine ae ?_;refine GW.range R.length (fun k fr Γ=>∃ S n fz,fr=[.loc 0 0,.U,.vec 1 n,.U,.U,.U,.U,.U,.U,.U,.U,.U,.U,.U,.U,.U,.U,.U,.U,.U,.U,.U,.U,.U,.U,.U,.U,.U,.U,.U,.U,.U,.U,.U,.U,.U,.U,.U,.U,.U,.U,.U,.U,.U,.U,.U,.U,.U,.U,.U,.sl 1 R,.v (ii (R.length:Int)),.v (ii (k:Nat)),.U,.U,.U,.U,.U,.U,.U,.U,.U,.U,.U,.U,.U,.U,.U,.U,.U]/\Γ=[.box 133 [strs p.globals,.sl 2 (p.arrays.map aD),.sl 3 (p.fns.map aw),.sl 5 (p.nodes.map ay),.v (.slice none 0 0),.v (ii (w9 (cK p) k)),.v (ii 0)],.vec 9 1 fz S]/\S.length=n/\S=ca ((cK p).take k)) ?_ ag ?_ ?_ ?_
   ·exact ⟨_,_,Wk.aC aq,_,_,_,rfl,rfl,rfl,by simp [ca]⟩
   ·rintro k _ _ ⟨S,n,fz,rfl,rfl,_⟩;exact dQ
   ·rintro k _ _ hk ⟨S,n,fz,rfl,rfl,mx,hS⟩;rw [nB] at hk;obtain ⟨x,hx⟩:∃ x,(cK p)[k]?=some x:=⟨(cK p)[k],by simp [hk]⟩
    have Ru:R[k]?=some [.v (sv x)]:=by rw [hR,ca,getElem?_map,hx];rfl
    have bu:ca ((cK p).take (k+1))=S++[[.v (sv x)]]:=by rw [take_add_one,hx,hS];simp [ca]
    have vd:n<=8388608:=by rw [<-mx,hS,o8,length_take];omega
    have hb:n+1<=9223372036854775807/\(n+1) * 16<=140737488355328:=by omega
    have hd:kl (cK p) k=(l7 x || ((cK p).take k).contains x):=by unfold kl;rw [hx]
    have MQ:=Kr x
    have hL:GF Tryz.prog 74 [.sl 1 S,.v (sv x)] [] (.v (.bool (((cK p).take k).contains x))) []:=by
     rw [hS];exact jk ((cK p).take k) x (by rw [length_take];omega)
    have hF:=xw k;rw [Qb];clear hS hR nB;generalize w9 (cK p) k=cd at *;generalize kl (cK p) k=bn at *
    cases h1:l7 x with
    | true =>
     rw [h1] at MQ hd;subst hd;rw [if_pos (by simp)];refine ae ?_;refine ab [] MQ ?_;refine ab [0] hF ?_;refine eQ ?_;refine ae ?_;exact ⟨rfl,rfl,_,_,Wk.aC aq,_,_,_,rfl,rfl,by simp [mx],bu.symm⟩
    | false =>
     rw [h1] at MQ hd
     cases h2:((cK p).take k).contains x with
     | true =>
      rw [h2] at hL hd;subst hd;rw [if_pos (by simp)];refine ae ?_;refine ab [] MQ ?_;refine GL.wk (Wk.jx (t:=59) rfl rfl rfl mx) ?_;refine bJ ?_;refine ae ?_;refine ab [] hL ?_;refine ab [0] hF ?_;refine eQ ?_;refine ae ?_;exact ⟨rfl,rfl,_,_,Wk.aC aq,_,_,_,rfl,rfl,by simp [mx],bu.symm⟩
     | false =>
      rw [h2] at hL hd;subst hd;rw [if_neg (by simp)];refine ae ?_;refine ab [] MQ ?_;refine GL.wk (Wk.jx (t:=59) rfl rfl rfl mx) ?_;refine bJ ?_;refine ae ?_;refine ab [] hL ?_;refine eQ ?_;refine ae ?_;exact ⟨rfl,rfl,_,_,Wk.aC aq,_,_,_,rfl,rfl,by simp [mx],bu.symm⟩
   ·rintro _ _ ⟨S,n,fz,rfl,rfl,mx,hS⟩;rw [nB];exact fU
theorem IM (p:Src) (c z:Int) (h:GF Tryz.prog 97 [.agg (ax p)] [] (.tup [.v (ii c),.v (ii z)]) []):GF Tryz.prog 39 [.agg (ax p)] [] (.v (.bool (c==0))) []:=by
 refine ai Tryz.func39 Tryz.ntmps39 ?_;refine ab [] h ?_;exact al
end Go.Xg
namespace Go.Im
open Go.Xp Go.Sp
def qH (p:Src) (fn:Int):Bool:=(ij p&&decide ((0:Int)<=fn))&&decide (fn < (p.fns.length:Int))
end Go.Im
namespace Go.Xg
open Go.RowKit Go.Xw Go.Proofs
open Go.Xp (Nd T Ar aP az bL)
open Go.Sp (Src)
open Go.Im
attribute [local irreducible] GW GL GO YG GC GA aV aZ
theorem Jk {l:List T} {t:T} (h:t∈l):aP t<=az l:=by
 obtain ⟨k,hk⟩:=List.getElem?_of_mem h;have:=tF hk;omega
theorem EX {p:Src} (h:fI p=false):ij p=false:=by unfold ij;rw [h];rfl
theorem C7 {p:Src} {l:List T} (h:fI p=true) (hl:fK p l):ij p=((CX p l).1==0):=by
 unfold ij;rw [h,hl.ED];simp only [Bool.true_and];rfl
theorem SJ (p:Src) (hw:ej p<=1048576) (hn:xe p):GF Tryz.prog 45 [.agg (ax p)] [] (.v (.bool (ij p))) []:=by
 obtain ⟨⟨a1,a2⟩,⟨b1,b2⟩,⟨c1,c2⟩,⟨d1,d2⟩⟩:=gS p;have hF:=Lw p hw hn
 cases hf:fI p with
 | false =>
  rw [hf] at hF;have:=MJ p _ _ (Lr p hF);rw [EX hf];exact this
 | true =>
  rw [hf] at hF;obtain ⟨l,hl⟩:=tR hf;have hlen:=fx.len hl.fns;have rC:=Bl p;have jq:=CQ hl
  have hc:=Jy p l (cK p) ag hlen ag hF (JH p hw) (Om p ag ag fun a ha=>⟨(jq a ha).1,by have:=(jq a ha).2;omega⟩) fun i f t h1 h2=>by
   obtain ⟨e1,_⟩:=fx.at_ hl.fns i f t h1 h2;have h7:=dy.ix l 0 i _ hl.st h2;rw [Nat.zero_add] at e1 h7
   have hb:f.body.toNat=az (l.take i):=by rw [e1,Int.toNat_natCast]
   have hz:=Jk (mem_of_getElem? h2);have:=hl.len;have:=Mu p i f t ag (fun n h=>by have:=(d2 n h).2;omega) ag ag ag h1 (by have:=(c2 f (mem_of_getElem? h1)).2.1;omega) ag (by rw [hb];exact h7) ag;rw [hb] at this;exact this
  rw [C7 hf hl];exact MJ p _ _ hc
theorem It (p:Src) (hw:ej p<=1048576):GF Tryz.prog 39 [.agg (ax p)] [] (.v (.bool (ij p))) []:=by
 obtain ⟨⟨a1,a2⟩,⟨b1,b2⟩,⟨c1,c2⟩,⟨d1,d2⟩⟩:=gS p;have hF:=Lv p hw
 cases hf:fI p with
 | false =>
  rw [hf] at hF;have:=IM p _ _ (Lq p hF);rw [EX hf];exact this
 | true =>
  rw [hf] at hF;obtain ⟨l,hl⟩:=tR hf;have hlen:=fx.len hl.fns;have jq:=CQ hl
  have U9:∀ a∈p.arrays,0<=a.size/\a.size<=2147483648:=fun a ha=>⟨(jq a ha).1,by have:=(jq a ha).2;omega⟩
  obtain ⟨ls,hm⟩:=hl.JX
  have hS:=fun k=>FI p (.slice none 0 0) k ag U9 fun h=>D1 p (.slice none 0 0) k ag ag U9 h
  have hle:=hl.len
  have hc:=Jx p l _ _ hlen ag ag ag (fun f h=>by have:=(c2 f h).2.1;omega) (fun t ht=>by have:=Jk ht;omega) hF (Kq p hw) (hS _) fun i f t h1 h2=>by
   obtain ⟨e1,_⟩:=fx.at_ hl.fns i f t h1 h2;have h7:=dy.ix l 0 i _ hl.st h2;rw [Nat.zero_add] at e1 h7;rw [e1];exact Eh p (fun n h=>by have:=(d2 n h).2;omega) _ _ t ((vD _).1 t _ h7 (Nat.le_refl _))
  have:=IM p _ _ hc;have hs:=TS (p:=p) (l:=l) (fun a ha=>(jq a ha).1) (fun t ht=>by obtain ⟨i,hi⟩:=List.getElem?_of_mem ht;exact (hm.wf hi).1)
  have e:((LZ p l).code==0)=ij p:=by
   rw [C7 hf hl]
   by_cases h0:(CX p l).1=0
   ·rw [h0,hs.1 h0]
   ·have h1:(LZ p l).code≠0:=fun e=>h0 (hs.2 e)
    rw [show ((CX p l).1==0)=false by simpa using h0,show ((LZ p l).code==0)=false by simpa using h1]
  rw [<-e];exact this
end Go.Xg
namespace Go.Im
open Go.Xp Go.Sp
end Go.Im
namespace Go.Xg
open Go.RowKit Go.Xw Go.Proofs
open Go.Xp (Nd T Ar aP az bL)
open Go.Sp (Src)
open Go.Im
attribute [local irreducible] GW GL GO YG GC GA aV aZ
theorem VZ (p:Src) (hk:∀ n∈p.nodes,n.kids.length<=1000000000000) (f:Go.Sp.Fn) (t:T) (hb:0<=f.body) (cq:eu p.nodes f.body.toNat t):GF Tryz.prog 99 [.agg (ax p),.v (ii f.body)] [] (.agg (cT t)) []:=by
 have:=Eh p hk _ _ t ((vD _).1 t _ cq (Nat.le_refl _))
 rwa [Int.toNat_of_nonneg hb] at this
end Go.Xg
namespace Go.Im
open Go.Xp Go.Sp
theorem Good.ED {p:Src} {l:List T} (h:Good p l):jj p.nodes p.fns 0 []=some (l,p.nodes.length):=h.st.ED
structure sH (p:Src) (l:List T) (i:Nat) (f:Go.Sp.Fn) (t:T):Prop where
 good:Good p l
 gf:p.fns[i]?=some f
 gt:l[i]?=some t
 ok:I7 p t f.params
 wf:gA t
 z:zT t
 st:eu p.nodes f.body.toNat t
 body:0<=f.body
 sz:aP t<=800
theorem Good.fn {p:Src} {l:List T} (h:Good p l) {i:Nat} {f:Go.Sp.Fn} {t:T} (e1:p.fns[i]?=some f) (e2:l[i]?=some t):sH p l i f t:=by
 obtain ⟨a1,a2,a3,a4,a5⟩:=h.at_ _ _ _ e1 e2;refine ⟨h,e1,e2,a1,a2,a3,a4,a5,?_⟩;have:=h.st.few;have:=a4.le;omega
theorem yB {p:Src} {fn:Int} (h:qH p fn=true):∃ (i:Nat) (l:List T) (f:Go.Sp.Fn) (t:T),fn=(i:Int)/\sH p l i f t:=by
 unfold qH at h;simp only [Bool.and_eq_true,decide_eq_true_eq] at h;obtain ⟨⟨h1,h2⟩,h3⟩:=h;obtain ⟨l,hl⟩:=SK h1;have hlen:=hl.len
 have hi:fn.toNat < p.fns.length:=by omega
 have e1:p.fns[fn.toNat]?=some p.fns[fn.toNat]:=getElem?_eq_getElem _;have e2:l[fn.toNat]?=some (l[fn.toNat]'bZ):=getElem?_eq_getElem _;obtain ⟨a1,a2,a3,a4,a5⟩:=hl.at_ _ _ _ e1 e2;refine ⟨fn.toNat,l,_,_,by omega,hl,e1,e2,a1,a2,a3,a4,a5,?_⟩;have:=hl.st.few;have:=a4.le;omega
end Go.Im
namespace Go.Xg
open Go.RowKit Go.Xw Go.Proofs
open Go.Xp (Nd T Ar aP az bL)
open Go.Sp (Src)
open Go.Im
attribute [local irreducible] GW GL GO YG GC GA aV aZ
end Go.Xg
namespace Go.Im
open Go.Xp Go.Sp
theorem Sk (p:Src) (s:List Int) (a:Nat) (t:T) (ls:List ah):(fk p s a t ls).length<=s.length+1:=by
 unfold fk;rw [length_append];have:=BX p t.n;omega
end Go.Im
namespace Go.Xg
open Go.RowKit Go.Xw Go.Proofs
open Go.Xp (Nd T Ar aP az)
open Go.Sp (Src)
open Go.Im
attribute [local irreducible] GW GL GO YG GC GA aV aZ
theorem Tu (p:Src) (a:Nat) (n:Nd) (l:List T) (ls:List ah) (s:List Int) (E1:TypeId) (eb:Option Addr) (ec:Nat) (ad:Option Addr) (cp:Nat) (hn:p.nodes[a]?=some n) (iL:p.fns.length<=1099511627776) (hs:s.length<=1048576000) :
  GC Tryz.prog 104 [.v (ii (a:Nat)),.v (.slice ad ls.length cp),.box (ax p) 0,.loc 0 0] [.box E1 [.v (.slice eb s.length ec)],.vech 3 1 (bc s) (.slice eb s.length ec),.vech 9 1 (ca ls) (.slice ad ls.length cp)] fun g Δ=>g=.tup []/\∃ wP wQ,
   Δ=[.box E1 [.v (.slice wP (fk p s a (.mk n l) ls).length wQ)],.vech 3 1 (bc (fk p s a (.mk n l) ls)) (.slice wP (fk p s a (.mk n l) ls).length wQ),.vech 9 1 (ca ls) (.slice ad ls.length cp)]:=by
 have hr:=jU hn;have tX:=eP s;have hA:=Mt p n.s iL;have e0:cE (fun x:Go.Sp.Fn=>x.name==n.s) p.fns=nV p n.s:=rfl;rw [e0] at hA;have e:fk p s a (.mk n l) ls=s++(if n.kind=4/\0<=nV p n.s then [nV p n.s] else []):=rfl;rw [e];unfold ay at hr;generalize nV p n.s=z at *
 cases h1:(n.kind==4) with
 | false =>
  rw [if_neg (fun h=>by rw [h.1] at h1;cases h1),append_nil];refine ai Tryz.func104 Tryz.ntmps104 ?_;refine aI (aB 0 7 (.a 7 (.q 8 .nil))) ?_;refine ar ?_;refine aE [] hA ?_;refine ae ?_;refine cW ?_;exact ⟨rfl,eb,ec,rfl⟩
 | true =>
  cases h2:decide ((0:Int)<=z) with
  | false =>
   rw [if_neg (fun h=>by have:=of_decide_eq_false h2;exact this h.2),append_nil];refine ai Tryz.func104 Tryz.ntmps104 ?_;refine aI (aB 0 7 (.a 7 (.q 8 .nil))) ?_;refine ar ?_;refine aE [] hA ?_;refine ae ?_;refine cW ?_;exact ⟨rfl,eb,ec,rfl⟩
  | true =>
   rw [if_pos ⟨by simpa using h1,by simpa using h2⟩];refine ai Tryz.func104 Tryz.ntmps104 ?_;refine aI (aB 0 7 (.a 7 (.q 8 .nil))) ?_;refine ar ?_;refine aE [] hA ?_;refine ae ?_;refine GL.jw 1 rfl rfl rfl rfl rfl rfl rfl rfl aR me ?_;intro sL sP;refine bJ ?_;refine ae ?_;refine cW ?_;exact ⟨rfl,sL,sP,by simp [bc]⟩
end Go.Xg
namespace Go.Xg
open Go.RowKit Go.Xw Go.Proofs
open Go.Xp (Nd T Ar aP az dX)
open Go.Sp (Src)
open Go.Im
attribute [local irreducible] GW GL GO YG GC GA aV aZ
def GD (p:Src):GV:=.fn (.func 104) [] [.box (ax p) 0,.loc 0 0]
def RW (p:Src):GV:=.fn (.func 127) [] [.loc 2 0,.loc 3 0,.box (ax p) 0,.loc 4 0]
def RR (E1:TypeId) (s:List Int) (eb:Option Addr) (ec:Nat):List Ob:=[.box E1 [.v (.slice eb s.length ec)],.vech 3 1 (bc s) (.slice eb s.length ec)]
def DG (p:Src) (E1 E2 E3 E4:TypeId) (s:List Int) (ls:List ah) (ad:Option Addr) (cp:Nat) (eb:Option Addr) (ec:Nat):List Ob :=
 [.box E1 [.v (.slice eb s.length ec)],.vech 3 1 (bc s) (.slice eb s.length ec),.box E2 [GD p],.box E3 [.v (.slice ad ls.length cp)],.box E4 [RW p],.vech 9 1 (ca ls) (.slice ad ls.length cp)]
theorem QN (p:Src) (E1 E2 E3 E4:TypeId) (hp:p.nodes.length<=1048576) (eS:∀ n∈p.nodes,n.kids.length<=1099511627776) (iL:p.fns.length<=1099511627776):∀ (N:Nat) (t:T),aP t<=N->∀ (a:Nat) (s:List Int) (ls:List ah) (ad:Option Addr) (cp:Nat) (eb:Option Addr) (ec:Nat),eu p.nodes a t->ls.length+aP t<=8388608->s.length+aP t<=8388608 ->
  GC Tryz.prog 127 [.v (ii (a:Nat)),.loc 2 0,.loc 3 0,.box (ax p) 0,.loc 4 0] (DG p E1 E2 E3 E4 s ls ad cp eb ec) fun g Δ=>g=.tup []/\∃ ql qn wP wQ,Δ=DG p E1 E2 E3 E4 (iF (fk p) t a s ls).1 (iF (fk p) t a s ls).2 ql qn wP wQ:=by
 intro N
 induction N with
 | zero=>intro t h;have:=ko t;omega
 | succ N ih =>
 intro t hN a s ls ad cp eb ec cq mz qw
 cases t with
 | mk n l =>
 rw [Go.Xp.aP] at hN mz qw;have U6:=cq;rw [eu] at cq;obtain ⟨hn,hk,tX⟩:=cq;rw [iF];have hr:=jU hn;have oG:=eS n (mem_of_getElem? hn);have ht:=Tu p a n l ls s E1 eb ec ad cp hn iL ag;have aaC:((fk p) s a (.mk n l) ls).length<=s.length+1:=Sk _ _ _ _ _;generalize gz:(fk p) s a (.mk n l) ls=s1 at *
 have A4:n.kids.length=l.length:=by rw [hk,dX]
 unfold ay at hr;unfold DG GD RW;refine ai Tryz.func127 Tryz.ntmps127 ?_;refine GL.vP [0,1,5] ht rfl rfl rfl (by repeat (first | exact trivial | refine ⟨rfl,?_⟩)) ?_;rintro _ _ ⟨rfl,eb,ec,rfl⟩;refine cX ?_;refine ae ?_;refine GW.range (n.kids.map fun i=>[GV.v (ii i)]).length (fun k fr Γ=>∃ ql qn wP wQ,fr=[.v (ii (a:Nat)),.loc 2 0,.loc 3 0,.box (ax p) 0,.loc 4 0,.U,.U,.U,.U,.U,.U,.U,.U,.U,.U,.U,.U,ints n.kids,.v (ii ((n.kids.map fun i=>[GV.v (ii i)]).length:Int)),.v (ii (k:Nat)),.U,.U,.U,.U,.U,.U,.U,.U,.U,.U,.U,.U,.U,.U,.U,.U,.U,.U,.U,.U,.U,.U,.U]/\Γ=DG p E1 E2 E3 E4 (dW (fk p) (l.take k) (a+1) s1 ls).1 (dW (fk p) (l.take k) (a+1) s1 ls).2 ql qn wP wQ) ?_ (by rw [length_map];omega) ?_ ?_ ?_
 ·exact ⟨_,_,Wk.aC aq,ad,cp,eb,ec,rfl,rfl⟩
 ·rintro k _ _ ⟨ad,cp,eb,ec,rfl,rfl⟩;exact dQ
 ·rintro k _ _ ak ⟨ad,cp,eb,ec,rfl,rfl⟩;rw [length_map,A4] at ak;obtain ⟨u,hu⟩:∃ u,l[k]?=some u:=⟨l[k],by simp [ak]⟩;have iM:=xT (n:=a+1) hu;rw [<-hk] at iM;have rD:=pC iM;have cU:=tF hu;have U7:eu p.nodes (a+1+az (l.take k)) u:=dy.ix l (a+1) k u tX hu
  have hlen:(dW (fk p) (l.take k) (a+1) s1 ls).2.length<=ls.length+az (l.take k):=by
   rw [qE,length_append];have:=ur (l.take k);omega
  have J9:(dW (fk p) (l.take k) (a+1) s1 ls).1.length<=s1.length+az (l.take k):=by
   rw [EP,length_append];have:=EH p (l.take k);omega
  rw [EO _ hu];generalize (dW (fk p) (l.take k) (a+1) s1 ls).1=s2 at *;generalize (dW (fk p) (l.take k) (a+1) s1 ls).2=ls2 at *;have hv:=ih u ag (a+1+az (l.take k)) s2 ls2 ad cp eb ec U7 ag ag;unfold DG GD RW at hv |-;refine ae ?_;refine GL.vP [0,1,2,3,4,5] hv rfl rfl rfl (by repeat (first | exact trivial | refine ⟨rfl,?_⟩)) ?_;rintro _ _ ⟨rfl,ql,qn,wP,wQ,rfl⟩;refine cX ?_;refine ae ?_;exact ⟨rfl,rfl,_,_,Wk.aC aq,ql,qn,wP,wQ,rfl,rfl⟩
 ·rintro _ _ ⟨ad,cp,eb,ec,rfl,rfl⟩;rw [length_map,A4,take_length]
  have hlen:(dW (fk p) l (a+1) s1 ls).2.length<=ls.length+az l:=by
   rw [qE,length_append];have:=ur l;omega
  generalize (dW (fk p) l (a+1) s1 ls).1=s2 at *;generalize (dW (fk p) l (a+1) s1 ls).2=ls2 at *;have Rn:(ca ls2).length=ls2.length:=vC ls2;unfold DG GD RW;refine bb ?_
  cases hv:(n.kind==13) with
  | false =>
   rw [if_neg (by simpa using hv)];refine ae ?_;refine cW ?_;exact ⟨rfl,ad,cp,eb,ec,rfl⟩
  | true =>
   rw [if_pos (by simpa using hv)];refine ae ?_;refine aI (aB 0 7 (.a 7 (.a 8 (.a 9 .nil)))) ?_;refine ar ?_;refine eA ?_;refine ar ?_;refine OA rfl rfl (GL.pJ 5 (news:=[[.v (sv n.s)]]) rfl rfl rfl aR rfl rfl (by refine ⟨?_,?_⟩;(· show _+1<=_;omega);(· show (_+1) * _<=_;omega)) ?_);intro sL sP;refine dA ?_;refine bf ?_;refine cW ?_;exact ⟨rfl,sL,sP,eb,ec,by simp [ca]⟩
theorem St (p:Src) (E1:TypeId) (i:Nat) (f:Go.Sp.Fn) (t:T) (s:List Int) (eb:Option Addr) (ec:Nat) (hp:p.nodes.length<=1048576) (eS:∀ n∈p.nodes,n.kids.length<=1099511627776) (iL:p.fns.length<=1099511627776)
  (hf:p.fns[i]?=some f) (xL:f.params.length<=1048576) (hb:0<=f.body) (cq:eu p.nodes f.body.toNat t) (cU:aP t<=1048576) (hs:s.length+aP t<=8388608) :
  GC Tryz.prog 88 [.agg (ax p),.v (ii (i:Nat)),GD p] (RR E1 s eb ec) fun g Δ=>g=.tup []/\∃ wP wQ,Δ=RR E1 (iF (fk p) t f.body.toNat s f.params).1 wP wQ:=by
 have hr:(p.fns.map aw)[i]?=some (aw f):=by rw [getElem?_map,hf];rfl
 have cR:(f.params.map fun s=>[GV.v (sv s)]).length=f.params.length:=by simp
 have ia:=F6 f.params;obtain ⟨b,xC⟩:∃ b:Nat,f.body=(b:Int):=⟨f.body.toNat,by omega⟩;rw [xC,Int.toNat_natCast] at cq |-;unfold aw at hr;rw [xC] at hr;unfold GD RR;refine db Tryz.func88 Tryz.ntmps88 ?_;refine jh ?_;refine GL.wk (Wk.freeze (i:=2) rfl rfl rfl (Nat.le_refl _)) ?_;refine GN (by simp only [ou,nz];rfl) ?_;refine GL.wk (Wk.aC (b8:=[.U,.v (ii (i:Nat)),.U,.box (ax p) 0,.U,.loc 3 0,.U,.U,.U,.U,.U,.U,.U,strs f.params,.U,.U,.U,.U,.U,.U,.U,.U,.U,.U]) aq) ?_;refine GL.wk (Wk.oY 9 1) ?_;refine GL.D5 4 rfl rfl rfl rfl ia (by refine ⟨?_,?_⟩;(· rw [cR];omega);(· rw [cR];omega)) ?_;intro ad cp;rw [cR];refine ct ?_;simp only [nil_append,length_nil,Nat.zero_add];refine ae ?_;refine GW.Mj (b8:=[.U,.v (ii (i:Nat)),.U,.box (ax p) 0,.U,.loc 3 0,.loc 5 0,.loc 6 0,.U,.U,.U,.U,.U,.U,.U,.U,.U,.U,.U,.U,.U,.U,.U,.U]) (aK:=[.box E1 [.v (.slice eb s.length ec)],.vech 3 1 (bc s) (.slice eb s.length ec),.gone,.box _ [.fn (.func 104) [] [.box (ax p) 0,.loc 0 0]],.vech 9 1 (ca f.params) (.slice ad f.params.length cp),.box _ [.v (.slice ad f.params.length cp)],.box _ [.fn (.func 127) [] [.loc 3 0,.loc 5 0,.box (ax p) 0,.loc 6 0]]]) aq rfl ?_;refine aI (aB 0 7 (.a 7 .nil)) ?_;refine ar ?_;have hv:=QN p E1;refine OA rfl rfl (GL.vP [0,1,3,5,6,4] (hv _ _ _ hp eS iL _ t (Nat.le_refl _) b s f.params ad cp eb ec cq ag hs) rfl rfl rfl (by repeat (first | exact trivial | refine ⟨rfl,?_⟩)) ?_);rintro _ _ ⟨rfl,ql,qn,wP,wQ,rfl⟩;refine ⟨by simp [DG],?_⟩;unfold DG;refine dA ?_;refine bf ?_;refine cW ?_;exact ⟨rfl,wP,wQ,rfl⟩
end Go.Xg
namespace Go.Im
open Go.Xp Go.Sp
def nc (p:Src) (l:List T) (x:Int):List Int:=match l[x.toNat]? with | some t=>bT p t | none=>[]
theorem BZ (p:Src) (l:List T) (x:Int):∀ y∈nc p l x,0<=y/\y < (p.fns.length:Int):=by
 intro y hy;unfold nc at hy;split at hy
 ·exact mN p _ y hy
 ·simp at hy
structure Trail (p:Src) (L:List Int):Prop where
 nodup:L.Nodup
 rng:∀ y∈L,0<=y/\y < (p.fns.length:Int)
theorem Trail.len {p:Src} {L:List Int} (h:Trail p L):L.length<=p.fns.length:=DA h.nodup h.rng
theorem Trail.add {p:Src} {L ks:List Int} (h:Trail p L) (hk:∀ y∈ks,0<=y/\y < (p.fns.length:Int)):Trail p (dM L ks) :=
 ⟨vK h.nodup,fun y hy=>by
  rcases qB.1 hy with h1 | h1
  ·exact h.rng y h1
  ·exact hk y h1⟩
def pK (p:Src) (l:List T) (L:List Int):List Int:=na (nc p l) (p.fns.length+1) 0 L
theorem EA {cs:Int->List Int} {f i:Nat} {L:List Int} {x:Int} (h:L[i]?=some x):na cs (f+1) i L=na cs f (i+1) (dM L (cs x)):=by rw [na,h]
theorem EB {cs:Int->List Int} {f i:Nat} {L:List Int} (h:L.length<=i):na cs f i L=L:=by
 cases f with
 | zero=>rfl
 | succ f=>rw [na,getElem?_eq_none h]
theorem BR {p:Src} {l:List T}:∀ (f i:Nat) (L:List Int),Trail p L->Trail p (na (nc p l) f i L)
 | 0,i,L,h=>h
 | f+1,i,L,h=>by
  rw [na];split
  ·exact h
  ·exact BR f (i+1) _ (h.add (BZ p l _))
end Go.Im
namespace Go.Xg
open Go.RowKit Go.Xw Go.Proofs
open Go.Xp (Nd T Ar aP az)
open Go.Sp (Src)
open Go.Im
attribute [local irreducible] GW GL GO YG GC GA aV aZ
theorem Qd (l:List Int):mb (l.map fun i=>[GV.v (ii i)])=true:=by
 induction l with
 | nil=>rfl
 | cons s l ih=>rw [List.map_cons,mb,ih];rfl
theorem HZ (p:Src) (hw:ej p<=1048576) {l:List T} {i:Nat} {f:Go.Sp.Fn} {t:T} (h:sH p l i f t) :
  GF Tryz.prog 46 [.agg (ax p),.v (ii (i:Nat))] [] (ints (bT p t)) []:=by
 obtain ⟨⟨a1,a2⟩,⟨b1,b2⟩,⟨c1,c2⟩,⟨d1,d2⟩⟩:=gS p;have cU:=h.sz;have zh:=L5 p _ t (Nat.le_refl _)
 have hE:=fun eb ec=>St p 40 i f t [] eb ec ag (fun n hn=>by have:=(d2 n hn).2;omega) ag h.gf (by have:=(c2 f (mem_of_getElem? h.gf)).2.1;omega) h.body h.st ag (by show 0+_<=_;omega)
 rw [Q2,nil_append] at hE;obtain ⟨e1,e2⟩:=TW (oA p t)
 have hS:=fun a c=>LI (oA p t) 3 a c ag
 have hC:=fun a c=>Ls (gx (oA p t)) 3 a c (by rw [nI];omega) e2
 rw [e1] at hC;rw [nI] at hC;unfold GD RR at hE;unfold bT;generalize oM (oA p t)=rr at *;generalize gx (oA p t)=ss at *;refine db Tryz.func46 Tryz.ntmps46 ?_;refine GW.wk (Wk.oY 3 1) ?_;simp only [nil_append];refine jh ?_;refine GL.wk (Wk.freeze (i:=1) rfl rfl rfl (Nat.zero_le _)) ?_;refine ct ?_;refine ae ?_;refine cn [2,0] (hE none 0) ?_;rintro _ _ ⟨rfl,eb,ec,rfl⟩;refine cX ?_;refine ae ?_;refine ab [0] (hS eb ec) ?_;refine cn [0] (hC eb ec) ?_;rintro _ _ ⟨rfl,fz,S,rfl⟩;refine cX ?_;exact av
theorem L7 (p:Src) (hw:ej p<=1048576) {l:List T} (hg:Go.Im.Good p l) (L0:List Int) (hL:Trail p L0) :
  GF Tryz.prog 69 [.agg (ax p),ints L0] [] (ints (gx (pK p l L0))) []:=by
 obtain ⟨⟨a1,a2⟩,⟨b1,b2⟩,⟨c1,c2⟩,⟨d1,d2⟩⟩:=gS p;have hlen:=hg.len;have tW:=hL.len
 have cR:(L0.map fun i=>[GV.v (ii i)]).length=L0.length:=by simp
 have ia:=Qd L0;obtain ⟨N,hN⟩:∃ N,p.fns.length=N:=⟨_,rfl⟩;refine db Tryz.func69 Tryz.ntmps69 ?_;refine GW.wk (Wk.oY 3 1) ?_;simp only [nil_append];refine ae ?_;refine GL.D5 0 rfl rfl rfl rfl ia (by refine ⟨?_,?_⟩;(· rw [cR];omega);(· rw [cR];omega)) ?_;intro ad cp;rw [cR];refine ct ?_;simp only [nil_append,length_nil,Nat.zero_add];refine ae ?_;refine GW.loop (fun s:Nat × List Int=>N - s.1) (fun s fr Γ=>∃ a c n S,fr=[.U,.U,.loc 1 0,.U,.U,.v (.slice a n c),.v (ii (s.1:Nat)),.U,.U,.U,.U,.U,.U,.U,.U,.U,.U,.U,.U,.U,.U,.U,.U,.U,.U,.U,.U,.U,.U,.U,.U,.U,.U,.U,.U,.U,.U,.U,.U,.U]/\Γ=[.vech 3 1 S (.slice a n c),.box 34 (ax p)]/\S.length=n/\S=bc s.2/\Trail p s.2/\s.1<=s.2.length/\na (nc p l) (N+1 - s.1) s.1 s.2=pK p l L0) (0,L0) ?_ ?_
 ·exact ⟨_,_,Wk.aC aq,ad,cp,_,_,rfl,rfl,cR,rfl,hL,Nat.zero_le _,by rw [<-hN];rfl⟩
 rintro ⟨i,L⟩ _ _ ⟨a,c,n,S,rfl,rfl,mx,hS,hW,hi,he⟩;simp only at hS hW hi he;have pQ:=hW.len
 have rC:n=L.length:=by rw [<-mx,hS,eP]
 by_cases ak:i < L.length
 ·have hd:decide ((i:Int) < (n:Int))=true:=decide_eq_true ag;obtain ⟨x,hx⟩:∃ x,L[i]?=some x:=⟨L[i],by simp [ak]⟩
  have hrx:S[i]?=some [.v (ii x)]:=by rw [hS];unfold bc;rw [getElem?_map,hx];rfl
  have rF:=hW.rng x (mem_of_getElem? hx);obtain ⟨j,hj⟩:∃ j:Nat,x=(j:Int):=⟨x.toNat,by omega⟩;subst hj
  have oF:j < p.fns.length:=by omega
  obtain ⟨f,hf⟩:∃ f,p.fns[j]?=some f:=⟨p.fns[j],by simp [oF]⟩;obtain ⟨t,ht⟩:∃ t,l[j]?=some t:=⟨l[j]'ag,getElem?_eq_getElem _⟩;have hC:=HZ p hw (hg.fn hf ht)
  have eK:nc p l (j:Int)=bT p t:=by unfold nc;rw [Int.toNat_natCast,ht]
  have pS:na (nc p l) (N+1 - (i+1)) (i+1) (dM L (bT p t))=pK p l L0:=by
   rw [<-he,show N+1 - i=(N+1 - (i+1))+1 by omega,EA hx,eK]
  have sY:=mN p t;have eS:=y8 p t
  have M6:((bT p t).map fun i=>[GV.v (ii i)]).length=(bT p t).length:=by simp
  have qs:i+1<=(dM L (bT p t)).length:=by
   obtain ⟨m,hm⟩:=vL (bT p t) L;rw [hm,length_append];omega
  generalize bT p t=ks at *;refine ae ?_;refine aI (aB 0 5 (.q 7 (.a 5 (.q 6 .nil)))) ?_;refine ar ?_;refine aE [] hC ?_;refine ae ?_;refine GW.range (ks.map fun i=>[GV.v (ii i)]).length (fun k fr Γ=>∃ a c n S,fr=[.U,.U,.loc 1 0,.U,.U,.v (.slice a n c),.v (ii (i:Nat)),.U,.U,.U,.U,.U,.U,.U,.U,.U,.U,.U,.U,.U,.U,.U,ints ks,.v (ii ((ks.map fun i=>[GV.v (ii i)]).length:Int)),.v (ii (k:Nat)),.U,.U,.U,.U,.U,.U,.U,.U,.U,.U,.U,.U,.U,.U,.U]/\Γ=[.vech 3 1 S (.slice a n c),.box 34 (ax p)]/\S.length=n/\S=bc (dM L (ks.take k))) ?_ ag ?_ ?_ ?_
  ·exact ⟨_,_,Wk.aC aq,a,c,n,S,rfl,rfl,mx,hS⟩
  ·rintro k _ _ ⟨a,c,n,S,rfl,rfl,_⟩;exact dQ
  ·rintro k _ _ hk ⟨a,c,n,S,rfl,rfl,mx,hS⟩;rw [M6] at hk;obtain ⟨y,hy⟩:∃ y,ks[k]?=some y:=⟨ks[k],by simp [hk]⟩
   have hry:(ks.map fun i=>[GV.v (ii i)])[k]?=some [.v (ii y)]:=by rw [getElem?_map,hy];rfl
   have Uz:=hW.add (ks:=ks.take k) fun y hy=>sY y (List.mem_of_mem_take hy)
   have XP:=Uz.len
   have AW:GF Tryz.prog 56 [.sl 1 S,.v (ii y)] [] (.v (.bool ((dM L (ks.take k)).contains y))) []:=by
    rw [hS];exact yY (dM L (ks.take k)) y ag
   have PA:=CP L ks k y hy
   have vd:n<=1048576:=by rw [<-mx,hS,eP];omega
   rw [PA]
   cases hb:(dM L (ks.take k)).contains y with
   | true =>
    rw [hb] at AW;rw [if_pos rfl];refine ae ?_;refine GL.borrow AW (fun B K β w l hI hF=>gT (A:=[]) (C:=[_]) hI hF rfl rfl) ?_;refine ct ?_;refine ae ?_;exact ⟨rfl,rfl,_,_,Wk.aC aq,a,c,n,S,rfl,rfl,mx,hS⟩
   | false =>
    rw [hb] at AW;rw [if_neg aJ]
    have w5:bc (dM L (ks.take k)++[y])=S++[[.v (ii y)]]:=by rw [hS];simp [bc]
    rw [w5];clear hS;refine ae ?_;refine GL.borrow AW (fun B K β w l hI hF=>gT (A:=[]) (C:=[_]) hI hF rfl rfl) ?_;refine ct ?_;refine ae ?_;refine GL.jw 0 rfl rfl rfl rfl rfl rfl rfl rfl aR me ?_;intro a2 c2;refine bJ ?_;refine ae ?_;exact ⟨rfl,rfl,_,_,Wk.aC aq,a2,c2,_,_,rfl,rfl,by simp [mx],rfl⟩
  ·rintro _ _ ⟨a,c,n,S,rfl,rfl,mx,hS⟩;rw [M6,take_length] at hS;refine gH (bb ?_);refine ae ?_;exact ⟨(i+1,dM L ks),⟨_,_,Wk.aC aq,a,c,n,S,rfl,rfl,mx,hS,hW.add sY,qs,pS⟩,by show N - (i+1) < N - i;omega⟩
 ·have hd:decide ((i:Int) < (n:Int))=false:=decide_eq_false ag;have hb:=EB (cs:=nc p l) (f:=N+1 - i) (i:=i) (L:=L) ag;rw [hb] at he;rw [<-he];have XO:=LI L 3 a c ag;rw [<-rC,<-hS] at XO
  have tX:(bc (gx L)).length=n:=by rw [eP,nI,rC]
  refine bI ?_;refine ae ?_;refine ab [0] XO ?_;refine GW.wk (Wk.rl (t:=4) (i:=0) rfl rfl rfl) ?_;exact al
end Go.Xg
namespace Go.Im
open Go.Xp Go.Sp
theorem xj {l:List Int} {k:Nat} {x n:Int} (h:l[k]?=some x) (hc:(l.take k).contains n=false) (hx:(x==n)=false):(l.take (k+1)).contains n=false:=by
 rw [take_add_one,h];simp only [List.contains_eq_mem,decide_eq_false_iff_not,List.mem_append,not_or] at *;refine ⟨hc,?_⟩;simp only [Option.toList_some,mem_singleton];intro e;subst e;simp at hx
theorem EJ {l:List Int} {k:Nat} {x n:Int} (h:l[k]?=some x) (hx:(x==n)=true):l.contains n=true:=by
 have:x=n:=by simpa using hx
 subst this;exact List.contains_iff_mem.2 (mem_of_getElem? h)
theorem Tb {l:List Int} {n:Int} (h:l.contains n=true):iu l n=l:=by unfold iu;rw [if_pos h]
theorem wT:∀ (ks l:List Int),(ks.foldl iu l).length<=l.length+ks.length
 | [],l=>by simp
 | k::r,l=>by
  have:=wT r (iu l k);have:=Qh (l:=l) (n:=k);rw [List.foldl_cons,length_cons];omega
end Go.Im
namespace Go.Xg
open Go.RowKit Go.Xw Go.Proofs
open Go.Xp (Nd T Ar aP az bL)
open Go.Sp (Src)
open Go.Im
attribute [local irreducible] GW GL GO YG GC GA aV aZ
theorem PT (l:List Int) (n:Int) (a:Option Addr) (c:Nat) (hl:l.length<=8388608) :
  GC Tryz.prog 134 [.v (.slice a l.length c),.v (ii n)] [.vech 3 1 (bc l) (.slice a l.length c)] fun g Δ =>
   (l.contains n=true/\g=.v (.slice a l.length c)/\Δ=[.vech 3 1 (bc l) (.slice a l.length c)]) \/
   (l.contains n=false/\∃ a' c',g=.v (.slice a' (iu l n).length c')/\Δ=[.vech 3 1 (bc l) (.slice a l.length c),.vech 3 1 (bc (iu l n)) (.slice a' (iu l n).length c')]):=by
 have pQ:=eP l;refine ai Tryz.func134 Tryz.ntmps134 ?_;refine kK ?_;refine GL.qI (t:=9) rfl rfl rfl rfl ?_;intro a1 c1;refine bJ ?_;refine ae ?_;refine GW.range l.length (fun k fr Γ=>∃ a1 c1 m dn S,fr=[.v (.slice a l.length c),.v (ii n),.U,.U,.U,.v (.slice a1 m c1),.v (.bool dn),.U,.U,.U,.v (.slice a l.length c),.v (ii (l.length:Int)),.v (ii (k:Nat)),.U,.U,.U,.U,.U,.U,.U,.U,.U,.U,.U,.U,.U,.U,.U,.U,.U,.U,.U,.U,.U,.U,.U,.U,.U,.U,.U,.U,.U,.U]/\Γ=[.vech 3 1 (bc l) (.slice a l.length c),.vech 3 1 S (.slice a1 m c1)]/\S.length=m/\S=bc (jm l n k).1/\dn=(jm l n k).2/\(l.take k).contains n=false) ?_ ag ?_ ?_ ?_
 ·exact ⟨_,_,Wk.aC aq,a1,c1,0,false,[],rfl,rfl,rfl,rfl,rfl,rfl⟩
 ·rintro k _ _ ⟨a1,c1,m,dn,S,rfl,rfl,_⟩;exact dQ
 ·rintro k _ _ ak ⟨a1,c1,m,dn,S,rfl,rfl,wU,hS,Ix,hc⟩;obtain ⟨x,hx⟩:∃ x,l[k]?=some x:=⟨l[k],by simp [ak]⟩
  have hr:(bc l)[k]?=some [.v (ii x)]:=by unfold bc;rw [getElem?_map,hx];rfl
  have eS:k < (bc l).length:=by omega
  have hm:m<=8388609:=by
   have:=(Gc l n k).1;rw [<-wU,hS,eP];omega
  have pS:=DI (n:=n) hx
  cases h1:(x==n) with
  | true =>
   refine ae ?_;refine ig ?_;exact rV (n:=1) rfl cl rfl (Nat.le_of_ble_eq_true rfl) rfl rfl (.inl ⟨EJ hx h1,rfl,rfl⟩)
  | false =>
   have gW:=xj hx hc h1
   cases dn with
   | true =>
    have e:jm l n (k+1)=((jm l n k).1++[x],true):=by rw [pS];unfold ow;rw [<-Ix];rfl
    have w5:bc (jm l n (k+1)).1=S++[[.v (ii x)]]:=by rw [e,hS];simp [bc]
    clear hS;refine ae ?_;refine GL.jw 1 rfl rfl rfl rfl rfl rfl rfl rfl aR me ?_;intro a2 c2;refine bJ ?_;refine ae ?_;exact ⟨rfl,rfl,_,_,Wk.aC aq,a2,c2,_,true,_,rfl,rfl,by simp [wU],w5.symm,by rw [e],gW⟩
   | false =>
    cases h3:decide (n < x) with
    | true =>
     have e:jm l n (k+1)=((jm l n k).1++[n]++[x],true):=by rw [pS];unfold ow;rw [<-Ix,h3];rfl
     have w5:bc (jm l n (k+1)).1=(S++[[.v (ii n)]])++[[.v (ii x)]]:=by rw [e,hS];simp [bc]
     have hSl:(S++[[GV.v (ii n)]]).length=m+1:=by rw [length_append,wU];rfl
     clear hS;refine ae ?_;refine GL.jw 1 rfl rfl rfl rfl rfl rfl rfl rfl aR me ?_;intro a2 c2;refine bJ ?_;refine ae ?_;refine GL.jw 1 rfl rfl rfl rfl rfl rfl rfl rfl aR me ?_;intro a3 c3;refine bJ ?_;refine ae ?_;exact ⟨rfl,rfl,_,_,Wk.aC aq,a3,c3,_,true,_,rfl,rfl,by simp [wU],w5.symm,by rw [e],gW⟩
    | false =>
     have e:jm l n (k+1)=((jm l n k).1++[x],false):=by rw [pS];unfold ow;rw [<-Ix,h3];rfl
     have w5:bc (jm l n (k+1)).1=S++[[.v (ii x)]]:=by rw [e,hS];simp [bc]
     clear hS;refine ae ?_;refine GL.jw 1 rfl rfl rfl rfl rfl rfl rfl rfl aR me ?_;intro a2 c2;refine bJ ?_;refine ae ?_;exact ⟨rfl,rfl,_,_,Wk.aC aq,a2,c2,_,false,_,rfl,rfl,by simp [wU],w5.symm,by rw [e],gW⟩
 ·rintro _ _ ⟨a1,c1,m,dn,S,rfl,rfl,wU,hS,Ix,hc⟩;rw [take_length] at hc;have oW:=Qi l n hc
  have hm:m<=8388609:=by
   have:=(Gc l n l.length).1;rw [<-wU,hS,eP];omega
  refine bb ?_
  cases dn with
  | true =>
   rw [if_pos Ix.symm] at oW
   have e:m=(iu l n).length:=by rw [<-wU,hS,eP,oW]
   subst e;rw [oW] at hS;subst hS;refine ae ?_;refine ig ?_;exact rV (n:=2) rfl cl rfl (Nat.le_of_ble_eq_true rfl) rfl rfl (.inr ⟨hc,a1,c1,rfl,rfl⟩)
  | false =>
   rw [if_neg (by rw [<-Ix];decide)] at oW
   have w5:bc (iu l n)=S++[[.v (ii n)]]:=by rw [<-oW,hS];simp [bc]
   have e:(iu l n).length=m+1:=by rw [<-eP,w5,length_append,wU];rfl
   rw [w5,e];clear hS;subst wU;refine ae ?_;refine GL.jw 1 rfl rfl rfl rfl rfl rfl rfl rfl aR me ?_;intro a2 c2;refine bJ ?_;refine ae ?_;refine ig ?_;exact rV (n:=2) rfl cl rfl (Nat.le_of_ble_eq_true rfl) rfl rfl (.inr ⟨hc,a2,c2,rfl,rfl⟩)
end Go.Xg
namespace Go.Im
open Go.Xp Go.Sp
def lE (l ks:List Int):List Int:=ks.foldl iu l
theorem KN (l a b:List Int):lE l (a++b)=lE (lE l a) b:=List.foldl_append
theorem KO (l ks:List Int):(lE l ks).length<=l.length+ks.length:=wT ks l
theorem L1 (p:Src) {l:List T} {k:Nat} {u:T} (h:l[k]?=some u) (o:List Int) (n:Nd):lE o (tQ p n++gZ p (l.take (k+1)))=lE (lE o (tQ p n++gZ p (l.take k))) (oA p u):=by
 rw [L4 p h,<-List.append_assoc,KN]
end Go.Im
namespace Go.Xg
open Go.RowKit Go.Xw Go.Proofs
open Go.Xp (Nd T Ar aP az bL)
open Go.Sp (Src)
open Go.Im
attribute [local irreducible] GW GL GO YG GC GA aV aZ
def TL (l r:List Int) (a:Option Addr) (c:Nat) (g:GV) (Δ:List Ob):Prop :=
 (r=l/\g=.v (.slice a l.length c)/\Δ=[.vech 3 1 (bc l) (.slice a l.length c)]) \/
 (∃ a' c',g=.v (.slice a' r.length c')/\Δ=[.vech 3 1 (bc l) (.slice a l.length c),.vech 3 1 (bc r) (.slice a' r.length c')])
theorem Nz (l:List Int) (n:Int) (a:Option Addr) (c:Nat) (hl:l.length<=8388608) :
  GC Tryz.prog 134 [.v (.slice a l.length c),.v (ii n)] [.vech 3 1 (bc l) (.slice a l.length c)] (TL l (iu l n) a c):=by
 refine (PT l n a c hl).mono fun g Δ h=>?_
 rcases h with ⟨h1,h2,h3⟩ | ⟨h1,a',c',h2,h3⟩
 ·exact .inl ⟨Tb h1,h2,h3⟩
 ·exact .inr ⟨a',c',h2,h3⟩
theorem Kp (p:Src) (iL:p.fns.length<=1099511627776):∀ (N:Nat) (t:T),aP t<=N->∀ (l:List Int) (a:Option Addr) (c:Nat),l.length+aP t<=8388608 ->
  GC Tryz.prog 98 [.v (.slice a l.length c),.agg (ax p),.agg (cT t)] [.vech 3 1 (bc l) (.slice a l.length c)] (TL l (lE l (oA p t)) a c):=by
 intro N
 induction N with
 | zero=>intro t h;have:=ko t;omega
 | succ N ih =>
 intro t hN l a c mz
 cases t with
 | mk n ks =>
 rw [Go.Xp.aP] at hN mz;have pQ:=bL ks;have eY:(aS ks).length=ks.length:=aU ks;have hF:=Cg p n.s iL;have e0:cE (fun x:Go.Sp.Fn=>x.name==n.s) p.fns=nV p n.s:=rfl;rw [e0] at hF;have hP:=Nz l (nV p n.s) a c ag
 have gW:tQ p n=if n.kind=4/\0<=nV p n.s then [nV p n.s] else []:=rfl
 rw [oA];generalize nV p n.s=z at *;refine ai Tryz.func98 Tryz.ntmps98 ?_;refine ab [] hF ?_
 refine GL.WT (fun fr Γ=>∃ h L,fr=[.v h,.U,.U,.U,.loc 1 0,.loc 2 0,.U,.U,.U,.U,.U,.U,.U,.U,.U,.U,.U,.U,.U,.U,.U,.U,.U,.U,.U,.U,.U,.U,.U,.U,.U,.U,.U,.U,.U,.U,.U,.U,.U]/\L=lE l (tQ p n) /\
  ((L=l/\h=.slice a l.length c/\Γ=[.vech 3 1 (bc l) (.slice a l.length c),.box 34 (ax p),.box 94 (cT (.mk n ks))]) \/
   (∃ a' c',h=.slice a' L.length c'/\Γ=[.vech 3 1 (bc l) (.slice a l.length c),.box 34 (ax p),.box 94 (cT (.mk n ks)),.vech 3 1 (bc L) (.slice a' L.length c')]))) ?_ ?_
 ·cases q4:(n.kind==4) with
  | false =>
   rw [if_neg (fun h=>by rw [h.1] at q4;cases q4)] at gW;refine ae ?_;exact ⟨_,_,Wk.aC aq,_,l,rfl,by rw [gW];rfl,.inl ⟨rfl,rfl,rfl⟩⟩
  | true =>
   cases q5:decide ((0:Int)<=z) with
   | false =>
    rw [if_neg (fun h=>by have:=of_decide_eq_false q5;exact this h.2)] at gW;refine ae ?_;exact ⟨_,_,Wk.aC aq,_,l,rfl,by rw [gW];rfl,.inl ⟨rfl,rfl,rfl⟩⟩
   | true =>
    rw [if_pos ⟨by simpa using q4,by simpa using q5⟩] at gW;refine ae ?_;refine cn [0] hP ?_;rintro _ _ (⟨h1,rfl,rfl⟩ | ⟨a',c',rfl,rfl⟩)
    ·refine cX ?_;refine ae ?_;exact ⟨_,_,Wk.aC aq,_,l,rfl,by rw [gW];exact h1.symm,.inl ⟨rfl,rfl,rfl⟩⟩
    ·refine cX ?_;refine ae ?_;exact ⟨_,_,Wk.aC aq,_,iu l z,rfl,by rw [gW];rfl,.inr ⟨a',c',rfl,rfl⟩⟩
 ·rintro _ _ ⟨h,L0,rfl,hL0,Iw⟩;have aah:=BX p n
  rcases Iw with ⟨e1,rfl,rfl⟩ | ⟨a0,c0,rfl,rfl⟩
  all_goals
   refine ae ?_
   refine GW.range (aS ks).length (fun k fr Γ=>∃ h L,fr=[.v h,.U,.U,.U,.loc 1 0,.loc 2 0,.U,.U,.U,.U,.U,.U,.U,.U,.U,.U,.U,.U,.U,.U,.U,.U,.U,.U,.U,.U,.U,.sl 6 (aS ks),.v (ii ((aS ks).length:Int)),.v (ii (k:Nat)),.U,.U,.U,.U,.U,.U,.U,.U,.U]/\L=lE l (tQ p n++gZ p (ks.take k)) /\
    ((L=l/\h=.slice a l.length c/\Γ=[.vech 3 1 (bc l) (.slice a l.length c),.box 34 (ax p),.box 94 (cT (.mk n ks))]) \/
     (∃ a' c',h=.slice a' L.length c'/\Γ=[.vech 3 1 (bc l) (.slice a l.length c),.box 34 (ax p),.box 94 (cT (.mk n ks)),.vech 3 1 (bc L) (.slice a' L.length c')]))) ?_ ag ?_ ?_ ?_
   ·exact ⟨_,_,Wk.aC aq,_,L0,rfl,by rw [List.take_zero,gZ,append_nil];exact hL0,by first | exact .inl ⟨e1,rfl,rfl⟩ | exact .inr ⟨_,_,rfl,rfl⟩⟩
   ·rintro k _ _ ⟨h,L,rfl,_,Iw⟩;exact dQ
   ·rintro k _ _ ak ⟨h,L,rfl,hL,Iw⟩;rw [eY] at ak;obtain ⟨u,hu⟩:∃ u,ks[k]?=some u:=⟨ks[k],by simp [ak]⟩;have hr:=cV hu;have cU:=tF hu
    have hLl:L.length<=l.length+1+az (ks.take k):=by
     have:=KO l (tQ p n++gZ p (ks.take k));have:=EH p (ks.take k);rw [length_append] at *;rw [hL];omega
    have pS:=L1 p hu l n;rw [<-hL] at pS;rw [pS]
    rcases Iw with ⟨e2,rfl,rfl⟩ | ⟨a',c',rfl,rfl⟩
    ·subst e2;have hi:=ih u ag L a c ag;generalize lE L (oA p u)=L2 at *;refine ae ?_;refine cn [0] hi ?_;rintro _ _ (⟨h1,rfl,rfl⟩ | ⟨a2,c2,rfl,rfl⟩)
     ·refine cX ?_;refine ae ?_;exact ⟨rfl,rfl,_,_,(Wk.cut (n:=3) (Nat.le_of_ble_eq_true rfl) rfl).trans (Wk.aC aq),_,L2,rfl,rfl,.inl ⟨h1,rfl,rfl⟩⟩
     ·refine cX ?_;refine ae ?_;exact ⟨rfl,rfl,_,_,(Wk.keep (n:=3) (j:=4) (Nat.le_of_ble_eq_true rfl) aJ rfl rfl rfl).trans (Wk.aC aq),_,L2,rfl,rfl,.inr ⟨a2,c2,rfl,rfl⟩⟩
    ·have hi:=ih u ag L a' c' ag;generalize lE L (oA p u)=L2 at *;refine ae ?_;refine cn [3] hi ?_;rintro _ _ (⟨rfl,rfl,rfl⟩ | ⟨a2,c2,rfl,rfl⟩)
     ·refine cX ?_;refine ae ?_;exact ⟨rfl,rfl,_,_,(Wk.cut (n:=4) (Nat.le_of_ble_eq_true rfl) rfl).trans (Wk.aC aq),_,_,rfl,rfl,.inr ⟨a',c',rfl,rfl⟩⟩
     ·refine cX ?_;refine ae ?_;exact ⟨rfl,rfl,_,_,(Wk.keep (n:=3) (j:=5) (Nat.le_of_ble_eq_true rfl) aJ rfl rfl rfl).trans (Wk.aC aq),_,L2,rfl,rfl,.inr ⟨a2,c2,rfl,rfl⟩⟩
   ·rintro _ _ ⟨h,L,rfl,hL,Iw⟩;rw [eY,take_length] at hL;rw [<-hL];refine bb ?_
    rcases Iw with ⟨e2,rfl,rfl⟩ | ⟨a',c',rfl,rfl⟩
    ·refine ae ?_;refine ig ?_;exact rV (n:=1) rfl cl rfl (Nat.le_of_ble_eq_true rfl) rfl rfl (.inl ⟨e2,rfl,rfl⟩)
    ·refine GW.wk (Wk.keep (n:=1) (j:=3) (Nat.le_refl _) aJ rfl rfl rfl) ?_;refine GW.Mj (b8:=[.v (.slice a' L.length c'),.U,.U,.U,.U,.U,.U,.U,.U,.U,.U,.U,.U,.U,.U,.U,.U,.U,.U,.U,.U,.U,.U,.U,.U,.U,.U,.U,.U,.U,.U,.U,.U,.U,.U,.U,.U,.U,.U]) (aK:=[.vech 3 1 (bc l) (.slice a l.length c),.vech 3 1 (bc L) (.slice a' L.length c')]) aq rfl ?_;refine ae ?_;refine ig ?_;exact rV (n:=2) rfl cl rfl (Nat.le_of_ble_eq_true rfl) rfl rfl (.inr ⟨a',c',rfl,rfl⟩)
end Go.Xg
namespace Go.Im
open Go.Xp Go.Sp
theorem KP (ks:List Int):lE [] ks=oM ks:=rfl
theorem yC {p:Src} {i:Nat} (hg:ij p=true) (hi:i < p.fns.length):qH p (i:Int)=true:=by
 unfold qH;rw [hg,decide_eq_true (show (0:Int)<=(i:Int) by omega),decide_eq_true (show (i:Int) < (p.fns.length:Int) by omega)];rfl
end Go.Im
namespace Go.Xg
open Go.RowKit Go.Xw Go.Proofs
open Go.Xp (Nd T Ar aP az bL)
open Go.Sp (Src)
open Go.Im
attribute [local irreducible] GW GL GO YG GC GA aV aZ
theorem AE (p:Src) (hw:ej p<=1048576) {l:List T} {i:Nat} {f:Go.Sp.Fn} {t:T} (hg:ij p=true) (h:sH p l i f t) :
  GC Tryz.prog 40 [.agg (ax p),.v (ii (i:Nat))] [] fun g Δ=>∃ a c,g=.v (.slice a (bT p t).length c)/\Δ=[.vech 3 1 (bc (bT p t)) (.slice a (bT p t).length c)]:=by
 obtain ⟨⟨a1,a2⟩,⟨b1,b2⟩,⟨c1,c2⟩,⟨d1,d2⟩⟩:=gS p;have hG:=It p hw;rw [hg] at hG
 have jL:(p.fns.map aw).length=p.fns.length:=by simp
 have hi:=(List.getElem?_eq_some_iff.1 h.gf).1
 have hr:(p.fns.map aw)[i]?=some (aw f):=by rw [getElem?_map,h.gf];rfl
 have q2:decide ((i:Int) < 0)=false:=decide_eq_false ag;have q3:decide (((p.fns.map aw).length:Int)<=(i:Int))=false:=decide_eq_false (by rw [jL];omega);have hS:=VZ p (fun n hn=>by have:=(d2 n hn).2;omega) f t h.body h.st
 have hC:=fun a c=>Kp p ag _ t (Nat.le_refl _) [] a c (by have:=h.sz;show 0+_<=_;omega)
 rw [KP] at hC;unfold bT;unfold aw at hr;generalize oM (oA p t)=rr at *;refine ai Tryz.func40 Tryz.ntmps40 ?_;refine ab [] hG ?_;refine aI (aB 1 8 (.f 0 (.a 9 (.a 10 (.q 11 .nil))) 9 (.a 0 (.a 10 (.q 11 .nil))))) ?_;refine ar ?_;refine GO.fork ?_ ?_
 ·refine OA rfl rfl (GL.RM rfl rfl rfl rfl ?_);refine GL.qI (t:=19) rfl rfl rfl rfl ?_;intro a1 c1;refine dA ?_;refine ar ?_;refine aE [] hS ?_;refine OA rfl rfl ?_;refine cn [1] (hC a1 c1) ?_;rintro _ _ (⟨h1,rfl,rfl⟩ | ⟨a',c',rfl,rfl⟩)
  ·refine ⟨by simp,?_⟩;refine dA ?_;subst h1;refine bf ?_;refine ig ?_;refine oS 1 rfl cl rfl ?_ ?_
   ·intro x hx;rw [List.mem_singleton.1 hx];rfl
   ·exact ⟨_,_,rfl,rfl⟩
  ·refine ⟨by simp,?_⟩;refine dA ?_;refine bf ?_;refine ig ?_;refine oS 2 rfl cl rfl ?_ ?_
   ·intro x hx;rw [List.mem_singleton.1 hx];rfl
   ·exact ⟨_,_,rfl,rfl⟩
 ·refine aE [] hS ?_;refine OA rfl rfl (GL.RM rfl rfl rfl rfl ?_);refine GL.qI (t:=19) rfl rfl rfl rfl ?_;intro a1 c1;refine dA ?_;refine ar ?_;refine OA rfl rfl ?_;refine cn [1] (hC a1 c1) ?_;rintro _ _ (⟨h1,rfl,rfl⟩ | ⟨a',c',rfl,rfl⟩)
  ·refine ⟨by simp,?_⟩;refine dA ?_;subst h1;refine bf ?_;refine ig ?_;refine oS 1 rfl cl rfl ?_ ?_
   ·intro x hx;rw [List.mem_singleton.1 hx];rfl
   ·exact ⟨_,_,rfl,rfl⟩
  ·refine ⟨by simp,?_⟩;refine dA ?_;refine bf ?_;refine ig ?_;refine oS 2 rfl cl rfl ?_ ?_
   ·intro x hx;rw [List.mem_singleton.1 hx];rfl
   ·exact ⟨_,_,rfl,rfl⟩
theorem uJ (p:Src) (t:T):Trail p (bT p t):=⟨tw (nS p t),mN p t⟩
theorem NA (p:Src) (hw:ej p<=1048576) (lu:ij p=true) {l:List T} {i0:Nat} {f0:Go.Sp.Fn} {t0:T} (h0:sH p l i0 f0 t0) :
  GF Tryz.prog 52 [.agg (ax p),.v (ii (i0:Nat))] [] (ints (pK p l (bT p t0))) []:=by
 obtain ⟨⟨a1,a2⟩,⟨b1,b2⟩,⟨c1,c2⟩,⟨d1,d2⟩⟩:=gS p;have hlen:=h0.good.len;have hg:=h0.good;have hL:=uJ p t0;have tW:=hL.len;have hC0:=AE p hw lu h0;generalize bT p t0=L0 at *;obtain ⟨N,hN⟩:∃ N,p.fns.length=N:=⟨_,rfl⟩;have xG:=eP L0;refine ai Tryz.func52 Tryz.ntmps52 ?_;refine cn [] hC0 ?_;rintro _ _ ⟨ad,cp,rfl,rfl⟩;refine cX ?_;refine ae ?_;refine GW.loop (fun s:Nat × List Int=>N - s.1) (fun s fr Γ=>∃ a c n S,fr=[.U,.U,.loc 0 0,.U,.U,.v (.slice a n c),.v (ii (s.1:Nat)),.U,.U,.U,.U,.U,.U,.U,.U,.U,.U,.U,.U,.U,.U,.U,.U,.U,.U,.U,.U,.U,.U,.U,.U,.U,.U,.U,.U,.U,.U,.U,.U]/\Γ=[.box 34 (ax p),.vech 3 1 S (.slice a n c)]/\S.length=n/\S=bc s.2/\Trail p s.2/\s.1<=s.2.length/\na (nc p l) (N+1 - s.1) s.1 s.2=pK p l L0) (0,L0) ?_ ?_
 ·exact ⟨_,_,Wk.aC aq,ad,cp,_,_,rfl,rfl,xG,rfl,hL,Nat.zero_le _,by rw [<-hN];rfl⟩
 rintro ⟨i,L⟩ _ _ ⟨a,c,n,S,rfl,rfl,mx,hS,hW,hi,he⟩;simp only at hS hW hi he;have pQ:=hW.len
 have rC:n=L.length:=by rw [<-mx,hS,eP]
 by_cases ak:i < L.length
 ·have hd:decide ((i:Int) < (n:Int))=true:=decide_eq_true ag;obtain ⟨x,hx⟩:∃ x,L[i]?=some x:=⟨L[i],by simp [ak]⟩
  have hrx:S[i]?=some [.v (ii x)]:=by rw [hS];unfold bc;rw [getElem?_map,hx];rfl
  have rF:=hW.rng x (mem_of_getElem? hx);obtain ⟨j,hj⟩:∃ j:Nat,x=(j:Int):=⟨x.toNat,by omega⟩;subst hj
  have oF:j < p.fns.length:=by omega
  obtain ⟨f,hf⟩:∃ f,p.fns[j]?=some f:=⟨p.fns[j],by simp [oF]⟩;obtain ⟨t,ht⟩:∃ t,l[j]?=some t:=⟨l[j]'ag,getElem?_eq_getElem _⟩;have hC:=AE p hw lu (hg.fn hf ht)
  have eK:nc p l (j:Int)=bT p t:=by unfold nc;rw [Int.toNat_natCast,ht]
  have pS:na (nc p l) (N+1 - (i+1)) (i+1) (dM L (bT p t))=pK p l L0:=by
   rw [<-he,show N+1 - i=(N+1 - (i+1))+1 by omega,EA hx,eK]
  have sY:=mN p t;have eS:=y8 p t
  have M6:((bT p t).map fun i=>[GV.v (ii i)]).length=(bT p t).length:=by simp
  have qs:i+1<=(dM L (bT p t)).length:=by
   obtain ⟨m,hm⟩:=vL (bT p t) L;rw [hm,length_append];omega
  generalize bT p t=ks at *;refine ae ?_;refine aI (aB 0 5 (.q 7 (.a 5 (.q 6 .nil)))) ?_;refine ar ?_;refine OA rfl rfl ?_;refine cn [] hC ?_;rintro _ _ ⟨a2,c2,rfl,rfl⟩;refine ⟨by simp,?_⟩;refine GL.wk (Wk.rl (t:=23) (i:=2) rfl rfl rfl) ?_;refine dA ?_;refine bf ?_;refine GW.range (ks.map fun i=>[GV.v (ii i)]).length (fun k fr Γ=>∃ a c n S B,fr=[.U,.U,.loc 0 0,.U,.U,.v (.slice a n c),.v (ii (i:Nat)),.U,.U,.U,.U,.U,.U,.U,.U,.U,.U,.U,.U,.U,.U,.U,.U,ints ks,.v (ii ((ks.map fun i=>[GV.v (ii i)]).length:Int)),.v (ii (k:Nat)),.U,.U,.U,.U,.U,.U,.U,.U,.U,.U,.U,.U,.U]/\Γ=[.box 34 (ax p),.vech 3 1 S (.slice a n c),B]/\S.length=n/\S=bc (dM L (ks.take k))) ?_ ag ?_ ?_ ?_
  ·exact ⟨_,_,Wk.aC aq,a,c,n,S,_,rfl,rfl,mx,hS⟩
  ·rintro k _ _ ⟨a,c,n,S,B,rfl,rfl,_⟩;exact dQ
  ·rintro k _ _ hk ⟨a,c,n,S,B,rfl,rfl,mx,hS⟩;rw [M6] at hk;obtain ⟨y,hy⟩:∃ y,ks[k]?=some y:=⟨ks[k],by simp [hk]⟩
   have hry:(ks.map fun i=>[GV.v (ii i)])[k]?=some [.v (ii y)]:=by rw [getElem?_map,hy];rfl
   have Uz:=hW.add (ks:=ks.take k) fun y hy=>sY y (List.mem_of_mem_take hy)
   have XP:=Uz.len
   have AW:GF Tryz.prog 51 [.sl 1 S,.v (ii y)] [] (.v (.bool ((dM L (ks.take k)).contains y))) []:=by
    rw [hS];exact FJ (dM L (ks.take k)) y ag
   have PA:=CP L ks k y hy
   have vd:n<=1048576:=by rw [<-mx,hS,eP];omega
   rw [PA]
   cases hb:(dM L (ks.take k)).contains y with
   | true =>
    rw [hb] at AW;rw [if_pos rfl];refine ae ?_;refine GL.borrow AW (fun B K β w l hI hF=>gT (A:=[_]) (C:=[_]) hI hF rfl rfl) ?_;refine ct ?_;refine ae ?_;exact ⟨rfl,rfl,_,_,Wk.aC aq,a,c,n,S,B,rfl,rfl,mx,hS⟩
   | false =>
    rw [hb] at AW;rw [if_neg aJ]
    have w5:bc (dM L (ks.take k)++[y])=S++[[.v (ii y)]]:=by rw [hS];simp [bc]
    rw [w5];clear hS;refine ae ?_;refine GL.borrow AW (fun B K β w l hI hF=>gT (A:=[_]) (C:=[_]) hI hF rfl rfl) ?_;refine ct ?_;refine ae ?_;refine GL.jw 1 rfl rfl rfl rfl rfl rfl rfl rfl aR me ?_;intro a2 c2;refine bJ ?_;refine ae ?_;exact ⟨rfl,rfl,_,_,Wk.aC aq,a2,c2,_,_,B,rfl,rfl,by simp [mx],rfl⟩
  ·rintro _ _ ⟨a,c,n,S,B,rfl,rfl,mx,hS⟩;rw [M6,take_length] at hS;refine gH (bb ?_);refine ae ?_;exact ⟨(i+1,dM L ks),⟨_,_,(Wk.cut (n:=2) (Nat.zero_le _) rfl).trans (Wk.aC aq),a,c,n,S,rfl,rfl,mx,hS,hW.add sY,qs,pS⟩,by show N - (i+1) < N - i;omega⟩
 ·have hd:decide ((i:Int) < (n:Int))=false:=decide_eq_false ag;have hb:=EB (cs:=nc p l) (f:=N+1 - i) (i:=i) (L:=L) ag;rw [hb] at he;rw [<-he];subst hS;refine bI ?_;refine ae ?_;refine GW.wk (Wk.rl (t:=4) (i:=1) rfl rfl rfl) ?_;exact al
end Go.Xg
namespace Go.Im
open Go.Xp Go.Sp
def b7 (p:Src) (fn:Int):List Int:=if qH p fn=true then (match jj p.nodes p.fns 0 [] with | some (l,_)=>pK p l (nc p l fn) | none=>[]) else []
theorem xt {p:Src} {l:List T} {i:Nat} {f:Go.Sp.Fn} {t:T} (hh:qH p (i:Int)=true) (h:sH p l i f t):b7 p (i:Int)=pK p l (bT p t):=by
 unfold b7;rw [if_pos hh,h.good.ED];simp only;unfold nc;rw [Int.toNat_natCast,h.gt]
theorem zQ {p:Src} {fn:Int} (h:qH p fn=false):b7 p fn=[]:=by unfold b7;rw [h];rfl
theorem Mz {p:Src} {fn:Int}:Trail p (b7 p fn):=by
 cases hh:qH p fn with
 | false=>rw [zQ hh];exact ⟨List.Pairwise.nil,by simp⟩
 | true =>
  obtain ⟨i,l,f,t,rfl,h⟩:=yB hh;rw [xt hh h];exact BR _ _ _ ⟨tw (nS p t),mN p t⟩
def mn (p:Src) (a b:Int):Bool:=(b7 p a).contains b
theorem Gt (l:List Int) (x:Int):(gx l).contains x=l.contains x:=by
 cases h:l.contains x with
 | true=>exact List.contains_iff_mem.2 (wI.2 (List.contains_iff_mem.1 h))
 | false =>
  cases h2:(gx l).contains x with
  | false=>rfl
  | true=>rw [List.contains_iff_mem.2 (wI.1 (List.contains_iff_mem.1 h2))] at h;cases h
end Go.Im
namespace Go.Xg
open Go.RowKit Go.Xw Go.Proofs
open Go.Xp (Nd T Ar aP az bL)
open Go.Sp (Src)
open Go.Im
attribute [local irreducible] GW GL GO YG GC GA aV aZ
theorem Sl (p:Src) (hw:ej p<=1048576) (lu:ij p=true) {l:List T} {i:Nat} {f:Go.Sp.Fn} {t:T} (h:sH p l i f t) (z2:Int) :
  GF Tryz.prog 54 [.agg (ax p),.v (ii (i:Nat)),.v (ii z2)] [] (.v (.bool (mn p (i:Int) z2))) []:=by
 obtain ⟨⟨a1,a2⟩,⟨b1,b2⟩,⟨c1,c2⟩,⟨d1,d2⟩⟩:=gS p;have hi:=(List.getElem?_eq_some_iff.1 h.gf).1;have hC:=HZ p hw h;have hT:=L7 p hw h.good (bT p t) (uJ p t);have XP:=(BR (p:=p) (l:=l) (p.fns.length+1) 0 _ (uJ p t)).len
 have hH:GF Tryz.prog 56 [ints (gx (pK p l (bT p t))),.v (ii z2)] [] (.v (.bool (mn p (i:Int) z2))) []:=by
  have:=yY (gx (pK p l (bT p t))) z2 (by rw [nI];unfold pK;omega);rw [Gt] at this;unfold mn;rw [xt (yC lu hi) h];exact this
 generalize gx (pK p l (bT p t))=L at *;generalize bT p t=ks at *;generalize mn p (i:Int) z2=b at *;refine ai Tryz.func54 Tryz.ntmps54 ?_;refine aI (aB 0 3 (.q 5 (.a 3 (.a 4 (.a 6 (.q 7 .nil)))))) ?_;refine ar ?_;refine aE [] hC ?_;refine aE [] hT ?_;refine aE [] hH ?_;exact av
end Go.Xg
namespace Go.Im
open Go.Xp Go.Sp
end Go.Im
namespace Go.Xg
open Go.RowKit Go.Xw Go.Proofs
open Go.Xp (Nd T Ar aP az bL)
open Go.Sp (Src)
open Go.Im
attribute [local irreducible] GW GL GO YG GC GA aV aZ
end Go.Xg
namespace Go.Im
open Go.Xp Go.Sp
theorem Ss (p:Src) (l:List T) (x:Int):Trail p (nc p l x):=by
 refine ⟨?_,BZ p l x⟩;unfold nc;split
 ·exact tw (nS p _)
 ·exact List.Pairwise.nil
theorem C6 (p:Src):XA (b7 p):=by
 intro a b hb c hc
 have ha:qH p a=true:=by
  cases h:qH p a with
  | true=>rfl
  | false=>rw [zQ h] at hb;cases hb
 have bq:qH p b=true:=by
  cases h:qH p b with
  | true=>rfl
  | false=>rw [zQ h] at hc;cases hc
 obtain ⟨i,l,f,t,rfl,h⟩:=yB ha
 have hF:∀ x,qH p x=true->b7 p x=pK p l (nc p l x):=by
  intro x hx;unfold b7;rw [if_pos hx,h.good.ED]
 rw [hF _ ha] at hb |-;rw [hF _ bq] at hc;have hw:=Ss p l (i:Int);have zh:=AH (nc p l) p.fns.length (BZ p l) (p.fns.length+1) 0 (nc p l (i:Int)) hw.nodup hw.rng bZ (fun j x hj=>by omega);exact CT (nc p l) (fun x=>x∈pK p l (nc p l (i:Int))) (fun x hx y hy=>zh x hx y hy) _ 0 (nc p l b) (fun x hx=>zh b hb x hx) c hc
def iR (p:Src):List (List Int):=if ij p=true then fp (b7 p) p.fns.length else []
theorem JN {p:Src} {a b:Int} (h:a≠b):(mn p a b&&mn p b a)=fH (b7 p) a b:=by
 unfold fH mn;rw [show (a==b)=false from by simpa using h,Bool.false_or]
end Go.Im
namespace Go.Xg
open Go.RowKit Go.Xw Go.Proofs
open Go.Xp (Nd T Ar aP az bL)
open Go.Sp (Src)
open Go.Im
attribute [local irreducible] GW GL GO YG GC GA aV aZ
theorem MA (p:Src) (hw:ej p<=1048576) (lu:ij p=true) {i:Nat} (hi:i < p.fns.length) :
  GF Tryz.prog 52 [.agg (ax p),.v (ii (i:Nat))] [] (ints (b7 p (i:Int))) []:=by
 obtain ⟨i',l,f,t,he,h⟩:=yB (yC lu hi)
 have:i'=i:=by omega
 subst this;rw [xt (yC lu hi) h];exact NA p hw lu h
theorem Po (p:Src) (x:Int):(b7 p x).length<=p.fns.length:=(Mz (p:=p) (fn:=x)).len
theorem C5 (p:Src) (hw:ej p<=1048576) (a b:Int):GF Tryz.prog 51 [ints (b7 p a),.v (ii b)] [] (.v (.bool ((b7 p a).contains b))) []:=by
 obtain ⟨⟨a1,a2⟩,⟨b1,b2⟩,⟨c1,c2⟩,⟨d1,d2⟩⟩:=gS p;have:=Po p a;exact FJ (b7 p a) b ag
theorem NB (p:Src) (hw:ej p<=1048576) (lu:ij p=true) {a b:Nat} (ha:a < p.fns.length) (hb:b < p.fns.length) :
  GF Tryz.prog 61 [.agg (ax p),.v (ii (a:Nat)),.v (ii (b:Nat))] [] (.v (.bool (fH (b7 p) (a:Int) (b:Int)))) []:=by
 have hA:=MA p hw lu ha;have hB:=MA p hw lu hb;have Ra:=C5 p hw (a:Int) (b:Int);have hHb:=C5 p hw (b:Int) (a:Int);unfold fH;generalize b7 p (a:Int)=La at *;generalize b7 p (b:Int)=Lb at *
 cases he:((a:Int)==(b:Int)) with
 | true =>
  rw [Bool.true_or];refine ai Tryz.func61 Tryz.ntmps61 ?_;exact al
 | false =>
  rw [Bool.false_or]
  cases h1:La.contains (b:Int) with
  | false =>
   rw [h1] at Ra;rw [Bool.false_and];refine ai Tryz.func61 Tryz.ntmps61 ?_;refine ab [] hA ?_;refine ab [] Ra ?_;exact al
  | true =>
   rw [h1] at Ra;rw [Bool.true_and];generalize Lb.contains (a:Int)=z at *;refine ai Tryz.func61 Tryz.ntmps61 ?_;refine ab [] hA ?_;refine ab [] Ra ?_;refine ab [] hB ?_;refine ab [] hHb ?_;exact al
end Go.Xg
namespace Go.Xg
open Go.RowKit Go.Xw Go.Proofs
open Go.Im
def cS (gs:List (List Int)):List (List GV):=gs.map fun g=>[.sl 1 (bc g)]
theorem Inv.Q0 {B:Bs} {K:Fz} {β:Bt} {w:World} {Γ:List Ob} {jf base:Nat} {T E:TypeId} {h:Value} {rows:List (List GV)} {gs:List (List Int)} {hd:Nat->Value} (hI:Inv B K β Γ w)
  (M5:Γ[jf]?=some (.vech T 1 rows h)) (hlen:rows.length=gs.length) (bt:∀ i,i < gs.length->rows[i]?=some [.v (hd i)])
  (fq:∀ i (g:List Int),gs[i]?=some g->Γ[base+i]?=some (.vech E 1 (bc g) (hd i))) (ak:jf < base) :
  ∃ K1 R8,cm K K1/\Inv B K1 β R8 w/\R8[jf]?=some (.vech T 1 (cS gs) h):=by
 obtain ⟨K',aK,rows',a1,a2,a3,a4,a5,-⟩:=hI.Al (T:=T) (k:=1) (o:=0) (E:=E) (k':=1) (jf:=jf) (N:=gs.length) (h:=h) (raw:=fun i=>[.v (hd i)]) (fin:=fun i=>[.sl 1 (bc (gs[i]?.getD []))]) (ks:=fun i=>bc (gs[i]?.getD [])) (hd:=hd) (jp:=fun i=>base+i) M5 ⟨hlen,bt⟩
  (fun i hi=>⟨rfl,rfl⟩) (fun i hi=>by
   have hg:gs[i]?=some gs[i]:=getElem?_eq_getElem hi;have:=fq i _ hg;rw [this]
   simp only [hg,Option.getD_some]) (fun i hi=>by omega) (fun i i' _ _ h=>by omega)
 have he:rows'=cS gs:=by
  refine ext_getElem? fun i=>?_
  unfold cS;rw [getElem?_map]
  by_cases hi:i < gs.length
  ·rw [a5 i hi,getElem?_eq_getElem hi];rfl
  ·rw [getElem?_eq_none ag,getElem?_eq_none ag];rfl
 subst he;exact ⟨K',aK,a1,a2,a3⟩
theorem Inv.deep {B:Bs} {K:Fz} {β:Bt} {w:World} {Γ:List Ob} {jf base:Nat} {T E:TypeId} {h:Value} {rows:List (List GV)} {gs:List (List Int)} {hd:Nat->Value} (hI:Inv B K β Γ w)
  (M5:Γ[jf]?=some (.vech T 1 rows h)) (hlen:rows.length=gs.length) (bt:∀ i,i < gs.length->rows[i]?=some [.v (hd i)])
  (fq:∀ i (g:List Int),gs[i]?=some g->Γ[base+i]?=some (.vech E 1 (bc g) (hd i))) (ak:jf < base) :
  ∃ K1,cm K K1/\ji K1 w/\gE K1 (fun _=>.no) w/\Rel K1 (fun _=>.no) h (.sl 1 (cS gs)):=by
 obtain ⟨K',aK,a1,a2,a3⟩:=hI.Q0 M5 hlen bt fq ak;obtain ⟨K1,b1,b2,b3,b4⟩:=a2.view a3;exact ⟨K1,a1.trans b1,b2,b3,b4⟩
open Go.Xp (Nd T Ar aP az bL)
open Go.Sp (Src)
attribute [local irreducible] GW GL GO YG GC GA aV aZ
theorem EI (p:Src) (hw:ej p<=1048576) (lu:ij p=true) {a:Nat} (ha:a < p.fns.length) (z:Int) :
  GF Tryz.prog 54 [.agg (ax p),.v (ii (a:Nat)),.v (ii z)] [] (.v (.bool (mn p (a:Int) z))) []:=by
 obtain ⟨i',l,f,t,he,h⟩:=yB (yC lu ha)
 have:i'=a:=by omega
 subst this;exact Sl p hw lu h z
theorem MK (p:Src) (hw:ej p<=1048576) (lu:ij p=true) {a k:Nat} (ha:a < p.fns.length) (hk:k < p.fns.length) (r:List Int) :
  GF Tryz.prog 112 [.sl 1 (bc ((a:Int)::r)),.box (ax p) 0,.box [.v (ii (k:Nat))] 0] [] (.v (.bool (mn p (a:Int) (k:Int)&&mn p (k:Int) (a:Int)))) []:=by
 have hA:=EI p hw lu ha (k:Int);have hB:=EI p hw lu hk (a:Int);have hr:(bc ((a:Int)::r))[0]?=some [.v (ii (a:Int))]:=rfl
 have hln:0 < (bc ((a:Int)::r)).length:=by simp [bc]
 generalize bc ((a:Int)::r)=R at *
 cases h1:mn p (a:Int) (k:Int) with
 | false =>
  rw [h1] at hA;rw [Bool.false_and];refine ai Tryz.func112 Tryz.ntmps112 ?_;refine aI (aB 0 5 (.a 5 (aB 6 6 (.a 12 (.q 13 (.q 14 .nil)))))) ?_;refine ar ?_;refine aE [] hA ?_;exact av
 | true =>
  rw [h1] at hA;rw [Bool.true_and];generalize mn p (k:Int) (a:Int)=z at *;refine ai Tryz.func112 Tryz.ntmps112 ?_;refine aI (aB 0 5 (.a 5 (aB 6 6 (.a 12 (.q 13 (.q 14 .nil)))))) ?_;refine ar ?_;refine aE [] hA ?_;refine bB [] hB ?_;exact av
theorem Ep {mo:FuncId} [aH Tryz.prog mo] (pr:List Int->Bool) (c1 c2:List GV) (ls:List (List Int)) (hn:ls.length<=1099511627776) (hc:∀ l∈ls,GF Tryz.prog mo [.sl 1 (bc l),.box c1 0,.box c2 0] [] (.v (.bool (pr l))) []) :
  GF Tryz.prog 66 [.sl 1 (cS ls),.fn (.func mo) [] [.box c1 0,.box c2 0]] [] (.v (ii (cE pr ls))) []:=by
 have dK:(cS ls).length=ls.length:=by simp [cS]
 refine ai Tryz.func66 Tryz.ntmps66 ?_;refine GW.range (cS ls).length (fun k fr Γ=>fr=[.sl 1 (cS ls),.fn (.func mo) [] [.box c1 0,.box c2 0],.U,.U,.U,.U,.U,.v (ii ((cS ls).length:Int)),.v (ii (k:Nat)),.U,.U,.U,.U,.U,.U,.U,.U,.U,.U]/\Γ=[]/\(ls.take k).all (fun y=>!pr y)=true) ?_ ag ?_ ?_ ?_
 ·exact jz
 ·exact gy
 ·rintro k _ _ ak ⟨rfl,rfl,aQ⟩;rw [dK] at ak;obtain ⟨x,cJ⟩:∃ x,ls[k]?=some x:=⟨ls[k],by simp [ak]⟩
  have hr:(cS ls)[k]?=some [.sl 1 (bc x)]:=by unfold cS;rw [getElem?_map,cJ];rfl
  have h:=hc x (mem_of_getElem? cJ);have bu:=lX (f:=pr) cJ
  have hit:=fun h0=>l6 (f:=pr) cJ h0 aQ
  generalize bc x=X at *
  cases hb:pr x with
  | true =>
   rw [hb] at h;rw [hit hb];refine ae ?_;refine kZ [] h ?_;exact av
  | false =>
   rw [hb] at h bu;refine ae ?_;refine kZ [] h ?_;refine ae ?_;exact ⟨rfl,rfl,_,_,Wk.aC aq,rfl,rfl,by rw [bu,aQ];rfl⟩
 ·rintro _ _ ⟨rfl,rfl,aQ⟩;rw [dK,take_length] at aQ;rw [jA aQ];exact av
end Go.Xg
namespace Go.Xg
open Go.RowKit Go.Xw Go.Proofs
open Go.Im
def fv (gs:List (List Int)) (hs:List Value):List Ob:=List.zipWith (fun g h=>Ob.vech 3 1 (bc g) h) gs hs
def il (hs:List Value):List (List GV):=hs.map fun h=>[.v h]
def iH (gs:List (List Int)) (h:Value) (hs:List Value):List Ob:=.vech 40 1 (il hs) h::fv gs hs
structure n9 (gs:List (List Int)) (h:Value) (hs:List Value):Prop where
 head:∃ a c,h=.slice a gs.length c
 len:hs.length=gs.length
 kid:∀ (i:Nat) g x,gs[i]?=some g->hs[i]?=some x->∃ a c,x=.slice a g.length c
theorem py {gs:List (List Int)} {hs:List Value} (h:hs.length=gs.length):(fv gs hs).length=gs.length:=by simp [fv,h]
theorem u9 (hs:List Value):(il hs).length=hs.length:=by simp [il]
theorem rI {gs:List (List Int)} {hs:List Value} {i:Nat} {g:List Int} {h:Value} (hg:gs[i]?=some g) (hh:hs[i]?=some h):(fv gs hs)[i]?=some (.vech 3 1 (bc g) h):=by
 unfold fv;rw [List.getElem?_zipWith,hg,hh]
theorem Ns {gs:List (List Int)} {hs:List Value}:∀ x∈fv gs hs,x.lR=true:=fun x hx=>by
 unfold fv at hx;obtain ⟨i,hi⟩:=List.mem_iff_getElem?.1 hx;rw [List.getElem?_zipWith] at hi;split at hi
 ·cases hi;rfl
 ·cases hi
theorem ph {gs:List (List Int)} {h:Value} {hs:List Value}:∀ x∈iH gs h hs,x.lR=true:=fun x hx=>by
 rcases List.mem_cons.1 hx with rfl | hx
 ·rfl
 ·exact Ns x hx
theorem DE (A:List Ob) (x y:Ob):oset (A++[x]) A.length y=A++[y]:=by
 induction A with
 | nil=>rfl
 | cons a A ih=>simp only [cons_append,length_cons,oset,ih]
theorem wh:∀ {gs:List (List Int)} {hs:List Value} (g:List Int) (h:Value),hs.length=gs.length->fv gs hs++[.vech 3 1 (bc g) h]=fv (gs++[g]) (hs++[h])
 | [],[],g,h,_=>rfl
 | x::gs,y::hs,g,h,hl=>by
  have:=wh (gs:=gs) (hs:=hs) g h (by simpa using hl);unfold fv at this |-;simp only [cons_append,List.zipWith_cons_cons,this]
 | [],y::hs,g,h,hl=>by simp at hl
 | x::gs,[],g,h,hl=>by simp at hl
theorem ua:∀ (gs:List (List Int)) (hs:List Value) (i:Nat) (g:List Int) (h:Value),oset (fv gs hs) i (.vech 3 1 (bc g) h)=fv (gs.set i g) (hs.set i h)
 | [],hs,i,g,h=>by simp [fv,oset]
 | x::gs,[],i,g,h=>by simp [fv,oset]
 | x::gs,y::hs,0,g,h=>rfl
 | x::gs,y::hs,i+1,g,h=>by
  have:=ua gs hs i g h;unfold fv at this |-;simp only [List.zipWith_cons_cons,List.set_cons_succ,oset,this]
theorem Cc:∀ (hs:List Value) (i:Nat) (h:Value),dm (il hs) i 0 (.v h)=il (hs.set i h)
 | [],i,h=>rfl
 | y::hs,0,h=>rfl
 | y::hs,i+1,h=>by
  have:=Cc hs i h;unfold il at this |-;simp only [List.map_cons,List.set_cons_succ,dm,this]
theorem n9.snoc {gs:List (List Int)} {h:Value} {hs:List Value} (H:n9 gs h hs) (g:List Int) {a b:Option Addr} {c d:Nat}:n9 (gs++[g]) (.slice a (gs.length+1) c) (hs++[.slice b g.length d]):=by
 refine ⟨⟨a,c,by simp⟩,by simp [H.len],fun i g' x h1 h2=>?_⟩;have hl:=H.len
 rcases Nat.lt_or_ge i gs.length with hi | hi
 ·rw [List.getElem?_append_left hi] at h1;rw [List.getElem?_append_left ag] at h2;exact H.kid i g' x h1 h2
 ·rw [List.getElem?_append_right hi] at h1;rw [List.getElem?_append_right ag] at h2;rw [hl] at h2
  cases hk:i - gs.length with
  | zero =>
   rw [hk] at h1 h2
   cases h1;cases h2
   exact ⟨_,_,rfl⟩
  | succ k=>rw [hk] at h1;simp at h1
theorem n9.set {gs:List (List Int)} {h:Value} {hs:List Value} (H:n9 gs h hs) {i:Nat} (g:List Int) {b:Option Addr} {d n:Nat} (hn:n=g.length):n9 (gs.set i g) h (hs.set i (.slice b n d)):=by
 subst hn;obtain ⟨a,c,e⟩:=H.head;refine ⟨⟨a,c,by rw [e];simp⟩,by simp [H.len],fun j g' x h1 h2=>?_⟩;rw [List.getElem?_set] at h1 h2
 by_cases eR:i=j
 ·rw [if_pos eR] at h1 h2;split at h1
  ·cases h1;split at h2
   ·cases h2;exact ⟨_,_,rfl⟩
   ·cases h2
  ·cases h1
 ·rw [if_neg eR] at h1 h2;exact H.kid j g' x h1 h2
theorem v7 (F:Int->List Int):∀ k,(fp F k).length<=k
 | 0=>by simp [fp]
 | k+1=>by
  have:=v7 F k;rw [fp];unfold lq;split
  ·rw [List.length_set];omega
  ·rw [length_append];simp only [length_cons,length_nil];omega
theorem vZ {F:Int->List Int}:∀ (k:Nat),∀ g∈fp F k,g.length<=k
 | 0,g,h=>by simp [fp] at h
 | k+1,g,h=>by
  have ih:=vZ (F:=F) k;rw [fp] at h;unfold lq at h;split at h
  ·rename_i i _
   rcases List.mem_or_eq_of_mem_set h with h | rfl
   ·have:=ih g h;omega
   ·cases hg:(fp F k)[i]? with
    | none=>simp
    | some l =>
     have:=ih l (mem_of_getElem? hg);simp only [Option.getD_some,length_append,length_cons,length_nil];omega
  ·rcases List.mem_append.1 h with h | h
   ·have:=ih g h;omega
   ·rw [mem_singleton] at h;subst h;simp
theorem Wx {K K1:Fz} {β:Bt} {v:Value} {f:Fn} {cap:List GV} (hk:cm K K1) (hp:∀ g∈cap,g.pc=true) (h:Rel K β v (.fn f [] cap)):Rel K1 (fun _=>.no) v (.fn f [] cap):=by
 cases h with
 | fn f xs ys first cap hl iN h h' =>
  exact .fn f xs ys [] cap hl iN (fun i v g _ hg=>by simp at hg) (fun i v g h1 h2=>((h' i v g h1 h2).mono hk (cZ.refl β)).pc (hp g (mem_of_getElem? h2)))
theorem zU {B:Bs} {K:Fz} {β:Bt} {w:World} {gs:List (List Int)} {h:Value} {hs:List Value} {A C:List Ob} (H:n9 gs h hs) (hI:Inv B K β (A++(iH gs h hs++C)) w) :
  ∃ K1,cm K K1/\ji K1 w/\gE K1 (fun _=>.no) w/\Rel K1 (fun _=>.no) h (.sl 1 (cS gs)):=by
 have hl:=H.len;have eS:=py hl;refine hI.deep (jf:=A.length) (base:=A.length+1) (T:=40) (E:=3) (rows:=il hs) (hd:=fun i=>hs[i]?.getD (.slice none 0 0)) ?_ (by simp [il,hl]) (fun i hi=>?_) (fun i g hg=>?_) ag
 ·rw [List.getElem?_append_right (Nat.le_refl _),Nat.sub_self];rfl
 ·have:hs[i]?=some hs[i]:=getElem?_eq_getElem ag;simp [il,this]
 ·have hi:=(List.getElem?_eq_some_iff.1 hg).1;have:hs[i]?=some hs[i]:=getElem?_eq_getElem ag;rw [List.getElem?_append_right ag,show A.length+1+i - A.length=i+1 by omega];unfold iH;rw [cons_append,getElem?_cons_succ,List.getElem?_append_left ag];simp only [this,Option.getD_some];exact rI hg this
theorem GC.VP {f:FuncId} {args:List GV} {G:List (List Int)} (h:GC Tryz.prog f args [] fun g Δ=>∃ h hs,n9 G h hs/\g=.v h/\Δ=iH G h hs):GF Tryz.prog f args [] (.sl 1 (cS G)) []:=fun B K β w vs hm hI hF =>
 (h B K β w vs hm hI hF).mono fun v w' ⟨K',bA,g,aK,bg,hr,x,hs,H,hg,bz⟩=>by
  subst hg;subst bz;have hl:=H.len
  obtain ⟨K1,R8,k1,i1,j1⟩:=bg.Q0 (jf:=0) (base:=1) (T:=40) (E:=3) (rows:=il hs) (gs:=G) (h:=x) (hd:=fun i=>hs[i]?.getD (.slice none 0 0)) rfl (by simp [il,hl]) (fun i hi=>by
   have:hs[i]?=some hs[i]:=getElem?_eq_getElem ag
   simp [il,this]) (fun i g hg=>by
   have hi:=(List.getElem?_eq_some_iff.1 hg).1;have:hs[i]?=some hs[i]:=getElem?_eq_getElem ag;rw [Nat.add_comm];unfold iH;simp only [getElem?_cons_succ,this,Option.getD_some]
   exact rI hg this) ag
  obtain ⟨K2,k2,r2,i2⟩:=i1.qb j1;have hv:=Rel.eD hr;refine ⟨K2,_,.sl 1 (cS G),[],i2.cut (n:=0) (by rw [hm];exact Nat.le_refl _) rfl,?_,rfl,rfl⟩;rw [hv];exact r2.pc rfl
end Go.Xg
namespace Go.Xg
open Go.RowKit Go.Xw
theorem TE {A B:Prop} (h:B) (s:Hid B->A:=by intro hQ;(repeat (first | ((first | (apply GL.q;(· exact Lm)) | refine GL.nil ?_ | refine bb ?_ | refine GW.seq ?_ | refine GW.region ?_ | refine GW.skip ?_ | refine gH ?_ | refine GW.block ?_ | (apply GL.gt;(· exact rfl);(· first | exact rfl | assumption)) | (apply GL.gf;(· exact rfl);(· first | exact rfl | assumption)) | (apply GL.gu;(· exact rfl)) | (apply Lz;(· exact rfl);(· first | exact rfl | assumption)) | (apply Ly;(· exact rfl);(· first | exact rfl | assumption)));try refine GN wM ?_) | ((first | (apply GL.box;(· exact rfl)) | (apply GL.st;(· exact rfl);(· exact rfl);(· exact rfl);(· exact rfl);(· exact rfl);(· exact rfl)));refine rp di eo ?_)));exact hQ.1):A:=s ⟨h⟩
end Go.Xg
namespace Go.Xg
open Go.RowKit Go.Xw Go.Proofs
open Go.Xp (Nd T Ar aP az bL)
open Go.Sp (Src)
open Go.Im
attribute [local irreducible] GW GL GO YG GC GA aV aZ
theorem Pr (p:Src) (hw:ej p<=1048576) (lu:ij p=true) :
  GC Tryz.prog 62 [.agg (ax p)] [] fun g Δ=>∃ h hs,n9 (fp (b7 p) p.fns.length) h hs/\g=.v h/\Δ=iH (fp (b7 p) p.fns.length) h hs:=by
 obtain ⟨⟨a1,a2⟩,⟨b1,b2⟩,⟨c1,c2⟩,⟨d1,d2⟩⟩:=gS p
 have va:(p.fns.map aw).length=p.fns.length:=by simp
 refine db Tryz.func62 Tryz.ntmps62 ?_;refine GW.seq ?_;refine GW.region ?_;refine GL.EE rfl rfl ?_;refine ct ?_;refine ae ?_;refine GW.wk (Wk.oY 40 1) ?_;simp only [nil_append];refine GW.range (p.fns.map aw).length (fun k fr Γ=>∃ h hs,fr=[.U,.box (ax p) 0,.U,.v h,.U,.U,.U,.sl 3 (p.fns.map aw),.v (ii ((p.fns.map aw).length:Int)),.v (ii (k:Nat)),.U,.U,.U,.U,.U,.U,.U,.U,.U,.U,.U,.U,.U,.U,.U,.U,.U,.U,.U,.U,.U,.U,.U,.U]/\n9 (fp (b7 p) k) h hs/\Γ=iH (fp (b7 p) k) h hs) ?_ ag ?_ ?_ ?_
 ·exact ⟨_,_,Wk.aC aq,.slice none 0 0,[],rfl,⟨⟨none,0,rfl⟩,rfl,fun i g x h=>by simp [fp] at h⟩,rfl⟩
 ·rintro k _ _ ⟨h,hs,rfl,_,rfl⟩;exact dQ
 ·rintro k _ _ hk ⟨h,hs,rfl,H,rfl⟩;rw [va] at hk;have Fg:fp (b7 p) (k+1)=lq (b7 p) (fp (b7 p) k) (k:Int):=rfl;have MZ:=B7 (C6 p) k;have jr:=v7 (b7 p) k;have M0:=vZ (F:=b7 p) k;rw [Fg];clear Fg;generalize fp (b7 p) k=gs at *
  have hIx:GF Tryz.prog 66 [.sl 1 (cS gs),.fn (.func 112) [] [.box (ax p) 0,.box [.v (ii (k:Nat))] 0]] [] (.v (ii (cE (fun g=>fH (b7 p) (g.headD 0) (k:Int)) gs))) []:=by
   refine Ep _ _ _ gs ag fun g hg=>?_
   obtain ⟨a,r,rfl⟩:∃ a r,g=a::r:=List.exists_cons_of_ne_nil (MZ.ne g hg);obtain ⟨r1,r2,-⟩:=MZ.mem _ hg a (by simp);obtain ⟨j,rfl⟩:∃ j:Nat,a=(j:Int):=⟨a.toNat,by omega⟩;have:=MK p hw lu (a:=j) (k:=k) ag hk r;rw [JN ag] at this;exact this
  refine TE ?_;refine GL.Vy rfl rfl rfl rfl rfl rfl rfl ?_;refine ct ?_;refine ae ?_;refine GL.borrow hIx (fun B K β w l hI hF=>?_) ?_
  ·obtain ⟨K1,r8,h1,h2,h3⟩:=zU (A:=[]) (C:=[]) H (by rw [append_nil];exact hI);refine ⟨K1,h1,h2,?_⟩;have hr:=hF.ev (.tmp 13);show ba K1 _ [ev l (.tmp 12),ev l (.tmp 13)] _;rw [hF.gV (x:=.tmp 12) (a:=h) rfl];exact .cons h3 (.cons (Wx r8 (cap:=[.box (ax p) 0,.box [.v (ii (k:Int))] 0]) (by intro g hg;simp only [List.mem_cons,List.not_mem_nil,or_false] at hg;rcases hg with rfl | rfl <;> rfl) hr) .nil)
  refine ct ?_;unfold lq yA cE
  cases hz:gs.findIdx? (fun g=>fH (b7 p) (g.headD 0) (k:Int)) with
  | none =>
   obtain ⟨a0,c0,e0⟩:=H.head;have hl:=H.len
   have vf:(il hs).length=gs.length:=by rw [u9,hl]
   simp only;refine ae ?_;refine kK ?_
   have rz:(Ob.vech 40 1 (il hs) h::(fv gs hs++[.vec 3 1 0 (chunk 1 1 [.v (ii (k:Nat))])]))[(fv gs hs).length+1]?=some (.vec 3 1 0 (chunk 1 1 [.v (ii (k:Nat))])):=by simp
   refine GL.qI (t:=19) rfl rfl rz rfl ?_;intro a1 c1;refine rp rfl (DE (Ob.vech 40 1 (il hs) h::fv gs hs) _ _) ?_;refine ct ?_;refine GL.jw 0 rfl rfl rfl rfl rfl rfl rfl rfl vf me ?_;intro a2 c2;refine bJ ?_;refine ae ?_;refine ⟨rfl,rfl,_,_,Wk.aC aq,_,hs++[.slice a1 1 c1],rfl,H.snoc [(k:Int)],?_⟩;unfold iH;rw [<-wh _ _ hl];show _=_;simp only [il,map_append,List.map_cons,map_nil];rfl
  | some i =>
   obtain ⟨a0,c0,e0⟩:=H.head;have hl:=H.len
   have vf:(il hs).length=gs.length:=by rw [u9,hl]
   obtain ⟨hi,-,-⟩:=List.findIdx?_eq_some_iff_getElem.1 hz;have J5:gs[i]?=some gs[i]:=getElem?_eq_getElem hi;have oe:hs[i]?=some (hs[i]'ag):=getElem?_eq_getElem _;obtain ⟨a1,c1,e1⟩:=H.kid i _ _ J5 oe;have hgb:=M0 _ (mem_of_getElem? J5);generalize gs[i]=g at *;generalize hs[i]'ag=x at *;subst e1
   have rD:(il hs)[i]?=some [.v (.slice a1 g.length c1)]:=by simp [il,oe]
   have qs:i < (il hs).length:=by omega
   have fq:(Ob.vech 40 1 (il hs) h::fv gs hs)[i+1]?=some (.vech 3 1 (bc g) (.slice a1 g.length c1)):=by rw [getElem?_cons_succ];exact rI J5 oe
   have J6:(bc g).length=g.length:=by simp [bc]
   simp only;rw [J5,Option.getD_some];refine ae ?_;refine aI (aB 0 7 (.a 7 (.a 8 (.q 9 (.a 10 .nil))))) ?_;refine ar ?_;refine eA ?_;refine ar ?_;refine OA rfl rfl (GL.pJ (i+1) (news:=[[.v (ii (k:Nat))]]) rfl rfl fq J6 rfl rfl ⟨by show g.length+1<=_;omega,by show (g.length+1) * _<=_;omega⟩ ?_);intro a2 c2;refine dA ?_;refine ar ?_;refine OA rfl rfl (GL.VT rfl rfl rfl rD rfl rfl rfl rfl ?_);refine dA ?_;refine bf ?_;refine ⟨rfl,rfl,_,_,Wk.aC aq,h,hs.set i (.slice a2 (g.length+1) c2),rfl,H.set (g++[(k:Int)]) (by simp),?_⟩;unfold iH;rw [<-ua,<-Cc,show bc (g++[(k:Int)])=bc g++[[.v (ii (k:Nat))]] by simp [bc]];rfl
 ·rintro _ _ ⟨h,hs,rfl,H,rfl⟩;rw [va] at H;rw [va];refine bb ?_;refine ae ?_;refine ig ?_;refine oS 0 rfl cl rfl ph ⟨h,hs,H,rfl,rfl⟩
end Go.Xg
