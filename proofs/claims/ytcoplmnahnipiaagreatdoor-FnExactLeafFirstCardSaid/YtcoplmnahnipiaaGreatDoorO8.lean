/- Part 8 of proofs that are told in their last texts. -/
import Derived.Test.YtcoplmnahnipiaaGreatDoorO7
import Derived.Laws.StructEq
import Derived.Test.YtcoplmnahnipiaaGreatDoorO1
import Derived.Test.YtcoplmnahnipiaaGreatDoorO5
import Derived.Test.YtcoplmnahnipiaaGreatDoorO2
import Derived.Test.YtcoplmnahnipiaaGreatDoorO6
import Derived.Test.YtcoplmnahnipiaaGreatDoorO3
open List (all_append all_eq_true append_nil ext_getElem? getElem?_eq_getElem getElem?_eq_none getElem?_map getElem?_mapIdx length_append length_drop length_map length_nil length_take map_append mem_of_getElem? mem_singleton nil_append take_add_one take_length)
set_option linter.unusedVariables false
set_option linter.unusedSimpArgs false
set_option maxRecDepth 100000
set_option maxHeartbeats 2000000
namespace Go.Xg
open Go.RowKit Go.Xw Go.Proofs
open Go.Xp (Nd Ar)
open Go.Im (y7 fc q9 ra sI lO nt)
theorem Wh (w:World) (s s':ai) (n n':Int):(Op.equalIn 10000 88 (.agg #[sv s,ii n]) (.agg #[sv s',ii n'])).run Tryz.prog w=.ok ((s==s')&&(n==n')) w:=by
 have hf:(Tryz.prog.fieldsOf 88).toList=[(Tryz.prog.fieldsOf 88)[0]!,(Tryz.prog.fieldsOf 88)[1]!]:=by kernel_rfl
 have a0:((Tryz.prog.fieldsOf 88)[0]!).type=9:=by kernel_rfl
 have a1:((Tryz.prog.fieldsOf 88)[1]!).type=3:=by kernel_rfl
 have b0:((Tryz.prog.fieldsOf 88)[0]!).offset=0:=by kernel_rfl
 have b1:((Tryz.prog.fieldsOf 88)[1]!).offset=1:=by kernel_rfl
 have c0:((Tryz.prog.fieldsOf 88)[0]!).name = "Name" := by kernel_rfl
 have c1:((Tryz.prog.fieldsOf 88)[1]!).name = "Size" := by kernel_rfl
 rw [show (10000:Nat)=9999+1 from rfl,run_equalIn_agg w 9999 _ _ _ (by kernel_rfl) (by kernel_rfl),hf];generalize (Tryz.prog.fieldsOf 88)[0]! = f0 at *;generalize (Tryz.prog.fieldsOf 88)[1]! = f1 at *
 have hs:Tryz.prog.underlying 9=some .string:=by kernel_rfl
 have hi:Tryz.prog.underlying 3=some (.int .i64):=by kernel_rfl
 have p0:∀ (a:ai) (b:Int) w,(part f0.type #[sv a,ii b] f0.offset).run Tryz.prog w=.ok (sv a) w:=fun a b w=>by
  rw [a0,b0];rfl
 have p1:∀ (a:ai) (b:Int) w,(part f1.type #[sv a,ii b] f1.offset).run Tryz.prog w=.ok (ii b) w:=fun a b w=>by
  rw [a1,b1];rfl
 have e0:∀ w,(Op.equalIn 9999 f0.type (sv s) (sv s')).run Tryz.prog w=.ok (s==s') w:=fun w=>by
  rw [a0,show (9999:Nat)=9998+1 from rfl];have:=run_equalIn_string (P:=Tryz.prog) w 9998 9 ⟨s.toArray⟩ ⟨s'.toArray⟩ hs;rw [show sv s=.string ⟨s.toArray⟩ from rfl,show sv s'=.string ⟨s'.toArray⟩ from rfl,this];simp [toList_mk]
 have e1:∀ w,(Op.equalIn 9999 f1.type (ii n) (ii n')).run Tryz.prog w=.ok (n==n') w:=fun w=>by
  rw [a1,show (9999:Nat)=9998+1 from rfl];exact run_equalIn_int (P:=Tryz.prog) w 9998 3 .i64 .i64 n n' hi
 have n0:f0.name ≠ "_" := by rw [c0];decide
 have n1:f1.name ≠ "_" := by rw [c1];decide
 rw [Op.eqFields,if_pos n0];simp only [Sem.run_bind,p0,Result.andThen_ok,e0]
 cases s==s' with
 | false=>simp
 | true =>
  simp only [Bool.not_true,Bool.false_eq_true,if_false,Bool.true_and];rw [Op.eqFields,if_pos n1];simp only [Sem.run_bind,p1,Result.andThen_ok,e1]
  cases n==n' with
  | false=>simp
  | true=>simp [Op.eqFields]
theorem YG.Vn {fr:List GV} {Γ:List Ob} {x y:Operand} {t':TypeId} {s s':ai} {n n':Int} (hx:aV fr x=.agg [.v (sv s),.v (ii n)]) (hy:aV fr y=.agg [.v (sv s'),.v (ii n')]) :
  YG Tryz.prog (.binOp .neq 88 x y t') fr Γ (.v (.bool (!((s==s')&&(n==n'))))):=fun B K β w l hI hF=>by
 have two:∀ {v:Value} {a b:Value},Rel K β v (.agg [.v a,.v b])->v=.agg #[a,b]:=fun {v a b} h=>by
  cases h with
  | agg vs _ hl hh =>
   match vs,hl with
   | [u1,u2],_ =>
    have h1:=Rel.eD (hh 0 u1 (.v a) rfl rfl);have h2:=Rel.eD (hh 1 u2 (.v b) rfl rfl);rw [h1,h2]
 have rn:=two (by rw [<-hx];exact hF.ev x);have U4:=two (by rw [<-hy];exact hF.ev y);refine ⟨_,fun d ty pos af=>?_,.v _⟩;have hg:=run_eqGuard_agg (P:=Tryz.prog) w .neq 88 x y #[sv s,ii n] #[sv s',ii n'] (by kernel_rfl);have hn:=run_neq_struct (P:=Tryz.prog) w 88 #[sv s,ii n] #[sv s',ii n'];rw [Wh,Result.andThen_ok] at hn;simp [execOp,rn,U4,hg,hn]
attribute [local irreducible] GW GL GO YG GC GA aY ba
theorem RT (a b:List Ar) (ha:a.length<=1099511627776) (hb:b.length<=1099511627776):GF Tryz.prog 165 [(.sl 2 (a.map fun s=>aH s)),(.sl 2 (b.map fun s=>aH s))] [] (.v (.bool (fc y7 a b))) []:=by
 have kE:(a.map fun s=>aH s).length=a.length:=by simp
 have qi:(b.map fun s=>aH s).length=b.length:=by simp
 by_cases hl:a.length=b.length
 ·have hd:(((a.map fun s=>aH s).length:Int) != ((b.map fun s=>aH s).length:Int))=false:=by rw [kE,qi,hl];simp
  refine aj Tryz.func165 Tryz.ntmps165 ?_;refine GW.range (a.map fun s=>aH s).length (fun k fr Γ=>fr=[(.sl 2 (a.map fun s=>aH s)),(.sl 2 (b.map fun s=>aH s)),.U,.U,.U,.U,.U,.U,.U,.U,.U,.U,.v (ii ((a.map fun s=>aH s).length:Int)),.v (ii (k:Nat)),.U,.U,.U,.U,.U,.U,.U,.U,.U,.U,.U,.U]/\Γ=[]/\sI y7 a b k) ?_ ah ?_ ?_ ?_
  ·exact ⟨_,_,Wk.aD ar,rfl,rfl,fun j x y h=>by omega⟩
  ·exact fE
  ·rintro k _ _ ao ⟨rfl,rfl,kJ⟩;rw [kE] at ao
   have ng:a[k]?=some a[k]:=by simp [ao]
   have pM:k < b.length:=by omega
   have oG:b[k]?=some b[k]:=by simp [pM]
   have Fk:(a.map fun s=>aH s)[k]?=some (aH a[k]):=by rw [getElem?_map,ng];rfl
   have Fl:(b.map fun s=>aH s)[k]?=some (aH b[k]):=by rw [getElem?_map,oG];rfl
   generalize a[k]=x at *;generalize b[k]=y at *;unfold aH at Fk Fl
   cases iV:y7 x y with
   | true =>
    have bP:(!((x.name==y.name)&&(x.size==y.size)))=false:=by rw [show ((x.name==y.name)&&(x.size==y.size))=y7 x y from rfl,iV];rfl
    refine ae ?_;refine aJ (aC 0 9 .nil) ?_;refine au ?_;apply OP
    ·exact rfl
    ·intro Γ;exact YG.Vn rfl rfl
    refine RJ ?_;refine bg ?_;exact ⟨rfl,rfl,_,_,Wk.aD ar,rfl,rfl,lO ng oG kJ iV⟩
   | false =>
    have bP:(!((x.name==y.name)&&(x.size==y.size)))=true:=by rw [show ((x.name==y.name)&&(x.size==y.size))=y7 x y from rfl,iV];rfl
    rw [ra ng oG (p:=y7) iV];refine ae ?_;refine aJ (aC 0 9 .nil) ?_;refine au ?_;apply OP
    ·exact rfl
    ·intro Γ;exact YG.Vn rfl rfl
    refine RJ ?_;refine au ?_;exact aw
  ·rintro _ _ ⟨rfl,rfl,kJ⟩;rw [kE] at kJ;rw [nt hl kJ];exact aw
 ·have hd:(((a.map fun s=>aH s).length:Int) != ((b.map fun s=>aH s).length:Int))=true:=by rw [kE,qi];simpa using by omega
  rw [q9 hl];refine aj Tryz.func165 Tryz.ntmps165 ?_;exact al
end Go.Xg
set_option maxHeartbeats 1000000
namespace Go.Xg
open Go.RowKit Go.Xw Go.Proofs
open Go.Xp (Tok Nd T bo one levels gw dL ei du db ow)
open Go.Sp Go.Im
attribute [local irreducible] GW GL GO YG GC GA aY ba
structure Hy (f:Nat):Prop where
 expr:∀ d p t q x,p.ok->d+f<=1099511627776->iE f (.expr d) p=some (t,q)->GF Tryz.prog 288 [.loc 0 0,.v (ii (d:Nat))] [bK p x] (qT t) [bK q x]
 level:∀ k d p t q x,p.ok->k<=9->d+f<=1099511627776->iE f (.level k d) p=some (t,q)->GF Tryz.prog 299 [.loc 0 0,.v (ii (k:Nat)),.v (ii (d:Nat))] [bK p x] (qT t) [bK q x]
 operand:∀ d p t q x,p.ok->d+f<=1099511627776->iE f (.operand d) p=some (t,q)->GF Tryz.prog 304 [.loc 0 0,.v (ii (d:Nat))] [bK p x] (qT t) [bK q x]
 exprs:∀ d p l q x,p.ok->d+f<=1099511627776->iA f d [] p=some (l,q)->GF Tryz.prog 306 [.loc 0 0,.v (ii (d:Nat))] [bK p x] (.sl 1 (kl l)) [bK q x]
theorem GB:GF Tryz.prog 271 [.v (ii 0),.v (ii 0),.v (sv []),.sl 1 []] [] (qT T.zero) []:=ew 0 0 [] [] [] rfl
theorem TO {f:Nat} (C:Hy f) (d:Nat) (p:RS) (t:T) (q:RS) (x:PX) (hp:p.ok) (hd:d+(f+1)<=1099511627776) (h:iE (f+1) (.expr d) p=some (t,q)) :
  GF Tryz.prog 288 [.loc 0 0,.v (ii (d:Nat))] [bK p x] (qT t) [bK q x]:=by
 rw [iE] at h;have dG:=vS p d x hp
 by_cases hc:(bL p d).code=0
 ·have dq:((bL p d).code==0)=true:=by simpa using hc
  rw [if_pos hc] at h;rw [dq] at dG;rw [oz hc] at h dG;have hl:=C.level 0 (d+1) p t q x hp ah ah h;refine aj Tryz.func288 Tryz.ntmps288 ?_;refine ab [0] dG ?_;refine ab [0] hl ?_;exact al
 ·have dq:((bL p d).code==0)=false:=by simpa using hc
  rw [if_neg hc] at h;rw [dq] at dG;cases h;refine aj Tryz.func288 Tryz.ntmps288 ?_;refine ab [0] dG ?_;refine ab [] GB ?_;exact al
theorem SJ {f:Nat} (C:∀ f',f'<=f->Hy f') (k d:Nat) (p:RS) (t:T) (q:RS) (x:PX) (hp:p.ok) (hk:k<=9) (hd:d+(f+1)<=1099511627776) (h:iE (f+1) (.level k d) p=some (t,q)) :
  GF Tryz.prog 299 [.loc 0 0,.v (ii (k:Nat)),.v (ii (d:Nat))] [bK p x] (qT t) [bK q x]:=by
 rw [iE] at h
 by_cases AZ:k=9
 ·subst AZ;rw [if_pos rfl] at h;have ho:=(C f (Nat.le_refl _)).operand d p t q x hp ah h;refine aj Tryz.func299 Tryz.ntmps299 ?_;refine ab [] tg ?_;refine ab [0] ho ?_;exact al
 ·rw [if_neg AZ] at h
  have Y7:((k:Int)==9)=false:=by simp;omega
  cases he:iE f (.level (k+1) d) p with
  | none=>rw [he] at h;cases h
  | some r =>
   obtain ⟨out,p1⟩:=r;rw [he] at h;simp only at h;have lC:=((iX f).1 _ _ _ _ hp he).ok hp;have hl:=(C f (Nat.le_refl _)).level (k+1) d p out p1 x hp ah ah he;refine aj Tryz.func299 Tryz.ntmps299 ?_;refine ab [] tg ?_;refine ab [0] hl ?_;refine GW.loop (fun z:Nat × T × RS=>z.1) (fun z fr Γ=>fr=[.loc 0 0,.v (ii (k:Nat)),.v (ii (d:Nat)),.U,.U,.U,.U,qT z.2.1,.U,.U,.U,.U,.U,.U,.U,.U,.U,.U,.U,.U,.U,.U,.U,.U,.U,.U,.U,.U,.U,.U,.U,.U,.U,.U,.U,.U,.U,.U,.U,.U,.U,.U,.U,.U,.U,.U,.U,.U,.U,.U,.U,.U,.U,.U,.U,.U,.U,.U,.U,.U,.U,.U,.U,.U]/\Γ=[bK z.2.2 x]/\z.2.2.ok/\z.1<=f/\iE z.1 (.loop k d z.2.1) z.2.2=some (t,q)) (f,out,p1) ?_ ?_
   ·exact ⟨_,_,Wk.aD ar,rfl,rfl,lC,Nat.le_refl _,h⟩
   ·clear h he hl;rintro ⟨g,out,p⟩ _ _ ⟨rfl,rfl,hp,MK,h⟩;simp only at hp MK h
    cases g with
    | zero=>simp [iE] at h
    | succ g =>
    rw [iE] at h
    have hk:k < 9:=by omega
    have ht:=qW p 0 x hp aK
    by_cases hc:p.code=0
    ·have dq:(p.code==0)=true:=by simpa using hc
     by_cases h3:(tok p 0).kind=3
     ·have kh:((tok p 0).kind==3)=true:=by simpa using h3
      have Q7:=IC hk;have QZ:=ky (levels.getD k []) (tok p 0).s (B9 k hk)
      by_cases hit:(levels.getD k []).contains (tok p 0).s=true
      ·rw [if_pos ⟨hc,h3,hit⟩] at h;rw [hit] at QZ;have ao:p.i < p.l.length:=ry (k:=0) ah;have cW:=hp.2
       cases hb:iE g (.level (k+1) d) p.next with
       | none=>rw [hb] at h;cases h
       | some r =>
        obtain ⟨b,p2⟩:=r;rw [hb] at h;simp only at h;have dc:=(dw ao).ok hp;have dH:=((iX g).1 _ _ _ _ dc hb).ok dc
        have jC:=(C g ah).level (k+1) d p.next b p2 x dc ah ah hb
        generalize tok p 0=tk at *;have il:=ew 6 tk.at_ tk.s [out,b] [[qT out],[qT b]] (gm _);refine ae ?_;refine aJ (aC 0 7 (.a 7 (aC 8 4 (.q 13 (.q 16 (.a 12 (.q 14 (.q 15 (.a 17 (.q 18 (.a 19 (.q 20 .nil)))))))))))) ?_;refine au ?_;refine bC [0] ht ?_;refine bC [] tg ?_;refine bC [0] ht ?_;refine bC [] QZ ?_;refine ae ?_;refine ab [0] ht ?_;refine aJ (aC 0 9 (.a 9 (.a 10 (.a 11 (.q 12 .nil))))) ?_;refine au ?_;refine aE [0] jC ?_;refine ey ?_;refine au ?_;refine aE [] il ?_;refine ae ?_;exact ⟨(g,one 6 tk.at_ tk.s [out,b],p2),⟨_,_,(Wk.cut (n:=1) (Nat.le_of_ble_eq_true rfl) rfl).trans (Wk.aD ar),rfl,rfl,dH,by omega,h⟩,by simp⟩
      ·have hit:(levels.getD k []).contains (tok p 0).s=false:=by simpa using hit
       rw [if_neg (by rw [hit];simp)] at h
       obtain ⟨rfl,rfl⟩:out=t/\p=q:=by simpa using h
       rw [hit] at QZ;generalize tok p 0=tk at *;refine ae ?_;refine aJ (aC 0 7 (.a 7 (aC 8 4 (.q 13 (.q 16 (.a 12 (.q 14 (.q 15 (.a 17 (.q 18 (.a 19 (.q 20 .nil)))))))))))) ?_;refine au ?_;refine bC [0] ht ?_;refine bC [] tg ?_;refine bC [0] ht ?_;refine bC [] QZ ?_;refine bH ?_;exact aw
     ·have kh:((tok p 0).kind==3)=false:=by simpa using h3
      rw [if_neg (fun hh=>h3 hh.2.1)] at h
      obtain ⟨rfl,rfl⟩:out=t/\p=q:=by simpa using h
      generalize tok p 0=tk at *;refine ae ?_;refine aJ (aC 0 7 (.a 7 (aC 8 4 (.q 13 (.q 16 (.a 12 (.q 14 (.q 15 (.a 17 (.q 18 (.a 19 (.q 20 .nil)))))))))))) ?_;refine au ?_;refine bC [0] ht ?_;refine bH ?_;exact aw
    ·have dq:(p.code==0)=false:=by simpa using hc
     rw [if_neg (fun hh=>hc hh.1)] at h
     obtain ⟨rfl,rfl⟩:out=t/\p=q:=by simpa using h
     refine ae ?_;refine aJ (aC 0 7 (.a 7 (aC 8 4 (.q 13 (.q 16 (.a 12 (.q 14 (.q 15 (.a 17 (.q 18 (.a 19 (.q 20 .nil)))))))))))) ?_;refine bg ?_;refine jd ?_;exact aw
theorem Sk {f:Nat} (C:∀ f',f'<=f->Hy f') (d:Nat) (p:RS) (l:List T) (q:RS) (x:PX) (hp:p.ok) (hd:d+(f+1)<=1099511627776) (h:iA (f+1) d [] p=some (l,q)) :
  GF Tryz.prog 306 [.loc 0 0,.v (ii (d:Nat))] [bK p x] (.sl 1 (kl l)) [bK q x]:=by
 refine aj Tryz.func306 Tryz.ntmps306 ?_;refine GW.wk (Wk.Ci (t:=5) (a:=none) (c:=0) 152 1 rfl) ?_;refine GW.loop (fun z:Nat × List T × RS=>z.1) (fun z fr Γ=>∃ n rows,fr=[.loc 0 0,.v (ii (d:Nat)),.U,.U,.U,.vec 1 n,.U,.U,.U,.U,.U,.U,.U,.U,.U,.U,.U,.U,.U,.U,.U,.U,.U,.U,.U,.U,.U,.U,.U,.U,.U,.U]/\Γ=[bK z.2.2 x,.vec 152 1 0 rows]/\rows.length=n/\rows=kl z.2.1/\n+z.1<=f+1/\z.2.2.ok/\iA z.1 d z.2.1 z.2.2=some (l,q)) (f+1,[],p) ?_ ?_
 ·exact ⟨_,_,Wk.aD ar,0,[],rfl,rfl,rfl,rfl,by simp,hp,h⟩
 ·clear h hp;rintro ⟨g,acc,p⟩ _ _ ⟨n,rows,rfl,rfl,hn,bz,zi,hp,h⟩;simp only at bz zi hp h
  cases g with
  | zero=>simp [iA] at h
  | succ g =>
  rw [iA] at h;have hi:=jU p 0 [41] x hp aK
  have la:acc.length=n:=by rw [<-hn,bz,mM]
  by_cases hc:p.code=0
  ·have dq:(p.code==0)=true:=by simpa using hc
   cases hs:is p 0 [41] with
   | true =>
    rw [hs] at hi;rw [if_neg (fun hh=>by have:=hh.2;rw [hs] at this;cases this)] at h
    obtain ⟨rfl,rfl⟩:acc=l/\want p [41]=q:=by simpa using h
    have hw:=eO p [41] x hp;subst bz;refine ae ?_;refine ab [0] hi ?_;refine jd ?_;refine ae ?_;refine bS ?_;refine ae ?_;refine ab [0] hw ?_;refine GW.wk (Wk.jy (t:=4) rfl rfl rfl hn) ?_;exact al
   | false =>
    rw [hs] at hi;rw [if_pos ⟨hc,hs⟩] at h
    by_cases h0:acc.length=0
    ·rw [if_pos h0] at h
     have sM:decide ((0:Int) < (n:Int))=false:=by simpa using by omega
     cases hb:iE g (.expr d) p with
     | none=>rw [hb] at h;cases h
     | some r =>
      obtain ⟨a,p2⟩:=r;rw [hb] at h;simp only at h;have dH:=((iX g).1 _ _ _ _ hp hb).ok hp;have he:=(C g ah).expr d p a p2 x hp ah hb;refine ae ?_;refine ab [0] hi ?_;refine ab [0] he ?_;refine eR ?_;refine ae ?_;exact ⟨(g,acc++[a],p2),⟨_,_,Wk.aD ar,_,_,rfl,rfl,by simp [hn],by rw [vn,bz],by show n+1+g<=f+1;omega,dH,h⟩,by simp⟩
    ·rw [if_neg h0] at h
     have sM:decide ((0:Int) < (n:Int))=true:=by simpa using by omega
     have lR:=(cn hp [44]).ok hp;have hw:=eO p [44] x hp
     cases hb:iE g (.expr d) (want p [44]) with
     | none=>rw [hb] at h;cases h
     | some r =>
      obtain ⟨a,p2⟩:=r;rw [hb] at h;simp only at h;have dH:=((iX g).1 _ _ _ _ lR hb).ok lR;have he:=(C g ah).expr d _ a p2 x lR ah hb;refine ae ?_;refine ab [0] hi ?_;refine bS ?_;refine ae ?_;refine ab [0] hw ?_;refine ab [0] he ?_;refine eR ?_;refine ae ?_;exact ⟨(g,acc++[a],p2),⟨_,_,Wk.aD ar,_,_,rfl,rfl,by simp [hn],by rw [vn,bz],by show n+1+g<=f+1;omega,dH,h⟩,by simp⟩
  ·have dq:(p.code==0)=false:=by simpa using hc
   rw [if_neg (fun hh=>hc hh.1)] at h
   obtain ⟨rfl,rfl⟩:acc=l/\want p [41]=q:=by simpa using h
   have hw:=eO p [41] x hp;subst bz;refine bH ?_;refine ae ?_;refine bS ?_;refine ae ?_;refine ab [0] hw ?_;refine GW.wk (Wk.jy (t:=4) rfl rfl rfl hn) ?_;exact al
theorem NG {f:Nat} (C:Hy f) (d:Nat) (p:RS) (t:T) (q:RS) (x:PX) (hp:p.ok) (hd:d+(f+1)<=1099511627776) (h:iE (f+1) (.operand d) p=some (t,q)) :
  GF Tryz.prog 304 [.loc 0 0,.v (ii (d:Nat))] [bK p x] (qT t) [bK q x]:=by
 rw [iE] at h;have dG:=vS p d x hp;have ht:=qW p 0 x hp aK
 by_cases hc:(bL p d).code=0
 case neg =>
  have dq:((bL p d).code==0)=false:=by simpa using hc
  rw [if_neg hc] at h;rw [dq] at dG;cases h;refine aj Tryz.func304 Tryz.ntmps304 ?_;refine ab [0] ht ?_;refine ab [0] dG ?_;refine ab [] GB ?_;exact al
 case pos =>
 have dq:((bL p d).code==0)=true:=by simpa using hc
 rw [if_pos hc] at h;rw [dq,oz hc] at dG;clear hc dq;have h1:=jU p 0 [45] x hp aK;have h2:=jU p 0 [33] x hp aK;have h3:=jU p 0 [126] x hp aK;have cW:=hp.2;have Dc:=hp.1
 cases gz:is p 0 [45] with
 | true =>
  rw [gz] at h1;rw [if_pos (.inl gz)] at h;have ao:p.i < p.l.length:=is_lt (k:=0) gz;have dc:=(dw ao).ok hp
  cases hb:iE f (.operand (d+1)) p.next with
  | none=>rw [hb] at h;cases h
  | some r =>
   obtain ⟨b,p2⟩:=r;rw [hb] at h;cases h
   have xI:=C.operand (d+1) p.next b _ x dc ah hb
   generalize tok p 0=tk at *;have il:=ew 5 tk.at_ tk.s [b] [[qT b]] (gm _);refine aj Tryz.func304 Tryz.ntmps304 ?_;refine ab [0] ht ?_;refine ab [0] dG ?_;refine ab [0] h1 ?_;refine aJ (aC 0 7 (.a 7 (.a 8 (.a 9 (.q 10 .nil))))) ?_;refine au ?_;refine aE [0] xI ?_;refine ey ?_;refine au ?_;refine aE [] il ?_;exact aw
 | false =>
 rw [gz] at h1
 cases jD:is p 0 [33] with
 | true =>
  rw [jD] at h2;rw [if_pos (.inr (.inl jD))] at h;have ao:p.i < p.l.length:=is_lt (k:=0) jD;have dc:=(dw ao).ok hp
  cases hb:iE f (.operand (d+1)) p.next with
  | none=>rw [hb] at h;cases h
  | some r =>
   obtain ⟨b,p2⟩:=r;rw [hb] at h;cases h
   have xI:=C.operand (d+1) p.next b _ x dc ah hb
   generalize tok p 0=tk at *;have il:=ew 5 tk.at_ tk.s [b] [[qT b]] (gm _);refine aj Tryz.func304 Tryz.ntmps304 ?_;refine ab [0] ht ?_;refine ab [0] dG ?_;refine ab [0] h1 ?_;refine ab [0] h2 ?_;refine aJ (aC 0 7 (.a 7 (.a 8 (.a 9 (.q 10 .nil))))) ?_;refine au ?_;refine aE [0] xI ?_;refine ey ?_;refine au ?_;refine aE [] il ?_;exact aw
 | false =>
 rw [jD] at h2
 cases rR:is p 0 [126] with
 | true =>
  rw [rR] at h3;rw [if_pos (.inr (.inr rR))] at h;have ao:p.i < p.l.length:=is_lt (k:=0) rR;have dc:=(dw ao).ok hp
  cases hb:iE f (.operand (d+1)) p.next with
  | none=>rw [hb] at h;cases h
  | some r =>
   obtain ⟨b,p2⟩:=r;rw [hb] at h;cases h
   have xI:=C.operand (d+1) p.next b _ x dc ah hb
   generalize tok p 0=tk at *;have il:=ew 5 tk.at_ tk.s [b] [[qT b]] (gm _);refine aj Tryz.func304 Tryz.ntmps304 ?_;refine ab [0] ht ?_;refine ab [0] dG ?_;refine ab [0] h1 ?_;refine ab [0] h2 ?_;refine ab [0] h3 ?_;refine aJ (aC 0 7 (.a 7 (.a 8 (.a 9 (.q 10 .nil))))) ?_;refine au ?_;refine aE [0] xI ?_;refine ey ?_;refine au ?_;refine aE [] il ?_;exact aw
 | false =>
 rw [rR] at h3;rw [if_neg (by rw [gz,jD,rR];decide)] at h
 by_cases hk:(tok p 0).kind=1
 case pos =>
  rw [if_pos hk] at h;have ao:p.i < p.l.length:=ry (k:=0) ah
  have lz:((tok p 0).kind==1)=true:=by simpa using hk
  cases h;generalize tok p 0=tk at *;have il:=NB 1 tk.at_ [] [];refine aj Tryz.func304 Tryz.ntmps304 ?_;refine ab [0] ht ?_;refine ab [0] dG ?_;refine ab [0] h1 ?_;refine ab [0] h2 ?_;refine ab [0] h3 ?_;refine ab [] il ?_;refine GW.wk (Wk.freeze (i:=2) rfl rfl rfl (Nat.le_of_ble_eq_true rfl)) ?_;exact al
 case neg =>
 rw [if_neg hk] at h
 have lz:((tok p 0).kind==1)=false:=by simpa using hk
 have h4:=jU p 0 [40] x hp aK
 cases wX:is p 0 [40] with
 | true =>
  rw [wX] at h4;rw [if_pos wX] at h;have ao:p.i < p.l.length:=is_lt (k:=0) wX;have dc:=(dw ao).ok hp
  cases hb:iE f (.expr (d+1)) p.next with
  | none=>rw [hb] at h;cases h
  | some r =>
   obtain ⟨b,p2⟩:=r;rw [hb] at h;cases h;have dH:=((iX f).1 _ _ _ _ dc hb).ok dc
   have xI:=C.expr (d+1) p.next _ p2 x dc ah hb
   have hw:=eO p2 [41] x dH;generalize tok p 0=tk at *;refine aj Tryz.func304 Tryz.ntmps304 ?_;refine ab [0] ht ?_;refine ab [0] dG ?_;refine ab [0] h1 ?_;refine ab [0] h2 ?_;refine ab [0] h3 ?_;refine ab [0] h4 ?_;refine ab [0] xI ?_;refine bS ?_;refine ae ?_;refine ab [0] hw ?_;exact al
 | false =>
 rw [wX] at h4;rw [if_neg (by rw [wX];decide)] at h;have hn:=qA p x hp;have dc:=(gL hp).ok hp
 by_cases gT:(br p).code=0
 case neg =>
  rw [if_neg gT] at h
  have YY:((br p).code != 0)=true:=by simpa using gT
  cases h;generalize tok p 0=tk at *;generalize br p=p1 at *;have il:=ew 2 tk.at_ tk.s [] [] rfl;refine aj Tryz.func304 Tryz.ntmps304 ?_;refine ab [0] ht ?_;refine ab [0] dG ?_;refine ab [0] h1 ?_;refine ab [0] h2 ?_;refine ab [0] h3 ?_;refine ab [0] h4 ?_;refine ab [0] hn ?_;refine ab [] il ?_;exact al
 case pos =>
 rw [if_pos gT] at h
 have YY:((br p).code != 0)=false:=by simpa using gT
 generalize br p=p1 at *;generalize tok p 0=tk at *;have h5:=jU p1 0 [91] x dc aK;have aar:=dc.2;have aaq:=dc.1
 cases hs5:is p1 0 [91] with
 | true =>
  rw [hs5] at h5;rw [if_pos hs5] at h;have ao:p1.i < p1.l.length:=is_lt (k:=0) hs5;have Fj:=(dw ao).ok dc
  cases hb:iE f (.expr (d+1)) p1.next with
  | none=>rw [hb] at h;cases h
  | some r =>
   obtain ⟨b,p2⟩:=r;rw [hb] at h;cases h;have dH:=((iX f).1 _ _ _ _ Fj hb).ok Fj
   have xI:=C.expr (d+1) p1.next b p2 x Fj ah hb
   have hw:=eO p2 [93] x dH;have il:=ew 3 tk.at_ tk.s [b] [[qT b]] (gm _);refine aj Tryz.func304 Tryz.ntmps304 ?_;refine ab [0] ht ?_;refine ab [0] dG ?_;refine ab [0] h1 ?_;refine ab [0] h2 ?_;refine ab [0] h3 ?_;refine ab [0] h4 ?_;refine ab [0] hn ?_;refine ab [0] h5 ?_;refine ab [0] xI ?_;refine bS ?_;refine ae ?_;refine ab [0] hw ?_;refine bS ?_;refine ae ?_;refine ab [] il ?_;exact al
 | false =>
 rw [hs5] at h5;rw [if_neg (by rw [hs5];decide)] at h;have h6:=jU p1 0 [40] x dc aK
 cases hs6:is p1 0 [40] with
 | true =>
  rw [hs6] at h6;rw [if_pos hs6] at h;have ao:p1.i < p1.l.length:=is_lt (k:=0) hs6;have Fj:=(dw ao).ok dc
  cases hb:iA f (d+1) [] p1.next with
  | none=>rw [hb] at h;cases h
  | some r =>
   obtain ⟨b,p2⟩:=r;rw [hb] at h;cases h
   have xI:=C.exprs (d+1) p1.next b _ x Fj ah hb
   have il:=ew 4 tk.at_ tk.s b (kl b) rfl;refine aj Tryz.func304 Tryz.ntmps304 ?_;refine ab [0] ht ?_;refine ab [0] dG ?_;refine ab [0] h1 ?_;refine ab [0] h2 ?_;refine ab [0] h3 ?_;refine ab [0] h4 ?_;refine ab [0] hn ?_;refine ab [0] h5 ?_;refine ab [0] h6 ?_;refine aJ (aC 0 6 (.a 6 (.a 7 (.q 8 .nil)))) ?_;refine au ?_;refine aE [0] xI ?_;refine aE [] il ?_;exact aw
 | false =>
  rw [hs6] at h6;rw [if_neg (by rw [hs6];decide)] at h;cases h;have il:=ew 2 tk.at_ tk.s [] [] rfl;refine aj Tryz.func304 Tryz.ntmps304 ?_;refine ab [0] ht ?_;refine ab [0] dG ?_;refine ab [0] h1 ?_;refine ab [0] h2 ?_;refine ab [0] h3 ?_;refine ab [0] h4 ?_;refine ab [0] hn ?_;refine ab [0] h5 ?_;refine ab [0] h6 ?_;refine ab [] il ?_;exact al
theorem X0 (f:Nat):Hy f:=by
 induction f using Nat.strongRecOn with
 | _ f ih =>
  cases f with
  | zero=>exact ⟨fun d p t q x _ _ h=>by simp [iE] at h,fun k d p t q x _ _ _ h=>by simp [iE] at h,fun d p t q x _ _ h=>by simp [iE] at h,fun d p l q x _ _ h=>by simp [iA] at h⟩
  | succ f =>
   have C:=ih f (Nat.lt_succ_self f)
   have Cs:∀ f',f'<=f->Hy f':=fun f' h=>ih f' (Nat.lt_succ_of_le h)
   exact ⟨fun d p t q x hp hd h=>TO C d p t q x hp hd h,fun k d p t q x hp hk hd h=>SJ Cs k d p t q x hp hk hd h,fun d p t q x hp hd h=>NG C d p t q x hp hd h,fun d p l q x hp hd h=>Sk Cs d p l q x hp hd h⟩
end Go.Xg
namespace Go.Im
open Go.Xp Go.Sp
def VH (f d:Nat) (p:RS):Option (T × RS) :=
 if (tok p 0).kind=2/\is p 1 [61]=true then match iE f (.expr (d+1)) (want (br p) [61]) with
  | none=>none
  | some (e,q)=>some (one 7 (tok p 0).at_ (tok p 0).s [e],want q [59])
 else match iE f (.expr (d+1)) p with
  | none=>none
  | some (e,q) =>
   if wB p q e then match e.kids,iE f (.expr (d+1)) (want q [61]) with
    | a::_,some (v,q)=>some (one 8 (tok p 0).at_ e.n.s [a,v],want q [59])
    | _,_=>none
   else some (one 12 (tok p 0).at_ [] [e],want q [59])
end Go.Im
namespace Go.Xg
open Go.RowKit Go.Xw Go.Proofs
open Go.Xp (Tok Nd T bo one levels gw dL ei du db ow)
open Go.Sp Go.Im
attribute [local irreducible] GW GL GO YG GC GA aY ba
theorem Qe {f:Nat} (d:Nat) (p:RS) (t:T) (q:RS) (x:PX) (hp:p.ok) (hd:d+1+f<=1099511627776) (h:VH f d p=some (t,q)) :
  GF Tryz.prog 289 [.loc 0 0,.v (ii (d:Nat))] [bK p x] (qT t) [bK q x]:=by
 unfold VH at h;have C:=X0 f;have ht:=qW p 0 x hp aK;have hi:=jU p 1 [61] x hp aK
 have main:∀ kk,((tok p 0).kind==2)=kk->(kk=true->is p 1 [61]=false)->GF Tryz.prog 289 [.loc 0 0,.v (ii (d:Nat))] [bK p x] (qT t) [bK q x]:=by
  intro kk hk rf
  rw [if_neg (fun hh=>by
   have h1:kk=true:=by rw [<-hk];simpa using hh.1
   have h2:=rf h1
   rw [hh.2] at h2;cases h2)] at h
  cases he:iE f (.expr (d+1)) p with
  | none=>rw [he] at h;cases h
  | some r =>
   obtain ⟨e,q1⟩:=r;rw [he] at h;simp only at h;have qj:=((iX f).1 _ _ _ _ hp he).ok hp;have aaw:=qj.1;have aax:=qj.2;have hex:=C.expr (d+1) p e q1 x hp ah he;have Q5:=jU q1 0 [61] x qj aK
   have EV:e.n.kind=3->q1.code=0->∃ zw,q1.l[q1.i - 1]?=some zw/\ud q1=zw.s/\1<=q1.i:=by
    intro _ hc;have h1:=U7 f _ _ _ _ hp he hc (fun k d out h=>by cases h);have h2:=qj.1
    have ao:q1.i - 1 < q1.l.length:=by omega
    exact ⟨q1.l[q1.i - 1],by simp [ao],by unfold ud;simp [ao],by omega⟩
   by_cases hput:wB p q1 e
   ·rw [if_pos hput] at h;have kG:=hput;obtain ⟨s1,s2,s3,s4,s5,s6⟩:=kG;obtain ⟨zw,a1,a2,a3⟩:=EV s1 s2
    have lB:kk=true:=by rw [<-hk];simpa using s5
    subst lB;have zg:=rf rfl;rw [zg] at hi;rw [s6] at Q5
    match C9:e.kids,hv:iE f (.expr (d+1)) (want q1 [61]),h with
    | a::rk,some (v,q2),h =>
     cases h;have lR:=(cn qj [61]).ok qj;have Ii:=((iX f).1 _ _ _ _ lR hv).ok lR;have hw:=eO q1 [61] x qj;have Y2:=C.expr (d+1) _ v q2 x lR ah hv;have oJ:=eO q2 [59] x Ii;have hr:=ku a1;have dd:(kl e.kids)[0]?=some [qT a]:=Bp (by rw [C9];rfl);have MT:(kl (a::rk))[0]?=some [qT a]:=Bp rfl
     have b1:(e.n.kind==3)=true:=by simpa using s1
     have b2:(q1.code==0)=true:=by simpa using s2
     have b3:(zw.s==[93])=true:=by rw [<-a2];simpa using s3
     have b4:(e.n.at_==(tok p 0).at_)=true:=by simpa using s4
     have il:=ew 8 (tok p 0).at_ e.n.s [a,v] [[qT a],[qT v]] (gm _);generalize tok p 0=tk at *;refine aj Tryz.func289 Tryz.ntmps289 ?_;refine ab [0] ht ?_;refine ab [0] hi ?_;refine ab [0] hex ?_;refine aJ (aC 0 45 (.a 45 (.q 46 .nil))) ?_;refine au ?_;refine bC [0] Q5 ?_;refine ae ?_;refine bS ?_;refine ae ?_;refine ab [0] hw ?_;refine ab [0] Y2 ?_;refine bS ?_;refine ae ?_;refine ab [0] oJ ?_;refine aJ (aC 0 14 (.a 14 (.a 15 (.q 16 .nil)))) ?_;refine au ?_;refine ey ?_;refine au ?_;refine aE [] il ?_;exact aw
    | [],_,h=>simp at h
    | _::_,none,h=>simp at h
   ·rw [if_neg hput] at h;cases h;have hw:=eO q1 [59] x qj;have il:=ew 12 (tok p 0).at_ [] [e] [[qT e]] (gm _)
    cases kk with
    | true =>
     have zg:=rf rfl;rw [zg] at hi;refine aj Tryz.func289 Tryz.ntmps289 ?_;refine ab [0] ht ?_;refine ab [0] hi ?_;refine ab [0] hex ?_;refine GW.join (fun fr Γ=>fr=[.loc 0 0,.v (ii (d:Nat)),.U,.U,.U,.loc 1 0,.U,.U,qT e,.U,.U,.U,.U,.U,.U,.U,.U,.U,.U,.U,.U,.U,.U,.U,.U,.U,.U,.U,.U,.U,.U,.U,.U,.U,.U,.U,.U,.U,.U,.U,.U,.U,.U,.U,.U,.U,.U,.U,.U,.U,.U,.U,.U,.U,.U,.U,.U,.U,.U,.U,.U,.U,.U,.U,.U,.U,.U,.U,.U,.U,.U,.U,.U,.U,.U,.U,.U,.U,.U,.U,.U,.U,.U,.U,.U,.U,.U,.v (.bool false),.U,.U,.U,.U,.U,.U,.U,.U,.U,.U,.U,.U,.U,.U,.U,.U,.U,.U,.U,.U,.U,.U,.U,.U,.U,.U,.U,.U,.U,.U,.U,.U,.U,.U]/\Γ=[bK q1 x,.box 203 (c7 (tok p 0))]) ?_ ?_
     ·by_cases s1:e.n.kind=3
      ·have b1:(e.n.kind==3)=true:=by simpa using s1
       by_cases s2:q1.code=0
       ·have b2:(q1.code==0)=true:=by simpa using s2
        obtain ⟨zw,a1,a2,a3⟩:=EV s1 s2;have hr:=ku a1
        by_cases s3:ud q1=[93]
        ·have b3:(zw.s==[93])=true:=by rw [<-a2];simpa using s3
         by_cases s4:e.n.at_=(tok p 0).at_
         ·have b4:(e.n.at_==(tok p 0).at_)=true:=by simpa using s4
          have s6:is q1 0 [61]=false:=by
           cases h6:is q1 0 [61] with
           | false=>rfl
           | true=>exact absurd ⟨s1,s2,s3,s4,by simpa using hk,h6⟩ hput
          rw [s6] at Q5;generalize tok p 0=tk at *;refine aJ (aC 0 45 (.a 45 (.q 46 .nil))) ?_;refine au ?_;refine bC [0] Q5 ?_;exact ij
         ·have b4:(e.n.at_==(tok p 0).at_)=false:=by simpa using s4
          generalize tok p 0=tk at *;refine aJ (aC 0 45 (.a 45 (.q 46 .nil))) ?_;refine bg ?_;exact jq
        ·have b3:(zw.s==[93])=false:=by rw [<-a2];simpa using s3
         generalize tok p 0=tk at *;refine aJ (aC 0 45 (.a 45 (.q 46 .nil))) ?_;refine bg ?_;exact jq
       ·have b2:(q1.code==0)=false:=by simpa using s2
        generalize tok p 0=tk at *;refine aJ (aC 0 45 (.a 45 (.q 46 .nil))) ?_;refine bg ?_;exact jq
      ·have b1:(e.n.kind==3)=false:=by simpa using s1
       generalize tok p 0=tk at *;refine aJ (aC 0 45 (.a 45 (.q 46 .nil))) ?_;refine bg ?_;exact jq
     ·rintro _ _ ⟨rfl,rfl⟩;generalize tok p 0=tk at *;refine ae ?_;refine bS ?_;refine ae ?_;refine ab [0] hw ?_;refine bS ?_;refine ae ?_;refine ab [] il ?_;exact al
    | false =>
     refine aj Tryz.func289 Tryz.ntmps289 ?_;refine ab [0] ht ?_;refine ab [0] hex ?_;refine GW.join (fun fr Γ=>fr=[.loc 0 0,.v (ii (d:Nat)),.U,.U,.U,.loc 1 0,.U,.U,qT e,.U,.U,.U,.U,.U,.U,.U,.U,.U,.U,.U,.U,.U,.U,.U,.U,.U,.U,.U,.U,.U,.U,.U,.U,.U,.U,.U,.U,.U,.U,.U,.U,.U,.U,.U,.U,.U,.U,.U,.U,.U,.U,.U,.U,.U,.U,.U,.U,.U,.U,.U,.U,.U,.U,.U,.U,.U,.U,.U,.U,.U,.U,.U,.U,.U,.U,.U,.U,.U,.U,.U,.U,.U,.U,.U,.U,.U,.U,.v (.bool false),.U,.U,.U,.U,.U,.U,.U,.U,.U,.U,.U,.U,.U,.U,.U,.U,.U,.U,.U,.U,.U,.U,.U,.U,.U,.U,.U,.U,.U,.U,.U,.U,.U,.U]/\Γ=[bK q1 x,.box 203 (c7 (tok p 0))]) ?_ ?_
     ·by_cases s1:e.n.kind=3
      ·have b1:(e.n.kind==3)=true:=by simpa using s1
       by_cases s2:q1.code=0
       ·have b2:(q1.code==0)=true:=by simpa using s2
        obtain ⟨zw,a1,a2,a3⟩:=EV s1 s2;have hr:=ku a1
        by_cases s3:ud q1=[93]
        ·have b3:(zw.s==[93])=true:=by rw [<-a2];simpa using s3
         by_cases s4:e.n.at_=(tok p 0).at_
         ·have b4:(e.n.at_==(tok p 0).at_)=true:=by simpa using s4
          generalize tok p 0=tk at *;refine aJ (aC 0 45 (.a 45 (.q 46 .nil))) ?_;refine bg ?_;exact jq
         ·have b4:(e.n.at_==(tok p 0).at_)=false:=by simpa using s4
          generalize tok p 0=tk at *;refine aJ (aC 0 45 (.a 45 (.q 46 .nil))) ?_;refine bg ?_;exact jq
        ·have b3:(zw.s==[93])=false:=by rw [<-a2];simpa using s3
         generalize tok p 0=tk at *;refine aJ (aC 0 45 (.a 45 (.q 46 .nil))) ?_;refine bg ?_;exact jq
       ·have b2:(q1.code==0)=false:=by simpa using s2
        generalize tok p 0=tk at *;refine aJ (aC 0 45 (.a 45 (.q 46 .nil))) ?_;refine bg ?_;exact jq
      ·have b1:(e.n.kind==3)=false:=by simpa using s1
       generalize tok p 0=tk at *;refine aJ (aC 0 45 (.a 45 (.q 46 .nil))) ?_;refine bg ?_;exact jq
     ·rintro _ _ ⟨rfl,rfl⟩;generalize tok p 0=tk at *;refine ae ?_;refine bS ?_;refine ae ?_;refine ab [0] hw ?_;refine bS ?_;refine ae ?_;refine ab [] il ?_;exact al
 by_cases hk:(tok p 0).kind=2
 ·cases zg:is p 1 [61] with
  | true =>
   clear main;rw [if_pos ⟨hk,zg⟩] at h;rw [zg] at hi
   have lz:((tok p 0).kind==2)=true:=by simpa using hk
   have hn:=qA p x hp;have dc:=(gL hp).ok hp;have hw:=eO (br p) [61] x dc;have lR:=(cn dc [61]).ok dc
   cases he:iE f (.expr (d+1)) (want (br p) [61]) with
   | none=>rw [he] at h;cases h
   | some r =>
    obtain ⟨e,q1⟩:=r;rw [he] at h;cases h;have qj:=((iX f).1 _ _ _ _ lR he).ok lR;have hex:=C.expr (d+1) _ e q1 x lR ah he;have oJ:=eO q1 [59] x qj;have il:=ew 7 (tok p 0).at_ (tok p 0).s [e] [[qT e]] (gm _);generalize tok p 0=tk at *;refine aj Tryz.func289 Tryz.ntmps289 ?_;refine ab [0] ht ?_;refine ab [0] hi ?_;refine ab [0] hn ?_;refine bS ?_;refine ae ?_;refine ab [0] hw ?_;refine ab [0] hex ?_;refine bS ?_;refine ae ?_;refine ab [0] oJ ?_;refine bS ?_;refine ae ?_;refine ab [] il ?_;exact al
  | false=>exact main true (by simpa using hk) (fun _=>zg)
 ·exact main false (by simpa using hk) (fun h=>by cases h)
end Go.Xg
namespace Go.Xg
open Go.RowKit Go.Xw Go.Proofs
open Go.Xp (Tok Nd T bo one levels gw dL ei du db ow qo)
open Go.Sp Go.Im
attribute [local irreducible] GW GL GO YG GC GA aY ba
theorem NA (k a:Int) (s:ai):GF Tryz.prog 271 [.v (ii k),.v (ii a),.v (sv s),.v (.slice none 0 0)] [] (.loc 0 0) [.box 190 [.v (ii k),.v (ii a),.v (ii 0),.v (sv s),.v (.slice none 0 0),.v (.slice none 0 0)]]:=by
 refine aj Tryz.func271 Tryz.ntmps271 ?_;refine GW.wk (Wk.cells 0 rfl (ds:=[.v (ii k),.v (ii a),.v (ii 0),.v (sv s),.v (.slice none 0 0),.v (.slice none 0 0)]) jg) ?_;refine GW.ret ?_;refine rG (n:=1) rfl cy rfl (Nat.zero_le _) rfl rfl ?_;exact ⟨rfl,rfl⟩
structure QD (f:Nat):Prop where
 block:∀ d p t q x,p.ok->d+3+f<=1099511627776->iS f (.block d) p=some (t,q)->GF Tryz.prog 244 [.loc 0 0,.v (ii (d:Nat))] [bK p x] (qT t) [bK q x]
 stmt:∀ d p t q x,p.ok->d+3+f<=1099511627776->iS f (.stmt d) p=some (t,q)->GF Tryz.prog 273 [.loc 0 0,.v (ii (d:Nat))] [bK p x] (qT t) [bK q x]
theorem R0 {f:Nat} (C:∀ f',f'<=f->QD f') (d:Nat) (p:RS) (t:T) (q:RS) (x:PX) (hp:p.ok) (hd:d+3+(f+1)<=1099511627776) (h:iS (f+1) (.block d) p=some (t,q)) :
  GF Tryz.prog 244 [.loc 0 0,.v (ii (d:Nat))] [bK p x] (qT t) [bK q x]:=by
 rw [iS] at h;have dG:=vS p d x hp;have ht:=qW p 0 x hp aK;have Da:=NA 14 (tok p 0).at_ []
 by_cases hc:(bL p d).code=0
 case neg =>
  have dq:((bL p d).code==0)=false:=by simpa using hc
  rw [if_neg hc] at h;rw [dq] at dG;cases h;generalize tok p 0=tk at *;refine aj Tryz.func244 Tryz.ntmps244 ?_;refine ab [0] ht ?_;refine ab [] Da ?_;refine ab [0] dG ?_;refine GW.wk (Wk.cells 1 rfl (ds:=[.v (ii 14),.v (ii tk.at_),.v (ii 0),.v (sv []),.v (.slice none 0 0),.sl 1 []]) jg) ?_;refine GW.wk (Wk.freeze (i:=1) rfl rfl rfl (Nat.le_of_ble_eq_true rfl)) ?_;exact al
 case pos =>
 have dq:((bL p d).code==0)=true:=by simpa using hc
 rw [if_pos hc] at h;rw [dq,oz hc] at dG;clear hc dq;have lR:=(cn hp [123]).ok hp;have hw:=eO p [123] x hp
 cases he:iB f (d+1) [] (want p [123]) with
 | none=>rw [he] at h;cases h
 | some r =>
  obtain ⟨l,q1⟩:=r;rw [he] at h;cases h;generalize tok p 0=tk at *;refine aj Tryz.func244 Tryz.ntmps244 ?_;refine ab [0] ht ?_;refine ab [] Da ?_;refine ab [0] dG ?_;refine bS ?_;refine ae ?_;refine ab [0] hw ?_;refine GW.wk (Wk.Kp (i:=1) (o:=5) 152 1 rfl rfl) ?_;refine GW.loop (fun z:Nat × List T × RS=>z.1) (fun z fr Γ=>∃ n rows,fr=[.loc 0 0,.v (ii (d:Nat)),.U,.U,.U,.loc 1 0,.U,.U,.U,.U,.U,.U,.U,.U,.U,.U,.U,.U,.U,.U,.U,.U,.U,.U,.U,.U,.U,.U,.U,.U,.U,.U,.U,.U,.U,.U,.U,.U,.U,.U,.U,.U,.U,.U,.U]/\Γ=[bK z.2.2 x,.box 190 [.v (ii 14),.v (ii tk.at_),.v (ii 0),.v (sv []),.v (.slice none 0 0),.vec 2 n],.vec 152 1 0 rows]/\rows.length=n/\rows=kl z.2.1/\n+z.1<=f/\z.2.2.ok/\iB z.1 (d+1) z.2.1 z.2.2=some (l,q1)) (f,[],want p [123]) ?_ ?_
  ·exact ⟨_,_,Wk.aD ar,0,[],rfl,rfl,rfl,rfl,by simp,lR,he⟩
  ·clear he lR hw dG ht;rintro ⟨g,acc,p⟩ _ _ ⟨n,rows,rfl,rfl,hn,bz,zi,hp,h⟩;simp only at bz zi hp h
   cases g with
   | zero=>simp [iB] at h
   | succ g =>
   rw [iB] at h;have hi:=jU p 0 [125] x hp aK
   by_cases hc:p.code=0
   ·have dq:(p.code==0)=true:=by simpa using hc
    cases hs:is p 0 [125] with
    | true =>
     rw [hs] at hi;rw [if_neg (fun hh=>by have:=hh.2;rw [hs] at this;cases this)] at h
     obtain ⟨rfl,rfl⟩:acc=l/\p=q1:=by simpa using h
     have hw:=eO p [125] x hp;subst bz;refine ae ?_;refine ab [0] hi ?_;refine jd ?_;refine ae ?_;refine bS ?_;refine ae ?_;refine ab [0] hw ?_;refine GW.wk (Wk.yL (i:=1) (o:=5) rfl rfl rfl rfl hn) ?_;refine GW.wk (Wk.freeze (i:=1) rfl rfl rfl (Nat.le_of_ble_eq_true rfl)) ?_;exact al
    | false =>
     rw [hs] at hi;rw [if_pos ⟨hc,hs⟩] at h
     cases hb:iS g (.stmt (d+1)) p with
     | none=>rw [hb] at h;cases h
     | some r =>
      obtain ⟨a,p2⟩:=r;rw [hb] at h;simp only at h;have dH:=((D1 g).1 _ _ _ _ hp hb).ok hp;have b7:=(C g ah).stmt (d+1) p a p2 x hp ah hb;refine ae ?_;refine ab [0] hi ?_;refine aJ (aC 0 8 (.a 8 (.a 9 (.a 10 (.q 11 (.q 12 (.a 13 .nil))))))) ?_;refine au ?_;refine aE [0] b7 ?_;refine ey ?_;refine au ?_;refine CA ?_;refine bg ?_;exact ⟨(g,acc++[a],p2),⟨_,_,Wk.aD ar,_,_,rfl,rfl,by simp [hn],by rw [vn,bz];rfl,by show n+1+g<=f;omega,dH,h⟩,by simp⟩
   ·have dq:(p.code==0)=false:=by simpa using hc
    rw [if_neg (fun hh=>hc hh.1)] at h
    obtain ⟨rfl,rfl⟩:acc=l/\p=q1:=by simpa using h
    have hw:=eO p [125] x hp;subst bz;refine bH ?_;refine ae ?_;refine bS ?_;refine ae ?_;refine ab [0] hw ?_;refine GW.wk (Wk.yL (i:=1) (o:=5) rfl rfl rfl rfl hn) ?_;refine GW.wk (Wk.freeze (i:=1) rfl rfl rfl (Nat.le_of_ble_eq_true rfl)) ?_;exact al
theorem VM {f:Nat} (C:QD f) (d:Nat) (p:RS) (t:T) (q:RS) (x:PX) (hp:p.ok) (hd:d+3+(f+1)<=1099511627776) (h:iS (f+1) (.stmt d) p=some (t,q)) :
  GF Tryz.prog 273 [.loc 0 0,.v (ii (d:Nat))] [bK p x] (qT t) [bK q x]:=by
 rw [iS] at h;have E:=X0 f;have dG:=vS p d x hp;have ht:=qW p 0 x hp aK
 by_cases hc:(bL p d).code=0
 case neg =>
  have dq:((bL p d).code==0)=false:=by simpa using hc
  rw [if_neg hc] at h;rw [dq] at dG;cases h;refine aj Tryz.func273 Tryz.ntmps273 ?_;refine ab [0] ht ?_;refine ab [0] dG ?_;refine ab [] GB ?_;exact al
 case pos =>
 have dq:((bL p d).code==0)=true:=by simpa using hc
 rw [if_pos hc] at h;rw [dq,oz hc] at dG;clear hc dq;have cW:=hp.2;have Dc:=hp.1;have h1:=jU p 0 gw x hp aK;have h2:=jU p 0 dL x hp aK;have h3:=jU p 0 du x hp aK;have h4:=jU p 0 db x hp aK
 cases gz:is p 0 gw with
 | true =>
  rw [gz] at h1;rw [if_pos gz] at h;have ao:p.i < p.l.length:=is_lt (k:=0) gz;have dc:=(dw ao).ok hp
  have hn:=qA p.next x dc
  have xL:=(gL dc).ok dc;have hw:=eO _ [61] x xL;have lR:=(cn xL [61]).ok xL
  cases he:iE f (.expr (d+1)) (want (br p.next) [61]) with
  | none=>rw [he] at h;cases h
  | some r =>
   obtain ⟨e,q1⟩:=r;rw [he] at h;cases h;have qj:=((iX f).1 _ _ _ _ lR he).ok lR;have hex:=E.expr (d+1) _ e q1 x lR ah he;have oJ:=eO q1 [59] x qj;have il:=ew 13 (tok p 0).at_ (tok p.next 0).s [e] [[qT e]] (gm _);generalize tok p 0=tk at *
   generalize tok p.next 0=tn at *
   refine aj Tryz.func273 Tryz.ntmps273 ?_;refine ab [0] ht ?_;refine ab [0] dG ?_;refine ab [0] h1 ?_;refine ab [0] hn ?_;refine bS ?_;refine ae ?_;refine ab [0] hw ?_;refine ab [0] hex ?_;refine bS ?_;refine ae ?_;refine ab [0] oJ ?_;refine bS ?_;refine ae ?_;refine ab [] il ?_;exact al
 | false =>
 rw [gz] at h1;rw [if_neg (by rw [gz];decide)] at h
 have main:∀ bi bw:Bool,is p 0 dL=bi->is p 0 du=bw->(bi=true\/bw=true)->GF Tryz.prog 273 [.loc 0 0,.v (ii (d:Nat))] [bK p x] (qT t) [bK q x]:=by
  intro bi bw u5 XE va
  have nf:is p 0 dL=true\/is p 0 du=true:=by rw [u5,XE];exact va
  have ao:p.i < p.l.length:=by rcases nf with hh | hh <;> exact is_lt (k:=0) hh
  rw [if_pos nf] at h;have dc:=(dw ao).ok hp
  have hw:=eO p.next [40] x dc
  have lR:=(cn dc [40]).ok dc
  cases he:iE f (.expr (d+1)) (want p.next [40]) with
  | none=>rw [he] at h;cases h
  | some r =>
  obtain ⟨c,q1⟩:=r;rw [he] at h;simp only at h;have qj:=((iX f).1 _ _ _ _ lR he).ok lR;have hex:=E.expr (d+1) _ c q1 x lR ah he;have oJ:=eO q1 [41] x qj;have UN:=(cn qj [41]).ok qj
  cases hb:iS f (.block (d+1)) (want q1 [41]) with
  | none=>rw [hb] at h;cases h
  | some r =>
  obtain ⟨b,q2⟩:=r;rw [hb] at h;simp only at h;have Ii:=((D1 f).1 _ _ _ _ UN hb).ok UN;have aaz:=Ii.2;have aay:=Ii.1;have dA:=C.block (d+1) _ b q2 x UN ah hb;have eW:=jU q2 0 ei x Ii aK;rw [u5] at h2;rw [XE] at h3
  cases bi with
  | true =>
   have JZ:∀ (cc ee:Bool),(q2.code==0)=cc->is q2 0 ei=ee->(cc=false\/ee=false)->GF Tryz.prog 273 [.loc 0 0,.v (ii (d:Nat))] [bK p x] (qT t) [bK q x]:=by
    intro cc ee sO wV UK
    rw [if_neg (fun hh=>by
     rcases UK with h0 | h0
     ·rw [h0] at sO;have:=hh.2.1;simp [this] at sO
     ·rw [h0] at wV;rw [wV] at hh;exact absurd hh.2.2 aK),if_pos u5] at h
    cases h;rw [wV] at eW;have il:=ew 9 (tok p 0).at_ [] [c,b] [[qT c],[qT b]] (gm _);generalize tok p 0=tk at *
    cases cc with
    | true =>
     cases ee with
     | true=>simp at UK
     | false =>
      refine aj Tryz.func273 Tryz.ntmps273 ?_;refine ab [0] ht ?_;refine ab [0] dG ?_;refine ab [0] h1 ?_;refine ab [0] h2 ?_;refine ab [0] h2 ?_;refine bS ?_;refine ae ?_;refine ab [0] hw ?_;refine ab [0] hex ?_;refine mI ?_;refine ae ?_;refine bS ?_;refine ae ?_;refine ab [0] oJ ?_;refine ab [0] dA ?_;refine eR ?_;refine ae ?_;refine ab [0] eW ?_;refine GL.wk (Wk.jy (t:=108) rfl rfl rfl rfl) ?_;refine bT ?_;refine ab [] il ?_;exact al
    | false =>
     refine aj Tryz.func273 Tryz.ntmps273 ?_;refine ab [0] ht ?_;refine ab [0] dG ?_;refine ab [0] h1 ?_;refine ab [0] h2 ?_;refine ab [0] h2 ?_;refine bS ?_;refine ae ?_;refine ab [0] hw ?_;refine ab [0] hex ?_;refine mI ?_;refine ae ?_;refine bS ?_;refine ae ?_;refine ab [0] oJ ?_;refine ab [0] dA ?_;refine eR ?_;refine ae ?_;refine GL.wk (Wk.jy (t:=108) rfl rfl rfl rfl) ?_;refine bT ?_;refine ab [] il ?_;exact al
   by_cases jP:q2.code=0
   ·cases wV:is q2 0 ei with
    | true =>
     clear JZ;rw [if_pos ⟨u5,jP,wV⟩] at h;rw [wV] at eW
     have sO:(q2.code==0)=true:=by simpa using jP
     have mR:q2.i < q2.l.length:=is_lt (k:=0) wV;have hqn:=(dw mR).ok Ii
     cases eL:iS f (.block (d+1)) q2.next with
     | none=>rw [eL] at h;cases h
     | some r =>
      obtain ⟨b2,q3⟩:=r;rw [eL] at h;cases h;have Ws:=C.block (d+1) _ b2 _ x hqn ah eL;have il:=ew 9 (tok p 0).at_ [] [c,b,b2] [[qT c],[qT b],[qT b2]] (gm _);generalize tok p 0=tk at *;refine aj Tryz.func273 Tryz.ntmps273 ?_;refine ab [0] ht ?_;refine ab [0] dG ?_;refine ab [0] h1 ?_;refine ab [0] h2 ?_;refine ab [0] h2 ?_;refine bS ?_;refine ae ?_;refine ab [0] hw ?_;refine ab [0] hex ?_;refine mI ?_;refine ae ?_;refine bS ?_;refine ae ?_;refine ab [0] oJ ?_;refine ab [0] dA ?_;refine eR ?_;refine ae ?_;refine ab [0] eW ?_;refine ab [0] Ws ?_;refine eR ?_;refine ae ?_;refine GL.wk (Wk.jy (t:=108) rfl rfl rfl rfl) ?_;refine bT ?_;refine ab [] il ?_;exact al
    | false=>exact JZ true false (by simpa using jP) wV (.inr rfl)
   ·exact JZ false _ (by simpa using jP) rfl (.inl rfl)
  | false =>
   have YX:bw=true:=by simpa using va
   subst YX;rw [if_neg (fun hh=>by have:=hh.1;rw [u5] at this;cases this),if_neg (by rw [u5];decide)] at h;cases h;have il:=ew 10 (tok p 0).at_ [] [c,b] [[qT c],[qT b]] (gm _);generalize tok p 0=tk at *;refine aj Tryz.func273 Tryz.ntmps273 ?_;refine ab [0] ht ?_;refine ab [0] dG ?_;refine ab [0] h1 ?_;refine ab [0] h2 ?_;refine ab [0] h3 ?_;refine ab [0] h2 ?_;refine bS ?_;refine ae ?_;refine ab [0] hw ?_;refine ab [0] hex ?_;refine mI ?_;refine ae ?_;refine bS ?_;refine ae ?_;refine ab [0] oJ ?_;refine ab [0] dA ?_;refine eR ?_;refine ae ?_;refine GL.wk (Wk.jy (t:=108) rfl rfl rfl rfl) ?_;refine bT ?_;refine ab [] il ?_;exact al
 cases jD:is p 0 dL with
 | true=>exact main true _ jD rfl (.inl rfl)
 | false =>
 cases rR:is p 0 du with
 | true=>exact main false true jD rR (.inr rfl)
 | false =>
 clear main;rw [jD] at h2;rw [rR] at h3;rw [if_neg (by rw [jD,rR];decide)] at h
 cases wX:is p 0 db with
 | true =>
  rw [wX] at h4;rw [if_pos wX] at h;have ao:p.i < p.l.length:=is_lt (k:=0) wX;have dc:=(dw ao).ok hp
  cases he:iE f (.expr (d+1)) p.next with
  | none=>rw [he] at h;cases h
  | some r =>
   obtain ⟨e,q1⟩:=r;rw [he] at h;cases h;have qj:=((iX f).1 _ _ _ _ dc he).ok dc;have hex:=E.expr (d+1) _ e q1 x dc ah he;have oJ:=eO q1 [59] x qj;have il:=ew 11 (tok p 0).at_ [] [e] [[qT e]] (gm _);generalize tok p 0=tk at *;refine aj Tryz.func273 Tryz.ntmps273 ?_;refine ab [0] ht ?_;refine ab [0] dG ?_;refine ab [0] h1 ?_;refine ab [0] h2 ?_;refine ab [0] h3 ?_;refine ab [0] h4 ?_;refine ab [0] hex ?_;refine bS ?_;refine ae ?_;refine ab [0] oJ ?_;refine bS ?_;refine ae ?_;refine ab [] il ?_;exact al
 | false =>
  rw [wX] at h4;rw [if_neg (by rw [wX];decide)] at h;have UU:=Qe (f:=f) d p t q x hp ah h;generalize tok p 0=tk at *;refine aj Tryz.func273 Tryz.ntmps273 ?_;refine ab [0] ht ?_;refine ab [0] dG ?_;refine ab [0] h1 ?_;refine ab [0] h2 ?_;refine ab [0] h3 ?_;refine ab [0] h4 ?_;refine ab [0] UU ?_;exact al
theorem X3 (f:Nat):QD f:=by
 induction f using Nat.strongRecOn with
 | _ f ih =>
  cases f with
  | zero=>exact ⟨fun d p t q x _ _ h=>by simp [iS] at h,fun d p t q x _ _ h=>by simp [iS] at h⟩
  | succ f =>
   have C:=ih f (Nat.lt_succ_self f)
   have Cs:∀ f',f'<=f->QD f':=fun f' h=>ih f' (Nat.lt_succ_of_le h)
   exact ⟨fun d p t q x hp hd h=>R0 Cs d p t q x hp hd h,fun d p t q x hp hd h=>VM C d p t q x hp hd h⟩
end Go.Xg
namespace Go.Xg
open Go.RowKit Go.Xw Go.Proofs
open Go.Xp (Tok Nd T aR aB lP eg bY)
attribute [local irreducible] GW GL GO YG GC GA aY ba
def rJ (n:Nd):List GV:=[.v (ii n.kind),.v (ii n.at_),.v (ii n.n),.v (sv n.s),ints n.kids]
def Cn (t:T) (x:Value):List GV:=[.v (ii t.n.kind),.v (ii t.n.at_),.v (ii t.n.n),.v (sv t.n.s),.v x]
theorem Me:∀ (N:Nat) (t:T),aR t<=N->∀ (n:Nat) (rows:List (List GV)) (a:Option Addr) (c:Nat),rows.length=n->n+aR t<=1099511627776 ->
  GC Tryz.prog 207 [.v (.slice a n c),qT t] [.vech 91 5 rows (.slice a n c)] fun g aL=>∃ a c,g=.v (.slice a (n+aR t) c)/\aL=[.vech 91 5 (rows++(lP n t).map rJ) (.slice a (n+aR t) c)]:=by
 intro N
 induction N with
 | zero=>intro t h;rw [Go.Xp.ej] at h;omega
 | succ N ih =>
 intro t hN n rows a c hn hb;subst hn;rw [Go.Xp.ej] at hb hN;have eX:=Go.Xp.bR t.kids;refine aj Tryz.func207 Tryz.ntmps207 ?_;refine GL.jx 0 rfl rfl rfl rfl rfl rfl rfl rfl bd mc ?_;intro a c;refine bT ?_;refine ae ?_;refine GW.wk (Wk.oq 3 1) ?_
 refine GW.range (kl t.kids).length (fun k fr Γ=>∃ a c a2 c2,fr=[.v (.slice a (rows.length+1+aB (t.kids.take k)) c),qT t,.U,.U,.U,.v (ii (rows.length:Nat)),.U,.U,.U,.U,.U,.U,.U,.U,.U,.U,.U,.U,.U,.U,.sl 1 (kl t.kids),.v (ii ((kl t.kids).length:Int)),.v (ii (k:Nat)),.U,.U,.U,.U,.U,.U,.U,.U,.U,.U,.U,.U,.U,.U,.U,.U,.U,.U,.U,.U,.U] /\
  Γ=[.vech 91 5 (rows++Cn t (.slice a2 k c2)::(eg (rows.length+1) (t.kids.take k)).map rJ) (.slice a (rows.length+1+aB (t.kids.take k)) c),.vech 3 1 ((bY (rows.length+1) (t.kids.take k)).map fun z=>[.v (ii z)]) (.slice a2 k c2)]) ?_ (by rw [mM];omega) ?_ ?_ ?_
 ·refine ⟨_,_,Wk.aD ar,a,c,none,0,rfl,?_⟩;rfl
 ·rintro k _ _ ⟨a,c,a2,c2,rfl,rfl⟩;exact dO
 ·rintro k _ _ ao ⟨a,c,a2,c2,rfl,rfl⟩;rw [mM] at ao;obtain ⟨kid,gZ⟩:∃ kid,t.kids[k]?=some kid:=⟨t.kids[k],by simp [ao]⟩;have hr:=Bp gZ;have cR:=Go.Xp.uG gZ;have hle:=Go.Xp.uF t.kids (k+1)
  have ki:t.kids.take (k+1)=t.kids.take k++[kid]:=by rw [take_add_one,gZ];rfl
  have hX:((eg (rows.length+1) (t.kids.take k)).map rJ).length=aB (t.kids.take k):=by rw [length_map,Go.Xp.yu]
  have C9:((bY (rows.length+1) (t.kids.take k)).map fun z=>[GV.v (ii z)]).length=k:=by rw [length_map,Go.Xp.dY,length_take];omega
  rw [ki,Go.Xp.J5,Go.Xp.HY,Go.Xp.mO];simp only [bY,eg,aB,append_nil,Nat.add_zero,map_append,List.map_cons,List.map_nil,<-Nat.add_assoc]
  have C7:=fun (rs:List (List GV)) a c h=>ih kid ah (rows.length+1+aB (t.kids.take k)) rs a c h ah
  generalize (eg (rows.length+1) (t.kids.take k)).map rJ=X at *;generalize ((bY (rows.length+1) (t.kids.take k)).map fun z=>[GV.v (ii z)])=ks at *;generalize aB (t.kids.take k)=s at *;subst C9
  have jC:∀ r:List GV,(rows++r::X).length=rows.length+1+s:=fun r=>by simp;omega
  have bz:(rows++Cn t (.slice a2 ks.length c2)::X)[rows.length]?=some (Cn t (.slice a2 ks.length c2)):=by simp
  have ff:=jC (Cn t (.slice a2 ks.length c2));unfold Cn at bz ff |-;refine ae ?_;refine GL.jx 1 rfl rfl rfl rfl rfl rfl rfl rfl bd mc ?_;intro a3 c3;refine bT ?_;refine ae ?_;refine oO ?_;rw [F3];simp only [bx];refine ae ?_;refine cv [0] (C7 _ _ _ (jC _)) ?_;rintro _ _ ⟨a4,c4,rfl,rfl⟩;refine c8 ?_;refine ae ?_;refine ⟨rfl,rfl,_,_,Wk.aD ar,a4,c4,a3,c3,rfl,?_⟩;rw [List.append_assoc];rfl
 ·rintro _ _ ⟨a,c,a2,c2,rfl,rfl⟩;rw [mM,take_length];rw [Go.Xp.ej,Go.Xp.Mc]
  have C9:((bY (rows.length+1) t.kids).map fun z=>[GV.v (ii z)]).length=t.kids.length:=by rw [length_map,Go.Xp.dY]
  have rf:ints (bY (rows.length+1) t.kids)=.sl 1 ((bY (rows.length+1) t.kids).map fun z=>[GV.v (ii z)]):=rfl;rw [List.map_cons];simp only [rJ,Cn];rw [rf,show rows.length+(aB t.kids+1)=rows.length+1+aB t.kids by omega];generalize (eg (rows.length+1) t.kids).map rJ=X at *;generalize ((bY (rows.length+1) t.kids).map fun z=>[GV.v (ii z)])=ks at *;generalize aB t.kids=s at *
  have bz:∀ r:List GV,(rows++r::X)[rows.length]?=some r:=fun r=>by simp
  refine be ?_;apply GW.wk
  ·apply Wk.KJ (i:=0) (idx:=rows.length) (o:=4) (j:=1)
   ·rfl
   ·exact bz _
   ·rfl
   ·rfl
   ·rfl
  rw [F3];simp only [bx];refine ae ?_;refine bU ?_;exact ⟨_,_,rfl,rfl⟩
end Go.Xg
namespace Go.Xg
open Go.RowKit Go.Xw Go.Proofs
open Go.Xp (Tok Nd T bo one levels gw dL ei du db lp mD ow Ar)
open Go.Sp Go.Im
attribute [local irreducible] GW GL GO YG GC GA aY ba
structure HW where
 aT:Option Addr
 cT:Nat
 aG:Option Addr
 cG:Nat
 aA:Option Addr
 cA:Nat
 aF:Option Addr
 cF:Nat
def qE (x:Ar):List GV:=[.v (sv x.name),.v (ii x.size)]
def pW (x:ai × List ai):List GV:=[.v (sv x.1),strs x.2,.v (ii 0)]
def lg (x:ai):List GV:=[.v (sv x)]
abbrev hx (st:PS) (h:HW):PX:=⟨.slice h.aT st.trees.length h.cT,.slice h.aG st.globals.length h.cG,.slice h.aA st.arrays.length h.cA,.slice h.aF st.fns.length h.cF,.slice none 0 0⟩
abbrev uz (p:RS) (st:PS) (h:HW):List Ob:=[bK p (hx st h),.vech 152 1 (kl st.trees) (.slice h.aT st.trees.length h.cT),.vech 9 1 (st.globals.map lg) (.slice h.aG st.globals.length h.cG),.vech 88 2 (st.arrays.map qE) (.slice h.aA st.arrays.length h.cA),.vech 60 3 (st.fns.map pW) (.slice h.aF st.fns.length h.cF)]
theorem wm {α β:Type} (g:α->β) (l:List α) (x:α):(l++[x]).map g=l.map g++[g x]:=by simp
theorem Oq {f:Nat} (p:RS) (st:PS) (h:HW) (q:RS) (dT:PS) (n:Nat) (hp:p.ok) (hn:st.le n) (hb:n+1<=1099511627776) (hs:is p 0 lp=true) (hw:iW f p st=some (q,dT)) :
  GC Tryz.prog 206 [.loc 0 0] (uz p st h) (fun g aL=>g=.tup []/\∃ h',aL=uz q dT h'):=by
 obtain ⟨Dc,cW⟩:=id hp;obtain ⟨Fe,bP,hn3,hn4⟩:=hn;unfold iW at hw;rw [if_pos hs] at hw;have hi:=jU p 0 lp (hx st h) hp aK;rw [hs] at hi;have lC:=(jz hs).ok hp
 have eN:=qA p.next (hx st h) lC
 have dH:=(gL lC).ok lC;generalize (tok p.next 0).s=s at *
 generalize br p.next=p2 at *
 have rM:=jU p2 0 [91] (hx st h) dH aK
 have aaa:¬ (p2.code=0/\is p2 0 [91]=true)->True:=fun _=>trivial
 cases hc:(p2.code==0) with
 | false =>
  have dq:¬ p2.code=0:=by simpa using hc
  rw [if_neg (fun hh=>dq hh.1)] at hw;cases hw
  have xD:(st.globals.map lg).length+1=(st.globals++[s]).length:=by simp
  have pg:st.globals.map lg++[[GV.v (sv s)]]=(st.globals++[s]).map lg:=by simp [lg]
  have hlen:(st.globals.map lg).length+1<=1099511627776:=by simp;omega
  refine aj Tryz.func206 Tryz.ntmps206 ?_;refine ab [0] hi ?_;refine ab [0] eN ?_;refine GL.jx 2 rfl rfl rfl rfl rfl rfl rfl rfl bd mc ?_;intro a c;refine bT ?_;rw [xD,pg];refine ae ?_;refine bS ?_;refine ae ?_;refine ab [0] (eO p2 [59] (hx { st with globals:=st.globals++[s] } { h with aG:=a,cG:=c }) dH) ?_;refine cU ?_;exact ⟨rfl,{ h with aG:=a,cG:=c },rfl⟩
 | true =>
  have dq:p2.code=0:=by simpa using hc
  cases eL:is p2 0 [91] with
  | false =>
   rw [eL] at rM;rw [if_neg (fun hh=>by have:=hh.2;rw [eL] at this;cases this)] at hw;cases hw
   have xD:(st.globals.map lg).length+1=(st.globals++[s]).length:=by simp
   have pg:st.globals.map lg++[[GV.v (sv s)]]=(st.globals++[s]).map lg:=by simp [lg]
   have hlen:(st.globals.map lg).length+1<=1099511627776:=by simp;omega
   refine aj Tryz.func206 Tryz.ntmps206 ?_;refine ab [0] hi ?_;refine ab [0] eN ?_;refine ab [0] rM ?_;refine GL.jx 2 rfl rfl rfl rfl rfl rfl rfl rfl bd mc ?_;intro a c;refine bT ?_;rw [xD,pg];refine ae ?_;refine bS ?_;refine ae ?_;refine ab [0] (eO p2 [59] (hx { st with globals:=st.globals++[s] } { h with aG:=a,cG:=c }) dH) ?_;refine cU ?_;exact ⟨rfl,{ h with aG:=a,cG:=c },rfl⟩
  | true =>
   rw [eL] at rM;rw [if_pos ⟨dq,eL⟩] at hw;have zk:=(jz eL).ok dH;have aas:=dH.1;have UL:=dH.2;have aat:=zk.1;have aau:=zk.2
   have ht:=qW p2.next 0 (hx st h) zk aK
   have Ft:=yP p2.next (hx st h) zk
   have EV:(tok p2.next 0).kind=1->p2.next.next.ok:=fun hk=>(dw (ry (p:=p2.next) (k:=0) (by rw [hk];decide))).ok zk
   generalize tok p2.next 0=tk at *
   by_cases hk:tk.kind=1
   ·rw [if_pos hk] at hw;cases hw
    have lz:(tk.kind != 1)=false:=by simpa using hk
    have Rb:=EV hk;have aav:=Rb.1
    have Fq:=eO p2.next.next [93] (hx st h) Rb
    have hp5:=(cn Rb [93]).ok Rb
    generalize want p2.next.next [93]=p5 at *
    have xD:(st.arrays.map qE).length+1=(st.arrays++[(⟨s,tk.n⟩:Ar)]).length:=by simp
    have pg:st.arrays.map qE++[[GV.v (sv s),.v (ii tk.n)]]=(st.arrays++[(⟨s,tk.n⟩:Ar)]).map qE:=by simp [qE]
    have hlen:(st.arrays.map qE).length+1<=1099511627776:=by simp;omega
    refine aj Tryz.func206 Tryz.ntmps206 ?_;refine ab [0] hi ?_;refine ab [0] eN ?_;refine ab [0] rM ?_;refine ab [0] ht ?_;refine bS ?_;refine ae ?_;refine ab [0] Fq ?_;refine aJ (aC 0 10 (.a 10 (.a 11 (aC 12 3 (.a 15 .nil))))) ?_;refine au ?_;refine ey ?_;refine au ?_;refine OA rfl rfl (GL.pD 3 rfl rfl rfl bd rfl rfl (by refine ⟨?_,?_⟩;(· show _+1<=_;omega);(· show (_+1) * _<=_;omega)) ?_);intro a c;refine dj ?_;generalize hX:chunk 1 2 _=X
    obtain rfl:X=[qE ⟨s,tk.n⟩]:=by rw [<-hX];rfl
    clear hX
    try (generalize hX:chunk 1 2 _=X;obtain rfl:X=[qE ⟨s,tk.n⟩]:=by rw [<-hX];rfl)
    rw [show (st.arrays.map qE).length+[qE ⟨s,tk.n⟩].length=(st.arrays++[(⟨s,tk.n⟩:Ar)]).length by simp,<-wm qE st.arrays ⟨s,tk.n⟩];refine bg ?_;refine bS ?_;refine ae ?_;refine ab [0] (eO p5 [59] (hx { st with arrays:=st.arrays++[⟨s,tk.n⟩] } { h with aA:=a,cA:=c }) hp5) ?_;refine cU ?_;exact ⟨rfl,{ h with aA:=a,cA:=c },rfl⟩
   ·rw [if_neg hk] at hw;cases hw
    have lz:(tk.kind != 1)=true:=by simpa using hk
    refine aj Tryz.func206 Tryz.ntmps206 ?_;refine ab [0] hi ?_;refine ab [0] eN ?_;refine ab [0] rM ?_;refine ab [0] ht ?_;refine ab [0] Ft ?_;refine cU ?_;exact ⟨rfl,h,rfl⟩
theorem K7 {f:Nat} (p:RS) (st:PS) (h:HW) (q:RS) (dT:PS) (hp:p.ok) (hs:is p 0 lp=false) (jD:is p 0 mD=false) (hw:iW f p st=some (q,dT)) :
  GC Tryz.prog 206 [.loc 0 0] (uz p st h) (fun g aL=>g=.tup []/\∃ h',aL=uz q dT h'):=by
 unfold iW at hw;rw [if_neg (by rw [hs];decide),if_neg (by rw [jD];decide)] at hw;cases hw;have hi:=jU p 0 lp (hx st h) hp aK;have rM:=jU p 0 mD (hx st h) hp aK;have Ft:=yP p (hx st h) hp;rw [hs] at hi;rw [jD] at rM;refine aj Tryz.func206 Tryz.ntmps206 ?_;refine ab [0] hi ?_;refine ab [0] rM ?_;refine ab [0] Ft ?_;refine cU ?_;exact ⟨rfl,h,rfl⟩
abbrev Wf (p:RS) (st:PS) (h:HW) (s:ai) (acc:List ai) (a:Option Addr) (c:Nat):List Ob:=uz p st h++[.box 60 [.v (sv s),.v (.slice a acc.length c),.v (ii 0)],.vech 9 1 (acc.map lg) (.slice a acc.length c)]
theorem K8 {f:Nat} (p:RS) (st:PS) (h:HW) (q:RS) (dT:PS) (n:Nat) (hp:p.ok) (hn:st.le n) (hb:n+f+4<=1099511627776) (sV:is p 0 lp=false) (hs:is p 0 mD=true) (hw:iW f p st=some (q,dT)) :
  GC Tryz.prog 206 [.loc 0 0] (uz p st h) (fun g aL=>g=.tup []/\∃ h',aL=uz q dT h'):=by
 obtain ⟨Dc,cW⟩:=id hp;obtain ⟨Fe,bP,hn3,hn4⟩:=hn;unfold iW at hw;rw [if_neg (by rw [sV];decide),if_pos hs] at hw;have xE:=jU p 0 lp (hx st h) hp aK;rw [sV] at xE;have hi:=jU p 0 mD (hx st h) hp aK;rw [hs] at hi;have lC:=(jz hs).ok hp
 have eN:=qA p.next (hx st h) lC
 have dH:=(gL lC).ok lC;generalize (tok p.next 0).s=s at *
 generalize br p.next=p2 at *
 have oJ:=eO p2 [40] (hx st h) dH;have zk:=(cn dH [40]).ok dH;generalize want p2 [40]=p3 at *
 cases hm:oK f [] p3 with
 | none=>rw [hm] at hw;cases hw
 | some r =>
 obtain ⟨l,q1⟩:=r;rw [hm] at hw;simp only at hw;refine aj Tryz.func206 Tryz.ntmps206 ?_;refine ab [0] xE ?_;refine ab [0] hi ?_;refine ab [0] eN ?_;refine bS ?_;refine ae ?_;refine ab [0] oJ ?_;refine GW.wk (Wk.oq 9 1) ?_;refine GW.loop (fun z:Nat × List ai × RS=>z.1) (fun z fr Γ=>∃ a c,fr=[.loc 0 0,.U,.U,.U,.loc 5 0,.U,.U,.U,.U,.U,.U,.U,.U,.U,.U,.U,.U,.U,.U,.U,.U,.U,.U,.U,.U,.U,.U,.U,.U,.U,.U,.U,.U,.U,.U,.U,.U,.U,.U,.U,.U,.U,.U,.U,.U,.U,.U,.U,.U,.U,.U,.U,.U,.U,.U,.U,.U,.U,.U,.U,.U,.U,.U,.U,.U,.U,.U,.U,.U,.U,.U,.U,.U,.U,.U,.U,.U,.U,.U,.U,.U,.U,.U,.U,.U,.U,.U,.U,.U,.U,.U,.U,.U,.U,.U,.U,.U,.U,.U,.U,.U,.U,.U,.U,.U,.U,.U,.U,.U,.U,.U,.U,.U,.U,.U,.U,.U,.U,.U,.U,.U,.U,.U,.U,.U,.U,.U,.U,.U,.U,.U,.U,.U,.U,.U,.U,.U,.U,.U,.U,.U,.U,.U,.U,.U,.U,.U,.U,.U,.U,.U,.U,.U]/\Γ=Wf z.2.2 st h s z.2.1 a c/\z.2.2.ok/\z.2.1.length+z.1<=f/\oK z.1 z.2.1 z.2.2=some (l,q1)) (f,[],p3) ?_ ?_
 ·exact ⟨_,_,Wk.aD ar,none,0,rfl,rfl,zk,by simp,hm⟩
 clear hm zk oJ dH eN hi xE lC;rintro ⟨g,acc,p⟩ _ _ ⟨a,c,rfl,rfl,hp,zi,hm⟩;simp only at hp zi hm
 cases g with
 | zero=>cases hm
 | succ g =>
 rw [oK] at hm;have hi:=jU p 0 [41] (hx st h) hp aK
 by_cases hgo:p.code=0/\is p 0 [41]=false
 ·obtain ⟨hc,rR⟩:=id hgo;rw [if_pos hgo] at hm;rw [rR] at hi
  have dq:(p.code==0)=true:=by simpa using hc
  by_cases h0:acc.length=0
  ·obtain rfl:=List.eq_nil_of_length_eq_zero h0
   have hd:decide ((0:Int) < (([]:List ai).length:Int))=false:=by decide
   rw [if_pos (by rfl)] at hm;have eN:=qA p (hx st h) hp;have dH:=(gL hp).ok hp;generalize (tok p 0).s=s2 at *;refine ae ?_;refine ab [0] hi ?_;refine aJ (aC 0 3 (.a 3 (.a 4 (.a 5 (.q 6 (.a 7 .nil)))))) ?_;refine au ?_;refine aE [0] eN ?_;refine ey ?_;refine au ?_;refine OA rfl rfl (GL.pD 6 (news:=[lg s2]) rfl rfl rfl bd rfl rfl (by refine ⟨?_,?_⟩;(· show _+1<=_;omega);(· show (_+1) * _<=_;omega)) ?_);intro a2 c2;refine dj ?_;refine bg ?_;exact ⟨(g,[s2],br p),⟨_,_,Wk.aD ar,a2,c2,rfl,rfl,dH,by simp at zi |-;omega,hm⟩,by simp⟩
  ·have hd:decide ((0:Int) < (acc.length:Int))=true:=by simpa using by omega
   rw [if_neg h0] at hm;have hwc:=eO p [44] (hx st h) hp;have lR:=(cn hp [44]).ok hp;generalize want p [44]=pw at *;have eN:=qA pw (hx st h) lR;have dH:=(gL lR).ok lR;generalize (tok pw 0).s=s2 at *
   have hlen:(acc.map lg).length<=f:=by simp;omega
   refine ae ?_;refine ab [0] hi ?_;refine bS ?_;refine ae ?_;refine ab [0] hwc ?_;refine aJ (aC 0 3 (.a 3 (.a 4 (.a 5 (.q 6 (.a 7 .nil)))))) ?_;refine au ?_;refine aE [0] eN ?_;refine ey ?_;refine au ?_;refine OA rfl rfl (GL.pD 6 (news:=[lg s2]) rfl rfl rfl bd rfl rfl (by refine ⟨?_,?_⟩;(· show _+1<=_;omega);(· show (_+1) * _<=_;omega)) ?_);intro a2 c2;refine dj ?_
   try rw [show (acc.map lg).length+1=(acc++[s2]).length by simp]
   rw [show (acc.map lg).length+[lg s2].length=(acc++[s2]).length by simp,<-wm lg acc s2];refine bg ?_;exact ⟨(g,acc++[s2],br pw),⟨_,_,Wk.aD ar,a2,c2,rfl,rfl,dH,by simp;omega,hm⟩,by simp⟩
 ·rw [if_neg hgo] at hm
  obtain ⟨rfl,rfl⟩:acc=l/\want p [41]=q1:=by simpa using hm
  clear hm;have Ri:=eO p [41] (hx st h) hp;have XN:=(cn hp [41]).ok hp
  have ff:(kl st.trees).length+1<=1099511627776:=by rw [mM];omega
  have jC:(st.fns.map pW).length+1<=1099511627776:=by simp;omega
  by_cases hc:p.code=0
  ·have dq:(p.code==0)=true:=by simpa using hc
   have rR:is p 0 [41]=true:=by
    cases h3:is p 0 [41] with
    | true=>rfl
    | false=>exact absurd ⟨hc,h3⟩ hgo
   rw [rR] at hi
   by_cases hqc:(want p [41]).code=0
   ·have Pm:((want p [41]).code==0)=true:=by simpa using hqc
    rw [if_pos hqc] at hw
    cases eo:iS f (.block 1) (want p [41]) with
    | none=>rw [eo] at hw;cases hw
    | some r =>
    obtain ⟨t,qq⟩:=r;rw [eo] at hw
    obtain ⟨rfl,rfl⟩:qq=q/\_=dT:=by simpa using hw
    have dA:=(X3 f).block 1 _ t qq (hx st h) XN ah eo;clear eo hqc;generalize want p [41]=pq at *;refine ae ?_;refine ab [0] hi ?_;refine jd ?_;refine ae ?_;refine bS ?_;refine ae ?_;refine ab [0] Ri ?_;refine aJ (aC 0 6 (.a 6 (.a 7 (.a 8 (.q 9 (.q 10 (.a 11 .nil))))))) ?_;refine au ?_;refine aE [0] dA ?_;refine ey ?_;refine au ?_;refine OA rfl rfl (GL.pD 1 (news:=[[qT t]]) rfl rfl rfl bd rfl rfl (by refine ⟨?_,?_⟩;(· show _+1<=_;omega);(· show (_+1) * _<=_;omega)) ?_);intro a3 c3;refine dj ?_
    try rw [show (kl st.trees).length+1=(st.trees++[t]).length by simp [mM]]
    rw [show (kl st.trees).length+[[qT t]].length=(st.trees++[t]).length by simp [mM],<-vn st.trees t];refine bg ?_;apply GW.wk
    ·apply Wk.yJ (i:=5) (o:=1) (j:=6)
     ·rfl
     ·rfl
     ·rfl
     ·rfl
    simp only [oset,bx];refine aJ (aC 0 7 (.a 7 (.a 8 (aC 9 3 (.a 12 .nil))))) ?_;refine au ?_;refine ey ?_;refine au ?_;refine OA rfl rfl (GL.pD 4 (news:=[pW (s,acc)]) rfl rfl rfl bd rfl rfl (by refine ⟨?_,?_⟩;(· show _+1<=_;omega);(· show (_+1) * _<=_;omega)) ?_);intro a4 c4;refine dj ?_
    try rw [show (st.fns.map pW).length+1=(st.fns++[(s,acc)]).length by simp]
    rw [show (st.fns.map pW).length+[pW (s,acc)].length=(st.fns++[(s,acc)]).length by simp,<-wm pW st.fns (s,acc)];refine bg ?_;refine cU ?_;exact ⟨rfl,{ h with aT:=a3,cT:=c3,aF:=a4,cF:=c4 },rfl⟩
   ·have Pm:((want p [41]).code==0)=false:=by simpa using hqc
    rw [if_neg hqc] at hw;cases hw;clear hqc;generalize want p [41]=pq at *;refine ae ?_;refine ab [0] hi ?_;refine jd ?_;refine ae ?_;refine bS ?_;refine ae ?_;refine ab [0] Ri ?_;refine cU ?_;exact ⟨rfl,h,rfl⟩
  ·have dq:(p.code==0)=false:=by simpa using hc
   by_cases hqc:(want p [41]).code=0
   ·have Pm:((want p [41]).code==0)=true:=by simpa using hqc
    rw [if_pos hqc] at hw
    cases eo:iS f (.block 1) (want p [41]) with
    | none=>rw [eo] at hw;cases hw
    | some r =>
    obtain ⟨t,qq⟩:=r;rw [eo] at hw
    obtain ⟨rfl,rfl⟩:qq=q/\_=dT:=by simpa using hw
    have dA:=(X3 f).block 1 _ t qq (hx st h) XN ah eo;clear eo hqc;generalize want p [41]=pq at *;refine bH ?_;refine ae ?_;refine bS ?_;refine ae ?_;refine ab [0] Ri ?_;refine aJ (aC 0 6 (.a 6 (.a 7 (.a 8 (.q 9 (.q 10 (.a 11 .nil))))))) ?_;refine au ?_;refine aE [0] dA ?_;refine ey ?_;refine au ?_;refine OA rfl rfl (GL.pD 1 (news:=[[qT t]]) rfl rfl rfl bd rfl rfl (by refine ⟨?_,?_⟩;(· show _+1<=_;omega);(· show (_+1) * _<=_;omega)) ?_);intro a3 c3;refine dj ?_
    try rw [show (kl st.trees).length+1=(st.trees++[t]).length by simp [mM]]
    rw [show (kl st.trees).length+[[qT t]].length=(st.trees++[t]).length by simp [mM],<-vn st.trees t];refine bg ?_;apply GW.wk
    ·apply Wk.yJ (i:=5) (o:=1) (j:=6)
     ·rfl
     ·rfl
     ·rfl
     ·rfl
    simp only [oset,bx];refine aJ (aC 0 7 (.a 7 (.a 8 (aC 9 3 (.a 12 .nil))))) ?_;refine au ?_;refine ey ?_;refine au ?_;refine OA rfl rfl (GL.pD 4 (news:=[pW (s,acc)]) rfl rfl rfl bd rfl rfl (by refine ⟨?_,?_⟩;(· show _+1<=_;omega);(· show (_+1) * _<=_;omega)) ?_);intro a4 c4;refine dj ?_
    try rw [show (st.fns.map pW).length+1=(st.fns++[(s,acc)]).length by simp]
    rw [show (st.fns.map pW).length+[pW (s,acc)].length=(st.fns++[(s,acc)]).length by simp,<-wm pW st.fns (s,acc)];refine bg ?_;refine cU ?_;exact ⟨rfl,{ h with aT:=a3,cT:=c3,aF:=a4,cF:=c4 },rfl⟩
   ·have Pm:((want p [41]).code==0)=false:=by simpa using hqc
    rw [if_neg hqc] at hw;cases hw;clear hqc;generalize want p [41]=pq at *;refine bH ?_;refine ae ?_;refine bS ?_;refine ae ?_;refine ab [0] Ri ?_;refine cU ?_;exact ⟨rfl,h,rfl⟩
end Go.Xg
namespace Go.Xg
open Go.RowKit Go.Xw Go.Proofs
open Go.Xp (Tok Nd T bo one levels gw dL ei du db lp mD ow Ar aB aR eg lP)
open Go.Sp Go.Im
attribute [local irreducible] GW GL GO YG GC GA aY ba
theorem Tr {f:Nat} (p:RS) (st:PS) (h:HW) (q:RS) (dT:PS) (n:Nat) (hp:p.ok) (hn:st.le n) (hb:n+f+4<=1099511627776) (hw:iW f p st=some (q,dT)) :
  GC Tryz.prog 206 [.loc 0 0] (uz p st h) (fun g aL=>g=.tup []/\∃ h',aL=uz q dT h'):=by
 cases h1:is p 0 lp with
 | true=>exact Oq p st h q dT n hp hn ah h1 hw
 | false =>
  cases h2:is p 0 mD with
  | true=>exact K8 p st h q dT n hp hn hb h1 h2 hw
  | false=>exact K7 p st h q dT hp h1 h2 hw
def nm (fns:List (ai × List ai)) (trees:List T) (k:Nat):List (List GV):=fns.mapIdx fun i x=>[.v (sv x.1),strs x.2,.v (ii (if i < k then ((aB (trees.take i):Nat):Int) else 0))]
theorem F2:∀ (rows:List (List GV)) (i j o:Nat) (g:GV),(di rows i o g)[j]?=if j=i then (rows[j]?).map (fun r=>bx r o g) else rows[j]?
 | [],i,j,o,g=>by simp [di]
 | r::rs,0,0,o,g=>by simp [di]
 | r::rs,0,j+1,o,g=>by simp [di]
 | r::rs,i+1,0,o,g=>by simp [di]
 | r::rs,i+1,j+1,o,g=>by
  rw [di,List.getElem?_cons_succ,F2 rs i j o g];simp
theorem S2 (fns:List (ai × List ai)) (trees:List T):fns.map pW=nm fns trees 0:=by
 apply ext_getElem?;intro i;rw [nm,getElem?_mapIdx,getElem?_map]
 cases fns[i]? <;> simp [pW]
theorem NP (fns:List (ai × List ai)) (trees:List T) (k:Nat):di (nm fns trees k) k 2 (.v (ii ((aB (trees.take k):Nat):Int)))=nm fns trees (k+1):=by
 apply ext_getElem?;intro i;rw [F2,nm,nm,getElem?_mapIdx,getElem?_mapIdx]
 by_cases h:i=k
 ·subst h;rw [if_pos rfl]
  cases fns[i]? with
  | none=>rfl
  | some x=>simp [bx]
 ·rw [if_neg h]
  cases fns[i]? with
  | none=>rfl
  | some x =>
   have:(i < k)=(i < k+1):=by simp;omega
   simp [this]
theorem P5 {fns:List (ai × List ai)} {trees:List T} {k:Nat} (j:Nat) (h:k < fns.length):∃ x,(nm fns trees j)[k]?=some [.v (sv x.1),strs x.2,.v (ii (if k < j then ((aB (trees.take k):Nat):Int) else 0))]/\fns[k]?=some x:=by
 refine ⟨fns[k],?_,by simp [h]⟩;rw [nm,getElem?_mapIdx];simp [h]
def IV (q:RS) (st:PS):GV :=
 if q.code=0 then
  if aB st.trees > 800 then .tup [.agg [.sl 1 [],.sl 2 [],.sl 3 [],.sl 5 []],.v (ii 10),.v (ii 0)]
  else .tup [.agg [.sl 1 (st.globals.map lg),.sl 2 (st.arrays.map qE),.sl 3 (nm st.fns st.trees st.trees.length),.sl 5 ((eg 0 st.trees).map rJ)],.v (ii 0),.v (ii 0)]
 else .tup [.agg [.sl 1 [],.sl 2 [],.sl 3 [],.sl 5 []],.v (ii q.code),.v (ii q.at_)]
theorem Hn {G f:Nat} (ts:List Tok) (e:Int) (q:RS) (st:PS) (hl:ts.length<=1099511627776) (hb:G+f+4<=1099511627776) (hz:q.code=0->aB st.trees<=1099511627776) (h:ni G f ⟨ts,0,e,0,0⟩ .empty=some (q,st)) :
  GF Tryz.prog 163 [iz ts,.v (ii e)] [] (IV q st) []:=by
 unfold IV;refine aj Tryz.func163 Tryz.ntmps163 ?_;refine GW.wk (Wk.oq 152 1) ?_;refine GW.wk (Wk.oq 9 1) ?_;refine GW.wk (Wk.oq 88 2) ?_;refine GW.wk (Wk.oq 60 3) ?_;refine GW.loop (fun z:Nat × RS × PS=>z.1) (fun z fr Γ=>∃ h n,fr=[iz ts,.v (ii e),.U,.U,.loc 0 0,.v (ii 0),.v (ii 0),.loc 1 0,.U,.U,.U,.U,.U,.U,.U,.U,.U,.U,.U,.U,.U,.U,.U,.U,.U,.U,.U,.U,.U,.U,.U,.U,.U,.U,.U,.U,.U,.U,.U,.U,.U,.U,.U,.U,.U,.U,.U,.U,.U,.U,.U,.U,.U,.U,.U,.U,.U,.U,.U,.U,.U,.U,.U,.U,.U,.U,.U,.U,.U,.U,.U,.U,.U,.U,.U,.U,.U,.U,.U]/\Γ=.box 34 [.v (.slice none 0 0),.v (.slice none 0 0),.v (.slice none 0 0),.v (.slice none 0 0)]::uz z.2.1 z.2.2 h/\z.2.1.l=ts/\z.2.1.ok/\z.2.2.le n/\n+z.1<=G/\ni z.1 f z.2.1 z.2.2=some (q,st)) (G,⟨ts,0,e,0,0⟩,.empty) ?_ ?_
 ·exact ⟨_,_,Wk.aD ar,⟨none,0,none,0,none,0,none,0⟩,0,rfl,rfl,rfl,⟨Nat.zero_le _,hl⟩,⟨Nat.le_refl _,Nat.le_refl _,Nat.le_refl _,rfl⟩,by simp,h⟩
 clear h;rintro ⟨g,p,s⟩ _ _ ⟨hd,n,rfl,rfl,cW,hp,hn,zi,h⟩;simp only at cW hp hn zi h
 cases g with
 | zero=>cases h
 | succ g =>
 rw [ni] at h
 by_cases hgo:p.code=0/\p.i < p.l.length
 ·rw [if_pos hgo] at h
  have dq:(p.code==0)=true:=by simpa using hgo.1
  have ao:decide ((p.i:Int) < ((ts.map c7).length:Int))=true:=by
   have:=hgo.2;rw [cW] at this;simpa using this
  cases hw:iW f p s with
  | none=>rw [hw] at h;cases h
  | some r =>
   obtain ⟨p2,s2⟩:=r;rw [hw] at h;simp only at h;have kJ:=WE hp hw;refine ae ?_;refine cv [1,2,3,4,5] (Tr p s hd p2 s2 n hp hn ah hw) ?_;rintro _ _ ⟨rfl,dr,rfl⟩;refine c8 ?_;refine ae ?_;exact ⟨(g,p2,s2),⟨_,_,Wk.aD ar,dr,n+1,rfl,rfl,by rw [kJ.1,cW],kJ.ok hp,WC hw hn,by show n+1+g<=G;omega,h⟩,by simp⟩
 ·rw [if_neg hgo] at h
  obtain ⟨rfl,rfl⟩:p=q/\s=st:=by simpa using h
  clear h
  have hex:∀ b1 b2:Bool,(p.code==0)=b1->decide ((p.i:Int) < ((ts.map c7).length:Int))=b2->b1=true->b2=false:=fun b1 b2 h1 h2 h3=>by
   subst h3
   cases b2 with
   | false=>rfl
   | true=>exact absurd ⟨by simpa using h1,by rw [cW];simpa using h2⟩ hgo
  by_cases hc:p.code=0
  ·rw [if_pos hc];have hz:=hz hc
   have dq:(p.code==0)=true:=by simpa using hc
   have jP:(p.code != 0)=false:=by simpa using hc
   have ao:=hex _ _ dq rfl rfl;have mR:=hn.trees;have hlf:=hn.fns;have sU:=mM s.trees;have pL:=Go.Xp.bR s.trees;refine bH ?_;refine ae ?_;refine GW.wk (by apply Wk.pY (t:=52) (i:=2) <;> rfl) ?_;simp only [oset,bx];refine ae ?_;refine GW.wk (Wk.oq 91 5) ?_;rw [S2 s.fns s.trees]
   refine GW.range s.trees.length (fun k fr Γ=>∃ aN cN,fr=[.U,.U,.U,.U,.loc 0 0,.v (ii 0),.v (ii 0),.U,.loc 6 0,.U,.U,.U,.U,.U,.U,.U,.U,.U,.U,.U,.U,.U,.U,.U,.U,.U,.U,.U,.U,.U,.U,.U,.U,.U,.U,.U,.U,.U,.U,.U,.U,.U,.U,.U,.U,.U,.U,.U,.U,.U,.U,.U,.sl 1 (kl s.trees),.v (ii (s.trees.length:Int)),.v (ii (k:Nat)),.U,.U,.U,.U,.U,.U,.U,.U,.U,.U,.U,.U,.U,.U,.U,.U,.U,.U,.U,.U,.U,.U,.U,.U]/\Γ=[.box 34 [.v (.slice none 0 0),.v (.slice none 0 0),.v (.slice none 0 0),.v (.slice none 0 0)],bK p (hx s hd),.vec 152 1 (kl s.trees).length (kl s.trees),.vech 9 1 (s.globals.map lg) (.slice hd.aG s.globals.length hd.cG),.vech 88 2 (s.arrays.map qE) (.slice hd.aA s.arrays.length hd.cA),.vech 60 3 (nm s.fns s.trees k) (.slice hd.aF s.fns.length hd.cF),
    .box 34 [.v (.slice hd.aG s.globals.length hd.cG),.v (.slice hd.aA s.arrays.length hd.cA),.v (.slice hd.aF s.fns.length hd.cF),.v (.slice aN (aB (s.trees.take k)) cN)],.vech 91 5 ((eg 0 (s.trees.take k)).map rJ) (.slice aN (aB (s.trees.take k)) cN)]) ?_ ah ?_ ?_ ?_
   ·exact ⟨_,_,Wk.aD ar,none,0,rfl,rfl⟩
   ·rintro k _ _ ⟨aN,cN,rfl,rfl⟩;exact dO
   ·rintro k _ _ ao ⟨aN,cN,rfl,rfl⟩;obtain ⟨t,ht⟩:∃ t,s.trees[k]?=some t:=⟨s.trees[k],by simp [ao]⟩;have hr:=Bp ht;have cR:=Go.Xp.uG ht;have hle:=Go.Xp.uF s.trees (k+1)
    have ki:s.trees.take (k+1)=s.trees.take k++[t]:=by rw [take_add_one,ht];rfl
    obtain ⟨x,vc,Io⟩:=P5 (fns:=s.fns) (trees:=s.trees) (k:=k) k ah;rw [if_neg (Nat.lt_irrefl k)] at vc;have vb:k < (nm s.fns s.trees k).length:=(List.getElem?_eq_some_iff.1 vc).1
    have hX:((eg 0 (s.trees.take k)).map rJ).length=aB (s.trees.take k):=by rw [length_map,Go.Xp.yu]
    have jB:=Me (aR t) t (Nat.le_refl _) (aB (s.trees.take k)) _ aN cN hX ah;rw [<-NP s.fns s.trees k,ki,Go.Xp.HY,Go.Xp.mO];simp only [eg,aB,append_nil,Nat.add_zero,Nat.zero_add,map_append];generalize (eg 0 (s.trees.take k)).map rJ=X at *;generalize aB (s.trees.take k)=z at *;generalize nm s.fns s.trees k=R at *;refine ae ?_;refine oO ?_;refine ae ?_;refine cv [7] jB ?_;rintro _ _ ⟨a5,c5,rfl,rfl⟩;refine c8 ?_;refine ae ?_;exact ⟨rfl,rfl,_,_,Wk.aD ar,a5,c5,rfl,rfl⟩
   ·rintro _ _ ⟨aN,cN,rfl,rfl⟩;rw [take_length]
    have hX:((eg 0 s.trees).map rJ).length=aB s.trees:=by rw [length_map,Go.Xp.yu]
    by_cases h8:aB s.trees > 800
    ·rw [if_pos h8]
     have h8':decide ((800:Int) < (aB s.trees:Int))=true:=by simpa using by omega
     generalize aB s.trees=z at *;refine ae ?_;refine BA ?_;exact ⟨_,jg,rfl,rfl⟩
    ·rw [if_neg h8]
     have h8':decide ((800:Int) < (((eg 0 s.trees).map rJ).length:Int))=false:=by rw [hX];simpa using by omega
     refine be ?_;refine GW.wk (by apply Wk.yJ (i:=6) (o:=0) (j:=3) <;> rfl) ?_;simp only [oset,bx];refine GW.wk (by apply Wk.yJ (i:=6) (o:=1) (j:=4) <;> rfl) ?_;simp only [oset,bx];refine GW.wk (by apply Wk.yJ (i:=6) (o:=2) (j:=5) <;> rfl) ?_;simp only [oset,bx];refine GW.wk (by apply Wk.yJ (i:=6) (o:=3) (j:=7) <;> rfl) ?_;simp only [oset,bx];refine ae ?_;refine lV ?_;exact ⟨rfl,rfl⟩
  ·rw [if_neg hc]
   have dq:(p.code==0)=false:=by simpa using hc
   have jP:(p.code != 0)=true:=by simpa using hc
   refine bH ?_;refine ae ?_;refine aJ (aC 0 9 (.a 9 (.q 10 (.q 11 .nil)))) ?_;refine bg ?_;refine BA ?_;exact ⟨_,jg,rfl,rfl⟩
end Go.Xg
namespace Go.Xg
open Go.RowKit Go.Xw Go.Proofs
open Go.Xp (Tok Nd T)
open Go.Sp (small dW dN bA eZ eB dD)
open Go.Im (lI jT cD gn fK jM jX p9 kq mV pO)
attribute [local irreducible] GW GL GO YG GC GA aY ba
theorem yn (c:UInt8):GF Tryz.prog 186 [CO c] [] (.v (.bool (dW c))) []:=by
 unfold dW;refine df Tryz.func186 Tryz.ntmps186 ?_
 cases h:decide ((48:Int)<=(c.toNat:Int))
 all_goals
  exact aw
theorem Aa (c:UInt8):GF Tryz.prog 146 [CO c] [] (.v (.bool (small c))) []:=by
 unfold small;refine df Tryz.func146 Tryz.ntmps146 ?_
 cases h:decide ((97:Int)<=(c.toNat:Int))
 all_goals
  exact aw
theorem Kn (c:UInt8):GF Tryz.prog 148 [CO c] [] (.v (.bool (dN c))) []:=by
 unfold dN;have hs:=Aa c;have hd:=yn c;generalize small c=b1 at *;generalize dW c=b2 at *;refine aj Tryz.func148 Tryz.ntmps148 ?_;refine gQ [] hs ?_
 cases b1 with
 | true =>
  exact aw
 | false =>
  cases h1:decide ((65:Int)<=(c.toNat:Int)) with
  | true =>
   cases h2:decide ((c.toNat:Int)<=90) with
   | true =>
    exact aw
   | false =>
    refine ae ?_;refine gQ [] hd ?_
    cases b2 with
    | true =>
     exact aw
    | false =>
     exact aw
  | false =>
   refine ae ?_;refine gQ [] hd ?_
   cases b2 with
   | true =>
    exact aw
   | false =>
    exact aw
theorem RD (test:FuncId) [hf:aI Tryz.prog test] (p:UInt8->Bool) (ht:∀ c,GF Tryz.prog test [CO c] [] (.v (.bool (p c))) []) (s:ai) (a:Nat) (hs:s.length<=1099511627776) (ha:a<=s.length) :
  GF Tryz.prog 147 [.v (sv s),.v (ii (a:Nat)),.v (.func (.func test) #[] #[])] [] (.v (ii (Go.Sp.run s p (s.length+1) a:Nat))) []:=by
 generalize hR:Go.Sp.run s p (s.length+1) a=R;refine aj Tryz.func147 Tryz.ntmps147 ?_;refine GW.loop (fun x:Nat × Nat=>x.1) (fun x fr Γ=>fr=[.v (sv s),.v (ii (x.2:Nat)),.v (.func (.func test) #[] #[]),.U,.U,.U,.U,.U,.U,.U,.U,.U,.U,.U,.U,.U,.U,.U,.U,.U,.U]/\Γ=[]/\x.2<=s.length/\s.length < x.1+x.2/\Go.Sp.run s p x.1 x.2=R) (s.length+1,a) ?_ ?_
 ·exact ⟨_,_,Wk.aD ar,rfl,rfl,ha,by simp only;omega,hR⟩
 ·rintro ⟨f,a⟩ _ _ ⟨rfl,rfl,ha,hf2,h⟩;simp only at ha hf2 h
  cases f with
  | zero=>omega
  | succ f =>
  rw [Go.Sp.run] at h
  cases hc:s[a]? with
  | none =>
   rw [hc] at h;simp only at h;subst h;have ly:s.length<=a:=List.getElem?_eq_none_iff.1 hc
   have hd:decide ((a:Int) < (s.length:Int))=false:=by simpa using ly
   refine bH ?_;exact aw
  | some c =>
   rw [hc] at h;simp only at h;have ao:a < s.length:=(List.getElem?_eq_some_iff.1 hc).1
   have hd:decide ((a:Int) < (s.length:Int))=true:=by simpa using ao
   have mu:=ht c
   cases hdc:p c with
   | false =>
    rw [hdc] at mu;rw [if_neg (by rw [hdc];simp)] at h;subst h;refine ae ?_;refine iD [] mu ?_;refine bH ?_;exact aw
   | true =>
    rw [hdc] at mu;rw [if_pos hdc] at h;refine ae ?_;refine iD [] mu ?_;refine ae ?_;exact ⟨(f,a+1),⟨_,_,Wk.aD ar,rfl,rfl,ao,by simp only;omega,h⟩,by simp⟩
theorem NW:Go.Lib.asciiSpaceTab=vy:=by decide
theorem L8:Go.Lib.fields [105,110,116,32,118,97,114,32,102,117,110,99,32,105,102,32,101,108,115,101,32,119,104,105,108,101,32,114,101,116,117,114,110,32,124,124,32,38,38,32,61,61,32,33,61,32,60,61,32,62,61,32,60,60,32,62,62,32,40,32,41,32,123,32,125,32,91,32,93,32,44,32,59,32,61,32,60,32,62,32,43,32,45,32,42,32,47,32,37,32,38,32,124,32,94,32,33,32,126]=lI:=by decide +kernel
theorem mi.Ac {P:Program} {f:FuncId} {vs:List Value} {w:World} {R:Value->World->Prop} (h:Calls P f vs.toArray w fun e w'=>∃ v,e=.returned v/\R v w'):mi P f vs w R:=h
theorem OD:GF Tryz.prog 216 [.v (sv [105,110,116,32,118,97,114,32,102,117,110,99,32,105,102,32,101,108,115,101,32,119,104,105,108,101,32,114,101,116,117,114,110,32,124,124,32,38,38,32,61,61,32,33,61,32,60,61,32,62,61,32,60,60,32,62,62,32,40,32,41,32,123,32,125,32,91,32,93,32,44,32,59,32,61,32,60,32,62,32,43,32,45,32,42,32,47,32,37,32,38,32,124,32,94,32,33,32,126])] [] (strs lI) []:=by
 have:=GF.ZC (P:=Tryz.prog) (f:=216) (vs:=[sv [105,110,116,32,118,97,114,32,102,117,110,99,32,105,102,32,101,108,115,101,32,119,104,105,108,101,32,114,101,116,117,114,110,32,124,124,32,38,38,32,61,61,32,33,61,32,60,61,32,62,61,32,60,60,32,62,62,32,40,32,41,32,123,32,125,32,91,32,93,32,44,32,59,32,61,32,60,32,62,32,43,32,45,32,42,32,47,32,37,32,38,32,124,32,94,32,33,32,126]]) (us:=lI.map sv) (E:=9) fun K β w ht hf=>?_
 ·rw [List.map_map] at this;exact this
 ·obtain ⟨E,z,ln⟩:=sA.all ht hf ht.spc (zs:=vy.map fun z=>Value.int .u8 z) aK (fun m o x hx=>by
   rw [getElem?_map] at hx;unfold xd;rw [if_neg aK,if_neg aK,if_pos rfl]
   cases hs:vy[o]? with
   | none=>rw [hs] at hx;cases hx
   | some y=>rw [hs] at hx;cases hx;rfl)
  have zS:Go.Lib.TabIs Tryz.prog w "strings.asciiSpace" .u8 Go.Lib.asciiSpaceTab:=by
   unfold Go.Lib.TabIs World.var?;rw [show Tryz.prog.globalNamed "strings.asciiSpace" = some 0 by kernel_rfl,NW];simp only [Option.bind_some,ln]
  have h:=Tryz.strings_Fields_laid ⟨[105,110,116,32,118,97,114,32,102,117,110,99,32,105,102,32,101,108,115,101,32,119,104,105,108,101,32,114,101,116,117,114,110,32,124,124,32,38,38,32,61,61,32,33,61,32,60,61,32,62,61,32,60,60,32,62,62,32,40,32,41,32,123,32,125,32,91,32,93,32,44,32,59,32,61,32,60,32,62,32,43,32,45,32,42,32,47,32,37,32,38,32,124,32,94,32,33,32,126].toArray⟩ w aK (fun j b hb=>by
   have:∀ b∈([105,110,116,32,118,97,114,32,102,117,110,99,32,105,102,32,101,108,115,101,32,119,104,105,108,101,32,114,101,116,117,114,110,32,124,124,32,38,38,32,61,61,32,33,61,32,60,61,32,62,61,32,60,60,32,62,62,32,40,32,41,32,123,32,125,32,91,32,93,32,44,32,59,32,61,32,60,32,62,32,43,32,45,32,42,32,47,32,37,32,38,32,124,32,94,32,33,32,126]:List UInt8),b.toNat < 128:=by decide
   exact this b (mem_of_getElem? hb)) zS
  refine mi.Ac (Calls.mono h ?_);rintro e w' ⟨h1,h2⟩;rw [show ((⟨[105,110,116,32,118,97,114,32,102,117,110,99,32,105,102,32,101,108,115,101,32,119,104,105,108,101,32,114,101,116,117,114,110,32,124,124,32,38,38,32,61,61,32,33,61,32,60,61,32,62,61,32,60,60,32,62,62,32,40,32,41,32,123,32,125,32,91,32,93,32,44,32,59,32,61,32,60,32,62,32,43,32,45,32,42,32,47,32,37,32,38,32,124,32,94,32,33,32,126].toArray⟩:ByteArray).data.toList)=[105,110,116,32,118,97,114,32,102,117,110,99,32,105,102,32,101,108,115,101,32,119,104,105,108,101,32,114,101,116,117,114,110,32,124,124,32,38,38,32,61,61,32,33,61,32,60,61,32,62,61,32,60,60,32,62,62,32,40,32,41,32,123,32,125,32,91,32,93,32,44,32,59,32,61,32,60,32,62,32,43,32,45,32,42,32,47,32,37,32,38,32,124,32,94,32,33,32,126] from rfl,L8] at h1 h2;exact ⟨_,h1,by rw [length_map],h2⟩
theorem S7:GF Tryz.prog 187 [] [] (strs lI) []:=by
 have h:=OD;generalize lI=l at *;refine aj Tryz.func187 Tryz.ntmps187 ?_;refine ab [] h ?_;exact al
theorem zY (s:ai):GF Tryz.prog 149 [.v (sv s)] [] (.v (.bool (jT s))) []:=by
 have h:=S7;have hc:=ky lI s aK;unfold jT;generalize lI=l at *;refine aj Tryz.func149 Tryz.ntmps149 ?_;refine ab [] h ?_;refine ab [] hc ?_;exact al
theorem Qb (s:ai) (a:Nat) (c:UInt8) (hs:s.length<=1099511627776) (hc:s[a]?=some c):GF Tryz.prog 238 [.v (sv s),.v (ii (a:Nat))] [] (.v (sv (fK s a))) []:=by
 have ao:a < s.length:=(List.getElem?_eq_some_iff.1 hc).1;have iU:=Aa c;refine aj Tryz.func238 Tryz.ntmps238 ?_;refine GW.loop (fun x:Nat=>x) (fun x fr Γ=>fr=[.v (sv s),.v (ii (a:Nat)),.U,.U,.U,.v (ii (x:Nat)),.U,.U,.U,.U,.U,.U,.U,.U,.U,.U,.U,.U,.U,.U,.U,.U,.U,.U,.U,.U,.U,.U,.U,.U,.U,.U,.U,.U,.U,.U,.U,.U]/\Γ=[]/\x<=2/\∀ j,x < j->j<=2->gn s a j=false) 2 ?_ ?_
 ·exact ⟨_,_,Wk.aD ar,rfl,rfl,Nat.le_refl _,fun j h1 h2=>by omega⟩
 ·rintro x _ _ ⟨rfl,rfl,hx,bN⟩
  have qS:∀ k,x=k+1->gn s a x=false->∀ j,k < j->j<=2->gn s a j=false:=fun k hk ht j h1 h2=>by
   by_cases hj:j=x
   ·rw [hj];exact ht
   ·exact bN j ah h2
  have N9:∀ k,gn s a k=(decide (a+k<=s.length)&&!(small c)&&jT (cD s a (a+k))):=fun k=>by unfold gn;rw [hc]
  match x,hx,bN,qS with
  | 0,_,bN,_ =>
   have e:fK s a=[]:=by unfold fK;rw [bN 2 ah ah,bN 1 ah ah];rfl
   rw [e];refine bH ?_;exact aw
  | 1,_,bN,qS =>
   have hle:decide (((a+1:Nat):Int)<=(s.length:Int))=true:=by simpa using by omega
   have hb:a<=a+1/\a+1<=s.length:=by omega
   have ht:=N9 1;rw [show decide (a+1<=s.length)=true from decide_eq_true ah] at ht
   cases hsc:small c with
   | true =>
    rw [hsc] at iU ht;refine ae ?_;refine ab [] iU ?_;exact ⟨0,⟨_,_,Wk.aD ar,rfl,rfl,by omega,qS 0 rfl ht⟩,by omega⟩
   | false =>
    rw [hsc] at iU ht;have dK:=zY (cD s a (a+1))
    cases hg:jT (cD s a (a+1)) with
    | false =>
     rw [hg] at dK ht;refine ae ?_;refine ab [] iU ?_;refine ab [] dK ?_;exact ⟨0,⟨_,_,Wk.aD ar,rfl,rfl,by omega,qS 0 rfl ht⟩,by omega⟩
    | true =>
     rw [hg] at dK ht
     have e:fK s a=cD s a (a+1):=by unfold fK;rw [bN 2 ah ah,ht];rfl
     rw [e];refine ae ?_;refine ab [] iU ?_;refine ab [] dK ?_;exact al
  | 2,_,bN,qS =>
   have ht:=N9 2
   by_cases jC:a+2<=s.length
   ·have hle:decide (((a+2:Nat):Int)<=(s.length:Int))=true:=by simpa using by omega
    have hb:a<=a+2/\a+2<=s.length:=by omega
    rw [show decide (a+2<=s.length)=true by simpa using jC] at ht
    cases hsc:small c with
    | true =>
     rw [hsc] at iU ht;refine ae ?_;refine ab [] iU ?_;exact ⟨1,⟨_,_,Wk.aD ar,rfl,rfl,by omega,qS 1 rfl ht⟩,by omega⟩
    | false =>
     rw [hsc] at iU ht;have dK:=zY (cD s a (a+2))
     cases hg:jT (cD s a (a+2)) with
     | false =>
      rw [hg] at dK ht;refine ae ?_;refine ab [] iU ?_;refine ab [] dK ?_;exact ⟨1,⟨_,_,Wk.aD ar,rfl,rfl,by omega,qS 1 rfl ht⟩,by omega⟩
     | true =>
      rw [hg] at dK ht
      have e:fK s a=cD s a (a+2):=by unfold fK;rw [ht];rfl
      rw [e];refine ae ?_;refine ab [] iU ?_;refine ab [] dK ?_;exact al
   ·have hle:decide (((a+2:Nat):Int)<=(s.length:Int))=false:=by simpa using by omega
    rw [show decide (a+2<=s.length)=false by simpa using jC] at ht;refine ae ?_;exact ⟨1,⟨_,_,Wk.aD ar,rfl,rfl,by omega,qS 1 rfl ht⟩,by omega⟩
  | n+3,hx,_,_=>omega
def Kr (n:Int) (e:Nat) (a:Nat):GV:=if n > 2147483647 then .tup [.agg (c7 p9),.v (ii (a:Nat)),.v (ii 3)] else .tup [.agg (c7 ⟨1,n,[],a⟩),.v (ii (e:Nat)),.v (ii 0)]
theorem N7 (s:ai) (a:Nat) (c:UInt8) (hs:s.length<=1099511627776) (hc:s[a]?=some c) (hd:dW c=true) :
  GF Tryz.prog 205 [.v (sv s),.v (ii (a:Nat))] [] (Kr (jX (cD s a (jM s a)) 0) (jM s a) a) []:=by
 have ao:a < s.length:=(List.getElem?_eq_some_iff.1 hc).1;have mu:=yn c;rw [hd] at mu;have mT:=RD 186 dW yn s a hs ah;obtain ⟨e1,e2,e3⟩:=Go.Sp.py s dW (s.length+1) a ah ah;have aM:=Go.Im.Cr s dW (s.length+1) a ah;unfold jM;generalize Go.Sp.run s dW (s.length+1) a=e at *;clear e1;generalize hR:jX (cD s a e) 0=R;refine aj Tryz.func205 Tryz.ntmps205 ?_;refine ab [] mu ?_;refine ab [] mT ?_;refine GW.loop (fun x:Nat × Int=>e - x.1) (fun x fr Γ=>fr=[.v (sv s),.v (ii (a:Nat)),.U,.U,.loc 0 0,.v (ii 0),.v (ii 0),.U,.v (ii (e:Nat)),.v (ii x.2),.v (ii (x.1:Nat)),.U,.U,.U,.U,.U,.U,.U,.U,.U,.U,.U,.U,.U,.U,.U,.U,.U,.U,.U,.U,.U,.U,.U,.U,.U,.U,.U,.U,.U,.U,.U,.U,.U,.U,.U,.U,.U,.U,.U,.U,.U,.U,.U,.U,.U,.U,.U,.U,.U,.U,.U,.U,.U,.U,.U,.U,.U,.U,.U,.U,.U,.U,.U,.U,.U,.U,.U,.U,.U,.U]/\Γ=[.box 203 (c7 p9)]/\a<=x.1/\x.1<=e/\jX (cD s x.1 e) x.2=R/\0<=x.2/\x.2<=21474836480) (a,0) ?_ ?_
 ·exact ⟨_,_,Wk.aD ar,rfl,rfl,Nat.le_refl _,e2,hR,by simp,by simp⟩
 ·rintro ⟨i,n⟩ _ _ ⟨rfl,rfl,hi,hie,h,Da,Fe⟩;simp only at hi hie h Da Fe
  have fin:R=n->True:=fun _=>trivial
  by_cases mR:i < e
  ·have MH:decide ((i:Int) < (e:Int))=true:=by simpa using mR
   by_cases hn:n<=2147483647
   ·have A1:decide (n<=2147483647)=true:=by simpa using hn
    have u9:i < s.length:=by omega
    obtain ⟨d,dr⟩:∃ d,s[i]?=some d:=⟨s[i],by simp [u9]⟩
    have fJ:dW d=true:=by
     have:d∈cD s a e:=by
      unfold cD;rw [List.mem_iff_getElem?];exact ⟨i - a,by rw [List.getElem?_drop,List.getElem?_take,show a+(i - a)=i by omega,if_pos mR];exact dr⟩
     exact aM d this
    have xM:(48:Int)<=(d.toNat:Int)/\(d.toNat:Int)<=57:=by
     simp only [dW,Bool.and_eq_true,decide_eq_true_eq] at fJ;exact fJ
    rw [Go.Im.pe dr mR e3,jX,if_pos hn] at h;refine ae ?_;exact ⟨(i+1,10 * n+((d.toNat:Int) - 48)),⟨_,_,Wk.aD ar,rfl,rfl,by simp only;omega,mR,h,by simp only;omega,by simp only;omega⟩,by simp only;omega⟩
   ·have A1:decide (n<=2147483647)=false:=by simpa using hn
    have eG:R=n:=by
     rw [<-h]
     cases hw:cD s i e with
     | nil=>rw [jX]
     | cons d r=>rw [jX,if_neg hn]
    rw [eG];clear h eG hR fin
    have bP:decide (2147483647 < n)=true:=by simpa using by omega
    unfold Kr;rw [if_pos ah];refine bH ?_;refine ae ?_;refine lV ?_;exact ⟨rfl,rfl⟩
  ·have MH:decide ((i:Int) < (e:Int))=false:=by simpa using by omega
   have eG:R=n:=by
    rw [<-h];have:cD s i e=[]:=List.eq_nil_of_length_eq_zero (by rw [Go.Im.kV e3];omega);rw [this,jX]
   rw [eG];clear h eG hR fin;unfold Kr
   by_cases hn:n > 2147483647
   ·have bP:decide (2147483647 < n)=true:=by simpa using hn
    rw [if_pos hn];refine bH ?_;refine ae ?_;refine lV ?_;exact ⟨rfl,rfl⟩
   ·have bP:decide (2147483647 < n)=false:=by simpa using hn
    rw [if_neg hn];refine bH ?_;refine ae ?_;refine lV ?_;exact ⟨rfl,rfl⟩
theorem Tp (s:ai) (a:Nat) (c:UInt8) (hs:s.length<=1099511627776) (hc:s[a]?=some c) :
  GF Tryz.prog 205 [.v (sv s),.v (ii (a:Nat))] [] (.tup [.agg (c7 (kq s a c).1),.v (ii ((kq s a c).2.1:Nat)),.v (ii (kq s a c).2.2)]) []:=by
 have ao:a < s.length:=(List.getElem?_eq_some_iff.1 hc).1;have mu:=yn c;have iU:=Aa c
 by_cases hd:dW c=true
 ·have h:=N7 s a c hs hc hd;unfold Kr at h;unfold kq;rw [if_pos hd];split at h
  ·rename_i hn;rw [if_pos hn];exact h
  ·rename_i hn;rw [if_neg hn];exact h
 ·have MG:dW c=false:=by simpa using hd
  unfold kq;rw [if_neg hd];rw [MG] at mu
  by_cases hsc:small c=true
  ·rw [if_pos hsc];rw [hsc] at iU;have mT:=RD 148 dN Kn s a hs ah;obtain ⟨e1,e2,e3⟩:=Go.Sp.py s dN (s.length+1) a ah ah;have hw:eZ s a=(s.take (eB s a)).drop a:=rfl;have dK:=zY (eZ s a);unfold eB at hw |-;rw [hw] at dK |-;generalize Go.Sp.run s dN (s.length+1) a=e at *;have hb:a<=e/\e<=s.length:=⟨e2,e3⟩
   cases hg:jT ((s.take e).drop a) with
   | true =>
    rw [hg] at dK;refine aj Tryz.func205 Tryz.ntmps205 ?_;refine ab [] mu ?_;refine ab [] iU ?_;refine ab [] mT ?_;refine ab [] dK ?_;refine lV ?_;exact ⟨rfl,rfl⟩
   | false =>
    rw [hg] at dK;refine aj Tryz.func205 Tryz.ntmps205 ?_;refine ab [] mu ?_;refine ab [] iU ?_;refine ab [] mT ?_;refine ab [] dK ?_;refine lV ?_;exact ⟨rfl,rfl⟩
  ·have Zl:small c=false:=by simpa using hsc
   rw [if_neg hsc];rw [Zl] at iU;have XR:=Qb s a c hs hc
   have hlen:(fK s a).length<=2:=by
    have:(fK s a=cD s a (a+2)\/fK s a=cD s a (a+1))\/fK s a=[]:=by
     unfold fK;split
     ·exact .inl (.inl rfl)
     ·split
      ·exact .inl (.inr rfl)
      ·exact .inr rfl
    rcases this with (h | h) | h <;> rw [h]
    ·unfold cD;rw [length_drop,length_take];omega
    ·unfold cD;rw [length_drop,length_take];omega
    ·simp
   generalize fK s a=x at *
   by_cases hx:x=[]
   ·have Il:(x==[])=true:=by simpa using hx
    rw [if_pos hx];refine aj Tryz.func205 Tryz.ntmps205 ?_;refine ab [] mu ?_;refine ab [] iU ?_;refine ab [] XR ?_;refine lV ?_;exact ⟨rfl,rfl⟩
   ·have Il:(x==[])=false:=by simpa using hx
    rw [if_neg hx];refine aj Tryz.func205 Tryz.ntmps205 ?_;refine ab [] mu ?_;refine ab [] iU ?_;refine ab [] XR ?_;refine lV ?_;exact ⟨rfl,rfl⟩
def B5 (x t:ai):Bool:=decide (t.length<=x.length)&&(x.take t.length==t)
theorem Jp (x t:ai) (hx:x.length<=1099511627776) (ht:t.length<=1099511627776):GF Tryz.prog 236 [.v (sv x),.v (sv t)] [] (.v (.bool (B5 x t))) []:=by
 unfold B5
 by_cases h:t.length<=x.length
 ·have h1:decide ((t.length:Int)<=(x.length:Int))=true:=by simpa using h
  rw [decide_eq_true h];refine aj Tryz.func236 Tryz.ntmps236 ?_;exact al
 ·have h1:decide ((t.length:Int)<=(x.length:Int))=false:=by simpa using by omega
  rw [decide_eq_false h];refine aj Tryz.func236 Tryz.ntmps236 ?_;exact al
theorem GP (x t:ai) (hx:x.length<=1099511627776) (ht:t.length<=1099511627776):GF Tryz.prog 203 [.v (sv x),.v (sv t)] [] (.v (.bool (B5 x t))) []:=by
 have h:=Jp x t hx ht;generalize B5 x t=b at *;refine aj Tryz.func203 Tryz.ntmps203 ?_;refine ab [] h ?_;exact al
theorem G6 {s t:ai} {a:Nat} (ha:a<=s.length):B5 (s.drop a) t=bA s a t:=by
 unfold B5 bA;rw [length_drop,List.drop_take,show a+t.length - a=t.length by omega]
 congr 1
 rw [Bool.eq_iff_iff];simp;omega
theorem GQ (c:UInt8):GF Tryz.prog 202 [.v (sv [32,9,10,13]),CO c] [] (.v (ii (Go.Lib.indexByte [32,9,10,13] c))) []:=by
 refine GF.Vi (vs:=[sv [32,9,10,13],.int .u8 (c.toNat:Int)]) fun K β w ht hf=>?_
 refine mi.Ac (Calls.mono (Tryz.strings_IndexByte ⟨[32,9,10,13].toArray⟩ (c.toNat:Int) w) ?_);rintro e w' ⟨h1,h2⟩;refine ⟨_,h1,?_,by rw [h2];exact Ext.refl w⟩;simp
theorem OG (x:ai) (hx:x.length<=4294967280):GF Tryz.prog 204 [.v (sv x),.v (sv [42,47])] [] (.v (ii (Go.Lib.index x [42,47]))) []:=by
 refine GF.Vi (vs:=[sv x,sv [42,47]]) fun K β w ht hf=>?_
 obtain ⟨m,hm⟩:=ht.maxLen hf;refine mi.Ac (Calls.mono (Tryz.strings_Index ⟨x.toArray⟩ ⟨[42,47].toArray⟩ m w (by show (x.toArray).size < _;simp;omega) hm) ?_);rintro e w' ⟨h1,h2⟩;refine ⟨_,h1,?_,by rw [h2];exact Ext.refl w⟩;simp
theorem OL (c:UInt8):decide ((0:Int)<=Go.Lib.indexByte [32,9,10,13] c)=dD c:=by
 have hb:dD c=((32:UInt8)==c || (9:UInt8)==c || (10:UInt8)==c || (13:UInt8)==c):=by
  have e:∀ k:UInt8,((c.toNat:Int)==(k.toNat:Int))=(k==c):=fun k=>by
   rw [Bool.eq_iff_iff];simp only [beq_iff_eq]
   exact ⟨fun h=>by
    have:c.toNat=k.toNat:=by omega
    exact (UInt8.toNat_inj.1 this).symm,fun h=>by rw [h]⟩
  have e1:=e 32;have e2:=e 9;have e3:=e 10;have e4:=e 13;unfold dD;rw [<-e1,<-e2,<-e3,<-e4];rfl
 rw [hb];unfold Go.Lib.indexByte Go.Lib.indexByte Go.Lib.indexByte Go.Lib.indexByte Go.Lib.indexByte
 cases (32:UInt8)==c <;> cases (9:UInt8)==c <;> cases (10:UInt8)==c <;> cases (13:UInt8)==c <;> decide
theorem M5 (l:ai):Go.Lib.index l [42,47]=(match pO l with | none => -1 | some n=>(n:Int)):=by
 induction l with
 | nil=>rfl
 | cons b l ih =>
  rw [Go.Lib.index,pO];split
  ·rfl
  ·rw [ih]
   cases pO l with
   | none=>rfl
   | some n =>
    simp only;rw [if_neg (by simp <;> omega)];simp
theorem PQ (s:ai) (f:Nat) (ts:List Tok) (c z:Int) (hs:s.length<=4294967280) (h:mV s f 0 []=some (ts,c,z)) :
  GF Tryz.prog 162 [.v (sv s)] [] (.tup [iz ts,.v (ii c),.v (ii z)]) []:=by
 refine aj Tryz.func162 Tryz.ntmps162 ?_;refine GW.wk (Wk.Ci (t:=5) (a:=none) (c:=0) 203 4 rfl) ?_;refine GW.loop (fun x:Nat × Nat × List Tok=>x.1) (fun x fr Γ=>∃ n rows,fr=[.v (sv s),.U,.v (.slice none 0 0),.v (ii 0),.v (ii 0),.vec 0 n,.v (ii (x.2.1:Nat)),.U,.U,.U,.U,.U,.U,.U,.U,.U,.U,.U,.U,.U,.U,.U,.U,.U,.U,.U,.U,.U,.U,.U,.U,.U,.U,.U,.U,.U,.U,.U,.U,.U,.U,.U,.U,.U,.U,.U,.U,.U,.U,.U,.U,.U,.U,.U,.U]/\Γ=[.vec 203 4 0 rows]/\rows.length=n/\rows=x.2.2.map c7/\x.2.1<=s.length/\n<=x.2.1/\mV s x.1 x.2.1 x.2.2=some (ts,c,z)) (f,0,[]) ?_ ?_
 ·exact ⟨_,_,Wk.aD ar,0,[],rfl,rfl,rfl,rfl,Nat.zero_le _,Nat.le_refl _,h⟩
 ·clear h;rintro ⟨f,a,acc⟩ _ _ ⟨n,rows,rfl,rfl,hn,bz,ha,Ih,h⟩;simp only at bz ha Ih h
  cases f with
  | zero=>cases h
  | succ f =>
  rw [mV] at h
  cases hc:s[a]? with
  | none =>
   rw [hc] at h;cases h;have ly:s.length<=a:=List.getElem?_eq_none_iff.1 hc
   have hd:decide ((a:Int) < (s.length:Int))=false:=by simpa using ly
   refine bH ?_;refine GW.wk (Wk.jy (t:=5) rfl rfl rfl hn) ?_;refine ae ?_;refine Je ?_;exact ⟨by rw [bz];rfl,rfl⟩
  | some ch =>
   rw [hc] at h;simp only at h;have ao:a < s.length:=(List.getElem?_eq_some_iff.1 hc).1
   have hd:decide ((a:Int) < (s.length:Int))=true:=by simpa using ao
   have MN:=GQ ch;have n8:=OL ch
   cases hb:dD ch with
   | true =>
    rw [if_pos hb] at h;rw [hb] at n8;generalize Go.Lib.indexByte [32,9,10,13] ch=ib at *;refine ae ?_;refine ab [] MN ?_;refine jd ?_;exact ⟨(f,a+1,acc),⟨_,_,Wk.aD ar,n,rows,rfl,rfl,hn,bz,ao,by simp only;omega,h⟩,by simp⟩
   | false =>
    rw [if_neg (by rw [hb];decide)] at h;rw [hb] at n8;generalize Go.Lib.indexByte [32,9,10,13] ch=ib at *;have nB:=GP (s.drop a) [47,42] (by rw [length_drop];omega) aK;rw [G6 ha] at nB
    cases nA:bA s a [47,42] with
    | true =>
     rw [if_pos nA] at h;rw [nA] at nB;have nc:=Go.Sp.jt nA;simp only [List.length_cons,length_nil] at nc;have xF:=OG (s.drop (a+2)) (by rw [length_drop];omega);rw [M5] at xF
     have MC:a+2<=s.length:=by omega
     cases hi:pO (s.drop (a+2)) with
     | none =>
      rw [hi] at xF h;cases h;refine ae ?_;refine ab [] MN ?_;refine ab [] nB ?_;refine ab [] xF ?_;refine qK ?_;exact ⟨_,jg,rfl,rfl⟩
     | some e =>
      rw [hi] at xF h;have eW:=Go.Im.B6 hi;rw [length_drop] at eW
      have Uw:decide (((e:Nat):Int) < 0)=false:=by simp
      refine ae ?_;refine ab [] MN ?_;refine ab [] nB ?_;refine ab [] xF ?_;refine jd ?_;exact ⟨(f,a+(e+4),acc),⟨_,_,Wk.aD ar,n,rows,rfl,rfl,hn,bz,by simp only;omega,by simp only;omega,h⟩,by simp⟩
    | false =>
     rw [if_neg (by rw [nA];decide)] at h;rw [nA] at nB;have ki:=Tp s a ch ah hc
     have eH:=fun h0=>Go.Im.Jc hc h0
     generalize kq s a ch=R at *;obtain ⟨t,e,code⟩:=R;simp only at ki h eH
     by_cases h0:code=0
     ·rw [if_neg (by simpa using h0)] at h
      have sM:(code != 0)=false:=by simpa using h0
      obtain ⟨_,_,k3,k4⟩:=eH h0;refine ae ?_;refine ab [] MN ?_;refine ab [] nB ?_;refine ab [] ki ?_;refine eR ?_;refine ae ?_;exact ⟨(f,e,acc++[t]),⟨_,_,(Wk.cut (n:=1) (Nat.le_of_ble_eq_true rfl) rfl).trans (Wk.aD ar),_,_,rfl,rfl,by simp [hn],by rw [map_append,bz];rfl,k4,by simp only;omega,h⟩,by simp⟩
     ·rw [if_pos h0] at h
      have sM:(code != 0)=true:=by simpa using h0
      cases h;refine ae ?_;refine ab [] MN ?_;refine ab [] nB ?_;refine ab [] ki ?_;refine qK ?_;exact ⟨_,jg,rfl,rfl⟩
end Go.Xg
namespace Go.Xg
open Go.RowKit Go.Xw Go.Proofs
open Go.Xp (Tok Nd T aR aB)
open Go.Sp (Src)
open Go.Im (od qc tr jj cV fP uB)
attribute [local irreducible] GW GL GO YG GC GA aY ba
theorem Py:∀ (N:Nat) (t:T),aR t<=N->aR t<=1099511627776->GF Tryz.prog 158 [uT t] [] (.v (.bool (fP t))) []:=by
 intro N
 induction N with
 | zero=>intro t h;rw [Go.Xp.ej] at h;omega
 | succ N ih =>
 intro t hN hb;rw [Go.Xp.ej] at hN hb;have eX:=Go.Xp.bR t.kids;have oI:=qG t.kids;rw [Go.Im.xR,Go.Im.s9];unfold uT;generalize t.n.kind=kd;refine df Tryz.func158 Tryz.ntmps158 ?_;refine Jh ?_;refine GW.join (fun fr Γ=>fr=[.box [.v (ii kd),.v (ii t.n.at_),.v (ii t.n.n),.v (sv t.n.s),ints t.n.kids,.sl 1 (cm t.kids)] 0,.U,.U,.U,.v (.bool (cV kd t.kids.length)),.U,.U,.U,.U,.U,.U,.U,.U,.U,.U,.U,.U,.U,.U,.U,.U,.U,.U,.U,.U,.U,.U,.U,.U,.U,.U,.U,.U,.U,.U,.U,.U,.U,.U,.U,.U,.U,.U,.U,.U,.U,.U,.U,.U,.U,.U,.U,.U,.U,.U,.U,.U,.U,.U,.U,.U,.U,.U,.U]/\Γ=[]) ?_ ?_
 ·rw [<-oI];generalize (cm t.kids)=l
  by_cases h1:kd=1
  ·subst h1
   have f1:((1:Int)==1)=true:=by decide
   rw [show cV 1 l.length=((l.length:Int)==0) by unfold cV;simp];exact ij
  by_cases h2:kd=2
  ·subst h2
   have f1:((2:Int)==1)=false:=by decide
   have f2:((2:Int)==2)=true:=by decide
   rw [show cV 2 l.length=((l.length:Int)==0) by unfold cV;simp];exact ij
  by_cases h4:kd=4
  ·subst h4
   have f1:((4:Int)==1)=false:=by decide
   have f2:((4:Int)==2)=false:=by decide
   have f4:((4:Int)==4)=true:=by decide
   rw [show cV 4 l.length=true by unfold cV;simp];exact ij
  by_cases AN:kd=14
  ·subst AN
   have f1:((14:Int)==1)=false:=by decide
   have f2:((14:Int)==2)=false:=by decide
   have f4:((14:Int)==4)=false:=by decide
   have f14:((14:Int)==14)=true:=by decide
   rw [show cV 14 l.length=true by unfold cV;simp];exact ij
  by_cases h3:kd=3
  ·subst h3
   have f1:((3:Int)==1)=false:=by decide
   have f2:((3:Int)==2)=false:=by decide
   have f4:((3:Int)==4)=false:=by decide
   have f14:((3:Int)==14)=false:=by decide
   have f3:((3:Int)==3)=true:=by decide
   rw [show cV 3 l.length=((l.length:Int)==1) by unfold cV;simp];exact ij
  by_cases h5:kd=5
  ·subst h5
   have f1:((5:Int)==1)=false:=by decide
   have f2:((5:Int)==2)=false:=by decide
   have f4:((5:Int)==4)=false:=by decide
   have f14:((5:Int)==14)=false:=by decide
   have f3:((5:Int)==3)=false:=by decide
   have f5:((5:Int)==5)=true:=by decide
   rw [show cV 5 l.length=((l.length:Int)==1) by unfold cV;simp];exact ij
  by_cases h7:kd=7
  ·subst h7
   have f1:((7:Int)==1)=false:=by decide
   have f2:((7:Int)==2)=false:=by decide
   have f4:((7:Int)==4)=false:=by decide
   have f14:((7:Int)==14)=false:=by decide
   have f3:((7:Int)==3)=false:=by decide
   have f5:((7:Int)==5)=false:=by decide
   have f7:((7:Int)==7)=true:=by decide
   rw [show cV 7 l.length=((l.length:Int)==1) by unfold cV;simp];exact ij
  by_cases oB:kd=11
  ·subst oB
   have f1:((11:Int)==1)=false:=by decide
   have f2:((11:Int)==2)=false:=by decide
   have f4:((11:Int)==4)=false:=by decide
   have f14:((11:Int)==14)=false:=by decide
   have f3:((11:Int)==3)=false:=by decide
   have f5:((11:Int)==5)=false:=by decide
   have f7:((11:Int)==7)=false:=by decide
   have f11:((11:Int)==11)=true:=by decide
   rw [show cV 11 l.length=((l.length:Int)==1) by unfold cV;simp];exact ij
  by_cases n5:kd=12
  ·subst n5
   have f1:((12:Int)==1)=false:=by decide
   have f2:((12:Int)==2)=false:=by decide
   have f4:((12:Int)==4)=false:=by decide
   have f14:((12:Int)==14)=false:=by decide
   have f3:((12:Int)==3)=false:=by decide
   have f5:((12:Int)==5)=false:=by decide
   have f7:((12:Int)==7)=false:=by decide
   have f11:((12:Int)==11)=false:=by decide
   have f12:((12:Int)==12)=true:=by decide
   rw [show cV 12 l.length=((l.length:Int)==1) by unfold cV;simp];exact ij
  by_cases eK:kd=13
  ·subst eK
   have f1:((13:Int)==1)=false:=by decide
   have f2:((13:Int)==2)=false:=by decide
   have f4:((13:Int)==4)=false:=by decide
   have f14:((13:Int)==14)=false:=by decide
   have f3:((13:Int)==3)=false:=by decide
   have f5:((13:Int)==5)=false:=by decide
   have f7:((13:Int)==7)=false:=by decide
   have f11:((13:Int)==11)=false:=by decide
   have f12:((13:Int)==12)=false:=by decide
   have f13:((13:Int)==13)=true:=by decide
   rw [show cV 13 l.length=((l.length:Int)==1) by unfold cV;simp];exact ij
  by_cases h6:kd=6
  ·subst h6
   have f1:((6:Int)==1)=false:=by decide
   have f2:((6:Int)==2)=false:=by decide
   have f4:((6:Int)==4)=false:=by decide
   have f14:((6:Int)==14)=false:=by decide
   have f3:((6:Int)==3)=false:=by decide
   have f5:((6:Int)==5)=false:=by decide
   have f7:((6:Int)==7)=false:=by decide
   have f11:((6:Int)==11)=false:=by decide
   have f12:((6:Int)==12)=false:=by decide
   have f13:((6:Int)==13)=false:=by decide
   have f6:((6:Int)==6)=true:=by decide
   rw [show cV 6 l.length=((l.length:Int)==2) by unfold cV;simp];exact ij
  by_cases h8:kd=8
  ·subst h8
   have f1:((8:Int)==1)=false:=by decide
   have f2:((8:Int)==2)=false:=by decide
   have f4:((8:Int)==4)=false:=by decide
   have f14:((8:Int)==14)=false:=by decide
   have f3:((8:Int)==3)=false:=by decide
   have f5:((8:Int)==5)=false:=by decide
   have f7:((8:Int)==7)=false:=by decide
   have f11:((8:Int)==11)=false:=by decide
   have f12:((8:Int)==12)=false:=by decide
   have f13:((8:Int)==13)=false:=by decide
   have f6:((8:Int)==6)=false:=by decide
   have f8:((8:Int)==8)=true:=by decide
   rw [show cV 8 l.length=((l.length:Int)==2) by unfold cV;simp];exact ij
  by_cases lj:kd=10
  ·subst lj
   have f1:((10:Int)==1)=false:=by decide
   have f2:((10:Int)==2)=false:=by decide
   have f4:((10:Int)==4)=false:=by decide
   have f14:((10:Int)==14)=false:=by decide
   have f3:((10:Int)==3)=false:=by decide
   have f5:((10:Int)==5)=false:=by decide
   have f7:((10:Int)==7)=false:=by decide
   have f11:((10:Int)==11)=false:=by decide
   have f12:((10:Int)==12)=false:=by decide
   have f13:((10:Int)==13)=false:=by decide
   have f6:((10:Int)==6)=false:=by decide
   have f8:((10:Int)==8)=false:=by decide
   have f10:((10:Int)==10)=true:=by decide
   rw [show cV 10 l.length=((l.length:Int)==2) by unfold cV;simp];exact ij
  by_cases h9:kd=9
  ·subst h9
   have f1:((9:Int)==1)=false:=by decide
   have f2:((9:Int)==2)=false:=by decide
   have f4:((9:Int)==4)=false:=by decide
   have f14:((9:Int)==14)=false:=by decide
   have f3:((9:Int)==3)=false:=by decide
   have f5:((9:Int)==5)=false:=by decide
   have f7:((9:Int)==7)=false:=by decide
   have f11:((9:Int)==11)=false:=by decide
   have f12:((9:Int)==12)=false:=by decide
   have f13:((9:Int)==13)=false:=by decide
   have f6:((9:Int)==6)=false:=by decide
   have f8:((9:Int)==8)=false:=by decide
   have f10:((9:Int)==10)=false:=by decide
   have f9:((9:Int)==9)=true:=by decide
   cases hq:((l.length:Int)==2) with
   | true =>
    rw [show cV 9 l.length=true by unfold cV;simp [hq]];exact ij
   | false =>
    rw [show cV 9 l.length=((l.length:Int)==3) by unfold cV;simp [hq]];exact ij
  have e:cV kd l.length=false:=by unfold cV;simp [h1,h2,h4,AN,h3,h5,h7,oB,n5,eK,h6,h8,lj,h9]
  rw [e]
  have g1:(kd==1)=false:=by simpa using h1
  have g2:(kd==2)=false:=by simpa using h2
  have g4:(kd==4)=false:=by simpa using h4
  have g14:(kd==14)=false:=by simpa using AN
  have g3:(kd==3)=false:=by simpa using h3
  have g5:(kd==5)=false:=by simpa using h5
  have g7:(kd==7)=false:=by simpa using h7
  have g11:(kd==11)=false:=by simpa using oB
  have g12:(kd==12)=false:=by simpa using n5
  have g13:(kd==13)=false:=by simpa using eK
  have g6:(kd==6)=false:=by simpa using h6
  have g8:(kd==8)=false:=by simpa using h8
  have g10:(kd==10)=false:=by simpa using lj
  have g9:(kd==9)=false:=by simpa using h9
  exact ij
 ·rintro _ _ ⟨rfl,rfl⟩;generalize cV kd t.kids.length=b0;refine ae ?_;refine GW.range (cm t.kids).length (fun k fr Γ=>fr=[.U,.U,.U,.U,.v (.bool (b0&&(t.kids.take k).all fP)),.U,.U,.U,.U,.U,.U,.U,.U,.U,.U,.U,.U,.U,.U,.U,.U,.U,.U,.U,.U,.U,.U,.U,.U,.U,.U,.U,.U,.U,.U,.U,.U,.U,.U,.U,.U,.U,.U,.U,.U,.U,.U,.U,.U,.U,.U,.sl 1 (cm t.kids),.v (ii ((cm t.kids).length:Int)),.v (ii (k:Nat)),.U,.U,.U,.U,.U,.U,.U,.U,.U,.U]/\Γ=[]) ?_ ah ?_ ?_ ?_
  ·refine ⟨_,_,Wk.aD (cj:=[.U,.U,.U,.U,.v (.bool b0),.U,.U,.U,.U,.U,.U,.U,.U,.U,.U,.U,.U,.U,.U,.U,.U,.U,.U,.U,.U,.U,.U,.U,.U,.U,.U,.U,.U,.U,.U,.U,.U,.U,.U,.U,.U,.U,.U,.U,.U,.U,.U,.U,.U,.U,.U,.sl 1 (cm t.kids),.v (ii ((cm t.kids).length:Int)),.v (ii (0:Nat)),.U,.U,.U,.U,.U,.U,.U,.U,.U,.U]) ar,?_,rfl⟩;rw [List.take_zero,List.all_nil,Bool.and_true]
  ·rintro k _ _ ⟨rfl,rfl⟩;exact dO
  ·rintro k _ _ ao ⟨rfl,rfl⟩;rw [oI] at ao;obtain ⟨kid,gZ⟩:∃ kid,t.kids[k]?=some kid:=⟨t.kids[k],by simp [ao]⟩;have hr:=vr gZ;have cR:=Go.Xp.uG gZ;have hle:=Go.Xp.uF t.kids (k+1);have C7:=ih kid ah ah
   have aM:(t.kids.take (k+1)).all fP=((t.kids.take k).all fP&&fP kid):=by rw [take_add_one,gZ,all_append];simp
   rw [aM,<-Bool.and_assoc];generalize (b0&&(t.kids.take k).all fP)=b at *
   cases b with
   | true =>
    refine ae ?_;refine ab [] C7 ?_;exact ⟨rfl,rfl,_,_,Wk.aD ar,rfl,rfl⟩
   | false =>
    refine ae ?_;exact ⟨rfl,rfl,_,_,Wk.aD ar,rfl,rfl⟩
  ·rintro _ _ ⟨rfl,rfl⟩;rw [oI,take_length];exact aw
def wx (l:List T):Int:=match l.findIdx? (fun t=>!(fP t)) with | some i=>(i:Int) | none => -1
theorem M9 (t:T) (hb:aR t<=1099511627776):GF Tryz.prog 157 [uT t] [] (.v (.bool (!(fP t)))) []:=by
 have h:=Py _ t (Nat.le_refl _) hb;generalize fP t=b at *;refine aj Tryz.func157 Tryz.ntmps157 ?_;refine ab [] h ?_;exact al
theorem GS (l:List T) (hl:l.length<=1099511627776) (hb:∀ t∈l,aR t<=1099511627776) :
  GF Tryz.prog 194 [.sl 1 (cm l),.v (.func (.func 157) #[] #[])] [] (.v (ii (wx l))) []:=by
 have oI:=qG l;refine aj Tryz.func194 Tryz.ntmps194 ?_;refine GW.range (cm l).length (fun k fr Γ=>fr=[.sl 1 (cm l),.v (.func (.func 157) #[] #[]),.U,.U,.U,.U,.U,.v (ii ((cm l).length:Int)),.v (ii (k:Nat)),.U,.U,.U,.U,.U,.U,.U,.U,.U,.U]/\Γ=[]/\(l.take k).all fP=true) ?_ ah ?_ ?_ ?_
 ·exact iF
 ·exact fE
 ·rintro k _ _ ao ⟨rfl,rfl,aM⟩;rw [oI] at ao
  have b6:l[k]?=some l[k]:=by simp [ao]
  have hr:=vr b6;have bN:=M9 l[k] (hb _ (List.getElem_mem ao))
  have bh:(l.take (k+1)).all fP=((l.take k).all fP&&fP l[k]):=by rw [take_add_one,b6,all_append];simp
  have ze:fP l[k]=false->wx l=(k:Int):=fun h0=>by
   have:l.findIdx? (fun t=>!(fP t))=some k:=by
    rw [List.findIdx?_eq_some_iff_getElem];refine ⟨ao,by simp [h0],fun j hj=>?_⟩;rw [all_eq_true] at aM;have:=aM l[j] (by rw [List.mem_take_iff_getElem];exact ⟨j,by omega,rfl⟩);simp [this]
   unfold wx;rw [this]
  generalize l[k]=t at *
  cases hk:fP t with
  | true =>
   rw [hk] at bN bh;refine ae ?_;refine iD [] bN ?_;refine ae ?_;exact ⟨rfl,rfl,_,_,Wk.aD ar,rfl,rfl,by rw [bh,aM];rfl⟩
  | false =>
   rw [hk] at bN;rw [ze hk];refine ae ?_;refine iD [] bN ?_;exact aw
 ·rintro _ _ ⟨rfl,rfl,aM⟩;rw [oI,take_length] at aM
  have:l.findIdx? (fun t=>!(fP t))=none:=by
   rw [List.findIdx?_eq_none_iff];intro x hx;rw [all_eq_true] at aM;simp [aM x hx]
  unfold wx;rw [this];exact aw
theorem PV (l:List T):decide ((0:Int)<=wx l)=!(l.all fP):=by
 unfold wx
 cases h:l.findIdx? (fun t=>!(fP t)) with
 | some i =>
  rw [List.findIdx?_eq_some_iff_getElem] at h;obtain ⟨h1,h2,_⟩:=h
  have:l.all fP=false:=by
   rw [List.all_eq_false];exact ⟨l[i],List.getElem_mem _,by simpa using h2⟩
  rw [this];simp
 | none =>
  rw [List.findIdx?_eq_none_iff] at h
  have:l.all fP=true:=by rw [all_eq_true];intro x hx;simpa using h x hx
  rw [this];rfl
theorem uH (l:List T) (hl:l.length<=1099511627776) (hb:∀ t∈l,aR t<=1099511627776) :
  GF Tryz.prog 156 [.sl 1 (cm l),.v (.func (.func 157) #[] #[])] [] (.v (.bool (!(l.all fP)))) []:=by
 have h:=GS l hl hb;rw [<-PV];generalize wx l=z at *;refine aj Tryz.func156 Tryz.ntmps156 ?_;refine ab [] h ?_;exact al
end Go.Xg
set_option maxHeartbeats 2000000
namespace Go.Xg
open Go.RowKit Go.Xw Go.Proofs
open Go.Xp (Tok Nd T Ar aR aB eg)
open Go.Sp (Src)
open Go.Im
attribute [local irreducible] GW GL GO YG GC GA aY ba
theorem QB:Wr 160 161 cP fu :=
 ⟨fun a h1 h2 h3=>Tl _ a (Nat.le_refl _) h1 h2 h3,fun l d h1 h2 h3=>Pr l d h1 h2,fun l d s h=>Ps h⟩
theorem D8 (p:Src) (h:p.nodes.length > 800):GF Tryz.prog 136 [.agg (ay p)] [] (.v (.bool false)) []:=by
 have hm:(p.nodes.map az).length=p.nodes.length:=by simp
 have hd:decide ((800:Int) < ((p.nodes.map az).length:Int))=true:=by rw [hm];simpa using by omega
 refine aj Tryz.func136 Tryz.ntmps136 ?_;exact al
theorem BE (p:Src) (h:p.nodes.length<=800) (hk:∀ n∈p.nodes,n.kids.length<=1099511627776) (hf:p.fns.length<=1099511627776) (hb:jj p.nodes p.fns 0 []=none):GF Tryz.prog 136 [.agg (ay p)] [] (.v (.bool false)) []:=by
 have hm:(p.nodes.map az).length=p.nodes.length:=by simp
 have hd:decide ((800:Int) < ((p.nodes.map az).length:Int))=false:=by rw [hm];simpa using by omega
 have hB:=vM p ah hk hf;rw [hb] at hB;unfold BO at hB;refine aj Tryz.func136 Tryz.ntmps136 ?_;refine ab [] hB ?_;exact al
theorem GK (p:Src) (l:List T) (e:Nat) (h:p.nodes.length<=800) (hk:∀ n∈p.nodes,n.kids.length<=1099511627776) (hf:p.fns.length<=1099511627776) (hb:jj p.nodes p.fns 0 []=some (l,e)) (he:e≠p.nodes.length):GF Tryz.prog 136 [.agg (ay p)] [] (.v (.bool false)) []:=by
 have hm:(p.nodes.map az).length=p.nodes.length:=by simp
 have hd:decide ((800:Int) < ((p.nodes.map az).length:Int))=false:=by rw [hm];simpa using by omega
 have hB:=vM p ah hk hf;rw [hb] at hB;unfold BO at hB;simp only at hB;rw [show ((e:Int)==(p.nodes.length:Int))=false by simp only [beq_eq_false_iff_ne,ne_eq];omega] at hB;refine aj Tryz.func136 Tryz.ntmps136 ?_;refine ab [] hB ?_;exact al
theorem D7 (p:Src) (l:List T) (h:p.nodes.length<=800) (hk:∀ n∈p.nodes,n.kids.length<=1099511627776) (hf:p.fns.length<=1099511627776) (hb:jj p.nodes p.fns 0 []=some (l,p.nodes.length)) (hl:l.length<=1099511627776) (hs:∀ t∈l,aR t<=1099511627776) (hn:l.all fP=false):GF Tryz.prog 136 [.agg (ay p)] [] (.v (.bool false)) []:=by
 have hm:(p.nodes.map az).length=p.nodes.length:=by simp
 have hd:decide ((800:Int) < ((p.nodes.map az).length:Int))=false:=by rw [hm];simpa using by omega
 have hB:=vM p ah hk hf;rw [hb] at hB;unfold BO at hB;simp only at hB;rw [show ((p.nodes.length:Int)==(p.nodes.length:Int))=true by simp] at hB;have hC:=uH l hl hs;rw [hn] at hC;refine aj Tryz.func136 Tryz.ntmps136 ?_;refine ab [] hB ?_;refine ab [] hC ?_;exact al
theorem NO (st:PS) (h:st.fns.length=st.trees.length):nm st.fns st.trees st.trees.length=(oQ st).map ax:=by
 unfold nm oQ;apply ext_getElem?;intro i;rw [getElem?_map,getElem?_mapIdx,getElem?_mapIdx]
 cases hx:st.fns[i]? with
 | none=>rfl
 | some x =>
  have hi:=(List.getElem?_eq_some_iff.1 hx).1;simp only [Option.map_some];rw [if_pos ah];rfl
def RE (st:PS):Src:=⟨st.globals,st.arrays,oQ st,eg 0 st.trees⟩
theorem Vy {q:Go.Sp.RS} {st:PS} (hc:q.code=0) (h8:¬ aB st.trees > 800) (h:st.fns.length=st.trees.length):IV q st=.tup [.agg (ay (RE st)),.v (ii 0),.v (ii 0)]:=by
 unfold IV;rw [if_pos hc,if_neg h8,NO st h];rfl
theorem GM (p:Src) (l:List T) (x:ai) (ts:List Tok) (c z:Int) (h:p.nodes.length<=800) (hB:GF Tryz.prog 155 [.agg (ay p)] [] (.tup [.sl 1 (cm l),.v (.bool true)]) [])
  (hC:GF Tryz.prog 156 [.sl 1 (cm l),.v (.func (.func 157) #[] #[])] [] (.v (.bool false)) [])
  (hL:GF Tryz.prog 159 [.agg (ay p),.sl 1 (cm l),.v (iH 160),.v (iH 161)] [] (.v (sv x)) [])
  (hX:GF Tryz.prog 162 [.v (sv x)] [] (.tup [iz ts,.v (ii c),.v (ii z)]) []) (hc:(c != 0)=true) :
  GF Tryz.prog 136 [.agg (ay p)] [] (.v (.bool false)) []:=by
 have hm:(p.nodes.map az).length=p.nodes.length:=by simp
 have hd:decide ((800:Int) < ((p.nodes.map az).length:Int))=false:=by rw [hm];simpa using by omega
 refine aj Tryz.func136 Tryz.ntmps136 ?_;refine ab [] hB ?_;refine ab [] hC ?_;refine ab [] hL ?_;refine ab [] hX ?_;exact al
theorem yT (p:Src) (l:List T) (x:ai) (ts:List Tok) (c k a:Int) (h:p.nodes.length<=800) (hB:GF Tryz.prog 155 [.agg (ay p)] [] (.tup [.sl 1 (cm l),.v (.bool true)]) [])
  (hC:GF Tryz.prog 156 [.sl 1 (cm l),.v (.func (.func 157) #[] #[])] [] (.v (.bool false)) [])
  (hL:GF Tryz.prog 159 [.agg (ay p),.sl 1 (cm l),.v (iH 160),.v (iH 161)] [] (.v (sv x)) [])
  (hX:GF Tryz.prog 162 [.v (sv x)] [] (.tup [iz ts,.v (ii 0),.v (ii c)]) [])
  (hP:GF Tryz.prog 163 [iz ts,.v (ii (x.length:Int))] [] (.tup [.agg [.sl 1 [],.sl 2 [],.sl 3 [],.sl 5 []],.v (ii k),.v (ii a)]) []) (hk:(k==0)=false) :
  GF Tryz.prog 136 [.agg (ay p)] [] (.v (.bool false)) []:=by
 have hm:(p.nodes.map az).length=p.nodes.length:=by simp
 have hd:decide ((800:Int) < ((p.nodes.map az).length:Int))=false:=by rw [hm];simpa using by omega
 refine aj Tryz.func136 Tryz.ntmps136 ?_;refine ab [] hB ?_;refine ab [] hC ?_;refine ab [] hL ?_;refine ab [] hX ?_;refine ab [] hP ?_;exact al
theorem Jl (p r:Src) (l:List T) (x:ai) (ts:List Tok) (c:Int) (h:p.nodes.length<=800) (hB:GF Tryz.prog 155 [.agg (ay p)] [] (.tup [.sl 1 (cm l),.v (.bool true)]) [])
  (hC:GF Tryz.prog 156 [.sl 1 (cm l),.v (.func (.func 157) #[] #[])] [] (.v (.bool false)) [])
  (hL:GF Tryz.prog 159 [.agg (ay p),.sl 1 (cm l),.v (iH 160),.v (iH 161)] [] (.v (sv x)) [])
  (hX:GF Tryz.prog 162 [.v (sv x)] [] (.tup [iz ts,.v (ii 0),.v (ii c)]) [])
   (hg:GF Tryz.prog 164 [strs p.globals,strs r.globals] [] (.v (.bool false)) [])
  (hP:GF Tryz.prog 163 [iz ts,.v (ii (x.length:Int))] [] (.tup [.agg (ay r),.v (ii 0),.v (ii 0)]) []) :
  GF Tryz.prog 136 [.agg (ay p)] [] (.v (.bool false)) []:=by
 have hm:(p.nodes.map az).length=p.nodes.length:=by simp
 have hd:decide ((800:Int) < ((p.nodes.map az).length:Int))=false:=by rw [hm];simpa using by omega
 refine aj Tryz.func136 Tryz.ntmps136 ?_;refine ab [] hB ?_;refine ab [] hC ?_;refine ab [] hL ?_;refine ab [] hX ?_;refine ab [] hP ?_;refine ab [] hg ?_;exact al
theorem Jm (p r:Src) (l:List T) (x:ai) (ts:List Tok) (c:Int) (h:p.nodes.length<=800) (hB:GF Tryz.prog 155 [.agg (ay p)] [] (.tup [.sl 1 (cm l),.v (.bool true)]) [])
  (hC:GF Tryz.prog 156 [.sl 1 (cm l),.v (.func (.func 157) #[] #[])] [] (.v (.bool false)) [])
  (hL:GF Tryz.prog 159 [.agg (ay p),.sl 1 (cm l),.v (iH 160),.v (iH 161)] [] (.v (sv x)) [])
  (hX:GF Tryz.prog 162 [.v (sv x)] [] (.tup [iz ts,.v (ii 0),.v (ii c)]) [])
   (hg:GF Tryz.prog 164 [strs p.globals,strs r.globals] [] (.v (.bool true)) [])
  (ha:GF Tryz.prog 165 [(.sl 2 (p.arrays.map fun s=>aH s)),(.sl 2 (r.arrays.map fun s=>aH s))] [] (.v (.bool false)) [])
  (hP:GF Tryz.prog 163 [iz ts,.v (ii (x.length:Int))] [] (.tup [.agg (ay r),.v (ii 0),.v (ii 0)]) []) :
  GF Tryz.prog 136 [.agg (ay p)] [] (.v (.bool false)) []:=by
 have hm:(p.nodes.map az).length=p.nodes.length:=by simp
 have hd:decide ((800:Int) < ((p.nodes.map az).length:Int))=false:=by rw [hm];simpa using by omega
 refine aj Tryz.func136 Tryz.ntmps136 ?_;refine ab [] hB ?_;refine ab [] hC ?_;refine ab [] hL ?_;refine ab [] hX ?_;refine ab [] hP ?_;refine ab [] hg ?_;refine ab [] ha ?_;exact al
theorem Jn (p r:Src) (l:List T) (x:ai) (ts:List Tok) (c:Int) (h:p.nodes.length<=800) (hB:GF Tryz.prog 155 [.agg (ay p)] [] (.tup [.sl 1 (cm l),.v (.bool true)]) [])
  (hC:GF Tryz.prog 156 [.sl 1 (cm l),.v (.func (.func 157) #[] #[])] [] (.v (.bool false)) [])
  (hL:GF Tryz.prog 159 [.agg (ay p),.sl 1 (cm l),.v (iH 160),.v (iH 161)] [] (.v (sv x)) [])
  (hX:GF Tryz.prog 162 [.v (sv x)] [] (.tup [iz ts,.v (ii 0),.v (ii c)]) [])
   (hg:GF Tryz.prog 164 [strs p.globals,strs r.globals] [] (.v (.bool true)) [])
  (ha:GF Tryz.prog 165 [(.sl 2 (p.arrays.map fun s=>aH s)),(.sl 2 (r.arrays.map fun s=>aH s))] [] (.v (.bool true)) [])
  (hf:GF Tryz.prog 166 [.sl 3 (p.fns.map ax),.sl 3 (r.fns.map ax),.v (.func (.func 167) #[] #[])] [] (.v (.bool false)) [])
  (hP:GF Tryz.prog 163 [iz ts,.v (ii (x.length:Int))] [] (.tup [.agg (ay r),.v (ii 0),.v (ii 0)]) []) :
  GF Tryz.prog 136 [.agg (ay p)] [] (.v (.bool false)) []:=by
 have hm:(p.nodes.map az).length=p.nodes.length:=by simp
 have hd:decide ((800:Int) < ((p.nodes.map az).length:Int))=false:=by rw [hm];simpa using by omega
 refine aj Tryz.func136 Tryz.ntmps136 ?_;refine ab [] hB ?_;refine ab [] hC ?_;refine ab [] hL ?_;refine ab [] hX ?_;refine ab [] hP ?_;refine ab [] hg ?_;refine ab [] ha ?_;refine ab [] hf ?_;exact al
theorem Jo (p r:Src) (l:List T) (x:ai) (ts:List Tok) (c:Int) (b:Bool) (h:p.nodes.length<=800) (hB:GF Tryz.prog 155 [.agg (ay p)] [] (.tup [.sl 1 (cm l),.v (.bool true)]) [])
  (hC:GF Tryz.prog 156 [.sl 1 (cm l),.v (.func (.func 157) #[] #[])] [] (.v (.bool false)) [])
  (hL:GF Tryz.prog 159 [.agg (ay p),.sl 1 (cm l),.v (iH 160),.v (iH 161)] [] (.v (sv x)) [])
  (hX:GF Tryz.prog 162 [.v (sv x)] [] (.tup [iz ts,.v (ii 0),.v (ii c)]) [])
   (hg:GF Tryz.prog 164 [strs p.globals,strs r.globals] [] (.v (.bool true)) [])
  (ha:GF Tryz.prog 165 [(.sl 2 (p.arrays.map fun s=>aH s)),(.sl 2 (r.arrays.map fun s=>aH s))] [] (.v (.bool true)) [])
  (hf:GF Tryz.prog 166 [.sl 3 (p.fns.map ax),.sl 3 (r.fns.map ax),.v (.func (.func 167) #[] #[])] [] (.v (.bool true)) [])
  (hn:GF Tryz.prog 168 [.sl 5 (p.nodes.map az),.sl 5 (r.nodes.map az),.v (.func (.func 169) #[] #[])] [] (.v (.bool b)) [])
  (hP:GF Tryz.prog 163 [iz ts,.v (ii (x.length:Int))] [] (.tup [.agg (ay r),.v (ii 0),.v (ii 0)]) []) :
  GF Tryz.prog 136 [.agg (ay p)] [] (.v (.bool b)) []:=by
 have hm:(p.nodes.map az).length=p.nodes.length:=by simp
 have hd:decide ((800:Int) < ((p.nodes.map az).length:Int))=false:=by rw [hm];simpa using by omega
 refine aj Tryz.func136 Tryz.ntmps136 ?_;refine ab [] hB ?_;refine ab [] hC ?_;refine ab [] hL ?_;refine ab [] hX ?_;refine ab [] hP ?_;refine ab [] hg ?_;refine ab [] ha ?_;refine ab [] hf ?_;refine ab [] hn ?_;exact al
theorem D9 (p r:Src) (l:List T) (x:ai) (ts:List Tok) (c:Int) (b1 b2 b3 b4:Bool) (h:p.nodes.length<=800) (hB:GF Tryz.prog 155 [.agg (ay p)] [] (.tup [.sl 1 (cm l),.v (.bool true)]) [])
  (hC:GF Tryz.prog 156 [.sl 1 (cm l),.v (.func (.func 157) #[] #[])] [] (.v (.bool false)) [])
  (hL:GF Tryz.prog 159 [.agg (ay p),.sl 1 (cm l),.v (iH 160),.v (iH 161)] [] (.v (sv x)) [])
  (hX:GF Tryz.prog 162 [.v (sv x)] [] (.tup [iz ts,.v (ii 0),.v (ii c)]) [])
  (hg:GF Tryz.prog 164 [strs p.globals,strs r.globals] [] (.v (.bool b1)) [])
  (ha:GF Tryz.prog 165 [(.sl 2 (p.arrays.map fun s=>aH s)),(.sl 2 (r.arrays.map fun s=>aH s))] [] (.v (.bool b2)) [])
  (hf:GF Tryz.prog 166 [.sl 3 (p.fns.map ax),.sl 3 (r.fns.map ax),.v (.func (.func 167) #[] #[])] [] (.v (.bool b3)) [])
  (hn:GF Tryz.prog 168 [.sl 5 (p.nodes.map az),.sl 5 (r.nodes.map az),.v (.func (.func 169) #[] #[])] [] (.v (.bool b4)) [])
  (hP:GF Tryz.prog 163 [iz ts,.v (ii (x.length:Int))] [] (.tup [.agg (ay r),.v (ii 0),.v (ii 0)]) []) :
  GF Tryz.prog 136 [.agg (ay p)] [] (.v (.bool (b1&&(b2&&(b3&&b4))))) []:=by
 cases b1 with
 | false=>exact Jl p r l x ts c h hB hC hL hX hg hP
 | true =>
  cases b2 with
  | false=>exact Jm p r l x ts c h hB hC hL hX hg ha hP
  | true =>
   cases b3 with
   | false=>exact Jn p r l x ts c h hB hC hL hX hg ha hf hP
   | true=>exact Jo p r l x ts c b4 h hB hC hL hX hg ha hf hn hP
end Go.Xg
set_option maxHeartbeats 1000000
namespace Go.Xg
open Go.RowKit Go.Xw Go.Proofs
open Go.Xp (Tok Nd T Ar aR aB eg)
open Go.Sp (Src)
open Go.Im
attribute [local irreducible] GW GL GO YG GC GA aY ba
theorem Mh {st:PS} {f:Go.Sp.Fn} (h:f∈oQ st):∃ x∈st.fns,f.params=x.2:=by
 unfold oQ at h;obtain ⟨i,hi⟩:=List.getElem?_of_mem h;rw [getElem?_mapIdx] at hi
 cases hx:st.fns[i]? with
 | none=>rw [hx] at hi;cases hi
 | some x=>rw [hx] at hi;cases hi;exact ⟨x,mem_of_getElem? hx,rfl⟩
theorem Li (p:Src) (hw:dB p<=1048576) (hn:xe p):GF Tryz.prog 136 [.agg (ay p)] [] (.v (.bool (fI p))) []:=by
 obtain ⟨⟨s1,s2⟩,⟨s3,s4⟩,⟨s5,s6⟩,⟨s7,s8⟩⟩:=fg p
 have eX:∀ n∈p.nodes,n.kids.length<=1099511627776:=fun n h=>by have:=(s8 n h).2;omega
 have hB:=vM p ah eX ah;unfold fI
 by_cases h8:p.nodes.length > 800
 ·rw [if_pos h8];exact D8 p h8
 rw [if_neg h8]
 cases hb:jj p.nodes p.fns 0 [] with
 | none=>exact BE p ah eX ah hb
 | some y =>
  obtain ⟨l,e⟩:=y;simp only
  by_cases he:e≠p.nodes.length
  ·rw [if_pos he];exact GK p l e ah eX ah hb he
  rw [if_neg he]
  have he:e=p.nodes.length:=by simpa using he
  subst he;obtain ⟨l',h1,h2,h3,h4,h5⟩:=BP _ _ _ _ _ hb;rw [nil_append] at h1;subst h1
  have hz:aB l=p.nodes.length:=by omega
  have aam:=SC hn h2 hz;have oI:=Gs h2 hz;have pL:=fw.len h3;have Zh:=dy.num hn.nodes l 0 h2
  by_cases hk:l.all fP=false
  ·rw [if_pos hk];exact D7 p l ah eX ah hb ah (fun t ht=>by have:=(oI t ht).2;omega) hk
  rw [if_neg hk]
  have hk:l.all fP=true:=by simpa using hk
  obtain ⟨ts,c,z,q,st,hr⟩:=reads (mU cP fu p l);rw [Ae hr];rw [hb] at hB;unfold BO at hB;simp only at hB;rw [show ((p.nodes.length:Int)==(p.nodes.length:Int))=true by simp] at hB;have hC:=uH l ah (fun t ht=>by have:=(oI t ht).2;omega);rw [hk] at hC;have hL:=PF 160 161 cP fu QB p l ah ah ah ah ah hn.arrays (fun f h=>by have:=(s6 f h).2.1;omega)
   (fun t ht=>⟨List.all_eq_true.1 hk t ht,jG Zh ht,by have:=(oI t ht).1;omega,by have:=(oI t ht).2;omega⟩)
  have hX:=PQ _ _ ts c z ah hr.lex;have aaE:=hr.len;have hP:=Hn ts (((mU cP fu p l).length:Nat):Int) q st ah ah (fun h=>by have:=(hr.ok h).2;omega) hr.read;have iU:=M3 _ _ _ _ _ _ (Nat.le_refl _) hr.read ⟨Nat.zero_le _,Nat.zero_le _,Nat.zero_le _,fun x h=>by cases h⟩;have eH:=hr.ok;clear hr hb;generalize hxg:mU cP fu p l=x at *
  by_cases hc:c≠0
  ·rw [if_pos hc];exact GM p l x ts c z ah hB hC hL hX (by simpa using hc)
  rw [if_neg hc]
  have hc:c=0:=by simpa using hc
  subst hc
  by_cases hq:q.code≠0
  ·rw [if_pos hq];unfold IV at hP;rw [if_neg hq] at hP;exact yT p l x ts z q.code q.at_ ah hB hC hL hX hP (by simpa using hq)
  rw [if_neg hq]
  have hq:q.code=0:=by simpa using hq
  obtain ⟨Dd,MX⟩:=eH hq
  by_cases h9:aB st.trees > 800
  ·rw [if_pos h9];unfold IV at hP;rw [if_pos hq,if_pos h9] at hP;exact yT p l x ts z 10 0 ah hB hC hL hX hP aK
  rw [if_neg h9];rw [Vy hq h9 Dd.len] at hP;obtain ⟨m1,m2,m3,m4⟩:=iU
  have jB:(eg 0 st.trees).length<=800:=by rw [Go.Xp.yu];omega
  unfold same;refine D9 p (RE st) l x ts z _ _ _ _ ah hB hC hL hX ?_ ?_ ?_ ?_ hP
  ·exact Hx _ _ ah (by show st.globals.length<=_;omega)
  ·exact RT _ _ ah (by show st.arrays.length<=_;omega)
  ·refine GH p.fns (oQ st) ah ?_ (fun f h=>by have:=(s6 f h).2.1;omega) (fun f h=>?_)
   ·unfold oQ;rw [List.length_mapIdx];omega
   ·obtain ⟨y,hy,h6⟩:=Mh h;rw [h6];have:=m4 y hy;omega
  ·exact GJ p.nodes (eg 0 st.trees) ah ah eX (fun n h=>by have:=zH st.trees 0 n h;omega)
end Go.Xg
set_option maxHeartbeats 2000000
namespace Go.Im
open Go.Xp Go.Sp
theorem Bg (p:Src):(cJ p).length=p.globals.length+p.arrays.length+p.fns.length:=by simp [cJ,eP,iu];omega
end Go.Im
namespace Go.Xg
open Go.RowKit Go.Xw Go.Proofs
open Go.Xp (Nd Ar)
open Go.Sp (Src)
open Go.Im
attribute [local irreducible] GW GL GO YG GC GA aY ba
theorem wA:∀ l:List ai,l9 (cl l)=true
 | []=>rfl
 | s::l=>by
  have:=wA l;unfold cl at this |-;rw [List.map_cons,l9,this];rfl
theorem o0 (l:List ai):(cl l).length=l.length:=by simp [cl]
theorem Js (p:Src) (hw:dB p<=1048576):GC Tryz.prog 82 [.agg (ay p)] [] fun g Δ=>∃ a c,g=.v (.slice a (cJ p).length c)/\Δ=[.vech 9 1 (cl (cJ p)) (.slice a (cJ p).length c)]:=by
 obtain ⟨⟨a1,a2⟩,⟨b1,b2⟩,⟨c1,c2⟩,⟨d1,d2⟩⟩:=fg p
 have AY:(p.globals.map fun s=>[GV.v (sv s)]).length=p.globals.length:=by simp
 have hY:l9 (p.globals.map fun s=>[GV.v (sv s)])=true:=wA p.globals;refine df Tryz.func82 Tryz.ntmps82 ?_;refine GW.wk (Wk.oq 9 1) ?_;simp only [nil_append];refine ae ?_;refine GL.DW 0 rfl rfl rfl rfl hY (by refine ⟨?_,?_⟩;(· rw [AY];omega);(· rw [AY];omega)) ?_;intro a c;rw [AY];refine b8 ?_;simp only [nil_append,length_nil,Nat.zero_add];refine ae ?_;refine GW.range (p.arrays.map aH).length (fun k fr Γ=>∃ a c R n,fr=[.U,.loc 1 0,.U,.v (.slice a n c),.U,.U,.U,.U,.U,.U,.U,.U,.sl 2 (p.arrays.map aH),.v (ii ((p.arrays.map aH).length:Int)),.v (ii (k:Nat)),.U,.U,.U,.U,.U,.U,.U,.U,.U,.U,.U,.U,.U,.U,.U,.U,.U,.U,.U,.U,.U,.U,.U]/\Γ=[.vech 9 1 R (.slice a n c),.box 34 (ay p)]/\R.length=n/\R=cl (p.globals++(eP p).take k)) ?_ (by rw [length_map];omega) ?_ ?_ ?_
 ·exact ⟨_,_,Wk.aD ar,_,_,_,_,rfl,rfl,AY,by simp [cl]⟩
 ·rintro k _ _ ⟨a,c,R,n,rfl,rfl,_⟩;exact dO
 ·rintro k _ _ hk ⟨a,c,R,n,rfl,rfl,eG,hR⟩
  have hk:k < p.arrays.length:=by simpa using hk
  have hx:p.arrays[k]?=some p.arrays[k]:=by simp [hk]
  have hr:=F0 hx
  have bh:cl (p.globals++(eP p).take (k+1))=R++[[.v (sv p.arrays[k].name)]]:=by
   have:(eP p)[k]?=some p.arrays[k].name:=by rw [eP,getElem?_map,hx];rfl
   rw [take_add_one,this,hR];simp [cl]
  have tV:n<=4194304:=by
   rw [<-eG,hR,o0,length_append,length_take];omega
  clear hR;unfold aH at hr;generalize p.arrays[k]=x at *;refine ae ?_;refine GL.jx 0 rfl rfl rfl rfl rfl rfl rfl rfl bd mc ?_;intro a2 c2;refine bT ?_;refine ae ?_;exact ⟨rfl,rfl,_,_,(Wk.cut (n:=2) (Nat.zero_le _) rfl).trans (Wk.aD ar),a2,c2,_,_,rfl,rfl,by simp [eG],bh.symm⟩
 ·rintro _ _ ⟨a,c,R,n,rfl,rfl,eG,hR⟩;rw [length_map,show p.arrays.length=(eP p).length by simp [eP],take_length] at hR;refine be ?_;refine ae ?_;refine GW.range (p.fns.map ax).length (fun k fr Γ=>∃ a c R n,fr=[.U,.loc 1 0,.U,.v (.slice a n c),.U,.U,.U,.U,.U,.U,.U,.U,.U,.U,.U,.U,.U,.U,.U,.U,.U,.U,.U,.U,.U,.sl 3 (p.fns.map ax),.v (ii ((p.fns.map ax).length:Int)),.v (ii (k:Nat)),.U,.U,.U,.U,.U,.U,.U,.U,.U,.U]/\Γ=[.vech 9 1 R (.slice a n c),.box 34 (ay p)]/\R.length=n/\R=cl ((p.globals++eP p)++(iu p).take k)) ?_ (by rw [length_map];omega) ?_ ?_ ?_
  ·exact ⟨_,_,Wk.aD ar,_,_,_,_,rfl,rfl,eG,by rw [hR];simp⟩
  ·rintro k _ _ ⟨a,c,R,n,rfl,rfl,_⟩;exact dO
  ·rintro k _ _ hk ⟨a,c,R,n,rfl,rfl,eG,hR⟩
   have hk:k < p.fns.length:=by simpa using hk
   have hx:p.fns[k]?=some p.fns[k]:=by simp [hk]
   have hr:=Bo hx
   have bh:cl ((p.globals++eP p)++(iu p).take (k+1))=R++[[.v (sv p.fns[k].name)]]:=by
    have:(iu p)[k]?=some p.fns[k].name:=by rw [iu,getElem?_map,hx];rfl
    rw [take_add_one,this,hR];simp [cl]
   have tV:n<=4194304:=by
    rw [<-eG,hR,o0,length_append,length_append,length_take,eP,length_map];omega
   clear hR;unfold ax at hr;generalize p.fns[k]=x at *;refine ae ?_;refine GL.jx 0 rfl rfl rfl rfl rfl rfl rfl rfl bd mc ?_;intro a2 c2;refine bT ?_;refine ae ?_;exact ⟨rfl,rfl,_,_,(Wk.cut (n:=2) (Nat.zero_le _) rfl).trans (Wk.aD ar),a2,c2,_,_,rfl,rfl,by simp [eG],bh.symm⟩
  ·rintro _ _ ⟨a,c,R,n,rfl,rfl,eG,hR⟩;rw [length_map,show p.fns.length=(iu p).length by simp [iu],take_length] at hR
   have rl:n=(cJ p).length:=by rw [<-eG,hR,o0];rfl
   subst rl;refine be ?_;refine ae ?_;refine jo ?_;exact rG (n:=1) rfl cy rfl (Nat.zero_le _) rfl rfl ⟨a,c,rfl,by rw [hR];rfl⟩
end Go.Xg
set_option maxHeartbeats 4000000
namespace Go.Im
open Go.Xp Go.Sp
def w7 (l:List ai) (k:Nat):Int:=if (List.range k).any (kr l)=true then 21 else 0
theorem PU (l:List ai) (k:Nat):w7 l (k+1)=if kr l k=true then fM (w7 l k) 21 else w7 l k:=by
 unfold w7;rw [List.range_succ,List.any_append]
 cases h:(List.range k).any (kr l) with
 | true=>simp [fM]
 | false=>simp [fM]
theorem SO (l:List ai):w7 l l.length=if ed l=true then 21 else 0:=rfl
end Go.Im
namespace Go.Xg
open Go.RowKit Go.Xw Go.Proofs
open Go.Xp (Nd T Ar aR aB)
open Go.Sp (Src)
open Go.Im
attribute [local irreducible] GW GL GO YG GC GA aY ba
theorem Kc (p:Src) (hw:dB p<=1048576) :
  GF Tryz.prog 130 [.loc 0 0] [.box 133 (cC p (.slice none 0 0) ⟨[],0,0⟩)] (.tup []) [.box 133 (cC p (.slice none 0 0) ⟨[],(if ed (cJ p)=true then 21 else 0),0⟩)]:=by
 obtain ⟨⟨a1,a2⟩,⟨b1,b2⟩,⟨c1,c2⟩,⟨d1,d2⟩⟩:=fg p
 have AY:(p.globals.map fun s=>[GV.v (sv s)]).length=p.globals.length:=by simp
 have hY:l9 (p.globals.map fun s=>[GV.v (sv s)])=true:=wA p.globals;have rl:=Bg p;rw [<-SO]
 have xv:=fun k=>B0 p (.slice none 0 0) (w7 (cJ p) k) 21
 rw [show (0:Int)=w7 (cJ p) 0 from rfl];unfold cC at xv |-;refine aj Tryz.func130 Tryz.ntmps130 ?_;refine mI ?_;refine ae ?_;refine mI ?_;refine ae ?_;refine GL.V9 rfl rfl rfl rfl hY (by refine ⟨?_,?_⟩;(· rw [AY];omega);(· rw [AY];omega)) ?_;rw [AY];refine b8 ?_;simp only [Nat.zero_add];refine ae ?_;refine GW.range (p.arrays.map aH).length (fun k fr Γ=>∃ R n,fr=[.loc 0 0,.U,.vec 1 0,.vec 2 n,.U,.U,.U,.U,.U,.U,.U,.U,.U,.U,.U,.U,.U,.U,.U,.U,.U,.U,.sl 2 (p.arrays.map aH),.v (ii ((p.arrays.map aH).length:Int)),.v (ii (k:Nat)),.U,.U,.U,.U,.U,.U,.U,.U,.U,.U,.U,.U,.U,.U,.U,.U,.U,.U,.U,.U,.U,.U,.U,.U,.U,.U,.U,.U,.U,.U,.U,.U,.U,.U,.U,.U,.U,.U,.U,.U,.U,.U,.U,.U,.U]/\Γ=[.box 133 [strs p.globals,.sl 2 (p.arrays.map aH),.sl 3 (p.fns.map ax),.sl 5 (p.nodes.map az),.v (.slice none 0 0),.v (ii (w7 (cJ p) 0)),.v (ii 0)],.vec 9 1 0 [],.vec 9 1 0 R]/\R.length=n/\R=cl (p.globals++(eP p).take k)) ?_ (by rw [length_map];omega) ?_ ?_ ?_
 ·exact ⟨_,_,Wk.aD ar,_,_,rfl,rfl,AY,by simp [cl,chunk]⟩
 ·rintro k _ _ ⟨R,n,rfl,rfl,_⟩;exact dO
 ·rintro k _ _ hk ⟨R,n,rfl,rfl,eG,hR⟩
  have hk:k < p.arrays.length:=by simpa using hk
  have hx:p.arrays[k]?=some p.arrays[k]:=by simp [hk]
  have hr:=F0 hx
  have bh:cl (p.globals++(eP p).take (k+1))=R++[[.v (sv p.arrays[k].name)]]:=by
   have:(eP p)[k]?=some p.arrays[k].name:=by rw [eP,getElem?_map,hx];rfl
   rw [take_add_one,this,hR];simp [cl]
  have tV:n<=4194304:=by
   rw [<-eG,hR,o0,length_append,length_take];omega
  have hb:n+1<=9223372036854775807/\(n+1) * 16<=140737488355328:=by omega
  clear hR;unfold aH at hr;generalize p.arrays[k]=x at *;refine ae ?_;refine eR ?_;refine ae ?_;exact ⟨rfl,rfl,_,_,(Wk.cut (n:=3) (Nat.le_of_ble_eq_true rfl) rfl).trans (Wk.aD ar),_,_,rfl,rfl,by simp [eG],bh.symm⟩
 ·rintro _ _ ⟨R,n,rfl,rfl,eG,hR⟩;rw [length_map,show p.arrays.length=(eP p).length by simp [eP],take_length] at hR;refine be ?_;refine ae ?_;refine GW.range (p.fns.map ax).length (fun k fr Γ=>∃ R n,fr=[.loc 0 0,.U,.vec 1 0,.vec 2 n,.U,.U,.U,.U,.U,.U,.U,.U,.U,.U,.U,.U,.U,.U,.U,.U,.U,.U,.U,.U,.U,.U,.U,.U,.U,.U,.U,.U,.U,.U,.U,.U,.U,.U,.sl 3 (p.fns.map ax),.v (ii ((p.fns.map ax).length:Int)),.v (ii (k:Nat)),.U,.U,.U,.U,.U,.U,.U,.U,.U,.U,.U,.U,.U,.U,.U,.U,.U,.U,.U,.U,.U,.U,.U,.U,.U,.U,.U,.U,.U]/\Γ=[.box 133 [strs p.globals,.sl 2 (p.arrays.map aH),.sl 3 (p.fns.map ax),.sl 5 (p.nodes.map az),.v (.slice none 0 0),.v (ii (w7 (cJ p) 0)),.v (ii 0)],.vec 9 1 0 [],.vec 9 1 0 R]/\R.length=n/\R=cl ((p.globals++eP p)++(iu p).take k)) ?_ (by rw [length_map];omega) ?_ ?_ ?_
  ·exact ⟨_,_,Wk.aD ar,_,_,rfl,rfl,eG,by rw [hR];simp⟩
  ·rintro k _ _ ⟨R,n,rfl,rfl,_⟩;exact dO
  ·rintro k _ _ hk ⟨R,n,rfl,rfl,eG,hR⟩
   have hk:k < p.fns.length:=by simpa using hk
   have hx:p.fns[k]?=some p.fns[k]:=by simp [hk]
   have hr:=Bo hx
   have bh:cl ((p.globals++eP p)++(iu p).take (k+1))=R++[[.v (sv p.fns[k].name)]]:=by
    have:(iu p)[k]?=some p.fns[k].name:=by rw [iu,getElem?_map,hx];rfl
    rw [take_add_one,this,hR];simp [cl]
   have tV:n<=4194304:=by
    rw [<-eG,hR,o0,length_append,length_append,length_take,eP,length_map];omega
   have hb:n+1<=9223372036854775807/\(n+1) * 16<=140737488355328:=by omega
   clear hR;unfold ax at hr;generalize p.fns[k]=x at *;refine ae ?_;refine eR ?_;refine ae ?_;exact ⟨rfl,rfl,_,_,(Wk.cut (n:=3) (Nat.le_of_ble_eq_true rfl) rfl).trans (Wk.aD ar),_,_,rfl,rfl,by simp [eG],bh.symm⟩
  ·rintro _ _ ⟨R,n,rfl,rfl,eG,hR⟩;rw [length_map,show p.fns.length=(iu p).length by simp [iu],take_length] at hR;have hR:R=cl (cJ p):=hR
   have nz:R.length=(cJ p).length:=by rw [hR,o0]
   have UG:n=R.length:=eG.symm;subst UG;refine be ?_;refine GW.wk (Wk.jy (t:=3) rfl rfl rfl rfl) ?_;refine GW.wk (Wk.cut (n:=2) (Nat.le_of_ble_eq_true rfl) rfl) ?_;refine GW.L4 (cj:=[.loc 0 0,.U,.vec 1 0,.sl 1 R,.U,.U,.U,.U,.U,.U,.U,.U,.U,.U,.U,.U,.U,.U,.U,.U,.U,.U,.U,.U,.U,.U,.U,.U,.U,.U,.U,.U,.U,.U,.U,.U,.U,.U,.U,.U,.U,.U,.U,.U,.U,.U,.U,.U,.U,.U,.U,.U,.U,.U,.U,.U,.U,.U,.U,.U,.U,.U,.U,.U,.U,.U,.U,.U,.U,.U]) (aL:=[.box 133 [strs p.globals,.sl 2 (p.arrays.map aH),.sl 3 (p.fns.map ax),.sl 5 (p.nodes.map az),.v (.slice none 0 0),.v (ii (w7 (cJ p) 0)),.v (ii 0)],.vec 9 1 0 []]) ar rfl ?_;refine ae ?_;refine GW.range R.length (fun k fr Γ=>∃ S n fz,fr=[.loc 0 0,.U,.vec 1 n,.U,.U,.U,.U,.U,.U,.U,.U,.U,.U,.U,.U,.U,.U,.U,.U,.U,.U,.U,.U,.U,.U,.U,.U,.U,.U,.U,.U,.U,.U,.U,.U,.U,.U,.U,.U,.U,.U,.U,.U,.U,.U,.U,.U,.U,.U,.U,.sl 1 R,.v (ii (R.length:Int)),.v (ii (k:Nat)),.U,.U,.U,.U,.U,.U,.U,.U,.U,.U,.U,.U,.U,.U,.U,.U,.U]/\Γ=[.box 133 [strs p.globals,.sl 2 (p.arrays.map aH),.sl 3 (p.fns.map ax),.sl 5 (p.nodes.map az),.v (.slice none 0 0),.v (ii (w7 (cJ p) k)),.v (ii 0)],.vec 9 1 fz S]/\S.length=n/\S=cl ((cJ p).take k)) ?_ ah ?_ ?_ ?_
   ·exact ⟨_,_,Wk.aD ar,_,_,_,rfl,rfl,rfl,by simp [cl]⟩
   ·rintro k _ _ ⟨S,n,fz,rfl,rfl,_⟩;exact dO
   ·rintro k _ _ hk ⟨S,n,fz,rfl,rfl,jO,hS⟩;rw [nz] at hk;obtain ⟨x,hx⟩:∃ x,(cJ p)[k]?=some x:=⟨(cJ p)[k],by simp [hk]⟩
    have Rc:R[k]?=some [.v (sv x)]:=by rw [hR,cl,getElem?_map,hx];rfl
    have bh:cl ((cJ p).take (k+1))=S++[[.v (sv x)]]:=by rw [take_add_one,hx,hS];simp [cl]
    have tV:n<=8388608:=by rw [<-jO,hS,o0,length_take];omega
    have hb:n+1<=9223372036854775807/\(n+1) * 16<=140737488355328:=by omega
    have hd:kr (cJ p) k=(lZ x || ((cJ p).take k).contains x):=by unfold kr;rw [hx]
    have Mz:=Kd x
    have hL:GF Tryz.prog 74 [.sl 1 S,.v (sv x)] [] (.v (.bool (((cJ p).take k).contains x))) []:=by
     rw [hS];exact jk ((cJ p).take k) x (by rw [length_take];omega)
    have hF:=xv k;rw [PU];clear hS hR nz;generalize w7 (cJ p) k=cd at *;generalize kr (cJ p) k=bn at *
    cases h1:lZ x with
    | true =>
     rw [h1] at Mz hd;subst hd;rw [if_pos (by simp)];refine ae ?_;refine ab [] Mz ?_;refine ab [0] hF ?_;refine eR ?_;refine ae ?_;exact ⟨rfl,rfl,_,_,Wk.aD ar,_,_,_,rfl,rfl,by simp [jO],bh.symm⟩
    | false =>
     rw [h1] at Mz hd
     cases h2:((cJ p).take k).contains x with
     | true =>
      rw [h2] at hL hd;subst hd;rw [if_pos (by simp)];refine ae ?_;refine ab [] Mz ?_;refine GL.wk (Wk.jy (t:=59) rfl rfl rfl jO) ?_;refine bT ?_;refine ae ?_;refine ab [] hL ?_;refine ab [0] hF ?_;refine eR ?_;refine ae ?_;exact ⟨rfl,rfl,_,_,Wk.aD ar,_,_,_,rfl,rfl,by simp [jO],bh.symm⟩
     | false =>
      rw [h2] at hL hd;subst hd;rw [if_neg (by simp)];refine ae ?_;refine ab [] Mz ?_;refine GL.wk (Wk.jy (t:=59) rfl rfl rfl jO) ?_;refine bT ?_;refine ae ?_;refine ab [] hL ?_;refine eR ?_;refine ae ?_;exact ⟨rfl,rfl,_,_,Wk.aD ar,_,_,_,rfl,rfl,by simp [jO],bh.symm⟩
   ·rintro _ _ ⟨S,n,fz,rfl,rfl,jO,hS⟩;rw [nz];exact fX
theorem Iv (p:Src) (c z:Int) (h:GF Tryz.prog 97 [.agg (ay p)] [] (.tup [.v (ii c),.v (ii z)]) []):GF Tryz.prog 39 [.agg (ay p)] [] (.v (.bool (c==0))) []:=by
 refine aj Tryz.func39 Tryz.ntmps39 ?_;refine ab [] h ?_;exact al
end Go.Xg
namespace Go.Im
open Go.Xp Go.Sp
def qw (p:Src) (fn:Int):Bool:=(fH p&&decide ((0:Int)<=fn))&&decide (fn < (p.fns.length:Int))
end Go.Im
namespace Go.Xg
open Go.RowKit Go.Xw Go.Proofs
open Go.Xp (Nd T Ar aR aB bR)
open Go.Sp (Src)
open Go.Im
attribute [local irreducible] GW GL GO YG GC GA aY ba
theorem I6 {l:List T} {t:T} (h:t∈l):aR t<=aB l:=by
 obtain ⟨k,hk⟩:=List.getElem?_of_mem h;have:=tC hk;omega
theorem EO {p:Src} (h:fI p=false):fH p=false:=by unfold fH;rw [h];rfl
theorem C0 {p:Src} {l:List T} (h:fI p=true) (hl:fL p l):fH p=((CQ p l).1==0):=by
 unfold fH;rw [h,hl.Eo];simp only [Bool.true_and];rfl
theorem Sv (p:Src) (hw:dB p<=1048576) (hn:xe p):GF Tryz.prog 45 [.agg (ay p)] [] (.v (.bool (fH p))) []:=by
 obtain ⟨⟨a1,a2⟩,⟨b1,b2⟩,⟨c1,c2⟩,⟨d1,d2⟩⟩:=fg p;have hF:=Li p hw hn
 cases hf:fI p with
 | false =>
  rw [hf] at hF;have:=Mt p _ _ (Ld p hF);rw [EO hf];exact this
 | true =>
  rw [hf] at hF;obtain ⟨l,hl⟩:=tQ hf;have hlen:=fw.len hl.fns;have rl:=Bg p;have jr:=CL hl
  have hc:=Jk p l (cJ p) ah hlen ah hF (Js p hw) (N8 p ah ah fun a ha=>⟨(jr a ha).1,by have:=(jr a ha).2;omega⟩) fun i f t h1 h2=>by
   obtain ⟨e1,_⟩:=fw.at_ hl.fns i f t h1 h2;have h7:=dy.ix l 0 i _ hl.st h2;rw [Nat.zero_add] at e1 h7
   have hb:f.body.toNat=aB (l.take i):=by rw [e1,Int.toNat_natCast]
   have hz:=I6 (mem_of_getElem? h2);have:=hl.len;have:=Mg p i f t ah (fun n h=>by have:=(d2 n h).2;omega) ah ah ah h1 (by have:=(c2 f (mem_of_getElem? h1)).2.1;omega) ah (by rw [hb];exact h7) ah;rw [hb] at this;exact this
  rw [C0 hf hl];exact Mt p _ _ hc
theorem H6 (p:Src) (hw:dB p<=1048576):GF Tryz.prog 39 [.agg (ay p)] [] (.v (.bool (fH p))) []:=by
 obtain ⟨⟨a1,a2⟩,⟨b1,b2⟩,⟨c1,c2⟩,⟨d1,d2⟩⟩:=fg p;have hF:=Lh p hw
 cases hf:fI p with
 | false =>
  rw [hf] at hF;have:=Iv p _ _ (Lc p hF);rw [EO hf];exact this
 | true =>
  rw [hf] at hF;obtain ⟨l,hl⟩:=tQ hf;have hlen:=fw.len hl.fns;have jr:=CL hl
  have U0:∀ a∈p.arrays,0<=a.size/\a.size<=2147483648:=fun a ha=>⟨(jr a ha).1,by have:=(jr a ha).2;omega⟩
  obtain ⟨ls,hm⟩:=hl.JI
  have hS:=fun k=>Fy p (.slice none 0 0) k ah U0 fun h=>DS p (.slice none 0 0) k ah ah U0 h
  have hle:=hl.len
  have hc:=Jj p l _ _ hlen ah ah ah (fun f h=>by have:=(c2 f h).2.1;omega) (fun t ht=>by have:=I6 ht;omega) hF (Kc p hw) (hS _) fun i f t h1 h2=>by
   obtain ⟨e1,_⟩:=fw.at_ hl.fns i f t h1 h2;have h7:=dy.ix l 0 i _ hl.st h2;rw [Nat.zero_add] at e1 h7;rw [e1];exact D4 p (fun n h=>by have:=(d2 n h).2;omega) _ _ t ((vA _).1 t _ h7 (Nat.le_refl _))
  have:=Iv p _ _ hc;have hs:=TE (p:=p) (l:=l) (fun a ha=>(jr a ha).1) (fun t ht=>by obtain ⟨i,hi⟩:=List.getElem?_of_mem ht;exact (hm.wf hi).1)
  have e:((LK p l).code==0)=fH p:=by
   rw [C0 hf hl]
   by_cases h0:(CQ p l).1=0
   ·rw [h0,hs.1 h0]
   ·have h1:(LK p l).code≠0:=fun e=>h0 (hs.2 e)
    rw [show ((CQ p l).1==0)=false by simpa using h0,show ((LK p l).code==0)=false by simpa using h1]
  rw [<-e];exact this
end Go.Xg
namespace Go.Im
open Go.Xp Go.Sp
end Go.Im
namespace Go.Xg
open Go.RowKit Go.Xw Go.Proofs
open Go.Xp (Nd T Ar aR aB bR)
open Go.Sp (Src)
open Go.Im
attribute [local irreducible] GW GL GO YG GC GA aY ba
theorem VN (p:Src) (hk:∀ n∈p.nodes,n.kids.length<=1000000000000) (f:Go.Sp.Fn) (t:T) (hb:0<=f.body) (b7:et p.nodes f.body.toNat t):GF Tryz.prog 99 [.agg (ay p),.v (ii f.body)] [] (.agg (cT t)) []:=by
 have:=D4 p hk _ _ t ((vA _).1 t _ b7 (Nat.le_refl _))
 rwa [Int.toNat_of_nonneg hb] at this
end Go.Xg
namespace Go.Im
open Go.Xp Go.Sp
theorem Good.Eo {p:Src} {l:List T} (h:Good p l):jj p.nodes p.fns 0 []=some (l,p.nodes.length):=h.st.Eo
structure sx (p:Src) (l:List T) (i:Nat) (f:Go.Sp.Fn) (t:T):Prop where
 good:Good p l
 gf:p.fns[i]?=some f
 gt:l[i]?=some t
 ok:IQ p t f.params
 wf:gA t
 z:zT t
 st:et p.nodes f.body.toNat t
 body:0<=f.body
 sz:aR t<=800
theorem Good.fn {p:Src} {l:List T} (h:Good p l) {i:Nat} {f:Go.Sp.Fn} {t:T} (e1:p.fns[i]?=some f) (e2:l[i]?=some t):sx p l i f t:=by
 obtain ⟨a1,a2,a3,a4,a5⟩:=h.at_ _ _ _ e1 e2;refine ⟨h,e1,e2,a1,a2,a3,a4,a5,?_⟩;have:=h.st.few;have:=a4.le;omega
theorem uZ {p:Src} {fn:Int} (h:qw p fn=true):∃ (i:Nat) (l:List T) (f:Go.Sp.Fn) (t:T),fn=(i:Int)/\sx p l i f t:=by
 unfold qw at h;simp only [Bool.and_eq_true,decide_eq_true_eq] at h;obtain ⟨⟨h1,h2⟩,h3⟩:=h;obtain ⟨l,hl⟩:=Sw h1;have hlen:=hl.len
 have hi:fn.toNat < p.fns.length:=by omega
 have e1:p.fns[fn.toNat]?=some p.fns[fn.toNat]:=getElem?_eq_getElem _;have e2:l[fn.toNat]?=some (l[fn.toNat]'(by omega)):=getElem?_eq_getElem _;obtain ⟨a1,a2,a3,a4,a5⟩:=hl.at_ _ _ _ e1 e2;refine ⟨fn.toNat,l,_,_,by omega,hl,e1,e2,a1,a2,a3,a4,a5,?_⟩;have:=hl.st.few;have:=a4.le;omega
end Go.Im
namespace Go.Xg
open Go.RowKit Go.Xw Go.Proofs
open Go.Xp (Nd T Ar aR aB bR)
open Go.Sp (Src)
open Go.Im
attribute [local irreducible] GW GL GO YG GC GA aY ba
end Go.Xg
namespace Go.Im
open Go.Xp Go.Sp
theorem R6 (p:Src) (s:List Int) (a:Nat) (t:T) (ls:List ai):(fm p s a t ls).length<=s.length+1:=by
 unfold fm;rw [length_append];have:=BU p t.n;omega
end Go.Im
namespace Go.Xg
open Go.RowKit Go.Xw Go.Proofs
open Go.Xp (Nd T Ar aR aB)
open Go.Sp (Src)
open Go.Im
attribute [local irreducible] GW GL GO YG GC GA aY ba
theorem Ti (p:Src) (a:Nat) (n:Nd) (l:List T) (ls:List ai) (s:List Int) (E1:TypeId) (eb:Option Addr) (ec:Nat) (ad:Option Addr) (cp:Nat) (hn:p.nodes[a]?=some n) (iL:p.fns.length<=1099511627776) (hs:s.length<=1048576000) :
  GC Tryz.prog 104 [.v (ii (a:Nat)),.v (.slice ad ls.length cp),.box (ay p) 0,.loc 0 0] [.box E1 [.v (.slice eb s.length ec)],.vech 3 1 (aZ s) (.slice eb s.length ec),.vech 9 1 (cl ls) (.slice ad ls.length cp)] fun g Δ=>g=.tup []/\∃ wN wO,
   Δ=[.box E1 [.v (.slice wN (fm p s a (.mk n l) ls).length wO)],.vech 3 1 (aZ (fm p s a (.mk n l) ls)) (.slice wN (fm p s a (.mk n l) ls).length wO),.vech 9 1 (cl ls) (.slice ad ls.length cp)]:=by
 have hr:=jZ hn;have tX:=eh s;have hA:=Mf p n.s iL;have e0:bM (fun x:Go.Sp.Fn=>x.name==n.s) p.fns=nR p n.s:=rfl;rw [e0] at hA;have e:fm p s a (.mk n l) ls=s++(if n.kind=4/\0<=nR p n.s then [nR p n.s] else []):=rfl;rw [e];unfold az at hr;generalize nR p n.s=z at *
 cases h1:(n.kind==4) with
 | false =>
  rw [if_neg (fun h=>by rw [h.1] at h1;cases h1),append_nil];refine aj Tryz.func104 Tryz.ntmps104 ?_;refine aJ (aC 0 7 (.a 7 (.q 8 .nil))) ?_;refine au ?_;refine aE [] hA ?_;refine ae ?_;refine cU ?_;exact ⟨rfl,eb,ec,rfl⟩
 | true =>
  cases h2:decide ((0:Int)<=z) with
  | false =>
   rw [if_neg (fun h=>by have:=of_decide_eq_false h2;exact this h.2),append_nil];refine aj Tryz.func104 Tryz.ntmps104 ?_;refine aJ (aC 0 7 (.a 7 (.q 8 .nil))) ?_;refine au ?_;refine aE [] hA ?_;refine ae ?_;refine cU ?_;exact ⟨rfl,eb,ec,rfl⟩
  | true =>
   rw [if_pos ⟨by simpa using h1,by simpa using h2⟩];refine aj Tryz.func104 Tryz.ntmps104 ?_;refine aJ (aC 0 7 (.a 7 (.q 8 .nil))) ?_;refine au ?_;refine aE [] hA ?_;refine ae ?_;refine GL.jx 1 rfl rfl rfl rfl rfl rfl rfl rfl bd mc ?_;intro sC sG;refine bT ?_;refine ae ?_;refine cU ?_;exact ⟨rfl,sC,sG,by simp [aZ]⟩
end Go.Xg
namespace Go.Xg
open Go.RowKit Go.Xw Go.Proofs
open Go.Xp (Nd T Ar aR aB dY)
open Go.Sp (Src)
open Go.Im
attribute [local irreducible] GW GL GO YG GC GA aY ba
def Gq (p:Src):GV:=.fn (.func 104) [] [.box (ay p) 0,.loc 0 0]
def RG (p:Src):GV:=.fn (.func 127) [] [.loc 2 0,.loc 3 0,.box (ay p) 0,.loc 4 0]
def RA (E1:TypeId) (s:List Int) (eb:Option Addr) (ec:Nat):List Ob:=[.box E1 [.v (.slice eb s.length ec)],.vech 3 1 (aZ s) (.slice eb s.length ec)]
def Dz (p:Src) (E1 E2 E3 E4:TypeId) (s:List Int) (ls:List ai) (ad:Option Addr) (cp:Nat) (eb:Option Addr) (ec:Nat):List Ob :=
 [.box E1 [.v (.slice eb s.length ec)],.vech 3 1 (aZ s) (.slice eb s.length ec),.box E2 [Gq p],.box E3 [.v (.slice ad ls.length cp)],.box E4 [RG p],.vech 9 1 (cl ls) (.slice ad ls.length cp)]
theorem Qx (p:Src) (E1 E2 E3 E4:TypeId) (hp:p.nodes.length<=1048576) (eX:∀ n∈p.nodes,n.kids.length<=1099511627776) (iL:p.fns.length<=1099511627776):∀ (N:Nat) (t:T),aR t<=N->∀ (a:Nat) (s:List Int) (ls:List ai) (ad:Option Addr) (cp:Nat) (eb:Option Addr) (ec:Nat),et p.nodes a t->ls.length+aR t<=8388608->s.length+aR t<=8388608 ->
  GC Tryz.prog 127 [.v (ii (a:Nat)),.loc 2 0,.loc 3 0,.box (ay p) 0,.loc 4 0] (Dz p E1 E2 E3 E4 s ls ad cp eb ec) fun g Δ=>g=.tup []/\∃ qe qg wN wO,Δ=Dz p E1 E2 E3 E4 (iG (fm p) t a s ls).1 (iG (fm p) t a s ls).2 qe qg wN wO:=by
 intro N
 induction N with
 | zero=>intro t h;have:=kv t;omega
 | succ N ih =>
 intro t hN a s ls ad cp eb ec b7 mw ql
 cases t with
 | mk n l =>
 rw [Go.Xp.aR] at hN mw ql;have UX:=b7;rw [et] at b7;obtain ⟨hn,hk,tX⟩:=b7;rw [iG];have hr:=jZ hn;have oG:=eX n (mem_of_getElem? hn);have ht:=Ti p a n l ls s E1 eb ec ad cp hn iL ah;have aaB:((fm p) s a (.mk n l) ls).length<=s.length+1:=R6 _ _ _ _ _;generalize gz:(fm p) s a (.mk n l) ls=s1 at *
 have A0:n.kids.length=l.length:=by rw [hk,dY]
 unfold az at hr;unfold Dz Gq RG;refine aj Tryz.func127 Tryz.ntmps127 ?_;refine GL.vO [0,1,5] ht rfl rfl rfl (by repeat (first | exact trivial | refine ⟨rfl,?_⟩)) ?_;rintro _ _ ⟨rfl,eb,ec,rfl⟩;refine c8 ?_;refine ae ?_;refine GW.range (n.kids.map fun i=>[GV.v (ii i)]).length (fun k fr Γ=>∃ qe qg wN wO,fr=[.v (ii (a:Nat)),.loc 2 0,.loc 3 0,.box (ay p) 0,.loc 4 0,.U,.U,.U,.U,.U,.U,.U,.U,.U,.U,.U,.U,ints n.kids,.v (ii ((n.kids.map fun i=>[GV.v (ii i)]).length:Int)),.v (ii (k:Nat)),.U,.U,.U,.U,.U,.U,.U,.U,.U,.U,.U,.U,.U,.U,.U,.U,.U,.U,.U,.U,.U,.U,.U]/\Γ=Dz p E1 E2 E3 E4 (dX (fm p) (l.take k) (a+1) s1 ls).1 (dX (fm p) (l.take k) (a+1) s1 ls).2 qe qg wN wO) ?_ (by rw [length_map];omega) ?_ ?_ ?_
 ·exact ⟨_,_,Wk.aD ar,ad,cp,eb,ec,rfl,rfl⟩
 ·rintro k _ _ ⟨ad,cp,eb,ec,rfl,rfl⟩;exact dO
 ·rintro k _ _ ao ⟨ad,cp,eb,ec,rfl,rfl⟩;rw [length_map,A0] at ao;obtain ⟨u,hu⟩:∃ u,l[k]?=some u:=⟨l[k],by simp [ao]⟩;have lB:=xS (n:=a+1) hu;rw [<-hk] at lB;have tW:=nV lB;have cR:=tC hu;have UY:et p.nodes (a+1+aB (l.take k)) u:=dy.ix l (a+1) k u tX hu
  have hlen:(dX (fm p) (l.take k) (a+1) s1 ls).2.length<=ls.length+aB (l.take k):=by
   rw [qu,length_append];have:=uo (l.take k);omega
  have JV:(dX (fm p) (l.take k) (a+1) s1 ls).1.length<=s1.length+aB (l.take k):=by
   rw [EE,length_append];have:=Eu p (l.take k);omega
  rw [ED _ hu];generalize (dX (fm p) (l.take k) (a+1) s1 ls).1=s2 at *;generalize (dX (fm p) (l.take k) (a+1) s1 ls).2=ls2 at *;have hv:=ih u ah (a+1+aB (l.take k)) s2 ls2 ad cp eb ec UY ah ah;unfold Dz Gq RG at hv |-;refine ae ?_;refine GL.vO [0,1,2,3,4,5] hv rfl rfl rfl (by repeat (first | exact trivial | refine ⟨rfl,?_⟩)) ?_;rintro _ _ ⟨rfl,qe,qg,wN,wO,rfl⟩;refine c8 ?_;refine ae ?_;exact ⟨rfl,rfl,_,_,Wk.aD ar,qe,qg,wN,wO,rfl,rfl⟩
 ·rintro _ _ ⟨ad,cp,eb,ec,rfl,rfl⟩;rw [length_map,A0,take_length]
  have hlen:(dX (fm p) l (a+1) s1 ls).2.length<=ls.length+aB l:=by
   rw [qu,length_append];have:=uo l;omega
  generalize (dX (fm p) l (a+1) s1 ls).1=s2 at *;generalize (dX (fm p) l (a+1) s1 ls).2=ls2 at *;have Q7:(cl ls2).length=ls2.length:=vz ls2;unfold Dz Gq RG;refine be ?_
  cases hv:(n.kind==13) with
  | false =>
   rw [if_neg (by simpa using hv)];refine ae ?_;refine cU ?_;exact ⟨rfl,ad,cp,eb,ec,rfl⟩
  | true =>
   rw [if_pos (by simpa using hv)];refine ae ?_;refine aJ (aC 0 7 (.a 7 (.a 8 (.a 9 .nil)))) ?_;refine au ?_;refine ey ?_;refine au ?_;refine OA rfl rfl (GL.pD 5 (news:=[[.v (sv n.s)]]) rfl rfl rfl bd rfl rfl (by refine ⟨?_,?_⟩;(· show _+1<=_;omega);(· show (_+1) * _<=_;omega)) ?_);intro sC sG;refine dj ?_;refine bg ?_;refine cU ?_;exact ⟨rfl,sC,sG,eb,ec,by simp [cl]⟩
theorem Sd (p:Src) (E1:TypeId) (i:Nat) (f:Go.Sp.Fn) (t:T) (s:List Int) (eb:Option Addr) (ec:Nat) (hp:p.nodes.length<=1048576) (eX:∀ n∈p.nodes,n.kids.length<=1099511627776) (iL:p.fns.length<=1099511627776)
  (hf:p.fns[i]?=some f) (xJ:f.params.length<=1048576) (hb:0<=f.body) (b7:et p.nodes f.body.toNat t) (cR:aR t<=1048576) (hs:s.length+aR t<=8388608) :
  GC Tryz.prog 88 [.agg (ay p),.v (ii (i:Nat)),Gq p] (RA E1 s eb ec) fun g Δ=>g=.tup []/\∃ wN wO,Δ=RA E1 (iG (fm p) t f.body.toNat s f.params).1 wN wO:=by
 have hr:(p.fns.map ax)[i]?=some (ax f):=by rw [getElem?_map,hf];rfl
 have cW:(f.params.map fun s=>[GV.v (sv s)]).length=f.params.length:=by simp
 have hY:=FQ f.params;obtain ⟨b,xA⟩:∃ b:Nat,f.body=(b:Int):=⟨f.body.toNat,by omega⟩;rw [xA,Int.toNat_natCast] at b7 |-;unfold ax at hr;rw [xA] at hr;unfold Gq RA;refine df Tryz.func88 Tryz.ntmps88 ?_;refine jh ?_;refine GL.wk (Wk.freeze (i:=2) rfl rfl rfl (Nat.le_refl _)) ?_;refine GN (by simp only [om,nw];rfl) ?_;refine GL.wk (Wk.aD (cj:=[.U,.v (ii (i:Nat)),.U,.box (ay p) 0,.U,.loc 3 0,.U,.U,.U,.U,.U,.U,.U,strs f.params,.U,.U,.U,.U,.U,.U,.U,.U,.U,.U]) ar) ?_;refine GL.wk (Wk.oq 9 1) ?_;refine GL.DW 4 rfl rfl rfl rfl hY (by refine ⟨?_,?_⟩;(· rw [cW];omega);(· rw [cW];omega)) ?_;intro ad cp;rw [cW];refine b8 ?_;simp only [nil_append,length_nil,Nat.zero_add];refine ae ?_;refine GW.L4 (cj:=[.U,.v (ii (i:Nat)),.U,.box (ay p) 0,.U,.loc 3 0,.loc 5 0,.loc 6 0,.U,.U,.U,.U,.U,.U,.U,.U,.U,.U,.U,.U,.U,.U,.U,.U]) (aL:=[.box E1 [.v (.slice eb s.length ec)],.vech 3 1 (aZ s) (.slice eb s.length ec),.gone,.box _ [.fn (.func 104) [] [.box (ay p) 0,.loc 0 0]],.vech 9 1 (cl f.params) (.slice ad f.params.length cp),.box _ [.v (.slice ad f.params.length cp)],.box _ [.fn (.func 127) [] [.loc 3 0,.loc 5 0,.box (ay p) 0,.loc 6 0]]]) ar rfl ?_;refine aJ (aC 0 7 (.a 7 .nil)) ?_;refine au ?_;have hv:=Qx p E1;refine OA rfl rfl (GL.vO [0,1,3,5,6,4] (hv _ _ _ hp eX iL _ t (Nat.le_refl _) b s f.params ad cp eb ec b7 ah hs) rfl rfl rfl (by repeat (first | exact trivial | refine ⟨rfl,?_⟩)) ?_);rintro _ _ ⟨rfl,qe,qg,wN,wO,rfl⟩;refine ⟨by simp [Dz],?_⟩;unfold Dz;refine dj ?_;refine bg ?_;refine cU ?_;exact ⟨rfl,wN,wO,rfl⟩
end Go.Xg
namespace Go.Im
open Go.Xp Go.Sp
def na (p:Src) (l:List T) (x:Int):List Int:=match l[x.toNat]? with | some t=>bQ p t | none=>[]
theorem BV (p:Src) (l:List T) (x:Int):∀ y∈na p l x,0<=y/\y < (p.fns.length:Int):=by
 intro y hy;unfold na at hy;split at hy
 ·exact mK p _ y hy
 ·simp at hy
structure Trail (p:Src) (L:List Int):Prop where
 nodup:L.Nodup
 rng:∀ y∈L,0<=y/\y < (p.fns.length:Int)
theorem Trail.len {p:Src} {L:List Int} (h:Trail p L):L.length<=p.fns.length:=Du h.nodup h.rng
theorem Trail.add {p:Src} {L ks:List Int} (h:Trail p L) (hk:∀ y∈ks,0<=y/\y < (p.fns.length:Int)):Trail p (dx L ks) :=
 ⟨rT h.nodup,fun y hy=>by
  rcases ji.1 hy with h1 | h1
  ·exact h.rng y h1
  ·exact hk y h1⟩
def pE (p:Src) (l:List T) (L:List Int):List Int:=mY (na p l) (p.fns.length+1) 0 L
theorem El {cs:Int->List Int} {f i:Nat} {L:List Int} {x:Int} (h:L[i]?=some x):mY cs (f+1) i L=mY cs f (i+1) (dx L (cs x)):=by rw [mY,h]
theorem Em {cs:Int->List Int} {f i:Nat} {L:List Int} (h:L.length<=i):mY cs f i L=L:=by
 cases f with
 | zero=>rfl
 | succ f=>rw [mY,getElem?_eq_none h]
theorem BN {p:Src} {l:List T}:∀ (f i:Nat) (L:List Int),Trail p L->Trail p (mY (na p l) f i L)
 | 0,i,L,h=>h
 | f+1,i,L,h=>by
  rw [mY];split
  ·exact h
  ·exact BN f (i+1) _ (h.add (BV p l _))
end Go.Im
namespace Go.Xg
open Go.RowKit Go.Xw Go.Proofs
open Go.Xp (Nd T Ar aR aB)
open Go.Sp (Src)
open Go.Im
attribute [local irreducible] GW GL GO YG GC GA aY ba
theorem PW (l:List Int):l9 (l.map fun i=>[GV.v (ii i)])=true:=by
 induction l with
 | nil=>rfl
 | cons s l ih=>rw [List.map_cons,l9,ih];rfl
theorem BR (p:Src) (hw:dB p<=1048576) {l:List T} {i:Nat} {f:Go.Sp.Fn} {t:T} (h:sx p l i f t) :
  GF Tryz.prog 46 [.agg (ay p),.v (ii (i:Nat))] [] (ints (bQ p t)) []:=by
 obtain ⟨⟨a1,a2⟩,⟨b1,b2⟩,⟨c1,c2⟩,⟨d1,d2⟩⟩:=fg p;have cR:=h.sz;have u6:=LO p _ t (Nat.le_refl _)
 have hE:=fun eb ec=>Sd p 40 i f t [] eb ec ah (fun n hn=>by have:=(d2 n hn).2;omega) ah h.gf (by have:=(c2 f (mem_of_getElem? h.gf)).2.1;omega) h.body h.st ah (by show 0+_<=_;omega)
 rw [QM,nil_append] at hE;obtain ⟨e1,e2⟩:=TH (oy p t)
 have hS:=fun a c=>Ls (oy p t) 3 a c ah
 have hC:=fun a c=>Le (fC (oy p t)) 3 a c (by rw [ma];omega) e2
 rw [e1] at hC;rw [ma] at hC;unfold Gq RA at hE;unfold bQ;generalize oM (oy p t)=rr at *;generalize fC (oy p t)=ss at *;refine df Tryz.func46 Tryz.ntmps46 ?_;refine GW.wk (Wk.oq 3 1) ?_;simp only [nil_append];refine jh ?_;refine GL.wk (Wk.freeze (i:=1) rfl rfl rfl (Nat.zero_le _)) ?_;refine b8 ?_;refine ae ?_;refine cv [2,0] (hE none 0) ?_;rintro _ _ ⟨rfl,eb,ec,rfl⟩;refine c8 ?_;refine ae ?_;refine ab [0] (hS eb ec) ?_;refine cv [0] (hC eb ec) ?_;rintro _ _ ⟨rfl,fz,S,rfl⟩;refine c8 ?_;exact aw
theorem CR (p:Src) (hw:dB p<=1048576) {l:List T} (hg:Go.Im.Good p l) (L0:List Int) (hL:Trail p L0) :
  GF Tryz.prog 69 [.agg (ay p),ints L0] [] (ints (fC (pE p l L0))) []:=by
 obtain ⟨⟨a1,a2⟩,⟨b1,b2⟩,⟨c1,c2⟩,⟨d1,d2⟩⟩:=fg p;have hlen:=hg.len;have sS:=hL.len
 have cW:(L0.map fun i=>[GV.v (ii i)]).length=L0.length:=by simp
 have hY:=PW L0;obtain ⟨N,hN⟩:∃ N,p.fns.length=N:=⟨_,rfl⟩;refine df Tryz.func69 Tryz.ntmps69 ?_;refine GW.wk (Wk.oq 3 1) ?_;simp only [nil_append];refine ae ?_;refine GL.DW 0 rfl rfl rfl rfl hY (by refine ⟨?_,?_⟩;(· rw [cW];omega);(· rw [cW];omega)) ?_;intro ad cp;rw [cW];refine b8 ?_;simp only [nil_append,length_nil,Nat.zero_add];refine ae ?_;refine GW.loop (fun s:Nat × List Int=>N - s.1) (fun s fr Γ=>∃ a c n S,fr=[.U,.U,.loc 1 0,.U,.U,.v (.slice a n c),.v (ii (s.1:Nat)),.U,.U,.U,.U,.U,.U,.U,.U,.U,.U,.U,.U,.U,.U,.U,.U,.U,.U,.U,.U,.U,.U,.U,.U,.U,.U,.U,.U,.U,.U,.U,.U,.U]/\Γ=[.vech 3 1 S (.slice a n c),.box 34 (ay p)]/\S.length=n/\S=aZ s.2/\Trail p s.2/\s.1<=s.2.length/\mY (na p l) (N+1 - s.1) s.1 s.2=pE p l L0) (0,L0) ?_ ?_
 ·exact ⟨_,_,Wk.aD ar,ad,cp,_,_,rfl,rfl,cW,rfl,hL,Nat.zero_le _,by rw [<-hN];rfl⟩
 rintro ⟨i,L⟩ _ _ ⟨a,c,n,S,rfl,rfl,jO,hS,hW,hi,he⟩;simp only at hS hW hi he;have pL:=hW.len
 have rl:n=L.length:=by rw [<-jO,hS,eh]
 by_cases ao:i < L.length
 ·have hd:decide ((i:Int) < (n:Int))=true:=decide_eq_true ah;obtain ⟨x,hx⟩:∃ x,L[i]?=some x:=⟨L[i],by simp [ao]⟩
  have hrx:S[i]?=some [.v (ii x)]:=by rw [hS];unfold aZ;rw [getElem?_map,hx];rfl
  have pj:=hW.rng x (mem_of_getElem? hx);obtain ⟨j,hj⟩:∃ j:Nat,x=(j:Int):=⟨x.toNat,by omega⟩;subst hj
  have oF:j < p.fns.length:=by omega
  obtain ⟨f,hf⟩:∃ f,p.fns[j]?=some f:=⟨p.fns[j],by simp [oF]⟩;obtain ⟨t,ht⟩:∃ t,l[j]?=some t:=⟨l[j]'ah,getElem?_eq_getElem _⟩;have hC:=BR p hw (hg.fn hf ht)
  have eM:na p l (j:Int)=bQ p t:=by unfold na;rw [Int.toNat_natCast,ht]
  have mx:mY (na p l) (N+1 - (i+1)) (i+1) (dx L (bQ p t))=pE p l L0:=by
   rw [<-he,show N+1 - i=(N+1 - (i+1))+1 by omega,El hx,eM]
  have sR:=mK p t;have eX:=yZ p t
  have MP:((bQ p t).map fun i=>[GV.v (ii i)]).length=(bQ p t).length:=by simp
  have rP:i+1<=(dx L (bQ p t)).length:=by
   obtain ⟨m,hm⟩:=vK (bQ p t) L;rw [hm,length_append];omega
  generalize bQ p t=ks at *;refine ae ?_;refine aJ (aC 0 5 (.q 7 (.a 5 (.q 6 .nil)))) ?_;refine au ?_;refine aE [] hC ?_;refine ae ?_;refine GW.range (ks.map fun i=>[GV.v (ii i)]).length (fun k fr Γ=>∃ a c n S,fr=[.U,.U,.loc 1 0,.U,.U,.v (.slice a n c),.v (ii (i:Nat)),.U,.U,.U,.U,.U,.U,.U,.U,.U,.U,.U,.U,.U,.U,.U,ints ks,.v (ii ((ks.map fun i=>[GV.v (ii i)]).length:Int)),.v (ii (k:Nat)),.U,.U,.U,.U,.U,.U,.U,.U,.U,.U,.U,.U,.U,.U,.U]/\Γ=[.vech 3 1 S (.slice a n c),.box 34 (ay p)]/\S.length=n/\S=aZ (dx L (ks.take k))) ?_ ah ?_ ?_ ?_
  ·exact ⟨_,_,Wk.aD ar,a,c,n,S,rfl,rfl,jO,hS⟩
  ·rintro k _ _ ⟨a,c,n,S,rfl,rfl,_⟩;exact dO
  ·rintro k _ _ hk ⟨a,c,n,S,rfl,rfl,jO,hS⟩;rw [MP] at hk;obtain ⟨y,hy⟩:∃ y,ks[k]?=some y:=⟨ks[k],by simp [hk]⟩
   have hry:(ks.map fun i=>[GV.v (ii i)])[k]?=some [.v (ii y)]:=by rw [getElem?_map,hy];rfl
   have Um:=hW.add (ks:=ks.take k) fun y hy=>sR y (List.mem_of_mem_take hy)
   have XD:=Um.len
   have AP:GF Tryz.prog 56 [.sl 1 S,.v (ii y)] [] (.v (.bool ((dx L (ks.take k)).contains y))) []:=by
    rw [hS];exact ov (dx L (ks.take k)) y ah
   have Pk:=CK L ks k y hy
   have tV:n<=1048576:=by rw [<-jO,hS,eh];omega
   rw [Pk]
   cases hb:(dx L (ks.take k)).contains y with
   | true =>
    rw [hb] at AP;rw [if_pos rfl];refine ae ?_;refine GL.borrow AP (fun B K β w l hI hF=>gR (A:=[]) (C:=[_]) hI hF rfl rfl) ?_;refine b8 ?_;refine ae ?_;exact ⟨rfl,rfl,_,_,Wk.aD ar,a,c,n,S,rfl,rfl,jO,hS⟩
   | false =>
    rw [hb] at AP;rw [if_neg aK]
    have ri:aZ (dx L (ks.take k)++[y])=S++[[.v (ii y)]]:=by rw [hS];simp [aZ]
    rw [ri];clear hS;refine ae ?_;refine GL.borrow AP (fun B K β w l hI hF=>gR (A:=[]) (C:=[_]) hI hF rfl rfl) ?_;refine b8 ?_;refine ae ?_;refine GL.jx 0 rfl rfl rfl rfl rfl rfl rfl rfl bd mc ?_;intro a2 c2;refine bT ?_;refine ae ?_;exact ⟨rfl,rfl,_,_,Wk.aD ar,a2,c2,_,_,rfl,rfl,by simp [jO],rfl⟩
  ·rintro _ _ ⟨a,c,n,S,rfl,rfl,jO,hS⟩;rw [MP,take_length] at hS;refine gE (be ?_);refine ae ?_;exact ⟨(i+1,dx L ks),⟨_,_,Wk.aD ar,a,c,n,S,rfl,rfl,jO,hS,hW.add sR,rP,mx⟩,by show N - (i+1) < N - i;omega⟩
 ·have hd:decide ((i:Int) < (n:Int))=false:=decide_eq_false ah;have hb:=Em (cs:=na p l) (f:=N+1 - i) (i:=i) (L:=L) ah;rw [hb] at he;rw [<-he];have XC:=Ls L 3 a c ah;rw [<-rl,<-hS] at XC
  have tX:(aZ (fC L)).length=n:=by rw [eh,ma,rl]
  refine bH ?_;refine ae ?_;refine ab [0] XC ?_;refine GW.wk (Wk.pY (t:=4) (i:=0) rfl rfl rfl) ?_;exact al
end Go.Xg
namespace Go.Im
open Go.Xp Go.Sp
theorem xj {l:List Int} {k:Nat} {x n:Int} (h:l[k]?=some x) (hc:(l.take k).contains n=false) (hx:(x==n)=false):(l.take (k+1)).contains n=false:=by
 rw [take_add_one,h];simp only [List.contains_eq_mem,decide_eq_false_iff_not,List.mem_append,not_or] at *;refine ⟨hc,?_⟩;simp only [Option.toList_some,mem_singleton];intro e;subst e;simp at hx
theorem Ex {l:List Int} {k:Nat} {x n:Int} (h:l[k]?=some x) (hx:(x==n)=true):l.contains n=true:=by
 have:x=n:=by simpa using hx
 subst this;exact List.contains_iff_mem.2 (mem_of_getElem? h)
theorem SY {l:List Int} {n:Int} (h:l.contains n=true):iv l n=l:=by unfold iv;rw [if_pos h]
theorem wQ:∀ (ks l:List Int),(ks.foldl iv l).length<=l.length+ks.length
 | [],l=>by simp
 | k::r,l=>by
  have:=wQ r (iv l k);have:=P1 (l:=l) (n:=k);rw [List.foldl_cons,List.length_cons];omega
end Go.Im
namespace Go.Xg
open Go.RowKit Go.Xw Go.Proofs
open Go.Xp (Nd T Ar aR aB bR)
open Go.Sp (Src)
open Go.Im
attribute [local irreducible] GW GL GO YG GC GA aY ba
theorem PD (l:List Int) (n:Int) (a:Option Addr) (c:Nat) (hl:l.length<=8388608) :
  GC Tryz.prog 134 [.v (.slice a l.length c),.v (ii n)] [.vech 3 1 (aZ l) (.slice a l.length c)] fun g Δ =>
   (l.contains n=true/\g=.v (.slice a l.length c)/\Δ=[.vech 3 1 (aZ l) (.slice a l.length c)]) \/
   (l.contains n=false/\∃ a' c',g=.v (.slice a' (iv l n).length c')/\Δ=[.vech 3 1 (aZ l) (.slice a l.length c),.vech 3 1 (aZ (iv l n)) (.slice a' (iv l n).length c')]):=by
 have pL:=eh l;refine aj Tryz.func134 Tryz.ntmps134 ?_;refine mI ?_;refine GL.sQ (t:=9) rfl rfl rfl rfl ?_;intro a1 c1;refine bT ?_;refine ae ?_;refine GW.range l.length (fun k fr Γ=>∃ a1 c1 m dn S,fr=[.v (.slice a l.length c),.v (ii n),.U,.U,.U,.v (.slice a1 m c1),.v (.bool dn),.U,.U,.U,.v (.slice a l.length c),.v (ii (l.length:Int)),.v (ii (k:Nat)),.U,.U,.U,.U,.U,.U,.U,.U,.U,.U,.U,.U,.U,.U,.U,.U,.U,.U,.U,.U,.U,.U,.U,.U,.U,.U,.U,.U,.U,.U]/\Γ=[.vech 3 1 (aZ l) (.slice a l.length c),.vech 3 1 S (.slice a1 m c1)]/\S.length=m/\S=aZ (jm l n k).1/\dn=(jm l n k).2/\(l.take k).contains n=false) ?_ ah ?_ ?_ ?_
 ·exact ⟨_,_,Wk.aD ar,a1,c1,0,false,[],rfl,rfl,rfl,rfl,rfl,rfl⟩
 ·rintro k _ _ ⟨a1,c1,m,dn,S,rfl,rfl,_⟩;exact dO
 ·rintro k _ _ ao ⟨a1,c1,m,dn,S,rfl,rfl,wR,hS,Ic,hc⟩;obtain ⟨x,hx⟩:∃ x,l[k]?=some x:=⟨l[k],by simp [ao]⟩
  have hr:(aZ l)[k]?=some [.v (ii x)]:=by unfold aZ;rw [getElem?_map,hx];rfl
  have eX:k < (aZ l).length:=by omega
  have hm:m<=8388609:=by
   have:=(FY l n k).1;rw [<-wR,hS,eh];omega
  have mx:=DB (n:=n) hx
  cases h1:(x==n) with
  | true =>
   refine ae ?_;refine jo ?_;exact rG (n:=1) rfl cy rfl (Nat.le_of_ble_eq_true rfl) rfl rfl (.inl ⟨Ex hx h1,rfl,rfl⟩)
  | false =>
   have gT:=xj hx hc h1
   cases dn with
   | true =>
    have e:jm l n (k+1)=((jm l n k).1++[x],true):=by rw [mx];unfold ot;rw [<-Ic];rfl
    have ri:aZ (jm l n (k+1)).1=S++[[.v (ii x)]]:=by rw [e,hS];simp [aZ]
    clear hS;refine ae ?_;refine GL.jx 1 rfl rfl rfl rfl rfl rfl rfl rfl bd mc ?_;intro a2 c2;refine bT ?_;refine ae ?_;exact ⟨rfl,rfl,_,_,Wk.aD ar,a2,c2,_,true,_,rfl,rfl,by simp [wR],ri.symm,by rw [e],gT⟩
   | false =>
    cases h3:decide (n < x) with
    | true =>
     have e:jm l n (k+1)=((jm l n k).1++[n]++[x],true):=by rw [mx];unfold ot;rw [<-Ic,h3];rfl
     have ri:aZ (jm l n (k+1)).1=(S++[[.v (ii n)]])++[[.v (ii x)]]:=by rw [e,hS];simp [aZ]
     have hSl:(S++[[GV.v (ii n)]]).length=m+1:=by rw [length_append,wR];rfl
     clear hS;refine ae ?_;refine GL.jx 1 rfl rfl rfl rfl rfl rfl rfl rfl bd mc ?_;intro a2 c2;refine bT ?_;refine ae ?_;refine GL.jx 1 rfl rfl rfl rfl rfl rfl rfl rfl bd mc ?_;intro a3 c3;refine bT ?_;refine ae ?_;exact ⟨rfl,rfl,_,_,Wk.aD ar,a3,c3,_,true,_,rfl,rfl,by simp [wR],ri.symm,by rw [e],gT⟩
    | false =>
     have e:jm l n (k+1)=((jm l n k).1++[x],false):=by rw [mx];unfold ot;rw [<-Ic,h3];rfl
     have ri:aZ (jm l n (k+1)).1=S++[[.v (ii x)]]:=by rw [e,hS];simp [aZ]
     clear hS;refine ae ?_;refine GL.jx 1 rfl rfl rfl rfl rfl rfl rfl rfl bd mc ?_;intro a2 c2;refine bT ?_;refine ae ?_;exact ⟨rfl,rfl,_,_,Wk.aD ar,a2,c2,_,false,_,rfl,rfl,by simp [wR],ri.symm,by rw [e],gT⟩
 ·rintro _ _ ⟨a1,c1,m,dn,S,rfl,rfl,wR,hS,Ic,hc⟩;rw [take_length] at hc;have oV:=P2 l n hc
  have hm:m<=8388609:=by
   have:=(FY l n l.length).1;rw [<-wR,hS,eh];omega
  refine be ?_
  cases dn with
  | true =>
   rw [if_pos Ic.symm] at oV
   have e:m=(iv l n).length:=by rw [<-wR,hS,eh,oV]
   subst e;rw [oV] at hS;subst hS;refine ae ?_;refine jo ?_;exact rG (n:=2) rfl cy rfl (Nat.le_of_ble_eq_true rfl) rfl rfl (.inr ⟨hc,a1,c1,rfl,rfl⟩)
  | false =>
   rw [if_neg (by rw [<-Ic];decide)] at oV
   have ri:aZ (iv l n)=S++[[.v (ii n)]]:=by rw [<-oV,hS];simp [aZ]
   have e:(iv l n).length=m+1:=by rw [<-eh,ri,length_append,wR];rfl
   rw [ri,e];clear hS;subst wR;refine ae ?_;refine GL.jx 1 rfl rfl rfl rfl rfl rfl rfl rfl bd mc ?_;intro a2 c2;refine bT ?_;refine ae ?_;refine jo ?_;exact rG (n:=2) rfl cy rfl (Nat.le_of_ble_eq_true rfl) rfl rfl (.inr ⟨hc,a2,c2,rfl,rfl⟩)
end Go.Xg
namespace Go.Im
open Go.Xp Go.Sp
def lF (l ks:List Int):List Int:=ks.foldl iv l
theorem Kx (l a b:List Int):lF l (a++b)=lF (lF l a) b:=List.foldl_append
theorem Ky (l ks:List Int):(lF l ks).length<=l.length+ks.length:=wQ ks l
theorem LL (p:Src) {l:List T} {k:Nat} {u:T} (h:l[k]?=some u) (o:List Int) (n:Nd):lF o (tP p n++gY p (l.take (k+1)))=lF (lF o (tP p n++gY p (l.take k))) (oy p u):=by
 rw [LM p h,<-List.append_assoc,Kx]
end Go.Im
namespace Go.Xg
open Go.RowKit Go.Xw Go.Proofs
open Go.Xp (Nd T Ar aR aB bR)
open Go.Sp (Src)
open Go.Im
attribute [local irreducible] GW GL GO YG GC GA aY ba
def Tw (l r:List Int) (a:Option Addr) (c:Nat) (g:GV) (Δ:List Ob):Prop :=
 (r=l/\g=.v (.slice a l.length c)/\Δ=[.vech 3 1 (aZ l) (.slice a l.length c)]) \/
 (∃ a' c',g=.v (.slice a' r.length c')/\Δ=[.vech 3 1 (aZ l) (.slice a l.length c),.vech 3 1 (aZ r) (.slice a' r.length c')])
theorem Nh (l:List Int) (n:Int) (a:Option Addr) (c:Nat) (hl:l.length<=8388608) :
  GC Tryz.prog 134 [.v (.slice a l.length c),.v (ii n)] [.vech 3 1 (aZ l) (.slice a l.length c)] (Tw l (iv l n) a c):=by
 refine (PD l n a c hl).mono fun g Δ h=>?_
 rcases h with ⟨h1,h2,h3⟩ | ⟨h1,a',c',h2,h3⟩
 ·exact .inl ⟨SY h1,h2,h3⟩
 ·exact .inr ⟨a',c',h2,h3⟩
theorem Kb (p:Src) (iL:p.fns.length<=1099511627776):∀ (N:Nat) (t:T),aR t<=N->∀ (l:List Int) (a:Option Addr) (c:Nat),l.length+aR t<=8388608 ->
  GC Tryz.prog 98 [.v (.slice a l.length c),.agg (ay p),.agg (cT t)] [.vech 3 1 (aZ l) (.slice a l.length c)] (Tw l (lF l (oy p t)) a c):=by
 intro N
 induction N with
 | zero=>intro t h;have:=kv t;omega
 | succ N ih =>
 intro t hN l a c mw
 cases t with
 | mk n ks =>
 rw [Go.Xp.aR] at hN mw;have pL:=bR ks;have eW:(aS ks).length=ks.length:=aU ks;have hF:=B7 p n.s iL;have e0:bM (fun x:Go.Sp.Fn=>x.name==n.s) p.fns=nR p n.s:=rfl;rw [e0] at hF;have hP:=Nh l (nR p n.s) a c ah
 have gT:tP p n=if n.kind=4/\0<=nR p n.s then [nR p n.s] else []:=rfl
 rw [oy];generalize nR p n.s=z at *;refine aj Tryz.func98 Tryz.ntmps98 ?_;refine ab [] hF ?_
 refine GL.WG (fun fr Γ=>∃ h L,fr=[.v h,.U,.U,.U,.loc 1 0,.loc 2 0,.U,.U,.U,.U,.U,.U,.U,.U,.U,.U,.U,.U,.U,.U,.U,.U,.U,.U,.U,.U,.U,.U,.U,.U,.U,.U,.U,.U,.U,.U,.U,.U,.U]/\L=lF l (tP p n) /\
  ((L=l/\h=.slice a l.length c/\Γ=[.vech 3 1 (aZ l) (.slice a l.length c),.box 34 (ay p),.box 94 (cT (.mk n ks))]) \/
   (∃ a' c',h=.slice a' L.length c'/\Γ=[.vech 3 1 (aZ l) (.slice a l.length c),.box 34 (ay p),.box 94 (cT (.mk n ks)),.vech 3 1 (aZ L) (.slice a' L.length c')]))) ?_ ?_
 ·cases q4:(n.kind==4) with
  | false =>
   rw [if_neg (fun h=>by rw [h.1] at q4;cases q4)] at gT;refine ae ?_;exact ⟨_,_,Wk.aD ar,_,l,rfl,by rw [gT];rfl,.inl ⟨rfl,rfl,rfl⟩⟩
  | true =>
   cases q5:decide ((0:Int)<=z) with
   | false =>
    rw [if_neg (fun h=>by have:=of_decide_eq_false q5;exact this h.2)] at gT;refine ae ?_;exact ⟨_,_,Wk.aD ar,_,l,rfl,by rw [gT];rfl,.inl ⟨rfl,rfl,rfl⟩⟩
   | true =>
    rw [if_pos ⟨by simpa using q4,by simpa using q5⟩] at gT;refine ae ?_;refine cv [0] hP ?_;rintro _ _ (⟨h1,rfl,rfl⟩ | ⟨a',c',rfl,rfl⟩)
    ·refine c8 ?_;refine ae ?_;exact ⟨_,_,Wk.aD ar,_,l,rfl,by rw [gT];exact h1.symm,.inl ⟨rfl,rfl,rfl⟩⟩
    ·refine c8 ?_;refine ae ?_;exact ⟨_,_,Wk.aD ar,_,iv l z,rfl,by rw [gT];rfl,.inr ⟨a',c',rfl,rfl⟩⟩
 ·rintro _ _ ⟨h,L0,rfl,hL0,H9⟩;have aah:=BU p n
  rcases H9 with ⟨e1,rfl,rfl⟩ | ⟨a0,c0,rfl,rfl⟩
  all_goals
   refine ae ?_
   refine GW.range (aS ks).length (fun k fr Γ=>∃ h L,fr=[.v h,.U,.U,.U,.loc 1 0,.loc 2 0,.U,.U,.U,.U,.U,.U,.U,.U,.U,.U,.U,.U,.U,.U,.U,.U,.U,.U,.U,.U,.U,.sl 6 (aS ks),.v (ii ((aS ks).length:Int)),.v (ii (k:Nat)),.U,.U,.U,.U,.U,.U,.U,.U,.U]/\L=lF l (tP p n++gY p (ks.take k)) /\
    ((L=l/\h=.slice a l.length c/\Γ=[.vech 3 1 (aZ l) (.slice a l.length c),.box 34 (ay p),.box 94 (cT (.mk n ks))]) \/
     (∃ a' c',h=.slice a' L.length c'/\Γ=[.vech 3 1 (aZ l) (.slice a l.length c),.box 34 (ay p),.box 94 (cT (.mk n ks)),.vech 3 1 (aZ L) (.slice a' L.length c')]))) ?_ ah ?_ ?_ ?_
   ·exact ⟨_,_,Wk.aD ar,_,L0,rfl,by rw [List.take_zero,gY,append_nil];exact hL0,by first | exact .inl ⟨e1,rfl,rfl⟩ | exact .inr ⟨_,_,rfl,rfl⟩⟩
   ·rintro k _ _ ⟨h,L,rfl,_,H9⟩;exact dO
   ·rintro k _ _ ao ⟨h,L,rfl,hL,H9⟩;rw [eW] at ao;obtain ⟨u,hu⟩:∃ u,ks[k]?=some u:=⟨ks[k],by simp [ao]⟩;have hr:=cS hu;have cR:=tC hu
    have hLl:L.length<=l.length+1+aB (ks.take k):=by
     have:=Ky l (tP p n++gY p (ks.take k));have:=Eu p (ks.take k);rw [length_append] at *;rw [hL];omega
    have mx:=LL p hu l n;rw [<-hL] at mx;rw [mx]
    rcases H9 with ⟨e2,rfl,rfl⟩ | ⟨a',c',rfl,rfl⟩
    ·subst e2;have hi:=ih u ah L a c ah;generalize lF L (oy p u)=L2 at *;refine ae ?_;refine cv [0] hi ?_;rintro _ _ (⟨h1,rfl,rfl⟩ | ⟨a2,c2,rfl,rfl⟩)
     ·refine c8 ?_;refine ae ?_;exact ⟨rfl,rfl,_,_,(Wk.cut (n:=3) (Nat.le_of_ble_eq_true rfl) rfl).trans (Wk.aD ar),_,L2,rfl,rfl,.inl ⟨h1,rfl,rfl⟩⟩
     ·refine c8 ?_;refine ae ?_;exact ⟨rfl,rfl,_,_,(Wk.keep (n:=3) (j:=4) (Nat.le_of_ble_eq_true rfl) aK rfl rfl rfl).trans (Wk.aD ar),_,L2,rfl,rfl,.inr ⟨a2,c2,rfl,rfl⟩⟩
    ·have hi:=ih u ah L a' c' ah;generalize lF L (oy p u)=L2 at *;refine ae ?_;refine cv [3] hi ?_;rintro _ _ (⟨rfl,rfl,rfl⟩ | ⟨a2,c2,rfl,rfl⟩)
     ·refine c8 ?_;refine ae ?_;exact ⟨rfl,rfl,_,_,(Wk.cut (n:=4) (Nat.le_of_ble_eq_true rfl) rfl).trans (Wk.aD ar),_,_,rfl,rfl,.inr ⟨a',c',rfl,rfl⟩⟩
     ·refine c8 ?_;refine ae ?_;exact ⟨rfl,rfl,_,_,(Wk.keep (n:=3) (j:=5) (Nat.le_of_ble_eq_true rfl) aK rfl rfl rfl).trans (Wk.aD ar),_,L2,rfl,rfl,.inr ⟨a2,c2,rfl,rfl⟩⟩
   ·rintro _ _ ⟨h,L,rfl,hL,H9⟩;rw [eW,take_length] at hL;rw [<-hL];refine be ?_
    rcases H9 with ⟨e2,rfl,rfl⟩ | ⟨a',c',rfl,rfl⟩
    ·refine ae ?_;refine jo ?_;exact rG (n:=1) rfl cy rfl (Nat.le_of_ble_eq_true rfl) rfl rfl (.inl ⟨e2,rfl,rfl⟩)
    ·refine GW.wk (Wk.keep (n:=1) (j:=3) (Nat.le_refl _) aK rfl rfl rfl) ?_;refine GW.L4 (cj:=[.v (.slice a' L.length c'),.U,.U,.U,.U,.U,.U,.U,.U,.U,.U,.U,.U,.U,.U,.U,.U,.U,.U,.U,.U,.U,.U,.U,.U,.U,.U,.U,.U,.U,.U,.U,.U,.U,.U,.U,.U,.U,.U]) (aL:=[.vech 3 1 (aZ l) (.slice a l.length c),.vech 3 1 (aZ L) (.slice a' L.length c')]) ar rfl ?_;refine ae ?_;refine jo ?_;exact rG (n:=2) rfl cy rfl (Nat.le_of_ble_eq_true rfl) rfl rfl (.inr ⟨a',c',rfl,rfl⟩)
end Go.Xg
namespace Go.Im
open Go.Xp Go.Sp
theorem Kz (ks:List Int):lF [] ks=oM ks:=rfl
theorem sf {p:Src} {i:Nat} (hg:fH p=true) (hi:i < p.fns.length):qw p (i:Int)=true:=by
 unfold qw;rw [hg,decide_eq_true (show (0:Int)<=(i:Int) by omega),decide_eq_true (show (i:Int) < (p.fns.length:Int) by omega)];rfl
end Go.Im
namespace Go.Xg
open Go.RowKit Go.Xw Go.Proofs
open Go.Xp (Nd T Ar aR aB bR)
open Go.Sp (Src)
open Go.Im
attribute [local irreducible] GW GL GO YG GC GA aY ba
theorem Au (p:Src) (hw:dB p<=1048576) {l:List T} {i:Nat} {f:Go.Sp.Fn} {t:T} (hg:fH p=true) (h:sx p l i f t) :
  GC Tryz.prog 40 [.agg (ay p),.v (ii (i:Nat))] [] fun g Δ=>∃ a c,g=.v (.slice a (bQ p t).length c)/\Δ=[.vech 3 1 (aZ (bQ p t)) (.slice a (bQ p t).length c)]:=by
 obtain ⟨⟨a1,a2⟩,⟨b1,b2⟩,⟨c1,c2⟩,⟨d1,d2⟩⟩:=fg p;have hG:=H6 p hw;rw [hg] at hG
 have jB:(p.fns.map ax).length=p.fns.length:=by simp
 have hi:=(List.getElem?_eq_some_iff.1 h.gf).1
 have hr:(p.fns.map ax)[i]?=some (ax f):=by rw [getElem?_map,h.gf];rfl
 have q2:decide ((i:Int) < 0)=false:=decide_eq_false ah;have q3:decide (((p.fns.map ax).length:Int)<=(i:Int))=false:=decide_eq_false (by rw [jB];omega);have hS:=VN p (fun n hn=>by have:=(d2 n hn).2;omega) f t h.body h.st
 have hC:=fun a c=>Kb p ah _ t (Nat.le_refl _) [] a c (by have:=h.sz;show 0+_<=_;omega)
 rw [Kz] at hC;unfold bQ;unfold ax at hr;generalize oM (oy p t)=rr at *;refine aj Tryz.func40 Tryz.ntmps40 ?_;refine ab [] hG ?_;refine aJ (aC 1 8 (.f 0 (.a 9 (.a 10 (.q 11 .nil))) 9 (.a 0 (.a 10 (.q 11 .nil))))) ?_;refine au ?_;refine GO.fork ?_ ?_
 ·refine OA rfl rfl (GL.Ru rfl rfl rfl rfl ?_);refine GL.sQ (t:=19) rfl rfl rfl rfl ?_;intro a1 c1;refine dj ?_;refine au ?_;refine aE [] hS ?_;refine OA rfl rfl ?_;refine cv [1] (hC a1 c1) ?_;rintro _ _ (⟨h1,rfl,rfl⟩ | ⟨a',c',rfl,rfl⟩)
  ·refine ⟨by simp,?_⟩;refine dj ?_;subst h1;refine bg ?_;refine jo ?_;refine qR 1 rfl cy rfl ?_ ?_
   ·intro x hx;rw [List.mem_singleton.1 hx];rfl
   ·exact ⟨_,_,rfl,rfl⟩
  ·refine ⟨by simp,?_⟩;refine dj ?_;refine bg ?_;refine jo ?_;refine qR 2 rfl cy rfl ?_ ?_
   ·intro x hx;rw [List.mem_singleton.1 hx];rfl
   ·exact ⟨_,_,rfl,rfl⟩
 ·refine aE [] hS ?_;refine OA rfl rfl (GL.Ru rfl rfl rfl rfl ?_);refine GL.sQ (t:=19) rfl rfl rfl rfl ?_;intro a1 c1;refine dj ?_;refine au ?_;refine OA rfl rfl ?_;refine cv [1] (hC a1 c1) ?_;rintro _ _ (⟨h1,rfl,rfl⟩ | ⟨a',c',rfl,rfl⟩)
  ·refine ⟨by simp,?_⟩;refine dj ?_;subst h1;refine bg ?_;refine jo ?_;refine qR 1 rfl cy rfl ?_ ?_
   ·intro x hx;rw [List.mem_singleton.1 hx];rfl
   ·exact ⟨_,_,rfl,rfl⟩
  ·refine ⟨by simp,?_⟩;refine dj ?_;refine bg ?_;refine jo ?_;refine qR 2 rfl cy rfl ?_ ?_
   ·intro x hx;rw [List.mem_singleton.1 hx];rfl
   ·exact ⟨_,_,rfl,rfl⟩
theorem qX (p:Src) (t:T):Trail p (bQ p t):=⟨tq (nO p t),mK p t⟩
theorem Nj (p:Src) (hw:dB p<=1048576) (gU:fH p=true) {l:List T} {i0:Nat} {f0:Go.Sp.Fn} {t0:T} (h0:sx p l i0 f0 t0) :
  GF Tryz.prog 52 [.agg (ay p),.v (ii (i0:Nat))] [] (ints (pE p l (bQ p t0))) []:=by
 obtain ⟨⟨a1,a2⟩,⟨b1,b2⟩,⟨c1,c2⟩,⟨d1,d2⟩⟩:=fg p;have hlen:=h0.good.len;have hg:=h0.good;have hL:=qX p t0;have sS:=hL.len;have hC0:=Au p hw gU h0;generalize bQ p t0=L0 at *;obtain ⟨N,hN⟩:∃ N,p.fns.length=N:=⟨_,rfl⟩;have xE:=eh L0;refine aj Tryz.func52 Tryz.ntmps52 ?_;refine cv [] hC0 ?_;rintro _ _ ⟨ad,cp,rfl,rfl⟩;refine c8 ?_;refine ae ?_;refine GW.loop (fun s:Nat × List Int=>N - s.1) (fun s fr Γ=>∃ a c n S,fr=[.U,.U,.loc 0 0,.U,.U,.v (.slice a n c),.v (ii (s.1:Nat)),.U,.U,.U,.U,.U,.U,.U,.U,.U,.U,.U,.U,.U,.U,.U,.U,.U,.U,.U,.U,.U,.U,.U,.U,.U,.U,.U,.U,.U,.U,.U,.U]/\Γ=[.box 34 (ay p),.vech 3 1 S (.slice a n c)]/\S.length=n/\S=aZ s.2/\Trail p s.2/\s.1<=s.2.length/\mY (na p l) (N+1 - s.1) s.1 s.2=pE p l L0) (0,L0) ?_ ?_
 ·exact ⟨_,_,Wk.aD ar,ad,cp,_,_,rfl,rfl,xE,rfl,hL,Nat.zero_le _,by rw [<-hN];rfl⟩
 rintro ⟨i,L⟩ _ _ ⟨a,c,n,S,rfl,rfl,jO,hS,hW,hi,he⟩;simp only at hS hW hi he;have pL:=hW.len
 have rl:n=L.length:=by rw [<-jO,hS,eh]
 by_cases ao:i < L.length
 ·have hd:decide ((i:Int) < (n:Int))=true:=decide_eq_true ah;obtain ⟨x,hx⟩:∃ x,L[i]?=some x:=⟨L[i],by simp [ao]⟩
  have hrx:S[i]?=some [.v (ii x)]:=by rw [hS];unfold aZ;rw [getElem?_map,hx];rfl
  have pj:=hW.rng x (mem_of_getElem? hx);obtain ⟨j,hj⟩:∃ j:Nat,x=(j:Int):=⟨x.toNat,by omega⟩;subst hj
  have oF:j < p.fns.length:=by omega
  obtain ⟨f,hf⟩:∃ f,p.fns[j]?=some f:=⟨p.fns[j],by simp [oF]⟩;obtain ⟨t,ht⟩:∃ t,l[j]?=some t:=⟨l[j]'ah,getElem?_eq_getElem _⟩;have hC:=Au p hw gU (hg.fn hf ht)
  have eM:na p l (j:Int)=bQ p t:=by unfold na;rw [Int.toNat_natCast,ht]
  have mx:mY (na p l) (N+1 - (i+1)) (i+1) (dx L (bQ p t))=pE p l L0:=by
   rw [<-he,show N+1 - i=(N+1 - (i+1))+1 by omega,El hx,eM]
  have sR:=mK p t;have eX:=yZ p t
  have MP:((bQ p t).map fun i=>[GV.v (ii i)]).length=(bQ p t).length:=by simp
  have rP:i+1<=(dx L (bQ p t)).length:=by
   obtain ⟨m,hm⟩:=vK (bQ p t) L;rw [hm,length_append];omega
  generalize bQ p t=ks at *;refine ae ?_;refine aJ (aC 0 5 (.q 7 (.a 5 (.q 6 .nil)))) ?_;refine au ?_;refine OA rfl rfl ?_;refine cv [] hC ?_;rintro _ _ ⟨a2,c2,rfl,rfl⟩;refine ⟨by simp,?_⟩;refine GL.wk (Wk.pY (t:=23) (i:=2) rfl rfl rfl) ?_;refine dj ?_;refine bg ?_;refine GW.range (ks.map fun i=>[GV.v (ii i)]).length (fun k fr Γ=>∃ a c n S B,fr=[.U,.U,.loc 0 0,.U,.U,.v (.slice a n c),.v (ii (i:Nat)),.U,.U,.U,.U,.U,.U,.U,.U,.U,.U,.U,.U,.U,.U,.U,.U,ints ks,.v (ii ((ks.map fun i=>[GV.v (ii i)]).length:Int)),.v (ii (k:Nat)),.U,.U,.U,.U,.U,.U,.U,.U,.U,.U,.U,.U,.U]/\Γ=[.box 34 (ay p),.vech 3 1 S (.slice a n c),B]/\S.length=n/\S=aZ (dx L (ks.take k))) ?_ ah ?_ ?_ ?_
  ·exact ⟨_,_,Wk.aD ar,a,c,n,S,_,rfl,rfl,jO,hS⟩
  ·rintro k _ _ ⟨a,c,n,S,B,rfl,rfl,_⟩;exact dO
  ·rintro k _ _ hk ⟨a,c,n,S,B,rfl,rfl,jO,hS⟩;rw [MP] at hk;obtain ⟨y,hy⟩:∃ y,ks[k]?=some y:=⟨ks[k],by simp [hk]⟩
   have hry:(ks.map fun i=>[GV.v (ii i)])[k]?=some [.v (ii y)]:=by rw [getElem?_map,hy];rfl
   have Um:=hW.add (ks:=ks.take k) fun y hy=>sR y (List.mem_of_mem_take hy)
   have XD:=Um.len
   have AP:GF Tryz.prog 51 [.sl 1 S,.v (ii y)] [] (.v (.bool ((dx L (ks.take k)).contains y))) []:=by
    rw [hS];exact z7 (dx L (ks.take k)) y ah
   have Pk:=CK L ks k y hy
   have tV:n<=1048576:=by rw [<-jO,hS,eh];omega
   rw [Pk]
   cases hb:(dx L (ks.take k)).contains y with
   | true =>
    rw [hb] at AP;rw [if_pos rfl];refine ae ?_;refine GL.borrow AP (fun B K β w l hI hF=>gR (A:=[_]) (C:=[_]) hI hF rfl rfl) ?_;refine b8 ?_;refine ae ?_;exact ⟨rfl,rfl,_,_,Wk.aD ar,a,c,n,S,B,rfl,rfl,jO,hS⟩
   | false =>
    rw [hb] at AP;rw [if_neg aK]
    have ri:aZ (dx L (ks.take k)++[y])=S++[[.v (ii y)]]:=by rw [hS];simp [aZ]
    rw [ri];clear hS;refine ae ?_;refine GL.borrow AP (fun B K β w l hI hF=>gR (A:=[_]) (C:=[_]) hI hF rfl rfl) ?_;refine b8 ?_;refine ae ?_;refine GL.jx 1 rfl rfl rfl rfl rfl rfl rfl rfl bd mc ?_;intro a2 c2;refine bT ?_;refine ae ?_;exact ⟨rfl,rfl,_,_,Wk.aD ar,a2,c2,_,_,B,rfl,rfl,by simp [jO],rfl⟩
  ·rintro _ _ ⟨a,c,n,S,B,rfl,rfl,jO,hS⟩;rw [MP,take_length] at hS;refine gE (be ?_);refine ae ?_;exact ⟨(i+1,dx L ks),⟨_,_,(Wk.cut (n:=2) (Nat.zero_le _) rfl).trans (Wk.aD ar),a,c,n,S,rfl,rfl,jO,hS,hW.add sR,rP,mx⟩,by show N - (i+1) < N - i;omega⟩
 ·have hd:decide ((i:Int) < (n:Int))=false:=decide_eq_false ah;have hb:=Em (cs:=na p l) (f:=N+1 - i) (i:=i) (L:=L) ah;rw [hb] at he;rw [<-he];subst hS;refine bH ?_;refine ae ?_;refine GW.wk (Wk.pY (t:=4) (i:=1) rfl rfl rfl) ?_;exact al
end Go.Xg
namespace Go.Im
open Go.Xp Go.Sp
def bq (p:Src) (fn:Int):List Int:=if qw p fn=true then (match jj p.nodes p.fns 0 [] with | some (l,_)=>pE p l (na p l fn) | none=>[]) else []
theorem tS {p:Src} {l:List T} {i:Nat} {f:Go.Sp.Fn} {t:T} (hh:qw p (i:Int)=true) (h:sx p l i f t):bq p (i:Int)=pE p l (bQ p t):=by
 unfold bq;rw [if_pos hh,h.good.Eo];simp only;unfold na;rw [Int.toNat_natCast,h.gt]
theorem zI {p:Src} {fn:Int} (h:qw p fn=false):bq p fn=[]:=by unfold bq;rw [h];rfl
theorem jA {p:Src} {fn:Int}:Trail p (bq p fn):=by
 cases hh:qw p fn with
 | false=>rw [zI hh];exact ⟨List.Pairwise.nil,by simp⟩
 | true =>
  obtain ⟨i,l,f,t,rfl,h⟩:=uZ hh;rw [tS hh h];exact BN _ _ _ ⟨tq (nO p t),mK p t⟩
def ml (p:Src) (a b:Int):Bool:=(bq p a).contains b
theorem Gd (l:List Int) (x:Int):(fC l).contains x=l.contains x:=by
 cases h:l.contains x with
 | true=>exact List.contains_iff_mem.2 (tA.2 (List.contains_iff_mem.1 h))
 | false =>
  cases h2:(fC l).contains x with
  | false=>rfl
  | true=>rw [List.contains_iff_mem.2 (tA.1 (List.contains_iff_mem.1 h2))] at h;cases h
end Go.Im
namespace Go.Xg
open Go.RowKit Go.Xw Go.Proofs
open Go.Xp (Nd T Ar aR aB bR)
open Go.Sp (Src)
open Go.Im
attribute [local irreducible] GW GL GO YG GC GA aY ba
theorem R7 (p:Src) (hw:dB p<=1048576) (gU:fH p=true) {l:List T} {i:Nat} {f:Go.Sp.Fn} {t:T} (h:sx p l i f t) (z2:Int) :
  GF Tryz.prog 54 [.agg (ay p),.v (ii (i:Nat)),.v (ii z2)] [] (.v (.bool (ml p (i:Int) z2))) []:=by
 obtain ⟨⟨a1,a2⟩,⟨b1,b2⟩,⟨c1,c2⟩,⟨d1,d2⟩⟩:=fg p;have hi:=(List.getElem?_eq_some_iff.1 h.gf).1;have hC:=BR p hw h;have hT:=CR p hw h.good (bQ p t) (qX p t);have XD:=(BN (p:=p) (l:=l) (p.fns.length+1) 0 _ (qX p t)).len
 have hH:GF Tryz.prog 56 [ints (fC (pE p l (bQ p t))),.v (ii z2)] [] (.v (.bool (ml p (i:Int) z2))) []:=by
  have:=ov (fC (pE p l (bQ p t))) z2 (by rw [ma];unfold pE;omega);rw [Gd] at this;unfold ml;rw [tS (sf gU hi) h];exact this
 generalize fC (pE p l (bQ p t))=L at *;generalize bQ p t=ks at *;generalize ml p (i:Int) z2=b at *;refine aj Tryz.func54 Tryz.ntmps54 ?_;refine aJ (aC 0 3 (.q 5 (.a 3 (.a 4 (.a 6 (.q 7 .nil)))))) ?_;refine au ?_;refine aE [] hC ?_;refine aE [] hT ?_;refine aE [] hH ?_;exact aw
end Go.Xg
namespace Go.Im
open Go.Xp Go.Sp
end Go.Im
namespace Go.Xg
open Go.RowKit Go.Xw Go.Proofs
open Go.Xp (Nd T Ar aR aB bR)
open Go.Sp (Src)
open Go.Im
attribute [local irreducible] GW GL GO YG GC GA aY ba
end Go.Xg
namespace Go.Im
open Go.Xp Go.Sp
theorem Sc (p:Src) (l:List T) (x:Int):Trail p (na p l x):=by
 refine ⟨?_,BV p l x⟩;unfold na;split
 ·exact tq (nO p _)
 ·exact List.Pairwise.nil
theorem rb (p:Src):yW (bq p):=by
 intro a b hb c hc
 have ha:qw p a=true:=by
  cases h:qw p a with
  | true=>rfl
  | false=>rw [zI h] at hb;cases hb
 have bt:qw p b=true:=by
  cases h:qw p b with
  | true=>rfl
  | false=>rw [zI h] at hc;cases hc
 obtain ⟨i,l,f,t,rfl,h⟩:=uZ ha
 have hF:∀ x,qw p x=true->bq p x=pE p l (na p l x):=by
  intro x hx;unfold bq;rw [if_pos hx,h.good.Eo]
 rw [hF _ ha] at hb |-;rw [hF _ bt] at hc;have hw:=Sc p l (i:Int);have u6:=Ax (na p l) p.fns.length (BV p l) (p.fns.length+1) 0 (na p l (i:Int)) hw.nodup hw.rng (by omega) (fun j x hj=>by omega);exact CN (na p l) (fun x=>x∈pE p l (na p l (i:Int))) (fun x hx y hy=>u6 x hx y hy) _ 0 (na p l b) (fun x hx=>u6 b hb x hx) c hc
def rX (p:Src):List Int:=if fH p=true then gJ (bq p) p.fns.length p.fns.length else []
theorem Jy {p:Src} {a b:Int} (h:a≠b):(ml p a b&&ml p b a)=fk (bq p) a b:=by
 unfold fk ml;rw [show (a==b)=false from by simpa using h,Bool.false_or]
def tG (F:Int->List Int) (n:Nat) (told:List Int) (k:Int):Bool:=(F k).any fun x=>!(oR F n x==oR F n k)&&!told.contains x
theorem KZ {F:Int->List Int} (ht:yW F) {n:Nat} (hr:∀ a,∀ y∈F a,0<=y/\y < (n:Int)) {told:List Int} {k:Int} (hk:0<=k/\k < (n:Int)) (hn:told.contains k=false) :
  (!tG F n told k)=nb F told k:=by
 have hi:(!tG F n told k)=true↔nb F told k=true:=by
  rw [xr,Bool.not_eq_true'];unfold tG;rw [List.any_eq_false];constructor
  ·refine fun h=>⟨fun g hg=>?_,fun h=>by rw [List.contains_iff_mem.2 h] at hn;cases hn⟩
   have:=h g hg;rw [Bool.and_eq_true,Bool.not_eq_true',Bool.not_eq_true'] at this
   cases hc:told.contains g with
   | true=>exact .inl (List.contains_iff_mem.1 hc)
   | false =>
    refine .inr ?_
    have he:(oR F n g==oR F n k)=true:=by
     cases hq:oR F n g==oR F n k with
     | true=>rfl
     | false=>exact absurd ⟨hq,hc⟩ this
    exact pX ((AJ ht (hr k g hg) hk).1 (beq_iff_eq.1 he))
  ·rintro ⟨h,-⟩ g hg;rw [Bool.and_eq_true,Bool.not_eq_true',Bool.not_eq_true'];rintro ⟨h1,h2⟩
   rcases h g hg with h3 | h3
   ·rw [List.contains_iff_mem.2 h3] at h2;cases h2
   ·rw [beq_eq_false_iff_ne] at h1;exact h1 ((AJ ht (hr k g hg) hk).2 (pX h3))
 cases ha:!tG F n told k <;> cases hb:nb F told k <;> simp_all
end Go.Im
namespace Go.Xg
open Go.RowKit Go.Xw Go.Proofs
open Go.Xp (Nd T Ar aR aB bR)
open Go.Sp (Src)
open Go.Im
attribute [local irreducible] GW GL GO YG GC GA aY ba
theorem EM (p:Src) (hw:dB p<=1048576) (gU:fH p=true) {i:Nat} (hi:i < p.fns.length) :
  GF Tryz.prog 52 [.agg (ay p),.v (ii (i:Nat))] [] (ints (bq p (i:Int))) []:=by
 obtain ⟨i',l,f,t,he,h⟩:=uZ (sf gU hi)
 have:i'=i:=by omega
 subst this;rw [tS (sf gU hi) h];exact Nj p hw gU h
theorem zJ (p:Src) (x:Int):(bq p x).length<=p.fns.length:=(jA (p:=p) (fn:=x)).len
theorem CZ (p:Src) (hw:dB p<=1048576) (a b:Int):GF Tryz.prog 51 [ints (bq p a),.v (ii b)] [] (.v (.bool ((bq p a).contains b))) []:=by
 obtain ⟨⟨a1,a2⟩,⟨b1,b2⟩,⟨c1,c2⟩,⟨d1,d2⟩⟩:=fg p;have:=zJ p a;exact z7 (bq p a) b ah
theorem Nk (p:Src) (hw:dB p<=1048576) (gU:fH p=true) {a b:Nat} (ha:a < p.fns.length) (hb:b < p.fns.length) :
  GF Tryz.prog 61 [.agg (ay p),.v (ii (a:Nat)),.v (ii (b:Nat))] [] (.v (.bool (fk (bq p) (a:Int) (b:Int)))) []:=by
 have hA:=EM p hw gU ha;have hB:=EM p hw gU hb;have QU:=CZ p hw (a:Int) (b:Int);have hHb:=CZ p hw (b:Int) (a:Int);unfold fk;generalize bq p (a:Int)=La at *;generalize bq p (b:Int)=Lb at *
 cases he:((a:Int)==(b:Int)) with
 | true =>
  rw [Bool.true_or];refine aj Tryz.func61 Tryz.ntmps61 ?_;exact al
 | false =>
  rw [Bool.false_or]
  cases h1:La.contains (b:Int) with
  | false =>
   rw [h1] at QU;rw [Bool.false_and];refine aj Tryz.func61 Tryz.ntmps61 ?_;refine ab [] hA ?_;refine ab [] QU ?_;exact al
  | true =>
   rw [h1] at QU;rw [Bool.true_and];generalize Lb.contains (a:Int)=z at *;refine aj Tryz.func61 Tryz.ntmps61 ?_;refine ab [] hA ?_;refine ab [] QU ?_;refine ab [] hB ?_;refine ab [] hHb ?_;exact al
theorem Ni (p:Src) (hw:dB p<=1048576) (gU:fH p=true) {f:Nat} (hf:f < p.fns.length) (told:List Int) (oI:told.length<=1048576) :
  GF Tryz.prog 64 [.agg (ay p),.v (ii (f:Nat)),ints told] [] (.v (.bool (nb (bq p) told (f:Int)))) []:=by
 obtain ⟨⟨a1,a2⟩,⟨b1,b2⟩,⟨c1,c2⟩,⟨d1,d2⟩⟩:=fg p;have hA:=EM p hw gU hf;have hLl:=zJ p (f:Int);have hLr:∀ y∈bq p (f:Int),0<=y/\y < (p.fns.length:Int):=(jA (p:=p) (fn:=(f:Int))).rng
 have wR:∀ b:Nat,b < p.fns.length->GF Tryz.prog 61 [.agg (ay p),.v (ii (f:Nat)),.v (ii (b:Nat))] [] (.v (.bool (fk (bq p) (f:Int) (b:Int)))) []:=fun b hb=>Nk p hw gU hf hb
 have hT:∀ y:Int,GF Tryz.prog 51 [ints told,.v (ii y)] [] (.v (.bool (told.contains y))) []:=fun y=>z7 told y ah
 have hTf:=hT (f:Int);unfold nb;generalize hL:bq p (f:Int)=L at *
 have dh:(L.map fun i=>[GV.v (ii i)]).length=L.length:=by simp
 refine aj Tryz.func64 Tryz.ntmps64 ?_;refine ab [] hA ?_;refine GW.range (L.map fun i=>[GV.v (ii i)]).length (fun k fr Γ=>fr=[.U,.v (ii (f:Nat)),ints told,.loc 0 0,.U,.U,.U,.U,.U,.U,.U,ints L,.v (ii ((L.map fun i=>[GV.v (ii i)]).length:Int)),.v (ii (k:Nat)),.U,.U,.U,.U,.U,.U,.U,.U,.U,.U,.U,.U,.U,.U,.U,.U,.U,.U,.U]/\Γ=[.box 34 (ay p)]/\(L.take k).all (fun g=>told.contains g || fk (bq p) (f:Int) g)=true) ?_ ah ?_ ?_ ?_
 ·exact iF
 ·exact fE
 ·rintro k _ _ ao ⟨rfl,rfl,hc⟩;rw [dh] at ao;obtain ⟨y,b6⟩:∃ y,L[k]?=some y:=⟨L[k],by simp [ao]⟩;have hr:=nV b6
  have bh:(L.take (k+1)).all (fun g=>told.contains g || fk (bq p) (f:Int) g)=(told.contains y || fk (bq p) (f:Int) y):=by
   rw [take_add_one,b6,all_append,hc,Bool.true_and];simp
  have hm:=mem_of_getElem? b6;have hyr:=hLr y hm;obtain ⟨j,hj⟩:∃ j:Nat,y=(j:Int):=⟨y.toNat,by omega⟩;subst hj;have hS:=wR j ah;have MB:=hT (j:Int)
  cases h1:told.contains (j:Int) with
  | true =>
   rw [h1] at MB bh;refine ae ?_;refine ab [] MB ?_;exact ⟨rfl,rfl,_,_,Wk.aD ar,rfl,rfl,by rw [bh];rfl⟩
  | false =>
   rw [h1] at MB bh
   cases h2:fk (bq p) (f:Int) (j:Int) with
   | true =>
    rw [h2] at hS bh;refine ae ?_;refine ab [] MB ?_;refine ab [] hS ?_;exact ⟨rfl,rfl,_,_,Wk.aD ar,rfl,rfl,by rw [bh];rfl⟩
   | false =>
    rw [h2] at hS
    have bN:L.all (fun g=>told.contains g || fk (bq p) (f:Int) g)=false:=by
     rw [List.all_eq_false];exact ⟨(j:Int),hm,by rw [h1,h2];decide⟩
    rw [bN,Bool.false_and];refine ae ?_;refine ab [] MB ?_;refine ab [] hS ?_;exact al
 ·rintro _ _ ⟨rfl,rfl,hc⟩;rw [dh,take_length] at hc;rw [hc,Bool.true_and];generalize told.contains (f:Int)=z at *;refine ae ?_;refine ab [] hTf ?_;exact al
theorem Nl {p:Src} (hw:dB p<=1048576):(rX p).length<=1048576:=by
 obtain ⟨⟨a1,a2⟩,⟨b1,b2⟩,⟨c1,c2⟩,⟨d1,d2⟩⟩:=fg p;unfold rX;split
 ·rw [wh (rb p) (fun a=>(jA (p:=p) (fn:=a)).nodup) (fun a=>(jA (p:=p) (fn:=a)).rng) _ (Nat.le_refl _)];omega
 ·simp
theorem GX (p:Src) (hw:dB p<=1048576) :
  GF Tryz.prog 30 [.agg (ay p)] [] (ints (rX p)) []:=by
 obtain ⟨⟨a1,a2⟩,⟨b1,b2⟩,⟨c1,c2⟩,⟨d1,d2⟩⟩:=fg p
 have pK:(p.fns.map ax).length=p.fns.length:=by simp
 have hG:=H6 p hw;unfold rX
 cases gU:fH p with
 | false =>
  rw [gU] at hG;rw [if_neg aK];refine aj Tryz.func30 Tryz.ntmps30 ?_;refine bS ?_;refine ae ?_;refine ab [] hG ?_;exact al
 | true =>
  rw [gU] at hG;rw [if_pos rfl];have UD:=wh (rb p) (n:=p.fns.length) (fun a=>(jA (p:=p) (fn:=a)).nodup) (fun a=>(jA (p:=p) (fn:=a)).rng);refine aj Tryz.func30 Tryz.ntmps30 ?_;refine mI ?_;refine GL.sQ (t:=5) rfl rfl rfl rfl ?_;intro ZZ Z1;refine bT ?_;refine ae ?_;refine ab [] hG ?_;refine GW.range (p.fns.map ax).length (fun k fr Γ=>∃ a c n S,fr=[.U,.loc 0 0,.U,.v (.slice a n c),.U,.U,.U,.U,.U,.U,.U,.sl 3 (p.fns.map ax),.v (ii ((p.fns.map ax).length:Int)),.v (ii (k:Nat)),.U,.U,.U,.U,.U,.U,.U,.U,.U,.U,.U,.U,.U,.U,.U,.U,.U,.U]/\Γ=[.box 34 (ay p),.vech 3 1 S (.slice a n c)]/\S.length=n/\S=aZ (gJ (bq p) p.fns.length k)) ?_ ah ?_ ?_ ?_
  ·exact ⟨_,_,Wk.aD ar,ZZ,Z1,0,[],rfl,rfl,rfl,rfl⟩
  ·rintro k _ _ ⟨a,c,n,S,rfl,rfl,_⟩;exact dO
  ·rintro k _ _ hk ⟨a,c,n,S,rfl,rfl,jO,hS⟩;rw [pK] at hk;have sS:=UD k ah;obtain ⟨f,-,hf,oD,bN,b7⟩:=xV (rb p) (n:=p.fns.length) (fun a=>(jA (p:=p) (fn:=a)).nodup) (fun a=>(jA (p:=p) (fn:=a)).rng) (told:=gJ (bq p) p.fns.length k) ah;have mx:gJ (bq p) p.fns.length (k+1)=gJ (bq p) p.fns.length k++[(f:Int)]:=b7
   have hFr:∀ j:Nat,j < p.fns.length->GF Tryz.prog 64 [.agg (ay p),.v (ii (j:Nat)),.sl 1 S] [] (.v (.bool (nb (bq p) (gJ (bq p) p.fns.length k) (j:Int)))) []:=fun j hj=>by
    rw [hS];exact Ni p hw gU hj _ ah
   have ri:aZ (gJ (bq p) p.fns.length (k+1))=S++[[.v (ii (f:Int))]]:=by rw [mx,hS];simp [aZ]
   have tV:n<=1048576:=by rw [<-jO,hS,eh];omega
   rw [ri];clear hS b7 mx ri;generalize gJ (bq p) p.fns.length k=o at *;refine ae ?_;refine GW.range (p.fns.map ax).length (fun j fr Γ=>j<=f/\fr=[.U,.loc 0 0,.U,.v (.slice a n c),.U,.U,.U,.U,.U,.U,.U,.sl 3 (p.fns.map ax),.v (ii ((p.fns.map ax).length:Int)),.v (ii (k:Nat)),.U,.U,.sl 3 (p.fns.map ax),.v (ii ((p.fns.map ax).length:Int)),.v (ii (j:Nat)),.U,.U,.U,.U,.U,.U,.U,.U,.U,.U,.U,.U,.U]/\Γ=[.box 34 (ay p),.vech 3 1 S (.slice a n c)]) ?_ ah ?_ ?_ ?_
   ·exact ⟨_,_,Wk.aD ar,Nat.zero_le _,rfl,rfl⟩
   ·rintro j _ _ ⟨_,rfl,rfl⟩;exact dO
   ·rintro j _ _ hj ⟨C8,rfl,rfl⟩;rw [pK] at hj;have hC:=hFr j hj
    by_cases he:j=f
    ·subst he;rw [oD] at hC;refine ae ?_;refine GL.borrow hC (fun B K β w l hI hF=>kA (A:=[_]) (C:=[]) hI hF rfl rfl rfl) ?_;refine b8 ?_;refine ae ?_;refine GL.jx 1 rfl rfl rfl rfl rfl rfl rfl rfl bd mc ?_;intro a2 c2;refine bT ?_;refine bH ?_;refine ae ?_;exact ⟨rfl,rfl,_,_,Wk.aD ar,a2,c2,_,_,rfl,rfl,by simp [jO],rfl⟩
    ·rw [bN j ah] at hC;refine ae ?_;refine GL.borrow hC (fun B K β w l hI hF=>kA (A:=[_]) (C:=[]) hI hF rfl rfl rfl) ?_;refine b8 ?_;refine ae ?_;exact ⟨rfl,rfl,_,_,Wk.aD ar,by omega,rfl,rfl⟩
   ·rintro _ _ ⟨C8,rfl,rfl⟩;rw [pK] at C8;omega
  ·rintro _ _ ⟨a,c,n,S,rfl,rfl,jO,hS⟩;rw [pK] at hS;subst hS;refine be ?_;refine ae ?_;refine GW.wk (Wk.pY (t:=2) (i:=1) rfl rfl rfl) ?_;exact al
end Go.Xg
namespace Go.Xg
open Go.RowKit Go.Xw Go.Proofs
open Go.Im
def dQ (gs:List (List Int)):List (List GV):=gs.map fun g=>[.sl 1 (aZ g)]
theorem Inv.QK {B:Bs} {K:Fz} {β:Bt} {w:World} {Γ:List Ob} {jf base:Nat} {T E:TypeId} {h:Value} {rows:List (List GV)} {gs:List (List Int)} {hd:Nat->Value} (hI:Inv B K β Γ w)
  (C8:Γ[jf]?=some (.vech T 1 rows h)) (hlen:rows.length=gs.length) (bz:∀ i,i < gs.length->rows[i]?=some [.v (hd i)])
  (gZ:∀ i (g:List Int),gs[i]?=some g->Γ[base+i]?=some (.vech E 1 (aZ g) (hd i))) (ao:jf < base) :
  ∃ K1 RR,cq K K1/\Inv B K1 β RR w/\RR[jf]?=some (.vech T 1 (dQ gs) h):=by
 obtain ⟨K',aL,rows',a1,a2,a3,a4,a5,-⟩:=hI.Ag (T:=T) (k:=1) (o:=0) (E:=E) (k':=1) (jf:=jf) (N:=gs.length) (h:=h) (raw:=fun i=>[.v (hd i)]) (fin:=fun i=>[.sl 1 (aZ (gs[i]?.getD []))]) (ks:=fun i=>aZ (gs[i]?.getD [])) (hd:=hd) (jp:=fun i=>base+i) C8 ⟨hlen,bz⟩
  (fun i hi=>⟨rfl,rfl⟩) (fun i hi=>by
   have hg:gs[i]?=some gs[i]:=getElem?_eq_getElem hi;have:=gZ i _ hg;rw [this]
   simp only [hg,Option.getD_some]) (fun i hi=>by omega) (fun i i' _ _ h=>by omega)
 have he:rows'=dQ gs:=by
  refine ext_getElem? fun i=>?_
  unfold dQ;rw [getElem?_map]
  by_cases hi:i < gs.length
  ·rw [a5 i hi,getElem?_eq_getElem hi];rfl
  ·rw [getElem?_eq_none ah,getElem?_eq_none ah];rfl
 subst he;exact ⟨K',aL,a1,a2,a3⟩
theorem Inv.deep {B:Bs} {K:Fz} {β:Bt} {w:World} {Γ:List Ob} {jf base:Nat} {T E:TypeId} {h:Value} {rows:List (List GV)} {gs:List (List Int)} {hd:Nat->Value} (hI:Inv B K β Γ w)
  (C8:Γ[jf]?=some (.vech T 1 rows h)) (hlen:rows.length=gs.length) (bz:∀ i,i < gs.length->rows[i]?=some [.v (hd i)])
  (gZ:∀ i (g:List Int),gs[i]?=some g->Γ[base+i]?=some (.vech E 1 (aZ g) (hd i))) (ao:jf < base) :
  ∃ K1,cq K K1/\ir K1 w/\fQ K1 (fun _=>.no) w/\Rel K1 (fun _=>.no) h (.sl 1 (dQ gs)):=by
 obtain ⟨K',aL,a1,a2,a3⟩:=hI.QK C8 hlen bz gZ ao;obtain ⟨K1,b1,b2,b3,b4⟩:=a2.view a3;exact ⟨K1,a1.trans b1,b2,b3,b4⟩
open Go.Xp (Nd T Ar aR aB bR)
open Go.Sp (Src)
attribute [local irreducible] GW GL GO YG GC GA aY ba
theorem Ew (p:Src) (hw:dB p<=1048576) (gU:fH p=true) {a:Nat} (ha:a < p.fns.length) (z:Int) :
  GF Tryz.prog 54 [.agg (ay p),.v (ii (a:Nat)),.v (ii z)] [] (.v (.bool (ml p (a:Int) z))) []:=by
 obtain ⟨i',l,f,t,he,h⟩:=uZ (sf gU ha)
 have:i'=a:=by omega
 subst this;exact R7 p hw gU h z
theorem Mu (p:Src) (hw:dB p<=1048576) (gU:fH p=true) {a k:Nat} (ha:a < p.fns.length) (hk:k < p.fns.length) (r:List Int) :
  GF Tryz.prog 112 [.sl 1 (aZ ((a:Int)::r)),.box (ay p) 0,.box [.v (ii (k:Nat))] 0] [] (.v (.bool (ml p (a:Int) (k:Int)&&ml p (k:Int) (a:Int)))) []:=by
 have hA:=Ew p hw gU ha (k:Int);have hB:=Ew p hw gU hk (a:Int);have hr:(aZ ((a:Int)::r))[0]?=some [.v (ii (a:Int))]:=rfl
 have hln:0 < (aZ ((a:Int)::r)).length:=by simp [aZ]
 generalize aZ ((a:Int)::r)=R at *
 cases h1:ml p (a:Int) (k:Int) with
 | false =>
  rw [h1] at hA;rw [Bool.false_and];refine aj Tryz.func112 Tryz.ntmps112 ?_;refine aJ (aC 0 5 (.a 5 (aC 6 6 (.a 12 (.q 13 (.q 14 .nil)))))) ?_;refine au ?_;refine aE [] hA ?_;exact aw
 | true =>
  rw [h1] at hA;rw [Bool.true_and];generalize ml p (k:Int) (a:Int)=z at *;refine aj Tryz.func112 Tryz.ntmps112 ?_;refine aJ (aC 0 5 (.a 5 (aC 6 6 (.a 12 (.q 13 (.q 14 .nil)))))) ?_;refine au ?_;refine aE [] hA ?_;refine bC [] hB ?_;exact aw
theorem Ee {jN:FuncId} [aI Tryz.prog jN] (pr:List Int->Bool) (c1 c2:List GV) (ls:List (List Int)) (hn:ls.length<=1099511627776) (hc:∀ l∈ls,GF Tryz.prog jN [.sl 1 (aZ l),.box c1 0,.box c2 0] [] (.v (.bool (pr l))) []) :
  GF Tryz.prog 66 [.sl 1 (dQ ls),.fn (.func jN) [] [.box c1 0,.box c2 0]] [] (.v (ii (bM pr ls))) []:=by
 have dh:(dQ ls).length=ls.length:=by simp [dQ]
 refine aj Tryz.func66 Tryz.ntmps66 ?_;refine GW.range (dQ ls).length (fun k fr Γ=>fr=[.sl 1 (dQ ls),.fn (.func jN) [] [.box c1 0,.box c2 0],.U,.U,.U,.U,.U,.v (ii ((dQ ls).length:Int)),.v (ii (k:Nat)),.U,.U,.U,.U,.U,.U,.U,.U,.U,.U]/\Γ=[]/\(ls.take k).all (fun y=>!pr y)=true) ?_ ah ?_ ?_ ?_
 ·exact iF
 ·exact fE
 ·rintro k _ _ ao ⟨rfl,rfl,aM⟩;rw [dh] at ao;obtain ⟨x,b6⟩:∃ x,ls[k]?=some x:=⟨ls[k],by simp [ao]⟩
  have hr:(dQ ls)[k]?=some [.sl 1 (aZ x)]:=by unfold dQ;rw [getElem?_map,b6];rfl
  have h:=hc x (mem_of_getElem? b6);have bh:=jL (f:=pr) b6
  have hit:=fun h0=>ju (f:=pr) b6 h0 aM
  generalize aZ x=X at *
  cases hb:pr x with
  | true =>
   rw [hb] at h;rw [hit hb];refine ae ?_;refine gM [] h ?_;exact aw
  | false =>
   rw [hb] at h bh;refine ae ?_;refine gM [] h ?_;refine ae ?_;exact ⟨rfl,rfl,_,_,Wk.aD ar,rfl,rfl,by rw [bh,aM];rfl⟩
 ·rintro _ _ ⟨rfl,rfl,aM⟩;rw [dh,take_length] at aM;rw [gB aM];exact aw
end Go.Xg
