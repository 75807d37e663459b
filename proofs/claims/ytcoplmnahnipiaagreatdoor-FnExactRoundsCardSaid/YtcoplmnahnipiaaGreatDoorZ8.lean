/- Part 8 of proofs that are told in their last texts. -/
import Derived.Test.YtcoplmnahnipiaaGreatDoorZ5
import Derived.Test.YtcoplmnahnipiaaGreatDoorZ7
import Derived.Test.YtcoplmnahnipiaaGreatDoorZ2
import Derived.Laws.StructEq
import Derived.Test.YtcoplmnahnipiaaGreatDoorZ1
import Derived.Test.YtcoplmnahnipiaaGreatDoorZ6
import Derived.Test.YtcoplmnahnipiaaGreatDoorZ3
open List (all_eq_true append_nil ext_getElem? getElem?_map getElem?_mapIdx getElem_mem length_append length_drop length_map length_nil length_take map_append mem_of_getElem? mem_singleton nil_append take_add_one take_length)
set_option linter.unusedVariables false
set_option linter.unusedSimpArgs false
set_option maxRecDepth 100000
set_option maxHeartbeats 2000000
namespace Go.Xg
open Go.RowKit Go.Xw Go.Proofs
open Go.Im (eU qG qH rZ ll mD)
attribute [local irreducible] GW GL GO YG GC GA aW aZ
theorem G5 (a b:List ai) (ha:a.length<=1099511627776) (hb:b.length<=1099511627776):GF Tryz.prog 164 [strs a,strs b] [] (.v (.bool (eU (fun x y=>x==y) a b))) []:=by
 have jV:(a.map fun s=>[GV.v (sv s)]).length=a.length:=by simp
 have pL:(b.map fun s=>[GV.v (sv s)]).length=b.length:=by simp
 by_cases hl:a.length=b.length
 ·have hd:(((a.map fun s=>[GV.v (sv s)]).length:Int) != ((b.map fun s=>[GV.v (sv s)]).length:Int))=false:=by rw [jV,pL,hl];simp
  refine aj Tryz.func164 Tryz.ntmps164 ?_;refine GW.range (a.map fun s=>[GV.v (sv s)]).length (fun k fr Γ=>fr=[strs a,strs b,.U,.U,.U,.U,.U,.U,.U,.U,.U,.U,.v (ii ((a.map fun s=>[GV.v (sv s)]).length:Int)),.v (ii (k:Nat)),.U,.U,.U,.U,.U,.U,.U,.U,.U,.U,.U,.U]/\Γ=[]/\rZ (fun x y=>x==y) a b k) ?_ ah ?_ ?_ ?_
  ·exact ⟨_,_,Wk.ax ao,rfl,rfl,fun j x y h=>by omega⟩
  ·rintro k _ _ ⟨rfl,rfl,_⟩;exact ⟨rfl,rfl,rfl⟩
  ·rintro k _ _ ar ⟨rfl,rfl,kc⟩;rw [jV] at ar
   have mn:a[k]?=some a[k]:=by simp [ar]
   have pd:k < b.length:=by omega
   have nY:b[k]?=some b[k]:=by simp [pd]
   have EH:(a.map fun s=>[GV.v (sv s)])[k]?=some [GV.v (sv a[k])]:=by rw [getElem?_map,mn];rfl
   have EI:(b.map fun s=>[GV.v (sv s)])[k]?=some [GV.v (sv b[k])]:=by rw [getElem?_map,nY];rfl
   generalize a[k]=x at *;generalize b[k]=y at *
   cases iF:(x==y) with
   | true =>
    have hn:(x != y)=false:=by simp only [bne,iF];rfl
    have bJ:(!(x==y))=false:=by rw [iF];rfl
    refine ae ?_;refine aE (aH [0,1,2,3,4,5,6,7,8] .nil) ?_;refine ak ?_;refine ae ?_;exact ⟨rfl,rfl,_,_,Wk.ax ao,rfl,rfl,ll mn nY kc iF⟩
   | false =>
    have hn:(x != y)=true:=by simp only [bne,iF];rfl
    have bJ:(!(x==y))=true:=by rw [iF];rfl
    rw [qH mn nY (p:=fun x y=>x==y) iF];refine ae ?_;refine aE (aH [0,1,2,3,4,5,6,7,8] .nil) ?_;refine ak ?_;exact aw
  ·rintro _ _ ⟨rfl,rfl,kc⟩;rw [jV] at kc;rw [mD hl kc];exact aw
 ·have hd:(((a.map fun s=>[GV.v (sv s)]).length:Int) != ((b.map fun s=>[GV.v (sv s)]).length:Int))=true:=by rw [jV,pL];simpa using by omega
  rw [qG hl];refine aj Tryz.func164 Tryz.ntmps164 ?_;exact aq
theorem Ra (a b:List Int) (ha:a.length<=1099511627776) (hb:b.length<=1099511627776):GF Tryz.prog 208 [ints a,ints b] [] (.v (.bool (eU (fun x y=>x==y) a b))) []:=by
 have jV:(a.map fun s=>[GV.v (ii s)]).length=a.length:=by simp
 have pL:(b.map fun s=>[GV.v (ii s)]).length=b.length:=by simp
 by_cases hl:a.length=b.length
 ·have hd:(((a.map fun s=>[GV.v (ii s)]).length:Int) != ((b.map fun s=>[GV.v (ii s)]).length:Int))=false:=by rw [jV,pL,hl];simp
  refine aj Tryz.func208 Tryz.ntmps208 ?_;refine GW.range (a.map fun s=>[GV.v (ii s)]).length (fun k fr Γ=>fr=[ints a,ints b,.U,.U,.U,.U,.U,.U,.U,.U,.U,.U,.v (ii ((a.map fun s=>[GV.v (ii s)]).length:Int)),.v (ii (k:Nat)),.U,.U,.U,.U,.U,.U,.U,.U,.U,.U,.U,.U]/\Γ=[]/\rZ (fun x y=>x==y) a b k) ?_ ah ?_ ?_ ?_
  ·exact ⟨_,_,Wk.ax ao,rfl,rfl,fun j x y h=>by omega⟩
  ·rintro k _ _ ⟨rfl,rfl,_⟩;exact ⟨rfl,rfl,rfl⟩
  ·rintro k _ _ ar ⟨rfl,rfl,kc⟩;rw [jV] at ar
   have mn:a[k]?=some a[k]:=by simp [ar]
   have pd:k < b.length:=by omega
   have nY:b[k]?=some b[k]:=by simp [pd]
   have EH:(a.map fun s=>[GV.v (ii s)])[k]?=some [GV.v (ii a[k])]:=by rw [getElem?_map,mn];rfl
   have EI:(b.map fun s=>[GV.v (ii s)])[k]?=some [GV.v (ii b[k])]:=by rw [getElem?_map,nY];rfl
   generalize a[k]=x at *;generalize b[k]=y at *
   cases iF:(x==y) with
   | true =>
    have hn:(x != y)=false:=by simp only [bne,iF];rfl
    have bJ:(!(x==y))=false:=by rw [iF];rfl
    refine ae ?_;refine aE (aH [0,1,2,3,4,5,6,7,8] .nil) ?_;refine ak ?_;refine ae ?_;exact ⟨rfl,rfl,_,_,Wk.ax ao,rfl,rfl,ll mn nY kc iF⟩
   | false =>
    have hn:(x != y)=true:=by simp only [bne,iF];rfl
    have bJ:(!(x==y))=true:=by rw [iF];rfl
    rw [qH mn nY (p:=fun x y=>x==y) iF];refine ae ?_;refine aE (aH [0,1,2,3,4,5,6,7,8] .nil) ?_;refine ak ?_;exact aw
  ·rintro _ _ ⟨rfl,rfl,kc⟩;rw [jV] at kc;rw [mD hl kc];exact aw
 ·have hd:(((a.map fun s=>[GV.v (ii s)]).length:Int) != ((b.map fun s=>[GV.v (ii s)]).length:Int))=true:=by rw [jV,pL];simpa using by omega
  rw [qG hl];refine aj Tryz.func208 Tryz.ntmps208 ?_;exact aq
end Go.Xg
namespace Go.Xg
open Go.RowKit Go.Xw Go.Proofs
open Go.Xp (Nd)
open Go.Im (qy ki eU qG qH rZ ll mD)
attribute [local irreducible] GW GL GO YG GC GA aW aZ
theorem Pw (a b:Go.Sp.Fn) (ha:a.params.length<=1099511627776) (hb:b.params.length<=1099511627776):GF Tryz.prog 167 [.agg (au a),.agg (au b)] [] (.v (.bool (qy a b))) []:=by
 have he:=G5 a.params b.params ha hb;unfold qy au
 cases h1:(a.name==b.name) with
 | false =>
  refine aj Tryz.func167 Tryz.ntmps167 ?_;exact aq
 | true =>
  cases h2:eU (fun x y=>x==y) a.params b.params with
  | false =>
   rw [h2] at he;refine aj Tryz.func167 Tryz.ntmps167 ?_;refine ab [] (he) ?_;exact aq
  | true =>
   rw [h2] at he;refine aj Tryz.func167 Tryz.ntmps167 ?_;refine ab [] (he) ?_;exact aq
theorem J6 (a b:Nd) (ha:a.kids.length<=1099511627776) (hb:b.kids.length<=1099511627776):GF Tryz.prog 169 [.agg (ay a),.agg (ay b)] [] (.v (.bool (ki a b))) []:=by
 have he:=Ra a.kids b.kids ha hb;unfold ki ay;generalize eU (fun x y=>x==y) a.kids b.kids=q at *
 cases h1:(a.kind==b.kind) with
 | false =>
  refine aj Tryz.func169 Tryz.ntmps169 ?_;exact aq
 | true =>
  cases h2:(a.n==b.n) with
  | false =>
   refine aj Tryz.func169 Tryz.ntmps169 ?_;exact aq
  | true =>
   cases h3:(a.s==b.s) with
   | false =>
    refine aj Tryz.func169 Tryz.ntmps169 ?_;exact aq
   | true =>
    refine aj Tryz.func169 Tryz.ntmps169 ?_;refine ab [] (he) ?_;exact aq
theorem Ge (a b:List Go.Sp.Fn) (ha:a.length<=1099511627776) (hb:b.length<=1099511627776) (ka:∀ x∈a,x.params.length<=1099511627776) (kb:∀ x∈b,x.params.length<=1099511627776) :
  GF Tryz.prog 166 [.sl 3 (a.map au),.sl 3 (b.map au),.v (.func (.func 167) #[] #[])] [] (.v (.bool (eU qy a b))) []:=by
 have jV:(a.map au).length=a.length:=by simp
 have pL:(b.map au).length=b.length:=by simp
 by_cases hl:a.length=b.length
 ·have hd:(((a.map au).length:Int) != ((b.map au).length:Int))=false:=by rw [jV,pL,hl];simp
  refine aj Tryz.func166 Tryz.ntmps166 ?_;refine GW.range (a.map au).length (fun k fr Γ=>fr=[.U,.sl 3 (b.map au),.v (.func (.func 167) #[] #[]),.U,.U,.U,.U,.U,.U,.U,.U,.U,.U,.U,.U,.sl 3 (a.map au),.v (ii ((a.map au).length:Int)),.v (ii (k:Nat)),.U,.U,.U,.U,.U,.U,.U,.U,.U,.U,.U,.U,.U,.U]/\Γ=[]/\rZ qy a b k) ?_ ah ?_ ?_ ?_
  ·exact ⟨_,_,Wk.ax ao,rfl,rfl,fun j x y h=>by omega⟩
  ·rintro k _ _ ⟨rfl,rfl,_⟩;exact ⟨rfl,rfl,rfl⟩
  ·rintro k _ _ ar ⟨rfl,rfl,kc⟩;rw [jV] at ar
   have mn:a[k]?=some a[k]:=by simp [ar]
   have pd:k < b.length:=by omega
   have nY:b[k]?=some b[k]:=by simp [pd]
   have EH:(a.map au)[k]?=some (au a[k]):=by rw [getElem?_map,mn];rfl
   have EI:(b.map au)[k]?=some (au b[k]):=by rw [getElem?_map,nY];rfl
   have hs:=Pw a[k] b[k] (ka _ (getElem_mem ar)) (kb _ (getElem_mem pd));generalize a[k]=x at *;generalize b[k]=y at *;unfold au at EH EI hs
   cases iF:qy x y with
   | true =>
    rw [iF] at hs;refine ae ?_;refine ig [] (hs) ?_;refine ae ?_;exact ⟨rfl,rfl,_,_,(Wk.cut (n:=0) (Nat.le_refl _) rfl).trans (Wk.ax ao),rfl,rfl,ll mn nY kc iF⟩
   | false =>
    rw [iF] at hs;rw [qH mn nY (p:=qy) iF];refine ae ?_;refine ig [] (hs) ?_;exact aw
  ·rintro _ _ ⟨rfl,rfl,kc⟩;rw [jV] at kc;rw [mD hl kc];exact aw
 ·have hd:(((a.map au).length:Int) != ((b.map au).length:Int))=true:=by rw [jV,pL];simpa using by omega
  rw [qG hl];refine aj Tryz.func166 Tryz.ntmps166 ?_;exact aq
theorem Gf (a b:List Nd) (ha:a.length<=1099511627776) (hb:b.length<=1099511627776) (ka:∀ x∈a,x.kids.length<=1099511627776) (kb:∀ x∈b,x.kids.length<=1099511627776) :
  GF Tryz.prog 168 [.sl 5 (a.map ay),.sl 5 (b.map ay),.v (.func (.func 169) #[] #[])] [] (.v (.bool (eU ki a b))) []:=by
 have jV:(a.map ay).length=a.length:=by simp
 have pL:(b.map ay).length=b.length:=by simp
 by_cases hl:a.length=b.length
 ·have hd:(((a.map ay).length:Int) != ((b.map ay).length:Int))=false:=by rw [jV,pL,hl];simp
  refine aj Tryz.func168 Tryz.ntmps168 ?_;refine GW.range (a.map ay).length (fun k fr Γ=>fr=[.U,.sl 5 (b.map ay),.v (.func (.func 169) #[] #[]),.U,.U,.U,.U,.U,.U,.U,.U,.U,.U,.U,.U,.sl 5 (a.map ay),.v (ii ((a.map ay).length:Int)),.v (ii (k:Nat)),.U,.U,.U,.U,.U,.U,.U,.U,.U,.U,.U,.U,.U,.U]/\Γ=[]/\rZ ki a b k) ?_ ah ?_ ?_ ?_
  ·exact ⟨_,_,Wk.ax ao,rfl,rfl,fun j x y h=>by omega⟩
  ·rintro k _ _ ⟨rfl,rfl,_⟩;exact ⟨rfl,rfl,rfl⟩
  ·rintro k _ _ ar ⟨rfl,rfl,kc⟩;rw [jV] at ar
   have mn:a[k]?=some a[k]:=by simp [ar]
   have pd:k < b.length:=by omega
   have nY:b[k]?=some b[k]:=by simp [pd]
   have EH:(a.map ay)[k]?=some (ay a[k]):=by rw [getElem?_map,mn];rfl
   have EI:(b.map ay)[k]?=some (ay b[k]):=by rw [getElem?_map,nY];rfl
   have hs:=J6 a[k] b[k] (ka _ (getElem_mem ar)) (kb _ (getElem_mem pd));generalize a[k]=x at *;generalize b[k]=y at *;unfold ay at EH EI hs
   cases iF:ki x y with
   | true =>
    rw [iF] at hs;refine ae ?_;refine ig [] (hs) ?_;refine ae ?_;exact ⟨rfl,rfl,_,_,(Wk.cut (n:=0) (Nat.le_refl _) rfl).trans (Wk.ax ao),rfl,rfl,ll mn nY kc iF⟩
   | false =>
    rw [iF] at hs;rw [qH mn nY (p:=ki) iF];refine ae ?_;refine ig [] (hs) ?_;exact aw
  ·rintro _ _ ⟨rfl,rfl,kc⟩;rw [jV] at kc;rw [mD hl kc];exact aw
 ·have hd:(((a.map ay).length:Int) != ((b.map ay).length:Int))=true:=by rw [jV,pL];simpa using by omega
  rw [qG hl];refine aj Tryz.func168 Tryz.ntmps168 ?_;exact aq
end Go.Xg
namespace Go.Xg
open Go.RowKit Go.Xw Go.Proofs
open Go.Xp (Nd Ar)
open Go.Im (yt eU qG qH rZ ll mD)
theorem Vx (w:World) (s s':ai) (n n':Int):(Op.equalIn 10000 88 (.agg #[sv s,ii n]) (.agg #[sv s',ii n'])).run Tryz.prog w=.ok ((s==s')&&(n==n')) w:=by
 have hf:(Tryz.prog.fieldsOf 88).toList=[(Tryz.prog.fieldsOf 88)[0]!,(Tryz.prog.fieldsOf 88)[1]!]:=by kernel_rfl
 have a0:((Tryz.prog.fieldsOf 88)[0]!).type=9:=by kernel_rfl
 have a1:((Tryz.prog.fieldsOf 88)[1]!).type=3:=by kernel_rfl
 have b0:((Tryz.prog.fieldsOf 88)[0]!).offset=0:=by kernel_rfl
 have b1:((Tryz.prog.fieldsOf 88)[1]!).offset=1:=by kernel_rfl
 have c0:((Tryz.prog.fieldsOf 88)[0]!).name = "Name" := by kernel_rfl
 have c1:((Tryz.prog.fieldsOf 88)[1]!).name = "Size" := by kernel_rfl
 rw [show (10000:Nat)=9999+1 from rfl,run_equalIn_agg w 9999 _ _ _ (by kernel_rfl) (by kernel_rfl),hf];generalize (Tryz.prog.fieldsOf 88)[0]! = f0 at *;generalize (Tryz.prog.fieldsOf 88)[1]! = f1 at *
 have hs:Tryz.prog.underlying 9=some .string:=by kernel_rfl
 have hi:Tryz.prog.underlying 3=some (.int .i64):=by kernel_rfl
 have p0:∀ (a:ai) (b:Int) w,(part f0.type #[sv a,ii b] f0.offset).run Tryz.prog w=.ok (sv a) w:=fun a b w=>by
  rw [a0,b0];rfl
 have p1:∀ (a:ai) (b:Int) w,(part f1.type #[sv a,ii b] f1.offset).run Tryz.prog w=.ok (ii b) w:=fun a b w=>by
  rw [a1,b1];rfl
 have e0:∀ w,(Op.equalIn 9999 f0.type (sv s) (sv s')).run Tryz.prog w=.ok (s==s') w:=fun w=>by
  rw [a0,show (9999:Nat)=9998+1 from rfl];have:=run_equalIn_string (P:=Tryz.prog) w 9998 9 ⟨s.toArray⟩ ⟨s'.toArray⟩ hs;rw [show sv s=.string ⟨s.toArray⟩ from rfl,show sv s'=.string ⟨s'.toArray⟩ from rfl,this];simp [toList_mk]
 have e1:∀ w,(Op.equalIn 9999 f1.type (ii n) (ii n')).run Tryz.prog w=.ok (n==n') w:=fun w=>by
  rw [a1,show (9999:Nat)=9998+1 from rfl];exact run_equalIn_int (P:=Tryz.prog) w 9998 3 .i64 .i64 n n' hi
 have n0:f0.name ≠ "_" := by rw [c0];decide
 have n1:f1.name ≠ "_" := by rw [c1];decide
 rw [Op.eqFields,if_pos n0];simp only [Sem.run_bind,p0,Result.andThen_ok,e0]
 cases s==s' with
 | false=>simp
 | true =>
  simp only [Bool.not_true,Bool.false_eq_true,if_false,Bool.true_and];rw [Op.eqFields,if_pos n1];simp only [Sem.run_bind,p1,Result.andThen_ok,e1]
  cases n==n' with
  | false=>simp
  | true=>simp [Op.eqFields]
theorem YG.UC {fr:List GV} {Γ:List Ob} {x y:Operand} {t':TypeId} {s s':ai} {n n':Int} (hx:aS fr x=.agg [.v (sv s),.v (ii n)]) (hy:aS fr y=.agg [.v (sv s'),.v (ii n')]) :
  YG Tryz.prog (.binOp .neq 88 x y t') fr Γ (.v (.bool (!((s==s')&&(n==n'))))):=fun B K β w l hI hF=>by
 have two:∀ {v:Value} {a b:Value},Rel K β v (.agg [.v a,.v b])->v=.agg #[a,b]:=fun {v a b} h=>by
  cases h with
  | agg vs _ hl hh =>
   match vs,hl with
   | [u1,u2],_ =>
    have h1:=Rel.eo (hh 0 u1 (.v a) rfl rfl);have h2:=Rel.eo (hh 1 u2 (.v b) rfl rfl);rw [h1,h2]
 have qQ:=two (by rw [<-hx];exact hF.ev x);have Uk:=two (by rw [<-hy];exact hF.ev y);refine ⟨_,fun d ty pos af=>?_,.v _⟩;have hg:=run_eqGuard_agg (P:=Tryz.prog) w .neq 88 x y #[sv s,ii n] #[sv s',ii n'] (by kernel_rfl);have hn:=run_neq_struct (P:=Tryz.prog) w 88 #[sv s,ii n] #[sv s',ii n'];rw [Vx,Result.andThen_ok] at hn;simp [execOp,qQ,Uk,hg,hn]
attribute [local irreducible] GW GL GO YG GC GA aW aZ
theorem Q9 (a b:List Ar) (ha:a.length<=1099511627776) (hb:b.length<=1099511627776):GF Tryz.prog 165 [(.sl 2 (a.map fun s=>aB s)),(.sl 2 (b.map fun s=>aB s))] [] (.v (.bool (eU yt a b))) []:=by
 have jV:(a.map fun s=>aB s).length=a.length:=by simp
 have pL:(b.map fun s=>aB s).length=b.length:=by simp
 by_cases hl:a.length=b.length
 ·have hd:(((a.map fun s=>aB s).length:Int) != ((b.map fun s=>aB s).length:Int))=false:=by rw [jV,pL,hl];simp
  refine aj Tryz.func165 Tryz.ntmps165 ?_;refine GW.range (a.map fun s=>aB s).length (fun k fr Γ=>fr=[(.sl 2 (a.map fun s=>aB s)),(.sl 2 (b.map fun s=>aB s)),.U,.U,.U,.U,.U,.U,.U,.U,.U,.U,.v (ii ((a.map fun s=>aB s).length:Int)),.v (ii (k:Nat)),.U,.U,.U,.U,.U,.U,.U,.U,.U,.U,.U,.U]/\Γ=[]/\rZ yt a b k) ?_ ah ?_ ?_ ?_
  ·exact ⟨_,_,Wk.ax ao,rfl,rfl,fun j x y h=>by omega⟩
  ·rintro k _ _ ⟨rfl,rfl,_⟩;exact ⟨rfl,rfl,rfl⟩
  ·rintro k _ _ ar ⟨rfl,rfl,kc⟩;rw [jV] at ar
   have mn:a[k]?=some a[k]:=by simp [ar]
   have pd:k < b.length:=by omega
   have nY:b[k]?=some b[k]:=by simp [pd]
   have EH:(a.map fun s=>aB s)[k]?=some (aB a[k]):=by rw [getElem?_map,mn];rfl
   have EI:(b.map fun s=>aB s)[k]?=some (aB b[k]):=by rw [getElem?_map,nY];rfl
   generalize a[k]=x at *;generalize b[k]=y at *;unfold aB at EH EI
   cases iF:yt x y with
   | true =>
    have bJ:(!((x.name==y.name)&&(x.size==y.size)))=false:=by rw [show ((x.name==y.name)&&(x.size==y.size))=yt x y from rfl,iF];rfl
    refine ae ?_;refine aE (aH [0,1,2,3,4,5,6,7,8] .nil) ?_;refine ak ?_;apply OP
    ·exact rfl
    ·intro Γ;exact YG.UC rfl rfl
    refine Q5 ?_;refine ak ?_;refine ae ?_;exact ⟨rfl,rfl,_,_,Wk.ax ao,rfl,rfl,ll mn nY kc iF⟩
   | false =>
    have bJ:(!((x.name==y.name)&&(x.size==y.size)))=true:=by rw [show ((x.name==y.name)&&(x.size==y.size))=yt x y from rfl,iF];rfl
    rw [qH mn nY (p:=yt) iF];refine ae ?_;refine aE (aH [0,1,2,3,4,5,6,7,8] .nil) ?_;refine ak ?_;apply OP
    ·exact rfl
    ·intro Γ;exact YG.UC rfl rfl
    refine Q5 ?_;refine ak ?_;exact aw
  ·rintro _ _ ⟨rfl,rfl,kc⟩;rw [jV] at kc;rw [mD hl kc];exact aw
 ·have hd:(((a.map fun s=>aB s).length:Int) != ((b.map fun s=>aB s).length:Int))=true:=by rw [jV,pL];simpa using by omega
  rw [qG hl];refine aj Tryz.func165 Tryz.ntmps165 ?_;exact aq
end Go.Xg
set_option maxHeartbeats 1000000
namespace Go.Xg
open Go.RowKit Go.Xw Go.Proofs
open Go.Xp (Tok Nd T bd one levels fX dE dW df cY nP)
open Go.Sp Go.Im
attribute [local irreducible] GW GL GO YG GC GA aW aZ
structure G6 (f:Nat):Prop where
 expr:∀ d p t q x,p.ok->d+f<=1099511627776->iE f (.expr d) p=some (t,q)->GF Tryz.prog 288 [.loc 0 0,.v (ii (d:Nat))] [bF p x] (qT t) [bF q x]
 level:∀ k d p t q x,p.ok->k<=9->d+f<=1099511627776->iE f (.level k d) p=some (t,q)->GF Tryz.prog 299 [.loc 0 0,.v (ii (k:Nat)),.v (ii (d:Nat))] [bF p x] (qT t) [bF q x]
 operand:∀ d p t q x,p.ok->d+f<=1099511627776->iE f (.operand d) p=some (t,q)->GF Tryz.prog 304 [.loc 0 0,.v (ii (d:Nat))] [bF p x] (qT t) [bF q x]
 exprs:∀ d p l q x,p.ok->d+f<=1099511627776->iA f d [] p=some (l,q)->GF Tryz.prog 306 [.loc 0 0,.v (ii (d:Nat))] [bF p x] (.sl 1 (jF l)) [bF q x]
theorem Gb:GF Tryz.prog 271 [.v (ii 0),.v (ii 0),.v (sv []),.sl 1 []] [] (qT T.zero) []:=ei 0 0 [] [] [] rfl
theorem S1 {f:Nat} (C:G6 f) (d:Nat) (p:RS) (t:T) (q:RS) (x:PX) (hp:p.ok) (hd:d+(f+1)<=1099511627776) (h:iE (f+1) (.expr d) p=some (t,q)) :
  GF Tryz.prog 288 [.loc 0 0,.v (ii (d:Nat))] [bF p x] (qT t) [bF q x]:=by
 rw [iE] at h;have dy:=vh p d x hp
 by_cases hc:(bG p d).code=0
 ·have de:((bG p d).code==0)=true:=by simpa using hc
  rw [if_pos hc] at h;rw [de] at dy;rw [nU hc] at h dy;have hl:=C.level 0 (d+1) p t q x hp ah ah h;refine aj Tryz.func288 Tryz.ntmps288 ?_;refine ab [0] (dy) ?_;refine ab [0] (hl) ?_;exact aq
 ·have de:((bG p d).code==0)=false:=by simpa using hc
  rw [if_neg hc] at h;rw [de] at dy;cases h;refine aj Tryz.func288 Tryz.ntmps288 ?_;refine ab [0] (dy) ?_;refine ab [] (Gb) ?_;exact aq
theorem RT {f:Nat} (C:∀ f',f'<=f->G6 f') (k d:Nat) (p:RS) (t:T) (q:RS) (x:PX) (hp:p.ok) (hk:k<=9) (hd:d+(f+1)<=1099511627776) (h:iE (f+1) (.level k d) p=some (t,q)) :
  GF Tryz.prog 299 [.loc 0 0,.v (ii (k:Nat)),.v (ii (d:Nat))] [bF p x] (qT t) [bF q x]:=by
 rw [iE] at h
 by_cases Aj:k=9
 ·subst Aj;rw [if_pos rfl] at h;have ho:=(C f (Nat.le_refl _)).operand d p t q x hp ah h;refine aj Tryz.func299 Tryz.ntmps299 ?_;refine ab [] (sx) ?_;refine ab [0] (ho) ?_;exact aq
 ·rw [if_neg Aj] at h
  have XO:((k:Int)==9)=false:=by simp;omega
  cases he:iE f (.level (k+1) d) p with
  | none=>rw [he] at h;cases h
  | some r =>
   obtain ⟨out,p1⟩:=r;rw [he] at h;simp only at h;have jX:=((iG f).1 _ _ _ _ hp he).ok hp;have hl:=(C f (Nat.le_refl _)).level (k+1) d p out p1 x hp ah ah he;refine aj Tryz.func299 Tryz.ntmps299 ?_;refine ab [] (sx) ?_;refine ab [0] (hl) ?_;refine GW.loop (fun z:Nat × T × RS=>z.1) (fun z fr Γ=>fr=[.loc 0 0,.v (ii (k:Nat)),.v (ii (d:Nat)),.U,.U,.U,.U,qT z.2.1,.U,.U,.U,.U,.U,.U,.U,.U,.U,.U,.U,.U,.U,.U,.U,.U,.U,.U,.U,.U,.U,.U,.U,.U,.U,.U,.U,.U,.U,.U,.U,.U,.U,.U,.U,.U,.U,.U,.U,.U,.U,.U,.U,.U,.U,.U,.U,.U,.U,.U,.U,.U,.U,.U,.U,.U]/\Γ=[bF z.2.2 x]/\z.2.2.ok/\z.1<=f/\iE z.1 (.loop k d z.2.1) z.2.2=some (t,q)) (f,out,p1) ?_ ?_
   ·exact ⟨_,_,Wk.ax ao,rfl,rfl,jX,Nat.le_refl _,h⟩
   ·clear h he hl;rintro ⟨g,out,p⟩ _ _ ⟨rfl,rfl,hp,L1,h⟩;simp only at hp L1 h
    cases g with
    | zero=>simp [iE] at h
    | succ g =>
    rw [iE] at h
    have hk:k < 9:=by omega
    have ht:=qB p 0 x hp (by decide)
    by_cases hc:p.code=0
    ·have de:(p.code==0)=true:=by simpa using hc
     by_cases h3:(tok p 0).kind=3
     ·have jC:((tok p 0).kind==3)=true:=by simpa using h3
      have QA:=H7 hk;have Qw:=jP (levels.getD k []) (tok p 0).s (BK k hk)
      by_cases hit:(levels.getD k []).contains (tok p 0).s=true
      ·rw [if_pos ⟨hc,h3,hit⟩] at h;rw [hit] at Qw;have ar:p.i < p.l.length:=qX (k:=0) ah;have cE:=hp.2
       cases hb:iE g (.level (k+1) d) p.next with
       | none=>rw [hb] at h;cases h
       | some r =>
        obtain ⟨b,p2⟩:=r;rw [hb] at h;simp only at h;have cZ:=(di ar).ok hp;have dz:=((iG g).1 _ _ _ _ cZ hb).ok cZ
        have ja:=(C g ah).level (k+1) d p.next b p2 x cZ ah ah hb
        generalize tok p 0=tk at *;have gU:=ei 6 tk.at_ tk.s [out,b] [[qT out],[qT b]] (fU _);refine ae ?_;refine aE (aH [0,1,2,3,4,5,6] (.a 7 (.q 8 (.q 9 (.q 10 (.q 11 (.q 13 (.q 16 (.a 12 (.q 14 (.q 15 (.a 17 (.q 18 (.a 19 (.q 20 .nil))))))))))))))) ?_;refine ak ?_;refine bz [0] (ht) ?_;refine bz [] (sx) ?_;refine bz [0] (ht) ?_;refine bz [] (Qw) ?_;refine ae ?_;refine ab [0] (ht) ?_;refine aE (aH [0,1,2,3,4,5,6,7,8] (.a 9 (.a 10 (.a 11 (.q 12 .nil))))) ?_;refine ak ?_;refine aC [0] (ja) ?_;refine eE ?_;refine ak ?_;refine aC [] (gU) ?_;refine ae ?_;exact ⟨(g,one 6 tk.at_ tk.s [out,b],p2),⟨_,_,(Wk.cut (n:=1) (Nat.le_of_ble_eq_true rfl) rfl).trans (Wk.ax ao),rfl,rfl,dz,by omega,h⟩,by simp⟩
      ·have hit:(levels.getD k []).contains (tok p 0).s=false:=by simpa using hit
       rw [if_neg (by rw [hit];simp)] at h
       obtain ⟨rfl,rfl⟩:out=t/\p=q:=by simpa using h
       rw [hit] at Qw;generalize tok p 0=tk at *;refine ae ?_;refine aE (aH [0,1,2,3,4,5,6] (.a 7 (.q 8 (.q 9 (.q 10 (.q 11 (.q 13 (.q 16 (.a 12 (.q 14 (.q 15 (.a 17 (.q 18 (.a 19 (.q 20 .nil))))))))))))))) ?_;refine ak ?_;refine bz [0] (ht) ?_;refine bz [] (sx) ?_;refine bz [0] (ht) ?_;refine bz [] (Qw) ?_;refine ae ?_;refine aX ?_;exact aw
     ·have jC:((tok p 0).kind==3)=false:=by simpa using h3
      rw [if_neg (fun hh=>h3 hh.2.1)] at h
      obtain ⟨rfl,rfl⟩:out=t/\p=q:=by simpa using h
      generalize tok p 0=tk at *;refine ae ?_;refine aE (aH [0,1,2,3,4,5,6] (.a 7 (.q 8 (.q 9 (.q 10 (.q 11 (.q 13 (.q 16 (.a 12 (.q 14 (.q 15 (.a 17 (.q 18 (.a 19 (.q 20 .nil))))))))))))))) ?_;refine ak ?_;refine bz [0] (ht) ?_;refine ae ?_;refine aX ?_;exact aw
    ·have de:(p.code==0)=false:=by simpa using hc
     rw [if_neg (fun hh=>hc hh.1)] at h
     obtain ⟨rfl,rfl⟩:out=t/\p=q:=by simpa using h
     refine ae ?_;refine aE (aH [0,1,2,3,4,5,6] (.a 7 (.q 8 (.q 9 (.q 10 (.q 11 (.q 13 (.q 16 (.a 12 (.q 14 (.q 15 (.a 17 (.q 18 (.a 19 (.q 20 .nil))))))))))))))) ?_;refine ak ?_;refine ae ?_;refine aX ?_;exact aw
theorem Rz {f:Nat} (C:∀ f',f'<=f->G6 f') (d:Nat) (p:RS) (l:List T) (q:RS) (x:PX) (hp:p.ok) (hd:d+(f+1)<=1099511627776) (h:iA (f+1) d [] p=some (l,q)) :
  GF Tryz.prog 306 [.loc 0 0,.v (ii (d:Nat))] [bF p x] (.sl 1 (jF l)) [bF q x]:=by
 refine aj Tryz.func306 Tryz.ntmps306 ?_;refine GW.wk (Wk.BQ (t:=5) (a:=none) (c:=0) 152 1 rfl) ?_;refine GW.loop (fun z:Nat × List T × RS=>z.1) (fun z fr Γ=>∃ n rows,fr=[.loc 0 0,.v (ii (d:Nat)),.U,.U,.U,.vec 1 n,.U,.U,.U,.U,.U,.U,.U,.U,.U,.U,.U,.U,.U,.U,.U,.U,.U,.U,.U,.U,.U,.U,.U,.U,.U,.U]/\Γ=[bF z.2.2 x,.vec 152 1 0 rows]/\rows.length=n/\rows=jF z.2.1/\n+z.1<=f+1/\z.2.2.ok/\iA z.1 d z.2.1 z.2.2=some (l,q)) (f+1,[],p) ?_ ?_
 ·exact ⟨_,_,Wk.ax ao,0,[],rfl,rfl,rfl,rfl,by simp,hp,h⟩
 ·clear h hp;rintro ⟨g,acc,p⟩ _ _ ⟨n,rows,rfl,rfl,hn,bs,yG,hp,h⟩;simp only at bs yG hp h
  cases g with
  | zero=>simp [iA] at h
  | succ g =>
  rw [iA] at h;have hi:=jq p 0 [41] x hp (by decide)
  have kB:acc.length=n:=by rw [<-hn,bs,l0]
  by_cases hc:p.code=0
  ·have de:(p.code==0)=true:=by simpa using hc
   cases hs:is p 0 [41] with
   | true =>
    rw [hs] at hi;rw [if_neg (fun hh=>by have:=hh.2;rw [hs] at this;cases this)] at h
    obtain ⟨rfl,rfl⟩:acc=l/\want p [41]=q:=by simpa using h
    have hw:=eF p [41] x hp;subst bs;refine ae ?_;refine ab [0] (hi) ?_;refine aX ?_;refine ae ?_;refine bE ?_;refine ae ?_;refine ab [0] (hw) ?_;refine GW.wk (Wk.iv (t:=4) rfl rfl rfl hn) ?_;exact aq
   | false =>
    rw [hs] at hi;rw [if_pos ⟨hc,hs⟩] at h
    by_cases h0:acc.length=0
    ·rw [if_pos h0] at h
     have r8:decide ((0:Int) < (n:Int))=false:=by simpa using by omega
     cases hb:iE g (.expr d) p with
     | none=>rw [hb] at h;cases h
     | some r =>
      obtain ⟨a,p2⟩:=r;rw [hb] at h;simp only at h;have dz:=((iG g).1 _ _ _ _ hp hb).ok hp;have he:=(C g ah).expr d p a p2 x hp ah hb;refine ae ?_;refine ab [0] (hi) ?_;refine ab [0] (he) ?_;refine dY ?_;refine ae ?_;exact ⟨(g,acc++[a],p2),⟨_,_,Wk.ax ao,_,_,rfl,rfl,by simp [hn],by rw [uL,bs],by show n+1+g<=f+1;omega,dz,h⟩,by simp⟩
    ·rw [if_neg h0] at h
     have r8:decide ((0:Int) < (n:Int))=true:=by simpa using by omega
     have lq:=(bY hp [44]).ok hp;have hw:=eF p [44] x hp
     cases hb:iE g (.expr d) (want p [44]) with
     | none=>rw [hb] at h;cases h
     | some r =>
      obtain ⟨a,p2⟩:=r;rw [hb] at h;simp only at h;have dz:=((iG g).1 _ _ _ _ lq hb).ok lq;have he:=(C g ah).expr d _ a p2 x lq ah hb;refine ae ?_;refine ab [0] (hi) ?_;refine bE ?_;refine ae ?_;refine ab [0] (hw) ?_;refine ab [0] (he) ?_;refine dY ?_;refine ae ?_;exact ⟨(g,acc++[a],p2),⟨_,_,Wk.ax ao,_,_,rfl,rfl,by simp [hn],by rw [uL,bs],by show n+1+g<=f+1;omega,dz,h⟩,by simp⟩
  ·have de:(p.code==0)=false:=by simpa using hc
   rw [if_neg (fun hh=>hc hh.1)] at h
   obtain ⟨rfl,rfl⟩:acc=l/\want p [41]=q:=by simpa using h
   have hw:=eF p [41] x hp;subst bs;refine ae ?_;refine aX ?_;refine ae ?_;refine bE ?_;refine ae ?_;refine ab [0] (hw) ?_;refine GW.wk (Wk.iv (t:=4) rfl rfl rfl hn) ?_;exact aq
end Go.Xg
namespace Go.Xg
open Go.RowKit Go.Xw Go.Proofs
open Go.Xp (Tok Nd T bd one levels fX dE dW df cY nP)
open Go.Sp Go.Im
attribute [local irreducible] GW GL GO YG GC GA aW aZ
theorem MT {f:Nat} (C:G6 f) (d:Nat) (p:RS) (t:T) (q:RS) (x:PX) (hp:p.ok) (hd:d+(f+1)<=1099511627776) (h:iE (f+1) (.operand d) p=some (t,q)) :
  GF Tryz.prog 304 [.loc 0 0,.v (ii (d:Nat))] [bF p x] (qT t) [bF q x]:=by
 rw [iE] at h;have dy:=vh p d x hp;have ht:=qB p 0 x hp (by decide)
 by_cases hc:(bG p d).code=0
 case neg =>
  have de:((bG p d).code==0)=false:=by simpa using hc
  rw [if_neg hc] at h;rw [de] at dy;cases h;refine aj Tryz.func304 Tryz.ntmps304 ?_;refine ab [0] (ht) ?_;refine ab [0] (dy) ?_;refine ab [] (Gb) ?_;exact aq
 case pos =>
 have de:((bG p d).code==0)=true:=by simpa using hc
 rw [if_pos hc] at h;rw [de,nU hc] at dy;clear hc de;have h1:=jq p 0 [45] x hp (by decide);have h2:=jq p 0 [33] x hp (by decide);have h3:=jq p 0 [126] x hp (by decide);have cE:=hp.2;have CK:=hp.1
 cases fF:is p 0 [45] with
 | true =>
  rw [fF] at h1;rw [if_pos (.inl fF)] at h;have ar:p.i < p.l.length:=is_lt (k:=0) fF;have cZ:=(di ar).ok hp
  cases hb:iE f (.operand (d+1)) p.next with
  | none=>rw [hb] at h;cases h
  | some r =>
   obtain ⟨b,p2⟩:=r;rw [hb] at h;cases h
   have w9:=C.operand (d+1) p.next b _ x cZ ah hb
   generalize tok p 0=tk at *;have gU:=ei 5 tk.at_ tk.s [b] [[qT b]] (fU _);refine aj Tryz.func304 Tryz.ntmps304 ?_;refine ab [0] (ht) ?_;refine ab [0] (dy) ?_;refine ab [0] (h1) ?_;refine aE (aH [0,1,2,3,4,5,6] (.a 7 (.a 8 (.a 9 (.q 10 .nil))))) ?_;refine ak ?_;refine aC [0] (w9) ?_;refine eE ?_;refine ak ?_;refine aC [] (gU) ?_;exact aw
 | false =>
 rw [fF] at h1
 cases iC:is p 0 [33] with
 | true =>
  rw [iC] at h2;rw [if_pos (.inr (.inl iC))] at h;have ar:p.i < p.l.length:=is_lt (k:=0) iC;have cZ:=(di ar).ok hp
  cases hb:iE f (.operand (d+1)) p.next with
  | none=>rw [hb] at h;cases h
  | some r =>
   obtain ⟨b,p2⟩:=r;rw [hb] at h;cases h
   have w9:=C.operand (d+1) p.next b _ x cZ ah hb
   generalize tok p 0=tk at *;have gU:=ei 5 tk.at_ tk.s [b] [[qT b]] (fU _);refine aj Tryz.func304 Tryz.ntmps304 ?_;refine ab [0] (ht) ?_;refine ab [0] (dy) ?_;refine ab [0] (h1) ?_;refine ab [0] (h2) ?_;refine aE (aH [0,1,2,3,4,5,6] (.a 7 (.a 8 (.a 9 (.q 10 .nil))))) ?_;refine ak ?_;refine aC [0] (w9) ?_;refine eE ?_;refine ak ?_;refine aC [] (gU) ?_;exact aw
 | false =>
 rw [iC] at h2
 cases pO:is p 0 [126] with
 | true =>
  rw [pO] at h3;rw [if_pos (.inr (.inr pO))] at h;have ar:p.i < p.l.length:=is_lt (k:=0) pO;have cZ:=(di ar).ok hp
  cases hb:iE f (.operand (d+1)) p.next with
  | none=>rw [hb] at h;cases h
  | some r =>
   obtain ⟨b,p2⟩:=r;rw [hb] at h;cases h
   have w9:=C.operand (d+1) p.next b _ x cZ ah hb
   generalize tok p 0=tk at *;have gU:=ei 5 tk.at_ tk.s [b] [[qT b]] (fU _);refine aj Tryz.func304 Tryz.ntmps304 ?_;refine ab [0] (ht) ?_;refine ab [0] (dy) ?_;refine ab [0] (h1) ?_;refine ab [0] (h2) ?_;refine ab [0] (h3) ?_;refine aE (aH [0,1,2,3,4,5,6] (.a 7 (.a 8 (.a 9 (.q 10 .nil))))) ?_;refine ak ?_;refine aC [0] (w9) ?_;refine eE ?_;refine ak ?_;refine aC [] (gU) ?_;exact aw
 | false =>
 rw [pO] at h3;rw [if_neg (by rw [fF,iC,pO];decide)] at h
 by_cases hk:(tok p 0).kind=1
 case pos =>
  rw [if_pos hk] at h;have ar:p.i < p.l.length:=qX (k:=0) ah
  have kR:((tok p 0).kind==1)=true:=by simpa using hk
  cases h;generalize tok p 0=tk at *;have gU:=MO 1 tk.at_ [] [];refine aj Tryz.func304 Tryz.ntmps304 ?_;refine ab [0] (ht) ?_;refine ab [0] (dy) ?_;refine ab [0] (h1) ?_;refine ab [0] (h2) ?_;refine ab [0] (h3) ?_;refine ab [] (gU) ?_;refine GW.wk (Wk.freeze (i:=2) rfl rfl rfl (Nat.le_of_ble_eq_true rfl)) ?_;exact aq
 case neg =>
 rw [if_neg hk] at h
 have kR:((tok p 0).kind==1)=false:=by simpa using hk
 have h4:=jq p 0 [40] x hp (by decide)
 cases wj:is p 0 [40] with
 | true =>
  rw [wj] at h4;rw [if_pos wj] at h;have ar:p.i < p.l.length:=is_lt (k:=0) wj;have cZ:=(di ar).ok hp
  cases hb:iE f (.expr (d+1)) p.next with
  | none=>rw [hb] at h;cases h
  | some r =>
   obtain ⟨b,p2⟩:=r;rw [hb] at h;cases h;have dz:=((iG f).1 _ _ _ _ cZ hb).ok cZ
   have w9:=C.expr (d+1) p.next _ p2 x cZ ah hb
   have hw:=eF p2 [41] x dz;generalize tok p 0=tk at *;refine aj Tryz.func304 Tryz.ntmps304 ?_;refine ab [0] (ht) ?_;refine ab [0] (dy) ?_;refine ab [0] (h1) ?_;refine ab [0] (h2) ?_;refine ab [0] (h3) ?_;refine ab [0] (h4) ?_;refine ab [0] (w9) ?_;refine bE ?_;refine ae ?_;refine ab [0] (hw) ?_;exact aq
 | false =>
 rw [wj] at h4;rw [if_neg (by rw [wj];decide)] at h;have hn:=qd p x hp;have cZ:=(gx hp).ok hp
 by_cases gE:(bg p).code=0
 case neg =>
  rw [if_neg gE] at h
  have XF:((bg p).code != 0)=true:=by simpa using gE
  cases h;generalize tok p 0=tk at *;generalize bg p=p1 at *;have gU:=ei 2 tk.at_ tk.s [] [] rfl;refine aj Tryz.func304 Tryz.ntmps304 ?_;refine ab [0] (ht) ?_;refine ab [0] (dy) ?_;refine ab [0] (h1) ?_;refine ab [0] (h2) ?_;refine ab [0] (h3) ?_;refine ab [0] (h4) ?_;refine ab [0] (hn) ?_;refine ab [] (gU) ?_;exact aq
 case pos =>
 rw [if_pos gE] at h
 have XF:((bg p).code != 0)=false:=by simpa using gE
 generalize bg p=p1 at *;generalize tok p 0=tk at *;have h5:=jq p1 0 [91] x cZ (by decide);have aar:=cZ.2;have aaq:=cZ.1
 cases hs5:is p1 0 [91] with
 | true =>
  rw [hs5] at h5;rw [if_pos hs5] at h;have ar:p1.i < p1.l.length:=is_lt (k:=0) hs5;have EG:=(di ar).ok cZ
  cases hb:iE f (.expr (d+1)) p1.next with
  | none=>rw [hb] at h;cases h
  | some r =>
   obtain ⟨b,p2⟩:=r;rw [hb] at h;cases h;have dz:=((iG f).1 _ _ _ _ EG hb).ok EG
   have w9:=C.expr (d+1) p1.next b p2 x EG ah hb
   have hw:=eF p2 [93] x dz;have gU:=ei 3 tk.at_ tk.s [b] [[qT b]] (fU _);refine aj Tryz.func304 Tryz.ntmps304 ?_;refine ab [0] (ht) ?_;refine ab [0] (dy) ?_;refine ab [0] (h1) ?_;refine ab [0] (h2) ?_;refine ab [0] (h3) ?_;refine ab [0] (h4) ?_;refine ab [0] (hn) ?_;refine ab [0] (h5) ?_;refine ab [0] (w9) ?_;refine bE ?_;refine ae ?_;refine ab [0] (hw) ?_;refine bE ?_;refine ae ?_;refine ab [] (gU) ?_;exact aq
 | false =>
 rw [hs5] at h5;rw [if_neg (by rw [hs5];decide)] at h;have h6:=jq p1 0 [40] x cZ (by decide)
 cases hs6:is p1 0 [40] with
 | true =>
  rw [hs6] at h6;rw [if_pos hs6] at h;have ar:p1.i < p1.l.length:=is_lt (k:=0) hs6;have EG:=(di ar).ok cZ
  cases hb:iA f (d+1) [] p1.next with
  | none=>rw [hb] at h;cases h
  | some r =>
   obtain ⟨b,p2⟩:=r;rw [hb] at h;cases h
   have w9:=C.exprs (d+1) p1.next b _ x EG ah hb
   have gU:=ei 4 tk.at_ tk.s b (jF b) rfl;refine aj Tryz.func304 Tryz.ntmps304 ?_;refine ab [0] (ht) ?_;refine ab [0] (dy) ?_;refine ab [0] (h1) ?_;refine ab [0] (h2) ?_;refine ab [0] (h3) ?_;refine ab [0] (h4) ?_;refine ab [0] (hn) ?_;refine ab [0] (h5) ?_;refine ab [0] (h6) ?_;refine aE (aH [0,1,2,3,4,5] (.a 6 (.a 7 (.q 8 .nil)))) ?_;refine ak ?_;refine aC [0] (w9) ?_;refine aC [] (gU) ?_;exact aw
 | false =>
  rw [hs6] at h6;rw [if_neg (by rw [hs6];decide)] at h;cases h;have gU:=ei 2 tk.at_ tk.s [] [] rfl;refine aj Tryz.func304 Tryz.ntmps304 ?_;refine ab [0] (ht) ?_;refine ab [0] (dy) ?_;refine ab [0] (h1) ?_;refine ab [0] (h2) ?_;refine ab [0] (h3) ?_;refine ab [0] (h4) ?_;refine ab [0] (hn) ?_;refine ab [0] (h5) ?_;refine ab [0] (h6) ?_;refine ab [] (gU) ?_;exact aq
theorem W4 (f:Nat):G6 f:=by
 induction f using Nat.strongRecOn with
 | _ f ih =>
  cases f with
  | zero=>exact ⟨fun d p t q x _ _ h=>by simp [iE] at h,fun k d p t q x _ _ _ h=>by simp [iE] at h,fun d p t q x _ _ h=>by simp [iE] at h,fun d p l q x _ _ h=>by simp [iA] at h⟩
  | succ f =>
   have C:=ih f (Nat.lt_succ_self f)
   have Cs:∀ f',f'<=f->G6 f':=fun f' h=>ih f' (Nat.lt_succ_of_le h)
   exact ⟨fun d p t q x hp hd h=>S1 C d p t q x hp hd h,fun k d p t q x hp hk hd h=>RT Cs k d p t q x hp hk hd h,fun d p t q x hp hd h=>MT C d p t q x hp hd h,fun d p l q x hp hd h=>Rz Cs d p l q x hp hd h⟩
end Go.Xg
namespace Go.Im
open Go.Xp Go.Sp
def UX (f d:Nat) (p:RS):Option (T × RS) :=
 if (tok p 0).kind=2/\is p 1 [61]=true then match iE f (.expr (d+1)) (want (bg p) [61]) with
  | none=>none
  | some (e,q)=>some (one 7 (tok p 0).at_ (tok p 0).s [e],want q [59])
 else match iE f (.expr (d+1)) p with
  | none=>none
  | some (e,q) =>
   if vK p q e then match e.kids,iE f (.expr (d+1)) (want q [61]) with
    | a::_,some (v,q)=>some (one 8 (tok p 0).at_ e.n.s [a,v],want q [59])
    | _,_=>none
   else some (one 12 (tok p 0).at_ [] [e],want q [59])
end Go.Im
namespace Go.Xg
open Go.RowKit Go.Xw Go.Proofs
open Go.Xp (Tok Nd T bd one levels fX dE dW df cY nP)
open Go.Sp Go.Im
attribute [local irreducible] GW GL GO YG GC GA aW aZ
theorem PD {f:Nat} (d:Nat) (p:RS) (t:T) (q:RS) (x:PX) (hp:p.ok) (hd:d+1+f<=1099511627776) (h:UX f d p=some (t,q)) :
  GF Tryz.prog 289 [.loc 0 0,.v (ii (d:Nat))] [bF p x] (qT t) [bF q x]:=by
 unfold UX at h;have C:=W4 f;have ht:=qB p 0 x hp (by decide);have hi:=jq p 1 [61] x hp (by decide)
 have main:∀ kk,((tok p 0).kind==2)=kk->(kk=true->is p 1 [61]=false)->GF Tryz.prog 289 [.loc 0 0,.v (ii (d:Nat))] [bF p x] (qT t) [bF q x]:=by
  intro kk hk qJ
  rw [if_neg (fun hh=>by
   have h1:kk=true:=by rw [<-hk];simpa using hh.1
   have h2:=qJ h1
   rw [hh.2] at h2;cases h2)] at h
  cases he:iE f (.expr (d+1)) p with
  | none=>rw [he] at h;cases h
  | some r =>
   obtain ⟨e,q1⟩:=r;rw [he] at h;simp only at h;have pM:=((iG f).1 _ _ _ _ hp he).ok hp;have aaw:=pM.1;have aax:=pM.2;have hex:=C.expr (d+1) p e q1 x hp ah he;have Qy:=jq q1 0 [61] x pM (by decide)
   have Ek:e.n.kind=3->q1.code=0->∃ yS,q1.l[q1.i - 1]?=some yS/\tt q1=yS.s/\1<=q1.i:=by
    intro _ hc;have h1:=Uo f _ _ _ _ hp he hc (fun k d out h=>by cases h);have h2:=pM.1
    have ar:q1.i - 1 < q1.l.length:=by omega
    exact ⟨q1.l[q1.i - 1],by simp [ar],by unfold tt;simp [ar],by omega⟩
   by_cases hput:vK p q1 e
   ·rw [if_pos hput] at h;have jZ:=hput;obtain ⟨s1,s2,s3,s4,s5,s6⟩:=jZ;obtain ⟨yS,a1,a2,a3⟩:=Ek s1 s2
    have kU:kk=true:=by rw [<-hk];simpa using s5
    subst kU;have yE:=qJ rfl;rw [yE] at hi;rw [s6] at Qy
    match CH:e.kids,hv:iE f (.expr (d+1)) (want q1 [61]),h with
    | a::rk,some (v,q2),h =>
     cases h;have lq:=(bY pM [61]).ok pM;have HL:=((iG f).1 _ _ _ _ lq hv).ok lq;have hw:=eF q1 [61] x pM;have XJ:=C.expr (d+1) _ v q2 x lq ah hv;have n5:=eF q2 [59] x HL;have hr:=jM a1;have c6:(jF e.kids)[0]?=some [qT a]:=AP (by rw [CH];rfl);have Md:(jF (a::rk))[0]?=some [qT a]:=AP rfl
     have b1:(e.n.kind==3)=true:=by simpa using s1
     have b2:(q1.code==0)=true:=by simpa using s2
     have b3:(yS.s==[93])=true:=by rw [<-a2];simpa using s3
     have b4:(e.n.at_==(tok p 0).at_)=true:=by simpa using s4
     have gU:=ei 8 (tok p 0).at_ e.n.s [a,v] [[qT a],[qT v]] (fU _);generalize tok p 0=tk at *;refine aj Tryz.func289 Tryz.ntmps289 ?_;refine ab [0] (ht) ?_;refine ab [0] (hi) ?_;refine ab [0] (hex) ?_;refine aE (aH [0,1,2,3,4,5,6,7,8,9,10,11,12,13,14,15,16,17,18,19,20,21,22,23,24,25,26,27,28,29,30,31,32,33,34,35,36,37,38,39,40,41,42,43,44] (.a 45 (.q 46 .nil))) ?_;refine ak ?_;refine bz [0] (Qy) ?_;refine ae ?_;refine bE ?_;refine ae ?_;refine ab [0] (hw) ?_;refine ab [0] (XJ) ?_;refine bE ?_;refine ae ?_;refine ab [0] (n5) ?_;refine aE (aH [0,1,2,3,4,5,6,7,8,9,10,11,12,13] (.a 14 (.a 15 (.q 16 .nil)))) ?_;refine ak ?_;refine eE ?_;refine ak ?_;refine aC [] (gU) ?_;exact aw
    | [],_,h=>simp at h
    | _::_,none,h=>simp at h
   ·rw [if_neg hput] at h;cases h;have hw:=eF q1 [59] x pM;have gU:=ei 12 (tok p 0).at_ [] [e] [[qT e]] (fU _)
    cases kk with
    | true =>
     have yE:=qJ rfl;rw [yE] at hi;refine aj Tryz.func289 Tryz.ntmps289 ?_;refine ab [0] (ht) ?_;refine ab [0] (hi) ?_;refine ab [0] (hex) ?_;refine GW.join (fun fr Γ=>fr=[.loc 0 0,.v (ii (d:Nat)),.U,.U,.U,.loc 1 0,.U,.U,qT e,.U,.U,.U,.U,.U,.U,.U,.U,.U,.U,.U,.U,.U,.U,.U,.U,.U,.U,.U,.U,.U,.U,.U,.U,.U,.U,.U,.U,.U,.U,.U,.U,.U,.U,.U,.U,.U,.U,.U,.U,.U,.U,.U,.U,.U,.U,.U,.U,.U,.U,.U,.U,.U,.U,.U,.U,.U,.U,.U,.U,.U,.U,.U,.U,.U,.U,.U,.U,.U,.U,.U,.U,.U,.U,.U,.U,.U,.U,.v (.bool false),.U,.U,.U,.U,.U,.U,.U,.U,.U,.U,.U,.U,.U,.U,.U,.U,.U,.U,.U,.U,.U,.U,.U,.U,.U,.U,.U,.U,.U,.U,.U,.U,.U,.U]/\Γ=[bF q1 x,.box 203 (cV (tok p 0))]) ?_ ?_
     ·by_cases s1:e.n.kind=3
      ·have b1:(e.n.kind==3)=true:=by simpa using s1
       by_cases s2:q1.code=0
       ·have b2:(q1.code==0)=true:=by simpa using s2
        obtain ⟨yS,a1,a2,a3⟩:=Ek s1 s2;have hr:=jM a1
        by_cases s3:tt q1=[93]
        ·have b3:(yS.s==[93])=true:=by rw [<-a2];simpa using s3
         by_cases s4:e.n.at_=(tok p 0).at_
         ·have b4:(e.n.at_==(tok p 0).at_)=true:=by simpa using s4
          have s6:is q1 0 [61]=false:=by
           cases h6:is q1 0 [61] with
           | false=>rfl
           | true=>exact absurd ⟨s1,s2,s3,s4,by simpa using hk,h6⟩ hput
          rw [s6] at Qy;generalize tok p 0=tk at *;refine aE (aH [0,1,2,3,4,5,6,7,8,9,10,11,12,13,14,15,16,17,18,19,20,21,22,23,24,25,26,27,28,29,30,31,32,33,34,35,36,37,38,39,40,41,42,43,44] (.a 45 (.q 46 .nil))) ?_;refine ak ?_;refine bz [0] (Qy) ?_;refine ae ?_;exact ⟨_,_,Wk.ax ao,rfl,rfl⟩
         ·have b4:(e.n.at_==(tok p 0).at_)=false:=by simpa using s4
          generalize tok p 0=tk at *;refine aE (aH [0,1,2,3,4,5,6,7,8,9,10,11,12,13,14,15,16,17,18,19,20,21,22,23,24,25,26,27,28,29,30,31,32,33,34,35,36,37,38,39,40,41,42,43,44] (.a 45 (.q 46 .nil))) ?_;refine ak ?_;refine ae ?_;exact ⟨_,_,Wk.ax ao,rfl,rfl⟩
        ·have b3:(yS.s==[93])=false:=by rw [<-a2];simpa using s3
         generalize tok p 0=tk at *;refine aE (aH [0,1,2,3,4,5,6,7,8,9,10,11,12,13,14,15,16,17,18,19,20,21,22,23,24,25,26,27,28,29,30,31,32,33,34,35,36,37,38,39,40,41,42,43,44] (.a 45 (.q 46 .nil))) ?_;refine ak ?_;refine ae ?_;exact ⟨_,_,Wk.ax ao,rfl,rfl⟩
       ·have b2:(q1.code==0)=false:=by simpa using s2
        generalize tok p 0=tk at *;refine aE (aH [0,1,2,3,4,5,6,7,8,9,10,11,12,13,14,15,16,17,18,19,20,21,22,23,24,25,26,27,28,29,30,31,32,33,34,35,36,37,38,39,40,41,42,43,44] (.a 45 (.q 46 .nil))) ?_;refine ak ?_;refine ae ?_;exact ⟨_,_,Wk.ax ao,rfl,rfl⟩
      ·have b1:(e.n.kind==3)=false:=by simpa using s1
       generalize tok p 0=tk at *;refine aE (aH [0,1,2,3,4,5,6,7,8,9,10,11,12,13,14,15,16,17,18,19,20,21,22,23,24,25,26,27,28,29,30,31,32,33,34,35,36,37,38,39,40,41,42,43,44] (.a 45 (.q 46 .nil))) ?_;refine ak ?_;refine ae ?_;exact ⟨_,_,Wk.ax ao,rfl,rfl⟩
     ·rintro _ _ ⟨rfl,rfl⟩;generalize tok p 0=tk at *;refine ae ?_;refine bE ?_;refine ae ?_;refine ab [0] (hw) ?_;refine bE ?_;refine ae ?_;refine ab [] (gU) ?_;exact aq
    | false =>
     refine aj Tryz.func289 Tryz.ntmps289 ?_;refine ab [0] (ht) ?_;refine ab [0] (hex) ?_;refine GW.join (fun fr Γ=>fr=[.loc 0 0,.v (ii (d:Nat)),.U,.U,.U,.loc 1 0,.U,.U,qT e,.U,.U,.U,.U,.U,.U,.U,.U,.U,.U,.U,.U,.U,.U,.U,.U,.U,.U,.U,.U,.U,.U,.U,.U,.U,.U,.U,.U,.U,.U,.U,.U,.U,.U,.U,.U,.U,.U,.U,.U,.U,.U,.U,.U,.U,.U,.U,.U,.U,.U,.U,.U,.U,.U,.U,.U,.U,.U,.U,.U,.U,.U,.U,.U,.U,.U,.U,.U,.U,.U,.U,.U,.U,.U,.U,.U,.U,.U,.v (.bool false),.U,.U,.U,.U,.U,.U,.U,.U,.U,.U,.U,.U,.U,.U,.U,.U,.U,.U,.U,.U,.U,.U,.U,.U,.U,.U,.U,.U,.U,.U,.U,.U,.U,.U]/\Γ=[bF q1 x,.box 203 (cV (tok p 0))]) ?_ ?_
     ·by_cases s1:e.n.kind=3
      ·have b1:(e.n.kind==3)=true:=by simpa using s1
       by_cases s2:q1.code=0
       ·have b2:(q1.code==0)=true:=by simpa using s2
        obtain ⟨yS,a1,a2,a3⟩:=Ek s1 s2;have hr:=jM a1
        by_cases s3:tt q1=[93]
        ·have b3:(yS.s==[93])=true:=by rw [<-a2];simpa using s3
         by_cases s4:e.n.at_=(tok p 0).at_
         ·have b4:(e.n.at_==(tok p 0).at_)=true:=by simpa using s4
          generalize tok p 0=tk at *;refine aE (aH [0,1,2,3,4,5,6,7,8,9,10,11,12,13,14,15,16,17,18,19,20,21,22,23,24,25,26,27,28,29,30,31,32,33,34,35,36,37,38,39,40,41,42,43,44] (.a 45 (.q 46 .nil))) ?_;refine ak ?_;refine ae ?_;exact ⟨_,_,Wk.ax ao,rfl,rfl⟩
         ·have b4:(e.n.at_==(tok p 0).at_)=false:=by simpa using s4
          generalize tok p 0=tk at *;refine aE (aH [0,1,2,3,4,5,6,7,8,9,10,11,12,13,14,15,16,17,18,19,20,21,22,23,24,25,26,27,28,29,30,31,32,33,34,35,36,37,38,39,40,41,42,43,44] (.a 45 (.q 46 .nil))) ?_;refine ak ?_;refine ae ?_;exact ⟨_,_,Wk.ax ao,rfl,rfl⟩
        ·have b3:(yS.s==[93])=false:=by rw [<-a2];simpa using s3
         generalize tok p 0=tk at *;refine aE (aH [0,1,2,3,4,5,6,7,8,9,10,11,12,13,14,15,16,17,18,19,20,21,22,23,24,25,26,27,28,29,30,31,32,33,34,35,36,37,38,39,40,41,42,43,44] (.a 45 (.q 46 .nil))) ?_;refine ak ?_;refine ae ?_;exact ⟨_,_,Wk.ax ao,rfl,rfl⟩
       ·have b2:(q1.code==0)=false:=by simpa using s2
        generalize tok p 0=tk at *;refine aE (aH [0,1,2,3,4,5,6,7,8,9,10,11,12,13,14,15,16,17,18,19,20,21,22,23,24,25,26,27,28,29,30,31,32,33,34,35,36,37,38,39,40,41,42,43,44] (.a 45 (.q 46 .nil))) ?_;refine ak ?_;refine ae ?_;exact ⟨_,_,Wk.ax ao,rfl,rfl⟩
      ·have b1:(e.n.kind==3)=false:=by simpa using s1
       generalize tok p 0=tk at *;refine aE (aH [0,1,2,3,4,5,6,7,8,9,10,11,12,13,14,15,16,17,18,19,20,21,22,23,24,25,26,27,28,29,30,31,32,33,34,35,36,37,38,39,40,41,42,43,44] (.a 45 (.q 46 .nil))) ?_;refine ak ?_;refine ae ?_;exact ⟨_,_,Wk.ax ao,rfl,rfl⟩
     ·rintro _ _ ⟨rfl,rfl⟩;generalize tok p 0=tk at *;refine ae ?_;refine bE ?_;refine ae ?_;refine ab [0] (hw) ?_;refine bE ?_;refine ae ?_;refine ab [] (gU) ?_;exact aq
 by_cases hk:(tok p 0).kind=2
 ·cases yE:is p 1 [61] with
  | true =>
   clear main;rw [if_pos ⟨hk,yE⟩] at h;rw [yE] at hi
   have kR:((tok p 0).kind==2)=true:=by simpa using hk
   have hn:=qd p x hp;have cZ:=(gx hp).ok hp;have hw:=eF (bg p) [61] x cZ;have lq:=(bY cZ [61]).ok cZ
   cases he:iE f (.expr (d+1)) (want (bg p) [61]) with
   | none=>rw [he] at h;cases h
   | some r =>
    obtain ⟨e,q1⟩:=r;rw [he] at h;cases h;have pM:=((iG f).1 _ _ _ _ lq he).ok lq;have hex:=C.expr (d+1) _ e q1 x lq ah he;have n5:=eF q1 [59] x pM;have gU:=ei 7 (tok p 0).at_ (tok p 0).s [e] [[qT e]] (fU _);generalize tok p 0=tk at *;refine aj Tryz.func289 Tryz.ntmps289 ?_;refine ab [0] (ht) ?_;refine ab [0] (hi) ?_;refine ab [0] (hn) ?_;refine bE ?_;refine ae ?_;refine ab [0] (hw) ?_;refine ab [0] (hex) ?_;refine bE ?_;refine ae ?_;refine ab [0] (n5) ?_;refine bE ?_;refine ae ?_;refine ab [] (gU) ?_;exact aq
  | false=>exact main true (by simpa using hk) (fun _=>yE)
 ·exact main false (by simpa using hk) (fun h=>by cases h)
end Go.Xg
namespace Go.Xg
open Go.RowKit Go.Xw Go.Proofs
open Go.Xp (Tok Nd T bd one levels fX dE dW df cY nP pU)
open Go.Sp Go.Im
attribute [local irreducible] GW GL GO YG GC GA aW aZ
theorem MN (k a:Int) (s:ai):GF Tryz.prog 271 [.v (ii k),.v (ii a),.v (sv s),.v (.slice none 0 0)] [] (.loc 0 0) [.box 190 [.v (ii k),.v (ii a),.v (ii 0),.v (sv s),.v (.slice none 0 0),.v (.slice none 0 0)]]:=by
 refine aj Tryz.func271 Tryz.ntmps271 ?_;refine GW.wk (Wk.cells 0 rfl (ds:=[.v (ii k),.v (ii a),.v (ii 0),.v (sv s),.v (.slice none 0 0),.v (.slice none 0 0)]) iM) ?_;refine GW.ret ?_;refine o7 (n:=1) rfl (by first | exact .inr rfl | exact .inl rfl) rfl (Nat.zero_le _) rfl rfl ?_;exact ⟨rfl,rfl⟩
structure P8 (f:Nat):Prop where
 block:∀ d p t q x,p.ok->d+3+f<=1099511627776->iS f (.block d) p=some (t,q)->GF Tryz.prog 244 [.loc 0 0,.v (ii (d:Nat))] [bF p x] (qT t) [bF q x]
 stmt:∀ d p t q x,p.ok->d+3+f<=1099511627776->iS f (.stmt d) p=some (t,q)->GF Tryz.prog 273 [.loc 0 0,.v (ii (d:Nat))] [bF p x] (qT t) [bF q x]
theorem Ri {f:Nat} (C:∀ f',f'<=f->P8 f') (d:Nat) (p:RS) (t:T) (q:RS) (x:PX) (hp:p.ok) (hd:d+3+(f+1)<=1099511627776) (h:iS (f+1) (.block d) p=some (t,q)) :
  GF Tryz.prog 244 [.loc 0 0,.v (ii (d:Nat))] [bF p x] (qT t) [bF q x]:=by
 rw [iS] at h;have dy:=vh p d x hp;have ht:=qB p 0 x hp (by decide);have CI:=MN 14 (tok p 0).at_ []
 by_cases hc:(bG p d).code=0
 case neg =>
  have de:((bG p d).code==0)=false:=by simpa using hc
  rw [if_neg hc] at h;rw [de] at dy;cases h;generalize tok p 0=tk at *;refine aj Tryz.func244 Tryz.ntmps244 ?_;refine ab [0] (ht) ?_;refine ab [] (CI) ?_;refine ab [0] (dy) ?_;refine GW.wk (Wk.cells 1 rfl (ds:=[.v (ii 14),.v (ii tk.at_),.v (ii 0),.v (sv []),.v (.slice none 0 0),.sl 1 []]) iM) ?_;refine GW.wk (Wk.freeze (i:=1) rfl rfl rfl (Nat.le_of_ble_eq_true rfl)) ?_;exact aq
 case pos =>
 have de:((bG p d).code==0)=true:=by simpa using hc
 rw [if_pos hc] at h;rw [de,nU hc] at dy;clear hc de;have lq:=(bY hp [123]).ok hp;have hw:=eF p [123] x hp
 cases he:iB f (d+1) [] (want p [123]) with
 | none=>rw [he] at h;cases h
 | some r =>
  obtain ⟨l,q1⟩:=r;rw [he] at h;cases h;generalize tok p 0=tk at *;refine aj Tryz.func244 Tryz.ntmps244 ?_;refine ab [0] (ht) ?_;refine ab [] (CI) ?_;refine ab [0] (dy) ?_;refine bE ?_;refine ae ?_;refine ab [0] (hw) ?_;refine GW.wk (Wk.JR (i:=1) (o:=5) 152 1 rfl rfl) ?_;refine GW.loop (fun z:Nat × List T × RS=>z.1) (fun z fr Γ=>∃ n rows,fr=[.loc 0 0,.v (ii (d:Nat)),.U,.U,.U,.loc 1 0,.U,.U,.U,.U,.U,.U,.U,.U,.U,.U,.U,.U,.U,.U,.U,.U,.U,.U,.U,.U,.U,.U,.U,.U,.U,.U,.U,.U,.U,.U,.U,.U,.U,.U,.U,.U,.U,.U,.U]/\Γ=[bF z.2.2 x,.box 190 [.v (ii 14),.v (ii tk.at_),.v (ii 0),.v (sv []),.v (.slice none 0 0),.vec 2 n],.vec 152 1 0 rows]/\rows.length=n/\rows=jF z.2.1/\n+z.1<=f/\z.2.2.ok/\iB z.1 (d+1) z.2.1 z.2.2=some (l,q1)) (f,[],want p [123]) ?_ ?_
  ·exact ⟨_,_,Wk.ax ao,0,[],rfl,rfl,rfl,rfl,by simp,lq,he⟩
  ·clear he lq hw dy ht;rintro ⟨g,acc,p⟩ _ _ ⟨n,rows,rfl,rfl,hn,bs,yG,hp,h⟩;simp only at bs yG hp h
   cases g with
   | zero=>simp [iB] at h
   | succ g =>
   rw [iB] at h;have hi:=jq p 0 [125] x hp (by decide)
   by_cases hc:p.code=0
   ·have de:(p.code==0)=true:=by simpa using hc
    cases hs:is p 0 [125] with
    | true =>
     rw [hs] at hi;rw [if_neg (fun hh=>by have:=hh.2;rw [hs] at this;cases this)] at h
     obtain ⟨rfl,rfl⟩:acc=l/\p=q1:=by simpa using h
     have hw:=eF p [125] x hp;subst bs;refine ae ?_;refine ab [0] (hi) ?_;refine aX ?_;refine ae ?_;refine bE ?_;refine ae ?_;refine ab [0] (hw) ?_;refine GW.wk (Wk.yb (i:=1) (o:=5) rfl rfl rfl rfl hn) ?_;refine GW.wk (Wk.freeze (i:=1) rfl rfl rfl (Nat.le_of_ble_eq_true rfl)) ?_;exact aq
    | false =>
     rw [hs] at hi;rw [if_pos ⟨hc,hs⟩] at h
     cases hb:iS g (.stmt (d+1)) p with
     | none=>rw [hb] at h;cases h
     | some r =>
      obtain ⟨a,p2⟩:=r;rw [hb] at h;simp only at h;have dz:=((Dz g).1 _ _ _ _ hp hb).ok hp;have b6:=(C g ah).stmt (d+1) p a p2 x hp ah hb;refine ae ?_;refine ab [0] (hi) ?_;refine aE (aH [0,1,2,3,4,5,6,7] (.a 8 (.a 9 (.a 10 (.q 11 (.q 12 (.a 13 .nil))))))) ?_;refine ak ?_;refine aC [0] (b6) ?_;refine eE ?_;refine ak ?_;refine B6 ?_;refine ak ?_;refine ae ?_;exact ⟨(g,acc++[a],p2),⟨_,_,Wk.ax ao,_,_,rfl,rfl,by simp [hn],by rw [uL,bs];rfl,by show n+1+g<=f;omega,dz,h⟩,by simp⟩
   ·have de:(p.code==0)=false:=by simpa using hc
    rw [if_neg (fun hh=>hc hh.1)] at h
    obtain ⟨rfl,rfl⟩:acc=l/\p=q1:=by simpa using h
    have hw:=eF p [125] x hp;subst bs;refine ae ?_;refine aX ?_;refine ae ?_;refine bE ?_;refine ae ?_;refine ab [0] (hw) ?_;refine GW.wk (Wk.yb (i:=1) (o:=5) rfl rfl rfl rfl hn) ?_;refine GW.wk (Wk.freeze (i:=1) rfl rfl rfl (Nat.le_of_ble_eq_true rfl)) ?_;exact aq
theorem U2 {f:Nat} (C:P8 f) (d:Nat) (p:RS) (t:T) (q:RS) (x:PX) (hp:p.ok) (hd:d+3+(f+1)<=1099511627776) (h:iS (f+1) (.stmt d) p=some (t,q)) :
  GF Tryz.prog 273 [.loc 0 0,.v (ii (d:Nat))] [bF p x] (qT t) [bF q x]:=by
 rw [iS] at h;have E:=W4 f;have dy:=vh p d x hp;have ht:=qB p 0 x hp (by decide)
 by_cases hc:(bG p d).code=0
 case neg =>
  have de:((bG p d).code==0)=false:=by simpa using hc
  rw [if_neg hc] at h;rw [de] at dy;cases h;refine aj Tryz.func273 Tryz.ntmps273 ?_;refine ab [0] (ht) ?_;refine ab [0] (dy) ?_;refine ab [] (Gb) ?_;exact aq
 case pos =>
 have de:((bG p d).code==0)=true:=by simpa using hc
 rw [if_pos hc] at h;rw [de,nU hc] at dy;clear hc de;have cE:=hp.2;have CK:=hp.1;have h1:=jq p 0 fX x hp (by decide);have h2:=jq p 0 dE x hp (by decide);have h3:=jq p 0 df x hp (by decide);have h4:=jq p 0 cY x hp (by decide)
 cases fF:is p 0 fX with
 | true =>
  rw [fF] at h1;rw [if_pos fF] at h;have ar:p.i < p.l.length:=is_lt (k:=0) fF;have cZ:=(di ar).ok hp
  have hn:=qd p.next x cZ
  have xc:=(gx cZ).ok cZ;have hw:=eF _ [61] x xc;have lq:=(bY xc [61]).ok xc
  cases he:iE f (.expr (d+1)) (want (bg p.next) [61]) with
  | none=>rw [he] at h;cases h
  | some r =>
   obtain ⟨e,q1⟩:=r;rw [he] at h;cases h;have pM:=((iG f).1 _ _ _ _ lq he).ok lq;have hex:=E.expr (d+1) _ e q1 x lq ah he;have n5:=eF q1 [59] x pM;have gU:=ei 13 (tok p 0).at_ (tok p.next 0).s [e] [[qT e]] (fU _);generalize tok p 0=tk at *
   generalize tok p.next 0=tn at *
   refine aj Tryz.func273 Tryz.ntmps273 ?_;refine ab [0] (ht) ?_;refine ab [0] (dy) ?_;refine ab [0] (h1) ?_;refine ab [0] (hn) ?_;refine bE ?_;refine ae ?_;refine ab [0] (hw) ?_;refine ab [0] (hex) ?_;refine bE ?_;refine ae ?_;refine ab [0] (n5) ?_;refine bE ?_;refine ae ?_;refine ab [] (gU) ?_;exact aq
 | false =>
 rw [fF] at h1;rw [if_neg (by rw [fF];decide)] at h
 have main:∀ bi bw:Bool,is p 0 dE=bi->is p 0 df=bw->(bi=true\/bw=true)->GF Tryz.prog 273 [.loc 0 0,.v (ii (d:Nat))] [bF p x] (qT t) [bF q x]:=by
  intro bi bw uu WI uy
  have mj:is p 0 dE=true\/is p 0 df=true:=by rw [uu,WI];exact uy
  have ar:p.i < p.l.length:=by rcases mj with hh | hh <;> exact is_lt (k:=0) hh
  rw [if_pos mj] at h;have cZ:=(di ar).ok hp
  have hw:=eF p.next [40] x cZ
  have lq:=(bY cZ [40]).ok cZ
  cases he:iE f (.expr (d+1)) (want p.next [40]) with
  | none=>rw [he] at h;cases h
  | some r =>
  obtain ⟨c,q1⟩:=r;rw [he] at h;simp only at h;have pM:=((iG f).1 _ _ _ _ lq he).ok lq;have hex:=E.expr (d+1) _ c q1 x lq ah he;have n5:=eF q1 [41] x pM;have TX:=(bY pM [41]).ok pM
  cases hb:iS f (.block (d+1)) (want q1 [41]) with
  | none=>rw [hb] at h;cases h
  | some r =>
  obtain ⟨b,q2⟩:=r;rw [hb] at h;simp only at h;have HL:=((Dz f).1 _ _ _ _ TX hb).ok TX;have aaz:=HL.2;have aay:=HL.1;have dq:=C.block (d+1) _ b q2 x TX ah hb;have eP:=jq q2 0 dW x HL (by decide);rw [uu] at h2;rw [WI] at h3
  cases bi with
  | true =>
   have Js:∀ (cc ee:Bool),(q2.code==0)=cc->is q2 0 dW=ee->(cc=false\/ee=false)->GF Tryz.prog 273 [.loc 0 0,.v (ii (d:Nat))] [bF p x] (qT t) [bF q x]:=by
    intro cc ee sc wc TT
    rw [if_neg (fun hh=>by
     rcases TT with h0 | h0
     ·rw [h0] at sc;have:=hh.2.1;simp [this] at sc
     ·rw [h0] at wc;rw [wc] at hh;exact absurd hh.2.2 (by decide)),if_pos uu] at h
    cases h;rw [wc] at eP;have gU:=ei 9 (tok p 0).at_ [] [c,b] [[qT c],[qT b]] (fU _);generalize tok p 0=tk at *
    cases cc with
    | true =>
     cases ee with
     | true=>simp at TT
     | false =>
      refine aj Tryz.func273 Tryz.ntmps273 ?_;refine ab [0] (ht) ?_;refine ab [0] (dy) ?_;refine ab [0] (h1) ?_;refine ab [0] (h2) ?_;refine ab [0] (h2) ?_;refine bE ?_;refine ae ?_;refine ab [0] (hw) ?_;refine ab [0] (hex) ?_;refine lY ?_;refine ae ?_;refine bE ?_;refine ae ?_;refine ab [0] (n5) ?_;refine ab [0] (dq) ?_;refine dY ?_;refine ae ?_;refine ab [0] (eP) ?_;refine GL.wk (Wk.iv (t:=108) rfl rfl rfl rfl) ?_;refine bK ?_;refine ab [] (gU) ?_;exact aq
    | false =>
     refine aj Tryz.func273 Tryz.ntmps273 ?_;refine ab [0] (ht) ?_;refine ab [0] (dy) ?_;refine ab [0] (h1) ?_;refine ab [0] (h2) ?_;refine ab [0] (h2) ?_;refine bE ?_;refine ae ?_;refine ab [0] (hw) ?_;refine ab [0] (hex) ?_;refine lY ?_;refine ae ?_;refine bE ?_;refine ae ?_;refine ab [0] (n5) ?_;refine ab [0] (dq) ?_;refine dY ?_;refine ae ?_;refine GL.wk (Wk.iv (t:=108) rfl rfl rfl rfl) ?_;refine bK ?_;refine ab [] (gU) ?_;exact aq
   by_cases jl:q2.code=0
   ·cases wc:is q2 0 dW with
    | true =>
     clear Js;rw [if_pos ⟨uu,jl,wc⟩] at h;rw [wc] at eP
     have sc:(q2.code==0)=true:=by simpa using jl
     have ma:q2.i < q2.l.length:=is_lt (k:=0) wc;have ZE:=(di ma).ok HL
     cases eC:iS f (.block (d+1)) q2.next with
     | none=>rw [eC] at h;cases h
     | some r =>
      obtain ⟨b2,q3⟩:=r;rw [eC] at h;cases h;have VF:=C.block (d+1) _ b2 _ x ZE ah eC;have gU:=ei 9 (tok p 0).at_ [] [c,b,b2] [[qT c],[qT b],[qT b2]] (fU _);generalize tok p 0=tk at *;refine aj Tryz.func273 Tryz.ntmps273 ?_;refine ab [0] (ht) ?_;refine ab [0] (dy) ?_;refine ab [0] (h1) ?_;refine ab [0] (h2) ?_;refine ab [0] (h2) ?_;refine bE ?_;refine ae ?_;refine ab [0] (hw) ?_;refine ab [0] (hex) ?_;refine lY ?_;refine ae ?_;refine bE ?_;refine ae ?_;refine ab [0] (n5) ?_;refine ab [0] (dq) ?_;refine dY ?_;refine ae ?_;refine ab [0] (eP) ?_;refine ab [0] (VF) ?_;refine dY ?_;refine ae ?_;refine GL.wk (Wk.iv (t:=108) rfl rfl rfl rfl) ?_;refine bK ?_;refine ab [] (gU) ?_;exact aq
    | false=>exact Js true false (by simpa using jl) wc (.inr rfl)
   ·exact Js false _ (by simpa using jl) rfl (.inl rfl)
  | false =>
   have XE:bw=true:=by simpa using uy
   subst XE;rw [if_neg (fun hh=>by have:=hh.1;rw [uu] at this;cases this),if_neg (by rw [uu];decide)] at h;cases h;have gU:=ei 10 (tok p 0).at_ [] [c,b] [[qT c],[qT b]] (fU _);generalize tok p 0=tk at *;refine aj Tryz.func273 Tryz.ntmps273 ?_;refine ab [0] (ht) ?_;refine ab [0] (dy) ?_;refine ab [0] (h1) ?_;refine ab [0] (h2) ?_;refine ab [0] (h3) ?_;refine ab [0] (h2) ?_;refine bE ?_;refine ae ?_;refine ab [0] (hw) ?_;refine ab [0] (hex) ?_;refine lY ?_;refine ae ?_;refine bE ?_;refine ae ?_;refine ab [0] (n5) ?_;refine ab [0] (dq) ?_;refine dY ?_;refine ae ?_;refine GL.wk (Wk.iv (t:=108) rfl rfl rfl rfl) ?_;refine bK ?_;refine ab [] (gU) ?_;exact aq
 cases iC:is p 0 dE with
 | true=>exact main true _ iC rfl (.inl rfl)
 | false =>
 cases pO:is p 0 df with
 | true=>exact main false true iC pO (.inr rfl)
 | false =>
 clear main;rw [iC] at h2;rw [pO] at h3;rw [if_neg (by rw [iC,pO];decide)] at h
 cases wj:is p 0 cY with
 | true =>
  rw [wj] at h4;rw [if_pos wj] at h;have ar:p.i < p.l.length:=is_lt (k:=0) wj;have cZ:=(di ar).ok hp
  cases he:iE f (.expr (d+1)) p.next with
  | none=>rw [he] at h;cases h
  | some r =>
   obtain ⟨e,q1⟩:=r;rw [he] at h;cases h;have pM:=((iG f).1 _ _ _ _ cZ he).ok cZ;have hex:=E.expr (d+1) _ e q1 x cZ ah he;have n5:=eF q1 [59] x pM;have gU:=ei 11 (tok p 0).at_ [] [e] [[qT e]] (fU _);generalize tok p 0=tk at *;refine aj Tryz.func273 Tryz.ntmps273 ?_;refine ab [0] (ht) ?_;refine ab [0] (dy) ?_;refine ab [0] (h1) ?_;refine ab [0] (h2) ?_;refine ab [0] (h3) ?_;refine ab [0] (h4) ?_;refine ab [0] (hex) ?_;refine bE ?_;refine ae ?_;refine ab [0] (n5) ?_;refine bE ?_;refine ae ?_;refine ab [] (gU) ?_;exact aq
 | false =>
  rw [wj] at h4;rw [if_neg (by rw [wj];decide)] at h;have Ua:=PD (f:=f) d p t q x hp ah h;generalize tok p 0=tk at *;refine aj Tryz.func273 Tryz.ntmps273 ?_;refine ab [0] (ht) ?_;refine ab [0] (dy) ?_;refine ab [0] (h1) ?_;refine ab [0] (h2) ?_;refine ab [0] (h3) ?_;refine ab [0] (h4) ?_;refine ab [0] (Ua) ?_;exact aq
theorem W7 (f:Nat):P8 f:=by
 induction f using Nat.strongRecOn with
 | _ f ih =>
  cases f with
  | zero=>exact ⟨fun d p t q x _ _ h=>by simp [iS] at h,fun d p t q x _ _ h=>by simp [iS] at h⟩
  | succ f =>
   have C:=ih f (Nat.lt_succ_self f)
   have Cs:∀ f',f'<=f->P8 f':=fun f' h=>ih f' (Nat.lt_succ_of_le h)
   exact ⟨fun d p t q x hp hd h=>Ri Cs d p t q x hp hd h,fun d p t q x hp hd h=>U2 C d p t q x hp hd h⟩
end Go.Xg
namespace Go.Xg
open Go.RowKit Go.Xw Go.Proofs
open Go.Xp (Tok Nd T aO az ln dV bQ)
attribute [local irreducible] GW GL GO YG GC GA aW aZ
def rj (n:Nd):List GV:=[.v (ii n.kind),.v (ii n.at_),.v (ii n.n),.v (sv n.s),ints n.kids]
def BV (t:T) (x:Value):List GV:=[.v (ii t.n.kind),.v (ii t.n.at_),.v (ii t.n.n),.v (sv t.n.s),.v x]
theorem Lr:∀ (N:Nat) (t:T),aO t<=N->∀ (n:Nat) (rows:List (List GV)) (a:Option Addr) (c:Nat),rows.length=n->n+aO t<=1099511627776 ->
  GC Tryz.prog 207 [.v (.slice a n c),qT t] [.vech 91 5 rows (.slice a n c)] fun g aJ=>∃ a c,g=.v (.slice a (n+aO t) c)/\aJ=[.vech 91 5 (rows++(ln n t).map rj) (.slice a (n+aO t) c)]:=by
 intro N
 induction N with
 | zero=>intro t h;rw [Go.Xp.dX] at h;omega
 | succ N ih =>
 intro t hN n rows a c hn hb;subst hn;rw [Go.Xp.dX] at hb hN;have eW:=Go.Xp.cx t.kids;refine aj Tryz.func207 Tryz.ntmps207 ?_;refine GL.jA 0 rfl rfl rfl rfl rfl rfl rfl rfl (by first | rfl | assumption) ⟨⟨by omega,by omega⟩,by decide⟩ ?_;intro a c;refine bK ?_;refine ae ?_;refine GW.wk (Wk.mP 3 1) ?_
 refine GW.range (jF t.kids).length (fun k fr Γ=>∃ a c a2 c2,fr=[.v (.slice a (rows.length+1+az (t.kids.take k)) c),qT t,.U,.U,.U,.v (ii (rows.length:Nat)),.U,.U,.U,.U,.U,.U,.U,.U,.U,.U,.U,.U,.U,.U,.sl 1 (jF t.kids),.v (ii ((jF t.kids).length:Int)),.v (ii (k:Nat)),.U,.U,.U,.U,.U,.U,.U,.U,.U,.U,.U,.U,.U,.U,.U,.U,.U,.U,.U,.U,.U] /\
  Γ=[.vech 91 5 (rows++BV t (.slice a2 k c2)::(dV (rows.length+1) (t.kids.take k)).map rj) (.slice a (rows.length+1+az (t.kids.take k)) c),.vech 3 1 ((bQ (rows.length+1) (t.kids.take k)).map fun z=>[.v (ii z)]) (.slice a2 k c2)]) ?_ (by rw [l0];omega) ?_ ?_ ?_
 ·refine ⟨_,_,Wk.ax ao,a,c,none,0,rfl,?_⟩;rfl
 ·rintro k _ _ ⟨a,c,a2,c2,rfl,rfl⟩;exact ⟨rfl,rfl,rfl⟩
 ·rintro k _ _ ar ⟨a,c,a2,c2,rfl,rfl⟩;rw [l0] at ar;obtain ⟨xj,jH⟩:∃ xj,t.kids[k]?=some xj:=⟨t.kids[k],by simp [ar]⟩;have hr:=AP jH;have cK:=Go.Xp.tU jH;have hle:=Go.Xp.tS t.kids (k+1)
  have jD:t.kids.take (k+1)=t.kids.take k++[xj]:=by rw [take_add_one,jH];rfl
  have hX:((dV (rows.length+1) (t.kids.take k)).map rj).length=az (t.kids.take k):=by rw [length_map,Go.Xp.xO]
  have CH:((bQ (rows.length+1) (t.kids.take k)).map fun z=>[GV.v (ii z)]).length=k:=by rw [length_map,Go.Xp.dQ,length_take];omega
  rw [jD,Go.Xp.Jy,Go.Xp.Hx,Go.Xp.l7];simp only [bQ,dV,az,append_nil,Nat.add_zero,map_append,List.map_cons,List.map_nil,<-Nat.add_assoc]
  have CG:=fun (rs:List (List GV)) a c h=>ih xj ah (rows.length+1+az (t.kids.take k)) rs a c h ah
  generalize (dV (rows.length+1) (t.kids.take k)).map rj=X at *;generalize ((bQ (rows.length+1) (t.kids.take k)).map fun z=>[GV.v (ii z)])=ks at *;generalize az (t.kids.take k)=s at *;subst CH
  have ja:∀ r:List GV,(rows++r::X).length=rows.length+1+s:=fun r=>by simp;omega
  have bs:(rows++BV t (.slice a2 ks.length c2)::X)[rows.length]?=some (BV t (.slice a2 ks.length c2)):=by simp
  have eX:=ja (BV t (.slice a2 ks.length c2));unfold BV at bs eX |-;refine ae ?_;refine GL.jA 1 rfl rfl rfl rfl rfl rfl rfl rfl (by first | rfl | assumption) ⟨⟨by omega,by omega⟩,by decide⟩ ?_;intro a3 c3;refine bK ?_;refine ae ?_;refine oc ?_;rw [FB];simp only [bo];refine ae ?_;refine bO [0] (CG _ _ _ (ja _)) ?_;rintro _ _ ⟨a4,c4,rfl,rfl⟩;refine ct ?_;refine ae ?_;refine ⟨rfl,rfl,_,_,Wk.ax ao,a4,c4,a3,c3,rfl,?_⟩;rw [List.append_assoc];rfl
 ·rintro _ _ ⟨a,c,a2,c2,rfl,rfl⟩;rw [l0,take_length];rw [Go.Xp.dX,Go.Xp.Lp]
  have CH:((bQ (rows.length+1) t.kids).map fun z=>[GV.v (ii z)]).length=t.kids.length:=by rw [length_map,Go.Xp.dQ]
  have qJ:ints (bQ (rows.length+1) t.kids)=.sl 1 ((bQ (rows.length+1) t.kids).map fun z=>[GV.v (ii z)]):=rfl;rw [List.map_cons];simp only [rj,BV];rw [qJ,show rows.length+(az t.kids+1)=rows.length+1+az t.kids by omega];generalize (dV (rows.length+1) t.kids).map rj=X at *;generalize ((bQ (rows.length+1) t.kids).map fun z=>[GV.v (ii z)])=ks at *;generalize az t.kids=s at *
  have bs:∀ r:List GV,(rows++r::X)[rows.length]?=some r:=fun r=>by simp
  refine aK ?_;apply GW.wk
  ·apply Wk.J7 (i:=0) (idx:=rows.length) (o:=4) (j:=1)
   ·rfl
   ·exact bs _
   ·rfl
   ·rfl
   ·rfl
  rw [FB];simp only [bo];refine ae ?_;refine bI ?_;exact ⟨_,_,rfl,rfl⟩
end Go.Xg
namespace Go.Xg
open Go.RowKit Go.Xw Go.Proofs
open Go.Xp (Tok Nd T bd one levels fX dE dW df cY kK lU nP Ar)
open Go.Sp Go.Im
attribute [local irreducible] GW GL GO YG GC GA aW aZ
structure HW where
 aT:Option Addr
 cT:Nat
 aG:Option Addr
 cG:Nat
 aA:Option Addr
 cA:Nat
 aF:Option Addr
 cF:Nat
def qh (x:Ar):List GV:=[.v (sv x.name),.v (ii x.size)]
def py (x:ai × List ai):List GV:=[.v (sv x.1),strs x.2,.v (ii 0)]
def kD (x:ai):List GV:=[.v (sv x)]
abbrev hx (st:PS) (h:HW):PX:=⟨.slice h.aT st.trees.length h.cT,.slice h.aG st.globals.length h.cG,.slice h.aA st.arrays.length h.cA,.slice h.aF st.fns.length h.cF,.slice none 0 0⟩
abbrev tN (p:RS) (st:PS) (h:HW):List Ob:=[bF p (hx st h),.vech 152 1 (jF st.trees) (.slice h.aT st.trees.length h.cT),.vech 9 1 (st.globals.map kD) (.slice h.aG st.globals.length h.cG),.vech 88 2 (st.arrays.map qh) (.slice h.aA st.arrays.length h.cA),.vech 60 3 (st.fns.map py) (.slice h.aF st.fns.length h.cF)]
theorem vB {α β:Type} (g:α->β) (l:List α) (x:α):(l++[x]).map g=l.map g++[g x]:=by simp
theorem Nz {f:Nat} (p:RS) (st:PS) (h:HW) (q:RS) (dK:PS) (n:Nat) (hp:p.ok) (hn:st.le n) (hb:n+1<=1099511627776) (hs:is p 0 kK=true) (hw:iW f p st=some (q,dK)) :
  GC Tryz.prog 206 [.loc 0 0] (tN p st h) (fun g aJ=>g=.tup []/\∃ h',aJ=tN q dK h'):=by
 obtain ⟨CK,cE⟩:=id hp;obtain ⟨EA,bJ,Zv,Zw⟩:=hn;unfold iW at hw;rw [if_pos hs] at hw;have hi:=jq p 0 kK (hx st h) hp (by decide);rw [hs] at hi;have jX:=(iZ hs).ok hp
 have eD:=qd p.next (hx st h) jX
 have dz:=(gx jX).ok jX;generalize (tok p.next 0).s=s at *
 generalize bg p.next=p2 at *
 have rm:=jq p2 0 [91] (hx st h) dz (by decide)
 have aaa:¬ (p2.code=0/\is p2 0 [91]=true)->True:=fun _=>trivial
 cases hc:(p2.code==0) with
 | false =>
  have de:¬ p2.code=0:=by simpa using hc
  rw [if_neg (fun hh=>de hh.1)] at hw;cases hw
  have w6:(st.globals.map kD).length+1=(st.globals++[s]).length:=by simp
  have oH:st.globals.map kD++[[GV.v (sv s)]]=(st.globals++[s]).map kD:=by simp [kD]
  have hlen:(st.globals.map kD).length+1<=1099511627776:=by simp;omega
  refine aj Tryz.func206 Tryz.ntmps206 ?_;refine ab [0] (hi) ?_;refine ab [0] (eD) ?_;refine GL.jA 2 rfl rfl rfl rfl rfl rfl rfl rfl (by first | rfl | assumption) ⟨⟨by omega,by omega⟩,by decide⟩ ?_;intro a c;refine bK ?_;rw [w6,oH];refine ae ?_;refine bE ?_;refine ae ?_;refine ab [0] (eF p2 [59] (hx { st with globals:=st.globals++[s] } { h with aG:=a,cG:=c }) dz) ?_;refine cM ?_;exact ⟨rfl,{ h with aG:=a,cG:=c },rfl⟩
 | true =>
  have de:p2.code=0:=by simpa using hc
  cases eC:is p2 0 [91] with
  | false =>
   rw [eC] at rm;rw [if_neg (fun hh=>by have:=hh.2;rw [eC] at this;cases this)] at hw;cases hw
   have w6:(st.globals.map kD).length+1=(st.globals++[s]).length:=by simp
   have oH:st.globals.map kD++[[GV.v (sv s)]]=(st.globals++[s]).map kD:=by simp [kD]
   have hlen:(st.globals.map kD).length+1<=1099511627776:=by simp;omega
   refine aj Tryz.func206 Tryz.ntmps206 ?_;refine ab [0] (hi) ?_;refine ab [0] (eD) ?_;refine ab [0] (rm) ?_;refine GL.jA 2 rfl rfl rfl rfl rfl rfl rfl rfl (by first | rfl | assumption) ⟨⟨by omega,by omega⟩,by decide⟩ ?_;intro a c;refine bK ?_;rw [w6,oH];refine ae ?_;refine bE ?_;refine ae ?_;refine ab [0] (eF p2 [59] (hx { st with globals:=st.globals++[s] } { h with aG:=a,cG:=c }) dz) ?_;refine cM ?_;exact ⟨rfl,{ h with aG:=a,cG:=c },rfl⟩
  | true =>
   rw [eC] at rm;rw [if_pos ⟨de,eC⟩] at hw;have yI:=(iZ eC).ok dz;have aas:=dz.1;have TV:=dz.2;have aat:=yI.1;have aau:=yI.2
   have ht:=qB p2.next 0 (hx st h) yI (by decide)
   have EN:=yf p2.next (hx st h) yI
   have Ek:(tok p2.next 0).kind=1->p2.next.next.ok:=fun hk=>(di (qX (p:=p2.next) (k:=0) (by rw [hk];decide))).ok yI
   generalize tok p2.next 0=tk at *
   by_cases hk:tk.kind=1
   ·rw [if_pos hk] at hw;cases hw
    have kR:(tk.kind != 1)=false:=by simpa using hk
    have QE:=Ek hk;have aav:=QE.1
    have EL:=eF p2.next.next [93] (hx st h) QE
    have ZD:=(bY QE [93]).ok QE
    generalize want p2.next.next [93]=p5 at *
    have w6:(st.arrays.map qh).length+1=(st.arrays++[(⟨s,tk.n⟩:Ar)]).length:=by simp
    have oH:st.arrays.map qh++[[GV.v (sv s),.v (ii tk.n)]]=(st.arrays++[(⟨s,tk.n⟩:Ar)]).map qh:=by simp [qh]
    have hlen:(st.arrays.map qh).length+1<=1099511627776:=by simp;omega
    refine aj Tryz.func206 Tryz.ntmps206 ?_;refine ab [0] (hi) ?_;refine ab [0] (eD) ?_;refine ab [0] (rm) ?_;refine ab [0] (ht) ?_;refine bE ?_;refine ae ?_;refine ab [0] (EL) ?_;refine aE (aH [0,1,2,3,4,5,6,7,8,9] (.a 10 (.a 11 (.q 12 (.q 13 (.q 14 (.a 15 .nil))))))) ?_;refine ak ?_;refine eE ?_;refine ak ?_;refine OA rfl rfl (GL.pW 3 rfl rfl rfl (by first | rfl | assumption) rfl rfl (by refine ⟨?_,?_⟩;(· show _+1<=_;omega);(· show (_+1) * _<=_;omega)) ?_);intro a c;refine dB ?_;generalize hX:chunk 1 2 _=X
    obtain rfl:X=[qh ⟨s,tk.n⟩]:=by rw [<-hX];rfl
    clear hX
    try (generalize hX:chunk 1 2 _=X;obtain rfl:X=[qh ⟨s,tk.n⟩]:=by rw [<-hX];rfl)
    rw [show (st.arrays.map qh).length+[qh ⟨s,tk.n⟩].length=(st.arrays++[(⟨s,tk.n⟩:Ar)]).length by simp,<-vB qh st.arrays ⟨s,tk.n⟩];refine ak ?_;refine ae ?_;refine bE ?_;refine ae ?_;refine ab [0] (eF p5 [59] (hx { st with arrays:=st.arrays++[⟨s,tk.n⟩] } { h with aA:=a,cA:=c }) ZD) ?_;refine cM ?_;exact ⟨rfl,{ h with aA:=a,cA:=c },rfl⟩
   ·rw [if_neg hk] at hw;cases hw
    have kR:(tk.kind != 1)=true:=by simpa using hk
    refine aj Tryz.func206 Tryz.ntmps206 ?_;refine ab [0] (hi) ?_;refine ab [0] (eD) ?_;refine ab [0] (rm) ?_;refine ab [0] (ht) ?_;refine ab [0] (EN) ?_;refine cM ?_;exact ⟨rfl,h,rfl⟩
end Go.Xg
namespace Go.Xg
open Go.RowKit Go.Xw Go.Proofs
open Go.Xp (Tok Nd T bd one levels fX dE dW df cY kK lU nP Ar)
open Go.Sp Go.Im
attribute [local irreducible] GW GL GO YG GC GA aW aZ
theorem Kj {f:Nat} (p:RS) (st:PS) (h:HW) (q:RS) (dK:PS) (hp:p.ok) (hs:is p 0 kK=false) (iC:is p 0 lU=false) (hw:iW f p st=some (q,dK)) :
  GC Tryz.prog 206 [.loc 0 0] (tN p st h) (fun g aJ=>g=.tup []/\∃ h',aJ=tN q dK h'):=by
 unfold iW at hw;rw [if_neg (by rw [hs];decide),if_neg (by rw [iC];decide)] at hw;cases hw;have hi:=jq p 0 kK (hx st h) hp (by decide);have rm:=jq p 0 lU (hx st h) hp (by decide);have EN:=yf p (hx st h) hp;rw [hs] at hi;rw [iC] at rm;refine aj Tryz.func206 Tryz.ntmps206 ?_;refine ab [0] (hi) ?_;refine ab [0] (rm) ?_;refine ab [0] (EN) ?_;refine cM ?_;exact ⟨rfl,h,rfl⟩
abbrev Vv (p:RS) (st:PS) (h:HW) (s:ai) (acc:List ai) (a:Option Addr) (c:Nat):List Ob:=tN p st h++[.box 60 [.v (sv s),.v (.slice a acc.length c),.v (ii 0)],.vech 9 1 (acc.map kD) (.slice a acc.length c)]
theorem Kk {f:Nat} (p:RS) (st:PS) (h:HW) (q:RS) (dK:PS) (n:Nat) (hp:p.ok) (hn:st.le n) (hb:n+f+4<=1099511627776) (uA:is p 0 kK=false) (hs:is p 0 lU=true) (hw:iW f p st=some (q,dK)) :
  GC Tryz.prog 206 [.loc 0 0] (tN p st h) (fun g aJ=>g=.tup []/\∃ h',aJ=tN q dK h'):=by
 obtain ⟨CK,cE⟩:=id hp;obtain ⟨EA,bJ,Zv,Zw⟩:=hn;unfold iW at hw;rw [if_neg (by rw [uA];decide),if_pos hs] at hw;have L5:=jq p 0 kK (hx st h) hp (by decide);rw [uA] at L5;have hi:=jq p 0 lU (hx st h) hp (by decide);rw [hs] at hi;have jX:=(iZ hs).ok hp
 have eD:=qd p.next (hx st h) jX
 have dz:=(gx jX).ok jX;generalize (tok p.next 0).s=s at *
 generalize bg p.next=p2 at *
 have n5:=eF p2 [40] (hx st h) dz;have yI:=(bY dz [40]).ok dz;generalize want p2 [40]=p3 at *
 cases hm:n7 f [] p3 with
 | none=>rw [hm] at hw;cases hw
 | some r =>
 obtain ⟨l,q1⟩:=r;rw [hm] at hw;simp only at hw;refine aj Tryz.func206 Tryz.ntmps206 ?_;refine ab [0] (L5) ?_;refine ab [0] (hi) ?_;refine ab [0] (eD) ?_;refine bE ?_;refine ae ?_;refine ab [0] (n5) ?_;refine GW.wk (Wk.mP 9 1) ?_;refine GW.loop (fun z:Nat × List ai × RS=>z.1) (fun z fr Γ=>∃ a c,fr=[.loc 0 0,.U,.U,.U,.loc 5 0,.U,.U,.U,.U,.U,.U,.U,.U,.U,.U,.U,.U,.U,.U,.U,.U,.U,.U,.U,.U,.U,.U,.U,.U,.U,.U,.U,.U,.U,.U,.U,.U,.U,.U,.U,.U,.U,.U,.U,.U,.U,.U,.U,.U,.U,.U,.U,.U,.U,.U,.U,.U,.U,.U,.U,.U,.U,.U,.U,.U,.U,.U,.U,.U,.U,.U,.U,.U,.U,.U,.U,.U,.U,.U,.U,.U,.U,.U,.U,.U,.U,.U,.U,.U,.U,.U,.U,.U,.U,.U,.U,.U,.U,.U,.U,.U,.U,.U,.U,.U,.U,.U,.U,.U,.U,.U,.U,.U,.U,.U,.U,.U,.U,.U,.U,.U,.U,.U,.U,.U,.U,.U,.U,.U,.U,.U,.U,.U,.U,.U,.U,.U,.U,.U,.U,.U,.U,.U,.U,.U,.U,.U,.U,.U,.U,.U,.U,.U]/\Γ=Vv z.2.2 st h s z.2.1 a c/\z.2.2.ok/\z.2.1.length+z.1<=f/\n7 z.1 z.2.1 z.2.2=some (l,q1)) (f,[],p3) ?_ ?_
 ·exact ⟨_,_,Wk.ax ao,none,0,rfl,rfl,yI,by simp,hm⟩
 clear hm yI n5 dz eD hi L5 jX;rintro ⟨g,acc,p⟩ _ _ ⟨a,c,rfl,rfl,hp,yG,hm⟩;simp only at hp yG hm
 cases g with
 | zero=>cases hm
 | succ g =>
 rw [n7] at hm;have hi:=jq p 0 [41] (hx st h) hp (by decide)
 by_cases hgo:p.code=0/\is p 0 [41]=false
 ·obtain ⟨hc,pO⟩:=id hgo;rw [if_pos hgo] at hm;rw [pO] at hi
  have de:(p.code==0)=true:=by simpa using hc
  by_cases h0:acc.length=0
  ·obtain rfl:=List.eq_nil_of_length_eq_zero h0
   have hd:decide ((0:Int) < (([]:List ai).length:Int))=false:=by decide
   rw [if_pos (by rfl)] at hm;have eD:=qd p (hx st h) hp;have dz:=(gx hp).ok hp;generalize (tok p 0).s=s2 at *;refine ae ?_;refine ab [0] (hi) ?_;refine aE (.q 0 (.q 1 (.q 2 (.a 3 (.a 4 (.a 5 (.q 6 (.a 7 .nil)))))))) ?_;refine ak ?_;refine aC [0] (eD) ?_;refine eE ?_;refine ak ?_;refine OA rfl rfl (GL.pW 6 (news:=[kD s2]) rfl rfl rfl (by first | rfl | assumption) rfl rfl (by refine ⟨?_,?_⟩;(· show _+1<=_;omega);(· show (_+1) * _<=_;omega)) ?_);intro a2 c2;refine dB ?_;refine ak ?_;refine ae ?_;exact ⟨(g,[s2],bg p),⟨_,_,Wk.ax ao,a2,c2,rfl,rfl,dz,by simp at yG |-;omega,hm⟩,by simp⟩
  ·have hd:decide ((0:Int) < (acc.length:Int))=true:=by simpa using by omega
   rw [if_neg h0] at hm;have ZS:=eF p [44] (hx st h) hp;have lq:=(bY hp [44]).ok hp;generalize want p [44]=pw at *;have eD:=qd pw (hx st h) lq;have dz:=(gx lq).ok lq;generalize (tok pw 0).s=s2 at *
   have hlen:(acc.map kD).length<=f:=by simp;omega
   refine ae ?_;refine ab [0] (hi) ?_;refine bE ?_;refine ae ?_;refine ab [0] (ZS) ?_;refine aE (.q 0 (.q 1 (.q 2 (.a 3 (.a 4 (.a 5 (.q 6 (.a 7 .nil)))))))) ?_;refine ak ?_;refine aC [0] (eD) ?_;refine eE ?_;refine ak ?_;refine OA rfl rfl (GL.pW 6 (news:=[kD s2]) rfl rfl rfl (by first | rfl | assumption) rfl rfl (by refine ⟨?_,?_⟩;(· show _+1<=_;omega);(· show (_+1) * _<=_;omega)) ?_);intro a2 c2;refine dB ?_
   try rw [show (acc.map kD).length+1=(acc++[s2]).length by simp]
   rw [show (acc.map kD).length+[kD s2].length=(acc++[s2]).length by simp,<-vB kD acc s2];refine ak ?_;refine ae ?_;exact ⟨(g,acc++[s2],bg pw),⟨_,_,Wk.ax ao,a2,c2,rfl,rfl,dz,by simp;omega,hm⟩,by simp⟩
 ·rw [if_neg hgo] at hm
  obtain ⟨rfl,rfl⟩:acc=l/\want p [41]=q1:=by simpa using hm
  clear hm;have QJ:=eF p [41] (hx st h) hp;have WS:=(bY hp [41]).ok hp
  have eX:(jF st.trees).length+1<=1099511627776:=by rw [l0];omega
  have ja:(st.fns.map py).length+1<=1099511627776:=by simp;omega
  by_cases hc:p.code=0
  ·have de:(p.code==0)=true:=by simpa using hc
   have pO:is p 0 [41]=true:=by
    cases h3:is p 0 [41] with
    | true=>rfl
    | false=>exact absurd ⟨hc,h3⟩ hgo
   rw [pO] at hi
   by_cases hqc:(want p [41]).code=0
   ·have OR:((want p [41]).code==0)=true:=by simpa using hqc
    rw [if_pos hqc] at hw
    cases ea:iS f (.block 1) (want p [41]) with
    | none=>rw [ea] at hw;cases hw
    | some r =>
    obtain ⟨t,qq⟩:=r;rw [ea] at hw
    obtain ⟨rfl,rfl⟩:qq=q/\_=dK:=by simpa using hw
    have dq:=(W7 f).block 1 _ t qq (hx st h) WS ah ea;clear ea hqc;generalize want p [41]=pq at *;refine ae ?_;refine ab [0] (hi) ?_;refine aX ?_;refine ae ?_;refine bE ?_;refine ae ?_;refine ab [0] (QJ) ?_;refine aE (aH [0,1,2,3,4,5] (.a 6 (.a 7 (.a 8 (.q 9 (.q 10 (.a 11 .nil))))))) ?_;refine ak ?_;refine aC [0] (dq) ?_;refine eE ?_;refine ak ?_;refine OA rfl rfl (GL.pW 1 (news:=[[qT t]]) rfl rfl rfl (by first | rfl | assumption) rfl rfl (by refine ⟨?_,?_⟩;(· show _+1<=_;omega);(· show (_+1) * _<=_;omega)) ?_);intro a3 c3;refine dB ?_
    try rw [show (jF st.trees).length+1=(st.trees++[t]).length by simp [l0]]
    rw [show (jF st.trees).length+[[qT t]].length=(st.trees++[t]).length by simp [l0],<-uL st.trees t];refine ak ?_;refine ae ?_;apply GW.wk
    ·apply Wk.x9 (i:=5) (o:=1) (j:=6)
     ·rfl
     ·rfl
     ·rfl
     ·rfl
    simp only [oset,bo];refine aE (aH [0,1,2,3,4,5,6] (.a 7 (.a 8 (.q 9 (.q 10 (.q 11 (.a 12 .nil))))))) ?_;refine ak ?_;refine eE ?_;refine ak ?_;refine OA rfl rfl (GL.pW 4 (news:=[py (s,acc)]) rfl rfl rfl (by first | rfl | assumption) rfl rfl (by refine ⟨?_,?_⟩;(· show _+1<=_;omega);(· show (_+1) * _<=_;omega)) ?_);intro a4 c4;refine dB ?_
    try rw [show (st.fns.map py).length+1=(st.fns++[(s,acc)]).length by simp]
    rw [show (st.fns.map py).length+[py (s,acc)].length=(st.fns++[(s,acc)]).length by simp,<-vB py st.fns (s,acc)];refine ak ?_;refine ae ?_;refine cM ?_;exact ⟨rfl,{ h with aT:=a3,cT:=c3,aF:=a4,cF:=c4 },rfl⟩
   ·have OR:((want p [41]).code==0)=false:=by simpa using hqc
    rw [if_neg hqc] at hw;cases hw;clear hqc;generalize want p [41]=pq at *;refine ae ?_;refine ab [0] (hi) ?_;refine aX ?_;refine ae ?_;refine bE ?_;refine ae ?_;refine ab [0] (QJ) ?_;refine cM ?_;exact ⟨rfl,h,rfl⟩
  ·have de:(p.code==0)=false:=by simpa using hc
   by_cases hqc:(want p [41]).code=0
   ·have OR:((want p [41]).code==0)=true:=by simpa using hqc
    rw [if_pos hqc] at hw
    cases ea:iS f (.block 1) (want p [41]) with
    | none=>rw [ea] at hw;cases hw
    | some r =>
    obtain ⟨t,qq⟩:=r;rw [ea] at hw
    obtain ⟨rfl,rfl⟩:qq=q/\_=dK:=by simpa using hw
    have dq:=(W7 f).block 1 _ t qq (hx st h) WS ah ea;clear ea hqc;generalize want p [41]=pq at *;refine ae ?_;refine aX ?_;refine ae ?_;refine bE ?_;refine ae ?_;refine ab [0] (QJ) ?_;refine aE (aH [0,1,2,3,4,5] (.a 6 (.a 7 (.a 8 (.q 9 (.q 10 (.a 11 .nil))))))) ?_;refine ak ?_;refine aC [0] (dq) ?_;refine eE ?_;refine ak ?_;refine OA rfl rfl (GL.pW 1 (news:=[[qT t]]) rfl rfl rfl (by first | rfl | assumption) rfl rfl (by refine ⟨?_,?_⟩;(· show _+1<=_;omega);(· show (_+1) * _<=_;omega)) ?_);intro a3 c3;refine dB ?_
    try rw [show (jF st.trees).length+1=(st.trees++[t]).length by simp [l0]]
    rw [show (jF st.trees).length+[[qT t]].length=(st.trees++[t]).length by simp [l0],<-uL st.trees t];refine ak ?_;refine ae ?_;apply GW.wk
    ·apply Wk.x9 (i:=5) (o:=1) (j:=6)
     ·rfl
     ·rfl
     ·rfl
     ·rfl
    simp only [oset,bo];refine aE (aH [0,1,2,3,4,5,6] (.a 7 (.a 8 (.q 9 (.q 10 (.q 11 (.a 12 .nil))))))) ?_;refine ak ?_;refine eE ?_;refine ak ?_;refine OA rfl rfl (GL.pW 4 (news:=[py (s,acc)]) rfl rfl rfl (by first | rfl | assumption) rfl rfl (by refine ⟨?_,?_⟩;(· show _+1<=_;omega);(· show (_+1) * _<=_;omega)) ?_);intro a4 c4;refine dB ?_
    try rw [show (st.fns.map py).length+1=(st.fns++[(s,acc)]).length by simp]
    rw [show (st.fns.map py).length+[py (s,acc)].length=(st.fns++[(s,acc)]).length by simp,<-vB py st.fns (s,acc)];refine ak ?_;refine ae ?_;refine cM ?_;exact ⟨rfl,{ h with aT:=a3,cT:=c3,aF:=a4,cF:=c4 },rfl⟩
   ·have OR:((want p [41]).code==0)=false:=by simpa using hqc
    rw [if_neg hqc] at hw;cases hw;clear hqc;generalize want p [41]=pq at *;refine ae ?_;refine aX ?_;refine ae ?_;refine bE ?_;refine ae ?_;refine ab [0] (QJ) ?_;refine cM ?_;exact ⟨rfl,h,rfl⟩
end Go.Xg
namespace Go.Xg
open Go.RowKit Go.Xw Go.Proofs
open Go.Xp (Tok Nd T bd one levels fX dE dW df cY kK lU nP Ar az aO dV ln)
open Go.Sp Go.Im
attribute [local irreducible] GW GL GO YG GC GA aW aZ
theorem SD {f:Nat} (p:RS) (st:PS) (h:HW) (q:RS) (dK:PS) (n:Nat) (hp:p.ok) (hn:st.le n) (hb:n+f+4<=1099511627776) (hw:iW f p st=some (q,dK)) :
  GC Tryz.prog 206 [.loc 0 0] (tN p st h) (fun g aJ=>g=.tup []/\∃ h',aJ=tN q dK h'):=by
 cases h1:is p 0 kK with
 | true=>exact Nz p st h q dK n hp hn ah h1 hw
 | false =>
  cases h2:is p 0 lU with
  | true=>exact Kk p st h q dK n hp hn hb h1 h2 hw
  | false=>exact Kj p st h q dK hp h1 h2 hw
def mw (fns:List (ai × List ai)) (trees:List T) (k:Nat):List (List GV):=fns.mapIdx fun i x=>[.v (sv x.1),strs x.2,.v (ii (if i < k then ((az (trees.take i):Nat):Int) else 0))]
theorem FA:∀ (rows:List (List GV)) (i j o:Nat) (g:GV),(dr rows i o g)[j]?=if j=i then (rows[j]?).map (fun r=>bo r o g) else rows[j]?
 | [],i,j,o,g=>by simp [dr]
 | r::rs,0,0,o,g=>by simp [dr]
 | r::rs,0,j+1,o,g=>by simp [dr]
 | r::rs,i+1,0,o,g=>by simp [dr]
 | r::rs,i+1,j+1,o,g=>by
  rw [dr,List.getElem?_cons_succ,FA rs i j o g];simp
theorem Sc (fns:List (ai × List ai)) (trees:List T):fns.map py=mw fns trees 0:=by
 apply ext_getElem?;intro i;rw [mw,getElem?_mapIdx,getElem?_map]
 cases fns[i]? <;> simp [py]
theorem M1 (fns:List (ai × List ai)) (trees:List T) (k:Nat):dr (mw fns trees k) k 2 (.v (ii ((az (trees.take k):Nat):Int)))=mw fns trees (k+1):=by
 apply ext_getElem?;intro i;rw [FA,mw,mw,getElem?_mapIdx,getElem?_mapIdx]
 by_cases h:i=k
 ·subst h;rw [if_pos rfl]
  cases fns[i]? with
  | none=>rfl
  | some x=>simp [bo]
 ·rw [if_neg h]
  cases fns[i]? with
  | none=>rfl
  | some x =>
   have:(i < k)=(i < k+1):=by simp;omega
   simp [this]
theorem Pu {fns:List (ai × List ai)} {trees:List T} {k:Nat} (j:Nat) (h:k < fns.length):∃ x,(mw fns trees j)[k]?=some [.v (sv x.1),strs x.2,.v (ii (if k < j then ((az (trees.take k):Nat):Int) else 0))]/\fns[k]?=some x:=by
 refine ⟨fns[k],?_,by simp [h]⟩;rw [mw,getElem?_mapIdx];simp [h]
def Il (q:RS) (st:PS):GV :=
 if q.code=0 then
  if az st.trees > 800 then .tup [.agg [.sl 1 [],.sl 2 [],.sl 3 [],.sl 5 []],.v (ii 10),.v (ii 0)]
  else .tup [.agg [.sl 1 (st.globals.map kD),.sl 2 (st.arrays.map qh),.sl 3 (mw st.fns st.trees st.trees.length),.sl 5 ((dV 0 st.trees).map rj)],.v (ii 0),.v (ii 0)]
 else .tup [.agg [.sl 1 [],.sl 2 [],.sl 3 [],.sl 5 []],.v (ii q.code),.v (ii q.at_)]
theorem GR {G f:Nat} (ts:List Tok) (e:Int) (q:RS) (st:PS) (hl:ts.length<=1099511627776) (hb:G+f+4<=1099511627776) (hz:q.code=0->az st.trees<=1099511627776) (h:mo G f ⟨ts,0,e,0,0⟩ .empty=some (q,st)) :
  GF Tryz.prog 163 [ia ts,.v (ii e)] [] (Il q st) []:=by
 unfold Il;refine aj Tryz.func163 Tryz.ntmps163 ?_;refine GW.wk (Wk.mP 152 1) ?_;refine GW.wk (Wk.mP 9 1) ?_;refine GW.wk (Wk.mP 88 2) ?_;refine GW.wk (Wk.mP 60 3) ?_;refine GW.loop (fun z:Nat × RS × PS=>z.1) (fun z fr Γ=>∃ h n,fr=[ia ts,.v (ii e),.U,.U,.loc 0 0,.v (ii 0),.v (ii 0),.loc 1 0,.U,.U,.U,.U,.U,.U,.U,.U,.U,.U,.U,.U,.U,.U,.U,.U,.U,.U,.U,.U,.U,.U,.U,.U,.U,.U,.U,.U,.U,.U,.U,.U,.U,.U,.U,.U,.U,.U,.U,.U,.U,.U,.U,.U,.U,.U,.U,.U,.U,.U,.U,.U,.U,.U,.U,.U,.U,.U,.U,.U,.U,.U,.U,.U,.U,.U,.U,.U,.U,.U,.U]/\Γ=.box 34 [.v (.slice none 0 0),.v (.slice none 0 0),.v (.slice none 0 0),.v (.slice none 0 0)]::tN z.2.1 z.2.2 h/\z.2.1.l=ts/\z.2.1.ok/\z.2.2.le n/\n+z.1<=G/\mo z.1 f z.2.1 z.2.2=some (q,st)) (G,⟨ts,0,e,0,0⟩,.empty) ?_ ?_
 ·exact ⟨_,_,Wk.ax ao,⟨none,0,none,0,none,0,none,0⟩,0,rfl,rfl,rfl,⟨Nat.zero_le _,hl⟩,⟨Nat.le_refl _,Nat.le_refl _,Nat.le_refl _,rfl⟩,by simp,h⟩
 clear h;rintro ⟨g,p,s⟩ _ _ ⟨hd,n,rfl,rfl,cE,hp,hn,yG,h⟩;simp only at cE hp hn yG h
 cases g with
 | zero=>cases h
 | succ g =>
 rw [mo] at h
 by_cases hgo:p.code=0/\p.i < p.l.length
 ·rw [if_pos hgo] at h
  have de:(p.code==0)=true:=by simpa using hgo.1
  have ar:decide ((p.i:Int) < ((ts.map cV).length:Int))=true:=by
   have:=hgo.2;rw [cE] at this;simpa using this
  cases hw:iW f p s with
  | none=>rw [hw] at h;cases h
  | some r =>
   obtain ⟨p2,s2⟩:=r;rw [hw] at h;simp only at h;have kc:=VR hp hw;refine ae ?_;refine bO [1,2,3,4,5] (SD p s hd p2 s2 n hp hn ah hw) ?_;rintro _ _ ⟨rfl,db,rfl⟩;refine ct ?_;refine ae ?_;exact ⟨(g,p2,s2),⟨_,_,Wk.ax ao,db,n+1,rfl,rfl,by rw [kc.1,cE],kc.ok hp,VP hw hn,by show n+1+g<=G;omega,h⟩,by simp⟩
 ·rw [if_neg hgo] at h
  obtain ⟨rfl,rfl⟩:p=q/\s=st:=by simpa using h
  clear h
  have hex:∀ b1 b2:Bool,(p.code==0)=b1->decide ((p.i:Int) < ((ts.map cV).length:Int))=b2->b1=true->b2=false:=fun b1 b2 h1 h2 h3=>by
   subst h3
   cases b2 with
   | false=>rfl
   | true=>exact absurd ⟨by simpa using h1,by rw [cE];simpa using h2⟩ hgo
  by_cases hc:p.code=0
  ·rw [if_pos hc];have hz:=hz hc
   have de:(p.code==0)=true:=by simpa using hc
   have jl:(p.code != 0)=false:=by simpa using hc
   have ar:=hex _ _ de rfl rfl;have ma:=hn.trees;have hlf:=hn.fns;have sn:=l0 s.trees;have pb:=Go.Xp.cx s.trees;refine ae ?_;refine aX ?_;refine ae ?_;refine GW.wk (by apply Wk.oo (t:=52) (i:=2) <;> rfl) ?_;simp only [oset,bo];refine ae ?_;refine GW.wk (Wk.mP 91 5) ?_;rw [Sc s.fns s.trees]
   refine GW.range s.trees.length (fun k fr Γ=>∃ aN cN,fr=[.U,.U,.U,.U,.loc 0 0,.v (ii 0),.v (ii 0),.U,.loc 6 0,.U,.U,.U,.U,.U,.U,.U,.U,.U,.U,.U,.U,.U,.U,.U,.U,.U,.U,.U,.U,.U,.U,.U,.U,.U,.U,.U,.U,.U,.U,.U,.U,.U,.U,.U,.U,.U,.U,.U,.U,.U,.U,.U,.sl 1 (jF s.trees),.v (ii (s.trees.length:Int)),.v (ii (k:Nat)),.U,.U,.U,.U,.U,.U,.U,.U,.U,.U,.U,.U,.U,.U,.U,.U,.U,.U,.U,.U,.U,.U,.U,.U]/\Γ=[.box 34 [.v (.slice none 0 0),.v (.slice none 0 0),.v (.slice none 0 0),.v (.slice none 0 0)],bF p (hx s hd),.vec 152 1 (jF s.trees).length (jF s.trees),.vech 9 1 (s.globals.map kD) (.slice hd.aG s.globals.length hd.cG),.vech 88 2 (s.arrays.map qh) (.slice hd.aA s.arrays.length hd.cA),.vech 60 3 (mw s.fns s.trees k) (.slice hd.aF s.fns.length hd.cF),
    .box 34 [.v (.slice hd.aG s.globals.length hd.cG),.v (.slice hd.aA s.arrays.length hd.cA),.v (.slice hd.aF s.fns.length hd.cF),.v (.slice aN (az (s.trees.take k)) cN)],.vech 91 5 ((dV 0 (s.trees.take k)).map rj) (.slice aN (az (s.trees.take k)) cN)]) ?_ ah ?_ ?_ ?_
   ·exact ⟨_,_,Wk.ax ao,none,0,rfl,rfl⟩
   ·rintro k _ _ ⟨aN,cN,rfl,rfl⟩;exact ⟨rfl,rfl,rfl⟩
   ·rintro k _ _ ar ⟨aN,cN,rfl,rfl⟩;obtain ⟨t,ht⟩:∃ t,s.trees[k]?=some t:=⟨s.trees[k],by simp [ar]⟩;have hr:=AP ht;have cK:=Go.Xp.tU ht;have hle:=Go.Xp.tS s.trees (k+1)
    have jD:s.trees.take (k+1)=s.trees.take k++[t]:=by rw [take_add_one,ht];rfl
    obtain ⟨x,rp,HP⟩:=Pu (fns:=s.fns) (trees:=s.trees) (k:=k) k ah;rw [if_neg (Nat.lt_irrefl k)] at rp;have uz:k < (mw s.fns s.trees k).length:=(List.getElem?_eq_some_iff.1 rp).1
    have hX:((dV 0 (s.trees.take k)).map rj).length=az (s.trees.take k):=by rw [length_map,Go.Xp.xO]
    have jm:=Lr (aO t) t (Nat.le_refl _) (az (s.trees.take k)) _ aN cN hX ah;rw [<-M1 s.fns s.trees k,jD,Go.Xp.Hx,Go.Xp.l7];simp only [dV,az,append_nil,Nat.add_zero,Nat.zero_add,map_append];generalize (dV 0 (s.trees.take k)).map rj=X at *;generalize az (s.trees.take k)=z at *;generalize mw s.fns s.trees k=R at *;refine ae ?_;refine oc ?_;refine ae ?_;refine bO [7] (jm) ?_;rintro _ _ ⟨a5,c5,rfl,rfl⟩;refine ct ?_;refine ae ?_;exact ⟨rfl,rfl,_,_,Wk.ax ao,a5,c5,rfl,rfl⟩
   ·rintro _ _ ⟨aN,cN,rfl,rfl⟩;rw [take_length]
    have hX:((dV 0 s.trees).map rj).length=az s.trees:=by rw [length_map,Go.Xp.xO]
    by_cases h8:az s.trees > 800
    ·rw [if_pos h8]
     have YX:decide ((800:Int) < (az s.trees:Int))=true:=by simpa using by omega
     generalize az s.trees=z at *;refine ae ?_;refine A2 ?_;exact ⟨_,iM,rfl,rfl⟩
    ·rw [if_neg h8]
     have YX:decide ((800:Int) < (((dV 0 s.trees).map rj).length:Int))=false:=by rw [hX];simpa using by omega
     refine aK ?_;refine GW.wk (by apply Wk.x9 (i:=6) (o:=0) (j:=3) <;> rfl) ?_;simp only [oset,bo];refine GW.wk (by apply Wk.x9 (i:=6) (o:=1) (j:=4) <;> rfl) ?_;simp only [oset,bo];refine GW.wk (by apply Wk.x9 (i:=6) (o:=2) (j:=5) <;> rfl) ?_;simp only [oset,bo];refine GW.wk (by apply Wk.x9 (i:=6) (o:=3) (j:=7) <;> rfl) ?_;simp only [oset,bo];refine ae ?_;refine lx ?_;exact ⟨rfl,rfl⟩
  ·rw [if_neg hc]
   have de:(p.code==0)=false:=by simpa using hc
   have jl:(p.code != 0)=true:=by simpa using hc
   refine ae ?_;refine aX ?_;refine ae ?_;refine aE (aH [0,1,2,3,4,5,6,7,8] (.a 9 (.q 10 (.q 11 .nil)))) ?_;refine ak ?_;refine ae ?_;refine A2 ?_;exact ⟨_,iM,rfl,rfl⟩
end Go.Xg
namespace Go.Xg
open Go.RowKit Go.Xw Go.Proofs
open Go.Xp (Tok Nd T)
open Go.Sp (small dO dG br eR ek dv)
open Go.Im (la jo cl fV fx jk ju pB jK me pf)
attribute [local irreducible] GW GL GO YG GC GA aW aZ
theorem xK (c:UInt8):GF Tryz.prog 186 [Cn c] [] (.v (.bool (dO c))) []:=by
 unfold dO;refine da Tryz.func186 Tryz.ntmps186 ?_
 cases h:decide ((48:Int)<=(c.toNat:Int))
 all_goals
  exact aw
theorem zB (c:UInt8):GF Tryz.prog 146 [Cn c] [] (.v (.bool (small c))) []:=by
 unfold small;refine da Tryz.func146 Tryz.ntmps146 ?_
 cases h:decide ((97:Int)<=(c.toNat:Int))
 all_goals
  exact aw
theorem JQ (c:UInt8):GF Tryz.prog 148 [Cn c] [] (.v (.bool (dG c))) []:=by
 unfold dG;have hs:=zB c;have hd:=xK c;generalize small c=b1 at *;generalize dO c=b2 at *;refine aj Tryz.func148 Tryz.ntmps148 ?_;refine gA [] (hs) ?_
 cases b1 with
 | true =>
  exact aw
 | false =>
  cases h1:decide ((65:Int)<=(c.toNat:Int)) with
  | true =>
   cases h2:decide ((c.toNat:Int)<=90) with
   | true =>
    exact aw
   | false =>
    refine ae ?_;refine gA [] (hd) ?_
    cases b2 with
    | true =>
     exact aw
    | false =>
     exact aw
  | false =>
   refine ae ?_;refine gA [] (hd) ?_
   cases b2 with
   | true =>
    exact aw
   | false =>
    exact aw
theorem QZ (test:FuncId) [hf:aD Tryz.prog test] (p:UInt8->Bool) (ht:∀ c,GF Tryz.prog test [Cn c] [] (.v (.bool (p c))) []) (s:ai) (a:Nat) (hs:s.length<=1099511627776) (ha:a<=s.length) :
  GF Tryz.prog 147 [.v (sv s),.v (ii (a:Nat)),.v (.func (.func test) #[] #[])] [] (.v (ii (Go.Sp.run s p (s.length+1) a:Nat))) []:=by
 generalize hR:Go.Sp.run s p (s.length+1) a=R;refine aj Tryz.func147 Tryz.ntmps147 ?_;refine GW.loop (fun x:Nat × Nat=>x.1) (fun x fr Γ=>fr=[.v (sv s),.v (ii (x.2:Nat)),.v (.func (.func test) #[] #[]),.U,.U,.U,.U,.U,.U,.U,.U,.U,.U,.U,.U,.U,.U,.U,.U,.U,.U]/\Γ=[]/\x.2<=s.length/\s.length < x.1+x.2/\Go.Sp.run s p x.1 x.2=R) (s.length+1,a) ?_ ?_
 ·exact ⟨_,_,Wk.ax ao,rfl,rfl,ha,by simp only;omega,hR⟩
 ·rintro ⟨f,a⟩ _ _ ⟨rfl,rfl,ha,Zf,h⟩;simp only at ha Zf h
  cases f with
  | zero=>omega
  | succ f =>
  rw [Go.Sp.run] at h
  cases hc:s[a]? with
  | none =>
   rw [hc] at h;simp only at h;subst h;have kQ:s.length<=a:=List.getElem?_eq_none_iff.1 hc
   have hd:decide ((a:Int) < (s.length:Int))=false:=by simpa using kQ
   refine ae ?_;refine aX ?_;exact aw
  | some c =>
   rw [hc] at h;simp only at h;have ar:a < s.length:=(List.getElem?_eq_some_iff.1 hc).1
   have hd:decide ((a:Int) < (s.length:Int))=true:=by simpa using ar
   have lO:=ht c
   cases hdc:p c with
   | false =>
    rw [hdc] at lO;rw [if_neg (by rw [hdc];simp)] at h;subst h;refine ae ?_;refine ig [] (lO) ?_;refine ae ?_;refine aX ?_;exact aw
   | true =>
    rw [hdc] at lO;rw [if_pos hdc] at h;refine ae ?_;refine ig [] (lO) ?_;refine ae ?_;exact ⟨(f,a+1),⟨_,_,Wk.ax ao,rfl,rfl,ar,by simp only;omega,h⟩,by simp⟩
theorem M8:Go.Lib.asciiSpaceTab=uR:=by decide
theorem Lm:Go.Lib.fields [105,110,116,32,118,97,114,32,102,117,110,99,32,105,102,32,101,108,115,101,32,119,104,105,108,101,32,114,101,116,117,114,110,32,124,124,32,38,38,32,61,61,32,33,61,32,60,61,32,62,61,32,60,60,32,62,62,32,40,32,41,32,123,32,125,32,91,32,93,32,44,32,59,32,61,32,60,32,62,32,43,32,45,32,42,32,47,32,37,32,38,32,124,32,94,32,33,32,126]=la:=by decide +kernel
end Go.Xg
namespace Go.Xg
open Go.RowKit Go.Xw Go.Proofs
open Go.Xp (Tok Nd T)
open Go.Sp (small dO dG br eR ek dv)
open Go.Im (la jo cl fV fx jk ju pB jK me pf)
attribute [local irreducible] GW GL GO YG GC GA aW aZ
theorem lL.zD {P:Program} {f:FuncId} {vs:List Value} {w:World} {R:Value->World->Prop} (h:Calls P f vs.toArray w fun e w'=>∃ v,e=.returned v/\R v w'):lL P f vs w R:=h
theorem NJ:GF Tryz.prog 216 [.v (sv [105,110,116,32,118,97,114,32,102,117,110,99,32,105,102,32,101,108,115,101,32,119,104,105,108,101,32,114,101,116,117,114,110,32,124,124,32,38,38,32,61,61,32,33,61,32,60,61,32,62,61,32,60,60,32,62,62,32,40,32,41,32,123,32,125,32,91,32,93,32,44,32,59,32,61,32,60,32,62,32,43,32,45,32,42,32,47,32,37,32,38,32,124,32,94,32,33,32,126])] [] (strs la) []:=by
 have:=GF.Yf (P:=Tryz.prog) (f:=216) (vs:=[sv [105,110,116,32,118,97,114,32,102,117,110,99,32,105,102,32,101,108,115,101,32,119,104,105,108,101,32,114,101,116,117,114,110,32,124,124,32,38,38,32,61,61,32,33,61,32,60,61,32,62,61,32,60,60,32,62,62,32,40,32,41,32,123,32,125,32,91,32,93,32,44,32,59,32,61,32,60,32,62,32,43,32,45,32,42,32,47,32,37,32,38,32,124,32,94,32,33,32,126]]) (us:=la.map sv) (E:=9) fun K β w ht hf=>?_
 ·rw [List.map_map] at this;exact this
 ·obtain ⟨E,z,kJ⟩:=rR.all ht hf ht.spc (zs:=uR.map fun z=>Value.int .u8 z) (by decide) (fun m o x hx=>by
   rw [getElem?_map] at hx;unfold wA;rw [if_neg (by decide),if_neg (by decide),if_pos rfl]
   cases hs:uR[o]? with
   | none=>rw [hs] at hx;cases hx
   | some y=>rw [hs] at hx;cases hx;rfl)
  have zo:Go.Lib.TabIs Tryz.prog w "strings.asciiSpace" .u8 Go.Lib.asciiSpaceTab:=by
   unfold Go.Lib.TabIs World.var?;rw [show Tryz.prog.globalNamed "strings.asciiSpace" = some 0 by kernel_rfl,M8];simp only [Option.bind_some,kJ]
  have h:=Tryz.strings_Fields_laid ⟨[105,110,116,32,118,97,114,32,102,117,110,99,32,105,102,32,101,108,115,101,32,119,104,105,108,101,32,114,101,116,117,114,110,32,124,124,32,38,38,32,61,61,32,33,61,32,60,61,32,62,61,32,60,60,32,62,62,32,40,32,41,32,123,32,125,32,91,32,93,32,44,32,59,32,61,32,60,32,62,32,43,32,45,32,42,32,47,32,37,32,38,32,124,32,94,32,33,32,126].toArray⟩ w (by decide) (fun j b hb=>by
   have:∀ b∈([105,110,116,32,118,97,114,32,102,117,110,99,32,105,102,32,101,108,115,101,32,119,104,105,108,101,32,114,101,116,117,114,110,32,124,124,32,38,38,32,61,61,32,33,61,32,60,61,32,62,61,32,60,60,32,62,62,32,40,32,41,32,123,32,125,32,91,32,93,32,44,32,59,32,61,32,60,32,62,32,43,32,45,32,42,32,47,32,37,32,38,32,124,32,94,32,33,32,126]:List UInt8),b.toNat < 128:=by decide
   exact this b (mem_of_getElem? hb)) zo
  refine lL.zD (Calls.mono h ?_);rintro e w' ⟨h1,h2⟩;rw [show ((⟨[105,110,116,32,118,97,114,32,102,117,110,99,32,105,102,32,101,108,115,101,32,119,104,105,108,101,32,114,101,116,117,114,110,32,124,124,32,38,38,32,61,61,32,33,61,32,60,61,32,62,61,32,60,60,32,62,62,32,40,32,41,32,123,32,125,32,91,32,93,32,44,32,59,32,61,32,60,32,62,32,43,32,45,32,42,32,47,32,37,32,38,32,124,32,94,32,33,32,126].toArray⟩:ByteArray).data.toList)=[105,110,116,32,118,97,114,32,102,117,110,99,32,105,102,32,101,108,115,101,32,119,104,105,108,101,32,114,101,116,117,114,110,32,124,124,32,38,38,32,61,61,32,33,61,32,60,61,32,62,61,32,60,60,32,62,62,32,40,32,41,32,123,32,125,32,91,32,93,32,44,32,59,32,61,32,60,32,62,32,43,32,45,32,42,32,47,32,37,32,38,32,124,32,94,32,33,32,126] from rfl,Lm] at h1 h2;exact ⟨_,h1,by rw [length_map],h2⟩
theorem Si:GF Tryz.prog 187 [] [] (strs la) []:=by
 have h:=NJ;generalize la=l at *;refine aj Tryz.func187 Tryz.ntmps187 ?_;refine ab [] (h) ?_;exact aq
theorem zu (s:ai):GF Tryz.prog 149 [.v (sv s)] [] (.v (.bool (jo s))) []:=by
 have h:=Si;have hc:=jP la s (by decide);unfold jo;generalize la=l at *;refine aj Tryz.func149 Tryz.ntmps149 ?_;refine ab [] (h) ?_;refine ab [] (hc) ?_;exact aq
end Go.Xg
namespace Go.Xg
open Go.RowKit Go.Xw Go.Proofs
open Go.Xp (Tok Nd T)
open Go.Sp (small dO dG br eR ek dv)
open Go.Im (la jo cl fV fx jk ju pB jK me pf)
attribute [local irreducible] GW GL GO YG GC GA aW aZ
theorem PA (s:ai) (a:Nat) (c:UInt8) (hs:s.length<=1099511627776) (hc:s[a]?=some c):GF Tryz.prog 238 [.v (sv s),.v (ii (a:Nat))] [] (.v (sv (fx s a))) []:=by
 have ar:a < s.length:=(List.getElem?_eq_some_iff.1 hc).1;have iD:=zB c;refine aj Tryz.func238 Tryz.ntmps238 ?_;refine GW.loop (fun x:Nat=>x) (fun x fr Γ=>fr=[.v (sv s),.v (ii (a:Nat)),.U,.U,.U,.v (ii (x:Nat)),.U,.U,.U,.U,.U,.U,.U,.U,.U,.U,.U,.U,.U,.U,.U,.U,.U,.U,.U,.U,.U,.U,.U,.U,.U,.U,.U,.U,.U,.U,.U,.U]/\Γ=[]/\x<=2/\∀ j,x < j->j<=2->fV s a j=false) 2 ?_ ?_
 ·exact ⟨_,_,Wk.ax ao,rfl,rfl,Nat.le_refl _,fun j h1 h2=>by omega⟩
 ·rintro x _ _ ⟨rfl,rfl,hx,bT⟩
  have qx:∀ k,x=k+1->fV s a x=false->∀ j,k < j->j<=2->fV s a j=false:=fun k hk ht j h1 h2=>by
   by_cases hj:j=x
   ·rw [hj];exact ht
   ·exact bT j ah h2
  have Np:∀ k,fV s a k=(decide (a+k<=s.length)&&!(small c)&&jo (cl s a (a+k))):=fun k=>by unfold fV;rw [hc]
  match x,hx,bT,qx with
  | 0,_,bT,_ =>
   have e:fx s a=[]:=by unfold fx;rw [bT 2 ah ah,bT 1 ah ah];rfl
   rw [e];refine ae ?_;refine aX ?_;exact aw
  | 1,_,bT,qx =>
   have hle:decide (((a+1:Nat):Int)<=(s.length:Int))=true:=by simpa using by omega
   have hb:a<=a+1/\a+1<=s.length:=by omega
   have ht:=Np 1;rw [show decide (a+1<=s.length)=true from decide_eq_true ah] at ht
   cases hsc:small c with
   | true =>
    rw [hsc] at iD ht;refine ae ?_;refine ab [] (iD) ?_;exact ⟨0,⟨_,_,Wk.ax ao,rfl,rfl,by omega,qx 0 rfl ht⟩,by omega⟩
   | false =>
    rw [hsc] at iD ht;have dD:=zu (cl s a (a+1))
    cases hg:jo (cl s a (a+1)) with
    | false =>
     rw [hg] at dD ht;refine ae ?_;refine ab [] (iD) ?_;refine ab [] (dD) ?_;exact ⟨0,⟨_,_,Wk.ax ao,rfl,rfl,by omega,qx 0 rfl ht⟩,by omega⟩
    | true =>
     rw [hg] at dD ht
     have e:fx s a=cl s a (a+1):=by unfold fx;rw [bT 2 ah ah,ht];rfl
     rw [e];refine ae ?_;refine ab [] (iD) ?_;refine ab [] (dD) ?_;exact aq
  | 2,_,bT,qx =>
   have ht:=Np 2
   by_cases ja:a+2<=s.length
   ·have hle:decide (((a+2:Nat):Int)<=(s.length:Int))=true:=by simpa using by omega
    have hb:a<=a+2/\a+2<=s.length:=by omega
    rw [show decide (a+2<=s.length)=true by simpa using ja] at ht
    cases hsc:small c with
    | true =>
     rw [hsc] at iD ht;refine ae ?_;refine ab [] (iD) ?_;exact ⟨1,⟨_,_,Wk.ax ao,rfl,rfl,by omega,qx 1 rfl ht⟩,by omega⟩
    | false =>
     rw [hsc] at iD ht;have dD:=zu (cl s a (a+2))
     cases hg:jo (cl s a (a+2)) with
     | false =>
      rw [hg] at dD ht;refine ae ?_;refine ab [] (iD) ?_;refine ab [] (dD) ?_;exact ⟨1,⟨_,_,Wk.ax ao,rfl,rfl,by omega,qx 1 rfl ht⟩,by omega⟩
     | true =>
      rw [hg] at dD ht
      have e:fx s a=cl s a (a+2):=by unfold fx;rw [ht];rfl
      rw [e];refine ae ?_;refine ab [] (iD) ?_;refine ab [] (dD) ?_;exact aq
   ·have hle:decide (((a+2:Nat):Int)<=(s.length:Int))=false:=by simpa using by omega
    rw [show decide (a+2<=s.length)=false by simpa using ja] at ht;refine ae ?_;exact ⟨1,⟨_,_,Wk.ax ao,rfl,rfl,by omega,qx 1 rfl ht⟩,by omega⟩
  | n+3,hx,_,_=>omega
def JU (n:Int) (e:Nat) (a:Nat):GV:=if n > 2147483647 then .tup [.agg (cV pB),.v (ii (a:Nat)),.v (ii 3)] else .tup [.agg (cV ⟨1,n,[],a⟩),.v (ii (e:Nat)),.v (ii 0)]
theorem Nl (s:ai) (a:Nat) (c:UInt8) (hs:s.length<=1099511627776) (hc:s[a]?=some c) (hd:dO c=true) :
  GF Tryz.prog 205 [.v (sv s),.v (ii (a:Nat))] [] (JU (ju (cl s a (jk s a)) 0) (jk s a) a) []:=by
 have ar:a < s.length:=(List.getElem?_eq_some_iff.1 hc).1;have lO:=xK c;rw [hd] at lO;have mb:=QZ 186 dO xK s a hs ah;obtain ⟨e1,e2,e3⟩:=Go.Sp.oS s dO (s.length+1) a ah ah;have aR:=Go.Im.BX s dO (s.length+1) a ah;unfold jk;generalize Go.Sp.run s dO (s.length+1) a=e at *;clear e1;generalize hR:ju (cl s a e) 0=R;refine aj Tryz.func205 Tryz.ntmps205 ?_;refine ab [] (lO) ?_;refine ab [] (mb) ?_;refine GW.loop (fun x:Nat × Int=>e - x.1) (fun x fr Γ=>fr=[.v (sv s),.v (ii (a:Nat)),.U,.U,.loc 0 0,.v (ii 0),.v (ii 0),.U,.v (ii (e:Nat)),.v (ii x.2),.v (ii (x.1:Nat)),.U,.U,.U,.U,.U,.U,.U,.U,.U,.U,.U,.U,.U,.U,.U,.U,.U,.U,.U,.U,.U,.U,.U,.U,.U,.U,.U,.U,.U,.U,.U,.U,.U,.U,.U,.U,.U,.U,.U,.U,.U,.U,.U,.U,.U,.U,.U,.U,.U,.U,.U,.U,.U,.U,.U,.U,.U,.U,.U,.U,.U,.U,.U,.U,.U,.U,.U,.U,.U,.U]/\Γ=[.box 203 (cV pB)]/\a<=x.1/\x.1<=e/\ju (cl s x.1 e) x.2=R/\0<=x.2/\x.2<=21474836480) (a,0) ?_ ?_
 ·exact ⟨_,_,Wk.ax ao,rfl,rfl,Nat.le_refl _,e2,hR,by simp,by simp⟩
 ·rintro ⟨i,n⟩ _ _ ⟨rfl,rfl,hi,Zm,h,CI,EA⟩;simp only at hi Zm h CI EA
  have fin:R=n->True:=fun _=>trivial
  by_cases ma:i < e
  ·have LY:decide ((i:Int) < (e:Int))=true:=by simpa using ma
   by_cases hn:n<=2147483647
   ·have Al:decide (n<=2147483647)=true:=by simpa using hn
    have we:i < s.length:=by omega
    obtain ⟨d,db⟩:∃ d,s[i]?=some d:=⟨s[i],by simp [we]⟩
    have fv:dO d=true:=by
     have:d∈cl s a e:=by
      unfold cl;rw [List.mem_iff_getElem?];exact ⟨i - a,by rw [List.getElem?_drop,List.getElem?_take,show a+(i - a)=i by omega,if_pos ma];exact db⟩
     exact aR d this
    have xd:(48:Int)<=(d.toNat:Int)/\(d.toNat:Int)<=57:=by
     simp only [dO,Bool.and_eq_true,decide_eq_true_eq] at fv;exact fv
    rw [Go.Im.oD db ma e3,ju,if_pos hn] at h;refine ae ?_;exact ⟨(i+1,10 * n+((d.toNat:Int) - 48)),⟨_,_,Wk.ax ao,rfl,rfl,by simp only;omega,ma,h,by simp only;omega,by simp only;omega⟩,by simp only;omega⟩
   ·have Al:decide (n<=2147483647)=false:=by simpa using hn
    have et:R=n:=by
     rw [<-h]
     cases hw:cl s i e with
     | nil=>rw [ju]
     | cons d r=>rw [ju,if_neg hn]
    rw [et];clear h et hR fin
    have bJ:decide (2147483647 < n)=true:=by simpa using by omega
    unfold JU;rw [if_pos ah];refine ae ?_;refine aX ?_;refine ae ?_;refine lx ?_;exact ⟨rfl,rfl⟩
  ·have LY:decide ((i:Int) < (e:Int))=false:=by simpa using by omega
   have et:R=n:=by
    rw [<-h];have:cl s i e=[]:=List.eq_nil_of_length_eq_zero (by rw [Go.Im.ku e3];omega);rw [this,ju]
   rw [et];clear h et hR fin;unfold JU
   by_cases hn:n > 2147483647
   ·have bJ:decide (2147483647 < n)=true:=by simpa using hn
    rw [if_pos hn];refine ae ?_;refine aX ?_;refine ae ?_;refine lx ?_;exact ⟨rfl,rfl⟩
   ·have bJ:decide (2147483647 < n)=false:=by simpa using hn
    rw [if_neg hn];refine ae ?_;refine aX ?_;refine ae ?_;refine lx ?_;exact ⟨rfl,rfl⟩
theorem SC (s:ai) (a:Nat) (c:UInt8) (hs:s.length<=1099511627776) (hc:s[a]?=some c) :
  GF Tryz.prog 205 [.v (sv s),.v (ii (a:Nat))] [] (.tup [.agg (cV (jK s a c).1),.v (ii ((jK s a c).2.1:Nat)),.v (ii (jK s a c).2.2)]) []:=by
 have ar:a < s.length:=(List.getElem?_eq_some_iff.1 hc).1;have lO:=xK c;have iD:=zB c
 by_cases hd:dO c=true
 ·have h:=Nl s a c hs hc hd;unfold JU at h;unfold jK;rw [if_pos hd];split at h
  ·rename_i hn;rw [if_pos hn];exact h
  ·rename_i hn;rw [if_neg hn];exact h
 ·have LX:dO c=false:=by simpa using hd
  unfold jK;rw [if_neg hd];rw [LX] at lO
  by_cases hsc:small c=true
  ·rw [if_pos hsc];rw [hsc] at iD;have mb:=QZ 148 dG JQ s a hs ah;obtain ⟨e1,e2,e3⟩:=Go.Sp.oS s dG (s.length+1) a ah ah;have hw:eR s a=(s.take (ek s a)).drop a:=rfl;have dD:=zu (eR s a);unfold ek at hw |-;rw [hw] at dD |-;generalize Go.Sp.run s dG (s.length+1) a=e at *;have hb:a<=e/\e<=s.length:=⟨e2,e3⟩
   cases hg:jo ((s.take e).drop a) with
   | true =>
    rw [hg] at dD;refine aj Tryz.func205 Tryz.ntmps205 ?_;refine ab [] (lO) ?_;refine ab [] (iD) ?_;refine ab [] (mb) ?_;refine ab [] (dD) ?_;refine lx ?_;exact ⟨rfl,rfl⟩
   | false =>
    rw [hg] at dD;refine aj Tryz.func205 Tryz.ntmps205 ?_;refine ab [] (lO) ?_;refine ab [] (iD) ?_;refine ab [] (mb) ?_;refine ab [] (dD) ?_;refine lx ?_;exact ⟨rfl,rfl⟩
  ·have X2:small c=false:=by simpa using hsc
   rw [if_neg hsc];rw [X2] at iD;have WW:=PA s a c hs hc
   have hlen:(fx s a).length<=2:=by
    have:(fx s a=cl s a (a+2)\/fx s a=cl s a (a+1))\/fx s a=[]:=by
     unfold fx;split
     ·exact .inl (.inl rfl)
     ·split
      ·exact .inl (.inr rfl)
      ·exact .inr rfl
    rcases this with (h | h) | h <;> rw [h]
    ·unfold cl;rw [length_drop,length_take];omega
    ·unfold cl;rw [length_drop,length_take];omega
    ·simp
   generalize fx s a=x at *
   by_cases hx:x=[]
   ·have HO:(x==[])=true:=by simpa using hx
    rw [if_pos hx];refine aj Tryz.func205 Tryz.ntmps205 ?_;refine ab [] (lO) ?_;refine ab [] (iD) ?_;refine ab [] (WW) ?_;refine lx ?_;exact ⟨rfl,rfl⟩
   ·have HO:(x==[])=false:=by simpa using hx
    rw [if_neg hx];refine aj Tryz.func205 Tryz.ntmps205 ?_;refine ab [] (lO) ?_;refine ab [] (iD) ?_;refine ab [] (WW) ?_;refine lx ?_;exact ⟨rfl,rfl⟩
end Go.Xg
namespace Go.Xg
open Go.RowKit Go.Xw Go.Proofs
open Go.Xp (Tok Nd T)
open Go.Sp (small dO dG br eR ek dv)
open Go.Im (la jo cl fV fx jk ju pB jK me pf)
attribute [local irreducible] GW GL GO YG GC GA aW aZ
def BC (x t:ai):Bool:=decide (t.length<=x.length)&&(x.take t.length==t)
theorem IX (x t:ai) (hx:x.length<=1099511627776) (ht:t.length<=1099511627776):GF Tryz.prog 236 [.v (sv x),.v (sv t)] [] (.v (.bool (BC x t))) []:=by
 unfold BC
 by_cases h:t.length<=x.length
 ·have h1:decide ((t.length:Int)<=(x.length:Int))=true:=by simpa using h
  rw [decide_eq_true h];refine aj Tryz.func236 Tryz.ntmps236 ?_;exact aq
 ·have h1:decide ((t.length:Int)<=(x.length:Int))=false:=by simpa using by omega
  rw [decide_eq_false h];refine aj Tryz.func236 Tryz.ntmps236 ?_;exact aq
theorem Gi (x t:ai) (hx:x.length<=1099511627776) (ht:t.length<=1099511627776):GF Tryz.prog 203 [.v (sv x),.v (sv t)] [] (.v (.bool (BC x t))) []:=by
 have h:=IX x t hx ht;generalize BC x t=b at *;refine aj Tryz.func203 Tryz.ntmps203 ?_;refine ab [] (h) ?_;exact aq
theorem Gt {s t:ai} {a:Nat} (ha:a<=s.length):BC (s.drop a) t=br s a t:=by
 unfold BC br;rw [length_drop,List.drop_take,show a+t.length - a=t.length by omega]
 congr 1
 rw [Bool.eq_iff_iff];simp;omega
theorem Gj (c:UInt8):GF Tryz.prog 202 [.v (sv [32,9,10,13]),Cn c] [] (.v (ii (Go.Lib.indexByte [32,9,10,13] c))) []:=by
 refine GF.Ux (vs:=[sv [32,9,10,13],.int .u8 (c.toNat:Int)]) fun K β w ht hf=>?_
 refine lL.zD (Calls.mono (Tryz.strings_IndexByte ⟨[32,9,10,13].toArray⟩ (c.toNat:Int) w) ?_);rintro e w' ⟨h1,h2⟩;refine ⟨_,h1,?_,by rw [h2];exact Ext.refl w⟩;simp
theorem NL (x:ai) (hx:x.length<=4294967280):GF Tryz.prog 204 [.v (sv x),.v (sv [42,47])] [] (.v (ii (Go.Lib.index x [42,47]))) []:=by
 refine GF.Ux (vs:=[sv x,sv [42,47]]) fun K β w ht hf=>?_
 obtain ⟨m,hm⟩:=ht.maxLen hf;refine lL.zD (Calls.mono (Tryz.strings_Index ⟨x.toArray⟩ ⟨[42,47].toArray⟩ m w (by show (x.toArray).size < _;simp;omega) hm) ?_);rintro e w' ⟨h1,h2⟩;refine ⟨_,h1,?_,by rw [h2];exact Ext.refl w⟩;simp
theorem NR (c:UInt8):decide ((0:Int)<=Go.Lib.indexByte [32,9,10,13] c)=dv c:=by
 have hb:dv c=((32:UInt8)==c || (9:UInt8)==c || (10:UInt8)==c || (13:UInt8)==c):=by
  have e:∀ k:UInt8,((c.toNat:Int)==(k.toNat:Int))=(k==c):=fun k=>by
   rw [Bool.eq_iff_iff];simp only [beq_iff_eq]
   exact ⟨fun h=>by
    have:c.toNat=k.toNat:=by omega
    exact (UInt8.toNat_inj.1 this).symm,fun h=>by rw [h]⟩
  have e1:=e 32;have e2:=e 9;have e3:=e 10;have e4:=e 13;unfold dv;rw [<-e1,<-e2,<-e3,<-e4];rfl
 rw [hb];unfold Go.Lib.indexByte Go.Lib.indexByte Go.Lib.indexByte Go.Lib.indexByte Go.Lib.indexByte
 cases (32:UInt8)==c <;> cases (9:UInt8)==c <;> cases (10:UInt8)==c <;> cases (13:UInt8)==c <;> decide
theorem Mq (l:ai):Go.Lib.index l [42,47]=(match pf l with | none => -1 | some n=>(n:Int)):=by
 induction l with
 | nil=>rfl
 | cons b l ih =>
  rw [Go.Lib.index,pf];split
  ·rfl
  ·rw [ih]
   cases pf l with
   | none=>rfl
   | some n =>
    simp only;rw [if_neg (by simp <;> omega)];simp
theorem Pg (s:ai) (f:Nat) (ts:List Tok) (c z:Int) (hs:s.length<=4294967280) (h:me s f 0 []=some (ts,c,z)) :
  GF Tryz.prog 162 [.v (sv s)] [] (.tup [ia ts,.v (ii c),.v (ii z)]) []:=by
 refine aj Tryz.func162 Tryz.ntmps162 ?_;refine GW.wk (Wk.BQ (t:=5) (a:=none) (c:=0) 203 4 rfl) ?_;refine GW.loop (fun x:Nat × Nat × List Tok=>x.1) (fun x fr Γ=>∃ n rows,fr=[.v (sv s),.U,.v (.slice none 0 0),.v (ii 0),.v (ii 0),.vec 0 n,.v (ii (x.2.1:Nat)),.U,.U,.U,.U,.U,.U,.U,.U,.U,.U,.U,.U,.U,.U,.U,.U,.U,.U,.U,.U,.U,.U,.U,.U,.U,.U,.U,.U,.U,.U,.U,.U,.U,.U,.U,.U,.U,.U,.U,.U,.U,.U,.U,.U,.U,.U,.U,.U]/\Γ=[.vec 203 4 0 rows]/\rows.length=n/\rows=x.2.2.map cV/\x.2.1<=s.length/\n<=x.2.1/\me s x.1 x.2.1 x.2.2=some (ts,c,z)) (f,0,[]) ?_ ?_
 ·exact ⟨_,_,Wk.ax ao,0,[],rfl,rfl,rfl,rfl,Nat.zero_le _,Nat.le_refl _,h⟩
 ·clear h;rintro ⟨f,a,acc⟩ _ _ ⟨n,rows,rfl,rfl,hn,bs,ha,HK,h⟩;simp only at bs ha HK h
  cases f with
  | zero=>cases h
  | succ f =>
  rw [me] at h
  cases hc:s[a]? with
  | none =>
   rw [hc] at h;cases h;have kQ:s.length<=a:=List.getElem?_eq_none_iff.1 hc
   have hd:decide ((a:Int) < (s.length:Int))=false:=by simpa using kQ
   refine ae ?_;refine aX ?_;refine GW.wk (Wk.iv (t:=5) rfl rfl rfl hn) ?_;refine ae ?_;refine II ?_;exact ⟨by rw [bs];rfl,rfl⟩
  | some ch =>
   rw [hc] at h;simp only at h;have ar:a < s.length:=(List.getElem?_eq_some_iff.1 hc).1
   have hd:decide ((a:Int) < (s.length:Int))=true:=by simpa using ar
   have L7:=Gj ch;have oG:=NR ch
   cases hb:dv ch with
   | true =>
    rw [if_pos hb] at h;rw [hb] at oG;generalize Go.Lib.indexByte [32,9,10,13] ch=ib at *;refine ae ?_;refine ab [] (L7) ?_;refine aX ?_;exact ⟨(f,a+1,acc),⟨_,_,Wk.ax ao,n,rows,rfl,rfl,hn,bs,ar,by simp only;omega,h⟩,by simp⟩
   | false =>
    rw [if_neg (by rw [hb];decide)] at h;rw [hb] at oG;generalize Go.Lib.indexByte [32,9,10,13] ch=ib at *;have mM:=Gi (s.drop a) [47,42] (by rw [length_drop];omega) (by decide);rw [Gt ha] at mM
    cases mK:br s a [47,42] with
    | true =>
     rw [if_pos mK] at h;rw [mK] at mM;have mi:=Go.Sp.iX mK;simp only [List.length_cons,length_nil] at mi;have w7:=NL (s.drop (a+2)) (by rw [length_drop];omega);rw [Mq] at w7
     have LU:a+2<=s.length:=by omega
     cases hi:pf (s.drop (a+2)) with
     | none =>
      rw [hi] at w7 h;cases h;refine ae ?_;refine ab [] (L7) ?_;refine ab [] (mM) ?_;refine ab [] (w7) ?_;refine qn ?_;exact ⟨_,iM,rfl,rfl⟩
     | some e =>
      rw [hi] at w7 h;have eP:=Go.Im.BE hi;rw [length_drop] at eP
      have TH:decide (((e:Nat):Int) < 0)=false:=by simp
      refine ae ?_;refine ab [] (L7) ?_;refine ab [] (mM) ?_;refine ab [] (w7) ?_;refine aX ?_;exact ⟨(f,a+(e+4),acc),⟨_,_,Wk.ax ao,n,rows,rfl,rfl,hn,bs,by simp only;omega,by simp only;omega,h⟩,by simp⟩
    | false =>
     rw [if_neg (by rw [mK];decide)] at h;rw [mK] at mM;have jD:=SC s a ch ah hc
     have ew:=fun h0=>Go.Im.IG hc h0
     generalize jK s a ch=R at *;obtain ⟨t,e,code⟩:=R;simp only at jD h ew
     by_cases h0:code=0
     ·rw [if_neg (by simpa using h0)] at h
      have r8:(code != 0)=false:=by simpa using h0
      obtain ⟨_,_,k3,k4⟩:=ew h0;refine ae ?_;refine ab [] (L7) ?_;refine ab [] (mM) ?_;refine ab [] (jD) ?_;refine dY ?_;refine ae ?_;exact ⟨(f,e,acc++[t]),⟨_,_,(Wk.cut (n:=1) (Nat.le_of_ble_eq_true rfl) rfl).trans (Wk.ax ao),_,_,rfl,rfl,by simp [hn],by rw [map_append,bs];rfl,k4,by simp only;omega,h⟩,by simp⟩
     ·rw [if_pos h0] at h
      have r8:(code != 0)=true:=by simpa using h0
      cases h;refine ae ?_;refine ab [] (L7) ?_;refine ab [] (mM) ?_;refine ab [] (jD) ?_;refine qn ?_;exact ⟨_,iM,rfl,rfl⟩
end Go.Xg
namespace Go.Xg
open Go.RowKit Go.Xw Go.Proofs
open Go.Xp (Tok Nd T aO az)
open Go.Sp (Src)
open Go.Im (nF pE tr ir cP fG tP)
attribute [local irreducible] GW GL GO YG GC GA aW aZ
theorem O2:∀ (N:Nat) (t:T),aO t<=N->aO t<=1099511627776->GF Tryz.prog 158 [uT t] [] (.v (.bool (fG t))) []:=by
 intro N
 induction N with
 | zero=>intro t h;rw [Go.Xp.dX] at h;omega
 | succ N ih =>
 intro t hN hb;rw [Go.Xp.dX] at hN hb;have eW:=Go.Xp.cx t.kids;have oK:=qj t.kids;rw [Go.Im.xi,Go.Im.su];unfold uT;generalize t.n.kind=kd;refine da Tryz.func158 Tryz.ntmps158 ?_;refine IK ?_;refine GW.join (fun fr Γ=>fr=[.box [.v (ii kd),.v (ii t.n.at_),.v (ii t.n.n),.v (sv t.n.s),ints t.n.kids,.sl 1 (bX t.kids)] 0,.U,.U,.U,.v (.bool (cP kd t.kids.length)),.U,.U,.U,.U,.U,.U,.U,.U,.U,.U,.U,.U,.U,.U,.U,.U,.U,.U,.U,.U,.U,.U,.U,.U,.U,.U,.U,.U,.U,.U,.U,.U,.U,.U,.U,.U,.U,.U,.U,.U,.U,.U,.U,.U,.U,.U,.U,.U,.U,.U,.U,.U,.U,.U,.U,.U,.U,.U,.U]/\Γ=[]) ?_ ?_
 ·rw [<-oK];generalize (bX t.kids)=l
  by_cases h1:kd=1
  ·subst h1
   have f1:((1:Int)==1)=true:=by decide
   rw [show cP 1 l.length=((l.length:Int)==0) by unfold cP;simp];refine ae ?_;exact ⟨_,_,Wk.ax ao,rfl,rfl⟩
  by_cases h2:kd=2
  ·subst h2
   have f1:((2:Int)==1)=false:=by decide
   have f2:((2:Int)==2)=true:=by decide
   rw [show cP 2 l.length=((l.length:Int)==0) by unfold cP;simp];refine ae ?_;exact ⟨_,_,Wk.ax ao,rfl,rfl⟩
  by_cases h4:kd=4
  ·subst h4
   have f1:((4:Int)==1)=false:=by decide
   have f2:((4:Int)==2)=false:=by decide
   have f4:((4:Int)==4)=true:=by decide
   rw [show cP 4 l.length=true by unfold cP;simp];refine ae ?_;exact ⟨_,_,Wk.ax ao,rfl,rfl⟩
  by_cases z8:kd=14
  ·subst z8
   have f1:((14:Int)==1)=false:=by decide
   have f2:((14:Int)==2)=false:=by decide
   have f4:((14:Int)==4)=false:=by decide
   have f14:((14:Int)==14)=true:=by decide
   rw [show cP 14 l.length=true by unfold cP;simp];refine ae ?_;exact ⟨_,_,Wk.ax ao,rfl,rfl⟩
  by_cases h3:kd=3
  ·subst h3
   have f1:((3:Int)==1)=false:=by decide
   have f2:((3:Int)==2)=false:=by decide
   have f4:((3:Int)==4)=false:=by decide
   have f14:((3:Int)==14)=false:=by decide
   have f3:((3:Int)==3)=true:=by decide
   rw [show cP 3 l.length=((l.length:Int)==1) by unfold cP;simp];refine ae ?_;exact ⟨_,_,Wk.ax ao,rfl,rfl⟩
  by_cases h5:kd=5
  ·subst h5
   have f1:((5:Int)==1)=false:=by decide
   have f2:((5:Int)==2)=false:=by decide
   have f4:((5:Int)==4)=false:=by decide
   have f14:((5:Int)==14)=false:=by decide
   have f3:((5:Int)==3)=false:=by decide
   have f5:((5:Int)==5)=true:=by decide
   rw [show cP 5 l.length=((l.length:Int)==1) by unfold cP;simp];refine ae ?_;exact ⟨_,_,Wk.ax ao,rfl,rfl⟩
  by_cases h7:kd=7
  ·subst h7
   have f1:((7:Int)==1)=false:=by decide
   have f2:((7:Int)==2)=false:=by decide
   have f4:((7:Int)==4)=false:=by decide
   have f14:((7:Int)==14)=false:=by decide
   have f3:((7:Int)==3)=false:=by decide
   have f5:((7:Int)==5)=false:=by decide
   have f7:((7:Int)==7)=true:=by decide
   rw [show cP 7 l.length=((l.length:Int)==1) by unfold cP;simp];refine ae ?_;exact ⟨_,_,Wk.ax ao,rfl,rfl⟩
  by_cases nW:kd=11
  ·subst nW
   have f1:((11:Int)==1)=false:=by decide
   have f2:((11:Int)==2)=false:=by decide
   have f4:((11:Int)==4)=false:=by decide
   have f14:((11:Int)==14)=false:=by decide
   have f3:((11:Int)==3)=false:=by decide
   have f5:((11:Int)==5)=false:=by decide
   have f7:((11:Int)==7)=false:=by decide
   have f11:((11:Int)==11)=true:=by decide
   rw [show cP 11 l.length=((l.length:Int)==1) by unfold cP;simp];refine ae ?_;exact ⟨_,_,Wk.ax ao,rfl,rfl⟩
  by_cases nB:kd=12
  ·subst nB
   have f1:((12:Int)==1)=false:=by decide
   have f2:((12:Int)==2)=false:=by decide
   have f4:((12:Int)==4)=false:=by decide
   have f14:((12:Int)==14)=false:=by decide
   have f3:((12:Int)==3)=false:=by decide
   have f5:((12:Int)==5)=false:=by decide
   have f7:((12:Int)==7)=false:=by decide
   have f11:((12:Int)==11)=false:=by decide
   have f12:((12:Int)==12)=true:=by decide
   rw [show cP 12 l.length=((l.length:Int)==1) by unfold cP;simp];refine ae ?_;exact ⟨_,_,Wk.ax ao,rfl,rfl⟩
  by_cases eB:kd=13
  ·subst eB
   have f1:((13:Int)==1)=false:=by decide
   have f2:((13:Int)==2)=false:=by decide
   have f4:((13:Int)==4)=false:=by decide
   have f14:((13:Int)==14)=false:=by decide
   have f3:((13:Int)==3)=false:=by decide
   have f5:((13:Int)==5)=false:=by decide
   have f7:((13:Int)==7)=false:=by decide
   have f11:((13:Int)==11)=false:=by decide
   have f12:((13:Int)==12)=false:=by decide
   have f13:((13:Int)==13)=true:=by decide
   rw [show cP 13 l.length=((l.length:Int)==1) by unfold cP;simp];refine ae ?_;exact ⟨_,_,Wk.ax ao,rfl,rfl⟩
  by_cases h6:kd=6
  ·subst h6
   have f1:((6:Int)==1)=false:=by decide
   have f2:((6:Int)==2)=false:=by decide
   have f4:((6:Int)==4)=false:=by decide
   have f14:((6:Int)==14)=false:=by decide
   have f3:((6:Int)==3)=false:=by decide
   have f5:((6:Int)==5)=false:=by decide
   have f7:((6:Int)==7)=false:=by decide
   have f11:((6:Int)==11)=false:=by decide
   have f12:((6:Int)==12)=false:=by decide
   have f13:((6:Int)==13)=false:=by decide
   have f6:((6:Int)==6)=true:=by decide
   rw [show cP 6 l.length=((l.length:Int)==2) by unfold cP;simp];refine ae ?_;exact ⟨_,_,Wk.ax ao,rfl,rfl⟩
  by_cases h8:kd=8
  ·subst h8
   have f1:((8:Int)==1)=false:=by decide
   have f2:((8:Int)==2)=false:=by decide
   have f4:((8:Int)==4)=false:=by decide
   have f14:((8:Int)==14)=false:=by decide
   have f3:((8:Int)==3)=false:=by decide
   have f5:((8:Int)==5)=false:=by decide
   have f7:((8:Int)==7)=false:=by decide
   have f11:((8:Int)==11)=false:=by decide
   have f12:((8:Int)==12)=false:=by decide
   have f13:((8:Int)==13)=false:=by decide
   have f6:((8:Int)==6)=false:=by decide
   have f8:((8:Int)==8)=true:=by decide
   rw [show cP 8 l.length=((l.length:Int)==2) by unfold cP;simp];refine ae ?_;exact ⟨_,_,Wk.ax ao,rfl,rfl⟩
  by_cases kF:kd=10
  ·subst kF
   have f1:((10:Int)==1)=false:=by decide
   have f2:((10:Int)==2)=false:=by decide
   have f4:((10:Int)==4)=false:=by decide
   have f14:((10:Int)==14)=false:=by decide
   have f3:((10:Int)==3)=false:=by decide
   have f5:((10:Int)==5)=false:=by decide
   have f7:((10:Int)==7)=false:=by decide
   have f11:((10:Int)==11)=false:=by decide
   have f12:((10:Int)==12)=false:=by decide
   have f13:((10:Int)==13)=false:=by decide
   have f6:((10:Int)==6)=false:=by decide
   have f8:((10:Int)==8)=false:=by decide
   have f10:((10:Int)==10)=true:=by decide
   rw [show cP 10 l.length=((l.length:Int)==2) by unfold cP;simp];refine ae ?_;exact ⟨_,_,Wk.ax ao,rfl,rfl⟩
  by_cases h9:kd=9
  ·subst h9
   have f1:((9:Int)==1)=false:=by decide
   have f2:((9:Int)==2)=false:=by decide
   have f4:((9:Int)==4)=false:=by decide
   have f14:((9:Int)==14)=false:=by decide
   have f3:((9:Int)==3)=false:=by decide
   have f5:((9:Int)==5)=false:=by decide
   have f7:((9:Int)==7)=false:=by decide
   have f11:((9:Int)==11)=false:=by decide
   have f12:((9:Int)==12)=false:=by decide
   have f13:((9:Int)==13)=false:=by decide
   have f6:((9:Int)==6)=false:=by decide
   have f8:((9:Int)==8)=false:=by decide
   have f10:((9:Int)==10)=false:=by decide
   have f9:((9:Int)==9)=true:=by decide
   cases hq:((l.length:Int)==2) with
   | true =>
    rw [show cP 9 l.length=true by unfold cP;simp [hq]];refine ae ?_;exact ⟨_,_,Wk.ax ao,rfl,rfl⟩
   | false =>
    rw [show cP 9 l.length=((l.length:Int)==3) by unfold cP;simp [hq]];refine ae ?_;exact ⟨_,_,Wk.ax ao,rfl,rfl⟩
  have e:cP kd l.length=false:=by unfold cP;simp [h1,h2,h4,z8,h3,h5,h7,nW,nB,eB,h6,h8,kF,h9]
  rw [e]
  have g1:(kd==1)=false:=by simpa using h1
  have g2:(kd==2)=false:=by simpa using h2
  have g4:(kd==4)=false:=by simpa using h4
  have g14:(kd==14)=false:=by simpa using z8
  have g3:(kd==3)=false:=by simpa using h3
  have g5:(kd==5)=false:=by simpa using h5
  have g7:(kd==7)=false:=by simpa using h7
  have g11:(kd==11)=false:=by simpa using nW
  have g12:(kd==12)=false:=by simpa using nB
  have g13:(kd==13)=false:=by simpa using eB
  have g6:(kd==6)=false:=by simpa using h6
  have g8:(kd==8)=false:=by simpa using h8
  have g10:(kd==10)=false:=by simpa using kF
  have g9:(kd==9)=false:=by simpa using h9
  refine ae ?_;exact ⟨_,_,Wk.ax ao,rfl,rfl⟩
 ·rintro _ _ ⟨rfl,rfl⟩;generalize cP kd t.kids.length=b0;refine ae ?_;refine GW.range (bX t.kids).length (fun k fr Γ=>fr=[.U,.U,.U,.U,.v (.bool (b0&&(t.kids.take k).all fG)),.U,.U,.U,.U,.U,.U,.U,.U,.U,.U,.U,.U,.U,.U,.U,.U,.U,.U,.U,.U,.U,.U,.U,.U,.U,.U,.U,.U,.U,.U,.U,.U,.U,.U,.U,.U,.U,.U,.U,.U,.U,.U,.U,.U,.U,.U,.sl 1 (bX t.kids),.v (ii ((bX t.kids).length:Int)),.v (ii (k:Nat)),.U,.U,.U,.U,.U,.U,.U,.U,.U,.U]/\Γ=[]) ?_ ah ?_ ?_ ?_
  ·refine ⟨_,_,Wk.ax (bV:=[.U,.U,.U,.U,.v (.bool b0),.U,.U,.U,.U,.U,.U,.U,.U,.U,.U,.U,.U,.U,.U,.U,.U,.U,.U,.U,.U,.U,.U,.U,.U,.U,.U,.U,.U,.U,.U,.U,.U,.U,.U,.U,.U,.U,.U,.U,.U,.U,.U,.U,.U,.U,.U,.sl 1 (bX t.kids),.v (ii ((bX t.kids).length:Int)),.v (ii (0:Nat)),.U,.U,.U,.U,.U,.U,.U,.U,.U,.U]) ao,?_,rfl⟩;rw [List.take_zero,List.all_nil,Bool.and_true]
  ·rintro k _ _ ⟨rfl,rfl⟩;exact ⟨rfl,rfl,rfl⟩
  ·rintro k _ _ ar ⟨rfl,rfl⟩;rw [oK] at ar;obtain ⟨xj,jH⟩:∃ xj,t.kids[k]?=some xj:=⟨t.kids[k],by simp [ar]⟩;have hr:=uO jH;have cK:=Go.Xp.tU jH;have hle:=Go.Xp.tS t.kids (k+1);have CG:=ih xj ah ah
   have aR:(t.kids.take (k+1)).all fG=((t.kids.take k).all fG&&fG xj):=by rw [take_add_one,jH,List.all_append];simp
   rw [aR,<-Bool.and_assoc];generalize (b0&&(t.kids.take k).all fG)=b at *
   cases b with
   | true =>
    refine ae ?_;refine ab [] (CG) ?_;exact ⟨rfl,rfl,_,_,Wk.ax ao,rfl,rfl⟩
   | false =>
    refine ae ?_;exact ⟨rfl,rfl,_,_,Wk.ax ao,rfl,rfl⟩
  ·rintro _ _ ⟨rfl,rfl⟩;rw [oK,take_length];exact aw
def vG (l:List T):Int:=match l.findIdx? (fun t=>!(fG t)) with | some i=>(i:Int) | none => -1
theorem Ms (t:T) (hb:aO t<=1099511627776):GF Tryz.prog 157 [uT t] [] (.v (.bool (!(fG t)))) []:=by
 have h:=O2 _ t (Nat.le_refl _) hb;generalize fG t=b at *;refine aj Tryz.func157 Tryz.ntmps157 ?_;refine ab [] (h) ?_;exact aq
theorem Gl (l:List T) (hl:l.length<=1099511627776) (hb:∀ t∈l,aO t<=1099511627776) :
  GF Tryz.prog 194 [.sl 1 (bX l),.v (.func (.func 157) #[] #[])] [] (.v (ii (vG l))) []:=by
 have oK:=qj l;refine aj Tryz.func194 Tryz.ntmps194 ?_;refine GW.range (bX l).length (fun k fr Γ=>fr=[.sl 1 (bX l),.v (.func (.func 157) #[] #[]),.U,.U,.U,.U,.U,.v (ii ((bX l).length:Int)),.v (ii (k:Nat)),.U,.U,.U,.U,.U,.U,.U,.U,.U,.U]/\Γ=[]/\(l.take k).all fG=true) ?_ ah ?_ ?_ ?_
 ·exact ⟨_,_,Wk.ax ao,rfl,rfl,rfl⟩
 ·rintro k _ _ ⟨rfl,rfl,_⟩;exact ⟨rfl,rfl,rfl⟩
 ·rintro k _ _ ar ⟨rfl,rfl,aR⟩;rw [oK] at ar
  have cQ:l[k]?=some l[k]:=by simp [ar]
  have hr:=uO cQ;have bT:=Ms l[k] (hb _ (getElem_mem ar))
  have bt:(l.take (k+1)).all fG=((l.take k).all fG&&fG l[k]):=by rw [take_add_one,cQ,List.all_append];simp
  have yC:fG l[k]=false->vG l=(k:Int):=fun h0=>by
   have:l.findIdx? (fun t=>!(fG t))=some k:=by
    rw [List.findIdx?_eq_some_iff_getElem];refine ⟨ar,by simp [h0],fun j hj=>?_⟩;rw [all_eq_true] at aR;have:=aR l[j] (by rw [List.mem_take_iff_getElem];exact ⟨j,by omega,rfl⟩);simp [this]
   unfold vG;rw [this]
  generalize l[k]=t at *
  cases hk:fG t with
  | true =>
   rw [hk] at bT bt;refine ae ?_;refine ig [] (bT) ?_;refine ae ?_;exact ⟨rfl,rfl,_,_,Wk.ax ao,rfl,rfl,by rw [bt,aR];rfl⟩
  | false =>
   rw [hk] at bT;rw [yC hk];refine ae ?_;refine ig [] (bT) ?_;exact aw
 ·rintro _ _ ⟨rfl,rfl,aR⟩;rw [oK,take_length] at aR
  have:l.findIdx? (fun t=>!(fG t))=none:=by
   rw [List.findIdx?_eq_none_iff];intro x hx;rw [all_eq_true] at aR;simp [aR x hx]
  unfold vG;rw [this];exact aw
theorem Pm (l:List T):decide ((0:Int)<=vG l)=!(l.all fG):=by
 unfold vG
 cases h:l.findIdx? (fun t=>!(fG t)) with
 | some i =>
  rw [List.findIdx?_eq_some_iff_getElem] at h;obtain ⟨h1,h2,_⟩:=h
  have:l.all fG=false:=by
   rw [List.all_eq_false];exact ⟨l[i],getElem_mem _,by simpa using h2⟩
  rw [this];simp
 | none =>
  rw [List.findIdx?_eq_none_iff] at h
  have:l.all fG=true:=by rw [all_eq_true];intro x hx;simpa using h x hx
  rw [this];rfl
theorem tW (l:List T) (hl:l.length<=1099511627776) (hb:∀ t∈l,aO t<=1099511627776) :
  GF Tryz.prog 156 [.sl 1 (bX l),.v (.func (.func 157) #[] #[])] [] (.v (.bool (!(l.all fG)))) []:=by
 have h:=Gl l hl hb;rw [<-Pm];generalize vG l=z at *;refine aj Tryz.func156 Tryz.ntmps156 ?_;refine ab [] (h) ?_;exact aq
end Go.Xg
set_option maxHeartbeats 2000000
namespace Go.Xg
open Go.RowKit Go.Xw Go.Proofs
open Go.Xp (Tok Nd T Ar aO az dV)
open Go.Sp (Src)
open Go.Im
attribute [local irreducible] GW GL GO YG GC GA aW aZ
theorem P4:Wr 160 161 cI fg :=
 ⟨fun a h1 h2 h3=>Sy _ a (Nat.le_refl _) h1 h2 h3,fun l d h1 h2 h3=>OW l d h1 h2,fun l d s h=>OX h⟩
theorem DI (p:Src) (h:p.nodes.length > 800):GF Tryz.prog 136 [.agg (av p)] [] (.v (.bool false)) []:=by
 have hm:(p.nodes.map ay).length=p.nodes.length:=by simp
 have hd:decide ((800:Int) < ((p.nodes.map ay).length:Int))=true:=by rw [hm];simpa using by omega
 refine aj Tryz.func136 Tryz.ntmps136 ?_;exact aq
theorem A8 (p:Src) (h:p.nodes.length<=800) (hk:∀ n∈p.nodes,n.kids.length<=1099511627776) (hf:p.fns.length<=1099511627776) (hb:ir p.nodes p.fns 0 []=none):GF Tryz.prog 136 [.agg (av p)] [] (.v (.bool false)) []:=by
 have hm:(p.nodes.map ay).length=p.nodes.length:=by simp
 have hd:decide ((800:Int) < ((p.nodes.map ay).length:Int))=false:=by rw [hm];simpa using by omega
 have hB:=vb p ah hk hf;rw [hb] at hB;unfold Bg at hB;refine aj Tryz.func136 Tryz.ntmps136 ?_;refine ab [] (hB) ?_;exact aq
theorem Gg (p:Src) (l:List T) (e:Nat) (h:p.nodes.length<=800) (hk:∀ n∈p.nodes,n.kids.length<=1099511627776) (hf:p.fns.length<=1099511627776) (hb:ir p.nodes p.fns 0 []=some (l,e)) (he:e≠p.nodes.length):GF Tryz.prog 136 [.agg (av p)] [] (.v (.bool false)) []:=by
 have hm:(p.nodes.map ay).length=p.nodes.length:=by simp
 have hd:decide ((800:Int) < ((p.nodes.map ay).length:Int))=false:=by rw [hm];simpa using by omega
 have hB:=vb p ah hk hf;rw [hb] at hB;unfold Bg at hB;simp only at hB;rw [show ((e:Int)==(p.nodes.length:Int))=false by simp only [beq_eq_false_iff_ne,ne_eq];omega] at hB;refine aj Tryz.func136 Tryz.ntmps136 ?_;refine ab [] (hB) ?_;exact aq
theorem DH (p:Src) (l:List T) (h:p.nodes.length<=800) (hk:∀ n∈p.nodes,n.kids.length<=1099511627776) (hf:p.fns.length<=1099511627776) (hb:ir p.nodes p.fns 0 []=some (l,p.nodes.length)) (hl:l.length<=1099511627776) (hs:∀ t∈l,aO t<=1099511627776) (hn:l.all fG=false):GF Tryz.prog 136 [.agg (av p)] [] (.v (.bool false)) []:=by
 have hm:(p.nodes.map ay).length=p.nodes.length:=by simp
 have hd:decide ((800:Int) < ((p.nodes.map ay).length:Int))=false:=by rw [hm];simpa using by omega
 have hB:=vb p ah hk hf;rw [hb] at hB;unfold Bg at hB;simp only at hB;rw [show ((p.nodes.length:Int)==(p.nodes.length:Int))=true by simp] at hB;have hC:=tW l hl hs;rw [hn] at hC;refine aj Tryz.func136 Tryz.ntmps136 ?_;refine ab [] (hB) ?_;refine ab [] (hC) ?_;exact aq
theorem M0 (st:PS) (h:st.fns.length=st.trees.length):mw st.fns st.trees st.trees.length=(og st).map au:=by
 unfold mw og;apply ext_getElem?;intro i;rw [getElem?_map,getElem?_mapIdx,getElem?_mapIdx]
 cases hx:st.fns[i]? with
 | none=>rfl
 | some x =>
  have hi:=(List.getElem?_eq_some_iff.1 hx).1;simp only [Option.map_some];rw [if_pos ah];rfl
def Q0 (st:PS):Src:=⟨st.globals,st.arrays,og st,dV 0 st.trees⟩
theorem UO {q:Go.Sp.RS} {st:PS} (hc:q.code=0) (h8:¬ az st.trees > 800) (h:st.fns.length=st.trees.length):Il q st=.tup [.agg (av (Q0 st)),.v (ii 0),.v (ii 0)]:=by
 unfold Il;rw [if_pos hc,if_neg h8,M0 st h];rfl
theorem Gh (p:Src) (l:List T) (x:ai) (ts:List Tok) (c z:Int) (h:p.nodes.length<=800) (hB:GF Tryz.prog 155 [.agg (av p)] [] (.tup [.sl 1 (bX l),.v (.bool true)]) [])
  (hC:GF Tryz.prog 156 [.sl 1 (bX l),.v (.func (.func 157) #[] #[])] [] (.v (.bool false)) [])
  (hL:GF Tryz.prog 159 [.agg (av p),.sl 1 (bX l),.v (ik 160),.v (ik 161)] [] (.v (sv x)) [])
  (hX:GF Tryz.prog 162 [.v (sv x)] [] (.tup [ia ts,.v (ii c),.v (ii z)]) []) (hc:(c != 0)=true) :
  GF Tryz.prog 136 [.agg (av p)] [] (.v (.bool false)) []:=by
 have hm:(p.nodes.map ay).length=p.nodes.length:=by simp
 have hd:decide ((800:Int) < ((p.nodes.map ay).length:Int))=false:=by rw [hm];simpa using by omega
 refine aj Tryz.func136 Tryz.ntmps136 ?_;refine ab [] (hB) ?_;refine ab [] (hC) ?_;refine ab [] (hL) ?_;refine ab [] (hX) ?_;exact aq
theorem yl (p:Src) (l:List T) (x:ai) (ts:List Tok) (c k a:Int) (h:p.nodes.length<=800) (hB:GF Tryz.prog 155 [.agg (av p)] [] (.tup [.sl 1 (bX l),.v (.bool true)]) [])
  (hC:GF Tryz.prog 156 [.sl 1 (bX l),.v (.func (.func 157) #[] #[])] [] (.v (.bool false)) [])
  (hL:GF Tryz.prog 159 [.agg (av p),.sl 1 (bX l),.v (ik 160),.v (ik 161)] [] (.v (sv x)) [])
  (hX:GF Tryz.prog 162 [.v (sv x)] [] (.tup [ia ts,.v (ii 0),.v (ii c)]) [])
  (hP:GF Tryz.prog 163 [ia ts,.v (ii (x.length:Int))] [] (.tup [.agg [.sl 1 [],.sl 2 [],.sl 3 [],.sl 5 []],.v (ii k),.v (ii a)]) []) (hk:(k==0)=false) :
  GF Tryz.prog 136 [.agg (av p)] [] (.v (.bool false)) []:=by
 have hm:(p.nodes.map ay).length=p.nodes.length:=by simp
 have hd:decide ((800:Int) < ((p.nodes.map ay).length:Int))=false:=by rw [hm];simpa using by omega
 refine aj Tryz.func136 Tryz.ntmps136 ?_;refine ab [] (hB) ?_;refine ab [] (hC) ?_;refine ab [] (hL) ?_;refine ab [] (hX) ?_;refine ab [] (hP) ?_;exact aq
theorem IQ (p r:Src) (l:List T) (x:ai) (ts:List Tok) (c:Int) (h:p.nodes.length<=800) (hB:GF Tryz.prog 155 [.agg (av p)] [] (.tup [.sl 1 (bX l),.v (.bool true)]) [])
  (hC:GF Tryz.prog 156 [.sl 1 (bX l),.v (.func (.func 157) #[] #[])] [] (.v (.bool false)) [])
  (hL:GF Tryz.prog 159 [.agg (av p),.sl 1 (bX l),.v (ik 160),.v (ik 161)] [] (.v (sv x)) [])
  (hX:GF Tryz.prog 162 [.v (sv x)] [] (.tup [ia ts,.v (ii 0),.v (ii c)]) [])
   (hg:GF Tryz.prog 164 [strs p.globals,strs r.globals] [] (.v (.bool false)) [])
  (hP:GF Tryz.prog 163 [ia ts,.v (ii (x.length:Int))] [] (.tup [.agg (av r),.v (ii 0),.v (ii 0)]) []) :
  GF Tryz.prog 136 [.agg (av p)] [] (.v (.bool false)) []:=by
 have hm:(p.nodes.map ay).length=p.nodes.length:=by simp
 have hd:decide ((800:Int) < ((p.nodes.map ay).length:Int))=false:=by rw [hm];simpa using by omega
 refine aj Tryz.func136 Tryz.ntmps136 ?_;refine ab [] (hB) ?_;refine ab [] (hC) ?_;refine ab [] (hL) ?_;refine ab [] (hX) ?_;refine ab [] (hP) ?_;refine ab [] (hg) ?_;exact aq
theorem IU (p r:Src) (l:List T) (x:ai) (ts:List Tok) (c:Int) (h:p.nodes.length<=800) (hB:GF Tryz.prog 155 [.agg (av p)] [] (.tup [.sl 1 (bX l),.v (.bool true)]) [])
  (hC:GF Tryz.prog 156 [.sl 1 (bX l),.v (.func (.func 157) #[] #[])] [] (.v (.bool false)) [])
  (hL:GF Tryz.prog 159 [.agg (av p),.sl 1 (bX l),.v (ik 160),.v (ik 161)] [] (.v (sv x)) [])
  (hX:GF Tryz.prog 162 [.v (sv x)] [] (.tup [ia ts,.v (ii 0),.v (ii c)]) [])
   (hg:GF Tryz.prog 164 [strs p.globals,strs r.globals] [] (.v (.bool true)) [])
  (ha:GF Tryz.prog 165 [(.sl 2 (p.arrays.map fun s=>aB s)),(.sl 2 (r.arrays.map fun s=>aB s))] [] (.v (.bool false)) [])
  (hP:GF Tryz.prog 163 [ia ts,.v (ii (x.length:Int))] [] (.tup [.agg (av r),.v (ii 0),.v (ii 0)]) []) :
  GF Tryz.prog 136 [.agg (av p)] [] (.v (.bool false)) []:=by
 have hm:(p.nodes.map ay).length=p.nodes.length:=by simp
 have hd:decide ((800:Int) < ((p.nodes.map ay).length:Int))=false:=by rw [hm];simpa using by omega
 refine aj Tryz.func136 Tryz.ntmps136 ?_;refine ab [] (hB) ?_;refine ab [] (hC) ?_;refine ab [] (hL) ?_;refine ab [] (hX) ?_;refine ab [] (hP) ?_;refine ab [] (hg) ?_;refine ab [] (ha) ?_;exact aq
theorem IV (p r:Src) (l:List T) (x:ai) (ts:List Tok) (c:Int) (h:p.nodes.length<=800) (hB:GF Tryz.prog 155 [.agg (av p)] [] (.tup [.sl 1 (bX l),.v (.bool true)]) [])
  (hC:GF Tryz.prog 156 [.sl 1 (bX l),.v (.func (.func 157) #[] #[])] [] (.v (.bool false)) [])
  (hL:GF Tryz.prog 159 [.agg (av p),.sl 1 (bX l),.v (ik 160),.v (ik 161)] [] (.v (sv x)) [])
  (hX:GF Tryz.prog 162 [.v (sv x)] [] (.tup [ia ts,.v (ii 0),.v (ii c)]) [])
   (hg:GF Tryz.prog 164 [strs p.globals,strs r.globals] [] (.v (.bool true)) [])
  (ha:GF Tryz.prog 165 [(.sl 2 (p.arrays.map fun s=>aB s)),(.sl 2 (r.arrays.map fun s=>aB s))] [] (.v (.bool true)) [])
  (hf:GF Tryz.prog 166 [.sl 3 (p.fns.map au),.sl 3 (r.fns.map au),.v (.func (.func 167) #[] #[])] [] (.v (.bool false)) [])
  (hP:GF Tryz.prog 163 [ia ts,.v (ii (x.length:Int))] [] (.tup [.agg (av r),.v (ii 0),.v (ii 0)]) []) :
  GF Tryz.prog 136 [.agg (av p)] [] (.v (.bool false)) []:=by
 have hm:(p.nodes.map ay).length=p.nodes.length:=by simp
 have hd:decide ((800:Int) < ((p.nodes.map ay).length:Int))=false:=by rw [hm];simpa using by omega
 refine aj Tryz.func136 Tryz.ntmps136 ?_;refine ab [] (hB) ?_;refine ab [] (hC) ?_;refine ab [] (hL) ?_;refine ab [] (hX) ?_;refine ab [] (hP) ?_;refine ab [] (hg) ?_;refine ab [] (ha) ?_;refine ab [] (hf) ?_;exact aq
theorem IW (p r:Src) (l:List T) (x:ai) (ts:List Tok) (c:Int) (b:Bool) (h:p.nodes.length<=800) (hB:GF Tryz.prog 155 [.agg (av p)] [] (.tup [.sl 1 (bX l),.v (.bool true)]) [])
  (hC:GF Tryz.prog 156 [.sl 1 (bX l),.v (.func (.func 157) #[] #[])] [] (.v (.bool false)) [])
  (hL:GF Tryz.prog 159 [.agg (av p),.sl 1 (bX l),.v (ik 160),.v (ik 161)] [] (.v (sv x)) [])
  (hX:GF Tryz.prog 162 [.v (sv x)] [] (.tup [ia ts,.v (ii 0),.v (ii c)]) [])
   (hg:GF Tryz.prog 164 [strs p.globals,strs r.globals] [] (.v (.bool true)) [])
  (ha:GF Tryz.prog 165 [(.sl 2 (p.arrays.map fun s=>aB s)),(.sl 2 (r.arrays.map fun s=>aB s))] [] (.v (.bool true)) [])
  (hf:GF Tryz.prog 166 [.sl 3 (p.fns.map au),.sl 3 (r.fns.map au),.v (.func (.func 167) #[] #[])] [] (.v (.bool true)) [])
  (hn:GF Tryz.prog 168 [.sl 5 (p.nodes.map ay),.sl 5 (r.nodes.map ay),.v (.func (.func 169) #[] #[])] [] (.v (.bool b)) [])
  (hP:GF Tryz.prog 163 [ia ts,.v (ii (x.length:Int))] [] (.tup [.agg (av r),.v (ii 0),.v (ii 0)]) []) :
  GF Tryz.prog 136 [.agg (av p)] [] (.v (.bool b)) []:=by
 have hm:(p.nodes.map ay).length=p.nodes.length:=by simp
 have hd:decide ((800:Int) < ((p.nodes.map ay).length:Int))=false:=by rw [hm];simpa using by omega
 refine aj Tryz.func136 Tryz.ntmps136 ?_;refine ab [] (hB) ?_;refine ab [] (hC) ?_;refine ab [] (hL) ?_;refine ab [] (hX) ?_;refine ab [] (hP) ?_;refine ab [] (hg) ?_;refine ab [] (ha) ?_;refine ab [] (hf) ?_;refine ab [] (hn) ?_;exact aq
theorem DJ (p r:Src) (l:List T) (x:ai) (ts:List Tok) (c:Int) (b1 b2 b3 b4:Bool) (h:p.nodes.length<=800) (hB:GF Tryz.prog 155 [.agg (av p)] [] (.tup [.sl 1 (bX l),.v (.bool true)]) [])
  (hC:GF Tryz.prog 156 [.sl 1 (bX l),.v (.func (.func 157) #[] #[])] [] (.v (.bool false)) [])
  (hL:GF Tryz.prog 159 [.agg (av p),.sl 1 (bX l),.v (ik 160),.v (ik 161)] [] (.v (sv x)) [])
  (hX:GF Tryz.prog 162 [.v (sv x)] [] (.tup [ia ts,.v (ii 0),.v (ii c)]) [])
  (hg:GF Tryz.prog 164 [strs p.globals,strs r.globals] [] (.v (.bool b1)) [])
  (ha:GF Tryz.prog 165 [(.sl 2 (p.arrays.map fun s=>aB s)),(.sl 2 (r.arrays.map fun s=>aB s))] [] (.v (.bool b2)) [])
  (hf:GF Tryz.prog 166 [.sl 3 (p.fns.map au),.sl 3 (r.fns.map au),.v (.func (.func 167) #[] #[])] [] (.v (.bool b3)) [])
  (hn:GF Tryz.prog 168 [.sl 5 (p.nodes.map ay),.sl 5 (r.nodes.map ay),.v (.func (.func 169) #[] #[])] [] (.v (.bool b4)) [])
  (hP:GF Tryz.prog 163 [ia ts,.v (ii (x.length:Int))] [] (.tup [.agg (av r),.v (ii 0),.v (ii 0)]) []) :
  GF Tryz.prog 136 [.agg (av p)] [] (.v (.bool (b1&&(b2&&(b3&&b4))))) []:=by
 cases b1 with
 | false=>exact IQ p r l x ts c h hB hC hL hX hg hP
 | true =>
  cases b2 with
  | false=>exact IU p r l x ts c h hB hC hL hX hg ha hP
  | true =>
   cases b3 with
   | false=>exact IV p r l x ts c h hB hC hL hX hg ha hf hP
   | true=>exact IW p r l x ts c b4 h hB hC hL hX hg ha hf hn hP
end Go.Xg
set_option maxHeartbeats 1000000
namespace Go.Xg
open Go.RowKit Go.Xw Go.Proofs
open Go.Xp (Tok Nd T Ar aO az dV)
open Go.Sp (Src)
open Go.Im
attribute [local irreducible] GW GL GO YG GC GA aW aZ
theorem Lu {st:PS} {f:Go.Sp.Fn} (h:f∈og st):∃ x∈st.fns,f.params=x.2:=by
 unfold og at h;obtain ⟨i,hi⟩:=List.getElem?_of_mem h;rw [getElem?_mapIdx] at hi
 cases hx:st.fns[i]? with
 | none=>rw [hx] at hi;cases hi
 | some x=>rw [hx] at hi;cases hi;exact ⟨x,mem_of_getElem? hx,rfl⟩
theorem Kw (p:Src) (hw:dN p<=1048576) (hn:ra p):GF Tryz.prog 136 [.agg (av p)] [] (.v (.bool (fI p))) []:=by
 obtain ⟨⟨s1,s2⟩,⟨s3,s4⟩,⟨s5,s6⟩,⟨s7,s8⟩⟩:=eJ p
 have eW:∀ n∈p.nodes,n.kids.length<=1099511627776:=fun n h=>by have:=(s8 n h).2;omega
 have hB:=vb p ah eW ah;unfold fI
 by_cases h8:p.nodes.length > 800
 ·rw [if_pos h8];exact DI p h8
 rw [if_neg h8]
 cases hb:ir p.nodes p.fns 0 [] with
 | none=>exact A8 p ah eW ah hb
 | some y =>
  obtain ⟨l,e⟩:=y;simp only
  by_cases he:e≠p.nodes.length
  ·rw [if_pos he];exact Gg p l e ah eW ah hb he
  rw [if_neg he]
  have he:e=p.nodes.length:=by simpa using he
  subst he;obtain ⟨l',h1,h2,h3,h4,h5⟩:=Bh _ _ _ _ _ hb;rw [nil_append] at h1;subst h1
  have hz:az l=p.nodes.length:=by omega
  have aam:=RN hn h2 hz;have oK:=F2 h2 hz;have pb:=fj.len h3;have XY:=dj.num hn.nodes l 0 h2
  by_cases hk:l.all fG=false
  ·rw [if_pos hk];exact DH p l ah eW ah hb ah (fun t ht=>by have:=(oK t ht).2;omega) hk
  rw [if_neg hk]
  have hk:l.all fG=true:=by simpa using hk
  obtain ⟨ts,c,z,q,st,hr⟩:=reads (mc cI fg p l);rw [zF hr];rw [hb] at hB;unfold Bg at hB;simp only at hB;rw [show ((p.nodes.length:Int)==(p.nodes.length:Int))=true by simp] at hB;have hC:=tW l ah (fun t ht=>by have:=(oK t ht).2;omega);rw [hk] at hC;have hL:=O8 160 161 cI fg P4 p l ah ah ah ah ah hn.arrays (fun f h=>by have:=(s6 f h).2.1;omega)
   (fun t ht=>⟨List.all_eq_true.1 hk t ht,jd XY ht,by have:=(oK t ht).1;omega,by have:=(oK t ht).2;omega⟩)
  have hX:=Pg _ _ ts c z ah hr.lex;have aaE:=hr.len;have hP:=GR ts (((mc cI fg p l).length:Nat):Int) q st ah ah (fun h=>by have:=(hr.ok h).2;omega) hr.read;have iD:=Mn _ _ _ _ _ _ (Nat.le_refl _) hr.read ⟨Nat.zero_le _,Nat.zero_le _,Nat.zero_le _,fun x h=>by cases h⟩;have ew:=hr.ok;clear hr hb;generalize hxg:mc cI fg p l=x at *
  by_cases hc:c≠0
  ·rw [if_pos hc];exact Gh p l x ts c z ah hB hC hL hX (by simpa using hc)
  rw [if_neg hc]
  have hc:c=0:=by simpa using hc
  subst hc
  by_cases hq:q.code≠0
  ·rw [if_pos hq];unfold Il at hP;rw [if_neg hq] at hP;exact yl p l x ts z q.code q.at_ ah hB hC hL hX hP (by simpa using hq)
  rw [if_neg hq]
  have hq:q.code=0:=by simpa using hq
  obtain ⟨CL,Mh⟩:=ew hq
  by_cases h9:az st.trees > 800
  ·rw [if_pos h9];unfold Il at hP;rw [if_pos hq,if_pos h9] at hP;exact yl p l x ts z 10 0 ah hB hC hL hX hP (by decide)
  rw [if_neg h9];rw [UO hq h9 CL.len] at hP;obtain ⟨m1,m2,m3,m4⟩:=iD
  have jm:(dV 0 st.trees).length<=800:=by rw [Go.Xp.xO];omega
  unfold same;refine DJ p (Q0 st) l x ts z _ _ _ _ ah hB hC hL hX ?_ ?_ ?_ ?_ hP
  ·exact G5 _ _ ah (by show st.globals.length<=_;omega)
  ·exact Q9 _ _ ah (by show st.arrays.length<=_;omega)
  ·refine Ge p.fns (og st) ah ?_ (fun f h=>by have:=(s6 f h).2.1;omega) (fun f h=>?_)
   ·unfold og;rw [List.length_mapIdx];omega
   ·obtain ⟨y,hy,h6⟩:=Lu h;rw [h6];have:=m4 y hy;omega
  ·exact Gf p.nodes (dV 0 st.trees) ah ah eW (fun n h=>by have:=zg st.trees 0 n h;omega)
theorem P2 (n lo hi:Int):GF Tryz.prog 53 [.v (ii n),.v (ii lo),.v (ii hi)] [] (.v (.bool (decide (lo<=n)&&decide (n<=hi)))) []:=by
 cases h:decide (lo<=n)
 all_goals
  refine aj Tryz.func53 Tryz.ntmps53 ?_;exact aq
end Go.Xg
set_option maxHeartbeats 2000000
namespace Go.Im
open Go.Xp Go.Sp
theorem AG (p:Src):(cw p).length=p.globals.length+p.arrays.length+p.fns.length:=by simp [cw,eH,gX];omega
end Go.Im
namespace Go.Xg
open Go.RowKit Go.Xw Go.Proofs
open Go.Xp (Nd Ar)
open Go.Sp (Src)
open Go.Im
attribute [local irreducible] GW GL GO YG GC GA aW aZ
theorem vJ:∀ l:List ai,lG (bW l)=true
 | []=>rfl
 | s::l=>by
  have:=vJ l;unfold bW at this |-;rw [List.map_cons,lG,this];rfl
theorem oy (l:List ai):(bW l).length=l.length:=by simp [bW]
theorem I0 (p:Src) (hw:dN p<=1048576):GC Tryz.prog 82 [.agg (av p)] [] fun g Δ=>∃ a c,g=.v (.slice a (cw p).length c)/\Δ=[.vech 9 1 (bW (cw p)) (.slice a (cw p).length c)]:=by
 obtain ⟨⟨a1,a2⟩,⟨b1,b2⟩,⟨c1,c2⟩,⟨d1,d2⟩⟩:=eJ p
 have Ah:(p.globals.map fun s=>[GV.v (sv s)]).length=p.globals.length:=by simp
 have gM:lG (p.globals.map fun s=>[GV.v (sv s)])=true:=vJ p.globals;refine da Tryz.func82 Tryz.ntmps82 ?_;refine GW.wk (Wk.mP 9 1) ?_;simp only [nil_append];refine ae ?_;refine GL.Du 0 rfl rfl rfl rfl gM (by refine ⟨?_,?_⟩;(· rw [Ah];omega);(· rw [Ah];omega)) ?_;intro a c;rw [Ah];refine bZ ?_;simp only [nil_append,length_nil,Nat.zero_add];refine ae ?_;refine GW.range (p.arrays.map aB).length (fun k fr Γ=>∃ a c R n,fr=[.U,.loc 1 0,.U,.v (.slice a n c),.U,.U,.U,.U,.U,.U,.U,.U,.sl 2 (p.arrays.map aB),.v (ii ((p.arrays.map aB).length:Int)),.v (ii (k:Nat)),.U,.U,.U,.U,.U,.U,.U,.U,.U,.U,.U,.U,.U,.U,.U,.U,.U,.U,.U,.U,.U,.U,.U]/\Γ=[.vech 9 1 R (.slice a n c),.box 34 (av p)]/\R.length=n/\R=bW (p.globals++(eH p).take k)) ?_ (by rw [length_map];omega) ?_ ?_ ?_
 ·exact ⟨_,_,Wk.ax ao,_,_,_,_,rfl,rfl,Ah,by simp [bW]⟩
 ·rintro k _ _ ⟨a,c,R,n,rfl,rfl,_⟩;exact ⟨rfl,rfl,rfl⟩
 ·rintro k _ _ hk ⟨a,c,R,n,rfl,rfl,et,hR⟩
  have hk:k < p.arrays.length:=by simpa using hk
  have hx:p.arrays[k]?=some p.arrays[k]:=by simp [hk]
  have hr:=Fx hx
  have bt:bW (p.globals++(eH p).take (k+1))=R++[[.v (sv p.arrays[k].name)]]:=by
   have:(eH p)[k]?=some p.arrays[k].name:=by rw [eH,getElem?_map,hx];rfl
   rw [take_add_one,this,hR];simp [bW]
  have qL:n<=4194304:=by
   rw [<-et,hR,oy,length_append,length_take];omega
  clear hR;unfold aB at hr;generalize p.arrays[k]=x at *;refine ae ?_;refine GL.jA 0 rfl rfl rfl rfl rfl rfl rfl rfl (by first | rfl | assumption) ⟨⟨by omega,by omega⟩,by decide⟩ ?_;intro a2 c2;refine bK ?_;refine ae ?_;exact ⟨rfl,rfl,_,_,(Wk.cut (n:=2) (Nat.zero_le _) rfl).trans (Wk.ax ao),a2,c2,_,_,rfl,rfl,by simp [et],bt.symm⟩
 ·rintro _ _ ⟨a,c,R,n,rfl,rfl,et,hR⟩;rw [length_map,show p.arrays.length=(eH p).length by simp [eH],take_length] at hR;refine aK ?_;refine ae ?_;refine GW.range (p.fns.map au).length (fun k fr Γ=>∃ a c R n,fr=[.U,.loc 1 0,.U,.v (.slice a n c),.U,.U,.U,.U,.U,.U,.U,.U,.U,.U,.U,.U,.U,.U,.U,.U,.U,.U,.U,.U,.U,.sl 3 (p.fns.map au),.v (ii ((p.fns.map au).length:Int)),.v (ii (k:Nat)),.U,.U,.U,.U,.U,.U,.U,.U,.U,.U]/\Γ=[.vech 9 1 R (.slice a n c),.box 34 (av p)]/\R.length=n/\R=bW ((p.globals++eH p)++(gX p).take k)) ?_ (by rw [length_map];omega) ?_ ?_ ?_
  ·exact ⟨_,_,Wk.ax ao,_,_,_,_,rfl,rfl,et,by rw [hR];simp⟩
  ·rintro k _ _ ⟨a,c,R,n,rfl,rfl,_⟩;exact ⟨rfl,rfl,rfl⟩
  ·rintro k _ _ hk ⟨a,c,R,n,rfl,rfl,et,hR⟩
   have hk:k < p.fns.length:=by simpa using hk
   have hx:p.fns[k]?=some p.fns[k]:=by simp [hk]
   have hr:=AO hx
   have bt:bW ((p.globals++eH p)++(gX p).take (k+1))=R++[[.v (sv p.fns[k].name)]]:=by
    have:(gX p)[k]?=some p.fns[k].name:=by rw [gX,getElem?_map,hx];rfl
    rw [take_add_one,this,hR];simp [bW]
   have qL:n<=4194304:=by
    rw [<-et,hR,oy,length_append,length_append,length_take,eH,length_map];omega
   clear hR;unfold au at hr;generalize p.fns[k]=x at *;refine ae ?_;refine GL.jA 0 rfl rfl rfl rfl rfl rfl rfl rfl (by first | rfl | assumption) ⟨⟨by omega,by omega⟩,by decide⟩ ?_;intro a2 c2;refine bK ?_;refine ae ?_;exact ⟨rfl,rfl,_,_,(Wk.cut (n:=2) (Nat.zero_le _) rfl).trans (Wk.ax ao),a2,c2,_,_,rfl,rfl,by simp [et],bt.symm⟩
  ·rintro _ _ ⟨a,c,R,n,rfl,rfl,et,hR⟩;rw [length_map,show p.fns.length=(gX p).length by simp [gX],take_length] at hR
   have qN:n=(cw p).length:=by rw [<-et,hR,oy];rfl
   subst qN;refine aK ?_;refine ae ?_
   (repeat (first | refine GW.ret ?_ | refine cr ?_ | refine cn ?_ | refine aK ?_ | refine bS ?_))
   exact o7 (n:=1) rfl (by first | exact .inr rfl | exact .inl rfl) rfl (Nat.zero_le _) rfl rfl ⟨a,c,rfl,by rw [hR];rfl⟩
end Go.Xg
set_option maxHeartbeats 4000000
namespace Go.Im
open Go.Xp Go.Sp
def wq (l:List ai) (k:Nat):Int:=if (List.range k).any (jL l)=true then 21 else 0
theorem Pk (l:List ai) (k:Nat):wq l (k+1)=if jL l k=true then fB (wq l k) 21 else wq l k:=by
 unfold wq;rw [List.range_succ,List.any_append]
 cases h:(List.range k).any (jL l) with
 | true=>simp [fB]
 | false=>simp [fB]
theorem RY (l:List ai):wq l l.length=if dT l=true then 21 else 0:=rfl
end Go.Im
namespace Go.Xg
open Go.RowKit Go.Xw Go.Proofs
open Go.Xp (Nd T Ar aO az)
open Go.Sp (Src)
open Go.Im
attribute [local irreducible] GW GL GO YG GC GA aW aZ
theorem JG (p:Src) (hw:dN p<=1048576) :
  GF Tryz.prog 130 [.loc 0 0] [.box 133 (cC p (.slice none 0 0) ⟨[],0,0⟩)] (.tup []) [.box 133 (cC p (.slice none 0 0) ⟨[],(if dT (cw p)=true then 21 else 0),0⟩)]:=by
 obtain ⟨⟨a1,a2⟩,⟨b1,b2⟩,⟨c1,c2⟩,⟨d1,d2⟩⟩:=eJ p
 have Ah:(p.globals.map fun s=>[GV.v (sv s)]).length=p.globals.length:=by simp
 have gM:lG (p.globals.map fun s=>[GV.v (sv s)])=true:=vJ p.globals;have qN:=AG p;rw [<-RY]
 have wU:=fun k=>Bq p (.slice none 0 0) (wq (cw p) k) 21
 rw [show (0:Int)=wq (cw p) 0 from rfl];unfold cC at wU |-;refine aj Tryz.func130 Tryz.ntmps130 ?_;refine lY ?_;refine ae ?_;refine lY ?_;refine ae ?_;refine GL.Vp rfl rfl rfl rfl gM (by refine ⟨?_,?_⟩;(· rw [Ah];omega);(· rw [Ah];omega)) ?_;rw [Ah];refine bZ ?_;simp only [Nat.zero_add];refine ae ?_;refine GW.range (p.arrays.map aB).length (fun k fr Γ=>∃ R n,fr=[.loc 0 0,.U,.vec 1 0,.vec 2 n,.U,.U,.U,.U,.U,.U,.U,.U,.U,.U,.U,.U,.U,.U,.U,.U,.U,.U,.sl 2 (p.arrays.map aB),.v (ii ((p.arrays.map aB).length:Int)),.v (ii (k:Nat)),.U,.U,.U,.U,.U,.U,.U,.U,.U,.U,.U,.U,.U,.U,.U,.U,.U,.U,.U,.U,.U,.U,.U,.U,.U,.U,.U,.U,.U,.U,.U,.U,.U,.U,.U,.U,.U,.U,.U,.U,.U,.U,.U,.U,.U]/\Γ=[.box 133 [strs p.globals,.sl 2 (p.arrays.map aB),.sl 3 (p.fns.map au),.sl 5 (p.nodes.map ay),.v (.slice none 0 0),.v (ii (wq (cw p) 0)),.v (ii 0)],.vec 9 1 0 [],.vec 9 1 0 R]/\R.length=n/\R=bW (p.globals++(eH p).take k)) ?_ (by rw [length_map];omega) ?_ ?_ ?_
 ·exact ⟨_,_,Wk.ax ao,_,_,rfl,rfl,Ah,by simp [bW,chunk]⟩
 ·rintro k _ _ ⟨R,n,rfl,rfl,_⟩;exact ⟨rfl,rfl,rfl⟩
 ·rintro k _ _ hk ⟨R,n,rfl,rfl,et,hR⟩
  have hk:k < p.arrays.length:=by simpa using hk
  have hx:p.arrays[k]?=some p.arrays[k]:=by simp [hk]
  have hr:=Fx hx
  have bt:bW (p.globals++(eH p).take (k+1))=R++[[.v (sv p.arrays[k].name)]]:=by
   have:(eH p)[k]?=some p.arrays[k].name:=by rw [eH,getElem?_map,hx];rfl
   rw [take_add_one,this,hR];simp [bW]
  have qL:n<=4194304:=by
   rw [<-et,hR,oy,length_append,length_take];omega
  have hb:n+1<=9223372036854775807/\(n+1) * 16<=140737488355328:=by omega
  clear hR;unfold aB at hr;generalize p.arrays[k]=x at *;refine ae ?_;refine dY ?_;refine ae ?_;exact ⟨rfl,rfl,_,_,(Wk.cut (n:=3) (Nat.le_of_ble_eq_true rfl) rfl).trans (Wk.ax ao),_,_,rfl,rfl,by simp [et],bt.symm⟩
 ·rintro _ _ ⟨R,n,rfl,rfl,et,hR⟩;rw [length_map,show p.arrays.length=(eH p).length by simp [eH],take_length] at hR;refine aK ?_;refine ae ?_;refine GW.range (p.fns.map au).length (fun k fr Γ=>∃ R n,fr=[.loc 0 0,.U,.vec 1 0,.vec 2 n,.U,.U,.U,.U,.U,.U,.U,.U,.U,.U,.U,.U,.U,.U,.U,.U,.U,.U,.U,.U,.U,.U,.U,.U,.U,.U,.U,.U,.U,.U,.U,.U,.U,.U,.sl 3 (p.fns.map au),.v (ii ((p.fns.map au).length:Int)),.v (ii (k:Nat)),.U,.U,.U,.U,.U,.U,.U,.U,.U,.U,.U,.U,.U,.U,.U,.U,.U,.U,.U,.U,.U,.U,.U,.U,.U,.U,.U,.U,.U]/\Γ=[.box 133 [strs p.globals,.sl 2 (p.arrays.map aB),.sl 3 (p.fns.map au),.sl 5 (p.nodes.map ay),.v (.slice none 0 0),.v (ii (wq (cw p) 0)),.v (ii 0)],.vec 9 1 0 [],.vec 9 1 0 R]/\R.length=n/\R=bW ((p.globals++eH p)++(gX p).take k)) ?_ (by rw [length_map];omega) ?_ ?_ ?_
  ·exact ⟨_,_,Wk.ax ao,_,_,rfl,rfl,et,by rw [hR];simp⟩
  ·rintro k _ _ ⟨R,n,rfl,rfl,_⟩;exact ⟨rfl,rfl,rfl⟩
  ·rintro k _ _ hk ⟨R,n,rfl,rfl,et,hR⟩
   have hk:k < p.fns.length:=by simpa using hk
   have hx:p.fns[k]?=some p.fns[k]:=by simp [hk]
   have hr:=AO hx
   have bt:bW ((p.globals++eH p)++(gX p).take (k+1))=R++[[.v (sv p.fns[k].name)]]:=by
    have:(gX p)[k]?=some p.fns[k].name:=by rw [gX,getElem?_map,hx];rfl
    rw [take_add_one,this,hR];simp [bW]
   have qL:n<=4194304:=by
    rw [<-et,hR,oy,length_append,length_append,length_take,eH,length_map];omega
   have hb:n+1<=9223372036854775807/\(n+1) * 16<=140737488355328:=by omega
   clear hR;unfold au at hr;generalize p.fns[k]=x at *;refine ae ?_;refine dY ?_;refine ae ?_;exact ⟨rfl,rfl,_,_,(Wk.cut (n:=3) (Nat.le_of_ble_eq_true rfl) rfl).trans (Wk.ax ao),_,_,rfl,rfl,by simp [et],bt.symm⟩
  ·rintro _ _ ⟨R,n,rfl,rfl,et,hR⟩;rw [length_map,show p.fns.length=(gX p).length by simp [gX],take_length] at hR;have hR:R=bW (cw p):=hR
   have mI:R.length=(cw p).length:=by rw [hR,oy]
   have TP:n=R.length:=et.symm;subst TP;refine aK ?_;refine GW.wk (Wk.iv (t:=3) rfl rfl rfl rfl) ?_;refine GW.wk (Wk.cut (n:=2) (Nat.le_of_ble_eq_true rfl) rfl) ?_;refine GW.Li (bV:=[.loc 0 0,.U,.vec 1 0,.sl 1 R,.U,.U,.U,.U,.U,.U,.U,.U,.U,.U,.U,.U,.U,.U,.U,.U,.U,.U,.U,.U,.U,.U,.U,.U,.U,.U,.U,.U,.U,.U,.U,.U,.U,.U,.U,.U,.U,.U,.U,.U,.U,.U,.U,.U,.U,.U,.U,.U,.U,.U,.U,.U,.U,.U,.U,.U,.U,.U,.U,.U,.U,.U,.U,.U,.U,.U]) (aJ:=[.box 133 [strs p.globals,.sl 2 (p.arrays.map aB),.sl 3 (p.fns.map au),.sl 5 (p.nodes.map ay),.v (.slice none 0 0),.v (ii (wq (cw p) 0)),.v (ii 0)],.vec 9 1 0 []]) ao rfl ?_;refine ae ?_;refine GW.range R.length (fun k fr Γ=>∃ S n fz,fr=[.loc 0 0,.U,.vec 1 n,.U,.U,.U,.U,.U,.U,.U,.U,.U,.U,.U,.U,.U,.U,.U,.U,.U,.U,.U,.U,.U,.U,.U,.U,.U,.U,.U,.U,.U,.U,.U,.U,.U,.U,.U,.U,.U,.U,.U,.U,.U,.U,.U,.U,.U,.U,.U,.sl 1 R,.v (ii (R.length:Int)),.v (ii (k:Nat)),.U,.U,.U,.U,.U,.U,.U,.U,.U,.U,.U,.U,.U,.U,.U,.U,.U]/\Γ=[.box 133 [strs p.globals,.sl 2 (p.arrays.map aB),.sl 3 (p.fns.map au),.sl 5 (p.nodes.map ay),.v (.slice none 0 0),.v (ii (wq (cw p) k)),.v (ii 0)],.vec 9 1 fz S]/\S.length=n/\S=bW ((cw p).take k)) ?_ ah ?_ ?_ ?_
   ·exact ⟨_,_,Wk.ax ao,_,_,_,rfl,rfl,rfl,by simp [bW]⟩
   ·rintro k _ _ ⟨S,n,fz,rfl,rfl,_⟩;exact ⟨rfl,rfl,rfl⟩
   ·rintro k _ _ hk ⟨S,n,fz,rfl,rfl,eO,hS⟩;rw [mI] at hk;obtain ⟨x,hx⟩:∃ x,(cw p)[k]?=some x:=⟨(cw p)[k],by simp [hk]⟩
    have QF:R[k]?=some [.v (sv x)]:=by rw [hR,bW,getElem?_map,hx];rfl
    have bt:bW ((cw p).take (k+1))=S++[[.v (sv x)]]:=by rw [take_add_one,hx,hS];simp [bW]
    have qL:n<=8388608:=by rw [<-eO,hS,oy,length_take];omega
    have hb:n+1<=9223372036854775807/\(n+1) * 16<=140737488355328:=by omega
    have hd:jL (cw p) k=(lC x || ((cw p).take k).contains x):=by unfold jL;rw [hx]
    have LQ:=JH x
    have hL:GF Tryz.prog 74 [.sl 1 S,.v (sv x)] [] (.v (.bool (((cw p).take k).contains x))) []:=by
     rw [hS];exact iP ((cw p).take k) x (by rw [length_take];omega)
    have hF:=wU k;rw [Pk];clear hS hR mI;generalize wq (cw p) k=cd at *;generalize jL (cw p) k=bn at *
    cases h1:lC x with
    | true =>
     rw [h1] at LQ hd;subst hd;rw [if_pos (by simp)];refine ae ?_;refine ab [] (LQ) ?_;refine ab [0] (hF) ?_;refine dY ?_;refine ae ?_;exact ⟨rfl,rfl,_,_,Wk.ax ao,_,_,_,rfl,rfl,by simp [eO],bt.symm⟩
    | false =>
     rw [h1] at LQ hd
     cases h2:((cw p).take k).contains x with
     | true =>
      rw [h2] at hL hd;subst hd;rw [if_pos (by simp)];refine ae ?_;refine ab [] (LQ) ?_;refine GL.wk (Wk.iv (t:=59) rfl rfl rfl eO) ?_;refine bK ?_;refine ae ?_;refine ab [] (hL) ?_;refine ab [0] (hF) ?_;refine dY ?_;refine ae ?_;exact ⟨rfl,rfl,_,_,Wk.ax ao,_,_,_,rfl,rfl,by simp [eO],bt.symm⟩
     | false =>
      rw [h2] at hL hd;subst hd;rw [if_neg (by simp)];refine ae ?_;refine ab [] (LQ) ?_;refine GL.wk (Wk.iv (t:=59) rfl rfl rfl eO) ?_;refine bK ?_;refine ae ?_;refine ab [] (hL) ?_;refine dY ?_;refine ae ?_;exact ⟨rfl,rfl,_,_,Wk.ax ao,_,_,_,rfl,rfl,by simp [eO],bt.symm⟩
   ·rintro _ _ ⟨S,n,fz,rfl,rfl,eO,hS⟩;rw [mI];exact fO
end Go.Xg
namespace Go.Xg
open Go.RowKit Go.Xw Go.Proofs
open Go.Xp (Nd T Ar aO az)
open Go.Sp (Src)
open Go.Im
attribute [local irreducible] GW GL GO YG GC GA aW aZ
theorem HX (p:Src) (c z:Int) (h:GF Tryz.prog 97 [.agg (av p)] [] (.tup [.v (ii c),.v (ii z)]) []):GF Tryz.prog 39 [.agg (av p)] [] (.v (.bool (c==0))) []:=by
 refine aj Tryz.func39 Tryz.ntmps39 ?_;refine ab [] (h) ?_;exact aq
end Go.Xg
namespace Go.Im
open Go.Xp Go.Sp
def mJ (p:Src) (fn:Int):Bool:=(gP p&&decide ((0:Int)<=fn))&&decide (fn < (p.fns.length:Int))
end Go.Im
namespace Go.Xg
open Go.RowKit Go.Xw Go.Proofs
open Go.Xp (Nd T Ar aO az cx)
open Go.Sp (Src)
open Go.Im
attribute [local irreducible] GW GL GO YG GC GA aW aZ
theorem Iy {l:List T} {t:T} (h:t∈l):aO t<=az l:=by
 obtain ⟨k,hk⟩:=List.getElem?_of_mem h;have:=sI hk;omega
theorem Ed {p:Src} (h:fI p=false):gP p=false:=by unfold gP;rw [h];rfl
theorem CA {p:Src} {l:List T} (h:fI p=true) (hl:fy p l):gP p=((Cr p l).1==0):=by
 unfold gP;rw [h,hl.DS];simp only [Bool.true_and];rfl
theorem HE (p:Src) (hw:dN p<=1048576) (hn:ra p):GF Tryz.prog 45 [.agg (av p)] [] (.v (.bool (gP p))) []:=by
 obtain ⟨⟨a1,a2⟩,⟨b1,b2⟩,⟨c1,c2⟩,⟨d1,d2⟩⟩:=eJ p;have hF:=Kw p hw hn
 cases hf:fI p with
 | false =>
  rw [hf] at hF;have:=LI p _ _ (Kp p hF);rw [Ed hf];exact this
 | true =>
  rw [hf] at hF;obtain ⟨l,hl⟩:=sX hf;have hlen:=fj.len hl.fns;have qN:=AG p;have iU:=Ck hl
  have hc:=IP p l (cw p) ah hlen ah hF (I0 p hw) (Nn p ah ah fun a ha=>⟨(iU a ha).1,by have:=(iU a ha).2;omega⟩) fun i f t h1 h2=>by
   obtain ⟨e1,_⟩:=fj.at_ hl.fns i f t h1 h2;have h7:=dj.ix l 0 i _ hl.st h2;rw [Nat.zero_add] at e1 h7
   have hb:f.body.toNat=az (l.take i):=by rw [e1,Int.toNat_natCast]
   have hz:=Iy (mem_of_getElem? h2);have:=hl.len;have:=Lt p i f t ah (fun n h=>by have:=(d2 n h).2;omega) ah ah ah h1 (by have:=(c2 f (mem_of_getElem? h1)).2.1;omega) ah (by rw [hb];exact h7) ah;rw [hb] at this;exact this
  rw [CA hf hl];exact LI p _ _ hc
theorem Bz (p:Src) (hw:dN p<=1048576):GF Tryz.prog 39 [.agg (av p)] [] (.v (.bool (gP p))) []:=by
 obtain ⟨⟨a1,a2⟩,⟨b1,b2⟩,⟨c1,c2⟩,⟨d1,d2⟩⟩:=eJ p;have hF:=Ku p hw
 cases hf:fI p with
 | false =>
  rw [hf] at hF;have:=HX p _ _ (Ko p hF);rw [Ed hf];exact this
 | true =>
  rw [hf] at hF;obtain ⟨l,hl⟩:=sX hf;have hlen:=fj.len hl.fns;have iU:=Ck hl
  have Ug:∀ a∈p.arrays,0<=a.size/\a.size<=2147483648:=fun a ha=>⟨(iU a ha).1,by have:=(iU a ha).2;omega⟩
  obtain ⟨ls,hm⟩:=hl.Jd
  have hS:=fun k=>EU p (.slice none 0 0) k ah Ug fun h=>Dr p (.slice none 0 0) k ah ah Ug h
  have hle:=hl.len
  have hc:=IM p l _ _ hlen ah ah ah (fun f h=>by have:=(c2 f h).2.1;omega) (fun t ht=>by have:=Iy ht;omega) hF (JG p hw) (hS _) fun i f t h1 h2=>by
   obtain ⟨e1,_⟩:=fj.at_ hl.fns i f t h1 h2;have h7:=dj.ix l 0 i _ hl.st h2;rw [Nat.zero_add] at e1 h7;rw [e1];exact DC p (fun n h=>by have:=(d2 n h).2;omega) _ _ t ((uU _).1 t _ h7 (Nat.le_refl _))
  have:=HX p _ _ hc;have hs:=SO (p:=p) (l:=l) (fun a ha=>(iU a ha).1) (fun t ht=>by obtain ⟨i,hi⟩:=List.getElem?_of_mem ht;exact (hm.wf hi).1)
  have e:((KU p l).code==0)=gP p:=by
   rw [CA hf hl]
   by_cases h0:(Cr p l).1=0
   ·rw [h0,hs.1 h0]
   ·have h1:(KU p l).code≠0:=fun e=>h0 (hs.2 e)
    rw [show ((Cr p l).1==0)=false by simpa using h0,show ((KU p l).code==0)=false by simpa using h1]
  rw [<-e];exact this
theorem OH (p:Src) (fn:Int) (hw:dN p<=1048576) (hn:ra p):GF Tryz.prog 55 [.agg (av p),.v (ii fn)] [] (.v (.bool (mJ p fn))) []:=by
 obtain ⟨⟨a1,a2⟩,⟨b1,b2⟩,⟨c1,c2⟩,⟨d1,d2⟩⟩:=eJ p;have h:=RJ p fn _ _ ah (HE p hw hn) (P2 fn 0 _)
 have e:mJ p fn=((decide ((0:Int)<=fn)&&decide (fn<=(((p.fns.map au).length:Int) - 1)))&&gP p):=by
  unfold mJ;rw [show decide (fn<=(((p.fns.map au).length:Int) - 1))=decide (fn < (p.fns.length:Int)) by rw [length_map];apply decide_eq_decide.2;omega]
  cases gP p <;> cases decide ((0:Int)<=fn) <;> cases decide (fn < (p.fns.length:Int)) <;> rfl
 rw [e];exact h
end Go.Xg
namespace Go.Im
open Go.Xp Go.Sp
end Go.Im
namespace Go.Xg
open Go.RowKit Go.Xw Go.Proofs
open Go.Xp (Nd T Ar aO az cx)
open Go.Sp (Src)
open Go.Im
attribute [local irreducible] GW GL GO YG GC GA aW aZ
theorem U3 (p:Src) (hk:∀ n∈p.nodes,n.kids.length<=1000000000000) (f:Go.Sp.Fn) (t:T) (hb:0<=f.body) (b6:eg p.nodes f.body.toNat t):GF Tryz.prog 99 [.agg (av p),.v (ii f.body)] [] (.agg (cT t)) []:=by
 have:=DC p hk _ _ t ((uU _).1 t _ b6 (Nat.le_refl _))
 rwa [Int.toNat_of_nonneg hb] at this
end Go.Xg
namespace Go.Im
open Go.Xp Go.Sp
theorem Good.DS {p:Src} {l:List T} (h:Good p l):ir p.nodes p.fns 0 []=some (l,p.nodes.length):=h.st.DS
structure qD (p:Src) (l:List T) (i:Nat) (f:Go.Sp.Fn) (t:T):Prop where
 good:Good p l
 gf:p.fns[i]?=some f
 gt:l[i]?=some t
 ok:Ij p t f.params
 wf:gh t
 z:zT t
 st:eg p.nodes f.body.toNat t
 body:0<=f.body
 sz:aO t<=800
theorem Good.fn {p:Src} {l:List T} (h:Good p l) {i:Nat} {f:Go.Sp.Fn} {t:T} (e1:p.fns[i]?=some f) (e2:l[i]?=some t):qD p l i f t:=by
 obtain ⟨a1,a2,a3,a4,a5⟩:=h.at_ _ _ _ e1 e2;refine ⟨h,e1,e2,a1,a2,a3,a4,a5,?_⟩;have:=h.st.few;have:=a4.le;omega
theorem RL {p:Src} {fn:Int} (h:mJ p fn=true):∃ (i:Nat) (l:List T) (f:Go.Sp.Fn) (t:T),fn=(i:Int)/\qD p l i f t:=by
 unfold mJ at h;simp only [Bool.and_eq_true,decide_eq_true_eq] at h;obtain ⟨⟨h1,h2⟩,h3⟩:=h;obtain ⟨l,hl⟩:=xS h1;have hlen:=hl.len
 have hi:fn.toNat < p.fns.length:=by omega
 have e1:p.fns[fn.toNat]?=some p.fns[fn.toNat]:=List.getElem?_eq_getElem _;have e2:l[fn.toNat]?=some (l[fn.toNat]'(by omega)):=List.getElem?_eq_getElem _;obtain ⟨a1,a2,a3,a4,a5⟩:=hl.at_ _ _ _ e1 e2;refine ⟨fn.toNat,l,_,_,by omega,hl,e1,e2,a1,a2,a3,a4,a5,?_⟩;have:=hl.st.few;have:=a4.le;omega
end Go.Im
namespace Go.Xg
open Go.RowKit Go.Xw Go.Proofs
open Go.Xp (Nd T Ar aO az cx)
open Go.Sp (Src)
open Go.Im
attribute [local irreducible] GW GL GO YG GC GA aW aZ
theorem CE {p:Src} {fn:Int} (h:mJ p fn=true):gP p=true:=by
 unfold mJ at h;simp only [Bool.and_eq_true,decide_eq_true_eq] at h;exact h.1.1
end Go.Xg
namespace Go.Im
open Go.Xp Go.Sp
theorem Rk (p:Src) (s:List Int) (a:Nat) (t:T) (ls:List ai):(fa p s a t ls).length<=s.length+1:=by
 unfold fa;rw [length_append];have:=Bm p t.n;omega
end Go.Im
namespace Go.Xg
open Go.RowKit Go.Xw Go.Proofs
open Go.Xp (Nd T Ar aO az)
open Go.Sp (Src)
open Go.Im
attribute [local irreducible] GW GL GO YG GC GA aW aZ
theorem Su (p:Src) (a:Nat) (n:Nd) (l:List T) (ls:List ai) (s:List Int) (E1:TypeId) (eb:Option Addr) (ec:Nat) (ad:Option Addr) (cp:Nat) (hn:p.nodes[a]?=some n) (gH:p.fns.length<=1099511627776) (hs:s.length<=1048576000) :
  GC Tryz.prog 104 [.v (ii (a:Nat)),.v (.slice ad ls.length cp),.box (av p) 0,.loc 0 0] [.box E1 [.v (.slice eb s.length ec)],.vech 3 1 (bp s) (.slice eb s.length ec),.vech 9 1 (bW ls) (.slice ad ls.length cp)] fun g Δ=>g=.tup []/\∃ vY vZ,
   Δ=[.box E1 [.v (.slice vY (fa p s a (.mk n l) ls).length vZ)],.vech 3 1 (bp (fa p s a (.mk n l) ls)) (.slice vY (fa p s a (.mk n l) ls).length vZ),.vech 9 1 (bW ls) (.slice ad ls.length cp)]:=by
 have hr:=jw hn;have tf:=c8 s;have hA:=Ls p n.s gH;have e0:cJ (fun x:Go.Sp.Fn=>x.name==n.s) p.fns=np p n.s:=rfl;rw [e0] at hA;have e:fa p s a (.mk n l) ls=s++(if n.kind=4/\0<=np p n.s then [np p n.s] else []):=rfl;rw [e];unfold ay at hr;generalize np p n.s=z at *
 cases h1:(n.kind==4) with
 | false =>
  rw [if_neg (fun h=>by rw [h.1] at h1;cases h1),append_nil];refine aj Tryz.func104 Tryz.ntmps104 ?_;refine aE (aH [0,1,2,3,4,5,6] (.a 7 (.q 8 .nil))) ?_;refine ak ?_;refine aC [] (hA) ?_;refine ae ?_;refine cM ?_;exact ⟨rfl,eb,ec,rfl⟩
 | true =>
  cases h2:decide ((0:Int)<=z) with
  | false =>
   rw [if_neg (fun h=>by have:=of_decide_eq_false h2;exact this h.2),append_nil];refine aj Tryz.func104 Tryz.ntmps104 ?_;refine aE (aH [0,1,2,3,4,5,6] (.a 7 (.q 8 .nil))) ?_;refine ak ?_;refine aC [] (hA) ?_;refine ae ?_;refine cM ?_;exact ⟨rfl,eb,ec,rfl⟩
  | true =>
   rw [if_pos ⟨by simpa using h1,by simpa using h2⟩];refine aj Tryz.func104 Tryz.ntmps104 ?_;refine aE (aH [0,1,2,3,4,5,6] (.a 7 (.q 8 .nil))) ?_;refine ak ?_;refine aC [] (hA) ?_;refine ae ?_;refine GL.jA 1 rfl rfl rfl rfl rfl rfl rfl rfl (by first | rfl | assumption) ⟨⟨by omega,by omega⟩,by decide⟩ ?_;intro rT rX;refine bK ?_;refine ae ?_;refine cM ?_;exact ⟨rfl,rT,rX,by simp [bp]⟩
end Go.Xg
namespace Go.Xg
open Go.RowKit Go.Xw Go.Proofs
open Go.Xp (Nd T Ar aO az dQ)
open Go.Sp (Src)
open Go.Im
attribute [local irreducible] GW GL GO YG GC GA aW aZ
def F0 (p:Src):GV:=.fn (.func 104) [] [.box (av p) 0,.loc 0 0]
def Q2 (p:Src):GV:=.fn (.func 127) [] [.loc 2 0,.loc 3 0,.box (av p) 0,.loc 4 0]
def QY (E1:TypeId) (s:List Int) (eb:Option Addr) (ec:Nat):List Ob:=[.box E1 [.v (.slice eb s.length ec)],.vech 3 1 (bp s) (.slice eb s.length ec)]
def C5 (p:Src) (E1 E2 E3 E4:TypeId) (s:List Int) (ls:List ai) (ad:Option Addr) (cp:Nat) (eb:Option Addr) (ec:Nat):List Ob :=
 [.box E1 [.v (.slice eb s.length ec)],.vech 3 1 (bp s) (.slice eb s.length ec),.box E2 [F0 p],.box E3 [.v (.slice ad ls.length cp)],.box E4 [Q2 p],.vech 9 1 (bW ls) (.slice ad ls.length cp)]
theorem PZ (p:Src) (E1 E2 E3 E4:TypeId) (hp:p.nodes.length<=1048576) (eW:∀ n∈p.nodes,n.kids.length<=1099511627776) (gH:p.fns.length<=1099511627776):∀ (N:Nat) (t:T),aO t<=N->∀ (a:Nat) (s:List Int) (ls:List ai) (ad:Option Addr) (cp:Nat) (eb:Option Addr) (ec:Nat),eg p.nodes a t->ls.length+aO t<=8388608->s.length+aO t<=8388608 ->
  GC Tryz.prog 127 [.v (ii (a:Nat)),.loc 2 0,.loc 3 0,.box (av p) 0,.loc 4 0] (C5 p E1 E2 E3 E4 s ls ad cp eb ec) fun g Δ=>g=.tup []/\∃ pG pI vY vZ,Δ=C5 p E1 E2 E3 E4 (ij (fa p) t a s ls).1 (ij (fa p) t a s ls).2 pG pI vY vZ:=by
 intro N
 induction N with
 | zero=>intro t h;have:=jN t;omega
 | succ N ih =>
 intro t hN a s ls ad cp eb ec b6 lP pP
 cases t with
 | mk n l =>
 rw [Go.Xp.aO] at hN lP pP;have Ud:=b6;rw [eg] at b6;obtain ⟨hn,hk,tf⟩:=b6;rw [ij];have hr:=jw hn;have nY:=eW n (mem_of_getElem? hn);have ht:=Su p a n l ls s E1 eb ec ad cp hn gH ah;have aaB:((fa p) s a (.mk n l) ls).length<=s.length+1:=Rk _ _ _ _ _;generalize fF:(fa p) s a (.mk n l) ls=s1 at *
 have Ak:n.kids.length=l.length:=by rw [hk,dQ]
 unfold ay at hr;unfold C5 F0 Q2;refine aj Tryz.func127 Tryz.ntmps127 ?_;refine GL.vd [0,1,5] ht rfl rfl rfl (by repeat (first | exact trivial | refine ⟨rfl,?_⟩)) ?_;rintro _ _ ⟨rfl,eb,ec,rfl⟩;refine ct ?_;refine ae ?_;refine GW.range (n.kids.map fun i=>[GV.v (ii i)]).length (fun k fr Γ=>∃ pG pI vY vZ,fr=[.v (ii (a:Nat)),.loc 2 0,.loc 3 0,.box (av p) 0,.loc 4 0,.U,.U,.U,.U,.U,.U,.U,.U,.U,.U,.U,.U,ints n.kids,.v (ii ((n.kids.map fun i=>[GV.v (ii i)]).length:Int)),.v (ii (k:Nat)),.U,.U,.U,.U,.U,.U,.U,.U,.U,.U,.U,.U,.U,.U,.U,.U,.U,.U,.U,.U,.U,.U,.U]/\Γ=C5 p E1 E2 E3 E4 (dP (fa p) (l.take k) (a+1) s1 ls).1 (dP (fa p) (l.take k) (a+1) s1 ls).2 pG pI vY vZ) ?_ (by rw [length_map];omega) ?_ ?_ ?_
 ·exact ⟨_,_,Wk.ax ao,ad,cp,eb,ec,rfl,rfl⟩
 ·rintro k _ _ ⟨ad,cp,eb,ec,rfl,rfl⟩;exact ⟨rfl,rfl,rfl⟩
 ·rintro k _ _ ar ⟨ad,cp,eb,ec,rfl,rfl⟩;rw [length_map,Ak] at ar;obtain ⟨u,hu⟩:∃ u,l[k]?=some u:=⟨l[k],by simp [ar]⟩;have kU:=xk (n:=a+1) hu;rw [<-hk] at kU;have wh:=oQ kU;have cK:=sI hu;have Ue:eg p.nodes (a+1+az (l.take k)) u:=dj.ix l (a+1) k u tf hu
  have hlen:(dP (fa p) (l.take k) (a+1) s1 ls).2.length<=ls.length+az (l.take k):=by
   rw [pZ,length_append];have:=tF (l.take k);omega
  have Jo:(dP (fa p) (l.take k) (a+1) s1 ls).1.length<=s1.length+az (l.take k):=by
   rw [D3,length_append];have:=DW p (l.take k);omega
  rw [D2 _ hu];generalize (dP (fa p) (l.take k) (a+1) s1 ls).1=s2 at *;generalize (dP (fa p) (l.take k) (a+1) s1 ls).2=ls2 at *;have hv:=ih u ah (a+1+az (l.take k)) s2 ls2 ad cp eb ec Ue ah ah;unfold C5 F0 Q2 at hv |-;refine ae ?_;refine GL.vd [0,1,2,3,4,5] hv rfl rfl rfl (by repeat (first | exact trivial | refine ⟨rfl,?_⟩)) ?_;rintro _ _ ⟨rfl,pG,pI,vY,vZ,rfl⟩;refine ct ?_;refine ae ?_;exact ⟨rfl,rfl,_,_,Wk.ax ao,pG,pI,vY,vZ,rfl,rfl⟩
 ·rintro _ _ ⟨ad,cp,eb,ec,rfl,rfl⟩;rw [length_map,Ak,take_length]
  have hlen:(dP (fa p) l (a+1) s1 ls).2.length<=ls.length+az l:=by
   rw [pZ,length_append];have:=tF l;omega
  generalize (dP (fa p) l (a+1) s1 ls).1=s2 at *;generalize (dP (fa p) l (a+1) s1 ls).2=ls2 at *;have QA:(bW ls2).length=ls2.length:=uS ls2;unfold C5 F0 Q2;refine aK ?_
  cases hv:(n.kind==13) with
  | false =>
   rw [if_neg (by simpa using hv)];refine ae ?_;refine cM ?_;exact ⟨rfl,ad,cp,eb,ec,rfl⟩
  | true =>
   rw [if_pos (by simpa using hv)];refine ae ?_;refine aE (aH [0,1,2,3,4,5,6] (.a 7 (.a 8 (.a 9 .nil)))) ?_;refine ak ?_;refine eE ?_;refine ak ?_;refine OA rfl rfl (GL.pW 5 (news:=[[.v (sv n.s)]]) rfl rfl rfl (by first | rfl | assumption) rfl rfl (by refine ⟨?_,?_⟩;(· show _+1<=_;omega);(· show (_+1) * _<=_;omega)) ?_);intro rT rX;refine dB ?_;refine ak ?_;refine ae ?_;refine cM ?_;exact ⟨rfl,rT,rX,eb,ec,by simp [bW]⟩
theorem Rr (p:Src) (E1:TypeId) (i:Nat) (f:Go.Sp.Fn) (t:T) (s:List Int) (eb:Option Addr) (ec:Nat) (hp:p.nodes.length<=1048576) (eW:∀ n∈p.nodes,n.kids.length<=1099511627776) (gH:p.fns.length<=1099511627776)
  (hf:p.fns[i]?=some f) (xa:f.params.length<=1048576) (hb:0<=f.body) (b6:eg p.nodes f.body.toNat t) (cK:aO t<=1048576) (hs:s.length+aO t<=8388608) :
  GC Tryz.prog 88 [.agg (av p),.v (ii (i:Nat)),F0 p] (QY E1 s eb ec) fun g Δ=>g=.tup []/\∃ vY vZ,Δ=QY E1 (ij (fa p) t f.body.toNat s f.params).1 vY vZ:=by
 have hr:(p.fns.map au)[i]?=some (au f):=by rw [getElem?_map,hf];rfl
 have cE:(f.params.map fun s=>[GV.v (sv s)]).length=f.params.length:=by simp
 have gM:=Fl f.params;obtain ⟨b,wY⟩:∃ b:Nat,f.body=(b:Int):=⟨f.body.toNat,by omega⟩;rw [wY,Int.toNat_natCast] at b6 |-;unfold au at hr;rw [wY] at hr;unfold F0 QY;refine da Tryz.func88 Tryz.ntmps88 ?_;refine iN ?_;refine GL.wk (Wk.freeze (i:=2) rfl rfl rfl (Nat.le_refl _)) ?_;refine GN (by simp only [nK,mG];rfl) ?_;refine GL.wk (Wk.ax (bV:=[.U,.v (ii (i:Nat)),.U,.box (av p) 0,.U,.loc 3 0,.U,.U,.U,.U,.U,.U,.U,strs f.params,.U,.U,.U,.U,.U,.U,.U,.U,.U,.U]) ao) ?_;refine GL.wk (Wk.mP 9 1) ?_;refine GL.Du 4 rfl rfl rfl rfl gM (by refine ⟨?_,?_⟩;(· rw [cE];omega);(· rw [cE];omega)) ?_;intro ad cp;rw [cE];refine bZ ?_;simp only [nil_append,length_nil,Nat.zero_add];refine ae ?_;refine GW.Li (bV:=[.U,.v (ii (i:Nat)),.U,.box (av p) 0,.U,.loc 3 0,.loc 5 0,.loc 6 0,.U,.U,.U,.U,.U,.U,.U,.U,.U,.U,.U,.U,.U,.U,.U,.U]) (aJ:=[.box E1 [.v (.slice eb s.length ec)],.vech 3 1 (bp s) (.slice eb s.length ec),.gone,.box _ [.fn (.func 104) [] [.box (av p) 0,.loc 0 0]],.vech 9 1 (bW f.params) (.slice ad f.params.length cp),.box _ [.v (.slice ad f.params.length cp)],.box _ [.fn (.func 127) [] [.loc 3 0,.loc 5 0,.box (av p) 0,.loc 6 0]]]) ao rfl ?_;refine aE (aH [0,1,2,3,4,5,6] (.a 7 .nil)) ?_;refine ak ?_;have hv:=PZ p E1;refine OA rfl rfl (GL.vd [0,1,3,5,6,4] (hv _ _ _ hp eW gH _ t (Nat.le_refl _) b s f.params ad cp eb ec b6 ah hs) rfl rfl rfl (by repeat (first | exact trivial | refine ⟨rfl,?_⟩)) ?_);rintro _ _ ⟨rfl,pG,pI,vY,vZ,rfl⟩;refine ⟨by simp [C5],?_⟩;unfold C5;refine dB ?_;refine ak ?_;refine ae ?_;refine cM ?_;exact ⟨rfl,vY,vZ,rfl⟩
end Go.Xg
namespace Go.Im
open Go.Xp Go.Sp
def pJ (p:Src) (l:List T) (x:Int):List Int:=match l[x.toNat]? with | some t=>bq p t | none=>[]
theorem Rq (p:Src) (l:List T) (x:Int):∀ y∈pJ p l x,0<=y/\y < (p.fns.length:Int):=by
 intro y hy;unfold pJ at hy;split at hy
 ·exact nS p _ y hy
 ·simp at hy
structure Trail (p:Src) (L:List Int):Prop where
 nodup:L.Nodup
 rng:∀ y∈L,0<=y/\y < (p.fns.length:Int)
theorem Trail.len {p:Src} {L:List Int} (h:Trail p L):L.length<=p.fns.length:=MQ h.nodup h.rng
theorem Trail.add {p:Src} {L ks:List Int} (h:Trail p L) (hk:∀ y∈ks,0<=y/\y < (p.fns.length:Int)):Trail p (ef L ks) :=
 ⟨zR h.nodup,fun y hy=>by
  rcases DN.1 hy with h1 | h1
  ·exact h.rng y h1
  ·exact hk y h1⟩
def nI (p:Src) (l:List T) (L:List Int):List Int:=ud (pJ p l) (p.fns.length+1) 0 L
theorem DP {cs:Int->List Int} {f i:Nat} {L:List Int} {x:Int} (h:L[i]?=some x):ud cs (f+1) i L=ud cs f (i+1) (ef L (cs x)):=by rw [ud,h]
theorem DQ {cs:Int->List Int} {f i:Nat} {L:List Int} (h:L.length<=i):ud cs f i L=L:=by
 cases f with
 | zero=>rfl
 | succ f=>rw [ud,List.getElem?_eq_none h]
theorem Bf {p:Src} {l:List T}:∀ (f i:Nat) (L:List Int),Trail p L->Trail p (ud (pJ p l) f i L)
 | 0,i,L,h=>h
 | f+1,i,L,h=>by
  rw [ud];split
  ·exact h
  ·exact Bf f (i+1) _ (h.add (Rq p l _))
end Go.Im
namespace Go.Xg
open Go.RowKit Go.Xw Go.Proofs
open Go.Xp (Nd T Ar aO az)
open Go.Sp (Src)
open Go.Im
attribute [local irreducible] GW GL GO YG GC GA aW aZ
theorem Pn (l:List Int):lG (l.map fun i=>[GV.v (ii i)])=true:=by
 induction l with
 | nil=>rfl
 | cons s l ih=>rw [List.map_cons,lG,ih];rfl
theorem Bj (p:Src) (hw:dN p<=1048576) {l:List T} {i:Nat} {f:Go.Sp.Fn} {t:T} (h:qD p l i f t) :
  GF Tryz.prog 46 [.agg (av p),.v (ii (i:Nat))] [] (ints (bq p t)) []:=by
 obtain ⟨⟨a1,a2⟩,⟨b1,b2⟩,⟨c1,c2⟩,⟨d1,d2⟩⟩:=eJ p;have cK:=h.sz;have Eo:=KY p _ t (Nat.le_refl _)
 have hE:=fun eb ec=>Rr p 40 i f t [] eb ec ah (fun n hn=>by have:=(d2 n hn).2;omega) ah h.gf (by have:=(c2 f (mem_of_getElem? h.gf)).2.1;omega) h.body h.st ah (by show 0+_<=_;omega)
 rw [Qh,nil_append] at hE;obtain ⟨e1,e2⟩:=SR (nT p t)
 have hS:=fun a c=>KD (nT p t) 3 a c ah
 have hC:=fun a c=>Kq (fZ (nT p t)) 3 a c (by rw [mT];omega) e2
 rw [e1] at hC;rw [mT] at hC;unfold F0 QY at hE;unfold bq;generalize n9 (nT p t)=rr at *;generalize fZ (nT p t)=ss at *;refine da Tryz.func46 Tryz.ntmps46 ?_;refine GW.wk (Wk.mP 3 1) ?_;simp only [nil_append];refine iN ?_;refine GL.wk (Wk.freeze (i:=1) rfl rfl rfl (Nat.zero_le _)) ?_;refine bZ ?_;refine ae ?_;refine bO [2,0] (hE none 0) ?_;rintro _ _ ⟨rfl,eb,ec,rfl⟩;refine ct ?_;refine ae ?_;refine ab [0] (hS eb ec) ?_;refine bO [0] (hC eb ec) ?_;rintro _ _ ⟨rfl,fz,S,rfl⟩;refine ct ?_;exact aw
theorem K7 (p:Src) (hw:dN p<=1048576) {l:List T} (hg:Go.Im.Good p l) (L0:List Int) (hL:Trail p L0) :
  GF Tryz.prog 69 [.agg (av p),ints L0] [] (ints (fZ (nI p l L0))) []:=by
 obtain ⟨⟨a1,a2⟩,⟨b1,b2⟩,⟨c1,c2⟩,⟨d1,d2⟩⟩:=eJ p;have hlen:=hg.len;have ux:=hL.len
 have cE:(L0.map fun i=>[GV.v (ii i)]).length=L0.length:=by simp
 have gM:=Pn L0;obtain ⟨N,hN⟩:∃ N,p.fns.length=N:=⟨_,rfl⟩;refine da Tryz.func69 Tryz.ntmps69 ?_;refine GW.wk (Wk.mP 3 1) ?_;simp only [nil_append];refine ae ?_;refine GL.Du 0 rfl rfl rfl rfl gM (by refine ⟨?_,?_⟩;(· rw [cE];omega);(· rw [cE];omega)) ?_;intro ad cp;rw [cE];refine bZ ?_;simp only [nil_append,length_nil,Nat.zero_add];refine ae ?_;refine GW.loop (fun s:Nat × List Int=>N - s.1) (fun s fr Γ=>∃ a c n S,fr=[.U,.U,.loc 1 0,.U,.U,.v (.slice a n c),.v (ii (s.1:Nat)),.U,.U,.U,.U,.U,.U,.U,.U,.U,.U,.U,.U,.U,.U,.U,.U,.U,.U,.U,.U,.U,.U,.U,.U,.U,.U,.U,.U,.U,.U,.U,.U,.U]/\Γ=[.vech 3 1 S (.slice a n c),.box 34 (av p)]/\S.length=n/\S=bp s.2/\Trail p s.2/\s.1<=s.2.length/\ud (pJ p l) (N+1 - s.1) s.1 s.2=nI p l L0) (0,L0) ?_ ?_
 ·exact ⟨_,_,Wk.ax ao,ad,cp,_,_,rfl,rfl,cE,rfl,hL,Nat.zero_le _,by rw [<-hN];rfl⟩
 rintro ⟨i,L⟩ _ _ ⟨a,c,n,S,rfl,rfl,eO,hS,hW,hi,he⟩;simp only at hS hW hi he;have pb:=hW.len
 have qN:n=L.length:=by rw [<-eO,hS,c8]
 by_cases ar:i < L.length
 ·have hd:decide ((i:Int) < (n:Int))=true:=decide_eq_true ah;obtain ⟨x,hx⟩:∃ x,L[i]?=some x:=⟨L[i],by simp [ar]⟩
  have ZG:S[i]?=some [.v (ii x)]:=by rw [hS];unfold bp;rw [getElem?_map,hx];rfl
  have qP:=hW.rng x (mem_of_getElem? hx);obtain ⟨j,hj⟩:∃ j:Nat,x=(j:Int):=⟨x.toNat,by omega⟩;subst hj
  have se:j < p.fns.length:=by omega
  obtain ⟨f,hf⟩:∃ f,p.fns[j]?=some f:=⟨p.fns[j],by simp [se]⟩;obtain ⟨t,ht⟩:∃ t,l[j]?=some t:=⟨l[j]'ah,List.getElem?_eq_getElem _⟩;have hC:=Bj p hw (hg.fn hf ht)
  have eV:pJ p l (j:Int)=bq p t:=by unfold pJ;rw [Int.toNat_natCast,ht]
  have jW:ud (pJ p l) (N+1 - (i+1)) (i+1) (ef L (bq p t))=nI p l L0:=by
   rw [<-he,show N+1 - i=(N+1 - (i+1))+1 by omega,DP hx,eV]
  have sf:=nS p t;have eW:=qu p t
  have L8:((bq p t).map fun i=>[GV.v (ii i)]).length=(bq p t).length:=by simp
  have si:i+1<=(ef L (bq p t)).length:=by
   obtain ⟨m,hm⟩:=y5 (bq p t) L;rw [hm,length_append];omega
  generalize bq p t=ks at *;refine ae ?_;refine aE (aH [0,1,2,3,4,7] (.a 5 (.q 6 .nil))) ?_;refine ak ?_;refine aC [] (hC) ?_;refine ae ?_;refine GW.range (ks.map fun i=>[GV.v (ii i)]).length (fun k fr Γ=>∃ a c n S,fr=[.U,.U,.loc 1 0,.U,.U,.v (.slice a n c),.v (ii (i:Nat)),.U,.U,.U,.U,.U,.U,.U,.U,.U,.U,.U,.U,.U,.U,.U,ints ks,.v (ii ((ks.map fun i=>[GV.v (ii i)]).length:Int)),.v (ii (k:Nat)),.U,.U,.U,.U,.U,.U,.U,.U,.U,.U,.U,.U,.U,.U,.U]/\Γ=[.vech 3 1 S (.slice a n c),.box 34 (av p)]/\S.length=n/\S=bp (ef L (ks.take k))) ?_ ah ?_ ?_ ?_
  ·exact ⟨_,_,Wk.ax ao,a,c,n,S,rfl,rfl,eO,hS⟩
  ·rintro k _ _ ⟨a,c,n,S,rfl,rfl,_⟩;exact ⟨rfl,rfl,rfl⟩
  ·rintro k _ _ hk ⟨a,c,n,S,rfl,rfl,eO,hS⟩;rw [L8] at hk;obtain ⟨y,hy⟩:∃ y,ks[k]?=some y:=⟨ks[k],by simp [hk]⟩
   have ZH:(ks.map fun i=>[GV.v (ii i)])[k]?=some [.v (ii y)]:=by rw [getElem?_map,hy];rfl
   have Tw:=hW.add (ks:=ks.take k) fun y hy=>sf y (List.mem_of_mem_take hy)
   have Tx:=Tw.len
   have Ab:GF Tryz.prog 56 [.sl 1 S,.v (ii y)] [] (.v (.bool ((ef L (ks.take k)).contains y))) []:=by
    rw [hS];exact tH (ef L (ks.take k)) y ah
   have OO:=Cj L ks k y hy
   have qL:n<=1048576:=by rw [<-eO,hS,c8];omega
   rw [OO]
   cases hb:(ef L (ks.take k)).contains y with
   | true =>
    rw [hb] at Ab;rw [if_pos rfl];refine ae ?_;refine GL.borrow Ab (fun B K β w l hI hF=>gB (A:=[]) (C:=[_]) hI hF rfl rfl) ?_;refine bZ ?_;refine ae ?_;exact ⟨rfl,rfl,_,_,Wk.ax ao,a,c,n,S,rfl,rfl,eO,hS⟩
   | false =>
    rw [hb] at Ab;rw [if_neg (by decide)]
    have oJ:bp (ef L (ks.take k)++[y])=S++[[.v (ii y)]]:=by rw [hS];simp [bp]
    rw [oJ];clear hS;refine ae ?_;refine GL.borrow Ab (fun B K β w l hI hF=>gB (A:=[]) (C:=[_]) hI hF rfl rfl) ?_;refine bZ ?_;refine ae ?_;refine GL.jA 0 rfl rfl rfl rfl rfl rfl rfl rfl (by first | rfl | assumption) ⟨⟨by omega,by omega⟩,by decide⟩ ?_;intro a2 c2;refine bK ?_;refine ae ?_;exact ⟨rfl,rfl,_,_,Wk.ax ao,a2,c2,_,_,rfl,rfl,by simp [eO],rfl⟩
  ·rintro _ _ ⟨a,c,n,S,rfl,rfl,eO,hS⟩;rw [L8,take_length] at hS;refine bS (aK ?_);refine ae ?_;exact ⟨(i+1,ef L ks),⟨_,_,Wk.ax ao,a,c,n,S,rfl,rfl,eO,hS,hW.add sf,si,jW⟩,by show N - (i+1) < N - i;omega⟩
 ·have hd:decide ((i:Int) < (n:Int))=false:=decide_eq_false ah;have hb:=DQ (cs:=pJ p l) (f:=N+1 - i) (i:=i) (L:=L) ah;rw [hb] at he;rw [<-he];have WH:=KD L 3 a c ah;rw [<-qN,<-hS] at WH
  have tf:(bp (fZ L)).length=n:=by rw [c8,mT,qN]
  refine ae ?_;refine aX ?_;refine ae ?_;refine ab [0] (WH) ?_;refine GW.wk (Wk.oo (t:=4) (i:=0) rfl rfl rfl) ?_;exact aq
end Go.Xg
namespace Go.Im
open Go.Xp Go.Sp
theorem wI {l:List Int} {k:Nat} {x n:Int} (h:l[k]?=some x) (hc:(l.take k).contains n=false) (hx:(x==n)=false):(l.take (k+1)).contains n=false:=by
 rw [take_add_one,h];simp only [List.contains_eq_mem,decide_eq_false_iff_not,List.mem_append,not_or] at *;refine ⟨hc,?_⟩;simp only [Option.toList_some,mem_singleton];intro e;subst e;simp at hx
theorem DX {l:List Int} {k:Nat} {x n:Int} (h:l[k]?=some x) (hx:(x==n)=true):l.contains n=true:=by
 have:x=n:=by simpa using hx
 subst this;exact List.contains_iff_mem.2 (mem_of_getElem? h)
theorem R9 {l:List Int} {n:Int} (h:l.contains n=true):gY l n=l:=by unfold gY;rw [if_pos h]
theorem v8:∀ (ks l:List Int),(ks.foldl gY l).length<=l.length+ks.length
 | [],l=>by simp
 | k::r,l=>by
  have:=v8 r (gY l k);have:=Pq (l:=l) (n:=k);rw [List.foldl_cons,List.length_cons];omega
end Go.Im
namespace Go.Xg
open Go.RowKit Go.Xw Go.Proofs
open Go.Xp (Nd T Ar aO az cx)
open Go.Sp (Src)
open Go.Im
attribute [local irreducible] GW GL GO YG GC GA aW aZ
theorem O7 (l:List Int) (n:Int) (a:Option Addr) (c:Nat) (hl:l.length<=8388608) :
  GC Tryz.prog 134 [.v (.slice a l.length c),.v (ii n)] [.vech 3 1 (bp l) (.slice a l.length c)] fun g Δ =>
   (l.contains n=true/\g=.v (.slice a l.length c)/\Δ=[.vech 3 1 (bp l) (.slice a l.length c)]) \/
   (l.contains n=false/\∃ a' c',g=.v (.slice a' (gY l n).length c')/\Δ=[.vech 3 1 (bp l) (.slice a l.length c),.vech 3 1 (bp (gY l n)) (.slice a' (gY l n).length c')]):=by
 have pb:=c8 l;refine aj Tryz.func134 Tryz.ntmps134 ?_;refine lY ?_;refine GL.vn (t:=9) rfl rfl rfl rfl ?_;intro a1 c1;refine bK ?_;refine ae ?_;refine GW.range l.length (fun k fr Γ=>∃ a1 c1 m dn S,fr=[.v (.slice a l.length c),.v (ii n),.U,.U,.U,.v (.slice a1 m c1),.v (.bool dn),.U,.U,.U,.v (.slice a l.length c),.v (ii (l.length:Int)),.v (ii (k:Nat)),.U,.U,.U,.U,.U,.U,.U,.U,.U,.U,.U,.U,.U,.U,.U,.U,.U,.U,.U,.U,.U,.U,.U,.U,.U,.U,.U,.U,.U,.U]/\Γ=[.vech 3 1 (bp l) (.slice a l.length c),.vech 3 1 S (.slice a1 m c1)]/\S.length=m/\S=bp (iR l n k).1/\dn=(iR l n k).2/\(l.take k).contains n=false) ?_ ah ?_ ?_ ?_
 ·exact ⟨_,_,Wk.ax ao,a1,c1,0,false,[],rfl,rfl,rfl,rfl,rfl,rfl⟩
 ·rintro k _ _ ⟨a1,c1,m,dn,S,rfl,rfl,_⟩;exact ⟨rfl,rfl,rfl⟩
 ·rintro k _ _ ar ⟨a1,c1,m,dn,S,rfl,rfl,yy,hS,HI,hc⟩;obtain ⟨x,hx⟩:∃ x,l[k]?=some x:=⟨l[k],by simp [ar]⟩
  have hr:(bp l)[k]?=some [.v (ii x)]:=by unfold bp;rw [getElem?_map,hx];rfl
  have eW:k < (bp l).length:=by omega
  have hm:m<=8388609:=by
   have:=(Fu l n k).1;rw [<-yy,hS,c8];omega
  have jW:=C9 (n:=n) hx
  cases h1:(x==n) with
  | true =>
   refine ae ?_
   (repeat (first | refine GW.ret ?_ | refine cr ?_ | refine cn ?_ | refine aK ?_ | refine bS ?_))
   exact o7 (n:=1) rfl (by first | exact .inr rfl | exact .inl rfl) rfl (Nat.le_of_ble_eq_true rfl) rfl rfl (.inl ⟨DX hx h1,rfl,rfl⟩)
  | false =>
   have gE:=wI hx hc h1
   cases dn with
   | true =>
    have e:iR l n (k+1)=((iR l n k).1++[x],true):=by rw [jW];unfold nM;rw [<-HI];rfl
    have oJ:bp (iR l n (k+1)).1=S++[[.v (ii x)]]:=by rw [e,hS];simp [bp]
    clear hS;refine ae ?_;refine GL.jA 1 rfl rfl rfl rfl rfl rfl rfl rfl (by first | rfl | assumption) ⟨⟨by omega,by omega⟩,by decide⟩ ?_;intro a2 c2;refine bK ?_;refine ae ?_;exact ⟨rfl,rfl,_,_,Wk.ax ao,a2,c2,_,true,_,rfl,rfl,by simp [yy],oJ.symm,by rw [e],gE⟩
   | false =>
    cases h3:decide (n < x) with
    | true =>
     have e:iR l n (k+1)=((iR l n k).1++[n]++[x],true):=by rw [jW];unfold nM;rw [<-HI,h3];rfl
     have oJ:bp (iR l n (k+1)).1=(S++[[.v (ii n)]])++[[.v (ii x)]]:=by rw [e,hS];simp [bp]
     have hSl:(S++[[GV.v (ii n)]]).length=m+1:=by rw [length_append,yy];rfl
     clear hS;refine ae ?_;refine GL.jA 1 rfl rfl rfl rfl rfl rfl rfl rfl (by first | rfl | assumption) ⟨⟨by omega,by omega⟩,by decide⟩ ?_;intro a2 c2;refine bK ?_;refine ae ?_;refine GL.jA 1 rfl rfl rfl rfl rfl rfl rfl rfl (by first | rfl | assumption) ⟨⟨by omega,by omega⟩,by decide⟩ ?_;intro a3 c3;refine bK ?_;refine ae ?_;exact ⟨rfl,rfl,_,_,Wk.ax ao,a3,c3,_,true,_,rfl,rfl,by simp [yy],oJ.symm,by rw [e],gE⟩
    | false =>
     have e:iR l n (k+1)=((iR l n k).1++[x],false):=by rw [jW];unfold nM;rw [<-HI,h3];rfl
     have oJ:bp (iR l n (k+1)).1=S++[[.v (ii x)]]:=by rw [e,hS];simp [bp]
     clear hS;refine ae ?_;refine GL.jA 1 rfl rfl rfl rfl rfl rfl rfl rfl (by first | rfl | assumption) ⟨⟨by omega,by omega⟩,by decide⟩ ?_;intro a2 c2;refine bK ?_;refine ae ?_;exact ⟨rfl,rfl,_,_,Wk.ax ao,a2,c2,_,false,_,rfl,rfl,by simp [yy],oJ.symm,by rw [e],gE⟩
 ·rintro _ _ ⟨a1,c1,m,dn,S,rfl,rfl,yy,hS,HI,hc⟩;rw [take_length] at hc;have ot:=Pr l n hc
  have hm:m<=8388609:=by
   have:=(Fu l n l.length).1;rw [<-yy,hS,c8];omega
  refine aK ?_
  cases dn with
  | true =>
   rw [if_pos HI.symm] at ot
   have e:m=(gY l n).length:=by rw [<-yy,hS,c8,ot]
   subst e;rw [ot] at hS;subst hS;refine ae ?_
   (repeat (first | refine GW.ret ?_ | refine cr ?_ | refine cn ?_ | refine aK ?_ | refine bS ?_))
   exact o7 (n:=2) rfl (by first | exact .inr rfl | exact .inl rfl) rfl (Nat.le_of_ble_eq_true rfl) rfl rfl (.inr ⟨hc,a1,c1,rfl,rfl⟩)
  | false =>
   rw [if_neg (by rw [<-HI];decide)] at ot
   have oJ:bp (gY l n)=S++[[.v (ii n)]]:=by rw [<-ot,hS];simp [bp]
   have e:(gY l n).length=m+1:=by rw [<-c8,oJ,length_append,yy];rfl
   rw [oJ,e];clear hS;subst yy;refine ae ?_;refine GL.jA 1 rfl rfl rfl rfl rfl rfl rfl rfl (by first | rfl | assumption) ⟨⟨by omega,by omega⟩,by decide⟩ ?_;intro a2 c2;refine bK ?_;refine ae ?_
   (repeat (first | refine GW.ret ?_ | refine cr ?_ | refine cn ?_ | refine aK ?_ | refine bS ?_))
   exact o7 (n:=2) rfl (by first | exact .inr rfl | exact .inl rfl) rfl (Nat.le_of_ble_eq_true rfl) rfl rfl (.inr ⟨hc,a2,c2,rfl,rfl⟩)
end Go.Xg
namespace Go.Im
open Go.Xp Go.Sp
def kX (l ks:List Int):List Int:=ks.foldl gY l
theorem JY (l a b:List Int):kX l (a++b)=kX (kX l a) b:=List.foldl_append
theorem JZ (l ks:List Int):(kX l ks).length<=l.length+ks.length:=v8 ks l
theorem KV (p:Src) {l:List T} {k:Nat} {u:T} (h:l[k]?=some u) (o:List Int) (n:Nd):kX o (sW p n++gL p (l.take (k+1)))=kX (kX o (sW p n++gL p (l.take k))) (nT p u):=by
 rw [KX p h,<-List.append_assoc,JY]
end Go.Im
namespace Go.Xg
open Go.RowKit Go.Xw Go.Proofs
open Go.Xp (Nd T Ar aO az cx)
open Go.Sp (Src)
open Go.Im
attribute [local irreducible] GW GL GO YG GC GA aW aZ
def SI (l r:List Int) (a:Option Addr) (c:Nat) (g:GV) (Δ:List Ob):Prop :=
 (r=l/\g=.v (.slice a l.length c)/\Δ=[.vech 3 1 (bp l) (.slice a l.length c)]) \/
 (∃ a' c',g=.v (.slice a' r.length c')/\Δ=[.vech 3 1 (bp l) (.slice a l.length c),.vech 3 1 (bp r) (.slice a' r.length c')])
theorem My (l:List Int) (n:Int) (a:Option Addr) (c:Nat) (hl:l.length<=8388608) :
  GC Tryz.prog 134 [.v (.slice a l.length c),.v (ii n)] [.vech 3 1 (bp l) (.slice a l.length c)] (SI l (gY l n) a c):=by
 refine (O7 l n a c hl).mono fun g Δ h=>?_
 rcases h with ⟨h1,h2,h3⟩ | ⟨h1,a',c',h2,h3⟩
 ·exact .inl ⟨R9 h1,h2,h3⟩
 ·exact .inr ⟨a',c',h2,h3⟩
theorem JF (p:Src) (gH:p.fns.length<=1099511627776):∀ (N:Nat) (t:T),aO t<=N->∀ (l:List Int) (a:Option Addr) (c:Nat),l.length+aO t<=8388608 ->
  GC Tryz.prog 98 [.v (.slice a l.length c),.agg (av p),.agg (cT t)] [.vech 3 1 (bp l) (.slice a l.length c)] (SI l (kX l (nT p t)) a c):=by
 intro N
 induction N with
 | zero=>intro t h;have:=jN t;omega
 | succ N ih =>
 intro t hN l a c lP
 cases t with
 | mk n ks =>
 rw [Go.Xp.aO] at hN lP;have pb:=cx ks;have eP:(aP ks).length=ks.length:=aQ ks;have hF:=BG p n.s gH;have e0:cJ (fun x:Go.Sp.Fn=>x.name==n.s) p.fns=np p n.s:=rfl;rw [e0] at hF;have hP:=My l (np p n.s) a c ah
 have gE:sW p n=if n.kind=4/\0<=np p n.s then [np p n.s] else []:=rfl
 rw [nT];generalize np p n.s=z at *;refine aj Tryz.func98 Tryz.ntmps98 ?_;refine ab [] (hF) ?_
 refine GL.VS (fun fr Γ=>∃ h L,fr=[.v h,.U,.U,.U,.loc 1 0,.loc 2 0,.U,.U,.U,.U,.U,.U,.U,.U,.U,.U,.U,.U,.U,.U,.U,.U,.U,.U,.U,.U,.U,.U,.U,.U,.U,.U,.U,.U,.U,.U,.U,.U,.U]/\L=kX l (sW p n) /\
  ((L=l/\h=.slice a l.length c/\Γ=[.vech 3 1 (bp l) (.slice a l.length c),.box 34 (av p),.box 94 (cT (.mk n ks))]) \/
   (∃ a' c',h=.slice a' L.length c'/\Γ=[.vech 3 1 (bp l) (.slice a l.length c),.box 34 (av p),.box 94 (cT (.mk n ks)),.vech 3 1 (bp L) (.slice a' L.length c')]))) ?_ ?_
 ·cases q4:(n.kind==4) with
  | false =>
   rw [if_neg (fun h=>by rw [h.1] at q4;cases q4)] at gE;refine ae ?_;exact ⟨_,_,Wk.ax ao,_,l,rfl,by rw [gE];rfl,.inl ⟨rfl,rfl,rfl⟩⟩
  | true =>
   cases q5:decide ((0:Int)<=z) with
   | false =>
    rw [if_neg (fun h=>by have:=of_decide_eq_false q5;exact this h.2)] at gE;refine ae ?_;exact ⟨_,_,Wk.ax ao,_,l,rfl,by rw [gE];rfl,.inl ⟨rfl,rfl,rfl⟩⟩
   | true =>
    rw [if_pos ⟨by simpa using q4,by simpa using q5⟩] at gE;refine ae ?_;refine bO [0] (hP) ?_;rintro _ _ (⟨h1,rfl,rfl⟩ | ⟨a',c',rfl,rfl⟩)
    ·refine ct ?_;refine ae ?_;exact ⟨_,_,Wk.ax ao,_,l,rfl,by rw [gE];exact h1.symm,.inl ⟨rfl,rfl,rfl⟩⟩
    ·refine ct ?_;refine ae ?_;exact ⟨_,_,Wk.ax ao,_,gY l z,rfl,by rw [gE];rfl,.inr ⟨a',c',rfl,rfl⟩⟩
 ·rintro _ _ ⟨h,L0,rfl,Y6,HH⟩;have aah:=Bm p n
  rcases HH with ⟨e1,rfl,rfl⟩ | ⟨a0,c0,rfl,rfl⟩
  all_goals
   refine ae ?_
   refine GW.range (aP ks).length (fun k fr Γ=>∃ h L,fr=[.v h,.U,.U,.U,.loc 1 0,.loc 2 0,.U,.U,.U,.U,.U,.U,.U,.U,.U,.U,.U,.U,.U,.U,.U,.U,.U,.U,.U,.U,.U,.sl 6 (aP ks),.v (ii ((aP ks).length:Int)),.v (ii (k:Nat)),.U,.U,.U,.U,.U,.U,.U,.U,.U]/\L=kX l (sW p n++gL p (ks.take k)) /\
    ((L=l/\h=.slice a l.length c/\Γ=[.vech 3 1 (bp l) (.slice a l.length c),.box 34 (av p),.box 94 (cT (.mk n ks))]) \/
     (∃ a' c',h=.slice a' L.length c'/\Γ=[.vech 3 1 (bp l) (.slice a l.length c),.box 34 (av p),.box 94 (cT (.mk n ks)),.vech 3 1 (bp L) (.slice a' L.length c')]))) ?_ ah ?_ ?_ ?_
   ·exact ⟨_,_,Wk.ax ao,_,L0,rfl,by rw [List.take_zero,gL,append_nil];exact Y6,by first | exact .inl ⟨e1,rfl,rfl⟩ | exact .inr ⟨_,_,rfl,rfl⟩⟩
   ·rintro k _ _ ⟨h,L,rfl,_,HH⟩;exact ⟨rfl,rfl,rfl⟩
   ·rintro k _ _ ar ⟨h,L,rfl,hL,HH⟩;rw [eP] at ar;obtain ⟨u,hu⟩:∃ u,ks[k]?=some u:=⟨ks[k],by simp [ar]⟩;have hr:=cL hu;have cK:=sI hu
    have hLl:L.length<=l.length+1+az (ks.take k):=by
     have:=JZ l (sW p n++gL p (ks.take k));have:=DW p (ks.take k);rw [length_append] at *;rw [hL];omega
    have jW:=KV p hu l n;rw [<-hL] at jW;rw [jW]
    rcases HH with ⟨e2,rfl,rfl⟩ | ⟨a',c',rfl,rfl⟩
    ·subst e2;have hi:=ih u ah L a c ah;generalize kX L (nT p u)=L2 at *;refine ae ?_;refine bO [0] (hi) ?_;rintro _ _ (⟨h1,rfl,rfl⟩ | ⟨a2,c2,rfl,rfl⟩)
     ·refine ct ?_;refine ae ?_;exact ⟨rfl,rfl,_,_,(Wk.cut (n:=3) (Nat.le_of_ble_eq_true rfl) rfl).trans (Wk.ax ao),_,L2,rfl,rfl,.inl ⟨h1,rfl,rfl⟩⟩
     ·refine ct ?_;refine ae ?_;exact ⟨rfl,rfl,_,_,(Wk.keep (n:=3) (j:=4) (Nat.le_of_ble_eq_true rfl) (by decide) rfl rfl rfl).trans (Wk.ax ao),_,L2,rfl,rfl,.inr ⟨a2,c2,rfl,rfl⟩⟩
    ·have hi:=ih u ah L a' c' ah;generalize kX L (nT p u)=L2 at *;refine ae ?_;refine bO [3] (hi) ?_;rintro _ _ (⟨rfl,rfl,rfl⟩ | ⟨a2,c2,rfl,rfl⟩)
     ·refine ct ?_;refine ae ?_;exact ⟨rfl,rfl,_,_,(Wk.cut (n:=4) (Nat.le_of_ble_eq_true rfl) rfl).trans (Wk.ax ao),_,_,rfl,rfl,.inr ⟨a',c',rfl,rfl⟩⟩
     ·refine ct ?_;refine ae ?_;exact ⟨rfl,rfl,_,_,(Wk.keep (n:=3) (j:=5) (Nat.le_of_ble_eq_true rfl) (by decide) rfl rfl rfl).trans (Wk.ax ao),_,L2,rfl,rfl,.inr ⟨a2,c2,rfl,rfl⟩⟩
   ·rintro _ _ ⟨h,L,rfl,hL,HH⟩;rw [eP,take_length] at hL;rw [<-hL];refine aK ?_
    rcases HH with ⟨e2,rfl,rfl⟩ | ⟨a',c',rfl,rfl⟩
    ·refine ae ?_
     (repeat (first | refine GW.ret ?_ | refine cr ?_ | refine cn ?_ | refine aK ?_ | refine bS ?_))
     exact o7 (n:=1) rfl (by first | exact .inr rfl | exact .inl rfl) rfl (Nat.le_of_ble_eq_true rfl) rfl rfl (.inl ⟨e2,rfl,rfl⟩)
    ·refine GW.wk (Wk.keep (n:=1) (j:=3) (Nat.le_refl _) (by decide) rfl rfl rfl) ?_;refine GW.Li (bV:=[.v (.slice a' L.length c'),.U,.U,.U,.U,.U,.U,.U,.U,.U,.U,.U,.U,.U,.U,.U,.U,.U,.U,.U,.U,.U,.U,.U,.U,.U,.U,.U,.U,.U,.U,.U,.U,.U,.U,.U,.U,.U,.U]) (aJ:=[.vech 3 1 (bp l) (.slice a l.length c),.vech 3 1 (bp L) (.slice a' L.length c')]) ao rfl ?_;refine ae ?_
     (repeat (first | refine GW.ret ?_ | refine cr ?_ | refine cn ?_ | refine aK ?_ | refine bS ?_))
     exact o7 (n:=2) rfl (by first | exact .inr rfl | exact .inl rfl) rfl (Nat.le_of_ble_eq_true rfl) rfl rfl (.inr ⟨a',c',rfl,rfl⟩)
end Go.Xg
namespace Go.Im
open Go.Xp Go.Sp
def iT (p:Src) (fn:Int):List Int:=if mJ p fn=true then (match ir p.nodes p.fns 0 [] with | some (l,_)=>pJ p l fn | none=>[]) else []
theorem I4 {p:Src} {l:List T} {i:Nat} {f:Go.Sp.Fn} {t:T} (hh:mJ p (i:Int)=true) (h:qD p l i f t):iT p (i:Int)=bq p t:=by
 unfold iT;rw [if_pos hh,h.good.DS];simp only;unfold pJ;rw [Int.toNat_natCast,h.gt]
theorem J0 (ks:List Int):kX [] ks=n9 ks:=rfl
theorem BB {p:Src} {i:Nat} (hg:gP p=true) (hi:i < p.fns.length):mJ p (i:Int)=true:=by
 unfold mJ;rw [hg,decide_eq_true (show (0:Int)<=(i:Int) by omega),decide_eq_true (show (i:Int) < (p.fns.length:Int) by omega)];rfl
end Go.Im
namespace Go.Xg
open Go.RowKit Go.Xw Go.Proofs
open Go.Xp (Nd T Ar aO az cx)
open Go.Sp (Src)
open Go.Im
attribute [local irreducible] GW GL GO YG GC GA aW aZ
theorem u7 (p:Src) (hw:dN p<=1048576) {l:List T} {i:Nat} {f:Go.Sp.Fn} {t:T} (hg:gP p=true) (h:qD p l i f t) :
  GC Tryz.prog 40 [.agg (av p),.v (ii (i:Nat))] [] fun g Δ=>∃ a c,g=.v (.slice a (bq p t).length c)/\Δ=[.vech 3 1 (bp (bq p t)) (.slice a (bq p t).length c)]:=by
 obtain ⟨⟨a1,a2⟩,⟨b1,b2⟩,⟨c1,c2⟩,⟨d1,d2⟩⟩:=eJ p;have hG:=Bz p hw;rw [hg] at hG
 have jm:(p.fns.map au).length=p.fns.length:=by simp
 have hi:=(List.getElem?_eq_some_iff.1 h.gf).1
 have hr:(p.fns.map au)[i]?=some (au f):=by rw [getElem?_map,h.gf];rfl
 have q2:decide ((i:Int) < 0)=false:=decide_eq_false ah;have q3:decide (((p.fns.map au).length:Int)<=(i:Int))=false:=decide_eq_false (by rw [jm];omega);have hS:=U3 p (fun n hn=>by have:=(d2 n hn).2;omega) f t h.body h.st
 have hC:=fun a c=>JF p ah _ t (Nat.le_refl _) [] a c (by have:=h.sz;show 0+_<=_;omega)
 rw [J0] at hC;unfold bq;unfold au at hr;generalize n9 (nT p t)=rr at *;refine aj Tryz.func40 Tryz.ntmps40 ?_;refine ab [] (hG) ?_;refine aE (aH [1,2,3,4,5,6,7,8] (.f 0 (.a 9 (.a 10 (.q 11 .nil))) 9 (.a 0 (.a 10 (.q 11 .nil))))) ?_;refine ak ?_;refine GO.fork ?_ ?_
 ·refine OA rfl rfl (GL.QT rfl rfl rfl rfl ?_);refine GL.vn (t:=19) rfl rfl rfl rfl ?_;intro a1 c1;refine dB ?_;refine ak ?_;refine aC [] (hS) ?_;refine OA rfl rfl ?_;refine bO [1] (hC a1 c1) ?_;rintro _ _ (⟨h1,rfl,rfl⟩ | ⟨a',c',rfl,rfl⟩)
  ·refine ⟨by simp,?_⟩;refine dB ?_;subst h1;refine ak ?_;refine ae ?_
   (repeat (first | refine GW.ret ?_ | refine cr ?_ | refine cn ?_ | refine aK ?_ | refine bS ?_))
   refine rz 1 rfl (by first | exact .inr rfl | exact .inl rfl) rfl ?_ ?_
   ·intro x hx;rw [List.mem_singleton.1 hx];rfl
   ·exact ⟨_,_,rfl,rfl⟩
  ·refine ⟨by simp,?_⟩;refine dB ?_;refine ak ?_;refine ae ?_
   (repeat (first | refine GW.ret ?_ | refine cr ?_ | refine cn ?_ | refine aK ?_ | refine bS ?_))
   refine rz 2 rfl (by first | exact .inr rfl | exact .inl rfl) rfl ?_ ?_
   ·intro x hx;rw [List.mem_singleton.1 hx];rfl
   ·exact ⟨_,_,rfl,rfl⟩
 ·refine aC [] (hS) ?_;refine OA rfl rfl (GL.QT rfl rfl rfl rfl ?_);refine GL.vn (t:=19) rfl rfl rfl rfl ?_;intro a1 c1;refine dB ?_;refine ak ?_;refine OA rfl rfl ?_;refine bO [1] (hC a1 c1) ?_;rintro _ _ (⟨h1,rfl,rfl⟩ | ⟨a',c',rfl,rfl⟩)
  ·refine ⟨by simp,?_⟩;refine dB ?_;subst h1;refine ak ?_;refine ae ?_
   (repeat (first | refine GW.ret ?_ | refine cr ?_ | refine cn ?_ | refine aK ?_ | refine bS ?_))
   refine rz 1 rfl (by first | exact .inr rfl | exact .inl rfl) rfl ?_ ?_
   ·intro x hx;rw [List.mem_singleton.1 hx];rfl
   ·exact ⟨_,_,rfl,rfl⟩
  ·refine ⟨by simp,?_⟩;refine dB ?_;refine ak ?_;refine ae ?_
   (repeat (first | refine GW.ret ?_ | refine cr ?_ | refine cn ?_ | refine aK ?_ | refine bS ?_))
   refine rz 2 rfl (by first | exact .inr rfl | exact .inl rfl) rfl ?_ ?_
   ·intro x hx;rw [List.mem_singleton.1 hx];rfl
   ·exact ⟨_,_,rfl,rfl⟩
end Go.Xg
namespace Go.Xg
open Go.RowKit Go.Xw Go.Proofs
open Go.Xp (Nd T Ar aO az cx)
open Go.Sp (Src)
open Go.Im
attribute [local irreducible] GW GL GO YG GC GA aW aZ
theorem qC (p:Src) (t:T):Trail p (bq p t):=⟨Fw (uh p t),nS p t⟩
theorem Mz (p:Src) (hw:dN p<=1048576) (ml:gP p=true) {l:List T} {i0:Nat} {f0:Go.Sp.Fn} {t0:T} (h0:qD p l i0 f0 t0) :
  GF Tryz.prog 52 [.agg (av p),.v (ii (i0:Nat))] [] (ints (nI p l (bq p t0))) []:=by
 obtain ⟨⟨a1,a2⟩,⟨b1,b2⟩,⟨c1,c2⟩,⟨d1,d2⟩⟩:=eJ p;have hlen:=h0.good.len;have hg:=h0.good;have hL:=qC p t0;have ux:=hL.len;have YZ:=u7 p hw ml h0;generalize bq p t0=L0 at *;obtain ⟨N,hN⟩:∃ N,p.fns.length=N:=⟨_,rfl⟩;have L5:=c8 L0;refine aj Tryz.func52 Tryz.ntmps52 ?_;refine bO [] (YZ) ?_;rintro _ _ ⟨ad,cp,rfl,rfl⟩;refine ct ?_;refine ae ?_;refine GW.loop (fun s:Nat × List Int=>N - s.1) (fun s fr Γ=>∃ a c n S,fr=[.U,.U,.loc 0 0,.U,.U,.v (.slice a n c),.v (ii (s.1:Nat)),.U,.U,.U,.U,.U,.U,.U,.U,.U,.U,.U,.U,.U,.U,.U,.U,.U,.U,.U,.U,.U,.U,.U,.U,.U,.U,.U,.U,.U,.U,.U,.U]/\Γ=[.box 34 (av p),.vech 3 1 S (.slice a n c)]/\S.length=n/\S=bp s.2/\Trail p s.2/\s.1<=s.2.length/\ud (pJ p l) (N+1 - s.1) s.1 s.2=nI p l L0) (0,L0) ?_ ?_
 ·exact ⟨_,_,Wk.ax ao,ad,cp,_,_,rfl,rfl,L5,rfl,hL,Nat.zero_le _,by rw [<-hN];rfl⟩
 rintro ⟨i,L⟩ _ _ ⟨a,c,n,S,rfl,rfl,eO,hS,hW,hi,he⟩;simp only at hS hW hi he;have pb:=hW.len
 have qN:n=L.length:=by rw [<-eO,hS,c8]
 by_cases ar:i < L.length
 ·have hd:decide ((i:Int) < (n:Int))=true:=decide_eq_true ah;obtain ⟨x,hx⟩:∃ x,L[i]?=some x:=⟨L[i],by simp [ar]⟩
  have ZG:S[i]?=some [.v (ii x)]:=by rw [hS];unfold bp;rw [getElem?_map,hx];rfl
  have qP:=hW.rng x (mem_of_getElem? hx);obtain ⟨j,hj⟩:∃ j:Nat,x=(j:Int):=⟨x.toNat,by omega⟩;subst hj
  have se:j < p.fns.length:=by omega
  obtain ⟨f,hf⟩:∃ f,p.fns[j]?=some f:=⟨p.fns[j],by simp [se]⟩;obtain ⟨t,ht⟩:∃ t,l[j]?=some t:=⟨l[j]'ah,List.getElem?_eq_getElem _⟩;have hC:=u7 p hw ml (hg.fn hf ht)
  have eV:pJ p l (j:Int)=bq p t:=by unfold pJ;rw [Int.toNat_natCast,ht]
  have jW:ud (pJ p l) (N+1 - (i+1)) (i+1) (ef L (bq p t))=nI p l L0:=by
   rw [<-he,show N+1 - i=(N+1 - (i+1))+1 by omega,DP hx,eV]
  have sf:=nS p t;have eW:=qu p t
  have L8:((bq p t).map fun i=>[GV.v (ii i)]).length=(bq p t).length:=by simp
  have si:i+1<=(ef L (bq p t)).length:=by
   obtain ⟨m,hm⟩:=y5 (bq p t) L;rw [hm,length_append];omega
  generalize bq p t=ks at *;refine ae ?_;refine aE (aH [0,1,2,3,4,7] (.a 5 (.q 6 .nil))) ?_;refine ak ?_;refine OA rfl rfl ?_;refine bO [] (hC) ?_;rintro _ _ ⟨a2,c2,rfl,rfl⟩;refine ⟨by simp,?_⟩;refine GL.wk (Wk.oo (t:=23) (i:=2) rfl rfl rfl) ?_;refine dB ?_;refine ak ?_;refine ae ?_;refine GW.range (ks.map fun i=>[GV.v (ii i)]).length (fun k fr Γ=>∃ a c n S B,fr=[.U,.U,.loc 0 0,.U,.U,.v (.slice a n c),.v (ii (i:Nat)),.U,.U,.U,.U,.U,.U,.U,.U,.U,.U,.U,.U,.U,.U,.U,.U,ints ks,.v (ii ((ks.map fun i=>[GV.v (ii i)]).length:Int)),.v (ii (k:Nat)),.U,.U,.U,.U,.U,.U,.U,.U,.U,.U,.U,.U,.U]/\Γ=[.box 34 (av p),.vech 3 1 S (.slice a n c),B]/\S.length=n/\S=bp (ef L (ks.take k))) ?_ ah ?_ ?_ ?_
  ·exact ⟨_,_,Wk.ax ao,a,c,n,S,_,rfl,rfl,eO,hS⟩
  ·rintro k _ _ ⟨a,c,n,S,B,rfl,rfl,_⟩;exact ⟨rfl,rfl,rfl⟩
  ·rintro k _ _ hk ⟨a,c,n,S,B,rfl,rfl,eO,hS⟩;rw [L8] at hk;obtain ⟨y,hy⟩:∃ y,ks[k]?=some y:=⟨ks[k],by simp [hk]⟩
   have ZH:(ks.map fun i=>[GV.v (ii i)])[k]?=some [.v (ii y)]:=by rw [getElem?_map,hy];rfl
   have Tw:=hW.add (ks:=ks.take k) fun y hy=>sf y (List.mem_of_mem_take hy)
   have Tx:=Tw.len
   have Ab:GF Tryz.prog 51 [.sl 1 S,.v (ii y)] [] (.v (.bool ((ef L (ks.take k)).contains y))) []:=by
    rw [hS];exact zy (ef L (ks.take k)) y ah
   have OO:=Cj L ks k y hy
   have qL:n<=1048576:=by rw [<-eO,hS,c8];omega
   rw [OO]
   cases hb:(ef L (ks.take k)).contains y with
   | true =>
    rw [hb] at Ab;rw [if_pos rfl];refine ae ?_;refine GL.borrow Ab (fun B K β w l hI hF=>gB (A:=[_]) (C:=[_]) hI hF rfl rfl) ?_;refine bZ ?_;refine ae ?_;exact ⟨rfl,rfl,_,_,Wk.ax ao,a,c,n,S,B,rfl,rfl,eO,hS⟩
   | false =>
    rw [hb] at Ab;rw [if_neg (by decide)]
    have oJ:bp (ef L (ks.take k)++[y])=S++[[.v (ii y)]]:=by rw [hS];simp [bp]
    rw [oJ];clear hS;refine ae ?_;refine GL.borrow Ab (fun B K β w l hI hF=>gB (A:=[_]) (C:=[_]) hI hF rfl rfl) ?_;refine bZ ?_;refine ae ?_;refine GL.jA 1 rfl rfl rfl rfl rfl rfl rfl rfl (by first | rfl | assumption) ⟨⟨by omega,by omega⟩,by decide⟩ ?_;intro a2 c2;refine bK ?_;refine ae ?_;exact ⟨rfl,rfl,_,_,Wk.ax ao,a2,c2,_,_,B,rfl,rfl,by simp [eO],rfl⟩
  ·rintro _ _ ⟨a,c,n,S,B,rfl,rfl,eO,hS⟩;rw [L8,take_length] at hS;refine bS (aK ?_);refine ae ?_;exact ⟨(i+1,ef L ks),⟨_,_,(Wk.cut (n:=2) (Nat.zero_le _) rfl).trans (Wk.ax ao),a,c,n,S,rfl,rfl,eO,hS,hW.add sf,si,jW⟩,by show N - (i+1) < N - i;omega⟩
 ·have hd:decide ((i:Int) < (n:Int))=false:=decide_eq_false ah;have hb:=DQ (cs:=pJ p l) (f:=N+1 - i) (i:=i) (L:=L) ah;rw [hb] at he;rw [<-he];subst hS;refine ae ?_;refine aX ?_;refine ae ?_;refine GW.wk (Wk.oo (t:=4) (i:=1) rfl rfl rfl) ?_;exact aq
end Go.Xg
namespace Go.Im
open Go.Xp Go.Sp
def Je (p:Src) (fn:Int):List Int:=if mJ p fn=true then (match ir p.nodes p.fns 0 [] with | some (l,_)=>nI p l (pJ p l fn) | none=>[]) else []
theorem Cz {p:Src} {l:List T} {i:Nat} {f:Go.Sp.Fn} {t:T} (hh:mJ p (i:Int)=true) (h:qD p l i f t):Je p (i:Int)=nI p l (bq p t):=by
 unfold Je;rw [if_pos hh,h.good.DS];simp only;unfold pJ;rw [Int.toNat_natCast,h.gt]
def fA (p:Src) (a b:Int):Bool:=(Je p a).contains b
theorem FM (l:List Int) (x:Int):(fZ l).contains x=l.contains x:=by
 cases h:l.contains x with
 | true=>exact List.contains_iff_mem.2 (vP.2 (List.contains_iff_mem.1 h))
 | false =>
  cases h2:(fZ l).contains x with
  | false=>rfl
  | true=>rw [List.contains_iff_mem.2 (vP.1 (List.contains_iff_mem.1 h2))] at h;cases h
end Go.Im
namespace Go.Xg
open Go.RowKit Go.Xw Go.Proofs
open Go.Xp (Nd T Ar aO az cx)
open Go.Sp (Src)
open Go.Im
attribute [local irreducible] GW GL GO YG GC GA aW aZ
end Go.Xg
