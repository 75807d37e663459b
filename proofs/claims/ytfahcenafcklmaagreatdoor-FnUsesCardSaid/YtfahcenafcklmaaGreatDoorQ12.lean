/- Part 12 of proofs that are told in their last texts. -/
import Derived.Test.YtfahcenafcklmaaGreatDoorQ3
set_option linter.unusedVariables false
set_option linter.unusedSimpArgs false
set_option maxRecDepth 100000
namespace Go.Im
open Go.Xp Go.Sp
def iC (h:Nd->List ae->Bool) (s:Nat) (_:Nat) (t:T) (ls:List ae):Nat:=if h t.n ls=true then s+1 else s
mutual
theorem Q7 (h:Nd->List ae->Bool):∀ (t:T) (a s:Nat) (ls:List ae),(fF (iC h) t a s ls).1=s+mb h t ls
 | .mk n l,a,s,ls=>by
  rw [fF,mb];simp only;rw [FM h l];unfold iC;show (if h n ls=true then s+1 else s)+_=_;split <;> omega
theorem FM (h:Nd->List ae->Bool):∀ (l:List T) (a s:Nat) (ls:List ae),(cU (iC h) l a s ls).1=s+jr h l ls
 | [],a,s,ls=>by rw [cU,jr];rfl
 | t::r,a,s,ls=>by rw [cU,FM h r,Q7 h t,Cg,jr];omega
end
mutual
theorem QS (h:Nd->List ae->Bool):∀ (t:T) (ls:List ae),mb h t ls<=aQ t
 | .mk n l,ls=>by
  have:=yC h l ls;rw [mb,aQ];split <;> omega
theorem yC (h:Nd->List ae->Bool):∀ (l:List T) (ls:List ae),jr h l ls<=aB l
 | [],ls=>by rw [jr];exact aS _
 | t::r,ls=>by
  have:=QS h t ls;have:=yC h r (ls++dI t);rw [jr,aB];omega
end
def pI (name:ae) (k:Int) (n:Nd) (ls:List ae):Bool:=!(n.s != name || ls.contains name)&&n.kind==k
section
variable (p:Src) (names:List ae) (name:ae)
end
def Xv (p:Src) (l:List T) (i:Nat):List ae:=match p.fns[i]?,l[i]? with | some f,some t=>f.params++dI t | _,_=>[]
def lQ (kinds:List Int) (p:Src) (fn:Int) (name:ae):Int :=
 if fn < 0\/(p.fns.length:Int)<=fn then -1 else if de p=false then -1 else match jX p.nodes p.fns 0 [] with
  | some (l,_)=>(match p.fns[fn.toNat]?,l[fn.toNat]? with | some f,some t=>((mb (iF name kinds) t f.params:Nat):Int) | _,_ => -1)
  | none => -1
def jR (k:Int) (p:Src) (name:ae):List Fn->List T->Nat
 | f::r,t::l=>mb (pI name k) t f.params+jR k p name r l
 | _,_=>0
theorem Di {l:List T} {k:Nat} {t:T} (h:l[k]?=some t):dG (l.take (k+1))=dG (l.take k)++dI t:=by
 have I:l.take (k+1)=l.take k++[t]:=by rw [dk,h];rfl
 have:∀ a b:List T,dG (a++b)=dG a++dG b:=by
  intro a b
  induction a with
  | nil=>simp [dG]
  | cons u a ih=>simp [dG,ih]
 rw [I,this];simp [dG]
end Go.Im
