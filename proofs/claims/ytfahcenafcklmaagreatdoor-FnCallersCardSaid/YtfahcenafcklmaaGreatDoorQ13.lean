/- Part 13 of proofs that are told in their last texts. -/
import Derived.Test.YtfahcenafcklmaaGreatDoorQ9
set_option linter.unusedVariables false
set_option linter.unusedSimpArgs false
set_option maxRecDepth 100000
namespace Go.Im
open Go.Xp Go.Sp
theorem Mu (cs:Int->List Int):∀ (f i:Nat) (L:List Int),∀ x∈L,x∈oM cs f i L
 | 0,i,L=>fun x h=>by rw [oM];exact h
 | f+1,i,L=>fun x h=>by
  rw [oM];split
  ·exact h
  ·exact Mu cs f (i+1) _ x (sx.2 (.inl h))
end Go.Im
