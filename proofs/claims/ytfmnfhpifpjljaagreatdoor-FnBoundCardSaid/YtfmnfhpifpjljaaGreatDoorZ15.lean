/- Part 15 of proofs that are told in their last texts. -/
import Derived.Test.YtfmnfhpifpjljaaGreatDoorCards
import Derived.Test.YtfmnfhpifpjljaaGreatDoorTie
import Derived.Test.YtfmnfhpifpjljaaGreatDoorZ5
set_option linter.unusedVariables false
set_option linter.unusedSimpArgs false
set_option maxRecDepth 100000
namespace Go.Proofs.YtfmnfhpifpjljaaGreatDoor.fnBound
theorem aap:((Rows.fnBoundRow.named==Tryz.prog.varsNamed 7))=true:=by kernel_rfl
theorem aaC:(Tryz.prog.mayEnter)=true:=by kernel_rfl
theorem aaD:((Rows.fnBoundRow.lifted==Tryz.prog.liftsFinal))=true:=by kernel_rfl
theorem aaE:((Tryz.prog.make==some Rows.fnBoundRow.make))=true:=by kernel_rfl
theorem aaF:((Rows.fnBoundRow.kinds==(if Rows.fnBoundRow.domain.isEmpty then[]else Tryz.f7.params.toList.map fun t=>match Tryz.prog.underlying t with|some (.int k)=>some k|_=>none)))=true:=by kernel_rfl
theorem aaG:((Rows.fnBoundRow.pinned==Rows.fnBoundRow.pinnedBy))=true:=by kernel_rfl
theorem aaH:((Rows.fnBoundRow.veiled==(Tryz.f7.params.toList++Rows.fnBoundSpec.plain.varTypes Tryz.prog++Tryz.f7.resultTypes.toList).any (Tryz.prog.veiledRec ·)))=true:=by kernel_rfl
theorem aaI:(Rows.fnBoundRow.veiledFits Tryz.prog Tryz.f7.params.toList (Tryz.f7.params.toList++Rows.fnBoundSpec.plain.varTypes Tryz.prog++Tryz.f7.resultTypes.toList))=true:=by kernel_rfl
end Go.Proofs.YtfmnfhpifpjljaaGreatDoor.fnBound
