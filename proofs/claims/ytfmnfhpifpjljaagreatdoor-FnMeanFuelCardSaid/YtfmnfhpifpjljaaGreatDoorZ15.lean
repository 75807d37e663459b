/- Part 15 of proofs that are told in their last texts. -/
import Derived.Test.YtfmnfhpifpjljaaGreatDoorTie
import Derived.Test.YtfmnfhpifpjljaaGreatDoorZ5
set_option linter.unusedVariables false
set_option linter.unusedSimpArgs false
set_option maxRecDepth 100000
namespace Go.Proofs.YtfmnfhpifpjljaaGreatDoor.fnMeanFuel
theorem ZJ:((Rows.fnMeanFuelRow.named==Tryz.prog.varsNamed 3))=true:=by kernel_rfl
theorem ZW:(Tryz.prog.mayEnter)=true:=by kernel_rfl
theorem ZX:((Rows.fnMeanFuelRow.lifted==Tryz.prog.liftsFinal))=true:=by kernel_rfl
theorem ZY:((Tryz.prog.make==some Rows.fnMeanFuelRow.make))=true:=by kernel_rfl
theorem ZZ:((Rows.fnMeanFuelRow.kinds==(if Rows.fnMeanFuelRow.domain.isEmpty then[]else Tryz.f3.params.toList.map fun t=>match Tryz.prog.underlying t with|some (.int k)=>some k|_=>none)))=true:=by kernel_rfl
theorem Z0:((Rows.fnMeanFuelRow.pinned==Rows.fnMeanFuelRow.pinnedBy))=true:=by kernel_rfl
theorem Z1:((Rows.fnMeanFuelRow.veiled==(Tryz.f3.params.toList++Rows.fnMeanFuelSpec.plain.varTypes Tryz.prog++Tryz.f3.resultTypes.toList).any (Tryz.prog.veiledRec ·)))=true:=by kernel_rfl
theorem Z2:(Rows.fnMeanFuelRow.veiledFits Tryz.prog Tryz.f3.params.toList (Tryz.f3.params.toList++Rows.fnMeanFuelSpec.plain.varTypes Tryz.prog++Tryz.f3.resultTypes.toList))=true:=by kernel_rfl
end Go.Proofs.YtfmnfhpifpjljaaGreatDoor.fnMeanFuel
