/- Part 15 of proofs that are told in their last texts. -/
import Derived.Test.YtfmnfhpifpjljaaGreatDoorTie
import Derived.Test.YtfmnfhpifpjljaaGreatDoorQ5
set_option linter.unusedVariables false
set_option linter.unusedSimpArgs false
set_option maxRecDepth 100000
namespace Go.Proofs.YtfmnfhpifpjljaaGreatDoor.fnRename
theorem aau:((Rows.fnRenameRow.named==Tryz.prog.varsNamed 4))=true:=by kernel_rfl
theorem aaH:(Tryz.prog.mayEnter)=true:=by kernel_rfl
theorem aaI:((Rows.fnRenameRow.lifted==Tryz.prog.liftsFinal))=true:=by kernel_rfl
theorem aaJ:((Tryz.prog.make==some Rows.fnRenameRow.make))=true:=by kernel_rfl
theorem aaK:((Rows.fnRenameRow.kinds==(if Rows.fnRenameRow.domain.isEmpty then[]else Tryz.f4.params.toList.map fun t=>match Tryz.prog.underlying t with|some (.int k)=>some k|_=>none)))=true:=by kernel_rfl
theorem aaL:((Rows.fnRenameRow.pinned==Rows.fnRenameRow.pinnedBy))=true:=by kernel_rfl
theorem aaM:((Rows.fnRenameRow.veiled==(Tryz.f4.params.toList++Rows.fnRenameSpec.plain.varTypes Tryz.prog++Tryz.f4.resultTypes.toList).any (Tryz.prog.veiledRec ·)))=true:=by kernel_rfl
theorem aaN:(Rows.fnRenameRow.veiledFits Tryz.prog Tryz.f4.params.toList (Tryz.f4.params.toList++Rows.fnRenameSpec.plain.varTypes Tryz.prog++Tryz.f4.resultTypes.toList))=true:=by kernel_rfl
end Go.Proofs.YtfmnfhpifpjljaaGreatDoor.fnRename
