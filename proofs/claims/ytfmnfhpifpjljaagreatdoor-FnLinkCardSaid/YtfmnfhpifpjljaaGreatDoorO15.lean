/- Part 15 of proofs that are told in their last texts. -/
import Derived.Test.YtfmnfhpifpjljaaGreatDoorTie
import Derived.Test.YtfmnfhpifpjljaaGreatDoorO5
set_option linter.unusedVariables false
set_option linter.unusedSimpArgs false
set_option maxRecDepth 100000
namespace Go.Proofs.YtfmnfhpifpjljaaGreatDoor.fnLink
theorem Yh:((Rows.fnLinkRow.named==Tryz.prog.varsNamed 5))=true:=by kernel_rfl
theorem Yu:(Tryz.prog.mayEnter)=true:=by kernel_rfl
theorem Yv:((Rows.fnLinkRow.lifted==Tryz.prog.liftsFinal))=true:=by kernel_rfl
theorem Yw:((Tryz.prog.make==some Rows.fnLinkRow.make))=true:=by kernel_rfl
theorem Yx:((Rows.fnLinkRow.kinds==(if Rows.fnLinkRow.domain.isEmpty then[]else Tryz.f5.params.toList.map fun t=>match Tryz.prog.underlying t with|some (.int k)=>some k|_=>none)))=true:=by kernel_rfl
theorem Yy:((Rows.fnLinkRow.pinned==Rows.fnLinkRow.pinnedBy))=true:=by kernel_rfl
theorem Yz:((Rows.fnLinkRow.veiled==(Tryz.f5.params.toList++Rows.fnLinkSpec.plain.varTypes Tryz.prog++Tryz.f5.resultTypes.toList).any (Tryz.prog.veiledRec ·)))=true:=by kernel_rfl
theorem YA:(Rows.fnLinkRow.veiledFits Tryz.prog Tryz.f5.params.toList (Tryz.f5.params.toList++Rows.fnLinkSpec.plain.varTypes Tryz.prog++Tryz.f5.resultTypes.toList))=true:=by kernel_rfl
end Go.Proofs.YtfmnfhpifpjljaaGreatDoor.fnLink
