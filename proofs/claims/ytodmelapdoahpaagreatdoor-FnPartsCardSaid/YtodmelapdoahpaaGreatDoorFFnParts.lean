import Derived.Test.YtodmelapdoahpaaGreatDoorRows
import Derived.JoinedOf
import Derived.SevenTiedAt
set_option linter.all false
namespace Go.Proofs.YtodmelapdoahpaaGreatDoor.fnParts
open Go
theorem h10 : (Rows.fnPartsRow.inPlace == Tryz.prog.inPlace 4) = true := by kernel_rfl
theorem h11 : (Rows.fnPartsRow.unfollowed == Tryz.prog.unfollowed 4) = true := by kernel_rfl
theorem h12 : (Rows.fnPartsRow.recurses == Tryz.prog.recurses 4) = true := by kernel_rfl
theorem h13 : (Rows.fnPartsRow.named == Tryz.prog.varsNamed 4) = true := by kernel_rfl
set_option maxRecDepth 100000 in
theorem closed : joinedFacts Tryz.prog 4 Tryz.f4 Rows.fnPartsSpec Rows.fnPartsRow = true := by
  unfold joinedFacts
  rw [h10, h11, h12, h13]
  kernel_rfl
theorem ws22 : ([22].all fun u => !Tryz.prog.wantsStandIn u) = true := by kernel_rfl
theorem looks : true = Tryz.prog.looks [] := by kernel_rfl
theorem wf : Rows.fnPartsRow.wfByText (OpenSpec.ofChange Rows.fnPartsSpec) = true := by kernel_rfl
end Go.Proofs.YtodmelapdoahpaaGreatDoor.fnParts
