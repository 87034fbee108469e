import Derived.Test.YtodmelapdoahpaaGreatDoorRows
import Derived.JoinedOf
import Derived.SevenTiedAt
set_option linter.all false
namespace Go.Proofs.YtodmelapdoahpaaGreatDoor.fnNexts
open Go
theorem h10 : (Rows.fnNextsRow.inPlace == Tryz.prog.inPlace 3) = true := by kernel_rfl
theorem h11 : (Rows.fnNextsRow.unfollowed == Tryz.prog.unfollowed 3) = true := by kernel_rfl
theorem h12 : (Rows.fnNextsRow.recurses == Tryz.prog.recurses 3) = true := by kernel_rfl
theorem h13 : (Rows.fnNextsRow.named == Tryz.prog.varsNamed 3) = true := by kernel_rfl
set_option maxRecDepth 100000 in
theorem closed : joinedFacts Tryz.prog 3 Tryz.f3 Rows.fnNextsSpec Rows.fnNextsRow = true := by
  unfold joinedFacts
  rw [h10, h11, h12, h13]
  kernel_rfl
theorem ws22 : ([22].all fun u => !Tryz.prog.wantsStandIn u) = true := by kernel_rfl
theorem looks : true = Tryz.prog.looks [] := by kernel_rfl
theorem wf : Rows.fnNextsRow.wfByText (OpenSpec.ofChange Rows.fnNextsSpec) = true := by kernel_rfl
end Go.Proofs.YtodmelapdoahpaaGreatDoor.fnNexts
