import Derived.Test.YtfgmimcbjjbplaaGreatDoorRows
import Derived.JoinedOf
import Derived.SevenTiedAt
set_option linter.all false
namespace Go.Proofs.YtfgmimcbjjbplaaGreatDoor.fnJoined
open Go
theorem h10 : (Rows.fnJoinedRow.inPlace == Tryz.prog.inPlace 6) = true := by kernel_rfl
theorem h11 : (Rows.fnJoinedRow.unfollowed == Tryz.prog.unfollowed 6) = true := by kernel_rfl
theorem h12 : (Rows.fnJoinedRow.recurses == Tryz.prog.recurses 6) = true := by kernel_rfl
theorem h13 : (Rows.fnJoinedRow.named == Tryz.prog.varsNamed 6) = true := by kernel_rfl
set_option maxRecDepth 100000 in
theorem closed : joinedFacts Tryz.prog 6 Tryz.f6 Rows.fnJoinedSpec Rows.fnJoinedRow = true := by
  unfold joinedFacts
  rw [h10, h11, h12, h13]
  kernel_rfl
theorem ws22 : ([22].all fun u => !Tryz.prog.wantsStandIn u) = true := by kernel_rfl
theorem looks : true = Tryz.prog.looks [] := by kernel_rfl
theorem wf : Rows.fnJoinedRow.wfByText (OpenSpec.ofChange Rows.fnJoinedSpec) = true := by kernel_rfl
end Go.Proofs.YtfgmimcbjjbplaaGreatDoor.fnJoined
