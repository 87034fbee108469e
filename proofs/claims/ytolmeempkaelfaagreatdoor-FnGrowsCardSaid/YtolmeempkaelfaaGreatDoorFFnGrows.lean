import Derived.Test.YtolmeempkaelfaaGreatDoorRows
import Derived.JoinedOf
import Derived.SevenTiedAt
set_option linter.all false
namespace Go.Proofs.YtolmeempkaelfaaGreatDoor.fnGrows
open Go
theorem h10 : (Rows.fnGrowsRow.inPlace == Tryz.prog.inPlace 4) = true := by kernel_rfl
theorem h11 : (Rows.fnGrowsRow.unfollowed == Tryz.prog.unfollowed 4) = true := by kernel_rfl
theorem h12 : (Rows.fnGrowsRow.recurses == Tryz.prog.recurses 4) = true := by kernel_rfl
theorem h13 : (Rows.fnGrowsRow.named == Tryz.prog.varsNamed 4) = true := by kernel_rfl
set_option maxRecDepth 100000 in
theorem closed : joinedFacts Tryz.prog 4 Tryz.f4 Rows.fnGrowsSpec Rows.fnGrowsRow = true := by
  unfold joinedFacts
  rw [h10, h11, h12, h13]
  kernel_rfl
theorem ws22 : ([22].all fun u => !Tryz.prog.wantsStandIn u) = true := by kernel_rfl
theorem looks : true = Tryz.prog.looks [] := by kernel_rfl
theorem wf : Rows.fnGrowsRow.wfByText (OpenSpec.ofChange Rows.fnGrowsSpec) = true := by kernel_rfl
end Go.Proofs.YtolmeempkaelfaaGreatDoor.fnGrows
