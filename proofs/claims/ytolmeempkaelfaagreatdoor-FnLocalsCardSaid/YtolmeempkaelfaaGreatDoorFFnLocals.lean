import Derived.Test.YtolmeempkaelfaaGreatDoorRows
import Derived.JoinedOf
import Derived.SevenTiedAt
set_option linter.all false
namespace Go.Proofs.YtolmeempkaelfaaGreatDoor.fnLocals
open Go
theorem h10 : (Rows.fnLocalsRow.inPlace == Tryz.prog.inPlace 5) = true := by kernel_rfl
theorem h11 : (Rows.fnLocalsRow.unfollowed == Tryz.prog.unfollowed 5) = true := by kernel_rfl
theorem h12 : (Rows.fnLocalsRow.recurses == Tryz.prog.recurses 5) = true := by kernel_rfl
theorem h13 : (Rows.fnLocalsRow.named == Tryz.prog.varsNamed 5) = true := by kernel_rfl
set_option maxRecDepth 100000 in
theorem closed : joinedFacts Tryz.prog 5 Tryz.f5 Rows.fnLocalsSpec Rows.fnLocalsRow = true := by
  unfold joinedFacts
  rw [h10, h11, h12, h13]
  kernel_rfl
theorem ws22 : ([22].all fun u => !Tryz.prog.wantsStandIn u) = true := by kernel_rfl
theorem looks : true = Tryz.prog.looks [] := by kernel_rfl
theorem wf : Rows.fnLocalsRow.wfByText (OpenSpec.ofChange Rows.fnLocalsSpec) = true := by kernel_rfl
end Go.Proofs.YtolmeempkaelfaaGreatDoor.fnLocals
