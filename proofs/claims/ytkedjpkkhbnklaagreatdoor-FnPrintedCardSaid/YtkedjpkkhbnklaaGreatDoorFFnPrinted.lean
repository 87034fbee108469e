import Derived.Test.YtkedjpkkhbnklaaGreatDoorRows
import Derived.JoinedOf
import Derived.SevenTiedAt
set_option linter.all false
namespace Go.Proofs.YtkedjpkkhbnklaaGreatDoor.fnPrinted
open Go
theorem h10 : (Rows.fnPrintedRow.inPlace == Tryz.prog.inPlace 5) = true := by kernel_rfl
theorem h11 : (Rows.fnPrintedRow.unfollowed == Tryz.prog.unfollowed 5) = true := by kernel_rfl
theorem h12 : (Rows.fnPrintedRow.recurses == Tryz.prog.recurses 5) = true := by kernel_rfl
theorem h13 : (Rows.fnPrintedRow.named == Tryz.prog.varsNamed 5) = true := by kernel_rfl
set_option maxRecDepth 100000 in
theorem closed : joinedFacts Tryz.prog 5 Tryz.f5 Rows.fnPrintedSpec Rows.fnPrintedRow = true := by
  unfold joinedFacts
  rw [h10, h11, h12, h13]
  kernel_rfl
theorem ws22 : ([22].all fun u => !Tryz.prog.wantsStandIn u) = true := by kernel_rfl
theorem looks : true = Tryz.prog.looks [] := by kernel_rfl
theorem wf : Rows.fnPrintedRow.wfByText (OpenSpec.ofChange Rows.fnPrintedSpec) = true := by kernel_rfl
end Go.Proofs.YtkedjpkkhbnklaaGreatDoor.fnPrinted
