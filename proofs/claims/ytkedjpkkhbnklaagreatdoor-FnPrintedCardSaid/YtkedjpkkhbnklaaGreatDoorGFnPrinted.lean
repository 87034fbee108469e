import Derived.Test.YtkedjpkkhbnklaaGreatDoorRows
import Derived.SevenTiedAt
set_option linter.all false
namespace Go.Proofs.YtkedjpkkhbnklaaGreatDoor.fnPrinted
open Go
theorem goes : false = Rows.fnPrintedRow.goesBy Tryz.prog := by kernel_rfl
end Go.Proofs.YtkedjpkkhbnklaaGreatDoor.fnPrinted
