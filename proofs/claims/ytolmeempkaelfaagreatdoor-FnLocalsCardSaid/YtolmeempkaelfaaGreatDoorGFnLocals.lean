import Derived.Test.YtolmeempkaelfaaGreatDoorRows
import Derived.SevenTiedAt
set_option linter.all false
namespace Go.Proofs.YtolmeempkaelfaaGreatDoor.fnLocals
open Go
theorem goes : false = Rows.fnLocalsRow.goesBy Tryz.prog := by kernel_rfl
end Go.Proofs.YtolmeempkaelfaaGreatDoor.fnLocals
