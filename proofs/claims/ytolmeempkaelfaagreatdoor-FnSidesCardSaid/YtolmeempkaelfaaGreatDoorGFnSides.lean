import Derived.Test.YtolmeempkaelfaaGreatDoorRows
import Derived.SevenTiedAt
set_option linter.all false
namespace Go.Proofs.YtolmeempkaelfaaGreatDoor.fnSides
open Go
theorem goes : false = Rows.fnSidesRow.goesBy Tryz.prog := by kernel_rfl
end Go.Proofs.YtolmeempkaelfaaGreatDoor.fnSides
