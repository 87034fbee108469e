import Derived.Test.YtolmeempkaelfaaGreatDoorRows
import Derived.SevenTiedAt
set_option linter.all false
namespace Go.Proofs.YtolmeempkaelfaaGreatDoor.fnGrows
open Go
theorem goes : false = Rows.fnGrowsRow.goesBy Tryz.prog := by kernel_rfl
end Go.Proofs.YtolmeempkaelfaaGreatDoor.fnGrows
