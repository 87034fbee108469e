import Derived.Test.YtcffhmficemgoaaGreatDoorRows
import Derived.SevenTiedAt
set_option linter.all false
namespace Go.Proofs.YtcffhmficemgoaaGreatDoor.fnLoops
open Go
theorem goes : false = Rows.fnLoopsRow.goesBy Tryz.prog := by kernel_rfl
end Go.Proofs.YtcffhmficemgoaaGreatDoor.fnLoops
