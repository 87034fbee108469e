import Derived.Test.YtcffhmficemgoaaGreatDoorRows
import Derived.SevenTiedAt
set_option linter.all false
namespace Go.Proofs.YtcffhmficemgoaaGreatDoor.fnCalled
open Go
theorem goes : false = Rows.fnCalledRow.goesBy Tryz.prog := by kernel_rfl
end Go.Proofs.YtcffhmficemgoaaGreatDoor.fnCalled
