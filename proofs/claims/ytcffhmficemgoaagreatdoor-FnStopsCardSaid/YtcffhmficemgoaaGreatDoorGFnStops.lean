import Derived.Test.YtcffhmficemgoaaGreatDoorRows
import Derived.SevenTiedAt
set_option linter.all false
namespace Go.Proofs.YtcffhmficemgoaaGreatDoor.fnStops
open Go
theorem goes : false = Rows.fnStopsRow.goesBy Tryz.prog := by kernel_rfl
end Go.Proofs.YtcffhmficemgoaaGreatDoor.fnStops
