import Derived.Test.YtcffhmficemgoaaGreatDoorRows
import Derived.SevenTiedAt
set_option linter.all false
namespace Go.Proofs.YtcffhmficemgoaaGreatDoor.fnValues
open Go
theorem goes : false = Rows.fnValuesRow.goesBy Tryz.prog := by kernel_rfl
end Go.Proofs.YtcffhmficemgoaaGreatDoor.fnValues
