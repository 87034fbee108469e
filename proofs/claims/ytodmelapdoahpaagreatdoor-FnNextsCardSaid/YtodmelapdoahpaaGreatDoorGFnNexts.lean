import Derived.Test.YtodmelapdoahpaaGreatDoorRows
import Derived.SevenTiedAt
set_option linter.all false
namespace Go.Proofs.YtodmelapdoahpaaGreatDoor.fnNexts
open Go
theorem goes : false = Rows.fnNextsRow.goesBy Tryz.prog := by kernel_rfl
end Go.Proofs.YtodmelapdoahpaaGreatDoor.fnNexts
