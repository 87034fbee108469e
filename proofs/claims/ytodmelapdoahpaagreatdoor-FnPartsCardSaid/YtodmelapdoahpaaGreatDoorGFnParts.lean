import Derived.Test.YtodmelapdoahpaaGreatDoorRows
import Derived.SevenTiedAt
set_option linter.all false
namespace Go.Proofs.YtodmelapdoahpaaGreatDoor.fnParts
open Go
theorem goes : false = Rows.fnPartsRow.goesBy Tryz.prog := by kernel_rfl
end Go.Proofs.YtodmelapdoahpaaGreatDoor.fnParts
