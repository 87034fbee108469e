import Derived.Test.YtfgmimcbjjbplaaGreatDoorRows
import Derived.SevenTiedAt
set_option linter.all false
namespace Go.Proofs.YtfgmimcbjjbplaaGreatDoor.fnDeletes
open Go
theorem goes : false = Rows.fnDeletesRow.goesBy Tryz.prog := by kernel_rfl
end Go.Proofs.YtfgmimcbjjbplaaGreatDoor.fnDeletes
