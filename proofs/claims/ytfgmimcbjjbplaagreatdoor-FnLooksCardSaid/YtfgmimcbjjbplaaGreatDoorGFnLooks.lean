import Derived.Test.YtfgmimcbjjbplaaGreatDoorRows
import Derived.SevenTiedAt
set_option linter.all false
namespace Go.Proofs.YtfgmimcbjjbplaaGreatDoor.fnLooks
open Go
theorem goes : false = Rows.fnLooksRow.goesBy Tryz.prog := by kernel_rfl
end Go.Proofs.YtfgmimcbjjbplaaGreatDoor.fnLooks
