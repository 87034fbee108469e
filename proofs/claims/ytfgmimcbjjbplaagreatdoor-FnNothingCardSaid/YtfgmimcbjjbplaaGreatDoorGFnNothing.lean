import Derived.Test.YtfgmimcbjjbplaaGreatDoorRows
import Derived.SevenTiedAt
set_option linter.all false
namespace Go.Proofs.YtfgmimcbjjbplaaGreatDoor.fnNothing
open Go
theorem goes : false = Rows.fnNothingRow.goesBy Tryz.prog := by kernel_rfl
end Go.Proofs.YtfgmimcbjjbplaaGreatDoor.fnNothing
