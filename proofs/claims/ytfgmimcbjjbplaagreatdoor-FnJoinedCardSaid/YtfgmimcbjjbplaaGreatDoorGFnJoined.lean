import Derived.Test.YtfgmimcbjjbplaaGreatDoorRows
import Derived.SevenTiedAt
set_option linter.all false
namespace Go.Proofs.YtfgmimcbjjbplaaGreatDoor.fnJoined
open Go
theorem goes : false = Rows.fnJoinedRow.goesBy Tryz.prog := by kernel_rfl
end Go.Proofs.YtfgmimcbjjbplaaGreatDoor.fnJoined
