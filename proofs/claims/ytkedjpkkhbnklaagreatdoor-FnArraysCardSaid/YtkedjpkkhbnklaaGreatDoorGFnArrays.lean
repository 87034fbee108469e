import Derived.Test.YtkedjpkkhbnklaaGreatDoorRows
import Derived.SevenTiedAt
set_option linter.all false
namespace Go.Proofs.YtkedjpkkhbnklaaGreatDoor.fnArrays
open Go
theorem goes : false = Rows.fnArraysRow.goesBy Tryz.prog := by kernel_rfl
end Go.Proofs.YtkedjpkkhbnklaaGreatDoor.fnArrays
