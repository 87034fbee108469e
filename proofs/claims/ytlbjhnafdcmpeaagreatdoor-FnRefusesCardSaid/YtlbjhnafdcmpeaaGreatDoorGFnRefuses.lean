import Derived.Test.YtlbjhnafdcmpeaaGreatDoorRows
import Derived.SevenTiedAt
set_option linter.all false
namespace Go.Proofs.YtlbjhnafdcmpeaaGreatDoor.fnRefuses
open Go
theorem goes : false = Rows.fnRefusesRow.goesBy Tryz.prog := by kernel_rfl
end Go.Proofs.YtlbjhnafdcmpeaaGreatDoor.fnRefuses
