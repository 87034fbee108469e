import Derived.Test.YtlbjhnafdcmpeaaGreatDoorRows
import Derived.SevenTiedAt
set_option linter.all false
namespace Go.Proofs.YtlbjhnafdcmpeaaGreatDoor.fnTold
open Go
theorem goes : false = Rows.fnToldRow.goesBy Tryz.prog := by kernel_rfl
end Go.Proofs.YtlbjhnafdcmpeaaGreatDoor.fnTold
