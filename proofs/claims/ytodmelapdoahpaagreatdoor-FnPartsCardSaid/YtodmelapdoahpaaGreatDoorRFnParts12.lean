import Derived.Test.YtodmelapdoahpaaGreatDoorRFnParts0
set_option linter.all false
set_option maxRecDepth 1000000
namespace Go.Ev
open Go
theorem rP1_3 (a b c d : TypeId) : allV (fun n => aP F1_0 1 3 2 n a b c d) 5 = okV 5 := by kernel_rfl
theorem rP1_4 (a b c d : TypeId) : allV (fun n => aP F1_0 1 4 3 n a b c d) 5 = okV 5 := by kernel_rfl
theorem rP1_5 (a b c d : TypeId) : allV (fun n => aP F1_0 1 5 4 n a b c d) 5 = okV 5 := by kernel_rfl
end Go.Ev
