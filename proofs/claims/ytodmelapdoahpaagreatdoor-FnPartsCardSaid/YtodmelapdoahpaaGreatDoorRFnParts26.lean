import Derived.Test.YtodmelapdoahpaaGreatDoorRFnParts0
set_option linter.all false
set_option maxRecDepth 1000000
namespace Go.Ev
open Go
theorem rP6_0 (a b c d : TypeId) : allV (fun n => aP F6_1 6 0 0 n a b c d) 5 = okV 5 := by kernel_rfl
theorem rP6_1 (a b c d : TypeId) : allV (fun n => aP F6_0 6 1 0 n a b c d) 5 = okV 5 := by kernel_rfl
theorem rP6_2 (a b c d : TypeId) : allV (fun n => aP F6_0 6 2 1 n a b c d) 5 = okV 5 := by kernel_rfl
end Go.Ev
