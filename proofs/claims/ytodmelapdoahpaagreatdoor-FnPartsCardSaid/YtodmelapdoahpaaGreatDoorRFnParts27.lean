import Derived.Test.YtodmelapdoahpaaGreatDoorRFnParts0
set_option linter.all false
set_option maxRecDepth 1000000
namespace Go.Ev
open Go
theorem rP6_3 (a b c d : TypeId) : allV (fun n => aP F6_0 6 3 2 n a b c d) 5 = okV 5 := by kernel_rfl
theorem rP6_4 (a b c d : TypeId) : allV (fun n => aP F6_0 6 4 3 n a b c d) 5 = okV 5 := by kernel_rfl
theorem rP6_5 (a b c d : TypeId) : allV (fun n => aP F6_0 6 5 4 n a b c d) 5 = okV 5 := by kernel_rfl
end Go.Ev
