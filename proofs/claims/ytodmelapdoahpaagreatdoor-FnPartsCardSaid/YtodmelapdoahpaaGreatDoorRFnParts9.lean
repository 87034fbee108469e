import Derived.Test.YtodmelapdoahpaaGreatDoorRFnParts0
set_option linter.all false
set_option maxRecDepth 1000000
namespace Go.Ev
open Go
theorem rP0_3 (a b c d : TypeId) : allV (fun n => aP F0_0 0 3 2 n a b c d) 5 = okV 5 := by kernel_rfl
theorem rP0_4 (a b c d : TypeId) : allV (fun n => aP F0_0 0 4 3 n a b c d) 5 = okV 5 := by kernel_rfl
theorem rP0_5 (a b c d : TypeId) : allV (fun n => aP F0_0 0 5 4 n a b c d) 5 = okV 5 := by kernel_rfl
end Go.Ev
