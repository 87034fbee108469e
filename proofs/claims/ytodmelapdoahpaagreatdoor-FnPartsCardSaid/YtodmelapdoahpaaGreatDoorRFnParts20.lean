import Derived.Test.YtodmelapdoahpaaGreatDoorRFnParts0
set_option linter.all false
set_option maxRecDepth 1000000
namespace Go.Ev
open Go
theorem rP4_0 (a b c d : TypeId) : allV (fun n => aP F4_1 4 0 0 n a b c d) 5 = okV 5 := by kernel_rfl
theorem rP4_1 (a b c d : TypeId) : allV (fun n => aP F4_0 4 1 0 n a b c d) 5 = okV 5 := by kernel_rfl
theorem rP4_2 (a b c d : TypeId) : allV (fun n => aP F4_0 4 2 1 n a b c d) 5 = okV 5 := by kernel_rfl
end Go.Ev
