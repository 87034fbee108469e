import Derived.Test.YtodmelapdoahpaaGreatDoorRFnParts0
set_option linter.all false
set_option maxRecDepth 1000000
namespace Go.Ev
open Go
theorem rP2_0 (a b c d : TypeId) : allV (fun n => aP F2_1 2 0 0 n a b c d) 5 = okV 5 := by kernel_rfl
theorem rP2_1 (a b c d : TypeId) : allV (fun n => aP F2_0 2 1 0 n a b c d) 5 = okV 5 := by kernel_rfl
theorem rP2_2 (a b c d : TypeId) : allV (fun n => aP F2_0 2 2 1 n a b c d) 5 = okV 5 := by kernel_rfl
end Go.Ev
