import Derived.Test.YtodmelapdoahpaaGreatDoorRFnNexts0
set_option linter.all false
set_option maxRecDepth 1000000
namespace Go.Ev
open Go
theorem r5_0 (a b c d : TypeId) : allV (fun u => allV (fun v => allV (fun w => aN F1_ 5 5 [V0 0, V1 u, V2 v, V3 w, U4, U5] a b c d) 3) 3) 3 = k3 := by kernel_rfl
theorem r5_1 (a b c d : TypeId) : allV (fun u => allV (fun v => allV (fun w => aN F1_ 5 5 [V0 1, V1 u, V2 v, V3 w, U4, U5] a b c d) 3) 3) 3 = k3 := by kernel_rfl
end Go.Ev
