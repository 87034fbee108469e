import Derived.Test.YtodmelapdoahpaaGreatDoorRFnNexts0
set_option linter.all false
set_option maxRecDepth 1000000
namespace Go.Ev
open Go
theorem r6_10 (a b c d : TypeId) : allV (fun u => allV (fun v => allV (fun w => aN F1_ 6 6 [V0 1, V1 0, V2 u, V3 v, V4 w, U5] a b c d) 3) 3) 3 = k3 := by kernel_rfl
theorem r6_11 (a b c d : TypeId) : allV (fun u => allV (fun v => allV (fun w => aN F1_ 6 6 [V0 1, V1 1, V2 u, V3 v, V4 w, U5] a b c d) 3) 3) 3 = k3 := by kernel_rfl
end Go.Ev
