import Derived.Test.YtodmelapdoahpaaGreatDoorRFnNexts0
set_option linter.all false
set_option maxRecDepth 1000000
namespace Go.Ev
open Go
theorem r7_000 (a b c d : TypeId) : allV (fun u => allV (fun v => allV (fun w => aN F1_ 7 7 [V0 0, V1 0, V2 0, V3 u, V4 v, V5 w] a b c d) 3) 3) 3 = k3 := by kernel_rfl
theorem r7_001 (a b c d : TypeId) : allV (fun u => allV (fun v => allV (fun w => aN F1_ 7 7 [V0 0, V1 0, V2 1, V3 u, V4 v, V5 w] a b c d) 3) 3) 3 = k3 := by kernel_rfl
end Go.Ev
