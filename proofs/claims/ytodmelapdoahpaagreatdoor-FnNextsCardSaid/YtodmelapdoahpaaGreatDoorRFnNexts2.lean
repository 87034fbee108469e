import Derived.Test.YtodmelapdoahpaaGreatDoorRFnNexts0
set_option linter.all false
set_option maxRecDepth 1000000
namespace Go.Ev
open Go
theorem r0_ (a b c d : TypeId) : Good (aN F0_ 0 0 [U0, U1, U2, U3, U4, U5] a b c d) := good_of (s := .ok) (by kernel_rfl) (by kernel_rfl)
theorem r1_ (a b c d : TypeId) : Good (aN F1_ 1 1 [U0, U1, U2, U3, U4, U5] a b c d) := good_of (s := .ok) (by kernel_rfl) (by kernel_rfl)
theorem r2_ (a b c d : TypeId) : allV (fun u => aN F1_ 2 2 [V0 u, U1, U2, U3, U4, U5] a b c d) 3 = k1 := by kernel_rfl
theorem r3_ (a b c d : TypeId) : allV (fun u => allV (fun v => aN F1_ 3 3 [V0 u, V1 v, U2, U3, U4, U5] a b c d) 3) 3 = k2 := by kernel_rfl
theorem r4_ (a b c d : TypeId) : allV (fun u => allV (fun v => allV (fun w => aN F1_ 4 4 [V0 u, V1 v, V2 w, U3, U4, U5] a b c d) 3) 3) 3 = k3 := by kernel_rfl
end Go.Ev
