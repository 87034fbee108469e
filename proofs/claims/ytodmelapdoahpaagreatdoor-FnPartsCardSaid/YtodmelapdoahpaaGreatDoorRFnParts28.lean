import Derived.Test.YtodmelapdoahpaaGreatDoorRFnParts0
set_option linter.all false
set_option maxRecDepth 1000000
namespace Go.Ev
open Go
theorem rP6_6 (a b c d : TypeId) : allV (fun n => aP F6_0 6 6 5 n a b c d) 5 = okV 5 := by kernel_rfl
theorem rP6_7 (a b c d : TypeId) : allV (fun n => aP F6_0 6 7 6 n a b c d) 5 = okV 5 := by kernel_rfl
theorem rP6_8 (a b c d : TypeId) : allV (fun n => aP F6_0 6 8 7 n a b c d) 5 = okV 5 := by kernel_rfl
end Go.Ev
