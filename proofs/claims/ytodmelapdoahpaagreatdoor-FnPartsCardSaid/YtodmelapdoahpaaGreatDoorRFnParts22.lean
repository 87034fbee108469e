import Derived.Test.YtodmelapdoahpaaGreatDoorRFnParts0
set_option linter.all false
set_option maxRecDepth 1000000
namespace Go.Ev
open Go
theorem rP4_6 (a b c d : TypeId) : allV (fun n => aP F4_0 4 6 5 n a b c d) 5 = okV 5 := by kernel_rfl
theorem rP4_7 (a b c d : TypeId) : allV (fun n => aP F4_0 4 7 6 n a b c d) 5 = okV 5 := by kernel_rfl
theorem rP4_8 (a b c d : TypeId) : allV (fun n => aP F4_0 4 8 7 n a b c d) 5 = okV 5 := by kernel_rfl
end Go.Ev
