import Derived.Test.YtodmelapdoahpaaGreatDoorRFnParts0
set_option linter.all false
set_option maxRecDepth 1000000
namespace Go.Ev
open Go
theorem rP3_6 (a b c d : TypeId) : allV (fun n => aP F3_0 3 6 5 n a b c d) 5 = okV 5 := by kernel_rfl
theorem rP3_7 (a b c d : TypeId) : allV (fun n => aP F3_0 3 7 6 n a b c d) 5 = okV 5 := by kernel_rfl
theorem rP3_8 (a b c d : TypeId) : allV (fun n => aP F3_0 3 8 7 n a b c d) 5 = okV 5 := by kernel_rfl
end Go.Ev
