import Derived.Test.YtodmelapdoahpaaGreatDoorRFnParts0
set_option linter.all false
set_option maxRecDepth 1000000
namespace Go.Ev
open Go
theorem rP5_6 (a b c d : TypeId) : allV (fun n => aP F5_0 5 6 5 n a b c d) 5 = okV 5 := by kernel_rfl
theorem rP5_7 (a b c d : TypeId) : allV (fun n => aP F5_0 5 7 6 n a b c d) 5 = okV 5 := by kernel_rfl
theorem rP5_8 (a b c d : TypeId) : allV (fun n => aP F5_0 5 8 7 n a b c d) 5 = okV 5 := by kernel_rfl
end Go.Ev
