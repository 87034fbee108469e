import Derived.Test.YtodmelapdoahpaaGreatDoorRFnParts0
set_option linter.all false
set_option maxRecDepth 1000000
namespace Go.Ev
open Go
theorem rP5_3 (a b c d : TypeId) : allV (fun n => aP F5_0 5 3 2 n a b c d) 5 = okV 5 := by kernel_rfl
theorem rP5_4 (a b c d : TypeId) : allV (fun n => aP F5_0 5 4 3 n a b c d) 5 = okV 5 := by kernel_rfl
theorem rP5_5 (a b c d : TypeId) : allV (fun n => aP F5_0 5 5 4 n a b c d) 5 = okV 5 := by kernel_rfl
end Go.Ev
