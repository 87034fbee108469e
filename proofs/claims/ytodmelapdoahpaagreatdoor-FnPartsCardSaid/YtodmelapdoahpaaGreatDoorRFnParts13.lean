import Derived.Test.YtodmelapdoahpaaGreatDoorRFnParts0
set_option linter.all false
set_option maxRecDepth 1000000
namespace Go.Ev
open Go
theorem rP1_6 (a b c d : TypeId) : allV (fun n => aP F1_0 1 6 5 n a b c d) 5 = okV 5 := by kernel_rfl
theorem rP1_7 (a b c d : TypeId) : allV (fun n => aP F1_0 1 7 6 n a b c d) 5 = okV 5 := by kernel_rfl
theorem rP1_8 (a b c d : TypeId) : allV (fun n => aP F1_0 1 8 7 n a b c d) 5 = okV 5 := by kernel_rfl
end Go.Ev
