import Derived.Test.YtodmelapdoahpaaGreatDoorRFnParts0
set_option linter.all false
set_option maxRecDepth 1000000
namespace Go.Ev
open Go
theorem rP2_3 (a b c d : TypeId) : allV (fun n => aP F2_0 2 3 2 n a b c d) 5 = okV 5 := by kernel_rfl
theorem rP2_4 (a b c d : TypeId) : allV (fun n => aP F2_0 2 4 3 n a b c d) 5 = okV 5 := by kernel_rfl
theorem rP2_5 (a b c d : TypeId) : allV (fun n => aP F2_0 2 5 4 n a b c d) 5 = okV 5 := by kernel_rfl
end Go.Ev
