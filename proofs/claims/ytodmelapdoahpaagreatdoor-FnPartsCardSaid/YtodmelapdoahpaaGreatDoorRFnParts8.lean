import Derived.Test.YtodmelapdoahpaaGreatDoorRFnParts0
set_option linter.all false
set_option maxRecDepth 1000000
namespace Go.Ev
open Go
noncomputable def oPe (a b c d : TypeId) : Orc := oF F0_1 0 0 a b c d (orcP 109 idxT (orcT fun _ => none))
theorem rPe (a b c d : TypeId) : Good (Answer tab 100000 (oPe a b c d) 300 4 [.eslice] (H0 a b c d)) := good_of (s := .ok) (by kernel_rfl) (by kernel_rfl)
theorem rP0_0 (a b c d : TypeId) : allV (fun n => aP F0_1 0 0 0 n a b c d) 5 = okV 5 := by kernel_rfl
theorem rP0_1 (a b c d : TypeId) : allV (fun n => aP F0_0 0 1 0 n a b c d) 5 = okV 5 := by kernel_rfl
theorem rP0_2 (a b c d : TypeId) : allV (fun n => aP F0_0 0 2 1 n a b c d) 5 = okV 5 := by kernel_rfl
end Go.Ev
