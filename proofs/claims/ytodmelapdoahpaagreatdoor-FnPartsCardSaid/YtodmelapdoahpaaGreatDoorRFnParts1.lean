import Derived.Test.YtodmelapdoahpaaGreatDoorRFnParts0
set_option linter.all false
set_option maxRecDepth 1000000
namespace Go.Ev
open Go
theorem gP0_0 (a b c d : TypeId) : Good (EAns tab 100000 noO 300 eP0_0.f eP0_0.a (hP a b c d) eP0_0.v eP0_0.nb eP0_0.n1) := good_of (s := .ok) (by kernel_rfl) (by kernel_rfl)
theorem gO0_0 (a b c d : TypeId) : Good (EAns tab 100000 (orcY (tO [])) 300 eO0_0.f eO0_0.a (hO0_0 a b c d) eO0_0.v eO0_0.nb eO0_0.n1) := good_of (s := .ok) (by kernel_rfl) (by kernel_rfl)
theorem jP0_0 (a b c d : TypeId) : GS F0_0 a b c d := ⟨by rw [show hListN F0_0.e.n0 (tabs a b c d) = hP a b c d from qP a b c d]; exact (gP0_0 a b c d).out, by rw [show hListN F0_0.o.n0 (tabs a b c d ++ F0_0.o.hp) = hO0_0 a b c d by kernel_rfl]; exact (gO0_0 a b c d).out⟩
theorem kP0_0 : ((List.range 8).all fun m => (List.range 5).all fun n => ckB F0_0 m n) = true := by kernel_rfl
theorem gP0_1 (a b c d : TypeId) : Good (EAns tab 100000 noO 300 eP0_1.f eP0_1.a (hP a b c d) eP0_1.v eP0_1.nb eP0_1.n1) := good_of (s := .ok) (by kernel_rfl) (by kernel_rfl)
theorem gO0_1 (a b c d : TypeId) : Good (EAns tab 100000 (orcY (tO [])) 300 eO0_1.f eO0_1.a (hO0_1 a b c d) eO0_1.v eO0_1.nb eO0_1.n1) := good_of (s := .ok) (by kernel_rfl) (by kernel_rfl)
theorem jP0_1 (a b c d : TypeId) : GS F0_1 a b c d := ⟨by rw [show hListN F0_1.e.n0 (tabs a b c d) = hP a b c d from qP a b c d]; exact (gP0_1 a b c d).out, by rw [show hListN F0_1.o.n0 (tabs a b c d ++ F0_1.o.hp) = hO0_1 a b c d by kernel_rfl]; exact (gO0_1 a b c d).out⟩
theorem kP0_1 : ((List.range 1).all fun m => (List.range 5).all fun n => ckB F0_1 m n) = true := by kernel_rfl
end Go.Ev
