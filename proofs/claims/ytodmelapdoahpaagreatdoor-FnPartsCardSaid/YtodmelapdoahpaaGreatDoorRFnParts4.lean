import Derived.Test.YtodmelapdoahpaaGreatDoorRFnParts0
set_option linter.all false
set_option maxRecDepth 1000000
namespace Go.Ev
open Go
theorem gP3_0 (a b c d : TypeId) : Good (EAns tab 100000 noO 300 eP3_0.f eP3_0.a (hP a b c d) eP3_0.v eP3_0.nb eP3_0.n1) := good_of (s := .ok) (by kernel_rfl) (by kernel_rfl)
theorem gO3_0 (a b c d : TypeId) : Good (EAns tab 100000 (orcY (tO [])) 300 eO3_0.f eO3_0.a (hO3_0 a b c d) eO3_0.v eO3_0.nb eO3_0.n1) := good_of (s := .ok) (by kernel_rfl) (by kernel_rfl)
theorem jP3_0 (a b c d : TypeId) : GS F3_0 a b c d := ⟨by rw [show hListN F3_0.e.n0 (tabs a b c d) = hP a b c d from qP a b c d]; exact (gP3_0 a b c d).out, by rw [show hListN F3_0.o.n0 (tabs a b c d ++ F3_0.o.hp) = hO3_0 a b c d by kernel_rfl]; exact (gO3_0 a b c d).out⟩
theorem kP3_0 : ((List.range 8).all fun m => (List.range 5).all fun n => ckB F3_0 m n) = true := by kernel_rfl
theorem gP3_1 (a b c d : TypeId) : Good (EAns tab 100000 noO 300 eP3_1.f eP3_1.a (hP a b c d) eP3_1.v eP3_1.nb eP3_1.n1) := good_of (s := .ok) (by kernel_rfl) (by kernel_rfl)
theorem gO3_1 (a b c d : TypeId) : Good (EAns tab 100000 (orcY (tO [])) 300 eO3_1.f eO3_1.a (hO3_1 a b c d) eO3_1.v eO3_1.nb eO3_1.n1) := good_of (s := .ok) (by kernel_rfl) (by kernel_rfl)
theorem jP3_1 (a b c d : TypeId) : GS F3_1 a b c d := ⟨by rw [show hListN F3_1.e.n0 (tabs a b c d) = hP a b c d from qP a b c d]; exact (gP3_1 a b c d).out, by rw [show hListN F3_1.o.n0 (tabs a b c d ++ F3_1.o.hp) = hO3_1 a b c d by kernel_rfl]; exact (gO3_1 a b c d).out⟩
theorem kP3_1 : ((List.range 1).all fun m => (List.range 5).all fun n => ckB F3_1 m n) = true := by kernel_rfl
end Go.Ev
