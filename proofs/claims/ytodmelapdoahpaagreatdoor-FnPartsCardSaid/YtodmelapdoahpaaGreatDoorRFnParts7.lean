import Derived.Test.YtodmelapdoahpaaGreatDoorRFnParts0
set_option linter.all false
set_option maxRecDepth 1000000
namespace Go.Ev
open Go
theorem gP6_0 (a b c d : TypeId) : Good (EAns tab 100000 noO 300 eP6_0.f eP6_0.a (hP a b c d) eP6_0.v eP6_0.nb eP6_0.n1) := good_of (s := .ok) (by kernel_rfl) (by kernel_rfl)
theorem gO6_0 (a b c d : TypeId) : Good (EAns tab 100000 (orcY (tO [])) 300 eO6_0.f eO6_0.a (hO6_0 a b c d) eO6_0.v eO6_0.nb eO6_0.n1) := good_of (s := .ok) (by kernel_rfl) (by kernel_rfl)
theorem jP6_0 (a b c d : TypeId) : GS F6_0 a b c d := ⟨by rw [show hListN F6_0.e.n0 (tabs a b c d) = hP a b c d from qP a b c d]; exact (gP6_0 a b c d).out, by rw [show hListN F6_0.o.n0 (tabs a b c d ++ F6_0.o.hp) = hO6_0 a b c d by kernel_rfl]; exact (gO6_0 a b c d).out⟩
theorem kP6_0 : ((List.range 8).all fun m => (List.range 5).all fun n => ckB F6_0 m n) = true := by kernel_rfl
theorem gP6_1 (a b c d : TypeId) : Good (EAns tab 100000 noO 300 eP6_1.f eP6_1.a (hP a b c d) eP6_1.v eP6_1.nb eP6_1.n1) := good_of (s := .ok) (by kernel_rfl) (by kernel_rfl)
theorem gO6_1 (a b c d : TypeId) : Good (EAns tab 100000 (orcY (tO [])) 300 eO6_1.f eO6_1.a (hO6_1 a b c d) eO6_1.v eO6_1.nb eO6_1.n1) := good_of (s := .ok) (by kernel_rfl) (by kernel_rfl)
theorem jP6_1 (a b c d : TypeId) : GS F6_1 a b c d := ⟨by rw [show hListN F6_1.e.n0 (tabs a b c d) = hP a b c d from qP a b c d]; exact (gP6_1 a b c d).out, by rw [show hListN F6_1.o.n0 (tabs a b c d ++ F6_1.o.hp) = hO6_1 a b c d by kernel_rfl]; exact (gO6_1 a b c d).out⟩
theorem kP6_1 : ((List.range 1).all fun m => (List.range 5).all fun n => ckB F6_1 m n) = true := by kernel_rfl
end Go.Ev
