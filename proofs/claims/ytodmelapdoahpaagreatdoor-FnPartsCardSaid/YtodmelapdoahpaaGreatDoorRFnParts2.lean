import Derived.Test.YtodmelapdoahpaaGreatDoorRFnParts0
set_option linter.all false
set_option maxRecDepth 1000000
namespace Go.Ev
open Go
theorem gP1_0 (a b c d : TypeId) : Good (EAns tab 100000 noO 300 eP1_0.f eP1_0.a (hP a b c d) eP1_0.v eP1_0.nb eP1_0.n1) := good_of (s := .ok) (by kernel_rfl) (by kernel_rfl)
theorem gO1_0 (a b c d : TypeId) : Good (EAns tab 100000 (orcY (tO [])) 300 eO1_0.f eO1_0.a (hO1_0 a b c d) eO1_0.v eO1_0.nb eO1_0.n1) := good_of (s := .ok) (by kernel_rfl) (by kernel_rfl)
theorem jP1_0 (a b c d : TypeId) : GS F1_0 a b c d := ⟨by rw [show hListN F1_0.e.n0 (tabs a b c d) = hP a b c d from qP a b c d]; exact (gP1_0 a b c d).out, by rw [show hListN F1_0.o.n0 (tabs a b c d ++ F1_0.o.hp) = hO1_0 a b c d by kernel_rfl]; exact (gO1_0 a b c d).out⟩
theorem kP1_0 : ((List.range 8).all fun m => (List.range 5).all fun n => ckB F1_0 m n) = true := by kernel_rfl
theorem gP1_1 (a b c d : TypeId) : Good (EAns tab 100000 noO 300 eP1_1.f eP1_1.a (hP a b c d) eP1_1.v eP1_1.nb eP1_1.n1) := good_of (s := .ok) (by kernel_rfl) (by kernel_rfl)
theorem gO1_1 (a b c d : TypeId) : Good (EAns tab 100000 (orcY (tO [])) 300 eO1_1.f eO1_1.a (hO1_1 a b c d) eO1_1.v eO1_1.nb eO1_1.n1) := good_of (s := .ok) (by kernel_rfl) (by kernel_rfl)
theorem jP1_1 (a b c d : TypeId) : GS F1_1 a b c d := ⟨by rw [show hListN F1_1.e.n0 (tabs a b c d) = hP a b c d from qP a b c d]; exact (gP1_1 a b c d).out, by rw [show hListN F1_1.o.n0 (tabs a b c d ++ F1_1.o.hp) = hO1_1 a b c d by kernel_rfl]; exact (gO1_1 a b c d).out⟩
theorem kP1_1 : ((List.range 1).all fun m => (List.range 5).all fun n => ckB F1_1 m n) = true := by kernel_rfl
end Go.Ev
