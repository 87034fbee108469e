import Derived.Test.YtodmelapdoahpaaGreatDoorRFnParts0
set_option linter.all false
set_option maxRecDepth 1000000
namespace Go.Ev
open Go
theorem gP5_0 (a b c d : TypeId) : Good (EAns tab 100000 noO 300 eP5_0.f eP5_0.a (hP a b c d) eP5_0.v eP5_0.nb eP5_0.n1) := good_of (s := .ok) (by kernel_rfl) (by kernel_rfl)
theorem gO5_0 (a b c d : TypeId) : Good (EAns tab 100000 (orcY (tO [])) 300 eO5_0.f eO5_0.a (hO5_0 a b c d) eO5_0.v eO5_0.nb eO5_0.n1) := good_of (s := .ok) (by kernel_rfl) (by kernel_rfl)
theorem jP5_0 (a b c d : TypeId) : GS F5_0 a b c d := ⟨by rw [show hListN F5_0.e.n0 (tabs a b c d) = hP a b c d from qP a b c d]; exact (gP5_0 a b c d).out, by rw [show hListN F5_0.o.n0 (tabs a b c d ++ F5_0.o.hp) = hO5_0 a b c d by kernel_rfl]; exact (gO5_0 a b c d).out⟩
theorem kP5_0 : ((List.range 8).all fun m => (List.range 5).all fun n => ckB F5_0 m n) = true := by kernel_rfl
theorem gP5_1 (a b c d : TypeId) : Good (EAns tab 100000 noO 300 eP5_1.f eP5_1.a (hP a b c d) eP5_1.v eP5_1.nb eP5_1.n1) := good_of (s := .ok) (by kernel_rfl) (by kernel_rfl)
theorem gO5_1 (a b c d : TypeId) : Good (EAns tab 100000 (orcY (tO [])) 300 eO5_1.f eO5_1.a (hO5_1 a b c d) eO5_1.v eO5_1.nb eO5_1.n1) := good_of (s := .ok) (by kernel_rfl) (by kernel_rfl)
theorem jP5_1 (a b c d : TypeId) : GS F5_1 a b c d := ⟨by rw [show hListN F5_1.e.n0 (tabs a b c d) = hP a b c d from qP a b c d]; exact (gP5_1 a b c d).out, by rw [show hListN F5_1.o.n0 (tabs a b c d ++ F5_1.o.hp) = hO5_1 a b c d by kernel_rfl]; exact (gO5_1 a b c d).out⟩
theorem kP5_1 : ((List.range 1).all fun m => (List.range 5).all fun n => ckB F5_1 m n) = true := by kernel_rfl
end Go.Ev
