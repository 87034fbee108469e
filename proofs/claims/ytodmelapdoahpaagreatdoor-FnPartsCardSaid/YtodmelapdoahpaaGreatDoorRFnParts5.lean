import Derived.Test.YtodmelapdoahpaaGreatDoorRFnParts0
set_option linter.all false
set_option maxRecDepth 1000000
namespace Go.Ev
open Go
theorem gP4_0 (a b c d : TypeId) : Good (EAns tab 100000 noO 300 eP4_0.f eP4_0.a (hP a b c d) eP4_0.v eP4_0.nb eP4_0.n1) := good_of (s := .ok) (by kernel_rfl) (by kernel_rfl)
theorem gO4_0 (a b c d : TypeId) : Good (EAns tab 100000 (orcY (tO [])) 300 eO4_0.f eO4_0.a (hO4_0 a b c d) eO4_0.v eO4_0.nb eO4_0.n1) := good_of (s := .ok) (by kernel_rfl) (by kernel_rfl)
theorem jP4_0 (a b c d : TypeId) : GS F4_0 a b c d := ⟨by rw [show hListN F4_0.e.n0 (tabs a b c d) = hP a b c d from qP a b c d]; exact (gP4_0 a b c d).out, by rw [show hListN F4_0.o.n0 (tabs a b c d ++ F4_0.o.hp) = hO4_0 a b c d by kernel_rfl]; exact (gO4_0 a b c d).out⟩
theorem kP4_0 : ((List.range 8).all fun m => (List.range 5).all fun n => ckB F4_0 m n) = true := by kernel_rfl
theorem gP4_1 (a b c d : TypeId) : Good (EAns tab 100000 noO 300 eP4_1.f eP4_1.a (hP a b c d) eP4_1.v eP4_1.nb eP4_1.n1) := good_of (s := .ok) (by kernel_rfl) (by kernel_rfl)
theorem gO4_1 (a b c d : TypeId) : Good (EAns tab 100000 (orcY (tO [])) 300 eO4_1.f eO4_1.a (hO4_1 a b c d) eO4_1.v eO4_1.nb eO4_1.n1) := good_of (s := .ok) (by kernel_rfl) (by kernel_rfl)
theorem jP4_1 (a b c d : TypeId) : GS F4_1 a b c d := ⟨by rw [show hListN F4_1.e.n0 (tabs a b c d) = hP a b c d from qP a b c d]; exact (gP4_1 a b c d).out, by rw [show hListN F4_1.o.n0 (tabs a b c d ++ F4_1.o.hp) = hO4_1 a b c d by kernel_rfl]; exact (gO4_1 a b c d).out⟩
theorem kP4_1 : ((List.range 1).all fun m => (List.range 5).all fun n => ckB F4_1 m n) = true := by kernel_rfl
end Go.Ev
