import Derived.Test.YtodmelapdoahpaaGreatDoorRFnParts0
set_option linter.all false
set_option maxRecDepth 1000000
namespace Go.Ev
open Go
theorem gP2_0 (a b c d : TypeId) : Good (EAns tab 100000 noO 300 eP2_0.f eP2_0.a (hP a b c d) eP2_0.v eP2_0.nb eP2_0.n1) := good_of (s := .ok) (by kernel_rfl) (by kernel_rfl)
theorem gO2_0 (a b c d : TypeId) : Good (EAns tab 100000 (orcY (tO [])) 300 eO2_0.f eO2_0.a (hO2_0 a b c d) eO2_0.v eO2_0.nb eO2_0.n1) := good_of (s := .ok) (by kernel_rfl) (by kernel_rfl)
theorem jP2_0 (a b c d : TypeId) : GS F2_0 a b c d := ⟨by rw [show hListN F2_0.e.n0 (tabs a b c d) = hP a b c d from qP a b c d]; exact (gP2_0 a b c d).out, by rw [show hListN F2_0.o.n0 (tabs a b c d ++ F2_0.o.hp) = hO2_0 a b c d by kernel_rfl]; exact (gO2_0 a b c d).out⟩
theorem kP2_0 : ((List.range 8).all fun m => (List.range 5).all fun n => ckB F2_0 m n) = true := by kernel_rfl
theorem gP2_1 (a b c d : TypeId) : Good (EAns tab 100000 noO 300 eP2_1.f eP2_1.a (hP a b c d) eP2_1.v eP2_1.nb eP2_1.n1) := good_of (s := .ok) (by kernel_rfl) (by kernel_rfl)
theorem gO2_1 (a b c d : TypeId) : Good (EAns tab 100000 (orcY (tO [])) 300 eO2_1.f eO2_1.a (hO2_1 a b c d) eO2_1.v eO2_1.nb eO2_1.n1) := good_of (s := .ok) (by kernel_rfl) (by kernel_rfl)
theorem jP2_1 (a b c d : TypeId) : GS F2_1 a b c d := ⟨by rw [show hListN F2_1.e.n0 (tabs a b c d) = hP a b c d from qP a b c d]; exact (gP2_1 a b c d).out, by rw [show hListN F2_1.o.n0 (tabs a b c d ++ F2_1.o.hp) = hO2_1 a b c d by kernel_rfl]; exact (gO2_1 a b c d).out⟩
theorem kP2_1 : ((List.range 1).all fun m => (List.range 5).all fun n => ckB F2_1 m n) = true := by kernel_rfl
end Go.Ev
