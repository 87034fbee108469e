import Derived.Test.YtodmelapdoahpaaGreatDoorRFnNexts0
set_option linter.all false
set_option maxRecDepth 1000000
namespace Go.Ev
open Go
theorem gP0 (a b c d : TypeId) : Good (EAns tab 100000 noO 300 eP0.f eP0.a (hP a b c d) eP0.v eP0.nb eP0.n1) := good_of (s := .ok) (by kernel_rfl) (by kernel_rfl)
theorem gO0 (a b c d : TypeId) : Good (EAns tab 100000 (orcY (tO [])) 300 eO0.f eO0.a (hO0 a b c d) eO0.v eO0.nb eO0.n1) := good_of (s := .ok) (by kernel_rfl) (by kernel_rfl)
theorem jP0 (a b c d : TypeId) : GS F0_ a b c d := ⟨by rw [show hListN F0_.e.n0 (tabs a b c d) = hP a b c d from qP a b c d]; exact (gP0 a b c d).out, by rw [show hListN F0_.o.n0 (tabs a b c d ++ F0_.o.hp) = hO0 a b c d by kernel_rfl]; exact (gO0 a b c d).out⟩
theorem kP0 : ((List.range 8).all fun m => ckB F0_ m) = true := by kernel_rfl
theorem mP0 : (allFrom F0_.e.n0 F0_.e.nb && (allRg F0_.o.hp && List.isEmpty F0_.o.nb)) = true := by kernel_rfl
theorem gP1 (a b c d : TypeId) : Good (EAns tab 100000 noO 300 eP1.f eP1.a (hP a b c d) eP1.v eP1.nb eP1.n1) := good_of (s := .ok) (by kernel_rfl) (by kernel_rfl)
theorem gO1 (a b c d : TypeId) : Good (EAns tab 100000 (orcY (tO [])) 300 eO1.f eO1.a (hO1 a b c d) eO1.v eO1.nb eO1.n1) := good_of (s := .ok) (by kernel_rfl) (by kernel_rfl)
theorem jP1 (a b c d : TypeId) : GS F1_ a b c d := ⟨by rw [show hListN F1_.e.n0 (tabs a b c d) = hP a b c d from qP a b c d]; exact (gP1 a b c d).out, by rw [show hListN F1_.o.n0 (tabs a b c d ++ F1_.o.hp) = hO1 a b c d by kernel_rfl]; exact (gO1 a b c d).out⟩
theorem kP1 : ((List.range 8).all fun m => ckB F1_ m) = true := by kernel_rfl
theorem mP1 : (allFrom F1_.e.n0 F1_.e.nb && (allRg F1_.o.hp && List.isEmpty F1_.o.nb)) = true := by kernel_rfl
theorem rPe (a b c d : TypeId) : Good (eN F0_ 0 a b c d) := good_of (s := .ok) (by kernel_rfl) (by kernel_rfl)
end Go.Ev
