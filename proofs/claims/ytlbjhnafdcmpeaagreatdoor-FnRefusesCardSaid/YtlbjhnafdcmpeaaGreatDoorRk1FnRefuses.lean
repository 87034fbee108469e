import Derived.Test.YtlbjhnafdcmpeaaGreatDoorRk0FnRefuses
set_option linter.all false
set_option maxRecDepth 1000000
namespace Go.Ev
open Go
def eK0_0 : Ent := ⟨28, [(.ptr (nat_lit 1037) n0)], (nat_lit 2391), [(nat_lit 1037, cK0), (nat_lit 495, cK1), (nat_lit 477, cK2), (nat_lit 303, cK3), (nat_lit 488, cK4), (nat_lit 394, cK5), (nat_lit 481, cK6), (nat_lit 299, cK7), (nat_lit 498, cK8)], (.gslice (nat_lit 2467) n0 n1 n3), [(nat_lit 2467, cK9)], (nat_lit 2468)⟩
def hK0_0 (a b c d : TypeId) : Heap := ⟨(nat_lit 2391), (tE (tA (tK1 a) (tE (tE (tE .e (tE .e (tE (tE (uA cK3) .e) (tE .e (uA cK1))))) .e) (tE .e (tE (tE .e (tE (tE (uA cK7) .e) .e)) .e))) (tA (tK5 c) (tE (tE (tE .e (tE .e (tE .e (uA cK6)))) .e) .e) (tE .e (tE (tE (tE (tE (tE (tE (uA cK0) .e) .e) .e) .e) .e) (tE (tE .e (tE .e (uA cK2))) .e))))) (tA (tK2 d) (tA (tK4 b) (tE .e (tE (tE .e (tE .e (tE .e (uA cK4)))) .e)) .e) (tE (tE (tE .e (tE .e (tE .e (tE .e (uA cK8))))) (tE (tE (tE (tE .e (uA cK5)) .e) .e) .e)) .e)))⟩
theorem qK0_0 (a b c d : TypeId) : hListN (eK0_0).n0 (tabs a b c d ++ (eK0_0).hp) = hK0_0 a b c d := by kernel_rfl
theorem gK0_0 (a b c d : TypeId) : KGood eK0_0 (hK0_0 a b c d) := good_of (s := .ok) (by kernel_rfl) (by kernel_rfl)
theorem kK0_0 : allRg (eK0_0).hp = true ∧ allFrom (eK0_0).n0 (eK0_0).nb = true := ⟨by kernel_rfl, by kernel_rfl⟩
end Go.Ev
