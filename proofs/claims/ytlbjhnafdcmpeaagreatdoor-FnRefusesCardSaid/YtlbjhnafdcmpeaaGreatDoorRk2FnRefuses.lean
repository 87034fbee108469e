import Derived.Test.YtlbjhnafdcmpeaaGreatDoorRk0FnRefuses
set_option linter.all false
set_option maxRecDepth 1000000
namespace Go.Ev
open Go
def eK0_1 : Ent := ⟨28, [(.ptr (nat_lit 2551) n0)], (nat_lit 3905), [(nat_lit 2551, cK0), (nat_lit 495, cK1), (nat_lit 477, cK2), (nat_lit 303, cK3), (nat_lit 488, cK4), (nat_lit 394, cK5), (nat_lit 481, cK6), (nat_lit 299, cK7), (nat_lit 498, cK8)], (.gslice (nat_lit 3981) n0 n1 n3), [(nat_lit 3981, cK9)], (nat_lit 3982)⟩
def hK0_1 (a b c d : TypeId) : Heap := ⟨(nat_lit 3905), (tE (tA (tK1 a) (tE (tE (tE .e (tE .e (tE (tE (uA cK3) .e) (tE .e (uA cK1))))) (tE .e (tE .e (tE .e (tE .e (tE .e (tE (tE (uA cK0) .e) .e))))))) (tE .e (tE (tE .e (tE (tE (uA cK7) .e) .e)) .e))) (tA (tK5 c) (tE (tE (tE .e (tE .e (tE .e (uA cK6)))) .e) .e) (tE .e (tE .e (tE (tE .e (tE .e (uA cK2))) .e))))) (tA (tK2 d) (tA (tK4 b) (tE .e (tE (tE .e (tE .e (tE .e (uA cK4)))) .e)) .e) (tE (tE (tE .e (tE .e (tE .e (tE .e (uA cK8))))) (tE (tE (tE (tE .e (uA cK5)) .e) .e) .e)) .e)))⟩
theorem qK0_1 (a b c d : TypeId) : hListN (eK0_1).n0 (tabs a b c d ++ (eK0_1).hp) = hK0_1 a b c d := by kernel_rfl
theorem gK0_1 (a b c d : TypeId) : KGood eK0_1 (hK0_1 a b c d) := good_of (s := .ok) (by kernel_rfl) (by kernel_rfl)
theorem kK0_1 : allRg (eK0_1).hp = true ∧ allFrom (eK0_1).n0 (eK0_1).nb = true := ⟨by kernel_rfl, by kernel_rfl⟩
end Go.Ev
