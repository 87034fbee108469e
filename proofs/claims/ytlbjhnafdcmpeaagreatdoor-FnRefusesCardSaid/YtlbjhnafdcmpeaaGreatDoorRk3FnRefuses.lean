import Derived.Test.YtlbjhnafdcmpeaaGreatDoorRk0FnRefuses
set_option linter.all false
set_option maxRecDepth 1000000
namespace Go.Ev
open Go
def eK0_2 : Ent := ⟨28, [(.ptr (nat_lit 6045) n0)], (nat_lit 8771), [(nat_lit 6045, cK10), (nat_lit 4972, cK11), (nat_lit 4636, cK12), (nat_lit 4456, cK3), (nat_lit 4780, cK13), (nat_lit 4647, cK4), (nat_lit 4965, cK14), (nat_lit 4869, cK15), (nat_lit 4958, cK16), (nat_lit 4640, cK6), (nat_lit 4595, cK17), (nat_lit 4873, cK18), (nat_lit 4415, cK7), (nat_lit 4975, cK19), (nat_lit 4684, cK20)], (.gslice (nat_lit 8968) n0 n5 n3), [(nat_lit 8968, cK21)], (nat_lit 8999)⟩
def hK0_2 (a b c d : TypeId) : Heap := ⟨(nat_lit 8771), (tE (tA (tK1 a) (tE (tE (tE (tE (tE .e (tE (tE .e (tE (tE (tE (uA cK7) .e) .e) .e)) .e)) .e) (tE .e (tE .e (tE (tE .e (tE .e (tE (tE (uA cK19) .e) .e))) .e)))) (tE (tE .e (tE (tE (tE (tE .e (tE (tE (uA cK4) .e) .e)) .e) .e) .e)) .e)) (tE (tE .e (tE .e (tE .e (tE .e (tE .e (tE (tE (tE (uA cK17) .e) .e) .e)))))) .e)) (tA (tK5 c) (tE .e (tE (tE (tE (tE (tE .e (tE .e (tE (tE (uA cK18) .e) .e))) .e) .e) .e) .e)) (tE (tE (tE (tE (tE (tE .e (tE .e (tE (tE (uA cK15) .e) .e))) .e) .e) (tE .e (tE (tE .e (tE .e (tE (tE (uA cK14) .e) .e))) .e))) .e) (tE .e (tE (tE (tE .e (tE .e (tE .e (tE .e (tE (uA cK10) .e))))) .e) .e))))) (tA (tK2 d) (tA (tK4 b) (tE (tE (tE .e (tE (tE (tE (tE .e (tE (tE (uA cK6) .e) .e)) .e) .e) .e)) .e) (tE (tE .e (tE .e (tE (tE .e (tE (tE (tE (uA cK3) .e) .e) .e)) .e))) .e)) (tE .e (tE (tE (tE .e (tE (tE (tE .e (tE (tE (uA cK20) .e) .e)) .e) .e)) (tE (tE .e (tE (tE .e (tE (tE (uA cK13) .e) .e)) .e)) (tE (tE .e (tE .e (tE (tE (uA cK11) .e) .e))) .e))) (tE (tE (tE (tE (tE .e (tE (tE (uA cK12) .e) .e)) .e) .e) .e) .e)))) (tE .e (tE .e (tE .e (tE (tE .e (tE (tE .e (tE .e (tE (tE (uA cK16) .e) .e))) .e)) .e))))))⟩
theorem qK0_2 (a b c d : TypeId) : hListN (eK0_2).n0 (tabs a b c d ++ (eK0_2).hp) = hK0_2 a b c d := by kernel_rfl
theorem gK0_2 (a b c d : TypeId) : KGood eK0_2 (hK0_2 a b c d) := good_of (s := (shA [5, 4, 3, 2])) (by kernel_rfl) (by kernel_rfl)
theorem kK0_2 : allRg (eK0_2).hp = true ∧ allFrom (eK0_2).n0 (eK0_2).nb = true := ⟨by kernel_rfl, by kernel_rfl⟩
end Go.Ev
