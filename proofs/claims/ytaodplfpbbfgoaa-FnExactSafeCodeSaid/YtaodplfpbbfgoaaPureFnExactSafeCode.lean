/- The program's SafeCode answers what the reference's does, for every int: true exactly for the codes 0 to 6. No conditions. This text proves the pure statement that the printed row leaves open. -/
import Derived.Test.YtaodplfpbbfgoaaPFnExactSafeCodex1
namespace Go.Proofs.Ytaodplfpbbfgoaa.Pure
open Go.RowKit Go.Proofs.Ytaodplfpbbfgoaa.PFnExactSafeCode Go.Proofs.YtaodplfpbbfgoaaW.PrintWords Go.Proofs.YtaodplfpbbfgoaaW.PrintLast

theorem at7 (a i : Int) (k : Nat) (h0 : 0 ≤ i) (h : i < 7) : slices_Index_int_int.l0 (k + 1) [0, 1, 2, 3, 4, 5, 6] a 7 i
    = if a = rd ([0, 1, 2, 3, 4, 5, 6] : List Int) i then some i else slices_Index_int_int.l0 k [0, 1, 2, 3, 4, 5, 6] a 7 (i + 1) := by
  simp only [slices_Index_int_int.l0]
  rw [if_pos h, if_pos h0, if_pos (by simpa using h)]
  have : wrap64 (i + 1) = i + 1 := by unfold wrap64; omega
  rw [this]

theorem out7 (a : Int) : slices_Index_int_int.l0 1 [0, 1, 2, 3, 4, 5, 6] a 7 7 = some (-1) := by
  simp only [slices_Index_int_int.l0]
  rw [if_neg (by omega)]

theorem FnExactSafeCode : laws_FnExactSafeCode.Pure := by
  intro a h
  refine ⟨8, ?_⟩
  have hi : slices_Index_int_int.f 8 [0, 1, 2, 3, 4, 5, 6] a = if 0 ≤ a ∧ a ≤ 6 then some a else some (-1) := by
    unfold slices_Index_int_int.f
    show slices_Index_int_int.l0 8 [0, 1, 2, 3, 4, 5, 6] a 7 0 = _
    rw [at7 a 0 7 (by omega) (by omega), at7 a _ 6 (by omega) (by omega), at7 a _ 5 (by omega) (by omega), at7 a _ 4 (by omega) (by omega), at7 a _ 3 (by omega) (by omega), at7 a _ 2 (by omega) (by omega), at7 a _ 1 (by omega) (by omega)]
    simp only [show (0 : Int) + 1 + 1 + 1 + 1 + 1 + 1 + 1 = 7 from rfl, out7]
    by_cases c : 0 ≤ a ∧ a ≤ 6
    · have : a = 0 ∨ a = 1 ∨ a = 2 ∨ a = 3 ∨ a = 4 ∨ a = 5 ∨ a = 6 := by omega
      rcases this with rfl | rfl | rfl | rfl | rfl | rfl | rfl <;> decide
    · rw [if_neg c]
      have n (j : Int) (hj : 0 ≤ j ∧ j ≤ 6) : a ≠ j := by omega
      have e (j : Int) (hj : 0 ≤ j ∧ j ≤ 6) (hr : rd ([0, 1, 2, 3, 4, 5, 6] : List Int) j = j) : a ≠ rd ([0, 1, 2, 3, 4, 5, 6] : List Int) j := by rw [hr]; exact n j hj
      rw [if_neg (e 0 (by omega) rfl), if_neg (e _ (by omega) rfl), if_neg (e _ (by omega) rfl), if_neg (e _ (by omega) rfl), if_neg (e _ (by omega) rfl), if_neg (e _ (by omega) rfl), if_neg (e _ (by omega) rfl)]
  unfold laws_FnExactSafeCode.f spec_SafeCode.f impl_SafeCode.f slices_Contains_int_int.f
  rw [hi]
  by_cases c : 0 ≤ a ∧ a ≤ 6
  · have c1 : a ≥ 0 := c.1
    rw [if_pos c, if_pos c1]
    simp [c.1, c.2]
  · rw [if_neg c]
    by_cases c1 : a ≥ 0
    · rw [if_pos c1]
      have : ¬ a ≤ 6 := by omega
      simp [this]
    · rw [if_neg c1]; simp

end Go.Proofs.Ytaodplfpbbfgoaa.Pure
