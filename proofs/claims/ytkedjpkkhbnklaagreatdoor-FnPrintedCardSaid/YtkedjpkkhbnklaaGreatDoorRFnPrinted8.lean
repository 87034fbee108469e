import Derived.Test.YtkedjpkkhbnklaaGreatDoorLaFnPrinted
set_option linter.all false
set_option maxRecDepth 1000000
namespace Go.Ev
open Go
theorem rFnPrinted8x0 (a b c d : TypeId) : allV (fun v => ansX 5 (Nat.add 96 v) a b c d) 4 = okV 4 := by kernel_rfl
theorem gFnPrinted8x0 (v : Nat) (h : 96 ≤ v) (h2 : v ≤ 99) (a b c d : TypeId) : Good (ansX 5 v a b c d) := by
  have g : good (ansX 5 (Nat.add 96 (v - 96)) a b c d) := allV_good (f := fun v => ansX 5 (Nat.add 96 v) a b c d) (n := 4) (by rw [rFnPrinted8x0 a b c d]; exact okV_good _) (v - 96) (by omega)
  rw [show Nat.add 96 (v - 96) = v by show 96 + (v - 96) = v; omega] at g
  exact ⟨g⟩
theorem rFnPrinted8x4 (a b c d : TypeId) : allV (fun v => ansX 5 (Nat.add 100 v) a b c d) 4 = okV 4 := by kernel_rfl
theorem gFnPrinted8x4 (v : Nat) (h : 100 ≤ v) (h2 : v ≤ 103) (a b c d : TypeId) : Good (ansX 5 v a b c d) := by
  have g : good (ansX 5 (Nat.add 100 (v - 100)) a b c d) := allV_good (f := fun v => ansX 5 (Nat.add 100 v) a b c d) (n := 4) (by rw [rFnPrinted8x4 a b c d]; exact okV_good _) (v - 100) (by omega)
  rw [show Nat.add 100 (v - 100) = v by show 100 + (v - 100) = v; omega] at g
  exact ⟨g⟩
theorem rFnPrinted8x8 (a b c d : TypeId) : allV (fun v => ansX 5 (Nat.add 104 v) a b c d) 4 = okV 4 := by kernel_rfl
theorem gFnPrinted8x8 (v : Nat) (h : 104 ≤ v) (h2 : v ≤ 107) (a b c d : TypeId) : Good (ansX 5 v a b c d) := by
  have g : good (ansX 5 (Nat.add 104 (v - 104)) a b c d) := allV_good (f := fun v => ansX 5 (Nat.add 104 v) a b c d) (n := 4) (by rw [rFnPrinted8x8 a b c d]; exact okV_good _) (v - 104) (by omega)
  rw [show Nat.add 104 (v - 104) = v by show 104 + (v - 104) = v; omega] at g
  exact ⟨g⟩
theorem gFnPrinted8 (v : Nat) (h : 96 ≤ v) (h2 : v ≤ 107) (a b c d : TypeId) : Good (ansX 5 v a b c d) := by
  have e : (96 ≤ v ∧ v ≤ 99) ∨ (100 ≤ v ∧ v ≤ 103) ∨ (104 ≤ v ∧ v ≤ 107) := by omega
  rcases e with ⟨p, q⟩ | ⟨p, q⟩ | ⟨p, q⟩
  · exact gFnPrinted8x0 v p q a b c d
  · exact gFnPrinted8x4 v p q a b c d
  · exact gFnPrinted8x8 v p q a b c d
end Go.Ev
