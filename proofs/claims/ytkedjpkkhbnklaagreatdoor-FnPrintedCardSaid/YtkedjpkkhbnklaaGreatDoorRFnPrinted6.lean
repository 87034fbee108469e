import Derived.Test.YtkedjpkkhbnklaaGreatDoorLaFnPrinted
set_option linter.all false
set_option maxRecDepth 1000000
namespace Go.Ev
open Go
theorem rFnPrinted6x0 (a b c d : TypeId) : allV (fun v => ansX 5 (Nat.add 72 v) a b c d) 4 = okV 4 := by kernel_rfl
theorem gFnPrinted6x0 (v : Nat) (h : 72 ≤ v) (h2 : v ≤ 75) (a b c d : TypeId) : Good (ansX 5 v a b c d) := by
  have g : good (ansX 5 (Nat.add 72 (v - 72)) a b c d) := allV_good (f := fun v => ansX 5 (Nat.add 72 v) a b c d) (n := 4) (by rw [rFnPrinted6x0 a b c d]; exact okV_good _) (v - 72) (by omega)
  rw [show Nat.add 72 (v - 72) = v by show 72 + (v - 72) = v; omega] at g
  exact ⟨g⟩
theorem rFnPrinted6x4 (a b c d : TypeId) : allV (fun v => ansX 5 (Nat.add 76 v) a b c d) 4 = okV 4 := by kernel_rfl
theorem gFnPrinted6x4 (v : Nat) (h : 76 ≤ v) (h2 : v ≤ 79) (a b c d : TypeId) : Good (ansX 5 v a b c d) := by
  have g : good (ansX 5 (Nat.add 76 (v - 76)) a b c d) := allV_good (f := fun v => ansX 5 (Nat.add 76 v) a b c d) (n := 4) (by rw [rFnPrinted6x4 a b c d]; exact okV_good _) (v - 76) (by omega)
  rw [show Nat.add 76 (v - 76) = v by show 76 + (v - 76) = v; omega] at g
  exact ⟨g⟩
theorem rFnPrinted6x8 (a b c d : TypeId) : allV (fun v => ansX 5 (Nat.add 80 v) a b c d) 4 = okV 4 := by kernel_rfl
theorem gFnPrinted6x8 (v : Nat) (h : 80 ≤ v) (h2 : v ≤ 83) (a b c d : TypeId) : Good (ansX 5 v a b c d) := by
  have g : good (ansX 5 (Nat.add 80 (v - 80)) a b c d) := allV_good (f := fun v => ansX 5 (Nat.add 80 v) a b c d) (n := 4) (by rw [rFnPrinted6x8 a b c d]; exact okV_good _) (v - 80) (by omega)
  rw [show Nat.add 80 (v - 80) = v by show 80 + (v - 80) = v; omega] at g
  exact ⟨g⟩
theorem gFnPrinted6 (v : Nat) (h : 72 ≤ v) (h2 : v ≤ 83) (a b c d : TypeId) : Good (ansX 5 v a b c d) := by
  have e : (72 ≤ v ∧ v ≤ 75) ∨ (76 ≤ v ∧ v ≤ 79) ∨ (80 ≤ v ∧ v ≤ 83) := by omega
  rcases e with ⟨p, q⟩ | ⟨p, q⟩ | ⟨p, q⟩
  · exact gFnPrinted6x0 v p q a b c d
  · exact gFnPrinted6x4 v p q a b c d
  · exact gFnPrinted6x8 v p q a b c d
end Go.Ev
