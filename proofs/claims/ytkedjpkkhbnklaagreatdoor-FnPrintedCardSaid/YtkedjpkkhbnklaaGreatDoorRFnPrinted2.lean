import Derived.Test.YtkedjpkkhbnklaaGreatDoorLaFnPrinted
set_option linter.all false
set_option maxRecDepth 1000000
namespace Go.Ev
open Go
theorem rFnPrinted2x0 (a b c d : TypeId) : allV (fun v => ansX 5 (Nat.add 24 v) a b c d) 4 = okV 4 := by kernel_rfl
theorem gFnPrinted2x0 (v : Nat) (h : 24 ≤ v) (h2 : v ≤ 27) (a b c d : TypeId) : Good (ansX 5 v a b c d) := by
  have g : good (ansX 5 (Nat.add 24 (v - 24)) a b c d) := allV_good (f := fun v => ansX 5 (Nat.add 24 v) a b c d) (n := 4) (by rw [rFnPrinted2x0 a b c d]; exact okV_good _) (v - 24) (by omega)
  rw [show Nat.add 24 (v - 24) = v by show 24 + (v - 24) = v; omega] at g
  exact ⟨g⟩
theorem rFnPrinted2x4 (a b c d : TypeId) : allV (fun v => ansX 5 (Nat.add 28 v) a b c d) 4 = okV 4 := by kernel_rfl
theorem gFnPrinted2x4 (v : Nat) (h : 28 ≤ v) (h2 : v ≤ 31) (a b c d : TypeId) : Good (ansX 5 v a b c d) := by
  have g : good (ansX 5 (Nat.add 28 (v - 28)) a b c d) := allV_good (f := fun v => ansX 5 (Nat.add 28 v) a b c d) (n := 4) (by rw [rFnPrinted2x4 a b c d]; exact okV_good _) (v - 28) (by omega)
  rw [show Nat.add 28 (v - 28) = v by show 28 + (v - 28) = v; omega] at g
  exact ⟨g⟩
theorem rFnPrinted2x8 (a b c d : TypeId) : allV (fun v => ansX 5 (Nat.add 32 v) a b c d) 4 = okV 4 := by kernel_rfl
theorem gFnPrinted2x8 (v : Nat) (h : 32 ≤ v) (h2 : v ≤ 35) (a b c d : TypeId) : Good (ansX 5 v a b c d) := by
  have g : good (ansX 5 (Nat.add 32 (v - 32)) a b c d) := allV_good (f := fun v => ansX 5 (Nat.add 32 v) a b c d) (n := 4) (by rw [rFnPrinted2x8 a b c d]; exact okV_good _) (v - 32) (by omega)
  rw [show Nat.add 32 (v - 32) = v by show 32 + (v - 32) = v; omega] at g
  exact ⟨g⟩
theorem gFnPrinted2 (v : Nat) (h : 24 ≤ v) (h2 : v ≤ 35) (a b c d : TypeId) : Good (ansX 5 v a b c d) := by
  have e : (24 ≤ v ∧ v ≤ 27) ∨ (28 ≤ v ∧ v ≤ 31) ∨ (32 ≤ v ∧ v ≤ 35) := by omega
  rcases e with ⟨p, q⟩ | ⟨p, q⟩ | ⟨p, q⟩
  · exact gFnPrinted2x0 v p q a b c d
  · exact gFnPrinted2x4 v p q a b c d
  · exact gFnPrinted2x8 v p q a b c d
end Go.Ev
