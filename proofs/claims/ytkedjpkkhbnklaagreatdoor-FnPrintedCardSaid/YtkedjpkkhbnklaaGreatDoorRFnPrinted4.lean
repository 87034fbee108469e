import Derived.Test.YtkedjpkkhbnklaaGreatDoorLaFnPrinted
set_option linter.all false
set_option maxRecDepth 1000000
namespace Go.Ev
open Go
theorem rFnPrinted4x0 (a b c d : TypeId) : allV (fun v => ansX 5 (Nat.add 48 v) a b c d) 4 = okV 4 := by kernel_rfl
theorem gFnPrinted4x0 (v : Nat) (h : 48 ≤ v) (h2 : v ≤ 51) (a b c d : TypeId) : Good (ansX 5 v a b c d) := by
  have g : good (ansX 5 (Nat.add 48 (v - 48)) a b c d) := allV_good (f := fun v => ansX 5 (Nat.add 48 v) a b c d) (n := 4) (by rw [rFnPrinted4x0 a b c d]; exact okV_good _) (v - 48) (by omega)
  rw [show Nat.add 48 (v - 48) = v by show 48 + (v - 48) = v; omega] at g
  exact ⟨g⟩
theorem rFnPrinted4x4 (a b c d : TypeId) : allV (fun v => ansX 5 (Nat.add 52 v) a b c d) 4 = okV 4 := by kernel_rfl
theorem gFnPrinted4x4 (v : Nat) (h : 52 ≤ v) (h2 : v ≤ 55) (a b c d : TypeId) : Good (ansX 5 v a b c d) := by
  have g : good (ansX 5 (Nat.add 52 (v - 52)) a b c d) := allV_good (f := fun v => ansX 5 (Nat.add 52 v) a b c d) (n := 4) (by rw [rFnPrinted4x4 a b c d]; exact okV_good _) (v - 52) (by omega)
  rw [show Nat.add 52 (v - 52) = v by show 52 + (v - 52) = v; omega] at g
  exact ⟨g⟩
theorem rFnPrinted4x8 (a b c d : TypeId) : allV (fun v => ansX 5 (Nat.add 56 v) a b c d) 4 = okV 4 := by kernel_rfl
theorem gFnPrinted4x8 (v : Nat) (h : 56 ≤ v) (h2 : v ≤ 59) (a b c d : TypeId) : Good (ansX 5 v a b c d) := by
  have g : good (ansX 5 (Nat.add 56 (v - 56)) a b c d) := allV_good (f := fun v => ansX 5 (Nat.add 56 v) a b c d) (n := 4) (by rw [rFnPrinted4x8 a b c d]; exact okV_good _) (v - 56) (by omega)
  rw [show Nat.add 56 (v - 56) = v by show 56 + (v - 56) = v; omega] at g
  exact ⟨g⟩
theorem gFnPrinted4 (v : Nat) (h : 48 ≤ v) (h2 : v ≤ 59) (a b c d : TypeId) : Good (ansX 5 v a b c d) := by
  have e : (48 ≤ v ∧ v ≤ 51) ∨ (52 ≤ v ∧ v ≤ 55) ∨ (56 ≤ v ∧ v ≤ 59) := by omega
  rcases e with ⟨p, q⟩ | ⟨p, q⟩ | ⟨p, q⟩
  · exact gFnPrinted4x0 v p q a b c d
  · exact gFnPrinted4x4 v p q a b c d
  · exact gFnPrinted4x8 v p q a b c d
end Go.Ev
