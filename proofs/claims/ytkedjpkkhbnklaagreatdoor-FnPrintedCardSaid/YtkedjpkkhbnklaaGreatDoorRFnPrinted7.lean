import Derived.Test.YtkedjpkkhbnklaaGreatDoorLaFnPrinted
set_option linter.all false
set_option maxRecDepth 1000000
namespace Go.Ev
open Go
theorem rFnPrinted7x0 (a b c d : TypeId) : allV (fun v => ansX 5 (Nat.add 84 v) a b c d) 4 = okV 4 := by kernel_rfl
theorem gFnPrinted7x0 (v : Nat) (h : 84 ≤ v) (h2 : v ≤ 87) (a b c d : TypeId) : Good (ansX 5 v a b c d) := by
  have g : good (ansX 5 (Nat.add 84 (v - 84)) a b c d) := allV_good (f := fun v => ansX 5 (Nat.add 84 v) a b c d) (n := 4) (by rw [rFnPrinted7x0 a b c d]; exact okV_good _) (v - 84) (by omega)
  rw [show Nat.add 84 (v - 84) = v by show 84 + (v - 84) = v; omega] at g
  exact ⟨g⟩
theorem rFnPrinted7x4 (a b c d : TypeId) : allV (fun v => ansX 5 (Nat.add 88 v) a b c d) 4 = okV 4 := by kernel_rfl
theorem gFnPrinted7x4 (v : Nat) (h : 88 ≤ v) (h2 : v ≤ 91) (a b c d : TypeId) : Good (ansX 5 v a b c d) := by
  have g : good (ansX 5 (Nat.add 88 (v - 88)) a b c d) := allV_good (f := fun v => ansX 5 (Nat.add 88 v) a b c d) (n := 4) (by rw [rFnPrinted7x4 a b c d]; exact okV_good _) (v - 88) (by omega)
  rw [show Nat.add 88 (v - 88) = v by show 88 + (v - 88) = v; omega] at g
  exact ⟨g⟩
theorem rFnPrinted7x8 (a b c d : TypeId) : allV (fun v => ansX 5 (Nat.add 92 v) a b c d) 4 = okV 4 := by kernel_rfl
theorem gFnPrinted7x8 (v : Nat) (h : 92 ≤ v) (h2 : v ≤ 95) (a b c d : TypeId) : Good (ansX 5 v a b c d) := by
  have g : good (ansX 5 (Nat.add 92 (v - 92)) a b c d) := allV_good (f := fun v => ansX 5 (Nat.add 92 v) a b c d) (n := 4) (by rw [rFnPrinted7x8 a b c d]; exact okV_good _) (v - 92) (by omega)
  rw [show Nat.add 92 (v - 92) = v by show 92 + (v - 92) = v; omega] at g
  exact ⟨g⟩
theorem gFnPrinted7 (v : Nat) (h : 84 ≤ v) (h2 : v ≤ 95) (a b c d : TypeId) : Good (ansX 5 v a b c d) := by
  have e : (84 ≤ v ∧ v ≤ 87) ∨ (88 ≤ v ∧ v ≤ 91) ∨ (92 ≤ v ∧ v ≤ 95) := by omega
  rcases e with ⟨p, q⟩ | ⟨p, q⟩ | ⟨p, q⟩
  · exact gFnPrinted7x0 v p q a b c d
  · exact gFnPrinted7x4 v p q a b c d
  · exact gFnPrinted7x8 v p q a b c d
end Go.Ev
