import Derived.Test.YtkedjpkkhbnklaaGreatDoorLaFnPrinted
set_option linter.all false
set_option maxRecDepth 1000000
namespace Go.Ev
open Go
theorem rFnPrinted5x0 (a b c d : TypeId) : allV (fun v => ansX 5 (Nat.add 60 v) a b c d) 4 = okV 4 := by kernel_rfl
theorem gFnPrinted5x0 (v : Nat) (h : 60 ≤ v) (h2 : v ≤ 63) (a b c d : TypeId) : Good (ansX 5 v a b c d) := by
  have g : good (ansX 5 (Nat.add 60 (v - 60)) a b c d) := allV_good (f := fun v => ansX 5 (Nat.add 60 v) a b c d) (n := 4) (by rw [rFnPrinted5x0 a b c d]; exact okV_good _) (v - 60) (by omega)
  rw [show Nat.add 60 (v - 60) = v by show 60 + (v - 60) = v; omega] at g
  exact ⟨g⟩
theorem rFnPrinted5x4 (a b c d : TypeId) : allV (fun v => ansX 5 (Nat.add 64 v) a b c d) 4 = okV 4 := by kernel_rfl
theorem gFnPrinted5x4 (v : Nat) (h : 64 ≤ v) (h2 : v ≤ 67) (a b c d : TypeId) : Good (ansX 5 v a b c d) := by
  have g : good (ansX 5 (Nat.add 64 (v - 64)) a b c d) := allV_good (f := fun v => ansX 5 (Nat.add 64 v) a b c d) (n := 4) (by rw [rFnPrinted5x4 a b c d]; exact okV_good _) (v - 64) (by omega)
  rw [show Nat.add 64 (v - 64) = v by show 64 + (v - 64) = v; omega] at g
  exact ⟨g⟩
theorem rFnPrinted5x8 (a b c d : TypeId) : allV (fun v => ansX 5 (Nat.add 68 v) a b c d) 4 = okV 4 := by kernel_rfl
theorem gFnPrinted5x8 (v : Nat) (h : 68 ≤ v) (h2 : v ≤ 71) (a b c d : TypeId) : Good (ansX 5 v a b c d) := by
  have g : good (ansX 5 (Nat.add 68 (v - 68)) a b c d) := allV_good (f := fun v => ansX 5 (Nat.add 68 v) a b c d) (n := 4) (by rw [rFnPrinted5x8 a b c d]; exact okV_good _) (v - 68) (by omega)
  rw [show Nat.add 68 (v - 68) = v by show 68 + (v - 68) = v; omega] at g
  exact ⟨g⟩
theorem gFnPrinted5 (v : Nat) (h : 60 ≤ v) (h2 : v ≤ 71) (a b c d : TypeId) : Good (ansX 5 v a b c d) := by
  have e : (60 ≤ v ∧ v ≤ 63) ∨ (64 ≤ v ∧ v ≤ 67) ∨ (68 ≤ v ∧ v ≤ 71) := by omega
  rcases e with ⟨p, q⟩ | ⟨p, q⟩ | ⟨p, q⟩
  · exact gFnPrinted5x0 v p q a b c d
  · exact gFnPrinted5x4 v p q a b c d
  · exact gFnPrinted5x8 v p q a b c d
end Go.Ev
