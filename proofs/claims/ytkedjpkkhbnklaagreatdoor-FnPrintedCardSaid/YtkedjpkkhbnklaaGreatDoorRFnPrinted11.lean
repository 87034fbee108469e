import Derived.Test.YtkedjpkkhbnklaaGreatDoorLaFnPrinted
set_option linter.all false
set_option maxRecDepth 1000000
namespace Go.Ev
open Go
theorem rFnPrinted11x0 (a b c d : TypeId) : allV (fun v => ansX 5 (Nat.add 132 v) a b c d) 4 = okV 4 := by kernel_rfl
theorem gFnPrinted11x0 (v : Nat) (h : 132 ≤ v) (h2 : v ≤ 135) (a b c d : TypeId) : Good (ansX 5 v a b c d) := by
  have g : good (ansX 5 (Nat.add 132 (v - 132)) a b c d) := allV_good (f := fun v => ansX 5 (Nat.add 132 v) a b c d) (n := 4) (by rw [rFnPrinted11x0 a b c d]; exact okV_good _) (v - 132) (by omega)
  rw [show Nat.add 132 (v - 132) = v by show 132 + (v - 132) = v; omega] at g
  exact ⟨g⟩
theorem rFnPrinted11x4 (a b c d : TypeId) : allV (fun v => ansX 5 (Nat.add 136 v) a b c d) 4 = okV 4 := by kernel_rfl
theorem gFnPrinted11x4 (v : Nat) (h : 136 ≤ v) (h2 : v ≤ 139) (a b c d : TypeId) : Good (ansX 5 v a b c d) := by
  have g : good (ansX 5 (Nat.add 136 (v - 136)) a b c d) := allV_good (f := fun v => ansX 5 (Nat.add 136 v) a b c d) (n := 4) (by rw [rFnPrinted11x4 a b c d]; exact okV_good _) (v - 136) (by omega)
  rw [show Nat.add 136 (v - 136) = v by show 136 + (v - 136) = v; omega] at g
  exact ⟨g⟩
theorem rFnPrinted11x8 (a b c d : TypeId) : allV (fun v => ansX 5 (Nat.add 140 v) a b c d) 4 = okV 4 := by kernel_rfl
theorem gFnPrinted11x8 (v : Nat) (h : 140 ≤ v) (h2 : v ≤ 143) (a b c d : TypeId) : Good (ansX 5 v a b c d) := by
  have g : good (ansX 5 (Nat.add 140 (v - 140)) a b c d) := allV_good (f := fun v => ansX 5 (Nat.add 140 v) a b c d) (n := 4) (by rw [rFnPrinted11x8 a b c d]; exact okV_good _) (v - 140) (by omega)
  rw [show Nat.add 140 (v - 140) = v by show 140 + (v - 140) = v; omega] at g
  exact ⟨g⟩
theorem gFnPrinted11 (v : Nat) (h : 132 ≤ v) (h2 : v ≤ 143) (a b c d : TypeId) : Good (ansX 5 v a b c d) := by
  have e : (132 ≤ v ∧ v ≤ 135) ∨ (136 ≤ v ∧ v ≤ 139) ∨ (140 ≤ v ∧ v ≤ 143) := by omega
  rcases e with ⟨p, q⟩ | ⟨p, q⟩ | ⟨p, q⟩
  · exact gFnPrinted11x0 v p q a b c d
  · exact gFnPrinted11x4 v p q a b c d
  · exact gFnPrinted11x8 v p q a b c d
end Go.Ev
