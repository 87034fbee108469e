import Derived.Test.YtkedjpkkhbnklaaGreatDoorLaFnPrinted
set_option linter.all false
set_option maxRecDepth 1000000
namespace Go.Ev
open Go
theorem rFnPrinted14x0 (a b c d : TypeId) : allV (fun v => ansX 5 (Nat.add 168 v) a b c d) 4 = okV 4 := by kernel_rfl
theorem gFnPrinted14x0 (v : Nat) (h : 168 ≤ v) (h2 : v ≤ 171) (a b c d : TypeId) : Good (ansX 5 v a b c d) := by
  have g : good (ansX 5 (Nat.add 168 (v - 168)) a b c d) := allV_good (f := fun v => ansX 5 (Nat.add 168 v) a b c d) (n := 4) (by rw [rFnPrinted14x0 a b c d]; exact okV_good _) (v - 168) (by omega)
  rw [show Nat.add 168 (v - 168) = v by show 168 + (v - 168) = v; omega] at g
  exact ⟨g⟩
theorem rFnPrinted14x4 (a b c d : TypeId) : allV (fun v => ansX 5 (Nat.add 172 v) a b c d) 4 = okV 4 := by kernel_rfl
theorem gFnPrinted14x4 (v : Nat) (h : 172 ≤ v) (h2 : v ≤ 175) (a b c d : TypeId) : Good (ansX 5 v a b c d) := by
  have g : good (ansX 5 (Nat.add 172 (v - 172)) a b c d) := allV_good (f := fun v => ansX 5 (Nat.add 172 v) a b c d) (n := 4) (by rw [rFnPrinted14x4 a b c d]; exact okV_good _) (v - 172) (by omega)
  rw [show Nat.add 172 (v - 172) = v by show 172 + (v - 172) = v; omega] at g
  exact ⟨g⟩
theorem rFnPrinted14x8 (a b c d : TypeId) : allV (fun v => ansX 5 (Nat.add 176 v) a b c d) 4 = okV 4 := by kernel_rfl
theorem gFnPrinted14x8 (v : Nat) (h : 176 ≤ v) (h2 : v ≤ 179) (a b c d : TypeId) : Good (ansX 5 v a b c d) := by
  have g : good (ansX 5 (Nat.add 176 (v - 176)) a b c d) := allV_good (f := fun v => ansX 5 (Nat.add 176 v) a b c d) (n := 4) (by rw [rFnPrinted14x8 a b c d]; exact okV_good _) (v - 176) (by omega)
  rw [show Nat.add 176 (v - 176) = v by show 176 + (v - 176) = v; omega] at g
  exact ⟨g⟩
theorem gFnPrinted14 (v : Nat) (h : 168 ≤ v) (h2 : v ≤ 179) (a b c d : TypeId) : Good (ansX 5 v a b c d) := by
  have e : (168 ≤ v ∧ v ≤ 171) ∨ (172 ≤ v ∧ v ≤ 175) ∨ (176 ≤ v ∧ v ≤ 179) := by omega
  rcases e with ⟨p, q⟩ | ⟨p, q⟩ | ⟨p, q⟩
  · exact gFnPrinted14x0 v p q a b c d
  · exact gFnPrinted14x4 v p q a b c d
  · exact gFnPrinted14x8 v p q a b c d
end Go.Ev
