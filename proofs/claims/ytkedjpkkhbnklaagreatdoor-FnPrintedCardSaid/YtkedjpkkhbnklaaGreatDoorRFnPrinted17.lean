import Derived.Test.YtkedjpkkhbnklaaGreatDoorLaFnPrinted
set_option linter.all false
set_option maxRecDepth 1000000
namespace Go.Ev
open Go
theorem rFnPrinted17x0 (a b c d : TypeId) : allV (fun v => ansX 5 (Nat.add 204 v) a b c d) 4 = okV 4 := by kernel_rfl
theorem gFnPrinted17x0 (v : Nat) (h : 204 ≤ v) (h2 : v ≤ 207) (a b c d : TypeId) : Good (ansX 5 v a b c d) := by
  have g : good (ansX 5 (Nat.add 204 (v - 204)) a b c d) := allV_good (f := fun v => ansX 5 (Nat.add 204 v) a b c d) (n := 4) (by rw [rFnPrinted17x0 a b c d]; exact okV_good _) (v - 204) (by omega)
  rw [show Nat.add 204 (v - 204) = v by show 204 + (v - 204) = v; omega] at g
  exact ⟨g⟩
theorem rFnPrinted17x4 (a b c d : TypeId) : allV (fun v => ansX 5 (Nat.add 208 v) a b c d) 4 = okV 4 := by kernel_rfl
theorem gFnPrinted17x4 (v : Nat) (h : 208 ≤ v) (h2 : v ≤ 211) (a b c d : TypeId) : Good (ansX 5 v a b c d) := by
  have g : good (ansX 5 (Nat.add 208 (v - 208)) a b c d) := allV_good (f := fun v => ansX 5 (Nat.add 208 v) a b c d) (n := 4) (by rw [rFnPrinted17x4 a b c d]; exact okV_good _) (v - 208) (by omega)
  rw [show Nat.add 208 (v - 208) = v by show 208 + (v - 208) = v; omega] at g
  exact ⟨g⟩
theorem rFnPrinted17x8 (a b c d : TypeId) : allV (fun v => ansX 5 (Nat.add 212 v) a b c d) 4 = okV 4 := by kernel_rfl
theorem gFnPrinted17x8 (v : Nat) (h : 212 ≤ v) (h2 : v ≤ 215) (a b c d : TypeId) : Good (ansX 5 v a b c d) := by
  have g : good (ansX 5 (Nat.add 212 (v - 212)) a b c d) := allV_good (f := fun v => ansX 5 (Nat.add 212 v) a b c d) (n := 4) (by rw [rFnPrinted17x8 a b c d]; exact okV_good _) (v - 212) (by omega)
  rw [show Nat.add 212 (v - 212) = v by show 212 + (v - 212) = v; omega] at g
  exact ⟨g⟩
theorem gFnPrinted17 (v : Nat) (h : 204 ≤ v) (h2 : v ≤ 215) (a b c d : TypeId) : Good (ansX 5 v a b c d) := by
  have e : (204 ≤ v ∧ v ≤ 207) ∨ (208 ≤ v ∧ v ≤ 211) ∨ (212 ≤ v ∧ v ≤ 215) := by omega
  rcases e with ⟨p, q⟩ | ⟨p, q⟩ | ⟨p, q⟩
  · exact gFnPrinted17x0 v p q a b c d
  · exact gFnPrinted17x4 v p q a b c d
  · exact gFnPrinted17x8 v p q a b c d
end Go.Ev
