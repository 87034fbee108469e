import Derived.Test.YtkedjpkkhbnklaaGreatDoorLaFnPrinted
set_option linter.all false
set_option maxRecDepth 1000000
namespace Go.Ev
open Go
theorem rFnPrinted19x0 (a b c d : TypeId) : allV (fun v => ansX 5 (Nat.add 228 v) a b c d) 4 = okV 4 := by kernel_rfl
theorem gFnPrinted19x0 (v : Nat) (h : 228 ≤ v) (h2 : v ≤ 231) (a b c d : TypeId) : Good (ansX 5 v a b c d) := by
  have g : good (ansX 5 (Nat.add 228 (v - 228)) a b c d) := allV_good (f := fun v => ansX 5 (Nat.add 228 v) a b c d) (n := 4) (by rw [rFnPrinted19x0 a b c d]; exact okV_good _) (v - 228) (by omega)
  rw [show Nat.add 228 (v - 228) = v by show 228 + (v - 228) = v; omega] at g
  exact ⟨g⟩
theorem rFnPrinted19x4 (a b c d : TypeId) : allV (fun v => ansX 5 (Nat.add 232 v) a b c d) 4 = okV 4 := by kernel_rfl
theorem gFnPrinted19x4 (v : Nat) (h : 232 ≤ v) (h2 : v ≤ 235) (a b c d : TypeId) : Good (ansX 5 v a b c d) := by
  have g : good (ansX 5 (Nat.add 232 (v - 232)) a b c d) := allV_good (f := fun v => ansX 5 (Nat.add 232 v) a b c d) (n := 4) (by rw [rFnPrinted19x4 a b c d]; exact okV_good _) (v - 232) (by omega)
  rw [show Nat.add 232 (v - 232) = v by show 232 + (v - 232) = v; omega] at g
  exact ⟨g⟩
theorem rFnPrinted19x8 (a b c d : TypeId) : allV (fun v => ansX 5 (Nat.add 236 v) a b c d) 4 = okV 4 := by kernel_rfl
theorem gFnPrinted19x8 (v : Nat) (h : 236 ≤ v) (h2 : v ≤ 239) (a b c d : TypeId) : Good (ansX 5 v a b c d) := by
  have g : good (ansX 5 (Nat.add 236 (v - 236)) a b c d) := allV_good (f := fun v => ansX 5 (Nat.add 236 v) a b c d) (n := 4) (by rw [rFnPrinted19x8 a b c d]; exact okV_good _) (v - 236) (by omega)
  rw [show Nat.add 236 (v - 236) = v by show 236 + (v - 236) = v; omega] at g
  exact ⟨g⟩
theorem gFnPrinted19 (v : Nat) (h : 228 ≤ v) (h2 : v ≤ 239) (a b c d : TypeId) : Good (ansX 5 v a b c d) := by
  have e : (228 ≤ v ∧ v ≤ 231) ∨ (232 ≤ v ∧ v ≤ 235) ∨ (236 ≤ v ∧ v ≤ 239) := by omega
  rcases e with ⟨p, q⟩ | ⟨p, q⟩ | ⟨p, q⟩
  · exact gFnPrinted19x0 v p q a b c d
  · exact gFnPrinted19x4 v p q a b c d
  · exact gFnPrinted19x8 v p q a b c d
end Go.Ev
