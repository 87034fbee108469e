import Derived.Test.YtkedjpkkhbnklaaGreatDoorLaFnPrinted
set_option linter.all false
set_option maxRecDepth 1000000
namespace Go.Ev
open Go
theorem rFnPrinted20x0 (a b c d : TypeId) : allV (fun v => ansX 5 (Nat.add 240 v) a b c d) 4 = okV 4 := by kernel_rfl
theorem gFnPrinted20x0 (v : Nat) (h : 240 ≤ v) (h2 : v ≤ 243) (a b c d : TypeId) : Good (ansX 5 v a b c d) := by
  have g : good (ansX 5 (Nat.add 240 (v - 240)) a b c d) := allV_good (f := fun v => ansX 5 (Nat.add 240 v) a b c d) (n := 4) (by rw [rFnPrinted20x0 a b c d]; exact okV_good _) (v - 240) (by omega)
  rw [show Nat.add 240 (v - 240) = v by show 240 + (v - 240) = v; omega] at g
  exact ⟨g⟩
theorem rFnPrinted20x4 (a b c d : TypeId) : allV (fun v => ansX 5 (Nat.add 244 v) a b c d) 4 = okV 4 := by kernel_rfl
theorem gFnPrinted20x4 (v : Nat) (h : 244 ≤ v) (h2 : v ≤ 247) (a b c d : TypeId) : Good (ansX 5 v a b c d) := by
  have g : good (ansX 5 (Nat.add 244 (v - 244)) a b c d) := allV_good (f := fun v => ansX 5 (Nat.add 244 v) a b c d) (n := 4) (by rw [rFnPrinted20x4 a b c d]; exact okV_good _) (v - 244) (by omega)
  rw [show Nat.add 244 (v - 244) = v by show 244 + (v - 244) = v; omega] at g
  exact ⟨g⟩
theorem rFnPrinted20x8 (a b c d : TypeId) : allV (fun v => ansX 5 (Nat.add 248 v) a b c d) 4 = okV 4 := by kernel_rfl
theorem gFnPrinted20x8 (v : Nat) (h : 248 ≤ v) (h2 : v ≤ 251) (a b c d : TypeId) : Good (ansX 5 v a b c d) := by
  have g : good (ansX 5 (Nat.add 248 (v - 248)) a b c d) := allV_good (f := fun v => ansX 5 (Nat.add 248 v) a b c d) (n := 4) (by rw [rFnPrinted20x8 a b c d]; exact okV_good _) (v - 248) (by omega)
  rw [show Nat.add 248 (v - 248) = v by show 248 + (v - 248) = v; omega] at g
  exact ⟨g⟩
theorem gFnPrinted20 (v : Nat) (h : 240 ≤ v) (h2 : v ≤ 251) (a b c d : TypeId) : Good (ansX 5 v a b c d) := by
  have e : (240 ≤ v ∧ v ≤ 243) ∨ (244 ≤ v ∧ v ≤ 247) ∨ (248 ≤ v ∧ v ≤ 251) := by omega
  rcases e with ⟨p, q⟩ | ⟨p, q⟩ | ⟨p, q⟩
  · exact gFnPrinted20x0 v p q a b c d
  · exact gFnPrinted20x4 v p q a b c d
  · exact gFnPrinted20x8 v p q a b c d
end Go.Ev
