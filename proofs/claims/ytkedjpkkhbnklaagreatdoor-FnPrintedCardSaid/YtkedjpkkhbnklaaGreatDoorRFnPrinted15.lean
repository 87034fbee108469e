import Derived.Test.YtkedjpkkhbnklaaGreatDoorLaFnPrinted
set_option linter.all false
set_option maxRecDepth 1000000
namespace Go.Ev
open Go
theorem rFnPrinted15x0 (a b c d : TypeId) : allV (fun v => ansX 5 (Nat.add 180 v) a b c d) 4 = okV 4 := by kernel_rfl
theorem gFnPrinted15x0 (v : Nat) (h : 180 ≤ v) (h2 : v ≤ 183) (a b c d : TypeId) : Good (ansX 5 v a b c d) := by
  have g : good (ansX 5 (Nat.add 180 (v - 180)) a b c d) := allV_good (f := fun v => ansX 5 (Nat.add 180 v) a b c d) (n := 4) (by rw [rFnPrinted15x0 a b c d]; exact okV_good _) (v - 180) (by omega)
  rw [show Nat.add 180 (v - 180) = v by show 180 + (v - 180) = v; omega] at g
  exact ⟨g⟩
theorem rFnPrinted15x4 (a b c d : TypeId) : allV (fun v => ansX 5 (Nat.add 184 v) a b c d) 4 = okV 4 := by kernel_rfl
theorem gFnPrinted15x4 (v : Nat) (h : 184 ≤ v) (h2 : v ≤ 187) (a b c d : TypeId) : Good (ansX 5 v a b c d) := by
  have g : good (ansX 5 (Nat.add 184 (v - 184)) a b c d) := allV_good (f := fun v => ansX 5 (Nat.add 184 v) a b c d) (n := 4) (by rw [rFnPrinted15x4 a b c d]; exact okV_good _) (v - 184) (by omega)
  rw [show Nat.add 184 (v - 184) = v by show 184 + (v - 184) = v; omega] at g
  exact ⟨g⟩
theorem rFnPrinted15x8 (a b c d : TypeId) : allV (fun v => ansX 5 (Nat.add 188 v) a b c d) 4 = okV 4 := by kernel_rfl
theorem gFnPrinted15x8 (v : Nat) (h : 188 ≤ v) (h2 : v ≤ 191) (a b c d : TypeId) : Good (ansX 5 v a b c d) := by
  have g : good (ansX 5 (Nat.add 188 (v - 188)) a b c d) := allV_good (f := fun v => ansX 5 (Nat.add 188 v) a b c d) (n := 4) (by rw [rFnPrinted15x8 a b c d]; exact okV_good _) (v - 188) (by omega)
  rw [show Nat.add 188 (v - 188) = v by show 188 + (v - 188) = v; omega] at g
  exact ⟨g⟩
theorem gFnPrinted15 (v : Nat) (h : 180 ≤ v) (h2 : v ≤ 191) (a b c d : TypeId) : Good (ansX 5 v a b c d) := by
  have e : (180 ≤ v ∧ v ≤ 183) ∨ (184 ≤ v ∧ v ≤ 187) ∨ (188 ≤ v ∧ v ≤ 191) := by omega
  rcases e with ⟨p, q⟩ | ⟨p, q⟩ | ⟨p, q⟩
  · exact gFnPrinted15x0 v p q a b c d
  · exact gFnPrinted15x4 v p q a b c d
  · exact gFnPrinted15x8 v p q a b c d
end Go.Ev
