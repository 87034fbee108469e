import Derived.Test.YtkedjpkkhbnklaaGreatDoorLaFnPrinted
set_option linter.all false
set_option maxRecDepth 1000000
namespace Go.Ev
open Go
theorem rFnPrinted3x0 (a b c d : TypeId) : allV (fun v => ansX 5 (Nat.add 36 v) a b c d) 4 = okV 4 := by kernel_rfl
theorem gFnPrinted3x0 (v : Nat) (h : 36 ≤ v) (h2 : v ≤ 39) (a b c d : TypeId) : Good (ansX 5 v a b c d) := by
  have g : good (ansX 5 (Nat.add 36 (v - 36)) a b c d) := allV_good (f := fun v => ansX 5 (Nat.add 36 v) a b c d) (n := 4) (by rw [rFnPrinted3x0 a b c d]; exact okV_good _) (v - 36) (by omega)
  rw [show Nat.add 36 (v - 36) = v by show 36 + (v - 36) = v; omega] at g
  exact ⟨g⟩
theorem rFnPrinted3x4 (a b c d : TypeId) : allV (fun v => ansX 5 (Nat.add 40 v) a b c d) 4 = okV 4 := by kernel_rfl
theorem gFnPrinted3x4 (v : Nat) (h : 40 ≤ v) (h2 : v ≤ 43) (a b c d : TypeId) : Good (ansX 5 v a b c d) := by
  have g : good (ansX 5 (Nat.add 40 (v - 40)) a b c d) := allV_good (f := fun v => ansX 5 (Nat.add 40 v) a b c d) (n := 4) (by rw [rFnPrinted3x4 a b c d]; exact okV_good _) (v - 40) (by omega)
  rw [show Nat.add 40 (v - 40) = v by show 40 + (v - 40) = v; omega] at g
  exact ⟨g⟩
theorem rFnPrinted3x8 (a b c d : TypeId) : allV (fun v => ansX 5 (Nat.add 44 v) a b c d) 4 = okV 4 := by kernel_rfl
theorem gFnPrinted3x8 (v : Nat) (h : 44 ≤ v) (h2 : v ≤ 47) (a b c d : TypeId) : Good (ansX 5 v a b c d) := by
  have g : good (ansX 5 (Nat.add 44 (v - 44)) a b c d) := allV_good (f := fun v => ansX 5 (Nat.add 44 v) a b c d) (n := 4) (by rw [rFnPrinted3x8 a b c d]; exact okV_good _) (v - 44) (by omega)
  rw [show Nat.add 44 (v - 44) = v by show 44 + (v - 44) = v; omega] at g
  exact ⟨g⟩
theorem gFnPrinted3 (v : Nat) (h : 36 ≤ v) (h2 : v ≤ 47) (a b c d : TypeId) : Good (ansX 5 v a b c d) := by
  have e : (36 ≤ v ∧ v ≤ 39) ∨ (40 ≤ v ∧ v ≤ 43) ∨ (44 ≤ v ∧ v ≤ 47) := by omega
  rcases e with ⟨p, q⟩ | ⟨p, q⟩ | ⟨p, q⟩
  · exact gFnPrinted3x0 v p q a b c d
  · exact gFnPrinted3x4 v p q a b c d
  · exact gFnPrinted3x8 v p q a b c d
end Go.Ev
