import Derived.Test.YtkedjpkkhbnklaaGreatDoorLaFnPrinted
set_option linter.all false
set_option maxRecDepth 1000000
namespace Go.Ev
open Go
theorem rFnPrinted1x0 (a b c d : TypeId) : allV (fun v => ansX 5 (Nat.add 12 v) a b c d) 4 = okV 4 := by kernel_rfl
theorem gFnPrinted1x0 (v : Nat) (h : 12 ≤ v) (h2 : v ≤ 15) (a b c d : TypeId) : Good (ansX 5 v a b c d) := by
  have g : good (ansX 5 (Nat.add 12 (v - 12)) a b c d) := allV_good (f := fun v => ansX 5 (Nat.add 12 v) a b c d) (n := 4) (by rw [rFnPrinted1x0 a b c d]; exact okV_good _) (v - 12) (by omega)
  rw [show Nat.add 12 (v - 12) = v by show 12 + (v - 12) = v; omega] at g
  exact ⟨g⟩
theorem rFnPrinted1x4 (a b c d : TypeId) : allV (fun v => ansX 5 (Nat.add 16 v) a b c d) 4 = okV 4 := by kernel_rfl
theorem gFnPrinted1x4 (v : Nat) (h : 16 ≤ v) (h2 : v ≤ 19) (a b c d : TypeId) : Good (ansX 5 v a b c d) := by
  have g : good (ansX 5 (Nat.add 16 (v - 16)) a b c d) := allV_good (f := fun v => ansX 5 (Nat.add 16 v) a b c d) (n := 4) (by rw [rFnPrinted1x4 a b c d]; exact okV_good _) (v - 16) (by omega)
  rw [show Nat.add 16 (v - 16) = v by show 16 + (v - 16) = v; omega] at g
  exact ⟨g⟩
theorem rFnPrinted1x8 (a b c d : TypeId) : allV (fun v => ansX 5 (Nat.add 20 v) a b c d) 4 = okV 4 := by kernel_rfl
theorem gFnPrinted1x8 (v : Nat) (h : 20 ≤ v) (h2 : v ≤ 23) (a b c d : TypeId) : Good (ansX 5 v a b c d) := by
  have g : good (ansX 5 (Nat.add 20 (v - 20)) a b c d) := allV_good (f := fun v => ansX 5 (Nat.add 20 v) a b c d) (n := 4) (by rw [rFnPrinted1x8 a b c d]; exact okV_good _) (v - 20) (by omega)
  rw [show Nat.add 20 (v - 20) = v by show 20 + (v - 20) = v; omega] at g
  exact ⟨g⟩
theorem gFnPrinted1 (v : Nat) (h : 12 ≤ v) (h2 : v ≤ 23) (a b c d : TypeId) : Good (ansX 5 v a b c d) := by
  have e : (12 ≤ v ∧ v ≤ 15) ∨ (16 ≤ v ∧ v ≤ 19) ∨ (20 ≤ v ∧ v ≤ 23) := by omega
  rcases e with ⟨p, q⟩ | ⟨p, q⟩ | ⟨p, q⟩
  · exact gFnPrinted1x0 v p q a b c d
  · exact gFnPrinted1x4 v p q a b c d
  · exact gFnPrinted1x8 v p q a b c d
end Go.Ev
