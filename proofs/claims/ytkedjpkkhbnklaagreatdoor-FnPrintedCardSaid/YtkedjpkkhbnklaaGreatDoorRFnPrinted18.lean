import Derived.Test.YtkedjpkkhbnklaaGreatDoorLaFnPrinted
set_option linter.all false
set_option maxRecDepth 1000000
namespace Go.Ev
open Go
theorem rFnPrinted18x0 (a b c d : TypeId) : allV (fun v => ansX 5 (Nat.add 216 v) a b c d) 4 = okV 4 := by kernel_rfl
theorem gFnPrinted18x0 (v : Nat) (h : 216 ≤ v) (h2 : v ≤ 219) (a b c d : TypeId) : Good (ansX 5 v a b c d) := by
  have g : good (ansX 5 (Nat.add 216 (v - 216)) a b c d) := allV_good (f := fun v => ansX 5 (Nat.add 216 v) a b c d) (n := 4) (by rw [rFnPrinted18x0 a b c d]; exact okV_good _) (v - 216) (by omega)
  rw [show Nat.add 216 (v - 216) = v by show 216 + (v - 216) = v; omega] at g
  exact ⟨g⟩
theorem rFnPrinted18x4 (a b c d : TypeId) : allV (fun v => ansX 5 (Nat.add 220 v) a b c d) 4 = okV 4 := by kernel_rfl
theorem gFnPrinted18x4 (v : Nat) (h : 220 ≤ v) (h2 : v ≤ 223) (a b c d : TypeId) : Good (ansX 5 v a b c d) := by
  have g : good (ansX 5 (Nat.add 220 (v - 220)) a b c d) := allV_good (f := fun v => ansX 5 (Nat.add 220 v) a b c d) (n := 4) (by rw [rFnPrinted18x4 a b c d]; exact okV_good _) (v - 220) (by omega)
  rw [show Nat.add 220 (v - 220) = v by show 220 + (v - 220) = v; omega] at g
  exact ⟨g⟩
theorem rFnPrinted18x8 (a b c d : TypeId) : allV (fun v => ansX 5 (Nat.add 224 v) a b c d) 4 = okV 4 := by kernel_rfl
theorem gFnPrinted18x8 (v : Nat) (h : 224 ≤ v) (h2 : v ≤ 227) (a b c d : TypeId) : Good (ansX 5 v a b c d) := by
  have g : good (ansX 5 (Nat.add 224 (v - 224)) a b c d) := allV_good (f := fun v => ansX 5 (Nat.add 224 v) a b c d) (n := 4) (by rw [rFnPrinted18x8 a b c d]; exact okV_good _) (v - 224) (by omega)
  rw [show Nat.add 224 (v - 224) = v by show 224 + (v - 224) = v; omega] at g
  exact ⟨g⟩
theorem gFnPrinted18 (v : Nat) (h : 216 ≤ v) (h2 : v ≤ 227) (a b c d : TypeId) : Good (ansX 5 v a b c d) := by
  have e : (216 ≤ v ∧ v ≤ 219) ∨ (220 ≤ v ∧ v ≤ 223) ∨ (224 ≤ v ∧ v ≤ 227) := by omega
  rcases e with ⟨p, q⟩ | ⟨p, q⟩ | ⟨p, q⟩
  · exact gFnPrinted18x0 v p q a b c d
  · exact gFnPrinted18x4 v p q a b c d
  · exact gFnPrinted18x8 v p q a b c d
end Go.Ev
