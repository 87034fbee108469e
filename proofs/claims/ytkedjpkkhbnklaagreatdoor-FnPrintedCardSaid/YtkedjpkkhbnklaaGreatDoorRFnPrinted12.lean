import Derived.Test.YtkedjpkkhbnklaaGreatDoorLaFnPrinted
set_option linter.all false
set_option maxRecDepth 1000000
namespace Go.Ev
open Go
theorem rFnPrinted12x0 (a b c d : TypeId) : allV (fun v => ansX 5 (Nat.add 144 v) a b c d) 4 = okV 4 := by kernel_rfl
theorem gFnPrinted12x0 (v : Nat) (h : 144 ≤ v) (h2 : v ≤ 147) (a b c d : TypeId) : Good (ansX 5 v a b c d) := by
  have g : good (ansX 5 (Nat.add 144 (v - 144)) a b c d) := allV_good (f := fun v => ansX 5 (Nat.add 144 v) a b c d) (n := 4) (by rw [rFnPrinted12x0 a b c d]; exact okV_good _) (v - 144) (by omega)
  rw [show Nat.add 144 (v - 144) = v by show 144 + (v - 144) = v; omega] at g
  exact ⟨g⟩
theorem rFnPrinted12x4 (a b c d : TypeId) : allV (fun v => ansX 5 (Nat.add 148 v) a b c d) 4 = okV 4 := by kernel_rfl
theorem gFnPrinted12x4 (v : Nat) (h : 148 ≤ v) (h2 : v ≤ 151) (a b c d : TypeId) : Good (ansX 5 v a b c d) := by
  have g : good (ansX 5 (Nat.add 148 (v - 148)) a b c d) := allV_good (f := fun v => ansX 5 (Nat.add 148 v) a b c d) (n := 4) (by rw [rFnPrinted12x4 a b c d]; exact okV_good _) (v - 148) (by omega)
  rw [show Nat.add 148 (v - 148) = v by show 148 + (v - 148) = v; omega] at g
  exact ⟨g⟩
theorem rFnPrinted12x8 (a b c d : TypeId) : allV (fun v => ansX 5 (Nat.add 152 v) a b c d) 4 = okV 4 := by kernel_rfl
theorem gFnPrinted12x8 (v : Nat) (h : 152 ≤ v) (h2 : v ≤ 155) (a b c d : TypeId) : Good (ansX 5 v a b c d) := by
  have g : good (ansX 5 (Nat.add 152 (v - 152)) a b c d) := allV_good (f := fun v => ansX 5 (Nat.add 152 v) a b c d) (n := 4) (by rw [rFnPrinted12x8 a b c d]; exact okV_good _) (v - 152) (by omega)
  rw [show Nat.add 152 (v - 152) = v by show 152 + (v - 152) = v; omega] at g
  exact ⟨g⟩
theorem gFnPrinted12 (v : Nat) (h : 144 ≤ v) (h2 : v ≤ 155) (a b c d : TypeId) : Good (ansX 5 v a b c d) := by
  have e : (144 ≤ v ∧ v ≤ 147) ∨ (148 ≤ v ∧ v ≤ 151) ∨ (152 ≤ v ∧ v ≤ 155) := by omega
  rcases e with ⟨p, q⟩ | ⟨p, q⟩ | ⟨p, q⟩
  · exact gFnPrinted12x0 v p q a b c d
  · exact gFnPrinted12x4 v p q a b c d
  · exact gFnPrinted12x8 v p q a b c d
end Go.Ev
