import Derived.Test.YtkedjpkkhbnklaaGreatDoorLaFnPrinted
set_option linter.all false
set_option maxRecDepth 1000000
namespace Go.Ev
open Go
theorem rFnPrinted13x0 (a b c d : TypeId) : allV (fun v => ansX 5 (Nat.add 156 v) a b c d) 4 = okV 4 := by kernel_rfl
theorem gFnPrinted13x0 (v : Nat) (h : 156 ≤ v) (h2 : v ≤ 159) (a b c d : TypeId) : Good (ansX 5 v a b c d) := by
  have g : good (ansX 5 (Nat.add 156 (v - 156)) a b c d) := allV_good (f := fun v => ansX 5 (Nat.add 156 v) a b c d) (n := 4) (by rw [rFnPrinted13x0 a b c d]; exact okV_good _) (v - 156) (by omega)
  rw [show Nat.add 156 (v - 156) = v by show 156 + (v - 156) = v; omega] at g
  exact ⟨g⟩
theorem rFnPrinted13x4 (a b c d : TypeId) : allV (fun v => ansX 5 (Nat.add 160 v) a b c d) 4 = okV 4 := by kernel_rfl
theorem gFnPrinted13x4 (v : Nat) (h : 160 ≤ v) (h2 : v ≤ 163) (a b c d : TypeId) : Good (ansX 5 v a b c d) := by
  have g : good (ansX 5 (Nat.add 160 (v - 160)) a b c d) := allV_good (f := fun v => ansX 5 (Nat.add 160 v) a b c d) (n := 4) (by rw [rFnPrinted13x4 a b c d]; exact okV_good _) (v - 160) (by omega)
  rw [show Nat.add 160 (v - 160) = v by show 160 + (v - 160) = v; omega] at g
  exact ⟨g⟩
theorem rFnPrinted13x8 (a b c d : TypeId) : allV (fun v => ansX 5 (Nat.add 164 v) a b c d) 4 = okV 4 := by kernel_rfl
theorem gFnPrinted13x8 (v : Nat) (h : 164 ≤ v) (h2 : v ≤ 167) (a b c d : TypeId) : Good (ansX 5 v a b c d) := by
  have g : good (ansX 5 (Nat.add 164 (v - 164)) a b c d) := allV_good (f := fun v => ansX 5 (Nat.add 164 v) a b c d) (n := 4) (by rw [rFnPrinted13x8 a b c d]; exact okV_good _) (v - 164) (by omega)
  rw [show Nat.add 164 (v - 164) = v by show 164 + (v - 164) = v; omega] at g
  exact ⟨g⟩
theorem gFnPrinted13 (v : Nat) (h : 156 ≤ v) (h2 : v ≤ 167) (a b c d : TypeId) : Good (ansX 5 v a b c d) := by
  have e : (156 ≤ v ∧ v ≤ 159) ∨ (160 ≤ v ∧ v ≤ 163) ∨ (164 ≤ v ∧ v ≤ 167) := by omega
  rcases e with ⟨p, q⟩ | ⟨p, q⟩ | ⟨p, q⟩
  · exact gFnPrinted13x0 v p q a b c d
  · exact gFnPrinted13x4 v p q a b c d
  · exact gFnPrinted13x8 v p q a b c d
end Go.Ev
