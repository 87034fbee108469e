import Derived.Test.YtkedjpkkhbnklaaGreatDoorLaFnPrinted
set_option linter.all false
set_option maxRecDepth 1000000
namespace Go.Ev
open Go
theorem rFnPrinted16x0 (a b c d : TypeId) : allV (fun v => ansX 5 (Nat.add 192 v) a b c d) 4 = okV 4 := by kernel_rfl
theorem gFnPrinted16x0 (v : Nat) (h : 192 ≤ v) (h2 : v ≤ 195) (a b c d : TypeId) : Good (ansX 5 v a b c d) := by
  have g : good (ansX 5 (Nat.add 192 (v - 192)) a b c d) := allV_good (f := fun v => ansX 5 (Nat.add 192 v) a b c d) (n := 4) (by rw [rFnPrinted16x0 a b c d]; exact okV_good _) (v - 192) (by omega)
  rw [show Nat.add 192 (v - 192) = v by show 192 + (v - 192) = v; omega] at g
  exact ⟨g⟩
theorem rFnPrinted16x4 (a b c d : TypeId) : allV (fun v => ansX 5 (Nat.add 196 v) a b c d) 4 = okV 4 := by kernel_rfl
theorem gFnPrinted16x4 (v : Nat) (h : 196 ≤ v) (h2 : v ≤ 199) (a b c d : TypeId) : Good (ansX 5 v a b c d) := by
  have g : good (ansX 5 (Nat.add 196 (v - 196)) a b c d) := allV_good (f := fun v => ansX 5 (Nat.add 196 v) a b c d) (n := 4) (by rw [rFnPrinted16x4 a b c d]; exact okV_good _) (v - 196) (by omega)
  rw [show Nat.add 196 (v - 196) = v by show 196 + (v - 196) = v; omega] at g
  exact ⟨g⟩
theorem rFnPrinted16x8 (a b c d : TypeId) : allV (fun v => ansX 5 (Nat.add 200 v) a b c d) 4 = okV 4 := by kernel_rfl
theorem gFnPrinted16x8 (v : Nat) (h : 200 ≤ v) (h2 : v ≤ 203) (a b c d : TypeId) : Good (ansX 5 v a b c d) := by
  have g : good (ansX 5 (Nat.add 200 (v - 200)) a b c d) := allV_good (f := fun v => ansX 5 (Nat.add 200 v) a b c d) (n := 4) (by rw [rFnPrinted16x8 a b c d]; exact okV_good _) (v - 200) (by omega)
  rw [show Nat.add 200 (v - 200) = v by show 200 + (v - 200) = v; omega] at g
  exact ⟨g⟩
theorem gFnPrinted16 (v : Nat) (h : 192 ≤ v) (h2 : v ≤ 203) (a b c d : TypeId) : Good (ansX 5 v a b c d) := by
  have e : (192 ≤ v ∧ v ≤ 195) ∨ (196 ≤ v ∧ v ≤ 199) ∨ (200 ≤ v ∧ v ≤ 203) := by omega
  rcases e with ⟨p, q⟩ | ⟨p, q⟩ | ⟨p, q⟩
  · exact gFnPrinted16x0 v p q a b c d
  · exact gFnPrinted16x4 v p q a b c d
  · exact gFnPrinted16x8 v p q a b c d
end Go.Ev
