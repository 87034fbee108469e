import Derived.Test.YtkedjpkkhbnklaaGreatDoorLaFnPrinted
set_option linter.all false
set_option maxRecDepth 1000000
namespace Go.Ev
open Go
theorem rFnPrinted10x0 (a b c d : TypeId) : allV (fun v => ansX 5 (Nat.add 120 v) a b c d) 4 = okV 4 := by kernel_rfl
theorem gFnPrinted10x0 (v : Nat) (h : 120 ≤ v) (h2 : v ≤ 123) (a b c d : TypeId) : Good (ansX 5 v a b c d) := by
  have g : good (ansX 5 (Nat.add 120 (v - 120)) a b c d) := allV_good (f := fun v => ansX 5 (Nat.add 120 v) a b c d) (n := 4) (by rw [rFnPrinted10x0 a b c d]; exact okV_good _) (v - 120) (by omega)
  rw [show Nat.add 120 (v - 120) = v by show 120 + (v - 120) = v; omega] at g
  exact ⟨g⟩
theorem rFnPrinted10x4 (a b c d : TypeId) : allV (fun v => ansX 5 (Nat.add 124 v) a b c d) 4 = okV 4 := by kernel_rfl
theorem gFnPrinted10x4 (v : Nat) (h : 124 ≤ v) (h2 : v ≤ 127) (a b c d : TypeId) : Good (ansX 5 v a b c d) := by
  have g : good (ansX 5 (Nat.add 124 (v - 124)) a b c d) := allV_good (f := fun v => ansX 5 (Nat.add 124 v) a b c d) (n := 4) (by rw [rFnPrinted10x4 a b c d]; exact okV_good _) (v - 124) (by omega)
  rw [show Nat.add 124 (v - 124) = v by show 124 + (v - 124) = v; omega] at g
  exact ⟨g⟩
theorem rFnPrinted10x8 (a b c d : TypeId) : allV (fun v => ansX 5 (Nat.add 128 v) a b c d) 4 = okV 4 := by kernel_rfl
theorem gFnPrinted10x8 (v : Nat) (h : 128 ≤ v) (h2 : v ≤ 131) (a b c d : TypeId) : Good (ansX 5 v a b c d) := by
  have g : good (ansX 5 (Nat.add 128 (v - 128)) a b c d) := allV_good (f := fun v => ansX 5 (Nat.add 128 v) a b c d) (n := 4) (by rw [rFnPrinted10x8 a b c d]; exact okV_good _) (v - 128) (by omega)
  rw [show Nat.add 128 (v - 128) = v by show 128 + (v - 128) = v; omega] at g
  exact ⟨g⟩
theorem gFnPrinted10 (v : Nat) (h : 120 ≤ v) (h2 : v ≤ 131) (a b c d : TypeId) : Good (ansX 5 v a b c d) := by
  have e : (120 ≤ v ∧ v ≤ 123) ∨ (124 ≤ v ∧ v ≤ 127) ∨ (128 ≤ v ∧ v ≤ 131) := by omega
  rcases e with ⟨p, q⟩ | ⟨p, q⟩ | ⟨p, q⟩
  · exact gFnPrinted10x0 v p q a b c d
  · exact gFnPrinted10x4 v p q a b c d
  · exact gFnPrinted10x8 v p q a b c d
end Go.Ev
