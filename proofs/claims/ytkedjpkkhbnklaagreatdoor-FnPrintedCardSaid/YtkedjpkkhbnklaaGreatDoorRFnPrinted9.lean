import Derived.Test.YtkedjpkkhbnklaaGreatDoorLaFnPrinted
set_option linter.all false
set_option maxRecDepth 1000000
namespace Go.Ev
open Go
theorem rFnPrinted9x0 (a b c d : TypeId) : allV (fun v => ansX 5 (Nat.add 108 v) a b c d) 4 = okV 4 := by kernel_rfl
theorem gFnPrinted9x0 (v : Nat) (h : 108 ≤ v) (h2 : v ≤ 111) (a b c d : TypeId) : Good (ansX 5 v a b c d) := by
  have g : good (ansX 5 (Nat.add 108 (v - 108)) a b c d) := allV_good (f := fun v => ansX 5 (Nat.add 108 v) a b c d) (n := 4) (by rw [rFnPrinted9x0 a b c d]; exact okV_good _) (v - 108) (by omega)
  rw [show Nat.add 108 (v - 108) = v by show 108 + (v - 108) = v; omega] at g
  exact ⟨g⟩
theorem rFnPrinted9x4 (a b c d : TypeId) : allV (fun v => ansX 5 (Nat.add 112 v) a b c d) 4 = okV 4 := by kernel_rfl
theorem gFnPrinted9x4 (v : Nat) (h : 112 ≤ v) (h2 : v ≤ 115) (a b c d : TypeId) : Good (ansX 5 v a b c d) := by
  have g : good (ansX 5 (Nat.add 112 (v - 112)) a b c d) := allV_good (f := fun v => ansX 5 (Nat.add 112 v) a b c d) (n := 4) (by rw [rFnPrinted9x4 a b c d]; exact okV_good _) (v - 112) (by omega)
  rw [show Nat.add 112 (v - 112) = v by show 112 + (v - 112) = v; omega] at g
  exact ⟨g⟩
theorem rFnPrinted9x8 (a b c d : TypeId) : allV (fun v => ansX 5 (Nat.add 116 v) a b c d) 4 = okV 4 := by kernel_rfl
theorem gFnPrinted9x8 (v : Nat) (h : 116 ≤ v) (h2 : v ≤ 119) (a b c d : TypeId) : Good (ansX 5 v a b c d) := by
  have g : good (ansX 5 (Nat.add 116 (v - 116)) a b c d) := allV_good (f := fun v => ansX 5 (Nat.add 116 v) a b c d) (n := 4) (by rw [rFnPrinted9x8 a b c d]; exact okV_good _) (v - 116) (by omega)
  rw [show Nat.add 116 (v - 116) = v by show 116 + (v - 116) = v; omega] at g
  exact ⟨g⟩
theorem gFnPrinted9 (v : Nat) (h : 108 ≤ v) (h2 : v ≤ 119) (a b c d : TypeId) : Good (ansX 5 v a b c d) := by
  have e : (108 ≤ v ∧ v ≤ 111) ∨ (112 ≤ v ∧ v ≤ 115) ∨ (116 ≤ v ∧ v ≤ 119) := by omega
  rcases e with ⟨p, q⟩ | ⟨p, q⟩ | ⟨p, q⟩
  · exact gFnPrinted9x0 v p q a b c d
  · exact gFnPrinted9x4 v p q a b c d
  · exact gFnPrinted9x8 v p q a b c d
end Go.Ev
