import Derived.Test.YtkedjpkkhbnklaaGreatDoorLaFnPrinted
set_option linter.all false
set_option maxRecDepth 1000000
namespace Go.Ev
open Go
theorem rFnPrintedxe (a b c d : TypeId) : Good (Answer tab 100000 (orcT fun _ => none) 300 5 [.eslice] (H0 a b c d)) := good_of (s := .ok) (by kernel_rfl) (by kernel_rfl)
theorem rFnPrinted0x0 (a b c d : TypeId) : allV (fun v => ansX 5 (Nat.add 0 v) a b c d) 4 = okV 4 := by kernel_rfl
theorem gFnPrinted0x0 (v : Nat) (h : 0 ≤ v) (h2 : v ≤ 3) (a b c d : TypeId) : Good (ansX 5 v a b c d) := by
  have g : good (ansX 5 (Nat.add 0 (v - 0)) a b c d) := allV_good (f := fun v => ansX 5 (Nat.add 0 v) a b c d) (n := 4) (by rw [rFnPrinted0x0 a b c d]; exact okV_good _) (v - 0) (by omega)
  rw [show Nat.add 0 (v - 0) = v by show 0 + (v - 0) = v; omega] at g
  exact ⟨g⟩
theorem rFnPrinted0x4 (a b c d : TypeId) : allV (fun v => ansX 5 (Nat.add 4 v) a b c d) 4 = okV 4 := by kernel_rfl
theorem gFnPrinted0x4 (v : Nat) (h : 4 ≤ v) (h2 : v ≤ 7) (a b c d : TypeId) : Good (ansX 5 v a b c d) := by
  have g : good (ansX 5 (Nat.add 4 (v - 4)) a b c d) := allV_good (f := fun v => ansX 5 (Nat.add 4 v) a b c d) (n := 4) (by rw [rFnPrinted0x4 a b c d]; exact okV_good _) (v - 4) (by omega)
  rw [show Nat.add 4 (v - 4) = v by show 4 + (v - 4) = v; omega] at g
  exact ⟨g⟩
theorem rFnPrinted0x8 (a b c d : TypeId) : allV (fun v => ansX 5 (Nat.add 8 v) a b c d) 4 = okV 4 := by kernel_rfl
theorem gFnPrinted0x8 (v : Nat) (h : 8 ≤ v) (h2 : v ≤ 11) (a b c d : TypeId) : Good (ansX 5 v a b c d) := by
  have g : good (ansX 5 (Nat.add 8 (v - 8)) a b c d) := allV_good (f := fun v => ansX 5 (Nat.add 8 v) a b c d) (n := 4) (by rw [rFnPrinted0x8 a b c d]; exact okV_good _) (v - 8) (by omega)
  rw [show Nat.add 8 (v - 8) = v by show 8 + (v - 8) = v; omega] at g
  exact ⟨g⟩
theorem gFnPrinted0 (v : Nat) (h : 0 ≤ v) (h2 : v ≤ 11) (a b c d : TypeId) : Good (ansX 5 v a b c d) := by
  have e : (0 ≤ v ∧ v ≤ 3) ∨ (4 ≤ v ∧ v ≤ 7) ∨ (8 ≤ v ∧ v ≤ 11) := by omega
  rcases e with ⟨p, q⟩ | ⟨p, q⟩ | ⟨p, q⟩
  · exact gFnPrinted0x0 v p q a b c d
  · exact gFnPrinted0x4 v p q a b c d
  · exact gFnPrinted0x8 v p q a b c d
end Go.Ev
