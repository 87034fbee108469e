import Derived.Test.YtkedjpkkhbnklaaGreatDoorLaFnPrinted
set_option linter.all false
set_option maxRecDepth 1000000
namespace Go.Ev
open Go
theorem rFnPrinted21x0 (a b c d : TypeId) : allV (fun v => ansX 5 (Nat.add 252 v) a b c d) 4 = okV 4 := by kernel_rfl
theorem gFnPrinted21x0 (v : Nat) (h : 252 ≤ v) (h2 : v ≤ 255) (a b c d : TypeId) : Good (ansX 5 v a b c d) := by
  have g : good (ansX 5 (Nat.add 252 (v - 252)) a b c d) := allV_good (f := fun v => ansX 5 (Nat.add 252 v) a b c d) (n := 4) (by rw [rFnPrinted21x0 a b c d]; exact okV_good _) (v - 252) (by omega)
  rw [show Nat.add 252 (v - 252) = v by show 252 + (v - 252) = v; omega] at g
  exact ⟨g⟩
theorem gFnPrinted21 (v : Nat) (h : 252 ≤ v) (h2 : v ≤ 255) (a b c d : TypeId) : Good (ansX 5 v a b c d) := by
  have e : (252 ≤ v ∧ v ≤ 255) := by omega
  obtain ⟨p, q⟩ := e
  · exact gFnPrinted21x0 v p q a b c d
end Go.Ev
