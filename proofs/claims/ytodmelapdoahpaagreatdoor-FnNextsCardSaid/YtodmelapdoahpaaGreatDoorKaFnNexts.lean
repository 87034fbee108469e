import Derived.Test.YtodmelapdoahpaaGreatDoorSdI
import Derived.KernelRfl
import Derived.Test.YtodmelapdoahpaaGreatDoorChecked
set_option linter.all false
namespace Go.Ev
noncomputable def Pg : Program := Go.Proofs.Tryz.prog
theorem fnsOkB : (Pg.funcs.toList.all fnOk) = true := by kernel_rfl
theorem mixed : Pg.follows .mixedOrders = true := by kernel_rfl
noncomputable def fnCode (n : Nat) (fn : Func) : Bool := ocase fn.body true fun c => codeOk Pg n c
theorem codesOk : (Pg.funcs.toList.all (fnCode 10)) = true := by kernel_rfl
theorem fnsOk : FnsOk Pg := fun f fn h => List.all_eq_true.1 fnsOkB fn (Array.mem_toList_iff.2 (Array.mem_of_getElem? h))
theorem codes : ∀ (f : Nat) (fn : Func) (c : Code), Pg.funcs[f]? = some fn → fn.body = some c → codeOk Pg 10 c = true := by
  intro f fn c h1 h2
  have := List.all_eq_true.1 codesOk fn (Array.mem_toList_iff.2 (Array.mem_of_getElem? h1))
  unfold fnCode at this
  rw [h2, ocase_some] at this
  exact this
end Go.Ev
