import Derived.Test.YtlbjhnafdcmpeaaGreatDoorLaFnRefuses
import Derived.Test.YtlbjhnafdcmpeaaGreatDoorRk1FnRefuses
import Derived.Test.YtlbjhnafdcmpeaaGreatDoorRk2FnRefuses
import Derived.Test.YtlbjhnafdcmpeaaGreatDoorRk3FnRefuses
import Derived.Test.YtlbjhnafdcmpeaaGreatDoorRk4FnRefuses
import Derived.Test.YtlbjhnafdcmpeaaGreatDoorRk5FnRefuses
set_option linter.all false
set_option maxRecDepth 1000000
namespace Go.Ev
open Go
noncomputable def oK (a b c d : TypeId) : Orc := orcE3 eK0_0 (tabs a b c d) (orcE3 eK0_1 (tabs a b c d) (orcE3 eK0_2 (tabs a b c d) (orcE3 eK0_3 (tabs a b c d) (orcE3 eK0_4 (tabs a b c d) (noO)))))
theorem gKnown (a b c d : TypeId) : Good (Answer tab 100000 (oK a b c d) 300 10 [] (H0 a b c d)) := good_of (s := .ok) (by kernel_rfl) (by kernel_rfl)
theorem rR : RunsOk := runs_by (o := oK) (fun {a b c d q w} L => (ent3_ok (P := Go.Proofs.Tryz.prog) (fu := 100000) (k := 300) (s := ⟨0, 0, 0, 0, q, fun _ => (0, 0)⟩) fnsOk mixed (by decide) codes tab_ok L noOrc (ent3_ok (P := Go.Proofs.Tryz.prog) (fu := 100000) (k := 300) (s := ⟨0, 0, 0, 0, q, fun _ => (0, 0)⟩) fnsOk mixed (by decide) codes tab_ok L noOrc (ent3_ok (P := Go.Proofs.Tryz.prog) (fu := 100000) (k := 300) (s := ⟨0, 0, 0, 0, q, fun _ => (0, 0)⟩) fnsOk mixed (by decide) codes tab_ok L noOrc (ent3_ok (P := Go.Proofs.Tryz.prog) (fu := 100000) (k := 300) (s := ⟨0, 0, 0, 0, q, fun _ => (0, 0)⟩) fnsOk mixed (by decide) codes tab_ok L noOrc (ent3_ok (P := Go.Proofs.Tryz.prog) (fu := 100000) (k := 300) (s := ⟨0, 0, 0, 0, q, fun _ => (0, 0)⟩) fnsOk mixed (by decide) codes tab_ok L noOrc noOrc eK0_4 kK0_4.1 kK0_4.2 (by rw [qK0_4]; exact (gK0_4 a b c d).out)) eK0_3 kK0_3.1 kK0_3.2 (by rw [qK0_3]; exact (gK0_3 a b c d).out)) eK0_2 kK0_2.1 kK0_2.2 (by rw [qK0_2]; exact (gK0_2 a b c d).out)) eK0_1 kK0_1.1 kK0_1.2 (by rw [qK0_1]; exact (gK0_1 a b c d).out)) eK0_0 kK0_0.1 kK0_0.2 (by rw [qK0_0]; exact (gK0_0 a b c d).out))) gKnown
end Go.Ev
