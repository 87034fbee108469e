import Derived.Test.YtodmelapdoahpaaGreatDoorLaFnNexts
set_option linter.all false
namespace Go.Ev
open Go
theorem rR : RunsOk := runs_by (o := fun _ _ _ _ => noO) (fun _ => noOrc) fun a b c d => good_of (s := .ok) (by kernel_rfl) (by kernel_rfl)
end Go.Ev

set_option maxRecDepth 1000000
namespace Go.Ev
open Go
theorem rI (a b c d : TypeId) : allV (itoaRun (H0 a b c d)) 1000 = okV 1000 := by kernel_rfl
end Go.Ev
