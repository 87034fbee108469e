import Derived.Test.YtkedjpkkhbnklaaGreatDoorLaFnArrays
set_option linter.all false
namespace Go.Ev
open Go
theorem rR (a b c d : TypeId) : Answer tab 100000 noO 300 10 [] (H0 a b c d) = .ok := by kernel_rfl
end Go.Ev

set_option maxRecDepth 1000000
namespace Go.Ev
open Go
theorem rI (a b c d : TypeId) : allV (itoaRun (H0 a b c d)) 1000 = okV 1000 := by kernel_rfl
end Go.Ev
