import Derived.Test.YtcffhmficemgoaaGreatDoorLa
set_option linter.all false
set_option maxRecDepth 1000000
namespace Go.Ev
open Go
theorem rFnStopsx4 (a b c d : TypeId) : Good (Answer tab 100000 (orcT (tL [(1, 8, 4)])) 300 3 [.oslice 50] (H0 a b c d)) := good_of (s := .ok) (by kernel_rfl) (by kernel_rfl)
theorem rFnStopsx5 (a b c d : TypeId) : Good (Answer tab 100000 (orcT (tL [(1, 8, 5)])) 300 3 [.oslice 50] (H0 a b c d)) := good_of (s := .ok) (by kernel_rfl) (by kernel_rfl)
end Go.Ev
