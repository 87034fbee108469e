import Derived.Test.YtcffhmficemgoaaGreatDoorLa
set_option linter.all false
set_option maxRecDepth 1000000
namespace Go.Ev
open Go
theorem rFnStopsxe (a b c d : TypeId) : Good (Answer tab 100000 (orcT fun _ => none) 300 3 [.eslice] (H0 a b c d)) := good_of (s := .ok) (by kernel_rfl) (by kernel_rfl)
theorem rFnStopsx0 (a b c d : TypeId) : Good (Answer tab 100000 (orcT (tL [(1, 8, 0)])) 300 3 [.oslice 50] (H0 a b c d)) := good_of (s := .ok) (by kernel_rfl) (by kernel_rfl)
theorem rFnStopsx1 (a b c d : TypeId) : Good (Answer tab 100000 (orcT (tL [(1, 8, 1)])) 300 3 [.oslice 50] (H0 a b c d)) := good_of (s := .ok) (by kernel_rfl) (by kernel_rfl)
end Go.Ev
