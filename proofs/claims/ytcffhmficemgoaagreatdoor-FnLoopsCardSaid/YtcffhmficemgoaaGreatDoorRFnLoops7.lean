import Derived.Test.YtcffhmficemgoaaGreatDoorLa
set_option linter.all false
set_option maxRecDepth 1000000
namespace Go.Ev
open Go
theorem rFnLoopsx4x6 (a b c d : TypeId) : Good (Answer tab 100000 (orcT (tL [(1, 9, 4), (2, 9, 6)])) 300 5 [.oslice 50] (H0 a b c d)) := good_of (s := .ok) (by kernel_rfl) (by kernel_rfl)
theorem rFnLoopsx4x7 (a b c d : TypeId) : Good (Answer tab 100000 (orcT (tL [(1, 9, 4), (2, 9, 7)])) 300 5 [.oslice 50] (H0 a b c d)) := good_of (s := .ok) (by kernel_rfl) (by kernel_rfl)
theorem rFnLoopsx4x8 (a b c d : TypeId) : Good (Answer tab 100000 (orcT (tL [(1, 9, 4), (2, 9, 8)])) 300 5 [.oslice 50] (H0 a b c d)) := good_of (s := .ok) (by kernel_rfl) (by kernel_rfl)
theorem rFnLoopsx5x0 (a b c d : TypeId) : Good (Answer tab 100000 (orcT (tL [(1, 9, 5), (2, 9, 0)])) 300 5 [.oslice 50] (H0 a b c d)) := good_of (s := .ok) (by kernel_rfl) (by kernel_rfl)
theorem rFnLoopsx5x1 (a b c d : TypeId) : Good (Answer tab 100000 (orcT (tL [(1, 9, 5), (2, 9, 1)])) 300 5 [.oslice 50] (H0 a b c d)) := good_of (s := .ok) (by kernel_rfl) (by kernel_rfl)
theorem rFnLoopsx5x2 (a b c d : TypeId) : Good (Answer tab 100000 (orcT (tL [(1, 9, 5), (2, 9, 2)])) 300 5 [.oslice 50] (H0 a b c d)) := good_of (s := .ok) (by kernel_rfl) (by kernel_rfl)
end Go.Ev
