import Derived.Test.YtcffhmficemgoaaGreatDoorLa
set_option linter.all false
set_option maxRecDepth 1000000
namespace Go.Ev
open Go
theorem rFnLoopsx7x3 (a b c d : TypeId) : Good (Answer tab 100000 (orcT (tL [(1, 9, 7), (2, 9, 3)])) 300 5 [.oslice 50] (H0 a b c d)) := good_of (s := .ok) (by kernel_rfl) (by kernel_rfl)
theorem rFnLoopsx7x4 (a b c d : TypeId) : Good (Answer tab 100000 (orcT (tL [(1, 9, 7), (2, 9, 4)])) 300 5 [.oslice 50] (H0 a b c d)) := good_of (s := .ok) (by kernel_rfl) (by kernel_rfl)
theorem rFnLoopsx7x5 (a b c d : TypeId) : Good (Answer tab 100000 (orcT (tL [(1, 9, 7), (2, 9, 5)])) 300 5 [.oslice 50] (H0 a b c d)) := good_of (s := .ok) (by kernel_rfl) (by kernel_rfl)
theorem rFnLoopsx7x6 (a b c d : TypeId) : Good (Answer tab 100000 (orcT (tL [(1, 9, 7), (2, 9, 6)])) 300 5 [.oslice 50] (H0 a b c d)) := good_of (s := .ok) (by kernel_rfl) (by kernel_rfl)
theorem rFnLoopsx7x7 (a b c d : TypeId) : Good (Answer tab 100000 (orcT (tL [(1, 9, 7), (2, 9, 7)])) 300 5 [.oslice 50] (H0 a b c d)) := good_of (s := .ok) (by kernel_rfl) (by kernel_rfl)
theorem rFnLoopsx7x8 (a b c d : TypeId) : Good (Answer tab 100000 (orcT (tL [(1, 9, 7), (2, 9, 8)])) 300 5 [.oslice 50] (H0 a b c d)) := good_of (s := .ok) (by kernel_rfl) (by kernel_rfl)
end Go.Ev
