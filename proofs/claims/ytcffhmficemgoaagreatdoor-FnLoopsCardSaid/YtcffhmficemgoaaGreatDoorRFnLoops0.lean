import Derived.Test.YtcffhmficemgoaaGreatDoorLa
set_option linter.all false
set_option maxRecDepth 1000000
namespace Go.Ev
open Go
theorem rFnLoopsxe (a b c d : TypeId) : Good (Answer tab 100000 (orcT fun _ => none) 300 5 [.eslice] (H0 a b c d)) := good_of (s := .ok) (by kernel_rfl) (by kernel_rfl)
theorem rFnLoopsx0x0 (a b c d : TypeId) : Good (Answer tab 100000 (orcT (tL [(1, 9, 0), (2, 9, 0)])) 300 5 [.oslice 50] (H0 a b c d)) := good_of (s := .ok) (by kernel_rfl) (by kernel_rfl)
theorem rFnLoopsx0x1 (a b c d : TypeId) : Good (Answer tab 100000 (orcT (tL [(1, 9, 0), (2, 9, 1)])) 300 5 [.oslice 50] (H0 a b c d)) := good_of (s := .ok) (by kernel_rfl) (by kernel_rfl)
theorem rFnLoopsx0x2 (a b c d : TypeId) : Good (Answer tab 100000 (orcT (tL [(1, 9, 0), (2, 9, 2)])) 300 5 [.oslice 50] (H0 a b c d)) := good_of (s := .ok) (by kernel_rfl) (by kernel_rfl)
theorem rFnLoopsx0x3 (a b c d : TypeId) : Good (Answer tab 100000 (orcT (tL [(1, 9, 0), (2, 9, 3)])) 300 5 [.oslice 50] (H0 a b c d)) := good_of (s := .ok) (by kernel_rfl) (by kernel_rfl)
theorem rFnLoopsx0x4 (a b c d : TypeId) : Good (Answer tab 100000 (orcT (tL [(1, 9, 0), (2, 9, 4)])) 300 5 [.oslice 50] (H0 a b c d)) := good_of (s := .ok) (by kernel_rfl) (by kernel_rfl)
theorem rFnLoopsx0x5 (a b c d : TypeId) : Good (Answer tab 100000 (orcT (tL [(1, 9, 0), (2, 9, 5)])) 300 5 [.oslice 50] (H0 a b c d)) := good_of (s := .ok) (by kernel_rfl) (by kernel_rfl)
end Go.Ev
