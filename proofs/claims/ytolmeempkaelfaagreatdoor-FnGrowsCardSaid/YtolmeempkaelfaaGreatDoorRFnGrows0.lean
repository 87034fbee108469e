import Derived.Test.YtolmeempkaelfaaGreatDoorLa
set_option linter.all false
set_option maxRecDepth 1000000
namespace Go.Ev
open Go
theorem rFnGrowsxe (a b c : TypeId) : Good (Answer tab 100000 (orcT fun _ => none) 300 4 [.eslice] (H0 a b c)) := good_of (s := .ok) (by kernel_rfl) (by kernel_rfl)
theorem rFnGrowsx0 (a b c : TypeId) : Good (Answer tab 100000 (orcT (tL [(1, 9, 0)])) 300 4 [.oslice 50] (H0 a b c)) := good_of (s := .ok) (by kernel_rfl) (by kernel_rfl)
theorem rFnGrowsx1 (a b c : TypeId) : Good (Answer tab 100000 (orcT (tL [(1, 9, 1)])) 300 4 [.oslice 50] (H0 a b c)) := good_of (s := .ok) (by kernel_rfl) (by kernel_rfl)
theorem rFnGrowsx2 (a b c : TypeId) : Good (Answer tab 100000 (orcT (tL [(1, 9, 2)])) 300 4 [.oslice 50] (H0 a b c)) := good_of (s := .ok) (by kernel_rfl) (by kernel_rfl)
end Go.Ev
