import Derived.Test.YtolmeempkaelfaaGreatDoorLa
set_option linter.all false
set_option maxRecDepth 1000000
namespace Go.Ev
open Go
theorem rFnGrowsx3 (a b c : TypeId) : Good (Answer tab 100000 (orcT (tL [(1, 9, 3)])) 300 4 [.oslice 50] (H0 a b c)) := good_of (s := .ok) (by kernel_rfl) (by kernel_rfl)
theorem rFnGrowsx4 (a b c : TypeId) : Good (Answer tab 100000 (orcT (tL [(1, 9, 4)])) 300 4 [.oslice 50] (H0 a b c)) := good_of (s := .ok) (by kernel_rfl) (by kernel_rfl)
theorem rFnGrowsx5 (a b c : TypeId) : Good (Answer tab 100000 (orcT (tL [(1, 9, 5)])) 300 4 [.oslice 50] (H0 a b c)) := good_of (s := .ok) (by kernel_rfl) (by kernel_rfl)
end Go.Ev
