import Derived.Test.YtolmeempkaelfaaGreatDoorLa
set_option linter.all false
set_option maxRecDepth 1000000
namespace Go.Ev
open Go
theorem rFnLocalsxe (a b c d : TypeId) (o : Nat) : Good (Answer tab 100000 (orcT fun _ => none) 300 5 [.eslice] (H0 a b c d o)) := good_of (s := .ok) (by kernel_rfl) (by kernel_rfl)
theorem rFnLocalsx0 (a b c d : TypeId) (o : Nat) : Good (Answer tab 100000 (orcT (tL [(1, 6, 0)])) 300 5 [.oslice 50] (H0 a b c d o)) := good_of (s := .ok) (by kernel_rfl) (by kernel_rfl)
end Go.Ev
