import Derived.Test.YtfgmimcbjjbplaaGreatDoorLa
set_option linter.all false
set_option maxRecDepth 1000000
namespace Go.Ev
open Go
theorem rFnLooksx12 (a b c d : TypeId) : Good (Answer tab 100000 (orcY (tO [(1, .sint .i64 1 [⟨1, 60, 1, 0⟩]), (2, .sint .i64 100 [⟨100, 60, 1, 0⟩, ⟨10, 71, 9, 0⟩, ⟨1, 72, 9, 0⟩])])) 300 5 [.oslice 50] (H0 a b c d)) := good_of (s := .ok) (by kernel_rfl) (by kernel_rfl)
theorem rFnLooksx13 (a b c d : TypeId) : Good (Answer tab 100000 (orcY (tO [(1, .sint .i64 1 [⟨1, 60, 8, 70⟩]), (2, .sint .i64 100 [⟨100, 70, 1, 0⟩, ⟨10, 71, 9, 0⟩, ⟨1, 72, 9, 0⟩])])) 300 5 [.oslice 50] (H0 a b c d)) := good_of (s := .ok) (by kernel_rfl) (by kernel_rfl)
theorem rFnLooksx14 (a b c d : TypeId) : Good (Answer tab 100000 (orcY (tO [(1, .sint .i64 10 [⟨10, 60, 8, 0⟩, ⟨1, 61, 9, 0⟩]), (2, .int .i64 0)])) 300 5 [.oslice 50] (H0 a b c d)) := good_of (s := .ok) (by kernel_rfl) (by kernel_rfl)
theorem rFnLooksx15 (a b c d : TypeId) : Good (Answer tab 100000 (orcY (tO [(1, .sint .i64 10 [⟨10, 60, 8, 0⟩, ⟨1, 61, 9, 0⟩]), (2, .sint .i64 1 [⟨1, 70, 8, 60⟩])])) 300 5 [.oslice 50] (H0 a b c d)) := good_of (s := .ok) (by kernel_rfl) (by kernel_rfl)
end Go.Ev
