import Derived.Test.YtfgmimcbjjbplaaGreatDoorLa
set_option linter.all false
set_option maxRecDepth 1000000
namespace Go.Ev
open Go
theorem rFnLooksx28 (a b c d : TypeId) : Good (Answer tab 100000 (orcY (tO [(1, .sint .i64 100 [⟨100, 60, 1, 0⟩, ⟨10, 61, 9, 0⟩, ⟨1, 62, 9, 0⟩]), (2, .int .i64 0)])) 300 5 [.oslice 50] (H0 a b c d)) := good_of (s := .ok) (by kernel_rfl) (by kernel_rfl)
theorem rFnLooksx29 (a b c d : TypeId) : Good (Answer tab 100000 (orcY (tO [(1, .sint .i64 100 [⟨100, 60, 1, 0⟩, ⟨10, 61, 9, 0⟩, ⟨1, 62, 9, 0⟩]), (2, .sint .i64 1 [⟨1, 70, 8, 60⟩])])) 300 5 [.oslice 50] (H0 a b c d)) := good_of (s := .ok) (by kernel_rfl) (by kernel_rfl)
theorem rFnLooksx30 (a b c d : TypeId) : Good (Answer tab 100000 (orcY (tO [(1, .sint .i64 100 [⟨100, 60, 1, 0⟩, ⟨10, 61, 9, 0⟩, ⟨1, 62, 9, 0⟩]), (2, .sint .i64 1 [⟨1, 60, 1, 0⟩])])) 300 5 [.oslice 50] (H0 a b c d)) := good_of (s := .ok) (by kernel_rfl) (by kernel_rfl)
theorem rFnLooksx31 (a b c d : TypeId) : Good (Answer tab 100000 (orcY (tO [(1, .sint .i64 100 [⟨100, 60, 1, 70⟩, ⟨10, 61, 9, 0⟩, ⟨1, 62, 9, 0⟩]), (2, .sint .i64 1 [⟨1, 70, 8, 0⟩])])) 300 5 [.oslice 50] (H0 a b c d)) := good_of (s := .ok) (by kernel_rfl) (by kernel_rfl)
end Go.Ev
