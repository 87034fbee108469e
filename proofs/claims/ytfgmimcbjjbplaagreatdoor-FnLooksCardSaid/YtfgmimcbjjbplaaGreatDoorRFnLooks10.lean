import Derived.Test.YtfgmimcbjjbplaaGreatDoorLa
set_option linter.all false
set_option maxRecDepth 1000000
namespace Go.Ev
open Go
theorem rFnLooksx40 (a b c d : TypeId) : Good (Answer tab 100000 (orcY (tO [(1, .sint .i64 100 [⟨100, 60, 1, 0⟩, ⟨10, 61, 9, 0⟩, ⟨1, 62, 9, 0⟩]), (2, .sint .i64 100 [⟨100, 60, 1, 0⟩, ⟨10, 61, 9, 0⟩, ⟨1, 62, 9, 0⟩])])) 300 5 [.oslice 50] (H0 a b c d)) := good_of (s := .ok) (by kernel_rfl) (by kernel_rfl)
theorem rFnLooksx41 (a b c d : TypeId) : Good (Answer tab 100000 (orcY (tO [(1, .sint .i64 100 [⟨100, 60, 1, 0⟩, ⟨10, 61, 9, 0⟩, ⟨1, 62, 9, 72⟩]), (2, .sint .i64 100 [⟨100, 60, 1, 0⟩, ⟨10, 61, 9, 0⟩, ⟨1, 72, 9, 0⟩])])) 300 5 [.oslice 50] (H0 a b c d)) := good_of (s := .ok) (by kernel_rfl) (by kernel_rfl)
theorem rFnLooksx42 (a b c d : TypeId) : Good (Answer tab 100000 (orcY (tO [(1, .sint .i64 100 [⟨100, 60, 1, 0⟩, ⟨10, 61, 9, 71⟩, ⟨1, 62, 9, 0⟩]), (2, .sint .i64 100 [⟨100, 60, 1, 0⟩, ⟨10, 71, 9, 0⟩, ⟨1, 72, 9, 0⟩])])) 300 5 [.oslice 50] (H0 a b c d)) := good_of (s := .ok) (by kernel_rfl) (by kernel_rfl)
theorem rFnLooksx43 (a b c d : TypeId) : Good (Answer tab 100000 (orcY (tO [(1, .sint .i64 100 [⟨100, 60, 1, 70⟩, ⟨10, 61, 9, 0⟩, ⟨1, 62, 9, 0⟩]), (2, .sint .i64 100 [⟨100, 70, 1, 0⟩, ⟨10, 71, 9, 0⟩, ⟨1, 72, 9, 0⟩])])) 300 5 [.oslice 50] (H0 a b c d)) := good_of (s := .ok) (by kernel_rfl) (by kernel_rfl)
end Go.Ev
