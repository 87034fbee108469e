import Derived.Test.YtfgmimcbjjbplaaGreatDoorLa
set_option linter.all false
set_option maxRecDepth 1000000
namespace Go.Ev
open Go
theorem rFnLooksx32 (a b c d : TypeId) : Good (Answer tab 100000 (orcY (tO [(1, .sint .i64 100 [⟨100, 60, 1, 0⟩, ⟨10, 61, 9, 0⟩, ⟨1, 62, 9, 0⟩]), (2, .sint .i64 10 [⟨10, 70, 8, 60⟩, ⟨1, 71, 9, 0⟩])])) 300 5 [.oslice 50] (H0 a b c d)) := good_of (s := .ok) (by kernel_rfl) (by kernel_rfl)
theorem rFnLooksx33 (a b c d : TypeId) : Good (Answer tab 100000 (orcY (tO [(1, .sint .i64 100 [⟨100, 60, 1, 0⟩, ⟨10, 61, 9, 0⟩, ⟨1, 62, 9, 0⟩]), (2, .sint .i64 10 [⟨10, 60, 1, 0⟩, ⟨1, 71, 9, 61⟩])])) 300 5 [.oslice 50] (H0 a b c d)) := good_of (s := .ok) (by kernel_rfl) (by kernel_rfl)
theorem rFnLooksx34 (a b c d : TypeId) : Good (Answer tab 100000 (orcY (tO [(1, .sint .i64 100 [⟨100, 60, 1, 0⟩, ⟨10, 61, 9, 0⟩, ⟨1, 62, 9, 0⟩]), (2, .sint .i64 10 [⟨10, 60, 1, 0⟩, ⟨1, 61, 9, 0⟩])])) 300 5 [.oslice 50] (H0 a b c d)) := good_of (s := .ok) (by kernel_rfl) (by kernel_rfl)
theorem rFnLooksx35 (a b c d : TypeId) : Good (Answer tab 100000 (orcY (tO [(1, .sint .i64 100 [⟨100, 60, 1, 0⟩, ⟨10, 61, 9, 71⟩, ⟨1, 62, 9, 0⟩]), (2, .sint .i64 10 [⟨10, 60, 1, 0⟩, ⟨1, 71, 9, 0⟩])])) 300 5 [.oslice 50] (H0 a b c d)) := good_of (s := .ok) (by kernel_rfl) (by kernel_rfl)
end Go.Ev
