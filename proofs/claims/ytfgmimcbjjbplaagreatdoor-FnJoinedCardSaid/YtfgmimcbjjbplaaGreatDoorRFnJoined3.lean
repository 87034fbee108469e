import Derived.Test.YtfgmimcbjjbplaaGreatDoorLa
set_option linter.all false
set_option maxRecDepth 1000000
namespace Go.Ev
open Go
theorem rFnJoinedx39 (a b c d : TypeId) : Good (Answer tab 100000 (orcY (tO [(1, .sint .i64 10 [⟨10, 60, 8, 0⟩, ⟨1, 61, 9, 0⟩]), (2, .sint .i64 19 [⟨10, 70, 7, 60⟩])])) 300 6 [.oslice 50] (H0 a b c d)) := good_of (s := .ok) (by kernel_rfl) (by kernel_rfl)
theorem rFnJoinedx40 (a b c d : TypeId) : Good (Answer tab 100000 (orcY (tO [(1, .sint .i64 10 [⟨10, 60, 7, 0⟩, ⟨1, 61, 9, 0⟩]), (2, .int .i64 99)])) 300 6 [.oslice 50] (H0 a b c d)) := good_of (s := .ok) (by kernel_rfl) (by kernel_rfl)
theorem rFnJoinedx41 (a b c d : TypeId) : Good (Answer tab 100000 (orcY (tO [(1, .sint .i64 10 [⟨10, 60, 8, 0⟩, ⟨1, 61, 9, 0⟩]), (2, .sint .i64 10 [⟨10, 60, 8, 0⟩, ⟨1, 71, 8, 61⟩])])) 300 6 [.oslice 50] (H0 a b c d)) := good_of (s := .ok) (by kernel_rfl) (by kernel_rfl)
theorem rFnJoinedx42 (a b c d : TypeId) : Good (Answer tab 100000 (orcY (tO [(1, .sint .i64 10 [⟨10, 60, 7, 0⟩, ⟨1, 61, 8, 0⟩]), (2, .sint .i64 19 [⟨10, 60, 7, 0⟩])])) 300 6 [.oslice 50] (H0 a b c d)) := good_of (s := .ok) (by kernel_rfl) (by kernel_rfl)
theorem rFnJoinedx43 (a b c d : TypeId) : Good (Answer tab 100000 (orcY (tO [(1, .sint .i64 90 [⟨1, 61, 8, 0⟩]), (2, .int .i64 99)])) 300 6 [.oslice 50] (H0 a b c d)) := good_of (s := .ok) (by kernel_rfl) (by kernel_rfl)
theorem rFnJoinedx44 (a b c d : TypeId) : Good (Answer tab 100000 (orcY (tO [(1, .sint .i64 10 [⟨10, 60, 8, 0⟩, ⟨1, 61, 8, 0⟩]), (2, .sint .i64 10 [⟨10, 60, 8, 0⟩, ⟨1, 61, 8, 0⟩])])) 300 6 [.oslice 50] (H0 a b c d)) := good_of (s := .ok) (by kernel_rfl) (by kernel_rfl)
theorem rFnJoinedx45 (a b c d : TypeId) : Good (Answer tab 100000 (orcY (tO [(1, .sint .i64 19 [⟨10, 60, 7, 0⟩]), (2, .sint .i64 19 [⟨10, 60, 7, 0⟩])])) 300 6 [.oslice 50] (H0 a b c d)) := good_of (s := .ok) (by kernel_rfl) (by kernel_rfl)
theorem rFnJoinedx46 (a b c d : TypeId) : Good (Answer tab 100000 (orcY (tO [(1, .int .i64 99), (2, .int .i64 99)])) 300 6 [.oslice 50] (H0 a b c d)) := good_of (s := .ok) (by kernel_rfl) (by kernel_rfl)
theorem rFnJoinedx47 (a b c d : TypeId) : Good (Answer tab 100000 (orcY (tO [(1, .sint .i64 10 [⟨10, 60, 8, 0⟩, ⟨1, 61, 9, 71⟩]), (2, .sint .i64 10 [⟨10, 60, 8, 0⟩, ⟨1, 71, 8, 0⟩])])) 300 6 [.oslice 50] (H0 a b c d)) := good_of (s := .ok) (by kernel_rfl) (by kernel_rfl)
theorem rFnJoinedx48 (a b c d : TypeId) : Good (Answer tab 100000 (orcY (tO [(1, .sint .i64 10 [⟨10, 60, 8, 70⟩, ⟨1, 61, 9, 0⟩]), (2, .sint .i64 10 [⟨10, 70, 8, 0⟩, ⟨1, 71, 8, 0⟩])])) 300 6 [.oslice 50] (H0 a b c d)) := good_of (s := .ok) (by kernel_rfl) (by kernel_rfl)
theorem rFnJoinedx49 (a b c d : TypeId) : Good (Answer tab 100000 (orcY (tO [(1, .sint .i64 10 [⟨10, 60, 8, 70⟩, ⟨1, 61, 9, 0⟩]), (2, .sint .i64 19 [⟨10, 70, 7, 0⟩])])) 300 6 [.oslice 50] (H0 a b c d)) := good_of (s := .ok) (by kernel_rfl) (by kernel_rfl)
theorem rFnJoinedx50 (a b c d : TypeId) : Good (Answer tab 100000 (orcY (tO [(1, .sint .i64 10 [⟨10, 60, 8, 0⟩, ⟨1, 61, 9, 0⟩]), (2, .sint .i64 100 [⟨100, 70, 1, 60⟩, ⟨10, 71, 9, 0⟩, ⟨1, 72, 8, 0⟩])])) 300 6 [.oslice 50] (H0 a b c d)) := good_of (s := .ok) (by kernel_rfl) (by kernel_rfl)
theorem rFnJoinedx51 (a b c d : TypeId) : Good (Answer tab 100000 (orcY (tO [(1, .sint .i64 10 [⟨10, 60, 8, 0⟩, ⟨1, 61, 9, 0⟩]), (2, .sint .i64 109 [⟨100, 70, 1, 60⟩, ⟨10, 71, 8, 0⟩])])) 300 6 [.oslice 50] (H0 a b c d)) := good_of (s := .ok) (by kernel_rfl) (by kernel_rfl)
end Go.Ev
