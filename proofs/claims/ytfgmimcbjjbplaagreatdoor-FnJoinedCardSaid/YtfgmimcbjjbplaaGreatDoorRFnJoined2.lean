import Derived.Test.YtfgmimcbjjbplaaGreatDoorLa
set_option linter.all false
set_option maxRecDepth 1000000
namespace Go.Ev
open Go
theorem rFnJoinedx26 (a b c d : TypeId) : Good (Answer tab 100000 (orcY (tO [(1, .sint .i64 1 [⟨1, 60, 1, 0⟩]), (2, .sint .i64 100 [⟨100, 60, 1, 0⟩, ⟨10, 71, 9, 0⟩, ⟨1, 72, 8, 0⟩])])) 300 6 [.oslice 50] (H0 a b c d)) := good_of (s := .ok) (by kernel_rfl) (by kernel_rfl)
theorem rFnJoinedx27 (a b c d : TypeId) : Good (Answer tab 100000 (orcY (tO [(1, .sint .i64 1 [⟨1, 60, 1, 0⟩]), (2, .sint .i64 109 [⟨100, 60, 1, 0⟩, ⟨10, 71, 8, 0⟩])])) 300 6 [.oslice 50] (H0 a b c d)) := good_of (s := .ok) (by kernel_rfl) (by kernel_rfl)
theorem rFnJoinedx28 (a b c d : TypeId) : Good (Answer tab 100000 (orcY (tO [(1, .sint .i64 1 [⟨1, 60, 1, 0⟩]), (2, .sint .i64 199 [⟨100, 60, 1, 0⟩])])) 300 6 [.oslice 50] (H0 a b c d)) := good_of (s := .ok) (by kernel_rfl) (by kernel_rfl)
theorem rFnJoinedx29 (a b c d : TypeId) : Good (Answer tab 100000 (orcY (tO [(1, .sint .i64 1 [⟨1, 60, 8, 70⟩]), (2, .sint .i64 100 [⟨100, 70, 1, 0⟩, ⟨10, 71, 9, 0⟩, ⟨1, 72, 8, 0⟩])])) 300 6 [.oslice 50] (H0 a b c d)) := good_of (s := .ok) (by kernel_rfl) (by kernel_rfl)
theorem rFnJoinedx30 (a b c d : TypeId) : Good (Answer tab 100000 (orcY (tO [(1, .sint .i64 1 [⟨1, 60, 8, 70⟩]), (2, .sint .i64 109 [⟨100, 70, 1, 0⟩, ⟨10, 71, 8, 0⟩])])) 300 6 [.oslice 50] (H0 a b c d)) := good_of (s := .ok) (by kernel_rfl) (by kernel_rfl)
theorem rFnJoinedx31 (a b c d : TypeId) : Good (Answer tab 100000 (orcY (tO [(1, .sint .i64 1 [⟨1, 60, 8, 70⟩]), (2, .sint .i64 199 [⟨100, 70, 1, 0⟩])])) 300 6 [.oslice 50] (H0 a b c d)) := good_of (s := .ok) (by kernel_rfl) (by kernel_rfl)
theorem rFnJoinedx32 (a b c d : TypeId) : Good (Answer tab 100000 (orcY (tO [(1, .sint .i64 10 [⟨10, 60, 8, 0⟩, ⟨1, 61, 9, 0⟩]), (2, .int .i64 0)])) 300 6 [.oslice 50] (H0 a b c d)) := good_of (s := .ok) (by kernel_rfl) (by kernel_rfl)
theorem rFnJoinedx33 (a b c d : TypeId) : Good (Answer tab 100000 (orcY (tO [(1, .sint .i64 10 [⟨10, 60, 8, 0⟩, ⟨1, 61, 9, 0⟩]), (2, .sint .i64 1 [⟨1, 70, 7, 60⟩])])) 300 6 [.oslice 50] (H0 a b c d)) := good_of (s := .ok) (by kernel_rfl) (by kernel_rfl)
theorem rFnJoinedx34 (a b c d : TypeId) : Good (Answer tab 100000 (orcY (tO [(1, .sint .i64 10 [⟨10, 60, 7, 0⟩, ⟨1, 61, 9, 0⟩]), (2, .int .i64 9)])) 300 6 [.oslice 50] (H0 a b c d)) := good_of (s := .ok) (by kernel_rfl) (by kernel_rfl)
theorem rFnJoinedx35 (a b c d : TypeId) : Good (Answer tab 100000 (orcY (tO [(1, .sint .i64 10 [⟨10, 60, 7, 0⟩, ⟨1, 61, 9, 0⟩]), (2, .sint .i64 1 [⟨1, 60, 7, 0⟩])])) 300 6 [.oslice 50] (H0 a b c d)) := good_of (s := .ok) (by kernel_rfl) (by kernel_rfl)
theorem rFnJoinedx36 (a b c d : TypeId) : Good (Answer tab 100000 (orcY (tO [(1, .sint .i64 90 [⟨1, 61, 9, 0⟩]), (2, .int .i64 9)])) 300 6 [.oslice 50] (H0 a b c d)) := good_of (s := .ok) (by kernel_rfl) (by kernel_rfl)
theorem rFnJoinedx37 (a b c d : TypeId) : Good (Answer tab 100000 (orcY (tO [(1, .sint .i64 10 [⟨10, 60, 8, 70⟩, ⟨1, 61, 9, 0⟩]), (2, .sint .i64 1 [⟨1, 70, 7, 0⟩])])) 300 6 [.oslice 50] (H0 a b c d)) := good_of (s := .ok) (by kernel_rfl) (by kernel_rfl)
theorem rFnJoinedx38 (a b c d : TypeId) : Good (Answer tab 100000 (orcY (tO [(1, .sint .i64 10 [⟨10, 60, 8, 0⟩, ⟨1, 61, 9, 0⟩]), (2, .sint .i64 10 [⟨10, 70, 8, 60⟩, ⟨1, 71, 8, 0⟩])])) 300 6 [.oslice 50] (H0 a b c d)) := good_of (s := .ok) (by kernel_rfl) (by kernel_rfl)
end Go.Ev
