import Derived.Test.YtfgmimcbjjbplaaGreatDoorLa
set_option linter.all false
set_option maxRecDepth 1000000
namespace Go.Ev
open Go
theorem rFnJoinedx52 (a b c d : TypeId) : Good (Answer tab 100000 (orcY (tO [(1, .sint .i64 10 [⟨10, 60, 8, 0⟩, ⟨1, 61, 9, 0⟩]), (2, .sint .i64 199 [⟨100, 70, 1, 60⟩])])) 300 6 [.oslice 50] (H0 a b c d)) := good_of (s := .ok) (by kernel_rfl) (by kernel_rfl)
theorem rFnJoinedx53 (a b c d : TypeId) : Good (Answer tab 100000 (orcY (tO [(1, .sint .i64 10 [⟨10, 60, 1, 0⟩, ⟨1, 61, 9, 0⟩]), (2, .sint .i64 100 [⟨100, 60, 1, 0⟩, ⟨10, 71, 9, 61⟩, ⟨1, 72, 8, 0⟩])])) 300 6 [.oslice 50] (H0 a b c d)) := good_of (s := .ok) (by kernel_rfl) (by kernel_rfl)
theorem rFnJoinedx54 (a b c d : TypeId) : Good (Answer tab 100000 (orcY (tO [(1, .sint .i64 10 [⟨10, 60, 1, 0⟩, ⟨1, 61, 9, 0⟩]), (2, .sint .i64 109 [⟨100, 60, 1, 0⟩, ⟨10, 71, 8, 61⟩])])) 300 6 [.oslice 50] (H0 a b c d)) := good_of (s := .ok) (by kernel_rfl) (by kernel_rfl)
theorem rFnJoinedx55 (a b c d : TypeId) : Good (Answer tab 100000 (orcY (tO [(1, .sint .i64 10 [⟨10, 60, 1, 0⟩, ⟨1, 61, 8, 0⟩]), (2, .sint .i64 199 [⟨100, 60, 1, 0⟩])])) 300 6 [.oslice 50] (H0 a b c d)) := good_of (s := .ok) (by kernel_rfl) (by kernel_rfl)
theorem rFnJoinedx56 (a b c d : TypeId) : Good (Answer tab 100000 (orcY (tO [(1, .sint .i64 10 [⟨10, 60, 1, 0⟩, ⟨1, 61, 9, 0⟩]), (2, .sint .i64 100 [⟨100, 60, 1, 0⟩, ⟨10, 61, 9, 0⟩, ⟨1, 72, 8, 0⟩])])) 300 6 [.oslice 50] (H0 a b c d)) := good_of (s := .ok) (by kernel_rfl) (by kernel_rfl)
theorem rFnJoinedx57 (a b c d : TypeId) : Good (Answer tab 100000 (orcY (tO [(1, .sint .i64 10 [⟨10, 60, 1, 0⟩, ⟨1, 61, 8, 0⟩]), (2, .sint .i64 109 [⟨100, 60, 1, 0⟩, ⟨10, 61, 8, 0⟩])])) 300 6 [.oslice 50] (H0 a b c d)) := good_of (s := .ok) (by kernel_rfl) (by kernel_rfl)
theorem rFnJoinedx58 (a b c d : TypeId) : Good (Answer tab 100000 (orcY (tO [(1, .sint .i64 19 [⟨10, 60, 1, 0⟩]), (2, .sint .i64 199 [⟨100, 60, 1, 0⟩])])) 300 6 [.oslice 50] (H0 a b c d)) := good_of (s := .ok) (by kernel_rfl) (by kernel_rfl)
theorem rFnJoinedx59 (a b c d : TypeId) : Good (Answer tab 100000 (orcY (tO [(1, .sint .i64 10 [⟨10, 60, 1, 0⟩, ⟨1, 61, 9, 71⟩]), (2, .sint .i64 100 [⟨100, 60, 1, 0⟩, ⟨10, 71, 9, 0⟩, ⟨1, 72, 8, 0⟩])])) 300 6 [.oslice 50] (H0 a b c d)) := good_of (s := .ok) (by kernel_rfl) (by kernel_rfl)
theorem rFnJoinedx60 (a b c d : TypeId) : Good (Answer tab 100000 (orcY (tO [(1, .sint .i64 10 [⟨10, 60, 1, 0⟩, ⟨1, 61, 9, 71⟩]), (2, .sint .i64 109 [⟨100, 60, 1, 0⟩, ⟨10, 71, 8, 0⟩])])) 300 6 [.oslice 50] (H0 a b c d)) := good_of (s := .ok) (by kernel_rfl) (by kernel_rfl)
theorem rFnJoinedx61 (a b c d : TypeId) : Good (Answer tab 100000 (orcY (tO [(1, .sint .i64 10 [⟨10, 60, 8, 70⟩, ⟨1, 61, 9, 0⟩]), (2, .sint .i64 100 [⟨100, 70, 1, 0⟩, ⟨10, 71, 9, 0⟩, ⟨1, 72, 8, 0⟩])])) 300 6 [.oslice 50] (H0 a b c d)) := good_of (s := .ok) (by kernel_rfl) (by kernel_rfl)
theorem rFnJoinedx62 (a b c d : TypeId) : Good (Answer tab 100000 (orcY (tO [(1, .sint .i64 10 [⟨10, 60, 8, 70⟩, ⟨1, 61, 9, 0⟩]), (2, .sint .i64 109 [⟨100, 70, 1, 0⟩, ⟨10, 71, 8, 0⟩])])) 300 6 [.oslice 50] (H0 a b c d)) := good_of (s := .ok) (by kernel_rfl) (by kernel_rfl)
theorem rFnJoinedx63 (a b c d : TypeId) : Good (Answer tab 100000 (orcY (tO [(1, .sint .i64 10 [⟨10, 60, 8, 70⟩, ⟨1, 61, 9, 0⟩]), (2, .sint .i64 199 [⟨100, 70, 1, 0⟩])])) 300 6 [.oslice 50] (H0 a b c d)) := good_of (s := .ok) (by kernel_rfl) (by kernel_rfl)
theorem rFnJoinedx64 (a b c d : TypeId) : Good (Answer tab 100000 (orcY (tO [(1, .sint .i64 100 [⟨100, 60, 1, 0⟩, ⟨10, 61, 9, 0⟩, ⟨1, 62, 9, 0⟩]), (2, .int .i64 0)])) 300 6 [.oslice 50] (H0 a b c d)) := good_of (s := .ok) (by kernel_rfl) (by kernel_rfl)
end Go.Ev
