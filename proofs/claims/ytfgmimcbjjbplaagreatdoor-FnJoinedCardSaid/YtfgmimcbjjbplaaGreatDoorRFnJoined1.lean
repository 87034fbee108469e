import Derived.Test.YtfgmimcbjjbplaaGreatDoorLa
set_option linter.all false
set_option maxRecDepth 1000000
namespace Go.Ev
open Go
theorem rFnJoinedx13 (a b c d : TypeId) : Good (Answer tab 100000 (orcY (tO [(1, .int .i64 9), (2, .int .i64 9)])) 300 6 [.oslice 50] (H0 a b c d)) := good_of (s := .ok) (by kernel_rfl) (by kernel_rfl)
theorem rFnJoinedx14 (a b c d : TypeId) : Good (Answer tab 100000 (orcY (tO [(1, .sint .i64 1 [⟨1, 60, 8, 70⟩]), (2, .sint .i64 1 [⟨1, 70, 7, 0⟩])])) 300 6 [.oslice 50] (H0 a b c d)) := good_of (s := .ok) (by kernel_rfl) (by kernel_rfl)
theorem rFnJoinedx15 (a b c d : TypeId) : Good (Answer tab 100000 (orcY (tO [(1, .sint .i64 1 [⟨1, 60, 8, 0⟩]), (2, .sint .i64 10 [⟨10, 70, 8, 60⟩, ⟨1, 71, 8, 0⟩])])) 300 6 [.oslice 50] (H0 a b c d)) := good_of (s := .ok) (by kernel_rfl) (by kernel_rfl)
theorem rFnJoinedx16 (a b c d : TypeId) : Good (Answer tab 100000 (orcY (tO [(1, .sint .i64 1 [⟨1, 60, 8, 0⟩]), (2, .sint .i64 19 [⟨10, 70, 7, 60⟩])])) 300 6 [.oslice 50] (H0 a b c d)) := good_of (s := .ok) (by kernel_rfl) (by kernel_rfl)
theorem rFnJoinedx17 (a b c d : TypeId) : Good (Answer tab 100000 (orcY (tO [(1, .sint .i64 1 [⟨1, 60, 7, 0⟩]), (2, .int .i64 99)])) 300 6 [.oslice 50] (H0 a b c d)) := good_of (s := .ok) (by kernel_rfl) (by kernel_rfl)
theorem rFnJoinedx18 (a b c d : TypeId) : Good (Answer tab 100000 (orcY (tO [(1, .sint .i64 1 [⟨1, 60, 8, 0⟩]), (2, .sint .i64 10 [⟨10, 60, 8, 0⟩, ⟨1, 71, 8, 0⟩])])) 300 6 [.oslice 50] (H0 a b c d)) := good_of (s := .ok) (by kernel_rfl) (by kernel_rfl)
theorem rFnJoinedx19 (a b c d : TypeId) : Good (Answer tab 100000 (orcY (tO [(1, .sint .i64 1 [⟨1, 60, 7, 0⟩]), (2, .sint .i64 19 [⟨10, 60, 7, 0⟩])])) 300 6 [.oslice 50] (H0 a b c d)) := good_of (s := .ok) (by kernel_rfl) (by kernel_rfl)
theorem rFnJoinedx20 (a b c d : TypeId) : Good (Answer tab 100000 (orcY (tO [(1, .int .i64 9), (2, .int .i64 99)])) 300 6 [.oslice 50] (H0 a b c d)) := good_of (s := .ok) (by kernel_rfl) (by kernel_rfl)
theorem rFnJoinedx21 (a b c d : TypeId) : Good (Answer tab 100000 (orcY (tO [(1, .sint .i64 1 [⟨1, 60, 8, 70⟩]), (2, .sint .i64 10 [⟨10, 70, 8, 0⟩, ⟨1, 71, 8, 0⟩])])) 300 6 [.oslice 50] (H0 a b c d)) := good_of (s := .ok) (by kernel_rfl) (by kernel_rfl)
theorem rFnJoinedx22 (a b c d : TypeId) : Good (Answer tab 100000 (orcY (tO [(1, .sint .i64 1 [⟨1, 60, 8, 70⟩]), (2, .sint .i64 19 [⟨10, 70, 7, 0⟩])])) 300 6 [.oslice 50] (H0 a b c d)) := good_of (s := .ok) (by kernel_rfl) (by kernel_rfl)
theorem rFnJoinedx23 (a b c d : TypeId) : Good (Answer tab 100000 (orcY (tO [(1, .sint .i64 1 [⟨1, 60, 8, 0⟩]), (2, .sint .i64 100 [⟨100, 70, 1, 60⟩, ⟨10, 71, 9, 0⟩, ⟨1, 72, 8, 0⟩])])) 300 6 [.oslice 50] (H0 a b c d)) := good_of (s := .ok) (by kernel_rfl) (by kernel_rfl)
theorem rFnJoinedx24 (a b c d : TypeId) : Good (Answer tab 100000 (orcY (tO [(1, .sint .i64 1 [⟨1, 60, 8, 0⟩]), (2, .sint .i64 109 [⟨100, 70, 1, 60⟩, ⟨10, 71, 8, 0⟩])])) 300 6 [.oslice 50] (H0 a b c d)) := good_of (s := .ok) (by kernel_rfl) (by kernel_rfl)
theorem rFnJoinedx25 (a b c d : TypeId) : Good (Answer tab 100000 (orcY (tO [(1, .sint .i64 1 [⟨1, 60, 8, 0⟩]), (2, .sint .i64 199 [⟨100, 70, 1, 60⟩])])) 300 6 [.oslice 50] (H0 a b c d)) := good_of (s := .ok) (by kernel_rfl) (by kernel_rfl)
end Go.Ev
