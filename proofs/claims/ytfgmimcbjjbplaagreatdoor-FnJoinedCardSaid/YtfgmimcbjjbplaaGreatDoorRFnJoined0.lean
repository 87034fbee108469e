import Derived.Test.YtfgmimcbjjbplaaGreatDoorLa
set_option linter.all false
set_option maxRecDepth 1000000
namespace Go.Ev
open Go
theorem rFnJoinedxe (a b c d : TypeId) : Good (Answer tab 100000 (orcT fun _ => none) 300 6 [.eslice] (H0 a b c d)) := good_of (s := .ok) (by kernel_rfl) (by kernel_rfl)
theorem rFnJoinedx0 (a b c d : TypeId) : Good (Answer tab 100000 (orcY (tO [(1, .int .i64 0), (2, .int .i64 0)])) 300 6 [.oslice 50] (H0 a b c d)) := good_of (s := .ok) (by kernel_rfl) (by kernel_rfl)
theorem rFnJoinedx1 (a b c d : TypeId) : Good (Answer tab 100000 (orcY (tO [(1, .int .i64 0), (2, .sint .i64 1 [⟨1, 70, 7, 0⟩])])) 300 6 [.oslice 50] (H0 a b c d)) := good_of (s := .ok) (by kernel_rfl) (by kernel_rfl)
theorem rFnJoinedx2 (a b c d : TypeId) : Good (Answer tab 100000 (orcY (tO [(1, .int .i64 0), (2, .int .i64 9)])) 300 6 [.oslice 50] (H0 a b c d)) := good_of (s := .ok) (by kernel_rfl) (by kernel_rfl)
theorem rFnJoinedx3 (a b c d : TypeId) : Good (Answer tab 100000 (orcY (tO [(1, .int .i64 0), (2, .sint .i64 10 [⟨10, 70, 8, 0⟩, ⟨1, 71, 8, 0⟩])])) 300 6 [.oslice 50] (H0 a b c d)) := good_of (s := .ok) (by kernel_rfl) (by kernel_rfl)
theorem rFnJoinedx4 (a b c d : TypeId) : Good (Answer tab 100000 (orcY (tO [(1, .int .i64 0), (2, .sint .i64 19 [⟨10, 70, 7, 0⟩])])) 300 6 [.oslice 50] (H0 a b c d)) := good_of (s := .ok) (by kernel_rfl) (by kernel_rfl)
theorem rFnJoinedx5 (a b c d : TypeId) : Good (Answer tab 100000 (orcY (tO [(1, .int .i64 0), (2, .int .i64 99)])) 300 6 [.oslice 50] (H0 a b c d)) := good_of (s := .ok) (by kernel_rfl) (by kernel_rfl)
theorem rFnJoinedx6 (a b c d : TypeId) : Good (Answer tab 100000 (orcY (tO [(1, .int .i64 0), (2, .sint .i64 100 [⟨100, 70, 1, 0⟩, ⟨10, 71, 9, 0⟩, ⟨1, 72, 8, 0⟩])])) 300 6 [.oslice 50] (H0 a b c d)) := good_of (s := .ok) (by kernel_rfl) (by kernel_rfl)
theorem rFnJoinedx7 (a b c d : TypeId) : Good (Answer tab 100000 (orcY (tO [(1, .int .i64 0), (2, .sint .i64 109 [⟨100, 70, 1, 0⟩, ⟨10, 71, 8, 0⟩])])) 300 6 [.oslice 50] (H0 a b c d)) := good_of (s := .ok) (by kernel_rfl) (by kernel_rfl)
theorem rFnJoinedx8 (a b c d : TypeId) : Good (Answer tab 100000 (orcY (tO [(1, .int .i64 0), (2, .sint .i64 199 [⟨100, 70, 1, 0⟩])])) 300 6 [.oslice 50] (H0 a b c d)) := good_of (s := .ok) (by kernel_rfl) (by kernel_rfl)
theorem rFnJoinedx9 (a b c d : TypeId) : Good (Answer tab 100000 (orcY (tO [(1, .sint .i64 1 [⟨1, 60, 8, 0⟩]), (2, .int .i64 0)])) 300 6 [.oslice 50] (H0 a b c d)) := good_of (s := .ok) (by kernel_rfl) (by kernel_rfl)
theorem rFnJoinedx10 (a b c d : TypeId) : Good (Answer tab 100000 (orcY (tO [(1, .sint .i64 1 [⟨1, 60, 8, 0⟩]), (2, .sint .i64 1 [⟨1, 70, 7, 60⟩])])) 300 6 [.oslice 50] (H0 a b c d)) := good_of (s := .ok) (by kernel_rfl) (by kernel_rfl)
theorem rFnJoinedx11 (a b c d : TypeId) : Good (Answer tab 100000 (orcY (tO [(1, .sint .i64 1 [⟨1, 60, 7, 0⟩]), (2, .int .i64 9)])) 300 6 [.oslice 50] (H0 a b c d)) := good_of (s := .ok) (by kernel_rfl) (by kernel_rfl)
theorem rFnJoinedx12 (a b c d : TypeId) : Good (Answer tab 100000 (orcY (tO [(1, .sint .i64 1 [⟨1, 60, 7, 0⟩]), (2, .sint .i64 1 [⟨1, 60, 7, 0⟩])])) 300 6 [.oslice 50] (H0 a b c d)) := good_of (s := .ok) (by kernel_rfl) (by kernel_rfl)
end Go.Ev
