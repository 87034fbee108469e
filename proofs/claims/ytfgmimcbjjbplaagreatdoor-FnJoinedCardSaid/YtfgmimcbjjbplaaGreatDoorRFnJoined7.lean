import Derived.Test.YtfgmimcbjjbplaaGreatDoorLa
set_option linter.all false
set_option maxRecDepth 1000000
namespace Go.Ev
open Go
theorem rFnJoinedx91 (a b c d : TypeId) : Good (Answer tab 100000 (orcY (tO [(1, .sint .i64 100 [⟨100, 60, 1, 0⟩, ⟨10, 61, 9, 0⟩, ⟨1, 62, 9, 72⟩]), (2, .sint .i64 100 [⟨100, 60, 1, 0⟩, ⟨10, 61, 9, 0⟩, ⟨1, 72, 8, 0⟩])])) 300 6 [.oslice 50] (H0 a b c d)) := good_of (s := .ok) (by kernel_rfl) (by kernel_rfl)
theorem rFnJoinedx92 (a b c d : TypeId) : Good (Answer tab 100000 (orcY (tO [(1, .sint .i64 100 [⟨100, 60, 1, 0⟩, ⟨10, 61, 9, 71⟩, ⟨1, 62, 9, 0⟩]), (2, .sint .i64 100 [⟨100, 60, 1, 0⟩, ⟨10, 71, 9, 0⟩, ⟨1, 72, 8, 0⟩])])) 300 6 [.oslice 50] (H0 a b c d)) := good_of (s := .ok) (by kernel_rfl) (by kernel_rfl)
theorem rFnJoinedx93 (a b c d : TypeId) : Good (Answer tab 100000 (orcY (tO [(1, .sint .i64 100 [⟨100, 60, 1, 0⟩, ⟨10, 61, 9, 71⟩, ⟨1, 62, 9, 0⟩]), (2, .sint .i64 109 [⟨100, 60, 1, 0⟩, ⟨10, 71, 8, 0⟩])])) 300 6 [.oslice 50] (H0 a b c d)) := good_of (s := .ok) (by kernel_rfl) (by kernel_rfl)
theorem rFnJoinedx94 (a b c d : TypeId) : Good (Answer tab 100000 (orcY (tO [(1, .sint .i64 100 [⟨100, 60, 1, 70⟩, ⟨10, 61, 9, 0⟩, ⟨1, 62, 9, 0⟩]), (2, .sint .i64 100 [⟨100, 70, 1, 0⟩, ⟨10, 71, 9, 0⟩, ⟨1, 72, 8, 0⟩])])) 300 6 [.oslice 50] (H0 a b c d)) := good_of (s := .ok) (by kernel_rfl) (by kernel_rfl)
theorem rFnJoinedx95 (a b c d : TypeId) : Good (Answer tab 100000 (orcY (tO [(1, .sint .i64 100 [⟨100, 60, 1, 70⟩, ⟨10, 61, 9, 0⟩, ⟨1, 62, 9, 0⟩]), (2, .sint .i64 109 [⟨100, 70, 1, 0⟩, ⟨10, 71, 8, 0⟩])])) 300 6 [.oslice 50] (H0 a b c d)) := good_of (s := .ok) (by kernel_rfl) (by kernel_rfl)
theorem rFnJoinedx96 (a b c d : TypeId) : Good (Answer tab 100000 (orcY (tO [(1, .sint .i64 100 [⟨100, 60, 1, 70⟩, ⟨10, 61, 9, 0⟩, ⟨1, 62, 9, 0⟩]), (2, .sint .i64 199 [⟨100, 70, 1, 0⟩])])) 300 6 [.oslice 50] (H0 a b c d)) := good_of (s := .ok) (by kernel_rfl) (by kernel_rfl)
end Go.Ev
