import Derived.Test.YtfgmimcbjjbplaaGreatDoorLa
set_option linter.all false
set_option maxRecDepth 1000000
namespace Go.Ev
open Go
theorem rFnLooksx16 (a b c d : TypeId) : Good (Answer tab 100000 (orcY (tO [(1, .sint .i64 10 [⟨10, 60, 8, 0⟩, ⟨1, 61, 9, 0⟩]), (2, .sint .i64 1 [⟨1, 60, 8, 0⟩])])) 300 5 [.oslice 50] (H0 a b c d)) := good_of (s := .ok) (by kernel_rfl) (by kernel_rfl)
theorem rFnLooksx17 (a b c d : TypeId) : Good (Answer tab 100000 (orcY (tO [(1, .sint .i64 10 [⟨10, 60, 8, 70⟩, ⟨1, 61, 9, 0⟩]), (2, .sint .i64 1 [⟨1, 70, 8, 0⟩])])) 300 5 [.oslice 50] (H0 a b c d)) := good_of (s := .ok) (by kernel_rfl) (by kernel_rfl)
theorem rFnLooksx18 (a b c d : TypeId) : Good (Answer tab 100000 (orcY (tO [(1, .sint .i64 10 [⟨10, 60, 8, 0⟩, ⟨1, 61, 9, 0⟩]), (2, .sint .i64 10 [⟨10, 70, 8, 60⟩, ⟨1, 71, 9, 0⟩])])) 300 5 [.oslice 50] (H0 a b c d)) := good_of (s := .ok) (by kernel_rfl) (by kernel_rfl)
theorem rFnLooksx19 (a b c d : TypeId) : Good (Answer tab 100000 (orcY (tO [(1, .sint .i64 10 [⟨10, 60, 8, 0⟩, ⟨1, 61, 9, 0⟩]), (2, .sint .i64 10 [⟨10, 60, 8, 0⟩, ⟨1, 71, 9, 61⟩])])) 300 5 [.oslice 50] (H0 a b c d)) := good_of (s := .ok) (by kernel_rfl) (by kernel_rfl)
end Go.Ev
