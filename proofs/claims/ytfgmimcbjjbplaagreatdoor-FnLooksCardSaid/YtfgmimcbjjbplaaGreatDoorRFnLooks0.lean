import Derived.Test.YtfgmimcbjjbplaaGreatDoorLa
set_option linter.all false
set_option maxRecDepth 1000000
namespace Go.Ev
open Go
theorem rFnLooksxe (a b c d : TypeId) : Good (Answer tab 100000 (orcT fun _ => none) 300 5 [.eslice] (H0 a b c d)) := good_of (s := .ok) (by kernel_rfl) (by kernel_rfl)
theorem rFnLooksx0 (a b c d : TypeId) : Good (Answer tab 100000 (orcY (tO [(1, .int .i64 0), (2, .int .i64 0)])) 300 5 [.oslice 50] (H0 a b c d)) := good_of (s := .ok) (by kernel_rfl) (by kernel_rfl)
theorem rFnLooksx1 (a b c d : TypeId) : Good (Answer tab 100000 (orcY (tO [(1, .int .i64 0), (2, .sint .i64 1 [⟨1, 70, 8, 0⟩])])) 300 5 [.oslice 50] (H0 a b c d)) := good_of (s := .ok) (by kernel_rfl) (by kernel_rfl)
theorem rFnLooksx2 (a b c d : TypeId) : Good (Answer tab 100000 (orcY (tO [(1, .int .i64 0), (2, .sint .i64 10 [⟨10, 70, 8, 0⟩, ⟨1, 71, 9, 0⟩])])) 300 5 [.oslice 50] (H0 a b c d)) := good_of (s := .ok) (by kernel_rfl) (by kernel_rfl)
theorem rFnLooksx3 (a b c d : TypeId) : Good (Answer tab 100000 (orcY (tO [(1, .int .i64 0), (2, .sint .i64 100 [⟨100, 70, 1, 0⟩, ⟨10, 71, 9, 0⟩, ⟨1, 72, 9, 0⟩])])) 300 5 [.oslice 50] (H0 a b c d)) := good_of (s := .ok) (by kernel_rfl) (by kernel_rfl)
end Go.Ev
