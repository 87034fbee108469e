import Derived.Test.YtlbjhnafdcmpeaaGreatDoorRFnTold0
import Derived.Test.YtlbjhnafdcmpeaaGreatDoorRFnTold1
import Derived.Test.YtlbjhnafdcmpeaaGreatDoorRFnTold2
import Derived.Test.YtlbjhnafdcmpeaaGreatDoorRFnTold3
import Derived.Test.YtlbjhnafdcmpeaaGreatDoorRFnTold4
import Derived.Test.YtlbjhnafdcmpeaaGreatDoorRFnTold5
import Derived.Test.YtlbjhnafdcmpeaaGreatDoorRFnTold6
import Derived.Test.YtlbjhnafdcmpeaaGreatDoorRFnTold7
set_option linter.all false
set_option maxRecDepth 1000000
namespace Go.Ev
open Go
noncomputable section
theorem rFnToldxe (a b c d : TypeId) : Good (Answer tab 100000 (u0 a b c d (orcT fun _ => none)) 300 4 [.eslice] (H0 a b c d)) := good_of (s := .ok) (by kernel_rfl) (by kernel_rfl)
theorem rFnToldx0 (a b c d : TypeId) : Good (Answer tab 100000 (u0 a b c d (orcT (tL [(1, 11, 0)]))) 300 4 [.oslice 50] (H0 a b c d)) := good_of (s := .ok) (by kernel_rfl) (by kernel_rfl)
theorem rFnToldx1 (a b c d : TypeId) : Good (Answer tab 100000 (u1 a b c d (orcT (tL [(1, 11, 1)]))) 300 4 [.oslice 50] (H0 a b c d)) := good_of (s := .ok) (by kernel_rfl) (by kernel_rfl)
theorem rFnToldx2 (a b c d : TypeId) : Good (Answer tab 100000 (u2 a b c d (orcT (tL [(1, 11, 2)]))) 300 4 [.oslice 50] (H0 a b c d)) := good_of (s := .ok) (by kernel_rfl) (by kernel_rfl)
theorem rFnToldx3 (a b c d : TypeId) : Good (Answer tab 100000 (u3 a b c d (orcT (tL [(1, 11, 3)]))) 300 4 [.oslice 50] (H0 a b c d)) := good_of (s := .ok) (by kernel_rfl) (by kernel_rfl)
theorem rFnToldx4 (a b c d : TypeId) : Good (Answer tab 100000 (u4 a b c d (orcT (tL [(1, 11, 4)]))) 300 4 [.oslice 50] (H0 a b c d)) := good_of (s := .ok) (by kernel_rfl) (by kernel_rfl)
theorem rFnToldx5 (a b c d : TypeId) : Good (Answer tab 100000 (u5 a b c d (orcT (tL [(1, 11, 5)]))) 300 4 [.oslice 50] (H0 a b c d)) := good_of (s := .ok) (by kernel_rfl) (by kernel_rfl)
end
end Go.Ev
