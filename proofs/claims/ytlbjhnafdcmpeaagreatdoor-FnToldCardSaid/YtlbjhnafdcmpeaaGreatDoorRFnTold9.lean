import Derived.Test.YtlbjhnafdcmpeaaGreatDoorRFnTold0
import Derived.Test.YtlbjhnafdcmpeaaGreatDoorRFnTold1
import Derived.Test.YtlbjhnafdcmpeaaGreatDoorRFnTold2
import Derived.Test.YtlbjhnafdcmpeaaGreatDoorRFnTold3
import Derived.Test.YtlbjhnafdcmpeaaGreatDoorRFnTold4
import Derived.Test.YtlbjhnafdcmpeaaGreatDoorRFnTold5
import Derived.Test.YtlbjhnafdcmpeaaGreatDoorRFnTold6
import Derived.Test.YtlbjhnafdcmpeaaGreatDoorRFnTold7
set_option linter.all false
set_option maxRecDepth 1000000
namespace Go.Ev
open Go
noncomputable section
theorem rFnToldx6 (a b c d : TypeId) : Good (Answer tab 100000 (u6 a b c d (orcT (tL [(1, 11, 6)]))) 300 4 [.oslice 50] (H0 a b c d)) := good_of (s := .ok) (by kernel_rfl) (by kernel_rfl)
theorem rFnToldx7 (a b c d : TypeId) : Good (Answer tab 100000 (u7 a b c d (orcT (tL [(1, 11, 7)]))) 300 4 [.oslice 50] (H0 a b c d)) := good_of (s := .ok) (by kernel_rfl) (by kernel_rfl)
theorem rFnToldx8 (a b c d : TypeId) : Good (Answer tab 100000 (u8 a b c d (orcT (tL [(1, 11, 8)]))) 300 4 [.oslice 50] (H0 a b c d)) := good_of (s := .ok) (by kernel_rfl) (by kernel_rfl)
theorem rFnToldx9 (a b c d : TypeId) : Good (Answer tab 100000 (u9 a b c d (orcT (tL [(1, 11, 9)]))) 300 4 [.oslice 50] (H0 a b c d)) := good_of (s := .ok) (by kernel_rfl) (by kernel_rfl)
theorem rFnToldx10 (a b c d : TypeId) : Good (Answer tab 100000 (u10 a b c d (orcT (tL [(1, 11, 10)]))) 300 4 [.oslice 50] (H0 a b c d)) := good_of (s := .ok) (by kernel_rfl) (by kernel_rfl)
end
end Go.Ev
