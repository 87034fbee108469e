import Derived.Test.YtlbjhnafdcmpeaaGreatDoorRFnRefuses0
import Derived.Test.YtlbjhnafdcmpeaaGreatDoorRFnRefuses1
import Derived.Test.YtlbjhnafdcmpeaaGreatDoorRFnRefuses2
import Derived.Test.YtlbjhnafdcmpeaaGreatDoorRFnRefuses3
import Derived.Test.YtlbjhnafdcmpeaaGreatDoorRFnRefuses4
import Derived.Test.YtlbjhnafdcmpeaaGreatDoorRFnRefuses5
import Derived.Test.YtlbjhnafdcmpeaaGreatDoorRFnRefuses6
import Derived.Test.YtlbjhnafdcmpeaaGreatDoorRFnRefuses7
import Derived.Test.YtlbjhnafdcmpeaaGreatDoorRFnRefuses8
set_option linter.all false
set_option maxRecDepth 1000000
namespace Go.Ev
open Go
noncomputable section
theorem rFnRefusesx4x0 (a b c d : TypeId) : Good (Answer tab 100000 (u10 a b c d (u1 a b c d (orcT (tL [(1, 6, 4), (2, 6, 0)])))) 300 3 [.oslice 50] (H0 a b c d)) := good_of (s := .ok) (by kernel_rfl) (by kernel_rfl)
theorem rFnRefusesx4x1 (a b c d : TypeId) : Good (Answer tab 100000 (u10 a b c d (u2 a b c d (orcT (tL [(1, 6, 4), (2, 6, 1)])))) 300 3 [.oslice 50] (H0 a b c d)) := good_of (s := .ok) (by kernel_rfl) (by kernel_rfl)
theorem rFnRefusesx4x2 (a b c d : TypeId) : Good (Answer tab 100000 (u10 a b c d (u3 a b c d (orcT (tL [(1, 6, 4), (2, 6, 2)])))) 300 3 [.oslice 50] (H0 a b c d)) := good_of (s := .ok) (by kernel_rfl) (by kernel_rfl)
theorem rFnRefusesx4x3 (a b c d : TypeId) : Good (Answer tab 100000 (u10 a b c d (u4 a b c d (orcT (tL [(1, 6, 4), (2, 6, 3)])))) 300 3 [.oslice 50] (H0 a b c d)) := good_of (s := .ok) (by kernel_rfl) (by kernel_rfl)
theorem rFnRefusesx4x4 (a b c d : TypeId) : Good (Answer tab 100000 (u10 a b c d (u5 a b c d (orcT (tL [(1, 6, 4), (2, 6, 4)])))) 300 3 [.oslice 50] (H0 a b c d)) := good_of (s := .ok) (by kernel_rfl) (by kernel_rfl)
theorem rFnRefusesx4x5 (a b c d : TypeId) : Good (Answer tab 100000 (u10 a b c d (u6 a b c d (orcT (tL [(1, 6, 4), (2, 6, 5)])))) 300 3 [.oslice 50] (H0 a b c d)) := good_of (s := .ok) (by kernel_rfl) (by kernel_rfl)
end
end Go.Ev
