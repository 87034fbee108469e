import Derived.Test.YtcffhmficemgoaaGreatDoorLa
set_option linter.all false
set_option maxRecDepth 1000000
namespace Go.Ev
open Go
theorem rFnCalledx8 (a b c d : TypeId) : Good (Answer tab 100000 (orcT (tL [(1, 12, 8)])) 300 4 [.oslice 50] (H0 a b c d)) := good_of (s := (.and (.and .ok (.and .ok .ok)) (.and (.and .ok (.and .ok .ok)) .ok))) (by kernel_rfl) (by kernel_rfl)
end Go.Ev
