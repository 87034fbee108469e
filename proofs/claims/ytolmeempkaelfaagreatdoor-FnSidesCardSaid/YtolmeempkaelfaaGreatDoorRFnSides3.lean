import Derived.Test.YtolmeempkaelfaaGreatDoorLa
set_option linter.all false
set_option maxRecDepth 1000000
namespace Go.Ev
open Go
theorem rFnSidesx1x1 (a b c : TypeId) : Good (Answer tab 100000 (orcT (tL [(1, 2, 1), (2, 2, 1)])) 300 6 [.oslice 50] (H0 a b c)) := good_of (s := (.and (.and (.and .ok (.and .ok .ok)) (.and (.and .ok (.and .ok .ok)) (.and (.and .ok (.and .ok .ok)) .ok))) (.and (.and (.and .ok (.and .ok .ok)) (.and (.and .ok (.and .ok .ok)) (.and (.and .ok (.and .ok .ok)) .ok))) (.and (.and (.and .ok (.and .ok .ok)) (.and (.and .ok (.and .ok .ok)) (.and (.and .ok (.and .ok .ok)) .ok))) (.and (.and (.and .ok (.and .ok .ok)) (.and (.and .ok (.and .ok .ok)) (.and (.and .ok (.and .ok .ok)) .ok))) .ok))))) (by kernel_rfl) (by kernel_rfl)
end Go.Ev
