import Derived.Test.YtkedjpkkhbnklaaGreatDoorRFnArrays0
import Derived.Test.YtkedjpkkhbnklaaGreatDoorRFnArrays4
import Derived.Test.YtkedjpkkhbnklaaGreatDoorRFnArrays5
import Derived.Test.YtkedjpkkhbnklaaGreatDoorRFnArrays6
import Derived.Test.YtkedjpkkhbnklaaGreatDoorLaFnArrays
set_option linter.all false
set_option maxRecDepth 1000000
namespace Go.Ev
open Go
noncomputable def oFnArrays1 (a b c d : TypeId) : Orc := orcE eFnArrays1_0 (tabs a b c d) (orcE eFnArrays1_1 (tabs a b c d) (orcE eFnArrays1_2 (tabs a b c d) (orcY (tO [(1, .int .i64 1)]))))
theorem rFnArraysx1 (a b c d : TypeId) : Good (Answer tab 100000 (oFnArrays1 a b c d) 300 3 [.oslice 50] (H0 a b c d)) := good_of (s := .ok) (by kernel_rfl) (by kernel_rfl)
end Go.Ev
