import Derived.Test.YtkedjpkkhbnklaaGreatDoorRFnArrays0
import Derived.Test.YtkedjpkkhbnklaaGreatDoorRFnArrays1
import Derived.Test.YtkedjpkkhbnklaaGreatDoorRFnArrays2
import Derived.Test.YtkedjpkkhbnklaaGreatDoorRFnArrays3
import Derived.Test.YtkedjpkkhbnklaaGreatDoorLaFnArrays
set_option linter.all false
set_option maxRecDepth 1000000
namespace Go.Ev
open Go
noncomputable def oFnArrays0 (a b c d : TypeId) : Orc := orcE eFnArrays0_0 (tabs a b c d) (orcE eFnArrays0_1 (tabs a b c d) (orcE eFnArrays0_2 (tabs a b c d) (orcY (tO [(1, .int .i64 0)]))))
theorem rFnArraysx0 (a b c d : TypeId) : Good (Answer tab 100000 (oFnArrays0 a b c d) 300 3 [.oslice 50] (H0 a b c d)) := good_of (s := .ok) (by kernel_rfl) (by kernel_rfl)
noncomputable def oFnArrayse (a b c d : TypeId) : Orc := orcE eFnArrays0_0 (tabs a b c d) (orcE eFnArrays0_1 (tabs a b c d) (orcE eFnArrays0_2 (tabs a b c d) (orcY (tO []))))
theorem rFnArraysxe (a b c d : TypeId) : Good (Answer tab 100000 (oFnArrayse a b c d) 300 3 [.eslice] (H0 a b c d)) := good_of (s := .ok) (by kernel_rfl) (by kernel_rfl)
end Go.Ev
