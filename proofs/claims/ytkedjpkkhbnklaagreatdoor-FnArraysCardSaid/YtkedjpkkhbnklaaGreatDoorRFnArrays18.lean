import Derived.Test.YtkedjpkkhbnklaaGreatDoorRFnArrays0
import Derived.Test.YtkedjpkkhbnklaaGreatDoorRFnArrays7
import Derived.Test.YtkedjpkkhbnklaaGreatDoorRFnArrays8
import Derived.Test.YtkedjpkkhbnklaaGreatDoorRFnArrays9
import Derived.Test.YtkedjpkkhbnklaaGreatDoorLaFnArrays
set_option linter.all false
set_option maxRecDepth 1000000
namespace Go.Ev
open Go
noncomputable def oFnArrays2 (a b c d : TypeId) : Orc := orcE eFnArrays2_0 (tabs a b c d) (orcE eFnArrays2_1 (tabs a b c d) (orcE eFnArrays2_2 (tabs a b c d) (orcY (tO [(1, .sint .i64 2 [⟨1, 60, 7, 0⟩])]))))
theorem rFnArraysx2 (a b c d : TypeId) : Good (Answer tab 100000 (oFnArrays2 a b c d) 300 3 [.oslice 50] (H0 a b c d)) := good_of (s := .ok) (by kernel_rfl) (by kernel_rfl)
end Go.Ev
