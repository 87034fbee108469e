import Derived.Test.YtkedjpkkhbnklaaGreatDoorRFnArrays0
import Derived.Test.YtkedjpkkhbnklaaGreatDoorRFnArrays13
import Derived.Test.YtkedjpkkhbnklaaGreatDoorRFnArrays14
import Derived.Test.YtkedjpkkhbnklaaGreatDoorRFnArrays15
import Derived.Test.YtkedjpkkhbnklaaGreatDoorLaFnArrays
set_option linter.all false
set_option maxRecDepth 1000000
namespace Go.Ev
open Go
noncomputable def oFnArrays4 (a b c d : TypeId) : Orc := orcE eFnArrays4_0 (tabs a b c d) (orcE eFnArrays4_1 (tabs a b c d) (orcE eFnArrays4_2 (tabs a b c d) (orcY (tO [(1, .sint .i64 100 [⟨100, 60, 1, 0⟩, ⟨10, 61, 9, 0⟩, ⟨1, 62, 9, 0⟩])]))))
theorem rFnArraysx4 (a b c d : TypeId) : Good (Answer tab 100000 (oFnArrays4 a b c d) 300 3 [.oslice 50] (H0 a b c d)) := good_of (s := .ok) (by kernel_rfl) (by kernel_rfl)
end Go.Ev
