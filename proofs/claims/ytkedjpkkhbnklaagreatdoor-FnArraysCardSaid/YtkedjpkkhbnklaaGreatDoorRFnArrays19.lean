import Derived.Test.YtkedjpkkhbnklaaGreatDoorRFnArrays0
import Derived.Test.YtkedjpkkhbnklaaGreatDoorRFnArrays10
import Derived.Test.YtkedjpkkhbnklaaGreatDoorRFnArrays11
import Derived.Test.YtkedjpkkhbnklaaGreatDoorRFnArrays12
import Derived.Test.YtkedjpkkhbnklaaGreatDoorLaFnArrays
set_option linter.all false
set_option maxRecDepth 1000000
namespace Go.Ev
open Go
noncomputable def oFnArrays3 (a b c d : TypeId) : Orc := orcE eFnArrays3_0 (tabs a b c d) (orcE eFnArrays3_1 (tabs a b c d) (orcE eFnArrays3_2 (tabs a b c d) (orcY (tO [(1, .sint .i64 10 [⟨10, 60, 8, 0⟩, ⟨1, 61, 9, 0⟩])]))))
theorem rFnArraysx3 (a b c d : TypeId) : Good (Answer tab 100000 (oFnArrays3 a b c d) 300 3 [.oslice 50] (H0 a b c d)) := good_of (s := .ok) (by kernel_rfl) (by kernel_rfl)
end Go.Ev
