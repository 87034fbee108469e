import Derived.Test.YtkedjpkkhbnklaaGreatDoorRFnArrays0
import Derived.Test.YtkedjpkkhbnklaaGreatDoorLaFnArrays
set_option linter.all false
set_option maxRecDepth 1000000
namespace Go.Ev
open Go
def eFnArrays4_2 : Ent := ⟨8, [(.agg [(.gslice (nat_lit 11038) n0 n12 n5), (.gslice (nat_lit 11041) n0 n1 n5)]), (.str n0 n0), (.int .i64 n500)], (nat_lit 11678), [(nat_lit 11038, cFnArrays52), (nat_lit 10862, cFnArrays31), (nat_lit 11031, cFnArrays32), (nat_lit 10779, cFnArrays33), (nat_lit 11020, cFnArrays34), (nat_lit 10866, cFnArrays35), (nat_lit 10989, cFnArrays36), (nat_lit 11024, cFnArrays37), (nat_lit 11041, cFnArrays38)], (.agg [(.int .i64 n7), (.int .i64 n0), (.str n0 n0), (.int .i64 (nat_lit 491)), (.gslice (nat_lit 13393) n0 n1 n4), (.slice (nat_lit 13323) n0 n12 n12)]), [(nat_lit 13393, cFnArrays39), (nat_lit 13323, cFnArrays40)], (nat_lit 13394)⟩
def hFnArrays4_2 (a b c d : TypeId) : Heap := ⟨(nat_lit 11678), (tE (tE (tE (tE .e (tE .e (tE (tE (tE (tE .e (tE .e (tE (tE .e (tE (uA cFnArrays32) .e)) .e))) .e) .e) .e))) (tE .e (tE .e (tE (tE (tE (tE (tE .e (tE (tE .e (tE (uA cFnArrays33) .e)) .e)) .e) .e) .e) .e)))) (tA (tFnArrays5 a) (tA (tFnArrays9 c) (tE (tE .e (tE (tE (tE .e (tE .e (tE (tE .e (tE (uA cFnArrays38) .e)) .e))) .e) .e)) .e) .e) (tE .e (tE (tE .e (tE .e (tE .e (tE (tE .e (tE (tE .e (tE (uA cFnArrays36) .e)) .e)) .e)))) .e)))) (tE (tE (tA (tFnArrays8 b) (tE .e (tE (tE (tE (tE .e (tE .e (tE (tE .e (tE (uA cFnArrays37) .e)) .e))) .e) .e) .e)) .e) (tE .e (tE (tE (tE (tE (tE .e (tE .e (tE (tE .e (tE (uA cFnArrays34) .e)) .e))) .e) .e) .e) .e))) (tA (tFnArrays6 d) (tE (tE .e (tE .e (tE .e (tE (tE (tE .e (tE (tE .e (tE (uA cFnArrays35) .e)) .e)) .e) .e)))) .e) (tE .e (tE (tE .e (tE .e (tE (tE (tE .e (tE (tE .e (tE (uA cFnArrays31) .e)) .e)) .e) .e))) (tE (tE (tE (tE .e (tE .e (tE (tE .e (tE (uA cFnArrays52) .e)) .e))) .e) .e) .e))))))⟩
theorem qFnArrays4_2 (a b c d : TypeId) : hListN (eFnArrays4_2).n0 (tabs a b c d ++ (eFnArrays4_2).hp) = hFnArrays4_2 a b c d := by kernel_rfl
theorem gFnArrays4_2 (a b c d : TypeId) : EGood eFnArrays4_2 (hFnArrays4_2 a b c d) := good_of (s := .ok) (by kernel_rfl) (by kernel_rfl)
theorem kFnArrays4_2 : allRg (eFnArrays4_2).hp = true ∧ allFrom (eFnArrays4_2).n0 (eFnArrays4_2).nb = true := ⟨by kernel_rfl, by kernel_rfl⟩
end Go.Ev
