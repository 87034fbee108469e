import Derived.Test.YtkedjpkkhbnklaaGreatDoorRFnArrays0
import Derived.Test.YtkedjpkkhbnklaaGreatDoorLaFnArrays
set_option linter.all false
set_option maxRecDepth 1000000
namespace Go.Ev
open Go
def eFnArrays3_2 : Ent := ⟨8, [(.agg [(.gslice (nat_lit 11035) n0 n12 n5), (.gslice (nat_lit 11038) n0 n1 n5)]), (.str n0 n0), (.int .i64 n500)], (nat_lit 11675), [(nat_lit 11035, cFnArrays47), (nat_lit 10859, cFnArrays31), (nat_lit 11028, cFnArrays32), (nat_lit 10776, cFnArrays33), (nat_lit 11017, cFnArrays34), (nat_lit 10863, cFnArrays35), (nat_lit 10986, cFnArrays36), (nat_lit 11021, cFnArrays37), (nat_lit 11038, cFnArrays38)], (.agg [(.int .i64 n7), (.int .i64 n0), (.str n0 n0), (.int .i64 (nat_lit 491)), (.gslice (nat_lit 13390) n0 n1 n4), (.slice (nat_lit 13320) n0 n12 n12)]), [(nat_lit 13390, cFnArrays39), (nat_lit 13320, cFnArrays40)], (nat_lit 13391)⟩
def hFnArrays3_2 (a b c d : TypeId) : Heap := ⟨(nat_lit 11675), (tE (tE (tE (tE (tE .e (tE .e (tE .e (tE (tE (tE .e (tE (tE .e (tE (uA cFnArrays35) .e)) .e)) .e) .e)))) .e) (tE .e (tE (tE .e (tE .e (tE (tE (tE .e (tE (tE .e (tE (uA cFnArrays31) .e)) .e)) .e) .e))) (tE (tE (tE (tE .e (tE .e (tE (tE .e (tE (uA cFnArrays47) .e)) .e))) .e) .e) .e)))) (tA (tFnArrays5 a) (tA (tFnArrays9 c) .e (tE (tE (tE (tE (tE .e (tE .e (tE (tE .e (tE (uA cFnArrays34) .e)) .e))) .e) .e) .e) .e)) (tE .e (tE (tE (tE (tE (tE .e (tE .e (tE (tE .e (tE (uA cFnArrays37) .e)) .e))) .e) .e) .e) .e)))) (tE (tE (tA (tFnArrays8 b) .e (tE .e (tE (tE (tE (tE (tE .e (tE (tE .e (tE (uA cFnArrays33) .e)) .e)) .e) .e) .e) .e))) (tE (tE .e (tE (tE (tE (tE .e (tE .e (tE (tE .e (tE (uA cFnArrays32) .e)) .e))) .e) .e) .e)) .e)) (tA (tFnArrays6 d) (tE .e (tE (tE .e (tE .e (tE .e (tE (tE .e (tE (tE .e (tE (uA cFnArrays36) .e)) .e)) .e)))) .e)) (tE .e (tE .e (tE (tE (tE (tE .e (tE .e (tE (tE .e (tE (uA cFnArrays38) .e)) .e))) .e) .e) .e))))))⟩
theorem qFnArrays3_2 (a b c d : TypeId) : hListN (eFnArrays3_2).n0 (tabs a b c d ++ (eFnArrays3_2).hp) = hFnArrays3_2 a b c d := by kernel_rfl
theorem gFnArrays3_2 (a b c d : TypeId) : EGood eFnArrays3_2 (hFnArrays3_2 a b c d) := good_of (s := .ok) (by kernel_rfl) (by kernel_rfl)
theorem kFnArrays3_2 : allRg (eFnArrays3_2).hp = true ∧ allFrom (eFnArrays3_2).n0 (eFnArrays3_2).nb = true := ⟨by kernel_rfl, by kernel_rfl⟩
end Go.Ev
