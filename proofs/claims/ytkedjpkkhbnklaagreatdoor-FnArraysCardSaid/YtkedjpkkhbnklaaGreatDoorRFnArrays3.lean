import Derived.Test.YtkedjpkkhbnklaaGreatDoorRFnArrays0
import Derived.Test.YtkedjpkkhbnklaaGreatDoorLaFnArrays
set_option linter.all false
set_option maxRecDepth 1000000
namespace Go.Ev
open Go
def eFnArrays0_2 : Ent := ⟨8, [(.agg [(.gslice (nat_lit 11032) n0 n12 n5), (.gslice (nat_lit 11035) n0 n1 n5)]), (.str n0 n0), (.int .i64 n500)], (nat_lit 11672), [(nat_lit 11032, cFnArrays30), (nat_lit 10856, cFnArrays31), (nat_lit 11025, cFnArrays32), (nat_lit 10773, cFnArrays33), (nat_lit 11014, cFnArrays34), (nat_lit 10860, cFnArrays35), (nat_lit 10983, cFnArrays36), (nat_lit 11018, cFnArrays37), (nat_lit 11035, cFnArrays38)], (.agg [(.int .i64 n7), (.int .i64 n0), (.str n0 n0), (.int .i64 (nat_lit 491)), (.gslice (nat_lit 13387) n0 n1 n4), (.slice (nat_lit 13317) n0 n12 n12)]), [(nat_lit 13387, cFnArrays39), (nat_lit 13317, cFnArrays40)], (nat_lit 13388)⟩
def hFnArrays0_2 (a b c d : TypeId) : Heap := ⟨(nat_lit 11672), (tE (tE (tE (tE .e (tE (tE .e (tE .e (tE .e (tE (tE .e (tE (tE .e (tE (uA cFnArrays36) .e)) .e)) .e)))) .e)) (tE .e (tE .e (tE (tE (tE (tE .e (tE .e (tE (tE .e (tE (uA cFnArrays38) .e)) .e))) .e) .e) .e)))) (tA (tFnArrays5 a) (tA (tFnArrays9 c) (tE .e (tE (tE (tE (tE .e (tE .e (tE (tE .e (tE (uA cFnArrays32) .e)) .e))) .e) .e) .e)) .e) (tE (tE .e (tE (tE (tE (tE (tE .e (tE (tE .e (tE (uA cFnArrays33) .e)) .e)) .e) .e) .e) .e)) .e))) (tE (tE (tA (tFnArrays8 b) .e (tE (tE .e (tE .e (tE (tE (tE .e (tE (tE .e (tE (uA cFnArrays31) .e)) .e)) .e) .e))) (tE (tE (tE (tE .e (tE .e (tE (tE .e (tE (uA cFnArrays30) .e)) .e))) .e) .e) .e))) (tE .e (tE (tE .e (tE .e (tE (tE (tE .e (tE (tE .e (tE (uA cFnArrays35) .e)) .e)) .e) .e))) .e))) (tA (tFnArrays6 d) (tE .e (tE (tE (tE (tE (tE .e (tE .e (tE (tE .e (tE (uA cFnArrays37) .e)) .e))) .e) .e) .e) .e)) (tE (tE (tE (tE (tE (tE .e (tE .e (tE (tE .e (tE (uA cFnArrays34) .e)) .e))) .e) .e) .e) .e) .e))))⟩
theorem qFnArrays0_2 (a b c d : TypeId) : hListN (eFnArrays0_2).n0 (tabs a b c d ++ (eFnArrays0_2).hp) = hFnArrays0_2 a b c d := by kernel_rfl
theorem gFnArrays0_2 (a b c d : TypeId) : EGood eFnArrays0_2 (hFnArrays0_2 a b c d) := good_of (s := .ok) (by kernel_rfl) (by kernel_rfl)
theorem kFnArrays0_2 : allRg (eFnArrays0_2).hp = true ∧ allFrom (eFnArrays0_2).n0 (eFnArrays0_2).nb = true := ⟨by kernel_rfl, by kernel_rfl⟩
end Go.Ev
