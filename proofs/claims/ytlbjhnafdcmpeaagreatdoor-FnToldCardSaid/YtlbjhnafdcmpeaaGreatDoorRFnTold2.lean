import Derived.Test.YtlbjhnafdcmpeaaGreatDoorRFnTold0
set_option linter.all false
set_option maxRecDepth 1000000
namespace Go.Ev
open Go
noncomputable section
def e8 : Ent := ⟨28, [(.ptr (nat_lit 60000) n0)], (nat_lit 60412), [(60000, c19), (20136, c20), (20122, c21), (20129, c22), (20139, c23)], (.slice (nat_lit 60437) n0 n0 n0), [(60437, c24)], (nat_lit 60439)⟩
def h8 (a b c d : TypeId) : Heap := ⟨(nat_lit 60412), (tE (tA (t1 a) (tE .e (tE .e (tE (tE .e (tE (tE .e (tE (tE .e (tE .e (tE .e (tE (tE (uA c23) .e) .e)))) .e)) .e)) .e))) (tA (t5 c) (tE (tE (tE .e (tE (tE .e (tE (tE .e (tE .e (tE .e (tE (tE (uA c22) .e) .e)))) .e)) .e)) .e) .e) .e)) (tA (t2 d) (tA (t4 b) (tE (tE (tE .e (tE .e (tE (tE (tE .e (tE (tE .e (tE (tE .e (tE .e (uA c19))) .e)) .e)) .e) .e))) .e) (tE (tE .e (tE (tE .e (tE (tE .e (tE .e (tE .e (tE (tE (uA c20) .e) .e)))) .e)) .e)) .e)) .e) (tE (tE .e (tE .e (tE (tE (tE .e (tE (tE .e (tE .e (tE .e (tE (tE (uA c21) .e) .e)))) .e)) .e) .e))) .e)))⟩
theorem q8 (a b c d : TypeId) : hListN (e8).n0 (tabs a b c d ++ (e8).hp) = h8 a b c d := by kernel_rfl
theorem gg8 (a b c d : TypeId) : GG (noO) e8 (h8 a b c d) := good_of (s := .ok) (by kernel_rfl) (by kernel_rfl)
theorem k8 {a b c d : TypeId} {W : World} {s : Sl} (L : LL a b c d W s) {o : Orc} (O : OO W s o) : OO W s (orcE3 e8 (tabs a b c d) o) := mk3 L noOrc O e8 (by kernel_rfl) (by kernel_rfl) (q8 a b c d) (gg8 a b c d)
def e9 : Ent := ⟨8, [(.agg [(.gslice (nat_lit 20136) n0 n3 n5), (.gslice (nat_lit 20139) n0 n1 n5)])], (nat_lit 60000), [(20136, c20), (20122, c21), (20129, c22), (20139, c23)], (.bool false), [], (nat_lit 60462)⟩
def h9 (a b c d : TypeId) : Heap := ⟨(nat_lit 60000), (tE (tA (t1 a) (tE .e (tE .e (tE (tE .e (tE (tE .e (tE (tE .e (tE .e (tE .e (tE (tE (uA c23) .e) .e)))) .e)) .e)) .e))) (tA (t5 c) (tE (tE (tE .e (tE (tE .e (tE (tE .e (tE .e (tE .e (tE (tE (uA c22) .e) .e)))) .e)) .e)) .e) .e) .e)) (tA (t2 d) (tA (t4 b) (tE .e (tE (tE .e (tE (tE .e (tE (tE .e (tE .e (tE .e (tE (tE (uA c20) .e) .e)))) .e)) .e)) .e)) .e) (tE (tE .e (tE .e (tE (tE (tE .e (tE (tE .e (tE .e (tE .e (tE (tE (uA c21) .e) .e)))) .e)) .e) .e))) .e)))⟩
theorem q9 (a b c d : TypeId) : hListN (e9).n0 (tabs a b c d ++ (e9).hp) = h9 a b c d := by kernel_rfl
theorem gg9 (a b c d : TypeId) : GG (orcE3 e8 (tabs a b c d) (noO)) e9 (h9 a b c d) := good_of (s := .ok) (by kernel_rfl) (by kernel_rfl)
theorem k9 {a b c d : TypeId} {W : World} {s : Sl} (L : LL a b c d W s) {o : Orc} (O : OO W s o) : OO W s (orcE3 e9 (tabs a b c d) o) := mk3 L (k8 L noOrc) O e9 (by kernel_rfl) (by kernel_rfl) (q9 a b c d) (gg9 a b c d)
def e10 : Ent := ⟨5, [(.str n7 (nat_lit 35220085281859631))], (nat_lit 20000), [], (.agg [(.gslice (nat_lit 20080) n0 n2 n5), (.gslice (nat_lit 20083) n0 n1 n5)]), [(20080, c26), (20083, c27)], (nat_lit 20232)⟩
def h10 (a b c d : TypeId) : Heap := ⟨(nat_lit 20000), (tE (tA (t1 a) .e (uA (t5 c))) (tA (t2 d) (uA (t4 b)) .e))⟩
theorem q10 (a b c d : TypeId) : hListN (e10).n0 (tabs a b c d ++ (e10).hp) = h10 a b c d := by kernel_rfl
theorem gg10 (a b c d : TypeId) : GG (noO) e10 (h10 a b c d) := good_of (s := .ok) (by kernel_rfl) (by kernel_rfl)
theorem k10 {a b c d : TypeId} {W : World} {s : Sl} (L : LL a b c d W s) {o : Orc} (O : OO W s o) : OO W s (orcE3 e10 (tabs a b c d) o) := mk3 L noOrc O e10 (by kernel_rfl) (by kernel_rfl) (q10 a b c d) (gg10 a b c d)
def e11 : Ent := ⟨28, [(.ptr (nat_lit 40000) n0)], (nat_lit 40374), [(40000, c28), (20080, c29), (20083, c30)], (.slice (nat_lit 40392) n0 n0 n0), [(40392, c24)], (nat_lit 40394)⟩
def h11 (a b c d : TypeId) : Heap := ⟨(nat_lit 40374), (tE (tA (t1 a) (tE .e (tE (tE .e (tE .e (tE .e (tE (tE (tE .e (tE .e (tE .e (tE (tE (uA c30) .e) .e)))) .e) .e)))) .e)) (uA (t5 c))) (tA (t2 d) (tA (t4 b) (tE (tE (tE (tE .e (tE (tE (tE (tE .e (tE .e (tE .e (tE (tE (uA c28) .e) .e)))) .e) .e) .e)) .e) (tE .e (tE .e (tE (tE (tE .e (tE .e (tE .e (tE (tE (uA c29) .e) .e)))) .e) .e)))) .e) .e) .e))⟩
theorem q11 (a b c d : TypeId) : hListN (e11).n0 (tabs a b c d ++ (e11).hp) = h11 a b c d := by kernel_rfl
theorem gg11 (a b c d : TypeId) : GG (noO) e11 (h11 a b c d) := good_of (s := .ok) (by kernel_rfl) (by kernel_rfl)
theorem k11 {a b c d : TypeId} {W : World} {s : Sl} (L : LL a b c d W s) {o : Orc} (O : OO W s o) : OO W s (orcE3 e11 (tabs a b c d) o) := mk3 L noOrc O e11 (by kernel_rfl) (by kernel_rfl) (q11 a b c d) (gg11 a b c d)
def e12 : Ent := ⟨9, [(.agg [(.gslice (nat_lit 20080) n0 n2 n5), (.gslice (nat_lit 20083) n0 n1 n5)])], (nat_lit 40000), [(20080, c29), (20083, c30)], (.gslice (nat_lit 40409) n0 n1 n2), [(40409, c31)], (nat_lit 40417)⟩
def h12 (a b c d : TypeId) : Heap := ⟨(nat_lit 40000), (tE (tA (t1 a) (tE .e (tE (tE .e (tE .e (tE .e (tE (tE (tE .e (tE .e (tE .e (tE (tE (uA c30) .e) .e)))) .e) .e)))) .e)) (uA (t5 c))) (tA (t2 d) (tA (t4 b) (tE (tE .e (tE .e (tE .e (tE (tE (tE .e (tE .e (tE .e (tE (tE (uA c29) .e) .e)))) .e) .e)))) .e) .e) .e))⟩
theorem q12 (a b c d : TypeId) : hListN (e12).n0 (tabs a b c d ++ (e12).hp) = h12 a b c d := by kernel_rfl
theorem gg12 (a b c d : TypeId) : GG (orcE3 e11 (tabs a b c d) (noO)) e12 (h12 a b c d) := good_of (s := .ok) (by kernel_rfl) (by kernel_rfl)
theorem k12 {a b c d : TypeId} {W : World} {s : Sl} (L : LL a b c d W s) {o : Orc} (O : OO W s o) : OO W s (orcE3 e12 (tabs a b c d) o) := mk3 L (k11 L noOrc) O e12 (by kernel_rfl) (by kernel_rfl) (q12 a b c d) (gg12 a b c d)
def e13 : Ent := ⟨28, [(.ptr (nat_lit 60000) n0)], (nat_lit 60374), [(60000, c28), (20080, c29), (20083, c30)], (.slice (nat_lit 60392) n0 n0 n0), [(60392, c24)], (nat_lit 60394)⟩
def h13 (a b c d : TypeId) : Heap := ⟨(nat_lit 60374), (tE (tA (t1 a) (tE .e (tE (tE .e (tE .e (tE .e (tE (tE (tE .e (tE .e (tE .e (tE (tE (uA c30) .e) .e)))) .e) .e)))) .e)) (uA (t5 c))) (tA (t2 d) (tA (t4 b) (tE (tE (tE .e (tE .e (tE (tE (tE .e (tE (tE .e (tE (tE .e (tE .e (uA c28))) .e)) .e)) .e) .e))) (tE .e (tE .e (tE (tE (tE .e (tE .e (tE .e (tE (tE (uA c29) .e) .e)))) .e) .e)))) .e) .e) .e))⟩
theorem q13 (a b c d : TypeId) : hListN (e13).n0 (tabs a b c d ++ (e13).hp) = h13 a b c d := by kernel_rfl
theorem gg13 (a b c d : TypeId) : GG (noO) e13 (h13 a b c d) := good_of (s := .ok) (by kernel_rfl) (by kernel_rfl)
theorem k13 {a b c d : TypeId} {W : World} {s : Sl} (L : LL a b c d W s) {o : Orc} (O : OO W s o) : OO W s (orcE3 e13 (tabs a b c d) o) := mk3 L noOrc O e13 (by kernel_rfl) (by kernel_rfl) (q13 a b c d) (gg13 a b c d)
def e14 : Ent := ⟨8, [(.agg [(.gslice (nat_lit 20080) n0 n2 n5), (.gslice (nat_lit 20083) n0 n1 n5)])], (nat_lit 60000), [(20080, c29), (20083, c30)], (.bool false), [], (nat_lit 60418)⟩
def h14 (a b c d : TypeId) : Heap := ⟨(nat_lit 60000), (tE (tA (t1 a) (tE .e (tE (tE .e (tE .e (tE .e (tE (tE (tE .e (tE .e (tE .e (tE (tE (uA c30) .e) .e)))) .e) .e)))) .e)) (uA (t5 c))) (tA (t2 d) (tA (t4 b) (tE (tE .e (tE .e (tE .e (tE (tE (tE .e (tE .e (tE .e (tE (tE (uA c29) .e) .e)))) .e) .e)))) .e) .e) .e))⟩
theorem q14 (a b c d : TypeId) : hListN (e14).n0 (tabs a b c d ++ (e14).hp) = h14 a b c d := by kernel_rfl
theorem gg14 (a b c d : TypeId) : GG (orcE3 e13 (tabs a b c d) (noO)) e14 (h14 a b c d) := good_of (s := .ok) (by kernel_rfl) (by kernel_rfl)
theorem k14 {a b c d : TypeId} {W : World} {s : Sl} (L : LL a b c d W s) {o : Orc} (O : OO W s o) : OO W s (orcE3 e14 (tabs a b c d) o) := mk3 L (k13 L noOrc) O e14 (by kernel_rfl) (by kernel_rfl) (q14 a b c d) (gg14 a b c d)
def e15 : Ent := ⟨5, [(.str n18 (nat_lit 10900003415504038790897182165527377269497979))], (nat_lit 20000), [], (.agg [(.gslice (nat_lit 20292) n0 n7 n5), (.gslice (nat_lit 20295) n0 n1 n5)]), [(20292, c32), (20223, c33), (20278, c34), (20274, c35), (20285, c36), (20295, c37)], (nat_lit 20721)⟩
def h15 (a b c d : TypeId) : Heap := ⟨(nat_lit 20000), (tE (tA (t1 a) .e (uA (t5 c))) (tA (t2 d) (uA (t4 b)) .e))⟩
theorem q15 (a b c d : TypeId) : hListN (e15).n0 (tabs a b c d ++ (e15).hp) = h15 a b c d := by kernel_rfl
theorem gg15 (a b c d : TypeId) : GG (noO) e15 (h15 a b c d) := good_of (s := .ok) (by kernel_rfl) (by kernel_rfl)
theorem k15 {a b c d : TypeId} {W : World} {s : Sl} (L : LL a b c d W s) {o : Orc} (O : OO W s o) : OO W s (orcE3 e15 (tabs a b c d) o) := mk3 L noOrc O e15 (by kernel_rfl) (by kernel_rfl) (q15 a b c d) (gg15 a b c d)
def e16 : Ent := ⟨28, [(.ptr (nat_lit 40000) n0)], (nat_lit 41056), [(40000, c38), (20292, c39), (20223, c40), (20278, c41), (20274, c42), (20285, c43), (20295, c44)], (.gslice (nat_lit 41122) n0 n2 n3), [(41122, c45)], (nat_lit 41126)⟩
def h16 (a b c d : TypeId) : Heap := ⟨(nat_lit 41056), (tE (tA (t1 a) (tE (tE (tE (tE (tE (tE (tE .e (tE .e (tE .e (tE .e (tE (tE (uA c40) .e) .e))))) .e) .e) .e) .e) (tE (tE (tE .e (tE (tE .e (tE .e (tE .e (tE .e (tE (tE (uA c44) .e) .e))))) .e)) .e) .e)) .e) (tA (t5 c) .e (tE .e (tE .e (tE .e (tE (tE (tE .e (tE .e (tE .e (tE .e (tE (tE (uA c43) .e) .e))))) .e) .e)))))) (tA (t2 d) (tA (t4 b) (tE (tE (tE (tE .e (tE (tE (tE (tE .e (tE .e (tE .e (tE (tE (uA c38) .e) .e)))) .e) .e) .e)) .e) .e) .e) (tE (tE (tE (tE .e (tE (tE .e (tE .e (tE .e (tE .e (tE (tE (uA c39) .e) .e))))) .e)) .e) .e) .e)) (tE (tE (tE .e (tE .e (tE (tE (tE .e (tE .e (tE .e (tE .e (tE (tE (uA c42) .e) .e))))) .e) .e))) .e) (tE (tE .e (tE .e (tE (tE (tE .e (tE .e (tE .e (tE .e (tE (tE (uA c41) .e) .e))))) .e) .e))) .e))))⟩
theorem q16 (a b c d : TypeId) : hListN (e16).n0 (tabs a b c d ++ (e16).hp) = h16 a b c d := by kernel_rfl
theorem gg16 (a b c d : TypeId) : GG (noO) e16 (h16 a b c d) := good_of (s := (.and .ok (.and .ok .ok))) (by kernel_rfl) (by kernel_rfl)
theorem k16 {a b c d : TypeId} {W : World} {s : Sl} (L : LL a b c d W s) {o : Orc} (O : OO W s o) : OO W s (orcE3 e16 (tabs a b c d) o) := mk3 L noOrc O e16 (by kernel_rfl) (by kernel_rfl) (q16 a b c d) (gg16 a b c d)
def e17 : Ent := ⟨9, [(.agg [(.gslice (nat_lit 20292) n0 n7 n5), (.gslice (nat_lit 20295) n0 n1 n5)])], (nat_lit 40000), [(20292, c39), (20223, c40), (20278, c41), (20274, c42), (20285, c43), (20295, c44)], (.gslice (nat_lit 41163) n0 n1 n2), [(41163, c46)], (nat_lit 41192)⟩
def h17 (a b c d : TypeId) : Heap := ⟨(nat_lit 40000), (tE (tA (t1 a) (tE (tE (tE (tE (tE (tE (tE .e (tE .e (tE .e (tE .e (tE (tE (uA c40) .e) .e))))) .e) .e) .e) .e) (tE (tE (tE .e (tE (tE .e (tE .e (tE .e (tE .e (tE (tE (uA c44) .e) .e))))) .e)) .e) .e)) .e) (tA (t5 c) .e (tE .e (tE .e (tE .e (tE (tE (tE .e (tE .e (tE .e (tE .e (tE (tE (uA c43) .e) .e))))) .e) .e)))))) (tA (t2 d) (tA (t4 b) .e (tE (tE (tE (tE .e (tE (tE .e (tE .e (tE .e (tE .e (tE (tE (uA c39) .e) .e))))) .e)) .e) .e) .e)) (tE (tE (tE .e (tE .e (tE (tE (tE .e (tE .e (tE .e (tE .e (tE (tE (uA c42) .e) .e))))) .e) .e))) .e) (tE (tE .e (tE .e (tE (tE (tE .e (tE .e (tE .e (tE .e (tE (tE (uA c41) .e) .e))))) .e) .e))) .e))))⟩
theorem q17 (a b c d : TypeId) : hListN (e17).n0 (tabs a b c d ++ (e17).hp) = h17 a b c d := by kernel_rfl
theorem gg17 (a b c d : TypeId) : GG (orcE3 e16 (tabs a b c d) (noO)) e17 (h17 a b c d) := good_of (s := .ok) (by kernel_rfl) (by kernel_rfl)
theorem k17 {a b c d : TypeId} {W : World} {s : Sl} (L : LL a b c d W s) {o : Orc} (O : OO W s o) : OO W s (orcE3 e17 (tabs a b c d) o) := mk3 L (k16 L noOrc) O e17 (by kernel_rfl) (by kernel_rfl) (q17 a b c d) (gg17 a b c d)
end
end Go.Ev
