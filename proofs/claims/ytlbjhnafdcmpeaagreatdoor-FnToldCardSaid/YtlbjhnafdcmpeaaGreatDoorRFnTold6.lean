import Derived.Test.YtlbjhnafdcmpeaaGreatDoorRFnTold0
set_option linter.all false
set_option maxRecDepth 1000000
namespace Go.Ev
open Go
noncomputable section
def e48 : Ent := ⟨28, [(.ptr (nat_lit 60000) n0)], (nat_lit 60299), [(60000, c88), (20086, c89), (20089, c90), (20073, c91)], (.gslice (nat_lit 60320) n0 n1 n3), [(60320, c92)], (nat_lit 60321)⟩
def h48 (a b c d : TypeId) : Heap := ⟨(nat_lit 60299), (tE (tA (t1 a) .e (tA (t5 c) (tE .e (tE (tE .e (tE .e (tE (tE (tE .e (tE .e (tE .e (tE (tE (uA c91) .e) .e)))) .e) .e))) (tE .e (tE .e (tE (tE (tE .e (tE .e (tE .e (tE (tE (uA c90) .e) .e)))) .e) .e))))) .e)) (tA (t2 d) (tA (t4 b) (tE (tE (tE .e (tE .e (tE (tE (tE .e (tE (tE .e (tE (tE .e (tE .e (uA c88))) .e)) .e)) .e) .e))) .e) .e) .e) (tE .e (tE (tE .e (tE .e (tE .e (tE (tE (tE .e (tE .e (tE .e (tE (tE (uA c89) .e) .e)))) .e) .e)))) .e))))⟩
theorem q48 (a b c d : TypeId) : hListN (e48).n0 (tabs a b c d ++ (e48).hp) = h48 a b c d := by kernel_rfl
theorem gg48 (a b c d : TypeId) : GG (noO) e48 (h48 a b c d) := good_of (s := .ok) (by kernel_rfl) (by kernel_rfl)
theorem k48 {a b c d : TypeId} {W : World} {s : Sl} (L : LL a b c d W s) {o : Orc} (O : OO W s o) : OO W s (orcE3 e48 (tabs a b c d) o) := mk3 L noOrc O e48 (by kernel_rfl) (by kernel_rfl) (q48 a b c d) (gg48 a b c d)
def e49 : Ent := ⟨8, [(.agg [(.gslice (nat_lit 20086) n0 n1 n5), (.gslice (nat_lit 20089) n0 n1 n5)])], (nat_lit 60000), [(20086, c89), (20089, c90), (20073, c91)], (.bool false), [], (nat_lit 60338)⟩
def h49 (a b c d : TypeId) : Heap := ⟨(nat_lit 60000), (tE (tA (t1 a) .e (tA (t5 c) (tE .e (tE (tE .e (tE .e (tE (tE (tE .e (tE .e (tE .e (tE (tE (uA c91) .e) .e)))) .e) .e))) (tE .e (tE .e (tE (tE (tE .e (tE .e (tE .e (tE (tE (uA c90) .e) .e)))) .e) .e))))) .e)) (tA (t2 d) (uA (t4 b)) (tE .e (tE (tE .e (tE .e (tE .e (tE (tE (tE .e (tE .e (tE .e (tE (tE (uA c89) .e) .e)))) .e) .e)))) .e))))⟩
theorem q49 (a b c d : TypeId) : hListN (e49).n0 (tabs a b c d ++ (e49).hp) = h49 a b c d := by kernel_rfl
theorem gg49 (a b c d : TypeId) : GG (orcE3 e48 (tabs a b c d) (noO)) e49 (h49 a b c d) := good_of (s := .ok) (by kernel_rfl) (by kernel_rfl)
theorem k49 {a b c d : TypeId} {W : World} {s : Sl} (L : LL a b c d W s) {o : Orc} (O : OO W s o) : OO W s (orcE3 e49 (tabs a b c d) o) := mk3 L (k48 L noOrc) O e49 (by kernel_rfl) (by kernel_rfl) (q49 a b c d) (gg49 a b c d)
def e50 : Ent := ⟨5, [(.str n16 (nat_lit 166320853526911595365535266670880563323))], (nat_lit 20000), [], (.agg [(.gslice (nat_lit 20226) n0 n6 n5), (.gslice (nat_lit 20229) n0 n1 n5)]), [(20226, c94), (20208, c33), (20219, c95), (20212, c69), (20229, c70)], (nat_lit 20533)⟩
def h50 (a b c d : TypeId) : Heap := ⟨(nat_lit 20000), (tE (tA (t1 a) .e (uA (t5 c))) (tA (t2 d) (uA (t4 b)) .e))⟩
theorem q50 (a b c d : TypeId) : hListN (e50).n0 (tabs a b c d ++ (e50).hp) = h50 a b c d := by kernel_rfl
theorem gg50 (a b c d : TypeId) : GG (noO) e50 (h50 a b c d) := good_of (s := .ok) (by kernel_rfl) (by kernel_rfl)
theorem k50 {a b c d : TypeId} {W : World} {s : Sl} (L : LL a b c d W s) {o : Orc} (O : OO W s o) : OO W s (orcE3 e50 (tabs a b c d) o) := mk3 L noOrc O e50 (by kernel_rfl) (by kernel_rfl) (q50 a b c d) (gg50 a b c d)
def e51 : Ent := ⟨28, [(.ptr (nat_lit 40000) n0)], (nat_lit 40807), [(40000, c96), (20226, c97), (20208, c40), (20219, c98), (20212, c9), (20229, c73)], (.gslice (nat_lit 40857) n0 n1 n3), [(40857, c57)], (nat_lit 40858)⟩
def h51 (a b c d : TypeId) : Heap := ⟨(nat_lit 40807), (tE (tA (t1 a) (tE .e (tE .e (tE .e (tE .e (tE .e (tE .e (tE (tE .e (tE .e (tE .e (tE (tE (uA c98) .e) .e)))) .e))))))) (tA (t5 c) .e (tE (tE (tE (tE (tE (tE .e (tE .e (tE .e (tE .e (tE (tE (uA c73) .e) .e))))) .e) .e) .e) .e) .e))) (tA (t2 d) (tA (t4 b) (tE (tE (tE (tE .e (tE (tE (tE (tE .e (tE .e (tE .e (tE (tE (uA c96) .e) .e)))) .e) .e) .e)) .e) (tE .e (tE .e (tE .e (tE (tE .e (tE .e (tE .e (tE (tE (uA c40) .e) .e)))) .e))))) .e) (tE (tE .e (tE .e (tE .e (tE .e (tE (tE .e (tE .e (tE .e (tE (tE (uA c9) .e) .e)))) .e))))) .e)) (tE (tE (tE (tE (tE (tE (tE .e (tE .e (tE .e (tE .e (tE (tE (uA c97) .e) .e))))) .e) .e) .e) .e) .e) .e)))⟩
theorem q51 (a b c d : TypeId) : hListN (e51).n0 (tabs a b c d ++ (e51).hp) = h51 a b c d := by kernel_rfl
theorem gg51 (a b c d : TypeId) : GG (noO) e51 (h51 a b c d) := good_of (s := .ok) (by kernel_rfl) (by kernel_rfl)
theorem k51 {a b c d : TypeId} {W : World} {s : Sl} (L : LL a b c d W s) {o : Orc} (O : OO W s o) : OO W s (orcE3 e51 (tabs a b c d) o) := mk3 L noOrc O e51 (by kernel_rfl) (by kernel_rfl) (q51 a b c d) (gg51 a b c d)
def e52 : Ent := ⟨9, [(.agg [(.gslice (nat_lit 20226) n0 n6 n5), (.gslice (nat_lit 20229) n0 n1 n5)])], (nat_lit 40000), [(20226, c97), (20208, c40), (20219, c98), (20212, c9), (20229, c73)], (.gslice (nat_lit 40905) n0 n1 n2), [(40905, c99)], (nat_lit 40908)⟩
def h52 (a b c d : TypeId) : Heap := ⟨(nat_lit 40000), (tE (tA (t1 a) (tE .e (tE .e (tE .e (tE .e (tE .e (tE .e (tE (tE .e (tE .e (tE .e (tE (tE (uA c98) .e) .e)))) .e))))))) (tA (t5 c) .e (tE (tE (tE (tE (tE (tE .e (tE .e (tE .e (tE .e (tE (tE (uA c73) .e) .e))))) .e) .e) .e) .e) .e))) (tA (t2 d) (tA (t4 b) (tE (tE .e (tE .e (tE .e (tE .e (tE (tE .e (tE .e (tE .e (tE (tE (uA c40) .e) .e)))) .e))))) .e) (tE (tE .e (tE .e (tE .e (tE .e (tE (tE .e (tE .e (tE .e (tE (tE (uA c9) .e) .e)))) .e))))) .e)) (tE (tE (tE (tE (tE (tE (tE .e (tE .e (tE .e (tE .e (tE (tE (uA c97) .e) .e))))) .e) .e) .e) .e) .e) .e)))⟩
theorem q52 (a b c d : TypeId) : hListN (e52).n0 (tabs a b c d ++ (e52).hp) = h52 a b c d := by kernel_rfl
theorem gg52 (a b c d : TypeId) : GG (orcE3 e51 (tabs a b c d) (noO)) e52 (h52 a b c d) := good_of (s := .ok) (by kernel_rfl) (by kernel_rfl)
theorem k52 {a b c d : TypeId} {W : World} {s : Sl} (L : LL a b c d W s) {o : Orc} (O : OO W s o) : OO W s (orcE3 e52 (tabs a b c d) o) := mk3 L (k51 L noOrc) O e52 (by kernel_rfl) (by kernel_rfl) (q52 a b c d) (gg52 a b c d)
def e53 : Ent := ⟨28, [(.ptr (nat_lit 60000) n0)], (nat_lit 60807), [(60000, c96), (20226, c97), (20208, c40), (20219, c98), (20212, c9), (20229, c73)], (.gslice (nat_lit 60857) n0 n1 n3), [(60857, c57)], (nat_lit 60858)⟩
def h53 (a b c d : TypeId) : Heap := ⟨(nat_lit 60807), (tE (tA (t1 a) (tE .e (tE .e (tE .e (tE .e (tE .e (tE .e (tE (tE .e (tE .e (tE .e (tE (tE (uA c98) .e) .e)))) .e))))))) (tA (t5 c) .e (tE (tE (tE (tE (tE (tE .e (tE .e (tE .e (tE .e (tE (tE (uA c73) .e) .e))))) .e) .e) .e) .e) .e))) (tA (t2 d) (tA (t4 b) (tE (tE (tE .e (tE .e (tE (tE (tE .e (tE (tE .e (tE (tE .e (tE .e (uA c96))) .e)) .e)) .e) .e))) (tE .e (tE .e (tE .e (tE (tE .e (tE .e (tE .e (tE (tE (uA c40) .e) .e)))) .e))))) .e) (tE (tE .e (tE .e (tE .e (tE .e (tE (tE .e (tE .e (tE .e (tE (tE (uA c9) .e) .e)))) .e))))) .e)) (tE (tE (tE (tE (tE (tE (tE .e (tE .e (tE .e (tE .e (tE (tE (uA c97) .e) .e))))) .e) .e) .e) .e) .e) .e)))⟩
theorem q53 (a b c d : TypeId) : hListN (e53).n0 (tabs a b c d ++ (e53).hp) = h53 a b c d := by kernel_rfl
theorem gg53 (a b c d : TypeId) : GG (noO) e53 (h53 a b c d) := good_of (s := .ok) (by kernel_rfl) (by kernel_rfl)
theorem k53 {a b c d : TypeId} {W : World} {s : Sl} (L : LL a b c d W s) {o : Orc} (O : OO W s o) : OO W s (orcE3 e53 (tabs a b c d) o) := mk3 L noOrc O e53 (by kernel_rfl) (by kernel_rfl) (q53 a b c d) (gg53 a b c d)
def e54 : Ent := ⟨8, [(.agg [(.gslice (nat_lit 20226) n0 n6 n5), (.gslice (nat_lit 20229) n0 n1 n5)])], (nat_lit 60000), [(20226, c97), (20208, c40), (20219, c98), (20212, c9), (20229, c73)], (.bool true), [], (nat_lit 60909)⟩
def h54 (a b c d : TypeId) : Heap := ⟨(nat_lit 60000), (tE (tA (t1 a) (tE .e (tE .e (tE .e (tE .e (tE .e (tE .e (tE (tE .e (tE .e (tE .e (tE (tE (uA c98) .e) .e)))) .e))))))) (tA (t5 c) .e (tE (tE (tE (tE (tE (tE .e (tE .e (tE .e (tE .e (tE (tE (uA c73) .e) .e))))) .e) .e) .e) .e) .e))) (tA (t2 d) (tA (t4 b) (tE (tE .e (tE .e (tE .e (tE .e (tE (tE .e (tE .e (tE .e (tE (tE (uA c40) .e) .e)))) .e))))) .e) (tE (tE .e (tE .e (tE .e (tE .e (tE (tE .e (tE .e (tE .e (tE (tE (uA c9) .e) .e)))) .e))))) .e)) (tE (tE (tE (tE (tE (tE (tE .e (tE .e (tE .e (tE .e (tE (tE (uA c97) .e) .e))))) .e) .e) .e) .e) .e) .e)))⟩
theorem q54 (a b c d : TypeId) : hListN (e54).n0 (tabs a b c d ++ (e54).hp) = h54 a b c d := by kernel_rfl
theorem gg54 (a b c d : TypeId) : GG (orcE3 e53 (tabs a b c d) (noO)) e54 (h54 a b c d) := good_of (s := .ok) (by kernel_rfl) (by kernel_rfl)
theorem k54 {a b c d : TypeId} {W : World} {s : Sl} (L : LL a b c d W s) {o : Orc} (O : OO W s o) : OO W s (orcE3 e54 (tabs a b c d) o) := mk3 L (k53 L noOrc) O e54 (by kernel_rfl) (by kernel_rfl) (q54 a b c d) (gg54 a b c d)
end
end Go.Ev
