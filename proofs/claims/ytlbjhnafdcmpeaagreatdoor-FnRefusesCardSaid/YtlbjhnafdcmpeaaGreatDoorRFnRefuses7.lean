import Derived.Test.YtlbjhnafdcmpeaaGreatDoorRFnRefuses0
set_option linter.all false
set_option maxRecDepth 1000000
namespace Go.Ev
open Go
noncomputable section
def e58 : Ent := ⟨28, [(.ptr (nat_lit 80000) n0)], (nat_lit 80819), [(80000, c143), (20230, c144), (20212, c12), (20223, c14), (20218, c42), (20208, c16), (20233, c145)], (.gslice (nat_lit 80886) n0 n2 n3), [(80886, c146)], (nat_lit 80890)⟩
def h58 (a b c d : TypeId) : Heap := ⟨(nat_lit 80819), (tE (tA (t1 a) (tE (tE (tE (tE (tE (tE (tE .e (tE .e (tE .e (tE .e (tE (tE (uA c14) .e) .e))))) .e) .e) .e) .e) .e) .e) (tA (t5 c) (tE .e (tE (tE (tE (tE (tE .e (tE .e (tE .e (tE .e (tE (tE (uA c145) .e) .e))))) .e) .e) .e) .e)) .e)) (tA (t2 d) (tA (t4 b) (tE (tE (tE (tE (tE .e (tE (tE (tE (tE .e (tE .e (tE .e (tE (tE (uA c143) .e) .e)))) .e) .e) .e)) .e) .e) (tE .e (tE .e (tE .e (tE (tE .e (tE .e (tE .e (tE (tE (uA c16) .e) .e)))) .e))))) .e) (tE (tE .e (tE .e (tE .e (tE .e (tE (tE .e (tE .e (tE .e (tE (tE (uA c12) .e) .e)))) .e))))) .e)) (tE (tE .e (tE .e (tE .e (tE .e (tE .e (tE (tE .e (tE .e (tE .e (tE (tE (uA c42) .e) .e)))) .e)))))) (tE (tE (tE (tE (tE (tE .e (tE .e (tE .e (tE .e (tE (tE (uA c144) .e) .e))))) .e) .e) .e) .e) .e))))⟩
theorem q58 (a b c d : TypeId) : hListN (e58).n0 (tabs a b c d ++ (e58).hp) = h58 a b c d := by kernel_rfl
theorem gg58 (a b c d : TypeId) : GG (noO) e58 (h58 a b c d) := good_of (s := (.and .ok (.and .ok .ok))) (by kernel_rfl) (by kernel_rfl)
theorem k58 {a b c d : TypeId} {W : World} {s : Sl} (L : LL a b c d W s) {o : Orc} (O : OO W s o) : OO W s (orcE3 e58 (tabs a b c d) o) := mk3 L noOrc O e58 (by kernel_rfl) (by kernel_rfl) (q58 a b c d) (gg58 a b c d)
def e59 : Ent := ⟨8, [(.agg [(.gslice (nat_lit 20230) n0 n6 n5), (.gslice (nat_lit 20233) n0 n1 n5)])], (nat_lit 80000), [(20230, c144), (20212, c12), (20223, c14), (20218, c42), (20208, c16), (20233, c145)], (.bool false), [], (nat_lit 80966)⟩
def h59 (a b c d : TypeId) : Heap := ⟨(nat_lit 80000), (tE (tA (t1 a) (tE (tE (tE (tE (tE (tE (tE .e (tE .e (tE .e (tE .e (tE (tE (uA c14) .e) .e))))) .e) .e) .e) .e) .e) .e) (tA (t5 c) (tE .e (tE (tE (tE (tE (tE .e (tE .e (tE .e (tE .e (tE (tE (uA c145) .e) .e))))) .e) .e) .e) .e)) .e)) (tA (t2 d) (tA (t4 b) (tE (tE .e (tE .e (tE .e (tE .e (tE (tE .e (tE .e (tE .e (tE (tE (uA c16) .e) .e)))) .e))))) .e) (tE (tE .e (tE .e (tE .e (tE .e (tE (tE .e (tE .e (tE .e (tE (tE (uA c12) .e) .e)))) .e))))) .e)) (tE (tE .e (tE .e (tE .e (tE .e (tE .e (tE (tE .e (tE .e (tE .e (tE (tE (uA c42) .e) .e)))) .e)))))) (tE (tE (tE (tE (tE (tE .e (tE .e (tE .e (tE .e (tE (tE (uA c144) .e) .e))))) .e) .e) .e) .e) .e))))⟩
theorem q59 (a b c d : TypeId) : hListN (e59).n0 (tabs a b c d ++ (e59).hp) = h59 a b c d := by kernel_rfl
theorem gg59 (a b c d : TypeId) : GG (orcE3 e58 (tabs a b c d) (noO)) e59 (h59 a b c d) := good_of (s := .ok) (by kernel_rfl) (by kernel_rfl)
theorem k59 {a b c d : TypeId} {W : World} {s : Sl} (L : LL a b c d W s) {o : Orc} (O : OO W s o) : OO W s (orcE3 e59 (tabs a b c d) o) := mk3 L (k58 L noOrc) O e59 (by kernel_rfl) (by kernel_rfl) (q59 a b c d) (gg59 a b c d)
end
end Go.Ev
