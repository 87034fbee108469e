import Derived.Test.YtodmelapdoahpaaGreatDoorSdI
import Derived.Test.YtodmelapdoahpaaGreatDoorKaFnNexts
import Derived.Lib.LaidTab
import Derived.Test.YtodmelapdoahpaaGreatDoorRows
import Derived.KernelRfl
import Derived.MakeChecks
import Derived.LaidLaws
import Derived.Lib.LaidU8
import Derived.Test.YtodmelapdoahpaaGreatDoorTabFnNexts
import Derived.WalkKit
import Derived.ProofKit
import Derived.OpenShut
import Derived.Below
import Derived.ChangeSlices
import Derived.Test.YtodmelapdoahpaaGreatDoorSdJ
set_option linter.all false
namespace Go.Ev
open Go Go.Proofs

theorem laid_vars {P : Program} {w : World} : ∀ {l : List (String × DataW Unit)} {ps : List MemPlace}, DataW.LaidVars P w l ps → ∀ n d, (n, d) ∈ l →
    ∃ g t cs fuel p, P.globalNamed n = some g ∧ (P.globals[g]?).map (·.type) = some t ∧ w.var? P n = some cs ∧ DataW.trod (fun _ => ()) P w 0 (fun _ => true) false fuel t cs.toList = some (d, p) ∧ ∀ x ∈ MemPlace.row ⟨g, 0, none⟩ cs.size, x ∈ ps
  | [], _, _, _, _, hm => by cases hm
  | (n', d') :: r, ps, h, n, d, hm => by
    obtain ⟨g, t, cs, fuel, p, q, h1, h2, h3, h4, h5, rfl⟩ := h
    rcases List.mem_cons.1 hm with e | e
    · cases e
      exact ⟨g, t, cs, fuel, p, h1, h2, h3, h4, fun x hx => List.mem_append.2 (.inl (List.mem_append.2 (.inl hx)))⟩
    · obtain ⟨g', t', cs', fuel', p', k1, k2, k3, k4, k5⟩ := laid_vars h5 n d e
      exact ⟨g', t', cs', fuel', p', k1, k2, k3, k4, fun x hx => List.mem_append.2 (.inr (k5 x hx))⟩
theorem row_cells {P : Program} {W : World} {l : List (String × DataW Unit)} (hL : laidMet P l W) {name : String} {k : IntKind} {zs : List Int} (hm : (name, Lib.tabData k zs) ∈ l) {g t e n : Nat} (hg : P.globalNamed name = some g)
    (hty : (P.globals[g]?).map (·.type) = some t) (ht : P.underlying t = some (.array n e)) (he : P.underlying e = some (.int k)) (hce : P.cellsOf e = 1) (hct : P.cellsOf t = n) (hz : 0 < zs.length) :
    ∃ ty, W.heap[g]? = some (.cells (zs.map fun z => Value.int k z).toArray ty (0, 0)) := by
  obtain ⟨ps, hv, _, hr⟩ := hL
  obtain ⟨g', t', cs, fuel, p, k1, k2, k3, k4, k5⟩ := laid_vars hv _ _ hm
  obtain rfl := Option.some.inj (hg.symm.trans k1)
  obtain rfl := Option.some.inj (hty.symm.trans k2)
  have hcs := Lib.cells_of_tab ht he hce hct k4
  have hs : 0 < cs.size := by
    rw [← Array.length_toList, hcs]; simpa using hz
  obtain ⟨⟨c, ty, hc⟩, _⟩ := hr g 0 (k5 _ (by unfold MemPlace.row; exact List.mem_map.2 ⟨0, List.mem_range.2 hs, rfl⟩))
  refine ⟨ty, ?_⟩
  unfold World.var? at k3
  rw [hg] at k3
  simp only [Option.bind_some, hc] at k3
  rw [hc, Option.some.inj k3, ← hcs]
end Go.Ev

set_option maxRecDepth 100000
namespace Go.Ev
open Go Go.Proofs
def g5 : List Nat := [1, 10, 100, 1000, 10000, 100000, 1000000, 10000000, 100000000, 1000000000, 10000000000, 100000000000, 1000000000000, 10000000000000, 100000000000000, 1000000000000000, 10000000000000000, 100000000000000000, 1000000000000000000, 10000000000000000000]
def g8 : List Nat := [0, 1, 28, 2, 29, 14, 24, 3, 30, 22, 20, 15, 25, 17, 4, 8, 31, 27, 13, 23, 21, 19, 16, 7, 26, 12, 18, 6, 11, 5, 10, 9]
def g9 : List Nat := [0, 1, 56, 2, 57, 49, 28, 3, 61, 58, 42, 50, 38, 29, 17, 4, 62, 47, 59, 36, 45, 43, 51, 22, 53, 39, 33, 30, 24, 18, 12, 5, 63, 55, 48, 27, 60, 41, 37, 16, 46, 35, 44, 21, 52, 32, 23, 11, 54, 26, 40, 15, 34, 20, 31, 10, 25, 14, 19, 9, 13, 8, 7, 6]
noncomputable def errB (d : TypeId) : ABlk := .cells (setL [AV.iface 351 (.optr 52)] 0 .e) 1 d .ro
noncomputable def tabs (a b c d : TypeId) : List (Nat × ABlk) := [(9, roB .u8 g9 c), (8, roB .u8 g8 b), (6, errB d), (5, roB .u64 g5 a)]
noncomputable def H0 (a b c d : TypeId) : Heap := ⟨(nat_lit 100), (.n none (.n none .e (.n (some (.cells (.n (some (.int .u64 (nat_lit 1))) (.n (some (.int .u64 (nat_lit 10))) (.n (some (.int .u64 (nat_lit 1000))) (.n (some (.int .u64 (nat_lit 10000000))) (.n (some (.int .u64 (nat_lit 1000000000000000))) .e .e) .e) (.n (some (.int .u64 (nat_lit 100000000000))) (.n (some (.int .u64 (nat_lit 10000000000000000000))) .e .e) .e)) (.n (some (.int .u64 (nat_lit 100000))) (.n (some (.int .u64 (nat_lit 1000000000))) (.n (some (.int .u64 (nat_lit 100000000000000000))) .e .e) .e) (.n (some (.int .u64 (nat_lit 10000000000000))) .e .e))) (.n (some (.int .u64 (nat_lit 100))) (.n (some (.int .u64 (nat_lit 10000))) (.n (some (.int .u64 (nat_lit 100000000))) (.n (some (.int .u64 (nat_lit 10000000000000000))) .e .e) .e) (.n (some (.int .u64 (nat_lit 1000000000000))) .e .e)) (.n (some (.int .u64 (nat_lit 1000000))) (.n (some (.int .u64 (nat_lit 10000000000))) (.n (some (.int .u64 (nat_lit 1000000000000000000))) .e .e) .e) (.n (some (.int .u64 (nat_lit 100000000000000))) .e .e)))) (nat_lit 20) a .ro)) (.n (some (.cells (.n (some (.int .u8 (nat_lit 0))) (.n (some (.int .u8 (nat_lit 1))) (.n (some (.int .u8 (nat_lit 2))) (.n (some (.int .u8 (nat_lit 3))) (.n (some (.int .u8 (nat_lit 4))) (.n (some (.int .u8 (nat_lit 5))) (.n (some (.int .u8 (nat_lit 6))) .e .e) .e) (.n (some (.int .u8 (nat_lit 11))) .e .e)) (.n (some (.int .u8 (nat_lit 22))) (.n (some (.int .u8 (nat_lit 16))) .e .e) (.n (some (.int .u8 (nat_lit 10))) .e .e))) (.n (some (.int .u8 (nat_lit 50))) (.n (some (.int .u8 (nat_lit 36))) (.n (some (.int .u8 (nat_lit 27))) .e .e) (.n (some (.int .u8 (nat_lit 15))) .e .e)) (.n (some (.int .u8 (nat_lit 30))) (.n (some (.int .u8 (nat_lit 21))) .e .e) (.n (some (.int .u8 (nat_lit 9))) .e .e)))) (.n (some (.int .u8 (nat_lit 49))) (.n (some (.int .u8 (nat_lit 58))) (.n (some (.int .u8 (nat_lit 47))) (.n (some (.int .u8 (nat_lit 55))) .e .e) (.n (some (.int .u8 (nat_lit 26))) .e .e)) (.n (some (.int .u8 (nat_lit 39))) (.n (some (.int .u8 (nat_lit 35))) .e .e) (.n (some (.int .u8 (nat_lit 14))) .e .e))) (.n (some (.int .u8 (nat_lit 29))) (.n (some (.int .u8 (nat_lit 43))) (.n (some (.int .u8 (nat_lit 41))) .e .e) (.n (some (.int .u8 (nat_lit 20))) .e .e)) (.n (some (.int .u8 (nat_lit 18))) (.n (some (.int .u8 (nat_lit 32))) .e .e) (.n (some (.int .u8 (nat_lit 8))) .e .e))))) (.n (some (.int .u8 (nat_lit 56))) (.n (some (.int .u8 (nat_lit 57))) (.n (some (.int .u8 (nat_lit 61))) (.n (some (.int .u8 (nat_lit 62))) (.n (some (.int .u8 (nat_lit 63))) .e .e) (.n (some (.int .u8 (nat_lit 54))) .e .e)) (.n (some (.int .u8 (nat_lit 53))) (.n (some (.int .u8 (nat_lit 46))) .e .e) (.n (some (.int .u8 (nat_lit 25))) .e .e))) (.n (some (.int .u8 (nat_lit 38))) (.n (some (.int .u8 (nat_lit 45))) (.n (some (.int .u8 (nat_lit 60))) .e .e) (.n (some (.int .u8 (nat_lit 34))) .e .e)) (.n (some (.int .u8 (nat_lit 24))) (.n (some (.int .u8 (nat_lit 52))) .e .e) (.n (some (.int .u8 (nat_lit 13))) .e .e)))) (.n (some (.int .u8 (nat_lit 28))) (.n (some (.int .u8 (nat_lit 42))) (.n (some (.int .u8 (nat_lit 59))) (.n (some (.int .u8 (nat_lit 48))) .e .e) (.n (some (.int .u8 (nat_lit 40))) .e .e)) (.n (some (.int .u8 (nat_lit 33))) (.n (some (.int .u8 (nat_lit 44))) .e .e) (.n (some (.int .u8 (nat_lit 19))) .e .e))) (.n (some (.int .u8 (nat_lit 17))) (.n (some (.int .u8 (nat_lit 51))) (.n (some (.int .u8 (nat_lit 37))) .e .e) (.n (some (.int .u8 (nat_lit 31))) .e .e)) (.n (some (.int .u8 (nat_lit 12))) (.n (some (.int .u8 (nat_lit 23))) .e .e) (.n (some (.int .u8 (nat_lit 7))) .e .e)))))) (nat_lit 64) c .ro)) .e .e) .e)) (.n none (.n none (.n (some (.cells (.n (some (.int .u8 (nat_lit 0))) (.n (some (.int .u8 (nat_lit 1))) (.n (some (.int .u8 (nat_lit 2))) (.n (some (.int .u8 (nat_lit 3))) (.n (some (.int .u8 (nat_lit 8))) (.n (some (.int .u8 (nat_lit 9))) .e .e) .e) (.n (some (.int .u8 (nat_lit 7))) .e .e)) (.n (some (.int .u8 (nat_lit 15))) (.n (some (.int .u8 (nat_lit 23))) .e .e) (.n (some (.int .u8 (nat_lit 6))) .e .e))) (.n (some (.int .u8 (nat_lit 14))) (.n (some (.int .u8 (nat_lit 22))) (.n (some (.int .u8 (nat_lit 27))) .e .e) (.n (some (.int .u8 (nat_lit 12))) .e .e)) (.n (some (.int .u8 (nat_lit 17))) (.n (some (.int .u8 (nat_lit 19))) .e .e) (.n (some (.int .u8 (nat_lit 5))) .e .e)))) (.n (some (.int .u8 (nat_lit 28))) (.n (some (.int .u8 (nat_lit 29))) (.n (some (.int .u8 (nat_lit 30))) (.n (some (.int .u8 (nat_lit 31))) .e .e) (.n (some (.int .u8 (nat_lit 26))) .e .e)) (.n (some (.int .u8 (nat_lit 25))) (.n (some (.int .u8 (nat_lit 21))) .e .e) (.n (some (.int .u8 (nat_lit 11))) .e .e))) (.n (some (.int .u8 (nat_lit 24))) (.n (some (.int .u8 (nat_lit 20))) (.n (some (.int .u8 (nat_lit 13))) .e .e) (.n (some (.int .u8 (nat_lit 18))) .e .e)) (.n (some (.int .u8 (nat_lit 4))) (.n (some (.int .u8 (nat_lit 16))) .e .e) (.n (some (.int .u8 (nat_lit 10))) .e .e))))) (nat_lit 32) b .ro)) .e .e) .e) (.n (some (.cells (.n (some (.iface (nat_lit 351) (.optr (nat_lit 52)))) .e .e) (nat_lit 1) d .ro)) .e .e)))⟩
theorem H0_eq (a b c d : TypeId) : hList (tabs a b c d) = H0 a b c d := by kernel_rfl
def cnt (g : Nat) : Nat := if g = 5 then 20 else if g = 8 then 32 else if g = 6 then 1 else 64
theorem small8 {k : IntKind} (l : List Nat) (h : (l.all fun m => Nat.ble m (maxu k)) = true) : ∀ m ∈ l, m ≤ maxu k := fun m hm => Nat.le_of_ble_eq_true (List.all_eq_true.1 h m hm)
theorem star : "*" ++ "errors.errorString" = "*errors.errorString" := by decide
theorem row350 (u : TypeId) (h : Tryz.prog.typeName? 3 u = some "*errors.errorString") : u = 351 :=
  typeName_ptr_named (nm := "errors.errorString") (by rw [star]; kernel_rfl) (by kernel_rfl) (by decide) u (by rw [star]; exact h)
theorem err_cell {W : World} {l : List (String × DataW Unit)} (hL : laidMet Tryz.prog l W) {text : List UInt8} (hm : ("strconv.ErrSyntax", (.iface "*errors.errorString" (.ptr (.agg [.lit (.string text)])) : DataW Unit)) ∈ l) :
    ∃ d o q, W.heap[6]? = some (.cells #[.iface 351 (.pointer (some ⟨q, o, none⟩))] d (0, 0)) := by
  obtain ⟨ps, hv, _, hr⟩ := hL
  obtain ⟨g', t', cs, fuel, p, k1, k2, k3, k4, k5⟩ := laid_vars hv _ _ hm
  obtain rfl := Option.some.inj ((show Tryz.prog.globalNamed "strconv.ErrSyntax" = some 6 by kernel_rfl).symm.trans k1)
  obtain rfl := Option.some.inj ((show (Tryz.prog.globals[6]?).map (·.type) = some 155 by kernel_rfl).symm.trans k2)
  obtain ⟨l0⟩ := cs
  have ok0 : ∀ u v, l0 = [.iface u v] → Value.okWide Tryz.prog W .any 0 u v := fun u v e => by
    subst e
    exact (hr 6 0 (k5 _ (by simp [MemPlace.row]))).2 u v (by simpa using World.var?_cell k1 k3 0)
  obtain ⟨a0, s0, rfl, hc0, hs0, hz0, rfl⟩ := errorString_of_trod Tryz.underlying155 row350 Tryz.underlying351 Tryz.underlying353 rfl rfl Tryz.underlying9 (by kernel_rfl) (by kernel_rfl) k4 ok0
  obtain ⟨q, o, sp⟩ := a0
  have hs : sp = none := cell_spot hc0
  subst hs
  obtain ⟨⟨c, ty, hc⟩, _⟩ := hr 6 0 (k5 _ (by simp [MemPlace.row]))
  refine ⟨ty, o, q, ?_⟩
  unfold World.var? at k3
  rw [k1] at k3
  simp only [Option.bind_some, hc] at k3
  rw [hc, Option.some.inj k3]
theorem errB_ok {ρ : Rho} {d : TypeId} {q o : Nat} (h : ρ 52 = some (q, o)) : BR ρ 1 (errB d) (.cells #[.iface 351 (.pointer (some ⟨q, o, none⟩))] d (0, 0)) := by
  refine ⟨_, 0, 0, rfl, .inl (Nat.le_refl _), rfl, Nat.le_refl _, fun _ => rfl, fun i a hi => ?_, fun i a hi => ?_⟩
  · rw [get_setL] at hi
    split at hi
    · rename_i hc
      have h0 : i = 0 := by simpa using hc.2
      subst h0
      cases hi
      refine ⟨_, rfl, VR.iface_iff.2 ⟨_, rfl, by simp only [VR]; exact ⟨q, o, h, rfl⟩⟩⟩
    · rw [T.get_e] at hi; cases hi
  · rw [get_setL] at hi
    split at hi
    · rename_i hc
      simpa using hc.2
    · rw [T.get_e] at hi; cases hi
theorem laid_of {W : World} (h0 : laidMetH Tryz.prog YtodmelapdoahpaaGreatDoor.Rows.fnPartsRow.laid W) : ∃ a b c d q, Laid 10 cnt (tabs a b c d) q W := by
  have h : laidMet Tryz.prog YtodmelapdoahpaaGreatDoor.Rows.fnPartsRow.laid W := by
    rw [MakeChecks.laidMetH_plain _ _ _ (by kernel_rfl)] at h0
    exact h0
  obtain ⟨a, ha⟩ := row_cells (name := "internal/strconv.uint64pow10") (k := .u64) (zs := g5.map Int.ofNat) (g := 5) (t := 331) (e := 144) (n := 20) h (.tail _ (.tail _ (.head _))) (by kernel_rfl) (by kernel_rfl) (by kernel_rfl) (by kernel_rfl) (by kernel_rfl) (by kernel_rfl) (by decide)
  obtain ⟨b, hb⟩ := row_cells (name := "math/bits.deBruijn32tab") (k := .u8) (zs := g8.map Int.ofNat) (g := 8) (t := 354) (e := 5) (n := 32) h (.head _) (by kernel_rfl) (by kernel_rfl) (by kernel_rfl) (by kernel_rfl) (by kernel_rfl) (by kernel_rfl) (by decide)
  obtain ⟨c, hc⟩ := row_cells (name := "math/bits.deBruijn64tab") (k := .u8) (zs := g9.map Int.ofNat) (g := 9) (t := 355) (e := 5) (n := 64) h (.tail _ (.head _)) (by kernel_rfl) (by kernel_rfl) (by kernel_rfl) (by kernel_rfl) (by kernel_rfl) (by kernel_rfl) (by decide)
  obtain ⟨d, o, q, hd⟩ := err_cell h (.tail _ (.tail _ (.tail _ (.tail _ (.tail _ (.head _))))))
  refine ⟨a, b, c, d, (q, o), fun p hp => ?_⟩
  unfold tabs at hp
  have e5 : ((g5.map Int.ofNat).map fun z => Value.int .u64 z) = g5.map fun m => Value.int .u64 (sg .u64 m) := by kernel_rfl
  have e8 : ((g8.map Int.ofNat).map fun z => Value.int .u8 z) = g8.map fun m => Value.int .u8 (sg .u8 m) := by kernel_rfl
  have e9 : ((g9.map Int.ofNat).map fun z => Value.int .u8 z) = g9.map fun m => Value.int .u8 (sg .u8 m) := by kernel_rfl
  rw [e5] at ha
  rw [e8] at hb
  rw [e9] at hc
  rcases List.mem_cons.1 hp with rfl | hp
  · exact ⟨show (9 : Nat) < 10 by decide, rfl, _, hc, fun ρ _ => roB_ok (k := .u8) (ms := g9) (small8 _ (by kernel_rfl))⟩
  rcases List.mem_cons.1 hp with rfl | hp
  · exact ⟨show (8 : Nat) < 10 by decide, rfl, _, hb, fun ρ _ => roB_ok (k := .u8) (ms := g8) (small8 _ (by kernel_rfl))⟩
  rcases List.mem_cons.1 hp with rfl | hp
  · exact ⟨show (6 : Nat) < 10 by decide, rfl, _, hd, fun ρ hρ => errB_ok hρ⟩
  rcases List.mem_cons.1 hp with rfl | hp
  · exact ⟨show (5 : Nat) < 10 by decide, rfl, _, ha, fun ρ _ => roB_ok (k := .u64) (ms := g5) (small8 _ (by kernel_rfl))⟩
  · cases hp
end Go.Ev

namespace Go.Ev
open Go Go.Proofs Go.RowKit

set_option linter.unusedVariables false in
theorem at_walk (r off len cap : Nat) (k x : Int) (w : World) (h0 : 0 < len) (hl : len < 9223372036854775808) (hk : 0 ≤ k) (hk2 : k < 1000) (hc : w.cell? ⟨r, off + (k % len).toNat, none⟩ = some (.int .u8 x)) (hx : 0 ≤ x) (hx2 : x ≤ 255) :
    Go.Calls Tryz.prog 5 #[.slice (some ⟨r, off, none⟩) len cap, .int .i64 k] w fun e w' => e = .returned (.int .i64 x) ∧ w' = w := by
  have hm : 0 ≤ k % (len : Int) ∧ k % (len : Int) < len := ⟨Int.emod_nonneg _ (by omega), Int.emod_lt_of_pos _ (by omega)⟩
  go_enter Tryz.func5, Tryz.ntmps5
  go_wp2_with fail
  all_goals first | (go_ret; exact ⟨rfl, rfl⟩) | (exact absurd hm (by assumption)) | skip

structure Code1 (W : World) (s : Sl) : Prop where
  pos : 0 < s.len
  small : s.len < 9223372036854775808
  bytes : ∀ i, i < s.len → ∃ x : Nat, x ≤ 255 ∧ W.cell? ⟨s.r, s.off + i, none⟩ = some (.int .u8 (x : Int)) ∧ s.r < W.heap.size
theorem Code1.at_ok {W : World} {s : Sl} (C : Code1 W s) (i : Nat) (hi : i < 1000) :
    ∃ x : Nat, x ≤ 255 ∧ ∀ w, Below W.heap.size W w → Go.Calls Tryz.prog 5 #[.slice (some ⟨s.r, s.off, none⟩) s.len s.cap, .int .i64 (sg .i64 i)] w fun e w' => e = .returned (.int .i64 (x : Int)) ∧ w' = w := by
  obtain ⟨x, hx, hc, hr⟩ := C.bytes (i % s.len) (Nat.mod_lt _ C.pos)
  refine ⟨x, hx, fun w hb => ?_⟩
  have e : sg .i64 i = (i : Int) := by
    unfold sg isPos
    have : Nat.ble i (maxs .i64) = true := Nat.ble_eq_true_of_le (Nat.le_trans (Nat.le_of_lt hi) (show 1000 ≤ maxs .i64 by decide))
    rw [this]; rfl
  rw [e]
  refine at_walk s.r s.off s.len s.cap i x w C.pos C.small (by omega) (by omega) ?_ (by omega) (by omega)
  rw [hb.cell (show s.r < W.heap.size from hr), ← hc]
  have : ((i : Int) % (s.len : Int)).toNat = i % s.len := by
    rw [← Int.natCast_emod]; rfl
  rw [this]

def goodB : Ans → Bool
  | .ok => true
  | .no => false
  | .and a b => goodB a && goodB b
theorem goodB_ok : ∀ {s : Ans}, goodB s = true → good s
  | .ok, _ => trivial
  | .no, h => by cases h
  | .and a b, h => by
    have h : (goodB a && goodB b) = true := h
    obtain ⟨h1, h2⟩ := Bool.and_eq_true_iff.1 h
    exact ⟨goodB_ok h1, goodB_ok h2⟩
structure Good (x : Ans) : Prop where
  out : good x
theorem good_of {x s : Ans} (e : x = s) (h : goodB s = true) : Good x := by
  subst e; exact ⟨goodB_ok h⟩
def RunsOk : Prop := ∀ {a b c d : TypeId} {q : Nat × Nat} {w : World}, Laid 10 cnt (tabs a b c d) q w → Go.Calls Tryz.prog 8 #[] w fun e w' => e = .returned (.bool true) ∧ Below w.heap.size w w'
theorem runs_by {o : TypeId → TypeId → TypeId → TypeId → Orc} (O : ∀ {a b c d : TypeId} {q : Nat × Nat} {w : World}, Laid 10 cnt (tabs a b c d) q w → OrcOk Tryz.prog (JJ 10 cnt ⟨0, 0, 0, 0, q, fun _ => (0, 0)⟩ w) (o a b c d))
    (g : ∀ (a b c d : TypeId), Good (Answer tab 100000 (o a b c d) 300 8 [] (H0 a b c d))) : RunsOk := by
  intro a b c d q w L
  refine (run_true (P := Tryz.prog) (T := tab) (fu := 100000) (k := 300) (f := 8) (args := []) (h := hList (tabs a b c d)) (orc := o a b c d) fnsOk mixed (JJ.base (n := 10) (cnt := cnt) ⟨0, 0, 0, 0, q, fun _ => (0, 0)⟩ w)
    (O L) codes tab_ok ?_ (JJ.start L.calm) (L.sim (s := ⟨0, 0, 0, 0, q, fun _ => (0, 0)⟩) (by decide)) VRL.nil).mono fun e w' ⟨h1, ρ', h', h2⟩ => ⟨h1, h2.below L.calm⟩
  rw [H0_eq]; exact (g a b c d).out
theorem runs_ok (rR : RunsOk) {a b c d : TypeId} {q : Nat × Nat} {w : World} (L : Laid 10 cnt (tabs a b c d) q w) :
    Go.Calls Tryz.prog 8 #[] w fun e w' => e = .returned (.bool true) ∧ Below w.heap.size w w' := rR L
noncomputable def orcT (t : Nat → Option AV) : Orc := orcL 5 t [8]
theorem known_ok (rR : RunsOk) {a b c d : TypeId}  {W : World} {s : Sl} (L : Laid 10 cnt (tabs a b c d) s.q W) {f : Nat} (t : Nat → Option AV)
    (ht : ∀ i v, t i = some v → ∃ x : Nat, VR (rho0 10 cnt s) v (.int .i64 (x : Int)) ∧ ∀ w, Below W.heap.size W w → Go.Calls Tryz.prog 5 #[.slice (some ⟨s.r, s.off, none⟩) s.len s.cap, .int .i64 (sg .i64 i)] w fun e w' => e = .returned (.int .i64 (x : Int)) ∧ w' = w)
    (g : ∀ (a b c d : TypeId), Good (Answer tab 100000 (orcT t) 300 f [.oslice 50] (H0 a b c d))) :
    Go.Calls Tryz.prog f #[.slice (some ⟨s.r, s.off, none⟩) s.len s.cap] W fun e w' => e = .returned (.bool true) ∧ Below W.heap.size W w' := by
  refine known (P := Tryz.prog) (T := tab) (fu := 100000) (k := 300) fnsOk mixed (by decide) codes tab_ok L (orcL_ok (fr := [8]) (by decide) L ht fun f hf w Lw => ?_) ?_
  · cases hf with
    | head => exact runs_ok rR Lw
    | tail _ hf => cases hf
  · rw [H0_eq]
    exact (g a b c d).out
theorem empty_ok (rR : RunsOk) {a b c d : TypeId} {q : Nat × Nat} {W : World} (L : Laid 10 cnt (tabs a b c d) q W) {f : Nat} {x : Option Addr} {cap : Nat}
    (g : ∀ (a b c d : TypeId), Good (Answer tab 100000 (orcT fun _ => none) 300 f [.eslice] (H0 a b c d))) :
    Go.Calls Tryz.prog f #[.slice x 0 cap] W fun e w' => e = .returned (.bool true) ∧ Below W.heap.size W w' := by
  refine (run_true (P := Tryz.prog) (T := tab) (fu := 100000) (k := 300) (f := f) (args := [.eslice]) (h := hList (tabs a b c d)) (orc := orcT fun _ => none) fnsOk mixed (JJ.base (n := 10) (cnt := cnt) ⟨0, 0, 0, 0, q, fun _ => (0, 0)⟩ W)
    (orcL_ok (s := ⟨0, 0, 0, 0, q, fun _ => (0, 0)⟩) (fr := [8]) (by decide) L (fun i v e => by cases e) fun f hf w Lw => ?_) codes tab_ok ?_ (JJ.start L.calm) (L.sim (s := ⟨0, 0, 0, 0, q, fun _ => (0, 0)⟩) (by decide)) (VRL.cons (by simp only [VR]; exact ⟨x, cap, rfl⟩) VRL.nil)).mono fun e w' ⟨h1, ρ', h', h2⟩ => ⟨h1, h2.below L.calm⟩
  · cases hf with
    | head => exact runs_ok rR Lw
    | tail _ hf => cases hf
  · rw [H0_eq]; exact (g a b c d).out

noncomputable def tL (l : List (Nat × Nat × Nat)) (i : Nat) : Option AV := lrec none (fun p _ ih => bcase (Nat.beq i p.1) (some (.imod p.2.1 p.2.2)) ih) l
theorem tL_some {i : Nat} {v : AV} : ∀ {l : List (Nat × Nat × Nat)}, tL l i = some v → ∃ p ∈ l, i = p.1 ∧ v = .imod p.2.1 p.2.2
  | [], h => by cases h
  | p :: l, h => by
    have h : bcase (Nat.beq i p.1) (some (.imod p.2.1 p.2.2)) (tL l i) = some v := h
    cases hb : Nat.beq i p.1 with
    | true =>
      rw [hb, bcase_true] at h
      cases h
      exact ⟨p, List.mem_cons_self .., Nat.eq_of_beq_eq_true hb, rfl⟩
    | false =>
      rw [hb, bcase_false] at h
      obtain ⟨q, h1, h2⟩ := tL_some h
      exact ⟨q, List.mem_cons_of_mem _ h1, h2⟩
def AtIs (W : World) (s : Sl) (i x : Nat) : Prop := ∀ w, Below W.heap.size W w → Go.Calls Tryz.prog 5 #[.slice (some ⟨s.r, s.off, none⟩) s.len s.cap, .int .i64 (sg .i64 i)] w fun e w' => e = .returned (.int .i64 (x : Int)) ∧ w' = w
theorem law_at (rR : RunsOk) {a b c d : TypeId}  {W : World} {s : Sl} (L : Laid 10 cnt (tabs a b c d) s.q W) {f : Nat} (l : List (Nat × Nat × Nat))
    (h : ∀ p ∈ l, ∃ x : Nat, x ≤ 255 ∧ x % p.2.1 = p.2.2 ∧ AtIs W s p.1 x) (g : ∀ (a b c d : TypeId), Good (Answer tab 100000 (orcT (tL l)) 300 f [.oslice 50] (H0 a b c d))) :
    Go.Calls Tryz.prog f #[.slice (some ⟨s.r, s.off, none⟩) s.len s.cap] W fun e w' => e = .returned (.bool true) ∧ Below W.heap.size W w' :=
  known_ok rR L (tL l) (fun i v hv => by
    obtain ⟨p, hp, rfl, rfl⟩ := tL_some hv
    obtain ⟨x, hx, hm, hc⟩ := h p hp
    exact ⟨x, by simp only [VR]; exact ⟨x, rfl, hx, hm⟩, hc⟩) g
end Go.Ev

namespace Go.Ev
open Go Go.Proofs Go.RowKit

noncomputable def shA (l : List Nat) : Ans := lrec .ok (fun n _ ih => nrec .ok (fun _ t => .and ih t) n) l
noncomputable def itoaRun (h : Heap) (n : Nat) : Ans := AnswerV tab 100000 300 176 [.int .i64 n] h (dgA n)
theorem itoa_ok (rI : ∀ (a b c d : TypeId), allV (itoaRun (H0 a b c d)) 1000 = okV 1000) {a b c d : TypeId} {q : Nat × Nat} {W : World} (L : Laid 10 cnt (tabs a b c d) q W) (n : Nat) (hn : n < 1000) :
    Go.Calls Tryz.prog 176 #[.int .i64 (n : Int)] W fun e w' => e = .returned (.string ⟨⟨dgs n⟩⟩) ∧ Below W.heap.size W w' := by
  have g : good (itoaRun (H0 a b c d) n) := allV_good (by rw [rI a b c d]; exact okV_good 1000) n hn
  have hb : n ≤ maxs .i64 := Nat.le_trans (Nat.le_of_lt hn) (by decide)
  refine (run_val (P := Tryz.prog) (T := tab) (fu := 100000) (k := 300) (f := 176) fnsOk mixed (JJ.base (n := 10) (cnt := cnt) ⟨0, 0, 0, 0, q, fun _ => (0, 0)⟩ W) codes tab_ok (args := [.int .i64 n]) (h := hList (tabs a b c d)) (v0 := dgA n) ?_ (JJ.start L.calm)
    (L.sim (s := ⟨0, 0, 0, 0, q, fun _ => (0, 0)⟩) (by decide)) (VRL.cons (VR.nat hb) VRL.nil)).mono ?_
  · rw [H0_eq]; exact g
  · rintro e w' ⟨u, rfl, ρ', h', hv, hE⟩
    exact ⟨by rw [dgA_VR hn hv], hE.below L.calm⟩
noncomputable def tO (l : List (Nat × AV)) (i : Nat) : Option AV := lrec none (fun p _ ih => bcase (Nat.beq i p.1) (some p.2) ih) l
theorem tO_some {i : Nat} {v : AV} : ∀ {l : List (Nat × AV)}, tO l i = some v → ∃ p ∈ l, i = p.1 ∧ v = p.2
  | [], h => by cases h
  | p :: l, h => by
    have h : bcase (Nat.beq i p.1) (some p.2) (tO l i) = some v := h
    cases hb : Nat.beq i p.1 with
    | true =>
      rw [hb, bcase_true] at h
      cases h
      exact ⟨p, List.mem_cons_self .., Nat.eq_of_beq_eq_true hb, rfl⟩
    | false =>
      rw [hb, bcase_false] at h
      obtain ⟨q, h1, h2⟩ := tO_some h
      exact ⟨q, List.mem_cons_of_mem _ h1, h2⟩
noncomputable def orcY (t : Nat → Option AV) : Orc := orcS 176 5 t [8]
noncomputable def ansX (f v : Nat) (a b c d : TypeId) : Ans := Answer tab 100000 (orcY (tO [(1, .int .i64 v)])) 300 f [.oslice 50] (H0 a b c d)
theorem orcY_ok (rR : RunsOk) (rI : ∀ (a b c d : TypeId), allV (itoaRun (H0 a b c d)) 1000 = okV 1000) {a b c d : TypeId} {W : World} {s : Sl} (L : Laid 10 cnt (tabs a b c d) s.q W) (l : List (Nat × AV))
    (h : ∀ p ∈ l, ∃ x : Nat, VR (rho0 10 cnt s) p.2 (.int .i64 (x : Int)) ∧ AtIs W s p.1 x) : OrcOk Tryz.prog (JJ 10 cnt s W) (orcY (tO l)) := by
  refine orcS_ok (fa := 5) (t := tO l) (fr := [8]) (by decide) L (fun m hm w Lw => itoa_ok rI Lw m hm) (orcL_ok (fr := [8]) (by decide) L (fun i v e => ?_) fun f hf w Lw => ?_)
  · obtain ⟨p, hp, rfl, rfl⟩ := tO_some e
    exact h p hp
  · cases hf with
    | head => exact runs_ok rR Lw
    | tail _ hf => cases hf
theorem orcT_ok (rR : RunsOk) {a b c d : TypeId} {W : World} {s : Sl} (L : Laid 10 cnt (tabs a b c d) s.q W) (l : List (Nat × Nat × Nat))
    (h : ∀ p ∈ l, ∃ x : Nat, x ≤ 255 ∧ x % p.2.1 = p.2.2 ∧ AtIs W s p.1 x) : OrcOk Tryz.prog (JJ 10 cnt s W) (orcT (tL l)) :=
  orcL_ok (fr := [8]) (by decide) L (fun i v e => by
    obtain ⟨p, hp, rfl, rfl⟩ := tL_some e
    obtain ⟨x, hx, hm, hc⟩ := h p hp
    exact ⟨x, by simp only [VR]; exact ⟨x, rfl, hx, hm⟩, hc⟩) fun f hf w Lw => by
    cases hf with
    | head => exact runs_ok rR Lw
    | tail _ hf => cases hf
theorem orcN_ok (rR : RunsOk) {a b c d : TypeId} {W : World} {s : Sl} (L : Laid 10 cnt (tabs a b c d) s.q W) : OrcOk Tryz.prog (JJ 10 cnt s W) (orcT fun _ => none) :=
  orcL_ok (fr := [8]) (by decide) L (fun i v e => by cases e) fun f hf w Lw => by
    cases hf with
    | head => exact runs_ok rR Lw
    | tail _ hf => cases hf
theorem law_ent {a b c d : TypeId} {W : World} {s : Sl} (L : Laid 10 cnt (tabs a b c d) s.q W) {f : Nat} {o : Orc} (O : OrcOk Tryz.prog (JJ 10 cnt s W) o) (g : Good (Answer tab 100000 o 300 f [.oslice 50] (H0 a b c d))) :
    Go.Calls Tryz.prog f #[.slice (some ⟨s.r, s.off, none⟩) s.len s.cap] W fun e w' => e = .returned (.bool true) ∧ Below W.heap.size W w' := by
  refine known (P := Tryz.prog) (T := tab) (fu := 100000) (k := 300) (orc := o) fnsOk mixed (by decide) codes tab_ok L O ?_
  rw [H0_eq]
  exact g.out
theorem empty_ent {a b c d : TypeId} {q : Nat × Nat} {W : World} (L : Laid 10 cnt (tabs a b c d) q W) {f : Nat} {x : Option Addr} {cap : Nat} {o : Orc} (O : OrcOk Tryz.prog (JJ 10 cnt ⟨0, 0, 0, 0, q, fun _ => (0, 0)⟩ W) o)
    (g : Good (Answer tab 100000 o 300 f [.eslice] (H0 a b c d))) : Go.Calls Tryz.prog f #[.slice x 0 cap] W fun e w' => e = .returned (.bool true) ∧ Below W.heap.size W w' := by
  refine (run_true (P := Tryz.prog) (T := tab) (fu := 100000) (k := 300) (f := f) (args := [.eslice]) (h := hList (tabs a b c d)) (orc := o) fnsOk mixed (JJ.base (n := 10) (cnt := cnt) ⟨0, 0, 0, 0, q, fun _ => (0, 0)⟩ W)
    O codes tab_ok ?_ (JJ.start L.calm) (L.sim (s := ⟨0, 0, 0, 0, q, fun _ => (0, 0)⟩) (by decide)) (VRL.cons (by simp only [VR]; exact ⟨x, cap, rfl⟩) VRL.nil)).mono fun e w' ⟨h1, ρ', h', h2⟩ => ⟨h1, h2.below L.calm⟩
  rw [H0_eq]; exact g.out
theorem law_sym (rR : RunsOk) (rI : ∀ (a b c d : TypeId), allV (itoaRun (H0 a b c d)) 1000 = okV 1000) {a b c d : TypeId} {W : World} {s : Sl} (L : Laid 10 cnt (tabs a b c d) s.q W) {f : Nat} (l : List (Nat × AV))
    (h : ∀ p ∈ l, ∃ x : Nat, VR (rho0 10 cnt s) p.2 (.int .i64 (x : Int)) ∧ AtIs W s p.1 x) (g : ∀ (a b c d : TypeId), Good (Answer tab 100000 (orcY (tO l)) 300 f [.oslice 50] (H0 a b c d))) :
    Go.Calls Tryz.prog f #[.slice (some ⟨s.r, s.off, none⟩) s.len s.cap] W fun e w' => e = .returned (.bool true) ∧ Below W.heap.size W w' :=
  law_ent L (orcY_ok rR rI L l h) (g a b c d)
end Go.Ev

namespace Go.Ev
open Go Go.Proofs Go.RowKit
theorem holds1 {s : Sl} {m : Nat} (h1 : s.sy 60 = (m, 0)) : Holds (rho0 10 cnt s) [(60, m)] := by
  intro v d e
  have e : (bif Nat.beq 60 v then some m else none) = some d := e
  cases c1 : Nat.beq 60 v with
  | true =>
    rw [c1] at e
    cases e
    rw [← Nat.eq_of_beq_eq_true c1]
    exact ⟨0, by show some (s.sy 60) = _; rw [h1]⟩
  | false =>
    rw [c1] at e
    cases e
structure Fam where
  e : Ent
  aF : Nat → List AV
  nF : Nat → List (Nat × ABlk)
  o : Ent
  hF : Nat → List (Nat × ABlk)
noncomputable def oF (F : Fam) (m : Nat) (a b c d : TypeId) (rest : Orc) : Orc := orcE4 F.o.f F.o.a F.o.n0 (F.hF m) F.o.v [] F.o.n1 (tabs a b c d) (orcE2 F.e.f (F.aF m) F.e.n0 F.e.v (F.nF m) F.e.n1 (tabs a b c d) rest)
noncomputable def ckB (F : Fam) (m : Nat) : Bool := cvL [(60, m)] F.e.a (F.aF m) && (cv [(60, m)] F.e.v F.e.v && (cvN [(60, m)] F.e.nb (F.nF m) && (cvL [(60, m)] F.o.a F.o.a && (cv [(60, m)] F.o.v F.o.v && cvN [(60, m)] F.o.hp (F.hF m)))))
theorem ck_of {F : Fam} {M : Nat} (h : ((List.range M).all fun m => ckB F m) = true) {m : Nat} (hm : m < M) : ckB F m = true := List.all_eq_true.1 h m (List.mem_range.2 hm)
def GS (F : Fam) (a b c d : TypeId) : Prop := good (EAns tab 100000 noO 300 F.e.f F.e.a (hListN F.e.n0 (tabs a b c d)) F.e.v F.e.nb F.e.n1) ∧ good (EAns tab 100000 (orcY (tO [])) 300 F.o.f F.o.a (hListN F.o.n0 (tabs a b c d ++ F.o.hp)) F.o.v F.o.nb F.o.n1)
theorem fam_ok (rR : RunsOk) (rI : ∀ (a b c d : TypeId), allV (itoaRun (H0 a b c d)) 1000 = okV 1000) {a b c d : TypeId} {W : World} {s : Sl} (L : Laid 10 cnt (tabs a b c d) s.q W) {o : Orc} (O : OrcOk Go.Proofs.Tryz.prog (JJ 10 cnt s W) o) {m : Nat} (H : Holds (rho0 10 cnt s) [(60, m)]) (F : Fam)
    (he : (allFrom F.e.n0 F.e.nb && (allRg F.o.hp && List.isEmpty F.o.nb)) = true) (ck : ckB F m = true) (ge : GS F a b c d) : OrcOk Go.Proofs.Tryz.prog (JJ 10 cnt s W) (oF F m a b c d o) := by
  unfold ckB at ck
  simp only [Bool.and_eq_true] at ck he
  obtain ⟨k1, k2, k3, k4, k5, k6⟩ := ck
  obtain ⟨h1, h2, h3⟩ := he
  have h3 : F.o.nb = [] := List.isEmpty_iff.1 h3
  have O2 := ent2_ok (P := Go.Proofs.Tryz.prog) (fu := 100000) (k := 300) (s := s) fnsOk mixed (by decide) codes tab_ok L noOrc O F.e h1 [(60, m)] H k1 k2 k3 ge.1
  exact ent4_ok (P := Go.Proofs.Tryz.prog) (fu := 100000) (k := 300) (s := s) (nb' := []) fnsOk mixed (by decide) codes tab_ok L (orcY_ok rR rI L [] (fun p hp => by cases hp)) O2 F.o h2 (by rw [h3]; rfl) [(60, m)] H k4 k5 k6 (by rw [h3]; rfl) ge.2
noncomputable def nestV (x : Ans) (n : Nat) : Ans := nrec .ok (fun _ ih => .and x ih) n
theorem nestV_good {x : Ans} (h : good x) : ∀ n : Nat, good (nestV x n)
  | 0 => trivial
  | n + 1 => ⟨h, nestV_good h n⟩
theorem nest_of {f : Nat → Ans} {x : Ans} {n : Nat} (h : allV f n = nestV x n) (hx : good x) (m : Nat) (hm : m < n) : good (f m) := allV_good (f := f) (n := n) (by rw [h]; exact nestV_good hx n) m hm
def sB (v w : Nat) : AV := .sint .i64 0 [⟨3, v, 85, 0⟩, ⟨1, w, 2, 0⟩]
theorem sB_ok {ρ : Rho} {v w x : Nat} (h1 : ρ v = some (x / 3, 0)) (h2 : ρ w = some (x % 3, 0)) (hx : x ≤ 255) : VR ρ (sB v w) (.int .i64 (x : Int)) :=
  VR.sint_iff.2 ⟨3 * (x / 3) + (1 * (x % 3) + 0), by congr 1; omega, ⟨x / 3, 0, 1 * (x % 3) + 0, h1, (by show x / 3 ≤ 85; omega), .inl rfl, ⟨x % 3, 0, 0, h2, (by show x % 3 ≤ 2; omega), .inl rfl, rfl, rfl⟩, rfl⟩, Nat.le_of_ble_eq_true rfl⟩
theorem iM_ok {ρ : Rho} {x m r : Nat} (hx : x ≤ 255) (h : x % m = r) : VR ρ (.imod m r) (.int .i64 (x : Int)) := by
  simp only [VR]; exact ⟨x, rfl, hx, h⟩
end Go.Ev
