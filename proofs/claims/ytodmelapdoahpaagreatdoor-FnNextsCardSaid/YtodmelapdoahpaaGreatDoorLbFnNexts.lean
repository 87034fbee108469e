import Derived.Test.YtodmelapdoahpaaGreatDoorLaFnNexts
import Derived.Lay
import Derived.LaidOnce
import Derived.LaidMore
import Derived.Carry
import Derived.ChangeOld
import Derived.SizedLaws
import Derived.Lib.LaidU8
set_option linter.all false
namespace Go.Ev
open Go Go.Proofs Go.RowKit Go.ChangeShapes Go.WideShapes Go.ChangeAt
open Go.Proofs.YtodmelapdoahpaaGreatDoor

theorem own : ownKnob Tryz.prog.godebug = none := by kernel_rfl
theorem laidOut : laidOutB Tryz.prog = true := by kernel_rfl
abbrev laidL : List (String × DataW Unit) := Rows.fnPartsRow.laid
def LawOk (f : Nat) : Prop :=
  (∀ {a b c d : TypeId} {q : Nat × Nat} {W : World} {x : Option Addr} {cap : Nat}, Laid 10 cnt (tabs a b c d) q W → Go.Calls Tryz.prog f #[.slice x 0 cap] W fun e w' => e = .returned (.bool true) ∧ Below W.heap.size W w') ∧
  (∀ {a b c d : TypeId}  {W : World} {s : Sl}, Laid 10 cnt (tabs a b c d) s.q W → Code1 W s → Go.Calls Tryz.prog f #[.slice (some ⟨s.r, s.off, none⟩) s.len s.cap] W fun e w' => e = .returned (.bool true) ∧ Below W.heap.size W w')
theorem law_any {f : Nat} (K : LawOk f) {W : World} (hL : laidMetH Tryz.prog laidL W) {H : Type} {enc : TypeId × Value → H} {base : Nat} {held : Bool} {fuel : Nat} {v : Value} {x : DataW H × List MemPlace}
    (h : DataW.trod enc Tryz.prog W base (fun _ => true) held fuel 22 [v] = some x) : Go.Calls Tryz.prog f #[v] W fun e w' => e = .returned (.bool true) ∧ Below W.heap.size W w' := by
  obtain ⟨a, b, c, d, q, L⟩ := laid_of hL
  rcases open_ints Tryz.underlying22 Tryz.underlying5 (by kernel_rfl) h with ⟨hc, _⟩ | ⟨ad, len, cap, zs, hc, _, hlc, hmax, hlen, _, hcell, hwf⟩
  · cases hc
    exact K.1 L
  · cases hc
    cases len with
    | zero => exact K.1 L
    | succ n =>
      have hlen : zs.length = cap := hlen
      obtain ⟨r, off, sp⟩ := ad
      have h0 := hcell 0 (by omega)
      have hs : sp = none := cell_spot (b := r) (o := off) (by simpa [Addr.add] using h0)
      subst hs
      refine K.2 (s := ⟨r, off, n + 1, cap, q, fun _ => (0, 0)⟩) L ⟨Nat.succ_pos _, by have h1 : cap ≤ maxLen := hmax; have h2 : maxLen = 9223372036854775807 := rfl; rw [h2] at h1; show n + 1 < 9223372036854775808; omega, fun i hi => ?_⟩
      have hi : i < n + 1 := hi
      have hcl := hcell i (by omega)
      rw [add_plain] at hcl
      have hm : zs.getD i 0 ∈ zs := by
        rw [List.getD_eq_getElem?_getD, List.getElem?_eq_getElem (by omega)]
        exact List.getElem_mem _
      have hw := hwf _ hm
      have hb : 0 ≤ zs.getD i 0 ∧ zs.getD i 0 ≤ 255 := by simpa [Lit.wf, IntKind.min, IntKind.max, IntKind.signed, IntKind.bits] using hw
      refine ⟨(zs.getD i 0).toNat, by omega, ?_, World.block_lt_of_cell? W ⟨r, off + i, none⟩ hcl⟩
      rw [hcl, Int.toNat_of_nonneg hb.1]
end Go.Ev
