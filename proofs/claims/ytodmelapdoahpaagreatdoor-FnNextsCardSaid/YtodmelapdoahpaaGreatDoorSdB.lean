import Derived.Test.YtodmelapdoahpaaGreatDoorSdA
import Derived.Laws.Strings
import Derived.Laws.StructEq
set_option linter.all false
namespace Go.Ev
open Go
section
variable {P : Program}

def OkV (ρ : Rho) (h : Heap) (w : World) (P : Program) (v : AV) (h' : Heap) (s : Sem Value) : Prop :=
  ∃ ρ' v' w', s.run P w = .ok v' w' ∧ VR ρ' v v' ∧ Sim ρ' h' w' ∧ Ext ρ h w ρ' h' w'
def OkU (ρ : Rho) (h : Heap) (w : World) (P : Program) (h' : Heap) (s : Sem Unit) : Prop :=
  ∃ ρ' w', s.run P w = .ok () w' ∧ Sim ρ' h' w' ∧ Ext ρ h w ρ' h' w'

theorem OkV.same {ρ h w} (s : Sim ρ h w) {v : AV} {v' : Value} {x : Sem Value} (hx : x.run P w = .ok v' w) (hv : VR ρ v v') : OkV ρ h w P v h x :=
  ⟨ρ, v', w, hx, hv, s, Ext.refl _ _ _⟩

theorem VR.ptr_iff {ρ : Rho} {b o : Nat} {v : Value} : VR ρ (.ptr b o) v ↔ ∃ r c, ρ b = some (r, c) ∧ v = .pointer (some ⟨r, o, none⟩) := by simp only [VR]
theorem asPtr_some {x : AV} {p : Nat × Nat} (h : asPtr x = some p) : x = .ptr p.1 p.2 := by cases x <;> first | (cases h; rfl) | cases h
theorem asInt_some {x : AV} {p : IntKind × Nat} (h : asInt x = some p) : x = .int p.1 p.2 := by cases x <;> first | (cases h; rfl) | cases h
theorem asBool_some {x : AV} {p : Bool} (h : asBool x = some p) : x = .bool p := by cases x <;> first | (cases h; rfl) | cases h
theorem asStr_some {x : AV} {p : Nat × Nat} (h : asStr x = some p) : x = .str p.1 p.2 := by cases x <;> first | (cases h; rfl) | cases h
theorem asMap_some {x : AV} {p : Nat} (h : asMap x = some p) : x = .map p := by cases x <;> first | (cases h; rfl) | cases h
theorem asAgg_some {x : AV} {p : List AV} (h : asAgg x = some p) : x = .agg p := by cases x <;> first | (cases h; rfl) | cases h
theorem asTuple_some {x : AV} {p : List AV} (h : asTuple x = some p) : x = .tuple p := by cases x <;> first | (cases h; rfl) | cases h
theorem asCells_some {x : ABlk} {t : T AV} (h : asCells x = some t) : ∃ n ty k, x = .cells t n ty k := by cases x <;> first | (cases h; exact ⟨_, _, _, rfl⟩) | cases h
theorem natOf_some {x : AV} {i : Nat} (h : natOf x = some i) : ∃ k, x = .int k i ∧ isPos k i = true := by
  cases x with
  | int k m =>
    have h : bcase (isPos k m) (some m) none = some i := h
    obtain ⟨h1, h2⟩ := bcase_none_iff.1 h
    cases h2; exact ⟨k, rfl, h1⟩
  | _ => cases h
theorem asSl_some {x : AV} {p : Nat × Nat × Nat} (h : asSl x = some p) : (∃ c, x = .slice p.1 p.2.1 p.2.2 c) ∨ ∃ z, x = .gslice p.1 p.2.1 p.2.2 z := by
  cases x <;> first | (cases h; exact .inl ⟨_, rfl⟩) | (cases h; exact .inr ⟨_, rfl⟩) | cases h
theorem one_VR {ρ : Rho} {a : AV} {v : Value} (h : VR ρ a v) (ha : a.one = true) : v.oneCell' = true := by
  cases a <;> simp only [VR] at h <;> first
    | (obtain ⟨rfl, _⟩ := h; rfl) | (subst h; rfl) | (obtain ⟨_, rfl, _⟩ := h; rfl) | (obtain ⟨_, _, _, rfl⟩ := h; rfl) | (obtain ⟨_, _, _, _, rfl, _⟩ := h; rfl) | (obtain ⟨_, _, rfl⟩ := h; rfl) | (obtain ⟨_, _, rfl, _⟩ := h; rfl) | (obtain ⟨_, _, _, _, _, _, rfl⟩ := h; rfl) | (cases ha)
theorem one_VRL {ρ : Rho} : ∀ {l : List AV} {vs : List Value}, VRL ρ l vs → allOne l = true → ∀ v ∈ vs, v.oneCell' = true
  | [], _, h, _, v, hv => by rw [VRL.nil_iff.1 h] at hv; cases hv
  | a :: l, _, h, ha, v, hv => by
    obtain ⟨u, us, rfl, h1, h2⟩ := VRL.cons_iff.1 h
    rw [allOne_cons, Bool.and_eq_true] at ha
    cases hv with
    | head => exact one_VR h1 ha.1
    | tail _ hv => exact one_VRL h2 ha.2 v hv
theorem cells_VR {ρ : Rho} {a : AV} {v : Value} (h : VR ρ a v) : VRL ρ a.cells v.cells.toList := by
  cases a with
  | agg l => simp only [VR] at h; obtain ⟨x, rfl, h2⟩ := h; exact h2
  | _ =>
    have hc : v.cells = #[v] := by
      simp only [VR] at h
      first
        | (obtain ⟨rfl, _⟩ := h; rfl) | (subst h; rfl) | (obtain ⟨_, rfl, _⟩ := h; rfl) | (obtain ⟨_, _, _, rfl⟩ := h; rfl) | (obtain ⟨_, _, _, _, rfl, _⟩ := h; rfl) | (obtain ⟨_, _, rfl⟩ := h; rfl) | (obtain ⟨_, _, rfl, _⟩ := h; rfl) | (obtain ⟨_, _, _, _, _, _, rfl⟩ := h; rfl)
    rw [hc]; exact VRL.cons h VRL.nil

theorem CR.list {ρ : Rho} {t : T AV} {arr : Array Value} (hc : CR ρ t arr) {k off : Nat} {l : List AV} (h : getL t k off = some l) :
    off + k ≤ arr.size ∨ k = 0 := by
  obtain ⟨h1, h2⟩ := getL_spec t k off l h
  cases k with
  | zero => exact .inr rfl
  | succ k =>
    obtain ⟨a, h3, _⟩ := h2 k (by omega)
    obtain ⟨v, h4, _⟩ := hc _ _ h3
    left
    rcases Nat.lt_or_ge (off + k) arr.size with h5 | h5
    · omega
    · rw [Array.getElem?_eq_none h5] at h4; cases h4
theorem CR.getL {ρ : Rho} {t : T AV} {arr : Array Value} (hc : CR ρ t arr) {k off : Nat} {l : List AV} (h : Ev.getL t k off = some l) :
    ∃ vs, vs.length = k ∧ VRL ρ l vs ∧ ∀ j v, vs[j]? = some v → arr[off + j]? = some v := by
  obtain ⟨h1, h2⟩ := getL_spec t k off l h
  refine ⟨(List.range k).map fun j => (arr[off + j]?).getD undef, by simp, VRL.of_get (by simp [h1]) fun i a hi => ?_, fun j v hj => ?_⟩
  · have hik : i < k := by
      rcases Nat.lt_or_ge i k with h3 | h3
      · exact h3
      · rw [List.getElem?_eq_none (by omega)] at hi; cases hi
    obtain ⟨b, h3, h4⟩ := h2 i hik
    rw [hi] at h4; cases h4
    obtain ⟨v, h5, h6⟩ := hc _ _ h3
    exact ⟨v, by simp [hik, h5], h6⟩
  · have hjk : j < k := by
      rcases Nat.lt_or_ge j k with h3 | h3
      · exact h3
      · rw [List.getElem?_eq_none (by simp; omega)] at hj; cases hj
    obtain ⟨b, h3, _⟩ := h2 j hjk
    obtain ⟨u, h5, _⟩ := hc _ _ h3
    simp [hjk, h5] at hj
    rw [h5, hj]

theorem load_ok {ρ h w} (s : Sim ρ h w) {t : TypeId} {p a : AV} {p' : Value} (hp : VR ρ p p') (hl : loadA P h t p = some a) :
    ∃ v, (Instr.loadAt t p').run P w = .ok v w ∧ VR ρ a v := by
  unfold loadA at hl
  obtain ⟨q, hq, hl⟩ := ocase_some_iff.1 hl
  obtain ⟨b, hb, hl⟩ := ocase_some_iff.1 hl
  obtain ⟨c, hc, hl⟩ := ocase_some_iff.1 hl
  obtain ⟨sz, hs, hl⟩ := ocase_some_iff.1 hl
  rw [asPtr_some hq] at hp
  obtain ⟨r, cn, hr, rfl⟩ := VR.ptr_iff.1 hp
  obtain ⟨n, ty, k, rfl⟩ := asCells_some hc
  obtain ⟨r', c', o, h1, h2, h3⟩ := s.blk _ _ hb
  rw [hr] at h1; cases h1
  obtain ⟨arr, lo, hi, rfl, h4, h5, h6, h7, h8, h9⟩ := h3
  obtain ⟨g1, g2⟩ := aggSz_some hs
  have hst : (Instr.loadAt t (.pointer (some ⟨r, q.2, none⟩))).run P w = (loadVar t ⟨r, q.2, none⟩).run P w := by
    unfold Instr.loadAt Instr.sureAddr; rw [Sem.run_bind]; rfl
  rw [hst]
  unfold loadVar
  rw [Sem.run_bind, g1, Result.andThen_ok]
  cases sz with
  | none =>
    have hl : T.get (digs q.2) c = some a := hl
    obtain ⟨v, h11, h10⟩ := h8 _ _ hl
    refine ⟨v, ?_, h10⟩
    show (if (false : Bool) = true then _ else load _).run P w = _
    rw [if_neg (by decide), run_load, cell_of h2, h11]
  | some sz =>
    have hl : ocase (Ev.getL c sz q.2) none (fun l => some (.agg l)) = some a := hl
    obtain ⟨l, h11, h10⟩ := ocase_some_iff.1 hl
    cases h10
    obtain ⟨vs, e1, e2, e3⟩ := h8.getL h11
    refine ⟨.agg vs.toArray, ?_, by simp only [VR]; exact ⟨_, rfl, e2⟩⟩
    show (if (true : Bool) = true then _ else load _).run P w = _
    rw [if_pos rfl, Sem.run_bind, run_sizeOf' (g2 sz rfl), Result.andThen_ok, Sem.run_bind]
    have := run_loadCells_list (P := P) w ⟨r, q.2, none⟩ vs (fun j v hj => by rw [add_of, cell_of h2]; exact e3 j v hj)
    rw [e1] at this
    rw [this]; rfl

theorem storeL_ok {ρ h w} (s : Sim ρ h w) {b off r c : Nat} {l : List AV} {vs : List Value} {h' : Heap} (hr : ρ b = some (r, c)) (hl : VRL ρ l vs) (hs : storeL h b off l = some h') :
    OkU ρ h w P h' (storeCells ⟨r, off, none⟩ vs) := by
  unfold storeL at hs
  obtain ⟨x, hb, hs⟩ := ocase_some_iff.1 hs
  cases x with
  | cells t n ty k =>
    have hs : bcase k.ro? none (bcase (allOne l) (bcase (Nat.ble (Nat.add off (lenL l)) n) (some (h.set b (some (.cells (setL l off t) n ty k)))) none) none) = some h' := hs
    obtain ⟨e1, hs⟩ := bcase_none_iff'.1 hs
    obtain ⟨e2, hs⟩ := bcase_none_iff.1 hs
    obtain ⟨e3, hs⟩ := bcase_none_iff.1 hs
    cases hs
    have e3 := Nat.le_of_ble_eq_true e3
    rw [lenL_eq] at e3
    have e3 : off + l.length ≤ n := e3
    obtain ⟨r', c', o, h1, h2, h3⟩ := s.blk _ _ hb
    rw [hr] at h1; cases h1
    obtain ⟨arr, lo, hi, rfl, h4, h5, h6, h7, h8, h9⟩ := h3
    have hlen := hl.length
    have hfit : off + 0 + vs.length ≤ arr.size := by omega
    have hrun := run_storeCells' (P := P) r ty lo hi vs off 0 arr w h2 h4 hfit (one_VRL hl e2)
    have hw : wr (.cells t n ty k) = true := by cases k <;> first | rfl | exact absurd e1 (by decide)
    have hw' : wr (.cells (setL l off t) n ty k) = true := by cases k <;> first | rfl | exact absurd e1 (by decide)
    have hsz := spl_size arr (off + 0) vs hfit
    have := s.write hb hw hr (y := .cells (setL l off t) n ty k) (o := .cells (spl arr (off + 0) vs) ty (lo, hi))
      ⟨_, _, _, rfl, by rw [hsz]; exact h4, by rw [hsz]; exact h5, h6, h7, fun i a hi' => by
        rw [get_setL] at hi'
        rw [spl_get arr _ _ hfit]
        by_cases hc : off ≤ i ∧ i < off + l.length
        · rw [if_pos hc] at hi'
          rw [if_pos (by omega)]
          exact hl.get _ _ hi'
        · rw [if_neg hc] at hi'
          rw [if_neg (by omega)]
          exact h8 i a hi', fun i a hi' => by
        rw [get_setL] at hi'
        by_cases hc : off ≤ i ∧ i < off + l.length
        · omega
        · rw [if_neg hc] at hi'
          exact h9 i a hi'⟩ hw'
    exact ⟨ρ, _, hrun, this.1, this.2⟩
  | _ => cases hs

theorem store_ok {ρ h w} (s : Sim ρ h w) {t : TypeId} {p v : AV} {p' v' : Value} {h' : Heap} (hp : VR ρ p p') (hv : VR ρ v v') (hs : storeA P h t p v = some h') :
    OkU ρ h w P h' (Instr.storeAt t p' v') := by
  unfold storeA at hs
  obtain ⟨q, hq, hs⟩ := ocase_some_iff.1 hs
  obtain ⟨sz, hz, hs⟩ := ocase_some_iff.1 hs
  obtain ⟨e1, hs⟩ := bcase_none_iff.1 hs
  rw [asPtr_some hq] at hp
  obtain ⟨r, c, hr, rfl⟩ := VR.ptr_iff.1 hp
  have hcl := cells_VR hv
  obtain ⟨ρ', w', h1, h2, h3⟩ := storeL_ok (P := P) s hr hcl hs
  refine ⟨ρ', w', ?_, h2, h3⟩
  have e1 := nbeq_iff.1 e1
  rw [lenL_eq] at e1
  have hsz : v'.cells.size = sz := by rw [← e1, ← hcl.length]; simp
  have hst : (Instr.storeAt t (.pointer (some ⟨r, q.2, none⟩)) v').run P w = (storeVar t ⟨r, q.2, none⟩ v').run P w := by
    unfold Instr.storeAt Instr.sureAddr; rw [Sem.run_bind]; rfl
  rw [hst]
  unfold storeVar
  rw [Sem.run_bind, run_sizeOf' hz, Result.andThen_ok]
  simp only [hsz, ne_eq, not_true_eq_false, if_false]
  exact h1

theorem newRow_ok {ρ h w} (s : Sim ρ h w) {t : TypeId} {l : List AV} {arr : Array Value} {k : BK} (hk : k.ro? = false) (hl : VRL ρ l arr.toList) :
    ∃ ρ' w', (newRow t arr).run P w = .ok ⟨w.heap.size, 0, none⟩ w' ∧ ρ' h.next = some (w.heap.size, arr.size) ∧
      Sim ρ' (h.new (.cells (setL l 0 .e) (lenL l) t k)) w' ∧ Ext ρ h w ρ' (h.new (.cells (setL l 0 .e) (lenL l) t k)) w' := by
  have hn : ρ h.next = none := s.fresh _ (Nat.le_refl _)
  have hle := Rho.ext_le (x := (w.heap.size, arr.size)) hn
  have hlen : arr.size = l.length := by have := hl.length; simpa using this
  have hw : wr (.cells (setL l 0 .e) (lenL l) t k) = true := by cases k <;> first | rfl | exact absurd hk (by decide)
  have := s.alloc (x := .cells (setL l 0 .e) (lenL l) t k) (o := .cells arr t) (c := arr.size)
    ⟨arr, 0, 0, rfl, .inl (Nat.le_refl _), rfl, by rw [lenL_eq]; omega, fun _ => by rw [lenL_eq]; omega, fun i a hi => by
      rw [get_setL] at hi
      by_cases hc : 0 ≤ i ∧ i < 0 + l.length
      · rw [if_pos hc, Nat.sub_zero] at hi
        obtain ⟨v, h1, h2⟩ := (VRL.mono hle _ _ hl).get _ _ hi
        exact ⟨v, by simpa using h1, h2⟩
      · rw [if_neg hc, T.get_e] at hi; exact absurd hi (by simp), fun i a hi => by
      rw [get_setL] at hi
      by_cases hc : 0 ≤ i ∧ i < 0 + l.length
      · rw [lenL_eq]; omega
      · rw [if_neg hc, T.get_e] at hi; cases hi⟩ hw
  exact ⟨_, _, rfl, Rho.ext_same _ _ _, this.1, this.2⟩

theorem newCells_ok {ρ h w} (s : Sim ρ h w) {t : TypeId} {v : AV} {v' : Value} (hv : VR ρ v v') :
    OkV ρ h w P (newCells h t v.cells).1 (newCells h t v.cells).2 (do pure (.pointer (some (← newVar t v')))) := by
  obtain ⟨ρ', w', h1, h2, h3, h4⟩ := newRow_ok (P := P) (t := t) (k := .ex) s rfl (cells_VR hv)
  refine ⟨ρ', _, w', ?_, VR.ptr_iff.2 ⟨_, _, h2, rfl⟩, h3, h4⟩
  unfold newVar
  rw [Sem.run_bind, h1]; rfl

theorem alloc_ok {ρ h w} (s : Sim ρ h w) {t : TypeId} {x : AV × Heap} (ha : allocA P h t = some x) (old : Value) : OkV ρ h w P x.1 x.2 (Instr.alloc t true old) := by
  unfold allocA at ha
  obtain ⟨z, hz, ha⟩ := ocase_some_iff.1 ha
  obtain ⟨e1, ha⟩ := bcase_none_iff.1 ha
  cases ha
  obtain ⟨v, hv1, hv2⟩ := run_zeroValue' (P := P) hz w
  obtain ⟨ρ', v', w', h1, h2⟩ := newCells_ok (P := P) (t := t) s (hv2 ρ)
  refine ⟨ρ', v', w', ?_, h2⟩
  unfold Instr.alloc
  rw [Sem.run_bind, hv1, Result.andThen_ok]
  exact h1
theorem box_ok {ρ h w} (s : Sim ρ h w) {t : TypeId} {v : AV} {v' : Value} (hv : VR ρ v v') : OkV ρ h w P (newCells h t v.cells).1 (newCells h t v.cells).2 (Instr.box t v') :=
  newCells_ok s hv
end
end Go.Ev

namespace Go.Ev
open Go
section
variable {P : Program}

def OkP (ρ : Rho) (w : World) (P : Program) (v : AV) (s : Sem Value) : Prop := ∃ v', s.run P w = .ok v' w ∧ VR ρ v v'
theorem OkP.pure {ρ : Rho} {w : World} {v : AV} {v' : Value} (h : VR ρ v v') : OkP ρ w P v (pure v') := ⟨v', rfl, h⟩
theorem OkP.eq {ρ : Rho} {w : World} {v : AV} {s t : Sem Value} (h : OkP ρ w P v t) (e : s = t) : OkP ρ w P v s := e ▸ h

theorem VR.int_iff {ρ : Rho} {k : IntKind} {m : Nat} {v : Value} : VR ρ (.int k m) v ↔ v = .int k (sg k m) ∧ m ≤ maxu k := by simp only [VR]
theorem VR.bool_iff {ρ : Rho} {b : Bool} {v : Value} : VR ρ (.bool b) v ↔ v = .bool b := by simp only [VR]
theorem VR.str_iff {ρ : Rho} {n bits : Nat} {v : Value} : VR ρ (.str n bits) v ↔ ∃ l : List UInt8, v = .string ⟨⟨l⟩⟩ ∧ l.length = n ∧ pack l = bits := by simp only [VR]
theorem VR.int_of {ρ : Rho} {k : IntKind} {m : Nat} (h : m ≤ maxu k) {n : Int} (e : n = sg k m) : VR ρ (.int k m) (.int k n) := VR.int_iff.2 ⟨by rw [e], h⟩
theorem VR.int_code {ρ : Rho} {k : IntKind} {n x : Int} (e : n = k.wrap x) : VR ρ (.int k (code k x)) (.int k n) := VR.int_of (code_le k x) (by rw [e, wrap_eq])

theorem wrap_in {k : IntKind} {n : Int} (h : (0 ≤ n ∧ n ≤ maxs k) ∨ (maxs k < maxu k ∧ n < 0 ∧ -(maxs k : Int) - 1 ≤ n)) : k.wrap n = n := by
  rcases h with ⟨h1, h2⟩ | ⟨h0, h1, h2⟩
  · have e : n = sg k n.toNat := by rw [sg_def, if_pos (by omega)]; omega
    rw [e]; exact wrap_sg (by have := maxs_le k; omega)
  · have hk : maxu k = 2 * maxs k + 1 := by cases k <;> first | rfl | exact absurd h0 (by decide)
    have e : n = sg k (n + maxu k + 1).toNat := by rw [sg_def, if_neg (by omega)]; omega
    rw [e]; exact wrap_sg (by omega)
theorem sg_bound (k : IntKind) (m : Nat) (h : m ≤ maxu k) : (0 ≤ sg k m ∧ sg k m ≤ maxs k) ∨ (maxs k < maxu k ∧ sg k m < 0 ∧ -(maxs k : Int) - 1 ≤ sg k m) := by
  rw [sg_def]
  by_cases h1 : m ≤ maxs k
  · rw [if_pos h1]; left; omega
  · rw [if_neg h1]; right
    have hk : maxu k = 2 * maxs k + 1 := by
      cases k <;> first | rfl | exact absurd h h1
    omega
theorem sg_zero {k : IntKind} {m : Nat} (h : m ≤ maxu k) : sg k m = 0 ↔ m = 0 := by
  have hs : sg k 0 = 0 := by rw [sg_def, if_pos (Nat.zero_le _)]; rfl
  exact ⟨fun e => sg_inj h (Nat.zero_le _) (by rw [e, hs]), fun e => by rw [e, hs]⟩
theorem pos2_iff {k : IntKind} {a b : Nat} : pos2 k a b = true ↔ isPos k a = true ∧ isPos k b = true := by unfold pos2; rw [bcase_and, Bool.and_eq_true]
theorem sg_nat {k : IntKind} {m : Nat} (h : m ≤ maxs k) : sg k m = (m : Int) := sg_pos ((isPos_iff k m).2 h)

theorem code_bits (k : IntKind) (a : Nat) (ha : a ≤ maxu k) : (BitVec.ofInt k.bits (sg k a)).toNat = a := by
  rw [BitVec.toNat_ofInt]
  have h := maxu_eq k
  have h2 : ((2 ^ k.bits : Nat) : Int) = (maxu k : Int) + 1 := by rw [h]; push_cast; rfl
  rw [h2]
  have : code k (sg k a) = a := code_of_congr ha (sg_turn k a)
  exact this
theorem maxu_nat (k : IntKind) : 2 ^ k.bits = maxu k + 1 := by cases k <;> rfl

section
variable {ρ : Rho} {w : World} {k : IntKind} {a b : Nat}
theorem iAdd_ok {v : AV} (_ : a ≤ maxu k) (_ : b ≤ maxu k) (h : iAdd k a b = some v) : OkP ρ w P v (Op.intArith .add k (sg k a) (sg k b)) := by
  cases h
  obtain ⟨h1, h2⟩ := nadd_ok k a b
  exact OkP.pure (VR.int_of h2 h1)
theorem iSub_ok {v : AV} (ha : a ≤ maxu k) (hb : b ≤ maxu k) (h : iSub k a b = some v) : OkP ρ w P v (Op.intArith .sub k (sg k a) (sg k b)) := by
  cases h
  obtain ⟨h1, h2⟩ := nsub_ok k a b ha hb
  exact OkP.pure (VR.int_of h2 h1)
theorem iMul_ok {v : AV} (_ : a ≤ maxu k) (_ : b ≤ maxu k) (h : iMul k a b = some v) : OkP ρ w P v (Op.intArith .mul k (sg k a) (sg k b)) := by
  unfold iMul at h
  cases hp : pos2 k a b with
  | true =>
    rw [hp, bcase_true] at h; cases h
    obtain ⟨h1, h2⟩ := pos2_iff.1 hp
    obtain ⟨h3, h4⟩ := nmul_ok k a b h1 h2
    exact OkP.pure (VR.int_of h4 h3)
  | false =>
    rw [hp, bcase_false] at h; cases h
    exact OkP.pure (VR.int_code rfl)
theorem iQuo_ok {v : AV} (ha : a ≤ maxu k) (hb : b ≤ maxu k) (h : iQuo k a b = some v) : OkP ρ w P v (Op.intDiv .quo k (sg k a) (sg k b)) := by
  unfold iQuo at h
  obtain ⟨h0, h⟩ := bcase_none_iff'.1 h
  have hb0 : sg k b ≠ 0 := fun e => by rw [(sg_zero hb).1 e] at h0; exact absurd h0 (by decide)
  unfold Op.intDiv
  rw [if_neg hb0]
  cases hp : pos2 k a b with
  | true =>
    rw [hp, bcase_true] at h; cases h
    obtain ⟨h1, h2⟩ := pos2_iff.1 hp
    have h1' := (isPos_iff k a).1 h1
    have hle : a / b ≤ a := Nat.div_le_self a b
    refine OkP.pure (VR.int_of (m := Nat.div a b) (by show a / b ≤ _; omega) ?_)
    have e : (sg k a).tdiv (sg k b) = sg k (a / b) := by
      rw [sg_pos h1, sg_pos h2, sg_nat (m := a / b) (by omega)]; rfl
    rw [e]; exact wrap_sg (by omega)
  | false =>
    rw [hp, bcase_false] at h; cases h
    exact OkP.pure (VR.int_code rfl)
theorem iRem_ok {v : AV} (ha : a ≤ maxu k) (hb : b ≤ maxu k) (h : iRem k a b = some v) : OkP ρ w P v (Op.intDiv .rem k (sg k a) (sg k b)) := by
  unfold iRem at h
  obtain ⟨h0, h⟩ := bcase_none_iff'.1 h
  have hb0 : sg k b ≠ 0 := fun e => by rw [(sg_zero hb).1 e] at h0; exact absurd h0 (by decide)
  unfold Op.intDiv
  rw [if_neg hb0]
  cases hp : pos2 k a b with
  | true =>
    rw [hp, bcase_true] at h; cases h
    obtain ⟨h1, h2⟩ := pos2_iff.1 hp
    have h1' := (isPos_iff k a).1 h1
    have hle : a % b ≤ a := Nat.mod_le a b
    refine OkP.pure (VR.int_of (m := Nat.mod a b) (by show a % b ≤ _; omega) ?_)
    rw [sg_pos h1, sg_pos h2, sg_nat (m := Nat.mod a b) (by show a % b ≤ _; omega)]; rfl
  | false =>
    rw [hp, bcase_false] at h; cases h
    refine OkP.pure (VR.int_code (wrap_in ?_).symm)
    have hn : ((sg k a).tmod (sg k b)).natAbs ≤ (sg k a).natAbs := by rw [Int.natAbs_tmod]; exact Nat.mod_le _ _
    rcases sg_bound k a ha with ⟨h1, h2⟩ | ⟨h1, h2, h3⟩
    · left
      have := Int.tmod_nonneg (sg k b) h1
      omega
    · have hneg : (sg k a).tmod (sg k b) ≤ 0 := by
        have e : sg k a = -(-(sg k a)) := by omega
        rw [e, Int.neg_tmod]
        have := Int.tmod_nonneg (sg k b) (a := -(sg k a)) (by omega)
        omega
      rcases Int.lt_or_eq_of_le hneg with h4 | h4
      · right; omega
      · left; omega
theorem back_ok {m : Nat} (h : m ≤ maxu k) : VR ρ (.int k m) (.int k (k.wrap (m : Int))) :=
  VR.int_of h (wrap_of h ⟨0, by omega⟩)
theorem iAnd_ok {v : AV} (ha : a ≤ maxu k) (hb : b ≤ maxu k) (h : iAnd k a b = some v) : OkP ρ w P v (Op.intBits .and k (sg k a) (sg k b)) := by
  cases h
  unfold Op.intBits
  have e : (BitVec.ofInt k.bits (sg k a) &&& BitVec.ofInt k.bits (sg k b)).toNat = a &&& b := by rw [BitVec.toNat_and, code_bits k a ha, code_bits k b hb]
  refine OkP.pure ?_
  rw [e]
  exact back_ok (Nat.le_trans Nat.and_le_left ha)
theorem lt_bits (ha : a ≤ maxu k) : a < 2 ^ k.bits := by rw [maxu_nat]; omega
theorem iOr_ok {v : AV} (ha : a ≤ maxu k) (hb : b ≤ maxu k) (h : iOr k a b = some v) : OkP ρ w P v (Op.intBits .or k (sg k a) (sg k b)) := by
  cases h
  unfold Op.intBits
  have e : (BitVec.ofInt k.bits (sg k a) ||| BitVec.ofInt k.bits (sg k b)).toNat = a ||| b := by rw [BitVec.toNat_or, code_bits k a ha, code_bits k b hb]
  refine OkP.pure ?_
  rw [e]
  have := Nat.or_lt_two_pow (lt_bits ha) (lt_bits hb)
  rw [maxu_nat] at this
  exact back_ok (m := a ||| b) (by omega)
theorem iXor_ok {v : AV} (ha : a ≤ maxu k) (hb : b ≤ maxu k) (h : iXor k a b = some v) : OkP ρ w P v (Op.intBits .xor k (sg k a) (sg k b)) := by
  cases h
  unfold Op.intBits
  have e : (BitVec.ofInt k.bits (sg k a) ^^^ BitVec.ofInt k.bits (sg k b)).toNat = a ^^^ b := by rw [BitVec.toNat_xor, code_bits k a ha, code_bits k b hb]
  refine OkP.pure ?_
  rw [e]
  have := Nat.xor_lt_two_pow (lt_bits ha) (lt_bits hb)
  rw [maxu_nat] at this
  exact back_ok (m := a ^^^ b) (by omega)
theorem iAndNot_ok {v : AV} (ha : a ≤ maxu k) (hb : b ≤ maxu k) (h : iAndNot k a b = some v) : OkP ρ w P v (Op.intBits .andNot k (sg k a) (sg k b)) := by
  cases h
  unfold Op.intBits
  have e : (BitVec.ofInt k.bits (sg k a) &&& ~~~ BitVec.ofInt k.bits (sg k b)).toNat = a &&& (maxu k - b) := by
    rw [BitVec.toNat_and, BitVec.toNat_not, code_bits k a ha, code_bits k b hb, maxu_nat]; rfl
  refine OkP.pure ?_
  rw [e]
  exact back_ok (m := a &&& (maxu k - b)) (Nat.le_trans Nat.and_le_left ha)
theorem iEql_ok {v : AV} (ha : a ≤ maxu k) (hb : b ≤ maxu k) (h : iEql k a b = some v) : OkP ρ w P v (Op.intCmp .eql (sg k a) (sg k b)) := by
  cases h; exact OkP.pure (VR.bool_iff.2 (by rw [sg_beq k a b ha hb]))
theorem iNeq_ok {v : AV} (ha : a ≤ maxu k) (hb : b ≤ maxu k) (h : iNeq k a b = some v) : OkP ρ w P v (Op.intCmp .neq (sg k a) (sg k b)) := by
  cases h; exact OkP.pure (VR.bool_iff.2 (by rw [bne, sg_beq k a b ha hb]))
theorem iLss_ok {v : AV} (ha : a ≤ maxu k) (hb : b ≤ maxu k) (h : iLss k a b = some v) : OkP ρ w P v (Op.intCmp .lss (sg k a) (sg k b)) := by
  cases h; exact OkP.pure (VR.bool_iff.2 (by rw [sg_lt k a b ha hb]))
theorem iGtr_ok {v : AV} (ha : a ≤ maxu k) (hb : b ≤ maxu k) (h : iGtr k a b = some v) : OkP ρ w P v (Op.intCmp .gtr (sg k a) (sg k b)) := by
  cases h; exact OkP.pure (VR.bool_iff.2 (by rw [← sg_lt k b a hb ha]))
theorem iLeq_ok {v : AV} (ha : a ≤ maxu k) (hb : b ≤ maxu k) (h : iLeq k a b = some v) : OkP ρ w P v (Op.intCmp .leq (sg k a) (sg k b)) := by
  cases h; exact OkP.pure (VR.bool_iff.2 (by rw [← sg_lt k b a hb ha]; congr 1; rw [Bool.eq_iff_iff]; simp))
theorem iGeq_ok {v : AV} (ha : a ≤ maxu k) (hb : b ≤ maxu k) (h : iGeq k a b = some v) : OkP ρ w P v (Op.intCmp .geq (sg k a) (sg k b)) := by
  cases h; exact OkP.pure (VR.bool_iff.2 (by rw [← sg_lt k a b ha hb]; congr 1; rw [Bool.eq_iff_iff]; simp))

theorem minN_eq (a b : Nat) : minN a b = min a b := by
  unfold minN; rw [bcase_eq]
  split
  · rename_i h; rw [Nat.min_eq_left (Nat.le_of_ble_eq_true h)]
  · rename_i h; rw [Nat.min_eq_right]; rw [Nat.ble_eq] at h; omega
theorem iShl_ok {v : AV} {k' : IntKind} {y : Nat} (_ : a ≤ maxu k) (h : iShl k a y = some v) : OkP ρ w P v (Op.shift .shl k (sg k a) k' (y : Int)) := by
  unfold Op.shift
  rw [if_neg (by omega)]
  unfold iShl at h
  rw [minN_eq] at h
  cases hp : isPos k a with
  | true =>
    rw [hp, bcase_true] at h; cases h
    refine OkP.pure (VR.int_of (norm_le k _) (wrap_of (norm_le k _) ?_))
    obtain ⟨q, hq⟩ := norm_turn k (Nat.shiftLeft a (min y k.bits))
    refine ⟨q, ?_⟩
    rw [← hq, sg_pos hp]
    show _ = ((a <<< (min y k.bits) : Nat) : Int)
    rw [Nat.shiftLeft_eq]; simp
  | false =>
    rw [hp, bcase_false] at h; cases h
    exact OkP.pure (VR.int_code rfl)
theorem iShr_ok {v : AV} {k' : IntKind} {y : Nat} (ha : a ≤ maxu k) (h : iShr k a y = some v) : OkP ρ w P v (Op.shift .shr k (sg k a) k' (y : Int)) := by
  unfold Op.shift
  rw [if_neg (by omega)]
  unfold iShr at h
  rw [minN_eq] at h
  have hpow : (0 : Int) < 2 ^ (min y k.bits) := Int.pow_pos (by decide)
  cases hp : isPos k a with
  | true =>
    rw [hp, bcase_true] at h; cases h
    have hle : a >>> (min y k.bits) ≤ a := by rw [Nat.shiftRight_eq_div_pow]; exact Nat.div_le_self _ _
    have h1' := (isPos_iff k a).1 hp
    refine OkP.pure (VR.int_of (m := Nat.shiftRight a (min y k.bits)) (by show a >>> _ ≤ _; omega) ?_)
    rw [sg_nat (m := Nat.shiftRight a (min y k.bits)) (by show a >>> _ ≤ _; omega), sg_pos hp]
    show _ = ((a >>> (min y k.bits) : Nat) : Int)
    rw [Nat.shiftRight_eq_div_pow, Int.fdiv_eq_ediv_of_nonneg _ (by exact Int.le_of_lt hpow)]
    simp
  | false =>
    rw [hp, bcase_false] at h; cases h
    refine OkP.pure (VR.int_code (wrap_in ?_).symm)
    have e : (sg k a).fdiv (2 ^ min (y : Int).toNat k.bits) = sg k a / 2 ^ (min y k.bits) := Int.fdiv_eq_ediv_of_nonneg _ (Int.le_of_lt hpow)
    rw [e]
    rcases sg_bound k a ha with ⟨h1, h2⟩ | ⟨h1, h2, h3⟩
    · left
      have g1 := Int.ediv_nonneg h1 (Int.le_of_lt hpow)
      have g2 := Int.ediv_le_self (2 ^ (min y k.bits)) h1
      omega
    · right
      have g1 := Int.ediv_neg_of_neg_of_pos h2 hpow
      have g2 : sg k a ≤ sg k a / 2 ^ (min y k.bits) := by
        apply Int.le_ediv_of_mul_le hpow
        have : sg k a * 2 ^ (min y k.bits) ≤ sg k a * 1 := Int.mul_le_mul_of_nonpos_left (by omega) (by omega)
        omega
      exact ⟨h1, g1, by omega⟩
end

theorem mk_toList (l : List UInt8) : (⟨⟨l⟩⟩ : ByteArray).toList = l := by rw [ByteArray.toList_eq]
theorem mk_size (l : List UInt8) : (⟨⟨l⟩⟩ : ByteArray).size = l.length := rfl
theorem mk_append (l m : List UInt8) : (⟨⟨l⟩⟩ : ByteArray) ++ ⟨⟨m⟩⟩ = ⟨⟨l ++ m⟩⟩ := by
  apply ByteArray.ext
  rw [ByteArray.data_append]
  apply Array.ext'
  simp
theorem mk_inj {l m : List UInt8} : ((⟨⟨l⟩⟩ : ByteArray) = ⟨⟨m⟩⟩) ↔ l = m := by simp
theorem max_i64 : IntKind.i64.max = 9223372036854775807 := by decide
section
variable {ρ : Rho} {w : World} {l m : List UInt8}
theorem sAdd_ok {v : AV} (h : sAdd l.length (pack l) m.length (pack m) = some v) : OkP ρ w P v (Op.stringOp .add ⟨⟨l⟩⟩ ⟨⟨m⟩⟩) := by
  unfold sAdd at h
  obtain ⟨h1, h⟩ := bcase_none_iff.1 h
  have h1 : l.length + m.length ≤ 1000000 := Nat.le_of_ble_eq_true h1
  cases h
  unfold Op.stringOp
  rw [mk_size, mk_size, max_i64]
  show OkP ρ w P _ (if ((l.length + m.length : Nat) : Int) > 9223372036854775807 then _ else pure (.string (⟨⟨l⟩⟩ ++ ⟨⟨m⟩⟩)))
  rw [if_neg (by omega)]
  refine OkP.pure (VR.str_iff.2 ⟨l ++ m, by rw [mk_append], by rw [List.length_append]; rfl, by rw [cat_eq]⟩)
theorem sEql_ok {v : AV} (h : sEql l.length (pack l) m.length (pack m) = some v) : OkP ρ w P v (Op.stringOp .eql ⟨⟨l⟩⟩ ⟨⟨m⟩⟩) := by
  cases h; unfold Op.stringOp; rw [mk_toList, mk_toList]; exact OkP.pure (VR.bool_iff.2 (by rw [seq_eq]))
theorem sNeq_ok {v : AV} (h : sNeq l.length (pack l) m.length (pack m) = some v) : OkP ρ w P v (Op.stringOp .neq ⟨⟨l⟩⟩ ⟨⟨m⟩⟩) := by
  cases h; unfold Op.stringOp; rw [mk_toList, mk_toList]; exact OkP.pure (VR.bool_iff.2 (by rw [seq_eq]))
theorem sLss_ok {v : AV} (h : sLss l.length (pack l) m.length (pack m) = some v) : OkP ρ w P v (Op.stringOp .lss ⟨⟨l⟩⟩ ⟨⟨m⟩⟩) := by
  cases h; unfold Op.stringOp; rw [mk_toList, mk_toList]; exact OkP.pure (VR.bool_iff.2 (by rw [slt_eq]))
theorem bor_case (a b : Bool) : bcase a true b = (a || b) := by cases a <;> rfl
theorem sLeq_ok {v : AV} (h : sLeq l.length (pack l) m.length (pack m) = some v) : OkP ρ w P v (Op.stringOp .leq ⟨⟨l⟩⟩ ⟨⟨m⟩⟩) := by
  cases h; unfold Op.stringOp; rw [mk_toList, mk_toList]; exact OkP.pure (VR.bool_iff.2 (by rw [slt_eq, seq_eq, bor_case]))
theorem sGtr_ok {v : AV} (h : sGtr l.length (pack l) m.length (pack m) = some v) : OkP ρ w P v (Op.stringOp .gtr ⟨⟨l⟩⟩ ⟨⟨m⟩⟩) := by
  cases h; unfold Op.stringOp; rw [mk_toList, mk_toList]; exact OkP.pure (VR.bool_iff.2 (by rw [slt_eq, seq_eq, bor_case]))
theorem sGeq_ok {v : AV} (h : sGeq l.length (pack l) m.length (pack m) = some v) : OkP ρ w P v (Op.stringOp .geq ⟨⟨l⟩⟩ ⟨⟨m⟩⟩) := by
  cases h; unfold Op.stringOp; rw [mk_toList, mk_toList]; exact OkP.pure (VR.bool_iff.2 (by rw [slt_eq]))
end

def IntFits (ρ : Rho) (w : World) (P : Program) (op : BinOp) (t : TypeId) (f : IOp) : Prop :=
  ∀ k a b v, a ≤ maxu k → b ≤ maxu k → f k a b = some v → OkP ρ w P v (binOp op t (.int k (sg k a)) (.int k (sg k b)))
def StrFits (ρ : Rho) (w : World) (P : Program) (op : BinOp) (t : TypeId) (g : SOp) : Prop :=
  ∀ (l m : List UInt8) v, g l.length (pack l) m.length (pack m) = some v → OkP ρ w P v (binOp op t (.string ⟨⟨l⟩⟩) (.string ⟨⟨m⟩⟩))

theorem arith_ok {ρ : Rho} {w : World} {T : Value → Value → Sem Value} {f : IOp} {g : SOp} {e : AV → AV → Option AV} {x y v : AV} {x' y' : Value}
    (hf : ∀ k a b v, a ≤ maxu k → b ≤ maxu k → f k a b = some v → OkP ρ w P v (T (.int k (sg k a)) (.int k (sg k b))))
    (hg : ∀ (l m : List UInt8) v, g l.length (pack l) m.length (pack m) = some v → OkP ρ w P v (T (.string ⟨⟨l⟩⟩) (.string ⟨⟨m⟩⟩)))
    (he : e x y = some v → (asInt x = none ∨ asInt y = none) → (asStr x = none ∨ asStr y = none) → OkP ρ w P v (T x' y'))
    (hx : VR ρ x x') (hy : VR ρ y y') (h : arith f g e x y = some v) : OkP ρ w P v (T x' y') := by
  unfold arith at h
  cases hi : asInt x with
  | some a =>
    rw [hi, ocase_some] at h
    have hxe := asInt_some hi
    cases hj : asInt y with
    | some b =>
      rw [hj, ocase_some] at h
      obtain ⟨h1, h2⟩ := bcase_none_iff.1 h
      have hk := kcode_inj h1
      have hye := asInt_some hj
      rw [hxe] at hx; rw [hye] at hy
      obtain ⟨rfl, hxm⟩ := VR.int_iff.1 hx
      obtain ⟨rfl, hym⟩ := VR.int_iff.1 hy
      rw [← hk] at hym ⊢
      exact hf _ _ _ _ hxm hym h2
    | none =>
      rw [hj, ocase_none] at h
      exact he h (.inr hj) (.inl (by rw [hxe]; rfl))
  | none =>
    rw [hi, ocase_none] at h
    unfold arithS at h
    cases hs : asStr x with
    | none => rw [hs, ocase_none] at h; exact he h (.inl hi) (.inl hs)
    | some a =>
      rw [hs, ocase_some] at h
      cases hu : asStr y with
      | none => rw [hu, ocase_none] at h; exact he h (.inl hi) (.inr hu)
      | some b =>
        rw [hu, ocase_some] at h
        have hxe := asStr_some hs
        have hye := asStr_some hu
        rw [hxe] at hx; rw [hye] at hy
        obtain ⟨l, rfl, h1, h2⟩ := VR.str_iff.1 hx
        obtain ⟨m, rfl, h3, h4⟩ := VR.str_iff.1 hy
        rw [← h1, ← h2, ← h3, ← h4] at h
        exact hg _ _ _ h

theorem intOp_ok {ρ : Rho} {w : World} (op : BinOp) (t : TypeId) : IntFits ρ w P op t (intOp op) := by
  intro k a b v ha hb h
  cases op with
  | add => exact (iAdd_ok ha hb h).eq (by show (if k ≠ k then _ else _) = _; rw [if_neg (by simp)])
  | sub => exact (iSub_ok ha hb h).eq (by show (if k ≠ k then _ else _) = _; rw [if_neg (by simp)])
  | mul => exact (iMul_ok ha hb h).eq (by show (if k ≠ k then _ else _) = _; rw [if_neg (by simp)])
  | quo => exact (iQuo_ok ha hb h).eq (by show (if k ≠ k then _ else _) = _; rw [if_neg (by simp)])
  | rem => exact (iRem_ok ha hb h).eq (by show (if k ≠ k then _ else _) = _; rw [if_neg (by simp)])
  | and => exact (iAnd_ok ha hb h).eq (by show (if k ≠ k then _ else _) = _; rw [if_neg (by simp)])
  | or => exact (iOr_ok ha hb h).eq (by show (if k ≠ k then _ else _) = _; rw [if_neg (by simp)])
  | xor => exact (iXor_ok ha hb h).eq (by show (if k ≠ k then _ else _) = _; rw [if_neg (by simp)])
  | andNot => exact (iAndNot_ok ha hb h).eq (by show (if k ≠ k then _ else _) = _; rw [if_neg (by simp)])
  | eql => exact (iEql_ok ha hb h).eq (by show (if k ≠ k then _ else _) = _; rw [if_neg (by simp)])
  | neq => exact (iNeq_ok ha hb h).eq (by show (if k ≠ k then _ else _) = _; rw [if_neg (by simp)])
  | lss => exact (iLss_ok ha hb h).eq (by show (if k ≠ k then _ else _) = _; rw [if_neg (by simp)])
  | leq => exact (iLeq_ok ha hb h).eq (by show (if k ≠ k then _ else _) = _; rw [if_neg (by simp)])
  | gtr => exact (iGtr_ok ha hb h).eq (by show (if k ≠ k then _ else _) = _; rw [if_neg (by simp)])
  | geq => exact (iGeq_ok ha hb h).eq (by show (if k ≠ k then _ else _) = _; rw [if_neg (by simp)])
  | shl => cases h
  | shr => cases h
theorem strOp_ok {ρ : Rho} {w : World} (op : BinOp) (t : TypeId) : StrFits ρ w P op t (strOp op) := by
  intro l m v h
  cases op with
  | add => exact sAdd_ok h
  | eql => exact sEql_ok h
  | neq => exact sNeq_ok h
  | lss => exact sLss_ok h
  | leq => exact sLeq_ok h
  | gtr => exact sGtr_ok h
  | geq => exact sGeq_ok h
  | _ => cases h
theorem natOf_VR {ρ : Rho} {y : AV} {y' : Value} {n : Nat} (h : natOf y = some n) (hy : VR ρ y y') : ∃ k, y' = .int k (n : Int) := by
  obtain ⟨k, rfl, hp⟩ := natOf_some h
  obtain ⟨rfl, _⟩ := VR.int_iff.1 hy
  exact ⟨k, by rw [sg_pos hp]⟩
theorem shl_ok {ρ : Rho} {w : World} {t : TypeId} {x y v : AV} {x' y' : Value} (hx : VR ρ x x') (hy : VR ρ y y') (h : shiftA iShl x y = some v) : OkP ρ w P v (binOp .shl t x' y') := by
  unfold shiftA at h
  obtain ⟨a, ha, h⟩ := ocase_some_iff.1 h
  obtain ⟨b, hb, h⟩ := ocase_some_iff.1 h
  rw [asInt_some ha] at hx
  obtain ⟨rfl, hm⟩ := VR.int_iff.1 hx
  obtain ⟨k', rfl⟩ := natOf_VR hb hy
  exact iShl_ok (k' := k') hm h
theorem shr_ok {ρ : Rho} {w : World} {t : TypeId} {x y v : AV} {x' y' : Value} (hx : VR ρ x x') (hy : VR ρ y y') (h : shiftA iShr x y = some v) : OkP ρ w P v (binOp .shr t x' y') := by
  unfold shiftA at h
  obtain ⟨a, ha, h⟩ := ocase_some_iff.1 h
  obtain ⟨b, hb, h⟩ := ocase_some_iff.1 h
  rw [asInt_some ha] at hx
  obtain ⟨rfl, hm⟩ := VR.int_iff.1 hx
  obtain ⟨k', rfl⟩ := natOf_VR hb hy
  exact iShr_ok (k' := k') hm h

theorem unOp_ok {ρ : Rho} {w : World} {op : UnOp} {x v : AV} {x' : Value} (hx : VR ρ x x') (h : unOpA op x = some v) : OkP ρ w P v (Op.unary op x') := by
  unfold unOpA at h
  split at h
  · rename_i k m
    cases h
    obtain ⟨rfl, hm⟩ := VR.int_iff.1 hx
    obtain ⟨h1, h2⟩ := nsub_ok k 0 m (Nat.zero_le _) hm
    have h0 : sg k 0 = 0 := sg_nat (Nat.zero_le _)
    refine OkP.pure (VR.int_of h2 ?_)
    rw [← h1, h0]
  · rename_i k c ts
    obtain ⟨h1, h⟩ := bcase_none_iff.1 h
    cases h
    simp only [VR] at hx
    obtain ⟨m, rfl, hm, hle⟩ := hx
    have h1 : maxs k + 1 ≤ maxu k := Nat.le_of_ble_eq_true h1
    have := hm.le
    refine OkP.pure ?_
    have e : k.wrap (0 - ((c + m : Nat) : Int)) = -((c + m : Nat) : Int) := by
      rw [Int.zero_sub]
      refine wrap_in ?_
      by_cases h0 : c + m = 0
      · left; omega
      · right; omega
    simp only [VR]
    exact ⟨m, congrArg (Value.int k) e, hm, hle⟩
  · rename_i k m
    cases h
    obtain ⟨rfl, hm⟩ := VR.int_iff.1 hx
    have e1 : (if k.signed = true then (-1 : Int) else k.max) = sg k (maxu k) := by cases k <;> rfl
    have := iXor_ok (ρ := ρ) (w := w) (P := P) (k := k) (a := maxu k) (b := m) (v := .int k (Nat.xor (maxu k) m)) (Nat.le_refl _) hm rfl
    have e2 : Nat.xor (maxu k) m = Nat.sub (maxu k) m := by
      have h1 := BitVec.toNat_xor (BitVec.allOnes k.bits) (BitVec.ofNat k.bits m)
      rw [BitVec.allOnes_xor] at h1
      have h2 : (BitVec.ofNat k.bits m).toNat = m := by rw [BitVec.toNat_ofNat, maxu_nat, Nat.mod_eq_of_lt (by omega)]
      rw [BitVec.toNat_not, h2, BitVec.toNat_allOnes, maxu_nat] at h1
      exact h1.symm
    rw [e2] at this
    show OkP ρ w P _ (Op.intBits .xor k (if k.signed then -1 else k.max) _)
    rw [e1]; exact this
  · cases h
    rw [VR.bool_iff.1 hx]
    exact OkP.pure (VR.bool_iff.2 rfl)
  · cases h
end
end Go.Ev

namespace Go.Ev
open Go
theorem Trm.beq_eq {t u : Trm} (h : t.beq u = true) : t = u := by
  obtain ⟨a, v, mx, lo⟩ := t
  obtain ⟨a', v', mx', lo'⟩ := u
  unfold Trm.beq at h
  simp only at h
  cases h1 : Nat.beq a a' with
  | false => rw [h1] at h; cases h
  | true =>
    cases h2 : Nat.beq v v' with
    | false => rw [h1, h2] at h; cases h
    | true =>
      cases h3 : Nat.beq mx mx' with
      | false => rw [h1, h2, h3] at h; cases h
      | true =>
        rw [h1, h2, h3] at h
        have h4 : Nat.beq lo lo' = true := h
        rw [nbeq_iff.1 h1, nbeq_iff.1 h2, nbeq_iff.1 h3, nbeq_iff.1 h4]
theorem beqT_eq : ∀ (a b : List Trm), beqT a b = true → a = b
  | [], [], _ => rfl
  | [], _ :: _, h => by cases h
  | _ :: _, [], h => by cases h
  | t :: a, u :: b, h => by
    have h : bcase (t.beq u) (beqT a b) false = true := h
    cases h1 : t.beq u with
    | false => rw [h1] at h; cases h
    | true => rw [h1, bcase_true] at h; rw [Trm.beq_eq h1, beqT_eq a b h]

section
variable {P : Program}
theorem bytesL_succ (n bits : Nat) : bytesL (n + 1) bits = .int .u8 (byte0 bits) :: bytesL n (shr8 bits) := rfl
theorem u8_VR {ρ : Rho} (b : UInt8) : VR ρ (.int .u8 b.toNat) (.int .u8 (b.toNat : Int)) := by
  have := ub b
  have h1 : b.toNat ≤ maxs .u8 := by show _ ≤ 255; omega
  exact VR.int_iff.2 ⟨by rw [sg_nat h1], h1⟩
theorem bytesL_VR {ρ : Rho} : ∀ (l : List UInt8), VRL ρ (bytesL l.length (pack l)) (l.map fun b => Value.int .u8 (b.toNat : Int))
  | [] => VRL.nil
  | b :: l => by
    rw [List.length_cons, bytesL_succ, byte0_cons, shr8_cons, List.map_cons]
    exact VRL.cons (u8_VR b) (bytesL_VR l)

theorem bytesL_len : ∀ (n bits : Nat), (bytesL n bits).length = n
  | 0, _ => rfl
  | n + 1, bits => by rw [bytesL_succ, List.length_cons, bytesL_len]
theorem unb1_some {v : AV} {r : Option Nat} {b : Nat} (h : unb1 v r = some b) : ∃ m q, v = .int .u8 m ∧ r = some q ∧ b = m + q * 256 := by
  unfold unb1 at h
  obtain ⟨x, h1, h⟩ := ocase_some_iff.1 h
  obtain ⟨h2, h⟩ := bcase_none_iff.1 h
  obtain ⟨q, h3, h⟩ := ocase_some_iff.1 h
  cases h
  have hk := kcode_inj h2
  refine ⟨x.2, q, by rw [← hk]; exact asInt_some h1, h3, ?_⟩
  have := shiftLeft8 q 1
  show x.2 + Nat.shiftLeft q 8 = _
  rw [show Nat.shiftLeft q 8 = q * 256 from this]
theorem unbytes_cons (v : AV) (l : List AV) : unbytes (v :: l) = unb1 v (unbytes l) := rfl
theorem unbytes_ok {ρ : Rho} : ∀ {l : List AV} {vs : List Value} {bits : Nat}, VRL ρ l vs → unbytes l = some bits → ∃ bs : List UInt8, vs = bs.map (fun b => Value.int .u8 (b.toNat : Int)) ∧ pack bs = bits ∧ bs.length = l.length
  | [], vs, bits, hv, h => by cases h; exact ⟨[], VRL.nil_iff.1 hv, rfl, rfl⟩
  | v :: l, vs, bits, hv, h => by
    rw [unbytes_cons] at h
    obtain ⟨m, q, rfl, h1, rfl⟩ := unb1_some h
    obtain ⟨u, us, rfl, h2, h3⟩ := VRL.cons_iff.1 hv
    obtain ⟨bs, rfl, h4, h5⟩ := unbytes_ok h3 h1
    obtain ⟨rfl, hm⟩ := VR.int_iff.1 h2
    have hm : m ≤ 255 := hm
    refine ⟨UInt8.ofNat m :: bs, ?_, ?_, by simp [h5]⟩
    · have e : (UInt8.ofNat m).toNat = m := by simp; omega
      rw [List.map_cons, e, sg_nat (k := .u8) hm]
    · have e : (UInt8.ofNat m).toNat = m := by simp; omega
      rw [pack_cons, e, h4, Nat.mul_comm]


def T1 (ρ : Rho) (t : Trm) (n : Nat) : Prop := ∃ d c, ρ t.v = some (d, c) ∧ d ≤ t.mx ∧ (t.lo = 0 ∨ ∃ d' c', ρ t.lo = some (d', c') ∧ d' < d) ∧ n = t.a * d
theorem LE.nil {ρ : Rho} : LE ρ [] 0 := rfl
theorem LE.nil_iff {ρ : Rho} {n : Nat} : LE ρ [] n ↔ n = 0 := Iff.rfl
theorem LE.cons {ρ : Rho} {t : Trm} {ts : List Trm} {a n : Nat} (h : T1 ρ t a) (k : LE ρ ts n) : LE ρ (t :: ts) (a + n) := by
  obtain ⟨d, c, h1, h2, h3, rfl⟩ := h
  exact ⟨d, c, n, h1, h2, h3, k, rfl⟩
theorem LE.cons' {ρ : Rho} {t : Trm} {ts : List Trm} {a n m : Nat} (h : T1 ρ t a) (k : LE ρ ts n) (e : m = a + n) : LE ρ (t :: ts) m := e ▸ h.elim fun _ _ => LE.cons h k
theorem LE.inv {ρ : Rho} {t : Trm} {ts : List Trm} {n : Nat} (h : LE ρ (t :: ts) n) : ∃ a m, T1 ρ t a ∧ LE ρ ts m ∧ n = a + m := by
  obtain ⟨d, c, m, h1, h2, h3, h4, h5⟩ := h
  exact ⟨_, m, ⟨d, c, h1, h2, h3, rfl⟩, h4, h5⟩
theorem T1.with {ρ : Rho} {t : Trm} {n : Nat} (h : T1 ρ t n) (a' : Nat) : ∃ d c, ρ t.v = some (d, c) ∧ n = t.a * d ∧ T1 ρ ⟨a', t.v, t.mx, t.lo⟩ (a' * d) := by
  obtain ⟨d, c, h1, h2, h3, rfl⟩ := h
  exact ⟨d, c, h1, rfl, ⟨d, c, h1, h2, h3, rfl⟩⟩
theorem insT_cons (t u : Trm) (r : List Trm) : insT t (u :: r) = bcase (Nat.beq t.v u.v) (⟨Nat.add t.a u.a, u.v, u.mx, u.lo⟩ :: r) (bcase (Nat.ble t.v u.v) (t :: u :: r) (u :: insT t r)) := rfl
theorem insT_ok {ρ : Rho} {t : Trm} {a : Nat} (ha : T1 ρ t a) : ∀ {ts : List Trm} {n : Nat}, LE ρ ts n → LE ρ (insT t ts) (a + n)
  | [], n, h => by rw [show n = 0 from h]; exact LE.cons ha LE.nil
  | u :: r, n, h => by
    obtain ⟨b, m, h1, h2, rfl⟩ := h.inv
    rw [insT_cons]
    cases hv : Nat.beq t.v u.v with
    | true =>
      have hv := nbeq_iff.1 hv
      rw [bcase_true]
      obtain ⟨d, c, g1, rfl, g2⟩ := h1.with (t.a + u.a)
      obtain ⟨d', c', k1, rfl, _⟩ := ha.with 0
      rw [hv, g1] at k1; cases k1
      exact LE.cons' g2 h2 (by rw [Nat.add_mul]; omega)
    | false =>
      rw [bcase_false]
      cases hb : Nat.ble t.v u.v with
      | true => rw [bcase_true]; exact LE.cons ha h
      | false => rw [bcase_false]; exact LE.cons' h1 (insT_ok ha h2) (by omega)
theorem addT_cons (t : Trm) (ts us : List Trm) : addT (t :: ts) us = insT t (addT ts us) := rfl
theorem addT_ok {ρ : Rho} {us : List Trm} {m : Nat} (hu : LE ρ us m) : ∀ {ts : List Trm} {n : Nat}, LE ρ ts n → LE ρ (addT ts us) (n + m)
  | [], n, h => by rw [show n = 0 from h, Nat.zero_add]; exact hu
  | t :: ts, n, h => by
    obtain ⟨a, k, h1, h2, rfl⟩ := h.inv
    rw [addT_cons, Nat.add_assoc]
    exact insT_ok h1 (addT_ok hu h2)
theorem mulT_cons (q : Nat) (t : Trm) (ts : List Trm) : mulT q (t :: ts) = ⟨Nat.mul q t.a, t.v, t.mx, t.lo⟩ :: mulT q ts := rfl
theorem mulT_ok {ρ : Rho} (q : Nat) : ∀ {ts : List Trm} {n : Nat}, LE ρ ts n → LE ρ (mulT q ts) (q * n)
  | [], n, h => by rw [show n = 0 from h]; exact LE.nil
  | t :: ts, n, h => by
    obtain ⟨a, k, h1, h2, rfl⟩ := h.inv
    obtain ⟨d, c, _, rfl, g⟩ := h1.with (q * t.a)
    exact LE.cons' g (mulT_ok q h2) (by rw [Nat.mul_add, Nat.mul_assoc])
theorem decT_cons (u t : Trm) (r : List Trm) : decT u (t :: r) = bcase (Nat.beq t.v u.v) (bcase (Nat.beq t.a u.a) (some r) (bcase (Nat.ble u.a t.a) (some (⟨Nat.sub t.a u.a, t.v, t.mx, t.lo⟩ :: r)) none)) (ocase (decT u r) none fun q => some (t :: q)) := rfl
theorem decT_ok {ρ : Rho} {u : Trm} {b : Nat} (hb : T1 ρ u b) : ∀ {ts r : List Trm} {n : Nat}, LE ρ ts n → decT u ts = some r → ∃ m, LE ρ r m ∧ n = m + b
  | [], r, n, h, e => by cases e
  | t :: ts, r, n, h, e => by
    obtain ⟨a, k, h1, h2, rfl⟩ := h.inv
    rw [decT_cons] at e
    cases hv : Nat.beq t.v u.v with
    | true =>
      rw [hv, bcase_true] at e
      have hv := nbeq_iff.1 hv
      obtain ⟨d, c, g1, rfl, g2⟩ := h1.with (t.a - u.a)
      obtain ⟨d', c', k1, rfl, _⟩ := hb.with 0
      rw [← hv, g1] at k1; cases k1
      cases ha : Nat.beq t.a u.a with
      | true =>
        rw [ha, bcase_true] at e; cases e
        exact ⟨k, h2, by rw [nbeq_iff.1 ha]; omega⟩
      | false =>
        rw [ha, bcase_false] at e
        obtain ⟨hle, e⟩ := bcase_none_iff.1 e
        cases e
        have hle := Nat.le_of_ble_eq_true hle
        refine ⟨_, LE.cons g2 h2, ?_⟩
        have : (t.a - u.a) * d + u.a * d = t.a * d := by rw [← Nat.add_mul]; congr 1; omega
        omega
    | false =>
      rw [hv, bcase_false] at e
      obtain ⟨q, hq, e⟩ := ocase_some_iff.1 e
      cases e
      obtain ⟨m, g1, g2⟩ := decT_ok hb h2 hq
      exact ⟨_, LE.cons h1 g1, by omega⟩
theorem subT_cons (u : Trm) (us ts : List Trm) : subT (u :: us) ts = ocase (subT us ts) none (decT u) := rfl
theorem subT_ok {ρ : Rho} {ts : List Trm} {n : Nat} (h : LE ρ ts n) : ∀ {us r : List Trm} {b : Nat}, LE ρ us b → subT us ts = some r → ∃ m, LE ρ r m ∧ n = m + b
  | [], r, b, hb, e => by cases e; exact ⟨n, h, by rw [show b = 0 from hb]; omega⟩
  | u :: us, r, b, hb, e => by
    obtain ⟨a, k, h1, h2, rfl⟩ := hb.inv
    rw [subT_cons] at e
    obtain ⟨q, hq, e⟩ := ocase_some_iff.1 e
    obtain ⟨m, g1, g2⟩ := subT_ok h h2 hq
    obtain ⟨m', g3, g4⟩ := decT_ok h1 g1 e
    exact ⟨m', g3, by omega⟩
theorem quoT_cons (m : Nat) (t : Trm) (ts : List Trm) : quoT m (t :: ts) = bcase (Nat.ble m t.a) (⟨Nat.div t.a m, t.v, t.mx, t.lo⟩ :: quoT m ts) (quoT m ts) := rfl
theorem remT_cons (m : Nat) (t : Trm) (ts : List Trm) : remT m (t :: ts) = bcase (is0 (Nat.mod t.a m)) (remT m ts) (⟨Nat.mod t.a m, t.v, t.mx, t.lo⟩ :: remT m ts) := rfl
theorem splitT_ok {ρ : Rho} (m : Nat) : ∀ {ts : List Trm} {n : Nat}, LE ρ ts n → ∃ q r, LE ρ (quoT m ts) q ∧ LE ρ (remT m ts) r ∧ n = m * q + r
  | [], n, h => ⟨0, 0, LE.nil, LE.nil, by rw [show n = 0 from h]; omega⟩
  | t :: ts, n, h => by
    obtain ⟨a, k, h1, h2, rfl⟩ := h.inv
    obtain ⟨q, r, g1, g2, rfl⟩ := splitT_ok m h2
    obtain ⟨d, c, w1, w2, w3, rfl⟩ := h1
    have gq : T1 ρ ⟨t.a / m, t.v, t.mx, t.lo⟩ (t.a / m * d) := ⟨d, c, w1, w2, w3, rfl⟩
    have gr : T1 ρ ⟨t.a % m, t.v, t.mx, t.lo⟩ (t.a % m * d) := ⟨d, c, w1, w2, w3, rfl⟩
    have hd : t.a * d = m * (t.a / m * d) + t.a % m * d := by
      have := Nat.div_add_mod t.a m
      rw [← Nat.mul_assoc, ← Nat.add_mul, this]
    rw [quoT_cons, remT_cons]
    have hq : ∃ q', LE ρ (bcase (Nat.ble m t.a) (⟨Nat.div t.a m, t.v, t.mx, t.lo⟩ :: quoT m ts) (quoT m ts)) q' ∧ q' = t.a / m * d + q := by
      cases hb : Nat.ble m t.a with
      | true => rw [bcase_true]; exact ⟨_, LE.cons gq g1, rfl⟩
      | false =>
        rw [bcase_false]
        have : t.a < m := by
          rcases Nat.lt_or_ge t.a m with h | h
          · exact h
          · rw [Nat.ble_eq_true_of_le h] at hb; cases hb
        exact ⟨q, g1, by rw [Nat.div_eq_of_lt this]; omega⟩
    have hr : ∃ r', LE ρ (bcase (is0 (Nat.mod t.a m)) (remT m ts) (⟨Nat.mod t.a m, t.v, t.mx, t.lo⟩ :: remT m ts)) r' ∧ r' = t.a % m * d + r := by
      cases hb : is0 (Nat.mod t.a m) with
      | true =>
        rw [bcase_true]
        have h0 : t.a % m = 0 := nbeq_iff.1 hb
        exact ⟨r, g2, by rw [h0]; omega⟩
      | false => rw [bcase_false]; exact ⟨_, LE.cons gr g2, rfl⟩
    obtain ⟨q', hq1, rfl⟩ := hq
    obtain ⟨r', hr1, rfl⟩ := hr
    exact ⟨_, _, hq1, hr1, by rw [hd, Nat.mul_add]; omega⟩
theorem cutT_cons (u t : Trm) (r : List Trm) : cutT u (t :: r) = bcase (Nat.beq t.v u.v) (bcase (Nat.ble t.a u.a) (r, Nat.sub u.a t.a) (⟨Nat.sub t.a u.a, t.v, t.mx, t.lo⟩ :: r, 0)) (t :: (cutT u r).1, (cutT u r).2) := rfl
theorem cutT_ok {ρ : Rho} {u : Trm} {d c : Nat} (hd : ρ u.v = some (d, c)) : ∀ {ts : List Trm} {n : Nat}, LE ρ ts n → ∃ m y, LE ρ (cutT u ts).1 m ∧ n = m + y * d ∧ u.a = (cutT u ts).2 + y
  | [], n, h => ⟨0, 0, LE.nil, by rw [show n = 0 from h]; omega, rfl⟩
  | t :: ts, n, h => by
    obtain ⟨a, k, h1, h2, rfl⟩ := h.inv
    rw [cutT_cons]
    cases hv : Nat.beq t.v u.v with
    | true =>
      rw [bcase_true]
      have hv := nbeq_iff.1 hv
      obtain ⟨d', c', g1, rfl, g2⟩ := h1.with (t.a - u.a)
      rw [hv, hd] at g1; cases g1
      cases ha : Nat.ble t.a u.a with
      | true =>
        rw [bcase_true]
        have ha := Nat.le_of_ble_eq_true ha
        exact ⟨k, t.a, h2, by omega, by show u.a = u.a - t.a + t.a; omega⟩
      | false =>
        rw [bcase_false]
        have ha : u.a < t.a := by
          rcases Nat.lt_or_ge u.a t.a with h | h
          · exact h
          · rw [Nat.ble_eq_true_of_le h] at ha; cases ha
        refine ⟨_, u.a, LE.cons g2 h2, ?_, by show u.a = 0 + u.a; omega⟩
        have : (t.a - u.a) * d + u.a * d = t.a * d := by rw [← Nat.add_mul]; congr 1; omega
        omega
    | false =>
      rw [bcase_false]
      obtain ⟨m, y, g1, g2, g3⟩ := cutT_ok hd h2
      exact ⟨_, y, LE.cons h1 g1, by omega, g3⟩
theorem cutLo_cons (lo x : Nat) (t : Trm) (r : List Trm) : cutLo lo x (t :: r) = bcase (Nat.beq t.v lo) (bcase (Nat.ble t.a x) (r, t.a) (⟨Nat.sub t.a x, t.v, t.mx, t.lo⟩ :: r, x)) (t :: (cutLo lo x r).1, (cutLo lo x r).2) := rfl
theorem cutLo_ok {ρ : Rho} {lo x d c : Nat} (hd : ρ lo = some (d, c)) : ∀ {ts : List Trm} {n : Nat}, LE ρ ts n → ∃ m, LE ρ (cutLo lo x ts).1 m ∧ n = m + (cutLo lo x ts).2 * d ∧ (cutLo lo x ts).2 ≤ x
  | [], n, h => ⟨0, LE.nil, by rw [show n = 0 from h]; show 0 = 0 + 0 * d; omega, Nat.zero_le _⟩
  | t :: ts, n, h => by
    obtain ⟨a, k, h1, h2, rfl⟩ := h.inv
    rw [cutLo_cons]
    cases hv : Nat.beq t.v lo with
    | true =>
      rw [bcase_true]
      have hv := nbeq_iff.1 hv
      obtain ⟨d', c', g1, rfl, g2⟩ := h1.with (t.a - x)
      rw [hv, hd] at g1; cases g1
      cases ha : Nat.ble t.a x with
      | true =>
        rw [bcase_true]
        exact ⟨k, h2, by show _ = k + t.a * d; omega, Nat.le_of_ble_eq_true ha⟩
      | false =>
        rw [bcase_false]
        have ha : x < t.a := by
          rcases Nat.lt_or_ge x t.a with h | h
          · exact h
          · rw [Nat.ble_eq_true_of_le h] at ha; cases ha
        refine ⟨_, LE.cons g2 h2, ?_, Nat.le_refl _⟩
        have : (t.a - x) * d + x * d = t.a * d := by rw [← Nat.add_mul]; congr 1; omega
        show _ = _ + x * d
        omega
    | false =>
      rw [bcase_false]
      obtain ⟨m, g1, g2, g3⟩ := cutLo_ok hd h2
      exact ⟨_, LE.cons h1 g1, by show _ = _ + (cutLo lo x ts).2 * d; omega, g3⟩
theorem gap_cons (ts : List Trm) (u : Trm) (us : List Trm) : gap ts (u :: us) = gap2 u (cutT u (gap ts us).1) (gap ts us).2 := rfl
theorem gap_ok {ρ : Rho} {ts : List Trm} {n : Nat} (h : LE ρ ts n) : ∀ {us : List Trm} {m : Nat}, LE ρ us m → ∃ n', LE ρ (gap ts us).1 n' ∧ n + (gap ts us).2 ≤ n' + m
  | [], m, hm => ⟨n, h, by show n + 0 ≤ n + m; omega⟩
  | u :: us, m, hm => by
    obtain ⟨b, m0, h1, h2, rfl⟩ := hm.inv
    obtain ⟨n0, g1, g2⟩ := gap_ok h h2
    obtain ⟨d, c, e1, e2, e3, rfl⟩ := h1
    obtain ⟨n1, y, k1, k2, k3⟩ := cutT_ok e1 g1
    rw [gap_cons]
    unfold gap2
    have hx : u.a * d = (cutT u (gap ts us).1).2 * d + y * d := by rw [← Nat.add_mul, ← k3]
    cases h0 : is0 u.lo with
    | true =>
      rw [bcase_true]
      refine ⟨n1, k1, ?_⟩
      show n + (gap ts us).2 ≤ _
      rw [hx]; omega
    | false =>
      rw [bcase_false]
      rcases e3 with e3 | ⟨d', c', e3, e4⟩
      · have : is0 u.lo = true := nbeq_iff.2 e3
        rw [this] at h0; cases h0
      · obtain ⟨n2, f1, f2, f3⟩ := cutLo_ok (x := (cutT u (gap ts us).1).2) e3 k1
        refine ⟨n2, f1, ?_⟩
        show n + ((gap ts us).2 + (cutLo u.lo (cutT u (gap ts us).1).2 (cutT u (gap ts us).1).1).2) ≤ _
        have hq : (cutLo u.lo (cutT u (gap ts us).1).2 (cutT u (gap ts us).1).1).2 * d' + (cutLo u.lo (cutT u (gap ts us).1).2 (cutT u (gap ts us).1).1).2 ≤ (cutT u (gap ts us).1).2 * d := by
          refine Nat.le_trans ?_ (Nat.mul_le_mul f3 (Nat.le_refl d))
          have := Nat.mul_le_mul_left (cutLo u.lo (cutT u (gap ts us).1).2 (cutT u (gap ts us).1).1).2 (show d' + 1 ≤ d from e4)
          rw [Nat.mul_add, Nat.mul_one] at this
          exact this
        rw [hx]; omega
theorem leP_ok {ρ : Rho} {x c c' : Nat} {ts us : List Trm} {n m : Nat} (h : leP x c ts c' us = true) (hn : LE ρ ts n) (hm : LE ρ us m) : c + n + x ≤ c' + m := by
  have h : c + x + maxT (gap ts us).1 ≤ c' + (gap ts us).2 := Nat.le_of_ble_eq_true h
  obtain ⟨n', g1, g2⟩ := gap_ok hn hm
  have := g1.le
  omega
theorem ltS_ok {ρ : Rho} {c c' : Nat} {ts us : List Trm} {n m : Nat} {r : Bool} (h : ltS c ts c' us = some r) (hn : LE ρ ts n) (hm : LE ρ us m) : r = decide (c + n < c' + m) := by
  unfold ltS at h
  cases h1 : leP 1 c ts c' us with
  | true =>
    rw [h1, bcase_true] at h; cases h
    have := leP_ok h1 hn hm
    exact (decide_eq_true (by omega)).symm
  | false =>
    rw [h1, bcase_false] at h
    obtain ⟨h2, h⟩ := bcase_none_iff.1 h
    cases h
    have := leP_ok h2 hm hn
    exact (decide_eq_false (by omega)).symm
theorem LE.same {ρ : Rho} : ∀ {ts : List Trm} {n m : Nat}, LE ρ ts n → LE ρ ts m → n = m
  | [], _, _, h, k => by rw [show _ = 0 from h, show _ = 0 from k]
  | t :: ts, n, m, h, k => by
    obtain ⟨d, c, n', h1, _, _, h4, rfl⟩ := h
    obtain ⟨d', c', m', k1, _, _, k4, rfl⟩ := k
    rw [h1] at k1; cases k1
    rw [LE.same h4 k4]
theorem eqS_ok {ρ : Rho} {c c' : Nat} {ts us : List Trm} {n m : Nat} {r : Bool} (h : eqS c ts c' us = some r) (hn : LE ρ ts n) (hm : LE ρ us m) : r = decide (c + n = c' + m) := by
  unfold eqS at h
  cases h0 : bcase (Nat.beq c c') (beqT ts us) false with
  | true =>
    rw [h0, bcase_true] at h; cases h
    rw [bcase_and, Bool.and_eq_true, nbeq_iff] at h0
    have := beqT_eq _ _ h0.2
    subst this
    exact (decide_eq_true (by rw [h0.1, hn.same hm])).symm
  | false =>
    rw [h0, bcase_false] at h
    cases h1 : leP 1 c ts c' us with
    | true =>
      rw [h1, bcase_true] at h; cases h
      have := leP_ok h1 hn hm
      exact (decide_eq_false (by omega)).symm
    | false =>
      rw [h1, bcase_false] at h
      obtain ⟨h2, h⟩ := bcase_none_iff.1 h
      cases h
      have := leP_ok (x := 1) h2 hm hn
      exact (decide_eq_false (by omega)).symm
theorem VR.sint_iff {ρ : Rho} {k : IntKind} {c : Nat} {ts : List Trm} {v : Value} : VR ρ (.sint k c ts) v ↔ ∃ m : Nat, v = .int k ((c + m : Nat) : Int) ∧ LE ρ ts m ∧ c + maxT ts ≤ maxs k := by simp only [VR]
theorem VR.sneg_iff {ρ : Rho} {k : IntKind} {c : Nat} {ts : List Trm} {v : Value} : VR ρ (.sneg k c ts) v ↔ ∃ m : Nat, v = .int k (-((c + m : Nat) : Int)) ∧ LE ρ ts m ∧ c + maxT ts ≤ maxs k := by simp only [VR]
theorem VR.sstr_iff {ρ : Rho} {l : List AV} {v : Value} : VR ρ (.sstr l) v ↔ ∃ s : List UInt8, v = .string ⟨⟨s⟩⟩ ∧ VRL ρ l (s.map fun x => .int .u8 (x.toNat : Int)) := by simp only [VR]
theorem VR.nat {ρ : Rho} {k : IntKind} {c : Nat} (h : c ≤ maxs k) : VR ρ (.int k c) (.int k (c : Int)) := VR.int_iff.2 ⟨by rw [sg_nat h], by have := maxs_le k; omega⟩
theorem mkS_ok {ρ : Rho} {k : IntKind} {c m : Nat} {ts : List Trm} {v : AV} (h : mkS k c ts = some v) (hm : LE ρ ts m) : VR ρ v (.int k ((c + m : Nat) : Int)) ∧ c + m ≤ maxs k := by
  unfold mkS at h
  obtain ⟨h1, h⟩ := bcase_none_iff.1 h
  have h1 : c + maxT ts ≤ maxs k := Nat.le_of_ble_eq_true h1
  have := hm.le
  refine ⟨?_, by omega⟩
  cases ts with
  | nil =>
    cases h
    rw [show m = 0 from hm, Nat.add_zero]
    exact VR.nat (by omega)
  | cons t ts => cases h; exact VR.sint_iff.2 ⟨m, rfl, hm, h1⟩
theorem linOf_ok {ρ : Rho} {x : AV} {v : Value} {p : IntKind × Nat × List Trm} (h : linOf x = some p) (hx : VR ρ x v) : ∃ m : Nat, v = .int p.1 ((p.2.1 + m : Nat) : Int) ∧ LE ρ p.2.2 m ∧ p.2.1 + maxT p.2.2 ≤ maxs p.1 := by
  cases x with
  | int k m =>
    have h : bcase (isPos k m) (some (k, m, [])) none = some p := h
    obtain ⟨h1, h⟩ := bcase_none_iff.1 h
    cases h
    obtain ⟨rfl, h2⟩ := VR.int_iff.1 hx
    exact ⟨0, by rw [sg_pos h1]; rfl, LE.nil, (isPos_iff k m).1 h1⟩
  | sint k c ts => cases h; exact VR.sint_iff.1 hx
  | _ => cases h
theorem maxs_maxu (k : IntKind) : maxs k ≤ maxu k := maxs_le k
theorem okp_res {ρ : Rho} {w : World} {k : IntKind} {r : Nat} {v : AV} {s : Sem Value} (h : OkP ρ w P (.int k r) s) (hr : r ≤ maxs k) (hv : VR ρ v (.int k (r : Int))) : OkP ρ w P v s := by
  obtain ⟨v', h1, h2⟩ := h
  obtain ⟨rfl, _⟩ := VR.int_iff.1 h2
  rw [sg_nat hr] at h1
  exact ⟨_, h1, hv⟩
theorem norm_id {k : IntKind} {x : Nat} (h : x ≤ maxs k) : norm k x = x := by
  unfold norm
  rw [show Nat.ble x (maxu k) = true from Nat.ble_eq_true_of_le (Nat.le_trans h (maxs_le k)), bcase_true]
theorem pos2_of {k : IntKind} {a b : Nat} (ha : a ≤ maxs k) (hb : b ≤ maxs k) : pos2 k a b = true := pos2_iff.2 ⟨(isPos_iff _ _).2 ha, (isPos_iff _ _).2 hb⟩
theorem nlt_pos {k : IntKind} {a b : Nat} (ha : a ≤ maxs k) (hb : b ≤ maxs k) : nlt k a b = decide (a < b) := by
  unfold nlt
  rw [(isPos_iff _ _).2 ha, (isPos_iff _ _).2 hb, bcase_true, bcase_true, nle1_eq]
theorem beq_dec (a b : Nat) : Nat.beq a b = decide (a = b) := by rw [Bool.eq_iff_iff, nbeq_iff, decide_eq_true_iff]

theorem linOp_ok {ρ : Rho} {w : World} {op : BinOp} {t : TypeId} {k : IntKind} {c d n m : Nat} {ts us : List Trm} {v : AV} (hn : LE ρ ts n) (hm : LE ρ us m) (hc : c + maxT ts ≤ maxs k) (hd : d + maxT us ≤ maxs k)
    (h : linOp op k c ts d us = some v) : OkP ρ w P v (binOp op t (.int k ((c + n : Nat) : Int)) (.int k ((d + m : Nat) : Int))) := by
  have hn1 := hn.le
  have hm1 := hm.le
  have ha : c + n ≤ maxs k := by omega
  have hb : d + m ≤ maxs k := by omega
  have hau := Nat.le_trans ha (maxs_le k)
  have hbu := Nat.le_trans hb (maxs_le k)
  have base := fun (op : BinOp) (v : AV) (h : intOp op k (c + n) (d + m) = some v) => intOp_ok (P := P) (ρ := ρ) (w := w) op t k (c + n) (d + m) v hau hbu h
  rw [sg_nat ha, sg_nat hb] at base
  have div : ∀ {e : Option AV}, lDiv k e c ts d us = some v → us = [] ∧ d ≠ 0 ∧ c % d + maxT (remT d ts) < d ∧ e = some v := by
    intro e h
    unfold lDiv at h
    cases us with
    | cons _ _ => cases h
    | nil =>
      rw [lcase_nil] at h
      obtain ⟨h1, h⟩ := bcase_none_iff'.1 h
      obtain ⟨h2, h⟩ := bcase_none_iff.1 h
      rw [nle1_eq, decide_eq_true_iff] at h2
      exact ⟨rfl, (fun q => by rw [q] at h1; cases h1), h2, h⟩
  have parts : us = [] → d ≠ 0 → c % d + maxT (remT d ts) < d → ∃ q r, LE ρ (quoT d ts) q ∧ LE ρ (remT d ts) r ∧ m = 0 ∧ (c + n) / d = c / d + q ∧ (c + n) % d = c % d + r := by
    intro e0 h1 h2
    subst e0
    obtain ⟨q, r, g1, g2, g3⟩ := splitT_ok d hn
    have := g2.le
    have h3 := Nat.div_add_mod c d
    have e : c + n = (c % d + r) + d * (c / d + q) := by rw [Nat.mul_add]; omega
    have hlt : c % d + r < d := by omega
    refine ⟨q, r, g1, g2, hm, ?_, ?_⟩
    · rw [e, Nat.add_mul_div_left _ _ (by omega), Nat.div_eq_of_lt hlt, Nat.zero_add]
    · rw [e, Nat.add_mul_mod_self_left, Nat.mod_eq_of_lt hlt]
  have cmpB : ∀ (op : BinOp) (q r : Bool), intOp op k (c + n) (d + m) = some (.bool q) → q = r → v = .bool r → OkP ρ w P v (binOp op t (.int k ((c + n : Nat) : Int)) (.int k ((d + m : Nat) : Int))) := by
    intro op q r h1 h2 h3
    subst h2; subst h3
    exact base op _ h1
  have mkBi : ∀ {r : Option Bool}, mkB r = some v → ∃ b, r = some b ∧ v = .bool b := by
    intro r h; obtain ⟨b, h1, h2⟩ := ocase_some_iff.1 h; cases h2; exact ⟨b, h1, rfl⟩
  have mkNi : ∀ {r : Option Bool}, mkN r = some v → ∃ b, r = some b ∧ v = .bool (!b) := by
    intro r h; obtain ⟨b, h1, h2⟩ := ocase_some_iff.1 h; cases h2; exact ⟨b, h1, rfl⟩
  cases op with
  | add =>
    obtain ⟨h1, h2⟩ := mkS_ok h (addT_ok hm hn)
    have e : c + d + (n + m) = c + n + (d + m) := by omega
    have h1 : VR ρ v (.int k ((c + d + (n + m) : Nat) : Int)) := h1
    have h2 : c + d + (n + m) ≤ maxs k := h2
    rw [e] at h1 h2
    have hb := base .add (.int k (nadd k (c + n) (d + m))) rfl
    have en : nadd k (c + n) (d + m) = c + n + (d + m) := norm_id h2
    rw [en] at hb
    exact okp_res hb h2 h1
  | sub =>
    have h : bcase (Nat.ble d c) (ocase (subT us ts) none fun r => mkS k (Nat.sub c d) r) none = some v := h
    obtain ⟨h0, h⟩ := bcase_none_iff.1 h
    have h0 := Nat.le_of_ble_eq_true h0
    obtain ⟨r, hr, h⟩ := ocase_some_iff.1 h
    obtain ⟨q, g1, g2⟩ := subT_ok hn hm hr
    obtain ⟨h1, h2⟩ := mkS_ok h g1
    have h1 : VR ρ v (.int k ((c - d + q : Nat) : Int)) := h1
    have h2 : c - d + q ≤ maxs k := h2
    have e : c - d + q = c + n - (d + m) := by omega
    rw [e] at h1 h2
    have hb := base .sub (.int k (nsub k (c + n) (d + m))) rfl
    have en : nsub k (c + n) (d + m) = c + n - (d + m) := by
      unfold nsub
      rw [show Nat.ble (d + m) (c + n) = true from Nat.ble_eq_true_of_le (by omega), bcase_true]; rfl
    rw [en] at hb
    exact okp_res hb h2 h1
  | mul =>
    have hb := base .mul (.int k (norm k ((c + n) * (d + m)))) (by show iMul k _ _ = _; unfold iMul; rw [pos2_of ha hb, bcase_true]; rfl)
    have fin : ∀ r : Nat, r = (c + n) * (d + m) → r ≤ maxs k → VR ρ v (.int k (r : Int)) → OkP ρ w P v (binOp .mul t (.int k ((c + n : Nat) : Int)) (.int k ((d + m : Nat) : Int))) := by
      intro r e h1 h2
      subst e
      rw [norm_id h1] at hb
      exact okp_res hb h1 h2
    have h : lMul k c ts d us = some v := h
    unfold lMul at h
    cases us with
    | nil =>
      rw [lcase_nil] at h
      unfold lMul1 at h
      obtain ⟨_, h⟩ := bcase_none_iff'.1 h
      obtain ⟨h1, h2⟩ := mkS_ok h (mulT_ok d hn)
      have e : Nat.mul d c + d * n = (c + n) * (d + m) := by
        rw [show m = 0 from hm, Nat.add_zero, Nat.mul_comm (c + n), Nat.mul_add]; rfl
      exact fin _ e h2 h1
    | cons u us =>
      rw [lcase_cons] at h
      cases ts with
      | cons _ _ => cases h
      | nil =>
        rw [lcase_nil] at h
        unfold lMul1 at h
        obtain ⟨_, h⟩ := bcase_none_iff'.1 h
        obtain ⟨h1, h2⟩ := mkS_ok h (mulT_ok c hm)
        have e : Nat.mul c d + c * m = (c + n) * (d + m) := by
          rw [show n = 0 from hn, Nat.add_zero, Nat.mul_add]; rfl
        exact fin _ e h2 h1
  | quo =>
    obtain ⟨rfl, h0, h1, h2⟩ := div h
    obtain ⟨q, r, g1, g2, rfl, g3, g4⟩ := parts rfl h0 h1
    obtain ⟨k1, k2⟩ := mkS_ok h2 g1
    have k1 : VR ρ v (.int k ((c / d + q : Nat) : Int)) := k1
    have k2 : c / d + q ≤ maxs k := k2
    rw [← g3] at k1 k2
    refine okp_res (base .quo (.int k ((c + n) / d)) ?_) k2 k1
    show iQuo k _ _ = _
    unfold iQuo
    have e0 : Nat.beq (d + 0) 0 = false := by
      cases hb : Nat.beq (d + 0) 0 with
      | false => rfl
      | true => have := nbeq_iff.1 hb; omega
    rw [e0, bcase_false, pos2_of ha hb, bcase_true]; rfl
  | rem =>
    obtain ⟨rfl, h0, h1, h2⟩ := div h
    obtain ⟨q, r, g1, g2, rfl, g3, g4⟩ := parts rfl h0 h1
    obtain ⟨k1, k2⟩ := mkS_ok h2 g2
    have k1 : VR ρ v (.int k ((c % d + r : Nat) : Int)) := k1
    have k2 : c % d + r ≤ maxs k := k2
    rw [← g4] at k1 k2
    refine okp_res (base .rem (.int k ((c + n) % d)) ?_) k2 k1
    show iRem k _ _ = _
    unfold iRem
    have e0 : Nat.beq (d + 0) 0 = false := by
      cases hb : Nat.beq (d + 0) 0 with
      | false => rfl
      | true => have := nbeq_iff.1 hb; omega
    rw [e0, bcase_false, pos2_of ha hb, bcase_true]; rfl
  | eql =>
    obtain ⟨b, h1, h2⟩ := mkBi h
    exact cmpB .eql (Nat.beq (c + n) (d + m)) b rfl (by rw [eqS_ok h1 hn hm, beq_dec]) h2
  | neq =>
    obtain ⟨b, h1, h2⟩ := mkNi h
    exact cmpB .neq (!(Nat.beq (c + n) (d + m))) (!b) rfl (by rw [eqS_ok h1 hn hm, beq_dec]) h2
  | lss =>
    obtain ⟨b, h1, h2⟩ := mkBi h
    exact cmpB .lss (nlt k (c + n) (d + m)) b rfl (by rw [ltS_ok h1 hn hm, nlt_pos ha hb]) h2
  | leq =>
    obtain ⟨b, h1, h2⟩ := mkNi h
    exact cmpB .leq (!(nlt k (d + m) (c + n))) (!b) rfl (by rw [ltS_ok h1 hm hn, nlt_pos hb ha]) h2
  | gtr =>
    obtain ⟨b, h1, h2⟩ := mkBi h
    exact cmpB .gtr (nlt k (d + m) (c + n)) b rfl (by rw [ltS_ok h1 hm hn, nlt_pos hb ha]) h2
  | geq =>
    obtain ⟨b, h1, h2⟩ := mkNi h
    exact cmpB .geq (!(nlt k (c + n) (d + m))) (!b) rfl (by rw [ltS_ok h1 hn hm, nlt_pos ha hb]) h2
  | _ => cases h

abbrev bv (s : List UInt8) : List Value := s.map fun b => Value.int .u8 (b.toNat : Int)
theorem VRL.len_bv' {ρ : Rho} {l : List AV} {s : List UInt8} (h : VRL ρ l (bv s)) : s.length = l.length := by have := h.length; simpa [bv] using this
theorem strL_ok {ρ : Rho} {x : AV} {v : Value} {l : List AV} (h : strL x = some l) (hx : VR ρ x v) : ∃ s : List UInt8, v = .string ⟨⟨s⟩⟩ ∧ VRL ρ l (bv s) := by
  cases x with
  | str n bits =>
    cases h
    obtain ⟨s, rfl, h1, h2⟩ := VR.str_iff.1 hx
    exact ⟨s, rfl, by rw [← h1, ← h2]; exact bytesL_VR s⟩
  | sstr l' => cases h; exact VR.sstr_iff.1 hx
  | _ => cases h
theorem mkStr_ok {ρ : Rho} {l : List AV} {s : List UInt8} {v : AV} (h : mkStr l = some v) (hl : VRL ρ l (bv s)) : VR ρ v (.string ⟨⟨s⟩⟩) := by
  unfold mkStr at h
  cases hu : unbytes l with
  | none =>
    rw [hu, ocase_none] at h
    obtain ⟨_, h⟩ := bcase_none_iff.1 h
    cases h
    exact VR.sstr_iff.2 ⟨s, rfl, hl⟩
  | some b =>
    rw [hu, ocase_some] at h; cases h
    obtain ⟨bs, h1, h2, h3⟩ := unbytes_ok hl hu
    have e : s = bs := by
      have inj : ∀ (a b : List UInt8), bv a = bv b → a = b := by
        intro a
        induction a with
        | nil => intro b hb; cases b with | nil => rfl | cons _ _ => cases hb
        | cons x a ih =>
          intro b hb
          cases b with
          | nil => cases hb
          | cons y b =>
            injection hb with g1 g2
            injection g1 with _ g3
            have hxy : x = y := UInt8.toNat_inj.1 (by omega)
            rw [hxy, ih b g2]
      exact inj _ _ h1
    subst e
    exact VR.str_iff.2 ⟨s, rfl, by rw [lenL_eq, h3], h2⟩
theorem allByte_ok {ρ : Rho} : ∀ {l : List AV} {vs : List Value}, allByte l = true → VRL ρ l vs → ∃ bs : List UInt8, vs = bv bs
  | [], vs, _, hv => ⟨[], VRL.nil_iff.1 hv⟩
  | a :: l, vs, h, hv => by
    have h : bcase (isByte a) (allByte l) false = true := h
    rw [bcase_and, Bool.and_eq_true] at h
    obtain ⟨u, us, rfl, g1, g2⟩ := VRL.cons_iff.1 hv
    obtain ⟨bs, rfl⟩ := allByte_ok h.2 g2
    have h1 := h.1
    unfold isByte at h1
    cases hp : linOf a with
    | none => rw [hp] at h1; cases h1
    | some p =>
      rw [hp, ocase_some] at h1
      have hk := kcode_inj h1
      obtain ⟨m, rfl, g3, g4⟩ := linOf_ok hp g1
      rw [hk] at g4 ⊢
      have g4 : p.2.1 + maxT p.2.2 ≤ 255 := g4
      have := g3.le
      have e : (UInt8.ofNat (p.2.1 + m)).toNat = p.2.1 + m := by simp; omega
      exact ⟨UInt8.ofNat (p.2.1 + m) :: bs, by show _ = Value.int .u8 (((UInt8.ofNat (p.2.1 + m)).toNat : Nat) : Int) :: bv bs; rw [e]⟩
theorem mkStr_bytes {ρ : Rho} {l : List AV} {vs : List Value} {v : AV} (h : mkStr l = some v) (hv : VRL ρ l vs) : ∃ bs : List UInt8, vs = bv bs ∧ VR ρ v (.string ⟨⟨bs⟩⟩) ∧ bs.length = l.length := by
  have fin : ∀ bs : List UInt8, vs = bv bs → ∃ bs : List UInt8, vs = bv bs ∧ VR ρ v (.string ⟨⟨bs⟩⟩) ∧ bs.length = l.length := fun bs e => by
    subst e; exact ⟨bs, rfl, mkStr_ok h hv, hv.len_bv'⟩
  have h0 := h
  unfold mkStr at h0
  cases hu : unbytes l with
  | none =>
    rw [hu, ocase_none] at h0
    obtain ⟨h1, _⟩ := bcase_none_iff.1 h0
    obtain ⟨bs, e⟩ := allByte_ok h1 hv
    exact fin bs e
  | some b =>
    obtain ⟨bs, e, _⟩ := unbytes_ok hv hu
    exact fin bs e
theorem eqB_ok {ρ : Rho} {a b : AV} {x y : UInt8} {r : Bool} (h : eqB a b = some r) (ha : VR ρ a (.int .u8 (x.toNat : Int))) (hb : VR ρ b (.int .u8 (y.toNat : Int))) : r = decide (x = y) := by
  unfold eqB at h
  obtain ⟨p, h1, h⟩ := ocase_some_iff.1 h
  obtain ⟨q, h2, h⟩ := ocase_some_iff.1 h
  obtain ⟨n, e1, g1, _⟩ := linOf_ok h1 ha
  obtain ⟨m, e2, g2, _⟩ := linOf_ok h2 hb
  injection e1 with _ e1
  injection e2 with _ e2
  rw [eqS_ok h g1 g2, Bool.eq_iff_iff, decide_eq_true_iff, decide_eq_true_iff]
  exact ⟨fun e => UInt8.toNat_inj.1 (by omega), fun e => by subst e; omega⟩
theorem ltB_ok {ρ : Rho} {a b : AV} {x y : UInt8} {r : Bool} (h : ltB a b = some r) (ha : VR ρ a (.int .u8 (x.toNat : Int))) (hb : VR ρ b (.int .u8 (y.toNat : Int))) : r = decide (x < y) := by
  unfold ltB at h
  obtain ⟨p, h1, h⟩ := ocase_some_iff.1 h
  obtain ⟨q, h2, h⟩ := ocase_some_iff.1 h
  obtain ⟨n, e1, g1, _⟩ := linOf_ok h1 ha
  obtain ⟨m, e2, g2, _⟩ := linOf_ok h2 hb
  injection e1 with _ e1
  injection e2 with _ e2
  rw [ltS_ok h g1 g2, Bool.eq_iff_iff, decide_eq_true_iff, decide_eq_true_iff, UInt8.lt_iff_toNat_lt]
  omega
theorem eqLs0_cons (a : AV) (l : List AV) (b : AV) (m : List AV) : eqLs0 (a :: l) (b :: m) = ocase (eqB a b) none fun r => bcase r (eqLs0 l m) (some false) := rfl
theorem ltLs_cons (a : AV) (l : List AV) (b : AV) (m : List AV) : ltLs (a :: l) (b :: m) = ocase (eqB a b) none fun r => bcase r (ltLs l m) (ltB a b) := rfl
theorem eqLs0_ok {ρ : Rho} : ∀ {l m : List AV} {s t : List UInt8} {r : Bool}, eqLs0 l m = some r → VRL ρ l (bv s) → VRL ρ m (bv t) → r = (s == t)
  | [], [], s, t, r, h, hl, hm => by
    cases h
    cases s with | cons _ _ => exact absurd (VRL.nil_iff.1 hl) (by simp) | nil => cases t with | cons _ _ => exact absurd (VRL.nil_iff.1 hm) (by simp) | nil => rfl
  | [], b :: m, s, t, r, h, hl, hm => by
    cases h
    cases s with | cons _ _ => exact absurd (VRL.nil_iff.1 hl) (by simp) | nil => cases t with | nil => exact absurd hm (by intro q; obtain ⟨_, _, e, _⟩ := VRL.cons_iff.1 q; cases e) | cons _ _ => rfl
  | a :: l, [], s, t, r, h, hl, hm => by
    cases h
    cases t with | cons _ _ => exact absurd (VRL.nil_iff.1 hm) (by simp) | nil => cases s with | nil => exact absurd hl (by intro q; obtain ⟨_, _, e, _⟩ := VRL.cons_iff.1 q; cases e) | cons _ _ => rfl
  | a :: l, b :: m, s, t, r, h, hl, hm => by
    obtain ⟨u, us, e1, g1, g2⟩ := VRL.cons_iff.1 hl
    obtain ⟨v, vs, e2, g3, g4⟩ := VRL.cons_iff.1 hm
    cases s with
    | nil => cases e1
    | cons x s =>
      cases t with
      | nil => cases e2
      | cons y t =>
        injection e1 with e1 e3
        injection e2 with e2 e4
        subst e1; subst e2; subst e3; subst e4
        rw [eqLs0_cons] at h
        obtain ⟨q, h1, h⟩ := ocase_some_iff.1 h
        have hq := eqB_ok h1 g1 g3
        cases q with
        | true =>
          rw [bcase_true] at h
          have hxy : x = y := of_decide_eq_true hq.symm
          rw [eqLs0_ok h g2 g4, hxy]
          simp
        | false =>
          rw [bcase_false] at h; cases h
          have hxy : ¬ x = y := of_decide_eq_false hq.symm
          simp [hxy]
theorem eqLs_ok {ρ : Rho} {l m : List AV} {s t : List UInt8} {r : Bool} (h : eqLs l m = some r) (hl : VRL ρ l (bv s)) (hm : VRL ρ m (bv t)) : r = (s == t) := by
  unfold eqLs at h
  cases hc : Nat.beq (lenL l) (lenL m) with
  | true => rw [hc, bcase_true] at h; exact eqLs0_ok h hl hm
  | false =>
    rw [hc, bcase_false] at h
    cases h
    have h1 := hl.length
    have h2 := hm.length
    unfold bv at h1 h2
    rw [List.length_map] at h1 h2
    symm
    rw [beq_eq_false_iff_ne]
    intro e
    subst e
    rw [lenL_eq, lenL_eq, ← h1, ← h2, Nat.beq_refl] at hc
    cases hc
theorem ltLs_ok {ρ : Rho} : ∀ {l m : List AV} {s t : List UInt8} {r : Bool}, ltLs l m = some r → VRL ρ l (bv s) → VRL ρ m (bv t) → r = Op.bytesLess s t
  | [], [], s, t, r, h, hl, hm => by
    cases h
    cases s with | cons _ _ => exact absurd (VRL.nil_iff.1 hl) (by simp) | nil => cases t with | cons _ _ => exact absurd (VRL.nil_iff.1 hm) (by simp) | nil => rfl
  | [], b :: m, s, t, r, h, hl, hm => by
    cases h
    cases s with | cons _ _ => exact absurd (VRL.nil_iff.1 hl) (by simp) | nil => cases t with | nil => exact absurd hm (by intro q; obtain ⟨_, _, e, _⟩ := VRL.cons_iff.1 q; cases e) | cons _ _ => rfl
  | a :: l, [], s, t, r, h, hl, hm => by
    cases h
    cases t with | cons _ _ => exact absurd (VRL.nil_iff.1 hm) (by simp) | nil => cases s <;> rfl
  | a :: l, b :: m, s, t, r, h, hl, hm => by
    obtain ⟨u, us, e1, g1, g2⟩ := VRL.cons_iff.1 hl
    obtain ⟨v, vs, e2, g3, g4⟩ := VRL.cons_iff.1 hm
    cases s with
    | nil => cases e1
    | cons x s =>
      cases t with
      | nil => cases e2
      | cons y t =>
        injection e1 with e1 e3
        injection e2 with e2 e4
        subst e1; subst e2; subst e3; subst e4
        rw [ltLs_cons] at h
        obtain ⟨q, h1, h⟩ := ocase_some_iff.1 h
        have hq := eqB_ok h1 g1 g3
        show r = (decide (x < y) || (x == y && Op.bytesLess s t))
        cases q with
        | true =>
          rw [bcase_true] at h
          have hxy : x = y := of_decide_eq_true hq.symm
          rw [ltLs_ok h g2 g4, hxy]
          simp
        | false =>
          rw [bcase_false] at h
          have hxy : ¬ x = y := of_decide_eq_false hq.symm
          rw [ltB_ok h g1 g3]
          simp [hxy]
theorem bytesLess_flip : ∀ (a b : List UInt8), Op.bytesLess b a = !(Op.bytesLess a b || a == b)
  | [], [] => rfl
  | [], _ :: _ => rfl
  | _ :: _, [] => rfl
  | x :: a, y :: b => by
    show (decide (y < x) || (y == x && Op.bytesLess b a)) = !((decide (x < y) || (x == y && Op.bytesLess a b)) || (x :: a) == (y :: b))
    have ih := bytesLess_flip a b
    by_cases h : x = y
    · subst h
      simp [ih]
    · have h2 : ¬ y = x := fun e => h e.symm
      have h3 : x.toNat ≠ y.toNat := fun e => h (UInt8.toNat_inj.1 e)
      simp only [h, h2, beq_iff_eq, decide_false, Bool.false_and, Bool.or_false, List.cons_beq_cons, show (x == y) = false by simp [h], show (y == x) = false by simp [h2]]
      rw [Bool.eq_iff_iff]
      simp only [decide_eq_true_iff, Bool.not_eq_true', decide_eq_false_iff_not, UInt8.lt_iff_toNat_lt]
      omega
theorem bv_append (s t : List UInt8) : bv s ++ bv t = bv (s ++ t) := by simp [bv]
theorem VRL.len_bv {ρ : Rho} {l : List AV} {s : List UInt8} (h : VRL ρ l (bv s)) : s.length = l.length := by have := h.length; simpa [bv] using this
theorem txtOp_ok {ρ : Rho} {w : World} {op : BinOp} {t : TypeId} {l m : List AV} {a b : List UInt8} {v : AV} (hl : VRL ρ l (bv a)) (hm : VRL ρ m (bv b)) (h : txtOp op l m = some v) : OkP ρ w P v (binOp op t (.string ⟨⟨a⟩⟩) (.string ⟨⟨b⟩⟩)) := by
  have base := fun (op : BinOp) (v : AV) (h : strOp op a.length (pack a) b.length (pack b) = some v) => strOp_ok (P := P) (ρ := ρ) (w := w) op t a b v h
  have cmpB : ∀ (op : BinOp) (q r : Bool), strOp op a.length (pack a) b.length (pack b) = some (.bool q) → q = r → v = .bool r → OkP ρ w P v (binOp op t (.string ⟨⟨a⟩⟩) (.string ⟨⟨b⟩⟩)) := by
    intro op q r h1 h2 h3
    subst h2; subst h3
    exact base op _ h1
  have mkBi : ∀ {r : Option Bool}, mkB r = some v → ∃ b, r = some b ∧ v = .bool b := by
    intro r h; obtain ⟨b, h1, h2⟩ := ocase_some_iff.1 h; cases h2; exact ⟨b, h1, rfl⟩
  have mkNi : ∀ {r : Option Bool}, mkN r = some v → ∃ b, r = some b ∧ v = .bool (!b) := by
    intro r h; obtain ⟨b, h1, h2⟩ := ocase_some_iff.1 h; cases h2; exact ⟨b, h1, rfl⟩
  cases op with
  | add =>
    have h : bcase (Nat.ble (Nat.add (lenL l) (lenL m)) 1000000) (mkStr (l ++ m)) none = some v := h
    obtain ⟨h1, h⟩ := bcase_none_iff.1 h
    have h1 : lenL l + lenL m ≤ 1000000 := Nat.le_of_ble_eq_true h1
    rw [lenL_eq, lenL_eq, ← hl.len_bv, ← hm.len_bv] at h1
    have h2 : Nat.ble (Nat.add a.length b.length) 1000000 = true := Nat.ble_eq_true_of_le h1
    obtain ⟨v', g1, g2⟩ := base .add (.str (Nat.add a.length b.length) (cat a.length (pack a) (pack b))) (by
      show sAdd _ _ _ _ = _
      unfold sAdd
      rw [h2, bcase_true])
    obtain ⟨s, rfl, g3, g4⟩ := VR.str_iff.1 g2
    rw [cat_eq] at g4
    have : s = a ++ b := pack_inj _ _ (by rw [g3, List.length_append]; rfl) g4
    subst this
    exact ⟨_, g1, mkStr_ok h (by rw [← bv_append]; exact hl.append hm)⟩
  | eql =>
    obtain ⟨r, h1, h2⟩ := mkBi h
    exact cmpB .eql _ r rfl (by rw [eqLs_ok h1 hl hm, seq_eq]) h2
  | neq =>
    obtain ⟨r, h1, h2⟩ := mkNi h
    exact cmpB .neq _ (!r) rfl (by rw [eqLs_ok h1 hl hm, seq_eq]) h2
  | lss =>
    obtain ⟨r, h1, h2⟩ := mkBi h
    exact cmpB .lss _ r rfl (by rw [ltLs_ok h1 hl hm, slt_eq]) h2
  | gtr =>
    obtain ⟨r, h1, h2⟩ := mkBi h
    refine cmpB .gtr _ r rfl ?_ h2
    rw [ltLs_ok h1 hm hl, bor_case, slt_eq, seq_eq]; exact (bytesLess_flip a b).symm
  | leq =>
    obtain ⟨r, h1, h2⟩ := mkNi h
    refine cmpB .leq _ (!r) rfl ?_ h2
    rw [ltLs_ok h1 hm hl, bor_case, slt_eq, seq_eq, bytesLess_flip a b, Bool.not_not]
  | geq =>
    obtain ⟨r, h1, h2⟩ := mkNi h
    exact cmpB .geq _ (!r) rfl (by rw [ltLs_ok h1 hl hm, slt_eq]) h2
  | _ => cases h

theorem isSym_int {k : IntKind} {m : Nat} : isSym (.int k m) = false := rfl
theorem neg_lt {ρ : Rho} {x : AV} {v : Value} {k : IntKind} (h : negOf x = some k) (hx : VR ρ x v) : ∃ m : Nat, v = .int k (sg k m) ∧ m ≤ maxu k ∧ isPos k m = false := by
  cases x with
  | int k' m =>
    have h : bcase (isPos k' m) none (some k') = some k := h
    obtain ⟨h1, h⟩ := bcase_none_iff'.1 h
    cases h
    obtain ⟨rfl, h2⟩ := VR.int_iff.1 hx
    exact ⟨m, rfl, h2, h1⟩
  | _ => cases h
theorem symE_ok {ρ : Rho} {w : World} {op : BinOp} {t : TypeId} {x y v : AV} {x' y' : Value} (hx : VR ρ x x') (hy : VR ρ y y') (h : symE op x y = some v) : OkP ρ w P v (binOp op t x' y') := by
  have con : ∀ (k : IntKind) (a b : Nat), a ≤ maxu k → b ≤ maxu k → isPos k a = false → isPos k b = true → ∀ v, (ltC op = some v → OkP ρ w P v (binOp op t (.int k (sg k a)) (.int k (sg k b)))) ∧ (gtC op = some v → OkP ρ w P v (binOp op t (.int k (sg k b)) (.int k (sg k a)))) := by
    intro k a b ha hb h1 h2 v
    have hne : Nat.beq a b = false := by
      cases hq : Nat.beq a b with
      | false => rfl
      | true => rw [nbeq_iff.1 hq, h2] at h1; cases h1
    have hne2 : Nat.beq b a = false := by
      cases hq : Nat.beq b a with
      | false => rfl
      | true => rw [nbeq_iff.1 hq, h1] at h2; cases h2
    have l1 : nlt k a b = true := by unfold nlt; rw [h1, h2]; rfl
    have l2 : nlt k b a = false := by unfold nlt; rw [h1, h2]; rfl
    have b1 := fun (r : Bool) (h : intOp op k a b = some (.bool r)) => intOp_ok (P := P) (ρ := ρ) (w := w) op t k a b _ ha hb h
    have b2 := fun (r : Bool) (h : intOp op k b a = some (.bool r)) => intOp_ok (P := P) (ρ := ρ) (w := w) op t k b a _ hb ha h
    constructor
    · intro h
      cases op <;> first | (cases h; done) | skip
      · cases h; exact b1 _ (by show iEql k a b = _; unfold iEql; rw [hne])
      · cases h; exact b1 _ (by show iNeq k a b = _; unfold iNeq; rw [hne]; rfl)
      · cases h; exact b1 _ (by show iLss k a b = _; unfold iLss; rw [l1])
      · cases h; exact b1 _ (by show iLeq k a b = _; unfold iLeq; rw [l2]; rfl)
      · cases h; exact b1 _ (by show iGtr k a b = _; unfold iGtr; rw [l2])
      · cases h; exact b1 _ (by show iGeq k a b = _; unfold iGeq; rw [l1]; rfl)
    · intro h
      cases op <;> first | (cases h; done) | skip
      · cases h; exact b2 _ (by show iEql k b a = _; unfold iEql; rw [hne2])
      · cases h; exact b2 _ (by show iNeq k b a = _; unfold iNeq; rw [hne2]; rfl)
      · cases h; exact b2 _ (by show iLss k b a = _; unfold iLss; rw [l2])
      · cases h; exact b2 _ (by show iLeq k b a = _; unfold iLeq; rw [l1]; rfl)
      · cases h; exact b2 _ (by show iGtr k b a = _; unfold iGtr; rw [l1])
      · cases h; exact b2 _ (by show iGeq k b a = _; unfold iGeq; rw [l2]; rfl)
  have asN : ∀ {k : IntKind} {c m : Nat}, c + m ≤ maxs k → Value.int k ((c + m : Nat) : Int) = .int k (sg k (c + m)) := fun h => by rw [sg_nat h]
  unfold symE at h
  cases hp : linOf x with
  | none =>
    rw [hp, ocase_none] at h
    cases hng : negOf x with
    | none =>
      rw [hng, ocase_none] at h
      unfold symT at h
      obtain ⟨l, h1, h⟩ := ocase_some_iff.1 h
      obtain ⟨m, h2, h⟩ := ocase_some_iff.1 h
      obtain ⟨a, rfl, ha⟩ := strL_ok h1 hx
      obtain ⟨b, rfl, hb⟩ := strL_ok h2 hy
      exact txtOp_ok ha hb h
    | some k =>
      rw [hng, ocase_some] at h
      obtain ⟨q, h2, h⟩ := ocase_some_iff.1 h
      obtain ⟨h3, h⟩ := bcase_none_iff.1 h
      have hk := kcode_inj h3
      obtain ⟨a, rfl, ha, hna⟩ := neg_lt hng hx
      obtain ⟨m, rfl, hm, hle⟩ := linOf_ok h2 hy
      have := hm.le
      rw [← hk] at hle ⊢
      have hb : q.2.1 + m ≤ maxs k := by omega
      rw [asN hb]
      exact (con k a (q.2.1 + m) ha (Nat.le_trans hb (maxs_le k)) hna ((isPos_iff _ _).2 hb) v).1 h
  | some p =>
    rw [hp, ocase_some] at h
    obtain ⟨n, rfl, hn, hle⟩ := linOf_ok hp hx
    cases hq : linOf y with
    | none =>
      rw [hq, ocase_none] at h
      obtain ⟨k, h2, h⟩ := ocase_some_iff.1 h
      obtain ⟨h3, h⟩ := bcase_none_iff.1 h
      have hk := kcode_inj h3
      obtain ⟨a, rfl, ha, hna⟩ := neg_lt h2 hy
      have := hn.le
      rw [hk] at hle ⊢
      have hb : p.2.1 + n ≤ maxs k := by omega
      rw [asN hb]
      exact (con k a (p.2.1 + n) ha (Nat.le_trans hb (maxs_le k)) hna ((isPos_iff _ _).2 hb) v).2 h
    | some q =>
      rw [hq, ocase_some] at h
      obtain ⟨h3, h⟩ := bcase_none_iff.1 h
      have hk := kcode_inj h3
      obtain ⟨m, rfl, hm, hle2⟩ := linOf_ok hq hy
      rw [← hk] at hle2 ⊢
      exact linOp_ok hn hm hle hle2 h
end
end Go.Ev

namespace Go.Ev
open Go
section
variable {P : Program}

theorem OkP.toV {ρ : Rho} {h : Heap} {w : World} {v : AV} {s : Sem Value} (o : OkP ρ w P v s) (sm : Sim ρ h w) : OkV ρ h w P v h s := by
  obtain ⟨v', h1, h2⟩ := o
  exact OkV.same sm h1 h2
theorem VR.agg_iff {ρ : Rho} {l : List AV} {v : Value} : VR ρ (.agg l) v ↔ ∃ a, v = .agg a ∧ VRL ρ l a.toList := by simp only [VR]
theorem VR.tuple_iff {ρ : Rho} {l : List AV} {v : Value} : VR ρ (.tuple l) v ↔ ∃ a, v = .tuple a ∧ VRL ρ l a.toList := by simp only [VR]
theorem VR.iface_iff {ρ : Rho} {t : TypeId} {x : AV} {v : Value} : VR ρ (.iface t x) v ↔ ∃ y, v = .iface t y ∧ VR ρ x y := by simp only [VR]
theorem VR.slice_iff {ρ : Rho} {b off len cap : Nat} {v : Value} : VR ρ (.slice b off len cap) v ↔ ∃ r c, ρ b = some (r, c) ∧ v = .slice (some ⟨r, off, none⟩) len cap := by simp only [VR]
theorem VR.gslice_iff {ρ : Rho} {b off len sz : Nat} {v : Value} : VR ρ (.gslice b off len sz) v ↔ ∃ r c cap, ρ b = some (r, c) ∧ v = .slice (some ⟨r, off, none⟩) len cap ∧ len ≤ cap ∧ off + cap * sz ≤ c := by simp only [VR]
theorem VR.map_iff {ρ : Rho} {b : Nat} {v : Value} : VR ρ (.map b) v ↔ ∃ r c, ρ b = some (r, c) ∧ v = .map (some r) := by simp only [VR]
theorem VR.func_iff {ρ : Rho} {fn : Fn} {fs cs : List AV} {v : Value} : VR ρ (.func fn fs cs) v ↔ ∃ a b, v = .func fn a b ∧ VRL ρ fs a.toList ∧ VRL ρ cs b.toList := by simp only [VR]

theorem part_ok {ρ : Rho} {w : World} {t : TypeId} {l : List AV} {off : Nat} {v : AV} {arr : Array Value} (hl : VRL ρ l arr.toList) (h : partA P t l off = some v) : OkP ρ w P v (part t arr off) := by
  unfold partA at h
  obtain ⟨s, hs, h⟩ := ocase_some_iff.1 h
  obtain ⟨g1, g2⟩ := aggSz_some hs
  unfold part
  cases s with
  | none =>
    have h : nthL off l = some v := h
    rw [nthL_eq] at h
    obtain ⟨u, h1, h2⟩ := hl.get _ _ h
    refine ⟨u, ?_, h2⟩
    rw [Sem.run_bind, g1, Result.andThen_ok]
    have h1 : arr[off]? = some u := by simpa using h1
    simp only [h1]
    rfl
  | some s =>
    have h : bcase (Nat.ble (Nat.add off s) (lenL l)) (some (AV.agg (takeL s (dropL off l)))) none = some v := h
    obtain ⟨h1, h2⟩ := bcase_none_iff.1 h
    cases h2
    rw [takeL_eq, dropL_eq]
    refine ⟨.agg (arr.extract off (off + s)), ?_, VR.agg_iff.2 ⟨_, rfl, ?_⟩⟩
    · rw [Sem.run_bind, g1, Result.andThen_ok]
      show (do pure (Value.agg (arr.extract off (off + (← sizeOf t)))) : Sem Value).run P w = _
      rw [Sem.run_bind, run_sizeOf' (g2 s rfl)]; rfl
    · have := (hl.drop off).take s
      rw [show (arr.extract off (off + s)).toList = (arr.toList.drop off).take s by simp [Array.toList_extract, List.extract, Nat.add_sub_cancel_left]]
      exact this

theorem field_ok {ρ : Rho} {w : World} {t : TypeId} {x : AV} {f : Nat} {v : AV} {x' : Value} (hx : VR ρ x x') (h : fieldA P t x f = some v) : OkP ρ w P v (Instr.field t x' f) := by
  unfold fieldA at h
  obtain ⟨l, hl, h⟩ := ocase_some_iff.1 h
  obtain ⟨p, hp, h⟩ := ocase_some_iff.1 h
  rw [asAgg_some hl] at hx
  obtain ⟨arr, rfl, hr⟩ := VR.agg_iff.1 hx
  unfold fieldPart at hp
  unfold Instr.field
  split at hp
  · rename_i fields hf
    split at hp
    · rename_i fd hfd
      cases hp
      obtain ⟨u, h1, h2⟩ := part_ok (w := w) hr h
      refine ⟨u, ?_, h2⟩
      rw [Sem.run_bind, run_underlying' hf, Result.andThen_ok]
      simp only [hfd]
      exact h1
    · cases hp
  · cases hp

theorem add_zero' (a : Addr) : a.add 0 = a := by unfold Addr.add; simp
theorem fieldAddr_ok {ρ : Rho} {w : World} {t : TypeId} {x : AV} {f : Nat} {v : AV} {x' : Value} (hx : VR ρ x x') (h : fieldAddrA P t x f = some v) : OkP ρ w P v (Instr.fieldAt t x' f) := by
  unfold fieldAddrA at h
  obtain ⟨p, hp, h⟩ := ocase_some_iff.1 h
  obtain ⟨o, ho, h⟩ := ocase_some_iff.1 h
  cases h
  rw [asPtr_some hp] at hx
  obtain ⟨r, c, hr, rfl⟩ := VR.ptr_iff.1 hx
  unfold fieldOff at ho
  unfold Instr.fieldAt
  split at ho
  · rename_i fields hf
    split at ho
    · rename_i fd hfd
      split at ho
      · rename_i sz hsz
        cases hb : Nat.ble 1 sz with
        | false => rw [hb] at ho; cases ho
        | true =>
          rw [hb] at ho; cases ho
          have hb := Nat.le_of_ble_eq_true hb
          refine ⟨.pointer (some ⟨r, p.2 + fd.offset, none⟩), ?_, VR.ptr_iff.2 ⟨r, c, hr, rfl⟩⟩
          rw [Sem.run_bind, run_underlying' hf, Result.andThen_ok]
          simp only [hfd]
          show (do pure (Value.pointer (some (← fieldPlace ⟨r, p.2, none⟩ fd))) : Sem Value).run P w = _
          have hpl : (fieldPlace ⟨r, p.2, none⟩ fd).run P w = .ok ⟨r, p.2 + fd.offset, none⟩ w := by
            unfold fieldPlace
            rw [Sem.run_bind, run_sizeOf' hsz, Result.andThen_ok, if_neg (by omega), add_of]; rfl
          rw [Sem.run_bind, hpl]; rfl
      · cases ho
    · cases ho
  · cases ho

theorem run_asIntOf (k : IntKind) (n : Int) (w : World) : (asIntOf (.int k n)).run P w = .ok (k, n) w := rfl
theorem slSz_some {t : TypeId} {s : Nat} (h : slSz P t = some s) : ∃ e, P.underlying t = some (.slice e) ∧ sizeA P e = some s := by
  unfold slSz at h
  split at h
  · rename_i e he; exact ⟨e, he, h⟩
  · cases h
theorem arrSz_some {t : TypeId} {a : Nat × Nat} (h : arrSz P t = some a) : ∃ e, P.underlying t = some (.array a.1 e) ∧ sizeA P e = some a.2 := by
  unfold arrSz at h
  split at h
  · rename_i n e he
    split at h
    · rename_i s hs; cases h; exact ⟨e, he, hs⟩
    · cases h
  · cases h
theorem sl_val {ρ : Rho} {x : AV} {p : Nat × Nat × Nat} {x' : Value} (h : asSl x = some p) (hx : VR ρ x x') : ∃ r c cap, ρ p.1 = some (r, c) ∧ x' = .slice (some ⟨r, p.2.1, none⟩) p.2.2 cap := by
  rcases asSl_some h with ⟨c, e⟩ | ⟨z, e⟩
  · rw [e] at hx
    obtain ⟨r, d, h1, h2⟩ := VR.slice_iff.1 hx
    exact ⟨r, d, c, h1, h2⟩
  · rw [e] at hx
    obtain ⟨r, d, cap, h1, h2, _⟩ := VR.gslice_iff.1 hx
    exact ⟨r, d, cap, h1, h2⟩
theorem indexAddr_ok {ρ : Rho} {w : World} {t : TypeId} {x i v : AV} {x' i' : Value} (hx : VR ρ x x') (hi : VR ρ i i') (h : indexAddrA P t x i = some v) : OkP ρ w P v (Instr.indexAt t x' i') := by
  unfold indexAddrA at h
  obtain ⟨n, hn, h⟩ := ocase_some_iff.1 h
  obtain ⟨k, rfl⟩ := natOf_VR hn hi
  unfold Instr.indexAt
  cases hs : slSz P t with
  | some s =>
    rw [hs, ocase_some] at h
    unfold slAddr at h
    obtain ⟨p, hp, h⟩ := ocase_some_iff.1 h
    obtain ⟨h1, h⟩ := bcase_none_iff.1 h
    cases h
    rw [nle1_eq, decide_eq_true_iff] at h1
    obtain ⟨e, he, hes⟩ := slSz_some hs
    obtain ⟨r, c, cap, hr, rfl⟩ := sl_val hp hx
    refine ⟨.pointer (some ⟨r, p.2.1 + n * s, none⟩), ?_, VR.ptr_iff.2 ⟨r, c, hr, rfl⟩⟩
    rw [Sem.run_bind, run_asIntOf, Result.andThen_ok, Sem.run_bind, run_underlying' he, Result.andThen_ok]
    simp only [Sem.run_pure, Result.andThen_ok, Sem.run_bind, run_underlying' he]
    rw [if_pos ⟨by omega, by omega⟩]
    simp only [Sem.run_bind, run_sizeOf' hes, Result.andThen_ok, Sem.run_pure, add_of, Int.toNat_natCast]
  | none =>
    rw [hs, ocase_none] at h
    obtain ⟨a, ha, h⟩ := ocase_some_iff.1 h
    unfold arrAddr at h
    obtain ⟨p, hp, h⟩ := ocase_some_iff.1 h
    obtain ⟨h1, h⟩ := bcase_none_iff.1 h
    cases h
    rw [nle1_eq, decide_eq_true_iff] at h1
    obtain ⟨e, he, hes⟩ := arrSz_some ha
    rw [asPtr_some hp] at hx
    obtain ⟨r, c, hr, rfl⟩ := VR.ptr_iff.1 hx
    refine ⟨.pointer (some ⟨r, p.2 + n * a.2, none⟩), ?_, VR.ptr_iff.2 ⟨r, c, hr, rfl⟩⟩
    rw [Sem.run_bind, run_asIntOf, Result.andThen_ok, Sem.run_bind, run_underlying' he, Result.andThen_ok]
    unfold Instr.sureAddr
    simp only [Sem.run_pure, Result.andThen_ok, Sem.run_bind, run_underlying' he]
    rw [if_pos ⟨by omega, by omega⟩]
    simp only [Sem.run_bind, run_sizeOf' hes, Result.andThen_ok, Sem.run_pure, add_of, Int.toNat_natCast]

theorem index_ok {ρ : Rho} {w : World} {t : TypeId} {x i v : AV} {x' i' : Value} (hx : VR ρ x x') (hi : VR ρ i i') (h : indexA P t x i = some v) : OkP ρ w P v (Instr.index t x' i') := by
  unfold indexA at h
  obtain ⟨n, hn, h⟩ := ocase_some_iff.1 h
  obtain ⟨k, rfl⟩ := natOf_VR hn hi
  unfold Instr.index
  cases hs : isStrT P t with
  | true =>
    rw [hs, bcase_true] at h
    unfold strAt at h
    have hu : P.underlying t = some .string := by
      unfold isStrT at hs
      split at hs
      · assumption
      · cases hs
    cases hp : asStr x with
    | none =>
      rw [hp, ocase_none] at h
      obtain ⟨l, h1, h⟩ := ocase_some_iff.1 h
      obtain ⟨s, rfl, hv⟩ := strL_ok h1 hx
      rw [nthL_eq] at h
      obtain ⟨u, g1, g2⟩ := hv.get _ _ h
      have hlt : n < s.length := by
        rcases Nat.lt_or_ge n s.length with h3 | h3
        · exact h3
        · rw [List.getElem?_eq_none (by simpa [bv] using h3)] at g1; cases g1
      have hb := ub s[n]
      rw [List.getElem?_map, List.getElem?_eq_getElem hlt] at g1
      cases g1
      refine ⟨.int .u8 (s[n].toNat : Int), ?_, g2⟩
      · rw [Sem.run_bind, run_asIntOf, Result.andThen_ok, Sem.run_bind, run_underlying' hu, Result.andThen_ok]
        have hg : (⟨⟨s⟩⟩ : ByteArray)[n]? = some s[n] := by
          have : n < (⟨⟨s⟩⟩ : ByteArray).size := hlt
          exact getElem?_pos (⟨⟨s⟩⟩ : ByteArray) n this
        simp only [Int.toNat_natCast, hg, show (0 : Int) ≤ (n : Int) from by omega, if_true]
        rfl
    | some p =>
      rw [hp, ocase_some] at h
      obtain ⟨h1, h⟩ := bcase_none_iff.1 h
      cases h
      rw [nle1_eq, decide_eq_true_iff] at h1
      rw [asStr_some hp] at hx
      obtain ⟨l, rfl, h2, h3⟩ := VR.str_iff.1 hx
      have hlt : n < l.length := by omega
      have hb := ub l[n]
      refine ⟨.int .u8 (l[n].toNat : Int), ?_, VR.int_iff.2 ⟨?_, ?_⟩⟩
      · rw [Sem.run_bind, run_asIntOf, Result.andThen_ok, Sem.run_bind, run_underlying' hu, Result.andThen_ok]
        have hg : (⟨⟨l⟩⟩ : ByteArray)[n]? = some l[n] := by
          have : n < (⟨⟨l⟩⟩ : ByteArray).size := hlt
          exact getElem?_pos (⟨⟨l⟩⟩ : ByteArray) n this
        simp only [Int.toNat_natCast, hg, show (0 : Int) ≤ (n : Int) from by omega, if_true]
        rfl
      · rw [← h3, sat_eq l n hlt, sg_nat (k := .u8) (by show _ ≤ 255; omega)]
      · rw [← h3, sat_eq l n hlt]; show _ ≤ 255; omega
  | false =>
    rw [hs, bcase_false] at h
    unfold arrAt at h
    split at h
    · rename_i len e he
      obtain ⟨l, hl, h⟩ := ocase_some_iff.1 h
      obtain ⟨s, hsz, h⟩ := ocase_some_iff.1 h
      obtain ⟨h1, h⟩ := bcase_none_iff.1 h
      rw [nle1_eq, decide_eq_true_iff] at h1
      rw [asAgg_some hl] at hx
      obtain ⟨arr, rfl, hr⟩ := VR.agg_iff.1 hx
      obtain ⟨u, h2, h3⟩ := part_ok (w := w) hr h
      refine ⟨u, ?_, h3⟩
      rw [Sem.run_bind, run_asIntOf, Result.andThen_ok, Sem.run_bind, run_underlying' he, Result.andThen_ok]
      show (if 0 ≤ (n : Int) ∧ (n : Int) < (len : Int) then _ else _ : Sem Value).run P w = _
      rw [if_pos ⟨by omega, by omega⟩]
      simp only [Sem.run_bind, run_sizeOf' hsz, Result.andThen_ok, Int.toNat_natCast]
      exact h2
    · cases h

theorem bnd_ok {ρ : Rho} {w : World} {x : AV} {x' : Value} {y n : Nat} {c : BoundsCode} (hx : VR ρ x x') (h : bndA (some x) 0 y = some n) : (Instr.sliceBound x' y c).run P w = .ok n w ∧ n ≤ y := by
  unfold bndA at h
  simp only at h
  split at h
  · rename_i i hi
    cases hb : Nat.ble i y with
    | false => rw [hb] at h; cases h
    | true =>
      rw [hb] at h; cases h
      have hb := Nat.le_of_ble_eq_true hb
      obtain ⟨k, rfl⟩ := natOf_VR hi hx
      refine ⟨?_, hb⟩
      unfold Instr.sliceBound
      rw [Sem.run_bind, run_asIntOf, Result.andThen_ok]
      simp only
      rw [if_pos ⟨by omega, by omega⟩]
      simp
  · cases h
inductive OR (ρ : Rho) : Option AV → Option Value → Prop
  | none : OR ρ none none
  | some {x : AV} {x' : Value} (h : VR ρ x x') : OR ρ (some x) (some x')

theorem bndA_some (x : AV) (d d' y : Nat) : bndA (some x) d y = bndA (some x) d' y := rfl
theorem bndA_none {d y n : Nat} (h : bndA none d y = some n) : n = d := by cases h; rfl
theorem bounds_ok {ρ : Rho} {w : World} {isSlice : Bool} {len cap : Nat} {lo hi mx : Option AV} {lo' hi' mx' : Option Value} (hl : OR ρ lo lo') (hh : OR ρ hi hi') (hm : OR ρ mx mx')
    {m h l : Nat} (e1 : bndA mx cap cap = some m) (e2 : bndA hi len m = some h) (e3 : bndA lo 0 h = some l) (hno : hi = none → mx = none) :
    (Instr.sliceBounds isSlice len cap lo' hi' mx').run P w = .ok (l, h, m) w ∧ l ≤ h := by
  unfold Instr.sliceBounds
  cases hm with
  | none =>
    have := bndA_none e1; subst this
    simp only [Sem.run_bind, Sem.run_pure, Result.andThen_ok]
    cases hh with
    | none =>
      have := bndA_none e2; subst this
      simp only [Sem.run_bind, Sem.run_pure, Result.andThen_ok]
      cases hl with
      | none => have := bndA_none e3; subst this; simp
      | some hx =>
        obtain ⟨g1, g2⟩ := bnd_ok (P := P) (w := w) (c := .sliceB) hx e3
        simp [Sem.run_bind, g1, g2]
    | some hy =>
      obtain ⟨g1, g2⟩ := bnd_ok (P := P) (w := w) (c := if isSlice then .sliceAcap else .sliceAlen) hy ((bndA_some _ _ _ _).trans e2)
      simp only [Sem.run_bind, g1, Result.andThen_ok]
      cases hl with
      | none => have := bndA_none e3; subst this; simp
      | some hx =>
        obtain ⟨g1, g2⟩ := bnd_ok (P := P) (w := w) (c := .sliceB) hx e3
        simp [Sem.run_bind, g1, g2]
  | some hz =>
    obtain ⟨g1, g2⟩ := bnd_ok (P := P) (w := w) (c := if isSlice then .slice3Acap else .slice3Alen) hz ((bndA_some _ _ _ _).trans e1)
    simp only [Sem.run_bind, g1, Result.andThen_ok]
    cases hh with
    | none => cases hno rfl
    | some hy =>
      obtain ⟨g1, g2⟩ := bnd_ok (P := P) (w := w) (c := .slice3B) hy ((bndA_some _ _ _ _).trans e2)
      simp only [Sem.run_bind, g1, Result.andThen_ok]
      cases hl with
      | none => have := bndA_none e3; subst this; simp
      | some hx =>
        obtain ⟨g1, g2⟩ := bnd_ok (P := P) (w := w) (c := .slice3C) hx e3
        simp [Sem.run_bind, g1, g2]
theorem bnds_some {lo hi mx : Option AV} {len cap : Nat} {q : Nat × Nat × Nat} (h : bnds lo hi mx len cap = some q) :
    bndA mx cap cap = some q.2.2 ∧ bndA hi len q.2.2 = some q.2.1 ∧ bndA lo 0 q.2.1 = some q.1 ∧ (hi = none → mx = none) := by
  unfold bnds at h
  obtain ⟨h1, h⟩ := bcase_none_iff.1 h
  obtain ⟨m, h2, h⟩ := ocase_some_iff.1 h
  obtain ⟨g, h3, h⟩ := ocase_some_iff.1 h
  obtain ⟨l, h4, h⟩ := ocase_some_iff.1 h
  cases h
  refine ⟨h2, h3, h4, fun e => ?_⟩
  subst e
  cases mx with
  | none => rfl
  | some _ => cases h1
theorem mkSl_VR {ρ : Rho} {b off s r c : Nat} (q : Nat × Nat × Nat) (hr : ρ b = some (r, c)) :
    VR ρ (mkSl b off s q) (.slice (some (if q.2.2 = q.1 then (⟨r, off, none⟩ : Addr) else (⟨r, off, none⟩ : Addr).add (q.1 * s))) (q.2.1 - q.1) (q.2.2 - q.1)) := by
  unfold mkSl
  by_cases h : q.2.2 = q.1
  · rw [if_pos h, nbeq_iff.2 h, bcase_true]; exact VR.slice_iff.2 ⟨r, c, hr, rfl⟩
  · rw [if_neg h, show Nat.beq q.2.2 q.1 = false from by cases hb : Nat.beq q.2.2 q.1 with | false => rfl | true => exact absurd (nbeq_iff.1 hb) h, bcase_false, add_of]
    exact VR.slice_iff.2 ⟨r, c, hr, rfl⟩
theorem noMx_iff {mx : Option AV} : noMx mx = true ↔ mx = none := by cases mx <;> simp [noMx]
theorem bnd_le {x : Option AV} {d y n : Nat} (hd : d ≤ y) (h : bndA x d y = some n) : n ≤ y := by
  cases x with
  | none => cases h; exact hd
  | some x =>
    unfold bndA at h
    simp only at h
    split at h
    · rename_i i hi
      cases hb : Nat.ble i y with
      | false => rw [hb] at h; cases h
      | true => rw [hb] at h; cases h; exact Nat.le_of_ble_eq_true hb
    · cases h
theorem bnd_up {x : Option AV} {d y y' n : Nat} (hy : y ≤ y') (h : bndA x d y = some n) : bndA x d y' = some n := by
  cases x with
  | none => exact h
  | some x =>
    unfold bndA at h ⊢
    simp only at h ⊢
    split at h
    · rename_i i hi
      cases hb : Nat.ble i y with
      | false => rw [hb] at h; cases h
      | true =>
        rw [hb] at h; cases h
        have hb := Nat.le_of_ble_eq_true hb
        have : Nat.ble n y' = true := by rw [Nat.ble_eq]; omega
        rw [this]; rfl
    · cases h
theorem slice_ok {ρ : Rho} {w : World} {t : TypeId} {x v : AV} {lo hi mx : Option AV} {x' : Value} {lo' hi' mx' : Option Value} (hx : VR ρ x x') (hl : OR ρ lo lo') (hh : OR ρ hi hi') (hm : OR ρ mx mx')
    (h : sliceA P t x lo hi mx = some v) : OkP ρ w P v (Instr.sliceAt t x' lo' hi' mx') := by
  unfold sliceA at h
  unfold Instr.sliceAt
  split at h
  · rename_i n bits hu
    obtain ⟨h1, h⟩ := bcase_none_iff.1 h
    obtain ⟨q, h2, h⟩ := ocase_some_iff.1 h
    cases h
    have := noMx_iff.1 h1; subst this
    cases hm
    obtain ⟨e1, e2, e3, e4⟩ := bnds_some h2
    obtain ⟨l, rfl, h3, h4⟩ := VR.str_iff.1 hx
    obtain ⟨g1, g2⟩ := bounds_ok (P := P) (w := w) (isSlice := false) hl hh .none e1 e2 e3 e4
    have hq : q.2.1 ≤ l.length := by
      have := bndA_none e1
      have := bnd_le (by omega) e2
      omega
    refine ⟨.string ((⟨⟨l⟩⟩ : ByteArray).extract q.1 q.2.1), ?_, VR.str_iff.2 ⟨(l.drop q.1).take (q.2.1 - q.1), ?_, ?_, ?_⟩⟩
    · rw [Sem.run_bind, run_underlying' hu, Result.andThen_ok]
      unfold Instr.slice
      simp only [Sem.run_bind, run_underlying' hu, Result.andThen_ok, Option.isSome_none, Bool.false_eq_true, if_false, mk_size, h3, g1, Sem.run_pure]
    · congr 1
      apply ByteArray.ext
      rw [ByteArray.data_extract]
      apply Array.ext'
      simp [Array.toList_extract, List.extract]
    · simp; omega
    · rw [← h4, sub_eq]
  · rename_i l hu
    obtain ⟨h1, hmk⟩ := bcase_none_iff.1 h
    obtain ⟨q, h2, hmk⟩ := ocase_some_iff.1 hmk
    have := noMx_iff.1 h1; subst this
    cases hm
    obtain ⟨e1, e2, e3, e4⟩ := bnds_some h2
    obtain ⟨s, rfl, hv⟩ := VR.sstr_iff.1 hx
    have hls : lenL l = s.length := by rw [lenL_eq, hv.len_bv]
    rw [hls] at e1 e2
    obtain ⟨g1, g2⟩ := bounds_ok (P := P) (w := w) (isSlice := false) hl hh .none e1 e2 e3 e4
    have hq : q.2.1 ≤ s.length := by
      have := bndA_none e1
      have := bnd_le (by omega) e2
      omega
    refine ⟨.string ((⟨⟨s⟩⟩ : ByteArray).extract q.1 q.2.1), ?_, ?_⟩
    · rw [Sem.run_bind, run_underlying' hu, Result.andThen_ok]
      unfold Instr.slice
      simp only [Sem.run_bind, run_underlying' hu, Result.andThen_ok, Option.isSome_none, Bool.false_eq_true, if_false, mk_size, g1, Sem.run_pure]
    · have e : (⟨⟨s⟩⟩ : ByteArray).extract q.1 q.2.1 = ⟨⟨(s.drop q.1).take (q.2.1 - q.1)⟩⟩ := by
        apply ByteArray.ext
        rw [ByteArray.data_extract]
        apply Array.ext'
        simp [Array.toList_extract, List.extract]
      rw [e]
      refine mkStr_ok hmk ?_
      rw [takeL_eq, dropL_eq]
      have := (hv.drop q.1).take (q.2.1 - q.1)
      rw [← List.map_drop, ← List.map_take] at this
      exact this
  · rename_i elem b off len cap hu
    obtain ⟨s, hs, h⟩ := ocase_some_iff.1 h
    obtain ⟨q, h2, h⟩ := ocase_some_iff.1 h
    cases h
    obtain ⟨e1, e2, e3, e4⟩ := bnds_some h2
    obtain ⟨r, c, hr, rfl⟩ := VR.slice_iff.1 hx
    obtain ⟨g1, g2⟩ := bounds_ok (P := P) (w := w) (isSlice := true) hl hh hm e1 e2 e3 e4
    refine ⟨_, ?_, mkSl_VR q hr⟩
    rw [Sem.run_bind, run_underlying' hu, Result.andThen_ok]
    unfold Instr.slice
    simp only [Sem.run_bind, run_underlying' hu, Result.andThen_ok, g1, run_sizeOf' hs, Sem.run_pure]
    congr 2
    split <;> rfl
  · rename_i elem b off len sz hu
    obtain ⟨h1, h⟩ := bcase_none_iff.1 h
    obtain ⟨s, hs, h⟩ := ocase_some_iff.1 h
    obtain ⟨h0, h⟩ := bcase_none_iff.1 h
    obtain ⟨q, h2, h⟩ := ocase_some_iff.1 h
    cases h
    have := noMx_iff.1 h1; subst this
    cases hm
    have := nbeq_iff.1 h0; subst this
    obtain ⟨e1, e2, e3, e4⟩ := bnds_some h2
    have hq := bndA_none e1
    obtain ⟨r, c, cap, hr, rfl, k1, k2⟩ := VR.gslice_iff.1 hx
    have hh2 : q.2.1 ≤ len := by have := bnd_le (by omega) e2; omega
    have hl2 : q.1 ≤ q.2.1 := bnd_le (Nat.zero_le _) e3
    obtain ⟨g1, g2⟩ := bounds_ok (P := P) (w := w) (isSlice := true) (len := len) (cap := cap) (m := cap) hl hh .none rfl (bnd_up (by omega) e2) e3 e4
    refine ⟨.slice (some (if cap = q.1 then (⟨r, off, none⟩ : Addr) else (⟨r, off, none⟩ : Addr).add (q.1 * s))) (q.2.1 - q.1) (cap - q.1), ?_, ?_⟩
    · rw [Sem.run_bind, run_underlying' hu, Result.andThen_ok]
      unfold Instr.slice
      simp only [Sem.run_bind, run_underlying' hu, Result.andThen_ok, g1, run_sizeOf' hs, Sem.run_pure]
      congr 2
      split <;> rfl
    · unfold mkGs
      by_cases h3 : q.1 = 0
      · rw [nbeq_iff.2 h3, bcase_true, h3]
        refine VR.gslice_iff.2 ⟨r, c, cap, hr, ?_, by omega, k2⟩
        rw [Nat.zero_mul, add_zero', ite_self]; rfl
      · rw [show Nat.beq q.1 0 = false from by cases hb : Nat.beq q.1 0 with | false => rfl | true => exact absurd (nbeq_iff.1 hb) h3, bcase_false, nle1_eq]
        by_cases h4 : q.1 < len
        · rw [decide_eq_true h4, bcase_true, if_neg (by omega), add_of]
          refine VR.gslice_iff.2 ⟨r, c, cap - q.1, hr, rfl, ?_, ?_⟩
          · show q.2.1 - q.1 ≤ _; omega
          · show off + q.1 * s + (cap - q.1) * s ≤ c
            have : q.1 * s + (cap - q.1) * s = cap * s := by rw [← Nat.add_mul]; congr 1; omega
            omega
        · rw [decide_eq_false h4, bcase_false]
          simp only [VR]
          exact ⟨_, _, by rw [show q.2.1 - q.1 = 0 by omega]⟩
  · rename_i elem hu
    obtain ⟨s, hs, h⟩ := ocase_some_iff.1 h
    obtain ⟨q, h2, h⟩ := ocase_some_iff.1 h
    cases h
    obtain ⟨e1, e2, e3, e4⟩ := bnds_some h2
    simp only [VR] at hx; subst hx
    obtain ⟨g1, g2⟩ := bounds_ok (P := P) (w := w) (isSlice := true) hl hh hm e1 e2 e3 e4
    have q1 : q.2.2 ≤ 0 := bnd_le (Nat.le_refl _) e1
    have q2 : q.2.1 ≤ q.2.2 := bnd_le (Nat.zero_le _) e2
    refine ⟨.slice none 0 0, ?_, by simp only [VR]⟩
    rw [Sem.run_bind, run_underlying' hu, Result.andThen_ok]
    unfold Instr.slice
    simp only [Sem.run_bind, run_underlying' hu, Result.andThen_ok, g1, run_sizeOf' hs, Sem.run_pure, Option.map_none, ite_self]
    rw [show q.2.1 - q.1 = 0 by omega, show q.2.2 - q.1 = 0 by omega]
  · rename_i n elem b off hu
    obtain ⟨s, hs, h⟩ := ocase_some_iff.1 h
    obtain ⟨q, h2, h⟩ := ocase_some_iff.1 h
    cases h
    obtain ⟨e1, e2, e3, e4⟩ := bnds_some h2
    obtain ⟨r, c, hr, rfl⟩ := VR.ptr_iff.1 hx
    obtain ⟨g1, g2⟩ := bounds_ok (P := P) (w := w) (isSlice := false) hl hh hm e1 e2 e3 e4
    refine ⟨_, ?_, mkSl_VR q hr⟩
    rw [Sem.run_bind, run_underlying' hu, Result.andThen_ok]
    unfold Instr.sureAddr
    simp only [Sem.run_bind, Result.andThen_ok, g1, run_sizeOf' hs, Sem.run_pure]
  · cases h
end
end Go.Ev

namespace Go.Ev
open Go
section
variable {P : Program}

def EqOk (P : Program) (rec : TypeId → AV → AV → Option Bool) (D : Nat) : Prop :=
  ∀ (ρ : Rho) (w : World) t x y x' y' r, rec t x y = some r → VR ρ x x' → VR ρ y y' → (Op.equalIn D t x' y').run P w = .ok r w

abbrev LS := Option Bool × Unit
def lsOf (r : Bool) : LS := if r then (none, ()) else (some false, ())
def cmpBody (D : Nat) (t : TypeId) (x y : Sem Value) : Sem (ForInStep LS) := do
  let a ← x
  let b ← y
  let r ← Op.equalIn D t a b
  if (!r) = true then pure (ForInStep.done (some false, ())) else pure (ForInStep.yield (none, ()))
theorem cmpBody_run {rec : TypeId → AV → AV → Option Bool} {D : Nat} (hrec : EqOk P rec D) {ρ : Rho} {w : World} {t : TypeId} {a b : AV} {r : Bool} {x y : Sem Value}
    (hx : OkP ρ w P a x) (hy : OkP ρ w P b y) (h : rec t a b = some r) : (cmpBody D t x y).run P w = .ok (if r then ForInStep.yield (none, ()) else ForInStep.done (some false, ())) w := by
  obtain ⟨u, h1, h2⟩ := hx
  obtain ⟨v, h3, h4⟩ := hy
  unfold cmpBody
  rw [Sem.run_bind, h1, Result.andThen_ok, Sem.run_bind, h3, Result.andThen_ok, Sem.run_bind, hrec ρ w t a b u v r h h2 h4, Result.andThen_ok]
  cases r <;> rfl

theorem structEqF_cons (rec : TypeId → AV → AV → Option Bool) (f : Field) (fs : List Field) (a b : List AV) : structEqF P rec (f :: fs) a b = bcase (f.name == "_") (structEqF P rec fs a b)
    (ocase (partA P f.type a f.offset) none fun x => ocase (partA P f.type b f.offset) none fun y => ocase (rec f.type x y) none fun r => bcase r (structEqF P rec fs a b) (some false)) := rfl
def structBody (D : Nat) (xs ys : Array Value) (f : Field) (_ : LS) : Sem (ForInStep LS) :=
  if f.name ≠ "_" then cmpBody D f.type (part f.type xs f.offset) (part f.type ys f.offset) else pure (ForInStep.yield (none, ()))
theorem structEq_run {rec : TypeId → AV → AV → Option Bool} {D : Nat} (hrec : EqOk P rec D) {ρ : Rho} {w : World} {xs ys : Array Value} :
    ∀ (fs : List Field) (a b : List AV) (r : Bool), VRL ρ a xs.toList → VRL ρ b ys.toList → structEqF P rec fs a b = some r →
    (forIn fs ((none, ()) : LS) (structBody D xs ys)).run P w = .ok (lsOf r) w
  | [], a, b, r, _, _, h => by cases h; rfl
  | f :: fs, a, b, r, ha, hb, h => by
    rw [structEqF_cons] at h
    rw [List.forIn_cons, Sem.run_bind]
    have hbody : structBody D xs ys f ((none, ()) : LS) = if f.name ≠ "_" then cmpBody D f.type (part f.type xs f.offset) (part f.type ys f.offset) else pure (ForInStep.yield (none, ())) := rfl
    rw [hbody]
    cases hn : f.name == "_" with
    | true =>
      rw [hn, bcase_true] at h
      rw [if_neg (by simpa using hn), Sem.run_pure, Result.andThen_ok]
      exact structEq_run hrec fs a b r ha hb h
    | false =>
      rw [hn, bcase_false] at h
      rw [if_pos (by simpa using hn)]
      obtain ⟨x, hx, h⟩ := ocase_some_iff.1 h
      obtain ⟨y, hy, h⟩ := ocase_some_iff.1 h
      obtain ⟨q, hq, h⟩ := ocase_some_iff.1 h
      rw [cmpBody_run hrec (part_ok (w := w) ha hx) (part_ok (w := w) hb hy) hq, Result.andThen_ok]
      cases q with
      | true => exact structEq_run hrec fs a b r ha hb h
      | false => cases h; rfl

theorem arrEqF_succ (rec : TypeId → AV → AV → Option Bool) (e : TypeId) (s n : Nat) (a b : List AV) (i : Nat) : arrEqF P rec e s a b (n + 1) i =
    ocase (partA P e a (Nat.mul i s)) none fun x => ocase (partA P e b (Nat.mul i s)) none fun y => ocase (rec e x y) none fun r => bcase r (arrEqF P rec e s a b n (Nat.add i 1)) (some false) := rfl
def arrBody (D : Nat) (e : TypeId) (s : Nat) (xs ys : Array Value) (i : Nat) (_ : LS) : Sem (ForInStep LS) :=
  cmpBody D e (part e xs (i * s)) (part e ys (i * s))
theorem arrEq_run {rec : TypeId → AV → AV → Option Bool} {D : Nat} (hrec : EqOk P rec D) {ρ : Rho} {w : World} {xs ys : Array Value} {e : TypeId} {s : Nat} {a b : List AV} (ha : VRL ρ a xs.toList) (hb : VRL ρ b ys.toList) :
    ∀ (n i : Nat) (r : Bool), arrEqF P rec e s a b n i = some r →
    (forIn (List.range' i n) ((none, ()) : LS) (arrBody D e s xs ys)).run P w = .ok (lsOf r) w
  | 0, i, r, h => by cases h; rfl
  | n + 1, i, r, h => by
    rw [arrEqF_succ] at h
    rw [List.range'_succ, List.forIn_cons, Sem.run_bind]
    have hbody : arrBody D e s xs ys i ((none, ()) : LS) = cmpBody D e (part e xs (i * s)) (part e ys (i * s)) := rfl
    rw [hbody]
    obtain ⟨x, hx, h⟩ := ocase_some_iff.1 h
    obtain ⟨y, hy, h⟩ := ocase_some_iff.1 h
    obtain ⟨q, hq, h⟩ := ocase_some_iff.1 h
    have hx : partA P e a (i * s) = some x := hx
    have hy : partA P e b (i * s) = some y := hy
    rw [cmpBody_run hrec (part_ok (w := w) ha hx) (part_ok (w := w) hb hy) hq, Result.andThen_ok]
    cases q with
    | true => exact arrEq_run hrec ha hb n (i + 1) r h
    | false => cases h; rfl

theorem lsOf_fst (r : Bool) (w : World) : ((match (lsOf r).fst with | some r => pure r | none => pure true : Sem Bool)).run P w = .ok r w := by cases r <;> rfl
theorem str_beq (l m : List UInt8) : ((⟨⟨l⟩⟩ : ByteArray) == ⟨⟨m⟩⟩) = (l == m) := by
  rw [beq_toListBytes, mk_toList, mk_toList]

theorem nat_beq_int (a b : Nat) : (((a : Nat) : Int) == (b : Int)) = decide (a = b) := by
  rw [Bool.eq_iff_iff, beq_iff_eq, decide_eq_true_iff]; omega
theorem aeq1_ok {rec : TypeId → AV → AV → Option Bool} {D : Nat} (hrec : EqOk P rec D) : EqOk P (aeq1 P rec) (D + 1) := by
  intro ρ w t x y x' y' r h hx hy
  unfold aeq1 at h
  unfold Op.equalIn
  split at h
  · rename_i a b hu
    cases h
    rw [VR.bool_iff.1 hx, VR.bool_iff.1 hy, Sem.run_bind, run_underlying' hu]; rfl
  · rename_i k0 k a k' b hu
    obtain ⟨rfl, hxm⟩ := VR.int_iff.1 hx
    obtain ⟨rfl, hym⟩ := VR.int_iff.1 hy
    cases hk : kbeq k k' with
    | false => rw [hk] at h; cases h
    | true =>
      rw [hk] at h; cases h
      have := kcode_inj hk; subst this
      rw [Sem.run_bind, run_underlying' hu, Result.andThen_ok]
      simp only [if_true, sg_beq k a b hxm hym, Sem.run_pure]
  · rename_i n a m b hu
    cases h
    obtain ⟨l1, rfl, g1, g2⟩ := VR.str_iff.1 hx
    obtain ⟨l2, rfl, g3, g4⟩ := VR.str_iff.1 hy
    rw [Sem.run_bind, run_underlying' hu, Result.andThen_ok, ← g1, ← g2, ← g3, ← g4, seq_eq]
    simp only [str_beq, Sem.run_pure]
  · rename_i l y0 hu
    obtain ⟨m, hm, h⟩ := ocase_some_iff.1 h
    obtain ⟨l1, rfl, g1⟩ := VR.sstr_iff.1 hx
    obtain ⟨l2, rfl, g2⟩ := strL_ok hm hy
    rw [Sem.run_bind, run_underlying' hu, Result.andThen_ok, eqLs_ok h g1 g2]
    simp only [str_beq, Sem.run_pure]
  · rename_i m x0 hu _
    obtain ⟨l, hl, h⟩ := ocase_some_iff.1 h
    obtain ⟨l1, rfl, g1⟩ := strL_ok hl hx
    obtain ⟨l2, rfl, g2⟩ := VR.sstr_iff.1 hy
    rw [Sem.run_bind, run_underlying' hu, Result.andThen_ok, eqLs_ok h g1 g2]
    simp only [str_beq, Sem.run_pure]
  · rename_i k c ts y0 k0 hu
    obtain ⟨q, hq, h⟩ := ocase_some_iff.1 h
    obtain ⟨hk, h⟩ := bcase_none_iff.1 h
    have hk := kcode_inj hk
    obtain ⟨n, rfl, g1, _⟩ := VR.sint_iff.1 hx
    obtain ⟨m, rfl, g2, _⟩ := linOf_ok hq hy
    rw [← hk, Sem.run_bind, run_underlying' hu, Result.andThen_ok, eqS_ok h g1 g2]
    simp only [if_true, nat_beq_int, Sem.run_pure]
  · rename_i k c ts x0 k0 hu _
    obtain ⟨q, hq, h⟩ := ocase_some_iff.1 h
    obtain ⟨hk, h⟩ := bcase_none_iff.1 h
    have hk := kcode_inj hk
    obtain ⟨n, rfl, g1, _⟩ := linOf_ok hq hx
    obtain ⟨m, rfl, g2, _⟩ := VR.sint_iff.1 hy
    rw [hk, Sem.run_bind, run_underlying' hu, Result.andThen_ok, eqS_ok h g1 g2]
    simp only [if_true, nat_beq_int, Sem.run_pure]
  · rename_i e hu
    cases h; simp only [VR] at hx hy; subst hx; subst hy
    rw [Sem.run_bind, run_underlying' hu]; rfl
  · rename_i e b o hu
    cases h; simp only [VR] at hx; subst hx; obtain ⟨r1, c1, _, rfl⟩ := VR.ptr_iff.1 hy
    rw [Sem.run_bind, run_underlying' hu]; rfl
  · rename_i e b o hu
    cases h; simp only [VR] at hy; subst hy; obtain ⟨r1, c1, _, rfl⟩ := VR.ptr_iff.1 hx
    rw [Sem.run_bind, run_underlying' hu]; rfl
  · rename_i e hu
    cases h; simp only [VR] at hx hy; subst hx; subst hy
    rw [Sem.run_bind, run_underlying' hu]; rfl
  · rename_i e t' v hu
    cases h; simp only [VR] at hx; subst hx; obtain ⟨y1, rfl, _⟩ := VR.iface_iff.1 hy
    rw [Sem.run_bind, run_underlying' hu]; rfl
  · rename_i e t' v hu
    cases h; simp only [VR] at hy; subst hy; obtain ⟨y1, rfl, _⟩ := VR.iface_iff.1 hx
    rw [Sem.run_bind, run_underlying' hu]; rfl
  · rename_i e tx a ty b hu
    obtain ⟨y1, rfl, ha⟩ := VR.iface_iff.1 hx
    obtain ⟨y2, rfl, hb⟩ := VR.iface_iff.1 hy
    rw [Sem.run_bind, run_underlying' hu, Result.andThen_ok]
    simp only
    cases ht : Nat.beq tx ty with
    | false =>
      rw [ht] at h; cases h
      rw [if_pos (by intro e; rw [e, Nat.beq_refl] at ht; cases ht)]; rfl
    | true =>
      have e := Nat.eq_of_beq_eq_true ht
      subst e
      rw [ht] at h
      rw [if_neg (by simp)]
      cases hi : P.info? tx with
      | none => rw [hi] at h; cases h
      | some i =>
        rw [hi] at h
        have h : (bif i.comparable then rec tx a b else none) = some r := h
        cases hc : i.comparable with
        | false => rw [hc] at h; cases h
        | true =>
          rw [hc] at h
          rw [Sem.run_bind, run_typeInfo' hi, Result.andThen_ok, hc]
          exact hrec _ _ _ _ _ _ _ _ h ha hb
  · rename_i fields a b hu
    obtain ⟨xs, rfl, ha⟩ := VR.agg_iff.1 hx
    obtain ⟨ys, rfl, hb⟩ := VR.agg_iff.1 hy
    cases hst : P.stoodInHeld t with
    | true => rw [hst] at h; cases h
    | false =>
      rw [hst] at h
      have h : structEqF P rec fields.toList a b = some r := h
      rw [Sem.run_bind, run_underlying' hu, Result.andThen_ok]
      simp only
      rw [Sem.run_bind, run_program, Result.andThen_ok, if_neg (by rw [hst]; decide), Sem.run_bind]
      have := structEq_run hrec (w := w) fields.toList a b r ha hb h
      rw [Array.forIn_toList] at this
      refine (congrArg (fun z => Result.andThen z _) this).trans ?_; cases r <;> rfl
  · rename_i len e a b hu
    obtain ⟨xs, rfl, ha⟩ := VR.agg_iff.1 hx
    obtain ⟨ys, rfl, hb⟩ := VR.agg_iff.1 hy
    split at h
    · rename_i s hs
      rw [Sem.run_bind, run_underlying' hu, Result.andThen_ok]
      simp only
      rw [Sem.run_bind, run_sizeOf' hs, Result.andThen_ok, Sem.run_bind]
      have := arrEq_run hrec (w := w) (e := e) (s := s) ha hb len 0 r h
      rw [Std.Legacy.Range.forIn_eq_forIn_range']
      have e0 : ([:len] : Std.Legacy.Range).size = len := by simp [Std.Legacy.Range.size]
      rw [e0]
      refine (congrArg (fun z => Result.andThen z _) this).trans ?_; cases r <;> rfl
    · cases h
  · rename_i e hu
    cases h; simp only [VR] at hx hy; subst hx; subst hy
    rw [Sem.run_bind, run_underlying' hu]; rfl
  · rename_i e b o l c hu
    cases h; simp only [VR] at hx; subst hx; obtain ⟨_, _, _, rfl⟩ := VR.slice_iff.1 hy
    rw [Sem.run_bind, run_underlying' hu]; rfl
  · rename_i e b o l c hu
    cases h; simp only [VR] at hy; subst hy; obtain ⟨_, _, _, rfl⟩ := VR.slice_iff.1 hx
    rw [Sem.run_bind, run_underlying' hu]; rfl
  · rename_i e b o l c hu
    cases h; simp only [VR] at hx; subst hx; obtain ⟨_, _, _, _, rfl, _⟩ := VR.gslice_iff.1 hy
    rw [Sem.run_bind, run_underlying' hu]; rfl
  · rename_i e b o l c hu
    cases h; simp only [VR] at hy; subst hy; obtain ⟨_, _, _, _, rfl, _⟩ := VR.gslice_iff.1 hx
    rw [Sem.run_bind, run_underlying' hu]; rfl
  · rename_i k e hu
    cases h; simp only [VR] at hx hy; subst hx; subst hy
    rw [Sem.run_bind, run_underlying' hu]; rfl
  · rename_i k e b hu
    cases h; simp only [VR] at hx; subst hx; obtain ⟨_, _, _, rfl⟩ := VR.map_iff.1 hy
    rw [Sem.run_bind, run_underlying' hu]; rfl
  · rename_i k e b hu
    cases h; simp only [VR] at hy; subst hy; obtain ⟨_, _, _, rfl⟩ := VR.map_iff.1 hx
    rw [Sem.run_bind, run_underlying' hu]; rfl
  · rename_i hu
    cases h; simp only [VR] at hx hy; subst hx; subst hy
    rw [Sem.run_bind, run_underlying' hu]; rfl
  · rename_i hu
    cases h; simp only [VR] at hx; subst hx; obtain ⟨_, _, rfl, _⟩ := VR.func_iff.1 hy
    rw [Sem.run_bind, run_underlying' hu]; rfl
  · rename_i hu
    cases h; simp only [VR] at hy; subst hy; obtain ⟨_, _, rfl, _⟩ := VR.func_iff.1 hx
    rw [Sem.run_bind, run_underlying' hu]; rfl
  · cases h
theorem aeqF_ok : ∀ n D, n ≤ D → EqOk P (aeqF P n) D
  | 0, D, _ => fun ρ w t x y x' y' r h => by cases h
  | n + 1, 0, h => absurd h (by omega)
  | n + 1, D + 1, h => aeq1_ok (aeqF_ok n D (by omega))
theorem equal_ok {ρ : Rho} {w : World} {t : TypeId} {x y : AV} {x' y' : Value} {r : Bool} (h : aeqF P 20 t x y = some r) (hx : VR ρ x x') (hy : VR ρ y y') : (Op.equal t x' y').run P w = .ok r w :=
  aeqF_ok 20 Op.maxDepth (by decide) ρ w t x y x' y' r h hx hy

def eqOp (op : BinOp) : Bool := match op with | .eql => true | .neq => true | _ => false
theorem run_eqGuard_other {op : BinOp} {t : TypeId} {xo yo : Operand} {a b : Value} {w : World} (h : eqOp op = false) : (eqGuard op t xo yo a b).run P w = .ok () w := by
  unfold eqGuard
  cases op <;> first | rfl | cases h
theorem eqGuard_cmp {op : BinOp} (h : eqOp op = true) {t : TypeId} {xo yo : Operand} {a b : Value} : eqGuard op t xo yo a b =
    (match a, b with
    | .nilIface, .nilIface => if isConstO xo || isConstO yo then pure () else do
        if ← Op.eqGuardIn Op.maxDepth t .nilIface .nilIface then unsupported (.noEntry "binop/eql: two nil values of an interface type with methods, neither of them the literal nil")
    | .agg l, .agg m => do
      if !(← program).eqGuardType (← program).depth t then pure () else
        if ← Op.eqGuardIn Op.maxDepth t (.agg l) (.agg m) then unsupported (.noEntry "binop/eql: two nil values of an interface type with methods, in a part of a struct or an array")
    | _, _ => pure ()) := by
  cases op <;> first | cases h | skip
  all_goals
    unfold eqGuard
    rw [if_neg (by decide)]
    cases a <;> cases b <;> first | rfl | (cases xo <;> cases yo <;> rfl)
theorem run_eqGuard_free {op : BinOp} {t : TypeId} {xo yo : Operand} {a b : Value} {w : World} (h1 : ¬ (a = .nilIface ∧ b = .nilIface)) (h2 : ¬ ((∃ l, a = .agg l) ∧ ∃ m, b = .agg m)) : (eqGuard op t xo yo a b).run P w = .ok () w := by
  cases hop : eqOp op with
  | false => exact run_eqGuard_other hop
  | true =>
    rw [eqGuard_cmp hop]
    split
    · exact absurd ⟨rfl, rfl⟩ h1
    · exact absurd ⟨⟨_, rfl⟩, ⟨_, rfl⟩⟩ h2
    · rfl
theorem run_eqGuard_nil {op : BinOp} {t : TypeId} {xo yo : Operand} {w : World} (h : (isConstO xo || isConstO yo) = true) : (eqGuard op t xo yo .nilIface .nilIface).run P w = .ok () w := by
  cases hop : eqOp op with
  | false => exact run_eqGuard_other hop
  | true =>
    rw [eqGuard_cmp hop]
    simp only [h, if_true]; rfl
theorem run_eqGuard_agg {op : BinOp} {t : TypeId} {xo yo : Operand} {w : World} {l m : Array Value} (h : P.eqGuardType P.depth t = false) : (eqGuard op t xo yo (.agg l) (.agg m)).run P w = .ok () w := by
  cases hop : eqOp op with
  | false => exact run_eqGuard_other hop
  | true =>
    rw [eqGuard_cmp hop]
    simp only [Sem.run_bind, run_program, Result.andThen_ok, h]
    rfl

def cmpR (op : BinOp) (r : Bool) : Bool := match op with | .eql => r | _ => !r
def isCmp (op : BinOp) : Prop := op = .eql ∨ op = .neq
theorem binOp_cmp {ρ : Rho} {w : World} {op : BinOp} (hop : isCmp op) {t : TypeId} {x y : Value} {r : Bool} (h : (Op.equal t x y).run P w = .ok r w)
    (hi : ¬ ((∃ k n, x = .int k n) ∧ ∃ k n, y = .int k n)) (hs : ¬ ((∃ s, x = .string s) ∧ ∃ s, y = .string s)) (hf : ∀ k n, x ≠ .float k n) (hc : ∀ k n m, x ≠ .complex k n m) :
    OkP ρ w P (.bool (cmpR op r)) (binOp op t x y) := by
  rcases hop with rfl | rfl
  · have e : binOp .eql t x y = (do pure (.bool (← Op.equal t x y))) := by
      unfold binOp
      split <;> first
        | rfl
        | exact absurd ⟨⟨_, _, rfl⟩, ⟨_, _, rfl⟩⟩ hi
        | exact absurd ⟨⟨_, rfl⟩, ⟨_, rfl⟩⟩ hs
        | exact absurd rfl (hf _ _)
        | exact absurd rfl (hc _ _ _)
        | simp_all
    rw [e]
    exact ⟨_, by rw [Sem.run_bind, h]; rfl, VR.bool_iff.2 rfl⟩
  · have e : binOp .neq t x y = (do pure (.bool (!(← Op.equal t x y)))) := by
      unfold binOp
      split <;> first
        | rfl
        | exact absurd ⟨⟨_, _, rfl⟩, ⟨_, _, rfl⟩⟩ hi
        | exact absurd ⟨⟨_, rfl⟩, ⟨_, rfl⟩⟩ hs
        | exact absurd rfl (hf _ _)
        | exact absurd rfl (hc _ _ _)
        | simp_all
    rw [e]
    exact ⟨_, by rw [Sem.run_bind, h]; rfl, VR.bool_iff.2 rfl⟩

theorem VR.not_float {ρ : Rho} {x : AV} {v : Value} (h : VR ρ x v) : (∀ k n, v ≠ .float k n) ∧ ∀ k n m, v ≠ .complex k n m := by
  cases x <;> simp only [VR] at h <;> first
    | (obtain ⟨rfl, _⟩ := h; simp) | (subst h; simp) | (obtain ⟨_, rfl, _⟩ := h; simp) | (obtain ⟨_, _, _, rfl⟩ := h; simp) | (obtain ⟨_, _, _, _, rfl, _⟩ := h; simp) | (obtain ⟨_, _, rfl⟩ := h; simp) | (obtain ⟨_, _, rfl, _⟩ := h; simp) | (obtain ⟨_, _, _, _, _, _, rfl⟩ := h; simp)
theorem VR.int_inv {ρ : Rho} {x : AV} {k : IntKind} {n : Int} (h : VR ρ x (.int k n)) : asInt x ≠ none ∨ (∃ m r, x = .imod m r) ∨ isSym x = true := by
  cases x <;> simp only [VR] at h <;> first
    | exact .inr (.inl ⟨_, _, rfl⟩) | exact .inr (.inr rfl) | (left; intro e; cases e; done) | (obtain ⟨h, _⟩ := h; cases h; done) | (cases h; done) | (obtain ⟨_, h, _⟩ := h; cases h; done) | (obtain ⟨_, _, _, h⟩ := h; cases h; done) | (obtain ⟨_, _, _, _, h, _⟩ := h; cases h; done) | (obtain ⟨_, _, h⟩ := h; cases h; done) | (obtain ⟨_, _, h, _⟩ := h; cases h; done) | (obtain ⟨_, _, _, _, _, _, h⟩ := h; cases h; done)
theorem VR.str_inv {ρ : Rho} {x : AV} {s : ByteArray} (h : VR ρ x (.string s)) : asStr x ≠ none ∨ isSym x = true := by
  cases x <;> simp only [VR] at h <;> first
    | exact .inr rfl | (left; intro e; cases e; done) | (obtain ⟨h, _⟩ := h; cases h; done) | (cases h; done) | (obtain ⟨_, h, _⟩ := h; cases h; done) | (obtain ⟨_, _, _, h⟩ := h; cases h; done) | (obtain ⟨_, _, _, _, h, _⟩ := h; cases h; done) | (obtain ⟨_, _, h⟩ := h; cases h; done) | (obtain ⟨_, _, h, _⟩ := h; cases h; done) | (obtain ⟨_, _, _, _, _, _, h⟩ := h; cases h; done)
theorem VR.agg_inv {ρ : Rho} {x : AV} {l : Array Value} (h : VR ρ x (.agg l)) : ∃ m, x = .agg m := by
  cases x <;> simp only [VR] at h <;> first
    | exact ⟨_, rfl⟩ | (obtain ⟨h, _⟩ := h; cases h; done) | (cases h; done) | (obtain ⟨_, h, _⟩ := h; cases h; done) | (obtain ⟨_, _, _, h⟩ := h; cases h; done) | (obtain ⟨_, _, _, _, h, _⟩ := h; cases h; done) | (obtain ⟨_, _, h⟩ := h; cases h; done) | (obtain ⟨_, _, h, _⟩ := h; cases h; done) | (obtain ⟨_, _, _, _, _, _, h⟩ := h; cases h; done)
theorem VR.niliface_inv {ρ : Rho} {x : AV} (h : VR ρ x .nilIface) : x = .niliface := by
  cases x <;> simp only [VR] at h <;> first
    | rfl | (obtain ⟨h, _⟩ := h; cases h; done) | (cases h; done) | (obtain ⟨_, h, _⟩ := h; cases h; done) | (obtain ⟨_, _, _, h⟩ := h; cases h; done) | (obtain ⟨_, _, _, _, h, _⟩ := h; cases h; done) | (obtain ⟨_, _, h⟩ := h; cases h; done) | (obtain ⟨_, _, h, _⟩ := h; cases h; done) | (obtain ⟨_, _, _, _, _, _, h⟩ := h; cases h; done)

theorem aeq1_imod_l (rec : TypeId → AV → AV → Option Bool) (t : TypeId) (m r : Nat) (y : AV) (hy : isSym y = false) : aeq1 P rec t (.imod m r) y = none := by
  unfold aeq1; split <;> first | rfl | (rename_i h; cases h) | (rename_i h _; cases h) | (rename_i _ h _; cases h) | simp_all
theorem aeq1_imod_r (rec : TypeId → AV → AV → Option Bool) (t : TypeId) (m r : Nat) (x : AV) (hx : isSym x = false) : aeq1 P rec t x (.imod m r) = none := by
  unfold aeq1; split <;> first | rfl | (rename_i h; cases h) | (rename_i h _; cases h) | (rename_i _ h _; cases h) | simp_all
theorem eqA_imod_l {op : BinOp} {t : TypeId} {xo yo : Operand} {m r : Nat} {y v : AV} (hy : isSym y = false) (h : eqA P op t xo yo (.imod m r) y = some v) : False := by
  have h : ocase (aeq1 P (aeqF P 19) t (.imod m r) y) none (cmpV op) = some v := h
  rw [aeq1_imod_l _ _ _ _ _ hy] at h; cases h
theorem eqA_imod_r {op : BinOp} {t : TypeId} {xo yo : Operand} {m r : Nat} {x v : AV} (hx : isSym x = false) (h : eqA P op t xo yo x (.imod m r) = some v) : False := by
  have h : ocase (aeq1 P (aeqF P 19) t x (.imod m r)) none (cmpV op) = some v := by
    cases x <;> exact h
  rw [aeq1_imod_r _ _ _ _ _ hx] at h; cases h

theorem symE_free {ρ : Rho} {op : BinOp} {x y v : AV} {x' : Value} (hx : VR ρ x x') (h : symE op x y = some v) : x' ≠ .nilIface ∧ ¬ ∃ l, x' = .agg l := by
  unfold symE at h
  cases hp : linOf x with
  | some p =>
    obtain ⟨n, rfl, _⟩ := linOf_ok hp hx
    exact ⟨by simp, by simp⟩
  | none =>
    rw [hp, ocase_none] at h
    cases hng : negOf x with
    | some k =>
      obtain ⟨a, rfl, _⟩ := neg_lt hng hx
      exact ⟨by simp, by simp⟩
    | none =>
      rw [hng, ocase_none] at h
      unfold symT at h
      obtain ⟨l, h1, h⟩ := ocase_some_iff.1 h
      obtain ⟨a, rfl, _⟩ := strL_ok h1 hx
      exact ⟨by simp, by simp⟩

def gBin (op : BinOp) (t : TypeId) (xo yo : Operand) (x y : Value) : Sem Value := do eqGuard op t xo yo x y; binOp op t x y
theorem gBin_ok {ρ : Rho} {w : World} {op : BinOp} {t : TypeId} {xo yo : Operand} {x y : Value} {v : AV} (h1 : (eqGuard op t xo yo x y).run P w = .ok () w) (h2 : OkP ρ w P v (binOp op t x y)) : OkP ρ w P v (gBin op t xo yo x y) := by
  obtain ⟨u, h3, h4⟩ := h2
  exact ⟨u, by unfold gBin; rw [Sem.run_bind, h1, Result.andThen_ok, h3], h4⟩
theorem cmpV_eq (op : BinOp) (r : Bool) : cmpV op r = some (.bool (cmpR op r)) := rfl

theorem eqA_ok {ρ : Rho} {w : World} {op : BinOp} (hop : isCmp op) {t : TypeId} {xo yo : Operand} {x y v : AV} {x' y' : Value} (hx : VR ρ x x') (hy : VR ρ y y')
    (hi : asInt x = none ∨ asInt y = none) (hs : asStr x = none ∨ asStr y = none) (nx : isSym x = false) (ny : isSym y = false) (h : eqA P op t xo yo x y = some v) : OkP ρ w P v (gBin op t xo yo x' y') := by
  have hi' : ¬ ((∃ k n, x' = .int k n) ∧ ∃ k n, y' = .int k n) := by
    rintro ⟨⟨k, n, rfl⟩, ⟨k', n', rfl⟩⟩
    rcases hi with hi | hi
    · rcases hx.int_inv with e | ⟨m, r, rfl⟩ | e
      · exact e hi
      · exact eqA_imod_l ny h
      · rw [nx] at e; cases e
    · rcases hy.int_inv with e | ⟨m, r, rfl⟩ | e
      · exact e hi
      · exact eqA_imod_r nx h
      · rw [ny] at e; cases e
  have hs' : ¬ ((∃ s, x' = .string s) ∧ ∃ s, y' = .string s) := by
    rintro ⟨⟨k, rfl⟩, ⟨k', rfl⟩⟩
    rcases hs with hs | hs
    · rcases hx.str_inv with e | e
      · exact e hs
      · rw [nx] at e; cases e
    · rcases hy.str_inv with e | e
      · exact e hs
      · rw [ny] at e; cases e
  obtain ⟨hf, hc⟩ := hx.not_float
  have main : ∀ r, aeqF P 20 t x y = some r → OkP ρ w P (.bool (cmpR op r)) (binOp op t x' y') := fun r hr => binOp_cmp hop (equal_ok hr hx hy) hi' hs' hf hc
  unfold eqA at h
  split at h
  · obtain ⟨h1, h⟩ := bcase_none_iff.1 h
    obtain ⟨r, h2, h⟩ := ocase_some_iff.1 h
    rw [cmpV_eq] at h; cases h
    simp only [VR] at hx hy; subst hx; subst hy
    exact gBin_ok (run_eqGuard_nil h1) (main r h2)
  · obtain ⟨h1, h⟩ := bcase_none_iff'.1 h
    obtain ⟨r, h2, h⟩ := ocase_some_iff.1 h
    rw [cmpV_eq] at h; cases h
    obtain ⟨xs, rfl, _⟩ := VR.agg_iff.1 hx
    obtain ⟨ys, rfl, _⟩ := VR.agg_iff.1 hy
    exact gBin_ok (run_eqGuard_agg h1) (main r h2)
  · rename_i b o b' o'
    obtain ⟨h1, hp⟩ := bcase_none_iff.1 h
    clear h
    have := nbeq_iff.1 h1; subst this
    have h := hp
    unfold ptrEq at h
    split at h
    · rename_i e hu
      obtain ⟨s, hsz, h⟩ := ocase_some_iff.1 h
      obtain ⟨h2, h⟩ := bcase_none_iff.1 h
      rw [cmpV_eq] at h; cases h
      have h2 := Nat.le_of_ble_eq_true h2
      obtain ⟨r, c, hr, rfl⟩ := VR.ptr_iff.1 hx
      obtain ⟨r', c', hr', rfl⟩ := VR.ptr_iff.1 hy
      rw [hr] at hr'; cases hr'
      refine gBin_ok (run_eqGuard_free (by simp) (by simp)) (binOp_cmp hop ?_ hi' hs' hf hc)
      show (Op.equalIn (9999 + 1) t _ _).run P w = _
      unfold Op.equalIn
      rw [Sem.run_bind, run_underlying' hu, Result.andThen_ok]
      simp only
      have h0 : s ≠ 0 := by have h2 : 1 ≤ s := h2; omega
      rw [Sem.run_bind, run_sizeOf' hsz, Result.andThen_ok, if_pos h0]
      unfold sameAddr
      rw [if_pos (by simp)]
      show Result.ok _ w = _
      congr 1
      rw [Bool.eq_iff_iff, nbeq_iff, beq_iff_eq]
      simp
    · cases h
  · rename_i hn1 hn2 hn3
    obtain ⟨r, h2, h⟩ := ocase_some_iff.1 h
    rw [cmpV_eq] at h; cases h
    refine gBin_ok (run_eqGuard_free ?_ ?_) (main r h2)
    · rintro ⟨rfl, rfl⟩
      exact hn1 hx.niliface_inv hy.niliface_inv
    · rintro ⟨⟨l, rfl⟩, ⟨m, rfl⟩⟩
      obtain ⟨a, ha⟩ := hx.agg_inv
      obtain ⟨b, hb⟩ := hy.agg_inv
      exact hn2 _ _ ha hb

theorem gfree_of_int {op : BinOp} {t : TypeId} {xo yo : Operand} {w : World} {k k' : IntKind} {n n' : Int} : (eqGuard op t xo yo (.int k n) (.int k' n')).run P w = .ok () w := run_eqGuard_free (by simp) (by simp)
theorem binOp_ok {ρ : Rho} {w : World} {op : BinOp} {t : TypeId} {xo yo : Operand} {x y v : AV} {x' y' : Value} (hx : VR ρ x x') (hy : VR ρ y y')
    (h : binOpA P op t xo yo x y = some v) : OkP ρ w P v (gBin op t xo yo x' y') := by
  have other : eqOp op = false → OkP ρ w P v (binOp op t x' y') → OkP ρ w P v (gBin op t xo yo x' y') := fun h1 h2 => gBin_ok (run_eqGuard_other h1) h2
  have plain : arith (intOp op) (strOp op) (symE op) x y = some v → OkP ρ w P v (binOp op t x' y') := fun h =>
    arith_ok (intOp_ok op t) (strOp_ok op t) (fun e _ _ => symE_ok hx hy e) hx hy h
  have orI : ∀ {op : BinOp} {e : AV → AV → Option AV}, symOr op e x y = some v → symE op x y = some v ∨ (isSym x = false ∧ isSym y = false ∧ e x y = some v) := by
    intro op e h
    unfold symOr at h
    cases h1 : isSym x with
    | true => rw [h1, bcase_true, bcase_true] at h; exact .inl h
    | false =>
      cases h2 : isSym y with
      | true => rw [h1, h2, bcase_false, bcase_true] at h; exact .inl h
      | false => rw [h1, h2, bcase_false, bcase_false] at h; exact .inr ⟨rfl, rfl, h⟩
  have cmp : isCmp op → arith (intOp op) (strOp op) (symOr op (eqA P op t xo yo)) x y = some v → OkP ρ w P v (gBin op t xo yo x' y') := by
    intro hop h
    refine arith_ok (T := gBin op t xo yo) (fun k a b v ha hb hv => ?_) (fun l m v hv => ?_) (fun e hi hs => ?_) hx hy h
    · exact gBin_ok (run_eqGuard_free (by simp) (by simp)) (intOp_ok op t k a b v ha hb hv)
    · exact gBin_ok (run_eqGuard_free (by simp) (by simp)) (strOp_ok op t l m v hv)
    · rcases orI e with e | ⟨nx, ny, e⟩
      · refine gBin_ok ?_ (symE_ok hx hy e)
        obtain ⟨f1, f2⟩ := symE_free hx e
        exact run_eqGuard_free (fun q => f1 q.1) fun q => f2 q.1
      · exact eqA_ok hop hx hy hi hs nx ny e
  cases op with
  | shl => exact other rfl (shl_ok hx hy h)
  | shr => exact other rfl (shr_ok hx hy h)
  | eql => exact cmp (.inl rfl) h
  | neq => exact cmp (.inr rfl) h
  | rem =>
    refine other rfl (arith_ok (f := iRem) (g := noS) (e := symOr .rem modE) (intOp_ok .rem t) (fun l m v e => by cases e) (fun e _ _ => ?_) hx hy h)
    rcases orI e with e | ⟨_, _, e⟩
    · exact symE_ok hx hy e
    unfold modE at e
    obtain ⟨p, h1, e⟩ := ocase_some_iff.1 e
    obtain ⟨q, h2, e⟩ := ocase_some_iff.1 e
    obtain ⟨h3, e⟩ := bcase_none_iff.1 e
    cases e
    obtain ⟨hk, h4⟩ : kbeq q.1 .i64 = true ∧ (1 ≤ p.1 ∧ p.1 ≤ 255 ∧ q.2 = p.1) := by
      cases e1 : kbeq q.1 .i64 with
      | false => rw [e1] at h3; cases h3
      | true =>
        cases e2 : Nat.ble 1 p.1 with
        | false => rw [e1, e2] at h3; cases h3
        | true =>
          cases e3 : Nat.ble p.1 255 with
          | false => rw [e1, e2, e3] at h3; cases h3
          | true => rw [e1, e2, e3] at h3; exact ⟨rfl, Nat.le_of_ble_eq_true e2, Nat.le_of_ble_eq_true e3, nbeq_iff.1 h3⟩
    have hx2 : x = .imod p.1 p.2 := by cases x <;> first | (cases h1; rfl) | cases h1
    rw [hx2] at hx
    rw [asInt_some h2, kcode_inj hk, h4.2.2] at hy
    simp only [VR] at hx
    obtain ⟨z, rfl, hz, hr⟩ := hx
    obtain ⟨rfl, _⟩ := VR.int_iff.1 hy
    obtain ⟨v', g1, g2⟩ := intOp_ok (P := P) (ρ := ρ) (w := w) .rem t .i64 z p.1 (.int .i64 (z % p.1)) (by show z ≤ 18446744073709551615; omega) (by show p.1 ≤ 18446744073709551615; omega) (by
      show iRem .i64 z p.1 = _
      unfold iRem
      have e0 : Nat.beq p.1 0 = false := by cases hb : Nat.beq p.1 0 with | false => rfl | true => have := nbeq_iff.1 hb; omega
      have e1 : pos2 .i64 z p.1 = true := pos2_iff.2 ⟨(isPos_iff _ _).2 (by show z ≤ 9223372036854775807; omega), (isPos_iff _ _).2 (by show p.1 ≤ 9223372036854775807; omega)⟩
      rw [e0, bcase_false, e1, bcase_true]; rfl)
    rw [sg_nat (k := .i64) (by show z ≤ 9223372036854775807; omega)] at g1
    exact ⟨v', g1, by rw [← hr]; exact g2⟩
  | _ => exact other rfl (plain h)
end
end Go.Ev
