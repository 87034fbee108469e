import Derived.Test.YtodmelapdoahpaaGreatDoorSdB
import Derived.Laws.Tables
import Derived.Laws.RangeString
set_option linter.all false
namespace Go.Ev
open Go
section
variable {P : Program}

def OpOk (P : Program) (ρ : Rho) (h : Heap) (w : World) (r : OpR) (s : Sem Next) : Prop :=
  match r with
  | .bad _ => True
  | .val v h' => ∃ ρ' v' w', s.run P w = .ok (.value v') w' ∧ VR ρ' v v' ∧ Sim ρ' h' w' ∧ Ext ρ h w ρ' h' w'
  | .skip h' => ∃ ρ' w', s.run P w = .ok .skip w' ∧ Sim ρ' h' w' ∧ Ext ρ h w ρ' h' w'
  | .enter f args h' => h' = h ∧ ∃ args', s.run P w = .ok (.enter f args') w ∧ VRL ρ args args'.toList
  | .pan v h' => h' = h ∧ ∃ v', s.run P w = .halt (.panic v') w ∧ VR ρ v v'
  | .dfr f args h' => h' = h ∧ ∃ (a c : Array Value), s.run P w = .ok (.defer ⟨.fn (.func f) c, a⟩) w ∧ VRL ρ args (a ++ c).toList
  | .ch n k => ∃ i, i < n ∧ ∀ v h', k i = some (v, h') → ∃ ρ' v' w', s.run P w = .ok (.value v') w' ∧ VR ρ' v v' ∧ Sim ρ' h' w' ∧ Ext ρ h w ρ' h' w'
  | .rcv => s.run P w = .ok .recover w

theorem OpOk.ofV {ρ : Rho} {h h' : Heap} {w : World} {v : AV} {s : Sem Value} (o : OkV ρ h w P v h' s) : OpOk P ρ h w (.val v h') (do pure (.value (← s))) := by
  obtain ⟨ρ', v', w', h1, h2, h3, h4⟩ := o
  exact ⟨ρ', v', w', by rw [Sem.run_bind, h1]; rfl, h2, h3, h4⟩
theorem OpOk.ofU {ρ : Rho} {h h' : Heap} {w : World} {s : Sem Unit} (o : OkU ρ h w P h' s) : OpOk P ρ h w (.skip h') (do s; pure .skip) := by
  obtain ⟨ρ', w', h1, h2, h3⟩ := o
  exact ⟨ρ', w', by rw [Sem.run_bind, h1]; rfl, h2, h3⟩
theorem OpOk.ov {ρ : Rho} {h : Heap} {w : World} {v : Option AV} {s : Sem Value} (sm : Sim ρ h w) (o : ∀ a, v = some a → OkP ρ w P a s) : OpOk P ρ h w (ov h v) (do pure (.value (← s))) := by
  cases v with
  | none => trivial
  | some a => exact OpOk.ofV ((o a rfl).toV sm)
theorem OpOk.ovh {ρ : Rho} {h : Heap} {w : World} {v : Option (AV × Heap)} {s : Sem Value} (o : ∀ a, v = some a → OkV ρ h w P a.1 a.2 s) : OpOk P ρ h w (ovh v) (do pure (.value (← s))) := by
  cases v with
  | none => trivial
  | some a => exact OpOk.ofV (o a rfl)
theorem OpOk.osk {ρ : Rho} {h : Heap} {w : World} {v : Option Heap} {s : Sem Unit} (o : ∀ a, v = some a → OkU ρ h w P a s) : OpOk P ρ h w (osk v) (do s; pure .skip) := by
  cases v with
  | none => trivial
  | some a => exact OpOk.ofU (o a rfl)

theorem zipFold (off : Nat) : ∀ (l : List Value) (k : Nat) (arr : Array Value), off + k + l.length ≤ arr.size →
    (l.zipIdx k).foldl (fun cs (x : Value × Nat) => cs.setIfInBounds (off + x.2) x.1) arr = spl arr (off + k) l
  | [], k, arr, _ => by
    show arr = _
    apply Array.ext'; simp [spl]
  | v :: rest, k, arr, hl => by
    have hi' : off + k < arr.size := by simp at hl; omega
    rw [List.zipIdx_cons, List.foldl_cons, zipFold off rest (k + 1) _ (by simp at hl ⊢; omega)]
    apply Array.ext_getElem?
    intro j
    rw [spl_get _ _ _ (by simp at hl ⊢; omega), spl_get _ _ _ (by simp at hl ⊢; omega)]
    by_cases h2 : off + (k + 1) ≤ j ∧ j < off + (k + 1) + rest.length
    · rw [if_pos h2, if_pos (by simp; omega), show j - (off + k) = (j - (off + (k + 1))) + 1 by omega]; simp
    · rw [if_neg h2, Array.getElem?_setIfInBounds]
      by_cases h3 : off + k = j
      · subst h3; rw [if_pos rfl, if_pos hi', if_pos (by simp)]; simp
      · rw [if_neg h3, if_neg (by simp; omega)]
theorem zipFoldA (off : Nat) (vs arr : Array Value) (hl : off + vs.size ≤ arr.size) : vs.zipIdx.foldl (fun cs (c, j) => cs.setIfInBounds (off + j) c) arr = spl arr off vs.toList := by
  have := zipFold off vs.toList 0 arr (by simpa using hl)
  rw [← Array.foldl_toList, Array.toList_zipIdx]
  exact this

inductive PR (ρ : Rho) : List (Nat × AV) → List (Nat × Value) → Prop
  | nil : PR ρ [] []
  | cons {i : Nat} {v : AV} {v' : Value} {l : List (Nat × AV)} {l' : List (Nat × Value)} (h : VR ρ v v') (hs : PR ρ l l') : PR ρ ((i, v) :: l) ((i, v') :: l')
theorem fillA_cons (place : Nat → Option (Nat × Nat)) (x : Nat × AV) (l : List (Nat × AV)) (c : List AV) : fillA place (x :: l) c = ocase (fill1 (place x.1) x.2 c) none (fillA place l) := rfl
theorem fill_ok {ρ : Rho} {place place' : Nat → Option (Nat × Nat)} (hp : ∀ i p, place i = some p → place' i = some p) {ps : List (Nat × AV)} {ps' : List (Nat × Value)} (hps : PR ρ ps ps') :
    ∀ {cells out : List AV} {arr : Array Value}, VRL ρ cells arr.toList → fillA place ps cells = some out → ∃ arr', Instr.fill place' arr ps' = some arr' ∧ VRL ρ out arr'.toList := by
  induction hps with
  | nil => intro cells out arr h e; cases e; exact ⟨arr, rfl, h⟩
  | @cons i v v' l l' h hs ih =>
    intro cells out arr hc e
    rw [fillA_cons] at e
    obtain ⟨c2, e1, e2⟩ := ocase_some_iff.1 e
    unfold fill1 at e1
    obtain ⟨p, e3, e1⟩ := ocase_some_iff.1 e1
    obtain ⟨e4, e1⟩ := bcase_none_iff.1 e1
    obtain ⟨e5, e1⟩ := bcase_none_iff.1 e1
    cases e1
    have e4 := nbeq_iff.1 e4
    have e5 := Nat.le_of_ble_eq_true e5
    rw [lenL_eq] at e4 e5
    have e5 : p.1 + p.2 ≤ cells.length := e5
    have hv := cells_VR h
    have hsz : v'.cells.size = p.2 := by rw [← e4, ← hv.length]; simp
    have hlen := hc.length
    have hfit : p.1 + v'.cells.size ≤ arr.size := by simp at hlen; omega
    have hnew : VRL ρ (takeL p.1 cells ++ (v.cells ++ dropL (Nat.add p.1 p.2) cells)) (spl arr p.1 v'.cells.toList).toList := by
      rw [takeL_eq, dropL_eq]
      unfold spl
      rw [List.append_assoc]
      refine (hc.take p.1).append (hv.append ?_)
      have := hc.drop (p.1 + p.2)
      rw [show p.1 + v'.cells.toList.length = p.1 + p.2 by simp [hsz]]
      exact this
    obtain ⟨arr', h1, h2⟩ := ih hnew e2
    refine ⟨arr', ?_, h2⟩
    unfold Instr.fill
    rw [hp _ _ e3]
    simp only
    rw [if_neg (by simp; omega), zipFoldA _ _ _ hfit]
    exact h1

theorem places_ok : ∀ (fs : List Field), fs.all (fun f => (P.info? f.type).isSome) = true →
    ∃ places, fs.mapM (fun f => (P.info? f.type).map fun i => (f.offset, i.size)) = some places ∧ ∀ i p, placesA P fs i = some p → places[i]? = some p
  | [], _ => ⟨[], rfl, fun i p h => by simp [placesA] at h⟩
  | f :: fs, h => by
    rw [List.all_cons, Bool.and_eq_true] at h
    obtain ⟨inf, hinf⟩ := Option.isSome_iff_exists.1 h.1
    obtain ⟨pl, h1, h2⟩ := places_ok fs h.2
    refine ⟨(f.offset, inf.size) :: pl, by simp [List.mapM_cons, hinf, h1], fun i p hp => ?_⟩
    cases i with
    | zero =>
      simp [placesA, sizeA, hinf] at hp
      simp [hp]
    | succ i =>
      have : placesA P fs i = some p := by simpa [placesA] using hp
      simpa using h2 i p this

theorem build_ok {ρ : Rho} {w : World} {t : TypeId} {ps : List (Nat × AV)} {ps' : Array (Nat × Value)} {v : AV} (hps : PR ρ ps ps'.toList) (h : buildA P t ps = some v) : OkP ρ w P v (Instr.build t ps') := by
  unfold buildA at h
  obtain ⟨z, hz, h⟩ := ocase_some_iff.1 h
  obtain ⟨f, hf, h⟩ := ocase_some_iff.1 h
  obtain ⟨l, hl, h⟩ := ocase_some_iff.1 h
  cases h
  obtain ⟨z', hz1, hz2⟩ := run_zeroValue' (P := P) hz w
  have hzc := cells_VR (hz2 ρ)
  unfold Instr.build
  unfold placeOf at hf
  split at hf
  · rename_i fields hu
    cases hall : fields.toList.all (fun f => (P.info? f.type).isSome) with
    | false => rw [hall] at hf; cases hf
    | true =>
      rw [hall] at hf; cases hf
      obtain ⟨pl, h1, h2⟩ := places_ok _ hall
      obtain ⟨arr', g1, g2⟩ := fill_ok (place' := (pl.toArray[·]?)) (fun i p hp => by simpa using h2 i p hp) hps hzc hl
      refine ⟨.agg arr', ?_, VR.agg_iff.2 ⟨_, rfl, g2⟩⟩
      simp only [List.getElem?_toArray] at g1
      simp [hz1, run_underlying' hu, Array.mapM_eq_mapM_toList, run_places w _ _ h1, g1]
  · rename_i n e hu
    split at hf
    · rename_i s hs
      cases hf
      obtain ⟨arr', g1, g2⟩ := fill_ok (place' := fun i => some (i * s, s)) (fun i p hp => hp) hps hzc hl
      refine ⟨.agg arr', ?_, VR.agg_iff.2 ⟨_, rfl, g2⟩⟩
      simp [hz1, run_underlying' hu, run_sizeOf' hs, g1]
    · cases hf
  · cases hf

theorem VRL.rep {ρ : Rho} {l : List AV} {vs : List Value} (h : VRL ρ l vs) : ∀ n, VRL ρ (repL l n) (List.replicate n vs).flatten
  | 0 => VRL.nil
  | n + 1 => by rw [repL_eq, List.replicate_succ, List.flatten_cons]; exact h.append (VRL.rep h n)
theorem zeros_eq (z : Array Value) (n : Nat) : ((Array.range (n * z.size)).map (fun i => z[i % z.size]!)).toList = (List.replicate n z.toList).flatten := by
  induction n with
  | zero => simp
  | succ n ih =>
    rw [List.replicate_succ', List.flatten_append, ← ih]
    apply List.ext_getElem?
    intro i
    by_cases h1 : i < n * z.size
    · rw [List.getElem?_append_left (by simp; exact h1)]
      have h2 : i < (n + 1) * z.size := by rw [Nat.add_mul]; omega
      simp [h1, h2]
    · rw [List.getElem?_append_right (by simp; omega)]
      simp only [Array.toList_map, Array.toList_range, List.length_map, List.length_range, List.flatten_cons, List.flatten_nil, List.append_nil]
      by_cases h2 : i < (n + 1) * z.size
      · have h3 : i - n * z.size < z.size := by rw [Nat.add_mul] at h2; omega
        have h4 : i % z.size = i - n * z.size := by
          have hc : z.size * n = n * z.size := Nat.mul_comm _ _
          have : i = (i - n * z.size) + z.size * n := by omega
          have e : i % z.size = ((i - n * z.size) + z.size * n) % z.size := congrArg (· % z.size) this
          rw [e, Nat.add_mul_mod_self_left, Nat.mod_eq_of_lt h3]
        simp [h2, h3, h4]
      · rw [Nat.add_mul] at h2
        rw [List.getElem?_eq_none (by simp [Nat.add_mul]; omega), List.getElem?_eq_none (by simp; omega)]
theorem slZero_some {t : TypeId} {len : Nat} {z : TypeId × Nat × List AV} (h : slZero P t len = some z) :
    P.underlying t = some (.slice z.1) ∧ sizeA P z.1 = some z.2.1 ∧ len * z.2.1 ≤ 16777216 ∧ 1 ≤ z.2.1 ∧ ∃ v, zeroA P z.1 = some v ∧ lenL v.cells = z.2.1 ∧ z.2.2 = repL v.cells len := by
  unfold slZero at h
  split at h
  · rename_i e hu
    split at h
    · rename_i s v hs hv
      cases hc : (Nat.ble (Nat.mul len s) 16777216 && Nat.beq (lenL v.cells) s && Nat.ble 1 s) with
      | false => rw [hc] at h; cases h
      | true =>
        rw [hc] at h; cases h
        rw [Bool.and_eq_true, Bool.and_eq_true, nbeq_iff] at hc
        exact ⟨hu, hs, Nat.le_of_ble_eq_true hc.1.1, Nat.le_of_ble_eq_true hc.2, v, hv, hc.1.2, rfl⟩
    · cases h
  · cases h
theorem mul_place {s i : Nat} {p : Nat × Nat} (h : (fun i => some (Nat.mul i s, s)) i = some p) : (fun i => some (i * s, s)) i = some p := h
theorem buildSlice_ok {ρ : Rho} {h : Heap} {w : World} (sm : Sim ρ h w) {t : TypeId} {len : Nat} {ps : List (Nat × AV)} {ps' : Array (Nat × Value)} {x : AV × Heap} (hps : PR ρ ps ps'.toList)
    (hb : buildSliceA P h t len ps = some x) : OkV ρ h w P x.1 x.2 (Instr.buildSlice t len ps') := by
  unfold buildSliceA at hb
  obtain ⟨z, hz, hb⟩ := ocase_some_iff.1 hb
  obtain ⟨l, hl, hb⟩ := ocase_some_iff.1 hb
  obtain ⟨h1, hb⟩ := bcase_none_iff.1 hb
  cases hb
  obtain ⟨hu, hs, hle, hpos, v, hv, hvl, hrep⟩ := slZero_some hz
  obtain ⟨z', hz1, hz2⟩ := run_zeroValue' (P := P) hv w
  have hzc := cells_VR (hz2 ρ)
  have hzs : z'.cells.size = z.2.1 := by rw [← hvl, lenL_eq, ← hzc.length]; simp
  by_cases hn : len = 0
  · subst hn
    have e0 : z.2.2 = [] := hrep
    rw [e0] at hl
    obtain ⟨arr', g1, g2⟩ := fill_ok (place' := fun i => some (i * z.2.1, z.2.1)) (arr := #[]) (fun i p hp => hp) hps VRL.nil hl
    obtain ⟨ρ', w', k1, k2, k3, k4⟩ := newRow_ok (P := P) (t := z.1) (k := .ex) sm rfl g2
    refine ⟨ρ', .slice (some ⟨w.heap.size, 0, none⟩) 0 0, w', ?_, VR.slice_iff.2 ⟨_, _, k2, rfl⟩, k3, k4⟩
    unfold Instr.buildSlice
    have e00 : 0 * z.2.1 = 0 := Nat.zero_mul _
    have e01 : ¬ 0 > 2 ^ 24 := by decide
    have e02 : (Array.range 0).map (fun i => (#[] : Array Value)[i % (#[] : Array Value).size]!) = #[] := by simp
    simp only [Sem.run_bind, run_underlying' hu, run_sizeOf' hs, Result.andThen_ok, Sem.run_ite, e00, if_neg e01, if_true, Sem.run_pure, e02, g1, k1]
  · have hne : ¬ len * z.2.1 = 0 := by rw [Nat.mul_eq_zero]; omega
    have hcells : VRL ρ z.2.2 ((Array.range (len * z.2.1)).map (fun i => z'.cells[i % z'.cells.size]!)).toList := by
      rw [← hzs, zeros_eq, hrep]; exact hzc.rep len
    obtain ⟨arr', g1, g2⟩ := fill_ok (place' := fun i => some (i * z.2.1, z.2.1)) (fun i p hp => hp) hps hcells hl
    obtain ⟨ρ', w', k1, k2, k3, k4⟩ := newRow_ok (P := P) (t := z.1) (k := .ex) sm rfl g2
    refine ⟨ρ', .slice (some ⟨w.heap.size, 0, none⟩) len len, w', ?_, VR.slice_iff.2 ⟨_, _, k2, rfl⟩, k3, k4⟩
    unfold Instr.buildSlice
    have hle' : ¬ len * z.2.1 > 2 ^ 24 := by have : (2:Nat)^24 = 16777216 := by decide
                                             omega
    simp only [Sem.run_bind, run_underlying' hu, run_sizeOf' hs, Result.andThen_ok, Sem.run_ite, if_neg hle', if_neg hne, Sem.run_pure, hz1]
    simp [g1, k1]
end
end Go.Ev

namespace Go.Ev
open Go
section
variable {P : Program}

theorem run_asInt' (k : IntKind) (n : Int) (w : World) : (Go.asInt (.int k n)).run P w = .ok n w := rfl
theorem newObj_ok {ρ : Rho} {h : Heap} {w : World} (s : Sim ρ h w) {x : ABlk} {o : Obj} (hb : ∀ ρ', Rle ρ ρ' → BR ρ' 0 x o) (hw : wr x = true) :
    ∃ ρ' w', (newObj o).run P w = .ok w.heap.size w' ∧ ρ' h.next = some (w.heap.size, 0) ∧ Sim ρ' (h.new x) w' ∧ Ext ρ h w ρ' (h.new x) w' := by
  have hle := Rho.ext_le (x := (w.heap.size, 0)) (s.fresh _ (Nat.le_refl _))
  have := s.alloc (c := 0) (hb _ hle) hw
  exact ⟨_, _, rfl, Rho.ext_same _ _ _, this.1, this.2⟩

theorem newMap_ok {ρ : Rho} {h : Heap} {w : World} (s : Sim ρ h w) {t k e : TypeId} (_ : P.underlying t = some (.map k e)) : OkV ρ h w P (.map h.next) (h.new (.map [] 0)) (do pure (.map (some (← newObj (.map #[] 0))))) := by
  obtain ⟨ρ', w', h1, h2, h3, h4⟩ := newObj_ok (P := P) s (x := .map [] 0) (o := .map #[] 0) (fun ρ' _ => ⟨#[], rfl, .nil⟩) rfl
  exact ⟨ρ', _, w', by rw [Sem.run_bind, h1]; rfl, VR.map_iff.2 ⟨_, _, h2, rfl⟩, h3, h4⟩
theorem makeMap_ok {ρ : Rho} {h : Heap} {w : World} (s : Sim ρ h w) {t : TypeId} {r : Option Operand} {ev : Ev} {r' : Option Value} (hr : ∀ x, r = some x → ∀ a, ev x = some a → ∃ a', r' = some a' ∧ VR ρ a a') (hn : r = none → r' = none) :
    OpOk P ρ h w (opMakeMap t r P ev h) (do pure (.value (← Instr.makeMap t r'))) := by
  have key : ∀ (q : r' = none ∨ ∃ k n, r' = some (.int k n)), OpOk P ρ h w (newMap P t h) (do pure (.value (← Instr.makeMap t r'))) := by
    intro q
    unfold newMap
    split
    · rename_i k e hu
      obtain ⟨ρ', v', w', h1, h2⟩ := newMap_ok (P := P) s hu
      refine OpOk.ofV ⟨ρ', v', w', ?_, h2⟩
      unfold Instr.makeMap
      rcases q with rfl | ⟨k', n', rfl⟩
      · exact h1
      · simp only [Sem.run_bind, run_underlying' hu, Result.andThen_ok, run_asInt', Sem.run_pure] at h1 ⊢
        exact h1
    · trivial
  unfold opMakeMap
  cases r with
  | none => exact key (.inl (hn rfl))
  | some x =>
    simp only
    split
    · rename_i k n he
      obtain ⟨a', h1, h2⟩ := hr x rfl _ he
      obtain ⟨rfl, _⟩ := VR.int_iff.1 h2
      exact key (.inr ⟨_, _, h1⟩)
    · trivial

theorem wrap_small (n : Nat) (h : n ≤ 1000000) : IntKind.i64.wrap (n : Int) = (n : Int) := wrap_in (k := .i64) (.inl ⟨by omega, by show (n : Int) ≤ ((9223372036854775807 : Nat) : Int); omega⟩)
theorem makeSlice_ok {ρ : Rho} {h : Heap} {w : World} (s : Sim ρ h w) {t : TypeId} {a b : AV} {a' b' : Value} {x : AV × Heap} (ha : VR ρ a a') (hb : VR ρ b b') (hm : makeSliceA P h t a b = some x) :
    OkV ρ h w P x.1 x.2 (Instr.makeSlice t a' b') := by
  unfold makeSliceA at hm
  split at hm
  · rename_i elem l c hu hl hc
    split at hm
    · rename_i inf z hi hz
      cases hcond : (Nat.ble l c && Nat.ble c 1000000 && Nat.ble inf.bytes 1000000 && Nat.beq (lenL z.cells) inf.size && allOne z.cells && Nat.ble 1 inf.size) with
      | false => rw [hcond] at hm; cases hm
      | true =>
        rw [hcond] at hm; cases hm
        simp only [Bool.and_eq_true, Nat.ble_eq, nbeq_iff] at hcond
        obtain ⟨⟨⟨⟨⟨g1, g2⟩, g3⟩, g4⟩, g5⟩, g6⟩ := hcond
        obtain ⟨ka, rfl⟩ := natOf_VR hl ha
        obtain ⟨kb, rfl⟩ := natOf_VR hc hb
        obtain ⟨z', hz1, hz2⟩ := run_zeroValue' (P := P) hz w
        have hzc := cells_VR (hz2 ρ)
        have hzs : z'.cells.size = inf.size := by rw [← g4, lenL_eq, ← hzc.length]; simp
        have hs : sizeA P elem = some inf.size := by unfold sizeA; rw [hi]
        have hbytes : (inf.bytes : Int) * (c : Int) ≤ 1000000000000 := by
          have : inf.bytes * c ≤ 1000000 * 1000000 := Nat.mul_le_mul g3 g2
          have h9 : ((inf.bytes * c : Nat) : Int) ≤ ((1000000 * 1000000 : Nat) : Int) := Int.ofNat_le.2 this
          rw [Int.natCast_mul] at h9
          omega
        have hcells : VRL ρ (repL z.cells c) ((Array.range (c * inf.size)).map (fun i => z'.cells[i % z'.cells.size]!)).toList := by
          rw [← hzs, zeros_eq]; exact hzc.rep c
        obtain ⟨ρ', w', k1, k2, k3, k4⟩ := newRow_ok (P := P) (t := elem) (k := .ex) s rfl hcells
        refine ⟨ρ', .slice (some ⟨w.heap.size, 0, none⟩) l c, w', ?_, VR.slice_iff.2 ⟨_, _, k2, rfl⟩, k3, k4⟩
        unfold Instr.makeSlice
        have ht : ∀ n : Int, n = (c : Int) → (decide (n < 0) || decide (inf.bytes * n > 2 ^ 48)) = false := by
          rintro n rfl
          have h48 : (2 : Int) ^ 48 = 281474976710656 := by decide
          rw [Bool.or_eq_false_iff, decide_eq_false_iff_not, decide_eq_false_iff_not, h48]
          omega
        have hif : ¬ ((((decide ((c : Int) < 0) || decide (inf.bytes * (c : Int) > 2 ^ 48)) || decide ((l : Int) < 0)) || decide ((l : Int) > c)) = true) := by
          rw [ht _ rfl, Bool.false_or, Bool.or_eq_true, decide_eq_true_iff, decide_eq_true_iff]; omega
        simp only [Sem.run_bind, run_underlying' hu, Result.andThen_ok, run_asInt', Sem.run_pure, run_typeInfo' hi, wrap_small l (by omega), wrap_small c g2]
        rw [if_neg hif]
        simp only [Sem.run_bind, run_askRoom, run_sizeOf' hs, Result.andThen_ok, Int.toNat_natCast, Sem.run_pure]
        by_cases hn : c * inf.size = 0
        · have hc0 : c = 0 := by
            rcases Nat.mul_eq_zero.1 hn with h0 | h0
            · exact h0
            · omega
          rw [if_pos hn]
          have e1 : (Array.range (c * inf.size)).map (fun i => z'.cells[i % z'.cells.size]!) = #[] := by rw [hn]; simp
          have e2 : (Array.range (c * inf.size)).map (fun i => (#[] : Array Value)[i % (#[] : Array Value).size]!) = #[] := by rw [hn]; simp
          rw [e1] at k1
          simp only [Sem.run_bind, Sem.run_pure, Result.andThen_ok, e2, k1]
        · rw [if_neg hn]
          simp only [Sem.run_bind, hz1, Sem.run_pure, Result.andThen_ok, k1]
    · cases hm
  · cases hm

theorem typeAssert_ok {ρ : Rho} {w : World} {x v : AV} {x' : Value} {xt t : TypeId} {ok : Bool} (hx : VR ρ x x') (h : typeAssertA P x t ok = some v) : OkP ρ w P v (Instr.typeAssert x' xt t ok) := by
  unfold typeAssertA at h
  split at h
  · cases h
  · rename_i d hnot hu
    have hd : ∀ m, d ≠ .interface m := fun m e => hnot m e
    unfold Instr.typeAssert
    split at h
    · rename_i t' v'
      obtain ⟨y, rfl, hy⟩ := VR.iface_iff.1 hx
      cases ht : Nat.beq t' t with
      | true =>
        rw [ht] at h; cases h
        have := nbeq_iff.1 ht; subst this
        refine ⟨if ok then .tuple #[y, .bool true] else y, ?_, ?_⟩
        · simp only [Sem.run_bind, run_underlying' hu, Result.andThen_ok]
          cases d <;> first | exact absurd rfl (hd _) | simp
        · cases ok with
          | true => exact VR.tuple_iff.2 ⟨_, rfl, VRL.cons hy (VRL.cons (VR.bool_iff.2 rfl) VRL.nil)⟩
          | false => exact hy
      | false =>
        rw [ht] at h
        have hne : ¬ t' = t := fun e => by rw [nbeq_iff.2 e] at ht; cases ht
        cases ok with
        | false => cases h
        | true =>
          simp only [cond_false, cond_true] at h
          split at h
          · rename_i z hz
            cases h
            obtain ⟨z', hz1, hz2⟩ := run_zeroValue' (P := P) hz w
            refine ⟨.tuple #[z', .bool false], ?_, VR.tuple_iff.2 ⟨_, rfl, VRL.cons (hz2 ρ) (VRL.cons (VR.bool_iff.2 rfl) VRL.nil)⟩⟩
            simp only [Sem.run_bind, run_underlying' hu, Result.andThen_ok]
            cases d <;> first | exact absurd rfl (hd _) | simp [hne, hz1]
          · cases h
    · simp only [VR] at hx; subst hx
      cases ok with
      | false => cases h
      | true =>
        simp only [cond_true] at h
        split at h
        · rename_i z hz
          cases h
          obtain ⟨z', hz1, hz2⟩ := run_zeroValue' (P := P) hz w
          refine ⟨.tuple #[z', .bool false], ?_, VR.tuple_iff.2 ⟨_, rfl, VRL.cons (hz2 ρ) (VRL.cons (VR.bool_iff.2 rfl) VRL.nil)⟩⟩
          simp only [Sem.run_bind, run_underlying' hu, Result.andThen_ok]
          cases d <;> first | exact absurd rfl (hd _) | simp [hz1]
        · cases h
    · cases h
  · cases h

theorem mkIface_ok {ρ : Rho} {h : Heap} {w : World} (s : Sim ρ h w) {t : TypeId} {x : AV} {x' : Value} (hx : VR ρ x x') : OpOk P ρ h w (mkIface P t x h) (do pure (.value (← Instr.makeInterface t x'))) := by
  unfold mkIface
  split
  · trivial
  · rename_i d hnot hu
    have hd : ∀ m, d ≠ .interface m := fun m e => hnot m e
    refine OpOk.ofV (OkP.toV ⟨.iface t x', ?_, VR.iface_iff.2 ⟨_, rfl, hx⟩⟩ s)
    unfold Instr.makeInterface
    simp only [Sem.run_bind, run_underlying' hu, Result.andThen_ok]
    rfl
  · trivial

theorem extract_ok {ρ : Rho} {w : World} {x v : AV} {i : Nat} {l : List AV} {x' : Value} (hx : VR ρ x x') (hl : asTuple x = some l) (h : nthL i l = some v) : OkP ρ w P v (Instr.extract x' i) := by
  rw [asTuple_some hl] at hx
  obtain ⟨a, rfl, ha⟩ := VR.tuple_iff.1 hx
  rw [nthL_eq] at h
  obtain ⟨u, h1, h2⟩ := ha.get _ _ h
  refine ⟨u, ?_, h2⟩
  unfold Instr.extract
  have h1 : a[i]? = some u := by simpa using h1
  simp only [h1]
  rfl
end
end Go.Ev

namespace Go.Ev
open Go
section
variable {P : Program}

theorem all_mem {α : Type} {l : List α} {f : α → Bool} (h : l.all f = true) {x : α} (hx : x ∈ l) : f x = true := List.all_eq_true.1 h x hx
theorem forIn_unit {α : Type} (w : World) (body : α → PUnit → Sem (ForInStep PUnit)) : ∀ (l : List α), (∀ a ∈ l, (body a ⟨⟩).run P w = .ok (.yield ⟨⟩) w) → (forIn l PUnit.unit body).run P w = .ok ⟨⟩ w
  | [], _ => rfl
  | a :: l, h => by
    rw [List.forIn_cons, Sem.run_bind, h a (by simp), Result.andThen_ok]
    exact forIn_unit w body l fun b hb => h b (by simp [hb])
theorem checkKey_ok {ρ : Rho} {w : World} {e : Bool} : ∀ (d D : Nat) (t : TypeId) (v : AV) (v' : Value), d ≤ D → VR ρ v v' → keyOk P d t v = true → (Instr.checkKey e D t v').run P w = .ok () w
  | 0, _, _, _, _, _, _, h => by cases h
  | d + 1, 0, _, _, _, hd, _, _ => absurd hd (by omega)
  | d + 1, D + 1, t, v, v', hd, hv, h => by
    unfold keyOk at h
    unfold Instr.checkKey
    split at h
    · rename_i hu
      obtain ⟨rfl, _⟩ := VR.int_iff.1 hv
      rw [Sem.run_bind, run_underlying' hu]; rfl
    · rename_i hu
      obtain ⟨l, rfl, _⟩ := VR.str_iff.1 hv
      rw [Sem.run_bind, run_underlying' hu]; rfl
    · rename_i hu
      obtain ⟨l, rfl, _⟩ := VR.sstr_iff.1 hv
      rw [Sem.run_bind, run_underlying' hu]; rfl
    · rename_i hu
      rw [VR.bool_iff.1 hv, Sem.run_bind, run_underlying' hu]; rfl
    · rename_i fields l hu
      obtain ⟨arr, rfl, ha⟩ := VR.agg_iff.1 hv
      rw [Sem.run_bind, run_underlying' hu, Result.andThen_ok]
      simp only [Sem.run_bind]
      rw [← Array.forIn_toList]
      refine (congrArg (fun z => Result.andThen z _) (forIn_unit w _ fields.toList fun f hf => ?_)).trans rfl
      have h1 := all_mem h hf
      by_cases hn : f.name = "_"
      · rw [if_neg (by simpa using hn)]; rfl
      · rw [if_pos hn]
        have hn' : (f.name == "_") = false := by simpa using hn
        rw [hn', Bool.false_or] at h1
        split at h1
        · rename_i x hx
          obtain ⟨x', g1, g2⟩ := part_ok (w := w) ha hx
          simp only [Sem.run_bind, g1, Result.andThen_ok, checkKey_ok d D f.type x x' (by omega) g2 h1, Sem.run_pure]
        · cases h1
    · rename_i len elem l hu
      obtain ⟨arr, rfl, ha⟩ := VR.agg_iff.1 hv
      rw [Sem.run_bind, run_underlying' hu, Result.andThen_ok]
      split at h
      · rename_i s hs
        simp only [Sem.run_bind]
        rw [Std.Legacy.Range.forIn_eq_forIn_range']
        have e0 : ([:len] : Std.Legacy.Range).size = len := by simp [Std.Legacy.Range.size]
        rw [e0]
        refine (congrArg (fun z => Result.andThen z _) (forIn_unit w _ (List.range' 0 len) fun i hi => ?_)).trans rfl
        have h1 := all_mem h (x := i) (by rw [List.mem_range]; rw [List.mem_range'_1] at hi; omega)
        split at h1
        · rename_i x hx
          obtain ⟨x', g1, g2⟩ := part_ok (w := w) ha hx
          simp only [Sem.run_bind, run_sizeOf' hs, g1, Result.andThen_ok, checkKey_ok d D elem x x' (by omega) g2 h1, Sem.run_pure]
        · cases h1
      · cases h
    · cases h

theorem sameB_ok {ρ : Rho} {a b : AV} {x y : UInt8} (h : sameB a b = true) (ha : VR ρ a (.int .u8 (x.toNat : Int))) (hb : VR ρ b (.int .u8 (y.toNat : Int))) : x = y := by
  unfold sameB at h
  split at h
  · rw [bcase_and, Bool.and_eq_true, nbeq_iff] at h
    obtain ⟨h1, rfl⟩ := h
    have := kcode_inj h1; subst this
    obtain ⟨e1, _⟩ := VR.int_iff.1 ha
    obtain ⟨e2, _⟩ := VR.int_iff.1 hb
    injection e1 with k1 e1
    subst k1
    injection e2 with _ e2
    exact UInt8.toNat_inj.1 (by omega)
  · rw [bcase_and, bcase_and, Bool.and_eq_true, Bool.and_eq_true, nbeq_iff] at h
    obtain ⟨h1, rfl, h2⟩ := h
    have := beqT_eq _ _ h2; subst this
    obtain ⟨n, e1, g1, _⟩ := VR.sint_iff.1 ha
    obtain ⟨m, e2, g2, _⟩ := VR.sint_iff.1 hb
    injection e1 with _ e1
    injection e2 with _ e2
    have := g1.same g2
    exact UInt8.toNat_inj.1 (by omega)
  · cases h
theorem sameTx_ok {ρ : Rho} : ∀ {l m : List AV} {s t : List UInt8}, sameTx l m = true → VRL ρ l (bv s) → VRL ρ m (bv t) → s = t
  | [], [], s, t, _, hl, hm => by
    have h1 := hl.len_bv
    have h2 := hm.len_bv
    rw [List.length_eq_zero_iff.1 h1, List.length_eq_zero_iff.1 h2]
  | [], _ :: _, s, t, h, _, _ => by cases h
  | _ :: _, [], s, t, h, _, _ => by cases h
  | a :: l, b :: m, s, t, h, hl, hm => by
    have h : bcase (sameB a b) (sameTx l m) false = true := h
    rw [bcase_and, Bool.and_eq_true] at h
    obtain ⟨u, us, e1, g1, g2⟩ := VRL.cons_iff.1 hl
    obtain ⟨v, vs, e2, g3, g4⟩ := VRL.cons_iff.1 hm
    cases s with
    | nil => cases e1
    | cons x s =>
      cases t with
      | nil => cases e2
      | cons y t =>
        injection e1 with e1 e3
        injection e2 with e2 e4
        subst e1; subst e2; subst e3; subst e4
        rw [sameB_ok h.1 g1 g3, sameTx_ok h.2 g2 g4]
theorem same1_ok {ρ : Rho} {x y : AV} {x' y' : Value} (hx : VR ρ x x') (hy : VR ρ y y') (h : same1 x y = true) (D : Nat) : Instr.sameBits D x' y' = true := by
  unfold same1 at h
  split at h
  · rw [bcase_and, Bool.and_eq_true, nbeq_iff] at h
    obtain ⟨h1, rfl⟩ := h
    have := kcode_inj h1; subst this
    obtain ⟨rfl, _⟩ := VR.int_iff.1 hx
    obtain ⟨rfl, _⟩ := VR.int_iff.1 hy
    unfold Instr.sameBits; simp
  · rw [bcase_and, Bool.and_eq_true, nbeq_iff, nbeq_iff] at h
    obtain ⟨rfl, rfl⟩ := h
    obtain ⟨l, rfl, h1, h2⟩ := VR.str_iff.1 hx
    obtain ⟨m, rfl, h3, h4⟩ := VR.str_iff.1 hy
    have := pack_inj l m (by omega) (by omega); subst this
    unfold Instr.sameBits; rw [str_beq]; simp
  · rw [VR.bool_iff.1 hx, VR.bool_iff.1 hy]
    unfold Instr.sameBits; exact h
  · obtain ⟨l, rfl, h1⟩ := VR.sstr_iff.1 hx
    obtain ⟨m, rfl, h2⟩ := VR.sstr_iff.1 hy
    have := sameTx_ok h h1 h2
    subst this
    unfold Instr.sameBits; rw [str_beq]; simp
  · cases h
theorem sameL_ok {ρ : Rho} (D : Nat) : ∀ {l m : List AV} {l' m' : List Value}, VRL ρ l l' → VRL ρ m m' → sameL l m = true → l'.length = m'.length ∧ (l'.zip m').all (fun (x, y) => Instr.sameBits D x y) = true
  | [], m, l', m', hl, hm, h => by
    cases m with
    | nil => rw [VRL.nil_iff.1 hl, VRL.nil_iff.1 hm]; exact ⟨rfl, rfl⟩
    | cons b m => cases h
  | a :: l, m, l', m', hl, hm, h => by
    cases m with
    | nil => cases h
    | cons b m =>
      have h : bcase (same1 a b) (sameL l m) false = true := h
      rw [bcase_and, Bool.and_eq_true] at h
      obtain ⟨v, vs, rfl, h1, h2⟩ := VRL.cons_iff.1 hl
      obtain ⟨u, us, rfl, h3, h4⟩ := VRL.cons_iff.1 hm
      obtain ⟨g1, g2⟩ := sameL_ok D h2 h4 h.2
      refine ⟨by simp [g1], ?_⟩
      rw [List.zip_cons_cons, List.all_cons, g2, Bool.and_true]; exact same1_ok h1 h3 h.1 D
theorem sameK_ok {ρ : Rho} {x y : AV} {x' y' : Value} (hx : VR ρ x x') (hy : VR ρ y y') (h : sameK x y = true) (D : Nat) : Instr.sameBits (D + 1) x' y' = true := by
  unfold sameK at h
  split at h
  · obtain ⟨a, rfl, ha⟩ := VR.agg_iff.1 hx
    obtain ⟨b, rfl, hb⟩ := VR.agg_iff.1 hy
    obtain ⟨g1, g2⟩ := sameL_ok D ha hb h
    unfold Instr.sameBits
    rw [Bool.and_eq_true, beq_iff_eq]
    exact ⟨by simpa using g1, g2⟩
  · exact same1_ok hx hy h (D + 1)
theorem run_keyThatStays {ρ : Rho} {w : World} {x y : AV} {x' y' : Value} (hx : VR ρ x x') (hy : VR ρ y y') (h : sameK x y = true) : (Instr.keyThatStays x' y').run P w = .ok y' w := by
  unfold Instr.keyThatStays
  rw [if_pos (sameK_ok hx hy h 9999)]; rfl

def FR (ρ : Rho) (es : List AEnt) (ms : List MapEntry) (i : Nat) : Option (Nat × AEnt) → Option (Nat × Value) → Prop
  | none, r => r = none
  | some (j, e), r => ∃ m : MapEntry, r = some (j, m.val) ∧ i ≤ j ∧ es[j - i]? = some e ∧ ms[j - i]? = some m ∧ VR ρ e.key m.key ∧ VR ρ e.val m.val ∧ m.born = e.born
theorem FR.shift {ρ : Rho} {e0 : AEnt} {m0 : MapEntry} {es : List AEnt} {ms : List MapEntry} {i : Nat} {a : Option (Nat × AEnt)} {r : Option (Nat × Value)} (h : FR ρ es ms (i + 1) a r) : FR ρ (e0 :: es) (m0 :: ms) i a r := by
  cases a with
  | none => exact h
  | some p =>
    obtain ⟨m, h1, h2, h3, h4, h5⟩ := h
    refine ⟨m, h1, by omega, ?_, ?_, h5⟩
    · rw [show p.1 - i = (p.1 - (i + 1)) + 1 by omega]; simpa using h3
    · rw [show p.1 - i = (p.1 - (i + 1)) + 1 by omega]; simpa using h4
theorem findA_cons (t : TypeId) (k : AV) (e : AEnt) (es : List AEnt) (i : Nat) : findA P t k (e :: es) i = (match aeqF P 20 t k e.key with
    | some r => bif r then some (some (i, e)) else findA P t k es (i + 1)
    | none => none) := rfl
theorem sameNow_ok {w : World} {t : TypeId} {d : TypeDesc} {x y : Value} {b r : Bool} (hd : P.underlying t = some d) (h : Instr.sameNow d x y = some b) (hr : (Op.equal t x y).run P w = .ok r w) : b = r := by
  have hr : (Op.equalIn (9999 + 1) t x y).run P w = .ok r w := hr
  unfold Op.equalIn at hr
  rw [Sem.run_bind, run_underlying' hd, Result.andThen_ok] at hr
  unfold Instr.sameNow at h
  split at h
  · rename_i k0 k a k' a'
    split at h
    · rename_i hk
      cases h
      simp only [if_pos hk, Sem.run_pure] at hr
      cases hr; rfl
    · cases h
  · cases h
    simp only [Sem.run_pure] at hr
    cases hr; rfl
  · cases h
    simp only [Sem.run_pure] at hr
    cases hr; rfl
  · cases h
theorem findNow_ok {ρ : Rho} {w : World} {t : TypeId} {d : TypeDesc} (hd : P.underlying t = some d) {k : AV} {k' : Value} (hk : VR ρ k k') {es : List AEnt} {ms : List MapEntry} (hm : ER ρ es ms) :
    ∀ {i : Nat} {a : Option (Nat × AEnt)} {r : Option (Nat × Value)}, findA P t k es i = some a → Instr.findNow d k' ms i = some r → FR ρ es ms i a r := by
  induction hm with
  | nil => intro i a r h1 h2; cases h1; cases h2; rfl
  | @cons e es m ms h1 h2 h3 h4 ih =>
    intro i a r ha hr
    rw [findA_cons] at ha
    unfold Instr.findNow at hr
    split at ha
    · rename_i q hq
      have heq := equal_ok (w := w) hq hk h1
      split at hr
      · rename_i hs
        have := sameNow_ok hd hs heq; subst this
        cases ha; cases hr
        exact ⟨m, rfl, Nat.le_refl _, by simp, by simp, h1, h2, h3⟩
      · rename_i hs
        have := sameNow_ok hd hs heq; subst this
        exact (ih ha hr).shift
      · cases hr
    · cases ha
theorem findAsking_ok {ρ : Rho} {w : World} {t : TypeId} {k : AV} {k' : Value} (hk : VR ρ k k') {es : List AEnt} {ms : List MapEntry} (hm : ER ρ es ms) :
    ∀ {i : Nat} {a : Option (Nat × AEnt)}, findA P t k es i = some a → ∃ r, (Instr.findAsking t k' ms i).run P w = .ok r w ∧ FR ρ es ms i a r := by
  induction hm with
  | nil => intro i a h; cases h; exact ⟨none, rfl, rfl⟩
  | @cons e es m ms h1 h2 h3 h4 ih =>
    intro i a ha
    rw [findA_cons] at ha
    unfold Instr.findAsking
    split at ha
    · rename_i q hq
      rw [Sem.run_bind, equal_ok (w := w) hq hk h1, Result.andThen_ok]
      cases q with
      | true =>
        cases ha
        exact ⟨some (i, m.val), rfl, m, rfl, Nat.le_refl _, by simp, by simp, h1, h2, h3⟩
      | false =>
        obtain ⟨r, g1, g2⟩ := ih ha
        exact ⟨r, g1, g2.shift⟩
    · cases ha
theorem findKey_ok {ρ : Rho} {w : World} {t : TypeId} {d : TypeDesc} (hd : P.underlying t = some d) {k : AV} {k' : Value} (hk : VR ρ k k') {es : List AEnt} {ms : List MapEntry} (hm : ER ρ es ms) {a : Option (Nat × AEnt)}
    (h : findA P t k es 0 = some a) : ∃ r, (Instr.findKey t k' ms).run P w = .ok r w ∧ FR ρ es ms 0 a r := by
  unfold Instr.findKey
  rw [Sem.run_bind, run_underlying' hd, Result.andThen_ok]
  cases hn : Instr.findNow d k' ms 0 with
  | some r => exact ⟨r, rfl, findNow_ok (w := w) hd hk hm h hn⟩
  | none => exact findAsking_ok hk hm h

theorem map_of {ρ : Rho} {h : Heap} {w : World} (s : Sim ρ h w) {b : Nat} {es : List AEnt} {clock : Nat} (hb : h.get b = some (.map es clock)) :
    ∃ r c res, ρ b = some (r, c) ∧ w.heap[r]? = some (.map res clock) ∧ ER ρ es res.toList := by
  obtain ⟨r, c, o, h1, h2, res, rfl, h3⟩ := s.blk _ _ hb
  exact ⟨r, c, res, h1, h2, h3⟩
def isRow : Obj → Bool
  | .cells _ _ _ => true
  | _ => false
theorem run_getObj {w : World} {r : Nat} {o : Obj} (h : w.heap[r]? = some o) (ho : isRow o = false := by rfl) : (getObj r).run P w = .ok o w := by
  unfold getObj; simp only [Sem.run, h]
  cases o <;> first | rfl | cases ho
theorem run_setObj {w : World} {r : Nat} {o o' : Obj} (h : w.heap[r]? = some o') (ho : isRow o' = false := by rfl) : (setObj r o).run P w = .ok () { w with heap := w.heap.setIfInBounds r o } := by
  unfold setObj; simp only [Sem.run, h]
  cases o' <;> first | rfl | cases ho

theorem ER.get {ρ : Rho} : ∀ {es : List AEnt} {ms : List MapEntry}, ER ρ es ms → ∀ {i : Nat} {e : AEnt}, es[i]? = some e → ∃ m, ms[i]? = some m ∧ VR ρ e.key m.key ∧ VR ρ e.val m.val ∧ m.born = e.born
  | _, _, .nil, i, e, h => by simp at h
  | _, _, .cons hk hv hb hs, i, e, h => by
    cases i with
    | zero => simp at h; subst h; exact ⟨_, by simp, hk, hv, hb⟩
    | succ i => simpa using hs.get (by simpa using h)
theorem ER.length {ρ : Rho} : ∀ {es : List AEnt} {ms : List MapEntry}, ER ρ es ms → ms.length = es.length
  | _, _, .nil => rfl
  | _, _, .cons _ _ _ hs => by simp [hs.length]
theorem ER.append {ρ : Rho} : ∀ {es es' : List AEnt} {ms ms' : List MapEntry}, ER ρ es ms → ER ρ es' ms' → ER ρ (es ++ es') (ms ++ ms')
  | _, _, _, _, .nil, h => h
  | _, _, _, _, .cons hk hv hb hs, h => .cons hk hv hb (hs.append h)
theorem modA_zero (f : AEnt → AEnt) (e : AEnt) (l : List AEnt) : modA f 0 (e :: l) = f e :: l := rfl
theorem modA_succ (f : AEnt → AEnt) (n : Nat) (e : AEnt) (l : List AEnt) : modA f (n + 1) (e :: l) = e :: modA f n l := rfl
theorem remA_zero (e : AEnt) (l : List AEnt) : remA 0 (e :: l) = l := rfl
theorem remA_succ (n : Nat) (e : AEnt) (l : List AEnt) : remA (n + 1) (e :: l) = e :: remA n l := rfl
theorem ER.mod {ρ : Rho} {f : AEnt → AEnt} {g : MapEntry → MapEntry} : ∀ {es : List AEnt} {ms : List MapEntry}, ER ρ es ms → ∀ {i : Nat}, (∀ e m, es[i]? = some e → ms[i]? = some m → VR ρ e.key m.key → VR ρ e.val m.val → m.born = e.born → VR ρ (f e).key (g m).key ∧ VR ρ (f e).val (g m).val ∧ (g m).born = (f e).born) → i < es.length →
    ER ρ (modA f i es) (ms.modify i g)
  | _, _, .nil, i, _, hi => by simp at hi
  | _, _, .cons (e := e) (m := m) hk hv hb hs, i, h, hi => by
    cases i with
    | zero =>
      obtain ⟨h1, h2, h3⟩ := h e m (by simp) (by simp) hk hv hb
      rw [modA_zero]; simp only [List.modify_zero_cons]; exact .cons h1 h2 h3 hs
    | succ i =>
      rw [modA_succ]; simp only [List.modify_succ_cons]
      exact .cons hk hv hb (hs.mod (fun e m he hm => h e m (by simpa using he) (by simpa using hm)) (by simpa using hi))
theorem ER.rem {ρ : Rho} : ∀ {es : List AEnt} {ms : List MapEntry}, ER ρ es ms → ∀ {i : Nat}, i < es.length → ER ρ (remA i es) (ms.eraseIdx i)
  | _, _, .nil, i, hi => by simp at hi
  | _, _, .cons hk hv hb hs, i, hi => by
    cases i with
    | zero => rw [remA_zero]; simpa using hs
    | succ i => rw [remA_succ]; simp only [List.eraseIdx_cons_succ]; exact .cons hk hv hb (hs.rem (by simpa using hi))
theorem keyOk_under {d : Nat} {t : TypeId} {v : AV} (h : keyOk P (d + 1) t v = true) : ∃ x, P.underlying t = some x := by
  cases hu : P.underlying t with
  | some x => exact ⟨x, rfl⟩
  | none =>
    unfold keyOk at h
    rw [hu] at h
    simp at h

theorem lookup_ok {ρ : Rho} {h : Heap} {w : World} (s : Sim ρ h w) {t : TypeId} {x k v : AV} {x' k' : Value} {ok : Bool} (hx : VR ρ x x') (hk : VR ρ k k') (hl : lookupA P h t x k ok = some v) : OkP ρ w P v (Instr.lookup t x' k' ok) := by
  unfold lookupA at hl
  split at hl
  · rename_i key elem hu
    cases hko : keyOk P 20 key k with
    | false => rw [hko] at hl; cases hl
    | true =>
      rw [hko] at hl
      simp only [cond_true] at hl
      split at hl
      · rename_i z hz
        obtain ⟨z', hz1, hz2⟩ := run_zeroValue' (P := P) hz w
        obtain ⟨d, hd⟩ := keyOk_under hko
        have hck : ∀ e, (Instr.checkKey e 10000 key k').run P w = .ok () w := fun e => checkKey_ok 20 10000 key k k' (by decide) hk hko
        have fin : ∀ (u : AV) (u' : Value) (b : Bool), VR ρ u u' → VR ρ (bif ok then .tuple [u, .bool b] else u) (if ok then .tuple #[u', .bool b] else u') := by
          intro u u' b hu
          cases ok with
          | true => exact VR.tuple_iff.2 ⟨_, rfl, VRL.cons hu (VRL.cons (VR.bool_iff.2 rfl) VRL.nil)⟩
          | false => exact hu
        unfold Instr.lookup
        split at hl
        · cases hl
          simp only [VR] at hx; subst hx
          refine ⟨_, ?_, fin z z' false (hz2 ρ)⟩
          have hf : (Instr.findKey key k' []).run P w = .ok none w := by
            obtain ⟨r, h1, h2⟩ := findKey_ok (P := P) (w := w) hd hk (ρ := ρ) ER.nil (a := none) rfl
            rw [h1, show r = none from h2]
          simp only [Sem.run_bind, run_underlying' hu, Result.andThen_ok, Sem.run_pure, hck, hf, hz1]
        · rename_i b
          obtain ⟨r, c, hr, rfl⟩ := VR.map_iff.1 hx
          split at hl
          · rename_i es clock hb
            obtain ⟨r2, c2, res, g1, g2, g3⟩ := map_of s hb
            rw [hr] at g1; cases g1
            split at hl
            · rename_i j e hfa
              cases hl
              obtain ⟨q, h1, m, h2, h3, h4, h5, h6, h7, h8⟩ := findKey_ok (P := P) (w := w) hd hk g3 hfa
              subst h2
              refine ⟨_, ?_, fin e.val m.val true h7⟩
              simp only [Sem.run_bind, run_underlying' hu, Result.andThen_ok, run_getObj g2, Sem.run_pure, hck, h1]
            · rename_i hfa
              cases hl
              obtain ⟨q, h1, h2⟩ := findKey_ok (P := P) (w := w) hd hk g3 hfa
              have h2 : q = none := h2
              subst h2
              refine ⟨_, ?_, fin z z' false (hz2 ρ)⟩
              simp only [Sem.run_bind, run_underlying' hu, Result.andThen_ok, run_getObj g2, Sem.run_pure, hck, h1, hz1]
            · cases hl
          · cases hl
        · cases hl
      · cases hl
  · cases hl

theorem mapSet {ρ : Rho} {h : Heap} {w : World} (s : Sim ρ h w) {b r c : Nat} {es es' : List AEnt} {clock clock' : Nat} {res res' : Array MapEntry} (hb : h.get b = some (.map es clock)) (hr : ρ b = some (r, c)) (hw : w.heap[r]? = some (.map res clock))
    (he : ER ρ es' res'.toList) : OkU ρ h w P (h.set b (some (.map es' clock'))) (setObj r (.map res' clock')) := by
  have := s.write hb rfl hr (y := .map es' clock') (o := .map res' clock') ⟨res', rfl, he⟩ rfl
  exact ⟨ρ, _, run_setObj hw, this.1, this.2⟩
theorem mod_list {res : Array MapEntry} {i : Nat} {g : MapEntry → MapEntry} : (res.modify i g).toList = res.toList.modify i g := by simp
theorem mapUpdate_ok {ρ : Rho} {h : Heap} {w : World} (s : Sim ρ h w) {t : TypeId} {x k v : AV} {x' k' v' : Value} {h' : Heap} (hx : VR ρ x x') (hk : VR ρ k k') (hv : VR ρ v v') (hm : mapUpdateA P h t x k v = some h') :
    OkU ρ h w P h' (Instr.mapUpdate t x' k' v') := by
  unfold mapUpdateA at hm
  split at hm
  · rename_i key elem b hu
    obtain ⟨r, c, hr, rfl⟩ := VR.map_iff.1 hx
    cases hko : keyOk P 20 key k with
    | false => rw [hko] at hm; cases hm
    | true =>
      rw [hko] at hm
      simp only [cond_true] at hm
      obtain ⟨d, hd⟩ := keyOk_under hko
      have hck : ∀ e, (Instr.checkKey e 10000 key k').run P w = .ok () w := fun e => checkKey_ok 20 10000 key k k' (by decide) hk hko
      split at hm
      · rename_i es clock hb
        obtain ⟨r2, c2, res, g1, g2, g3⟩ := map_of s hb
        rw [hr] at g1; cases g1
        unfold Instr.mapUpdate
        split at hm
        · rename_i i e hfa
          obtain ⟨hsame, hm⟩ := bcase_none_iff.1 hm
          cases hm
          obtain ⟨q, h1, m, h2, h3, h4, h5, h6, h7, h8⟩ := findKey_ok (P := P) (w := w) hd hk g3 hfa
          subst h2
          have h5' : res[i]? = some m := by simpa using h5
          have h4' : es[i]? = some e := by simpa using h4
          have hi : i < es.length := by
            rcases Nat.lt_or_ge i es.length with h9 | h9
            · exact h9
            · rw [List.getElem?_eq_none h9] at h4'; cases h4'
          have hks : (Instr.keyThatStays (((res[i]?).map (·.key)).getD k') k').run P w = .ok k' w := by
            rw [h5']; exact run_keyThatStays h6 hk hsame
          obtain ⟨ρ', w', f1, f2, f3⟩ := mapSet (P := P) s (clock' := clock) (res' := res.modify i fun e => { e with key := k', val := v' }) hb hr g2 (es' := modA (fun e => ⟨k, v, e.born⟩) i es)
            (by rw [mod_list]; exact g3.mod (fun e m _ _ _ _ hb => ⟨hk, hv, hb⟩) hi)
          refine ⟨ρ', w', ?_, f2, f3⟩
          simp only [Sem.run_bind, run_underlying' hu, Result.andThen_ok, run_getObj g2, hck, h1, hks, f1]
        · rename_i hfa
          cases hm
          obtain ⟨q, h1, h2⟩ := findKey_ok (P := P) (w := w) hd hk g3 hfa
          have h2 : q = none := h2
          subst h2
          obtain ⟨ρ', w', f1, f2, f3⟩ := mapSet (P := P) s (clock' := clock + 1) (res' := res.push { key := k', val := v', born := clock }) hb hr g2 (es' := es ++ [⟨k, v, clock⟩])
            (by rw [Array.toList_push]; exact g3.append (.cons hk hv rfl .nil))
          refine ⟨ρ', w', ?_, f2, f3⟩
          simp only [Sem.run_bind, run_underlying' hu, Result.andThen_ok, run_getObj g2, hck, h1, f1]
        · cases hm
      · cases hm
  · cases hm

theorem goInt_VR {ρ : Rho} {n : Nat} (h : n ≤ 9223372036854775807) : VR ρ (.int .i64 n) (goInt n) := by
  have h1 : n ≤ maxs .i64 := h
  have : goInt n = .int .i64 (n : Int) := rfl
  rw [this]
  exact VR.int_iff.2 ⟨by rw [sg_nat h1], Nat.le_trans h1 (maxs_le _)⟩
theorem mapEntry_ok {ρ : Rho} {h : Heap} {w : World} (s : Sim ρ h w) {t : TypeId} {x k : AV} {x' k' : Value} {y : AV × Heap} (hx : VR ρ x x') (hk : VR ρ k k') (hm : mapEntryA P h t x k = some y) :
    OkV ρ h w P y.1 y.2 (Instr.mapEntry t x' k') := by
  unfold mapEntryA at hm
  split at hm
  · rename_i key elem b hu
    obtain ⟨r, c, hr, rfl⟩ := VR.map_iff.1 hx
    cases hko : keyOk P 20 key k with
    | false => rw [hko] at hm; cases hm
    | true =>
      rw [hko] at hm
      simp only [cond_true] at hm
      obtain ⟨d, hd⟩ := keyOk_under hko
      have hck : ∀ e, (Instr.checkKey e 10000 key k').run P w = .ok () w := fun e => checkKey_ok 20 10000 key k k' (by decide) hk hko
      split at hm
      · rename_i es clock z hb hz
        obtain ⟨r2, c2, res, g1, g2, g3⟩ := map_of s hb
        rw [hr] at g1; cases g1
        unfold Instr.mapEntry
        split at hm
        · rename_i i e hfa
          obtain ⟨hcond, hm⟩ := bcase_none_iff.1 hm
          rw [bcase_and, Bool.and_eq_true, Nat.ble_eq] at hcond
          cases hm
          obtain ⟨q, h1, m, h2, h3, h4, h5, h6, h7, h8⟩ := findKey_ok (P := P) (w := w) hd hk g3 hfa
          subst h2
          have h5' : res[i]? = some m := by simpa using h5
          have h4' : es[i]? = some e := by simpa using h4
          have hi : i < es.length := by
            rcases Nat.lt_or_ge i es.length with h9 | h9
            · exact h9
            · rw [List.getElem?_eq_none h9] at h4'; cases h4'
          have hks : (Instr.keyThatStays (((res[i]?).map (·.key)).getD k') k').run P w = .ok k' w := by
            rw [h5']; exact run_keyThatStays h6 hk hcond.1
          obtain ⟨ρ', w', f1, f2, f3⟩ := mapSet (P := P) s (clock' := clock) (res' := res.modify i fun e => { e with key := k' }) hb hr g2 (es' := modA (fun e' => ⟨k, e'.val, e'.born⟩) i es)
            (by rw [mod_list]; exact g3.mod (fun e1 m1 he1 hm1 _ hv hb => ⟨hk, hv, hb⟩) hi)
          have hborn : ((res[i]?).map (fun x => (x.born : Int))).getD 0 = (e.born : Int) := by rw [h5']; show (m.born : Int) = _; rw [h8]
          have heq : modA (fun e' => ⟨k, e'.val, e'.born⟩) i es = modA (fun e' => ⟨k, e'.val, e'.born⟩) i es := rfl
          refine ⟨ρ', .tuple #[m.val, goInt e.born], w', ?_, VR.tuple_iff.2 ⟨_, rfl, VRL.cons (VR.mono f3.le _ _ h7) (VRL.cons (goInt_VR (by omega)) VRL.nil)⟩, f2, f3⟩
          simp only [Sem.run_bind, run_underlying' hu, Result.andThen_ok, run_getObj g2, hck, h1, hks, f1, hborn, Sem.run_pure]
        · rename_i hfa
          obtain ⟨hcond, hm⟩ := bcase_none_iff.1 hm
          rw [Nat.ble_eq] at hcond
          cases hm
          obtain ⟨z', hz1, hz2⟩ := run_zeroValue' (P := P) hz w
          obtain ⟨q, h1, h2⟩ := findKey_ok (P := P) (w := w) hd hk g3 hfa
          have h2 : q = none := h2
          subst h2
          obtain ⟨ρ', w', f1, f2, f3⟩ := mapSet (P := P) s (clock' := clock + 1) (res' := res.push { key := k', val := z', born := clock }) hb hr g2 (es' := es ++ [⟨k, z, clock⟩])
            (by rw [Array.toList_push]; exact g3.append (.cons hk (hz2 ρ) rfl .nil))
          refine ⟨ρ', .tuple #[z', goInt clock], w', ?_, VR.tuple_iff.2 ⟨_, rfl, VRL.cons (hz2 ρ') (VRL.cons (goInt_VR (by omega)) VRL.nil)⟩, f2, f3⟩
          simp only [Sem.run_bind, run_underlying' hu, Result.andThen_ok, run_getObj g2, hck, h1, hz1, f1, Sem.run_pure]
        · cases hm
      · cases hm
  · cases hm

theorem findIdx_arr {α : Type} (a : Array α) (p : α → Bool) : a.findIdx? p = a.toList.findIdx? p := by cases a; simp
theorem idxBorn_cons (b : Nat) (e : AEnt) (es : List AEnt) (i : Nat) : idxBorn b (e :: es) i = bif Nat.beq e.born b then some i else idxBorn b es (i + 1) := rfl
theorem idxBorn_ok {ρ : Rho} {b : Nat} {es : List AEnt} {ms : List MapEntry} (h : ER ρ es ms) : ∀ {i j : Nat}, idxBorn b es i = some j → i ≤ j ∧ j - i < es.length ∧ ms.findIdx? (fun e => ((e.born : Int) == (b : Int))) = some (j - i) := by
  induction h with
  | nil => intro i j h; cases h
  | @cons e es m ms hk hv hb hs ih =>
    intro i j h
    rw [idxBorn_cons] at h
    rw [List.findIdx?_cons]
    cases hq : Nat.beq e.born b with
    | true =>
      rw [hq] at h; cases h
      have := nbeq_iff.1 hq
      have h1 : ((m.born : Int) == (b : Int)) = true := by rw [hb, this]; simp
      rw [if_pos h1]
      exact ⟨Nat.le_refl _, by simp, by simp⟩
    | false =>
      rw [hq] at h
      have hne : ¬ e.born = b := fun e => by rw [nbeq_iff.2 e] at hq; cases hq
      obtain ⟨h1, h2, h3⟩ := ih h
      rw [if_neg (by rw [hb]; simp; omega), h3]
      refine ⟨by omega, by simp; omega, ?_⟩
      simp; omega
theorem entryStore_ok {ρ : Rho} {h : Heap} {w : World} (s : Sim ρ h w) {t : TypeId} {x k v : AV} {x' k' v' : Value} {h' : Heap} (hx : VR ρ x x') (hk : VR ρ k k') (hv : VR ρ v v') (hm : entryStoreA h x k v = some h') :
    OkU ρ h w P h' (Instr.entryStore t x' k' v') := by
  unfold entryStoreA at hm
  split at hm
  · rename_i b n
    cases hp : isPos .i64 n with
    | false => rw [hp] at hm; cases hm
    | true =>
      rw [hp] at hm
      simp only [Bool.not_true, cond_false] at hm
      split at hm
      · rename_i es clock hb
        split at hm
        · rename_i i hi
          cases hm
          obtain ⟨r, c, hr, rfl⟩ := VR.map_iff.1 hx
          obtain ⟨r2, c2, res, g1, g2, g3⟩ := map_of s hb
          rw [hr] at g1; cases g1
          obtain ⟨rfl, _⟩ := VR.int_iff.1 hk
          obtain ⟨h1, h2, h3⟩ := idxBorn_ok g3 hi
          rw [Nat.sub_zero] at h2 h3
          obtain ⟨ρ', w', f1, f2, f3⟩ := mapSet (P := P) s (clock' := clock) (res' := res.modify i fun e => { e with val := v' }) hb hr g2 (es' := modA (fun e => ⟨e.key, v, e.born⟩) i es)
            (by rw [mod_list]; exact g3.mod (fun e m _ _ hk _ hb => ⟨hk, hv, hb⟩) h2)
          refine ⟨ρ', w', ?_, f2, f3⟩
          unfold Instr.entryStore
          have h3' : res.findIdx? (fun e => ((e.born : Int) == sg .i64 n)) = some i := by
            rw [sg_pos hp, findIdx_arr, h3]
          simp only [Sem.run_bind, Result.andThen_ok, run_getObj g2, run_asInt', h3', f1]
        · cases hm
      · cases hm
  · cases hm

theorem delete_ok {ρ : Rho} {h : Heap} {w : World} (s : Sim ρ h w) {t ty : TypeId} {ts : Array TypeId} (ht : ts[0]? = some t) {x k : AV} {x' k' : Value} {h' : Heap} (hx : VR ρ x x') (hk : VR ρ k k') (hm : deleteA P h t x k = some h') :
    OkV ρ h w P (.tuple []) h' (Builtin.delete_ ts ty #[x', k']) := by
  have unit : ∀ ρ, VR ρ (.tuple []) (.tuple #[]) := fun ρ => VR.tuple_iff.2 ⟨_, rfl, VRL.nil⟩
  unfold deleteA at hm
  split at hm
  · rename_i key elem hu
    cases hko : keyOk P 20 key k with
    | false => rw [hko] at hm; cases hm
    | true =>
      rw [hko] at hm
      simp only [cond_true] at hm
      obtain ⟨d, hd⟩ := keyOk_under hko
      have hck : ∀ e, (Instr.checkKey e 10000 key k').run P w = .ok () w := fun e => checkKey_ok 20 10000 key k k' (by decide) hk hko
      unfold Builtin.delete_
      have a0 : (#[x', k'] : Array Value)[0]? = some x' := rfl
      have a1 : (#[x', k'] : Array Value)[1]? = some k' := rfl
      rw [ht, a0, a1]
      simp only
      split at hm
      · cases hm
        simp only [VR] at hx; subst hx
        refine ⟨ρ, .tuple #[], w, ?_, unit ρ, s, Ext.refl _ _ _⟩
        simp only [Sem.run_bind, run_underlying' hu, Result.andThen_ok, hck, Sem.run_pure]
      · rename_i b
        obtain ⟨r, c, hr, rfl⟩ := VR.map_iff.1 hx
        split at hm
        · rename_i es clock hb
          obtain ⟨r2, c2, res, g1, g2, g3⟩ := map_of s hb
          rw [hr] at g1; cases g1
          split at hm
          · rename_i i e hfa
            cases hm
            obtain ⟨q, h1, m, h2, h3, h4, h5, h6, h7, h8⟩ := findKey_ok (P := P) (w := w) hd hk g3 hfa
            subst h2
            have h4' : es[i]? = some e := by simpa using h4
            have hi : i < es.length := by
              rcases Nat.lt_or_ge i es.length with h9 | h9
              · exact h9
              · rw [List.getElem?_eq_none h9] at h4'; cases h4'
            obtain ⟨ρ', w', f1, f2, f3⟩ := mapSet (P := P) s (clock' := clock) (res' := res.eraseIdxIfInBounds i) hb hr g2 (es' := remA i es) (by
              have hlen := g3.length
              rw [Array.toList_eraseIdxIfInBounds]; exact g3.rem hi)
            refine ⟨ρ', .tuple #[], w', ?_, unit ρ', f2, f3⟩
            simp only [Sem.run_bind, run_underlying' hu, Result.andThen_ok, run_getObj g2, hck, h1, f1, Sem.run_pure]
          · rename_i hfa
            cases hm
            obtain ⟨q, h1, h2⟩ := findKey_ok (P := P) (w := w) hd hk g3 hfa
            have h2 : q = none := h2
            subst h2
            obtain ⟨ρ', w', f1, f2, f3⟩ := mapSet (P := P) s (clock' := clock) (res' := res) hb hr g2 (es' := es) g3
            refine ⟨ρ', .tuple #[], w', ?_, unit ρ', f2, f3⟩
            simp only [Sem.run_bind, run_underlying' hu, Result.andThen_ok, run_getObj g2, hck, h1, f1, Sem.run_pure]
          · cases hm
        · cases hm
      · cases hm
  · cases hm
end
end Go.Ev

namespace Go.Ev
open Go
section
variable {P : Program}

theorem range_ok {ρ : Rho} {h : Heap} {w : World} (s : Sim ρ h w) {t : TypeId} {x : AV} {x' : Value} {y : AV × Heap} (hx : VR ρ x x') (hr : rangeA P h t x = some y) : OkV ρ h w P y.1 y.2 (Instr.range t x') := by
  unfold rangeA at hr
  unfold Instr.range
  split at hr
  · rename_i n bits hu
    cases hr
    obtain ⟨l, rfl, h1, h2⟩ := VR.str_iff.1 hx
    obtain ⟨ρ', w', g1, g2, g3, g4⟩ := newObj_ok (P := P) s (x := .siter n bits 0) (o := .stringIter ⟨⟨l⟩⟩ 0) (fun ρ' _ => ⟨l, rfl, h1, h2⟩) rfl
    refine ⟨ρ', .pointer (some ⟨w.heap.size, 0, none⟩), w', ?_, VR.ptr_iff.2 ⟨_, _, g2, rfl⟩, g3, g4⟩
    simp only [Sem.run_bind, run_underlying' hu, Result.andThen_ok, Sem.run_pure, g1]
  · rename_i l hu
    cases hr
    obtain ⟨s0, rfl, h1⟩ := VR.sstr_iff.1 hx
    obtain ⟨ρ', w', g1, g2, g3, g4⟩ := newObj_ok (P := P) s (x := .titer l 0) (o := .stringIter ⟨⟨s0⟩⟩ 0) (fun ρ' hle => ⟨s0, rfl, VRL.mono hle _ _ h1⟩) rfl
    refine ⟨ρ', .pointer (some ⟨w.heap.size, 0, none⟩), w', ?_, VR.ptr_iff.2 ⟨_, _, g2, rfl⟩, g3, g4⟩
    simp only [Sem.run_bind, run_underlying' hu, Result.andThen_ok, Sem.run_pure, g1]
  · rename_i k e hu
    cases hr
    simp only [VR] at hx; subst hx
    obtain ⟨ρ', w', g1, g2, g3, g4⟩ := newObj_ok (P := P) s (x := .miter none 0 [] 0) (o := .mapIter none 0 #[] 0) (fun ρ' _ => ⟨none, rfl, rfl⟩) rfl
    refine ⟨ρ', .pointer (some ⟨w.heap.size, 0, none⟩), w', ?_, VR.ptr_iff.2 ⟨_, _, g2, rfl⟩, g3, g4⟩
    simp only [Sem.run_bind, run_underlying' hu, Result.andThen_ok, Sem.run_pure, g1]
  · rename_i k e b hu
    split at hr
    · rename_i es clock hb
      cases hr
      obtain ⟨r, c, hrb, rfl⟩ := VR.map_iff.1 hx
      obtain ⟨r2, c2, res, f1, f2, f3⟩ := map_of s hb
      rw [hrb] at f1; cases f1
      obtain ⟨ρ', w', g1, g2, g3, g4⟩ := newObj_ok (P := P) s (x := .miter (some b) clock [] clock) (o := .mapIter (some r) clock #[] clock) (fun ρ' hle => ⟨some r, rfl, r, c, hle _ _ hrb, rfl⟩) rfl
      refine ⟨ρ', .pointer (some ⟨w.heap.size, 0, none⟩), w', ?_, VR.ptr_iff.2 ⟨_, _, g2, rfl⟩, g3, g4⟩
      simp only [Sem.run_bind, run_underlying' hu, Result.andThen_ok, Sem.run_pure, run_getObj f2, g1]
    · cases hr
  · cases hr

theorem memN_eq (x : Nat) (l : List Nat) : memN x l = l.contains x := by
  induction l with
  | nil => rfl
  | cons y l ih =>
    have h : memN x (y :: l) = bif Nat.beq x y then true else memN x l := rfl
    rw [h, ih, List.contains_cons]
    have : Nat.beq x y = (x == y) := by rw [Bool.eq_iff_iff, nbeq_iff, beq_iff_eq]
    rw [this]; cases (x == y) <;> rfl
theorem leftA_cons (seen : List Nat) (e : AEnt) (es : List AEnt) : leftA seen (e :: es) = bif memN e.born seen then leftA seen es else e :: leftA seen es := rfl
def leftM (seen : List Nat) (ms : List MapEntry) : List MapEntry := ms.filter fun e => !seen.contains e.born
theorem left_ok {ρ : Rho} {seen : List Nat} {es : List AEnt} {ms : List MapEntry} (h : ER ρ es ms) : ER ρ (leftA seen es) (leftM seen ms) := by
  unfold leftM
  induction h with
  | nil => exact .nil
  | @cons e es m ms hk hv hb hs ih =>
    rw [leftA_cons, memN_eq, List.filter_cons]
    rw [hb]
    cases hc : seen.contains e.born with
    | true => simpa using ih
    | false => simpa using ER.cons hk hv hb ih
theorem allBefore_cons (n : Nat) (e : AEnt) (es : List AEnt) : allBefore n (e :: es) = bif Nat.ble (Nat.add e.born 1) n then allBefore n es else false := rfl
theorem allBefore_ok {ρ : Rho} {n : Nat} {es : List AEnt} {ms : List MapEntry} (h : ER ρ es ms) : allBefore n es = true → ∀ m ∈ ms, m.born < n := by
  induction h with
  | nil => intro _ m hm; cases hm
  | @cons e es m ms hk hv hb hs ih =>
    intro h m' hm
    rw [allBefore_cons] at h
    cases hc : Nat.ble (Nat.add e.born 1) n with
    | false => rw [hc] at h; cases h
    | true =>
      rw [hc] at h
      have hc : e.born + 1 ≤ n := Nat.le_of_ble_eq_true hc
      cases hm with
      | head => omega
      | tail _ hm => exact ih h m' hm
theorem lenE_eq (es : List AEnt) : lenE es = es.length := by
  induction es with
  | nil => rfl
  | cons e es ih => show Nat.add (lenE es) 1 = _; rw [ih]; rfl

theorem siter_of {ρ : Rho} {h : Heap} {w : World} (s : Sim ρ h w) {b n bits pos : Nat} (hb : h.get b = some (.siter n bits pos)) :
    ∃ r c, ∃ l : List UInt8, ρ b = some (r, c) ∧ w.heap[r]? = some (.stringIter ⟨⟨l⟩⟩ pos) ∧ l.length = n ∧ pack l = bits := by
  obtain ⟨r, c, o, h1, h2, l, rfl, h3, h4⟩ := s.blk _ _ hb
  exact ⟨r, c, l, h1, h2, h3, h4⟩
theorem titer_of {ρ : Rho} {h : Heap} {w : World} (s : Sim ρ h w) {b pos : Nat} {l : List AV} (hb : h.get b = some (.titer l pos)) :
    ∃ r c, ∃ t : List UInt8, ρ b = some (r, c) ∧ w.heap[r]? = some (.stringIter ⟨⟨t⟩⟩ pos) ∧ VRL ρ l (bv t) := by
  obtain ⟨r, c, o, h1, h2, l, rfl, h3⟩ := s.blk _ _ hb
  exact ⟨r, c, l, h1, h2, h3⟩
theorem miter_of {ρ : Rho} {h : Heap} {w : World} (s : Sim ρ h w) {b : Nat} {m : Option Nat} {since : Nat} {seen : List Nat} {stepped : Nat} (hb : h.get b = some (.miter m since seen stepped)) :
    ∃ r c q, ρ b = some (r, c) ∧ w.heap[r]? = some (.mapIter q since seen.toArray stepped) ∧ MR ρ m q := by
  obtain ⟨r, c, o, h1, h2, q, rfl, h3⟩ := s.blk _ _ hb
  exact ⟨r, c, q, h1, h2, h3⟩
theorem over_VR (ρ : Rho) : VR ρ (.tuple [.bool false]) (.tuple #[.bool false]) := VR.tuple_iff.2 ⟨_, rfl, VRL.cons (VR.bool_iff.2 rfl) VRL.nil⟩
theorem sameV {ρ : Rho} {h : Heap} {w : World} (s : Sim ρ h w) {v : AV} {v' : Value} {x : Sem Value} (hv : VR ρ v v') (hx : x.run P w = .ok v' w) : OkV ρ h w P v h x := ⟨ρ, v', w, hx, hv, s, Ext.refl _ _ _⟩

theorem run_mapNext (n : Nat) (hn : 1 ≤ n) (w : World) : ∃ i w', (choose (.mapNext n)).run P w = .ok i w' ∧ i < n ∧ (w' = w ∨ ∃ k, w' = { w with drawn := k }) := by
  rw [run_choose]
  by_cases hf : (Question.mapNext n).forced = true
  · rw [if_pos hf]; exact ⟨0, w, rfl, by omega, .inl rfl⟩
  · rw [if_neg hf]; exact ⟨_, _, rfl, Nat.mod_lt _ (by omega), .inr ⟨_, rfl⟩⟩
theorem Sim.drew' {ρ : Rho} {h : Heap} {w w' : World} (s : Sim ρ h w) (hw : w' = w ∨ ∃ k, w' = { w with drawn := k }) : Sim ρ h w' ∧ Ext ρ h w ρ h w' ∧ w'.heap = w.heap := by
  rcases hw with rfl | ⟨k, rfl⟩
  · exact ⟨s, Ext.refl _ _ _, rfl⟩
  · exact ⟨s.drew k, Ext.drew _ _ _ _, rfl⟩

theorem next_map {ρ : Rho} {h : Heap} {w : World} (s : Sim ρ h w) {b m : Nat} {since : Nat} {seen : List Nat} {es : List AEnt} (hb : h.get b = some (.miter (some m) since seen since)) (hm : h.get m = some (.map es since))
    (hbef : allBefore since es = true) {t : TypeId} {r c : Nat} (hr : ρ b = some (r, c)) :
    (leftA seen es = [] → OkV ρ h w P (.tuple [.bool false]) h (Instr.next (.pointer (some ⟨r, 0, none⟩)) false t)) ∧
    (leftA seen es ≠ [] → ∃ (i : Nat) (e : AEnt), (leftA seen es)[i]? = some e ∧ OkV ρ h w P (.tuple [.bool true, e.key, e.val]) (h.set b (some (.miter (some m) since (seen ++ [e.born]) since))) (Instr.next (.pointer (some ⟨r, 0, none⟩)) false t)) := by
  obtain ⟨r1, c1, q, f1, f2, f3⟩ := miter_of s hb
  rw [hr] at f1; cases f1
  obtain ⟨r2, c2, f4, rfl⟩ := f3
  obtain ⟨r3, c3, res, f5, f6, f7⟩ := map_of s hm
  rw [f4] at f5; cases f5
  have hall := allBefore_ok f7 hbef
  have hleft := left_ok (seen := seen) f7
  have hcond : (!seen.toArray.isEmpty && !res.isEmpty && res.all (fun e => decide (e.born ≥ since))) = false := by
    cases hres : res.isEmpty with
    | true => simp
    | false =>
      have : ∃ m0, m0 ∈ res.toList := by
        cases hl : res.toList with
        | nil => simp [Array.isEmpty_iff] at hres; exact absurd (Array.toList_eq_nil_iff.1 hl) hres
        | cons a l => exact ⟨a, by simp⟩
      obtain ⟨m0, hm0⟩ := this
      have h1 := hall m0 hm0
      have h2 : res.all (fun e => decide (e.born ≥ since)) = false := by
        cases h3 : res.all (fun e => decide (e.born ≥ since)) with
        | false => rfl
        | true =>
          rw [Array.all_eq_true'] at h3
          have := h3 m0 (by simpa using hm0)
          simp at this; omega
      rw [h2]; simp
  have hl0 : (res.filter fun e : MapEntry => !seen.toArray.contains e.born).toList = leftM seen res.toList := by unfold leftM; simp
  have hold : ∀ l : List MapEntry, (∀ m ∈ l, m.born < since) → (l.toArray.filter (fun e => decide (e.born < since)) = l.toArray) ∧ (l.toArray.filter (fun e => decide (e.born ≥ since)) = #[]) := by
    intro l hl
    constructor
    · simp; exact fun a ha => hl a ha
    · simp; exact fun a ha => hl a ha
  have hlarr : (res.filter fun e : MapEntry => !seen.toArray.contains e.born) = (leftM seen res.toList).toArray := by
    apply Array.ext'; rw [hl0]
  have hleftlt : ∀ m ∈ leftM seen res.toList, m.born < since := fun m hm => hall m (List.mem_filter.1 hm).1
  obtain ⟨ho1, ho2⟩ := hold _ hleftlt
  have key : ∀ cands : Array (Option MapEntry), cands = ((if (leftM seen res.toList).toArray.isEmpty then #[none] else #[]) ++ ((leftM seen res.toList).toArray ++ #[]).map some) →
      (Instr.next (.pointer (some ⟨r, 0, none⟩)) false t).run P w = ((do
        match cands[← choose (.mapNext cands.size)]? with
        | some (some e) =>
          setObj r (.mapIter (some r2) since (seen.toArray.push e.born) since)
          pure (.tuple #[.bool true, e.key, e.val])
        | some none => pure (.tuple #[.bool false])
        | none => stuck "Next: no such candidate") : Sem Value).run P w := by
    intro cands hc
    unfold Instr.next
    simp only [Sem.run_bind, run_getObj f2, run_getObj f6, Result.andThen_ok]
    rw [if_neg (by rw [hcond]; decide)]
    simp only [hlarr, ho1, ho2, ← hc, Sem.run_bind]
    rfl
  constructor
  · intro hnil
    have hL : leftM seen res.toList = [] := by
      have := hleft.length; rw [hnil] at this; simpa using this
    have h1 := key #[none] (by rw [hL]; simp)
    obtain ⟨i, w', g1, g2, g3⟩ := run_mapNext (P := P) 1 (Nat.le_refl _) w
    have hi : i = 0 := by omega
    subst hi
    obtain ⟨k1, k2, k3⟩ := s.drew' g3
    refine ⟨ρ, .tuple #[.bool false], w', ?_, over_VR ρ, k1, k2⟩
    rw [h1]
    have e1 : (#[none] : Array (Option MapEntry)).size = 1 := rfl
    have e2 : (#[none] : Array (Option MapEntry))[0]? = some none := rfl
    simp only [Sem.run_bind, e1, g1, Result.andThen_ok, e2, Sem.run_pure]
  · intro hne
    generalize hL : leftM seen res.toList = L at *
    have hlen := hleft.length
    have hpos : 1 ≤ L.length := by
      rw [hlen]; cases hh : leftA seen es with
      | nil => exact absurd hh hne
      | cons a l => simp
    have hLne : L ≠ [] := fun e => by rw [e] at hpos; simp at hpos
    have h1 := key (L.map some).toArray (by
      have : L.toArray.isEmpty = false := by simpa using hLne
      rw [this]; simp)
    obtain ⟨i, w', g1, g2, g3⟩ := run_mapNext (P := P) L.length hpos w
    obtain ⟨k1, k2, k3⟩ := s.drew' g3
    obtain ⟨e, he⟩ : ∃ e, (leftA seen es)[i]? = some e := ⟨(leftA seen es)[i]'(by omega), by simp⟩
    obtain ⟨m0, hm0, hk0, hv0, hb0⟩ := hleft.get he
    have hrun2 := run_setObj (P := P) (w := w') (r := r) (o := .mapIter (some r2) since (seen.toArray.push m0.born) since) (by rw [k3]; exact f2)
    have hwr := k1.write hb rfl hr (y := .miter (some m) since (seen ++ [e.born]) since) (o := .mapIter (some r2) since (seen.toArray.push m0.born) since) ⟨some r2, by rw [hb0]; simp, r2, c2, f4, rfl⟩ rfl
    refine ⟨i, e, he, ρ, .tuple #[.bool true, m0.key, m0.val], _, ?_, VR.tuple_iff.2 ⟨_, rfl, VRL.cons (VR.bool_iff.2 rfl) (VRL.cons hk0 (VRL.cons hv0 VRL.nil))⟩, hwr.1, k2.trans hwr.2⟩
    rw [h1]
    have e1 : (L.map some).toArray.size = L.length := by simp
    have e2 : (L.map some).toArray[i]? = some (some m0) := by simp [hm0]
    simp only [Sem.run_bind, e1, g1, Result.andThen_ok, e2, Sem.run_pure, hrun2]

theorem next_ok {ρ : Rho} {h : Heap} {w : World} (s : Sim ρ h w) {x : AV} {x' : Value} {st : Bool} {t : TypeId} (hx : VR ρ x x') : OpOk P ρ h w (nextA h x st) (do pure (.value (← Instr.next x' st t))) := by
  unfold nextA
  split
  · rename_i b
    obtain ⟨r, c, hr, rfl⟩ := VR.ptr_iff.1 hx
    split
    · rename_i n bits pos hb
      obtain ⟨r1, c1, l, f1, f2, f3, f4⟩ := siter_of s hb
      rw [hr] at f1; cases f1
      cases hlt : nle1 pos n with
      | false =>
        rw [nle1_eq, decide_eq_false_iff_not] at hlt
        refine OpOk.ofV (sameV s (over_VR ρ) ?_)
        unfold Instr.next
        simp only [Sem.run_bind, run_getObj f2, Result.andThen_ok, mk_size]
        rw [if_neg (by omega)]; rfl
      | true =>
        rw [nle1_eq, decide_eq_true_iff] at hlt
        simp only [cond_true]
        cases hcond : (Nat.ble (sat bits pos) 127 && Nat.ble pos 1000000) with
        | false => trivial
        | true =>
          rw [Bool.and_eq_true, Nat.ble_eq, Nat.ble_eq] at hcond
          have hpl : pos < l.length := by omega
          have hsat := sat_eq l pos hpl
          rw [f4] at hsat
          rw [hsat] at hcond
          have hpos : pos < (⟨⟨l⟩⟩ : ByteArray).size := hpl
          have hget : ((⟨⟨l⟩⟩ : ByteArray)[pos]'hpos) = l[pos] := rfl
          have hdec := decode_ascii ⟨⟨l⟩⟩ pos hpos (by rw [hget]; omega)
          rw [hget] at hdec
          have hwr := s.write hb rfl hr (y := .siter n bits (pos + 1)) (o := .stringIter ⟨⟨l⟩⟩ (pos + 1)) ⟨l, rfl, f3, f4⟩ rfl
          refine OpOk.ofV ⟨ρ, .tuple #[.bool true, goInt pos, .int .i32 (l[pos].toNat : Int)], _, ?_, VR.tuple_iff.2 ⟨_, rfl, VRL.cons (VR.bool_iff.2 rfl) (VRL.cons (goInt_VR (by omega)) (VRL.cons ?_ VRL.nil))⟩, hwr.1, hwr.2⟩
          · unfold Instr.next
            simp only [Sem.run_bind, run_getObj f2, Result.andThen_ok, mk_size]
            rw [if_pos hpl]
            simp only [hdec, Sem.run_bind, run_setObj f2, Result.andThen_ok, Sem.run_pure]
          · rw [hsat]
            have h1 : l[pos].toNat ≤ maxs .i32 := by show _ ≤ 2147483647; omega
            exact VR.int_iff.2 ⟨by rw [sg_nat h1], Nat.le_trans h1 (maxs_le _)⟩
    · rename_i l0 pos hb
      obtain ⟨r1, c1, l, f1, f2, f3⟩ := titer_of s hb
      rw [hr] at f1; cases f1
      cases hn : nthL pos l0 with
      | none =>
        rw [nthL_eq] at hn
        have hlt : ¬ pos < l.length := by
          rw [f3.len_bv]
          intro q
          rw [List.getElem?_eq_getElem q] at hn; cases hn
        refine OpOk.ofV (sameV s (over_VR ρ) ?_)
        unfold Instr.next
        simp only [Sem.run_bind, run_getObj f2, Result.andThen_ok, mk_size]
        rw [if_neg hlt]; rfl
      | some a =>
        show OpOk P ρ h w (nextT h b l0 pos a) _
        unfold nextT
        rw [nthL_eq] at hn
        obtain ⟨u, g1, g2⟩ := f3.get _ _ hn
        have hpl : pos < l.length := by
          rcases Nat.lt_or_ge pos l.length with h3 | h3
          · exact h3
          · rw [List.getElem?_eq_none (by simpa [bv] using h3)] at g1; cases g1
        rw [List.getElem?_map, List.getElem?_eq_getElem hpl] at g1
        cases g1
        split
        · rename_i p hp
          cases hcond : (kbeq p.1 .u8 && (Nat.ble (Nat.add p.2.1 (maxT p.2.2)) 127 && Nat.ble pos 1000000)) with
          | false => trivial
          | true =>
            rw [Bool.and_eq_true, Bool.and_eq_true, Nat.ble_eq, Nat.ble_eq] at hcond
            obtain ⟨hk, h127, hpm⟩ := hcond
            have h127 : p.2.1 + maxT p.2.2 ≤ 127 := h127
            obtain ⟨m, e1, hm, _⟩ := linOf_ok hp g2
            injection e1 with _ e1
            have hml := hm.le
            have hc : l[pos].toNat = p.2.1 + m := by omega
            simp only [cond_true]
            split
            · rename_i v hv
              obtain ⟨gv, _⟩ := mkS_ok hv hm
              have hpos : pos < (⟨⟨l⟩⟩ : ByteArray).size := hpl
              have hget : ((⟨⟨l⟩⟩ : ByteArray)[pos]'hpos) = l[pos] := rfl
              have hdec := decode_ascii ⟨⟨l⟩⟩ pos hpos (by rw [hget]; omega)
              rw [hget] at hdec
              have hwr := s.write hb rfl hr (y := .titer l0 (pos + 1)) (o := .stringIter ⟨⟨l⟩⟩ (pos + 1)) ⟨l, rfl, f3⟩ rfl
              refine OpOk.ofV ⟨ρ, .tuple #[.bool true, goInt pos, .int .i32 (l[pos].toNat : Int)], _, ?_, VR.tuple_iff.2 ⟨_, rfl, VRL.cons (VR.bool_iff.2 rfl) (VRL.cons (goInt_VR (by omega)) (VRL.cons ?_ VRL.nil))⟩, hwr.1, hwr.2⟩
              · unfold Instr.next
                simp only [Sem.run_bind, run_getObj f2, Result.andThen_ok, mk_size]
                rw [if_pos hpl]
                simp only [hdec, Sem.run_bind, run_setObj f2, Result.andThen_ok, Sem.run_pure]
              · rw [hc]; exact gv
            · trivial
        · trivial
    · rename_i since seen stepped hb
      obtain ⟨r1, c1, q, f1, f2, f3⟩ := miter_of s hb
      rw [hr] at f1; cases f1
      have f3 : q = none := f3
      subst f3
      refine OpOk.ofV (sameV s (over_VR ρ) ?_)
      unfold Instr.next
      simp only [Sem.run_bind, run_getObj f2, Result.andThen_ok]; rfl
    · rename_i m since seen stepped hb
      split
      · rename_i es clock hm
        cases hcond : (allBefore since es && Nat.beq clock since && Nat.beq stepped since) with
        | false => trivial
        | true =>
          rw [Bool.and_eq_true, Bool.and_eq_true, nbeq_iff, nbeq_iff] at hcond
          obtain ⟨⟨h1, rfl⟩, rfl⟩ := hcond
          obtain ⟨g1, g2⟩ := next_map (P := P) s hb hm h1 (t := t) hr
          simp only [cond_true]
          split
          · rename_i hl
            exact OpOk.ofV (g1 hl)
          · rename_i e hl
            obtain ⟨i, e', h2, h3⟩ := g2 (by rw [hl]; simp)
            rw [hl] at h2
            have hi : i = 0 := by
              cases i with
              | zero => rfl
              | succ i => simp at h2
            subst hi
            simp at h2; subst h2
            exact OpOk.ofV h3
          · rename_i left h4 h5
            obtain ⟨i, e', h2, h3⟩ := g2 (fun e => h4 e)
            refine ⟨i, ?_, fun v h' hv => ?_⟩
            · rw [lenE_eq]
              rcases Nat.lt_or_ge i (leftA seen es).length with h6 | h6
              · exact h6
              · rw [List.getElem?_eq_none h6] at h2; cases h2
            · simp only [h2] at hv
              cases hv
              exact OpOk.ofV h3
      · trivial
    · trivial
  · trivial
end
end Go.Ev

namespace Go.Ev
open Go
section
variable {P : Program}

theorem lastF_eq : ∀ (l : List Nat) (d : Option Nat), lrec (fun d : Option Nat => d) (fun x _ ih _ => ih (some x)) l d = l.getLast?.or d
  | [], d => rfl
  | x :: l, d => by
    have h : lrec (fun d : Option Nat => d) (fun x _ ih _ => ih (some x)) (x :: l) d = lrec (fun d : Option Nat => d) (fun x _ ih _ => ih (some x)) l (some x) := rfl
    rw [h, lastF_eq l (some x)]
    cases l with
    | nil => rfl
    | cons y l => rw [List.getLast?_cons_cons]; cases hh : (y :: l).getLast? with
      | none => simp at hh
      | some z => rfl
theorem lastN_eq (l : List Nat) : lastN l = l.getLast? := by
  show lrec (fun d : Option Nat => d) (fun x _ ih _ => ih (some x)) l none = _
  rw [lastF_eq]; simp
theorem findBorn_cons (b : Nat) (e : AEnt) (es : List AEnt) : findBorn b (e :: es) = bif Nat.beq e.born b then some e else findBorn b es := rfl
theorem findBorn_ok {ρ : Rho} {b : Nat} {es : List AEnt} {ms : List MapEntry} (h : ER ρ es ms) : ∀ {e : AEnt}, findBorn b es = some e → ∃ m : MapEntry, ms.find? (fun m => m.born == b) = some m ∧ VR ρ e.key m.key ∧ VR ρ e.val m.val := by
  induction h with
  | nil => intro e h; cases h
  | @cons e0 es m ms hk hv hb hs ih =>
    intro e h
    rw [findBorn_cons] at h
    rw [List.find?_cons]
    have e1 : (m.born == b) = Nat.beq e0.born b := by rw [Bool.eq_iff_iff, nbeq_iff, beq_iff_eq, hb]
    rw [e1]
    cases hq : Nat.beq e0.born b with
    | true => rw [hq] at h; cases h; exact ⟨m, rfl, hk, hv⟩
    | false => rw [hq] at h; exact ih h
theorem entry_ok {ρ : Rho} {h : Heap} {w : World} (s : Sim ρ h w) {x v : AV} {x' : Value} (hx : VR ρ x x') (he : entryA h x = some v) : OkP ρ w P v (Instr.entry x') := by
  unfold entryA at he
  split at he
  · rename_i b
    obtain ⟨r, c, hr, rfl⟩ := VR.ptr_iff.1 hx
    split at he
    · rename_i m since seen stepped hb
      obtain ⟨r1, c1, q, f1, f2, f3⟩ := miter_of s hb
      rw [hr] at f1; cases f1
      obtain ⟨r2, c2, f4, rfl⟩ := f3
      split at he
      · rename_i es clock st hm hlast
        obtain ⟨r3, c3, res, f5, f6, f7⟩ := map_of s hm
        rw [f4] at f5; cases f5
        cases hcl : Nat.beq clock stepped with
        | false => rw [hcl] at he; cases he
        | true =>
          rw [hcl] at he
          have := nbeq_iff.1 hcl; subst this
          simp only [cond_true] at he
          split at he
          · rename_i e hf
            cases he
            obtain ⟨m0, g1, g2, g3⟩ := findBorn_ok f7 hf
            rw [lastN_eq] at hlast
            refine ⟨.tuple #[m0.key, m0.val], ?_, VR.tuple_iff.2 ⟨_, rfl, VRL.cons g2 (VRL.cons g3 VRL.nil)⟩⟩
            unfold Instr.entry
            have hback : seen.toArray.back? = some st := by simpa using hlast
            have hfind : res.find? (fun m => m.born == st) = some m0 := by rw [← g1]; simp
            simp only [Sem.run_bind, run_getObj f2, Result.andThen_ok, hback, run_getObj f6, bne_self_eq_false, Bool.false_eq_true, if_false, hfind]
            rfl
          · cases he
      · cases he
    · cases he
  · cases he

theorem okLen_some {n : Option Nat} {v : AV} (h : okLen n = some v) : ∃ k, n = some k ∧ k ≤ 9223372036854775807 ∧ v = .int .i64 k := by
  unfold okLen at h
  obtain ⟨k, h1, h⟩ := ocase_some_iff.1 h
  obtain ⟨h2, h⟩ := bcase_none_iff.1 h
  cases h
  exact ⟨k, h1, Nat.le_of_ble_eq_true h2, rfl⟩
theorem slLen_VR {ρ : Rho} {x : AV} {x' : Value} {n : Nat} (h : slLen x = some n) (hx : VR ρ x x') : ∃ a c, x' = .slice a n c := by
  cases x <;> first
    | (cases h; first
        | (obtain ⟨r, c, _, rfl⟩ := VR.slice_iff.1 hx; exact ⟨_, _, rfl⟩)
        | (obtain ⟨r, c, cap, _, rfl, _⟩ := VR.gslice_iff.1 hx; exact ⟨_, _, rfl⟩)
        | (simp only [VR] at hx; obtain ⟨a, c, rfl⟩ := hx; exact ⟨_, _, rfl⟩)
        | (simp only [VR] at hx; subst hx; exact ⟨_, _, rfl⟩))
    | cases h
theorem isSliceT_iff {t : TypeId} (h : isSliceT P t = true) : ∃ e, P.underlying t = some (.slice e) := by
  unfold isSliceT at h; split at h
  · exact ⟨_, by assumption⟩
  · cases h
theorem isStrT_iff {t : TypeId} (h : isStrT P t = true) : P.underlying t = some .string := by
  unfold isStrT at h; split at h
  · assumption
  · cases h
theorem isMapT_iff {t : TypeId} (h : isMapT P t = true) : ∃ k e, P.underlying t = some (.map k e) := by
  unfold isMapT at h; split at h
  · exact ⟨_, _, by assumption⟩
  · cases h
theorem len_ok {ρ : Rho} {h : Heap} {w : World} (s : Sim ρ h w) {t ty : TypeId} {ts : Array TypeId} (ht : ts[0]? = some t) {x v : AV} {x' : Value} (hx : VR ρ x x') (hl : lenA P h t x = some v) : OkP ρ w P v (Builtin.len_ ts ty #[x']) := by
  unfold lenA at hl
  unfold Builtin.len_
  have a0 : (#[x'] : Array Value)[0]? = some x' := rfl
  rw [ht, a0]
  simp only
  cases h1 : isSliceT P t with
  | true =>
    rw [h1, bcase_true] at hl
    obtain ⟨k, h2, h3, rfl⟩ := okLen_some hl
    obtain ⟨e, hu⟩ := isSliceT_iff h1
    obtain ⟨a, c, rfl⟩ := slLen_VR h2 hx
    exact ⟨_, by simp only [Sem.run_bind, run_underlying' hu, Result.andThen_ok]; rfl, goInt_VR h3⟩
  | false =>
    rw [h1, bcase_false] at hl
    cases h2 : isStrT P t with
    | true =>
      rw [h2, bcase_true] at hl
      cases hp : asStr x with
      | some p =>
        rw [hp, ocase_some] at hl
        obtain ⟨k, h3, h4, rfl⟩ := okLen_some hl
        cases h3
        rw [asStr_some hp] at hx
        obtain ⟨l, rfl, g1, g2⟩ := VR.str_iff.1 hx
        refine ⟨goInt l.length, ?_, by rw [g1]; exact goInt_VR h4⟩
        simp only [Sem.run_bind, run_underlying' (isStrT_iff h2), Result.andThen_ok]; rfl
      | none =>
        rw [hp, ocase_none] at hl
        obtain ⟨l, hs, hl⟩ := ocase_some_iff.1 hl
        obtain ⟨k, h3, h4, rfl⟩ := okLen_some hl
        cases h3
        obtain ⟨s, rfl, g1⟩ := strL_ok hs hx
        refine ⟨goInt s.length, ?_, by rw [g1.len_bv, ← lenL_eq]; exact goInt_VR h4⟩
        simp only [Sem.run_bind, run_underlying' (isStrT_iff h2), Result.andThen_ok]; rfl
    | false =>
      rw [h2, bcase_false] at hl
      cases h3 : isMapT P t with
      | true =>
        rw [h3, bcase_true] at hl
        obtain ⟨k, h4, h5, rfl⟩ := okLen_some hl
        obtain ⟨kt, e, hu⟩ := isMapT_iff h3
        unfold mapLen at h4
        split at h4
        · cases h4
          simp only [VR] at hx; subst hx
          exact ⟨_, by simp only [Sem.run_bind, run_underlying' hu, Result.andThen_ok]; rfl, goInt_VR h5⟩
        · rename_i b
          obtain ⟨r, c, hr, rfl⟩ := VR.map_iff.1 hx
          unfold lenMap at h4
          split at h4
          · rename_i es clock hb
            cases h4
            obtain ⟨r2, c2, res, g1, g2, g3⟩ := map_of s hb
            rw [hr] at g1; cases g1
            have hlen := g3.length
            rw [lenE_eq] at h5 ⊢
            refine ⟨goInt res.size, ?_, ?_⟩
            · simp only [Sem.run_bind, run_underlying' hu, Result.andThen_ok, run_getObj g2]; rfl
            · rw [show res.size = es.length by simpa using hlen]; exact goInt_VR h5
          · cases h4
        · cases h4
      | false =>
        rw [h3, bcase_false] at hl
        obtain ⟨k, h4, h5, rfl⟩ := okLen_some hl
        unfold arrLen at h4
        split at h4
        · rename_i n e hu
          cases h4
          exact ⟨_, by simp only [Sem.run_bind, run_underlying' hu, Result.andThen_ok]; rfl, goInt_VR h5⟩
        · cases h4
theorem cap_ok {ρ : Rho} {w : World} {t ty : TypeId} {ts : Array TypeId} (ht : ts[0]? = some t) {x v : AV} {x' : Value} (hx : VR ρ x x') (hl : capA P t x = some v) : OkP ρ w P v (Builtin.cap_ ts ty #[x']) := by
  unfold capA at hl
  unfold Builtin.cap_
  have a0 : (#[x'] : Array Value)[0]? = some x' := rfl
  rw [ht, a0]
  simp only
  split at hl
  · rename_i e b o l c hu
    obtain ⟨k, h2, h3, rfl⟩ := okLen_some hl
    cases h2
    obtain ⟨r, d, _, rfl⟩ := VR.slice_iff.1 hx
    exact ⟨_, by simp only [Sem.run_bind, run_underlying' hu, Result.andThen_ok]; rfl, goInt_VR h3⟩
  · rename_i e hu
    cases hl
    simp only [VR] at hx; subst hx
    exact ⟨_, by simp only [Sem.run_bind, run_underlying' hu, Result.andThen_ok]; rfl, goInt_VR (by omega)⟩
  · cases hl
theorem unit_VR (ρ : Rho) : VR ρ (.tuple []) (.tuple #[]) := VR.tuple_iff.2 ⟨_, rfl, VRL.nil⟩
theorem repL1_VR {ρ : Rho} {a : AV} {v : Value} (h : VR ρ a v) : ∀ n, VRL ρ (repL [a] n) (List.replicate n v)
  | 0 => VRL.nil
  | n + 1 => VRL.cons h (repL1_VR h n)
theorem clearS_ok {ρ : Rho} {h : Heap} {w : World} (s : Sim ρ h w) {t e ty : TypeId} {ts : Array TypeId} (ht : ts[0]? = some t) (hu : P.underlying t = some (.slice e)) {b off n r c cap : Nat} {h' : Heap} (hr : ρ b = some (r, c)) (hl : clearS P h e b off n = some h') :
    OkV ρ h w P (.tuple []) h' (Builtin.clear_ ts ty #[.slice (some ⟨r, off, none⟩) n cap]) := by
  unfold clearS at hl
  unfold Builtin.clear_
  have a0 : (#[.slice (some ⟨r, off, none⟩) n cap] : Array Value)[0]? = some (.slice (some ⟨r, off, none⟩) n cap) := rfl
  rw [ht, a0]
  simp only
  cases n with
  | zero =>
    have hl : some h = some h' := hl
    cases hl
    exact ⟨ρ, _, w, by simp only [Sem.run_bind, run_underlying' hu, Result.andThen_ok]; rfl, unit_VR ρ, s, Ext.refl _ _ _⟩
  | succ n =>
    have hl : ocase (zeroA P e) none (fun z => bcase (Nat.beq (lenL z.cells) 1) (storeL h b off (repL z.cells (n + 1))) none) = some h' := hl
    obtain ⟨z, hz, hl⟩ := ocase_some_iff.1 hl
    obtain ⟨h1, hl⟩ := bcase_none_iff.1 hl
    have h1 := nbeq_iff.1 h1
    rw [lenL_eq] at h1
    obtain ⟨z', hz1, hz2⟩ := run_zeroValue' (P := P) hz w
    have hcv := cells_VR (hz2 ρ)
    cases hzc : z.cells with
    | nil => rw [hzc] at h1; simp at h1
    | cons a l =>
      cases l with
      | cons _ _ => rw [hzc] at h1; simp at h1
      | nil =>
        rw [hzc] at hcv hl
        obtain ⟨u, us, e1, g1, g2⟩ := VRL.cons_iff.1 hcv
        have g2 := VRL.nil_iff.1 g2
        subst g2
        have ec : z'.cells = #[u] := Array.toList_inj.1 e1
        have el : (Builtin.zeroCells z'.cells (n + 1)).toList = List.replicate (n + 1) u := by
          unfold Builtin.zeroCells
          rw [ec]
          apply List.ext_getElem
          · simp
          · intro i g3 g4
            simp [Nat.mod_one]
        obtain ⟨ρ', w', k1, k2, k3⟩ := storeL_ok (P := P) s hr (repL1_VR g1 (n + 1)) hl
        refine ⟨ρ', .tuple #[], w', ?_, unit_VR ρ', k2, k3⟩
        simp only [Sem.run_bind, run_underlying' hu, Result.andThen_ok, hz1, el, k1]
        rfl
theorem clear_ok {ρ : Rho} {h : Heap} {w : World} (s : Sim ρ h w) {t ty : TypeId} {ts : Array TypeId} (ht : ts[0]? = some t) {x : AV} {x' : Value} {h' : Heap} (hx : VR ρ x x') (hl : clearA P h t x = some h') : OkV ρ h w P (.tuple []) h' (Builtin.clear_ ts ty #[x']) := by
  unfold clearA at hl
  split at hl
  · rename_i e b off n cap hu
    obtain ⟨r, c, hr, rfl⟩ := VR.slice_iff.1 hx
    exact clearS_ok s ht hu hr hl
  · rename_i e b off n sz hu
    obtain ⟨r, c, cap, hr, rfl, _⟩ := VR.gslice_iff.1 hx
    exact clearS_ok s ht hu hr hl
  · rename_i k e hu
    cases hl
    simp only [VR] at hx; subst hx
    unfold Builtin.clear_
    rw [ht, show (#[.map none] : Array Value)[0]? = some (.map none) from rfl]
    simp only
    exact ⟨ρ, _, w, by simp only [Sem.run_bind, run_underlying' hu, Result.andThen_ok]; rfl, unit_VR ρ, s, Ext.refl _ _ _⟩
  · rename_i k e b hu
    split at hl
    · rename_i es clock hb
      cases hl
      obtain ⟨r, c, hr, rfl⟩ := VR.map_iff.1 hx
      obtain ⟨r2, c2, res, g1, g2, g3⟩ := map_of s hb
      rw [hr] at g1; cases g1
      obtain ⟨ρ', w', f1, f2, f3⟩ := mapSet (P := P) s (clock' := clock) (res' := #[]) hb hr g2 (es' := []) .nil
      unfold Builtin.clear_
      rw [ht, show (#[.map (some r)] : Array Value)[0]? = some (.map (some r)) from rfl]
      simp only
      exact ⟨ρ', .tuple #[], w', by simp only [Sem.run_bind, run_underlying' hu, Result.andThen_ok, run_getObj g2, f1]; rfl, unit_VR ρ', f2, f3⟩
    · cases hl
  · cases hl
theorem symMin_ok {ρ : Rho} {x y v : AV} {x' y' : Value} (hx : VR ρ x x') (hy : VR ρ y y') (h : symMin x y = some v) : ∃ k a b, x' = .int k a ∧ y' = .int k b ∧ VR ρ v (.int k (if b < a then b else a)) := by
  unfold symMin at h
  obtain ⟨p, hp, h⟩ := ocase_some_iff.1 h
  obtain ⟨q, hq, h⟩ := ocase_some_iff.1 h
  obtain ⟨hk, h⟩ := bcase_none_iff.1 h
  obtain ⟨r, hl, h⟩ := ocase_some_iff.1 h
  cases h
  have hk := kcode_inj hk
  have hx0 := hx
  have hy0 := hy
  obtain ⟨n, rfl, g1, _⟩ := linOf_ok hp hx
  obtain ⟨m, rfl, g2, _⟩ := linOf_ok hq hy
  have hr := ltS_ok hl g2 g1
  rw [← hk] at hy0
  refine ⟨p.1, _, _, rfl, by rw [hk], ?_⟩
  by_cases hlt : q.2.1 + m < p.2.1 + n
  · rw [if_pos (by omega), hr, decide_eq_true hlt, bcase_true]; exact hy0
  · rw [if_neg (by omega), hr, decide_eq_false hlt, bcase_false]; exact hx0
theorem symMax_ok {ρ : Rho} {x y v : AV} {x' y' : Value} (hx : VR ρ x x') (hy : VR ρ y y') (h : symMax x y = some v) : ∃ k a b, x' = .int k a ∧ y' = .int k b ∧ VR ρ v (.int k (if b > a then b else a)) := by
  unfold symMax at h
  obtain ⟨p, hp, h⟩ := ocase_some_iff.1 h
  have hx0 := hx
  have hy0 := hy
  obtain ⟨n, rfl, g1, _⟩ := linOf_ok hp hx
  cases hq : linOf y with
  | none =>
    rw [hq, ocase_none] at h
    obtain ⟨q, hg, h⟩ := ocase_some_iff.1 h
    obtain ⟨hk, h⟩ := bcase_none_iff.1 h
    cases h
    have hk := kcode_inj hk
    have e : y = .sneg q.1 q.2.1 q.2.2 := by cases y <;> first | (cases hg; rfl) | cases hg
    rw [e] at hy
    obtain ⟨m, rfl, g2, _⟩ := VR.sneg_iff.1 hy
    refine ⟨p.1, _, _, rfl, by rw [hk], ?_⟩
    rw [if_neg (by omega)]; exact hx0
  | some q =>
    rw [hq, ocase_some] at h
    obtain ⟨hk, h⟩ := bcase_none_iff.1 h
    obtain ⟨r, hl, h⟩ := ocase_some_iff.1 h
    cases h
    have hk := kcode_inj hk
    obtain ⟨m, rfl, g2, _⟩ := linOf_ok hq hy
    have hr := ltS_ok hl g1 g2
    rw [← hk] at hy0
    refine ⟨p.1, _, _, rfl, by rw [hk], ?_⟩
    by_cases hlt : p.2.1 + n < q.2.1 + m
    · rw [if_pos (by omega), hr, decide_eq_true hlt, bcase_true]; exact hy0
    · rw [if_neg (by omega), hr, decide_eq_false hlt, bcase_false]; exact hx0
theorem min_ok {ρ : Rho} {h : Heap} {w : World} (s : Sim ρ h w) {ty : TypeId} {ts : Array TypeId} {args : List AV} {args' : Array Value} (ha : VRL ρ args args'.toList) : OpOk P ρ h w (biMin args h) (do pure (.value (← Builtin.min_ ts ty args'))) := by
  have run : ∀ (k : IntKind) (a b : Int) (v : AV), args'.toList = [.int k a, .int k b] → VR ρ v (.int k (if b < a then b else a)) → OpOk P ρ h w (.val v h) (do pure (.value (← Builtin.min_ ts ty args'))) := by
    intro k a b v e1 hv
    refine OpOk.ofV (OkP.toV ⟨.int k (if b < a then b else a), ?_, hv⟩ s)
    unfold Builtin.min_
    rw [e1]
    simp only [List.foldlM_cons, List.foldlM_nil, Builtin.min2]
    rfl
  unfold biMin ov
  cases hm : minV args with
  | none => trivial
  | some v =>
    rw [ocase_some]
    unfold minV at hm
    split at hm
    · rename_i k a k' b
      cases hk : kbeq k k' with
      | false => rw [hk] at hm; cases hm
      | true =>
        rw [hk] at hm; cases hm
        have := kcode_inj hk; subst this
        obtain ⟨x, xs, e1, h1, h2⟩ := VRL.cons_iff.1 ha
        obtain ⟨y, ys, e2, h3, h4⟩ := VRL.cons_iff.1 h2
        have := VRL.nil_iff.1 h4; subst this
        subst e2
        obtain ⟨rfl, ham⟩ := VR.int_iff.1 h1
        obtain ⟨rfl, hbm⟩ := VR.int_iff.1 h3
        refine run k _ _ _ e1 ?_
        rw [← sg_lt k b a hbm ham]
        by_cases hlt : sg k b < sg k a
        · rw [if_pos hlt, decide_eq_true hlt]; exact VR.int_iff.2 ⟨rfl, hbm⟩
        · rw [if_neg hlt, decide_eq_false hlt]; exact VR.int_iff.2 ⟨rfl, ham⟩
    · obtain ⟨x, xs, e1, h1, h2⟩ := VRL.cons_iff.1 ha
      obtain ⟨y, ys, e2, h3, h4⟩ := VRL.cons_iff.1 h2
      have := VRL.nil_iff.1 h4; subst this
      subst e2
      obtain ⟨k, a, b, rfl, rfl, hv⟩ := symMin_ok h1 h3 hm
      exact run k a b v e1 hv
    · cases hm
theorem max_ok {ρ : Rho} {h : Heap} {w : World} (s : Sim ρ h w) {ty : TypeId} {ts : Array TypeId} {args : List AV} {args' : Array Value} (ha : VRL ρ args args'.toList) : OpOk P ρ h w (biMax args h) (do pure (.value (← Builtin.max_ ts ty args'))) := by
  have run : ∀ (k : IntKind) (a b : Int) (v : AV), args'.toList = [.int k a, .int k b] → VR ρ v (.int k (if b > a then b else a)) → OpOk P ρ h w (.val v h) (do pure (.value (← Builtin.max_ ts ty args'))) := by
    intro k a b v e1 hv
    refine OpOk.ofV (OkP.toV ⟨.int k (if b > a then b else a), ?_, hv⟩ s)
    unfold Builtin.max_
    rw [e1]
    simp only [List.foldlM_cons, List.foldlM_nil, Builtin.max2]
    rfl
  unfold biMax ov
  cases hm : maxV args with
  | none => trivial
  | some v =>
    rw [ocase_some]
    unfold maxV at hm
    split at hm
    · rename_i k a k' b
      cases hk : kbeq k k' with
      | false => rw [hk] at hm; cases hm
      | true =>
        rw [hk] at hm; cases hm
        have := kcode_inj hk; subst this
        obtain ⟨x, xs, e1, h1, h2⟩ := VRL.cons_iff.1 ha
        obtain ⟨y, ys, e2, h3, h4⟩ := VRL.cons_iff.1 h2
        have := VRL.nil_iff.1 h4; subst this
        subst e2
        obtain ⟨rfl, ham⟩ := VR.int_iff.1 h1
        obtain ⟨rfl, hbm⟩ := VR.int_iff.1 h3
        refine run k _ _ _ e1 ?_
        rw [← sg_lt k a b ham hbm]
        by_cases hlt : sg k a < sg k b
        · rw [if_pos hlt, decide_eq_true hlt]; exact VR.int_iff.2 ⟨rfl, hbm⟩
        · rw [if_neg hlt, decide_eq_false hlt]; exact VR.int_iff.2 ⟨rfl, ham⟩
    · obtain ⟨x, xs, e1, h1, h2⟩ := VRL.cons_iff.1 ha
      obtain ⟨y, ys, e2, h3, h4⟩ := VRL.cons_iff.1 h2
      have := VRL.nil_iff.1 h4; subst this
      subst e2
      obtain ⟨k, a, b, rfl, rfl, hv⟩ := symMax_ok h1 h3 hm
      exact run k a b v e1 hv
    · cases hm
end
end Go.Ev

namespace Go.Ev
open Go
section
variable {P : Program}

theorem cells_of {ρ : Rho} {h : Heap} {w : World} (s : Sim ρ h w) {b : Nat} {t : T AV} {n : Nat} {ty : TypeId} {k : BK} (hb : h.get b = some (.cells t n ty k)) :
    ∃ r c arr lo hi, ρ b = some (r, c) ∧ w.heap[r]? = some (.cells arr ty (lo, hi)) ∧ (hi ≤ lo ∨ arr.size ≤ lo) ∧ arr.size = c ∧ n ≤ c ∧ (k.ex? = true → n = c) ∧ CR ρ t arr ∧ TB t n := by
  obtain ⟨r, c, o, h1, h2, arr, lo, hi, rfl, h3, h4, h5, h6, h7, h8⟩ := s.blk _ _ hb
  exact ⟨r, c, arr, lo, hi, h1, h2, h3, h4, h5, h6, h7, h8⟩
theorem run_loadRow {w : World} {r off : Nat} {arr : Array Value} {ty : TypeId} {fr : Nat × Nat} (h : w.heap[r]? = some (.cells arr ty fr)) {vs : List Value} (hv : ∀ j v, vs[j]? = some v → arr[off + j]? = some v) :
    (loadCells ⟨r, off, none⟩ vs.length).run P w = .ok vs.toArray w :=
  run_loadCells_list (P := P) w ⟨r, off, none⟩ vs (fun j v hj => by rw [add_of, cell_of h]; exact hv j v hj)
structure ElemsOk (P : Program) (ρ : Rho) (w : World) (size n : Nat) (l : List AV) (y' : Value) : Prop where
  len : (Builtin.lenOf y').run P w = .ok n w
  cells : ∀ k, k ≤ n → ∃ arr : Array Value, (∀ w1 : World, w1.heap = w.heap → (Builtin.firstCells size k y').run P w1 = .ok arr w1) ∧ VRL ρ (l.take (k * size)) arr.toList
theorem row_elems {ρ : Rho} {h : Heap} {w : World} (s : Sim ρ h w) {b off n size : Nat} {l : List AV} {t : T AV} {m : Nat} {ty : TypeId} {kk : BK} (hb : h.get b = some (.cells t m ty kk)) (hg : getL t (n * size) off = some l) {r c : Nat} (hr : ρ b = some (r, c)) (cap : Nat) :
    ElemsOk P ρ w size n l (.slice (some ⟨r, off, none⟩) n cap) := by
  obtain ⟨r1, c1, arr, lo, hi, h1, h2, h3, h4, h5, h6, h7, h8⟩ := cells_of s hb
  rw [hr] at h1; cases h1
  obtain ⟨vs, e1, e2, e3⟩ := h7.getL hg
  refine ⟨rfl, fun k hk => ?_⟩
  refine ⟨(vs.take (k * size)).toArray, fun w1 hw1 => ?_, e2.take _⟩
  have hle : k * size ≤ n * size := Nat.mul_le_mul_right _ hk
  have := run_loadRow (P := P) (w := w1) (by rw [hw1]; exact h2) (vs := vs.take (k * size)) (off := off) (fun j v hj => by
    rw [List.getElem?_take] at hj
    split at hj
    · exact e3 j v hj
    · cases hj)
  rw [List.length_take, Nat.min_eq_left (by omega)] at this
  exact this
theorem elems_ok {ρ : Rho} {h : Heap} {w : World} (s : Sim ρ h w) {size n : Nat} {l : List AV} {y : AV} {y' : Value} (hy : VR ρ y y') (he : elemsA h size y = some (n, l)) : ElemsOk P ρ w size n l y' := by
  unfold elemsA at he
  split at he
  · rename_i b off len cap
    split at he
    · rename_i c m ty k hb
      split at he
      · rename_i l' hg
        cases he
        obtain ⟨r, c, hr, rfl⟩ := VR.slice_iff.1 hy
        exact row_elems s hb hg hr _
      · cases he
    · cases he
  · rename_i b off len sz
    cases hsz : Nat.beq sz size with
    | false => rw [hsz] at he; cases he
    | true =>
      rw [hsz] at he
      simp only [cond_true] at he
      split at he
      · rename_i c m ty k hb
        split at he
        · rename_i l' hg
          cases he
          obtain ⟨r, c, cap, hr, rfl, _⟩ := VR.gslice_iff.1 hy
          exact row_elems s hb hg hr _
        · cases he
      · cases he
  · cases he
    simp only [VR] at hy; subst hy
    exact ⟨rfl, fun k hk => ⟨#[], fun _ _ => rfl, by simp; exact VRL.nil⟩⟩
  · rename_i m bits
    cases hsz : Nat.beq size 1 with
    | false => rw [hsz] at he; cases he
    | true =>
      rw [hsz] at he
      have := nbeq_iff.1 hsz; subst this
      cases he
      obtain ⟨l, rfl, h1, h2⟩ := VR.str_iff.1 hy
      refine ⟨by rw [← h1]; rfl, fun k hk => ⟨_, fun _ _ => rfl, ?_⟩⟩
      rw [← h1, ← h2]
      have := (bytesL_VR (ρ := ρ) l).take (k * 1)
      have e : (((⟨⟨l⟩⟩ : ByteArray).extract 0 k).data.map fun b => Value.int .u8 (b.toNat : Int)).toList = (l.map fun b => Value.int .u8 (b.toNat : Int)).take (k * 1) := by
        rw [ByteArray.data_extract, Array.toList_map, Array.toList_extract]
        simp [List.extract, List.map_take]
      rw [e]; exact this
  · cases hsz : Nat.beq size 1 with
    | false => rw [hsz] at he; cases he
    | true =>
      rw [hsz] at he
      have := nbeq_iff.1 hsz; subst this
      cases he
      obtain ⟨s0, rfl, h1⟩ := VR.sstr_iff.1 hy
      have hlen : lenL l = s0.length := by rw [lenL_eq, h1.len_bv]
      refine ⟨by rw [hlen]; rfl, fun k hk => ⟨_, fun _ _ => rfl, ?_⟩⟩
      have := h1.take (k * 1)
      have e : (((⟨⟨s0⟩⟩ : ByteArray).extract 0 k).data.map fun b => Value.int .u8 (b.toNat : Int)).toList = (s0.map fun b => Value.int .u8 (b.toNat : Int)).take (k * 1) := by
        rw [ByteArray.data_extract, Array.toList_map, Array.toList_extract]
        simp [List.extract, List.map_take]
      rw [e]; exact this
  · cases he
    simp only [VR] at hy
    obtain ⟨a, c, rfl⟩ := hy
    refine ⟨rfl, fun k hk => ⟨#[], fun _ _ => ?_, by simp; exact VRL.nil⟩⟩
    have hk0 : k = 0 := by omega
    subst hk0
    cases a with
    | none => rfl
    | some a => unfold Builtin.firstCells; rw [Nat.zero_mul]; rfl
  · cases he

theorem growBy_succ (need f c : Nat) : Builtin.growBy need (f + 1) c = if c ≥ need then c else Builtin.growBy need f (c + (c + 768) / 4) := rfl
theorem nextcap_le (need old : Nat) (h : need ≤ 1000000) (ho : old < need) : Builtin.nextslicecap need old ≤ 3000000 := by
  unfold Builtin.nextslicecap
  split
  · omega
  · split
    · omega
    · have e4 : Builtin.growBy need 4 old = Builtin.growBy need (3 + 1) old := rfl
      have e3 : ∀ c, Builtin.growBy need 3 c = Builtin.growBy need (2 + 1) c := fun _ => rfl
      have e2 : ∀ c, Builtin.growBy need 2 c = Builtin.growBy need (1 + 1) c := fun _ => rfl
      have e1 : ∀ c, Builtin.growBy need 1 c = Builtin.growBy need (0 + 1) c := fun _ => rfl
      have e0 : ∀ c, Builtin.growBy need 0 c = c := fun _ => rfl
      rw [e4, growBy_succ]
      split
      · omega
      · rw [e3, growBy_succ]
        split
        · omega
        · rw [e2, growBy_succ]
          split
          · omega
          · rw [e1, growBy_succ, e0]
            split <;> omega
end
end Go.Ev
