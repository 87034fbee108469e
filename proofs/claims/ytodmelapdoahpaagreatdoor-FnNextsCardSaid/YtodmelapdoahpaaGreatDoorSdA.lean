import Derived.Test.YtodmelapdoahpaaGreatDoorEvB
import Derived.Below
import Derived.Laws.CopyRow
set_option linter.all false
namespace Go.Ev

theorem digsF_succ (f n : Nat) : digsF (f + 1) n = bcase (Nat.beq n 0) [] (Nat.beq (Nat.mod n 2) 1 :: digsF f (Nat.div (Nat.sub n 1) 2)) := rfl
theorem digsF_zero (n : Nat) : digsF 0 n = [] := rfl

def undig : List Bool → Nat
  | [] => 0
  | b :: l => 2 * undig l + (if b then 1 else 2)

theorem undig_digsF : ∀ f n, n ≤ f → undig (digsF f n) = n
  | 0, n, h => by
    have : n = 0 := by omega
    subst this; rfl
  | f + 1, n, h => by
    rw [digsF_succ]
    by_cases h0 : n = 0
    · subst h0; rfl
    · have hb : Nat.beq n 0 = false := by cases hn : Nat.beq n 0 with | false => rfl | true => exact absurd (Nat.eq_of_beq_eq_true hn) h0
      rw [hb, bcase_false]
      have hd : (Nat.div (Nat.sub n 1) 2) = (n - 1) / 2 := rfl
      have ih := undig_digsF f ((n - 1) / 2) (by omega)
      rw [hd]
      simp only [undig, ih]
      have hm : Nat.mod n 2 = n % 2 := rfl
      rw [hm]
      by_cases h1 : n % 2 = 1
      · have : Nat.beq (n % 2) 1 = true := by rw [h1]; rfl
        rw [this]; simp; omega
      · have h2 : n % 2 = 0 := by omega
        have : Nat.beq (n % 2) 1 = false := by rw [h2]; rfl
        rw [this]; simp; omega

theorem digs_inj {a b : Nat} (h : digs a = digs b) : a = b := by
  have := congrArg undig h
  unfold digs at this
  rwa [undig_digsF _ _ (Nat.le_refl _), undig_digsF _ _ (Nat.le_refl _)] at this

namespace T
variable {α : Type}
theorem get_nil (t : T α) : get [] t = t.val := rfl
theorem get_cons (b : Bool) (p : List Bool) (t : T α) : get (b :: p) t = get p (kid b t) := rfl
theorem set_nil (t : T α) (x : Option α) : set [] t x = setv t x := rfl
theorem set_cons (b : Bool) (p : List Bool) (t : T α) (x : Option α) : set (b :: p) t x = put b t (set p (kid b t) x) := rfl
theorem val_setv (t : T α) (x : Option α) : (setv t x).val = x := by cases t <;> rfl
theorem kid_setv (t : T α) (x : Option α) (b : Bool) : kid b (setv t x) = kid b t := by cases t <;> cases b <;> rfl
theorem val_put (b : Bool) (t s : T α) : (put b t s).val = t.val := by cases t <;> cases b <;> rfl
theorem kid_put (b : Bool) (t s : T α) : kid b (put b t s) = s := by cases t <;> cases b <;> rfl
theorem kid_put_ne {b c : Bool} (h : b ≠ c) (t s : T α) : kid c (put b t s) = kid c t := by cases t <;> cases b <;> cases c <;> first | rfl | exact absurd rfl h
theorem get_e (p : List Bool) : get p (.e : T α) = none := by
  induction p with
  | nil => rfl
  | cons b p ih => rw [get_cons]; cases b <;> exact ih
theorem get_set_same (p : List Bool) : ∀ (t : T α) (x : Option α), get p (set p t x) = x := by
  induction p with
  | nil => intro t x; rw [get_nil, set_nil, val_setv]
  | cons b p ih => intro t x; rw [get_cons, set_cons, kid_put, ih]
theorem get_set_ne (p : List Bool) : ∀ (q : List Bool) (t : T α) (x : Option α), p ≠ q → get q (set p t x) = get q t := by
  induction p with
  | nil =>
    intro q t x h
    cases q with
    | nil => exact absurd rfl h
    | cons c q => rw [set_nil, get_cons, get_cons, kid_setv]
  | cons b p ih =>
    intro q t x h
    cases q with
    | nil => rw [set_cons, get_nil, get_nil, val_put]
    | cons c q =>
      rw [set_cons, get_cons, get_cons]
      by_cases hb : b = c
      · subst hb; rw [kid_put, ih _ _ _ (fun e => h (by rw [e]))]
      · rw [kid_put_ne hb]
theorem get_setn (i j : Nat) (t : T α) (x : Option α) : get (digs j) (set (digs i) t x) = if j = i then x else get (digs j) t := by
  by_cases h : j = i
  · subst h; rw [if_pos rfl, get_set_same]
  · rw [if_neg h, get_set_ne _ _ _ _ (fun e => h (digs_inj e).symm)]
end T

theorem Heap.get_set (h : Heap) (b b' : Nat) (x : Option ABlk) : (h.set b x).get b' = if b' = b then x else h.get b' := T.get_setn _ _ _ _
theorem Heap.get_new (h : Heap) (x : ABlk) (b : Nat) : (h.new x).get b = if b = h.next then some x else h.get b := T.get_setn _ _ _ _
theorem Heap.next_new (h : Heap) (x : ABlk) : (h.new x).next = h.next + 1 := rfl
theorem Heap.next_set (h : Heap) (b : Nat) (x : Option ABlk) : (h.set b x).next = h.next := rfl

theorem bcase_eq {β : Type} (c : Bool) (x y : β) : bcase c x y = if c then x else y := by cases c <;> rfl
theorem ocase_eq {α β : Type} (o : Option α) (n : β) (s : α → β) : ocase o n s = match o with | none => n | some a => s a := by cases o <;> rfl
theorem ocase_some_iff {α β : Type} {o : Option α} {s : α → Option β} {b : β} : ocase o none s = some b ↔ ∃ a, o = some a ∧ s a = some b := by
  cases o with
  | none => rw [ocase_none]; simp
  | some a => rw [ocase_some]; simp
theorem bcase_none_iff {β : Type} {c : Bool} {x : Option β} {b : β} : bcase c x none = some b ↔ c = true ∧ x = some b := by cases c <;> simp [bcase_true, bcase_false]
theorem bcase_none_iff' {β : Type} {c : Bool} {x : Option β} {b : β} : bcase c none x = some b ↔ c = false ∧ x = some b := by cases c <;> simp [bcase_true, bcase_false]
theorem bcase_and {a b : Bool} : bcase a b false = (a && b) := by cases a <;> rfl

theorem lenL_eq (l : List AV) : lenL l = l.length := by
  induction l with
  | nil => rfl
  | cons a l ih => show Nat.add (lenL l) 1 = _; rw [ih]; rfl
theorem allOne_cons (a : AV) (l : List AV) : allOne (a :: l) = (a.one && allOne l) := by show bcase a.one (allOne l) false = _; rw [bcase_and]
theorem allOne_nil : allOne [] = true := rfl
theorem allOne_mem {l : List AV} (h : allOne l = true) : ∀ a ∈ l, a.one = true := by
  induction l with
  | nil => intro a ha; cases ha
  | cons b l ih =>
    rw [allOne_cons, Bool.and_eq_true] at h
    intro a ha
    cases ha with
    | head => exact h.1
    | tail _ ha => exact ih h.2 a ha
theorem dropL_eq (n : Nat) : ∀ l : List AV, dropL n l = l.drop n := by
  induction n with
  | zero => intro l; rfl
  | succ n ih => intro l; cases l with
    | nil => rfl
    | cons a l => show dropL n l = _; rw [ih]; rfl
theorem takeL_eq (n : Nat) : ∀ l : List AV, takeL n l = l.take n := by
  induction n with
  | zero => intro l; rfl
  | succ n ih => intro l; cases l with
    | nil => rfl
    | cons a l => show a :: takeL n l = _; rw [ih]; rfl
theorem nthL_eq (n : Nat) : ∀ l : List AV, nthL n l = l[n]? := by
  induction n with
  | zero => intro l; cases l <;> rfl
  | succ n ih => intro l; cases l with
    | nil => rfl
    | cons a l => show nthL n l = _; rw [ih]; simp
theorem repL_eq (l : List AV) (n : Nat) : repL l (n + 1) = l ++ repL l n := rfl
theorem consO_some {v : AV} {o : Option (List AV)} {l : List AV} : consO v o = some l ↔ ∃ r, o = some r ∧ l = v :: r := by
  cases o with
  | none => show none = _ ↔ _; simp
  | some r => show some (v :: r) = _ ↔ _; simp [eq_comm]
theorem getL_zero (c : T AV) (off : Nat) : getL c 0 off = some [] := rfl
theorem getL_succ (c : T AV) (k off : Nat) : getL c (k + 1) off = ocase (T.get (digs off) c) none fun v => consO v (getL c k (off + 1)) := rfl
theorem getL_spec (c : T AV) : ∀ (k off : Nat) (l : List AV), getL c k off = some l → l.length = k ∧ ∀ i, i < k → ∃ a, T.get (digs (off + i)) c = some a ∧ l[i]? = some a := by
  intro k
  induction k with
  | zero => intro off l h; rw [getL_zero] at h; cases h; exact ⟨rfl, fun i hi => by omega⟩
  | succ k ih =>
    intro off l h
    rw [getL_succ] at h
    obtain ⟨v, hv, h⟩ := ocase_some_iff.1 h
    obtain ⟨r, hr, rfl⟩ := consO_some.1 h
    obtain ⟨hl, hi⟩ := ih _ _ hr
    refine ⟨by simp [hl], fun i hik => ?_⟩
    cases i with
    | zero => exact ⟨v, by simpa using hv, by simp⟩
    | succ i =>
      obtain ⟨a, h1, h2⟩ := hi i (by omega)
      exact ⟨a, by rw [show off + (i + 1) = off + 1 + i by omega]; exact h1, by simpa using h2⟩
theorem setL_nil (off : Nat) (c : T AV) : setL [] off c = c := rfl
theorem setL_cons (v : AV) (l : List AV) (off : Nat) (c : T AV) : setL (v :: l) off c = setL l (off + 1) (T.set (digs off) c (some v)) := rfl
theorem get_setL : ∀ (l : List AV) (off : Nat) (c : T AV) (i : Nat), T.get (digs i) (setL l off c) = if off ≤ i ∧ i < off + l.length then l[i - off]? else T.get (digs i) c := by
  intro l
  induction l with
  | nil => intro off c i; rw [setL_nil, if_neg (fun h => by have h1 := h.1; have h2 := h.2; simp at h2; omega)]
  | cons v l ih =>
    intro off c i
    rw [setL_cons, ih, T.get_setn]
    by_cases h1 : off + 1 ≤ i ∧ i < off + 1 + l.length
    · rw [if_pos h1, if_pos (by simp; omega)]
      rw [show i - off = (i - (off + 1)) + 1 by omega]; simp
    · rw [if_neg h1]
      by_cases h2 : i = off
      · subst h2; rw [if_pos rfl, if_pos (by simp)]; simp
      · rw [if_neg h2, if_neg (by simp; omega)]
end Go.Ev

namespace Go.Ev

theorem kcode_inj {k k' : IntKind} (h : kbeq k k' = true) : k = k' := by cases k <;> cases k' <;> first | rfl | (exact absurd h (by decide))
theorem maxu_eq (k : IntKind) : (maxu k : Int) + 1 = 2 ^ k.bits := by cases k <;> decide
theorem maxs_le (k : IntKind) : maxs k ≤ maxu k := by cases k <;> decide

theorem isPos_iff (k : IntKind) (m : Nat) : isPos k m = true ↔ m ≤ maxs k := by unfold isPos; rw [Nat.ble_eq]
theorem sg_pos {k : IntKind} {m : Nat} (h : isPos k m = true) : sg k m = (m : Int) := by unfold sg; rw [h]; rfl
theorem sg_neg {k : IntKind} {m : Nat} (h : isPos k m = false) : sg k m = (m : Int) - (maxu k : Int) - 1 := by unfold sg; rw [h]; rfl
theorem sg_def (k : IntKind) (m : Nat) : sg k m = if m ≤ maxs k then (m : Int) else (m : Int) - (maxu k : Int) - 1 := by
  by_cases h : m ≤ maxs k
  · rw [if_pos h, sg_pos ((isPos_iff k m).2 h)]
  · rw [if_neg h, sg_neg (by cases hp : isPos k m with | false => rfl | true => exact absurd ((isPos_iff k m).1 hp) h)]

theorem wrap_eq (k : IntKind) (n : Int) : k.wrap n = sg k (code k n) := by
  rw [sg_def]
  unfold code IntKind.wrap
  cases k <;> simp [IntKind.bits, IntKind.signed, maxs, maxu] <;> first | omega | (split <;> omega)

theorem code_le (k : IntKind) (n : Int) : code k n ≤ maxu k := by
  unfold code; have := maxu_eq k; cases k <;> simp [maxu] <;> omega

theorem code_of_congr {k : IntKind} {m : Nat} {n : Int} (hm : m ≤ maxu k) (h : ∃ q : Int, n = m + q * ((maxu k : Int) + 1)) : code k n = m := by
  obtain ⟨q, rfl⟩ := h
  unfold code
  rw [Int.add_mul_emod_self_right, Int.emod_eq_of_lt (by omega) (by omega)]
  simp
theorem wrap_of {k : IntKind} {m : Nat} {n : Int} (hm : m ≤ maxu k) (h : ∃ q : Int, n = m + q * ((maxu k : Int) + 1)) : k.wrap n = sg k m := by
  rw [wrap_eq, code_of_congr hm h]
theorem wrap_sg {k : IntKind} {m : Nat} (hm : m ≤ maxu k) : k.wrap (sg k m) = sg k m := by
  refine wrap_of hm ?_
  rw [sg_def]
  split
  · exact ⟨0, by omega⟩
  · exact ⟨-1, by omega⟩
theorem sg_turn (k : IntKind) (m : Nat) : ∃ q : Int, sg k m = m + q * ((maxu k : Int) + 1) := by
  rw [sg_def]
  split
  · exact ⟨0, by omega⟩
  · exact ⟨-1, by omega⟩

theorem norm_le (k : IntKind) (x : Nat) : norm k x ≤ maxu k := by
  unfold norm; rw [bcase_eq]
  split
  · rename_i h; exact Nat.le_of_ble_eq_true h
  · exact Nat.and_le_right
theorem land_maxu (k : IntKind) (x : Nat) : Nat.land x (maxu k) = x % (maxu k + 1) := by
  show x &&& maxu k = _
  cases k <;> simp only [maxu] <;> first
    | exact Nat.and_two_pow_sub_one_eq_mod x 8 | exact Nat.and_two_pow_sub_one_eq_mod x 16 | exact Nat.and_two_pow_sub_one_eq_mod x 32 | exact Nat.and_two_pow_sub_one_eq_mod x 64
theorem norm_eq (k : IntKind) (x : Nat) : norm k x = x % (maxu k + 1) := by
  unfold norm; rw [bcase_eq]
  split
  · rename_i h; rw [Nat.mod_eq_of_lt (by have := Nat.le_of_ble_eq_true h; omega)]
  · exact land_maxu k x
theorem norm_turn (k : IntKind) (x : Nat) : ∃ q : Int, (x : Int) = norm k x + q * ((maxu k : Int) + 1) := by
  rw [norm_eq]
  refine ⟨((x / (maxu k + 1) : Nat) : Int), ?_⟩
  have h := Nat.mod_add_div x (maxu k + 1)
  have h2 : ((x % (maxu k + 1) : Nat) : Int) + ((maxu k + 1 : Nat) : Int) * ((x / (maxu k + 1) : Nat) : Int) = (x : Int) := by exact_mod_cast h
  rw [← h2]
  have h3 : ((maxu k + 1 : Nat) : Int) = (maxu k : Int) + 1 := by omega
  rw [h3, Int.mul_comm]

theorem nadd_ok (k : IntKind) (a b : Nat) : k.wrap (sg k a + sg k b) = sg k (nadd k a b) ∧ nadd k a b ≤ maxu k := by
  unfold nadd
  refine ⟨wrap_of (norm_le k _) ?_, norm_le k _⟩
  obtain ⟨q1, h1⟩ := sg_turn k a
  obtain ⟨q2, h2⟩ := sg_turn k b
  obtain ⟨q3, h3⟩ := norm_turn k (Nat.add a b)
  refine ⟨q1 + q2 + q3, ?_⟩
  have h4 : ((Nat.add a b : Nat) : Int) = (a : Int) + (b : Int) := by show ((a + b : Nat) : Int) = _; omega
  rw [h4] at h3
  rw [h1, h2, Int.add_mul, Int.add_mul]
  omega
theorem nsub_le (k : IntKind) (a b : Nat) (ha : a ≤ maxu k) (hb : b ≤ maxu k) : nsub k a b ≤ maxu k := by
  unfold nsub; rw [bcase_eq]
  split
  · show a - b ≤ _; omega
  · show maxu k - (b - a - 1) ≤ _; omega
theorem nsub_ok (k : IntKind) (a b : Nat) (ha : a ≤ maxu k) (hb : b ≤ maxu k) : k.wrap (sg k a - sg k b) = sg k (nsub k a b) ∧ nsub k a b ≤ maxu k := by
  refine ⟨wrap_of (nsub_le k a b ha hb) ?_, nsub_le k a b ha hb⟩
  obtain ⟨q1, h1⟩ := sg_turn k a
  obtain ⟨q2, h2⟩ := sg_turn k b
  unfold nsub; rw [bcase_eq]
  split
  · rename_i h; have h := Nat.le_of_ble_eq_true h
    refine ⟨q1 - q2, ?_⟩
    rw [h1, h2, Int.sub_mul]
    show _ = ((a - b : Nat) : Int) + _
    omega
  · rename_i h
    have h : a < b := by
      cases hb : Nat.ble b a with
      | true => exact absurd hb h
      | false => have := Nat.not_le_of_not_ble_eq_true (by rw [hb]; decide); omega
    refine ⟨q1 - q2 - 1, ?_⟩
    rw [h1, h2, Int.sub_mul, Int.sub_mul]
    show _ = ((maxu k - (b - a - 1) : Nat) : Int) + _
    omega
theorem nmul_ok (k : IntKind) (a b : Nat) (ha : isPos k a = true) (hb : isPos k b = true) : k.wrap (sg k a * sg k b) = sg k (norm k (Nat.mul a b)) ∧ norm k (Nat.mul a b) ≤ maxu k := by
  refine ⟨wrap_of (norm_le k _) ?_, norm_le k _⟩
  rw [sg_pos ha, sg_pos hb]
  obtain ⟨q3, h3⟩ := norm_turn k (Nat.mul a b)
  exact ⟨q3, by rw [← h3]; show (a : Int) * b = ((a * b : Nat) : Int); simp⟩
theorem sg_lt (k : IntKind) (a b : Nat) (ha : a ≤ maxu k) (hb : b ≤ maxu k) : decide (sg k a < sg k b) = nlt k a b := by
  unfold nlt nle1
  rw [bcase_eq, bcase_eq, bcase_eq]
  have hs := maxs_le k
  have hle : ∀ x y : Nat, Nat.ble (Nat.add x 1) y = decide (x < y) := fun x y => by
    show Nat.ble (x + 1) y = _
    rw [Bool.eq_iff_iff, Nat.ble_eq, decide_eq_true_iff]; omega
  rw [hle, sg_def, sg_def]
  by_cases h1 : a ≤ maxs k <;> by_cases h2 : b ≤ maxs k
  · rw [if_pos h1, if_pos h2, if_pos ((isPos_iff k a).2 h1), if_pos ((isPos_iff k b).2 h2)]
    rw [Bool.eq_iff_iff]; simp
  · rw [if_pos h1, if_neg h2, if_pos ((isPos_iff k a).2 h1), if_neg (fun h => h2 ((isPos_iff k b).1 h))]
    rw [Bool.eq_iff_iff]; simp; omega
  · rw [if_neg h1, if_pos h2, if_neg (fun h => h1 ((isPos_iff k a).1 h)), if_pos ((isPos_iff k b).2 h2)]
    rw [Bool.eq_iff_iff]; simp; omega
  · rw [if_neg h1, if_neg h2, if_neg (fun h => h1 ((isPos_iff k a).1 h)), if_neg (fun h => h2 ((isPos_iff k b).1 h))]
    rw [Bool.eq_iff_iff]; simp
theorem sg_inj {k : IntKind} {a b : Nat} (ha : a ≤ maxu k) (hb : b ≤ maxu k) (h : sg k a = sg k b) : a = b := by
  rw [sg_def, sg_def] at h
  have hs := maxs_le k
  split at h <;> split at h <;> omega
theorem nbeq_iff {a b : Nat} : Nat.beq a b = true ↔ a = b := ⟨Nat.eq_of_beq_eq_true, fun h => h ▸ Nat.beq_refl a⟩
theorem sg_beq (k : IntKind) (a b : Nat) (ha : a ≤ maxu k) (hb : b ≤ maxu k) : (sg k a == sg k b) = Nat.beq a b := by
  rw [Bool.eq_iff_iff, beq_iff_eq, nbeq_iff]
  exact ⟨sg_inj ha hb, fun h => h ▸ rfl⟩
end Go.Ev

namespace Go.Ev

theorem pack_nil : pack [] = 0 := rfl
theorem pack_cons (b : UInt8) (l : List UInt8) : pack (b :: l) = b.toNat + 256 * pack l := rfl
theorem ub (b : UInt8) : b.toNat < 256 := b.toNat_lt
theorem pack_lt : ∀ l : List UInt8, pack l < 256 ^ l.length
  | [] => by simp [pack_nil]
  | b :: l => by
    have := pack_lt l; have hb := ub b
    rw [pack_cons, List.length_cons, Nat.pow_succ]; omega
theorem pack_append : ∀ l m : List UInt8, pack (l ++ m) = pack l + 256 ^ l.length * pack m
  | [], m => by simp [pack_nil]
  | b :: l, m => by
    rw [List.cons_append, pack_cons, pack_cons, pack_append l m, List.length_cons, Nat.pow_succ, Nat.mul_add, Nat.add_assoc, Nat.mul_comm (256 ^ l.length) 256, Nat.mul_assoc]
theorem pack_inj : ∀ l m : List UInt8, l.length = m.length → pack l = pack m → l = m
  | [], [], _, _ => rfl
  | [], _ :: _, h, _ => by simp at h
  | _ :: _, [], h, _ => by simp at h
  | a :: l, b :: m, h, hp => by
    rw [pack_cons, pack_cons] at hp
    have ha := ub a; have hb := ub b
    have h1 : a.toNat = b.toNat := by omega
    have h2 : pack l = pack m := by omega
    rw [UInt8.toNat_inj.1 h1, pack_inj l m (by simpa using h) h2]
theorem shiftRight8 (x i : Nat) : Nat.shiftRight x (Nat.mul 8 i) = x / 256 ^ i := by
  show x >>> (8 * i) = _
  rw [Nat.shiftRight_eq_div_pow, Nat.pow_mul]
theorem shiftLeft8 (x i : Nat) : Nat.shiftLeft x (Nat.mul 8 i) = x * 256 ^ i := by
  show x <<< (8 * i) = _
  rw [Nat.shiftLeft_eq, Nat.pow_mul]
theorem land255 (x : Nat) : Nat.land x 255 = x % 256 := Nat.and_two_pow_sub_one_eq_mod x 8
theorem pack_drop : ∀ (l : List UInt8) (i : Nat), pack l / 256 ^ i = pack (l.drop i)
  | l, 0 => by simp
  | [], i + 1 => by simp [pack_nil]
  | b :: l, i + 1 => by
    have hb := ub b
    rw [List.drop_succ_cons, ← pack_drop l i, pack_cons, Nat.pow_succ', ← Nat.div_div_eq_div_mul, show (b.toNat + 256 * pack l) / 256 = pack l by omega]
theorem sat_eq (l : List UInt8) (i : Nat) (h : i < l.length) : sat (pack l) i = l[i].toNat := by
  unfold sat
  rw [shiftRight8, land255, pack_drop, List.drop_eq_getElem_cons h, pack_cons]
  have := ub l[i]; omega
theorem low_eq (l : List UInt8) (n : Nat) : low (pack l) n = pack (l.take n) := by
  unfold low
  rw [shiftRight8, shiftLeft8, pack_drop]
  show pack l - _ = _
  have h := pack_append (l.take n) (l.drop n)
  rw [List.take_append_drop] at h
  by_cases hn : n ≤ l.length
  · rw [List.length_take, Nat.min_eq_left hn] at h
    rw [h, Nat.mul_comm (256 ^ n)]; omega
  · rw [List.drop_eq_nil_of_le (by omega), List.take_of_length_le (by omega), pack_nil]; omega
theorem sub_eq (l : List UInt8) (a b : Nat) : sub (pack l) a b = pack ((l.drop a).take (b - a)) := by
  unfold sub
  rw [shiftRight8, pack_drop, low_eq]; rfl
theorem cat_eq (l m : List UInt8) : cat l.length (pack l) (pack m) = pack (l ++ m) := by
  unfold cat
  rw [shiftLeft8, pack_append]
  show pack l + pack m * _ = _
  rw [Nat.mul_comm]
theorem seq_eq (l m : List UInt8) : seq l.length (pack l) m.length (pack m) = (l == m) := by
  unfold seq
  rw [bcase_and, Bool.eq_iff_iff, Bool.and_eq_true, nbeq_iff, nbeq_iff, beq_iff_eq]
  exact ⟨fun h => pack_inj l m h.1 h.2, fun h => by subst h; exact ⟨rfl, rfl⟩⟩
theorem sltF_succ (f n a m b : Nat) : sltF (f + 1) n a m b = bcase (is0 m) false (bcase (is0 n) true
    (bcase (Nat.beq (byte0 a) (byte0 b)) (sltF f (pred n) (shr8 a) (pred m) (shr8 b)) (nle1 (byte0 a) (byte0 b)))) := rfl
theorem byte0_cons (b : UInt8) (l : List UInt8) : byte0 (pack (b :: l)) = b.toNat := by
  unfold byte0; rw [land255, pack_cons]; have := ub b; omega
theorem shr8_cons (b : UInt8) (l : List UInt8) : shr8 (pack (b :: l)) = pack l := by
  have h := shiftRight8 (pack (b :: l)) 1
  rw [pack_drop] at h
  exact h
theorem nle1_eq (a b : Nat) : nle1 a b = decide (a < b) := by
  show Nat.ble (a + 1) b = _
  rw [Bool.eq_iff_iff, Nat.ble_eq, decide_eq_true_iff]; omega
theorem sltF_eq : ∀ (l m : List UInt8) (f : Nat), l.length + m.length < f → sltF f l.length (pack l) m.length (pack m) = Op.bytesLess l m
  | l, m, 0, h => by omega
  | l, [], f + 1, h => by
    rw [sltF_succ]; cases l <;> rfl
  | [], b :: m, f + 1, h => by
    rw [sltF_succ]; rfl
  | a :: l, b :: m, f + 1, h => by
    rw [sltF_succ]
    have hm : is0 (b :: m).length = false := rfl
    have hn : is0 (a :: l).length = false := rfl
    rw [hm, hn, bcase_false, bcase_false, byte0_cons, byte0_cons, shr8_cons, shr8_cons]
    have ih := sltF_eq l m f (by simp at h; omega)
    have hp1 : pred (a :: l).length = l.length := rfl
    have hp2 : pred (b :: m).length = m.length := rfl
    rw [hp1, hp2, ih, nle1_eq]
    show _ = (decide (a < b) || (a == b && Op.bytesLess l m))
    by_cases hab : a = b
    · subst hab
      have : Nat.beq a.toNat a.toNat = true := Nat.beq_refl _
      rw [this, bcase_true]
      simp
    · have hne : a.toNat ≠ b.toNat := fun h => hab (UInt8.toNat_inj.1 h)
      have : Nat.beq a.toNat b.toNat = false := by cases hx : Nat.beq a.toNat b.toNat with | false => rfl | true => exact absurd (nbeq_iff.1 hx) hne
      rw [this, bcase_false]
      have h2 : (a == b) = false := by simp [hab]
      rw [h2]
      simp [UInt8.lt_iff_toNat_lt]
theorem slt_eq (l m : List UInt8) : slt l.length (pack l) m.length (pack m) = Op.bytesLess l m := by
  unfold slt; exact sltF_eq l m _ (by show _ < l.length + m.length + 1; omega)
end Go.Ev

namespace Go.Ev

abbrev Rho := Nat → Option (Nat × Nat)
def Rle (ρ ρ' : Rho) : Prop := ∀ b x, ρ b = some x → ρ' b = some x
theorem Rle.refl (ρ : Rho) : Rle ρ ρ := fun _ _ h => h
theorem Rle.trans {a b c : Rho} (h : Rle a b) (k : Rle b c) : Rle a c := fun x y e => k x y (h x y e)

def LE (ρ : Rho) : List Trm → Nat → Prop
  | [], n => n = 0
  | t :: ts, n => ∃ d c m, ρ t.v = some (d, c) ∧ d ≤ t.mx ∧ (t.lo = 0 ∨ ∃ d' c', ρ t.lo = some (d', c') ∧ d' < d) ∧ LE ρ ts m ∧ n = t.a * d + m
theorem LE.mono {ρ ρ' : Rho} (hρ : Rle ρ ρ') : ∀ {ts : List Trm} {n : Nat}, LE ρ ts n → LE ρ' ts n
  | [], _, h => h
  | _ :: _, _, ⟨d, c, m, h1, h2, h3, h4, h5⟩ => ⟨d, c, m, hρ _ _ h1, h2, h3.imp id fun ⟨d', c', g1, g2⟩ => ⟨d', c', hρ _ _ g1, g2⟩, LE.mono hρ h4, h5⟩
theorem maxT_cons (t : Trm) (ts : List Trm) : maxT (t :: ts) = t.a * t.mx + maxT ts := rfl
theorem LE.le {ρ : Rho} : ∀ {ts : List Trm} {n : Nat}, LE ρ ts n → n ≤ maxT ts
  | [], _, h => by rw [show _ = 0 from h]; exact Nat.zero_le _
  | t :: ts, _, ⟨d, c, m, h1, h2, h3, h4, h5⟩ => by
    have := LE.le h4
    rw [maxT_cons, h5]
    exact Nat.add_le_add (Nat.mul_le_mul_left _ h2) this

mutual
def VR (ρ : Rho) : AV → Value → Prop
  | .int k m, v => v = .int k (sg k m) ∧ m ≤ maxu k
  | .bool b, v => v = .bool b
  | .str n bits, v => ∃ l : List UInt8, v = .string ⟨⟨l⟩⟩ ∧ l.length = n ∧ pack l = bits
  | .ptr b off, v => ∃ r c, ρ b = some (r, c) ∧ v = .pointer (some ⟨r, off, none⟩)
  | .nilp, v => v = .pointer none
  | .slice b off len cap, v => ∃ r c, ρ b = some (r, c) ∧ v = .slice (some ⟨r, off, none⟩) len cap
  | .gslice b off len sz, v => ∃ r c cap, ρ b = some (r, c) ∧ v = .slice (some ⟨r, off, none⟩) len cap ∧ len ≤ cap ∧ off + cap * sz ≤ c
  | .eslice, v => ∃ a c, v = .slice a 0 c
  | .nilslice, v => v = .slice none 0 0
  | .map b, v => ∃ r c, ρ b = some (r, c) ∧ v = .map (some r)
  | .nilmap, v => v = .map none
  | .func fn fs cs, v => ∃ a b, v = .func fn a b ∧ VRL ρ fs a.toList ∧ VRL ρ cs b.toList
  | .nilfunc, v => v = .nilFunc
  | .iface t x, v => ∃ y, v = .iface t y ∧ VR ρ x y
  | .niliface, v => v = .nilIface
  | .agg l, v => ∃ a, v = .agg a ∧ VRL ρ l a.toList
  | .tuple l, v => ∃ a, v = .tuple a ∧ VRL ρ l a.toList
  | .oslice b, v => ∃ r off len cap, ρ b = some (r, off) ∧ ρ (b + 1) = some (len, cap) ∧ v = .slice (some ⟨r, off, none⟩) len cap
  | .imod m q, v => ∃ x : Nat, v = .int .i64 (x : Int) ∧ x ≤ 255 ∧ x % m = q
  | .optr b, v => ∃ r off, ρ b = some (r, off) ∧ v = .pointer (some ⟨r, off, none⟩)
  | .sint k c ts, v => ∃ m : Nat, v = .int k ((c + m : Nat) : Int) ∧ LE ρ ts m ∧ c + maxT ts ≤ maxs k
  | .sneg k c ts, v => ∃ m : Nat, v = .int k (-((c + m : Nat) : Int)) ∧ LE ρ ts m ∧ c + maxT ts ≤ maxs k
  | .sstr l, v => ∃ s : List UInt8, v = .string ⟨⟨s⟩⟩ ∧ VRL ρ l (s.map fun x => .int .u8 (x.toNat : Int))
def VRL (ρ : Rho) : List AV → List Value → Prop
  | [], l => l = []
  | a :: as, l => ∃ v vs, l = v :: vs ∧ VR ρ a v ∧ VRL ρ as vs
end

mutual
theorem VR.mono {ρ ρ' : Rho} (hρ : Rle ρ ρ') : ∀ (a : AV) (v : Value), VR ρ a v → VR ρ' a v
  | .int _ _, _, h => by simpa [VR] using h
  | .bool _, _, h => by simpa [VR] using h
  | .str _ _, _, h => by simpa [VR] using h
  | .ptr _ _, _, h => by simp only [VR] at h ⊢; obtain ⟨r, c, h1, h2⟩ := h; exact ⟨r, c, hρ _ _ h1, h2⟩
  | .nilp, _, h => by simpa [VR] using h
  | .slice _ _ _ _, _, h => by simp only [VR] at h ⊢; obtain ⟨r, c, h1, h2⟩ := h; exact ⟨r, c, hρ _ _ h1, h2⟩
  | .gslice _ _ _ _, _, h => by simp only [VR] at h ⊢; obtain ⟨r, c, d, h1, h2⟩ := h; exact ⟨r, c, d, hρ _ _ h1, h2⟩
  | .eslice, _, h => by simpa [VR] using h
  | .nilslice, _, h => by simpa [VR] using h
  | .map _, _, h => by simp only [VR] at h ⊢; obtain ⟨r, c, h1, h2⟩ := h; exact ⟨r, c, hρ _ _ h1, h2⟩
  | .nilmap, _, h => by simpa [VR] using h
  | .func _ fs cs, _, h => by simp only [VR] at h ⊢; obtain ⟨a, b, h1, h2, h3⟩ := h; exact ⟨a, b, h1, VRL.mono hρ fs _ h2, VRL.mono hρ cs _ h3⟩
  | .nilfunc, _, h => by simpa [VR] using h
  | .iface _ x, _, h => by simp only [VR] at h ⊢; obtain ⟨y, h1, h2⟩ := h; exact ⟨y, h1, VR.mono hρ x _ h2⟩
  | .niliface, _, h => by simpa [VR] using h
  | .agg l, _, h => by simp only [VR] at h ⊢; obtain ⟨a, h1, h2⟩ := h; exact ⟨a, h1, VRL.mono hρ l _ h2⟩
  | .tuple l, _, h => by simp only [VR] at h ⊢; obtain ⟨a, h1, h2⟩ := h; exact ⟨a, h1, VRL.mono hρ l _ h2⟩
  | .oslice _, _, h => by simp only [VR] at h ⊢; obtain ⟨r, o, l, c, h1, h2, h3⟩ := h; exact ⟨r, o, l, c, hρ _ _ h1, hρ _ _ h2, h3⟩
  | .imod _ _, _, h => by simpa [VR] using h
  | .optr _, _, h => by simp only [VR] at h ⊢; obtain ⟨r, c, h1, h2⟩ := h; exact ⟨r, c, hρ _ _ h1, h2⟩
  | .sint _ _ _, _, h => by simp only [VR] at h ⊢; obtain ⟨m, h1, h2, h3⟩ := h; exact ⟨m, h1, h2.mono hρ, h3⟩
  | .sneg _ _ _, _, h => by simp only [VR] at h ⊢; obtain ⟨m, h1, h2, h3⟩ := h; exact ⟨m, h1, h2.mono hρ, h3⟩
  | .sstr l, _, h => by simp only [VR] at h ⊢; obtain ⟨s, h1, h2⟩ := h; exact ⟨s, h1, VRL.mono hρ l _ h2⟩
theorem VRL.mono {ρ ρ' : Rho} (hρ : Rle ρ ρ') : ∀ (a : List AV) (v : List Value), VRL ρ a v → VRL ρ' a v
  | [], _, h => by simpa [VRL] using h
  | a :: l, _, h => by simp only [VRL] at h ⊢; obtain ⟨v, vs, h1, h2, h3⟩ := h; exact ⟨v, vs, h1, VR.mono hρ a _ h2, VRL.mono hρ l _ h3⟩
end

section
variable {ρ : Rho}
theorem VRL.nil_iff {l : List Value} : VRL ρ [] l ↔ l = [] := by simp [VRL]
theorem VRL.nil : VRL ρ [] [] := by simp [VRL]
theorem VRL.cons {a : AV} {as : List AV} {v : Value} {vs : List Value} (h : VR ρ a v) (h' : VRL ρ as vs) : VRL ρ (a :: as) (v :: vs) := by
  simp only [VRL]; exact ⟨v, vs, rfl, h, h'⟩
theorem VRL.cons_iff {a : AV} {as : List AV} {l : List Value} : VRL ρ (a :: as) l ↔ ∃ v vs, l = v :: vs ∧ VR ρ a v ∧ VRL ρ as vs := by simp only [VRL]
theorem VRL.length : ∀ {as : List AV} {vs : List Value}, VRL ρ as vs → vs.length = as.length
  | [], _, h => by rw [VRL.nil_iff.1 h]; rfl
  | a :: as, _, h => by obtain ⟨v, vs, rfl, _, h2⟩ := VRL.cons_iff.1 h; simp [VRL.length h2]
theorem VRL.append : ∀ {as bs : List AV} {vs us : List Value}, VRL ρ as vs → VRL ρ bs us → VRL ρ (as ++ bs) (vs ++ us)
  | [], _, _, _, h, k => by rw [VRL.nil_iff.1 h]; exact k
  | a :: as, bs, _, _, h, k => by obtain ⟨v, vs, rfl, h1, h2⟩ := VRL.cons_iff.1 h; exact VRL.cons h1 (VRL.append h2 k)
theorem VRL.get : ∀ {as : List AV} {vs : List Value}, VRL ρ as vs → ∀ (i : Nat) (a : AV), as[i]? = some a → ∃ v, vs[i]? = some v ∧ VR ρ a v
  | [], _, _, i, a, h => by simp at h
  | b :: as, _, h, i, a, hi => by
    obtain ⟨v, vs, rfl, h1, h2⟩ := VRL.cons_iff.1 h
    cases i with
    | zero => simp at hi; subst hi; exact ⟨v, by simp, h1⟩
    | succ i => simpa using VRL.get h2 i a (by simpa using hi)
theorem VRL.of_get : ∀ {as : List AV} {vs : List Value}, vs.length = as.length → (∀ (i : Nat) (a : AV), as[i]? = some a → ∃ v, vs[i]? = some v ∧ VR ρ a v) → VRL ρ as vs
  | [], vs, h, _ => by cases vs with | nil => exact VRL.nil | cons _ _ => simp at h
  | a :: as, [], h, _ => by simp at h
  | a :: as, v :: vs, h, hg => by
    refine VRL.cons ?_ (VRL.of_get (by simpa using h) fun i b hi => ?_)
    · obtain ⟨u, hu, hr⟩ := hg 0 a (by simp); simp at hu; subst hu; exact hr
    · simpa using hg (i + 1) b (by simpa using hi)
theorem VRL.drop {as : List AV} {vs : List Value} (h : VRL ρ as vs) (n : Nat) : VRL ρ (as.drop n) (vs.drop n) :=
  VRL.of_get (by simp [h.length]) fun i a hi => by rw [List.getElem?_drop] at hi ⊢; exact h.get _ _ hi
theorem VRL.take {as : List AV} {vs : List Value} (h : VRL ρ as vs) (n : Nat) : VRL ρ (as.take n) (vs.take n) :=
  VRL.of_get (by simp [h.length]) fun i a hi => by
    rw [List.getElem?_take] at hi ⊢
    split at hi
    · rename_i hlt; rw [if_pos hlt]; exact h.get _ _ hi
    · simp at hi
end

theorem digs_dummy : True := trivial
mutual
theorem abs_VR (ρ : Rho) : ∀ (v : Value) (a : AV), abs v = some a → VR ρ a v
  | .bool b, a, h => by simp only [abs] at h; cases h; simp [VR]
  | .int k n, a, h => by
    simp only [abs] at h
    cases hc : (decide (sg k (code k n) = n) && Nat.ble (code k n) (maxu k)) with
    | false => rw [hc] at h; cases h
    | true =>
      rw [hc] at h; cases h
      rw [Bool.and_eq_true, decide_eq_true_iff] at hc
      simp only [VR]; exact ⟨by rw [hc.1], Nat.le_of_ble_eq_true hc.2⟩
  | .string s, a, h => by simp only [abs] at h; cases h; simp only [VR]; exact ⟨s.data.toList, rfl, rfl, rfl⟩
  | .pointer none, a, h => by simp only [abs] at h; cases h; simp [VR]
  | .pointer (some _), a, h => by simp [abs] at h
  | .slice none 0 0, a, h => by simp only [abs] at h; cases h; simp [VR]
  | .slice none 0 (_ + 1), a, h => by simp [abs] at h
  | .slice none (_ + 1) _, a, h => by simp [abs] at h
  | .slice (some _) _ _, a, h => by simp [abs] at h
  | .map none, a, h => by simp only [abs] at h; cases h; simp [VR]
  | .map (some _), a, h => by simp [abs] at h
  | .nilFunc, a, h => by simp only [abs] at h; cases h; simp [VR]
  | .nilIface, a, h => by simp only [abs] at h; cases h; simp [VR]
  | .agg ⟨l⟩, a, h => by
    simp only [abs] at h
    cases hl : absL l with
    | none => rw [hl] at h; cases h
    | some r => rw [hl] at h; cases h; simp only [VR]; exact ⟨⟨l⟩, rfl, absL_VRL ρ l r hl⟩
  | .tuple ⟨l⟩, a, h => by
    simp only [abs] at h
    cases hl : absL l with
    | none => rw [hl] at h; cases h
    | some r => rw [hl] at h; cases h; simp only [VR]; exact ⟨⟨l⟩, rfl, absL_VRL ρ l r hl⟩
  | .iface t x, a, h => by
    simp only [abs] at h
    cases hl : abs x with
    | none => rw [hl] at h; cases h
    | some r => rw [hl] at h; cases h; simp only [VR]; exact ⟨x, rfl, abs_VR ρ x r hl⟩
  | .float _ _, a, h => by simp [abs] at h
  | .complex _ _ _, a, h => by simp [abs] at h
  | .chan _, a, h => by simp [abs] at h
  | .func _ _ _, a, h => by simp [abs] at h
theorem absL_VRL (ρ : Rho) : ∀ (l : List Value) (r : List AV), absL l = some r → VRL ρ r l
  | [], r, h => by simp only [absL] at h; cases h; exact VRL.nil
  | v :: l, r, h => by
    simp only [absL] at h
    cases h1 : abs v with
    | none => rw [h1] at h; cases h
    | some a =>
      cases h2 : absL l with
      | none => rw [h1, h2] at h; cases h
      | some b => rw [h1, h2] at h; cases h; exact VRL.cons (abs_VR ρ v a h1) (absL_VRL ρ l b h2)
end
end Go.Ev

namespace Go.Ev

def wr : ABlk → Bool
  | .cells _ _ _ .ro => false
  | .cells _ _ _ .rg => false
  | _ => true

inductive ER (ρ : Rho) : List AEnt → List MapEntry → Prop
  | nil : ER ρ [] []
  | cons {e : AEnt} {es : List AEnt} {m : MapEntry} {ms : List MapEntry} (hk : VR ρ e.key m.key) (hv : VR ρ e.val m.val) (hb : m.born = e.born) (h : ER ρ es ms) : ER ρ (e :: es) (m :: ms)

def MR (ρ : Rho) : Option Nat → Option Nat → Prop
  | none, r => r = none
  | some b, r => ∃ q c, ρ b = some (q, c) ∧ r = some q

def CR (ρ : Rho) (t : T AV) (arr : Array Value) : Prop := ∀ i a, T.get (digs i) t = some a → ∃ v, arr[i]? = some v ∧ VR ρ a v

def TB (t : T AV) (n : Nat) : Prop := ∀ i a, T.get (digs i) t = some a → i < n

def BR (ρ : Rho) (c : Nat) : ABlk → Obj → Prop
  | .cells t n ty k, o => ∃ arr lo hi, o = .cells arr ty (lo, hi) ∧ (hi ≤ lo ∨ arr.size ≤ lo) ∧ arr.size = c ∧ n ≤ c ∧ (k.ex? = true → n = c) ∧ CR ρ t arr ∧ TB t n
  | .map es clock, o => ∃ res, o = .map res clock ∧ ER ρ es res.toList
  | .siter n bits pos, o => ∃ l : List UInt8, o = .stringIter ⟨⟨l⟩⟩ pos ∧ l.length = n ∧ pack l = bits
  | .titer l pos, o => ∃ s : List UInt8, o = .stringIter ⟨⟨s⟩⟩ pos ∧ VRL ρ l (s.map fun x => .int .u8 (x.toNat : Int))
  | .miter m since seen stepped, o => ∃ r, o = .mapIter r since seen.toArray stepped ∧ MR ρ m r

theorem ER.mono {ρ ρ' : Rho} (hρ : Rle ρ ρ') : ∀ {es ms}, ER ρ es ms → ER ρ' es ms
  | _, _, .nil => .nil
  | _, _, .cons hk hv hb h => .cons (VR.mono hρ _ _ hk) (VR.mono hρ _ _ hv) hb (ER.mono hρ h)
theorem MR.mono {ρ ρ' : Rho} (hρ : Rle ρ ρ') {m r} (h : MR ρ m r) : MR ρ' m r := by
  cases m with
  | none => exact h
  | some b => obtain ⟨q, c, h1, h2⟩ := h; exact ⟨q, c, hρ _ _ h1, h2⟩
theorem CR.mono {ρ ρ' : Rho} (hρ : Rle ρ ρ') {t arr} (h : CR ρ t arr) : CR ρ' t arr := fun i a hi => let ⟨v, h1, h2⟩ := h i a hi; ⟨v, h1, VR.mono hρ _ _ h2⟩
theorem BR.mono {ρ ρ' : Rho} (hρ : Rle ρ ρ') {c} {x : ABlk} {o : Obj} (h : BR ρ c x o) : BR ρ' c x o := by
  cases x with
  | cells t n ty k => obtain ⟨arr, lo, hi, h1, h2, h3, h4, h5, h6, h7⟩ := h; exact ⟨arr, lo, hi, h1, h2, h3, h4, h5, h6.mono hρ, h7⟩
  | map es clock => obtain ⟨res, h1, h2⟩ := h; exact ⟨res, h1, h2.mono hρ⟩
  | siter n bits pos => exact h
  | titer l pos => obtain ⟨s, h1, h2⟩ := h; exact ⟨s, h1, VRL.mono hρ _ _ h2⟩
  | miter m since seen stepped => obtain ⟨r, h1, h2⟩ := h; exact ⟨r, h1, h2.mono hρ⟩

structure Sim (ρ : Rho) (h : Heap) (w : World) : Prop where
  blk : ∀ b x, h.get b = some x → ∃ r c o, ρ b = some (r, c) ∧ w.heap[r]? = some o ∧ BR ρ c x o
  inj : ∀ b b' x x' r c c', h.get b = some x → h.get b' = some x' → ρ b = some (r, c) → ρ b' = some (r, c') → b = b'
  fresh : ∀ b, h.next ≤ b → ρ b = none

structure Ext (ρ : Rho) (h : Heap) (w : World) (ρ' : Rho) (h' : Heap) (w' : World) : Prop where
  le : Rle ρ ρ'
  old : ∀ b, b < h.next → ρ' b = ρ b
  next : h.next ≤ h'.next
  size : w.heap.size ≤ w'.heap.size
  frame : ∀ r, r < w.heap.size → (∀ b x c, h.get b = some x → wr x = true → ρ b ≠ some (r, c)) → w'.heap[r]? = w.heap[r]?
  img : ∀ b x r c, h'.get b = some x → wr x = true → ρ' b = some (r, c) → r < w.heap.size → ∃ b0 x0 c0, h.get b0 = some x0 ∧ wr x0 = true ∧ ρ b0 = some (r, c0)
  os : w'.os = w.os
  tape : w'.tape = w.tape
  output : w'.output = w.output
  dom : ∀ b x, h'.get b = some x → (∃ x0, h.get b = some x0 ∧ wr x0 = wr x) ∨ (h.next ≤ b ∧ wr x = true)

theorem Sim.lt {ρ h w} (s : Sim ρ h w) {b x} (hb : h.get b = some x) : b < h.next := by
  obtain ⟨r, c, o, h1, _⟩ := s.blk b x hb
  rcases Nat.lt_or_ge b h.next with h2 | h2
  · exact h2
  · rw [s.fresh b h2] at h1; cases h1

theorem Ext.refl (ρ : Rho) (h : Heap) (w : World) : Ext ρ h w ρ h w :=
  ⟨Rle.refl _, fun _ _ => rfl, Nat.le_refl _, Nat.le_refl _, fun _ _ _ => rfl, fun b x r c h1 h2 h3 _ => ⟨b, x, c, h1, h2, h3⟩, rfl, rfl, rfl, fun b x hb => .inl ⟨x, hb, rfl⟩⟩

theorem Ext.trans {ρ h w ρ1 h1 w1 ρ2 h2 w2} (a : Ext ρ h w ρ1 h1 w1) (b : Ext ρ1 h1 w1 ρ2 h2 w2) : Ext ρ h w ρ2 h2 w2 where
  le := a.le.trans b.le
  old := fun x hx => (b.old x (Nat.lt_of_lt_of_le hx a.next)).trans (a.old x hx)
  next := Nat.le_trans a.next b.next
  size := Nat.le_trans a.size b.size
  frame := fun r hr hno => by
    rw [b.frame r (Nat.lt_of_lt_of_le hr a.size) ?_, a.frame r hr hno]
    intro y x c hy hx hρ
    obtain ⟨b0, x0, c0, g1, g2, g3⟩ := a.img y x r c hy hx hρ hr
    exact hno b0 x0 c0 g1 g2 g3
  img := fun y x r c hy hx hρ hr => by
    obtain ⟨b1, x1, c1, g1, g2, g3⟩ := b.img y x r c hy hx hρ (Nat.lt_of_lt_of_le hr a.size)
    exact a.img b1 x1 r c1 g1 g2 g3 hr
  os := b.os.trans a.os
  tape := b.tape.trans a.tape
  output := b.output.trans a.output
  dom := fun y x hy => by
    rcases b.dom y x hy with ⟨x1, h1, e1⟩ | ⟨h1, e1⟩
    · rcases a.dom y x1 h1 with ⟨x0, h0, e0⟩ | ⟨h0, e0⟩
      · exact .inl ⟨x0, h0, e0.trans e1⟩
      · exact .inr ⟨h0, e1 ▸ e0⟩
    · exact .inr ⟨Nat.le_trans a.next h1, e1⟩

theorem Sim.drew {ρ h w} (s : Sim ρ h w) (n : Nat) : Sim ρ h { w with drawn := n } := ⟨s.blk, s.inj, s.fresh⟩
theorem Ext.drew (ρ : Rho) (h : Heap) (w : World) (n : Nat) : Ext ρ h w ρ h { w with drawn := n } :=
  ⟨Rle.refl _, fun _ _ => rfl, Nat.le_refl _, Nat.le_refl _, fun _ _ _ => rfl, fun b x r c h1 h2 h3 _ => ⟨b, x, c, h1, h2, h3⟩, rfl, rfl, rfl, fun b x hb => .inl ⟨x, hb, rfl⟩⟩

def Rho.ext (ρ : Rho) (b : Nat) (x : Nat × Nat) : Rho := fun b' => if b' = b then some x else ρ b'
theorem Rho.ext_le {ρ : Rho} {b : Nat} {x : Nat × Nat} (h : ρ b = none) : Rle ρ (ρ.ext b x) := fun b' y hy => by
  unfold Rho.ext
  by_cases e : b' = b
  · subst e; rw [h] at hy; cases hy
  · rw [if_neg e]; exact hy
theorem Rho.ext_same (ρ : Rho) (b : Nat) (x : Nat × Nat) : ρ.ext b x b = some x := if_pos rfl
theorem Rho.ext_ne (ρ : Rho) {b b' : Nat} (x : Nat × Nat) (h : b' ≠ b) : ρ.ext b x b' = ρ b' := if_neg h

theorem Sim.alloc {ρ h w} (s : Sim ρ h w) {x : ABlk} {o : Obj} {c : Nat} (hb : BR (ρ.ext h.next (w.heap.size, c)) c x o) (hw : wr x = true) :
    Sim (ρ.ext h.next (w.heap.size, c)) (h.new x) { w with heap := w.heap.push o } ∧
    Ext ρ h w (ρ.ext h.next (w.heap.size, c)) (h.new x) { w with heap := w.heap.push o } := by
  have hn : ρ h.next = none := s.fresh _ (Nat.le_refl _)
  have hle := Rho.ext_le (x := (w.heap.size, c)) hn
  have hold : ∀ b y, h.get b = some y → ∀ r c', ρ b = some (r, c') → r < w.heap.size := by
    intro b y hy r c' hr
    obtain ⟨r', c'', o', h1, h2, _⟩ := s.blk b y hy
    rw [hr] at h1; cases h1
    rcases Nat.lt_or_ge r w.heap.size with h3 | h3
    · exact h3
    · rw [Array.getElem?_eq_none h3] at h2; cases h2
  refine ⟨⟨?_, ?_, ?_⟩, ⟨hle, ?_, ?_, ?_, ?_, ?_, rfl, rfl, rfl, fun b y hy => by
    rw [Heap.get_new] at hy
    by_cases e : b = h.next
    · rw [if_pos e] at hy; cases hy; exact .inr ⟨by omega, hw⟩
    · rw [if_neg e] at hy; exact .inl ⟨y, hy, rfl⟩⟩⟩
  · intro b y hy
    rw [Heap.get_new] at hy
    by_cases e : b = h.next
    · rw [if_pos e] at hy; cases hy
      exact ⟨_, _, o, by rw [e]; exact Rho.ext_same _ _ _, by simp, hb⟩
    · rw [if_neg e] at hy
      obtain ⟨r, c', o', h1, h2, h3⟩ := s.blk b y hy
      refine ⟨r, c', o', hle _ _ h1, ?_, h3.mono hle⟩
      have := hold b y hy r c' h1
      show (w.heap.push o)[r]? = _
      rw [Array.getElem?_push, if_neg (by omega), h2]
  · intro b b' y y' r c1 c2 h1 h2 h3 h4
    rw [Heap.get_new] at h1 h2
    by_cases e : b = h.next
    · by_cases e' : b' = h.next
      · rw [e, e']
      · rw [if_neg e'] at h2
        rw [e, Rho.ext_same] at h3; cases h3
        rw [Rho.ext_ne _ _ e'] at h4
        exact absurd (hold b' y' h2 _ _ h4) (by omega)
    · rw [if_neg e] at h1
      by_cases e' : b' = h.next
      · rw [e', Rho.ext_same] at h4; cases h4
        rw [Rho.ext_ne _ _ e] at h3
        exact absurd (hold b y h1 _ _ h3) (by omega)
      · rw [if_neg e'] at h2
        rw [Rho.ext_ne _ _ e] at h3
        rw [Rho.ext_ne _ _ e'] at h4
        exact s.inj b b' y y' r c1 c2 h1 h2 h3 h4
  · intro b hb'
    rw [Heap.next_new] at hb'
    rw [Rho.ext_ne _ _ (by omega)]
    exact s.fresh b (by omega)
  · intro b hb'; exact Rho.ext_ne _ _ (by omega)
  · rw [Heap.next_new]; omega
  · show w.heap.size ≤ (w.heap.push o).size; simp
  · intro r hr _
    show (w.heap.push o)[r]? = _
    rw [Array.getElem?_push, if_neg (by omega)]
  · intro b y r c' hy hwy hρ hr
    rw [Heap.get_new] at hy
    by_cases e : b = h.next
    · rw [e, Rho.ext_same] at hρ; cases hρ; omega
    · rw [if_neg e] at hy
      rw [Rho.ext_ne _ _ e] at hρ
      exact ⟨b, y, c', hy, hwy, hρ⟩

theorem Sim.write {ρ h w} (s : Sim ρ h w) {b r c : Nat} {x y : ABlk} {o : Obj} (hb : h.get b = some x) (hx : wr x = true) (hr : ρ b = some (r, c)) (hy : BR ρ c y o) (hwy : wr y = true) :
    Sim ρ (h.set b (some y)) { w with heap := w.heap.setIfInBounds r o } ∧ Ext ρ h w ρ (h.set b (some y)) { w with heap := w.heap.setIfInBounds r o } := by
  obtain ⟨r', c', o', h1, h2, _⟩ := s.blk b x hb
  rw [hr] at h1; cases h1
  have hlt : r < w.heap.size := by
    rcases Nat.lt_or_ge r w.heap.size with h3 | h3
    · exact h3
    · rw [Array.getElem?_eq_none h3] at h2; cases h2
  refine ⟨⟨?_, ?_, ?_⟩, ⟨Rle.refl _, fun _ _ => rfl, Nat.le_refl _, by simp, ?_, ?_, rfl, rfl, rfl, fun b' z hz => by
    rw [Heap.get_set] at hz
    by_cases e : b' = b
    · rw [if_pos e] at hz; cases hz; rw [e]; exact .inl ⟨x, hb, by rw [hx, hwy]⟩
    · rw [if_neg e] at hz; exact .inl ⟨z, hz, rfl⟩⟩⟩
  · intro b' z hz
    rw [Heap.get_set] at hz
    by_cases e : b' = b
    · rw [if_pos e] at hz; cases hz
      refine ⟨r, c, o, by rw [e]; exact hr, ?_, hy⟩
      show (w.heap.setIfInBounds r o)[r]? = _
      rw [Array.getElem?_setIfInBounds_self_of_lt hlt]
    · rw [if_neg e] at hz
      obtain ⟨r2, c2, o2, g1, g2, g3⟩ := s.blk b' z hz
      refine ⟨r2, c2, o2, g1, ?_, g3⟩
      have hne : r ≠ r2 := fun q => by subst q; exact e (s.inj b' b z x r c2 c hz hb g1 hr)
      show (w.heap.setIfInBounds r o)[r2]? = _
      rw [Array.getElem?_setIfInBounds_ne hne, g2]
  · intro b1 b2 y1 y2 r1 c1 c2 g1 g2 g3 g4
    rw [Heap.get_set] at g1 g2
    have f1 : ∃ z, h.get b1 = some z := by by_cases e : b1 = b; exact ⟨x, e ▸ hb⟩; rw [if_neg e] at g1; exact ⟨_, g1⟩
    have f2 : ∃ z, h.get b2 = some z := by by_cases e : b2 = b; exact ⟨x, e ▸ hb⟩; rw [if_neg e] at g2; exact ⟨_, g2⟩
    obtain ⟨z1, f1⟩ := f1
    obtain ⟨z2, f2⟩ := f2
    exact s.inj b1 b2 z1 z2 r1 c1 c2 f1 f2 g3 g4
  · intro b' hb'; exact s.fresh b' hb'
  · intro r2 hr2 hno
    have hne : r ≠ r2 := fun q => by subst q; exact hno b x c hb hx hr
    show (w.heap.setIfInBounds r o)[r2]? = _
    rw [Array.getElem?_setIfInBounds_ne hne]
  · intro b' z r2 c2 hz hwz hρ hr2
    rw [Heap.get_set] at hz
    by_cases e : b' = b
    · rw [e] at hρ; exact ⟨b, x, c2, hb, hx, hρ⟩
    · rw [if_neg e] at hz; exact ⟨b', z, c2, hz, hwz, hρ⟩

theorem Sim.forget {ρ h w} (s : Sim ρ h w) (b : Nat) : Sim ρ (h.set b none) w ∧ Ext ρ h w ρ (h.set b none) w := by
  have old : ∀ b' z, (h.set b none).get b' = some z → h.get b' = some z := by
    intro b' z hz
    rw [Heap.get_set] at hz
    split at hz
    · cases hz
    · exact hz
  exact ⟨⟨fun b' z hz => s.blk b' z (old _ _ hz), fun b1 b2 y1 y2 r c1 c2 g1 g2 => s.inj b1 b2 y1 y2 r c1 c2 (old _ _ g1) (old _ _ g2), s.fresh⟩,
    ⟨Rle.refl _, fun _ _ => rfl, Nat.le_refl _, Nat.le_refl _, fun _ _ _ => rfl, fun b' z r c hz hw hρ _ => ⟨b', z, c, old _ _ hz, hw, hρ⟩, rfl, rfl, rfl, fun b' z hz => .inl ⟨z, old _ _ hz, rfl⟩⟩⟩
end Go.Ev

namespace Go.Ev
open Go

section
variable {P : Program}

theorem run_typeInfo' {t : TypeId} {i : TypeInfo} (h : P.info? t = some i) (w : World) : (typeInfo t).run P w = .ok i w := by
  unfold typeInfo; rw [Sem.run_bind, run_program, Result.andThen_ok, h]; rfl
theorem run_underlying' {t : TypeId} {d : TypeDesc} (h : P.underlying t = some d) (w : World) : (underlying t).run P w = .ok d w := by
  unfold underlying; rw [Sem.run_bind, run_program, Result.andThen_ok, h]; rfl
theorem sizeA_some {t : TypeId} {s : Nat} (h : sizeA P t = some s) : ∃ i, P.info? t = some i ∧ i.size = s := by
  unfold sizeA at h
  cases hi : P.info? t with
  | none => rw [hi] at h; cases h
  | some i => rw [hi] at h; cases h; exact ⟨i, rfl, rfl⟩
theorem run_sizeOf' {t : TypeId} {s : Nat} (h : sizeA P t = some s) (w : World) : (sizeOf t).run P w = .ok s w := by
  obtain ⟨i, hi, rfl⟩ := sizeA_some h
  unfold sizeOf; rw [Sem.run_bind, run_typeInfo' hi, Result.andThen_ok]; rfl
theorem zeroA_some {t : TypeId} {z : AV} (h : zeroA P t = some z) : ∃ i v, P.info? t = some i ∧ i.zero = some v ∧ abs v = some z := by
  unfold zeroA at h
  cases hi : P.info? t with
  | none => rw [hi] at h; cases h
  | some i =>
    rw [hi] at h
    cases hz : i.zero with
    | none => simp [hz] at h
    | some v => simp only [hz] at h; exact ⟨i, v, rfl, hz, h⟩
theorem run_zeroValue' {t : TypeId} {z : AV} (h : zeroA P t = some z) (w : World) : ∃ v, (zeroValue t).run P w = .ok v w ∧ (∀ ρ, VR ρ z v) := by
  obtain ⟨i, v, hi, hz, ha⟩ := zeroA_some h
  refine ⟨v, ?_, fun ρ => abs_VR ρ v z ha⟩
  unfold zeroValue; rw [Sem.run_bind, run_typeInfo' hi, Result.andThen_ok, hz]; rfl
theorem aggSz_some {t : TypeId} {s : Option Nat} (h : aggSz P t = some s) :
    (∀ w, (isAgg t).run P w = .ok s.isSome w) ∧ (∀ n, s = some n → sizeA P t = some n) := by
  unfold aggSz at h
  cases hd : P.underlying t with
  | none => rw [hd] at h; cases h
  | some d =>
    rw [hd] at h
    cases d with
    | struct fs =>
      cases hi : P.info? t with
      | none => simp [hi] at h
      | some i => simp only [hi] at h; cases h; exact ⟨fun w => by unfold isAgg; rw [Sem.run_bind, run_underlying' hd]; rfl, fun n hn => by cases hn; unfold sizeA; rw [hi]⟩
    | array k e =>
      cases hi : P.info? t with
      | none => simp [hi] at h
      | some i => simp only [hi] at h; cases h; exact ⟨fun w => by unfold isAgg; rw [Sem.run_bind, run_underlying' hd]; rfl, fun n hn => by cases hn; unfold sizeA; rw [hi]⟩
    | _ => cases h; exact ⟨fun w => by unfold isAgg; rw [Sem.run_bind, run_underlying' hd]; rfl, fun n hn => by cases hn⟩

theorem cell_of {w : World} {r i : Nat} {arr : Array Value} {ty : TypeId} {fr : Nat × Nat} (h : w.heap[r]? = some (.cells arr ty fr)) : w.cell? ⟨r, i, none⟩ = arr[i]? := by
  simp [World.cell?, h]
theorem add_of (r o i : Nat) : (⟨r, o, none⟩ : Addr).add i = ⟨r, o + i, none⟩ := by unfold Addr.add; split <;> simp_all
theorem frozen_of {w : World} {r i : Nat} {arr : Array Value} {ty : TypeId} {lo hi : Nat} (h : w.heap[r]? = some (.cells arr ty (lo, hi))) (hf : hi ≤ lo ∨ arr.size ≤ lo) (hl : i < arr.size) : w.frozen? ⟨r, i, none⟩ = false := by
  simp [World.frozen?, h]; omega

def spl (arr : Array Value) (o : Nat) (vs : List Value) : Array Value := (arr.toList.take o ++ vs ++ arr.toList.drop (o + vs.length)).toArray
theorem spl_size (arr : Array Value) (o : Nat) (vs : List Value) (h : o + vs.length ≤ arr.size) : (spl arr o vs).size = arr.size := by
  unfold spl; simp; omega
theorem spl_get (arr : Array Value) (o : Nat) (vs : List Value) (h : o + vs.length ≤ arr.size) (i : Nat) :
    (spl arr o vs)[i]? = if o ≤ i ∧ i < o + vs.length then vs[i - o]? else arr[i]? := by
  unfold spl
  simp only [List.getElem?_toArray, List.append_assoc]
  have hto : (arr.toList.take o).length = o := by simp; omega
  by_cases h1 : i < o
  · rw [if_neg (by omega), List.getElem?_append_left (by omega), List.getElem?_take, if_pos h1]; simp
  · rw [List.getElem?_append_right (by omega), hto]
    by_cases h2 : i < o + vs.length
    · rw [if_pos ⟨by omega, h2⟩, List.getElem?_append_left (by omega)]
    · rw [if_neg (by omega), List.getElem?_append_right (by omega), List.getElem?_drop]
      rw [show o + vs.length + (i - o - vs.length) = i by omega]; simp

theorem setCell_eq {w : World} {r i : Nat} {arr : Array Value} {ty : TypeId} {fr : Nat × Nat} (v : Value) (h : w.heap[r]? = some (.cells arr ty fr)) :
    w.setCell ⟨r, i, none⟩ v = { w with heap := w.heap.setIfInBounds r (.cells (arr.setIfInBounds i v) ty fr) } := by
  unfold World.setCell
  congr 1
  apply Array.ext_getElem?
  intro j
  simp only [Array.getElem?_modify, Array.getElem?_setIfInBounds]
  by_cases hj : r = j
  · subst hj
    have hlt : r < w.heap.size := by
      rcases Nat.lt_or_ge r w.heap.size with h3 | h3
      · exact h3
      · rw [Array.getElem?_eq_none h3] at h; cases h
    have h' : w.heap[r] = .cells arr ty fr := by rw [Array.getElem?_eq_getElem hlt] at h; exact Option.some.inj h
    simp [hlt, h']
  · simp [hj]

theorem run_storeCells' (r : Nat) (ty : TypeId) (lo hi : Nat) : ∀ (vs : List Value) (o i : Nat) (arr : Array Value) (w : World), w.heap[r]? = some (.cells arr ty (lo, hi)) → (hi ≤ lo ∨ arr.size ≤ lo) →
    o + i + vs.length ≤ arr.size → (∀ v ∈ vs, v.oneCell' = true) →
    (storeCells ⟨r, o, none⟩ vs i).run P w = .ok () { w with heap := w.heap.setIfInBounds r (.cells (spl arr (o + i) vs) ty (lo, hi)) }
  | [], o, i, arr, w, hg, _, _, _ => by
    have : spl arr (o + i) [] = arr := by
      apply Array.ext'; simp [spl]
    rw [this]
    unfold storeCells
    have h2 : w.heap.setIfInBounds r (.cells arr ty (lo, hi)) = w.heap := by
      apply Array.ext_getElem?
      intro j
      rw [Array.getElem?_setIfInBounds]
      split
      · rename_i e; subst e
        split
        · exact hg.symm
        · rw [Array.getElem?_eq_none (by omega)]
      · rfl
    rw [h2]; rfl
  | v :: rest, o, i, arr, w, hg, hf, hl, h1 => by
    have hi' : o + i < arr.size := by simp at hl; omega
    have hc : w.cell? ⟨r, o + i, none⟩ = some arr[o + i] := by rw [cell_of hg]; simp [hi']
    have hst : (store ((⟨r, o, none⟩ : Addr).add i) v).run P w = .ok () { w with heap := w.heap.setIfInBounds r (.cells (arr.setIfInBounds (o + i) v) ty (lo, hi)) } := by
      rw [add_of, run_store P w _ v _ (h1 v (by simp)), hc]
      simp only [frozen_of hg hf hi', setCell_eq v hg]
      rfl
    have hlt : r < w.heap.size := by
      rcases Nat.lt_or_ge r w.heap.size with h3 | h3
      · exact h3
      · rw [Array.getElem?_eq_none h3] at hg; cases hg
    have ih := run_storeCells' r ty lo hi rest o (i + 1) (arr.setIfInBounds (o + i) v) { w with heap := w.heap.setIfInBounds r (.cells (arr.setIfInBounds (o + i) v) ty (lo, hi)) }
      (by simp [hlt]) (by simpa using hf) (by simp at hl ⊢; omega) (fun x hx => h1 x (by simp [hx]))
    unfold storeCells
    rw [Sem.run_bind, hst, Result.andThen_ok, ih]
    simp only [Array.setIfInBounds_setIfInBounds]
    have : spl (arr.setIfInBounds (o + i) v) (o + (i + 1)) rest = spl arr (o + i) (v :: rest) := by
      apply Array.ext_getElem?
      intro j
      rw [spl_get _ _ _ (by simp at hl ⊢; omega), spl_get _ _ _ (by simp at hl ⊢; omega)]
      by_cases h2 : o + (i + 1) ≤ j ∧ j < o + (i + 1) + rest.length
      · rw [if_pos h2, if_pos (by simp; omega), show j - (o + i) = (j - (o + (i + 1))) + 1 by omega]; simp
      · rw [if_neg h2, Array.getElem?_setIfInBounds]
        by_cases h3 : o + i = j
        · subst h3; rw [if_pos rfl, if_pos hi', if_pos (by simp)]; simp
        · rw [if_neg h3, if_neg (by simp; omega)]
    rw [this]
end
end Go.Ev
