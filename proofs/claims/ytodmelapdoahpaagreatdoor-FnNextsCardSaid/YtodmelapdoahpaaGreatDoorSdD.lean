import Derived.Test.YtodmelapdoahpaaGreatDoorSdC
import Derived.Lib.UnsafeStr
set_option linter.all false
namespace Go.Ev
open Go
section
variable {P : Program}

theorem run_appendCap (need old : Nat) (e : TypeId) (w : World) : ∃ k w', (choose (.appendCap need old e)).run P w = .ok k w' ∧ need ≤ k ∧ (w' = w ∨ ∃ j, w' = { w with drawn := j }) := by
  rw [run_choose, if_neg (by simp [Question.forced])]
  exact ⟨_, _, rfl, by show need ≤ need + _; omega, .inr ⟨_, rfl⟩⟩

structure AppIn (P : Program) (w : World) (ts : Array TypeId) (t e : TypeId) (size n : Nat) (y' : Value) : Prop where
  t0 : ts[0]? = some t
  t1 : ∀ u, ts[1]? = some u → ∃ d, P.underlying u = some d ∧ ∀ k, d ≠ .int k
  und : P.underlying t = some (.slice e)
  size : sizeA P e = some size
  len : (Builtin.lenOf y').run P w = .ok n w
theorem noInt {d : TypeDesc} (h : ∀ k, d ≠ .int k) : (match d with | .int _ => true | _ => false) = false := by
  cases d <;> first | rfl | exact absurd rfl (h _)

def appCore (e : TypeId) (size : Nat) (base : Option Addr) (sLen sCap n : Nat) (y' : Value) : Sem Value :=
  if sLen + n ≤ sCap then do
    let new ← Builtin.firstCells size n y'
    if let some a := base then storeCells (a.add (sLen * size)) new.toList
    pure (.slice base (sLen + n) sCap)
  else do
    if ((sLen + n : Nat) : Int) > IntKind.i64.max ∧ ((false : Bool) = true ∨ (← typeInfo e).bytes = 0) then runtimePanic (.error "growslice: len out of range")
    if Builtin.nextslicecap (sLen + n) sCap * (← typeInfo e).bytes > 2 ^ 48 then (do
      if !(← Builtin.mayShare size sLen n base y') then mark .noRoom
      unsupported (.resourceLimit "append: a slice or a string whose bytes no memory bears"))
    let newCap ← choose (.appendCap (sLen + n) sCap e)
    askRoom (newCap * (← typeInfo e).bytes)
    let old ← Builtin.firstCells size sLen (.slice base sLen sCap)
    let new ← Builtin.firstCells size n y'
    let rest := Builtin.zeroCells (← zeroValue e).cells (newCap - (sLen + n))
    pure (.slice (some (← newRow e (old ++ new ++ rest))) (sLen + n) newCap)
theorem append_core {w : World} {ts : Array TypeId} {ty t e : TypeId} {size n : Nat} {y' : Value} (a : AppIn P w ts t e size n y') (base : Option Addr) (sLen sCap : Nat) :
    (Builtin.append_ ts ty #[.slice base sLen sCap, y']).run P w = (appCore e size base sLen sCap n y').run P w := by
  unfold Builtin.append_ appCore
  have a0 : (#[.slice base sLen sCap, y'] : Array Value)[0]? = some (.slice base sLen sCap) := rfl
  have a1 : (#[.slice base sLen sCap, y'] : Array Value)[1]? = some y' := rfl
  rw [a.t0, a0, a1]
  simp only
  simp only [Sem.run_bind, run_underlying' a.und, Result.andThen_ok, run_sizeOf' a.size]
  cases h : ts[1]? with
  | none =>
    simp only [Sem.run_bind, Sem.run_pure, Result.andThen_ok, Bool.false_eq_true, if_false, a.len, Bool.not_false, if_true]
    rfl
  | some u =>
    obtain ⟨d, h1, h2⟩ := a.t1 u h
    simp only [Sem.run_bind, run_underlying' h1, Result.andThen_ok, Sem.run_pure, noInt h2, Bool.false_eq_true, if_false, a.len, Bool.not_false, if_true]
    rfl

def TOk (t : T AV) (l : List AV) : Prop := ∀ i a, T.get (digs i) t = some a → l[i]? = some a
theorem TOk.fresh (l : List AV) : TOk (setL l 0 .e) l := fun i a h => by
  rw [get_setL] at h
  by_cases hc : 0 ≤ i ∧ i < 0 + l.length
  · rw [if_pos hc, Nat.sub_zero] at h; exact h
  · rw [if_neg hc, T.get_e] at h; cases h
theorem TOk.over {c : T AV} {k m : Nat} {l0 l : List AV} (hg : getL c k 0 = some l0) (hb : TB c m) (hm : m ≤ k + l.length) : TOk (setL l k c) (l0 ++ l) := fun i a h => by
  obtain ⟨h1, h2⟩ := getL_spec c k 0 l0 hg
  rw [get_setL] at h
  by_cases hc : k ≤ i ∧ i < k + l.length
  · rw [if_pos hc] at h
    rw [List.getElem?_append_right (by omega), h1]; exact h
  · rw [if_neg hc] at h
    have hi := hb i a h
    have hik : i < k := by omega
    obtain ⟨b, h3, h4⟩ := h2 i hik
    rw [Nat.zero_add, h] at h3; cases h3
    rw [List.getElem?_append_left (by omega)]; exact h4

theorem grow_ok' {ρ : Rho} {h : Heap} {w : World} (s : Sim ρ h w) {e : TypeId} {inf : TypeInfo} {z : AV} {size sLen sCap n : Nat} {base : Option Addr} {y' : Value} {old new : Array Value} {t : T AV}
    (hi : P.info? e = some inf) (hb : inf.bytes ≤ 1000000) (hz : zeroA P e = some z) (hzl : lenL z.cells = size) (hlt : sCap < sLen + n) (hneed : sLen + n ≤ 1000000)
    (hold : ∀ w1 : World, w1.heap = w.heap → (Builtin.firstCells size sLen (.slice base sLen sCap)).run P w1 = .ok old w1) (hos : old.size = sLen * size)
    (hnew : ∀ w1 : World, w1.heap = w.heap → (Builtin.firstCells size n y').run P w1 = .ok new w1) (hns : new.size = n * size) (ht : CR ρ t (old ++ new)) (htb : TB t ((sLen + n) * size)) :
    OkV ρ h w P (.gslice h.next 0 (sLen + n) size) (h.new (.cells t ((sLen + n) * size) e .gr)) (appCore e size base sLen sCap n y') := by
  obtain ⟨k, w1, g1, g2, g3⟩ := run_appendCap (P := P) (sLen + n) sCap e w
  obtain ⟨s1, x1, hh⟩ := s.drew' g3
  have o1 := hold w1 hh
  have n1 := hnew w1 hh
  obtain ⟨z', hz1, hz2⟩ := run_zeroValue' (P := P) hz w1
  have hzc := cells_VR (hz2 ρ)
  have hzs : z'.cells.size = size := by rw [← hzl, lenL_eq, ← hzc.length]; simp
  have hrs : (Builtin.zeroCells z'.cells (k - (sLen + n))).size = (k - (sLen + n)) * size := by unfold Builtin.zeroCells; rw [hzs]; simp
  have harr : (old ++ new ++ Builtin.zeroCells z'.cells (k - (sLen + n))).size = k * size := by
    rw [Array.size_append, Array.size_append, hos, hns, hrs, ← Nat.add_mul, ← Nat.add_mul]; congr 1; omega
  have hle := Rho.ext_le (x := (w1.heap.size, (old ++ new ++ Builtin.zeroCells z'.cells (k - (sLen + n))).size)) (s1.fresh _ (Nat.le_refl _))
  have hnk : (sLen + n) * size ≤ k * size := Nat.mul_le_mul_right _ g2
  have hcr : CR (ρ.ext h.next (w1.heap.size, (old ++ new ++ Builtin.zeroCells z'.cells (k - (sLen + n))).size)) t (old ++ new ++ Builtin.zeroCells z'.cells (k - (sLen + n))) := fun i a ha => by
    obtain ⟨v, h1, h2⟩ := ht i a ha
    refine ⟨v, ?_, VR.mono hle _ _ h2⟩
    have hlt' : i < (old ++ new).size := by
      rcases Nat.lt_or_ge i (old ++ new).size with h3 | h3
      · exact h3
      · rw [Array.getElem?_eq_none h3] at h1; cases h1
    rw [Array.getElem?_append_left hlt']
    exact h1
  have al := s1.alloc (x := .cells t ((sLen + n) * size) e .gr) (o := .cells (old ++ new ++ Builtin.zeroCells z'.cells (k - (sLen + n))) e) (c := (old ++ new ++ Builtin.zeroCells z'.cells (k - (sLen + n))).size)
    ⟨_, 0, 0, rfl, .inl (Nat.le_refl _), rfl, by rw [harr]; exact hnk, fun q => (by cases q), hcr, htb⟩ rfl
  refine ⟨_, .slice (some ⟨w1.heap.size, 0, none⟩) (sLen + n) k, _, ?_, VR.gslice_iff.2 ⟨_, _, k, Rho.ext_same _ _ _, rfl, g2, by rw [harr]; omega⟩, al.1, x1.trans al.2⟩
  unfold appCore
  have hcap := nextcap_le (sLen + n) sCap hneed hlt
  have h48 : (2 : Nat) ^ 48 = 281474976710656 := by decide
  have hmul : Builtin.nextslicecap (sLen + n) sCap * inf.bytes ≤ 3000000 * 1000000 := Nat.mul_le_mul hcap hb
  have hc1 : ¬ (((sLen + n : Nat) : Int) > IntKind.i64.max ∧ ((false : Bool) = true ∨ inf.bytes = 0)) := by rw [max_i64]; omega
  have hc2 : ¬ (Builtin.nextslicecap (sLen + n) sCap * inf.bytes > 2 ^ 48) := by rw [h48]; omega
  rw [if_neg (by omega)]
  simp only [Sem.run_bind, run_typeInfo' hi, Result.andThen_ok, if_neg hc1, if_neg hc2, Sem.run_pure, g1, run_askRoom, o1, n1, hz1]
  rfl

theorem grow_ok {ρ : Rho} {h : Heap} {w : World} (s : Sim ρ h w) {e : TypeId} {inf : TypeInfo} {z : AV} {size sLen sCap n : Nat} {base : Option Addr} {y' : Value} {l0 l : List AV} {t : T AV}
    (hi : P.info? e = some inf) (hb : inf.bytes ≤ 1000000) (hz : zeroA P e = some z) (hzl : lenL z.cells = size) (hlt : sCap < sLen + n) (hneed : sLen + n ≤ 1000000)
    {old : Array Value} (hold : ∀ w1 : World, w1.heap = w.heap → (Builtin.firstCells size sLen (.slice base sLen sCap)).run P w1 = .ok old w1) (ho : VRL ρ l0 old.toList) (hl0 : l0.length = sLen * size)
    {new : Array Value} (hnew : ∀ w1 : World, w1.heap = w.heap → (Builtin.firstCells size n y').run P w1 = .ok new w1) (hn : VRL ρ l new.toList) (hl : l.length = n * size) (ht : TOk t (l0 ++ l)) :
    OkV ρ h w P (.gslice h.next 0 (sLen + n) size) (h.new (.cells t ((sLen + n) * size) e .gr)) (appCore e size base sLen sCap n y') := by
  have hos : old.size = sLen * size := by rw [← hl0, ← ho.length]; simp
  have hns : new.size = n * size := by rw [← hl, ← hn.length]; simp
  have hln : (l0 ++ l).length = (sLen + n) * size := by rw [List.length_append, hl0, hl, Nat.add_mul]
  refine grow_ok' s hi hb hz hzl hlt hneed hold hos hnew hns (fun i a ha => ?_) (fun i a ha => ?_)
  · obtain ⟨v, h1, h2⟩ := (ho.append hn).get _ _ (ht i a ha)
    exact ⟨v, by rw [← Array.getElem?_toList, Array.toList_append]; exact h1, h2⟩
  · have h1 := ht i a ha
    rcases Nat.lt_or_ge i (l0 ++ l).length with h3 | h3
    · omega
    · rw [List.getElem?_eq_none h3] at h1; cases h1
end
end Go.Ev

namespace Go.Ev
open Go
section
variable {P : Program}

theorem elemsA_len {h : Heap} {size n : Nat} {l : List AV} {y : AV} (he : elemsA h size y = some (n, l)) : l.length = n * size := by
  unfold elemsA at he
  split at he
  · split at he
    · split at he
      · rename_i hg; cases he; exact (getL_spec _ _ _ _ hg).1
      · cases he
    · cases he
  · rename_i b off len sz
    cases hsz : Nat.beq sz size with
    | false => rw [hsz] at he; cases he
    | true =>
      rw [hsz] at he
      simp only [cond_true] at he
      split at he
      · split at he
        · rename_i hg; cases he; exact (getL_spec _ _ _ _ hg).1
        · cases he
      · cases he
  · cases he; simp
  · rename_i m bits
    cases hsz : Nat.beq size 1 with
    | false => rw [hsz] at he; cases he
    | true =>
      rw [hsz] at he
      have := nbeq_iff.1 hsz; subst this
      cases he
      rw [bytesL_len]; omega
  · cases hsz : Nat.beq size 1 with
    | false => rw [hsz] at he; cases he
    | true =>
      rw [hsz] at he
      have := nbeq_iff.1 hsz; subst this
      cases he
      rw [lenL_eq]; omega
  · cases he; simp
  · cases he

theorem ElemsOk.all {ρ : Rho} {w : World} {size n : Nat} {l : List AV} {y' : Value} (e : ElemsOk P ρ w size n l y') (hl : l.length = n * size) : ∃ a : Array Value, (∀ w1 : World, w1.heap = w.heap → (Builtin.firstCells size n y').run P w1 = .ok a w1) ∧ VRL ρ l a.toList := by
  obtain ⟨a, h1, h2⟩ := e.cells n (Nat.le_refl _)
  rw [List.take_of_length_le (by omega)] at h2
  exact ⟨a, h1, h2⟩
theorem Sim.heap {ρ : Rho} {h : Heap} {w w1 : World} (s : Sim ρ h w) (e : w1.heap = w.heap) : Sim ρ h w1 := ⟨fun b x hb => by rw [e]; exact s.blk b x hb, s.inj, s.fresh⟩

theorem core_in {ρ : Rho} {h : Heap} {w : World} (s : Sim ρ h w) {e : TypeId} {size sLen sCap n b off r c : Nat} {y' : Value} {l : List AV} {h' : Heap} (hle : sLen + n ≤ sCap) (hr : ρ b = some (r, c))
    {a : Array Value} (h1 : (Builtin.firstCells size n y').run P w = .ok a w) (h2 : VRL ρ l a.toList) (hs : storeL h b (off + sLen * size) l = some h') :
    ∃ ρ' w', (appCore e size (some ⟨r, off, none⟩) sLen sCap n y').run P w = .ok (.slice (some ⟨r, off, none⟩) (sLen + n) sCap) w' ∧ Sim ρ' h' w' ∧ Ext ρ h w ρ' h' w' := by
  obtain ⟨ρ', w', g1, g2, g3⟩ := storeL_ok (P := P) s hr h2 hs
  refine ⟨ρ', w', ?_, g2, g3⟩
  unfold appCore
  rw [if_pos hle]
  simp only [Sem.run_bind, h1, Result.andThen_ok, add_of, g1, Sem.run_pure]

theorem Sim.rename {ρ : Rho} {h : Heap} {w : World} (s : Sim ρ h w) {b r c : Nat} {x y : ABlk} {o : Obj} (hb : h.get b = some x) (hx : wr x = true) (hr : ρ b = some (r, c)) (hy : BR (ρ.ext h.next (r, c)) c y o) (hwy : wr y = true) :
    Sim (ρ.ext h.next (r, c)) ((h.set b none).new y) { w with heap := w.heap.setIfInBounds r o } ∧ Ext ρ h w (ρ.ext h.next (r, c)) ((h.set b none).new y) { w with heap := w.heap.setIfInBounds r o } := by
  have hle := Rho.ext_le (x := (r, c)) (s.fresh _ (Nat.le_refl _))
  obtain ⟨r', c', o', h1, h2, _⟩ := s.blk b x hb
  rw [hr] at h1; cases h1
  have hlt : r < w.heap.size := by
    rcases Nat.lt_or_ge r w.heap.size with h3 | h3
    · exact h3
    · rw [Array.getElem?_eq_none h3] at h2; cases h2
  have look : ∀ b' z, ((h.set b none).new y).get b' = some z → (b' = h.next ∧ z = y) ∨ (b' ≠ h.next ∧ b' ≠ b ∧ h.get b' = some z) := by
    intro b' z hz
    rw [Heap.get_new] at hz
    by_cases e : b' = h.next
    · rw [if_pos (by rw [Heap.next_set]; exact e)] at hz; cases hz; exact .inl ⟨e, rfl⟩
    · rw [if_neg (by rw [Heap.next_set]; exact e), Heap.get_set] at hz
      by_cases e2 : b' = b
      · rw [if_pos e2] at hz; cases hz
      · rw [if_neg e2] at hz; exact .inr ⟨e, e2, hz⟩
  refine ⟨⟨?_, ?_, ?_⟩, ⟨hle, ?_, ?_, by simp, ?_, ?_, rfl, rfl, rfl, fun b' z hz => by
    rcases look b' z hz with ⟨rfl, rfl⟩ | ⟨e1, e2, e3⟩
    · exact .inr ⟨Nat.le_refl _, hwy⟩
    · exact .inl ⟨z, e3, rfl⟩⟩⟩
  · intro b' z hz
    rcases look b' z hz with ⟨rfl, rfl⟩ | ⟨e1, e2, e3⟩
    · exact ⟨r, c, o, Rho.ext_same _ _ _, by show (w.heap.setIfInBounds r o)[r]? = _; rw [Array.getElem?_setIfInBounds_self_of_lt hlt], hy⟩
    · obtain ⟨r2, c2, o2, g1, g2, g3⟩ := s.blk b' z e3
      refine ⟨r2, c2, o2, hle _ _ g1, ?_, g3.mono hle⟩
      have hne : r ≠ r2 := fun q => by subst q; exact e2 (s.inj b' b z x r c2 c e3 hb g1 hr)
      show (w.heap.setIfInBounds r o)[r2]? = _
      rw [Array.getElem?_setIfInBounds_ne hne, g2]
  · intro b1 b2 y1 y2 r1 c1 c2 g1 g2 g3 g4
    rcases look b1 y1 g1 with ⟨rfl, rfl⟩ | ⟨e1, e2, e3⟩
    · rcases look b2 y2 g2 with ⟨rfl, rfl⟩ | ⟨f1, f2, f3⟩
      · rfl
      · rw [Rho.ext_same] at g3; cases g3
        rw [Rho.ext_ne _ _ f1] at g4
        exact absurd (s.inj b2 b y2 x r c2 c f3 hb g4 hr) f2
    · rw [Rho.ext_ne _ _ e1] at g3
      rcases look b2 y2 g2 with ⟨rfl, rfl⟩ | ⟨f1, f2, f3⟩
      · rw [Rho.ext_same] at g4; cases g4
        exact absurd (s.inj b1 b y1 x r c1 c e3 hb g3 hr) e2
      · rw [Rho.ext_ne _ _ f1] at g4
        exact s.inj b1 b2 y1 y2 r1 c1 c2 e3 f3 g3 g4
  · intro b' hb'
    have hb' : h.next + 1 ≤ b' := hb'
    rw [Rho.ext_ne _ _ (by omega)]; exact s.fresh b' (by omega)
  · intro b' hb'; exact Rho.ext_ne _ _ (by omega)
  · show h.next ≤ h.next + 1; omega
  · intro r2 hr2 hno
    have hne : r ≠ r2 := fun q => by subst q; exact hno b x c hb hx hr
    show (w.heap.setIfInBounds r o)[r2]? = _
    rw [Array.getElem?_setIfInBounds_ne hne]
  · intro b' z r2 c2 hz hwz hρ hr2
    rcases look b' z hz with ⟨rfl, rfl⟩ | ⟨e1, e2, e3⟩
    · rw [Rho.ext_same] at hρ; cases hρ; exact ⟨b, x, c, hb, hx, hr⟩
    · rw [Rho.ext_ne _ _ e1] at hρ; exact ⟨b', z, c2, e3, hwz, hρ⟩
end
end Go.Ev

namespace Go.Ev
open Go
section
variable {P : Program}

theorem append_gs {ρ : Rho} {h : Heap} {w : World} (s : Sim ρ h w) {b r c len cap n sz m : Nat} {c0 t0 : T AV} {e : TypeId} {k0 : BK} {y' : Value} {l : List AV} {new : Array Value} {inf : TypeInfo} {z : AV}
    (hb : h.get b = some (.cells c0 m e k0)) (hr : ρ b = some (r, c)) (hro : (!k0.ro?) = true) (hcl : len ≤ cap) (hcs : cap * sz ≤ c)
    (hnew : ∀ w1 : World, w1.heap = w.heap → (Builtin.firstCells sz n y').run P w1 = .ok new w1) (hnv : VRL ρ l new.toList) (hns : new.size = n * sz) (hll : l.length = n * sz) (hone : allOne l = true)
    (ht0 : ∀ i a, T.get (digs i) t0 = some a → (len * sz ≤ i ∧ i < len * sz + l.length ∧ l[i - len * sz]? = some a) ∨ (i < len * sz ∧ T.get (digs i) c0 = some a))
    (hi : P.info? e = some inf) (hbytes : inf.bytes ≤ 1000000) (hz : zeroA P e = some z) (hzl : lenL z.cells = sz) (hbig : len + n ≤ 1000000) :
    OkV ρ h w P (.gslice h.next 0 (len + n) sz) ((h.set b none).new (.cells t0 ((len + n) * sz) e .gr)) (appCore e sz (some ⟨r, 0, none⟩) len cap n y') := by
  obtain ⟨r1, c1, arr, lo, hi', k1, k2, k3, k4, k5, k6, k7, k8⟩ := cells_of s hb
  rw [hr] at k1; cases k1
  have hlc : len * sz ≤ cap * sz := Nat.mul_le_mul_right _ hcl
  have htb : TB t0 ((len + n) * sz) := fun i a ha => by
    rcases ht0 i a ha with ⟨_, h1, _⟩ | ⟨h1, _⟩
    · rw [Nat.add_mul, ← hll]; exact h1
    · rw [Nat.add_mul]; omega
  by_cases hfit : len + n ≤ cap
  · have hle : (len + n) * sz ≤ cap * sz := Nat.mul_le_mul_right _ hfit
    have hsum : len * sz + n * sz = (len + n) * sz := (Nat.add_mul _ _ _).symm
    have hvl : new.toList.length = n * sz := by simpa using hns
    have hrun := run_storeCells' (P := P) r e lo hi' new.toList (len * sz) 0 arr w k2 k3 (by omega) (one_VRL hnv hone)
    have hw : wr (.cells c0 m e k0) = true := by cases k0 <;> first | rfl | exact absurd hro (by decide)
    have hfit2 : len * sz + 0 + new.toList.length ≤ arr.size := by omega
    have hsz := spl_size arr (len * sz + 0) new.toList hfit2
    have hle' := Rho.ext_le (x := (r, c)) (s.fresh _ (Nat.le_refl _))
    have rn := s.rename hb hw hr (y := .cells t0 ((len + n) * sz) e .gr) (o := .cells (spl arr (len * sz + 0) new.toList) e (lo, hi'))
      ⟨_, lo, hi', rfl, by rw [hsz]; exact k3, by rw [hsz]; exact k4, by omega, fun q => (by cases q), fun i a ha => by
        rw [spl_get arr _ _ hfit2]
        rcases ht0 i a ha with ⟨q1, q2, q3⟩ | ⟨q1, q2⟩
        · rw [if_pos (by omega)]
          exact (VRL.mono hle' _ _ hnv).get _ _ q3
        · rw [if_neg (by omega)]
          obtain ⟨v, h1, h2⟩ := k7 i a q2
          exact ⟨v, h1, VR.mono hle' _ _ h2⟩, htb⟩ rfl
    refine ⟨_, .slice (some ⟨r, 0, none⟩) (len + n) cap, _, ?_, VR.gslice_iff.2 ⟨r, c, cap, Rho.ext_same _ _ _, rfl, hfit, by omega⟩, rn.1, rn.2⟩
    unfold appCore
    rw [if_pos hfit]
    simp only [Sem.run_bind, hnew w rfl, Result.andThen_ok, add_of, Nat.zero_add, hrun, Sem.run_pure]
  · obtain ⟨s', x'⟩ := s.forget b
    have hvl : (arr.toList.take (len * sz)).length = len * sz := by simp; omega
    have hg := grow_ok' (P := P) s' (size := sz) (sLen := len) (sCap := cap) (n := n) (base := some ⟨r, 0, none⟩) (y' := y') (old := (arr.toList.take (len * sz)).toArray) (new := new) (t := t0) hi hbytes hz hzl (by omega) hbig
      (fun w1 hw => by
        have := run_loadRow (P := P) (w := w1) (r := r) (off := 0) (by rw [hw]; exact k2) (vs := arr.toList.take (len * sz)) (fun j v hj => by
          rw [List.getElem?_take] at hj
          split at hj
          · rw [Nat.zero_add]; simpa using hj
          · cases hj)
        rw [hvl] at this
        exact this) (by simpa using hvl) hnew hns (fun i a ha => by
        rw [← Array.getElem?_toList, Array.toList_append]
        show ∃ v, (arr.toList.take (len * sz) ++ new.toList)[i]? = some v ∧ _
        rcases ht0 i a ha with ⟨q1, q2, q3⟩ | ⟨hlt, q2⟩
        · rw [List.getElem?_append_right (by omega), hvl]
          exact hnv.get _ _ q3
        · obtain ⟨v, h1, h2⟩ := k7 i a q2
          refine ⟨v, ?_, h2⟩
          rw [List.getElem?_append_left (by omega), List.getElem?_take, if_pos hlt]
          simpa using h1) htb
    obtain ⟨ρ', v', w', g1, g2, g3, g4⟩ := hg
    exact ⟨ρ', v', w', g1, g2, g3, x'.trans g4⟩

theorem append_ok {ρ : Rho} {h : Heap} {w : World} (s : Sim ρ h w) {ts : Array TypeId} {ty t : TypeId} {t2 : Option TypeId} (h0 : ts[0]? = some t) (ht2 : ts[1]? = t2) {x y : AV} {x' y' : Value} {out : AV × Heap} (hx : VR ρ x x') (hy : VR ρ y y')
    (ha : appendA P h t t2 x y = some out) : OkV ρ h w P out.1 out.2 (Builtin.append_ ts ty #[x', y']) := by
  unfold appendA at ha
  split at ha
  · rename_i e hu
    split at ha
    · rename_i size inf z hs hi hz
      cases hcond : (Nat.ble 1 size && Nat.beq (lenL z.cells) size && t2Ok P t2) with
      | false => rw [hcond] at ha; cases ha
      | true =>
        rw [hcond] at ha
        simp only [cond_true] at ha
        simp only [Bool.and_eq_true, Nat.ble_eq, nbeq_iff] at hcond
        obtain ⟨⟨hs1, hzl⟩, ht⟩ := hcond
        split at ha
        · rename_i n l hel
          have hll := elemsA_len hel
          cases hc2 : (allOne l && Nat.ble n 1000000 && Nat.ble inf.bytes 1000000) with
          | false => rw [hc2] at ha; cases ha
          | true =>
            rw [hc2] at ha
            simp only [cond_true] at ha
            simp only [Bool.and_eq_true, Nat.ble_eq] at hc2
            obtain ⟨⟨hone, hn⟩, hbytes⟩ := hc2
            have hen := elems_ok (P := P) s hy hel
            obtain ⟨new, hnew, hnv⟩ := hen.all hll
            have hns : new.size = n * size := by rw [← hll, ← hnv.length]; simp
            have app : AppIn P w ts t e size n y' := ⟨h0, fun u hu' => by
              rw [ht2] at hu'; subst hu'
              unfold t2Ok at ht
              simp only at ht
              split at ht
              · cases ht
              · rename_i d hd hdu; exact ⟨d, hdu, fun k e => hd k e⟩
              · exact absurd ht (by decide), hu, hs, hen.len⟩
            have fin : ∀ {v : AV} {h' : Heap} {base : Option Addr} {sLen sCap : Nat}, x' = .slice base sLen sCap → OkV ρ h w P v h' (appCore e size base sLen sCap n y') → OkV ρ h w P v h' (Builtin.append_ ts ty #[x', y']) := by
              rintro v h' base sLen sCap rfl ⟨ρ', v', w', g1, g2⟩
              exact ⟨ρ', v', w', by rw [append_core app]; exact g1, g2⟩
            split at ha
            · simp only [VR] at hx; subst hx
              refine fin rfl ?_
              cases hn0 : Nat.beq n 0 with
              | true =>
                rw [hn0] at ha; cases ha
                have := nbeq_iff.1 hn0; subst this
                have g1 := hnew w rfl
                refine ⟨ρ, .slice none 0 0, w, ?_, by simp only [VR], s, Ext.refl _ _ _⟩
                unfold appCore
                rw [if_pos (by omega)]
                simp only [Sem.run_bind, g1, Result.andThen_ok, Sem.run_pure]
              | false =>
                rw [hn0] at ha; cases ha
                have hn1 : n ≠ 0 := fun q => by rw [nbeq_iff.2 q] at hn0; cases hn0
                have := grow_ok (P := P) s (sLen := 0) (sCap := 0) (base := none) (l0 := []) hi hbytes hz hzl (by omega) (by omega) (old := #[]) (fun w1 _ => rfl) VRL.nil (by simp) hnew hnv hll (TOk.fresh l)
                rw [Nat.zero_add] at this
                have e2 : h.new (.cells (setL l 0 .e) (n * size) e .gr) = newGrown h e l := by unfold newGrown; rw [lenL_eq, hll]
                rw [e2] at this
                exact this
            · rename_i b off len cap
              obtain ⟨r, c, hr, rfl⟩ := VR.slice_iff.1 hx
              refine fin rfl ?_
              cases hfit : Nat.ble (Nat.add len n) cap with
              | true =>
                rw [hfit] at ha
                have hfit : len + n ≤ cap := Nat.le_of_ble_eq_true hfit
                simp only [cond_true] at ha
                split at ha
                · rename_i h' hst
                  cases ha
                  obtain ⟨ρ', w', f1, f2, f3⟩ := core_in (P := P) (e := e) s hfit hr (hnew w rfl) hnv hst
                  exact ⟨ρ', _, w', f1, VR.slice_iff.2 ⟨r, c, f3.le _ _ hr, rfl⟩, f2, f3⟩
                · cases ha
              | false =>
                rw [hfit] at ha
                have hfit : cap < len + n := by
                  have : ¬ (len + n ≤ cap) := fun q => by
                    have : Nat.ble (Nat.add len n) cap = true := Nat.ble_eq_true_of_le q
                    rw [this] at hfit; cases hfit
                  omega
                simp only [cond_false] at ha
                cases hbig : Nat.ble (Nat.add len n) 1000000 with
                | false => rw [hbig] at ha; cases ha
                | true =>
                  rw [hbig] at ha
                  have hbig : len + n ≤ 1000000 := Nat.le_of_ble_eq_true hbig
                  simp only [cond_true] at ha
                  split at ha
                  · rename_i c0 m ty0 k0 hb
                    split at ha
                    · rename_i l0 hg
                      obtain ⟨gl1, gl2⟩ := getL_spec _ _ _ _ hg
                      have gl1 : l0.length = len * size := gl1
                      obtain ⟨old, hold, hov⟩ := (row_elems (P := P) s hb hg hr cap).all gl1
                      cases ho : allOne l0 with
                      | false => rw [ho] at ha; cases ha
                      | true =>
                        rw [ho] at ha
                        simp only [cond_true] at ha
                        cases hz0 : (Nat.beq off 0 && Nat.ble m (Nat.mul (Nat.add len n) size)) with
                        | true =>
                          rw [hz0] at ha; cases ha
                          rw [Bool.and_eq_true, nbeq_iff, Nat.ble_eq] at hz0
                          obtain ⟨rfl, hm⟩ := hz0
                          obtain ⟨r1, c1, arr, lo, hi', k1, k2, k3, k4, k5, k6, k7, k8⟩ := cells_of s hb
                          have hm : m ≤ (len + n) * size := hm
                          exact grow_ok (P := P) s hi hbytes hz hzl hfit hbig hold hov gl1 hnew hnv hll (TOk.over (k := len * size) hg k8 (by rw [hll, ← Nat.add_mul]; exact hm))
                        | false =>
                          rw [hz0] at ha; cases ha
                          have := grow_ok (P := P) s hi hbytes hz hzl hfit hbig hold hov gl1 hnew hnv hll (TOk.fresh (l0 ++ l))
                          have e2 : h.new (.cells (setL (l0 ++ l) 0 .e) ((len + n) * size) e .gr) = newGrown h e (l0 ++ l) := by unfold newGrown; rw [lenL_eq, List.length_append, gl1, hll, ← Nat.add_mul]
                          rw [e2] at this
                          exact this
                    · cases ha
                  · cases ha
            · rename_i b off len sz
              obtain ⟨r, c, cap, hr, rfl, hcl, hcs⟩ := VR.gslice_iff.1 hx
              refine fin rfl ?_
              cases hc3 : (Nat.beq sz size && Nat.ble (Nat.add len n) 1000000) with
              | false => rw [hc3] at ha; cases ha
              | true =>
                rw [hc3] at ha
                simp only [cond_true] at ha
                rw [Bool.and_eq_true, nbeq_iff, Nat.ble_eq] at hc3
                obtain ⟨rfl, hbig⟩ := hc3
                have hbig : len + n ≤ 1000000 := hbig
                cases hn0 : Nat.beq n 0 with
                | true =>
                  rw [hn0] at ha; cases ha
                  have := nbeq_iff.1 hn0; subst this
                  have g1 := hnew w rfl
                  have hl0 : l = [] := List.length_eq_zero_iff.1 (by omega)
                  have ha0 : new.toList = [] := by rw [hl0] at hnv; exact VRL.nil_iff.1 hnv
                  refine ⟨ρ, .slice (some ⟨r, off, none⟩) len cap, w, ?_, VR.gslice_iff.2 ⟨r, c, cap, hr, rfl, hcl, hcs⟩, s, Ext.refl _ _ _⟩
                  unfold appCore
                  rw [if_pos (by omega)]
                  simp only [Sem.run_bind, g1, Result.andThen_ok, Sem.run_pure, ha0, storeCells, Nat.add_zero]
                | false =>
                  rw [hn0] at ha
                  simp only [cond_false] at ha
                  cases ho0 : Nat.beq off 0 with
                  | false => rw [ho0] at ha; cases ha
                  | true =>
                    rw [ho0] at ha
                    have := nbeq_iff.1 ho0; subst this
                    simp only [cond_true] at ha
                    split at ha
                    · rename_i c0 m ty0 k0 hb
                      cases hc4 : (!k0.ro? && Nat.beq ty0 e) with
                      | false => rw [hc4] at ha; cases ha
                      | true =>
                        rw [hc4] at ha
                        simp only [cond_true] at ha
                        rw [Bool.and_eq_true, nbeq_iff] at hc4
                        obtain ⟨hro, rfl⟩ := hc4
                        obtain ⟨r1, c1, arr, lo, hi', k1, k2, k3, k4, k5, k6, k7, k8⟩ := cells_of s hb
                        cases hc5 : Nat.ble m (Nat.mul (Nat.add len n) sz) with
                        | true =>
                          rw [hc5] at ha; cases ha
                          have hm : m ≤ (len + n) * sz := Nat.le_of_ble_eq_true hc5
                          refine append_gs s hb hr hro hcl (by omega) hnew hnv hns hll hone (fun i a hi => ?_) hi hbytes hz hzl hbig
                          have hi : T.get (digs i) (setL l (len * sz) c0) = some a := hi
                          rw [get_setL] at hi
                          by_cases hc : len * sz ≤ i ∧ i < len * sz + l.length
                          · rw [if_pos hc] at hi
                            exact .inl ⟨hc.1, hc.2, hi⟩
                          · rw [if_neg hc] at hi
                            have := k8 i a hi
                            exact .inr ⟨by rw [Nat.add_mul] at hm; omega, hi⟩
                        | false =>
                          rw [hc5] at ha
                          simp only [cond_false] at ha
                          split at ha
                          · rename_i l0 hg
                            cases ha
                            obtain ⟨gl1, gl2⟩ := getL_spec _ _ _ _ hg
                            have gl1 : l0.length = len * sz := gl1
                            refine append_gs s hb hr hro hcl (by omega) hnew hnv hns hll hone (fun i a hi => ?_) hi hbytes hz hzl hbig
                            have hi : T.get (digs i) (setL (l0 ++ l) 0 .e) = some a := hi
                            rw [get_setL] at hi
                            by_cases hc : 0 ≤ i ∧ i < 0 + (l0 ++ l).length
                            · rw [if_pos hc, Nat.sub_zero] at hi
                              rw [List.length_append] at hc
                              rcases Nat.lt_or_ge i l0.length with hlt | hge
                              · rw [List.getElem?_append_left hlt] at hi
                                obtain ⟨b', h3, h4⟩ := gl2 i (show i < len * sz by omega)
                                rw [hi] at h4
                                cases h4
                                exact .inr ⟨by omega, by simpa using h3⟩
                              · rw [List.getElem?_append_right hge] at hi
                                exact .inl ⟨by omega, by omega, by rw [← gl1]; exact hi⟩
                            · rw [if_neg hc, T.get_e] at hi; cases hi
                          · cases ha
                    · cases ha
            · cases ha
        · cases ha
    · cases ha
  · cases ha
end
end Go.Ev

namespace Go.Ev
open Go
section
variable {P : Program}

theorem copyS_ok {ρ : Rho} {h : Heap} {w : World} (s : Sim ρ h w) {ts : Array TypeId} {t ty e : TypeId} (ht : ts[0]? = some t) (hu : P.underlying t = some (.slice e)) {sz : Nat} (hs : sizeA P e = some sz)
    {b off len cap n r c : Nat} {l : List AV} {y' : Value} {x : AV × Heap} (hr : ρ b = some (r, c)) (he : ElemsOk P ρ w sz n l y') (hc : copyS h b off len sz n l = some x) :
    OkV ρ h w P x.1 x.2 (Builtin.copy_ ts ty #[.slice (some ⟨r, off, none⟩) len cap, y']) := by
  unfold copyS at hc
  obtain ⟨h1, hc⟩ := bcase_none_iff.1 hc
  obtain ⟨h', hst, hc⟩ := ocase_some_iff.1 hc
  cases hc
  have h1 := Nat.le_of_ble_eq_true h1
  rw [minN_eq, takeL_eq] at hst
  obtain ⟨arr, ha, hv⟩ := he.cells (min n len) (Nat.min_le_left _ _)
  obtain ⟨ρ', w', g1, g2, g3⟩ := storeL_ok (P := P) s hr hv hst
  refine ⟨ρ', goInt ((min n len : Nat) : Int), w', ?_, by rw [minN_eq]; exact goInt_VR (by omega), g2, g3⟩
  unfold Builtin.copy_
  have a0 : (#[.slice (some ⟨r, off, none⟩) len cap, y'] : Array Value)[0]? = some (.slice (some ⟨r, off, none⟩) len cap) := rfl
  have a1 : (#[.slice (some ⟨r, off, none⟩) len cap, y'] : Array Value)[1]? = some y' := rfl
  rw [ht, a0, a1]
  have hm : Nat.min n len = min n len := rfl
  simp only [Sem.run_bind, run_underlying' hu, Result.andThen_ok, he.len, run_sizeOf' hs, hm, ha w rfl, g1, Sem.run_pure]
theorem copy_ok {ρ : Rho} {h : Heap} {w : World} (s : Sim ρ h w) {ts : Array TypeId} {t ty : TypeId} (ht : ts[0]? = some t) {x y : AV} {x' y' : Value} {out : AV × Heap} (hx : VR ρ x x') (hy : VR ρ y y')
    (hc : copyA P h t x y = some out) : OkV ρ h w P out.1 out.2 (Builtin.copy_ ts ty #[x', y']) := by
  unfold copyA at hc
  split at hc
  · rename_i e hu
    obtain ⟨sz, hs, hc⟩ := ocase_some_iff.1 hc
    obtain ⟨q, hq, hc⟩ := ocase_some_iff.1 hc
    have he := elems_ok (P := P) s hy hq
    unfold copyD at hc
    split at hc
    · rename_i b off len cap
      obtain ⟨r, c, hr, rfl⟩ := VR.slice_iff.1 hx
      exact copyS_ok s ht hu hs hr he hc
    · rename_i b off len z
      obtain ⟨r, c, cap, hr, rfl, _⟩ := VR.gslice_iff.1 hx
      exact copyS_ok s ht hu hs hr he hc
    · cases hc
      simp only [VR] at hx; subst hx
      obtain ⟨arr, ha, hv⟩ := he.cells 0 (Nat.zero_le _)
      refine ⟨ρ, goInt ((0 : Nat) : Int), w, ?_, goInt_VR (Nat.zero_le _), s, Ext.refl _ _ _⟩
      unfold Builtin.copy_
      have a0 : (#[.slice none 0 0, y'] : Array Value)[0]? = some (.slice none 0 0) := rfl
      have a1 : (#[.slice none 0 0, y'] : Array Value)[1]? = some y' := rfl
      rw [ht, a0, a1]
      have hm : Nat.min q.1 0 = 0 := Nat.min_zero _
      simp only [Sem.run_bind, run_underlying' hu, Result.andThen_ok, he.len, run_sizeOf' hs, hm, ha w rfl, Sem.run_pure]
    · cases hc
  · cases hc

theorem Sim.lose {ρ : Rho} {h : Heap} {w w' : World} (s : Sim ρ h w) {b r c : Nat} {x : ABlk} (hb : h.get b = some x) (hx : wr x = true) (hr : ρ b = some (r, c)) (hsz : w'.heap.size = w.heap.size)
    (hne : ∀ k, k ≠ r → w'.heap[k]? = w.heap[k]?) (hos : w'.os = w.os) (htp : w'.tape = w.tape) (hout : w'.output = w.output) : Sim ρ (h.set b none) w' ∧ Ext ρ h w ρ (h.set b none) w' := by
  have old : ∀ b' z, (h.set b none).get b' = some z → h.get b' = some z ∧ b' ≠ b := by
    intro b' z hz
    rw [Heap.get_set] at hz
    split at hz
    · cases hz
    · exact ⟨hz, by assumption⟩
  refine ⟨⟨fun b' z hz => ?_, fun b1 b2 y1 y2 r1 c1 c2 g1 g2 => s.inj b1 b2 y1 y2 r1 c1 c2 (old _ _ g1).1 (old _ _ g2).1, s.fresh⟩,
    ⟨Rle.refl _, fun _ _ => rfl, Nat.le_refl _, by omega, fun k hk hno => hne k fun e => ?_, fun b' z r' c' hz hw hρ _ => ⟨b', z, c', (old _ _ hz).1, hw, hρ⟩, hos, htp, hout, fun b' z hz => .inl ⟨z, (old _ _ hz).1, rfl⟩⟩⟩
  · obtain ⟨h1, h2⟩ := old _ _ hz
    obtain ⟨r', c', o, g1, g2, g3⟩ := s.blk b' z h1
    refine ⟨r', c', o, g1, ?_, g3⟩
    rw [hne r' (fun e => by subst e; exact h2 (s.inj b' b z x r' c' c h1 hb g1 hr)), g2]
  · subst e; exact hno b x c hb hx hr

theorem sliceData_ok {ρ : Rho} {h : Heap} {w : World} (s : Sim ρ h w) {ts : Array TypeId} {ty : TypeId} {args : List AV} {args' : Array Value} (ha : VRL ρ args args'.toList) :
    OpOk P ρ h w (biSliceData args h) (do pure (.value (← Builtin.unsafeSliceData_ ts ty args'))) := by
  have one : ∀ {x : AV}, VRL ρ [x] args'.toList → ∃ v, args' = #[v] ∧ VR ρ x v := by
    intro x hx
    obtain ⟨v, vs, e1, h1, h2⟩ := VRL.cons_iff.1 hx
    have := VRL.nil_iff.1 h2; subst this
    exact ⟨v, Array.toList_inj.1 e1, h1⟩
  unfold biSliceData
  split
  · rename_i b off len c
    cases hc : Nat.ble 1 c with
    | false => trivial
    | true =>
      have := Nat.le_of_ble_eq_true hc
      obtain ⟨v, rfl, hv⟩ := one ha
      obtain ⟨r, d, hr, rfl⟩ := VR.slice_iff.1 hv
      exact OpOk.ofV (OkV.same s (Lib.run_unsafeSliceData_row w ts ty ⟨r, off, none⟩ len c (by omega)) (VR.ptr_iff.2 ⟨r, d, hr, rfl⟩))
  · rename_i b off len sz
    cases hc : Nat.ble 1 len with
    | false => trivial
    | true =>
      have := Nat.le_of_ble_eq_true hc
      obtain ⟨v, rfl, hv⟩ := one ha
      obtain ⟨r, d, cap, hr, rfl, hle, _⟩ := VR.gslice_iff.1 hv
      exact OpOk.ofV (OkV.same s (Lib.run_unsafeSliceData_row w ts ty ⟨r, off, none⟩ len cap (by omega)) (VR.ptr_iff.2 ⟨r, d, hr, rfl⟩))
  · obtain ⟨v, rfl, hv⟩ := one ha
    simp only [VR] at hv; subst hv
    exact OpOk.ofV (OkV.same s (Lib.run_unsafeSliceData_nil w ts ty 0 0) (by simp only [VR]))
  · trivial

theorem freeze_row {w : World} {r n : Nat} : (w.freeze ⟨r, 0, none⟩ n).heap.size = w.heap.size ∧ (∀ k, k ≠ r → (w.freeze ⟨r, 0, none⟩ n).heap[k]? = w.heap[k]?) ∧ (w.freeze ⟨r, 0, none⟩ n).os = w.os ∧ (w.freeze ⟨r, 0, none⟩ n).tape = w.tape ∧ (w.freeze ⟨r, 0, none⟩ n).output = w.output := by
  unfold World.freeze
  split
  · exact ⟨rfl, fun _ _ => rfl, rfl, rfl, rfl⟩
  · exact ⟨by simp, fun k hk => by simp only [Array.getElem?_modify]; rw [if_neg (fun e => hk e.symm)], rfl, rfl, rfl⟩

theorem string_ok {ρ : Rho} {h : Heap} {w : World} (s : Sim ρ h w) {ts : Array TypeId} {ty : TypeId} {args : List AV} {args' : Array Value} (ha : VRL ρ args args'.toList) :
    OpOk P ρ h w (biString P ts.toList args h) (do pure (.value (← Builtin.unsafeString_ ts ty args'))) := by
  have two : ∀ {x y : AV}, VRL ρ [x, y] args'.toList → ∃ v u, args' = #[v, u] ∧ VR ρ x v ∧ VR ρ y u := by
    intro x y hx
    obtain ⟨v, vs, e1, h1, h2⟩ := VRL.cons_iff.1 hx
    obtain ⟨u, us, e2, h3, h4⟩ := VRL.cons_iff.1 h2
    have := VRL.nil_iff.1 h4; subst this
    subst e2
    exact ⟨v, u, Array.toList_inj.1 e1, h1, h3⟩
  unfold biString
  split
  · rename_i pt it hts
    obtain ⟨v, u, rfl, hv, hu⟩ := two ha
    simp only [VR] at hv; subst hv
    obtain ⟨rfl, _⟩ := VR.int_iff.1 hu
    have hts' : ts = #[pt, it] := Array.toList_inj.1 hts
    have hz : sg .i64 0 = 0 := sg_nat (Nat.zero_le _)
    rw [hz, hts']
    exact OpOk.ofV (OkV.same s (v' := .string ⟨⟨[]⟩⟩) (Lib.run_unsafeString_none w pt it ty none) (VR.str_iff.2 ⟨[], rfl, rfl, rfl⟩))
  · rename_i pt it b n hts
    split
    · rename_i e hp
      unfold strAtE
      split
      · rename_i c m e' k hb
        cases hc : (!k.ro? && (Nat.beq e e' && Nat.beq (P.cellsOf e) 1) && (Nat.ble n m && Nat.ble 1 n && Nat.ble n 1000000)) with
        | false => trivial
        | true =>
          rw [bcase_true]
          simp only [Bool.and_eq_true, Nat.ble_eq, nbeq_iff] at hc
          obtain ⟨⟨hro, rfl, hsz⟩, ⟨hnm, h1n⟩, hbig⟩ := hc
          unfold strB
          cases hg : getL c n (nat_lit 0) with
          | none => trivial
          | some l =>
            rw [ocase_some]
            unfold strOf
            cases hbits : mkStr l with
            | none => trivial
            | some sv =>
              rw [ocase_some]
              obtain ⟨v, u, rfl, hv, hu⟩ := two ha
              obtain ⟨r, d, hr, rfl⟩ := VR.ptr_iff.1 hv
              obtain ⟨rfl, _⟩ := VR.int_iff.1 hu
              obtain ⟨r1, c1, arr, lo, hi, k1, k2, k3, k4, k5, k6, k7, k8⟩ := cells_of s hb
              rw [hr] at k1; cases k1
              obtain ⟨vs, e1, e2, e3⟩ := k7.getL hg
              obtain ⟨bs, rfl, hpk, hbl⟩ := mkStr_bytes hbits e2
              have hll : bs.length = n := by rw [hbl]; exact (getL_spec _ _ _ _ hg).1
              subst hll
              have hw : wr (.cells c m e k) = true := by cases k <;> first | rfl | exact absurd hro (by decide)
              have hfr := freeze_row (w := w) (r := r) (n := bs.length)
              have hl := s.lose hb hw hr (w' := w.freeze ⟨r, 0, none⟩ bs.length) hfr.1 hfr.2.1 hfr.2.2.1 hfr.2.2.2.1 hfr.2.2.2.2
              have hrun := Lib.run_unsafeString_row (P := P) w pt it ty e hp hsz r arr.size (by simp [World.shape?, k2]) bs (by intro q; rw [q] at h1n; simp at h1n) (by omega) (by omega) (fun j x hj => by
                rw [add_of, cell_of k2]; exact e3 j _ (by simp [hj]))
              have hts' : ts = #[pt, it] := Array.toList_inj.1 hts
              refine OpOk.ofV ⟨ρ, .string ⟨⟨bs⟩⟩, _, ?_, VR.mono hl.2.le _ _ hpk, hl.1, hl.2⟩
              rw [hts', sg_nat (k := .i64) (by show bs.length ≤ 9223372036854775807; omega)]
              exact hrun
      · trivial
    · trivial
  · trivial
end
end Go.Ev
