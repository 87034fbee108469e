import Derived.Test.YtodmelapdoahpaaGreatDoorSdD
import Derived.Lib.Bytealg
import Derived.Lib.MakeNoZero
set_option linter.all false
namespace Go.Ev
open Go
section
variable {P : Program}

theorem conv_int {ρ : Rho} {k k' : IntKind} {m : Nat} (hm : m ≤ maxu k') : VR ρ (.int k (bif isPos k' m then norm k m else code k (sg k' m))) (.int k (k.wrap (sg k' m))) := by
  cases hp : isPos k' m with
  | true =>
    rw [sg_pos hp]
    exact VR.int_of (norm_le k m) (wrap_of (norm_le k m) (norm_turn k m))
  | false => exact VR.int_code rfl

theorem slice_of_elems {ρ : Rho} {h : Heap} {y : AV} {y' : Value} {sz : Nat} {q : Nat × List AV} (hy : VR ρ y y') (he : elemsA h sz y = some q) (hns : ∀ p q, y ≠ .str p q) (hnt : ∀ p, y ≠ .sstr p) : ∃ a m c, y' = .slice a m c := by
  cases y <;> first | (cases he; done) | skip
  case slice => obtain ⟨r, c, _, rfl⟩ := VR.slice_iff.1 hy; exact ⟨_, _, _, rfl⟩
  case gslice => obtain ⟨r, c, cap, _, rfl, _⟩ := VR.gslice_iff.1 hy; exact ⟨_, _, _, rfl⟩
  case eslice => simp only [VR] at hy; obtain ⟨a, c, rfl⟩ := hy; exact ⟨_, _, _, rfl⟩
  case nilslice => simp only [VR] at hy; subst hy; exact ⟨_, _, _, rfl⟩
  case str => exact absurd rfl (hns _ _)
  case sstr => exact absurd rfl (hnt _)
theorem bytesToString_ok {ρ : Rho} {h : Heap} {w : World} (s : Sim ρ h w) {y v : AV} {y' : Value} {n : Nat} {l : List AV} (hy : VR ρ y y') (he : elemsA h 1 y = some (n, l)) (hns : ∀ p q, y ≠ .str p q) (hnt : ∀ p, y ≠ .sstr p) (hb : mkStr l = some v) :
    OkP ρ w P v (Conv.bytesToString y') := by
  have ho := elems_ok (P := P) s hy he
  obtain ⟨arr, ha, hv⟩ := ho.all (elemsA_len he)
  obtain ⟨bs, hbs, hpk, hbl⟩ := mkStr_bytes hb hv
  have hnl : bs.length = n := by rw [hbl, elemsA_len he]; omega
  have key : ∀ (f : Value → ByteArray → Sem (ForInStep ByteArray)), (∀ (c : UInt8) acc, (f (.int .u8 (c.toNat : Int)) acc).run P w = .ok (.yield (acc.push c)) w) →
      ∀ (cs : List UInt8) (acc : ByteArray), (forIn (cs.map fun b => Value.int .u8 (b.toNat : Int)) acc f).run P w = .ok ⟨acc.data ++ cs.toArray⟩ w := by
    intro f hf cs
    induction cs with
    | nil => intro acc; simp
    | cons c cs ih =>
      intro acc
      simp only [List.map_cons, List.forIn_cons, Sem.run_bind, hf, Result.andThen_ok]
      rw [ih]
      congr 1
      apply ByteArray.ext
      simp [ByteArray.push]
  have hsl : ∀ {a c}, y' = .slice a n c → OkP ρ w P v (Conv.bytesToString y') := by
    rintro a c rfl
    have h0 := ha w rfl
    refine ⟨.string ⟨⟨bs⟩⟩, ?_, hpk⟩
    cases a with
    | none =>
      have : bs = [] := by
        have e : arr = #[] := by
          have h1 : (Builtin.firstCells 1 n (.slice none n c)).run P w = .ok #[] w := rfl
          rw [h1] at h0; cases h0; rfl
        subst e
        cases bs with
        | nil => rfl
        | cons _ _ => simp at hbs
      subst this
      rfl
    | some a =>
      have h1 : (loadCells a n).run P w = .ok arr w := by
        have e : Builtin.firstCells 1 n (.slice (some a) n c) = loadCells a (n * 1) := rfl
        rw [e, Nat.mul_one] at h0; exact h0
      unfold Conv.bytesToString
      have hf : arr = (bs.map fun b => Value.int .u8 (b.toNat : Int)).toArray := by show arr = (bv bs).toArray; rw [← hbs]
      subst hf
      simp only [Sem.run_bind, h1, Result.andThen_ok]
      simp only [List.forIn_toArray]
      rw [key _ (fun c acc => by simp) bs .empty]
      simp
  have hsv := slice_of_elems hy he hns hnt
  obtain ⟨a, m, c, e⟩ := hsv
  have hlen := ho.len
  have e2 : (Builtin.lenOf (.slice a m c)).run P w = .ok m w := rfl
  rw [e, e2] at hlen
  cases hlen
  exact hsl e

theorem freeze_push (w : World) (a : Array Value) (e : TypeId) (k : Nat) : (w.alloc (.cells a e)).freeze ⟨w.heap.size, k, none⟩ 1 = w.alloc (.cells a e (k, k + 1)) := by
  unfold World.freeze World.alloc
  rw [if_neg (by decide)]
  congr 1
  apply Array.ext_getElem?
  intro j
  simp only [Array.getElem?_modify, Array.getElem?_push]
  by_cases h1 : w.heap.size = j
  · subst h1; simp
  · rw [if_neg h1]
    have : ¬ j = w.heap.size := fun q => h1 q.symm
    simp [this]

theorem stringToBytes_ok {ρ : Rho} {h : Heap} {w : World} (s : Sim ρ h w) {e : TypeId} {l : List UInt8} {L : List AV} (hbv : VRL ρ L (bv l)) :
    OkV ρ h w P (.gslice h.next 0 l.length 1) (newGrown h e L) (Conv.stringToBytes e ⟨⟨l⟩⟩) := by
  obtain ⟨k, w1, g1, g2, g3⟩ := run_appendCap (P := P) l.length 0 e w
  obtain ⟨s1, x1, hh⟩ := s.drew' g3
  let elems : Array Value := (l.map fun b => Value.int .u8 (b.toNat : Int)).toArray ++ Array.replicate (k - l.length) (.int .u8 0)
  have hes : elems.size = k := by simp [elems]; omega
  have hle := Rho.ext_le (x := (w1.heap.size, elems.size)) (s1.fresh _ (Nat.le_refl _))
  have hlen : lenL L = l.length := by rw [lenL_eq, hbv.len_bv]
  have al := s1.alloc (x := .cells (setL L 0 .e) (lenL L) e .gr) (o := .cells elems e (k, k + 1)) (c := elems.size)
    ⟨_, _, _, rfl, .inr (by rw [hes]; exact Nat.le_refl _), rfl, by rw [hlen, hes]; exact g2, fun q => (by cases q), fun i a ha => by
      have h1 := TOk.fresh _ i a ha
      obtain ⟨v, h2, h3⟩ := hbv.get _ _ h1
      refine ⟨v, ?_, VR.mono hle _ _ h3⟩
      have hil : i < (l.map fun b => Value.int .u8 (b.toNat : Int)).toArray.size := by
        rcases Nat.lt_or_ge i (l.map fun b => Value.int .u8 (b.toNat : Int)).length with h4 | h4
        · simpa using h4
        · rw [List.getElem?_eq_none h4] at h2; cases h2
      rw [Array.getElem?_append_left hil]
      simpa using h2, fun i a ha => by
      have h1 := TOk.fresh _ i a ha
      rcases Nat.lt_or_ge i L.length with h3 | h3
      · rw [lenL_eq]; exact h3
      · rw [List.getElem?_eq_none h3] at h1; cases h1⟩ rfl
  refine ⟨_, .slice (some ⟨w1.heap.size, 0, none⟩) l.length k, _, ?_, VR.gslice_iff.2 ⟨_, _, k, Rho.ext_same _ _ _, rfl, g2, by rw [hes]; omega⟩, al.1, x1.trans al.2⟩
  unfold Conv.stringToBytes
  have hsz : (⟨⟨l⟩⟩ : ByteArray).size = l.length := rfl
  have hmap : ((⟨⟨l⟩⟩ : ByteArray).data.map fun b => Value.int .u8 (b.toNat : Int)) = (l.map fun b => Value.int .u8 (b.toNat : Int)).toArray := by simp
  simp only [hsz, hmap, Sem.run_bind, g1, Result.andThen_ok]
  unfold newRow markStringish
  simp only [Sem.run_bind, run_newObj, Result.andThen_ok, Sem.run_pure, run_shape, run_freeze, World.shape?, World.freeze]
  simp [elems, hes]
  exact freeze_push w1 _ e k

theorem view_none {w : World} {r : Nat} {sh : TypeId × Nat} (h : w.shape? r = some sh) : (viewAt r).run P w = .ok none w := by
  unfold viewAt
  simp [Sem.run_bind, h]
theorem cellsIn_of {w : World} {r : Nat} {sh : TypeId × Nat} (h : w.shape? r = some sh) : (cellsIn r).run P w = .ok (some sh.2) w := by
  unfold cellsIn
  simp [Sem.run_bind, h]
theorem convV_ok {ρ : Rho} {h : Heap} {w : World} (s : Sim ρ h w) {src dst : TypeId} {x v : AV} {x' : Value} (hx : VR ρ x x') (hc : convV P h src dst x = some v) : OkP ρ w P v (convert src dst x') := by
  unfold convV at hc
  split at hc
  · rename_i t hs hd
    cases hc
    simp only [VR] at hx; subst hx
    refine ⟨.pointer none, ?_, by simp only [VR]⟩
    simp [convert, Conv.unsafePointer, run_underlying' hs, run_underlying' hd]
  · rename_i t b off hs hd
    obtain ⟨r, c, hr, rfl⟩ := VR.ptr_iff.1 hx
    split at hc
    · rename_i c0 n ty k sz hb hz
      cases hcond : (Nat.ble (Nat.add off 1) n && Nat.ble 1 sz) with
      | false => rw [hcond] at hc; cases hc
      | true =>
        rw [hcond] at hc; cases hc
        simp only [Bool.and_eq_true, Nat.ble_eq] at hcond
        have h1 : off + 1 ≤ n := hcond.1
        obtain ⟨r1, c1, arr, lo, hi, k1, k2, k3, k4, k5, k6, k7, k8⟩ := cells_of s hb
        rw [hr] at k1; cases k1
        have hsh : w.shape? r = some (ty, arr.size) := by simp [World.shape?, k2]
        have hge : ¬ (arr.size ≤ off) := by omega
        have hz0 : sz ≠ 0 := by omega
        refine ⟨_, ?_, VR.ptr_iff.2 ⟨r, c, hr, rfl⟩⟩
        simp [convert, Conv.unsafePointer, Conv.seenAt, run_underlying' hs, run_underlying' hd, view_none hsh, cellsIn_of hsh, run_sizeOf' hz, hge, hz0]
    · cases hc
  · rename_i t hs hd
    cases hc
    simp only [VR] at hx; subst hx
    refine ⟨.pointer none, ?_, by simp only [VR]⟩
    simp [convert, Conv.unsafePointer, run_underlying' hs, run_underlying' hd]
  · rename_i u b off hs hd
    obtain ⟨r, c, hr, rfl⟩ := VR.ptr_iff.1 hx
    split at hc
    · rename_i c0 n e k hb
      cases hcond : (k.ex? && liesAt P P.depth e (n / P.cellsOf e) off u 1 && (sizeA P u).isSome) with
      | false => rw [hcond] at hc; cases hc
      | true =>
        rw [hcond] at hc; cases hc
        rw [Bool.and_eq_true, Bool.and_eq_true] at hcond
        obtain ⟨⟨hk, hl⟩, hz⟩ := hcond
        obtain ⟨sz, hz⟩ := Option.isSome_iff_exists.1 hz
        obtain ⟨r1, c1, arr, lo, hi, k1, k2, k3, k4, k5, k6, k7, k8⟩ := cells_of s hb
        rw [hr] at k1; cases k1
        have hsh : w.shape? r = some (e, arr.size) := by simp [World.shape?, k2]
        have hn : n = arr.size := by rw [k4]; exact k6 hk
        rw [hn] at hl
        refine ⟨_, ?_, VR.ptr_iff.2 ⟨r, c, hr, rfl⟩⟩
        simp [convert, Conv.unsafePointer, Conv.seenAt, variablesAt, run_underlying' hs, run_underlying' hd, view_none hsh, run_sizeOf' hz, hsh, hl]
    · cases hc
  · rename_i d k k' m hs hd
    cases hc
    obtain ⟨rfl, hm⟩ := VR.int_iff.1 hx
    refine ⟨.int k (k.wrap (sg k' m)), ?_, conv_int hm⟩
    unfold convert
    simp [run_underlying' hs, run_underlying' hd, Conv.intToInt]
  · rename_i d k k' c ts hs hd
    obtain ⟨m, rfl, hm, hle⟩ := VR.sint_iff.1 hx
    obtain ⟨g1, g2⟩ := mkS_ok hc hm
    refine ⟨.int k (k.wrap ((c + m : Nat) : Int)), ?_, ?_⟩
    · unfold convert
      simp [run_underlying' hs, run_underlying' hd, Conv.intToInt]
    · rw [wrap_in (.inl ⟨by omega, by omega⟩)]; exact g1
  · rename_i d n b hs hd
    cases hc
    obtain ⟨l, rfl, h1, h2⟩ := VR.str_iff.1 hx
    refine ⟨.string ⟨⟨l⟩⟩, ?_, VR.str_iff.2 ⟨l, rfl, h1, h2⟩⟩
    unfold convert
    simp [run_underlying' hs, run_underlying' hd]
  · rename_i d l hs hd
    cases hc
    obtain ⟨s0, rfl, h1⟩ := VR.sstr_iff.1 hx
    refine ⟨.string ⟨⟨s0⟩⟩, ?_, VR.sstr_iff.2 ⟨s0, rfl, h1⟩⟩
    unfold convert
    simp [run_underlying' hs, run_underlying' hd]
  · rename_i e hs hd _ _
    split at hc
    · rename_i n l hu he
      split at hc
      · cases hc
      · cases hc
      · rename_i hns hnt
        have hbo := bytesToString_ok (P := P) s hx he (fun p q h => hns p q h) (fun p h => hnt p h) hc
        obtain ⟨v', g1, g2⟩ := hbo
        refine ⟨v', ?_, g2⟩
        rw [← g1]
        unfold convert
        have hsv := slice_of_elems hx he (fun p q h => hns p q h) (fun p h => hnt p h)
        obtain ⟨a, m, c, rfl⟩ := hsv
        simp [run_underlying' hs, run_underlying' hd, run_underlying' hu]
    · cases hc
  · cases hc

theorem convB_ok {ρ : Rho} {h : Heap} {w : World} (s : Sim ρ h w) {src dst : TypeId} (hsd : isConvA P src dst = true) {x : AV} {x' : Value} {out : AV × Heap} (hx : VR ρ x x') (hc : convB P h dst x = some out) : OkV ρ h w P out.1 out.2 (convert src dst x') := by
  unfold isConvA at hsd
  unfold convB at hc
  split at hsd
  · rename_i hs _
    split at hc
    · rename_i e n bits hd
      split at hc
      · rename_i hu
        obtain ⟨_, hc⟩ := bcase_none_iff.1 hc
        cases hc
        obtain ⟨l, rfl, rfl, rfl⟩ := VR.str_iff.1 hx
        obtain ⟨ρ', v', w', g1, g2⟩ := stringToBytes_ok (P := P) s (e := e) (bytesL_VR l)
        refine ⟨ρ', v', w', ?_, g2⟩
        rw [← g1]
        unfold convert
        simp [run_underlying' hs, run_underlying' hd, run_underlying' hu]
      · cases hc
    · rename_i e l0 hd
      split at hc
      · rename_i hu
        obtain ⟨_, hc⟩ := bcase_none_iff.1 hc
        cases hc
        obtain ⟨l, rfl, hbv⟩ := VR.sstr_iff.1 hx
        obtain ⟨ρ', v', w', g1, g2⟩ := stringToBytes_ok (P := P) s (e := e) hbv
        have hlen : lenL l0 = l.length := by rw [lenL_eq, hbv.len_bv]
        refine ⟨ρ', v', w', ?_, by rw [hlen]; exact g2⟩
        rw [← g1]
        unfold convert
        simp [run_underlying' hs, run_underlying' hd, run_underlying' hu]
      · cases hc
    · cases hc
  · cases hsd
theorem convert_ok {ρ : Rho} {h : Heap} {w : World} (s : Sim ρ h w) {src dst : TypeId} {x : AV} {x' : Value} {out : AV × Heap} (hx : VR ρ x x') (hc : convertA P h src dst x = some out) : OkV ρ h w P out.1 out.2 (convert src dst x') := by
  unfold convertA at hc
  cases hsd : isConvA P src dst with
  | true => rw [hsd, bcase_true] at hc; exact convB_ok s hsd hx hc
  | false =>
    rw [hsd, bcase_false] at hc
    obtain ⟨v, h1, hc⟩ := ocase_some_iff.1 hc
    cases hc
    exact (convV_ok s hx h1).toV s
end
end Go.Ev

namespace Go.Ev
open Go
section
variable {P : Program}

def exNames : List String := ["internal/abi.NoEscape", "internal/bytealg.MakeNoZero", "internal/bytealg.IndexByteString", "internal/bytealg.CountString"]
def fnOk (fn : Func) : Bool := !(fn.name == "runtime.NumGoroutine") && (fn.body.isSome || !(exNames.contains fn.name) || (Extern.findNext fn).isNone)
def FnsOk (P : Program) : Prop := ∀ (f : Nat) (fn : Func), P.funcs[f]? = some fn → fnOk fn = true

theorem find_same {fn : Func} (h : fn.name = "internal/abi.NoEscape") : Extern.find fn = some Extern.AbiNoEscape.same := by
  unfold Extern.find; rw [h]; rfl
theorem find_make {fn : Func} (h : fn.name = "internal/bytealg.MakeNoZero") : Extern.find fn = some (Extern.BytealgMakeNoZero.makeNoZero fn.params fn.resultTypes) := by
  unfold Extern.find; rw [h]; rfl
theorem find_index {fn : Func} (h : fn.name = "internal/bytealg.IndexByteString") : Extern.find fn = some Extern.BytealgIndexByte.indexByte := by
  unfold Extern.find; rw [h]; rfl
theorem find_count {fn : Func} (h : fn.name = "internal/bytealg.CountString") : Extern.find fn = some Extern.BytealgCount.count := by
  unfold Extern.find; rw [h]; rfl

theorem ixF_succ (n a c i : Nat) : ixF (n + 1) a c i = bcase (Nat.beq (byte0 a) c) i (ixF n (shr8 a) c (i + 1)) := rfl
theorem ixF_ok (c : UInt8) : ∀ (l : List UInt8) (i : Nat), i + l.length ≤ 1000000 →
    ixF l.length (pack l) c.toNat i ≤ maxu .i64 ∧ sg .i64 (ixF l.length (pack l) c.toNat i) = if Lib.indexByte l c = -1 then -1 else Lib.indexByte l c + i
  | [], i, _ => by
    have e : ixF ([] : List UInt8).length (pack []) c.toNat i = maxu .i64 := rfl
    have e1 : sg .i64 (maxu .i64) = -1 := by decide
    rw [e]
    exact ⟨Nat.le_refl _, e1⟩
  | b :: l, i, hi => by
    rw [List.length_cons] at hi
    rw [List.length_cons, ixF_succ, byte0_cons, shr8_cons]
    have hge := Lib.indexByte_ge l c
    unfold Lib.indexByte
    by_cases hb : b = c
    · subst hb
      have e1 : Nat.beq b.toNat b.toNat = true := Nat.beq_refl _
      rw [e1, bcase_true]
      refine ⟨by show i ≤ 18446744073709551615; omega, ?_⟩
      rw [sg_nat (k := .i64) (by show i ≤ 9223372036854775807; omega)]
      simp
    · have hne : b.toNat ≠ c.toNat := fun h => hb (UInt8.toNat_inj.1 h)
      have e1 : Nat.beq b.toNat c.toNat = false := by cases hx : Nat.beq b.toNat c.toNat with | false => rfl | true => exact absurd (nbeq_iff.1 hx) hne
      have e2 : (b == c) = false := by simp [hb]
      rw [e1, bcase_false, e2]
      obtain ⟨h1, h2⟩ := ixF_ok c l (i + 1) (by omega)
      refine ⟨h1, ?_⟩
      rw [h2]
      by_cases hm : Lib.indexByte l c = -1
      · simp [hm]
      · have e3 : (Lib.indexByte l c == -1) = false := by simp [hm]
        simp only [e3, Bool.false_eq_true, if_false, if_neg hm]
        rw [if_neg (by omega)]
        omega
theorem cntF_succ (n a c : Nat) : cntF (n + 1) a c = bcase (Nat.beq (byte0 a) c) (Nat.add (cntF n (shr8 a) c) 1) (cntF n (shr8 a) c) := rfl
theorem cntF_ok (c : UInt8) : ∀ (l : List UInt8), cntF l.length (pack l) c.toNat = Lib.countByte l c ∧ Lib.countByte l c ≤ l.length
  | [] => ⟨rfl, Nat.le_refl _⟩
  | b :: l => by
    rw [List.length_cons, cntF_succ, byte0_cons, shr8_cons]
    obtain ⟨h1, h2⟩ := cntF_ok c l
    have e3 : Lib.countByte (b :: l) c = Lib.countByte l c + if b == c then 1 else 0 := by unfold Lib.countByte; rw [List.count_cons]
    by_cases hb : b = c
    · subst hb
      have e1 : Nat.beq b.toNat b.toNat = true := Nat.beq_refl _
      rw [e1, bcase_true, h1, e3]
      simp; omega
    · have hne : b.toNat ≠ c.toNat := fun h => hb (UInt8.toNat_inj.1 h)
      have e1 : Nat.beq b.toNat c.toNat = false := by cases hx : Nat.beq b.toNat c.toNat with | false => rfl | true => exact absurd (nbeq_iff.1 hx) hne
      have e2 : (b == c) = false := by simp [hb]
      rw [e1, bcase_false, h1, e3, e2]
      simp; omega

theorem ixT_eq {ρ : Rho} {c : Nat} (hc : c ≤ 255) : ∀ {l : List AV} {s : List UInt8} {i r : Nat}, ixT c l i = some r → VRL ρ l (bv s) → r = ixF s.length (pack s) c i
  | [], s, i, r, h, hl => by
    have := hl.len_bv
    rw [List.length_eq_zero_iff.1 this]
    cases h; rfl
  | a :: l, s, i, r, h, hl => by
    obtain ⟨u, us, e1, g1, g2⟩ := VRL.cons_iff.1 hl
    cases s with
    | nil => cases e1
    | cons x s =>
      injection e1 with e1 e3
      subst e1; subst e3
      have h : ocase (eqB a (.int .u8 c)) none (fun r => bcase r (some i) (ixT c l (Nat.add i 1))) = some r := h
      obtain ⟨q, h1, h⟩ := ocase_some_iff.1 h
      have hcn : (UInt8.ofNat c).toNat = c := by simp; omega
      have hv := u8_VR (ρ := ρ) (UInt8.ofNat c)
      rw [hcn] at hv
      have hq := eqB_ok (y := UInt8.ofNat c) h1 g1 (by rw [hcn]; exact hv)
      rw [List.length_cons, ixF_succ, byte0_cons, shr8_cons]
      cases q with
      | true =>
        rw [bcase_true] at h; cases h
        have hx : x = UInt8.ofNat c := of_decide_eq_true hq.symm
        rw [hx, hcn, Nat.beq_refl, bcase_true]
      | false =>
        rw [bcase_false] at h
        have hx : ¬ x = UInt8.ofNat c := of_decide_eq_false hq.symm
        have e1 : Nat.beq x.toNat c = false := by
          cases hb : Nat.beq x.toNat c with
          | false => rfl
          | true => exact absurd (UInt8.toNat_inj.1 (by rw [hcn]; exact nbeq_iff.1 hb)) hx
        rw [e1, bcase_false]
        exact ixT_eq hc h g2
theorem cntT_eq {ρ : Rho} {c : Nat} (hc : c ≤ 255) : ∀ {l : List AV} {s : List UInt8} {r : Nat}, cntT c l = some r → VRL ρ l (bv s) → r = cntF s.length (pack s) c
  | [], s, r, h, hl => by
    have := hl.len_bv
    rw [List.length_eq_zero_iff.1 this]
    cases h; rfl
  | a :: l, s, r, h, hl => by
    obtain ⟨u, us, e1, g1, g2⟩ := VRL.cons_iff.1 hl
    cases s with
    | nil => cases e1
    | cons x s =>
      injection e1 with e1 e3
      subst e1; subst e3
      have h : ocase (eqB a (.int .u8 c)) none (fun r => ocase (cntT c l) none fun m => some (bcase r (Nat.add m 1) m)) = some r := h
      obtain ⟨q, h1, h⟩ := ocase_some_iff.1 h
      obtain ⟨m, h2, h⟩ := ocase_some_iff.1 h
      have hcn : (UInt8.ofNat c).toNat = c := by simp; omega
      have hv := u8_VR (ρ := ρ) (UInt8.ofNat c)
      rw [hcn] at hv
      have hq := eqB_ok (y := UInt8.ofNat c) h1 g1 (by rw [hcn]; exact hv)
      have ih := cntT_eq hc h2 g2
      rw [List.length_cons, cntF_succ, byte0_cons, shr8_cons]
      cases h
      cases q with
      | true =>
        have hx : x = UInt8.ofNat c := of_decide_eq_true hq.symm
        rw [hx, hcn, Nat.beq_refl, bcase_true, bcase_true, ih]
      | false =>
        have hx : ¬ x = UInt8.ofNat c := of_decide_eq_false hq.symm
        have e1 : Nat.beq x.toNat c = false := by
          cases hb : Nat.beq x.toNat c with
          | false => rfl
          | true => exact absurd (UInt8.toNat_inj.1 (by rw [hcn]; exact nbeq_iff.1 hb)) hx
        rw [e1, bcase_false, bcase_false, ih]

theorem one_arg {ρ : Rho} {x : AV} {args' : Array Value} (hx : VRL ρ [x] args'.toList) : ∃ v, args' = #[v] ∧ VR ρ x v := by
  obtain ⟨v, vs, e1, h1, h2⟩ := VRL.cons_iff.1 hx
  have := VRL.nil_iff.1 h2; subst this
  exact ⟨v, Array.toList_inj.1 e1, h1⟩
theorem two_args {ρ : Rho} {x y : AV} {args' : Array Value} (hx : VRL ρ [x, y] args'.toList) : ∃ v u, args' = #[v, u] ∧ VR ρ x v ∧ VR ρ y u := by
  obtain ⟨v, vs, e1, h1, h2⟩ := VRL.cons_iff.1 hx
  obtain ⟨u, us, e2, h3, h4⟩ := VRL.cons_iff.1 h2
  have := VRL.nil_iff.1 h4; subst this
  subst e2
  exact ⟨v, u, Array.toList_inj.1 e1, h1, h3⟩

theorem extern_ok {ρ : Rho} {h : Heap} {w : World} (X : FnsOk P) (s : Sim ρ h w) {f : FuncId} {fn : Func} (hf : P.funcs[f]? = some fn) (hb : fn.body = none) {args : List AV} {args' : Array Value} (ha : VRL ρ args args'.toList) :
    OpOk P ρ h w (externA P h fn args) (callFunc f args') := by
  have hok := X f fn hf
  unfold fnOk at hok
  rw [Bool.and_eq_true, Bool.not_eq_true'] at hok
  obtain ⟨hname, hok⟩ := hok
  have hbn : fn.body.isNone = true := by rw [hb]; rfl
  have hnext : exNames.contains fn.name = true → Extern.findNext fn = none := fun hc => by
    rw [hb, hc] at hok
    simpa using hok
  unfold externA
  cases h1 : (fn.name == "internal/abi.NoEscape") with
  | true =>
    have h1 : fn.name = "internal/abi.NoEscape" := by simpa using h1
    rw [bcase_true]
    have hn := hnext (by rw [h1]; rfl)
    unfold exSame
    split
    · obtain ⟨v, rfl, hv⟩ := one_arg ha
      exact ⟨ρ, v, w, by rw [run_callFunc_extern hf hname hbn hn (find_same h1)]; rfl, hv, s, Ext.refl _ _ _⟩
    · trivial
  | false =>
    rw [bcase_false]
    cases h2 : (fn.name == "internal/bytealg.MakeNoZero") with
    | true =>
      have h2 : fn.name = "internal/bytealg.MakeNoZero" := by simpa using h2
      rw [bcase_true]
      have hn := hnext (by rw [h2]; rfl)
      unfold exMake
      split
      · rename_i n
        split
        · rename_i t hts
          split
          · rename_i e hu
            cases hc : Nat.ble n 1000000 with
            | false => trivial
            | true =>
              rw [bcase_true]
              have hc := Nat.le_of_ble_eq_true hc
              obtain ⟨v, rfl, hv⟩ := one_arg ha
              obtain ⟨rfl, _⟩ := VR.int_iff.1 hv
              have hrt : fn.resultTypes = #[t] := Array.toList_inj.1 hts
              obtain ⟨cs, g1, g2, _⟩ := Lib.run_makeNoZero (P := P) w fn.params t e hu n (by omega)
              obtain ⟨s1, x1, hh⟩ := s.drew' (w' := w.drew.drew) (.inr ⟨_, rfl⟩)
              have al := s1.alloc (x := .cells .e 0 e .gr) (o := .cells cs e) (c := cs.size)
                ⟨cs, 0, 0, rfl, .inl (Nat.le_refl _), rfl, Nat.zero_le _, fun q => (by cases q), fun i a hi => (by rw [T.get_e] at hi; cases hi), fun i a hi => (by rw [T.get_e] at hi; cases hi)⟩ rfl
              refine ⟨_, .slice (some ⟨w.heap.size, 0, none⟩) n cs.size, _, ?_, VR.gslice_iff.2 ⟨w.heap.size, cs.size, cs.size, Rho.ext_same _ _ _, rfl, g2, by omega⟩, al.1, x1.trans al.2⟩
              rw [run_callFunc_extern hf hname hbn hn (find_make h2), hrt, sg_nat (k := .i64) (by show n ≤ 9223372036854775807; omega), g1]
              rfl
          · trivial
        · trivial
      · trivial
    | false =>
      rw [bcase_false]
      cases h3 : (fn.name == "internal/bytealg.IndexByteString") with
      | true =>
        have h3 : fn.name = "internal/bytealg.IndexByteString" := by simpa using h3
        rw [bcase_true]
        have hn := hnext (by rw [h3]; rfl)
        unfold exIndex
        split
        · rename_i n a c
          cases hc : Nat.ble n 1000000 with
          | false => trivial
          | true =>
            rw [bcase_true]
            have hc := Nat.le_of_ble_eq_true hc
            obtain ⟨v, u, rfl, hv, hu⟩ := two_args ha
            obtain ⟨l, rfl, rfl, rfl⟩ := VR.str_iff.1 hv
            obtain ⟨rfl, hm⟩ := VR.int_iff.1 hu
            have hm : c ≤ 255 := hm
            have hcn : (UInt8.ofNat c).toNat = c := by simp; omega
            obtain ⟨g1, g2⟩ := ixF_ok (UInt8.ofNat c) l 0 (by omega)
            rw [hcn] at g1 g2
            refine ⟨ρ, .int .i64 (Lib.indexByte l (UInt8.ofNat c)), w, ?_, VR.int_of g1 ?_, s, Ext.refl _ _ _⟩
            · rw [run_callFunc_extern hf hname hbn hn (find_index h3), sg_nat (k := .u8) hm, Lib.run_indexByteString]
              rfl
            · rw [g2]
              by_cases hq : Lib.indexByte l (UInt8.ofNat c) = -1
              · simp [hq]
              · rw [if_neg hq]; omega
        · rename_i l0 c
          cases hc : Nat.ble (lenL l0) 1000000 with
          | false => trivial
          | true =>
            rw [bcase_true]
            have hc := Nat.le_of_ble_eq_true hc
            cases hr : ixT c l0 0 with
            | none => trivial
            | some r =>
              rw [ocase_some]
              obtain ⟨v, u, rfl, hv, hu⟩ := two_args ha
              obtain ⟨l, rfl, hlv⟩ := VR.sstr_iff.1 hv
              obtain ⟨rfl, hm⟩ := VR.int_iff.1 hu
              have hm : c ≤ 255 := hm
              rw [lenL_eq, ← hlv.len_bv'] at hc
              rw [ixT_eq hm hr hlv]
              have hcn : (UInt8.ofNat c).toNat = c := by simp; omega
              obtain ⟨g1, g2⟩ := ixF_ok (UInt8.ofNat c) l 0 (by omega)
              rw [hcn] at g1 g2
              refine ⟨ρ, .int .i64 (Lib.indexByte l (UInt8.ofNat c)), w, ?_, VR.int_of g1 ?_, s, Ext.refl _ _ _⟩
              · rw [run_callFunc_extern hf hname hbn hn (find_index h3), sg_nat (k := .u8) hm, Lib.run_indexByteString]
                rfl
              · rw [g2]
                by_cases hq : Lib.indexByte l (UInt8.ofNat c) = -1
                · simp [hq]
                · rw [if_neg hq]; omega
        · trivial
      | false =>
        rw [bcase_false]
        cases h4 : (fn.name == "internal/bytealg.CountString") with
        | true =>
          have h4 : fn.name = "internal/bytealg.CountString" := by simpa using h4
          rw [bcase_true]
          have hn := hnext (by rw [h4]; rfl)
          unfold exCount
          split
          · rename_i n a c
            cases hc : Nat.ble n 1000000 with
            | false => trivial
            | true =>
              rw [bcase_true]
              have hc := Nat.le_of_ble_eq_true hc
              obtain ⟨v, u, rfl, hv, hu⟩ := two_args ha
              obtain ⟨l, rfl, rfl, rfl⟩ := VR.str_iff.1 hv
              obtain ⟨rfl, hm⟩ := VR.int_iff.1 hu
              have hm : c ≤ 255 := hm
              have hcn : (UInt8.ofNat c).toNat = c := by simp; omega
              obtain ⟨g1, g2⟩ := cntF_ok (UInt8.ofNat c) l
              rw [hcn] at g1
              rw [g1]
              refine ⟨ρ, .int .i64 (Lib.countByte l (UInt8.ofNat c) : Nat), w, ?_, goInt_VR (by omega), s, Ext.refl _ _ _⟩
              rw [run_callFunc_extern hf hname hbn hn (find_count h4), sg_nat (k := .u8) hm, Lib.run_countString]
              rfl
          · rename_i l0 c
            cases hc : Nat.ble (lenL l0) 1000000 with
            | false => trivial
            | true =>
              rw [bcase_true]
              have hc := Nat.le_of_ble_eq_true hc
              cases hr : cntT c l0 with
              | none => trivial
              | some r =>
                rw [ocase_some]
                obtain ⟨v, u, rfl, hv, hu⟩ := two_args ha
                obtain ⟨l, rfl, hlv⟩ := VR.sstr_iff.1 hv
                obtain ⟨rfl, hm⟩ := VR.int_iff.1 hu
                have hm : c ≤ 255 := hm
                rw [lenL_eq, ← hlv.len_bv'] at hc
                rw [cntT_eq hm hr hlv]
                have hcn : (UInt8.ofNat c).toNat = c := by simp; omega
                obtain ⟨g1, g2⟩ := cntF_ok (UInt8.ofNat c) l
                rw [hcn] at g1
                rw [g1]
                refine ⟨ρ, .int .i64 (Lib.countByte l (UInt8.ofNat c) : Nat), w, ?_, goInt_VR (by omega), s, Ext.refl _ _ _⟩
                rw [run_callFunc_extern hf hname hbn hn (find_count h4), sg_nat (k := .u8) hm, Lib.run_countString]
                rfl
          · trivial
        | false => trivial

theorem callF_ok {ρ : Rho} {h : Heap} {w : World} (X : FnsOk P) (s : Sim ρ h w) {f : FuncId} {args : List AV} {args' : Array Value} (ha : VRL ρ args args'.toList) :
    OpOk P ρ h w (callF P h f args) (callFunc f args') := by
  unfold callF
  cases hf : P.funcs[f]? with
  | none => trivial
  | some fn =>
    rw [ocase_some]
    unfold callB
    cases hb : fn.body with
    | none => exact extern_ok X s hf hb ha
    | some c =>
      rw [ocase_some]
      refine ⟨rfl, args', ?_, ha⟩
      have hok := X f fn hf
      unfold fnOk at hok
      rw [Bool.and_eq_true, Bool.not_eq_true'] at hok
      have hbn : fn.body.isNone = false := by rw [hb]; rfl
      unfold callFunc
      have hne : fn.name ≠ "runtime.NumGoroutine" := by simpa using hok.1
      simp [hf, hne, hb]
end
end Go.Ev

namespace Go.Ev
open Go
section
variable {P : Program}

def EvOn (ρ : Rho) (l : List Operand) (ev : Ev) (e : Operand → Value) : Prop := ∀ x ∈ l, ∀ v, ev x = some v → VR ρ v (e x)
theorem evs_cons (x : Operand) (l : List Operand) (ev : Ev) : evs (x :: l) ev = ocase (ev x) none fun v => consO v (evs l ev) := rfl
theorem evs_ok {ρ : Rho} {ev : Ev} {e : Operand → Value} : ∀ (l : List Operand) (r : List AV), EvOn ρ l ev e → evs l ev = some r → VRL ρ r (l.map e)
  | [], r, _, h => by cases h; exact VRL.nil
  | x :: l, r, he, h => by
    rw [evs_cons] at h
    obtain ⟨v, hv, h⟩ := ocase_some_iff.1 h
    obtain ⟨r', hr, rfl⟩ := consO_some.1 h
    exact VRL.cons (he x (by simp) v hv) (evs_ok l r' (fun y hy => he y (by simp [hy])) hr)
theorem mapOpt_cons (x : Nat × Operand) (l : List (Nat × Operand)) (ev : Ev) : mapOpt (x :: l) ev = ocase (ev x.2) none fun v => consP x.1 v (mapOpt l ev) := rfl
theorem mapOpt_ok {ρ : Rho} {ev : Ev} {e : Operand → Value} : ∀ (l : List (Nat × Operand)) (r : List (Nat × AV)), EvOn ρ (l.map (·.2)) ev e → mapOpt l ev = some r → PR ρ r (l.map fun x => (x.1, e x.2))
  | [], r, _, h => by cases h; exact .nil
  | x :: l, r, he, h => by
    rw [mapOpt_cons] at h
    obtain ⟨v, hv, h⟩ := ocase_some_iff.1 h
    unfold consP at h
    obtain ⟨r', hr, h⟩ := ocase_some_iff.1 h
    cases h
    exact .cons (he x.2 (by simp) v hv) (mapOpt_ok l r' (fun y hy => he y (by simp at hy ⊢; exact .inr hy)) hr)

section
variable {ρ : Rho} {h : Heap} {w : World} {ev : Ev} {e : Operand → Value} {S : Sem Next}
theorem o1_ok {x : Operand} {f : AV → Heap → OpR} (hx : ∀ v, ev x = some v → OpOk P ρ h w (f v h) S) : OpOk P ρ h w (o1 x f ev h) S := by
  unfold o1
  cases hv : ev x with
  | none => trivial
  | some v => exact hx v hv
theorem o2_ok {x y : Operand} {f : AV → AV → Heap → OpR} (hx : ∀ v u, ev x = some v → ev y = some u → OpOk P ρ h w (f v u h) S) : OpOk P ρ h w (o2 x y f ev h) S := by
  unfold o2
  cases hv : ev x with
  | none => trivial
  | some v =>
    cases hu : ev y with
    | none => trivial
    | some u => exact hx v u hv hu
theorem o3_ok {x y z : Operand} {f : AV → AV → AV → Heap → OpR} (hx : ∀ v u t, ev x = some v → ev y = some u → ev z = some t → OpOk P ρ h w (f v u t h) S) : OpOk P ρ h w (o3 x y z f ev h) S := by
  unfold o3
  cases hv : ev x with
  | none => trivial
  | some v => exact o2_ok fun u t hu ht => hx v u t hv hu ht

theorem move_ok (s : Sim ρ h w) {x : Operand} (hx : ∀ v, ev x = some v → VR ρ v (e x)) : OpOk P ρ h w (opMove x ev h) (pure (.value (e x))) := by
  unfold opMove
  cases hv : ev x with
  | none => trivial
  | some v => exact ⟨ρ, e x, w, rfl, hx v hv, s, Ext.refl _ _ _⟩

theorem nilCheck_ok (s : Sim ρ h w) {x v : AV} {x' : Value} (hx : VR ρ x x') (hn : nilCheckA x = some v) {o : Oper} {z : Operand} (ho : o.op = .nilCheck z) (hz : e z = x') : OpOk P ρ h w (.val v h) (execOp e o) := by
  have key : x = v → (execOp e o).run P w = .ok (.value x') w → OpOk P ρ h w (.val v h) (execOp e o) := fun h1 h2 => ⟨ρ, x', w, h2, h1 ▸ hx, s, Ext.refl _ _ _⟩
  have hrun : (∀ fs cs fn, x' = .func fn fs cs → okFn fn = true) → x' ≠ .pointer none → x' ≠ .nilIface → x' ≠ .nilFunc → (execOp e o).run P w = .ok (.value x') w := by
    intro h1 h2 h3 h4
    unfold execOp
    rw [ho]
    simp only [hz]
    split
    · exact absurd rfl h2
    · exact absurd rfl h3
    · exact absurd rfl h4
    · have := h1 _ _ _ rfl; simp [okFn] at this
    · rfl
  cases x <;> first | (cases hn; done) | skip
  case func fn fs cs =>
    obtain ⟨hk, hn⟩ := bcase_none_iff.1 (show bcase (okFn fn) (some (AV.func fn fs cs)) none = some v from hn)
    cases hn
    obtain ⟨a, b, rfl, _⟩ := VR.func_iff.1 hx
    exact key rfl (hrun (fun _ _ _ q => by cases q; exact hk) (by simp) (by simp) (by simp))
  all_goals
    cases hn
    refine key rfl (hrun ?_ ?_ ?_ ?_) <;> simp only [VR] at hx <;> first
      | (obtain ⟨rfl, _⟩ := hx; simp) | (subst hx; simp) | (obtain ⟨_, rfl, _⟩ := hx; simp) | (obtain ⟨_, _, _, rfl⟩ := hx; simp) | (obtain ⟨_, _, _, _, rfl, _⟩ := hx; simp) | (obtain ⟨_, _, rfl⟩ := hx; simp) | (obtain ⟨_, _, rfl, _⟩ := hx; simp) | (obtain ⟨_, _, _, _, _, _, rfl⟩ := hx; simp)

theorem at0 {ts : Array TypeId} {t : TypeId} {r : List TypeId} (h : ts.toList = t :: r) : ts[0]? = some t := by rw [← Array.getElem?_toList, h]; rfl
theorem at1 {ts : Array TypeId} {t : TypeId} {r : List TypeId} (h : ts.toList = t :: r) : ts[1]? = r.head? := by rw [← Array.getElem?_toList, h]; cases r <;> rfl
theorem okT_ok {o : Option Heap} {x : Sem Value} (hx : ∀ a, o = some a → OkV ρ h w P (.tuple []) a x) : OpOk P ρ h w (okT o) (do pure (.value (← x))) := by
  cases o with
  | none => trivial
  | some a => exact OpOk.ofV (hx a rfl)

theorem builtin_ok (s : Sim ρ h w) {b : Builtin} {ts : Array TypeId} {ty : TypeId} {cs : Array Bool} {args : List AV} {args' : Array Value} (ha : VRL ρ args args'.toList) :
    OpOk P ρ h w (builtinF b P ts.toList args h) (builtin b ts ty cs args') := by
  cases b <;> first | trivial | skip
  case append =>
    show OpOk P ρ h w (biAppend P ts.toList args h) _
    unfold biAppend
    split
    · rename_i t rest x y hts
      obtain ⟨v, u, rfl, hv, hu⟩ := two_args ha
      exact OpOk.ovh fun a h => append_ok s (at0 hts) (at1 hts) hv hu h
    · trivial
  case cap =>
    show OpOk P ρ h w (biCap P ts.toList args h) _
    unfold biCap
    split
    · rename_i t rest x hts
      obtain ⟨v, rfl, hv⟩ := one_arg ha
      exact OpOk.ov s fun a h => cap_ok (at0 hts) hv h
    · trivial
  case clear =>
    show OpOk P ρ h w (biClear P ts.toList args h) _
    unfold biClear
    split
    · rename_i t rest x hts
      obtain ⟨v, rfl, hv⟩ := one_arg ha
      exact okT_ok fun a h => clear_ok s (at0 hts) hv h
    · trivial
  case copy =>
    show OpOk P ρ h w (biCopy P ts.toList args h) _
    unfold biCopy
    split
    · rename_i t rest x y hts
      obtain ⟨v, u, rfl, hv, hu⟩ := two_args ha
      exact OpOk.ovh fun a h => copy_ok s (at0 hts) hv hu h
    · trivial
  case delete =>
    show OpOk P ρ h w (biDelete P ts.toList args h) _
    unfold biDelete
    split
    · rename_i t rest x y hts
      obtain ⟨v, u, rfl, hv, hu⟩ := two_args ha
      exact okT_ok fun a h => delete_ok s (at0 hts) hv hu h
    · trivial
  case len =>
    show OpOk P ρ h w (biLen P ts.toList args h) _
    unfold biLen
    split
    · rename_i t rest x hts
      obtain ⟨v, rfl, hv⟩ := one_arg ha
      exact OpOk.ov s fun a h => len_ok s (at0 hts) hv h
    · trivial
  case max => exact max_ok s ha
  case min => exact min_ok s ha
  case unsafeSliceData => exact sliceData_ok s ha
  case unsafeString => exact string_ok s ha

theorem callee_some {f : Operand} {ev : Ev} {l : List AV} (h : ∀ r, callV P (ev f) l h = r → True) : True := trivial
theorem callV_ok (X : FnsOk P) (s : Sim ρ h w) {f : Option AV} {f' : Value} (hf : ∀ v, f = some v → VR ρ v f') {args : List AV} {args' : Array Value} (ha : VRL ρ args args'.toList) :
    OpOk P ρ h w (callV P f args h) (do let d ← Deferred.ofValue f' args'; invoke d.target d.args) := by
  unfold callV
  split
  · rename_i g fs cs
    obtain ⟨a, b, rfl, h1, h2⟩ := VR.func_iff.1 (hf _ rfl)
    have := callF_ok (P := P) (f := g) (args' := (a ++ args') ++ b) X s (by
      have := h1.append (ha.append h2)
      simpa using this)
    exact this
  · trivial
theorem dfrV_ok (s : Sim ρ h w) {f : Option AV} {f' : Value} (hf : ∀ v, f = some v → VR ρ v f') {args : List AV} {args' : Array Value} (ha : VRL ρ args args'.toList) :
    OpOk P ρ h w (dfrV f args h) (do pure (.defer (← Deferred.ofValue f' args'))) := by
  unfold dfrV
  split
  · rename_i g fs cs
    obtain ⟨a, b, rfl, h1, h2⟩ := VR.func_iff.1 (hf _ rfl)
    refine ⟨rfl, a ++ args', b, rfl, ?_⟩
    have := h1.append (ha.append h2)
    simpa using this
  · trivial
end

set_option maxHeartbeats 4000000 in
theorem opF_ok {ρ : Rho} {h : Heap} {w : World} (X : FnsOk P) (s : Sim ρ h w) {ev : Ev} {e : Operand → Value} (o : Oper) (he : EvOn ρ o.op.operands.toList ev e) : OpOk P ρ h w (opF o.op P ev h) (execOp e o) := by
  obtain ⟨dst, op, ty, pos, after, guard⟩ := o
  cases op
  case ready g => exact True.intro
  case waits g => exact True.intro
  case sliceToArrayPointer a b => exact True.intro
  case makeChan a b => exact True.intro
  case go c => exact True.intro
  case send a b => exact True.intro
  case recv a b c => exact True.intro
  case select a b => exact True.intro
  case move x => exact move_ok s (he x (by simp [Op.operands]))
  case assign x => exact move_ok s (he x (by simp [Op.operands]))
  case pick c a b =>
    show OpOk P ρ h w (opPick c a b ev h) (do pure (.value (if ← Go.asBool (e c) then e a else e b)))
    unfold opPick
    cases hc : ev c with
    | none => trivial
    | some v =>
      rw [ocase_some]
      cases hb : Ev.asBool v with
      | none => trivial
      | some t =>
        rw [ocase_some]
        have h1 := he c (by simp [Op.operands]) v hc
        rw [asBool_some hb] at h1
        have h1 := VR.bool_iff.1 h1
        have h2 : (do pure (.value (if ← Go.asBool (e c) then e a else e b)) : Sem Next) = pure (.value (if t then e a else e b)) := by rw [h1]; rfl
        rw [h2]
        cases t with
        | true => exact move_ok s (he a (by simp [Op.operands]))
        | false => exact move_ok s (he b (by simp [Op.operands]))
  case alloc t =>
    show OpOk P ρ h w (ovh (allocA P h t)) (do pure (.value (← Instr.alloc t true (.tuple #[]))))
    exact OpOk.ovh fun a h => alloc_ok s h _
  case box t x =>
    show OpOk P ρ h w (o1 x (boxA t) ev h) (do pure (.value (← Instr.box t (e x))))
    refine o1_ok fun v hv => ?_
    unfold boxA
    cases hc : allOne v.cells with
    | false => trivial
    | true => exact OpOk.ofV (box_ok s (he x (by simp [Op.operands]) v hv))
  case build t ps =>
    show OpOk P ρ h w (opBuild t ps.toList P ev h) (do pure (.value (← Instr.build t (ps.map fun (i, x) => (i, e x)))))
    unfold opBuild
    cases hm : mapOpt ps.toList ev with
    | none => trivial
    | some l =>
      have := mapOpt_ok (ρ := ρ) (e := e) ps.toList l (fun x hx => he x (by simpa [Op.operands] using hx)) hm
      exact OpOk.ov s fun a h => build_ok (by simpa using this) h
  case buildSlice t n ps =>
    show OpOk P ρ h w (opBuildSlice t n ps.toList P ev h) (do pure (.value (← Instr.buildSlice t n (ps.map fun (i, x) => (i, e x)))))
    unfold opBuildSlice
    cases hm : mapOpt ps.toList ev with
    | none => trivial
    | some l =>
      have := mapOpt_ok (ρ := ρ) (e := e) ps.toList l (fun x hx => he x (by simpa [Op.operands] using hx)) hm
      exact OpOk.ovh fun a h => buildSlice_ok s (by simpa using this) h
  case load t a =>
    show OpOk P ρ h w (o1 a (fun p h => ov h (loadA P h t p)) ev h) (do pure (.value (← Instr.loadAt t (e a))))
    exact o1_ok fun v hv => OpOk.ov s fun b h => load_ok s (he a (by simp [Op.operands]) v hv) h
  case store t a x =>
    show OpOk P ρ h w (o2 a x (fun p v h => osk (storeA P h t p v)) ev h) (do Instr.storeAt t (e a) (e x); pure .skip)
    exact o2_ok fun v u hv hu => OpOk.osk fun b h => store_ok s (he a (by simp [Op.operands]) v hv) (he x (by simp [Op.operands]) u hu) h
  case nilCheck x =>
    show OpOk P ρ h w (o1 x (fun v h => ov h (nilCheckA v)) ev h) _
    refine o1_ok fun v hv => ?_
    cases hn : nilCheckA v with
    | none => trivial
    | some r => exact nilCheck_ok s (he x (by simp [Op.operands]) v hv) hn rfl rfl
  case binOp op t x y _ =>
    show OpOk P ρ h w (o2 x y (fun a b h => ov h (binOpA P op t x y a b)) ev h) (do pure (.value (← gBin op t x y (e x) (e y))))
    exact o2_ok fun v u hv hu => OpOk.ov s fun b h => binOp_ok (he x (by simp [Op.operands]) v hv) (he y (by simp [Op.operands]) u hu) h
  case unOp op _ x =>
    show OpOk P ρ h w (o1 x (fun v h => ov h (unOpA op v)) ev h) (do pure (.value (← Op.unary op (e x))))
    exact o1_ok fun v hv => OpOk.ov s fun b h => unOp_ok (he x (by simp [Op.operands]) v hv) h
  case convert src dst x =>
    show OpOk P ρ h w (o1 x (fun v h => ovh (convertA P h src dst v)) ev h) (do pure (.value (← convert src dst (e x))))
    exact o1_ok fun v hv => OpOk.ovh fun b h => convert_ok s (he x (by simp [Op.operands]) v hv) h
  case makeInterface t x =>
    show OpOk P ρ h w (o1 x (mkIface P t) ev h) (do pure (.value (← Instr.makeInterface t (e x))))
    exact o1_ok fun v hv => mkIface_ok s (he x (by simp [Op.operands]) v hv)
  case makeFunc fn fs cs =>
    show OpOk P ρ h w (opMakeFunc fn fs.toList cs.toList P ev h) (do pure (.value (← Instr.makeFunc fn (fs.map e) (cs.map e))))
    unfold opMakeFunc
    split
    · rename_i a ha
      split
      · rename_i b hb
        have h1 := evs_ok (ρ := ρ) (e := e) fs.toList a (fun x hx => he x (by simp [Op.operands] at hx ⊢; exact .inl hx)) ha
        have h2 := evs_ok (ρ := ρ) (e := e) cs.toList b (fun x hx => he x (by simp [Op.operands] at hx ⊢; exact .inr hx)) hb
        exact ⟨ρ, .func fn (fs.map e) (cs.map e), w, rfl, VR.func_iff.2 ⟨_, _, rfl, by simpa using h1, by simpa using h2⟩, s, Ext.refl _ _ _⟩
      · trivial
    · trivial
  case makeMap t r =>
    refine makeMap_ok s (r := r) (r' := r.map e) (fun x hx a ha => ?_) (fun hx => by rw [hx]; rfl)
    subst hx
    exact ⟨e x, rfl, he x (by simp [Op.operands]) a ha⟩
  case makeSlice t l c =>
    show OpOk P ρ h w (o2 l c (fun a b h => ovh (makeSliceA P h t a b)) ev h) (do pure (.value (← Instr.makeSlice t (e l) (e c))))
    exact o2_ok fun v u hv hu => OpOk.ovh fun b h => makeSlice_ok s (he l (by simp [Op.operands]) v hv) (he c (by simp [Op.operands]) u hu) h
  case slice t x lo hi mx =>
    show OpOk P ρ h w (opSlice t x lo hi mx P ev h) (do pure (.value (← Instr.sliceAt t (e x) (lo.map e) (hi.map e) (mx.map e))))
    have opt : ∀ (z : Option Operand) (r : Option AV), (∀ y, z = some y → ∀ v, ev y = some v → VR ρ v (e y)) → optEv ev z = some r → OR ρ r (z.map e) := by
      intro z r hz hr
      cases z with
      | none => cases hr; exact .none
      | some y =>
        unfold optEv at hr
        cases hv : ev y with
        | none => simp [hv] at hr
        | some v => simp [hv] at hr; subst hr; exact .some (hz y rfl v hv)
    unfold opSlice
    split
    · rename_i v hv
      split
      · rename_i a ha
        split
        · rename_i b hb
          split
          · rename_i c hc
            exact OpOk.ov s fun r hr => slice_ok (he x (by simp [Op.operands]) v hv) (opt lo a (fun y hy => he y (by subst hy; simp [Op.operands])) ha) (opt hi b (fun y hy => he y (by subst hy; simp [Op.operands])) hb)
              (opt mx c (fun y hy => he y (by subst hy; simp [Op.operands])) hc) hr
          · trivial
        · trivial
      · trivial
    · trivial
  case fieldAddr t x f =>
    show OpOk P ρ h w (o1 x (fun v h => ov h (fieldAddrA P t v f)) ev h) (do pure (.value (← Instr.fieldAt t (e x) f)))
    exact o1_ok fun v hv => OpOk.ov s fun b h => fieldAddr_ok (he x (by simp [Op.operands]) v hv) h
  case field t x f =>
    show OpOk P ρ h w (o1 x (fun v h => ov h (fieldA P t v f)) ev h) (do pure (.value (← Instr.field t (e x) f)))
    exact o1_ok fun v hv => OpOk.ov s fun b h => field_ok (he x (by simp [Op.operands]) v hv) h
  case indexAddr t x i =>
    show OpOk P ρ h w (o2 x i (fun a b h => ov h (indexAddrA P t a b)) ev h) (do pure (.value (← Instr.indexAt t (e x) (e i))))
    exact o2_ok fun v u hv hu => OpOk.ov s fun b h => indexAddr_ok (he x (by simp [Op.operands]) v hv) (he i (by simp [Op.operands]) u hu) h
  case index t x i =>
    show OpOk P ρ h w (o2 x i (fun a b h => ov h (indexA P t a b)) ev h) (do pure (.value (← Instr.index t (e x) (e i))))
    exact o2_ok fun v u hv hu => OpOk.ov s fun b h => index_ok (he x (by simp [Op.operands]) v hv) (he i (by simp [Op.operands]) u hu) h
  case lookup t x i ok =>
    show OpOk P ρ h w (o2 x i (fun a b h => ov h (lookupA P h t a b ok)) ev h) (do pure (.value (← Instr.lookup t (e x) (e i) ok)))
    exact o2_ok fun v u hv hu => OpOk.ov s fun b h => lookup_ok s (he x (by simp [Op.operands]) v hv) (he i (by simp [Op.operands]) u hu) h
  case mapUpdate t m k x =>
    show OpOk P ρ h w (o3 m k x (fun a b c h => osk (mapUpdateA P h t a b c)) ev h) (do Instr.mapUpdate t (e m) (e k) (e x); pure .skip)
    exact o3_ok fun v u r hv hu hr => OpOk.osk fun b h => mapUpdate_ok s (he m (by simp [Op.operands]) v hv) (he k (by simp [Op.operands]) u hu) (he x (by simp [Op.operands]) r hr) h
  case insert t m k x =>
    show OpOk P ρ h w (o3 m k x (fun a b c h => osk (mapUpdateA P h t a b c)) ev h) (do Instr.mapUpdate t (e m) (e k) (e x); pure .skip)
    exact o3_ok fun v u r hv hu hr => OpOk.osk fun b h => mapUpdate_ok s (he m (by simp [Op.operands]) v hv) (he k (by simp [Op.operands]) u hu) (he x (by simp [Op.operands]) r hr) h
  case mapEntry t m k =>
    show OpOk P ρ h w (o2 m k (fun a b h => ovh (mapEntryA P h t a b)) ev h) (do pure (.value (← Instr.mapEntry t (e m) (e k))))
    exact o2_ok fun v u hv hu => OpOk.ovh fun b h => mapEntry_ok s (he m (by simp [Op.operands]) v hv) (he k (by simp [Op.operands]) u hu) h
  case entryStore t m k x =>
    show OpOk P ρ h w (o3 m k x (fun a b c h => osk (entryStoreA h a b c)) ev h) (do Instr.entryStore t (e m) (e k) (e x); pure .skip)
    exact o3_ok fun v u r hv hu hr => OpOk.osk fun b h => entryStore_ok s (he m (by simp [Op.operands]) v hv) (he k (by simp [Op.operands]) u hu) (he x (by simp [Op.operands]) r hr) h
  case range t x =>
    show OpOk P ρ h w (o1 x (fun v h => ovh (rangeA P h t v)) ev h) (do pure (.value (← Instr.range t (e x))))
    exact o1_ok fun v hv => OpOk.ovh fun b h => range_ok s (he x (by simp [Op.operands]) v hv) h
  case next it st =>
    show OpOk P ρ h w (o1 it (fun v h => nextA h v st) ev h) (do pure (.value (← Instr.next (e it) st ty)))
    exact o1_ok fun v hv => next_ok s (he it (by simp [Op.operands]) v hv)
  case entry it =>
    show OpOk P ρ h w (o1 it (fun v h => ov h (entryA h v)) ev h) (do pure (.value (← Instr.entry (e it))))
    exact o1_ok fun v hv => OpOk.ov s fun b h => entry_ok s (he it (by simp [Op.operands]) v hv) h
  case typeAssert x xt t ok =>
    show OpOk P ρ h w (o1 x (fun v h => ov h (typeAssertA P v t ok)) ev h) (do pure (.value (← Instr.typeAssert (e x) xt t ok)))
    exact o1_ok fun v hv => OpOk.ov s fun b h => typeAssert_ok (he x (by simp [Op.operands]) v hv) h
  case extract t i =>
    show OpOk P ρ h w (o1 t (opExtract i) ev h) (do pure (.value (← Instr.extract (e t) i)))
    refine o1_ok fun v hv => ?_
    unfold opExtract
    cases hl : asTuple v with
    | none => trivial
    | some l => exact OpOk.ov s fun b h => extract_ok (he t (by simp [Op.operands]) v hv) hl h
  case call c =>
    obtain ⟨cal, args, ts⟩ := c
    cases cal with
    | invoke r n => trivial
    | builtin b =>
      show OpOk P ρ h w (match evs args.toList ev with | some l => builtinF b P ts.toList l h | none => .bad 42) _
      cases ha : evs args.toList ev with
      | none => trivial
      | some l =>
        have h1 := evs_ok (ρ := ρ) (e := e) args.toList l (fun x hx => he x (by simp [Op.operands, Call.operands] at hx ⊢; exact hx)) ha
        exact builtin_ok (args' := args.map e) s (by simpa using h1)
    | value f =>
      show OpOk P ρ h w (match evs args.toList ev with | some l => callV P (ev f) l h | none => .bad 42) _
      cases ha : evs args.toList ev with
      | none => trivial
      | some l =>
        have h1 := evs_ok (ρ := ρ) (e := e) args.toList l (fun x hx => he x (by simp [Op.operands, Call.operands] at hx ⊢; exact .inr hx)) ha
        exact callV_ok (args' := args.map e) X s (fun v hv => he f (by simp [Op.operands, Call.operands]) v hv) (by simpa using h1)
  case defer c =>
    obtain ⟨cal, args, ts⟩ := c
    cases cal with
    | invoke r n => trivial
    | builtin b => trivial
    | value f =>
      show OpOk P ρ h w (match evs args.toList ev with | some l => dfrV (ev f) l h | none => .bad 46) _
      cases ha : evs args.toList ev with
      | none => trivial
      | some l =>
        have h1 := evs_ok (ρ := ρ) (e := e) args.toList l (fun x hx => he x (by simp [Op.operands, Call.operands] at hx ⊢; exact .inr hx)) ha
        exact dfrV_ok (args' := args.map e) s (fun v hv => he f (by simp [Op.operands, Call.operands]) v hv) (by simpa using h1)
  case panic x =>
    show OpOk P ρ h w (o1 x panA ev h) (do pure (.value (← Instr.panic (e x))))
    refine o1_ok fun v hv => ?_
    unfold panA
    split
    · rename_i t y
      have h1 := he x (by simp [Op.operands]) _ hv
      obtain ⟨y', h2, h3⟩ := VR.iface_iff.1 h1
      refine ⟨rfl, e x, ?_, h1⟩
      show (do pure (.value (← Instr.panic (e x))) : Sem Next).run P w = _
      rw [h2]
      rfl
    · trivial
end
end Go.Ev
