import Derived.Test.YtodmelapdoahpaaGreatDoorSdI
set_option linter.all false
namespace Go.Ev
open Go

def dgs (n : Nat) : List UInt8 := if n < 10 then [UInt8.ofNat (48 + n)] else if n < 100 then [UInt8.ofNat (48 + n / 10), UInt8.ofNat (48 + n % 10)] else [UInt8.ofNat (48 + n / 100), UInt8.ofNat (48 + n / 10 % 10), UInt8.ofNat (48 + n % 10)]
theorem split_of {ρ : Rho} {p : Nat × List Trm} {m n : Nat} (hm : 0 < m) (h : nle1 (Nat.add (Nat.mod p.1 m) (maxT (remT m p.2))) m = true) (hn : LE ρ p.2 n) :
    ∃ q r, LE ρ (quoT m p.2) q ∧ LE ρ (remT m p.2) r ∧ (p.1 + n) / m = p.1 / m + q ∧ (p.1 + n) % m = p.1 % m + r := by
  rw [nle1_eq, decide_eq_true_iff] at h
  have h : p.1 % m + maxT (remT m p.2) < m := h
  obtain ⟨q, r, g1, g2, g3⟩ := splitT_ok m hn
  have := g2.le
  have h3 := Nat.div_add_mod p.1 m
  have e : p.1 + n = (p.1 % m + r) + m * (p.1 / m + q) := by rw [Nat.mul_add]; omega
  have hlt : p.1 % m + r < m := by omega
  refine ⟨q, r, g1, g2, ?_, ?_⟩
  · rw [e, Nat.add_mul_div_left _ _ hm, Nat.div_eq_of_lt hlt, Nat.zero_add]
  · rw [e, Nat.add_mul_mod_self_left, Nat.mod_eq_of_lt hlt]
theorem quoS_ok {ρ : Rho} {p q : Nat × List Trm} {m n : Nat} (hm : 0 < m) (h : quoS p m = some q) (hn : LE ρ p.2 n) : ∃ a, LE ρ q.2 a ∧ (p.1 + n) / m = q.1 + a := by
  obtain ⟨h1, h⟩ := bcase_none_iff.1 h
  cases h
  obtain ⟨a, r, g1, _, g3, _⟩ := split_of hm h1 hn
  exact ⟨a, g1, g3⟩
theorem remS_ok {ρ : Rho} {p q : Nat × List Trm} {m n : Nat} (hm : 0 < m) (h : remS p m = some q) (hn : LE ρ p.2 n) : ∃ a, LE ρ q.2 a ∧ (p.1 + n) % m = q.1 + a := by
  obtain ⟨h1, h⟩ := bcase_none_iff.1 h
  cases h
  obtain ⟨a, r, _, g2, _, g4⟩ := split_of hm h1 hn
  exact ⟨r, g2, g4⟩
theorem consD_ok {ρ : Rho} {p : Option (Nat × List Trm)} {l : Option (List AV)} {r : List AV} {d : Nat} {s : List UInt8} (h : consD p l = some r) (hd : d < 10) (hp : ∀ q, p = some q → ∃ a, LE ρ q.2 a ∧ d = q.1 + a) (hl : ∀ q, l = some q → VRL ρ q (bv s)) :
    VRL ρ r (bv (UInt8.ofNat (48 + d) :: s)) := by
  unfold consD at h
  obtain ⟨q, h1, h⟩ := ocase_some_iff.1 h
  obtain ⟨a, h2, h⟩ := ocase_some_iff.1 h
  obtain ⟨m, h3, h⟩ := ocase_some_iff.1 h
  cases h
  obtain ⟨x, g1, g2⟩ := hp q h1
  obtain ⟨g3, _⟩ := mkS_ok h2 g1
  have e : (UInt8.ofNat (48 + d)).toNat = 48 + d := by simp; omega
  show VRL ρ (a :: m) (Value.int .u8 (((UInt8.ofNat (48 + d)).toNat : Nat) : Int) :: bv s)
  refine VRL.cons ?_ (hl m h3)
  rw [e]
  have e2 : Nat.add 48 q.1 + x = 48 + d := by rw [g2]; exact Nat.add_assoc _ _ _
  rw [← e2]
  exact g3
theorem digL_ok {ρ : Rho} {p : Nat × List Trm} {l : List AV} {n : Nat} (h : digL p = some l) (hn : LE ρ p.2 n) : p.1 + n < 1000 ∧ VRL ρ l (bv (dgs (p.1 + n))) := by
  unfold digL at h
  obtain ⟨b1, e1, h⟩ := ocase_some_iff.1 h
  have r1 := ltS_ok e1 hn LE.nil
  rw [Nat.add_zero] at r1
  have nilL : ∀ q, (some [] : Option (List AV)) = some q → VRL ρ q (bv []) := fun q e => by cases e; exact VRL.nil
  cases b1 with
  | true =>
    rw [bcase_true] at h
    have h10 : p.1 + n < 10 := of_decide_eq_true r1.symm
    refine ⟨by omega, ?_⟩
    unfold dgs
    rw [if_pos h10]
    exact consD_ok h h10 (fun q e => by cases e; exact ⟨n, hn, rfl⟩) nilL
  | false =>
    rw [bcase_false] at h
    have h10 : ¬ p.1 + n < 10 := of_decide_eq_false r1.symm
    obtain ⟨b2, e2, h⟩ := ocase_some_iff.1 h
    have r2 := ltS_ok e2 hn LE.nil
    rw [Nat.add_zero] at r2
    cases b2 with
    | true =>
      rw [bcase_true] at h
      have h100 : p.1 + n < 100 := of_decide_eq_true r2.symm
      refine ⟨by omega, ?_⟩
      unfold dgs
      rw [if_neg h10, if_pos h100]
      exact consD_ok h (by omega) (fun q e => quoS_ok (by decide) e hn) fun q e => consD_ok e (by omega) (fun q e => remS_ok (by decide) e hn) nilL
    | false =>
      rw [bcase_false] at h
      have h100 : ¬ p.1 + n < 100 := of_decide_eq_false r2.symm
      obtain ⟨b3, e3, h⟩ := ocase_some_iff.1 h
      have r3 := ltS_ok e3 hn LE.nil
      rw [Nat.add_zero] at r3
      obtain ⟨h4, h⟩ := bcase_none_iff.1 h
      rw [h4] at r3
      have h1000 : p.1 + n < 1000 := of_decide_eq_true r3.symm
      refine ⟨h1000, ?_⟩
      unfold dgs
      rw [if_neg h10, if_neg h100]
      refine consD_ok h (by omega) (fun q e => quoS_ok (by decide) e hn) fun q e => ?_
      obtain ⟨u, h5, e⟩ := ocase_some_iff.1 e
      obtain ⟨a, g1, g2⟩ := quoS_ok (by decide) h5 hn
      refine consD_ok e (by omega) (fun q e => ?_) fun q e => consD_ok e (by omega) (fun q e => remS_ok (by decide) e hn) nilL
      obtain ⟨b, g3, g4⟩ := remS_ok (by decide) e g1
      exact ⟨b, g3, by rw [g2]; exact g4⟩
theorem itoaA_ok {ρ : Rho} {x v : AV} {u : Value} (h : itoaA x = some v) (hx : VR ρ x u) : ∃ n : Nat, u = .int .i64 (n : Int) ∧ n < 1000 ∧ VR ρ v (.string ⟨⟨dgs n⟩⟩) := by
  cases x with
  | sint k c ts =>
    have h : bcase (kbeq k .i64) (ocase (digL (c, ts)) none mkStr) none = some v := h
    obtain ⟨h0, h⟩ := bcase_none_iff.1 h
    have h0 := kcode_inj h0
    subst h0
    obtain ⟨l, h1, h2⟩ := ocase_some_iff.1 h
    obtain ⟨m, rfl, hm, _⟩ := VR.sint_iff.1 hx
    obtain ⟨g1, g2⟩ := digL_ok h1 hm
    exact ⟨c + m, rfl, g1, mkStr_ok h2 g2⟩
  | _ => cases h

noncomputable def dgA (n : Nat) : AV :=
  bcase (Nat.ble n (nat_lit 9)) (.str (nat_lit 1) (Nat.add (nat_lit 48) n))
    (bcase (Nat.ble n (nat_lit 99)) (.str (nat_lit 2) (Nat.add (Nat.add (nat_lit 48) (Nat.div n (nat_lit 10))) (Nat.mul (nat_lit 256) (Nat.add (nat_lit 48) (Nat.mod n (nat_lit 10))))))
      (.str (nat_lit 3) (Nat.add (Nat.add (nat_lit 48) (Nat.div n (nat_lit 100))) (Nat.mul (nat_lit 256) (Nat.add (Nat.add (nat_lit 48) (Nat.mod (Nat.div n (nat_lit 10)) (nat_lit 10))) (Nat.mul (nat_lit 256) (Nat.add (nat_lit 48) (Nat.mod n (nat_lit 10)))))))))
theorem dgA_VR {ρ : Rho} {n : Nat} (hn : n < 1000) {u : Value} (h : VR ρ (dgA n) u) : u = .string ⟨⟨dgs n⟩⟩ := by
  have key : ∀ (s : List UInt8) (k b : Nat), s.length = k → pack s = b → VR ρ (.str k b) u → u = .string ⟨⟨s⟩⟩ := by
    intro s k b h1 h2 h
    obtain ⟨l, rfl, h3, h4⟩ := VR.str_iff.1 h
    rw [pack_inj l s (by omega) (by omega)]
  have e : ∀ d, d < 10 → (UInt8.ofNat (48 + d)).toNat = 48 + d := fun d hd => by simp; omega
  unfold dgA at h
  unfold dgs
  cases h1 : Nat.ble n 9 with
  | true =>
    have h1' := Nat.le_of_ble_eq_true h1
    rw [show Nat.ble n (nat_lit 9) = true from h1, bcase_true] at h
    rw [if_pos (by omega)]
    exact key _ _ _ rfl (by rw [pack_cons, pack_nil, e n (by omega)]; rfl) h
  | false =>
    have h1' : ¬ n ≤ 9 := fun q => by rw [Nat.ble_eq_true_of_le q] at h1; cases h1
    rw [show Nat.ble n (nat_lit 9) = false from h1, bcase_false] at h
    rw [if_neg (by omega)]
    cases h2 : Nat.ble n 99 with
    | true =>
      have h2' := Nat.le_of_ble_eq_true h2
      rw [show Nat.ble n (nat_lit 99) = true from h2, bcase_true] at h
      rw [if_pos (by omega)]
      exact key _ _ _ rfl (by rw [pack_cons, pack_cons, pack_nil, e (n / 10) (by omega), e (n % 10) (by omega)]; rfl) h
    | false =>
      have h2' : ¬ n ≤ 99 := fun q => by rw [Nat.ble_eq_true_of_le q] at h2; cases h2
      rw [show Nat.ble n (nat_lit 99) = false from h2, bcase_false] at h
      rw [if_neg (by omega)]
      exact key _ _ _ rfl (by rw [pack_cons, pack_cons, pack_cons, pack_nil, e (n / 100) (by omega), e (n / 10 % 10) (by omega), e (n % 10) (by omega)]; rfl) h
section
variable {P : Program}
noncomputable def AnswerV (X : FT) (fu : Nat) (k f : Nat) (args : List AV) (h : Heap) (v : AV) : Ans := TIE X fu noO k f args h (fun u _ => bcase (AV.beq u v) .ok .no) (fun _ _ => .no)
theorem run_val (X : FnsOk P) (hmix : P.follows .mixedOrders = true) {n : Nat} {J : Rho → Heap → World → Prop} (B : Base n J)
    (hP : ∀ (f : Nat) (fn : Func) (c : Code), P.funcs[f]? = some fn → fn.body = some c → codeOk P n c = true) {T : FT} (hT : TabOk P T) {fu k f : Nat} {args : List AV} {h : Heap} {v0 : AV} (g : good (AnswerV T fu k f args h v0))
    {ρ : Rho} {args' : Array Value} {w : World} (G : J ρ h w) (S : Sim ρ h w) (A : VRL ρ args args'.toList) :
    Go.Calls P f args' w fun e w' => ∃ u, e = .returned u ∧ ∃ ρ' h', VR ρ' v0 u ∧ Ext ρ h w ρ' h' w' := by
  obtain ⟨m, hm⟩ := TIE_ok (orc := noO) hT k f args h _ _ g
  refine (call_ok (hint := fullH P) X hmix B noOrc hP m f args h _ ρ args' w G hm S A).mono ?_
  rintro e w' ⟨⟨x, h'⟩, ρ', hq, hx, hs, hE⟩
  cases x with
  | pan c => exact (show False from hq).elim
  | ret v =>
    have hq : good (bcase (AV.beq v v0) Ans.ok Ans.no) := hq
    cases hb : AV.beq v v0 with
    | false => rw [hb, bcase_false] at hq; exact hq.elim
    | true =>
      have := AV.beq_eq _ _ hb
      subst this
      cases e <;> first | exact hx.elim | skip
      rename_i u
      exact ⟨u, rfl, ρ', h', hx, hE⟩
noncomputable def allV (f : Nat → Ans) (n : Nat) : Ans := nrec .ok (fun n ih => .and (f n) ih) n
theorem allV_good {f : Nat → Ans} : ∀ {n : Nat}, good (allV f n) → ∀ m, m < n → good (f m)
  | 0, _, m, h => absurd h (by omega)
  | n + 1, g, m, h => by
    have g : good (f n) ∧ good (allV f n) := g
    rcases Nat.lt_or_ge m n with h1 | h1
    · exact allV_good g.2 m h1
    · rw [show m = n by omega]; exact g.1
noncomputable def okV (n : Nat) : Ans := nrec .ok (fun _ ih => .and .ok ih) n
theorem okV_good : ∀ n : Nat, good (okV n)
  | 0 => trivial
  | n + 1 => ⟨trivial, okV_good n⟩

variable {n : Nat} {cnt : Nat → Nat} {l : List (Nat × ABlk)}
noncomputable def orcS (fi fa : Nat) (t : Nat → Option AV) (fr : List Nat) : Orc := fun f a h =>
  bcase (Nat.beq f fi) (match a with | [x] => ocase (itoaA x) none fun v => some (v, h) | _ => none) (orcL fa t fr f a h)
theorem orcS_ok (hn : n ≤ 50) {s : Sl} {W : World} (L : Laid n cnt l s.q W) {fi fa : Nat} {t : Nat → Option AV} {fr : List Nat}
    (hi : ∀ m : Nat, m < 1000 → ∀ w, Laid n cnt l s.q w → Go.Calls P fi #[.int .i64 (m : Int)] w fun e w' => e = .returned (.string ⟨⟨dgs m⟩⟩) ∧ RowKit.Below w.heap.size w w')
    (ho : OrcOk P (JJ n cnt s W) (orcL fa t fr)) : OrcOk P (JJ n cnt s W) (orcS fi fa t fr) := by
  intro f args h ρ args' w v hp e G S A
  unfold orcS at e
  cases hf : Nat.beq f fi with
  | false => rw [hf, bcase_false] at e; exact ho f args h ρ args' w v hp e G S A
  | true =>
    rw [hf, bcase_true] at e
    have hf := Nat.eq_of_beq_eq_true hf
    subst hf
    have hb := G.below
    split at e
    · rename_i x
      obtain ⟨u, us, e0, h0, A⟩ := VRL.cons_iff.1 A
      have e2 := VRL.nil_iff.1 A
      subst e2
      obtain ⟨v9, e9, e⟩ := ocase_some_iff.1 e
      cases e
      obtain ⟨m, rfl, h1, h2⟩ := itoaA_ok e9 h0
      have ea : args' = #[.int .i64 (m : Int)] := by
        cases args' with
        | mk la => have e0 : la = _ := e0; rw [e0]
      subst ea
      refine (hi m h1 w (L.above hb)).mono ?_
      rintro e w' ⟨rfl, b⟩
      exact ⟨_, ρ, rfl, h2, S.above b, Ext.still b⟩
    · cases e
end
end Go.Ev

namespace Go.Ev
open Go

noncomputable def on_int (f : IntKind → Nat → Bool) (u : AV) : Bool := @AV.rec (fun _ => TY Bool) (fun _ => Unit) (fun x0 x1 => f x0 x1) (fun _ => false) (fun _ _ => false) (fun _ _ => false) false (fun _ _ _ _ => false) (fun _ _ _ _ => false) false false (fun _ => false) false (fun _ _ _ _ _ => false) false (fun _ _ _ => false) false (fun _ _ => false) (fun _ _ => false) (fun _ => false) (fun _ _ => false) (fun _ => false) (fun _ _ _ => false) (fun _ _ => false) (fun _ _ _ => false) () (fun _ _ _ _ => ()) u
noncomputable def on_bool (f : Bool → Bool) (u : AV) : Bool := @AV.rec (fun _ => TY Bool) (fun _ => Unit) (fun _ _ => false) (fun x0 => f x0) (fun _ _ => false) (fun _ _ => false) false (fun _ _ _ _ => false) (fun _ _ _ _ => false) false false (fun _ => false) false (fun _ _ _ _ _ => false) false (fun _ _ _ => false) false (fun _ _ => false) (fun _ _ => false) (fun _ => false) (fun _ _ => false) (fun _ => false) (fun _ _ _ => false) (fun _ _ => false) (fun _ _ _ => false) () (fun _ _ _ _ => ()) u
noncomputable def on_str (f : Nat → Nat → Bool) (u : AV) : Bool := @AV.rec (fun _ => TY Bool) (fun _ => Unit) (fun _ _ => false) (fun _ => false) (fun x0 x1 => f x0 x1) (fun _ _ => false) false (fun _ _ _ _ => false) (fun _ _ _ _ => false) false false (fun _ => false) false (fun _ _ _ _ _ => false) false (fun _ _ _ => false) false (fun _ _ => false) (fun _ _ => false) (fun _ => false) (fun _ _ => false) (fun _ => false) (fun _ _ _ => false) (fun _ _ => false) (fun _ _ _ => false) () (fun _ _ _ _ => ()) u
noncomputable def on_ptr (f : Nat → Nat → Bool) (u : AV) : Bool := @AV.rec (fun _ => TY Bool) (fun _ => Unit) (fun _ _ => false) (fun _ => false) (fun _ _ => false) (fun x0 x1 => f x0 x1) false (fun _ _ _ _ => false) (fun _ _ _ _ => false) false false (fun _ => false) false (fun _ _ _ _ _ => false) false (fun _ _ _ => false) false (fun _ _ => false) (fun _ _ => false) (fun _ => false) (fun _ _ => false) (fun _ => false) (fun _ _ _ => false) (fun _ _ => false) (fun _ _ _ => false) () (fun _ _ _ _ => ()) u
noncomputable def on_nilp (f : Bool) (u : AV) : Bool := @AV.rec (fun _ => TY Bool) (fun _ => Unit) (fun _ _ => false) (fun _ => false) (fun _ _ => false) (fun _ _ => false) (f) (fun _ _ _ _ => false) (fun _ _ _ _ => false) false false (fun _ => false) false (fun _ _ _ _ _ => false) false (fun _ _ _ => false) false (fun _ _ => false) (fun _ _ => false) (fun _ => false) (fun _ _ => false) (fun _ => false) (fun _ _ _ => false) (fun _ _ => false) (fun _ _ _ => false) () (fun _ _ _ _ => ()) u
noncomputable def on_slice (f : Nat → Nat → Nat → Nat → Bool) (u : AV) : Bool := @AV.rec (fun _ => TY Bool) (fun _ => Unit) (fun _ _ => false) (fun _ => false) (fun _ _ => false) (fun _ _ => false) false (fun x0 x1 x2 x3 => f x0 x1 x2 x3) (fun _ _ _ _ => false) false false (fun _ => false) false (fun _ _ _ _ _ => false) false (fun _ _ _ => false) false (fun _ _ => false) (fun _ _ => false) (fun _ => false) (fun _ _ => false) (fun _ => false) (fun _ _ _ => false) (fun _ _ => false) (fun _ _ _ => false) () (fun _ _ _ _ => ()) u
noncomputable def on_gslice (f : Nat → Nat → Nat → Nat → Bool) (u : AV) : Bool := @AV.rec (fun _ => TY Bool) (fun _ => Unit) (fun _ _ => false) (fun _ => false) (fun _ _ => false) (fun _ _ => false) false (fun _ _ _ _ => false) (fun x0 x1 x2 x3 => f x0 x1 x2 x3) false false (fun _ => false) false (fun _ _ _ _ _ => false) false (fun _ _ _ => false) false (fun _ _ => false) (fun _ _ => false) (fun _ => false) (fun _ _ => false) (fun _ => false) (fun _ _ _ => false) (fun _ _ => false) (fun _ _ _ => false) () (fun _ _ _ _ => ()) u
noncomputable def on_eslice (f : Bool) (u : AV) : Bool := @AV.rec (fun _ => TY Bool) (fun _ => Unit) (fun _ _ => false) (fun _ => false) (fun _ _ => false) (fun _ _ => false) false (fun _ _ _ _ => false) (fun _ _ _ _ => false) (f) false (fun _ => false) false (fun _ _ _ _ _ => false) false (fun _ _ _ => false) false (fun _ _ => false) (fun _ _ => false) (fun _ => false) (fun _ _ => false) (fun _ => false) (fun _ _ _ => false) (fun _ _ => false) (fun _ _ _ => false) () (fun _ _ _ _ => ()) u
noncomputable def on_nilslice (f : Bool) (u : AV) : Bool := @AV.rec (fun _ => TY Bool) (fun _ => Unit) (fun _ _ => false) (fun _ => false) (fun _ _ => false) (fun _ _ => false) false (fun _ _ _ _ => false) (fun _ _ _ _ => false) false (f) (fun _ => false) false (fun _ _ _ _ _ => false) false (fun _ _ _ => false) false (fun _ _ => false) (fun _ _ => false) (fun _ => false) (fun _ _ => false) (fun _ => false) (fun _ _ _ => false) (fun _ _ => false) (fun _ _ _ => false) () (fun _ _ _ _ => ()) u
noncomputable def on_map (f : Nat → Bool) (u : AV) : Bool := @AV.rec (fun _ => TY Bool) (fun _ => Unit) (fun _ _ => false) (fun _ => false) (fun _ _ => false) (fun _ _ => false) false (fun _ _ _ _ => false) (fun _ _ _ _ => false) false false (fun x0 => f x0) false (fun _ _ _ _ _ => false) false (fun _ _ _ => false) false (fun _ _ => false) (fun _ _ => false) (fun _ => false) (fun _ _ => false) (fun _ => false) (fun _ _ _ => false) (fun _ _ => false) (fun _ _ _ => false) () (fun _ _ _ _ => ()) u
noncomputable def on_nilmap (f : Bool) (u : AV) : Bool := @AV.rec (fun _ => TY Bool) (fun _ => Unit) (fun _ _ => false) (fun _ => false) (fun _ _ => false) (fun _ _ => false) false (fun _ _ _ _ => false) (fun _ _ _ _ => false) false false (fun _ => false) (f) (fun _ _ _ _ _ => false) false (fun _ _ _ => false) false (fun _ _ => false) (fun _ _ => false) (fun _ => false) (fun _ _ => false) (fun _ => false) (fun _ _ _ => false) (fun _ _ => false) (fun _ _ _ => false) () (fun _ _ _ _ => ()) u
noncomputable def on_nilfunc (f : Bool) (u : AV) : Bool := @AV.rec (fun _ => TY Bool) (fun _ => Unit) (fun _ _ => false) (fun _ => false) (fun _ _ => false) (fun _ _ => false) false (fun _ _ _ _ => false) (fun _ _ _ _ => false) false false (fun _ => false) false (fun _ _ _ _ _ => false) (f) (fun _ _ _ => false) false (fun _ _ => false) (fun _ _ => false) (fun _ => false) (fun _ _ => false) (fun _ => false) (fun _ _ _ => false) (fun _ _ => false) (fun _ _ _ => false) () (fun _ _ _ _ => ()) u
noncomputable def on_iface (f : TypeId → AV → Bool) (u : AV) : Bool := @AV.rec (fun _ => TY Bool) (fun _ => Unit) (fun _ _ => false) (fun _ => false) (fun _ _ => false) (fun _ _ => false) false (fun _ _ _ _ => false) (fun _ _ _ _ => false) false false (fun _ => false) false (fun _ _ _ _ _ => false) false (fun x0 x1 _ => f x0 x1) false (fun _ _ => false) (fun _ _ => false) (fun _ => false) (fun _ _ => false) (fun _ => false) (fun _ _ _ => false) (fun _ _ => false) (fun _ _ _ => false) () (fun _ _ _ _ => ()) u
noncomputable def on_niliface (f : Bool) (u : AV) : Bool := @AV.rec (fun _ => TY Bool) (fun _ => Unit) (fun _ _ => false) (fun _ => false) (fun _ _ => false) (fun _ _ => false) false (fun _ _ _ _ => false) (fun _ _ _ _ => false) false false (fun _ => false) false (fun _ _ _ _ _ => false) false (fun _ _ _ => false) (f) (fun _ _ => false) (fun _ _ => false) (fun _ => false) (fun _ _ => false) (fun _ => false) (fun _ _ _ => false) (fun _ _ => false) (fun _ _ _ => false) () (fun _ _ _ _ => ()) u
noncomputable def on_agg (f : List AV → Bool) (u : AV) : Bool := @AV.rec (fun _ => TY Bool) (fun _ => Unit) (fun _ _ => false) (fun _ => false) (fun _ _ => false) (fun _ _ => false) false (fun _ _ _ _ => false) (fun _ _ _ _ => false) false false (fun _ => false) false (fun _ _ _ _ _ => false) false (fun _ _ _ => false) false (fun x0 _ => f x0) (fun _ _ => false) (fun _ => false) (fun _ _ => false) (fun _ => false) (fun _ _ _ => false) (fun _ _ => false) (fun _ _ _ => false) () (fun _ _ _ _ => ()) u
noncomputable def on_tuple (f : List AV → Bool) (u : AV) : Bool := @AV.rec (fun _ => TY Bool) (fun _ => Unit) (fun _ _ => false) (fun _ => false) (fun _ _ => false) (fun _ _ => false) false (fun _ _ _ _ => false) (fun _ _ _ _ => false) false false (fun _ => false) false (fun _ _ _ _ _ => false) false (fun _ _ _ => false) false (fun _ _ => false) (fun x0 _ => f x0) (fun _ => false) (fun _ _ => false) (fun _ => false) (fun _ _ _ => false) (fun _ _ => false) (fun _ _ _ => false) () (fun _ _ _ _ => ()) u
noncomputable def on_oslice (f : Nat → Bool) (u : AV) : Bool := @AV.rec (fun _ => TY Bool) (fun _ => Unit) (fun _ _ => false) (fun _ => false) (fun _ _ => false) (fun _ _ => false) false (fun _ _ _ _ => false) (fun _ _ _ _ => false) false false (fun _ => false) false (fun _ _ _ _ _ => false) false (fun _ _ _ => false) false (fun _ _ => false) (fun _ _ => false) (fun x0 => f x0) (fun _ _ => false) (fun _ => false) (fun _ _ _ => false) (fun _ _ => false) (fun _ _ _ => false) () (fun _ _ _ _ => ()) u
noncomputable def on_imod (f : Nat → Nat → Bool) (u : AV) : Bool := @AV.rec (fun _ => TY Bool) (fun _ => Unit) (fun _ _ => false) (fun _ => false) (fun _ _ => false) (fun _ _ => false) false (fun _ _ _ _ => false) (fun _ _ _ _ => false) false false (fun _ => false) false (fun _ _ _ _ _ => false) false (fun _ _ _ => false) false (fun _ _ => false) (fun _ _ => false) (fun _ => false) (fun x0 x1 => f x0 x1) (fun _ => false) (fun _ _ _ => false) (fun _ _ => false) (fun _ _ _ => false) () (fun _ _ _ _ => ()) u
noncomputable def on_optr (f : Nat → Bool) (u : AV) : Bool := @AV.rec (fun _ => TY Bool) (fun _ => Unit) (fun _ _ => false) (fun _ => false) (fun _ _ => false) (fun _ _ => false) false (fun _ _ _ _ => false) (fun _ _ _ _ => false) false false (fun _ => false) false (fun _ _ _ _ _ => false) false (fun _ _ _ => false) false (fun _ _ => false) (fun _ _ => false) (fun _ => false) (fun _ _ => false) (fun x0 => f x0) (fun _ _ _ => false) (fun _ _ => false) (fun _ _ _ => false) () (fun _ _ _ _ => ()) u
noncomputable def on_sint (f : IntKind → Nat → List Trm → Bool) (u : AV) : Bool := @AV.rec (fun _ => TY Bool) (fun _ => Unit) (fun _ _ => false) (fun _ => false) (fun _ _ => false) (fun _ _ => false) false (fun _ _ _ _ => false) (fun _ _ _ _ => false) false false (fun _ => false) false (fun _ _ _ _ _ => false) false (fun _ _ _ => false) false (fun _ _ => false) (fun _ _ => false) (fun _ => false) (fun _ _ => false) (fun _ => false) (fun x0 x1 x2 => f x0 x1 x2) (fun _ _ => false) (fun _ _ _ => false) () (fun _ _ _ _ => ()) u
noncomputable def on_sstr (f : List AV → Bool) (u : AV) : Bool := @AV.rec (fun _ => TY Bool) (fun _ => Unit) (fun _ _ => false) (fun _ => false) (fun _ _ => false) (fun _ _ => false) false (fun _ _ _ _ => false) (fun _ _ _ _ => false) false false (fun _ => false) false (fun _ _ _ _ _ => false) false (fun _ _ _ => false) false (fun _ _ => false) (fun _ _ => false) (fun _ => false) (fun _ _ => false) (fun _ => false) (fun _ _ _ => false) (fun x0 _ => f x0) (fun _ _ _ => false) () (fun _ _ _ _ => ()) u
noncomputable def on_sneg (f : IntKind → Nat → List Trm → Bool) (u : AV) : Bool := @AV.rec (fun _ => TY Bool) (fun _ => Unit) (fun _ _ => false) (fun _ => false) (fun _ _ => false) (fun _ _ => false) false (fun _ _ _ _ => false) (fun _ _ _ _ => false) false false (fun _ => false) false (fun _ _ _ _ _ => false) false (fun _ _ _ => false) false (fun _ _ => false) (fun _ _ => false) (fun _ => false) (fun _ _ => false) (fun _ => false) (fun _ _ _ => false) (fun _ _ => false) (fun x0 x1 x2 => f x0 x1 x2) () (fun _ _ _ _ => ()) u
noncomputable def vb (a : AV) : AV → Bool := @AV.rec (fun _ => AV → Bool) (fun _ => List AV → Bool)
  (fun x0 x1 u => on_int (fun y0 y1 => (bcase (kbeq x0 y0) (Nat.beq x1 y1) false)) u)
  (fun x0 u => on_bool (fun y0 => (bcase x0 y0 (bcase y0 false true))) u)
  (fun x0 x1 u => on_str (fun y0 y1 => (bcase (Nat.beq x0 y0) (Nat.beq x1 y1) false)) u)
  (fun x0 x1 u => on_ptr (fun y0 y1 => (bcase (Nat.beq x0 y0) (Nat.beq x1 y1) false)) u)
  (fun u => on_nilp true u)
  (fun x0 x1 x2 x3 u => on_slice (fun y0 y1 y2 y3 => (bcase (Nat.beq x0 y0) (bcase (Nat.beq x1 y1) (bcase (Nat.beq x2 y2) (Nat.beq x3 y3) false) false) false)) u)
  (fun x0 x1 x2 x3 u => on_gslice (fun y0 y1 y2 y3 => (bcase (Nat.beq x0 y0) (bcase (Nat.beq x1 y1) (bcase (Nat.beq x2 y2) (Nat.beq x3 y3) false) false) false)) u)
  (fun u => on_eslice true u)
  (fun u => on_nilslice true u)
  (fun x0 u => on_map (fun y0 => (Nat.beq x0 y0)) u)
  (fun u => on_nilmap true u)
  (fun _ _ _ _ _ _ => false)
  (fun u => on_nilfunc true u)
  (fun x0 x1 i u => on_iface (fun y0 y1 => (bcase (Nat.beq x0 y0) (i y1) false)) u)
  (fun u => on_niliface true u)
  (fun x0 i u => on_agg (fun y0 => (i y0)) u)
  (fun x0 i u => on_tuple (fun y0 => (i y0)) u)
  (fun x0 u => on_oslice (fun y0 => (Nat.beq x0 y0)) u)
  (fun x0 x1 u => on_imod (fun y0 y1 => (bcase (Nat.beq x0 y0) (Nat.beq x1 y1) false)) u)
  (fun x0 u => on_optr (fun y0 => (Nat.beq x0 y0)) u)
  (fun x0 x1 x2 u => on_sint (fun y0 y1 y2 => (bcase (kbeq x0 y0) (bcase (Nat.beq x1 y1) (beqT x2 y2) false) false)) u)
  (fun x0 i u => on_sstr (fun y0 => (i y0)) u)
  (fun x0 x1 x2 u => on_sneg (fun y0 y1 y2 => (bcase (kbeq x0 y0) (bcase (Nat.beq x1 y1) (beqT x2 y2) false) false)) u)
  (fun us => lcase us true fun _ _ => false)
  (fun _ _ ia il us => lcase us false fun u us => bcase (ia u) (il us) false) a
noncomputable def vl (l : List AV) : List AV → Bool := @AV.rec_1 (fun _ => AV → Bool) (fun _ => List AV → Bool)
  (fun x0 x1 u => on_int (fun y0 y1 => (bcase (kbeq x0 y0) (Nat.beq x1 y1) false)) u)
  (fun x0 u => on_bool (fun y0 => (bcase x0 y0 (bcase y0 false true))) u)
  (fun x0 x1 u => on_str (fun y0 y1 => (bcase (Nat.beq x0 y0) (Nat.beq x1 y1) false)) u)
  (fun x0 x1 u => on_ptr (fun y0 y1 => (bcase (Nat.beq x0 y0) (Nat.beq x1 y1) false)) u)
  (fun u => on_nilp true u)
  (fun x0 x1 x2 x3 u => on_slice (fun y0 y1 y2 y3 => (bcase (Nat.beq x0 y0) (bcase (Nat.beq x1 y1) (bcase (Nat.beq x2 y2) (Nat.beq x3 y3) false) false) false)) u)
  (fun x0 x1 x2 x3 u => on_gslice (fun y0 y1 y2 y3 => (bcase (Nat.beq x0 y0) (bcase (Nat.beq x1 y1) (bcase (Nat.beq x2 y2) (Nat.beq x3 y3) false) false) false)) u)
  (fun u => on_eslice true u)
  (fun u => on_nilslice true u)
  (fun x0 u => on_map (fun y0 => (Nat.beq x0 y0)) u)
  (fun u => on_nilmap true u)
  (fun _ _ _ _ _ _ => false)
  (fun u => on_nilfunc true u)
  (fun x0 x1 i u => on_iface (fun y0 y1 => (bcase (Nat.beq x0 y0) (i y1) false)) u)
  (fun u => on_niliface true u)
  (fun x0 i u => on_agg (fun y0 => (i y0)) u)
  (fun x0 i u => on_tuple (fun y0 => (i y0)) u)
  (fun x0 u => on_oslice (fun y0 => (Nat.beq x0 y0)) u)
  (fun x0 x1 u => on_imod (fun y0 y1 => (bcase (Nat.beq x0 y0) (Nat.beq x1 y1) false)) u)
  (fun x0 u => on_optr (fun y0 => (Nat.beq x0 y0)) u)
  (fun x0 x1 x2 u => on_sint (fun y0 y1 y2 => (bcase (kbeq x0 y0) (bcase (Nat.beq x1 y1) (beqT x2 y2) false) false)) u)
  (fun x0 i u => on_sstr (fun y0 => (i y0)) u)
  (fun x0 x1 x2 u => on_sneg (fun y0 y1 y2 => (bcase (kbeq x0 y0) (bcase (Nat.beq x1 y1) (beqT x2 y2) false) false)) u)
  (fun us => lcase us true fun _ _ => false)
  (fun _ _ ia il us => lcase us false fun u us => bcase (ia u) (il us) false) l
noncomputable def vbL (l : List AV) : List AV → Bool := lrec (fun us => lcase us true fun _ _ => false) (fun a _ il us => lcase us false fun u us => bcase (vb a u) (il us) false) l
theorem bcase_both {a b : Bool} (h : bcase a b false = true) : a = true ∧ b = true := by
  cases a with
  | true => exact ⟨rfl, h⟩
  | false => exact Bool.noConfusion (show false = true from h)
theorem bool_same {a b : Bool} (h : bcase a b (bcase b false true) = true) : a = b := by
  cases a <;> cases b <;> first | rfl | exact Bool.noConfusion (show false = true from h)
mutual
theorem vb_eq : ∀ (a u : AV), vb a u = true → a = u
  | .int x0 x1, u, h => by
    cases u <;> first | exact Bool.noConfusion (show false = true from h) | skip
    rename_i y0 y1
    have h : (bcase (kbeq x0 y0) (Nat.beq x1 y1) false) = true := h
    obtain ⟨h0, h⟩ := bcase_both h
    have h1 := h
    have e0 := kcode_inj h0
    have e1 := Nat.eq_of_beq_eq_true h1
    rw [e0, e1]
  | .bool x0, u, h => by
    cases u <;> first | exact Bool.noConfusion (show false = true from h) | skip
    rename_i y0
    have h : (bcase x0 y0 (bcase y0 false true)) = true := h
    have h0 := h
    have e0 := bool_same h0
    rw [e0]
  | .str x0 x1, u, h => by
    cases u <;> first | exact Bool.noConfusion (show false = true from h) | skip
    rename_i y0 y1
    have h : (bcase (Nat.beq x0 y0) (Nat.beq x1 y1) false) = true := h
    obtain ⟨h0, h⟩ := bcase_both h
    have h1 := h
    have e0 := Nat.eq_of_beq_eq_true h0
    have e1 := Nat.eq_of_beq_eq_true h1
    rw [e0, e1]
  | .ptr x0 x1, u, h => by
    cases u <;> first | exact Bool.noConfusion (show false = true from h) | skip
    rename_i y0 y1
    have h : (bcase (Nat.beq x0 y0) (Nat.beq x1 y1) false) = true := h
    obtain ⟨h0, h⟩ := bcase_both h
    have h1 := h
    have e0 := Nat.eq_of_beq_eq_true h0
    have e1 := Nat.eq_of_beq_eq_true h1
    rw [e0, e1]
  | .nilp, u, h => by cases u <;> first | rfl | exact Bool.noConfusion (show false = true from h)
  | .slice x0 x1 x2 x3, u, h => by
    cases u <;> first | exact Bool.noConfusion (show false = true from h) | skip
    rename_i y0 y1 y2 y3
    have h : (bcase (Nat.beq x0 y0) (bcase (Nat.beq x1 y1) (bcase (Nat.beq x2 y2) (Nat.beq x3 y3) false) false) false) = true := h
    obtain ⟨h0, h⟩ := bcase_both h
    obtain ⟨h1, h⟩ := bcase_both h
    obtain ⟨h2, h⟩ := bcase_both h
    have h3 := h
    have e0 := Nat.eq_of_beq_eq_true h0
    have e1 := Nat.eq_of_beq_eq_true h1
    have e2 := Nat.eq_of_beq_eq_true h2
    have e3 := Nat.eq_of_beq_eq_true h3
    rw [e0, e1, e2, e3]
  | .gslice x0 x1 x2 x3, u, h => by
    cases u <;> first | exact Bool.noConfusion (show false = true from h) | skip
    rename_i y0 y1 y2 y3
    have h : (bcase (Nat.beq x0 y0) (bcase (Nat.beq x1 y1) (bcase (Nat.beq x2 y2) (Nat.beq x3 y3) false) false) false) = true := h
    obtain ⟨h0, h⟩ := bcase_both h
    obtain ⟨h1, h⟩ := bcase_both h
    obtain ⟨h2, h⟩ := bcase_both h
    have h3 := h
    have e0 := Nat.eq_of_beq_eq_true h0
    have e1 := Nat.eq_of_beq_eq_true h1
    have e2 := Nat.eq_of_beq_eq_true h2
    have e3 := Nat.eq_of_beq_eq_true h3
    rw [e0, e1, e2, e3]
  | .eslice, u, h => by cases u <;> first | rfl | exact Bool.noConfusion (show false = true from h)
  | .nilslice, u, h => by cases u <;> first | rfl | exact Bool.noConfusion (show false = true from h)
  | .map x0, u, h => by
    cases u <;> first | exact Bool.noConfusion (show false = true from h) | skip
    rename_i y0
    have h : (Nat.beq x0 y0) = true := h
    have h0 := h
    have e0 := Nat.eq_of_beq_eq_true h0
    rw [e0]
  | .nilmap, u, h => by cases u <;> first | rfl | exact Bool.noConfusion (show false = true from h)
  | .func _ _ _, u, h => Bool.noConfusion (show false = true from h)
  | .nilfunc, u, h => by cases u <;> first | rfl | exact Bool.noConfusion (show false = true from h)
  | .iface x0 x1, u, h => by
    cases u <;> first | exact Bool.noConfusion (show false = true from h) | skip
    rename_i y0 y1
    have h : (bcase (Nat.beq x0 y0) (vb x1 y1) false) = true := h
    obtain ⟨h0, h⟩ := bcase_both h
    have h1 := h
    have e0 := Nat.eq_of_beq_eq_true h0
    have e1 := vb_eq _ _ h1
    rw [e0, e1]
  | .niliface, u, h => by cases u <;> first | rfl | exact Bool.noConfusion (show false = true from h)
  | .agg x0, u, h => by
    cases u <;> first | exact Bool.noConfusion (show false = true from h) | skip
    rename_i y0
    have h : (vl x0 y0) = true := h
    have h0 := h
    have e0 := vl_eq _ _ h0
    rw [e0]
  | .tuple x0, u, h => by
    cases u <;> first | exact Bool.noConfusion (show false = true from h) | skip
    rename_i y0
    have h : (vl x0 y0) = true := h
    have h0 := h
    have e0 := vl_eq _ _ h0
    rw [e0]
  | .oslice x0, u, h => by
    cases u <;> first | exact Bool.noConfusion (show false = true from h) | skip
    rename_i y0
    have h : (Nat.beq x0 y0) = true := h
    have h0 := h
    have e0 := Nat.eq_of_beq_eq_true h0
    rw [e0]
  | .imod x0 x1, u, h => by
    cases u <;> first | exact Bool.noConfusion (show false = true from h) | skip
    rename_i y0 y1
    have h : (bcase (Nat.beq x0 y0) (Nat.beq x1 y1) false) = true := h
    obtain ⟨h0, h⟩ := bcase_both h
    have h1 := h
    have e0 := Nat.eq_of_beq_eq_true h0
    have e1 := Nat.eq_of_beq_eq_true h1
    rw [e0, e1]
  | .optr x0, u, h => by
    cases u <;> first | exact Bool.noConfusion (show false = true from h) | skip
    rename_i y0
    have h : (Nat.beq x0 y0) = true := h
    have h0 := h
    have e0 := Nat.eq_of_beq_eq_true h0
    rw [e0]
  | .sint x0 x1 x2, u, h => by
    cases u <;> first | exact Bool.noConfusion (show false = true from h) | skip
    rename_i y0 y1 y2
    have h : (bcase (kbeq x0 y0) (bcase (Nat.beq x1 y1) (beqT x2 y2) false) false) = true := h
    obtain ⟨h0, h⟩ := bcase_both h
    obtain ⟨h1, h⟩ := bcase_both h
    have h2 := h
    have e0 := kcode_inj h0
    have e1 := Nat.eq_of_beq_eq_true h1
    have e2 := beqT_eq _ _ h2
    rw [e0, e1, e2]
  | .sstr x0, u, h => by
    cases u <;> first | exact Bool.noConfusion (show false = true from h) | skip
    rename_i y0
    have h : (vl x0 y0) = true := h
    have h0 := h
    have e0 := vl_eq _ _ h0
    rw [e0]
  | .sneg x0 x1 x2, u, h => by
    cases u <;> first | exact Bool.noConfusion (show false = true from h) | skip
    rename_i y0 y1 y2
    have h : (bcase (kbeq x0 y0) (bcase (Nat.beq x1 y1) (beqT x2 y2) false) false) = true := h
    obtain ⟨h0, h⟩ := bcase_both h
    obtain ⟨h1, h⟩ := bcase_both h
    have h2 := h
    have e0 := kcode_inj h0
    have e1 := Nat.eq_of_beq_eq_true h1
    have e2 := beqT_eq _ _ h2
    rw [e0, e1, e2]
theorem vl_eq : ∀ (a u : List AV), vl a u = true → a = u
  | [], u, h => by
    cases u with
    | nil => rfl
    | cons b u => exact Bool.noConfusion (show false = true from h)
  | a :: l, u, h => by
    cases u with
    | nil => exact Bool.noConfusion (show false = true from h)
    | cons b u =>
      have h : bcase (vb a b) (vl l u) false = true := h
      obtain ⟨h1, h2⟩ := bcase_both h
      rw [vb_eq _ _ h1, vl_eq _ _ h2]
end
theorem vbL_eq : ∀ (a u : List AV), vbL a u = true → a = u
  | [], u, h => by
    cases u with
    | nil => rfl
    | cons b u => exact Bool.noConfusion (show false = true from h)
  | a :: l, u, h => by
    cases u with
    | nil => exact Bool.noConfusion (show false = true from h)
    | cons b u =>
      have h : bcase (vb a b) (vbL l u) false = true := h
      obtain ⟨h1, h2⟩ := bcase_both h
      rw [vb_eq _ _ h1, vbL_eq _ _ h2]
noncomputable def ob (v v' : Option AV) : Bool := ocase v (ocase v' true fun _ => false) fun a => ocase v' false fun b => vb a b
theorem ob_eq {v v' : Option AV} (h : ob v v' = true) : v = v' := by
  cases v <;> cases v' <;> first | rfl | exact Bool.noConfusion (show false = true from h) | skip
  rw [vb_eq _ _ h]
noncomputable def tb (t : T AV) : T AV → Bool := @T.rec AV (fun _ => T AV → Bool) (fun u => @T.rec AV (fun _ => TY Bool) true (fun _ _ _ _ _ => false) u)
  (fun v _ _ il ir u => @T.rec AV (fun _ => TY Bool) false (fun v' l' r' _ _ => bcase (ob v v') (bcase (il l') (ir r') false) false) u) t
theorem tb_eq : ∀ (t u : T AV), tb t u = true → t = u
  | .e, u, h => by
    cases u with
    | e => rfl
    | n v l r => exact Bool.noConfusion (show false = true from h)
  | .n v l r, u, h => by
    cases u with
    | e => exact Bool.noConfusion (show false = true from h)
    | n v' l' r' =>
      have h : bcase (ob v v') (bcase (tb l l') (tb r r') false) false = true := h
      obtain ⟨h1, h⟩ := bcase_both h
      obtain ⟨h2, h3⟩ := bcase_both h
      rw [ob_eq h1, tb_eq _ _ h2, tb_eq _ _ h3]
noncomputable def kk (k : BK) : Nat := @BK.rec (fun _ => TY Nat) (nat_lit 0) (nat_lit 1) (nat_lit 2) (nat_lit 3) k
theorem kk_inj {a b : BK} (h : Nat.beq (kk a) (kk b) = true) : a = b := by
  cases a <;> cases b <;> first | rfl | exact Bool.noConfusion (show false = true from h)
noncomputable def onB (x : ABlk) (f : T AV → Nat → TypeId → BK → Bool) : Bool := @ABlk.rec (fun _ => TY Bool) (fun c n t k => f c n t k) (fun _ _ => false) (fun _ _ _ => false) (fun _ _ _ _ => false) (fun _ _ => false) x
theorem onB_some {x : ABlk} {f : T AV → Nat → TypeId → BK → Bool} (h : onB x f = true) : ∃ c n t k, x = .cells c n t k ∧ f c n t k = true := by
  cases x with
  | cells c n t k => exact ⟨c, n, t, k, rfl, h⟩
  | _ => exact Bool.noConfusion (show false = true from h)
noncomputable def sameC (p x : ABlk) : Bool := onB p fun c n t _ => onB x fun c' n' t' _ => bcase (Nat.beq n n') (bcase (Nat.beq t t') (tb c c') false) false
theorem sameC_eq {p x : ABlk} (h : sameC p x = true) : ∃ c n t k k', p = .cells c n t k ∧ x = .cells c n t k' := by
  obtain ⟨c, n, t, k, rfl, h⟩ := onB_some h
  obtain ⟨c', n', t', k', rfl, h⟩ := onB_some (x := x) h
  obtain ⟨h1, h⟩ := bcase_both h
  obtain ⟨h2, h3⟩ := bcase_both h
  rw [Nat.eq_of_beq_eq_true h1, Nat.eq_of_beq_eq_true h2, tb_eq _ _ h3]
  exact ⟨_, _, _, _, _, rfl, rfl⟩
noncomputable def sameBK (p x : ABlk) : Bool := onB p fun c n t k => onB x fun c' n' t' k' => bcase (Nat.beq (kk k) (kk k')) (bcase (Nat.beq n n') (bcase (Nat.beq t t') (tb c c') false) false) false
theorem sameBK_eq {p x : ABlk} (h : sameBK p x = true) : p = x := by
  obtain ⟨c, n, t, k, rfl, h⟩ := onB_some h
  obtain ⟨c', n', t', k', rfl, h⟩ := onB_some (x := x) h
  obtain ⟨h0, h⟩ := bcase_both h
  obtain ⟨h1, h⟩ := bcase_both h
  obtain ⟨h2, h3⟩ := bcase_both h
  rw [Nat.eq_of_beq_eq_true h1, Nat.eq_of_beq_eq_true h2, tb_eq _ _ h3, kk_inj h0]
noncomputable def allIn (s : ABlk → ABlk → Bool) (h : Heap) (l : List (Nat × ABlk)) : Bool := lrec true (fun p _ ih => ocase (h.get p.1) false fun x => bcase (s p.2 x) ih false) l
theorem allIn_ok {s : ABlk → ABlk → Bool} {h : Heap} : ∀ {l : List (Nat × ABlk)}, allIn s h l = true → ∀ p ∈ l, ∃ x, h.get p.1 = some x ∧ s p.2 x = true
  | [], _, p, hp => by cases hp
  | q :: l, e, p, hp => by
    have e : ocase (h.get q.1) false (fun x => bcase (s q.2 x) (allIn s h l) false) = true := e
    cases hx : h.get q.1 with
    | none => rw [hx, ocase_none] at e; cases e
    | some x =>
      rw [hx, ocase_some] at e
      obtain ⟨h1, h2⟩ := bcase_both e
      rcases List.mem_cons.1 hp with rfl | hp
      · exact ⟨x, hx, h1⟩
      · exact allIn_ok h2 p hp
noncomputable def anyB (_ _ : ABlk) : Bool := true
noncomputable def allRg (l : List (Nat × ABlk)) : Bool := lrec true (fun p _ ih => onB p.2 fun _ _ _ k => bcase (Nat.beq (kk k) (nat_lit 3)) ih false) l
theorem allRg_ok : ∀ {l : List (Nat × ABlk)}, allRg l = true → ∀ p ∈ l, ∃ c n t, p.2 = .cells c n t .rg
  | [], _, p, hp => by cases hp
  | q :: l, e, p, hp => by
    have e : onB q.2 (fun _ _ _ k => bcase (Nat.beq (kk k) 3) (allRg l) false) = true := e
    obtain ⟨c, n, t, k, h1, h⟩ := onB_some e
    obtain ⟨h2, h3⟩ := bcase_both h
    rcases List.mem_cons.1 hp with rfl | hp
    · exact ⟨c, n, t, by rw [h1, kk_inj (b := .rg) h2]⟩
    · exact allRg_ok h3 p hp
noncomputable def allFrom (m : Nat) (l : List (Nat × ABlk)) : Bool := lrec true (fun p _ ih => bcase (Nat.ble m p.1) ih false) l
theorem allFrom_ok {m : Nat} : ∀ {l : List (Nat × ABlk)}, allFrom m l = true → ∀ p ∈ l, m ≤ p.1
  | [], _, p, hp => by cases hp
  | q :: l, e, p, hp => by
    have e : bcase (Nat.ble m q.1) (allFrom m l) false = true := e
    obtain ⟨h1, h2⟩ := bcase_both e
    rcases List.mem_cons.1 hp with rfl | hp
    · exact Nat.le_of_ble_eq_true h1
    · exact allFrom_ok h2 p hp

noncomputable def hListN (m : Nat) (l : List (Nat × ABlk)) : Heap := l.foldr (fun p h => h.set p.1 (some p.2)) ⟨m, .e⟩
theorem hListN_next {m : Nat} : ∀ l : List (Nat × ABlk), (hListN m l).next = m
  | [] => rfl
  | p :: l => hListN_next l
theorem hListN_get {m : Nat} : ∀ {l : List (Nat × ABlk)} {b : Nat} {x : ABlk}, (hListN m l).get b = some x → (b, x) ∈ l
  | [], b, x, h => by
    have h : T.get (digs b) .e = some x := h
    rw [T.get_e] at h; cases h
  | p :: l, b, x, h => by
    have h : ((hListN m l).set p.1 (some p.2)).get b = some x := h
    rw [Heap.get_set] at h
    by_cases e : b = p.1
    · rw [if_pos e] at h
      cases h
      subst e
      exact List.mem_cons_self ..
    · rw [if_neg e] at h
      exact List.mem_cons_of_mem _ (hListN_get h)
noncomputable def outT (nb : List (Nat × ABlk)) (t : T ABlk) : T ABlk := lrec t (fun p _ ih => T.set (digs p.1) ih (some p.2)) nb
theorem outT_get {m : Nat} {t : T ABlk} : ∀ {nb : List (Nat × ABlk)} {b : Nat} {x : ABlk}, (Heap.mk m (outT nb t)).get b = some x → (b, x) ∈ nb ∨ T.get (digs b) t = some x
  | [], b, x, h => .inr h
  | p :: l, b, x, h => by
    have h : ((Heap.mk m (outT l t)).set p.1 (some p.2)).get b = some x := h
    rw [Heap.get_set] at h
    by_cases e : b = p.1
    · rw [if_pos e] at h
      cases h
      subst e
      exact .inl (List.mem_cons_self ..)
    · rw [if_neg e] at h
      rcases outT_get h with h | h
      · exact .inl (List.mem_cons_of_mem _ h)
      · exact .inr h
section
variable {P : Program} {n : Nat} {cnt : Nat → Nat} {l : List (Nat × ABlk)}
theorem part_calm {s : Sl} {W : World} (L : Laid n cnt l s.q W) {hp : List (Nat × ABlk)} (hk : allRg hp = true) (m : Nat) : Calm (hListN m (l ++ hp)) := fun b x hx => by
  rcases List.mem_append.1 (hListN_get hx) with h | h
  · exact (L _ h).2.1
  · obtain ⟨c, n, t, e⟩ := allRg_ok hk _ h
    have e : x = .cells c n t .rg := e
    rw [e]; rfl
theorem part_sim {s : Sl} {W : World} (L : Laid n cnt l s.q W) (hn : n ≤ 50) {ρ : Rho} {h : Heap} {w : World} (G : JJ n cnt s W ρ h w) (S : Sim ρ h w) {hp : List (Nat × ABlk)} (hk : allRg hp = true) (hs : allIn anyB h l = true) (hb : allIn sameC h hp = true) :
    Sim ρ (hListN h.next (l ++ hp)) w := by
  have there : ∀ b x, (hListN h.next (l ++ hp)).get b = some x → ∃ y, h.get b = some y := fun b x hx => by
    rcases List.mem_append.1 (hListN_get hx) with h1 | h1
    · obtain ⟨y, h2, _⟩ := allIn_ok hs _ h1; exact ⟨y, h2⟩
    · obtain ⟨y, h2, _⟩ := allIn_ok hb _ h1; exact ⟨y, h2⟩
  refine ⟨fun b x hx => ?_, fun b b' x x' r c c' h1 h2 h3 h4 => ?_, fun b hb => S.fresh b (by rw [hListN_next] at hb; exact hb)⟩
  · rcases List.mem_append.1 (hListN_get hx) with h1 | h1
    · obtain ⟨g1, _, o, g3, g4⟩ := (L.above G.below) _ h1
      exact ⟨b, cnt b, o, G.le _ _ (if_pos g1), g3, g4 ρ (G.le 52 _ (by unfold rho0; rw [if_neg (by omega), if_neg (by omega), if_neg (by omega), if_pos rfl]))⟩
    · obtain ⟨c, m, t, e⟩ := allRg_ok hk _ h1
      have e : x = .cells c m t .rg := e
      obtain ⟨y, h2, h3⟩ := allIn_ok hb _ h1
      obtain ⟨c1, n1, t1, k, k', e1, e2⟩ := sameC_eq h3
      have e1 : x = .cells c1 n1 t1 k := e1
      rw [e] at e1
      cases e1
      subst e2
      obtain ⟨r, d, o, g1, g2, arr, lo, hi, g3, g4, g5, g6, g7, g8, g9⟩ := S.blk b _ h2
      exact ⟨r, d, o, g1, g2, by rw [e]; exact ⟨arr, lo, hi, g3, g4, g5, g6, fun q => Bool.noConfusion (show false = true from q), g8, g9⟩⟩
  · obtain ⟨y, h5⟩ := there _ _ h1
    obtain ⟨y', h6⟩ := there _ _ h2
    exact S.inj b b' y y' r c c' h5 h6 h3 h4
theorem Sim.grow {ρ ρ' : Rho} {h hH h' : Heap} {w w' : World} (S : Sim ρ h w) (SH : Sim ρ hH w) (hc : Calm hH) (hn : hH.next = h.next) (s' : Sim ρ' h' w') (E : Ext ρ hH w ρ' h' w') {nb : List (Nat × ABlk)}
    (hf : ∀ p ∈ nb, h.next ≤ p.1) (hg : ∀ p ∈ nb, h'.get p.1 = some p.2) {m : Nat} (hm : h'.next ≤ m) : Sim ρ' ⟨m, outT nb h.bl⟩ w' ∧ Ext ρ h w ρ' ⟨m, outT nb h.bl⟩ w' := by
  have B := E.below hc
  have get : ∀ {b y}, (Heap.mk m (outT nb h.bl)).get b = some y → (b, y) ∈ nb ∨ h.get b = some y := fun h => outT_get h
  have wrn : ∀ {b y}, (b, y) ∈ nb → wr y = true := fun {b y} hb => by
    rcases E.dom b y (hg _ hb) with ⟨x0, h0, _⟩ | ⟨_, h0⟩
    · have h1 := SH.lt h0
      have h2 := hf _ hb
      have h2 : h.next ≤ b := h2
      omega
    · exact h0
  have far : ∀ {b y r c}, (b, y) ∈ nb → ρ' b = some (r, c) → w.heap.size ≤ r := fun {b y r c} hb hr => by
    rcases Nat.lt_or_ge r w.heap.size with h1 | h1
    · obtain ⟨b0, x0, c0, k1, k2, _⟩ := E.img b y r c (hg _ hb) (wrn hb) hr h1
      rw [hc _ _ k1] at k2; cases k2
    · exact h1
  have keep : ∀ {b y}, h.get b = some y → ρ' b = ρ b := fun hb => E.old _ (by have := S.lt hb; omega)
  refine ⟨⟨fun b y hb => ?_, fun b b' y y' r c c' h1 h2 h3 h4 => ?_, fun b hb => s'.fresh b (Nat.le_trans hm hb)⟩, ⟨E.le, fun b hb => E.old b (by omega), by have := E.next; show h.next ≤ m; omega, E.size, fun r hr _ => B.block r hr, fun b y r c hb hw hρ hr => ?_, E.os, E.tape, E.output, fun b y hb => ?_⟩⟩
  · rcases get hb with h1 | h1
    · exact s'.blk b y (hg _ h1)
    · obtain ⟨r, c, o, k1, k2, k3⟩ := S.blk b y h1
      exact ⟨r, c, o, E.le _ _ k1, by rw [B.block r (S.img_lt h1 k1)]; exact k2, k3.mono E.le⟩
  · rcases get h1 with g1 | g1 <;> rcases get h2 with g2 | g2
    · exact s'.inj b b' y y' r c c' (hg _ g1) (hg _ g2) h3 h4
    · rw [keep g2] at h4
      have := far g1 h3
      have := S.img_lt g2 h4
      omega
    · rw [keep g1] at h3
      have := far g2 h4
      have := S.img_lt g1 h3
      omega
    · rw [keep g1] at h3
      rw [keep g2] at h4
      exact S.inj b b' y y' r c c' g1 g2 h3 h4
  · rcases get hb with h1 | h1
    · have := far h1 hρ; omega
    · rw [keep h1] at hρ
      exact ⟨b, y, c, h1, hw, hρ⟩
  · rcases get hb with h1 | h1
    · exact .inr ⟨hf _ h1, wrn h1⟩
    · exact .inl ⟨y, h1, rfl⟩

structure Ent where
  f : Nat
  a : List AV
  n0 : Nat
  hp : List (Nat × ABlk)
  v : AV
  nb : List (Nat × ABlk)
  n1 : Nat
noncomputable def orcE (e : Ent) (l : List (Nat × ABlk)) (rest : Orc) : Orc := fun f a h =>
  bcase (Nat.beq f e.f) (bcase (bcase (Nat.beq h.next e.n0) (bcase (vbL e.a a) (bcase (allIn anyB h l) (allIn sameC h e.hp) false) false) false) (some (e.v, ⟨e.n1, outT e.nb h.bl⟩)) (rest f a h)) (rest f a h)
noncomputable def chkE (v0 : AV) (nb : List (Nat × ABlk)) (n1 : Nat) (v : AV) (h : Heap) : Ans := bcase (vb v0 v) (bcase (Nat.ble h.next n1) (bcase (allIn sameBK h nb) .ok .no) .no) .no
noncomputable def EAns (X : FT) (fu : Nat) (orc : Orc) (k : Nat) (f : Nat) (a : List AV) (h : Heap) (v : AV) (nb : List (Nat × ABlk)) (n1 : Nat) : Ans := TIE X fu orc k f a h (chkE v nb n1) (fun _ _ => .no)
theorem ent_ok (X : FnsOk P) (hmix : P.follows .mixedOrders = true) (hn : n ≤ 50) (hP : ∀ (f : Nat) (fn : Func) (c : Code), P.funcs[f]? = some fn → fn.body = some c → codeOk P n c = true)
    {T : FT} (hT : TabOk P T) {fu k : Nat} {s : Sl} {W : World} (L : Laid n cnt l s.q W) {o1 o2 : Orc} (O1 : OrcOk P (JJ n cnt s W) o1) (O2 : OrcOk P (JJ n cnt s W) o2) (e : Ent) (hk : allRg e.hp = true) (hf : allFrom e.n0 e.nb = true)
    (g : good (EAns T fu o1 k e.f e.a (hListN e.n0 (l ++ e.hp)) e.v e.nb e.n1)) : OrcOk P (JJ n cnt s W) (orcE e l o2) := by
  intro f args h ρ args' w v h1 q G S A
  unfold orcE at q
  cases c1 : Nat.beq f e.f with
  | false => rw [c1, bcase_false] at q; exact O2 f args h ρ args' w v h1 q G S A
  | true =>
    rw [c1, bcase_true] at q
    cases c2 : bcase (Nat.beq h.next e.n0) (bcase (vbL e.a args) (bcase (allIn anyB h l) (allIn sameC h e.hp) false) false) false with
    | false => rw [c2, bcase_false] at q; exact O2 f args h ρ args' w v h1 q G S A
    | true =>
      rw [c2, bcase_true] at q
      cases q
      obtain ⟨d1, c2⟩ := bcase_both c2
      obtain ⟨d2, c2⟩ := bcase_both c2
      obtain ⟨d3, d4⟩ := bcase_both c2
      have d1 := Nat.eq_of_beq_eq_true d1
      have c1 := Nat.eq_of_beq_eq_true c1
      have d2 := vbL_eq _ _ d2
      subst c1
      subst d2
      rw [← d1] at g hf
      have SH := part_sim L hn G S hk d3 d4
      have CH := part_calm (hp := e.hp) L hk h.next
      have GH : JJ n cnt s W ρ (hListN h.next (l ++ e.hp)) w := ⟨G.le, G.below, fun b x r c hx hw _ => absurd hw (by rw [CH b x hx]; decide)⟩
      obtain ⟨m, hm⟩ := TIE_ok (orc := o1) hT k e.f e.a _ _ _ g
      refine (call_ok (hint := fullH P) X hmix (JJ.base s W) O1 hP m e.f e.a _ _ ρ args' w GH hm SH A).mono ?_
      rintro e' w' ⟨⟨x, h'⟩, ρ', hq, hx, hs, hE⟩
      cases x with
      | pan c => exact (show False from hq).elim
      | ret u =>
        have hq : good (bcase (vb e.v u) (bcase (Nat.ble h'.next e.n1) (bcase (allIn sameBK h' e.nb) Ans.ok .no) .no) .no) := hq
        obtain ⟨k1, hq⟩ := good_bc hq
        obtain ⟨k2, hq⟩ := good_bc hq
        obtain ⟨k3, hq⟩ := good_bc hq
        have k1 := vb_eq _ _ k1
        have k2 := Nat.le_of_ble_eq_true k2
        subst k1
        cases e' <;> first | exact hx.elim | skip
        rename_i y
        have := S.grow SH CH (hListN_next _) hs hE (nb := e.nb) (allFrom_ok hf) (fun p hp => by
          obtain ⟨x, g1, g2⟩ := allIn_ok k3 p hp
          rw [g1, sameBK_eq g2]) k2
        exact ⟨y, ρ', rfl, hx, this.1, this.2⟩
end
end Go.Ev

namespace Go.Ev
open Go

mutual
def plain : AV → Bool
  | .int _ _ => true
  | .bool _ => true
  | .str _ _ => true
  | .nilp => true
  | .nilslice => true
  | .agg l => plainL l
  | _ => false
def plainL : List AV → Bool
  | [] => true
  | a :: l => plain a && plainL l
end
mutual
theorem VR.plain {ρ ρ' : Rho} : ∀ (a : AV) (v : Value), plain a = true → VR ρ a v → VR ρ' a v
  | .int _ _, v, _, h => by simpa only [VR] using h
  | .bool _, v, _, h => by simpa only [VR] using h
  | .str _ _, v, _, h => by simpa only [VR] using h
  | .nilp, v, _, h => by simpa only [VR] using h
  | .nilslice, v, _, h => by simpa only [VR] using h
  | .agg l, v, p, h => by
    simp only [VR] at h ⊢
    obtain ⟨a, h1, h2⟩ := h
    exact ⟨a, h1, VRL.plain l _ (by simpa only [Ev.plain] using p) h2⟩
  | .ptr _ _, _, p, _ => by simp [Ev.plain] at p
  | .slice _ _ _ _, _, p, _ => by simp [Ev.plain] at p
  | .gslice _ _ _ _, _, p, _ => by simp [Ev.plain] at p
  | .eslice, _, p, _ => by simp [Ev.plain] at p
  | .map _, _, p, _ => by simp [Ev.plain] at p
  | .nilmap, _, p, _ => by simp [Ev.plain] at p
  | .func _ _ _, _, p, _ => by simp [Ev.plain] at p
  | .nilfunc, _, p, _ => by simp [Ev.plain] at p
  | .iface _ _, _, p, _ => by simp [Ev.plain] at p
  | .niliface, _, p, _ => by simp [Ev.plain] at p
  | .tuple _, _, p, _ => by simp [Ev.plain] at p
  | .oslice _, _, p, _ => by simp [Ev.plain] at p
  | .imod _ _, _, p, _ => by simp [Ev.plain] at p
  | .optr _, _, p, _ => by simp [Ev.plain] at p
  | .sint _ _ _, _, p, _ => by simp [Ev.plain] at p
  | .sstr _, _, p, _ => by simp [Ev.plain] at p
  | .sneg _ _ _, _, p, _ => by simp [Ev.plain] at p
theorem VRL.plain {ρ ρ' : Rho} : ∀ (a : List AV) (v : List Value), plainL a = true → VRL ρ a v → VRL ρ' a v
  | [], v, _, h => by simpa only [VRL] using h
  | a :: l, v, p, h => by
    simp only [VRL] at h ⊢
    have p : (Ev.plain a && plainL l) = true := by simpa only [plainL] using p
    obtain ⟨p1, p2⟩ := Bool.and_eq_true_iff.1 p
    obtain ⟨x, xs, h1, h2, h3⟩ := h
    exact ⟨x, xs, h1, VR.plain a _ p1 h2, VRL.plain l _ p2 h3⟩
end
section
variable {P : Program} {n : Nat} {cnt : Nat → Nat} {l : List (Nat × ABlk)}
noncomputable def findP (a : List AV) (tbl : List (List AV × Nat)) : Option Nat := lrec none (fun p _ ih => bcase (vbL p.1 a) (some p.2) ih) tbl
theorem findP_some {a : List AV} {m : Nat} : ∀ {tbl : List (List AV × Nat)}, findP a tbl = some m → (a, m) ∈ tbl
  | [], h => by cases h
  | p :: tbl, h => by
    have h : bcase (vbL p.1 a) (some p.2) (findP a tbl) = some m := h
    cases hb : vbL p.1 a with
    | true =>
      rw [hb, bcase_true] at h
      cases h
      rw [← vbL_eq _ _ hb]
      exact List.mem_cons_self ..
    | false =>
      rw [hb, bcase_false] at h
      exact List.mem_cons_of_mem _ (findP_some h)
noncomputable def orcP (f0 : Nat) (tbl : List (List AV × Nat)) (rest : Orc) : Orc := fun f a h =>
  bcase (Nat.beq f f0) (ocase (findP a tbl) (rest f a h) fun m => some (.int .i64 m, h)) (rest f a h)
noncomputable def PAns (X : FT) (fu k f : Nat) (tbl : List (List AV × Nat)) (h : Heap) : Ans := lrec .ok (fun p _ ih => .and (AnswerV X fu k f p.1 h (.int .i64 p.2)) ih) tbl
theorem PAns_good {X : FT} {fu k f : Nat} {h : Heap} : ∀ {tbl : List (List AV × Nat)}, good (PAns X fu k f tbl h) → ∀ p ∈ tbl, good (AnswerV X fu k f p.1 h (.int .i64 p.2))
  | [], _, p, hp => by cases hp
  | q :: tbl, g, p, hp => by
    have g : good (AnswerV X fu k f q.1 h (.int .i64 q.2)) ∧ good (PAns X fu k f tbl h) := g
    rcases List.mem_cons.1 hp with rfl | hp
    · exact g.1
    · exact PAns_good g.2 p hp
def plainT (tbl : List (List AV × Nat)) : Bool := tbl.all fun p => plainL p.1
theorem pure_ok (X : FnsOk P) (hmix : P.follows .mixedOrders = true) (hn : n ≤ 50) (hP : ∀ (f : Nat) (fn : Func) (c : Code), P.funcs[f]? = some fn → fn.body = some c → codeOk P n c = true)
    {T : FT} (hT : TabOk P T) {fu k : Nat} {s : Sl} {W : World} (L : Laid n cnt l s.q W) {o : Orc} (O : OrcOk P (JJ n cnt s W) o) (f0 : Nat) (tbl : List (List AV × Nat)) (hp : plainT tbl = true)
    (g : good (PAns T fu k f0 tbl (hList l))) : OrcOk P (JJ n cnt s W) (orcP f0 tbl o) := by
  intro f args h ρ args' w v h1 q G S A
  unfold orcP at q
  cases c1 : Nat.beq f f0 with
  | false => rw [c1, bcase_false] at q; exact O f args h ρ args' w v h1 q G S A
  | true =>
    rw [c1, bcase_true] at q
    cases c2 : findP args tbl with
    | none => rw [c2, ocase_none] at q; exact O f args h ρ args' w v h1 q G S A
    | some m =>
      rw [c2, ocase_some] at q
      cases q
      have c1 := Nat.eq_of_beq_eq_true c1
      subst c1
      have hm := findP_some c2
      have hpl : plainL args = true := List.all_eq_true.1 hp _ hm
      have Lw := L.above G.below
      refine (run_val X hmix (JJ.base (cnt := cnt) s w) hP hT (PAns_good g _ hm) (JJ.start Lw.calm) (Lw.sim hn) (VRL.plain _ _ hpl A)).mono ?_
      rintro e w' ⟨u, rfl, ρ', h', hu, hE⟩
      have b := hE.below Lw.calm
      exact ⟨u, ρ, rfl, by simpa only [VR] using hu, S.above b, Ext.still b⟩
end
end Go.Ev

namespace Go.Ev
open Go

def subF : List (Nat × Nat) → Nat → Option Nat
  | [], _ => none
  | p :: l, v => bif Nat.beq p.1 v then some p.2 else subF l v
def Holds (ρ : Rho) (sub : List (Nat × Nat)) : Prop := ∀ v d, subF sub v = some d → ∃ c, ρ v = some (d, c)
theorem Holds.mono {ρ ρ' : Rho} {sub : List (Nat × Nat)} (h : Holds ρ sub) (le : Rle ρ ρ') : Holds ρ' sub := fun v d e => let ⟨c, h1⟩ := h v d e; ⟨c, le _ _ h1⟩
def putT (sub : List (Nat × Nat)) : List Trm → Option Nat
  | [] => some 0
  | t :: ts => match subF sub t.v, putT sub ts with
    | some d, some m => bif Nat.ble d t.mx && Nat.beq t.lo 0 then some (t.a * d + m) else none
    | _, _ => none
theorem putT_ok {ρ : Rho} {sub : List (Nat × Nat)} (H : Holds ρ sub) : ∀ {ts : List Trm} {m : Nat}, putT sub ts = some m → LE ρ ts m ∧ ∀ n, LE ρ ts n → n = m
  | [], m, h => by
    have h : some 0 = some m := h
    cases h
    exact ⟨LE.nil, fun n hn => hn⟩
  | t :: ts, m, h => by
    unfold putT at h
    split at h
    · rename_i d m' h1 h2
      cases hc : (Nat.ble d t.mx && Nat.beq t.lo 0) with
      | false => rw [hc] at h; cases h
      | true =>
        rw [hc] at h
        have h : some (t.a * d + m') = some m := h
        cases h
        obtain ⟨c1, c2⟩ := Bool.and_eq_true_iff.1 hc
        obtain ⟨g1, g2⟩ := putT_ok H h2
        obtain ⟨c, e⟩ := H _ _ h1
        refine ⟨⟨d, c, m', e, Nat.le_of_ble_eq_true c1, .inl (Nat.eq_of_beq_eq_true c2), g1, rfl⟩, fun n hn => ?_⟩
        obtain ⟨d', c', m2, k1, _, _, k4, k5⟩ := hn
        rw [e] at k1
        cases k1
        rw [k5, g2 _ k4]
    · cases h
mutual
noncomputable def cv (sub : List (Nat × Nat)) (x : AV) (y : AV) : Bool :=
  match x with
  | .sint k c ts => (match putT sub ts with
    | some m => Nat.ble (c + maxT ts) (maxs k) && AV.beq (.int k (c + m)) y
    | none => false)
  | .sstr l => (match y with
    | .str n b => cvL sub l (bytesL n b) && (match unbytes (bytesL n b) with | some b' => Nat.beq b' b && Nat.beq (lenL (bytesL n b)) n | none => false)
    | _ => false)
  | .agg l => (match y with
    | .agg m => cvL sub l m
    | _ => false)
  | x => AV.beq x y
noncomputable def cvL (sub : List (Nat × Nat)) (x y : List AV) : Bool :=
  match x with
  | [] => (match y with | [] => true | _ => false)
  | a :: l => (match y with | b :: m => cv sub a b && cvL sub l m | _ => false)
end
mutual
theorem cv_ok {ρ : Rho} {sub : List (Nat × Nat)} (H : Holds ρ sub) : ∀ (x y : AV) (v : Value), cv sub x y = true → (VR ρ x v ↔ VR ρ y v)
  | .sint k c ts, y, v, h => by
    unfold cv at h
    split at h
    · rename_i m hm
      obtain ⟨h1, h2⟩ := Bool.and_eq_true_iff.1 h
      have h1 := Nat.le_of_ble_eq_true h1
      have h2 := AV.beq_eq _ _ h2
      subst h2
      obtain ⟨g1, g2⟩ := putT_ok H hm
      have hle := g1.le
      constructor
      · intro q
        obtain ⟨m', rfl, q1, q2⟩ := VR.sint_iff.1 q
        rw [g2 _ q1]
        exact VR.nat (by omega)
      · intro q
        obtain ⟨rfl, _⟩ := VR.int_iff.1 q
        exact VR.sint_iff.2 ⟨m, by rw [sg_nat (by omega)], g1, h1⟩
    · cases h
  | .sstr l, y, v, h => by
    cases y <;> first | (simp [cv] at h; done) | skip
    rename_i n b
    have h : (cvL sub l (bytesL n b) && (match unbytes (bytesL n b) with | some b' => Nat.beq b' b && Nat.beq (lenL (bytesL n b)) n | none => false)) = true := by simpa only [cv] using h
    obtain ⟨h1, h2⟩ := Bool.and_eq_true_iff.1 h
    split at h2
    · rename_i b' hb
      obtain ⟨h3, h4⟩ := Bool.and_eq_true_iff.1 h2
      have h3 := Nat.eq_of_beq_eq_true h3
      have h4 := Nat.eq_of_beq_eq_true h4
      subst h3
      constructor
      · intro q
        obtain ⟨s, rfl, q1⟩ := VR.sstr_iff.1 q
        have q2 := (cvL_ok H l _ _ h1).1 q1
        have e : mkStr (bytesL n b') = some (.str n b') := by
          unfold mkStr
          rw [hb, ocase_some, h4]
        exact mkStr_ok e q2
      · intro q
        obtain ⟨s, rfl, q1⟩ := strL_ok (x := .str n b') rfl q
        exact VR.sstr_iff.2 ⟨s, rfl, (cvL_ok H l _ _ h1).2 q1⟩
    · cases h2
  | .agg l, y, v, h => by
    cases y <;> first | (simp [cv] at h; done) | skip
    rename_i m
    have h : cvL sub l m = true := by simpa only [cv] using h
    rw [VR.agg_iff, VR.agg_iff]
    exact ⟨fun ⟨a, e, q⟩ => ⟨a, e, (cvL_ok H l m _ h).1 q⟩, fun ⟨a, e, q⟩ => ⟨a, e, (cvL_ok H l m _ h).2 q⟩⟩
  | .int x0 x1, y, v, h => by
    have h : AV.beq (.int x0 x1) y = true := by simpa only [cv] using h
    rw [AV.beq_eq _ y h]
  | .bool x0, y, v, h => by
    have h : AV.beq (.bool x0) y = true := by simpa only [cv] using h
    rw [AV.beq_eq _ y h]
  | .str x0 x1, y, v, h => by
    have h : AV.beq (.str x0 x1) y = true := by simpa only [cv] using h
    rw [AV.beq_eq _ y h]
  | .ptr x0 x1, y, v, h => by
    have h : AV.beq (.ptr x0 x1) y = true := by simpa only [cv] using h
    rw [AV.beq_eq _ y h]
  | .nilp, y, v, h => by
    have h : AV.beq (.nilp) y = true := by simpa only [cv] using h
    rw [AV.beq_eq _ y h]
  | .slice x0 x1 x2 x3, y, v, h => by
    have h : AV.beq (.slice x0 x1 x2 x3) y = true := by simpa only [cv] using h
    rw [AV.beq_eq _ y h]
  | .gslice x0 x1 x2 x3, y, v, h => by
    have h : AV.beq (.gslice x0 x1 x2 x3) y = true := by simpa only [cv] using h
    rw [AV.beq_eq _ y h]
  | .eslice, y, v, h => by
    have h : AV.beq (.eslice) y = true := by simpa only [cv] using h
    rw [AV.beq_eq _ y h]
  | .nilslice, y, v, h => by
    have h : AV.beq (.nilslice) y = true := by simpa only [cv] using h
    rw [AV.beq_eq _ y h]
  | .map x0, y, v, h => by
    have h : AV.beq (.map x0) y = true := by simpa only [cv] using h
    rw [AV.beq_eq _ y h]
  | .nilmap, y, v, h => by
    have h : AV.beq (.nilmap) y = true := by simpa only [cv] using h
    rw [AV.beq_eq _ y h]
  | .func x0 x1 x2, y, v, h => by
    have h : AV.beq (.func x0 x1 x2) y = true := by simpa only [cv] using h
    rw [AV.beq_eq _ y h]
  | .nilfunc, y, v, h => by
    have h : AV.beq (.nilfunc) y = true := by simpa only [cv] using h
    rw [AV.beq_eq _ y h]
  | .iface x0 x1, y, v, h => by
    have h : AV.beq (.iface x0 x1) y = true := by simpa only [cv] using h
    rw [AV.beq_eq _ y h]
  | .niliface, y, v, h => by
    have h : AV.beq (.niliface) y = true := by simpa only [cv] using h
    rw [AV.beq_eq _ y h]
  | .tuple x0, y, v, h => by
    have h : AV.beq (.tuple x0) y = true := by simpa only [cv] using h
    rw [AV.beq_eq _ y h]
  | .oslice x0, y, v, h => by
    have h : AV.beq (.oslice x0) y = true := by simpa only [cv] using h
    rw [AV.beq_eq _ y h]
  | .imod x0 x1, y, v, h => by
    have h : AV.beq (.imod x0 x1) y = true := by simpa only [cv] using h
    rw [AV.beq_eq _ y h]
  | .optr x0, y, v, h => by
    have h : AV.beq (.optr x0) y = true := by simpa only [cv] using h
    rw [AV.beq_eq _ y h]
  | .sneg x0 x1 x2, y, v, h => by
    have h : AV.beq (.sneg x0 x1 x2) y = true := by simpa only [cv] using h
    rw [AV.beq_eq _ y h]
theorem cvL_ok {ρ : Rho} {sub : List (Nat × Nat)} (H : Holds ρ sub) : ∀ (x y : List AV) (v : List Value), cvL sub x y = true → (VRL ρ x v ↔ VRL ρ y v)
  | [], [], v, h => Iff.rfl
  | [], _ :: _, v, h => by simp [cvL] at h
  | _ :: _, [], v, h => by simp [cvL] at h
  | a :: l, b :: m, v, h => by
    have h : (cv sub a b && cvL sub l m) = true := by simpa only [cvL] using h
    obtain ⟨h1, h2⟩ := Bool.and_eq_true_iff.1 h
    rw [VRL.cons_iff, VRL.cons_iff]
    constructor
    · rintro ⟨u, us, e, q1, q2⟩
      exact ⟨u, us, e, (cv_ok H a b u h1).1 q1, (cvL_ok H l m us h2).1 q2⟩
    · rintro ⟨u, us, e, q1, q2⟩
      exact ⟨u, us, e, (cv_ok H a b u h1).2 q1, (cvL_ok H l m us h2).2 q2⟩
end

noncomputable def cvO (sub : List (Nat × Nat)) (x y : Option AV) : Bool :=
  match x with
  | none => (match y with | none => true | _ => false)
  | some a => (match y with | some b => cv sub a b | _ => false)
noncomputable def cvT (sub : List (Nat × Nat)) (x y : T AV) : Bool :=
  match x with
  | .e => (match y with | .e => true | _ => false)
  | .n v l r => (match y with | .n v' l' r' => cvO sub v v' && (cvT sub l l' && cvT sub r r') | _ => false)
theorem cvT_kid {sub : List (Nat × Nat)} (b : Bool) : ∀ {x y : T AV}, cvT sub x y = true → cvT sub (T.kid b x) (T.kid b y) = true
  | .e, .e, _ => by cases b <;> rfl
  | .e, .n _ _ _, h => by simp [cvT] at h
  | .n _ _ _, .e, h => by simp [cvT] at h
  | .n v l r, .n v' l' r', h => by
    have h : (cvO sub v v' && (cvT sub l l' && cvT sub r r')) = true := by simpa only [cvT] using h
    rw [Bool.and_eq_true, Bool.and_eq_true] at h
    cases b
    · exact h.2.2
    · exact h.2.1
theorem cvT_val {sub : List (Nat × Nat)} : ∀ {x y : T AV}, cvT sub x y = true → cvO sub (T.val x) (T.val y) = true
  | .e, .e, _ => rfl
  | .e, .n _ _ _, h => by simp [cvT] at h
  | .n _ _ _, .e, h => by simp [cvT] at h
  | .n v l r, .n v' l' r', h => by
    have h : (cvO sub v v' && (cvT sub l l' && cvT sub r r')) = true := by simpa only [cvT] using h
    rw [Bool.and_eq_true] at h
    exact h.1
theorem cvT_get {sub : List (Nat × Nat)} : ∀ (p : List Bool) {x y : T AV}, cvT sub x y = true → cvO sub (T.get p x) (T.get p y) = true
  | [], x, y, h => cvT_val h
  | b :: p, x, y, h => cvT_get p (x := T.kid b x) (y := T.kid b y) (cvT_kid b h)
noncomputable def cvB (sub : List (Nat × Nat)) (x y : ABlk) : Bool :=
  match x, y with
  | .cells c n t k, .cells c' n' t' k' => Nat.beq (kk k) (kk k') && (Nat.beq n n' && (Nat.beq t t' && cvT sub c c'))
  | _, _ => false
theorem cvB_ok {ρ : Rho} {sub : List (Nat × Nat)} (H : Holds ρ sub) {x y : ABlk} (h : cvB sub x y = true) : (∀ c o, BR ρ c x o → BR ρ c y o) ∧ wr x = wr y := by
  cases x <;> first | (simp [cvB] at h; done) | skip
  rename_i c n t k
  cases y <;> first | (simp [cvB] at h; done) | skip
  rename_i c' n' t' k'
  have h : (Nat.beq (kk k) (kk k') && (Nat.beq n n' && (Nat.beq t t' && cvT sub c c'))) = true := h
  simp only [Bool.and_eq_true] at h
  obtain ⟨h1, h2, h3, h4⟩ := h
  have h1 := kk_inj h1
  have h2 := Nat.eq_of_beq_eq_true h2
  have h3 := Nat.eq_of_beq_eq_true h3
  subst h1
  subst h2
  subst h3
  have get : ∀ i a', T.get (digs i) c' = some a' → ∃ a, T.get (digs i) c = some a ∧ cv sub a a' = true := fun i a' e => by
    have := cvT_get (digs i) h4
    rw [e] at this
    cases hx : T.get (digs i) c with
    | none => rw [hx] at this; simp [cvO] at this
    | some a => rw [hx] at this; exact ⟨a, rfl, this⟩
  refine ⟨fun cc o hb => ?_, by cases k <;> rfl⟩
  obtain ⟨arr, lo, hi, g1, g2, g3, g4, g5, g6, g7⟩ := hb
  refine ⟨arr, lo, hi, g1, g2, g3, g4, g5, fun i a' e => ?_, fun i a' e => ?_⟩
  · obtain ⟨a, e1, e2⟩ := get i a' e
    obtain ⟨v, e3, e4⟩ := g6 i a e1
    exact ⟨v, e3, (cv_ok H a a' v e2).1 e4⟩
  · obtain ⟨a, e1, _⟩ := get i a' e
    exact g7 i a e1
noncomputable def cvN (sub : List (Nat × Nat)) (x y : List (Nat × ABlk)) : Bool :=
  match x with
  | [] => (match y with | [] => true | _ => false)
  | p :: l => (match y with | q :: m => Nat.beq p.1 q.1 && (cvB sub p.2 q.2 && cvN sub l m) | _ => false)
theorem cvN_ok {sub : List (Nat × Nat)} : ∀ {x y : List (Nat × ABlk)}, cvN sub x y = true → ∀ q ∈ y, ∃ p ∈ x, p.1 = q.1 ∧ cvB sub p.2 q.2 = true
  | [], [], _, q, hq => by cases hq
  | [], _ :: _, h, _, _ => by simp [cvN] at h
  | _ :: _, [], h, q, hq => by cases hq
  | p :: l, r :: m, h, q, hq => by
    have h : (Nat.beq p.1 r.1 && (cvB sub p.2 r.2 && cvN sub l m)) = true := by simpa only [cvN] using h
    simp only [Bool.and_eq_true] at h
    obtain ⟨h1, h2, h3⟩ := h
    rcases List.mem_cons.1 hq with rfl | hq
    · exact ⟨p, List.mem_cons_self .., Nat.eq_of_beq_eq_true h1, h2⟩
    · obtain ⟨p', g1, g2⟩ := cvN_ok h3 q hq
      exact ⟨p', List.mem_cons_of_mem _ g1, g2⟩
section
variable {P : Program} {n : Nat} {cnt : Nat → Nat} {l : List (Nat × ABlk)}
theorem tabs_sim {s : Sl} {W : World} (L : Laid n cnt l s.q W) (hn : n ≤ 50) {ρ : Rho} {h : Heap} {w : World} (G : JJ n cnt s W ρ h w) (S : Sim ρ h w) (hs : allIn anyB h l = true) {m : Nat} (hm : h.next ≤ m) : Sim ρ (hListN m l) w := by
  have there : ∀ b x, (hListN m l).get b = some x → ∃ y, h.get b = some y := fun b x hx => by
    obtain ⟨y, h2, _⟩ := allIn_ok hs _ (hListN_get hx); exact ⟨y, h2⟩
  refine ⟨fun b x hx => ?_, fun b b' x x' r c c' h1 h2 h3 h4 => ?_, fun b hb => S.fresh b (by rw [hListN_next] at hb; omega)⟩
  · obtain ⟨g1, _, o, g3, g4⟩ := (L.above G.below) _ (hListN_get hx)
    exact ⟨b, cnt b, o, G.le _ _ (if_pos g1), g3, g4 ρ (G.le 52 _ (by unfold rho0; rw [if_neg (by omega), if_neg (by omega), if_neg (by omega), if_pos rfl]))⟩
  · obtain ⟨y, h5⟩ := there _ _ h1
    obtain ⟨y', h6⟩ := there _ _ h2
    exact S.inj b b' y y' r c c' h5 h6 h3 h4
theorem Sim.grow2 {ρ ρ' : Rho} {h hH h' : Heap} {w w' : World} (S : Sim ρ h w) (SH : Sim ρ hH w) (hc : Calm hH) (hn : h.next ≤ hH.next) (s' : Sim ρ' h' w') (E : Ext ρ hH w ρ' h' w') {nb : List (Nat × ABlk)}
    (hf : ∀ p ∈ nb, hH.next ≤ p.1) (hg : ∀ p ∈ nb, ∃ y, h'.get p.1 = some y ∧ (∀ c o, BR ρ' c y o → BR ρ' c p.2 o) ∧ wr y = wr p.2) {m : Nat} (hm : h'.next ≤ m) : Sim ρ' ⟨m, outT nb h.bl⟩ w' ∧ Ext ρ h w ρ' ⟨m, outT nb h.bl⟩ w' := by
  have B := E.below hc
  have get : ∀ {b y}, (Heap.mk m (outT nb h.bl)).get b = some y → (b, y) ∈ nb ∨ h.get b = some y := fun h => outT_get h
  have wrn : ∀ {b y}, (b, y) ∈ nb → wr y = true := fun {b y} hb => by
    obtain ⟨y0, g1, _, g3⟩ := hg _ hb
    have g3 : wr y0 = wr y := g3
    rw [← g3]
    rcases E.dom b y0 g1 with ⟨x0, h0, _⟩ | ⟨_, h0⟩
    · have h1 := SH.lt h0
      have h2 := hf _ hb
      have h2 : hH.next ≤ b := h2
      omega
    · exact h0
  have far : ∀ {b y r c}, (b, y) ∈ nb → ρ' b = some (r, c) → w.heap.size ≤ r := fun {b y r c} hb hr => by
    obtain ⟨y0, g1, _, g3⟩ := hg _ hb
    rcases Nat.lt_or_ge r w.heap.size with h1 | h1
    · obtain ⟨b0, x0, c0, k1, k2, _⟩ := E.img b y0 r c g1 (by rw [g3]; exact wrn hb) hr h1
      rw [hc _ _ k1] at k2; cases k2
    · exact h1
  have keep : ∀ {b y}, h.get b = some y → ρ' b = ρ b := fun hb => E.old _ (by have := S.lt hb; omega)
  refine ⟨⟨fun b y hb => ?_, fun b b' y y' r c c' h1 h2 h3 h4 => ?_, fun b hb => s'.fresh b (Nat.le_trans hm hb)⟩, ⟨E.le, fun b hb => E.old b (by omega), by have := E.next; show h.next ≤ m; omega, E.size, fun r hr _ => B.block r hr, fun b y r c hb hw hρ hr => ?_, E.os, E.tape, E.output, fun b y hb => ?_⟩⟩
  · rcases get hb with h1 | h1
    · obtain ⟨y0, g1, g2, _⟩ := hg _ h1
      obtain ⟨r, c, o, k1, k2, k3⟩ := s'.blk b y0 g1
      exact ⟨r, c, o, k1, k2, g2 c o k3⟩
    · obtain ⟨r, c, o, k1, k2, k3⟩ := S.blk b y h1
      exact ⟨r, c, o, E.le _ _ k1, by rw [B.block r (S.img_lt h1 k1)]; exact k2, k3.mono E.le⟩
  · rcases get h1 with g1 | g1 <;> rcases get h2 with g2 | g2
    · obtain ⟨y1, k1, _⟩ := hg _ g1
      obtain ⟨y2, k2, _⟩ := hg _ g2
      exact s'.inj b b' y1 y2 r c c' k1 k2 h3 h4
    · rw [keep g2] at h4
      have := far g1 h3
      have := S.img_lt g2 h4
      omega
    · rw [keep g1] at h3
      have := far g2 h4
      have := S.img_lt g1 h3
      omega
    · rw [keep g1] at h3
      rw [keep g2] at h4
      exact S.inj b b' y y' r c c' g1 g2 h3 h4
  · rcases get hb with h1 | h1
    · have := far h1 hρ; omega
    · rw [keep h1] at hρ
      exact ⟨b, y, c, h1, hw, hρ⟩
  · rcases get hb with h1 | h1
    · exact .inr ⟨by have := hf _ h1; have : hH.next ≤ b := this; omega, wrn h1⟩
    · exact .inl ⟨y, h1, rfl⟩
noncomputable def orcE2 (f0 : Nat) (a0 : List AV) (n0 : Nat) (v0 : AV) (nb : List (Nat × ABlk)) (n1 : Nat) (l : List (Nat × ABlk)) (rest : Orc) : Orc := fun f a h =>
  bcase (Nat.beq f f0) (bcase (bcase (Nat.ble h.next n0) (bcase (vbL a0 a) (allIn anyB h l) false) false) (some (v0, ⟨n1, outT nb h.bl⟩)) (rest f a h)) (rest f a h)
theorem ent2_ok (X : FnsOk P) (hmix : P.follows .mixedOrders = true) (hn : n ≤ 50) (hP : ∀ (f : Nat) (fn : Func) (c : Code), P.funcs[f]? = some fn → fn.body = some c → codeOk P n c = true)
    {T : FT} (hT : TabOk P T) {fu k : Nat} {s : Sl} {W : World} (L : Laid n cnt l s.q W) {o1 o2 : Orc} (O1 : OrcOk P (JJ n cnt s W) o1) (O2 : OrcOk P (JJ n cnt s W) o2) (e : Ent) (hf : allFrom e.n0 e.nb = true)
    (sub : List (Nat × Nat)) (hs : Holds (rho0 n cnt s) sub) {a' : List AV} {v' : AV} {nb' : List (Nat × ABlk)} (ca : cvL sub e.a a' = true) (cw : cv sub e.v v' = true) (cb : cvN sub e.nb nb' = true)
    (g : good (EAns T fu o1 k e.f e.a (hListN e.n0 l) e.v e.nb e.n1)) : OrcOk P (JJ n cnt s W) (orcE2 e.f a' e.n0 v' nb' e.n1 l o2) := by
  intro f args h ρ args' w v h1 q G S A
  unfold orcE2 at q
  cases c1 : Nat.beq f e.f with
  | false => rw [c1, bcase_false] at q; exact O2 f args h ρ args' w v h1 q G S A
  | true =>
    rw [c1, bcase_true] at q
    cases c2 : bcase (Nat.ble h.next e.n0) (bcase (vbL a' args) (allIn anyB h l) false) false with
    | false => rw [c2, bcase_false] at q; exact O2 f args h ρ args' w v h1 q G S A
    | true =>
      rw [c2, bcase_true] at q
      cases q
      obtain ⟨d1, c2⟩ := bcase_both c2
      obtain ⟨d2, d3⟩ := bcase_both c2
      have d1 := Nat.le_of_ble_eq_true d1
      have c1 := Nat.eq_of_beq_eq_true c1
      have d2 := vbL_eq _ _ d2
      subst c1
      subst d2
      have Hρ := hs.mono G.le
      have SH := tabs_sim L hn G S d3 d1
      have CH : Calm (hListN e.n0 l) := fun b x hx => (L _ (hListN_get hx)).2.1
      have GH : JJ n cnt s W ρ (hListN e.n0 l) w := ⟨G.le, G.below, fun b x r c hx hw _ => absurd hw (by rw [CH b x hx]; decide)⟩
      obtain ⟨m, hm⟩ := TIE_ok (orc := o1) hT k e.f e.a _ _ _ g
      refine (call_ok (hint := fullH P) X hmix (JJ.base s W) O1 hP m e.f e.a _ _ ρ args' w GH hm SH ((cvL_ok Hρ _ _ _ ca).2 A)).mono ?_
      rintro e' w' ⟨⟨x, h'⟩, ρ', hq, hx, hs', hE⟩
      cases x with
      | pan c => exact (show False from hq).elim
      | ret u =>
        have hq : good (bcase (vb e.v u) (bcase (Nat.ble h'.next e.n1) (bcase (allIn sameBK h' e.nb) Ans.ok .no) .no) .no) := hq
        obtain ⟨k1, hq⟩ := good_bc hq
        obtain ⟨k2, hq⟩ := good_bc hq
        obtain ⟨k3, hq⟩ := good_bc hq
        have k1 := vb_eq _ _ k1
        have k2 := Nat.le_of_ble_eq_true k2
        subst k1
        cases e' <;> first | exact hx.elim | skip
        rename_i y
        have Hρ' := Hρ.mono hE.le
        have := S.grow2 SH CH (by rw [hListN_next]; exact d1) hs' hE (nb := nb') (fun p hp => by
          rw [hListN_next]
          obtain ⟨r, g1, g2, _⟩ := cvN_ok cb p hp
          rw [← g2]
          exact allFrom_ok hf r g1) (fun p hp => by
          obtain ⟨r, g1, g2, g3⟩ := cvN_ok cb p hp
          obtain ⟨x, g4, g5⟩ := allIn_ok k3 r g1
          rw [← sameBK_eq g5, g2] at g4
          obtain ⟨g6, g7⟩ := cvB_ok Hρ' g3
          exact ⟨_, g4, g6, g7⟩) k2
        exact ⟨y, ρ', rfl, (cv_ok Hρ' _ _ _ cw).1 hx, this.1, this.2⟩
end
end Go.Ev

namespace Go.Ev
open Go
section
variable {P : Program} {n : Nat} {cnt : Nat → Nat} {l : List (Nat × ABlk)}
theorem part_sim3 {s : Sl} {W : World} (L : Laid n cnt l s.q W) (hn : n ≤ 50) {ρ : Rho} {h : Heap} {w : World} (G : JJ n cnt s W ρ h w) (S : Sim ρ h w) {hp : List (Nat × ABlk)} (hk : allRg hp = true) (hs : allIn anyB h l = true) (hb : allIn sameC h hp = true) {m : Nat} (hm : h.next ≤ m) :
    Sim ρ (hListN m (l ++ hp)) w := by
  have S0 := part_sim L hn G S hk hs hb
  have get : ∀ b x, (hListN m (l ++ hp)).get b = some x → (hListN h.next (l ++ hp)).get b = some x := fun b x hx => by
    have e : ∀ (l : List (Nat × ABlk)) (k m : Nat), (hListN k l).bl = (hListN m l).bl := fun l k m => by
      induction l with
      | nil => rfl
      | cons p l ih => show T.set (digs p.1) (hListN k l).bl _ = T.set (digs p.1) (hListN m l).bl _; rw [ih]
    have hx : T.get (digs b) (hListN m (l ++ hp)).bl = some x := hx
    show T.get (digs b) (hListN h.next (l ++ hp)).bl = some x
    rw [e _ _ m]; exact hx
  exact ⟨fun b x hx => S0.blk b x (get b x hx), fun b b' x x' r c c' h1 h2 => S0.inj b b' x x' r c c' (get _ _ h1) (get _ _ h2), fun b hb => S.fresh b (by rw [hListN_next] at hb; omega)⟩
noncomputable def orcE3 (e : Ent) (l : List (Nat × ABlk)) (rest : Orc) : Orc := fun f a h =>
  bcase (Nat.beq f e.f) (bcase (bcase (Nat.ble h.next e.n0) (bcase (vbL e.a a) (bcase (allIn anyB h l) (allIn sameC h e.hp) false) false) false) (some (e.v, ⟨e.n1, outT e.nb h.bl⟩)) (rest f a h)) (rest f a h)
theorem ent3_ok (X : FnsOk P) (hmix : P.follows .mixedOrders = true) (hn : n ≤ 50) (hP : ∀ (f : Nat) (fn : Func) (c : Code), P.funcs[f]? = some fn → fn.body = some c → codeOk P n c = true)
    {T : FT} (hT : TabOk P T) {fu k : Nat} {s : Sl} {W : World} (L : Laid n cnt l s.q W) {o1 o2 : Orc} (O1 : OrcOk P (JJ n cnt s W) o1) (O2 : OrcOk P (JJ n cnt s W) o2) (e : Ent) (hk : allRg e.hp = true) (hf : allFrom e.n0 e.nb = true)
    (g : good (EAns T fu o1 k e.f e.a (hListN e.n0 (l ++ e.hp)) e.v e.nb e.n1)) : OrcOk P (JJ n cnt s W) (orcE3 e l o2) := by
  intro f args h ρ args' w v h1 q G S A
  unfold orcE3 at q
  cases c1 : Nat.beq f e.f with
  | false => rw [c1, bcase_false] at q; exact O2 f args h ρ args' w v h1 q G S A
  | true =>
    rw [c1, bcase_true] at q
    cases c2 : bcase (Nat.ble h.next e.n0) (bcase (vbL e.a args) (bcase (allIn anyB h l) (allIn sameC h e.hp) false) false) false with
    | false => rw [c2, bcase_false] at q; exact O2 f args h ρ args' w v h1 q G S A
    | true =>
      rw [c2, bcase_true] at q
      cases q
      obtain ⟨d1, c2⟩ := bcase_both c2
      obtain ⟨d2, c2⟩ := bcase_both c2
      obtain ⟨d3, d4⟩ := bcase_both c2
      have d1 := Nat.le_of_ble_eq_true d1
      have c1 := Nat.eq_of_beq_eq_true c1
      have d2 := vbL_eq _ _ d2
      subst c1
      subst d2
      have SH := part_sim3 L hn G S hk d3 d4 d1
      have CH := part_calm (hp := e.hp) L hk e.n0
      have GH : JJ n cnt s W ρ (hListN e.n0 (l ++ e.hp)) w := ⟨G.le, G.below, fun b x r c hx hw _ => absurd hw (by rw [CH b x hx]; decide)⟩
      obtain ⟨m, hm⟩ := TIE_ok (orc := o1) hT k e.f e.a _ _ _ g
      refine (call_ok (hint := fullH P) X hmix (JJ.base s W) O1 hP m e.f e.a _ _ ρ args' w GH hm SH A).mono ?_
      rintro e' w' ⟨⟨x, h'⟩, ρ', hq, hx, hs, hE⟩
      cases x with
      | pan c => exact (show False from hq).elim
      | ret u =>
        have hq : good (bcase (vb e.v u) (bcase (Nat.ble h'.next e.n1) (bcase (allIn sameBK h' e.nb) Ans.ok .no) .no) .no) := hq
        obtain ⟨k1, hq⟩ := good_bc hq
        obtain ⟨k2, hq⟩ := good_bc hq
        obtain ⟨k3, hq⟩ := good_bc hq
        have k1 := vb_eq _ _ k1
        have k2 := Nat.le_of_ble_eq_true k2
        subst k1
        cases e' <;> first | exact hx.elim | skip
        rename_i y
        have := S.grow2 SH CH (by rw [hListN_next]; exact d1) hs hE (nb := e.nb) (fun p hp => by
          rw [hListN_next]; exact allFrom_ok hf p hp) (fun p hp => by
          obtain ⟨x, g1, g2⟩ := allIn_ok k3 p hp
          exact ⟨x, g1, by rw [sameBK_eq g2]; exact fun _ _ q => q, by rw [sameBK_eq g2]⟩) k2
        exact ⟨y, ρ', rfl, hx, this.1, this.2⟩
end
end Go.Ev

namespace Go.Ev
open Go
theorem cvB_back {ρ : Rho} {sub : List (Nat × Nat)} (H : Holds ρ sub) {x y : ABlk} (h : cvB sub x y = true) : ∀ c o, BR ρ c y o → BR ρ c x o := by
  cases x <;> first | (simp [cvB] at h; done) | skip
  rename_i c n t k
  cases y <;> first | (simp [cvB] at h; done) | skip
  rename_i c' n' t' k'
  have h : (Nat.beq (kk k) (kk k') && (Nat.beq n n' && (Nat.beq t t' && cvT sub c c'))) = true := h
  simp only [Bool.and_eq_true] at h
  obtain ⟨h1, h2, h3, h4⟩ := h
  have h1 := kk_inj h1
  have h2 := Nat.eq_of_beq_eq_true h2
  have h3 := Nat.eq_of_beq_eq_true h3
  subst h1
  subst h2
  subst h3
  have get : ∀ i a, T.get (digs i) c = some a → ∃ a', T.get (digs i) c' = some a' ∧ cv sub a a' = true := fun i a e => by
    have := cvT_get (digs i) h4
    rw [e] at this
    cases hx : T.get (digs i) c' with
    | none => rw [hx] at this; simp [cvO] at this
    | some a' => rw [hx] at this; exact ⟨a', rfl, this⟩
  intro cc o hb
  obtain ⟨arr, lo, hi, g1, g2, g3, g4, g5, g6, g7⟩ := hb
  refine ⟨arr, lo, hi, g1, g2, g3, g4, g5, fun i a e => ?_, fun i a e => ?_⟩
  · obtain ⟨a', e1, e2⟩ := get i a e
    obtain ⟨v, e3, e4⟩ := g6 i a' e1
    exact ⟨v, e3, (cv_ok H a a' v e2).2 e4⟩
  · obtain ⟨a', e1, _⟩ := get i a e
    exact g7 i a' e1
theorem cvN_left {sub : List (Nat × Nat)} : ∀ {x y : List (Nat × ABlk)}, cvN sub x y = true → ∀ p ∈ x, ∃ q ∈ y, p.1 = q.1 ∧ cvB sub p.2 q.2 = true
  | [], _, _, p, hp => by cases hp
  | _ :: _, [], h, _, _ => by simp [cvN] at h
  | p :: l, r :: m, h, q, hq => by
    have h : (Nat.beq p.1 r.1 && (cvB sub p.2 r.2 && cvN sub l m)) = true := by simpa only [cvN] using h
    simp only [Bool.and_eq_true] at h
    obtain ⟨h1, h2, h3⟩ := h
    rcases List.mem_cons.1 hq with rfl | hq
    · exact ⟨r, List.mem_cons_self .., Nat.eq_of_beq_eq_true h1, h2⟩
    · obtain ⟨q', g1, g2⟩ := cvN_left h3 q hq
      exact ⟨q', List.mem_cons_of_mem _ g1, g2⟩
section
variable {P : Program} {n : Nat} {cnt : Nat → Nat} {l : List (Nat × ABlk)}
theorem part_sim4 {s : Sl} {W : World} (L : Laid n cnt l s.q W) (hn : n ≤ 50) {ρ : Rho} {h : Heap} {w : World} (G : JJ n cnt s W ρ h w) (S : Sim ρ h w) {sub : List (Nat × Nat)} (H : Holds ρ sub) {hp hp' : List (Nat × ABlk)} (hk : allRg hp = true) (hc : cvN sub hp hp' = true)
    (hs : allIn anyB h l = true) (hb : allIn sameC h hp' = true) {m : Nat} (hm : h.next ≤ m) : Sim ρ (hListN m (l ++ hp)) w := by
  have there : ∀ b x, (hListN m (l ++ hp)).get b = some x → ∃ y, h.get b = some y := fun b x hx => by
    rcases List.mem_append.1 (hListN_get hx) with h1 | h1
    · obtain ⟨y, h2, _⟩ := allIn_ok hs _ h1; exact ⟨y, h2⟩
    · obtain ⟨q, g1, g2, _⟩ := cvN_left hc _ h1
      obtain ⟨y, h2, _⟩ := allIn_ok hb _ g1
      exact ⟨y, by have g2 : b = q.1 := g2; rw [g2]; exact h2⟩
  refine ⟨fun b x hx => ?_, fun b b' x x' r c c' h1 h2 h3 h4 => ?_, fun b hb => S.fresh b (by rw [hListN_next] at hb; omega)⟩
  · rcases List.mem_append.1 (hListN_get hx) with h1 | h1
    · obtain ⟨g1, _, o, g3, g4⟩ := (L.above G.below) _ h1
      exact ⟨b, cnt b, o, G.le _ _ (if_pos g1), g3, g4 ρ (G.le 52 _ (by unfold rho0; rw [if_neg (by omega), if_neg (by omega), if_neg (by omega), if_pos rfl]))⟩
    · obtain ⟨c, k, t, e⟩ := allRg_ok hk _ h1
      have e : x = .cells c k t .rg := e
      obtain ⟨q, q1, q2, q3⟩ := cvN_left hc _ h1
      have q2 : b = q.1 := q2
      have q3 : cvB sub x q.2 = true := q3
      obtain ⟨y, h2, h3⟩ := allIn_ok hb _ q1
      rw [← q2] at h2
      obtain ⟨c1, n1, t1, kd, k', e1, e2⟩ := sameC_eq h3
      subst e2
      -- the entry's block is read only of at least so many: so is the second
      have ek : kd = .rg := by
        rw [e, e1] at q3
        have q3 : (Nat.beq (kk .rg) (kk kd) && (Nat.beq k n1 && (Nat.beq t t1 && cvT sub c c1))) = true := q3
        rw [Bool.and_eq_true] at q3
        exact (kk_inj q3.1).symm
      subst ek
      obtain ⟨r, d, o, g1, g2, arr, lo, hi, g3, g4, g5, g6, g7, g8, g9⟩ := S.blk b _ h2
      refine ⟨r, d, o, g1, g2, cvB_back H q3 d o ?_⟩
      rw [e1]
      exact ⟨arr, lo, hi, g3, g4, g5, g6, fun q => Bool.noConfusion (show false = true from q), g8, g9⟩
  · obtain ⟨y, h5⟩ := there _ _ h1
    obtain ⟨y', h6⟩ := there _ _ h2
    exact S.inj b b' y y' r c c' h5 h6 h3 h4
noncomputable def orcE4 (f0 : Nat) (a0 : List AV) (n0 : Nat) (hp : List (Nat × ABlk)) (v0 : AV) (nb : List (Nat × ABlk)) (n1 : Nat) (l : List (Nat × ABlk)) (rest : Orc) : Orc := fun f a h =>
  bcase (Nat.beq f f0) (bcase (bcase (Nat.ble h.next n0) (bcase (vbL a0 a) (bcase (allIn anyB h l) (allIn sameC h hp) false) false) false) (some (v0, ⟨n1, outT nb h.bl⟩)) (rest f a h)) (rest f a h)
theorem ent4_ok (X : FnsOk P) (hmix : P.follows .mixedOrders = true) (hn : n ≤ 50) (hP : ∀ (f : Nat) (fn : Func) (c : Code), P.funcs[f]? = some fn → fn.body = some c → codeOk P n c = true)
    {T : FT} (hT : TabOk P T) {fu k : Nat} {s : Sl} {W : World} (L : Laid n cnt l s.q W) {o1 o2 : Orc} (O1 : OrcOk P (JJ n cnt s W) o1) (O2 : OrcOk P (JJ n cnt s W) o2) (e : Ent) (hk : allRg e.hp = true) (hf : allFrom e.n0 e.nb = true)
    (sub : List (Nat × Nat)) (hs : Holds (rho0 n cnt s) sub) {a' : List AV} {v' : AV} {hp' nb' : List (Nat × ABlk)} (ca : cvL sub e.a a' = true) (cw : cv sub e.v v' = true) (cp : cvN sub e.hp hp' = true) (cb : cvN sub e.nb nb' = true)
    (g : good (EAns T fu o1 k e.f e.a (hListN e.n0 (l ++ e.hp)) e.v e.nb e.n1)) : OrcOk P (JJ n cnt s W) (orcE4 e.f a' e.n0 hp' v' nb' e.n1 l o2) := by
  intro f args h ρ args' w v h1 q G S A
  unfold orcE4 at q
  cases c1 : Nat.beq f e.f with
  | false => rw [c1, bcase_false] at q; exact O2 f args h ρ args' w v h1 q G S A
  | true =>
    rw [c1, bcase_true] at q
    cases c2 : bcase (Nat.ble h.next e.n0) (bcase (vbL a' args) (bcase (allIn anyB h l) (allIn sameC h hp') false) false) false with
    | false => rw [c2, bcase_false] at q; exact O2 f args h ρ args' w v h1 q G S A
    | true =>
      rw [c2, bcase_true] at q
      cases q
      obtain ⟨d1, c2⟩ := bcase_both c2
      obtain ⟨d2, c2⟩ := bcase_both c2
      obtain ⟨d3, d4⟩ := bcase_both c2
      have d1 := Nat.le_of_ble_eq_true d1
      have c1 := Nat.eq_of_beq_eq_true c1
      have d2 := vbL_eq _ _ d2
      subst c1
      subst d2
      have Hρ := hs.mono G.le
      have SH := part_sim4 L hn G S Hρ hk cp d3 d4 d1
      have CH := part_calm (hp := e.hp) L hk e.n0
      have GH : JJ n cnt s W ρ (hListN e.n0 (l ++ e.hp)) w := ⟨G.le, G.below, fun b x r c hx hw _ => absurd hw (by rw [CH b x hx]; decide)⟩
      obtain ⟨m, hm⟩ := TIE_ok (orc := o1) hT k e.f e.a _ _ _ g
      refine (call_ok (hint := fullH P) X hmix (JJ.base s W) O1 hP m e.f e.a _ _ ρ args' w GH hm SH ((cvL_ok Hρ _ _ _ ca).2 A)).mono ?_
      rintro e' w' ⟨⟨x, h'⟩, ρ', hq, hx, hs', hE⟩
      cases x with
      | pan c => exact (show False from hq).elim
      | ret u =>
        have hq : good (bcase (vb e.v u) (bcase (Nat.ble h'.next e.n1) (bcase (allIn sameBK h' e.nb) Ans.ok .no) .no) .no) := hq
        obtain ⟨k1, hq⟩ := good_bc hq
        obtain ⟨k2, hq⟩ := good_bc hq
        obtain ⟨k3, hq⟩ := good_bc hq
        have k1 := vb_eq _ _ k1
        have k2 := Nat.le_of_ble_eq_true k2
        subst k1
        cases e' <;> first | exact hx.elim | skip
        rename_i y
        have Hρ' := Hρ.mono hE.le
        have := S.grow2 SH CH (by rw [hListN_next]; exact d1) hs' hE (nb := nb') (fun p hp => by
          rw [hListN_next]
          obtain ⟨r, g1, g2, _⟩ := cvN_ok cb p hp
          rw [← g2]
          exact allFrom_ok hf r g1) (fun p hp => by
          obtain ⟨r, g1, g2, g3⟩ := cvN_ok cb p hp
          obtain ⟨x, g4, g5⟩ := allIn_ok k3 r g1
          rw [← sameBK_eq g5, g2] at g4
          obtain ⟨g6, g7⟩ := cvB_ok Hρ' g3
          exact ⟨_, g4, g6, g7⟩) k2
        exact ⟨y, ρ', rfl, (cv_ok Hρ' _ _ _ cw).1 hx, this.1, this.2⟩
end
end Go.Ev
