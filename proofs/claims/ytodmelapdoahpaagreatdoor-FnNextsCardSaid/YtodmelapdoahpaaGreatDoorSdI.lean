import Derived.Test.YtodmelapdoahpaaGreatDoorSdH
set_option linter.all false
namespace Go.Ev
open Go
section
variable {P : Program} {hint : FuncId → Nat} {orc : Orc}

def isPan (x : AX) : Bool := match x with | .panic _ => true | _ => false
def XP (K : KX) (m : Nat) (reg : T AV) (r : AX × St) : Prop :=
  ∃ σ', RR σ' r.2.reg ∧ r.2.loc = [] ∧ (isPan r.1 = false → Keep m reg r.2.reg) ∧ good (K r.1 σ' r.2.hp r.2.dfr)
theorem XP.weak {K : KX} {m m' : Nat} (hm : ∀ t, bit t m' = false → bit t m = false) {reg : T AV} {r : AX × St} (h : XP K m reg r) : XP K m' reg r := by
  obtain ⟨σ', h1, h2, h3, h4⟩ := h
  exact ⟨σ', h1, h2, fun hp => (h3 hp).weak hm, h4⟩
theorem XP.trans {K : KX} {m1 m2 : Nat} {reg reg' : T AV} (k : Keep m1 reg reg') {r : AX × St} (h : XP K m2 reg' r) : XP K (Nat.lor m1 m2) reg r := by
  obtain ⟨σ', h1, h2, h3, h4⟩ := h
  exact ⟨σ', h1, h2, fun hp => k.trans (h3 hp), h4⟩
theorem lor_left {a b t : Nat} (h : bit t (Nat.lor a b) = false) : bit t a = false := by rw [bit_or] at h; exact (Bool.or_eq_false_iff.1 h).1
theorem lor_right {a b t : Nat} (h : bit t (Nat.lor a b) = false) : bit t b = false := by rw [bit_or] at h; exact (Bool.or_eq_false_iff.1 h).2
theorem Keep.same {m : Nat} {a b c : T AV} (h1 : Keep m a b) (h2 : Keep m b c) : Keep m a c := fun t h => (h2 t h).trans (h1 t h)

theorem bitsK_eq (nt m : Nat) : ∃ ts, ∀ k, bitsK nt m k = k ts := by
  induction nt with
  | zero => exact ⟨[], fun _ => rfl⟩
  | succ n ih =>
    obtain ⟨ts, h⟩ := ih
    cases hb : bit n m with
    | true =>
      refine ⟨n :: ts, fun k => ?_⟩
      show bcase (bit n m) (bitsK n m fun r => k (n :: r)) (bitsK n m k) = _
      rw [hb, bcase_true, h]
    | false =>
      refine ⟨ts, fun k => ?_⟩
      show bcase (bit n m) (bitsK n m fun r => k (n :: r)) (bitsK n m k) = _
      rw [hb, bcase_false, h]
theorem dropK_eq (m : Nat) : ∀ σ : Loc, ∃ σ0, (∀ k, dropK m σ k = k σ0) ∧ ∀ t v, lget t σ0 = some v → bit t m = false ∧ lget t σ = some v
  | [] => ⟨[], fun _ => rfl, fun t v h => by cases h⟩
  | p :: σ => by
    obtain ⟨σ0, h1, h2⟩ := dropK_eq m σ
    cases hb : bit p.1 m with
    | true =>
      refine ⟨σ0, fun k => ?_, fun t v h => ?_⟩
      · show bcase (bit p.1 m) (dropK m σ k) (dropK m σ fun r => k (p :: r)) = _
        rw [hb, bcase_true, h1]
      · obtain ⟨h3, h4⟩ := h2 t v h
        refine ⟨h3, ?_⟩
        rw [lget_cons]
        cases he : Nat.beq p.1 t with
        | true => rw [Nat.eq_of_beq_eq_true he] at hb; rw [hb] at h3; cases h3
        | false => exact h4
    | false =>
      refine ⟨p :: σ0, fun k => ?_, fun t v h => ?_⟩
      · show bcase (bit p.1 m) (dropK m σ k) (dropK m σ fun r => k (p :: r)) = _
        rw [hb, bcase_false, h1]
      · rw [lget_cons] at h ⊢
        cases he : Nat.beq p.1 t with
        | true =>
          rw [he, bcase_true] at h
          rw [bcase_true]
          exact ⟨by rw [← Nat.eq_of_beq_eq_true he]; exact hb, h⟩
        | false =>
          rw [he, bcase_false] at h
          rw [bcase_false]
          exact h2 t v h
theorem RR.drop {m : Nat} {σ σ0 : Loc} {reg reg' : T AV} (R : RR σ reg) (K : Keep m reg reg') (h : ∀ t v, lget t σ0 = some v → bit t m = false ∧ lget t σ = some v) : RR σ0 reg' := fun t v hv => by
  obtain ⟨h1, h2⟩ := h t v hv
  rw [K t h1]; exact R t v h2
theorem RR.cons {σ : Loc} {reg : T AV} (R : RR σ reg) {t : Nat} {v : AV} (h : T.get (digs t) reg = some v) : RR ((t, v) :: σ) reg := fun u w hw => by
  rw [lget_cons] at hw
  cases he : Nat.beq t u with
  | true =>
    rw [show Nat.beq (t, v).1 u = true from he, bcase_true] at hw
    cases hw
    rw [← Nat.eq_of_beq_eq_true he]; exact h
  | false => rw [show Nat.beq (t, v).1 u = false from he, bcase_false] at hw; exact R u w hw
theorem app_lam {f : Bool} {k : KE} {reg : T AV} {σ : Loc} {h : Heap} {d : Dfr} (R : RR σ reg) : ∀ {ts : List Nat} {σ0 : Loc}, RR σ0 reg → good (appC f ts (lamC f ts σ0 k) σ h d) → ∃ σ', RR σ' reg ∧ good (k σ' h d)
  | [], σ0, R0, g => by
    refine ⟨σ0, R0, ?_⟩
    cases f with
    | true => exact g
    | false =>
      cases d with
      | nil => exact g
      | cons x d => exact g.elim
  | t :: ts, σ0, R0, g => by
    obtain ⟨v, h1, g⟩ := good_oc (o := lget t σ) (k := fun v => appC f ts (lamC f ts ((t, v) :: σ0) k) σ h d) g
    exact app_lam R (R0.cons (R t v h1)) g
theorem join_good {b f : Bool} {nt as lv : Nat} {σ : Loc} {reg : T AV} {k : KE} {g : KE → Ans} (R : RR σ reg) (h : good (joinC b f nt as lv σ k g)) :
    ∃ kn, good (g kn) ∧ ∀ σ' reg' hp d, RR σ' reg' → Keep as reg reg' → good (kn σ' hp d) → ∃ σ2, RR σ2 reg' ∧ good (k σ2 hp d) := by
  unfold joinC at h
  cases b with
  | false => exact ⟨k, h, fun σ' reg' hp d R' _ g => ⟨σ', R', g⟩⟩
  | true =>
    rw [xb_true] at h
    obtain ⟨ts, e⟩ := bitsK_eq nt (Nat.land as lv)
    rw [e] at h
    obtain ⟨σ0, e0, h0⟩ := dropK_eq as σ
    rw [e0, JO_eq] at h
    exact ⟨_, h, fun σ' reg' hp d R' K g => app_lam R' (R.drop K h0) g⟩

theorem onLv_eq (L : Lv) (k : Bool → Nat → List (Nat × Nat) → Nat → Ans) : onLv L k = k L.f L.n L.x L.r := by cases L; rfl
theorem asgC_seq (a b : Code) : asgC (.seq a b) = Nat.lor (asgC a) (asgC b) := rfl
variable {fu : Nat} {cl : CL} {cx : Cx}
def CompOk (P : Program) (hint : FuncId → Nat) (orc : Orc) (fu : Nat) (cl : CL) (cx : Cx) (c : Code) : Prop :=
  ∀ L σ reg h d K, RR σ reg → good (comp P fu c cx.nt cl L σ h d K) → Runs P hint orc cx c ⟨reg, [], h, d⟩ (XP K (asgC c) reg)
theorem comp_seq {a b : Code} (ha : CompOk P hint orc fu cl cx a) (hb : CompOk P hint orc fu cl cx b) : CompOk P hint orc fu cl cx (.seq a b) := by
  intro L σ reg h d K R g
  have g : good (cSeq a b (comp P fu a) (comp P fu b) cx.nt cl L σ h d K) := g
  unfold cSeq at g
  rw [onLv_eq, xf_eq] at g
  unfold cSeq1 at g
  obtain ⟨kn, g, hk⟩ := join_good R g
  refine Runs.seq (Runs.mono (fun r hr => ?_) (ha _ σ reg h d _ R g))
  obtain ⟨x, reg', loc', h', d'⟩ := r
  obtain ⟨σ', h1, h2, h3, h4⟩ := hr
  have h2 : loc' = [] := h2
  subst h2
  cases x with
  | normal =>
    have K1 : Keep (asgC a) reg reg' := h3 rfl
    obtain ⟨σ2, h5, h6⟩ := hk σ' reg' h' d' h1 K1 h4
    exact Runs.mono (fun r hr => XP.trans K1 hr) (hb _ σ2 reg' h' d' K h5 h6)
  | exit j => exact ⟨σ', h1, rfl, fun hp => (h3 hp).weak fun t => lor_left, h4⟩
  | goto j => exact ⟨σ', h1, rfl, fun hp => (h3 hp).weak fun t => lor_left, h4⟩
  | ret => exact ⟨σ', h1, rfl, fun hp => (h3 hp).weak fun t => lor_left, h4⟩
  | panic c => exact ⟨σ', h1, rfl, fun hp => Bool.noConfusion hp, h4⟩
theorem comp_cond {x : Operand} {a b : Code} (ha : CompOk P hint orc fu cl cx a) (hb : CompOk P hint orc fu cl cx b) : CompOk P hint orc fu cl cx (.cond x a b) := by
  intro L σ reg h d K R g
  obtain ⟨v, h1, g⟩ := ev_good R.ev (x := x) (k := fun v => IFB v (comp P fu a cx.nt cl L σ h d K) (comp P fu b cx.nt cl L σ h d K)) g
  obtain ⟨t, h2, g⟩ := IFB_good g
  refine Runs.cond (v := v) (t := t) h1 h2 ?_
  cases t with
  | true => exact Runs.mono (fun r hr => XP.weak (fun t => lor_left) hr) (ha L σ reg h d K R g)
  | false => exact Runs.mono (fun r hr => XP.weak (fun t => lor_right) hr) (hb L σ reg h d K R g)
theorem comp_block {id : Nat} {b : Code} (hb : CompOk P hint orc fu cl cx b) : CompOk P hint orc fu cl cx (.block id b) := by
  intro L σ reg h d K R g
  have g : good (cBlock id b (comp P fu b) cx.nt cl L σ h d K) := g
  unfold cBlock at g
  rw [onLv_eq] at g
  obtain ⟨kn, g, hk⟩ := join_good R g
  refine Runs.block (Runs.mono (fun r hr => ?_) (hb _ σ reg h d _ R g))
  obtain ⟨x, reg', loc', h', d'⟩ := r
  obtain ⟨σ', h1, h2, h3, h4⟩ := hr
  have h2 : loc' = [] := h2
  subst h2
  have nrm : good (kn σ' h' d') → Keep (asgC b) reg reg' → XP K (asgC (.block id b)) reg (.normal, ⟨reg', [], h', d'⟩) := fun g k => by
    obtain ⟨σ2, h5, h6⟩ := hk σ' reg' h' d' h1 k g
    exact ⟨σ2, h5, rfl, fun _ => k, h6⟩
  cases x with
  | normal => exact nrm h4 (h3 rfl)
  | exit j =>
    have h4 : good (xb (Nat.beq j id) kn (K (.exit j)) σ' h' d') := h4
    show (bcase (Nat.beq j id) (Res.fin (AX.normal, (⟨reg', [], h', d'⟩ : St))) (.fin (.exit j, ⟨reg', [], h', d'⟩))).all _
    cases hj : Nat.beq j id with
    | true => rw [hj, xb_true] at h4; rw [bcase_true]; exact nrm h4 (h3 rfl)
    | false => rw [hj, xb_false] at h4; rw [bcase_false]; exact ⟨σ', h1, rfl, h3, h4⟩
  | goto j => exact ⟨σ', h1, rfl, h3, h4⟩
  | ret => exact ⟨σ', h1, rfl, h3, h4⟩
  | panic c => exact ⟨σ', h1, rfl, h3, h4⟩
theorem LP_succ {β : Type} (n : Nat) (z : β) (f : β → β) : LP (n + 1) z f = f (LP n z f) := rfl
theorem LP_zero {β : Type} (z : β) (f : β → β) : LP 0 z f = z := rfl
theorem comp_loop {b : Code} (hb : CompOk P hint orc fu cl cx b) : CompOk P hint orc fu cl cx (.loop b) := by
  intro L σ reg h d K R g
  have g : good (cLoop fu b (comp P fu b) cx.nt cl L σ h d K) := g
  unfold cLoop at g
  rw [onLv_eq, xf_eq] at g
  generalize liveC b ⟨L.f, 0, L.x, L.r⟩ = lv at g
  obtain ⟨ts, e⟩ := bitsK_eq cx.nt (Nat.land (asgC b) lv)
  rw [e] at g
  obtain ⟨σ0, e0, h0⟩ := dropK_eq (asgC b) σ
  rw [e0] at g
  unfold cLoop1 at g
  have main : ∀ n σ1 reg1 h1 d1, RR σ1 reg1 → Keep (asgC b) reg reg1 →
      good (appC L.f ts (LP n (lamC L.f ts [] deadK) fun j => lamC L.f ts σ0 fun σ h d => comp P fu b cx.nt cl ⟨L.f, lv, L.x, L.r⟩ σ h d (seqX (fun σ h d => appC L.f ts j σ h d) K)) σ1 h1 d1) →
      Runs P hint orc cx (.loop b) ⟨reg1, [], h1, d1⟩ (XP K (asgC b) reg) := by
    intro n
    induction n with
    | zero =>
      intro σ1 reg1 h1 d1 R1 K1 g
      rw [LP_zero] at g
      obtain ⟨σ2, _, g⟩ := app_lam R1 (RR.nil reg1) g
      exact g.elim
    | succ n ih =>
      intro σ1 reg1 h1 d1 R1 K1 g
      rw [LP_succ] at g
      obtain ⟨σ2, R2, g⟩ := app_lam R1 (R.drop K1 h0) g
      refine Runs.loop (Runs.mono (fun r hr => ?_) (hb _ σ2 reg1 h1 d1 _ R2 g))
      obtain ⟨x, reg', loc', h', d'⟩ := r
      obtain ⟨σ', g1, g2, g3, g4⟩ := hr
      have g2 : loc' = [] := g2
      subst g2
      cases x with
      | normal => exact ih σ' reg' h' d' g1 (K1.same (g3 rfl)) g4
      | exit j => exact ⟨σ', g1, rfl, fun hp => K1.same (g3 hp), g4⟩
      | goto j => exact ⟨σ', g1, rfl, fun hp => K1.same (g3 hp), g4⟩
      | ret => exact ⟨σ', g1, rfl, fun hp => K1.same (g3 hp), g4⟩
      | panic c => exact ⟨σ', g1, rfl, fun hp => Bool.noConfusion hp, g4⟩
  exact main fu σ reg h d R (Keep.refl _ _) g
theorem comp_region (C : ClOk P hint orc cl) (F : Full cx) (id : Nat) (ops : Array Oper) (draw : Bool) : CompOk P hint orc fu cl cx (.region id ops draw) := by
  intro L σ reg h d K R g
  obtain ⟨n, h1⟩ := region_good (k := K .normal) (kp := fun σ d c h => K (.panic c) σ h d) C F ops draw R g
  refine Runs.step (n := n) (Res.all_mono (fun r hr => ?_) h1)
  obtain ⟨x, s⟩ := r
  cases x with
  | normal =>
    obtain ⟨σ', h1, h2, h3, h4⟩ := hr
    exact ⟨σ', h1, h2, fun _ => h3, h4⟩
  | panic c =>
    obtain ⟨σ', h1, h2, h4⟩ := hr
    exact ⟨σ', h1, h2, fun hp => Bool.noConfusion hp, h4⟩
  | _ => exact hr.elim
theorem comp_ok (C : ClOk P hint orc cl) (F : Full cx) : ∀ c : Code, CompOk P hint orc fu cl cx c
  | .skip => fun L σ reg h d K R g => Runs.step (n := 0) (c := .skip) ⟨σ, R, rfl, fun _ => Keep.refl _ _, g⟩
  | .region id ops draw => comp_region C F id ops draw
  | .seq a b => comp_seq (comp_ok C F a) (comp_ok C F b)
  | .cond x a b => comp_cond (comp_ok C F a) (comp_ok C F b)
  | .block id b => comp_block (comp_ok C F b)
  | .loop b => comp_loop (comp_ok C F b)
  | .rangeFunc _ _ _ _ => fun L σ reg h d K R g => good_no g
  | .exit id => fun L σ reg h d K R g => Runs.step (n := 0) (c := .exit id) ⟨σ, R, rfl, fun _ => Keep.refl _ _, g⟩
  | .scope _ => fun L σ reg h d K R g => good_no g
  | .label l => fun L σ reg h d K R g => Runs.step (n := 0) (c := .label l) ⟨σ, R, rfl, fun _ => Keep.refl _ _, g⟩
  | .goto _ => fun L σ reg h d K R g => good_no g
  | .ret => fun L σ reg h d K R g => Runs.step (n := 0) (c := .ret) ⟨σ, R, rfl, fun _ => Keep.refl _ _, g⟩
  | .refuse _ => fun L σ reg h d K R g => good_no g
end
end Go.Ev

namespace Go.Ev
open Go
section
variable {P : Program} {orc : Orc}

theorem ones_sub {n m : Nat} (h : n ≤ m) : Nat.land (ones m) (ones n) = ones n := by
  have e : ∀ k, ones k = 2 ^ k - 1 := fun k => by
    show 1 <<< k - 1 = _
    rw [Nat.one_shiftLeft]
  rw [e, e]
  apply Nat.eq_of_testBit_eq
  intro i
  show ((2 ^ m - 1) &&& (2 ^ n - 1)).testBit i = _
  rw [Nat.testBit_and, Nat.testBit_two_pow_sub_one, Nat.testBit_two_pow_sub_one]
  by_cases hi : i < n
  · simp [hi, Nat.lt_of_lt_of_le hi h]
  · simp [hi]
theorem fullH_eq {f : FuncId} {fn : Func} (h : P.funcs[f]? = some fn) : fullH P f = ones fn.ntmps := by unfold fullH; rw [h]
theorem cxOf_full {f : FuncId} {fn : Func} (h : P.funcs[f]? = some fn) : Full (cxOf (fullH P) f fn) := fun t ht => by
  show bit t (fullH P f) = true
  rw [fullH_eq h]; exact ones_bit _ _ ht

theorem arg_good : ∀ {n i : Nat} {l : List AV} {σ : Loc} {k : Loc → Ans}, good (argC n i l σ k) → l.length = n ∧ ∃ σ', good (k σ') ∧ ∀ t v, lget t σ' = some v → (i ≤ t ∧ t < i + n ∧ l[t - i]? = some v) ∨ lget t σ = some v
  | 0, i, l, σ, k, g => by
    cases l with
    | nil => exact ⟨rfl, σ, g, fun t v h => .inr h⟩
    | cons a l => exact g.elim
  | n + 1, i, l, σ, k, g => by
    cases l with
    | nil => exact g.elim
    | cons a l =>
      have g : good (argC n (i + 1) l ((i, a) :: σ) k) := g
      obtain ⟨h1, σ', h2, h3⟩ := arg_good g
      refine ⟨by simp [h1], σ', h2, fun t v hv => ?_⟩
      rcases h3 t v hv with ⟨h4, h5, h6⟩ | h4
      · refine .inl ⟨by omega, by omega, ?_⟩
        rw [show t - i = (t - (i + 1)) + 1 by omega, List.getElem?_cons_succ]; exact h6
      · rw [lget_cons] at h4
        cases he : Nat.beq i t with
        | true =>
          rw [show Nat.beq (i, a).1 t = true from he, bcase_true] at h4
          have e := Nat.eq_of_beq_eq_true he
          subst e
          exact .inl ⟨Nat.le_refl _, by omega, by rw [Nat.sub_self]; exact h4⟩
        | false => rw [show Nat.beq (i, a).1 t = false from he, bcase_false] at h4; exact .inr h4
theorem enter_good {f : FuncId} {fn : Func} (hf : P.funcs[f]? = some fn) {n : Nat} (hn : Nat.ble n fn.ntmps = true) {args : List AV} {h : Heap} {k : Loc → Ans} (g : good (argC n 0 args [] k)) :
    ∃ reg σ, enterSt (cxOf (fullH P) f fn) args h = some ⟨reg, [], h, []⟩ ∧ RR σ reg ∧ good (k σ) := by
  obtain ⟨h1, σ, h2, h3⟩ := arg_good g
  refine ⟨setL args 0 .e, σ, ?_, fun t v hv => ?_, h2⟩
  · unfold enterSt
    have : argsOk (lenL args) (cxOf (fullH P) f fn) = true := by
      unfold argsOk
      rw [lenL_eq, h1]
      show bcase (Nat.ble n fn.ntmps) (Nat.beq (Nat.land (fullH P f) (ones n)) (ones n)) false = true
      rw [hn, bcase_true, fullH_eq hf, ones_sub (Nat.le_of_ble_eq_true hn), Nat.beq_refl]
    rw [this]; rfl
  · rcases h3 t v hv with ⟨_, h4, h5⟩ | h4
    · rw [get_setL, if_pos ⟨Nat.zero_le _, by omega⟩]; exact h5
    · cases h4

theorem res1_good {r : ResultVar} {σ : Loc} {s : St} {h : Heap} {k : AV → Ans} (R : RR σ s.reg) (hl : s.loc = []) (hh : s.hp = h) (g : good (resC1 P r σ h k)) : ∃ v, resOne P r s = some v ∧ good (k v) := by
  have look : ∀ {t : Nat} {v : AV}, lget t σ = some v → look t s.reg s.loc = some v := fun {t v} e => by rw [look_def, hl, lget_nil, ocase_none]; exact R t v e
  cases r with
  | tmp t =>
    obtain ⟨v, h1, g⟩ := good_oc (o := lget t σ) (k := k) g
    exact ⟨v, look h1, g⟩
  | cell t ty =>
    obtain ⟨p, h1, g⟩ := good_oc (o := lget t σ) (k := fun p => ocase (aggSz P ty) .no fun s => ocase s (LD p h k) fun n => LDN n p h k) g
    obtain ⟨v, h2, g⟩ := ld_good g
    refine ⟨v, ?_, g⟩
    show (ocase (Ev.look t s.reg s.loc) none fun p => loadA P s.hp ty p) = _
    rw [look h1, ocase_some, hh]; exact h2
theorem resL_good {σ : Loc} {s : St} {h : Heap} (R : RR σ s.reg) (hl : s.loc = []) (hh : s.hp = h) : ∀ {l : List ResultVar} {k : List AV → Ans}, good (resCL P l σ h k) → ∃ r, resA P l s = some r ∧ good (k r)
  | [], k, g => ⟨[], rfl, g⟩
  | x :: l, k, g => by
    obtain ⟨v, h1, g⟩ := res1_good R hl hh (k := fun v => resCL P l σ h fun r => k (v :: r)) g
    obtain ⟨r, h2, g⟩ := resL_good R hl hh g
    refine ⟨v :: r, ?_, g⟩
    rw [resA_cons, h1, ocase_some, h2]; rfl
theorem oneC_good {l : List AV} {k : AV → Ans} (g : good (oneC l k)) : ∃ v, oneOf (some l) = some v ∧ good (k v) := by
  cases l with
  | nil => exact ⟨_, rfl, g⟩
  | cons a l =>
    cases l with
    | nil => exact ⟨a, rfl, g⟩
    | cons b l => exact ⟨_, rfl, g⟩

theorem resOne_up {r : ResultVar} {s s' : St} (hr : ∀ t v, look t s.reg s.loc = some v → look t s'.reg s'.loc = some v) (hh : s.hp = s'.hp) {v : AV} (e : resOne P r s = some v) : resOne P r s' = some v := by
  cases r with
  | tmp t => exact hr t v e
  | cell t ty =>
    obtain ⟨p, h1, h2⟩ := ocase_some_iff.1 (show (ocase (look t s.reg s.loc) none fun p => loadA P s.hp ty p) = some v from e)
    show (ocase (look t s'.reg s'.loc) none fun p => loadA P s'.hp ty p) = some v
    rw [hr t p h1, ocase_some, ← hh]; exact h2
theorem resA_up {s s' : St} (hr : ∀ t v, look t s.reg s.loc = some v → look t s'.reg s'.loc = some v) (hh : s.hp = s'.hp) : ∀ {l : List ResultVar} {r : List AV}, resA P l s = some r → resA P l s' = some r
  | [], r, e => e
  | x :: l, r, e => by
    rw [resA_cons] at e ⊢
    obtain ⟨v, h1, h2⟩ := ocase_some_iff.1 e
    obtain ⟨q, h3, h4⟩ := consO_some.1 h2
    rw [resOne_up hr hh h1, ocase_some, resA_up hr hh h3]
    rw [h4]; rfl
theorem results_up {fn : Func} {s s' : St} (hr : ∀ t v, look t s.reg s.loc = some v → look t s'.reg s'.loc = some v) (hh : s.hp = s'.hp) {v : AV} (e : resultsA P fn s = some v) : resultsA P fn s' = some v := by
  unfold resultsA at e ⊢
  cases h : resA P fn.results.toList s with
  | none => rw [h] at e; cases e
  | some l => rw [h] at e; rw [resA_up hr hh h]; exact e
theorem leaveA_up {callD : CallD} {fn : Func} {s s' : St} (hr : ∀ t v, look t s.reg s.loc = some v → look t s'.reg s'.loc = some v) {Q : CX × Heap → Prop} : ∀ {ds : Dfr} {u : DM} {h : Heap}, (leaveA P ds callD fn s u h).all Q → (leaveA P ds callD fn s' u h).all Q
  | [], u, h, q => by
    rw [leaveA_nil] at q ⊢
    cases u with
    | panicking c => exact q
    | returning =>
      have q : (finC (resultsA P fn (atHp s h)) h).all Q := q
      show (finC (resultsA P fn (atHp s' h)) h).all Q
      cases hv : resultsA P fn (atHp s h) with
      | none => rw [hv] at q; exact q.elim
      | some v =>
        rw [hv] at q
        rw [results_up (s := atHp s h) (s' := atHp s' h) hr rfl hv]
        exact q
  | d :: ds, u, h, q => by
    rw [leaveA_cons, Res.all_bind] at q ⊢
    exact Res.all_mono (fun r hq => leaveA_up hr hq) q
theorem resAns_good {kr : KR} {kp : KP} : ∀ {r : RC}, good (resAns kr kp r) → r.all (CQ kr kp)
  | .fail _, g => g.elim
  | .fin (.ret v, h), g => g
  | .fin (.pan c, h), g => g
  | .ch n k, g => fun i hi => resAns_good (good_allN (f := fun i => resAns kr kp (k i)) g i hi)
theorem regOf_get (t : Nat) : ∀ σ : Loc, T.get (digs t) (regOf σ) = lget t σ
  | [] => T.get_e _
  | p :: σ => by
    show T.get (digs t) (T.set (digs p.1) (regOf σ) (some p.2)) = _
    rw [T.get_setn, lget_cons, regOf_get t σ]
    cases he : Nat.beq p.1 t with
    | true => rw [bcase_true, if_pos (Nat.eq_of_beq_eq_true he).symm]
    | false =>
      rw [bcase_false, if_neg]
      intro e
      rw [e, Nat.beq_refl] at he; cases he
theorem sel_good {σ : Loc} : ∀ {l : List ResultVar} {k : Loc → Ans}, good (selC l σ k) → ∃ σ', (∀ t v, lget t σ' = some v → lget t σ = some v) ∧ good (k σ')
  | [], k, g => ⟨[], fun t v h => (by cases h), g⟩
  | r :: l, k, g => by
    have g : good (xo (lget (resT r) σ) (selC l σ k) fun v => selC l σ fun q => k ((resT r, v) :: q)) := g
    cases hv : lget (resT r) σ with
    | none => rw [hv, xo_none] at g; exact sel_good g
    | some v =>
      rw [hv, xo_some] at g
      obtain ⟨σ', h1, g⟩ := sel_good (k := fun q => k ((resT r, v) :: q)) g
      refine ⟨_, fun t w hw => ?_, g⟩
      rw [lget_cons] at hw
      cases he : Nat.beq (resT r) t with
      | true =>
        rw [show Nat.beq (resT r, v).1 t = true from he, bcase_true] at hw
        cases hw
        rw [← Nat.eq_of_beq_eq_true he]; exact hv
      | false => rw [show Nat.beq (resT r, v).1 t = false from he, bcase_false] at hw; exact h1 t w hw

theorem slow_good {b : Bool} {f : FuncId} {fn : Func} (hf : P.funcs[f]? = some fn) {σ : Loc} {s : St} {d : Dfr} {u : DM} {h : Heap} {kr : KR} {kp : KP} (R : RR σ s.reg) (hl : s.loc = []) (g : good (slowC P orc b f fn σ d u h kr kp)) :
    (leaveA P d (callDF P (fullH P) (fix P (fullH P) orc 60)) fn s u h).all (CQ kr kp) := by
  obtain ⟨_, g⟩ := good_bc g
  obtain ⟨σ', h1, g⟩ := sel_good g
  obtain ⟨fn', h2, g⟩ := good_oc g
  rw [hf] at h2; cases h2
  refine leaveA_up (s := ⟨regOf σ', [], h, d⟩) (fun t v hv => ?_) (resAns_good g)
  rw [look_def] at hv ⊢
  rw [lget_nil, ocase_none, regOf_get] at hv
  rw [hl, lget_nil, ocase_none]
  exact R t v (h1 t v hv)
theorem end_good {b : Bool} {f : FuncId} {fn : Func} (hf : P.funcs[f]? = some fn) {x : AX} {s : St} {kr : KR} {kp : KP} {m : Nat} {reg : T AV} (g : XP (endX P orc b f fn kr kp) m reg (x, s)) :
    ∃ n, (bodyEnd P (callDF P (fullH P) (fix P (fullH P) orc n)) fn (x, s)).all (CQ kr kp) := by
  obtain ⟨σ, R, hl, _, g⟩ := g
  obtain ⟨rg, loc, h, d⟩ := s
  have hl : loc = [] := hl
  subst hl
  have ret : good (endN P orc b f fn kr kp σ h d) → ∃ n, (leaveA P d (callDF P (fullH P) (fix P (fullH P) orc n)) fn ⟨rg, [], h, d⟩ .returning h).all (CQ kr kp) := by
    intro g
    unfold endN ENDD at g
    cases d with
    | cons y d => exact ⟨60, slow_good hf R rfl g⟩
    | nil =>
      obtain ⟨l, h1, g⟩ := resL_good (s := ⟨rg, [], h, []⟩) R rfl rfl g
      obtain ⟨v, h2, g⟩ := oneC_good g
      refine ⟨0, ?_⟩
      rw [leaveA_nil]
      show (finC (resultsA P fn ⟨rg, [], h, []⟩) h).all _
      unfold resultsA
      rw [h1, h2]
      exact g
  cases x with
  | normal => exact ret g
  | ret => exact ret g
  | exit j => exact g.elim
  | goto j => exact g.elim
  | panic c =>
    have g : good (ENDD d (kp c h) (slowC P orc b f fn σ d (.panicking c) h kr kp)) := g
    unfold ENDD at g
    cases d with
    | cons y d => exact ⟨60, slow_good hf R rfl g⟩
    | nil => exact ⟨0, by show (leaveA P [] _ fn _ (.panicking c) h).all _; rw [leaveA_nil]; exact g⟩
theorem compF_good {fu : Nat} {cl : CL} (C : ClOk P (fullH P) orc cl) {f : FuncId} {n : Nat} {args : List AV} {h : Heap} {kr : KR} {kp : KP} (ho : orc f args h = none) (g : good (compF P fu orc f n cl args h kr kp)) :
    Calls P (fullH P) orc f args h (CQ kr kp) := by
  obtain ⟨fn, hf, g⟩ := good_oc g
  obtain ⟨c, hb, g⟩ := good_oc g
  obtain ⟨hn, g⟩ := good_bc g
  obtain ⟨reg, σ, he, R, g⟩ := enter_good (h := h) hf hn g
  rw [xf_eq, xf_eq] at g
  obtain ⟨n1, h1⟩ := comp_ok (hint := fullH P) (fu := fu) (cx := cxOf (fullH P) f fn) C (cxOf_full hf) c _ σ reg h [] _ R g
  have h2 : ((fix P (fullH P) orc n1).run (cxOf (fullH P) f fn) c ⟨reg, [], h, []⟩).all fun r => ∃ m, (bodyEnd P (callDF P (fullH P) (fix P (fullH P) orc m)) fn r).all (CQ kr kp) := by
    refine Res.all_mono (fun r hr => ?_) h1
    obtain ⟨x, s⟩ := r
    exact end_good hf hr
  obtain ⟨m, h3⟩ := Res.all_exists (fun r n m hnm hr => Res.le_all (bodyEnd_le (callDF_le (fix_le hnm).2) r) hr) h2
  refine ⟨max n1 m, ?_⟩
  unfold callOf
  rw [ho, ocase_none]
  unfold callBody
  rw [hf, ocase_some]
  unfold runBody
  rw [hb, ocase_some, he, ocase_some, Res.all_bind]
  refine Res.all_mono (fun r hr => Res.le_all (bodyEnd_le (callDF_le (fix_le (Nat.le_max_right n1 m)).2) r) hr) ?_
  exact Res.le_all ((fix_le (Nat.le_max_left n1 m)).1 _ _ _) h3

def okTab (P : Program) (orc : Orc) (T : CL → CL) : Prop := ∀ cl f args h kr kp, ClOk P (fullH P) orc cl → good (T cl f args h kr kp) → Calls P (fullH P) orc f args h (CQ kr kp)
noncomputable def tie (T : CL → CL) (n : Nat) : CL := nrec (fun _ _ _ _ _ => Ans.no) (fun _ ih => T ih) n
theorem tie_ok {T : CL → CL} (h : okTab P orc T) : ∀ n, ClOk P (fullH P) orc (tie T n)
  | 0 => fun f args hp k kp g => good_no g
  | n + 1 => fun f args hp k kp g => h (tie T n) f args hp k kp (tie_ok h n) g
theorem orc_good {f : FuncId} {args : List AV} {h : Heap} {kr : KR} {kp : KP} {r : AV × Heap} (ho : orc f args h = some r) (g : good (kr r.1 r.2)) : Calls P (fullH P) orc f args h (CQ kr kp) := by
  refine ⟨0, ?_⟩
  unfold callOf
  rw [ho, ocase_some]
  exact g
end
end Go.Ev

namespace Go.Ev
open Go
section
variable {P : Program} {orc : Orc}

abbrev FT := Nat → (Orc) → CL → CL
noncomputable def ND (m : Nat) (a b : FT) : FT := fun fu oR cl f args h kr kp => bcase (Nat.ble f m) (a fu oR cl f args h kr kp) (b fu oR cl f args h kr kp)
noncomputable def LF (m : Nat) (F : Nat → (Orc) → CL → List AV → Heap → KR → KP → Ans) : FT := fun fu oR cl f args h kr kp => bcase (Nat.beq f m) (F fu oR cl args h kr kp) .no
noncomputable def PRR (r : AV × Heap) (k : AV → Heap → Ans) : Ans := @Prod.rec AV Heap (fun _ => TY Ans) k r
noncomputable def TBL (X : FT) (fu : Nat) (oR : Orc) : CL → CL := fun cl f args h kr kp => ocase (oR f args h) (X fu oR cl f args h kr kp) fun r => PRR r kr
noncomputable def TIE (X : FT) (fu : Nat) (oR : Orc) (n : Nat) : CL := nrec (fun _ _ _ _ _ => Ans.no) (fun _ ih => TBL X fu oR ih) n
noncomputable def TR (v : AV) : Ans := IFB v .ok .no
def TabOk (P : Program) (X : FT) : Prop := ∀ fu oR cl f args h kr kp, ClOk P (fullH P) oR cl → oR f args h = none → good (X fu oR cl f args h kr kp) → Calls P (fullH P) oR f args h (CQ kr kp)
theorem ND_ok {m : Nat} {a b : FT} (ha : TabOk P a) (hb : TabOk P b) : TabOk P (ND m a b) := by
  intro fu oR cl f args h kr kp C ho g
  have g : good (bcase (Nat.ble f m) (a fu oR cl f args h kr kp) (b fu oR cl f args h kr kp)) := g
  cases hm : Nat.ble f m with
  | true => rw [hm, bcase_true] at g; exact ha fu oR cl f args h kr kp C ho g
  | false => rw [hm, bcase_false] at g; exact hb fu oR cl f args h kr kp C ho g
theorem LF_ok {m n : Nat} {F : Nat → (Orc) → CL → List AV → Heap → KR → KP → Ans} (e : F = fun fu oR => compF P fu oR m n) : TabOk P (LF m F) := by
  intro fu oR cl f args h kr kp C ho g
  obtain ⟨h1, g1⟩ := good_bc (b := Nat.beq f m) (x := F fu oR cl args h kr kp) g
  have hf := Nat.eq_of_beq_eq_true h1
  subst hf
  subst e
  exact compF_good (fu := fu) (n := n) C ho g1
theorem TIE_ok {X : FT} (hX : TabOk P X) {fu : Nat} : ∀ n, ClOk P (fullH P) orc (TIE X fu orc n)
  | 0 => fun f args h k kp g => good_no g
  | n + 1 => fun f args h k kp g => by
    have g : good (ocase (orc f args h) (X fu orc (TIE X fu orc n) f args h k kp) fun r => PRR r k) := g
    cases ho : orc f args h with
    | none => rw [ho, ocase_none] at g; exact hX fu orc _ f args h k kp (TIE_ok hX n) ho g
    | some v => rw [ho, ocase_some] at g; exact orc_good ho g

theorem TR_good {v : AV} (g : good (TR v)) : v = .bool true := by
  obtain ⟨t, h1, g⟩ := IFB_good g
  cases t with
  | false => exact g.elim
  | true =>
    cases v with
    | bool b => rw [show b = true from Option.some.inj h1]
    | _ => cases h1
noncomputable def Answer (X : FT) (fu : Nat) (orc : Orc) (k f : Nat) (args : List AV) (h : Heap) : Ans := TIE X fu orc k f args h (fun v _ => TR v) (fun _ _ => .no)
theorem run_true (X : FnsOk P) (hmix : P.follows .mixedOrders = true) {n : Nat} {J : Rho → Heap → World → Prop} (B : Base n J) (O : OrcOk P J orc)
    (hP : ∀ (f : Nat) (fn : Func) (c : Code), P.funcs[f]? = some fn → fn.body = some c → codeOk P n c = true) {T : FT} (hT : TabOk P T) {fu k f : Nat} {args : List AV} {h : Heap} (g : good (Answer T fu orc k f args h))
    {ρ : Rho} {args' : Array Value} {w : World} (G : J ρ h w) (S : Sim ρ h w) (A : VRL ρ args args'.toList) :
    Go.Calls P f args' w fun e w' => e = .returned (.bool true) ∧ ∃ ρ' h', Ext ρ h w ρ' h' w' := by
  obtain ⟨m, hm⟩ := TIE_ok (orc := orc) hT k f args h _ _ g
  refine (call_ok (hint := fullH P) X hmix B O hP m f args h _ ρ args' w G hm S A).mono ?_
  rintro e w' ⟨⟨x, h'⟩, ρ', hq, hx, hs, hE⟩
  cases x with
  | pan c => exact (show False from hq).elim
  | ret v =>
    have hv := TR_good (show good (TR v) from hq)
    subst hv
    cases e <;> first | exact hx.elim | skip
    rename_i u
    have hu : VR ρ' (.bool true) u := hx
    simp only [VR] at hu
    exact ⟨by rw [hu], ρ', h', hE⟩

def Calm (h : Heap) : Prop := ∀ b x, h.get b = some x → wr x = false
theorem Ext.below {ρ ρ' : Rho} {h h' : Heap} {w w' : World} (E : Ext ρ h w ρ' h' w') (hc : Calm h) : RowKit.Below w.heap.size w w' :=
  ⟨E.os, E.tape, E.output, E.size, fun k hk => E.frame k hk fun b x c hx hw => absurd hw (by rw [hc b x hx]; decide)⟩
theorem Sim.above {ρ : Rho} {h : Heap} {w w' : World} (S : Sim ρ h w) (b : RowKit.Below w.heap.size w w') : Sim ρ h w' where
  blk := fun i x hx => by
    obtain ⟨r, c, o, h1, h2, h3⟩ := S.blk i x hx
    refine ⟨r, c, o, h1, ?_, h3⟩
    have hr : r < w.heap.size := by
      rcases Nat.lt_or_ge r w.heap.size with h | h
      · exact h
      · rw [Array.getElem?_eq_none h] at h2; cases h2
    rw [b.block r hr]; exact h2
  inj := S.inj
  fresh := S.fresh
theorem Ext.still {ρ : Rho} {h : Heap} {w w' : World} (b : RowKit.Below w.heap.size w w') : Ext ρ h w ρ h w' where
  le := fun _ _ h => h
  old := fun _ _ => rfl
  next := Nat.le_refl _
  size := b.size
  frame := fun r hr _ => b.block r hr
  img := fun i x r c hx hw hr _ => ⟨i, x, c, hx, hw, hr⟩
  os := b.os
  tape := b.tape
  output := b.output
  dom := fun i x hx => .inl ⟨x, hx, rfl⟩
end
end Go.Ev

namespace Go.Ev
open Go

noncomputable def hList (l : List (Nat × ABlk)) : Heap := l.foldr (fun p h => h.set p.1 (some p.2)) ⟨100, .e⟩
theorem hList_next : ∀ l : List (Nat × ABlk), (hList l).next = 100
  | [] => rfl
  | p :: l => hList_next l
theorem hList_get : ∀ {l : List (Nat × ABlk)} {b : Nat} {x : ABlk}, (hList l).get b = some x → (b, x) ∈ l
  | [], b, x, h => by
    have h : T.get (digs b) .e = some x := h
    rw [T.get_e] at h; cases h
  | p :: l, b, x, h => by
    have h : ((hList l).set p.1 (some p.2)).get b = some x := h
    rw [Heap.get_set] at h
    by_cases e : b = p.1
    · rw [if_pos e] at h
      cases h
      subst e
      exact List.mem_cons_self ..
    · rw [if_neg e] at h
      exact List.mem_cons_of_mem _ (hList_get h)
structure Sl where
  r : Nat
  off : Nat
  len : Nat
  cap : Nat
  q : Nat × Nat
  sy : Nat → Nat × Nat := fun _ => (0, 0)
def rho0 (n : Nat) (cnt : Nat → Nat) (s : Sl) : Rho := fun b => if b < n then some (b, cnt b) else if b = 50 then some (s.r, s.off) else if b = 51 then some (s.len, s.cap) else if b = 52 then some s.q else if 60 ≤ b ∧ b < 100 then some (s.sy b) else none
def Laid (n : Nat) (cnt : Nat → Nat) (l : List (Nat × ABlk)) (q : Nat × Nat) (w : World) : Prop := ∀ p ∈ l, p.1 < n ∧ wr p.2 = false ∧ ∃ o, w.heap[p.1]? = some o ∧ ∀ ρ : Rho, ρ 52 = some q → BR ρ (cnt p.1) p.2 o
theorem Laid.calm {n : Nat} {cnt : Nat → Nat} {l : List (Nat × ABlk)} {q : Nat × Nat} {w : World} (h : Laid n cnt l q w) : Calm (hList l) := fun b x hx => (h _ (hList_get hx)).2.1
theorem Laid.above {n : Nat} {cnt : Nat → Nat} {l : List (Nat × ABlk)} {q : Nat × Nat} {w w' : World} (h : Laid n cnt l q w) (b : RowKit.Below w.heap.size w w') : Laid n cnt l q w' := fun p hp => by
  obtain ⟨h1, h2, o, h3, h4⟩ := h p hp
  refine ⟨h1, h2, o, ?_, h4⟩
  have hr : p.1 < w.heap.size := by
    rcases Nat.lt_or_ge p.1 w.heap.size with h | h
    · exact h
    · rw [Array.getElem?_eq_none h] at h3; cases h3
  rw [b.block _ hr]; exact h3
theorem Laid.sim {n : Nat} {cnt : Nat → Nat} {l : List (Nat × ABlk)} {w : World} (hn : n ≤ 50) {s : Sl} (h : Laid n cnt l s.q w) : Sim (rho0 n cnt s) (hList l) w where
  blk := fun b x hx => by
    obtain ⟨h1, _, o, h3, h4⟩ := h _ (hList_get hx)
    exact ⟨b, cnt b, o, if_pos h1, h3, h4 _ (by unfold rho0; rw [if_neg (by omega), if_neg (by omega), if_neg (by omega), if_pos rfl])⟩
  inj := fun b b' x x' r c c' hx hx' e e' => by
    obtain ⟨h1, _⟩ := h _ (hList_get hx)
    obtain ⟨h2, _⟩ := h _ (hList_get hx')
    have h1 : b < n := h1
    have h2 : b' < n := h2
    unfold rho0 at e e'
    rw [if_pos h1] at e
    rw [if_pos h2] at e'
    cases e; cases e'; rfl
  fresh := fun b hb => by
    rw [hList_next] at hb
    unfold rho0
    rw [if_neg (by omega), if_neg (by omega), if_neg (by omega), if_neg (by omega), if_neg (by omega)]
noncomputable def roB (k : IntKind) (ms : List Nat) (ty : TypeId) : ABlk := .cells (setL (ms.map (AV.int k)) 0 .e) ms.length ty .ro
theorem roB_ok {ρ : Rho} {k : IntKind} {ms : List Nat} {ty : TypeId} (hm : ∀ m ∈ ms, m ≤ maxu k) : BR ρ ms.length (roB k ms ty) (.cells (ms.map fun m => Value.int k (sg k m)).toArray ty (0, 0)) := by
  refine ⟨_, 0, 0, rfl, .inl (Nat.le_refl _), by simp, Nat.le_refl _, fun _ => rfl, fun i a hi => ?_, fun i a hi => ?_⟩
  · rw [get_setL] at hi
    split at hi
    · rename_i hc
      rw [Nat.sub_zero, List.getElem?_map] at hi
      cases hg : ms[i]? with
      | none => rw [hg] at hi; cases hi
      | some m =>
        rw [hg] at hi
        cases hi
        refine ⟨.int k (sg k m), by simp [hg], ?_⟩
        simp only [VR]
        exact ⟨trivial, hm m (List.mem_of_getElem? hg)⟩
    · rw [T.get_e] at hi; cases hi
  · rw [get_setL] at hi
    split at hi
    · rename_i hc
      simpa using hc.2
    · rw [T.get_e] at hi; cases hi

section
variable {P : Program} {n : Nat} {cnt : Nat → Nat} {l : List (Nat × ABlk)}
structure JJ (n : Nat) (cnt : Nat → Nat) (s : Sl) (W : World) (ρ : Rho) (h : Heap) (w : World) : Prop where
  le : Rle (rho0 n cnt s) ρ
  below : RowKit.Below W.heap.size W w
  own : ∀ b x r c, h.get b = some x → wr x = true → ρ b = some (r, c) → W.heap.size ≤ r
theorem JJ.base (s : Sl) (W : World) : Base n (JJ n cnt s W) where
  mono := fun h e => ⟨h.le.trans e.le, h.below.trans ⟨e.os, e.tape, e.output, e.size, fun k hk => e.frame k (Nat.lt_of_lt_of_le hk h.below.size) fun b x c hx hw hr => absurd (h.own b x k c hx hw hr) (by omega)⟩,
    fun b x r c hx hw hr => by
      have h0 := h.below.size
      rcases Nat.lt_or_ge r W.heap.size with h1 | h1
      · obtain ⟨b0, x0, c0, g1, g2, g3⟩ := e.img b x r c hx hw hr (Nat.lt_of_lt_of_le h1 h0)
        exact h.own b0 x0 r c0 g1 g2 g3
      · exact h1⟩
  gr := fun h g hg => ⟨cnt g, h.le g _ (if_pos hg)⟩
theorem JJ.start {s : Sl} {W : World} {h : Heap} (hc : Calm h) : JJ n cnt s W (rho0 n cnt s) h W :=
  ⟨Rle.refl _, RowKit.Below.refl _ _, fun b x r c hx hw _ => absurd hw (by rw [hc b x hx]; decide)⟩
theorem noOrc {J : Rho → Heap → World → Prop} : OrcOk P J noO := fun f args h ρ args' w v h1 e => by cases e

theorem alone (X : FnsOk P) (hmix : P.follows .mixedOrders = true) (hn : n ≤ 50) (hP : ∀ (f : Nat) (fn : Func) (c : Code), P.funcs[f]? = some fn → fn.body = some c → codeOk P n c = true)
    {T : FT} (hT : TabOk P T) {fu k f : Nat} {args : List AV} {args' : Array Value} (g : good (Answer T fu noO k f args (hList l))) {w : World} {s : Sl} (L : Laid n cnt l s.q w) (A : VRL (rho0 n cnt s) args args'.toList) :
    Go.Calls P f args' w fun e w' => e = .returned (.bool true) ∧ RowKit.Below w.heap.size w w' :=
  (run_true X hmix (JJ.base (cnt := cnt) s w) noOrc hP hT g (JJ.start L.calm) (L.sim hn) A).mono fun e w' ⟨h1, ρ', h', h2⟩ => ⟨h1, h2.below L.calm⟩

noncomputable def orcL (fa : Nat) (t : Nat → Option AV) (fr : List Nat) : Orc := fun f a h =>
  bcase (Nat.beq f fa) (match a with | [.oslice 50, .int .i64 i] => ocase (t i) none fun v => some (v, h) | _ => none) (bcase (memN f fr) (match a with | [] => some (.bool true, h) | _ => none) none)
theorem orcL_ok (hn : n ≤ 50) {s : Sl} {W : World} (L : Laid n cnt l s.q W) {fa : Nat} {t : Nat → Option AV} {fr : List Nat}
    (ha : ∀ i v, t i = some v → ∃ x : Nat, VR (rho0 n cnt s) v (.int .i64 (x : Int)) ∧ ∀ w, RowKit.Below W.heap.size W w → Go.Calls P fa #[.slice (some ⟨s.r, s.off, none⟩) s.len s.cap, .int .i64 (sg .i64 i)] w fun e w' => e = .returned (.int .i64 (x : Int)) ∧ w' = w)
    (hr : ∀ f ∈ fr, ∀ w, Laid n cnt l s.q w → Go.Calls P f #[] w fun e w' => e = .returned (.bool true) ∧ RowKit.Below w.heap.size w w') : OrcOk P (JJ n cnt s W) (orcL fa t fr) := by
  intro f args h ρ args' w v hp e G S A
  have hb := G.below
  unfold orcL at e
  cases hf : Nat.beq f fa with
  | true =>
    rw [hf, bcase_true] at e
    have hf := Nat.eq_of_beq_eq_true hf
    subst hf
    split at e
    · rename_i i
      obtain ⟨v9, e9, e⟩ := ocase_some_iff.1 e
      cases e
      obtain ⟨x, hx, hc⟩ := ha i v e9
      obtain ⟨v0, vs, e0, h0, A⟩ := VRL.cons_iff.1 A
      obtain ⟨v1, vs1, e1, h1, A⟩ := VRL.cons_iff.1 A
      have e2 := VRL.nil_iff.1 A
      subst e2; subst e1
      simp only [VR] at h0 h1
      obtain ⟨r, off, len, cap, g1, g2, g3⟩ := h0
      have p1 : rho0 n cnt s 50 = some (s.r, s.off) := by unfold rho0; rw [if_neg (by omega), if_pos rfl]
      have p2 : rho0 n cnt s 51 = some (s.len, s.cap) := by unfold rho0; rw [if_neg (by omega), if_neg (by omega), if_pos rfl]
      have q1 := G.le 50 _ p1
      have q2 := G.le 51 _ p2
      rw [g1] at q1
      rw [g2] at q2
      cases q1; cases q2
      have ea : args' = #[.slice (some ⟨s.r, s.off, none⟩) s.len s.cap, .int .i64 (sg .i64 i)] := by
        cases args' with
        | mk la =>
          have e0 : la = [v0, v1] := e0
          rw [e0, g3, h1.1]
      subst ea
      refine (hc w hb).mono ?_
      rintro e w' ⟨rfl, rfl⟩
      exact ⟨_, ρ, rfl, VR.mono G.le _ _ hx, S, Ext.refl _ _ _⟩
    · cases e
  | false =>
    rw [hf, bcase_false] at e
    cases hm : memN f fr with
    | false => rw [hm, bcase_false] at e; cases e
    | true =>
      rw [hm, bcase_true] at e
      split at e
      · cases e
        have ea : args' = #[] := by
          have := VRL.nil_iff.1 A
          cases args' with
          | mk la => have this : la = [] := this; rw [this]
        subst ea
        refine (hr f ((memN_iff f fr).1 hm) w (L.above hb)).mono ?_
        rintro e w' ⟨rfl, b⟩
        exact ⟨_, ρ, rfl, by simp only [VR], S.above b, Ext.still b⟩
      · cases e
theorem known (X : FnsOk P) (hmix : P.follows .mixedOrders = true) (hn : n ≤ 50) (hP : ∀ (f : Nat) (fn : Func) (c : Code), P.funcs[f]? = some fn → fn.body = some c → codeOk P n c = true)
    {T : FT} (hT : TabOk P T) {fu k f : Nat} {s : Sl} {W : World} (L : Laid n cnt l s.q W) {orc : Orc} (O : OrcOk P (JJ n cnt s W) orc) (g : good (Answer T fu orc k f [.oslice 50] (hList l))) :
    Go.Calls P f #[.slice (some ⟨s.r, s.off, none⟩) s.len s.cap] W fun e w' => e = .returned (.bool true) ∧ RowKit.Below W.heap.size W w' := by
  refine (run_true X hmix (JJ.base (cnt := cnt) s W) O hP hT g (JJ.start L.calm) (L.sim hn) (VRL.cons ?_ VRL.nil)).mono fun e w' ⟨h1, ρ', h', h2⟩ => ⟨h1, h2.below L.calm⟩
  simp only [VR]
  refine ⟨s.r, s.off, s.len, s.cap, ?_, ?_, rfl⟩
  · unfold rho0; rw [if_neg (by omega), if_pos rfl]
  · unfold rho0; rw [if_neg (by omega), if_neg (by omega), if_pos rfl]
end
end Go.Ev
