import Derived.Test.YtodmelapdoahpaaGreatDoorSdF
import Derived.Recover
set_option linter.all false
namespace Go.Ev
open Go
section
variable {P : Program}

theorem pw_cases {α : Type} {R : α → α → Prop} : ∀ {l : List α}, l.Pairwise R → ∀ {x y : α}, x ∈ l → y ∈ l → x = y ∨ R x y ∨ R y x
  | [], _, _, _, hx, _ => by cases hx
  | z :: l, h, x, y, hx, hy => by
    rw [List.pairwise_cons] at h
    rcases List.mem_cons.1 hx with e1 | hx
    · rcases List.mem_cons.1 hy with e2 | hy
      · exact .inl (e1.trans e2.symm)
      · exact .inr (.inl (e1 ▸ h.1 y hy))
    · rcases List.mem_cons.1 hy with e2 | hy
      · exact .inr (.inr (e2 ▸ h.1 x hx))
      · exact pw_cases h.2 hx hy
theorem pend_i {l : Pend} (h : l.Pairwise (fun x y => x.1 ≠ y.1 ∧ x.2.1 ≠ y.2.1)) {i b b' : Nat} {y y' : ABlk} (h1 : (i, b, y) ∈ l) (h2 : (i, b', y') ∈ l) : b = b' ∧ y = y' := by
  rcases pw_cases h h1 h2 with e | e | e
  · cases e; exact ⟨rfl, rfl⟩
  · exact absurd rfl e.1
  · exact absurd rfl e.1
theorem pend_b {l : Pend} (h : l.Pairwise (fun x y => x.1 ≠ y.1 ∧ x.2.1 ≠ y.2.1)) {i i' b : Nat} {y y' : ABlk} (h1 : (i, b, y) ∈ l) (h2 : (i', b, y') ∈ l) : i = i' ∧ y = y' := by
  rcases pw_cases h h1 h2 with e | e | e
  · cases e; exact ⟨rfl, rfl⟩
  · exact absurd rfl e.2
  · exact absurd rfl e.2
theorem pend_ids {l : Pend} (h : l.Pairwise (fun x y => x.1 ≠ y.1 ∧ x.2.1 ≠ y.2.1)) : l.Pairwise (fun x y => x.2.1 ≠ y.2.1) := h.imp fun h => h.2
theorem HX_same {listed : Array Bool} {j : Nat} {pend : Pend} {h : Heap} (hn : ∀ i b y, (i, b, y) ∈ pend → i ≠ j) : HX (listed.setIfInBounds j true) pend h = HX listed pend h := by
  unfold HX
  congr 1
  refine List.filter_congr fun x hx => ?_
  obtain ⟨i, b, y⟩ := x
  exact getD_set_ne false (fun e => hn i b y hx e.symm)

theorem Same.incorp {h g : Heap} (s : Same h g) : ∀ l : Pend, Same (incorpAll l h) (incorpAll l g)
  | [] => s
  | x :: l => by
    have ih := Same.incorp s l
    rw [incorpAll_cons, incorpAll_cons]
    unfold Same Heap.set at *
    simp only [ih]
theorem Sim.more {ρ : Rho} {H G : Heap} {w : World} (s : Sim ρ H w) (e : Same G H) (hn : H.next ≤ G.next) : Sim ρ G w :=
  ⟨fun b x hb => s.blk b x (by rw [← e.get]; exact hb), fun b b' x x' r c c' h1 h2 => s.inj b b' x x' r c c' (by rw [← e.get]; exact h1) (by rw [← e.get]; exact h2), fun b hb => s.fresh b (Nat.le_trans hn hb)⟩
theorem Ext.more {ρ0 ρ : Rho} {h0 H G : Heap} {w0 w : World} (x : Ext ρ0 h0 w0 ρ H w) (e : Same G H) (hn : H.next ≤ G.next) : Ext ρ0 h0 w0 ρ G w :=
  ⟨x.le, x.old, Nat.le_trans x.next hn, x.size, x.frame, fun b y r c hb => x.img b y r c (by rw [← e.get]; exact hb), x.os, x.tape, x.output, fun b y hb => x.dom b y (by rw [← e.get]; exact hb)⟩

section
variable {ops : Array Oper} {pl : List PL} (L : Plan P ops pl)
variable {cx : Cx} {call : CallF} {Q : AX × St → Prop} {ρ0 : Rho} {h0 : Heap} {w0 : World} {tmps0 : Array Value} {f : Tmp → Option AV}
variable {dn : List Dn} {rest : List PL} {d : DS} {reg : T AV} {loc : Loc} {h : Heap} {dfr : Dfr} {listed : Array Bool} {ρ : Rho} {a : Act} {w : World}
include L

theorem Inv.evOn (I : Inv P ops pl cx call Q ρ0 h0 w0 tmps0 f dn rest d reg loc h dfr listed ρ a w) (hf : ∀ t v, f t = some v → ∃ v', tmps0[t]? = some v' ∧ VR ρ0 v v')
    {n : Nat} (G : GR n ρ0) (hops : ops.toList.all (operOk n) = true) {p : PL} (hp : p ∈ pl) {reg' : T AV} {loc' : Loc} {d1 : List Dn} (hl : ∀ t, look t reg' loc' = lookD f d1 t) (hun : ¬ LSt listed p.i) (hm : ∀ j, bit j p.m = true → LSt listed j)
    (hold : ∀ y ∈ d1, y ∈ dn ∧ PairSpec ops.toList y.p p) (hnew : ∀ z ∈ dn, LSt listed z.p.i → z ∈ d1 ∨ PairSpec ops.toList p z.p) : EvOn ρ p.o.op.operands.toList (ev reg' loc') a.eval := by
  intro x hx v hv
  have ho : operOk n p.o = true := List.all_eq_true.1 hops p.o (by rw [← Array.mem_def]; exact Array.mem_of_getElem? (L.src p hp))
  exact evO_ok (G.mono I.ext.le) (List.all_eq_true.1 ho x hx) (fun t v e hlk => I.operand L hf hl hun hm hold hnew (names_op (e ▸ hx)) hlk) hv
theorem Inv.wanted (I : Inv P ops pl cx call Q ρ0 h0 w0 tmps0 f dn rest d reg loc h dfr listed ρ a w) (hf : ∀ t v, f t = some v → ∃ v', tmps0[t]? = some v' ∧ VR ρ0 v v')
    {p : PL} {reg' : T AV} {loc' : Loc} {d1 : List Dn} (hl : ∀ t, look t reg' loc' = lookD f d1 t) (hun : ¬ LSt listed p.i) (hm : ∀ j, bit j p.m = true → LSt listed j)
    (hold : ∀ y ∈ d1, y ∈ dn ∧ PairSpec ops.toList y.p p) (hnew : ∀ z ∈ dn, LSt listed z.p.i → z ∈ d1 ∨ PairSpec ops.toList p z.p) {b : Bool} (hw : wantO p.o ops.toList reg' loc' = some b) : Region.wanted p.o (yielded ops a.tmps) = b := by
  unfold wantO at hw
  cases hg : p.o.guard with
  | none => rw [hg] at hw; cases hw; unfold Region.wanted; rw [hg]
  | some g =>
    rw [hg, ocase_some] at hw
    exact want_ok hg (fun og d v ho hd hv => I.operand L hf hl hun hm hold hnew (names_guard hg (by rw [Array.getElem?_toList]; exact ho) hd) hv) hw

theorem Inv.exec_pend (X : FnsOk P) (I : Inv P ops pl cx call Q ρ0 h0 w0 tmps0 f dn rest d reg loc h dfr listed ρ a w) (hf : ∀ t v, f t = some v → ∃ v', tmps0[t]? = some v' ∧ VR ρ0 v v')
    {n : Nat} (G : GR n ρ0) (hops : ops.toList.all (operOk n) = true) {x : Dn} (hx : x ∈ dn) (hun : ¬ LSt listed x.p.i) (hr : ∀ e ∈ x.p.o.after, Region.binds .any e = true → LSt listed e.on) {K : Act → World → Prop}
    (hK : ∀ ρ' a' w', Inv P ops pl cx call Q ρ0 h0 w0 tmps0 f dn rest d reg loc h dfr (listed.setIfInBounds x.p.i true) ρ' a' w' → K a' w') : wpOp P ops (Post ρ0 h0 w0 cx Q) x.p.i K a w := by
  obtain ⟨d2, d1, e, hlk, hwant, hund⟩ := I.wf.mem x hx
  obtain ⟨hs1, hs2⟩ := (plan_pairs L I.plan).1 d2 x d1 e
  have hm : ∀ j, bit j x.p.m = true → LSt listed j := L.shut _ I.shut x.p (dn_mem L I.plan hx) hr
  have hold : ∀ y ∈ d1, y ∈ dn ∧ PairSpec ops.toList y.p x.p := fun y hy => ⟨by rw [e]; simp [hy], hs1 y hy⟩
  have hnew : ∀ z ∈ dn, LSt listed z.p.i → z ∈ d1 ∨ PairSpec ops.toList x.p z.p := fun z hz hl => by
    rw [e] at hz
    rcases List.mem_append.1 hz with h1 | h1
    · exact .inr (hs2 z h1)
    · rcases List.mem_cons.1 h1 with rfl | h1
      · exact absurd hl hun
      · exact .inl h1
  have hev := I.evOn L hf G hops (dn_mem L I.plan hx) hlk hun hm hold hnew
  have hwd := I.wanted L hf hlk hun hm hold hnew hwant
  have hxi : x.p.i < listed.size := by
    have := L.src x.p (dn_mem L I.plan hx)
    rw [I.size]
    rcases Nat.lt_or_ge x.p.i ops.size with h1 | h1
    · exact h1
    · rw [Array.getElem?_eq_none h1] at this; cases this
  have hpl : ∀ i, ¬ LSt (listed.setIfInBounds x.p.i true) i → ¬ LSt listed i ∧ i ≠ x.p.i := fun i hn => ⟨fun q => hn ((LSt_set hxi).2 (.inl q)), fun q => hn ((LSt_set hxi).2 (.inr q))⟩
  have noent : (isAop P x.p.o.op = true → x.want = true → False) → ∀ i b y, (i, b, y) ∈ d.pend → i ≠ x.p.i := fun hno i b y hmem hi => by
    obtain ⟨_, _, _, _, _, z, hz, hzi, hza, hzw⟩ := I.pend i b y hmem
    have := dn_uniq L I.plan hz hx (hzi.trans hi)
    subst this
    exact hno hza hzw
  unfold wpOp
  rw [L.src x.p (dn_mem L I.plan hx)]
  simp only
  rw [hwd]
  cases hw : x.want with
  | false =>
    rw [if_neg (by decide)]
    have hsame := HX_same (listed := listed) (h := h) (noent (fun _ q => by rw [hw] at q; cases q))
    refine hK ρ _ w (I.list L hx hr (Rle.refl ρ) (by rw [hund hw]; exact undef_VR ρ) (by rw [hsame]; exact I.sim) (by rw [hsame]; exact I.ext) fun i b y hmem hn => ?_)
    exact (I.pend i b y hmem).2.2.2.2.1 (hpl i hn).1
  | true =>
    rw [if_pos rfl]
    left
    unfold Oper.wp
    rcases I.pr x hx hun hw with ⟨hA, b, y, hmem, hal⟩ | ⟨hR, hrd, _⟩
    · obtain ⟨v', o, c, w1, hrun, hw1, hrel⟩ := hal ρ w a.eval hev
      rw [hrun]
      obtain ⟨p1, p2, p3, p4, p5, p6⟩ := I.pend _ b y hmem
      have hρb := p5 hun
      obtain ⟨s1, _, hh⟩ := I.sim.drew' hw1
      have E1 := I.ext.drew' hw1
      have hle := Rho.ext_le (x := (w1.heap.size, c)) hρb
      obtain ⟨hv, hb⟩ := hrel (ρ.ext b (w1.heap.size, c)) hle (by rw [Rho.ext_same, hh])
      obtain ⟨s2, E2⟩ := s1.allocAt E1 hρb (by rw [HX_next]; exact p2) p1 hb p4
      have hsub : Sub (HX (listed.setIfInBounds x.p.i true) d.pend h) ((HX listed d.pend h).set b (some y)) := fun k z hk => by
        rw [Heap.get_set]
        rcases HX_get hk with h1 | ⟨i, h1, h2⟩
        · have hne : k ≠ b := fun q => by subst q; rw [p3] at h1; cases h1
          rw [if_neg hne]
          exact HX_old (fun i b y hmem => (I.pend i b y hmem).2.2.1) h1
        · rcases (LSt_set hxi).1 h2 with h3 | h3
          · have hne : k ≠ b := fun q => by
              subst q
              have := (pend_b I.dist h1 hmem).1
              subst this; exact hun h3
            rw [if_neg hne]
            exact HX_in (pend_ids I.dist) h1 h3
          · subst h3
            obtain ⟨rfl, rfl⟩ := pend_i I.dist h1 hmem
            rw [if_pos rfl]
      refine hK _ _ _ (I.list L hx hr hle hv (s2.sub hsub (by rw [HX_next, Heap.next_set, HX_next])) (E2.sub hsub (by rw [HX_next, Heap.next_set, HX_next])) fun i k z hm' hn => ?_)
      obtain ⟨h1, h2⟩ := hpl i hn
      have hne : k ≠ b := fun q => by subst q; exact h2 (pend_b I.dist hm' hmem).1
      rw [Rho.ext_ne _ _ hne]
      exact (I.pend i k z hm').2.2.2.2.1 h1
    · have hSh : Sub h (HX listed d.pend h) := fun k z hk => HX_old (fun i b y hmem => (I.pend i b y hmem).2.2.1) hk
      have S1 : Sim ρ h w := I.sim.sub hSh (HX_next _ _ _).symm
      obtain ⟨hop, _⟩ := readA_same (P := P) (h := h) (g := h) rfl hR hrd
      have ok := opF_ok X S1 x.p.o hev
      rw [hop] at ok
      obtain ⟨ρ', v', w', g1, g2, g3, g4⟩ := ok
      rw [g1]
      have hfr := I.sim.frame (H' := HX listed d.pend h) hSh (HX_next _ _ _).symm g3 g4 (HX_next _ _ _) fun k z hk => by
        rcases HX_get hk with h1 | ⟨i, h1, h2⟩
        · exact .inl h1
        · exact .inr ⟨(I.pend i k z h1).2.2.1, hk⟩
      have hsame := HX_same (listed := listed) (h := h) (noent (fun q _ => by
        unfold isRop at hR
        rw [q] at hR
        cases hW : isWop x.p.o.op with
        | true => rw [hW] at hR; cases hR
        | false => rw [hW] at hR; cases hR))
      refine hK ρ' _ w' (I.list L hx hr g4.le g2 (by rw [hsame]; exact hfr.1) (by rw [hsame]; exact I.ext.trans hfr.2) fun i k z hm' hn => ?_)
      have := I.pend i k z hm'
      rw [g4.old k this.2.1]
      exact this.2.2.2.2.1 (hpl i hn).1
end
end
end Go.Ev

namespace Go.Ev
open Go
section
variable {P : Program}

theorem drawOps_nil (ops : List Oper) (cx : Cx) (call : CallF) (d : DS) (reg : T AV) (loc : Loc) (h : Heap) (dfr : Dfr) : drawOps P ops [] cx call d reg loc h dfr = .fin (.normal, ⟨reg, loc, incorpAll d.pend h, dfr⟩) := rfl
theorem drawOps_cons (ops : List Oper) (p : PL) (l : List PL) (cx : Cx) (call : CallF) (d : DS) (reg : T AV) (loc : Loc) (h : Heap) (dfr : Dfr) :
    drawOps P ops (p :: l) cx call d reg loc h dfr = drawP P p ops cx call d (drawOps P ops l cx call) reg loc h dfr := rfl

section
variable {ops : Array Oper} {pl : List PL} (L : Plan P ops pl)
variable {cx : Cx} {call : CallF} {Q : AX × St → Prop} {ρ0 : Rho} {h0 : Heap} {w0 : World} {tmps0 : Array Value} {f : Tmp → Option AV}
variable {dn : List Dn} {rest : List PL} {p : PL} {d : DS} {reg : T AV} {loc : Loc} {h : Heap} {dfr : Dfr} {listed : Array Bool} {ρ : Rho} {a : Act} {w : World}
include L

theorem Inv.act (I : Inv P ops pl cx call Q ρ0 h0 w0 tmps0 f dn (p :: rest) d reg loc h dfr listed ρ a w) (hr : ∀ e ∈ p.o.after, Region.binds .any e = true → LSt listed e.on)
    {want : Bool} {v : AV} {d' : DS} {h' : Heap} {dfr' : Dfr} {ds : List Deferred} {ρ' : Rho} {w' : World} {v' : Value} {reg' : T AV} {loc' : Loc}
    (hq : (drawOps P ops.toList rest cx call d' reg' loc' h' dfr').all Q) (hlt : ∀ t, p.o.dst = some t → t < cx.nt) (hrg : RgOk cx reg' loc') (hlk : ∀ t, look t reg' loc' = if p.o.dst = some t then some v else look t reg loc)
    (hwant : wantO p.o ops.toList reg loc = some want) (hund : want = false → v = undefA) (hle : Rle ρ ρ') (hv : VR ρ' v v') (hd : DR ρ' dfr' ds)
    (hsim : Sim ρ' (HX (listed.setIfInBounds p.i true) d'.pend h') w') (hext : Ext ρ0 h0 w0 ρ' (HX (listed.setIfInBounds p.i true) d'.pend h') w')
    (hpend : ∀ i b y, (i, b, y) ∈ d'.pend → (i, b, y) ∈ d.pend ∧ b < h'.next ∧ h'.get b = none ∧ (¬ LSt (listed.setIfInBounds p.i true) i → ρ' b = none))
    (hdist : d'.pend.Pairwise (fun x y => x.1 ≠ y.1 ∧ x.2.1 ≠ y.2.1))
    (hpr : ∀ x ∈ dn, ¬ LSt (listed.setIfInBounds p.i true) x.p.i → x.want = true → PromOk P d' h' x) :
    Inv P ops pl cx call Q ρ0 h0 w0 tmps0 f (⟨p, v, reg, loc, want⟩ :: dn) rest d' reg' loc' h' dfr' (listed.setIfInBounds p.i true) ρ' (Act.put ⟨a.tmps, ds⟩ p.o.dst v') w' := by
  have hplan : ((⟨p, v, reg, loc, want⟩ :: dn : List Dn).map (·.p)).reverse ++ rest = pl := by rw [← I.plan]; simp
  have hpm : p ∈ pl := rest_mem L I.plan (by simp)
  have hxi : p.i < listed.size := by
    have := L.src p hpm
    rw [I.size]
    rcases Nat.lt_or_ge p.i ops.size with h1 | h1
    · exact h1
    · rw [Array.getElem?_eq_none h1] at this; cases this
  have hnp : ∀ x ∈ dn, x.p.i ≠ p.i := fun x hx => ((plan_pairs L I.plan).2.1 x hx p (by simp)).ne
  have hun : ¬ LSt listed p.i := fun q => by obtain ⟨x, hx, hi⟩ := I.sub _ q; exact hnp x hx hi
  refine ⟨hplan, hq, ⟨I.lk, hwant, hund, I.wf⟩, fun t => ?_, hrg, fun x hx t ht => ?_, fun i hi => ?_, shut_set L I.shut hpm hxi hr, by simp [I.size], ?_, ?_, ?_, hsim, hext, fun i b y hm => ?_, hdist, fun y hy hA => ?_, fun y hy hn hw => ?_⟩
  · rw [hlk]; unfold lookD; rw [I.lk]
  · rcases List.mem_cons.1 hx with rfl | hx
    · exact hlt t ht
    · exact I.dlt x hx t ht
  · rcases (LSt_set hxi).1 hi with h1 | h1
    · obtain ⟨x, hx, e⟩ := I.sub i h1
      exact ⟨x, by simp [hx], e⟩
    · exact ⟨⟨p, v, reg, loc, want⟩, by simp, h1.symm⟩
  · cases p.o.dst <;> simp [Act.put, I.tsz]
  · refine step_tmp L hplan (x := ⟨p, v, reg, loc, want⟩) (by simp) hxi hle hv (fun t ht => Nat.lt_of_lt_of_le (hlt t ht) I.tsz) fun t => ?_
    rcases I.tmp t with ⟨x, h1, h2⟩ | ⟨h1, h2⟩
    · exact .inl ⟨x, by simp [h1], h2⟩
    · refine .inr ⟨fun y hy hl => ?_, h2⟩
      rcases List.mem_cons.1 hy with rfl | hy
      · exact absurd hl hun
      · exact h1 y hy hl
  · cases p.o.dst <;> exact hd
  · obtain ⟨g1, g2, g3, g4⟩ := hpend i b y hm
    obtain ⟨k1, k2, k3, k4, k5, x, hx, k6⟩ := I.pend i b y g1
    exact ⟨k1, g2, g3, k4, g4, x, by simp [hx], k6⟩
  · rcases List.mem_cons.1 hy with rfl | hy
    · exact (LSt_set hxi).2 (.inr rfl)
    · exact (LSt_set hxi).2 (.inl (I.acts y hy hA))
  · rcases List.mem_cons.1 hy with rfl | hy
    · exact absurd ((LSt_set hxi).2 (.inr rfl)) hn
    · exact hpr y hy hn hw

theorem Inv.exec_act (X : FnsOk P) {n : Nat} {J : Rho → Heap → World → Prop} (B : Base n J) (C : CallOk P J call) (I : Inv P ops pl cx call Q ρ0 h0 w0 tmps0 f dn (p :: rest) d reg loc h dfr listed ρ a w) (hA : isAct p = true) (hf : ∀ t v, f t = some v → ∃ v', tmps0[t]? = some v' ∧ VR ρ0 v v')
    (G : J ρ0 h0 w0) (hops : ops.toList.all (operOk n) = true) (hr : ∀ e ∈ p.o.after, Region.binds .any e = true → LSt listed e.on) {K : Act → World → Prop}
    (hK : ∀ dn' d' reg' loc' h' dfr' ρ' a' w', Inv P ops pl cx call Q ρ0 h0 w0 tmps0 f dn' rest d' reg' loc' h' dfr' (listed.setIfInBounds p.i true) ρ' a' w' → K a' w') : wpOp P ops (Post ρ0 h0 w0 cx Q) p.i K a w := by
  have hpm : p ∈ pl := rest_mem L I.plan (by simp)
  have hcross := (plan_pairs L I.plan).2.1
  have hnp : ∀ x ∈ dn, x.p.i ≠ p.i := fun x hx => (hcross x hx p (by simp)).ne
  have hun : ¬ LSt listed p.i := fun q => by obtain ⟨x, hx, hi⟩ := I.sub _ q; exact hnp x hx hi
  have hm : ∀ j, bit j p.m = true → LSt listed j := L.shut _ I.shut p hpm hr
  have hold : ∀ y ∈ dn, y ∈ dn ∧ PairSpec ops.toList y.p p := fun y hy => ⟨hy, hcross y hy p (by simp)⟩
  have hnew : ∀ z ∈ dn, LSt listed z.p.i → z ∈ dn ∨ PairSpec ops.toList p z.p := fun z hz _ => .inl hz
  have hev := I.evOn L hf (B.gr G) hops hpm I.lk hun hm hold hnew
  have hxi : p.i < listed.size := by
    have := L.src p hpm
    rw [I.size]
    rcases Nat.lt_or_ge p.i ops.size with h1 | h1
    · exact h1
    · rw [Array.getElem?_eq_none h1] at this; cases this
  have hpl : ∀ i, ¬ LSt (listed.setIfInBounds p.i true) i → ¬ LSt listed i ∧ i ≠ p.i := fun i hn => ⟨fun q => hn ((LSt_set hxi).2 (.inl q)), fun q => hn ((LSt_set hxi).2 (.inr q))⟩
  have hni : ∀ i b y, (i, b, y) ∈ d.pend → i ≠ p.i := fun i b y hmem hi => by
    obtain ⟨_, _, _, _, _, z, hz, hzi, _⟩ := I.pend i b y hmem
    exact hnp z hz (hzi.trans hi)
  have hq := I.q
  rw [drawOps_cons] at hq
  unfold drawP at hq
  unfold wpOp
  rw [L.src p hpm]
  simp only
  cases hw : wantO p.o ops.toList reg loc with
  | none => rw [hw] at hq; exact hq.elim
  | some b =>
    rw [hw, ocase_some] at hq
    have hwd := I.wanted L hf I.lk hun hm hold hnew hw
    rw [hwd]
    cases b with
    | false =>
      rw [bcase_false] at hq
      rw [if_neg (by decide)]
      obtain ⟨reg', loc', g1, g2, g3, g4, _⟩ := putK_all hq
      have hsame := HX_same (listed := listed) (h := h) hni
      refine hK _ _ _ _ _ _ ρ _ w (I.act L hr (want := false) (v := undefA) (v' := undef) (ds := a.defers) g1 g2 (g3 I.rg) (g4 I.rg.2) hw (fun _ => rfl) (Rle.refl ρ) (undef_VR ρ) I.dfr (by rw [hsame]; exact I.sim) (by rw [hsame]; exact I.ext) (fun i c y hmem => ?_) I.dist fun x hx hn hw' => I.pr x hx (hpl _ hn).1 hw')
      have := I.pend i c y hmem
      exact ⟨hmem, this.2.1, this.2.2.1, fun hn => this.2.2.2.2.1 (hpl _ hn).1⟩
    | true =>
      rw [if_pos rfl]
      left
      rw [bcase_true] at hq
      unfold drawK at hq
      rw [hA, bcase_true] at hq
      unfold drawAct at hq
      rw [incorp_eq] at hq
      simp only at hq
      generalize hp1 : d.pend.filter (fun x => !(bit x.1 p.m)) = pend1 at hq
      generalize hh1 : incorpAll (d.pend.filter fun x => bit x.1 p.m) h = h1 at hq
      have hn1 : h1.next = h.next := by rw [← hh1]; exact incorpAll_next _ _
      have hold0 : ∀ i b y, (i, b, y) ∈ d.pend → h.get b = none := fun i b y hmem => (I.pend i b y hmem).2.2.1
      have hsub1 : Sub h1 (HX listed d.pend h) := fun k z hk => by
        rw [← hh1] at hk
        rcases incorpAll_get _ _ _ _ hk with g1 | ⟨i, g1⟩
        · exact HX_old hold0 g1
        · obtain ⟨g2, g3⟩ := List.mem_filter.1 g1
          exact HX_in (pend_ids I.dist) g2 (hm i g3)
      have hnext1 : h1.next = (HX listed d.pend h).next := by rw [HX_next, hn1]
      have S1 : Sim ρ h1 w := I.sim.sub hsub1 hnext1
      have hpend1 : ∀ i k z, (i, k, z) ∈ pend1 → (i, k, z) ∈ d.pend ∧ h1.get k = none := fun i k z hmem => by
        rw [← hp1] at hmem
        obtain ⟨g1, g2⟩ := List.mem_filter.1 hmem
        refine ⟨g1, ?_⟩
        rw [← hh1, incorpAll_out _ _ _ (fun j y hj => ?_)]
        · exact hold0 i k z g1
        · obtain ⟨g3, g4⟩ := List.mem_filter.1 hj
          have := (pend_b I.dist g3 g1).1
          subst this
          rw [g4] at g2; cases g2
      have fr : ∀ {ρ' : Rho} {h2 : Heap} {w' : World}, Sim ρ' h2 w' → Ext ρ h1 w ρ' h2 w' → (Sim ρ' (HX (listed.setIfInBounds p.i true) pend1 h2) w' ∧ Ext ρ0 h0 w0 ρ' (HX (listed.setIfInBounds p.i true) pend1 h2) w') ∧
          (∀ i k z, (i, k, z) ∈ pend1 → (i, k, z) ∈ d.pend ∧ k < h2.next ∧ h2.get k = none ∧ (¬ LSt (listed.setIfInBounds p.i true) i → ρ' k = none)) := by
        intro ρ' h2 w' s2 x2
        have hno : ∀ i k z, (i, k, z) ∈ pend1 → h2.get k = none := fun i k z hmem => by
          cases hg : h2.get k with
          | none => rfl
          | some y =>
            obtain ⟨g1, g2⟩ := hpend1 i k z hmem
            rcases x2.dom k y hg with ⟨x0, g3, _⟩ | ⟨g3, _⟩
            · rw [g2] at g3; cases g3
            · have := (I.pend i k z g1).2.1; omega
        have hfr := I.sim.frame (H' := HX (listed.setIfInBounds p.i true) pend1 h2) hsub1 hnext1 s2 x2 (HX_next _ _ _) fun k z hk => by
          rcases HX_get hk with g1 | ⟨i, g1, g2⟩
          · exact .inl g1
          · obtain ⟨g3, g4⟩ := hpend1 i k z g1
            rcases (LSt_set hxi).1 g2 with g5 | g5
            · exact .inr ⟨g4, HX_in (pend_ids I.dist) g3 g5⟩
            · exact absurd g5 (hni i k z g3)
        refine ⟨⟨hfr.1, I.ext.trans hfr.2⟩, fun i k z hmem => ?_⟩
        obtain ⟨g1, g2⟩ := hpend1 i k z hmem
        have g3 := I.pend i k z g1
        exact ⟨g1, by have := x2.next; omega, hno i k z hmem, fun hn => by rw [x2.old k (by omega)]; exact g3.2.2.2.2.1 (hpl i hn).1⟩
      have fin : ∀ {v : AV} {h2 : Heap} {dfr' : Dfr} {v' : Value} {ρ' : Rho} {w' : World} {ds : List Deferred}, (actV P p.o.dst v p.m cx pend1 d.reads (drawOps P ops.toList rest cx call) reg loc h2 dfr').all Q → VR ρ' v v' → Sim ρ' h2 w' → Ext ρ h1 w ρ' h2 w' → DR ρ' dfr' ds →
          K (Act.put ⟨a.tmps, ds⟩ p.o.dst v') w' := by
        intro v h2 dfr' v' ρ' w' ds hq hv s2 x2 hd
        unfold actV at hq
        cases hc : recheck P p.m h2 d.reads with
        | false => rw [hc] at hq; exact hq.elim
        | true =>
          rw [hc, bcase_true] at hq
          obtain ⟨reg', loc', g1, g2, g3, g4, _⟩ := putK_all hq
          obtain ⟨⟨k1, k2⟩, k3⟩ := fr s2 x2
          refine hK _ _ _ _ _ _ ρ' _ w' (I.act L hr (want := true) (d' := ⟨pend1, d.reads⟩) g1 g2 (g3 I.rg) (g4 I.rg.2) hw (fun q => by cases q) x2.le hv hd k1 k2 k3 (by rw [← hp1]; exact I.dist.filter _) fun x hx hn hw' => ?_)
          have hxl := (hpl _ hn).1
          rcases I.pr x hx hxl hw' with ⟨e1, b, y, e2, e3⟩ | ⟨e1, e2, e3⟩
          · refine .inl ⟨e1, b, y, ?_, e3⟩
            rw [← hp1]
            refine List.mem_filter.2 ⟨e2, ?_⟩
            cases hb : bit x.p.i p.m with
            | false => rfl
            | true => exact absurd (hm _ hb) hxl
          · have hbx : bit x.p.i p.m = false := by
              cases hb : bit x.p.i p.m with
              | false => rfl
              | true => exact absurd (hm _ hb) hxl
            rcases e3 with e3 | ⟨r, e3, e4, e5, e6, e7, e8⟩
            · have := (hcross x hx p (by simp)).rd e3 hA
              rw [hbx] at this; cases this
            · have := recheck_ok hc r e3 (by rw [e4]; exact hbx)
              rw [e5, e6, e7, e8] at this
              exact .inr ⟨e1, this, .inr ⟨r, e3, e4, e5, e6, e7, e8⟩⟩
      have pan : ∀ {c : List (AV × Bool)} {ch : List PanicEntry} {h2 : Heap} {ρ' : Rho} {w' : World}, (actP c h2 dfr).all Q → ChR ρ' c ch → Sim ρ' h2 w' → Ext ρ0 h0 w0 ρ' h2 w' → Rle ρ ρ' → Post ρ0 h0 w0 cx Q (.panic ch) a w' := by
        intro c ch h2 ρ' w' hq hc s2 x2 hle
        unfold actP at hq
        cases hdf : dfr with
        | nil =>
          rw [hdf, lcase_nil] at hq
          have hD := I.dfr.mono hle
          rw [hdf] at hD
          exact ⟨(.panic c, ⟨.e, [], h2, []⟩), ρ', hq, hc, ⟨⟨I.tsz, fun t v hv => (by rw [T.get_e] at hv; cases hv), fun t v hv => (by rw [lget_nil] at hv; cases hv)⟩, hD⟩, s2, x2⟩
        | cons x l => rw [hdf] at hq; exact hq.elim
      have ok := opF_ok X S1 p.o hev
      have E1 : Ext ρ0 h0 w0 ρ h1 w := I.ext.sub hsub1 hnext1
      have small : ∀ {ρ' : Rho} {h2 : Heap} {w' : World}, Sim ρ' h2 w' → Ext ρ h1 w ρ' h2 w' → Ext ρ0 h0 w0 ρ' h2 w' := fun s2 x2 => E1.trans x2
      generalize opF p.o.op P (ev reg loc) h1 = r at hq ok
      unfold Oper.wp
      cases r with
      | bad w => exact hq.elim
      | val v h2 =>
        obtain ⟨ρ', v', w', g1, g2, g3, g4⟩ := ok
        rw [g1]
        exact fin (ds := a.defers) hq g2 g3 g4 (I.dfr.mono g4.le)
      | skip h2 =>
        obtain ⟨ρ', w', g1, g3, g4⟩ := ok
        rw [g1]
        exact fin (ds := a.defers) hq (undef_VR _) g3 g4 (I.dfr.mono g4.le)
      | enter fn args h2 =>
        obtain ⟨rfl, args', g1, g2⟩ := ok
        rw [g1]
        have hq : ((call fn args h2).bind (actC P p.o.dst p.m cx pend1 d.reads (drawOps P ops.toList rest cx call) reg loc dfr)).all Q := hq
        rw [Res.all_bind] at hq
        refine Calls.mono (C fn args h2 _ ρ args' w (B.mono G E1) hq S1 g2) ?_
        rintro e w' ⟨⟨x, h3⟩, ρ', hx, hc, hs, hE⟩
        cases x with
        | ret v =>
          cases e with
          | returned v' => exact fin (ds := a.defers) hx hc hs hE (I.dfr.mono hE.le)
          | panicked ch => exact hc.elim
          | outgrown => exact hc.elim
        | pan c =>
          cases e with
          | returned v' => exact hc.elim
          | panicked ch => exact pan hx hc hs (small hs hE) hE.le
          | outgrown => exact hc.elim
      | pan v h2 =>
        obtain ⟨rfl, v', g1, g2⟩ := ok
        rw [g1]
        exact pan hq (ChR.cons g2 .nil) S1 E1 (Rle.refl _)
      | dfr fn args h2 =>
        obtain ⟨rfl, a', c', g1, g2⟩ := ok
        rw [g1]
        exact fin (ds := _ :: a.defers) hq (undef_VR _) S1 (Ext.refl _ _ _) (.cons g2 I.dfr)
      | ch m c =>
        obtain ⟨i, hi, ok⟩ := ok
        have hq : (actN P p.o.dst p.m cx pend1 d.reads (drawOps P ops.toList rest cx call) reg loc dfr (c i)).all Q := hq i hi
        cases hc : c i with
        | none => rw [hc] at hq; exact hq.elim
        | some x =>
          obtain ⟨ρ', v', w', g1, g2, g3, g4⟩ := ok x.1 x.2 hc
          rw [g1]
          rw [hc] at hq
          exact fin (ds := a.defers) hq g2 g3 g4 (I.dfr.mono g4.le)
      | rcv => exact hq.elim
end
end
end Go.Ev

namespace Go.Ev
open Go
section
variable {P : Program}
section
variable {ops : Array Oper} {pl : List PL} (L : Plan P ops pl)
variable {cx : Cx} {call : CallF} {Q : AX × St → Prop} {ρ0 : Rho} {h0 : Heap} {w0 : World} {tmps0 : Array Value} {f : Tmp → Option AV}
variable {dn : List Dn} {rest : List PL} {p : PL} {d : DS} {reg : T AV} {loc : Loc} {h : Heap} {dfr : Dfr} {listed : Array Bool} {ρ : Rho} {a : Act} {w : World}
include L

theorem Inv.grow (I : Inv P ops pl cx call Q ρ0 h0 w0 tmps0 f dn (p :: rest) d reg loc h dfr listed ρ a w) (hA : isAct p = false)
    {want : Bool} {v : AV} {d' : DS} {h' : Heap} {reg' : T AV} {loc' : Loc}
    (hq : (drawOps P ops.toList rest cx call d' reg' loc' h' dfr).all Q) (hlt : ∀ t, p.o.dst = some t → t < cx.nt) (hrg : RgOk cx reg' loc') (hlk : ∀ t, look t reg' loc' = if p.o.dst = some t then some v else look t reg loc)
    (hwant : wantO p.o ops.toList reg loc = some want) (hund : want = false → v = undefA) (hs : Same h' h) (hn : h.next ≤ h'.next)
    (hpend : d'.pend = d.pend ∨ ∃ y, d'.pend = (p.i, h.next, y) :: d.pend ∧ wr y = true ∧ h.next < h'.next ∧ isAop P p.o.op = true ∧ want = true)
    (hreads : ∀ r ∈ d.reads, r ∈ d'.reads) (hpr : want = true → PromOk P d' h' ⟨p, v, reg, loc, want⟩) :
    Inv P ops pl cx call Q ρ0 h0 w0 tmps0 f (⟨p, v, reg, loc, want⟩ :: dn) rest d' reg' loc' h' dfr listed ρ a w := by
  have hplan : ((⟨p, v, reg, loc, want⟩ :: dn : List Dn).map (·.p)).reverse ++ rest = pl := by rw [← I.plan]; simp
  have hpm : p ∈ pl := rest_mem L I.plan (by simp)
  have hnp : ∀ x ∈ dn, x.p.i ≠ p.i := fun x hx => ((plan_pairs L I.plan).2.1 x hx p (by simp)).ne
  have hun : ¬ LSt listed p.i := fun q => by obtain ⟨x, hx, hi⟩ := I.sub _ q; exact hnp x hx hi
  have hH : HX listed d'.pend h' = HX listed d.pend h' := by
    rcases hpend with e | ⟨y, e, _⟩
    · rw [e]
    · rw [e]
      unfold HX
      rw [List.filter_cons, if_neg (show ¬ (listed.getD p.i false = true) from hun)]
  have hHS : Same (HX listed d'.pend h') (HX listed d.pend h) := by rw [hH]; exact Same.incorp hs _
  have hHn : (HX listed d.pend h).next ≤ (HX listed d'.pend h').next := by rw [HX_next, HX_next]; exact hn
  have hno : h.get h.next = none := by
    cases hg : h.get h.next with
    | none => rfl
    | some y =>
      have := HX_old (listed := listed) (fun i b y hmem => (I.pend i b y hmem).2.2.1) hg
      have := I.sim.lt this
      rw [HX_next] at this; omega
  refine ⟨hplan, hq, ⟨I.lk, hwant, hund, I.wf⟩, fun t => ?_, hrg, fun x hx t ht => ?_, fun i hi => ?_, I.shut, I.size, I.tsz, fun t => ?_, I.dfr, I.sim.more hHS hHn, I.ext.more hHS hHn, fun i b y hm => ?_, ?_, fun y hy hA' => ?_, fun y hy hn' hw => ?_⟩
  · rw [hlk]; unfold lookD; rw [I.lk]
  · rcases List.mem_cons.1 hx with rfl | hx
    · exact hlt t ht
    · exact I.dlt x hx t ht
  · obtain ⟨x, hx, e⟩ := I.sub i hi
    exact ⟨x, by simp [hx], e⟩
  · rcases I.tmp t with ⟨x, h1, h2⟩ | ⟨h1, h2⟩
    · exact .inl ⟨x, by simp [h1], h2⟩
    · refine .inr ⟨fun y hy hl => ?_, h2⟩
      rcases List.mem_cons.1 hy with rfl | hy
      · exact absurd hl hun
      · exact h1 y hy hl
  · have oldE : (i, b, y) ∈ d.pend → h0.next ≤ b ∧ b < h'.next ∧ h'.get b = none ∧ wr y = true ∧ (¬ LSt listed i → ρ b = none) ∧ ∃ x ∈ (⟨p, v, reg, loc, want⟩ :: dn : List Dn), x.p.i = i ∧ isAop P x.p.o.op = true ∧ x.want = true := fun hm => by
      obtain ⟨k1, k2, k3, k4, k5, x, hx, k6⟩ := I.pend i b y hm
      exact ⟨k1, by omega, by rw [hs.get]; exact k3, k4, k5, x, by simp [hx], k6⟩
    rcases hpend with e | ⟨z, e, e1, e2, e3, e4⟩
    · rw [e] at hm; exact oldE hm
    · rw [e] at hm
      rcases List.mem_cons.1 hm with e5 | hm
      · cases e5
        have := I.ext.next
        rw [HX_next] at this
        exact ⟨this, e2, by rw [hs.get]; exact hno, e1, fun _ => I.sim.fresh _ (by rw [HX_next]; exact Nat.le_refl _), ⟨p, v, reg, loc, want⟩, by simp, rfl, e3, e4⟩
      · exact oldE hm
  · rcases hpend with e | ⟨z, e, _⟩
    · rw [e]; exact I.dist
    · rw [e, List.pairwise_cons]
      refine ⟨fun q hq => ?_, I.dist⟩
      obtain ⟨i, b, y⟩ := q
      obtain ⟨k1, k2, k3, k4, k5, x, hx, k6, _⟩ := I.pend i b y hq
      exact ⟨fun e => hnp x hx (k6.trans e.symm), fun e => by have e : h.next = b := e; omega⟩
  · rcases List.mem_cons.1 hy with rfl | hy
    · rw [hA] at hA'; cases hA'
    · exact I.acts y hy hA'
  · rcases List.mem_cons.1 hy with rfl | hy
    · exact hpr hw
    · rcases I.pr y hy hn' hw with ⟨e1, b, z, e2, e3⟩ | ⟨e1, e2, e3⟩
      · refine .inl ⟨e1, b, z, ?_, e3⟩
        rcases hpend with e | ⟨_, e, _⟩
        · rw [e]; exact e2
        · rw [e]; exact List.mem_cons_of_mem _ e2
      · refine .inr ⟨e1, (readA_same (P := P) (show Same h h' from hs.symm) e1 e2).2, ?_⟩
        rcases e3 with e3 | ⟨r, e3, e4⟩
        · exact .inl e3
        · exact .inr ⟨r, hreads r e3, e4⟩

theorem Inv.adv (I : Inv P ops pl cx call Q ρ0 h0 w0 tmps0 f dn (p :: rest) d reg loc h dfr listed ρ a w) (hA : isAct p = false) :
    ∃ dn' d' reg' loc' h', Inv P ops pl cx call Q ρ0 h0 w0 tmps0 f dn' rest d' reg' loc' h' dfr listed ρ a w := by
  have hpm : p ∈ pl := rest_mem L I.plan (by simp)
  have hq := I.q
  rw [drawOps_cons] at hq
  unfold drawP at hq
  cases hw : wantO p.o ops.toList reg loc with
  | none => rw [hw] at hq; exact hq.elim
  | some b =>
    rw [hw, ocase_some] at hq
    cases b with
    | false =>
      rw [bcase_false] at hq
      obtain ⟨reg', loc', g1, g2, g3, g4, _⟩ := putK_all hq
      exact ⟨_, _, _, _, _, I.grow L hA g1 g2 (g3 I.rg) (g4 I.rg.2) hw (fun _ => rfl) rfl (Nat.le_refl _) (.inl rfl) (fun _ h => h) (fun q => by cases q)⟩
    | true =>
      rw [bcase_true] at hq
      unfold drawK at hq
      rw [hA, bcase_false] at hq
      have hk := L.kinds p hpm
      unfold kindOk at hk
      have hA3 : Nat.beq p.k 3 = false := hA
      rw [hA3, bcase_false] at hk
      cases h2 : Nat.beq p.k 2 with
      | true =>
        rw [h2, bcase_true] at hq hk
        generalize hop : opF p.o.op P (ev reg loc) h = r at hq
        cases r <;> first | exact hq.elim | skip
        rename_i v h'
        obtain ⟨y, e1, e2, e3⟩ := new_ok p.o hk hop
        have hq : (ocase (h'.get h.next) (Res.fail 215) fun b => drawNewB b p.i h.next p.o.dst v cx d (drawOps P ops.toList rest cx call) reg loc h dfr).all Q := hq
        rw [e1, Heap.get_new, if_pos rfl, ocase_some] at hq
        unfold drawNewB at hq
        obtain ⟨reg', loc', g1, g2, g3, g4, _⟩ := putK_all hq
        refine ⟨_, _, _, _, _, I.grow L hA (want := true) g1 g2 (g3 I.rg) (g4 I.rg.2) hw (fun q => by cases q) rfl (Nat.le_succ _) (.inr ⟨y, rfl, e2, Nat.lt_succ_self _, hk, rfl⟩) (fun _ h => h) fun _ => .inl ⟨hk, h.next, y, by simp, e3⟩⟩
      | false =>
        rw [h2, bcase_false] at hq hk
        have hkl : Nat.ble p.k 1 = true ∧ isRop P p.o.op = true := by
          cases hb : Nat.ble p.k 1 with
          | true => rw [hb] at hk; exact ⟨rfl, hk⟩
          | false => rw [hb] at hk; cases hk
        unfold drawRd at hq
        cases hrd : readA P reg loc h p.o with
        | none => rw [hrd] at hq; exact hq.elim
        | some v =>
          rw [hrd, ocase_some] at hq
          obtain ⟨reg', loc', g1, g2, g3, g4, _⟩ := putK_all hq
          refine ⟨_, _, _, _, _, I.grow L hA (want := true) g1 g2 (g3 I.rg) (g4 I.rg.2) hw (fun q => by cases q) rfl (Nat.le_refl _) (.inl rfl) (fun r hr => ?_) fun _ => .inr ⟨hkl.2, hrd, ?_⟩⟩
          · show r ∈ addRead (Nat.beq p.k 1) p reg loc v d.reads
            unfold addRead
            cases Nat.beq p.k 1 with
            | true => exact List.mem_cons_of_mem _ hr
            | false => exact hr
          · show p.k = 0 ∨ ∃ r ∈ addRead (Nat.beq p.k 1) p reg loc v d.reads, _
            unfold addRead
            cases h1 : Nat.beq p.k 1 with
            | true => exact .inr ⟨_, List.mem_cons_self .., rfl, rfl, rfl, rfl, rfl⟩
            | false =>
              left
              have := Nat.le_of_ble_eq_true hkl.1
              have : p.k ≠ 1 := fun q => by rw [nbeq_iff.2 q] at h1; cases h1
              omega

theorem Inv.settle : ∀ (rest : List PL) {dn : List Dn} {d : DS} {reg : T AV} {loc : Loc} {h : Heap}, Inv P ops pl cx call Q ρ0 h0 w0 tmps0 f dn rest d reg loc h dfr listed ρ a w →
    ∃ dn' rest' d' reg' loc' h', Inv P ops pl cx call Q ρ0 h0 w0 tmps0 f dn' rest' d' reg' loc' h' dfr listed ρ a w ∧ (rest' = [] ∨ ∃ p r, rest' = p :: r ∧ isAct p = true)
  | [], _, _, _, _, _, I => ⟨_, _, _, _, _, _, I, .inl rfl⟩
  | p :: rest, _, _, _, _, _, I => by
    cases hA : isAct p with
    | true => exact ⟨_, _, _, _, _, _, I, .inr ⟨p, rest, rfl, hA⟩⟩
    | false =>
      obtain ⟨dn', d', reg', loc', h', I'⟩ := I.adv L hA
      exact Inv.settle rest I'

theorem all_listed (hs : listed.size = ops.size) (hr : Region.ready .any ops listed = []) : ∀ i, i < ops.size → LSt listed i := by
  intro i
  induction i using Nat.strongRecOn with
  | _ i ih =>
    intro hi
    cases hl : listed.getD i false with
    | true => exact hl
    | false =>
      exfalso
      have hio : ops[i]? = some ops[i] := by simp [hi]
      have : i ∈ Region.ready .any ops listed := mem_ready.2 ⟨by
        have hls : i < listed.size := by omega
        simp only [Array.getD_eq_getD_getElem?, Array.getElem?_eq_getElem hls, Option.getD_some] at hl ⊢
        exact hl, ops[i], hio, fun e he hb => by
        have hlt := L.down i ops[i] hio e he hb
        exact ih e.on hlt (by omega)⟩
      rw [hr] at this; cases this

theorem Inv.done (I : Inv P ops pl cx call Q ρ0 h0 w0 tmps0 f dn rest d reg loc h dfr listed ρ a w) (hf : ∀ t v, f t = some v → ∃ v', tmps0[t]? = some v' ∧ VR ρ0 v v') (hall : ∀ i, i < ops.size → LSt listed i) : Post ρ0 h0 w0 cx Q .normal a w := by
  have hrest : rest = [] := by
    cases hr : rest with
    | nil => rfl
    | cons q r =>
      exfalso
      have hq : q ∈ rest := by rw [hr]; simp
      have hqi : q.i < ops.size := by
        have := L.src q (rest_mem L I.plan hq)
        rcases Nat.lt_or_ge q.i ops.size with h1 | h1
        · exact h1
        · rw [Array.getElem?_eq_none h1] at this; cases this
      obtain ⟨x, hx, hi⟩ := I.sub q.i (hall _ hqi)
      exact ((plan_pairs L I.plan).2.1 x hx q hq).ne hi
  subst hrest
  have hq := I.q
  rw [drawOps_nil] at hq
  have hdi : ∀ x ∈ dn, LSt listed x.p.i := fun x hx => hall _ (by
    have := L.src x.p (dn_mem L I.plan hx)
    rcases Nat.lt_or_ge x.p.i ops.size with h1 | h1
    · exact h1
    · rw [Array.getElem?_eq_none h1] at this; cases this)
  have hH : HX listed d.pend h = incorpAll d.pend h := by
    unfold HX
    rw [List.filter_eq_self.2 fun q hq => ?_]
    obtain ⟨i, b, y⟩ := q
    obtain ⟨_, _, _, _, _, x, hx, hi, _⟩ := I.pend i b y hq
    rw [← hi]; exact hdi x hx
  have hs := I.sim
  have he := I.ext
  rw [hH] at hs he
  refine ⟨(.normal, ⟨reg, loc, incorpAll d.pend h, dfr⟩), ρ, hq, trivial, ⟨RegOk.of_look I.tsz I.rg fun t v hv => ?_, I.dfr⟩, hs, he⟩
  rw [I.lk] at hv
  rcases lookD_cases hv with ⟨y, h1, h2, h3⟩ | ⟨h1, h2⟩
  · rcases I.tmp t with ⟨x, hx, _, hxd, v', g1, g2⟩ | ⟨g1, _⟩
    · have := dst_uniq L I.plan hx h1 hxd h2
      subst this
      exact ⟨v', g1, h3 ▸ g2⟩
    · exact absurd h2 (g1 y h1 (hdi y h1))
  · rcases I.tmp t with ⟨x, hx, _, hxd, _⟩ | ⟨_, g2⟩
    · exact absurd hxd (h1 x hx)
    · obtain ⟨v', g3, g4⟩ := hf t v h2
      exact ⟨v', by rw [g2]; exact g3, VR.mono I.ext.le _ _ g4⟩

theorem Inv.any (X : FnsOk P) {n : Nat} {J : Rho → Heap → World → Prop} (B : Base n J) (C : CallOk P J call) (hf : ∀ t v, f t = some v → ∃ v', tmps0[t]? = some v' ∧ VR ρ0 v v') (G : J ρ0 h0 w0) (hops : ops.toList.all (operOk n) = true) :
    ∀ (fuel : Nat) (un : List Nat) {dn : List Dn} {rest : List PL} {d : DS} {reg : T AV} {loc : Loc} {h : Heap} {dfr : Dfr} {listed : Array Bool} {ρ : Rho} {a : Act} {w : World},
      Inv P ops pl cx call Q ρ0 h0 w0 tmps0 f dn rest d reg loc h dfr listed ρ a w → un.length ≤ fuel → (∀ i, i < ops.size → ¬ LSt listed i → i ∈ un) →
      wpAny P .any ops (Post ρ0 h0 w0 cx Q) fuel listed a w
  | 0, un, _, _, _, _, _, _, _, listed, _, _, _, I, hu, hun => by
    have hall : ∀ i, i < ops.size → LSt listed i := fun i hi => by
      cases hl : listed.getD i false with
      | true => exact hl
      | false =>
        have h1 := hun i hi (fun q => by rw [LSt, hl] at q; cases q)
        have : un = [] := List.length_eq_zero_iff.1 (by omega)
        rw [this] at h1; cases h1
    refine ⟨?_, I.done L hf hall⟩
    cases hr : Region.ready .any ops listed with
    | nil => rfl
    | cons i r =>
      exfalso
      have hm : i ∈ Region.ready .any ops listed := by rw [hr]; simp
      obtain ⟨h1, o, h2, _⟩ := mem_ready.1 hm
      have hi : i < ops.size := (Array.getElem?_eq_some_iff.1 h2).1
      have h3 := hall i hi
      have hls : i < listed.size := by rw [I.size]; exact hi
      unfold LSt at h3
      simp only [Array.getD_eq_getD_getElem?, Array.getElem?_eq_getElem hls, Option.getD_some] at h1 h3
      rw [h1] at h3; cases h3
  | fuel + 1, un, dn, rest, d, reg, loc, h, dfr, listed, ρ, a, w, I, hu, hun => by
    refine ⟨fun hr => I.done L hf (all_listed L I.size hr), fun i hi => ?_⟩
    obtain ⟨h1, o, h2, h3⟩ := mem_ready.1 hi
    have hio : i < ops.size := (Array.getElem?_eq_some_iff.1 h2).1
    have hls : i < listed.size := by rw [I.size]; exact hio
    have hnl : ¬ LSt listed i := fun q => by
      unfold LSt at q
      simp only [Array.getD_eq_getD_getElem?, Array.getElem?_eq_getElem hls, Option.getD_some] at h1 q
      rw [h1] at q; cases q
    obtain ⟨dn', rest', d', reg', loc', h', I', hhead⟩ := Inv.settle L rest I
    have next : ∀ {dn2 : List Dn} {rest2 : List PL} {d2 : DS} {reg2 : T AV} {loc2 : Loc} {h2 : Heap} {dfr2 : Dfr} {ρ2 : Rho} {a2 : Act} {w2 : World}, Inv P ops pl cx call Q ρ0 h0 w0 tmps0 f dn2 rest2 d2 reg2 loc2 h2 dfr2 (listed.setIfInBounds i true) ρ2 a2 w2 →
        wpAny P .any ops (Post ρ0 h0 w0 cx Q) fuel (listed.setIfInBounds i true) a2 w2 := fun I2 => by
      refine Inv.any X B C hf G hops fuel (un.erase i) I2 ?_ fun j hj hn => ?_
      · rw [List.length_erase_of_mem (hun i hio hnl)]; omega
      · have h5 : ¬ LSt listed j := fun q => hn ((LSt_set hls).2 (.inl q))
        have h6 : j ≠ i := fun q => hn ((LSt_set hls).2 (.inr q))
        exact (List.mem_erase_of_ne h6).2 (hun j hj h5)
    obtain ⟨p, hp, rfl⟩ := L.all i hio
    have hpo : p.o = o := by have := L.src p hp; rw [h2] at this; exact (Option.some.inj this).symm
    have hr : ∀ e ∈ p.o.after, Region.binds .any e = true → LSt listed e.on := fun e he hb => h3 e (by rw [← hpo]; exact he) hb
    have hm : ∀ j, bit j p.m = true → LSt listed j := L.shut _ I'.shut p hp hr
    rw [← I'.plan] at hp
    rcases List.mem_append.1 hp with hp1 | hp1
    · obtain ⟨x, hx, rfl⟩ := List.mem_map.1 (List.mem_reverse.1 hp1)
      exact I'.exec_pend L X hf (B.gr G) hops hx hnl hr fun ρ' a' w' I2 => next I2
    · rcases hhead with rfl | ⟨q, r, rfl, hA⟩
      · cases hp1
      · rcases List.mem_cons.1 hp1 with rfl | hp2
        · exact I'.exec_act L X B C hA hf G hops hr fun dn2 d2 reg2 loc2 h2 dfr2 ρ2 a2 w2 I2 => next I2
        · exfalso
          have h5 := (plan_pairs L I'.plan).2.2
          rw [List.pairwise_cons] at h5
          have h6 := (pairOk_spec (h5.1 p hp2)).act hA
          obtain ⟨x, hx, hxi⟩ := I'.sub q.i (hm _ h6)
          exact ((plan_pairs L I'.plan).2.1 x hx q (by simp)).ne hxi
end

theorem drawA_ok (X : FnsOk P) {n : Nat} {J : Rho → Heap → World → Prop} (B : Base n J) {call : CallF} (C : CallOk P J call) {ops : Array Oper} (hpl : planOk P ops.toList = true) (hops : ops.toList.all (operOk n) = true) (hmix : P.follows .mixedOrders = true) {id : Nat} {cx : Cx} {Q : AX × St → Prop} {ρ : Rho}
    {reg : T AV} {loc0 : Loc} {h : Heap} {dfr : Dfr} {a : Act} {w : World} (G : J ρ h w) (hq : (drawA P ops.toList cx call reg [] h dfr).all Q) (R : RegOk ρ cx reg loc0 a.tmps) (D : DR ρ dfr a.defers) (s : Sim ρ h w) : (Code.region id ops true).wp P (Post ρ h w cx Q) a w := by
  refine wp_region_any hmix ?_
  have hls : ∀ i, ¬ LSt (Array.replicate ops.size false) i := fun i q => by
    unfold LSt at q
    by_cases hi : i < ops.size <;> simp [hi] at q
  refine Inv.any (f := fun t => look t reg []) (tmps0 := a.tmps) (planOk_plan hpl) X B C (fun t v hv => R.drop.look hv) G hops ops.size (List.range ops.size) (dn := []) (rest := planOf P ops.toList) (d := ⟨[], []⟩) (reg := reg) (loc := []) (h := h) (dfr := dfr) (ρ := ρ) ?_ (by simp) (fun i hi _ => List.mem_range.2 hi)
  exact ⟨rfl, hq, trivial, fun t => rfl, R.drop.rgOk, fun x hx => (by cases hx), fun i hi => absurd hi (hls i), fun i o _ hi => absurd hi (hls i), by simp, R.size, fun t => .inr ⟨fun x hx => (by cases hx), rfl⟩, D, s.drew _, Ext.drew _ _ _ _, fun i b y hm => (by cases hm), .nil, fun x hx => (by cases hx), fun x hx => (by cases hx)⟩
end
end Go.Ev

namespace Go.Ev
open Go
section
variable {P : Program}

theorem resA_cons (r : ResultVar) (l : List ResultVar) (s : St) : resA P (r :: l) s = ocase (resOne P r s) none fun v => consO v (resA P l s) := rfl
theorem resOne_ok {ρ : Rho} {cx : Cx} {s : St} {tmps : Array Value} {w : World} (R : RegOk ρ cx s.reg s.loc tmps) (S : Sim ρ s.hp w) {r : ResultVar} {v : AV} (h : resOne P r s = some v) :
    ∃ v', ((match r with | .tmp t => pure (tmps.getD t undef) | .cell a t => do loadVar t (← asAddr (tmps.getD a undef))) : Sem Value).run P w = .ok v' w ∧ VR ρ v v' := by
  unfold resOne at h
  split at h
  · rename_i t
    obtain ⟨v', h1, h2⟩ := R.look h
    refine ⟨v', ?_, h2⟩
    simp only
    rw [Array.getD_eq_getD_getElem?, h1]; rfl
  · rename_i t ty
    obtain ⟨p, h1, h2⟩ := ocase_some_iff.1 h
    obtain ⟨p', h3, h4⟩ := R.look h1
    obtain ⟨v', h5, h6⟩ := load_ok (P := P) S h4 h2
    refine ⟨v', ?_, h6⟩
    simp only
    rw [Array.getD_eq_getD_getElem?, h3]
    unfold loadA at h2
    obtain ⟨q, hq, _⟩ := ocase_some_iff.1 h2
    rw [asPtr_some hq] at h4
    obtain ⟨rr, cn, hr, rfl⟩ := VR.ptr_iff.1 h4
    rw [← h5]
    unfold Instr.loadAt Instr.sureAddr
    rfl
theorem resA_ok {ρ : Rho} {cx : Cx} {s : St} {tmps : Array Value} {w : World} (R : RegOk ρ cx s.reg s.loc tmps) (S : Sim ρ s.hp w) {g : ResultVar → Sem Value}
    (hg : ∀ r v, resOne P r s = some v → ∃ v', (g r).run P w = .ok v' w ∧ VR ρ v v') : ∀ {l : List ResultVar} {r : List AV}, resA P l s = some r → ∃ vs, (l.mapM g).run P w = .ok vs w ∧ VRL ρ r vs
  | [], r, h => by cases h; exact ⟨[], rfl, VRL.nil⟩
  | x :: l, r, h => by
    rw [resA_cons] at h
    obtain ⟨v, h1, h⟩ := ocase_some_iff.1 h
    obtain ⟨r', h2, rfl⟩ := consO_some.1 h
    obtain ⟨v', h3, h4⟩ := hg x v h1
    obtain ⟨vs, h5, h6⟩ := resA_ok R S hg h2
    refine ⟨v' :: vs, ?_, VRL.cons h4 h6⟩
    rw [List.mapM_cons]
    simp only [Sem.run_bind, h3, Result.andThen_ok, h5, Sem.run_pure]
theorem results_ok {ρ : Rho} {cx : Cx} {s : St} {tmps : Array Value} {w : World} (R : RegOk ρ cx s.reg s.loc tmps) (S : Sim ρ s.hp w) {fn : Func} {v : AV} (h : resultsA P fn s = some v) :
    ∃ v', (results fn tmps).run P w = .ok v' w ∧ VR ρ v v' := by
  unfold resultsA oneOf at h
  unfold results
  split at h
  · rename_i u hl
    cases h
    obtain ⟨vs, h1, h2⟩ := resA_ok R S (fun r v hr => resOne_ok R S hr) hl
    obtain ⟨v', us, rfl, h3, h4⟩ := VRL.cons_iff.1 h2
    have := VRL.nil_iff.1 h4; subst this
    refine ⟨v', ?_, h3⟩
    rw [Array.mapM_eq_mapM_toList]
    simp only [Sem.run_bind, Sem.run_map]
    erw [h1]
    rfl
  · rename_i l hno hl
    cases h
    obtain ⟨vs, h1, h2⟩ := resA_ok R S (fun r v hr => resOne_ok R S hr) hl
    refine ⟨.tuple vs.toArray, ?_, VR.tuple_iff.2 ⟨_, rfl, h2⟩⟩
    rw [Array.mapM_eq_mapM_toList]
    simp only [Sem.run_bind, Sem.run_map]
    erw [h1]
    have hne : ¬ vs.toArray.size = 1 := fun q => by
      have h5 := h2.length
      rw [List.size_toArray] at q
      rw [q] at h5
      cases l with
      | nil => cases h5
      | cons a l =>
        cases l with
        | nil => exact hno a rfl
        | cons b l => simp at h5
    simp only [Result.andThen_ok, Sem.run_pure]
    rw [dif_neg hne]
  · cases h

def DMR (ρ : Rho) (u : DM) (m : FrameMode) : Prop :=
  match u with
  | .returning => m = .returning
  | .panicking c => ∃ ch, m = .panicking ch ∧ ChR ρ c ch
theorem DMR.mono {ρ ρ' : Rho} (hρ : Rle ρ ρ') {u : DM} {m : FrameMode} (h : DMR ρ u m) : DMR ρ' u m := by
  cases u with
  | returning => exact h
  | panicking c => obtain ⟨ch, h1, h2⟩ := h; exact ⟨ch, h1, h2.mono hρ⟩
theorem DMR.ne_run {ρ : Rho} {u : DM} {m : FrameMode} (h : DMR ρ u m) : m ≠ .run := by
  cases u with
  | returning => rw [show m = .returning from h]; simp
  | panicking c => obtain ⟨ch, rfl, _⟩ := h; simp
theorem ChR.append {ρ : Rho} {c c2 : List (AV × Bool)} {ch ch2 : List PanicEntry} (h : ChR ρ c ch) (h2 : ChR ρ c2 ch2) : ChR ρ (c ++ c2) (ch ++ ch2) := by
  induction h with
  | nil => exact h2
  | cons h _ ih => exact .cons h ih
theorem ChR.noexit {ρ : Rho} {c : List (AV × Bool)} {ch : List PanicEntry} (h : ChR ρ c ch) : ch.dropWhile (!·.goexit) = [] := by
  induction h with
  | nil => rfl
  | cons h _ ih => rw [List.dropWhile_cons]; exact ih
theorem settle_ok {ρ : Rho} {u : DM} {m : FrameMode} (h : DMR ρ u m) : DMR ρ (settleA u) (settle m) := by
  cases u with
  | returning => rw [show m = .returning from h]; exact rfl
  | panicking c =>
    obtain ⟨ch, rfl, h2⟩ := h
    cases h2 with
    | nil => exact ⟨[], rfl, .nil⟩
    | @cons v b v' l l' hv hs =>
      cases b with
      | true =>
        show DMR ρ .returning _
        unfold settle
        simp only [hs.noexit]
        rfl
      | false => exact ⟨_, rfl, .cons hv hs⟩
theorem raised_ok {ρ : Rho} {u : DM} {m : FrameMode} {c : List (AV × Bool)} {ch : List PanicEntry} (h : DMR ρ u m) (hc : ChR ρ c ch) : DMR ρ (raisedA u c) (raised m ch) := by
  cases u with
  | returning => rw [show m = .returning from h]; exact ⟨ch, rfl, hc⟩
  | panicking old =>
    obtain ⟨ch2, rfl, h2⟩ := h
    exact ⟨_, rfl, hc.append h2⟩

def DPost (ρ : Rho) (h : Heap) (w : World) (Q : DM × Heap → Prop) (e : Ending) (m : FrameMode) (w' : World) : Prop :=
  ∃ x ρ', Q x ∧ (match e with | .returned _ => DMR ρ' x.1 (settle m) | .panicked ch => DMR ρ' x.1 (raised m ch) | .outgrown => False) ∧ Sim ρ' x.2 w' ∧ Ext ρ h w ρ' x.2 w'
def CallDOk (P : Program) (J : Rho → Heap → World → Prop) (callD : CallD) : Prop :=
  ∀ f args h u Q ρ args' m w, J ρ h w → (callD f args h u).all Q → Sim ρ h w → VRL ρ args args'.toList → DMR ρ u m → (callFunc f args').run P w = .ok (.enter f args') w ∧ CallsD P f args' m w (DPost ρ h w Q)
theorem leaveA_nil (callD : CallD) (fn : Func) (s : St) (u : DM) (h : Heap) : leaveA P [] callD fn s u h = leaveEnd P u fn s h := rfl
theorem leaveA_cons (d : FuncId × List AV) (l : Dfr) (callD : CallD) (fn : Func) (s : St) (u : DM) (h : Heap) : leaveA P (d :: l) callD fn s u h = (callD d.1 d.2 h u).bind fun r => leaveA P l callD fn s r.1 r.2 := rfl
theorem leaveA_ok {n : Nat} {J : Rho → Heap → World → Prop} (B : Base n J) {callD : CallD} (C : CallDOk P J callD) {cx : Cx} {fn : Func} {s : St} {Q : CX × Heap → Prop} {ρ0 : Rho} {h0 : Heap} {w0 : World} (G : J ρ0 h0 w0) {tmps : Array Value} :
    ∀ {ds : Dfr} {ds' : List Deferred} {u : DM} {m : FrameMode} {h : Heap} {ρ : Rho} {w : World}, (leaveA P ds callD fn s u h).all Q → RegOk ρ cx s.reg s.loc tmps → DR ρ ds ds' → DMR ρ u m → Sim ρ h w → Ext ρ0 h0 w0 ρ h w →
      Leaves P fn tmps (CPost ρ0 h0 w0 Q) ds' m w
  | [], ds', u, m, h, ρ, w, hq, R, D, M, S, E => by
    cases D
    rw [leaveA_nil] at hq
    cases u with
    | returning =>
      rw [show m = .returning from M]
      have hq : (finC (resultsA P fn (atHp s h)) h).all Q := hq
      unfold finC at hq
      cases hr : resultsA P fn (atHp s h) with
      | none => rw [hr] at hq; exact hq.elim
      | some v =>
        rw [hr, ocase_some] at hq
        obtain ⟨v', h1, h2⟩ := results_ok (s := atHp s h) R S hr
        exact ⟨v', h1, (.ret v, h), ρ, hq, h2, S, E⟩
    | panicking c =>
      obtain ⟨ch, rfl, hc⟩ := M
      have hq : (Res.fin (CX.pan c, h)).all Q := hq
      exact ⟨(.pan c, h), ρ, hq, hc, S, E⟩
  | (f, args) :: ds, _, u, m, h, ρ, w, hq, R, D, M, S, E => by
    cases D with
    | @cons _ _ a c _ l' hv hs =>
      rw [leaveA_cons, Res.all_bind] at hq
      obtain ⟨h1, h2⟩ := C f args h u _ ρ (a ++ c) m w (B.mono G E) hq S hv M
      refine leaves_cons M.ne_run h1 (h2.mono ?_)
      rintro e u' w' ⟨⟨u2, h3⟩, ρ', hx, he, hs', hE⟩
      cases e with
      | returned v => exact leaveA_ok B C G hx (R.mono hE.le) (hs.mono hE.le) he hs' (E.trans hE)
      | panicked ch => exact leaveA_ok B C G hx (R.mono hE.le) (hs.mono hE.le) he hs' (E.trans hE)
      | outgrown => exact he.elim

theorem ones_bit (n i : Nat) (h : i < n) : bit i (ones n) = true := by
  rw [bit_eq]
  have : ones n = 2 ^ n - 1 := by unfold ones; show (1 <<< n) - 1 = _; rw [Nat.shiftLeft_eq, Nat.one_mul]
  rw [this, Nat.testBit_two_pow_sub_one]; simpa using h
theorem enterSt_ok {cx : Cx} {args : List AV} {h : Heap} {s : St} (he : enterSt cx args h = some s) {ρ : Rho} {args' : Array Value} (ha : VRL ρ args args'.toList) :
    s.hp = h ∧ StR ρ cx s { tmps := args' ++ Array.replicate (cx.nt - args'.size) undef, defers := [] } := by
  unfold enterSt at he
  obtain ⟨h1, he⟩ := bcase_none_iff.1 he
  cases he
  unfold argsOk at h1
  have h2 : lenL args ≤ cx.nt ∧ Nat.land cx.keep (ones (lenL args)) = ones (lenL args) := by
    cases hb : Nat.ble (lenL args) cx.nt with
    | false => rw [hb] at h1; cases h1
    | true => rw [hb, bcase_true] at h1; exact ⟨Nat.le_of_ble_eq_true hb, nbeq_iff.1 h1⟩
  rw [lenL_eq] at h2
  have hlen := ha.length
  refine ⟨rfl, ⟨by simp; omega, fun t v hv => ?_, fun t v hv => (by rw [lget_nil] at hv; cases hv)⟩, .nil⟩
  rw [get_setL] at hv
  by_cases hc : 0 ≤ t ∧ t < 0 + args.length
  · rw [if_pos hc, Nat.sub_zero] at hv
    have hb : bit t cx.keep = true := by
      have h3 := ones_bit args.length t (by omega)
      rw [← h2.2, bit_eq] at h3
      have h4 : (cx.keep &&& ones args.length).testBit t = true := h3
      rw [Nat.testBit_and, Bool.and_eq_true] at h4
      rw [bit_eq]; exact h4.1
    obtain ⟨v', h5, h6⟩ := ha.get _ _ hv
    refine ⟨hb, v', ?_, h6⟩
    have hlt : t < args'.size := by simp at hlen; omega
    rw [Array.getElem?_append_left hlt]
    simpa using h5
  · rw [if_neg hc, T.get_e] at hv; cases hv

theorem body_ok {n : Nat} {J : Rho → Heap → World → Prop} (B : Base n J) {hint : FuncId → Nat} {self : CodeF} {callD : CallD} (hself : ∀ c, codeOk P n c = true → CodeOk P J (fun cx s => self cx c s) c) (CD : CallDOk P J callD) (hP : ∀ (f : Nat) (fn : Func) (c : Code), P.funcs[f]? = some fn → fn.body = some c → codeOk P n c = true) :
    CallOk P J (callBody P hint self callD) := by
  intro f args h Q ρ args' w G hq S ha
  unfold callBody at hq
  cases hf : P.funcs[f]? with
  | none => rw [hf] at hq; exact hq.elim
  | some fn =>
    rw [hf, ocase_some] at hq
    unfold runBody at hq
    cases hb : fn.body with
    | none => rw [hb] at hq; exact hq.elim
    | some c =>
      rw [hb, ocase_some] at hq
      cases hs : enterSt (cxOf hint f fn) args h with
      | none => rw [hs] at hq; exact hq.elim
      | some s =>
        rw [hs, ocase_some, Res.all_bind] at hq
        obtain ⟨hh, hst⟩ := enterSt_ok hs ha
        have hcode := hself c (hP f fn c hf hb) (cxOf hint f fn) s _ ρ { tmps := args' ++ Array.replicate (fn.ntmps - args'.size) undef, defers := [] } w (by rw [hh]; exact G) hq hst (by rw [hh]; exact S)
        refine calls_of_wp_defers hf hb (wp_mono hcode ?_)
        rintro e a' w' ⟨⟨x, s'⟩, ρ', hx, hex, hst', hs', hE⟩
        rw [hh] at hE
        cases x with
        | normal =>
          cases e <;> first | exact hex.elim | skip
          have hx : (leaveA P s'.dfr callD fn s' .returning s'.hp).all Q := hx
          exact leaveA_ok B CD G hx hst'.reg hst'.dfr rfl hs' hE
        | ret =>
          cases e <;> first | exact hex.elim | skip
          have hx : (leaveA P s'.dfr callD fn s' .returning s'.hp).all Q := hx
          exact leaveA_ok B CD G hx hst'.reg hst'.dfr rfl hs' hE
        | panic c =>
          cases e <;> first | exact hex.elim | skip
          rename_i ch
          have hx : (leaveA P s'.dfr callD fn s' (.panicking c) s'.hp).all Q := hx
          exact leaveA_ok B CD G hx hst'.reg hst'.dfr ⟨ch, rfl, hex⟩ hs' hE
        | exit id => exact (show False from hx).elim
        | goto l => exact (show False from hx).elim
end
end Go.Ev

namespace Go.Ev
open Go
section
variable {P : Program}

theorem Post.trans {ρ ρ' : Rho} {h h' : Heap} {w w' : World} (E : Ext ρ h w ρ' h' w') {cx : Cx} {Q : AX × St → Prop} {e : Exit} {a : Act} {w2 : World} (p : Post ρ' h' w' cx Q e a w2) : Post ρ h w cx Q e a w2 := by
  obtain ⟨x, ρ2, h1, h2, h3, h4, h5⟩ := p
  exact ⟨x, ρ2, h1, h2, h3, h4, E.trans h5⟩
theorem seq_ok {J : Rho → Heap → World → Prop} {fa fb : Cx → St → RS} {a : Code} (ha : CodeOk P J fa a) {cx : Cx} {s : St} {Q : AX × St → Prop} {ρ : Rho} {act : Act} {w : World} {N : Act → World → Prop} (G : J ρ s.hp w)
    (hq : (fa cx s).all fun r => (match r.1 with | .normal => fb cx r.2 | _ => .fin r : RS).all Q) (R : StR ρ cx s act) (S : Sim ρ s.hp w)
    (hN : ∀ s' ρ' a' w', (fb cx s').all Q → StR ρ' cx s' a' → Sim ρ' s'.hp w' → Ext ρ s.hp w ρ' s'.hp w' → N a' w') : a.wp P (Exit.then N (Post ρ s.hp w cx Q)) act w := by
  refine wp_mono (ha cx s _ ρ act w G hq R S) ?_
  rintro e a' w' ⟨⟨x, s'⟩, ρ', hx, hex, hst, hs, hE⟩
  cases x with
  | normal =>
    cases e <;> first | exact hex.elim | skip
    exact hN s' ρ' a' w' hx hst hs hE
  | ret =>
    cases e <;> first | exact hex.elim | skip
    exact ⟨(.ret, s'), ρ', hx, trivial, hst, hs, hE⟩
  | panic c =>
    cases e <;> first | exact hex.elim | skip
    exact ⟨(.panic c, s'), ρ', hx, hex, hst, hs, hE⟩
  | exit id =>
    cases e <;> first | exact hex.elim | skip
    exact ⟨(.exit id, s'), ρ', hx, hex, hst, hs, hE⟩
  | goto l =>
    cases e <;> first | exact hex.elim | skip
    exact ⟨(.goto l, s'), ρ', hx, hex, hst, hs, hE⟩
theorem seqK_eq (b : Code) (cx : Cx) (self : CodeF) (r : AX × St) : seqK b cx self r = (match r.1 with | .normal => self cx b r.2 | _ => .fin r : RS) := by
  obtain ⟨x, s⟩ := r; cases x <;> rfl
theorem cond_ok {n : Nat} {ρ : Rho} (G : GR n ρ) {cx : Cx} {s : St} {a : Act} (R : StR ρ cx s a) {x : Operand} (hx : opndOk n x = true) {v : AV} (hv : evO x s.reg s.loc = some v) {t : Bool} (ht : Ev.asBool v = some t) : a.eval x = .bool t := by
  have h := evO_ok G hx (a := a) (fun t v _ h => R.reg.look h) hv
  rw [asBool_some ht] at h
  exact VR.bool_iff.1 h
theorem region_ok (X : FnsOk P) (hmix : P.follows .mixedOrders = true) {n : Nat} {J : Rho → Heap → World → Prop} (B : Base n J) {call : CallF} (C : CallOk P J call) {id : Nat} {ops : Array Oper} {draw : Bool} (hc : codeOk P n (.region id ops draw) = true) {cx : Cx} {s : St} {Q : AX × St → Prop} {ρ : Rho} {a : Act} {w : World} (G : J ρ s.hp w)
    (hq : (regionA P draw ops.toList cx call s.reg [] s.hp s.dfr).all Q) (R : StR ρ cx s a) (S : Sim ρ s.hp w) : (Code.region id ops draw).wp P (Post ρ s.hp w cx Q) a w := by
  have hc : (ops.toList.all (operOk n) && (!draw || planOk P ops.toList)) = true := hc
  rw [Bool.and_eq_true] at hc
  unfold regionA at hq
  cases draw with
  | true =>
    rw [bcase_true] at hq
    exact drawA_ok X B C (by simpa using hc.2) hc.1 hmix G hq R.reg R.dfr S
  | false =>
    rw [bcase_false] at hq
    refine wp_region ?_
    have := opsA_ok X B C hc.1 G ops.toList 0 rfl ρ s.reg [] s.hp s.dfr a w hq R.reg.drop R.dfr S (Ext.refl _ _ _)
    rw [Array.length_toList, ← List.range_eq_range'] at this
    exact this

variable {hint : FuncId → Nat} {orc : Orc} {J : Rho → Heap → World → Prop}
def RunOk (P : Program) (hint : FuncId → Nat) (orc : Orc) (J : Rho → Heap → World → Prop) (n k : Nat) : Prop := ∀ c, codeOk P n c = true → CodeOk P J (fun cx s => (fix P hint orc k).run cx c s) c
def LoopsOk (P : Program) (hint : FuncId → Nat) (orc : Orc) (J : Rho → Heap → World → Prop) (n k : Nat) : Prop := ∀ b, codeOk P n b = true → ∀ cx s Q ρ a w, J ρ s.hp w → ((fix P hint orc k).run cx (.loop b) s).all Q → StR ρ cx s a → Sim ρ s.hp w → Code.rounds P b (Post ρ s.hp w cx Q) k a w
theorem fix_succ (k : Nat) : fix P hint orc (k + 1) = stepF P hint orc (fix P hint orc k) := rfl
theorem run_succ (k : Nat) (cx : Cx) (c : Code) (s : St) : (fix P hint orc (k + 1)).run cx c s = step c P cx (fix P hint orc k).run (callOf P hint orc (fix P hint orc k)) s := rfl

theorem rounds_mono {c : Code} {Q Q' : Exit → Act → World → Prop} (h : ∀ e a w, Q e a w → Q' e a w) : ∀ {k : Nat} {a : Act} {w : World}, Code.rounds P c Q k a w → Code.rounds P c Q' k a w
  | 0, _, _, hr => hr
  | k + 1, a, w, hr => by
    rw [rounds_succ] at hr ⊢
    refine wp_mono hr fun e a' w' he => ?_
    cases e <;> first | exact h _ _ _ he | exact rounds_mono h he
theorem loops_ok {n k : Nat} (B : Base n J) (hr : RunOk P hint orc J n k) (hl : LoopsOk P hint orc J n k) : LoopsOk P hint orc J n (k + 1) := by
  intro b hb cx s Q ρ a w G hq R S
  rw [run_succ] at hq
  have hq : (((fix P hint orc k).run cx b s).bind (seqK (.loop b) cx (fix P hint orc k).run)).all Q := hq
  rw [Res.all_bind] at hq
  rw [rounds_succ]
  refine seq_ok (fb := fun cx s => (fix P hint orc k).run cx (.loop b) s) (hr b hb) G (Res.all_mono (fun r h => by rw [seqK_eq] at h; exact h) hq) R S fun s' ρ' a' w' h1 h2 h3 h4 => ?_
  exact rounds_mono (fun e a w p => p.trans h4) (hl b hb cx s' Q ρ' a' w' (B.mono G h4) h1 h2 h3)
theorem run_ok (X : FnsOk P) (hmix : P.follows .mixedOrders = true) {n k : Nat} (B : Base n J) (hr : RunOk P hint orc J n k) (hl : LoopsOk P hint orc J n k) (C : CallOk P J (callOf P hint orc (fix P hint orc k))) : RunOk P hint orc J n (k + 1) := by
  intro c hc cx s Q ρ a w G hq R S
  have hq : ((fix P hint orc (k + 1)).run cx c s).all Q := hq
  rw [run_succ] at hq
  cases c with
  | skip => exact wp_skip ⟨(.normal, s), ρ, hq, trivial, R, S, Ext.refl _ _ _⟩
  | region id ops draw => exact region_ok X hmix B C hc G hq R S
  | seq x y =>
    have hc : (codeOk P n x && codeOk P n y) = true := hc
    rw [Bool.and_eq_true] at hc
    have hq : (((fix P hint orc k).run cx x s).bind (seqK y cx (fix P hint orc k).run)).all Q := hq
    rw [Res.all_bind] at hq
    refine wp_seq (seq_ok (fb := fun cx s => (fix P hint orc k).run cx y s) (hr x hc.1) G (Res.all_mono (fun r h => by rw [seqK_eq] at h; exact h) hq) R S fun s' ρ' a' w' h1 h2 h3 h4 => ?_)
    exact wp_mono (hr y hc.2 cx s' Q ρ' a' w' (B.mono G h4) h1 h2 h3) fun e a w p => p.trans h4
  | cond x y z =>
    have hc : (opndOk n x && (codeOk P n y && codeOk P n z)) = true := hc
    rw [Bool.and_eq_true, Bool.and_eq_true] at hc
    have hq : (condK (evO x s.reg s.loc) y z cx (fix P hint orc k).run s).all Q := hq
    unfold condK at hq
    cases hv : evO x s.reg s.loc with
    | none => rw [hv] at hq; exact hq.elim
    | some v =>
      rw [hv, ocase_some] at hq
      cases ht : Ev.asBool v with
      | none => rw [ht] at hq; exact hq.elim
      | some t =>
        rw [ht, ocase_some] at hq
        refine wp_cond (cond_ok (B.gr G) R hc.1 hv ht) ?_
        cases t with
        | true => exact hr y hc.2.1 cx s Q ρ a w G hq R S
        | false => exact hr z hc.2.2 cx s Q ρ a w G hq R S
  | block id b =>
    have hq : (((fix P hint orc k).run cx b s).bind (blockK id)).all Q := hq
    rw [Res.all_bind] at hq
    refine wp_block (wp_mono (hr b hc cx s _ ρ a w G hq R S) ?_)
    rintro e a' w' ⟨⟨x, s'⟩, ρ', hx, hex, hst, hs, hE⟩
    cases x with
    | exit j =>
      cases e <;> first | exact hex.elim | skip
      have hex : j = _ := hex
      subst hex
      have hx : (bcase (Nat.beq j id) (.fin (.normal, s')) (.fin (.exit j, s')) : RS).all Q := hx
      show if j = id then _ else _
      cases hj : Nat.beq j id with
      | true =>
        rw [hj, bcase_true] at hx
        rw [if_pos (nbeq_iff.1 hj)]
        exact ⟨(.normal, s'), ρ', hx, trivial, hst, hs, hE⟩
      | false =>
        rw [hj, bcase_false] at hx
        rw [if_neg (fun q => by rw [nbeq_iff.2 q] at hj; cases hj)]
        exact ⟨(.exit j, s'), ρ', hx, rfl, hst, hs, hE⟩
    | normal => cases e <;> first | exact hex.elim | exact ⟨(.normal, s'), ρ', hx, trivial, hst, hs, hE⟩
    | ret => cases e <;> first | exact hex.elim | exact ⟨(.ret, s'), ρ', hx, trivial, hst, hs, hE⟩
    | panic c => cases e <;> first | exact hex.elim | exact ⟨(.panic c, s'), ρ', hx, hex, hst, hs, hE⟩
    | goto l => cases e <;> first | exact hex.elim | exact ⟨(.goto l, s'), ρ', hx, hex, hst, hs, hE⟩
  | loop b =>
    have hl' := loops_ok B hr hl b hc cx s Q ρ a w G (by rw [run_succ]; exact hq) R S
    exact wp_loop_rounds (k + 1) hl'
  | exit id => exact wp_exit ⟨(.exit id, s), ρ, hq, rfl, R, S, Ext.refl _ _ _⟩
  | label l => exact wp_label ⟨(.normal, s), ρ, hq, trivial, R, S, Ext.refl _ _ _⟩
  | goto l => exact wp_goto ⟨(.goto l, s), ρ, hq, rfl, R, S, Ext.refl _ _ _⟩
  | ret => exact wp_ret ⟨(.ret, s), ρ, hq, trivial, R, S, Ext.refl _ _ _⟩
  | rangeFunc a b c d => exact (show False from hq).elim
  | scope b => exact (show False from hq).elim
  | refuse w => exact (show False from hq).elim
end
end Go.Ev
