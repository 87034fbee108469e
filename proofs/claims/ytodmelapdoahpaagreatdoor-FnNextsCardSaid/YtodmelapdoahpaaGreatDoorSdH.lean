import Derived.Test.YtodmelapdoahpaaGreatDoorSdG
import Derived.Test.YtodmelapdoahpaaGreatDoorEvB
set_option linter.all false
namespace Go.Ev
open Go
section
variable {P : Program}

def Exit.inBlockS (id : Nat) (Q : Exit → Act → List Frame → World → Prop) : Exit → Act → List Frame → World → Prop
  | .exit id', a, cs, w => if id' = id then Q .normal a cs w else Q (.exit id') a cs w
  | e, a, cs, w => Q e a cs w
theorem wpS_block {Q : Exit → Act → List Frame → World → Prop} {a : Act} {cs : List Frame} {w : World} {id : Nat} {c : Code} (h : c.wpS P (Ev.Exit.inBlockS id Q) a cs w) : (Code.block id c).wpS P Q a cs w := by
  intro b k hb hr
  obtain ⟨e, a₁, cs₁, w₁, hq, harr⟩ := h b (.inBlock id :: k) hb hr
  cases e with
  | normal => exact ⟨.normal, a₁, cs₁, w₁, hq, .head step_block (Steps.trans harr (.one step_inBlock))⟩
  | exit id' =>
    by_cases hid : id' = id
    · simp only [Ev.Exit.inBlockS, hid, if_true] at hq
      exact ⟨.normal, a₁, cs₁, w₁, hq, .head step_block (harr k (by simp [exitTo, hid]))⟩
    · simp only [Ev.Exit.inBlockS, hid, if_false] at hq
      refine ⟨.exit id', a₁, cs₁, w₁, hq, fun k' hk => .head step_block (harr k' ?_)⟩
      have : (id == id') = false := by simp; exact fun h => hid h.symm
      simp [exitTo, this, hk]
  | goto l => exact ⟨_, a₁, cs₁, w₁, hq, fun k' hk => .head step_block (harr k' (by simp [gotoIn, hk]))⟩
  | ret => exact ⟨_, a₁, cs₁, w₁, hq, .of_steps (.one step_block) harr⟩
  | panic ch => exact ⟨_, a₁, cs₁, w₁, hq, .of_steps (.one step_block) harr⟩
  | outgrown => exact ⟨_, a₁, cs₁, w₁, hq, .of_steps (b := b) (k := k) (cs := cs₁) (e := .outgrown) (.one step_block) harr⟩
theorem wpS_mono {Q Q' : Exit → Act → List Frame → World → Prop} {a : Act} {cs : List Frame} {w : World} {c : Code} (h : c.wpS P Q a cs w) (hq : ∀ e a cs w, Q e a cs w → Q' e a cs w) : c.wpS P Q' a cs w :=
  fun b k hb hr => let ⟨e, a', cs', w', q, r⟩ := h b k hb hr; ⟨e, a', cs', w', hq _ _ _ _ q, r⟩

def atM (c₀ : Frame) (m : FrameMode) : Frame := { c₀ with mode := m }
def PostD (ρ : Rho) (h : Heap) (w : World) (cx : Cx) (Q : AX × St × DM → Prop) (c₀ : Frame) (cs0 : List Frame) (e : Exit) (a' : Act) (cs' : List Frame) (w' : World) : Prop :=
  ∃ x ρ' m', Q x ∧ ExR ρ' x.1 e ∧ StR ρ' cx x.2.1 a' ∧ Sim ρ' x.2.1.hp w' ∧ Ext ρ h w ρ' x.2.1.hp w' ∧ DMR ρ' x.2.2 m' ∧ cs' = atM c₀ m' :: cs0
theorem PostD.trans {ρ ρ' : Rho} {h h' : Heap} {w w' : World} (E : Ext ρ h w ρ' h' w') {cx : Cx} {Q : AX × St × DM → Prop} {c₀ : Frame} {cs0 : List Frame} {e : Exit} {a : Act} {cs : List Frame} {w2 : World} (p : PostD ρ' h' w' cx Q c₀ cs0 e a cs w2) : PostD ρ h w cx Q c₀ cs0 e a cs w2 := by
  obtain ⟨x, ρ2, m', h1, h2, h3, h4, h5, h6⟩ := p
  exact ⟨x, ρ2, m', h1, h2, h3, h4, E.trans h5, h6⟩
def CodeDOk (P : Program) (J : Rho → Heap → World → Prop) (run : Cx → St → DM → RD) (c : Code) : Prop :=
  ∀ cx s u Q ρ a m w c₀ cs0, J ρ s.hp w → (run cx s u).all Q → StR ρ cx s a → Sim ρ s.hp w → DMR ρ u m → c.wpS P (PostD ρ s.hp w cx Q c₀ cs0) a (atM c₀ m :: cs0) w

theorem rec_ok {ρ : Rho} {u : DM} {m : FrameMode} (M : DMR ρ u m) (c₀ : Frame) (cs0 : List Frame) :
    (∃ v' m', recoverD (atM c₀ m :: cs0) = some (v', atM c₀ m' :: cs0) ∧ VR ρ (recV u).1 v' ∧ DMR ρ (recV u).2 m') ∨ (recoverD (atM c₀ m :: cs0) = none ∧ recV u = (.niliface, u)) := by
  cases u with
  | returning => right; rw [show m = .returning from M]; exact ⟨rfl, rfl⟩
  | panicking c =>
    obtain ⟨ch, rfl, hc⟩ := M
    cases hc with
    | nil => right; exact ⟨rfl, rfl⟩
    | @cons v b v' l l' hv hs =>
      cases b with
      | true => right; exact ⟨rfl, rfl⟩
      | false => left; exact ⟨v', .panicking (⟨v', true, false⟩ :: l'), rfl, hv, ⟨_, rfl, .cons hv hs⟩⟩

theorem opsD_nil (ops : List Oper) (cx : Cx) (call : CallF) (reg : T AV) (loc : Loc) (h : Heap) (dfr : Dfr) (u : DM) : opsD P ops [] cx call reg loc h dfr u = .fin (.normal, ⟨reg, loc, h, dfr⟩, u) := rfl
theorem opsD_cons (ops : List Oper) (o : Oper) (l : List Oper) (cx : Cx) (call : CallF) (reg : T AV) (loc : Loc) (h : Heap) (dfr : Dfr) (u : DM) :
    opsD P ops (o :: l) cx call reg loc h dfr u = oneD P (wantO o ops reg loc) o cx call (opsD P ops l cx call) reg loc h dfr u := rfl
theorem isRec_ok {o : Oper} (h : isRecover o.op = true) (e : Operand → Value) (w : World) : (execOp e o).run P w = .ok .recover w := by
  obtain ⟨dst, op, ty, pos, after, guard⟩ := o
  cases op <;> first | (exact Bool.noConfusion (show false = true from h)) | skip
  rename_i c
  obtain ⟨cal, args, ts⟩ := c
  cases cal with
  | value f => exact Bool.noConfusion (show false = true from h)
  | invoke r nm => exact Bool.noConfusion (show false = true from h)
  | builtin b =>
    cases b <;> first | (exact Bool.noConfusion (show false = true from h)) | rfl

theorem opsD_ok (X : FnsOk P) {n : Nat} {J : Rho → Heap → World → Prop} (B : Base n J) {call : CallF} (C : CallOk P J call) {ops : Array Oper} (hops : ops.toList.all (operOk n) = true) {cx : Cx} {Q : AX × St × DM → Prop} {ρ0 : Rho} {h0 : Heap} {w0 : World} (G : J ρ0 h0 w0) (c₀ : Frame) (cs0 : List Frame) :
    ∀ (l : List Oper) (i : Nat), ops.toList.drop i = l → ∀ (ρ : Rho) (reg : T AV) (loc : Loc) (h : Heap) (dfr : Dfr) (u : DM) (m : FrameMode) (a : Act) (w : World), (opsD P ops.toList l cx call reg loc h dfr u).all Q → RegOk ρ cx reg loc a.tmps → DR ρ dfr a.defers → DMR ρ u m →
      Sim ρ h w → Ext ρ0 h0 w0 ρ h w → wpOpsS P ops (PostD ρ0 h0 w0 cx Q c₀ cs0) (List.range' i l.length) a (atM c₀ m :: cs0) w := by
  intro l
  induction l with
  | nil =>
    intro i _ ρ reg loc h dfr u m a w hq R D M s E
    exact ⟨(.normal, ⟨reg, loc, h, dfr⟩, u), ρ, m, hq, trivial, ⟨R, D⟩, s, E, M, rfl⟩
  | cons o l ih =>
    intro i hi ρ reg loc h dfr u m a w hq R D M s E
    have hio : ops[i]? = some o := by
      have : (ops.toList.drop i)[0]? = some o := by rw [hi]; rfl
      rw [List.getElem?_drop] at this
      simpa using this
    have hin : ops.toList.drop (i + 1) = l := by
      have : (ops.toList.drop i).drop 1 = l := by rw [hi]; rfl
      rw [List.drop_drop] at this
      exact this
    have hoo : operOk n o = true := List.all_eq_true.1 hops o (by
      have : o ∈ ops.toList.drop i := by rw [hi]; exact List.mem_cons_self ..
      exact List.mem_of_mem_drop this)
    rw [opsD_cons] at hq
    unfold oneD at hq
    show wpOpsS P ops (PostD ρ0 h0 w0 cx Q c₀ cs0) (i :: List.range' (i + 1) l.length) a (atM c₀ m :: cs0) w
    simp only [wpOpsS, hio]
    -- what follows behind a value that is laid
    have lay : ∀ {v : AV} {v' : Value} {u2 : DM} {m2 : FrameMode}, ((putK o.dst cx v finS reg loc h dfr).bind (afterD u2 (opsD P ops.toList l cx call))).all Q → VR ρ v v' → DMR ρ u2 m2 →
        wpOpsS P ops (PostD ρ0 h0 w0 cx Q c₀ cs0) (List.range' (i + 1) l.length) (a.put o.dst v') (atM c₀ m2 :: cs0) w := by
      intro v v' u2 m2 hq hv hM
      rw [Res.all_bind] at hq
      obtain ⟨reg', loc', h1, _, _, _, h2⟩ := putK_all hq
      have h1 : (opsD P ops.toList l cx call reg' loc' h dfr u2).all Q := h1
      refine ih (i + 1) hin ρ reg' loc' h dfr u2 m2 _ w h1 (h2 ρ a.tmps v' R hv a.defers) ?_ hM s E
      cases o.dst <;> exact D
    cases hw : wantO o ops.toList reg loc with
    | none => rw [hw] at hq; exact hq.elim
    | some b =>
      rw [hw, ocase_some] at hq
      have hwt : Region.wanted o (yielded ops a.tmps) = b := by
        unfold wantO at hw
        cases hg : o.guard with
        | none => rw [hg] at hw; cases hw; unfold Region.wanted; rw [hg]
        | some g =>
          rw [hg, ocase_some] at hw
          exact want_ok hg (tmps := a.tmps) (fun og d v _ _ hv => R.look hv) hw
      rw [hwt]
      cases b with
      | false =>
        rw [bcase_false] at hq
        rw [if_neg (by decide)]
        exact lay hq (undef_VR ρ) M
      | true =>
        rw [bcase_true] at hq
        rw [if_pos rfl]
        cases hrec : isRecover o.op with
        | true =>
          rw [hrec, bcase_true] at hq
          rw [isRec_ok hrec a.eval w]
          simp only
          rcases rec_ok M c₀ cs0 with ⟨v', m', g1, g2, g3⟩ | ⟨g1, g2⟩
          · rw [g1]; exact lay hq g2 g3
          · rw [g1]
            rw [g2] at hq
            exact lay (v' := .nilIface) hq (by simp only [VR]) M
        | false =>
          rw [hrec, bcase_false, Res.all_bind] at hq
          have hwp : o.wp P a w (fun a' w' => wpOpsS P ops (PostD ρ0 h0 w0 cx Q c₀ cs0) (List.range' (i + 1) l.length) a' (atM c₀ m :: cs0) w') (fun e a' w' => PostD ρ0 h0 w0 cx Q c₀ cs0 e a' (atM c₀ m :: cs0) w') := by
            refine contR_ok C (B.mono G E) (opF_ok X s o (evOn (B.gr (B.mono G E)) R hoo)) R D s (Ext.refl ρ h w) hq (fun ρ' reg' loc' h' dfr' a' w' g1 g2 g3 g4 g5 => ?_) fun ch w' g => ?_
            · have g1 : (opsD P ops.toList l cx call reg' loc' h' dfr' u).all Q := g1
              exact ih (i + 1) hin ρ' reg' loc' h' dfr' u m a' w' g1 g2 g3 (M.mono g5.le) g4 (E.trans g5)
            · obtain ⟨⟨x, s'⟩, ρ', hx, hex, hst, hs', hE⟩ := g
              cases x <;> first | exact hex.elim | skip
              rename_i c
              exact ⟨(.panic c, s', u), ρ', m, hx, hex, hst, hs', E.trans hE, M.mono hE.le, rfl⟩
          unfold Oper.wp at hwp
          generalize (execOp a.eval o).run P w = r at hwp ⊢
          cases r with
          | ok nx w' => cases nx <;> first | exact hwp | exact (show False from hwp).elim
          | halt hl w' => exact hwp

variable {hint : FuncId → Nat} {orc : Orc} {J : Rho → Heap → World → Prop}
def RunDOk (P : Program) (hint : FuncId → Nat) (orc : Orc) (J : Rho → Heap → World → Prop) (n k : Nat) : Prop := ∀ c, codeOk P n c = true → CodeDOk P J (fun cx s u => (fix P hint orc k).runD cx c s u) c
theorem runD_succ (k : Nat) (cx : Cx) (c : Code) (s : St) (u : DM) : (fix P hint orc (k + 1)).runD cx c s u = stepD c P cx (fix P hint orc k).run (fix P hint orc k).runD (callOf P hint orc (fix P hint orc k)) s u := rfl
theorem seqKD_eq (b : Code) (cx : Cx) (self : CodeD) (r : AX × St × DM) : seqKD b cx self r = (match r.1 with | .normal => self cx b r.2.1 r.2.2 | _ => .fin r : RD) := by
  obtain ⟨x, s, u⟩ := r; cases x <;> rfl
theorem runD_ok (X : FnsOk P) {n k : Nat} (B : Base n J) (hr : RunOk P hint orc J n k) (hd : RunDOk P hint orc J n k) (C : CallOk P J (callOf P hint orc (fix P hint orc k))) : RunDOk P hint orc J n (k + 1) := by
  intro c hc cx s u Q ρ a m w c₀ cs0 G hq R S M
  have hq : ((fix P hint orc (k + 1)).runD cx c s u).all Q := hq
  rw [runD_succ] at hq
  have other : (((fix P hint orc k).run cx c s).bind (liftD u)).all Q → c.wpS P (PostD ρ s.hp w cx Q c₀ cs0) a (atM c₀ m :: cs0) w := by
    intro hq
    rw [Res.all_bind] at hq
    refine wpS_of_wp (wp_mono (hr c hc cx s _ ρ a w G hq R S) ?_)
    rintro e a' w' ⟨⟨x, s'⟩, ρ', hx, hex, hst, hs, hE⟩
    exact ⟨(x, s', u), ρ', m, hx, hex, hst, hs, hE, M.mono hE.le, rfl⟩
  cases c with
  | seq x y =>
    have hc : (codeOk P n x && codeOk P n y) = true := hc
    rw [Bool.and_eq_true] at hc
    have hq : (((fix P hint orc k).runD cx x s u).bind (seqKD y cx (fix P hint orc k).runD)).all Q := hq
    rw [Res.all_bind] at hq
    refine wpS_seq (wpS_mono (hd x hc.1 cx s u _ ρ a m w c₀ cs0 G hq R S M) ?_)
    rintro e a' cs' w' ⟨⟨x, s', u'⟩, ρ', m', hx, hex, hst, hs, hE, hM, rfl⟩
    cases x with
    | normal =>
      cases e <;> first | exact hex.elim | skip
      exact wpS_mono (hd y hc.2 cx s' u' Q ρ' a' m' w' c₀ cs0 (B.mono G hE) hx hst hs hM) fun e a cs w p => p.trans hE
    | ret => cases e <;> first | exact hex.elim | exact ⟨(.ret, s', u'), ρ', m', hx, trivial, hst, hs, hE, hM, rfl⟩
    | panic c => cases e <;> first | exact hex.elim | exact ⟨(.panic c, s', u'), ρ', m', hx, hex, hst, hs, hE, hM, rfl⟩
    | exit id => cases e <;> first | exact hex.elim | exact ⟨(.exit id, s', u'), ρ', m', hx, hex, hst, hs, hE, hM, rfl⟩
    | goto l => cases e <;> first | exact hex.elim | exact ⟨(.goto l, s', u'), ρ', m', hx, hex, hst, hs, hE, hM, rfl⟩
  | cond x y z =>
    have hc : (opndOk n x && (codeOk P n y && codeOk P n z)) = true := hc
    rw [Bool.and_eq_true, Bool.and_eq_true] at hc
    have hq : (condKD (evO x s.reg s.loc) y z cx (fix P hint orc k).runD s u).all Q := hq
    unfold condKD at hq
    cases hv : evO x s.reg s.loc with
    | none => rw [hv] at hq; exact hq.elim
    | some v =>
      rw [hv, ocase_some] at hq
      cases ht : Ev.asBool v with
      | none => rw [ht] at hq; exact hq.elim
      | some t =>
        rw [ht, ocase_some] at hq
        refine wpS_cond (cond_ok (B.gr G) R hc.1 hv ht) ?_
        cases t with
        | true => exact hd y hc.2.1 cx s u Q ρ a m w c₀ cs0 G hq R S M
        | false => exact hd z hc.2.2 cx s u Q ρ a m w c₀ cs0 G hq R S M
  | block id b =>
    have hq : (((fix P hint orc k).runD cx b s u).bind (blockKD id)).all Q := hq
    rw [Res.all_bind] at hq
    refine wpS_block (wpS_mono (hd b hc cx s u _ ρ a m w c₀ cs0 G hq R S M) ?_)
    rintro e a' cs' w' ⟨⟨x, s', u'⟩, ρ', m', hx, hex, hst, hs, hE, hM, rfl⟩
    cases x with
    | exit j =>
      cases e <;> first | exact hex.elim | skip
      have hex : j = _ := hex
      subst hex
      have hx : (bcase (Nat.beq j id) (.fin (.normal, s', u')) (.fin (.exit j, s', u')) : RD).all Q := hx
      show if j = id then _ else _
      cases hj : Nat.beq j id with
      | true =>
        rw [hj, bcase_true] at hx
        rw [if_pos (nbeq_iff.1 hj)]
        exact ⟨(.normal, s', u'), ρ', m', hx, trivial, hst, hs, hE, hM, rfl⟩
      | false =>
        rw [hj, bcase_false] at hx
        rw [if_neg (fun q => by rw [nbeq_iff.2 q] at hj; cases hj)]
        exact ⟨(.exit j, s', u'), ρ', m', hx, rfl, hst, hs, hE, hM, rfl⟩
    | normal => cases e <;> first | exact hex.elim | exact ⟨(.normal, s', u'), ρ', m', hx, trivial, hst, hs, hE, hM, rfl⟩
    | ret => cases e <;> first | exact hex.elim | exact ⟨(.ret, s', u'), ρ', m', hx, trivial, hst, hs, hE, hM, rfl⟩
    | panic c => cases e <;> first | exact hex.elim | exact ⟨(.panic c, s', u'), ρ', m', hx, hex, hst, hs, hE, hM, rfl⟩
    | goto l => cases e <;> first | exact hex.elim | exact ⟨(.goto l, s', u'), ρ', m', hx, hex, hst, hs, hE, hM, rfl⟩
  | region id ops draw =>
    cases draw with
    | true => exact other hq
    | false =>
      have hc : (ops.toList.all (operOk n) && (!false || planOk P ops.toList)) = true := hc
      rw [Bool.and_eq_true] at hc
      have hq : (opsD P ops.toList ops.toList cx (callOf P hint orc (fix P hint orc k)) s.reg [] s.hp s.dfr u).all Q := hq
      refine wpS_region ?_
      have := opsD_ok X B C hc.1 G c₀ cs0 ops.toList 0 rfl ρ s.reg [] s.hp s.dfr u m a w hq R.reg.drop R.dfr M S (Ext.refl _ _ _)
      rw [Array.length_toList, ← List.range_eq_range'] at this
      exact this
  | skip => exact other hq
  | loop b => exact other hq
  | exit id => exact other hq
  | label l => exact other hq
  | goto l => exact other hq
  | ret => exact other hq
  | rangeFunc a b c d => exact other hq
  | scope b => exact other hq
  | refuse w => exact other hq

theorem callFunc_enter (X : FnsOk P) {f : FuncId} {fn : Func} {c : Code} (hf : P.funcs[f]? = some fn) (hb : fn.body = some c) (args : Array Value) (w : World) : (callFunc f args).run P w = .ok (.enter f args) w := by
  have hok := X f fn hf
  unfold fnOk at hok
  rw [Bool.and_eq_true, Bool.not_eq_true'] at hok
  unfold callFunc
  have hne : fn.name ≠ "runtime.NumGoroutine" := by simpa using hok.1
  simp [hf, hne, hb]
theorem bodyD_ok (X : FnsOk P) {n : Nat} {selfD : CodeD} (hself : ∀ c, codeOk P n c = true → CodeDOk P J (fun cx s u => selfD cx c s u) c) (hP : ∀ (f : Nat) (fn : Func) (c : Code), P.funcs[f]? = some fn → fn.body = some c → codeOk P n c = true) :
    CallDOk P J (callDBody P hint selfD) := by
  intro f args h u Q ρ args' m w G hq S ha M
  unfold callDBody at hq
  cases hf : P.funcs[f]? with
  | none => rw [hf] at hq; exact hq.elim
  | some fn =>
    rw [hf, ocase_some] at hq
    unfold runBodyD at hq
    cases hb : fn.body with
    | none => rw [hb] at hq; exact hq.elim
    | some c =>
      rw [hb, ocase_some] at hq
      cases hs : enterSt (cxOf hint f fn) args h with
      | none => rw [hs] at hq; exact hq.elim
      | some s =>
        rw [hs, ocase_some, Res.all_bind] at hq
        obtain ⟨hh, hst⟩ := enterSt_ok hs ha
        refine ⟨callFunc_enter X hf hb args' w, callsD_of_wpS hf hb fun c₀ cs hm => ?_⟩
        have hc0 : c₀ = atM c₀ m := by subst hm; rfl
        have hcode := hself c (hP f fn c hf hb) (cxOf hint f fn) s u _ ρ { tmps := args' ++ Array.replicate (fn.ntmps - args'.size) undef, defers := [] } m w c₀ cs (by rw [hh]; exact G) hq hst (by rw [hh]; exact S) M
        rw [← hc0] at hcode
        refine wpS_mono hcode ?_
        rintro e a' cs' w' ⟨⟨x, s', u'⟩, ρ', m', hx, hex, hst', hs', hE, hM, rfl⟩
        rw [hh] at hE
        have fin : ∀ {r : Res (DM × Heap)}, (noDfr s'.dfr r).all Q → a'.defers = [] ∧ r.all Q := fun hx => by
          unfold noDfr at hx
          have hD := hst'.dfr
          cases hd : s'.dfr with
          | nil => rw [hd] at hx hD; cases hD' : a'.defers with
            | nil => exact ⟨rfl, hx⟩
            | cons _ _ => rw [hD'] at hD; cases hD
          | cons _ _ => rw [hd] at hx; exact hx.elim
        have val : ∀ {v : Option AV}, resultsA P fn s' = v → (okDm v u' s'.hp).all Q → ∃ v', (results fn a'.tmps).run P w' = .ok v' w' ∧ DPost ρ h w Q (.returned v') m' w' := fun hv hx => by
          unfold okDm at hx
          split at hx
          · rename_i v
            obtain ⟨v', g1, _⟩ := results_ok hst'.reg hs' hv
            exact ⟨v', g1, (settleA u', s'.hp), ρ', hx, settle_ok hM, hs', hE⟩
          · exact hx.elim
        cases x with
        | normal =>
          cases e <;> first | exact hex.elim | skip
          obtain ⟨g1, g2⟩ := fin (show (noDfr s'.dfr (okDm (resultsA P fn s') u' s'.hp)).all Q from hx)
          obtain ⟨v', g3, g4⟩ := val rfl g2
          exact ⟨g1, m', rfl, v', g3, g4⟩
        | ret =>
          cases e <;> first | exact hex.elim | skip
          obtain ⟨g1, g2⟩ := fin (show (noDfr s'.dfr (okDm (resultsA P fn s') u' s'.hp)).all Q from hx)
          obtain ⟨v', g3, g4⟩ := val rfl g2
          exact ⟨g1, m', rfl, v', g3, g4⟩
        | panic c =>
          cases e <;> first | exact hex.elim | skip
          obtain ⟨g1, g2⟩ := fin (show (noDfr s'.dfr (.fin (raisedA u' c, s'.hp))).all Q from hx)
          exact ⟨g1, m', rfl, (raisedA u' c, s'.hp), ρ', g2, raised_ok hM hex, hs', hE⟩
        | exit id => exact (show False from hx).elim
        | goto l => exact (show False from hx).elim

def OrcOk (P : Program) (J : Rho → Heap → World → Prop) (orc : Orc) : Prop :=
  ∀ f args h ρ args' w v h1, orc f args h = some (v, h1) → J ρ h w → Sim ρ h w → VRL ρ args args'.toList → Calls P f args' w fun e w' => ∃ v' ρ', e = .returned v' ∧ VR ρ' v v' ∧ Sim ρ' h1 w' ∧ Ext ρ h w ρ' h1 w'
theorem callOf_ok {n : Nat} (B : Base n J) (O : OrcOk P J orc) {g : Fns} (h : CallOk P J (callBody P hint g.run (callDF P hint g))) : CallOk P J (callOf P hint orc g) := by
  intro f args hp Q ρ args' w G hq S ha
  unfold callOf at hq
  cases ho : orc f args hp with
  | none => rw [ho, ocase_none] at hq; exact h f args hp Q ρ args' w G hq S ha
  | some r =>
    obtain ⟨v, h1⟩ := r
    rw [ho, ocase_some] at hq
    refine (O f args hp ρ args' w v h1 ho G S ha).mono ?_
    rintro e w' ⟨v', ρ', rfl, hv, hs, hE⟩
    exact ⟨(.ret v, h1), ρ', hq, hv, hs, hE⟩
theorem fix_ok (X : FnsOk P) (hmix : P.follows .mixedOrders = true) {n : Nat} (B : Base n J) (O : OrcOk P J orc) (hP : ∀ (f : Nat) (fn : Func) (c : Code), P.funcs[f]? = some fn → fn.body = some c → codeOk P n c = true) :
    ∀ k, RunOk P hint orc J n k ∧ LoopsOk P hint orc J n k ∧ RunDOk P hint orc J n k
  | 0 => ⟨fun c _ cx s Q ρ a w _ hq => (show False from hq).elim, fun b _ cx s Q ρ a w _ hq => (show False from hq).elim, fun c _ cx s u Q ρ a m w c₀ cs0 _ hq => (show False from hq).elim⟩
  | k + 1 => by
    obtain ⟨h1, h2, h3⟩ := fix_ok X hmix B O hP k
    have C : CallOk P J (callOf P hint orc (fix P hint orc k)) := callOf_ok B O (body_ok B h1 (bodyD_ok X h3 hP) hP)
    exact ⟨run_ok X hmix B h1 h2 C, loops_ok B h1 h2, runD_ok X B h1 h3 C⟩
theorem call_ok (X : FnsOk P) (hmix : P.follows .mixedOrders = true) {n : Nat} (B : Base n J) (O : OrcOk P J orc) (hP : ∀ (f : Nat) (fn : Func) (c : Code), P.funcs[f]? = some fn → fn.body = some c → codeOk P n c = true) (k : Nat) : CallOk P J (call P hint orc k) := by
  obtain ⟨h1, _, h3⟩ := fix_ok (hint := hint) X hmix B O hP k
  exact callOf_ok B O (body_ok B h1 (bodyD_ok X h3 hP) hP)
end
end Go.Ev

namespace Go.Ev
open Go

def Res.le {α : Type} : Res α → Res α → Prop
  | .fail _, _ => True
  | .fin a, r => r = .fin a
  | .ch n k, r => ∃ k', r = .ch n k' ∧ ∀ i, (k i).le (k' i)
theorem Res.le_refl {α : Type} : ∀ r : Res α, r.le r
  | .fail _ => trivial
  | .fin _ => rfl
  | .ch _ k => ⟨k, rfl, fun i => Res.le_refl (k i)⟩
theorem Res.le_bind {α β : Type} {f f' : α → Res β} (hf : ∀ a, (f a).le (f' a)) : ∀ {r r' : Res α}, r.le r' → (r.bind f).le (r'.bind f')
  | .fail _, _, _ => trivial
  | .fin a, r', h => by
    have h : r' = .fin a := h
    subst h; exact hf a
  | .ch n k, r', h => by
    obtain ⟨k', h1, h2⟩ := h
    subst h1
    exact ⟨_, rfl, fun i => Res.le_bind hf (h2 i)⟩
theorem Res.le_all {α : Type} {Q : α → Prop} : ∀ {r r' : Res α}, r.le r' → r.all Q → r'.all Q
  | .fail _, _, _, h => h.elim
  | .fin a, r', h, q => by
    have h : r' = .fin a := h
    subst h; exact q
  | .ch n k, r', h, q => by
    obtain ⟨k', h1, h2⟩ := h
    subst h1
    exact fun i hi => Res.le_all (h2 i) (q i hi)

def FLe (f g : CallF) : Prop := ∀ a b h, (f a b h).le (g a b h)
def KLe (k k' : K) : Prop := ∀ reg loc h d, (k reg loc h d).le (k' reg loc h d)
theorem putK_le {dst : Option Tmp} {cx : Cx} {v : AV} {k k' : K} (hk : KLe k k') (reg : T AV) (loc : Loc) (h : Heap) (d : Dfr) : (putK dst cx v k reg loc h d).le (putK dst cx v k' reg loc h d) := by
  unfold putK
  cases dst with
  | none => exact hk _ _ _ _
  | some t =>
    show (putD t cx v k reg loc h d).le (putD t cx v k' reg loc h d)
    unfold putD
    cases canPut t cx with
    | false => exact trivial
    | true =>
      cases bit t cx.keep with
      | true => exact hk _ _ _ _
      | false => exact hk _ _ _ _
theorem contC_le {dst : Option Tmp} {cx : Cx} {reg : T AV} {loc : Loc} {d : Dfr} {k k' : K} (hk : KLe k k') (r : CX × Heap) : (contC dst cx reg loc d k r).le (contC dst cx reg loc d k' r) := by
  obtain ⟨x, h⟩ := r
  cases x with
  | ret v => exact putK_le hk _ _ _ _
  | pan c => exact Res.le_refl _
theorem contR_le {dst : Option Tmp} {cx : Cx} {f g : CallF} (hf : FLe f g) {k k' : K} (hk : KLe k k') (r : OpR) (reg : T AV) (loc : Loc) (d : Dfr) : (contR r dst cx f reg loc d k).le (contR r dst cx g reg loc d k') := by
  cases r with
  | bad w => exact trivial
  | val v h => exact putK_le hk _ _ _ _
  | skip h => exact putK_le hk _ _ _ _
  | enter a args h => exact Res.le_bind (contC_le hk) (hf _ _ _)
  | pan v h => exact Res.le_refl _
  | dfr a args h => exact putK_le hk _ _ _ _
  | ch n c =>
    refine ⟨_, rfl, fun i => ?_⟩
    show (contN dst cx reg loc d k (c i)).le (contN dst cx reg loc d k' (c i))
    unfold contN
    cases c i with
    | none => exact trivial
    | some r => exact putK_le hk _ _ _ _
  | rcv => exact trivial
section
variable {P : Program}
theorem oneG_le {o : Oper} {cx : Cx} {f g : CallF} (hf : FLe f g) {k k' : K} (hk : KLe k k') (reg : T AV) (loc : Loc) (h : Heap) (d : Dfr) (b : Bool) : (oneG P o cx f reg loc h d k b).le (oneG P o cx g reg loc h d k' b) := by
  unfold oneG
  cases b with
  | true => exact contR_le hf hk _ _ _ _
  | false => exact putK_le hk _ _ _ _
theorem opsA_le (ops : List Oper) {cx : Cx} {f g : CallF} (hf : FLe f g) : ∀ l : List Oper, KLe (opsA P ops l cx f) (opsA P ops l cx g)
  | [], reg, loc, h, d => Res.le_refl _
  | o :: l, reg, loc, h, d => by
    show (ocase o.guard (contR (opF o.op P (ev reg loc) h) o.dst cx f reg loc d (opsA P ops l cx f)) fun q => ocase (wantG q ops reg loc) (.fail 203) (oneG P o cx f reg loc h d (opsA P ops l cx f))).le
      (ocase o.guard (contR (opF o.op P (ev reg loc) h) o.dst cx g reg loc d (opsA P ops l cx g)) fun q => ocase (wantG q ops reg loc) (.fail 203) (oneG P o cx g reg loc h d (opsA P ops l cx g)))
    cases o.guard with
    | none => exact contR_le hf (opsA_le ops hf l) _ _ _ _
    | some q =>
      rw [ocase_some, ocase_some]
      cases wantG q ops reg loc with
      | none => exact trivial
      | some b => exact oneG_le hf (opsA_le ops hf l) _ _ _ _ _

def DKLe (k k' : DK) : Prop := ∀ d, KLe (k d) (k' d)
theorem actV_le {dst : Option Tmp} {v : AV} {m : Nat} {cx : Cx} {pend : Pend} {reads : List Rd} {k k' : DK} (hk : DKLe k k') (reg : T AV) (loc : Loc) (h : Heap) (d : Dfr) : (actV P dst v m cx pend reads k reg loc h d).le (actV P dst v m cx pend reads k' reg loc h d) := by
  unfold actV
  cases recheck P m h reads with
  | true => exact putK_le (hk _) _ _ _ _
  | false => exact trivial
theorem actR_le {dst : Option Tmp} {m : Nat} {cx : Cx} {f g : CallF} (hf : FLe f g) {pend : Pend} {reads : List Rd} {k k' : DK} (hk : DKLe k k') (r : OpR) (reg : T AV) (loc : Loc) (d : Dfr) : (actR r P dst m cx f pend reads k reg loc d).le (actR r P dst m cx g pend reads k' reg loc d) := by
  cases r with
  | bad w => exact trivial
  | val v h => exact actV_le hk _ _ _ _
  | skip h => exact actV_le hk _ _ _ _
  | enter a args h =>
    refine Res.le_bind (fun r => ?_) (hf _ _ _)
    obtain ⟨x, h⟩ := r
    cases x with
    | ret v => exact actV_le hk _ _ _ _
    | pan c => exact Res.le_refl _
  | pan v h => exact Res.le_refl _
  | dfr a args h => exact actV_le hk _ _ _ _
  | ch n c =>
    refine ⟨_, rfl, fun i => ?_⟩
    show (actN P dst m cx pend reads k reg loc d (c i)).le (actN P dst m cx pend reads k' reg loc d (c i))
    unfold actN
    cases c i with
    | none => exact trivial
    | some r => exact actV_le hk _ _ _ _
  | rcv => exact trivial
theorem drawK_le {p : PL} {cx : Cx} {f g : CallF} (hf : FLe f g) {d : DS} {k k' : DK} (hk : DKLe k k') : KLe (drawK P p cx f d k) (drawK P p cx g d k') := by
  intro reg loc h df
  unfold drawK
  cases isAct p with
  | true => exact actR_le hf hk _ _ _ _
  | false =>
    rw [bcase_false, bcase_false]
    cases Nat.beq p.k 2 with
    | true =>
      rw [bcase_true, bcase_true]
      unfold drawNew
      cases opF p.o.op P (ev reg loc) h with
      | val v h' =>
        show (ocase (h'.get h.next) (.fail 215) fun b => drawNewB b p.i h.next p.o.dst v cx d k reg loc h df).le (ocase (h'.get h.next) (.fail 215) fun b => drawNewB b p.i h.next p.o.dst v cx d k' reg loc h df)
        cases h'.get h.next with
        | none => exact trivial
        | some b => exact putK_le (hk _) _ _ _ _
      | _ => exact trivial
    | false =>
      rw [bcase_false, bcase_false]
      unfold drawRd
      cases readA P reg loc h p.o with
      | none => exact trivial
      | some v => exact putK_le (hk _) _ _ _ _
theorem drawOps_le (ops : List Oper) {cx : Cx} {f g : CallF} (hf : FLe f g) : ∀ l : List PL, DKLe (drawOps P ops l cx f) (drawOps P ops l cx g)
  | [], d, reg, loc, h, df => Res.le_refl _
  | p :: l, d, reg, loc, h, df => by
    show (drawP P p ops cx f d (drawOps P ops l cx f) reg loc h df).le (drawP P p ops cx g d (drawOps P ops l cx g) reg loc h df)
    unfold drawP
    cases wantO p.o ops reg loc with
    | none => exact trivial
    | some b =>
      rw [ocase_some, ocase_some]
      cases b with
      | true => exact drawK_le hf (drawOps_le ops hf l) _ _ _ _
      | false => exact putK_le (drawOps_le ops hf l d) _ _ _ _
theorem regionA_le {draw : Bool} {ops : List Oper} {cx : Cx} {f g : CallF} (hf : FLe f g) : KLe (regionA P draw ops cx f) (regionA P draw ops cx g) := by
  intro reg loc h d
  unfold regionA
  cases draw with
  | true => exact drawOps_le ops hf _ _ _ _ _ _
  | false => exact opsA_le ops hf _ _ _ _ _

def RLe (f g : CodeF) : Prop := ∀ cx c s, (f cx c s).le (g cx c s)
theorem seqK_le {b : Code} {cx : Cx} {f g : CodeF} (h : RLe f g) (r : AX × St) : (seqK b cx f r).le (seqK b cx g r) := by
  obtain ⟨x, s⟩ := r
  cases x with
  | normal => exact h _ _ _
  | _ => exact Res.le_refl _
theorem step_le {f g : CodeF} (h : RLe f g) {u v : CallF} (hc : FLe u v) (c : Code) (cx : Cx) (s : St) : (step c P cx f u s).le (step c P cx g v s) := by
  cases c with
  | region id ops draw => exact regionA_le hc _ _ _ _
  | seq a b => exact Res.le_bind (seqK_le h) (h _ _ _)
  | cond x a b =>
    show (condK (evO x s.reg s.loc) a b cx f s).le (condK (evO x s.reg s.loc) a b cx g s)
    unfold condK
    cases evO x s.reg s.loc with
    | none => exact trivial
    | some v =>
      rw [ocase_some, ocase_some]
      cases Ev.asBool v with
      | none => exact trivial
      | some t => cases t <;> exact h _ _ _
  | block id b => exact Res.le_bind (fun r => Res.le_refl _) (h _ _ _)
  | loop b => exact Res.le_bind (seqK_le h) (h _ _ _)
  | _ => exact Res.le_refl _

def KDLe (k k' : KD) : Prop := ∀ reg loc h d u, (k reg loc h d u).le (k' reg loc h d u)
theorem afterD_le {u : DM} {k k' : KD} (hk : KDLe k k') (r : AX × St) : (afterD u k r).le (afterD u k' r) := by
  obtain ⟨x, s⟩ := r
  cases x with
  | normal => exact hk _ _ _ _ _
  | _ => exact Res.le_refl _
theorem opsD_le (ops : List Oper) {cx : Cx} {f g : CallF} (hf : FLe f g) : ∀ l : List Oper, KDLe (opsD P ops l cx f) (opsD P ops l cx g)
  | [], reg, loc, h, d, u => Res.le_refl _
  | o :: l, reg, loc, h, d, u => by
    show (oneD P (wantO o ops reg loc) o cx f (opsD P ops l cx f) reg loc h d u).le (oneD P (wantO o ops reg loc) o cx g (opsD P ops l cx g) reg loc h d u)
    have ih := opsD_le (cx := cx) ops hf l
    unfold oneD
    cases wantO o ops reg loc with
    | none => exact trivial
    | some b =>
      rw [ocase_some, ocase_some]
      cases b with
      | false => exact Res.le_bind (afterD_le ih) (Res.le_refl _)
      | true =>
        rw [bcase_true, bcase_true]
        cases isRecover o.op with
        | true => exact Res.le_bind (afterD_le ih) (Res.le_refl _)
        | false => exact Res.le_bind (afterD_le ih) (contR_le hf (fun _ _ _ _ => Res.le_refl _) _ _ _ _)
def RDLe (f g : CodeD) : Prop := ∀ cx c s u, (f cx c s u).le (g cx c s u)
theorem seqKD_le {b : Code} {cx : Cx} {f g : CodeD} (h : RDLe f g) (r : AX × St × DM) : (seqKD b cx f r).le (seqKD b cx g r) := by
  obtain ⟨x, s⟩ := r
  cases x with
  | normal => exact h _ _ _ _
  | _ => exact Res.le_refl _
theorem stepD_le {f g : CodeF} (h : RLe f g) {fd gd : CodeD} (hd : RDLe fd gd) {u v : CallF} (hc : FLe u v) (c : Code) (cx : Cx) (s : St) (m : DM) : (stepD c P cx f fd u s m).le (stepD c P cx g gd v s m) := by
  unfold stepD
  split
  · exact Res.le_bind (seqKD_le hd) (hd _ _ _ _)
  · rename_i x a b
    unfold condKD
    cases evO x s.reg s.loc with
    | none => exact trivial
    | some v =>
      rw [ocase_some, ocase_some]
      cases Ev.asBool v with
      | none => exact trivial
      | some t => cases t <;> exact hd _ _ _ _
  · exact Res.le_bind (fun r => Res.le_refl _) (hd _ _ _ _)
  · exact opsD_le _ hc _ _ _ _ _ _
  · exact Res.le_bind (fun r => Res.le_refl _) (h _ _ _)
def DLe (f g : CallD) : Prop := ∀ a b h u, (f a b h u).le (g a b h u)
theorem leaveA_le {f g : CallD} (hf : DLe f g) {fn : Func} {s : St} : ∀ (ds : Dfr) (u : DM) (h : Heap), (leaveA P ds f fn s u h).le (leaveA P ds g fn s u h)
  | [], u, h => Res.le_refl _
  | d :: ds, u, h => by
    show ((f d.1 d.2 h u).bind fun r => leaveA P ds f fn s r.1 r.2).le ((g d.1 d.2 h u).bind fun r => leaveA P ds g fn s r.1 r.2)
    exact Res.le_bind (fun r => leaveA_le hf ds _ _) (hf _ _ _ _)
theorem bodyEnd_le {f g : CallD} (hf : DLe f g) {fn : Func} (r : AX × St) : (bodyEnd P f fn r).le (bodyEnd P g fn r) := by
  obtain ⟨x, s⟩ := r
  cases x with
  | normal => exact leaveA_le hf _ _ _
  | ret => exact leaveA_le hf _ _ _
  | panic c => exact leaveA_le hf _ _ _
  | _ => exact trivial

variable {hint : FuncId → Nat} {orc : Orc}
theorem callDF_le {a b : Fns} (h : RDLe a.runD b.runD) : DLe (callDF P hint a) (callDF P hint b) := by
  intro f args hp u
  show (callDBody P hint a.runD f args hp u).le (callDBody P hint b.runD f args hp u)
  unfold callDBody
  cases P.funcs[f]? with
  | none => exact trivial
  | some fn =>
    rw [ocase_some, ocase_some]
    unfold runBodyD
    cases fn.body with
    | none => exact trivial
    | some c =>
      rw [ocase_some, ocase_some]
      cases enterSt (cxOf hint f fn) args hp with
      | none => exact trivial
      | some s => exact Res.le_bind (fun r => Res.le_refl _) (h _ _ _ _)
theorem callOf_le {a b : Fns} (h : RLe a.run b.run) (hd : RDLe a.runD b.runD) : FLe (callOf P hint orc a) (callOf P hint orc b) := by
  intro f args hp
  unfold callOf
  cases orc f args hp with
  | some v => exact Res.le_refl _
  | none =>
    rw [ocase_none, ocase_none]
    unfold callBody
    cases P.funcs[f]? with
    | none => exact trivial
    | some fn =>
      rw [ocase_some, ocase_some]
      unfold runBody
      cases fn.body with
      | none => exact trivial
      | some c =>
        rw [ocase_some, ocase_some]
        cases enterSt (cxOf hint f fn) args hp with
        | none => exact trivial
        | some s => exact Res.le_bind (bodyEnd_le (callDF_le hd)) (h _ _ _)
theorem fix_le1 : ∀ n, RLe (fix P hint orc n).run (fix P hint orc (n + 1)).run ∧ RDLe (fix P hint orc n).runD (fix P hint orc (n + 1)).runD
  | 0 => ⟨fun _ _ _ => trivial, fun _ _ _ _ => trivial⟩
  | n + 1 => by
    obtain ⟨h1, h2⟩ := fix_le1 n
    exact ⟨fun cx c s => step_le h1 (callOf_le h1 h2) c cx s, fun cx c s u => stepD_le h1 h2 (callOf_le h1 h2) c cx s u⟩
theorem Res.le_trans {α : Type} : ∀ {a b c : Res α}, a.le b → b.le c → a.le c
  | .fail _, _, _, _, _ => trivial
  | .fin x, b, c, h, h' => by
    have h : b = .fin x := h
    subst h; exact h'
  | .ch n k, b, c, h, h' => by
    obtain ⟨k', h1, h2⟩ := h
    subst h1
    obtain ⟨k'', h3, h4⟩ := h'
    exact ⟨k'', h3, fun i => Res.le_trans (h2 i) (h4 i)⟩
theorem fix_le {n m : Nat} (h : n ≤ m) : RLe (fix P hint orc n).run (fix P hint orc m).run ∧ RDLe (fix P hint orc n).runD (fix P hint orc m).runD := by
  induction h with
  | refl => exact ⟨fun _ _ _ => Res.le_refl _, fun _ _ _ _ => Res.le_refl _⟩
  | step _ ih =>
    obtain ⟨h1, h2⟩ := fix_le1 (P := P) (hint := hint) (orc := orc) ‹_›
    exact ⟨fun cx c s => Res.le_trans (ih.1 cx c s) (h1 cx c s), fun cx c s u => Res.le_trans (ih.2 cx c s u) (h2 cx c s u)⟩
theorem callOf_fix_le {n m : Nat} (h : n ≤ m) : FLe (callOf P hint orc (fix P hint orc n)) (callOf P hint orc (fix P hint orc m)) := callOf_le (fix_le h).1 (fix_le h).2

variable (P hint orc)
def Runs (cx : Cx) (c : Code) (s : St) (Q : AX × St → Prop) : Prop := ∃ n, ((fix P hint orc n).run cx c s).all Q
def Calls (f : FuncId) (args : List AV) (h : Heap) (Q : CX × Heap → Prop) : Prop := ∃ n, (callOf P hint orc (fix P hint orc n) f args h).all Q
variable {P hint orc}
theorem Res.all_exists {α : Type} {Q : Nat → α → Prop} (hm : ∀ a n m, n ≤ m → Q n a → Q m a) : ∀ {r : Res α}, r.all (fun a => ∃ n, Q n a) → ∃ n, r.all (Q n)
  | .fail _, h => h.elim
  | .fin _, h => h
  | .ch n k, h => by
    have h1 : ∀ i, i < n → ∃ m, (k i).all (Q m) := fun i hi => Res.all_exists hm (h i hi)
    have h2 : ∀ j, j ≤ n → ∃ m, ∀ i, i < j → (k i).all (Q m) := by
      intro j
      induction j with
      | zero => exact fun _ => ⟨0, fun i hi => absurd hi (Nat.not_lt_zero _)⟩
      | succ j ih =>
        intro hj
        obtain ⟨m1, e1⟩ := ih (by omega)
        obtain ⟨m2, e2⟩ := h1 j hj
        refine ⟨max m1 m2, fun i hi => ?_⟩
        rcases Nat.lt_succ_iff_lt_or_eq.1 hi with h3 | h3
        · exact Res.all_mono (fun a => hm a _ _ (Nat.le_max_left _ _)) (e1 i h3)
        · subst h3; exact Res.all_mono (fun a => hm a _ _ (Nat.le_max_right _ _)) e2
    exact h2 n (Nat.le_refl _)
theorem Runs.up {cx : Cx} {c : Code} {s : St} {Q : AX × St → Prop} {n : Nat} (h : ((fix P hint orc n).run cx c s).all Q) {m : Nat} (hm : n ≤ m) : ((fix P hint orc m).run cx c s).all Q := Res.le_all ((fix_le hm).1 cx c s) h
theorem Runs.mono {cx : Cx} {c : Code} {s : St} {Q Q' : AX × St → Prop} (hq : ∀ a, Q a → Q' a) (h : Runs P hint orc cx c s Q) : Runs P hint orc cx c s Q' := let ⟨n, h⟩ := h; ⟨n, Res.all_mono hq h⟩
def thenQ (P : Program) (hint : FuncId → Nat) (orc : Orc) (cx : Cx) (b : Code) (Q : AX × St → Prop) (r : AX × St) : Prop :=
  match r.1 with
  | .normal => Runs P hint orc cx b r.2 Q
  | _ => Q r
theorem Runs.step {cx : Cx} {c : Code} {s : St} {Q : AX × St → Prop} {n : Nat} (h : (Ev.step c P cx (fix P hint orc n).run (callOf P hint orc (fix P hint orc n)) s).all Q) : Runs P hint orc cx c s Q := ⟨n + 1, h⟩
theorem Runs.then {cx : Cx} {a b : Code} {s : St} {Q : AX × St → Prop} (h : Runs P hint orc cx a s (thenQ P hint orc cx b Q)) : ∃ n, (((fix P hint orc n).run cx a s).bind (seqK b cx (fix P hint orc n).run)).all Q := by
  obtain ⟨n, h⟩ := h
  have h1 : ((fix P hint orc n).run cx a s).all fun r => ∃ m, (seqK b cx (fix P hint orc m).run r).all Q := by
    refine Res.all_mono (fun r hr => ?_) h
    obtain ⟨x, s'⟩ := r
    cases x with
    | normal => exact hr
    | _ => exact ⟨0, hr⟩
  obtain ⟨m, h2⟩ := Res.all_exists (fun r n m hnm hr => Res.le_all (seqK_le (fix_le hnm).1 r) hr) h1
  refine ⟨max n m, ?_⟩
  rw [Res.all_bind]
  refine Res.all_mono (fun r hr => Res.le_all (seqK_le (fix_le (Nat.le_max_right n m)).1 r) hr) ?_
  exact Res.le_all ((fix_le (Nat.le_max_left n m)).1 cx a s) h2
theorem Runs.seq {cx : Cx} {a b : Code} {s : St} {Q : AX × St → Prop} (h : Runs P hint orc cx a s (thenQ P hint orc cx b Q)) : Runs P hint orc cx (.seq a b) s Q := let ⟨_, h⟩ := h.then; Runs.step h
theorem Runs.loop {cx : Cx} {b : Code} {s : St} {Q : AX × St → Prop} (h : Runs P hint orc cx b s (thenQ P hint orc cx (.loop b) Q)) : Runs P hint orc cx (.loop b) s Q := let ⟨_, h⟩ := h.then; Runs.step h
theorem Runs.block {cx : Cx} {b : Code} {id : Nat} {s : St} {Q : AX × St → Prop} (h : Runs P hint orc cx b s fun r => (blockK id r).all Q) : Runs P hint orc cx (.block id b) s Q := by
  obtain ⟨n, h⟩ := h
  exact Runs.step (n := n) ((Res.all_bind Q _ _).2 h)
theorem Runs.cond {cx : Cx} {x : Operand} {a b : Code} {s : St} {Q : AX × St → Prop} {v : AV} {t : Bool} (hv : evO x s.reg s.loc = some v) (ht : Ev.asBool v = some t) (h : Runs P hint orc cx (bcase t a b) s Q) : Runs P hint orc cx (.cond x a b) s Q := by
  obtain ⟨n, h⟩ := h
  refine Runs.step (n := n) ?_
  show (condK (evO x s.reg s.loc) a b cx (fix P hint orc n).run s).all Q
  unfold condK
  rw [hv, ocase_some, ht, ocase_some]
  cases t <;> exact h
theorem Calls.mono {f : FuncId} {args : List AV} {h : Heap} {Q Q' : CX × Heap → Prop} (hq : ∀ a, Q a → Q' a) (hc : Calls P hint orc f args h Q) : Calls P hint orc f args h Q' := let ⟨n, h⟩ := hc; ⟨n, Res.all_mono hq h⟩
end
end Go.Ev

namespace Go.Ev
open Go

def good : Ans → Prop
  | .ok => True
  | .no => False
  | .and a b => good a ∧ good b
theorem good_no {p : Prop} (h : good .no) : p := h.elim
theorem good_oc {α : Type} {o : Option α} {k : α → Ans} (h : good (ocase o .no k)) : ∃ a, o = some a ∧ good (k a) := by
  cases o with
  | none => exact h.elim
  | some a => exact ⟨a, rfl, h⟩
theorem good_bc {b : Bool} {x : Ans} (h : good (bcase b x .no)) : b = true ∧ good x := by
  cases b with
  | false => exact h.elim
  | true => exact ⟨rfl, h⟩
theorem good_bc' {b : Bool} {x : Ans} (h : good (bcase b .no x)) : b = false ∧ good x := by
  cases b with
  | false => exact ⟨rfl, h⟩
  | true => exact h.elim
theorem frc_eq (n : Nat) (k : Nat → Ans) : frc n k = k n := rfl
theorem xf_eq (n : Nat) (k : Nat → Ans) : xf n k = k n := rfl
theorem xb_true {β : Type} (x y : β) : xb true x y = x := rfl
theorem xb_false {β : Type} (x y : β) : xb false x y = y := rfl
theorem xo_none {α β : Type} (n : β) (s : α → β) : xo none n s = n := rfl
theorem xo_some {α β : Type} (a : α) (n : β) (s : α → β) : xo (some a) n s = s a := rfl
theorem JO_eq {β : Type} (f : β) (g : β → Ans) : JO f g = g f := rfl
theorem bb_eq (b : Bool) (k : AV → Ans) : bb b k = k (.bool b) := by cases b <;> rfl
theorem good_allN {f : Nat → Ans} : ∀ {n : Nat}, good (allN n f) → ∀ i, i < n → good (f i)
  | 0, _, i, hi => absurd hi (Nat.not_lt_zero _)
  | n + 1, h, i, hi => by
    have h : good (f n) ∧ good (allN n f) := h
    rcases Nat.lt_succ_iff_lt_or_eq.1 hi with h1 | h1
    · exact good_allN h.2 i h1
    · subst h1; exact h.1

def EvLe (σ : Loc) (ev : Ev) : Prop := ∀ x v, evO x .e σ = some v → ev x = some v
theorem ev_good {σ : Loc} {ev : Ev} (E : EvLe σ ev) {x : Operand} {k : AV → Ans} (h : good (evC σ x k)) : ∃ v, ev x = some v ∧ good (k v) := by
  obtain ⟨v, h1, h2⟩ := good_oc h
  exact ⟨v, E x v h1, h2⟩
theorem evL_good {σ : Loc} {ev : Ev} (E : EvLe σ ev) : ∀ {l : List Operand} {k : List AV → Ans}, good (evLC σ l k) → ∃ r, evs l ev = some r ∧ good (k r)
  | [], k, h => ⟨[], rfl, h⟩
  | x :: l, k, h => by
    have h : good (evC σ x fun v => evLC σ l fun r => k (v :: r)) := h
    obtain ⟨v, h1, h⟩ := ev_good E h
    obtain ⟨r, h2, h⟩ := evL_good E h
    refine ⟨v :: r, ?_, h⟩
    show (ocase (ev x) none fun v => consO v (evs l ev)) = _
    rw [h1, h2]; rfl
theorem evP_good {σ : Loc} {ev : Ev} (E : EvLe σ ev) : ∀ {l : List (Nat × Operand)} {k : List (Nat × AV) → Ans}, good (evPC σ l k) → ∃ r, mapOpt l ev = some r ∧ good (k r)
  | [], k, h => ⟨[], rfl, h⟩
  | x :: l, k, h => by
    have h : good (evC σ x.2 fun v => evPC σ l fun r => k ((x.1, v) :: r)) := h
    obtain ⟨v, h1, h⟩ := ev_good E h
    obtain ⟨r, h2, h⟩ := evP_good E h
    refine ⟨(x.1, v) :: r, ?_, h⟩
    show (ocase (ev x.2) none fun v => consP x.1 v (mapOpt l ev)) = _
    rw [h1, h2]; rfl
theorem evOp_good {σ : Loc} {ev : Ev} (E : EvLe σ ev) {x : Option Operand} {k : Option AV → Ans} (h : good (evOC σ x k)) : ∃ r, optEv ev x = some r ∧ good (k r) := by
  cases x with
  | none => exact ⟨none, rfl, h⟩
  | some x =>
    obtain ⟨v, h1, h⟩ := ev_good E (x := x) (k := fun v => k (some v)) h
    refine ⟨some v, ?_, h⟩
    simp only [optEv, h1]

section
variable {P : Program}
theorem SEL_good {c a b : AV} {k : AV → Ans} (h : good (SEL c a b k)) : ∃ t, asBool c = some t ∧ good (k (bcase t a b)) := by
  cases c with
  | bool t => exact ⟨t, rfl, by cases t <;> exact h⟩
  | _ => exact h.elim
theorem IFB_good {c : AV} {a b : Ans} (h : good (IFB c a b)) : ∃ t, asBool c = some t ∧ good (bcase t a b) := by
  cases c with
  | bool t => exact ⟨t, rfl, h⟩
  | _ => exact h.elim
theorem OVH_good {r : Option (AV × Heap)} {k : AV → Heap → Ans} (h : good (OVH r k)) : ∃ v g, r = some (v, g) ∧ good (k v g) := by
  cases r with
  | none => exact h.elim
  | some r => exact ⟨r.1, r.2, rfl, h⟩
theorem OPVH_good {r : OpR} {k : AV → Heap → Ans} (h : good (OPVH r k)) : ∃ v g, r = .val v g ∧ good (k v g) := by
  cases r with
  | val v g => exact ⟨v, g, rfl, h⟩
  | _ => exact h.elim
theorem OPV_good {r : OpR} {k : AV → Ans} (h : good (OPV r k)) : ∃ v g, r = .val v g ∧ good (k v) := by
  cases r with
  | val v g => exact ⟨v, g, rfl, h⟩
  | _ => exact h.elim
theorem GETP_good {α : Type} {k : α → Ans} : ∀ {p : List Bool} {t : T α}, good (GETP p t k) → ∃ a, T.get p t = some a ∧ good (k a)
  | [], t, g => by
    cases t with
    | e => exact g.elim
    | n v l r =>
      cases v with
      | none => exact g.elim
      | some a => exact ⟨a, rfl, g⟩
  | b :: p, t, g => by
    cases t with
    | e => exact g.elim
    | n v l r =>
      cases b with
      | true => exact GETP_good (p := p) (t := l) g
      | false => exact GETP_good (p := p) (t := r) g
theorem SETP_eq {α : Type} : ∀ (p : List Bool) (t : T α) (x : Option α) (k : T α → Ans), SETP p t x k = k (T.set p t x)
  | [], t, x, k => by cases t <;> rfl
  | b :: p, t, x, k => by
    cases t with
    | e =>
      cases b with
      | true => exact SETP_eq p .e x fun s => k (.n none s .e)
      | false => exact SETP_eq p .e x fun s => k (.n none .e s)
    | n v l r =>
      cases b with
      | true => exact SETP_eq p l x fun s => k (.n v s r)
      | false => exact SETP_eq p r x fun s => k (.n v l s)
theorem HGET_good {h : Heap} {b : Nat} {k : ABlk → Ans} (g : good (HGET h b k)) : ∃ x, h.get b = some x ∧ good (k x) := by
  cases h with
  | mk n bl => exact GETP_good (p := digs b) (t := bl) g
theorem HSET_eq (h : Heap) (b : Nat) (x : ABlk) (k : Heap → Ans) : HSET h b x k = k (h.set b (some x)) := by
  cases h with
  | mk n bl => exact SETP_eq (digs b) bl (some x) fun bl => k ⟨n, bl⟩
theorem HNEW_eq (h : Heap) (x : ABlk) (k : Nat → Heap → Ans) : HNEW h x k = k h.next (h.new x) := by
  cases h with
  | mk n bl => exact SETP_eq (digs n) bl (some x) fun bl => k n ⟨Nat.add n 1, bl⟩
theorem onC_good {x : ABlk} {k : T AV → Nat → TypeId → BK → Ans} (g : good (onC x k)) : ∃ c n t q, x = .cells c n t q ∧ good (k c n t q) := by
  cases x with
  | cells c n t q => exact ⟨c, n, t, q, rfl, g⟩
  | _ => exact g.elim
theorem GETLs_good {c : T AV} : ∀ {n off : Nat} {k : List AV → Ans}, good (GETLs n c off k) → ∃ l, getL c n off = some l ∧ good (k l)
  | 0, off, k, g => ⟨[], rfl, g⟩
  | n + 1, off, k, g => by
    obtain ⟨v, h1, g⟩ := GETP_good (p := digs off) (t := c) (k := fun v => frc (Nat.add off 1) fun o => GETLs n c o fun l => k (v :: l)) g
    rw [frc_eq] at g
    obtain ⟨l, h2, g⟩ := GETLs_good g
    refine ⟨v :: l, ?_, g⟩
    rw [getL_succ, h1, ocase_some, show off + 1 = Nat.add off 1 from rfl, h2]; rfl
theorem SETLs_eq : ∀ (l : List AV) (off : Nat) (c : T AV) (k : T AV → Ans), SETLs l off c k = k (setL l off c)
  | [], off, c, k => rfl
  | v :: l, off, c, k => by
    show SETP (digs off) c (some v) (fun c => frc (Nat.add off 1) fun o => SETLs l o c k) = _
    rw [SETP_eq, frc_eq, SETLs_eq l, setL_cons]
theorem LD_good {t : TypeId} {p : AV} {h : Heap} {k : AV → Ans} (hs : aggSz P t = some none) (g : good (LD p h k)) : ∃ v, loadA P h t p = some v ∧ good (k v) := by
  cases p with
  | ptr b off =>
    obtain ⟨x, h1, g⟩ := HGET_good (k := fun x => onC x fun c _ _ _ => GETP (digs off) c k) g
    obtain ⟨c, n, t', q, rfl, g⟩ := onC_good g
    obtain ⟨v, h3, g⟩ := GETP_good g
    refine ⟨v, ?_, g⟩
    unfold loadA
    show (ocase (h.get b) none fun b => ocase (asCells b) none fun c => ocase (aggSz P t) none fun s => loadC s off c) = _
    rw [h1, ocase_some]
    show (ocase (aggSz P t) none fun s => loadC s off c) = _
    rw [hs, ocase_some]
    exact h3
  | _ => exact g.elim
theorem LDN_good {t : TypeId} {n : Nat} {p : AV} {h : Heap} {k : AV → Ans} (hs : aggSz P t = some (some n)) (g : good (LDN n p h k)) : ∃ v, loadA P h t p = some v ∧ good (k v) := by
  cases p with
  | ptr b off =>
    obtain ⟨x, h1, g⟩ := HGET_good (k := fun x => onC x fun c _ _ _ => GETLs n c off fun l => k (.agg l)) g
    obtain ⟨c, m, t', q, rfl, g⟩ := onC_good g
    obtain ⟨l, h3, g⟩ := GETLs_good (k := fun l => k (.agg l)) g
    refine ⟨.agg l, ?_, g⟩
    unfold loadA
    show (ocase (h.get b) none fun b => ocase (asCells b) none fun c => ocase (aggSz P t) none fun s => loadC s off c) = _
    rw [h1, ocase_some]
    show (ocase (aggSz P t) none fun s => loadC s off c) = _
    rw [hs, ocase_some]
    show (ocase (getL c n off) none fun l => some (AV.agg l)) = _
    rw [h3, ocase_some]
  | _ => exact g.elim
theorem STV_good {s : Nat} {v : AV} {off : Nat} {c : T AV} {k : T AV → Ans} (g : good (STV s v off c k)) : allOne v.cells = true ∧ Nat.beq (lenL v.cells) s = true ∧ good (k (setL v.cells off c)) := by
  have one : ∀ {v : AV}, v.one = true → v.cells = [v] → good (bcase (Nat.beq s 1) (SETP (digs off) c (some v) k) .no) → allOne v.cells = true ∧ Nat.beq (lenL v.cells) s = true ∧ good (k (setL v.cells off c)) := by
    intro v h1 h2 g
    obtain ⟨h3, g⟩ := good_bc g
    rw [SETP_eq] at g
    rw [h2]
    refine ⟨by rw [allOne_cons, h1]; rfl, ?_, g⟩
    rw [Nat.eq_of_beq_eq_true h3]; rfl
  cases v with
  | agg l =>
    obtain ⟨h1, g⟩ := good_bc (b := bcase (Nat.beq (lenL l) s) (allOne l) false) (x := SETLs l off c k) g
    rw [SETLs_eq] at g
    rw [bcase_and] at h1
    obtain ⟨h2, h3⟩ := Bool.and_eq_true_iff.1 h1
    exact ⟨h3, h2, g⟩
  | tuple l => exact g.elim
  | _ => exact one rfl rfl g
theorem ST_good {t : TypeId} {s : Nat} {p v : AV} {h : Heap} {k : Heap → Ans} (hs : sizeA P t = some s) (g : good (ST s p v h k)) : ∃ h', storeA P h t p v = some h' ∧ good (k h') := by
  cases p with
  | ptr b off =>
    obtain ⟨x, h1, g⟩ := HGET_good (k := fun x => onC x fun c n t q => bcase q.ro? .no (bcase (Nat.ble (Nat.add off s) n) (STV s v off c fun c => HSET h b (.cells c n t q) k) .no)) g
    obtain ⟨c, n, t', q, rfl, g⟩ := onC_good g
    obtain ⟨h2, g⟩ := good_bc' g
    obtain ⟨h3, g⟩ := good_bc g
    obtain ⟨h4, h5, g⟩ := STV_good g
    rw [HSET_eq] at g
    refine ⟨_, ?_, g⟩
    show (ocase (sizeA P t) none fun s => bcase (Nat.beq (lenL v.cells) s) (storeL h b off v.cells) none) = _
    rw [hs, ocase_some, h5, bcase_true]
    show ocase (h.get b) none (storeB h b off v.cells) = _
    rw [h1, ocase_some]
    show bcase q.ro? none (bcase (allOne v.cells) (bcase (Nat.ble (Nat.add off (lenL v.cells)) n) (some (h.set b (some (.cells (setL v.cells off c) n t' q)))) none) none) = _
    rw [h2, bcase_false, h4, bcase_true, Nat.eq_of_beq_eq_true h5, h3, bcase_true]
  | _ => exact g.elim
theorem NEWC_eq (c : T AV) (n : Nat) (t : TypeId) (h : Heap) (k : AV → Heap → Ans) : NEWC c n t h k = k (.ptr h.next 0) (h.new (.cells c n t .ex)) := by
  unfold NEWC
  rw [HNEW_eq]
theorem alloc_good {t : TypeId} {h : Heap} {k : AV → Heap → Ans} (g : good (xo (zeroA P t) .no fun z => xb (allOne z.cells) (NEWC (setL z.cells 0 .e) (lenL z.cells) t h k) .no)) : ∃ v h', allocA P h t = some (v, h') ∧ good (k v h') := by
  obtain ⟨z, h1, g⟩ := good_oc g
  obtain ⟨h2, g⟩ := good_bc g
  rw [NEWC_eq] at g
  refine ⟨_, _, ?_, g⟩
  unfold allocA
  rw [h1, ocase_some, h2, bcase_true]; rfl
theorem BOX_good {t : TypeId} {v : AV} {h : Heap} {k : AV → Heap → Ans} (g : good (BOX t v h k)) : ∃ u h', boxA t v h = .val u h' ∧ good (k u h') := by
  obtain ⟨h2, g⟩ := good_bc g
  rw [frc_eq, SETLs_eq, NEWC_eq] at g
  refine ⟨_, _, ?_, g⟩
  unfold boxA
  rw [h2, bcase_true]; rfl
theorem BSL_good {t : TypeId} {len : Nat} {z : TypeId × Nat × List AV} {parts : List (Nat × AV)} {h : Heap} {k : AV → Heap → Ans} (hz : slZero P t len = some z) (g : good (BSL z.1 z.2.1 z.2.2 len parts h k)) : ∃ u h', buildSliceA P h t len parts = some (u, h') ∧ good (k u h') := by
  obtain ⟨l, h1, g⟩ := good_oc g
  obtain ⟨h2, g⟩ := good_bc g
  rw [frc_eq, SETLs_eq, HNEW_eq] at g
  refine ⟨_, _, ?_, g⟩
  unfold buildSliceA
  rw [hz, ocase_some, h1, ocase_some, h2, bcase_true]; rfl
theorem ld_good {t : TypeId} {p : AV} {h : Heap} {k : AV → Ans} (g : good (xo (aggSz P t) .no fun s => xo s (LD p h k) fun n => LDN n p h k)) : ∃ v, loadA P h t p = some v ∧ good (k v) := by
  obtain ⟨s, h1, g⟩ := good_oc g
  cases s with
  | none => exact LD_good h1 g
  | some n => exact LDN_good h1 g
theorem NC_good {v : AV} {k : AV → Ans} (g : good (NC v k)) : nilCheckA v = some v ∧ good (k v) := by
  cases v with
  | func fn a b =>
    obtain ⟨h1, g⟩ := good_bc (b := okFn fn) g
    exact ⟨by show bcase (okFn fn) _ none = _; rw [h1, bcase_true], g⟩
  | nilp => exact g.elim
  | niliface => exact g.elim
  | nilfunc => exact g.elim
  | _ => exact ⟨rfl, g⟩

theorem co_const (c : Bool) : (isConstO (co c) || isConstO (.tmp 0)) = c := by cases c <;> rfl
theorem eqA_co (op : BinOp) (t : TypeId) {xo yo xo' yo' : Operand} (h : (isConstO xo || isConstO yo) = (isConstO xo' || isConstO yo')) (a b : AV) : eqA P op t xo yo a b = eqA P op t xo' yo' a b := by
  unfold eqA
  rw [h]
theorem binOpA_co (op : BinOp) (t : TypeId) (x y : Operand) (a b : AV) : binOpA P op t (co (isC2 x y)) (.tmp 0) a b = binOpA P op t x y a b := by
  have h : (isConstO (co (isC2 x y)) || isConstO (.tmp 0)) = (isConstO x || isConstO y) := co_const _
  have e : ∀ op, eqA P op t (co (isC2 x y)) (.tmp 0) = eqA P op t x y := fun op => by funext a b; exact eqA_co op t h a b
  cases op <;> first | rfl | skip
  · show arith iEql sEql (symOr .eql (eqA P .eql t _ _)) a b = arith iEql sEql (symOr .eql (eqA P .eql t _ _)) a b
    rw [e]
  · show arith iNeq sNeq (symOr .neq (eqA P .neq t _ _)) a b = arith iNeq sNeq (symOr .neq (eqA P .neq t _ _)) a b
    rw [e]
theorem II_good {a b : AV} {e : Ans} {k : IntKind → Nat → Nat → Ans} {p : Prop} (g : good (II a b e k)) (he : good e → p) (hk : ∀ q m n, a = .int q m → ∀ r, b = .int r n → kbeq q r = true → good (k q m n) → p) : p := by
  cases a with
  | int q m =>
    cases b with
    | int r n =>
      obtain ⟨h1, g⟩ := good_bc (b := kbeq q r) g
      exact hk q m n rfl r rfl h1 g
    | _ => exact he g
  | _ => exact he g
theorem arith_int {f : IOp} {s : SOp} {e : AV → AV → Option AV} {q r : IntKind} {m n : Nat} (h : kbeq q r = true) : arith f s e (.int q m) (.int r n) = f q m n := by
  show bcase (kbeq q r) (f q m n) none = _
  rw [h, bcase_true]
theorem bin_good {op : BinOp} {t : TypeId} {x y : Operand} {a b : AV} {k : AV → Ans} (g : good (binC P op t (isC2 x y) a b k)) : ∃ v, binOpA P op t x y a b = some v ∧ good (k v) := by
  have B : good (BOP P op t (isC2 x y) a b k) → ∃ v, binOpA P op t x y a b = some v ∧ good (k v) := fun g => by
    obtain ⟨v, h1, g⟩ := good_oc g
    rw [binOpA_co] at h1
    exact ⟨v, h1, g⟩
  cases op <;> first
    | exact B g
    | (refine II_good g B fun q m n ha r hb hq gg => ?_
       subst ha; subst hb
       first
         | (refine ⟨.int q (nadd q m n), ?_, gg⟩; show arith iAdd sAdd (symE .add) _ _ = _; rw [arith_int hq]; rfl)
         | (refine ⟨.int q (nsub q m n), ?_, gg⟩; show arith (intOp .sub) (strOp .sub) (symE .sub) _ _ = _; rw [arith_int hq]; rfl)
         | (rw [bb_eq] at gg; refine ⟨_, ?_, gg⟩; show arith iEql sEql _ _ _ = _; rw [arith_int hq]; rfl)
         | (rw [bb_eq] at gg; refine ⟨_, ?_, gg⟩; show arith iLss sLss _ _ _ = _; rw [arith_int hq]; rfl)
         | (rw [bb_eq] at gg; refine ⟨_, ?_, gg⟩; show arith iGtr sGtr _ _ _ = _; rw [arith_int hq]; rfl)
         | (rw [bb_eq] at gg; refine ⟨_, ?_, gg⟩; show arith iNeq sNeq _ _ _ = _; rw [arith_int hq]; unfold iNeq; cases Nat.beq m n <;> rfl)
         | (rw [bb_eq] at gg; refine ⟨_, ?_, gg⟩; show arith iLeq sLeq _ _ _ = _; rw [arith_int hq]; unfold iLeq; cases nlt q n m <;> rfl)
         | (rw [bb_eq] at gg; refine ⟨_, ?_, gg⟩; show arith iGeq sGeq _ _ _ = _; rw [arith_int hq]; unfold iGeq; cases nlt q m n <;> rfl))

theorem FA_good {t : TypeId} {f o : Nat} {x : AV} {k : AV → Ans} (ho : fieldOff P t f = some o) (g : good (FA o x k)) : ∃ v, fieldAddrA P t x f = some v ∧ good (k v) := by
  cases x with
  | ptr b off =>
    refine ⟨.ptr b (Nat.add off o), ?_, g⟩
    unfold fieldAddrA
    rw [ho]; rfl
  | _ => exact g.elim
theorem IX_good {i : AV} {k : Nat → Ans} (g : good (IX i k)) : ∃ n, natOf i = some n ∧ good (k n) := by
  cases i with
  | int p m =>
    obtain ⟨h1, g⟩ := good_bc (b := isPos p m) g
    exact ⟨m, by show bcase (isPos p m) _ none = _; rw [h1, bcase_true], g⟩
  | _ => exact g.elim
theorem SA_good {t : TypeId} {s : Nat} {x i : AV} {k : AV → Ans} (hs : slSz P t = some s) (g : good (SA s x i k)) : ∃ v, indexAddrA P t x i = some v ∧ good (k v) := by
  have key : ∀ {b off n i : Nat} {x : AV}, asSl x = some (b, off, n) → good (SA1 s b off n i k) → ∃ v, slAddr s i x = some v ∧ good (k v) := fun {b off n i x} hx g => by
    obtain ⟨h1, g⟩ := good_bc (b := nle1 i n) g
    refine ⟨_, ?_, g⟩
    unfold slAddr
    rw [hx, ocase_some]
    show bcase (nle1 i n) _ none = _
    rw [h1, bcase_true]
  cases x with
  | slice b off n c =>
    obtain ⟨j, h1, g⟩ := IX_good (k := fun i => SA1 s b off n i k) g
    obtain ⟨v, h2, g⟩ := key (x := .slice b off n c) rfl g
    exact ⟨v, by unfold indexAddrA; rw [h1, ocase_some, hs, ocase_some]; exact h2, g⟩
  | gslice b off n c =>
    obtain ⟨j, h1, g⟩ := IX_good (k := fun i => SA1 s b off n i k) g
    obtain ⟨v, h2, g⟩ := key (x := .gslice b off n c) rfl g
    exact ⟨v, by unfold indexAddrA; rw [h1, ocase_some, hs, ocase_some]; exact h2, g⟩
  | _ => exact g.elim
theorem RA_good {t : TypeId} {q : Nat × Nat} {x i : AV} {k : AV → Ans} (hs : slSz P t = none) (hq : arrSz P t = some q) (g : good (RA q.1 q.2 x i k)) : ∃ v, indexAddrA P t x i = some v ∧ good (k v) := by
  cases x with
  | ptr b off =>
    obtain ⟨j, h1, g⟩ := IX_good (k := fun i => SA1 q.2 b off q.1 i k) g
    obtain ⟨h2, g⟩ := good_bc (b := nle1 j q.1) g
    refine ⟨_, ?_, g⟩
    unfold indexAddrA
    rw [h1, ocase_some, hs, ocase_none, hq, ocase_some]
    show bcase (nle1 j q.1) _ none = _
    rw [h2, bcase_true]
  | _ => exact g.elim
theorem NTH_good : ∀ {i : Nat} {l : List AV} {k : AV → Ans}, good (NTH i l k) → ∃ v, nthL i l = some v ∧ good (k v)
  | 0, l, k, g => by
    cases l with
    | nil => exact g.elim
    | cons a l => exact ⟨a, rfl, g⟩
  | i + 1, l, k, g => by
    cases l with
    | nil => exact g.elim
    | cons a l =>
      have g : good (NTH i l k) := g
      exact NTH_good (i := i) (l := l) g
theorem SAT_good {t : TypeId} {x i : AV} {k : AV → Ans} (hs : isStrT P t = true) (g : good (SAT x i k)) : ∃ v, indexA P t x i = some v ∧ good (k v) := by
  cases x with
  | str n b =>
    obtain ⟨j, h1, g⟩ := IX_good (k := fun i => bcase (nle1 i n) (frc (sat b i) fun c => k (.int .u8 c)) .no) g
    obtain ⟨h2, g⟩ := good_bc (b := nle1 j n) g
    refine ⟨_, ?_, g⟩
    unfold indexA
    rw [h1, ocase_some, hs, bcase_true]
    show bcase (nle1 j n) _ none = _
    rw [h2, bcase_true]
  | sstr l =>
    obtain ⟨j, h1, g⟩ := IX_good (k := fun i => NTH i l k) g
    obtain ⟨v, h2, g⟩ := NTH_good g
    refine ⟨v, ?_, g⟩
    unfold indexA
    rw [h1, ocase_some, hs, bcase_true]
    exact h2
  | _ => exact g.elim
theorem EX_good {i : Nat} {v : AV} {k : AV → Ans} (g : good (EX i v k)) : ∃ l u, asTuple v = some l ∧ nthL i l = some u ∧ good (k u) := by
  cases v with
  | tuple l =>
    obtain ⟨u, h1, g⟩ := NTH_good (i := i) g
    exact ⟨l, u, rfl, h1, g⟩
  | _ => exact g.elim
theorem okLen_of {n : Nat} (h : Nat.ble n 9223372036854775807 = true) : okLen (some n) = some (.int .i64 n) := by
  show bcase (Nat.ble n 9223372036854775807) _ none = _
  rw [h, bcase_true]; rfl
theorem LEN_good {t : TypeId} {h : Heap} {x : AV} {k : AV → Ans} (g : good (LENC P t h x k)) : ∃ v, lenA P h t x = some v ∧ good (k v) := by
  unfold LENC at g
  unfold lenA
  cases hs : isSliceT P t with
  | true =>
    rw [hs, xb_true] at g
    rw [bcase_true]
    cases x with
    | slice b o n c =>
      obtain ⟨h1, g⟩ := good_bc (b := Nat.ble n 9223372036854775807) g
      exact ⟨_, okLen_of h1, g⟩
    | gslice b o n c =>
      obtain ⟨h1, g⟩ := good_bc (b := Nat.ble n 9223372036854775807) g
      exact ⟨_, okLen_of h1, g⟩
    | nilslice => exact ⟨_, okLen_of (n := 0) (by decide), g⟩
    | eslice => exact ⟨_, okLen_of (n := 0) (by decide), g⟩
    | _ => exact g.elim
  | false =>
    rw [hs, xb_false] at g
    rw [bcase_false]
    cases ht : isStrT P t with
    | true =>
      rw [ht, xb_true] at g
      rw [bcase_true]
      cases x with
      | str n b =>
        obtain ⟨h1, g⟩ := good_bc (b := Nat.ble n 9223372036854775807) g
        exact ⟨_, okLen_of h1, g⟩
      | sstr l =>
        obtain ⟨h1, g⟩ := good_bc (b := Nat.ble (lenL l) 9223372036854775807) g
        exact ⟨_, okLen_of h1, g⟩
      | _ => exact g.elim
    | false =>
      rw [ht, xb_false] at g
      obtain ⟨v, h1, g⟩ := good_oc g
      refine ⟨v, ?_, g⟩
      unfold lenA at h1
      rw [hs, bcase_false, ht, bcase_false] at h1
      rw [bcase_false]
      exact h1
theorem lenC_good {ts : List TypeId} {args : List AV} {h : Heap} {k : AV → Ans} (g : good (lenC P ts args h k)) : ∃ v, biLen P ts args h = .val v h ∧ good (k v) := by
  unfold lenC at g
  cases ts with
  | nil => exact g.elim
  | cons t ts =>
    cases args with
    | nil => exact g.elim
    | cons x r =>
      cases r with
      | cons _ _ => exact g.elim
      | nil =>
        obtain ⟨v, h1, g⟩ := LEN_good (t := t) (x := x) (h := h) (k := k) g
        refine ⟨v, ?_, g⟩
        show ov h (lenA P h t x) = _
        rw [h1]; rfl
end
end Go.Ev

namespace Go.Ev
open Go
section
variable {P : Program}

theorem o1_eq {x : Operand} {f : AV → Heap → OpR} {ev : Ev} {h : Heap} {v : AV} (e : ev x = some v) : o1 x f ev h = f v h := by unfold o1; rw [e, ocase_some]
theorem o2_eq {x y : Operand} {f : AV → AV → Heap → OpR} {ev : Ev} {h : Heap} {v u : AV} (e : ev x = some v) (e2 : ev y = some u) : o2 x y f ev h = f v u h := by unfold o2; rw [e, ocase_some, e2, ocase_some]
theorem o3_eq {x y z : Operand} {f : AV → AV → AV → Heap → OpR} {ev : Ev} {h : Heap} {v u w : AV} (e : ev x = some v) (e2 : ev y = some u) (e3 : ev z = some w) : o3 x y z f ev h = f v u w h := by unfold o3; rw [e, ocase_some, o2_eq e2 e3]
theorem o1_val' {x : Operand} {f : AV → Heap → OpR} {ev : Ev} {h : Heap} {v : AV} {r : OpR} (e : ev x = some v) (h2 : f v h = r) : o1 x f ev h = r := (o1_eq e).trans h2
theorem o2_val' {x y : Operand} {f : AV → AV → Heap → OpR} {ev : Ev} {h : Heap} {v u : AV} {r : OpR} (e : ev x = some v) (e2 : ev y = some u) (h2 : f v u h = r) : o2 x y f ev h = r := (o2_eq e e2).trans h2
theorem ov_eq {h : Heap} {o : Option AV} {v : AV} (e : o = some v) : ov h o = .val v h := by rw [e]; rfl
theorem ovh_eq {o : Option (AV × Heap)} {v : AV} {g : Heap} (e : o = some (v, g)) : ovh o = .val v g := by rw [e]; rfl

theorem rdCall_good {σ : Loc} {ev : Ev} (E : EvLe σ ev) {c : Callee} {ts : List TypeId} {args : List Operand} {h : Heap} {k : AV → Ans} (g : good (rdCall P c ts args σ h k)) :
    ∃ v h', opCall c args ts P ev h = .val v h' ∧ good (k v) ∧ (isWc c = false → h' = h) := by
  cases c with
  | value f => exact g.elim
  | invoke r n => exact g.elim
  | builtin b =>
    obtain ⟨l, h1, g⟩ := evL_good E (l := args) (k := fun l => biC P b ts l h k) g
    have e : opCall (.builtin b) args ts P ev h = builtinF b P ts l h := by
      show (match evs args ev with | some l => builtinF b P ts l h | none => .bad 42) = _
      rw [h1]
    rw [e]
    have gen : good (OPV (builtinF b P ts l h) k) → ∃ v h', builtinF b P ts l h = .val v h' ∧ good (k v) := OPV_good
    have same : ∀ {v : AV} {h' : Heap}, builtinF b P ts l h = .val v h' → isWb b = false → h' = h := by
      intro v h' e hw
      cases b <;> first | (exact Bool.noConfusion hw) | skip
      · have e : biCap P ts l h = .val v h' := e
        unfold biCap at e
        split at e
        · exact (ov_val e).2
        · cases e
      · have e : biLen P ts l h = .val v h' := e
        unfold biLen at e
        split at e
        · exact (ov_val e).2
        · cases e
      · have e : biMax l h = .val v h' := e
        unfold biMax at e
        exact (ov_val e).2
      · have e : biMin l h = .val v h' := e
        unfold biMin at e
        exact (ov_val e).2
      · have e : biSliceData l h = .val v h' := e
        unfold biSliceData at e
        split at e
        · rename_i b off n c _ _
          cases hk : Nat.ble 1 c with
          | true => rw [hk] at e; cases e; rfl
          | false => rw [hk] at e; cases e
        · rename_i b off n c _ _
          cases hk : Nat.ble 1 n with
          | true => rw [hk] at e; cases e; rfl
          | false => rw [hk] at e; cases e
        · cases e; rfl
        · cases e
    have key : ∃ v h', builtinF b P ts l h = .val v h' ∧ good (k v) := by
      cases b <;> first | exact gen g | skip
      obtain ⟨v, h2, g⟩ := lenC_good g
      exact ⟨v, h, h2, g⟩
    obtain ⟨v, h', e, g⟩ := key
    exact ⟨v, h', e, g, same e⟩

theorem rd_good {σ : Loc} {ev : Ev} (E : EvLe σ ev) {o : Op} {h : Heap} {k : AV → Ans} (g : good (rdC P o σ h k)) :
    ∃ v h', opF o P ev h = .val v h' ∧ good (k v) ∧ (isWop o = false → h' = h) := by
  cases o <;> first | exact g.elim | skip
  case move x =>
    obtain ⟨v, h1, g⟩ := ev_good E g
    exact ⟨v, h, by show opMove x ev h = _; unfold opMove; rw [h1, ocase_some], g, fun _ => rfl⟩
  case assign x =>
    obtain ⟨v, h1, g⟩ := ev_good E g
    exact ⟨v, h, by show opMove x ev h = _; unfold opMove; rw [h1, ocase_some], g, fun _ => rfl⟩
  case pick c a b =>
    obtain ⟨cv, h1, g⟩ := ev_good E (x := c) (k := fun c => evC σ a fun a => evC σ b fun b => SEL c a b k) g
    obtain ⟨av, h2, g⟩ := ev_good E (x := a) (k := fun a => evC σ b fun b => SEL cv a b k) g
    obtain ⟨bv, h3, g⟩ := ev_good E (x := b) (k := fun b => SEL cv av b k) g
    obtain ⟨t, h4, g⟩ := SEL_good g
    refine ⟨_, h, ?_, g, fun _ => rfl⟩
    show opPick c a b ev h = _
    unfold opPick
    rw [h1, ocase_some, h4, ocase_some]
    cases t with
    | true => rw [bcase_true, bcase_true]; unfold opMove; rw [h2, ocase_some]
    | false => rw [bcase_false, bcase_false]; unfold opMove; rw [h3, ocase_some]
  case build t parts =>
    obtain ⟨l, h1, g⟩ := evP_good E (l := parts.toList) (k := fun l => OV (buildA P t l) k) g
    obtain ⟨v, h2, g⟩ := good_oc g
    refine ⟨v, h, ?_, g, fun _ => rfl⟩
    show (ocase (mapOpt parts.toList ev) (.bad 17) fun l => ov h (buildA P t l)) = _
    rw [h1, ocase_some, ov_eq h2]
  case load t a =>
    obtain ⟨p, h1, g⟩ := ev_good E (x := a) (k := fun p => xo (aggSz P t) .no fun s => xo s (LD p h k) fun n => LDN n p h k) g
    obtain ⟨v, h2, g⟩ := ld_good g
    exact ⟨v, h, (show o1 a (fun p h => ov h (loadA P h t p)) ev h = _ from o1_val' h1 (ov_eq h2)), g, fun _ => rfl⟩
  case nilCheck x =>
    obtain ⟨v, h1, g⟩ := ev_good E (x := x) (k := fun v => NC v k) g
    obtain ⟨h2, g⟩ := NC_good g
    exact ⟨v, h, (show o1 x (fun v h => ov h (nilCheckA v)) ev h = _ from o1_val' h1 (ov_eq h2)), g, fun _ => rfl⟩
  case binOp op t x y r =>
    obtain ⟨a, h1, g⟩ := ev_good E (x := x) (k := fun a => evC σ y fun b => binC P op t (isC2 x y) a b k) g
    obtain ⟨b, h2, g⟩ := ev_good E (x := y) (k := fun b => binC P op t (isC2 x y) a b k) g
    obtain ⟨v, h3, g⟩ := bin_good g
    exact ⟨v, h, (show o2 x y (fun a b h => ov h (binOpA P op t x y a b)) ev h = _ from o2_val' h1 h2 (ov_eq h3)), g, fun _ => rfl⟩
  case unOp op t x =>
    obtain ⟨v, h1, g⟩ := ev_good E (x := x) (k := fun v => OV (unOpA op v) k) g
    obtain ⟨u, h2, g⟩ := good_oc g
    exact ⟨u, h, (show o1 x (fun v h => ov h (unOpA op v)) ev h = _ from o1_val' h1 (ov_eq h2)), g, fun _ => rfl⟩
  case convert s d x =>
    obtain ⟨v, h1, g⟩ := ev_good E (x := x) (k := fun v => xb (isConvA P s d) .no (OV (convV P h s d v) k)) g
    obtain ⟨h2, g⟩ := good_bc' g
    obtain ⟨u, h3, g⟩ := good_oc g
    refine ⟨u, h, (show o1 x (fun v h => ovh (convertA P h s d v)) ev h = _ from o1_val' h1 ?_), g, fun _ => rfl⟩
    show ovh (convertA P h s d v) = _
    unfold convertA
    rw [h2, bcase_false, h3, ocase_some]; rfl
  case makeInterface t x =>
    obtain ⟨v, h1, g⟩ := ev_good E (x := x) (k := fun v => xb (isIf P t) (k (.iface t v)) .no) g
    obtain ⟨h2, g⟩ := good_bc g
    refine ⟨_, h, (show o1 x (mkIface P t) ev h = _ from o1_val' h1 ?_), g, fun _ => rfl⟩
    unfold mkIface
    unfold isIf at h2
    split at h2
    · cases h2
    · rename_i u hu he
      rw [he]
      cases u with
      | interface ms => exact absurd rfl (hu ms)
      | _ => rfl
    · cases h2
  case makeFunc fn fs cs =>
    obtain ⟨a, h1, g⟩ := evL_good E (l := fs.toList) (k := fun a => evLC σ cs.toList fun b => k (.func fn a b)) g
    obtain ⟨b, h2, g⟩ := evL_good E (l := cs.toList) (k := fun b => k (.func fn a b)) g
    refine ⟨_, h, ?_, g, fun _ => rfl⟩
    show (match evs fs.toList ev with | some a => (match evs cs.toList ev with | some b => OpR.val (.func fn a b) h | none => .bad 23) | none => .bad 24) = _
    rw [h1, h2]
  case slice t x lo hi mx =>
    obtain ⟨v, h1, g⟩ := ev_good E (x := x) (k := fun v => evOC σ lo fun a => evOC σ hi fun b => evOC σ mx fun c => OV (sliceA P t v a b c) k) g
    obtain ⟨a, h2, g⟩ := evOp_good E g
    obtain ⟨b, h3, g⟩ := evOp_good E g
    obtain ⟨c, h4, g⟩ := evOp_good E g
    obtain ⟨u, h5, g⟩ := good_oc g
    refine ⟨u, h, ?_, g, fun _ => rfl⟩
    show opSlice t x lo hi mx P ev h = _
    unfold opSlice
    rw [h1, h2, h3, h4]
    exact ov_eq h5
  case fieldAddr t x f =>
    obtain ⟨v, h1, g⟩ := ev_good E (x := x) (k := fun v => xo (fieldOff P t f) .no fun o => FA o v k) g
    obtain ⟨o, h2, g⟩ := good_oc g
    obtain ⟨u, h3, g⟩ := FA_good h2 g
    exact ⟨u, h, (show o1 x (fun v h => ov h (fieldAddrA P t v f)) ev h = _ from o1_val' h1 (ov_eq h3)), g, fun _ => rfl⟩
  case field t x f =>
    obtain ⟨v, h1, g⟩ := ev_good E (x := x) (k := fun v => OV (fieldA P t v f) k) g
    obtain ⟨u, h3, g⟩ := good_oc g
    exact ⟨u, h, (show o1 x (fun v h => ov h (fieldA P t v f)) ev h = _ from o1_val' h1 (ov_eq h3)), g, fun _ => rfl⟩
  case indexAddr t x i =>
    obtain ⟨a, h1, g⟩ := ev_good E (x := x) (k := fun a => evC σ i fun b => xo (slSz P t) (xo (arrSz P t) .no fun q => RA q.1 q.2 a b k) fun s => SA s a b k) g
    obtain ⟨b, h2, g⟩ := ev_good E (x := i) (k := fun b => xo (slSz P t) (xo (arrSz P t) .no fun q => RA q.1 q.2 a b k) fun s => SA s a b k) g
    have key : ∃ v, indexAddrA P t a b = some v ∧ good (k v) := by
      cases hs : slSz P t with
      | some s => rw [hs, xo_some] at g; exact SA_good hs g
      | none =>
        rw [hs, xo_none] at g
        obtain ⟨q, hq, g⟩ := good_oc g
        exact RA_good hs hq g
    obtain ⟨u, h3, g⟩ := key
    exact ⟨u, h, (show o2 x i (fun a b h => ov h (indexAddrA P t a b)) ev h = _ from o2_val' h1 h2 (ov_eq h3)), g, fun _ => rfl⟩
  case index t x i =>
    obtain ⟨a, h1, g⟩ := ev_good E (x := x) (k := fun a => evC σ i fun b => xb (isStrT P t) (SAT a b k) (OV (indexA P t a b) k)) g
    obtain ⟨b, h2, g⟩ := ev_good E (x := i) (k := fun b => xb (isStrT P t) (SAT a b k) (OV (indexA P t a b) k)) g
    have key : ∃ v, indexA P t a b = some v ∧ good (k v) := by
      cases hs : isStrT P t with
      | true => rw [hs, xb_true] at g; exact SAT_good hs g
      | false => rw [hs, xb_false] at g; exact good_oc g
    obtain ⟨u, h3, g⟩ := key
    exact ⟨u, h, (show o2 x i (fun a b h => ov h (indexA P t a b)) ev h = _ from o2_val' h1 h2 (ov_eq h3)), g, fun _ => rfl⟩
  case lookup t x i ok =>
    obtain ⟨a, h1, g⟩ := ev_good E (x := x) (k := fun a => evC σ i fun b => OV (lookupA P h t a b ok) k) g
    obtain ⟨b, h2, g⟩ := ev_good E (x := i) (k := fun b => OV (lookupA P h t a b ok) k) g
    obtain ⟨u, h3, g⟩ := good_oc g
    exact ⟨u, h, (show o2 x i (fun a b h => ov h (lookupA P h t a b ok)) ev h = _ from o2_val' h1 h2 (ov_eq h3)), g, fun _ => rfl⟩
  case entry it =>
    obtain ⟨a, h1, g⟩ := ev_good E (x := it) (k := fun v => OV (entryA h v) k) g
    obtain ⟨u, h3, g⟩ := good_oc g
    exact ⟨u, h, (show o1 it (fun v h => ov h (entryA h v)) ev h = _ from o1_val' h1 (ov_eq h3)), g, fun _ => rfl⟩
  case typeAssert x f t ok =>
    obtain ⟨a, h1, g⟩ := ev_good E (x := x) (k := fun v => OV (typeAssertA P v t ok) k) g
    obtain ⟨u, h3, g⟩ := good_oc g
    exact ⟨u, h, (show o1 x (fun v h => ov h (typeAssertA P v t ok)) ev h = _ from o1_val' h1 (ov_eq h3)), g, fun _ => rfl⟩
  case extract t i =>
    obtain ⟨a, h1, g⟩ := ev_good E (x := t) (k := fun v => EX i v k) g
    obtain ⟨l, u, h2, h3, g⟩ := EX_good g
    refine ⟨u, h, (show o1 t (opExtract i) ev h = _ from o1_val' h1 ?_), g, fun _ => rfl⟩
    unfold opExtract
    rw [h2, ocase_some, ov_eq h3]
  case call c => exact rdCall_good E g

theorem al_good {σ : Loc} {ev : Ev} (E : EvLe σ ev) {o : Op} {h : Heap} {k : AV → Heap → Ans} (g : good (alC P o σ h k)) :
    ∃ v h', opF o P ev h = .val v h' ∧ good (k v h') := by
  cases o <;> first | exact g.elim | skip
  case alloc t =>
    obtain ⟨v, h', h1, g⟩ := alloc_good g
    exact ⟨v, h', ovh_eq h1, g⟩
  case box t x =>
    obtain ⟨a, h1, g⟩ := ev_good E (x := x) (k := fun v => BOX t v h k) g
    obtain ⟨v, h', h2, g⟩ := BOX_good g
    exact ⟨v, h', (show o1 x (boxA t) ev h = _ from o1_val' h1 h2), g⟩
  case buildSlice t len parts =>
    obtain ⟨l, h1, g⟩ := evP_good E (l := parts.toList) (k := fun l => xo (slZero P t len) .no fun z => BSL z.1 z.2.1 z.2.2 len l h k) g
    obtain ⟨z, h3, g⟩ := good_oc g
    obtain ⟨v, h', h2, g⟩ := BSL_good h3 g
    refine ⟨v, h', ?_, g⟩
    show (ocase (mapOpt parts.toList ev) (.bad 18) fun l => ovh (buildSliceA P h t len l)) = _
    rw [h1, ocase_some, ovh_eq h2]
  case makeMap t r =>
    obtain ⟨v, h', h2, g⟩ := OPVH_good g
    refine ⟨v, h', ?_, g⟩
    show opMakeMap t r P ev h = _
    cases r with
    | none => exact h2
    | some x =>
      unfold opMakeMap at h2 ⊢
      simp only at h2 ⊢
      cases hx : evO x .e σ with
      | none => rw [hx] at h2; cases h2
      | some u => rw [hx] at h2; rw [E x u hx]; exact h2
  case makeSlice t l c =>
    obtain ⟨a, h1, g⟩ := ev_good E (x := l) (k := fun a => evC σ c fun b => OVH (makeSliceA P h t a b) k) g
    obtain ⟨b, h2, g⟩ := ev_good E (x := c) (k := fun b => OVH (makeSliceA P h t a b) k) g
    obtain ⟨v, h', h3, g⟩ := OVH_good g
    exact ⟨v, h', (show o2 l c (fun a b h => ovh (makeSliceA P h t a b)) ev h = _ from o2_val' h1 h2 (ovh_eq h3)), g⟩
  case convert s d x =>
    obtain ⟨a, h1, g⟩ := ev_good E (x := x) (k := fun v => xb (isConvA P s d) (OVH (convB P h d v) k) .no) g
    obtain ⟨h2, g⟩ := good_bc g
    obtain ⟨v, h', h3, g⟩ := OVH_good g
    refine ⟨v, h', (show o1 x (fun v h => ovh (convertA P h s d v)) ev h = _ from o1_val' h1 ?_), g⟩
    show ovh (convertA P h s d a) = _
    unfold convertA
    rw [h2, bcase_true, ovh_eq h3]

variable {hint : FuncId → Nat} {orc : Orc}
def CQ (k : KVH) (kp : KP) (r : CX × Heap) : Prop :=
  match r.1 with
  | .ret v => good (k v r.2)
  | .pan c => good (kp c r.2)
def ClOk (P : Program) (hint : FuncId → Nat) (orc : Orc) (cl : CL) : Prop := ∀ f args h k kp, good (cl f args h k kp) → Calls P hint orc f args h (CQ k kp)
def OpRes (P : Program) (hint : FuncId → Nat) (orc : Orc) (r : OpR) (k : KVH) (kp : KP) : Prop :=
  match r with
  | .bad _ => False
  | .val v h => good (k v h)
  | .skip h => good (k undefA h)
  | .enter f args h => Calls P hint orc f args h (CQ k kp)
  | .pan v h => good (kp [(v, false)] h)
  | .dfr _ _ _ => False
  | .ch n c => ∀ i, i < n → ∃ v h, c i = some (v, h) ∧ good (k v h)
  | .rcv => False
theorem GEN_good {cl : CL} (C : ClOk P hint orc cl) {r : OpR} {k : KVH} {kp : KP} (g : good (GEN r cl k kp)) : OpRes P hint orc r k kp := by
  cases r with
  | bad w => exact g.elim
  | val v h => exact g
  | skip h => exact g
  | enter f args h => exact C f args h k kp g
  | pan v h => exact g
  | dfr f args h => exact g.elim
  | ch n c => exact fun i hi => OVH_good (good_allN g i hi)
  | rcv => exact g.elim
theorem osk_good {o : Option Heap} {k : KVH} {kp : KP} (g : good (OSK o fun h => k undefA h)) : OpRes P hint orc (osk o) k kp := by
  cases o with
  | none => exact g.elim
  | some h => exact g
theorem ovh_good {o : Option (AV × Heap)} {k : KVH} {kp : KP} (g : good (OVH o k)) : OpRes P hint orc (ovh o) k kp := by
  cases o with
  | none => exact g.elim
  | some h => exact g
theorem callV_eq (g : FuncId) (args : List AV) (h : Heap) : callV P (some (.func (.func g) [] [])) args h = callF P h g args := by
  unfold callV
  simp only [List.append_nil, List.nil_append]
theorem acCall_good {cl : CL} (C : ClOk P hint orc cl) {σ : Loc} {ev : Ev} (E : EvLe σ ev) {c : Callee} {ts : List TypeId} {args : List Operand} {h : Heap} {k : KVH} {kp : KP} (g : good (acCall P c ts args σ cl h k kp)) : OpRes P hint orc (opCall c args ts P ev h) k kp := by
  cases c with
  | invoke r n => exact g.elim
  | builtin b =>
    obtain ⟨l, h1, g⟩ := evL_good E (l := args) (k := fun l => GEN (builtinF b P ts l h) cl k kp) g
    show OpRes P hint orc (match evs args ev with | some l => builtinF b P ts l h | none => .bad 42) k kp
    rw [h1]
    exact GEN_good C g
  | value f =>
    obtain ⟨l, h1, g⟩ := evL_good E (l := args) (k := fun l => callO P f l σ cl h k kp) g
    show OpRes P hint orc (match evs args ev with | some l => callV P (ev f) l h | none => .bad 42) k kp
    rw [h1]
    show OpRes P hint orc (callV P (ev f) l h) k kp
    have gen : good (evC σ f fun v => GEN (callV P (some v) l h) cl k kp) → OpRes P hint orc (callV P (ev f) l h) k kp := fun g => by
      obtain ⟨v, h2, g⟩ := ev_good E g
      rw [h2]
      exact GEN_good C g
    cases f with
    | func q =>
      have e : ev (.func q) = some (.func (.func q) [] []) := E _ _ rfl
      rw [e, callV_eq]
      obtain ⟨fn, h2, g⟩ := good_oc (o := P.funcs[q]?) (k := fun fn => xo fn.body (GEN (callF P h q l) cl k kp) fun _ => cl q l h k kp) g
      cases hb : fn.body with
      | none => rw [hb, xo_none] at g; exact GEN_good C g
      | some c =>
        rw [hb, xo_some] at g
        unfold callF callB
        rw [h2, ocase_some, hb, ocase_some]
        exact C q l h k kp g
    | _ => exact gen g
theorem ac_good {cl : CL} (C : ClOk P hint orc cl) {σ : Loc} {ev : Ev} (E : EvLe σ ev) {o : Op} {h : Heap} {k : KVH} {kp : KP} (g : good (acC P o σ cl h k kp)) : OpRes P hint orc (opF o P ev h) k kp := by
  cases o <;> first | exact g.elim | skip
  case store t a x =>
    obtain ⟨p, h1, g⟩ := ev_good E (x := a) (k := fun p => evC σ x fun v => xo (sizeA P t) .no fun s => ST s p v h fun h => k undefA h) g
    obtain ⟨v, h2, g⟩ := ev_good E (x := x) (k := fun v => xo (sizeA P t) .no fun s => ST s p v h fun h => k undefA h) g
    obtain ⟨s, h3, g⟩ := good_oc g
    obtain ⟨h', h4, g⟩ := ST_good h3 g
    show OpRes P hint orc (o2 a x (fun p v h => osk (storeA P h t p v)) ev h) k kp
    rw [o2_eq h1 h2, h4]
    exact g
  case insert t m x v =>
    obtain ⟨a, h1, g⟩ := ev_good E (x := m) (k := fun a => evC σ x fun b => evC σ v fun c => OSK (mapUpdateA P h t a b c) fun h => k undefA h) g
    obtain ⟨b, h2, g⟩ := ev_good E (x := x) (k := fun b => evC σ v fun c => OSK (mapUpdateA P h t a b c) fun h => k undefA h) g
    obtain ⟨c, h3, g⟩ := ev_good E (x := v) (k := fun c => OSK (mapUpdateA P h t a b c) fun h => k undefA h) g
    show OpRes P hint orc (o3 m x v (fun a b c h => osk (mapUpdateA P h t a b c)) ev h) k kp
    rw [o3_eq h1 h2 h3]
    exact osk_good g
  case mapUpdate t m x v =>
    obtain ⟨a, h1, g⟩ := ev_good E (x := m) (k := fun a => evC σ x fun b => evC σ v fun c => OSK (mapUpdateA P h t a b c) fun h => k undefA h) g
    obtain ⟨b, h2, g⟩ := ev_good E (x := x) (k := fun b => evC σ v fun c => OSK (mapUpdateA P h t a b c) fun h => k undefA h) g
    obtain ⟨c, h3, g⟩ := ev_good E (x := v) (k := fun c => OSK (mapUpdateA P h t a b c) fun h => k undefA h) g
    show OpRes P hint orc (o3 m x v (fun a b c h => osk (mapUpdateA P h t a b c)) ev h) k kp
    rw [o3_eq h1 h2 h3]
    exact osk_good g
  case mapEntry t m x =>
    obtain ⟨a, h1, g⟩ := ev_good E (x := m) (k := fun a => evC σ x fun b => OVH (mapEntryA P h t a b) k) g
    obtain ⟨b, h2, g⟩ := ev_good E (x := x) (k := fun b => OVH (mapEntryA P h t a b) k) g
    show OpRes P hint orc (o2 m x (fun a b h => ovh (mapEntryA P h t a b)) ev h) k kp
    rw [o2_eq h1 h2]
    exact ovh_good g
  case entryStore t m s x =>
    obtain ⟨a, h1, g⟩ := ev_good E (x := m) (k := fun a => evC σ s fun b => evC σ x fun c => OSK (entryStoreA h a b c) fun h => k undefA h) g
    obtain ⟨b, h2, g⟩ := ev_good E (x := s) (k := fun b => evC σ x fun c => OSK (entryStoreA h a b c) fun h => k undefA h) g
    obtain ⟨c, h3, g⟩ := ev_good E (x := x) (k := fun c => OSK (entryStoreA h a b c) fun h => k undefA h) g
    show OpRes P hint orc (o3 m s x (fun a b c h => osk (entryStoreA h a b c)) ev h) k kp
    rw [o3_eq h1 h2 h3]
    exact osk_good g
  case range t x =>
    obtain ⟨a, h1, g⟩ := ev_good E (x := x) (k := fun v => OVH (rangeA P h t v) k) g
    show OpRes P hint orc (o1 x (fun v h => ovh (rangeA P h t v)) ev h) k kp
    rw [o1_eq h1]
    exact ovh_good g
  case next it s =>
    obtain ⟨a, h1, g⟩ := ev_good E (x := it) (k := fun v => GEN (nextA h v s) cl k kp) g
    show OpRes P hint orc (o1 it (fun v h => nextA h v s) ev h) k kp
    rw [o1_eq h1]
    exact GEN_good C g
  case panic x =>
    obtain ⟨a, h1, g⟩ := ev_good E (x := x) (k := fun v => GEN (panA v h) cl k kp) g
    show OpRes P hint orc (o1 x panA ev h) k kp
    rw [o1_eq h1]
    exact GEN_good C g
  case call c => exact acCall_good C E g
theorem op_good {cl : CL} (C : ClOk P hint orc cl) {σ : Loc} {ev : Ev} (E : EvLe σ ev) {o : Op} {h : Heap} {k : KVH} {kp : KP} (g : good (opC P o σ cl h k kp)) : OpRes P hint orc (opF o P ev h) k kp := by
  unfold opC at g
  cases hw : isWop o with
  | true => rw [hw, xb_true] at g; exact ac_good C E g
  | false =>
    rw [hw, xb_false] at g
    cases ha : isAop P o with
    | true =>
      rw [ha, xb_true] at g
      obtain ⟨v, h', e, g⟩ := al_good E g
      rw [e]; exact g
    | false =>
      rw [ha, xb_false] at g
      obtain ⟨v, h', e, g, h1⟩ := rd_good E g
      rw [e, h1 hw]; exact g
theorem df_good {σ : Loc} {ev : Ev} (E : EvLe σ ev) {o : Op} {h : Heap} {k : FuncId → List AV → Heap → Ans} (g : good (dfC o σ h k)) : ∃ f args h', opF o P ev h = .dfr f args h' ∧ good (k f args h') := by
  cases o <;> first | exact g.elim | skip
  case defer c =>
    have g : good (dfCal c.callee c.args.toList σ h k) := g
    show ∃ f args h', opDefer c.callee c.args.toList P ev h = .dfr f args h' ∧ good (k f args h')
    generalize c.callee = cal at g ⊢
    cases cal with
    | invoke r n => exact g.elim
    | builtin b => exact g.elim
    | value f =>
      obtain ⟨l, h1, g⟩ := evL_good E (l := c.args.toList) (k := fun l => evC σ f fun v => GDF (dfrV (some v) l h) k) g
      obtain ⟨v, h2, g⟩ := ev_good E (x := f) (k := fun v => GDF (dfrV (some v) l h) k) g
      show ∃ q args h', (match evs c.args.toList ev with | some l => dfrV (ev f) l h | none => .bad 46) = OpR.dfr q args h' ∧ good (k q args h')
      rw [h1, h2]
      show ∃ q args h', dfrV (some v) l h = OpR.dfr q args h' ∧ good (k q args h')
      cases he : dfrV (some v) l h with
      | dfr q a h' => rw [he] at g; exact ⟨q, a, h', rfl, g⟩
      | _ => rw [he] at g; exact g.elim
end
end Go.Ev

namespace Go.Ev
open Go
section
variable {P : Program} {hint : FuncId → Nat} {orc : Orc}

def Full (cx : Cx) : Prop := ∀ t, t < cx.nt → bit t cx.keep = true
def RR (σ : Loc) (reg : T AV) : Prop := ∀ t v, lget t σ = some v → T.get (digs t) reg = some v
def Keep (m : Nat) (reg reg' : T AV) : Prop := ∀ t, bit t m = false → T.get (digs t) reg' = T.get (digs t) reg
theorem RR.nil (reg : T AV) : RR [] reg := fun t v h => by cases h
theorem RR.ev {σ : Loc} {reg : T AV} (R : RR σ reg) : EvLe σ (ev reg []) := by
  intro x v h
  cases x with
  | tmp t =>
    have h : look t .e σ = some v := h
    show look t reg [] = some v
    rw [look_def] at h ⊢
    rw [lget_nil, ocase_none]
    cases hl : lget t σ with
    | none => rw [hl, ocase_none, T.get_e] at h; cases h
    | some u => rw [hl, ocase_some] at h; cases h; exact R t _ hl
  | _ => exact h
theorem Keep.refl (m : Nat) (reg : T AV) : Keep m reg reg := fun _ _ => rfl
theorem Keep.trans {m1 m2 : Nat} {a b c : T AV} (h1 : Keep m1 a b) (h2 : Keep m2 b c) : Keep (Nat.lor m1 m2) a c := fun t h => by
  rw [bit_or] at h
  obtain ⟨x, y⟩ := Bool.or_eq_false_iff.1 h
  exact (h2 t y).trans (h1 t x)
theorem Keep.weak {m m' : Nat} (h : ∀ t, bit t m' = false → bit t m = false) {a b : T AV} (k : Keep m a b) : Keep m' a b := fun t ht => k t (h t ht)

theorem putC_good {dst : Option Tmp} {cx : Cx} {v : AV} {σ : Loc} {reg : T AV} {k : Loc → Ans} (F : Full cx) (R : RR σ reg) (g : good (putC dst cx.nt v σ k)) :
    ∃ σ' reg', (∀ (κ : K) h d, putK dst cx v κ reg [] h d = κ reg' [] h d) ∧ RR σ' reg' ∧ Keep (dstM dst) reg reg' ∧ good (k σ') := by
  cases dst with
  | none => exact ⟨σ, reg, fun _ _ _ => rfl, R, Keep.refl _ _, g⟩
  | some t =>
    obtain ⟨h1, g⟩ := good_bc (b := Nat.ble (Nat.add t 1) cx.nt) g
    have hlt : t < cx.nt := Nat.le_of_ble_eq_true h1
    refine ⟨(t, v) :: σ, T.set (digs t) reg (some v), fun κ h d => ?_, fun u w hw => ?_, fun u hu => ?_, g⟩
    · show putD t cx v κ reg [] h d = _
      unfold putD
      rw [canPut_iff.2 hlt, bcase_true, F t hlt, bcase_true]
    · rw [T.get_setn]
      rw [lget_cons] at hw
      cases hb : Nat.beq t u with
      | true =>
        have e : t = u := Nat.eq_of_beq_eq_true hb
        subst e
        rw [show Nat.beq (t, v).1 t = true from hb, bcase_true] at hw
        rw [if_pos rfl]; exact hw
      | false =>
        rw [show Nat.beq (t, v).1 u = false from hb, bcase_false] at hw
        rw [if_neg (fun e => by subst e; rw [Nat.beq_refl] at hb; cases hb)]
        exact R u w hw
    · rw [T.get_setn]
      have hu : bit u (Nat.shiftLeft 1 t) = false := hu
      rw [bit_one] at hu
      rw [if_neg]
      intro e
      subst e
      simp at hu

def RP (k : KO) (kp : KPX) (m : Nat) (reg : T AV) (r : AX × St) : Prop :=
  match r.1 with
  | .normal => ∃ σ', RR σ' r.2.reg ∧ r.2.loc = [] ∧ Keep m reg r.2.reg ∧ good (k σ' r.2.hp r.2.dfr)
  | .panic c => ∃ σ', RR σ' r.2.reg ∧ r.2.loc = [] ∧ good (kp σ' r.2.dfr c r.2.hp)
  | _ => False
theorem RP.trans {k : KO} {kp : KPX} {m1 m2 : Nat} {reg reg' : T AV} (K : Keep m1 reg reg') {r : AX × St} (h : RP k kp m2 reg' r) : RP k kp (Nat.lor m1 m2) reg r := by
  obtain ⟨x, s⟩ := r
  cases x with
  | normal =>
    obtain ⟨σ', h1, h2, h3, h4⟩ := h
    exact ⟨σ', h1, h2, K.trans h3, h4⟩
  | panic c => exact h
  | _ => exact h
theorem RP.weak {k : KO} {kp : KPX} {m m' : Nat} (hm : ∀ t, bit t m' = false → bit t m = false) {reg : T AV} {r : AX × St} (h : RP k kp m reg r) : RP k kp m' reg r := by
  obtain ⟨x, s⟩ := r
  cases x with
  | normal =>
    obtain ⟨σ', h1, h2, h3, h4⟩ := h
    exact ⟨σ', h1, h2, h3.weak hm, h4⟩
  | panic c => exact h
  | _ => exact h

noncomputable abbrev cf (P : Program) (hint : FuncId → Nat) (orc : Orc) (n : Nat) : CallF := callOf P hint orc (fix P hint orc n)
theorem contR_run {r : OpR} {k : KVH} {kp : KP} (o : OpRes P hint orc r k kp) {dst : Option Tmp} {cx : Cx} {reg : T AV} {d : Dfr} {κ : Nat → K} (hm : ∀ n m, n ≤ m → KLe (κ n) (κ m)) {Q : AX × St → Prop}
    (hk : ∀ v h, good (k v h) → ∃ n, (putK dst cx v (κ n) reg [] h d).all Q) (hp : ∀ c h, good (kp c h) → Q (.panic c, ⟨reg, [], h, d⟩)) :
    ∃ n, (contR r dst cx (cf P hint orc n) reg [] d (κ n)).all Q := by
  cases r with
  | bad w => exact o.elim
  | val v h => exact hk v h o
  | skip h => exact hk _ h o
  | pan v h => exact ⟨0, hp _ h o⟩
  | dfr f a h => exact o.elim
  | rcv => exact o.elim
  | enter f args h =>
    obtain ⟨n0, h0⟩ := o
    have h1 : (cf P hint orc n0 f args h).all fun r => ∃ n, (contC dst cx reg [] d (κ n) r).all Q := by
      refine Res.all_mono (fun r hr => ?_) h0
      obtain ⟨x, h'⟩ := r
      cases x with
      | ret v => exact hk v h' hr
      | pan c => exact ⟨0, hp c h' hr⟩
    obtain ⟨m, h2⟩ := Res.all_exists (fun r n m hnm hr => Res.le_all (contC_le (hm n m hnm) r) hr) h1
    refine ⟨max n0 m, ?_⟩
    show ((cf P hint orc (max n0 m) f args h).bind (contC dst cx reg [] d (κ (max n0 m)))).all Q
    rw [Res.all_bind]
    refine Res.all_mono (fun r hr => Res.le_all (contC_le (hm _ _ (Nat.le_max_right n0 m)) r) hr) ?_
    exact Res.le_all (callOf_fix_le (Nat.le_max_left n0 m) _ _ _) h2
  | ch n c =>
    have h1 : (Res.ch n fun i => Res.fin (c i)).all fun r => ∃ m, (contN dst cx reg [] d (κ m) r).all Q := by
      intro i hi
      obtain ⟨v, h, e, g⟩ := o i hi
      show ∃ m, (contN dst cx reg [] d (κ m) (c i)).all Q
      rw [e]
      exact hk v h g
    obtain ⟨m, h2⟩ := Res.all_exists (fun r n m hnm hr => Res.le_all (by
      unfold contN
      cases r with
      | none => exact trivial
      | some r => exact putK_le (hm n m hnm) _ _ _ _) hr) h1
    exact ⟨m, h2⟩
theorem actR_run {r : OpR} {k : KVH} {kp : KP} (o : OpRes P hint orc r k kp) {dst : Option Tmp} {m : Nat} {cx : Cx} {pend : Pend} {reads : List Rd} {reg : T AV} {d : Dfr} {κ : Nat → DK} (hm : ∀ n m, n ≤ m → DKLe (κ n) (κ m)) {Q : AX × St → Prop}
    (hk : ∀ v h, good (k v h) → ∃ n, (actV P dst v m cx pend reads (κ n) reg [] h d).all Q) (hp : ∀ c h, good (kp c h) → (actP c h d).all Q) :
    ∃ n, (actR r P dst m cx (cf P hint orc n) pend reads (κ n) reg [] d).all Q := by
  cases r with
  | bad w => exact o.elim
  | val v h => exact hk v h o
  | skip h => exact hk _ h o
  | pan v h => exact ⟨0, hp _ h o⟩
  | dfr f a h => exact o.elim
  | rcv => exact o.elim
  | enter f args h =>
    obtain ⟨n0, h0⟩ := o
    have mono : ∀ (r : CX × Heap) n n', n ≤ n' → (actC P dst m cx pend reads (κ n) reg [] d r).le (actC P dst m cx pend reads (κ n') reg [] d r) := by
      intro r n n' hn
      obtain ⟨x, h'⟩ := r
      cases x with
      | ret v => exact actV_le (hm n n' hn) _ _ _ _
      | pan c => exact Res.le_refl _
    have h1 : (cf P hint orc n0 f args h).all fun r => ∃ n, (actC P dst m cx pend reads (κ n) reg [] d r).all Q := by
      refine Res.all_mono (fun r hr => ?_) h0
      obtain ⟨x, h'⟩ := r
      cases x with
      | ret v => exact hk v h' hr
      | pan c => exact ⟨0, hp c h' hr⟩
    obtain ⟨j, h2⟩ := Res.all_exists (fun r n m hnm hr => Res.le_all (mono r n m hnm) hr) h1
    refine ⟨max n0 j, ?_⟩
    show ((cf P hint orc (max n0 j) f args h).bind (actC P dst m cx pend reads (κ (max n0 j)) reg [] d)).all Q
    rw [Res.all_bind]
    refine Res.all_mono (fun r hr => Res.le_all (mono r _ _ (Nat.le_max_right n0 j)) hr) ?_
    exact Res.le_all (callOf_fix_le (Nat.le_max_left n0 j) _ _ _) h2
  | ch n c =>
    have h1 : (Res.ch n fun i => Res.fin (c i)).all fun r => ∃ j, (actN P dst m cx pend reads (κ j) reg [] d r).all Q := by
      intro i hi
      obtain ⟨v, h, e, g⟩ := o i hi
      show ∃ j, (actN P dst m cx pend reads (κ j) reg [] d (c i)).all Q
      rw [e]
      exact hk v h g
    obtain ⟨j, h2⟩ := Res.all_exists (fun r n m' hnm hr => Res.le_all (by
      unfold actN
      cases r with
      | none => exact trivial
      | some r => exact actV_le (hm n m' hnm) _ _ _ _) hr) h1
    exact ⟨j, h2⟩

theorem GW_eq (w : Bool) (v : AV) (a b : Ans) : GW w v a b = bcase (boolW w v) a b := by
  cases v with
  | bool t => cases w <;> cases t <;> rfl
  | _ => rfl
theorem guC_good {g : Nat × Bool} {ops : List Oper} {σ : Loc} {reg : T AV} (R : RR σ reg) {a b : Ans} (h : good (guC g ops σ a b)) : ∃ t, wantG g ops reg [] = some t ∧ good (bcase t a b) := by
  unfold guC at h
  unfold wantG
  cases ho : ops[g.1]? with
  | none => rw [ho, xo_none] at h; exact ⟨false, rfl, h⟩
  | some o =>
    rw [ho, xo_some] at h
    rw [ocase_some]
    cases hd : o.dst with
    | none => rw [hd, xo_none] at h; exact ⟨false, rfl, h⟩
    | some t =>
      rw [hd, xo_some] at h
      rw [ocase_some]
      obtain ⟨v, h1, h⟩ := good_oc h
      have e : look t reg [] = some v := by rw [look_def, lget_nil, ocase_none]; exact R t v h1
      rw [e, ocase_some]
      rw [GW_eq] at h
      exact ⟨_, rfl, h⟩

theorem asgL_cons (o : Oper) (l : List Oper) : asgL (o :: l) = Nat.lor (dstM o.dst) (asgL l) := rfl
theorem opsC_cons (ops : List Oper) (o : Oper) (l : List Oper) (nt : Nat) (cl : CL) (σ : Loc) (h : Heap) (d : Dfr) (k : KO) (kp : KPX) :
    opsC P ops (o :: l) nt cl σ h d k kp = operC P o ops nt cl σ h d (fun σ h d => opsC P ops l nt cl σ h d k kp) kp := rfl
theorem ops_good {cl : CL} (C : ClOk P hint orc cl) {cx : Cx} (F : Full cx) (ops : List Oper) {k : KO} {kp : KPX} : ∀ {l : List Oper} {σ : Loc} {reg : T AV} {h : Heap} {d : Dfr}, RR σ reg → good (opsC P ops l cx.nt cl σ h d k kp) →
    ∃ n, (opsA P ops l cx (cf P hint orc n) reg [] h d).all (RP k kp (asgL l) reg)
  | [], σ, reg, h, d, R, g => ⟨0, σ, R, rfl, Keep.refl _ _, g⟩
  | o :: l, σ, reg, h, d, R, g => by
    rw [opsC_cons] at g
    have lay : ∀ {v : AV} {h : Heap} {d : Dfr}, good (putC o.dst cx.nt v σ fun σ => opsC P ops l cx.nt cl σ h d k kp) → ∃ n, (putK o.dst cx v (opsA P ops l cx (cf P hint orc n)) reg [] h d).all (RP k kp (asgL (o :: l)) reg) := by
      intro v h d g
      obtain ⟨σ', reg', h1, R', K, g⟩ := putC_good F R g
      obtain ⟨n, h2⟩ := ops_good C F ops R' g
      refine ⟨n, ?_⟩
      rw [h1, asgL_cons]
      exact Res.all_mono (fun r hr => RP.trans K hr) h2
    have mono : ∀ n m, n ≤ m → KLe (opsA P ops l cx (cf P hint orc n)) (opsA P ops l cx (cf P hint orc m)) := fun n m hnm => opsA_le ops (callOf_fix_le hnm) l
    have oper : good (opC P o.op σ cl h (fun v h => putC o.dst cx.nt v σ fun σ => opsC P ops l cx.nt cl σ h d k kp) (kp σ d)) →
        ∃ n, (contR (opF o.op P (ev reg []) h) o.dst cx (cf P hint orc n) reg [] d (opsA P ops l cx (cf P hint orc n))).all (RP k kp (asgL (o :: l)) reg) := fun g =>
      contR_run (op_good C R.ev g) mono (fun v h g => lay g) fun c h g => ⟨σ, R, rfl, g⟩
    unfold operC at g
    cases hg : o.guard with
    | none =>
      rw [hg, xo_none] at g
      have e : ∀ n, opsA P ops (o :: l) cx (cf P hint orc n) reg [] h d = contR (opF o.op P (ev reg []) h) o.dst cx (cf P hint orc n) reg [] d (opsA P ops l cx (cf P hint orc n)) := fun n => by rw [opsA_cons, hg, ocase_none]
      simp only [e]
      unfold opNC at g
      cases hd : isDfr o.op with
      | false => rw [hd, xb_false] at g; exact oper g
      | true =>
        rw [hd, xb_true] at g
        obtain ⟨f, a, h', e, g⟩ := df_good (P := P) R.ev g
        rw [e]
        exact lay g
    | some q =>
      rw [hg, xo_some] at g
      unfold opJC at g
      obtain ⟨_, g⟩ := good_bc' g
      rw [JO_eq] at g
      obtain ⟨t, h1, g⟩ := guC_good R g
      have e : ∀ n, opsA P ops (o :: l) cx (cf P hint orc n) reg [] h d = oneG P o cx (cf P hint orc n) reg [] h d (opsA P ops l cx (cf P hint orc n)) t := fun n => by rw [opsA_cons, hg, ocase_some, h1, ocase_some]
      simp only [e]
      cases t with
      | true => exact oper g
      | false => exact lay g
end
end Go.Ev

namespace Go.Ev
open Go

theorem beqT_refl : ∀ l : List Trm, beqT l l = true
  | [] => rfl
  | t :: l => by
    show bcase (t.beq t) (beqT l l) false = true
    have h : t.beq t = true := by unfold Trm.beq; simp only [Nat.beq_refl]; rfl
    rw [h, bcase_true]; exact beqT_refl l
mutual
theorem AV.beq_refl : ∀ a : AV, AV.beq a a = true
  | .int k m => by simp only [AV.beq, Nat.beq_refl, Bool.and_true]; cases k <;> rfl
  | .bool b => by simp only [AV.beq, beq_self_eq_true]
  | .str n b => by simp only [AV.beq, Nat.beq_refl, Bool.and_true]
  | .ptr a b => by simp only [AV.beq, Nat.beq_refl, Bool.and_true]
  | .nilp => rfl
  | .slice a b c d => by simp only [AV.beq, Nat.beq_refl, Bool.and_true]
  | .gslice a b c d => by simp only [AV.beq, Nat.beq_refl, Bool.and_true]
  | .eslice => rfl
  | .nilslice => rfl
  | .map a => by simp only [AV.beq, Nat.beq_refl]
  | .nilmap => rfl
  | .nilfunc => rfl
  | .niliface => rfl
  | .agg l => by simp only [AV.beq]; exact AV.beqL_refl l
  | .tuple l => by simp only [AV.beq]; exact AV.beqL_refl l
  | .iface t a => by simp only [AV.beq, Nat.beq_refl, Bool.true_and]; exact AV.beq_refl a
  | .func f a b => by simp only [AV.beq, decide_true, Bool.true_and, AV.beqL_refl a, AV.beqL_refl b]
  | .oslice a => by simp only [AV.beq, Nat.beq_refl]
  | .imod a b => by simp only [AV.beq, Nat.beq_refl, Bool.and_true]
  | .optr a => by simp only [AV.beq, Nat.beq_refl]
  | .sint k c ts => by simp only [AV.beq, Nat.beq_refl, beqT_refl, Bool.and_true]; cases k <;> rfl
  | .sneg k c ts => by simp only [AV.beq, Nat.beq_refl, beqT_refl, Bool.and_true]; cases k <;> rfl
  | .sstr l => by simp only [AV.beq]; exact AV.beqL_refl l
theorem AV.beqL_refl : ∀ l : List AV, AV.beqL l l = true
  | [] => rfl
  | a :: l => by simp only [AV.beqL, AV.beq_refl a, AV.beqL_refl l, Bool.and_true]
end

section
variable {P : Program} {hint : FuncId → Nat} {orc : Orc}

theorem lenA_any {t : TypeId} (ht : (isSliceT P t || isStrT P t) = true) (h g : Heap) (x : AV) : lenA P h t x = lenA P g t x := by
  unfold lenA
  cases hs : isSliceT P t with
  | true => rfl
  | false =>
    rw [hs, Bool.false_or] at ht
    rw [ht, bcase_false, bcase_false, bcase_true, bcase_true]
theorem ov_ind {h g : Heap} {o : Option AV} {v : AV} {h' : Heap} (e : ov h o = .val v h') : ov g o = .val v g := by rw [(ov_val e).1]; rfl
theorem o1_ind {x : Operand} {f : AV → Heap → OpR} {ev : Ev} {h g h' : Heap} {v : AV} (hf : ∀ u, f u h = .val v h' → ∃ g', f u g = .val v g') (e : o1 x f ev h = .val v h') : ∃ g', o1 x f ev g = .val v g' := by
  obtain ⟨u, h1, h2⟩ := o1_val e
  obtain ⟨g', h3⟩ := hf u h2
  exact ⟨g', o1_val' h1 h3⟩
theorem o2_ind {x y : Operand} {f : AV → AV → Heap → OpR} {ev : Ev} {h g h' : Heap} {v : AV} (hf : ∀ u t, f u t h = .val v h' → ∃ g', f u t g = .val v g') (e : o2 x y f ev h = .val v h') : ∃ g', o2 x y f ev g = .val v g' := by
  obtain ⟨u, t, h1, h2, h3⟩ := o2_val e
  obtain ⟨g', h4⟩ := hf u t h3
  exact ⟨g', o2_val' h1 h2 h4⟩
theorem pureB_spec {b : Builtin} {ts : List TypeId} (hp : pureB P (.builtin b) ts = true) : isLenB b = true ∧ ∀ t r, ts = t :: r → (isSliceT P t || isStrT P t) = true := by
  cases ts with
  | nil =>
    have hp : (isLenB b && false) = true := hp
    rw [Bool.and_false] at hp; cases hp
  | cons t r =>
    have hp : (isLenB b && (isSliceT P t || isStrT P t)) = true := hp
    obtain ⟨hb, ht⟩ := Bool.and_eq_true_iff.1 hp
    refine ⟨hb, fun t' r' e => ?_⟩
    cases e; exact ht
theorem pure_ind {o : Op} (hp : isPureO P o = true) {ev : Ev} {h g h' : Heap} {v : AV} (e : opF o P ev h = .val v h') : ∃ g', opF o P ev g = .val v g' := by
  cases o <;> first | (exact Bool.noConfusion (show false = true from hp)) | skip
  case move x =>
    have e : opMove x ev h = .val v h' := e
    show ∃ g', opMove x ev g = .val v g'
    unfold opMove at e ⊢
    cases hx : ev x with
    | none => rw [hx] at e; cases e
    | some u => rw [hx] at e; cases e; exact ⟨g, rfl⟩
  case assign x =>
    have e : opMove x ev h = .val v h' := e
    show ∃ g', opMove x ev g = .val v g'
    unfold opMove at e ⊢
    cases hx : ev x with
    | none => rw [hx] at e; cases e
    | some u => rw [hx] at e; cases e; exact ⟨g, rfl⟩
  case pick c a b =>
    have e : opPick c a b ev h = .val v h' := e
    show ∃ g', opPick c a b ev g = .val v g'
    unfold opPick at e ⊢
    cases hx : ev c with
    | none => rw [hx] at e; cases e
    | some u =>
      rw [hx, ocase_some] at e
      rw [ocase_some]
      cases ht : Ev.asBool u with
      | none => rw [ht] at e; cases e
      | some t =>
        rw [ht, ocase_some] at e
        rw [ocase_some]
        cases t with
        | true =>
          rw [bcase_true] at e ⊢
          unfold opMove at e ⊢
          cases ha : ev a with
          | none => rw [ha] at e; cases e
          | some w => rw [ha] at e; cases e; exact ⟨g, rfl⟩
        | false =>
          rw [bcase_false] at e ⊢
          unfold opMove at e ⊢
          cases ha : ev b with
          | none => rw [ha] at e; cases e
          | some w => rw [ha] at e; cases e; exact ⟨g, rfl⟩
  case build t parts =>
    have e : (ocase (mapOpt parts.toList ev) (.bad 17) fun l => ov h (buildA P t l)) = .val v h' := e
    show ∃ g', (ocase (mapOpt parts.toList ev) (.bad 17) fun l => ov g (buildA P t l)) = .val v g'
    cases hx : mapOpt parts.toList ev with
    | none => rw [hx] at e; cases e
    | some l => rw [hx, ocase_some] at e; rw [ocase_some]; exact ⟨g, ov_ind e⟩
  case nilCheck x => exact o1_ind (f := fun v h => ov h (nilCheckA v)) (fun u e => ⟨g, ov_ind e⟩) e
  case binOp op t x y r => exact o2_ind (f := fun a b h => ov h (binOpA P op t x y a b)) (fun u w e => ⟨g, ov_ind e⟩) e
  case unOp op t x => exact o1_ind (f := fun v h => ov h (unOpA op v)) (fun u e => ⟨g, ov_ind e⟩) e
  case makeInterface t x =>
    refine o1_ind (f := mkIface P t) (fun u e => ?_) e
    unfold mkIface at e ⊢
    split at e
    · cases e
    · cases e; exact ⟨g, rfl⟩
    · cases e
  case makeFunc fn fs cs =>
    have e : opMakeFunc fn fs.toList cs.toList P ev h = .val v h' := e
    show ∃ g', opMakeFunc fn fs.toList cs.toList P ev g = .val v g'
    unfold opMakeFunc at e ⊢
    cases h1 : evs fs.toList ev with
    | none => rw [h1] at e; cases e
    | some a =>
      rw [h1] at e
      cases h2 : evs cs.toList ev with
      | none => rw [h2] at e; cases e
      | some b => rw [h2] at e; cases e; exact ⟨g, rfl⟩
  case slice t x lo hi mx =>
    have e : opSlice t x lo hi mx P ev h = .val v h' := e
    show ∃ g', opSlice t x lo hi mx P ev g = .val v g'
    unfold opSlice at e ⊢
    split at e
    · split at e
      · split at e
        · split at e
          · exact ⟨g, ov_ind e⟩
          · cases e
        · cases e
      · cases e
    · cases e
  case fieldAddr t x f => exact o1_ind (f := fun v h => ov h (fieldAddrA P t v f)) (fun u e => ⟨g, ov_ind e⟩) e
  case field t x f => exact o1_ind (f := fun v h => ov h (fieldA P t v f)) (fun u e => ⟨g, ov_ind e⟩) e
  case indexAddr t x i => exact o2_ind (f := fun a b h => ov h (indexAddrA P t a b)) (fun u w e => ⟨g, ov_ind e⟩) e
  case index t x i => exact o2_ind (f := fun a b h => ov h (indexA P t a b)) (fun u w e => ⟨g, ov_ind e⟩) e
  case typeAssert x f t ok => exact o1_ind (f := fun v h => ov h (typeAssertA P v t ok)) (fun u e => ⟨g, ov_ind e⟩) e
  case extract t i =>
    refine o1_ind (f := opExtract i) (fun u e => ?_) e
    unfold opExtract at e ⊢
    cases hu : asTuple u with
    | none => rw [hu] at e; cases e
    | some l => rw [hu, ocase_some] at e; rw [ocase_some]; exact ⟨g, ov_ind e⟩
  case call c =>
    have hp : pureB P c.callee c.argTypes.toList = true := hp
    have e : opCall c.callee c.args.toList c.argTypes.toList P ev h = .val v h' := e
    show ∃ g', opCall c.callee c.args.toList c.argTypes.toList P ev g = .val v g'
    generalize c.callee = cal at hp e ⊢
    generalize c.argTypes.toList = ts at hp e ⊢
    cases cal with
    | value f => exact Bool.noConfusion (show false = true from hp)
    | invoke r n => exact Bool.noConfusion (show false = true from hp)
    | builtin b =>
      obtain ⟨hb, ht⟩ := pureB_spec hp
      cases b <;> first | (exact Bool.noConfusion (show false = true from hb)) | skip
      have e : (match evs c.args.toList ev with | some l => builtinF .len P ts l h | none => .bad 42) = OpR.val v h' := e
      show ∃ g', (match evs c.args.toList ev with | some l => builtinF .len P ts l g | none => .bad 42) = OpR.val v g'
      cases ha : evs c.args.toList ev with
      | none => rw [ha] at e; cases e
      | some l =>
        rw [ha] at e
        have e : biLen P ts l h = .val v h' := e
        show ∃ g', biLen P ts l g = .val v g'
        cases ts with
        | nil => cases e
        | cons t r =>
          cases l with
          | nil => cases e
          | cons x l =>
            cases l with
            | cons _ _ => cases e
            | nil =>
              have e : ov h (lenA P h t x) = .val v h' := e
              refine ⟨g, ?_⟩
              show ov g (lenA P g t x) = _
              rw [lenA_any (ht _ _ rfl) g h]
              exact ov_ind e

inductive RdsOk (P : Program) : List RdC → List Rd → Prop
  | nil : RdsOk P [] []
  | both {r : RdC} {q : Rd} {l : List RdC} {m : List Rd} (hi : q.i = r.i) (ho : q.o = r.o) (hv : q.v = r.v) (he : EvLe r.σ (ev q.reg q.loc)) (h : RdsOk P l m) : RdsOk P (r :: l) (q :: m)
  | skip {q : Rd} {l : List RdC} {m : List Rd} (hq : ∀ h, readA P q.reg q.loc h q.o = some q.v) (h : RdsOk P l m) : RdsOk P l (q :: m)
theorem EQV_good {v u : AV} {k : Ans} (g : good (EQV v u k)) : AV.beq u v = true ∧ good k := good_bc g
theorem recC_good {m : Nat} {h : Heap} {k : Ans} : ∀ {l : List RdC} {q : List Rd}, RdsOk P l q → good (recC P m h l k) → recheck P m h q = true ∧ good k := by
  intro l q R
  induction R with
  | nil => exact fun g => ⟨rfl, g⟩
  | @both r q l' m' hi ho hv he _ ih =>
    intro g
    have g : good (xb (bit r.i m) (recC P m h l' k) (rdC P r.o.op r.σ h fun u => EQV r.v u (recC P m h l' k))) := g
    rw [recheck_cons, hi]
    cases hb : bit r.i m with
    | true => rw [hb, xb_true] at g; rw [bcase_true]; exact ih g
    | false =>
      rw [hb, xb_false] at g
      rw [bcase_false]
      obtain ⟨u, h', e, g, _⟩ := rd_good (P := P) he g
      obtain ⟨e2, g⟩ := EQV_good g
      obtain ⟨e3, g⟩ := ih g
      refine ⟨?_, g⟩
      have e4 : readA P q.reg q.loc h q.o = some u := by
        show valOf (opF q.o.op P (ev q.reg q.loc) h) = some u
        rw [ho, e]; rfl
      rw [e4, hv]
      show bcase (AV.beq u r.v) _ false = true
      rw [e2, bcase_true]; exact e3
  | @skip q l' m' hq _ ih =>
    intro g
    obtain ⟨e, g⟩ := ih g
    refine ⟨?_, g⟩
    rw [recheck_cons]
    cases bit q.i m with
    | true => rw [bcase_true]; exact e
    | false =>
      rw [bcase_false, hq h]
      show bcase (AV.beq q.v q.v) _ false = true
      rw [AV.beq_refl, bcase_true]; exact e

theorem SETB_eq (h : Heap) (b : Nat) (x : ABlk) (k : Heap → Ans) : SETB h b x k = k (h.set b (some x)) := HSET_eq h b x k
theorem incC_eq (m : Nat) : ∀ (l : Pend) (h : Heap) (k : Pend → Heap → Ans), incC m l h k = k (incorp m l h).1 (incorp m l h).2
  | [], h, k => rfl
  | x :: l, h, k => by
    show incC m l h (fun q h => xb (bit x.1 m) (SETB h x.2.1 x.2.2 fun h => k q h) (k (x :: q) h)) = _
    rw [incC_eq m l h, incorp_cons]
    cases bit x.1 m with
    | true => rw [xb_true, SETB_eq]; rfl
    | false => rfl
theorem incAll_eq : ∀ (l : Pend) (h : Heap) (k : Heap → Ans), incAll l h k = k (incorpAll l h)
  | [], h, k => rfl
  | x :: l, h, k => by
    show incAll l h (fun h => SETB h x.2.1 x.2.2 k) = _
    rw [incAll_eq l h, incorpAll_cons, SETB_eq]
theorem trivP_inc {m : Nat} {h : Heap} : ∀ {l : Pend}, trivP m l = true → incorp m l h = (l, h)
  | [], _ => rfl
  | x :: l, e => by
    have e : bcase (bit x.1 m) false (trivP m l) = true := e
    cases hb : bit x.1 m with
    | true => rw [hb, bcase_true] at e; cases e
    | false =>
      rw [hb, bcase_false] at e
      rw [incorp_cons, hb, bcase_false, trivP_inc e]
theorem drawJ_eq {p : PL} {nt : Nat} {cl : CL} {s : DSC} {k : KD2} {σ : Loc} {h : Heap} {d : Dfr} {kp : KPX} (j : joinable P p s = true) :
    drawJ P p cl s.reads σ h d (fun v h => putC p.o.dst nt v σ fun σ => k s σ h d) kp = drawC1 P p nt cl s k σ h d kp := by
  unfold joinable at j
  unfold drawJ drawC1
  cases hA : isAct p with
  | true =>
    rw [hA, bcase_true] at j
    rw [xb_true, xb_true, incC_eq, trivP_inc j]
    rfl
  | false =>
    rw [hA, bcase_false] at j
    rw [xb_false, xb_false]
    cases h2 : Nat.beq p.k 2 with
    | true => rw [h2, bcase_true] at j; cases j
    | false =>
      rw [h2, bcase_false] at j
      rw [xb_false]
      cases ha : again P p with
      | true => rw [ha, bcase_true] at j; cases j
      | false => rfl

def drawG (k : KO) (kp : KPX) (m : Nat) (reg : T AV) : AX × St → Prop := RP k kp m reg
noncomputable def asgP (l : List PL) : Nat := lrec 0 (fun p _ ih => Nat.lor (dstM p.o.dst) ih) l
theorem asgP_cons (p : PL) (l : List PL) : asgP (p :: l) = Nat.lor (dstM p.o.dst) (asgP l) := rfl
theorem drawC_cons (ops : List Oper) (p : PL) (l : List PL) (nt : Nat) (cl : CL) (s : DSC) (σ : Loc) (h : Heap) (d : Dfr) (k : KO) (kp : KPX) :
    drawC P ops (p :: l) nt cl s σ h d k kp = drawC2 P p ops nt cl s (fun s σ h d => drawC P ops l nt cl s σ h d k kp) σ h d kp := rfl
theorem drawC_nil (ops : List Oper) (nt : Nat) (cl : CL) (s : DSC) (σ : Loc) (h : Heap) (d : Dfr) (k : KO) (kp : KPX) :
    drawC P ops [] nt cl s σ h d k kp = incAll s.pend h fun h => k σ h d := rfl
theorem NEWB_good {h0 h : Heap} {k : ABlk → Nat → Heap → Ans} (g : good (NEWB h0 h k)) : ∃ b, h.get h0.next = some b ∧ good (k b h0.next ⟨Nat.add h0.next 1, h0.bl⟩) := by
  cases h0 with
  | mk n bl =>
    have g : good (HGET h n fun b => k b n ⟨Nat.add n 1, bl⟩) := g
    exact HGET_good g
theorem again_k {p : PL} (h : again P p = true) : Nat.beq p.k 1 = true := by
  unfold again at h
  cases hk : Nat.beq p.k 1 with
  | true => rfl
  | false => rw [hk, bcase_false] at h; cases h

theorem draw_good {cl : CL} (C : ClOk P hint orc cl) {cx : Cx} (F : Full cx) (ops : List Oper) {k : KO} {kp : KPX} : ∀ {l : List PL} {s : DSC} {q : DS} {σ : Loc} {reg : T AV} {h : Heap} {d : Dfr}, q.pend = s.pend → RdsOk P s.reads q.reads → RR σ reg →
    good (drawC P ops l cx.nt cl s σ h d k kp) → ∃ n, (drawOps P ops l cx (cf P hint orc n) q reg [] h d).all (RP k kp (asgP l) reg)
  | [], s, q, σ, reg, h, d, hp, hr, R, g => by
    rw [drawC_nil, incAll_eq] at g
    refine ⟨0, ?_⟩
    rw [drawOps_nil, hp]
    exact ⟨σ, R, rfl, Keep.refl _ _, g⟩
  | p :: l, s, q, σ, reg, h, d, hp, hr, R, g => by
    rw [drawC_cons] at g
    have lay : ∀ {v : AV} {s' : DSC} {q' : DS} {h : Heap} {d : Dfr}, q'.pend = s'.pend → RdsOk P s'.reads q'.reads → good (putC p.o.dst cx.nt v σ fun σ => drawC P ops l cx.nt cl s' σ h d k kp) →
        ∃ n, (putK p.o.dst cx v (drawOps P ops l cx (cf P hint orc n) q') reg [] h d).all (RP k kp (asgP (p :: l)) reg) := by
      intro v s' q' h d hp' hr' g
      obtain ⟨σ', reg', h1, R', K, g⟩ := putC_good F R g
      obtain ⟨n, h2⟩ := draw_good C F ops hp' hr' R' g
      refine ⟨n, ?_⟩
      rw [h1, asgP_cons]
      exact Res.all_mono (fun r hr => RP.trans K hr) h2
    have mono : ∀ n m, n ≤ m → DKLe (drawOps P ops l cx (cf P hint orc n)) (drawOps P ops l cx (cf P hint orc m)) := fun n m hnm => drawOps_le ops (callOf_fix_le hnm) l
    have one : good (drawC1 P p cx.nt cl s (fun s σ h d => drawC P ops l cx.nt cl s σ h d k kp) σ h d kp) →
        ∃ n, (drawK P p cx (cf P hint orc n) q (drawOps P ops l cx (cf P hint orc n)) reg [] h d).all (RP k kp (asgP (p :: l)) reg) := by
      intro g
      unfold drawC1 at g
      unfold drawK
      cases hA : isAct p with
      | true =>
        rw [hA, xb_true, incC_eq] at g
        simp only [bcase_true]
        rw [hp]
        unfold actC2 at g
        unfold drawAct
        refine actR_run (op_good C R.ev g) mono (fun v h2 g => ?_) fun c h2 g => ?_
        · obtain ⟨e, g⟩ := recC_good hr g
          unfold actV
          simp only [e, bcase_true]
          exact lay (s' := ⟨(incorp p.m s.pend h).1, s.reads⟩) rfl hr g
        · unfold ENDD at g
          unfold actP
          cases d with
          | nil => exact ⟨[], RR.nil _, rfl, g⟩
          | cons x d => exact g.elim
      | false =>
        rw [hA, xb_false] at g
        simp only [bcase_false]
        cases h2 : Nat.beq p.k 2 with
        | true =>
          rw [h2, xb_true] at g
          simp only [bcase_true]
          obtain ⟨v, h', e, g⟩ := al_good (P := P) R.ev g
          obtain ⟨b, e2, g⟩ := NEWB_good g
          rw [e]
          show ∃ n, (ocase (h'.get h.next) (.fail 215) fun b => drawNewB b p.i h.next p.o.dst v cx q (drawOps P ops l cx (cf P hint orc n)) reg [] h d).all _
          rw [e2]
          simp only [ocase_some]
          unfold drawNewB
          exact lay (s' := ⟨(p.i, h.next, b) :: s.pend, s.reads⟩) (by rw [← hp]) hr g
        | false =>
          rw [h2, xb_false] at g
          simp only [bcase_false]
          obtain ⟨v, h', e, g, _⟩ := rd_good (P := P) R.ev g
          have er : readA P reg [] h p.o = some v := by
            show valOf (opF p.o.op P (ev reg []) h) = some v
            rw [e]; rfl
          rw [er]
          unfold drawRd
          simp only [ocase_some]
          unfold addRead
          cases ha : again P p with
          | true =>
            rw [again_k ha]
            rw [ha] at g
            exact lay (s' := ⟨s.pend, ⟨p.i, p.o, σ, v⟩ :: s.reads⟩) hp (RdsOk.both rfl rfl rfl R.ev hr) g
          | false =>
            rw [ha] at g
            cases hk : Nat.beq p.k 1 with
            | false => exact lay (s' := ⟨s.pend, s.reads⟩) hp hr g
            | true =>
              have hpu : isPureO P p.o.op = true := by
                unfold again at ha
                rw [hk, bcase_true] at ha
                cases hq : isPureO P p.o.op with
                | true => rfl
                | false => rw [hq, bcase_false] at ha; cases ha
              refine lay (s' := ⟨s.pend, s.reads⟩) hp (RdsOk.skip (fun h2 => ?_) hr) g
              obtain ⟨g', e'⟩ := pure_ind hpu (g := h2) e
              show valOf (opF p.o.op P (ev reg []) h2) = some v
              rw [e']; rfl
    unfold drawC2 at g
    have de : ∀ n, drawOps P ops (p :: l) cx (cf P hint orc n) q reg [] h d = drawP P p ops cx (cf P hint orc n) q (drawOps P ops l cx (cf P hint orc n)) reg [] h d := fun n => rfl
    simp only [de]
    unfold drawP
    cases hg : p.o.guard with
    | none =>
      rw [hg, xo_none] at g
      have hw : wantO p.o ops reg [] = some true := by unfold wantO; rw [hg, ocase_none]
      rw [hw]
      exact one g
    | some w =>
      rw [hg, xo_some] at g
      have key : ∃ t, wantG w ops reg [] = some t ∧ good (bcase t (drawC1 P p cx.nt cl s (fun s σ h d => drawC P ops l cx.nt cl s σ h d k kp) σ h d kp) (putC p.o.dst cx.nt undefA σ fun σ => drawC P ops l cx.nt cl s σ h d k kp)) := by
        unfold drawC3 at g
        cases hj : joinable P p s with
        | true =>
          rw [hj, xb_true, JO_eq] at g
          obtain ⟨t, h1, g⟩ := guC_good R g
          refine ⟨t, h1, ?_⟩
          cases t with
          | false => exact g
          | true => exact Eq.mp (congrArg good (drawJ_eq (nt := cx.nt) (k := fun s σ h d => drawC P ops l cx.nt cl s σ h d k kp) hj)) g
        | false =>
          rw [hj, xb_false] at g
          exact guC_good R g
      obtain ⟨t, h1, g⟩ := key
      have hw : wantO p.o ops reg [] = some t := by unfold wantO; rw [hg, ocase_some]; exact h1
      rw [hw]
      cases t with
      | true => exact one g
      | false => exact lay hp hr g

theorem asgL_bit {t : Nat} : ∀ {l : List Oper}, bit t (asgL l) = false → ∀ o ∈ l, bit t (dstM o.dst) = false
  | [], _, o, ho => by cases ho
  | x :: l, h, o, ho => by
    rw [asgL_cons, bit_or] at h
    obtain ⟨h1, h2⟩ := Bool.or_eq_false_iff.1 h
    cases ho with
    | head => exact h1
    | tail _ ho => exact asgL_bit h2 o ho
theorem asgP_bit {ops : List Oper} {t : Nat} (h : bit t (asgL ops) = false) : ∀ {l : List PL}, (∀ p ∈ l, p.o ∈ ops) → bit t (asgP l) = false
  | [], _ => bit_zero t
  | p :: l, hl => by
    rw [asgP_cons, bit_or]
    exact Bool.or_eq_false_iff.2 ⟨asgL_bit h _ (hl p (List.mem_cons_self ..)), asgP_bit h fun q hq => hl q (List.mem_cons_of_mem _ hq)⟩
theorem region_good {cl : CL} (C : ClOk P hint orc cl) {cx : Cx} (F : Full cx) (ops : Array Oper) (draw : Bool) {k : KO} {kp : KPX} {σ : Loc} {reg : T AV} {h : Heap} {d : Dfr} (R : RR σ reg) (g : good (regC P draw ops.toList cx.nt cl σ h d k kp)) :
    ∃ n, (regionA P draw ops.toList cx (cf P hint orc n) reg [] h d).all (RP k kp (asgL ops.toList) reg) := by
  unfold regC at g
  unfold regionA
  cases draw with
  | false => exact ops_good C F ops.toList R g
  | true =>
    rw [xb_true] at g
    obtain ⟨n, h1⟩ := draw_good C F ops.toList (q := ⟨[], []⟩) rfl RdsOk.nil R g
    refine ⟨n, ?_⟩
    rw [bcase_true]
    refine Res.all_mono (fun r hr => RP.weak (fun t ht => asgP_bit ht fun p hp => ?_) hr) h1
    have := (planOf_src (P := P) ops p hp).1
    exact Array.mem_toList_iff.2 (Array.mem_of_getElem? this)
end
end Go.Ev
