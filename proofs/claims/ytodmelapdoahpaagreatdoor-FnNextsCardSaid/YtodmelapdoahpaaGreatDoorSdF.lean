import Derived.Test.YtodmelapdoahpaaGreatDoorSdE
import Derived.LoopN
set_option linter.all false
namespace Go.Ev
open Go

def Res.all {α : Type} (Q : α → Prop) : Res α → Prop
  | .fail _ => False
  | .fin a => Q a
  | .ch n k => ∀ i, i < n → (k i).all Q
theorem Res.all_bind {α β : Type} (Q : β → Prop) (f : α → Res β) : ∀ r : Res α, (r.bind f).all Q ↔ r.all fun a => (f a).all Q
  | .fail _ => Iff.rfl
  | .fin a => Iff.rfl
  | .ch n k => by
    rw [Res.bind_ch]
    show (∀ i, i < n → ((k i).bind f).all Q) ↔ ∀ i, i < n → (k i).all _
    exact ⟨fun h i hi => (Res.all_bind Q f (k i)).1 (h i hi), fun h i hi => (Res.all_bind Q f (k i)).2 (h i hi)⟩
theorem Res.all_mono {α : Type} {Q Q' : α → Prop} (hq : ∀ a, Q a → Q' a) : ∀ {r : Res α}, r.all Q → r.all Q'
  | .fail _, h => h
  | .fin a, h => hq a h
  | .ch n k, h => fun i hi => Res.all_mono hq (h i hi)

def Sub (h H : Heap) : Prop := ∀ b x, h.get b = some x → H.get b = some x
theorem Sim.sub {ρ : Rho} {h H : Heap} {w : World} (s : Sim ρ H w) (hs : Sub h H) (hn : h.next = H.next) : Sim ρ h w :=
  ⟨fun b x hb => s.blk b x (hs b x hb), fun b b' x x' r c c' h1 h2 => s.inj b b' x x' r c c' (hs _ _ h1) (hs _ _ h2), fun b hb => s.fresh b (by omega)⟩
theorem Sim.img_lt {ρ : Rho} {h : Heap} {w : World} (s : Sim ρ h w) {b r c : Nat} {x : ABlk} (hb : h.get b = some x) (hr : ρ b = some (r, c)) : r < w.heap.size := by
  obtain ⟨r', c', o, h1, h2, _⟩ := s.blk b x hb
  rw [hr] at h1; cases h1
  rcases Nat.lt_or_ge r w.heap.size with h3 | h3
  · exact h3
  · rw [Array.getElem?_eq_none h3] at h2; cases h2
theorem Sim.frame {ρ ρ' : Rho} {h h' H H' : Heap} {w w' : World} (S : Sim ρ H w) (hs : Sub h H) (hn : h.next = H.next) (s' : Sim ρ' h' w') (x : Ext ρ h w ρ' h' w') (hn' : H'.next = h'.next)
    (hget : ∀ b y, H'.get b = some y → h'.get b = some y ∨ (h.get b = none ∧ H.get b = some y)) : Sim ρ' H' w' ∧ Ext ρ H w ρ' H' w' := by
  have keep : ∀ b y, h.get b = none → H.get b = some y → ρ' b = ρ b := fun b y _ hb => x.old b (by have := S.lt hb; omega)
  have mixed : ∀ b1 b2 y1 y2 r c1 c2, h'.get b1 = some y1 → h.get b2 = none → H.get b2 = some y2 → ρ' b1 = some (r, c1) → ρ' b2 = some (r, c2) → False := by
    intro b1 b2 y1 y2 r c1 c2 g1 g2 g3 g4 g5
    rw [keep b2 y2 g2 g3] at g5
    have hlt := S.img_lt g3 g5
    rcases x.dom b1 y1 g1 with ⟨x0, h0, _⟩ | ⟨h0, hw⟩
    · have h1 := hs _ _ h0
      rw [x.old b1 (by have := S.lt h1; omega)] at g4
      have := S.inj b1 b2 x0 y2 r c1 c2 h1 g3 g4 g5
      subst this; rw [g2] at h0; cases h0
    · obtain ⟨b0, x0, c0, k1, k2, k3⟩ := x.img b1 y1 r c1 g1 hw g4 hlt
      have := S.inj b0 b2 x0 y2 r c0 c2 (hs _ _ k1) g3 k3 g5
      subst this; rw [g2] at k1; cases k1
  refine ⟨⟨fun b y hb => ?_, fun b1 b2 y1 y2 r c1 c2 g1 g2 g3 g4 => ?_, fun b hb => s'.fresh b (by omega)⟩, ⟨x.le, fun b hb => x.old b (by omega), by rw [← hn, hn']; exact x.next, x.size, fun r hr hno => x.frame r hr fun b y c hb hw => hno b y c (hs _ _ hb) hw, fun b y r c hb hw hρ hr => ?_, x.os, x.tape, x.output, fun b y hb => ?_⟩⟩
  · rcases hget b y hb with h1 | ⟨h1, h2⟩
    · exact s'.blk b y h1
    · obtain ⟨r, c, o, k1, k2, k3⟩ := S.blk b y h2
      refine ⟨r, c, o, x.le _ _ k1, ?_, k3.mono x.le⟩
      rw [x.frame r (S.img_lt h2 k1) (fun b0 x0 c0 e1 _ e3 => ?_), k2]
      have := S.inj b0 b x0 y r c0 c (hs _ _ e1) h2 e3 k1
      subst this; rw [h1] at e1; cases e1
  · rcases hget b1 y1 g1 with e1 | ⟨e1, f1⟩
    · rcases hget b2 y2 g2 with e2 | ⟨e2, f2⟩
      · exact s'.inj b1 b2 y1 y2 r c1 c2 e1 e2 g3 g4
      · exact (mixed b1 b2 y1 y2 r c1 c2 e1 e2 f2 g3 g4).elim
    · rcases hget b2 y2 g2 with e2 | ⟨e2, f2⟩
      · exact (mixed b2 b1 y2 y1 r c2 c1 e2 e1 f1 g4 g3).elim
      · rw [keep b1 y1 e1 f1] at g3
        rw [keep b2 y2 e2 f2] at g4
        exact S.inj b1 b2 y1 y2 r c1 c2 f1 f2 g3 g4
  · rcases hget b y hb with h1 | ⟨h1, h2⟩
    · obtain ⟨b0, x0, c0, k1, k2, k3⟩ := x.img b y r c h1 hw hρ hr
      exact ⟨b0, x0, c0, hs _ _ k1, k2, k3⟩
    · rw [keep b y h1 h2] at hρ
      exact ⟨b, y, c, h2, hw, hρ⟩
  · rcases hget b y hb with h1 | ⟨h1, h2⟩
    · rcases x.dom b y h1 with ⟨x0, h0, e0⟩ | ⟨h0, e0⟩
      · exact .inl ⟨x0, hs _ _ h0, e0⟩
      · exact .inr ⟨by omega, e0⟩
    · exact .inl ⟨y, h2, rfl⟩

structure RegOk (ρ : Rho) (cx : Cx) (reg : T AV) (loc : Loc) (tmps : Array Value) : Prop where
  size : cx.nt ≤ tmps.size
  reg : ∀ t v, T.get (digs t) reg = some v → bit t cx.keep = true ∧ ∃ v', tmps[t]? = some v' ∧ VR ρ v v'
  loc : ∀ t v, lget t loc = some v → bit t cx.keep = false ∧ ∃ v', tmps[t]? = some v' ∧ VR ρ v v'
theorem RegOk.mono {ρ ρ' : Rho} (hρ : Rle ρ ρ') {cx : Cx} {reg : T AV} {loc : Loc} {tmps : Array Value} (h : RegOk ρ cx reg loc tmps) : RegOk ρ' cx reg loc tmps :=
  ⟨h.size, fun t v hv => let ⟨h1, v', h2, h3⟩ := h.reg t v hv; ⟨h1, v', h2, VR.mono hρ _ _ h3⟩, fun t v hv => let ⟨h1, v', h2, h3⟩ := h.loc t v hv; ⟨h1, v', h2, VR.mono hρ _ _ h3⟩⟩
theorem lget_nil (t : Nat) : lget t [] = none := rfl
theorem lget_cons (t : Nat) (x : Nat × AV) (l : Loc) : lget t (x :: l) = bcase (Nat.beq x.1 t) (some x.2) (lget t l) := rfl
theorem look_def (t : Nat) (reg : T AV) (loc : Loc) : look t reg loc = ocase (lget t loc) (T.get (digs t) reg) some := rfl
theorem RegOk.look {ρ : Rho} {cx : Cx} {reg : T AV} {loc : Loc} {tmps : Array Value} (h : RegOk ρ cx reg loc tmps) {t : Nat} {v : AV} (hv : look t reg loc = some v) : ∃ v', tmps[t]? = some v' ∧ VR ρ v v' := by
  rw [look_def] at hv
  cases hl : lget t loc with
  | none => rw [hl] at hv; exact (h.reg t v hv).2
  | some u => rw [hl] at hv; cases hv; exact (h.loc t _ hl).2
theorem RegOk.drop {ρ : Rho} {cx : Cx} {reg : T AV} {loc : Loc} {tmps : Array Value} (h : RegOk ρ cx reg loc tmps) : RegOk ρ cx reg [] tmps :=
  ⟨h.size, h.reg, fun t v hv => by rw [lget_nil] at hv; cases hv⟩
theorem RegOk.empty {ρ : Rho} {cx : Cx} {reg : T AV} {loc : Loc} {tmps : Array Value} (h : RegOk ρ cx reg loc tmps) : RegOk ρ cx .e [] tmps :=
  ⟨h.size, fun t v hv => (by rw [T.get_e] at hv; cases hv), fun t v hv => (by rw [lget_nil] at hv; cases hv)⟩

theorem canPut_iff {d : Nat} {cx : Cx} : canPut d cx = true ↔ d < cx.nt := by
  unfold canPut; rw [Nat.ble_eq]; exact Iff.rfl
def LocOk (cx : Cx) (loc : Loc) : Prop := ∀ t v, lget t loc = some v → bit t cx.keep = false
def RgOk (cx : Cx) (reg : T AV) (loc : Loc) : Prop := (∀ t v, T.get (digs t) reg = some v → bit t cx.keep = true) ∧ LocOk cx loc
theorem RegOk.rgOk {ρ : Rho} {cx : Cx} {reg : T AV} {loc : Loc} {tmps : Array Value} (h : RegOk ρ cx reg loc tmps) : RgOk cx reg loc := ⟨fun t v hv => (h.reg t v hv).1, fun t v hv => (h.loc t v hv).1⟩
theorem RegOk.of_look {ρ : Rho} {cx : Cx} {reg : T AV} {loc : Loc} {tmps : Array Value} (hs : cx.nt ≤ tmps.size) (g : RgOk cx reg loc) (hl : ∀ t v, Ev.look t reg loc = some v → ∃ v', tmps[t]? = some v' ∧ VR ρ v v') : RegOk ρ cx reg loc tmps :=
  ⟨hs, fun t v hv => ⟨g.1 t v hv, hl t v (by
    rw [look_def]
    cases hg : lget t loc with
    | none => exact hv
    | some u => have := g.2 t u hg; rw [g.1 t v hv] at this; cases this)⟩, fun t v hv => ⟨g.2 t v hv, hl t v (by rw [look_def, hv]; rfl)⟩⟩
theorem RegOk.locOk {ρ : Rho} {cx : Cx} {reg : T AV} {loc : Loc} {tmps : Array Value} (h : RegOk ρ cx reg loc tmps) : LocOk cx loc := fun t v hv => (h.loc t v hv).1

theorem putK_all {dst : Option Tmp} {cx : Cx} {v : AV} {k : K} {reg : T AV} {loc : Loc} {h : Heap} {dfr : Dfr} {Q : AX × St → Prop} (hq : (putK dst cx v k reg loc h dfr).all Q) :
    ∃ reg' loc', (k reg' loc' h dfr).all Q ∧ (∀ d, dst = some d → d < cx.nt) ∧ (RgOk cx reg loc → RgOk cx reg' loc') ∧ (LocOk cx loc → ∀ t, look t reg' loc' = if dst = some t then some v else look t reg loc) ∧
      ∀ (ρ : Rho) (tmps : Array Value) (v' : Value), RegOk ρ cx reg loc tmps → VR ρ v v' → ∀ ds, RegOk ρ cx reg' loc' (Act.put ⟨tmps, ds⟩ dst v').tmps := by
  unfold putK at hq
  cases dst with
  | none =>
    rw [ocase_none] at hq
    exact ⟨reg, loc, hq, fun d hd => (by cases hd), id, fun _ t => (by simp), fun ρ tmps v' hr _ _ => hr⟩
  | some d =>
    rw [ocase_some] at hq
    unfold putD at hq
    cases hc : canPut d cx with
    | false => rw [hc] at hq; exact hq.elim
    | true =>
      rw [hc, bcase_true] at hq
      have hd := canPut_iff.1 hc
      cases hb : bit d cx.keep with
      | true =>
        rw [hb, bcase_true] at hq
        refine ⟨_, loc, hq, fun d' h' => by cases h'; exact hd, fun hg => ⟨fun t u hu => ?_, hg.2⟩, fun hl t => ?_, fun ρ tmps v' hr hv ds => ?_⟩
        · rw [T.get_setn] at hu
          by_cases ht : t = d
          · subst ht; exact hb
          · rw [if_neg ht] at hu; exact hg.1 t u hu
        · rw [look_def, look_def, T.get_setn]
          by_cases ht : t = d
          · subst ht
            have : lget t loc = none := by
              cases hg : lget t loc with
              | none => rfl
              | some u => rw [hl t u hg] at hb; cases hb
            rw [this, if_pos rfl, if_pos rfl]; rfl
          · rw [if_neg ht, if_neg (by intro q; cases q; exact ht rfl)]
        · have hds : d < tmps.size := Nat.lt_of_lt_of_le hd hr.size
          refine ⟨by simp [Act.put]; exact hr.size, fun t u hu => ?_, fun t u hu => ?_⟩
          · rw [T.get_setn] at hu
            by_cases ht : t = d
            · subst ht; rw [if_pos rfl] at hu; cases hu
              exact ⟨hb, v', by simp [Act.put, hds], hv⟩
            · rw [if_neg ht] at hu
              obtain ⟨h1, u', h2, h3⟩ := hr.reg t u hu
              exact ⟨h1, u', by simp [Act.put, Array.getElem?_setIfInBounds_ne (Ne.symm ht), h2], h3⟩
          · obtain ⟨h1, u', h2, h3⟩ := hr.loc t u hu
            have ht : t ≠ d := fun q => by subst q; rw [hb] at h1; cases h1
            exact ⟨h1, u', by simp [Act.put, Array.getElem?_setIfInBounds_ne (Ne.symm ht), h2], h3⟩
      | false =>
        rw [hb, bcase_false] at hq
        refine ⟨reg, _, hq, fun d' h' => by cases h'; exact hd, fun hg => ⟨hg.1, fun t u hu => ?_⟩, fun hl t => ?_, fun ρ tmps v' hr hv ds => ?_⟩
        · rw [lget_cons] at hu
          cases ht : Nat.beq d t with
          | true => rw [← nbeq_iff.1 ht]; exact hb
          | false => rw [ht] at hu; exact hg.2 t u hu
        · rw [look_def, look_def, lget_cons]
          cases ht : Nat.beq d t with
          | true => have := nbeq_iff.1 ht; subst this; rw [if_pos rfl]; rfl
          | false => rw [if_neg (by intro q; cases q; rw [Nat.beq_refl] at ht; cases ht)]; rfl
        · have hds : d < tmps.size := Nat.lt_of_lt_of_le hd hr.size
          refine ⟨by simp [Act.put]; exact hr.size, fun t u hu => ?_, fun t u hu => ?_⟩
          · obtain ⟨h1, u', h2, h3⟩ := hr.reg t u hu
            have ht : t ≠ d := fun q => by subst q; rw [hb] at h1; cases h1
            exact ⟨h1, u', by simp [Act.put, Array.getElem?_setIfInBounds_ne (Ne.symm ht), h2], h3⟩
          · rw [lget_cons] at hu
            cases ht : Nat.beq d t with
            | true =>
              have := nbeq_iff.1 ht; subst this
              rw [ht] at hu; cases hu
              exact ⟨hb, v', by simp [Act.put, hds], hv⟩
            | false =>
              rw [ht] at hu
              obtain ⟨h1, u', h2, h3⟩ := hr.loc t u hu
              have ht' : t ≠ d := fun q => by subst q; rw [Nat.beq_refl] at ht; cases ht
              exact ⟨h1, u', by simp [Act.put, Array.getElem?_setIfInBounds_ne (Ne.symm ht'), h2], h3⟩

inductive DR (ρ : Rho) : Dfr → List Deferred → Prop
  | nil : DR ρ [] []
  | cons {f : FuncId} {args : List AV} {a c : Array Value} {l : Dfr} {l' : List Deferred} (h : VRL ρ args (a ++ c).toList) (hs : DR ρ l l') : DR ρ ((f, args) :: l) (⟨.fn (.func f) c, a⟩ :: l')
theorem DR.mono {ρ ρ' : Rho} (hρ : Rle ρ ρ') {l : Dfr} {l' : List Deferred} (h : DR ρ l l') : DR ρ' l l' := by
  induction h with
  | nil => exact .nil
  | cons h _ ih => exact .cons (VRL.mono hρ _ _ h) ih
inductive ChR (ρ : Rho) : List (AV × Bool) → List PanicEntry → Prop
  | nil : ChR ρ [] []
  | cons {v : AV} {b : Bool} {v' : Value} {l : List (AV × Bool)} {l' : List PanicEntry} (h : VR ρ v v') (hs : ChR ρ l l') : ChR ρ ((v, b) :: l) (⟨v', b, false⟩ :: l')
theorem ChR.mono {ρ ρ' : Rho} (hρ : Rle ρ ρ') {l : List (AV × Bool)} {l' : List PanicEntry} (h : ChR ρ l l') : ChR ρ' l l' := by
  induction h with
  | nil => exact .nil
  | cons h _ ih => exact .cons (VR.mono hρ _ _ h) ih
structure StR (ρ : Rho) (cx : Cx) (s : St) (a : Act) : Prop where
  reg : RegOk ρ cx s.reg s.loc a.tmps
  dfr : DR ρ s.dfr a.defers
def ExR (ρ : Rho) (x : AX) (e : Exit) : Prop :=
  match x, e with
  | .normal, .normal => True
  | .exit i, .exit j => i = j
  | .goto i, .goto j => i = j
  | .ret, .ret => True
  | .panic c, .panic ch => ChR ρ c ch
  | _, _ => False
def Post (ρ : Rho) (h : Heap) (w : World) (cx : Cx) (Q : AX × St → Prop) (e : Exit) (a' : Act) (w' : World) : Prop :=
  ∃ x ρ', Q x ∧ ExR ρ' x.1 e ∧ StR ρ' cx x.2 a' ∧ Sim ρ' x.2.hp w' ∧ Ext ρ h w ρ' x.2.hp w'
def CXR (ρ : Rho) (x : CX) (e : Ending) : Prop :=
  match x, e with
  | .ret v, .returned v' => VR ρ v v'
  | .pan c, .panicked ch => ChR ρ c ch
  | _, _ => False
def CPost (ρ : Rho) (h : Heap) (w : World) (Q : CX × Heap → Prop) (e : Ending) (w' : World) : Prop :=
  ∃ x ρ', Q x ∧ CXR ρ' x.1 e ∧ Sim ρ' x.2 w' ∧ Ext ρ h w ρ' x.2 w'
def GR (n : Nat) (ρ : Rho) : Prop := ∀ g, g < n → ∃ c, ρ g = some (g, c)
theorem GR.mono {n : Nat} {ρ ρ' : Rho} (hρ : Rle ρ ρ') (h : GR n ρ) : GR n ρ' := fun g hg => let ⟨c, h1⟩ := h g hg; ⟨c, hρ _ _ h1⟩
structure Base (n : Nat) (J : Rho → Heap → World → Prop) : Prop where
  mono : ∀ {ρ : Rho} {h : Heap} {w : World} {ρ' : Rho} {h' : Heap} {w' : World}, J ρ h w → Ext ρ h w ρ' h' w' → J ρ' h' w'
  gr : ∀ {ρ : Rho} {h : Heap} {w : World}, J ρ h w → GR n ρ
def CodeOk (P : Program) (J : Rho → Heap → World → Prop) (run : Cx → St → RS) (c : Code) : Prop :=
  ∀ cx s Q ρ a w, J ρ s.hp w → (run cx s).all Q → StR ρ cx s a → Sim ρ s.hp w → c.wp P (Post ρ s.hp w cx Q) a w
def CallOk (P : Program) (J : Rho → Heap → World → Prop) (call : CallF) : Prop :=
  ∀ f args h Q ρ args' w, J ρ h w → (call f args h).all Q → Sim ρ h w → VRL ρ args args'.toList → Calls P f args' w (CPost ρ h w Q)
theorem undef_VR (ρ : Rho) : VR ρ undefA undef := VR.tuple_iff.2 ⟨_, rfl, VRL.nil⟩
end Go.Ev

namespace Go.Ev
open Go
section
variable {P : Program}


theorem boolW_wanted {ρ : Rho} {want : Bool} {v : AV} {v' : Value} (hv : VR ρ v v') : ((match some v' with | some (.bool b) => some b | _ => none : Option Bool) == some want) = boolW want v := by
  cases v
  case bool b =>
    have := VR.bool_iff.1 hv; subst this
    cases b <;> cases want <;> rfl
  all_goals
    simp only [VR] at hv
    first
      | (obtain ⟨rfl, _⟩ := hv; rfl) | (subst hv; rfl) | (obtain ⟨_, rfl, _⟩ := hv; rfl) | (obtain ⟨_, _, _, rfl⟩ := hv; rfl) | (obtain ⟨_, _, _, _, rfl, _⟩ := hv; rfl) | (obtain ⟨_, _, rfl⟩ := hv; rfl) | (obtain ⟨_, _, rfl, _⟩ := hv; rfl) | (obtain ⟨_, _, _, _, _, _, rfl⟩ := hv; rfl)
theorem want_ok {ρ : Rho} {ops : Array Oper} {o : Oper} {g : Nat × Bool} (hg : o.guard = some g) {reg : T AV} {loc : Loc} {tmps : Array Value} {b : Bool}
    (hl : ∀ og d v, ops[g.1]? = some og → og.dst = some d → look d reg loc = some v → ∃ v', tmps[d]? = some v' ∧ VR ρ v v') (h : wantG g ops.toList reg loc = some b) : Region.wanted o (yielded ops tmps) = b := by
  unfold wantG at h
  unfold Region.wanted yielded
  rw [hg]
  simp only
  rw [Array.getElem?_toList] at h
  cases ho : ops[g.1]? with
  | none => rw [ho] at h; cases h; rfl
  | some og =>
    rw [ho, ocase_some] at h
    cases hd : og.dst with
    | none => rw [hd] at h; cases h; simp [hd]
    | some d =>
      rw [hd, ocase_some] at h
      obtain ⟨v, hv, h⟩ := ocase_some_iff.1 h
      cases h
      obtain ⟨v', h1, h2⟩ := hl og d v ho hd hv
      have := boolW_wanted (want := g.2) h2
      rw [← this]
      simp only [Option.bind_some, hd, h1]
      rfl

theorem ev_def (reg : T AV) (loc : Loc) (x : Operand) : ev reg loc x = evO x reg loc := rfl
theorem evO_ok {n : Nat} {ρ : Rho} (G : GR n ρ) {reg : T AV} {loc : Loc} {a : Act} {x : Operand} (hx : opndOk n x = true) {v : AV}
    (hl : ∀ t v, x = .tmp t → look t reg loc = some v → ∃ v', a.tmps[t]? = some v' ∧ VR ρ v v') (h : evO x reg loc = some v) : VR ρ v (a.eval x) := by
  cases x with
  | tmp t =>
    obtain ⟨v', h1, h2⟩ := hl t v rfl h
    show VR ρ v (a.tmps.getD t undef)
    rw [Array.getD_eq_getD_getElem?, h1]; exact h2
  | const c =>
    have h : ocase (abs c) none some = some v := h
    obtain ⟨u, h1, h2⟩ := ocase_some_iff.1 h
    cases h2
    exact abs_VR ρ c v h1
  | global g =>
    have h : some (AV.ptr g (nat_lit 0)) = some v := h
    cases h
    obtain ⟨c, h1⟩ := G g (Nat.le_of_ble_eq_true hx)
    exact VR.ptr_iff.2 ⟨g, c, h1, rfl⟩
  | func f =>
    have h : some (AV.func (.func f) [] []) = some v := h
    cases h
    exact VR.func_iff.2 ⟨#[], #[], rfl, VRL.nil, VRL.nil⟩
theorem evOn {n : Nat} {ρ : Rho} (G : GR n ρ) {cx : Cx} {reg : T AV} {loc : Loc} {a : Act} (R : RegOk ρ cx reg loc a.tmps) {o : Oper} (ho : operOk n o = true) : EvOn ρ o.op.operands.toList (ev reg loc) a.eval :=
  fun x hx v hv => evO_ok G (List.all_eq_true.1 ho x hx) (fun t v _ h => R.look h) hv

theorem contR_ok {J : Rho → Heap → World → Prop} {call : CallF} (C : CallOk P J call) {o : Oper} {cx : Cx} {reg : T AV} {loc : Loc} {h : Heap} {dfr : Dfr} {k : K} {r : OpR} {Q : AX × St → Prop} {ρ0 ρ : Rho} {h0 : Heap} {w0 w : World} {a : Act} {N : Act → World → Prop} {QQ : Exit → Act → World → Prop} (G : J ρ h w)
    (hr : OpOk P ρ h w r (execOp a.eval o)) (R : RegOk ρ cx reg loc a.tmps) (D : DR ρ dfr a.defers) (s : Sim ρ h w) (E : Ext ρ0 h0 w0 ρ h w) (hq : (contR r o.dst cx call reg loc dfr k).all Q)
    (hk : ∀ ρ' reg' loc' h' dfr' a' w', (k reg' loc' h' dfr').all Q → RegOk ρ' cx reg' loc' a'.tmps → DR ρ' dfr' a'.defers → Sim ρ' h' w' → Ext ρ0 h0 w0 ρ' h' w' → N a' w')
    (hP : ∀ ch w', Post ρ0 h0 w0 cx Q (.panic ch) a w' → QQ (.panic ch) a w') : o.wp P a w N QQ := by
  have put : ∀ {v : AV} {h' : Heap} {dfr' : Dfr} {v' : Value} {ρ' : Rho} {w' : World} {ds : List Deferred}, (putK o.dst cx v k reg loc h' dfr').all Q → VR ρ' v v' → Sim ρ' h' w' → Ext ρ0 h0 w0 ρ' h' w' → Rle ρ ρ' → DR ρ' dfr' ds →
      N (Act.put ⟨a.tmps, ds⟩ o.dst v') w' := by
    intro v h' dfr' v' ρ' w' ds hp hv hs hE hle hd
    obtain ⟨reg', loc', h1, _, _, _, h2⟩ := putK_all hp
    refine hk ρ' reg' loc' h' dfr' _ w' h1 (h2 ρ' a.tmps v' (R.mono hle) hv ds) ?_ hs hE
    cases o.dst <;> exact hd
  unfold Oper.wp
  cases r with
  | bad w => exact hq.elim
  | val v h' =>
    obtain ⟨ρ', v', w', g1, g2, g3, g4⟩ := hr
    rw [g1]
    exact put (ds := a.defers) hq g2 g3 (E.trans g4) g4.le (D.mono g4.le)
  | skip h' =>
    obtain ⟨ρ', w', g1, g3, g4⟩ := hr
    rw [g1]
    exact put (ds := a.defers) hq (undef_VR _) g3 (E.trans g4) g4.le (D.mono g4.le)
  | enter f args h' =>
    obtain ⟨rfl, args', g1, g2⟩ := hr
    rw [g1]
    have hq : ((call f args h').bind (contC o.dst cx reg loc dfr k)).all Q := hq
    rw [Res.all_bind] at hq
    refine Calls.mono (C f args h' _ ρ args' w G hq s g2) ?_
    rintro e w' ⟨⟨x, h2⟩, ρ', hx, hc, hs, hE⟩
    cases x with
    | ret v =>
      cases e with
      | returned v' =>
        have hx : (putK o.dst cx v k reg loc h2 dfr).all Q := hx
        exact put (ds := a.defers) hx hc hs (E.trans hE) hE.le (D.mono hE.le)
      | panicked ch => exact hc.elim
      | outgrown => exact hc.elim
    | pan c =>
      cases e with
      | returned v' => exact hc.elim
      | panicked ch => exact hP _ _ ⟨(.panic c, ⟨reg, loc, h2, dfr⟩), ρ', hx, hc, ⟨R.mono hE.le, D.mono hE.le⟩, hs, E.trans hE⟩
      | outgrown => exact hc.elim
  | pan v h' =>
    obtain ⟨rfl, v', g1, g2⟩ := hr
    rw [g1]
    exact hP _ _ ⟨(.panic [(v, false)], ⟨reg, loc, h', dfr⟩), ρ, hq, ChR.cons g2 .nil, ⟨R, D⟩, s, E⟩
  | dfr f args h' =>
    obtain ⟨rfl, a', c', g1, g2⟩ := hr
    rw [g1]
    exact put (ds := _ :: a.defers) hq (undef_VR _) s E (Rle.refl _) (.cons g2 D)
  | ch n c =>
    obtain ⟨i, hi, hr⟩ := hr
    have hq : (contN o.dst cx reg loc dfr k (c i)).all Q := hq i hi
    cases hc : c i with
    | none => rw [hc] at hq; exact hq.elim
    | some x =>
      obtain ⟨ρ', v', w', g1, g2, g3, g4⟩ := hr x.1 x.2 hc
      rw [g1]
      rw [hc] at hq
      exact put (ds := a.defers) hq g2 g3 (E.trans g4) g4.le (D.mono g4.le)
  | rcv => exact hq.elim

theorem opsA_nil (ops : List Oper) (cx : Cx) (call : CallF) (reg : T AV) (loc : Loc) (h : Heap) (dfr : Dfr) : opsA P ops [] cx call reg loc h dfr = .fin (.normal, ⟨reg, loc, h, dfr⟩) := rfl
theorem opsA_cons (ops : List Oper) (o : Oper) (l : List Oper) (cx : Cx) (call : CallF) (reg : T AV) (loc : Loc) (h : Heap) (dfr : Dfr) : opsA P ops (o :: l) cx call reg loc h dfr =
    ocase o.guard (contR (opF o.op P (ev reg loc) h) o.dst cx call reg loc dfr (opsA P ops l cx call)) fun g => ocase (wantG g ops reg loc) (.fail 203) (oneG P o cx call reg loc h dfr (opsA P ops l cx call)) := rfl
theorem opsA_ok (X : FnsOk P) {n : Nat} {J : Rho → Heap → World → Prop} (B : Base n J) {call : CallF} (C : CallOk P J call) {ops : Array Oper} (hops : ops.toList.all (operOk n) = true) {cx : Cx} {Q : AX × St → Prop} {ρ0 : Rho} {h0 : Heap} {w0 : World} (G : J ρ0 h0 w0) :
    ∀ (l : List Oper) (i : Nat), ops.toList.drop i = l → ∀ (ρ : Rho) (reg : T AV) (loc : Loc) (h : Heap) (dfr : Dfr) (a : Act) (w : World), (opsA P ops.toList l cx call reg loc h dfr).all Q → RegOk ρ cx reg loc a.tmps → DR ρ dfr a.defers →
      Sim ρ h w → Ext ρ0 h0 w0 ρ h w → wpOps P ops (Post ρ0 h0 w0 cx Q) (List.range' i l.length) a w := by
  intro l
  induction l with
  | nil =>
    intro i _ ρ reg loc h dfr a w hq R D s E
    exact ⟨(.normal, ⟨reg, loc, h, dfr⟩), ρ, hq, trivial, ⟨R, D⟩, s, E⟩
  | cons o l ih =>
    intro i hi ρ reg loc h dfr a w hq R D s E
    have hio : ops[i]? = some o := by
      have : (ops.toList.drop i)[0]? = some o := by rw [hi]; rfl
      rw [List.getElem?_drop] at this
      simpa using this
    have hin : ops.toList.drop (i + 1) = l := by
      have : (ops.toList.drop i).drop 1 = l := by rw [hi]; rfl
      rw [List.drop_drop] at this
      exact this
    have hoo : operOk n o = true := List.all_eq_true.1 hops o (by
      have : o ∈ ops.toList.drop i := by rw [hi]; exact List.mem_cons_self ..
      exact List.mem_of_mem_drop this)
    rw [opsA_cons] at hq
    show wpOps P ops (Post ρ0 h0 w0 cx Q) (i :: List.range' (i + 1) l.length) a w
    have next : ∀ ρ' reg' loc' h' dfr' a' w', (opsA P ops.toList l cx call reg' loc' h' dfr').all Q → RegOk ρ' cx reg' loc' a'.tmps → DR ρ' dfr' a'.defers → Sim ρ' h' w' → Ext ρ0 h0 w0 ρ' h' w' →
        wpOps P ops (Post ρ0 h0 w0 cx Q) (List.range' (i + 1) l.length) a' w' := fun ρ' reg' loc' h' dfr' a' w' g1 g2 g3 g4 g5 => ih (i + 1) hin ρ' reg' loc' h' dfr' a' w' g1 g2 g3 g4 g5
    have op : (contR (opF o.op P (ev reg loc) h) o.dst cx call reg loc dfr (opsA P ops.toList l cx call)).all Q → o.wp P a w (wpOps P ops (Post ρ0 h0 w0 cx Q) (List.range' (i + 1) l.length)) (Post ρ0 h0 w0 cx Q) := fun hq =>
      contR_ok C (B.mono G E) (opF_ok X s o (evOn (B.gr (B.mono G E)) R hoo)) R D s E hq next (fun _ _ h => h)
    simp only [wpOps, hio]
    cases hg : o.guard with
    | none =>
      rw [hg, ocase_none] at hq
      have hw : Region.wanted o (yielded ops a.tmps) = true := by unfold Region.wanted; rw [hg]
      rw [if_pos hw]
      exact .inl (op hq)
    | some g =>
      rw [hg, ocase_some] at hq
      cases hw : wantG g ops.toList reg loc with
      | none => rw [hw] at hq; exact hq.elim
      | some b =>
        rw [hw, ocase_some] at hq
        have hwt := want_ok hg (tmps := a.tmps) (fun og d v _ _ hv => R.look hv) hw
        unfold oneG at hq
        cases b with
        | true => rw [if_pos hwt]; exact .inl (op hq)
        | false =>
          rw [hwt]
          rw [bcase_false] at hq
          obtain ⟨reg', loc', h1, _, _, _, h2⟩ := putK_all hq
          refine next ρ reg' loc' h dfr _ w h1 (h2 ρ a.tmps undef R (undef_VR _) a.defers) ?_ s E
          cases o.dst <;> exact D
end
end Go.Ev

namespace Go.Ev
open Go
section
variable {P : Program}

theorem bit_eq (i m : Nat) : bit i m = m.testBit i := by
  unfold bit
  rw [Bool.eq_iff_iff, nbeq_iff]
  have h1 : Nat.land (Nat.shiftRight m i) 1 = (m >>> i) % 2 := Nat.and_one_is_mod _
  rw [h1, Nat.testBit_eq_decide_div_mod_eq, Nat.shiftRight_eq_div_pow, decide_eq_true_iff]
theorem bit_zero (i : Nat) : bit i 0 = false := by rw [bit_eq]; simp
theorem bit_or (i a b : Nat) : bit i (Nat.lor a b) = (bit i a || bit i b) := by rw [bit_eq, bit_eq, bit_eq]; exact Nat.testBit_or ..
theorem bit_one (i j : Nat) : bit i (Nat.shiftLeft 1 j) = decide (j = i) := by
  rw [bit_eq]
  have : Nat.shiftLeft 1 j = 2 ^ j := by show 1 <<< j = _; rw [Nat.shiftLeft_eq, Nat.one_mul]
  rw [this, Nat.testBit_two_pow]

theorem befE_nil (ms : List Nat) : befE [] ms = 0 := rfl
theorem befE_cons (e : Edge) (es : List Edge) (ms : List Nat) : befE (e :: es) ms = bif Region.binds .any e then Nat.lor (Nat.lor (Nat.shiftLeft 1 e.on) (nthN ms e.on)) (befE es ms) else befE es ms := rfl
theorem befE_bit (ms : List Nat) (j : Nat) : ∀ es : List Edge, bit j (befE es ms) = true ↔ ∃ e ∈ es, Region.binds .any e = true ∧ (e.on = j ∨ bit j (nthN ms e.on) = true)
  | [] => by rw [befE_nil, bit_zero]; simp
  | e :: es => by
    rw [befE_cons]
    have ih := befE_bit ms j es
    cases hb : Region.binds .any e with
    | true =>
      rw [cond_true, bit_or, bit_or, bit_one, Bool.or_eq_true, Bool.or_eq_true, ih]
      constructor
      · rintro ((h | h) | ⟨e', h1, h2⟩)
        · exact ⟨e, by simp, hb, .inl (by simpa using h)⟩
        · exact ⟨e, by simp, hb, .inr h⟩
        · exact ⟨e', by simp [h1], h2⟩
      · rintro ⟨e', h1, h2, h3⟩
        rcases List.mem_cons.1 h1 with rfl | h1
        · rcases h3 with h3 | h3
          · exact .inl (.inl (by simpa using h3))
          · exact .inl (.inr h3)
        · exact .inr ⟨e', h1, h2, h3⟩
    | false =>
      rw [cond_false, ih]
      constructor
      · rintro ⟨e', h1, h2⟩; exact ⟨e', by simp [h1], h2⟩
      · rintro ⟨e', h1, h2, h3⟩
        rcases List.mem_cons.1 h1 with rfl | h1
        · rw [hb] at h2; cases h2
        · exact ⟨e', h1, h2, h3⟩
theorem befL_nil (ms : List Nat) : befL [] ms = ms := rfl
theorem befL_cons (o : Oper) (l : List Oper) (ms : List Nat) : befL (o :: l) ms = befL l (ms ++ [befE o.after.toList ms]) := rfl
theorem befL_pre : ∀ (l : List Oper) (ms : List Nat), ∃ r, befL l ms = ms ++ r ∧ r.length = l.length
  | [], ms => ⟨[], by rw [befL_nil]; simp, rfl⟩
  | o :: l, ms => by
    obtain ⟨r, h, hl⟩ := befL_pre l (ms ++ [befE o.after.toList ms])
    exact ⟨befE o.after.toList ms :: r, by rw [befL_cons, h]; simp, by simp [hl]⟩
theorem befL_get : ∀ (l : List Oper) (ms : List Nat) (j : Nat) (o : Oper), l[j]? = some o → (befL l ms)[ms.length + j]? = some (befE o.after.toList ((befL l ms).take (ms.length + j)))
  | [], _, j, o, h => by simp at h
  | o' :: l, ms, 0, o, h => by
    have : o' = o := by simpa using h
    subst this
    obtain ⟨r, h1, _⟩ := befL_pre l (ms ++ [befE o'.after.toList ms])
    rw [befL_cons, h1]
    simp
  | o' :: l, ms, j + 1, o, h => by
    have ih := befL_get l (ms ++ [befE o'.after.toList ms]) j o (by simpa using h)
    rw [List.length_append, List.length_singleton] at ih
    rw [befL_cons]
    have e : ms.length + (j + 1) = ms.length + 1 + j := by omega
    rw [e]; exact ih
theorem befL_len (l : List Oper) : (befL l []).length = l.length := by obtain ⟨r, h, hl⟩ := befL_pre l []; rw [h]; simpa using hl
def Shut (ops : Array Oper) (S : Nat → Prop) : Prop := ∀ (i : Nat) (o : Oper), ops[i]? = some o → S i → ∀ e ∈ o.after, Region.binds .any e = true → S e.on
theorem mask_shut {ops : Array Oper} {S : Nat → Prop} (hS : Shut ops S) : ∀ (i : Nat) (o : Oper) (m : Nat), ops[i]? = some o → (befL ops.toList [])[i]? = some m → (∀ e ∈ o.after, Region.binds .any e = true → S e.on) → ∀ j, bit j m = true → S j := by
  intro i
  induction i using Nat.strongRecOn with
  | _ i ih =>
    intro o m ho hm hd j hj
    have h1 := befL_get ops.toList [] i o (by rw [Array.getElem?_toList]; exact ho)
    rw [List.length_nil, Nat.zero_add, hm] at h1
    cases h1
    obtain ⟨e, h2, h3, h4⟩ := (befE_bit _ _ _).1 hj
    have h2 : e ∈ o.after := Array.mem_toList_iff.1 h2
    rcases h4 with h4 | h4
    · subst h4; exact hd e h2 h3
    · have hlt : e.on < i := by
        rcases Nat.lt_or_ge e.on i with h5 | h5
        · exact h5
        · have : nthN ((befL ops.toList []).take i) e.on = 0 := by
            unfold nthN; rw [List.getElem?_take, if_neg (by omega)]; rfl
          rw [this, bit_zero] at h4; cases h4
      have hn : i < (befL ops.toList []).length := by
        rcases Nat.lt_or_ge i (befL ops.toList []).length with h5 | h5
        · exact h5
        · rw [List.getElem?_eq_none h5] at hm; cases hm
      have hsz : ∃ m', (befL ops.toList [])[e.on]? = some m' := ⟨(befL ops.toList [])[e.on]'(by omega), List.getElem?_eq_getElem (by omega)⟩
      obtain ⟨m', hm'⟩ := hsz
      have hso : ∃ o', ops[e.on]? = some o' := by
        have : e.on < ops.size := by rw [befL_len] at hn; simp at hn; omega
        exact ⟨ops[e.on], by simp [this]⟩
      obtain ⟨o', ho'⟩ := hso
      have e1 : nthN ((befL ops.toList []).take i) e.on = m' := by
        unfold nthN; rw [List.getElem?_take, if_pos hlt, hm']; rfl
      rw [e1] at h4
      have hSe := hd e h2 h3
      exact ih e.on hlt o' m' ho' hm' (fun e' h6 h7 => hS e.on o' ho' hSe e' h6 h7) j h4

def Src (ops : Array Oper) (p : PL) : Prop := ops[p.i]? = some p.o ∧ (befL ops.toList [])[p.i]? = some p.m
theorem rawL_cons (o : Oper) (l : List Oper) (m : Nat) (ms : List Nat) (i : Nat) : rawL P (o :: l) (m :: ms) i = ⟨o, i, m, kind0 P o.op⟩ :: rawL P l ms (i + 1) := rfl
theorem rawL_src : ∀ (l : List Oper) (ms : List Nat) (i : Nat), ∀ p ∈ rawL P l ms i, ∃ j, p.i = i + j ∧ l[j]? = some p.o ∧ ms[j]? = some p.m
  | [], _, _, p, h => by cases h
  | _ :: _, [], _, p, h => by cases h
  | o :: l, m :: ms, i, p, h => by
    rw [rawL_cons] at h
    rcases List.mem_cons.1 h with rfl | h
    · exact ⟨0, rfl, rfl, rfl⟩
    · obtain ⟨j, h1, h2, h3⟩ := rawL_src l ms (i + 1) p h
      exact ⟨j + 1, by omega, by simpa using h2, by simpa using h3⟩
theorem Src.same {ops : Array Oper} {p : PL} (h : Src ops p) (k : Nat) : Src ops ⟨p.o, p.i, p.m, k⟩ := h
theorem promote_cons (p : PL) (l acc : List PL) : promote (p :: l) acc = bcase (Nat.beq p.k 2) (bcase (acc.all (cmpble p)) (⟨p.o, p.i, p.m, 3⟩ :: promote l (p :: acc)) (p :: promote l acc)) (p :: promote l acc) := rfl
theorem promote_src {ops : Array Oper} : ∀ (l acc : List PL), (∀ p ∈ l, Src ops p) → ∀ p ∈ promote l acc, Src ops p
  | [], _, _, p, h => by cases h
  | q :: l, acc, hl, p, h => by
    have h1 := hl q (by simp)
    have h2 : ∀ p ∈ l, Src ops p := fun p hp => hl p (by simp [hp])
    rw [promote_cons] at h
    cases hb : Nat.beq q.k 2 with
    | true =>
      rw [hb, bcase_true] at h
      cases hc : acc.all (cmpble q) with
      | true =>
        rw [hc, bcase_true] at h
        rcases List.mem_cons.1 h with rfl | h
        · exact h1.same 3
        · exact promote_src l _ h2 p h
      | false =>
        rw [hc, bcase_false] at h
        rcases List.mem_cons.1 h with rfl | h
        · exact h1
        · exact promote_src l _ h2 p h
    | false =>
      rw [hb, bcase_false] at h
      rcases List.mem_cons.1 h with rfl | h
      · exact h1
      · exact promote_src l _ h2 p h
theorem settle1_src {ops : Array Oper} {acts : List PL} {p : PL} (h : Src ops p) : Src ops (settle1 acts p) := by
  unfold settle1
  cases Nat.beq p.k 0 with
  | true =>
    rw [bcase_true]
    cases acts.all (cmpble p) with
    | true => exact h
    | false => exact h.same 1
  | false => exact h
theorem goE_zero (w : Nat) (l : List PL) (d : Nat) : goE w 0 l d = l := rfl
theorem goE_succ (w f : Nat) (l : List PL) (d : Nat) : goE w (f + 1) l d = l.filter (isEarly w d) ++ lcase (l.filter fun p => !(isEarly w d p)) [] fun p r => p :: goE w f r (Nat.lor d (Nat.shiftLeft 1 p.i)) := rfl
theorem goE_sub (w : Nat) : ∀ (f : Nat) (l : List PL) (d : Nat), ∀ p ∈ goE w f l d, p ∈ l
  | 0, l, d, p, h => by rw [goE_zero] at h; exact h
  | f + 1, l, d, p, h => by
    rw [goE_succ] at h
    rcases List.mem_append.1 h with h | h
    · exact (List.mem_filter.1 h).1
    · cases hq : l.filter (fun p => !(isEarly w d p)) with
      | nil => rw [hq] at h; cases h
      | cons q r =>
        rw [hq, lcase_cons] at h
        have hin : ∀ x ∈ q :: r, x ∈ l := fun x hx => by rw [← hq] at hx; exact (List.mem_filter.1 hx).1
        rcases List.mem_cons.1 h with rfl | h
        · exact hin _ (by simp)
        · exact hin _ (by simp [goE_sub w f r _ p h])
theorem planOf_src (ops : Array Oper) : ∀ p ∈ planOf P ops.toList, Src ops p := by
  intro p hp
  unfold planOf planR planQ planS at hp
  have h1 := goE_sub _ _ _ _ p hp
  obtain ⟨q, h2, rfl⟩ := List.mem_map.1 h1
  refine settle1_src (promote_src _ _ (fun r hr => ?_) q h2)
  obtain ⟨j, h3, h4, h5⟩ := rawL_src _ _ _ r hr
  rw [Nat.zero_add] at h3
  exact ⟨by rw [h3, ← Array.getElem?_toList]; exact h4, by rw [h3]; exact h5⟩

theorem pairsOk_cons (ops : List Oper) (x : PL) (l : List PL) : pairsOk ops (x :: l) = (l.all (pairOk ops x) && pairsOk ops l) := rfl
theorem pairsOk_iff (ops : List Oper) : ∀ l : List PL, pairsOk ops l = true → l.Pairwise (fun x y => pairOk ops x y = true)
  | [], _ => .nil
  | x :: l, h => by
    rw [pairsOk_cons, Bool.and_eq_true] at h
    exact .cons (fun y hy => List.all_eq_true.1 h.1 y hy) (pairsOk_iff ops l h.2)
theorem edgesDown_cons (o : Oper) (l : List Oper) (i : Nat) : edgesDown (o :: l) i = bif o.after.toList.all (fun e => !(Region.binds .any e) || Nat.ble (Nat.add e.on 1) i) then edgesDown l (i + 1) else false := rfl
theorem edgesDown_iff : ∀ (l : List Oper) (i : Nat), edgesDown l i = true → ∀ j o, l[j]? = some o → ∀ e ∈ o.after, Region.binds .any e = true → e.on < i + j
  | [], _, _, j, o, h, _, _, _ => by simp at h
  | o' :: l, i, he, j, o, h, e, h1, h2 => by
    rw [edgesDown_cons] at he
    cases hc : o'.after.toList.all (fun e => !(Region.binds .any e) || Nat.ble (Nat.add e.on 1) i) with
    | false => rw [hc] at he; cases he
    | true =>
      rw [hc, cond_true] at he
      cases j with
      | zero =>
        have : o' = o := by simpa using h
        subst this
        have h3 := List.all_eq_true.1 hc e (Array.mem_toList_iff.2 h1)
        rw [h2, Bool.not_true, Bool.false_or, Nat.ble_eq] at h3
        have h3 : e.on + 1 ≤ i := h3
        omega
      | succ j =>
        have := edgesDown_iff l (i + 1) he j o (by simpa using h) e h1 h2
        omega

structure Plan (P : Program) (ops : Array Oper) (pl : List PL) : Prop where
  src : ∀ p ∈ pl, ops[p.i]? = some p.o
  edge : ∀ p ∈ pl, ∀ e ∈ p.o.after, Region.binds .any e = true → bit e.on p.m = true
  shut : ∀ S, Shut ops S → ∀ p ∈ pl, (∀ e ∈ p.o.after, Region.binds .any e = true → S e.on) → ∀ j, bit j p.m = true → S j
  pairs : pl.Pairwise (fun x y => pairOk ops.toList x y = true)
  kinds : ∀ p ∈ pl, kindOk P p = true
  all : ∀ i, i < ops.size → ∃ p ∈ pl, p.i = i
  down : ∀ (i : Nat) (o : Oper), ops[i]? = some o → ∀ e ∈ o.after, Region.binds .any e = true → e.on < i
theorem planOk_plan {ops : Array Oper} (h : planOk P ops.toList = true) : Plan P ops (planOf P ops.toList) := by
  unfold planOk at h
  rw [Bool.and_eq_true, Bool.and_eq_true, Bool.and_eq_true] at h
  obtain ⟨h1, h2, h3, h4⟩ := h
  refine ⟨fun p hp => (planOf_src ops p hp).1, fun p hp e he hb => ?_, fun S hS p hp hd j hj => mask_shut hS p.i p.o p.m (planOf_src ops p hp).1 (planOf_src ops p hp).2 hd j hj, pairsOk_iff _ _ h2, fun p hp => List.all_eq_true.1 h3 p hp, fun i hi => ?_, fun i o ho e he hb => ?_⟩
  · have hs := planOf_src (P := P) ops p hp
    have h5 := befL_get ops.toList [] p.i p.o (by rw [Array.getElem?_toList]; exact hs.1)
    rw [List.length_nil, Nat.zero_add, hs.2] at h5
    have h6 := Option.some.inj h5
    rw [h6, befE_bit]
    exact ⟨e, Array.mem_toList_iff.2 he, hb, .inl rfl⟩
  · unfold hasAll at h4
    have h5 := List.all_eq_true.1 h4 i (List.mem_range.2 (by simpa using hi))
    obtain ⟨p, h6, h7⟩ := List.any_eq_true.1 h5
    exact ⟨p, h6, nbeq_iff.1 h7⟩
  · have := edgesDown_iff _ _ h1 i o (by rw [Array.getElem?_toList]; exact ho) e he hb
    omega
end
end Go.Ev

namespace Go.Ev
open Go
section
variable {P : Program}

theorem ov_val {h h' : Heap} {o : Option AV} {v : AV} (e : ov h o = .val v h') : o = some v ∧ h' = h := by
  cases o with
  | none => cases e
  | some a => cases e; exact ⟨rfl, rfl⟩
theorem ovh_val {h' : Heap} {o : Option (AV × Heap)} {v : AV} (e : ovh o = .val v h') : o = some (v, h') := by
  cases o with
  | none => cases e
  | some a => cases e; rfl
theorem o1_val {x : Operand} {f : AV → Heap → OpR} {ev : Ev} {h h' : Heap} {v : AV} (e : o1 x f ev h = .val v h') : ∃ u, ev x = some u ∧ f u h = .val v h' := by
  unfold o1 at e
  cases hu : ev x with
  | none => rw [hu] at e; cases e
  | some u => rw [hu] at e; exact ⟨u, rfl, e⟩
theorem o2_val {x y : Operand} {f : AV → AV → Heap → OpR} {ev : Ev} {h h' : Heap} {v : AV} (e : o2 x y f ev h = .val v h') : ∃ u t, ev x = some u ∧ ev y = some t ∧ f u t h = .val v h' := by
  unfold o2 at e
  cases hu : ev x with
  | none => rw [hu] at e; cases e
  | some u =>
    cases ht : ev y with
    | none => rw [hu, ht] at e; cases e
    | some t => rw [hu, ht] at e; exact ⟨u, t, rfl, rfl, e⟩

def Same (h g : Heap) : Prop := h.bl = g.bl
theorem Same.get {h g : Heap} (s : Same h g) (b : Nat) : h.get b = g.get b := by unfold Heap.get; rw [s]
theorem ov_same {h g : Heap} {o : Option AV} {v : AV} {h' : Heap} (e : ov h o = .val v h') : h' = h ∧ ov g o = .val v g := by
  obtain ⟨h1, h2⟩ := ov_val e
  subst h1; exact ⟨h2, rfl⟩
theorem o1_same {x : Operand} {f g : AV → Heap → OpR} {ev : Ev} {h h2 h' : Heap} {v : AV} (hf : ∀ u, f u h = .val v h' → h' = h ∧ g u h2 = .val v h2) (e : o1 x f ev h = .val v h') : h' = h ∧ o1 x g ev h2 = .val v h2 := by
  obtain ⟨u, h1, h3⟩ := o1_val e
  obtain ⟨h4, h5⟩ := hf u h3
  exact ⟨h4, by unfold o1; rw [h1]; exact h5⟩
theorem o2_same {x y : Operand} {f g : AV → AV → Heap → OpR} {ev : Ev} {h h2 h' : Heap} {v : AV} (hf : ∀ u t, f u t h = .val v h' → h' = h ∧ g u t h2 = .val v h2) (e : o2 x y f ev h = .val v h') : h' = h ∧ o2 x y g ev h2 = .val v h2 := by
  obtain ⟨u, t, h1, h1', h3⟩ := o2_val e
  obtain ⟨h4, h5⟩ := hf u t h3
  exact ⟨h4, by unfold o2; rw [h1, h1']; exact h5⟩

theorem loadA_same {h g : Heap} (s : Same h g) (t : TypeId) (p : AV) : loadA P h t p = loadA P g t p := by unfold loadA; simp only [s.get]
theorem lookupA_same {h g : Heap} (s : Same h g) (t : TypeId) (x k : AV) (ok : Bool) : lookupA P h t x k ok = lookupA P g t x k ok := by unfold lookupA; simp only [s.get]
theorem entryA_same {h g : Heap} (s : Same h g) (x : AV) : entryA h x = entryA g x := by unfold entryA; simp only [s.get]
theorem elemsA_same {h g : Heap} (s : Same h g) (n : Nat) (x : AV) : elemsA h n x = elemsA g n x := by unfold elemsA; simp only [s.get]
theorem lenA_same {h g : Heap} (s : Same h g) (t : TypeId) (x : AV) : lenA P h t x = lenA P g t x := by unfold lenA mapLen; simp only [s.get]
theorem convV_same {h g : Heap} (s : Same h g) (src dst : TypeId) (x : AV) : convV P h src dst x = convV P g src dst x := by unfold convV; simp only [s.get, elemsA_same s]

theorem read_same {h g : Heap} (s : Same h g) (o : Op) (hr : isRop P o = true) {ev : Ev} {v : AV} {h' : Heap} (e : opF o P ev h = .val v h') : h' = h ∧ opF o P ev g = .val v g := by
  cases o
  case ready a => cases e
  case waits a => cases e
  case sliceToArrayPointer a b => cases e
  case makeChan a b => cases e
  case go a => cases e
  case send a b => cases e
  case recv a b c => cases e
  case select a b => cases e
  case alloc t => exact Bool.noConfusion (show false = true from hr)
  case box t x => exact Bool.noConfusion (show false = true from hr)
  case buildSlice t n ps => exact Bool.noConfusion (show false = true from hr)
  case makeMap t r => exact Bool.noConfusion (show false = true from hr)
  case makeSlice t l c => exact Bool.noConfusion (show false = true from hr)
  case store t a x => exact Bool.noConfusion (show false = true from hr)
  case mapUpdate t a b c => exact Bool.noConfusion (show false = true from hr)
  case insert t a b c => exact Bool.noConfusion (show false = true from hr)
  case mapEntry t a b => exact Bool.noConfusion (show false = true from hr)
  case entryStore t a b c => exact Bool.noConfusion (show false = true from hr)
  case next a b => exact Bool.noConfusion (show false = true from hr)
  case range a b => exact Bool.noConfusion (show false = true from hr)
  case defer c => exact Bool.noConfusion (show false = true from hr)
  case panic x => exact Bool.noConfusion (show false = true from hr)
  case move x =>
    have e : opMove x ev h = .val v h' := e
    show h' = h ∧ opMove x ev g = .val v g
    unfold opMove at e ⊢
    cases hx : ev x with
    | none => rw [hx] at e; cases e
    | some u => rw [hx] at e; cases e; exact ⟨rfl, rfl⟩
  case assign x =>
    have e : opMove x ev h = .val v h' := e
    show h' = h ∧ opMove x ev g = .val v g
    unfold opMove at e ⊢
    cases hx : ev x with
    | none => rw [hx] at e; cases e
    | some u => rw [hx] at e; cases e; exact ⟨rfl, rfl⟩
  case pick c a b =>
    have e : opPick c a b ev h = .val v h' := e
    show h' = h ∧ opPick c a b ev g = .val v g
    unfold opPick at e ⊢
    cases hc : ev c with
    | none => rw [hc] at e; cases e
    | some u =>
      rw [hc, ocase_some] at e
      rw [ocase_some]
      cases ht : Ev.asBool u with
      | none => rw [ht] at e; cases e
      | some t =>
        rw [ht, ocase_some] at e
        rw [ocase_some]
        have mv : ∀ x, opMove x ev h = .val v h' → h' = h ∧ opMove x ev g = .val v g := fun x e => by
          unfold opMove at e ⊢
          cases hx : ev x with
          | none => rw [hx] at e; cases e
          | some u => rw [hx] at e; cases e; exact ⟨rfl, rfl⟩
        cases t with
        | true => exact mv a e
        | false => exact mv b e
  case build t ps =>
    have e : opBuild t ps.toList P ev h = .val v h' := e
    show h' = h ∧ opBuild t ps.toList P ev g = .val v g
    unfold opBuild at e ⊢
    cases hm : mapOpt ps.toList ev with
    | none => rw [hm] at e; cases e
    | some l => rw [hm, ocase_some] at e; rw [ocase_some]; exact ov_same e
  case load t a =>
    have e : o1 a (fun p h => ov h (loadA P h t p)) ev h = .val v h' := e
    exact o1_same (f := fun p h => ov h (loadA P h t p)) (g := fun p h => ov h (loadA P h t p)) (fun u e => by rw [← loadA_same s]; exact ov_same e) e
  case nilCheck x => exact o1_same (f := fun v h => ov h (nilCheckA v)) (g := fun v h => ov h (nilCheckA v)) (fun u e => ov_same e) e
  case binOp op t x y _ => exact o2_same (f := fun a b h => ov h (binOpA P op t x y a b)) (g := fun a b h => ov h (binOpA P op t x y a b)) (fun u t e => ov_same e) e
  case unOp op _ x => exact o1_same (f := fun v h => ov h (unOpA op v)) (g := fun v h => ov h (unOpA op v)) (fun u e => ov_same e) e
  case convert src dst x =>
    have hc : isConvA P src dst = false := by
      have hr : bcase (isConvA P src dst) false true = true := hr
      cases hc : isConvA P src dst with
      | false => rfl
      | true => rw [hc] at hr; cases hr
    refine o1_same (f := fun v h => ovh (convertA P h src dst v)) (g := fun v h => ovh (convertA P h src dst v)) (fun u e => ?_) e
    have e := ovh_val e
    unfold convertA at e ⊢
    rw [hc, bcase_false] at e
    rw [hc, bcase_false, ← convV_same s]
    obtain ⟨a, h1, e⟩ := ocase_some_iff.1 e
    cases e
    rw [h1]; exact ⟨rfl, rfl⟩
  case makeInterface t x =>
    refine o1_same (f := mkIface P t) (g := mkIface P t) (fun u e => ?_) e
    unfold mkIface at e ⊢
    split at e
    · cases e
    · cases e; exact ⟨rfl, rfl⟩
    · cases e
  case makeFunc fn fs cs =>
    have e : opMakeFunc fn fs.toList cs.toList P ev h = .val v h' := e
    show h' = h ∧ opMakeFunc fn fs.toList cs.toList P ev g = .val v g
    unfold opMakeFunc at e ⊢
    split at e
    · split at e
      · cases e; exact ⟨rfl, rfl⟩
      · cases e
    · cases e
  case slice t x lo hi mx =>
    have e : opSlice t x lo hi mx P ev h = .val v h' := e
    show h' = h ∧ opSlice t x lo hi mx P ev g = .val v g
    unfold opSlice at e ⊢
    split at e
    · split at e
      · split at e
        · split at e
          · exact ov_same e
          · cases e
        · cases e
      · cases e
    · cases e
  case fieldAddr t x f => exact o1_same (f := fun v h => ov h (fieldAddrA P t v f)) (g := fun v h => ov h (fieldAddrA P t v f)) (fun u e => ov_same e) e
  case field t x f => exact o1_same (f := fun v h => ov h (fieldA P t v f)) (g := fun v h => ov h (fieldA P t v f)) (fun u e => ov_same e) e
  case indexAddr t x i => exact o2_same (f := fun a b h => ov h (indexAddrA P t a b)) (g := fun a b h => ov h (indexAddrA P t a b)) (fun u t e => ov_same e) e
  case index t x i => exact o2_same (f := fun a b h => ov h (indexA P t a b)) (g := fun a b h => ov h (indexA P t a b)) (fun u t e => ov_same e) e
  case lookup t x i ok => exact o2_same (f := fun a b h => ov h (lookupA P h t a b ok)) (g := fun a b h => ov h (lookupA P h t a b ok)) (fun u t e => by rw [← lookupA_same s]; exact ov_same e) e
  case entry it => exact o1_same (f := fun v h => ov h (entryA h v)) (g := fun v h => ov h (entryA h v)) (fun u e => by rw [← entryA_same s]; exact ov_same e) e
  case typeAssert x xt t ok => exact o1_same (f := fun v h => ov h (typeAssertA P v t ok)) (g := fun v h => ov h (typeAssertA P v t ok)) (fun u e => ov_same e) e
  case extract t i =>
    refine o1_same (f := opExtract i) (g := opExtract i) (fun u e => ?_) e
    unfold opExtract at e ⊢
    cases hl : asTuple u with
    | none => rw [hl] at e; cases e
    | some l => rw [hl, ocase_some] at e; rw [ocase_some]; exact ov_same e
  case call c =>
    obtain ⟨cal, args, ts⟩ := c
    cases cal with
    | invoke r n => exact Bool.noConfusion (show false = true from hr)
    | value f => exact Bool.noConfusion (show false = true from hr)
    | builtin b =>
      have e : (match evs args.toList ev with | some l => builtinF b P ts.toList l h | none => .bad 42) = OpR.val v h' := e
      show h' = h ∧ (match evs args.toList ev with | some l => builtinF b P ts.toList l g | none => .bad 42) = OpR.val v g
      cases hl : evs args.toList ev with
      | none => rw [hl] at e; cases e
      | some l =>
        rw [hl] at e
        simp only at e ⊢
        cases b <;> first | (exact Bool.noConfusion (show false = true from hr)) | skip
        case len =>
          have e : biLen P ts.toList l h = .val v h' := e
          show h' = h ∧ biLen P ts.toList l g = .val v g
          unfold biLen at e ⊢
          split at e
          · rw [← lenA_same s]; exact ov_same e
          · cases e
        case cap =>
          have e : biCap P ts.toList l h = .val v h' := e
          show h' = h ∧ biCap P ts.toList l g = .val v g
          unfold biCap at e ⊢
          split at e
          · exact ov_same e
          · cases e
        case min =>
          have e : biMin l h = .val v h' := e
          show h' = h ∧ biMin l g = .val v g
          unfold biMin at e ⊢
          exact ov_same e
        case max =>
          have e : biMax l h = .val v h' := e
          show h' = h ∧ biMax l g = .val v g
          unfold biMax at e ⊢
          exact ov_same e
        case unsafeSliceData =>
          have e : biSliceData l h = .val v h' := e
          show h' = h ∧ biSliceData l g = .val v g
          unfold biSliceData at e ⊢
          split at e
          · cases hk : Nat.ble 1 _ with
            | false => rw [hk] at e; cases e
            | true => rw [hk] at e; cases e; exact ⟨rfl, rfl⟩
          · cases hk : Nat.ble 1 _ with
            | false => rw [hk] at e; cases e
            | true => rw [hk] at e; cases e; exact ⟨rfl, rfl⟩
          · cases e; exact ⟨rfl, rfl⟩
          · cases e
theorem valOf_some {r : OpR} {v : AV} (h : valOf r = some v) : ∃ h', r = .val v h' := by
  cases r <;> first | (cases h; exact ⟨_, rfl⟩) | cases h
theorem readA_same {h g : Heap} (s : Same h g) {o : Oper} (hr : isRop P o.op = true) {reg : T AV} {loc : Loc} {v : AV} (e : readA P reg loc h o = some v) : opF o.op P (ev reg loc) h = .val v h ∧ readA P reg loc g o = some v := by
  unfold readA at e ⊢
  obtain ⟨h', e⟩ := valOf_some e
  obtain ⟨h1, h2⟩ := read_same s o.op hr e
  subst h1
  exact ⟨e, by rw [h2]; rfl⟩
end
end Go.Ev

namespace Go.Ev
open Go
section
variable {P : Program}

def AlOk (P : Program) (ρ : Rho) (w : World) (id : Nat) (v : AV) (x : ABlk) (s : Sem Next) : Prop :=
  ∃ v' o c w1, s.run P w = .ok (.value v') { w1 with heap := w1.heap.push o } ∧ (w1 = w ∨ ∃ k, w1 = { w with drawn := k }) ∧ ∀ ρ', Rle ρ ρ' → ρ' id = some (w.heap.size, c) → VR ρ' v v' ∧ BR ρ' c x o

theorem row_BR {ρ : Rho} {l : List AV} {arr : Array Value} {t : TypeId} {k : BK} (hl : VRL ρ l arr.toList) {ρ' : Rho} (hle : Rle ρ ρ') : BR ρ' arr.size (.cells (setL l 0 .e) (lenL l) t k) (.cells arr t) := by
  have hlen : arr.size = l.length := by have := hl.length; simpa using this
  exact ⟨arr, 0, 0, rfl, .inl (Nat.le_refl _), rfl, by rw [lenL_eq]; omega, fun _ => by rw [lenL_eq]; omega, fun i a hi => by
      rw [get_setL] at hi
      by_cases hc : 0 ≤ i ∧ i < 0 + l.length
      · rw [if_pos hc, Nat.sub_zero] at hi
        obtain ⟨v, h1, h2⟩ := (VRL.mono hle _ _ hl).get _ _ hi
        exact ⟨v, by simpa using h1, h2⟩
      · rw [if_neg hc, T.get_e] at hi; exact absurd hi (by simp), fun i a hi => by
      rw [get_setL] at hi
      by_cases hc : 0 ≤ i ∧ i < 0 + l.length
      · rw [lenL_eq]; omega
      · rw [if_neg hc, T.get_e] at hi; cases hi⟩
theorem wr_row (l : List AV) (t : TypeId) (n : Nat) : wr (.cells (setL l 0 .e) n t .ex) = true := rfl
theorem run_newRow (w : World) (t : TypeId) (arr : Array Value) : (newRow t arr).run P w = .ok ⟨w.heap.size, 0, none⟩ { w with heap := w.heap.push (.cells arr t) } := rfl
theorem AlOk.row {ρ : Rho} {w : World} {id : Nat} {v : AV} {l : List AV} {t : TypeId} {k : BK} {arr : Array Value} {s : Sem Next} {v' : Value} (hl : VRL ρ l arr.toList)
    (hrun : s.run P w = .ok (.value v') { w with heap := w.heap.push (.cells arr t) }) (hv : ∀ ρ' : Rho, ρ' id = some (w.heap.size, arr.size) → VR ρ' v v') : AlOk P ρ w id v (.cells (setL l 0 .e) (lenL l) t k) s :=
  ⟨v', .cells arr t, arr.size, w, hrun, .inl rfl, fun ρ' hle hid => ⟨hv ρ' hid, row_BR hl hle⟩⟩

theorem new_ok (o : Oper) (hr : isAop P o.op = true) {ev : Ev} {h h' : Heap} {v : AV} (e : opF o.op P ev h = .val v h') :
    ∃ x, h' = h.new x ∧ wr x = true ∧ ∀ (ρ : Rho) (w : World) (f : Operand → Value), EvOn ρ o.op.operands.toList ev f → AlOk P ρ w h.next v x (execOp f o) := by
  obtain ⟨dst, op, ty, pos, after, guard⟩ := o
  cases op <;> first | (exact Bool.noConfusion (show false = true from hr)) | skip
  case alloc t =>
    have e : ovh (allocA P h t) = .val v h' := e
    have e := ovh_val e
    unfold allocA at e
    obtain ⟨z, hz, e⟩ := ocase_some_iff.1 e
    obtain ⟨e1, e⟩ := bcase_none_iff.1 e
    cases e
    refine ⟨_, rfl, wr_row _ _ _, fun ρ w f _ => ?_⟩
    obtain ⟨u, hv1, hv2⟩ := run_zeroValue' (P := P) hz w
    refine AlOk.row (arr := u.cells) (v' := .pointer (some ⟨w.heap.size, 0, none⟩)) (cells_VR (hv2 ρ)) ?_ (fun ρ' h => VR.ptr_iff.2 ⟨_, _, h, rfl⟩)
    show (do pure (.value (← Instr.alloc t true (.tuple #[]))) : Sem Next).run P w = _
    unfold Instr.alloc newVar
    simp only [Sem.run_bind, hv1, Result.andThen_ok, if_true, run_newRow, Sem.run_pure]
  case box t x =>
    have e : o1 x (boxA t) ev h = .val v h' := e
    obtain ⟨u, hu, e⟩ := o1_val e
    unfold boxA at e
    cases hc : allOne u.cells with
    | false => rw [hc] at e; cases e
    | true =>
      rw [hc, bcase_true] at e
      cases e
      refine ⟨_, rfl, wr_row _ _ _, fun ρ w f he => ?_⟩
      refine AlOk.row (arr := (f x).cells) (v' := .pointer (some ⟨w.heap.size, 0, none⟩)) (cells_VR (he x (by simp [Op.operands]) u hu)) ?_ (fun ρ' h => VR.ptr_iff.2 ⟨_, _, h, rfl⟩)
      show (do pure (.value (← Instr.box t (f x))) : Sem Next).run P w = _
      unfold Instr.box newVar
      simp only [Sem.run_bind, Result.andThen_ok, run_newRow, Sem.run_pure]
  case buildSlice t n ps =>
    have e : opBuildSlice t n ps.toList P ev h = .val v h' := e
    unfold opBuildSlice at e
    cases hm : mapOpt ps.toList ev with
    | none => rw [hm] at e; cases e
    | some parts =>
      rw [hm, ocase_some] at e
      have e := ovh_val e
      unfold buildSliceA at e
      obtain ⟨z, hz, e⟩ := ocase_some_iff.1 e
      obtain ⟨l, hl, e⟩ := ocase_some_iff.1 e
      obtain ⟨h1, e⟩ := bcase_none_iff.1 e
      cases e
      refine ⟨_, rfl, wr_row _ _ _, fun ρ w f he => ?_⟩
      have hps : PR ρ parts ((ps.map fun (i, x) => (i, f x)).toList) := by
        have := mapOpt_ok (ρ := ρ) (e := f) ps.toList parts (fun x hx => he x (by simpa [Op.operands] using hx)) hm
        simpa using this
      obtain ⟨hu, hs, hle, hpos, u, hv, hvl, hrep⟩ := slZero_some hz
      obtain ⟨z', hz1, hz2⟩ := run_zeroValue' (P := P) hv w
      have hzc := cells_VR (hz2 ρ)
      have hzs : z'.cells.size = z.2.1 := by rw [← hvl, lenL_eq, ← hzc.length]; simp
      by_cases hn : n = 0
      · subst hn
        have e0 : z.2.2 = [] := hrep
        rw [e0] at hl
        obtain ⟨arr', g1, g2⟩ := fill_ok (place' := fun i => some (i * z.2.1, z.2.1)) (arr := #[]) (fun i p hp => hp) hps VRL.nil hl
        refine AlOk.row (arr := arr') (v' := .slice (some ⟨w.heap.size, 0, none⟩) 0 0) g2 ?_ (fun ρ' h => VR.slice_iff.2 ⟨_, _, h, rfl⟩)
        show (do pure (.value (← Instr.buildSlice t 0 (ps.map fun (i, x) => (i, f x)))) : Sem Next).run P w = _
        unfold Instr.buildSlice
        have e00 : 0 * z.2.1 = 0 := Nat.zero_mul _
        have e01 : ¬ 0 > 2 ^ 24 := by decide
        have e02 : (Array.range 0).map (fun i => (#[] : Array Value)[i % (#[] : Array Value).size]!) = #[] := by simp
        simp only [Sem.run_bind, run_underlying' hu, run_sizeOf' hs, Result.andThen_ok, Sem.run_ite, e00, if_neg e01, if_true, Sem.run_pure, e02, g1, run_newRow]
      · have hne : ¬ n * z.2.1 = 0 := by rw [Nat.mul_eq_zero]; omega
        have hcells : VRL ρ z.2.2 ((Array.range (n * z.2.1)).map (fun i => z'.cells[i % z'.cells.size]!)).toList := by
          rw [← hzs, zeros_eq, hrep]; exact hzc.rep n
        obtain ⟨arr', g1, g2⟩ := fill_ok (place' := fun i => some (i * z.2.1, z.2.1)) (fun i p hp => hp) hps hcells hl
        refine AlOk.row (arr := arr') (v' := .slice (some ⟨w.heap.size, 0, none⟩) n n) g2 ?_ (fun ρ' h => VR.slice_iff.2 ⟨_, _, h, rfl⟩)
        show (do pure (.value (← Instr.buildSlice t n (ps.map fun (i, x) => (i, f x)))) : Sem Next).run P w = _
        unfold Instr.buildSlice
        have hle' : ¬ n * z.2.1 > 2 ^ 24 := by have : (2:Nat)^24 = 16777216 := by decide
                                               omega
        simp only [Sem.run_bind, run_underlying' hu, run_sizeOf' hs, Result.andThen_ok, Sem.run_ite, if_neg hle', if_neg hne, Sem.run_pure, hz1]
        simp only [g1, run_newRow, Sem.run_pure, Sem.run_bind, Result.andThen_ok]
  case makeMap t r =>
    have e : opMakeMap t r P ev h = .val v h' := e
    have key : newMap P t h = .val v h' → (∀ (ρ : Rho) (f : Operand → Value), EvOn ρ (Op.makeMap t r).operands.toList ev f → r = none ∨ ∃ x k n, r = some x ∧ f x = .int k n) → ∃ x, h' = h.new x ∧ wr x = true ∧ ∀ (ρ : Rho) (w : World) (f : Operand → Value), EvOn ρ (Op.makeMap t r).operands.toList ev f → AlOk P ρ w h.next v x (execOp f ⟨dst, .makeMap t r, ty, pos, after, guard⟩) := by
      intro e hx
      unfold newMap at e
      split at e
      · rename_i k el hu
        cases e
        refine ⟨_, rfl, rfl, fun ρ w f he => ?_⟩
        refine ⟨.map (some w.heap.size), .map #[] 0, 0, w, ?_, .inl rfl, fun ρ' hle hid => ⟨VR.map_iff.2 ⟨_, _, hid, rfl⟩, #[], rfl, .nil⟩⟩
        show (do pure (.value (← Instr.makeMap t (r.map f))) : Sem Next).run P w = _
        rcases hx ρ f he with rfl | ⟨x, k', n, rfl, hfx⟩
        · unfold Instr.makeMap
          rfl
        · unfold Instr.makeMap
          simp only [Option.map_some, hfx, Sem.run_bind, run_underlying' hu, Result.andThen_ok, run_asInt', Sem.run_pure]
          rfl
      · cases e
    unfold opMakeMap at e
    cases r with
    | none => exact key e fun _ _ _ => .inl rfl
    | some x =>
      simp only at e
      split at e
      · rename_i k n hx
        exact key e fun ρ f he => .inr ⟨x, k, sg k n, rfl, (VR.int_iff.1 (he x (by simp [Op.operands]) _ hx)).1⟩
      · cases e
  case makeSlice t l c =>
    have e : o2 l c (fun a b h => ovh (makeSliceA P h t a b)) ev h = .val v h' := e
    obtain ⟨ua, ub, ha, hb, e⟩ := o2_val e
    have hm := ovh_val e
    unfold makeSliceA at hm
    split at hm
    · rename_i elem ln cp hu hl hc
      split at hm
      · rename_i inf z hi hz
        cases hcond : (Nat.ble ln cp && Nat.ble cp 1000000 && Nat.ble inf.bytes 1000000 && Nat.beq (lenL z.cells) inf.size && allOne z.cells && Nat.ble 1 inf.size) with
        | false => rw [hcond] at hm; cases hm
        | true =>
          rw [hcond] at hm; cases hm
          refine ⟨_, rfl, wr_row _ _ _, fun ρ w f he => ?_⟩
          have ha' := he l (by simp [Op.operands]) ua ha
          have hb' := he c (by simp [Op.operands]) ub hb
          simp only [Bool.and_eq_true, Nat.ble_eq, nbeq_iff] at hcond
          obtain ⟨⟨⟨⟨⟨g1, g2⟩, g3⟩, g4⟩, g5⟩, g6⟩ := hcond
          obtain ⟨ka, ea⟩ := natOf_VR hl ha'
          obtain ⟨kb, eb⟩ := natOf_VR hc hb'
          obtain ⟨z', hz1, hz2⟩ := run_zeroValue' (P := P) hz w
          have hzc := cells_VR (hz2 ρ)
          have hzs : z'.cells.size = inf.size := by rw [← g4, lenL_eq, ← hzc.length]; simp
          have hs : sizeA P elem = some inf.size := by unfold sizeA; rw [hi]
          have hbytes : (inf.bytes : Int) * (cp : Int) ≤ 1000000000000 := by
            have : inf.bytes * cp ≤ 1000000 * 1000000 := Nat.mul_le_mul g3 g2
            have h9 : ((inf.bytes * cp : Nat) : Int) ≤ ((1000000 * 1000000 : Nat) : Int) := Int.ofNat_le.2 this
            rw [Int.natCast_mul] at h9
            omega
          have hcells : VRL ρ (repL z.cells cp) ((Array.range (cp * inf.size)).map (fun i => z'.cells[i % z'.cells.size]!)).toList := by
            rw [← hzs, zeros_eq]; exact hzc.rep cp
          refine AlOk.row (v' := .slice (some ⟨w.heap.size, 0, none⟩) ln cp) hcells ?_ (fun ρ' h => VR.slice_iff.2 ⟨_, _, h, rfl⟩)
          show (do pure (.value (← Instr.makeSlice t (f l) (f c))) : Sem Next).run P w = _
          rw [ea, eb]
          unfold Instr.makeSlice
          have ht : ∀ n : Int, n = (cp : Int) → (decide (n < 0) || decide (inf.bytes * n > 2 ^ 48)) = false := by
            rintro n rfl
            have h48 : (2 : Int) ^ 48 = 281474976710656 := by decide
            rw [Bool.or_eq_false_iff, decide_eq_false_iff_not, decide_eq_false_iff_not, h48]
            omega
          have hif : ¬ ((((decide ((cp : Int) < 0) || decide (inf.bytes * (cp : Int) > 2 ^ 48)) || decide ((ln : Int) < 0)) || decide ((ln : Int) > cp)) = true) := by
            rw [ht _ rfl, Bool.false_or, Bool.or_eq_true, decide_eq_true_iff, decide_eq_true_iff]; omega
          simp only [Sem.run_bind, run_underlying' hu, Result.andThen_ok, run_asInt', Sem.run_pure, run_typeInfo' hi, wrap_small ln (by omega), wrap_small cp g2]
          rw [if_neg hif]
          simp only [Sem.run_bind, run_askRoom, run_sizeOf' hs, Result.andThen_ok, Int.toNat_natCast, Sem.run_pure]
          by_cases hn : cp * inf.size = 0
          · have hc0 : cp = 0 := by
              rcases Nat.mul_eq_zero.1 hn with h0 | h0
              · exact h0
              · omega
            rw [if_pos hn]
            have e1 : (Array.range (cp * inf.size)).map (fun i => z'.cells[i % z'.cells.size]!) = #[] := by rw [hn]; simp
            have e2 : (Array.range (cp * inf.size)).map (fun i => (#[] : Array Value)[i % (#[] : Array Value).size]!) = #[] := by rw [hn]; simp
            rw [e1]
            simp only [Sem.run_bind, Sem.run_pure, Result.andThen_ok, e2, run_newRow]
          · rw [if_neg hn]
            simp only [Sem.run_bind, hz1, Sem.run_pure, Result.andThen_ok, run_newRow]
      · cases hm
    · cases hm
  case convert src dst x =>
    have hsd : isConvA P src dst = true := hr
    have e1 : o1 x (fun v h => ovh (convertA P h src dst v)) ev h = .val v h' := e
    obtain ⟨u, hu0, e2⟩ := o1_val e1
    have e3 := ovh_val e2
    clear e e1 e2
    unfold convertA at e3
    rw [hsd, bcase_true] at e3
    unfold convB at e3
    split at e3
    · rename_i el n bits hd
      split at e3
      · rename_i hu
        obtain ⟨hc, e4⟩ := bcase_none_iff.1 e3
        clear e3
        cases e4
        refine ⟨_, rfl, rfl, fun ρ w f he => ?_⟩
        have hx := he x (by simp [Op.operands]) _ hu0
        obtain ⟨l, hl, rfl, rfl⟩ := VR.str_iff.1 hx
        unfold isConvA at hsd
        split at hsd
        · rename_i hs _
          obtain ⟨k, w1, g1, g2, g3⟩ := run_appendCap (P := P) l.length 0 el w
          have hbv := bytesL_VR (ρ := ρ) l
          let elems : Array Value := (l.map fun b => Value.int .u8 (b.toNat : Int)).toArray ++ Array.replicate (k - l.length) (.int .u8 0)
          have hes : elems.size = k := by simp [elems]; omega
          have hlen : lenL (bytesL l.length (pack l)) = l.length := by rw [lenL_eq, bytesL_len]
          have hh : w1.heap.size = w.heap.size := by rcases g3 with rfl | ⟨j, rfl⟩ <;> rfl
          refine ⟨.slice (some ⟨w.heap.size, 0, none⟩) l.length k, .cells elems el (k, k + 1), elems.size, w1, ?_, g3, fun ρ' hle hid => ⟨VR.gslice_iff.2 ⟨_, _, k, hid, rfl, g2, by rw [hes]; omega⟩, ?_⟩⟩
          · show (do pure (.value (← convert src dst (f x))) : Sem Next).run P w = _
            have hrun : (Conv.stringToBytes el ⟨⟨l⟩⟩).run P w = .ok (.slice (some ⟨w1.heap.size, 0, none⟩) l.length k) { w1 with heap := w1.heap.push (.cells elems el (k, k + 1)) } := by
              unfold Conv.stringToBytes
              have hsz : (⟨⟨l⟩⟩ : ByteArray).size = l.length := rfl
              have hmap : ((⟨⟨l⟩⟩ : ByteArray).data.map fun b => Value.int .u8 (b.toNat : Int)) = (l.map fun b => Value.int .u8 (b.toNat : Int)).toArray := by simp
              simp only [hsz, hmap, Sem.run_bind, g1, Result.andThen_ok]
              unfold newRow markStringish
              simp only [Sem.run_bind, run_newObj, Result.andThen_ok, Sem.run_pure, run_shape, run_freeze, World.shape?, World.freeze]
              simp [elems, hes]
              exact freeze_push w1 _ el k
            have hconv : (convert src dst (f x)).run P w = (Conv.stringToBytes el ⟨⟨l⟩⟩).run P w := by
              rw [hl]; unfold convert
              simp [run_underlying' hs, run_underlying' hd, run_underlying' hu]
            rw [Sem.run_bind, hconv, hrun, Result.andThen_ok, hh]
            rfl
          · refine ⟨_, _, _, rfl, .inr (by rw [hes]; exact Nat.le_refl _), rfl, by rw [hlen, hes]; exact g2, fun q => (by cases q), fun i a ha => ?_, fun i a ha => ?_⟩
            · have h1 := TOk.fresh _ i a ha
              obtain ⟨v, h2, h3⟩ := hbv.get _ _ h1
              refine ⟨v, ?_, VR.mono hle _ _ h3⟩
              have hil : i < (l.map fun b => Value.int .u8 (b.toNat : Int)).toArray.size := by
                rcases Nat.lt_or_ge i (l.map fun b => Value.int .u8 (b.toNat : Int)).length with h4 | h4
                · simpa using h4
                · rw [List.getElem?_eq_none h4] at h2; cases h2
              rw [Array.getElem?_append_left hil]
              simpa using h2
            · have h1 := TOk.fresh _ i a ha
              rcases Nat.lt_or_ge i (bytesL l.length (pack l)).length with h3 | h3
              · rw [lenL_eq]; exact h3
              · rw [List.getElem?_eq_none h3] at h1; cases h1
        · cases hsd
      · cases e3
    · rename_i el l0 hd
      split at e3
      · rename_i hu
        obtain ⟨hc, e4⟩ := bcase_none_iff.1 e3
        clear e3
        cases e4
        refine ⟨_, rfl, rfl, fun ρ w f he => ?_⟩
        have hx := he x (by simp [Op.operands]) _ hu0
        obtain ⟨l, hl, hbv⟩ := VR.sstr_iff.1 hx
        have hlen : lenL l0 = l.length := by rw [lenL_eq, hbv.len_bv]
        unfold isConvA at hsd
        split at hsd
        · rename_i hs _
          obtain ⟨k, w1, g1, g2, g3⟩ := run_appendCap (P := P) l.length 0 el w
          let elems : Array Value := (l.map fun b => Value.int .u8 (b.toNat : Int)).toArray ++ Array.replicate (k - l.length) (.int .u8 0)
          have hes : elems.size = k := by simp [elems]; omega
          have hh : w1.heap.size = w.heap.size := by rcases g3 with rfl | ⟨j, rfl⟩ <;> rfl
          refine ⟨.slice (some ⟨w.heap.size, 0, none⟩) l.length k, .cells elems el (k, k + 1), elems.size, w1, ?_, g3, fun ρ' hle hid => ⟨by rw [hlen]; exact VR.gslice_iff.2 ⟨_, _, k, hid, rfl, g2, by rw [hes]; omega⟩, ?_⟩⟩
          · show (do pure (.value (← convert src dst (f x))) : Sem Next).run P w = _
            have hrun : (Conv.stringToBytes el ⟨⟨l⟩⟩).run P w = .ok (.slice (some ⟨w1.heap.size, 0, none⟩) l.length k) { w1 with heap := w1.heap.push (.cells elems el (k, k + 1)) } := by
              unfold Conv.stringToBytes
              have hsz : (⟨⟨l⟩⟩ : ByteArray).size = l.length := rfl
              have hmap : ((⟨⟨l⟩⟩ : ByteArray).data.map fun b => Value.int .u8 (b.toNat : Int)) = (l.map fun b => Value.int .u8 (b.toNat : Int)).toArray := by simp
              simp only [hsz, hmap, Sem.run_bind, g1, Result.andThen_ok]
              unfold newRow markStringish
              simp only [Sem.run_bind, run_newObj, Result.andThen_ok, Sem.run_pure, run_shape, run_freeze, World.shape?, World.freeze]
              simp [elems, hes]
              exact freeze_push w1 _ el k
            have hconv : (convert src dst (f x)).run P w = (Conv.stringToBytes el ⟨⟨l⟩⟩).run P w := by
              rw [hl]; unfold convert
              simp [run_underlying' hs, run_underlying' hd, run_underlying' hu]
            rw [Sem.run_bind, hconv, hrun, Result.andThen_ok, hh]
            rfl
          · refine ⟨_, _, _, rfl, .inr (by rw [hes]; exact Nat.le_refl _), rfl, by rw [hlen, hes]; exact g2, fun q => (by cases q), fun i a ha => ?_, fun i a ha => ?_⟩
            · have h1 := TOk.fresh _ i a ha
              obtain ⟨v, h2, h3⟩ := hbv.get _ _ h1
              refine ⟨v, ?_, VR.mono hle _ _ h3⟩
              have hil : i < (l.map fun b => Value.int .u8 (b.toNat : Int)).toArray.size := by
                rcases Nat.lt_or_ge i (l.map fun b => Value.int .u8 (b.toNat : Int)).length with h4 | h4
                · simpa using h4
                · rw [List.getElem?_eq_none h4] at h2; cases h2
              rw [Array.getElem?_append_left hil]
              simpa using h2
            · have h1 := TOk.fresh _ i a ha
              rcases Nat.lt_or_ge i l0.length with h3 | h3
              · rw [lenL_eq]; exact h3
              · rw [List.getElem?_eq_none h3] at h1; cases h1
        · cases hsd
      · cases e3
    · cases e3
end
end Go.Ev

namespace Go.Ev
open Go

mutual
theorem AV.beq_eq : ∀ (a b : AV), AV.beq a b = true → a = b
  | .int k m, b, h => by
    cases b <;> simp only [AV.beq] at h <;> first | (cases h; done) | skip
    rw [Bool.and_eq_true, nbeq_iff] at h
    rw [kcode_inj h.1, h.2]
  | .bool x, b, h => by
    cases b <;> simp only [AV.beq] at h <;> first | (cases h; done) | skip
    rw [beq_iff_eq] at h; rw [h]
  | .str n x, b, h => by
    cases b <;> simp only [AV.beq] at h <;> first | (cases h; done) | skip
    rw [Bool.and_eq_true, nbeq_iff, nbeq_iff] at h; rw [h.1, h.2]
  | .ptr n x, b, h => by
    cases b <;> simp only [AV.beq] at h <;> first | (cases h; done) | skip
    rw [Bool.and_eq_true, nbeq_iff, nbeq_iff] at h; rw [h.1, h.2]
  | .nilp, b, h => by cases b <;> simp only [AV.beq] at h <;> first | (cases h; done) | rfl
  | .slice a1 a2 a3 a4, b, h => by
    cases b <;> simp only [AV.beq] at h <;> first | (cases h; done) | skip
    simp only [Bool.and_eq_true, nbeq_iff] at h; rw [h.1.1.1, h.1.1.2, h.1.2, h.2]
  | .gslice a1 a2 a3 a4, b, h => by
    cases b <;> simp only [AV.beq] at h <;> first | (cases h; done) | skip
    simp only [Bool.and_eq_true, nbeq_iff] at h; rw [h.1.1.1, h.1.1.2, h.1.2, h.2]
  | .eslice, b, h => by cases b <;> simp only [AV.beq] at h <;> first | (cases h; done) | rfl
  | .nilslice, b, h => by cases b <;> simp only [AV.beq] at h <;> first | (cases h; done) | rfl
  | .map n, b, h => by
    cases b <;> simp only [AV.beq] at h <;> first | (cases h; done) | skip
    rw [nbeq_iff] at h; rw [h]
  | .nilmap, b, h => by cases b <;> simp only [AV.beq] at h <;> first | (cases h; done) | rfl
  | .func fn fs cs, b, h => by
    cases b <;> simp only [AV.beq] at h <;> first | (cases h; done) | skip
    simp only [Bool.and_eq_true, decide_eq_true_iff] at h
    rw [h.1.1, AV.beqL_eq _ _ h.1.2, AV.beqL_eq _ _ h.2]
  | .nilfunc, b, h => by cases b <;> simp only [AV.beq] at h <;> first | (cases h; done) | rfl
  | .iface t x, b, h => by
    cases b <;> simp only [AV.beq] at h <;> first | (cases h; done) | skip
    rw [Bool.and_eq_true, nbeq_iff] at h; rw [h.1, AV.beq_eq _ _ h.2]
  | .niliface, b, h => by cases b <;> simp only [AV.beq] at h <;> first | (cases h; done) | rfl
  | .agg l, b, h => by
    cases b <;> simp only [AV.beq] at h <;> first | (cases h; done) | skip
    rw [AV.beqL_eq _ _ h]
  | .tuple l, b, h => by
    cases b <;> simp only [AV.beq] at h <;> first | (cases h; done) | skip
    rw [AV.beqL_eq _ _ h]
  | .oslice n, b, h => by
    cases b <;> simp only [AV.beq] at h <;> first | (cases h; done) | skip
    rw [nbeq_iff] at h; rw [h]
  | .imod n x, b, h => by
    cases b <;> simp only [AV.beq] at h <;> first | (cases h; done) | skip
    rw [Bool.and_eq_true, nbeq_iff, nbeq_iff] at h; rw [h.1, h.2]
  | .optr n, b, h => by
    cases b <;> simp only [AV.beq] at h <;> first | (cases h; done) | skip
    rw [nbeq_iff] at h; rw [h]
  | .sint k c ts, b, h => by
    cases b <;> simp only [AV.beq] at h <;> first | (cases h; done) | skip
    rw [Bool.and_eq_true, Bool.and_eq_true, nbeq_iff] at h; rw [kcode_inj h.1, h.2.1, beqT_eq _ _ h.2.2]
  | .sneg k c ts, b, h => by
    cases b <;> simp only [AV.beq] at h <;> first | (cases h; done) | skip
    rw [Bool.and_eq_true, Bool.and_eq_true, nbeq_iff] at h; rw [kcode_inj h.1, h.2.1, beqT_eq _ _ h.2.2]
  | .sstr l, b, h => by
    cases b <;> simp only [AV.beq] at h <;> first | (cases h; done) | skip
    rw [AV.beqL_eq _ _ h]
theorem AV.beqL_eq : ∀ (a b : List AV), AV.beqL a b = true → a = b
  | [], b, h => by cases b <;> simp only [AV.beqL] at h <;> first | (cases h; done) | rfl
  | x :: l, b, h => by
    cases b <;> simp only [AV.beqL] at h <;> first | (cases h; done) | skip
    rw [Bool.and_eq_true] at h; rw [AV.beq_eq _ _ h.1, AV.beqL_eq _ _ h.2]
end

section
variable {P : Program}
theorem recheck_cons (m : Nat) (h : Heap) (r : Rd) (l : List Rd) : recheck P m h (r :: l) = bcase (bit r.i m) (recheck P m h l) (bcase (isV r.v (readA P r.reg r.loc h r.o)) (recheck P m h l) false) := rfl
theorem recheck_ok {m : Nat} {h : Heap} : ∀ {l : List Rd}, recheck P m h l = true → ∀ r ∈ l, bit r.i m = false → readA P r.reg r.loc h r.o = some r.v
  | [], _, r, hr, _ => by cases hr
  | q :: l, hc, r, hr, hb => by
    rw [recheck_cons] at hc
    have rest : recheck P m h l = true := by
      cases hq : bit q.i m with
      | true => rw [hq] at hc; exact hc
      | false =>
        rw [hq, bcase_false] at hc
        cases hv : isV q.v (readA P q.reg q.loc h q.o) with
        | true => rw [hv] at hc; exact hc
        | false => rw [hv] at hc; cases hc
    rcases List.mem_cons.1 hr with rfl | hr
    · rw [hb, bcase_false] at hc
      unfold isV at hc
      cases hv : readA P r.reg r.loc h r.o with
      | none => rw [hv] at hc; cases hc
      | some u =>
        rw [hv, ocase_some] at hc
        cases hu : AV.beq u r.v with
        | true => rw [AV.beq_eq _ _ hu]
        | false => rw [hu] at hc; cases hc
    · exact recheck_ok rest r hr hb

theorem incorpAll_nil (h : Heap) : incorpAll [] h = h := rfl
theorem incorpAll_cons (x : Nat × Nat × ABlk) (l : Pend) (h : Heap) : incorpAll (x :: l) h = (incorpAll l h).set x.2.1 (some x.2.2) := rfl
theorem incorpAll_next : ∀ (l : Pend) (h : Heap), (incorpAll l h).next = h.next
  | [], _ => rfl
  | x :: l, h => by rw [incorpAll_cons, Heap.next_set, incorpAll_next l h]
theorem incorpAll_get : ∀ (l : Pend) (h : Heap) (b : Nat) (y : ABlk), (incorpAll l h).get b = some y → h.get b = some y ∨ ∃ i, (i, b, y) ∈ l
  | [], _, _, _, h => .inl h
  | (i, c, z) :: l, h, b, y, hg => by
    rw [incorpAll_cons, Heap.get_set] at hg
    by_cases e : b = c
    · rw [if_pos e] at hg; cases hg; subst e; exact .inr ⟨i, by simp⟩
    · rw [if_neg e] at hg
      rcases incorpAll_get l h b y hg with h1 | ⟨j, h1⟩
      · exact .inl h1
      · exact .inr ⟨j, by simp [h1]⟩
theorem incorpAll_out : ∀ (l : Pend) (h : Heap) (b : Nat), (∀ i y, (i, b, y) ∉ l) → (incorpAll l h).get b = h.get b
  | [], _, _, _ => rfl
  | (i, c, z) :: l, h, b, hn => by
    rw [incorpAll_cons, Heap.get_set, if_neg (fun e => hn i z (by subst e; simp)), incorpAll_out l h b (fun j y hj => hn j y (by simp [hj]))]
theorem incorpAll_in : ∀ (l : Pend) (h : Heap), l.Pairwise (fun x y => x.2.1 ≠ y.2.1) → ∀ i b y, (i, b, y) ∈ l → (incorpAll l h).get b = some y
  | [], _, _, _, _, _, hm => by cases hm
  | (j, c, z) :: l, h, hp, i, b, y, hm => by
    rw [List.pairwise_cons] at hp
    rw [incorpAll_cons, Heap.get_set]
    rcases List.mem_cons.1 hm with e | hm
    · cases e; rw [if_pos rfl]
    · rw [if_neg (fun e => hp.1 _ hm (by simpa using e.symm)), incorpAll_in l h hp.2 i b y hm]
theorem incorp_nil (m : Nat) (h : Heap) : incorp m [] h = ([], h) := rfl
theorem incorp_cons (m : Nat) (x : Nat × Nat × ABlk) (l : Pend) (h : Heap) : incorp m (x :: l) h = bcase (bit x.1 m) ((incorp m l h).1, (incorp m l h).2.set x.2.1 (some x.2.2)) (x :: (incorp m l h).1, (incorp m l h).2) := rfl
theorem incorp_eq (m : Nat) (h : Heap) : ∀ l : Pend, incorp m l h = (l.filter (fun x => !(bit x.1 m)), incorpAll (l.filter fun x => bit x.1 m) h)
  | [] => rfl
  | x :: l => by
    rw [incorp_cons, incorp_eq m h l, List.filter_cons, List.filter_cons]
    cases bit x.1 m with
    | true => rw [bcase_true, if_pos rfl]; rfl
    | false => rw [bcase_false]; rfl

noncomputable def HX (listed : Array Bool) (pend : Pend) (h : Heap) : Heap := incorpAll (pend.filter fun x => listed.getD x.1 false) h
def LSt (listed : Array Bool) (i : Nat) : Prop := listed.getD i false = true
theorem HX_next (listed : Array Bool) (pend : Pend) (h : Heap) : (HX listed pend h).next = h.next := incorpAll_next _ _
theorem HX_get {listed : Array Bool} {pend : Pend} {h : Heap} {b : Nat} {y : ABlk} (hg : (HX listed pend h).get b = some y) : h.get b = some y ∨ ∃ i, (i, b, y) ∈ pend ∧ LSt listed i := by
  rcases incorpAll_get _ _ _ _ hg with h1 | ⟨i, h1⟩
  · exact .inl h1
  · obtain ⟨h2, h3⟩ := List.mem_filter.1 h1
    exact .inr ⟨i, h2, h3⟩
theorem HX_in {listed : Array Bool} {pend : Pend} {h : Heap} (hp : pend.Pairwise (fun x y => x.2.1 ≠ y.2.1)) {i b : Nat} {y : ABlk} (hm : (i, b, y) ∈ pend) (hl : LSt listed i) : (HX listed pend h).get b = some y :=
  incorpAll_in _ _ (hp.filter _) i b y (List.mem_filter.2 ⟨hm, hl⟩)
theorem HX_old {listed : Array Bool} {pend : Pend} {h : Heap} (hn : ∀ i b y, (i, b, y) ∈ pend → h.get b = none) {b : Nat} {y : ABlk} (hg : h.get b = some y) : (HX listed pend h).get b = some y := by
  unfold HX
  rw [incorpAll_out _ _ _ (fun i z hm => by have := hn i b z (List.mem_filter.1 hm).1; rw [hg] at this; cases this)]
  exact hg

theorem Ext.sub {ρ0 ρ : Rho} {h0 h H : Heap} {w0 w : World} (x : Ext ρ0 h0 w0 ρ H w) (hs : Sub h H) (hn : h.next = H.next) : Ext ρ0 h0 w0 ρ h w :=
  ⟨x.le, x.old, by rw [hn]; exact x.next, x.size, x.frame, fun b y r c hb => x.img b y r c (hs _ _ hb), x.os, x.tape, x.output, fun b y hb => x.dom b y (hs _ _ hb)⟩
theorem Ext.drew' {ρ0 ρ : Rho} {h0 h : Heap} {w0 w w' : World} (x : Ext ρ0 h0 w0 ρ h w) (hw : w' = w ∨ ∃ k, w' = { w with drawn := k }) : Ext ρ0 h0 w0 ρ h w' := by
  rcases hw with rfl | ⟨k, rfl⟩
  · exact x
  · exact x.trans (Ext.drew ρ h w k)
theorem Sim.allocAt {ρ ρ0 : Rho} {h0 H : Heap} {w0 w : World} (s : Sim ρ H w) (E : Ext ρ0 h0 w0 ρ H w) {id : Nat} {x : ABlk} {o : Obj} {c : Nat} (hid : ρ id = none) (hlt : id < H.next) (h0id : h0.next ≤ id)
    (hb : BR (ρ.ext id (w.heap.size, c)) c x o) (hw : wr x = true) :
    Sim (ρ.ext id (w.heap.size, c)) (H.set id (some x)) { w with heap := w.heap.push o } ∧ Ext ρ0 h0 w0 (ρ.ext id (w.heap.size, c)) (H.set id (some x)) { w with heap := w.heap.push o } := by
  have hle := Rho.ext_le (x := (w.heap.size, c)) hid
  have hold : ∀ b y, H.get b = some y → ∀ r c', ρ b = some (r, c') → r < w.heap.size := fun b y hy r c' hr => s.img_lt hy hr
  refine ⟨⟨?_, ?_, ?_⟩, ⟨E.le.trans hle, fun b hb' => ?_, by rw [Heap.next_set]; exact E.next, Nat.le_trans E.size (by simp), fun r hr hno => ?_, fun b y r c' hy hwy hρ hr => ?_, E.os, E.tape, E.output, fun b y hy => ?_⟩⟩
  · intro b y hy
    rw [Heap.get_set] at hy
    by_cases e : b = id
    · rw [if_pos e] at hy; cases hy
      exact ⟨_, _, o, by rw [e]; exact Rho.ext_same _ _ _, by simp, hb⟩
    · rw [if_neg e] at hy
      obtain ⟨r, c', o', h1, h2, h3⟩ := s.blk b y hy
      refine ⟨r, c', o', hle _ _ h1, ?_, h3.mono hle⟩
      have := hold b y hy r c' h1
      show (w.heap.push o)[r]? = _
      rw [Array.getElem?_push, if_neg (by omega), h2]
  · intro b b' y y' r c1 c2 h1 h2 h3 h4
    rw [Heap.get_set] at h1 h2
    by_cases e : b = id
    · by_cases e' : b' = id
      · rw [e, e']
      · rw [if_neg e'] at h2
        rw [e, Rho.ext_same] at h3; cases h3
        rw [Rho.ext_ne _ _ e'] at h4
        exact absurd (hold b' y' h2 _ _ h4) (by omega)
    · rw [if_neg e] at h1
      by_cases e' : b' = id
      · rw [e', Rho.ext_same] at h4; cases h4
        rw [Rho.ext_ne _ _ e] at h3
        exact absurd (hold b y h1 _ _ h3) (by omega)
      · rw [if_neg e'] at h2
        rw [Rho.ext_ne _ _ e] at h3
        rw [Rho.ext_ne _ _ e'] at h4
        exact s.inj b b' y y' r c1 c2 h1 h2 h3 h4
  · intro b hb'
    rw [Heap.next_set] at hb'
    rw [Rho.ext_ne _ _ (by omega)]
    exact s.fresh b hb'
  · rw [Rho.ext_ne _ _ (by omega)]; exact E.old b hb'
  · show (w.heap.push o)[r]? = _
    have := E.size
    rw [Array.getElem?_push, if_neg (by omega)]
    exact E.frame r hr hno
  · rw [Heap.get_set] at hy
    by_cases e : b = id
    · rw [e, Rho.ext_same] at hρ; cases hρ
      have := E.size
      omega
    · rw [if_neg e] at hy
      rw [Rho.ext_ne _ _ e] at hρ
      exact E.img b y r c' hy hwy hρ hr
  · rw [Heap.get_set] at hy
    by_cases e : b = id
    · rw [if_pos e] at hy; cases hy; exact .inr ⟨by omega, hw⟩
    · rw [if_neg e] at hy; exact E.dom b y hy

theorem memN_iff (x : Nat) (l : List Nat) : memN x l = true ↔ x ∈ l := by rw [memN_eq]; simp
structure PairSpec (ops : List Oper) (x y : PL) : Prop where
  ne : x.i ≠ y.i
  act : isAct x = true → bit x.i y.m = true
  back : bit y.i x.m = false
  ap : bit x.i y.m = true ∨ (∀ d, x.o.dst = some d → d ∉ names ops y.o) ∧ (∀ d, y.o.dst = some d → d ∉ names ops x.o)
  un : ∀ d, x.o.dst = some d → y.o.dst ≠ some d
  rd : x.k = 0 → isAct y = true → bit x.i y.m = true
theorem apartD_iff {d : Option Tmp} {ns : List Tmp} (h : apartD d ns = true) : ∀ t, d = some t → t ∉ ns := by
  rintro t rfl hm
  have h : bcase (memN t ns) false true = true := h
  rw [(memN_iff t ns).2 hm] at h; cases h
theorem unlike_iff {d e : Option Tmp} (h : unlike d e = true) : ∀ t, d = some t → e ≠ some t := by
  rintro t rfl rfl
  have h : bcase (Nat.beq t t) false true = true := h
  rw [Nat.beq_refl] at h; cases h
theorem pairOk_spec {ops : List Oper} {x y : PL} (h : pairOk ops x y = true) : PairSpec ops x y := by
  unfold pairOk at h
  simp only [Bool.and_eq_true, Bool.not_eq_true', Bool.or_eq_true] at h
  obtain ⟨⟨⟨⟨⟨h1, h2⟩, h3⟩, h4⟩, h5⟩, h6⟩ := h
  refine ⟨fun e => ?_, fun ha => ?_, h3, ?_, unlike_iff h5, fun hk ha => ?_⟩
  · rw [nbeq_iff.2 e] at h1; cases h1
  · rcases h2 with h2 | h2
    · rw [ha] at h2; cases h2
    · exact h2
  · rcases h4 with h4 | h4
    · exact .inl h4
    · right
      unfold apartA at h4
      cases e1 : apartD x.o.dst (names ops y.o) with
      | false => rw [e1] at h4; cases h4
      | true =>
        cases e2 : apartD y.o.dst (names ops x.o) with
        | false => rw [e1, e2] at h4; cases h4
        | true => exact ⟨apartD_iff e1, apartD_iff e2⟩
  · rcases h6 with h6 | h6
    · have e1 : Nat.beq x.k 0 = true := nbeq_iff.2 hk
      rw [e1, ha] at h6; exact absurd h6 (by decide)
    · exact h6
theorem names_op {ops : List Oper} {o : Oper} {t : Tmp} (h : Operand.tmp t ∈ o.op.operands.toList) : t ∈ names ops o := by
  unfold names
  exact List.mem_append.2 (.inl (List.mem_flatMap.2 ⟨.tmp t, h, by simp [opnd]⟩))
theorem names_guard {ops : List Oper} {o og : Oper} {g : Nat × Bool} {t : Tmp} (hg : o.guard = some g) (ho : ops[g.1]? = some og) (hd : og.dst = some t) : t ∈ names ops o := by
  unfold names
  rw [hg]
  simp only [ho, hd]
  exact List.mem_append.2 (.inr (by simp))

structure Dn where
  p : PL
  v : AV
  reg : T AV
  loc : Loc
  want : Bool
def lookD (f : Tmp → Option AV) : List Dn → Tmp → Option AV
  | [], t => f t
  | x :: d, t => if x.p.o.dst = some t then some x.v else lookD f d t
theorem lookD_cases {f : Tmp → Option AV} {t : Tmp} {v : AV} : ∀ {d : List Dn}, lookD f d t = some v → (∃ y ∈ d, y.p.o.dst = some t ∧ v = y.v) ∨ ((∀ y ∈ d, y.p.o.dst ≠ some t) ∧ f t = some v)
  | [], h => .inr ⟨fun y hy => (by cases hy), h⟩
  | x :: d, h => by
    unfold lookD at h
    by_cases e : x.p.o.dst = some t
    · rw [if_pos e] at h; cases h; exact .inl ⟨x, by simp, e, rfl⟩
    · rw [if_neg e] at h
      rcases lookD_cases h with ⟨y, h1, h2⟩ | ⟨h1, h2⟩
      · exact .inl ⟨y, by simp [h1], h2⟩
      · refine .inr ⟨fun y hy => ?_, h2⟩
        rcases List.mem_cons.1 hy with rfl | hy
        · exact e
        · exact h1 y hy
def WfD (ops : List Oper) (f : Tmp → Option AV) : List Dn → Prop
  | [] => True
  | x :: d => (∀ t, look t x.reg x.loc = lookD f d t) ∧ wantO x.p.o ops x.reg x.loc = some x.want ∧ (x.want = false → x.v = undefA) ∧ WfD ops f d
theorem WfD.mem {ops : List Oper} {f : Tmp → Option AV} : ∀ {dn : List Dn}, WfD ops f dn → ∀ x ∈ dn, ∃ d2 d1, dn = d2 ++ x :: d1 ∧ (∀ t, look t x.reg x.loc = lookD f d1 t) ∧ wantO x.p.o ops x.reg x.loc = some x.want ∧ (x.want = false → x.v = undefA)
  | [], _, x, hx => by cases hx
  | y :: d, h, x, hx => by
    obtain ⟨h1, h2, h3, h4⟩ := h
    rcases List.mem_cons.1 hx with rfl | hx
    · exact ⟨[], d, rfl, h1, h2, h3⟩
    · obtain ⟨d2, d1, e, g⟩ := WfD.mem h4 x hx
      exact ⟨y :: d2, d1, by rw [e]; rfl, g⟩
end
end Go.Ev

namespace Go.Ev
open Go
section
variable {P : Program}

def PromOk (P : Program) (d : DS) (h : Heap) (x : Dn) : Prop :=
  (isAop P x.p.o.op = true ∧ ∃ b y, (x.p.i, b, y) ∈ d.pend ∧ ∀ (ρ : Rho) (w : World) (e : Operand → Value), EvOn ρ x.p.o.op.operands.toList (ev x.reg x.loc) e → AlOk P ρ w b x.v y (execOp e x.p.o)) ∨
  (isRop P x.p.o.op = true ∧ readA P x.reg x.loc h x.p.o = some x.v ∧ (x.p.k = 0 ∨ ∃ r ∈ d.reads, r.i = x.p.i ∧ r.o = x.p.o ∧ r.reg = x.reg ∧ r.loc = x.loc ∧ r.v = x.v))

structure Inv (P : Program) (ops : Array Oper) (pl : List PL) (cx : Cx) (call : CallF) (Q : AX × St → Prop) (ρ0 : Rho) (h0 : Heap) (w0 : World) (tmps0 : Array Value) (f : Tmp → Option AV)
    (dn : List Dn) (rest : List PL) (d : DS) (reg : T AV) (loc : Loc) (h : Heap) (dfr : Dfr) (listed : Array Bool) (ρ : Rho) (a : Act) (w : World) : Prop where
  plan : (dn.map (·.p)).reverse ++ rest = pl
  q : (drawOps P ops.toList rest cx call d reg loc h dfr).all Q
  wf : WfD ops.toList f dn
  lk : ∀ t, look t reg loc = lookD f dn t
  rg : RgOk cx reg loc
  dlt : ∀ x ∈ dn, ∀ t, x.p.o.dst = some t → t < cx.nt
  sub : ∀ i, LSt listed i → ∃ x ∈ dn, x.p.i = i
  shut : Shut ops (LSt listed)
  size : listed.size = ops.size
  tsz : cx.nt ≤ a.tmps.size
  tmp : ∀ t, (∃ x ∈ dn, LSt listed x.p.i ∧ x.p.o.dst = some t ∧ ∃ v', a.tmps[t]? = some v' ∧ VR ρ x.v v') ∨ ((∀ x ∈ dn, LSt listed x.p.i → x.p.o.dst ≠ some t) ∧ a.tmps[t]? = tmps0[t]?)
  dfr : DR ρ dfr a.defers
  sim : Sim ρ (HX listed d.pend h) w
  ext : Ext ρ0 h0 w0 ρ (HX listed d.pend h) w
  pend : ∀ i b y, (i, b, y) ∈ d.pend → h0.next ≤ b ∧ b < h.next ∧ h.get b = none ∧ wr y = true ∧ (¬ LSt listed i → ρ b = none) ∧ ∃ x ∈ dn, x.p.i = i ∧ isAop P x.p.o.op = true ∧ x.want = true
  dist : d.pend.Pairwise (fun x y => x.1 ≠ y.1 ∧ x.2.1 ≠ y.2.1)
  acts : ∀ x ∈ dn, isAct x.p = true → LSt listed x.p.i
  pr : ∀ x ∈ dn, ¬ LSt listed x.p.i → x.want = true → PromOk P d h x

theorem LSt_set {listed : Array Bool} {i j : Nat} (hi : i < listed.size) : LSt (listed.setIfInBounds i true) j ↔ LSt listed j ∨ j = i := by
  unfold LSt
  by_cases e : i = j
  · subst e; simp [hi]
  · simp only [Array.getD_eq_getD_getElem?, Array.getElem?_setIfInBounds_ne e]
    exact ⟨.inl, fun h => h.resolve_right (fun q => e q.symm)⟩

section
variable {ops : Array Oper} {pl : List PL} (L : Plan P ops pl)
include L
theorem plan_pairs {dn : List Dn} {rest : List PL} (e : (dn.map (·.p)).reverse ++ rest = pl) :
    (∀ d2 x d1, dn = d2 ++ x :: d1 → (∀ y ∈ d1, PairSpec ops.toList y.p x.p) ∧ (∀ z ∈ d2, PairSpec ops.toList x.p z.p)) ∧ (∀ x ∈ dn, ∀ q ∈ rest, PairSpec ops.toList x.p q) ∧ rest.Pairwise (fun x y => pairOk ops.toList x y = true) := by
  have hp := L.pairs
  rw [← e, List.pairwise_append] at hp
  obtain ⟨h1, h2, h3⟩ := hp
  rw [List.pairwise_reverse, List.pairwise_map] at h1
  refine ⟨fun d2 x d1 hd => ?_, fun x hx q hq => pairOk_spec (h3 x.p (by simp; exact ⟨x, hx, rfl⟩) q hq), h2⟩
  rw [hd, List.pairwise_append] at h1
  obtain ⟨_, h4, h5⟩ := h1
  rw [List.pairwise_cons] at h4
  exact ⟨fun y hy => pairOk_spec (h4.1 y hy), fun z hz => pairOk_spec (h5 z hz x (by simp))⟩
theorem dn_mem {dn : List Dn} {rest : List PL} (e : (dn.map (·.p)).reverse ++ rest = pl) {x : Dn} (hx : x ∈ dn) : x.p ∈ pl := by
  rw [← e]; exact List.mem_append.2 (.inl (by simp; exact ⟨x, hx, rfl⟩))
theorem rest_mem {dn : List Dn} {rest : List PL} (e : (dn.map (·.p)).reverse ++ rest = pl) {q : PL} (hq : q ∈ rest) : q ∈ pl := by
  rw [← e]; exact List.mem_append.2 (.inr hq)
theorem dn_apart {dn : List Dn} {rest : List PL} (e : (dn.map (·.p)).reverse ++ rest = pl) {x y : Dn} (hx : x ∈ dn) (hy : y ∈ dn) : x = y ∨ PairSpec ops.toList x.p y.p ∨ PairSpec ops.toList y.p x.p := by
  obtain ⟨d2, d1, hd⟩ := List.append_of_mem hx
  obtain ⟨h1, h2⟩ := (plan_pairs L e).1 d2 x d1 hd
  rw [hd] at hy
  rcases List.mem_append.1 hy with h | h
  · exact .inr (.inl (h2 y h))
  · rcases List.mem_cons.1 h with rfl | h
    · exact .inl rfl
    · exact .inr (.inr (h1 y h))
theorem dn_uniq {dn : List Dn} {rest : List PL} (e : (dn.map (·.p)).reverse ++ rest = pl) {x y : Dn} (hx : x ∈ dn) (hy : y ∈ dn) (hi : x.p.i = y.p.i) : x = y := by
  rcases dn_apart L e hx hy with h | h | h
  · exact h
  · exact absurd hi h.ne
  · exact absurd hi.symm h.ne
theorem dst_uniq {dn : List Dn} {rest : List PL} (e : (dn.map (·.p)).reverse ++ rest = pl) {x y : Dn} (hx : x ∈ dn) (hy : y ∈ dn) {t : Tmp} (h1 : x.p.o.dst = some t) (h2 : y.p.o.dst = some t) : x = y := by
  rcases dn_apart L e hx hy with h | h | h
  · exact h
  · exact absurd h2 (h.un t h1)
  · exact absurd h1 (h.un t h2)
theorem listed_mask {S : Nat → Prop} (hS : Shut ops S) {p : PL} (hp : p ∈ pl) (hl : S p.i) : ∀ j, bit j p.m = true → S j :=
  L.shut S hS p hp (hS p.i p.o (L.src p hp) hl)

variable {cx : Cx} {call : CallF} {Q : AX × St → Prop} {ρ0 : Rho} {h0 : Heap} {w0 : World} {tmps0 : Array Value} {f : Tmp → Option AV}
variable {dn : List Dn} {rest : List PL} {d : DS} {reg : T AV} {loc : Loc} {h : Heap} {dfr : Dfr} {listed : Array Bool} {ρ : Rho} {a : Act} {w : World}

theorem Inv.operand (I : Inv P ops pl cx call Q ρ0 h0 w0 tmps0 f dn rest d reg loc h dfr listed ρ a w) (hf : ∀ t v, f t = some v → ∃ v', tmps0[t]? = some v' ∧ VR ρ0 v v')
    {p : PL} {reg' : T AV} {loc' : Loc} {d1 : List Dn} (hl : ∀ t, look t reg' loc' = lookD f d1 t) (hun : ¬ LSt listed p.i) (hm : ∀ j, bit j p.m = true → LSt listed j)
    (hold : ∀ y ∈ d1, y ∈ dn ∧ PairSpec ops.toList y.p p) (hnew : ∀ z ∈ dn, LSt listed z.p.i → z ∈ d1 ∨ PairSpec ops.toList p z.p)
    {t : Tmp} (ht : t ∈ names ops.toList p.o) {v : AV} (hv : look t reg' loc' = some v) : ∃ v', a.tmps[t]? = some v' ∧ VR ρ v v' := by
  rw [hl] at hv
  rcases lookD_cases hv with ⟨y, h1, h2, h3⟩ | ⟨h1, h2⟩
  · obtain ⟨hy, hp⟩ := hold y h1
    have hyl : LSt listed y.p.i := by
      rcases hp.ap with h4 | ⟨h4, _⟩
      · exact hm _ h4
      · exact absurd ht (h4 t h2)
    rcases I.tmp t with ⟨x, hx, _, hxd, v', g1, g2⟩ | ⟨g1, _⟩
    · have := dst_uniq L I.plan hx hy hxd h2
      subst this
      exact ⟨v', g1, h3 ▸ g2⟩
    · exact absurd h2 (g1 y hy hyl)
  · rcases I.tmp t with ⟨x, hx, hxl, hxd, v', g1, g2⟩ | ⟨_, g2⟩
    · rcases hnew x hx hxl with h3 | h3
      · exact absurd hxd (h1 x h3)
      · rcases h3.ap with h4 | ⟨_, h4⟩
        · exact absurd (listed_mask L I.shut (dn_mem L I.plan hx) hxl _ h4) hun
        · exact absurd ht (h4 t hxd)
    · obtain ⟨v', g3, g4⟩ := hf t v h2
      exact ⟨v', by rw [g2]; exact g3, VR.mono I.ext.le _ _ g4⟩

theorem step_tmp {dn' : List Dn} {rest' : List PL} (e : (dn'.map (·.p)).reverse ++ rest' = pl) {x : Dn} (hx : x ∈ dn') (hsz : x.p.i < listed.size) {tmps : Array Value} {ds : List Deferred} {ρ' : Rho} (hle : Rle ρ ρ') {v' : Value} (hv : VR ρ' x.v v')
    (hlt : ∀ t, x.p.o.dst = some t → t < tmps.size)
    (htmp : ∀ t, (∃ y ∈ dn', LSt listed y.p.i ∧ y.p.o.dst = some t ∧ ∃ v', tmps[t]? = some v' ∧ VR ρ y.v v') ∨ ((∀ y ∈ dn', LSt listed y.p.i → y.p.o.dst ≠ some t) ∧ tmps[t]? = tmps0[t]?)) :
    ∀ t, (∃ y ∈ dn', LSt (listed.setIfInBounds x.p.i true) y.p.i ∧ y.p.o.dst = some t ∧ ∃ u, (Act.put ⟨tmps, ds⟩ x.p.o.dst v').tmps[t]? = some u ∧ VR ρ' y.v u) ∨
      ((∀ y ∈ dn', LSt (listed.setIfInBounds x.p.i true) y.p.i → y.p.o.dst ≠ some t) ∧ (Act.put ⟨tmps, ds⟩ x.p.o.dst v').tmps[t]? = tmps0[t]?) := by
  intro t
  by_cases hd : x.p.o.dst = some t
  · left
    refine ⟨x, hx, (LSt_set hsz).2 (.inr rfl), hd, v', ?_, hv⟩
    rw [hd]
    have := hlt t hd
    simp [Act.put, this]
  · have hput : (Act.put ⟨tmps, ds⟩ x.p.o.dst v').tmps[t]? = tmps[t]? := by
      cases hx' : x.p.o.dst with
      | none => rfl
      | some c =>
        have : c ≠ t := fun q => hd (by rw [hx', q])
        simp [Act.put, Array.getElem?_setIfInBounds_ne this]
    rw [hput]
    rcases htmp t with ⟨y, h1, h2, h3, u, h4, h5⟩ | ⟨h1, h2⟩
    · exact .inl ⟨y, h1, (LSt_set hsz).2 (.inl h2), h3, u, h4, VR.mono hle _ _ h5⟩
    · refine .inr ⟨fun y hy hl => ?_, h2⟩
      rcases (LSt_set hsz).1 hl with h3 | h3
      · exact h1 y hy h3
      · rw [dn_uniq L e hy hx h3]; exact hd

theorem shut_set (hS : Shut ops (LSt listed)) {p : PL} (hp : p ∈ pl) (hsz : p.i < listed.size) (hr : ∀ e ∈ p.o.after, Region.binds .any e = true → LSt listed e.on) : Shut ops (LSt (listed.setIfInBounds p.i true)) := by
  intro j o ho hj e he hb
  rcases (LSt_set hsz).1 hj with h1 | h1
  · exact (LSt_set hsz).2 (.inl (hS j o ho h1 e he hb))
  · subst h1
    rw [L.src p hp] at ho; cases ho
    exact (LSt_set hsz).2 (.inl (hr e he hb))

theorem Inv.list (I : Inv P ops pl cx call Q ρ0 h0 w0 tmps0 f dn rest d reg loc h dfr listed ρ a w) {x : Dn} (hx : x ∈ dn) (hr : ∀ e ∈ x.p.o.after, Region.binds .any e = true → LSt listed e.on)
    {ρ' : Rho} {w' : World} {v' : Value} (hle : Rle ρ ρ') (hv : VR ρ' x.v v') (hsim : Sim ρ' (HX (listed.setIfInBounds x.p.i true) d.pend h) w') (hext : Ext ρ0 h0 w0 ρ' (HX (listed.setIfInBounds x.p.i true) d.pend h) w')
    (hpend : ∀ i b y, (i, b, y) ∈ d.pend → ¬ LSt (listed.setIfInBounds x.p.i true) i → ρ' b = none) :
    Inv P ops pl cx call Q ρ0 h0 w0 tmps0 f dn rest d reg loc h dfr (listed.setIfInBounds x.p.i true) ρ' (a.put x.p.o.dst v') w' := by
  have hxi : x.p.i < listed.size := by
    have := L.src x.p (dn_mem L I.plan hx)
    rw [I.size]
    rcases Nat.lt_or_ge x.p.i ops.size with h1 | h1
    · exact h1
    · rw [Array.getElem?_eq_none h1] at this; cases this
  have ha : a.put x.p.o.dst v' = Act.put ⟨a.tmps, a.defers⟩ x.p.o.dst v' := rfl
  refine ⟨I.plan, I.q, I.wf, I.lk, I.rg, I.dlt, fun i hi => ?_, shut_set L I.shut (dn_mem L I.plan hx) hxi hr, by simp [I.size], ?_, step_tmp L I.plan hx hxi hle hv (fun t ht => Nat.lt_of_lt_of_le (I.dlt x hx t ht) I.tsz) I.tmp, ?_, hsim, hext, fun i b y hm => ?_, I.dist, fun y hy hA => (LSt_set hxi).2 (.inl (I.acts y hy hA)), fun y hy hn hw => I.pr y hy (fun q => hn ((LSt_set hxi).2 (.inl q))) hw⟩
  · rcases (LSt_set hxi).1 hi with h1 | h1
    · exact I.sub i h1
    · exact ⟨x, hx, h1.symm⟩
  · rw [ha]; cases x.p.o.dst <;> simp [Act.put, I.tsz]
  · rw [ha]
    have := I.dfr.mono hle
    cases x.p.o.dst <;> exact this
  · obtain ⟨g1, g2, g3, g4, g5, g6⟩ := I.pend i b y hm
    exact ⟨g1, g2, g3, g4, hpend i b y hm, g6⟩
end
end
end Go.Ev
