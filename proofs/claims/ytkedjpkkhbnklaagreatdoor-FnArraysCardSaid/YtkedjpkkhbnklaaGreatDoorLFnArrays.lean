/- Whatever code the law is given, the law FnArrays returns true and leaves the code as it was. No conditions. The program is reckoned by a proved evaluator, whose answers the kernel works out; the listed variables are those that the card ties. -/
import Derived.Test.YtkedjpkkhbnklaaGreatDoorLbFnArrays
import Derived.Test.YtkedjpkkhbnklaaGreatDoorLaFnArrays
import Derived.Test.YtkedjpkkhbnklaaGreatDoorRrFnArrays
import Derived.Test.YtkedjpkkhbnklaaGreatDoorFFnArrays
import Derived.Test.YtkedjpkkhbnklaaGreatDoorGFnArrays
import Derived.Test.YtkedjpkkhbnklaaGreatDoorRFnArrays0
import Derived.Test.YtkedjpkkhbnklaaGreatDoorRFnArrays1
import Derived.Test.YtkedjpkkhbnklaaGreatDoorRFnArrays2
import Derived.Test.YtkedjpkkhbnklaaGreatDoorRFnArrays3
import Derived.Test.YtkedjpkkhbnklaaGreatDoorRFnArrays4
import Derived.Test.YtkedjpkkhbnklaaGreatDoorRFnArrays5
import Derived.Test.YtkedjpkkhbnklaaGreatDoorRFnArrays6
import Derived.Test.YtkedjpkkhbnklaaGreatDoorRFnArrays7
import Derived.Test.YtkedjpkkhbnklaaGreatDoorRFnArrays8
import Derived.Test.YtkedjpkkhbnklaaGreatDoorRFnArrays9
import Derived.Test.YtkedjpkkhbnklaaGreatDoorRFnArrays10
import Derived.Test.YtkedjpkkhbnklaaGreatDoorRFnArrays11
import Derived.Test.YtkedjpkkhbnklaaGreatDoorRFnArrays12
import Derived.Test.YtkedjpkkhbnklaaGreatDoorRFnArrays13
import Derived.Test.YtkedjpkkhbnklaaGreatDoorRFnArrays14
import Derived.Test.YtkedjpkkhbnklaaGreatDoorRFnArrays15
import Derived.Test.YtkedjpkkhbnklaaGreatDoorRFnArrays16
import Derived.Test.YtkedjpkkhbnklaaGreatDoorRFnArrays17
import Derived.Test.YtkedjpkkhbnklaaGreatDoorRFnArrays18
import Derived.Test.YtkedjpkkhbnklaaGreatDoorRFnArrays19
import Derived.Test.YtkedjpkkhbnklaaGreatDoorRFnArrays20
import Derived.SevenTiedAt
import Derived.Test.YtkedjpkkhbnklaaGreatDoorCards
import Derived.Test.YtkedjpkkhbnklaaGreatDoorTie
set_option linter.all false
namespace Go.Ev
open Go Go.Proofs Go.RowKit
set_option maxRecDepth 100000 in
theorem fnArrays_ok : LawOk 3 := by
  refine ⟨fun {a b c d q W x cap} L => ?_, fun {a b c d W s} L C => ?_⟩
  · have B := orcY_ok rR rI (s := ⟨0, 0, 0, 0, q, fun _ => (0, 0)⟩) L [] (fun p hp => by cases hp)
    exact empty_ent L (ent_ok (P := Tryz.prog) (fu := 100000) (k := 300) (s := ⟨0, 0, 0, 0, q, fun _ => (0, 0)⟩) fnsOk mixed (by decide) codes tab_ok L B (ent_ok (P := Tryz.prog) (fu := 100000) (k := 300) (s := ⟨0, 0, 0, 0, q, fun _ => (0, 0)⟩) fnsOk mixed (by decide) codes tab_ok L B (ent_ok (P := Tryz.prog) (fu := 100000) (k := 300) (s := ⟨0, 0, 0, 0, q, fun _ => (0, 0)⟩) fnsOk mixed (by decide) codes tab_ok L B B eFnArrays0_2 kFnArrays0_2.1 kFnArrays0_2.2 (by rw [qFnArrays0_2]; exact (gFnArrays0_2 a b c d).out)) eFnArrays0_1 kFnArrays0_1.1 kFnArrays0_1.2 (by rw [qFnArrays0_1]; exact (gFnArrays0_1 a b c d).out)) eFnArrays0_0 kFnArrays0_0.1 kFnArrays0_0.2 (by rw [qFnArrays0_0]; exact (gFnArrays0_0 a b c d).out)) (rFnArraysxe a b c d)
  obtain ⟨x1, h1, c1⟩ := C.at_ok 1 (by decide)
  have d1 : x1 = 0 ∨ x1 = 1 ∨ (2 ≤ x1 ∧ x1 ≤ 9) ∨ (10 ≤ x1 ∧ x1 ≤ 99) ∨ (100 ≤ x1 ∧ x1 ≤ 255) := by omega
  rcases d1 with q1 | q1 | q1 | q1 | q1
  · have O := orcY_ok rR rI (s := { s with sy := fun _ => (0, 0) }) L [(1, .int .i64 0)] (fun p hp => by
      simp only [List.mem_cons, List.not_mem_nil, or_false] at hp
      subst hp
      · exact ⟨x1, by rw [q1]; exact VR.nat (by decide), c1⟩)
    have B := orcY_ok rR rI (s := { s with sy := fun _ => (0, 0) }) L [] (fun p hp => by cases hp)
    exact law_ent (s := { s with sy := fun _ => (0, 0) }) L (ent_ok (P := Tryz.prog) (fu := 100000) (k := 300) (s := { s with sy := fun _ => (0, 0) }) fnsOk mixed (by decide) codes tab_ok L B (ent_ok (P := Tryz.prog) (fu := 100000) (k := 300) (s := { s with sy := fun _ => (0, 0) }) fnsOk mixed (by decide) codes tab_ok L B (ent_ok (P := Tryz.prog) (fu := 100000) (k := 300) (s := { s with sy := fun _ => (0, 0) }) fnsOk mixed (by decide) codes tab_ok L B O eFnArrays0_2 kFnArrays0_2.1 kFnArrays0_2.2 (by rw [qFnArrays0_2]; exact (gFnArrays0_2 a b c d).out)) eFnArrays0_1 kFnArrays0_1.1 kFnArrays0_1.2 (by rw [qFnArrays0_1]; exact (gFnArrays0_1 a b c d).out)) eFnArrays0_0 kFnArrays0_0.1 kFnArrays0_0.2 (by rw [qFnArrays0_0]; exact (gFnArrays0_0 a b c d).out)) (rFnArraysx0 a b c d)
  · have O := orcY_ok rR rI (s := { s with sy := fun _ => (0, 0) }) L [(1, .int .i64 1)] (fun p hp => by
      simp only [List.mem_cons, List.not_mem_nil, or_false] at hp
      subst hp
      · exact ⟨x1, by rw [q1]; exact VR.nat (by decide), c1⟩)
    have B := orcY_ok rR rI (s := { s with sy := fun _ => (0, 0) }) L [] (fun p hp => by cases hp)
    exact law_ent (s := { s with sy := fun _ => (0, 0) }) L (ent_ok (P := Tryz.prog) (fu := 100000) (k := 300) (s := { s with sy := fun _ => (0, 0) }) fnsOk mixed (by decide) codes tab_ok L B (ent_ok (P := Tryz.prog) (fu := 100000) (k := 300) (s := { s with sy := fun _ => (0, 0) }) fnsOk mixed (by decide) codes tab_ok L B (ent_ok (P := Tryz.prog) (fu := 100000) (k := 300) (s := { s with sy := fun _ => (0, 0) }) fnsOk mixed (by decide) codes tab_ok L B O eFnArrays1_2 kFnArrays1_2.1 kFnArrays1_2.2 (by rw [qFnArrays1_2]; exact (gFnArrays1_2 a b c d).out)) eFnArrays1_1 kFnArrays1_1.1 kFnArrays1_1.2 (by rw [qFnArrays1_1]; exact (gFnArrays1_1 a b c d).out)) eFnArrays1_0 kFnArrays1_0.1 kFnArrays1_0.2 (by rw [qFnArrays1_0]; exact (gFnArrays1_0 a b c d).out)) (rFnArraysx1 a b c d)
  · have O := orcY_ok rR rI (s := { s with sy := fun b => if b = 60 then (x1 - 2, 0) else (fun _ => (0, 0)) b }) L [(1, .sint .i64 2 [⟨1, 60, 7, 0⟩])] (fun p hp => by
      simp only [List.mem_cons, List.not_mem_nil, or_false] at hp
      subst hp
      · exact ⟨x1, VR.sint_iff.2 ⟨1 * (x1 - 2) + (0), by congr 1; omega, ⟨x1 - 2, 0, 0, rfl, (by show x1 - 2 ≤ 7; omega), .inl rfl, rfl, rfl⟩, by decide⟩, c1⟩)
    have B := orcY_ok rR rI (s := { s with sy := fun b => if b = 60 then (x1 - 2, 0) else (fun _ => (0, 0)) b }) L [] (fun p hp => by cases hp)
    exact law_ent (s := { s with sy := fun b => if b = 60 then (x1 - 2, 0) else (fun _ => (0, 0)) b }) L (ent_ok (P := Tryz.prog) (fu := 100000) (k := 300) (s := { s with sy := fun b => if b = 60 then (x1 - 2, 0) else (fun _ => (0, 0)) b }) fnsOk mixed (by decide) codes tab_ok L B (ent_ok (P := Tryz.prog) (fu := 100000) (k := 300) (s := { s with sy := fun b => if b = 60 then (x1 - 2, 0) else (fun _ => (0, 0)) b }) fnsOk mixed (by decide) codes tab_ok L B (ent_ok (P := Tryz.prog) (fu := 100000) (k := 300) (s := { s with sy := fun b => if b = 60 then (x1 - 2, 0) else (fun _ => (0, 0)) b }) fnsOk mixed (by decide) codes tab_ok L B O eFnArrays2_2 kFnArrays2_2.1 kFnArrays2_2.2 (by rw [qFnArrays2_2]; exact (gFnArrays2_2 a b c d).out)) eFnArrays2_1 kFnArrays2_1.1 kFnArrays2_1.2 (by rw [qFnArrays2_1]; exact (gFnArrays2_1 a b c d).out)) eFnArrays2_0 kFnArrays2_0.1 kFnArrays2_0.2 (by rw [qFnArrays2_0]; exact (gFnArrays2_0 a b c d).out)) (rFnArraysx2 a b c d)
  · have O := orcY_ok rR rI (s := { s with sy := fun b => if b = 60 then (x1 / 10 - 1, 0) else (fun b => if b = 61 then (x1 % 10, 0) else (fun _ => (0, 0)) b) b }) L [(1, .sint .i64 10 [⟨10, 60, 8, 0⟩, ⟨1, 61, 9, 0⟩])] (fun p hp => by
      simp only [List.mem_cons, List.not_mem_nil, or_false] at hp
      subst hp
      · exact ⟨x1, VR.sint_iff.2 ⟨10 * (x1 / 10 - 1) + (1 * (x1 % 10) + (0)), by congr 1; omega, ⟨x1 / 10 - 1, 0, 1 * (x1 % 10) + (0), rfl, (by show x1 / 10 - 1 ≤ 8; omega), .inl rfl, ⟨x1 % 10, 0, 0, rfl, (by show x1 % 10 ≤ 9; omega), .inl rfl, rfl, rfl⟩, rfl⟩, by decide⟩, c1⟩)
    have B := orcY_ok rR rI (s := { s with sy := fun b => if b = 60 then (x1 / 10 - 1, 0) else (fun b => if b = 61 then (x1 % 10, 0) else (fun _ => (0, 0)) b) b }) L [] (fun p hp => by cases hp)
    exact law_ent (s := { s with sy := fun b => if b = 60 then (x1 / 10 - 1, 0) else (fun b => if b = 61 then (x1 % 10, 0) else (fun _ => (0, 0)) b) b }) L (ent_ok (P := Tryz.prog) (fu := 100000) (k := 300) (s := { s with sy := fun b => if b = 60 then (x1 / 10 - 1, 0) else (fun b => if b = 61 then (x1 % 10, 0) else (fun _ => (0, 0)) b) b }) fnsOk mixed (by decide) codes tab_ok L B (ent_ok (P := Tryz.prog) (fu := 100000) (k := 300) (s := { s with sy := fun b => if b = 60 then (x1 / 10 - 1, 0) else (fun b => if b = 61 then (x1 % 10, 0) else (fun _ => (0, 0)) b) b }) fnsOk mixed (by decide) codes tab_ok L B (ent_ok (P := Tryz.prog) (fu := 100000) (k := 300) (s := { s with sy := fun b => if b = 60 then (x1 / 10 - 1, 0) else (fun b => if b = 61 then (x1 % 10, 0) else (fun _ => (0, 0)) b) b }) fnsOk mixed (by decide) codes tab_ok L B O eFnArrays3_2 kFnArrays3_2.1 kFnArrays3_2.2 (by rw [qFnArrays3_2]; exact (gFnArrays3_2 a b c d).out)) eFnArrays3_1 kFnArrays3_1.1 kFnArrays3_1.2 (by rw [qFnArrays3_1]; exact (gFnArrays3_1 a b c d).out)) eFnArrays3_0 kFnArrays3_0.1 kFnArrays3_0.2 (by rw [qFnArrays3_0]; exact (gFnArrays3_0 a b c d).out)) (rFnArraysx3 a b c d)
  · have O := orcY_ok rR rI (s := { s with sy := fun b => if b = 60 then (x1 / 100 - 1, 0) else (fun b => if b = 61 then (x1 / 10 % 10, 0) else (fun b => if b = 62 then (x1 % 10, 0) else (fun _ => (0, 0)) b) b) b }) L [(1, .sint .i64 100 [⟨100, 60, 1, 0⟩, ⟨10, 61, 9, 0⟩, ⟨1, 62, 9, 0⟩])] (fun p hp => by
      simp only [List.mem_cons, List.not_mem_nil, or_false] at hp
      subst hp
      · exact ⟨x1, VR.sint_iff.2 ⟨100 * (x1 / 100 - 1) + (10 * (x1 / 10 % 10) + (1 * (x1 % 10) + (0))), by congr 1; omega, ⟨x1 / 100 - 1, 0, 10 * (x1 / 10 % 10) + (1 * (x1 % 10) + (0)), rfl, (by show x1 / 100 - 1 ≤ 1; omega), .inl rfl, ⟨x1 / 10 % 10, 0, 1 * (x1 % 10) + (0), rfl, (by show x1 / 10 % 10 ≤ 9; omega), .inl rfl, ⟨x1 % 10, 0, 0, rfl, (by show x1 % 10 ≤ 9; omega), .inl rfl, rfl, rfl⟩, rfl⟩, rfl⟩, by decide⟩, c1⟩)
    have B := orcY_ok rR rI (s := { s with sy := fun b => if b = 60 then (x1 / 100 - 1, 0) else (fun b => if b = 61 then (x1 / 10 % 10, 0) else (fun b => if b = 62 then (x1 % 10, 0) else (fun _ => (0, 0)) b) b) b }) L [] (fun p hp => by cases hp)
    exact law_ent (s := { s with sy := fun b => if b = 60 then (x1 / 100 - 1, 0) else (fun b => if b = 61 then (x1 / 10 % 10, 0) else (fun b => if b = 62 then (x1 % 10, 0) else (fun _ => (0, 0)) b) b) b }) L (ent_ok (P := Tryz.prog) (fu := 100000) (k := 300) (s := { s with sy := fun b => if b = 60 then (x1 / 100 - 1, 0) else (fun b => if b = 61 then (x1 / 10 % 10, 0) else (fun b => if b = 62 then (x1 % 10, 0) else (fun _ => (0, 0)) b) b) b }) fnsOk mixed (by decide) codes tab_ok L B (ent_ok (P := Tryz.prog) (fu := 100000) (k := 300) (s := { s with sy := fun b => if b = 60 then (x1 / 100 - 1, 0) else (fun b => if b = 61 then (x1 / 10 % 10, 0) else (fun b => if b = 62 then (x1 % 10, 0) else (fun _ => (0, 0)) b) b) b }) fnsOk mixed (by decide) codes tab_ok L B (ent_ok (P := Tryz.prog) (fu := 100000) (k := 300) (s := { s with sy := fun b => if b = 60 then (x1 / 100 - 1, 0) else (fun b => if b = 61 then (x1 / 10 % 10, 0) else (fun b => if b = 62 then (x1 % 10, 0) else (fun _ => (0, 0)) b) b) b }) fnsOk mixed (by decide) codes tab_ok L B O eFnArrays4_2 kFnArrays4_2.1 kFnArrays4_2.2 (by rw [qFnArrays4_2]; exact (gFnArrays4_2 a b c d).out)) eFnArrays4_1 kFnArrays4_1.1 kFnArrays4_1.2 (by rw [qFnArrays4_1]; exact (gFnArrays4_1 a b c d).out)) eFnArrays4_0 kFnArrays4_0.1 kFnArrays4_0.2 (by rw [qFnArrays4_0]; exact (gFnArrays4_0 a b c d).out)) (rFnArraysx4 a b c d)
end Go.Ev
namespace Go.Proofs.YtkedjpkkhbnklaaGreatDoor.fnArrays
open Go Go.Ev Go.RowKit Go.ChangeShapes Go.WideShapes Go.ChangeAt
set_option maxRecDepth 100000 in
theorem lifted (os : Os) (started : os.Started) (H : Type) (enc : TypeId × Value → H) :
    ReturnsInHanded {} Tryz.checked os 3 .any (fun w args => (Rows.fnArraysSpec.pre enc Tryz.prog Tryz.f3 [] false w args ∧ laidMetH Tryz.prog laidL w) ∧ sizedMet enc Tryz.prog Tryz.f3 (OpenSpec.ofChange Rows.fnArraysSpec) false w args)
      (Rows.fnArraysSpec.post enc Tryz.prog Tryz.f3 false true false false) := by
  refine returnsInHanded_of_change_and (C := Tryz.checked) (X := fun w _ => laidMetH Tryz.prog laidL w) (fun _ _ _ hh h => h.of_heap hh) own started (by kernel_rfl) Tryz.func3
    (ChangeSpec.witness_shaped (enc := enc) (C := Tryz.checked) (os := os) (X := fun w _ => laidMetH Tryz.prog laidL w) false (World.laidAll Tryz.prog os laidL) #[.slice none 0 0] 8 (World.laidAll_os _ _ _)
      (World.shaped_of_ZipB (by kernel_rfl) (by kernel_rfl)) (by kernel_rfl) (by kernel_rfl) (by kernel_rfl)
      (by rw [MakeChecks.laidMetH_plain _ _ _ (by kernel_rfl)]; exact laidMet_laidAll _ (by kernel_rfl) (by kernel_rfl))) ?_
  intro W base args ds gs before hval0 hW _ _ hL _
  have hW' := hW
  obtain ⟨p, q, hA0, hV, rfl, _, _⟩ := hW
  have hA : DataW.TrodAll enc Tryz.prog W 0 (fun _ => true) true Tryz.f3.params.toList args.toList ds p := hA0
  rw [Tryz.params3] at hA
  obtain ⟨v0, d0, rfl, rfl, h0⟩ := trodAll_one hA
  obtain ⟨rfl, rfl⟩ := trodVars_none hV
  have hval := hval0 0 22 v0 (by rw [Tryz.params3]; rfl) rfl
  obtain ⟨a0, len, cap, rfl⟩ := okWide_slice Tryz.underlying22 hval
  have h0k := h0
  obtain ⟨fuel, hf⟩ := h0
  simp only [List.append_nil] at hW'
  have hlt : ∀ x ∈ p, x.block < W.heap.size := fun x hx => by simpa using hW'.lt x hx
  refine (law_any fnArrays_ok hL (by simpa [Value.cells] using hf)).mono fun e W' ⟨he, hb⟩ => ?_
  subst he
  exact ⟨_, rfl, _, _, _, [], _, [], hW', trodAll_mk1 (shut_bool Tryz.underlying4 _), trodAll_mk1 (Below.trod laidOut (by kernel_rfl) (of_decide_eq_true (by kernel_rfl)) h0k hb hlt), rfl, hb.frame _, fun h => by cases h⟩
theorem over : Rows.fnArraysRow.holds Tryz.pinned (OpenSpec.ofChange Rows.fnArraysSpec) :=
  OpenClaim.holds_of_wide 3 Tryz.f3 rfl rfl rfl rfl rfl rfl rfl ⟨rfl, rfl, rfl, rfl, rfl⟩ rfl rfl rfl rfl rfl (by kernel_rfl) Tryz.func3 closed
    (of_decide_eq_true (by kernel_rfl)) (by unfold Func.isWrapper; first | (rw [if_pos (by decide +kernel)]; kernel_rfl) | (rw [if_neg (by decide +kernel)]; exact ⟨rfl, rfl⟩))
    (fun os started H enc _ => lifted os started H enc)
theorem card_holds : Rows.FnArraysCardSaid :=
  Claim7.holds_tied_plain_at .later [] [.data, .data, .data, .data, .sentinel, .sentinel, .pinned] true (true, "1340292e04382b343d8a065225ffe52c8b9efa5a475810cb4a6c1a387c48a657") true
    over (fun _ h => by cases h) wf (fun _ h => by cases h) fnArrays_row_tie rfl ⟨rfl, rfl⟩ (by kernel_rfl) rfl
    (fun f fn hf hfn => by
      obtain rfl : f = 3 := Option.some.inj ((show Tryz.prog.funcNamed "loop.example/g00700/laws.FnArrays" = some 3 by kernel_rfl).symm.trans hf) |>.symm
      obtain rfl : fn = Tryz.f3 := (Option.some.inj (Tryz.func3.symm.trans hfn)).symm
      exact ⟨looks, fun j t ht => by
        rw [Tryz.params3] at ht
        have hm : t ∈ [22] := by simpa using Array.mem_of_getElem? ht
        exact (show Tryz.prog.wantsStandIn t = false by simpa using List.all_eq_true.1 ws22 t hm)⟩)
    goes
end Go.Proofs.YtkedjpkkhbnklaaGreatDoor.fnArrays
namespace Go.Proofs.YtkedjpkkhbnklaaGreatDoor
theorem fnArrays_card : Rows.FnArraysCardSaid := fnArrays.card_holds
#print axioms fnArrays_card
end Go.Proofs.YtkedjpkkhbnklaaGreatDoor
