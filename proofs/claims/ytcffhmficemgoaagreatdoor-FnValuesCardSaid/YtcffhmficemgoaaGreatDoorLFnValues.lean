/- Whatever code the law is given, the law FnValues returns true and leaves the code as it was. No conditions. The program is reckoned by a proved evaluator, whose answers the kernel works out; the listed variables are those that the card ties. -/
import Derived.Test.YtcffhmficemgoaaGreatDoorLb
import Derived.Test.YtcffhmficemgoaaGreatDoorLa
import Derived.Test.YtcffhmficemgoaaGreatDoorRr
import Derived.Test.YtcffhmficemgoaaGreatDoorFFnValues
import Derived.Test.YtcffhmficemgoaaGreatDoorGFnValues
import Derived.Test.YtcffhmficemgoaaGreatDoorRFnValues0
import Derived.Test.YtcffhmficemgoaaGreatDoorRFnValues1
import Derived.Test.YtcffhmficemgoaaGreatDoorRFnValues2
import Derived.Test.YtcffhmficemgoaaGreatDoorRFnValues3
import Derived.Test.YtcffhmficemgoaaGreatDoorRFnValues4
import Derived.Test.YtcffhmficemgoaaGreatDoorRFnValues5
import Derived.Test.YtcffhmficemgoaaGreatDoorRFnValues6
import Derived.Test.YtcffhmficemgoaaGreatDoorRFnValues7
import Derived.Test.YtcffhmficemgoaaGreatDoorRFnValues8
import Derived.SevenTiedAt
import Derived.Test.YtcffhmficemgoaaGreatDoorCards
import Derived.Test.YtcffhmficemgoaaGreatDoorTie
set_option linter.all false
namespace Go.Ev
open Go Go.Proofs Go.RowKit
set_option maxRecDepth 100000 in
theorem fnValues_ok : LawOk 6 := by
  refine ⟨fun L => empty_ok rR L rFnValuesxe, fun {a b c d W s} L C => ?_⟩
  obtain ⟨x1, h1, c1⟩ := C.at_ok 1 (by decide)
  obtain ⟨x2, h2, c2⟩ := C.at_ok 2 (by decide)
  have d1 : (0 ≤ x1 ∧ x1 ≤ 9) ∨ (10 ≤ x1 ∧ x1 ≤ 99) ∨ (100 ≤ x1 ∧ x1 ≤ 255) := by omega
  have d2 : (0 ≤ x2 ∧ x2 ≤ 9) ∨ (10 ≤ x2 ∧ x2 ≤ 99) ∨ (100 ≤ x2 ∧ x2 ≤ 255) := by omega
  rcases d1 with q1 | q1 | q1
  · rcases d2 with q2 | q2 | q2
    · refine law_sym rR rI (s := { s with sy := fun b => if b = 60 then (x1 - 0, 0) else (fun b => if b = 70 then (x2 - 0, 0) else (fun _ => (0, 0)) b) b }) L [(1, .sint .i64 0 [⟨1, 60, 9, 0⟩]), (2, .sint .i64 0 [⟨1, 70, 9, 0⟩])] (fun p hp => ?_) rFnValuesx0
      simp only [List.mem_cons, List.not_mem_nil, or_false] at hp
      rcases hp with rfl | rfl
      · exact ⟨x1, VR.sint_iff.2 ⟨1 * (x1 - 0) + (0), by congr 1; omega, ⟨x1 - 0, 0, 0, rfl, (by show x1 - 0 ≤ 9; omega), .inl rfl, rfl, rfl⟩, by decide⟩, c1⟩
      · exact ⟨x2, VR.sint_iff.2 ⟨1 * (x2 - 0) + (0), by congr 1; omega, ⟨x2 - 0, 0, 0, rfl, (by show x2 - 0 ≤ 9; omega), .inl rfl, rfl, rfl⟩, by decide⟩, c2⟩
    · refine law_sym rR rI (s := { s with sy := fun b => if b = 60 then (x1 - 0, 0) else (fun b => if b = 70 then (x2 / 10 - 1, 0) else (fun b => if b = 71 then (x2 % 10, 0) else (fun _ => (0, 0)) b) b) b }) L [(1, .sint .i64 0 [⟨1, 60, 9, 0⟩]), (2, .sint .i64 10 [⟨10, 70, 8, 0⟩, ⟨1, 71, 9, 0⟩])] (fun p hp => ?_) rFnValuesx1
      simp only [List.mem_cons, List.not_mem_nil, or_false] at hp
      rcases hp with rfl | rfl
      · exact ⟨x1, VR.sint_iff.2 ⟨1 * (x1 - 0) + (0), by congr 1; omega, ⟨x1 - 0, 0, 0, rfl, (by show x1 - 0 ≤ 9; omega), .inl rfl, rfl, rfl⟩, by decide⟩, c1⟩
      · exact ⟨x2, VR.sint_iff.2 ⟨10 * (x2 / 10 - 1) + (1 * (x2 % 10) + (0)), by congr 1; omega, ⟨x2 / 10 - 1, 0, 1 * (x2 % 10) + (0), rfl, (by show x2 / 10 - 1 ≤ 8; omega), .inl rfl, ⟨x2 % 10, 0, 0, rfl, (by show x2 % 10 ≤ 9; omega), .inl rfl, rfl, rfl⟩, rfl⟩, by decide⟩, c2⟩
    · refine law_sym rR rI (s := { s with sy := fun b => if b = 60 then (x1 - 0, 0) else (fun b => if b = 70 then (x2 / 100 - 1, 0) else (fun b => if b = 71 then (x2 / 10 % 10, 0) else (fun b => if b = 72 then (x2 % 10, 0) else (fun _ => (0, 0)) b) b) b) b }) L [(1, .sint .i64 0 [⟨1, 60, 9, 0⟩]), (2, .sint .i64 100 [⟨100, 70, 1, 0⟩, ⟨10, 71, 9, 0⟩, ⟨1, 72, 9, 0⟩])] (fun p hp => ?_) rFnValuesx2
      simp only [List.mem_cons, List.not_mem_nil, or_false] at hp
      rcases hp with rfl | rfl
      · exact ⟨x1, VR.sint_iff.2 ⟨1 * (x1 - 0) + (0), by congr 1; omega, ⟨x1 - 0, 0, 0, rfl, (by show x1 - 0 ≤ 9; omega), .inl rfl, rfl, rfl⟩, by decide⟩, c1⟩
      · exact ⟨x2, VR.sint_iff.2 ⟨100 * (x2 / 100 - 1) + (10 * (x2 / 10 % 10) + (1 * (x2 % 10) + (0))), by congr 1; omega, ⟨x2 / 100 - 1, 0, 10 * (x2 / 10 % 10) + (1 * (x2 % 10) + (0)), rfl, (by show x2 / 100 - 1 ≤ 1; omega), .inl rfl, ⟨x2 / 10 % 10, 0, 1 * (x2 % 10) + (0), rfl, (by show x2 / 10 % 10 ≤ 9; omega), .inl rfl, ⟨x2 % 10, 0, 0, rfl, (by show x2 % 10 ≤ 9; omega), .inl rfl, rfl, rfl⟩, rfl⟩, rfl⟩, by decide⟩, c2⟩
  · rcases d2 with q2 | q2 | q2
    · refine law_sym rR rI (s := { s with sy := fun b => if b = 60 then (x1 / 10 - 1, 0) else (fun b => if b = 61 then (x1 % 10, 0) else (fun b => if b = 70 then (x2 - 0, 0) else (fun _ => (0, 0)) b) b) b }) L [(1, .sint .i64 10 [⟨10, 60, 8, 0⟩, ⟨1, 61, 9, 0⟩]), (2, .sint .i64 0 [⟨1, 70, 9, 0⟩])] (fun p hp => ?_) rFnValuesx3
      simp only [List.mem_cons, List.not_mem_nil, or_false] at hp
      rcases hp with rfl | rfl
      · exact ⟨x1, VR.sint_iff.2 ⟨10 * (x1 / 10 - 1) + (1 * (x1 % 10) + (0)), by congr 1; omega, ⟨x1 / 10 - 1, 0, 1 * (x1 % 10) + (0), rfl, (by show x1 / 10 - 1 ≤ 8; omega), .inl rfl, ⟨x1 % 10, 0, 0, rfl, (by show x1 % 10 ≤ 9; omega), .inl rfl, rfl, rfl⟩, rfl⟩, by decide⟩, c1⟩
      · exact ⟨x2, VR.sint_iff.2 ⟨1 * (x2 - 0) + (0), by congr 1; omega, ⟨x2 - 0, 0, 0, rfl, (by show x2 - 0 ≤ 9; omega), .inl rfl, rfl, rfl⟩, by decide⟩, c2⟩
    · refine law_sym rR rI (s := { s with sy := fun b => if b = 60 then (x1 / 10 - 1, 0) else (fun b => if b = 61 then (x1 % 10, 0) else (fun b => if b = 70 then (x2 / 10 - 1, 0) else (fun b => if b = 71 then (x2 % 10, 0) else (fun _ => (0, 0)) b) b) b) b }) L [(1, .sint .i64 10 [⟨10, 60, 8, 0⟩, ⟨1, 61, 9, 0⟩]), (2, .sint .i64 10 [⟨10, 70, 8, 0⟩, ⟨1, 71, 9, 0⟩])] (fun p hp => ?_) rFnValuesx4
      simp only [List.mem_cons, List.not_mem_nil, or_false] at hp
      rcases hp with rfl | rfl
      · exact ⟨x1, VR.sint_iff.2 ⟨10 * (x1 / 10 - 1) + (1 * (x1 % 10) + (0)), by congr 1; omega, ⟨x1 / 10 - 1, 0, 1 * (x1 % 10) + (0), rfl, (by show x1 / 10 - 1 ≤ 8; omega), .inl rfl, ⟨x1 % 10, 0, 0, rfl, (by show x1 % 10 ≤ 9; omega), .inl rfl, rfl, rfl⟩, rfl⟩, by decide⟩, c1⟩
      · exact ⟨x2, VR.sint_iff.2 ⟨10 * (x2 / 10 - 1) + (1 * (x2 % 10) + (0)), by congr 1; omega, ⟨x2 / 10 - 1, 0, 1 * (x2 % 10) + (0), rfl, (by show x2 / 10 - 1 ≤ 8; omega), .inl rfl, ⟨x2 % 10, 0, 0, rfl, (by show x2 % 10 ≤ 9; omega), .inl rfl, rfl, rfl⟩, rfl⟩, by decide⟩, c2⟩
    · refine law_sym rR rI (s := { s with sy := fun b => if b = 60 then (x1 / 10 - 1, 0) else (fun b => if b = 61 then (x1 % 10, 0) else (fun b => if b = 70 then (x2 / 100 - 1, 0) else (fun b => if b = 71 then (x2 / 10 % 10, 0) else (fun b => if b = 72 then (x2 % 10, 0) else (fun _ => (0, 0)) b) b) b) b) b }) L [(1, .sint .i64 10 [⟨10, 60, 8, 0⟩, ⟨1, 61, 9, 0⟩]), (2, .sint .i64 100 [⟨100, 70, 1, 0⟩, ⟨10, 71, 9, 0⟩, ⟨1, 72, 9, 0⟩])] (fun p hp => ?_) rFnValuesx5
      simp only [List.mem_cons, List.not_mem_nil, or_false] at hp
      rcases hp with rfl | rfl
      · exact ⟨x1, VR.sint_iff.2 ⟨10 * (x1 / 10 - 1) + (1 * (x1 % 10) + (0)), by congr 1; omega, ⟨x1 / 10 - 1, 0, 1 * (x1 % 10) + (0), rfl, (by show x1 / 10 - 1 ≤ 8; omega), .inl rfl, ⟨x1 % 10, 0, 0, rfl, (by show x1 % 10 ≤ 9; omega), .inl rfl, rfl, rfl⟩, rfl⟩, by decide⟩, c1⟩
      · exact ⟨x2, VR.sint_iff.2 ⟨100 * (x2 / 100 - 1) + (10 * (x2 / 10 % 10) + (1 * (x2 % 10) + (0))), by congr 1; omega, ⟨x2 / 100 - 1, 0, 10 * (x2 / 10 % 10) + (1 * (x2 % 10) + (0)), rfl, (by show x2 / 100 - 1 ≤ 1; omega), .inl rfl, ⟨x2 / 10 % 10, 0, 1 * (x2 % 10) + (0), rfl, (by show x2 / 10 % 10 ≤ 9; omega), .inl rfl, ⟨x2 % 10, 0, 0, rfl, (by show x2 % 10 ≤ 9; omega), .inl rfl, rfl, rfl⟩, rfl⟩, rfl⟩, by decide⟩, c2⟩
  · rcases d2 with q2 | q2 | q2
    · refine law_sym rR rI (s := { s with sy := fun b => if b = 60 then (x1 / 100 - 1, 0) else (fun b => if b = 61 then (x1 / 10 % 10, 0) else (fun b => if b = 62 then (x1 % 10, 0) else (fun b => if b = 70 then (x2 - 0, 0) else (fun _ => (0, 0)) b) b) b) b }) L [(1, .sint .i64 100 [⟨100, 60, 1, 0⟩, ⟨10, 61, 9, 0⟩, ⟨1, 62, 9, 0⟩]), (2, .sint .i64 0 [⟨1, 70, 9, 0⟩])] (fun p hp => ?_) rFnValuesx6
      simp only [List.mem_cons, List.not_mem_nil, or_false] at hp
      rcases hp with rfl | rfl
      · exact ⟨x1, VR.sint_iff.2 ⟨100 * (x1 / 100 - 1) + (10 * (x1 / 10 % 10) + (1 * (x1 % 10) + (0))), by congr 1; omega, ⟨x1 / 100 - 1, 0, 10 * (x1 / 10 % 10) + (1 * (x1 % 10) + (0)), rfl, (by show x1 / 100 - 1 ≤ 1; omega), .inl rfl, ⟨x1 / 10 % 10, 0, 1 * (x1 % 10) + (0), rfl, (by show x1 / 10 % 10 ≤ 9; omega), .inl rfl, ⟨x1 % 10, 0, 0, rfl, (by show x1 % 10 ≤ 9; omega), .inl rfl, rfl, rfl⟩, rfl⟩, rfl⟩, by decide⟩, c1⟩
      · exact ⟨x2, VR.sint_iff.2 ⟨1 * (x2 - 0) + (0), by congr 1; omega, ⟨x2 - 0, 0, 0, rfl, (by show x2 - 0 ≤ 9; omega), .inl rfl, rfl, rfl⟩, by decide⟩, c2⟩
    · refine law_sym rR rI (s := { s with sy := fun b => if b = 60 then (x1 / 100 - 1, 0) else (fun b => if b = 61 then (x1 / 10 % 10, 0) else (fun b => if b = 62 then (x1 % 10, 0) else (fun b => if b = 70 then (x2 / 10 - 1, 0) else (fun b => if b = 71 then (x2 % 10, 0) else (fun _ => (0, 0)) b) b) b) b) b }) L [(1, .sint .i64 100 [⟨100, 60, 1, 0⟩, ⟨10, 61, 9, 0⟩, ⟨1, 62, 9, 0⟩]), (2, .sint .i64 10 [⟨10, 70, 8, 0⟩, ⟨1, 71, 9, 0⟩])] (fun p hp => ?_) rFnValuesx7
      simp only [List.mem_cons, List.not_mem_nil, or_false] at hp
      rcases hp with rfl | rfl
      · exact ⟨x1, VR.sint_iff.2 ⟨100 * (x1 / 100 - 1) + (10 * (x1 / 10 % 10) + (1 * (x1 % 10) + (0))), by congr 1; omega, ⟨x1 / 100 - 1, 0, 10 * (x1 / 10 % 10) + (1 * (x1 % 10) + (0)), rfl, (by show x1 / 100 - 1 ≤ 1; omega), .inl rfl, ⟨x1 / 10 % 10, 0, 1 * (x1 % 10) + (0), rfl, (by show x1 / 10 % 10 ≤ 9; omega), .inl rfl, ⟨x1 % 10, 0, 0, rfl, (by show x1 % 10 ≤ 9; omega), .inl rfl, rfl, rfl⟩, rfl⟩, rfl⟩, by decide⟩, c1⟩
      · exact ⟨x2, VR.sint_iff.2 ⟨10 * (x2 / 10 - 1) + (1 * (x2 % 10) + (0)), by congr 1; omega, ⟨x2 / 10 - 1, 0, 1 * (x2 % 10) + (0), rfl, (by show x2 / 10 - 1 ≤ 8; omega), .inl rfl, ⟨x2 % 10, 0, 0, rfl, (by show x2 % 10 ≤ 9; omega), .inl rfl, rfl, rfl⟩, rfl⟩, by decide⟩, c2⟩
    · refine law_sym rR rI (s := { s with sy := fun b => if b = 60 then (x1 / 100 - 1, 0) else (fun b => if b = 61 then (x1 / 10 % 10, 0) else (fun b => if b = 62 then (x1 % 10, 0) else (fun b => if b = 70 then (x2 / 100 - 1, 0) else (fun b => if b = 71 then (x2 / 10 % 10, 0) else (fun b => if b = 72 then (x2 % 10, 0) else (fun _ => (0, 0)) b) b) b) b) b) b }) L [(1, .sint .i64 100 [⟨100, 60, 1, 0⟩, ⟨10, 61, 9, 0⟩, ⟨1, 62, 9, 0⟩]), (2, .sint .i64 100 [⟨100, 70, 1, 0⟩, ⟨10, 71, 9, 0⟩, ⟨1, 72, 9, 0⟩])] (fun p hp => ?_) rFnValuesx8
      simp only [List.mem_cons, List.not_mem_nil, or_false] at hp
      rcases hp with rfl | rfl
      · exact ⟨x1, VR.sint_iff.2 ⟨100 * (x1 / 100 - 1) + (10 * (x1 / 10 % 10) + (1 * (x1 % 10) + (0))), by congr 1; omega, ⟨x1 / 100 - 1, 0, 10 * (x1 / 10 % 10) + (1 * (x1 % 10) + (0)), rfl, (by show x1 / 100 - 1 ≤ 1; omega), .inl rfl, ⟨x1 / 10 % 10, 0, 1 * (x1 % 10) + (0), rfl, (by show x1 / 10 % 10 ≤ 9; omega), .inl rfl, ⟨x1 % 10, 0, 0, rfl, (by show x1 % 10 ≤ 9; omega), .inl rfl, rfl, rfl⟩, rfl⟩, rfl⟩, by decide⟩, c1⟩
      · exact ⟨x2, VR.sint_iff.2 ⟨100 * (x2 / 100 - 1) + (10 * (x2 / 10 % 10) + (1 * (x2 % 10) + (0))), by congr 1; omega, ⟨x2 / 100 - 1, 0, 10 * (x2 / 10 % 10) + (1 * (x2 % 10) + (0)), rfl, (by show x2 / 100 - 1 ≤ 1; omega), .inl rfl, ⟨x2 / 10 % 10, 0, 1 * (x2 % 10) + (0), rfl, (by show x2 / 10 % 10 ≤ 9; omega), .inl rfl, ⟨x2 % 10, 0, 0, rfl, (by show x2 % 10 ≤ 9; omega), .inl rfl, rfl, rfl⟩, rfl⟩, rfl⟩, by decide⟩, c2⟩
end Go.Ev
namespace Go.Proofs.YtcffhmficemgoaaGreatDoor.fnValues
open Go Go.Ev Go.RowKit Go.ChangeShapes Go.WideShapes Go.ChangeAt
set_option maxRecDepth 100000 in
theorem lifted (os : Os) (started : os.Started) (H : Type) (enc : TypeId × Value → H) :
    ReturnsInHanded {} Tryz.checked os 6 .any (fun w args => (Rows.fnValuesSpec.pre enc Tryz.prog Tryz.f6 [] false w args ∧ laidMetH Tryz.prog laidL w) ∧ sizedMet enc Tryz.prog Tryz.f6 (OpenSpec.ofChange Rows.fnValuesSpec) false w args)
      (Rows.fnValuesSpec.post enc Tryz.prog Tryz.f6 false true false false) := by
  refine returnsInHanded_of_change_and (C := Tryz.checked) (X := fun w _ => laidMetH Tryz.prog laidL w) (fun _ _ _ hh h => h.of_heap hh) own started (by kernel_rfl) Tryz.func6
    (ChangeSpec.witness_shaped (enc := enc) (C := Tryz.checked) (os := os) (X := fun w _ => laidMetH Tryz.prog laidL w) false (World.laidAll Tryz.prog os laidL) #[.slice none 0 0] 8 (World.laidAll_os _ _ _)
      (World.shaped_of_ZipB (by kernel_rfl) (by kernel_rfl)) (by kernel_rfl) (by kernel_rfl) (by kernel_rfl)
      (by rw [MakeChecks.laidMetH_plain _ _ _ (by kernel_rfl)]; exact laidMet_laidAll _ (by kernel_rfl) (by kernel_rfl))) ?_
  intro W base args ds gs before hval0 hW _ _ hL _
  have hW' := hW
  obtain ⟨p, q, hA0, hV, rfl, _, _⟩ := hW
  have hA : DataW.TrodAll enc Tryz.prog W 0 (fun _ => true) true Tryz.f6.params.toList args.toList ds p := hA0
  rw [Tryz.params6] at hA
  obtain ⟨v0, d0, rfl, rfl, h0⟩ := trodAll_one hA
  obtain ⟨rfl, rfl⟩ := trodVars_none hV
  have hval := hval0 0 22 v0 (by rw [Tryz.params6]; rfl) rfl
  obtain ⟨a0, len, cap, rfl⟩ := okWide_slice Tryz.underlying22 hval
  have h0k := h0
  obtain ⟨fuel, hf⟩ := h0
  simp only [List.append_nil] at hW'
  have hlt : ∀ x ∈ p, x.block < W.heap.size := fun x hx => by simpa using hW'.lt x hx
  refine (law_any fnValues_ok hL (by simpa [Value.cells] using hf)).mono fun e W' ⟨he, hb⟩ => ?_
  subst he
  exact ⟨_, rfl, _, _, _, [], _, [], hW', trodAll_mk1 (shut_bool Tryz.underlying4 _), trodAll_mk1 (Below.trod laidOut (by kernel_rfl) (of_decide_eq_true (by kernel_rfl)) h0k hb hlt), rfl, hb.frame _, fun h => by cases h⟩
theorem over : Rows.fnValuesRow.holds Tryz.pinned (OpenSpec.ofChange Rows.fnValuesSpec) :=
  OpenClaim.holds_of_wide 6 Tryz.f6 rfl rfl rfl rfl rfl rfl rfl ⟨rfl, rfl, rfl, rfl, rfl⟩ rfl rfl rfl rfl rfl (by kernel_rfl) Tryz.func6 closed
    (of_decide_eq_true (by kernel_rfl)) (by unfold Func.isWrapper; first | (rw [if_pos (by decide +kernel)]; kernel_rfl) | (rw [if_neg (by decide +kernel)]; exact ⟨rfl, rfl⟩))
    (fun os started H enc _ => lifted os started H enc)
theorem card_holds : Rows.FnValuesCardSaid :=
  Claim7.holds_tied_plain_at .later [] [.data, .data, .data, .data, .sentinel, .sentinel, .pinned] true (true, "5b2903962d32afec510d23a8fca3bdce0f4af1224a8985d861bcd03a3c8dd329") true
    over (fun _ h => by cases h) wf (fun _ h => by cases h) fnValues_row_tie rfl ⟨rfl, rfl⟩ (by kernel_rfl) rfl
    (fun f fn hf hfn => by
      obtain rfl : f = 6 := Option.some.inj ((show Tryz.prog.funcNamed "loop.example/g00700/laws.FnValues" = some 6 by kernel_rfl).symm.trans hf) |>.symm
      obtain rfl : fn = Tryz.f6 := (Option.some.inj (Tryz.func6.symm.trans hfn)).symm
      exact ⟨looks, fun j t ht => by
        rw [Tryz.params6] at ht
        have hm : t ∈ [22] := by simpa using Array.mem_of_getElem? ht
        exact (show Tryz.prog.wantsStandIn t = false by simpa using List.all_eq_true.1 ws22 t hm)⟩)
    goes
end Go.Proofs.YtcffhmficemgoaaGreatDoor.fnValues
namespace Go.Proofs.YtcffhmficemgoaaGreatDoor
theorem fnValues_card : Rows.FnValuesCardSaid := fnValues.card_holds
#print axioms fnValues_card
end Go.Proofs.YtcffhmficemgoaaGreatDoor
