/- Whatever code the law is given, the law FnNothing returns true and leaves the code as it was. No conditions. The program is reckoned by a proved evaluator, whose answers the kernel works out; the listed variables are those that the card ties. -/
import Derived.Test.YtfgmimcbjjbplaaGreatDoorLb
import Derived.Test.YtfgmimcbjjbplaaGreatDoorLa
import Derived.Test.YtfgmimcbjjbplaaGreatDoorRr
import Derived.Test.YtfgmimcbjjbplaaGreatDoorFFnNothing
import Derived.Test.YtfgmimcbjjbplaaGreatDoorGFnNothing
import Derived.Test.YtfgmimcbjjbplaaGreatDoorRFnNothing0
import Derived.Test.YtfgmimcbjjbplaaGreatDoorRFnNothing1
import Derived.Test.YtfgmimcbjjbplaaGreatDoorRFnNothing2
import Derived.Test.YtfgmimcbjjbplaaGreatDoorRFnNothing3
import Derived.SevenTiedAt
import Derived.Test.YtfgmimcbjjbplaaGreatDoorCards
import Derived.Test.YtfgmimcbjjbplaaGreatDoorTie
set_option linter.all false
namespace Go.Ev
open Go Go.Proofs Go.RowKit
set_option maxRecDepth 100000 in
theorem fnNothing_ok : LawOk 4 := by
  refine ⟨fun L => empty_ok rR L rFnNothingxe, fun {a b c d W s} L C => ?_⟩
  obtain ⟨x1, h1, c1⟩ := C.at_ok 1 (by decide)
  have d1 : x1 = 0 ∨ (1 ≤ x1 ∧ x1 ≤ 9) ∨ (10 ≤ x1 ∧ x1 ≤ 99) ∨ (100 ≤ x1 ∧ x1 ≤ 255) := by omega
  rcases d1 with q1 | q1 | q1 | q1
  · refine law_sym rR rI (s := { s with sy := fun _ => (0, 0) }) L [(1, .int .i64 0)] (fun p hp => ?_) rFnNothingx0
    simp only [List.mem_cons, List.not_mem_nil, or_false] at hp
    subst hp
    · exact ⟨x1, by rw [q1]; exact VR.nat (by decide), c1⟩
  · refine law_sym rR rI (s := { s with sy := fun b => if b = 60 then (x1 - 1, 0) else (fun _ => (0, 0)) b }) L [(1, .sint .i64 1 [⟨1, 60, 8, 0⟩])] (fun p hp => ?_) rFnNothingx1
    simp only [List.mem_cons, List.not_mem_nil, or_false] at hp
    subst hp
    · exact ⟨x1, VR.sint_iff.2 ⟨1 * (x1 - 1) + (0), by congr 1; omega, ⟨x1 - 1, 0, 0, rfl, (by show x1 - 1 ≤ 8; omega), .inl rfl, rfl, rfl⟩, by decide⟩, c1⟩
  · refine law_sym rR rI (s := { s with sy := fun b => if b = 60 then (x1 / 10 - 1, 0) else (fun b => if b = 61 then (x1 % 10, 0) else (fun _ => (0, 0)) b) b }) L [(1, .sint .i64 10 [⟨10, 60, 8, 0⟩, ⟨1, 61, 9, 0⟩])] (fun p hp => ?_) rFnNothingx2
    simp only [List.mem_cons, List.not_mem_nil, or_false] at hp
    subst hp
    · exact ⟨x1, VR.sint_iff.2 ⟨10 * (x1 / 10 - 1) + (1 * (x1 % 10) + (0)), by congr 1; omega, ⟨x1 / 10 - 1, 0, 1 * (x1 % 10) + (0), rfl, (by show x1 / 10 - 1 ≤ 8; omega), .inl rfl, ⟨x1 % 10, 0, 0, rfl, (by show x1 % 10 ≤ 9; omega), .inl rfl, rfl, rfl⟩, rfl⟩, by decide⟩, c1⟩
  · refine law_sym rR rI (s := { s with sy := fun b => if b = 60 then (x1 / 100 - 1, 0) else (fun b => if b = 61 then (x1 / 10 % 10, 0) else (fun b => if b = 62 then (x1 % 10, 0) else (fun _ => (0, 0)) b) b) b }) L [(1, .sint .i64 100 [⟨100, 60, 1, 0⟩, ⟨10, 61, 9, 0⟩, ⟨1, 62, 9, 0⟩])] (fun p hp => ?_) rFnNothingx3
    simp only [List.mem_cons, List.not_mem_nil, or_false] at hp
    subst hp
    · exact ⟨x1, VR.sint_iff.2 ⟨100 * (x1 / 100 - 1) + (10 * (x1 / 10 % 10) + (1 * (x1 % 10) + (0))), by congr 1; omega, ⟨x1 / 100 - 1, 0, 10 * (x1 / 10 % 10) + (1 * (x1 % 10) + (0)), rfl, (by show x1 / 100 - 1 ≤ 1; omega), .inl rfl, ⟨x1 / 10 % 10, 0, 1 * (x1 % 10) + (0), rfl, (by show x1 / 10 % 10 ≤ 9; omega), .inl rfl, ⟨x1 % 10, 0, 0, rfl, (by show x1 % 10 ≤ 9; omega), .inl rfl, rfl, rfl⟩, rfl⟩, rfl⟩, by decide⟩, c1⟩
end Go.Ev
namespace Go.Proofs.YtfgmimcbjjbplaaGreatDoor.fnNothing
open Go Go.Ev Go.RowKit Go.ChangeShapes Go.WideShapes Go.ChangeAt
set_option maxRecDepth 100000 in
theorem lifted (os : Os) (started : os.Started) (H : Type) (enc : TypeId × Value → H) :
    ReturnsInHanded {} Tryz.checked os 4 .any (fun w args => (Rows.fnNothingSpec.pre enc Tryz.prog Tryz.f4 [] false w args ∧ laidMetH Tryz.prog laidL w) ∧ sizedMet enc Tryz.prog Tryz.f4 (OpenSpec.ofChange Rows.fnNothingSpec) false w args)
      (Rows.fnNothingSpec.post enc Tryz.prog Tryz.f4 false true false false) := by
  refine returnsInHanded_of_change_and (C := Tryz.checked) (X := fun w _ => laidMetH Tryz.prog laidL w) (fun _ _ _ hh h => h.of_heap hh) own started (by kernel_rfl) Tryz.func4
    (ChangeSpec.witness_shaped (enc := enc) (C := Tryz.checked) (os := os) (X := fun w _ => laidMetH Tryz.prog laidL w) false (World.laidAll Tryz.prog os laidL) #[.slice none 0 0] 8 (World.laidAll_os _ _ _)
      (World.shaped_of_ZipB (by kernel_rfl) (by kernel_rfl)) (by kernel_rfl) (by kernel_rfl) (by kernel_rfl)
      (by rw [MakeChecks.laidMetH_plain _ _ _ (by kernel_rfl)]; exact laidMet_laidAll _ (by kernel_rfl) (by kernel_rfl))) ?_
  intro W base args ds gs before hval0 hW _ _ hL _
  have hW' := hW
  obtain ⟨p, q, hA0, hV, rfl, _, _⟩ := hW
  have hA : DataW.TrodAll enc Tryz.prog W 0 (fun _ => true) true Tryz.f4.params.toList args.toList ds p := hA0
  rw [Tryz.params4] at hA
  obtain ⟨v0, d0, rfl, rfl, h0⟩ := trodAll_one hA
  obtain ⟨rfl, rfl⟩ := trodVars_none hV
  have hval := hval0 0 22 v0 (by rw [Tryz.params4]; rfl) rfl
  obtain ⟨a0, len, cap, rfl⟩ := okWide_slice Tryz.underlying22 hval
  have h0k := h0
  obtain ⟨fuel, hf⟩ := h0
  simp only [List.append_nil] at hW'
  have hlt : ∀ x ∈ p, x.block < W.heap.size := fun x hx => by simpa using hW'.lt x hx
  refine (law_any fnNothing_ok hL (by simpa [Value.cells] using hf)).mono fun e W' ⟨he, hb⟩ => ?_
  subst he
  exact ⟨_, rfl, _, _, _, [], _, [], hW', trodAll_mk1 (shut_bool Tryz.underlying4 _), trodAll_mk1 (Below.trod laidOut (by kernel_rfl) (of_decide_eq_true (by kernel_rfl)) h0k hb hlt), rfl, hb.frame _, fun h => by cases h⟩
theorem over : Rows.fnNothingRow.holds Tryz.pinned (OpenSpec.ofChange Rows.fnNothingSpec) :=
  OpenClaim.holds_of_wide 4 Tryz.f4 rfl rfl rfl rfl rfl rfl rfl ⟨rfl, rfl, rfl, rfl, rfl⟩ rfl rfl rfl rfl rfl (by kernel_rfl) Tryz.func4 closed
    (of_decide_eq_true (by kernel_rfl)) (by unfold Func.isWrapper; first | (rw [if_pos (by decide +kernel)]; kernel_rfl) | (rw [if_neg (by decide +kernel)]; exact ⟨rfl, rfl⟩))
    (fun os started H enc _ => lifted os started H enc)
theorem card_holds : Rows.FnNothingCardSaid :=
  Claim7.holds_tied_plain_at .later [] [.data, .data, .data, .data, .sentinel, .sentinel, .pinned] true (true, "af999f076cd471efd5287a48a0cebdf87c0f9e074a5ddc96e3b5a6041ab5a425") true
    over (fun _ h => by cases h) wf (fun _ h => by cases h) fnNothing_row_tie rfl ⟨rfl, rfl⟩ (by kernel_rfl) rfl
    (fun f fn hf hfn => by
      obtain rfl : f = 4 := Option.some.inj ((show Tryz.prog.funcNamed "loop.example/g00700/laws.FnNothing" = some 4 by kernel_rfl).symm.trans hf) |>.symm
      obtain rfl : fn = Tryz.f4 := (Option.some.inj (Tryz.func4.symm.trans hfn)).symm
      exact ⟨looks, fun j t ht => by
        rw [Tryz.params4] at ht
        have hm : t ∈ [22] := by simpa using Array.mem_of_getElem? ht
        exact (show Tryz.prog.wantsStandIn t = false by simpa using List.all_eq_true.1 ws22 t hm)⟩)
    goes
end Go.Proofs.YtfgmimcbjjbplaaGreatDoor.fnNothing
namespace Go.Proofs.YtfgmimcbjjbplaaGreatDoor
theorem fnNothing_card : Rows.FnNothingCardSaid := fnNothing.card_holds
#print axioms fnNothing_card
end Go.Proofs.YtfgmimcbjjbplaaGreatDoor
