/- Whatever code the law is given, the law FnLoops returns true and leaves the code as it was. No conditions. The program is reckoned by a proved evaluator, whose answers the kernel works out; the listed variables are those that the card ties. -/
import Derived.Test.YtcffhmficemgoaaGreatDoorLb
import Derived.Test.YtcffhmficemgoaaGreatDoorRr
import Derived.Test.YtcffhmficemgoaaGreatDoorFFnLoops
import Derived.Test.YtcffhmficemgoaaGreatDoorGFnLoops
import Derived.Test.YtcffhmficemgoaaGreatDoorRFnLoops0
import Derived.Test.YtcffhmficemgoaaGreatDoorRFnLoops1
import Derived.Test.YtcffhmficemgoaaGreatDoorRFnLoops2
import Derived.Test.YtcffhmficemgoaaGreatDoorRFnLoops3
import Derived.Test.YtcffhmficemgoaaGreatDoorRFnLoops4
import Derived.Test.YtcffhmficemgoaaGreatDoorRFnLoops5
import Derived.Test.YtcffhmficemgoaaGreatDoorRFnLoops6
import Derived.Test.YtcffhmficemgoaaGreatDoorRFnLoops7
import Derived.Test.YtcffhmficemgoaaGreatDoorRFnLoops8
import Derived.Test.YtcffhmficemgoaaGreatDoorRFnLoops9
import Derived.Test.YtcffhmficemgoaaGreatDoorRFnLoops10
import Derived.Test.YtcffhmficemgoaaGreatDoorRFnLoops11
import Derived.Test.YtcffhmficemgoaaGreatDoorRFnLoops12
import Derived.Test.YtcffhmficemgoaaGreatDoorRFnLoops13
import Derived.SevenTiedAt
import Derived.Test.YtcffhmficemgoaaGreatDoorCards
import Derived.Test.YtcffhmficemgoaaGreatDoorTie
set_option linter.all false
namespace Go.Ev
open Go Go.Proofs Go.RowKit
theorem fnLoops_ok : LawOk 5 := by
  refine ⟨fun L => empty_ok rR L rFnLoopsxe, fun {a b c d W s} L C => ?_⟩
  obtain ⟨x1, h1, c1⟩ := C.at_ok 1 (by decide)
  obtain ⟨x2, h2, c2⟩ := C.at_ok 2 (by decide)
  have key : ∀ v1 v2 : Nat, x1 % 9 = v1 → x2 % 9 = v2 → (∀ (a b c d : TypeId), Good (Answer tab 100000 (orcT (tL [(1, 9, v1), (2, 9, v2)])) 300 5 [.oslice 50] (H0 a b c d))) →
      Go.Calls Tryz.prog 5 #[.slice (some ⟨s.r, s.off, none⟩) s.len s.cap] W fun e w' => e = .returned (.bool true) ∧ Below W.heap.size W w' := by
    intro v1 v2 e1 e2 g
    refine law_at rR L _ (fun p hp => ?_) g
    simp only [List.mem_cons, List.not_mem_nil, or_false] at hp
    rcases hp with rfl | rfl
    · exact ⟨x1, h1, e1, c1⟩
    · exact ⟨x2, h2, e2, c2⟩
  have d1 : x1 % 9 = 0 ∨ x1 % 9 = 1 ∨ x1 % 9 = 2 ∨ x1 % 9 = 3 ∨ x1 % 9 = 4 ∨ x1 % 9 = 5 ∨ x1 % 9 = 6 ∨ x1 % 9 = 7 ∨ x1 % 9 = 8 := by omega
  have d2 : x2 % 9 = 0 ∨ x2 % 9 = 1 ∨ x2 % 9 = 2 ∨ x2 % 9 = 3 ∨ x2 % 9 = 4 ∨ x2 % 9 = 5 ∨ x2 % 9 = 6 ∨ x2 % 9 = 7 ∨ x2 % 9 = 8 := by omega
  rcases d1 with q1 | q1 | q1 | q1 | q1 | q1 | q1 | q1 | q1
  · rcases d2 with q2 | q2 | q2 | q2 | q2 | q2 | q2 | q2 | q2
    · exact key 0 0 q1 q2 rFnLoopsx0x0
    · exact key 0 1 q1 q2 rFnLoopsx0x1
    · exact key 0 2 q1 q2 rFnLoopsx0x2
    · exact key 0 3 q1 q2 rFnLoopsx0x3
    · exact key 0 4 q1 q2 rFnLoopsx0x4
    · exact key 0 5 q1 q2 rFnLoopsx0x5
    · exact key 0 6 q1 q2 rFnLoopsx0x6
    · exact key 0 7 q1 q2 rFnLoopsx0x7
    · exact key 0 8 q1 q2 rFnLoopsx0x8
  · rcases d2 with q2 | q2 | q2 | q2 | q2 | q2 | q2 | q2 | q2
    · exact key 1 0 q1 q2 rFnLoopsx1x0
    · exact key 1 1 q1 q2 rFnLoopsx1x1
    · exact key 1 2 q1 q2 rFnLoopsx1x2
    · exact key 1 3 q1 q2 rFnLoopsx1x3
    · exact key 1 4 q1 q2 rFnLoopsx1x4
    · exact key 1 5 q1 q2 rFnLoopsx1x5
    · exact key 1 6 q1 q2 rFnLoopsx1x6
    · exact key 1 7 q1 q2 rFnLoopsx1x7
    · exact key 1 8 q1 q2 rFnLoopsx1x8
  · rcases d2 with q2 | q2 | q2 | q2 | q2 | q2 | q2 | q2 | q2
    · exact key 2 0 q1 q2 rFnLoopsx2x0
    · exact key 2 1 q1 q2 rFnLoopsx2x1
    · exact key 2 2 q1 q2 rFnLoopsx2x2
    · exact key 2 3 q1 q2 rFnLoopsx2x3
    · exact key 2 4 q1 q2 rFnLoopsx2x4
    · exact key 2 5 q1 q2 rFnLoopsx2x5
    · exact key 2 6 q1 q2 rFnLoopsx2x6
    · exact key 2 7 q1 q2 rFnLoopsx2x7
    · exact key 2 8 q1 q2 rFnLoopsx2x8
  · rcases d2 with q2 | q2 | q2 | q2 | q2 | q2 | q2 | q2 | q2
    · exact key 3 0 q1 q2 rFnLoopsx3x0
    · exact key 3 1 q1 q2 rFnLoopsx3x1
    · exact key 3 2 q1 q2 rFnLoopsx3x2
    · exact key 3 3 q1 q2 rFnLoopsx3x3
    · exact key 3 4 q1 q2 rFnLoopsx3x4
    · exact key 3 5 q1 q2 rFnLoopsx3x5
    · exact key 3 6 q1 q2 rFnLoopsx3x6
    · exact key 3 7 q1 q2 rFnLoopsx3x7
    · exact key 3 8 q1 q2 rFnLoopsx3x8
  · rcases d2 with q2 | q2 | q2 | q2 | q2 | q2 | q2 | q2 | q2
    · exact key 4 0 q1 q2 rFnLoopsx4x0
    · exact key 4 1 q1 q2 rFnLoopsx4x1
    · exact key 4 2 q1 q2 rFnLoopsx4x2
    · exact key 4 3 q1 q2 rFnLoopsx4x3
    · exact key 4 4 q1 q2 rFnLoopsx4x4
    · exact key 4 5 q1 q2 rFnLoopsx4x5
    · exact key 4 6 q1 q2 rFnLoopsx4x6
    · exact key 4 7 q1 q2 rFnLoopsx4x7
    · exact key 4 8 q1 q2 rFnLoopsx4x8
  · rcases d2 with q2 | q2 | q2 | q2 | q2 | q2 | q2 | q2 | q2
    · exact key 5 0 q1 q2 rFnLoopsx5x0
    · exact key 5 1 q1 q2 rFnLoopsx5x1
    · exact key 5 2 q1 q2 rFnLoopsx5x2
    · exact key 5 3 q1 q2 rFnLoopsx5x3
    · exact key 5 4 q1 q2 rFnLoopsx5x4
    · exact key 5 5 q1 q2 rFnLoopsx5x5
    · exact key 5 6 q1 q2 rFnLoopsx5x6
    · exact key 5 7 q1 q2 rFnLoopsx5x7
    · exact key 5 8 q1 q2 rFnLoopsx5x8
  · rcases d2 with q2 | q2 | q2 | q2 | q2 | q2 | q2 | q2 | q2
    · exact key 6 0 q1 q2 rFnLoopsx6x0
    · exact key 6 1 q1 q2 rFnLoopsx6x1
    · exact key 6 2 q1 q2 rFnLoopsx6x2
    · exact key 6 3 q1 q2 rFnLoopsx6x3
    · exact key 6 4 q1 q2 rFnLoopsx6x4
    · exact key 6 5 q1 q2 rFnLoopsx6x5
    · exact key 6 6 q1 q2 rFnLoopsx6x6
    · exact key 6 7 q1 q2 rFnLoopsx6x7
    · exact key 6 8 q1 q2 rFnLoopsx6x8
  · rcases d2 with q2 | q2 | q2 | q2 | q2 | q2 | q2 | q2 | q2
    · exact key 7 0 q1 q2 rFnLoopsx7x0
    · exact key 7 1 q1 q2 rFnLoopsx7x1
    · exact key 7 2 q1 q2 rFnLoopsx7x2
    · exact key 7 3 q1 q2 rFnLoopsx7x3
    · exact key 7 4 q1 q2 rFnLoopsx7x4
    · exact key 7 5 q1 q2 rFnLoopsx7x5
    · exact key 7 6 q1 q2 rFnLoopsx7x6
    · exact key 7 7 q1 q2 rFnLoopsx7x7
    · exact key 7 8 q1 q2 rFnLoopsx7x8
  · rcases d2 with q2 | q2 | q2 | q2 | q2 | q2 | q2 | q2 | q2
    · exact key 8 0 q1 q2 rFnLoopsx8x0
    · exact key 8 1 q1 q2 rFnLoopsx8x1
    · exact key 8 2 q1 q2 rFnLoopsx8x2
    · exact key 8 3 q1 q2 rFnLoopsx8x3
    · exact key 8 4 q1 q2 rFnLoopsx8x4
    · exact key 8 5 q1 q2 rFnLoopsx8x5
    · exact key 8 6 q1 q2 rFnLoopsx8x6
    · exact key 8 7 q1 q2 rFnLoopsx8x7
    · exact key 8 8 q1 q2 rFnLoopsx8x8
end Go.Ev
namespace Go.Proofs.YtcffhmficemgoaaGreatDoor.fnLoops
open Go Go.Ev Go.RowKit Go.ChangeShapes Go.WideShapes Go.ChangeAt
set_option maxRecDepth 100000 in
theorem lifted (os : Os) (started : os.Started) (H : Type) (enc : TypeId × Value → H) :
    ReturnsInHanded {} Tryz.checked os 5 .any (fun w args => (Rows.fnLoopsSpec.pre enc Tryz.prog Tryz.f5 [] false w args ∧ laidMetH Tryz.prog laidL w) ∧ sizedMet enc Tryz.prog Tryz.f5 (OpenSpec.ofChange Rows.fnLoopsSpec) false w args)
      (Rows.fnLoopsSpec.post enc Tryz.prog Tryz.f5 false true false false) := by
  refine returnsInHanded_of_change_and (C := Tryz.checked) (X := fun w _ => laidMetH Tryz.prog laidL w) (fun _ _ _ hh h => h.of_heap hh) own started (by kernel_rfl) Tryz.func5
    (ChangeSpec.witness_shaped (enc := enc) (C := Tryz.checked) (os := os) (X := fun w _ => laidMetH Tryz.prog laidL w) false (World.laidAll Tryz.prog os laidL) #[.slice none 0 0] 8 (World.laidAll_os _ _ _)
      (World.shaped_of_ZipB (by kernel_rfl) (by kernel_rfl)) (by kernel_rfl) (by kernel_rfl) (by kernel_rfl)
      (by rw [MakeChecks.laidMetH_plain _ _ _ (by kernel_rfl)]; exact laidMet_laidAll _ (by kernel_rfl) (by kernel_rfl))) ?_
  intro W base args ds gs before hval0 hW _ _ hL _
  have hW' := hW
  obtain ⟨p, q, hA0, hV, rfl, _, _⟩ := hW
  have hA : DataW.TrodAll enc Tryz.prog W 0 (fun _ => true) true Tryz.f5.params.toList args.toList ds p := hA0
  rw [Tryz.params5] at hA
  obtain ⟨v0, d0, rfl, rfl, h0⟩ := trodAll_one hA
  obtain ⟨rfl, rfl⟩ := trodVars_none hV
  have hval := hval0 0 22 v0 (by rw [Tryz.params5]; rfl) rfl
  obtain ⟨a0, len, cap, rfl⟩ := okWide_slice Tryz.underlying22 hval
  have h0k := h0
  obtain ⟨fuel, hf⟩ := h0
  simp only [List.append_nil] at hW'
  have hlt : ∀ x ∈ p, x.block < W.heap.size := fun x hx => by simpa using hW'.lt x hx
  refine (law_any fnLoops_ok hL (by simpa [Value.cells] using hf)).mono fun e W' ⟨he, hb⟩ => ?_
  subst he
  exact ⟨_, rfl, _, _, _, [], _, [], hW', trodAll_mk1 (shut_bool Tryz.underlying4 _), trodAll_mk1 (Below.trod laidOut (by kernel_rfl) (of_decide_eq_true (by kernel_rfl)) h0k hb hlt), rfl, hb.frame _, fun h => by cases h⟩
theorem over : Rows.fnLoopsRow.holds Tryz.pinned (OpenSpec.ofChange Rows.fnLoopsSpec) :=
  OpenClaim.holds_of_wide 5 Tryz.f5 rfl rfl rfl rfl rfl rfl rfl ⟨rfl, rfl, rfl, rfl, rfl⟩ rfl rfl rfl rfl rfl (by kernel_rfl) Tryz.func5 closed
    (of_decide_eq_true (by kernel_rfl)) (by unfold Func.isWrapper; first | (rw [if_pos (by decide +kernel)]; kernel_rfl) | (rw [if_neg (by decide +kernel)]; exact ⟨rfl, rfl⟩))
    (fun os started H enc _ => lifted os started H enc)
theorem card_holds : Rows.FnLoopsCardSaid :=
  Claim7.holds_tied_plain_at .later [] [.data, .data, .data, .data, .sentinel, .sentinel, .pinned] true (true, "5b2903962d32afec510d23a8fca3bdce0f4af1224a8985d861bcd03a3c8dd329") true
    over (fun _ h => by cases h) wf (fun _ h => by cases h) fnLoops_row_tie rfl ⟨rfl, rfl⟩ (by kernel_rfl) rfl
    (fun f fn hf hfn => by
      obtain rfl : f = 5 := Option.some.inj ((show Tryz.prog.funcNamed "loop.example/g00700/laws.FnLoops" = some 5 by kernel_rfl).symm.trans hf) |>.symm
      obtain rfl : fn = Tryz.f5 := (Option.some.inj (Tryz.func5.symm.trans hfn)).symm
      exact ⟨looks, fun j t ht => by
        rw [Tryz.params5] at ht
        have hm : t ∈ [22] := by simpa using Array.mem_of_getElem? ht
        exact (show Tryz.prog.wantsStandIn t = false by simpa using List.all_eq_true.1 ws22 t hm)⟩)
    goes
end Go.Proofs.YtcffhmficemgoaaGreatDoor.fnLoops
namespace Go.Proofs.YtcffhmficemgoaaGreatDoor
theorem fnLoops_card : Rows.FnLoopsCardSaid := fnLoops.card_holds
#print axioms fnLoops_card
end Go.Proofs.YtcffhmficemgoaaGreatDoor
