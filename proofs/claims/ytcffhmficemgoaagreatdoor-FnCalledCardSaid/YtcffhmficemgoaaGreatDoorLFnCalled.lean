/- Whatever code the law is given, the law FnCalled returns true and leaves the code as it was. No conditions. The program is reckoned by a proved evaluator, whose answers the kernel works out; the listed variables are those that the card ties. -/
import Derived.Test.YtcffhmficemgoaaGreatDoorLb
import Derived.Test.YtcffhmficemgoaaGreatDoorRr
import Derived.Test.YtcffhmficemgoaaGreatDoorFFnCalled
import Derived.Test.YtcffhmficemgoaaGreatDoorGFnCalled
import Derived.Test.YtcffhmficemgoaaGreatDoorRFnCalled0
import Derived.Test.YtcffhmficemgoaaGreatDoorRFnCalled1
import Derived.Test.YtcffhmficemgoaaGreatDoorRFnCalled2
import Derived.Test.YtcffhmficemgoaaGreatDoorRFnCalled3
import Derived.Test.YtcffhmficemgoaaGreatDoorRFnCalled4
import Derived.Test.YtcffhmficemgoaaGreatDoorRFnCalled5
import Derived.Test.YtcffhmficemgoaaGreatDoorRFnCalled6
import Derived.Test.YtcffhmficemgoaaGreatDoorRFnCalled7
import Derived.Test.YtcffhmficemgoaaGreatDoorRFnCalled8
import Derived.Test.YtcffhmficemgoaaGreatDoorRFnCalled9
import Derived.Test.YtcffhmficemgoaaGreatDoorRFnCalled10
import Derived.Test.YtcffhmficemgoaaGreatDoorRFnCalled11
import Derived.SevenTiedAt
import Derived.Test.YtcffhmficemgoaaGreatDoorCards
import Derived.Test.YtcffhmficemgoaaGreatDoorTie
set_option linter.all false
namespace Go.Ev
open Go Go.Proofs Go.RowKit
theorem fnCalled_ok : LawOk 4 := by
  refine ⟨fun L => empty_ok rR L rFnCalledxe, fun {a b c d W s} L C => ?_⟩
  obtain ⟨x1, h1, c1⟩ := C.at_ok 1 (by decide)
  have key : ∀ v1 : Nat, x1 % 12 = v1 → (∀ (a b c d : TypeId), Good (Answer tab 100000 (orcT (tL [(1, 12, v1)])) 300 4 [.oslice 50] (H0 a b c d))) →
      Go.Calls Tryz.prog 4 #[.slice (some ⟨s.r, s.off, none⟩) s.len s.cap] W fun e w' => e = .returned (.bool true) ∧ Below W.heap.size W w' := by
    intro v1 e1 g
    refine law_at rR L _ (fun p hp => ?_) g
    simp only [List.mem_cons, List.not_mem_nil, or_false] at hp
    subst hp
    · exact ⟨x1, h1, e1, c1⟩
  have d1 : x1 % 12 = 0 ∨ x1 % 12 = 1 ∨ x1 % 12 = 2 ∨ x1 % 12 = 3 ∨ x1 % 12 = 4 ∨ x1 % 12 = 5 ∨ x1 % 12 = 6 ∨ x1 % 12 = 7 ∨ x1 % 12 = 8 ∨ x1 % 12 = 9 ∨ x1 % 12 = 10 ∨ x1 % 12 = 11 := by omega
  rcases d1 with q1 | q1 | q1 | q1 | q1 | q1 | q1 | q1 | q1 | q1 | q1 | q1
  · exact key 0 q1 rFnCalledx0
  · exact key 1 q1 rFnCalledx1
  · exact key 2 q1 rFnCalledx2
  · exact key 3 q1 rFnCalledx3
  · exact key 4 q1 rFnCalledx4
  · exact key 5 q1 rFnCalledx5
  · exact key 6 q1 rFnCalledx6
  · exact key 7 q1 rFnCalledx7
  · exact key 8 q1 rFnCalledx8
  · exact key 9 q1 rFnCalledx9
  · exact key 10 q1 rFnCalledx10
  · exact key 11 q1 rFnCalledx11
end Go.Ev
namespace Go.Proofs.YtcffhmficemgoaaGreatDoor.fnCalled
open Go Go.Ev Go.RowKit Go.ChangeShapes Go.WideShapes Go.ChangeAt
set_option maxRecDepth 100000 in
theorem lifted (os : Os) (started : os.Started) (H : Type) (enc : TypeId × Value → H) :
    ReturnsInHanded {} Tryz.checked os 4 .any (fun w args => (Rows.fnCalledSpec.pre enc Tryz.prog Tryz.f4 [] false w args ∧ laidMetH Tryz.prog laidL w) ∧ sizedMet enc Tryz.prog Tryz.f4 (OpenSpec.ofChange Rows.fnCalledSpec) false w args)
      (Rows.fnCalledSpec.post enc Tryz.prog Tryz.f4 false true false false) := by
  refine returnsInHanded_of_change_and (C := Tryz.checked) (X := fun w _ => laidMetH Tryz.prog laidL w) (fun _ _ _ hh h => h.of_heap hh) own started (by kernel_rfl) Tryz.func4
    (ChangeSpec.witness_shaped (enc := enc) (C := Tryz.checked) (os := os) (X := fun w _ => laidMetH Tryz.prog laidL w) false (World.laidAll Tryz.prog os laidL) #[.slice none 0 0] 8 (World.laidAll_os _ _ _)
      (World.shaped_of_ZipB (by kernel_rfl) (by kernel_rfl)) (by kernel_rfl) (by kernel_rfl) (by kernel_rfl)
      (by rw [MakeChecks.laidMetH_plain _ _ _ (by kernel_rfl)]; exact laidMet_laidAll _ (by kernel_rfl) (by kernel_rfl))) ?_
  intro W base args ds gs before hval0 hW _ _ hL _
  have hW' := hW
  obtain ⟨p, q, hA0, hV, rfl, _, _⟩ := hW
  have hA : DataW.TrodAll enc Tryz.prog W 0 (fun _ => true) true Tryz.f4.params.toList args.toList ds p := hA0
  rw [Tryz.params4] at hA
  obtain ⟨v0, d0, rfl, rfl, h0⟩ := trodAll_one hA
  obtain ⟨rfl, rfl⟩ := trodVars_none hV
  have hval := hval0 0 22 v0 (by rw [Tryz.params4]; rfl) rfl
  obtain ⟨a0, len, cap, rfl⟩ := okWide_slice Tryz.underlying22 hval
  have h0k := h0
  obtain ⟨fuel, hf⟩ := h0
  simp only [List.append_nil] at hW'
  have hlt : ∀ x ∈ p, x.block < W.heap.size := fun x hx => by simpa using hW'.lt x hx
  refine (law_any fnCalled_ok hL (by simpa [Value.cells] using hf)).mono fun e W' ⟨he, hb⟩ => ?_
  subst he
  exact ⟨_, rfl, _, _, _, [], _, [], hW', trodAll_mk1 (shut_bool Tryz.underlying4 _), trodAll_mk1 (Below.trod laidOut (by kernel_rfl) (of_decide_eq_true (by kernel_rfl)) h0k hb hlt), rfl, hb.frame _, fun h => by cases h⟩
theorem over : Rows.fnCalledRow.holds Tryz.pinned (OpenSpec.ofChange Rows.fnCalledSpec) :=
  OpenClaim.holds_of_wide 4 Tryz.f4 rfl rfl rfl rfl rfl rfl rfl ⟨rfl, rfl, rfl, rfl, rfl⟩ rfl rfl rfl rfl rfl (by kernel_rfl) Tryz.func4 closed
    (of_decide_eq_true (by kernel_rfl)) (by unfold Func.isWrapper; first | (rw [if_pos (by decide +kernel)]; kernel_rfl) | (rw [if_neg (by decide +kernel)]; exact ⟨rfl, rfl⟩))
    (fun os started H enc _ => lifted os started H enc)
theorem card_holds : Rows.FnCalledCardSaid :=
  Claim7.holds_tied_plain_at .later [] [.data, .data, .data, .data, .sentinel, .sentinel, .pinned] true (true, "5b2903962d32afec510d23a8fca3bdce0f4af1224a8985d861bcd03a3c8dd329") true
    over (fun _ h => by cases h) wf (fun _ h => by cases h) fnCalled_row_tie rfl ⟨rfl, rfl⟩ (by kernel_rfl) rfl
    (fun f fn hf hfn => by
      obtain rfl : f = 4 := Option.some.inj ((show Tryz.prog.funcNamed "loop.example/g00700/laws.FnCalled" = some 4 by kernel_rfl).symm.trans hf) |>.symm
      obtain rfl : fn = Tryz.f4 := (Option.some.inj (Tryz.func4.symm.trans hfn)).symm
      exact ⟨looks, fun j t ht => by
        rw [Tryz.params4] at ht
        have hm : t ∈ [22] := by simpa using Array.mem_of_getElem? ht
        exact (show Tryz.prog.wantsStandIn t = false by simpa using List.all_eq_true.1 ws22 t hm)⟩)
    goes
end Go.Proofs.YtcffhmficemgoaaGreatDoor.fnCalled
namespace Go.Proofs.YtcffhmficemgoaaGreatDoor
theorem fnCalled_card : Rows.FnCalledCardSaid := fnCalled.card_holds
#print axioms fnCalled_card
end Go.Proofs.YtcffhmficemgoaaGreatDoor
