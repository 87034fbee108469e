/- Whatever code the law is given, the law FnDeletes returns true and leaves the code as it was. No conditions. The program is reckoned by a proved evaluator, whose answers the kernel works out; the listed variables are those that the card ties. -/
import Derived.Test.YtfgmimcbjjbplaaGreatDoorLb
import Derived.Test.YtfgmimcbjjbplaaGreatDoorRr
import Derived.Test.YtfgmimcbjjbplaaGreatDoorFFnDeletes
import Derived.Test.YtfgmimcbjjbplaaGreatDoorGFnDeletes
import Derived.Test.YtfgmimcbjjbplaaGreatDoorRFnDeletes0
import Derived.Test.YtfgmimcbjjbplaaGreatDoorRFnDeletes1
import Derived.Test.YtfgmimcbjjbplaaGreatDoorRFnDeletes2
import Derived.Test.YtfgmimcbjjbplaaGreatDoorRFnDeletes3
import Derived.Test.YtfgmimcbjjbplaaGreatDoorRFnDeletes4
import Derived.Test.YtfgmimcbjjbplaaGreatDoorRFnDeletes5
import Derived.Test.YtfgmimcbjjbplaaGreatDoorRFnDeletes6
import Derived.Test.YtfgmimcbjjbplaaGreatDoorRFnDeletes7
import Derived.Test.YtfgmimcbjjbplaaGreatDoorRFnDeletes8
import Derived.Test.YtfgmimcbjjbplaaGreatDoorRFnDeletes9
import Derived.Test.YtfgmimcbjjbplaaGreatDoorRFnDeletes10
import Derived.Test.YtfgmimcbjjbplaaGreatDoorRFnDeletes11
import Derived.Test.YtfgmimcbjjbplaaGreatDoorRFnDeletes12
import Derived.Test.YtfgmimcbjjbplaaGreatDoorRFnDeletes13
import Derived.Test.YtfgmimcbjjbplaaGreatDoorRFnDeletes14
import Derived.Test.YtfgmimcbjjbplaaGreatDoorRFnDeletes15
import Derived.SevenTiedAt
import Derived.Test.YtfgmimcbjjbplaaGreatDoorCards
import Derived.Test.YtfgmimcbjjbplaaGreatDoorTie
set_option linter.all false
namespace Go.Ev
open Go Go.Proofs Go.RowKit
theorem fnDeletes_ok : LawOk 3 := by
  refine ⟨fun L => empty_ok rR L rFnDeletesxe, fun {a b c d W s} L C => ?_⟩
  obtain ⟨x1, h1, c1⟩ := C.at_ok 1 (by decide)
  obtain ⟨x2, h2, c2⟩ := C.at_ok 2 (by decide)
  obtain ⟨x3, h3, c3⟩ := C.at_ok 3 (by decide)
  have key : ∀ v1 v2 v3 : Nat, x1 % 4 = v1 → x2 % 4 = v2 → x3 % 4 = v3 → (∀ (a b c d : TypeId), Good (Answer tab 100000 (orcT (tL [(1, 4, v1), (2, 4, v2), (3, 4, v3)])) 300 3 [.oslice 50] (H0 a b c d))) →
      Go.Calls Tryz.prog 3 #[.slice (some ⟨s.r, s.off, none⟩) s.len s.cap] W fun e w' => e = .returned (.bool true) ∧ Below W.heap.size W w' := by
    intro v1 v2 v3 e1 e2 e3 g
    refine law_at rR L _ (fun p hp => ?_) g
    simp only [List.mem_cons, List.not_mem_nil, or_false] at hp
    rcases hp with rfl | rfl | rfl
    · exact ⟨x1, h1, e1, c1⟩
    · exact ⟨x2, h2, e2, c2⟩
    · exact ⟨x3, h3, e3, c3⟩
  have d1 : x1 % 4 = 0 ∨ x1 % 4 = 1 ∨ x1 % 4 = 2 ∨ x1 % 4 = 3 := by omega
  have d2 : x2 % 4 = 0 ∨ x2 % 4 = 1 ∨ x2 % 4 = 2 ∨ x2 % 4 = 3 := by omega
  have d3 : x3 % 4 = 0 ∨ x3 % 4 = 1 ∨ x3 % 4 = 2 ∨ x3 % 4 = 3 := by omega
  rcases d1 with q1 | q1 | q1 | q1
  · rcases d2 with q2 | q2 | q2 | q2
    · rcases d3 with q3 | q3 | q3 | q3
      · exact key 0 0 0 q1 q2 q3 rFnDeletesx0x0x0
      · exact key 0 0 1 q1 q2 q3 rFnDeletesx0x0x1
      · exact key 0 0 2 q1 q2 q3 rFnDeletesx0x0x2
      · exact key 0 0 3 q1 q2 q3 rFnDeletesx0x0x3
    · rcases d3 with q3 | q3 | q3 | q3
      · exact key 0 1 0 q1 q2 q3 rFnDeletesx0x1x0
      · exact key 0 1 1 q1 q2 q3 rFnDeletesx0x1x1
      · exact key 0 1 2 q1 q2 q3 rFnDeletesx0x1x2
      · exact key 0 1 3 q1 q2 q3 rFnDeletesx0x1x3
    · rcases d3 with q3 | q3 | q3 | q3
      · exact key 0 2 0 q1 q2 q3 rFnDeletesx0x2x0
      · exact key 0 2 1 q1 q2 q3 rFnDeletesx0x2x1
      · exact key 0 2 2 q1 q2 q3 rFnDeletesx0x2x2
      · exact key 0 2 3 q1 q2 q3 rFnDeletesx0x2x3
    · rcases d3 with q3 | q3 | q3 | q3
      · exact key 0 3 0 q1 q2 q3 rFnDeletesx0x3x0
      · exact key 0 3 1 q1 q2 q3 rFnDeletesx0x3x1
      · exact key 0 3 2 q1 q2 q3 rFnDeletesx0x3x2
      · exact key 0 3 3 q1 q2 q3 rFnDeletesx0x3x3
  · rcases d2 with q2 | q2 | q2 | q2
    · rcases d3 with q3 | q3 | q3 | q3
      · exact key 1 0 0 q1 q2 q3 rFnDeletesx1x0x0
      · exact key 1 0 1 q1 q2 q3 rFnDeletesx1x0x1
      · exact key 1 0 2 q1 q2 q3 rFnDeletesx1x0x2
      · exact key 1 0 3 q1 q2 q3 rFnDeletesx1x0x3
    · rcases d3 with q3 | q3 | q3 | q3
      · exact key 1 1 0 q1 q2 q3 rFnDeletesx1x1x0
      · exact key 1 1 1 q1 q2 q3 rFnDeletesx1x1x1
      · exact key 1 1 2 q1 q2 q3 rFnDeletesx1x1x2
      · exact key 1 1 3 q1 q2 q3 rFnDeletesx1x1x3
    · rcases d3 with q3 | q3 | q3 | q3
      · exact key 1 2 0 q1 q2 q3 rFnDeletesx1x2x0
      · exact key 1 2 1 q1 q2 q3 rFnDeletesx1x2x1
      · exact key 1 2 2 q1 q2 q3 rFnDeletesx1x2x2
      · exact key 1 2 3 q1 q2 q3 rFnDeletesx1x2x3
    · rcases d3 with q3 | q3 | q3 | q3
      · exact key 1 3 0 q1 q2 q3 rFnDeletesx1x3x0
      · exact key 1 3 1 q1 q2 q3 rFnDeletesx1x3x1
      · exact key 1 3 2 q1 q2 q3 rFnDeletesx1x3x2
      · exact key 1 3 3 q1 q2 q3 rFnDeletesx1x3x3
  · rcases d2 with q2 | q2 | q2 | q2
    · rcases d3 with q3 | q3 | q3 | q3
      · exact key 2 0 0 q1 q2 q3 rFnDeletesx2x0x0
      · exact key 2 0 1 q1 q2 q3 rFnDeletesx2x0x1
      · exact key 2 0 2 q1 q2 q3 rFnDeletesx2x0x2
      · exact key 2 0 3 q1 q2 q3 rFnDeletesx2x0x3
    · rcases d3 with q3 | q3 | q3 | q3
      · exact key 2 1 0 q1 q2 q3 rFnDeletesx2x1x0
      · exact key 2 1 1 q1 q2 q3 rFnDeletesx2x1x1
      · exact key 2 1 2 q1 q2 q3 rFnDeletesx2x1x2
      · exact key 2 1 3 q1 q2 q3 rFnDeletesx2x1x3
    · rcases d3 with q3 | q3 | q3 | q3
      · exact key 2 2 0 q1 q2 q3 rFnDeletesx2x2x0
      · exact key 2 2 1 q1 q2 q3 rFnDeletesx2x2x1
      · exact key 2 2 2 q1 q2 q3 rFnDeletesx2x2x2
      · exact key 2 2 3 q1 q2 q3 rFnDeletesx2x2x3
    · rcases d3 with q3 | q3 | q3 | q3
      · exact key 2 3 0 q1 q2 q3 rFnDeletesx2x3x0
      · exact key 2 3 1 q1 q2 q3 rFnDeletesx2x3x1
      · exact key 2 3 2 q1 q2 q3 rFnDeletesx2x3x2
      · exact key 2 3 3 q1 q2 q3 rFnDeletesx2x3x3
  · rcases d2 with q2 | q2 | q2 | q2
    · rcases d3 with q3 | q3 | q3 | q3
      · exact key 3 0 0 q1 q2 q3 rFnDeletesx3x0x0
      · exact key 3 0 1 q1 q2 q3 rFnDeletesx3x0x1
      · exact key 3 0 2 q1 q2 q3 rFnDeletesx3x0x2
      · exact key 3 0 3 q1 q2 q3 rFnDeletesx3x0x3
    · rcases d3 with q3 | q3 | q3 | q3
      · exact key 3 1 0 q1 q2 q3 rFnDeletesx3x1x0
      · exact key 3 1 1 q1 q2 q3 rFnDeletesx3x1x1
      · exact key 3 1 2 q1 q2 q3 rFnDeletesx3x1x2
      · exact key 3 1 3 q1 q2 q3 rFnDeletesx3x1x3
    · rcases d3 with q3 | q3 | q3 | q3
      · exact key 3 2 0 q1 q2 q3 rFnDeletesx3x2x0
      · exact key 3 2 1 q1 q2 q3 rFnDeletesx3x2x1
      · exact key 3 2 2 q1 q2 q3 rFnDeletesx3x2x2
      · exact key 3 2 3 q1 q2 q3 rFnDeletesx3x2x3
    · rcases d3 with q3 | q3 | q3 | q3
      · exact key 3 3 0 q1 q2 q3 rFnDeletesx3x3x0
      · exact key 3 3 1 q1 q2 q3 rFnDeletesx3x3x1
      · exact key 3 3 2 q1 q2 q3 rFnDeletesx3x3x2
      · exact key 3 3 3 q1 q2 q3 rFnDeletesx3x3x3
end Go.Ev
namespace Go.Proofs.YtfgmimcbjjbplaaGreatDoor.fnDeletes
open Go Go.Ev Go.RowKit Go.ChangeShapes Go.WideShapes Go.ChangeAt
set_option maxRecDepth 100000 in
theorem lifted (os : Os) (started : os.Started) (H : Type) (enc : TypeId × Value → H) :
    ReturnsInHanded {} Tryz.checked os 3 .any (fun w args => (Rows.fnDeletesSpec.pre enc Tryz.prog Tryz.f3 [] false w args ∧ laidMetH Tryz.prog laidL w) ∧ sizedMet enc Tryz.prog Tryz.f3 (OpenSpec.ofChange Rows.fnDeletesSpec) false w args)
      (Rows.fnDeletesSpec.post enc Tryz.prog Tryz.f3 false true false false) := by
  refine returnsInHanded_of_change_and (C := Tryz.checked) (X := fun w _ => laidMetH Tryz.prog laidL w) (fun _ _ _ hh h => h.of_heap hh) own started (by kernel_rfl) Tryz.func3
    (ChangeSpec.witness_shaped (enc := enc) (C := Tryz.checked) (os := os) (X := fun w _ => laidMetH Tryz.prog laidL w) false (World.laidAll Tryz.prog os laidL) #[.slice none 0 0] 8 (World.laidAll_os _ _ _)
      (World.shaped_of_ZipB (by kernel_rfl) (by kernel_rfl)) (by kernel_rfl) (by kernel_rfl) (by kernel_rfl)
      (by rw [MakeChecks.laidMetH_plain _ _ _ (by kernel_rfl)]; exact laidMet_laidAll _ (by kernel_rfl) (by kernel_rfl))) ?_
  intro W base args ds gs before hval0 hW _ _ hL _
  have hW' := hW
  obtain ⟨p, q, hA0, hV, rfl, _, _⟩ := hW
  have hA : DataW.TrodAll enc Tryz.prog W 0 (fun _ => true) true Tryz.f3.params.toList args.toList ds p := hA0
  rw [Tryz.params3] at hA
  obtain ⟨v0, d0, rfl, rfl, h0⟩ := trodAll_one hA
  obtain ⟨rfl, rfl⟩ := trodVars_none hV
  have hval := hval0 0 22 v0 (by rw [Tryz.params3]; rfl) rfl
  obtain ⟨a0, len, cap, rfl⟩ := okWide_slice Tryz.underlying22 hval
  have h0k := h0
  obtain ⟨fuel, hf⟩ := h0
  simp only [List.append_nil] at hW'
  have hlt : ∀ x ∈ p, x.block < W.heap.size := fun x hx => by simpa using hW'.lt x hx
  refine (law_any fnDeletes_ok hL (by simpa [Value.cells] using hf)).mono fun e W' ⟨he, hb⟩ => ?_
  subst he
  exact ⟨_, rfl, _, _, _, [], _, [], hW', trodAll_mk1 (shut_bool Tryz.underlying4 _), trodAll_mk1 (Below.trod laidOut (by kernel_rfl) (of_decide_eq_true (by kernel_rfl)) h0k hb hlt), rfl, hb.frame _, fun h => by cases h⟩
theorem over : Rows.fnDeletesRow.holds Tryz.pinned (OpenSpec.ofChange Rows.fnDeletesSpec) :=
  OpenClaim.holds_of_wide 3 Tryz.f3 rfl rfl rfl rfl rfl rfl rfl ⟨rfl, rfl, rfl, rfl, rfl⟩ rfl rfl rfl rfl rfl (by kernel_rfl) Tryz.func3 closed
    (of_decide_eq_true (by kernel_rfl)) (by unfold Func.isWrapper; first | (rw [if_pos (by decide +kernel)]; kernel_rfl) | (rw [if_neg (by decide +kernel)]; exact ⟨rfl, rfl⟩))
    (fun os started H enc _ => lifted os started H enc)
theorem card_holds : Rows.FnDeletesCardSaid :=
  Claim7.holds_tied_plain_at .later [] [.data, .data, .data, .data, .sentinel, .sentinel, .pinned] true (true, "af999f076cd471efd5287a48a0cebdf87c0f9e074a5ddc96e3b5a6041ab5a425") true
    over (fun _ h => by cases h) wf (fun _ h => by cases h) fnDeletes_row_tie rfl ⟨rfl, rfl⟩ (by kernel_rfl) rfl
    (fun f fn hf hfn => by
      obtain rfl : f = 3 := Option.some.inj ((show Tryz.prog.funcNamed "loop.example/g00700/laws.FnDeletes" = some 3 by kernel_rfl).symm.trans hf) |>.symm
      obtain rfl : fn = Tryz.f3 := (Option.some.inj (Tryz.func3.symm.trans hfn)).symm
      exact ⟨looks, fun j t ht => by
        rw [Tryz.params3] at ht
        have hm : t ∈ [22] := by simpa using Array.mem_of_getElem? ht
        exact (show Tryz.prog.wantsStandIn t = false by simpa using List.all_eq_true.1 ws22 t hm)⟩)
    goes
end Go.Proofs.YtfgmimcbjjbplaaGreatDoor.fnDeletes
namespace Go.Proofs.YtfgmimcbjjbplaaGreatDoor
theorem fnDeletes_card : Rows.FnDeletesCardSaid := fnDeletes.card_holds
#print axioms fnDeletes_card
end Go.Proofs.YtfgmimcbjjbplaaGreatDoor
