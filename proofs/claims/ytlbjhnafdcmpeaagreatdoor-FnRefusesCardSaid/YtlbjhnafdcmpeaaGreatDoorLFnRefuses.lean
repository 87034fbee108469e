/- Whatever code the law is given, the law FnRefuses returns true and leaves the code as it was. No conditions. The program is reckoned by a proved evaluator, whose answers the kernel works out; the listed variables are those that the card ties. -/
import Derived.Test.YtlbjhnafdcmpeaaGreatDoorLbFnRefuses
import Derived.Test.YtlbjhnafdcmpeaaGreatDoorLaFnRefuses
import Derived.Test.YtlbjhnafdcmpeaaGreatDoorRrFnRefuses
import Derived.Test.YtlbjhnafdcmpeaaGreatDoorFFnRefuses
import Derived.Test.YtlbjhnafdcmpeaaGreatDoorGFnRefuses
import Derived.Test.YtlbjhnafdcmpeaaGreatDoorRFnRefuses0
import Derived.Test.YtlbjhnafdcmpeaaGreatDoorRFnRefuses1
import Derived.Test.YtlbjhnafdcmpeaaGreatDoorRFnRefuses2
import Derived.Test.YtlbjhnafdcmpeaaGreatDoorRFnRefuses3
import Derived.Test.YtlbjhnafdcmpeaaGreatDoorRFnRefuses4
import Derived.Test.YtlbjhnafdcmpeaaGreatDoorRFnRefuses5
import Derived.Test.YtlbjhnafdcmpeaaGreatDoorRFnRefuses6
import Derived.Test.YtlbjhnafdcmpeaaGreatDoorRFnRefuses7
import Derived.Test.YtlbjhnafdcmpeaaGreatDoorRFnRefuses8
import Derived.Test.YtlbjhnafdcmpeaaGreatDoorRFnRefuses9
import Derived.Test.YtlbjhnafdcmpeaaGreatDoorRFnRefuses10
import Derived.Test.YtlbjhnafdcmpeaaGreatDoorRFnRefuses11
import Derived.Test.YtlbjhnafdcmpeaaGreatDoorRFnRefuses12
import Derived.Test.YtlbjhnafdcmpeaaGreatDoorRFnRefuses13
import Derived.Test.YtlbjhnafdcmpeaaGreatDoorRFnRefuses14
import Derived.SevenTiedAt
import Derived.Test.YtlbjhnafdcmpeaaGreatDoorCards
import Derived.Test.YtlbjhnafdcmpeaaGreatDoorTie
set_option linter.all false
namespace Go.Ev
open Go Go.Proofs Go.RowKit
theorem fnRefuses_ok : LawOk 3 := by
  refine ⟨fun {a b c d q W x cap} L => ?_, fun {a b c d W s} L C => ?_⟩
  · exact empty_ent L (vu0 L (vu1 L (orcN_ok rR (s := ⟨0, 0, 0, 0, q, fun _ => (0, 0)⟩) L))) (rFnRefusesxe a b c d)
  obtain ⟨x1, h1, c1⟩ := C.at_ok 1 (by decide)
  obtain ⟨x2, h2, c2⟩ := C.at_ok 2 (by decide)
  have O : ∀ {z1 z2 : Nat}, x1 % 6 = z1 → x2 % 6 = z2 → OO W s (orcT (tL [(1, 6, z1), (2, 6, z2)])) := fun q1 q2 => orcT_ok rR L _ (fun p hp => by
    simp only [List.mem_cons, List.not_mem_nil, or_false] at hp
    rcases hp with rfl | rfl
    · exact ⟨x1, h1, q1, c1⟩
    · exact ⟨x2, h2, q2, c2⟩)
  have d1 : x1 % 6 = 0 ∨ x1 % 6 = 1 ∨ x1 % 6 = 2 ∨ x1 % 6 = 3 ∨ x1 % 6 = 4 ∨ x1 % 6 = 5 := by omega
  have d2 : x2 % 6 = 0 ∨ x2 % 6 = 1 ∨ x2 % 6 = 2 ∨ x2 % 6 = 3 ∨ x2 % 6 = 4 ∨ x2 % 6 = 5 := by omega
  rcases d1 with q1 | q1 | q1 | q1 | q1 | q1
  · rcases d2 with q2 | q2 | q2 | q2 | q2 | q2
    · exact law_ent L (vu0 L (vu1 L (O q1 q2))) (rFnRefusesx0x0 a b c d)
    · exact law_ent L (vu0 L (vu2 L (O q1 q2))) (rFnRefusesx0x1 a b c d)
    · exact law_ent L (vu0 L (vu3 L (O q1 q2))) (rFnRefusesx0x2 a b c d)
    · exact law_ent L (vu0 L (vu4 L (O q1 q2))) (rFnRefusesx0x3 a b c d)
    · exact law_ent L (vu0 L (vu5 L (O q1 q2))) (rFnRefusesx0x4 a b c d)
    · exact law_ent L (vu0 L (vu6 L (O q1 q2))) (rFnRefusesx0x5 a b c d)
  · rcases d2 with q2 | q2 | q2 | q2 | q2 | q2
    · exact law_ent L (vu7 L (vu1 L (O q1 q2))) (rFnRefusesx1x0 a b c d)
    · exact law_ent L (vu7 L (vu2 L (O q1 q2))) (rFnRefusesx1x1 a b c d)
    · exact law_ent L (vu7 L (vu3 L (O q1 q2))) (rFnRefusesx1x2 a b c d)
    · exact law_ent L (vu7 L (vu4 L (O q1 q2))) (rFnRefusesx1x3 a b c d)
    · exact law_ent L (vu7 L (vu5 L (O q1 q2))) (rFnRefusesx1x4 a b c d)
    · exact law_ent L (vu7 L (vu6 L (O q1 q2))) (rFnRefusesx1x5 a b c d)
  · rcases d2 with q2 | q2 | q2 | q2 | q2 | q2
    · exact law_ent L (vu8 L (vu1 L (O q1 q2))) (rFnRefusesx2x0 a b c d)
    · exact law_ent L (vu8 L (vu2 L (O q1 q2))) (rFnRefusesx2x1 a b c d)
    · exact law_ent L (vu8 L (vu3 L (O q1 q2))) (rFnRefusesx2x2 a b c d)
    · exact law_ent L (vu8 L (vu4 L (O q1 q2))) (rFnRefusesx2x3 a b c d)
    · exact law_ent L (vu8 L (vu5 L (O q1 q2))) (rFnRefusesx2x4 a b c d)
    · exact law_ent L (vu8 L (vu6 L (O q1 q2))) (rFnRefusesx2x5 a b c d)
  · rcases d2 with q2 | q2 | q2 | q2 | q2 | q2
    · exact law_ent L (vu9 L (vu1 L (O q1 q2))) (rFnRefusesx3x0 a b c d)
    · exact law_ent L (vu9 L (vu2 L (O q1 q2))) (rFnRefusesx3x1 a b c d)
    · exact law_ent L (vu9 L (vu3 L (O q1 q2))) (rFnRefusesx3x2 a b c d)
    · exact law_ent L (vu9 L (vu4 L (O q1 q2))) (rFnRefusesx3x3 a b c d)
    · exact law_ent L (vu9 L (vu5 L (O q1 q2))) (rFnRefusesx3x4 a b c d)
    · exact law_ent L (vu9 L (vu6 L (O q1 q2))) (rFnRefusesx3x5 a b c d)
  · rcases d2 with q2 | q2 | q2 | q2 | q2 | q2
    · exact law_ent L (vu10 L (vu1 L (O q1 q2))) (rFnRefusesx4x0 a b c d)
    · exact law_ent L (vu10 L (vu2 L (O q1 q2))) (rFnRefusesx4x1 a b c d)
    · exact law_ent L (vu10 L (vu3 L (O q1 q2))) (rFnRefusesx4x2 a b c d)
    · exact law_ent L (vu10 L (vu4 L (O q1 q2))) (rFnRefusesx4x3 a b c d)
    · exact law_ent L (vu10 L (vu5 L (O q1 q2))) (rFnRefusesx4x4 a b c d)
    · exact law_ent L (vu10 L (vu6 L (O q1 q2))) (rFnRefusesx4x5 a b c d)
  · rcases d2 with q2 | q2 | q2 | q2 | q2 | q2
    · exact law_ent L (vu11 L (vu1 L (O q1 q2))) (rFnRefusesx5x0 a b c d)
    · exact law_ent L (vu11 L (vu2 L (O q1 q2))) (rFnRefusesx5x1 a b c d)
    · exact law_ent L (vu11 L (vu3 L (O q1 q2))) (rFnRefusesx5x2 a b c d)
    · exact law_ent L (vu11 L (vu4 L (O q1 q2))) (rFnRefusesx5x3 a b c d)
    · exact law_ent L (vu11 L (vu5 L (O q1 q2))) (rFnRefusesx5x4 a b c d)
    · exact law_ent L (vu11 L (vu6 L (O q1 q2))) (rFnRefusesx5x5 a b c d)
end Go.Ev
namespace Go.Proofs.YtlbjhnafdcmpeaaGreatDoor.fnRefuses
open Go Go.Ev Go.RowKit Go.ChangeShapes Go.WideShapes Go.ChangeAt
set_option maxRecDepth 100000 in
theorem lifted (os : Os) (started : os.Started) (H : Type) (enc : TypeId × Value → H) :
    ReturnsInHanded {} Tryz.checked os 3 .any (fun w args => (Rows.fnRefusesSpec.pre enc Tryz.prog Tryz.f3 [] false w args ∧ laidMetH Tryz.prog laidL w) ∧ sizedMet enc Tryz.prog Tryz.f3 (OpenSpec.ofChange Rows.fnRefusesSpec) false w args)
      (Rows.fnRefusesSpec.post enc Tryz.prog Tryz.f3 false true false false) := by
  refine returnsInHanded_of_change_and (C := Tryz.checked) (X := fun w _ => laidMetH Tryz.prog laidL w) (fun _ _ _ hh h => h.of_heap hh) own started (by kernel_rfl) Tryz.func3
    (ChangeSpec.witness_shaped (enc := enc) (C := Tryz.checked) (os := os) (X := fun w _ => laidMetH Tryz.prog laidL w) false (World.laidAll Tryz.prog os laidL) #[.slice none 0 0] 8 (World.laidAll_os _ _ _)
      (World.shaped_of_ZipB (by kernel_rfl) (by kernel_rfl)) (by kernel_rfl) (by kernel_rfl) (by kernel_rfl)
      (by rw [MakeChecks.laidMetH_plain _ _ _ (by kernel_rfl)]; exact laidMet_laidAll _ (by kernel_rfl) (by kernel_rfl))) ?_
  intro W base args ds gs before hval0 hW _ _ hL _
  have hW' := hW
  obtain ⟨p, q, hA0, hV, rfl, _, _⟩ := hW
  have hA : DataW.TrodAll enc Tryz.prog W 0 (fun _ => true) true Tryz.f3.params.toList args.toList ds p := hA0
  rw [Tryz.params3] at hA
  obtain ⟨v0, d0, rfl, rfl, h0⟩ := trodAll_one hA
  obtain ⟨rfl, rfl⟩ := trodVars_none hV
  have hval := hval0 0 22 v0 (by rw [Tryz.params3]; rfl) rfl
  obtain ⟨a0, len, cap, rfl⟩ := okWide_slice Tryz.underlying22 hval
  have h0k := h0
  obtain ⟨fuel, hf⟩ := h0
  simp only [List.append_nil] at hW'
  have hlt : ∀ x ∈ p, x.block < W.heap.size := fun x hx => by simpa using hW'.lt x hx
  refine (law_any fnRefuses_ok hL (by simpa [Value.cells] using hf)).mono fun e W' ⟨he, hb⟩ => ?_
  subst he
  exact ⟨_, rfl, _, _, _, [], _, [], hW', trodAll_mk1 (shut_bool Tryz.underlying4 _), trodAll_mk1 (Below.trod laidOut (by kernel_rfl) (of_decide_eq_true (by kernel_rfl)) h0k hb hlt), rfl, hb.frame _, fun h => by cases h⟩
theorem over : Rows.fnRefusesRow.holds Tryz.pinned (OpenSpec.ofChange Rows.fnRefusesSpec) :=
  OpenClaim.holds_of_wide 3 Tryz.f3 rfl rfl rfl rfl rfl rfl rfl ⟨rfl, rfl, rfl, rfl, rfl⟩ rfl rfl rfl rfl rfl (by kernel_rfl) Tryz.func3 closed
    (of_decide_eq_true (by kernel_rfl)) (by unfold Func.isWrapper; first | (rw [if_pos (by decide +kernel)]; kernel_rfl) | (rw [if_neg (by decide +kernel)]; exact ⟨rfl, rfl⟩))
    (fun os started H enc _ => lifted os started H enc)
theorem card_holds : Rows.FnRefusesCardSaid :=
  Claim7.holds_tied_plain_at .later [] [.data, .data, .data, .data, .sentinel, .sentinel, .pinned] true (true, "d49c95ee553041e9d6130c604c9cfc294257b023487160b09ad382b335d66d84") true
    over (fun _ h => by cases h) wf (fun _ h => by cases h) fnRefuses_row_tie rfl ⟨rfl, rfl⟩ (by kernel_rfl) rfl
    (fun f fn hf hfn => by
      obtain rfl : f = 3 := Option.some.inj ((show Tryz.prog.funcNamed "loop.example/g00700/laws.FnRefuses" = some 3 by kernel_rfl).symm.trans hf) |>.symm
      obtain rfl : fn = Tryz.f3 := (Option.some.inj (Tryz.func3.symm.trans hfn)).symm
      exact ⟨looks, fun j t ht => by
        rw [Tryz.params3] at ht
        have hm : t ∈ [22] := by simpa using Array.mem_of_getElem? ht
        exact (show Tryz.prog.wantsStandIn t = false by simpa using List.all_eq_true.1 ws22 t hm)⟩)
    goes
end Go.Proofs.YtlbjhnafdcmpeaaGreatDoor.fnRefuses
namespace Go.Proofs.YtlbjhnafdcmpeaaGreatDoor
theorem fnRefuses_card : Rows.FnRefusesCardSaid := fnRefuses.card_holds
#print axioms fnRefuses_card
end Go.Proofs.YtlbjhnafdcmpeaaGreatDoor
