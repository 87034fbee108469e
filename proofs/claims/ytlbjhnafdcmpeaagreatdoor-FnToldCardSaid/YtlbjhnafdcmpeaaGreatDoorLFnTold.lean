/- Whatever code the law is given, the law FnTold returns true and leaves the code as it was. No conditions. The program is reckoned by a proved evaluator, whose answers the kernel works out; the listed variables are those that the card ties. -/
import Derived.Test.YtlbjhnafdcmpeaaGreatDoorLbFnTold
import Derived.Test.YtlbjhnafdcmpeaaGreatDoorLaFnTold
import Derived.Test.YtlbjhnafdcmpeaaGreatDoorRrFnTold
import Derived.Test.YtlbjhnafdcmpeaaGreatDoorFFnTold
import Derived.Test.YtlbjhnafdcmpeaaGreatDoorGFnTold
import Derived.Test.YtlbjhnafdcmpeaaGreatDoorRFnTold0
import Derived.Test.YtlbjhnafdcmpeaaGreatDoorRFnTold1
import Derived.Test.YtlbjhnafdcmpeaaGreatDoorRFnTold2
import Derived.Test.YtlbjhnafdcmpeaaGreatDoorRFnTold3
import Derived.Test.YtlbjhnafdcmpeaaGreatDoorRFnTold4
import Derived.Test.YtlbjhnafdcmpeaaGreatDoorRFnTold5
import Derived.Test.YtlbjhnafdcmpeaaGreatDoorRFnTold6
import Derived.Test.YtlbjhnafdcmpeaaGreatDoorRFnTold7
import Derived.Test.YtlbjhnafdcmpeaaGreatDoorRFnTold8
import Derived.Test.YtlbjhnafdcmpeaaGreatDoorRFnTold9
import Derived.SevenTiedAt
import Derived.Test.YtlbjhnafdcmpeaaGreatDoorCards
import Derived.Test.YtlbjhnafdcmpeaaGreatDoorTie
set_option linter.all false
namespace Go.Ev
open Go Go.Proofs Go.RowKit
theorem fnTold_ok : LawOk 4 := by
  refine ⟨fun {a b c d q W x cap} L => ?_, fun {a b c d W s} L C => ?_⟩
  · exact empty_ent L (vu0 L (orcN_ok rR (s := ⟨0, 0, 0, 0, q, fun _ => (0, 0)⟩) L)) (rFnToldxe a b c d)
  obtain ⟨x1, h1, c1⟩ := C.at_ok 1 (by decide)
  have O : ∀ {z1 : Nat}, x1 % 11 = z1 → OO W s (orcT (tL [(1, 11, z1)])) := fun q1 => orcT_ok rR L _ (fun p hp => by
    simp only [List.mem_cons, List.not_mem_nil, or_false] at hp
    subst hp
    · exact ⟨x1, h1, q1, c1⟩)
  have d1 : x1 % 11 = 0 ∨ x1 % 11 = 1 ∨ x1 % 11 = 2 ∨ x1 % 11 = 3 ∨ x1 % 11 = 4 ∨ x1 % 11 = 5 ∨ x1 % 11 = 6 ∨ x1 % 11 = 7 ∨ x1 % 11 = 8 ∨ x1 % 11 = 9 ∨ x1 % 11 = 10 := by omega
  rcases d1 with q1 | q1 | q1 | q1 | q1 | q1 | q1 | q1 | q1 | q1 | q1
  · exact law_ent L (vu0 L (O q1)) (rFnToldx0 a b c d)
  · exact law_ent L (vu1 L (O q1)) (rFnToldx1 a b c d)
  · exact law_ent L (vu2 L (O q1)) (rFnToldx2 a b c d)
  · exact law_ent L (vu3 L (O q1)) (rFnToldx3 a b c d)
  · exact law_ent L (vu4 L (O q1)) (rFnToldx4 a b c d)
  · exact law_ent L (vu5 L (O q1)) (rFnToldx5 a b c d)
  · exact law_ent L (vu6 L (O q1)) (rFnToldx6 a b c d)
  · exact law_ent L (vu7 L (O q1)) (rFnToldx7 a b c d)
  · exact law_ent L (vu8 L (O q1)) (rFnToldx8 a b c d)
  · exact law_ent L (vu9 L (O q1)) (rFnToldx9 a b c d)
  · exact law_ent L (vu10 L (O q1)) (rFnToldx10 a b c d)
end Go.Ev
namespace Go.Proofs.YtlbjhnafdcmpeaaGreatDoor.fnTold
open Go Go.Ev Go.RowKit Go.ChangeShapes Go.WideShapes Go.ChangeAt
set_option maxRecDepth 100000 in
theorem lifted (os : Os) (started : os.Started) (H : Type) (enc : TypeId × Value → H) :
    ReturnsInHanded {} Tryz.checked os 4 .any (fun w args => (Rows.fnToldSpec.pre enc Tryz.prog Tryz.f4 [] false w args ∧ laidMetH Tryz.prog laidL w) ∧ sizedMet enc Tryz.prog Tryz.f4 (OpenSpec.ofChange Rows.fnToldSpec) false w args)
      (Rows.fnToldSpec.post enc Tryz.prog Tryz.f4 false true false false) := by
  refine returnsInHanded_of_change_and (C := Tryz.checked) (X := fun w _ => laidMetH Tryz.prog laidL w) (fun _ _ _ hh h => h.of_heap hh) own started (by kernel_rfl) Tryz.func4
    (ChangeSpec.witness_shaped (enc := enc) (C := Tryz.checked) (os := os) (X := fun w _ => laidMetH Tryz.prog laidL w) false (World.laidAll Tryz.prog os laidL) #[.slice none 0 0] 8 (World.laidAll_os _ _ _)
      (World.shaped_of_ZipB (by kernel_rfl) (by kernel_rfl)) (by kernel_rfl) (by kernel_rfl) (by kernel_rfl)
      (by rw [MakeChecks.laidMetH_plain _ _ _ (by kernel_rfl)]; exact laidMet_laidAll _ (by kernel_rfl) (by kernel_rfl))) ?_
  intro W base args ds gs before hval0 hW _ _ hL _
  have hW' := hW
  obtain ⟨p, q, hA0, hV, rfl, _, _⟩ := hW
  have hA : DataW.TrodAll enc Tryz.prog W 0 (fun _ => true) true Tryz.f4.params.toList args.toList ds p := hA0
  rw [Tryz.params4] at hA
  obtain ⟨v0, d0, rfl, rfl, h0⟩ := trodAll_one hA
  obtain ⟨rfl, rfl⟩ := trodVars_none hV
  have hval := hval0 0 22 v0 (by rw [Tryz.params4]; rfl) rfl
  obtain ⟨a0, len, cap, rfl⟩ := okWide_slice Tryz.underlying22 hval
  have h0k := h0
  obtain ⟨fuel, hf⟩ := h0
  simp only [List.append_nil] at hW'
  have hlt : ∀ x ∈ p, x.block < W.heap.size := fun x hx => by simpa using hW'.lt x hx
  refine (law_any fnTold_ok hL (by simpa [Value.cells] using hf)).mono fun e W' ⟨he, hb⟩ => ?_
  subst he
  exact ⟨_, rfl, _, _, _, [], _, [], hW', trodAll_mk1 (shut_bool Tryz.underlying4 _), trodAll_mk1 (Below.trod laidOut (by kernel_rfl) (of_decide_eq_true (by kernel_rfl)) h0k hb hlt), rfl, hb.frame _, fun h => by cases h⟩
theorem over : Rows.fnToldRow.holds Tryz.pinned (OpenSpec.ofChange Rows.fnToldSpec) :=
  OpenClaim.holds_of_wide 4 Tryz.f4 rfl rfl rfl rfl rfl rfl rfl ⟨rfl, rfl, rfl, rfl, rfl⟩ rfl rfl rfl rfl rfl (by kernel_rfl) Tryz.func4 closed
    (of_decide_eq_true (by kernel_rfl)) (by unfold Func.isWrapper; first | (rw [if_pos (by decide +kernel)]; kernel_rfl) | (rw [if_neg (by decide +kernel)]; exact ⟨rfl, rfl⟩))
    (fun os started H enc _ => lifted os started H enc)
theorem card_holds : Rows.FnToldCardSaid :=
  Claim7.holds_tied_plain_at .later [] [.data, .data, .data, .data, .sentinel, .sentinel, .pinned] true (true, "d49c95ee553041e9d6130c604c9cfc294257b023487160b09ad382b335d66d84") true
    over (fun _ h => by cases h) wf (fun _ h => by cases h) fnTold_row_tie rfl ⟨rfl, rfl⟩ (by kernel_rfl) rfl
    (fun f fn hf hfn => by
      obtain rfl : f = 4 := Option.some.inj ((show Tryz.prog.funcNamed "loop.example/g00700/laws.FnTold" = some 4 by kernel_rfl).symm.trans hf) |>.symm
      obtain rfl : fn = Tryz.f4 := (Option.some.inj (Tryz.func4.symm.trans hfn)).symm
      exact ⟨looks, fun j t ht => by
        rw [Tryz.params4] at ht
        have hm : t ∈ [22] := by simpa using Array.mem_of_getElem? ht
        exact (show Tryz.prog.wantsStandIn t = false by simpa using List.all_eq_true.1 ws22 t hm)⟩)
    goes
end Go.Proofs.YtlbjhnafdcmpeaaGreatDoor.fnTold
namespace Go.Proofs.YtlbjhnafdcmpeaaGreatDoor
theorem fnTold_card : Rows.FnToldCardSaid := fnTold.card_holds
#print axioms fnTold_card
end Go.Proofs.YtlbjhnafdcmpeaaGreatDoor
