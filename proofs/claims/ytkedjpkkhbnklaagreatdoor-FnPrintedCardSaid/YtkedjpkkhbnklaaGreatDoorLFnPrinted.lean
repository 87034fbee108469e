/- Whatever code the law is given, the law FnPrinted returns true and leaves the code as it was. No conditions. The program is reckoned by a proved evaluator, whose answers the kernel works out; the listed variables are those that the card ties. -/
import Derived.Test.YtkedjpkkhbnklaaGreatDoorLbFnPrinted
import Derived.Test.YtkedjpkkhbnklaaGreatDoorLaFnPrinted
import Derived.Test.YtkedjpkkhbnklaaGreatDoorRrFnPrinted
import Derived.Test.YtkedjpkkhbnklaaGreatDoorFFnPrinted
import Derived.Test.YtkedjpkkhbnklaaGreatDoorGFnPrinted
import Derived.Test.YtkedjpkkhbnklaaGreatDoorRFnPrinted0
import Derived.Test.YtkedjpkkhbnklaaGreatDoorRFnPrinted1
import Derived.Test.YtkedjpkkhbnklaaGreatDoorRFnPrinted2
import Derived.Test.YtkedjpkkhbnklaaGreatDoorRFnPrinted3
import Derived.Test.YtkedjpkkhbnklaaGreatDoorRFnPrinted4
import Derived.Test.YtkedjpkkhbnklaaGreatDoorRFnPrinted5
import Derived.Test.YtkedjpkkhbnklaaGreatDoorRFnPrinted6
import Derived.Test.YtkedjpkkhbnklaaGreatDoorRFnPrinted7
import Derived.Test.YtkedjpkkhbnklaaGreatDoorRFnPrinted8
import Derived.Test.YtkedjpkkhbnklaaGreatDoorRFnPrinted9
import Derived.Test.YtkedjpkkhbnklaaGreatDoorRFnPrinted10
import Derived.Test.YtkedjpkkhbnklaaGreatDoorRFnPrinted11
import Derived.Test.YtkedjpkkhbnklaaGreatDoorRFnPrinted12
import Derived.Test.YtkedjpkkhbnklaaGreatDoorRFnPrinted13
import Derived.Test.YtkedjpkkhbnklaaGreatDoorRFnPrinted14
import Derived.Test.YtkedjpkkhbnklaaGreatDoorRFnPrinted15
import Derived.Test.YtkedjpkkhbnklaaGreatDoorRFnPrinted16
import Derived.Test.YtkedjpkkhbnklaaGreatDoorRFnPrinted17
import Derived.Test.YtkedjpkkhbnklaaGreatDoorRFnPrinted18
import Derived.Test.YtkedjpkkhbnklaaGreatDoorRFnPrinted19
import Derived.Test.YtkedjpkkhbnklaaGreatDoorRFnPrinted20
import Derived.Test.YtkedjpkkhbnklaaGreatDoorRFnPrinted21
import Derived.SevenTiedAt
import Derived.Test.YtkedjpkkhbnklaaGreatDoorCards
import Derived.Test.YtkedjpkkhbnklaaGreatDoorTie
set_option linter.all false
namespace Go.Ev
open Go Go.Proofs Go.RowKit
set_option maxRecDepth 100000 in
theorem fnPrinted_ok : LawOk 5 := by
  refine ⟨fun L => empty_ok rR L rFnPrintedxe, fun {a b c d W s} L C => ?_⟩
  obtain ⟨x1, h1, c1⟩ := C.at_ok 1 (by decide)
  have g : ∀ (a b c d : TypeId), Good (Answer tab 100000 (orcY (tO [(1, .int .i64 x1)])) 300 5 [.oslice 50] (H0 a b c d)) := by
    have e : (0 ≤ x1 ∧ x1 ≤ 11) ∨ (12 ≤ x1 ∧ x1 ≤ 23) ∨ (24 ≤ x1 ∧ x1 ≤ 35) ∨ (36 ≤ x1 ∧ x1 ≤ 47) ∨ (48 ≤ x1 ∧ x1 ≤ 59) ∨ (60 ≤ x1 ∧ x1 ≤ 71) ∨ (72 ≤ x1 ∧ x1 ≤ 83) ∨ (84 ≤ x1 ∧ x1 ≤ 95) ∨ (96 ≤ x1 ∧ x1 ≤ 107) ∨ (108 ≤ x1 ∧ x1 ≤ 119) ∨ (120 ≤ x1 ∧ x1 ≤ 131) ∨ (132 ≤ x1 ∧ x1 ≤ 143) ∨ (144 ≤ x1 ∧ x1 ≤ 155) ∨ (156 ≤ x1 ∧ x1 ≤ 167) ∨ (168 ≤ x1 ∧ x1 ≤ 179) ∨ (180 ≤ x1 ∧ x1 ≤ 191) ∨ (192 ≤ x1 ∧ x1 ≤ 203) ∨ (204 ≤ x1 ∧ x1 ≤ 215) ∨ (216 ≤ x1 ∧ x1 ≤ 227) ∨ (228 ≤ x1 ∧ x1 ≤ 239) ∨ (240 ≤ x1 ∧ x1 ≤ 251) ∨ (252 ≤ x1 ∧ x1 ≤ 255) := by omega
    rcases e with ⟨p, q⟩ | ⟨p, q⟩ | ⟨p, q⟩ | ⟨p, q⟩ | ⟨p, q⟩ | ⟨p, q⟩ | ⟨p, q⟩ | ⟨p, q⟩ | ⟨p, q⟩ | ⟨p, q⟩ | ⟨p, q⟩ | ⟨p, q⟩ | ⟨p, q⟩ | ⟨p, q⟩ | ⟨p, q⟩ | ⟨p, q⟩ | ⟨p, q⟩ | ⟨p, q⟩ | ⟨p, q⟩ | ⟨p, q⟩ | ⟨p, q⟩ | ⟨p, q⟩
    · exact gFnPrinted0 x1 p q
    · exact gFnPrinted1 x1 p q
    · exact gFnPrinted2 x1 p q
    · exact gFnPrinted3 x1 p q
    · exact gFnPrinted4 x1 p q
    · exact gFnPrinted5 x1 p q
    · exact gFnPrinted6 x1 p q
    · exact gFnPrinted7 x1 p q
    · exact gFnPrinted8 x1 p q
    · exact gFnPrinted9 x1 p q
    · exact gFnPrinted10 x1 p q
    · exact gFnPrinted11 x1 p q
    · exact gFnPrinted12 x1 p q
    · exact gFnPrinted13 x1 p q
    · exact gFnPrinted14 x1 p q
    · exact gFnPrinted15 x1 p q
    · exact gFnPrinted16 x1 p q
    · exact gFnPrinted17 x1 p q
    · exact gFnPrinted18 x1 p q
    · exact gFnPrinted19 x1 p q
    · exact gFnPrinted20 x1 p q
    · exact gFnPrinted21 x1 p q
  refine law_sym rR rI L [(1, .int .i64 x1)] (fun p hp => ?_) g
  simp only [List.mem_cons, List.not_mem_nil, or_false] at hp
  subst hp
  exact ⟨x1, VR.nat (Nat.le_trans h1 (by decide)), c1⟩
end Go.Ev
namespace Go.Proofs.YtkedjpkkhbnklaaGreatDoor.fnPrinted
open Go Go.Ev Go.RowKit Go.ChangeShapes Go.WideShapes Go.ChangeAt
set_option maxRecDepth 100000 in
theorem lifted (os : Os) (started : os.Started) (H : Type) (enc : TypeId × Value → H) :
    ReturnsInHanded {} Tryz.checked os 5 .any (fun w args => (Rows.fnPrintedSpec.pre enc Tryz.prog Tryz.f5 [] false w args ∧ laidMetH Tryz.prog laidL w) ∧ sizedMet enc Tryz.prog Tryz.f5 (OpenSpec.ofChange Rows.fnPrintedSpec) false w args)
      (Rows.fnPrintedSpec.post enc Tryz.prog Tryz.f5 false true false false) := by
  refine returnsInHanded_of_change_and (C := Tryz.checked) (X := fun w _ => laidMetH Tryz.prog laidL w) (fun _ _ _ hh h => h.of_heap hh) own started (by kernel_rfl) Tryz.func5
    (ChangeSpec.witness_shaped (enc := enc) (C := Tryz.checked) (os := os) (X := fun w _ => laidMetH Tryz.prog laidL w) false (World.laidAll Tryz.prog os laidL) #[.slice none 0 0] 8 (World.laidAll_os _ _ _)
      (World.shaped_of_ZipB (by kernel_rfl) (by kernel_rfl)) (by kernel_rfl) (by kernel_rfl) (by kernel_rfl)
      (by rw [MakeChecks.laidMetH_plain _ _ _ (by kernel_rfl)]; exact laidMet_laidAll _ (by kernel_rfl) (by kernel_rfl))) ?_
  intro W base args ds gs before hval0 hW _ _ hL _
  have hW' := hW
  obtain ⟨p, q, hA0, hV, rfl, _, _⟩ := hW
  have hA : DataW.TrodAll enc Tryz.prog W 0 (fun _ => true) true Tryz.f5.params.toList args.toList ds p := hA0
  rw [Tryz.params5] at hA
  obtain ⟨v0, d0, rfl, rfl, h0⟩ := trodAll_one hA
  obtain ⟨rfl, rfl⟩ := trodVars_none hV
  have hval := hval0 0 22 v0 (by rw [Tryz.params5]; rfl) rfl
  obtain ⟨a0, len, cap, rfl⟩ := okWide_slice Tryz.underlying22 hval
  have h0k := h0
  obtain ⟨fuel, hf⟩ := h0
  simp only [List.append_nil] at hW'
  have hlt : ∀ x ∈ p, x.block < W.heap.size := fun x hx => by simpa using hW'.lt x hx
  refine (law_any fnPrinted_ok hL (by simpa [Value.cells] using hf)).mono fun e W' ⟨he, hb⟩ => ?_
  subst he
  exact ⟨_, rfl, _, _, _, [], _, [], hW', trodAll_mk1 (shut_bool Tryz.underlying4 _), trodAll_mk1 (Below.trod laidOut (by kernel_rfl) (of_decide_eq_true (by kernel_rfl)) h0k hb hlt), rfl, hb.frame _, fun h => by cases h⟩
theorem over : Rows.fnPrintedRow.holds Tryz.pinned (OpenSpec.ofChange Rows.fnPrintedSpec) :=
  OpenClaim.holds_of_wide 5 Tryz.f5 rfl rfl rfl rfl rfl rfl rfl ⟨rfl, rfl, rfl, rfl, rfl⟩ rfl rfl rfl rfl rfl (by kernel_rfl) Tryz.func5 closed
    (of_decide_eq_true (by kernel_rfl)) (by unfold Func.isWrapper; first | (rw [if_pos (by decide +kernel)]; kernel_rfl) | (rw [if_neg (by decide +kernel)]; exact ⟨rfl, rfl⟩))
    (fun os started H enc _ => lifted os started H enc)
theorem card_holds : Rows.FnPrintedCardSaid :=
  Claim7.holds_tied_plain_at .later [] [.data, .data, .data, .data, .sentinel, .sentinel, .pinned] true (true, "1340292e04382b343d8a065225ffe52c8b9efa5a475810cb4a6c1a387c48a657") true
    over (fun _ h => by cases h) wf (fun _ h => by cases h) fnPrinted_row_tie rfl ⟨rfl, rfl⟩ (by kernel_rfl) rfl
    (fun f fn hf hfn => by
      obtain rfl : f = 5 := Option.some.inj ((show Tryz.prog.funcNamed "loop.example/g00700/laws.FnPrinted" = some 5 by kernel_rfl).symm.trans hf) |>.symm
      obtain rfl : fn = Tryz.f5 := (Option.some.inj (Tryz.func5.symm.trans hfn)).symm
      exact ⟨looks, fun j t ht => by
        rw [Tryz.params5] at ht
        have hm : t ∈ [22] := by simpa using Array.mem_of_getElem? ht
        exact (show Tryz.prog.wantsStandIn t = false by simpa using List.all_eq_true.1 ws22 t hm)⟩)
    goes
end Go.Proofs.YtkedjpkkhbnklaaGreatDoor.fnPrinted
namespace Go.Proofs.YtkedjpkkhbnklaaGreatDoor
theorem fnPrinted_card : Rows.FnPrintedCardSaid := fnPrinted.card_holds
#print axioms fnPrinted_card
end Go.Proofs.YtkedjpkkhbnklaaGreatDoor
