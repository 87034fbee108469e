/- Whatever code the law is given, the law FnNexts returns true and leaves the code as it was. No conditions. The program is reckoned by a proved evaluator, whose answers the kernel works out; the listed variables are those that the card ties. -/
import Derived.Test.YtodmelapdoahpaaGreatDoorLbFnNexts
import Derived.Test.YtodmelapdoahpaaGreatDoorRrFnNexts
import Derived.Test.YtodmelapdoahpaaGreatDoorFFnNexts
import Derived.Test.YtodmelapdoahpaaGreatDoorGFnNexts
import Derived.Test.YtodmelapdoahpaaGreatDoorRFnNexts0
import Derived.Test.YtodmelapdoahpaaGreatDoorRFnNexts1
import Derived.Test.YtodmelapdoahpaaGreatDoorRFnNexts2
import Derived.Test.YtodmelapdoahpaaGreatDoorRFnNexts3
import Derived.Test.YtodmelapdoahpaaGreatDoorRFnNexts4
import Derived.Test.YtodmelapdoahpaaGreatDoorRFnNexts5
import Derived.Test.YtodmelapdoahpaaGreatDoorRFnNexts6
import Derived.Test.YtodmelapdoahpaaGreatDoorRFnNexts7
import Derived.Test.YtodmelapdoahpaaGreatDoorRFnNexts8
import Derived.Test.YtodmelapdoahpaaGreatDoorRFnNexts9
import Derived.Test.YtodmelapdoahpaaGreatDoorRFnNexts10
import Derived.Test.YtodmelapdoahpaaGreatDoorRFnNexts11
import Derived.Test.YtodmelapdoahpaaGreatDoorRFnNexts12
import Derived.Test.YtodmelapdoahpaaGreatDoorRFnNexts13
import Derived.Test.YtodmelapdoahpaaGreatDoorRFnNexts14
import Derived.Test.YtodmelapdoahpaaGreatDoorRFnNexts15
import Derived.Test.YtodmelapdoahpaaGreatDoorRFnNexts16
import Derived.Test.YtodmelapdoahpaaGreatDoorRFnNexts17
import Derived.Test.YtodmelapdoahpaaGreatDoorRFnNexts18
import Derived.Test.YtodmelapdoahpaaGreatDoorRFnNexts19
import Derived.Test.YtodmelapdoahpaaGreatDoorRFnNexts20
import Derived.Test.YtodmelapdoahpaaGreatDoorRFnNexts21
import Derived.Test.YtodmelapdoahpaaGreatDoorRFnNexts22
import Derived.SevenTiedAt
import Derived.Test.YtodmelapdoahpaaGreatDoorCards
import Derived.Test.YtodmelapdoahpaaGreatDoorTie
set_option linter.all false
namespace Go.Ev
open Go Go.Proofs Go.RowKit
def sy8 (m x2 x3 x4 x5 x6 x7 : Nat) : Nat → Nat × Nat := fun b => if b = 60 then (m, 0) else if b = 70 then (x2 / 3, 0) else if b = 71 then (x2 % 3, 0) else if b = 72 then (x3 / 3, 0) else if b = 73 then (x3 % 3, 0) else if b = 74 then (x4 / 3, 0) else if b = 75 then (x4 % 3, 0) else if b = 76 then (x5 / 3, 0) else if b = 77 then (x5 % 3, 0) else if b = 78 then (x6 / 3, 0) else if b = 79 then (x6 % 3, 0) else if b = 80 then (x7 / 3, 0) else if b = 81 then (x7 % 3, 0) else (0, 0)
set_option maxRecDepth 100000 in
theorem fnNexts_ok : LawOk 3 := by
  refine ⟨fun {a b c d q W x cap} L => ?_, fun {a b c d W s} L C => ?_⟩
  · exact empty_ent L (fam_ok rR rI (s := ⟨0, 0, 0, 0, q, fun _ => (0, 0)⟩) (m := 0) L (orcN_ok rR (s := ⟨0, 0, 0, 0, q, fun _ => (0, 0)⟩) L) (holds1 rfl) F0_ mP0 (ck_of kP0 (m := 0) (by decide)) (jP0 a b c d)) (rPe a b c d)
  obtain ⟨x1, h1, c1⟩ := C.at_ok 1 (by decide)
  obtain ⟨x2, h2, c2⟩ := C.at_ok 2 (by decide)
  obtain ⟨x3, h3, c3⟩ := C.at_ok 3 (by decide)
  obtain ⟨x4, h4, c4⟩ := C.at_ok 4 (by decide)
  obtain ⟨x5, h5, c5⟩ := C.at_ok 5 (by decide)
  obtain ⟨x6, h6, c6⟩ := C.at_ok 6 (by decide)
  obtain ⟨x7, h7, c7⟩ := C.at_ok 7 (by decide)
  have g2 : x2 % 3 < 3 := Nat.mod_lt _ (by decide)
  have g3 : x3 % 3 < 3 := Nat.mod_lt _ (by decide)
  have g4 : x4 % 3 < 3 := Nat.mod_lt _ (by decide)
  have g5 : x5 % 3 < 3 := Nat.mod_lt _ (by decide)
  have g6 : x6 % 3 < 3 := Nat.mod_lt _ (by decide)
  have g7 : x7 % 3 < 3 := Nat.mod_lt _ (by decide)
  have d2 : x2 % 3 = 0 ∨ x2 % 3 = 1 ∨ x2 % 3 = 2 := by omega
  have d3 : x3 % 3 = 0 ∨ x3 % 3 = 1 ∨ x3 % 3 = 2 := by omega
  have d4 : x4 % 3 = 0 ∨ x4 % 3 = 1 ∨ x4 % 3 = 2 := by omega
  have d5 : x5 % 3 = 0 ∨ x5 % 3 = 1 ∨ x5 % 3 = 2 := by omega
  have d6 : x6 % 3 = 0 ∨ x6 % 3 = 1 ∨ x6 % 3 = 2 := by omega
  have d7 : x7 % 3 = 0 ∨ x7 % 3 = 1 ∨ x7 % 3 = 2 := by omega
  have d1 : x1 % 8 = 0 ∨ x1 % 8 = 1 ∨ x1 % 8 = 2 ∨ x1 % 8 = 3 ∨ x1 % 8 = 4 ∨ x1 % 8 = 5 ∨ x1 % 8 = 6 ∨ x1 % 8 = 7 := by omega
  rcases d1 with q1 | q1 | q1 | q1 | q1 | q1 | q1 | q1
  · have O := orcY_ok rR rI (s := { s with sy := sy8 0 x2 x3 x4 x5 x6 x7 }) L ((1, .imod 8 0) :: [U0, U1, U2, U3, U4, U5]) (fun p hp => by
      simp only [List.mem_cons, List.not_mem_nil, or_false] at hp
      rcases hp with rfl | rfl | rfl | rfl | rfl | rfl | rfl
      · exact ⟨x1, iM_ok h1 q1, c1⟩
      · exact ⟨x2, sB_ok rfl rfl h2, c2⟩
      · exact ⟨x3, sB_ok rfl rfl h3, c3⟩
      · exact ⟨x4, sB_ok rfl rfl h4, c4⟩
      · exact ⟨x5, sB_ok rfl rfl h5, c5⟩
      · exact ⟨x6, sB_ok rfl rfl h6, c6⟩
      · exact ⟨x7, sB_ok rfl rfl h7, c7⟩)
    exact law_ent (s := { s with sy := sy8 0 x2 x3 x4 x5 x6 x7 }) L (fam_ok rR rI (s := { s with sy := sy8 0 x2 x3 x4 x5 x6 x7 }) L O (holds1 rfl) F0_ mP0 (ck_of kP0 (m := 0) (by decide)) (jP0 a b c d)) (r0_ a b c d)
  · have O := orcY_ok rR rI (s := { s with sy := sy8 1 x2 x3 x4 x5 x6 x7 }) L ((1, .imod 8 1) :: [U0, U1, U2, U3, U4, U5]) (fun p hp => by
      simp only [List.mem_cons, List.not_mem_nil, or_false] at hp
      rcases hp with rfl | rfl | rfl | rfl | rfl | rfl | rfl
      · exact ⟨x1, iM_ok h1 q1, c1⟩
      · exact ⟨x2, sB_ok rfl rfl h2, c2⟩
      · exact ⟨x3, sB_ok rfl rfl h3, c3⟩
      · exact ⟨x4, sB_ok rfl rfl h4, c4⟩
      · exact ⟨x5, sB_ok rfl rfl h5, c5⟩
      · exact ⟨x6, sB_ok rfl rfl h6, c6⟩
      · exact ⟨x7, sB_ok rfl rfl h7, c7⟩)
    exact law_ent (s := { s with sy := sy8 1 x2 x3 x4 x5 x6 x7 }) L (fam_ok rR rI (s := { s with sy := sy8 1 x2 x3 x4 x5 x6 x7 }) L O (holds1 rfl) F1_ mP1 (ck_of kP1 (m := 1) (by decide)) (jP1 a b c d)) (r1_ a b c d)
  · have O := orcY_ok rR rI (s := { s with sy := sy8 2 x2 x3 x4 x5 x6 x7 }) L ((1, .imod 8 2) :: [V0 (x2 % 3), U1, U2, U3, U4, U5]) (fun p hp => by
      simp only [List.mem_cons, List.not_mem_nil, or_false] at hp
      rcases hp with rfl | rfl | rfl | rfl | rfl | rfl | rfl
      · exact ⟨x1, iM_ok h1 q1, c1⟩
      · exact ⟨x2, iM_ok h2 rfl, c2⟩
      · exact ⟨x3, sB_ok rfl rfl h3, c3⟩
      · exact ⟨x4, sB_ok rfl rfl h4, c4⟩
      · exact ⟨x5, sB_ok rfl rfl h5, c5⟩
      · exact ⟨x6, sB_ok rfl rfl h6, c6⟩
      · exact ⟨x7, sB_ok rfl rfl h7, c7⟩)
    exact law_ent (s := { s with sy := sy8 2 x2 x3 x4 x5 x6 x7 }) L (fam_ok rR rI (s := { s with sy := sy8 2 x2 x3 x4 x5 x6 x7 }) L O (holds1 rfl) F1_ mP1 (ck_of kP1 (m := 2) (by decide)) (jP1 a b c d)) ⟨nest_of (r2_ a b c d) k0g _ g2⟩
  · have O := orcY_ok rR rI (s := { s with sy := sy8 3 x2 x3 x4 x5 x6 x7 }) L ((1, .imod 8 3) :: [V0 (x2 % 3), V1 (x3 % 3), U2, U3, U4, U5]) (fun p hp => by
      simp only [List.mem_cons, List.not_mem_nil, or_false] at hp
      rcases hp with rfl | rfl | rfl | rfl | rfl | rfl | rfl
      · exact ⟨x1, iM_ok h1 q1, c1⟩
      · exact ⟨x2, iM_ok h2 rfl, c2⟩
      · exact ⟨x3, iM_ok h3 rfl, c3⟩
      · exact ⟨x4, sB_ok rfl rfl h4, c4⟩
      · exact ⟨x5, sB_ok rfl rfl h5, c5⟩
      · exact ⟨x6, sB_ok rfl rfl h6, c6⟩
      · exact ⟨x7, sB_ok rfl rfl h7, c7⟩)
    exact law_ent (s := { s with sy := sy8 3 x2 x3 x4 x5 x6 x7 }) L (fam_ok rR rI (s := { s with sy := sy8 3 x2 x3 x4 x5 x6 x7 }) L O (holds1 rfl) F1_ mP1 (ck_of kP1 (m := 3) (by decide)) (jP1 a b c d)) ⟨allV_good (nest_of (r3_ a b c d) k1g _ g2) _ g3⟩
  · have O := orcY_ok rR rI (s := { s with sy := sy8 4 x2 x3 x4 x5 x6 x7 }) L ((1, .imod 8 4) :: [V0 (x2 % 3), V1 (x3 % 3), V2 (x4 % 3), U3, U4, U5]) (fun p hp => by
      simp only [List.mem_cons, List.not_mem_nil, or_false] at hp
      rcases hp with rfl | rfl | rfl | rfl | rfl | rfl | rfl
      · exact ⟨x1, iM_ok h1 q1, c1⟩
      · exact ⟨x2, iM_ok h2 rfl, c2⟩
      · exact ⟨x3, iM_ok h3 rfl, c3⟩
      · exact ⟨x4, iM_ok h4 rfl, c4⟩
      · exact ⟨x5, sB_ok rfl rfl h5, c5⟩
      · exact ⟨x6, sB_ok rfl rfl h6, c6⟩
      · exact ⟨x7, sB_ok rfl rfl h7, c7⟩)
    exact law_ent (s := { s with sy := sy8 4 x2 x3 x4 x5 x6 x7 }) L (fam_ok rR rI (s := { s with sy := sy8 4 x2 x3 x4 x5 x6 x7 }) L O (holds1 rfl) F1_ mP1 (ck_of kP1 (m := 4) (by decide)) (jP1 a b c d)) ⟨allV_good (allV_good (nest_of (r4_ a b c d) k2g _ g2) _ g3) _ g4⟩
  · rcases d2 with q2 | q2 | q2
    · have O := orcY_ok rR rI (s := { s with sy := sy8 5 x2 x3 x4 x5 x6 x7 }) L ((1, .imod 8 5) :: [V0 0, V1 (x3 % 3), V2 (x4 % 3), V3 (x5 % 3), U4, U5]) (fun p hp => by
        simp only [List.mem_cons, List.not_mem_nil, or_false] at hp
        rcases hp with rfl | rfl | rfl | rfl | rfl | rfl | rfl
        · exact ⟨x1, iM_ok h1 q1, c1⟩
        · exact ⟨x2, iM_ok h2 q2, c2⟩
        · exact ⟨x3, iM_ok h3 rfl, c3⟩
        · exact ⟨x4, iM_ok h4 rfl, c4⟩
        · exact ⟨x5, iM_ok h5 rfl, c5⟩
        · exact ⟨x6, sB_ok rfl rfl h6, c6⟩
        · exact ⟨x7, sB_ok rfl rfl h7, c7⟩)
      exact law_ent (s := { s with sy := sy8 5 x2 x3 x4 x5 x6 x7 }) L (fam_ok rR rI (s := { s with sy := sy8 5 x2 x3 x4 x5 x6 x7 }) L O (holds1 rfl) F1_ mP1 (ck_of kP1 (m := 5) (by decide)) (jP1 a b c d)) ⟨allV_good (allV_good (nest_of (r5_0 a b c d) k2g _ g3) _ g4) _ g5⟩
    · have O := orcY_ok rR rI (s := { s with sy := sy8 5 x2 x3 x4 x5 x6 x7 }) L ((1, .imod 8 5) :: [V0 1, V1 (x3 % 3), V2 (x4 % 3), V3 (x5 % 3), U4, U5]) (fun p hp => by
        simp only [List.mem_cons, List.not_mem_nil, or_false] at hp
        rcases hp with rfl | rfl | rfl | rfl | rfl | rfl | rfl
        · exact ⟨x1, iM_ok h1 q1, c1⟩
        · exact ⟨x2, iM_ok h2 q2, c2⟩
        · exact ⟨x3, iM_ok h3 rfl, c3⟩
        · exact ⟨x4, iM_ok h4 rfl, c4⟩
        · exact ⟨x5, iM_ok h5 rfl, c5⟩
        · exact ⟨x6, sB_ok rfl rfl h6, c6⟩
        · exact ⟨x7, sB_ok rfl rfl h7, c7⟩)
      exact law_ent (s := { s with sy := sy8 5 x2 x3 x4 x5 x6 x7 }) L (fam_ok rR rI (s := { s with sy := sy8 5 x2 x3 x4 x5 x6 x7 }) L O (holds1 rfl) F1_ mP1 (ck_of kP1 (m := 5) (by decide)) (jP1 a b c d)) ⟨allV_good (allV_good (nest_of (r5_1 a b c d) k2g _ g3) _ g4) _ g5⟩
    · have O := orcY_ok rR rI (s := { s with sy := sy8 5 x2 x3 x4 x5 x6 x7 }) L ((1, .imod 8 5) :: [V0 2, V1 (x3 % 3), V2 (x4 % 3), V3 (x5 % 3), U4, U5]) (fun p hp => by
        simp only [List.mem_cons, List.not_mem_nil, or_false] at hp
        rcases hp with rfl | rfl | rfl | rfl | rfl | rfl | rfl
        · exact ⟨x1, iM_ok h1 q1, c1⟩
        · exact ⟨x2, iM_ok h2 q2, c2⟩
        · exact ⟨x3, iM_ok h3 rfl, c3⟩
        · exact ⟨x4, iM_ok h4 rfl, c4⟩
        · exact ⟨x5, iM_ok h5 rfl, c5⟩
        · exact ⟨x6, sB_ok rfl rfl h6, c6⟩
        · exact ⟨x7, sB_ok rfl rfl h7, c7⟩)
      exact law_ent (s := { s with sy := sy8 5 x2 x3 x4 x5 x6 x7 }) L (fam_ok rR rI (s := { s with sy := sy8 5 x2 x3 x4 x5 x6 x7 }) L O (holds1 rfl) F1_ mP1 (ck_of kP1 (m := 5) (by decide)) (jP1 a b c d)) ⟨allV_good (allV_good (nest_of (r5_2 a b c d) k2g _ g3) _ g4) _ g5⟩
  · rcases d2 with q2 | q2 | q2
    · rcases d3 with q3 | q3 | q3
      · have O := orcY_ok rR rI (s := { s with sy := sy8 6 x2 x3 x4 x5 x6 x7 }) L ((1, .imod 8 6) :: [V0 0, V1 0, V2 (x4 % 3), V3 (x5 % 3), V4 (x6 % 3), U5]) (fun p hp => by
          simp only [List.mem_cons, List.not_mem_nil, or_false] at hp
          rcases hp with rfl | rfl | rfl | rfl | rfl | rfl | rfl
          · exact ⟨x1, iM_ok h1 q1, c1⟩
          · exact ⟨x2, iM_ok h2 q2, c2⟩
          · exact ⟨x3, iM_ok h3 q3, c3⟩
          · exact ⟨x4, iM_ok h4 rfl, c4⟩
          · exact ⟨x5, iM_ok h5 rfl, c5⟩
          · exact ⟨x6, iM_ok h6 rfl, c6⟩
          · exact ⟨x7, sB_ok rfl rfl h7, c7⟩)
        exact law_ent (s := { s with sy := sy8 6 x2 x3 x4 x5 x6 x7 }) L (fam_ok rR rI (s := { s with sy := sy8 6 x2 x3 x4 x5 x6 x7 }) L O (holds1 rfl) F1_ mP1 (ck_of kP1 (m := 6) (by decide)) (jP1 a b c d)) ⟨allV_good (allV_good (nest_of (r6_00 a b c d) k2g _ g4) _ g5) _ g6⟩
      · have O := orcY_ok rR rI (s := { s with sy := sy8 6 x2 x3 x4 x5 x6 x7 }) L ((1, .imod 8 6) :: [V0 0, V1 1, V2 (x4 % 3), V3 (x5 % 3), V4 (x6 % 3), U5]) (fun p hp => by
          simp only [List.mem_cons, List.not_mem_nil, or_false] at hp
          rcases hp with rfl | rfl | rfl | rfl | rfl | rfl | rfl
          · exact ⟨x1, iM_ok h1 q1, c1⟩
          · exact ⟨x2, iM_ok h2 q2, c2⟩
          · exact ⟨x3, iM_ok h3 q3, c3⟩
          · exact ⟨x4, iM_ok h4 rfl, c4⟩
          · exact ⟨x5, iM_ok h5 rfl, c5⟩
          · exact ⟨x6, iM_ok h6 rfl, c6⟩
          · exact ⟨x7, sB_ok rfl rfl h7, c7⟩)
        exact law_ent (s := { s with sy := sy8 6 x2 x3 x4 x5 x6 x7 }) L (fam_ok rR rI (s := { s with sy := sy8 6 x2 x3 x4 x5 x6 x7 }) L O (holds1 rfl) F1_ mP1 (ck_of kP1 (m := 6) (by decide)) (jP1 a b c d)) ⟨allV_good (allV_good (nest_of (r6_01 a b c d) k2g _ g4) _ g5) _ g6⟩
      · have O := orcY_ok rR rI (s := { s with sy := sy8 6 x2 x3 x4 x5 x6 x7 }) L ((1, .imod 8 6) :: [V0 0, V1 2, V2 (x4 % 3), V3 (x5 % 3), V4 (x6 % 3), U5]) (fun p hp => by
          simp only [List.mem_cons, List.not_mem_nil, or_false] at hp
          rcases hp with rfl | rfl | rfl | rfl | rfl | rfl | rfl
          · exact ⟨x1, iM_ok h1 q1, c1⟩
          · exact ⟨x2, iM_ok h2 q2, c2⟩
          · exact ⟨x3, iM_ok h3 q3, c3⟩
          · exact ⟨x4, iM_ok h4 rfl, c4⟩
          · exact ⟨x5, iM_ok h5 rfl, c5⟩
          · exact ⟨x6, iM_ok h6 rfl, c6⟩
          · exact ⟨x7, sB_ok rfl rfl h7, c7⟩)
        exact law_ent (s := { s with sy := sy8 6 x2 x3 x4 x5 x6 x7 }) L (fam_ok rR rI (s := { s with sy := sy8 6 x2 x3 x4 x5 x6 x7 }) L O (holds1 rfl) F1_ mP1 (ck_of kP1 (m := 6) (by decide)) (jP1 a b c d)) ⟨allV_good (allV_good (nest_of (r6_02 a b c d) k2g _ g4) _ g5) _ g6⟩
    · rcases d3 with q3 | q3 | q3
      · have O := orcY_ok rR rI (s := { s with sy := sy8 6 x2 x3 x4 x5 x6 x7 }) L ((1, .imod 8 6) :: [V0 1, V1 0, V2 (x4 % 3), V3 (x5 % 3), V4 (x6 % 3), U5]) (fun p hp => by
          simp only [List.mem_cons, List.not_mem_nil, or_false] at hp
          rcases hp with rfl | rfl | rfl | rfl | rfl | rfl | rfl
          · exact ⟨x1, iM_ok h1 q1, c1⟩
          · exact ⟨x2, iM_ok h2 q2, c2⟩
          · exact ⟨x3, iM_ok h3 q3, c3⟩
          · exact ⟨x4, iM_ok h4 rfl, c4⟩
          · exact ⟨x5, iM_ok h5 rfl, c5⟩
          · exact ⟨x6, iM_ok h6 rfl, c6⟩
          · exact ⟨x7, sB_ok rfl rfl h7, c7⟩)
        exact law_ent (s := { s with sy := sy8 6 x2 x3 x4 x5 x6 x7 }) L (fam_ok rR rI (s := { s with sy := sy8 6 x2 x3 x4 x5 x6 x7 }) L O (holds1 rfl) F1_ mP1 (ck_of kP1 (m := 6) (by decide)) (jP1 a b c d)) ⟨allV_good (allV_good (nest_of (r6_10 a b c d) k2g _ g4) _ g5) _ g6⟩
      · have O := orcY_ok rR rI (s := { s with sy := sy8 6 x2 x3 x4 x5 x6 x7 }) L ((1, .imod 8 6) :: [V0 1, V1 1, V2 (x4 % 3), V3 (x5 % 3), V4 (x6 % 3), U5]) (fun p hp => by
          simp only [List.mem_cons, List.not_mem_nil, or_false] at hp
          rcases hp with rfl | rfl | rfl | rfl | rfl | rfl | rfl
          · exact ⟨x1, iM_ok h1 q1, c1⟩
          · exact ⟨x2, iM_ok h2 q2, c2⟩
          · exact ⟨x3, iM_ok h3 q3, c3⟩
          · exact ⟨x4, iM_ok h4 rfl, c4⟩
          · exact ⟨x5, iM_ok h5 rfl, c5⟩
          · exact ⟨x6, iM_ok h6 rfl, c6⟩
          · exact ⟨x7, sB_ok rfl rfl h7, c7⟩)
        exact law_ent (s := { s with sy := sy8 6 x2 x3 x4 x5 x6 x7 }) L (fam_ok rR rI (s := { s with sy := sy8 6 x2 x3 x4 x5 x6 x7 }) L O (holds1 rfl) F1_ mP1 (ck_of kP1 (m := 6) (by decide)) (jP1 a b c d)) ⟨allV_good (allV_good (nest_of (r6_11 a b c d) k2g _ g4) _ g5) _ g6⟩
      · have O := orcY_ok rR rI (s := { s with sy := sy8 6 x2 x3 x4 x5 x6 x7 }) L ((1, .imod 8 6) :: [V0 1, V1 2, V2 (x4 % 3), V3 (x5 % 3), V4 (x6 % 3), U5]) (fun p hp => by
          simp only [List.mem_cons, List.not_mem_nil, or_false] at hp
          rcases hp with rfl | rfl | rfl | rfl | rfl | rfl | rfl
          · exact ⟨x1, iM_ok h1 q1, c1⟩
          · exact ⟨x2, iM_ok h2 q2, c2⟩
          · exact ⟨x3, iM_ok h3 q3, c3⟩
          · exact ⟨x4, iM_ok h4 rfl, c4⟩
          · exact ⟨x5, iM_ok h5 rfl, c5⟩
          · exact ⟨x6, iM_ok h6 rfl, c6⟩
          · exact ⟨x7, sB_ok rfl rfl h7, c7⟩)
        exact law_ent (s := { s with sy := sy8 6 x2 x3 x4 x5 x6 x7 }) L (fam_ok rR rI (s := { s with sy := sy8 6 x2 x3 x4 x5 x6 x7 }) L O (holds1 rfl) F1_ mP1 (ck_of kP1 (m := 6) (by decide)) (jP1 a b c d)) ⟨allV_good (allV_good (nest_of (r6_12 a b c d) k2g _ g4) _ g5) _ g6⟩
    · rcases d3 with q3 | q3 | q3
      · have O := orcY_ok rR rI (s := { s with sy := sy8 6 x2 x3 x4 x5 x6 x7 }) L ((1, .imod 8 6) :: [V0 2, V1 0, V2 (x4 % 3), V3 (x5 % 3), V4 (x6 % 3), U5]) (fun p hp => by
          simp only [List.mem_cons, List.not_mem_nil, or_false] at hp
          rcases hp with rfl | rfl | rfl | rfl | rfl | rfl | rfl
          · exact ⟨x1, iM_ok h1 q1, c1⟩
          · exact ⟨x2, iM_ok h2 q2, c2⟩
          · exact ⟨x3, iM_ok h3 q3, c3⟩
          · exact ⟨x4, iM_ok h4 rfl, c4⟩
          · exact ⟨x5, iM_ok h5 rfl, c5⟩
          · exact ⟨x6, iM_ok h6 rfl, c6⟩
          · exact ⟨x7, sB_ok rfl rfl h7, c7⟩)
        exact law_ent (s := { s with sy := sy8 6 x2 x3 x4 x5 x6 x7 }) L (fam_ok rR rI (s := { s with sy := sy8 6 x2 x3 x4 x5 x6 x7 }) L O (holds1 rfl) F1_ mP1 (ck_of kP1 (m := 6) (by decide)) (jP1 a b c d)) ⟨allV_good (allV_good (nest_of (r6_20 a b c d) k2g _ g4) _ g5) _ g6⟩
      · have O := orcY_ok rR rI (s := { s with sy := sy8 6 x2 x3 x4 x5 x6 x7 }) L ((1, .imod 8 6) :: [V0 2, V1 1, V2 (x4 % 3), V3 (x5 % 3), V4 (x6 % 3), U5]) (fun p hp => by
          simp only [List.mem_cons, List.not_mem_nil, or_false] at hp
          rcases hp with rfl | rfl | rfl | rfl | rfl | rfl | rfl
          · exact ⟨x1, iM_ok h1 q1, c1⟩
          · exact ⟨x2, iM_ok h2 q2, c2⟩
          · exact ⟨x3, iM_ok h3 q3, c3⟩
          · exact ⟨x4, iM_ok h4 rfl, c4⟩
          · exact ⟨x5, iM_ok h5 rfl, c5⟩
          · exact ⟨x6, iM_ok h6 rfl, c6⟩
          · exact ⟨x7, sB_ok rfl rfl h7, c7⟩)
        exact law_ent (s := { s with sy := sy8 6 x2 x3 x4 x5 x6 x7 }) L (fam_ok rR rI (s := { s with sy := sy8 6 x2 x3 x4 x5 x6 x7 }) L O (holds1 rfl) F1_ mP1 (ck_of kP1 (m := 6) (by decide)) (jP1 a b c d)) ⟨allV_good (allV_good (nest_of (r6_21 a b c d) k2g _ g4) _ g5) _ g6⟩
      · have O := orcY_ok rR rI (s := { s with sy := sy8 6 x2 x3 x4 x5 x6 x7 }) L ((1, .imod 8 6) :: [V0 2, V1 2, V2 (x4 % 3), V3 (x5 % 3), V4 (x6 % 3), U5]) (fun p hp => by
          simp only [List.mem_cons, List.not_mem_nil, or_false] at hp
          rcases hp with rfl | rfl | rfl | rfl | rfl | rfl | rfl
          · exact ⟨x1, iM_ok h1 q1, c1⟩
          · exact ⟨x2, iM_ok h2 q2, c2⟩
          · exact ⟨x3, iM_ok h3 q3, c3⟩
          · exact ⟨x4, iM_ok h4 rfl, c4⟩
          · exact ⟨x5, iM_ok h5 rfl, c5⟩
          · exact ⟨x6, iM_ok h6 rfl, c6⟩
          · exact ⟨x7, sB_ok rfl rfl h7, c7⟩)
        exact law_ent (s := { s with sy := sy8 6 x2 x3 x4 x5 x6 x7 }) L (fam_ok rR rI (s := { s with sy := sy8 6 x2 x3 x4 x5 x6 x7 }) L O (holds1 rfl) F1_ mP1 (ck_of kP1 (m := 6) (by decide)) (jP1 a b c d)) ⟨allV_good (allV_good (nest_of (r6_22 a b c d) k2g _ g4) _ g5) _ g6⟩
  · rcases d2 with q2 | q2 | q2
    · rcases d3 with q3 | q3 | q3
      · rcases d4 with q4 | q4 | q4
        · have O := orcY_ok rR rI (s := { s with sy := sy8 7 x2 x3 x4 x5 x6 x7 }) L ((1, .imod 8 7) :: [V0 0, V1 0, V2 0, V3 (x5 % 3), V4 (x6 % 3), V5 (x7 % 3)]) (fun p hp => by
            simp only [List.mem_cons, List.not_mem_nil, or_false] at hp
            rcases hp with rfl | rfl | rfl | rfl | rfl | rfl | rfl
            · exact ⟨x1, iM_ok h1 q1, c1⟩
            · exact ⟨x2, iM_ok h2 q2, c2⟩
            · exact ⟨x3, iM_ok h3 q3, c3⟩
            · exact ⟨x4, iM_ok h4 q4, c4⟩
            · exact ⟨x5, iM_ok h5 rfl, c5⟩
            · exact ⟨x6, iM_ok h6 rfl, c6⟩
            · exact ⟨x7, iM_ok h7 rfl, c7⟩)
          exact law_ent (s := { s with sy := sy8 7 x2 x3 x4 x5 x6 x7 }) L (fam_ok rR rI (s := { s with sy := sy8 7 x2 x3 x4 x5 x6 x7 }) L O (holds1 rfl) F1_ mP1 (ck_of kP1 (m := 7) (by decide)) (jP1 a b c d)) ⟨allV_good (allV_good (nest_of (r7_000 a b c d) k2g _ g5) _ g6) _ g7⟩
        · have O := orcY_ok rR rI (s := { s with sy := sy8 7 x2 x3 x4 x5 x6 x7 }) L ((1, .imod 8 7) :: [V0 0, V1 0, V2 1, V3 (x5 % 3), V4 (x6 % 3), V5 (x7 % 3)]) (fun p hp => by
            simp only [List.mem_cons, List.not_mem_nil, or_false] at hp
            rcases hp with rfl | rfl | rfl | rfl | rfl | rfl | rfl
            · exact ⟨x1, iM_ok h1 q1, c1⟩
            · exact ⟨x2, iM_ok h2 q2, c2⟩
            · exact ⟨x3, iM_ok h3 q3, c3⟩
            · exact ⟨x4, iM_ok h4 q4, c4⟩
            · exact ⟨x5, iM_ok h5 rfl, c5⟩
            · exact ⟨x6, iM_ok h6 rfl, c6⟩
            · exact ⟨x7, iM_ok h7 rfl, c7⟩)
          exact law_ent (s := { s with sy := sy8 7 x2 x3 x4 x5 x6 x7 }) L (fam_ok rR rI (s := { s with sy := sy8 7 x2 x3 x4 x5 x6 x7 }) L O (holds1 rfl) F1_ mP1 (ck_of kP1 (m := 7) (by decide)) (jP1 a b c d)) ⟨allV_good (allV_good (nest_of (r7_001 a b c d) k2g _ g5) _ g6) _ g7⟩
        · have O := orcY_ok rR rI (s := { s with sy := sy8 7 x2 x3 x4 x5 x6 x7 }) L ((1, .imod 8 7) :: [V0 0, V1 0, V2 2, V3 (x5 % 3), V4 (x6 % 3), V5 (x7 % 3)]) (fun p hp => by
            simp only [List.mem_cons, List.not_mem_nil, or_false] at hp
            rcases hp with rfl | rfl | rfl | rfl | rfl | rfl | rfl
            · exact ⟨x1, iM_ok h1 q1, c1⟩
            · exact ⟨x2, iM_ok h2 q2, c2⟩
            · exact ⟨x3, iM_ok h3 q3, c3⟩
            · exact ⟨x4, iM_ok h4 q4, c4⟩
            · exact ⟨x5, iM_ok h5 rfl, c5⟩
            · exact ⟨x6, iM_ok h6 rfl, c6⟩
            · exact ⟨x7, iM_ok h7 rfl, c7⟩)
          exact law_ent (s := { s with sy := sy8 7 x2 x3 x4 x5 x6 x7 }) L (fam_ok rR rI (s := { s with sy := sy8 7 x2 x3 x4 x5 x6 x7 }) L O (holds1 rfl) F1_ mP1 (ck_of kP1 (m := 7) (by decide)) (jP1 a b c d)) ⟨allV_good (allV_good (nest_of (r7_002 a b c d) k2g _ g5) _ g6) _ g7⟩
      · rcases d4 with q4 | q4 | q4
        · have O := orcY_ok rR rI (s := { s with sy := sy8 7 x2 x3 x4 x5 x6 x7 }) L ((1, .imod 8 7) :: [V0 0, V1 1, V2 0, V3 (x5 % 3), V4 (x6 % 3), V5 (x7 % 3)]) (fun p hp => by
            simp only [List.mem_cons, List.not_mem_nil, or_false] at hp
            rcases hp with rfl | rfl | rfl | rfl | rfl | rfl | rfl
            · exact ⟨x1, iM_ok h1 q1, c1⟩
            · exact ⟨x2, iM_ok h2 q2, c2⟩
            · exact ⟨x3, iM_ok h3 q3, c3⟩
            · exact ⟨x4, iM_ok h4 q4, c4⟩
            · exact ⟨x5, iM_ok h5 rfl, c5⟩
            · exact ⟨x6, iM_ok h6 rfl, c6⟩
            · exact ⟨x7, iM_ok h7 rfl, c7⟩)
          exact law_ent (s := { s with sy := sy8 7 x2 x3 x4 x5 x6 x7 }) L (fam_ok rR rI (s := { s with sy := sy8 7 x2 x3 x4 x5 x6 x7 }) L O (holds1 rfl) F1_ mP1 (ck_of kP1 (m := 7) (by decide)) (jP1 a b c d)) ⟨allV_good (allV_good (nest_of (r7_010 a b c d) k2g _ g5) _ g6) _ g7⟩
        · have O := orcY_ok rR rI (s := { s with sy := sy8 7 x2 x3 x4 x5 x6 x7 }) L ((1, .imod 8 7) :: [V0 0, V1 1, V2 1, V3 (x5 % 3), V4 (x6 % 3), V5 (x7 % 3)]) (fun p hp => by
            simp only [List.mem_cons, List.not_mem_nil, or_false] at hp
            rcases hp with rfl | rfl | rfl | rfl | rfl | rfl | rfl
            · exact ⟨x1, iM_ok h1 q1, c1⟩
            · exact ⟨x2, iM_ok h2 q2, c2⟩
            · exact ⟨x3, iM_ok h3 q3, c3⟩
            · exact ⟨x4, iM_ok h4 q4, c4⟩
            · exact ⟨x5, iM_ok h5 rfl, c5⟩
            · exact ⟨x6, iM_ok h6 rfl, c6⟩
            · exact ⟨x7, iM_ok h7 rfl, c7⟩)
          exact law_ent (s := { s with sy := sy8 7 x2 x3 x4 x5 x6 x7 }) L (fam_ok rR rI (s := { s with sy := sy8 7 x2 x3 x4 x5 x6 x7 }) L O (holds1 rfl) F1_ mP1 (ck_of kP1 (m := 7) (by decide)) (jP1 a b c d)) ⟨allV_good (allV_good (nest_of (r7_011 a b c d) k2g _ g5) _ g6) _ g7⟩
        · have O := orcY_ok rR rI (s := { s with sy := sy8 7 x2 x3 x4 x5 x6 x7 }) L ((1, .imod 8 7) :: [V0 0, V1 1, V2 2, V3 (x5 % 3), V4 (x6 % 3), V5 (x7 % 3)]) (fun p hp => by
            simp only [List.mem_cons, List.not_mem_nil, or_false] at hp
            rcases hp with rfl | rfl | rfl | rfl | rfl | rfl | rfl
            · exact ⟨x1, iM_ok h1 q1, c1⟩
            · exact ⟨x2, iM_ok h2 q2, c2⟩
            · exact ⟨x3, iM_ok h3 q3, c3⟩
            · exact ⟨x4, iM_ok h4 q4, c4⟩
            · exact ⟨x5, iM_ok h5 rfl, c5⟩
            · exact ⟨x6, iM_ok h6 rfl, c6⟩
            · exact ⟨x7, iM_ok h7 rfl, c7⟩)
          exact law_ent (s := { s with sy := sy8 7 x2 x3 x4 x5 x6 x7 }) L (fam_ok rR rI (s := { s with sy := sy8 7 x2 x3 x4 x5 x6 x7 }) L O (holds1 rfl) F1_ mP1 (ck_of kP1 (m := 7) (by decide)) (jP1 a b c d)) ⟨allV_good (allV_good (nest_of (r7_012 a b c d) k2g _ g5) _ g6) _ g7⟩
      · rcases d4 with q4 | q4 | q4
        · have O := orcY_ok rR rI (s := { s with sy := sy8 7 x2 x3 x4 x5 x6 x7 }) L ((1, .imod 8 7) :: [V0 0, V1 2, V2 0, V3 (x5 % 3), V4 (x6 % 3), V5 (x7 % 3)]) (fun p hp => by
            simp only [List.mem_cons, List.not_mem_nil, or_false] at hp
            rcases hp with rfl | rfl | rfl | rfl | rfl | rfl | rfl
            · exact ⟨x1, iM_ok h1 q1, c1⟩
            · exact ⟨x2, iM_ok h2 q2, c2⟩
            · exact ⟨x3, iM_ok h3 q3, c3⟩
            · exact ⟨x4, iM_ok h4 q4, c4⟩
            · exact ⟨x5, iM_ok h5 rfl, c5⟩
            · exact ⟨x6, iM_ok h6 rfl, c6⟩
            · exact ⟨x7, iM_ok h7 rfl, c7⟩)
          exact law_ent (s := { s with sy := sy8 7 x2 x3 x4 x5 x6 x7 }) L (fam_ok rR rI (s := { s with sy := sy8 7 x2 x3 x4 x5 x6 x7 }) L O (holds1 rfl) F1_ mP1 (ck_of kP1 (m := 7) (by decide)) (jP1 a b c d)) ⟨allV_good (allV_good (nest_of (r7_020 a b c d) k2g _ g5) _ g6) _ g7⟩
        · have O := orcY_ok rR rI (s := { s with sy := sy8 7 x2 x3 x4 x5 x6 x7 }) L ((1, .imod 8 7) :: [V0 0, V1 2, V2 1, V3 (x5 % 3), V4 (x6 % 3), V5 (x7 % 3)]) (fun p hp => by
            simp only [List.mem_cons, List.not_mem_nil, or_false] at hp
            rcases hp with rfl | rfl | rfl | rfl | rfl | rfl | rfl
            · exact ⟨x1, iM_ok h1 q1, c1⟩
            · exact ⟨x2, iM_ok h2 q2, c2⟩
            · exact ⟨x3, iM_ok h3 q3, c3⟩
            · exact ⟨x4, iM_ok h4 q4, c4⟩
            · exact ⟨x5, iM_ok h5 rfl, c5⟩
            · exact ⟨x6, iM_ok h6 rfl, c6⟩
            · exact ⟨x7, iM_ok h7 rfl, c7⟩)
          exact law_ent (s := { s with sy := sy8 7 x2 x3 x4 x5 x6 x7 }) L (fam_ok rR rI (s := { s with sy := sy8 7 x2 x3 x4 x5 x6 x7 }) L O (holds1 rfl) F1_ mP1 (ck_of kP1 (m := 7) (by decide)) (jP1 a b c d)) ⟨allV_good (allV_good (nest_of (r7_021 a b c d) k2g _ g5) _ g6) _ g7⟩
        · have O := orcY_ok rR rI (s := { s with sy := sy8 7 x2 x3 x4 x5 x6 x7 }) L ((1, .imod 8 7) :: [V0 0, V1 2, V2 2, V3 (x5 % 3), V4 (x6 % 3), V5 (x7 % 3)]) (fun p hp => by
            simp only [List.mem_cons, List.not_mem_nil, or_false] at hp
            rcases hp with rfl | rfl | rfl | rfl | rfl | rfl | rfl
            · exact ⟨x1, iM_ok h1 q1, c1⟩
            · exact ⟨x2, iM_ok h2 q2, c2⟩
            · exact ⟨x3, iM_ok h3 q3, c3⟩
            · exact ⟨x4, iM_ok h4 q4, c4⟩
            · exact ⟨x5, iM_ok h5 rfl, c5⟩
            · exact ⟨x6, iM_ok h6 rfl, c6⟩
            · exact ⟨x7, iM_ok h7 rfl, c7⟩)
          exact law_ent (s := { s with sy := sy8 7 x2 x3 x4 x5 x6 x7 }) L (fam_ok rR rI (s := { s with sy := sy8 7 x2 x3 x4 x5 x6 x7 }) L O (holds1 rfl) F1_ mP1 (ck_of kP1 (m := 7) (by decide)) (jP1 a b c d)) ⟨allV_good (allV_good (nest_of (r7_022 a b c d) k2g _ g5) _ g6) _ g7⟩
    · rcases d3 with q3 | q3 | q3
      · rcases d4 with q4 | q4 | q4
        · have O := orcY_ok rR rI (s := { s with sy := sy8 7 x2 x3 x4 x5 x6 x7 }) L ((1, .imod 8 7) :: [V0 1, V1 0, V2 0, V3 (x5 % 3), V4 (x6 % 3), V5 (x7 % 3)]) (fun p hp => by
            simp only [List.mem_cons, List.not_mem_nil, or_false] at hp
            rcases hp with rfl | rfl | rfl | rfl | rfl | rfl | rfl
            · exact ⟨x1, iM_ok h1 q1, c1⟩
            · exact ⟨x2, iM_ok h2 q2, c2⟩
            · exact ⟨x3, iM_ok h3 q3, c3⟩
            · exact ⟨x4, iM_ok h4 q4, c4⟩
            · exact ⟨x5, iM_ok h5 rfl, c5⟩
            · exact ⟨x6, iM_ok h6 rfl, c6⟩
            · exact ⟨x7, iM_ok h7 rfl, c7⟩)
          exact law_ent (s := { s with sy := sy8 7 x2 x3 x4 x5 x6 x7 }) L (fam_ok rR rI (s := { s with sy := sy8 7 x2 x3 x4 x5 x6 x7 }) L O (holds1 rfl) F1_ mP1 (ck_of kP1 (m := 7) (by decide)) (jP1 a b c d)) ⟨allV_good (allV_good (nest_of (r7_100 a b c d) k2g _ g5) _ g6) _ g7⟩
        · have O := orcY_ok rR rI (s := { s with sy := sy8 7 x2 x3 x4 x5 x6 x7 }) L ((1, .imod 8 7) :: [V0 1, V1 0, V2 1, V3 (x5 % 3), V4 (x6 % 3), V5 (x7 % 3)]) (fun p hp => by
            simp only [List.mem_cons, List.not_mem_nil, or_false] at hp
            rcases hp with rfl | rfl | rfl | rfl | rfl | rfl | rfl
            · exact ⟨x1, iM_ok h1 q1, c1⟩
            · exact ⟨x2, iM_ok h2 q2, c2⟩
            · exact ⟨x3, iM_ok h3 q3, c3⟩
            · exact ⟨x4, iM_ok h4 q4, c4⟩
            · exact ⟨x5, iM_ok h5 rfl, c5⟩
            · exact ⟨x6, iM_ok h6 rfl, c6⟩
            · exact ⟨x7, iM_ok h7 rfl, c7⟩)
          exact law_ent (s := { s with sy := sy8 7 x2 x3 x4 x5 x6 x7 }) L (fam_ok rR rI (s := { s with sy := sy8 7 x2 x3 x4 x5 x6 x7 }) L O (holds1 rfl) F1_ mP1 (ck_of kP1 (m := 7) (by decide)) (jP1 a b c d)) ⟨allV_good (allV_good (nest_of (r7_101 a b c d) k2g _ g5) _ g6) _ g7⟩
        · have O := orcY_ok rR rI (s := { s with sy := sy8 7 x2 x3 x4 x5 x6 x7 }) L ((1, .imod 8 7) :: [V0 1, V1 0, V2 2, V3 (x5 % 3), V4 (x6 % 3), V5 (x7 % 3)]) (fun p hp => by
            simp only [List.mem_cons, List.not_mem_nil, or_false] at hp
            rcases hp with rfl | rfl | rfl | rfl | rfl | rfl | rfl
            · exact ⟨x1, iM_ok h1 q1, c1⟩
            · exact ⟨x2, iM_ok h2 q2, c2⟩
            · exact ⟨x3, iM_ok h3 q3, c3⟩
            · exact ⟨x4, iM_ok h4 q4, c4⟩
            · exact ⟨x5, iM_ok h5 rfl, c5⟩
            · exact ⟨x6, iM_ok h6 rfl, c6⟩
            · exact ⟨x7, iM_ok h7 rfl, c7⟩)
          exact law_ent (s := { s with sy := sy8 7 x2 x3 x4 x5 x6 x7 }) L (fam_ok rR rI (s := { s with sy := sy8 7 x2 x3 x4 x5 x6 x7 }) L O (holds1 rfl) F1_ mP1 (ck_of kP1 (m := 7) (by decide)) (jP1 a b c d)) ⟨allV_good (allV_good (nest_of (r7_102 a b c d) k2g _ g5) _ g6) _ g7⟩
      · rcases d4 with q4 | q4 | q4
        · have O := orcY_ok rR rI (s := { s with sy := sy8 7 x2 x3 x4 x5 x6 x7 }) L ((1, .imod 8 7) :: [V0 1, V1 1, V2 0, V3 (x5 % 3), V4 (x6 % 3), V5 (x7 % 3)]) (fun p hp => by
            simp only [List.mem_cons, List.not_mem_nil, or_false] at hp
            rcases hp with rfl | rfl | rfl | rfl | rfl | rfl | rfl
            · exact ⟨x1, iM_ok h1 q1, c1⟩
            · exact ⟨x2, iM_ok h2 q2, c2⟩
            · exact ⟨x3, iM_ok h3 q3, c3⟩
            · exact ⟨x4, iM_ok h4 q4, c4⟩
            · exact ⟨x5, iM_ok h5 rfl, c5⟩
            · exact ⟨x6, iM_ok h6 rfl, c6⟩
            · exact ⟨x7, iM_ok h7 rfl, c7⟩)
          exact law_ent (s := { s with sy := sy8 7 x2 x3 x4 x5 x6 x7 }) L (fam_ok rR rI (s := { s with sy := sy8 7 x2 x3 x4 x5 x6 x7 }) L O (holds1 rfl) F1_ mP1 (ck_of kP1 (m := 7) (by decide)) (jP1 a b c d)) ⟨allV_good (allV_good (nest_of (r7_110 a b c d) k2g _ g5) _ g6) _ g7⟩
        · have O := orcY_ok rR rI (s := { s with sy := sy8 7 x2 x3 x4 x5 x6 x7 }) L ((1, .imod 8 7) :: [V0 1, V1 1, V2 1, V3 (x5 % 3), V4 (x6 % 3), V5 (x7 % 3)]) (fun p hp => by
            simp only [List.mem_cons, List.not_mem_nil, or_false] at hp
            rcases hp with rfl | rfl | rfl | rfl | rfl | rfl | rfl
            · exact ⟨x1, iM_ok h1 q1, c1⟩
            · exact ⟨x2, iM_ok h2 q2, c2⟩
            · exact ⟨x3, iM_ok h3 q3, c3⟩
            · exact ⟨x4, iM_ok h4 q4, c4⟩
            · exact ⟨x5, iM_ok h5 rfl, c5⟩
            · exact ⟨x6, iM_ok h6 rfl, c6⟩
            · exact ⟨x7, iM_ok h7 rfl, c7⟩)
          exact law_ent (s := { s with sy := sy8 7 x2 x3 x4 x5 x6 x7 }) L (fam_ok rR rI (s := { s with sy := sy8 7 x2 x3 x4 x5 x6 x7 }) L O (holds1 rfl) F1_ mP1 (ck_of kP1 (m := 7) (by decide)) (jP1 a b c d)) ⟨allV_good (allV_good (nest_of (r7_111 a b c d) k2g _ g5) _ g6) _ g7⟩
        · have O := orcY_ok rR rI (s := { s with sy := sy8 7 x2 x3 x4 x5 x6 x7 }) L ((1, .imod 8 7) :: [V0 1, V1 1, V2 2, V3 (x5 % 3), V4 (x6 % 3), V5 (x7 % 3)]) (fun p hp => by
            simp only [List.mem_cons, List.not_mem_nil, or_false] at hp
            rcases hp with rfl | rfl | rfl | rfl | rfl | rfl | rfl
            · exact ⟨x1, iM_ok h1 q1, c1⟩
            · exact ⟨x2, iM_ok h2 q2, c2⟩
            · exact ⟨x3, iM_ok h3 q3, c3⟩
            · exact ⟨x4, iM_ok h4 q4, c4⟩
            · exact ⟨x5, iM_ok h5 rfl, c5⟩
            · exact ⟨x6, iM_ok h6 rfl, c6⟩
            · exact ⟨x7, iM_ok h7 rfl, c7⟩)
          exact law_ent (s := { s with sy := sy8 7 x2 x3 x4 x5 x6 x7 }) L (fam_ok rR rI (s := { s with sy := sy8 7 x2 x3 x4 x5 x6 x7 }) L O (holds1 rfl) F1_ mP1 (ck_of kP1 (m := 7) (by decide)) (jP1 a b c d)) ⟨allV_good (allV_good (nest_of (r7_112 a b c d) k2g _ g5) _ g6) _ g7⟩
      · rcases d4 with q4 | q4 | q4
        · have O := orcY_ok rR rI (s := { s with sy := sy8 7 x2 x3 x4 x5 x6 x7 }) L ((1, .imod 8 7) :: [V0 1, V1 2, V2 0, V3 (x5 % 3), V4 (x6 % 3), V5 (x7 % 3)]) (fun p hp => by
            simp only [List.mem_cons, List.not_mem_nil, or_false] at hp
            rcases hp with rfl | rfl | rfl | rfl | rfl | rfl | rfl
            · exact ⟨x1, iM_ok h1 q1, c1⟩
            · exact ⟨x2, iM_ok h2 q2, c2⟩
            · exact ⟨x3, iM_ok h3 q3, c3⟩
            · exact ⟨x4, iM_ok h4 q4, c4⟩
            · exact ⟨x5, iM_ok h5 rfl, c5⟩
            · exact ⟨x6, iM_ok h6 rfl, c6⟩
            · exact ⟨x7, iM_ok h7 rfl, c7⟩)
          exact law_ent (s := { s with sy := sy8 7 x2 x3 x4 x5 x6 x7 }) L (fam_ok rR rI (s := { s with sy := sy8 7 x2 x3 x4 x5 x6 x7 }) L O (holds1 rfl) F1_ mP1 (ck_of kP1 (m := 7) (by decide)) (jP1 a b c d)) ⟨allV_good (allV_good (nest_of (r7_120 a b c d) k2g _ g5) _ g6) _ g7⟩
        · have O := orcY_ok rR rI (s := { s with sy := sy8 7 x2 x3 x4 x5 x6 x7 }) L ((1, .imod 8 7) :: [V0 1, V1 2, V2 1, V3 (x5 % 3), V4 (x6 % 3), V5 (x7 % 3)]) (fun p hp => by
            simp only [List.mem_cons, List.not_mem_nil, or_false] at hp
            rcases hp with rfl | rfl | rfl | rfl | rfl | rfl | rfl
            · exact ⟨x1, iM_ok h1 q1, c1⟩
            · exact ⟨x2, iM_ok h2 q2, c2⟩
            · exact ⟨x3, iM_ok h3 q3, c3⟩
            · exact ⟨x4, iM_ok h4 q4, c4⟩
            · exact ⟨x5, iM_ok h5 rfl, c5⟩
            · exact ⟨x6, iM_ok h6 rfl, c6⟩
            · exact ⟨x7, iM_ok h7 rfl, c7⟩)
          exact law_ent (s := { s with sy := sy8 7 x2 x3 x4 x5 x6 x7 }) L (fam_ok rR rI (s := { s with sy := sy8 7 x2 x3 x4 x5 x6 x7 }) L O (holds1 rfl) F1_ mP1 (ck_of kP1 (m := 7) (by decide)) (jP1 a b c d)) ⟨allV_good (allV_good (nest_of (r7_121 a b c d) k2g _ g5) _ g6) _ g7⟩
        · have O := orcY_ok rR rI (s := { s with sy := sy8 7 x2 x3 x4 x5 x6 x7 }) L ((1, .imod 8 7) :: [V0 1, V1 2, V2 2, V3 (x5 % 3), V4 (x6 % 3), V5 (x7 % 3)]) (fun p hp => by
            simp only [List.mem_cons, List.not_mem_nil, or_false] at hp
            rcases hp with rfl | rfl | rfl | rfl | rfl | rfl | rfl
            · exact ⟨x1, iM_ok h1 q1, c1⟩
            · exact ⟨x2, iM_ok h2 q2, c2⟩
            · exact ⟨x3, iM_ok h3 q3, c3⟩
            · exact ⟨x4, iM_ok h4 q4, c4⟩
            · exact ⟨x5, iM_ok h5 rfl, c5⟩
            · exact ⟨x6, iM_ok h6 rfl, c6⟩
            · exact ⟨x7, iM_ok h7 rfl, c7⟩)
          exact law_ent (s := { s with sy := sy8 7 x2 x3 x4 x5 x6 x7 }) L (fam_ok rR rI (s := { s with sy := sy8 7 x2 x3 x4 x5 x6 x7 }) L O (holds1 rfl) F1_ mP1 (ck_of kP1 (m := 7) (by decide)) (jP1 a b c d)) ⟨allV_good (allV_good (nest_of (r7_122 a b c d) k2g _ g5) _ g6) _ g7⟩
    · rcases d3 with q3 | q3 | q3
      · rcases d4 with q4 | q4 | q4
        · have O := orcY_ok rR rI (s := { s with sy := sy8 7 x2 x3 x4 x5 x6 x7 }) L ((1, .imod 8 7) :: [V0 2, V1 0, V2 0, V3 (x5 % 3), V4 (x6 % 3), V5 (x7 % 3)]) (fun p hp => by
            simp only [List.mem_cons, List.not_mem_nil, or_false] at hp
            rcases hp with rfl | rfl | rfl | rfl | rfl | rfl | rfl
            · exact ⟨x1, iM_ok h1 q1, c1⟩
            · exact ⟨x2, iM_ok h2 q2, c2⟩
            · exact ⟨x3, iM_ok h3 q3, c3⟩
            · exact ⟨x4, iM_ok h4 q4, c4⟩
            · exact ⟨x5, iM_ok h5 rfl, c5⟩
            · exact ⟨x6, iM_ok h6 rfl, c6⟩
            · exact ⟨x7, iM_ok h7 rfl, c7⟩)
          exact law_ent (s := { s with sy := sy8 7 x2 x3 x4 x5 x6 x7 }) L (fam_ok rR rI (s := { s with sy := sy8 7 x2 x3 x4 x5 x6 x7 }) L O (holds1 rfl) F1_ mP1 (ck_of kP1 (m := 7) (by decide)) (jP1 a b c d)) ⟨allV_good (allV_good (nest_of (r7_200 a b c d) k2g _ g5) _ g6) _ g7⟩
        · have O := orcY_ok rR rI (s := { s with sy := sy8 7 x2 x3 x4 x5 x6 x7 }) L ((1, .imod 8 7) :: [V0 2, V1 0, V2 1, V3 (x5 % 3), V4 (x6 % 3), V5 (x7 % 3)]) (fun p hp => by
            simp only [List.mem_cons, List.not_mem_nil, or_false] at hp
            rcases hp with rfl | rfl | rfl | rfl | rfl | rfl | rfl
            · exact ⟨x1, iM_ok h1 q1, c1⟩
            · exact ⟨x2, iM_ok h2 q2, c2⟩
            · exact ⟨x3, iM_ok h3 q3, c3⟩
            · exact ⟨x4, iM_ok h4 q4, c4⟩
            · exact ⟨x5, iM_ok h5 rfl, c5⟩
            · exact ⟨x6, iM_ok h6 rfl, c6⟩
            · exact ⟨x7, iM_ok h7 rfl, c7⟩)
          exact law_ent (s := { s with sy := sy8 7 x2 x3 x4 x5 x6 x7 }) L (fam_ok rR rI (s := { s with sy := sy8 7 x2 x3 x4 x5 x6 x7 }) L O (holds1 rfl) F1_ mP1 (ck_of kP1 (m := 7) (by decide)) (jP1 a b c d)) ⟨allV_good (allV_good (nest_of (r7_201 a b c d) k2g _ g5) _ g6) _ g7⟩
        · have O := orcY_ok rR rI (s := { s with sy := sy8 7 x2 x3 x4 x5 x6 x7 }) L ((1, .imod 8 7) :: [V0 2, V1 0, V2 2, V3 (x5 % 3), V4 (x6 % 3), V5 (x7 % 3)]) (fun p hp => by
            simp only [List.mem_cons, List.not_mem_nil, or_false] at hp
            rcases hp with rfl | rfl | rfl | rfl | rfl | rfl | rfl
            · exact ⟨x1, iM_ok h1 q1, c1⟩
            · exact ⟨x2, iM_ok h2 q2, c2⟩
            · exact ⟨x3, iM_ok h3 q3, c3⟩
            · exact ⟨x4, iM_ok h4 q4, c4⟩
            · exact ⟨x5, iM_ok h5 rfl, c5⟩
            · exact ⟨x6, iM_ok h6 rfl, c6⟩
            · exact ⟨x7, iM_ok h7 rfl, c7⟩)
          exact law_ent (s := { s with sy := sy8 7 x2 x3 x4 x5 x6 x7 }) L (fam_ok rR rI (s := { s with sy := sy8 7 x2 x3 x4 x5 x6 x7 }) L O (holds1 rfl) F1_ mP1 (ck_of kP1 (m := 7) (by decide)) (jP1 a b c d)) ⟨allV_good (allV_good (nest_of (r7_202 a b c d) k2g _ g5) _ g6) _ g7⟩
      · rcases d4 with q4 | q4 | q4
        · have O := orcY_ok rR rI (s := { s with sy := sy8 7 x2 x3 x4 x5 x6 x7 }) L ((1, .imod 8 7) :: [V0 2, V1 1, V2 0, V3 (x5 % 3), V4 (x6 % 3), V5 (x7 % 3)]) (fun p hp => by
            simp only [List.mem_cons, List.not_mem_nil, or_false] at hp
            rcases hp with rfl | rfl | rfl | rfl | rfl | rfl | rfl
            · exact ⟨x1, iM_ok h1 q1, c1⟩
            · exact ⟨x2, iM_ok h2 q2, c2⟩
            · exact ⟨x3, iM_ok h3 q3, c3⟩
            · exact ⟨x4, iM_ok h4 q4, c4⟩
            · exact ⟨x5, iM_ok h5 rfl, c5⟩
            · exact ⟨x6, iM_ok h6 rfl, c6⟩
            · exact ⟨x7, iM_ok h7 rfl, c7⟩)
          exact law_ent (s := { s with sy := sy8 7 x2 x3 x4 x5 x6 x7 }) L (fam_ok rR rI (s := { s with sy := sy8 7 x2 x3 x4 x5 x6 x7 }) L O (holds1 rfl) F1_ mP1 (ck_of kP1 (m := 7) (by decide)) (jP1 a b c d)) ⟨allV_good (allV_good (nest_of (r7_210 a b c d) k2g _ g5) _ g6) _ g7⟩
        · have O := orcY_ok rR rI (s := { s with sy := sy8 7 x2 x3 x4 x5 x6 x7 }) L ((1, .imod 8 7) :: [V0 2, V1 1, V2 1, V3 (x5 % 3), V4 (x6 % 3), V5 (x7 % 3)]) (fun p hp => by
            simp only [List.mem_cons, List.not_mem_nil, or_false] at hp
            rcases hp with rfl | rfl | rfl | rfl | rfl | rfl | rfl
            · exact ⟨x1, iM_ok h1 q1, c1⟩
            · exact ⟨x2, iM_ok h2 q2, c2⟩
            · exact ⟨x3, iM_ok h3 q3, c3⟩
            · exact ⟨x4, iM_ok h4 q4, c4⟩
            · exact ⟨x5, iM_ok h5 rfl, c5⟩
            · exact ⟨x6, iM_ok h6 rfl, c6⟩
            · exact ⟨x7, iM_ok h7 rfl, c7⟩)
          exact law_ent (s := { s with sy := sy8 7 x2 x3 x4 x5 x6 x7 }) L (fam_ok rR rI (s := { s with sy := sy8 7 x2 x3 x4 x5 x6 x7 }) L O (holds1 rfl) F1_ mP1 (ck_of kP1 (m := 7) (by decide)) (jP1 a b c d)) ⟨allV_good (allV_good (nest_of (r7_211 a b c d) k2g _ g5) _ g6) _ g7⟩
        · have O := orcY_ok rR rI (s := { s with sy := sy8 7 x2 x3 x4 x5 x6 x7 }) L ((1, .imod 8 7) :: [V0 2, V1 1, V2 2, V3 (x5 % 3), V4 (x6 % 3), V5 (x7 % 3)]) (fun p hp => by
            simp only [List.mem_cons, List.not_mem_nil, or_false] at hp
            rcases hp with rfl | rfl | rfl | rfl | rfl | rfl | rfl
            · exact ⟨x1, iM_ok h1 q1, c1⟩
            · exact ⟨x2, iM_ok h2 q2, c2⟩
            · exact ⟨x3, iM_ok h3 q3, c3⟩
            · exact ⟨x4, iM_ok h4 q4, c4⟩
            · exact ⟨x5, iM_ok h5 rfl, c5⟩
            · exact ⟨x6, iM_ok h6 rfl, c6⟩
            · exact ⟨x7, iM_ok h7 rfl, c7⟩)
          exact law_ent (s := { s with sy := sy8 7 x2 x3 x4 x5 x6 x7 }) L (fam_ok rR rI (s := { s with sy := sy8 7 x2 x3 x4 x5 x6 x7 }) L O (holds1 rfl) F1_ mP1 (ck_of kP1 (m := 7) (by decide)) (jP1 a b c d)) ⟨allV_good (allV_good (nest_of (r7_212 a b c d) k2g _ g5) _ g6) _ g7⟩
      · rcases d4 with q4 | q4 | q4
        · have O := orcY_ok rR rI (s := { s with sy := sy8 7 x2 x3 x4 x5 x6 x7 }) L ((1, .imod 8 7) :: [V0 2, V1 2, V2 0, V3 (x5 % 3), V4 (x6 % 3), V5 (x7 % 3)]) (fun p hp => by
            simp only [List.mem_cons, List.not_mem_nil, or_false] at hp
            rcases hp with rfl | rfl | rfl | rfl | rfl | rfl | rfl
            · exact ⟨x1, iM_ok h1 q1, c1⟩
            · exact ⟨x2, iM_ok h2 q2, c2⟩
            · exact ⟨x3, iM_ok h3 q3, c3⟩
            · exact ⟨x4, iM_ok h4 q4, c4⟩
            · exact ⟨x5, iM_ok h5 rfl, c5⟩
            · exact ⟨x6, iM_ok h6 rfl, c6⟩
            · exact ⟨x7, iM_ok h7 rfl, c7⟩)
          exact law_ent (s := { s with sy := sy8 7 x2 x3 x4 x5 x6 x7 }) L (fam_ok rR rI (s := { s with sy := sy8 7 x2 x3 x4 x5 x6 x7 }) L O (holds1 rfl) F1_ mP1 (ck_of kP1 (m := 7) (by decide)) (jP1 a b c d)) ⟨allV_good (allV_good (nest_of (r7_220 a b c d) k2g _ g5) _ g6) _ g7⟩
        · have O := orcY_ok rR rI (s := { s with sy := sy8 7 x2 x3 x4 x5 x6 x7 }) L ((1, .imod 8 7) :: [V0 2, V1 2, V2 1, V3 (x5 % 3), V4 (x6 % 3), V5 (x7 % 3)]) (fun p hp => by
            simp only [List.mem_cons, List.not_mem_nil, or_false] at hp
            rcases hp with rfl | rfl | rfl | rfl | rfl | rfl | rfl
            · exact ⟨x1, iM_ok h1 q1, c1⟩
            · exact ⟨x2, iM_ok h2 q2, c2⟩
            · exact ⟨x3, iM_ok h3 q3, c3⟩
            · exact ⟨x4, iM_ok h4 q4, c4⟩
            · exact ⟨x5, iM_ok h5 rfl, c5⟩
            · exact ⟨x6, iM_ok h6 rfl, c6⟩
            · exact ⟨x7, iM_ok h7 rfl, c7⟩)
          exact law_ent (s := { s with sy := sy8 7 x2 x3 x4 x5 x6 x7 }) L (fam_ok rR rI (s := { s with sy := sy8 7 x2 x3 x4 x5 x6 x7 }) L O (holds1 rfl) F1_ mP1 (ck_of kP1 (m := 7) (by decide)) (jP1 a b c d)) ⟨allV_good (allV_good (nest_of (r7_221 a b c d) k2g _ g5) _ g6) _ g7⟩
        · have O := orcY_ok rR rI (s := { s with sy := sy8 7 x2 x3 x4 x5 x6 x7 }) L ((1, .imod 8 7) :: [V0 2, V1 2, V2 2, V3 (x5 % 3), V4 (x6 % 3), V5 (x7 % 3)]) (fun p hp => by
            simp only [List.mem_cons, List.not_mem_nil, or_false] at hp
            rcases hp with rfl | rfl | rfl | rfl | rfl | rfl | rfl
            · exact ⟨x1, iM_ok h1 q1, c1⟩
            · exact ⟨x2, iM_ok h2 q2, c2⟩
            · exact ⟨x3, iM_ok h3 q3, c3⟩
            · exact ⟨x4, iM_ok h4 q4, c4⟩
            · exact ⟨x5, iM_ok h5 rfl, c5⟩
            · exact ⟨x6, iM_ok h6 rfl, c6⟩
            · exact ⟨x7, iM_ok h7 rfl, c7⟩)
          exact law_ent (s := { s with sy := sy8 7 x2 x3 x4 x5 x6 x7 }) L (fam_ok rR rI (s := { s with sy := sy8 7 x2 x3 x4 x5 x6 x7 }) L O (holds1 rfl) F1_ mP1 (ck_of kP1 (m := 7) (by decide)) (jP1 a b c d)) ⟨allV_good (allV_good (nest_of (r7_222 a b c d) k2g _ g5) _ g6) _ g7⟩
end Go.Ev
namespace Go.Proofs.YtodmelapdoahpaaGreatDoor.fnNexts
open Go Go.Ev Go.RowKit Go.ChangeShapes Go.WideShapes Go.ChangeAt
set_option maxRecDepth 100000 in
theorem lifted (os : Os) (started : os.Started) (H : Type) (enc : TypeId × Value → H) :
    ReturnsInHanded {} Tryz.checked os 3 .any (fun w args => (Rows.fnNextsSpec.pre enc Tryz.prog Tryz.f3 [] false w args ∧ laidMetH Tryz.prog laidL w) ∧ sizedMet enc Tryz.prog Tryz.f3 (OpenSpec.ofChange Rows.fnNextsSpec) false w args)
      (Rows.fnNextsSpec.post enc Tryz.prog Tryz.f3 false true false false) := by
  refine returnsInHanded_of_change_and (C := Tryz.checked) (X := fun w _ => laidMetH Tryz.prog laidL w) (fun _ _ _ hh h => h.of_heap hh) own started (by kernel_rfl) Tryz.func3
    (ChangeSpec.witness_shaped (enc := enc) (C := Tryz.checked) (os := os) (X := fun w _ => laidMetH Tryz.prog laidL w) false (World.laidAll Tryz.prog os laidL) #[.slice none 0 0] 8 (World.laidAll_os _ _ _)
      (World.shaped_of_ZipB (by kernel_rfl) (by kernel_rfl)) (by kernel_rfl) (by kernel_rfl) (by kernel_rfl)
      (by rw [MakeChecks.laidMetH_plain _ _ _ (by kernel_rfl)]; exact laidMet_laidAll _ (by kernel_rfl) (by kernel_rfl))) ?_
  intro W base args ds gs before hval0 hW _ _ hL _
  have hW' := hW
  obtain ⟨p, q, hA0, hV, rfl, _, _⟩ := hW
  have hA : DataW.TrodAll enc Tryz.prog W 0 (fun _ => true) true Tryz.f3.params.toList args.toList ds p := hA0
  rw [Tryz.params3] at hA
  obtain ⟨v0, d0, rfl, rfl, h0⟩ := trodAll_one hA
  obtain ⟨rfl, rfl⟩ := trodVars_none hV
  have hval := hval0 0 22 v0 (by rw [Tryz.params3]; rfl) rfl
  obtain ⟨a0, len, cap, rfl⟩ := okWide_slice Tryz.underlying22 hval
  have h0k := h0
  obtain ⟨fuel, hf⟩ := h0
  simp only [List.append_nil] at hW'
  have hlt : ∀ x ∈ p, x.block < W.heap.size := fun x hx => by simpa using hW'.lt x hx
  refine (law_any fnNexts_ok hL (by simpa [Value.cells] using hf)).mono fun e W' ⟨he, hb⟩ => ?_
  subst he
  exact ⟨_, rfl, _, _, _, [], _, [], hW', trodAll_mk1 (shut_bool Tryz.underlying4 _), trodAll_mk1 (Below.trod laidOut (by kernel_rfl) (of_decide_eq_true (by kernel_rfl)) h0k hb hlt), rfl, hb.frame _, fun h => by cases h⟩
theorem over : Rows.fnNextsRow.holds Tryz.pinned (OpenSpec.ofChange Rows.fnNextsSpec) :=
  OpenClaim.holds_of_wide 3 Tryz.f3 rfl rfl rfl rfl rfl rfl rfl ⟨rfl, rfl, rfl, rfl, rfl⟩ rfl rfl rfl rfl rfl (by kernel_rfl) Tryz.func3 closed
    (of_decide_eq_true (by kernel_rfl)) (by unfold Func.isWrapper; first | (rw [if_pos (by decide +kernel)]; kernel_rfl) | (rw [if_neg (by decide +kernel)]; exact ⟨rfl, rfl⟩))
    (fun os started H enc _ => lifted os started H enc)
theorem card_holds : Rows.FnNextsCardSaid :=
  Claim7.holds_tied_plain_at .later [] [.data, .data, .data, .data, .sentinel, .sentinel, .pinned] true (true, "fe6e6f8bddec51d210d823172e1f66888ada8b1f8f130e9421f6037e22cd3465") true
    over (fun _ h => by cases h) wf (fun _ h => by cases h) fnNexts_row_tie rfl ⟨rfl, rfl⟩ (by kernel_rfl) rfl
    (fun f fn hf hfn => by
      obtain rfl : f = 3 := Option.some.inj ((show Tryz.prog.funcNamed "loop.example/g00700/laws.FnNexts" = some 3 by kernel_rfl).symm.trans hf) |>.symm
      obtain rfl : fn = Tryz.f3 := (Option.some.inj (Tryz.func3.symm.trans hfn)).symm
      exact ⟨looks, fun j t ht => by
        rw [Tryz.params3] at ht
        have hm : t ∈ [22] := by simpa using Array.mem_of_getElem? ht
        exact (show Tryz.prog.wantsStandIn t = false by simpa using List.all_eq_true.1 ws22 t hm)⟩)
    goes
end Go.Proofs.YtodmelapdoahpaaGreatDoor.fnNexts
namespace Go.Proofs.YtodmelapdoahpaaGreatDoor
theorem fnNexts_card : Rows.FnNextsCardSaid := fnNexts.card_holds
#print axioms fnNexts_card
end Go.Proofs.YtodmelapdoahpaaGreatDoor
