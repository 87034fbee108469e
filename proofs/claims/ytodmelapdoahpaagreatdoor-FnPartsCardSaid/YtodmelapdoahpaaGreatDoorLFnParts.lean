/- Whatever code the law is given, the law FnParts returns true and leaves the code as it was. No conditions. The program is reckoned by a proved evaluator, whose answers the kernel works out; the listed variables are those that the card ties. -/
import Derived.Test.YtodmelapdoahpaaGreatDoorLbFnParts
import Derived.Test.YtodmelapdoahpaaGreatDoorRrFnParts
import Derived.Test.YtodmelapdoahpaaGreatDoorFFnParts
import Derived.Test.YtodmelapdoahpaaGreatDoorGFnParts
import Derived.Test.YtodmelapdoahpaaGreatDoorRFnParts0
import Derived.Test.YtodmelapdoahpaaGreatDoorRFnParts1
import Derived.Test.YtodmelapdoahpaaGreatDoorRFnParts2
import Derived.Test.YtodmelapdoahpaaGreatDoorRFnParts3
import Derived.Test.YtodmelapdoahpaaGreatDoorRFnParts4
import Derived.Test.YtodmelapdoahpaaGreatDoorRFnParts5
import Derived.Test.YtodmelapdoahpaaGreatDoorRFnParts6
import Derived.Test.YtodmelapdoahpaaGreatDoorRFnParts7
import Derived.Test.YtodmelapdoahpaaGreatDoorRFnParts8
import Derived.Test.YtodmelapdoahpaaGreatDoorRFnParts9
import Derived.Test.YtodmelapdoahpaaGreatDoorRFnParts10
import Derived.Test.YtodmelapdoahpaaGreatDoorRFnParts11
import Derived.Test.YtodmelapdoahpaaGreatDoorRFnParts12
import Derived.Test.YtodmelapdoahpaaGreatDoorRFnParts13
import Derived.Test.YtodmelapdoahpaaGreatDoorRFnParts14
import Derived.Test.YtodmelapdoahpaaGreatDoorRFnParts15
import Derived.Test.YtodmelapdoahpaaGreatDoorRFnParts16
import Derived.Test.YtodmelapdoahpaaGreatDoorRFnParts17
import Derived.Test.YtodmelapdoahpaaGreatDoorRFnParts18
import Derived.Test.YtodmelapdoahpaaGreatDoorRFnParts19
import Derived.Test.YtodmelapdoahpaaGreatDoorRFnParts20
import Derived.Test.YtodmelapdoahpaaGreatDoorRFnParts21
import Derived.Test.YtodmelapdoahpaaGreatDoorRFnParts22
import Derived.Test.YtodmelapdoahpaaGreatDoorRFnParts23
import Derived.Test.YtodmelapdoahpaaGreatDoorRFnParts24
import Derived.Test.YtodmelapdoahpaaGreatDoorRFnParts25
import Derived.Test.YtodmelapdoahpaaGreatDoorRFnParts26
import Derived.Test.YtodmelapdoahpaaGreatDoorRFnParts27
import Derived.Test.YtodmelapdoahpaaGreatDoorRFnParts28
import Derived.SevenTiedAt
import Derived.Test.YtodmelapdoahpaaGreatDoorCards
import Derived.Test.YtodmelapdoahpaaGreatDoorTie
set_option linter.all false
namespace Go.Ev
open Go Go.Proofs Go.RowKit
set_option maxRecDepth 100000 in
theorem fnParts_ok : LawOkM 4 := by
  refine ⟨fun {a b c d q W x cap} hm L => ?_, fun {a b c d W s} hm L C => ?_⟩
  · exact empty_ent L (fam_ok rR rI (s := ⟨0, 0, 0, 0, q, fun _ => (0, 0)⟩) (m := 0) (n := 0) L (tbl_ok (orcN_ok rR (s := ⟨0, 0, 0, 0, q, fun _ => (0, 0)⟩) L) 109 idxT (idx_all hm)) (holds2 rfl rfl) F0_1 (by kernel_rfl) (ck_of kP0_1 (m := 0) (by decide) (n := 0) (by decide)) (jP0_1 a b c d)) (rPe a b c d)
  obtain ⟨x1, h1, c1⟩ := C.at_ok 1 (by decide)
  obtain ⟨x2, h2, c2⟩ := C.at_ok 2 (by decide)
  obtain ⟨x3, h3, c3⟩ := C.at_ok 3 (by decide)
  have d1 : x1 % 7 = 0 ∨ x1 % 7 = 1 ∨ x1 % 7 = 2 ∨ x1 % 7 = 3 ∨ x1 % 7 = 4 ∨ x1 % 7 = 5 ∨ x1 % 7 = 6 := by omega
  have d2 : x2 % 9 = 0 ∨ x2 % 9 = 1 ∨ x2 % 9 = 2 ∨ x2 % 9 = 3 ∨ x2 % 9 = 4 ∨ x2 % 9 = 5 ∨ x2 % 9 = 6 ∨ x2 % 9 = 7 ∨ x2 % 9 = 8 := by omega
  rcases d1 with q1 | q1 | q1 | q1 | q1 | q1 | q1
  · rcases d2 with q2 | q2 | q2 | q2 | q2 | q2 | q2 | q2 | q2
    · exact famP rR rI hm L h1 h2 h3 q1 q2 c1 c2 c3 F0_1 (by kernel_rfl) (fun n hn => ck_of kP0_1 (m := 0) (by decide) hn) (jP0_1 a b c d) (allV5 (rP0_0 a b c d))
    · exact famP rR rI hm L h1 h2 h3 q1 q2 c1 c2 c3 F0_0 (by kernel_rfl) (fun n hn => ck_of kP0_0 (m := 0) (by decide) hn) (jP0_0 a b c d) (allV5 (rP0_1 a b c d))
    · exact famP rR rI hm L h1 h2 h3 q1 q2 c1 c2 c3 F0_0 (by kernel_rfl) (fun n hn => ck_of kP0_0 (m := 1) (by decide) hn) (jP0_0 a b c d) (allV5 (rP0_2 a b c d))
    · exact famP rR rI hm L h1 h2 h3 q1 q2 c1 c2 c3 F0_0 (by kernel_rfl) (fun n hn => ck_of kP0_0 (m := 2) (by decide) hn) (jP0_0 a b c d) (allV5 (rP0_3 a b c d))
    · exact famP rR rI hm L h1 h2 h3 q1 q2 c1 c2 c3 F0_0 (by kernel_rfl) (fun n hn => ck_of kP0_0 (m := 3) (by decide) hn) (jP0_0 a b c d) (allV5 (rP0_4 a b c d))
    · exact famP rR rI hm L h1 h2 h3 q1 q2 c1 c2 c3 F0_0 (by kernel_rfl) (fun n hn => ck_of kP0_0 (m := 4) (by decide) hn) (jP0_0 a b c d) (allV5 (rP0_5 a b c d))
    · exact famP rR rI hm L h1 h2 h3 q1 q2 c1 c2 c3 F0_0 (by kernel_rfl) (fun n hn => ck_of kP0_0 (m := 5) (by decide) hn) (jP0_0 a b c d) (allV5 (rP0_6 a b c d))
    · exact famP rR rI hm L h1 h2 h3 q1 q2 c1 c2 c3 F0_0 (by kernel_rfl) (fun n hn => ck_of kP0_0 (m := 6) (by decide) hn) (jP0_0 a b c d) (allV5 (rP0_7 a b c d))
    · exact famP rR rI hm L h1 h2 h3 q1 q2 c1 c2 c3 F0_0 (by kernel_rfl) (fun n hn => ck_of kP0_0 (m := 7) (by decide) hn) (jP0_0 a b c d) (allV5 (rP0_8 a b c d))
  · rcases d2 with q2 | q2 | q2 | q2 | q2 | q2 | q2 | q2 | q2
    · exact famP rR rI hm L h1 h2 h3 q1 q2 c1 c2 c3 F1_1 (by kernel_rfl) (fun n hn => ck_of kP1_1 (m := 0) (by decide) hn) (jP1_1 a b c d) (allV5 (rP1_0 a b c d))
    · exact famP rR rI hm L h1 h2 h3 q1 q2 c1 c2 c3 F1_0 (by kernel_rfl) (fun n hn => ck_of kP1_0 (m := 0) (by decide) hn) (jP1_0 a b c d) (allV5 (rP1_1 a b c d))
    · exact famP rR rI hm L h1 h2 h3 q1 q2 c1 c2 c3 F1_0 (by kernel_rfl) (fun n hn => ck_of kP1_0 (m := 1) (by decide) hn) (jP1_0 a b c d) (allV5 (rP1_2 a b c d))
    · exact famP rR rI hm L h1 h2 h3 q1 q2 c1 c2 c3 F1_0 (by kernel_rfl) (fun n hn => ck_of kP1_0 (m := 2) (by decide) hn) (jP1_0 a b c d) (allV5 (rP1_3 a b c d))
    · exact famP rR rI hm L h1 h2 h3 q1 q2 c1 c2 c3 F1_0 (by kernel_rfl) (fun n hn => ck_of kP1_0 (m := 3) (by decide) hn) (jP1_0 a b c d) (allV5 (rP1_4 a b c d))
    · exact famP rR rI hm L h1 h2 h3 q1 q2 c1 c2 c3 F1_0 (by kernel_rfl) (fun n hn => ck_of kP1_0 (m := 4) (by decide) hn) (jP1_0 a b c d) (allV5 (rP1_5 a b c d))
    · exact famP rR rI hm L h1 h2 h3 q1 q2 c1 c2 c3 F1_0 (by kernel_rfl) (fun n hn => ck_of kP1_0 (m := 5) (by decide) hn) (jP1_0 a b c d) (allV5 (rP1_6 a b c d))
    · exact famP rR rI hm L h1 h2 h3 q1 q2 c1 c2 c3 F1_0 (by kernel_rfl) (fun n hn => ck_of kP1_0 (m := 6) (by decide) hn) (jP1_0 a b c d) (allV5 (rP1_7 a b c d))
    · exact famP rR rI hm L h1 h2 h3 q1 q2 c1 c2 c3 F1_0 (by kernel_rfl) (fun n hn => ck_of kP1_0 (m := 7) (by decide) hn) (jP1_0 a b c d) (allV5 (rP1_8 a b c d))
  · rcases d2 with q2 | q2 | q2 | q2 | q2 | q2 | q2 | q2 | q2
    · exact famP rR rI hm L h1 h2 h3 q1 q2 c1 c2 c3 F2_1 (by kernel_rfl) (fun n hn => ck_of kP2_1 (m := 0) (by decide) hn) (jP2_1 a b c d) (allV5 (rP2_0 a b c d))
    · exact famP rR rI hm L h1 h2 h3 q1 q2 c1 c2 c3 F2_0 (by kernel_rfl) (fun n hn => ck_of kP2_0 (m := 0) (by decide) hn) (jP2_0 a b c d) (allV5 (rP2_1 a b c d))
    · exact famP rR rI hm L h1 h2 h3 q1 q2 c1 c2 c3 F2_0 (by kernel_rfl) (fun n hn => ck_of kP2_0 (m := 1) (by decide) hn) (jP2_0 a b c d) (allV5 (rP2_2 a b c d))
    · exact famP rR rI hm L h1 h2 h3 q1 q2 c1 c2 c3 F2_0 (by kernel_rfl) (fun n hn => ck_of kP2_0 (m := 2) (by decide) hn) (jP2_0 a b c d) (allV5 (rP2_3 a b c d))
    · exact famP rR rI hm L h1 h2 h3 q1 q2 c1 c2 c3 F2_0 (by kernel_rfl) (fun n hn => ck_of kP2_0 (m := 3) (by decide) hn) (jP2_0 a b c d) (allV5 (rP2_4 a b c d))
    · exact famP rR rI hm L h1 h2 h3 q1 q2 c1 c2 c3 F2_0 (by kernel_rfl) (fun n hn => ck_of kP2_0 (m := 4) (by decide) hn) (jP2_0 a b c d) (allV5 (rP2_5 a b c d))
    · exact famP rR rI hm L h1 h2 h3 q1 q2 c1 c2 c3 F2_0 (by kernel_rfl) (fun n hn => ck_of kP2_0 (m := 5) (by decide) hn) (jP2_0 a b c d) (allV5 (rP2_6 a b c d))
    · exact famP rR rI hm L h1 h2 h3 q1 q2 c1 c2 c3 F2_0 (by kernel_rfl) (fun n hn => ck_of kP2_0 (m := 6) (by decide) hn) (jP2_0 a b c d) (allV5 (rP2_7 a b c d))
    · exact famP rR rI hm L h1 h2 h3 q1 q2 c1 c2 c3 F2_0 (by kernel_rfl) (fun n hn => ck_of kP2_0 (m := 7) (by decide) hn) (jP2_0 a b c d) (allV5 (rP2_8 a b c d))
  · rcases d2 with q2 | q2 | q2 | q2 | q2 | q2 | q2 | q2 | q2
    · exact famP rR rI hm L h1 h2 h3 q1 q2 c1 c2 c3 F3_1 (by kernel_rfl) (fun n hn => ck_of kP3_1 (m := 0) (by decide) hn) (jP3_1 a b c d) (allV5 (rP3_0 a b c d))
    · exact famP rR rI hm L h1 h2 h3 q1 q2 c1 c2 c3 F3_0 (by kernel_rfl) (fun n hn => ck_of kP3_0 (m := 0) (by decide) hn) (jP3_0 a b c d) (allV5 (rP3_1 a b c d))
    · exact famP rR rI hm L h1 h2 h3 q1 q2 c1 c2 c3 F3_0 (by kernel_rfl) (fun n hn => ck_of kP3_0 (m := 1) (by decide) hn) (jP3_0 a b c d) (allV5 (rP3_2 a b c d))
    · exact famP rR rI hm L h1 h2 h3 q1 q2 c1 c2 c3 F3_0 (by kernel_rfl) (fun n hn => ck_of kP3_0 (m := 2) (by decide) hn) (jP3_0 a b c d) (allV5 (rP3_3 a b c d))
    · exact famP rR rI hm L h1 h2 h3 q1 q2 c1 c2 c3 F3_0 (by kernel_rfl) (fun n hn => ck_of kP3_0 (m := 3) (by decide) hn) (jP3_0 a b c d) (allV5 (rP3_4 a b c d))
    · exact famP rR rI hm L h1 h2 h3 q1 q2 c1 c2 c3 F3_0 (by kernel_rfl) (fun n hn => ck_of kP3_0 (m := 4) (by decide) hn) (jP3_0 a b c d) (allV5 (rP3_5 a b c d))
    · exact famP rR rI hm L h1 h2 h3 q1 q2 c1 c2 c3 F3_0 (by kernel_rfl) (fun n hn => ck_of kP3_0 (m := 5) (by decide) hn) (jP3_0 a b c d) (allV5 (rP3_6 a b c d))
    · exact famP rR rI hm L h1 h2 h3 q1 q2 c1 c2 c3 F3_0 (by kernel_rfl) (fun n hn => ck_of kP3_0 (m := 6) (by decide) hn) (jP3_0 a b c d) (allV5 (rP3_7 a b c d))
    · exact famP rR rI hm L h1 h2 h3 q1 q2 c1 c2 c3 F3_0 (by kernel_rfl) (fun n hn => ck_of kP3_0 (m := 7) (by decide) hn) (jP3_0 a b c d) (allV5 (rP3_8 a b c d))
  · rcases d2 with q2 | q2 | q2 | q2 | q2 | q2 | q2 | q2 | q2
    · exact famP rR rI hm L h1 h2 h3 q1 q2 c1 c2 c3 F4_1 (by kernel_rfl) (fun n hn => ck_of kP4_1 (m := 0) (by decide) hn) (jP4_1 a b c d) (allV5 (rP4_0 a b c d))
    · exact famP rR rI hm L h1 h2 h3 q1 q2 c1 c2 c3 F4_0 (by kernel_rfl) (fun n hn => ck_of kP4_0 (m := 0) (by decide) hn) (jP4_0 a b c d) (allV5 (rP4_1 a b c d))
    · exact famP rR rI hm L h1 h2 h3 q1 q2 c1 c2 c3 F4_0 (by kernel_rfl) (fun n hn => ck_of kP4_0 (m := 1) (by decide) hn) (jP4_0 a b c d) (allV5 (rP4_2 a b c d))
    · exact famP rR rI hm L h1 h2 h3 q1 q2 c1 c2 c3 F4_0 (by kernel_rfl) (fun n hn => ck_of kP4_0 (m := 2) (by decide) hn) (jP4_0 a b c d) (allV5 (rP4_3 a b c d))
    · exact famP rR rI hm L h1 h2 h3 q1 q2 c1 c2 c3 F4_0 (by kernel_rfl) (fun n hn => ck_of kP4_0 (m := 3) (by decide) hn) (jP4_0 a b c d) (allV5 (rP4_4 a b c d))
    · exact famP rR rI hm L h1 h2 h3 q1 q2 c1 c2 c3 F4_0 (by kernel_rfl) (fun n hn => ck_of kP4_0 (m := 4) (by decide) hn) (jP4_0 a b c d) (allV5 (rP4_5 a b c d))
    · exact famP rR rI hm L h1 h2 h3 q1 q2 c1 c2 c3 F4_0 (by kernel_rfl) (fun n hn => ck_of kP4_0 (m := 5) (by decide) hn) (jP4_0 a b c d) (allV5 (rP4_6 a b c d))
    · exact famP rR rI hm L h1 h2 h3 q1 q2 c1 c2 c3 F4_0 (by kernel_rfl) (fun n hn => ck_of kP4_0 (m := 6) (by decide) hn) (jP4_0 a b c d) (allV5 (rP4_7 a b c d))
    · exact famP rR rI hm L h1 h2 h3 q1 q2 c1 c2 c3 F4_0 (by kernel_rfl) (fun n hn => ck_of kP4_0 (m := 7) (by decide) hn) (jP4_0 a b c d) (allV5 (rP4_8 a b c d))
  · rcases d2 with q2 | q2 | q2 | q2 | q2 | q2 | q2 | q2 | q2
    · exact famP rR rI hm L h1 h2 h3 q1 q2 c1 c2 c3 F5_1 (by kernel_rfl) (fun n hn => ck_of kP5_1 (m := 0) (by decide) hn) (jP5_1 a b c d) (allV5 (rP5_0 a b c d))
    · exact famP rR rI hm L h1 h2 h3 q1 q2 c1 c2 c3 F5_0 (by kernel_rfl) (fun n hn => ck_of kP5_0 (m := 0) (by decide) hn) (jP5_0 a b c d) (allV5 (rP5_1 a b c d))
    · exact famP rR rI hm L h1 h2 h3 q1 q2 c1 c2 c3 F5_0 (by kernel_rfl) (fun n hn => ck_of kP5_0 (m := 1) (by decide) hn) (jP5_0 a b c d) (allV5 (rP5_2 a b c d))
    · exact famP rR rI hm L h1 h2 h3 q1 q2 c1 c2 c3 F5_0 (by kernel_rfl) (fun n hn => ck_of kP5_0 (m := 2) (by decide) hn) (jP5_0 a b c d) (allV5 (rP5_3 a b c d))
    · exact famP rR rI hm L h1 h2 h3 q1 q2 c1 c2 c3 F5_0 (by kernel_rfl) (fun n hn => ck_of kP5_0 (m := 3) (by decide) hn) (jP5_0 a b c d) (allV5 (rP5_4 a b c d))
    · exact famP rR rI hm L h1 h2 h3 q1 q2 c1 c2 c3 F5_0 (by kernel_rfl) (fun n hn => ck_of kP5_0 (m := 4) (by decide) hn) (jP5_0 a b c d) (allV5 (rP5_5 a b c d))
    · exact famP rR rI hm L h1 h2 h3 q1 q2 c1 c2 c3 F5_0 (by kernel_rfl) (fun n hn => ck_of kP5_0 (m := 5) (by decide) hn) (jP5_0 a b c d) (allV5 (rP5_6 a b c d))
    · exact famP rR rI hm L h1 h2 h3 q1 q2 c1 c2 c3 F5_0 (by kernel_rfl) (fun n hn => ck_of kP5_0 (m := 6) (by decide) hn) (jP5_0 a b c d) (allV5 (rP5_7 a b c d))
    · exact famP rR rI hm L h1 h2 h3 q1 q2 c1 c2 c3 F5_0 (by kernel_rfl) (fun n hn => ck_of kP5_0 (m := 7) (by decide) hn) (jP5_0 a b c d) (allV5 (rP5_8 a b c d))
  · rcases d2 with q2 | q2 | q2 | q2 | q2 | q2 | q2 | q2 | q2
    · exact famP rR rI hm L h1 h2 h3 q1 q2 c1 c2 c3 F6_1 (by kernel_rfl) (fun n hn => ck_of kP6_1 (m := 0) (by decide) hn) (jP6_1 a b c d) (allV5 (rP6_0 a b c d))
    · exact famP rR rI hm L h1 h2 h3 q1 q2 c1 c2 c3 F6_0 (by kernel_rfl) (fun n hn => ck_of kP6_0 (m := 0) (by decide) hn) (jP6_0 a b c d) (allV5 (rP6_1 a b c d))
    · exact famP rR rI hm L h1 h2 h3 q1 q2 c1 c2 c3 F6_0 (by kernel_rfl) (fun n hn => ck_of kP6_0 (m := 1) (by decide) hn) (jP6_0 a b c d) (allV5 (rP6_2 a b c d))
    · exact famP rR rI hm L h1 h2 h3 q1 q2 c1 c2 c3 F6_0 (by kernel_rfl) (fun n hn => ck_of kP6_0 (m := 2) (by decide) hn) (jP6_0 a b c d) (allV5 (rP6_3 a b c d))
    · exact famP rR rI hm L h1 h2 h3 q1 q2 c1 c2 c3 F6_0 (by kernel_rfl) (fun n hn => ck_of kP6_0 (m := 3) (by decide) hn) (jP6_0 a b c d) (allV5 (rP6_4 a b c d))
    · exact famP rR rI hm L h1 h2 h3 q1 q2 c1 c2 c3 F6_0 (by kernel_rfl) (fun n hn => ck_of kP6_0 (m := 4) (by decide) hn) (jP6_0 a b c d) (allV5 (rP6_5 a b c d))
    · exact famP rR rI hm L h1 h2 h3 q1 q2 c1 c2 c3 F6_0 (by kernel_rfl) (fun n hn => ck_of kP6_0 (m := 5) (by decide) hn) (jP6_0 a b c d) (allV5 (rP6_6 a b c d))
    · exact famP rR rI hm L h1 h2 h3 q1 q2 c1 c2 c3 F6_0 (by kernel_rfl) (fun n hn => ck_of kP6_0 (m := 6) (by decide) hn) (jP6_0 a b c d) (allV5 (rP6_7 a b c d))
    · exact famP rR rI hm L h1 h2 h3 q1 q2 c1 c2 c3 F6_0 (by kernel_rfl) (fun n hn => ck_of kP6_0 (m := 7) (by decide) hn) (jP6_0 a b c d) (allV5 (rP6_8 a b c d))
open Go.ChangeShapes Go.WideShapes Go.ChangeAt Go.Proofs.YtodmelapdoahpaaGreatDoor
theorem law_anyM {f : Nat} (K : LawOkM f) {W : World} (hm : ∃ m, W.cell? ⟨0, 0, none⟩ = some (.int .i64 m)) (hL : laidMetH Tryz.prog laidL W) {H : Type} {enc : TypeId × Value → H} {base : Nat} {held : Bool} {fuel : Nat} {v : Value} {x : DataW H × List MemPlace}
    (h : DataW.trod enc Tryz.prog W base (fun _ => true) held fuel 22 [v] = some x) : Go.Calls Tryz.prog f #[v] W fun e w' => e = .returned (.bool true) ∧ Below W.heap.size W w' := by
  obtain ⟨a, b, c, d, q, L⟩ := laid_of hL
  rcases open_ints Tryz.underlying22 Tryz.underlying5 (by kernel_rfl) h with ⟨hc, _⟩ | ⟨ad, len, cap, zs, hc, _, hlc, hmax, hlen, _, hcell, hwf⟩
  · cases hc
    exact K.1 hm L
  · cases hc
    cases len with
    | zero => exact K.1 hm L
    | succ n =>
      have hlen : zs.length = cap := hlen
      obtain ⟨r, off, sp⟩ := ad
      have h0 := hcell 0 (by omega)
      have hs : sp = none := cell_spot (b := r) (o := off) (by simpa [Addr.add] using h0)
      subst hs
      refine K.2 (s := ⟨r, off, n + 1, cap, q, fun _ => (0, 0)⟩) hm L ⟨Nat.succ_pos _, by have h1 : cap ≤ maxLen := hmax; have h2 : maxLen = 9223372036854775807 := rfl; rw [h2] at h1; show n + 1 < 9223372036854775808; omega, fun i hi => ?_⟩
      have hi : i < n + 1 := hi
      have hcl := hcell i (by omega)
      rw [add_plain] at hcl
      have hm : zs.getD i 0 ∈ zs := by
        rw [List.getD_eq_getElem?_getD, List.getElem?_eq_getElem (by omega)]
        exact List.getElem_mem _
      have hw := hwf _ hm
      have hb : 0 ≤ zs.getD i 0 ∧ zs.getD i 0 ≤ 255 := by simpa [Lit.wf, IntKind.min, IntKind.max, IntKind.signed, IntKind.bits] using hw
      refine ⟨(zs.getD i 0).toNat, by omega, ?_, World.block_lt_of_cell? W ⟨r, off + i, none⟩ hcl⟩
      rw [hcl, Int.toNat_of_nonneg hb.1]
end Go.Ev
namespace Go.Proofs.YtodmelapdoahpaaGreatDoor.fnParts
open Go Go.Ev Go.RowKit Go.ChangeShapes Go.WideShapes Go.ChangeAt
set_option maxRecDepth 100000 in
theorem lifted (os : Os) (started : os.Started) (H : Type) (enc : TypeId × Value → H) :
    ReturnsInHanded {} Tryz.checked os 4 .any (fun w args => (Rows.fnPartsSpec.pre enc Tryz.prog Tryz.f4 [] false w args ∧ laidMetH Tryz.prog laidL w) ∧ sizedMet enc Tryz.prog Tryz.f4 (OpenSpec.ofChange Rows.fnPartsSpec) false w args)
      (Rows.fnPartsSpec.post enc Tryz.prog Tryz.f4 false true false false) := by
  refine returnsInHanded_and_shaped (C := Tryz.checked) (X := fun w _ => laidMetH Tryz.prog laidL w) (fun _ _ _ hh h => h.of_heap hh) own started (by kernel_rfl) Tryz.func4
    (ChangeSpec.witness_shaped (enc := enc) (C := Tryz.checked) (os := os) (X := fun w _ => laidMetH Tryz.prog laidL w) false (World.laidAll Tryz.prog os laidL) #[.slice none 0 0] 8 (World.laidAll_os _ _ _)
      (World.shaped_of_ZipB (by kernel_rfl) (by kernel_rfl)) (by kernel_rfl) (by kernel_rfl) (by kernel_rfl)
      (by rw [MakeChecks.laidMetH_plain _ _ _ (by kernel_rfl)]; exact laidMet_laidAll _ (by kernel_rfl) (by kernel_rfl))) ?_
  intro W base args ds gs before hval0 hW hL hsh
  have hW' := hW
  obtain ⟨p, q, hA0, hV, rfl, _, _⟩ := hW
  have hA : DataW.TrodAll enc Tryz.prog W 0 (fun _ => true) true Tryz.f4.params.toList args.toList ds p := hA0
  rw [Tryz.params4] at hA
  obtain ⟨v0, d0, rfl, rfl, h0⟩ := trodAll_one hA
  obtain ⟨rfl, rfl⟩ := trodVars_none hV
  have hval := hval0 0 22 v0 (by rw [Tryz.params4]; rfl) rfl
  obtain ⟨a0, len, cap, rfl⟩ := okWide_slice Tryz.underlying22 hval
  have h0k := h0
  obtain ⟨fuel, hf⟩ := h0
  simp only [List.append_nil] at hW'
  have hlt : ∀ x ∈ p, x.block < W.heap.size := fun x hx => by simpa using hW'.lt x hx
  refine (law_anyM fnParts_ok (Tryz.laysM143.s1_3 W hsh) hL (by simpa [Value.cells] using hf)).mono fun e W' ⟨he, hb⟩ => ?_
  subst he
  exact ⟨_, rfl, _, _, _, [], _, [], hW', trodAll_mk1 (shut_bool Tryz.underlying4 _), trodAll_mk1 (Below.trod laidOut (by kernel_rfl) (of_decide_eq_true (by kernel_rfl)) h0k hb hlt), rfl, hb.frame _, fun h => by cases h⟩
theorem over : Rows.fnPartsRow.holds Tryz.pinned (OpenSpec.ofChange Rows.fnPartsSpec) :=
  OpenClaim.holds_of_wide 4 Tryz.f4 rfl rfl rfl rfl rfl rfl rfl ⟨rfl, rfl, rfl, rfl, rfl⟩ rfl rfl rfl rfl rfl (by kernel_rfl) Tryz.func4 closed
    (of_decide_eq_true (by kernel_rfl)) (by unfold Func.isWrapper; first | (rw [if_pos (by decide +kernel)]; kernel_rfl) | (rw [if_neg (by decide +kernel)]; exact ⟨rfl, rfl⟩))
    (fun os started H enc _ => lifted os started H enc)
theorem card_holds : Rows.FnPartsCardSaid :=
  Claim7.holds_tied_plain_at .later [] [.data, .data, .data, .data, .sentinel, .sentinel, .pinned] true (true, "fe6e6f8bddec51d210d823172e1f66888ada8b1f8f130e9421f6037e22cd3465") true
    over (fun _ h => by cases h) wf (fun _ h => by cases h) fnParts_row_tie rfl ⟨rfl, rfl⟩ (by kernel_rfl) rfl
    (fun f fn hf hfn => by
      obtain rfl : f = 4 := Option.some.inj ((show Tryz.prog.funcNamed "loop.example/g00700/laws.FnParts" = some 4 by kernel_rfl).symm.trans hf) |>.symm
      obtain rfl : fn = Tryz.f4 := (Option.some.inj (Tryz.func4.symm.trans hfn)).symm
      exact ⟨looks, fun j t ht => by
        rw [Tryz.params4] at ht
        have hm : t ∈ [22] := by simpa using Array.mem_of_getElem? ht
        exact (show Tryz.prog.wantsStandIn t = false by simpa using List.all_eq_true.1 ws22 t hm)⟩)
    goes
end Go.Proofs.YtodmelapdoahpaaGreatDoor.fnParts
namespace Go.Proofs.YtodmelapdoahpaaGreatDoor
theorem fnParts_card : Rows.FnPartsCardSaid := fnParts.card_holds
#print axioms fnParts_card
end Go.Proofs.YtodmelapdoahpaaGreatDoor
