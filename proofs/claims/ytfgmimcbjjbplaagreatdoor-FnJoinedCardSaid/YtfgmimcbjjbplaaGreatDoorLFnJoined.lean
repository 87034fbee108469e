/- Whatever code the law is given, the law FnJoined returns true and leaves the code as it was. No conditions. The program is reckoned by a proved evaluator, whose answers the kernel works out; the listed variables are those that the card ties. -/
import Derived.Test.YtfgmimcbjjbplaaGreatDoorLb
import Derived.Test.YtfgmimcbjjbplaaGreatDoorLa
import Derived.Test.YtfgmimcbjjbplaaGreatDoorRr
import Derived.Test.YtfgmimcbjjbplaaGreatDoorRFnJoined0
import Derived.Test.YtfgmimcbjjbplaaGreatDoorRFnJoined1
import Derived.Test.YtfgmimcbjjbplaaGreatDoorRFnJoined2
import Derived.Test.YtfgmimcbjjbplaaGreatDoorRFnJoined3
import Derived.Test.YtfgmimcbjjbplaaGreatDoorRFnJoined4
import Derived.Test.YtfgmimcbjjbplaaGreatDoorRFnJoined5
import Derived.Test.YtfgmimcbjjbplaaGreatDoorRFnJoined6
import Derived.Test.YtfgmimcbjjbplaaGreatDoorRFnJoined7
import Derived.Test.YtfgmimcbjjbplaaGreatDoorFFnJoined
import Derived.Test.YtfgmimcbjjbplaaGreatDoorGFnJoined
import Derived.SevenTiedAt
import Derived.Test.YtfgmimcbjjbplaaGreatDoorCards
import Derived.Test.YtfgmimcbjjbplaaGreatDoorTie
set_option linter.all false
namespace Go.Ev
open Go Go.Proofs Go.RowKit
def sy0 : Nat → Nat × Nat := fun _ => (0, 0)
def sy1 (v d : Nat) (f : Nat → Nat × Nat) : Nat → Nat × Nat := fun b => if b = v then (d, 0) else f b
theorem LEa {ρ : Rho} {a v mx d c m : Nat} {ts : List Trm} (h : ρ v = some (d, c)) (hd : d ≤ mx) (k : LE ρ ts m) : LE ρ (⟨a, v, mx, 0⟩ :: ts) (a * d + m) := ⟨d, c, m, h, hd, .inl rfl, k, rfl⟩
theorem LEb {ρ : Rho} {a v mx lo d c d' c' m : Nat} {ts : List Trm} (h : ρ v = some (d, c)) (hd : d ≤ mx) (h' : ρ lo = some (d', c')) (hl : d' < d) (k : LE ρ ts m) : LE ρ (⟨a, v, mx, lo⟩ :: ts) (a * d + m) := ⟨d, c, m, h, hd, .inr ⟨d', c', h', hl⟩, k, rfl⟩
theorem LEv {ρ : Rho} {c m x : Nat} {ts : List Trm} (k : LE ρ ts m) (hc : c + maxT ts ≤ maxs .i64) (e : x = c + m) : VR ρ (.sint .i64 c ts) (.int .i64 (x : Int)) := VR.sint_iff.2 ⟨m, by rw [e], k, hc⟩
theorem lawTwo {a b c d : TypeId} {W : World} {s : Sl} {f x1 x2 : Nat} {A B : AV} (L : Laid 10 cnt (tabs a b c d) s.q W) (c1 : AtIs W s 1 x1) (c2 : AtIs W s 2 x2) (sy : Nat → Nat × Nat)
    (g : ∀ (a b c d : TypeId), Good (Answer tab 100000 (orcY (tO [(1, A), (2, B)])) 300 f [.oslice 50] (H0 a b c d))) (hA : VR (rho0 10 cnt { s with sy := sy }) A (.int .i64 (x1 : Int))) (hB : VR (rho0 10 cnt { s with sy := sy }) B (.int .i64 (x2 : Int))) :
    Go.Calls Tryz.prog f #[.slice (some ⟨s.r, s.off, none⟩) s.len s.cap] W fun e w' => e = .returned (.bool true) ∧ Below W.heap.size W w' :=
  law_sym rR rI (s := { s with sy := sy }) L [(1, A), (2, B)] (fun p hp => by
    simp only [List.mem_cons, List.not_mem_nil, or_false] at hp
    rcases hp with rfl | rfl
    · exact ⟨x1, hA, c1⟩
    · exact ⟨x2, hB, c2⟩) g
set_option maxRecDepth 100000 in
theorem fnJoined_ok : LawOk 6 := by
  refine ⟨fun L => empty_ok rR L rFnJoinedxe, fun {a b c d W s} L C => ?_⟩
  obtain ⟨x1, h1, c1⟩ := C.at_ok 1 (by decide)
  obtain ⟨x2, h2, c2⟩ := C.at_ok 2 (by decide)
  have q1 : x1 = 0 ∨ (1 ≤ x1 ∧ x1 ≤ 9) ∨ (10 ≤ x1 ∧ x1 ≤ 99) ∨ (100 ≤ x1 ∧ x1 ≤ 255) := by omega
  rcases q1 with q1 | q1 | q1 | q1
  · have q2 : x2 = 0 ∨ (1 ≤ x2 ∧ x2 ≤ 9) ∨ (10 ≤ x2 ∧ x2 ≤ 99) ∨ (100 ≤ x2 ∧ x2 ≤ 255) := by omega
    rcases q2 with q2 | q2 | q2 | q2
    · exact lawTwo L c1 c2 (sy0) rFnJoinedx0 ((by rw [show x1 = 0 by omega]; exact VR.nat (by decide))) ((by rw [show x2 = 0 by omega]; exact VR.nat (by decide)))
    · have k0 : (x2 - 1) ≤ 7 ∨ (x2 - 1) = 8 := by omega
      rcases k0 with k0 | k0
      · exact lawTwo L c1 c2 (sy1 70 (x2 - 1) (sy0)) rFnJoinedx1 ((by rw [show x1 = 0 by omega]; exact VR.nat (by decide))) (LEv (LEa rfl (by omega) LE.nil) (by decide) (by omega))
      · exact lawTwo L c1 c2 (sy0) rFnJoinedx2 ((by rw [show x1 = 0 by omega]; exact VR.nat (by decide))) ((by rw [show x2 = 9 by omega]; exact VR.nat (by decide)))
    · have k0 : (x2 % 10) ≤ 8 ∨ (x2 % 10) = 9 := by omega
      rcases k0 with k0 | k0
      · exact lawTwo L c1 c2 (sy1 70 (x2 / 10 - 1) (sy1 71 (x2 % 10) (sy0))) rFnJoinedx3 ((by rw [show x1 = 0 by omega]; exact VR.nat (by decide))) (LEv (LEa rfl (by omega) (LEa rfl (by omega) LE.nil)) (by decide) (by omega))
      · have k1 : (x2 / 10 - 1) ≤ 7 ∨ (x2 / 10 - 1) = 8 := by omega
        rcases k1 with k1 | k1
        · exact lawTwo L c1 c2 (sy1 70 (x2 / 10 - 1) (sy0)) rFnJoinedx4 ((by rw [show x1 = 0 by omega]; exact VR.nat (by decide))) (LEv (LEa rfl (by omega) LE.nil) (by decide) (by omega))
        · exact lawTwo L c1 c2 (sy0) rFnJoinedx5 ((by rw [show x1 = 0 by omega]; exact VR.nat (by decide))) ((by rw [show x2 = 99 by omega]; exact VR.nat (by decide)))
    · have k0 : (x2 % 10) ≤ 8 ∨ (x2 % 10) = 9 := by omega
      rcases k0 with k0 | k0
      · exact lawTwo L c1 c2 (sy1 70 (x2 / 100 - 1) (sy1 71 (x2 / 10 % 10) (sy1 72 (x2 % 10) (sy0)))) rFnJoinedx6 ((by rw [show x1 = 0 by omega]; exact VR.nat (by decide))) (LEv (LEa rfl (by omega) (LEa rfl (by omega) (LEa rfl (by omega) LE.nil))) (by decide) (by omega))
      · have k1 : (x2 / 10 % 10) ≤ 8 ∨ (x2 / 10 % 10) = 9 := by omega
        rcases k1 with k1 | k1
        · exact lawTwo L c1 c2 (sy1 70 (x2 / 100 - 1) (sy1 71 (x2 / 10 % 10) (sy0))) rFnJoinedx7 ((by rw [show x1 = 0 by omega]; exact VR.nat (by decide))) (LEv (LEa rfl (by omega) (LEa rfl (by omega) LE.nil)) (by decide) (by omega))
        · exact lawTwo L c1 c2 (sy1 70 (x2 / 100 - 1) (sy0)) rFnJoinedx8 ((by rw [show x1 = 0 by omega]; exact VR.nat (by decide))) (LEv (LEa rfl (by omega) LE.nil) (by decide) (by omega))
  · have q2 : x2 = 0 ∨ (1 ≤ x2 ∧ x2 ≤ 9) ∨ (10 ≤ x2 ∧ x2 ≤ 99) ∨ (100 ≤ x2 ∧ x2 ≤ 255) := by omega
    rcases q2 with q2 | q2 | q2 | q2
    · exact lawTwo L c1 c2 (sy1 60 (x1 - 1) (sy0)) rFnJoinedx9 (LEv (LEa rfl (by omega) LE.nil) (by decide) (by omega)) ((by rw [show x2 = 0 by omega]; exact VR.nat (by decide)))
    · rcases Nat.lt_trichotomy (x1) (x2) with e0 | e0 | e0
      · have k0 : (x2 - 1) ≤ 7 ∨ (x2 - 1) = 8 := by omega
        rcases k0 with k0 | k0
        · exact lawTwo L c1 c2 (sy1 60 (x1 - 1) (sy1 70 (x2 - 1) (sy0))) rFnJoinedx10 (LEv (LEa rfl (by omega) LE.nil) (by decide) (by omega)) (LEv (LEb rfl (by omega) rfl (by omega) LE.nil) (by decide) (by omega))
        · exact lawTwo L c1 c2 (sy1 60 (x1 - 1) (sy0)) rFnJoinedx11 (LEv (LEa rfl (by omega) LE.nil) (by decide) (by omega)) ((by rw [show x2 = 9 by omega]; exact VR.nat (by decide)))
      · have k0 : (x1 - 1) ≤ 7 ∨ (x1 - 1) = 8 := by omega
        rcases k0 with k0 | k0
        · exact lawTwo L c1 c2 (sy1 60 (x1 - 1) (sy0)) rFnJoinedx12 (LEv (LEa rfl (by omega) LE.nil) (by decide) (by omega)) (LEv (LEa rfl (by omega) LE.nil) (by decide) (by omega))
        · exact lawTwo L c1 c2 (sy0) rFnJoinedx13 ((by rw [show x1 = 9 by omega]; exact VR.nat (by decide))) ((by rw [show x2 = 9 by omega]; exact VR.nat (by decide)))
      · have k0 : (x2 - 1) ≤ 7 ∨ (x2 - 1) = 8 := by omega
        rcases k0 with k0 | k0
        · exact lawTwo L c1 c2 (sy1 60 (x1 - 1) (sy1 70 (x2 - 1) (sy0))) rFnJoinedx14 (LEv (LEb rfl (by omega) rfl (by omega) LE.nil) (by decide) (by omega)) (LEv (LEa rfl (by omega) LE.nil) (by decide) (by omega))
        · exfalso; omega
    · rcases Nat.lt_trichotomy (x1) (x2 / 10) with e0 | e0 | e0
      · have k0 : (x2 % 10) ≤ 8 ∨ (x2 % 10) = 9 := by omega
        rcases k0 with k0 | k0
        · exact lawTwo L c1 c2 (sy1 60 (x1 - 1) (sy1 70 (x2 / 10 - 1) (sy1 71 (x2 % 10) (sy0)))) rFnJoinedx15 (LEv (LEa rfl (by omega) LE.nil) (by decide) (by omega)) (LEv (LEb rfl (by omega) rfl (by omega) (LEa rfl (by omega) LE.nil)) (by decide) (by omega))
        · have k1 : (x2 / 10 - 1) ≤ 7 ∨ (x2 / 10 - 1) = 8 := by omega
          rcases k1 with k1 | k1
          · exact lawTwo L c1 c2 (sy1 60 (x1 - 1) (sy1 70 (x2 / 10 - 1) (sy0))) rFnJoinedx16 (LEv (LEa rfl (by omega) LE.nil) (by decide) (by omega)) (LEv (LEb rfl (by omega) rfl (by omega) LE.nil) (by decide) (by omega))
          · exact lawTwo L c1 c2 (sy1 60 (x1 - 1) (sy0)) rFnJoinedx17 (LEv (LEa rfl (by omega) LE.nil) (by decide) (by omega)) ((by rw [show x2 = 99 by omega]; exact VR.nat (by decide)))
      · have k0 : (x2 % 10) ≤ 8 ∨ (x2 % 10) = 9 := by omega
        rcases k0 with k0 | k0
        · exact lawTwo L c1 c2 (sy1 60 (x1 - 1) (sy1 71 (x2 % 10) (sy0))) rFnJoinedx18 (LEv (LEa rfl (by omega) LE.nil) (by decide) (by omega)) (LEv (LEa rfl (by omega) (LEa rfl (by omega) LE.nil)) (by decide) (by omega))
        · have k1 : (x1 - 1) ≤ 7 ∨ (x1 - 1) = 8 := by omega
          rcases k1 with k1 | k1
          · exact lawTwo L c1 c2 (sy1 60 (x1 - 1) (sy0)) rFnJoinedx19 (LEv (LEa rfl (by omega) LE.nil) (by decide) (by omega)) (LEv (LEa rfl (by omega) LE.nil) (by decide) (by omega))
          · exact lawTwo L c1 c2 (sy0) rFnJoinedx20 ((by rw [show x1 = 9 by omega]; exact VR.nat (by decide))) ((by rw [show x2 = 99 by omega]; exact VR.nat (by decide)))
      · have k0 : (x2 % 10) ≤ 8 ∨ (x2 % 10) = 9 := by omega
        rcases k0 with k0 | k0
        · exact lawTwo L c1 c2 (sy1 60 (x1 - 1) (sy1 70 (x2 / 10 - 1) (sy1 71 (x2 % 10) (sy0)))) rFnJoinedx21 (LEv (LEb rfl (by omega) rfl (by omega) LE.nil) (by decide) (by omega)) (LEv (LEa rfl (by omega) (LEa rfl (by omega) LE.nil)) (by decide) (by omega))
        · have k1 : (x2 / 10 - 1) ≤ 7 ∨ (x2 / 10 - 1) = 8 := by omega
          rcases k1 with k1 | k1
          · exact lawTwo L c1 c2 (sy1 60 (x1 - 1) (sy1 70 (x2 / 10 - 1) (sy0))) rFnJoinedx22 (LEv (LEb rfl (by omega) rfl (by omega) LE.nil) (by decide) (by omega)) (LEv (LEa rfl (by omega) LE.nil) (by decide) (by omega))
          · exfalso; omega
    · rcases Nat.lt_trichotomy (x1) (x2 / 100) with e0 | e0 | e0
      · have k0 : (x2 % 10) ≤ 8 ∨ (x2 % 10) = 9 := by omega
        rcases k0 with k0 | k0
        · exact lawTwo L c1 c2 (sy1 60 (x1 - 1) (sy1 70 (x2 / 100 - 1) (sy1 71 (x2 / 10 % 10) (sy1 72 (x2 % 10) (sy0))))) rFnJoinedx23 (LEv (LEa rfl (by omega) LE.nil) (by decide) (by omega)) (LEv (LEb rfl (by omega) rfl (by omega) (LEa rfl (by omega) (LEa rfl (by omega) LE.nil))) (by decide) (by omega))
        · have k1 : (x2 / 10 % 10) ≤ 8 ∨ (x2 / 10 % 10) = 9 := by omega
          rcases k1 with k1 | k1
          · exact lawTwo L c1 c2 (sy1 60 (x1 - 1) (sy1 70 (x2 / 100 - 1) (sy1 71 (x2 / 10 % 10) (sy0)))) rFnJoinedx24 (LEv (LEa rfl (by omega) LE.nil) (by decide) (by omega)) (LEv (LEb rfl (by omega) rfl (by omega) (LEa rfl (by omega) LE.nil)) (by decide) (by omega))
          · exact lawTwo L c1 c2 (sy1 60 (x1 - 1) (sy1 70 (x2 / 100 - 1) (sy0))) rFnJoinedx25 (LEv (LEa rfl (by omega) LE.nil) (by decide) (by omega)) (LEv (LEb rfl (by omega) rfl (by omega) LE.nil) (by decide) (by omega))
      · have k0 : (x2 % 10) ≤ 8 ∨ (x2 % 10) = 9 := by omega
        rcases k0 with k0 | k0
        · exact lawTwo L c1 c2 (sy1 60 (x1 - 1) (sy1 71 (x2 / 10 % 10) (sy1 72 (x2 % 10) (sy0)))) rFnJoinedx26 (LEv (LEa rfl (by omega) LE.nil) (by decide) (by omega)) (LEv (LEa rfl (by omega) (LEa rfl (by omega) (LEa rfl (by omega) LE.nil))) (by decide) (by omega))
        · have k1 : (x2 / 10 % 10) ≤ 8 ∨ (x2 / 10 % 10) = 9 := by omega
          rcases k1 with k1 | k1
          · exact lawTwo L c1 c2 (sy1 60 (x1 - 1) (sy1 71 (x2 / 10 % 10) (sy0))) rFnJoinedx27 (LEv (LEa rfl (by omega) LE.nil) (by decide) (by omega)) (LEv (LEa rfl (by omega) (LEa rfl (by omega) LE.nil)) (by decide) (by omega))
          · exact lawTwo L c1 c2 (sy1 60 (x1 - 1) (sy0)) rFnJoinedx28 (LEv (LEa rfl (by omega) LE.nil) (by decide) (by omega)) (LEv (LEa rfl (by omega) LE.nil) (by decide) (by omega))
      · have k0 : (x2 % 10) ≤ 8 ∨ (x2 % 10) = 9 := by omega
        rcases k0 with k0 | k0
        · exact lawTwo L c1 c2 (sy1 60 (x1 - 1) (sy1 70 (x2 / 100 - 1) (sy1 71 (x2 / 10 % 10) (sy1 72 (x2 % 10) (sy0))))) rFnJoinedx29 (LEv (LEb rfl (by omega) rfl (by omega) LE.nil) (by decide) (by omega)) (LEv (LEa rfl (by omega) (LEa rfl (by omega) (LEa rfl (by omega) LE.nil))) (by decide) (by omega))
        · have k1 : (x2 / 10 % 10) ≤ 8 ∨ (x2 / 10 % 10) = 9 := by omega
          rcases k1 with k1 | k1
          · exact lawTwo L c1 c2 (sy1 60 (x1 - 1) (sy1 70 (x2 / 100 - 1) (sy1 71 (x2 / 10 % 10) (sy0)))) rFnJoinedx30 (LEv (LEb rfl (by omega) rfl (by omega) LE.nil) (by decide) (by omega)) (LEv (LEa rfl (by omega) (LEa rfl (by omega) LE.nil)) (by decide) (by omega))
          · exact lawTwo L c1 c2 (sy1 60 (x1 - 1) (sy1 70 (x2 / 100 - 1) (sy0))) rFnJoinedx31 (LEv (LEb rfl (by omega) rfl (by omega) LE.nil) (by decide) (by omega)) (LEv (LEa rfl (by omega) LE.nil) (by decide) (by omega))
  · have q2 : x2 = 0 ∨ (1 ≤ x2 ∧ x2 ≤ 9) ∨ (10 ≤ x2 ∧ x2 ≤ 99) ∨ (100 ≤ x2 ∧ x2 ≤ 255) := by omega
    rcases q2 with q2 | q2 | q2 | q2
    · exact lawTwo L c1 c2 (sy1 60 (x1 / 10 - 1) (sy1 61 (x1 % 10) (sy0))) rFnJoinedx32 (LEv (LEa rfl (by omega) (LEa rfl (by omega) LE.nil)) (by decide) (by omega)) ((by rw [show x2 = 0 by omega]; exact VR.nat (by decide)))
    · rcases Nat.lt_trichotomy (x1 / 10) (x2) with e0 | e0 | e0
      · have k0 : (x2 - 1) ≤ 7 ∨ (x2 - 1) = 8 := by omega
        rcases k0 with k0 | k0
        · exact lawTwo L c1 c2 (sy1 60 (x1 / 10 - 1) (sy1 61 (x1 % 10) (sy1 70 (x2 - 1) (sy0)))) rFnJoinedx33 (LEv (LEa rfl (by omega) (LEa rfl (by omega) LE.nil)) (by decide) (by omega)) (LEv (LEb rfl (by omega) rfl (by omega) LE.nil) (by decide) (by omega))
        · exact lawTwo L c1 c2 (sy1 60 (x1 / 10 - 1) (sy1 61 (x1 % 10) (sy0))) rFnJoinedx34 (LEv (LEa rfl (by omega) (LEa rfl (by omega) LE.nil)) (by decide) (by omega)) ((by rw [show x2 = 9 by omega]; exact VR.nat (by decide)))
      · have k0 : (x1 / 10 - 1) ≤ 7 ∨ (x1 / 10 - 1) = 8 := by omega
        rcases k0 with k0 | k0
        · exact lawTwo L c1 c2 (sy1 60 (x1 / 10 - 1) (sy1 61 (x1 % 10) (sy0))) rFnJoinedx35 (LEv (LEa rfl (by omega) (LEa rfl (by omega) LE.nil)) (by decide) (by omega)) (LEv (LEa rfl (by omega) LE.nil) (by decide) (by omega))
        · exact lawTwo L c1 c2 (sy1 61 (x1 % 10) (sy0)) rFnJoinedx36 (LEv (LEa rfl (by omega) LE.nil) (by decide) (by omega)) ((by rw [show x2 = 9 by omega]; exact VR.nat (by decide)))
      · have k0 : (x2 - 1) ≤ 7 ∨ (x2 - 1) = 8 := by omega
        rcases k0 with k0 | k0
        · exact lawTwo L c1 c2 (sy1 60 (x1 / 10 - 1) (sy1 61 (x1 % 10) (sy1 70 (x2 - 1) (sy0)))) rFnJoinedx37 (LEv (LEb rfl (by omega) rfl (by omega) (LEa rfl (by omega) LE.nil)) (by decide) (by omega)) (LEv (LEa rfl (by omega) LE.nil) (by decide) (by omega))
        · exfalso; omega
    · rcases Nat.lt_trichotomy (x1 / 10) (x2 / 10) with e0 | e0 | e0
      · have k0 : (x2 % 10) ≤ 8 ∨ (x2 % 10) = 9 := by omega
        rcases k0 with k0 | k0
        · exact lawTwo L c1 c2 (sy1 60 (x1 / 10 - 1) (sy1 61 (x1 % 10) (sy1 70 (x2 / 10 - 1) (sy1 71 (x2 % 10) (sy0))))) rFnJoinedx38 (LEv (LEa rfl (by omega) (LEa rfl (by omega) LE.nil)) (by decide) (by omega)) (LEv (LEb rfl (by omega) rfl (by omega) (LEa rfl (by omega) LE.nil)) (by decide) (by omega))
        · have k1 : (x2 / 10 - 1) ≤ 7 ∨ (x2 / 10 - 1) = 8 := by omega
          rcases k1 with k1 | k1
          · exact lawTwo L c1 c2 (sy1 60 (x1 / 10 - 1) (sy1 61 (x1 % 10) (sy1 70 (x2 / 10 - 1) (sy0)))) rFnJoinedx39 (LEv (LEa rfl (by omega) (LEa rfl (by omega) LE.nil)) (by decide) (by omega)) (LEv (LEb rfl (by omega) rfl (by omega) LE.nil) (by decide) (by omega))
          · exact lawTwo L c1 c2 (sy1 60 (x1 / 10 - 1) (sy1 61 (x1 % 10) (sy0))) rFnJoinedx40 (LEv (LEa rfl (by omega) (LEa rfl (by omega) LE.nil)) (by decide) (by omega)) ((by rw [show x2 = 99 by omega]; exact VR.nat (by decide)))
      · rcases Nat.lt_trichotomy (x1 % 10) (x2 % 10) with e1 | e1 | e1
        · have k0 : (x2 % 10) ≤ 8 ∨ (x2 % 10) = 9 := by omega
          rcases k0 with k0 | k0
          · exact lawTwo L c1 c2 (sy1 60 (x1 / 10 - 1) (sy1 61 (x1 % 10) (sy1 71 (x2 % 10) (sy0)))) rFnJoinedx41 (LEv (LEa rfl (by omega) (LEa rfl (by omega) LE.nil)) (by decide) (by omega)) (LEv (LEa rfl (by omega) (LEb rfl (by omega) rfl (by omega) LE.nil)) (by decide) (by omega))
          · have k1 : (x1 / 10 - 1) ≤ 7 ∨ (x1 / 10 - 1) = 8 := by omega
            rcases k1 with k1 | k1
            · exact lawTwo L c1 c2 (sy1 60 (x1 / 10 - 1) (sy1 61 (x1 % 10) (sy0))) rFnJoinedx42 (LEv (LEa rfl (by omega) (LEa rfl (by omega) LE.nil)) (by decide) (by omega)) (LEv (LEa rfl (by omega) LE.nil) (by decide) (by omega))
            · exact lawTwo L c1 c2 (sy1 61 (x1 % 10) (sy0)) rFnJoinedx43 (LEv (LEa rfl (by omega) LE.nil) (by decide) (by omega)) ((by rw [show x2 = 99 by omega]; exact VR.nat (by decide)))
        · have k0 : (x1 % 10) ≤ 8 ∨ (x1 % 10) = 9 := by omega
          rcases k0 with k0 | k0
          · exact lawTwo L c1 c2 (sy1 60 (x1 / 10 - 1) (sy1 61 (x1 % 10) (sy0))) rFnJoinedx44 (LEv (LEa rfl (by omega) (LEa rfl (by omega) LE.nil)) (by decide) (by omega)) (LEv (LEa rfl (by omega) (LEa rfl (by omega) LE.nil)) (by decide) (by omega))
          · have k1 : (x1 / 10 - 1) ≤ 7 ∨ (x1 / 10 - 1) = 8 := by omega
            rcases k1 with k1 | k1
            · exact lawTwo L c1 c2 (sy1 60 (x1 / 10 - 1) (sy0)) rFnJoinedx45 (LEv (LEa rfl (by omega) LE.nil) (by decide) (by omega)) (LEv (LEa rfl (by omega) LE.nil) (by decide) (by omega))
            · exact lawTwo L c1 c2 (sy0) rFnJoinedx46 ((by rw [show x1 = 99 by omega]; exact VR.nat (by decide))) ((by rw [show x2 = 99 by omega]; exact VR.nat (by decide)))
        · have k0 : (x2 % 10) ≤ 8 ∨ (x2 % 10) = 9 := by omega
          rcases k0 with k0 | k0
          · exact lawTwo L c1 c2 (sy1 60 (x1 / 10 - 1) (sy1 61 (x1 % 10) (sy1 71 (x2 % 10) (sy0)))) rFnJoinedx47 (LEv (LEa rfl (by omega) (LEb rfl (by omega) rfl (by omega) LE.nil)) (by decide) (by omega)) (LEv (LEa rfl (by omega) (LEa rfl (by omega) LE.nil)) (by decide) (by omega))
          · exfalso; omega
      · have k0 : (x2 % 10) ≤ 8 ∨ (x2 % 10) = 9 := by omega
        rcases k0 with k0 | k0
        · exact lawTwo L c1 c2 (sy1 60 (x1 / 10 - 1) (sy1 61 (x1 % 10) (sy1 70 (x2 / 10 - 1) (sy1 71 (x2 % 10) (sy0))))) rFnJoinedx48 (LEv (LEb rfl (by omega) rfl (by omega) (LEa rfl (by omega) LE.nil)) (by decide) (by omega)) (LEv (LEa rfl (by omega) (LEa rfl (by omega) LE.nil)) (by decide) (by omega))
        · have k1 : (x2 / 10 - 1) ≤ 7 ∨ (x2 / 10 - 1) = 8 := by omega
          rcases k1 with k1 | k1
          · exact lawTwo L c1 c2 (sy1 60 (x1 / 10 - 1) (sy1 61 (x1 % 10) (sy1 70 (x2 / 10 - 1) (sy0)))) rFnJoinedx49 (LEv (LEb rfl (by omega) rfl (by omega) (LEa rfl (by omega) LE.nil)) (by decide) (by omega)) (LEv (LEa rfl (by omega) LE.nil) (by decide) (by omega))
          · exfalso; omega
    · rcases Nat.lt_trichotomy (x1 / 10) (x2 / 100) with e0 | e0 | e0
      · have k0 : (x2 % 10) ≤ 8 ∨ (x2 % 10) = 9 := by omega
        rcases k0 with k0 | k0
        · exact lawTwo L c1 c2 (sy1 60 (x1 / 10 - 1) (sy1 61 (x1 % 10) (sy1 70 (x2 / 100 - 1) (sy1 71 (x2 / 10 % 10) (sy1 72 (x2 % 10) (sy0)))))) rFnJoinedx50 (LEv (LEa rfl (by omega) (LEa rfl (by omega) LE.nil)) (by decide) (by omega)) (LEv (LEb rfl (by omega) rfl (by omega) (LEa rfl (by omega) (LEa rfl (by omega) LE.nil))) (by decide) (by omega))
        · have k1 : (x2 / 10 % 10) ≤ 8 ∨ (x2 / 10 % 10) = 9 := by omega
          rcases k1 with k1 | k1
          · exact lawTwo L c1 c2 (sy1 60 (x1 / 10 - 1) (sy1 61 (x1 % 10) (sy1 70 (x2 / 100 - 1) (sy1 71 (x2 / 10 % 10) (sy0))))) rFnJoinedx51 (LEv (LEa rfl (by omega) (LEa rfl (by omega) LE.nil)) (by decide) (by omega)) (LEv (LEb rfl (by omega) rfl (by omega) (LEa rfl (by omega) LE.nil)) (by decide) (by omega))
          · exact lawTwo L c1 c2 (sy1 60 (x1 / 10 - 1) (sy1 61 (x1 % 10) (sy1 70 (x2 / 100 - 1) (sy0)))) rFnJoinedx52 (LEv (LEa rfl (by omega) (LEa rfl (by omega) LE.nil)) (by decide) (by omega)) (LEv (LEb rfl (by omega) rfl (by omega) LE.nil) (by decide) (by omega))
      · rcases Nat.lt_trichotomy (x1 % 10) (x2 / 10 % 10) with e1 | e1 | e1
        · have k0 : (x2 % 10) ≤ 8 ∨ (x2 % 10) = 9 := by omega
          rcases k0 with k0 | k0
          · exact lawTwo L c1 c2 (sy1 60 (x1 / 10 - 1) (sy1 61 (x1 % 10) (sy1 71 (x2 / 10 % 10) (sy1 72 (x2 % 10) (sy0))))) rFnJoinedx53 (LEv (LEa rfl (by omega) (LEa rfl (by omega) LE.nil)) (by decide) (by omega)) (LEv (LEa rfl (by omega) (LEb rfl (by omega) rfl (by omega) (LEa rfl (by omega) LE.nil))) (by decide) (by omega))
          · have k1 : (x2 / 10 % 10) ≤ 8 ∨ (x2 / 10 % 10) = 9 := by omega
            rcases k1 with k1 | k1
            · exact lawTwo L c1 c2 (sy1 60 (x1 / 10 - 1) (sy1 61 (x1 % 10) (sy1 71 (x2 / 10 % 10) (sy0)))) rFnJoinedx54 (LEv (LEa rfl (by omega) (LEa rfl (by omega) LE.nil)) (by decide) (by omega)) (LEv (LEa rfl (by omega) (LEb rfl (by omega) rfl (by omega) LE.nil)) (by decide) (by omega))
            · exact lawTwo L c1 c2 (sy1 60 (x1 / 10 - 1) (sy1 61 (x1 % 10) (sy0))) rFnJoinedx55 (LEv (LEa rfl (by omega) (LEa rfl (by omega) LE.nil)) (by decide) (by omega)) (LEv (LEa rfl (by omega) LE.nil) (by decide) (by omega))
        · have k0 : (x2 % 10) ≤ 8 ∨ (x2 % 10) = 9 := by omega
          rcases k0 with k0 | k0
          · exact lawTwo L c1 c2 (sy1 60 (x1 / 10 - 1) (sy1 61 (x1 % 10) (sy1 72 (x2 % 10) (sy0)))) rFnJoinedx56 (LEv (LEa rfl (by omega) (LEa rfl (by omega) LE.nil)) (by decide) (by omega)) (LEv (LEa rfl (by omega) (LEa rfl (by omega) (LEa rfl (by omega) LE.nil))) (by decide) (by omega))
          · have k1 : (x1 % 10) ≤ 8 ∨ (x1 % 10) = 9 := by omega
            rcases k1 with k1 | k1
            · exact lawTwo L c1 c2 (sy1 60 (x1 / 10 - 1) (sy1 61 (x1 % 10) (sy0))) rFnJoinedx57 (LEv (LEa rfl (by omega) (LEa rfl (by omega) LE.nil)) (by decide) (by omega)) (LEv (LEa rfl (by omega) (LEa rfl (by omega) LE.nil)) (by decide) (by omega))
            · exact lawTwo L c1 c2 (sy1 60 (x1 / 10 - 1) (sy0)) rFnJoinedx58 (LEv (LEa rfl (by omega) LE.nil) (by decide) (by omega)) (LEv (LEa rfl (by omega) LE.nil) (by decide) (by omega))
        · have k0 : (x2 % 10) ≤ 8 ∨ (x2 % 10) = 9 := by omega
          rcases k0 with k0 | k0
          · exact lawTwo L c1 c2 (sy1 60 (x1 / 10 - 1) (sy1 61 (x1 % 10) (sy1 71 (x2 / 10 % 10) (sy1 72 (x2 % 10) (sy0))))) rFnJoinedx59 (LEv (LEa rfl (by omega) (LEb rfl (by omega) rfl (by omega) LE.nil)) (by decide) (by omega)) (LEv (LEa rfl (by omega) (LEa rfl (by omega) (LEa rfl (by omega) LE.nil))) (by decide) (by omega))
          · have k1 : (x2 / 10 % 10) ≤ 8 ∨ (x2 / 10 % 10) = 9 := by omega
            rcases k1 with k1 | k1
            · exact lawTwo L c1 c2 (sy1 60 (x1 / 10 - 1) (sy1 61 (x1 % 10) (sy1 71 (x2 / 10 % 10) (sy0)))) rFnJoinedx60 (LEv (LEa rfl (by omega) (LEb rfl (by omega) rfl (by omega) LE.nil)) (by decide) (by omega)) (LEv (LEa rfl (by omega) (LEa rfl (by omega) LE.nil)) (by decide) (by omega))
            · exfalso; omega
      · have k0 : (x2 % 10) ≤ 8 ∨ (x2 % 10) = 9 := by omega
        rcases k0 with k0 | k0
        · exact lawTwo L c1 c2 (sy1 60 (x1 / 10 - 1) (sy1 61 (x1 % 10) (sy1 70 (x2 / 100 - 1) (sy1 71 (x2 / 10 % 10) (sy1 72 (x2 % 10) (sy0)))))) rFnJoinedx61 (LEv (LEb rfl (by omega) rfl (by omega) (LEa rfl (by omega) LE.nil)) (by decide) (by omega)) (LEv (LEa rfl (by omega) (LEa rfl (by omega) (LEa rfl (by omega) LE.nil))) (by decide) (by omega))
        · have k1 : (x2 / 10 % 10) ≤ 8 ∨ (x2 / 10 % 10) = 9 := by omega
          rcases k1 with k1 | k1
          · exact lawTwo L c1 c2 (sy1 60 (x1 / 10 - 1) (sy1 61 (x1 % 10) (sy1 70 (x2 / 100 - 1) (sy1 71 (x2 / 10 % 10) (sy0))))) rFnJoinedx62 (LEv (LEb rfl (by omega) rfl (by omega) (LEa rfl (by omega) LE.nil)) (by decide) (by omega)) (LEv (LEa rfl (by omega) (LEa rfl (by omega) LE.nil)) (by decide) (by omega))
          · exact lawTwo L c1 c2 (sy1 60 (x1 / 10 - 1) (sy1 61 (x1 % 10) (sy1 70 (x2 / 100 - 1) (sy0)))) rFnJoinedx63 (LEv (LEb rfl (by omega) rfl (by omega) (LEa rfl (by omega) LE.nil)) (by decide) (by omega)) (LEv (LEa rfl (by omega) LE.nil) (by decide) (by omega))
  · have q2 : x2 = 0 ∨ (1 ≤ x2 ∧ x2 ≤ 9) ∨ (10 ≤ x2 ∧ x2 ≤ 99) ∨ (100 ≤ x2 ∧ x2 ≤ 255) := by omega
    rcases q2 with q2 | q2 | q2 | q2
    · exact lawTwo L c1 c2 (sy1 60 (x1 / 100 - 1) (sy1 61 (x1 / 10 % 10) (sy1 62 (x1 % 10) (sy0)))) rFnJoinedx64 (LEv (LEa rfl (by omega) (LEa rfl (by omega) (LEa rfl (by omega) LE.nil))) (by decide) (by omega)) ((by rw [show x2 = 0 by omega]; exact VR.nat (by decide)))
    · rcases Nat.lt_trichotomy (x1 / 100) (x2) with e0 | e0 | e0
      · have k0 : (x2 - 1) ≤ 7 ∨ (x2 - 1) = 8 := by omega
        rcases k0 with k0 | k0
        · exact lawTwo L c1 c2 (sy1 60 (x1 / 100 - 1) (sy1 61 (x1 / 10 % 10) (sy1 62 (x1 % 10) (sy1 70 (x2 - 1) (sy0))))) rFnJoinedx65 (LEv (LEa rfl (by omega) (LEa rfl (by omega) (LEa rfl (by omega) LE.nil))) (by decide) (by omega)) (LEv (LEb rfl (by omega) rfl (by omega) LE.nil) (by decide) (by omega))
        · exact lawTwo L c1 c2 (sy1 60 (x1 / 100 - 1) (sy1 61 (x1 / 10 % 10) (sy1 62 (x1 % 10) (sy0)))) rFnJoinedx66 (LEv (LEa rfl (by omega) (LEa rfl (by omega) (LEa rfl (by omega) LE.nil))) (by decide) (by omega)) ((by rw [show x2 = 9 by omega]; exact VR.nat (by decide)))
      · exact lawTwo L c1 c2 (sy1 60 (x1 / 100 - 1) (sy1 61 (x1 / 10 % 10) (sy1 62 (x1 % 10) (sy0)))) rFnJoinedx67 (LEv (LEa rfl (by omega) (LEa rfl (by omega) (LEa rfl (by omega) LE.nil))) (by decide) (by omega)) (LEv (LEa rfl (by omega) LE.nil) (by decide) (by omega))
      · have k0 : (x2 - 1) ≤ 7 ∨ (x2 - 1) = 8 := by omega
        rcases k0 with k0 | k0
        · exact lawTwo L c1 c2 (sy1 60 (x1 / 100 - 1) (sy1 61 (x1 / 10 % 10) (sy1 62 (x1 % 10) (sy1 70 (x2 - 1) (sy0))))) rFnJoinedx68 (LEv (LEb rfl (by omega) rfl (by omega) (LEa rfl (by omega) (LEa rfl (by omega) LE.nil))) (by decide) (by omega)) (LEv (LEa rfl (by omega) LE.nil) (by decide) (by omega))
        · exfalso; omega
    · rcases Nat.lt_trichotomy (x1 / 100) (x2 / 10) with e0 | e0 | e0
      · have k0 : (x2 % 10) ≤ 8 ∨ (x2 % 10) = 9 := by omega
        rcases k0 with k0 | k0
        · exact lawTwo L c1 c2 (sy1 60 (x1 / 100 - 1) (sy1 61 (x1 / 10 % 10) (sy1 62 (x1 % 10) (sy1 70 (x2 / 10 - 1) (sy1 71 (x2 % 10) (sy0)))))) rFnJoinedx69 (LEv (LEa rfl (by omega) (LEa rfl (by omega) (LEa rfl (by omega) LE.nil))) (by decide) (by omega)) (LEv (LEb rfl (by omega) rfl (by omega) (LEa rfl (by omega) LE.nil)) (by decide) (by omega))
        · have k1 : (x2 / 10 - 1) ≤ 7 ∨ (x2 / 10 - 1) = 8 := by omega
          rcases k1 with k1 | k1
          · exact lawTwo L c1 c2 (sy1 60 (x1 / 100 - 1) (sy1 61 (x1 / 10 % 10) (sy1 62 (x1 % 10) (sy1 70 (x2 / 10 - 1) (sy0))))) rFnJoinedx70 (LEv (LEa rfl (by omega) (LEa rfl (by omega) (LEa rfl (by omega) LE.nil))) (by decide) (by omega)) (LEv (LEb rfl (by omega) rfl (by omega) LE.nil) (by decide) (by omega))
          · exact lawTwo L c1 c2 (sy1 60 (x1 / 100 - 1) (sy1 61 (x1 / 10 % 10) (sy1 62 (x1 % 10) (sy0)))) rFnJoinedx71 (LEv (LEa rfl (by omega) (LEa rfl (by omega) (LEa rfl (by omega) LE.nil))) (by decide) (by omega)) ((by rw [show x2 = 99 by omega]; exact VR.nat (by decide)))
      · rcases Nat.lt_trichotomy (x1 / 10 % 10) (x2 % 10) with e1 | e1 | e1
        · have k0 : (x2 % 10) ≤ 8 ∨ (x2 % 10) = 9 := by omega
          rcases k0 with k0 | k0
          · exact lawTwo L c1 c2 (sy1 60 (x1 / 100 - 1) (sy1 61 (x1 / 10 % 10) (sy1 62 (x1 % 10) (sy1 71 (x2 % 10) (sy0))))) rFnJoinedx72 (LEv (LEa rfl (by omega) (LEa rfl (by omega) (LEa rfl (by omega) LE.nil))) (by decide) (by omega)) (LEv (LEa rfl (by omega) (LEb rfl (by omega) rfl (by omega) LE.nil)) (by decide) (by omega))
          · exact lawTwo L c1 c2 (sy1 60 (x1 / 100 - 1) (sy1 61 (x1 / 10 % 10) (sy1 62 (x1 % 10) (sy0)))) rFnJoinedx73 (LEv (LEa rfl (by omega) (LEa rfl (by omega) (LEa rfl (by omega) LE.nil))) (by decide) (by omega)) (LEv (LEa rfl (by omega) LE.nil) (by decide) (by omega))
        · have k0 : (x1 / 10 % 10) ≤ 8 ∨ (x1 / 10 % 10) = 9 := by omega
          rcases k0 with k0 | k0
          · exact lawTwo L c1 c2 (sy1 60 (x1 / 100 - 1) (sy1 61 (x1 / 10 % 10) (sy1 62 (x1 % 10) (sy0)))) rFnJoinedx74 (LEv (LEa rfl (by omega) (LEa rfl (by omega) (LEa rfl (by omega) LE.nil))) (by decide) (by omega)) (LEv (LEa rfl (by omega) (LEa rfl (by omega) LE.nil)) (by decide) (by omega))
          · exact lawTwo L c1 c2 (sy1 60 (x1 / 100 - 1) (sy1 62 (x1 % 10) (sy0))) rFnJoinedx75 (LEv (LEa rfl (by omega) (LEa rfl (by omega) LE.nil)) (by decide) (by omega)) (LEv (LEa rfl (by omega) LE.nil) (by decide) (by omega))
        · have k0 : (x2 % 10) ≤ 8 ∨ (x2 % 10) = 9 := by omega
          rcases k0 with k0 | k0
          · exact lawTwo L c1 c2 (sy1 60 (x1 / 100 - 1) (sy1 61 (x1 / 10 % 10) (sy1 62 (x1 % 10) (sy1 71 (x2 % 10) (sy0))))) rFnJoinedx76 (LEv (LEa rfl (by omega) (LEb rfl (by omega) rfl (by omega) (LEa rfl (by omega) LE.nil))) (by decide) (by omega)) (LEv (LEa rfl (by omega) (LEa rfl (by omega) LE.nil)) (by decide) (by omega))
          · exfalso; omega
      · have k0 : (x2 % 10) ≤ 8 ∨ (x2 % 10) = 9 := by omega
        rcases k0 with k0 | k0
        · exact lawTwo L c1 c2 (sy1 60 (x1 / 100 - 1) (sy1 61 (x1 / 10 % 10) (sy1 62 (x1 % 10) (sy1 70 (x2 / 10 - 1) (sy1 71 (x2 % 10) (sy0)))))) rFnJoinedx77 (LEv (LEb rfl (by omega) rfl (by omega) (LEa rfl (by omega) (LEa rfl (by omega) LE.nil))) (by decide) (by omega)) (LEv (LEa rfl (by omega) (LEa rfl (by omega) LE.nil)) (by decide) (by omega))
        · have k1 : (x2 / 10 - 1) ≤ 7 ∨ (x2 / 10 - 1) = 8 := by omega
          rcases k1 with k1 | k1
          · exact lawTwo L c1 c2 (sy1 60 (x1 / 100 - 1) (sy1 61 (x1 / 10 % 10) (sy1 62 (x1 % 10) (sy1 70 (x2 / 10 - 1) (sy0))))) rFnJoinedx78 (LEv (LEb rfl (by omega) rfl (by omega) (LEa rfl (by omega) (LEa rfl (by omega) LE.nil))) (by decide) (by omega)) (LEv (LEa rfl (by omega) LE.nil) (by decide) (by omega))
          · exfalso; omega
    · rcases Nat.lt_trichotomy (x1 / 100) (x2 / 100) with e0 | e0 | e0
      · have k0 : (x2 % 10) ≤ 8 ∨ (x2 % 10) = 9 := by omega
        rcases k0 with k0 | k0
        · exact lawTwo L c1 c2 (sy1 60 (x1 / 100 - 1) (sy1 61 (x1 / 10 % 10) (sy1 62 (x1 % 10) (sy1 70 (x2 / 100 - 1) (sy1 71 (x2 / 10 % 10) (sy1 72 (x2 % 10) (sy0))))))) rFnJoinedx79 (LEv (LEa rfl (by omega) (LEa rfl (by omega) (LEa rfl (by omega) LE.nil))) (by decide) (by omega)) (LEv (LEb rfl (by omega) rfl (by omega) (LEa rfl (by omega) (LEa rfl (by omega) LE.nil))) (by decide) (by omega))
        · have k1 : (x2 / 10 % 10) ≤ 8 ∨ (x2 / 10 % 10) = 9 := by omega
          rcases k1 with k1 | k1
          · exact lawTwo L c1 c2 (sy1 60 (x1 / 100 - 1) (sy1 61 (x1 / 10 % 10) (sy1 62 (x1 % 10) (sy1 70 (x2 / 100 - 1) (sy1 71 (x2 / 10 % 10) (sy0)))))) rFnJoinedx80 (LEv (LEa rfl (by omega) (LEa rfl (by omega) (LEa rfl (by omega) LE.nil))) (by decide) (by omega)) (LEv (LEb rfl (by omega) rfl (by omega) (LEa rfl (by omega) LE.nil)) (by decide) (by omega))
          · exact lawTwo L c1 c2 (sy1 60 (x1 / 100 - 1) (sy1 61 (x1 / 10 % 10) (sy1 62 (x1 % 10) (sy1 70 (x2 / 100 - 1) (sy0))))) rFnJoinedx81 (LEv (LEa rfl (by omega) (LEa rfl (by omega) (LEa rfl (by omega) LE.nil))) (by decide) (by omega)) (LEv (LEb rfl (by omega) rfl (by omega) LE.nil) (by decide) (by omega))
      · rcases Nat.lt_trichotomy (x1 / 10 % 10) (x2 / 10 % 10) with e1 | e1 | e1
        · have k0 : (x2 % 10) ≤ 8 ∨ (x2 % 10) = 9 := by omega
          rcases k0 with k0 | k0
          · exact lawTwo L c1 c2 (sy1 60 (x1 / 100 - 1) (sy1 61 (x1 / 10 % 10) (sy1 62 (x1 % 10) (sy1 71 (x2 / 10 % 10) (sy1 72 (x2 % 10) (sy0)))))) rFnJoinedx82 (LEv (LEa rfl (by omega) (LEa rfl (by omega) (LEa rfl (by omega) LE.nil))) (by decide) (by omega)) (LEv (LEa rfl (by omega) (LEb rfl (by omega) rfl (by omega) (LEa rfl (by omega) LE.nil))) (by decide) (by omega))
          · have k1 : (x2 / 10 % 10) ≤ 8 ∨ (x2 / 10 % 10) = 9 := by omega
            rcases k1 with k1 | k1
            · exact lawTwo L c1 c2 (sy1 60 (x1 / 100 - 1) (sy1 61 (x1 / 10 % 10) (sy1 62 (x1 % 10) (sy1 71 (x2 / 10 % 10) (sy0))))) rFnJoinedx83 (LEv (LEa rfl (by omega) (LEa rfl (by omega) (LEa rfl (by omega) LE.nil))) (by decide) (by omega)) (LEv (LEa rfl (by omega) (LEb rfl (by omega) rfl (by omega) LE.nil)) (by decide) (by omega))
            · exact lawTwo L c1 c2 (sy1 60 (x1 / 100 - 1) (sy1 61 (x1 / 10 % 10) (sy1 62 (x1 % 10) (sy0)))) rFnJoinedx84 (LEv (LEa rfl (by omega) (LEa rfl (by omega) (LEa rfl (by omega) LE.nil))) (by decide) (by omega)) (LEv (LEa rfl (by omega) LE.nil) (by decide) (by omega))
        · rcases Nat.lt_trichotomy (x1 % 10) (x2 % 10) with e2 | e2 | e2
          · have k0 : (x2 % 10) ≤ 8 ∨ (x2 % 10) = 9 := by omega
            rcases k0 with k0 | k0
            · exact lawTwo L c1 c2 (sy1 60 (x1 / 100 - 1) (sy1 61 (x1 / 10 % 10) (sy1 62 (x1 % 10) (sy1 72 (x2 % 10) (sy0))))) rFnJoinedx85 (LEv (LEa rfl (by omega) (LEa rfl (by omega) (LEa rfl (by omega) LE.nil))) (by decide) (by omega)) (LEv (LEa rfl (by omega) (LEa rfl (by omega) (LEb rfl (by omega) rfl (by omega) LE.nil))) (by decide) (by omega))
            · have k1 : (x1 / 10 % 10) ≤ 8 ∨ (x1 / 10 % 10) = 9 := by omega
              rcases k1 with k1 | k1
              · exact lawTwo L c1 c2 (sy1 60 (x1 / 100 - 1) (sy1 61 (x1 / 10 % 10) (sy1 62 (x1 % 10) (sy0)))) rFnJoinedx86 (LEv (LEa rfl (by omega) (LEa rfl (by omega) (LEa rfl (by omega) LE.nil))) (by decide) (by omega)) (LEv (LEa rfl (by omega) (LEa rfl (by omega) LE.nil)) (by decide) (by omega))
              · exact lawTwo L c1 c2 (sy1 60 (x1 / 100 - 1) (sy1 62 (x1 % 10) (sy0))) rFnJoinedx87 (LEv (LEa rfl (by omega) (LEa rfl (by omega) LE.nil)) (by decide) (by omega)) (LEv (LEa rfl (by omega) LE.nil) (by decide) (by omega))
          · have k0 : (x1 % 10) ≤ 8 ∨ (x1 % 10) = 9 := by omega
            rcases k0 with k0 | k0
            · exact lawTwo L c1 c2 (sy1 60 (x1 / 100 - 1) (sy1 61 (x1 / 10 % 10) (sy1 62 (x1 % 10) (sy0)))) rFnJoinedx88 (LEv (LEa rfl (by omega) (LEa rfl (by omega) (LEa rfl (by omega) LE.nil))) (by decide) (by omega)) (LEv (LEa rfl (by omega) (LEa rfl (by omega) (LEa rfl (by omega) LE.nil))) (by decide) (by omega))
            · have k1 : (x1 / 10 % 10) ≤ 8 ∨ (x1 / 10 % 10) = 9 := by omega
              rcases k1 with k1 | k1
              · exact lawTwo L c1 c2 (sy1 60 (x1 / 100 - 1) (sy1 61 (x1 / 10 % 10) (sy0))) rFnJoinedx89 (LEv (LEa rfl (by omega) (LEa rfl (by omega) LE.nil)) (by decide) (by omega)) (LEv (LEa rfl (by omega) (LEa rfl (by omega) LE.nil)) (by decide) (by omega))
              · exact lawTwo L c1 c2 (sy1 60 (x1 / 100 - 1) (sy0)) rFnJoinedx90 (LEv (LEa rfl (by omega) LE.nil) (by decide) (by omega)) (LEv (LEa rfl (by omega) LE.nil) (by decide) (by omega))
          · have k0 : (x2 % 10) ≤ 8 ∨ (x2 % 10) = 9 := by omega
            rcases k0 with k0 | k0
            · exact lawTwo L c1 c2 (sy1 60 (x1 / 100 - 1) (sy1 61 (x1 / 10 % 10) (sy1 62 (x1 % 10) (sy1 72 (x2 % 10) (sy0))))) rFnJoinedx91 (LEv (LEa rfl (by omega) (LEa rfl (by omega) (LEb rfl (by omega) rfl (by omega) LE.nil))) (by decide) (by omega)) (LEv (LEa rfl (by omega) (LEa rfl (by omega) (LEa rfl (by omega) LE.nil))) (by decide) (by omega))
            · exfalso; omega
        · have k0 : (x2 % 10) ≤ 8 ∨ (x2 % 10) = 9 := by omega
          rcases k0 with k0 | k0
          · exact lawTwo L c1 c2 (sy1 60 (x1 / 100 - 1) (sy1 61 (x1 / 10 % 10) (sy1 62 (x1 % 10) (sy1 71 (x2 / 10 % 10) (sy1 72 (x2 % 10) (sy0)))))) rFnJoinedx92 (LEv (LEa rfl (by omega) (LEb rfl (by omega) rfl (by omega) (LEa rfl (by omega) LE.nil))) (by decide) (by omega)) (LEv (LEa rfl (by omega) (LEa rfl (by omega) (LEa rfl (by omega) LE.nil))) (by decide) (by omega))
          · have k1 : (x2 / 10 % 10) ≤ 8 ∨ (x2 / 10 % 10) = 9 := by omega
            rcases k1 with k1 | k1
            · exact lawTwo L c1 c2 (sy1 60 (x1 / 100 - 1) (sy1 61 (x1 / 10 % 10) (sy1 62 (x1 % 10) (sy1 71 (x2 / 10 % 10) (sy0))))) rFnJoinedx93 (LEv (LEa rfl (by omega) (LEb rfl (by omega) rfl (by omega) (LEa rfl (by omega) LE.nil))) (by decide) (by omega)) (LEv (LEa rfl (by omega) (LEa rfl (by omega) LE.nil)) (by decide) (by omega))
            · exfalso; omega
      · have k0 : (x2 % 10) ≤ 8 ∨ (x2 % 10) = 9 := by omega
        rcases k0 with k0 | k0
        · exact lawTwo L c1 c2 (sy1 60 (x1 / 100 - 1) (sy1 61 (x1 / 10 % 10) (sy1 62 (x1 % 10) (sy1 70 (x2 / 100 - 1) (sy1 71 (x2 / 10 % 10) (sy1 72 (x2 % 10) (sy0))))))) rFnJoinedx94 (LEv (LEb rfl (by omega) rfl (by omega) (LEa rfl (by omega) (LEa rfl (by omega) LE.nil))) (by decide) (by omega)) (LEv (LEa rfl (by omega) (LEa rfl (by omega) (LEa rfl (by omega) LE.nil))) (by decide) (by omega))
        · have k1 : (x2 / 10 % 10) ≤ 8 ∨ (x2 / 10 % 10) = 9 := by omega
          rcases k1 with k1 | k1
          · exact lawTwo L c1 c2 (sy1 60 (x1 / 100 - 1) (sy1 61 (x1 / 10 % 10) (sy1 62 (x1 % 10) (sy1 70 (x2 / 100 - 1) (sy1 71 (x2 / 10 % 10) (sy0)))))) rFnJoinedx95 (LEv (LEb rfl (by omega) rfl (by omega) (LEa rfl (by omega) (LEa rfl (by omega) LE.nil))) (by decide) (by omega)) (LEv (LEa rfl (by omega) (LEa rfl (by omega) LE.nil)) (by decide) (by omega))
          · exact lawTwo L c1 c2 (sy1 60 (x1 / 100 - 1) (sy1 61 (x1 / 10 % 10) (sy1 62 (x1 % 10) (sy1 70 (x2 / 100 - 1) (sy0))))) rFnJoinedx96 (LEv (LEb rfl (by omega) rfl (by omega) (LEa rfl (by omega) (LEa rfl (by omega) LE.nil))) (by decide) (by omega)) (LEv (LEa rfl (by omega) LE.nil) (by decide) (by omega))
end Go.Ev
namespace Go.Proofs.YtfgmimcbjjbplaaGreatDoor.fnJoined
open Go Go.Ev Go.RowKit Go.ChangeShapes Go.WideShapes Go.ChangeAt
set_option maxRecDepth 100000 in
theorem lifted (os : Os) (started : os.Started) (H : Type) (enc : TypeId × Value → H) :
    ReturnsInHanded {} Tryz.checked os 6 .any (fun w args => (Rows.fnJoinedSpec.pre enc Tryz.prog Tryz.f6 [] false w args ∧ laidMetH Tryz.prog laidL w) ∧ sizedMet enc Tryz.prog Tryz.f6 (OpenSpec.ofChange Rows.fnJoinedSpec) false w args)
      (Rows.fnJoinedSpec.post enc Tryz.prog Tryz.f6 false true false false) := by
  refine returnsInHanded_of_change_and (C := Tryz.checked) (X := fun w _ => laidMetH Tryz.prog laidL w) (fun _ _ _ hh h => h.of_heap hh) own started (by kernel_rfl) Tryz.func6
    (ChangeSpec.witness_shaped (enc := enc) (C := Tryz.checked) (os := os) (X := fun w _ => laidMetH Tryz.prog laidL w) false (World.laidAll Tryz.prog os laidL) #[.slice none 0 0] 8 (World.laidAll_os _ _ _)
      (World.shaped_of_ZipB (by kernel_rfl) (by kernel_rfl)) (by kernel_rfl) (by kernel_rfl) (by kernel_rfl)
      (by rw [MakeChecks.laidMetH_plain _ _ _ (by kernel_rfl)]; exact laidMet_laidAll _ (by kernel_rfl) (by kernel_rfl))) ?_
  intro W base args ds gs before hval0 hW _ _ hL _
  have hW' := hW
  obtain ⟨p, q, hA0, hV, rfl, _, _⟩ := hW
  have hA : DataW.TrodAll enc Tryz.prog W 0 (fun _ => true) true Tryz.f6.params.toList args.toList ds p := hA0
  rw [Tryz.params6] at hA
  obtain ⟨v0, d0, rfl, rfl, h0⟩ := trodAll_one hA
  obtain ⟨rfl, rfl⟩ := trodVars_none hV
  have hval := hval0 0 22 v0 (by rw [Tryz.params6]; rfl) rfl
  obtain ⟨a0, len, cap, rfl⟩ := okWide_slice Tryz.underlying22 hval
  have h0k := h0
  obtain ⟨fuel, hf⟩ := h0
  simp only [List.append_nil] at hW'
  have hlt : ∀ x ∈ p, x.block < W.heap.size := fun x hx => by simpa using hW'.lt x hx
  refine (law_any fnJoined_ok hL (by simpa [Value.cells] using hf)).mono fun e W' ⟨he, hb⟩ => ?_
  subst he
  exact ⟨_, rfl, _, _, _, [], _, [], hW', trodAll_mk1 (shut_bool Tryz.underlying4 _), trodAll_mk1 (Below.trod laidOut (by kernel_rfl) (of_decide_eq_true (by kernel_rfl)) h0k hb hlt), rfl, hb.frame _, fun h => by cases h⟩
theorem over : Rows.fnJoinedRow.holds Tryz.pinned (OpenSpec.ofChange Rows.fnJoinedSpec) :=
  OpenClaim.holds_of_wide 6 Tryz.f6 rfl rfl rfl rfl rfl rfl rfl ⟨rfl, rfl, rfl, rfl, rfl⟩ rfl rfl rfl rfl rfl (by kernel_rfl) Tryz.func6 closed
    (of_decide_eq_true (by kernel_rfl)) (by unfold Func.isWrapper; first | (rw [if_pos (by decide +kernel)]; kernel_rfl) | (rw [if_neg (by decide +kernel)]; exact ⟨rfl, rfl⟩))
    (fun os started H enc _ => lifted os started H enc)
theorem card_holds : Rows.FnJoinedCardSaid :=
  Claim7.holds_tied_plain_at .later [] [.data, .data, .data, .data, .sentinel, .sentinel, .pinned] true (true, "af999f076cd471efd5287a48a0cebdf87c0f9e074a5ddc96e3b5a6041ab5a425") true
    over (fun _ h => by cases h) wf (fun _ h => by cases h) fnJoined_row_tie rfl ⟨rfl, rfl⟩ (by kernel_rfl) rfl
    (fun f fn hf hfn => by
      obtain rfl : f = 6 := Option.some.inj ((show Tryz.prog.funcNamed "loop.example/g00700/laws.FnJoined" = some 6 by kernel_rfl).symm.trans hf) |>.symm
      obtain rfl : fn = Tryz.f6 := (Option.some.inj (Tryz.func6.symm.trans hfn)).symm
      exact ⟨looks, fun j t ht => by
        rw [Tryz.params6] at ht
        have hm : t ∈ [22] := by simpa using Array.mem_of_getElem? ht
        exact (show Tryz.prog.wantsStandIn t = false by simpa using List.all_eq_true.1 ws22 t hm)⟩)
    goes
end Go.Proofs.YtfgmimcbjjbplaaGreatDoor.fnJoined
namespace Go.Proofs.YtfgmimcbjjbplaaGreatDoor
theorem fnJoined_card : Rows.FnJoinedCardSaid := fnJoined.card_holds
#print axioms fnJoined_card
end Go.Proofs.YtfgmimcbjjbplaaGreatDoor
