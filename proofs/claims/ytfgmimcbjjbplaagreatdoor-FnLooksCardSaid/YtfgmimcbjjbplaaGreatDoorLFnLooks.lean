/- Whatever code the law is given, the law FnLooks returns true and leaves the code as it was. No conditions. The program is reckoned by a proved evaluator, whose answers the kernel works out; the listed variables are those that the card ties. -/
import Derived.Test.YtfgmimcbjjbplaaGreatDoorLb
import Derived.Test.YtfgmimcbjjbplaaGreatDoorLa
import Derived.Test.YtfgmimcbjjbplaaGreatDoorRr
import Derived.Test.YtfgmimcbjjbplaaGreatDoorRFnLooks0
import Derived.Test.YtfgmimcbjjbplaaGreatDoorRFnLooks1
import Derived.Test.YtfgmimcbjjbplaaGreatDoorRFnLooks2
import Derived.Test.YtfgmimcbjjbplaaGreatDoorRFnLooks3
import Derived.Test.YtfgmimcbjjbplaaGreatDoorRFnLooks4
import Derived.Test.YtfgmimcbjjbplaaGreatDoorRFnLooks5
import Derived.Test.YtfgmimcbjjbplaaGreatDoorRFnLooks6
import Derived.Test.YtfgmimcbjjbplaaGreatDoorRFnLooks7
import Derived.Test.YtfgmimcbjjbplaaGreatDoorRFnLooks8
import Derived.Test.YtfgmimcbjjbplaaGreatDoorRFnLooks9
import Derived.Test.YtfgmimcbjjbplaaGreatDoorRFnLooks10
import Derived.Test.YtfgmimcbjjbplaaGreatDoorFFnLooks
import Derived.Test.YtfgmimcbjjbplaaGreatDoorGFnLooks
import Derived.SevenTiedAt
import Derived.Test.YtfgmimcbjjbplaaGreatDoorCards
import Derived.Test.YtfgmimcbjjbplaaGreatDoorTie
set_option linter.all false
namespace Go.Ev
open Go Go.Proofs Go.RowKit
def sy0 : Nat → Nat × Nat := fun _ => (0, 0)
def sy1 (v d : Nat) (f : Nat → Nat × Nat) : Nat → Nat × Nat := fun b => if b = v then (d, 0) else f b
theorem LEa {ρ : Rho} {a v mx d c m : Nat} {ts : List Trm} (h : ρ v = some (d, c)) (hd : d ≤ mx) (k : LE ρ ts m) : LE ρ (⟨a, v, mx, 0⟩ :: ts) (a * d + m) := ⟨d, c, m, h, hd, .inl rfl, k, rfl⟩
theorem LEb {ρ : Rho} {a v mx lo d c d' c' m : Nat} {ts : List Trm} (h : ρ v = some (d, c)) (hd : d ≤ mx) (h' : ρ lo = some (d', c')) (hl : d' < d) (k : LE ρ ts m) : LE ρ (⟨a, v, mx, lo⟩ :: ts) (a * d + m) := ⟨d, c, m, h, hd, .inr ⟨d', c', h', hl⟩, k, rfl⟩
theorem LEv {ρ : Rho} {c m x : Nat} {ts : List Trm} (k : LE ρ ts m) (hc : c + maxT ts ≤ maxs .i64) (e : x = c + m) : VR ρ (.sint .i64 c ts) (.int .i64 (x : Int)) := VR.sint_iff.2 ⟨m, by rw [e], k, hc⟩
theorem lawTwo {a b c d : TypeId} {W : World} {s : Sl} {f x1 x2 : Nat} {A B : AV} (L : Laid 10 cnt (tabs a b c d) s.q W) (c1 : AtIs W s 1 x1) (c2 : AtIs W s 2 x2) (sy : Nat → Nat × Nat)
    (g : ∀ (a b c d : TypeId), Good (Answer tab 100000 (orcY (tO [(1, A), (2, B)])) 300 f [.oslice 50] (H0 a b c d))) (hA : VR (rho0 10 cnt { s with sy := sy }) A (.int .i64 (x1 : Int))) (hB : VR (rho0 10 cnt { s with sy := sy }) B (.int .i64 (x2 : Int))) :
    Go.Calls Tryz.prog f #[.slice (some ⟨s.r, s.off, none⟩) s.len s.cap] W fun e w' => e = .returned (.bool true) ∧ Below W.heap.size W w' :=
  law_sym rR rI (s := { s with sy := sy }) L [(1, A), (2, B)] (fun p hp => by
    simp only [List.mem_cons, List.not_mem_nil, or_false] at hp
    rcases hp with rfl | rfl
    · exact ⟨x1, hA, c1⟩
    · exact ⟨x2, hB, c2⟩) g
set_option maxRecDepth 100000 in
theorem fnLooks_ok : LawOk 5 := by
  refine ⟨fun L => empty_ok rR L rFnLooksxe, fun {a b c d W s} L C => ?_⟩
  obtain ⟨x1, h1, c1⟩ := C.at_ok 1 (by decide)
  obtain ⟨x2, h2, c2⟩ := C.at_ok 2 (by decide)
  have q1 : x1 = 0 ∨ (1 ≤ x1 ∧ x1 ≤ 9) ∨ (10 ≤ x1 ∧ x1 ≤ 99) ∨ (100 ≤ x1 ∧ x1 ≤ 255) := by omega
  rcases q1 with q1 | q1 | q1 | q1
  · have q2 : x2 = 0 ∨ (1 ≤ x2 ∧ x2 ≤ 9) ∨ (10 ≤ x2 ∧ x2 ≤ 99) ∨ (100 ≤ x2 ∧ x2 ≤ 255) := by omega
    rcases q2 with q2 | q2 | q2 | q2
    · exact lawTwo L c1 c2 (sy0) rFnLooksx0 ((by rw [show x1 = 0 by omega]; exact VR.nat (by decide))) ((by rw [show x2 = 0 by omega]; exact VR.nat (by decide)))
    · exact lawTwo L c1 c2 (sy1 70 (x2 - 1) (sy0)) rFnLooksx1 ((by rw [show x1 = 0 by omega]; exact VR.nat (by decide))) (LEv (LEa rfl (by omega) LE.nil) (by decide) (by omega))
    · exact lawTwo L c1 c2 (sy1 70 (x2 / 10 - 1) (sy1 71 (x2 % 10) (sy0))) rFnLooksx2 ((by rw [show x1 = 0 by omega]; exact VR.nat (by decide))) (LEv (LEa rfl (by omega) (LEa rfl (by omega) LE.nil)) (by decide) (by omega))
    · exact lawTwo L c1 c2 (sy1 70 (x2 / 100 - 1) (sy1 71 (x2 / 10 % 10) (sy1 72 (x2 % 10) (sy0)))) rFnLooksx3 ((by rw [show x1 = 0 by omega]; exact VR.nat (by decide))) (LEv (LEa rfl (by omega) (LEa rfl (by omega) (LEa rfl (by omega) LE.nil))) (by decide) (by omega))
  · have q2 : x2 = 0 ∨ (1 ≤ x2 ∧ x2 ≤ 9) ∨ (10 ≤ x2 ∧ x2 ≤ 99) ∨ (100 ≤ x2 ∧ x2 ≤ 255) := by omega
    rcases q2 with q2 | q2 | q2 | q2
    · exact lawTwo L c1 c2 (sy1 60 (x1 - 1) (sy0)) rFnLooksx4 (LEv (LEa rfl (by omega) LE.nil) (by decide) (by omega)) ((by rw [show x2 = 0 by omega]; exact VR.nat (by decide)))
    · rcases Nat.lt_trichotomy (x1) (x2) with e0 | e0 | e0
      · exact lawTwo L c1 c2 (sy1 60 (x1 - 1) (sy1 70 (x2 - 1) (sy0))) rFnLooksx5 (LEv (LEa rfl (by omega) LE.nil) (by decide) (by omega)) (LEv (LEb rfl (by omega) rfl (by omega) LE.nil) (by decide) (by omega))
      · exact lawTwo L c1 c2 (sy1 60 (x1 - 1) (sy0)) rFnLooksx6 (LEv (LEa rfl (by omega) LE.nil) (by decide) (by omega)) (LEv (LEa rfl (by omega) LE.nil) (by decide) (by omega))
      · exact lawTwo L c1 c2 (sy1 60 (x1 - 1) (sy1 70 (x2 - 1) (sy0))) rFnLooksx7 (LEv (LEb rfl (by omega) rfl (by omega) LE.nil) (by decide) (by omega)) (LEv (LEa rfl (by omega) LE.nil) (by decide) (by omega))
    · rcases Nat.lt_trichotomy (x1) (x2 / 10) with e0 | e0 | e0
      · exact lawTwo L c1 c2 (sy1 60 (x1 - 1) (sy1 70 (x2 / 10 - 1) (sy1 71 (x2 % 10) (sy0)))) rFnLooksx8 (LEv (LEa rfl (by omega) LE.nil) (by decide) (by omega)) (LEv (LEb rfl (by omega) rfl (by omega) (LEa rfl (by omega) LE.nil)) (by decide) (by omega))
      · exact lawTwo L c1 c2 (sy1 60 (x1 - 1) (sy1 71 (x2 % 10) (sy0))) rFnLooksx9 (LEv (LEa rfl (by omega) LE.nil) (by decide) (by omega)) (LEv (LEa rfl (by omega) (LEa rfl (by omega) LE.nil)) (by decide) (by omega))
      · exact lawTwo L c1 c2 (sy1 60 (x1 - 1) (sy1 70 (x2 / 10 - 1) (sy1 71 (x2 % 10) (sy0)))) rFnLooksx10 (LEv (LEb rfl (by omega) rfl (by omega) LE.nil) (by decide) (by omega)) (LEv (LEa rfl (by omega) (LEa rfl (by omega) LE.nil)) (by decide) (by omega))
    · rcases Nat.lt_trichotomy (x1) (x2 / 100) with e0 | e0 | e0
      · exact lawTwo L c1 c2 (sy1 60 (x1 - 1) (sy1 70 (x2 / 100 - 1) (sy1 71 (x2 / 10 % 10) (sy1 72 (x2 % 10) (sy0))))) rFnLooksx11 (LEv (LEa rfl (by omega) LE.nil) (by decide) (by omega)) (LEv (LEb rfl (by omega) rfl (by omega) (LEa rfl (by omega) (LEa rfl (by omega) LE.nil))) (by decide) (by omega))
      · exact lawTwo L c1 c2 (sy1 60 (x1 - 1) (sy1 71 (x2 / 10 % 10) (sy1 72 (x2 % 10) (sy0)))) rFnLooksx12 (LEv (LEa rfl (by omega) LE.nil) (by decide) (by omega)) (LEv (LEa rfl (by omega) (LEa rfl (by omega) (LEa rfl (by omega) LE.nil))) (by decide) (by omega))
      · exact lawTwo L c1 c2 (sy1 60 (x1 - 1) (sy1 70 (x2 / 100 - 1) (sy1 71 (x2 / 10 % 10) (sy1 72 (x2 % 10) (sy0))))) rFnLooksx13 (LEv (LEb rfl (by omega) rfl (by omega) LE.nil) (by decide) (by omega)) (LEv (LEa rfl (by omega) (LEa rfl (by omega) (LEa rfl (by omega) LE.nil))) (by decide) (by omega))
  · have q2 : x2 = 0 ∨ (1 ≤ x2 ∧ x2 ≤ 9) ∨ (10 ≤ x2 ∧ x2 ≤ 99) ∨ (100 ≤ x2 ∧ x2 ≤ 255) := by omega
    rcases q2 with q2 | q2 | q2 | q2
    · exact lawTwo L c1 c2 (sy1 60 (x1 / 10 - 1) (sy1 61 (x1 % 10) (sy0))) rFnLooksx14 (LEv (LEa rfl (by omega) (LEa rfl (by omega) LE.nil)) (by decide) (by omega)) ((by rw [show x2 = 0 by omega]; exact VR.nat (by decide)))
    · rcases Nat.lt_trichotomy (x1 / 10) (x2) with e0 | e0 | e0
      · exact lawTwo L c1 c2 (sy1 60 (x1 / 10 - 1) (sy1 61 (x1 % 10) (sy1 70 (x2 - 1) (sy0)))) rFnLooksx15 (LEv (LEa rfl (by omega) (LEa rfl (by omega) LE.nil)) (by decide) (by omega)) (LEv (LEb rfl (by omega) rfl (by omega) LE.nil) (by decide) (by omega))
      · exact lawTwo L c1 c2 (sy1 60 (x1 / 10 - 1) (sy1 61 (x1 % 10) (sy0))) rFnLooksx16 (LEv (LEa rfl (by omega) (LEa rfl (by omega) LE.nil)) (by decide) (by omega)) (LEv (LEa rfl (by omega) LE.nil) (by decide) (by omega))
      · exact lawTwo L c1 c2 (sy1 60 (x1 / 10 - 1) (sy1 61 (x1 % 10) (sy1 70 (x2 - 1) (sy0)))) rFnLooksx17 (LEv (LEb rfl (by omega) rfl (by omega) (LEa rfl (by omega) LE.nil)) (by decide) (by omega)) (LEv (LEa rfl (by omega) LE.nil) (by decide) (by omega))
    · rcases Nat.lt_trichotomy (x1 / 10) (x2 / 10) with e0 | e0 | e0
      · exact lawTwo L c1 c2 (sy1 60 (x1 / 10 - 1) (sy1 61 (x1 % 10) (sy1 70 (x2 / 10 - 1) (sy1 71 (x2 % 10) (sy0))))) rFnLooksx18 (LEv (LEa rfl (by omega) (LEa rfl (by omega) LE.nil)) (by decide) (by omega)) (LEv (LEb rfl (by omega) rfl (by omega) (LEa rfl (by omega) LE.nil)) (by decide) (by omega))
      · rcases Nat.lt_trichotomy (x1 % 10) (x2 % 10) with e1 | e1 | e1
        · exact lawTwo L c1 c2 (sy1 60 (x1 / 10 - 1) (sy1 61 (x1 % 10) (sy1 71 (x2 % 10) (sy0)))) rFnLooksx19 (LEv (LEa rfl (by omega) (LEa rfl (by omega) LE.nil)) (by decide) (by omega)) (LEv (LEa rfl (by omega) (LEb rfl (by omega) rfl (by omega) LE.nil)) (by decide) (by omega))
        · exact lawTwo L c1 c2 (sy1 60 (x1 / 10 - 1) (sy1 61 (x1 % 10) (sy0))) rFnLooksx20 (LEv (LEa rfl (by omega) (LEa rfl (by omega) LE.nil)) (by decide) (by omega)) (LEv (LEa rfl (by omega) (LEa rfl (by omega) LE.nil)) (by decide) (by omega))
        · exact lawTwo L c1 c2 (sy1 60 (x1 / 10 - 1) (sy1 61 (x1 % 10) (sy1 71 (x2 % 10) (sy0)))) rFnLooksx21 (LEv (LEa rfl (by omega) (LEb rfl (by omega) rfl (by omega) LE.nil)) (by decide) (by omega)) (LEv (LEa rfl (by omega) (LEa rfl (by omega) LE.nil)) (by decide) (by omega))
      · exact lawTwo L c1 c2 (sy1 60 (x1 / 10 - 1) (sy1 61 (x1 % 10) (sy1 70 (x2 / 10 - 1) (sy1 71 (x2 % 10) (sy0))))) rFnLooksx22 (LEv (LEb rfl (by omega) rfl (by omega) (LEa rfl (by omega) LE.nil)) (by decide) (by omega)) (LEv (LEa rfl (by omega) (LEa rfl (by omega) LE.nil)) (by decide) (by omega))
    · rcases Nat.lt_trichotomy (x1 / 10) (x2 / 100) with e0 | e0 | e0
      · exact lawTwo L c1 c2 (sy1 60 (x1 / 10 - 1) (sy1 61 (x1 % 10) (sy1 70 (x2 / 100 - 1) (sy1 71 (x2 / 10 % 10) (sy1 72 (x2 % 10) (sy0)))))) rFnLooksx23 (LEv (LEa rfl (by omega) (LEa rfl (by omega) LE.nil)) (by decide) (by omega)) (LEv (LEb rfl (by omega) rfl (by omega) (LEa rfl (by omega) (LEa rfl (by omega) LE.nil))) (by decide) (by omega))
      · rcases Nat.lt_trichotomy (x1 % 10) (x2 / 10 % 10) with e1 | e1 | e1
        · exact lawTwo L c1 c2 (sy1 60 (x1 / 10 - 1) (sy1 61 (x1 % 10) (sy1 71 (x2 / 10 % 10) (sy1 72 (x2 % 10) (sy0))))) rFnLooksx24 (LEv (LEa rfl (by omega) (LEa rfl (by omega) LE.nil)) (by decide) (by omega)) (LEv (LEa rfl (by omega) (LEb rfl (by omega) rfl (by omega) (LEa rfl (by omega) LE.nil))) (by decide) (by omega))
        · exact lawTwo L c1 c2 (sy1 60 (x1 / 10 - 1) (sy1 61 (x1 % 10) (sy1 72 (x2 % 10) (sy0)))) rFnLooksx25 (LEv (LEa rfl (by omega) (LEa rfl (by omega) LE.nil)) (by decide) (by omega)) (LEv (LEa rfl (by omega) (LEa rfl (by omega) (LEa rfl (by omega) LE.nil))) (by decide) (by omega))
        · exact lawTwo L c1 c2 (sy1 60 (x1 / 10 - 1) (sy1 61 (x1 % 10) (sy1 71 (x2 / 10 % 10) (sy1 72 (x2 % 10) (sy0))))) rFnLooksx26 (LEv (LEa rfl (by omega) (LEb rfl (by omega) rfl (by omega) LE.nil)) (by decide) (by omega)) (LEv (LEa rfl (by omega) (LEa rfl (by omega) (LEa rfl (by omega) LE.nil))) (by decide) (by omega))
      · exact lawTwo L c1 c2 (sy1 60 (x1 / 10 - 1) (sy1 61 (x1 % 10) (sy1 70 (x2 / 100 - 1) (sy1 71 (x2 / 10 % 10) (sy1 72 (x2 % 10) (sy0)))))) rFnLooksx27 (LEv (LEb rfl (by omega) rfl (by omega) (LEa rfl (by omega) LE.nil)) (by decide) (by omega)) (LEv (LEa rfl (by omega) (LEa rfl (by omega) (LEa rfl (by omega) LE.nil))) (by decide) (by omega))
  · have q2 : x2 = 0 ∨ (1 ≤ x2 ∧ x2 ≤ 9) ∨ (10 ≤ x2 ∧ x2 ≤ 99) ∨ (100 ≤ x2 ∧ x2 ≤ 255) := by omega
    rcases q2 with q2 | q2 | q2 | q2
    · exact lawTwo L c1 c2 (sy1 60 (x1 / 100 - 1) (sy1 61 (x1 / 10 % 10) (sy1 62 (x1 % 10) (sy0)))) rFnLooksx28 (LEv (LEa rfl (by omega) (LEa rfl (by omega) (LEa rfl (by omega) LE.nil))) (by decide) (by omega)) ((by rw [show x2 = 0 by omega]; exact VR.nat (by decide)))
    · rcases Nat.lt_trichotomy (x1 / 100) (x2) with e0 | e0 | e0
      · exact lawTwo L c1 c2 (sy1 60 (x1 / 100 - 1) (sy1 61 (x1 / 10 % 10) (sy1 62 (x1 % 10) (sy1 70 (x2 - 1) (sy0))))) rFnLooksx29 (LEv (LEa rfl (by omega) (LEa rfl (by omega) (LEa rfl (by omega) LE.nil))) (by decide) (by omega)) (LEv (LEb rfl (by omega) rfl (by omega) LE.nil) (by decide) (by omega))
      · exact lawTwo L c1 c2 (sy1 60 (x1 / 100 - 1) (sy1 61 (x1 / 10 % 10) (sy1 62 (x1 % 10) (sy0)))) rFnLooksx30 (LEv (LEa rfl (by omega) (LEa rfl (by omega) (LEa rfl (by omega) LE.nil))) (by decide) (by omega)) (LEv (LEa rfl (by omega) LE.nil) (by decide) (by omega))
      · exact lawTwo L c1 c2 (sy1 60 (x1 / 100 - 1) (sy1 61 (x1 / 10 % 10) (sy1 62 (x1 % 10) (sy1 70 (x2 - 1) (sy0))))) rFnLooksx31 (LEv (LEb rfl (by omega) rfl (by omega) (LEa rfl (by omega) (LEa rfl (by omega) LE.nil))) (by decide) (by omega)) (LEv (LEa rfl (by omega) LE.nil) (by decide) (by omega))
    · rcases Nat.lt_trichotomy (x1 / 100) (x2 / 10) with e0 | e0 | e0
      · exact lawTwo L c1 c2 (sy1 60 (x1 / 100 - 1) (sy1 61 (x1 / 10 % 10) (sy1 62 (x1 % 10) (sy1 70 (x2 / 10 - 1) (sy1 71 (x2 % 10) (sy0)))))) rFnLooksx32 (LEv (LEa rfl (by omega) (LEa rfl (by omega) (LEa rfl (by omega) LE.nil))) (by decide) (by omega)) (LEv (LEb rfl (by omega) rfl (by omega) (LEa rfl (by omega) LE.nil)) (by decide) (by omega))
      · rcases Nat.lt_trichotomy (x1 / 10 % 10) (x2 % 10) with e1 | e1 | e1
        · exact lawTwo L c1 c2 (sy1 60 (x1 / 100 - 1) (sy1 61 (x1 / 10 % 10) (sy1 62 (x1 % 10) (sy1 71 (x2 % 10) (sy0))))) rFnLooksx33 (LEv (LEa rfl (by omega) (LEa rfl (by omega) (LEa rfl (by omega) LE.nil))) (by decide) (by omega)) (LEv (LEa rfl (by omega) (LEb rfl (by omega) rfl (by omega) LE.nil)) (by decide) (by omega))
        · exact lawTwo L c1 c2 (sy1 60 (x1 / 100 - 1) (sy1 61 (x1 / 10 % 10) (sy1 62 (x1 % 10) (sy0)))) rFnLooksx34 (LEv (LEa rfl (by omega) (LEa rfl (by omega) (LEa rfl (by omega) LE.nil))) (by decide) (by omega)) (LEv (LEa rfl (by omega) (LEa rfl (by omega) LE.nil)) (by decide) (by omega))
        · exact lawTwo L c1 c2 (sy1 60 (x1 / 100 - 1) (sy1 61 (x1 / 10 % 10) (sy1 62 (x1 % 10) (sy1 71 (x2 % 10) (sy0))))) rFnLooksx35 (LEv (LEa rfl (by omega) (LEb rfl (by omega) rfl (by omega) (LEa rfl (by omega) LE.nil))) (by decide) (by omega)) (LEv (LEa rfl (by omega) (LEa rfl (by omega) LE.nil)) (by decide) (by omega))
      · exact lawTwo L c1 c2 (sy1 60 (x1 / 100 - 1) (sy1 61 (x1 / 10 % 10) (sy1 62 (x1 % 10) (sy1 70 (x2 / 10 - 1) (sy1 71 (x2 % 10) (sy0)))))) rFnLooksx36 (LEv (LEb rfl (by omega) rfl (by omega) (LEa rfl (by omega) (LEa rfl (by omega) LE.nil))) (by decide) (by omega)) (LEv (LEa rfl (by omega) (LEa rfl (by omega) LE.nil)) (by decide) (by omega))
    · rcases Nat.lt_trichotomy (x1 / 100) (x2 / 100) with e0 | e0 | e0
      · exact lawTwo L c1 c2 (sy1 60 (x1 / 100 - 1) (sy1 61 (x1 / 10 % 10) (sy1 62 (x1 % 10) (sy1 70 (x2 / 100 - 1) (sy1 71 (x2 / 10 % 10) (sy1 72 (x2 % 10) (sy0))))))) rFnLooksx37 (LEv (LEa rfl (by omega) (LEa rfl (by omega) (LEa rfl (by omega) LE.nil))) (by decide) (by omega)) (LEv (LEb rfl (by omega) rfl (by omega) (LEa rfl (by omega) (LEa rfl (by omega) LE.nil))) (by decide) (by omega))
      · rcases Nat.lt_trichotomy (x1 / 10 % 10) (x2 / 10 % 10) with e1 | e1 | e1
        · exact lawTwo L c1 c2 (sy1 60 (x1 / 100 - 1) (sy1 61 (x1 / 10 % 10) (sy1 62 (x1 % 10) (sy1 71 (x2 / 10 % 10) (sy1 72 (x2 % 10) (sy0)))))) rFnLooksx38 (LEv (LEa rfl (by omega) (LEa rfl (by omega) (LEa rfl (by omega) LE.nil))) (by decide) (by omega)) (LEv (LEa rfl (by omega) (LEb rfl (by omega) rfl (by omega) (LEa rfl (by omega) LE.nil))) (by decide) (by omega))
        · rcases Nat.lt_trichotomy (x1 % 10) (x2 % 10) with e2 | e2 | e2
          · exact lawTwo L c1 c2 (sy1 60 (x1 / 100 - 1) (sy1 61 (x1 / 10 % 10) (sy1 62 (x1 % 10) (sy1 72 (x2 % 10) (sy0))))) rFnLooksx39 (LEv (LEa rfl (by omega) (LEa rfl (by omega) (LEa rfl (by omega) LE.nil))) (by decide) (by omega)) (LEv (LEa rfl (by omega) (LEa rfl (by omega) (LEb rfl (by omega) rfl (by omega) LE.nil))) (by decide) (by omega))
          · exact lawTwo L c1 c2 (sy1 60 (x1 / 100 - 1) (sy1 61 (x1 / 10 % 10) (sy1 62 (x1 % 10) (sy0)))) rFnLooksx40 (LEv (LEa rfl (by omega) (LEa rfl (by omega) (LEa rfl (by omega) LE.nil))) (by decide) (by omega)) (LEv (LEa rfl (by omega) (LEa rfl (by omega) (LEa rfl (by omega) LE.nil))) (by decide) (by omega))
          · exact lawTwo L c1 c2 (sy1 60 (x1 / 100 - 1) (sy1 61 (x1 / 10 % 10) (sy1 62 (x1 % 10) (sy1 72 (x2 % 10) (sy0))))) rFnLooksx41 (LEv (LEa rfl (by omega) (LEa rfl (by omega) (LEb rfl (by omega) rfl (by omega) LE.nil))) (by decide) (by omega)) (LEv (LEa rfl (by omega) (LEa rfl (by omega) (LEa rfl (by omega) LE.nil))) (by decide) (by omega))
        · exact lawTwo L c1 c2 (sy1 60 (x1 / 100 - 1) (sy1 61 (x1 / 10 % 10) (sy1 62 (x1 % 10) (sy1 71 (x2 / 10 % 10) (sy1 72 (x2 % 10) (sy0)))))) rFnLooksx42 (LEv (LEa rfl (by omega) (LEb rfl (by omega) rfl (by omega) (LEa rfl (by omega) LE.nil))) (by decide) (by omega)) (LEv (LEa rfl (by omega) (LEa rfl (by omega) (LEa rfl (by omega) LE.nil))) (by decide) (by omega))
      · exact lawTwo L c1 c2 (sy1 60 (x1 / 100 - 1) (sy1 61 (x1 / 10 % 10) (sy1 62 (x1 % 10) (sy1 70 (x2 / 100 - 1) (sy1 71 (x2 / 10 % 10) (sy1 72 (x2 % 10) (sy0))))))) rFnLooksx43 (LEv (LEb rfl (by omega) rfl (by omega) (LEa rfl (by omega) (LEa rfl (by omega) LE.nil))) (by decide) (by omega)) (LEv (LEa rfl (by omega) (LEa rfl (by omega) (LEa rfl (by omega) LE.nil))) (by decide) (by omega))
end Go.Ev
namespace Go.Proofs.YtfgmimcbjjbplaaGreatDoor.fnLooks
open Go Go.Ev Go.RowKit Go.ChangeShapes Go.WideShapes Go.ChangeAt
set_option maxRecDepth 100000 in
theorem lifted (os : Os) (started : os.Started) (H : Type) (enc : TypeId × Value → H) :
    ReturnsInHanded {} Tryz.checked os 5 .any (fun w args => (Rows.fnLooksSpec.pre enc Tryz.prog Tryz.f5 [] false w args ∧ laidMetH Tryz.prog laidL w) ∧ sizedMet enc Tryz.prog Tryz.f5 (OpenSpec.ofChange Rows.fnLooksSpec) false w args)
      (Rows.fnLooksSpec.post enc Tryz.prog Tryz.f5 false true false false) := by
  refine returnsInHanded_of_change_and (C := Tryz.checked) (X := fun w _ => laidMetH Tryz.prog laidL w) (fun _ _ _ hh h => h.of_heap hh) own started (by kernel_rfl) Tryz.func5
    (ChangeSpec.witness_shaped (enc := enc) (C := Tryz.checked) (os := os) (X := fun w _ => laidMetH Tryz.prog laidL w) false (World.laidAll Tryz.prog os laidL) #[.slice none 0 0] 8 (World.laidAll_os _ _ _)
      (World.shaped_of_ZipB (by kernel_rfl) (by kernel_rfl)) (by kernel_rfl) (by kernel_rfl) (by kernel_rfl)
      (by rw [MakeChecks.laidMetH_plain _ _ _ (by kernel_rfl)]; exact laidMet_laidAll _ (by kernel_rfl) (by kernel_rfl))) ?_
  intro W base args ds gs before hval0 hW _ _ hL _
  have hW' := hW
  obtain ⟨p, q, hA0, hV, rfl, _, _⟩ := hW
  have hA : DataW.TrodAll enc Tryz.prog W 0 (fun _ => true) true Tryz.f5.params.toList args.toList ds p := hA0
  rw [Tryz.params5] at hA
  obtain ⟨v0, d0, rfl, rfl, h0⟩ := trodAll_one hA
  obtain ⟨rfl, rfl⟩ := trodVars_none hV
  have hval := hval0 0 22 v0 (by rw [Tryz.params5]; rfl) rfl
  obtain ⟨a0, len, cap, rfl⟩ := okWide_slice Tryz.underlying22 hval
  have h0k := h0
  obtain ⟨fuel, hf⟩ := h0
  simp only [List.append_nil] at hW'
  have hlt : ∀ x ∈ p, x.block < W.heap.size := fun x hx => by simpa using hW'.lt x hx
  refine (law_any fnLooks_ok hL (by simpa [Value.cells] using hf)).mono fun e W' ⟨he, hb⟩ => ?_
  subst he
  exact ⟨_, rfl, _, _, _, [], _, [], hW', trodAll_mk1 (shut_bool Tryz.underlying4 _), trodAll_mk1 (Below.trod laidOut (by kernel_rfl) (of_decide_eq_true (by kernel_rfl)) h0k hb hlt), rfl, hb.frame _, fun h => by cases h⟩
theorem over : Rows.fnLooksRow.holds Tryz.pinned (OpenSpec.ofChange Rows.fnLooksSpec) :=
  OpenClaim.holds_of_wide 5 Tryz.f5 rfl rfl rfl rfl rfl rfl rfl ⟨rfl, rfl, rfl, rfl, rfl⟩ rfl rfl rfl rfl rfl (by kernel_rfl) Tryz.func5 closed
    (of_decide_eq_true (by kernel_rfl)) (by unfold Func.isWrapper; first | (rw [if_pos (by decide +kernel)]; kernel_rfl) | (rw [if_neg (by decide +kernel)]; exact ⟨rfl, rfl⟩))
    (fun os started H enc _ => lifted os started H enc)
theorem card_holds : Rows.FnLooksCardSaid :=
  Claim7.holds_tied_plain_at .later [] [.data, .data, .data, .data, .sentinel, .sentinel, .pinned] true (true, "af999f076cd471efd5287a48a0cebdf87c0f9e074a5ddc96e3b5a6041ab5a425") true
    over (fun _ h => by cases h) wf (fun _ h => by cases h) fnLooks_row_tie rfl ⟨rfl, rfl⟩ (by kernel_rfl) rfl
    (fun f fn hf hfn => by
      obtain rfl : f = 5 := Option.some.inj ((show Tryz.prog.funcNamed "loop.example/g00700/laws.FnLooks" = some 5 by kernel_rfl).symm.trans hf) |>.symm
      obtain rfl : fn = Tryz.f5 := (Option.some.inj (Tryz.func5.symm.trans hfn)).symm
      exact ⟨looks, fun j t ht => by
        rw [Tryz.params5] at ht
        have hm : t ∈ [22] := by simpa using Array.mem_of_getElem? ht
        exact (show Tryz.prog.wantsStandIn t = false by simpa using List.all_eq_true.1 ws22 t hm)⟩)
    goes
end Go.Proofs.YtfgmimcbjjbplaaGreatDoor.fnLooks
namespace Go.Proofs.YtfgmimcbjjbplaaGreatDoor
theorem fnLooks_card : Rows.FnLooksCardSaid := fnLooks.card_holds
#print axioms fnLooks_card
end Go.Proofs.YtfgmimcbjjbplaaGreatDoor
