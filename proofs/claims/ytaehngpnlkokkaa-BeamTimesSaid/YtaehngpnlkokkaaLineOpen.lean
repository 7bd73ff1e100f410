/-
  A line that comes in, laid open.
  No condition: the theorems hold over whatever program.
-/
import Derived.Test.YtaehngpnlkokkaaTwin
import Derived.Test.YtaehngpnlkokkaaOpen
namespace Go.Proofs.Ytaehngpnlkokkaa
open Go.RowKit
set_option linter.unusedVariables false
def ReadsAs {α : Type} (cells : α → List Value) (sz : Nat) (R : World → α → Prop) (w : World) (s : Slc) : Prop := ∃ l : List α, s.n = l.length ∧ (rd s.a l.length sz (l.map cells)).holds w ∧ (∀ x ∈ l, R w x) ∧ l.length ≤ maxLen ∧ s.n ≤ s.c
theorem open_clocks {w : World} {R : World → SyncV → Prop} : ∀ {l : List ClockV}, (∀ x ∈ l, ReadsAs SyncV.cells 3 R w x.Syncs) → ∃ (ms : List ClockM) (az : List RA), l.map ClockV.cells = List.zipWith ClockM.cells ms az ∧ ms.length = l.length ∧ az.length = l.length ∧ (∀ X ∈ nest ClockM.rds ms az, X.holds w) ∧
    (∀ (k : Nat) m (a : RA), ms[k]? = some m → az[k]? = some a → m.Syncs.length ≤ a.2 ∧ m.Syncs.length ≤ 9223372036854775807) ∧ ms.map (fun m => m.Drift) = l.map (fun x => x.Drift) ∧ ∀ (k : Nat) m y, ms[k]? = some m → y ∈ m.Syncs → R w y
  | [], _ => ⟨[], [], rfl, rfl, rfl, (fun X hX => by cases hX), (fun k m a h => by simp at h), rfl, (fun k m y h => by simp at h)⟩
  | x :: l, h => by
    obtain ⟨ms, az, h1, h2, h3, h4, h5, h6, h7⟩ := open_clocks (fun y hy => h y (List.mem_cons_of_mem _ hy))
    obtain ⟨sy, e1, e2, e3, e4, e5⟩ := h x (by simp)
    have e4' : sy.length ≤ 9223372036854775807 := e4
    refine ⟨⟨x.Drift, sy⟩ :: ms, (x.Syncs.a, x.Syncs.c) :: az, ?_, by simp [h2], by simp [h3], fun X hX => ?_, fun k m a hm ha => ?_, by simp [h6], fun k m y hm hy => ?_⟩
    · obtain ⟨dr, ⟨a, n, c⟩⟩ := x
      simp only at e1
      subst e1
      simp only [List.map_cons, List.zipWith_cons_cons, h1]
      rfl
    · rcases List.mem_append.1 hX with hX | hX
      · simp only [ClockM.rds, List.mem_singleton] at hX
        subst hX; exact e2
      · exact h4 X hX
    · cases k with
      | zero =>
        simp only [List.getElem?_cons_zero, Option.some.injEq] at hm ha
        subst hm ha
        exact ⟨by simp only; omega, e4'⟩
      | succ k => exact h5 k m a (by simpa using hm) (by simpa using ha)
    · cases k with
      | zero =>
        simp only [List.getElem?_cons_zero, Option.some.injEq] at hm
        subst hm
        exact e3 y hy
      | succ k => exact h7 k m y (by simpa using hm) hy
theorem open_line {w : World} {s : LineV} {R1 : World → StretchV → Prop} {R2 : World → ClockV → Prop} {R3 : World → BeamV → Prop} {R4 : World → SyncV → Prop} (h1 : ReadsAs StretchV.cells 9 R1 w s.Track.Stretches) (hs : ∀ x, R1 w x → 0 ≤ x.Side ∧ x.Side ≤ 255) (h2 : ReadsAs ClockV.cells 2 R2 w s.Clocks) (hc : ∀ x, R2 w x → ReadsAs SyncV.cells 3 R4 w x.Syncs) (h3 : ReadsAs BeamV.cells 4 R3 w s.Beams) :
    ∃ (l : LineM) (az : List RA) (kA : Option Addr) (kC : Nat) (cA : Option Addr) (cC : Nat) (bA : Option Addr) (bC : Nat), s = LineV.mk (TrackV.mk (Slc.mk kA l.Track.length kC)) l.Fast (Slc.mk cA l.Clocks.length cC) (Slc.mk bA l.Beams.length bC) l.Finish l.Fakes l.Misses ∧ LineRaw l az ∧
      ((rd kA l.Track.length 9 (l.Track.map StretchV.cells)).holds w ∧ (rd cA l.Clocks.length 2 (List.zipWith ClockM.cells l.Clocks az)).holds w ∧ (bun (nest ClockM.rds l.Clocks az)).holds w ∧ (rd bA l.Beams.length 4 (l.Beams.map BeamV.cells)).holds w) ∧ l.Fast = s.Fast ∧ l.Finish = s.Finish ∧ l.Fakes = s.Fakes ∧ l.Misses = s.Misses := by
  obtain ⟨⟨⟨ka, kn, kc⟩⟩, fa, ⟨ca, cn, cc⟩, ⟨ba, bn, bc⟩, fi, fk, mi⟩ := s
  obtain ⟨ts, t1, t2, t3, t4, t5⟩ := h1
  obtain ⟨cs, c1, c2, c3, c4, c5⟩ := h2
  obtain ⟨bs, b1, b2, b3, b4, b5⟩ := h3
  simp only at t1 c1 b1
  subst t1 c1 b1
  obtain ⟨ms, az, m1, m2, m3, m4, m5, _⟩ := open_clocks (fun x hx => hc x (c3 x hx))
  have t4' : ts.length ≤ 9223372036854775807 := t4
  have c4' : cs.length ≤ 9223372036854775807 := c4
  have b4' : bs.length ≤ 9223372036854775807 := b4
  refine ⟨⟨ts, fa, ms, bs, fi, fk, mi⟩, az, ka, kc, ca, cc, ba, bc, by simp only [m2], ⟨t4', fun x hx => hs x (t3 x hx), by simp only; omega, by simp only; omega, b4', m5⟩, ⟨t2, ?_, m4, b2⟩, rfl, rfl, rfl, rfl⟩
  simp only at c2 ⊢
  rw [m2, ← m1]; exact c2
end Go.Proofs.Ytaehngpnlkokkaa
