/-
  Plain functions: what the reference's functions of lines need.
-/
import Derived.Test.YtaehngpnlkokkaaGoes
namespace Go.Proofs.Ytaehngpnlkokkaa
set_option linter.unusedVariables false
def GreatL (l : LineM) : Prop := (20 < (l.Track.length : Int) ∨ 8 < (l.Clocks.length : Int) ∨ 10 < (l.Beams.length : Int)) ∨ ∃ c ∈ l.Clocks, 10 < (c.Syncs.length : Int)
noncomputable instance (l : LineM) : Decidable (GreatL l) := Classical.propDecidable _
/-- what is asked of a line that comes in -/
structure LineRaw (l : LineM) (az : List RA) : Prop where
  trk : l.Track.length ≤ 9223372036854775807
  side : ∀ x ∈ l.Track, 0 ≤ x.Side ∧ x.Side ≤ 255
  cks : l.Clocks.length ≤ 9223372036854775807
  as_ : az.length = l.Clocks.length
  bms : l.Beams.length ≤ 9223372036854775807
  syn : ∀ (k : Nat) m (a : RA), l.Clocks[k]? = some m → az[k]? = some a → m.Syncs.length ≤ a.2 ∧ m.Syncs.length ≤ 9223372036854775807
def SyncsTo (l : LineM) (i : Nat) : Prop := ∀ (j : Nat) c, j < i → l.Clocks[j]? = some c → (c.Syncs.length : Int) ≤ 10
theorem great_no {l : LineM} {i : Nat} (h : ¬ (20 < (l.Track.length : Int)) ∧ ¬ (8 < (l.Clocks.length : Int)) ∧ ¬ (10 < (l.Beams.length : Int))) (hi : l.Clocks.length ≤ i) (hs : SyncsTo l i) : ¬ GreatL l := by
  rintro (h1 | ⟨c, hc, h2⟩)
  · omega
  · obtain ⟨k, hk⟩ := List.getElem?_of_mem hc
    have := hs k c (by have := (List.getElem?_eq_some_iff.1 hk).1; omega) hk
    omega
theorem great_at {l : LineM} {i : Nat} {c : ClockM} (hc : l.Clocks[i]? = some c) (h : 10 < (c.Syncs.length : Int)) : GreatL l := .inr ⟨c, List.mem_of_getElem? hc, h⟩
theorem upto_succ {α : Type} {l : List α} {P : Nat → α → Prop} {i : Nat} {x : α} (h : ∀ (j : Nat) y, j < i → l[j]? = some y → P j y) (hx : l[i]? = some x) (hp : P i x) : ∀ (j : Nat) y, j < i + 1 → l[j]? = some y → P j y := fun j y hj hy => by
  by_cases e : j = i
  · subst e; rw [hx] at hy; cases hy; exact hp
  · exact h j y (by omega) hy
theorem upto_all {α : Type} {l : List α} {P : Nat → α → Prop} {i : Nat} (hi : l.length ≤ i) (h : ∀ (j : Nat) y, j < i → l[j]? = some y → P j y) : ∀ (j : Nat) y, l[j]? = some y → P j y := fun j y hy => h j y (by have := (List.getElem?_eq_some_iff.1 hy).1; omega) hy
theorem upto_mem {α : Type} {l : List α} {P : α → Prop} {i : Nat} (hi : l.length ≤ i) (h : ∀ (j : Nat) y, j < i → l[j]? = some y → P y) : ∀ y ∈ l, P y := fun y hy => by
  obtain ⟨k, hk⟩ := List.getElem?_of_mem hy
  exact upto_all (P := fun _ y => P y) hi h k y hk
theorem small_of {l : LineM} (h : ¬ GreatL l) : (l.Track.length : Int) ≤ 20 ∧ (l.Clocks.length : Int) ≤ 8 ∧ (l.Beams.length : Int) ≤ 10 ∧ ∀ c ∈ l.Clocks, (c.Syncs.length : Int) ≤ 10 := by
  unfold GreatL at h
  rw [not_or] at h
  refine ⟨by omega, by omega, by omega, fun c hc => ?_⟩
  have := h.2
  rcases Int.lt_or_le 10 (c.Syncs.length : Int) with q | q
  · exact absurd ⟨c, hc, q⟩ this
  · exact q
theorem LineRaw.small {l : LineM} {az : List RA} (h : LineRaw l az) (hg : ¬ GreatL l) : LineIn l az := by
  have h1 := small_of hg
  exact ⟨by omega, h.side, by omega, h.as_, by omega, fun k m a hm ha => ⟨(h.syn k m a hm ha).1, by have := h1.2.2.2 m (List.mem_of_getElem? hm); omega⟩⟩
/-! ### clocks -/
def PairK (c : ClockM) (x : SyncV) (k : Nat) : Prop := ∀ (j : Nat) o, j < k → c.Syncs[j]? = some o → PairOk c x o
def PairsOk (c : ClockM) (m : Nat) : Prop := ∀ (i : Nat) x, i < m → c.Syncs[i]? = some x → PairK c x i
theorem clock_ok {c : ClockM} {m : Nat} (h1 : 0 ≤ c.Drift ∧ c.Drift ≤ 1000) (h2 : 1 ≤ c.Syncs.length ∧ c.Syncs.length ≤ 5) (hs : ∀ (i : Nat) x, c.Syncs[i]? = some x → SyncOk c i x) (hm : c.Syncs.length ≤ m) (hp : PairsOk c m) : ClockOk c :=
  ⟨h1, h2, hs, fun i k x o hx hk ho => hp i x (by have := (List.getElem?_eq_some_iff.1 hx).1; omega) hx k o hk ho⟩
theorem pairs_succ {c : ClockM} {m k : Nat} (h : PairsOk c m) (hk : ∀ y, c.Syncs[m]? = some y → PairK c y k) (e : k = m) : PairsOk c (m + 1) := by
  subst e
  intro i x hi hx
  by_cases e : i = k
  · subst e; exact hk x hx
  · exact h i x (by omega) hx
noncomputable def aheadR (c : ClockM) (at_ : Int) (i : Nat) : SpanV := if i = 0 then zeroZ else aheadK c at_ i
theorem aheadR_zero {c : ClockM} {at_ : Int} : aheadR c at_ 0 = zeroZ := rfl
theorem aheadR_all {c : ClockM} {at_ : Int} {i : Nat} (h : ClockOk c) (hi : c.Syncs.length ≤ i) : aheadR c at_ i = aheadF c at_ := by
  have := h.len
  unfold aheadR; rw [if_neg (by omega), aheadK_all hi]
theorem aheadR_first {c : ClockM} {at_ : Int} {i : Nat} {x : SyncV} (h : ClockOk c) (ha : 0 ≤ at_ ∧ at_ ≤ 90000000) (hx : c.Syncs[i]? = some x) (hi : i = 0) :
    aheadR c at_ (i + 1) = ⟨max (x.Ahead.Lo - offF c at_ x) (x.Ahead.Lo - offF c at_ x), min (x.Ahead.Hi + offF c at_ x) (x.Ahead.Hi + offF c at_ x)⟩ := by
  subst hi
  have hb := h.sync_b hx
  have ho := offF_b h.drift ha hb.1
  unfold aheadR
  rw [if_neg (by omega), aheadK_succ hx]
  unfold aheadStep aheadK
  simp only [List.take_zero, List.foldl_nil, SpanV.mk.injEq]
  omega
theorem aheadR_next {c : ClockM} {at_ : Int} {i : Nat} {x : SyncV} (hx : c.Syncs[i]? = some x) (hi : ¬ i = 0) : aheadR c at_ (i + 1) = ⟨max (aheadR c at_ i).Lo (x.Ahead.Lo - offF c at_ x), min (aheadR c at_ i).Hi (x.Ahead.Hi + offF c at_ x)⟩ := by
  unfold aheadR
  rw [if_neg (by omega), if_neg hi, aheadK_succ hx]; rfl
/-! ### spots -/
def marksS (ts : List StretchV) (n : Nat) : List SpanV := (List.range n).map fun k => longF ts 0 k
theorem marksS_succ {ts : List StretchV} {n : Nat} : marksS ts (n + 1) = marksS ts n ++ [longF ts 0 n] := by simp [marksS, List.range_succ]
theorem marksS_length {ts : List StretchV} {n : Nat} : (marksS ts n).length = n := by simp [marksS]
theorem marksS_get {ts : List StretchV} {n k : Nat} {x : SpanV} (h : (marksS ts n)[k]? = some x) : x = longF ts 0 k := by
  unfold marksS at h
  rw [List.getElem?_map] at h
  cases hk : (List.range n)[k]? with
  | none => simp [hk] at h
  | some v =>
    have := List.getElem?_eq_some_iff.1 hk
    simp at this
    simp [hk] at h
    rw [← h, ← this.2]
theorem apart_swap {ts : List StretchV} {a b : SpotV} (h : b.Stretch < a.Stretch) : apartF ts a b = lessZ (apartF ts b a) := by
  unfold apartF
  rw [if_pos h, if_neg (by omega)]
  unfold wayB
  rw [Int.min_comm b.Stretch a.Stretch, Int.max_comm b.Stretch a.Stretch]
  unfold lessZ addZ
  simp only [SpanV.mk.injEq]
  omega
theorem apart_straight {ts : List StretchV} {a b : SpotV} (h : ¬ b.Stretch < a.Stretch) : apartF ts a b = addZ (addZ (longF ts a.Stretch.toNat (b.Stretch - a.Stretch).toNat) b.Off) (lessZ a.Off) := by
  unfold apartF wayB
  rw [if_neg h, Int.min_eq_left (by omega), Int.max_eq_right (by omega)]
end Go.Proofs.Ytaehngpnlkokkaa
