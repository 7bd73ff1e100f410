/-
  Plain functions: clocks, lines, the times of signals.
-/
import Derived.Test.YtaehngpnlkokkaaSpot
import Derived.Test.YtaehngpnlkokkaaFirst
namespace Go.Proofs.Ytaehngpnlkokkaa
set_option linter.unusedVariables false
def upD (n by_ : Int) : Int := (n + by_ - 1) / by_
theorem upD_b {n M : Int} (h0 : 0 ≤ n) (h1 : n ≤ M) : 0 ≤ upD n 1000000 ∧ upD n 1000000 ≤ M := by unfold upD; omega
theorem upD_mono {a b : Int} (h : a ≤ b) : upD a 1000000 ≤ upD b 1000000 := by unfold upD; omega
theorem upD_near {a b : Int} (h : a ≤ b + 1000) : upD a 1000000 ≤ upD b 1000000 + 1 := by unfold upD; omega
theorem upD_ref {n : Int} : (if 0 < n % 1000000 then n / 1000000 + 1 else n / 1000000) = upD n 1000000 := by unfold upD; split <;> omega
/-- by how much a sync may be off -/
def offF (c : ClockM) (at_ : Int) (x : SyncV) : Int := upD (c.Drift * max (at_ - x.At) (x.At - at_)) 1000000
def aheadStep (c : ClockM) (at_ : Int) (s : SpanV) (x : SyncV) : SpanV := ⟨max s.Lo (x.Ahead.Lo - offF c at_ x), min s.Hi (x.Ahead.Hi + offF c at_ x)⟩
def aheadK (c : ClockM) (at_ : Int) (k : Nat) : SpanV := (c.Syncs.take k).foldl (aheadStep c at_) ⟨-1099511627776, 1099511627776⟩
def aheadF (c : ClockM) (at_ : Int) : SpanV := c.Syncs.foldl (aheadStep c at_) ⟨-1099511627776, 1099511627776⟩
theorem aheadK_succ {c : ClockM} {at_ : Int} {k : Nat} {x : SyncV} (h : c.Syncs[k]? = some x) : aheadK c at_ (k + 1) = aheadStep c at_ (aheadK c at_ k) x := by
  unfold aheadK; rw [List.take_add_one, h, List.foldl_append]; rfl
theorem aheadK_all {c : ClockM} {at_ : Int} {k : Nat} (h : c.Syncs.length ≤ k) : aheadK c at_ k = aheadF c at_ := by unfold aheadK aheadF; rw [List.take_of_length_le h]
def prevAt (c : ClockM) (i : Nat) : Int := if i = 0 then -1 else ((c.Syncs[i - 1]?).map (·.At)).getD 0
def SyncOk (c : ClockM) (i : Nat) (x : SyncV) : Prop := (prevAt c i < x.At ∧ x.At ≤ 86400000) ∧ -10000 ≤ x.Ahead.Lo ∧ x.Ahead.Lo ≤ x.Ahead.Hi ∧ x.Ahead.Hi ≤ 10000
def PairOk (c : ClockM) (x o : SyncV) : Prop := x.Ahead.Lo - o.Ahead.Hi ≤ upD (c.Drift * (x.At - o.At)) 1000000 ∧ o.Ahead.Lo - x.Ahead.Hi ≤ upD (c.Drift * (x.At - o.At)) 1000000
structure ClockOk (c : ClockM) : Prop where
  drift : 0 ≤ c.Drift ∧ c.Drift ≤ 1000
  len : 1 ≤ c.Syncs.length ∧ c.Syncs.length ≤ 5
  sync : ∀ (i : Nat) x, c.Syncs[i]? = some x → SyncOk c i x
  pair : ∀ (i k : Nat) x o, c.Syncs[i]? = some x → k < i → c.Syncs[k]? = some o → PairOk c x o
noncomputable instance (c : ClockM) : Decidable (ClockOk c) := Classical.propDecidable _
theorem prevAt_zero {c : ClockM} {i : Nat} (h : i = 0) : prevAt c i = -1 := if_pos h
theorem prevAt_pos {c : ClockM} {i : Nat} {y : SyncV} (h : 0 < i) (hy : c.Syncs[i - 1]? = some y) : prevAt c i = y.At := by unfold prevAt; rw [if_neg (by omega), hy]; rfl
theorem prevAt_succ {c : ClockM} {i : Nat} {y : SyncV} (hy : c.Syncs[i]? = some y) : prevAt c (i + 1) = y.At := by unfold prevAt; rw [if_neg (by omega), Nat.add_sub_cancel, hy]; rfl
/-- the times of the syncs -/
theorem sync_at {c : ClockM} (h : ∀ (i : Nat) x, c.Syncs[i]? = some x → SyncOk c i x) : ∀ (i : Nat) x, c.Syncs[i]? = some x → 0 ≤ x.At ∧ ∀ (k : Nat) o, k < i → c.Syncs[k]? = some o → o.At < x.At := by
  intro i
  induction i with
  | zero =>
    intro x hx
    have := (h 0 x hx).1.1
    rw [prevAt_zero rfl] at this
    exact ⟨by omega, fun k o hk => by omega⟩
  | succ i ih =>
    intro x hx
    have hi := (List.getElem?_eq_some_iff.1 hx).1
    have hy : c.Syncs[i]? = some (c.Syncs[i]'(by omega)) := List.getElem?_eq_getElem (by omega)
    have h1 := ih _ hy
    have h2 := (h (i + 1) x hx).1.1
    rw [prevAt_succ hy] at h2
    refine ⟨by omega, fun k o hk ho => ?_⟩
    by_cases e : k = i
    · subst e; rw [hy] at ho; cases ho; exact h2
    · have := h1.2 k o (by omega) ho; omega
theorem ClockOk.sync_b {c : ClockM} (h : ClockOk c) {i : Nat} {x : SyncV} (hx : c.Syncs[i]? = some x) : (0 ≤ x.At ∧ x.At ≤ 86400000) ∧ -10000 ≤ x.Ahead.Lo ∧ x.Ahead.Lo ≤ x.Ahead.Hi ∧ x.Ahead.Hi ≤ 10000 := by
  have h1 := h.sync i x hx
  exact ⟨⟨(sync_at h.sync i x hx).1, h1.1.2⟩, h1.2⟩
theorem drift_b {d a b : Int} (hd : 0 ≤ d ∧ d ≤ 1000) (ha : 0 ≤ a ∧ a ≤ 90000000) (hb : 0 ≤ b ∧ b ≤ 90000000) : 0 ≤ d * max (a - b) (b - a) ∧ d * max (a - b) (b - a) ≤ 90000000000 := by
  have := mulb (a := d) (b := max (a - b) (b - a)) (A := 1000) (B := 90000000) hd.1 hd.2 (by omega) (by omega)
  omega
theorem offF_b {c : ClockM} {at_ : Int} {x : SyncV} (hd : 0 ≤ c.Drift ∧ c.Drift ≤ 1000) (ha : 0 ≤ at_ ∧ at_ ≤ 90000000) (hx : 0 ≤ x.At ∧ x.At ≤ 86400000) : 0 ≤ offF c at_ x ∧ offF c at_ x ≤ 90001 := by
  have h := drift_b hd ha (show 0 ≤ x.At ∧ x.At ≤ 90000000 by omega)
  unfold offF upD; omega
theorem aheadK_b {c : ClockM} {at_ : Int} (h : ClockOk c) (ha : 0 ≤ at_ ∧ at_ ≤ 90000000) : ∀ k : Nat, (-1099511627776 ≤ (aheadK c at_ k).Lo ∧ (aheadK c at_ k).Lo ≤ 10000) ∧ -10000 ≤ (aheadK c at_ k).Hi ∧ (aheadK c at_ k).Hi ≤ 1099511627776 := by
  intro k
  induction k with
  | zero => simp [aheadK]
  | succ k ih =>
    cases hx : c.Syncs[k]? with
    | none => unfold aheadK at ih ⊢; rw [List.take_add_one, hx]; simpa using ih
    | some x =>
      have hb := h.sync_b hx
      have ho := offF_b h.drift ha hb.1
      rw [aheadK_succ hx]
      unfold aheadStep
      simp only
      omega
theorem aheadF_b {c : ClockM} {at_ : Int} (h : ClockOk c) (ha : 0 ≤ at_ ∧ at_ ≤ 90000000) : (-110000 ≤ (aheadF c at_).Lo ∧ (aheadF c at_).Lo ≤ 10000) ∧ -10000 ≤ (aheadF c at_).Hi ∧ (aheadF c at_).Hi ≤ 110000 := by
  obtain ⟨n, hn⟩ : ∃ n, c.Syncs.length = n + 1 := ⟨c.Syncs.length - 1, by have := h.len; omega⟩
  have hx : c.Syncs[n]? = some (c.Syncs[n]'(by omega)) := List.getElem?_eq_getElem (by omega)
  have hb := h.sync_b hx
  have ho := offF_b h.drift ha hb.1
  have h1 := aheadK_b h ha n
  rw [← aheadK_all (k := n + 1) (by omega), aheadK_succ hx]
  unfold aheadStep
  simp only
  omega
/-- as time goes on, time and what a clock may be ahead, together, never go back -/
theorem ahead_mono {c : ClockM} (h : ClockOk c) {a b : Int} (ha : 0 ≤ a) (hab : a ≤ b) (hb : b ≤ 90000000) : ∀ k : Nat, (a + (aheadK c a k).Lo ≤ b + (aheadK c b k).Lo ∨ (aheadK c a k).Lo = -1099511627776) ∧ a + (aheadK c a k).Hi ≤ b + (aheadK c b k).Hi := by
  have step : ∀ (x : SyncV), 0 ≤ x.At ∧ x.At ≤ 86400000 → ∀ a b : Int, 0 ≤ a → a ≤ b → b ≤ 90000000 → offF c a x ≤ offF c b x + (b - a) ∧ offF c b x ≤ offF c a x + (b - a) := by
    intro x hx a b ha hab hb
    have hd := h.drift
    have e : ∀ u v : Int, u ≤ v + 1000000 * (b - a) → upD u 1000000 ≤ upD v 1000000 + (b - a) := by intro u v huv; unfold upD; omega
    have m : ∀ p q : Int, p ≤ q + (b - a) → c.Drift * p ≤ c.Drift * q + 1000000 * (b - a) := by
      intro p q hpq
      have h1 : c.Drift * p ≤ c.Drift * (q + (b - a)) := Int.mul_le_mul_of_nonneg_left hpq hd.1
      have h2 : c.Drift * (q + (b - a)) = c.Drift * q + c.Drift * (b - a) := Int.mul_add _ _ _
      have h3 : c.Drift * (b - a) ≤ 1000 * (b - a) := Int.mul_le_mul_of_nonneg_right hd.2 (by omega)
      omega
    exact ⟨e _ _ (m _ _ (by omega)), e _ _ (m _ _ (by omega))⟩
  intro k
  induction k with
  | zero => simp [aheadK]; omega
  | succ k ih =>
    cases hx : c.Syncs[k]? with
    | none =>
      have e : ∀ t, aheadK c t (k + 1) = aheadK c t k := fun t => by unfold aheadK; rw [List.take_add_one, hx]; simp
      rw [e, e]; exact ih
    | some x =>
      have hs := h.sync_b hx
      have := step x hs.1 a b ha hab hb
      have hoa := offF_b (at_ := a) h.drift ⟨ha, by omega⟩ hs.1
      rw [aheadK_succ hx, aheadK_succ hx]
      unfold aheadStep
      simp only
      omega
theorem aheadF_mono {c : ClockM} (h : ClockOk c) {a b : Int} (ha : 0 ≤ a) (hab : a ≤ b) (hb : b ≤ 90000000) : a + (aheadF c a).Lo ≤ b + (aheadF c b).Lo ∧ a + (aheadF c a).Hi ≤ b + (aheadF c b).Hi := by
  have h1 := ahead_mono h ha hab hb c.Syncs.length
  have h2 := aheadF_b h (at_ := a) ⟨ha, by omega⟩
  rw [aheadK_all (Nat.le_refl _), aheadK_all (Nat.le_refl _)] at h1
  omega
/-! ### lines -/
noncomputable def wayF (l : LineM) (i : Nat) : Int := match l.Beams[i]? with
  | some b => if i = 0 then (atF l.Track b.Spot).Lo else (match l.Beams[i - 1]? with
    | some a => (apartF l.Track a.Spot b.Spot).Lo
    | none => 0)
  | none => 0
theorem wayF_zero {l : LineM} {b : BeamV} (h : l.Beams[0]? = some b) : wayF l 0 = (atF l.Track b.Spot).Lo := by unfold wayF; rw [h]; rfl
theorem wayF_pos {l : LineM} {i : Nat} {a b : BeamV} (hi : 0 < i) (h : l.Beams[i]? = some b) (ha : l.Beams[i - 1]? = some a) : wayF l i = (apartF l.Track a.Spot b.Spot).Lo := by unfold wayF; rw [h, ha]; simp only; rw [if_neg (by omega)]
def BeamOk (l : LineM) (b : BeamV) : Prop := SpotOk l.Track b.Spot ∧ 0 ≤ b.Clock ∧ b.Clock < (l.Clocks.length : Int)
def HeadOk (l : LineM) : Prop := (1 ≤ l.Fast ∧ l.Fast ≤ 5000) ∧ (1 ≤ (l.Clocks.length : Int) ∧ (l.Clocks.length : Int) ≤ 4) ∧ (1 ≤ (l.Beams.length : Int) ∧ (l.Beams.length : Int) ≤ 6) ∧ (0 ≤ l.Finish ∧ l.Finish ≤ (l.Beams.length : Int) - 1) ∧ (0 ≤ l.Fakes ∧ l.Fakes ≤ 3) ∧ 0 ≤ l.Misses ∧ l.Misses ≤ 3
structure LineOk (l : LineM) : Prop where
  head : HeadOk l
  clock : ∀ c ∈ l.Clocks, ClockOk c
  beam : ∀ b ∈ l.Beams, BeamOk l b
  way : ∀ i, i < l.Beams.length → 1 ≤ wayF l i
noncomputable instance (l : LineM) : Decidable (LineOk l) := Classical.propDecidable _
noncomputable def lineE (l : LineM) : Int := if trackOk l.Track = true then (if LineOk l then 0 else 50) else 10
theorem lineE_bad {l : LineM} (h : trackOk l.Track = false) : lineE l = 10 := by unfold lineE; rw [h]; rfl
theorem lineE_no {l : LineM} (h : trackOk l.Track = true) (h2 : ¬ LineOk l) : lineE l = 50 := by unfold lineE; rw [if_pos h, if_neg h2]
theorem lineE_ok {l : LineM} (h : trackOk l.Track = true) (h2 : LineOk l) : lineE l = 0 := by unfold lineE; rw [if_pos h, if_pos h2]
theorem lineE_zero {l : LineM} (h : lineE l = 0) : trackOk l.Track = true ∧ LineOk l := by
  unfold lineE at h
  split at h
  · split at h
    · exact ⟨by assumption, by assumption⟩
    · omega
  · omega
theorem way_b {l : LineM} (ht : trackOk l.Track = true) (hb : ∀ b ∈ l.Beams, BeamOk l b) (i : Nat) : -400000 ≤ wayF l i ∧ wayF l i ≤ 400000 := by
  have hst := trackOk_all ht
  have hl := trackOk_le ht
  unfold wayF
  cases h : l.Beams[i]? with
  | none => simp
  | some b =>
    have h1 := (hb b (List.mem_of_getElem? h)).1
    simp only
    split
    · have := atF_b hst hl h1; omega
    · cases h2 : l.Beams[i - 1]? with
      | none => simp
      | some a =>
        have h3 := (hb a (List.mem_of_getElem? h2)).1
        have := apartF_b hst hl h3 h1
        simp only; omega
def clockOf (l : LineM) (s : SignalV) : ClockM := ((l.Beams[s.Beam.toNat]?).bind fun b => l.Clocks[b.Clock.toNat]?).getD ⟨0, []⟩
def whenLo (c : ClockM) (r t : Int) : Bool := decide (r ≤ t + (aheadF c t).Hi)
def whenHi (c : ClockM) (r t : Int) : Bool := decide (r < t + (aheadF c t).Lo)
noncomputable def whenC (c : ClockM) (r : Int) : SpanV := ⟨firstN (whenLo c r) 86400001, firstN (whenHi c r) 86400001 - 1⟩
noncomputable def whenF (l : LineM) (s : SignalV) : SpanV := whenC (clockOf l s) s.Read
noncomputable def leastF (l : LineM) (i : Nat) : Int := upD (1000 * wayF l i) l.Fast
end Go.Proofs.Ytaehngpnlkokkaa
