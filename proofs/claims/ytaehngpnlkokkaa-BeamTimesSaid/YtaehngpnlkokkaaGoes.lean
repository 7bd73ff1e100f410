/-
  Plain functions: whether a clock is valid.
-/
import Derived.Test.YtaehngpnlkokkaaLine
import Derived.Test.YtaehngpnlkokkaaWrap
import Derived.Test.YtaehngpnlkokkaaNest
namespace Go.Proofs.Ytaehngpnlkokkaa
set_option linter.unusedVariables false
def RoundOk (c : ClockM) (i : Nat) (x : SyncV) (k : Nat) : Prop := SyncOk c i x ∧ ∀ (j : Nat) o, j < k → c.Syncs[j]? = some o → PairOk c x o
def DoneOk (c : ClockM) (n : Nat) : Prop := ∀ (i : Nat) x, i < n → c.Syncs[i]? = some x → RoundOk c i x i
noncomputable instance (c : ClockM) (i : Nat) (x : SyncV) (k : Nat) : Decidable (RoundOk c i x k) := Classical.propDecidable _
instance (c : ClockM) (i : Nat) (x : SyncV) : Decidable (SyncOk c i x) := by unfold SyncOk; infer_instance
theorem round_zero {c : ClockM} {i : Nat} {x : SyncV} : RoundOk c i x 0 ↔ SyncOk c i x := ⟨fun h => h.1, fun h => ⟨h, fun j o hj => by omega⟩⟩
theorem round_succ {c : ClockM} {i k : Nat} {x o : SyncV} (h : c.Syncs[k]? = some o) : RoundOk c i x (k + 1) ↔ RoundOk c i x k ∧ PairOk c x o := by
  constructor
  · intro hr
    exact ⟨⟨hr.1, fun j o' hj ho => hr.2 j o' (by omega) ho⟩, hr.2 k o (by omega) h⟩
  · rintro ⟨hr, hp⟩
    refine ⟨hr.1, fun j o' hj ho => ?_⟩
    by_cases e : j = k
    · subst e; rw [h] at ho; cases ho; exact hp
    · exact hr.2 j o' (by omega) ho
theorem done_zero {c : ClockM} : DoneOk c 0 := fun i x hi => by omega
theorem done_succ {c : ClockM} {i : Nat} {x : SyncV} (h : DoneOk c i) (hx : c.Syncs[i]? = some x) (hr : RoundOk c i x i) : DoneOk c (i + 1) := fun j y hj hy => by
  by_cases e : j = i
  · subst e; rw [hx] at hy; cases hy; exact hr
  · exact h j y (by omega) hy
theorem clock_no {c : ClockM} {i : Nat} {x : SyncV} (hx : c.Syncs[i]? = some x) (h : ¬ RoundOk c i x i) : ¬ ClockOk c := fun hc => h ⟨hc.sync i x hx, fun j o hj ho => hc.pair i j x o hx hj ho⟩
theorem clock_yes {c : ClockM} (h1 : 0 ≤ c.Drift ∧ c.Drift ≤ 1000) (h2 : 1 ≤ c.Syncs.length ∧ c.Syncs.length ≤ 5) (h : DoneOk c c.Syncs.length) : ClockOk c :=
  ⟨h1, h2, fun i x hx => (h i x (List.getElem?_eq_some_iff.1 hx).1 hx).1, fun i k x o hx hk ho => (h i x (List.getElem?_eq_some_iff.1 hx).1 hx).2 k o hk ho⟩
/-- syncs so far -/
theorem sync_upto {c : ClockM} {n : Nat} (h : ∀ (i : Nat) x, i < n → c.Syncs[i]? = some x → SyncOk c i x) : ∀ (i : Nat) x, i < n → c.Syncs[i]? = some x → 0 ≤ x.At ∧ ∀ (k : Nat) o, k < i → c.Syncs[k]? = some o → o.At < x.At := by
  intro i
  induction i with
  | zero =>
    intro x hn hx
    have := (h 0 x hn hx).1.1
    rw [prevAt_zero rfl] at this
    exact ⟨by omega, fun k o hk => by omega⟩
  | succ i ih =>
    intro x hn hx
    have hi := (List.getElem?_eq_some_iff.1 hx).1
    have hy : c.Syncs[i]? = some (c.Syncs[i]'(by omega)) := List.getElem?_eq_getElem (by omega)
    have h1 := ih _ (by omega) hy
    have h2 := (h (i + 1) x hn hx).1.1
    rw [prevAt_succ hy] at h2
    refine ⟨by omega, fun k o hk ho => ?_⟩
    by_cases e : k = i
    · subst e; rw [hy] at ho; cases ho; exact h2
    · have := h1.2 k o (by omega) ho; omega
theorem prev_s {c : ClockM} {i : Nat} (hi : i ≤ c.Syncs.length) (h : ∀ (j : Nat) y, j < i → c.Syncs[j]? = some y → SyncOk c j y) : -1 ≤ prevAt c i ∧ prevAt c i ≤ 86400000 := by
  cases i with
  | zero => rw [prevAt_zero rfl]; omega
  | succ i =>
    have hy : c.Syncs[i]? = some (c.Syncs[i]'(by omega)) := List.getElem?_eq_getElem (by omega)
    have h1 := (sync_upto (n := i + 1) h i _ (by omega) hy).1
    have h2 := (h i _ (by omega) hy).1.2
    rw [prevAt_succ hy]; omega
theorem prev_b {c : ClockM} {i : Nat} (hi : i ≤ c.Syncs.length) (h : DoneOk c i) : -1 ≤ prevAt c i ∧ prevAt c i ≤ 86400000 := prev_s hi fun j y hj hy => (h j y hj hy).1
theorem sync_pair {c : ClockM} {i k : Nat} {x o : SyncV} (hs : ∀ (j : Nat) y, j < i → c.Syncs[j]? = some y → SyncOk c j y) (hx : c.Syncs[i]? = some x) (hok : SyncOk c i x) (hk : k < i) (ho : c.Syncs[k]? = some o) :
    (0 ≤ o.At ∧ o.At < x.At ∧ x.At ≤ 86400000) ∧ (-10000 ≤ x.Ahead.Lo ∧ x.Ahead.Lo ≤ x.Ahead.Hi ∧ x.Ahead.Hi ≤ 10000) ∧ -10000 ≤ o.Ahead.Lo ∧ o.Ahead.Lo ≤ o.Ahead.Hi ∧ o.Ahead.Hi ≤ 10000 := by
  have h : ∀ (j : Nat) y, j < i + 1 → c.Syncs[j]? = some y → SyncOk c j y := fun j y hj hy => by
    by_cases e : j = i
    · subst e; rw [hx] at hy; cases hy; exact hok
    · exact hs j y (by omega) hy
  have h1 := (sync_upto h i x (by omega) hx).2 k o hk ho
  have h2 := (sync_upto h k o (by omega) ho).1
  exact ⟨⟨h2, h1, hok.1.2⟩, hok.2, (h k o (by omega) ho).2⟩
theorem goes_up {d a b : Int} (hd : 0 ≤ d ∧ d ≤ 1000) (h : 0 ≤ b ∧ b < a ∧ a ≤ 86400000) : upG (w64 (d * w64 (a - b))) 1000000 = upD (d * (a - b)) 1000000 := by
  have h1 : 0 ≤ d * (a - b) ∧ d * (a - b) ≤ 90000000000 := by
    have := mulb (a := d) (b := a - b) (A := 1000) (B := 90000000) hd.1 hd.2 (by omega) (by omega)
    omega
  rw [w64_in (show In64 (a - b) from ⟨by omega, by omega⟩), w64_in (show In64 (d * (a - b)) from ⟨by omega, by omega⟩), upG_in h1.1 (by omega) (by omega)]
  rfl
/-- what is asked of a line, however wrong it is -/
structure LineIn (l : LineM) (as : List RA) : Prop where
  trk : l.Track.length ≤ 1000000
  side : ∀ x ∈ l.Track, 0 ≤ x.Side ∧ x.Side ≤ 255
  cks : l.Clocks.length ≤ 1000000
  as_ : as.length = l.Clocks.length
  bms : l.Beams.length ≤ 1000000
  syn : ∀ (k : Nat) m (a : RA), l.Clocks[k]? = some m → as[k]? = some a → m.Syncs.length ≤ a.2 ∧ m.Syncs.length ≤ 1000000
noncomputable instance (l : LineM) : Decidable (HeadOk l) := by unfold HeadOk; infer_instance
noncomputable instance (l : LineM) (b : BeamV) : Decidable (BeamOk l b) := Classical.propDecidable _
theorem line_head {l : LineM} (h : HeadOk l) (h2 : ∀ c ∈ l.Clocks, ClockOk c) (h3 : ∀ b ∈ l.Beams, BeamOk l b) (h4 : ∀ i, i < l.Beams.length → 1 ≤ wayF l i) : LineOk l := ⟨h, h2, h3, h4⟩
theorem clocks_any {l : LineM} : ((!(l.Clocks.any fun m => !decide (ClockOk m))) = true) ↔ ∀ c ∈ l.Clocks, ClockOk c := by simp
theorem beams_any {l : LineM} : ((!(l.Beams.any fun b => !decide (BeamOk l b))) = true) ↔ ∀ b ∈ l.Beams, BeamOk l b := by simp
/-! ### what is told of a line -/
noncomputable def clockAt (l : LineM) (ck : Int) : ClockM := (l.Clocks[ck.toNat]?).getD ⟨0, []⟩
noncomputable def aheadE (l : LineM) (ck at_ : Int) : Int := if lineE l = 0 then (if (0 ≤ ck ∧ ck ≤ (l.Clocks.length : Int) - 1) ∧ 0 ≤ at_ ∧ at_ ≤ 86400000 then 0 else 2) else lineE l
noncomputable def aheadV (l : LineM) (ck at_ : Int) : SpanV := if aheadE l ck at_ = 0 then aheadF (clockAt l ck) at_ else zeroZ
noncomputable def whenE (l : LineM) (s : SignalV) : Int := if lineE l = 0 then (if (0 ≤ s.Beam ∧ s.Beam ≤ (l.Beams.length : Int) - 1) ∧ 0 ≤ s.Read ∧ s.Read ≤ 86400000 then (if (whenF l s).Hi < (whenF l s).Lo then 6 else 0) else 2) else lineE l
noncomputable def whenV (l : LineM) (s : SignalV) : SpanV := if whenE l s = 0 then whenF l s else zeroZ
noncomputable def leastE (l : LineM) (i : Int) : Int := if lineE l = 0 then (if 0 ≤ i ∧ i ≤ (l.Beams.length : Int) - 1 then 0 else 2) else lineE l
noncomputable def leastV (l : LineM) (i : Int) : Int := if leastE l i = 0 then leastF l i.toNat else 0
theorem ahead_bad {l : LineM} {ck at_ : Int} (h : ¬ lineE l = 0) : aheadE l ck at_ = lineE l ∧ aheadV l ck at_ = zeroZ := by
  have e : aheadE l ck at_ = lineE l := if_neg h
  exact ⟨e, by unfold aheadV; rw [e, if_neg h]⟩
theorem ahead_out {l : LineM} {ck at_ : Int} (h : lineE l = 0) (h2 : ¬ ((0 ≤ ck ∧ ck ≤ (l.Clocks.length : Int) - 1) ∧ 0 ≤ at_ ∧ at_ ≤ 86400000)) : aheadE l ck at_ = 2 ∧ aheadV l ck at_ = zeroZ := by
  have e : aheadE l ck at_ = 2 := by unfold aheadE; rw [if_pos h, if_neg h2]
  exact ⟨e, by unfold aheadV; rw [e]; rfl⟩
theorem ahead_in {l : LineM} {ck at_ : Int} (h : lineE l = 0) (h2 : (0 ≤ ck ∧ ck ≤ (l.Clocks.length : Int) - 1) ∧ 0 ≤ at_ ∧ at_ ≤ 86400000) {c : ClockM} (hc : l.Clocks[ck.toNat]? = some c) : aheadE l ck at_ = 0 ∧ aheadV l ck at_ = aheadF c at_ := by
  have e : aheadE l ck at_ = 0 := by unfold aheadE; rw [if_pos h, if_pos h2]
  exact ⟨e, by unfold aheadV clockAt; rw [if_pos e, hc]; rfl⟩
theorem when_bad {l : LineM} {s : SignalV} (h : ¬ lineE l = 0) : whenE l s = lineE l ∧ whenV l s = zeroZ := by
  have e : whenE l s = lineE l := if_neg h
  exact ⟨e, by unfold whenV; rw [e, if_neg h]⟩
theorem when_out {l : LineM} {s : SignalV} (h : lineE l = 0) (h2 : ¬ ((0 ≤ s.Beam ∧ s.Beam ≤ (l.Beams.length : Int) - 1) ∧ 0 ≤ s.Read ∧ s.Read ≤ 86400000)) : whenE l s = 2 ∧ whenV l s = zeroZ := by
  have e : whenE l s = 2 := by unfold whenE; rw [if_pos h, if_neg h2]
  exact ⟨e, by unfold whenV; rw [e]; rfl⟩
theorem when_none {l : LineM} {s : SignalV} (h : lineE l = 0) (h2 : (0 ≤ s.Beam ∧ s.Beam ≤ (l.Beams.length : Int) - 1) ∧ 0 ≤ s.Read ∧ s.Read ≤ 86400000) (h3 : (whenF l s).Hi < (whenF l s).Lo) : whenE l s = 6 ∧ whenV l s = zeroZ := by
  have e : whenE l s = 6 := by unfold whenE; rw [if_pos h, if_pos h2, if_pos h3]
  exact ⟨e, by unfold whenV; rw [e]; rfl⟩
theorem when_in {l : LineM} {s : SignalV} (h : lineE l = 0) (h2 : (0 ≤ s.Beam ∧ s.Beam ≤ (l.Beams.length : Int) - 1) ∧ 0 ≤ s.Read ∧ s.Read ≤ 86400000) (h3 : ¬ (whenF l s).Hi < (whenF l s).Lo) : whenE l s = 0 ∧ whenV l s = whenF l s := by
  have e : whenE l s = 0 := by unfold whenE; rw [if_pos h, if_pos h2, if_neg h3]
  exact ⟨e, by unfold whenV; rw [if_pos e]⟩
theorem least_bad {l : LineM} {i : Int} (h : ¬ lineE l = 0) : leastE l i = lineE l ∧ leastV l i = 0 := by
  have e : leastE l i = lineE l := if_neg h
  exact ⟨e, by unfold leastV; rw [e, if_neg h]⟩
theorem least_out {l : LineM} {i : Int} (h : lineE l = 0) (h2 : ¬ (0 ≤ i ∧ i ≤ (l.Beams.length : Int) - 1)) : leastE l i = 2 ∧ leastV l i = 0 := by
  have e : leastE l i = 2 := by unfold leastE; rw [if_pos h, if_neg h2]
  exact ⟨e, by unfold leastV; rw [e]; rfl⟩
theorem least_in {l : LineM} {i : Int} (h : lineE l = 0) (h2 : 0 ≤ i ∧ i ≤ (l.Beams.length : Int) - 1) : leastE l i = 0 ∧ leastV l i = leastF l i.toNat := by
  have e : leastE l i = 0 := by unfold leastE; rw [if_pos h, if_pos h2]
  exact ⟨e, by unfold leastV; rw [if_pos e]⟩
/-! ### the times of a signal -/
theorem when_mono {c : ClockM} (h : ClockOk c) {r x : Int} (h0 : 0 ≤ x) (h1 : x < 86400001) :
    (x < firstN (whenLo c r) 86400001 → whenLo c r x = false) ∧ (firstN (whenLo c r) 86400001 ≤ x → whenLo c r x = true) ∧ (x < firstN (whenHi c r) 86400001 → whenHi c r x = false) ∧ (firstN (whenHi c r) 86400001 ≤ x → whenHi c r x = true) := by
  have up : ∀ (q : Int → Bool), (∀ a b, 0 ≤ a → a ≤ b → b < 86400001 → q a = true → q b = true) → firstN q 86400001 ≤ x → q x = true := fun q hq hx => by
    have hb := firstN_b (p := q) (n := 86400001)
    exact hq _ _ hb.1 hx h1 (firstN_at (by omega))
  refine ⟨firstN_no h0, up _ fun a b ha hab hb hq => ?_, firstN_no h0, up _ fun a b ha hab hb hq => ?_⟩
  · have := aheadF_mono h ha hab (by omega)
    simp only [whenLo, decide_eq_true_eq] at hq ⊢; omega
  · have := aheadF_mono h ha hab (by omega)
    simp only [whenHi, decide_eq_true_eq] at hq ⊢; omega
theorem clockOf_eq {l : LineM} {s : SignalV} {b : BeamV} {c : ClockM} (hb : l.Beams[s.Beam.toNat]? = some b) (hc : l.Clocks[b.Clock.toNat]? = some c) : clockOf l s = c := by
  unfold clockOf; rw [hb]; simp only [Option.bind_some]; rw [hc]; rfl
end Go.Proofs.Ytaehngpnlkokkaa
