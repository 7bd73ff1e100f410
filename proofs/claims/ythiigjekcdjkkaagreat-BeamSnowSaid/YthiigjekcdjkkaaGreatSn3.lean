/-
  The statement beamSnow_said, part 3 of 6: Goes, OpenW, Wheres, Follow, OpenM, LineR, WLe, Ends5, Can, False, Sim, MoreL, Snow, ExL, DrawB, Told, B1, V1, V3, B4, B2.
  Conditions: none.
-/
import Derived.Test.YthiigjekcdjkkaaGreatSn1
import Derived.Test.YthiigjekcdjkkaaGreatSn2
namespace Go.Proofs.YthiigjekcdjkkaaGreat
section
set_option linter.unusedVariables false
def RoundOk (c : ClockM) (i : Nat) (x : SyncV) (k : Nat) : Prop := SyncOk c i x ∧ ∀ (j : Nat) o, j < k → c.Syncs[j]? = some o → PairOk c x o
def DoneOk (c : ClockM) (n : Nat) : Prop := ∀ (i : Nat) x, i < n → c.Syncs[i]? = some x → RoundOk c i x i
noncomputable instance (c : ClockM) (i : Nat) (x : SyncV) (k : Nat) : Decidable (RoundOk c i x k) := Classical.propDecidable _
instance (c : ClockM) (i : Nat) (x : SyncV) : Decidable (SyncOk c i x) := by unfold SyncOk; infer_instance
theorem round_zero {c : ClockM} {i : Nat} {x : SyncV} : RoundOk c i x 0 ↔ SyncOk c i x := ⟨fun h => h.1, fun h => ⟨h, fun j o hj => by omega⟩⟩
theorem round_succ {c : ClockM} {i k : Nat} {x o : SyncV} (h : c.Syncs[k]? = some o) : RoundOk c i x (k + 1) ↔ RoundOk c i x k ∧ PairOk c x o := by
  constructor
  · intro hr
    exact ⟨⟨hr.1, fun j o' hj ho => hr.2 j o' (by omega) ho⟩, hr.2 k o (by omega) h⟩
  · rintro ⟨hr, hp⟩
    refine ⟨hr.1, fun j o' hj ho => ?_⟩
    by_cases e : j = k
    · subst e; rw [h] at ho; cases ho; exact hp
    · exact hr.2 j o' (by omega) ho
theorem done_zero {c : ClockM} : DoneOk c 0 := fun i x hi => by omega
theorem done_succ {c : ClockM} {i : Nat} {x : SyncV} (h : DoneOk c i) (hx : c.Syncs[i]? = some x) (hr : RoundOk c i x i) : DoneOk c (i + 1) := fun j y hj hy => by
  by_cases e : j = i
  · subst e; rw [hx] at hy; cases hy; exact hr
  · exact h j y (by omega) hy
theorem clock_no {c : ClockM} {i : Nat} {x : SyncV} (hx : c.Syncs[i]? = some x) (h : ¬ RoundOk c i x i) : ¬ ClockOk c := fun hc => h ⟨hc.sync i x hx, fun j o hj ho => hc.pair i j x o hx hj ho⟩
theorem clock_yes {c : ClockM} (h1 : 0 ≤ c.Drift ∧ c.Drift ≤ 1000) (h2 : 1 ≤ c.Syncs.length ∧ c.Syncs.length ≤ 5) (h : DoneOk c c.Syncs.length) : ClockOk c :=
  ⟨h1, h2, fun i x hx => (h i x (List.getElem?_eq_some_iff.1 hx).1 hx).1, fun i k x o hx hk ho => (h i x (List.getElem?_eq_some_iff.1 hx).1 hx).2 k o hk ho⟩
/-- syncs so far -/
theorem sync_upto {c : ClockM} {n : Nat} (h : ∀ (i : Nat) x, i < n → c.Syncs[i]? = some x → SyncOk c i x) : ∀ (i : Nat) x, i < n → c.Syncs[i]? = some x → 0 ≤ x.At ∧ ∀ (k : Nat) o, k < i → c.Syncs[k]? = some o → o.At < x.At := by
  intro i
  induction i with
  | zero =>
    intro x hn hx
    have := (h 0 x hn hx).1.1
    rw [prevAt_zero rfl] at this
    exact ⟨by omega, fun k o hk => by omega⟩
  | succ i ih =>
    intro x hn hx
    have hi := (List.getElem?_eq_some_iff.1 hx).1
    have hy : c.Syncs[i]? = some (c.Syncs[i]'(by omega)) := List.getElem?_eq_getElem (by omega)
    have h1 := ih _ (by omega) hy
    have h2 := (h (i + 1) x hn hx).1.1
    rw [prevAt_succ hy] at h2
    refine ⟨by omega, fun k o hk ho => ?_⟩
    by_cases e : k = i
    · subst e; rw [hy] at ho; cases ho; exact h2
    · have := h1.2 k o (by omega) ho; omega
theorem prev_s {c : ClockM} {i : Nat} (hi : i ≤ c.Syncs.length) (h : ∀ (j : Nat) y, j < i → c.Syncs[j]? = some y → SyncOk c j y) : -1 ≤ prevAt c i ∧ prevAt c i ≤ 86400000 := by
  cases i with
  | zero => rw [prevAt_zero rfl]; omega
  | succ i =>
    have hy : c.Syncs[i]? = some (c.Syncs[i]'(by omega)) := List.getElem?_eq_getElem (by omega)
    have h1 := (sync_upto (n := i + 1) h i _ (by omega) hy).1
    have h2 := (h i _ (by omega) hy).1.2
    rw [prevAt_succ hy]; omega
theorem prev_b {c : ClockM} {i : Nat} (hi : i ≤ c.Syncs.length) (h : DoneOk c i) : -1 ≤ prevAt c i ∧ prevAt c i ≤ 86400000 := prev_s hi fun j y hj hy => (h j y hj hy).1
theorem sync_pair {c : ClockM} {i k : Nat} {x o : SyncV} (hs : ∀ (j : Nat) y, j < i → c.Syncs[j]? = some y → SyncOk c j y) (hx : c.Syncs[i]? = some x) (hok : SyncOk c i x) (hk : k < i) (ho : c.Syncs[k]? = some o) :
    (0 ≤ o.At ∧ o.At < x.At ∧ x.At ≤ 86400000) ∧ (-10000 ≤ x.Ahead.Lo ∧ x.Ahead.Lo ≤ x.Ahead.Hi ∧ x.Ahead.Hi ≤ 10000) ∧ -10000 ≤ o.Ahead.Lo ∧ o.Ahead.Lo ≤ o.Ahead.Hi ∧ o.Ahead.Hi ≤ 10000 := by
  have h : ∀ (j : Nat) y, j < i + 1 → c.Syncs[j]? = some y → SyncOk c j y := fun j y hj hy => by
    by_cases e : j = i
    · subst e; rw [hx] at hy; cases hy; exact hok
    · exact hs j y (by omega) hy
  have h1 := (sync_upto h i x (by omega) hx).2 k o hk ho
  have h2 := (sync_upto h k o (by omega) ho).1
  exact ⟨⟨h2, h1, hok.1.2⟩, hok.2, (h k o (by omega) ho).2⟩
theorem goes_up {d a b : Int} (hd : 0 ≤ d ∧ d ≤ 1000) (h : 0 ≤ b ∧ b < a ∧ a ≤ 86400000) : upG (w64 (d * w64 (a - b))) 1000000 = upD (d * (a - b)) 1000000 := by
  have h1 : 0 ≤ d * (a - b) ∧ d * (a - b) ≤ 90000000000 := by
    have := mulb (a := d) (b := a - b) (A := 1000) (B := 90000000) hd.1 hd.2 (by omega) (by omega)
    omega
  rw [w64_in (show In64 (a - b) from ⟨by omega, by omega⟩), w64_in (show In64 (d * (a - b)) from ⟨by omega, by omega⟩), upG_in h1.1 (by omega) (by omega)]
  rfl
/-- what is asked of a line, however wrong it is -/
structure LineIn (l : LineM) (asl : List RA) : Prop where
  trk : l.Track.length ≤ 1000000
  side : ∀ x ∈ l.Track, 0 ≤ x.Side ∧ x.Side ≤ 255
  cks : l.Clocks.length ≤ 1000000
  as_ : asl.length = l.Clocks.length
  bms : l.Beams.length ≤ 1000000
  syn : ∀ (k : Nat) m (a : RA), l.Clocks[k]? = some m → asl[k]? = some a → m.Syncs.length ≤ a.2 ∧ m.Syncs.length ≤ 1000000
noncomputable instance (l : LineM) : Decidable (HeadOk l) := by unfold HeadOk; infer_instance
noncomputable instance (l : LineM) (b : BeamV) : Decidable (BeamOk l b) := Classical.propDecidable _
theorem line_head {l : LineM} (h : HeadOk l) (h2 : ∀ c ∈ l.Clocks, ClockOk c) (h3 : ∀ b ∈ l.Beams, BeamOk l b) (h4 : ∀ i, i < l.Beams.length → 1 ≤ wayF l i) : LineOk l := ⟨h, h2, h3, h4⟩
theorem clocks_any {l : LineM} : ((!(l.Clocks.any fun m => !decide (ClockOk m))) = true) ↔ ∀ c ∈ l.Clocks, ClockOk c := by simp
theorem beams_any {l : LineM} : ((!(l.Beams.any fun b => !decide (BeamOk l b))) = true) ↔ ∀ b ∈ l.Beams, BeamOk l b := by simp
noncomputable def clockAt (l : LineM) (ck : Int) : ClockM := (l.Clocks[ck.toNat]?).getD ⟨0, []⟩
noncomputable def aheadE (l : LineM) (ck at_ : Int) : Int := if lineE l = 0 then (if (0 ≤ ck ∧ ck ≤ (l.Clocks.length : Int) - 1) ∧ 0 ≤ at_ ∧ at_ ≤ 86400000 then 0 else 2) else lineE l
noncomputable def aheadV (l : LineM) (ck at_ : Int) : SpanV := if aheadE l ck at_ = 0 then aheadF (clockAt l ck) at_ else zeroZ
noncomputable def whenE (l : LineM) (s : SignalV) : Int := if lineE l = 0 then (if (0 ≤ s.Beam ∧ s.Beam ≤ (l.Beams.length : Int) - 1) ∧ 0 ≤ s.Read ∧ s.Read ≤ 86400000 then (if (whenF l s).Hi < (whenF l s).Lo then 6 else 0) else 2) else lineE l
noncomputable def whenV (l : LineM) (s : SignalV) : SpanV := if whenE l s = 0 then whenF l s else zeroZ
theorem ahead_bad {l : LineM} {ck at_ : Int} (h : ¬ lineE l = 0) : aheadE l ck at_ = lineE l ∧ aheadV l ck at_ = zeroZ := by
  have e : aheadE l ck at_ = lineE l := if_neg h
  exact ⟨e, by unfold aheadV; rw [e, if_neg h]⟩
theorem ahead_out {l : LineM} {ck at_ : Int} (h : lineE l = 0) (h2 : ¬ ((0 ≤ ck ∧ ck ≤ (l.Clocks.length : Int) - 1) ∧ 0 ≤ at_ ∧ at_ ≤ 86400000)) : aheadE l ck at_ = 2 ∧ aheadV l ck at_ = zeroZ := by
  have e : aheadE l ck at_ = 2 := by unfold aheadE; rw [if_pos h, if_neg h2]
  exact ⟨e, by unfold aheadV; rw [e]; rfl⟩
theorem ahead_in {l : LineM} {ck at_ : Int} (h : lineE l = 0) (h2 : (0 ≤ ck ∧ ck ≤ (l.Clocks.length : Int) - 1) ∧ 0 ≤ at_ ∧ at_ ≤ 86400000) {c : ClockM} (hc : l.Clocks[ck.toNat]? = some c) : aheadE l ck at_ = 0 ∧ aheadV l ck at_ = aheadF c at_ := by
  have e : aheadE l ck at_ = 0 := by unfold aheadE; rw [if_pos h, if_pos h2]
  exact ⟨e, by unfold aheadV clockAt; rw [if_pos e, hc]; rfl⟩
theorem when_bad {l : LineM} {s : SignalV} (h : ¬ lineE l = 0) : whenE l s = lineE l ∧ whenV l s = zeroZ := by
  have e : whenE l s = lineE l := if_neg h
  exact ⟨e, by unfold whenV; rw [e, if_neg h]⟩
theorem when_out {l : LineM} {s : SignalV} (h : lineE l = 0) (h2 : ¬ ((0 ≤ s.Beam ∧ s.Beam ≤ (l.Beams.length : Int) - 1) ∧ 0 ≤ s.Read ∧ s.Read ≤ 86400000)) : whenE l s = 2 ∧ whenV l s = zeroZ := by
  have e : whenE l s = 2 := by unfold whenE; rw [if_pos h, if_neg h2]
  exact ⟨e, by unfold whenV; rw [e]; rfl⟩
theorem when_none {l : LineM} {s : SignalV} (h : lineE l = 0) (h2 : (0 ≤ s.Beam ∧ s.Beam ≤ (l.Beams.length : Int) - 1) ∧ 0 ≤ s.Read ∧ s.Read ≤ 86400000) (h3 : (whenF l s).Hi < (whenF l s).Lo) : whenE l s = 6 ∧ whenV l s = zeroZ := by
  have e : whenE l s = 6 := by unfold whenE; rw [if_pos h, if_pos h2, if_pos h3]
  exact ⟨e, by unfold whenV; rw [e]; rfl⟩
theorem when_in {l : LineM} {s : SignalV} (h : lineE l = 0) (h2 : (0 ≤ s.Beam ∧ s.Beam ≤ (l.Beams.length : Int) - 1) ∧ 0 ≤ s.Read ∧ s.Read ≤ 86400000) (h3 : ¬ (whenF l s).Hi < (whenF l s).Lo) : whenE l s = 0 ∧ whenV l s = whenF l s := by
  have e : whenE l s = 0 := by unfold whenE; rw [if_pos h, if_pos h2, if_neg h3]
  exact ⟨e, by unfold whenV; rw [if_pos e]⟩
theorem when_mono {c : ClockM} (h : ClockOk c) {r x : Int} (h0 : 0 ≤ x) (h1 : x < 86400001) :
    (x < firstN (whenLo c r) 86400001 → whenLo c r x = false) ∧ (firstN (whenLo c r) 86400001 ≤ x → whenLo c r x = true) ∧ (x < firstN (whenHi c r) 86400001 → whenHi c r x = false) ∧ (firstN (whenHi c r) 86400001 ≤ x → whenHi c r x = true) := by
  have up : ∀ (q : Int → Bool), (∀ a b, 0 ≤ a → a ≤ b → b < 86400001 → q a = true → q b = true) → firstN q 86400001 ≤ x → q x = true := fun q hq hx => by
    have hb := firstN_b (p := q) (n := 86400001)
    exact hq _ _ hb.1 hx h1 (firstN_at (by omega))
  refine ⟨firstN_no h0, up _ fun a b ha hab hb hq => ?_, firstN_no h0, up _ fun a b ha hab hb hq => ?_⟩
  · have := aheadF_mono h ha hab (by omega)
    simp only [whenLo, decide_eq_true_eq] at hq ⊢; omega
  · have := aheadF_mono h ha hab (by omega)
    simp only [whenHi, decide_eq_true_eq] at hq ⊢; omega
theorem clockOf_eq {l : LineM} {s : SignalV} {b : BeamV} {c : ClockM} (hb : l.Beams[s.Beam.toNat]? = some b) (hc : l.Clocks[b.Clock.toNat]? = some c) : clockOf l s = c := by
  unfold clockOf; rw [hb]; simp only [Option.bind_some]; rw [hc]; rfl
end
section
set_option linter.unusedVariables false
def prevS (sg : List SignalV) (i : Nat) : SignalV := if i = 0 then ⟨-1, 0⟩ else (sg[i - 1]?).getD ⟨-1, 0⟩
theorem prevS_succ {sg : List SignalV} {i : Nat} {s : SignalV} (h : sg[i]? = some s) : prevS sg (i + 1) = s := by unfold prevS; rw [if_neg (by omega), Nat.add_sub_cancel, h]; rfl
def SigIn (l : LineM) (s : SignalV) : Prop := (0 ≤ s.Beam ∧ s.Beam ≤ (l.Beams.length : Int) - 1) ∧ 0 ≤ s.Read ∧ s.Read ≤ 86400000
def SigOk (l : LineM) (sg : List SignalV) (i : Nat) (s : SignalV) : Prop := SigIn l s ∧ ¬ s.Beam < (prevS sg i).Beam ∧ ¬ (s.Beam = (prevS sg i).Beam ∧ s.Read ≤ (prevS sg i).Read)
def SigsTo (l : LineM) (sg : List SignalV) (i : Nat) : Prop := ∀ (j : Nat) s, j < i → sg[j]? = some s → SigOk l sg j s
structure RideOk (l : LineM) (r : RideM) : Prop where
  time : 0 ≤ r.Start ∧ r.Start ≤ r.Now ∧ r.Now ≤ 86400000
  len : r.Signals.length ≤ 10
  sig : ∀ (i : Nat) s, r.Signals[i]? = some s → SigOk l r.Signals i s
noncomputable instance (l : LineM) (r : RideM) : Decidable (RideOk l r) := Classical.propDecidable _
theorem sigs_zero {l : LineM} {sg : List SignalV} : SigsTo l sg 0 := fun j s hj => absurd hj (Nat.not_lt_zero _)
theorem sigs_succ {l : LineM} {sg : List SignalV} {i : Nat} {s : SignalV} (h : SigsTo l sg i) (hs : sg[i]? = some s) (ho : SigOk l sg i s) : SigsTo l sg (i + 1) := fun j z hj hz => by
  rcases Nat.lt_or_ge j i with q | q
  · exact h j z q hz
  · obtain rfl : j = i := by omega
    rw [hs] at hz; cases hz; exact ho
theorem ride_all {l : LineM} {r : RideM} {i : Nat} (h1 : 0 ≤ r.Start ∧ r.Start ≤ r.Now ∧ r.Now ≤ 86400000) (h2 : r.Signals.length ≤ 10) (h : SigsTo l r.Signals i) (hi : r.Signals.length ≤ i) : RideOk l r :=
  ⟨h1, h2, fun j s hs => h j s (by have := (List.getElem?_eq_some_iff.1 hs).1; omega) hs⟩
noncomputable def timeO (l : LineM) (sg : List SignalV) (b k : Nat) : Option (Int × SpanV) := (sg[k]?).bind fun s => if s.Beam = (b : Int) ∧ (whenF l s).Lo ≤ (whenF l s).Hi then some ((k : Int), whenF l s) else none
noncomputable def timesB (l : LineM) (sg : List SignalV) (i b : Nat) : TM := (List.range i).filterMap (timeO l sg b)
noncomputable def timesT (l : LineM) (sg : List SignalV) (i : Nat) : List TM := (List.range l.Beams.length).map (timesB l sg i)
noncomputable def leasts (l : LineM) (n : Nat) : List Int := (List.range n).map (leastF l)
theorem leasts_succ {l : LineM} {n : Nat} : leasts l (n + 1) = leasts l n ++ [leastF l n] := by simp [leasts, List.range_succ]
theorem leasts_len {l : LineM} {n : Nat} : (leasts l n).length = n := by simp [leasts]
theorem timesT_len {l : LineM} {sg : List SignalV} {i : Nat} : (timesT l sg i).length = l.Beams.length := by simp [timesT]
theorem timesT_at {l : LineM} {sg : List SignalV} {i b : Nat} (h : b < l.Beams.length) : (timesT l sg i)[b]? = some (timesB l sg i b) := by simp [timesT, h]
theorem timeO_some {l : LineM} {sg : List SignalV} {b k : Nat} {q : Int × SpanV} : timeO l sg b k = some q ↔ ∃ s, sg[k]? = some s ∧ (s.Beam = (b : Int) ∧ (whenF l s).Lo ≤ (whenF l s).Hi) ∧ q = ((k : Int), whenF l s) := by
  unfold timeO
  cases h : sg[k]? with
  | none => simp
  | some s =>
    simp only [Option.bind_some, Option.some.injEq]
    by_cases e : s.Beam = (b : Int) ∧ (whenF l s).Lo ≤ (whenF l s).Hi
    · rw [if_pos e]
      constructor
      · intro h; cases h; exact ⟨s, rfl, e, rfl⟩
      · rintro ⟨s', rfl, _, rfl⟩; rfl
    · rw [if_neg e]
      constructor
      · intro h; cases h
      · rintro ⟨s', rfl, e', _⟩; exact absurd e' e
theorem mem_timesB {l : LineM} {sg : List SignalV} {i b : Nat} {q : Int × SpanV} : q ∈ timesB l sg i b ↔ ∃ k, k < i ∧ ∃ s, sg[k]? = some s ∧ (s.Beam = (b : Int) ∧ (whenF l s).Lo ≤ (whenF l s).Hi) ∧ q = ((k : Int), whenF l s) := by
  unfold timesB
  simp only [List.mem_filterMap, List.mem_range, timeO_some]
theorem timesB_succ {l : LineM} {sg : List SignalV} {i b : Nat} : timesB l sg (i + 1) b = timesB l sg i b ++ (timeO l sg b i).toList := by
  unfold timesB
  rw [List.range_succ, List.filterMap_append]
  congr 1
theorem times_zero {l : LineM} {sg : List SignalV} : timesT l sg 0 = List.replicate l.Beams.length [] := by
  unfold timesT
  rw [List.eq_replicate_iff]
  refine ⟨by simp, fun t ht => ?_⟩
  obtain ⟨b, _, rfl⟩ := List.mem_map.1 ht
  rfl
theorem times_skip {l : LineM} {sg : List SignalV} {i : Nat} {s : SignalV} (hs : sg[i]? = some s) (h : ¬ (whenF l s).Lo ≤ (whenF l s).Hi) : timesT l sg (i + 1) = timesT l sg i := by
  unfold timesT
  apply List.map_congr_left
  intro b _
  rw [timesB_succ]
  have : timeO l sg b i = none := by
    cases e : timeO l sg b i with
    | none => rfl
    | some q => obtain ⟨s', h1, ⟨_, h2⟩, _⟩ := timeO_some.1 e; rw [hs] at h1; cases h1; exact absurd h2 h
  rw [this]; simp
theorem times_put {l : LineM} {sg : List SignalV} {i : Nat} {s : SignalV} (hs : sg[i]? = some s) (hb : 0 ≤ s.Beam ∧ s.Beam ≤ (l.Beams.length : Int) - 1) (h : (whenF l s).Lo ≤ (whenF l s).Hi) {x : TM} (hx : (timesT l sg i)[s.Beam.toNat]? = some x) :
    (timesT l sg i).set s.Beam.toNat (gsetK x (i : Int) (whenF l s)) = timesT l sg (i + 1) := by
  have hbl : s.Beam.toNat < l.Beams.length := by omega
  rw [timesT_at hbl] at hx
  cases hx
  have hnew : gsetK (timesB l sg i s.Beam.toNat) (i : Int) (whenF l s) = timesB l sg (i + 1) s.Beam.toNat := by
    have hn : (timesB l sg i s.Beam.toNat).lookup (i : Int) = none := glookup_none.2 fun p hp e => by
      obtain ⟨k, hk, _, _, _, rfl⟩ := mem_timesB.1 hp
      simp only at e; omega
    have ho : timeO l sg s.Beam.toNat i = some ((i : Int), whenF l s) := timeO_some.2 ⟨s, hs, ⟨by omega, h⟩, rfl⟩
    rw [timesB_succ, ho]
    unfold gsetK; rw [hn]; rfl
  rw [hnew]
  apply List.ext_getElem?
  intro b
  rw [List.getElem?_set]
  by_cases e : s.Beam.toNat = b
  · rw [if_pos e, timesT_len, ← e, if_pos hbl, timesT_at hbl]
  · rw [if_neg e]
    by_cases hb' : b < l.Beams.length
    · rw [timesT_at hb', timesT_at hb', timesB_succ]
      have : timeO l sg b i = none := by
        cases e2 : timeO l sg b i with
        | none => rfl
        | some q => obtain ⟨s', h1, ⟨h2, _⟩, _⟩ := timeO_some.1 e2; rw [hs] at h1; cases h1; exact absurd (by omega) e
      rw [this]; simp
    · rw [List.getElem?_eq_none (by rw [timesT_len]; omega), List.getElem?_eq_none (by rw [timesT_len]; omega)]
noncomputable def watchL (l : LineM) (r : RideM) : WatchM := ⟨r.Start, r.Now, leasts l l.Beams.length, timesT l r.Signals r.Signals.length, l.Misses, l.Fakes, (r.Signals.length : Int)⟩
theorem leastF_b {l : LineM} (ht : trackOk l.Track = true) (h : LineOk l) {i : Nat} (hi : i < l.Beams.length) : 1 ≤ leastF l i ∧ leastF l i ≤ 500000000 := by
  have h1 := way_b ht h.beam i
  have h2 := h.way i hi
  have h3 := h.head.1
  unfold leastF upD
  refine ⟨(Int.le_ediv_iff_mul_le (by omega)).2 (by omega), ?_⟩
  have : (1000 * wayF l i + l.Fast - 1) / l.Fast ≤ 1000 * wayF l i + l.Fast - 1 := Int.ediv_le_self _ (by omega)
  omega
theorem whenF_b (l : LineM) (s : SignalV) : 0 ≤ (whenF l s).Lo ∧ (whenF l s).Hi ≤ 86400000 := by
  have h1 := firstN_b (p := whenLo (clockOf l s) s.Read) (n := 86400001)
  have h2 := firstN_b (p := whenHi (clockOf l s) s.Read) (n := 86400001)
  unfold whenF whenC
  simp only
  omega
theorem watch_ok {l : LineM} {r : RideM} (ht : trackOk l.Track = true) (h : LineOk l) (hr : RideOk l r) : WOk (watchL l r) := by
  have hh := h.head
  unfold HeadOk at hh
  refine ⟨?_, by simp [watchL, timesT_len, WatchM.n, leasts_len], hr.time, fun x hx => ?_, fun t htm p hp => ?_⟩
  · show (leasts l l.Beams.length).length ≤ 6
    rw [leasts_len]; omega
  · obtain ⟨i, hi, rfl⟩ := List.mem_map.1 hx
    exact leastF_b ht h (List.mem_range.1 hi)
  · obtain ⟨b, hb, rfl⟩ := List.mem_map.1 htm
    obtain ⟨k, hk, s, hs, ⟨_, h2⟩, rfl⟩ := mem_timesB.1 hp
    have h3 := whenF_b l s
    have h4 := hr.len
    simp only
    omega
noncomputable def openE (l : LineM) (r : RideM) (me : Int) : Int := if lineE l = 0 then (if RideOk l r then (if me = 0 then (if numsF (watchL l r) = [] then 8 else 0) else me) else 51) else lineE l
theorem open_line_e {l : LineM} {r : RideM} {me : Int} (h : ¬ lineE l = 0) : openE l r me = lineE l := if_neg h
theorem open_ride_e {l : LineM} {r : RideM} {me : Int} (h : lineE l = 0) (h2 : ¬ RideOk l r) : openE l r me = 51 := by unfold openE; rw [if_pos h, if_neg h2]
theorem open_more_e {l : LineM} {r : RideM} {me : Int} (h : lineE l = 0) (h2 : RideOk l r) (h3 : ¬ me = 0) : openE l r me = me := by unfold openE; rw [if_pos h, if_pos h2, if_neg h3]
theorem open_bad_e {l : LineM} {r : RideM} {me : Int} (h : lineE l = 0) (h2 : RideOk l r) (h3 : me = 0) (h4 : numsF (watchL l r) = []) : openE l r me = 8 := by unfold openE; rw [if_pos h, if_pos h2, if_pos h3, if_pos h4]
theorem open_ok_e {l : LineM} {r : RideM} {me : Int} (h : lineE l = 0) (h2 : RideOk l r) (h3 : me = 0) (h4 : ¬ numsF (watchL l r) = []) : openE l r me = 0 := by unfold openE; rw [if_pos h, if_pos h2, if_pos h3, if_neg h4]
theorem openE_zero {l : LineM} {r : RideM} {me : Int} (h : openE l r me = 0) : lineE l = 0 ∧ RideOk l r ∧ me = 0 ∧ ¬ numsF (watchL l r) = [] := by
  unfold openE at h
  split at h
  · split at h
    · split at h
      · split at h
        · omega
        · exact ⟨by assumption, by assumption, by assumption, by assumption⟩
      · omega
    · omega
  · omega
end
section
set_option linter.unusedVariables false
def minL (l : List Int) : Int := (l.drop 1).foldl min (l.headD 0)
def maxL (l : List Int) : Int := (l.drop 1).foldl max (l.headD 0)
theorem take_min {l : List Int} {i : Nat} {x : Int} (h : l[i]? = some x) (hi : 1 ≤ i) : minL (l.take (i + 1)) = min (minL (l.take i)) x := by
  have e : l.take (i + 1) = l.take i ++ [x] := by rw [List.take_add_one, h]; rfl
  have hl : 1 ≤ (l.take i).length := by have := (List.getElem?_eq_some_iff.1 h).1; rw [List.length_take]; omega
  rw [e]
  cases ht : l.take i with
  | nil => rw [ht] at hl; simp at hl
  | cons y ys => simp [minL, List.foldl_append]
theorem take_max {l : List Int} {i : Nat} {x : Int} (h : l[i]? = some x) (hi : 1 ≤ i) : maxL (l.take (i + 1)) = max (maxL (l.take i)) x := by
  have e : l.take (i + 1) = l.take i ++ [x] := by rw [List.take_add_one, h]; rfl
  have hl : 1 ≤ (l.take i).length := by have := (List.getElem?_eq_some_iff.1 h).1; rw [List.length_take]; omega
  rw [e]
  cases ht : l.take i with
  | nil => rw [ht] at hl; simp at hl
  | cons y ys => simp [maxL, List.foldl_append]
theorem take_min1 {l : List Int} {x : Int} (h : l[0]? = some x) : minL (l.take 1) = x := by
  cases l with
  | nil => simp at h
  | cons y ys => simp at h; subst h; simp [minL]
theorem take_max1 {l : List Int} {x : Int} (h : l[0]? = some x) : maxL (l.take 1) = x := by
  cases l with
  | nil => simp at h
  | cons y ys => simp at h; subst h; simp [maxL]
theorem fold_min : ∀ (l : List Int) (a : Int), (l.foldl min a = a ∨ l.foldl min a ∈ l) ∧ l.foldl min a ≤ a ∧ ∀ x ∈ l, l.foldl min a ≤ x
  | [], a => ⟨.inl rfl, by simp, by simp⟩
  | y :: l, a => by
    obtain ⟨h1, h2, h3⟩ := fold_min l (min a y)
    simp only [List.foldl_cons]
    refine ⟨?_, by omega, ?_⟩
    · rcases h1 with h1 | h1
      · rw [h1]
        rcases Int.le_total a y with q | q
        · left; omega
        · right; rw [show min a y = y by omega]; simp
      · right; exact List.mem_cons_of_mem _ h1
    · intro x hx
      rcases List.mem_cons.1 hx with rfl | hx
      · omega
      · exact h3 x hx
theorem min_mem {l : List Int} (h : l ≠ []) : minL l ∈ l ∧ ∀ x ∈ l, minL l ≤ x := by
  cases l with
  | nil => exact absurd rfl h
  | cons y ys =>
    obtain ⟨h1, h2, h3⟩ := fold_min ys y
    refine ⟨?_, fun x hx => ?_⟩
    · rcases h1 with h1 | h1
      · simp [minL, h1]
      · exact List.mem_cons_of_mem _ (by simpa [minL] using h1)
    · rcases List.mem_cons.1 hx with rfl | hx
      · simpa [minL] using h2
      · simpa [minL] using h3 x hx
noncomputable def whereV (l : LineM) (r : RideM) : List Int := if openE l r 0 = 0 then numsF (watchL l r) else []
theorem whereV_ok {l : LineM} {r : RideM} (h : openE l r 0 = 0) : whereV l r = numsF (watchL l r) := if_pos h
theorem whereV_no {l : LineM} {r : RideM} (h : ¬ openE l r 0 = 0) : whereV l r = [] := if_neg h
theorem whereV_ne {l : LineM} {r : RideM} (h : openE l r 0 = 0) : whereV l r ≠ [] := by rw [whereV_ok h]; exact (openE_zero h).2.2.2
theorem whereV_pos {l : LineM} {r : RideM} (h : openE l r 0 = 0) : 1 ≤ (whereV l r).length := List.length_pos_iff.2 (whereV_ne h)
theorem whereV_len {l : LineM} {r : RideM} : (whereV l r).length ≤ 100 := by
  unfold whereV
  split
  · rename_i h
    obtain ⟨h1, h2, _⟩ := openE_zero h
    obtain ⟨ht, ho⟩ := lineE_zero h1
    have := (watch_ok ht ho h2).n
    have h3 := numsTo_len (w := watchL l r) (k := (watchL l r).n + 1)
    unfold numsF; omega
  · simp
noncomputable def clearV (l : LineM) (r : RideM) : Int := if openE l r 0 = 0 then (if l.Finish < minL (whereV l r) then 2 else if maxL (whereV l r) ≤ l.Finish then 0 else 1) else 0
noncomputable def beamE (l : LineM) (b : Int) : Int := if 0 ≤ b ∧ b ≤ (l.Beams.length : Int) - 1 then 0 else 2
theorem beamE_ok {l : LineM} {b : Int} (h : 0 ≤ b ∧ b ≤ (l.Beams.length : Int) - 1) : beamE l b = 0 := if_pos h
theorem beamE_zero {l : LineM} {b : Int} (h : beamE l b = 0) : 0 ≤ b ∧ b ≤ (l.Beams.length : Int) - 1 := by
  unfold beamE at h
  split at h
  · assumption
  · omega
noncomputable def hullW (l : LineM) (r : RideM) (b : Nat) : SpanV := hullF (passW (watchL l r) b)
noncomputable def passedE (l : LineM) (r : RideM) (b : Int) : Int := if openE l r (beamE l b) = 0 then (if hullW l r b.toNat = noneZ then 6 else 0) else openE l r (beamE l b)
noncomputable def passedV (l : LineM) (r : RideM) (b : Int) : SpanV := if passedE l r b = 0 then hullW l r b.toNat else zeroZ
theorem passed_bad {l : LineM} {r : RideM} {b : Int} (h : ¬ openE l r (beamE l b) = 0) : passedE l r b = openE l r (beamE l b) ∧ passedV l r b = zeroZ := by
  have e : passedE l r b = openE l r (beamE l b) := if_neg h
  exact ⟨e, by unfold passedV; rw [if_neg (by rw [e]; exact h)]⟩
theorem passed_none {l : LineM} {r : RideM} {b : Nat} (h : openE l r (beamE l b) = 0) (h2 : hullW l r b = noneZ) : passedE l r b = 6 ∧ passedV l r b = zeroZ := by
  have e : passedE l r b = 6 := by unfold passedE; rw [if_pos h, Int.toNat_natCast, if_pos h2]
  exact ⟨e, by unfold passedV; rw [if_neg (by rw [e]; omega)]⟩
theorem passed_some {l : LineM} {r : RideM} {b : Nat} (h : openE l r (beamE l b) = 0) (h2 : ¬ hullW l r b = noneZ) : passedE l r b = 0 ∧ passedV l r b = hullW l r b := by
  have e : passedE l r b = 0 := by unfold passedE; rw [if_pos h, Int.toNat_natCast, if_neg h2]
  exact ⟨e, by unfold passedV; rw [if_pos e, Int.toNat_natCast]⟩
theorem pass_b {w : WatchM} (h : WOk w) {b : Nat} {q : Int × SpanV} (hq : q ∈ passW w b) : 0 ≤ q.2.Lo ∧ q.2.Lo ≤ q.2.Hi ∧ q.2.Hi ≤ 86400000 := by
  have h1 := pass_le hq
  obtain ⟨o, ho, p, hp, u, hu, e⟩ := mem_passM.1 hq
  obtain ⟨_, _, rfl⟩ := passO_some.1 e
  have h2 := h.opt ho
  simp only [passX] at h1 ⊢
  omega
theorem passed_b {l : LineM} {r : RideM} {b : Int} (h : passedE l r b = 0) : 0 ≤ (passedV l r b).Lo ∧ (passedV l r b).Lo ≤ (passedV l r b).Hi ∧ (passedV l r b).Hi ≤ 86400000 := by
  have ho : openE l r (beamE l b) = 0 := by
    by_cases e : openE l r (beamE l b) = 0
    · exact e
    · rw [(passed_bad e).1] at h; exact absurd h e
  obtain ⟨h1, h2, _⟩ := openE_zero ho
  obtain ⟨ht, hok⟩ := lineE_zero h1
  have hw := watch_ok ht hok h2
  have hv : passedV l r b = hullW l r b.toNat := by unfold passedV; rw [if_pos h]
  have hn : hullW l r b.toNat ≠ noneZ := fun e => by unfold passedE at h; rw [if_pos ho, if_pos e] at h; omega
  have hh := hull_f (l := passW (watchL l r) b.toNat) fun q hq => pass_le hq
  rw [hv]
  unfold hullW at hn ⊢
  rcases hh with ⟨_, e⟩ | hh
  · exact absurd e hn
  · obtain ⟨x, hx, ex⟩ := hh.lo
    obtain ⟨y, hy, ey⟩ := hh.hi
    have := pass_b hw hx
    have := pass_b hw hy
    have := hh.le
    omega
noncomputable def ranV (l : LineM) (r : RideM) : SpanV := if passedE l r l.Finish = 0 then ⟨(passedV l r l.Finish).Lo - r.Start, (passedV l r l.Finish).Hi - r.Start⟩ else zeroZ
theorem ran_ok {l : LineM} {r : RideM} (h : passedE l r l.Finish = 0) : ranV l r = ⟨(passedV l r l.Finish).Lo - r.Start, (passedV l r l.Finish).Hi - r.Start⟩ := if_pos h
theorem ran_no {l : LineM} {r : RideM} (h : ¬ passedE l r l.Finish = 0) : ranV l r = zeroZ := if_neg h
theorem passed_ride {l : LineM} {r : RideM} {b : Int} (h : passedE l r b = 0) : RideOk l r := by
  by_cases e : openE l r (beamE l b) = 0
  · exact (openE_zero e).2.1
  · rw [(passed_bad e).1] at h; exact absurd h e
theorem hull_next {k : List (Int × SpanV)} {h : SpanV} {q : Int × SpanV} {z : SpanV} (hh : HullOk k h) (hq : q.2.Lo ≤ q.2.Hi) (hz : hullStep h q.2 = z) : HullOk (k ++ [q]) z := by subst hz; exact hull_step hh hq
end
section
set_option linter.unusedVariables false
def fillF (bl : List Nat) (n : Nat) : List (Option Nat) := bl.map some ++ List.replicate (n - bl.length) none
def fillB (bl : List Nat) (n : Nat) : List (Option Nat) := List.replicate (n - bl.length) none ++ bl.map some
theorem fillF_len {bl : List Nat} {n : Nat} (h : bl.length ≤ n) : (fillF bl n).length = n := by simp [fillF]; omega
theorem fillB_len {bl : List Nat} {n : Nat} (h : bl.length ≤ n) : (fillB bl n).length = n := by simp [fillB]; omega
theorem fillF_nil {n : Nat} : List.replicate n none = fillF [] n := by simp [fillF]
theorem fillB_nil {n : Nat} : List.replicate n none = fillB [] n := by simp [fillB]
theorem fillF_all {bl : List Nat} {n : Nat} (h : bl.length = n) : fillF bl n = bl.map some := by simp [fillF, h]
theorem fillB_all {bl : List Nat} {n : Nat} (h : bl.length = n) : fillB bl n = bl.map some := by simp [fillB, h]
theorem fillF_at {bl : List Nat} {n k g : Nat} (h : bl[k]? = some g) : (fillF bl n)[k]? = some (some g) := by
  have hk := (List.getElem?_eq_some_iff.1 h).1
  unfold fillF
  rw [List.getElem?_append_left (by simpa using hk), List.getElem?_map, h]; rfl
theorem fillB_at {bl : List Nat} {n k i g : Nat} (h : bl[i]? = some g) (hk : k = n - bl.length + i) : (fillB bl n)[k]? = some (some g) := by
  subst hk
  unfold fillB
  rw [List.getElem?_append_right (by simp), List.getElem?_map, List.length_replicate, Nat.add_sub_cancel_left, h]; rfl
theorem fillF_set {bl : List Nat} {n k g : Nat} (hk : k = bl.length) (h : bl.length < n) : (fillF bl n).set k (some g) = fillF (bl ++ [g]) n := by
  subst hk
  unfold fillF
  rw [List.set_append_right _ _ (by simp)]
  have e : n - bl.length = (n - (bl ++ [g]).length) + 1 := by simp; omega
  rw [e, List.replicate_succ]
  simp
theorem fillB_set {bl : List Nat} {n k g : Nat} (hk : k + 1 + bl.length = n) : (fillB bl n).set k (some g) = fillB (g :: bl) n := by
  unfold fillB
  have e : n - bl.length = k + 1 := by omega
  have e2 : n - (g :: bl).length = k := by simp; omega
  rw [e, e2, List.set_append_left _ _ (by simp), List.replicate_succ', List.set_append_right _ _ (by simp)]
  simp
theorem oC_at {l : List (Option Nat)} {k g : Nat} (h : l[k]? = some (some g)) : (l.map oC)[k]? = some (oC (some g)) := by rw [List.getElem?_map, h]; rfl
theorem snoc_at {α : Type} {l : List α} {x : α} {k : Nat} (h : k = l.length) : (l ++ [x])[k]? = some x := by subst h; simp
theorem snoc_old {α : Type} {l : List α} {x y : α} {k : Nat} (h : l[k]? = some y) : (l ++ [x])[k]? = some y := by rw [List.getElem?_append_left (List.getElem?_eq_some_iff.1 h).1]; exact h
structure FwdTo (w : WatchM) (fs : List FM) : Prop where
  all : ∀ (b : Nat) m, fs[b]? = some m → MinOk m (fwd w b) ∧ (m.map (·.1)).Nodup
structure BackTo (w : WatchM) (k : Nat) (bs : List FM) : Prop where
  all : ∀ (i : Nat) m, bs[i]? = some m → MaxOk m (back w (k + i)) ∧ (m.map (·.1)).Nodup
variable {w : WatchM} {b : Nat} {mb m left : List (TallyV × Int)} {o : Int × SpanV} {os : List (Int × SpanV)} {p : TallyV × Int}
theorem FwdTo.first : FwdTo w [[(⟨0, 0⟩, w.Start)]] := ⟨fun b m h => by
  match b with
  | 0 => simp at h; subst h; exact ⟨min_first, by simp⟩
  | n + 1 => simp at h⟩
theorem FwdTo.add {fs : List FM} (h : FwdTo w fs) (hl : fs.length = b + 1) (hmb : fs[b]? = some mb) (hm : LoOn w b m) (hd : LoLeft w b mb m left) (h0 : left = []) : FwdTo w (fs ++ [m]) := ⟨fun i x hx => by
  rcases Nat.lt_or_ge i fs.length with q | q
  · rw [List.getElem?_append_left q] at hx; exact h.all i x hx
  · rw [List.getElem?_append_right q] at hx
    have hi : i - fs.length = 0 := by
      rcases Nat.eq_zero_or_pos (i - fs.length) with z | z
      · exact z
      · rw [List.getElem?_eq_none (by simp; omega)] at hx; cases hx
    rw [hi] at hx
    simp at hx; subst hx
    obtain rfl : i = b + 1 := by omega
    have h1 := h.all b mb hmb
    exact ⟨min_next h1.2 h1.1 hm.snd (hd.fin h0), hm.keys⟩⟩
theorem FwdTo.ok {fs : List FM} (h : FwdTo w fs) (hl : fs.length = w.n + 1) : FwdOk w fs := ⟨hl, fun b m hm => (h.all b m hm).1, fun b m hm => (h.all b m hm).2⟩
theorem BackTo.none_ : BackTo w b [] := ⟨fun i m h => by simp at h⟩
theorem BackTo.last (hb : w.n ≤ b) : BackTo w b [[(⟨0, 0⟩, w.Now)]] := ⟨fun i m h => by
  match i with
  | 0 => simp at h; subst h; exact ⟨max_last (by omega), by simp⟩
  | n + 1 => simp at h⟩
theorem BackTo.add {bs : List FM} (h : BackTo w (b + 1) bs) (hb : b < w.n) (hmb : bs[0]? = some mb) (hm : HiOn w b m) (hd : HiLeft w b mb m left) (h0 : left = []) : BackTo w b (m :: bs) := ⟨fun i x hx => by
  match i with
  | 0 =>
    simp at hx; subst hx
    have h1 := h.all 0 mb hmb
    exact ⟨max_next hb h1.2 h1.1 hm.snd hm.zero (hd.fin h0), hm.keys⟩
  | n + 1 =>
    have := h.all n x (by simpa using hx)
    rw [show b + 1 + n = b + (n + 1) by omega] at this
    exact this⟩
theorem BackTo.ok {bs : List FM} (h : BackTo w 0 bs) (hl : bs.length = w.n + 1) : BackOk w bs := ⟨hl, fun b m hm => by have := (h.all b m hm).1; rwa [Nat.zero_add] at this, fun b m hm => (h.all b m hm).2⟩
/-- on the way through one entry's options -/
structure LoInv (w : WatchM) (b : Nat) (mb left m : List (TallyV × Int)) (p : TallyV × Int) (os : List (Int × SpanV)) : Prop where
  on : LoOn w b m
  left_ : LoLeft w b mb m left
  done : DoneLo w b m p os
structure HiInv (w : WatchM) (b : Nat) (mb left m : List (TallyV × Int)) (p : TallyV × Int) (os : List (Int × SpanV)) : Prop where
  on : HiOn w b m
  left_ : HiLeft w b mb m left
  done : DoneHi w b m p os
theorem LoInv.start (h : LoOn w b m) (h2 : LoLeft w b mb m left) : LoInv w b mb left m p [] := ⟨h, h2, fun o ho => by cases ho⟩
theorem HiInv.start (h : HiOn w b m) (h2 : HiLeft w b mb m left) : HiInv w b mb left m p [] := ⟨h, h2, fun o ho => by cases ho⟩
theorem tryLo_set {q : TallyV × Int} (h : (m.lookup q.1).isSome = false ∨ q.2 < (m.lookup q.1).getD 0) : tryLo m q = gsetK m q.1 q.2 := by
  unfold tryLo
  cases e : m.lookup q.1 with
  | none => rfl
  | some v => rw [e] at h; simp at h; simp only; rw [if_pos h]
theorem tryLo_keep {q : TallyV × Int} (h : (m.lookup q.1).isSome = true) (h2 : ¬ q.2 < (m.lookup q.1).getD 0) : tryLo m q = m := by
  unfold tryLo
  cases e : m.lookup q.1 with
  | none => rw [e] at h; cases h
  | some v => rw [e] at h2; simp only [Option.getD_some] at h2; simp only; rw [if_neg h2]
theorem tryHi_set {q : TallyV × Int} (h : (m.lookup q.1).isSome = false ∨ (m.lookup q.1).getD 0 < q.2) : tryHi m q = gsetK m q.1 q.2 := by
  unfold tryHi
  cases e : m.lookup q.1 with
  | none => rfl
  | some v => rw [e] at h; simp at h; simp only; rw [if_pos h]
theorem tryHi_keep {q : TallyV × Int} (h : (m.lookup q.1).isSome = true) (h2 : ¬ (m.lookup q.1).getD 0 < q.2) : tryHi m q = m := by
  unfold tryHi
  cases e : m.lookup q.1 with
  | none => rw [e] at h; cases h
  | some v => rw [e] at h2; simp only [Option.getD_some] at h2; simp only; rw [if_neg h2]
theorem fwdO_at {t : TallyV} {v y : Int} (hy : w.Least[b]? = some y) (h : max (v + y) o.2.Lo ≤ min o.2.Hi w.Now) : fwdO w b (t, v) o = some (addT t (oneT o.1), max (v + y) o.2.Lo) := by
  have e := leastAt_of hy
  subst e
  exact fwdO_yes h
theorem fwdO_off {t : TallyV} {v y : Int} (hy : w.Least[b]? = some y) (h : ¬ max (v + y) o.2.Lo ≤ min o.2.Hi w.Now) : fwdO w b (t, v) o = none := by
  have e := leastAt_of hy
  subst e
  exact fwdO_no h
theorem bwdO_at {t : TallyV} {v y : Int} (hy : w.Least[b]? = some y) (h : o.2.Lo ≤ min v o.2.Hi) : bwdO w b (t, v) o = some (addT t (oneT o.1), min v o.2.Hi - y) := by
  have e := leastAt_of hy
  subst e
  exact bwdO_yes h
theorem LoInv.set {q : TallyV × Int} (h : LoInv w b mb left m p os) (hp : p ∈ fwd w b) (ho : o ∈ opts w b) (he : fwdO w b p o = some q) (hs : (m.lookup q.1).isSome = false ∨ q.2 < (m.lookup q.1).getD 0) : LoInv w b mb left (gsetK m q.1 q.2) p (os ++ [o]) := by
  rw [← tryLo_set hs]
  exact ⟨h.on.add hp ho he, h.left_.lower tryLo_lower, h.done.try_ he⟩
theorem LoInv.keep {q : TallyV × Int} (h : LoInv w b mb left m p os) (he : fwdO w b p o = some q) (hs : (m.lookup q.1).isSome = true) (h2 : ¬ q.2 < (m.lookup q.1).getD 0) : LoInv w b mb left m p (os ++ [o]) := by
  have := h.done.try_ he
  rw [tryLo_keep hs h2] at this
  exact ⟨h.on, h.left_, this⟩
theorem LoInv.skip (h : LoInv w b mb left m p os) (he : fwdO w b p o = none) : LoInv w b mb left m p (os ++ [o]) := ⟨h.on, h.left_, h.done.none_ he⟩
theorem HiInv.set {q : TallyV × Int} (hb : b < w.n) (h : HiInv w b mb left m p os) (hp : p ∈ back w (b + 1)) (ho : o ∈ opts w b) (he : bwdO w b p o = some q) (hs : (m.lookup q.1).isSome = false ∨ (m.lookup q.1).getD 0 < q.2) : HiInv w b mb left (gsetK m q.1 q.2) p (os ++ [o]) := by
  rw [← tryHi_set hs]
  exact ⟨h.on.add hb hp ho he, h.left_.upper tryHi_upper, h.done.try_ he⟩
theorem HiInv.keep {q : TallyV × Int} (h : HiInv w b mb left m p os) (he : bwdO w b p o = some q) (hs : (m.lookup q.1).isSome = true) (h2 : ¬ (m.lookup q.1).getD 0 < q.2) : HiInv w b mb left m p (os ++ [o]) := by
  have := h.done.try_ he
  rw [tryHi_keep hs h2] at this
  exact ⟨h.on, h.left_, this⟩
theorem HiInv.skip (h : HiInv w b mb left m p os) (he : bwdO w b p o = none) : HiInv w b mb left m p (os ++ [o]) := ⟨h.on, h.left_, h.done.none_ he⟩
theorem LoInv.next {t : TallyV} {v : Int} (hn : (left.map (·.1)).Nodup) (hm : (t, v) ∈ left) (h : LoInv w b mb left m (t, v) os) (ho : ∀ o ∈ opts w b, o ∈ os) : LoLeft w b mb m (gdelK left t) := h.left_.next hn hm h.done ho
theorem HiInv.next {t : TallyV} {v : Int} (hn : (left.map (·.1)).Nodup) (hm : (t, v) ∈ left) (h : HiInv w b mb left m (t, v) os) (ho : ∀ o ∈ opts w b, o ∈ os) : HiLeft w b mb m (gdelK left t) := h.left_.next hn hm h.done ho
theorem FwdTo.mem {fs : List FM} (h : FwdTo w fs) (hm : fs[b]? = some mb) (hp : p ∈ mb) : p ∈ fwd w b := (h.all b mb hm).1.1 _ _ ((lookup_of_mem (h.all b mb hm).2).1 hp)
theorem BackTo.mem0 {bs : List FM} {k : Nat} (h : BackTo w k bs) (hk : k = b + 1) (hm : bs[0]? = some mb) (hp : p ∈ mb) : p ∈ back w (b + 1) := by
  subst hk
  exact (h.all 0 mb hm).1.1 _ _ ((lookup_of_mem (h.all 0 mb hm).2).1 hp)
theorem BackTo.end_ {bs : List FM} {k j : Nat} (h : BackTo w k bs) (hj : bs.length = 0) (hk : j = b) (hb : w.n ≤ b) : BackTo w j ([(⟨0, 0⟩, w.Now)] :: bs) := by
  subst hk
  rw [List.eq_nil_of_length_eq_zero hj]
  exact BackTo.last hb
theorem BackTo.more {bs : List FM} {k j : Nat} (h : BackTo w k bs) (hk : k = b + 1) (hj : j = b) (hb : b < w.n) (hmb : bs[0]? = some mb) (hm : HiOn w b m) (hd : HiLeft w b mb m left) (h0 : left = []) : BackTo w j (m :: bs) := by
  subst hk hj
  exact h.add hb hmb hm hd h0
end
section
open Go.RowKit
set_option linter.unusedVariables false
theorem cov_own_n {a : Option Addr} {c e sz n : Nat} {es : List (List Value)} (h : es.length = n) : Cov (own a c e sz es) (rd a n sz es) := by subst h; exact cov_own
theorem cov_bund {L : List Assn} : Cov (bund L) (bun L) := ⟨fun w h => h.1, fun b h => h⟩
theorem tm_snoc {b : Nat} {fb : List Nat} {g : Nat} (h : fb.length = b) : nest tmR (List.replicate b ([] : TM)) fb ++ [gmp iV g (gmapV spanU [])] = nest tmR (List.replicate (b + 1) ([] : TM)) (fb ++ [g]) := by
  rw [List.replicate_succ']
  exact nest_snoc (by rw [List.length_replicate]; exact h.symm) rfl
theorem zipF {α : Type} {ms : List α} {fb : List Nat} {n : Nat} (h : fb.length = n) (h2 : ms.length = n) : List.map oC (fillF fb n) = List.zipWith mapC ms fb := by
  rw [fillF_all h]; exact (zip_oC (by omega)).symm
theorem ride_no {l : LineM} {r : RideM} {i : Nat} {x : SignalV} (hx : r.Signals[i]? = some x) (h : ¬ SigOk l r.Signals i x) : ¬ RideOk l r := fun q => h (q.sig i x hx)
end
section
set_option linter.unusedVariables false
def GreatL (l : LineM) : Prop := (20 < (l.Track.length : Int) ∨ 8 < (l.Clocks.length : Int) ∨ 10 < (l.Beams.length : Int)) ∨ ∃ c ∈ l.Clocks, 10 < (c.Syncs.length : Int)
noncomputable instance (l : LineM) : Decidable (GreatL l) := Classical.propDecidable _
/-- what is asked of a line that comes in -/
structure LineRaw (l : LineM) (az : List RA) : Prop where
  trk : l.Track.length ≤ 9223372036854775807
  side : ∀ x ∈ l.Track, 0 ≤ x.Side ∧ x.Side ≤ 255
  cks : l.Clocks.length ≤ 9223372036854775807
  as_ : az.length = l.Clocks.length
  bms : l.Beams.length ≤ 9223372036854775807
  syn : ∀ (k : Nat) m (a : RA), l.Clocks[k]? = some m → az[k]? = some a → m.Syncs.length ≤ a.2 ∧ m.Syncs.length ≤ 9223372036854775807
def SyncsTo (l : LineM) (i : Nat) : Prop := ∀ (j : Nat) c, j < i → l.Clocks[j]? = some c → (c.Syncs.length : Int) ≤ 10
theorem great_no {l : LineM} {i : Nat} (h : ¬ (20 < (l.Track.length : Int)) ∧ ¬ (8 < (l.Clocks.length : Int)) ∧ ¬ (10 < (l.Beams.length : Int))) (hi : l.Clocks.length ≤ i) (hs : SyncsTo l i) : ¬ GreatL l := by
  rintro (h1 | ⟨c, hc, h2⟩)
  · omega
  · obtain ⟨k, hk⟩ := List.getElem?_of_mem hc
    have := hs k c (by have := (List.getElem?_eq_some_iff.1 hk).1; omega) hk
    omega
theorem great_at {l : LineM} {i : Nat} {c : ClockM} (hc : l.Clocks[i]? = some c) (h : 10 < (c.Syncs.length : Int)) : GreatL l := .inr ⟨c, List.mem_of_getElem? hc, h⟩
theorem upto_succ {α : Type} {l : List α} {P : Nat → α → Prop} {i : Nat} {x : α} (h : ∀ (j : Nat) y, j < i → l[j]? = some y → P j y) (hx : l[i]? = some x) (hp : P i x) : ∀ (j : Nat) y, j < i + 1 → l[j]? = some y → P j y := fun j y hj hy => by
  by_cases e : j = i
  · subst e; rw [hx] at hy; cases hy; exact hp
  · exact h j y (by omega) hy
theorem upto_all {α : Type} {l : List α} {P : Nat → α → Prop} {i : Nat} (hi : l.length ≤ i) (h : ∀ (j : Nat) y, j < i → l[j]? = some y → P j y) : ∀ (j : Nat) y, l[j]? = some y → P j y := fun j y hy => h j y (by have := (List.getElem?_eq_some_iff.1 hy).1; omega) hy
theorem upto_mem {α : Type} {l : List α} {P : α → Prop} {i : Nat} (hi : l.length ≤ i) (h : ∀ (j : Nat) y, j < i → l[j]? = some y → P y) : ∀ y ∈ l, P y := fun y hy => by
  obtain ⟨k, hk⟩ := List.getElem?_of_mem hy
  exact upto_all (P := fun _ y => P y) hi h k y hk
theorem small_of {l : LineM} (h : ¬ GreatL l) : (l.Track.length : Int) ≤ 20 ∧ (l.Clocks.length : Int) ≤ 8 ∧ (l.Beams.length : Int) ≤ 10 ∧ ∀ c ∈ l.Clocks, (c.Syncs.length : Int) ≤ 10 := by
  unfold GreatL at h
  rw [not_or] at h
  refine ⟨by omega, by omega, by omega, fun c hc => ?_⟩
  have := h.2
  rcases Int.lt_or_le 10 (c.Syncs.length : Int) with q | q
  · exact absurd ⟨c, hc, q⟩ this
  · exact q
theorem LineRaw.small {l : LineM} {az : List RA} (h : LineRaw l az) (hg : ¬ GreatL l) : LineIn l az := by
  have h1 := small_of hg
  exact ⟨by omega, h.side, by omega, h.as_, by omega, fun k m a hm ha => ⟨(h.syn k m a hm ha).1, by have := h1.2.2.2 m (List.mem_of_getElem? hm); omega⟩⟩
def PairK (c : ClockM) (x : SyncV) (k : Nat) : Prop := ∀ (j : Nat) o, j < k → c.Syncs[j]? = some o → PairOk c x o
def PairsOk (c : ClockM) (m : Nat) : Prop := ∀ (i : Nat) x, i < m → c.Syncs[i]? = some x → PairK c x i
theorem clock_ok {c : ClockM} {m : Nat} (h1 : 0 ≤ c.Drift ∧ c.Drift ≤ 1000) (h2 : 1 ≤ c.Syncs.length ∧ c.Syncs.length ≤ 5) (hs : ∀ (i : Nat) x, c.Syncs[i]? = some x → SyncOk c i x) (hm : c.Syncs.length ≤ m) (hp : PairsOk c m) : ClockOk c :=
  ⟨h1, h2, hs, fun i k x o hx hk ho => hp i x (by have := (List.getElem?_eq_some_iff.1 hx).1; omega) hx k o hk ho⟩
theorem pairs_succ {c : ClockM} {m k : Nat} (h : PairsOk c m) (hk : ∀ y, c.Syncs[m]? = some y → PairK c y k) (e : k = m) : PairsOk c (m + 1) := by
  subst e
  intro i x hi hx
  by_cases e : i = k
  · subst e; exact hk x hx
  · exact h i x (by omega) hx
def marksS (ts : List StretchV) (n : Nat) : List SpanV := (List.range n).map fun k => longF ts 0 k
theorem marksS_succ {ts : List StretchV} {n : Nat} : marksS ts (n + 1) = marksS ts n ++ [longF ts 0 n] := by simp [marksS, List.range_succ]
theorem marksS_length {ts : List StretchV} {n : Nat} : (marksS ts n).length = n := by simp [marksS]
theorem marksS_get {ts : List StretchV} {n k : Nat} {x : SpanV} (h : (marksS ts n)[k]? = some x) : x = longF ts 0 k := by
  unfold marksS at h
  rw [List.getElem?_map] at h
  cases hk : (List.range n)[k]? with
  | none => simp [hk] at h
  | some v =>
    have := List.getElem?_eq_some_iff.1 hk
    simp at this
    simp [hk] at h
    rw [← h, ← this.2]
theorem apart_swap {ts : List StretchV} {a b : SpotV} (h : b.Stretch < a.Stretch) : apartF ts a b = lessZ (apartF ts b a) := by
  unfold apartF
  rw [if_pos h, if_neg (by omega)]
  unfold wayB
  rw [Int.min_comm b.Stretch a.Stretch, Int.max_comm b.Stretch a.Stretch]
  unfold lessZ addZ
  simp only [SpanV.mk.injEq]
  omega
theorem apart_straight {ts : List StretchV} {a b : SpotV} (h : ¬ b.Stretch < a.Stretch) : apartF ts a b = addZ (addZ (longF ts a.Stretch.toNat (b.Stretch - a.Stretch).toNat) b.Off) (lessZ a.Off) := by
  unfold apartF wayB
  rw [if_neg h, Int.min_eq_left (by omega), Int.max_eq_right (by omega)]
end
section
set_option linter.unusedVariables false
structure WLe (w w' : WatchM) : Prop where
  start : w'.Start = w.Start
  now : w.Now ≤ w'.Now
  n : w'.n = w.n
  least : ∀ b, leastAt w' b ≤ leastAt w b
  times : w'.Times = w.Times
  misses : w.Misses ≤ w'.Misses
  fakes : w.Fakes ≤ w'.Fakes
  sigs : w'.Sigs = w.Sigs
variable {w w' : WatchM}
theorem WLe.opt (h : WLe w w') {b : Nat} {o : Int × SpanV} (ho : o ∈ opts w b) : ∃ o' ∈ opts w' b, o'.1 = o.1 ∧ o'.2.Lo ≤ o.2.Lo ∧ o.2.Hi ≤ o'.2.Hi := by
  unfold opts at ho
  rcases List.mem_cons.1 ho with rfl | ho
  · exact ⟨(-1, ⟨w'.Start, w'.Now⟩), List.mem_cons_self .., rfl, by simp only [h.start]; omega, h.now⟩
  · refine ⟨o, List.mem_cons_of_mem _ ?_, rfl, Int.le_refl _, Int.le_refl _⟩
    unfold timesAt at ho ⊢; rw [h.times]; exact ho
theorem WLe.may (h : WLe w w') {t : TallyV} (ht : mayT w t = true) : mayT w' t = true := by
  unfold mayT at ht ⊢
  have := of_decide_eq_true ht
  have h1 := h.misses
  have h2 := h.fakes
  have h3 := h.sigs
  exact decide_eq_true (by omega)
theorem WLe.fwd (h : WLe w w') : ∀ (b : Nat) (p : TallyV × Int), p ∈ fwd w b → ∃ p' ∈ Go.Proofs.YthiigjekcdjkkaaGreat.fwd w' b, p'.1 = p.1 ∧ p'.2 ≤ p.2 := by
  intro b
  induction b with
  | zero =>
    intro p hp
    simp only [Go.Proofs.YthiigjekcdjkkaaGreat.fwd, List.mem_singleton] at hp ⊢
    subst hp
    exact ⟨_, rfl, rfl, by simp only [h.start]; omega⟩
  | succ b ih =>
    intro q hq
    obtain ⟨p, hp, o, ho, e⟩ := mem_fwd_succ.1 hq
    obtain ⟨p', hp', h1, h2⟩ := ih p hp
    obtain ⟨o', ho', h3, h4, h5⟩ := h.opt ho
    have hl := h.least b
    have hn := h.now
    unfold fwdO at e
    split at e
    · rename_i hle
      simp only [Option.some.injEq] at e
      subst e
      refine ⟨(addT p'.1 (oneT o'.1), max (p'.2 + leastAt w' b) o'.2.Lo), mem_fwd_succ.2 ⟨p', hp', o', ho', by unfold fwdO; rw [if_pos (by omega)]⟩, by simp only [h1, h3], by simp only; omega⟩
    · cases e
theorem WLe.bwd (h : WLe w w') : ∀ (k : Nat) (p : TallyV × Int), p ∈ bwd w k → ∃ p' ∈ Go.Proofs.YthiigjekcdjkkaaGreat.bwd w' k, p'.1 = p.1 ∧ p.2 ≤ p'.2 := by
  intro k
  induction k with
  | zero =>
    intro p hp
    simp only [Go.Proofs.YthiigjekcdjkkaaGreat.bwd, List.mem_singleton] at hp ⊢
    subst hp
    exact ⟨_, rfl, rfl, h.now⟩
  | succ k ih =>
    intro q hq
    simp only [Go.Proofs.YthiigjekcdjkkaaGreat.bwd, List.mem_cons, List.mem_flatMap, List.mem_filterMap] at hq ⊢
    rcases hq with rfl | ⟨p, hp, o, ho, e⟩
    · exact ⟨_, .inl rfl, rfl, h.now⟩
    · obtain ⟨p', hp', h1, h2⟩ := ih p hp
      obtain ⟨o', ho', h3, h4, h5⟩ := h.opt ho
      have hl := h.least (w.n - (k + 1))
      rw [h.n]
      unfold bwdO at e
      split at e
      · rename_i hle
        simp only [Option.some.injEq] at e
        subst e
        exact ⟨(addT p'.1 (oneT o'.1), min p'.2 o'.2.Hi - leastAt w' (w.n - (k + 1))), .inr ⟨p', hp', o', ho', by unfold bwdO; rw [if_pos (by omega)]⟩, by simp only [h1, h3], by simp only; omega⟩
      · cases e
theorem WLe.back (h : WLe w w') {b : Nat} {p : TallyV × Int} (hp : p ∈ back w b) : ∃ p' ∈ Go.Proofs.YthiigjekcdjkkaaGreat.back w' b, p'.1 = p.1 ∧ p.2 ≤ p'.2 := by
  unfold Go.Proofs.YthiigjekcdjkkaaGreat.back at hp ⊢
  rw [h.n]
  exact h.bwd _ p hp
theorem WLe.pass (h : WLe w w') {b : Nat} {q : Int × SpanV} (hq : q ∈ passW w b) : ∃ q' ∈ passW w' b, q'.1 = q.1 ∧ q'.2.Lo ≤ q.2.Lo ∧ q.2.Hi ≤ q'.2.Hi := by
  obtain ⟨o, ho, p, hp, u, hu, e⟩ := mem_passM.1 hq
  obtain ⟨h1, h2, rfl⟩ := passO_some.1 e
  obtain ⟨o', ho', a1, a2, a3⟩ := h.opt ho
  obtain ⟨p', hp', b1, b2⟩ := h.fwd _ p hp
  obtain ⟨u', hu', c1, c2⟩ := h.back hu
  have hl := h.least b
  simp only [passX] at h1
  refine ⟨(o'.1, passX w' b p' u' o'), mem_passM.2 ⟨o', ho', p', hp', u', hu', passO_some.2 ⟨?_, ?_, rfl⟩⟩, a1, ?_, ?_⟩
  · simp only [passX]; omega
  · have := h.may h2
    unfold passT at this ⊢
    rw [a1, b1, c1]; exact this
  · simp only [passX]; omega
  · simp only [passX]; omega
theorem mem_nums {k : Int} : k ∈ numsF w ↔ ∃ i : Nat, k = (i : Int) ∧ i ≤ w.n ∧ mayAny w (fwd w i) = true := by
  unfold numsF numsTo
  simp only [List.mem_map, List.mem_filter, List.mem_range]
  constructor
  · rintro ⟨i, ⟨h1, h2⟩, rfl⟩; exact ⟨i, rfl, by omega, h2⟩
  · rintro ⟨i, rfl, h1, h2⟩; exact ⟨i, ⟨by omega, h2⟩, rfl⟩
theorem WLe.nums (h : WLe w w') {k : Int} (hk : k ∈ numsF w) : k ∈ numsF w' := by
  obtain ⟨i, rfl, h1, h2⟩ := mem_nums.1 hk
  refine mem_nums.2 ⟨i, rfl, by rw [h.n]; exact h1, ?_⟩
  unfold mayAny at h2 ⊢
  obtain ⟨p, hp, h3⟩ := List.any_eq_true.1 h2
  obtain ⟨p', hp', b1, _⟩ := h.fwd _ p hp
  exact List.any_eq_true.2 ⟨p', hp', by rw [b1]; exact h.may h3⟩
theorem hull_some {l : List (Int × SpanV)} (hl : ∀ q ∈ l, q.2.Lo ≤ q.2.Hi) (h : hullF l ≠ noneZ) : HullIn l (hullF l) := by
  rcases hull_f hl with ⟨_, e⟩ | h'
  · exact absurd e h
  · exact h'
theorem hull_ne {l : List (Int × SpanV)} (hl : ∀ q ∈ l, q.2.Lo ≤ q.2.Hi) {q : Int × SpanV} (hq : q ∈ l) : HullIn l (hullF l) := by
  rcases hull_f hl with ⟨e, _⟩ | h'
  · rw [e] at hq; cases hq
  · exact h'
theorem WLe.hull (h : WLe w w') {b : Nat} (hn : hullF (passW w b) ≠ noneZ) : hullF (passW w' b) ≠ noneZ ∧ (hullF (passW w' b)).Lo ≤ (hullF (passW w b)).Lo ∧ (hullF (passW w b)).Hi ≤ (hullF (passW w' b)).Hi := by
  have h1 := hull_some (l := passW w b) (fun q hq => pass_le hq) hn
  obtain ⟨x, hx, ex⟩ := h1.lo
  obtain ⟨y, hy, ey⟩ := h1.hi
  obtain ⟨x', hx', _, a1, a2⟩ := h.pass hx
  obtain ⟨y', hy', _, b1, b2⟩ := h.pass hy
  have h2 := hull_ne (l := passW w' b) (fun q hq => pass_le hq) hx'
  have c1 := h2.all x' hx'
  have c2 := h2.all y' hy'
  exact ⟨h2.ne, by omega, by omega⟩
/-- two rides, of two lines, of which one allows more -/
structure RLe (l : LineM) (r : RideM) (l' : LineM) (r' : RideM) : Prop where
  line : lineE l = 0
  line' : lineE l' = 0
  ride : RideOk l r
  ride' : RideOk l' r'
  w : WLe (watchL l r) (watchL l' r')
  beams : l'.Beams.length = l.Beams.length
variable {l l' : LineM} {r r' : RideM}
theorem RLe.ok (h : RLe l r l' r') (he : openE l r 0 = 0) : openE l' r' 0 = 0 := by
  refine open_ok_e h.line' h.ride' rfl fun e => ?_
  obtain ⟨k, hk⟩ := List.exists_mem_of_ne_nil _ (openE_zero he).2.2.2
  have := h.w.nums hk
  rw [e] at this; cases this
theorem RLe.where_ (h : RLe l r l' r') {k : Int} (hk : k ∈ whereV l r) : k ∈ whereV l' r' := by
  by_cases he : openE l r 0 = 0
  · rw [whereV_ok he] at hk
    rw [whereV_ok (h.ok he)]
    exact h.w.nums hk
  · rw [whereV_no he] at hk; cases hk
theorem open_beam {b : Nat} (hb : b < l.Beams.length) : openE l r (beamE l b) = openE l r 0 := by rw [beamE_ok (by omega)]
theorem RLe.passed (h : RLe l r l' r') {b : Nat} (hb : b < l.Beams.length) (he : passedE l r b = 0) : passedE l' r' b = 0 ∧ (passedV l' r' b).Lo ≤ (passedV l r b).Lo ∧ (passedV l r b).Hi ≤ (passedV l' r' b).Hi := by
  have ho : openE l r (beamE l b) = 0 := by
    by_cases e : openE l r (beamE l b) = 0
    · exact e
    · rw [(passed_bad e).1] at he; exact absurd he e
  have ho' : openE l' r' (beamE l' b) = 0 := by
    rw [open_beam (by rw [h.beams]; exact hb)]
    rw [open_beam hb] at ho
    exact h.ok ho
  have hn : hullW l r b ≠ noneZ := fun e => by rw [(passed_none ho e).1] at he; omega
  obtain ⟨h1, h2, h3⟩ := h.w.hull hn
  have e1 := passed_some ho hn
  have e2 := passed_some ho' h1
  rw [e1.2, e2.2]
  exact ⟨e2.1, h2, h3⟩
theorem leastAt_L {b : Nat} : leastAt (watchL l r) b = if b < l.Beams.length then leastF l b else 0 := by
  unfold leastAt watchL leasts
  split
  · rename_i h
    simp [h]
  · rename_i h
    simp [h]
theorem prevS_at0 {sg : List SignalV} {i : Nat} (h : i = 0) : prevS sg i = ⟨-1, 0⟩ := by subst h; rfl
theorem prevS_pos {sg : List SignalV} {i : Nat} {y : SignalV} (h : 0 < i) (hy : sg[i - 1]? = some y) : prevS sg i = y := by unfold prevS; rw [if_neg (by omega), hy]; rfl
def ReadyL (l : LineM) : Prop := ¬ GreatL l ∧ lineE l = 0
noncomputable instance (l : LineM) : Decidable (ReadyL l) := Classical.propDecidable _
end
section
set_option linter.unusedVariables false
/-- where a sled may be after k beams more -/
def reachW (w : WatchM) : Nat → Nat → TallyV × Int → List (TallyV × Int)
  | 0, _, p => [p]
  | k + 1, b, p => (opts w b).flatMap fun o => match fwdO w b p o with
    | some q => reachW w k (b + 1) q
    | none => []
variable {w : WatchM}
theorem mem_reach {k b : Nat} {p q : TallyV × Int} : q ∈ reachW w (k + 1) b p ↔ ∃ o ∈ opts w b, ∃ p', fwdO w b p o = some p' ∧ q ∈ reachW w k (b + 1) p' := by
  simp only [reachW, List.mem_flatMap]
  constructor
  · rintro ⟨o, ho, h⟩
    cases e : fwdO w b p o with
    | none => rw [e] at h; cases h
    | some p' => rw [e] at h; exact ⟨o, ho, p', e, h⟩
  · rintro ⟨o, ho, p', e, h⟩
    exact ⟨o, ho, by rw [e]; exact h⟩
theorem reach_fwd : ∀ (k b : Nat) (q : TallyV × Int), q ∈ fwd w (b + k) ↔ ∃ p ∈ fwd w b, q ∈ reachW w k b p := by
  intro k
  induction k with
  | zero =>
    intro b q
    simp only [Nat.add_zero, reachW, List.mem_singleton]
    exact ⟨fun h => ⟨q, h, rfl⟩, fun ⟨p, hp, e⟩ => e ▸ hp⟩
  | succ k ih =>
    intro b q
    rw [show b + (k + 1) = (b + 1) + k by omega, ih]
    constructor
    · rintro ⟨p', hp', h⟩
      obtain ⟨p, hp, o, ho, e⟩ := mem_fwd_succ.1 hp'
      exact ⟨p, hp, mem_reach.2 ⟨o, ho, p', e, h⟩⟩
    · rintro ⟨p, hp, h⟩
      obtain ⟨o, ho, p', e, h'⟩ := mem_reach.1 h
      exact ⟨p', mem_fwd_succ.2 ⟨p, hp, o, ho, e⟩, h'⟩
theorem fwdO_some {b : Nat} {p q : TallyV × Int} {o : Int × SpanV} : fwdO w b p o = some q ↔ max (p.2 + leastAt w b) o.2.Lo ≤ min o.2.Hi w.Now ∧ q = (addT p.1 (oneT o.1), max (p.2 + leastAt w b) o.2.Lo) := by
  unfold fwdO
  split
  · rename_i h
    constructor
    · intro e; cases e; exact ⟨h, rfl⟩
    · rintro ⟨_, rfl⟩; rfl
  · rename_i h
    constructor
    · intro e; cases e
    · rintro ⟨h', _⟩; exact absurd h' h
theorem bwdO_some {b : Nat} {p q : TallyV × Int} {o : Int × SpanV} : bwdO w b p o = some q ↔ o.2.Lo ≤ min p.2 o.2.Hi ∧ q = (addT p.1 (oneT o.1), min p.2 o.2.Hi - leastAt w b) := by
  unfold bwdO
  split
  · rename_i h
    constructor
    · intro e; cases e; exact ⟨h, rfl⟩
    · rintro ⟨_, rfl⟩; rfl
  · rename_i h
    constructor
    · intro e; cases e
    · rintro ⟨h', _⟩; exact absurd h' h
theorem back_zero {b : Nat} (hb : b ≤ w.n) : ((⟨0, 0⟩ : TallyV), w.Now) ∈ back w b := by
  rcases Nat.lt_or_ge b w.n with h | h
  · exact (mem_back h).2 (.inl rfl)
  · rw [back_last h]; simp
theorem addT_zero (t : TallyV) : addT t ⟨0, 0⟩ = t := by cases t; simp [addT]
theorem addT_swap (a o u : TallyV) : addT (addT a o) u = addT a (addT u o) := by simp only [addT, TallyV.mk.injEq]; omega
theorem back_le (hl : ∀ b, 0 ≤ leastAt w b) : ∀ (k : Nat) (u : TallyV × Int), u ∈ bwd w k → u.2 ≤ w.Now := by
  intro k
  induction k with
  | zero => intro u hu; simp only [bwd, List.mem_singleton] at hu; subst hu; exact Int.le_refl _
  | succ k ih =>
    intro u hu
    simp only [bwd, List.mem_cons, List.mem_flatMap, List.mem_filterMap] at hu
    rcases hu with rfl | ⟨p, hp, o, ho, e⟩
    · exact Int.le_refl _
    · obtain ⟨_, rfl⟩ := bwdO_some.1 e
      have := ih p hp
      have := hl (w.n - (k + 1))
      simp only; omega
/-- what follows a passing is told by the way back -/
theorem back_in : ∀ (k b : Nat) (p q : TallyV × Int), b + k ≤ w.n → p.2 ≤ w.Now → q ∈ reachW w k b p → ∃ u ∈ back w b, p.2 ≤ u.2 ∧ q.1 = addT p.1 u.1 := by
  intro k
  induction k with
  | zero =>
    intro b p q hb hp hq
    simp only [reachW, List.mem_singleton] at hq
    subst hq
    exact ⟨_, back_zero (by omega), hp, (addT_zero _).symm⟩
  | succ k ih =>
    intro b p q hb hp hq
    obtain ⟨o, ho, p', e, h⟩ := mem_reach.1 hq
    obtain ⟨h1, rfl⟩ := fwdO_some.1 e
    obtain ⟨u', hu', h2, h3⟩ := ih (b + 1) _ q (by omega) (by simp only; omega) h
    simp only at h2 h3
    refine ⟨(addT u'.1 (oneT o.1), min u'.2 o.2.Hi - leastAt w b), (mem_back (by omega)).2 (.inr ⟨u', hu', o, ho, bwdO_some.2 ⟨by omega, rfl⟩⟩), by simp only; omega, ?_⟩
    rw [h3, addT_swap]
theorem back_out (hl : ∀ b, 0 ≤ leastAt w b) : ∀ (d b : Nat) (p u : TallyV × Int), w.n = b + d → p.2 ≤ u.2 → u ∈ back w b → ∃ k, b + k ≤ w.n ∧ ∃ q ∈ reachW w k b p, q.1 = addT p.1 u.1 := by
  intro d
  induction d with
  | zero =>
    intro b p u hd hp hu
    rw [back_last (by omega)] at hu
    simp only [List.mem_singleton] at hu
    subst hu
    exact ⟨0, by omega, p, by simp [reachW], (addT_zero _).symm⟩
  | succ d ih =>
    intro b p u hd hp hu
    rcases (mem_back (by omega)).1 hu with rfl | ⟨u', hu', o, ho, e⟩
    · exact ⟨0, by omega, p, by simp [reachW], (addT_zero _).symm⟩
    · obtain ⟨h1, rfl⟩ := bwdO_some.1 e
      have hn : u'.2 ≤ w.Now := back_le hl _ _ hu'
      simp only at hp
      obtain ⟨k, hk, q, hq, h3⟩ := ih (b + 1) (addT p.1 (oneT o.1), max (p.2 + leastAt w b) o.2.Lo) u' (by omega) (by simp only; omega) hu'
      refine ⟨k + 1, by omega, q, mem_reach.2 ⟨o, ho, _, fwdO_some.2 ⟨by omega, rfl⟩, hq⟩, ?_⟩
      rw [h3]; simp only; rw [addT_swap]
end
section
set_option linter.unusedVariables false
section
variable {l : LineM} {r : RideM} {one at_ : Int} {d : Nat} {f g m : Int} {rec : Int → Int → Int → Bool} {i : Int}
end
theorem opts_L {l : LineM} {r : RideM} {d : Nat} (hd : d < l.Beams.length) {o : Int × SpanV} : o ∈ opts (watchL l r) d ↔ o = (-1, ⟨r.Start, r.Now⟩) ∨ ∃ k, k < r.Signals.length ∧ ∃ s, r.Signals[k]? = some s ∧ (s.Beam = (d : Int) ∧ (whenF l s).Lo ≤ (whenF l s).Hi) ∧ o = ((k : Int), whenF l s) := by
  unfold opts timesAt
  show o ∈ (-1, (⟨r.Start, r.Now⟩ : SpanV)) :: ((timesT l r.Signals r.Signals.length)[d]?).getD [] ↔ _
  rw [timesT_at hd, Option.getD_some, List.mem_cons, mem_timesB]
end
section
set_option linter.unusedVariables false
def seenTo (w : WatchM) (b : Nat) (i : Int) : Prop := ∃ b', b' < b ∧ ∃ q ∈ passW w b', q.1 = i
noncomputable instance (w : WatchM) (b : Nat) (i : Int) : Decidable (seenTo w b i) := Classical.propDecidable _
noncomputable def falseL (w : WatchM) (n : Nat) : List Int := ((List.range n).map fun (k : Nat) => (k : Int)).filter fun i => !decide (seenTo w w.n i)
noncomputable def falseV (l : LineM) (r : RideM) : List Int := if openE l r 0 = 0 then falseL (watchL l r) r.Signals.length else []
theorem falseV_ok {l : LineM} {r : RideM} (h : openE l r 0 = 0) : falseV l r = falseL (watchL l r) r.Signals.length := if_pos h
theorem falseV_no {l : LineM} {r : RideM} (h : ¬ openE l r 0 = 0) : falseV l r = [] := if_neg h
def rightIn (w : WatchM) (b : Nat) : Bool := (passW w b).any fun q => decide (0 ≤ q.1)
def missedL (w : WatchM) (k : Nat) : List Int := ((List.range k).filter fun b => !rightIn w b).map fun (b : Nat) => (b : Int)
noncomputable def missedV (l : LineM) (r : RideM) : List Int := if openE l r 0 = 0 then missedL (watchL l r) (minL (whereV l r)).toNat else []
theorem missedV_ok {l : LineM} {r : RideM} (h : openE l r 0 = 0) : missedV l r = missedL (watchL l r) (minL (whereV l r)).toNat := if_pos h
theorem missedV_no {l : LineM} {r : RideM} (h : ¬ openE l r 0 = 0) : missedV l r = [] := if_neg h
abbrev BM := List (Int × Bool)
def startM (n : Nat) : BM := (List.range n).map fun (k : Nat) => ((k : Int), true)
theorem startM_succ {n : Nat} : gsetK (startM n) (n : Int) true = startM (n + 1) := by
  have hn : (startM n).lookup (n : Int) = none := glookup_none.2 fun p hp e => by
    unfold startM at hp
    obtain ⟨k, hk, rfl⟩ := List.mem_map.1 hp
    have := List.mem_range.1 hk
    simp only at e; omega
  unfold gsetK
  rw [hn]
  simp [startM, List.range_succ]
/-- what is left: each key once, those that are not seen -/
structure LeftOk (n : Nat) (m : BM) (P : Int → Prop) : Prop where
  nodup : (m.map (·.1)).Nodup
  mem : ∀ i : Int, i ∈ m.map (·.1) ↔ (0 ≤ i ∧ i < (n : Int)) ∧ ¬ P i
theorem left_start {n : Nat} : LeftOk n (startM n) (fun _ => False) := by
  have e : (startM n).map (·.1) = (List.range n).map fun (k : Nat) => (k : Int) := by simp [startM]
  refine ⟨by rw [e]; exact List.Pairwise.map _ (fun a b (h : a ≠ b) => by show (a : Int) ≠ (b : Int); omega) List.nodup_range, fun i => ?_⟩
  rw [e, List.mem_map]
  constructor
  · rintro ⟨k, hk, rfl⟩
    have := List.mem_range.1 hk
    exact ⟨by omega, fun h => h⟩
  · rintro ⟨h, _⟩
    exact ⟨i.toNat, List.mem_range.2 (by omega), by omega⟩
theorem left_del {n : Nat} {m : BM} {P : Int → Prop} {x : Int} (h : LeftOk n m P) : LeftOk n (gdelK m x) (fun i => P i ∨ i = x) := by
  have e : (gdelK m x).map (·.1) = (m.map (·.1)).filter fun i => !decide (i = x) := by
    unfold gdelK; rw [List.filter_map]; rfl
  refine ⟨by rw [e]; exact h.nodup.filter _, fun i => ?_⟩
  rw [e, List.mem_filter, h.mem]
  simp only [Bool.not_eq_true', decide_eq_false_iff_not]
  constructor
  · rintro ⟨⟨h1, h2⟩, h3⟩; exact ⟨h1, fun q => q.elim h2 h3⟩
  · rintro ⟨h1, h2⟩; exact ⟨⟨h1, fun q => h2 (.inl q)⟩, fun q => h2 (.inr q)⟩
theorem left_iff {n : Nat} {m : BM} {P R : Int → Prop} (h : LeftOk n m P) (he : ∀ i, P i ↔ R i) : LeftOk n m R := ⟨h.nodup, fun i => by rw [h.mem, he]⟩
theorem count_nodup {x : Int} : ∀ {l : List Int}, l.Nodup → x ∈ l → l.count x = 1
  | [], _, h => by cases h
  | y :: l, hn, hx => by
    rw [List.nodup_cons] at hn
    by_cases e : y = x
    · subst e
      rw [List.count_cons_self, List.count_eq_zero.2 hn.1]
    · rw [List.count_cons_of_ne e]
      rcases List.mem_cons.1 hx with q | q
      · exact absurd q.symm e
      · exact count_nodup hn.2 q
theorem perm_mem {a b : List Int} (ha : a.Nodup) (hb : b.Nodup) (h : ∀ x, x ∈ a ↔ x ∈ b) : a.Perm b := by
  rw [List.perm_iff_count]
  intro x
  have c : ∀ l : List Int, l.Nodup → l.count x = if x ∈ l then 1 else 0 := fun l hl => by
    split
    · rename_i hx; exact count_nodup hl hx
    · rename_i hx; exact List.count_eq_zero.2 hx
  rw [c a ha, c b hb]
  simp only [h x]
theorem falseL_sorted (w : WatchM) (n : Nat) : (falseL w n).Pairwise (· ≤ ·) := by
  unfold falseL
  refine List.Pairwise.filter _ (List.Pairwise.map _ (fun a b (h : a < b) => by show (a : Int) ≤ (b : Int); omega) List.pairwise_lt_range)
theorem falseL_nodup (w : WatchM) (n : Nat) : (falseL w n).Nodup := by
  unfold falseL
  exact List.Pairwise.filter _ (List.Pairwise.map _ (fun a b (h : a ≠ b) => by show (a : Int) ≠ (b : Int); omega) List.nodup_range)
theorem mem_falseL {w : WatchM} {n : Nat} {i : Int} : i ∈ falseL w n ↔ (0 ≤ i ∧ i < (n : Int)) ∧ ¬ seenTo w w.n i := by
  unfold falseL
  rw [List.mem_filter, List.mem_map]
  simp only [Bool.not_eq_true', decide_eq_false_iff_not]
  constructor
  · rintro ⟨⟨k, hk, rfl⟩, h2⟩
    have := List.mem_range.1 hk
    exact ⟨by omega, h2⟩
  · rintro ⟨h1, h2⟩
    exact ⟨⟨i.toNat, List.mem_range.2 (by omega), by omega⟩, h2⟩
theorem false_done {w : WatchM} {n : Nat} {m : BM} {l s : List Int} (h : LeftOk n m (seenTo w w.n)) (hl : l.Perm (m.map (·.1))) (hs : s.Perm l) (ho : s.Pairwise (· ≤ ·)) : s = falseL w n :=
  sorted_unique ((hs.trans hl).trans (perm_mem h.nodup (falseL_nodup w n) fun x => by rw [h.mem, mem_falseL])) ho (falseL_sorted w n)
/-- one more key is taken -/
theorem take_key {m l : BM} {ys : List Int} {x : Int} {y : Bool} (hn : (l.map (·.1)).Nodup) (hm : (x, y) ∈ l) (h : (ys ++ l.map (·.1)).Perm (m.map (·.1))) : ((ys ++ [x]) ++ (gdelK l x).map (·.1)).Perm (m.map (·.1)) := by
  refine List.Perm.trans ?_ h
  rw [List.append_assoc]
  refine List.Perm.append_left ys ?_
  have e : (gdelK l x).map (·.1) = (l.map (·.1)).filter fun i => !decide (i = x) := by
    unfold gdelK; rw [List.filter_map]; rfl
  rw [e]
  refine perm_mem (List.nodup_cons.2 ⟨by simp, hn.filter _⟩) hn fun z => ?_
  simp only [List.singleton_append, List.mem_cons, List.mem_filter, Bool.not_eq_true', decide_eq_false_iff_not]
  constructor
  · rintro (rfl | ⟨h1, _⟩)
    · exact List.mem_map.2 ⟨(z, y), hm, rfl⟩
    · exact h1
  · intro hz
    by_cases e : z = x
    · exact .inl e
    · exact .inr ⟨hz, e⟩
theorem seen_pass {w : WatchM} {b : Nat} {mf mb : List (TallyV × Int)} (hf : MinOk mf (fwd w b)) (hb : MaxOk mb (back w (b + 1))) (nf : (mf.map (·.1)).Nodup) (nb : (mb.map (·.1)).Nodup) {k : List (Int × SpanV)} (h1 : ∀ q ∈ k, q ∈ passM w b mf mb) (h2 : ∀ q ∈ passM w b mf mb, q ∈ k) (P : Int → Prop) :
    (∃ q ∈ k, P q.1) ↔ ∃ q ∈ passW w b, P q.1 := by
  constructor
  · rintro ⟨q, hq, hp⟩; exact ⟨q, pass_in hf hb nf nb (h1 q hq), hp⟩
  · rintro ⟨q, hq, hp⟩
    obtain ⟨q', hq', e, _⟩ := pass_out hf hb nf nb hq
    exact ⟨q', h2 q' hq', by rw [e]; exact hp⟩
theorem seen_succ {w : WatchM} {b : Nat} {i : Int} : seenTo w (b + 1) i ↔ seenTo w b i ∨ ∃ q ∈ passW w b, q.1 = i := by
  unfold seenTo
  constructor
  · rintro ⟨b', hb, h⟩
    rcases Nat.lt_or_ge b' b with q | q
    · exact .inl ⟨b', q, h⟩
    · obtain rfl : b' = b := by omega
      exact .inr h
  · rintro (⟨b', hb, h⟩ | h)
    · exact ⟨b', by omega, h⟩
    · exact ⟨b, by omega, h⟩
theorem seen_snoc {A : Prop} {k : List (Int × SpanV)} {q : Int × SpanV} {i : Int} : ((A ∨ ∃ z ∈ k, z.1 = i) ∨ i = q.1) ↔ (A ∨ ∃ z ∈ k ++ [q], z.1 = i) := by
  constructor
  · rintro ((h | ⟨z, hz, h⟩) | h)
    · exact .inl h
    · exact .inr ⟨z, List.mem_append_left _ hz, h⟩
    · exact .inr ⟨q, by simp, h.symm⟩
  · rintro (h | ⟨z, hz, h⟩)
    · exact .inl (.inl h)
    · rcases List.mem_append.1 hz with hz | hz
      · exact .inl (.inr ⟨z, hz, h⟩)
      · rw [List.mem_singleton.1 hz] at h; exact .inr h.symm
theorem left_len {n : Nat} {m : BM} {P : Int → Prop} (h : LeftOk n m P) : m.length ≤ n := by
  have hp : (m.map (·.1)).Perm (((List.range n).map fun (k : Nat) => (k : Int)).filter fun i => decide (i ∈ m.map (·.1))) := perm_mem h.nodup (List.Pairwise.filter _ (List.Pairwise.map _ (fun a b (h : a ≠ b) => by show (a : Int) ≠ (b : Int); omega) List.nodup_range)) fun x => by
    rw [List.mem_filter]
    constructor
    · intro hx
      have := (h.mem x).1 hx
      exact ⟨List.mem_map.2 ⟨x.toNat, List.mem_range.2 (by omega), by omega⟩, decide_eq_true hx⟩
    · exact fun hx => of_decide_eq_true hx.2
  have h1 := hp.length_eq
  have h2 := List.length_filter_le (fun i => decide (i ∈ m.map (·.1))) ((List.range n).map fun (k : Nat) => (k : Int))
  rw [List.length_map] at h1
  rw [List.length_map, List.length_range] at h2
  omega
theorem min_b {l : LineM} {r : RideM} (h : openE l r 0 = 0) : 0 ≤ minL (whereV l r) ∧ minL (whereV l r) ≤ (l.Beams.length : Int) := by
  have h1 := (min_mem (whereV_ne h)).1
  rw [whereV_ok h] at h1 ⊢
  obtain ⟨i, e, hi, _⟩ := mem_nums.1 h1
  have hn : (watchL l r).n = l.Beams.length := leasts_len
  omega
theorem seen_zero {w : WatchM} {i : Int} : ¬ seenTo w 0 i := fun ⟨b, hb, _⟩ => absurd hb (Nat.not_lt_zero _)
end
section
set_option linter.unusedVariables false
/-- a truth goes on from here -/
def Viab (w : WatchM) (b : Nat) (p : TallyV × Int) : Prop := ∃ k, b + k ≤ w.n ∧ ∃ q ∈ reachW w k b p, mayT w q.1 = true
/-- a truth may have come here, or earlier -/
def Live (w : WatchM) (b : Nat) (p : TallyV × Int) : Prop := ∃ v, (p.1, v) ∈ fwd w b ∧ v ≤ p.2
def shT (n : Int) (p : TallyV × Int) : TallyV × Int := (p.1, p.2 + n)
section
variable {w : WatchM}
theorem reach_add : ∀ (k j b : Nat) (p q z : TallyV × Int), q ∈ reachW w k b p → z ∈ reachW w j (b + k) q → z ∈ reachW w (k + j) b p := by
  intro k
  induction k with
  | zero =>
    intro j b p q z h1 h2
    simp only [reachW, List.mem_singleton] at h1
    subst h1
    rw [Nat.zero_add]; exact h2
  | succ k ih =>
    intro j b p q z h1 h2
    obtain ⟨o, ho, p', e, h⟩ := mem_reach.1 h1
    rw [show k + 1 + j = (k + j) + 1 by omega]
    exact mem_reach.2 ⟨o, ho, p', e, ih j (b + 1) p' q z h (by rw [show b + 1 + k = b + (k + 1) by omega]; exact h2)⟩
theorem reach_early : ∀ (k b : Nat) (t : TallyV) (x y : Int) (q : TallyV × Int), y ≤ x → q ∈ reachW w k b (t, x) → ∃ q' ∈ reachW w k b (t, y), q'.1 = q.1 ∧ q'.2 ≤ q.2 := by
  intro k
  induction k with
  | zero =>
    intro b t x y q hxy hq
    simp only [reachW, List.mem_singleton] at hq ⊢
    subst hq
    exact ⟨_, rfl, rfl, hxy⟩
  | succ k ih =>
    intro b t x y q hxy hq
    obtain ⟨o, ho, p', e, h⟩ := mem_reach.1 hq
    obtain ⟨h1, rfl⟩ := fwdO_some.1 e
    simp only at h1 h
    obtain ⟨q', hq', h2, h3⟩ := ih (b + 1) _ _ (max (y + leastAt w b) o.2.Lo) q (by omega) h
    exact ⟨q', mem_reach.2 ⟨o, ho, _, fwdO_some.2 ⟨by simp only; omega, rfl⟩, hq'⟩, h2, h3⟩
theorem viab_early {b : Nat} {t : TallyV} {x y : Int} (h : Viab w b (t, x)) (hy : y ≤ x) : Viab w b (t, y) := by
  obtain ⟨k, hk, q, hq, hm⟩ := h
  obtain ⟨q', hq', e, _⟩ := reach_early k b t x y q hy hq
  exact ⟨k, hk, q', hq', by rw [e]; exact hm⟩
theorem viab_back {k b : Nat} {p q : TallyV × Int} (h : q ∈ reachW w k b p) (hv : Viab w (b + k) q) : Viab w b p := by
  obtain ⟨j, hj, z, hz, hm⟩ := hv
  exact ⟨k + j, by omega, z, reach_add k j b p q z h hz, hm⟩
theorem live_step {b : Nat} {p q : TallyV × Int} {o : Int × SpanV} (h : Live w b p) (ho : o ∈ opts w b) (e : fwdO w b p o = some q) : Live w (b + 1) q := by
  obtain ⟨v, hv, hle⟩ := h
  obtain ⟨h1, rfl⟩ := fwdO_some.1 e
  exact ⟨max (v + leastAt w b) o.2.Lo, mem_fwd_succ.2 ⟨_, hv, o, ho, fwdO_some.2 ⟨by simp only; omega, rfl⟩⟩, by simp only; omega⟩
theorem live_fwd {b : Nat} {p : TallyV × Int} (h : p ∈ fwd w b) : Live w b p := ⟨p.2, h, Int.le_refl _⟩
theorem fwd_start (hl : ∀ b, 0 ≤ leastAt w b) : ∀ (b : Nat) (p : TallyV × Int), p ∈ fwd w b → w.Start ≤ p.2 := by
  intro b
  induction b with
  | zero => intro p hp; simp only [fwd, List.mem_singleton] at hp; subst hp; exact Int.le_refl _
  | succ b ih =>
    intro q hq
    obtain ⟨p, hp, o, ho, e⟩ := mem_fwd_succ.1 hq
    obtain ⟨_, rfl⟩ := fwdO_some.1 e
    have := ih p hp
    have := hl b
    simp only; omega
/-- a beam is passed at a time, by a signal -/
def PassAt (w : WatchM) (b : Nat) (s t : Int) : Prop := ∃ p ∈ fwd w b, ∃ o ∈ opts w b, o.1 = s ∧ (max (p.2 + leastAt w b) o.2.Lo ≤ t ∧ t ≤ min o.2.Hi w.Now) ∧ Viab w (b + 1) (addT p.1 (oneT o.1), t)
theorem pass_id (hl : ∀ b, 0 ≤ leastAt w b) {b : Nat} (hb : b < w.n) {s t : Int} : (∃ q ∈ passW w b, q.1 = s ∧ q.2.Lo ≤ t ∧ t ≤ q.2.Hi) ↔ PassAt w b s t := by
  constructor
  · rintro ⟨q, hq, hs, h1, h2⟩
    obtain ⟨o, ho, p, hp, u, hu, e⟩ := mem_passM.1 hq
    obtain ⟨h3, h4, rfl⟩ := passO_some.1 e
    simp only [passX] at h1 h2 h3
    have hn : u.2 ≤ w.Now := back_le hl _ _ hu
    obtain ⟨k, hk, q, hq', h5⟩ := back_out hl (w.n - (b + 1)) (b + 1) (addT p.1 (oneT o.1), t) u (by omega) (by simp only; omega) hu
    refine ⟨p, hp, o, ho, hs, ⟨by omega, by omega⟩, k, hk, q, hq', ?_⟩
    rw [h5]
    unfold passT at h4
    rw [show addT (addT p.1 (oneT o.1)) u.1 = addT (addT p.1 u.1) (oneT o.1) by simp only [addT, TallyV.mk.injEq]; omega]
    exact h4
  · rintro ⟨p, hp, o, ho, hs, ⟨h1, h2⟩, k, hk, q, hq, hm⟩
    obtain ⟨u, hu, h3, h4⟩ := back_in k (b + 1) _ q hk (by simp only; omega) hq
    simp only at h3 h4
    refine ⟨(o.1, passX w b p u o), mem_passM.2 ⟨o, ho, p, hp, u, hu, passO_some.2 ⟨by simp only [passX]; omega, ?_, rfl⟩⟩, hs, by simp only [passX]; omega, by simp only [passX]; omega⟩
    unfold passT
    rw [h4] at hm
    rw [show addT (addT p.1 u.1) (oneT o.1) = addT (addT p.1 (oneT o.1)) u.1 by simp only [addT, TallyV.mk.injEq]; omega]
    exact hm
end
structure Sim (w w' : WatchM) (n : Int) (f : Int → Int) : Prop where
  start : w'.Start = w.Start + n
  now : w'.Now = w.Now + n
  wn : w'.n = w.n
  low : ∀ b, 0 ≤ leastAt w b
  least : ∀ b, leastAt w' b = leastAt w b
  may : ∀ t, mayT w t = true → mayT w' t = true
  sgn : ∀ s, 0 ≤ f s ↔ 0 ≤ s
  opt : ∀ (b : Nat) (p : TallyV × Int) (o : Int × SpanV), b < w.n → w.Start ≤ p.2 → Live w b p → o ∈ opts w b → max (p.2 + leastAt w b) o.2.Lo ≤ min o.2.Hi w.Now → Viab w (b + 1) (addT p.1 (oneT o.1), max (p.2 + leastAt w b) o.2.Lo) →
    ∃ o' ∈ opts w' b, o'.1 = f o.1 ∧ ∀ t, w.Start ≤ t → t ≤ w.Now → ((o.2.Lo ≤ t ∧ t ≤ o.2.Hi) ↔ (o'.2.Lo ≤ t + n ∧ t + n ≤ o'.2.Hi))
section
variable {w w' : WatchM} {n : Int} {f g : Int → Int}
theorem Sim.one (h : Sim w w' n f) (s : Int) : oneT (f s) = oneT s := by
  unfold oneT
  have := h.sgn s
  by_cases q : s < 0
  · rw [if_pos q, if_pos (by omega)]
  · rw [if_neg q, if_neg (by omega)]
theorem Sim.step (h : Sim w w' n f) {b : Nat} {p q : TallyV × Int} {o : Int × SpanV} (hb : b < w.n) (hs : w.Start ≤ p.2) (hl : Live w b p) (ho : o ∈ opts w b) (e : fwdO w b p o = some q) (hv : Viab w (b + 1) q) :
    ∃ o' ∈ opts w' b, fwdO w' b (shT n p) o' = some (shT n q) := by
  obtain ⟨h1, rfl⟩ := fwdO_some.1 e
  obtain ⟨o', ho', e1, h2⟩ := h.opt b p o hb hs hl ho h1 hv
  have hlo := h.low b
  have c1 := h2 (max (p.2 + leastAt w b) o.2.Lo) (by omega) (by omega)
  have c2 := h2 (max (p.2 + n + leastAt w b) o'.2.Lo - n) (by omega)
  refine ⟨o', ho', fwdO_some.2 ?_⟩
  simp only [shT, h.least, h.now]
  rw [e1, h.one]
  have d1 := c1.1 (by omega)
  have d2 := (c2 (by omega)).2 (by omega)
  refine ⟨by omega, ?_⟩
  simp only [Prod.mk.injEq, true_and]
  omega
theorem Sim.reach (h : Sim w w' n f) : ∀ (k b : Nat) (p q : TallyV × Int), b + k ≤ w.n → w.Start ≤ p.2 → Live w b p → q ∈ reachW w k b p → Viab w (b + k) q → shT n q ∈ reachW w' k b (shT n p) := by
  intro k
  induction k with
  | zero =>
    intro b p q _ _ _ hq _
    simp only [reachW, List.mem_singleton] at hq ⊢
    rw [hq]
  | succ k ih =>
    intro b p q hb hs hl hq hv
    obtain ⟨o, ho, p', e, hq'⟩ := mem_reach.1 hq
    have hv' : Viab w (b + 1) p' := viab_back hq' (by rw [show b + 1 + k = b + (k + 1) by omega]; exact hv)
    obtain ⟨o', ho', e'⟩ := h.step (by omega) hs hl ho e hv'
    have h1 := fwdO_some.1 e
    have h2 := h.low b
    exact mem_reach.2 ⟨o', ho', _, e', ih (b + 1) p' q (by omega) (by rw [h1.2]; simp only; omega) (live_step hl ho e) hq' (by rw [show b + 1 + k = b + (k + 1) by omega]; exact hv)⟩
theorem Sim.viab (h : Sim w w' n f) {b : Nat} {p : TallyV × Int} (hs : w.Start ≤ p.2) (hl : Live w b p) (hv : Viab w b p) : Viab w' b (shT n p) := by
  obtain ⟨k, hk, q, hq, hm⟩ := hv
  exact ⟨k, by rw [h.wn]; exact hk, _, h.reach k b p q hk hs hl hq ⟨0, by omega, q, by simp [reachW], hm⟩, h.may _ hm⟩
theorem Sim.fwd (h : Sim w w' n f) {b : Nat} {q : TallyV × Int} (hb : b ≤ w.n) (hq : q ∈ fwd w b) (hv : Viab w b q) : shT n q ∈ Go.Proofs.YthiigjekcdjkkaaGreat.fwd w' b := by
  obtain ⟨p, hp, hr⟩ := (reach_fwd b 0 q).1 (by rw [Nat.zero_add]; exact hq)
  have hr' := h.reach b 0 p q (by omega) (fwd_start h.low 0 p hp) (live_fwd hp) hr (by rw [Nat.zero_add]; exact hv)
  have : shT n p ∈ Go.Proofs.YthiigjekcdjkkaaGreat.fwd w' 0 := by
    simp only [Go.Proofs.YthiigjekcdjkkaaGreat.fwd, List.mem_singleton] at hp ⊢
    subst hp
    rw [h.start]; rfl
  have h2 := (reach_fwd b 0 (shT n q)).2 ⟨_, this, hr'⟩
  rwa [Nat.zero_add] at h2
theorem Sim.any (h : Sim w w' n f) {b : Nat} (hb : b ≤ w.n) (hm : mayAny w (Go.Proofs.YthiigjekcdjkkaaGreat.fwd w b) = true) : mayAny w' (Go.Proofs.YthiigjekcdjkkaaGreat.fwd w' b) = true := by
  unfold mayAny at hm ⊢
  obtain ⟨p, hp, h1⟩ := List.any_eq_true.1 hm
  exact List.any_eq_true.2 ⟨_, h.fwd hb hp ⟨0, by omega, p, by simp [reachW], h1⟩, h.may _ h1⟩
theorem Sim.pass (h : Sim w w' n f) {b : Nat} (hb : b < w.n) {s t : Int} (hp : PassAt w b s t) : PassAt w' b (f s) (t + n) := by
  obtain ⟨p, hp, o, ho, rfl, ⟨h1, h2⟩, hv⟩ := hp
  have hs := fwd_start h.low b p hp
  have hl := h.low b
  have hv1 : Viab w (b + 1) (addT p.1 (oneT o.1), max (p.2 + leastAt w b) o.2.Lo) := viab_early hv h1
  have e : fwdO w b p o = some (addT p.1 (oneT o.1), max (p.2 + leastAt w b) o.2.Lo) := fwdO_some.2 ⟨by omega, rfl⟩
  have hvp : Viab w b p := viab_back (k := 1) (mem_reach.2 ⟨o, ho, _, e, by simp [reachW]⟩) hv1
  obtain ⟨o', ho', e1, h3⟩ := h.opt b p o hb hs (live_fwd hp) ho (by omega) hv1
  have c := (h3 t (by omega) (by omega)).1 (by omega)
  refine ⟨shT n p, h.fwd (by omega) hp hvp, o', ho', e1, ?_, ?_⟩
  · simp only [shT, h.least, h.now]; omega
  · have h4 := h.viab (b := b + 1) (p := (addT p.1 (oneT o.1), t)) (by simp only; omega) ⟨_, mem_fwd_succ.2 ⟨p, hp, o, ho, e⟩, h1⟩ hv
    rw [e1, h.one]; exact h4
theorem sim_nums (h : Sim w w' n f) (h' : Sim w' w (-n) g) : numsF w' = numsF w := by
  unfold numsF
  rw [h.wn]
  unfold numsTo
  congr 1
  refine List.filter_congr fun b hb => ?_
  have hb := List.mem_range.1 hb
  rw [Bool.eq_iff_iff]
  exact ⟨h'.any (by rw [h.wn]; omega), h.any (by omega)⟩
theorem sim_times (h : Sim w w' n f) (h' : Sim w' w (-n) g) {b : Nat} (hb : b < w.n) {t : Int} : (∃ q ∈ passW w b, q.2.Lo ≤ t ∧ t ≤ q.2.Hi) ↔ ∃ q ∈ passW w' b, q.2.Lo ≤ t + n ∧ t + n ≤ q.2.Hi := by
  constructor
  · rintro ⟨q, hq, h1, h2⟩
    obtain ⟨q', hq', _, h3⟩ := (pass_id h'.low (by rw [h.wn]; exact hb)).2 (h.pass hb ((pass_id h.low hb).1 ⟨q, hq, rfl, h1, h2⟩))
    exact ⟨q', hq', h3⟩
  · rintro ⟨q, hq, h1, h2⟩
    obtain ⟨q', hq', _, h3⟩ := (pass_id h.low hb).2 (h'.pass (by rw [h.wn]; exact hb) ((pass_id h'.low (by rw [h.wn]; exact hb)).1 ⟨q, hq, rfl, h1, h2⟩))
    exact ⟨q', hq', by omega, by omega⟩
theorem sim_seen (h : Sim w w' n f) (hl' : ∀ b, 0 ≤ leastAt w' b) {b : Nat} (hb : b < w.n) {s : Int} (hq : ∃ q ∈ passW w b, q.1 = s) : ∃ q ∈ passW w' b, q.1 = f s := by
  obtain ⟨q, hq, e⟩ := hq
  have hle : q.2.Lo ≤ q.2.Hi := pass_le hq
  obtain ⟨q', hq', e', _⟩ := (pass_id hl' (by rw [h.wn]; exact hb)).2 (h.pass hb ((pass_id h.low hb).1 ⟨q, hq, e, Int.le_refl _, hle⟩))
  exact ⟨q', hq', e'⟩
theorem sim_hull (h : Sim w w' n f) (h' : Sim w' w (-n) g) {b : Nat} (hb : b < w.n) : (hullF (passW w b) = noneZ ↔ hullF (passW w' b) = noneZ) ∧ (hullF (passW w b) ≠ noneZ → hullF (passW w' b) = ⟨(hullF (passW w b)).Lo + n, (hullF (passW w b)).Hi + n⟩) := by
  have key : ∀ {u v : WatchM} {m : Int}, (∀ t, (∃ q ∈ passW u b, q.2.Lo ≤ t ∧ t ≤ q.2.Hi) → ∃ q ∈ passW v b, q.2.Lo ≤ t + m ∧ t + m ≤ q.2.Hi) → hullF (passW u b) ≠ noneZ → hullF (passW v b) ≠ noneZ ∧ (hullF (passW v b)).Lo ≤ (hullF (passW u b)).Lo + m ∧ (hullF (passW u b)).Hi + m ≤ (hullF (passW v b)).Hi := by
    intro u v m ht hn
    have h1 := hull_some (l := passW u b) (fun q hq => pass_le hq) hn
    obtain ⟨x, hx, ex⟩ := h1.lo
    obtain ⟨y, hy, ey⟩ := h1.hi
    have hx2 : x.2.Lo ≤ x.2.Hi := pass_le hx
    have hy2 : y.2.Lo ≤ y.2.Hi := pass_le hy
    obtain ⟨x', hx', a1, a2⟩ := ht x.2.Lo ⟨x, hx, Int.le_refl _, hx2⟩
    obtain ⟨y', hy', b1, b2⟩ := ht y.2.Hi ⟨y, hy, hy2, Int.le_refl _⟩
    have h2 := hull_ne (l := passW v b) (fun q hq => pass_le hq) hx'
    have c1 := h2.all x' hx'
    have c2 := h2.all y' hy'
    exact ⟨h2.ne, by omega, by omega⟩
  have k1 := key (u := w) (v := w') (m := n) fun t => (sim_times h h' hb).1
  have k2 := key (u := w') (v := w) (m := -n) fun t hq => (sim_times h h' hb).2 (by rw [show t + -n + n = t by omega]; exact hq)
  refine ⟨⟨fun e => Classical.byContradiction fun q => (k2 q).1 e, fun e => Classical.byContradiction fun q => (k1 q).1 e⟩, fun q => ?_⟩
  have h1 := k1 q
  have h2 := k2 h1.1
  rw [SpanV.ext_iff]
  simp only
  omega
theorem sim_right (h : Sim w w' n f) (h' : Sim w' w (-n) g) {b : Nat} (hb : b < w.n) : rightIn w' b = rightIn w b := by
  rw [Bool.eq_iff_iff]
  unfold rightIn
  simp only [List.any_eq_true, decide_eq_true_eq]
  constructor
  · rintro ⟨q, hq, h0⟩
    obtain ⟨q', hq', e⟩ := sim_seen h' h.low (by rw [h.wn]; exact hb) ⟨q, hq, rfl⟩
    exact ⟨q', hq', by rw [e]; exact (h'.sgn _).2 h0⟩
  · rintro ⟨q, hq, h0⟩
    obtain ⟨q', hq', e⟩ := sim_seen h h'.low hb ⟨q, hq, rfl⟩
    exact ⟨q', hq', by rw [e]; exact (h.sgn _).2 h0⟩
end
section
variable {l l' : LineM} {r r' : RideM} {n : Int} {f g : Int → Int}
structure RSim (l : LineM) (r : RideM) (l' : LineM) (r' : RideM) (n : Int) (f g : Int → Int) : Prop where
  line : lineE l = 0
  line' : lineE l' = 0
  ride : RideOk l r
  ride' : RideOk l' r'
  beams : l'.Beams.length = l.Beams.length
  to : Sim (watchL l r) (watchL l' r') n f
  fro : Sim (watchL l' r') (watchL l r) (-n) g
theorem RSim.nums (h : RSim l r l' r' n f g) : numsF (watchL l' r') = numsF (watchL l r) := sim_nums h.to h.fro
theorem RSim.e (h : RSim l r l' r' n f g) {me : Int} : openE l' r' me = openE l r me := by
  by_cases hm : me = 0
  · by_cases q : numsF (watchL l r) = []
    · rw [open_bad_e h.line h.ride hm q, open_bad_e h.line' h.ride' hm (h.nums.trans q)]
    · rw [open_ok_e h.line h.ride hm q, open_ok_e h.line' h.ride' hm (by rw [h.nums]; exact q)]
  · rw [open_more_e h.line h.ride hm, open_more_e h.line' h.ride' hm]
theorem RSim.where_ (h : RSim l r l' r' n f g) : whereV l' r' = whereV l r := by
  by_cases q : openE l r 0 = 0
  · rw [whereV_ok q, whereV_ok (h.e.trans q), h.nums]
  · rw [whereV_no q, whereV_no (by rw [h.e]; exact q)]
theorem RSim.beam (h : RSim l r l' r' n f g) {b : Int} : beamE l' b = beamE l b := by unfold beamE; rw [h.beams]
theorem RSim.bn (h : RSim l r l' r' n f g) : (watchL l r).n = l.Beams.length := leasts_len
theorem RSim.passed (h : RSim l r l' r' n f g) {b : Nat} (hb : b < l.Beams.length) : passedE l' r' b = passedE l r b ∧ (passedE l r b = 0 → passedV l' r' b = ⟨(passedV l r b).Lo + n, (passedV l r b).Hi + n⟩) ∧ (¬ passedE l r b = 0 → passedV l' r' b = passedV l r b) := by
  have hh := sim_hull h.to h.fro (b := b) (by rw [h.bn]; exact hb)
  by_cases ho : openE l r (beamE l b) = 0
  · have ho' : openE l' r' (beamE l' b) = 0 := by rw [h.beam, h.e]; exact ho
    by_cases e : hullW l r b = noneZ
    · have e1 := passed_none ho e
      have e2 := passed_none ho' (hh.1.1 e)
      exact ⟨e2.1.trans e1.1.symm, fun q => by rw [e1.1] at q; omega, fun _ => e2.2.trans e1.2.symm⟩
    · have e1 := passed_some ho e
      have e2 := passed_some ho' (fun q => e (hh.1.2 q))
      refine ⟨e2.1.trans e1.1.symm, fun _ => ?_, fun q => absurd e1.1 q⟩
      rw [e2.2, e1.2]; exact hh.2 e
  · have e1 := passed_bad ho
    have e2 := passed_bad (l := l') (r := r') (b := (b : Int)) (by rw [h.beam, h.e]; exact ho)
    rw [h.beam, h.e] at e2
    exact ⟨e2.1.trans e1.1.symm, fun q => absurd (e1.1.symm.trans q) ho, fun _ => e2.2.trans e1.2.symm⟩
theorem RSim.passed0 (h : RSim l r l' r' 0 f g) {b : Nat} (hb : b < l.Beams.length) : passedE l' r' b = passedE l r b ∧ passedV l' r' b = passedV l r b := by
  have h1 := h.passed hb
  refine ⟨h1.1, ?_⟩
  by_cases q : passedE l r b = 0
  · rw [h1.2.1 q, SpanV.ext_iff]
    simp only
    omega
  · exact h1.2.2 q
theorem RSim.missed (h : RSim l r l' r' n f g) : missedV l' r' = missedV l r := by
  by_cases q : openE l r 0 = 0
  · rw [missedV_ok q, missedV_ok (h.e.trans q), h.where_]
    have hb := min_b q
    unfold missedL
    congr 1
    refine List.filter_congr fun b hb2 => ?_
    have hb2 := List.mem_range.1 hb2
    rw [sim_right h.to h.fro (by rw [h.bn]; omega)]
  · rw [missedV_no q, missedV_no (by rw [h.e]; exact q)]
end
end
section
set_option linter.unusedVariables false
theorem LineRaw.more {l : LineM} {az : List RA} {fa fi fk ms : Int} (h : LineRaw l az) : LineRaw ⟨l.Track, fa, l.Clocks, l.Beams, fi, fk, ms⟩ az := by cases h; constructor <;> assumption
theorem LineIn.more {l : LineM} {az : List RA} {fa fi fk ms : Int} (h : LineIn l az) : LineIn ⟨l.Track, fa, l.Clocks, l.Beams, fi, fk, ms⟩ az := by cases h; constructor <;> assumption
theorem bad_of {l : LineM} {r : RideM} (hl : lineE l = 0) (hr : RideOk l r) (he : ¬ openE l r 0 = 0) : openE l r 0 = 8 := by
  by_cases e : numsF (watchL l r) = []
  · exact open_bad_e hl hr rfl e
  · exact absurd (open_ok_e hl hr rfl e) he
end
section
set_option linter.unusedVariables false
def fewR (i : Nat) (r : RideM) : RideM := ⟨r.Start, r.Now, r.Signals.take i ++ r.Signals.drop (i + 1)⟩
def lessL (l : LineM) : LineM := ⟨l.Track, l.Fast, l.Clocks, l.Beams, l.Finish, l.Fakes - 1, l.Misses⟩
theorem few_len {α : Type} {sg : List α} {i : Nat} (hi : i < sg.length) : (sg.take i ++ sg.drop (i + 1)).length = sg.length - 1 := by
  rw [List.length_append, List.length_take, List.length_drop]; omega
theorem few_lo {α : Type} {sg : List α} {i k : Nat} (hi : i < sg.length) (hk : k < i) : (sg.take i ++ sg.drop (i + 1))[k]? = sg[k]? := by
  rw [List.getElem?_append_left (by rw [List.length_take]; omega), List.getElem?_take, if_pos hk]
theorem few_hi {α : Type} {sg : List α} {i k : Nat} (hi : i < sg.length) (hk : i ≤ k) : (sg.take i ++ sg.drop (i + 1))[k]? = sg[k + 1]? := by
  rw [List.getElem?_append_right (by rw [List.length_take]; omega), List.length_take, List.getElem?_drop]
  congr 1
  omega
noncomputable def cntN (N : Nat) (P : Nat → Prop) : Nat := ((List.range N).filter fun k => @decide (P k) (Classical.propDecidable _)).length
theorem cntN_succ {N : Nat} {P : Nat → Prop} : (P N → cntN (N + 1) P = cntN N P + 1) ∧ (¬ P N → cntN (N + 1) P = cntN N P) := by
  unfold cntN
  rw [List.range_succ, List.filter_append, List.length_append]
  constructor
  · intro h
    have : @decide (P N) (Classical.propDecidable _) = true := (@decide_eq_true _ (Classical.propDecidable _) h)
    simp [this]
  · intro h
    have : @decide (P N) (Classical.propDecidable _) = false := (@decide_eq_false _ (Classical.propDecidable _) h)
    simp [this]
theorem cntN_le {N : Nat} {P : Nat → Prop} : cntN N P ≤ N := by
  unfold cntN
  exact Nat.le_trans (List.length_filter_le _ _) (by simp)
theorem cntN_mono {P Q : Nat → Prop} (h : ∀ k, P k → Q k) : ∀ N, cntN N P ≤ cntN N Q
  | 0 => Nat.le_refl _
  | N + 1 => by
    have ih := cntN_mono h N
    by_cases hp : P N
    · rw [cntN_succ.1 hp, cntN_succ.1 (h N hp)]; omega
    · rw [cntN_succ.2 hp]
      by_cases hq : Q N
      · rw [cntN_succ.1 hq]; omega
      · rw [cntN_succ.2 hq]; exact ih
theorem cntN_lt {P Q : Nat → Prop} (h : ∀ k, P k → Q k) {k : Nat} (hq : Q k) (hp : ¬ P k) : ∀ N, k < N → cntN N P + 1 ≤ cntN N Q
  | 0, hk => absurd hk (Nat.not_lt_zero _)
  | N + 1, hk => by
    by_cases e : k = N
    · subst e
      have := cntN_mono h k
      rw [cntN_succ.2 hp, cntN_succ.1 hq]; omega
    · have ih := cntN_lt h hq hp N (by omega)
      by_cases hp' : P N
      · rw [cntN_succ.1 hp', cntN_succ.1 (h N hp')]; omega
      · rw [cntN_succ.2 hp']
        by_cases hq' : Q N
        · rw [cntN_succ.1 hq']; omega
        · rw [cntN_succ.2 hq']; exact ih
section
variable {l : LineM} {r : RideM} {i : Nat}
/-- no truth takes the signal to be right -/
def Never (l : LineM) (r : RideM) (i : Nat) : Prop := ¬ seenTo (watchL l r) (watchL l r).n (i : Int)
theorem never_opt (hl : ∀ b, 0 ≤ leastAt (watchL l r) b) (hn : Never l r i) {b : Nat} {p : TallyV × Int} {o : Int × SpanV} (hb : b < (watchL l r).n) (hp : Live (watchL l r) b p) (ho : o ∈ opts (watchL l r) b) (hle : max (p.2 + leastAt (watchL l r) b) o.2.Lo ≤ min o.2.Hi (watchL l r).Now)
    (hv : Viab (watchL l r) (b + 1) (addT p.1 (oneT o.1), max (p.2 + leastAt (watchL l r) b) o.2.Lo)) : ¬ o.1 = (i : Int) := fun e => by
  obtain ⟨v, hv1, hv2⟩ := hp
  obtain ⟨q, hq, e2, _⟩ := (pass_id hl hb (s := o.1) (t := max (p.2 + leastAt (watchL l r) b) o.2.Lo)).2 ⟨(p.1, v), hv1, o, ho, rfl, by simp only; omega, hv⟩
  exact hn ⟨b, hb, q, hq, e2.trans e⟩
theorem right_cnt (hl : ∀ b, 0 ≤ leastAt (watchL l r) b) (hn : Never l r i) : ∀ (b : Nat) (p : TallyV × Int), b ≤ (watchL l r).n → p ∈ fwd (watchL l r) b → Viab (watchL l r) b p → p.1.right ≤ (cntN r.Signals.length (fun k => k ≠ i ∧ ∃ s, r.Signals[k]? = some s ∧ s.Beam < (b : Int)) : Int) := by
  intro b
  induction b with
  | zero =>
    intro p _ hp _
    simp only [fwd, List.mem_singleton] at hp
    subst hp
    simp only; omega
  | succ b ih =>
    intro q hb hq hv
    obtain ⟨p, hp, o, ho, e⟩ := mem_fwd_succ.1 hq
    obtain ⟨h1, rfl⟩ := fwdO_some.1 e
    have hvp : Viab (watchL l r) b p := viab_back (k := 1) (mem_reach.2 ⟨o, ho, _, e, by simp [reachW]⟩) hv
    have h2 := ih p (by omega) hp hvp
    have hne := never_opt hl hn (by omega) (live_fwd hp) ho h1 hv
    have hbl : b < l.Beams.length := by have : (watchL l r).n = l.Beams.length := leasts_len; omega
    have hm := cntN_mono (P := fun k => k ≠ i ∧ ∃ s, r.Signals[k]? = some s ∧ s.Beam < (b : Int)) (Q := fun k => k ≠ i ∧ ∃ s, r.Signals[k]? = some s ∧ s.Beam < ((b + 1 : Nat) : Int)) (fun k ⟨a, s, c, d⟩ => ⟨a, s, c, by omega⟩) r.Signals.length
    rcases (opts_L hbl).1 ho with rfl | ⟨k, hk, s, hks, ⟨hbm, hlh⟩, rfl⟩
    · simp only [addT, oneT]
      simp only [show ((-1 : Int) < 0) = True by simp, if_true]
      omega
    · have hki : k ≠ i := fun e => hne (by simp only; omega)
      have hlt := cntN_lt (P := fun k => k ≠ i ∧ ∃ s, r.Signals[k]? = some s ∧ s.Beam < (b : Int)) (Q := fun k => k ≠ i ∧ ∃ s, r.Signals[k]? = some s ∧ s.Beam < ((b + 1 : Nat) : Int)) (fun k ⟨a, s, c, d⟩ => ⟨a, s, c, by omega⟩) (k := k) ⟨hki, s, hks, by omega⟩ (fun ⟨_, s', hs', h⟩ => by rw [hks] at hs'; cases hs'; omega) r.Signals.length hk
      have e1 : (oneT ((k : Nat) : Int)).right = 1 := by unfold oneT; rw [if_neg (by omega)]
      simp only [addT, e1]
      omega
theorem fakes_pos (hl : ∀ b, 0 ≤ leastAt (watchL l r) b) (hn : Never l r i) (hi : i < r.Signals.length) (hne : ¬ numsF (watchL l r) = []) : 1 ≤ l.Fakes := by
  obtain ⟨x, hx⟩ := List.exists_mem_of_ne_nil _ hne
  obtain ⟨b, _, hb, hm⟩ := mem_nums.1 hx
  unfold mayAny at hm
  obtain ⟨p, hp, hm⟩ := List.any_eq_true.1 hm
  have h1 := right_cnt hl hn b p hb hp ⟨0, by omega, p, by simp [reachW], hm⟩
  have h2 := cntN_lt (P := fun k => k ≠ i ∧ ∃ s, r.Signals[k]? = some s ∧ s.Beam < (b : Int)) (Q := fun _ => True) (fun _ _ => trivial) (k := i) trivial (fun q => q.1 rfl) r.Signals.length hi
  have h3 := cntN_le (N := r.Signals.length) (P := fun _ => True)
  unfold mayT at hm
  have h4 := (of_decide_eq_true hm).2
  have h5 : (watchL l r).Sigs = (r.Signals.length : Int) := rfl
  have h6 : (watchL l r).Fakes = l.Fakes := rfl
  omega
theorem less_line (h : lineE l = 0) (hf : 1 ≤ l.Fakes) : lineE (lessL l) = 0 := by
  obtain ⟨ht, hok⟩ := lineE_zero h
  refine lineE_ok ht ⟨?_, hok.clock, hok.beam, hok.way⟩
  have := hok.head
  unfold HeadOk at this ⊢
  simp only [lessL] at this ⊢
  omega
theorem sig_lex (hr : RideOk l r) {k : Nat} {s t : SignalV} (hs : r.Signals[k]? = some s) (ht : r.Signals[k + 1]? = some t) : s.Beam < t.Beam ∨ s.Beam = t.Beam ∧ s.Read < t.Read := by
  have h := (hr.sig (k + 1) t ht).2
  rw [prevS_succ hs] at h
  omega
theorem few_ride (hr : RideOk l r) (hi : i < r.Signals.length) : RideOk (lessL l) (fewR i r) := by
  have hlen := few_len hi
  refine ⟨hr.time, by show (r.Signals.take i ++ r.Signals.drop (i + 1)).length ≤ 10; rw [hlen]; have := hr.len; omega, fun k s hs => ?_⟩
  change (r.Signals.take i ++ r.Signals.drop (i + 1))[k]? = some s at hs
  have hkl : k < r.Signals.length - 1 := by rw [← hlen]; exact (List.getElem?_eq_some_iff.1 hs).1
  unfold SigOk
  show SigIn l s ∧ ¬ s.Beam < (prevS (r.Signals.take i ++ r.Signals.drop (i + 1)) k).Beam ∧ ¬ (s.Beam = (prevS (r.Signals.take i ++ r.Signals.drop (i + 1)) k).Beam ∧ s.Read ≤ (prevS (r.Signals.take i ++ r.Signals.drop (i + 1)) k).Read)
  -- where it was
  have hin : SigIn l s := by
    rcases Nat.lt_or_ge k i with c | c
    · rw [few_lo hi c] at hs; exact (hr.sig k s hs).1
    · rw [few_hi hi c] at hs; exact (hr.sig (k + 1) s hs).1
  refine ⟨hin, ?_⟩
  rcases Nat.eq_zero_or_pos k with e | e
  · rw [prevS_at0 e]
    have := hin.1
    simp only; omega
  · obtain ⟨j, rfl⟩ : ∃ j, k = j + 1 := ⟨k - 1, by omega⟩
    obtain ⟨y, hy⟩ : ∃ y, (r.Signals.take i ++ r.Signals.drop (i + 1))[j]? = some y := ⟨_, List.getElem?_eq_getElem (by rw [hlen]; omega)⟩
    rw [prevS_succ hy]
    rcases Nat.lt_trichotomy (j + 1) i with c | c | c
    · rw [few_lo hi c] at hs
      rw [few_lo hi (by omega)] at hy
      have := sig_lex hr hy hs
      omega
    · rw [few_hi hi (by omega)] at hs
      rw [few_lo hi (by omega)] at hy
      obtain ⟨z, hz⟩ : ∃ z, r.Signals[j + 1]? = some z := ⟨_, List.getElem?_eq_getElem (by omega)⟩
      have h1 := sig_lex hr hy hz
      have h2 := sig_lex hr hz hs
      omega
    · rw [few_hi hi (by omega)] at hs
      rw [few_hi hi (by omega)] at hy
      have := sig_lex hr hy hs
      omega
theorem few_sigs (hi : i < r.Signals.length) : (watchL (lessL l) (fewR i r)).Sigs = (watchL l r).Sigs - 1 := by
  show ((r.Signals.take i ++ r.Signals.drop (i + 1)).length : Int) = (r.Signals.length : Int) - 1
  rw [few_len hi]; omega
def fewF (i : Nat) (s : Int) : Int := if s ≤ (i : Int) then s else s - 1
def fewB (i : Nat) (s : Int) : Int := if s < (i : Int) then s else s + 1
theorem snow_to (hl : lineE l = 0) (hr : RideOk l r) (hi : i < r.Signals.length) (hn : Never l r i) : Sim (watchL l r) (watchL (lessL l) (fewR i r)) 0 (fewF i) := by
  obtain ⟨ht, hok⟩ := lineE_zero hl
  have hw := watch_ok ht hok hr
  have hwn : (watchL l r).n = l.Beams.length := leasts_len
  have hlo : ∀ b, 0 ≤ leastAt (watchL l r) b := fun b => (hw.leastAt b).1
  refine ⟨(Int.add_zero _).symm, (Int.add_zero _).symm, ?_, hlo, fun b => ?_, fun t htm => ?_, fun s => ?_, ?_⟩
  · show (leasts _ _).length = (leasts _ _).length
    rw [leasts_len, leasts_len]; rfl
  · rw [leastAt_L, leastAt_L]; rfl
  · unfold mayT at htm ⊢
    have h1 := of_decide_eq_true htm
    rw [few_sigs hi]
    have h2 : (watchL (lessL l) (fewR i r)).Fakes = (watchL l r).Fakes - 1 := rfl
    have h3 : (watchL (lessL l) (fewR i r)).Misses = (watchL l r).Misses := rfl
    exact decide_eq_true (by omega)
  · unfold fewF; split <;> omega
  · intro b p o hb hs hlv ho hle hv
    have hne := never_opt hlo hn hb hlv ho hle hv
    have hb' : b < l.Beams.length := by omega
    rcases (opts_L hb').1 ho with rfl | ⟨k, hk, s, hks, ⟨hbm, hlh⟩, rfl⟩
    · refine ⟨(-1, ⟨r.Start, r.Now⟩), (opts_L (l := lessL l) (r := fewR i r) hb').2 (.inl rfl), ?_, fun t _ _ => ?_⟩
      · unfold fewF; rw [if_pos (by simp only; omega)]
      · simp only [Int.add_zero]
    · have hki : k ≠ i := fun e => hne (by simp only; omega)
      have hlen : (fewR i r).Signals.length = r.Signals.length - 1 := few_len hi
      rcases Nat.lt_or_ge k i with c | c
      · refine ⟨((k : Int), whenF l s), (opts_L (l := lessL l) (r := fewR i r) hb').2 (.inr ⟨k, by omega, s, (few_lo hi c).trans hks, ⟨hbm, hlh⟩, rfl⟩), ?_, fun t _ _ => ?_⟩
        · unfold fewF; rw [if_pos (by simp only; omega)]
        · simp only [Int.add_zero]
      · refine ⟨(((k - 1 : Nat) : Int), whenF l s), (opts_L (l := lessL l) (r := fewR i r) hb').2 (.inr ⟨k - 1, by omega, s, (few_hi hi (by omega)).trans (by rw [show k - 1 + 1 = k by omega]; exact hks), ⟨hbm, hlh⟩, rfl⟩), ?_, fun t _ _ => ?_⟩
        · unfold fewF; rw [if_neg (by simp only; omega)]; simp only; omega
        · simp only [Int.add_zero]
theorem snow_fro (hl : lineE l = 0) (hr : RideOk l r) (hi : i < r.Signals.length) (hl' : lineE (lessL l) = 0) : Sim (watchL (lessL l) (fewR i r)) (watchL l r) (-0) (fewB i) := by
  obtain ⟨ht, hok⟩ := lineE_zero hl'
  have hr' := few_ride hr hi
  have hw := watch_ok ht hok hr'
  have hwn : (watchL (lessL l) (fewR i r)).n = l.Beams.length := leasts_len
  rw [Int.neg_zero]
  refine ⟨(Int.add_zero _).symm, (Int.add_zero _).symm, ?_, fun b => (hw.leastAt b).1, fun b => ?_, fun t htm => ?_, fun s => ?_, ?_⟩
  · show (leasts _ _).length = (leasts _ _).length
    rw [leasts_len, leasts_len]; rfl
  · rw [leastAt_L, leastAt_L]; rfl
  · unfold mayT at htm ⊢
    have h1 := of_decide_eq_true htm
    rw [few_sigs hi] at h1
    have h2 : (watchL (lessL l) (fewR i r)).Fakes = (watchL l r).Fakes - 1 := rfl
    have h3 : (watchL (lessL l) (fewR i r)).Misses = (watchL l r).Misses := rfl
    exact decide_eq_true (by omega)
  · unfold fewB; split <;> omega
  · intro b p o hb hs hlv ho hle hv
    have hb' : b < l.Beams.length := by omega
    rcases (opts_L (l := lessL l) (r := fewR i r) hb').1 ho with rfl | ⟨k, hk, s, hks, ⟨hbm, hlh⟩, rfl⟩
    · refine ⟨(-1, ⟨r.Start, r.Now⟩), (opts_L hb').2 (.inl rfl), ?_, fun t _ _ => ?_⟩
      · unfold fewB; rw [if_pos (by simp only; omega)]
      · simp only [Int.add_zero]; rfl
    · have hlen : (fewR i r).Signals.length = r.Signals.length - 1 := few_len hi
      change (r.Signals.take i ++ r.Signals.drop (i + 1))[k]? = some s at hks
      rcases Nat.lt_or_ge k i with c | c
      · rw [few_lo hi c] at hks
        refine ⟨((k : Int), whenF l s), (opts_L hb').2 (.inr ⟨k, by omega, s, hks, ⟨hbm, hlh⟩, rfl⟩), ?_, fun t _ _ => ?_⟩
        · unfold fewB; rw [if_pos (by simp only; omega)]
        · simp only [Int.add_zero]; rfl
      · rw [few_hi hi c] at hks
        refine ⟨(((k + 1 : Nat) : Int), whenF l s), (opts_L hb').2 (.inr ⟨k + 1, by omega, s, hks, ⟨hbm, hlh⟩, rfl⟩), ?_, fun t _ _ => ?_⟩
        · unfold fewB; rw [if_neg (by simp only; omega)]; simp only; omega
        · simp only [Int.add_zero]; rfl
/-- as the law asks: a signal that is told to be false -/
theorem snow_all (he : openE l r 0 = 0) {x : Int} (hx : x ∈ falseV l r) : ∃ i : Nat, x = (i : Int) ∧ i < r.Signals.length ∧ 1 ≤ l.Fakes ∧ RSim l r (lessL l) (fewR i r) 0 (fewF i) (fewB i) := by
  obtain ⟨hl, hr, _, hne⟩ := openE_zero he
  obtain ⟨ht, hok⟩ := lineE_zero hl
  rw [falseV_ok he] at hx
  obtain ⟨h1, h2⟩ := mem_falseL.1 hx
  obtain ⟨i, rfl⟩ : ∃ i : Nat, x = (i : Int) := ⟨x.toNat, by omega⟩
  have hi : i < r.Signals.length := by omega
  have hf := fakes_pos (fun b => ((watch_ok ht hok hr).leastAt b).1) h2 hi hne
  have hl' := less_line hl hf
  exact ⟨i, rfl, hi, hf, hl, hl', hr, few_ride hr hi, rfl, snow_to hl hr hi h2, snow_fro hl hr hi hl'⟩
end
end
section
set_option linter.unusedVariables false
set_option maxRecDepth 20000
def exS : StretchV := ⟨1, ⟨10000, 10200⟩, ⟨0, 0⟩, ⟨0, 0⟩, 0, 0⟩
def exC : ClockM := ⟨100, [⟨0, ⟨0, 2⟩⟩, ⟨100000, ⟨5, 6⟩⟩]⟩
def exB (o : Int) : BeamV := ⟨⟨0, ⟨o, o⟩⟩, 0⟩
def exL (f : Int) : LineM := ⟨[exS], 2000, [exC], [exB 1000, exB 4000, exB 9000], 1, f, 1⟩
def exR : RideM := ⟨10000, 20000, [⟨0, 10600⟩, ⟨0, 11000⟩, ⟨1, 12600⟩]⟩
theorem ex_track : trackOk [exS] = true := by decide
theorem ex_clock : ClockOk exC := by
  have hi : ∀ (i : Nat) (x : SyncV), exC.Syncs[i]? = some x → i = 0 ∧ x = ⟨0, ⟨0, 2⟩⟩ ∨ i = 1 ∧ x = ⟨100000, ⟨5, 6⟩⟩ := fun i x h => by
    match i with
    | 0 => left; simp [exC] at h; exact ⟨rfl, h.symm⟩
    | 1 => right; simp [exC] at h; exact ⟨rfl, h.symm⟩
    | n + 2 => simp [exC] at h
  refine ⟨by decide, by decide, fun i x hx => ?_, fun i k x o hx hk ho => ?_⟩
  · rcases hi i x hx with ⟨rfl, rfl⟩ | ⟨rfl, rfl⟩ <;> (unfold SyncOk; decide)
  · rcases hi i x hx with ⟨rfl, rfl⟩ | ⟨rfl, rfl⟩
    · omega
    · rcases hi k o ho with ⟨rfl, rfl⟩ | ⟨rfl, rfl⟩
      · unfold PairOk; decide
      · omega
theorem ex_spot {o : Int} (h : 0 ≤ o ∧ o < 10000) : SpotOk [exS] ⟨0, ⟨o, o⟩⟩ := ⟨by simp, exS, rfl, by show o ≤ o ∧ 0 ≤ o ∧ o ≤ 10000 - 1; omega⟩
theorem ex_line {f : Int} (hf : 0 ≤ f ∧ f ≤ 3) : LineOk (exL f) := by
  refine ⟨?_, fun c hc => ?_, fun b hb => ?_, fun i hi => ?_⟩
  · unfold HeadOk; simp [exL]; omega
  · simp [exL] at hc; subst hc; exact ex_clock
  · simp [exL] at hb
    rcases hb with rfl | rfl | rfl
    · exact ⟨ex_spot (by omega), by simp [exB, exL]⟩
    · exact ⟨ex_spot (by omega), by simp [exB, exL]⟩
    · exact ⟨ex_spot (by omega), by simp [exB, exL]⟩
  · have h3 : i < 3 := hi
    have : i = 0 ∨ i = 1 ∨ i = 2 := by omega
    rcases this with rfl | rfl | rfl
    · show (1 : Int) ≤ wayF (exL 0) 0; decide
    · show (1 : Int) ≤ wayF (exL 0) 1; decide
    · show (1 : Int) ≤ wayF (exL 0) 2; decide
def exL1 : LineM := exL 1
def exL0 : LineM := exL 0
theorem ex_e1 : lineE exL1 = 0 := lineE_ok ex_track (ex_line (by omega))
theorem ex_e0 : lineE exL0 = 0 := lineE_ok ex_track (ex_line (by omega))
theorem lo_at {r x : Int} (h0 : 0 < x) (h1 : x ≤ 86400000) (hy : whenLo exC r x = true) (hn : whenLo exC r (x - 1) = false) : firstN (whenLo exC r) 86400001 = x :=
  firstN_eq (by omega) (by omega) hy fun z hz hzx => by
    cases e : whenLo exC r z with
    | false => rfl
    | true =>
      unfold whenLo at e hn
      have := (aheadF_mono ex_clock hz (show z ≤ x - 1 by omega) (by omega)).2
      have e1 := of_decide_eq_true e
      have e2 := of_decide_eq_false hn
      omega
theorem hi_at {r x : Int} (h0 : 0 < x) (h1 : x ≤ 86400000) (hy : whenHi exC r x = true) (hn : whenHi exC r (x - 1) = false) : firstN (whenHi exC r) 86400001 = x :=
  firstN_eq (by omega) (by omega) hy fun z hz hzx => by
    cases e : whenHi exC r z with
    | false => rfl
    | true =>
      unfold whenHi at e hn
      have := (aheadF_mono ex_clock hz (show z ≤ x - 1 by omega) (by omega)).1
      have e1 := of_decide_eq_true e
      have e2 := of_decide_eq_false hn
      omega
theorem ex_w0 : whenC exC 10600 = ⟨10596, 10602⟩ := by unfold whenC; rw [lo_at (x := 10596) (by omega) (by omega) (by decide) (by decide), hi_at (x := 10603) (by omega) (by omega) (by decide) (by decide)]; rfl
theorem ex_w1 : whenC exC 11000 = ⟨10996, 11002⟩ := by unfold whenC; rw [lo_at (x := 10996) (by omega) (by omega) (by decide) (by decide), hi_at (x := 11003) (by omega) (by omega) (by decide) (by decide)]; rfl
theorem ex_w2 : whenC exC 12600 = ⟨12596, 12602⟩ := by unfold whenC; rw [lo_at (x := 12596) (by omega) (by omega) (by decide) (by decide), hi_at (x := 12603) (by omega) (by omega) (by decide) (by decide)]; rfl
def exW (f : Int) : WatchM := ⟨10000, 20000, [500, 1500, 2500], [[(0, ⟨10596, 10602⟩), (1, ⟨10996, 11002⟩)], [(2, ⟨12596, 12602⟩)], []], 1, f, 3⟩
theorem ex_f0 (f : Int) : whenF (exL f) ⟨0, 10600⟩ = ⟨10596, 10602⟩ := ex_w0
theorem ex_f1 (f : Int) : whenF (exL f) ⟨0, 11000⟩ = ⟨10996, 11002⟩ := ex_w1
theorem ex_f2 (f : Int) : whenF (exL f) ⟨1, 12600⟩ = ⟨12596, 12602⟩ := ex_w2
theorem ex_times (f : Int) : timesT (exL f) exR.Signals 3 = [[(0, ⟨10596, 10602⟩), (1, ⟨10996, 11002⟩)], [(2, ⟨12596, 12602⟩)], []] := by
  have o : ∀ b : Nat, timesB (exL f) exR.Signals 3 b = (timeO (exL f) exR.Signals b 0).toList ++ ((timeO (exL f) exR.Signals b 1).toList ++ (timeO (exL f) exR.Signals b 2).toList) := fun b => by
    rw [timesB_succ, timesB_succ, timesB_succ]; simp [timesB]
  have t0 : ∀ b : Nat, timeO (exL f) exR.Signals b 0 = if (0 : Int) = (b : Int) then some (0, ⟨10596, 10602⟩) else none := fun b => by
    show (if (0 : Int) = (b : Int) ∧ (whenF (exL f) ⟨0, 10600⟩).Lo ≤ (whenF (exL f) ⟨0, 10600⟩).Hi then some (((0 : Nat) : Int), whenF (exL f) ⟨0, 10600⟩) else none) = _
    rw [ex_f0]; by_cases h : (0 : Int) = (b : Int)
    · rw [if_pos h, if_pos ⟨h, by decide⟩]; rfl
    · rw [if_neg h, if_neg fun q => h q.1]
  have t1 : ∀ b : Nat, timeO (exL f) exR.Signals b 1 = if (0 : Int) = (b : Int) then some (1, ⟨10996, 11002⟩) else none := fun b => by
    show (if (0 : Int) = (b : Int) ∧ (whenF (exL f) ⟨0, 11000⟩).Lo ≤ (whenF (exL f) ⟨0, 11000⟩).Hi then some (((1 : Nat) : Int), whenF (exL f) ⟨0, 11000⟩) else none) = _
    rw [ex_f1]; by_cases h : (0 : Int) = (b : Int)
    · rw [if_pos h, if_pos ⟨h, by decide⟩]; rfl
    · rw [if_neg h, if_neg fun q => h q.1]
  have t2 : ∀ b : Nat, timeO (exL f) exR.Signals b 2 = if (1 : Int) = (b : Int) then some (2, ⟨12596, 12602⟩) else none := fun b => by
    show (if (1 : Int) = (b : Int) ∧ (whenF (exL f) ⟨1, 12600⟩).Lo ≤ (whenF (exL f) ⟨1, 12600⟩).Hi then some (((2 : Nat) : Int), whenF (exL f) ⟨1, 12600⟩) else none) = _
    rw [ex_f2]; by_cases h : (1 : Int) = (b : Int)
    · rw [if_pos h, if_pos ⟨h, by decide⟩]; rfl
    · rw [if_neg h, if_neg fun q => h q.1]
  show [timesB (exL f) exR.Signals 3 0, timesB (exL f) exR.Signals 3 1, timesB (exL f) exR.Signals 3 2] = _
  rw [o, o, o, t0, t0, t0, t1, t1, t1, t2, t2, t2]
  rfl
theorem ex_watch (f : Int) : watchL (exL f) exR = exW f := by
  unfold watchL exW
  rw [show exR.Signals.length = 3 from rfl, ex_times]
  rfl
theorem ex_ride (f : Int) : RideOk (exL f) exR := by
  refine ⟨by decide, by decide, fun i s hs => ?_⟩
  match i with
  | 0 => simp [exR] at hs; subst hs; unfold SigOk SigIn; simp [exL, prevS]
  | 1 => simp [exR] at hs; subst hs; unfold SigOk SigIn; simp [exL, prevS, exR]
  | 2 => simp [exR] at hs; subst hs; unfold SigOk SigIn; simp [exL, prevS, exR]
  | n + 3 => simp [exR] at hs
theorem ex_nums1 : numsF (watchL exL1 exR) = [2, 3] := by rw [show watchL exL1 exR = exW 1 from ex_watch 1]; decide
theorem ex_nums0 : numsF (watchL exL0 exR) = [] := by rw [show watchL exL0 exR = exW 0 from ex_watch 0]; decide
theorem ex_open1 : openE exL1 exR 0 = 0 := open_ok_e ex_e1 (ex_ride 1) rfl (by rw [ex_nums1]; decide)
theorem ex_open0 : openE exL0 exR 0 = 8 := open_bad_e ex_e0 (ex_ride 0) rfl ex_nums0
theorem ex_where : whereV exL1 exR = [2, 3] := by rw [whereV_ok ex_open1, ex_nums1]
theorem ex_clear : clearV exL1 exR = 2 := by unfold clearV; rw [if_pos ex_open1, ex_where]; decide
theorem ex_ahead : aheadE exL1 0 10000 = 0 ∧ aheadV exL1 0 10000 = ⟨-1, 3⟩ := by
  have h := ahead_in (l := exL1) (ck := 0) (at_ := 10000) ex_e1 (by decide) (c := exC) rfl
  exact ⟨h.1, h.2.trans (by decide)⟩
theorem ex_when : whenE exL1 ⟨0, 10600⟩ = 0 ∧ whenV exL1 ⟨0, 10600⟩ = ⟨10596, 10602⟩ := by
  have hf : whenF exL1 ⟨0, 10600⟩ = ⟨10596, 10602⟩ := ex_f0 1
  have h := when_in (l := exL1) (s := ⟨0, 10600⟩) ex_e1 (by decide) (by rw [hf]; decide)
  exact ⟨h.1, h.2.trans hf⟩
theorem ex_openb {b : Nat} (hb : b < 3) : openE exL1 exR (beamE exL1 b) = 0 := by rw [beamE_ok (by show 0 ≤ (b : Int) ∧ (b : Int) ≤ 3 - 1; omega)]; exact ex_open1
theorem ex_hull {b : Nat} {z : SpanV} (hb : b < 3) (hz : hullF (passW (exW 1) b) = z) (hn : z ≠ noneZ) : passedE exL1 exR b = 0 ∧ passedV exL1 exR b = z := by
  have e : hullW exL1 exR b = z := by unfold hullW; rw [show watchL exL1 exR = exW 1 from ex_watch 1]; exact hz
  have h := passed_some (ex_openb hb) (by rw [e]; exact hn)
  exact ⟨h.1, h.2.trans e⟩
theorem ex_pass0 : passedE exL1 exR 0 = 0 ∧ passedV exL1 exR 0 = ⟨10596, 11002⟩ := ex_hull (b := 0) (by omega) (by decide) (by decide)
theorem ex_pass1 : passedE exL1 exR 1 = 0 ∧ passedV exL1 exR 1 = ⟨12596, 12602⟩ := ex_hull (b := 1) (by omega) (by decide) (by decide)
theorem ex_ran : passedE exL1 exR exL1.Finish = 0 ∧ ranV exL1 exR = ⟨2596, 2602⟩ := by
  refine ⟨ex_pass1.1, ?_⟩
  rw [ran_ok (l := exL1) (r := exR) ex_pass1.1]
  rw [show passedV exL1 exR exL1.Finish = ⟨12596, 12602⟩ from ex_pass1.2]
  rfl
theorem ex_sig {x : SignalV} (h : exR.Signals[0]? = some x) : x = ⟨0, 10600⟩ := by simp [exR] at h; exact h.symm
theorem ex_in (f : Int) {a : Option Addr} {c : Nat} (hc : 2 ≤ c) : LineIn (exL f) [(a, c)] := by
  refine ⟨by simp [exL], ?_, by simp [exL], rfl, by simp [exL], fun k m a' hm ha => ?_⟩
  · intro x hx; simp [exL] at hx; subst hx; simp [exS]
  · match k with
    | 0 => simp [exL] at hm ha; subst hm; subst ha; simp [exC]; exact hc
    | n + 1 => simp at ha
end
section
set_option linter.unusedVariables false
theorem TN.sub {E : Env} {ops : Array Oper} {Q : Post} {D : List Deferred} {C' C1 C : List Assn} {tb rem : List Nat} : ∀ {n : Nat} {L L' : List (Nat × Value)}, Sub L L' → TN E ops D C' C1 (fun L C => KJ E (Q .normal) D L C) tb n rem L' C → TN E ops D C' C1 (fun L C => KJ E (Q .normal) D L C) tb n rem L C := by
  intro n
  cases n with
  | zero => intro L L' hs h; exact k_sub hs (fun _ h => h) h
  | succ n => intro L L' hs h i hi o ho K hK; exact r_sub hs (fun _ h => h) (h i hi o ho K hK)
theorem d_boolN {E : Env} {ops : Array Oper} {Q : Post} {D : List Deferred} {C' C1 C : List Assn} {bs : List Bool} {os : List Oper} {L : List (Nat × Value)} {tb rem : List Nat} {n : Nat} {t : Nat} {b : Bool} (h : L.lookup t = some (.bool b))
    (h1 : b = true → DJ4 E ops D C' C1 (fun L' => TN E ops D C' C1 (fun L C => KJ E (Q .normal) D L C) tb n rem L' C) bs os ((t, .bool true) :: L)) (h2 : b = false → DJ4 E ops D C' C1 (fun L' => TN E ops D C' C1 (fun L C => KJ E (Q .normal) D L C) tb n rem L' C) bs os ((t, .bool false) :: L)) :
    DJ4 E ops D C' C1 (fun L' => TN E ops D C' C1 (fun L C => KJ E (Q .normal) D L C) tb n rem L' C) bs os L := by
  have hsub : ∀ v : Bool, b = v → Sub L ((t, .bool v) :: L) := fun v hv => Sub.cons (hv ▸ h) (fun _ _ h => h)
  cases b
  · exact DJ4.mono (fun _ _ => TN.sub) (hsub _ rfl) (h2 rfl)
  · exact DJ4.mono (fun _ _ => TN.sub) (hsub _ rfl) (h1 rfl)
end
section
set_option linter.unusedVariables false
theorem rem_b (a b : Int) (ha : 0 ≤ a) (hb : 0 < b) : 0 ≤ a % b ∧ a % b < b := ⟨Int.emod_nonneg _ (Int.ne_of_gt hb), Int.emod_lt_of_pos _ hb⟩
end
section
open Go.RowKit
set_option linter.unusedVariables false
set_option maxRecDepth 100000 in
set_option maxHeartbeats 400000 in
theorem within_1 (n : Int) (lo : Int) (hi : Int) :
    FnV Tryz.prog 88 [(Value.int .i64 n), (Value.int .i64 lo), (Value.int .i64 hi)] [] (Value.bool (decide (lo ≤ n ∧ n ≤ hi))) := by
 refine fnV_of go88 Tryz.func88 rfl rfl fun w0 Q hQ hN => ?_
 try dsimp only
 refine WS fun _ hK1 => rS (AG rfl) <| RK hK1 <| WS fun _ hK2 => rS (MV rfl) <| rS (MV rfl) <| rS (BI rfl b_geq) <| rS (MV rfl) ?_
 refine r_bool (t := 10) rfl (fun h3 => ?_) (fun h3 => ?_)
 rotate_left 1
 · replace h3 := DF h3
   refine rS (OX rfl) <| rS (OX rfl) <| rS (OX rfl) <| rS (PK rfl) <| rS (AG rfl) <| RK hK2 <| w_ret <| Q1 hQ rfl rfl rfl ?_
   exact congrArg Value.bool (decide_eq_false (by omega)).symm
 replace h3 := DT h3
 refine rS (MV rfl) <| rS (MV rfl) <| rS (BI rfl b_leq) <| rS (PK rfl) <| rS (AG rfl) <| RK hK2 <| w_ret <| Q1 hQ rfl rfl rfl ?_
 exact congrArg Value.bool (decide_eq_decide.2 (by omega))
set_option maxRecDepth 100000 in
set_option maxHeartbeats 400000 in
theorem span_1 (s : SpanV) (lo : Int) (hi : Int) :
    FnV Tryz.prog 89 [(Value.agg (SpanV.cells s).toArray), (Value.int .i64 lo), (Value.int .i64 hi)] [] (Value.bool (decide (s.Lo ≤ s.Hi ∧ lo ≤ s.Lo ∧ s.Hi ≤ hi))) := by
 refine fnV_of go89 Tryz.func89 rfl rfl fun w0 Q hQ hN => ?_
 try dsimp only
 refine WS fun _ hK1 => BXA rfl fun b2 => rS (AG rfl) <| RK hK1 <| WS fun _ hK3 => rS (FA 0 rfl fo47_0 rfl) <| rS (L1 (Value.int .i64 s.Lo) 0 rfl tk3 rfl rfl) <| rS (MV rfl) <| rS (FA 1 rfl fo47_1 rfl) <| rS (L1 (Value.int .i64 s.Hi) 0 rfl tk3 rfl rfl) ?_
 refine rS (CL (within_1 s.Lo lo s.Hi) (ha_nil) rfl) <| rS (MV rfl) ?_
 refine r_bool (t := 13) rfl (fun h4 => ?_) (fun h4 => ?_)
 rotate_left 1
 · replace h4 := DF h4
   refine rS (OX rfl) <| rS (OX rfl) <| rS (OX rfl) <| rS (OX rfl) <| rS (PK rfl) <| rS (AG rfl) <| RK hK3 <| w_ret <| Q1 hQ rfl rfl rfl ?_
   exact congrArg Value.bool (decide_eq_false (by omega)).symm
 replace h4 := DT h4
 refine rS (FA 1 rfl fo47_1 rfl) <| rS (L1 (Value.int .i64 s.Hi) 0 rfl tk3 rfl rfl) <| rS (MV rfl) <| rS (BI rfl b_leq) <| rS (PK rfl) <| rS (AG rfl) <| RK hK3 <| w_ret <| Q1 hQ rfl rfl rfl ?_
 exact congrArg Value.bool (decide_eq_decide.2 (by omega))
set_option maxRecDepth 100000 in
set_option maxHeartbeats 400000 in
theorem great_c (t : List StretchV) (tA : Option Addr) (tC : Nat) :
    FnV Tryz.prog 31 [(Value.agg (TrackV.cells (TrackV.mk (Slc.mk tA t.length tC))).toArray)] [(rd tA t.length 9 (t.map StretchV.cells))] (Value.bool (decide (20 < (t.length : Int)))) := by
 refine fnV_of go31 Tryz.func31 rfl rfl fun w0 Q hQ hN => ?_
 try dsimp only
 refine WS fun _ hK1 => BXA rfl fun b2 => rS (AG rfl) <| RK hK1 <| WS fun _ hK3 => rS (FA 0 rfl fo24_0 rfl) <| rS (L1 (Value.slice tA t.length tC) 0 rfl tk22 rfl rfl) <| rS (LN rfl ut22) <| rS (BI rfl b_gtr) <| rS (AG rfl) ?_
 refine RK hK3 <| w_ret ?_
 exact Q1 hQ rfl rfl rfl rfl
set_option maxRecDepth 100000 in
set_option maxHeartbeats 400000 in
theorem index_c (l : List Int) (lA : Option Addr) (lC : Nat) (f : Value) (p : Int → Bool) (X : Assn) (hf : ∀ x0, x0 ∈ l → Clo Tryz.prog f [.int .i64 x0] [X] (.bool (p x0))) (hlen : l.length ≤ 1000000) :
    FnV Tryz.prog 86 [(Value.slice lA l.length lC), f] [(rd lA l.length 1 (l.map iC)), X] (Value.int .i64 (findI p l)) := by
 refine fnV_of go86 Tryz.func86 rfl rfl fun w0 Q hQ hN => ?_
 try dsimp only
 refine WS fun _ hK1 => rS (AG rfl) <| RK hK1 <| w_seq fun _ hK2 => WS fun _ hK3 => rS (MV rfl) <| rS (LN rfl ut35) <| rS (MV rfl) <| RK hK3 <| w_block ?_
 have hinit : (0 ≤ l.length) ∧ ((l.take 0).any p = false) := by simp
 refine w_loop (ι := { z : Nat // (z ≤ l.length) ∧ ((l.take z).any p = false) }) (fun z => [(0, (Value.slice lA l.length lC)), (1, f), (7, (Value.int .i64 ((l.length : Nat) : Int))), (8, (Value.int .i64 (z.1 : Int)))]) (fun z => [(rd lA l.length 1 (l.map iC)).ro, X.ro]) (fun z => l.length - z.1) ⟨0, hinit⟩ (Sub.cons rfl <| Sub.cons rfl <| Sub.cons rfl <| Sub.cons rfl <| Sub.nil _) (fun w hs => St.sel [0, 1] rfl rfl hs) ?_
 clear hinit
 rintro ⟨i, ⟨hl0_0, hl0_1⟩⟩ J4 hJ4
 try dsimp only
 refine WS fun _ hK5 => rS (BI rfl b_lss) <| RK hK5 <| w_seq fun _ hK6 => ?_
 refine w_if rfl (fun h7 => ?_) (fun h7 => ?_)
 rotate_left 1
 · replace h7 := DF h7
   refine w_exit <| k_exit_then <| k_exit_then <| k_exit_same <| KK hK2 <| WS fun _ hK12 => rS (AG rfl) <| RK hK12 <| w_ret <| Q1 hQ rfl rfl rfl ?_
   first | exact congrArg (Value.int .i64) (findI_at hx hp hl0_1).symm | exact congrArg (Value.int .i64) (findI_none (by omega) hl0_1).symm
 replace h7 := DT h7
 refine WK hK6 <| w_seq fun _ hK8 => w_block <| WS fun _ hK9 => rS (MV rfl) <| rS (AG rfl) <| RK hK9 <| WS fun _ hK10 => rS (MV rfl) <| rS (MV rfl) ?_
 refine rS (MV rfl) ?_
 obtain ⟨x, hx⟩ : ∃ y_, l[i]? = some y_ := ⟨l[i]'(by omega), List.getElem?_eq_getElem _⟩
 have hxm : (l.map iC)[i]? = some (iC x) := by rw [List.getElem?_map, hx]; rfl
 refine rS (IA i rfl (has_at 0 rfl) te35 (by decide) (by omega) (by omega)) <| rS (LE1 i 0 (Value.int .i64 x) rfl tk3 (has_at 0 rfl) hxm rfl (by decide) rfl) <| rS (SX (sd_clo rfl rfl rfl (hf x (List.mem_of_getElem? hx)) (ha_at 1 rfl rfl <| ha_nil)) rfl rfl) <| RK hK10 ?_
 refine w_if rfl (fun hp => ?_) (fun hp => ?_)
 · refine WS fun _ hK11 => ?_
   refine rS (MV rfl) <| rS (AG rfl) <| RK hK11 <| w_ret <| Q1 hQ rfl rfl rfl ?_
   first | exact congrArg (Value.int .i64) (findI_at hx hp hl0_1).symm | exact congrArg (Value.int .i64) (findI_none (by omega) hl0_1).symm
 refine w_skip <| k_block <| KK hK8 <| w_region <| rS (BI rfl (b_add ⟨by omega, by omega⟩)) <| rS (MV rfl) <| r_nil ?_
 refine k_then (hJ4 ⟨(i + 1), ⟨by omega, any_step hx hl0_1 hp⟩⟩ _ _ _ rfl (by first | omega | (simp; omega)) (Sub.cons rfl <| Sub.cons rfl <| Sub.cons rfl <| Sub.cons rfl <| Sub.nil _) (fun w hs => St.sel [0, 1] rfl rfl hs))
set_option maxRecDepth 100000 in
set_option maxHeartbeats 400000 in
theorem contains_c (l : List Int) (lA : Option Addr) (lC : Nat) (f : Value) (p : Int → Bool) (X : Assn) (hf : ∀ x0, x0 ∈ l → Clo Tryz.prog f [.int .i64 x0] [X] (.bool (p x0))) (hlen : l.length ≤ 1000000) :
    FnV Tryz.prog 65 [(Value.slice lA l.length lC), f] [(rd lA l.length 1 (l.map iC)), X] (Value.bool (l.any p)) := by
 refine fnV_of go65 Tryz.func65 rfl rfl fun w0 Q hQ hN => ?_
 try dsimp only
 refine WS fun _ hK1 => rS (AG rfl) <| RK hK1 <| WS fun _ hK2 => rS (MV rfl) <| rS (MV rfl) <| rS (CL (index_c l lA lC f p X (by exact hf) hlen) (ha_at 0 rfl rfl <| ha_at 1 rfl rfl <| ha_nil) rfl) <| rS (BI rfl b_geq) <| rS (AG rfl) <| RK hK2 ?_
 refine w_ret <| Q1 hQ rfl rfl rfl ?_
 exact congrArg Value.bool findI_any
set_option maxRecDepth 100000 in
set_option maxHeartbeats 400000 in
theorem in1_track (n : Int) (lo : Int) (hi : Int) (g1 : Nat) (g2 : Nat) :
    FnV Tryz.prog 130 [(Value.int .i64 n), (Value.pointer (some ⟨g1, 0, none⟩)), (Value.pointer (some ⟨g2, 0, none⟩))] [(blk g1 3 [(Value.int .i64 lo)]), (blk g2 3 [(Value.int .i64 hi)])] (Value.bool (decide (n < lo ∨ hi < n))) := by
 refine fnV_of go130 Tryz.func130 rfl rfl fun w0 Q hQ hN => ?_
 try dsimp only
 refine WS fun _ hK1 => rS (AG rfl) <| RK hK1 <| WS fun _ hK2 => rS (MV rfl) <| rS (L1Q 0 rfl tk3 rfl) <| rS (BI rfl b_lss) <| rS (MV rfl) ?_
 refine r_bool (t := 8) rfl (fun h3 => ?_) (fun h3 => ?_)
 · replace h3 := DT h3
   refine rS (OX rfl) <| rS (OX rfl) <| rS (OX rfl) <| rS (PK rfl) <| rS (AG rfl) <| RK hK2 <| w_ret <| Q1 hQ rfl rfl rfl ?_
   exact congrArg Value.bool (decide_eq_true (by omega)).symm
 replace h3 := DF h3
 refine rS (MV rfl) <| rS (L1Q 1 rfl tk3 rfl) <| rS (BI rfl b_gtr) <| rS (PK rfl) <| rS (AG rfl) <| RK hK2 <| w_ret <| Q1 hQ rfl rfl rfl ?_
 exact congrArg Value.bool (decide_eq_decide.2 (by omega))
set_option maxRecDepth 100000 in
set_option maxHeartbeats 400000 in
theorem in_track (lo : Int) (hi : Int) (l : List Int) (lA : Option Addr) (lC : Nat) (hlen : l.length ≤ 1000000) :
    FnV Tryz.prog 104 [(Value.int .i64 lo), (Value.int .i64 hi), (Value.slice lA l.length lC)] [(rd lA l.length 1 (l.map iC))] (Value.bool (inAll lo hi l)) := by
 refine fnV_of go104 Tryz.func104 rfl rfl fun w0 Q hQ hN => ?_
 try dsimp only
 refine WS fun _ hK1 => BX1 rfl rfl fun b2 => BX1 rfl rfl fun b3 => rS (AG rfl) <| RK hK1 <| WS fun _ hK4 => rS (MV rfl) <| rS (FU rfl) <| rS (CL (contains_c l lA lC (Value.func (.func 130) [].toArray [(Value.pointer (some ⟨b2, 0, none⟩)), (Value.pointer (some ⟨b3, 0, none⟩))].toArray) (fun u5 => (decide (u5 < lo ∨ hi < u5))) (bun [(blk b2 3 [(Value.int .i64 lo)]), (blk b3 3 [(Value.int .i64 hi)])]) (by intro u5 _; exact clo_of (fi := []) (ca := [(Value.pointer (some ⟨b2, 0, none⟩)), (Value.pointer (some ⟨b3, 0, none⟩))]) (fnV_bun (in1_track u5 lo hi b2 b3 ) (ha_at 0 rfl rfl <| ha_at 1 rfl rfl <| ha_nil))) hlen) (ha_at 2 rfl rfl <| ha_cons (has_bun (ha_at 1 rfl rfl <| ha_at 0 rfl rfl <| ha_nil)) <| ha_nil) rfl) <| rS (NT rfl) ?_
 refine rS (AG rfl) <| RK hK4 <| w_ret ?_
 exact Q1 hQ rfl rfl rfl rfl
set_option maxRecDepth 100000 in
set_option maxHeartbeats 400000 in
theorem known_c (s : SpanV) (lo : Int) (hi : Int) :
    FnV Tryz.prog 105 [(Value.agg (SpanV.cells s).toArray), (Value.int .i64 lo), (Value.int .i64 hi)] [] (Value.bool (decide (s.Lo ≤ s.Hi ∧ lo ≤ s.Lo ∧ s.Hi ≤ hi))) := by
 refine fnV_of go105 Tryz.func105 rfl rfl fun w0 Q hQ hN => ?_
 try dsimp only
 refine WS fun _ hK1 => BXA rfl fun b2 => rS (AG rfl) <| RK hK1 <| WS fun _ hK3 => rS (MV rfl) <| rS (MV rfl) <| rS (FA 0 rfl fo47_0 rfl) <| rS (L1 (Value.int .i64 s.Lo) 0 rfl tk3 rfl rfl) <| rS (FA 1 rfl fo47_1 rfl) ?_
 refine rS (L1 (Value.int .i64 s.Hi) 0 rfl tk3 rfl rfl) <| r_bs (xs := [.tmp 10, .tmp 12]) (cs := [(Value.int .i64 s.Lo), (Value.int .i64 s.Hi)]) rfl te35 tz3 rfl rfl rfl rfl (by simp [Value.cells]) rfl rfl fun b4 => rS (CL (FnV.eq (in_track lo hi ([s.Lo, s.Hi]) (some ⟨b4, 0, none⟩) 2 (by first | assumption | omega | (simp; done) | (simp; omega))) inAll_two) (ha_cons (has_rd_blk 0 rfl rfl (by simp [iC_length]) rfl) <| ha_nil) rfl) <| rS (MV rfl) ?_
 refine r_bool (t := 15) rfl (fun h5 => ?_) (fun h5 => ?_)
 rotate_left 1
 · replace h5 := DF h5
   refine rS (OX rfl) <| rS (OX rfl) <| rS (OX rfl) <| rS (OX rfl) <| rS (OX rfl) <| rS (PK rfl) <| rS (AG rfl) <| RK hK3 <| w_ret <| Q1 hQ rfl rfl rfl ?_
   exact congrArg Value.bool (decide_eq_false (by omega)).symm
 replace h5 := DT h5
 refine rS (FA 0 rfl fo47_0 rfl) <| rS (L1 (Value.int .i64 s.Lo) 1 rfl tk3 rfl rfl) <| rS (FA 1 rfl fo47_1 rfl) <| rS (L1 (Value.int .i64 s.Hi) 1 rfl tk3 rfl rfl) <| rS (BI rfl b_leq) <| rS (PK rfl) <| rS (AG rfl) <| RK hK3 <| w_ret <| Q1 hQ rfl rfl rfl ?_
 exact congrArg Value.bool (decide_eq_decide.2 (by omega))
set_option maxRecDepth 100000 in
set_option maxHeartbeats 400000 in
theorem track_c (ts : List StretchV) (tsA : Option Addr) (tsC : Nat) (hlen : ts.length ≤ 1000000) :
    FnV Tryz.prog 71 [(Value.agg (TrackV.cells (TrackV.mk (Slc.mk tsA ts.length tsC))).toArray)] [(rd tsA ts.length 9 (ts.map StretchV.cells))] (Value.bool (trackOk ts)) := by
 refine fnV_of go71 Tryz.func71 rfl rfl fun w0 Q hQ hN => ?_
 try dsimp only
 refine WS fun _ hK1 => BXA rfl fun b2 => rS (AG rfl) <| RK hK1 <| w_seq fun _ hK3 => WS fun _ hK4 => rS (FA 0 rfl fo24_0 rfl) <| rS (L1 (Value.slice tsA ts.length tsC) 0 rfl tk22 rfl rfl) <| rS (LN rfl ut22) <| rS (CL (within_1 ((ts.length : Nat) : Int) 1 12) (ha_nil) rfl) ?_
 refine rS (NT rfl) <| RK hK4 ?_
 refine w_if rfl (fun h5 => ?_) (fun h5 => ?_)
 · replace h5 := XT h5
   refine WS fun _ hK6 => rS (AG rfl) <| RK hK6 <| w_ret <| Q1 hQ rfl rfl rfl ?_
   first | exact congrArg Value.bool (trackOk_len (by omega)).symm | exact congrArg Value.bool (trackOk_no hl0_1 hx (by simp only [StretchOk, SpanOk]; omega)).symm | exact congrArg Value.bool (trackOk_yes hl0_1 (by omega) (by omega)).symm
 replace h5 := XF h5
 refine WK hK3 <| w_seq fun _ hK7 => WS fun _ hK8 => rS (AG rfl) <| RK hK8 <| w_block ?_
 have hinit : (0 ≤ ts.length) ∧ (trackFrom (-1) ts = trackFrom (lastId ts 0) (ts.drop 0)) ∧ (-1 ≤ lastId ts 0) := by (refine ⟨by omega, rfl, by simp [lastId]⟩)
 refine w_loop (ι := { z : Nat // (z ≤ ts.length) ∧ (trackFrom (-1) ts = trackFrom (lastId ts z) (ts.drop z)) ∧ (-1 ≤ lastId ts z) }) (fun z => [(1, (Value.pointer (some ⟨b2, 0, none⟩))), (3, (Value.int .i64 (z.1 : Int)))]) (fun z => [(blk b2 24 (TrackV.cells (TrackV.mk (Slc.mk tsA ts.length tsC)))), (rd tsA ts.length 9 (ts.map StretchV.cells)).ro]) (fun z => ts.length - z.1) ⟨0, hinit⟩ (Sub.cons rfl <| Sub.cons rfl <| Sub.nil _) (fun w hs => St.sel [0, 1] rfl rfl hs) ?_
 clear hinit
 rintro ⟨i, ⟨hl0_0, hl0_1, hl0_2⟩⟩ J9 hJ9
 try dsimp only
 have hz : i = 0 → lastId ts i = -1 := lastId_zero
 refine w_seq fun _ hK10 => WS fun _ hK11 => rS (MV rfl) <| rS (FA 0 rfl fo24_0 rfl) <| rS (L1 (Value.slice tsA ts.length tsC) 0 rfl tk22 rfl rfl) <| rS (LN rfl ut22) <| rS (BI rfl b_lss) <| RK hK11 ?_
 refine w_if rfl (fun h12 => ?_) (fun h12 => ?_)
 rotate_left 1
 · replace h12 := DF h12
   refine w_exit <| k_exit_then <| k_exit_then <| k_exit_same <| KK hK7 <| WS fun _ hK77 => rS (AG rfl) <| RK hK77 <| w_ret <| Q1 hQ rfl rfl rfl ?_
   first | exact congrArg Value.bool (trackOk_len (by omega)).symm | exact congrArg Value.bool (trackOk_no hl0_1 hx (by simp only [StretchOk, SpanOk]; omega)).symm | exact congrArg Value.bool (trackOk_yes hl0_1 (by omega) (by omega)).symm
 replace h12 := DT h12
 refine WK hK10 <| w_seq fun _ hK13 => w_block <| WS fun _ hK14 => rS (FA 0 rfl fo24_0 rfl) <| rS (L1 (Value.slice tsA ts.length tsC) 0 rfl tk22 rfl rfl) <| rS (MV rfl) ?_
 obtain ⟨x, hx⟩ : ∃ y_, ts[i]? = some y_ := ⟨ts[i]'(by omega), List.getElem?_eq_getElem _⟩
 have hxm : (ts.map StretchV.cells)[i]? = some (StretchV.cells x) := by rw [List.getElem?_map, hx]; rfl
 refine rS (IA i rfl (has_at 1 rfl) te22 (by decide) (by omega) (by omega)) <| rS (LEN i 0 (StretchV.cells x) rfl tk141 (has_at 1 rfl) hxm rfl (by decide) rfl rfl) <| AL rfl tz141 fun b15 => SW0 rfl ts141 rfl <| RK hK14 <| w_seq fun _ hK16 => w_seq fun _ hK17 => w_draw mixed 38 (by kernel_rfl) <| dS (FA 0 rfl fo141_0 rfl) <| dS (L1 (Value.int .i64 x.Id) 0 rfl tk3 rfl rfl) ?_
 refine dS (CL (within_1 x.Id 0 9999) (ha_nil) rfl) <| dS (NT rfl) <| dS (MV rfl) ?_
 refine d_bool (t := 26) rfl (fun h18 => ?_) (fun h18 => ?_)
 · replace h18 := XT h18
   refine dS (OX rfl) <| dS (OX rfl) <| dS (OX rfl) <| dS (OX rfl) <| dS (OX rfl) <| dS (OX rfl) <| dS (OX rfl) <| dS (OX rfl) <| dS (OX rfl) <| dS (OX rfl) ?_
   refine dS (OX rfl) <| dS (OX rfl) <| dS (OX rfl) <| dS (OX rfl) <| dS (PK rfl) <| dS (MV rfl) <| dS (OX rfl) <| dS (OX rfl) <| dS (OX rfl) <| dS (OX rfl) ?_
   refine dS (PK rfl) <| dS (MV rfl) <| dS (OX rfl) <| dS (OX rfl) <| dS (OX rfl) <| dS (OX rfl) <| dS (PK rfl) <| dS (MV rfl) <| dS (OX rfl) <| dS (OX rfl) ?_
   refine dS (OX rfl) <| dS (OX rfl) <| dS (PK rfl) <| d_end <| RK hK17 <| w_if_true rfl <| WS fun _ hK19 => rS (AG rfl) <| RK hK19 <| w_ret ?_
   refine Q1 hQ rfl rfl rfl ?_
   first | exact congrArg Value.bool (trackOk_len (by omega)).symm | exact congrArg Value.bool (trackOk_no hl0_1 hx (by simp only [StretchOk, SpanOk]; omega)).symm | exact congrArg Value.bool (trackOk_yes hl0_1 (by omega) (by omega)).symm
 replace h18 := XF h18
 refine dS (MV rfl) <| dS (BI rfl b_gtr) <| dS (MV rfl) ?_
 refine d_bool (t := 29) rfl (fun h20 => ?_) (fun h20 => ?_)
 rotate_left 1
 · replace h20 := DF h20
   refine dS (OX rfl) <| dS (OX rfl) <| dS (OX rfl) <| dS (OX rfl) <| dS (OX rfl) <| dS (OX rfl) <| dS (OX rfl) <| dS (OX rfl) <| dS (OX rfl) <| dS (OX rfl) ?_
   refine dS (PK rfl) <| dS (PK rfl) <| dS (MV rfl) <| dS (FA 1 rfl fo141_1 rfl) <| dS (LP (SpanV.cells x.Long) 0 rfl tk47 rfl rfl rfl) <| dS (CL (span_1 x.Long 1 30000) (ha_nil) rfl) <| dS (NT rfl) <| dS (PK rfl) <| dS (MV rfl) ?_
   refine d_bool (t := 48) rfl (fun h50 => ?_) (fun h50 => ?_)
   · replace h50 := XT h50
     refine dS (OX rfl) <| dS (OX rfl) <| dS (OX rfl) <| dS (OX rfl) <| dS (PK rfl) <| dS (MV rfl) <| dS (OX rfl) <| dS (OX rfl) <| dS (OX rfl) <| dS (OX rfl) ?_
     refine dS (PK rfl) <| d_end <| RK hK17 <| w_if_true rfl <| WS fun _ hK51 => rS (AG rfl) <| RK hK51 <| w_ret <| Q1 hQ rfl rfl rfl ?_
     first | exact congrArg Value.bool (trackOk_len (by omega)).symm | exact congrArg Value.bool (trackOk_no hl0_1 hx (by simp only [StretchOk, SpanOk]; omega)).symm | exact congrArg Value.bool (trackOk_yes hl0_1 (by omega) (by omega)).symm
   replace h50 := XF h50
   refine dS (FA 3 rfl fo141_2 rfl) <| dS (LP (SpanV.cells x.Fall) 0 rfl tk47 rfl rfl rfl) <| dS (CL (span_1 x.Fall 0 5000) (ha_nil) rfl) <| dS (NT rfl) <| dS (PK rfl) <| dS (MV rfl) ?_
   refine d_bool (t := 54) rfl (fun h52 => ?_) (fun h52 => ?_)
   · replace h52 := XT h52
     refine dS (OX rfl) <| dS (OX rfl) <| dS (OX rfl) <| dS (OX rfl) <| dS (PK rfl) <| d_end <| RK hK17 <| w_if_true rfl <| WS fun _ hK53 => rS (AG rfl) ?_
     refine RK hK53 <| w_ret <| Q1 hQ rfl rfl rfl ?_
     first | exact congrArg Value.bool (trackOk_len (by omega)).symm | exact congrArg Value.bool (trackOk_no hl0_1 hx (by simp only [StretchOk, SpanOk]; omega)).symm | exact congrArg Value.bool (trackOk_yes hl0_1 (by omega) (by omega)).symm
   replace h52 := XF h52
   refine dS (FA 8 rfl fo141_5 rfl) <| dS (L1 (Value.int .i64 x.Wall) 0 rfl tk3 rfl rfl) <| dS (CL (within_1 x.Wall 0 5000) (ha_nil) rfl) <| dS (NT rfl) <| dS (PK rfl) <| d_end <| RK hK17 ?_
   refine w_if rfl (fun h54 => ?_) (fun h54 => ?_)
   · replace h54 := XT h54
     refine WS fun _ hK55 => rS (AG rfl) <| RK hK55 <| w_ret <| Q1 hQ rfl rfl rfl ?_
     first | exact congrArg Value.bool (trackOk_len (by omega)).symm | exact congrArg Value.bool (trackOk_no hl0_1 hx (by simp only [StretchOk, SpanOk]; omega)).symm | exact congrArg Value.bool (trackOk_yes hl0_1 (by omega) (by omega)).symm
   replace h54 := XF h54
   refine WK hK16 <| WS fun _ hK56 => rS (FA 7 rfl fo141_4 rfl) <| rS (L1 (Value.int .u8 x.Side) 0 rfl tk5 rfl rfl) <| RK hK56 <| w_block <| WS fun _ hK57 => rS (BI rfl b_eql) <| rS (AG rfl) <| RK hK57 ?_
   refine w_if rfl (fun h58 => ?_) (fun h58 => ?_)
   · replace h58 := DT h58
     refine WS fun _ hK59 => rS (FA 5 rfl fo141_3 rfl) <| rS (FA 5 rfl fo47_0 rfl) <| rS (L1 (Value.int .i64 x.Radius.Lo) 0 rfl tk3 rfl rfl) <| rS (BI rfl b_neq) <| rS (MV rfl) ?_
     refine r_bool (t := 68) rfl (fun h60 => ?_) (fun h60 => ?_)
     · replace h60 := XT h60
       refine rS (OX rfl) <| rS (OX rfl) <| rS (OX rfl) <| rS (OX rfl) <| rS (PK rfl) <| RK hK59 <| w_if_true rfl <| WS fun _ hK61 => rS (AG rfl) <| RK hK61 ?_
       refine w_ret <| Q1 hQ rfl rfl rfl ?_
       first | exact congrArg Value.bool (trackOk_len (by omega)).symm | exact congrArg Value.bool (trackOk_no hl0_1 hx (by simp only [StretchOk, SpanOk]; omega)).symm | exact congrArg Value.bool (trackOk_yes hl0_1 (by omega) (by omega)).symm
     replace h60 := XF h60
     refine rS (FA 5 rfl fo141_3 rfl) <| rS (FA 6 rfl fo47_1 rfl) <| rS (L1 (Value.int .i64 x.Radius.Hi) 0 rfl tk3 rfl rfl) <| rS (BI rfl b_neq) <| rS (PK rfl) <| RK hK59 ?_
     refine w_if rfl (fun h62 => ?_) (fun h62 => ?_)
     · replace h62 := XT h62
       refine WS fun _ hK63 => rS (AG rfl) <| RK hK63 <| w_ret <| Q1 hQ rfl rfl rfl ?_
       first | exact congrArg Value.bool (trackOk_len (by omega)).symm | exact congrArg Value.bool (trackOk_no hl0_1 hx (by simp only [StretchOk, SpanOk]; omega)).symm | exact congrArg Value.bool (trackOk_yes hl0_1 (by omega) (by omega)).symm
     replace h62 := XF h62
     refine w_skip <| k_block <| k_block <| KK hK13 <| w_region <| rS (MV rfl) <| rS (BI rfl (b_add ⟨by omega, by omega⟩)) <| rS (AG rfl) <| r_nil ?_
     refine k_then (hJ9 ⟨(i + 1), ⟨by omega, trackFrom_next hl0_1 hx (by simp only [StretchOk, SpanOk]; omega), by rw [lastId_succ hx]; omega⟩⟩ _ _ _ rfl (by first | omega | (simp; omega)) (Sub.cons rfl <| Sub.cons rfl <| Sub.nil _) (fun w hs => St.sel [1, 2] rfl rfl hs))
   replace h58 := DF h58
   refine w_seq fun _ hK64 => WS fun _ hK65 => rS (BI rfl b_eql) <| rS (AG rfl) <| RK hK65 ?_
   refine w_if rfl (fun h66 => ?_) (fun h66 => ?_)
   · replace h66 := DT h66
     refine WK hK64 ?_
     refine w_if rfl (fun h67 => ?_) (fun h67 => ?_)
     rotate_left 1
     · replace h67 := DF h67
       refine WS fun _ hK71 => rS (AG rfl) <| RK hK71 <| w_ret <| Q1 hQ rfl rfl rfl ?_
       first | exact congrArg Value.bool (trackOk_len (by omega)).symm | exact congrArg Value.bool (trackOk_no hl0_1 hx (by simp only [StretchOk, SpanOk]; omega)).symm | exact congrArg Value.bool (trackOk_yes hl0_1 (by omega) (by omega)).symm
     replace h67 := DT h67
     refine WS fun _ hK68 => rS (FA 5 rfl fo141_3 rfl) <| rS (LP (SpanV.cells x.Radius) 0 rfl tk47 rfl rfl rfl) <| rS (CL (span_1 x.Radius 500 20000) (ha_nil) rfl) <| rS (NT rfl) <| RK hK68 ?_
     refine w_if rfl (fun h69 => ?_) (fun h69 => ?_)
     · replace h69 := XT h69
       refine WS fun _ hK70 => rS (AG rfl) <| RK hK70 <| w_ret <| Q1 hQ rfl rfl rfl ?_
       first | exact congrArg Value.bool (trackOk_len (by omega)).symm | exact congrArg Value.bool (trackOk_no hl0_1 hx (by simp only [StretchOk, SpanOk]; omega)).symm | exact congrArg Value.bool (trackOk_yes hl0_1 (by omega) (by omega)).symm
     replace h69 := XF h69
     refine w_skip <| k_block <| k_block <| KK hK13 <| w_region <| rS (MV rfl) <| rS (BI rfl (b_add ⟨by omega, by omega⟩)) <| rS (AG rfl) <| r_nil ?_
     refine k_then (hJ9 ⟨(i + 1), ⟨by omega, trackFrom_next hl0_1 hx (by simp only [StretchOk, SpanOk]; omega), by rw [lastId_succ hx]; omega⟩⟩ _ _ _ rfl (by first | omega | (simp; omega)) (Sub.cons rfl <| Sub.cons rfl <| Sub.nil _) (fun w hs => St.sel [1, 2] rfl rfl hs))
   replace h66 := DF h66
   refine w_region <| rS (BI rfl b_eql) <| rS (AG rfl) <| RK hK64 ?_
   refine w_if rfl (fun h72 => ?_) (fun h72 => ?_)
   rotate_left 1
   · replace h72 := DF h72
     refine WS fun _ hK76 => rS (AG rfl) <| RK hK76 <| w_ret <| Q1 hQ rfl rfl rfl ?_
     first | exact congrArg Value.bool (trackOk_len (by omega)).symm | exact congrArg Value.bool (trackOk_no hl0_1 hx (by simp only [StretchOk, SpanOk]; omega)).symm | exact congrArg Value.bool (trackOk_yes hl0_1 (by omega) (by omega)).symm
   replace h72 := DT h72
   refine WS fun _ hK73 => rS (FA 5 rfl fo141_3 rfl) <| rS (LP (SpanV.cells x.Radius) 0 rfl tk47 rfl rfl rfl) <| rS (CL (span_1 x.Radius 500 20000) (ha_nil) rfl) <| rS (NT rfl) <| RK hK73 ?_
   refine w_if rfl (fun h74 => ?_) (fun h74 => ?_)
   · replace h74 := XT h74
     refine WS fun _ hK75 => rS (AG rfl) <| RK hK75 <| w_ret <| Q1 hQ rfl rfl rfl ?_
     first | exact congrArg Value.bool (trackOk_len (by omega)).symm | exact congrArg Value.bool (trackOk_no hl0_1 hx (by simp only [StretchOk, SpanOk]; omega)).symm | exact congrArg Value.bool (trackOk_yes hl0_1 (by omega) (by omega)).symm
   replace h74 := XF h74
   refine w_skip <| k_block <| k_block <| KK hK13 <| w_region <| rS (MV rfl) <| rS (BI rfl (b_add ⟨by omega, by omega⟩)) <| rS (AG rfl) <| r_nil ?_
   refine k_then (hJ9 ⟨(i + 1), ⟨by omega, trackFrom_next hl0_1 hx (by simp only [StretchOk, SpanOk]; omega), by rw [lastId_succ hx]; omega⟩⟩ _ _ _ rfl (by first | omega | (simp; omega)) (Sub.cons rfl <| Sub.cons rfl <| Sub.nil _) (fun w hs => St.sel [1, 2] rfl rfl hs))
 replace h20 := DT h20
 refine dS (FA 0 rfl fo141_0 rfl) <| dS (L1 (Value.int .i64 x.Id) 0 rfl tk3 rfl rfl) <| dS (FA 0 rfl fo24_0 rfl) <| dS (L1 (Value.slice tsA ts.length tsC) 1 rfl tk22 rfl rfl) <| dS (MV rfl) <| dS (BI rfl (b_sub ⟨by omega, by omega⟩)) ?_
 obtain ⟨y, hy⟩ : ∃ y_, ts[(i - 1)]? = some y_ := ⟨ts[(i - 1)]'(by omega), List.getElem?_eq_getElem _⟩
 have hym : (ts.map StretchV.cells)[(i - 1)]? = some (StretchV.cells y) := by rw [List.getElem?_map, hy]; rfl
 refine dS (IA (i - 1) rfl (has_at 2 rfl) te22 (by decide) (by omega) (by omega)) <| dS (FAR ((i - 1) * 9) rfl (has_at 2 rfl) (Nat.mul_pos (by omega) (by decide)) fo141_0 rfl) ?_
 have hyl := lastId_pos (by omega) hy
 refine dS (LE1 (i - 1) 0 (Value.int .i64 y.Id) rfl tk3 (has_at 2 rfl) hym rfl (by decide) rfl) <| dS (BI rfl b_leq) <| dS (PK rfl) <| dS (PK rfl) <| dS (MV rfl) ?_
 refine d_bool (t := 42) rfl (fun h21 => ?_) (fun h21 => ?_)
 · replace h21 := DT h21
   refine dS (OX rfl) <| dS (OX rfl) <| dS (OX rfl) <| dS (OX rfl) <| dS (PK rfl) <| dS (MV rfl) <| dS (OX rfl) <| dS (OX rfl) <| dS (OX rfl) <| dS (OX rfl) ?_
   refine dS (PK rfl) <| dS (MV rfl) <| dS (OX rfl) <| dS (OX rfl) <| dS (OX rfl) <| dS (OX rfl) <| dS (PK rfl) <| d_end <| RK hK17 <| w_if_true rfl ?_
   refine WS fun _ hK22 => rS (AG rfl) <| RK hK22 <| w_ret <| Q1 hQ rfl rfl rfl ?_
   first | exact congrArg Value.bool (trackOk_len (by omega)).symm | exact congrArg Value.bool (trackOk_no hl0_1 hx (by simp only [StretchOk, SpanOk]; omega)).symm | exact congrArg Value.bool (trackOk_yes hl0_1 (by omega) (by omega)).symm
 replace h21 := DF h21
 refine dS (FA 1 rfl fo141_1 rfl) <| dS (LP (SpanV.cells x.Long) 0 rfl tk47 rfl rfl rfl) <| dS (CL (span_1 x.Long 1 30000) (ha_nil) rfl) <| dS (NT rfl) <| dS (PK rfl) <| dS (MV rfl) ?_
 refine d_bool (t := 48) rfl (fun h23 => ?_) (fun h23 => ?_)
 · replace h23 := XT h23
   refine dS (OX rfl) <| dS (OX rfl) <| dS (OX rfl) <| dS (OX rfl) <| dS (PK rfl) <| dS (MV rfl) <| dS (OX rfl) <| dS (OX rfl) <| dS (OX rfl) <| dS (OX rfl) ?_
   refine dS (PK rfl) <| d_end <| RK hK17 <| w_if_true rfl <| WS fun _ hK24 => rS (AG rfl) <| RK hK24 <| w_ret <| Q1 hQ rfl rfl rfl ?_
   first | exact congrArg Value.bool (trackOk_len (by omega)).symm | exact congrArg Value.bool (trackOk_no hl0_1 hx (by simp only [StretchOk, SpanOk]; omega)).symm | exact congrArg Value.bool (trackOk_yes hl0_1 (by omega) (by omega)).symm
 replace h23 := XF h23
 refine dS (FA 3 rfl fo141_2 rfl) <| dS (LP (SpanV.cells x.Fall) 0 rfl tk47 rfl rfl rfl) <| dS (CL (span_1 x.Fall 0 5000) (ha_nil) rfl) <| dS (NT rfl) <| dS (PK rfl) <| dS (MV rfl) ?_
 refine d_bool (t := 54) rfl (fun h25 => ?_) (fun h25 => ?_)
 · replace h25 := XT h25
   refine dS (OX rfl) <| dS (OX rfl) <| dS (OX rfl) <| dS (OX rfl) <| dS (PK rfl) <| d_end <| RK hK17 <| w_if_true rfl <| WS fun _ hK26 => rS (AG rfl) ?_
   refine RK hK26 <| w_ret <| Q1 hQ rfl rfl rfl ?_
   first | exact congrArg Value.bool (trackOk_len (by omega)).symm | exact congrArg Value.bool (trackOk_no hl0_1 hx (by simp only [StretchOk, SpanOk]; omega)).symm | exact congrArg Value.bool (trackOk_yes hl0_1 (by omega) (by omega)).symm
 replace h25 := XF h25
 refine dS (FA 8 rfl fo141_5 rfl) <| dS (L1 (Value.int .i64 x.Wall) 0 rfl tk3 rfl rfl) <| dS (CL (within_1 x.Wall 0 5000) (ha_nil) rfl) <| dS (NT rfl) <| dS (PK rfl) <| d_end <| RK hK17 ?_
 refine w_if rfl (fun h27 => ?_) (fun h27 => ?_)
 · replace h27 := XT h27
   refine WS fun _ hK28 => rS (AG rfl) <| RK hK28 <| w_ret <| Q1 hQ rfl rfl rfl ?_
   first | exact congrArg Value.bool (trackOk_len (by omega)).symm | exact congrArg Value.bool (trackOk_no hl0_1 hx (by simp only [StretchOk, SpanOk]; omega)).symm | exact congrArg Value.bool (trackOk_yes hl0_1 (by omega) (by omega)).symm
 replace h27 := XF h27
 refine WK hK16 <| WS fun _ hK29 => rS (FA 7 rfl fo141_4 rfl) <| rS (L1 (Value.int .u8 x.Side) 0 rfl tk5 rfl rfl) <| RK hK29 <| w_block <| WS fun _ hK30 => rS (BI rfl b_eql) <| rS (AG rfl) <| RK hK30 ?_
 refine w_if rfl (fun h31 => ?_) (fun h31 => ?_)
 · replace h31 := DT h31
   refine WS fun _ hK32 => rS (FA 5 rfl fo141_3 rfl) <| rS (FA 5 rfl fo47_0 rfl) <| rS (L1 (Value.int .i64 x.Radius.Lo) 0 rfl tk3 rfl rfl) <| rS (BI rfl b_neq) <| rS (MV rfl) ?_
   refine r_bool (t := 68) rfl (fun h33 => ?_) (fun h33 => ?_)
   · replace h33 := XT h33
     refine rS (OX rfl) <| rS (OX rfl) <| rS (OX rfl) <| rS (OX rfl) <| rS (PK rfl) <| RK hK32 <| w_if_true rfl <| WS fun _ hK34 => rS (AG rfl) <| RK hK34 ?_
     refine w_ret <| Q1 hQ rfl rfl rfl ?_
     first | exact congrArg Value.bool (trackOk_len (by omega)).symm | exact congrArg Value.bool (trackOk_no hl0_1 hx (by simp only [StretchOk, SpanOk]; omega)).symm | exact congrArg Value.bool (trackOk_yes hl0_1 (by omega) (by omega)).symm
   replace h33 := XF h33
   refine rS (FA 5 rfl fo141_3 rfl) <| rS (FA 6 rfl fo47_1 rfl) <| rS (L1 (Value.int .i64 x.Radius.Hi) 0 rfl tk3 rfl rfl) <| rS (BI rfl b_neq) <| rS (PK rfl) <| RK hK32 ?_
   refine w_if rfl (fun h35 => ?_) (fun h35 => ?_)
   · replace h35 := XT h35
     refine WS fun _ hK36 => rS (AG rfl) <| RK hK36 <| w_ret <| Q1 hQ rfl rfl rfl ?_
     first | exact congrArg Value.bool (trackOk_len (by omega)).symm | exact congrArg Value.bool (trackOk_no hl0_1 hx (by simp only [StretchOk, SpanOk]; omega)).symm | exact congrArg Value.bool (trackOk_yes hl0_1 (by omega) (by omega)).symm
   replace h35 := XF h35
   refine w_skip <| k_block <| k_block <| KK hK13 <| w_region <| rS (MV rfl) <| rS (BI rfl (b_add ⟨by omega, by omega⟩)) <| rS (AG rfl) <| r_nil ?_
   refine k_then (hJ9 ⟨(i + 1), ⟨by omega, trackFrom_next hl0_1 hx (by simp only [StretchOk, SpanOk]; omega), by rw [lastId_succ hx]; omega⟩⟩ _ _ _ rfl (by first | omega | (simp; omega)) (Sub.cons rfl <| Sub.cons rfl <| Sub.nil _) (fun w hs => St.sel [1, 2] rfl rfl hs))
 replace h31 := DF h31
 refine w_seq fun _ hK37 => WS fun _ hK38 => rS (BI rfl b_eql) <| rS (AG rfl) <| RK hK38 ?_
 refine w_if rfl (fun h39 => ?_) (fun h39 => ?_)
 · replace h39 := DT h39
   refine WK hK37 ?_
   refine w_if rfl (fun h40 => ?_) (fun h40 => ?_)
   rotate_left 1
   · replace h40 := DF h40
     refine WS fun _ hK44 => rS (AG rfl) <| RK hK44 <| w_ret <| Q1 hQ rfl rfl rfl ?_
     first | exact congrArg Value.bool (trackOk_len (by omega)).symm | exact congrArg Value.bool (trackOk_no hl0_1 hx (by simp only [StretchOk, SpanOk]; omega)).symm | exact congrArg Value.bool (trackOk_yes hl0_1 (by omega) (by omega)).symm
   replace h40 := DT h40
   refine WS fun _ hK41 => rS (FA 5 rfl fo141_3 rfl) <| rS (LP (SpanV.cells x.Radius) 0 rfl tk47 rfl rfl rfl) <| rS (CL (span_1 x.Radius 500 20000) (ha_nil) rfl) <| rS (NT rfl) <| RK hK41 ?_
   refine w_if rfl (fun h42 => ?_) (fun h42 => ?_)
   · replace h42 := XT h42
     refine WS fun _ hK43 => rS (AG rfl) <| RK hK43 <| w_ret <| Q1 hQ rfl rfl rfl ?_
     first | exact congrArg Value.bool (trackOk_len (by omega)).symm | exact congrArg Value.bool (trackOk_no hl0_1 hx (by simp only [StretchOk, SpanOk]; omega)).symm | exact congrArg Value.bool (trackOk_yes hl0_1 (by omega) (by omega)).symm
   replace h42 := XF h42
   refine w_skip <| k_block <| k_block <| KK hK13 <| w_region <| rS (MV rfl) <| rS (BI rfl (b_add ⟨by omega, by omega⟩)) <| rS (AG rfl) <| r_nil ?_
   refine k_then (hJ9 ⟨(i + 1), ⟨by omega, trackFrom_next hl0_1 hx (by simp only [StretchOk, SpanOk]; omega), by rw [lastId_succ hx]; omega⟩⟩ _ _ _ rfl (by first | omega | (simp; omega)) (Sub.cons rfl <| Sub.cons rfl <| Sub.nil _) (fun w hs => St.sel [1, 2] rfl rfl hs))
 replace h39 := DF h39
 refine w_region <| rS (BI rfl b_eql) <| rS (AG rfl) <| RK hK37 ?_
 refine w_if rfl (fun h45 => ?_) (fun h45 => ?_)
 rotate_left 1
 · replace h45 := DF h45
   refine WS fun _ hK49 => rS (AG rfl) <| RK hK49 <| w_ret <| Q1 hQ rfl rfl rfl ?_
   first | exact congrArg Value.bool (trackOk_len (by omega)).symm | exact congrArg Value.bool (trackOk_no hl0_1 hx (by simp only [StretchOk, SpanOk]; omega)).symm | exact congrArg Value.bool (trackOk_yes hl0_1 (by omega) (by omega)).symm
 replace h45 := DT h45
 refine WS fun _ hK46 => rS (FA 5 rfl fo141_3 rfl) <| rS (LP (SpanV.cells x.Radius) 0 rfl tk47 rfl rfl rfl) <| rS (CL (span_1 x.Radius 500 20000) (ha_nil) rfl) <| rS (NT rfl) <| RK hK46 ?_
 refine w_if rfl (fun h47 => ?_) (fun h47 => ?_)
 · replace h47 := XT h47
   refine WS fun _ hK48 => rS (AG rfl) <| RK hK48 <| w_ret <| Q1 hQ rfl rfl rfl ?_
   first | exact congrArg Value.bool (trackOk_len (by omega)).symm | exact congrArg Value.bool (trackOk_no hl0_1 hx (by simp only [StretchOk, SpanOk]; omega)).symm | exact congrArg Value.bool (trackOk_yes hl0_1 (by omega) (by omega)).symm
 replace h47 := XF h47
 refine w_skip <| k_block <| k_block <| KK hK13 <| w_region <| rS (MV rfl) <| rS (BI rfl (b_add ⟨by omega, by omega⟩)) <| rS (AG rfl) <| r_nil ?_
 refine k_then (hJ9 ⟨(i + 1), ⟨by omega, trackFrom_next hl0_1 hx (by simp only [StretchOk, SpanOk]; omega), by rw [lastId_succ hx]; omega⟩⟩ _ _ _ rfl (by first | omega | (simp; omega)) (Sub.cons rfl <| Sub.cons rfl <| Sub.nil _) (fun w hs => St.sel [1, 2] rfl rfl hs))
set_option maxRecDepth 100000 in
set_option maxHeartbeats 400000 in
theorem tcheck_c (ts : List StretchV) (tsA : Option Addr) (tsC : Nat) (hlen : ts.length ≤ 1000000) (hside : ∀ x ∈ ts, 0 ≤ x.Side ∧ x.Side ≤ 255) :
    FnV Tryz.prog 76 [(Value.agg (TrackV.cells (TrackV.mk (Slc.mk tsA ts.length tsC))).toArray)] [(rd tsA ts.length 9 (ts.map StretchV.cells))] (Value.int .i64 (if trackOk ts = true then 0 else 10)) := by
 refine fnV_of go76 Tryz.func76 rfl rfl fun w0 Q hQ hN => ?_
 try dsimp only
 refine WS fun _ hK1 => BXA rfl fun b2 => rS (AG rfl) <| RK hK1 <| w_scope rfl <| w_seq fun _ hK3 => WS fun _ hK4 => rS (FA 0 rfl fo24_0 rfl) <| rS (L1 (Value.slice tsA ts.length tsC) 0 rfl tk22 rfl rfl) <| rS (LN rfl ut22) ?_
 refine r_bs (xs := [.tmp 11]) (cs := [(Value.int .i64 ((ts.length : Nat) : Int))]) rfl te35 tz3 rfl rfl rfl rfl (by simp [Value.cells]) rfl rfl fun b5 => rS (CL (FnV.eq (in_track 1 12 ([((ts.length : Nat) : Int)]) (some ⟨b5, 0, none⟩) 1 (by first | assumption | omega | (simp; done) | (simp; omega))) inAll_one) (ha_cons (has_rd_blk 0 rfl rfl (by simp [iC_length]) rfl) <| ha_nil) rfl) <| rS (NT rfl) <| RK hK4 ?_
 refine w_if rfl (fun h6 => ?_) (fun h6 => ?_)
 · replace h6 := XT h6
   refine WS fun _ hK7 => rS (AG rfl) <| RK hK7 <| w_ret <| Q1 hQ rfl rfl rfl ?_
   first | exact congrArg (Value.int .i64) (if_neg (by rw [trackOk_len (by omega)]; decide)).symm | exact congrArg (Value.int .i64) (if_neg (by rw [trackOk_no hl0_1 hx (by simp only [StretchOk, SpanOk]; omega)]; decide)).symm | exact congrArg (Value.int .i64) (if_pos (trackOk_yes hl0_1 (by omega) (by omega))).symm
 replace h6 := XF h6
 refine WK hK3 <| WS fun _ hK8 => rS (AG rfl) <| RK hK8 <| WS fun _ hK9 => rS (AG rfl) <| RK hK9 <| w_seq fun _ hK10 => w_label <| KK hK10 ?_
 refine w_seq fun _ hK11 => WS fun _ hK12 => rS (FA 0 rfl fo24_0 rfl) <| rS (L1 (Value.slice tsA ts.length tsC) 1 rfl tk22 rfl rfl) <| rS (LN rfl ut22) <| rS (MV rfl) <| RK hK12 <| w_block ?_
 have hinit : (0 ≤ ts.length) ∧ (trackFrom (-1) ts = trackFrom (lastId ts 0) (ts.drop 0)) ∧ (-1 ≤ lastId ts 0) ∧ (lastId ts 0 ≤ 9999) := by (refine ⟨by omega, rfl, by simp [lastId], by simp [lastId]⟩)
 refine w_loop (ι := { z : Nat // (z ≤ ts.length) ∧ (trackFrom (-1) ts = trackFrom (lastId ts z) (ts.drop z)) ∧ (-1 ≤ lastId ts z) ∧ (lastId ts z ≤ 9999) }) (fun z => [(1, (Value.pointer (some ⟨b2, 0, none⟩))), (3, (Value.int .i64 (lastId ts z.1))), (4, (Value.int .i64 0)), (16, (Value.slice tsA ts.length tsC)), (17, (Value.int .i64 ((ts.length : Nat) : Int))), (18, (Value.int .i64 (z.1 : Int)))]) (fun z => [(blk b2 24 (TrackV.cells (TrackV.mk (Slc.mk tsA ts.length tsC)))), (rd tsA ts.length 9 (ts.map StretchV.cells)).ro]) (fun z => ts.length - z.1) ⟨0, hinit⟩ (Sub.cons rfl <| Sub.cons rfl <| Sub.cons rfl <| Sub.cons rfl <| Sub.cons rfl <| Sub.cons rfl <| Sub.nil _) (fun w hs => St.sel [1, 2] rfl rfl hs) ?_
 clear hinit
 rintro ⟨i, ⟨hl0_0, hl0_1, hl0_2, hl0_3⟩⟩ J13 hJ13
 try dsimp only
 refine WS fun _ hK14 => rS (BI rfl b_lss) <| RK hK14 <| w_seq fun _ hK15 => ?_
 refine w_if rfl (fun h16 => ?_) (fun h16 => ?_)
 rotate_left 1
 · replace h16 := DF h16
   refine w_exit <| k_exit_then <| k_exit_then <| k_exit_same <| KK hK11 <| WS fun _ hK24 => rS (MV rfl) <| rS (AG rfl) <| RK hK24 <| w_ret ?_
   refine Q1 hQ rfl rfl rfl ?_
   first | exact congrArg (Value.int .i64) (if_neg (by rw [trackOk_len (by omega)]; decide)).symm | exact congrArg (Value.int .i64) (if_neg (by rw [trackOk_no hl0_1 hx (by simp only [StretchOk, SpanOk]; omega)]; decide)).symm | exact congrArg (Value.int .i64) (if_pos (trackOk_yes hl0_1 (by omega) (by omega))).symm
 replace h16 := DT h16
 refine WK hK15 <| w_seq fun _ hK17 => w_block <| WS fun _ hK18 => ?_
 obtain ⟨x, hx⟩ : ∃ y_, ts[i]? = some y_ := ⟨ts[i]'(by omega), List.getElem?_eq_getElem _⟩
 have hxm : (ts.map StretchV.cells)[i]? = some (StretchV.cells x) := by rw [List.getElem?_map, hx]; rfl
 refine rS (IA i rfl (has_at 1 rfl) te22 (by decide) (by omega) (by omega)) ?_
 have hsd := hside x (List.mem_of_getElem? hx)
 refine rS (LEN i 0 (StretchV.cells x) rfl tk141 (has_at 1 rfl) hxm rfl (by decide) rfl rfl) <| AL rfl tz141 fun b19 => SW0 rfl ts141 rfl <| RK hK18 ?_
 refine w_join (ι := Unit) (fun z => [(1, (Value.pointer (some ⟨b2, 0, none⟩))), (3, (Value.int .i64 (lastId ts i))), (4, (Value.int .i64 0)), (6, (Value.pointer (some ⟨b19, 0, none⟩))), (7, (Value.bool (decide (x.Side = 0 ∧ x.Radius.Lo = 0 ∧ x.Radius.Hi = 0)))), (16, (Value.slice tsA ts.length tsC)), (17, (Value.int .i64 ((ts.length : Nat) : Int))), (18, (Value.int .i64 (i : Int)))]) (fun z => [(blk b19 141 (StretchV.cells x)), (blk b2 24 (TrackV.cells (TrackV.mk (Slc.mk tsA ts.length tsC)))), (rd tsA ts.length 9 (ts.map StretchV.cells)).ro]) ?_ fun K20 hK20 => ?_
 · intro _
   try dsimp only
   refine w_join (ι := Unit) (fun z => [(1, (Value.pointer (some ⟨b2, 0, none⟩))), (3, (Value.int .i64 (lastId ts i))), (4, (Value.int .i64 0)), (6, (Value.pointer (some ⟨b19, 0, none⟩))), (7, (Value.bool (decide (x.Side = 0 ∧ x.Radius.Lo = 0 ∧ x.Radius.Hi = 0)))), (8, (Value.bool (decide ((1 ≤ x.Side ∧ x.Side ≤ 2) ∧ x.Radius.Lo ≤ x.Radius.Hi ∧ 500 ≤ x.Radius.Lo ∧ x.Radius.Hi ≤ 20000)))), (16, (Value.slice tsA ts.length tsC)), (17, (Value.int .i64 ((ts.length : Nat) : Int))), (18, (Value.int .i64 (i : Int)))]) (fun z => [(blk b19 141 (StretchV.cells x)), (blk b2 24 (TrackV.cells (TrackV.mk (Slc.mk tsA ts.length tsC)))), (rd tsA ts.length 9 (ts.map StretchV.cells)).ro]) ?_ fun K21 hK21 => ?_
   · intro _
     try dsimp only
     refine w_seq fun _ hK22 => WS fun _ hK23 => rS (MV rfl) <| rS (BI rfl (b_add ⟨by omega, by omega⟩)) <| rS (FA 0 rfl fo141_0 rfl) <| rS (L1 (Value.int .i64 x.Id) 0 rfl tk3 rfl rfl) <| r_bs (xs := [.tmp 44]) (cs := [(Value.int .i64 x.Id)]) rfl te35 tz3 rfl rfl rfl rfl (by simp [Value.cells]) rfl rfl fun b24 => rS (CL (FnV.eq (in_track ((lastId ts i) + 1) 9999 ([x.Id]) (some ⟨b24, 0, none⟩) 1 (by first | assumption | omega | (simp; done) | (simp; omega))) inAll_one) (ha_cons (has_rd_blk 0 rfl rfl (by simp [iC_length]) rfl) <| ha_nil) rfl) <| rS (NT rfl) <| rS (MV rfl) ?_
     refine r_bool (t := 48) rfl (fun h25 => ?_) (fun h25 => ?_)
     · replace h25 := XT h25
       refine rS (OX rfl) <| rS (OX rfl) <| rS (OX rfl) <| rS (OX rfl) <| rS (PK rfl) <| rS (MV rfl) <| rS (OX rfl) <| rS (OX rfl) <| rS (OX rfl) <| rS (OX rfl) ?_
       refine rS (PK rfl) <| rS (MV rfl) <| rS (OX rfl) <| rS (OX rfl) <| rS (OX rfl) <| rS (OX rfl) <| rS (OX rfl) <| rS (PK rfl) <| rS (MV rfl) <| rS (OX rfl) ?_
       refine rS (OX rfl) <| rS (OX rfl) <| rS (OX rfl) <| rS (OX rfl) <| rS (OX rfl) <| rS (PK rfl) <| RK hK23 <| w_if_true rfl <| WS fun _ hK26 => rS (AG rfl) ?_
       refine RK hK26 <| w_exit <| k_exit_then <| k_exit_other rfl <| k_exit_then <| k_exit_then <| k_exit_same <| KK hK11 <| WS fun _ hK27 => rS (MV rfl) ?_
       refine rS (AG rfl) <| RK hK27 <| w_ret <| Q1 hQ rfl rfl rfl ?_
       first | exact congrArg (Value.int .i64) (if_neg (by rw [trackOk_len (by omega)]; decide)).symm | exact congrArg (Value.int .i64) (if_neg (by rw [trackOk_no hl0_1 hx (by simp only [StretchOk, SpanOk]; omega)]; decide)).symm | exact congrArg (Value.int .i64) (if_pos (trackOk_yes hl0_1 (by omega) (by omega))).symm
     replace h25 := XF h25
     refine rS (FA 1 rfl fo141_1 rfl) <| rS (LP (SpanV.cells x.Long) 1 rfl tk47 rfl rfl rfl) <| rS (CL (known_c x.Long 1 30000) (ha_nil) rfl) <| rS (NT rfl) <| rS (PK rfl) <| rS (MV rfl) ?_
     refine r_bool (t := 54) rfl (fun h28 => ?_) (fun h28 => ?_)
     · replace h28 := XT h28
       refine rS (OX rfl) <| rS (OX rfl) <| rS (OX rfl) <| rS (OX rfl) <| rS (PK rfl) <| rS (MV rfl) <| rS (OX rfl) <| rS (OX rfl) <| rS (OX rfl) <| rS (OX rfl) ?_
       refine rS (OX rfl) <| rS (PK rfl) <| rS (MV rfl) <| rS (OX rfl) <| rS (OX rfl) <| rS (OX rfl) <| rS (OX rfl) <| rS (OX rfl) <| rS (OX rfl) <| rS (PK rfl) ?_
       refine RK hK23 <| w_if_true rfl <| WS fun _ hK29 => rS (AG rfl) <| RK hK29 <| w_exit <| k_exit_then <| k_exit_other rfl <| k_exit_then <| k_exit_then ?_
       refine k_exit_same <| KK hK11 <| WS fun _ hK30 => rS (MV rfl) <| rS (AG rfl) <| RK hK30 <| w_ret <| Q1 hQ rfl rfl rfl ?_
       first | exact congrArg (Value.int .i64) (if_neg (by rw [trackOk_len (by omega)]; decide)).symm | exact congrArg (Value.int .i64) (if_neg (by rw [trackOk_no hl0_1 hx (by simp only [StretchOk, SpanOk]; omega)]; decide)).symm | exact congrArg (Value.int .i64) (if_pos (trackOk_yes hl0_1 (by omega) (by omega))).symm
     replace h28 := XF h28
     refine rS (FA 3 rfl fo141_2 rfl) <| rS (LP (SpanV.cells x.Fall) 1 rfl tk47 rfl rfl rfl) <| rS (CL (known_c x.Fall 0 5000) (ha_nil) rfl) <| rS (NT rfl) <| rS (PK rfl) <| rS (MV rfl) ?_
     refine r_bool (t := 60) rfl (fun h31 => ?_) (fun h31 => ?_)
     · replace h31 := XT h31
       refine rS (OX rfl) <| rS (OX rfl) <| rS (OX rfl) <| rS (OX rfl) <| rS (OX rfl) <| rS (PK rfl) <| rS (MV rfl) <| rS (OX rfl) <| rS (OX rfl) <| rS (OX rfl) ?_
       refine rS (OX rfl) <| rS (OX rfl) <| rS (OX rfl) <| rS (PK rfl) <| RK hK23 <| w_if_true rfl <| WS fun _ hK32 => rS (AG rfl) <| RK hK32 <| w_exit ?_
       refine k_exit_then <| k_exit_other rfl <| k_exit_then <| k_exit_then <| k_exit_same <| KK hK11 <| WS fun _ hK33 => rS (MV rfl) <| rS (AG rfl) <| RK hK33 ?_
       refine w_ret <| Q1 hQ rfl rfl rfl ?_
       first | exact congrArg (Value.int .i64) (if_neg (by rw [trackOk_len (by omega)]; decide)).symm | exact congrArg (Value.int .i64) (if_neg (by rw [trackOk_no hl0_1 hx (by simp only [StretchOk, SpanOk]; omega)]; decide)).symm | exact congrArg (Value.int .i64) (if_pos (trackOk_yes hl0_1 (by omega) (by omega))).symm
     replace h31 := XF h31
     refine rS (FA 8 rfl fo141_5 rfl) <| rS (L1 (Value.int .i64 x.Wall) 1 rfl tk3 rfl rfl) <| r_bs (xs := [.tmp 62]) (cs := [(Value.int .i64 x.Wall)]) rfl te35 tz3 rfl rfl rfl rfl (by simp [Value.cells]) rfl rfl fun b34 => rS (CL (FnV.eq (in_track 0 5000 ([x.Wall]) (some ⟨b34, 0, none⟩) 1 (by first | assumption | omega | (simp; done) | (simp; omega))) inAll_one) (ha_cons (has_rd_blk 0 rfl rfl (by simp [iC_length]) rfl) <| ha_nil) rfl) <| rS (NT rfl) <| rS (PK rfl) <| rS (MV rfl) ?_
     refine r_bool (t := 67) rfl (fun h35 => ?_) (fun h35 => ?_)
     · replace h35 := XT h35
       refine rS (OX rfl) <| rS (OX rfl) <| rS (OX rfl) <| rS (OX rfl) <| rS (OX rfl) <| rS (OX rfl) <| rS (PK rfl) <| RK hK23 <| w_if_true rfl <| WS fun _ hK36 => ?_
       refine rS (AG rfl) <| RK hK36 <| w_exit <| k_exit_then <| k_exit_other rfl <| k_exit_then <| k_exit_then <| k_exit_same <| KK hK11 <| WS fun _ hK37 => ?_
       refine rS (MV rfl) <| rS (AG rfl) <| RK hK37 <| w_ret <| Q1 hQ rfl rfl rfl ?_
       first | exact congrArg (Value.int .i64) (if_neg (by rw [trackOk_len (by omega)]; decide)).symm | exact congrArg (Value.int .i64) (if_neg (by rw [trackOk_no hl0_1 hx (by simp only [StretchOk, SpanOk]; omega)]; decide)).symm | exact congrArg (Value.int .i64) (if_pos (trackOk_yes hl0_1 (by omega) (by omega))).symm
     replace h35 := XF h35
     refine rS (MV rfl) <| rS (NT rfl) <| rS (MV rfl) ?_
     refine r_bool (t := 70) rfl (fun h38 => ?_) (fun h38 => ?_)
     rotate_left 1
     · replace h38 := XF h38
       refine rS (OX rfl) <| rS (OX rfl) <| rS (PK rfl) <| rS (PK rfl) <| RK hK23 <| w_if_false rfl <| WK hK22 <| w_region <| rS (FA 0 rfl fo141_0 rfl) <| rS (L1 (Value.int .i64 x.Id) 2 rfl tk3 rfl rfl) ?_
       refine rS (AG rfl) <| r_nil <| k_block <| KK hK17 <| w_region <| rS (BI rfl (b_add ⟨by omega, by omega⟩)) <| rS (MV rfl) <| r_nil ?_
       have hb43 : (Value.int .i64 (lastId ts (i + 1))) = (Value.int .i64 x.Id) := by rw [lastId_succ hx]
       refine k_then (hJ13 ⟨(i + 1), ⟨by omega, trackFrom_next hl0_1 hx (by simp only [StretchOk, SpanOk]; omega), by rw [lastId_succ hx]; omega, by rw [lastId_succ hx]; omega⟩⟩ _ _ _ rfl (by first | omega | (simp; omega)) (Sub.cons rfl <| sub_val rfl hb43 <| Sub.cons rfl <| Sub.cons rfl <| Sub.cons rfl <| Sub.cons rfl <| Sub.nil _) (fun w hs => St.sel [3, 4] rfl rfl hs))
     replace h38 := XT h38
     refine rS (MV rfl) <| rS (NT rfl) <| rS (PK rfl) <| rS (PK rfl) <| RK hK23 ?_
     refine w_if rfl (fun h39 => ?_) (fun h39 => ?_)
     · replace h39 := XT h39
       refine WS fun _ hK40 => rS (AG rfl) <| RK hK40 <| w_exit <| k_exit_then <| k_exit_other rfl <| k_exit_then <| k_exit_then <| k_exit_same <| KK hK11 ?_
       refine WS fun _ hK41 => rS (MV rfl) <| rS (AG rfl) <| RK hK41 <| w_ret <| Q1 hQ rfl rfl rfl ?_
       first | exact congrArg (Value.int .i64) (if_neg (by rw [trackOk_len (by omega)]; decide)).symm | exact congrArg (Value.int .i64) (if_neg (by rw [trackOk_no hl0_1 hx (by simp only [StretchOk, SpanOk]; omega)]; decide)).symm | exact congrArg (Value.int .i64) (if_pos (trackOk_yes hl0_1 (by omega) (by omega))).symm
     replace h39 := XF h39
     refine WK hK22 <| w_region <| rS (FA 0 rfl fo141_0 rfl) <| rS (L1 (Value.int .i64 x.Id) 2 rfl tk3 rfl rfl) <| rS (AG rfl) <| r_nil <| k_block <| KK hK17 <| w_region <| rS (BI rfl (b_add ⟨by omega, by omega⟩)) ?_
     refine rS (MV rfl) <| r_nil ?_
     have hb42 : (Value.int .i64 (lastId ts (i + 1))) = (Value.int .i64 x.Id) := by rw [lastId_succ hx]
     refine k_then (hJ13 ⟨(i + 1), ⟨by omega, trackFrom_next hl0_1 hx (by simp only [StretchOk, SpanOk]; omega), by rw [lastId_succ hx]; omega, by rw [lastId_succ hx]; omega⟩⟩ _ _ _ rfl (by first | omega | (simp; omega)) (Sub.cons rfl <| sub_val rfl hb42 <| Sub.cons rfl <| Sub.cons rfl <| Sub.cons rfl <| Sub.cons rfl <| Sub.nil _) (fun w hs => St.sel [3, 4] rfl rfl hs))
   refine w_region <| rS (FA 7 rfl fo141_4 rfl) <| rS (L1 (Value.int .u8 x.Side) 0 rfl tk5 rfl rfl) <| rS (SX (sd_conv (m := x.Side) rfl rfl ut5 ut3 (wrap_u8_i64 (by first | assumption | omega))) rfl rfl) <| r_bs (xs := [.tmp 33]) (cs := [(Value.int .i64 x.Side)]) rfl te35 tz3 rfl rfl rfl rfl (by simp [Value.cells]) rfl rfl fun b22 => rS (CL (FnV.eq (in_track 1 2 ([x.Side]) (some ⟨b22, 0, none⟩) 1 (by first | assumption | omega | (simp; done) | (simp; omega))) inAll_one) (ha_cons (has_rd_blk 0 rfl rfl (by simp [iC_length]) rfl) <| ha_nil) rfl) <| rS (MV rfl) ?_
   refine r_bool (t := 36) rfl (fun h23 => ?_) (fun h23 => ?_)
   rotate_left 1
   · replace h23 := DF h23
     refine rS (OX rfl) <| rS (OX rfl) <| rS (OX rfl) <| rS (PK rfl) <| rS (AG rfl) <| r_nil ?_
     have hb25 : (decide ((1 ≤ x.Side ∧ x.Side ≤ 2) ∧ x.Radius.Lo ≤ x.Radius.Hi ∧ 500 ≤ x.Radius.Lo ∧ x.Radius.Hi ≤ 20000)) = false := decide_eq_false (by first | omega | (simp only [SpanV.ext_iff] at *; omega))
     refine k_then (k_sub (Sub.cons rfl <| Sub.cons rfl <| Sub.cons rfl <| Sub.cons rfl <| Sub.cons rfl <| sub_bool rfl hb25 <| Sub.cons rfl <| Sub.cons rfl <| Sub.cons rfl <| Sub.nil _) (fun w hs => St.sel [1, 2, 3] rfl rfl hs) (hK21 ()))
   replace h23 := DT h23
   refine rS (FA 5 rfl fo141_3 rfl) <| rS (LP (SpanV.cells x.Radius) 1 rfl tk47 rfl rfl rfl) <| rS (CL (known_c x.Radius 500 20000) (ha_nil) rfl) <| rS (PK rfl) <| rS (AG rfl) <| r_nil ?_
   have hb24 : (decide ((1 ≤ x.Side ∧ x.Side ≤ 2) ∧ x.Radius.Lo ≤ x.Radius.Hi ∧ 500 ≤ x.Radius.Lo ∧ x.Radius.Hi ≤ 20000)) = (decide (x.Radius.Lo ≤ x.Radius.Hi ∧ 500 ≤ x.Radius.Lo ∧ x.Radius.Hi ≤ 20000)) := decide_eq_decide.2 (by first | omega | (simp only [SpanV.ext_iff] at *; omega))
   refine k_then (k_sub (Sub.cons rfl <| Sub.cons rfl <| Sub.cons rfl <| Sub.cons rfl <| Sub.cons rfl <| sub_bool rfl hb24 <| Sub.cons rfl <| Sub.cons rfl <| Sub.cons rfl <| Sub.nil _) (fun w hs => St.sel [1, 2, 3] rfl rfl hs) (hK21 ()))
 refine w_region <| rS (FA 7 rfl fo141_4 rfl) <| rS (L1 (Value.int .u8 x.Side) 0 rfl tk5 rfl rfl) <| rS (BI rfl b_eql) <| rS (MV rfl) ?_
 refine r_bool (t := 25) rfl (fun h21 => ?_) (fun h21 => ?_)
 rotate_left 1
 · replace h21 := DF h21
   refine rS (OX rfl) <| rS (OX rfl) <| rS (OX rfl) <| rS (OX rfl) <| rS (PK rfl) <| rS (AG rfl) <| r_nil ?_
   have hb23 : (decide (x.Side = 0 ∧ x.Radius.Lo = 0 ∧ x.Radius.Hi = 0)) = false := decide_eq_false (by first | omega | (simp only [SpanV.ext_iff] at *; omega))
   refine k_then (k_sub (Sub.cons rfl <| Sub.cons rfl <| Sub.cons rfl <| Sub.cons rfl <| sub_bool rfl hb23 <| Sub.cons rfl <| Sub.cons rfl <| Sub.cons rfl <| Sub.nil _) (fun w hs => St.sel [0, 1, 2] rfl rfl hs) (hK20 ()))
 replace h21 := DT h21
 refine rS (FA 5 rfl fo141_3 rfl) <| rS (LP (SpanV.cells x.Radius) 0 rfl tk47 rfl rfl rfl) <| rS (SX (sd_build (xs := []) (cs := (SpanV.cells (SpanV.mk 0 0))) rfl rfl (built_of tb47 rfl)) rfl rfl) <| rS (BI rfl (eqs47 _ _ x.Radius (SpanV.mk 0 0))) <| rS (PK rfl) <| rS (AG rfl) <| r_nil ?_
 have hb22 : (decide (x.Side = 0 ∧ x.Radius.Lo = 0 ∧ x.Radius.Hi = 0)) = (decide (x.Radius = (SpanV.mk 0 0))) := decide_eq_decide.2 (by first | omega | (simp only [SpanV.ext_iff] at *; omega))
 refine k_then (k_sub (Sub.cons rfl <| Sub.cons rfl <| Sub.cons rfl <| Sub.cons rfl <| sub_bool rfl hb22 <| Sub.cons rfl <| Sub.cons rfl <| Sub.cons rfl <| Sub.nil _) (fun w hs => St.sel [0, 1, 2] rfl rfl hs) (hK20 ()))
set_option maxRecDepth 100000 in
set_option maxHeartbeats 400000 in
theorem sameints_c (la : List Int) (laA : Option Addr) (laC : Nat) (lb : List Int) (lbA : Option Addr) (lbC : Nat) (h1 : la.length ≤ 1000000) (h2 : lb.length ≤ 1000000) :
    FnV Tryz.prog 14 [(Value.slice laA la.length laC), (Value.slice lbA lb.length lbC)] [(rd laA la.length 1 (la.map iC)), (rd lbA lb.length 1 (lb.map iC))] (Value.bool (decide (la = lb))) := by
 refine fnV_of go14 Tryz.func14 rfl rfl fun w0 Q hQ hN => ?_
 try dsimp only
 refine WS fun _ hK1 => rS (AG rfl) <| RK hK1 <| w_seq fun _ hK2 => WS fun _ hK3 => rS (MV rfl) <| rS (LN rfl ut35) <| rS (MV rfl) <| rS (LN rfl ut35) <| rS (BI rfl b_neq) ?_
 refine RK hK3 ?_
 refine w_if rfl (fun hl => ?_) (fun hl => ?_)
 · replace hl := XT hl
   refine WS fun _ hK4 => rS (AG rfl) <| RK hK4 <| w_ret <| Q1 hQ rfl rfl rfl ?_
   first | exact congrArg Value.bool (decide_eq_false (lists_ne hx hy h)).symm | exact congrArg Value.bool (decide_eq_true (lists_eq (by omega) hl0_1 (by omega))).symm | exact congrArg Value.bool (decide_eq_false (fun e => by subst e; omega)).symm
 replace hl := XF hl
 refine WK hK2 <| w_seq fun _ hK5 => WS fun _ hK6 => rS (AG rfl) <| RK hK6 <| w_block ?_
 have hinit : (0 ≤ la.length) ∧ (la.take 0 = lb.take 0) := by simp
 refine w_loop (ι := { z : Nat // (z ≤ la.length) ∧ (la.take z = lb.take z) }) (fun z => [(0, (Value.slice laA la.length laC)), (1, (Value.slice lbA lb.length lbC)), (5, (Value.int .i64 ((z.1 : Nat) : Int)))]) (fun z => [(rd laA la.length 1 (la.map iC)).ro, (rd lbA lb.length 1 (lb.map iC)).ro]) (fun z => la.length - z.1) ⟨0, hinit⟩ (Sub.cons rfl <| Sub.cons rfl <| Sub.cons rfl <| Sub.nil _) (fun w hs => St.sel [0, 1] rfl rfl hs) ?_
 clear hinit
 rintro ⟨i, ⟨hl0_0, hl0_1⟩⟩ J7 hJ7
 try dsimp only
 refine w_seq fun _ hK8 => WS fun _ hK9 => rS (MV rfl) <| rS (MV rfl) <| rS (LN rfl ut35) <| rS (BI rfl b_lss) <| RK hK9 ?_
 refine w_if rfl (fun h10 => ?_) (fun h10 => ?_)
 rotate_left 1
 · replace h10 := DF h10
   refine w_exit <| k_exit_then <| k_exit_then <| k_exit_same <| KK hK5 <| WS fun _ hK15 => rS (AG rfl) <| RK hK15 <| w_ret <| Q1 hQ rfl rfl rfl ?_
   first | exact congrArg Value.bool (decide_eq_false (lists_ne hx hy h)).symm | exact congrArg Value.bool (decide_eq_true (lists_eq (by omega) hl0_1 (by omega))).symm | exact congrArg Value.bool (decide_eq_false (fun e => by subst e; omega)).symm
 replace h10 := DT h10
 refine WK hK8 <| w_seq fun _ hK11 => w_block <| w_seq fun _ hK12 => w_draw mixed 9 (by kernel_rfl) <| dS (MV rfl) <| dS (MV rfl) ?_
 obtain ⟨x, hx⟩ : ∃ y_, la[i]? = some y_ := ⟨la[i]'(by omega), List.getElem?_eq_getElem _⟩
 have hxm : (la.map iC)[i]? = some (iC x) := by rw [List.getElem?_map, hx]; rfl
 refine dS (IA i rfl (has_at 0 rfl) te35 (by decide) (by omega) (by omega)) <| dS (LE1 i 0 (Value.int .i64 x) rfl tk3 (has_at 0 rfl) hxm rfl (by decide) rfl) <| dS (MV rfl) <| dS (MV rfl) ?_
 obtain ⟨y, hy⟩ : ∃ y_, lb[i]? = some y_ := ⟨lb[i]'(by omega), List.getElem?_eq_getElem _⟩
 have hym : (lb.map iC)[i]? = some (iC y) := by rw [List.getElem?_map, hy]; rfl
 refine dS (IA i rfl (has_at 1 rfl) te35 (by decide) (by omega) (by omega)) <| dS (LE1 i 0 (Value.int .i64 y) rfl tk3 (has_at 1 rfl) hym rfl (by decide) rfl) <| dS (BI rfl b_neq) <| d_end <| RK hK12 ?_
 refine w_if rfl (fun h => ?_) (fun h => ?_)
 · replace h := XT h
   refine WS fun _ hK13 => rS (AG rfl) <| RK hK13 <| w_ret <| Q1 hQ rfl rfl rfl ?_
   first | exact congrArg Value.bool (decide_eq_false (lists_ne hx hy h)).symm | exact congrArg Value.bool (decide_eq_true (lists_eq (by omega) hl0_1 (by omega))).symm | exact congrArg Value.bool (decide_eq_false (fun e => by subst e; omega)).symm
 replace h := XF h
 refine w_skip <| k_block <| KK hK11 <| w_region <| rS (MV rfl) <| rS (BI rfl (b_add ⟨by omega, by omega⟩)) <| rS (AG rfl) <| r_nil ?_
 have hb14 : (Value.int .i64 (((i + 1) : Nat) : Int)) = (Value.int .i64 (((i : Nat) : Int) + 1)) := by exact congrArg (Value.int .i64) (by omega)
 refine k_then (hJ7 ⟨(i + 1), ⟨by omega, take_same hl0_1 hx hy h⟩⟩ _ _ _ rfl (by first | omega | (simp; omega)) (Sub.cons rfl <| Sub.cons rfl <| sub_val rfl hb14 <| Sub.nil _) (fun w hs => St.sel [0, 1] rfl rfl hs))
end
section
open Go.RowKit
set_option linter.unusedVariables false
theorem gk124 : GKey Tryz.prog 124 tallyU := gkey_of fl124 (fun x y w => eqI124 9998 x y w) (fun x y h => by cases x; cases y; simp [TallyV.cells] at h; simp [h]) (fun x => by simp [TallyV.cells, Instr.sameBits]) (fun x w => ⟨_, rfl, fun p hp => by
    simp only [List.mem_cons, List.not_mem_nil, or_false] at hp
    rcases hp with rfl | rfl
    · exact ⟨⟨_, part_one tk3 rfl w⟩, _, ut3⟩
    · exact ⟨⟨_, part_one tk3 rfl w⟩, _, ut3⟩⟩)
set_option maxRecDepth 100000 in
set_option maxHeartbeats 400000 in
theorem one_c (s : Int) :
    FnV Tryz.prog 70 [(Value.int .i64 s)] [] (Value.agg (TallyV.cells (oneT s)).toArray) := by
 refine fnV_of go70 Tryz.func70 rfl rfl fun w0 Q hQ hN => ?_
 try dsimp only
 refine WS fun _ hK1 => AL rfl tz124 fun b2 => RK hK1 <| w_seq fun _ hK3 => WS fun _ hK4 => rS (MV rfl) <| rS (BI rfl b_lss) <| RK hK4 ?_
 refine w_if rfl (fun h4 => ?_) (fun h4 => ?_)
 · replace h4 := DT h4
   refine WS fun _ hK5 => rS (SX (sd_build (xs := [(1, .const (Value.int .i64 1))]) (cs := (TallyV.cells (TallyV.mk 0 1))) rfl rfl (built_of tb124 rfl)) rfl rfl) <| SW0 rfl ts124 rfl <| RK hK5 <| w_ret ?_
   refine hQ _ _ _ (l_nil (vs := [(Value.agg (TallyV.cells (TallyV.mk 0 1)).toArray)]) ⟨⟨_, rfl, .inl ⟨_, _, tk124, at_blk (vs := (TallyV.cells (TallyV.mk 0 1))) 0 rfl rfl, rfl, rfl⟩⟩, trivial⟩ fun w hs => endV ?_ hs)
   show (Value.agg (TallyV.cells (TallyV.mk 0 1)).toArray) = (Value.agg (TallyV.cells (oneT s)).toArray)
   clear hs w hQ hN hK5 hK4 hK3 hK1
   unfold oneT; first | rw [if_pos h4] | rw [if_neg h4]
 replace h4 := DF h4
 refine WK hK3 <| WS fun _ hK6 => rS (SX (sd_build (xs := [(0, .const (Value.int .i64 1))]) (cs := (TallyV.cells (TallyV.mk 1 0))) rfl rfl (built_of tb124 rfl)) rfl rfl) <| SW0 rfl ts124 rfl <| RK hK6 <| w_ret ?_
 refine hQ _ _ _ (l_nil (vs := [(Value.agg (TallyV.cells (TallyV.mk 1 0)).toArray)]) ⟨⟨_, rfl, .inl ⟨_, _, tk124, at_blk (vs := (TallyV.cells (TallyV.mk 1 0))) 0 rfl rfl, rfl, rfl⟩⟩, trivial⟩ fun w hs => endV ?_ hs)
 show (Value.agg (TallyV.cells (TallyV.mk 1 0)).toArray) = (Value.agg (TallyV.cells (oneT s)).toArray)
 clear hs w hQ hN hK6 hK4 hK3 hK1
 unfold oneT; first | rw [if_pos h4] | rw [if_neg h4]
set_option maxRecDepth 100000 in
set_option maxHeartbeats 400000 in
theorem tplus_c (x : TallyV) (y : TallyV) (hx : (0 ≤ x.right ∧ x.right ≤ 1000) ∧ 0 ≤ x.missed ∧ x.missed ≤ 1000) (hy : (0 ≤ y.right ∧ y.right ≤ 1000) ∧ 0 ≤ y.missed ∧ y.missed ≤ 1000) :
    FnV Tryz.prog 69 [(Value.agg (TallyV.cells x).toArray), (Value.agg (TallyV.cells y).toArray)] [] (Value.agg (TallyV.cells (addT x y)).toArray) := by
 refine fnV_of go69 Tryz.func69 rfl rfl fun w0 Q hQ hN => ?_
 try dsimp only
 refine WS fun _ hK1 => BXA rfl fun b2 => BXA rfl fun b3 => AL rfl tz124 fun b4 => RK hK1 <| WS fun _ hK5 => rS (FA 0 rfl fo124_0 rfl) <| rS (L1 (Value.int .i64 x.right) 2 rfl tk3 rfl rfl) <| rS (FA 0 rfl fo124_0 rfl) <| rS (L1 (Value.int .i64 y.right) 1 rfl tk3 rfl rfl) ?_
 refine rS (BI rfl (b_add ⟨by omega, by omega⟩)) <| rS (FA 1 rfl fo124_1 rfl) <| rS (L1 (Value.int .i64 x.missed) 2 rfl tk3 rfl rfl) <| rS (FA 1 rfl fo124_1 rfl) <| rS (L1 (Value.int .i64 y.missed) 1 rfl tk3 rfl rfl) <| rS (BI rfl (b_add ⟨by omega, by omega⟩)) <| rS (SX (sd_build (xs := [(0, .tmp 9), (1, .tmp 14)]) (cs := (TallyV.cells (TallyV.mk (x.right + y.right) (x.missed + y.missed)))) rfl rfl (built_of tb124 rfl)) rfl rfl) <| SW0 rfl ts124 rfl <| RK hK5 <| w_ret ?_
 refine hQ _ _ _ (l_nil (vs := [(Value.agg (TallyV.cells (TallyV.mk (x.right + y.right) (x.missed + y.missed))).toArray)]) ⟨⟨_, rfl, .inl ⟨_, _, tk124, at_blk (vs := (TallyV.cells (TallyV.mk (x.right + y.right) (x.missed + y.missed)))) 0 rfl rfl, rfl, rfl⟩⟩, trivial⟩ fun w hs => endV ?_ hs)
 show (Value.agg (TallyV.cells (TallyV.mk (x.right + y.right) (x.missed + y.missed))).toArray) = (Value.agg (TallyV.cells (addT x y)).toArray)
 clear hs w hQ hN hK5 hK1
 rfl
set_option maxRecDepth 100000 in
set_option maxHeartbeats 400000 in
theorem may_c (ln : LineV) (ri : RideV) (e : List Int) (tms : List TM) (e_A : Option Addr) (e_C : Nat) (tb : List Nat) (t_A : Option Addr) (t_C : Nat) (fs : List FM) (bs : List FM) (fb : List Nat) (f_A : Option Addr) (f_C : Nat) (bb : List Nat) (b_A : Option Addr) (b_C : Nat) (gw : Nat) (x : TallyV) (hx : (0 ≤ x.right ∧ x.right ≤ 1000) ∧ 0 ≤ x.missed ∧ x.missed ≤ 1000) (hn : ri.Signals.n ≤ 1000) :
    FnV Tryz.prog 62 [(Value.pointer (some ⟨gw, 0, none⟩)), (Value.agg (TallyV.cells x).toArray)] [(rd e_A e.length 1 (e.map iC)), (rd t_A tms.length 1 (List.zipWith mapC tms tb)), (bun (nest tmR tms tb)), (rd f_A fs.length 1 (List.zipWith mapC fs fb)), (bun (nest fmR fs fb)), (rd b_A bs.length 1 (List.zipWith mapC bs bb)), (bun (nest fmR bs bb)), (blk gw 117 (WatchV.cells (WatchV.mk ln ri (Slc.mk e_A e.length e_C) (Slc.mk t_A tms.length t_C) (Slc.mk f_A fs.length f_C) (Slc.mk b_A bs.length b_C))))] (Value.bool (mayT (watchOf ln ri e tms) x)) := by
 refine fnV_of go62 Tryz.func62 rfl rfl fun w0 Q hQ hN => ?_
 try dsimp only
 refine WS fun _ hK1 => BXA rfl fun b2 => rS (AG rfl) <| RK hK1 <| w_seq fun _ hK3 => w_draw mixed 26 (by kernel_rfl) <| dS (FA 1 rfl fo124_1 rfl) <| dS (L1 (Value.int .i64 x.missed) 0 rfl tk3 rfl rfl) <| dS (MV rfl) <| dS (SX (sd_nil_p rfl rfl) rfl rfl) ?_
 refine dS (FA 0 rfl fo117_0 rfl) <| dS (FA 6 rfl fo28_6 rfl) <| dS (L1R (Value.int .i64 ln.Misses) 8 rfl tk3 rfl rfl) <| dS (BI rfl b_leq) <| dS (MV rfl) ?_
 refine d_bool (t := 13) rfl (fun h13 => ?_) (fun h13 => ?_)
 rotate_left 1
 · replace h13 := DF h13
   refine dS (OX rfl) <| dS (OX rfl) <| dS (OX rfl) <| dS (OX rfl) <| dS (OX rfl) <| dS (OX rfl) <| dS (OX rfl) <| dS (OX rfl) <| dS (OX rfl) <| dS (OX rfl) ?_
   refine dS (OX rfl) <| dS (OX rfl) <| dS (OX rfl) <| dS (OX rfl) <| dS (OX rfl) <| dS (PK rfl) <| dS (AG rfl) <| d_end <| RK hK3 <| w_ret ?_
   refine Q1 hQ rfl rfl rfl ?_
   first | exact congrArg Value.bool (decide_eq_false (fun h => h13 h.1)).symm | exact congrArg Value.bool (decide_eq_decide.2 ⟨fun h => ⟨h13, h⟩, fun h => h.2⟩)
 replace h13 := DT h13
 refine dS (MV rfl) <| dS (SX (sd_nil_p rfl rfl) rfl rfl) <| dS (FA 7 rfl fo117_1 rfl) <| dS (FA 9 rfl fo31_2 rfl) <| dS (L1R (Value.slice ri.Signals.a ri.Signals.n ri.Signals.c) 8 rfl tk29 rfl rfl) <| dS (LN rfl ut29) <| dS (FA 0 rfl fo124_0 rfl) <| dS (L1 (Value.int .i64 x.right) 0 rfl tk3 rfl rfl) <| dS (BI rfl (b_sub ⟨by omega, by omega⟩)) <| dS (MV rfl) ?_
 refine dS (SX (sd_nil_p rfl rfl) rfl rfl) <| dS (FA 0 rfl fo117_0 rfl) <| dS (FA 5 rfl fo28_5 rfl) <| dS (L1R (Value.int .i64 ln.Fakes) 8 rfl tk3 rfl rfl) <| dS (BI rfl b_leq) <| dS (PK rfl) <| dS (AG rfl) <| d_end <| RK hK3 <| w_ret ?_
 refine Q1 hQ rfl rfl rfl ?_
 first | exact congrArg Value.bool (decide_eq_false (fun h => h13 h.1)).symm | exact congrArg Value.bool (decide_eq_decide.2 ⟨fun h => ⟨h13, h⟩, fun h => h.2⟩)
end
section
open Go.RowKit
set_option linter.unusedVariables false
set_option maxRecDepth 100000 in
set_option maxHeartbeats 400000 in
theorem numbers_c (ln : LineV) (ri : RideV) (e : List Int) (tms : List TM) (e_A : Option Addr) (e_C : Nat) (tb : List Nat) (t_A : Option Addr) (t_C : Nat) (fs : List FM) (bs : List FM) (fb : List Nat) (f_A : Option Addr) (f_C : Nat) (bb : List Nat) (b_A : Option Addr) (b_C : Nat) (gw : Nat) (hw : WOk (watchOf ln ri e tms)) (hsg : ri.Signals.n ≤ 1000) (hn : ln.Beams.n = e.length) (hfw : FwdOk (watchOf ln ri e tms) fs) (hfb : fb.length = fs.length) :
    FnX Tryz.prog 34 [(Value.pointer (some ⟨gw, 0, none⟩))] [(rd e_A e.length 1 (e.map iC)), (rd t_A tms.length 1 (List.zipWith mapC tms tb)), (bun (nest tmR tms tb)), (rd f_A fs.length 1 (List.zipWith mapC fs fb)), (bun (nest fmR fs fb)), (rd b_A bs.length 1 (List.zipWith mapC bs bb)), (bun (nest fmR bs bb)), (blk gw 117 (WatchV.cells (WatchV.mk ln ri (Slc.mk e_A e.length e_C) (Slc.mk t_A tms.length t_C) (Slc.mk f_A fs.length f_C) (Slc.mk b_A bs.length b_C))))] (fun (x : (Option Addr) × Nat) => (Value.slice x.1 ((numsF (watchOf ln ri e tms)).length) x.2)) (fun (x : (Option Addr) × Nat) => True) (fun (x : (Option Addr) × Nat) => [(own x.1 x.2 3 1 ((numsF (watchOf ln ri e tms)).map iC))]) := by
 have hw6 : e.length ≤ 6 := hw.n
 have hfl : fs.length = e.length + 1 := hfw.len
 refine fnX_of go34 Tryz.func34 rfl rfl fun w0 Q hQ hN => ?_
 try dsimp only
 refine WS fun _ hK1 => rS (AG rfl) <| RK hK1 <| WS fun _ hK2 => rS (AG rfl) <| RK hK2 <| w_seq fun _ hK3 => WS fun _ hK4 => rS (MV rfl) <| rS (SX (sd_nil_p rfl rfl) rfl rfl) ?_
 refine rS (FA 0 rfl fo117_0 rfl) <| rS (FA 3 rfl fo28_3 rfl) <| rS (L1R (Value.slice ln.Beams.a ln.Beams.n ln.Beams.c) 7 rfl tk26 rfl rfl) <| rS (LN rfl ut26) <| rS (BI rfl (b_add ⟨by omega, by omega⟩)) <| rS (MV rfl) <| RK hK4 <| w_block <| w_own_nil 3 1 ?_
 have hinit : (0 ≤ e.length + 1) := by exact Nat.zero_le _
 refine w_loop (ι := { z : Nat × (Option Addr) × Nat // (z.1 ≤ e.length + 1) }) (fun z => [(0, (Value.pointer (some ⟨gw, 0, none⟩))), (3, (Value.slice z.1.2.1 ((numsTo (watchOf ln ri e tms) z.1.1).length) z.1.2.2)), (12, (Value.int .i64 (((ln.Beams.n : Nat) : Int) + 1))), (13, (Value.int .i64 ((z.1.1 : Nat) : Int)))]) (fun z => [(own z.1.2.1 z.1.2.2 3 1 ((numsTo (watchOf ln ri e tms) z.1.1).map iC)), (rd e_A e.length 1 (e.map iC)).ro, (rd t_A tms.length 1 (List.zipWith mapC tms tb)).ro, (bun (nest tmR tms tb)).ro, (rd f_A fs.length 1 (List.zipWith mapC fs fb)).ro, (bun (nest fmR fs fb)).ro, (rd b_A bs.length 1 (List.zipWith mapC bs bb)).ro, (bun (nest fmR bs bb)).ro, (blk gw 117 (WatchV.cells (WatchV.mk ln ri (Slc.mk e_A e.length e_C) (Slc.mk t_A tms.length t_C) (Slc.mk f_A fs.length f_C) (Slc.mk b_A bs.length b_C)))).ro]) (fun z => e.length + 1 - z.1.1) ⟨(0, none, 0), hinit⟩ (Sub.cons rfl <| Sub.cons rfl <| Sub.cons rfl <| Sub.cons rfl <| Sub.nil _) (fun w hs => St.sel [0, 1, 2, 3, 4, 5, 6, 7, 8] rfl rfl hs) ?_
 clear hinit
 rintro ⟨⟨n, a, c⟩, hl3_0⟩ J5 hJ5
 try dsimp only at hl3_0
 try dsimp only
 refine WS fun _ hK6 => rS (BI rfl b_lss) <| RK hK6 <| w_seq fun _ hK7 => ?_
 refine w_if rfl (fun h8 => ?_) (fun h8 => ?_)
 rotate_left 1
 · replace h8 := DF h8
   refine w_exit <| k_exit_then <| k_exit_then <| k_exit_same <| KK hK3 <| WS fun _ hK26 => ?_
   rw [show numsTo (watchOf ln ri e tms) n = numsF (watchOf ln ri e tms) by (obtain rfl : n = e.length + 1 := by omega); rfl]
   refine rS (MV rfl) <| rS (AG rfl) <| RK hK26 <| w_ret ?_
   refine hQ _ _ _ (l_nil (vs := [(Value.slice a ((numsF (watchOf ln ri e tms)).length) c)]) ⟨rfl, trivial⟩ fun w hs => endX (a, c) [0] ?_ ?_ rfl rfl rfl hs)
   · rfl
   · trivial
 replace h8 := DT h8
 refine WK hK7 <| w_seq fun _ hK9 => w_block <| WS fun _ hK10 => rS (MV rfl) <| rS (AG rfl) <| RK hK10 <| WS fun _ hK11 => rS (MV rfl) <| rS (SX (sd_nil_p rfl rfl) rfl rfl) ?_
 refine rS (FA 12 rfl fo117_4 rfl) <| rS (L1R (Value.slice f_A fs.length f_C) 8 rfl tk115 rfl rfl) <| rS (MV rfl) ?_
 obtain ⟨m, hm0⟩ : ∃ y_, fs[n]? = some y_ := ⟨fs[n]'(by omega), List.getElem?_eq_getElem _⟩
 obtain ⟨ma, hm0a⟩ : ∃ y_, fb[n]? = some y_ := ⟨fb[n]'(by omega), List.getElem?_eq_getElem _⟩
 have hm0m : (List.zipWith mapC fs fb)[n]? = some (mapC m ma) := zip_get hm0 hm0a
 refine rS (IA n rfl (has_at 4 rfl) te115 (by decide) (by omega) (by omega)) <| rS (LE1 n 0 (Value.map (some ma)) rfl tk122 (has_at 4 rfl) hm0m rfl (by decide) rfl) <| gr_mrangeR (kV := tallyU) (m := gmapV iV m) 5 rfl rfl ut122 rfl ⟨⟨(gmp tallyU ma (gmapV iV m)), (mem_nest hm0 hm0a (by simp [fmR])), rfl⟩, fun h => h⟩ (show Has _ (gmp tallyU ma (gmapV iV m)).holds from has_inr 5 rfl (mem_nest hm0 hm0a (by simp [fmR]))) rfl fun r12 => ?_
 try dsimp only
 refine RK hK11 <| w_block ?_
 have hinit : (∀ p ∈ m, p ∈ m) ∧ (∀ p ∈ m, p ∈ m ∨ mayT (watchOf ln ri e tms) p.1 = false) := by exact ⟨fun p hp => hp, fun p hp => .inl hp⟩
 refine w_loop (ι := { z : FM // (∀ p ∈ z, p ∈ m) ∧ (∀ p ∈ m, p ∈ z ∨ mayT (watchOf ln ri e tms) p.1 = false) }) (fun z => [(0, (Value.pointer (some ⟨gw, 0, none⟩))), (3, (Value.slice a ((numsTo (watchOf ln ri e tms) n).length) c)), (4, (Value.int .i64 ((n : Nat) : Int))), (12, (Value.int .i64 (((ln.Beams.n : Nat) : Int) + 1))), (13, (Value.int .i64 ((n : Nat) : Int))), (23, (Value.pointer (some ⟨r12, 0, none⟩)))]) (fun z => [(gmr tallyU r12 ma (gmapV iV m) (gmapV iV z.1) none), (own a c 3 1 ((numsTo (watchOf ln ri e tms) n).map iC)), (rd e_A e.length 1 (e.map iC)).ro, (rd t_A tms.length 1 (List.zipWith mapC tms tb)).ro, (bun (nest tmR tms tb)).ro, (rd f_A fs.length 1 (List.zipWith mapC fs fb)).ro, (bun (nest fmR fs fb)).ro, (rd b_A bs.length 1 (List.zipWith mapC bs bb)).ro, (bun (nest fmR bs bb)).ro, (blk gw 117 (WatchV.cells (WatchV.mk ln ri (Slc.mk e_A e.length e_C) (Slc.mk t_A tms.length t_C) (Slc.mk f_A fs.length f_C) (Slc.mk b_A bs.length b_C)))).ro]) (fun z => z.1.length) ⟨m, hinit⟩ (Sub.cons rfl <| Sub.cons rfl <| Sub.cons rfl <| Sub.cons rfl <| Sub.cons rfl <| Sub.cons rfl <| Sub.nil _) (fun w hs => St.sel [0, 1, 2, 3, 4, 5, 6, 7, 8, 9] rfl rfl hs) ?_
 clear hinit
 rintro ⟨left, ⟨hl6_0, hl6_1⟩⟩ J13 hJ13
 try dsimp only
 refine WS fun _ hK14 => ?_
 refine gr_mnextR_v gk124.inj (f := iV) 0 rfl rfl rfl rfl (fun h24 => ?_) (fun t v hm hnd => ?_)
 · refine rS (EX rfl) ?_
   refine RK hK14 <| w_seq fun _ hK15 => w_if_false rfl <| w_exit <| k_exit_then <| k_exit_then <| k_exit_same <| k_block <| KK hK9 <| w_region ?_
   refine rS (BI rfl (b_add ⟨by omega, by omega⟩)) <| rS (MV rfl) <| r_nil ?_
   rw [← numsTo_no (w := (watchOf ln ri e tms)) (k := n) ((may_maps (hfw.min _ _ hm0) (hfw.keys _ _ hm0)).symm.trans (may_none hl6_1 h24))]
   have hb16 : (Value.int .i64 (((n + 1) : Nat) : Int)) = (Value.int .i64 (((n : Nat) : Int) + 1)) := by exact congrArg (Value.int .i64) (by omega)
   refine k_then (hJ5 ⟨((n + 1), a, c), (by first | omega | (simp only []; omega))⟩ _ _ _ rfl (by first | omega | (simp; omega)) (Sub.cons rfl <| Sub.cons rfl <| Sub.cons rfl <| sub_val rfl hb16 <| Sub.nil _) (fun w hs => St.sel [1, 2, 3, 4, 5, 6, 7, 8, 9] rfl rfl hs))
 try dsimp only
 refine rS (EX rfl) <| RK hK14 <| w_seq fun _ hK17 => w_if_true rfl <| WK hK17 <| w_block <| WS fun _ hK18 => rS (SX (gsd_mentryR 0 rfl rfl rfl) rfl rfl) <| rS (EX rfl) <| AL rfl tz124 fun b19 => ?_
 refine SW0 rfl ts124 rfl <| RK hK18 <| WS fun _ hK20 => rS (MV rfl) <| rS (LW 0 rfl tk124 rfl rfl) ?_
 have htb := fwd_b hw _ _ (hfw.mem hm0 (hl6_0 _ hm))
 dsimp only at htb
 refine rS (CL (may_c ln ri e tms e_A e_C tb t_A t_C fs bs fb f_A f_C bb b_A b_C gw t (by first | assumption | omega | (simp; done) | (simp; omega)) hsg) (ha_at 3 rfl rfl <| ha_at 4 rfl rfl <| ha_at 5 rfl rfl <| ha_at 6 rfl rfl <| ha_at 7 rfl rfl <| ha_at 8 rfl rfl <| ha_at 9 rfl rfl <| ha_at 10 rfl rfl <| ha_nil) rfl) <| RK hK20 ?_
 refine w_if rfl (fun h30 => ?_) (fun h30 => ?_)
 rotate_left 1
 · refine w_skip ?_
   refine k_block <| k_imp (C' := [(blk b19 124 (TallyV.cells t)), (gmr tallyU r12 ma (gmapV iV m) (gmapV iV (gdelK left t)) none), (own a c 3 1 ((numsTo (watchOf ln ri e tms) n).map iC)), (rd e_A e.length 1 (e.map iC)).ro, (rd t_A tms.length 1 (List.zipWith mapC tms tb)).ro, (bun (nest tmR tms tb)).ro, (rd f_A fs.length 1 (List.zipWith mapC fs fb)).ro, (bun (nest fmR fs fb)).ro, (rd b_A bs.length 1 (List.zipWith mapC bs bb)).ro, (bun (nest fmR bs bb)).ro, (blk gw 117 (WatchV.cells (WatchV.mk ln ri (Slc.mk e_A e.length e_C) (Slc.mk t_A tms.length t_C) (Slc.mk f_A fs.length f_C) (Slc.mk b_A bs.length b_C)))).ro]) 1 rfl gmr_none rfl ?_
   refine k_then (hJ13 ⟨(gdelK left t), ⟨left_sub hl6_0, may_step hnd hm hl6_1 (by first | exact h30 | simpa using h30)⟩⟩ _ _ _ rfl (gdelK_lt hm) (Sub.cons rfl <| Sub.cons rfl <| Sub.cons rfl <| Sub.cons rfl <| Sub.cons rfl <| Sub.cons rfl <| Sub.nil _) (fun w hs => St.sel [1, 2, 3, 4, 5, 6, 7, 8, 9, 10] rfl rfl hs))
 refine WS fun _ hK21 => rS (MV rfl) <| rS (MV rfl) <| r_bs (xs := [.tmp 32]) (cs := [(Value.int .i64 ((n : Nat) : Int))]) rfl te35 tz3 rfl rfl rfl rfl (by simp [Value.cells]) rfl rfl fun b22 => ?_
 have hy : mayAny (watchOf ln ri e tms) (fwd (watchOf ln ri e tms) n) = true := (may_maps (hfw.min _ _ hm0) (hfw.keys _ _ hm0)).symm.trans (may_yes (hl6_0 _ hm) h30)
 refine r_append (es2 := (List.map iC (numsTo (watchOf ln ri e tms) (n + 1)))) (m' := (numsTo (watchOf ln ri e tms) (n + 1)).length) 3 rfl rfl rfl ta35 rfl rfl (by simp) (has_rd_blk (es := List.map iC [((n : Nat) : Int)]) 0 rfl rfl (by simp [iC_length]) rfl) (one_iC _) (by have := numsTo_len (w := (watchOf ln ri e tms)) (k := n); first | omega | (simp; omega)) (by have := numsTo_len (w := (watchOf ln ri e tms)) (k := n); simp only [maxLen]; omega) (by rw [numsTo_yes hy]; simp) (by simp) rfl fun a23 c24 => ?_
 try dsimp only
 refine rS (AG rfl) <| RK hK21 <| w_exit <| k_exit_other rfl <| k_exit_then <| k_exit_same <| k_block <| KK hK9 <| w_region <| rS (BI rfl (b_add ⟨by omega, by omega⟩)) ?_
 refine rS (MV rfl) <| r_nil ?_
 have hb25 : (Value.int .i64 (((n + 1) : Nat) : Int)) = (Value.int .i64 (((n : Nat) : Int) + 1)) := by exact congrArg (Value.int .i64) (by omega)
 refine k_then (hJ5 ⟨((n + 1), a23, c24), (by first | omega | (simp only []; omega))⟩ _ _ _ rfl (by first | omega | (simp; omega)) (Sub.cons rfl <| Sub.cons rfl <| Sub.cons rfl <| sub_val rfl hb25 <| Sub.nil _) (fun w hs => St.sel [3, 4, 5, 6, 7, 8, 9, 10, 11] rfl rfl hs))
end
section
open Go.RowKit
set_option linter.unusedVariables false
set_option maxRecDepth 100000 in
set_option maxHeartbeats 400000 in
theorem in1_beam (n : Int) (lo : Int) (hi : Int) (g1 : Nat) (g2 : Nat) :
    FnV Tryz.prog 66 [(Value.int .i64 n), (Value.pointer (some ⟨g1, 0, none⟩)), (Value.pointer (some ⟨g2, 0, none⟩))] [(blk g1 3 [(Value.int .i64 lo)]), (blk g2 3 [(Value.int .i64 hi)])] (Value.bool (decide (n < lo ∨ hi < n))) := by
 refine fnV_of go66 Tryz.func66 rfl rfl fun w0 Q hQ hN => ?_
 try dsimp only
 refine WS fun _ hK1 => rS (AG rfl) <| RK hK1 <| WS fun _ hK2 => rS (MV rfl) <| rS (L1Q 0 rfl tk3 rfl) <| rS (BI rfl b_lss) <| rS (MV rfl) ?_
 refine r_bool (t := 8) rfl (fun h3 => ?_) (fun h3 => ?_)
 · replace h3 := DT h3
   refine rS (OX rfl) <| rS (OX rfl) <| rS (OX rfl) <| rS (PK rfl) <| rS (AG rfl) <| RK hK2 <| w_ret <| Q1 hQ rfl rfl rfl ?_
   exact congrArg Value.bool (decide_eq_true (by omega)).symm
 replace h3 := DF h3
 refine rS (MV rfl) <| rS (L1Q 1 rfl tk3 rfl) <| rS (BI rfl b_gtr) <| rS (PK rfl) <| rS (AG rfl) <| RK hK2 <| w_ret <| Q1 hQ rfl rfl rfl ?_
 exact congrArg Value.bool (decide_eq_decide.2 (by omega))
set_option maxRecDepth 100000 in
set_option maxHeartbeats 400000 in
theorem in_beam (lo : Int) (hi : Int) (l : List Int) (lA : Option Addr) (lC : Nat) (hlen : l.length ≤ 1000000) :
    FnV Tryz.prog 39 [(Value.int .i64 lo), (Value.int .i64 hi), (Value.slice lA l.length lC)] [(rd lA l.length 1 (l.map iC))] (Value.bool (inAll lo hi l)) := by
 refine fnV_of go39 Tryz.func39 rfl rfl fun w0 Q hQ hN => ?_
 try dsimp only
 refine WS fun _ hK1 => BX1 rfl rfl fun b2 => BX1 rfl rfl fun b3 => rS (AG rfl) <| RK hK1 <| WS fun _ hK4 => rS (MV rfl) <| rS (FU rfl) <| rS (CL (contains_c l lA lC (Value.func (.func 66) [].toArray [(Value.pointer (some ⟨b2, 0, none⟩)), (Value.pointer (some ⟨b3, 0, none⟩))].toArray) (fun u5 => (decide (u5 < lo ∨ hi < u5))) (bun [(blk b2 3 [(Value.int .i64 lo)]), (blk b3 3 [(Value.int .i64 hi)])]) (by intro u5 _; exact clo_of (fi := []) (ca := [(Value.pointer (some ⟨b2, 0, none⟩)), (Value.pointer (some ⟨b3, 0, none⟩))]) (fnV_bun (in1_beam u5 lo hi b2 b3 ) (ha_at 0 rfl rfl <| ha_at 1 rfl rfl <| ha_nil))) hlen) (ha_at 2 rfl rfl <| ha_cons (has_bun (ha_at 1 rfl rfl <| ha_at 0 rfl rfl <| ha_nil)) <| ha_nil) rfl) <| rS (NT rfl) ?_
 refine rS (AG rfl) <| RK hK4 <| w_ret ?_
 exact Q1 hQ rfl rfl rfl rfl
set_option maxRecDepth 100000 in
set_option maxHeartbeats 400000 in
theorem up_c (n : Int) (d : Int) (hd : 2 ≤ d) :
    FnV Tryz.prog 58 [(Value.int .i64 n), (Value.int .i64 d)] [] (Value.int .i64 (upG n d)) := by
 refine fnV_of go58 Tryz.func58 rfl rfl fun w0 Q hQ hN => ?_
 try dsimp only
 refine WS fun _ hK1 => rS (AG rfl) <| RK hK1 <| WS fun _ hK2 => rS (MV rfl) <| rS (MV rfl) <| rS (BI rfl b_addW) <| rS (BI rfl b_subW) <| rS (MV rfl) <| rS (BI rfl (b_quot (by omega) (tdiv_b (w64_b _) hd))) ?_
 refine rS (AG rfl) <| RK hK2 <| w_ret ?_
 exact Q1 hQ rfl rfl rfl rfl
set_option maxRecDepth 100000 in
set_option maxHeartbeats 400000 in
theorem upd_c (n : Int) (d : Int) (hd : 1 ≤ d ∧ d ≤ 1000000) (hn : 0 ≤ n ∧ n ≤ 1000000000000000) :
    FnV Tryz.prog 58 [(Value.int .i64 n), (Value.int .i64 d)] [] (Value.int .i64 (upD n d)) := by
 refine fnV_of go58 Tryz.func58 rfl rfl fun w0 Q hQ hN => ?_
 try dsimp only
 refine WS fun _ hK1 => rS (AG rfl) <| RK hK1 <| WS fun _ hK2 => rS (MV rfl) <| rS (MV rfl) <| rS (BI rfl (b_add ⟨by omega, by omega⟩)) <| rS (BI rfl (b_sub ⟨by omega, by omega⟩)) <| rS (MV rfl) <| rS (BI rfl (b_quo (by omega) (by omega) (by omega))) ?_
 refine rS (AG rfl) <| RK hK2 <| w_ret ?_
 exact Q1 hQ rfl rfl rfl rfl
set_option maxRecDepth 100000 in
set_option maxHeartbeats 400000 in
theorem ahead_c (c : ClockM) (sA : Option Addr) (sC : Nat) (at_ : Int) (hc : ClockOk c) (ha : 0 ≤ at_ ∧ at_ ≤ 90000000) :
    FnV Tryz.prog 75 [(Value.agg (ClockV.cells (ClockV.mk c.Drift (Slc.mk sA c.Syncs.length sC))).toArray), (Value.int .i64 at_)] [(rd sA c.Syncs.length 3 (c.Syncs.map SyncV.cells))] (Value.agg (SpanV.cells (aheadF c at_)).toArray) := by
 have hcl := hc.len
 have hcd := hc.drift
 refine fnV_of go75 Tryz.func75 rfl rfl fun w0 Q hQ hN => ?_
 try dsimp only
 refine WS fun _ hK1 => BXA rfl fun b2 => AL rfl tz47 fun b3 => RK hK1 <| WS fun _ hK4 => rS (SX (sd_build (xs := [(0, .const (Value.int .i64 (-1099511627776))), (1, .const (Value.int .i64 1099511627776))]) (cs := (SpanV.cells (SpanV.mk (-1099511627776) 1099511627776))) rfl rfl (built_of tb47 rfl)) rfl rfl) <| AL rfl tz47 fun b5 => SW0 rfl ts47 rfl <| RK hK4 <| w_seq fun _ hK6 => ?_
 refine w_seq fun _ hK7 => ?_
 have hb8 : (SpanV.cells (SpanV.mk (-1099511627776) 1099511627776)) = (SpanV.cells (aheadK c at_ 0)) := by rfl
 rw [hb8]
 refine w_region <| rS (FA 1 rfl fo63_1 rfl) <| rS (L1 (Value.slice sA c.Syncs.length sC) 2 rfl tk61 rfl rfl) <| rS (LN rfl ut61) <| rS (MV rfl) <| RK hK7 <| w_block ?_
 have hinit : (0 ≤ c.Syncs.length) := by exact Nat.zero_le _
 refine w_loop (ι := { z : Nat // (z ≤ c.Syncs.length) }) (fun z => [(1, (Value.int .i64 at_)), (2, (Value.pointer (some ⟨b2, 0, none⟩))), (4, (Value.pointer (some ⟨b3, 0, none⟩))), (5, (Value.pointer (some ⟨b5, 0, none⟩))), (11, (Value.slice sA c.Syncs.length sC)), (12, (Value.int .i64 ((c.Syncs.length : Nat) : Int))), (13, (Value.int .i64 ((z.1 : Nat) : Int)))]) (fun z => [(blk b5 47 (SpanV.cells (aheadK c at_ z.1))), (blk b3 47 (SpanV.cells (SpanV.mk 0 0))), (blk b2 63 (ClockV.cells (ClockV.mk c.Drift (Slc.mk sA c.Syncs.length sC)))), (rd sA c.Syncs.length 3 (c.Syncs.map SyncV.cells)).ro]) (fun z => c.Syncs.length - z.1) ⟨0, hinit⟩ (Sub.cons rfl <| Sub.cons rfl <| Sub.cons rfl <| Sub.cons rfl <| Sub.cons rfl <| Sub.cons rfl <| Sub.cons rfl <| Sub.nil _) (fun w hs => St.sel [0, 1, 2, 3] rfl rfl hs) ?_
 clear hinit
 rintro ⟨i, hl0_0⟩ J9 hJ9
 try dsimp only
 refine WS fun _ hK10 => rS (BI rfl b_lss) <| RK hK10 <| w_seq fun _ hK11 => ?_
 refine w_if rfl (fun h12 => ?_) (fun h12 => ?_)
 rotate_left 1
 · replace h12 := DF h12
   refine w_exit <| k_exit_then <| k_exit_then <| k_exit_same <| KK hK6 <| WS fun _ hK19 => rS (LW 0 rfl tk47 rfl rfl) <| SW1 rfl ts47 rfl <| RK hK19 <| w_ret ?_
   refine hQ _ _ _ (l_nil (vs := [(Value.agg (SpanV.cells (aheadK c at_ i)).toArray)]) ⟨⟨_, rfl, .inl ⟨_, _, tk47, at_blk (vs := (SpanV.cells (aheadK c at_ i))) 1 rfl rfl, rfl, rfl⟩⟩, trivial⟩ fun w hs => endV ?_ hs)
   show (Value.agg (SpanV.cells (aheadK c at_ i)).toArray) = (Value.agg (SpanV.cells (aheadF c at_)).toArray)
   clear hs w hQ hN hK19 hK11 hK10 hK7 hK6 hK4 hK1
   rw [aheadK_all (show c.Syncs.length ≤ i by omega)]
 replace h12 := DT h12
 refine WK hK11 <| w_seq fun _ hK13 => w_block <| WS fun _ hK14 => ?_
 obtain ⟨x, hx⟩ : ∃ y_, c.Syncs[i]? = some y_ := ⟨c.Syncs[i]'(by omega), List.getElem?_eq_getElem _⟩
 have hxm : (c.Syncs.map SyncV.cells)[i]? = some (SyncV.cells x) := by rw [List.getElem?_map, hx]; rfl
 refine rS (IA i rfl (has_at 3 rfl) te61 (by decide) (by omega) (by omega)) <| rS (LEN i 0 (SyncV.cells x) rfl tk65 (has_at 3 rfl) hxm rfl (by decide) rfl rfl) <| AL rfl tz65 fun b15 => SW0 rfl ts65 rfl <| RK hK14 <| WS fun _ hK16 => rS (FA 0 rfl fo63_0 rfl) <| rS (L1 (Value.int .i64 c.Drift) 3 rfl tk3 rfl rfl) <| rS (MV rfl) <| rS (FA 0 rfl fo65_0 rfl) ?_
 refine rS (L1 (Value.int .i64 x.At) 0 rfl tk3 rfl rfl) ?_
 have hsb := hc.sync_b hx
 have hkb := aheadK_b hc ha i
 have hdb := drift_b hcd ha (show 0 ≤ x.At ∧ x.At ≤ 90000000 by omega)
 refine rS (BI rfl (b_sub ⟨by omega, by omega⟩)) <| rS (FA 0 rfl fo65_0 rfl) <| rS (L1 (Value.int .i64 x.At) 0 rfl tk3 rfl rfl) <| rS (MV rfl) <| rS (BI rfl (b_sub ⟨by omega, by omega⟩)) <| rS (MX rfl) <| rS (BI rfl (b_mul ⟨by omega, by omega⟩)) <| rS (CL (upd_c (c.Drift * (max (at_ - x.At) (x.At - at_))) 1000000 (by first | assumption | omega | (simp; done) | (simp; omega)) (by first | assumption | omega | (simp; done) | (simp; omega))) (ha_nil) rfl) <| rS (AG rfl) <| RK hK16 ?_
 refine w_region <| rS (FA 0 rfl fo47_0 rfl) <| rS (L1 (Value.int .i64 ((aheadK c at_ i).Lo)) 1 rfl tk3 rfl rfl) <| rS (FA 1 rfl fo65_1 rfl) <| rS (FA 1 rfl fo47_0 rfl) <| rS (L1 (Value.int .i64 x.Ahead.Lo) 0 rfl tk3 rfl rfl) <| rS (MV rfl) ?_
 have hob : 0 ≤ upD (c.Drift * max (at_ - x.At) (x.At - at_)) 1000000 ∧ upD (c.Drift * max (at_ - x.At) (x.At - at_)) 1000000 ≤ 90001 := offF_b hcd ha hsb.1
 refine rS (BI rfl (b_sub ⟨by omega, by omega⟩)) <| rS (MX rfl) <| rS (FA 1 rfl fo47_1 rfl) <| rS (L1 (Value.int .i64 ((aheadK c at_ i).Hi)) 1 rfl tk3 rfl rfl) <| rS (FA 1 rfl fo65_1 rfl) <| rS (FA 2 rfl fo47_1 rfl) <| rS (L1 (Value.int .i64 x.Ahead.Hi) 0 rfl tk3 rfl rfl) <| rS (MV rfl) <| rS (BI rfl (b_add ⟨by omega, by omega⟩)) <| rS (MN rfl) ?_
 refine rS (SX (sd_build (xs := [(0, .tmp 37), (1, .tmp 45)]) (cs := (SpanV.cells (SpanV.mk (max ((aheadK c at_ i).Lo) (x.Ahead.Lo - (upD (c.Drift * (max (at_ - x.At) (x.At - at_))) 1000000))) (min ((aheadK c at_ i).Hi) (x.Ahead.Hi + (upD (c.Drift * (max (at_ - x.At) (x.At - at_))) 1000000)))))) rfl rfl (built_of tb47 rfl)) rfl rfl) <| SW1 rfl ts47 rfl <| r_nil <| k_block <| KK hK13 ?_
 have hb17 : (SpanV.cells (SpanV.mk (max ((aheadK c at_ i).Lo) (x.Ahead.Lo - (upD (c.Drift * (max (at_ - x.At) (x.At - at_))) 1000000))) (min ((aheadK c at_ i).Hi) (x.Ahead.Hi + (upD (c.Drift * (max (at_ - x.At) (x.At - at_))) 1000000))))) = (SpanV.cells (aheadK c at_ (i + 1))) := by rw [aheadK_succ hx]; rfl
 rw [hb17]
 refine w_region <| rS (BI rfl (b_add ⟨by omega, by omega⟩)) <| rS (MV rfl) <| r_nil ?_
 have hb18 : (Value.int .i64 (((i + 1) : Nat) : Int)) = (Value.int .i64 (((i : Nat) : Int) + 1)) := by exact congrArg (Value.int .i64) (by omega)
 refine k_then (hJ9 ⟨(i + 1), (by first | omega | (simp only []; omega))⟩ _ _ _ rfl (by first | omega | (simp; omega)) (Sub.cons rfl <| Sub.cons rfl <| Sub.cons rfl <| Sub.cons rfl <| Sub.cons rfl <| Sub.cons rfl <| sub_val rfl hb18 <| Sub.nil _) (fun w hs => St.sel [1, 2, 3, 4] rfl rfl hs))
set_option maxRecDepth 100000 in
set_option maxHeartbeats 400000 in
theorem goes_c (c : ClockM) (sA : Option Addr) (sC : Nat) (hlen : c.Syncs.length ≤ 1000000) (hcap : c.Syncs.length ≤ sC) :
    FnV Tryz.prog 110 [(Value.agg (ClockV.cells (ClockV.mk c.Drift (Slc.mk sA c.Syncs.length sC))).toArray)] [(rd sA c.Syncs.length 3 (c.Syncs.map SyncV.cells))] (Value.bool (decide (ClockOk c))) := by
 refine fnV_of go110 Tryz.func110 rfl rfl fun w0 Q hQ hN => ?_
 try dsimp only
 refine WS fun _ hK1 => BXA rfl fun b2 => rS (AG rfl) <| RK hK1 <| w_scope rfl <| w_seq fun _ hK3 => WS fun _ hK4 => rS (FA 0 rfl fo63_0 rfl) <| rS (L1 (Value.int .i64 c.Drift) 0 rfl tk3 rfl rfl) <| r_bs (xs := [.tmp 11]) (cs := [(Value.int .i64 c.Drift)]) rfl te35 tz3 rfl rfl rfl rfl (by simp [Value.cells]) rfl rfl fun b5 => ?_
 refine rS (CL (FnV.eq (in_beam 0 1000 ([c.Drift]) (some ⟨b5, 0, none⟩) 1 (by first | assumption | omega | (simp; done) | (simp; omega))) inAll_one) (ha_cons (has_rd_blk 0 rfl rfl (by simp [iC_length]) rfl) <| ha_nil) rfl) <| rS (NT rfl) <| rS (MV rfl) ?_
 refine r_bool (t := 15) rfl (fun h15 => ?_) (fun h15 => ?_)
 · replace h15 := XT h15
   refine rS (OX rfl) <| rS (OX rfl) <| rS (OX rfl) <| rS (OX rfl) <| rS (OX rfl) <| rS (OX rfl) <| rS (PK rfl) <| RK hK4 <| w_if_true rfl <| WS fun _ hK6 => ?_
   refine rS (AG rfl) <| RK hK6 <| w_ret <| Q1 hQ rfl rfl rfl ?_
   first | exact congrArg Value.bool (decide_eq_false fun h => h15 h.drift).symm | exact congrArg Value.bool (decide_eq_false fun h => h22 (by have := h.len; omega)).symm | exact congrArg Value.bool (decide_eq_true (clock_yes h15 (by omega) (by have e : i = c.Syncs.length := (by omega); rw [← e]; exact hl0_1))).symm | exact congrArg Value.bool (by have e : k = i := (by omega); rw [e] at hl1_1; rw [h99] at hl1_1 ⊢; exact (decide_eq_false (clock_no hx (of_decide_eq_false hl1_1.symm))).symm)
 replace h15 := XF h15
 refine rS (FA 1 rfl fo63_1 rfl) <| rS (L1 (Value.slice sA c.Syncs.length sC) 1 rfl tk61 rfl rfl) <| rS (LN rfl ut61) <| r_bs (xs := [.tmp 18]) (cs := [(Value.int .i64 ((c.Syncs.length : Nat) : Int))]) rfl te35 tz3 rfl rfl rfl rfl (by simp [Value.cells]) rfl rfl fun b7 => rS (CL (FnV.eq (in_beam 1 5 ([((c.Syncs.length : Nat) : Int)]) (some ⟨b7, 0, none⟩) 1 (by first | assumption | omega | (simp; done) | (simp; omega))) inAll_one) (ha_cons (has_rd_blk 0 rfl rfl (by simp [iC_length]) rfl) <| ha_nil) rfl) <| rS (NT rfl) <| rS (PK rfl) <| RK hK4 ?_
 refine w_if rfl (fun h22 => ?_) (fun h22 => ?_)
 · replace h22 := XT h22
   refine WS fun _ hK8 => rS (AG rfl) <| RK hK8 <| w_ret <| Q1 hQ rfl rfl rfl ?_
   first | exact congrArg Value.bool (decide_eq_false fun h => h15 h.drift).symm | exact congrArg Value.bool (decide_eq_false fun h => h22 (by have := h.len; omega)).symm | exact congrArg Value.bool (decide_eq_true (clock_yes h15 (by omega) (by have e : i = c.Syncs.length := (by omega); rw [← e]; exact hl0_1))).symm | exact congrArg Value.bool (by have e : k = i := (by omega); rw [e] at hl1_1; rw [h99] at hl1_1 ⊢; exact (decide_eq_false (clock_no hx (of_decide_eq_false hl1_1.symm))).symm)
 replace h22 := XF h22
 refine WK hK3 <| WS fun _ hK9 => rS (AG rfl) <| RK hK9 <| WS fun _ hK10 => rS (AG rfl) <| RK hK10 <| w_seq fun _ hK11 => w_label <| KK hK11 ?_
 refine w_seq fun _ hK12 => WS fun _ hK13 => rS (FA 1 rfl fo63_1 rfl) <| rS (L1 (Value.slice sA c.Syncs.length sC) 2 rfl tk61 rfl rfl) <| rS (LN rfl ut61) <| rS (MV rfl) <| RK hK13 <| w_block ?_
 have hinit : (0 ≤ c.Syncs.length) ∧ (DoneOk c 0) := by exact ⟨Nat.zero_le _, done_zero⟩
 have hb14 : (Value.int .i64 (prevAt c 0)) = (Value.int .i64 (-1)) := by rw [prevAt_zero rfl]
 refine w_loop (ι := { z : Nat // (z ≤ c.Syncs.length) ∧ (DoneOk c z) }) (fun z => [(1, (Value.pointer (some ⟨b2, 0, none⟩))), (2, (Value.bool false)), (3, (Value.int .i64 (prevAt c z.1))), (4, (Value.bool true)), (24, (Value.slice sA c.Syncs.length sC)), (25, (Value.int .i64 ((c.Syncs.length : Nat) : Int))), (26, (Value.int .i64 ((z.1 : Nat) : Int)))]) (fun z => [(blk b2 63 (ClockV.cells (ClockV.mk c.Drift (Slc.mk sA c.Syncs.length sC)))), (rd sA c.Syncs.length 3 (c.Syncs.map SyncV.cells)).ro]) (fun z => c.Syncs.length - z.1) ⟨0, hinit⟩ (Sub.cons rfl <| Sub.cons rfl <| sub_val rfl hb14 <| Sub.cons rfl <| Sub.cons rfl <| Sub.cons rfl <| Sub.cons rfl <| Sub.nil _) (fun w hs => St.sel [2, 3] rfl rfl hs) ?_
 clear hinit
 rintro ⟨i, ⟨hl0_0, hl0_1⟩⟩ J15 hJ15
 try dsimp only
 have hpv : -1 ≤ prevAt c i ∧ prevAt c i ≤ 86400000 := prev_b hl0_0 hl0_1
 refine WS fun _ hK16 => rS (BI rfl b_lss) <| RK hK16 <| w_seq fun _ hK17 => ?_
 refine w_if rfl (fun h18 => ?_) (fun h18 => ?_)
 rotate_left 1
 · replace h18 := DF h18
   refine w_exit <| k_exit_then <| k_exit_then <| k_exit_same <| KK hK12 <| WS fun _ hK28 => rS (MV rfl) <| rS (AG rfl) <| RK hK28 <| w_ret ?_
   refine Q1 hQ rfl rfl rfl ?_
   first | exact congrArg Value.bool (decide_eq_false fun h => h15 h.drift).symm | exact congrArg Value.bool (decide_eq_false fun h => h22 (by have := h.len; omega)).symm | exact congrArg Value.bool (decide_eq_true (clock_yes h15 (by omega) (by have e : i = c.Syncs.length := (by omega); rw [← e]; exact hl0_1))).symm | exact congrArg Value.bool (by have e : k = i := (by omega); rw [e] at hl1_1; rw [h99] at hl1_1 ⊢; exact (decide_eq_false (clock_no hx (of_decide_eq_false hl1_1.symm))).symm)
 replace h18 := DT h18
 refine WK hK17 <| w_seq fun _ hK19 => w_block <| WS fun _ hK20 => rS (MV rfl) ?_
 obtain ⟨x, hx⟩ : ∃ y_, c.Syncs[i]? = some y_ := ⟨c.Syncs[i]'(by omega), List.getElem?_eq_getElem _⟩
 have hxm : (c.Syncs.map SyncV.cells)[i]? = some (SyncV.cells x) := by rw [List.getElem?_map, hx]; rfl
 refine rS (IA i rfl (has_at 1 rfl) te61 (by decide) (by omega) (by omega)) <| rS (LEN i 0 (SyncV.cells x) rfl tk65 (has_at 1 rfl) hxm rfl (by decide) rfl rfl) <| AL rfl tz65 fun b21 => rS (AG rfl) <| SW0 rfl ts65 rfl <| RK hK20 ?_
 refine w_join (ι := Unit) (fun z => [(1, (Value.pointer (some ⟨b2, 0, none⟩))), (2, (Value.bool false)), (3, (Value.int .i64 (prevAt c i))), (4, (Value.bool (decide (SyncOk c i x)))), (5, (Value.int .i64 ((i : Nat) : Int))), (6, (Value.pointer (some ⟨b21, 0, none⟩))), (24, (Value.slice sA c.Syncs.length sC)), (25, (Value.int .i64 ((c.Syncs.length : Nat) : Int))), (26, (Value.int .i64 ((i : Nat) : Int)))]) (fun z => [(blk b21 65 (SyncV.cells x)), (blk b2 63 (ClockV.cells (ClockV.mk c.Drift (Slc.mk sA c.Syncs.length sC)))), (rd sA c.Syncs.length 3 (c.Syncs.map SyncV.cells)).ro]) ?_ fun K22 hK22 => ?_
 · intro _
   try dsimp only
   refine w_seq fun _ hK23 => WS fun _ hK24 => rS (FA 1 rfl fo63_1 rfl) <| rS (L1 (Value.slice sA c.Syncs.length sC) 1 rfl tk61 rfl rfl) <| rS (MV rfl) <| rS (SHI i rfl te61 (by omega) (by first | omega | exact Nat.zero_le _ | (simp; omega))) <| rS (LN rfl ut61) <| rS (MV rfl) <| RK hK24 <| w_block ?_
   have hinit : (0 ≤ i) ∧ ((decide (SyncOk c i x)) = (decide (RoundOk c i x 0))) := by exact ⟨Nat.zero_le _, decide_eq_decide.2 round_zero.symm⟩
   refine w_loop (ι := { z : Nat × Bool // (z.1 ≤ i) ∧ (z.2 = (decide (RoundOk c i x z.1))) }) (fun z => [(1, (Value.pointer (some ⟨b2, 0, none⟩))), (2, (Value.bool false)), (3, (Value.int .i64 (prevAt c i))), (4, (Value.bool z.1.2)), (5, (Value.int .i64 ((i : Nat) : Int))), (6, (Value.pointer (some ⟨b21, 0, none⟩))), (24, (Value.slice sA c.Syncs.length sC)), (25, (Value.int .i64 ((c.Syncs.length : Nat) : Int))), (26, (Value.int .i64 ((i : Nat) : Int))), (59, (Value.slice sA i sC)), (60, (Value.int .i64 ((i : Nat) : Int))), (61, (Value.int .i64 ((z.1.1 : Nat) : Int)))]) (fun z => [(blk b21 65 (SyncV.cells x)), (blk b2 63 (ClockV.cells (ClockV.mk c.Drift (Slc.mk sA c.Syncs.length sC)))), (rd sA c.Syncs.length 3 (c.Syncs.map SyncV.cells)).ro]) (fun z => i - z.1.1) ⟨(0, (decide (SyncOk c i x))), hinit⟩ (Sub.cons rfl <| Sub.cons rfl <| Sub.cons rfl <| Sub.cons rfl <| Sub.cons rfl <| Sub.cons rfl <| Sub.cons rfl <| Sub.cons rfl <| Sub.cons rfl <| Sub.cons rfl <| Sub.cons rfl <| Sub.cons rfl <| Sub.nil _) (fun w hs => St.sel [0, 1, 2] rfl rfl hs) ?_
   clear hinit
   rintro ⟨⟨k, b⟩, ⟨hl1_0, hl1_1⟩⟩ J25 hJ25
   try dsimp only at hl1_0 hl1_1
   try dsimp only
   refine WS fun _ hK26 => rS (BI rfl b_lss) <| RK hK26 <| w_seq fun _ hK27 => ?_
   refine w_if rfl (fun h28 => ?_) (fun h28 => ?_)
   rotate_left 1
   · replace h28 := DF h28
     refine w_exit <| k_exit_then <| k_exit_then <| k_exit_same <| KK hK23 <| w_seq fun _ hK36 => WS fun _ hK37 => rS (MV rfl) <| rS (NT rfl) <| RK hK37 ?_
     refine w_if rfl (fun h99 => ?_) (fun h99 => ?_)
     · rw [Bool.not_eq_true'] at h99
       refine w_exit <| k_exit_then <| k_exit_other rfl <| k_exit_then <| k_exit_then <| k_exit_same <| KK hK12 <| WS fun _ hK38 => rS (MV rfl) <| rS (AG rfl) ?_
       refine RK hK38 <| w_ret <| Q1 hQ rfl rfl rfl ?_
       first | exact congrArg Value.bool (decide_eq_false fun h => h15 h.drift).symm | exact congrArg Value.bool (decide_eq_false fun h => h22 (by have := h.len; omega)).symm | exact congrArg Value.bool (decide_eq_true (clock_yes h15 (by omega) (by have e : i = c.Syncs.length := (by omega); rw [← e]; exact hl0_1))).symm | exact congrArg Value.bool (by have e : k = i := (by omega); rw [e] at hl1_1; rw [h99] at hl1_1 ⊢; exact (decide_eq_false (clock_no hx (of_decide_eq_false hl1_1.symm))).symm)
     rw [Bool.not_eq_false'] at h99
     refine WK hK36 <| w_region <| rS (FA 0 rfl fo65_0 rfl) <| rS (L1 (Value.int .i64 x.At) 0 rfl tk3 rfl rfl) <| rS (AG rfl) <| r_nil <| k_block <| KK hK19 <| w_region <| rS (BI rfl (b_add ⟨by omega, by omega⟩)) ?_
     refine rS (MV rfl) <| r_nil ?_
     have hb39 : (Value.int .i64 (prevAt c (i + 1))) = (Value.int .i64 x.At) := by rw [prevAt_succ hx]
     have hb40 : (Value.bool true) = (Value.bool b) := by exact congrArg Value.bool h99.symm
     have hb41 : (Value.int .i64 (((i + 1) : Nat) : Int)) = (Value.int .i64 (((i : Nat) : Int) + 1)) := by exact congrArg (Value.int .i64) (by omega)
     refine k_then (hJ15 ⟨(i + 1), ⟨by omega, done_succ hl0_1 hx (by have e : k = i := (by omega); rw [e] at hl1_1; exact of_decide_eq_true (hl1_1.symm.trans h99))⟩⟩ _ _ _ rfl (by first | omega | (simp; omega)) (Sub.cons rfl <| Sub.cons rfl <| sub_val rfl hb39 <| sub_val rfl hb40 <| Sub.cons rfl <| Sub.cons rfl <| sub_val rfl hb41 <| Sub.nil _) (fun w hs => St.sel [1, 2] rfl rfl hs))
   replace h28 := DT h28
   refine WK hK27 <| w_seq fun _ hK29 => w_block <| WS fun _ hK30 => ?_
   obtain ⟨o, ho⟩ : ∃ y_, c.Syncs[k]? = some y_ := ⟨c.Syncs[k]'(by omega), List.getElem?_eq_getElem _⟩
   have hom : (c.Syncs.map SyncV.cells)[k]? = some (SyncV.cells o) := by rw [List.getElem?_map, ho]; rfl
   refine rS (IAH k rfl (has_at 2 rfl) te61 (by decide) (by omega) (by omega) (by omega)) <| rS (LEN k 0 (SyncV.cells o) rfl tk65 (has_at 2 rfl) hom rfl (by decide) rfl rfl) <| AL rfl tz65 fun b31 => SW0 rfl ts65 rfl <| RK hK30 <| WS fun _ hK32 => rS (FA 0 rfl fo63_0 rfl) <| rS (L1 (Value.int .i64 c.Drift) 2 rfl tk3 rfl rfl) <| rS (FA 0 rfl fo65_0 rfl) <| rS (L1 (Value.int .i64 x.At) 1 rfl tk3 rfl rfl) ?_
   refine rS (FA 0 rfl fo65_0 rfl) <| rS (L1 (Value.int .i64 o.At) 0 rfl tk3 rfl rfl) <| rS (BI rfl b_subW) <| rS (BI rfl b_mulW) <| rS (CL (up_c (w64 (c.Drift * (w64 (x.At - o.At)))) 1000000 (by first | assumption | omega | (simp; done) | (simp; omega))) (ha_nil) rfl) <| rS (AG rfl) <| RK hK32 <| w_region <| rS (MV rfl) <| rS (MV rfl) ?_
   refine r_bool (t := 75) rfl (fun h75 => ?_) (fun h75 => ?_)
   rotate_left 1
   · refine rS (OX rfl) ?_
     refine rS (OX rfl) <| rS (OX rfl) <| rS (OX rfl) <| rS (OX rfl) <| rS (OX rfl) <| rS (OX rfl) <| rS (OX rfl) <| rS (OX rfl) <| rS (PK rfl) <| rS (MV rfl) ?_
     refine rS (OX rfl) <| rS (OX rfl) <| rS (OX rfl) <| rS (OX rfl) <| rS (OX rfl) <| rS (OX rfl) <| rS (OX rfl) <| rS (OX rfl) <| rS (OX rfl) <| rS (PK rfl) ?_
     refine rS (AG rfl) <| r_nil <| k_block <| KK hK29 <| w_region <| rS (BI rfl (b_add ⟨by omega, by omega⟩)) <| rS (MV rfl) <| r_nil ?_
     have hb35 : (Value.int .i64 (((k + 1) : Nat) : Int)) = (Value.int .i64 (((k : Nat) : Int) + 1)) := by exact congrArg (Value.int .i64) (by omega)
     refine k_then (hJ25 ⟨((k + 1), false), ⟨by omega, by first | exact (decide_eq_false fun h => by have h2 := ((round_succ ho).1 h).1; rw [hl1_1] at h75; exact absurd (decide_eq_true h2) (by rw [h75]; decide)).symm | exact (decide_eq_false fun h => by have h2 := ((round_succ ho).1 h).2; rw [hup] at h86; exact h86 h2.1).symm | exact decide_eq_decide.2 (by rw [round_succ ho, hup]; rw [hup] at h86; exact ⟨fun h => ⟨hro, h86, h⟩, fun h => h.2.2⟩)⟩⟩ _ _ _ rfl (by first | omega | (simp; omega)) (Sub.cons rfl <| Sub.cons rfl <| Sub.cons rfl <| Sub.cons rfl <| Sub.cons rfl <| Sub.cons rfl <| Sub.cons rfl <| Sub.cons rfl <| Sub.cons rfl <| Sub.cons rfl <| Sub.cons rfl <| sub_val rfl hb35 <| Sub.nil _) (fun w hs => St.sel [1, 2, 3] rfl rfl hs))
   refine rS (FA 1 rfl fo65_1 rfl) <| rS (FA 1 rfl fo47_0 rfl) <| rS (L1 (Value.int .i64 x.Ahead.Lo) 1 rfl tk3 rfl rfl) <| rS (FA 1 rfl fo65_1 rfl) <| rS (FA 2 rfl fo47_1 rfl) <| rS (L1 (Value.int .i64 o.Ahead.Hi) 0 rfl tk3 rfl rfl) ?_
   have hro : RoundOk c i x k := of_decide_eq_true (hl1_1.symm.trans h75)
   obtain ⟨hq1, hq2, hq3⟩ := sync_pair (fun j y hj hy => (hl0_1 j y hj hy).1) hx hro.1 (by omega) ho
   have hup := goes_up h15 hq1
   refine rS (BI rfl (b_sub ⟨by omega, by omega⟩)) <| rS (MV rfl) <| rS (BI rfl b_leq) <| rS (PK rfl) <| rS (MV rfl) ?_
   refine r_bool (t := 86) rfl (fun h86 => ?_) (fun h86 => ?_)
   rotate_left 1
   · replace h86 := DF h86
     refine rS (OX rfl) <| rS (OX rfl) <| rS (OX rfl) <| rS (OX rfl) <| rS (OX rfl) <| rS (OX rfl) <| rS (OX rfl) <| rS (OX rfl) <| rS (OX rfl) <| rS (PK rfl) ?_
     refine rS (AG rfl) <| r_nil <| k_block <| KK hK29 <| w_region <| rS (BI rfl (b_add ⟨by omega, by omega⟩)) <| rS (MV rfl) <| r_nil ?_
     have hb34 : (Value.int .i64 (((k + 1) : Nat) : Int)) = (Value.int .i64 (((k : Nat) : Int) + 1)) := by exact congrArg (Value.int .i64) (by omega)
     refine k_then (hJ25 ⟨((k + 1), false), ⟨by omega, by first | exact (decide_eq_false fun h => by have h2 := ((round_succ ho).1 h).1; rw [hl1_1] at h75; exact absurd (decide_eq_true h2) (by rw [h75]; decide)).symm | exact (decide_eq_false fun h => by have h2 := ((round_succ ho).1 h).2; rw [hup] at h86; exact h86 h2.1).symm | exact decide_eq_decide.2 (by rw [round_succ ho, hup]; rw [hup] at h86; exact ⟨fun h => ⟨hro, h86, h⟩, fun h => h.2.2⟩)⟩⟩ _ _ _ rfl (by first | omega | (simp; omega)) (Sub.cons rfl <| Sub.cons rfl <| Sub.cons rfl <| Sub.cons rfl <| Sub.cons rfl <| Sub.cons rfl <| Sub.cons rfl <| Sub.cons rfl <| Sub.cons rfl <| Sub.cons rfl <| Sub.cons rfl <| sub_val rfl hb34 <| Sub.nil _) (fun w hs => St.sel [1, 2, 3] rfl rfl hs))
   replace h86 := DT h86
   refine rS (FA 1 rfl fo65_1 rfl) <| rS (FA 1 rfl fo47_0 rfl) <| rS (L1 (Value.int .i64 o.Ahead.Lo) 0 rfl tk3 rfl rfl) <| rS (FA 1 rfl fo65_1 rfl) <| rS (FA 2 rfl fo47_1 rfl) <| rS (L1 (Value.int .i64 x.Ahead.Hi) 1 rfl tk3 rfl rfl) <| rS (BI rfl (b_sub ⟨by omega, by omega⟩)) <| rS (MV rfl) <| rS (BI rfl b_leq) <| rS (PK rfl) ?_
   refine rS (AG rfl) <| r_nil <| k_block <| KK hK29 <| w_region <| rS (BI rfl (b_add ⟨by omega, by omega⟩)) <| rS (MV rfl) <| r_nil ?_
   have hb33 : (Value.int .i64 (((k + 1) : Nat) : Int)) = (Value.int .i64 (((k : Nat) : Int) + 1)) := by exact congrArg (Value.int .i64) (by omega)
   refine k_then (hJ25 ⟨((k + 1), (decide ((o.Ahead.Lo - x.Ahead.Hi) ≤ (upG (w64 (c.Drift * (w64 (x.At - o.At)))) 1000000)))), ⟨by omega, by first | exact (decide_eq_false fun h => by have h2 := ((round_succ ho).1 h).1; rw [hl1_1] at h75; exact absurd (decide_eq_true h2) (by rw [h75]; decide)).symm | exact (decide_eq_false fun h => by have h2 := ((round_succ ho).1 h).2; rw [hup] at h86; exact h86 h2.1).symm | exact decide_eq_decide.2 (by rw [round_succ ho, hup]; rw [hup] at h86; exact ⟨fun h => ⟨hro, h86, h⟩, fun h => h.2.2⟩)⟩⟩ _ _ _ rfl (by first | omega | (simp; omega)) (Sub.cons rfl <| Sub.cons rfl <| Sub.cons rfl <| Sub.cons rfl <| Sub.cons rfl <| Sub.cons rfl <| Sub.cons rfl <| Sub.cons rfl <| Sub.cons rfl <| Sub.cons rfl <| Sub.cons rfl <| sub_val rfl hb33 <| Sub.nil _) (fun w hs => St.sel [1, 2, 3] rfl rfl hs))
 refine w_region <| rS (MV rfl) <| rS (BI rfl (b_add ⟨by omega, by omega⟩)) <| rS (FA 0 rfl fo65_0 rfl) <| rS (L1 (Value.int .i64 x.At) 0 rfl tk3 rfl rfl) <| r_bs (xs := [.tmp 34]) (cs := [(Value.int .i64 x.At)]) rfl te35 tz3 rfl rfl rfl rfl (by simp [Value.cells]) rfl rfl fun b23 => rS (CL (FnV.eq (in_beam ((prevAt c i) + 1) 86400000 ([x.At]) (some ⟨b23, 0, none⟩) 1 (by first | assumption | omega | (simp; done) | (simp; omega))) inAll_one) (ha_cons (has_rd_blk 0 rfl rfl (by simp [iC_length]) rfl) <| ha_nil) rfl) <| rS (MV rfl) ?_
 refine r_bool (t := 37) rfl (fun h37 => ?_) (fun h37 => ?_)
 rotate_left 1
 · replace h37 := DF h37
   refine rS (OX rfl) <| rS (OX rfl) <| rS (OX rfl) <| rS (OX rfl) <| rS (OX rfl) <| rS (OX rfl) <| rS (OX rfl) <| rS (OX rfl) <| rS (PK rfl) <| rS (MV rfl) ?_
   refine rS (OX rfl) <| rS (OX rfl) <| rS (OX rfl) <| rS (OX rfl) <| rS (OX rfl) <| rS (OX rfl) <| rS (OX rfl) <| rS (PK rfl) <| rS (AG rfl) <| r_nil ?_
   have hb27 : (decide (SyncOk c i x)) = false := decide_eq_false (by unfold SyncOk; omega)
   refine k_then (k_sub (Sub.cons rfl <| Sub.cons rfl <| Sub.cons rfl <| sub_bool rfl hb27 <| Sub.cons rfl <| Sub.cons rfl <| Sub.cons rfl <| Sub.cons rfl <| Sub.cons rfl <| Sub.nil _) (fun w hs => St.sel [1, 2, 3] rfl rfl hs) (hK22 ()))
 replace h37 := DT h37
 refine rS (FA 1 rfl fo65_1 rfl) <| rS (FA 1 rfl fo47_0 rfl) <| rS (L1 (Value.int .i64 x.Ahead.Lo) 1 rfl tk3 rfl rfl) <| rS (FA 1 rfl fo65_1 rfl) <| rS (FA 2 rfl fo47_1 rfl) <| rS (L1 (Value.int .i64 x.Ahead.Hi) 1 rfl tk3 rfl rfl) <| r_bs (xs := [.tmp 40, .tmp 43]) (cs := [(Value.int .i64 x.Ahead.Lo), (Value.int .i64 x.Ahead.Hi)]) rfl te35 tz3 rfl rfl rfl rfl (by simp [Value.cells]) rfl rfl fun b24 => rS (CL (FnV.eq (in_beam (-10000) 10000 ([x.Ahead.Lo, x.Ahead.Hi]) (some ⟨b24, 0, none⟩) 2 (by first | assumption | omega | (simp; done) | (simp; omega))) inAll_two) (ha_cons (has_rd_blk 0 rfl rfl (by simp [iC_length]) rfl) <| ha_nil) rfl) <| rS (PK rfl) <| rS (MV rfl) ?_
 refine r_bool (t := 47) rfl (fun h47 => ?_) (fun h47 => ?_)
 rotate_left 1
 · replace h47 := DF h47
   refine rS (OX rfl) <| rS (OX rfl) <| rS (OX rfl) <| rS (OX rfl) <| rS (OX rfl) <| rS (OX rfl) <| rS (OX rfl) <| rS (PK rfl) <| rS (AG rfl) <| r_nil ?_
   have hb26 : (decide (SyncOk c i x)) = false := decide_eq_false (by unfold SyncOk; omega)
   refine k_then (k_sub (Sub.cons rfl <| Sub.cons rfl <| Sub.cons rfl <| sub_bool rfl hb26 <| Sub.cons rfl <| Sub.cons rfl <| Sub.cons rfl <| Sub.cons rfl <| Sub.cons rfl <| Sub.nil _) (fun w hs => St.sel [2, 3, 4] rfl rfl hs) (hK22 ()))
 replace h47 := DT h47
 refine rS (FA 1 rfl fo65_1 rfl) <| rS (FA 1 rfl fo47_0 rfl) <| rS (L1 (Value.int .i64 x.Ahead.Lo) 2 rfl tk3 rfl rfl) <| rS (FA 1 rfl fo65_1 rfl) <| rS (FA 2 rfl fo47_1 rfl) <| rS (L1 (Value.int .i64 x.Ahead.Hi) 2 rfl tk3 rfl rfl) <| rS (BI rfl b_leq) <| rS (PK rfl) <| rS (AG rfl) <| r_nil ?_
 have hb25 : (decide (SyncOk c i x)) = (decide (x.Ahead.Lo ≤ x.Ahead.Hi)) := decide_eq_decide.2 (by unfold SyncOk; omega)
 refine k_then (k_sub (Sub.cons rfl <| Sub.cons rfl <| Sub.cons rfl <| sub_bool rfl hb25 <| Sub.cons rfl <| Sub.cons rfl <| Sub.cons rfl <| Sub.cons rfl <| Sub.cons rfl <| Sub.nil _) (fun w hs => St.sel [2, 3, 4] rfl rfl hs) (hK22 ()))
set_option maxRecDepth 100000 in
set_option maxHeartbeats 400000 in
theorem bad_c (ms : List ClockM) (az : List RA) (k : Nat) (m : ClockM) (a : RA) (hm : ms[k]? = some m) (ha : az[k]? = some a) (hc : m.Syncs.length ≤ a.2 ∧ m.Syncs.length ≤ 1000000) :
    FnV Tryz.prog 109 [(Value.agg (ClockV.cells (ClockV.mk m.Drift (Slc.mk a.1 m.Syncs.length a.2))).toArray)] [(bun (nest ClockM.rds ms az))] (Value.bool (!(decide (ClockOk m)))) := by
 obtain ⟨hc1, hc2⟩ := hc
 refine fnV_of go109 Tryz.func109 rfl rfl fun w0 Q hQ hN => ?_
 try dsimp only
 refine WS fun _ hK1 => BXA rfl fun b2 => rS (AG rfl) <| RK hK1 <| WS fun _ hK3 => rS (LW 0 rfl tk63 rfl rfl) <| rS (CL (goes_c m a.1 a.2 (by first | assumption | omega | (simp; done) | (simp; omega)) (by first | assumption | omega | (simp; done) | (simp; omega))) (ha_cons (show Has _ (rd a.1 m.Syncs.length 3 (m.Syncs.map SyncV.cells)).holds from (has_inr 1 rfl (mem_nest hm ha (by simp [ClockM.rds])))) <| ha_nil) rfl) <| rS (NT rfl) <| rS (AG rfl) <| RK hK3 ?_
 refine w_ret ?_
 exact Q1 hQ rfl rfl rfl rfl
set_option maxRecDepth 100000 in
set_option maxHeartbeats 400000 in
theorem indexck_c (l : List ClockM) (az : List RA) (lA : Option Addr) (lC : Nat) (f : Value) (p : ClockM → Bool) (X : Assn) (hf : ∀ (k : Nat) m a, l[k]? = some m → az[k]? = some a → Clo Tryz.prog f [.agg (ClockM.cells m a).toArray] [X] (.bool (p m))) (hlen : l.length ≤ 1000000) (has : az.length = l.length) :
    FnV Tryz.prog 131 [(Value.slice lA l.length lC), f] [(rd lA l.length 2 (List.zipWith ClockM.cells l az)), (bun (nest ClockM.rds l az)), X] (Value.int .i64 (findI p l)) := by
 refine fnV_of go131 Tryz.func131 rfl rfl fun w0 Q hQ hN => ?_
 try dsimp only
 refine WS fun _ hK1 => rS (AG rfl) <| RK hK1 <| w_seq fun _ hK2 => WS fun _ hK3 => rS (MV rfl) <| rS (LN rfl ut25) <| rS (MV rfl) <| RK hK3 <| w_block ?_
 have hinit : (0 ≤ l.length) ∧ ((l.take 0).any p = false) := by simp
 refine w_loop (ι := { z : Nat // (z ≤ l.length) ∧ ((l.take z).any p = false) }) (fun z => [(0, (Value.slice lA l.length lC)), (1, f), (7, (Value.int .i64 ((l.length : Nat) : Int))), (8, (Value.int .i64 ((z.1 : Nat) : Int)))]) (fun z => [(rd lA l.length 2 (List.zipWith ClockM.cells l az)).ro, (bun (nest ClockM.rds l az)).ro, X.ro]) (fun z => l.length - z.1) ⟨0, hinit⟩ (Sub.cons rfl <| Sub.cons rfl <| Sub.cons rfl <| Sub.cons rfl <| Sub.nil _) (fun w hs => St.sel [0, 1, 2] rfl rfl hs) ?_
 clear hinit
 rintro ⟨i, ⟨hl0_0, hl0_1⟩⟩ J4 hJ4
 try dsimp only
 refine WS fun _ hK5 => rS (BI rfl b_lss) <| RK hK5 <| w_seq fun _ hK6 => ?_
 refine w_if rfl (fun h7 => ?_) (fun h7 => ?_)
 rotate_left 1
 · replace h7 := DF h7
   refine w_exit <| k_exit_then <| k_exit_then <| k_exit_same <| KK hK2 <| WS fun _ hK13 => rS (AG rfl) <| RK hK13 <| w_ret <| Q1 hQ rfl rfl rfl ?_
   first | exact congrArg (Value.int .i64) (findI_at hx hp hl0_1).symm | exact congrArg (Value.int .i64) (findI_none (by omega) hl0_1).symm
 replace h7 := DT h7
 refine WK hK6 <| w_seq fun _ hK8 => w_block <| WS fun _ hK9 => rS (MV rfl) <| rS (AG rfl) <| RK hK9 <| WS fun _ hK10 => rS (MV rfl) <| rS (MV rfl) ?_
 refine rS (MV rfl) ?_
 obtain ⟨x, hx⟩ : ∃ y_, l[i]? = some y_ := ⟨l[i]'(by omega), List.getElem?_eq_getElem _⟩
 obtain ⟨xa, hxa⟩ : ∃ y_, az[i]? = some y_ := ⟨az[i]'(by omega), List.getElem?_eq_getElem _⟩
 have hxm : (List.zipWith ClockM.cells l az)[i]? = some (ClockM.cells x xa) := zip_get hx hxa
 refine rS (IA i rfl (has_at 0 rfl) te25 (by decide) (by omega) (by omega)) <| rS (LEN i 0 (ClockV.cells (ClockV.mk x.Drift (Slc.mk xa.1 x.Syncs.length xa.2))) rfl tk63 (has_at 0 rfl) hxm rfl (by decide) rfl rfl) <| rS (SX (sd_clo rfl rfl rfl (hf i x xa hx hxa) (ha_at 2 rfl rfl <| ha_nil)) rfl rfl) <| RK hK10 ?_
 refine w_if rfl (fun hp => ?_) (fun hp => ?_)
 · refine WS fun _ hK11 => ?_
   refine rS (MV rfl) <| rS (AG rfl) <| RK hK11 <| w_ret <| Q1 hQ rfl rfl rfl ?_
   first | exact congrArg (Value.int .i64) (findI_at hx hp hl0_1).symm | exact congrArg (Value.int .i64) (findI_none (by omega) hl0_1).symm
 refine w_skip <| k_block <| KK hK8 <| w_region <| rS (BI rfl (b_add ⟨by omega, by omega⟩)) <| rS (MV rfl) <| r_nil ?_
 have hb12 : (Value.int .i64 (((i + 1) : Nat) : Int)) = (Value.int .i64 (((i : Nat) : Int) + 1)) := by exact congrArg (Value.int .i64) (by omega)
 refine k_then (hJ4 ⟨(i + 1), ⟨by omega, any_step hx hl0_1 hp⟩⟩ _ _ _ rfl (by first | omega | (simp; omega)) (Sub.cons rfl <| Sub.cons rfl <| Sub.cons rfl <| sub_val rfl hb12 <| Sub.nil _) (fun w hs => St.sel [0, 1, 2] rfl rfl hs))
set_option maxRecDepth 100000 in
set_option maxHeartbeats 400000 in
theorem containsck_c (l : List ClockM) (az : List RA) (lA : Option Addr) (lC : Nat) (f : Value) (p : ClockM → Bool) (X : Assn) (hf : ∀ (k : Nat) m a, l[k]? = some m → az[k]? = some a → Clo Tryz.prog f [.agg (ClockM.cells m a).toArray] [X] (.bool (p m))) (hlen : l.length ≤ 1000000) (has : az.length = l.length) :
    FnV Tryz.prog 108 [(Value.slice lA l.length lC), f] [(rd lA l.length 2 (List.zipWith ClockM.cells l az)), (bun (nest ClockM.rds l az)), X] (Value.bool (l.any p)) := by
 refine fnV_of go108 Tryz.func108 rfl rfl fun w0 Q hQ hN => ?_
 try dsimp only
 refine WS fun _ hK1 => rS (AG rfl) <| RK hK1 <| WS fun _ hK2 => rS (MV rfl) <| rS (MV rfl) <| rS (CL (indexck_c l az lA lC f p X (by exact hf) hlen has) (ha3 0 1 2 rfl rfl rfl rfl rfl rfl) rfl) <| rS (BI rfl b_geq) <| rS (AG rfl) <| RK hK2 ?_
 refine w_ret <| Q1 hQ rfl rfl rfl ?_
 exact congrArg Value.bool findI_any
set_option maxRecDepth 100000 in
set_option maxHeartbeats 400000 in
theorem indexbm_c (l : List BeamV) (lA : Option Addr) (lC : Nat) (f : Value) (p : BeamV → Bool) (X : Assn) (hf : ∀ x0, x0 ∈ l → Clo Tryz.prog f [.agg (BeamV.cells x0).toArray] [X] (.bool (p x0))) (hlen : l.length ≤ 1000000) :
    FnV Tryz.prog 132 [(Value.slice lA l.length lC), f] [(rd lA l.length 4 (l.map BeamV.cells)), X] (Value.int .i64 (findI p l)) := by
 refine fnV_of go132 Tryz.func132 rfl rfl fun w0 Q hQ hN => ?_
 try dsimp only
 refine WS fun _ hK1 => rS (AG rfl) <| RK hK1 <| w_seq fun _ hK2 => WS fun _ hK3 => rS (MV rfl) <| rS (LN rfl ut26) <| rS (MV rfl) <| RK hK3 <| w_block ?_
 have hinit : (0 ≤ l.length) ∧ ((l.take 0).any p = false) := by simp
 refine w_loop (ι := { z : Nat // (z ≤ l.length) ∧ ((l.take z).any p = false) }) (fun z => [(0, (Value.slice lA l.length lC)), (1, f), (7, (Value.int .i64 ((l.length : Nat) : Int))), (8, (Value.int .i64 ((z.1 : Nat) : Int)))]) (fun z => [(rd lA l.length 4 (l.map BeamV.cells)).ro, X.ro]) (fun z => l.length - z.1) ⟨0, hinit⟩ (Sub.cons rfl <| Sub.cons rfl <| Sub.cons rfl <| Sub.cons rfl <| Sub.nil _) (fun w hs => St.sel [0, 1] rfl rfl hs) ?_
 clear hinit
 rintro ⟨i, ⟨hl0_0, hl0_1⟩⟩ J4 hJ4
 try dsimp only
 refine WS fun _ hK5 => rS (BI rfl b_lss) <| RK hK5 <| w_seq fun _ hK6 => ?_
 refine w_if rfl (fun h7 => ?_) (fun h7 => ?_)
 rotate_left 1
 · replace h7 := DF h7
   refine w_exit <| k_exit_then <| k_exit_then <| k_exit_same <| KK hK2 <| WS fun _ hK13 => rS (AG rfl) <| RK hK13 <| w_ret <| Q1 hQ rfl rfl rfl ?_
   first | exact congrArg (Value.int .i64) (findI_at hx hp hl0_1).symm | exact congrArg (Value.int .i64) (findI_none (by omega) hl0_1).symm
 replace h7 := DT h7
 refine WK hK6 <| w_seq fun _ hK8 => w_block <| WS fun _ hK9 => rS (MV rfl) <| rS (AG rfl) <| RK hK9 <| WS fun _ hK10 => rS (MV rfl) <| rS (MV rfl) ?_
 refine rS (MV rfl) ?_
 obtain ⟨x, hx⟩ : ∃ y_, l[i]? = some y_ := ⟨l[i]'(by omega), List.getElem?_eq_getElem _⟩
 have hxm : (l.map BeamV.cells)[i]? = some (BeamV.cells x) := by rw [List.getElem?_map, hx]; rfl
 refine rS (IA i rfl (has_at 0 rfl) te26 (by decide) (by omega) (by omega)) <| rS (LEN i 0 (BeamV.cells x) rfl tk101 (has_at 0 rfl) hxm rfl (by decide) rfl rfl) <| rS (SX (sd_clo rfl rfl rfl (hf x (List.mem_of_getElem? hx)) (ha_at 1 rfl rfl <| ha_nil)) rfl rfl) <| RK hK10 ?_
 refine w_if rfl (fun hp => ?_) (fun hp => ?_)
 · refine WS fun _ hK11 => ?_
   refine rS (MV rfl) <| rS (AG rfl) <| RK hK11 <| w_ret <| Q1 hQ rfl rfl rfl ?_
   first | exact congrArg (Value.int .i64) (findI_at hx hp hl0_1).symm | exact congrArg (Value.int .i64) (findI_none (by omega) hl0_1).symm
 refine w_skip <| k_block <| KK hK8 <| w_region <| rS (BI rfl (b_add ⟨by omega, by omega⟩)) <| rS (MV rfl) <| r_nil ?_
 have hb12 : (Value.int .i64 (((i + 1) : Nat) : Int)) = (Value.int .i64 (((i : Nat) : Int) + 1)) := by exact congrArg (Value.int .i64) (by omega)
 refine k_then (hJ4 ⟨(i + 1), ⟨by omega, any_step hx hl0_1 hp⟩⟩ _ _ _ rfl (by first | omega | (simp; omega)) (Sub.cons rfl <| Sub.cons rfl <| Sub.cons rfl <| sub_val rfl hb12 <| Sub.nil _) (fun w hs => St.sel [0, 1] rfl rfl hs))
set_option maxRecDepth 100000 in
set_option maxHeartbeats 400000 in
theorem containsbm_c (l : List BeamV) (lA : Option Addr) (lC : Nat) (f : Value) (p : BeamV → Bool) (X : Assn) (hf : ∀ x0, x0 ∈ l → Clo Tryz.prog f [.agg (BeamV.cells x0).toArray] [X] (.bool (p x0))) (hlen : l.length ≤ 1000000) :
    FnV Tryz.prog 112 [(Value.slice lA l.length lC), f] [(rd lA l.length 4 (l.map BeamV.cells)), X] (Value.bool (l.any p)) := by
 refine fnV_of go112 Tryz.func112 rfl rfl fun w0 Q hQ hN => ?_
 try dsimp only
 refine WS fun _ hK1 => rS (AG rfl) <| RK hK1 <| WS fun _ hK2 => rS (MV rfl) <| rS (MV rfl) <| rS (CL (indexbm_c l lA lC f p X (by exact hf) hlen) (ha_at 0 rfl rfl <| ha_at 1 rfl rfl <| ha_nil) rfl) <| rS (BI rfl b_geq) <| rS (AG rfl) <| RK hK2 ?_
 refine w_ret <| Q1 hQ rfl rfl rfl ?_
 exact congrArg Value.bool findI_any
end
section
open Go.RowKit
set_option linter.unusedVariables false
set_option maxRecDepth 100000 in
set_option maxHeartbeats 400000 in
theorem plus_c (a : SpanV) (l : List SpanV) (lA : Option Addr) (lC : Nat) (ha : In12 a) (hl : ∀ z ∈ l, In12 z) (hlen : l.length ≤ 4) :
    FnV Tryz.prog 118 [(Value.agg (SpanV.cells a).toArray), (Value.slice lA l.length lC)] [(rd lA l.length 2 (l.map SpanV.cells))] (Value.agg (SpanV.cells (plusF a l)).toArray) := by
 refine fnV_of go118 Tryz.func118 rfl rfl fun w0 Q hQ hN => ?_
 try dsimp only
 refine WS fun _ hK1 => BXA rfl fun b2 => AL rfl tz47 fun b3 => RK hK1 <| w_seq fun _ hK4 => WS fun _ hK5 => rS (MV rfl) <| rS (LN rfl ut127) <| rS (MV rfl) <| RK hK5 ?_
 refine w_block ?_
 have hinit : (0 ≤ l.length) := by exact Nat.zero_le _
 refine w_loop (ι := { z : Nat // (z ≤ l.length) }) (fun z => [(2, (Value.pointer (some ⟨b2, 0, none⟩))), (4, (Value.pointer (some ⟨b3, 0, none⟩))), (7, (Value.slice lA l.length lC)), (8, (Value.int .i64 ((l.length : Nat) : Int))), (9, (Value.int .i64 (z.1 : Int)))]) (fun z => [(blk b3 47 (SpanV.cells (SpanV.mk 0 0))), (blk b2 47 (SpanV.cells (plusF a (l.take z.1)))), (rd lA l.length 2 (l.map SpanV.cells)).ro]) (fun z => l.length - z.1) ⟨0, hinit⟩ (Sub.cons rfl <| Sub.cons rfl <| Sub.cons rfl <| Sub.cons rfl <| Sub.cons rfl <| Sub.nil _) (fun w hs => St.sel [0, 1, 2] rfl rfl hs) ?_
 clear hinit
 rintro ⟨i, hl2_0⟩ J6 hJ6
 try dsimp only
 refine WS fun _ hK7 => rS (BI rfl b_lss) <| RK hK7 <| w_seq fun _ hK8 => ?_
 refine w_if rfl (fun h9 => ?_) (fun h9 => ?_)
 rotate_left 1
 · replace h9 := DF h9
   refine w_exit <| k_exit_then <| k_exit_then <| k_exit_same <| KK hK4 <| w_seq fun _ hK15 => ?_
   have hb16 : (SpanV.cells (plusF a (l.take i))) = (SpanV.cells (plusF a l)) := by rw [plus_all (by omega)]
   rw [hb16]
   refine w_region <| rS (LW 1 rfl tk47 rfl rfl) <| SW0 rfl ts47 rfl <| RK hK15 <| w_ret ?_
   refine hQ _ _ _ (l_nil (vs := [(Value.agg (SpanV.cells (plusF a l)).toArray)]) ⟨⟨_, rfl, .inl ⟨_, _, tk47, at_blk (vs := (SpanV.cells (plusF a l))) 0 rfl rfl, rfl, rfl⟩⟩, trivial⟩ fun w hs => endV ?_ hs)
   show (Value.agg (SpanV.cells (plusF a l)).toArray) = (Value.agg (SpanV.cells (plusF a l)).toArray)
   clear hs w hQ hN hK15 hK8 hK7 hK5 hK4 hK1
   rfl
 replace h9 := DT h9
 refine WK hK8 <| w_seq fun _ hK10 => w_block <| WS fun _ hK11 => ?_
 obtain ⟨x, hx⟩ : ∃ y_, l[i]? = some y_ := ⟨l[i]'(by omega), List.getElem?_eq_getElem _⟩
 have hxm : (l.map SpanV.cells)[i]? = some (SpanV.cells x) := by rw [List.getElem?_map, hx]; rfl
 refine rS (IA i rfl (has_at 2 rfl) te127 (by decide) (by omega) (by omega)) <| rS (LEN i 0 (SpanV.cells x) rfl tk47 (has_at 2 rfl) hxm rfl (by decide) rfl rfl) <| AL rfl tz47 fun b12 => SW0 rfl ts47 rfl <| RK hK11 <| w_region ?_
 have hb := plus_b ha hl i
 have hz := hl x (List.mem_of_getElem? hx)
 unfold In12 at hz
 refine rS (FA 0 rfl fo47_0 rfl) <| rS (L1 (Value.int .i64 ((plusF a (l.take i)).Lo)) 2 rfl tk3 rfl rfl) <| rS (FA 0 rfl fo47_0 rfl) <| rS (L1 (Value.int .i64 x.Lo) 0 rfl tk3 rfl rfl) <| rS (BI rfl (b_add ⟨by omega, by omega⟩)) <| rS (FA 1 rfl fo47_1 rfl) <| rS (L1 (Value.int .i64 ((plusF a (l.take i)).Hi)) 2 rfl tk3 rfl rfl) <| rS (FA 1 rfl fo47_1 rfl) <| rS (L1 (Value.int .i64 x.Hi) 0 rfl tk3 rfl rfl) <| rS (BI rfl (b_add ⟨by omega, by omega⟩)) ?_
 refine rS (SX (sd_build (xs := [(0, .tmp 17), (1, .tmp 22)]) (cs := (SpanV.cells (SpanV.mk (((plusF a (l.take i)).Lo) + x.Lo) (((plusF a (l.take i)).Hi) + x.Hi)))) rfl rfl (built_of tb47 rfl)) rfl rfl) <| SW2 rfl ts47 rfl <| r_nil <| k_block <| KK hK10 ?_
 have hb13 : (SpanV.cells (SpanV.mk (((plusF a (l.take i)).Lo) + x.Lo) (((plusF a (l.take i)).Hi) + x.Hi))) = (SpanV.cells (plusF a (l.take (i + 1)))) := by rw [plus_take hx]; rfl
 rw [hb13]
 refine w_region <| rS (BI rfl (b_add ⟨by omega, by omega⟩)) <| rS (MV rfl) <| r_nil ?_
 have hb14 : (Value.int .i64 ((i + 1) : Int)) = (Value.int .i64 ((i : Int) + 1)) := by exact congrArg (Value.int .i64) (by omega)
 refine k_then (hJ6 ⟨(i + 1), (by first | omega | (simp only []; omega))⟩ _ _ _ rfl (by first | omega | (simp; omega)) (Sub.cons rfl <| Sub.cons rfl <| Sub.cons rfl <| Sub.cons rfl <| sub_val rfl hb14 <| Sub.nil _) (fun w hs => St.sel [1, 2, 3] rfl rfl hs))
set_option maxRecDepth 100000 in
set_option maxHeartbeats 400000 in
theorem topen_c (ts : List StretchV) (tsA : Option Addr) (tsC : Nat) (hlen : ts.length ≤ 1000000) (hside : ∀ x ∈ ts, 0 ≤ x.Side ∧ x.Side ≤ 255) :
    FnV Tryz.prog 115 [(Value.agg (TrackV.cells (TrackV.mk (Slc.mk tsA ts.length tsC))).toArray)] [(rd tsA ts.length 9 (ts.map StretchV.cells))] (Value.tuple [(Value.agg (SurveyV.cells (SurveyV.mk (TrackV.mk (Slc.mk tsA ts.length tsC)))).toArray), (Value.int .i64 (if trackOk ts = true then 0 else 10))].toArray) := by
 refine fnV_of go115 Tryz.func115 rfl rfl fun w0 Q hQ hN => ?_
 try dsimp only
 refine WS fun _ hK1 => BXA rfl fun b2 => AL rfl tz173 fun b3 => rS (AG rfl) <| RK hK1 <| w_seq fun _ hK4 => w_draw mixed 4 (by kernel_rfl) <| dS (LW 1 rfl tk24 rfl rfl) <| dS (SX (sd_build (xs := [(0, .tmp 4)]) (cs := (SurveyV.cells (SurveyV.mk (TrackV.mk (Slc.mk tsA ts.length tsC))))) rfl rfl (built_of tb173 rfl)) rfl rfl) <| dS (LW 1 rfl tk24 rfl rfl) ?_
 refine dS (CL (tcheck_c ts tsA tsC hlen hside) (ha_at 2 rfl rfl <| ha_nil) rfl) <| d_end <| SW0 rfl ts173 rfl <| rS (AG rfl) <| RK hK4 <| w_ret ?_
 refine hQ _ _ _ (l_nil (vs := [(Value.agg (SurveyV.cells (SurveyV.mk (TrackV.mk (Slc.mk tsA ts.length tsC)))).toArray), (Value.int .i64 (if trackOk ts = true then 0 else 10))]) ⟨⟨_, rfl, .inl ⟨_, _, tk173, at_blk (vs := (SurveyV.cells (SurveyV.mk (TrackV.mk (Slc.mk tsA ts.length tsC))))) 0 rfl rfl, rfl, rfl⟩⟩, rfl, trivial⟩ fun w hs => endV ?_ hs)
 show (Value.tuple [(Value.agg (SurveyV.cells (SurveyV.mk (TrackV.mk (Slc.mk tsA ts.length tsC)))).toArray), (Value.int .i64 (if trackOk ts = true then 0 else 10))].toArray) = (Value.tuple [(Value.agg (SurveyV.cells (SurveyV.mk (TrackV.mk (Slc.mk tsA ts.length tsC)))).toArray), (Value.int .i64 (if trackOk ts = true then 0 else 10))].toArray)
 clear hs w hQ hN hK4 hK1
 rfl
set_option maxRecDepth 100000 in
set_option maxHeartbeats 400000 in
theorem marks_c (f : Int) (tsA : Option Addr) (tsN : Nat) (tsC : Nat) :
    FnX Tryz.prog 135 [(Value.agg (SurveyV.cells (SurveyV.mk (TrackV.mk (Slc.mk tsA tsN tsC)))).toArray), (Value.int .i64 f)] [] (fun (x : Nat × Nat) => (Value.func (.func 139) [].toArray [(Value.pointer (some ⟨x.1, 0, none⟩)), (Value.pointer (some ⟨x.2, 0, none⟩))].toArray)) (fun (x : Nat × Nat) => True) (fun (x : Nat × Nat) => [(blk x.1 3 [(Value.int .i64 f)]), (blk x.2 173 (SurveyV.cells (SurveyV.mk (TrackV.mk (Slc.mk tsA tsN tsC)))))]) := by
 refine fnX_of go135 Tryz.func135 rfl rfl fun w0 Q hQ hN => ?_
 try dsimp only
 refine WS fun _ hK1 => BXA rfl fun b2 => BX1 rfl rfl fun b3 => rS (AG rfl) <| RK hK1 <| WS fun _ hK4 => rS (FU rfl) <| rS (AG rfl) <| RK hK4 <| w_ret ?_
 refine hQ _ _ _ (l_nil (vs := [(Value.func (.func 139) [].toArray [(Value.pointer (some ⟨b3, 0, none⟩)), (Value.pointer (some ⟨b2, 0, none⟩))].toArray)]) ⟨rfl, trivial⟩ fun w hs => endX (b3, b2) [0, 1] ?_ ?_ rfl rfl rfl hs)
 · rfl
 · trivial
set_option maxRecDepth 100000 in
set_option maxHeartbeats 400000 in
theorem marksit_c (ts : List StretchV) (tsA : Option Addr) (tsC : Nat) (f : Int) (g1 : Nat) (g2 : Nat) (hst : ∀ x ∈ ts, StretchOk x) (hlen : ts.length ≤ 12) (hf : 0 ≤ f ∧ f ≤ ts.length) :
    SeqV Tryz.prog 139 [] [(Value.pointer (some ⟨g1, 0, none⟩)), (Value.pointer (some ⟨g2, 0, none⟩))] [(rd tsA ts.length 9 (ts.map StretchV.cells)), (blk g1 3 [(Value.int .i64 f)]), (blk g2 173 (SurveyV.cells (SurveyV.mk (TrackV.mk (Slc.mk tsA ts.length tsC)))))] (markV ts f.toNat) := by
 refine seqV_of go139 Tryz.func139 rfl rfl fun l J Z A0 w0 Q hY hJ0 hF0 hQ hN => ?_
 try dsimp only
 refine WS fun _ hK1 => AL rfl tz47 fun b2 => AL rfl tz47 fun b3 => RK hK1 <| WS fun _ hK4 => rS (L1Q 4 rfl tk3 rfl) <| rS (AG rfl) <| RK hK4 <| w_block ?_
 have hinit : (0 ≤ ts.length - f.toNat) ∧ (J 0 A0) ∧ (Fo A0 w0 A0) := by exact ⟨Nat.zero_le _, hJ0, hF0⟩
 have hb5 : (Value.int .i64 (f + ((0 : Nat) : Int))) = (Value.int .i64 f) := by exact congrArg (Value.int .i64) (by omega)
 refine w_loop (ι := { z : Nat × Assn // (z.1 ≤ ts.length - f.toNat) ∧ (J z.1 z.2) ∧ (Fo A0 w0 z.2) }) (fun z => [(0, (Value.func (.yield l) #[] #[])), (1, (Value.pointer (some ⟨g1, 0, none⟩))), (2, (Value.pointer (some ⟨g2, 0, none⟩))), (4, (Value.pointer (some ⟨b2, 0, none⟩))), (5, (Value.pointer (some ⟨b3, 0, none⟩))), (6, (Value.int .i64 (f + ((z.1.1 : Nat) : Int))))]) (fun z => [(blk b3 47 (SpanV.cells (fallF ts f.toNat z.1.1))), (blk b2 47 (SpanV.cells (longF ts f.toNat z.1.1))), z.1.2, (rd tsA ts.length 9 (ts.map StretchV.cells)).ro, (blk g1 3 [(Value.int .i64 f)]).ro, (blk g2 173 (SurveyV.cells (SurveyV.mk (TrackV.mk (Slc.mk tsA ts.length tsC))))).ro]) (fun z => ts.length - f.toNat - z.1.1) ⟨(0, A0), hinit⟩ (Sub.cons rfl <| Sub.cons rfl <| Sub.cons rfl <| Sub.cons rfl <| Sub.cons rfl <| sub_val rfl hb5 <| Sub.nil _) (fun w hs => St.sel [0, 1, 2, 3, 4, 5] rfl rfl hs) ?_
 clear hinit
 rintro ⟨⟨k, A⟩, ⟨hl2_0, hl2_1, hl2_2⟩⟩ J6 hJ6
 try dsimp only at hl2_0 hl2_1 hl2_2
 try dsimp only
 refine w_seq fun _ hK7 => WS fun _ hK8 => rS (MV rfl) <| rS (LW 1 rfl tk47 rfl rfl) <| rS (LW 0 rfl tk47 rfl rfl) ?_
 refine r_yield 2 hY hl2_1 hl2_2 rfl rfl rfl (markV_get (by omega)) rfl rfl (fun B9 hJ10 hF11 => ?_) (fun B9 hJ10 hF11 => ?_)
 rotate_left 1
 · refine rS (MV rfl) ?_
   refine rS (OX rfl) <| rS (OX rfl) <| rS (OX rfl) <| rS (OX rfl) <| rS (OX rfl) <| rS (OX rfl) <| rS (PK rfl) <| RK hK8 <| w_if_false rfl <| w_exit ?_
   refine k_exit_then <| k_exit_then <| k_exit_same ?_
   refine hN _ _ _ (l_nil (vs := []) trivial fun w hs => endSz 2 rfl hJ10 hF11 hs)
 refine rS (MV rfl) <| rS (MV rfl) <| rS (FA 0 rfl fo173_0 rfl) <| rS (FA 0 rfl fo24_0 rfl) <| rS (L1R (Value.slice tsA ts.length tsC) 5 rfl tk22 rfl rfl) <| rS (LN rfl ut22) <| rS (BI rfl b_lss) <| rS (PK rfl) <| RK hK8 ?_
 refine w_if rfl (fun h12 => ?_) (fun h12 => ?_)
 rotate_left 1
 · replace h12 := DF h12
   refine w_exit <| k_exit_then <| k_exit_then <| k_exit_same ?_
   refine hN _ _ _ (l_nil (vs := []) trivial fun w hs => endS 2 rfl (by rw [markV_length]; have e : ts.length - f.toNat + 1 = k + 1 := (by omega); rw [e]; exact hJ10) hF11 hs)
 replace h12 := DT h12
 refine WK hK7 <| w_seq fun _ hK13 => w_block <| w_drawN mixed [0, 1, 2, 3, 4, 5, 6, 7, 10, 11, 12, 13, 14, 15, 16, 17] [8, 9, 18, 19, 20, 21] [true, false, false, false, false, false, false, false, true, false, false, false, false, false, false, false] [8, 9, 18] [B9, (rd tsA ts.length 9 (ts.map StretchV.cells)).ro, (blk g1 3 [(Value.int .i64 f)]).ro, (blk g2 173 (SurveyV.cells (SurveyV.mk (TrackV.mk (Slc.mk tsA ts.length tsC))))).ro] [(blk b3 47 (SpanV.cells (fallF ts f.toNat k))), (blk b2 47 (SpanV.cells (longF ts f.toNat k))), B9, (rd tsA ts.length 9 (ts.map StretchV.cells)).ro, (blk g1 3 [(Value.int .i64 f)]).ro, (blk g2 173 (SurveyV.cells (SurveyV.mk (TrackV.mk (Slc.mk tsA ts.length tsC))))).ro] (by kernel_rfl) (fun w hs => St.sel [2, 3, 4, 5] rfl rfl hs) (fun w hs => St.sel [0, 1, 2, 3, 4, 5] rfl rfl hs) <| fS rfl (LW 1 rfl tk47 rfl rfl) <| eS rfl (FA 0 rfl fo173_0 rfl) <| eS rfl (FA 0 rfl fo24_0 rfl) <| eS rfl (L1R (Value.slice tsA ts.length tsC) 3 rfl tk22 rfl rfl) <| eS rfl (MV rfl) ?_
 obtain ⟨x, hx⟩ : ∃ y_, ts[(f.toNat + k)]? = some y_ := ⟨ts[(f.toNat + k)]'(by omega), List.getElem?_eq_getElem _⟩
 have hxm : (ts.map StretchV.cells)[(f.toNat + k)]? = some (StretchV.cells x) := by rw [List.getElem?_map, hx]; rfl
 refine eS rfl (IA (f.toNat + k) rfl (has_at 1 rfl) te22 (by decide) (by omega) (by omega)) ?_
 have hxo := hst x (List.mem_of_getElem? hx)
 refine eS rfl (FAR (((f.toNat + k) * 9) + 1) rfl (has_at 1 rfl) (Nat.mul_pos (by omega) (by decide)) fo141_1 rfl) <| eS rfl (LEN (f.toNat + k) 1 (SpanV.cells x.Long) rfl tk47 (has_at 1 rfl) hxm rfl (by decide) rfl rfl) <| fS rfl (LW 0 rfl tk47 rfl rfl) <| eS rfl (FA 0 rfl fo173_0 rfl) <| eS rfl (FA 0 rfl fo24_0 rfl) <| eS rfl (L1R (Value.slice tsA ts.length tsC) 3 rfl tk22 rfl rfl) <| eS rfl (MV rfl) <| eS rfl (IA (f.toNat + k) rfl (has_at 1 rfl) te22 (by decide) (by omega) (by omega)) <| eS rfl (FAR (((f.toNat + k) * 9) + 3) rfl (has_at 1 rfl) (Nat.mul_pos (by omega) (by decide)) fo141_2 rfl) <| eS rfl (LEN (f.toNat + k) 3 (SpanV.cells x.Fall) rfl tk47 (has_at 1 rfl) hxm rfl (by decide) rfl rfl) ?_
 refine d_fin rfl ?_
 refine n_step [8, 18] (by kernel_rfl) (n_cons ?_ <| n_cons ?_ <| n_nil)
 rotate_left 1
 · refine n_op5 (rem' := [8, 9, 19, 20, 21]) rfl (by kernel_rfl) fun T14 hT14 => ?_
   refine r_bs (xs := [.tmp 39]) (cs := (SpanV.cells x.Fall)) rfl te127 tz47 rfl rfl rfl rfl (by simp [Value.cells, SpanV.cells_length]) rfl rfl fun b15 => ?_
   refine r_nil (hT14 _ _ (fun w hs => St.sel [3, 4, 5, 6] rfl rfl hs) (fun w hs => St.sel [1, 2, 3, 4, 5, 6] rfl rfl hs) ?_)
   refine N1 8 <| n_op5 (rem' := [9, 19, 20, 21]) rfl (by kernel_rfl) fun T16 hT16 => r_bs (xs := [.tmp 29]) (cs := (SpanV.cells x.Long)) rfl te127 tz47 rfl rfl rfl rfl (by simp [Value.cells, SpanV.cells_length]) rfl rfl fun b17 => ?_
   refine r_nil (hT16 _ _ (fun w hs => St.sel [4, 5, 6, 7] rfl rfl hs) (fun w hs => St.sel [2, 3, 4, 5, 6, 7] rfl rfl hs) ?_)
   refine N1 9 <| n_op5 (rem' := [19, 20, 21]) rfl (by kernel_rfl) fun T18 hT18 => rS (CL (FnV.eq (plus_c (longF ts f.toNat k) ([x.Long]) (some ⟨b17, 0, none⟩) 1 (by exact longF_in hst (by omega)) (by intro z hz; simp only [List.mem_singleton] at hz; subst hz; exact long_in12 hxo) (by simp)) plus_one) (ha_cons (has_rd_blk 0 rfl rfl (by simp [SpanV.cells_length]) rfl) <| ha_nil) rfl) ?_
   refine r_nil (hT18 _ _ (fun w hs => St.sel [4, 5, 6, 7] rfl rfl hs) (fun w hs => St.sel [2, 3, 4, 5, 6, 7] rfl rfl hs) ?_)
   refine N1 19 <| NO rfl rfl [20,21] fun T19 hT19 => rS (CL (FnV.eq (plus_c (fallF ts f.toNat k) ([x.Fall]) (some ⟨b15, 0, none⟩) 1 (by exact fallF_in hst (by omega)) (by intro z hz; simp only [List.mem_singleton] at hz; subst hz; exact fall_in12 hxo) (by simp)) plus_one) (ha_cons (has_rd_blk 1 rfl rfl (by simp [SpanV.cells_length]) rfl) <| ha_nil) rfl) <| RD hT19 4 rfl <| N1 20 <| NO rfl rfl [21] fun T20 hT20 => SW3 rfl ts47 rfl <| RD hT20 4 rfl <| N1 21 <| NO rfl rfl [] fun T21 hT21 => ?_
   refine SW2 rfl ts47 rfl <| RD hT21 4 rfl <| n_fin <| k_block <| KK hK13 ?_
   have hb22 : (SpanV.cells (addZ (longF ts f.toNat k) x.Long)) = (SpanV.cells (longF ts f.toNat (k + 1))) := by rw [longF_succ hx]
   rw [hb22]
   have hb23 : (SpanV.cells (addZ (fallF ts f.toNat k) x.Fall)) = (SpanV.cells (fallF ts f.toNat (k + 1))) := by rw [fallF_succ hx]
   rw [hb23]
   refine w_region <| rS (MV rfl) <| rS (BI rfl (b_add ⟨by omega, by omega⟩)) <| rS (AG rfl) <| r_nil ?_
   have hb24 : (Value.int .i64 (f + (((k + 1) : Nat) : Int))) = (Value.int .i64 ((f + ((k : Nat) : Int)) + 1)) := by exact congrArg (Value.int .i64) (by omega)
   refine k_then (hJ6 ⟨((k + 1), B9), ⟨by omega, hJ10, hF11⟩⟩ _ _ _ rfl (by first | omega | (simp; omega)) (Sub.cons rfl <| Sub.cons rfl <| Sub.cons rfl <| Sub.cons rfl <| Sub.cons rfl <| sub_val rfl hb24 <| Sub.nil _) (fun w hs => St.sel [2, 3, 4, 5, 6, 7] rfl rfl hs))
 refine n_op5 (rem' := [9, 18, 19, 20, 21]) rfl (by kernel_rfl) fun T14 hT14 => r_bs (xs := [.tmp 29]) (cs := (SpanV.cells x.Long)) rfl te127 tz47 rfl rfl rfl rfl (by simp [Value.cells, SpanV.cells_length]) rfl rfl fun b15 => ?_
 refine r_nil (hT14 _ _ (fun w hs => St.sel [3, 4, 5, 6] rfl rfl hs) (fun w hs => St.sel [1, 2, 3, 4, 5, 6] rfl rfl hs) ?_)
 refine n_step [9, 18] (by kernel_rfl) (n_cons ?_ <| n_cons ?_ <| n_nil)
 rotate_left 1
 · refine n_op5 (rem' := [9, 19, 20, 21]) rfl (by kernel_rfl) fun T16 hT16 => ?_
   refine r_bs (xs := [.tmp 39]) (cs := (SpanV.cells x.Fall)) rfl te127 tz47 rfl rfl rfl rfl (by simp [Value.cells, SpanV.cells_length]) rfl rfl fun b17 => ?_
   refine r_nil (hT16 _ _ (fun w hs => St.sel [4, 5, 6, 7] rfl rfl hs) (fun w hs => St.sel [2, 3, 4, 5, 6, 7] rfl rfl hs) ?_)
   refine N1 9 <| n_op5 (rem' := [19, 20, 21]) rfl (by kernel_rfl) fun T18 hT18 => rS (CL (FnV.eq (plus_c (longF ts f.toNat k) ([x.Long]) (some ⟨b15, 0, none⟩) 1 (by exact longF_in hst (by omega)) (by intro z hz; simp only [List.mem_singleton] at hz; subst hz; exact long_in12 hxo) (by simp)) plus_one) (ha_cons (has_rd_blk 1 rfl rfl (by simp [SpanV.cells_length]) rfl) <| ha_nil) rfl) ?_
   refine r_nil (hT18 _ _ (fun w hs => St.sel [4, 5, 6, 7] rfl rfl hs) (fun w hs => St.sel [2, 3, 4, 5, 6, 7] rfl rfl hs) ?_)
   refine N1 19 <| NO rfl rfl [20,21] fun T19 hT19 => rS (CL (FnV.eq (plus_c (fallF ts f.toNat k) ([x.Fall]) (some ⟨b17, 0, none⟩) 1 (by exact fallF_in hst (by omega)) (by intro z hz; simp only [List.mem_singleton] at hz; subst hz; exact fall_in12 hxo) (by simp)) plus_one) (ha_cons (has_rd_blk 0 rfl rfl (by simp [SpanV.cells_length]) rfl) <| ha_nil) rfl) <| RD hT19 4 rfl <| N1 20 <| NO rfl rfl [21] fun T20 hT20 => SW3 rfl ts47 rfl <| RD hT20 4 rfl <| N1 21 <| NO rfl rfl [] fun T21 hT21 => ?_
   refine SW2 rfl ts47 rfl <| RD hT21 4 rfl <| n_fin <| k_block <| KK hK13 ?_
   have hb22 : (SpanV.cells (addZ (longF ts f.toNat k) x.Long)) = (SpanV.cells (longF ts f.toNat (k + 1))) := by rw [longF_succ hx]
   rw [hb22]
   have hb23 : (SpanV.cells (addZ (fallF ts f.toNat k) x.Fall)) = (SpanV.cells (fallF ts f.toNat (k + 1))) := by rw [fallF_succ hx]
   rw [hb23]
   refine w_region <| rS (MV rfl) <| rS (BI rfl (b_add ⟨by omega, by omega⟩)) <| rS (AG rfl) <| r_nil ?_
   have hb24 : (Value.int .i64 (f + (((k + 1) : Nat) : Int))) = (Value.int .i64 ((f + ((k : Nat) : Int)) + 1)) := by exact congrArg (Value.int .i64) (by omega)
   refine k_then (hJ6 ⟨((k + 1), B9), ⟨by omega, hJ10, hF11⟩⟩ _ _ _ rfl (by first | omega | (simp; omega)) (Sub.cons rfl <| Sub.cons rfl <| Sub.cons rfl <| Sub.cons rfl <| Sub.cons rfl <| sub_val rfl hb24 <| Sub.nil _) (fun w hs => St.sel [2, 3, 4, 5, 6, 7] rfl rfl hs))
 refine n_op5 (rem' := [18, 19, 20, 21]) rfl (by kernel_rfl) fun T16 hT16 => rS (CL (FnV.eq (plus_c (longF ts f.toNat k) ([x.Long]) (some ⟨b15, 0, none⟩) 1 (by exact longF_in hst (by omega)) (by intro z hz; simp only [List.mem_singleton] at hz; subst hz; exact long_in12 hxo) (by simp)) plus_one) (ha_cons (has_rd_blk 0 rfl rfl (by simp [SpanV.cells_length]) rfl) <| ha_nil) rfl) ?_
 refine r_nil (hT16 _ _ (fun w hs => St.sel [3, 4, 5, 6] rfl rfl hs) (fun w hs => St.sel [1, 2, 3, 4, 5, 6] rfl rfl hs) ?_)
 refine N1 18 <| n_op5 (rem' := [19, 20, 21]) rfl (by kernel_rfl) fun T17 hT17 => r_bs (xs := [.tmp 39]) (cs := (SpanV.cells x.Fall)) rfl te127 tz47 rfl rfl rfl rfl (by simp [Value.cells, SpanV.cells_length]) rfl rfl fun b18 => ?_
 refine r_nil (hT17 _ _ (fun w hs => St.sel [4, 5, 6, 7] rfl rfl hs) (fun w hs => St.sel [2, 3, 4, 5, 6, 7] rfl rfl hs) ?_)
 refine N1 19 <| NO rfl rfl [20,21] fun T19 hT19 => rS (CL (FnV.eq (plus_c (fallF ts f.toNat k) ([x.Fall]) (some ⟨b18, 0, none⟩) 1 (by exact fallF_in hst (by omega)) (by intro z hz; simp only [List.mem_singleton] at hz; subst hz; exact fall_in12 hxo) (by simp)) plus_one) (ha_cons (has_rd_blk 0 rfl rfl (by simp [SpanV.cells_length]) rfl) <| ha_nil) rfl) <| RD hT19 4 rfl <| N1 20 <| NO rfl rfl [21] fun T20 hT20 => SW3 rfl ts47 rfl <| RD hT20 4 rfl <| N1 21 <| NO rfl rfl [] fun T21 hT21 => ?_
 refine SW2 rfl ts47 rfl <| RD hT21 4 rfl <| n_fin <| k_block <| KK hK13 ?_
 have hb22 : (SpanV.cells (addZ (longF ts f.toNat k) x.Long)) = (SpanV.cells (longF ts f.toNat (k + 1))) := by rw [longF_succ hx]
 rw [hb22]
 have hb23 : (SpanV.cells (addZ (fallF ts f.toNat k) x.Fall)) = (SpanV.cells (fallF ts f.toNat (k + 1))) := by rw [fallF_succ hx]
 rw [hb23]
 refine w_region <| rS (MV rfl) <| rS (BI rfl (b_add ⟨by omega, by omega⟩)) <| rS (AG rfl) <| r_nil ?_
 have hb24 : (Value.int .i64 (f + (((k + 1) : Nat) : Int))) = (Value.int .i64 ((f + ((k : Nat) : Int)) + 1)) := by exact congrArg (Value.int .i64) (by omega)
 refine k_then (hJ6 ⟨((k + 1), B9), ⟨by omega, hJ10, hF11⟩⟩ _ _ _ rfl (by first | omega | (simp; omega)) (Sub.cons rfl <| Sub.cons rfl <| Sub.cons rfl <| Sub.cons rfl <| Sub.cons rfl <| sub_val rfl hb24 <| Sub.nil _) (fun w hs => St.sel [2, 3, 4, 5, 6, 7] rfl rfl hs))
set_option maxRecDepth 100000 in
set_option maxHeartbeats 400000 in
theorem drop_c (ts : List StretchV) (tsA : Option Addr) (tsC : Nat) (f : Int) (t : Int) (hst : ∀ x ∈ ts, StretchOk x) (hlen : ts.length ≤ 12) (hf : 0 ≤ f ∧ f ≤ t ∧ t ≤ ts.length) :
    FnV Tryz.prog 117 [(Value.agg (SurveyV.cells (SurveyV.mk (TrackV.mk (Slc.mk tsA ts.length tsC)))).toArray), (Value.int .i64 f), (Value.int .i64 t)] [(rd tsA ts.length 9 (ts.map StretchV.cells))] (Value.tuple [(Value.agg (SpanV.cells (longF ts f.toNat (t - f).toNat)).toArray), (Value.agg (SpanV.cells (fallF ts f.toNat (t - f).toNat)).toArray)].toArray) := by
 refine fnV_of go117 Tryz.func117 rfl rfl fun w0 Q hQ hN => ?_
 try dsimp only
 refine WS fun _ hK1 => BXA rfl fun b2 => BX1 rfl rfl fun b3 => BX1 rfl rfl fun b4 => AL rfl tz47 fun b5 => AL rfl tz47 fun b6 => RK hK1 <| w_seq fun _ hK7 => WS fun _ hK8 => rS (LW 4 rfl tk173 rfl rfl) ?_
 refine rS (L1W 3 rfl tk3 rfl) <| cX (marks_c f tsA ts.length tsC) (ha_nil) rfl fun y9 hy10 => ?_
 obtain ⟨b111, b212⟩ := y9
 try dsimp only
 refine RK hK8 <| w_block <| w_dup 7 rfl (by exact fun _ h => h) ?_
 refine w_range (L0 := [(3, (Value.pointer (some ⟨b2, 0, none⟩))), (4, (Value.pointer (some ⟨b3, 0, none⟩))), (5, (Value.pointer (some ⟨b4, 0, none⟩))), (6, (Value.pointer (some ⟨b5, 0, none⟩))), (7, (Value.pointer (some ⟨b6, 0, none⟩)))]) (F := [(rd tsA ts.length 9 (ts.map StretchV.cells)).ro, (blk b111 3 [(Value.int .i64 f)]), (blk b212 173 (SurveyV.cells (SurveyV.mk (TrackV.mk (Slc.mk tsA ts.length tsC)))))]) (xs := (markV ts f.toNat)) (fun k (y : SpanV × SpanV × Int) => (k ≤ (t - f).toNat) ∧ (y.2.2 = f + ((k : Nat) : Int))) (fun k y => [(blk b6 47 (SpanV.cells y.2.1)), (blk b5 47 (SpanV.cells y.1)), (blk b4 3 [(Value.int .i64 t)]), (blk b3 3 [(Value.int .i64 y.2.2)]), (blk b2 173 (SurveyV.cells (SurveyV.mk (TrackV.mk (Slc.mk tsA ts.length tsC))))), (rd tsA ts.length 9 (ts.map StretchV.cells)).ro]) (fun c (z : Unit) => (c = .exit 0)) (fun _ z => [(blk b6 47 (SpanV.cells (fallF ts f.toNat (t - f).toNat))), (blk b5 47 (SpanV.cells (longF ts f.toNat (t - f).toNat))), (blk b4 3 [(Value.int .i64 t)]), (blk b3 3 [(Value.int .i64 t)]), (blk b2 173 (SurveyV.cells (SurveyV.mk (TrackV.mk (Slc.mk tsA ts.length tsC))))), (rd tsA ts.length 9 (ts.map StretchV.cells)).ro]) [3, 4, 5, 6, 7, 8] [0, 1, 2] (zeroZ, zeroZ, f) rfl rfl (marksit_c ts tsA tsC f b111 b212 (by first | assumption | omega | (simp; done)) (by first | assumption | omega | (simp; done)) (by omega)) rfl rfl rfl (by exact ⟨Nat.zero_le _, by simp⟩) (by simp only [List.forall_mem_cons, List.not_mem_nil, false_imp_iff, implies_true, and_true]; exact ⟨⟨_, by simp, (cov_ro (cov_refl _))⟩, ⟨_, by simp, (cov_refl _)⟩, ⟨_, by simp, (cov_refl _)⟩⟩) (by exact markV_lens) rfl (Sub.cons rfl <| Sub.cons rfl <| Sub.cons rfl <| Sub.cons rfl <| Sub.cons rfl <| Sub.nil _) ?_ ?_ ?_ ?_
 rotate_left 1
 · rintro r25 ⟨z1, z2, m⟩ hin26
   obtain ⟨hr0, hr1⟩ := hin26
   try dsimp only at hr0 hr1
   try dsimp only
   exfalso; rw [markV_length] at hr0; omega
 · rintro r27 id _ hx28
   have hc := hx28
   cases hc
   try dsimp only
   refine k_exit_same <| KK hK7 <| w_seq fun _ hK29 => w_draw4 mixed [0, 1] [2, 3] [false, false] [false, false] [(obj r27 (.deferred (some []))), (rd tsA ts.length 9 (ts.map StretchV.cells)).ro, (blk b111 3 [(Value.int .i64 f)]), (blk b212 173 (SurveyV.cells (SurveyV.mk (TrackV.mk (Slc.mk tsA ts.length tsC))))), (blk b6 47 (SpanV.cells (fallF ts f.toNat (t - f).toNat))), (blk b5 47 (SpanV.cells (longF ts f.toNat (t - f).toNat))), (blk b4 3 [(Value.int .i64 t)]), (blk b3 3 [(Value.int .i64 t)]), (blk b2 173 (SurveyV.cells (SurveyV.mk (TrackV.mk (Slc.mk tsA ts.length tsC))))), (rd tsA ts.length 9 (ts.map StretchV.cells)).ro] [] (by kernel_rfl) (fun w hs => St.sel [0, 1, 2, 3, 4, 5, 6, 7, 8, 9] rfl rfl hs) (fun w hs => St.sel [] rfl rfl hs) <| eS rfl (LW 5 rfl tk47 rfl rfl) <| eS rfl (LW 4 rfl tk47 rfl rfl) <| d_fin rfl <| t_cons rfl fun T30 hT30 => SW5 rfl ts47 rfl <| RN hT30 [0, 1, 2, 3, 4, 5, 6, 7, 8, 9] rfl rfl ?_
   refine t_cons rfl fun T31 hT31 => SW4 rfl ts47 rfl <| RN hT31 [0, 1, 2, 3, 4, 5, 6, 7, 8, 9] rfl rfl <| t_fin rfl <| KK hK29 <| w_ret ?_
   refine hQ _ _ _ (l_mark 0 rfl rfl <| l_nil (vs := [(Value.agg (SpanV.cells (longF ts f.toNat (t - f).toNat)).toArray), (Value.agg (SpanV.cells (fallF ts f.toNat (t - f).toNat)).toArray)]) ⟨⟨_, rfl, .inl ⟨_, _, tk47, at_blk (vs := (SpanV.cells (longF ts f.toNat (t - f).toNat))) 5 rfl rfl, rfl, rfl⟩⟩, ⟨_, rfl, .inl ⟨_, _, tk47, at_blk (vs := (SpanV.cells (fallF ts f.toNat (t - f).toNat))) 4 rfl rfl, rfl, rfl⟩⟩, trivial⟩ fun w hs => endV ?_ hs)
   show (Value.tuple [(Value.agg (SpanV.cells (longF ts f.toNat (t - f).toNat)).toArray), (Value.agg (SpanV.cells (fallF ts f.toNat (t - f).toNat)).toArray)].toArray) = (Value.tuple [(Value.agg (SpanV.cells (longF ts f.toNat (t - f).toNat)).toArray), (Value.agg (SpanV.cells (fallF ts f.toNat (t - f).toNat)).toArray)].toArray)
   clear hs w hQ hN hT31 T31 hT30 T30 hK29 hK8 hK7 hK1
   rfl
 · rintro r32 _ hx33
   cases hx33
 rintro k x ⟨z1, z2, m⟩ l ra rb S w1 K13 Qr14 hx hin15 hK13 hQr14 xQr14 yQr14
 obtain ⟨hk, rfl⟩ := markV_out hx
 obtain ⟨hr0, hr1⟩ := hin15
 try dsimp only at hr0 hr1
 try dsimp only
 refine WS fun _ hK16 => AL rfl tz47 fun b17 => SW0 rfl ts47 rfl <| RK hK16 <| w_region <| AL rfl tz47 fun b18 => SW0 rfl ts47 rfl <| r_nil <| k_sub (fun _ _ h => h) (fun w hs => St.sel [2, 0, 1, 3, 4, 5, 6, 7, 8] rfl rfl hs) ?_
 refine k_then (hK13 _ _ ?_)
 refine w_block <| w_seq fun _ hK19 => w_seq fun _ hK20 => w_draw4 mixed [0, 1] [2, 3] [false, false] [false, false] [(obj l (.loop rb)), (blk b18 47 (SpanV.cells (fallF ts f.toNat k))), (blk b17 47 (SpanV.cells (longF ts f.toNat k))), (blk b4 3 [(Value.int .i64 t)]), (blk b3 3 [(Value.int .i64 m)]), (blk b2 173 (SurveyV.cells (SurveyV.mk (TrackV.mk (Slc.mk tsA ts.length tsC))))), (rd tsA ts.length 9 (ts.map StretchV.cells)).ro] [] (by kernel_rfl) (fun w hs => St.sel [0, 1, 2, 5, 6, 7, 8] rfl rfl hs) (fun w hs => St.sel [] rfl rfl hs) <| eS rfl (LW 2 rfl tk47 rfl rfl) <| eS rfl (LW 1 rfl tk47 rfl rfl) <| d_fin rfl <| t_cons rfl fun T21 hT21 => SW4 rfl ts47 rfl <| RN hT21 [0, 1, 2, 5, 6, 7, 8] rfl rfl ?_
 refine t_cons rfl fun T22 hT22 => SW3 rfl ts47 rfl <| RN hT22 [0, 1, 2, 5, 6, 7, 8] rfl rfl <| t_fin rfl <| KK hK20 <| WS fun _ hK23 => rS (L1W 6 rfl tk3 rfl) <| rS (L1W 5 rfl tk3 rfl) <| rS (BI rfl b_eql) <| RK hK23 ?_
 refine w_if rfl (fun h24 => ?_) (fun h24 => ?_)
 · replace h24 := DT h24
   refine w_exit <| k_exit_then <| k_exit_other rfl ?_
   rw [show m = t from by omega]
   obtain rfl : k = (t - f).toNat := by omega
   exact xQr14 _ () _ _ (by exact rfl) (fun w hs => St.sel [0, 3, 4, 5, 6, 7, 8] rfl rfl hs)
 replace h24 := DF h24
 refine WK hK19 <| w_region <| rS (L1W 6 rfl tk3 rfl) <| rS (BI rfl (b_add ⟨by omega, by omega⟩)) <| SO6 rfl ts3 rfl rfl <| r_nil <| k_block ?_
 exact hQr14 ((longF ts f.toNat k), (fallF ts f.toNat k), (m + 1)) _ _ (by refine ⟨by omega, ?_⟩; dsimp only; omega) (fun w hs => St.sel [0, 3, 4, 5, 6, 7, 8] rfl rfl hs)
end
end Go.Proofs.YthiigjekcdjkkaaGreat
