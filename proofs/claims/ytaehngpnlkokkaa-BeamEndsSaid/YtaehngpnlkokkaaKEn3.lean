/-
  The statement beamEnds_said, part 3 of 6: OpenW, Wheres, Follow, OpenM, LineR, WLe, ExL, DrawB, Told, Ends5, Can, V1, V3, B1, B4, B2.
  Conditions: none.
-/
import Derived.Test.YtaehngpnlkokkaaKEn1
import Derived.Test.YtaehngpnlkokkaaKEn2
namespace Go.Proofs.Ytaehngpnlkokkaa
section
set_option linter.unusedVariables false
def prevS (sg : List SignalV) (i : Nat) : SignalV := if i = 0 then ⟨-1, 0⟩ else (sg[i - 1]?).getD ⟨-1, 0⟩
theorem prevS_succ {sg : List SignalV} {i : Nat} {s : SignalV} (h : sg[i]? = some s) : prevS sg (i + 1) = s := by unfold prevS; rw [if_neg (by omega), Nat.add_sub_cancel, h]; rfl
def SigIn (l : LineM) (s : SignalV) : Prop := (0 ≤ s.Beam ∧ s.Beam ≤ (l.Beams.length : Int) - 1) ∧ 0 ≤ s.Read ∧ s.Read ≤ 86400000
def SigOk (l : LineM) (sg : List SignalV) (i : Nat) (s : SignalV) : Prop := SigIn l s ∧ ¬ s.Beam < (prevS sg i).Beam ∧ ¬ (s.Beam = (prevS sg i).Beam ∧ s.Read ≤ (prevS sg i).Read)
def SigsTo (l : LineM) (sg : List SignalV) (i : Nat) : Prop := ∀ (j : Nat) s, j < i → sg[j]? = some s → SigOk l sg j s
structure RideOk (l : LineM) (r : RideM) : Prop where
  time : 0 ≤ r.Start ∧ r.Start ≤ r.Now ∧ r.Now ≤ 86400000
  len : r.Signals.length ≤ 10
  sig : ∀ (i : Nat) s, r.Signals[i]? = some s → SigOk l r.Signals i s
noncomputable instance (l : LineM) (r : RideM) : Decidable (RideOk l r) := Classical.propDecidable _
theorem sigs_zero {l : LineM} {sg : List SignalV} : SigsTo l sg 0 := fun j s hj => absurd hj (Nat.not_lt_zero _)
theorem sigs_succ {l : LineM} {sg : List SignalV} {i : Nat} {s : SignalV} (h : SigsTo l sg i) (hs : sg[i]? = some s) (ho : SigOk l sg i s) : SigsTo l sg (i + 1) := fun j z hj hz => by
  rcases Nat.lt_or_ge j i with q | q
  · exact h j z q hz
  · obtain rfl : j = i := by omega
    rw [hs] at hz; cases hz; exact ho
theorem ride_all {l : LineM} {r : RideM} {i : Nat} (h1 : 0 ≤ r.Start ∧ r.Start ≤ r.Now ∧ r.Now ≤ 86400000) (h2 : r.Signals.length ≤ 10) (h : SigsTo l r.Signals i) (hi : r.Signals.length ≤ i) : RideOk l r :=
  ⟨h1, h2, fun j s hs => h j s (by have := (List.getElem?_eq_some_iff.1 hs).1; omega) hs⟩
noncomputable def timeO (l : LineM) (sg : List SignalV) (b k : Nat) : Option (Int × SpanV) := (sg[k]?).bind fun s => if s.Beam = (b : Int) ∧ (whenF l s).Lo ≤ (whenF l s).Hi then some ((k : Int), whenF l s) else none
noncomputable def timesB (l : LineM) (sg : List SignalV) (i b : Nat) : TM := (List.range i).filterMap (timeO l sg b)
noncomputable def timesT (l : LineM) (sg : List SignalV) (i : Nat) : List TM := (List.range l.Beams.length).map (timesB l sg i)
noncomputable def leasts (l : LineM) (n : Nat) : List Int := (List.range n).map (leastF l)
theorem leasts_succ {l : LineM} {n : Nat} : leasts l (n + 1) = leasts l n ++ [leastF l n] := by simp [leasts, List.range_succ]
theorem leasts_len {l : LineM} {n : Nat} : (leasts l n).length = n := by simp [leasts]
theorem timesT_len {l : LineM} {sg : List SignalV} {i : Nat} : (timesT l sg i).length = l.Beams.length := by simp [timesT]
theorem timesT_at {l : LineM} {sg : List SignalV} {i b : Nat} (h : b < l.Beams.length) : (timesT l sg i)[b]? = some (timesB l sg i b) := by simp [timesT, h]
theorem timeO_some {l : LineM} {sg : List SignalV} {b k : Nat} {q : Int × SpanV} : timeO l sg b k = some q ↔ ∃ s, sg[k]? = some s ∧ (s.Beam = (b : Int) ∧ (whenF l s).Lo ≤ (whenF l s).Hi) ∧ q = ((k : Int), whenF l s) := by
  unfold timeO
  cases h : sg[k]? with
  | none => simp
  | some s =>
    simp only [Option.bind_some, Option.some.injEq]
    by_cases e : s.Beam = (b : Int) ∧ (whenF l s).Lo ≤ (whenF l s).Hi
    · rw [if_pos e]
      constructor
      · intro h; cases h; exact ⟨s, rfl, e, rfl⟩
      · rintro ⟨s', rfl, _, rfl⟩; rfl
    · rw [if_neg e]
      constructor
      · intro h; cases h
      · rintro ⟨s', rfl, e', _⟩; exact absurd e' e
theorem mem_timesB {l : LineM} {sg : List SignalV} {i b : Nat} {q : Int × SpanV} : q ∈ timesB l sg i b ↔ ∃ k, k < i ∧ ∃ s, sg[k]? = some s ∧ (s.Beam = (b : Int) ∧ (whenF l s).Lo ≤ (whenF l s).Hi) ∧ q = ((k : Int), whenF l s) := by
  unfold timesB
  simp only [List.mem_filterMap, List.mem_range, timeO_some]
theorem timesB_succ {l : LineM} {sg : List SignalV} {i b : Nat} : timesB l sg (i + 1) b = timesB l sg i b ++ (timeO l sg b i).toList := by
  unfold timesB
  rw [List.range_succ, List.filterMap_append]
  congr 1
theorem times_zero {l : LineM} {sg : List SignalV} : timesT l sg 0 = List.replicate l.Beams.length [] := by
  unfold timesT
  rw [List.eq_replicate_iff]
  refine ⟨by simp, fun t ht => ?_⟩
  obtain ⟨b, _, rfl⟩ := List.mem_map.1 ht
  rfl
theorem times_skip {l : LineM} {sg : List SignalV} {i : Nat} {s : SignalV} (hs : sg[i]? = some s) (h : ¬ (whenF l s).Lo ≤ (whenF l s).Hi) : timesT l sg (i + 1) = timesT l sg i := by
  unfold timesT
  apply List.map_congr_left
  intro b _
  rw [timesB_succ]
  have : timeO l sg b i = none := by
    cases e : timeO l sg b i with
    | none => rfl
    | some q => obtain ⟨s', h1, ⟨_, h2⟩, _⟩ := timeO_some.1 e; rw [hs] at h1; cases h1; exact absurd h2 h
  rw [this]; simp
theorem times_put {l : LineM} {sg : List SignalV} {i : Nat} {s : SignalV} (hs : sg[i]? = some s) (hb : 0 ≤ s.Beam ∧ s.Beam ≤ (l.Beams.length : Int) - 1) (h : (whenF l s).Lo ≤ (whenF l s).Hi) {x : TM} (hx : (timesT l sg i)[s.Beam.toNat]? = some x) :
    (timesT l sg i).set s.Beam.toNat (gsetK x (i : Int) (whenF l s)) = timesT l sg (i + 1) := by
  have hbl : s.Beam.toNat < l.Beams.length := by omega
  rw [timesT_at hbl] at hx
  cases hx
  have hnew : gsetK (timesB l sg i s.Beam.toNat) (i : Int) (whenF l s) = timesB l sg (i + 1) s.Beam.toNat := by
    have hn : (timesB l sg i s.Beam.toNat).lookup (i : Int) = none := glookup_none.2 fun p hp e => by
      obtain ⟨k, hk, _, _, _, rfl⟩ := mem_timesB.1 hp
      simp only at e; omega
    have ho : timeO l sg s.Beam.toNat i = some ((i : Int), whenF l s) := timeO_some.2 ⟨s, hs, ⟨by omega, h⟩, rfl⟩
    rw [timesB_succ, ho]
    unfold gsetK; rw [hn]; rfl
  rw [hnew]
  apply List.ext_getElem?
  intro b
  rw [List.getElem?_set]
  by_cases e : s.Beam.toNat = b
  · rw [if_pos e, timesT_len, ← e, if_pos hbl, timesT_at hbl]
  · rw [if_neg e]
    by_cases hb' : b < l.Beams.length
    · rw [timesT_at hb', timesT_at hb', timesB_succ]
      have : timeO l sg b i = none := by
        cases e2 : timeO l sg b i with
        | none => rfl
        | some q => obtain ⟨s', h1, ⟨h2, _⟩, _⟩ := timeO_some.1 e2; rw [hs] at h1; cases h1; exact absurd (by omega) e
      rw [this]; simp
    · rw [List.getElem?_eq_none (by rw [timesT_len]; omega), List.getElem?_eq_none (by rw [timesT_len]; omega)]
noncomputable def watchL (l : LineM) (r : RideM) : WatchM := ⟨r.Start, r.Now, leasts l l.Beams.length, timesT l r.Signals r.Signals.length, l.Misses, l.Fakes, (r.Signals.length : Int)⟩
theorem leastF_b {l : LineM} (ht : trackOk l.Track = true) (h : LineOk l) {i : Nat} (hi : i < l.Beams.length) : 1 ≤ leastF l i ∧ leastF l i ≤ 500000000 := by
  have h1 := way_b ht h.beam i
  have h2 := h.way i hi
  have h3 := h.head.1
  unfold leastF upD
  refine ⟨(Int.le_ediv_iff_mul_le (by omega)).2 (by omega), ?_⟩
  have : (1000 * wayF l i + l.Fast - 1) / l.Fast ≤ 1000 * wayF l i + l.Fast - 1 := Int.ediv_le_self _ (by omega)
  omega
theorem whenF_b (l : LineM) (s : SignalV) : 0 ≤ (whenF l s).Lo ∧ (whenF l s).Hi ≤ 86400000 := by
  have h1 := firstN_b (p := whenLo (clockOf l s) s.Read) (n := 86400001)
  have h2 := firstN_b (p := whenHi (clockOf l s) s.Read) (n := 86400001)
  unfold whenF whenC
  simp only
  omega
theorem watch_ok {l : LineM} {r : RideM} (ht : trackOk l.Track = true) (h : LineOk l) (hr : RideOk l r) : WOk (watchL l r) := by
  have hh := h.head
  unfold HeadOk at hh
  refine ⟨?_, by simp [watchL, timesT_len, WatchM.n, leasts_len], hr.time, fun x hx => ?_, fun t htm p hp => ?_⟩
  · show (leasts l l.Beams.length).length ≤ 6
    rw [leasts_len]; omega
  · obtain ⟨i, hi, rfl⟩ := List.mem_map.1 hx
    exact leastF_b ht h (List.mem_range.1 hi)
  · obtain ⟨b, hb, rfl⟩ := List.mem_map.1 htm
    obtain ⟨k, hk, s, hs, ⟨_, h2⟩, rfl⟩ := mem_timesB.1 hp
    have h3 := whenF_b l s
    have h4 := hr.len
    simp only
    omega
noncomputable def openE (l : LineM) (r : RideM) (me : Int) : Int := if lineE l = 0 then (if RideOk l r then (if me = 0 then (if numsF (watchL l r) = [] then 8 else 0) else me) else 51) else lineE l
theorem open_line_e {l : LineM} {r : RideM} {me : Int} (h : ¬ lineE l = 0) : openE l r me = lineE l := if_neg h
theorem open_ride_e {l : LineM} {r : RideM} {me : Int} (h : lineE l = 0) (h2 : ¬ RideOk l r) : openE l r me = 51 := by unfold openE; rw [if_pos h, if_neg h2]
theorem open_more_e {l : LineM} {r : RideM} {me : Int} (h : lineE l = 0) (h2 : RideOk l r) (h3 : ¬ me = 0) : openE l r me = me := by unfold openE; rw [if_pos h, if_pos h2, if_neg h3]
theorem open_bad_e {l : LineM} {r : RideM} {me : Int} (h : lineE l = 0) (h2 : RideOk l r) (h3 : me = 0) (h4 : numsF (watchL l r) = []) : openE l r me = 8 := by unfold openE; rw [if_pos h, if_pos h2, if_pos h3, if_pos h4]
theorem open_ok_e {l : LineM} {r : RideM} {me : Int} (h : lineE l = 0) (h2 : RideOk l r) (h3 : me = 0) (h4 : ¬ numsF (watchL l r) = []) : openE l r me = 0 := by unfold openE; rw [if_pos h, if_pos h2, if_pos h3, if_neg h4]
theorem openE_zero {l : LineM} {r : RideM} {me : Int} (h : openE l r me = 0) : lineE l = 0 ∧ RideOk l r ∧ me = 0 ∧ ¬ numsF (watchL l r) = [] := by
  unfold openE at h
  split at h
  · split at h
    · split at h
      · split at h
        · omega
        · exact ⟨by assumption, by assumption, by assumption, by assumption⟩
      · omega
    · omega
  · omega
end
section
set_option linter.unusedVariables false
def minL (l : List Int) : Int := (l.drop 1).foldl min (l.headD 0)
def maxL (l : List Int) : Int := (l.drop 1).foldl max (l.headD 0)
theorem take_min {l : List Int} {i : Nat} {x : Int} (h : l[i]? = some x) (hi : 1 ≤ i) : minL (l.take (i + 1)) = min (minL (l.take i)) x := by
  have e : l.take (i + 1) = l.take i ++ [x] := by rw [List.take_add_one, h]; rfl
  have hl : 1 ≤ (l.take i).length := by have := (List.getElem?_eq_some_iff.1 h).1; rw [List.length_take]; omega
  rw [e]
  cases ht : l.take i with
  | nil => rw [ht] at hl; simp at hl
  | cons y ys => simp [minL, List.foldl_append]
theorem take_max {l : List Int} {i : Nat} {x : Int} (h : l[i]? = some x) (hi : 1 ≤ i) : maxL (l.take (i + 1)) = max (maxL (l.take i)) x := by
  have e : l.take (i + 1) = l.take i ++ [x] := by rw [List.take_add_one, h]; rfl
  have hl : 1 ≤ (l.take i).length := by have := (List.getElem?_eq_some_iff.1 h).1; rw [List.length_take]; omega
  rw [e]
  cases ht : l.take i with
  | nil => rw [ht] at hl; simp at hl
  | cons y ys => simp [maxL, List.foldl_append]
theorem take_min1 {l : List Int} {x : Int} (h : l[0]? = some x) : minL (l.take 1) = x := by
  cases l with
  | nil => simp at h
  | cons y ys => simp at h; subst h; simp [minL]
theorem take_max1 {l : List Int} {x : Int} (h : l[0]? = some x) : maxL (l.take 1) = x := by
  cases l with
  | nil => simp at h
  | cons y ys => simp at h; subst h; simp [maxL]
theorem fold_min : ∀ (l : List Int) (a : Int), (l.foldl min a = a ∨ l.foldl min a ∈ l) ∧ l.foldl min a ≤ a ∧ ∀ x ∈ l, l.foldl min a ≤ x
  | [], a => ⟨.inl rfl, by simp, by simp⟩
  | y :: l, a => by
    obtain ⟨h1, h2, h3⟩ := fold_min l (min a y)
    simp only [List.foldl_cons]
    refine ⟨?_, by omega, ?_⟩
    · rcases h1 with h1 | h1
      · rw [h1]
        rcases Int.le_total a y with q | q
        · left; omega
        · right; rw [show min a y = y by omega]; simp
      · right; exact List.mem_cons_of_mem _ h1
    · intro x hx
      rcases List.mem_cons.1 hx with rfl | hx
      · omega
      · exact h3 x hx
theorem fold_max : ∀ (l : List Int) (a : Int), (l.foldl max a = a ∨ l.foldl max a ∈ l) ∧ a ≤ l.foldl max a ∧ ∀ x ∈ l, x ≤ l.foldl max a
  | [], a => ⟨.inl rfl, by simp, by simp⟩
  | y :: l, a => by
    obtain ⟨h1, h2, h3⟩ := fold_max l (max a y)
    simp only [List.foldl_cons]
    refine ⟨?_, by omega, ?_⟩
    · rcases h1 with h1 | h1
      · rw [h1]
        rcases Int.le_total a y with q | q
        · right; rw [show max a y = y by omega]; simp
        · left; omega
      · right; exact List.mem_cons_of_mem _ h1
    · intro x hx
      rcases List.mem_cons.1 hx with rfl | hx
      · omega
      · exact h3 x hx
theorem min_mem {l : List Int} (h : l ≠ []) : minL l ∈ l ∧ ∀ x ∈ l, minL l ≤ x := by
  cases l with
  | nil => exact absurd rfl h
  | cons y ys =>
    obtain ⟨h1, h2, h3⟩ := fold_min ys y
    refine ⟨?_, fun x hx => ?_⟩
    · rcases h1 with h1 | h1
      · simp [minL, h1]
      · exact List.mem_cons_of_mem _ (by simpa [minL] using h1)
    · rcases List.mem_cons.1 hx with rfl | hx
      · simpa [minL] using h2
      · simpa [minL] using h3 x hx
theorem max_mem {l : List Int} (h : l ≠ []) : maxL l ∈ l ∧ ∀ x ∈ l, x ≤ maxL l := by
  cases l with
  | nil => exact absurd rfl h
  | cons y ys =>
    obtain ⟨h1, h2, h3⟩ := fold_max ys y
    refine ⟨?_, fun x hx => ?_⟩
    · rcases h1 with h1 | h1
      · simp [maxL, h1]
      · exact List.mem_cons_of_mem _ (by simpa [maxL] using h1)
    · rcases List.mem_cons.1 hx with rfl | hx
      · simpa [maxL] using h2
      · simpa [maxL] using h3 x hx
noncomputable def whereV (l : LineM) (r : RideM) : List Int := if openE l r 0 = 0 then numsF (watchL l r) else []
theorem whereV_ok {l : LineM} {r : RideM} (h : openE l r 0 = 0) : whereV l r = numsF (watchL l r) := if_pos h
theorem whereV_no {l : LineM} {r : RideM} (h : ¬ openE l r 0 = 0) : whereV l r = [] := if_neg h
theorem whereV_ne {l : LineM} {r : RideM} (h : openE l r 0 = 0) : whereV l r ≠ [] := by rw [whereV_ok h]; exact (openE_zero h).2.2.2
theorem whereV_pos {l : LineM} {r : RideM} (h : openE l r 0 = 0) : 1 ≤ (whereV l r).length := List.length_pos_iff.2 (whereV_ne h)
theorem whereV_len {l : LineM} {r : RideM} : (whereV l r).length ≤ 100 := by
  unfold whereV
  split
  · rename_i h
    obtain ⟨h1, h2, _⟩ := openE_zero h
    obtain ⟨ht, ho⟩ := lineE_zero h1
    have := (watch_ok ht ho h2).n
    have h3 := numsTo_len (w := watchL l r) (k := (watchL l r).n + 1)
    unfold numsF; omega
  · simp
noncomputable def clearV (l : LineM) (r : RideM) : Int := if openE l r 0 = 0 then (if l.Finish < minL (whereV l r) then 2 else if maxL (whereV l r) ≤ l.Finish then 0 else 1) else 0
noncomputable def beamE (l : LineM) (b : Int) : Int := if 0 ≤ b ∧ b ≤ (l.Beams.length : Int) - 1 then 0 else 2
theorem beamE_ok {l : LineM} {b : Int} (h : 0 ≤ b ∧ b ≤ (l.Beams.length : Int) - 1) : beamE l b = 0 := if_pos h
theorem beamE_zero {l : LineM} {b : Int} (h : beamE l b = 0) : 0 ≤ b ∧ b ≤ (l.Beams.length : Int) - 1 := by
  unfold beamE at h
  split at h
  · assumption
  · omega
noncomputable def hullW (l : LineM) (r : RideM) (b : Nat) : SpanV := hullF (passW (watchL l r) b)
noncomputable def passedE (l : LineM) (r : RideM) (b : Int) : Int := if openE l r (beamE l b) = 0 then (if hullW l r b.toNat = noneZ then 6 else 0) else openE l r (beamE l b)
noncomputable def passedV (l : LineM) (r : RideM) (b : Int) : SpanV := if passedE l r b = 0 then hullW l r b.toNat else zeroZ
theorem passed_bad {l : LineM} {r : RideM} {b : Int} (h : ¬ openE l r (beamE l b) = 0) : passedE l r b = openE l r (beamE l b) ∧ passedV l r b = zeroZ := by
  have e : passedE l r b = openE l r (beamE l b) := if_neg h
  exact ⟨e, by unfold passedV; rw [if_neg (by rw [e]; exact h)]⟩
theorem passed_none {l : LineM} {r : RideM} {b : Nat} (h : openE l r (beamE l b) = 0) (h2 : hullW l r b = noneZ) : passedE l r b = 6 ∧ passedV l r b = zeroZ := by
  have e : passedE l r b = 6 := by unfold passedE; rw [if_pos h, Int.toNat_natCast, if_pos h2]
  exact ⟨e, by unfold passedV; rw [if_neg (by rw [e]; omega)]⟩
theorem passed_some {l : LineM} {r : RideM} {b : Nat} (h : openE l r (beamE l b) = 0) (h2 : ¬ hullW l r b = noneZ) : passedE l r b = 0 ∧ passedV l r b = hullW l r b := by
  have e : passedE l r b = 0 := by unfold passedE; rw [if_pos h, Int.toNat_natCast, if_neg h2]
  exact ⟨e, by unfold passedV; rw [if_pos e, Int.toNat_natCast]⟩
theorem pass_b {w : WatchM} (h : WOk w) {b : Nat} {q : Int × SpanV} (hq : q ∈ passW w b) : 0 ≤ q.2.Lo ∧ q.2.Lo ≤ q.2.Hi ∧ q.2.Hi ≤ 86400000 := by
  have h1 := pass_le hq
  obtain ⟨o, ho, p, hp, u, hu, e⟩ := mem_passM.1 hq
  obtain ⟨_, _, rfl⟩ := passO_some.1 e
  have h2 := h.opt ho
  simp only [passX] at h1 ⊢
  omega
theorem passed_b {l : LineM} {r : RideM} {b : Int} (h : passedE l r b = 0) : 0 ≤ (passedV l r b).Lo ∧ (passedV l r b).Lo ≤ (passedV l r b).Hi ∧ (passedV l r b).Hi ≤ 86400000 := by
  have ho : openE l r (beamE l b) = 0 := by
    by_cases e : openE l r (beamE l b) = 0
    · exact e
    · rw [(passed_bad e).1] at h; exact absurd h e
  obtain ⟨h1, h2, _⟩ := openE_zero ho
  obtain ⟨ht, hok⟩ := lineE_zero h1
  have hw := watch_ok ht hok h2
  have hv : passedV l r b = hullW l r b.toNat := by unfold passedV; rw [if_pos h]
  have hn : hullW l r b.toNat ≠ noneZ := fun e => by unfold passedE at h; rw [if_pos ho, if_pos e] at h; omega
  have hh := hull_f (l := passW (watchL l r) b.toNat) fun q hq => pass_le hq
  rw [hv]
  unfold hullW at hn ⊢
  rcases hh with ⟨_, e⟩ | hh
  · exact absurd e hn
  · obtain ⟨x, hx, ex⟩ := hh.lo
    obtain ⟨y, hy, ey⟩ := hh.hi
    have := pass_b hw hx
    have := pass_b hw hy
    have := hh.le
    omega
noncomputable def ranV (l : LineM) (r : RideM) : SpanV := if passedE l r l.Finish = 0 then ⟨(passedV l r l.Finish).Lo - r.Start, (passedV l r l.Finish).Hi - r.Start⟩ else zeroZ
theorem ran_ok {l : LineM} {r : RideM} (h : passedE l r l.Finish = 0) : ranV l r = ⟨(passedV l r l.Finish).Lo - r.Start, (passedV l r l.Finish).Hi - r.Start⟩ := if_pos h
theorem ran_no {l : LineM} {r : RideM} (h : ¬ passedE l r l.Finish = 0) : ranV l r = zeroZ := if_neg h
theorem passed_ride {l : LineM} {r : RideM} {b : Int} (h : passedE l r b = 0) : RideOk l r := by
  by_cases e : openE l r (beamE l b) = 0
  · exact (openE_zero e).2.1
  · rw [(passed_bad e).1] at h; exact absurd h e
theorem hull_next {k : List (Int × SpanV)} {h : SpanV} {q : Int × SpanV} {z : SpanV} (hh : HullOk k h) (hq : q.2.Lo ≤ q.2.Hi) (hz : hullStep h q.2 = z) : HullOk (k ++ [q]) z := by subst hz; exact hull_step hh hq
end
section
set_option linter.unusedVariables false
def fillF (bl : List Nat) (n : Nat) : List (Option Nat) := bl.map some ++ List.replicate (n - bl.length) none
def fillB (bl : List Nat) (n : Nat) : List (Option Nat) := List.replicate (n - bl.length) none ++ bl.map some
theorem fillF_len {bl : List Nat} {n : Nat} (h : bl.length ≤ n) : (fillF bl n).length = n := by simp [fillF]; omega
theorem fillB_len {bl : List Nat} {n : Nat} (h : bl.length ≤ n) : (fillB bl n).length = n := by simp [fillB]; omega
theorem fillF_nil {n : Nat} : List.replicate n none = fillF [] n := by simp [fillF]
theorem fillB_nil {n : Nat} : List.replicate n none = fillB [] n := by simp [fillB]
theorem fillF_all {bl : List Nat} {n : Nat} (h : bl.length = n) : fillF bl n = bl.map some := by simp [fillF, h]
theorem fillB_all {bl : List Nat} {n : Nat} (h : bl.length = n) : fillB bl n = bl.map some := by simp [fillB, h]
theorem fillF_at {bl : List Nat} {n k g : Nat} (h : bl[k]? = some g) : (fillF bl n)[k]? = some (some g) := by
  have hk := (List.getElem?_eq_some_iff.1 h).1
  unfold fillF
  rw [List.getElem?_append_left (by simpa using hk), List.getElem?_map, h]; rfl
theorem fillB_at {bl : List Nat} {n k i g : Nat} (h : bl[i]? = some g) (hk : k = n - bl.length + i) : (fillB bl n)[k]? = some (some g) := by
  subst hk
  unfold fillB
  rw [List.getElem?_append_right (by simp), List.getElem?_map, List.length_replicate, Nat.add_sub_cancel_left, h]; rfl
theorem fillF_set {bl : List Nat} {n k g : Nat} (hk : k = bl.length) (h : bl.length < n) : (fillF bl n).set k (some g) = fillF (bl ++ [g]) n := by
  subst hk
  unfold fillF
  rw [List.set_append_right _ _ (by simp)]
  have e : n - bl.length = (n - (bl ++ [g]).length) + 1 := by simp; omega
  rw [e, List.replicate_succ]
  simp
theorem fillB_set {bl : List Nat} {n k g : Nat} (hk : k + 1 + bl.length = n) : (fillB bl n).set k (some g) = fillB (g :: bl) n := by
  unfold fillB
  have e : n - bl.length = k + 1 := by omega
  have e2 : n - (g :: bl).length = k := by simp; omega
  rw [e, e2, List.set_append_left _ _ (by simp), List.replicate_succ', List.set_append_right _ _ (by simp)]
  simp
theorem oC_at {l : List (Option Nat)} {k g : Nat} (h : l[k]? = some (some g)) : (l.map oC)[k]? = some (oC (some g)) := by rw [List.getElem?_map, h]; rfl
theorem snoc_at {α : Type} {l : List α} {x : α} {k : Nat} (h : k = l.length) : (l ++ [x])[k]? = some x := by subst h; simp
theorem snoc_old {α : Type} {l : List α} {x y : α} {k : Nat} (h : l[k]? = some y) : (l ++ [x])[k]? = some y := by rw [List.getElem?_append_left (List.getElem?_eq_some_iff.1 h).1]; exact h
structure FwdTo (w : WatchM) (fs : List FM) : Prop where
  all : ∀ (b : Nat) m, fs[b]? = some m → MinOk m (fwd w b) ∧ (m.map (·.1)).Nodup
structure BackTo (w : WatchM) (k : Nat) (bs : List FM) : Prop where
  all : ∀ (i : Nat) m, bs[i]? = some m → MaxOk m (back w (k + i)) ∧ (m.map (·.1)).Nodup
variable {w : WatchM} {b : Nat} {mb m left : List (TallyV × Int)} {o : Int × SpanV} {os : List (Int × SpanV)} {p : TallyV × Int}
theorem FwdTo.first : FwdTo w [[(⟨0, 0⟩, w.Start)]] := ⟨fun b m h => by
  match b with
  | 0 => simp at h; subst h; exact ⟨min_first, by simp⟩
  | n + 1 => simp at h⟩
theorem FwdTo.add {fs : List FM} (h : FwdTo w fs) (hl : fs.length = b + 1) (hmb : fs[b]? = some mb) (hm : LoOn w b m) (hd : LoLeft w b mb m left) (h0 : left = []) : FwdTo w (fs ++ [m]) := ⟨fun i x hx => by
  rcases Nat.lt_or_ge i fs.length with q | q
  · rw [List.getElem?_append_left q] at hx; exact h.all i x hx
  · rw [List.getElem?_append_right q] at hx
    have hi : i - fs.length = 0 := by
      rcases Nat.eq_zero_or_pos (i - fs.length) with z | z
      · exact z
      · rw [List.getElem?_eq_none (by simp; omega)] at hx; cases hx
    rw [hi] at hx
    simp at hx; subst hx
    obtain rfl : i = b + 1 := by omega
    have h1 := h.all b mb hmb
    exact ⟨min_next h1.2 h1.1 hm.snd (hd.fin h0), hm.keys⟩⟩
theorem FwdTo.ok {fs : List FM} (h : FwdTo w fs) (hl : fs.length = w.n + 1) : FwdOk w fs := ⟨hl, fun b m hm => (h.all b m hm).1, fun b m hm => (h.all b m hm).2⟩
theorem BackTo.none_ : BackTo w b [] := ⟨fun i m h => by simp at h⟩
theorem BackTo.last (hb : w.n ≤ b) : BackTo w b [[(⟨0, 0⟩, w.Now)]] := ⟨fun i m h => by
  match i with
  | 0 => simp at h; subst h; exact ⟨max_last (by omega), by simp⟩
  | n + 1 => simp at h⟩
theorem BackTo.add {bs : List FM} (h : BackTo w (b + 1) bs) (hb : b < w.n) (hmb : bs[0]? = some mb) (hm : HiOn w b m) (hd : HiLeft w b mb m left) (h0 : left = []) : BackTo w b (m :: bs) := ⟨fun i x hx => by
  match i with
  | 0 =>
    simp at hx; subst hx
    have h1 := h.all 0 mb hmb
    exact ⟨max_next hb h1.2 h1.1 hm.snd hm.zero (hd.fin h0), hm.keys⟩
  | n + 1 =>
    have := h.all n x (by simpa using hx)
    rw [show b + 1 + n = b + (n + 1) by omega] at this
    exact this⟩
theorem BackTo.ok {bs : List FM} (h : BackTo w 0 bs) (hl : bs.length = w.n + 1) : BackOk w bs := ⟨hl, fun b m hm => by have := (h.all b m hm).1; rwa [Nat.zero_add] at this, fun b m hm => (h.all b m hm).2⟩
/-- on the way through one entry's options -/
structure LoInv (w : WatchM) (b : Nat) (mb left m : List (TallyV × Int)) (p : TallyV × Int) (os : List (Int × SpanV)) : Prop where
  on : LoOn w b m
  left_ : LoLeft w b mb m left
  done : DoneLo w b m p os
structure HiInv (w : WatchM) (b : Nat) (mb left m : List (TallyV × Int)) (p : TallyV × Int) (os : List (Int × SpanV)) : Prop where
  on : HiOn w b m
  left_ : HiLeft w b mb m left
  done : DoneHi w b m p os
theorem LoInv.start (h : LoOn w b m) (h2 : LoLeft w b mb m left) : LoInv w b mb left m p [] := ⟨h, h2, fun o ho => by cases ho⟩
theorem HiInv.start (h : HiOn w b m) (h2 : HiLeft w b mb m left) : HiInv w b mb left m p [] := ⟨h, h2, fun o ho => by cases ho⟩
theorem tryLo_set {q : TallyV × Int} (h : (m.lookup q.1).isSome = false ∨ q.2 < (m.lookup q.1).getD 0) : tryLo m q = gsetK m q.1 q.2 := by
  unfold tryLo
  cases e : m.lookup q.1 with
  | none => rfl
  | some v => rw [e] at h; simp at h; simp only; rw [if_pos h]
theorem tryLo_keep {q : TallyV × Int} (h : (m.lookup q.1).isSome = true) (h2 : ¬ q.2 < (m.lookup q.1).getD 0) : tryLo m q = m := by
  unfold tryLo
  cases e : m.lookup q.1 with
  | none => rw [e] at h; cases h
  | some v => rw [e] at h2; simp only [Option.getD_some] at h2; simp only; rw [if_neg h2]
theorem tryHi_set {q : TallyV × Int} (h : (m.lookup q.1).isSome = false ∨ (m.lookup q.1).getD 0 < q.2) : tryHi m q = gsetK m q.1 q.2 := by
  unfold tryHi
  cases e : m.lookup q.1 with
  | none => rfl
  | some v => rw [e] at h; simp at h; simp only; rw [if_pos h]
theorem tryHi_keep {q : TallyV × Int} (h : (m.lookup q.1).isSome = true) (h2 : ¬ (m.lookup q.1).getD 0 < q.2) : tryHi m q = m := by
  unfold tryHi
  cases e : m.lookup q.1 with
  | none => rw [e] at h; cases h
  | some v => rw [e] at h2; simp only [Option.getD_some] at h2; simp only; rw [if_neg h2]
theorem fwdO_at {t : TallyV} {v y : Int} (hy : w.Least[b]? = some y) (h : max (v + y) o.2.Lo ≤ min o.2.Hi w.Now) : fwdO w b (t, v) o = some (addT t (oneT o.1), max (v + y) o.2.Lo) := by
  have e := leastAt_of hy
  subst e
  exact fwdO_yes h
theorem fwdO_off {t : TallyV} {v y : Int} (hy : w.Least[b]? = some y) (h : ¬ max (v + y) o.2.Lo ≤ min o.2.Hi w.Now) : fwdO w b (t, v) o = none := by
  have e := leastAt_of hy
  subst e
  exact fwdO_no h
theorem bwdO_at {t : TallyV} {v y : Int} (hy : w.Least[b]? = some y) (h : o.2.Lo ≤ min v o.2.Hi) : bwdO w b (t, v) o = some (addT t (oneT o.1), min v o.2.Hi - y) := by
  have e := leastAt_of hy
  subst e
  exact bwdO_yes h
theorem LoInv.set {q : TallyV × Int} (h : LoInv w b mb left m p os) (hp : p ∈ fwd w b) (ho : o ∈ opts w b) (he : fwdO w b p o = some q) (hs : (m.lookup q.1).isSome = false ∨ q.2 < (m.lookup q.1).getD 0) : LoInv w b mb left (gsetK m q.1 q.2) p (os ++ [o]) := by
  rw [← tryLo_set hs]
  exact ⟨h.on.add hp ho he, h.left_.lower tryLo_lower, h.done.try_ he⟩
theorem LoInv.keep {q : TallyV × Int} (h : LoInv w b mb left m p os) (he : fwdO w b p o = some q) (hs : (m.lookup q.1).isSome = true) (h2 : ¬ q.2 < (m.lookup q.1).getD 0) : LoInv w b mb left m p (os ++ [o]) := by
  have := h.done.try_ he
  rw [tryLo_keep hs h2] at this
  exact ⟨h.on, h.left_, this⟩
theorem LoInv.skip (h : LoInv w b mb left m p os) (he : fwdO w b p o = none) : LoInv w b mb left m p (os ++ [o]) := ⟨h.on, h.left_, h.done.none_ he⟩
theorem HiInv.set {q : TallyV × Int} (hb : b < w.n) (h : HiInv w b mb left m p os) (hp : p ∈ back w (b + 1)) (ho : o ∈ opts w b) (he : bwdO w b p o = some q) (hs : (m.lookup q.1).isSome = false ∨ (m.lookup q.1).getD 0 < q.2) : HiInv w b mb left (gsetK m q.1 q.2) p (os ++ [o]) := by
  rw [← tryHi_set hs]
  exact ⟨h.on.add hb hp ho he, h.left_.upper tryHi_upper, h.done.try_ he⟩
theorem HiInv.keep {q : TallyV × Int} (h : HiInv w b mb left m p os) (he : bwdO w b p o = some q) (hs : (m.lookup q.1).isSome = true) (h2 : ¬ (m.lookup q.1).getD 0 < q.2) : HiInv w b mb left m p (os ++ [o]) := by
  have := h.done.try_ he
  rw [tryHi_keep hs h2] at this
  exact ⟨h.on, h.left_, this⟩
theorem HiInv.skip (h : HiInv w b mb left m p os) (he : bwdO w b p o = none) : HiInv w b mb left m p (os ++ [o]) := ⟨h.on, h.left_, h.done.none_ he⟩
theorem LoInv.next {t : TallyV} {v : Int} (hn : (left.map (·.1)).Nodup) (hm : (t, v) ∈ left) (h : LoInv w b mb left m (t, v) os) (ho : ∀ o ∈ opts w b, o ∈ os) : LoLeft w b mb m (gdelK left t) := h.left_.next hn hm h.done ho
theorem HiInv.next {t : TallyV} {v : Int} (hn : (left.map (·.1)).Nodup) (hm : (t, v) ∈ left) (h : HiInv w b mb left m (t, v) os) (ho : ∀ o ∈ opts w b, o ∈ os) : HiLeft w b mb m (gdelK left t) := h.left_.next hn hm h.done ho
theorem FwdTo.mem {fs : List FM} (h : FwdTo w fs) (hm : fs[b]? = some mb) (hp : p ∈ mb) : p ∈ fwd w b := (h.all b mb hm).1.1 _ _ ((lookup_of_mem (h.all b mb hm).2).1 hp)
theorem BackTo.mem0 {bs : List FM} {k : Nat} (h : BackTo w k bs) (hk : k = b + 1) (hm : bs[0]? = some mb) (hp : p ∈ mb) : p ∈ back w (b + 1) := by
  subst hk
  exact (h.all 0 mb hm).1.1 _ _ ((lookup_of_mem (h.all 0 mb hm).2).1 hp)
theorem BackTo.end_ {bs : List FM} {k j : Nat} (h : BackTo w k bs) (hj : bs.length = 0) (hk : j = b) (hb : w.n ≤ b) : BackTo w j ([(⟨0, 0⟩, w.Now)] :: bs) := by
  subst hk
  rw [List.eq_nil_of_length_eq_zero hj]
  exact BackTo.last hb
theorem BackTo.more {bs : List FM} {k j : Nat} (h : BackTo w k bs) (hk : k = b + 1) (hj : j = b) (hb : b < w.n) (hmb : bs[0]? = some mb) (hm : HiOn w b m) (hd : HiLeft w b mb m left) (h0 : left = []) : BackTo w j (m :: bs) := by
  subst hk hj
  exact h.add hb hmb hm hd h0
end
section
open Go.RowKit
set_option linter.unusedVariables false
theorem cov_own_n {a : Option Addr} {c e sz n : Nat} {es : List (List Value)} (h : es.length = n) : Cov (own a c e sz es) (rd a n sz es) := by subst h; exact cov_own
theorem cov_bund {L : List Assn} : Cov (bund L) (bun L) := ⟨fun w h => h.1, fun b h => h⟩
theorem tm_snoc {b : Nat} {fb : List Nat} {g : Nat} (h : fb.length = b) : nest tmR (List.replicate b ([] : TM)) fb ++ [gmp iV g (gmapV spanU [])] = nest tmR (List.replicate (b + 1) ([] : TM)) (fb ++ [g]) := by
  rw [List.replicate_succ']
  exact nest_snoc (by rw [List.length_replicate]; exact h.symm) rfl
theorem zipF {α : Type} {ms : List α} {fb : List Nat} {n : Nat} (h : fb.length = n) (h2 : ms.length = n) : List.map oC (fillF fb n) = List.zipWith mapC ms fb := by
  rw [fillF_all h]; exact (zip_oC (by omega)).symm
theorem ride_no {l : LineM} {r : RideM} {i : Nat} {x : SignalV} (hx : r.Signals[i]? = some x) (h : ¬ SigOk l r.Signals i x) : ¬ RideOk l r := fun q => h (q.sig i x hx)
end
section
set_option linter.unusedVariables false
def GreatL (l : LineM) : Prop := (20 < (l.Track.length : Int) ∨ 8 < (l.Clocks.length : Int) ∨ 10 < (l.Beams.length : Int)) ∨ ∃ c ∈ l.Clocks, 10 < (c.Syncs.length : Int)
noncomputable instance (l : LineM) : Decidable (GreatL l) := Classical.propDecidable _
/-- what is asked of a line that comes in -/
structure LineRaw (l : LineM) (az : List RA) : Prop where
  trk : l.Track.length ≤ 9223372036854775807
  side : ∀ x ∈ l.Track, 0 ≤ x.Side ∧ x.Side ≤ 255
  cks : l.Clocks.length ≤ 9223372036854775807
  as_ : az.length = l.Clocks.length
  bms : l.Beams.length ≤ 9223372036854775807
  syn : ∀ (k : Nat) m (a : RA), l.Clocks[k]? = some m → az[k]? = some a → m.Syncs.length ≤ a.2 ∧ m.Syncs.length ≤ 9223372036854775807
def SyncsTo (l : LineM) (i : Nat) : Prop := ∀ (j : Nat) c, j < i → l.Clocks[j]? = some c → (c.Syncs.length : Int) ≤ 10
theorem great_no {l : LineM} {i : Nat} (h : ¬ (20 < (l.Track.length : Int)) ∧ ¬ (8 < (l.Clocks.length : Int)) ∧ ¬ (10 < (l.Beams.length : Int))) (hi : l.Clocks.length ≤ i) (hs : SyncsTo l i) : ¬ GreatL l := by
  rintro (h1 | ⟨c, hc, h2⟩)
  · omega
  · obtain ⟨k, hk⟩ := List.getElem?_of_mem hc
    have := hs k c (by have := (List.getElem?_eq_some_iff.1 hk).1; omega) hk
    omega
theorem great_at {l : LineM} {i : Nat} {c : ClockM} (hc : l.Clocks[i]? = some c) (h : 10 < (c.Syncs.length : Int)) : GreatL l := .inr ⟨c, List.mem_of_getElem? hc, h⟩
theorem upto_succ {α : Type} {l : List α} {P : Nat → α → Prop} {i : Nat} {x : α} (h : ∀ (j : Nat) y, j < i → l[j]? = some y → P j y) (hx : l[i]? = some x) (hp : P i x) : ∀ (j : Nat) y, j < i + 1 → l[j]? = some y → P j y := fun j y hj hy => by
  by_cases e : j = i
  · subst e; rw [hx] at hy; cases hy; exact hp
  · exact h j y (by omega) hy
theorem upto_all {α : Type} {l : List α} {P : Nat → α → Prop} {i : Nat} (hi : l.length ≤ i) (h : ∀ (j : Nat) y, j < i → l[j]? = some y → P j y) : ∀ (j : Nat) y, l[j]? = some y → P j y := fun j y hy => h j y (by have := (List.getElem?_eq_some_iff.1 hy).1; omega) hy
theorem upto_mem {α : Type} {l : List α} {P : α → Prop} {i : Nat} (hi : l.length ≤ i) (h : ∀ (j : Nat) y, j < i → l[j]? = some y → P y) : ∀ y ∈ l, P y := fun y hy => by
  obtain ⟨k, hk⟩ := List.getElem?_of_mem hy
  exact upto_all (P := fun _ y => P y) hi h k y hk
theorem small_of {l : LineM} (h : ¬ GreatL l) : (l.Track.length : Int) ≤ 20 ∧ (l.Clocks.length : Int) ≤ 8 ∧ (l.Beams.length : Int) ≤ 10 ∧ ∀ c ∈ l.Clocks, (c.Syncs.length : Int) ≤ 10 := by
  unfold GreatL at h
  rw [not_or] at h
  refine ⟨by omega, by omega, by omega, fun c hc => ?_⟩
  have := h.2
  rcases Int.lt_or_le 10 (c.Syncs.length : Int) with q | q
  · exact absurd ⟨c, hc, q⟩ this
  · exact q
theorem LineRaw.small {l : LineM} {az : List RA} (h : LineRaw l az) (hg : ¬ GreatL l) : LineIn l az := by
  have h1 := small_of hg
  exact ⟨by omega, h.side, by omega, h.as_, by omega, fun k m a hm ha => ⟨(h.syn k m a hm ha).1, by have := h1.2.2.2 m (List.mem_of_getElem? hm); omega⟩⟩
def PairK (c : ClockM) (x : SyncV) (k : Nat) : Prop := ∀ (j : Nat) o, j < k → c.Syncs[j]? = some o → PairOk c x o
def PairsOk (c : ClockM) (m : Nat) : Prop := ∀ (i : Nat) x, i < m → c.Syncs[i]? = some x → PairK c x i
theorem clock_ok {c : ClockM} {m : Nat} (h1 : 0 ≤ c.Drift ∧ c.Drift ≤ 1000) (h2 : 1 ≤ c.Syncs.length ∧ c.Syncs.length ≤ 5) (hs : ∀ (i : Nat) x, c.Syncs[i]? = some x → SyncOk c i x) (hm : c.Syncs.length ≤ m) (hp : PairsOk c m) : ClockOk c :=
  ⟨h1, h2, hs, fun i k x o hx hk ho => hp i x (by have := (List.getElem?_eq_some_iff.1 hx).1; omega) hx k o hk ho⟩
theorem pairs_succ {c : ClockM} {m k : Nat} (h : PairsOk c m) (hk : ∀ y, c.Syncs[m]? = some y → PairK c y k) (e : k = m) : PairsOk c (m + 1) := by
  subst e
  intro i x hi hx
  by_cases e : i = k
  · subst e; exact hk x hx
  · exact h i x (by omega) hx
def marksS (ts : List StretchV) (n : Nat) : List SpanV := (List.range n).map fun k => longF ts 0 k
theorem marksS_succ {ts : List StretchV} {n : Nat} : marksS ts (n + 1) = marksS ts n ++ [longF ts 0 n] := by simp [marksS, List.range_succ]
theorem marksS_length {ts : List StretchV} {n : Nat} : (marksS ts n).length = n := by simp [marksS]
theorem marksS_get {ts : List StretchV} {n k : Nat} {x : SpanV} (h : (marksS ts n)[k]? = some x) : x = longF ts 0 k := by
  unfold marksS at h
  rw [List.getElem?_map] at h
  cases hk : (List.range n)[k]? with
  | none => simp [hk] at h
  | some v =>
    have := List.getElem?_eq_some_iff.1 hk
    simp at this
    simp [hk] at h
    rw [← h, ← this.2]
theorem apart_swap {ts : List StretchV} {a b : SpotV} (h : b.Stretch < a.Stretch) : apartF ts a b = lessZ (apartF ts b a) := by
  unfold apartF
  rw [if_pos h, if_neg (by omega)]
  unfold wayB
  rw [Int.min_comm b.Stretch a.Stretch, Int.max_comm b.Stretch a.Stretch]
  unfold lessZ addZ
  simp only [SpanV.mk.injEq]
  omega
theorem apart_straight {ts : List StretchV} {a b : SpotV} (h : ¬ b.Stretch < a.Stretch) : apartF ts a b = addZ (addZ (longF ts a.Stretch.toNat (b.Stretch - a.Stretch).toNat) b.Off) (lessZ a.Off) := by
  unfold apartF wayB
  rw [if_neg h, Int.min_eq_left (by omega), Int.max_eq_right (by omega)]
end
section
set_option linter.unusedVariables false
structure WLe (w w' : WatchM) : Prop where
  start : w'.Start = w.Start
  now : w.Now ≤ w'.Now
  n : w'.n = w.n
  least : ∀ b, leastAt w' b ≤ leastAt w b
  times : w'.Times = w.Times
  misses : w.Misses ≤ w'.Misses
  fakes : w.Fakes ≤ w'.Fakes
  sigs : w'.Sigs = w.Sigs
variable {w w' : WatchM}
theorem WLe.opt (h : WLe w w') {b : Nat} {o : Int × SpanV} (ho : o ∈ opts w b) : ∃ o' ∈ opts w' b, o'.1 = o.1 ∧ o'.2.Lo ≤ o.2.Lo ∧ o.2.Hi ≤ o'.2.Hi := by
  unfold opts at ho
  rcases List.mem_cons.1 ho with rfl | ho
  · exact ⟨(-1, ⟨w'.Start, w'.Now⟩), List.mem_cons_self .., rfl, by simp only [h.start]; omega, h.now⟩
  · refine ⟨o, List.mem_cons_of_mem _ ?_, rfl, Int.le_refl _, Int.le_refl _⟩
    unfold timesAt at ho ⊢; rw [h.times]; exact ho
theorem WLe.may (h : WLe w w') {t : TallyV} (ht : mayT w t = true) : mayT w' t = true := by
  unfold mayT at ht ⊢
  have := of_decide_eq_true ht
  have h1 := h.misses
  have h2 := h.fakes
  have h3 := h.sigs
  exact decide_eq_true (by omega)
theorem WLe.fwd (h : WLe w w') : ∀ (b : Nat) (p : TallyV × Int), p ∈ fwd w b → ∃ p' ∈ Go.Proofs.Ytaehngpnlkokkaa.fwd w' b, p'.1 = p.1 ∧ p'.2 ≤ p.2 := by
  intro b
  induction b with
  | zero =>
    intro p hp
    simp only [Go.Proofs.Ytaehngpnlkokkaa.fwd, List.mem_singleton] at hp ⊢
    subst hp
    exact ⟨_, rfl, rfl, by simp only [h.start]; omega⟩
  | succ b ih =>
    intro q hq
    obtain ⟨p, hp, o, ho, e⟩ := mem_fwd_succ.1 hq
    obtain ⟨p', hp', h1, h2⟩ := ih p hp
    obtain ⟨o', ho', h3, h4, h5⟩ := h.opt ho
    have hl := h.least b
    have hn := h.now
    unfold fwdO at e
    split at e
    · rename_i hle
      simp only [Option.some.injEq] at e
      subst e
      refine ⟨(addT p'.1 (oneT o'.1), max (p'.2 + leastAt w' b) o'.2.Lo), mem_fwd_succ.2 ⟨p', hp', o', ho', by unfold fwdO; rw [if_pos (by omega)]⟩, by simp only [h1, h3], by simp only; omega⟩
    · cases e
theorem WLe.bwd (h : WLe w w') : ∀ (k : Nat) (p : TallyV × Int), p ∈ bwd w k → ∃ p' ∈ Go.Proofs.Ytaehngpnlkokkaa.bwd w' k, p'.1 = p.1 ∧ p.2 ≤ p'.2 := by
  intro k
  induction k with
  | zero =>
    intro p hp
    simp only [Go.Proofs.Ytaehngpnlkokkaa.bwd, List.mem_singleton] at hp ⊢
    subst hp
    exact ⟨_, rfl, rfl, h.now⟩
  | succ k ih =>
    intro q hq
    simp only [Go.Proofs.Ytaehngpnlkokkaa.bwd, List.mem_cons, List.mem_flatMap, List.mem_filterMap] at hq ⊢
    rcases hq with rfl | ⟨p, hp, o, ho, e⟩
    · exact ⟨_, .inl rfl, rfl, h.now⟩
    · obtain ⟨p', hp', h1, h2⟩ := ih p hp
      obtain ⟨o', ho', h3, h4, h5⟩ := h.opt ho
      have hl := h.least (w.n - (k + 1))
      rw [h.n]
      unfold bwdO at e
      split at e
      · rename_i hle
        simp only [Option.some.injEq] at e
        subst e
        exact ⟨(addT p'.1 (oneT o'.1), min p'.2 o'.2.Hi - leastAt w' (w.n - (k + 1))), .inr ⟨p', hp', o', ho', by unfold bwdO; rw [if_pos (by omega)]⟩, by simp only [h1, h3], by simp only; omega⟩
      · cases e
theorem WLe.back (h : WLe w w') {b : Nat} {p : TallyV × Int} (hp : p ∈ back w b) : ∃ p' ∈ Go.Proofs.Ytaehngpnlkokkaa.back w' b, p'.1 = p.1 ∧ p.2 ≤ p'.2 := by
  unfold Go.Proofs.Ytaehngpnlkokkaa.back at hp ⊢
  rw [h.n]
  exact h.bwd _ p hp
theorem mem_nums {k : Int} : k ∈ numsF w ↔ ∃ i : Nat, k = (i : Int) ∧ i ≤ w.n ∧ mayAny w (fwd w i) = true := by
  unfold numsF numsTo
  simp only [List.mem_map, List.mem_filter, List.mem_range]
  constructor
  · rintro ⟨i, ⟨h1, h2⟩, rfl⟩; exact ⟨i, rfl, by omega, h2⟩
  · rintro ⟨i, rfl, h1, h2⟩; exact ⟨i, ⟨by omega, h2⟩, rfl⟩
theorem WLe.nums (h : WLe w w') {k : Int} (hk : k ∈ numsF w) : k ∈ numsF w' := by
  obtain ⟨i, rfl, h1, h2⟩ := mem_nums.1 hk
  refine mem_nums.2 ⟨i, rfl, by rw [h.n]; exact h1, ?_⟩
  unfold mayAny at h2 ⊢
  obtain ⟨p, hp, h3⟩ := List.any_eq_true.1 h2
  obtain ⟨p', hp', b1, _⟩ := h.fwd _ p hp
  exact List.any_eq_true.2 ⟨p', hp', by rw [b1]; exact h.may h3⟩
theorem hull_some {l : List (Int × SpanV)} (hl : ∀ q ∈ l, q.2.Lo ≤ q.2.Hi) (h : hullF l ≠ noneZ) : HullIn l (hullF l) := by
  rcases hull_f hl with ⟨_, e⟩ | h'
  · exact absurd e h
  · exact h'
theorem hull_ne {l : List (Int × SpanV)} (hl : ∀ q ∈ l, q.2.Lo ≤ q.2.Hi) {q : Int × SpanV} (hq : q ∈ l) : HullIn l (hullF l) := by
  rcases hull_f hl with ⟨e, _⟩ | h'
  · rw [e] at hq; cases hq
  · exact h'
/-- two rides, of two lines, of which one allows more -/
structure RLe (l : LineM) (r : RideM) (l' : LineM) (r' : RideM) : Prop where
  line : lineE l = 0
  line' : lineE l' = 0
  ride : RideOk l r
  ride' : RideOk l' r'
  w : WLe (watchL l r) (watchL l' r')
  beams : l'.Beams.length = l.Beams.length
variable {l l' : LineM} {r r' : RideM}
theorem RLe.ok (h : RLe l r l' r') (he : openE l r 0 = 0) : openE l' r' 0 = 0 := by
  refine open_ok_e h.line' h.ride' rfl fun e => ?_
  obtain ⟨k, hk⟩ := List.exists_mem_of_ne_nil _ (openE_zero he).2.2.2
  have := h.w.nums hk
  rw [e] at this; cases this
theorem open_beam {b : Nat} (hb : b < l.Beams.length) : openE l r (beamE l b) = openE l r 0 := by rw [beamE_ok (by omega)]
theorem leastAt_L {b : Nat} : leastAt (watchL l r) b = if b < l.Beams.length then leastF l b else 0 := by
  unfold leastAt watchL leasts
  split
  · rename_i h
    simp [h]
  · rename_i h
    simp [h]
theorem prevS_at0 {sg : List SignalV} {i : Nat} (h : i = 0) : prevS sg i = ⟨-1, 0⟩ := by subst h; rfl
theorem prevS_pos {sg : List SignalV} {i : Nat} {y : SignalV} (h : 0 < i) (hy : sg[i - 1]? = some y) : prevS sg i = y := by unfold prevS; rw [if_neg (by omega), hy]; rfl
def ReadyL (l : LineM) : Prop := ¬ GreatL l ∧ lineE l = 0
noncomputable instance (l : LineM) : Decidable (ReadyL l) := Classical.propDecidable _
end
section
set_option linter.unusedVariables false
set_option maxRecDepth 20000
def exS : StretchV := ⟨1, ⟨10000, 10200⟩, ⟨0, 0⟩, ⟨0, 0⟩, 0, 0⟩
def exC : ClockM := ⟨100, [⟨0, ⟨0, 2⟩⟩, ⟨100000, ⟨5, 6⟩⟩]⟩
def exB (o : Int) : BeamV := ⟨⟨0, ⟨o, o⟩⟩, 0⟩
def exL (f : Int) : LineM := ⟨[exS], 2000, [exC], [exB 1000, exB 4000, exB 9000], 1, f, 1⟩
def exR : RideM := ⟨10000, 20000, [⟨0, 10600⟩, ⟨0, 11000⟩, ⟨1, 12600⟩]⟩
theorem ex_track : trackOk [exS] = true := by decide
theorem ex_clock : ClockOk exC := by
  have hi : ∀ (i : Nat) (x : SyncV), exC.Syncs[i]? = some x → i = 0 ∧ x = ⟨0, ⟨0, 2⟩⟩ ∨ i = 1 ∧ x = ⟨100000, ⟨5, 6⟩⟩ := fun i x h => by
    match i with
    | 0 => left; simp [exC] at h; exact ⟨rfl, h.symm⟩
    | 1 => right; simp [exC] at h; exact ⟨rfl, h.symm⟩
    | n + 2 => simp [exC] at h
  refine ⟨by decide, by decide, fun i x hx => ?_, fun i k x o hx hk ho => ?_⟩
  · rcases hi i x hx with ⟨rfl, rfl⟩ | ⟨rfl, rfl⟩ <;> (unfold SyncOk; decide)
  · rcases hi i x hx with ⟨rfl, rfl⟩ | ⟨rfl, rfl⟩
    · omega
    · rcases hi k o ho with ⟨rfl, rfl⟩ | ⟨rfl, rfl⟩
      · unfold PairOk; decide
      · omega
theorem ex_spot {o : Int} (h : 0 ≤ o ∧ o < 10000) : SpotOk [exS] ⟨0, ⟨o, o⟩⟩ := ⟨by simp, exS, rfl, by show o ≤ o ∧ 0 ≤ o ∧ o ≤ 10000 - 1; omega⟩
theorem ex_line {f : Int} (hf : 0 ≤ f ∧ f ≤ 3) : LineOk (exL f) := by
  refine ⟨?_, fun c hc => ?_, fun b hb => ?_, fun i hi => ?_⟩
  · unfold HeadOk; simp [exL]; omega
  · simp [exL] at hc; subst hc; exact ex_clock
  · simp [exL] at hb
    rcases hb with rfl | rfl | rfl
    · exact ⟨ex_spot (by omega), by simp [exB, exL]⟩
    · exact ⟨ex_spot (by omega), by simp [exB, exL]⟩
    · exact ⟨ex_spot (by omega), by simp [exB, exL]⟩
  · have h3 : i < 3 := hi
    have : i = 0 ∨ i = 1 ∨ i = 2 := by omega
    rcases this with rfl | rfl | rfl
    · show (1 : Int) ≤ wayF (exL 0) 0; decide
    · show (1 : Int) ≤ wayF (exL 0) 1; decide
    · show (1 : Int) ≤ wayF (exL 0) 2; decide
def exL1 : LineM := exL 1
def exL0 : LineM := exL 0
theorem ex_e1 : lineE exL1 = 0 := lineE_ok ex_track (ex_line (by omega))
theorem ex_e0 : lineE exL0 = 0 := lineE_ok ex_track (ex_line (by omega))
theorem lo_at {r x : Int} (h0 : 0 < x) (h1 : x ≤ 86400000) (hy : whenLo exC r x = true) (hn : whenLo exC r (x - 1) = false) : firstN (whenLo exC r) 86400001 = x :=
  firstN_eq (by omega) (by omega) hy fun z hz hzx => by
    cases e : whenLo exC r z with
    | false => rfl
    | true =>
      unfold whenLo at e hn
      have := (aheadF_mono ex_clock hz (show z ≤ x - 1 by omega) (by omega)).2
      have e1 := of_decide_eq_true e
      have e2 := of_decide_eq_false hn
      omega
theorem hi_at {r x : Int} (h0 : 0 < x) (h1 : x ≤ 86400000) (hy : whenHi exC r x = true) (hn : whenHi exC r (x - 1) = false) : firstN (whenHi exC r) 86400001 = x :=
  firstN_eq (by omega) (by omega) hy fun z hz hzx => by
    cases e : whenHi exC r z with
    | false => rfl
    | true =>
      unfold whenHi at e hn
      have := (aheadF_mono ex_clock hz (show z ≤ x - 1 by omega) (by omega)).1
      have e1 := of_decide_eq_true e
      have e2 := of_decide_eq_false hn
      omega
theorem ex_w0 : whenC exC 10600 = ⟨10596, 10602⟩ := by unfold whenC; rw [lo_at (x := 10596) (by omega) (by omega) (by decide) (by decide), hi_at (x := 10603) (by omega) (by omega) (by decide) (by decide)]; rfl
theorem ex_w1 : whenC exC 11000 = ⟨10996, 11002⟩ := by unfold whenC; rw [lo_at (x := 10996) (by omega) (by omega) (by decide) (by decide), hi_at (x := 11003) (by omega) (by omega) (by decide) (by decide)]; rfl
theorem ex_w2 : whenC exC 12600 = ⟨12596, 12602⟩ := by unfold whenC; rw [lo_at (x := 12596) (by omega) (by omega) (by decide) (by decide), hi_at (x := 12603) (by omega) (by omega) (by decide) (by decide)]; rfl
def exW (f : Int) : WatchM := ⟨10000, 20000, [500, 1500, 2500], [[(0, ⟨10596, 10602⟩), (1, ⟨10996, 11002⟩)], [(2, ⟨12596, 12602⟩)], []], 1, f, 3⟩
theorem ex_f0 (f : Int) : whenF (exL f) ⟨0, 10600⟩ = ⟨10596, 10602⟩ := ex_w0
theorem ex_f1 (f : Int) : whenF (exL f) ⟨0, 11000⟩ = ⟨10996, 11002⟩ := ex_w1
theorem ex_f2 (f : Int) : whenF (exL f) ⟨1, 12600⟩ = ⟨12596, 12602⟩ := ex_w2
theorem ex_times (f : Int) : timesT (exL f) exR.Signals 3 = [[(0, ⟨10596, 10602⟩), (1, ⟨10996, 11002⟩)], [(2, ⟨12596, 12602⟩)], []] := by
  have o : ∀ b : Nat, timesB (exL f) exR.Signals 3 b = (timeO (exL f) exR.Signals b 0).toList ++ ((timeO (exL f) exR.Signals b 1).toList ++ (timeO (exL f) exR.Signals b 2).toList) := fun b => by
    rw [timesB_succ, timesB_succ, timesB_succ]; simp [timesB]
  have t0 : ∀ b : Nat, timeO (exL f) exR.Signals b 0 = if (0 : Int) = (b : Int) then some (0, ⟨10596, 10602⟩) else none := fun b => by
    show (if (0 : Int) = (b : Int) ∧ (whenF (exL f) ⟨0, 10600⟩).Lo ≤ (whenF (exL f) ⟨0, 10600⟩).Hi then some (((0 : Nat) : Int), whenF (exL f) ⟨0, 10600⟩) else none) = _
    rw [ex_f0]; by_cases h : (0 : Int) = (b : Int)
    · rw [if_pos h, if_pos ⟨h, by decide⟩]; rfl
    · rw [if_neg h, if_neg fun q => h q.1]
  have t1 : ∀ b : Nat, timeO (exL f) exR.Signals b 1 = if (0 : Int) = (b : Int) then some (1, ⟨10996, 11002⟩) else none := fun b => by
    show (if (0 : Int) = (b : Int) ∧ (whenF (exL f) ⟨0, 11000⟩).Lo ≤ (whenF (exL f) ⟨0, 11000⟩).Hi then some (((1 : Nat) : Int), whenF (exL f) ⟨0, 11000⟩) else none) = _
    rw [ex_f1]; by_cases h : (0 : Int) = (b : Int)
    · rw [if_pos h, if_pos ⟨h, by decide⟩]; rfl
    · rw [if_neg h, if_neg fun q => h q.1]
  have t2 : ∀ b : Nat, timeO (exL f) exR.Signals b 2 = if (1 : Int) = (b : Int) then some (2, ⟨12596, 12602⟩) else none := fun b => by
    show (if (1 : Int) = (b : Int) ∧ (whenF (exL f) ⟨1, 12600⟩).Lo ≤ (whenF (exL f) ⟨1, 12600⟩).Hi then some (((2 : Nat) : Int), whenF (exL f) ⟨1, 12600⟩) else none) = _
    rw [ex_f2]; by_cases h : (1 : Int) = (b : Int)
    · rw [if_pos h, if_pos ⟨h, by decide⟩]; rfl
    · rw [if_neg h, if_neg fun q => h q.1]
  show [timesB (exL f) exR.Signals 3 0, timesB (exL f) exR.Signals 3 1, timesB (exL f) exR.Signals 3 2] = _
  rw [o, o, o, t0, t0, t0, t1, t1, t1, t2, t2, t2]
  rfl
theorem ex_watch (f : Int) : watchL (exL f) exR = exW f := by
  unfold watchL exW
  rw [show exR.Signals.length = 3 from rfl, ex_times]
  rfl
theorem ex_ride (f : Int) : RideOk (exL f) exR := by
  refine ⟨by decide, by decide, fun i s hs => ?_⟩
  match i with
  | 0 => simp [exR] at hs; subst hs; unfold SigOk SigIn; simp [exL, prevS]
  | 1 => simp [exR] at hs; subst hs; unfold SigOk SigIn; simp [exL, prevS, exR]
  | 2 => simp [exR] at hs; subst hs; unfold SigOk SigIn; simp [exL, prevS, exR]
  | n + 3 => simp [exR] at hs
theorem ex_nums1 : numsF (watchL exL1 exR) = [2, 3] := by rw [show watchL exL1 exR = exW 1 from ex_watch 1]; decide
theorem ex_nums0 : numsF (watchL exL0 exR) = [] := by rw [show watchL exL0 exR = exW 0 from ex_watch 0]; decide
theorem ex_open1 : openE exL1 exR 0 = 0 := open_ok_e ex_e1 (ex_ride 1) rfl (by rw [ex_nums1]; decide)
theorem ex_open0 : openE exL0 exR 0 = 8 := open_bad_e ex_e0 (ex_ride 0) rfl ex_nums0
theorem ex_where : whereV exL1 exR = [2, 3] := by rw [whereV_ok ex_open1, ex_nums1]
theorem ex_clear : clearV exL1 exR = 2 := by unfold clearV; rw [if_pos ex_open1, ex_where]; decide
theorem ex_ahead : aheadE exL1 0 10000 = 0 ∧ aheadV exL1 0 10000 = ⟨-1, 3⟩ := by
  have h := ahead_in (l := exL1) (ck := 0) (at_ := 10000) ex_e1 (by decide) (c := exC) rfl
  exact ⟨h.1, h.2.trans (by decide)⟩
theorem ex_when : whenE exL1 ⟨0, 10600⟩ = 0 ∧ whenV exL1 ⟨0, 10600⟩ = ⟨10596, 10602⟩ := by
  have hf : whenF exL1 ⟨0, 10600⟩ = ⟨10596, 10602⟩ := ex_f0 1
  have h := when_in (l := exL1) (s := ⟨0, 10600⟩) ex_e1 (by decide) (by rw [hf]; decide)
  exact ⟨h.1, h.2.trans hf⟩
theorem ex_openb {b : Nat} (hb : b < 3) : openE exL1 exR (beamE exL1 b) = 0 := by rw [beamE_ok (by show 0 ≤ (b : Int) ∧ (b : Int) ≤ 3 - 1; omega)]; exact ex_open1
theorem ex_hull {b : Nat} {z : SpanV} (hb : b < 3) (hz : hullF (passW (exW 1) b) = z) (hn : z ≠ noneZ) : passedE exL1 exR b = 0 ∧ passedV exL1 exR b = z := by
  have e : hullW exL1 exR b = z := by unfold hullW; rw [show watchL exL1 exR = exW 1 from ex_watch 1]; exact hz
  have h := passed_some (ex_openb hb) (by rw [e]; exact hn)
  exact ⟨h.1, h.2.trans e⟩
theorem ex_pass0 : passedE exL1 exR 0 = 0 ∧ passedV exL1 exR 0 = ⟨10596, 11002⟩ := ex_hull (b := 0) (by omega) (by decide) (by decide)
theorem ex_pass1 : passedE exL1 exR 1 = 0 ∧ passedV exL1 exR 1 = ⟨12596, 12602⟩ := ex_hull (b := 1) (by omega) (by decide) (by decide)
theorem ex_ran : passedE exL1 exR exL1.Finish = 0 ∧ ranV exL1 exR = ⟨2596, 2602⟩ := by
  refine ⟨ex_pass1.1, ?_⟩
  rw [ran_ok (l := exL1) (r := exR) ex_pass1.1]
  rw [show passedV exL1 exR exL1.Finish = ⟨12596, 12602⟩ from ex_pass1.2]
  rfl
theorem ex_sig {x : SignalV} (h : exR.Signals[0]? = some x) : x = ⟨0, 10600⟩ := by simp [exR] at h; exact h.symm
theorem ex_in (f : Int) {a : Option Addr} {c : Nat} (hc : 2 ≤ c) : LineIn (exL f) [(a, c)] := by
  refine ⟨by simp [exL], ?_, by simp [exL], rfl, by simp [exL], fun k m a' hm ha => ?_⟩
  · intro x hx; simp [exL] at hx; subst hx; simp [exS]
  · match k with
    | 0 => simp [exL] at hm ha; subst hm; subst ha; simp [exC]; exact hc
    | n + 1 => simp at ha
end
section
set_option linter.unusedVariables false
theorem TN.sub {E : Env} {ops : Array Oper} {Q : Post} {D : List Deferred} {C' C1 C : List Assn} {tb rem : List Nat} : ∀ {n : Nat} {L L' : List (Nat × Value)}, Sub L L' → TN E ops D C' C1 (fun L C => KJ E (Q .normal) D L C) tb n rem L' C → TN E ops D C' C1 (fun L C => KJ E (Q .normal) D L C) tb n rem L C := by
  intro n
  cases n with
  | zero => intro L L' hs h; exact k_sub hs (fun _ h => h) h
  | succ n => intro L L' hs h i hi o ho K hK; exact r_sub hs (fun _ h => h) (h i hi o ho K hK)
theorem d_boolN {E : Env} {ops : Array Oper} {Q : Post} {D : List Deferred} {C' C1 C : List Assn} {bs : List Bool} {os : List Oper} {L : List (Nat × Value)} {tb rem : List Nat} {n : Nat} {t : Nat} {b : Bool} (h : L.lookup t = some (.bool b))
    (h1 : b = true → DJ4 E ops D C' C1 (fun L' => TN E ops D C' C1 (fun L C => KJ E (Q .normal) D L C) tb n rem L' C) bs os ((t, .bool true) :: L)) (h2 : b = false → DJ4 E ops D C' C1 (fun L' => TN E ops D C' C1 (fun L C => KJ E (Q .normal) D L C) tb n rem L' C) bs os ((t, .bool false) :: L)) :
    DJ4 E ops D C' C1 (fun L' => TN E ops D C' C1 (fun L C => KJ E (Q .normal) D L C) tb n rem L' C) bs os L := by
  have hsub : ∀ v : Bool, b = v → Sub L ((t, .bool v) :: L) := fun v hv => Sub.cons (hv ▸ h) (fun _ _ h => h)
  cases b
  · exact DJ4.mono (fun _ _ => TN.sub) (hsub _ rfl) (h2 rfl)
  · exact DJ4.mono (fun _ _ => TN.sub) (hsub _ rfl) (h1 rfl)
end
section
set_option linter.unusedVariables false
theorem told_e {l : LineM} {s : SignalV} (hl : lineE l = 0) (hs : (0 ≤ s.Beam ∧ s.Beam ≤ (l.Beams.length : Int) - 1) ∧ 0 ≤ s.Read ∧ s.Read ≤ 86400000) : (whenE l s = 0 ∨ whenE l s = 6) ∧ (whenE l s = 0 → 0 ≤ (whenV l s).Lo ∧ (whenV l s).Lo ≤ (whenV l s).Hi ∧ (whenV l s).Hi ≤ 86400000) := by
  have h1 := firstN_b (p := whenLo (clockOf l s) s.Read) (n := 86400001)
  have h2 := firstN_b (p := whenHi (clockOf l s) s.Read) (n := 86400001)
  by_cases h3 : (whenF l s).Hi < (whenF l s).Lo
  · have e2 := when_none hl hs h3
    exact ⟨.inr e2.1, fun h => by rw [e2.1] at h; omega⟩
  · have e2 := when_in hl hs h3
    refine ⟨.inl e2.1, fun _ => ?_⟩
    rw [e2.2]
    unfold whenF whenC at h3 ⊢
    simp only at h3 ⊢
    omega
theorem leastF_bb {l : LineM} (ht : trackOk l.Track = true) (h : LineOk l) {i : Nat} (hi : i < l.Beams.length) : 1 ≤ leastF l i ∧ leastF l i ≤ 500000000 := by
  have h2 := h.way i hi
  have h3 := way_b ht h.beam i
  have hf := h.head.1
  unfold leastF upD
  refine ⟨(Int.le_ediv_iff_mul_le (by omega)).2 (by omega), ?_⟩
  have : (1000 * wayF l i + l.Fast - 1) / l.Fast ≤ 1000 * wayF l i + l.Fast - 1 := Int.ediv_le_self _ (by omega)
  omega
end
section
set_option linter.unusedVariables false
/-- where a sled may be after k beams more -/
def reachW (w : WatchM) : Nat → Nat → TallyV × Int → List (TallyV × Int)
  | 0, _, p => [p]
  | k + 1, b, p => (opts w b).flatMap fun o => match fwdO w b p o with
    | some q => reachW w k (b + 1) q
    | none => []
variable {w : WatchM}
theorem mem_reach {k b : Nat} {p q : TallyV × Int} : q ∈ reachW w (k + 1) b p ↔ ∃ o ∈ opts w b, ∃ p', fwdO w b p o = some p' ∧ q ∈ reachW w k (b + 1) p' := by
  simp only [reachW, List.mem_flatMap]
  constructor
  · rintro ⟨o, ho, h⟩
    cases e : fwdO w b p o with
    | none => rw [e] at h; cases h
    | some p' => rw [e] at h; exact ⟨o, ho, p', e, h⟩
  · rintro ⟨o, ho, p', e, h⟩
    exact ⟨o, ho, by rw [e]; exact h⟩
theorem reach_fwd : ∀ (k b : Nat) (q : TallyV × Int), q ∈ fwd w (b + k) ↔ ∃ p ∈ fwd w b, q ∈ reachW w k b p := by
  intro k
  induction k with
  | zero =>
    intro b q
    simp only [Nat.add_zero, reachW, List.mem_singleton]
    exact ⟨fun h => ⟨q, h, rfl⟩, fun ⟨p, hp, e⟩ => e ▸ hp⟩
  | succ k ih =>
    intro b q
    rw [show b + (k + 1) = (b + 1) + k by omega, ih]
    constructor
    · rintro ⟨p', hp', h⟩
      obtain ⟨p, hp, o, ho, e⟩ := mem_fwd_succ.1 hp'
      exact ⟨p, hp, mem_reach.2 ⟨o, ho, p', e, h⟩⟩
    · rintro ⟨p, hp, h⟩
      obtain ⟨o, ho, p', e, h'⟩ := mem_reach.1 h
      exact ⟨p', mem_fwd_succ.2 ⟨p, hp, o, ho, e⟩, h'⟩
theorem fwdO_some {b : Nat} {p q : TallyV × Int} {o : Int × SpanV} : fwdO w b p o = some q ↔ max (p.2 + leastAt w b) o.2.Lo ≤ min o.2.Hi w.Now ∧ q = (addT p.1 (oneT o.1), max (p.2 + leastAt w b) o.2.Lo) := by
  unfold fwdO
  split
  · rename_i h
    constructor
    · intro e; cases e; exact ⟨h, rfl⟩
    · rintro ⟨_, rfl⟩; rfl
  · rename_i h
    constructor
    · intro e; cases e
    · rintro ⟨h', _⟩; exact absurd h' h
theorem bwdO_some {b : Nat} {p q : TallyV × Int} {o : Int × SpanV} : bwdO w b p o = some q ↔ o.2.Lo ≤ min p.2 o.2.Hi ∧ q = (addT p.1 (oneT o.1), min p.2 o.2.Hi - leastAt w b) := by
  unfold bwdO
  split
  · rename_i h
    constructor
    · intro e; cases e; exact ⟨h, rfl⟩
    · rintro ⟨_, rfl⟩; rfl
  · rename_i h
    constructor
    · intro e; cases e
    · rintro ⟨h', _⟩; exact absurd h' h
theorem back_zero {b : Nat} (hb : b ≤ w.n) : ((⟨0, 0⟩ : TallyV), w.Now) ∈ back w b := by
  rcases Nat.lt_or_ge b w.n with h | h
  · exact (mem_back h).2 (.inl rfl)
  · rw [back_last h]; simp
theorem addT_zero (t : TallyV) : addT t ⟨0, 0⟩ = t := by cases t; simp [addT]
theorem addT_swap (a o u : TallyV) : addT (addT a o) u = addT a (addT u o) := by simp only [addT, TallyV.mk.injEq]; omega
theorem back_le (hl : ∀ b, 0 ≤ leastAt w b) : ∀ (k : Nat) (u : TallyV × Int), u ∈ bwd w k → u.2 ≤ w.Now := by
  intro k
  induction k with
  | zero => intro u hu; simp only [bwd, List.mem_singleton] at hu; subst hu; exact Int.le_refl _
  | succ k ih =>
    intro u hu
    simp only [bwd, List.mem_cons, List.mem_flatMap, List.mem_filterMap] at hu
    rcases hu with rfl | ⟨p, hp, o, ho, e⟩
    · exact Int.le_refl _
    · obtain ⟨_, rfl⟩ := bwdO_some.1 e
      have := ih p hp
      have := hl (w.n - (k + 1))
      simp only; omega
/-- what follows a passing is told by the way back -/
theorem back_in : ∀ (k b : Nat) (p q : TallyV × Int), b + k ≤ w.n → p.2 ≤ w.Now → q ∈ reachW w k b p → ∃ u ∈ back w b, p.2 ≤ u.2 ∧ q.1 = addT p.1 u.1 := by
  intro k
  induction k with
  | zero =>
    intro b p q hb hp hq
    simp only [reachW, List.mem_singleton] at hq
    subst hq
    exact ⟨_, back_zero (by omega), hp, (addT_zero _).symm⟩
  | succ k ih =>
    intro b p q hb hp hq
    obtain ⟨o, ho, p', e, h⟩ := mem_reach.1 hq
    obtain ⟨h1, rfl⟩ := fwdO_some.1 e
    obtain ⟨u', hu', h2, h3⟩ := ih (b + 1) _ q (by omega) (by simp only; omega) h
    simp only at h2 h3
    refine ⟨(addT u'.1 (oneT o.1), min u'.2 o.2.Hi - leastAt w b), (mem_back (by omega)).2 (.inr ⟨u', hu', o, ho, bwdO_some.2 ⟨by omega, rfl⟩⟩), by simp only; omega, ?_⟩
    rw [h3, addT_swap]
theorem back_out (hl : ∀ b, 0 ≤ leastAt w b) : ∀ (d b : Nat) (p u : TallyV × Int), w.n = b + d → p.2 ≤ u.2 → u ∈ back w b → ∃ k, b + k ≤ w.n ∧ ∃ q ∈ reachW w k b p, q.1 = addT p.1 u.1 := by
  intro d
  induction d with
  | zero =>
    intro b p u hd hp hu
    rw [back_last (by omega)] at hu
    simp only [List.mem_singleton] at hu
    subst hu
    exact ⟨0, by omega, p, by simp [reachW], (addT_zero _).symm⟩
  | succ d ih =>
    intro b p u hd hp hu
    rcases (mem_back (by omega)).1 hu with rfl | ⟨u', hu', o, ho, e⟩
    · exact ⟨0, by omega, p, by simp [reachW], (addT_zero _).symm⟩
    · obtain ⟨h1, rfl⟩ := bwdO_some.1 e
      have hn : u'.2 ≤ w.Now := back_le hl _ _ hu'
      simp only at hp
      obtain ⟨k, hk, q, hq, h3⟩ := ih (b + 1) (addT p.1 (oneT o.1), max (p.2 + leastAt w b) o.2.Lo) u' (by omega) (by simp only; omega) hu'
      refine ⟨k + 1, by omega, q, mem_reach.2 ⟨o, ho, _, fwdO_some.2 ⟨by omega, rfl⟩, hq⟩, ?_⟩
      rw [h3]; simp only; rw [addT_swap]
/-- a truth that passes a beam at a time is one of what is told, and no other is -/
theorem pass_at (hl : ∀ b, 0 ≤ leastAt w b) {b : Nat} (hb : b < w.n) {t : Int} : (∃ q ∈ passW w b, q.2.Lo ≤ t ∧ t ≤ q.2.Hi) ↔
    ∃ p ∈ fwd w b, ∃ o ∈ opts w b, (max (p.2 + leastAt w b) o.2.Lo ≤ t ∧ t ≤ min o.2.Hi w.Now) ∧ ∃ k, b + 1 + k ≤ w.n ∧ ∃ q ∈ reachW w k (b + 1) (addT p.1 (oneT o.1), t), mayT w q.1 = true := by
  constructor
  · rintro ⟨q, hq, h1, h2⟩
    obtain ⟨o, ho, p, hp, u, hu, e⟩ := mem_passM.1 hq
    obtain ⟨h3, h4, rfl⟩ := passO_some.1 e
    simp only [passX] at h1 h2 h3
    have hn : u.2 ≤ w.Now := back_le hl _ _ hu
    obtain ⟨k, hk, q, hq', h5⟩ := back_out hl (w.n - (b + 1)) (b + 1) (addT p.1 (oneT o.1), t) u (by omega) (by simp only; omega) hu
    refine ⟨p, hp, o, ho, ⟨by omega, by omega⟩, k, hk, q, hq', ?_⟩
    rw [h5]
    unfold passT at h4
    rw [show addT (addT p.1 (oneT o.1)) u.1 = addT (addT p.1 u.1) (oneT o.1) by simp only [addT, TallyV.mk.injEq]; omega]
    exact h4
  · rintro ⟨p, hp, o, ho, ⟨h1, h2⟩, k, hk, q, hq, hm⟩
    obtain ⟨u, hu, h3, h4⟩ := back_in k (b + 1) _ q hk (by simp only; omega) hq
    simp only at h3 h4
    refine ⟨(o.1, passX w b p u o), mem_passM.2 ⟨o, ho, p, hp, u, hu, passO_some.2 ⟨by simp only [passX]; omega, ?_, rfl⟩⟩, by simp only [passX]; omega, by simp only [passX]; omega⟩
    unfold passT
    rw [h4] at hm
    rw [show addT (addT p.1 u.1) (oneT o.1) = addT (addT p.1 (oneT o.1)) u.1 by simp only [addT, TallyV.mk.injEq]; omega]
    exact hm
/-- both ends come about, and nothing before or after them -/
theorem hull_ends {b : Nat} (hn : hullF (passW w b) ≠ noneZ) {t : Int} (ht : t = (hullF (passW w b)).Lo - 1 ∨ t = (hullF (passW w b)).Lo ∨ t = (hullF (passW w b)).Hi ∨ t = (hullF (passW w b)).Hi + 1) :
    (∃ q ∈ passW w b, q.2.Lo ≤ t ∧ t ≤ q.2.Hi) ↔ (t = (hullF (passW w b)).Lo ∨ t = (hullF (passW w b)).Hi) := by
  have h := hull_some (l := passW w b) (fun q hq => pass_le hq) hn
  constructor
  · rintro ⟨q, hq, h1, h2⟩
    have := h.all q hq
    omega
  · rintro (e | e)
    · obtain ⟨x, hx, ex⟩ := h.lo
      have := h.all x hx
      have hx2 : x.2.Lo ≤ x.2.Hi := pass_le hx
      exact ⟨x, hx, by omega, by omega⟩
    · obtain ⟨x, hx, ex⟩ := h.hi
      have := h.all x hx
      have hx2 : x.2.Lo ≤ x.2.Hi := pass_le hx
      exact ⟨x, hx, by omega, by omega⟩
end
section
set_option linter.unusedVariables false
noncomputable def sigT (l : LineM) (s : SignalV) : SpanV := if (whenF l s).Lo ≤ (whenF l s).Hi then whenF l s else ⟨1, 0⟩
noncomputable def sigZ (l : LineM) (r : RideM) (d : Nat) (i : Int) : Option SpanV := if i < 0 then some ⟨r.Start, r.Now⟩ else (r.Signals[i.toNat]?).bind fun s => if s.Beam = (d : Int) then some ⟨max r.Start (sigT l s).Lo, min r.Now (sigT l s).Hi⟩ else none
noncomputable def canQ (l : LineM) (one at_ : Int) (d : Nat) (f : Int) (z : SpanV) : Option Int :=
  if (d : Int) = one then (if at_ < max (f + leastF l d) z.Lo ∨ z.Hi < at_ then none else some at_) else (if z.Hi < max (f + leastF l d) z.Lo then none else some (max (f + leastF l d) z.Lo))
noncomputable def canI (l : LineM) (r : RideM) (one at_ : Int) (d : Nat) (f g m : Int) (rec : Int → Int → Int → Bool) (i : Int) : Bool := match (sigZ l r d i).bind (canQ l one at_ d f) with
  | none => false
  | some t => if i < 0 then rec t g (m + 1) else rec t (g + 1) m
noncomputable def canF (l : LineM) (r : RideM) (one at_ : Int) : Nat → Nat → Int → Int → Int → Bool
  | 0, d, f, g, m => decide (m ≤ l.Misses ∧ (r.Signals.length : Int) - g ≤ l.Fakes)
  | k + 1, d, f, g, m => if l.Misses < m then false else (List.range (r.Signals.length + 1)).any fun j => canI l r one at_ d f g m (fun t g m => canF l r one at_ k (d + 1) t g m) ((j : Int) - 1)
theorem canF_zero {l : LineM} {r : RideM} {one at_ : Int} {d : Nat} {f g m : Int} : canF l r one at_ 0 d f g m = decide (m ≤ l.Misses ∧ (r.Signals.length : Int) - g ≤ l.Fakes) := rfl
theorem canF_miss {l : LineM} {r : RideM} {one at_ : Int} {k d : Nat} {f g m : Int} (h : l.Misses < m) : canF l r one at_ (k + 1) d f g m = false := by rw [canF, if_pos h]
theorem canF_yes {l : LineM} {r : RideM} {one at_ : Int} {k d j : Nat} {f g m : Int} (h : ¬ l.Misses < m) (hj : j < r.Signals.length + 1) (hi : canI l r one at_ d f g m (fun t g m => canF l r one at_ k (d + 1) t g m) ((j : Int) - 1) = true) : canF l r one at_ (k + 1) d f g m = true := by
  rw [canF, if_neg h, List.any_eq_true]; exact ⟨j, List.mem_range.2 hj, hi⟩
theorem canF_no {l : LineM} {r : RideM} {one at_ : Int} {k d j : Nat} {f g m : Int} (h : ¬ l.Misses < m) (hj : r.Signals.length + 1 ≤ j) (hi : ∀ q, q < j → canI l r one at_ d f g m (fun t g m => canF l r one at_ k (d + 1) t g m) ((q : Int) - 1) = false) : canF l r one at_ (k + 1) d f g m = false := by
  rw [canF, if_neg h, List.any_eq_false]
  intro q hq
  rw [hi q (by have := List.mem_range.1 hq; omega)]; simp
theorem can_upto {l : LineM} {r : RideM} {one at_ : Int} {d j : Nat} {f g m : Int} {rec : Int → Int → Int → Bool} (h : ∀ q, q < j → canI l r one at_ d f g m rec ((q : Int) - 1) = false) (hn : canI l r one at_ d f g m rec ((j : Int) - 1) = false) : ∀ q, q < j + 1 → canI l r one at_ d f g m rec ((q : Int) - 1) = false := fun q hq => by
  rcases Nat.lt_or_ge q j with e | e
  · exact h q e
  · obtain rfl : q = j := by omega
    exact hn
theorem canQ_pass {l : LineM} {one at_ : Int} {d : Nat} {f : Int} {z : SpanV} (h : (d : Int) = one) (h1 : ¬ at_ < max (f + leastF l d) z.Lo) (h2 : ¬ z.Hi < at_) : canQ l one at_ d f z = some at_ := by unfold canQ; rw [if_pos h, if_neg (by omega)]
theorem canQ_pass_no {l : LineM} {one at_ : Int} {d : Nat} {f : Int} {z : SpanV} (h : (d : Int) = one) (h1 : at_ < max (f + leastF l d) z.Lo ∨ z.Hi < at_) : canQ l one at_ d f z = none := by unfold canQ; rw [if_pos h, if_pos h1]
theorem canQ_go {l : LineM} {one at_ : Int} {d : Nat} {f : Int} {z : SpanV} (h : ¬ (d : Int) = one) (h1 : ¬ z.Hi < max (f + leastF l d) z.Lo) : canQ l one at_ d f z = some (max (f + leastF l d) z.Lo) := by unfold canQ; rw [if_neg h, if_neg h1]
theorem canQ_go_no {l : LineM} {one at_ : Int} {d : Nat} {f : Int} {z : SpanV} (h : ¬ (d : Int) = one) (h1 : z.Hi < max (f + leastF l d) z.Lo) : canQ l one at_ d f z = none := by unfold canQ; rw [if_neg h, if_pos h1]
theorem sigZ_neg {l : LineM} {r : RideM} {d : Nat} {i : Int} (h : i < 0) : sigZ l r d i = some ⟨r.Start, r.Now⟩ := if_pos h
theorem sigZ_pos {l : LineM} {r : RideM} {d : Nat} {i : Int} {s : SignalV} (h : 0 ≤ i) (hs : r.Signals[i.toNat]? = some s) (hb : s.Beam = (d : Int)) : sigZ l r d i = some ⟨max r.Start (sigT l s).Lo, min r.Now (sigT l s).Hi⟩ := by unfold sigZ; rw [if_neg (by omega), hs]; simp only [Option.bind_some]; rw [if_pos hb]
theorem sigZ_other {l : LineM} {r : RideM} {d : Nat} {i : Int} {s : SignalV} (h : 0 ≤ i) (hs : r.Signals[i.toNat]? = some s) (hb : ¬ s.Beam = (d : Int)) : sigZ l r d i = none := by unfold sigZ; rw [if_neg (by omega), hs]; simp only [Option.bind_some]; rw [if_neg hb]
section
variable {l : LineM} {r : RideM} {one at_ : Int} {d : Nat} {f g m : Int} {rec : Int → Int → Int → Bool} {i : Int}
theorem canI_none (h : sigZ l r d i = none) : canI l r one at_ d f g m rec i = false := by unfold canI; rw [h]; rfl
theorem canI_off {z : SpanV} (h : sigZ l r d i = some z) (h2 : canQ l one at_ d f z = none) : canI l r one at_ d f g m rec i = false := by unfold canI; rw [h, Option.bind_some, h2]
theorem canI_neg {z : SpanV} {t : Int} (h : sigZ l r d i = some z) (h2 : canQ l one at_ d f z = some t) (hi : i < 0) : canI l r one at_ d f g m rec i = rec t g (m + 1) := by unfold canI; rw [h, Option.bind_some, h2]; simp only; rw [if_pos hi]
theorem canI_pos {z : SpanV} {t : Int} (h : sigZ l r d i = some z) (h2 : canQ l one at_ d f z = some t) (hi : ¬ i < 0) : canI l r one at_ d f g m rec i = rec t (g + 1) m := by unfold canI; rw [h, Option.bind_some, h2]; simp only; rw [if_neg hi]
end
theorem sigT_ok {l : LineM} {s : SignalV} (h : (whenF l s).Lo ≤ (whenF l s).Hi) : sigT l s = whenF l s := if_pos h
theorem sigT_no {l : LineM} {s : SignalV} (h : ¬ (whenF l s).Lo ≤ (whenF l s).Hi) : sigT l s = ⟨1, 0⟩ := if_neg h
theorem opts_L {l : LineM} {r : RideM} {d : Nat} (hd : d < l.Beams.length) {o : Int × SpanV} : o ∈ opts (watchL l r) d ↔ o = (-1, ⟨r.Start, r.Now⟩) ∨ ∃ k, k < r.Signals.length ∧ ∃ s, r.Signals[k]? = some s ∧ (s.Beam = (d : Int) ∧ (whenF l s).Lo ≤ (whenF l s).Hi) ∧ o = ((k : Int), whenF l s) := by
  unfold opts timesAt
  show o ∈ (-1, (⟨r.Start, r.Now⟩ : SpanV)) :: ((timesT l r.Signals r.Signals.length)[d]?).getD [] ↔ _
  rw [timesT_at hd, Option.getD_some, List.mem_cons, mem_timesB]
/-- one try is one step of the watch -/
def clipZ (r : RideM) (z : SpanV) : SpanV := ⟨max r.Start z.Lo, min r.Now z.Hi⟩
theorem can_opt {l : LineM} {r : RideM} {one at_ : Int} {d : Nat} (hd : d < l.Beams.length) {f g m : Int} {rec : Int → Int → Int → Bool} : ((List.range (r.Signals.length + 1)).any fun j => canI l r one at_ d f g m rec ((j : Int) - 1)) = true ↔ ∃ o ∈ opts (watchL l r) d, ∃ t, canQ l one at_ d f (clipZ r o.2) = some t ∧ rec t (g + (oneT o.1).right) (m + (oneT o.1).missed) = true := by
  rw [List.any_eq_true]
  constructor
  · rintro ⟨j, hj, h⟩
    have hj := List.mem_range.1 hj
    cases hz : sigZ l r d ((j : Int) - 1) with
    | none => rw [canI_none hz] at h; cases h
    | some z =>
      cases hq : canQ l one at_ d f z with
      | none => rw [canI_off hz hq] at h; cases h
      | some t =>
        by_cases hi : (j : Int) - 1 < 0
        · rw [canI_neg hz hq hi] at h
          rw [sigZ_neg hi] at hz
          cases hz
          refine ⟨(-1, ⟨r.Start, r.Now⟩), (opts_L hd).2 (.inl rfl), t, ?_, by simpa [oneT] using h⟩
          unfold clipZ
          simp only
          rw [Int.max_self, Int.min_self]; exact hq
        · rw [canI_pos hz hq hi] at h
          obtain ⟨s, hs⟩ : ∃ s, r.Signals[((j : Int) - 1).toNat]? = some s := ⟨r.Signals[((j : Int) - 1).toNat]'(by omega), List.getElem?_eq_getElem _⟩
          by_cases hb : s.Beam = (d : Int)
          · rw [sigZ_pos (by omega) hs hb] at hz
            cases hz
            by_cases hw : (whenF l s).Lo ≤ (whenF l s).Hi
            · rw [sigT_ok hw] at hq
              refine ⟨((((j : Int) - 1).toNat : Int), whenF l s), (opts_L hd).2 (.inr ⟨_, by omega, s, hs, ⟨hb, hw⟩, rfl⟩), t, hq, ?_⟩
              have : oneT ((((j : Int) - 1).toNat : Nat) : Int) = ⟨1, 0⟩ := by unfold oneT; rw [if_neg (by omega)]
              rw [this]; simpa using h
            · rw [sigT_no hw] at hq
              exfalso
              unfold canQ at hq
              simp only at hq
              split at hq <;> split at hq <;> first | (cases hq; done) | omega
          · rw [sigZ_other (by omega) hs hb] at hz; cases hz
  · rintro ⟨o, ho, t, hq, h⟩
    rcases (opts_L hd).1 ho with rfl | ⟨k, hk, s, hs, ⟨hb, hw⟩, rfl⟩
    · refine ⟨0, List.mem_range.2 (by omega), ?_⟩
      have hz : sigZ l r d (((0 : Nat) : Int) - 1) = some ⟨r.Start, r.Now⟩ := sigZ_neg (by omega)
      unfold clipZ at hq
      simp only at hq
      rw [Int.max_self, Int.min_self] at hq
      rw [canI_neg hz hq (by omega)]
      simpa [oneT] using h
    · refine ⟨k + 1, List.mem_range.2 (by omega), ?_⟩
      have hz : sigZ l r d (((k + 1 : Nat) : Int) - 1) = some ⟨max r.Start (sigT l s).Lo, min r.Now (sigT l s).Hi⟩ := sigZ_pos (by omega) (by rw [show (((k + 1 : Nat) : Int) - 1).toNat = k by omega]; exact hs) hb
      rw [sigT_ok hw] at hz
      rw [canI_pos hz hq (by omega)]
      have : oneT ((k : Nat) : Int) = ⟨1, 0⟩ := by unfold oneT; rw [if_neg (by omega)]
      simp only [this] at h
      simpa using h
theorem leastAt_in {l : LineM} {r : RideM} {d : Nat} (hd : d < l.Beams.length) : leastAt (watchL l r) d = leastF l d := by rw [leastAt_L, if_pos hd]
theorem canQ_step {l : LineM} {r : RideM} {one at_ : Int} {d : Nat} (hd : d < l.Beams.length) (h1 : ¬ (d : Int) = one) (hl : 0 ≤ leastF l d) {f t g m : Int} (hf : r.Start ≤ f) {o : Int × SpanV} : canQ l one at_ d f (clipZ r o.2) = some t ↔ fwdO (watchL l r) d (⟨g, m⟩, f) o = some (⟨g + (oneT o.1).right, m + (oneT o.1).missed⟩, t) := by
  rw [fwdO_some, leastAt_in hd]
  show _ ↔ max (f + leastF l d) o.2.Lo ≤ min o.2.Hi r.Now ∧ _
  have e : max (f + leastF l d) (clipZ r o.2).Lo = max (f + leastF l d) o.2.Lo := by unfold clipZ; simp only; omega
  unfold canQ
  rw [if_neg h1, e]
  constructor
  · intro h
    split at h
    · cases h
    · rename_i hn
      cases h
      unfold clipZ at hn
      simp only at hn
      exact ⟨by omega, rfl⟩
  · rintro ⟨h, e2⟩
    simp only [Prod.mk.injEq] at e2
    rw [if_neg (by unfold clipZ; simp only; omega), e2.2]
theorem reach_missed {w : WatchM} : ∀ (k b : Nat) (p q : TallyV × Int), q ∈ reachW w k b p → p.1.missed ≤ q.1.missed := by
  intro k
  induction k with
  | zero => intro b p q h; simp only [reachW, List.mem_singleton] at h; subst h; exact Int.le_refl _
  | succ k ih =>
    intro b p q h
    obtain ⟨o, _, p', e, h'⟩ := mem_reach.1 h
    obtain ⟨_, rfl⟩ := fwdO_some.1 e
    have h1 := ih _ _ _ h'
    have h2 : 0 ≤ (oneT o.1).missed := by unfold oneT; split <;> simp
    simp only [addT] at h1
    omega
/-- without a time that is asked for, or behind it -/
theorem can_reach {l : LineM} {r : RideM} {one at_ : Int} (hl : ∀ d, d < l.Beams.length → 1 ≤ leastF l d) : ∀ (k d : Nat) (f g m : Int), one < (d : Int) → d + k ≤ l.Beams.length → r.Start ≤ f → (canF l r one at_ k d f g m = true ↔ ∃ q ∈ reachW (watchL l r) k d (⟨g, m⟩, f), mayT (watchL l r) q.1 = true) := by
  intro k
  induction k with
  | zero =>
    intro d f g m _ _ _
    rw [canF_zero, decide_eq_true_eq]
    simp only [reachW, List.mem_singleton, exists_eq_left]
    unfold mayT
    rw [decide_eq_true_eq]; rfl
  | succ k ih =>
    intro d f g m ho hd hf
    have hdl : d < l.Beams.length := by omega
    have h1 := hl d hdl
    by_cases hm : l.Misses < m
    · rw [canF_miss hm]
      constructor
      · intro h; cases h
      · rintro ⟨q, hq, h⟩
        have h2 := reach_missed _ _ _ _ hq
        unfold mayT at h
        have h3 := (of_decide_eq_true h).1
        change q.1.missed ≤ l.Misses at h3
        simp only at h2
        omega
    · rw [canF, if_neg hm, can_opt hdl]
      constructor
      · rintro ⟨o, ho', t, hq, h⟩
        have e := (canQ_step (g := g) (m := m) hdl (by omega) (by omega) hf).1 hq
        have ht := fwdO_some.1 e
        simp only [Prod.mk.injEq] at ht
        rw [leastAt_in hdl] at ht
        obtain ⟨q, hq', h'⟩ := (ih (d + 1) t _ _ (by omega) (by omega) (by omega)).1 h
        exact ⟨q, mem_reach.2 ⟨o, ho', _, e, hq'⟩, h'⟩
      · rintro ⟨q, hq, h⟩
        obtain ⟨o, ho', p', e, hq'⟩ := mem_reach.1 hq
        obtain ⟨ht, rfl⟩ := fwdO_some.1 e
        simp only at ht hq' e
        rw [leastAt_in hdl] at ht hq' e
        refine ⟨o, ho', max (f + leastF l d) o.2.Lo, (canQ_step (g := g) (m := m) hdl (by omega) (by omega) hf).2 ?_, (ih (d + 1) _ _ _ (by omega) (by omega) (by omega)).2 ⟨q, hq', h⟩⟩
        rw [e]; rfl
/-- with a time that is asked for -/
theorem can_at {l : LineM} {r : RideM} {b : Nat} {at_ : Int} (hl : ∀ d, d < l.Beams.length → 1 ≤ leastF l d) : ∀ (e d k : Nat) (f g m : Int), d + e = b → b + 1 + k ≤ l.Beams.length → r.Start ≤ f → (canF l r (b : Int) at_ (e + 1 + k) d f g m = true ↔
    ∃ p ∈ reachW (watchL l r) e d (⟨g, m⟩, f), ∃ o ∈ opts (watchL l r) b, (max (p.2 + leastAt (watchL l r) b) o.2.Lo ≤ at_ ∧ at_ ≤ min o.2.Hi r.Now) ∧ ∃ q ∈ reachW (watchL l r) k (b + 1) (addT p.1 (oneT o.1), at_), mayT (watchL l r) q.1 = true) := by
  intro e
  induction e with
  | zero =>
    intro d k f g m hd hb hf
    obtain rfl : d = b := by omega
    have hdl : d < l.Beams.length := by omega
    have h1 := hl d hdl
    rw [show 0 + 1 + k = k + 1 by omega]
    simp only [reachW, List.mem_singleton, exists_eq_left]
    rw [leastAt_in hdl]
    by_cases hm : l.Misses < m
    · rw [canF_miss hm]
      constructor
      · intro h; cases h
      · rintro ⟨o, _, _, q, hq, h⟩
        have h2 := reach_missed _ _ _ _ hq
        have h4 : 0 ≤ (oneT o.1).missed := by unfold oneT; split <;> simp
        unfold mayT at h
        have h3 := (of_decide_eq_true h).1
        change q.1.missed ≤ l.Misses at h3
        simp only [addT] at h2
        omega
    · rw [canF, if_neg hm, can_opt hdl]
      constructor
      · rintro ⟨o, ho, t, hq, h⟩
        unfold canQ at hq
        rw [if_pos rfl] at hq
        split at hq
        · cases hq
        · rename_i hn
          cases hq
          unfold clipZ at hn
          simp only at hn
          obtain ⟨q, hq', h'⟩ := (can_reach hl k (d + 1) _ _ _ (by omega) (by omega) (by omega)).1 h
          exact ⟨o, ho, ⟨by omega, by omega⟩, q, hq', h'⟩
      · rintro ⟨o, ho, ⟨h2, h3⟩, q, hq, h⟩
        refine ⟨o, ho, at_, ?_, (can_reach hl k (d + 1) _ _ _ (by omega) (by omega) (by omega)).2 ⟨q, hq, h⟩⟩
        unfold canQ
        rw [if_pos rfl, if_neg (by unfold clipZ; simp only; omega)]
  | succ e ih =>
    intro d k f g m hd hb hf
    have hdl : d < l.Beams.length := by omega
    have h1 := hl d hdl
    rw [show e + 1 + 1 + k = (e + 1 + k) + 1 by omega]
    by_cases hm : l.Misses < m
    · rw [canF_miss hm]
      constructor
      · intro h; cases h
      · rintro ⟨p, hp, o, _, _, q, hq, h⟩
        have h0 := reach_missed _ _ _ _ hp
        have h2 := reach_missed _ _ _ _ hq
        have h4 : 0 ≤ (oneT o.1).missed := by unfold oneT; split <;> simp
        unfold mayT at h
        have h3 := (of_decide_eq_true h).1
        change q.1.missed ≤ l.Misses at h3
        simp only [addT] at h2 h0
        omega
    · rw [canF, if_neg hm, can_opt hdl]
      constructor
      · rintro ⟨o, ho, t, hq, h⟩
        have e1 := (canQ_step (g := g) (m := m) hdl (by omega) (by omega) hf).1 hq
        have ht := fwdO_some.1 e1
        simp only [Prod.mk.injEq] at ht
        rw [leastAt_in hdl] at ht
        obtain ⟨p, hp, h'⟩ := (ih (d + 1) k t _ _ (by omega) hb (by omega)).1 h
        exact ⟨p, mem_reach.2 ⟨o, ho, _, e1, hp⟩, h'⟩
      · rintro ⟨p, hp, h⟩
        obtain ⟨o, ho, p', e1, hp'⟩ := mem_reach.1 hp
        obtain ⟨ht, rfl⟩ := fwdO_some.1 e1
        simp only at ht hp' e1
        rw [leastAt_in hdl] at ht hp' e1
        refine ⟨o, ho, max (f + leastF l d) o.2.Lo, (canQ_step (g := g) (m := m) hdl (by omega) (by omega) hf).2 ?_, (ih (d + 1) k _ _ _ (by omega) hb (by omega)).2 ⟨p, hp', h⟩⟩
        rw [e1]; rfl
theorem can_told {l : LineM} {r : RideM} (hl : ∀ d, d < l.Beams.length → 1 ≤ leastF l d) {k : Nat} (hk : k ≤ l.Beams.length) {at_ : Int} : canF l r (-1) at_ k 0 r.Start 0 0 = mayAny (watchL l r) (fwd (watchL l r) k) := by
  rw [Bool.eq_iff_iff, can_reach hl k 0 _ _ _ (by omega) (by omega) (Int.le_refl _)]
  unfold mayAny
  rw [List.any_eq_true]
  have h := reach_fwd (w := watchL l r) k 0
  constructor
  · rintro ⟨q, hq, hm⟩
    refine ⟨q, ?_, hm⟩
    have := (h q).2 ⟨_, by simp [fwd]; rfl, hq⟩
    simpa using this
  · rintro ⟨q, hq, hm⟩
    obtain ⟨p, hp, h'⟩ := (h q).1 (by simpa using hq)
    simp only [fwd, List.mem_singleton] at hp
    subst hp
    exact ⟨q, h', hm⟩
theorem least_pos {l : LineM} {r : RideM} (hw : WOk (watchL l r)) : ∀ b, 0 ≤ leastAt (watchL l r) b := fun b => (hw.leastAt b).1
theorem can_pass {l : LineM} {r : RideM} (hw : WOk (watchL l r)) (hl : ∀ d, d < l.Beams.length → 1 ≤ leastF l d) {b : Nat} (hb : b < l.Beams.length) {t : Int} : (∃ k, b + 1 ≤ k ∧ k ≤ l.Beams.length ∧ canF l r (b : Int) t k 0 r.Start 0 0 = true) ↔ ∃ q ∈ passW (watchL l r) b, q.2.Lo ≤ t ∧ t ≤ q.2.Hi := by
  have hn : (watchL l r).n = l.Beams.length := leasts_len
  rw [pass_at (least_pos hw) (by omega)]
  have h := reach_fwd (w := watchL l r) b 0
  constructor
  · rintro ⟨k, h1, h2, hc⟩
    obtain ⟨j, rfl⟩ : ∃ j, k = b + 1 + j := ⟨k - (b + 1), by omega⟩
    obtain ⟨p, hp, o, ho, ht, q, hq, hm⟩ := (can_at hl b 0 j _ _ _ (by omega) h2 (Int.le_refl _)).1 hc
    exact ⟨p, by have := (h p).2 ⟨_, by simp [fwd]; rfl, hp⟩; simpa using this, o, ho, ht, j, by omega, q, hq, hm⟩
  · rintro ⟨p, hp, o, ho, ht, j, hj, q, hq, hm⟩
    obtain ⟨p0, hp0, h'⟩ := (h p).1 (by simpa using hp)
    simp only [fwd, List.mem_singleton] at hp0
    subst hp0
    exact ⟨b + 1 + j, by omega, by omega, (can_at hl b 0 j _ _ _ (by omega) (by omega) (Int.le_refl _)).2 ⟨p, h', o, ho, ht, q, hq, hm⟩⟩
/-- a beam has times just if more beams may have been passed -/
theorem pass_most {w : WatchM} (hl : ∀ b, 0 ≤ leastAt w b) {b : Nat} (hb : b < w.n) : (∃ q, q ∈ passW w b) ↔ ∃ k, b < k ∧ k ≤ w.n ∧ mayAny w (fwd w k) = true := by
  constructor
  · rintro ⟨q, hq⟩
    obtain ⟨o, ho, p, hp, u, hu, e⟩ := mem_passM.1 hq
    obtain ⟨h3, h4, rfl⟩ := passO_some.1 e
    simp only [passX] at h3
    have hn : u.2 ≤ w.Now := back_le hl _ _ hu
    obtain ⟨k, hk, q, hq', h5⟩ := back_out hl (w.n - (b + 1)) (b + 1) (addT p.1 (oneT o.1), max (p.2 + leastAt w b) o.2.Lo) u (by omega) (by simp only; omega) hu
    refine ⟨b + 1 + k, by omega, hk, ?_⟩
    unfold mayAny
    rw [List.any_eq_true]
    refine ⟨q, (reach_fwd k (b + 1) q).2 ⟨_, mem_fwd_succ.2 ⟨p, hp, o, ho, fwdO_some.2 ⟨by omega, rfl⟩⟩, hq'⟩, ?_⟩
    rw [h5]
    unfold passT at h4
    rw [show addT (addT p.1 (oneT o.1)) u.1 = addT (addT p.1 u.1) (oneT o.1) by simp only [addT, TallyV.mk.injEq]; omega]
    exact h4
  · rintro ⟨k, h1, h2, hm⟩
    obtain ⟨j, rfl⟩ : ∃ j, k = b + 1 + j := ⟨k - (b + 1), by omega⟩
    unfold mayAny at hm
    rw [List.any_eq_true] at hm
    obtain ⟨q, hq, hm⟩ := hm
    obtain ⟨p', hp', hr⟩ := (reach_fwd j (b + 1) q).1 hq
    obtain ⟨p, hp, o, ho, e⟩ := mem_fwd_succ.1 hp'
    obtain ⟨h3, rfl⟩ := fwdO_some.1 e
    obtain ⟨x, hx, _⟩ := (pass_at hl hb (t := max (p.2 + leastAt w b) o.2.Lo)).2 ⟨p, hp, o, ho, ⟨Int.le_refl _, h3⟩, j, h2, q, hr, hm⟩
    exact ⟨x, hx⟩
theorem passed_most {l : LineM} {r : RideM} (he : openE l r 0 = 0) {b : Nat} (hb : b < l.Beams.length) : (passedE l r b = 0 ∨ passedE l r b = 6) ∧ (passedE l r b = 0 ↔ (b : Int) < maxL (whereV l r)) ∧ (passedE l r b = 0 → passedV l r b = hullF (passW (watchL l r) b) ∧ hullF (passW (watchL l r) b) ≠ noneZ) := by
  obtain ⟨h1, h2, _, h4⟩ := openE_zero he
  obtain ⟨ht, hok⟩ := lineE_zero h1
  have hw := watch_ok ht hok h2
  have hn : (watchL l r).n = l.Beams.length := leasts_len
  have hbe := open_beam (r := r) hb
  have hmost : (∃ q, q ∈ passW (watchL l r) b) ↔ (b : Int) < maxL (whereV l r) := by
    rw [pass_most (least_pos hw) (by omega)]
    have hm := max_mem (whereV_ne he)
    rw [whereV_ok he] at hm ⊢
    constructor
    · rintro ⟨k, h5, h6, h7⟩
      have := hm.2 (k : Int) (mem_nums.2 ⟨k, rfl, h6, h7⟩)
      omega
    · intro h
      obtain ⟨k, e, h6, h7⟩ := mem_nums.1 hm.1
      exact ⟨k, by omega, h6, h7⟩
  by_cases e : hullW l r b = noneZ
  · have h5 := passed_none (l := l) (r := r) (b := b) (by rw [hbe, he]) e
    refine ⟨.inr h5.1, ?_, fun h => by rw [h5.1] at h; omega⟩
    rw [← hmost, h5.1]
    constructor
    · intro h; omega
    · rintro ⟨q, hq⟩
      exact absurd e (hull_ne (fun q hq => pass_le hq) hq).ne
  · have h5 := passed_some (l := l) (r := r) (b := b) (by rw [hbe, he]) e
    refine ⟨.inl h5.1, ?_, fun _ => ⟨h5.2, e⟩⟩
    rw [← hmost, h5.1]
    refine ⟨fun _ => ?_, fun _ => rfl⟩
    obtain ⟨x, hx, _⟩ := (hull_some (fun q hq => pass_le hq) e).lo
    exact ⟨x, hx⟩
theorem nums_sorted {w : WatchM} {k : Nat} : (numsTo w k).Pairwise (· < ·) := by
  unfold numsTo
  rw [List.pairwise_map]
  exact List.Pairwise.imp (fun h => by omega) (List.Pairwise.filter _ List.pairwise_lt_range)
theorem nums_prefix {w : WatchM} : ∀ (d k : Nat), ∃ t, numsTo w (k + d) = numsTo w k ++ t ∧ ∀ x ∈ t, (k : Int) ≤ x
  | 0, k => ⟨[], by simp, fun x hx => by cases hx⟩
  | d + 1, k => by
    obtain ⟨t, h1, h2⟩ := nums_prefix (w := w) d k
    cases hm : mayAny w (fwd w (k + d)) with
    | true => exact ⟨t ++ [((k + d : Nat) : Int)], by rw [← Nat.add_assoc, numsTo_yes hm, h1, List.append_assoc], fun x hx => by
        rcases List.mem_append.1 hx with hx | hx
        · exact h2 x hx
        · rw [List.mem_singleton.1 hx]; omega⟩
    | false => exact ⟨t, by rw [← Nat.add_assoc, numsTo_no hm, h1], h2⟩
theorem told_yes {w : WatchM} {k : Nat} (hk : k ≤ w.n) (h : mayAny w (fwd w k) = true) : (numsF w)[(numsTo w k).length]? = some (k : Int) ∧ (numsTo w (k + 1)).length = (numsTo w k).length + 1 := by
  obtain ⟨t, e, _⟩ := nums_prefix (w := w) (w.n - k) (k + 1)
  unfold numsF
  rw [show w.n + 1 = k + 1 + (w.n - k) by omega, e, numsTo_yes h]
  simp
theorem told_no {w : WatchM} {k : Nat} (hk : k ≤ w.n) (h : mayAny w (fwd w k) = false) : (∀ x, (numsF w)[(numsTo w k).length]? = some x → x ≠ (k : Int)) ∧ (numsTo w (k + 1)).length = (numsTo w k).length := by
  obtain ⟨t, e, h2⟩ := nums_prefix (w := w) (w.n - k) (k + 1)
  unfold numsF
  rw [show w.n + 1 = k + 1 + (w.n - k) by omega, e, numsTo_no h]
  refine ⟨fun x hx => ?_, rfl⟩
  rw [List.getElem?_append_right (Nat.le_refl _)] at hx
  have := h2 x (List.mem_of_getElem? hx)
  omega
theorem nums_len {w : WatchM} {k : Nat} (hk : k ≤ w.n + 1) : (numsTo w k).length ≤ (numsF w).length := by
  obtain ⟨t, e, _⟩ := nums_prefix (w := w) (w.n + 1 - k) k
  unfold numsF
  rw [show w.n + 1 = k + (w.n + 1 - k) by omega, e, List.length_append]; omega
theorem sorted_ends {l : List Int} (h : l.Pairwise (· < ·)) (hn : l ≠ []) : l[0]? = some (minL l) ∧ l[l.length - 1]? = some (maxL l) := by
  have h1 := min_mem hn
  have h2 := max_mem hn
  have hp : 0 < l.length := List.length_pos_iff.2 hn
  obtain ⟨i, hi⟩ := List.getElem?_of_mem h1.1
  obtain ⟨k, hk⟩ := List.getElem?_of_mem h2.1
  have hi' := List.getElem?_eq_some_iff.1 hi
  have hk' := List.getElem?_eq_some_iff.1 hk
  obtain ⟨hi1, hi2⟩ := hi'
  obtain ⟨hk1, hk2⟩ := hk'
  constructor
  · rcases Nat.eq_zero_or_pos i with e | e
    · subst e; exact hi
    · have h3 := List.pairwise_iff_getElem.1 h 0 i hp hi1 e
      have h4 := h1.2 _ (List.getElem_mem hp)
      omega
  · rcases Nat.lt_or_ge k (l.length - 1) with e | e
    · have h3 := List.pairwise_iff_getElem.1 h k (l.length - 1) hk1 (by omega) e
      have h4 := h2.2 _ (List.getElem_mem (show l.length - 1 < l.length by omega))
      omega
    · rw [show l.length - 1 = k by omega]; exact hk
theorem where_ends {l : LineM} {r : RideM} (he : openE l r 0 = 0) : (whereV l r)[0]? = some (minL (whereV l r)) ∧ (whereV l r)[(whereV l r).length - 1]? = some (maxL (whereV l r)) := by
  refine sorted_ends ?_ (whereV_ne he)
  rw [whereV_ok he]; exact nums_sorted
noncomputable def sigsL (l : LineM) (r : RideM) (i : Nat) : List SpanV := (r.Signals.take i).map (sigT l)
theorem sigsL_succ {l : LineM} {r : RideM} {i : Nat} {s : SignalV} (h : r.Signals[i]? = some s) : sigsL l r (i + 1) = sigsL l r i ++ [sigT l s] := by unfold sigsL; rw [List.take_add_one, h, List.map_append]; rfl
theorem sigsL_len {l : LineM} {r : RideM} {i : Nat} (h : i ≤ r.Signals.length) : (sigsL l r i).length = i := by unfold sigsL; rw [List.length_map, List.length_take]; omega
theorem sigsL_at {l : LineM} {r : RideM} {k : Nat} {s : SignalV} {z : SpanV} (hs : r.Signals[k]? = some s) (hz : (sigsL l r r.Signals.length)[k]? = some z) : z = sigT l s := by
  unfold sigsL at hz
  rw [List.take_length, List.getElem?_map, hs] at hz
  exact (Option.some.inj hz).symm
theorem leasts_at {l : LineM} {n d : Nat} {y : Int} (h : (leasts l n)[d]? = some y) : y = leastF l d := by
  unfold leasts at h
  rw [List.getElem?_map] at h
  have hd : d < n := by
    rcases Nat.lt_or_ge d n with q | q
    · exact q
    · rw [List.getElem?_eq_none (by simpa using q)] at h; cases h
  rw [List.getElem?_range hd] at h
  exact (Option.some.inj h).symm
theorem sigT_when {l : LineM} {s : SignalV} (hl : lineE l = 0) (hs : SigIn l s) : (whenE l s = 0 → sigT l s = whenV l s) ∧ (¬ whenE l s = 0 → sigT l s = ⟨1, 0⟩) := by
  by_cases h3 : (whenF l s).Hi < (whenF l s).Lo
  · have e2 := when_none hl hs h3
    exact ⟨fun h => by rw [e2.1] at h; omega, fun _ => sigT_no (by omega)⟩
  · have e2 := when_in hl hs h3
    exact ⟨fun _ => by rw [e2.2]; exact sigT_ok (by omega), fun h => absurd e2.1 h⟩
theorem sigT_b (l : LineM) (s : SignalV) : (0 ≤ (sigT l s).Lo ∧ (sigT l s).Lo ≤ 86400001) ∧ (-1 ≤ (sigT l s).Hi ∧ (sigT l s).Hi ≤ 86400000) := by
  unfold sigT
  split
  · rename_i h
    have := whenF_b l s
    omega
  · simp
theorem told_true {w : WatchM} {k : Nat} {q : Int} (hk : k ≤ w.n) (hq : (numsF w)[(numsTo w k).length]? = some q) (e : q = (k : Int)) : mayAny w (fwd w k) = true := by
  cases h : mayAny w (fwd w k) with
  | true => rfl
  | false => exact absurd e ((told_no hk h).1 q hq)
theorem told_false {w : WatchM} {k : Nat} (hk : k ≤ w.n) (hq : ∀ q, (numsF w)[(numsTo w k).length]? = some q → ¬ q = (k : Int)) : mayAny w (fwd w k) = false := by
  cases h : mayAny w (fwd w k) with
  | false => rfl
  | true => exact absurd rfl (hq _ (told_yes hk h).1)
theorem told_len {w : WatchM} {k : Nat} {b : Bool} (hk : k ≤ w.n) (h : mayAny w (fwd w k) = b) : (numsTo w (k + 1)).length = (numsTo w k).length + (if b = true then 1 else 0) := by
  cases b with
  | true => exact (told_yes hk h).2
  | false => exact (told_no hk h).2
theorem clear_is {l : LineM} {r : RideM} (he : openE l r 0 = 0) : (l.Finish < minL (whereV l r) → clearV l r = 2) ∧ (¬ l.Finish < minL (whereV l r) → maxL (whereV l r) ≤ l.Finish → clearV l r = 0) ∧ (¬ l.Finish < minL (whereV l r) → ¬ maxL (whereV l r) ≤ l.Finish → clearV l r = 1) := by
  unfold clearV
  rw [if_pos he]
  exact ⟨fun h => if_pos h, fun h h2 => by rw [if_neg h, if_pos h2], fun h h2 => by rw [if_neg h, if_neg h2]⟩
theorem ex_yes {C : Nat → Bool} {ib : Bool} {a j : Nat} (h : ib = true ↔ ∃ k, a ≤ k ∧ k < a + j ∧ C k = true) (hb : ib = true) : true = true ↔ ∃ k, a ≤ k ∧ k < a + (j + 1) ∧ C k = true := ⟨fun _ => by
  obtain ⟨k, h1, h2, h3⟩ := h.1 hb
  exact ⟨k, h1, by omega, h3⟩, fun _ => rfl⟩
theorem ex_no {C : Nat → Bool} {ib : Bool} {a j : Nat} (h : ib = true ↔ ∃ k, a ≤ k ∧ k < a + j ∧ C k = true) (hb : ib = false) : C (a + j) = true ↔ ∃ k, a ≤ k ∧ k < a + (j + 1) ∧ C k = true := by
  constructor
  · intro hc; exact ⟨a + j, by omega, by omega, hc⟩
  · rintro ⟨k, h1, h2, h3⟩
    by_cases e : k < a + j
    · have := h.2 ⟨k, h1, e, h3⟩
      rw [hb] at this; cases this
    · obtain rfl : k = a + j := by omega
      exact h3
theorem ends_ib {l : LineM} {r : RideM} (he : openE l r 0 = 0) {b j : Nat} (hb : b < l.Beams.length) (hp : passedE l r b = 0) {t : Int} {ib : Bool} (hj : l.Beams.length + 1 ≤ b + 1 + j) (hj2 : b + 1 + j ≤ l.Beams.length + 1) (h : ib = true ↔ ∃ k, b + 1 ≤ k ∧ k < b + 1 + j ∧ canF l r (b : Int) t k 0 r.Start 0 0 = true)
    (ht : t = (passedV l r b).Lo - 1 ∨ t = (passedV l r b).Lo ∨ t = (passedV l r b).Hi ∨ t = (passedV l r b).Hi + 1) : ib = true ↔ (t = (passedV l r b).Lo ∨ t = (passedV l r b).Hi) := by
  obtain ⟨h1, h2, _, _⟩ := openE_zero he
  obtain ⟨htr, hok⟩ := lineE_zero h1
  obtain ⟨_, _, hm⟩ := passed_most he hb
  obtain ⟨e, hn⟩ := hm hp
  rw [e] at ht ⊢
  rw [h, ← hull_ends hn ht, ← can_pass (watch_ok htr hok h2) (fun d hd => (leastF_b htr hok hd).1) hb]
  exact ⟨fun ⟨k, a1, a2, a3⟩ => ⟨k, a1, by omega, a3⟩, fun ⟨k, a1, a2, a3⟩ => ⟨k, a1, by omega, a3⟩⟩
theorem clash_yes {ib : Bool} {R : Prop} (h : ib = true ↔ R) (hr : R) (e : (ib == true) = false) : False := by
  rw [h.2 hr] at e; cases e
theorem clash_no {ib : Bool} {P R : Prop} [Decidable R] (h : ib = true ↔ (P ∨ R)) (hp : ¬ P) (e : (ib == decide R) = false) : False := by
  by_cases hr : R
  · rw [h.2 (.inr hr), decide_eq_true hr] at e; cases e
  · have : ib = false := by
      cases q : ib with
      | false => rfl
      | true => rcases h.1 q with u | u
                · exact absurd u hp
                · exact absurd u hr
    rw [this, decide_eq_false hr] at e; cases e
theorem can_skip {l : LineM} {r : RideM} {one at_ : Int} {d : Nat} {f g m : Int} {rec : Int → Int → Int → Bool} {i : Int} {z : SpanV} (h : sigZ l r d i = some z) (h2 : (d : Int) = one ∧ (at_ < max (f + leastF l d) z.Lo ∨ z.Hi < at_) ∨ ¬ (d : Int) = one ∧ z.Hi < max (f + leastF l d) z.Lo) : canI l r one at_ d f g m rec i = false := by
  rcases h2 with ⟨a, b⟩ | ⟨a, b⟩
  · exact canI_off h (canQ_pass_no a b)
  · exact canI_off h (canQ_go_no a b)
theorem can_take {l : LineM} {r : RideM} {one at_ : Int} {d : Nat} {f g m : Int} {rec : Int → Int → Int → Bool} {i : Int} {z : SpanV} {t : Int} (h : sigZ l r d i = some z) (h2 : (d : Int) = one ∧ ¬ at_ < max (f + leastF l d) z.Lo ∧ ¬ z.Hi < at_ ∧ t = at_ ∨ ¬ (d : Int) = one ∧ ¬ z.Hi < max (f + leastF l d) z.Lo ∧ t = max (f + leastF l d) z.Lo) : canI l r one at_ d f g m rec i = if i < 0 then rec t g (m + 1) else rec t (g + 1) m := by
  have hq : canQ l one at_ d f z = some t := by
    rcases h2 with ⟨a, b, c, rfl⟩ | ⟨a, b, rfl⟩
    · exact canQ_pass a b c
    · exact canQ_go a b
  by_cases hi : i < 0
  · rw [canI_neg h hq hi, if_pos hi]
  · rw [canI_pos h hq hi, if_neg hi]
end
section
open Go.RowKit
set_option linter.unusedVariables false
theorem gk146 : GKey Try.prog 146 tallyU := gkey_of fl146 (fun x y w => eqI146 9998 x y w) (fun x y h => by cases x; cases y; simp [TallyV.cells] at h; simp [h]) (fun x => by simp [TallyV.cells, Instr.sameBits]) (fun x w => ⟨_, rfl, fun p hp => by
    simp only [List.mem_cons, List.not_mem_nil, or_false] at hp
    rcases hp with rfl | rfl
    · exact ⟨⟨_, part_one tk3 rfl w⟩, _, ut3⟩
    · exact ⟨⟨_, part_one tk3 rfl w⟩, _, ut3⟩⟩)
set_option maxRecDepth 100000 in
set_option maxHeartbeats 400000 in
theorem one_c (s : Int) :
    FnV Try.prog 99 [(Value.int .i64 s)] [] (Value.agg (TallyV.cells (oneT s)).toArray) := by
 refine fnV_of go99 Try.func99 rfl rfl fun w0 Q hQ hN => ?_
 try dsimp only
 refine WS fun _ hK1 => AL rfl tz146 fun b2 => RK hK1 <| w_seq fun _ hK3 => WS fun _ hK4 => rS (MV rfl) <| rS (BI rfl b_lss) <| RK hK4 ?_
 refine w_if rfl (fun h4 => ?_) (fun h4 => ?_)
 · replace h4 := DT h4
   refine WS fun _ hK5 => rS (SX (sd_build (xs := [(1, .const (Value.int .i64 1))]) (cs := (TallyV.cells (TallyV.mk 0 1))) rfl rfl (built_of tb146 rfl)) rfl rfl) <| SW0 rfl ts146 rfl <| RK hK5 <| w_ret ?_
   refine hQ _ _ _ (l_nil (vs := [(Value.agg (TallyV.cells (TallyV.mk 0 1)).toArray)]) ⟨⟨_, rfl, .inl ⟨_, _, tk146, at_blk (vs := (TallyV.cells (TallyV.mk 0 1))) 0 rfl rfl, rfl, rfl⟩⟩, trivial⟩ fun w hs => endV ?_ hs)
   show (Value.agg (TallyV.cells (TallyV.mk 0 1)).toArray) = (Value.agg (TallyV.cells (oneT s)).toArray)
   clear hs w hQ hN hK5 hK4 hK3 hK1
   unfold oneT; first | rw [if_pos h4] | rw [if_neg h4]
 replace h4 := DF h4
 refine WK hK3 <| WS fun _ hK6 => rS (SX (sd_build (xs := [(0, .const (Value.int .i64 1))]) (cs := (TallyV.cells (TallyV.mk 1 0))) rfl rfl (built_of tb146 rfl)) rfl rfl) <| SW0 rfl ts146 rfl <| RK hK6 <| w_ret ?_
 refine hQ _ _ _ (l_nil (vs := [(Value.agg (TallyV.cells (TallyV.mk 1 0)).toArray)]) ⟨⟨_, rfl, .inl ⟨_, _, tk146, at_blk (vs := (TallyV.cells (TallyV.mk 1 0))) 0 rfl rfl, rfl, rfl⟩⟩, trivial⟩ fun w hs => endV ?_ hs)
 show (Value.agg (TallyV.cells (TallyV.mk 1 0)).toArray) = (Value.agg (TallyV.cells (oneT s)).toArray)
 clear hs w hQ hN hK6 hK4 hK3 hK1
 unfold oneT; first | rw [if_pos h4] | rw [if_neg h4]
set_option maxRecDepth 100000 in
set_option maxHeartbeats 400000 in
theorem tplus_c (x : TallyV) (y : TallyV) (hx : (0 ≤ x.right ∧ x.right ≤ 1000) ∧ 0 ≤ x.missed ∧ x.missed ≤ 1000) (hy : (0 ≤ y.right ∧ y.right ≤ 1000) ∧ 0 ≤ y.missed ∧ y.missed ≤ 1000) :
    FnV Try.prog 98 [(Value.agg (TallyV.cells x).toArray), (Value.agg (TallyV.cells y).toArray)] [] (Value.agg (TallyV.cells (addT x y)).toArray) := by
 refine fnV_of go98 Try.func98 rfl rfl fun w0 Q hQ hN => ?_
 try dsimp only
 refine WS fun _ hK1 => BXA rfl fun b2 => BXA rfl fun b3 => AL rfl tz146 fun b4 => RK hK1 <| WS fun _ hK5 => rS (FA 0 rfl fo146_0 rfl) <| rS (L1 (Value.int .i64 x.right) 2 rfl tk3 rfl rfl) <| rS (FA 0 rfl fo146_0 rfl) <| rS (L1 (Value.int .i64 y.right) 1 rfl tk3 rfl rfl) ?_
 refine rS (BI rfl (b_add ⟨by omega, by omega⟩)) <| rS (FA 1 rfl fo146_1 rfl) <| rS (L1 (Value.int .i64 x.missed) 2 rfl tk3 rfl rfl) <| rS (FA 1 rfl fo146_1 rfl) <| rS (L1 (Value.int .i64 y.missed) 1 rfl tk3 rfl rfl) <| rS (BI rfl (b_add ⟨by omega, by omega⟩)) <| rS (SX (sd_build (xs := [(0, .tmp 9), (1, .tmp 14)]) (cs := (TallyV.cells (TallyV.mk (x.right + y.right) (x.missed + y.missed)))) rfl rfl (built_of tb146 rfl)) rfl rfl) <| SW0 rfl ts146 rfl <| RK hK5 <| w_ret ?_
 refine hQ _ _ _ (l_nil (vs := [(Value.agg (TallyV.cells (TallyV.mk (x.right + y.right) (x.missed + y.missed))).toArray)]) ⟨⟨_, rfl, .inl ⟨_, _, tk146, at_blk (vs := (TallyV.cells (TallyV.mk (x.right + y.right) (x.missed + y.missed)))) 0 rfl rfl, rfl, rfl⟩⟩, trivial⟩ fun w hs => endV ?_ hs)
 show (Value.agg (TallyV.cells (TallyV.mk (x.right + y.right) (x.missed + y.missed))).toArray) = (Value.agg (TallyV.cells (addT x y)).toArray)
 clear hs w hQ hN hK5 hK1
 rfl
set_option maxRecDepth 100000 in
set_option maxHeartbeats 400000 in
theorem may_c (ln : LineV) (ri : RideV) (e : List Int) (tms : List TM) (e_A : Option Addr) (e_C : Nat) (tb : List Nat) (t_A : Option Addr) (t_C : Nat) (fs : List FM) (bs : List FM) (fb : List Nat) (f_A : Option Addr) (f_C : Nat) (bb : List Nat) (b_A : Option Addr) (b_C : Nat) (gw : Nat) (x : TallyV) (hx : (0 ≤ x.right ∧ x.right ≤ 1000) ∧ 0 ≤ x.missed ∧ x.missed ≤ 1000) (hn : ri.Signals.n ≤ 1000) :
    FnV Try.prog 95 [(Value.pointer (some ⟨gw, 0, none⟩)), (Value.agg (TallyV.cells x).toArray)] [(rd e_A e.length 1 (e.map iC)), (rd t_A tms.length 1 (List.zipWith mapC tms tb)), (bun (nest tmR tms tb)), (rd f_A fs.length 1 (List.zipWith mapC fs fb)), (bun (nest fmR fs fb)), (rd b_A bs.length 1 (List.zipWith mapC bs bb)), (bun (nest fmR bs bb)), (blk gw 142 (WatchV.cells (WatchV.mk ln ri (Slc.mk e_A e.length e_C) (Slc.mk t_A tms.length t_C) (Slc.mk f_A fs.length f_C) (Slc.mk b_A bs.length b_C))))] (Value.bool (mayT (watchOf ln ri e tms) x)) := by
 refine fnV_of go95 Try.func95 rfl rfl fun w0 Q hQ hN => ?_
 try dsimp only
 refine WS fun _ hK1 => BXA rfl fun b2 => rS (AG rfl) <| RK hK1 <| w_seq fun _ hK3 => w_draw mixed 26 (by kernel_rfl) <| dS (FA 1 rfl fo146_1 rfl) <| dS (L1 (Value.int .i64 x.missed) 0 rfl tk3 rfl rfl) <| dS (MV rfl) <| dS (SX (sd_nil_p rfl rfl) rfl rfl) ?_
 refine dS (FA 0 rfl fo142_0 rfl) <| dS (FA 6 rfl fo28_6 rfl) <| dS (L1R (Value.int .i64 ln.Misses) 8 rfl tk3 rfl rfl) <| dS (BI rfl b_leq) <| dS (MV rfl) ?_
 refine d_bool (t := 13) rfl (fun h13 => ?_) (fun h13 => ?_)
 rotate_left 1
 · replace h13 := DF h13
   refine dS (OX rfl) <| dS (OX rfl) <| dS (OX rfl) <| dS (OX rfl) <| dS (OX rfl) <| dS (OX rfl) <| dS (OX rfl) <| dS (OX rfl) <| dS (OX rfl) <| dS (OX rfl) ?_
   refine dS (OX rfl) <| dS (OX rfl) <| dS (OX rfl) <| dS (OX rfl) <| dS (OX rfl) <| dS (PK rfl) <| dS (AG rfl) <| d_end <| RK hK3 <| w_ret ?_
   refine Q1 hQ rfl rfl rfl ?_
   first | exact congrArg Value.bool (decide_eq_false (fun h => h13 h.1)).symm | exact congrArg Value.bool (decide_eq_decide.2 ⟨fun h => ⟨h13, h⟩, fun h => h.2⟩)
 replace h13 := DT h13
 refine dS (MV rfl) <| dS (SX (sd_nil_p rfl rfl) rfl rfl) <| dS (FA 7 rfl fo142_1 rfl) <| dS (FA 9 rfl fo69_2 rfl) <| dS (L1R (Value.slice ri.Signals.a ri.Signals.n ri.Signals.c) 8 rfl tk67 rfl rfl) <| dS (LN rfl ut67) <| dS (FA 0 rfl fo146_0 rfl) <| dS (L1 (Value.int .i64 x.right) 0 rfl tk3 rfl rfl) <| dS (BI rfl (b_sub ⟨by omega, by omega⟩)) <| dS (MV rfl) ?_
 refine dS (SX (sd_nil_p rfl rfl) rfl rfl) <| dS (FA 0 rfl fo142_0 rfl) <| dS (FA 5 rfl fo28_5 rfl) <| dS (L1R (Value.int .i64 ln.Fakes) 8 rfl tk3 rfl rfl) <| dS (BI rfl b_leq) <| dS (PK rfl) <| dS (AG rfl) <| d_end <| RK hK3 <| w_ret ?_
 refine Q1 hQ rfl rfl rfl ?_
 first | exact congrArg Value.bool (decide_eq_false (fun h => h13 h.1)).symm | exact congrArg Value.bool (decide_eq_decide.2 ⟨fun h => ⟨h13, h⟩, fun h => h.2⟩)
end
section
open Go.RowKit
set_option linter.unusedVariables false
set_option maxRecDepth 100000 in
set_option maxHeartbeats 400000 in
theorem numbers_c (ln : LineV) (ri : RideV) (e : List Int) (tms : List TM) (e_A : Option Addr) (e_C : Nat) (tb : List Nat) (t_A : Option Addr) (t_C : Nat) (fs : List FM) (bs : List FM) (fb : List Nat) (f_A : Option Addr) (f_C : Nat) (bb : List Nat) (b_A : Option Addr) (b_C : Nat) (gw : Nat) (hw : WOk (watchOf ln ri e tms)) (hsg : ri.Signals.n ≤ 1000) (hn : ln.Beams.n = e.length) (hfw : FwdOk (watchOf ln ri e tms) fs) (hfb : fb.length = fs.length) :
    FnX Try.prog 62 [(Value.pointer (some ⟨gw, 0, none⟩))] [(rd e_A e.length 1 (e.map iC)), (rd t_A tms.length 1 (List.zipWith mapC tms tb)), (bun (nest tmR tms tb)), (rd f_A fs.length 1 (List.zipWith mapC fs fb)), (bun (nest fmR fs fb)), (rd b_A bs.length 1 (List.zipWith mapC bs bb)), (bun (nest fmR bs bb)), (blk gw 142 (WatchV.cells (WatchV.mk ln ri (Slc.mk e_A e.length e_C) (Slc.mk t_A tms.length t_C) (Slc.mk f_A fs.length f_C) (Slc.mk b_A bs.length b_C))))] (fun (x : (Option Addr) × Nat) => (Value.slice x.1 ((numsF (watchOf ln ri e tms)).length) x.2)) (fun (x : (Option Addr) × Nat) => True) (fun (x : (Option Addr) × Nat) => [(own x.1 x.2 3 1 ((numsF (watchOf ln ri e tms)).map iC))]) := by
 have hw6 : e.length ≤ 6 := hw.n
 have hfl : fs.length = e.length + 1 := hfw.len
 refine fnX_of go62 Try.func62 rfl rfl fun w0 Q hQ hN => ?_
 try dsimp only
 refine WS fun _ hK1 => rS (AG rfl) <| RK hK1 <| WS fun _ hK2 => rS (AG rfl) <| RK hK2 <| w_seq fun _ hK3 => WS fun _ hK4 => rS (MV rfl) <| rS (SX (sd_nil_p rfl rfl) rfl rfl) ?_
 refine rS (FA 0 rfl fo142_0 rfl) <| rS (FA 3 rfl fo28_3 rfl) <| rS (L1R (Value.slice ln.Beams.a ln.Beams.n ln.Beams.c) 7 rfl tk26 rfl rfl) <| rS (LN rfl ut26) <| rS (BI rfl (b_add ⟨by omega, by omega⟩)) <| rS (MV rfl) <| RK hK4 <| w_block <| w_own_nil 3 1 ?_
 have hinit : (0 ≤ e.length + 1) := by exact Nat.zero_le _
 refine w_loop (ι := { z : Nat × (Option Addr) × Nat // (z.1 ≤ e.length + 1) }) (fun z => [(0, (Value.pointer (some ⟨gw, 0, none⟩))), (3, (Value.slice z.1.2.1 ((numsTo (watchOf ln ri e tms) z.1.1).length) z.1.2.2)), (12, (Value.int .i64 (((ln.Beams.n : Nat) : Int) + 1))), (13, (Value.int .i64 ((z.1.1 : Nat) : Int)))]) (fun z => [(own z.1.2.1 z.1.2.2 3 1 ((numsTo (watchOf ln ri e tms) z.1.1).map iC)), (rd e_A e.length 1 (e.map iC)).ro, (rd t_A tms.length 1 (List.zipWith mapC tms tb)).ro, (bun (nest tmR tms tb)).ro, (rd f_A fs.length 1 (List.zipWith mapC fs fb)).ro, (bun (nest fmR fs fb)).ro, (rd b_A bs.length 1 (List.zipWith mapC bs bb)).ro, (bun (nest fmR bs bb)).ro, (blk gw 142 (WatchV.cells (WatchV.mk ln ri (Slc.mk e_A e.length e_C) (Slc.mk t_A tms.length t_C) (Slc.mk f_A fs.length f_C) (Slc.mk b_A bs.length b_C)))).ro]) (fun z => e.length + 1 - z.1.1) ⟨(0, none, 0), hinit⟩ (Sub.cons rfl <| Sub.cons rfl <| Sub.cons rfl <| Sub.cons rfl <| Sub.nil _) (fun w hs => St.sel [0, 1, 2, 3, 4, 5, 6, 7, 8] rfl rfl hs) ?_
 clear hinit
 rintro ⟨⟨n, a, c⟩, hl3_0⟩ J5 hJ5
 try dsimp only at hl3_0
 try dsimp only
 refine WS fun _ hK6 => rS (BI rfl b_lss) <| RK hK6 <| w_seq fun _ hK7 => ?_
 refine w_if rfl (fun h8 => ?_) (fun h8 => ?_)
 rotate_left 1
 · replace h8 := DF h8
   refine w_exit <| k_exit_then <| k_exit_then <| k_exit_same <| KK hK3 <| WS fun _ hK26 => ?_
   rw [show numsTo (watchOf ln ri e tms) n = numsF (watchOf ln ri e tms) by (obtain rfl : n = e.length + 1 := by omega); rfl]
   refine rS (MV rfl) <| rS (AG rfl) <| RK hK26 <| w_ret ?_
   refine hQ _ _ _ (l_nil (vs := [(Value.slice a ((numsF (watchOf ln ri e tms)).length) c)]) ⟨rfl, trivial⟩ fun w hs => endX (a, c) [0] ?_ ?_ rfl rfl rfl hs)
   · rfl
   · trivial
 replace h8 := DT h8
 refine WK hK7 <| w_seq fun _ hK9 => w_block <| WS fun _ hK10 => rS (MV rfl) <| rS (AG rfl) <| RK hK10 <| WS fun _ hK11 => rS (MV rfl) <| rS (SX (sd_nil_p rfl rfl) rfl rfl) ?_
 refine rS (FA 12 rfl fo142_4 rfl) <| rS (L1R (Value.slice f_A fs.length f_C) 8 rfl tk140 rfl rfl) <| rS (MV rfl) ?_
 obtain ⟨m, hm0⟩ : ∃ y_, fs[n]? = some y_ := ⟨fs[n]'(by omega), List.getElem?_eq_getElem _⟩
 obtain ⟨ma, hm0a⟩ : ∃ y_, fb[n]? = some y_ := ⟨fb[n]'(by omega), List.getElem?_eq_getElem _⟩
 have hm0m : (List.zipWith mapC fs fb)[n]? = some (mapC m ma) := zip_get hm0 hm0a
 refine rS (IA n rfl (has_at 4 rfl) te140 (by decide) (by omega) (by omega)) <| rS (LE1 n 0 (Value.map (some ma)) rfl tk144 (has_at 4 rfl) hm0m rfl (by decide) rfl) <| gr_mrangeR (kV := tallyU) (m := gmapV iV m) 5 rfl rfl ut144 rfl ⟨⟨(gmp tallyU ma (gmapV iV m)), (mem_nest hm0 hm0a (by simp [fmR])), rfl⟩, fun h => h⟩ (show Has _ (gmp tallyU ma (gmapV iV m)).holds from has_inr 5 rfl (mem_nest hm0 hm0a (by simp [fmR]))) rfl fun r12 => ?_
 try dsimp only
 refine RK hK11 <| w_block ?_
 have hinit : (∀ p ∈ m, p ∈ m) ∧ (∀ p ∈ m, p ∈ m ∨ mayT (watchOf ln ri e tms) p.1 = false) := by exact ⟨fun p hp => hp, fun p hp => .inl hp⟩
 refine w_loop (ι := { z : FM // (∀ p ∈ z, p ∈ m) ∧ (∀ p ∈ m, p ∈ z ∨ mayT (watchOf ln ri e tms) p.1 = false) }) (fun z => [(0, (Value.pointer (some ⟨gw, 0, none⟩))), (3, (Value.slice a ((numsTo (watchOf ln ri e tms) n).length) c)), (4, (Value.int .i64 ((n : Nat) : Int))), (12, (Value.int .i64 (((ln.Beams.n : Nat) : Int) + 1))), (13, (Value.int .i64 ((n : Nat) : Int))), (23, (Value.pointer (some ⟨r12, 0, none⟩)))]) (fun z => [(gmr tallyU r12 ma (gmapV iV m) (gmapV iV z.1) none), (own a c 3 1 ((numsTo (watchOf ln ri e tms) n).map iC)), (rd e_A e.length 1 (e.map iC)).ro, (rd t_A tms.length 1 (List.zipWith mapC tms tb)).ro, (bun (nest tmR tms tb)).ro, (rd f_A fs.length 1 (List.zipWith mapC fs fb)).ro, (bun (nest fmR fs fb)).ro, (rd b_A bs.length 1 (List.zipWith mapC bs bb)).ro, (bun (nest fmR bs bb)).ro, (blk gw 142 (WatchV.cells (WatchV.mk ln ri (Slc.mk e_A e.length e_C) (Slc.mk t_A tms.length t_C) (Slc.mk f_A fs.length f_C) (Slc.mk b_A bs.length b_C)))).ro]) (fun z => z.1.length) ⟨m, hinit⟩ (Sub.cons rfl <| Sub.cons rfl <| Sub.cons rfl <| Sub.cons rfl <| Sub.cons rfl <| Sub.cons rfl <| Sub.nil _) (fun w hs => St.sel [0, 1, 2, 3, 4, 5, 6, 7, 8, 9] rfl rfl hs) ?_
 clear hinit
 rintro ⟨left, ⟨hl6_0, hl6_1⟩⟩ J13 hJ13
 try dsimp only
 refine WS fun _ hK14 => ?_
 refine gr_mnextR_v gk146.inj (f := iV) 0 rfl rfl rfl rfl (fun h24 => ?_) (fun t v hm hnd => ?_)
 · refine rS (EX rfl) ?_
   refine RK hK14 <| w_seq fun _ hK15 => w_if_false rfl <| w_exit <| k_exit_then <| k_exit_then <| k_exit_same <| k_block <| KK hK9 <| w_region ?_
   refine rS (BI rfl (b_add ⟨by omega, by omega⟩)) <| rS (MV rfl) <| r_nil ?_
   rw [← numsTo_no (w := (watchOf ln ri e tms)) (k := n) ((may_maps (hfw.min _ _ hm0) (hfw.keys _ _ hm0)).symm.trans (may_none hl6_1 h24))]
   have hb16 : (Value.int .i64 (((n + 1) : Nat) : Int)) = (Value.int .i64 (((n : Nat) : Int) + 1)) := by exact congrArg (Value.int .i64) (by omega)
   refine k_then (hJ5 ⟨((n + 1), a, c), (by first | omega | (simp only []; omega))⟩ _ _ _ rfl (by first | omega | (simp; omega)) (Sub.cons rfl <| Sub.cons rfl <| Sub.cons rfl <| sub_val rfl hb16 <| Sub.nil _) (fun w hs => St.sel [1, 2, 3, 4, 5, 6, 7, 8, 9] rfl rfl hs))
 try dsimp only
 refine rS (EX rfl) <| RK hK14 <| w_seq fun _ hK17 => w_if_true rfl <| WK hK17 <| w_block <| WS fun _ hK18 => rS (SX (gsd_mentryR 0 rfl rfl rfl) rfl rfl) <| rS (EX rfl) <| AL rfl tz146 fun b19 => ?_
 refine SW0 rfl ts146 rfl <| RK hK18 <| WS fun _ hK20 => rS (MV rfl) <| rS (LW 0 rfl tk146 rfl rfl) ?_
 have htb := fwd_b hw _ _ (hfw.mem hm0 (hl6_0 _ hm))
 dsimp only at htb
 refine rS (CL (may_c ln ri e tms e_A e_C tb t_A t_C fs bs fb f_A f_C bb b_A b_C gw t (by first | assumption | omega | (simp; done) | (simp; omega)) hsg) (ha_at 3 rfl rfl <| ha_at 4 rfl rfl <| ha_at 5 rfl rfl <| ha_at 6 rfl rfl <| ha_at 7 rfl rfl <| ha_at 8 rfl rfl <| ha_at 9 rfl rfl <| ha_at 10 rfl rfl <| ha_nil) rfl) <| RK hK20 ?_
 refine w_if rfl (fun h30 => ?_) (fun h30 => ?_)
 rotate_left 1
 · refine w_skip ?_
   refine k_block <| k_imp (C' := [(blk b19 146 (TallyV.cells t)), (gmr tallyU r12 ma (gmapV iV m) (gmapV iV (gdelK left t)) none), (own a c 3 1 ((numsTo (watchOf ln ri e tms) n).map iC)), (rd e_A e.length 1 (e.map iC)).ro, (rd t_A tms.length 1 (List.zipWith mapC tms tb)).ro, (bun (nest tmR tms tb)).ro, (rd f_A fs.length 1 (List.zipWith mapC fs fb)).ro, (bun (nest fmR fs fb)).ro, (rd b_A bs.length 1 (List.zipWith mapC bs bb)).ro, (bun (nest fmR bs bb)).ro, (blk gw 142 (WatchV.cells (WatchV.mk ln ri (Slc.mk e_A e.length e_C) (Slc.mk t_A tms.length t_C) (Slc.mk f_A fs.length f_C) (Slc.mk b_A bs.length b_C)))).ro]) 1 rfl gmr_none rfl ?_
   refine k_then (hJ13 ⟨(gdelK left t), ⟨left_sub hl6_0, may_step hnd hm hl6_1 (by first | exact h30 | simpa using h30)⟩⟩ _ _ _ rfl (gdelK_lt hm) (Sub.cons rfl <| Sub.cons rfl <| Sub.cons rfl <| Sub.cons rfl <| Sub.cons rfl <| Sub.cons rfl <| Sub.nil _) (fun w hs => St.sel [1, 2, 3, 4, 5, 6, 7, 8, 9, 10] rfl rfl hs))
 refine WS fun _ hK21 => rS (MV rfl) <| rS (MV rfl) <| r_bs (xs := [.tmp 32]) (cs := [(Value.int .i64 ((n : Nat) : Int))]) rfl te57 tz3 rfl rfl rfl rfl (by simp [Value.cells]) rfl rfl fun b22 => ?_
 have hy : mayAny (watchOf ln ri e tms) (fwd (watchOf ln ri e tms) n) = true := (may_maps (hfw.min _ _ hm0) (hfw.keys _ _ hm0)).symm.trans (may_yes (hl6_0 _ hm) h30)
 refine r_append (es2 := (List.map iC (numsTo (watchOf ln ri e tms) (n + 1)))) (m' := (numsTo (watchOf ln ri e tms) (n + 1)).length) 3 rfl rfl rfl ta57 rfl rfl (by simp) (has_rd_blk (es := List.map iC [((n : Nat) : Int)]) 0 rfl rfl (by simp [iC_length]) rfl) (one_iC _) (by have := numsTo_len (w := (watchOf ln ri e tms)) (k := n); first | omega | (simp; omega)) (by have := numsTo_len (w := (watchOf ln ri e tms)) (k := n); simp only [maxLen]; omega) (by rw [numsTo_yes hy]; simp) (by simp) rfl fun a23 c24 => ?_
 try dsimp only
 refine rS (AG rfl) <| RK hK21 <| w_exit <| k_exit_other rfl <| k_exit_then <| k_exit_same <| k_block <| KK hK9 <| w_region <| rS (BI rfl (b_add ⟨by omega, by omega⟩)) ?_
 refine rS (MV rfl) <| r_nil ?_
 have hb25 : (Value.int .i64 (((n + 1) : Nat) : Int)) = (Value.int .i64 (((n : Nat) : Int) + 1)) := by exact congrArg (Value.int .i64) (by omega)
 refine k_then (hJ5 ⟨((n + 1), a23, c24), (by first | omega | (simp only []; omega))⟩ _ _ _ rfl (by first | omega | (simp; omega)) (Sub.cons rfl <| Sub.cons rfl <| Sub.cons rfl <| sub_val rfl hb25 <| Sub.nil _) (fun w hs => St.sel [3, 4, 5, 6, 7, 8, 9, 10, 11] rfl rfl hs))
end
section
open Go.RowKit
set_option linter.unusedVariables false
set_option maxRecDepth 100000 in
set_option maxHeartbeats 400000 in
theorem within_1 (n : Int) (lo : Int) (hi : Int) :
    FnV Try.prog 90 [(Value.int .i64 n), (Value.int .i64 lo), (Value.int .i64 hi)] [] (Value.bool (decide (lo ≤ n ∧ n ≤ hi))) := by
 refine fnV_of go90 Try.func90 rfl rfl fun w0 Q hQ hN => ?_
 try dsimp only
 refine WS fun _ hK1 => rS (AG rfl) <| RK hK1 <| WS fun _ hK2 => rS (MV rfl) <| rS (MV rfl) <| rS (BI rfl b_geq) <| rS (MV rfl) ?_
 refine r_bool (t := 10) rfl (fun h3 => ?_) (fun h3 => ?_)
 rotate_left 1
 · replace h3 := DF h3
   refine rS (OX rfl) <| rS (OX rfl) <| rS (OX rfl) <| rS (PK rfl) <| rS (AG rfl) <| RK hK2 <| w_ret <| Q1 hQ rfl rfl rfl ?_
   exact congrArg Value.bool (decide_eq_false (by omega)).symm
 replace h3 := DT h3
 refine rS (MV rfl) <| rS (MV rfl) <| rS (BI rfl b_leq) <| rS (PK rfl) <| rS (AG rfl) <| RK hK2 <| w_ret <| Q1 hQ rfl rfl rfl ?_
 exact congrArg Value.bool (decide_eq_decide.2 (by omega))
set_option maxRecDepth 100000 in
set_option maxHeartbeats 400000 in
theorem span_1 (s : SpanV) (lo : Int) (hi : Int) :
    FnV Try.prog 91 [(Value.agg (SpanV.cells s).toArray), (Value.int .i64 lo), (Value.int .i64 hi)] [] (Value.bool (decide (s.Lo ≤ s.Hi ∧ lo ≤ s.Lo ∧ s.Hi ≤ hi))) := by
 refine fnV_of go91 Try.func91 rfl rfl fun w0 Q hQ hN => ?_
 try dsimp only
 refine WS fun _ hK1 => BXA rfl fun b2 => rS (AG rfl) <| RK hK1 <| WS fun _ hK3 => rS (FA 0 rfl fo34_0 rfl) <| rS (L1 (Value.int .i64 s.Lo) 0 rfl tk3 rfl rfl) <| rS (MV rfl) <| rS (FA 1 rfl fo34_1 rfl) <| rS (L1 (Value.int .i64 s.Hi) 0 rfl tk3 rfl rfl) ?_
 refine rS (CL (within_1 s.Lo lo s.Hi) (ha_nil) rfl) <| rS (MV rfl) ?_
 refine r_bool (t := 13) rfl (fun h4 => ?_) (fun h4 => ?_)
 rotate_left 1
 · replace h4 := DF h4
   refine rS (OX rfl) <| rS (OX rfl) <| rS (OX rfl) <| rS (OX rfl) <| rS (PK rfl) <| rS (AG rfl) <| RK hK3 <| w_ret <| Q1 hQ rfl rfl rfl ?_
   exact congrArg Value.bool (decide_eq_false (by omega)).symm
 replace h4 := DT h4
 refine rS (FA 1 rfl fo34_1 rfl) <| rS (L1 (Value.int .i64 s.Hi) 0 rfl tk3 rfl rfl) <| rS (MV rfl) <| rS (BI rfl b_leq) <| rS (PK rfl) <| rS (AG rfl) <| RK hK3 <| w_ret <| Q1 hQ rfl rfl rfl ?_
 exact congrArg Value.bool (decide_eq_decide.2 (by omega))
set_option maxRecDepth 100000 in
set_option maxHeartbeats 400000 in
theorem great_c (t : List StretchV) (tA : Option Addr) (tC : Nat) :
    FnV Try.prog 43 [(Value.agg (TrackV.cells (TrackV.mk (Slc.mk tA t.length tC))).toArray)] [(rd tA t.length 9 (t.map StretchV.cells))] (Value.bool (decide (20 < (t.length : Int)))) := by
 refine fnV_of go43 Try.func43 rfl rfl fun w0 Q hQ hN => ?_
 try dsimp only
 refine WS fun _ hK1 => BXA rfl fun b2 => rS (AG rfl) <| RK hK1 <| WS fun _ hK3 => rS (FA 0 rfl fo24_0 rfl) <| rS (L1 (Value.slice tA t.length tC) 0 rfl tk22 rfl rfl) <| rS (LN rfl ut22) <| rS (BI rfl b_gtr) <| rS (AG rfl) ?_
 refine RK hK3 <| w_ret ?_
 exact Q1 hQ rfl rfl rfl rfl
set_option maxRecDepth 100000 in
set_option maxHeartbeats 400000 in
theorem index_c (l : List Int) (lA : Option Addr) (lC : Nat) (f : Value) (p : Int → Bool) (X : Assn) (hf : ∀ x0, x0 ∈ l → Clo Try.prog f [.int .i64 x0] [X] (.bool (p x0))) (hlen : l.length ≤ 1000000) :
    FnV Try.prog 105 [(Value.slice lA l.length lC), f] [(rd lA l.length 1 (l.map iC)), X] (Value.int .i64 (findI p l)) := by
 refine fnV_of go105 Try.func105 rfl rfl fun w0 Q hQ hN => ?_
 try dsimp only
 refine WS fun _ hK1 => rS (AG rfl) <| RK hK1 <| w_seq fun _ hK2 => WS fun _ hK3 => rS (MV rfl) <| rS (LN rfl ut57) <| rS (MV rfl) <| RK hK3 <| w_block ?_
 have hinit : (0 ≤ l.length) ∧ ((l.take 0).any p = false) := by simp
 refine w_loop (ι := { z : Nat // (z ≤ l.length) ∧ ((l.take z).any p = false) }) (fun z => [(0, (Value.slice lA l.length lC)), (1, f), (7, (Value.int .i64 ((l.length : Nat) : Int))), (8, (Value.int .i64 (z.1 : Int)))]) (fun z => [(rd lA l.length 1 (l.map iC)).ro, X.ro]) (fun z => l.length - z.1) ⟨0, hinit⟩ (Sub.cons rfl <| Sub.cons rfl <| Sub.cons rfl <| Sub.cons rfl <| Sub.nil _) (fun w hs => St.sel [0, 1] rfl rfl hs) ?_
 clear hinit
 rintro ⟨i, ⟨hl0_0, hl0_1⟩⟩ J4 hJ4
 try dsimp only
 refine WS fun _ hK5 => rS (BI rfl b_lss) <| RK hK5 <| w_seq fun _ hK6 => ?_
 refine w_if rfl (fun h7 => ?_) (fun h7 => ?_)
 rotate_left 1
 · replace h7 := DF h7
   refine w_exit <| k_exit_then <| k_exit_then <| k_exit_same <| KK hK2 <| WS fun _ hK12 => rS (AG rfl) <| RK hK12 <| w_ret <| Q1 hQ rfl rfl rfl ?_
   first | exact congrArg (Value.int .i64) (findI_at hx hp hl0_1).symm | exact congrArg (Value.int .i64) (findI_none (by omega) hl0_1).symm
 replace h7 := DT h7
 refine WK hK6 <| w_seq fun _ hK8 => w_block <| WS fun _ hK9 => rS (MV rfl) <| rS (AG rfl) <| RK hK9 <| WS fun _ hK10 => rS (MV rfl) <| rS (MV rfl) ?_
 refine rS (MV rfl) ?_
 obtain ⟨x, hx⟩ : ∃ y_, l[i]? = some y_ := ⟨l[i]'(by omega), List.getElem?_eq_getElem _⟩
 have hxm : (l.map iC)[i]? = some (iC x) := by rw [List.getElem?_map, hx]; rfl
 refine rS (IA i rfl (has_at 0 rfl) te57 (by decide) (by omega) (by omega)) <| rS (LE1 i 0 (Value.int .i64 x) rfl tk3 (has_at 0 rfl) hxm rfl (by decide) rfl) <| rS (SX (sd_clo rfl rfl rfl (hf x (List.mem_of_getElem? hx)) (ha_at 1 rfl rfl <| ha_nil)) rfl rfl) <| RK hK10 ?_
 refine w_if rfl (fun hp => ?_) (fun hp => ?_)
 · refine WS fun _ hK11 => ?_
   refine rS (MV rfl) <| rS (AG rfl) <| RK hK11 <| w_ret <| Q1 hQ rfl rfl rfl ?_
   first | exact congrArg (Value.int .i64) (findI_at hx hp hl0_1).symm | exact congrArg (Value.int .i64) (findI_none (by omega) hl0_1).symm
 refine w_skip <| k_block <| KK hK8 <| w_region <| rS (BI rfl (b_add ⟨by omega, by omega⟩)) <| rS (MV rfl) <| r_nil ?_
 refine k_then (hJ4 ⟨(i + 1), ⟨by omega, any_step hx hl0_1 hp⟩⟩ _ _ _ rfl (by first | omega | (simp; omega)) (Sub.cons rfl <| Sub.cons rfl <| Sub.cons rfl <| Sub.cons rfl <| Sub.nil _) (fun w hs => St.sel [0, 1] rfl rfl hs))
set_option maxRecDepth 100000 in
set_option maxHeartbeats 400000 in
theorem contains_c (l : List Int) (lA : Option Addr) (lC : Nat) (f : Value) (p : Int → Bool) (X : Assn) (hf : ∀ x0, x0 ∈ l → Clo Try.prog f [.int .i64 x0] [X] (.bool (p x0))) (hlen : l.length ≤ 1000000) :
    FnV Try.prog 73 [(Value.slice lA l.length lC), f] [(rd lA l.length 1 (l.map iC)), X] (Value.bool (l.any p)) := by
 refine fnV_of go73 Try.func73 rfl rfl fun w0 Q hQ hN => ?_
 try dsimp only
 refine WS fun _ hK1 => rS (AG rfl) <| RK hK1 <| WS fun _ hK2 => rS (MV rfl) <| rS (MV rfl) <| rS (CL (index_c l lA lC f p X (by exact hf) hlen) (ha_at 0 rfl rfl <| ha_at 1 rfl rfl <| ha_nil) rfl) <| rS (BI rfl b_geq) <| rS (AG rfl) <| RK hK2 ?_
 refine w_ret <| Q1 hQ rfl rfl rfl ?_
 exact congrArg Value.bool findI_any
set_option maxRecDepth 100000 in
set_option maxHeartbeats 400000 in
theorem in1_track (n : Int) (lo : Int) (hi : Int) (g1 : Nat) (g2 : Nat) :
    FnV Try.prog 108 [(Value.int .i64 n), (Value.pointer (some ⟨g1, 0, none⟩)), (Value.pointer (some ⟨g2, 0, none⟩))] [(blk g1 3 [(Value.int .i64 lo)]), (blk g2 3 [(Value.int .i64 hi)])] (Value.bool (decide (n < lo ∨ hi < n))) := by
 refine fnV_of go108 Try.func108 rfl rfl fun w0 Q hQ hN => ?_
 try dsimp only
 refine WS fun _ hK1 => rS (AG rfl) <| RK hK1 <| WS fun _ hK2 => rS (MV rfl) <| rS (L1Q 0 rfl tk3 rfl) <| rS (BI rfl b_lss) <| rS (MV rfl) ?_
 refine r_bool (t := 8) rfl (fun h3 => ?_) (fun h3 => ?_)
 · replace h3 := DT h3
   refine rS (OX rfl) <| rS (OX rfl) <| rS (OX rfl) <| rS (PK rfl) <| rS (AG rfl) <| RK hK2 <| w_ret <| Q1 hQ rfl rfl rfl ?_
   exact congrArg Value.bool (decide_eq_true (by omega)).symm
 replace h3 := DF h3
 refine rS (MV rfl) <| rS (L1Q 1 rfl tk3 rfl) <| rS (BI rfl b_gtr) <| rS (PK rfl) <| rS (AG rfl) <| RK hK2 <| w_ret <| Q1 hQ rfl rfl rfl ?_
 exact congrArg Value.bool (decide_eq_decide.2 (by omega))
set_option maxRecDepth 100000 in
set_option maxHeartbeats 400000 in
theorem in_track (lo : Int) (hi : Int) (l : List Int) (lA : Option Addr) (lC : Nat) (hlen : l.length ≤ 1000000) :
    FnV Try.prog 79 [(Value.int .i64 lo), (Value.int .i64 hi), (Value.slice lA l.length lC)] [(rd lA l.length 1 (l.map iC))] (Value.bool (inAll lo hi l)) := by
 refine fnV_of go79 Try.func79 rfl rfl fun w0 Q hQ hN => ?_
 try dsimp only
 refine WS fun _ hK1 => BX1 rfl rfl fun b2 => BX1 rfl rfl fun b3 => rS (AG rfl) <| RK hK1 <| WS fun _ hK4 => rS (MV rfl) <| rS (FU rfl) <| rS (CL (contains_c l lA lC (Value.func (.func 108) [].toArray [(Value.pointer (some ⟨b2, 0, none⟩)), (Value.pointer (some ⟨b3, 0, none⟩))].toArray) (fun u5 => (decide (u5 < lo ∨ hi < u5))) (bun [(blk b2 3 [(Value.int .i64 lo)]), (blk b3 3 [(Value.int .i64 hi)])]) (by intro u5 _; exact clo_of (fi := []) (ca := [(Value.pointer (some ⟨b2, 0, none⟩)), (Value.pointer (some ⟨b3, 0, none⟩))]) (fnV_bun (in1_track u5 lo hi b2 b3 ) (ha_at 0 rfl rfl <| ha_at 1 rfl rfl <| ha_nil))) hlen) (ha_at 2 rfl rfl <| ha_cons (has_bun (ha_at 1 rfl rfl <| ha_at 0 rfl rfl <| ha_nil)) <| ha_nil) rfl) <| rS (NT rfl) ?_
 refine rS (AG rfl) <| RK hK4 <| w_ret ?_
 exact Q1 hQ rfl rfl rfl rfl
set_option maxRecDepth 100000 in
set_option maxHeartbeats 400000 in
theorem known_c (s : SpanV) (lo : Int) (hi : Int) :
    FnV Try.prog 80 [(Value.agg (SpanV.cells s).toArray), (Value.int .i64 lo), (Value.int .i64 hi)] [] (Value.bool (decide (s.Lo ≤ s.Hi ∧ lo ≤ s.Lo ∧ s.Hi ≤ hi))) := by
 refine fnV_of go80 Try.func80 rfl rfl fun w0 Q hQ hN => ?_
 try dsimp only
 refine WS fun _ hK1 => BXA rfl fun b2 => rS (AG rfl) <| RK hK1 <| WS fun _ hK3 => rS (MV rfl) <| rS (MV rfl) <| rS (FA 0 rfl fo34_0 rfl) <| rS (L1 (Value.int .i64 s.Lo) 0 rfl tk3 rfl rfl) <| rS (FA 1 rfl fo34_1 rfl) ?_
 refine rS (L1 (Value.int .i64 s.Hi) 0 rfl tk3 rfl rfl) <| r_bs (xs := [.tmp 10, .tmp 12]) (cs := [(Value.int .i64 s.Lo), (Value.int .i64 s.Hi)]) rfl te57 tz3 rfl rfl rfl rfl (by simp [Value.cells]) rfl rfl fun b4 => rS (CL (FnV.eq (in_track lo hi ([s.Lo, s.Hi]) (some ⟨b4, 0, none⟩) 2 (by first | assumption | omega | (simp; done) | (simp; omega))) inAll_two) (ha_cons (has_rd_blk 0 rfl rfl (by simp [iC_length]) rfl) <| ha_nil) rfl) <| rS (MV rfl) ?_
 refine r_bool (t := 15) rfl (fun h5 => ?_) (fun h5 => ?_)
 rotate_left 1
 · replace h5 := DF h5
   refine rS (OX rfl) <| rS (OX rfl) <| rS (OX rfl) <| rS (OX rfl) <| rS (OX rfl) <| rS (PK rfl) <| rS (AG rfl) <| RK hK3 <| w_ret <| Q1 hQ rfl rfl rfl ?_
   exact congrArg Value.bool (decide_eq_false (by omega)).symm
 replace h5 := DT h5
 refine rS (FA 0 rfl fo34_0 rfl) <| rS (L1 (Value.int .i64 s.Lo) 1 rfl tk3 rfl rfl) <| rS (FA 1 rfl fo34_1 rfl) <| rS (L1 (Value.int .i64 s.Hi) 1 rfl tk3 rfl rfl) <| rS (BI rfl b_leq) <| rS (PK rfl) <| rS (AG rfl) <| RK hK3 <| w_ret <| Q1 hQ rfl rfl rfl ?_
 exact congrArg Value.bool (decide_eq_decide.2 (by omega))
set_option maxRecDepth 100000 in
set_option maxHeartbeats 400000 in
theorem track_c (ts : List StretchV) (tsA : Option Addr) (tsC : Nat) (hlen : ts.length ≤ 1000000) :
    FnV Try.prog 56 [(Value.agg (TrackV.cells (TrackV.mk (Slc.mk tsA ts.length tsC))).toArray)] [(rd tsA ts.length 9 (ts.map StretchV.cells))] (Value.bool (trackOk ts)) := by
 refine fnV_of go56 Try.func56 rfl rfl fun w0 Q hQ hN => ?_
 try dsimp only
 refine WS fun _ hK1 => BXA rfl fun b2 => rS (AG rfl) <| RK hK1 <| w_seq fun _ hK3 => WS fun _ hK4 => rS (FA 0 rfl fo24_0 rfl) <| rS (L1 (Value.slice tsA ts.length tsC) 0 rfl tk22 rfl rfl) <| rS (LN rfl ut22) <| rS (CL (within_1 ((ts.length : Nat) : Int) 1 12) (ha_nil) rfl) ?_
 refine rS (NT rfl) <| RK hK4 ?_
 refine w_if rfl (fun h5 => ?_) (fun h5 => ?_)
 · replace h5 := XT h5
   refine WS fun _ hK6 => rS (AG rfl) <| RK hK6 <| w_ret <| Q1 hQ rfl rfl rfl ?_
   first | exact congrArg Value.bool (trackOk_len (by omega)).symm | exact congrArg Value.bool (trackOk_no hl0_1 hx (by simp only [StretchOk, SpanOk]; omega)).symm | exact congrArg Value.bool (trackOk_yes hl0_1 (by omega) (by omega)).symm
 replace h5 := XF h5
 refine WK hK3 <| w_seq fun _ hK7 => WS fun _ hK8 => rS (AG rfl) <| RK hK8 <| w_block ?_
 have hinit : (0 ≤ ts.length) ∧ (trackFrom (-1) ts = trackFrom (lastId ts 0) (ts.drop 0)) ∧ (-1 ≤ lastId ts 0) := by (refine ⟨by omega, rfl, by simp [lastId]⟩)
 refine w_loop (ι := { z : Nat // (z ≤ ts.length) ∧ (trackFrom (-1) ts = trackFrom (lastId ts z) (ts.drop z)) ∧ (-1 ≤ lastId ts z) }) (fun z => [(1, (Value.pointer (some ⟨b2, 0, none⟩))), (3, (Value.int .i64 (z.1 : Int)))]) (fun z => [(blk b2 24 (TrackV.cells (TrackV.mk (Slc.mk tsA ts.length tsC)))), (rd tsA ts.length 9 (ts.map StretchV.cells)).ro]) (fun z => ts.length - z.1) ⟨0, hinit⟩ (Sub.cons rfl <| Sub.cons rfl <| Sub.nil _) (fun w hs => St.sel [0, 1] rfl rfl hs) ?_
 clear hinit
 rintro ⟨i, ⟨hl0_0, hl0_1, hl0_2⟩⟩ J9 hJ9
 try dsimp only
 have hz : i = 0 → lastId ts i = -1 := lastId_zero
 refine w_seq fun _ hK10 => WS fun _ hK11 => rS (MV rfl) <| rS (FA 0 rfl fo24_0 rfl) <| rS (L1 (Value.slice tsA ts.length tsC) 0 rfl tk22 rfl rfl) <| rS (LN rfl ut22) <| rS (BI rfl b_lss) <| RK hK11 ?_
 refine w_if rfl (fun h12 => ?_) (fun h12 => ?_)
 rotate_left 1
 · replace h12 := DF h12
   refine w_exit <| k_exit_then <| k_exit_then <| k_exit_same <| KK hK7 <| WS fun _ hK77 => rS (AG rfl) <| RK hK77 <| w_ret <| Q1 hQ rfl rfl rfl ?_
   first | exact congrArg Value.bool (trackOk_len (by omega)).symm | exact congrArg Value.bool (trackOk_no hl0_1 hx (by simp only [StretchOk, SpanOk]; omega)).symm | exact congrArg Value.bool (trackOk_yes hl0_1 (by omega) (by omega)).symm
 replace h12 := DT h12
 refine WK hK10 <| w_seq fun _ hK13 => w_block <| WS fun _ hK14 => rS (FA 0 rfl fo24_0 rfl) <| rS (L1 (Value.slice tsA ts.length tsC) 0 rfl tk22 rfl rfl) <| rS (MV rfl) ?_
 obtain ⟨x, hx⟩ : ∃ y_, ts[i]? = some y_ := ⟨ts[i]'(by omega), List.getElem?_eq_getElem _⟩
 have hxm : (ts.map StretchV.cells)[i]? = some (StretchV.cells x) := by rw [List.getElem?_map, hx]; rfl
 refine rS (IA i rfl (has_at 1 rfl) te22 (by decide) (by omega) (by omega)) <| rS (LEN i 0 (StretchV.cells x) rfl tk126 (has_at 1 rfl) hxm rfl (by decide) rfl rfl) <| AL rfl tz126 fun b15 => SW0 rfl ts126 rfl <| RK hK14 <| w_seq fun _ hK16 => w_seq fun _ hK17 => w_draw mixed 38 (by kernel_rfl) <| dS (FA 0 rfl fo126_0 rfl) <| dS (L1 (Value.int .i64 x.Id) 0 rfl tk3 rfl rfl) ?_
 refine dS (CL (within_1 x.Id 0 9999) (ha_nil) rfl) <| dS (NT rfl) <| dS (MV rfl) ?_
 refine d_bool (t := 26) rfl (fun h18 => ?_) (fun h18 => ?_)
 · replace h18 := XT h18
   refine dS (OX rfl) <| dS (OX rfl) <| dS (OX rfl) <| dS (OX rfl) <| dS (OX rfl) <| dS (OX rfl) <| dS (OX rfl) <| dS (OX rfl) <| dS (OX rfl) <| dS (OX rfl) ?_
   refine dS (OX rfl) <| dS (OX rfl) <| dS (OX rfl) <| dS (OX rfl) <| dS (PK rfl) <| dS (MV rfl) <| dS (OX rfl) <| dS (OX rfl) <| dS (OX rfl) <| dS (OX rfl) ?_
   refine dS (PK rfl) <| dS (MV rfl) <| dS (OX rfl) <| dS (OX rfl) <| dS (OX rfl) <| dS (OX rfl) <| dS (PK rfl) <| dS (MV rfl) <| dS (OX rfl) <| dS (OX rfl) ?_
   refine dS (OX rfl) <| dS (OX rfl) <| dS (PK rfl) <| d_end <| RK hK17 <| w_if_true rfl <| WS fun _ hK19 => rS (AG rfl) <| RK hK19 <| w_ret ?_
   refine Q1 hQ rfl rfl rfl ?_
   first | exact congrArg Value.bool (trackOk_len (by omega)).symm | exact congrArg Value.bool (trackOk_no hl0_1 hx (by simp only [StretchOk, SpanOk]; omega)).symm | exact congrArg Value.bool (trackOk_yes hl0_1 (by omega) (by omega)).symm
 replace h18 := XF h18
 refine dS (MV rfl) <| dS (BI rfl b_gtr) <| dS (MV rfl) ?_
 refine d_bool (t := 29) rfl (fun h20 => ?_) (fun h20 => ?_)
 rotate_left 1
 · replace h20 := DF h20
   refine dS (OX rfl) <| dS (OX rfl) <| dS (OX rfl) <| dS (OX rfl) <| dS (OX rfl) <| dS (OX rfl) <| dS (OX rfl) <| dS (OX rfl) <| dS (OX rfl) <| dS (OX rfl) ?_
   refine dS (PK rfl) <| dS (PK rfl) <| dS (MV rfl) <| dS (FA 1 rfl fo126_1 rfl) <| dS (LP (SpanV.cells x.Long) 0 rfl tk34 rfl rfl rfl) <| dS (CL (span_1 x.Long 1 30000) (ha_nil) rfl) <| dS (NT rfl) <| dS (PK rfl) <| dS (MV rfl) ?_
   refine d_bool (t := 48) rfl (fun h50 => ?_) (fun h50 => ?_)
   · replace h50 := XT h50
     refine dS (OX rfl) <| dS (OX rfl) <| dS (OX rfl) <| dS (OX rfl) <| dS (PK rfl) <| dS (MV rfl) <| dS (OX rfl) <| dS (OX rfl) <| dS (OX rfl) <| dS (OX rfl) ?_
     refine dS (PK rfl) <| d_end <| RK hK17 <| w_if_true rfl <| WS fun _ hK51 => rS (AG rfl) <| RK hK51 <| w_ret <| Q1 hQ rfl rfl rfl ?_
     first | exact congrArg Value.bool (trackOk_len (by omega)).symm | exact congrArg Value.bool (trackOk_no hl0_1 hx (by simp only [StretchOk, SpanOk]; omega)).symm | exact congrArg Value.bool (trackOk_yes hl0_1 (by omega) (by omega)).symm
   replace h50 := XF h50
   refine dS (FA 3 rfl fo126_2 rfl) <| dS (LP (SpanV.cells x.Fall) 0 rfl tk34 rfl rfl rfl) <| dS (CL (span_1 x.Fall 0 5000) (ha_nil) rfl) <| dS (NT rfl) <| dS (PK rfl) <| dS (MV rfl) ?_
   refine d_bool (t := 54) rfl (fun h52 => ?_) (fun h52 => ?_)
   · replace h52 := XT h52
     refine dS (OX rfl) <| dS (OX rfl) <| dS (OX rfl) <| dS (OX rfl) <| dS (PK rfl) <| d_end <| RK hK17 <| w_if_true rfl <| WS fun _ hK53 => rS (AG rfl) ?_
     refine RK hK53 <| w_ret <| Q1 hQ rfl rfl rfl ?_
     first | exact congrArg Value.bool (trackOk_len (by omega)).symm | exact congrArg Value.bool (trackOk_no hl0_1 hx (by simp only [StretchOk, SpanOk]; omega)).symm | exact congrArg Value.bool (trackOk_yes hl0_1 (by omega) (by omega)).symm
   replace h52 := XF h52
   refine dS (FA 8 rfl fo126_5 rfl) <| dS (L1 (Value.int .i64 x.Wall) 0 rfl tk3 rfl rfl) <| dS (CL (within_1 x.Wall 0 5000) (ha_nil) rfl) <| dS (NT rfl) <| dS (PK rfl) <| d_end <| RK hK17 ?_
   refine w_if rfl (fun h54 => ?_) (fun h54 => ?_)
   · replace h54 := XT h54
     refine WS fun _ hK55 => rS (AG rfl) <| RK hK55 <| w_ret <| Q1 hQ rfl rfl rfl ?_
     first | exact congrArg Value.bool (trackOk_len (by omega)).symm | exact congrArg Value.bool (trackOk_no hl0_1 hx (by simp only [StretchOk, SpanOk]; omega)).symm | exact congrArg Value.bool (trackOk_yes hl0_1 (by omega) (by omega)).symm
   replace h54 := XF h54
   refine WK hK16 <| WS fun _ hK56 => rS (FA 7 rfl fo126_4 rfl) <| rS (L1 (Value.int .u8 x.Side) 0 rfl tk5 rfl rfl) <| RK hK56 <| w_block <| WS fun _ hK57 => rS (BI rfl b_eql) <| rS (AG rfl) <| RK hK57 ?_
   refine w_if rfl (fun h58 => ?_) (fun h58 => ?_)
   · replace h58 := DT h58
     refine WS fun _ hK59 => rS (FA 5 rfl fo126_3 rfl) <| rS (FA 5 rfl fo34_0 rfl) <| rS (L1 (Value.int .i64 x.Radius.Lo) 0 rfl tk3 rfl rfl) <| rS (BI rfl b_neq) <| rS (MV rfl) ?_
     refine r_bool (t := 68) rfl (fun h60 => ?_) (fun h60 => ?_)
     · replace h60 := XT h60
       refine rS (OX rfl) <| rS (OX rfl) <| rS (OX rfl) <| rS (OX rfl) <| rS (PK rfl) <| RK hK59 <| w_if_true rfl <| WS fun _ hK61 => rS (AG rfl) <| RK hK61 ?_
       refine w_ret <| Q1 hQ rfl rfl rfl ?_
       first | exact congrArg Value.bool (trackOk_len (by omega)).symm | exact congrArg Value.bool (trackOk_no hl0_1 hx (by simp only [StretchOk, SpanOk]; omega)).symm | exact congrArg Value.bool (trackOk_yes hl0_1 (by omega) (by omega)).symm
     replace h60 := XF h60
     refine rS (FA 5 rfl fo126_3 rfl) <| rS (FA 6 rfl fo34_1 rfl) <| rS (L1 (Value.int .i64 x.Radius.Hi) 0 rfl tk3 rfl rfl) <| rS (BI rfl b_neq) <| rS (PK rfl) <| RK hK59 ?_
     refine w_if rfl (fun h62 => ?_) (fun h62 => ?_)
     · replace h62 := XT h62
       refine WS fun _ hK63 => rS (AG rfl) <| RK hK63 <| w_ret <| Q1 hQ rfl rfl rfl ?_
       first | exact congrArg Value.bool (trackOk_len (by omega)).symm | exact congrArg Value.bool (trackOk_no hl0_1 hx (by simp only [StretchOk, SpanOk]; omega)).symm | exact congrArg Value.bool (trackOk_yes hl0_1 (by omega) (by omega)).symm
     replace h62 := XF h62
     refine w_skip <| k_block <| k_block <| KK hK13 <| w_region <| rS (MV rfl) <| rS (BI rfl (b_add ⟨by omega, by omega⟩)) <| rS (AG rfl) <| r_nil ?_
     refine k_then (hJ9 ⟨(i + 1), ⟨by omega, trackFrom_next hl0_1 hx (by simp only [StretchOk, SpanOk]; omega), by rw [lastId_succ hx]; omega⟩⟩ _ _ _ rfl (by first | omega | (simp; omega)) (Sub.cons rfl <| Sub.cons rfl <| Sub.nil _) (fun w hs => St.sel [1, 2] rfl rfl hs))
   replace h58 := DF h58
   refine w_seq fun _ hK64 => WS fun _ hK65 => rS (BI rfl b_eql) <| rS (AG rfl) <| RK hK65 ?_
   refine w_if rfl (fun h66 => ?_) (fun h66 => ?_)
   · replace h66 := DT h66
     refine WK hK64 ?_
     refine w_if rfl (fun h67 => ?_) (fun h67 => ?_)
     rotate_left 1
     · replace h67 := DF h67
       refine WS fun _ hK71 => rS (AG rfl) <| RK hK71 <| w_ret <| Q1 hQ rfl rfl rfl ?_
       first | exact congrArg Value.bool (trackOk_len (by omega)).symm | exact congrArg Value.bool (trackOk_no hl0_1 hx (by simp only [StretchOk, SpanOk]; omega)).symm | exact congrArg Value.bool (trackOk_yes hl0_1 (by omega) (by omega)).symm
     replace h67 := DT h67
     refine WS fun _ hK68 => rS (FA 5 rfl fo126_3 rfl) <| rS (LP (SpanV.cells x.Radius) 0 rfl tk34 rfl rfl rfl) <| rS (CL (span_1 x.Radius 500 20000) (ha_nil) rfl) <| rS (NT rfl) <| RK hK68 ?_
     refine w_if rfl (fun h69 => ?_) (fun h69 => ?_)
     · replace h69 := XT h69
       refine WS fun _ hK70 => rS (AG rfl) <| RK hK70 <| w_ret <| Q1 hQ rfl rfl rfl ?_
       first | exact congrArg Value.bool (trackOk_len (by omega)).symm | exact congrArg Value.bool (trackOk_no hl0_1 hx (by simp only [StretchOk, SpanOk]; omega)).symm | exact congrArg Value.bool (trackOk_yes hl0_1 (by omega) (by omega)).symm
     replace h69 := XF h69
     refine w_skip <| k_block <| k_block <| KK hK13 <| w_region <| rS (MV rfl) <| rS (BI rfl (b_add ⟨by omega, by omega⟩)) <| rS (AG rfl) <| r_nil ?_
     refine k_then (hJ9 ⟨(i + 1), ⟨by omega, trackFrom_next hl0_1 hx (by simp only [StretchOk, SpanOk]; omega), by rw [lastId_succ hx]; omega⟩⟩ _ _ _ rfl (by first | omega | (simp; omega)) (Sub.cons rfl <| Sub.cons rfl <| Sub.nil _) (fun w hs => St.sel [1, 2] rfl rfl hs))
   replace h66 := DF h66
   refine w_region <| rS (BI rfl b_eql) <| rS (AG rfl) <| RK hK64 ?_
   refine w_if rfl (fun h72 => ?_) (fun h72 => ?_)
   rotate_left 1
   · replace h72 := DF h72
     refine WS fun _ hK76 => rS (AG rfl) <| RK hK76 <| w_ret <| Q1 hQ rfl rfl rfl ?_
     first | exact congrArg Value.bool (trackOk_len (by omega)).symm | exact congrArg Value.bool (trackOk_no hl0_1 hx (by simp only [StretchOk, SpanOk]; omega)).symm | exact congrArg Value.bool (trackOk_yes hl0_1 (by omega) (by omega)).symm
   replace h72 := DT h72
   refine WS fun _ hK73 => rS (FA 5 rfl fo126_3 rfl) <| rS (LP (SpanV.cells x.Radius) 0 rfl tk34 rfl rfl rfl) <| rS (CL (span_1 x.Radius 500 20000) (ha_nil) rfl) <| rS (NT rfl) <| RK hK73 ?_
   refine w_if rfl (fun h74 => ?_) (fun h74 => ?_)
   · replace h74 := XT h74
     refine WS fun _ hK75 => rS (AG rfl) <| RK hK75 <| w_ret <| Q1 hQ rfl rfl rfl ?_
     first | exact congrArg Value.bool (trackOk_len (by omega)).symm | exact congrArg Value.bool (trackOk_no hl0_1 hx (by simp only [StretchOk, SpanOk]; omega)).symm | exact congrArg Value.bool (trackOk_yes hl0_1 (by omega) (by omega)).symm
   replace h74 := XF h74
   refine w_skip <| k_block <| k_block <| KK hK13 <| w_region <| rS (MV rfl) <| rS (BI rfl (b_add ⟨by omega, by omega⟩)) <| rS (AG rfl) <| r_nil ?_
   refine k_then (hJ9 ⟨(i + 1), ⟨by omega, trackFrom_next hl0_1 hx (by simp only [StretchOk, SpanOk]; omega), by rw [lastId_succ hx]; omega⟩⟩ _ _ _ rfl (by first | omega | (simp; omega)) (Sub.cons rfl <| Sub.cons rfl <| Sub.nil _) (fun w hs => St.sel [1, 2] rfl rfl hs))
 replace h20 := DT h20
 refine dS (FA 0 rfl fo126_0 rfl) <| dS (L1 (Value.int .i64 x.Id) 0 rfl tk3 rfl rfl) <| dS (FA 0 rfl fo24_0 rfl) <| dS (L1 (Value.slice tsA ts.length tsC) 1 rfl tk22 rfl rfl) <| dS (MV rfl) <| dS (BI rfl (b_sub ⟨by omega, by omega⟩)) ?_
 obtain ⟨y, hy⟩ : ∃ y_, ts[(i - 1)]? = some y_ := ⟨ts[(i - 1)]'(by omega), List.getElem?_eq_getElem _⟩
 have hym : (ts.map StretchV.cells)[(i - 1)]? = some (StretchV.cells y) := by rw [List.getElem?_map, hy]; rfl
 refine dS (IA (i - 1) rfl (has_at 2 rfl) te22 (by decide) (by omega) (by omega)) <| dS (FAR ((i - 1) * 9) rfl (has_at 2 rfl) (Nat.mul_pos (by omega) (by decide)) fo126_0 rfl) ?_
 have hyl := lastId_pos (by omega) hy
 refine dS (LE1 (i - 1) 0 (Value.int .i64 y.Id) rfl tk3 (has_at 2 rfl) hym rfl (by decide) rfl) <| dS (BI rfl b_leq) <| dS (PK rfl) <| dS (PK rfl) <| dS (MV rfl) ?_
 refine d_bool (t := 42) rfl (fun h21 => ?_) (fun h21 => ?_)
 · replace h21 := DT h21
   refine dS (OX rfl) <| dS (OX rfl) <| dS (OX rfl) <| dS (OX rfl) <| dS (PK rfl) <| dS (MV rfl) <| dS (OX rfl) <| dS (OX rfl) <| dS (OX rfl) <| dS (OX rfl) ?_
   refine dS (PK rfl) <| dS (MV rfl) <| dS (OX rfl) <| dS (OX rfl) <| dS (OX rfl) <| dS (OX rfl) <| dS (PK rfl) <| d_end <| RK hK17 <| w_if_true rfl ?_
   refine WS fun _ hK22 => rS (AG rfl) <| RK hK22 <| w_ret <| Q1 hQ rfl rfl rfl ?_
   first | exact congrArg Value.bool (trackOk_len (by omega)).symm | exact congrArg Value.bool (trackOk_no hl0_1 hx (by simp only [StretchOk, SpanOk]; omega)).symm | exact congrArg Value.bool (trackOk_yes hl0_1 (by omega) (by omega)).symm
 replace h21 := DF h21
 refine dS (FA 1 rfl fo126_1 rfl) <| dS (LP (SpanV.cells x.Long) 0 rfl tk34 rfl rfl rfl) <| dS (CL (span_1 x.Long 1 30000) (ha_nil) rfl) <| dS (NT rfl) <| dS (PK rfl) <| dS (MV rfl) ?_
 refine d_bool (t := 48) rfl (fun h23 => ?_) (fun h23 => ?_)
 · replace h23 := XT h23
   refine dS (OX rfl) <| dS (OX rfl) <| dS (OX rfl) <| dS (OX rfl) <| dS (PK rfl) <| dS (MV rfl) <| dS (OX rfl) <| dS (OX rfl) <| dS (OX rfl) <| dS (OX rfl) ?_
   refine dS (PK rfl) <| d_end <| RK hK17 <| w_if_true rfl <| WS fun _ hK24 => rS (AG rfl) <| RK hK24 <| w_ret <| Q1 hQ rfl rfl rfl ?_
   first | exact congrArg Value.bool (trackOk_len (by omega)).symm | exact congrArg Value.bool (trackOk_no hl0_1 hx (by simp only [StretchOk, SpanOk]; omega)).symm | exact congrArg Value.bool (trackOk_yes hl0_1 (by omega) (by omega)).symm
 replace h23 := XF h23
 refine dS (FA 3 rfl fo126_2 rfl) <| dS (LP (SpanV.cells x.Fall) 0 rfl tk34 rfl rfl rfl) <| dS (CL (span_1 x.Fall 0 5000) (ha_nil) rfl) <| dS (NT rfl) <| dS (PK rfl) <| dS (MV rfl) ?_
 refine d_bool (t := 54) rfl (fun h25 => ?_) (fun h25 => ?_)
 · replace h25 := XT h25
   refine dS (OX rfl) <| dS (OX rfl) <| dS (OX rfl) <| dS (OX rfl) <| dS (PK rfl) <| d_end <| RK hK17 <| w_if_true rfl <| WS fun _ hK26 => rS (AG rfl) ?_
   refine RK hK26 <| w_ret <| Q1 hQ rfl rfl rfl ?_
   first | exact congrArg Value.bool (trackOk_len (by omega)).symm | exact congrArg Value.bool (trackOk_no hl0_1 hx (by simp only [StretchOk, SpanOk]; omega)).symm | exact congrArg Value.bool (trackOk_yes hl0_1 (by omega) (by omega)).symm
 replace h25 := XF h25
 refine dS (FA 8 rfl fo126_5 rfl) <| dS (L1 (Value.int .i64 x.Wall) 0 rfl tk3 rfl rfl) <| dS (CL (within_1 x.Wall 0 5000) (ha_nil) rfl) <| dS (NT rfl) <| dS (PK rfl) <| d_end <| RK hK17 ?_
 refine w_if rfl (fun h27 => ?_) (fun h27 => ?_)
 · replace h27 := XT h27
   refine WS fun _ hK28 => rS (AG rfl) <| RK hK28 <| w_ret <| Q1 hQ rfl rfl rfl ?_
   first | exact congrArg Value.bool (trackOk_len (by omega)).symm | exact congrArg Value.bool (trackOk_no hl0_1 hx (by simp only [StretchOk, SpanOk]; omega)).symm | exact congrArg Value.bool (trackOk_yes hl0_1 (by omega) (by omega)).symm
 replace h27 := XF h27
 refine WK hK16 <| WS fun _ hK29 => rS (FA 7 rfl fo126_4 rfl) <| rS (L1 (Value.int .u8 x.Side) 0 rfl tk5 rfl rfl) <| RK hK29 <| w_block <| WS fun _ hK30 => rS (BI rfl b_eql) <| rS (AG rfl) <| RK hK30 ?_
 refine w_if rfl (fun h31 => ?_) (fun h31 => ?_)
 · replace h31 := DT h31
   refine WS fun _ hK32 => rS (FA 5 rfl fo126_3 rfl) <| rS (FA 5 rfl fo34_0 rfl) <| rS (L1 (Value.int .i64 x.Radius.Lo) 0 rfl tk3 rfl rfl) <| rS (BI rfl b_neq) <| rS (MV rfl) ?_
   refine r_bool (t := 68) rfl (fun h33 => ?_) (fun h33 => ?_)
   · replace h33 := XT h33
     refine rS (OX rfl) <| rS (OX rfl) <| rS (OX rfl) <| rS (OX rfl) <| rS (PK rfl) <| RK hK32 <| w_if_true rfl <| WS fun _ hK34 => rS (AG rfl) <| RK hK34 ?_
     refine w_ret <| Q1 hQ rfl rfl rfl ?_
     first | exact congrArg Value.bool (trackOk_len (by omega)).symm | exact congrArg Value.bool (trackOk_no hl0_1 hx (by simp only [StretchOk, SpanOk]; omega)).symm | exact congrArg Value.bool (trackOk_yes hl0_1 (by omega) (by omega)).symm
   replace h33 := XF h33
   refine rS (FA 5 rfl fo126_3 rfl) <| rS (FA 6 rfl fo34_1 rfl) <| rS (L1 (Value.int .i64 x.Radius.Hi) 0 rfl tk3 rfl rfl) <| rS (BI rfl b_neq) <| rS (PK rfl) <| RK hK32 ?_
   refine w_if rfl (fun h35 => ?_) (fun h35 => ?_)
   · replace h35 := XT h35
     refine WS fun _ hK36 => rS (AG rfl) <| RK hK36 <| w_ret <| Q1 hQ rfl rfl rfl ?_
     first | exact congrArg Value.bool (trackOk_len (by omega)).symm | exact congrArg Value.bool (trackOk_no hl0_1 hx (by simp only [StretchOk, SpanOk]; omega)).symm | exact congrArg Value.bool (trackOk_yes hl0_1 (by omega) (by omega)).symm
   replace h35 := XF h35
   refine w_skip <| k_block <| k_block <| KK hK13 <| w_region <| rS (MV rfl) <| rS (BI rfl (b_add ⟨by omega, by omega⟩)) <| rS (AG rfl) <| r_nil ?_
   refine k_then (hJ9 ⟨(i + 1), ⟨by omega, trackFrom_next hl0_1 hx (by simp only [StretchOk, SpanOk]; omega), by rw [lastId_succ hx]; omega⟩⟩ _ _ _ rfl (by first | omega | (simp; omega)) (Sub.cons rfl <| Sub.cons rfl <| Sub.nil _) (fun w hs => St.sel [1, 2] rfl rfl hs))
 replace h31 := DF h31
 refine w_seq fun _ hK37 => WS fun _ hK38 => rS (BI rfl b_eql) <| rS (AG rfl) <| RK hK38 ?_
 refine w_if rfl (fun h39 => ?_) (fun h39 => ?_)
 · replace h39 := DT h39
   refine WK hK37 ?_
   refine w_if rfl (fun h40 => ?_) (fun h40 => ?_)
   rotate_left 1
   · replace h40 := DF h40
     refine WS fun _ hK44 => rS (AG rfl) <| RK hK44 <| w_ret <| Q1 hQ rfl rfl rfl ?_
     first | exact congrArg Value.bool (trackOk_len (by omega)).symm | exact congrArg Value.bool (trackOk_no hl0_1 hx (by simp only [StretchOk, SpanOk]; omega)).symm | exact congrArg Value.bool (trackOk_yes hl0_1 (by omega) (by omega)).symm
   replace h40 := DT h40
   refine WS fun _ hK41 => rS (FA 5 rfl fo126_3 rfl) <| rS (LP (SpanV.cells x.Radius) 0 rfl tk34 rfl rfl rfl) <| rS (CL (span_1 x.Radius 500 20000) (ha_nil) rfl) <| rS (NT rfl) <| RK hK41 ?_
   refine w_if rfl (fun h42 => ?_) (fun h42 => ?_)
   · replace h42 := XT h42
     refine WS fun _ hK43 => rS (AG rfl) <| RK hK43 <| w_ret <| Q1 hQ rfl rfl rfl ?_
     first | exact congrArg Value.bool (trackOk_len (by omega)).symm | exact congrArg Value.bool (trackOk_no hl0_1 hx (by simp only [StretchOk, SpanOk]; omega)).symm | exact congrArg Value.bool (trackOk_yes hl0_1 (by omega) (by omega)).symm
   replace h42 := XF h42
   refine w_skip <| k_block <| k_block <| KK hK13 <| w_region <| rS (MV rfl) <| rS (BI rfl (b_add ⟨by omega, by omega⟩)) <| rS (AG rfl) <| r_nil ?_
   refine k_then (hJ9 ⟨(i + 1), ⟨by omega, trackFrom_next hl0_1 hx (by simp only [StretchOk, SpanOk]; omega), by rw [lastId_succ hx]; omega⟩⟩ _ _ _ rfl (by first | omega | (simp; omega)) (Sub.cons rfl <| Sub.cons rfl <| Sub.nil _) (fun w hs => St.sel [1, 2] rfl rfl hs))
 replace h39 := DF h39
 refine w_region <| rS (BI rfl b_eql) <| rS (AG rfl) <| RK hK37 ?_
 refine w_if rfl (fun h45 => ?_) (fun h45 => ?_)
 rotate_left 1
 · replace h45 := DF h45
   refine WS fun _ hK49 => rS (AG rfl) <| RK hK49 <| w_ret <| Q1 hQ rfl rfl rfl ?_
   first | exact congrArg Value.bool (trackOk_len (by omega)).symm | exact congrArg Value.bool (trackOk_no hl0_1 hx (by simp only [StretchOk, SpanOk]; omega)).symm | exact congrArg Value.bool (trackOk_yes hl0_1 (by omega) (by omega)).symm
 replace h45 := DT h45
 refine WS fun _ hK46 => rS (FA 5 rfl fo126_3 rfl) <| rS (LP (SpanV.cells x.Radius) 0 rfl tk34 rfl rfl rfl) <| rS (CL (span_1 x.Radius 500 20000) (ha_nil) rfl) <| rS (NT rfl) <| RK hK46 ?_
 refine w_if rfl (fun h47 => ?_) (fun h47 => ?_)
 · replace h47 := XT h47
   refine WS fun _ hK48 => rS (AG rfl) <| RK hK48 <| w_ret <| Q1 hQ rfl rfl rfl ?_
   first | exact congrArg Value.bool (trackOk_len (by omega)).symm | exact congrArg Value.bool (trackOk_no hl0_1 hx (by simp only [StretchOk, SpanOk]; omega)).symm | exact congrArg Value.bool (trackOk_yes hl0_1 (by omega) (by omega)).symm
 replace h47 := XF h47
 refine w_skip <| k_block <| k_block <| KK hK13 <| w_region <| rS (MV rfl) <| rS (BI rfl (b_add ⟨by omega, by omega⟩)) <| rS (AG rfl) <| r_nil ?_
 refine k_then (hJ9 ⟨(i + 1), ⟨by omega, trackFrom_next hl0_1 hx (by simp only [StretchOk, SpanOk]; omega), by rw [lastId_succ hx]; omega⟩⟩ _ _ _ rfl (by first | omega | (simp; omega)) (Sub.cons rfl <| Sub.cons rfl <| Sub.nil _) (fun w hs => St.sel [1, 2] rfl rfl hs))
set_option maxRecDepth 100000 in
set_option maxHeartbeats 400000 in
theorem tcheck_c (ts : List StretchV) (tsA : Option Addr) (tsC : Nat) (hlen : ts.length ≤ 1000000) (hside : ∀ x ∈ ts, 0 ≤ x.Side ∧ x.Side ≤ 255) :
    FnV Try.prog 54 [(Value.agg (TrackV.cells (TrackV.mk (Slc.mk tsA ts.length tsC))).toArray)] [(rd tsA ts.length 9 (ts.map StretchV.cells))] (Value.int .i64 (if trackOk ts = true then 0 else 10)) := by
 refine fnV_of go54 Try.func54 rfl rfl fun w0 Q hQ hN => ?_
 try dsimp only
 refine WS fun _ hK1 => BXA rfl fun b2 => rS (AG rfl) <| RK hK1 <| w_scope rfl <| w_seq fun _ hK3 => WS fun _ hK4 => rS (FA 0 rfl fo24_0 rfl) <| rS (L1 (Value.slice tsA ts.length tsC) 0 rfl tk22 rfl rfl) <| rS (LN rfl ut22) ?_
 refine r_bs (xs := [.tmp 11]) (cs := [(Value.int .i64 ((ts.length : Nat) : Int))]) rfl te57 tz3 rfl rfl rfl rfl (by simp [Value.cells]) rfl rfl fun b5 => rS (CL (FnV.eq (in_track 1 12 ([((ts.length : Nat) : Int)]) (some ⟨b5, 0, none⟩) 1 (by first | assumption | omega | (simp; done) | (simp; omega))) inAll_one) (ha_cons (has_rd_blk 0 rfl rfl (by simp [iC_length]) rfl) <| ha_nil) rfl) <| rS (NT rfl) <| RK hK4 ?_
 refine w_if rfl (fun h6 => ?_) (fun h6 => ?_)
 · replace h6 := XT h6
   refine WS fun _ hK7 => rS (AG rfl) <| RK hK7 <| w_ret <| Q1 hQ rfl rfl rfl ?_
   first | exact congrArg (Value.int .i64) (if_neg (by rw [trackOk_len (by omega)]; decide)).symm | exact congrArg (Value.int .i64) (if_neg (by rw [trackOk_no hl0_1 hx (by simp only [StretchOk, SpanOk]; omega)]; decide)).symm | exact congrArg (Value.int .i64) (if_pos (trackOk_yes hl0_1 (by omega) (by omega))).symm
 replace h6 := XF h6
 refine WK hK3 <| WS fun _ hK8 => rS (AG rfl) <| RK hK8 <| WS fun _ hK9 => rS (AG rfl) <| RK hK9 <| w_seq fun _ hK10 => w_label <| KK hK10 ?_
 refine w_seq fun _ hK11 => WS fun _ hK12 => rS (FA 0 rfl fo24_0 rfl) <| rS (L1 (Value.slice tsA ts.length tsC) 1 rfl tk22 rfl rfl) <| rS (LN rfl ut22) <| rS (MV rfl) <| RK hK12 <| w_block ?_
 have hinit : (0 ≤ ts.length) ∧ (trackFrom (-1) ts = trackFrom (lastId ts 0) (ts.drop 0)) ∧ (-1 ≤ lastId ts 0) ∧ (lastId ts 0 ≤ 9999) := by (refine ⟨by omega, rfl, by simp [lastId], by simp [lastId]⟩)
 refine w_loop (ι := { z : Nat // (z ≤ ts.length) ∧ (trackFrom (-1) ts = trackFrom (lastId ts z) (ts.drop z)) ∧ (-1 ≤ lastId ts z) ∧ (lastId ts z ≤ 9999) }) (fun z => [(1, (Value.pointer (some ⟨b2, 0, none⟩))), (3, (Value.int .i64 (lastId ts z.1))), (4, (Value.int .i64 0)), (16, (Value.slice tsA ts.length tsC)), (17, (Value.int .i64 ((ts.length : Nat) : Int))), (18, (Value.int .i64 (z.1 : Int)))]) (fun z => [(blk b2 24 (TrackV.cells (TrackV.mk (Slc.mk tsA ts.length tsC)))), (rd tsA ts.length 9 (ts.map StretchV.cells)).ro]) (fun z => ts.length - z.1) ⟨0, hinit⟩ (Sub.cons rfl <| Sub.cons rfl <| Sub.cons rfl <| Sub.cons rfl <| Sub.cons rfl <| Sub.cons rfl <| Sub.nil _) (fun w hs => St.sel [1, 2] rfl rfl hs) ?_
 clear hinit
 rintro ⟨i, ⟨hl0_0, hl0_1, hl0_2, hl0_3⟩⟩ J13 hJ13
 try dsimp only
 refine WS fun _ hK14 => rS (BI rfl b_lss) <| RK hK14 <| w_seq fun _ hK15 => ?_
 refine w_if rfl (fun h16 => ?_) (fun h16 => ?_)
 rotate_left 1
 · replace h16 := DF h16
   refine w_exit <| k_exit_then <| k_exit_then <| k_exit_same <| KK hK11 <| WS fun _ hK51 => rS (MV rfl) <| rS (AG rfl) <| RK hK51 <| w_ret ?_
   refine Q1 hQ rfl rfl rfl ?_
   first | exact congrArg (Value.int .i64) (if_neg (by rw [trackOk_len (by omega)]; decide)).symm | exact congrArg (Value.int .i64) (if_neg (by rw [trackOk_no hl0_1 hx (by simp only [StretchOk, SpanOk]; omega)]; decide)).symm | exact congrArg (Value.int .i64) (if_pos (trackOk_yes hl0_1 (by omega) (by omega))).symm
 replace h16 := DT h16
 refine WK hK15 <| w_seq fun _ hK17 => w_block <| WS fun _ hK18 => ?_
 obtain ⟨x, hx⟩ : ∃ y_, ts[i]? = some y_ := ⟨ts[i]'(by omega), List.getElem?_eq_getElem _⟩
 have hxm : (ts.map StretchV.cells)[i]? = some (StretchV.cells x) := by rw [List.getElem?_map, hx]; rfl
 refine rS (IA i rfl (has_at 1 rfl) te22 (by decide) (by omega) (by omega)) ?_
 have hsd := hside x (List.mem_of_getElem? hx)
 refine rS (LEN i 0 (StretchV.cells x) rfl tk126 (has_at 1 rfl) hxm rfl (by decide) rfl rfl) <| AL rfl tz126 fun b19 => SW0 rfl ts126 rfl <| RK hK18 ?_
 refine w_join (ι := Unit) (fun z => [(1, (Value.pointer (some ⟨b2, 0, none⟩))), (3, (Value.int .i64 (lastId ts i))), (4, (Value.int .i64 0)), (6, (Value.pointer (some ⟨b19, 0, none⟩))), (7, (Value.bool (decide (x.Side = 0 ∧ x.Radius.Lo = 0 ∧ x.Radius.Hi = 0)))), (16, (Value.slice tsA ts.length tsC)), (17, (Value.int .i64 ((ts.length : Nat) : Int))), (18, (Value.int .i64 (i : Int)))]) (fun z => [(blk b19 126 (StretchV.cells x)), (blk b2 24 (TrackV.cells (TrackV.mk (Slc.mk tsA ts.length tsC)))), (rd tsA ts.length 9 (ts.map StretchV.cells)).ro]) ?_ fun K20 hK20 => ?_
 · intro _
   try dsimp only
   refine w_join (ι := Unit) (fun z => [(1, (Value.pointer (some ⟨b2, 0, none⟩))), (3, (Value.int .i64 (lastId ts i))), (4, (Value.int .i64 0)), (6, (Value.pointer (some ⟨b19, 0, none⟩))), (7, (Value.bool (decide (x.Side = 0 ∧ x.Radius.Lo = 0 ∧ x.Radius.Hi = 0)))), (8, (Value.bool (decide ((1 ≤ x.Side ∧ x.Side ≤ 2) ∧ x.Radius.Lo ≤ x.Radius.Hi ∧ 500 ≤ x.Radius.Lo ∧ x.Radius.Hi ≤ 20000)))), (16, (Value.slice tsA ts.length tsC)), (17, (Value.int .i64 ((ts.length : Nat) : Int))), (18, (Value.int .i64 (i : Int)))]) (fun z => [(blk b19 126 (StretchV.cells x)), (blk b2 24 (TrackV.cells (TrackV.mk (Slc.mk tsA ts.length tsC)))), (rd tsA ts.length 9 (ts.map StretchV.cells)).ro]) ?_ fun K21 hK21 => ?_
   · intro _
     try dsimp only
     refine w_seq fun _ hK22 => WS fun _ hK23 => rS (MV rfl) <| rS (BI rfl (b_add ⟨by omega, by omega⟩)) <| rS (FA 0 rfl fo126_0 rfl) <| rS (L1 (Value.int .i64 x.Id) 0 rfl tk3 rfl rfl) <| r_bs (xs := [.tmp 44]) (cs := [(Value.int .i64 x.Id)]) rfl te57 tz3 rfl rfl rfl rfl (by simp [Value.cells]) rfl rfl fun b24 => rS (CL (FnV.eq (in_track ((lastId ts i) + 1) 9999 ([x.Id]) (some ⟨b24, 0, none⟩) 1 (by first | assumption | omega | (simp; done) | (simp; omega))) inAll_one) (ha_cons (has_rd_blk 0 rfl rfl (by simp [iC_length]) rfl) <| ha_nil) rfl) <| rS (NT rfl) <| rS (MV rfl) ?_
     refine r_bool (t := 48) rfl (fun h25 => ?_) (fun h25 => ?_)
     · replace h25 := XT h25
       refine rS (OX rfl) <| rS (OX rfl) <| rS (OX rfl) <| rS (OX rfl) <| rS (PK rfl) <| rS (MV rfl) <| rS (OX rfl) <| rS (OX rfl) <| rS (OX rfl) <| rS (OX rfl) ?_
       refine rS (PK rfl) <| rS (MV rfl) <| rS (OX rfl) <| rS (OX rfl) <| rS (OX rfl) <| rS (OX rfl) <| rS (OX rfl) <| rS (PK rfl) <| rS (MV rfl) <| rS (OX rfl) ?_
       refine rS (OX rfl) <| rS (OX rfl) <| rS (OX rfl) <| rS (OX rfl) <| rS (OX rfl) <| rS (PK rfl) <| RK hK23 <| w_if_true rfl <| WS fun _ hK26 => rS (AG rfl) ?_
       refine RK hK26 <| w_exit <| k_exit_then <| k_exit_other rfl <| k_exit_then <| k_exit_then <| k_exit_same <| KK hK11 <| WS fun _ hK27 => rS (MV rfl) ?_
       refine rS (AG rfl) <| RK hK27 <| w_ret <| Q1 hQ rfl rfl rfl ?_
       first | exact congrArg (Value.int .i64) (if_neg (by rw [trackOk_len (by omega)]; decide)).symm | exact congrArg (Value.int .i64) (if_neg (by rw [trackOk_no hl0_1 hx (by simp only [StretchOk, SpanOk]; omega)]; decide)).symm | exact congrArg (Value.int .i64) (if_pos (trackOk_yes hl0_1 (by omega) (by omega))).symm
     replace h25 := XF h25
     refine rS (FA 1 rfl fo126_1 rfl) <| rS (LP (SpanV.cells x.Long) 1 rfl tk34 rfl rfl rfl) <| rS (CL (known_c x.Long 1 30000) (ha_nil) rfl) <| rS (NT rfl) <| rS (PK rfl) <| rS (MV rfl) ?_
     refine r_bool (t := 54) rfl (fun h28 => ?_) (fun h28 => ?_)
     · replace h28 := XT h28
       refine rS (OX rfl) <| rS (OX rfl) <| rS (OX rfl) <| rS (OX rfl) <| rS (PK rfl) <| rS (MV rfl) <| rS (OX rfl) <| rS (OX rfl) <| rS (OX rfl) <| rS (OX rfl) ?_
       refine rS (OX rfl) <| rS (PK rfl) <| rS (MV rfl) <| rS (OX rfl) <| rS (OX rfl) <| rS (OX rfl) <| rS (OX rfl) <| rS (OX rfl) <| rS (OX rfl) <| rS (PK rfl) ?_
       refine RK hK23 <| w_if_true rfl <| WS fun _ hK29 => rS (AG rfl) <| RK hK29 <| w_exit <| k_exit_then <| k_exit_other rfl <| k_exit_then <| k_exit_then ?_
       refine k_exit_same <| KK hK11 <| WS fun _ hK30 => rS (MV rfl) <| rS (AG rfl) <| RK hK30 <| w_ret <| Q1 hQ rfl rfl rfl ?_
       first | exact congrArg (Value.int .i64) (if_neg (by rw [trackOk_len (by omega)]; decide)).symm | exact congrArg (Value.int .i64) (if_neg (by rw [trackOk_no hl0_1 hx (by simp only [StretchOk, SpanOk]; omega)]; decide)).symm | exact congrArg (Value.int .i64) (if_pos (trackOk_yes hl0_1 (by omega) (by omega))).symm
     replace h28 := XF h28
     refine rS (FA 3 rfl fo126_2 rfl) <| rS (LP (SpanV.cells x.Fall) 1 rfl tk34 rfl rfl rfl) <| rS (CL (known_c x.Fall 0 5000) (ha_nil) rfl) <| rS (NT rfl) <| rS (PK rfl) <| rS (MV rfl) ?_
     refine r_bool (t := 60) rfl (fun h31 => ?_) (fun h31 => ?_)
     · replace h31 := XT h31
       refine rS (OX rfl) <| rS (OX rfl) <| rS (OX rfl) <| rS (OX rfl) <| rS (OX rfl) <| rS (PK rfl) <| rS (MV rfl) <| rS (OX rfl) <| rS (OX rfl) <| rS (OX rfl) ?_
       refine rS (OX rfl) <| rS (OX rfl) <| rS (OX rfl) <| rS (PK rfl) <| RK hK23 <| w_if_true rfl <| WS fun _ hK32 => rS (AG rfl) <| RK hK32 <| w_exit ?_
       refine k_exit_then <| k_exit_other rfl <| k_exit_then <| k_exit_then <| k_exit_same <| KK hK11 <| WS fun _ hK33 => rS (MV rfl) <| rS (AG rfl) <| RK hK33 ?_
       refine w_ret <| Q1 hQ rfl rfl rfl ?_
       first | exact congrArg (Value.int .i64) (if_neg (by rw [trackOk_len (by omega)]; decide)).symm | exact congrArg (Value.int .i64) (if_neg (by rw [trackOk_no hl0_1 hx (by simp only [StretchOk, SpanOk]; omega)]; decide)).symm | exact congrArg (Value.int .i64) (if_pos (trackOk_yes hl0_1 (by omega) (by omega))).symm
     replace h31 := XF h31
     refine rS (FA 8 rfl fo126_5 rfl) <| rS (L1 (Value.int .i64 x.Wall) 1 rfl tk3 rfl rfl) <| r_bs (xs := [.tmp 62]) (cs := [(Value.int .i64 x.Wall)]) rfl te57 tz3 rfl rfl rfl rfl (by simp [Value.cells]) rfl rfl fun b34 => rS (CL (FnV.eq (in_track 0 5000 ([x.Wall]) (some ⟨b34, 0, none⟩) 1 (by first | assumption | omega | (simp; done) | (simp; omega))) inAll_one) (ha_cons (has_rd_blk 0 rfl rfl (by simp [iC_length]) rfl) <| ha_nil) rfl) <| rS (NT rfl) <| rS (PK rfl) <| rS (MV rfl) ?_
     refine r_bool (t := 67) rfl (fun h35 => ?_) (fun h35 => ?_)
     · replace h35 := XT h35
       refine rS (OX rfl) <| rS (OX rfl) <| rS (OX rfl) <| rS (OX rfl) <| rS (OX rfl) <| rS (OX rfl) <| rS (PK rfl) <| RK hK23 <| w_if_true rfl <| WS fun _ hK36 => ?_
       refine rS (AG rfl) <| RK hK36 <| w_exit <| k_exit_then <| k_exit_other rfl <| k_exit_then <| k_exit_then <| k_exit_same <| KK hK11 <| WS fun _ hK37 => ?_
       refine rS (MV rfl) <| rS (AG rfl) <| RK hK37 <| w_ret <| Q1 hQ rfl rfl rfl ?_
       first | exact congrArg (Value.int .i64) (if_neg (by rw [trackOk_len (by omega)]; decide)).symm | exact congrArg (Value.int .i64) (if_neg (by rw [trackOk_no hl0_1 hx (by simp only [StretchOk, SpanOk]; omega)]; decide)).symm | exact congrArg (Value.int .i64) (if_pos (trackOk_yes hl0_1 (by omega) (by omega))).symm
     replace h35 := XF h35
     refine rS (MV rfl) <| rS (NT rfl) <| rS (MV rfl) ?_
     refine r_bool (t := 70) rfl (fun h38 => ?_) (fun h38 => ?_)
     rotate_left 1
     · replace h38 := XF h38
       refine rS (OX rfl) <| rS (OX rfl) <| rS (PK rfl) <| rS (PK rfl) <| RK hK23 <| w_if_false rfl <| WK hK22 <| w_region <| rS (FA 0 rfl fo126_0 rfl) <| rS (L1 (Value.int .i64 x.Id) 2 rfl tk3 rfl rfl) ?_
       refine rS (AG rfl) <| r_nil <| k_block <| KK hK17 <| w_region <| rS (BI rfl (b_add ⟨by omega, by omega⟩)) <| rS (MV rfl) <| r_nil ?_
       have hb43 : (Value.int .i64 (lastId ts (i + 1))) = (Value.int .i64 x.Id) := by rw [lastId_succ hx]
       refine k_then (hJ13 ⟨(i + 1), ⟨by omega, trackFrom_next hl0_1 hx (by simp only [StretchOk, SpanOk]; omega), by rw [lastId_succ hx]; omega, by rw [lastId_succ hx]; omega⟩⟩ _ _ _ rfl (by first | omega | (simp; omega)) (Sub.cons rfl <| sub_val rfl hb43 <| Sub.cons rfl <| Sub.cons rfl <| Sub.cons rfl <| Sub.cons rfl <| Sub.nil _) (fun w hs => St.sel [3, 4] rfl rfl hs))
     replace h38 := XT h38
     refine rS (MV rfl) <| rS (NT rfl) <| rS (PK rfl) <| rS (PK rfl) <| RK hK23 ?_
     refine w_if rfl (fun h39 => ?_) (fun h39 => ?_)
     · replace h39 := XT h39
       refine WS fun _ hK40 => rS (AG rfl) <| RK hK40 <| w_exit <| k_exit_then <| k_exit_other rfl <| k_exit_then <| k_exit_then <| k_exit_same <| KK hK11 ?_
       refine WS fun _ hK41 => rS (MV rfl) <| rS (AG rfl) <| RK hK41 <| w_ret <| Q1 hQ rfl rfl rfl ?_
       first | exact congrArg (Value.int .i64) (if_neg (by rw [trackOk_len (by omega)]; decide)).symm | exact congrArg (Value.int .i64) (if_neg (by rw [trackOk_no hl0_1 hx (by simp only [StretchOk, SpanOk]; omega)]; decide)).symm | exact congrArg (Value.int .i64) (if_pos (trackOk_yes hl0_1 (by omega) (by omega))).symm
     replace h39 := XF h39
     refine WK hK22 <| w_region <| rS (FA 0 rfl fo126_0 rfl) <| rS (L1 (Value.int .i64 x.Id) 2 rfl tk3 rfl rfl) <| rS (AG rfl) <| r_nil <| k_block <| KK hK17 <| w_region <| rS (BI rfl (b_add ⟨by omega, by omega⟩)) ?_
     refine rS (MV rfl) <| r_nil ?_
     have hb42 : (Value.int .i64 (lastId ts (i + 1))) = (Value.int .i64 x.Id) := by rw [lastId_succ hx]
     refine k_then (hJ13 ⟨(i + 1), ⟨by omega, trackFrom_next hl0_1 hx (by simp only [StretchOk, SpanOk]; omega), by rw [lastId_succ hx]; omega, by rw [lastId_succ hx]; omega⟩⟩ _ _ _ rfl (by first | omega | (simp; omega)) (Sub.cons rfl <| sub_val rfl hb42 <| Sub.cons rfl <| Sub.cons rfl <| Sub.cons rfl <| Sub.cons rfl <| Sub.nil _) (fun w hs => St.sel [3, 4] rfl rfl hs))
   refine w_region <| rS (FA 7 rfl fo126_4 rfl) <| rS (L1 (Value.int .u8 x.Side) 0 rfl tk5 rfl rfl) <| rS (SX (sd_conv (m := x.Side) rfl rfl ut5 ut3 (wrap_u8_i64 (by first | assumption | omega))) rfl rfl) <| r_bs (xs := [.tmp 33]) (cs := [(Value.int .i64 x.Side)]) rfl te57 tz3 rfl rfl rfl rfl (by simp [Value.cells]) rfl rfl fun b44 => rS (CL (FnV.eq (in_track 1 2 ([x.Side]) (some ⟨b44, 0, none⟩) 1 (by first | assumption | omega | (simp; done) | (simp; omega))) inAll_one) (ha_cons (has_rd_blk 0 rfl rfl (by simp [iC_length]) rfl) <| ha_nil) rfl) <| rS (MV rfl) ?_
   refine r_bool (t := 36) rfl (fun h45 => ?_) (fun h45 => ?_)
   rotate_left 1
   · replace h45 := DF h45
     refine rS (OX rfl) <| rS (OX rfl) <| rS (OX rfl) <| rS (PK rfl) <| rS (AG rfl) <| r_nil ?_
     have hb47 : (decide ((1 ≤ x.Side ∧ x.Side ≤ 2) ∧ x.Radius.Lo ≤ x.Radius.Hi ∧ 500 ≤ x.Radius.Lo ∧ x.Radius.Hi ≤ 20000)) = false := decide_eq_false (by first | omega | (simp only [SpanV.ext_iff] at *; omega))
     refine k_then (k_sub (Sub.cons rfl <| Sub.cons rfl <| Sub.cons rfl <| Sub.cons rfl <| Sub.cons rfl <| sub_bool rfl hb47 <| Sub.cons rfl <| Sub.cons rfl <| Sub.cons rfl <| Sub.nil _) (fun w hs => St.sel [1, 2, 3] rfl rfl hs) (hK21 ()))
   replace h45 := DT h45
   refine rS (FA 5 rfl fo126_3 rfl) <| rS (LP (SpanV.cells x.Radius) 1 rfl tk34 rfl rfl rfl) <| rS (CL (known_c x.Radius 500 20000) (ha_nil) rfl) <| rS (PK rfl) <| rS (AG rfl) <| r_nil ?_
   have hb46 : (decide ((1 ≤ x.Side ∧ x.Side ≤ 2) ∧ x.Radius.Lo ≤ x.Radius.Hi ∧ 500 ≤ x.Radius.Lo ∧ x.Radius.Hi ≤ 20000)) = (decide (x.Radius.Lo ≤ x.Radius.Hi ∧ 500 ≤ x.Radius.Lo ∧ x.Radius.Hi ≤ 20000)) := decide_eq_decide.2 (by first | omega | (simp only [SpanV.ext_iff] at *; omega))
   refine k_then (k_sub (Sub.cons rfl <| Sub.cons rfl <| Sub.cons rfl <| Sub.cons rfl <| Sub.cons rfl <| sub_bool rfl hb46 <| Sub.cons rfl <| Sub.cons rfl <| Sub.cons rfl <| Sub.nil _) (fun w hs => St.sel [1, 2, 3] rfl rfl hs) (hK21 ()))
 refine w_region <| rS (FA 7 rfl fo126_4 rfl) <| rS (L1 (Value.int .u8 x.Side) 0 rfl tk5 rfl rfl) <| rS (BI rfl b_eql) <| rS (MV rfl) ?_
 refine r_bool (t := 25) rfl (fun h48 => ?_) (fun h48 => ?_)
 rotate_left 1
 · replace h48 := DF h48
   refine rS (OX rfl) <| rS (OX rfl) <| rS (OX rfl) <| rS (OX rfl) <| rS (PK rfl) <| rS (AG rfl) <| r_nil ?_
   have hb50 : (decide (x.Side = 0 ∧ x.Radius.Lo = 0 ∧ x.Radius.Hi = 0)) = false := decide_eq_false (by first | omega | (simp only [SpanV.ext_iff] at *; omega))
   refine k_then (k_sub (Sub.cons rfl <| Sub.cons rfl <| Sub.cons rfl <| Sub.cons rfl <| sub_bool rfl hb50 <| Sub.cons rfl <| Sub.cons rfl <| Sub.cons rfl <| Sub.nil _) (fun w hs => St.sel [0, 1, 2] rfl rfl hs) (hK20 ()))
 replace h48 := DT h48
 refine rS (FA 5 rfl fo126_3 rfl) <| rS (LP (SpanV.cells x.Radius) 0 rfl tk34 rfl rfl rfl) <| rS (SX (sd_build (xs := []) (cs := (SpanV.cells (SpanV.mk 0 0))) rfl rfl (built_of tb34 rfl)) rfl rfl) <| rS (BI rfl (eqs34 _ _ x.Radius (SpanV.mk 0 0))) <| rS (PK rfl) <| rS (AG rfl) <| r_nil ?_
 have hb49 : (decide (x.Side = 0 ∧ x.Radius.Lo = 0 ∧ x.Radius.Hi = 0)) = (decide (x.Radius = (SpanV.mk 0 0))) := decide_eq_decide.2 (by first | omega | (simp only [SpanV.ext_iff] at *; omega))
 refine k_then (k_sub (Sub.cons rfl <| Sub.cons rfl <| Sub.cons rfl <| Sub.cons rfl <| sub_bool rfl hb49 <| Sub.cons rfl <| Sub.cons rfl <| Sub.cons rfl <| Sub.nil _) (fun w hs => St.sel [0, 1, 2] rfl rfl hs) (hK20 ()))
set_option maxRecDepth 100000 in
set_option maxHeartbeats 400000 in
theorem sameints_c (la : List Int) (laA : Option Addr) (laC : Nat) (lb : List Int) (lbA : Option Addr) (lbC : Nat) (h1 : la.length ≤ 1000000) (h2 : lb.length ≤ 1000000) :
    FnV Try.prog 30 [(Value.slice laA la.length laC), (Value.slice lbA lb.length lbC)] [(rd laA la.length 1 (la.map iC)), (rd lbA lb.length 1 (lb.map iC))] (Value.bool (decide (la = lb))) := by
 refine fnV_of go30 Try.func30 rfl rfl fun w0 Q hQ hN => ?_
 try dsimp only
 refine WS fun _ hK1 => rS (AG rfl) <| RK hK1 <| w_seq fun _ hK2 => WS fun _ hK3 => rS (MV rfl) <| rS (LN rfl ut57) <| rS (MV rfl) <| rS (LN rfl ut57) <| rS (BI rfl b_neq) ?_
 refine RK hK3 ?_
 refine w_if rfl (fun hl => ?_) (fun hl => ?_)
 · replace hl := XT hl
   refine WS fun _ hK4 => rS (AG rfl) <| RK hK4 <| w_ret <| Q1 hQ rfl rfl rfl ?_
   first | exact congrArg Value.bool (decide_eq_false (lists_ne hx hy h)).symm | exact congrArg Value.bool (decide_eq_true (lists_eq (by omega) hl0_1 (by omega))).symm | exact congrArg Value.bool (decide_eq_false (fun e => by subst e; omega)).symm
 replace hl := XF hl
 refine WK hK2 <| w_seq fun _ hK5 => WS fun _ hK6 => rS (AG rfl) <| RK hK6 <| w_block ?_
 have hinit : (0 ≤ la.length) ∧ (la.take 0 = lb.take 0) := by simp
 refine w_loop (ι := { z : Nat // (z ≤ la.length) ∧ (la.take z = lb.take z) }) (fun z => [(0, (Value.slice laA la.length laC)), (1, (Value.slice lbA lb.length lbC)), (5, (Value.int .i64 ((z.1 : Nat) : Int)))]) (fun z => [(rd laA la.length 1 (la.map iC)).ro, (rd lbA lb.length 1 (lb.map iC)).ro]) (fun z => la.length - z.1) ⟨0, hinit⟩ (Sub.cons rfl <| Sub.cons rfl <| Sub.cons rfl <| Sub.nil _) (fun w hs => St.sel [0, 1] rfl rfl hs) ?_
 clear hinit
 rintro ⟨i, ⟨hl0_0, hl0_1⟩⟩ J7 hJ7
 try dsimp only
 refine w_seq fun _ hK8 => WS fun _ hK9 => rS (MV rfl) <| rS (MV rfl) <| rS (LN rfl ut57) <| rS (BI rfl b_lss) <| RK hK9 ?_
 refine w_if rfl (fun h10 => ?_) (fun h10 => ?_)
 rotate_left 1
 · replace h10 := DF h10
   refine w_exit <| k_exit_then <| k_exit_then <| k_exit_same <| KK hK5 <| WS fun _ hK15 => rS (AG rfl) <| RK hK15 <| w_ret <| Q1 hQ rfl rfl rfl ?_
   first | exact congrArg Value.bool (decide_eq_false (lists_ne hx hy h)).symm | exact congrArg Value.bool (decide_eq_true (lists_eq (by omega) hl0_1 (by omega))).symm | exact congrArg Value.bool (decide_eq_false (fun e => by subst e; omega)).symm
 replace h10 := DT h10
 refine WK hK8 <| w_seq fun _ hK11 => w_block <| w_seq fun _ hK12 => w_draw mixed 9 (by kernel_rfl) <| dS (MV rfl) <| dS (MV rfl) ?_
 obtain ⟨x, hx⟩ : ∃ y_, la[i]? = some y_ := ⟨la[i]'(by omega), List.getElem?_eq_getElem _⟩
 have hxm : (la.map iC)[i]? = some (iC x) := by rw [List.getElem?_map, hx]; rfl
 refine dS (IA i rfl (has_at 0 rfl) te57 (by decide) (by omega) (by omega)) <| dS (LE1 i 0 (Value.int .i64 x) rfl tk3 (has_at 0 rfl) hxm rfl (by decide) rfl) <| dS (MV rfl) <| dS (MV rfl) ?_
 obtain ⟨y, hy⟩ : ∃ y_, lb[i]? = some y_ := ⟨lb[i]'(by omega), List.getElem?_eq_getElem _⟩
 have hym : (lb.map iC)[i]? = some (iC y) := by rw [List.getElem?_map, hy]; rfl
 refine dS (IA i rfl (has_at 1 rfl) te57 (by decide) (by omega) (by omega)) <| dS (LE1 i 0 (Value.int .i64 y) rfl tk3 (has_at 1 rfl) hym rfl (by decide) rfl) <| dS (BI rfl b_neq) <| d_end <| RK hK12 ?_
 refine w_if rfl (fun h => ?_) (fun h => ?_)
 · replace h := XT h
   refine WS fun _ hK13 => rS (AG rfl) <| RK hK13 <| w_ret <| Q1 hQ rfl rfl rfl ?_
   first | exact congrArg Value.bool (decide_eq_false (lists_ne hx hy h)).symm | exact congrArg Value.bool (decide_eq_true (lists_eq (by omega) hl0_1 (by omega))).symm | exact congrArg Value.bool (decide_eq_false (fun e => by subst e; omega)).symm
 replace h := XF h
 refine w_skip <| k_block <| KK hK11 <| w_region <| rS (MV rfl) <| rS (BI rfl (b_add ⟨by omega, by omega⟩)) <| rS (AG rfl) <| r_nil ?_
 have hb14 : (Value.int .i64 (((i + 1) : Nat) : Int)) = (Value.int .i64 (((i : Nat) : Int) + 1)) := by exact congrArg (Value.int .i64) (by omega)
 refine k_then (hJ7 ⟨(i + 1), ⟨by omega, take_same hl0_1 hx hy h⟩⟩ _ _ _ rfl (by first | omega | (simp; omega)) (Sub.cons rfl <| Sub.cons rfl <| sub_val rfl hb14 <| Sub.nil _) (fun w hs => St.sel [0, 1] rfl rfl hs))
end
section
open Go.RowKit
set_option linter.unusedVariables false
set_option maxRecDepth 100000 in
set_option maxHeartbeats 400000 in
theorem in1_beam (n : Int) (lo : Int) (hi : Int) (g1 : Nat) (g2 : Nat) :
    FnV Try.prog 74 [(Value.int .i64 n), (Value.pointer (some ⟨g1, 0, none⟩)), (Value.pointer (some ⟨g2, 0, none⟩))] [(blk g1 3 [(Value.int .i64 lo)]), (blk g2 3 [(Value.int .i64 hi)])] (Value.bool (decide (n < lo ∨ hi < n))) := by
 refine fnV_of go74 Try.func74 rfl rfl fun w0 Q hQ hN => ?_
 try dsimp only
 refine WS fun _ hK1 => rS (AG rfl) <| RK hK1 <| WS fun _ hK2 => rS (MV rfl) <| rS (L1Q 0 rfl tk3 rfl) <| rS (BI rfl b_lss) <| rS (MV rfl) ?_
 refine r_bool (t := 8) rfl (fun h3 => ?_) (fun h3 => ?_)
 · replace h3 := DT h3
   refine rS (OX rfl) <| rS (OX rfl) <| rS (OX rfl) <| rS (PK rfl) <| rS (AG rfl) <| RK hK2 <| w_ret <| Q1 hQ rfl rfl rfl ?_
   exact congrArg Value.bool (decide_eq_true (by omega)).symm
 replace h3 := DF h3
 refine rS (MV rfl) <| rS (L1Q 1 rfl tk3 rfl) <| rS (BI rfl b_gtr) <| rS (PK rfl) <| rS (AG rfl) <| RK hK2 <| w_ret <| Q1 hQ rfl rfl rfl ?_
 exact congrArg Value.bool (decide_eq_decide.2 (by omega))
set_option maxRecDepth 100000 in
set_option maxHeartbeats 400000 in
theorem in_beam (lo : Int) (hi : Int) (l : List Int) (lA : Option Addr) (lC : Nat) (hlen : l.length ≤ 1000000) :
    FnV Try.prog 45 [(Value.int .i64 lo), (Value.int .i64 hi), (Value.slice lA l.length lC)] [(rd lA l.length 1 (l.map iC))] (Value.bool (inAll lo hi l)) := by
 refine fnV_of go45 Try.func45 rfl rfl fun w0 Q hQ hN => ?_
 try dsimp only
 refine WS fun _ hK1 => BX1 rfl rfl fun b2 => BX1 rfl rfl fun b3 => rS (AG rfl) <| RK hK1 <| WS fun _ hK4 => rS (MV rfl) <| rS (FU rfl) <| rS (CL (contains_c l lA lC (Value.func (.func 74) [].toArray [(Value.pointer (some ⟨b2, 0, none⟩)), (Value.pointer (some ⟨b3, 0, none⟩))].toArray) (fun u5 => (decide (u5 < lo ∨ hi < u5))) (bun [(blk b2 3 [(Value.int .i64 lo)]), (blk b3 3 [(Value.int .i64 hi)])]) (by intro u5 _; exact clo_of (fi := []) (ca := [(Value.pointer (some ⟨b2, 0, none⟩)), (Value.pointer (some ⟨b3, 0, none⟩))]) (fnV_bun (in1_beam u5 lo hi b2 b3 ) (ha_at 0 rfl rfl <| ha_at 1 rfl rfl <| ha_nil))) hlen) (ha_at 2 rfl rfl <| ha_cons (has_bun (ha_at 1 rfl rfl <| ha_at 0 rfl rfl <| ha_nil)) <| ha_nil) rfl) <| rS (NT rfl) ?_
 refine rS (AG rfl) <| RK hK4 <| w_ret ?_
 exact Q1 hQ rfl rfl rfl rfl
set_option maxRecDepth 100000 in
set_option maxHeartbeats 400000 in
theorem up_c (n : Int) (d : Int) (hd : 2 ≤ d) :
    FnV Try.prog 51 [(Value.int .i64 n), (Value.int .i64 d)] [] (Value.int .i64 (upG n d)) := by
 refine fnV_of go51 Try.func51 rfl rfl fun w0 Q hQ hN => ?_
 try dsimp only
 refine WS fun _ hK1 => rS (AG rfl) <| RK hK1 <| WS fun _ hK2 => rS (MV rfl) <| rS (MV rfl) <| rS (BI rfl b_addW) <| rS (BI rfl b_subW) <| rS (MV rfl) <| rS (BI rfl (b_quot (by omega) (tdiv_b (w64_b _) hd))) ?_
 refine rS (AG rfl) <| RK hK2 <| w_ret ?_
 exact Q1 hQ rfl rfl rfl rfl
set_option maxRecDepth 100000 in
set_option maxHeartbeats 400000 in
theorem upd_c (n : Int) (d : Int) (hd : 1 ≤ d ∧ d ≤ 1000000) (hn : 0 ≤ n ∧ n ≤ 1000000000000000) :
    FnV Try.prog 51 [(Value.int .i64 n), (Value.int .i64 d)] [] (Value.int .i64 (upD n d)) := by
 refine fnV_of go51 Try.func51 rfl rfl fun w0 Q hQ hN => ?_
 try dsimp only
 refine WS fun _ hK1 => rS (AG rfl) <| RK hK1 <| WS fun _ hK2 => rS (MV rfl) <| rS (MV rfl) <| rS (BI rfl (b_add ⟨by omega, by omega⟩)) <| rS (BI rfl (b_sub ⟨by omega, by omega⟩)) <| rS (MV rfl) <| rS (BI rfl (b_quo (by omega) (by omega) (by omega))) ?_
 refine rS (AG rfl) <| RK hK2 <| w_ret ?_
 exact Q1 hQ rfl rfl rfl rfl
set_option maxRecDepth 100000 in
set_option maxHeartbeats 400000 in
theorem ahead_c (c : ClockM) (sA : Option Addr) (sC : Nat) (at_ : Int) (hc : ClockOk c) (ha : 0 ≤ at_ ∧ at_ ≤ 90000000) :
    FnV Try.prog 46 [(Value.agg (ClockV.cells (ClockV.mk c.Drift (Slc.mk sA c.Syncs.length sC))).toArray), (Value.int .i64 at_)] [(rd sA c.Syncs.length 3 (c.Syncs.map SyncV.cells))] (Value.agg (SpanV.cells (aheadF c at_)).toArray) := by
 have hcl := hc.len
 have hcd := hc.drift
 refine fnV_of go46 Try.func46 rfl rfl fun w0 Q hQ hN => ?_
 try dsimp only
 refine WS fun _ hK1 => BXA rfl fun b2 => AL rfl tz34 fun b3 => RK hK1 <| WS fun _ hK4 => rS (SX (sd_build (xs := [(0, .const (Value.int .i64 (-1099511627776))), (1, .const (Value.int .i64 1099511627776))]) (cs := (SpanV.cells (SpanV.mk (-1099511627776) 1099511627776))) rfl rfl (built_of tb34 rfl)) rfl rfl) <| AL rfl tz34 fun b5 => SW0 rfl ts34 rfl <| RK hK4 <| w_seq fun _ hK6 => ?_
 refine w_seq fun _ hK7 => ?_
 have hb8 : (SpanV.cells (SpanV.mk (-1099511627776) 1099511627776)) = (SpanV.cells (aheadK c at_ 0)) := by rfl
 rw [hb8]
 refine w_region <| rS (FA 1 rfl fo64_1 rfl) <| rS (L1 (Value.slice sA c.Syncs.length sC) 2 rfl tk62 rfl rfl) <| rS (LN rfl ut62) <| rS (MV rfl) <| RK hK7 <| w_block ?_
 have hinit : (0 ≤ c.Syncs.length) := by exact Nat.zero_le _
 refine w_loop (ι := { z : Nat // (z ≤ c.Syncs.length) }) (fun z => [(1, (Value.int .i64 at_)), (2, (Value.pointer (some ⟨b2, 0, none⟩))), (4, (Value.pointer (some ⟨b3, 0, none⟩))), (5, (Value.pointer (some ⟨b5, 0, none⟩))), (11, (Value.slice sA c.Syncs.length sC)), (12, (Value.int .i64 ((c.Syncs.length : Nat) : Int))), (13, (Value.int .i64 ((z.1 : Nat) : Int)))]) (fun z => [(blk b5 34 (SpanV.cells (aheadK c at_ z.1))), (blk b3 34 (SpanV.cells (SpanV.mk 0 0))), (blk b2 64 (ClockV.cells (ClockV.mk c.Drift (Slc.mk sA c.Syncs.length sC)))), (rd sA c.Syncs.length 3 (c.Syncs.map SyncV.cells)).ro]) (fun z => c.Syncs.length - z.1) ⟨0, hinit⟩ (Sub.cons rfl <| Sub.cons rfl <| Sub.cons rfl <| Sub.cons rfl <| Sub.cons rfl <| Sub.cons rfl <| Sub.cons rfl <| Sub.nil _) (fun w hs => St.sel [0, 1, 2, 3] rfl rfl hs) ?_
 clear hinit
 rintro ⟨i, hl0_0⟩ J9 hJ9
 try dsimp only
 refine WS fun _ hK10 => rS (BI rfl b_lss) <| RK hK10 <| w_seq fun _ hK11 => ?_
 refine w_if rfl (fun h12 => ?_) (fun h12 => ?_)
 rotate_left 1
 · replace h12 := DF h12
   refine w_exit <| k_exit_then <| k_exit_then <| k_exit_same <| KK hK6 <| WS fun _ hK19 => rS (LW 0 rfl tk34 rfl rfl) <| SW1 rfl ts34 rfl <| RK hK19 <| w_ret ?_
   refine hQ _ _ _ (l_nil (vs := [(Value.agg (SpanV.cells (aheadK c at_ i)).toArray)]) ⟨⟨_, rfl, .inl ⟨_, _, tk34, at_blk (vs := (SpanV.cells (aheadK c at_ i))) 1 rfl rfl, rfl, rfl⟩⟩, trivial⟩ fun w hs => endV ?_ hs)
   show (Value.agg (SpanV.cells (aheadK c at_ i)).toArray) = (Value.agg (SpanV.cells (aheadF c at_)).toArray)
   clear hs w hQ hN hK19 hK11 hK10 hK7 hK6 hK4 hK1
   rw [aheadK_all (show c.Syncs.length ≤ i by omega)]
 replace h12 := DT h12
 refine WK hK11 <| w_seq fun _ hK13 => w_block <| WS fun _ hK14 => ?_
 obtain ⟨x, hx⟩ : ∃ y_, c.Syncs[i]? = some y_ := ⟨c.Syncs[i]'(by omega), List.getElem?_eq_getElem _⟩
 have hxm : (c.Syncs.map SyncV.cells)[i]? = some (SyncV.cells x) := by rw [List.getElem?_map, hx]; rfl
 refine rS (IA i rfl (has_at 3 rfl) te62 (by decide) (by omega) (by omega)) <| rS (LEN i 0 (SyncV.cells x) rfl tk61 (has_at 3 rfl) hxm rfl (by decide) rfl rfl) <| AL rfl tz61 fun b15 => SW0 rfl ts61 rfl <| RK hK14 <| WS fun _ hK16 => rS (FA 0 rfl fo64_0 rfl) <| rS (L1 (Value.int .i64 c.Drift) 3 rfl tk3 rfl rfl) <| rS (MV rfl) <| rS (FA 0 rfl fo61_0 rfl) ?_
 refine rS (L1 (Value.int .i64 x.At) 0 rfl tk3 rfl rfl) ?_
 have hsb := hc.sync_b hx
 have hkb := aheadK_b hc ha i
 have hdb := drift_b hcd ha (show 0 ≤ x.At ∧ x.At ≤ 90000000 by omega)
 refine rS (BI rfl (b_sub ⟨by omega, by omega⟩)) <| rS (FA 0 rfl fo61_0 rfl) <| rS (L1 (Value.int .i64 x.At) 0 rfl tk3 rfl rfl) <| rS (MV rfl) <| rS (BI rfl (b_sub ⟨by omega, by omega⟩)) <| rS (MX rfl) <| rS (BI rfl (b_mul ⟨by omega, by omega⟩)) <| rS (CL (upd_c (c.Drift * (max (at_ - x.At) (x.At - at_))) 1000000 (by first | assumption | omega | (simp; done) | (simp; omega)) (by first | assumption | omega | (simp; done) | (simp; omega))) (ha_nil) rfl) <| rS (AG rfl) <| RK hK16 ?_
 refine w_region <| rS (FA 0 rfl fo34_0 rfl) <| rS (L1 (Value.int .i64 ((aheadK c at_ i).Lo)) 1 rfl tk3 rfl rfl) <| rS (FA 1 rfl fo61_1 rfl) <| rS (FA 1 rfl fo34_0 rfl) <| rS (L1 (Value.int .i64 x.Ahead.Lo) 0 rfl tk3 rfl rfl) <| rS (MV rfl) ?_
 have hob : 0 ≤ upD (c.Drift * max (at_ - x.At) (x.At - at_)) 1000000 ∧ upD (c.Drift * max (at_ - x.At) (x.At - at_)) 1000000 ≤ 90001 := offF_b hcd ha hsb.1
 refine rS (BI rfl (b_sub ⟨by omega, by omega⟩)) <| rS (MX rfl) <| rS (FA 1 rfl fo34_1 rfl) <| rS (L1 (Value.int .i64 ((aheadK c at_ i).Hi)) 1 rfl tk3 rfl rfl) <| rS (FA 1 rfl fo61_1 rfl) <| rS (FA 2 rfl fo34_1 rfl) <| rS (L1 (Value.int .i64 x.Ahead.Hi) 0 rfl tk3 rfl rfl) <| rS (MV rfl) <| rS (BI rfl (b_add ⟨by omega, by omega⟩)) <| rS (MN rfl) ?_
 refine rS (SX (sd_build (xs := [(0, .tmp 37), (1, .tmp 45)]) (cs := (SpanV.cells (SpanV.mk (max ((aheadK c at_ i).Lo) (x.Ahead.Lo - (upD (c.Drift * (max (at_ - x.At) (x.At - at_))) 1000000))) (min ((aheadK c at_ i).Hi) (x.Ahead.Hi + (upD (c.Drift * (max (at_ - x.At) (x.At - at_))) 1000000)))))) rfl rfl (built_of tb34 rfl)) rfl rfl) <| SW1 rfl ts34 rfl <| r_nil <| k_block <| KK hK13 ?_
 have hb17 : (SpanV.cells (SpanV.mk (max ((aheadK c at_ i).Lo) (x.Ahead.Lo - (upD (c.Drift * (max (at_ - x.At) (x.At - at_))) 1000000))) (min ((aheadK c at_ i).Hi) (x.Ahead.Hi + (upD (c.Drift * (max (at_ - x.At) (x.At - at_))) 1000000))))) = (SpanV.cells (aheadK c at_ (i + 1))) := by rw [aheadK_succ hx]; rfl
 rw [hb17]
 refine w_region <| rS (BI rfl (b_add ⟨by omega, by omega⟩)) <| rS (MV rfl) <| r_nil ?_
 have hb18 : (Value.int .i64 (((i + 1) : Nat) : Int)) = (Value.int .i64 (((i : Nat) : Int) + 1)) := by exact congrArg (Value.int .i64) (by omega)
 refine k_then (hJ9 ⟨(i + 1), (by first | omega | (simp only []; omega))⟩ _ _ _ rfl (by first | omega | (simp; omega)) (Sub.cons rfl <| Sub.cons rfl <| Sub.cons rfl <| Sub.cons rfl <| Sub.cons rfl <| Sub.cons rfl <| sub_val rfl hb18 <| Sub.nil _) (fun w hs => St.sel [1, 2, 3, 4] rfl rfl hs))
set_option maxRecDepth 100000 in
set_option maxHeartbeats 400000 in
theorem goes_c (c : ClockM) (sA : Option Addr) (sC : Nat) (hlen : c.Syncs.length ≤ 1000000) (hcap : c.Syncs.length ≤ sC) :
    FnV Try.prog 85 [(Value.agg (ClockV.cells (ClockV.mk c.Drift (Slc.mk sA c.Syncs.length sC))).toArray)] [(rd sA c.Syncs.length 3 (c.Syncs.map SyncV.cells))] (Value.bool (decide (ClockOk c))) := by
 refine fnV_of go85 Try.func85 rfl rfl fun w0 Q hQ hN => ?_
 try dsimp only
 refine WS fun _ hK1 => BXA rfl fun b2 => rS (AG rfl) <| RK hK1 <| w_scope rfl <| w_seq fun _ hK3 => WS fun _ hK4 => rS (FA 0 rfl fo64_0 rfl) <| rS (L1 (Value.int .i64 c.Drift) 0 rfl tk3 rfl rfl) <| r_bs (xs := [.tmp 11]) (cs := [(Value.int .i64 c.Drift)]) rfl te57 tz3 rfl rfl rfl rfl (by simp [Value.cells]) rfl rfl fun b5 => ?_
 refine rS (CL (FnV.eq (in_beam 0 1000 ([c.Drift]) (some ⟨b5, 0, none⟩) 1 (by first | assumption | omega | (simp; done) | (simp; omega))) inAll_one) (ha_cons (has_rd_blk 0 rfl rfl (by simp [iC_length]) rfl) <| ha_nil) rfl) <| rS (NT rfl) <| rS (MV rfl) ?_
 refine r_bool (t := 15) rfl (fun h15 => ?_) (fun h15 => ?_)
 · replace h15 := XT h15
   refine rS (OX rfl) <| rS (OX rfl) <| rS (OX rfl) <| rS (OX rfl) <| rS (OX rfl) <| rS (OX rfl) <| rS (PK rfl) <| RK hK4 <| w_if_true rfl <| WS fun _ hK6 => ?_
   refine rS (AG rfl) <| RK hK6 <| w_ret <| Q1 hQ rfl rfl rfl ?_
   first | exact congrArg Value.bool (decide_eq_false fun h => h15 h.drift).symm | exact congrArg Value.bool (decide_eq_false fun h => h22 (by have := h.len; omega)).symm | exact congrArg Value.bool (decide_eq_true (clock_yes h15 (by omega) (by have e : i = c.Syncs.length := (by omega); rw [← e]; exact hl0_1))).symm | exact congrArg Value.bool (by have e : k = i := (by omega); rw [e] at hl1_1; rw [h99] at hl1_1 ⊢; exact (decide_eq_false (clock_no hx (of_decide_eq_false hl1_1.symm))).symm)
 replace h15 := XF h15
 refine rS (FA 1 rfl fo64_1 rfl) <| rS (L1 (Value.slice sA c.Syncs.length sC) 1 rfl tk62 rfl rfl) <| rS (LN rfl ut62) <| r_bs (xs := [.tmp 18]) (cs := [(Value.int .i64 ((c.Syncs.length : Nat) : Int))]) rfl te57 tz3 rfl rfl rfl rfl (by simp [Value.cells]) rfl rfl fun b7 => rS (CL (FnV.eq (in_beam 1 5 ([((c.Syncs.length : Nat) : Int)]) (some ⟨b7, 0, none⟩) 1 (by first | assumption | omega | (simp; done) | (simp; omega))) inAll_one) (ha_cons (has_rd_blk 0 rfl rfl (by simp [iC_length]) rfl) <| ha_nil) rfl) <| rS (NT rfl) <| rS (PK rfl) <| RK hK4 ?_
 refine w_if rfl (fun h22 => ?_) (fun h22 => ?_)
 · replace h22 := XT h22
   refine WS fun _ hK8 => rS (AG rfl) <| RK hK8 <| w_ret <| Q1 hQ rfl rfl rfl ?_
   first | exact congrArg Value.bool (decide_eq_false fun h => h15 h.drift).symm | exact congrArg Value.bool (decide_eq_false fun h => h22 (by have := h.len; omega)).symm | exact congrArg Value.bool (decide_eq_true (clock_yes h15 (by omega) (by have e : i = c.Syncs.length := (by omega); rw [← e]; exact hl0_1))).symm | exact congrArg Value.bool (by have e : k = i := (by omega); rw [e] at hl1_1; rw [h99] at hl1_1 ⊢; exact (decide_eq_false (clock_no hx (of_decide_eq_false hl1_1.symm))).symm)
 replace h22 := XF h22
 refine WK hK3 <| WS fun _ hK9 => rS (AG rfl) <| RK hK9 <| WS fun _ hK10 => rS (AG rfl) <| RK hK10 <| w_seq fun _ hK11 => w_label <| KK hK11 ?_
 refine w_seq fun _ hK12 => WS fun _ hK13 => rS (FA 1 rfl fo64_1 rfl) <| rS (L1 (Value.slice sA c.Syncs.length sC) 2 rfl tk62 rfl rfl) <| rS (LN rfl ut62) <| rS (MV rfl) <| RK hK13 <| w_block ?_
 have hinit : (0 ≤ c.Syncs.length) ∧ (DoneOk c 0) := by exact ⟨Nat.zero_le _, done_zero⟩
 have hb14 : (Value.int .i64 (prevAt c 0)) = (Value.int .i64 (-1)) := by rw [prevAt_zero rfl]
 refine w_loop (ι := { z : Nat // (z ≤ c.Syncs.length) ∧ (DoneOk c z) }) (fun z => [(1, (Value.pointer (some ⟨b2, 0, none⟩))), (2, (Value.bool false)), (3, (Value.int .i64 (prevAt c z.1))), (4, (Value.bool true)), (24, (Value.slice sA c.Syncs.length sC)), (25, (Value.int .i64 ((c.Syncs.length : Nat) : Int))), (26, (Value.int .i64 ((z.1 : Nat) : Int)))]) (fun z => [(blk b2 64 (ClockV.cells (ClockV.mk c.Drift (Slc.mk sA c.Syncs.length sC)))), (rd sA c.Syncs.length 3 (c.Syncs.map SyncV.cells)).ro]) (fun z => c.Syncs.length - z.1) ⟨0, hinit⟩ (Sub.cons rfl <| Sub.cons rfl <| sub_val rfl hb14 <| Sub.cons rfl <| Sub.cons rfl <| Sub.cons rfl <| Sub.cons rfl <| Sub.nil _) (fun w hs => St.sel [2, 3] rfl rfl hs) ?_
 clear hinit
 rintro ⟨i, ⟨hl0_0, hl0_1⟩⟩ J15 hJ15
 try dsimp only
 have hpv : -1 ≤ prevAt c i ∧ prevAt c i ≤ 86400000 := prev_b hl0_0 hl0_1
 refine WS fun _ hK16 => rS (BI rfl b_lss) <| RK hK16 <| w_seq fun _ hK17 => ?_
 refine w_if rfl (fun h18 => ?_) (fun h18 => ?_)
 rotate_left 1
 · replace h18 := DF h18
   refine w_exit <| k_exit_then <| k_exit_then <| k_exit_same <| KK hK12 <| WS fun _ hK47 => rS (MV rfl) <| rS (AG rfl) <| RK hK47 <| w_ret ?_
   refine Q1 hQ rfl rfl rfl ?_
   first | exact congrArg Value.bool (decide_eq_false fun h => h15 h.drift).symm | exact congrArg Value.bool (decide_eq_false fun h => h22 (by have := h.len; omega)).symm | exact congrArg Value.bool (decide_eq_true (clock_yes h15 (by omega) (by have e : i = c.Syncs.length := (by omega); rw [← e]; exact hl0_1))).symm | exact congrArg Value.bool (by have e : k = i := (by omega); rw [e] at hl1_1; rw [h99] at hl1_1 ⊢; exact (decide_eq_false (clock_no hx (of_decide_eq_false hl1_1.symm))).symm)
 replace h18 := DT h18
 refine WK hK17 <| w_seq fun _ hK19 => w_block <| WS fun _ hK20 => rS (MV rfl) ?_
 obtain ⟨x, hx⟩ : ∃ y_, c.Syncs[i]? = some y_ := ⟨c.Syncs[i]'(by omega), List.getElem?_eq_getElem _⟩
 have hxm : (c.Syncs.map SyncV.cells)[i]? = some (SyncV.cells x) := by rw [List.getElem?_map, hx]; rfl
 refine rS (IA i rfl (has_at 1 rfl) te62 (by decide) (by omega) (by omega)) <| rS (LEN i 0 (SyncV.cells x) rfl tk61 (has_at 1 rfl) hxm rfl (by decide) rfl rfl) <| AL rfl tz61 fun b21 => rS (AG rfl) <| SW0 rfl ts61 rfl <| RK hK20 ?_
 refine w_join (ι := Unit) (fun z => [(1, (Value.pointer (some ⟨b2, 0, none⟩))), (2, (Value.bool false)), (3, (Value.int .i64 (prevAt c i))), (4, (Value.bool (decide (SyncOk c i x)))), (5, (Value.int .i64 ((i : Nat) : Int))), (6, (Value.pointer (some ⟨b21, 0, none⟩))), (24, (Value.slice sA c.Syncs.length sC)), (25, (Value.int .i64 ((c.Syncs.length : Nat) : Int))), (26, (Value.int .i64 ((i : Nat) : Int)))]) (fun z => [(blk b21 61 (SyncV.cells x)), (blk b2 64 (ClockV.cells (ClockV.mk c.Drift (Slc.mk sA c.Syncs.length sC)))), (rd sA c.Syncs.length 3 (c.Syncs.map SyncV.cells)).ro]) ?_ fun K22 hK22 => ?_
 · intro _
   try dsimp only
   refine w_seq fun _ hK23 => WS fun _ hK24 => rS (FA 1 rfl fo64_1 rfl) <| rS (L1 (Value.slice sA c.Syncs.length sC) 1 rfl tk62 rfl rfl) <| rS (MV rfl) <| rS (SHI i rfl te62 (by omega) (by first | omega | exact Nat.zero_le _ | (simp; omega))) <| rS (LN rfl ut62) <| rS (MV rfl) <| RK hK24 <| w_block ?_
   have hinit : (0 ≤ i) ∧ ((decide (SyncOk c i x)) = (decide (RoundOk c i x 0))) := by exact ⟨Nat.zero_le _, decide_eq_decide.2 round_zero.symm⟩
   refine w_loop (ι := { z : Nat × Bool // (z.1 ≤ i) ∧ (z.2 = (decide (RoundOk c i x z.1))) }) (fun z => [(1, (Value.pointer (some ⟨b2, 0, none⟩))), (2, (Value.bool false)), (3, (Value.int .i64 (prevAt c i))), (4, (Value.bool z.1.2)), (5, (Value.int .i64 ((i : Nat) : Int))), (6, (Value.pointer (some ⟨b21, 0, none⟩))), (24, (Value.slice sA c.Syncs.length sC)), (25, (Value.int .i64 ((c.Syncs.length : Nat) : Int))), (26, (Value.int .i64 ((i : Nat) : Int))), (59, (Value.slice sA i sC)), (60, (Value.int .i64 ((i : Nat) : Int))), (61, (Value.int .i64 ((z.1.1 : Nat) : Int)))]) (fun z => [(blk b21 61 (SyncV.cells x)), (blk b2 64 (ClockV.cells (ClockV.mk c.Drift (Slc.mk sA c.Syncs.length sC)))), (rd sA c.Syncs.length 3 (c.Syncs.map SyncV.cells)).ro]) (fun z => i - z.1.1) ⟨(0, (decide (SyncOk c i x))), hinit⟩ (Sub.cons rfl <| Sub.cons rfl <| Sub.cons rfl <| Sub.cons rfl <| Sub.cons rfl <| Sub.cons rfl <| Sub.cons rfl <| Sub.cons rfl <| Sub.cons rfl <| Sub.cons rfl <| Sub.cons rfl <| Sub.cons rfl <| Sub.nil _) (fun w hs => St.sel [0, 1, 2] rfl rfl hs) ?_
   clear hinit
   rintro ⟨⟨k, b⟩, ⟨hl1_0, hl1_1⟩⟩ J25 hJ25
   try dsimp only at hl1_0 hl1_1
   try dsimp only
   refine WS fun _ hK26 => rS (BI rfl b_lss) <| RK hK26 <| w_seq fun _ hK27 => ?_
   refine w_if rfl (fun h28 => ?_) (fun h28 => ?_)
   rotate_left 1
   · replace h28 := DF h28
     refine w_exit <| k_exit_then <| k_exit_then <| k_exit_same <| KK hK23 <| w_seq fun _ hK36 => WS fun _ hK37 => rS (MV rfl) <| rS (NT rfl) <| RK hK37 ?_
     refine w_if rfl (fun h99 => ?_) (fun h99 => ?_)
     · rw [Bool.not_eq_true'] at h99
       refine w_exit <| k_exit_then <| k_exit_other rfl <| k_exit_then <| k_exit_then <| k_exit_same <| KK hK12 <| WS fun _ hK38 => rS (MV rfl) <| rS (AG rfl) ?_
       refine RK hK38 <| w_ret <| Q1 hQ rfl rfl rfl ?_
       first | exact congrArg Value.bool (decide_eq_false fun h => h15 h.drift).symm | exact congrArg Value.bool (decide_eq_false fun h => h22 (by have := h.len; omega)).symm | exact congrArg Value.bool (decide_eq_true (clock_yes h15 (by omega) (by have e : i = c.Syncs.length := (by omega); rw [← e]; exact hl0_1))).symm | exact congrArg Value.bool (by have e : k = i := (by omega); rw [e] at hl1_1; rw [h99] at hl1_1 ⊢; exact (decide_eq_false (clock_no hx (of_decide_eq_false hl1_1.symm))).symm)
     rw [Bool.not_eq_false'] at h99
     refine WK hK36 <| w_region <| rS (FA 0 rfl fo61_0 rfl) <| rS (L1 (Value.int .i64 x.At) 0 rfl tk3 rfl rfl) <| rS (AG rfl) <| r_nil <| k_block <| KK hK19 <| w_region <| rS (BI rfl (b_add ⟨by omega, by omega⟩)) ?_
     refine rS (MV rfl) <| r_nil ?_
     have hb39 : (Value.int .i64 (prevAt c (i + 1))) = (Value.int .i64 x.At) := by rw [prevAt_succ hx]
     have hb40 : (Value.bool true) = (Value.bool b) := by exact congrArg Value.bool h99.symm
     have hb41 : (Value.int .i64 (((i + 1) : Nat) : Int)) = (Value.int .i64 (((i : Nat) : Int) + 1)) := by exact congrArg (Value.int .i64) (by omega)
     refine k_then (hJ15 ⟨(i + 1), ⟨by omega, done_succ hl0_1 hx (by have e : k = i := (by omega); rw [e] at hl1_1; exact of_decide_eq_true (hl1_1.symm.trans h99))⟩⟩ _ _ _ rfl (by first | omega | (simp; omega)) (Sub.cons rfl <| Sub.cons rfl <| sub_val rfl hb39 <| sub_val rfl hb40 <| Sub.cons rfl <| Sub.cons rfl <| sub_val rfl hb41 <| Sub.nil _) (fun w hs => St.sel [1, 2] rfl rfl hs))
   replace h28 := DT h28
   refine WK hK27 <| w_seq fun _ hK29 => w_block <| WS fun _ hK30 => ?_
   obtain ⟨o, ho⟩ : ∃ y_, c.Syncs[k]? = some y_ := ⟨c.Syncs[k]'(by omega), List.getElem?_eq_getElem _⟩
   have hom : (c.Syncs.map SyncV.cells)[k]? = some (SyncV.cells o) := by rw [List.getElem?_map, ho]; rfl
   refine rS (IAH k rfl (has_at 2 rfl) te62 (by decide) (by omega) (by omega) (by omega)) <| rS (LEN k 0 (SyncV.cells o) rfl tk61 (has_at 2 rfl) hom rfl (by decide) rfl rfl) <| AL rfl tz61 fun b31 => SW0 rfl ts61 rfl <| RK hK30 <| WS fun _ hK32 => rS (FA 0 rfl fo64_0 rfl) <| rS (L1 (Value.int .i64 c.Drift) 2 rfl tk3 rfl rfl) <| rS (FA 0 rfl fo61_0 rfl) <| rS (L1 (Value.int .i64 x.At) 1 rfl tk3 rfl rfl) ?_
   refine rS (FA 0 rfl fo61_0 rfl) <| rS (L1 (Value.int .i64 o.At) 0 rfl tk3 rfl rfl) <| rS (BI rfl b_subW) <| rS (BI rfl b_mulW) <| rS (CL (up_c (w64 (c.Drift * (w64 (x.At - o.At)))) 1000000 (by first | assumption | omega | (simp; done) | (simp; omega))) (ha_nil) rfl) <| rS (AG rfl) <| RK hK32 <| w_region <| rS (MV rfl) <| rS (MV rfl) ?_
   refine r_bool (t := 75) rfl (fun h75 => ?_) (fun h75 => ?_)
   rotate_left 1
   · refine rS (OX rfl) ?_
     refine rS (OX rfl) <| rS (OX rfl) <| rS (OX rfl) <| rS (OX rfl) <| rS (OX rfl) <| rS (OX rfl) <| rS (OX rfl) <| rS (OX rfl) <| rS (PK rfl) <| rS (MV rfl) ?_
     refine rS (OX rfl) <| rS (OX rfl) <| rS (OX rfl) <| rS (OX rfl) <| rS (OX rfl) <| rS (OX rfl) <| rS (OX rfl) <| rS (OX rfl) <| rS (OX rfl) <| rS (PK rfl) ?_
     refine rS (AG rfl) <| r_nil <| k_block <| KK hK29 <| w_region <| rS (BI rfl (b_add ⟨by omega, by omega⟩)) <| rS (MV rfl) <| r_nil ?_
     have hb35 : (Value.int .i64 (((k + 1) : Nat) : Int)) = (Value.int .i64 (((k : Nat) : Int) + 1)) := by exact congrArg (Value.int .i64) (by omega)
     refine k_then (hJ25 ⟨((k + 1), false), ⟨by omega, by first | exact (decide_eq_false fun h => by have h2 := ((round_succ ho).1 h).1; rw [hl1_1] at h75; exact absurd (decide_eq_true h2) (by rw [h75]; decide)).symm | exact (decide_eq_false fun h => by have h2 := ((round_succ ho).1 h).2; rw [hup] at h86; exact h86 h2.1).symm | exact decide_eq_decide.2 (by rw [round_succ ho, hup]; rw [hup] at h86; exact ⟨fun h => ⟨hro, h86, h⟩, fun h => h.2.2⟩)⟩⟩ _ _ _ rfl (by first | omega | (simp; omega)) (Sub.cons rfl <| Sub.cons rfl <| Sub.cons rfl <| Sub.cons rfl <| Sub.cons rfl <| Sub.cons rfl <| Sub.cons rfl <| Sub.cons rfl <| Sub.cons rfl <| Sub.cons rfl <| Sub.cons rfl <| sub_val rfl hb35 <| Sub.nil _) (fun w hs => St.sel [1, 2, 3] rfl rfl hs))
   refine rS (FA 1 rfl fo61_1 rfl) <| rS (FA 1 rfl fo34_0 rfl) <| rS (L1 (Value.int .i64 x.Ahead.Lo) 1 rfl tk3 rfl rfl) <| rS (FA 1 rfl fo61_1 rfl) <| rS (FA 2 rfl fo34_1 rfl) <| rS (L1 (Value.int .i64 o.Ahead.Hi) 0 rfl tk3 rfl rfl) ?_
   have hro : RoundOk c i x k := of_decide_eq_true (hl1_1.symm.trans h75)
   obtain ⟨hq1, hq2, hq3⟩ := sync_pair (fun j y hj hy => (hl0_1 j y hj hy).1) hx hro.1 (by omega) ho
   have hup := goes_up h15 hq1
   refine rS (BI rfl (b_sub ⟨by omega, by omega⟩)) <| rS (MV rfl) <| rS (BI rfl b_leq) <| rS (PK rfl) <| rS (MV rfl) ?_
   refine r_bool (t := 86) rfl (fun h86 => ?_) (fun h86 => ?_)
   rotate_left 1
   · replace h86 := DF h86
     refine rS (OX rfl) <| rS (OX rfl) <| rS (OX rfl) <| rS (OX rfl) <| rS (OX rfl) <| rS (OX rfl) <| rS (OX rfl) <| rS (OX rfl) <| rS (OX rfl) <| rS (PK rfl) ?_
     refine rS (AG rfl) <| r_nil <| k_block <| KK hK29 <| w_region <| rS (BI rfl (b_add ⟨by omega, by omega⟩)) <| rS (MV rfl) <| r_nil ?_
     have hb34 : (Value.int .i64 (((k + 1) : Nat) : Int)) = (Value.int .i64 (((k : Nat) : Int) + 1)) := by exact congrArg (Value.int .i64) (by omega)
     refine k_then (hJ25 ⟨((k + 1), false), ⟨by omega, by first | exact (decide_eq_false fun h => by have h2 := ((round_succ ho).1 h).1; rw [hl1_1] at h75; exact absurd (decide_eq_true h2) (by rw [h75]; decide)).symm | exact (decide_eq_false fun h => by have h2 := ((round_succ ho).1 h).2; rw [hup] at h86; exact h86 h2.1).symm | exact decide_eq_decide.2 (by rw [round_succ ho, hup]; rw [hup] at h86; exact ⟨fun h => ⟨hro, h86, h⟩, fun h => h.2.2⟩)⟩⟩ _ _ _ rfl (by first | omega | (simp; omega)) (Sub.cons rfl <| Sub.cons rfl <| Sub.cons rfl <| Sub.cons rfl <| Sub.cons rfl <| Sub.cons rfl <| Sub.cons rfl <| Sub.cons rfl <| Sub.cons rfl <| Sub.cons rfl <| Sub.cons rfl <| sub_val rfl hb34 <| Sub.nil _) (fun w hs => St.sel [1, 2, 3] rfl rfl hs))
   replace h86 := DT h86
   refine rS (FA 1 rfl fo61_1 rfl) <| rS (FA 1 rfl fo34_0 rfl) <| rS (L1 (Value.int .i64 o.Ahead.Lo) 0 rfl tk3 rfl rfl) <| rS (FA 1 rfl fo61_1 rfl) <| rS (FA 2 rfl fo34_1 rfl) <| rS (L1 (Value.int .i64 x.Ahead.Hi) 1 rfl tk3 rfl rfl) <| rS (BI rfl (b_sub ⟨by omega, by omega⟩)) <| rS (MV rfl) <| rS (BI rfl b_leq) <| rS (PK rfl) ?_
   refine rS (AG rfl) <| r_nil <| k_block <| KK hK29 <| w_region <| rS (BI rfl (b_add ⟨by omega, by omega⟩)) <| rS (MV rfl) <| r_nil ?_
   have hb33 : (Value.int .i64 (((k + 1) : Nat) : Int)) = (Value.int .i64 (((k : Nat) : Int) + 1)) := by exact congrArg (Value.int .i64) (by omega)
   refine k_then (hJ25 ⟨((k + 1), (decide ((o.Ahead.Lo - x.Ahead.Hi) ≤ (upG (w64 (c.Drift * (w64 (x.At - o.At)))) 1000000)))), ⟨by omega, by first | exact (decide_eq_false fun h => by have h2 := ((round_succ ho).1 h).1; rw [hl1_1] at h75; exact absurd (decide_eq_true h2) (by rw [h75]; decide)).symm | exact (decide_eq_false fun h => by have h2 := ((round_succ ho).1 h).2; rw [hup] at h86; exact h86 h2.1).symm | exact decide_eq_decide.2 (by rw [round_succ ho, hup]; rw [hup] at h86; exact ⟨fun h => ⟨hro, h86, h⟩, fun h => h.2.2⟩)⟩⟩ _ _ _ rfl (by first | omega | (simp; omega)) (Sub.cons rfl <| Sub.cons rfl <| Sub.cons rfl <| Sub.cons rfl <| Sub.cons rfl <| Sub.cons rfl <| Sub.cons rfl <| Sub.cons rfl <| Sub.cons rfl <| Sub.cons rfl <| Sub.cons rfl <| sub_val rfl hb33 <| Sub.nil _) (fun w hs => St.sel [1, 2, 3] rfl rfl hs))
 refine w_region <| rS (MV rfl) <| rS (BI rfl (b_add ⟨by omega, by omega⟩)) <| rS (FA 0 rfl fo61_0 rfl) <| rS (L1 (Value.int .i64 x.At) 0 rfl tk3 rfl rfl) <| r_bs (xs := [.tmp 34]) (cs := [(Value.int .i64 x.At)]) rfl te57 tz3 rfl rfl rfl rfl (by simp [Value.cells]) rfl rfl fun b42 => rS (CL (FnV.eq (in_beam ((prevAt c i) + 1) 86400000 ([x.At]) (some ⟨b42, 0, none⟩) 1 (by first | assumption | omega | (simp; done) | (simp; omega))) inAll_one) (ha_cons (has_rd_blk 0 rfl rfl (by simp [iC_length]) rfl) <| ha_nil) rfl) <| rS (MV rfl) ?_
 refine r_bool (t := 37) rfl (fun h37 => ?_) (fun h37 => ?_)
 rotate_left 1
 · replace h37 := DF h37
   refine rS (OX rfl) <| rS (OX rfl) <| rS (OX rfl) <| rS (OX rfl) <| rS (OX rfl) <| rS (OX rfl) <| rS (OX rfl) <| rS (OX rfl) <| rS (PK rfl) <| rS (MV rfl) ?_
   refine rS (OX rfl) <| rS (OX rfl) <| rS (OX rfl) <| rS (OX rfl) <| rS (OX rfl) <| rS (OX rfl) <| rS (OX rfl) <| rS (PK rfl) <| rS (AG rfl) <| r_nil ?_
   have hb46 : (decide (SyncOk c i x)) = false := decide_eq_false (by unfold SyncOk; omega)
   refine k_then (k_sub (Sub.cons rfl <| Sub.cons rfl <| Sub.cons rfl <| sub_bool rfl hb46 <| Sub.cons rfl <| Sub.cons rfl <| Sub.cons rfl <| Sub.cons rfl <| Sub.cons rfl <| Sub.nil _) (fun w hs => St.sel [1, 2, 3] rfl rfl hs) (hK22 ()))
 replace h37 := DT h37
 refine rS (FA 1 rfl fo61_1 rfl) <| rS (FA 1 rfl fo34_0 rfl) <| rS (L1 (Value.int .i64 x.Ahead.Lo) 1 rfl tk3 rfl rfl) <| rS (FA 1 rfl fo61_1 rfl) <| rS (FA 2 rfl fo34_1 rfl) <| rS (L1 (Value.int .i64 x.Ahead.Hi) 1 rfl tk3 rfl rfl) <| r_bs (xs := [.tmp 40, .tmp 43]) (cs := [(Value.int .i64 x.Ahead.Lo), (Value.int .i64 x.Ahead.Hi)]) rfl te57 tz3 rfl rfl rfl rfl (by simp [Value.cells]) rfl rfl fun b43 => rS (CL (FnV.eq (in_beam (-10000) 10000 ([x.Ahead.Lo, x.Ahead.Hi]) (some ⟨b43, 0, none⟩) 2 (by first | assumption | omega | (simp; done) | (simp; omega))) inAll_two) (ha_cons (has_rd_blk 0 rfl rfl (by simp [iC_length]) rfl) <| ha_nil) rfl) <| rS (PK rfl) <| rS (MV rfl) ?_
 refine r_bool (t := 47) rfl (fun h47 => ?_) (fun h47 => ?_)
 rotate_left 1
 · replace h47 := DF h47
   refine rS (OX rfl) <| rS (OX rfl) <| rS (OX rfl) <| rS (OX rfl) <| rS (OX rfl) <| rS (OX rfl) <| rS (OX rfl) <| rS (PK rfl) <| rS (AG rfl) <| r_nil ?_
   have hb45 : (decide (SyncOk c i x)) = false := decide_eq_false (by unfold SyncOk; omega)
   refine k_then (k_sub (Sub.cons rfl <| Sub.cons rfl <| Sub.cons rfl <| sub_bool rfl hb45 <| Sub.cons rfl <| Sub.cons rfl <| Sub.cons rfl <| Sub.cons rfl <| Sub.cons rfl <| Sub.nil _) (fun w hs => St.sel [2, 3, 4] rfl rfl hs) (hK22 ()))
 replace h47 := DT h47
 refine rS (FA 1 rfl fo61_1 rfl) <| rS (FA 1 rfl fo34_0 rfl) <| rS (L1 (Value.int .i64 x.Ahead.Lo) 2 rfl tk3 rfl rfl) <| rS (FA 1 rfl fo61_1 rfl) <| rS (FA 2 rfl fo34_1 rfl) <| rS (L1 (Value.int .i64 x.Ahead.Hi) 2 rfl tk3 rfl rfl) <| rS (BI rfl b_leq) <| rS (PK rfl) <| rS (AG rfl) <| r_nil ?_
 have hb44 : (decide (SyncOk c i x)) = (decide (x.Ahead.Lo ≤ x.Ahead.Hi)) := decide_eq_decide.2 (by unfold SyncOk; omega)
 refine k_then (k_sub (Sub.cons rfl <| Sub.cons rfl <| Sub.cons rfl <| sub_bool rfl hb44 <| Sub.cons rfl <| Sub.cons rfl <| Sub.cons rfl <| Sub.cons rfl <| Sub.cons rfl <| Sub.nil _) (fun w hs => St.sel [2, 3, 4] rfl rfl hs) (hK22 ()))
set_option maxRecDepth 100000 in
set_option maxHeartbeats 400000 in
theorem bad_c (ms : List ClockM) (az : List RA) (k : Nat) (m : ClockM) (a : RA) (hm : ms[k]? = some m) (ha : az[k]? = some a) (hc : m.Syncs.length ≤ a.2 ∧ m.Syncs.length ≤ 1000000) :
    FnV Try.prog 84 [(Value.agg (ClockV.cells (ClockV.mk m.Drift (Slc.mk a.1 m.Syncs.length a.2))).toArray)] [(bun (nest ClockM.rds ms az))] (Value.bool (!(decide (ClockOk m)))) := by
 obtain ⟨hc1, hc2⟩ := hc
 refine fnV_of go84 Try.func84 rfl rfl fun w0 Q hQ hN => ?_
 try dsimp only
 refine WS fun _ hK1 => BXA rfl fun b2 => rS (AG rfl) <| RK hK1 <| WS fun _ hK3 => rS (LW 0 rfl tk64 rfl rfl) <| rS (CL (goes_c m a.1 a.2 (by first | assumption | omega | (simp; done) | (simp; omega)) (by first | assumption | omega | (simp; done) | (simp; omega))) (ha_cons (show Has _ (rd a.1 m.Syncs.length 3 (m.Syncs.map SyncV.cells)).holds from (has_inr 1 rfl (mem_nest hm ha (by simp [ClockM.rds])))) <| ha_nil) rfl) <| rS (NT rfl) <| rS (AG rfl) <| RK hK3 ?_
 refine w_ret ?_
 exact Q1 hQ rfl rfl rfl rfl
set_option maxRecDepth 100000 in
set_option maxHeartbeats 400000 in
theorem indexck_c (l : List ClockM) (az : List RA) (lA : Option Addr) (lC : Nat) (f : Value) (p : ClockM → Bool) (X : Assn) (hf : ∀ (k : Nat) m a, l[k]? = some m → az[k]? = some a → Clo Try.prog f [.agg (ClockM.cells m a).toArray] [X] (.bool (p m))) (hlen : l.length ≤ 1000000) (has : az.length = l.length) :
    FnV Try.prog 109 [(Value.slice lA l.length lC), f] [(rd lA l.length 2 (List.zipWith ClockM.cells l az)), (bun (nest ClockM.rds l az)), X] (Value.int .i64 (findI p l)) := by
 refine fnV_of go109 Try.func109 rfl rfl fun w0 Q hQ hN => ?_
 try dsimp only
 refine WS fun _ hK1 => rS (AG rfl) <| RK hK1 <| w_seq fun _ hK2 => WS fun _ hK3 => rS (MV rfl) <| rS (LN rfl ut25) <| rS (MV rfl) <| RK hK3 <| w_block ?_
 have hinit : (0 ≤ l.length) ∧ ((l.take 0).any p = false) := by simp
 refine w_loop (ι := { z : Nat // (z ≤ l.length) ∧ ((l.take z).any p = false) }) (fun z => [(0, (Value.slice lA l.length lC)), (1, f), (7, (Value.int .i64 ((l.length : Nat) : Int))), (8, (Value.int .i64 ((z.1 : Nat) : Int)))]) (fun z => [(rd lA l.length 2 (List.zipWith ClockM.cells l az)).ro, (bun (nest ClockM.rds l az)).ro, X.ro]) (fun z => l.length - z.1) ⟨0, hinit⟩ (Sub.cons rfl <| Sub.cons rfl <| Sub.cons rfl <| Sub.cons rfl <| Sub.nil _) (fun w hs => St.sel [0, 1, 2] rfl rfl hs) ?_
 clear hinit
 rintro ⟨i, ⟨hl0_0, hl0_1⟩⟩ J4 hJ4
 try dsimp only
 refine WS fun _ hK5 => rS (BI rfl b_lss) <| RK hK5 <| w_seq fun _ hK6 => ?_
 refine w_if rfl (fun h7 => ?_) (fun h7 => ?_)
 rotate_left 1
 · replace h7 := DF h7
   refine w_exit <| k_exit_then <| k_exit_then <| k_exit_same <| KK hK2 <| WS fun _ hK13 => rS (AG rfl) <| RK hK13 <| w_ret <| Q1 hQ rfl rfl rfl ?_
   first | exact congrArg (Value.int .i64) (findI_at hx hp hl0_1).symm | exact congrArg (Value.int .i64) (findI_none (by omega) hl0_1).symm
 replace h7 := DT h7
 refine WK hK6 <| w_seq fun _ hK8 => w_block <| WS fun _ hK9 => rS (MV rfl) <| rS (AG rfl) <| RK hK9 <| WS fun _ hK10 => rS (MV rfl) <| rS (MV rfl) ?_
 refine rS (MV rfl) ?_
 obtain ⟨x, hx⟩ : ∃ y_, l[i]? = some y_ := ⟨l[i]'(by omega), List.getElem?_eq_getElem _⟩
 obtain ⟨xa, hxa⟩ : ∃ y_, az[i]? = some y_ := ⟨az[i]'(by omega), List.getElem?_eq_getElem _⟩
 have hxm : (List.zipWith ClockM.cells l az)[i]? = some (ClockM.cells x xa) := zip_get hx hxa
 refine rS (IA i rfl (has_at 0 rfl) te25 (by decide) (by omega) (by omega)) <| rS (LEN i 0 (ClockV.cells (ClockV.mk x.Drift (Slc.mk xa.1 x.Syncs.length xa.2))) rfl tk64 (has_at 0 rfl) hxm rfl (by decide) rfl rfl) <| rS (SX (sd_clo rfl rfl rfl (hf i x xa hx hxa) (ha_at 2 rfl rfl <| ha_nil)) rfl rfl) <| RK hK10 ?_
 refine w_if rfl (fun hp => ?_) (fun hp => ?_)
 · refine WS fun _ hK11 => ?_
   refine rS (MV rfl) <| rS (AG rfl) <| RK hK11 <| w_ret <| Q1 hQ rfl rfl rfl ?_
   first | exact congrArg (Value.int .i64) (findI_at hx hp hl0_1).symm | exact congrArg (Value.int .i64) (findI_none (by omega) hl0_1).symm
 refine w_skip <| k_block <| KK hK8 <| w_region <| rS (BI rfl (b_add ⟨by omega, by omega⟩)) <| rS (MV rfl) <| r_nil ?_
 have hb12 : (Value.int .i64 (((i + 1) : Nat) : Int)) = (Value.int .i64 (((i : Nat) : Int) + 1)) := by exact congrArg (Value.int .i64) (by omega)
 refine k_then (hJ4 ⟨(i + 1), ⟨by omega, any_step hx hl0_1 hp⟩⟩ _ _ _ rfl (by first | omega | (simp; omega)) (Sub.cons rfl <| Sub.cons rfl <| Sub.cons rfl <| sub_val rfl hb12 <| Sub.nil _) (fun w hs => St.sel [0, 1, 2] rfl rfl hs))
set_option maxRecDepth 100000 in
set_option maxHeartbeats 400000 in
theorem containsck_c (l : List ClockM) (az : List RA) (lA : Option Addr) (lC : Nat) (f : Value) (p : ClockM → Bool) (X : Assn) (hf : ∀ (k : Nat) m a, l[k]? = some m → az[k]? = some a → Clo Try.prog f [.agg (ClockM.cells m a).toArray] [X] (.bool (p m))) (hlen : l.length ≤ 1000000) (has : az.length = l.length) :
    FnV Try.prog 83 [(Value.slice lA l.length lC), f] [(rd lA l.length 2 (List.zipWith ClockM.cells l az)), (bun (nest ClockM.rds l az)), X] (Value.bool (l.any p)) := by
 refine fnV_of go83 Try.func83 rfl rfl fun w0 Q hQ hN => ?_
 try dsimp only
 refine WS fun _ hK1 => rS (AG rfl) <| RK hK1 <| WS fun _ hK2 => rS (MV rfl) <| rS (MV rfl) <| rS (CL (indexck_c l az lA lC f p X (by exact hf) hlen has) (ha_at 0 rfl rfl <| ha_at 1 rfl rfl <| ha_at 2 rfl rfl <| ha_nil) rfl) <| rS (BI rfl b_geq) <| rS (AG rfl) <| RK hK2 ?_
 refine w_ret <| Q1 hQ rfl rfl rfl ?_
 exact congrArg Value.bool findI_any
set_option maxRecDepth 100000 in
set_option maxHeartbeats 400000 in
theorem indexbm_c (l : List BeamV) (lA : Option Addr) (lC : Nat) (f : Value) (p : BeamV → Bool) (X : Assn) (hf : ∀ x0, x0 ∈ l → Clo Try.prog f [.agg (BeamV.cells x0).toArray] [X] (.bool (p x0))) (hlen : l.length ≤ 1000000) :
    FnV Try.prog 110 [(Value.slice lA l.length lC), f] [(rd lA l.length 4 (l.map BeamV.cells)), X] (Value.int .i64 (findI p l)) := by
 refine fnV_of go110 Try.func110 rfl rfl fun w0 Q hQ hN => ?_
 try dsimp only
 refine WS fun _ hK1 => rS (AG rfl) <| RK hK1 <| w_seq fun _ hK2 => WS fun _ hK3 => rS (MV rfl) <| rS (LN rfl ut26) <| rS (MV rfl) <| RK hK3 <| w_block ?_
 have hinit : (0 ≤ l.length) ∧ ((l.take 0).any p = false) := by simp
 refine w_loop (ι := { z : Nat // (z ≤ l.length) ∧ ((l.take z).any p = false) }) (fun z => [(0, (Value.slice lA l.length lC)), (1, f), (7, (Value.int .i64 ((l.length : Nat) : Int))), (8, (Value.int .i64 ((z.1 : Nat) : Int)))]) (fun z => [(rd lA l.length 4 (l.map BeamV.cells)).ro, X.ro]) (fun z => l.length - z.1) ⟨0, hinit⟩ (Sub.cons rfl <| Sub.cons rfl <| Sub.cons rfl <| Sub.cons rfl <| Sub.nil _) (fun w hs => St.sel [0, 1] rfl rfl hs) ?_
 clear hinit
 rintro ⟨i, ⟨hl0_0, hl0_1⟩⟩ J4 hJ4
 try dsimp only
 refine WS fun _ hK5 => rS (BI rfl b_lss) <| RK hK5 <| w_seq fun _ hK6 => ?_
 refine w_if rfl (fun h7 => ?_) (fun h7 => ?_)
 rotate_left 1
 · replace h7 := DF h7
   refine w_exit <| k_exit_then <| k_exit_then <| k_exit_same <| KK hK2 <| WS fun _ hK13 => rS (AG rfl) <| RK hK13 <| w_ret <| Q1 hQ rfl rfl rfl ?_
   first | exact congrArg (Value.int .i64) (findI_at hx hp hl0_1).symm | exact congrArg (Value.int .i64) (findI_none (by omega) hl0_1).symm
 replace h7 := DT h7
 refine WK hK6 <| w_seq fun _ hK8 => w_block <| WS fun _ hK9 => rS (MV rfl) <| rS (AG rfl) <| RK hK9 <| WS fun _ hK10 => rS (MV rfl) <| rS (MV rfl) ?_
 refine rS (MV rfl) ?_
 obtain ⟨x, hx⟩ : ∃ y_, l[i]? = some y_ := ⟨l[i]'(by omega), List.getElem?_eq_getElem _⟩
 have hxm : (l.map BeamV.cells)[i]? = some (BeamV.cells x) := by rw [List.getElem?_map, hx]; rfl
 refine rS (IA i rfl (has_at 0 rfl) te26 (by decide) (by omega) (by omega)) <| rS (LEN i 0 (BeamV.cells x) rfl tk55 (has_at 0 rfl) hxm rfl (by decide) rfl rfl) <| rS (SX (sd_clo rfl rfl rfl (hf x (List.mem_of_getElem? hx)) (ha_at 1 rfl rfl <| ha_nil)) rfl rfl) <| RK hK10 ?_
 refine w_if rfl (fun hp => ?_) (fun hp => ?_)
 · refine WS fun _ hK11 => ?_
   refine rS (MV rfl) <| rS (AG rfl) <| RK hK11 <| w_ret <| Q1 hQ rfl rfl rfl ?_
   first | exact congrArg (Value.int .i64) (findI_at hx hp hl0_1).symm | exact congrArg (Value.int .i64) (findI_none (by omega) hl0_1).symm
 refine w_skip <| k_block <| KK hK8 <| w_region <| rS (BI rfl (b_add ⟨by omega, by omega⟩)) <| rS (MV rfl) <| r_nil ?_
 have hb12 : (Value.int .i64 (((i + 1) : Nat) : Int)) = (Value.int .i64 (((i : Nat) : Int) + 1)) := by exact congrArg (Value.int .i64) (by omega)
 refine k_then (hJ4 ⟨(i + 1), ⟨by omega, any_step hx hl0_1 hp⟩⟩ _ _ _ rfl (by first | omega | (simp; omega)) (Sub.cons rfl <| Sub.cons rfl <| Sub.cons rfl <| sub_val rfl hb12 <| Sub.nil _) (fun w hs => St.sel [0, 1] rfl rfl hs))
set_option maxRecDepth 100000 in
set_option maxHeartbeats 400000 in
theorem containsbm_c (l : List BeamV) (lA : Option Addr) (lC : Nat) (f : Value) (p : BeamV → Bool) (X : Assn) (hf : ∀ x0, x0 ∈ l → Clo Try.prog f [.agg (BeamV.cells x0).toArray] [X] (.bool (p x0))) (hlen : l.length ≤ 1000000) :
    FnV Try.prog 87 [(Value.slice lA l.length lC), f] [(rd lA l.length 4 (l.map BeamV.cells)), X] (Value.bool (l.any p)) := by
 refine fnV_of go87 Try.func87 rfl rfl fun w0 Q hQ hN => ?_
 try dsimp only
 refine WS fun _ hK1 => rS (AG rfl) <| RK hK1 <| WS fun _ hK2 => rS (MV rfl) <| rS (MV rfl) <| rS (CL (indexbm_c l lA lC f p X (by exact hf) hlen) (ha_at 0 rfl rfl <| ha_at 1 rfl rfl <| ha_nil) rfl) <| rS (BI rfl b_geq) <| rS (AG rfl) <| RK hK2 ?_
 refine w_ret <| Q1 hQ rfl rfl rfl ?_
 exact congrArg Value.bool findI_any
end
section
open Go.RowKit
set_option linter.unusedVariables false
set_option maxRecDepth 100000 in
set_option maxHeartbeats 400000 in
theorem plus_c (a : SpanV) (l : List SpanV) (lA : Option Addr) (lC : Nat) (ha : In12 a) (hl : ∀ z ∈ l, In12 z) (hlen : l.length ≤ 4) :
    FnV Try.prog 70 [(Value.agg (SpanV.cells a).toArray), (Value.slice lA l.length lC)] [(rd lA l.length 2 (l.map SpanV.cells))] (Value.agg (SpanV.cells (plusF a l)).toArray) := by
 refine fnV_of go70 Try.func70 rfl rfl fun w0 Q hQ hN => ?_
 try dsimp only
 refine WS fun _ hK1 => BXA rfl fun b2 => AL rfl tz34 fun b3 => RK hK1 <| w_seq fun _ hK4 => WS fun _ hK5 => rS (MV rfl) <| rS (LN rfl ut81) <| rS (MV rfl) <| RK hK5 ?_
 refine w_block ?_
 have hinit : (0 ≤ l.length) := by exact Nat.zero_le _
 refine w_loop (ι := { z : Nat // (z ≤ l.length) }) (fun z => [(2, (Value.pointer (some ⟨b2, 0, none⟩))), (4, (Value.pointer (some ⟨b3, 0, none⟩))), (7, (Value.slice lA l.length lC)), (8, (Value.int .i64 ((l.length : Nat) : Int))), (9, (Value.int .i64 (z.1 : Int)))]) (fun z => [(blk b3 34 (SpanV.cells (SpanV.mk 0 0))), (blk b2 34 (SpanV.cells (plusF a (l.take z.1)))), (rd lA l.length 2 (l.map SpanV.cells)).ro]) (fun z => l.length - z.1) ⟨0, hinit⟩ (Sub.cons rfl <| Sub.cons rfl <| Sub.cons rfl <| Sub.cons rfl <| Sub.cons rfl <| Sub.nil _) (fun w hs => St.sel [0, 1, 2] rfl rfl hs) ?_
 clear hinit
 rintro ⟨i, hl2_0⟩ J6 hJ6
 try dsimp only
 refine WS fun _ hK7 => rS (BI rfl b_lss) <| RK hK7 <| w_seq fun _ hK8 => ?_
 refine w_if rfl (fun h9 => ?_) (fun h9 => ?_)
 rotate_left 1
 · replace h9 := DF h9
   refine w_exit <| k_exit_then <| k_exit_then <| k_exit_same <| KK hK4 <| w_seq fun _ hK15 => ?_
   have hb16 : (SpanV.cells (plusF a (l.take i))) = (SpanV.cells (plusF a l)) := by rw [plus_all (by omega)]
   rw [hb16]
   refine w_region <| rS (LW 1 rfl tk34 rfl rfl) <| SW0 rfl ts34 rfl <| RK hK15 <| w_ret ?_
   refine hQ _ _ _ (l_nil (vs := [(Value.agg (SpanV.cells (plusF a l)).toArray)]) ⟨⟨_, rfl, .inl ⟨_, _, tk34, at_blk (vs := (SpanV.cells (plusF a l))) 0 rfl rfl, rfl, rfl⟩⟩, trivial⟩ fun w hs => endV ?_ hs)
   show (Value.agg (SpanV.cells (plusF a l)).toArray) = (Value.agg (SpanV.cells (plusF a l)).toArray)
   clear hs w hQ hN hK15 hK8 hK7 hK5 hK4 hK1
   rfl
 replace h9 := DT h9
 refine WK hK8 <| w_seq fun _ hK10 => w_block <| WS fun _ hK11 => ?_
 obtain ⟨x, hx⟩ : ∃ y_, l[i]? = some y_ := ⟨l[i]'(by omega), List.getElem?_eq_getElem _⟩
 have hxm : (l.map SpanV.cells)[i]? = some (SpanV.cells x) := by rw [List.getElem?_map, hx]; rfl
 refine rS (IA i rfl (has_at 2 rfl) te81 (by decide) (by omega) (by omega)) <| rS (LEN i 0 (SpanV.cells x) rfl tk34 (has_at 2 rfl) hxm rfl (by decide) rfl rfl) <| AL rfl tz34 fun b12 => SW0 rfl ts34 rfl <| RK hK11 <| w_region ?_
 have hb := plus_b ha hl i
 have hz := hl x (List.mem_of_getElem? hx)
 unfold In12 at hz
 refine rS (FA 0 rfl fo34_0 rfl) <| rS (L1 (Value.int .i64 ((plusF a (l.take i)).Lo)) 2 rfl tk3 rfl rfl) <| rS (FA 0 rfl fo34_0 rfl) <| rS (L1 (Value.int .i64 x.Lo) 0 rfl tk3 rfl rfl) <| rS (BI rfl (b_add ⟨by omega, by omega⟩)) <| rS (FA 1 rfl fo34_1 rfl) <| rS (L1 (Value.int .i64 ((plusF a (l.take i)).Hi)) 2 rfl tk3 rfl rfl) <| rS (FA 1 rfl fo34_1 rfl) <| rS (L1 (Value.int .i64 x.Hi) 0 rfl tk3 rfl rfl) <| rS (BI rfl (b_add ⟨by omega, by omega⟩)) ?_
 refine rS (SX (sd_build (xs := [(0, .tmp 17), (1, .tmp 22)]) (cs := (SpanV.cells (SpanV.mk (((plusF a (l.take i)).Lo) + x.Lo) (((plusF a (l.take i)).Hi) + x.Hi)))) rfl rfl (built_of tb34 rfl)) rfl rfl) <| SW2 rfl ts34 rfl <| r_nil <| k_block <| KK hK10 ?_
 have hb13 : (SpanV.cells (SpanV.mk (((plusF a (l.take i)).Lo) + x.Lo) (((plusF a (l.take i)).Hi) + x.Hi))) = (SpanV.cells (plusF a (l.take (i + 1)))) := by rw [plus_take hx]; rfl
 rw [hb13]
 refine w_region <| rS (BI rfl (b_add ⟨by omega, by omega⟩)) <| rS (MV rfl) <| r_nil ?_
 have hb14 : (Value.int .i64 ((i + 1) : Int)) = (Value.int .i64 ((i : Int) + 1)) := by exact congrArg (Value.int .i64) (by omega)
 refine k_then (hJ6 ⟨(i + 1), (by first | omega | (simp only []; omega))⟩ _ _ _ rfl (by first | omega | (simp; omega)) (Sub.cons rfl <| Sub.cons rfl <| Sub.cons rfl <| Sub.cons rfl <| sub_val rfl hb14 <| Sub.nil _) (fun w hs => St.sel [1, 2, 3] rfl rfl hs))
set_option maxRecDepth 100000 in
set_option maxHeartbeats 400000 in
theorem topen_c (ts : List StretchV) (tsA : Option Addr) (tsC : Nat) (hlen : ts.length ≤ 1000000) (hside : ∀ x ∈ ts, 0 ≤ x.Side ∧ x.Side ≤ 255) :
    FnV Try.prog 67 [(Value.agg (TrackV.cells (TrackV.mk (Slc.mk tsA ts.length tsC))).toArray)] [(rd tsA ts.length 9 (ts.map StretchV.cells))] (Value.tuple [(Value.agg (SurveyV.cells (SurveyV.mk (TrackV.mk (Slc.mk tsA ts.length tsC)))).toArray), (Value.int .i64 (if trackOk ts = true then 0 else 10))].toArray) := by
 refine fnV_of go67 Try.func67 rfl rfl fun w0 Q hQ hN => ?_
 try dsimp only
 refine WS fun _ hK1 => BXA rfl fun b2 => AL rfl tz117 fun b3 => rS (AG rfl) <| RK hK1 <| w_seq fun _ hK4 => w_draw mixed 4 (by kernel_rfl) <| dS (LW 1 rfl tk24 rfl rfl) <| dS (SX (sd_build (xs := [(0, .tmp 4)]) (cs := (SurveyV.cells (SurveyV.mk (TrackV.mk (Slc.mk tsA ts.length tsC))))) rfl rfl (built_of tb117 rfl)) rfl rfl) <| dS (LW 1 rfl tk24 rfl rfl) ?_
 refine dS (CL (tcheck_c ts tsA tsC hlen hside) (ha_at 2 rfl rfl <| ha_nil) rfl) <| d_end <| SW0 rfl ts117 rfl <| rS (AG rfl) <| RK hK4 <| w_ret ?_
 refine hQ _ _ _ (l_nil (vs := [(Value.agg (SurveyV.cells (SurveyV.mk (TrackV.mk (Slc.mk tsA ts.length tsC)))).toArray), (Value.int .i64 (if trackOk ts = true then 0 else 10))]) ⟨⟨_, rfl, .inl ⟨_, _, tk117, at_blk (vs := (SurveyV.cells (SurveyV.mk (TrackV.mk (Slc.mk tsA ts.length tsC))))) 0 rfl rfl, rfl, rfl⟩⟩, rfl, trivial⟩ fun w hs => endV ?_ hs)
 show (Value.tuple [(Value.agg (SurveyV.cells (SurveyV.mk (TrackV.mk (Slc.mk tsA ts.length tsC)))).toArray), (Value.int .i64 (if trackOk ts = true then 0 else 10))].toArray) = (Value.tuple [(Value.agg (SurveyV.cells (SurveyV.mk (TrackV.mk (Slc.mk tsA ts.length tsC)))).toArray), (Value.int .i64 (if trackOk ts = true then 0 else 10))].toArray)
 clear hs w hQ hN hK4 hK1
 rfl
set_option maxRecDepth 100000 in
set_option maxHeartbeats 400000 in
theorem marks_c (f : Int) (tsA : Option Addr) (tsN : Nat) (tsC : Nat) :
    FnX Try.prog 102 [(Value.agg (SurveyV.cells (SurveyV.mk (TrackV.mk (Slc.mk tsA tsN tsC)))).toArray), (Value.int .i64 f)] [] (fun (x : Nat × Nat) => (Value.func (.func 112) [].toArray [(Value.pointer (some ⟨x.1, 0, none⟩)), (Value.pointer (some ⟨x.2, 0, none⟩))].toArray)) (fun (x : Nat × Nat) => True) (fun (x : Nat × Nat) => [(blk x.1 3 [(Value.int .i64 f)]), (blk x.2 117 (SurveyV.cells (SurveyV.mk (TrackV.mk (Slc.mk tsA tsN tsC)))))]) := by
 refine fnX_of go102 Try.func102 rfl rfl fun w0 Q hQ hN => ?_
 try dsimp only
 refine WS fun _ hK1 => BXA rfl fun b2 => BX1 rfl rfl fun b3 => rS (AG rfl) <| RK hK1 <| WS fun _ hK4 => rS (FU rfl) <| rS (AG rfl) <| RK hK4 <| w_ret ?_
 refine hQ _ _ _ (l_nil (vs := [(Value.func (.func 112) [].toArray [(Value.pointer (some ⟨b3, 0, none⟩)), (Value.pointer (some ⟨b2, 0, none⟩))].toArray)]) ⟨rfl, trivial⟩ fun w hs => endX (b3, b2) [0, 1] ?_ ?_ rfl rfl rfl hs)
 · rfl
 · trivial
set_option maxRecDepth 100000 in
set_option maxHeartbeats 400000 in
theorem marksit_c (ts : List StretchV) (tsA : Option Addr) (tsC : Nat) (f : Int) (g1 : Nat) (g2 : Nat) (hst : ∀ x ∈ ts, StretchOk x) (hlen : ts.length ≤ 12) (hf : 0 ≤ f ∧ f ≤ ts.length) :
    SeqV Try.prog 112 [] [(Value.pointer (some ⟨g1, 0, none⟩)), (Value.pointer (some ⟨g2, 0, none⟩))] [(rd tsA ts.length 9 (ts.map StretchV.cells)), (blk g1 3 [(Value.int .i64 f)]), (blk g2 117 (SurveyV.cells (SurveyV.mk (TrackV.mk (Slc.mk tsA ts.length tsC)))))] (markV ts f.toNat) := by
 refine seqV_of go112 Try.func112 rfl rfl fun l J Z A0 w0 Q hY hJ0 hF0 hQ hN => ?_
 try dsimp only
 refine WS fun _ hK1 => AL rfl tz34 fun b2 => AL rfl tz34 fun b3 => RK hK1 <| WS fun _ hK4 => rS (L1Q 4 rfl tk3 rfl) <| rS (AG rfl) <| RK hK4 <| w_block ?_
 have hinit : (0 ≤ ts.length - f.toNat) ∧ (J 0 A0) ∧ (Fo A0 w0 A0) := by exact ⟨Nat.zero_le _, hJ0, hF0⟩
 have hb5 : (Value.int .i64 (f + ((0 : Nat) : Int))) = (Value.int .i64 f) := by exact congrArg (Value.int .i64) (by omega)
 refine w_loop (ι := { z : Nat × Assn // (z.1 ≤ ts.length - f.toNat) ∧ (J z.1 z.2) ∧ (Fo A0 w0 z.2) }) (fun z => [(0, (Value.func (.yield l) #[] #[])), (1, (Value.pointer (some ⟨g1, 0, none⟩))), (2, (Value.pointer (some ⟨g2, 0, none⟩))), (4, (Value.pointer (some ⟨b2, 0, none⟩))), (5, (Value.pointer (some ⟨b3, 0, none⟩))), (6, (Value.int .i64 (f + ((z.1.1 : Nat) : Int))))]) (fun z => [(blk b3 34 (SpanV.cells (fallF ts f.toNat z.1.1))), (blk b2 34 (SpanV.cells (longF ts f.toNat z.1.1))), z.1.2, (rd tsA ts.length 9 (ts.map StretchV.cells)).ro, (blk g1 3 [(Value.int .i64 f)]).ro, (blk g2 117 (SurveyV.cells (SurveyV.mk (TrackV.mk (Slc.mk tsA ts.length tsC))))).ro]) (fun z => ts.length - f.toNat - z.1.1) ⟨(0, A0), hinit⟩ (Sub.cons rfl <| Sub.cons rfl <| Sub.cons rfl <| Sub.cons rfl <| Sub.cons rfl <| sub_val rfl hb5 <| Sub.nil _) (fun w hs => St.sel [0, 1, 2, 3, 4, 5] rfl rfl hs) ?_
 clear hinit
 rintro ⟨⟨k, A⟩, ⟨hl2_0, hl2_1, hl2_2⟩⟩ J6 hJ6
 try dsimp only at hl2_0 hl2_1 hl2_2
 try dsimp only
 refine w_seq fun _ hK7 => WS fun _ hK8 => rS (MV rfl) <| rS (LW 1 rfl tk34 rfl rfl) <| rS (LW 0 rfl tk34 rfl rfl) ?_
 refine r_yield 2 hY hl2_1 hl2_2 rfl rfl rfl (markV_get (by omega)) rfl rfl (fun B9 hJ10 hF11 => ?_) (fun B9 hJ10 hF11 => ?_)
 rotate_left 1
 · refine rS (MV rfl) ?_
   refine rS (OX rfl) <| rS (OX rfl) <| rS (OX rfl) <| rS (OX rfl) <| rS (OX rfl) <| rS (OX rfl) <| rS (PK rfl) <| RK hK8 <| w_if_false rfl <| w_exit ?_
   refine k_exit_then <| k_exit_then <| k_exit_same ?_
   refine hN _ _ _ (l_nil (vs := []) trivial fun w hs => endSz 2 rfl hJ10 hF11 hs)
 refine rS (MV rfl) <| rS (MV rfl) <| rS (FA 0 rfl fo117_0 rfl) <| rS (FA 0 rfl fo24_0 rfl) <| rS (L1R (Value.slice tsA ts.length tsC) 5 rfl tk22 rfl rfl) <| rS (LN rfl ut22) <| rS (BI rfl b_lss) <| rS (PK rfl) <| RK hK8 ?_
 refine w_if rfl (fun h12 => ?_) (fun h12 => ?_)
 rotate_left 1
 · replace h12 := DF h12
   refine w_exit <| k_exit_then <| k_exit_then <| k_exit_same ?_
   refine hN _ _ _ (l_nil (vs := []) trivial fun w hs => endS 2 rfl (by rw [markV_length]; have e : ts.length - f.toNat + 1 = k + 1 := (by omega); rw [e]; exact hJ10) hF11 hs)
 replace h12 := DT h12
 refine WK hK7 <| w_seq fun _ hK13 => w_block <| w_drawN mixed [0, 1, 2, 3, 4, 5, 6, 7, 10, 11, 12, 13, 14, 15, 16, 17] [8, 9, 18, 19, 20, 21] [true, false, false, false, false, false, false, false, true, false, false, false, false, false, false, false] [8, 9, 18] [B9, (rd tsA ts.length 9 (ts.map StretchV.cells)).ro, (blk g1 3 [(Value.int .i64 f)]).ro, (blk g2 117 (SurveyV.cells (SurveyV.mk (TrackV.mk (Slc.mk tsA ts.length tsC))))).ro] [(blk b3 34 (SpanV.cells (fallF ts f.toNat k))), (blk b2 34 (SpanV.cells (longF ts f.toNat k))), B9, (rd tsA ts.length 9 (ts.map StretchV.cells)).ro, (blk g1 3 [(Value.int .i64 f)]).ro, (blk g2 117 (SurveyV.cells (SurveyV.mk (TrackV.mk (Slc.mk tsA ts.length tsC))))).ro] (by kernel_rfl) (fun w hs => St.sel [2, 3, 4, 5] rfl rfl hs) (fun w hs => St.sel [0, 1, 2, 3, 4, 5] rfl rfl hs) <| fS rfl (LW 1 rfl tk34 rfl rfl) <| eS rfl (FA 0 rfl fo117_0 rfl) <| eS rfl (FA 0 rfl fo24_0 rfl) <| eS rfl (L1R (Value.slice tsA ts.length tsC) 3 rfl tk22 rfl rfl) <| eS rfl (MV rfl) ?_
 obtain ⟨x, hx⟩ : ∃ y_, ts[(f.toNat + k)]? = some y_ := ⟨ts[(f.toNat + k)]'(by omega), List.getElem?_eq_getElem _⟩
 have hxm : (ts.map StretchV.cells)[(f.toNat + k)]? = some (StretchV.cells x) := by rw [List.getElem?_map, hx]; rfl
 refine eS rfl (IA (f.toNat + k) rfl (has_at 1 rfl) te22 (by decide) (by omega) (by omega)) ?_
 have hxo := hst x (List.mem_of_getElem? hx)
 refine eS rfl (FAR (((f.toNat + k) * 9) + 1) rfl (has_at 1 rfl) (Nat.mul_pos (by omega) (by decide)) fo126_1 rfl) <| eS rfl (LEN (f.toNat + k) 1 (SpanV.cells x.Long) rfl tk34 (has_at 1 rfl) hxm rfl (by decide) rfl rfl) <| fS rfl (LW 0 rfl tk34 rfl rfl) <| eS rfl (FA 0 rfl fo117_0 rfl) <| eS rfl (FA 0 rfl fo24_0 rfl) <| eS rfl (L1R (Value.slice tsA ts.length tsC) 3 rfl tk22 rfl rfl) <| eS rfl (MV rfl) <| eS rfl (IA (f.toNat + k) rfl (has_at 1 rfl) te22 (by decide) (by omega) (by omega)) <| eS rfl (FAR (((f.toNat + k) * 9) + 3) rfl (has_at 1 rfl) (Nat.mul_pos (by omega) (by decide)) fo126_2 rfl) <| eS rfl (LEN (f.toNat + k) 3 (SpanV.cells x.Fall) rfl tk34 (has_at 1 rfl) hxm rfl (by decide) rfl rfl) ?_
 refine d_fin rfl ?_
 refine n_step [8, 18] (by kernel_rfl) (n_cons ?_ <| n_cons ?_ <| n_nil)
 rotate_left 1
 · refine n_op5 (rem' := [8, 9, 19, 20, 21]) rfl (by kernel_rfl) fun T34 hT34 => ?_
   refine r_bs (xs := [.tmp 39]) (cs := (SpanV.cells x.Fall)) rfl te81 tz34 rfl rfl rfl rfl (by simp [Value.cells, SpanV.cells_length]) rfl rfl fun b35 => ?_
   refine r_nil (hT34 _ _ (fun w hs => St.sel [3, 4, 5, 6] rfl rfl hs) (fun w hs => St.sel [1, 2, 3, 4, 5, 6] rfl rfl hs) ?_)
   refine n_step [8] (by kernel_rfl) (n_cons ?_ <| n_nil)
   refine n_op5 (rem' := [9, 19, 20, 21]) rfl (by kernel_rfl) fun T36 hT36 => r_bs (xs := [.tmp 29]) (cs := (SpanV.cells x.Long)) rfl te81 tz34 rfl rfl rfl rfl (by simp [Value.cells, SpanV.cells_length]) rfl rfl fun b37 => ?_
   refine r_nil (hT36 _ _ (fun w hs => St.sel [4, 5, 6, 7] rfl rfl hs) (fun w hs => St.sel [2, 3, 4, 5, 6, 7] rfl rfl hs) ?_)
   refine n_step [9] (by kernel_rfl) (n_cons ?_ <| n_nil)
   refine n_op5 (rem' := [19, 20, 21]) rfl (by kernel_rfl) fun T38 hT38 => rS (CL (FnV.eq (plus_c (longF ts f.toNat k) ([x.Long]) (some ⟨b37, 0, none⟩) 1 (by exact longF_in hst (by omega)) (by intro z hz; simp only [List.mem_singleton] at hz; subst hz; exact long_in12 hxo) (by simp)) plus_one) (ha_cons (has_rd_blk 0 rfl rfl (by simp [SpanV.cells_length]) rfl) <| ha_nil) rfl) ?_
   refine r_nil (hT38 _ _ (fun w hs => St.sel [4, 5, 6, 7] rfl rfl hs) (fun w hs => St.sel [2, 3, 4, 5, 6, 7] rfl rfl hs) ?_)
   refine n_step [19] (by kernel_rfl) (n_cons ?_ <| n_nil)
   refine n_op (rem' := [20, 21]) rfl (by kernel_rfl) rfl fun T39 hT39 => rS (CL (FnV.eq (plus_c (fallF ts f.toNat k) ([x.Fall]) (some ⟨b35, 0, none⟩) 1 (by exact fallF_in hst (by omega)) (by intro z hz; simp only [List.mem_singleton] at hz; subst hz; exact fall_in12 hxo) (by simp)) plus_one) (ha_cons (has_rd_blk 1 rfl rfl (by simp [SpanV.cells_length]) rfl) <| ha_nil) rfl) ?_
   refine r_nil (hT39 _ _ (fun w hs => St.sel [4, 5, 6, 7] rfl rfl hs) ?_)
   refine n_step [20] (by kernel_rfl) (n_cons ?_ <| n_nil)
   refine n_op (rem' := [21]) rfl (by kernel_rfl) rfl fun T40 hT40 => SW3 rfl ts34 rfl ?_
   refine r_nil (hT40 _ _ (fun w hs => St.sel [4, 5, 6, 7] rfl rfl hs) ?_)
   refine n_step [21] (by kernel_rfl) (n_cons ?_ <| n_nil)
   refine n_op (rem' := []) rfl (by kernel_rfl) rfl fun T41 hT41 => SW2 rfl ts34 rfl ?_
   refine r_nil (hT41 _ _ (fun w hs => St.sel [4, 5, 6, 7] rfl rfl hs) ?_)
   refine n_fin <| k_block <| KK hK13 ?_
   have hb42 : (SpanV.cells (addZ (longF ts f.toNat k) x.Long)) = (SpanV.cells (longF ts f.toNat (k + 1))) := by rw [longF_succ hx]
   rw [hb42]
   have hb43 : (SpanV.cells (addZ (fallF ts f.toNat k) x.Fall)) = (SpanV.cells (fallF ts f.toNat (k + 1))) := by rw [fallF_succ hx]
   rw [hb43]
   refine w_region <| rS (MV rfl) <| rS (BI rfl (b_add ⟨by omega, by omega⟩)) <| rS (AG rfl) <| r_nil ?_
   have hb44 : (Value.int .i64 (f + (((k + 1) : Nat) : Int))) = (Value.int .i64 ((f + ((k : Nat) : Int)) + 1)) := by exact congrArg (Value.int .i64) (by omega)
   refine k_then (hJ6 ⟨((k + 1), B9), ⟨by omega, hJ10, hF11⟩⟩ _ _ _ rfl (by first | omega | (simp; omega)) (Sub.cons rfl <| Sub.cons rfl <| Sub.cons rfl <| Sub.cons rfl <| Sub.cons rfl <| sub_val rfl hb44 <| Sub.nil _) (fun w hs => St.sel [2, 3, 4, 5, 6, 7] rfl rfl hs))
 refine n_op5 (rem' := [9, 18, 19, 20, 21]) rfl (by kernel_rfl) fun T14 hT14 => r_bs (xs := [.tmp 29]) (cs := (SpanV.cells x.Long)) rfl te81 tz34 rfl rfl rfl rfl (by simp [Value.cells, SpanV.cells_length]) rfl rfl fun b15 => ?_
 refine r_nil (hT14 _ _ (fun w hs => St.sel [3, 4, 5, 6] rfl rfl hs) (fun w hs => St.sel [1, 2, 3, 4, 5, 6] rfl rfl hs) ?_)
 refine n_step [9, 18] (by kernel_rfl) (n_cons ?_ <| n_cons ?_ <| n_nil)
 rotate_left 1
 · refine n_op5 (rem' := [9, 19, 20, 21]) rfl (by kernel_rfl) fun T25 hT25 => ?_
   refine r_bs (xs := [.tmp 39]) (cs := (SpanV.cells x.Fall)) rfl te81 tz34 rfl rfl rfl rfl (by simp [Value.cells, SpanV.cells_length]) rfl rfl fun b26 => ?_
   refine r_nil (hT25 _ _ (fun w hs => St.sel [4, 5, 6, 7] rfl rfl hs) (fun w hs => St.sel [2, 3, 4, 5, 6, 7] rfl rfl hs) ?_)
   refine n_step [9] (by kernel_rfl) (n_cons ?_ <| n_nil)
   refine n_op5 (rem' := [19, 20, 21]) rfl (by kernel_rfl) fun T27 hT27 => rS (CL (FnV.eq (plus_c (longF ts f.toNat k) ([x.Long]) (some ⟨b15, 0, none⟩) 1 (by exact longF_in hst (by omega)) (by intro z hz; simp only [List.mem_singleton] at hz; subst hz; exact long_in12 hxo) (by simp)) plus_one) (ha_cons (has_rd_blk 1 rfl rfl (by simp [SpanV.cells_length]) rfl) <| ha_nil) rfl) ?_
   refine r_nil (hT27 _ _ (fun w hs => St.sel [4, 5, 6, 7] rfl rfl hs) (fun w hs => St.sel [2, 3, 4, 5, 6, 7] rfl rfl hs) ?_)
   refine n_step [19] (by kernel_rfl) (n_cons ?_ <| n_nil)
   refine n_op (rem' := [20, 21]) rfl (by kernel_rfl) rfl fun T28 hT28 => rS (CL (FnV.eq (plus_c (fallF ts f.toNat k) ([x.Fall]) (some ⟨b26, 0, none⟩) 1 (by exact fallF_in hst (by omega)) (by intro z hz; simp only [List.mem_singleton] at hz; subst hz; exact fall_in12 hxo) (by simp)) plus_one) (ha_cons (has_rd_blk 0 rfl rfl (by simp [SpanV.cells_length]) rfl) <| ha_nil) rfl) ?_
   refine r_nil (hT28 _ _ (fun w hs => St.sel [4, 5, 6, 7] rfl rfl hs) ?_)
   refine n_step [20] (by kernel_rfl) (n_cons ?_ <| n_nil)
   refine n_op (rem' := [21]) rfl (by kernel_rfl) rfl fun T29 hT29 => SW3 rfl ts34 rfl ?_
   refine r_nil (hT29 _ _ (fun w hs => St.sel [4, 5, 6, 7] rfl rfl hs) ?_)
   refine n_step [21] (by kernel_rfl) (n_cons ?_ <| n_nil)
   refine n_op (rem' := []) rfl (by kernel_rfl) rfl fun T30 hT30 => SW2 rfl ts34 rfl ?_
   refine r_nil (hT30 _ _ (fun w hs => St.sel [4, 5, 6, 7] rfl rfl hs) ?_)
   refine n_fin <| k_block <| KK hK13 ?_
   have hb31 : (SpanV.cells (addZ (longF ts f.toNat k) x.Long)) = (SpanV.cells (longF ts f.toNat (k + 1))) := by rw [longF_succ hx]
   rw [hb31]
   have hb32 : (SpanV.cells (addZ (fallF ts f.toNat k) x.Fall)) = (SpanV.cells (fallF ts f.toNat (k + 1))) := by rw [fallF_succ hx]
   rw [hb32]
   refine w_region <| rS (MV rfl) <| rS (BI rfl (b_add ⟨by omega, by omega⟩)) <| rS (AG rfl) <| r_nil ?_
   have hb33 : (Value.int .i64 (f + (((k + 1) : Nat) : Int))) = (Value.int .i64 ((f + ((k : Nat) : Int)) + 1)) := by exact congrArg (Value.int .i64) (by omega)
   refine k_then (hJ6 ⟨((k + 1), B9), ⟨by omega, hJ10, hF11⟩⟩ _ _ _ rfl (by first | omega | (simp; omega)) (Sub.cons rfl <| Sub.cons rfl <| Sub.cons rfl <| Sub.cons rfl <| Sub.cons rfl <| sub_val rfl hb33 <| Sub.nil _) (fun w hs => St.sel [2, 3, 4, 5, 6, 7] rfl rfl hs))
 refine n_op5 (rem' := [18, 19, 20, 21]) rfl (by kernel_rfl) fun T16 hT16 => rS (CL (FnV.eq (plus_c (longF ts f.toNat k) ([x.Long]) (some ⟨b15, 0, none⟩) 1 (by exact longF_in hst (by omega)) (by intro z hz; simp only [List.mem_singleton] at hz; subst hz; exact long_in12 hxo) (by simp)) plus_one) (ha_cons (has_rd_blk 0 rfl rfl (by simp [SpanV.cells_length]) rfl) <| ha_nil) rfl) ?_
 refine r_nil (hT16 _ _ (fun w hs => St.sel [3, 4, 5, 6] rfl rfl hs) (fun w hs => St.sel [1, 2, 3, 4, 5, 6] rfl rfl hs) ?_)
 refine n_step [18] (by kernel_rfl) (n_cons ?_ <| n_nil)
 refine n_op5 (rem' := [19, 20, 21]) rfl (by kernel_rfl) fun T17 hT17 => r_bs (xs := [.tmp 39]) (cs := (SpanV.cells x.Fall)) rfl te81 tz34 rfl rfl rfl rfl (by simp [Value.cells, SpanV.cells_length]) rfl rfl fun b18 => ?_
 refine r_nil (hT17 _ _ (fun w hs => St.sel [4, 5, 6, 7] rfl rfl hs) (fun w hs => St.sel [2, 3, 4, 5, 6, 7] rfl rfl hs) ?_)
 refine n_step [19] (by kernel_rfl) (n_cons ?_ <| n_nil)
 refine n_op (rem' := [20, 21]) rfl (by kernel_rfl) rfl fun T19 hT19 => rS (CL (FnV.eq (plus_c (fallF ts f.toNat k) ([x.Fall]) (some ⟨b18, 0, none⟩) 1 (by exact fallF_in hst (by omega)) (by intro z hz; simp only [List.mem_singleton] at hz; subst hz; exact fall_in12 hxo) (by simp)) plus_one) (ha_cons (has_rd_blk 0 rfl rfl (by simp [SpanV.cells_length]) rfl) <| ha_nil) rfl) ?_
 refine r_nil (hT19 _ _ (fun w hs => St.sel [4, 5, 6, 7] rfl rfl hs) ?_)
 refine n_step [20] (by kernel_rfl) (n_cons ?_ <| n_nil)
 refine n_op (rem' := [21]) rfl (by kernel_rfl) rfl fun T20 hT20 => SW3 rfl ts34 rfl ?_
 refine r_nil (hT20 _ _ (fun w hs => St.sel [4, 5, 6, 7] rfl rfl hs) ?_)
 refine n_step [21] (by kernel_rfl) (n_cons ?_ <| n_nil)
 refine n_op (rem' := []) rfl (by kernel_rfl) rfl fun T21 hT21 => SW2 rfl ts34 rfl ?_
 refine r_nil (hT21 _ _ (fun w hs => St.sel [4, 5, 6, 7] rfl rfl hs) ?_)
 refine n_fin <| k_block <| KK hK13 ?_
 have hb22 : (SpanV.cells (addZ (longF ts f.toNat k) x.Long)) = (SpanV.cells (longF ts f.toNat (k + 1))) := by rw [longF_succ hx]
 rw [hb22]
 have hb23 : (SpanV.cells (addZ (fallF ts f.toNat k) x.Fall)) = (SpanV.cells (fallF ts f.toNat (k + 1))) := by rw [fallF_succ hx]
 rw [hb23]
 refine w_region <| rS (MV rfl) <| rS (BI rfl (b_add ⟨by omega, by omega⟩)) <| rS (AG rfl) <| r_nil ?_
 have hb24 : (Value.int .i64 (f + (((k + 1) : Nat) : Int))) = (Value.int .i64 ((f + ((k : Nat) : Int)) + 1)) := by exact congrArg (Value.int .i64) (by omega)
 refine k_then (hJ6 ⟨((k + 1), B9), ⟨by omega, hJ10, hF11⟩⟩ _ _ _ rfl (by first | omega | (simp; omega)) (Sub.cons rfl <| Sub.cons rfl <| Sub.cons rfl <| Sub.cons rfl <| Sub.cons rfl <| sub_val rfl hb24 <| Sub.nil _) (fun w hs => St.sel [2, 3, 4, 5, 6, 7] rfl rfl hs))
set_option maxRecDepth 100000 in
set_option maxHeartbeats 400000 in
theorem drop_c (ts : List StretchV) (tsA : Option Addr) (tsC : Nat) (f : Int) (t : Int) (hst : ∀ x ∈ ts, StretchOk x) (hlen : ts.length ≤ 12) (hf : 0 ≤ f ∧ f ≤ t ∧ t ≤ ts.length) :
    FnV Try.prog 69 [(Value.agg (SurveyV.cells (SurveyV.mk (TrackV.mk (Slc.mk tsA ts.length tsC)))).toArray), (Value.int .i64 f), (Value.int .i64 t)] [(rd tsA ts.length 9 (ts.map StretchV.cells))] (Value.tuple [(Value.agg (SpanV.cells (longF ts f.toNat (t - f).toNat)).toArray), (Value.agg (SpanV.cells (fallF ts f.toNat (t - f).toNat)).toArray)].toArray) := by
 refine fnV_of go69 Try.func69 rfl rfl fun w0 Q hQ hN => ?_
 try dsimp only
 refine WS fun _ hK1 => BXA rfl fun b2 => BX1 rfl rfl fun b3 => BX1 rfl rfl fun b4 => AL rfl tz34 fun b5 => AL rfl tz34 fun b6 => RK hK1 <| w_seq fun _ hK7 => WS fun _ hK8 => rS (LW 4 rfl tk117 rfl rfl) ?_
 refine rS (L1W 3 rfl tk3 rfl) <| cX (marks_c f tsA ts.length tsC) (ha_nil) rfl fun y9 hy10 => ?_
 obtain ⟨b111, b212⟩ := y9
 try dsimp only
 refine RK hK8 <| w_block <| w_dup 7 rfl (by exact fun _ h => h) ?_
 refine w_range (L0 := [(3, (Value.pointer (some ⟨b2, 0, none⟩))), (4, (Value.pointer (some ⟨b3, 0, none⟩))), (5, (Value.pointer (some ⟨b4, 0, none⟩))), (6, (Value.pointer (some ⟨b5, 0, none⟩))), (7, (Value.pointer (some ⟨b6, 0, none⟩)))]) (F := [(rd tsA ts.length 9 (ts.map StretchV.cells)).ro, (blk b111 3 [(Value.int .i64 f)]), (blk b212 117 (SurveyV.cells (SurveyV.mk (TrackV.mk (Slc.mk tsA ts.length tsC)))))]) (xs := (markV ts f.toNat)) (fun k (y : SpanV × SpanV × Int) => (k ≤ (t - f).toNat) ∧ (y.2.2 = f + ((k : Nat) : Int))) (fun k y => [(blk b6 34 (SpanV.cells y.2.1)), (blk b5 34 (SpanV.cells y.1)), (blk b4 3 [(Value.int .i64 t)]), (blk b3 3 [(Value.int .i64 y.2.2)]), (blk b2 117 (SurveyV.cells (SurveyV.mk (TrackV.mk (Slc.mk tsA ts.length tsC))))), (rd tsA ts.length 9 (ts.map StretchV.cells)).ro]) (fun c (z : Unit) => (c = .exit 0)) (fun _ z => [(blk b6 34 (SpanV.cells (fallF ts f.toNat (t - f).toNat))), (blk b5 34 (SpanV.cells (longF ts f.toNat (t - f).toNat))), (blk b4 3 [(Value.int .i64 t)]), (blk b3 3 [(Value.int .i64 t)]), (blk b2 117 (SurveyV.cells (SurveyV.mk (TrackV.mk (Slc.mk tsA ts.length tsC))))), (rd tsA ts.length 9 (ts.map StretchV.cells)).ro]) [3, 4, 5, 6, 7, 8] [0, 1, 2] (zeroZ, zeroZ, f) rfl rfl (marksit_c ts tsA tsC f b111 b212 (by first | assumption | omega | (simp; done)) (by first | assumption | omega | (simp; done)) (by omega)) rfl rfl rfl (by exact ⟨Nat.zero_le _, by simp⟩) (by simp only [List.forall_mem_cons, List.not_mem_nil, false_imp_iff, implies_true, and_true]; exact ⟨⟨_, by simp, (cov_ro (cov_refl _))⟩, ⟨_, by simp, (cov_refl _)⟩, ⟨_, by simp, (cov_refl _)⟩⟩) (by exact markV_lens) rfl (Sub.cons rfl <| Sub.cons rfl <| Sub.cons rfl <| Sub.cons rfl <| Sub.cons rfl <| Sub.nil _) ?_ ?_ ?_ ?_
 rotate_left 1
 · rintro r25 ⟨z1, z2, m⟩ hin26
   obtain ⟨hr0, hr1⟩ := hin26
   try dsimp only at hr0 hr1
   try dsimp only
   exfalso; rw [markV_length] at hr0; omega
 · rintro r27 id _ hx28
   have hc := hx28
   cases hc
   try dsimp only
   refine k_exit_same <| KK hK7 <| w_seq fun _ hK29 => w_draw4 mixed [0, 1] [2, 3] [false, false] [false, false] [(obj r27 (.deferred (some []))), (rd tsA ts.length 9 (ts.map StretchV.cells)).ro, (blk b111 3 [(Value.int .i64 f)]), (blk b212 117 (SurveyV.cells (SurveyV.mk (TrackV.mk (Slc.mk tsA ts.length tsC))))), (blk b6 34 (SpanV.cells (fallF ts f.toNat (t - f).toNat))), (blk b5 34 (SpanV.cells (longF ts f.toNat (t - f).toNat))), (blk b4 3 [(Value.int .i64 t)]), (blk b3 3 [(Value.int .i64 t)]), (blk b2 117 (SurveyV.cells (SurveyV.mk (TrackV.mk (Slc.mk tsA ts.length tsC))))), (rd tsA ts.length 9 (ts.map StretchV.cells)).ro] [] (by kernel_rfl) (fun w hs => St.sel [0, 1, 2, 3, 4, 5, 6, 7, 8, 9] rfl rfl hs) (fun w hs => St.sel [] rfl rfl hs) <| eS rfl (LW 5 rfl tk34 rfl rfl) <| eS rfl (LW 4 rfl tk34 rfl rfl) <| d_fin rfl <| t_cons rfl fun T30 hT30 => SW5 rfl ts34 rfl ?_
   refine r_nil (hT30 _ _ (fun w hs => St.sel [0, 1, 2, 3, 4, 5, 6, 7, 8, 9] rfl rfl hs) ?_)
   refine t_cons rfl fun T31 hT31 => SW4 rfl ts34 rfl ?_
   refine r_nil (hT31 _ _ (fun w hs => St.sel [0, 1, 2, 3, 4, 5, 6, 7, 8, 9] rfl rfl hs) ?_)
   refine t_fin rfl <| KK hK29 <| w_ret ?_
   refine hQ _ _ _ (l_mark 0 rfl rfl <| l_nil (vs := [(Value.agg (SpanV.cells (longF ts f.toNat (t - f).toNat)).toArray), (Value.agg (SpanV.cells (fallF ts f.toNat (t - f).toNat)).toArray)]) ⟨⟨_, rfl, .inl ⟨_, _, tk34, at_blk (vs := (SpanV.cells (longF ts f.toNat (t - f).toNat))) 5 rfl rfl, rfl, rfl⟩⟩, ⟨_, rfl, .inl ⟨_, _, tk34, at_blk (vs := (SpanV.cells (fallF ts f.toNat (t - f).toNat))) 4 rfl rfl, rfl, rfl⟩⟩, trivial⟩ fun w hs => endV ?_ hs)
   show (Value.tuple [(Value.agg (SpanV.cells (longF ts f.toNat (t - f).toNat)).toArray), (Value.agg (SpanV.cells (fallF ts f.toNat (t - f).toNat)).toArray)].toArray) = (Value.tuple [(Value.agg (SpanV.cells (longF ts f.toNat (t - f).toNat)).toArray), (Value.agg (SpanV.cells (fallF ts f.toNat (t - f).toNat)).toArray)].toArray)
   clear hs w hQ hN hT31 T31 hT30 T30 hK29 hK8 hK7 hK1
   rfl
 · rintro r32 _ hx33
   cases hx33
 rintro k x ⟨z1, z2, m⟩ l ra rb S w1 K13 Qr14 hx hin15 hK13 hQr14 xQr14 yQr14
 obtain ⟨hk, rfl⟩ := markV_out hx
 obtain ⟨hr0, hr1⟩ := hin15
 try dsimp only at hr0 hr1
 try dsimp only
 refine WS fun _ hK16 => AL rfl tz34 fun b17 => SW0 rfl ts34 rfl <| RK hK16 <| w_region <| AL rfl tz34 fun b18 => SW0 rfl ts34 rfl <| r_nil <| k_sub (fun _ _ h => h) (fun w hs => St.sel [2, 0, 1, 3, 4, 5, 6, 7, 8] rfl rfl hs) ?_
 refine k_then (hK13 _ _ ?_)
 refine w_block <| w_seq fun _ hK19 => w_seq fun _ hK20 => w_draw4 mixed [0, 1] [2, 3] [false, false] [false, false] [(obj l (.loop rb)), (blk b18 34 (SpanV.cells (fallF ts f.toNat k))), (blk b17 34 (SpanV.cells (longF ts f.toNat k))), (blk b4 3 [(Value.int .i64 t)]), (blk b3 3 [(Value.int .i64 m)]), (blk b2 117 (SurveyV.cells (SurveyV.mk (TrackV.mk (Slc.mk tsA ts.length tsC))))), (rd tsA ts.length 9 (ts.map StretchV.cells)).ro] [] (by kernel_rfl) (fun w hs => St.sel [0, 1, 2, 5, 6, 7, 8] rfl rfl hs) (fun w hs => St.sel [] rfl rfl hs) <| eS rfl (LW 2 rfl tk34 rfl rfl) <| eS rfl (LW 1 rfl tk34 rfl rfl) <| d_fin rfl <| t_cons rfl fun T21 hT21 => SW4 rfl ts34 rfl ?_
 refine r_nil (hT21 _ _ (fun w hs => St.sel [0, 1, 2, 5, 6, 7, 8] rfl rfl hs) ?_)
 refine t_cons rfl fun T22 hT22 => SW3 rfl ts34 rfl ?_
 refine r_nil (hT22 _ _ (fun w hs => St.sel [0, 1, 2, 5, 6, 7, 8] rfl rfl hs) ?_)
 refine t_fin rfl <| KK hK20 <| WS fun _ hK23 => rS (L1W 6 rfl tk3 rfl) <| rS (L1W 5 rfl tk3 rfl) <| rS (BI rfl b_eql) <| RK hK23 ?_
 refine w_if rfl (fun h24 => ?_) (fun h24 => ?_)
 · replace h24 := DT h24
   refine w_exit <| k_exit_then <| k_exit_other rfl ?_
   rw [show m = t from by omega]
   obtain rfl : k = (t - f).toNat := by omega
   exact xQr14 _ () _ _ (by exact rfl) (fun w hs => St.sel [0, 3, 4, 5, 6, 7, 8] rfl rfl hs)
 replace h24 := DF h24
 refine WK hK19 <| w_region <| rS (L1W 6 rfl tk3 rfl) <| rS (BI rfl (b_add ⟨by omega, by omega⟩)) <| SO6 rfl ts3 rfl rfl <| r_nil <| k_block ?_
 exact hQr14 ((longF ts f.toNat k), (fallF ts f.toNat k), (m + 1)) _ _ (by refine ⟨by omega, ?_⟩; dsimp only; omega) (fun w hs => St.sel [0, 3, 4, 5, 6, 7, 8] rfl rfl hs)
end
end Go.Proofs.Ytaehngpnlkokkaa
