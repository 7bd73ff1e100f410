/-
  Plain functions: what the code computes, said in Lean.
-/
import Derived.Test.YtpbgdeojcefnmaaTrk
namespace Go.Proofs.Ytpbgdeojcefnmaa
/-- the head at the next mark -/
def nextH (h lo fa ru dr we : Int) : Int := max 0 (max 0 (h - h * dr * lo / (100 * we)) + fa - ru * lo / 100)
def SledOk (s : SledV) : Prop := (1 ≤ s.Class ∧ s.Class ≤ 3) ∧ SpanOk s.Start 0 200000 ∧ SpanOk s.Rub 0 100 ∧ SpanOk s.Drag 0 1000 ∧ SpanOk s.Weight 50000 800000 ∧ SpanOk s.Steer (-500) 500
instance (s : SledV) : Decidable (SledOk s) := by unfold SledOk; infer_instance
/-! ### speeds -/
theorem sq_mono {a b : Int} (h0 : 0 ≤ a) (h : a ≤ b) : 10 * a * a ≤ 10 * b * b := by
  have h1 := Int.mul_le_mul (show 10 * a ≤ 10 * b by omega) h h0 (by omega)
  exact h1
def IsSlow (h r : Int) : Prop := 0 ≤ r ∧ 10 * r * r ≤ 1962 * h ∧ 1962 * h < 10 * (r + 1) * (r + 1)
theorem isSlow_unique {h r s : Int} (hr : IsSlow h r) (hs : IsSlow h s) : r = s := by
  obtain ⟨r0, r1, r2⟩ := hr
  obtain ⟨s0, s1, s2⟩ := hs
  rcases Int.lt_trichotomy r s with hlt | heq | hlt
  · have := sq_mono (a := r + 1) (b := s) (by omega) (by omega); omega
  · exact heq
  · have := sq_mono (a := s + 1) (b := r) (by omega) (by omega); omega
theorem isSlow_ex {h : Int} (hh : 0 ≤ h) : ∃ r, IsSlow h r := by
  obtain ⟨m, rfl⟩ := Int.eq_ofNat_of_zero_le hh
  have key : ∀ k : Nat, (∃ r, IsSlow (m : Int) r) ∨ 10 * (k : Int) * k ≤ 1962 * (m : Int) := by
    intro k
    induction k with
    | zero => right; simp; omega
    | succ k ih =>
      rcases ih with h1 | h1
      · exact .inl h1
      · by_cases h2 : 10 * ((k + 1 : Nat) : Int) * ((k + 1 : Nat) : Int) ≤ 1962 * (m : Int)
        · exact .inr h2
        · left; refine ⟨k, by omega, h1, ?_⟩
          have e : ((k + 1 : Nat) : Int) = (k : Int) + 1 := by omega
          rw [e] at h2; omega
  rcases key (1962 * m + 1) with h1 | h1
  · exact h1
  · exfalso
    have e : (((1962 * m + 1 : Nat) : Int)) = 1962 * (m : Int) + 1 := by omega
    rw [e] at h1
    have h2 : 10 * (1962 * (m : Int) + 1) * 1 ≤ 10 * (1962 * (m : Int) + 1) * (1962 * (m : Int) + 1) := Int.mul_le_mul (Int.le_refl _) (by omega) (by omega) (by omega)
    omega
noncomputable def slowF (h : Int) : Int := if hh : 0 ≤ h then Classical.choose (isSlow_ex hh) else 0
theorem slowF_is {h : Int} (hh : 0 ≤ h) : IsSlow h (slowF h) := by
  unfold slowF; rw [dif_pos hh]; exact Classical.choose_spec (isSlow_ex hh)
theorem slowF_eq {h r : Int} (hh : 0 ≤ h) (hr : IsSlow h r) : slowF h = r := isSlow_unique (slowF_is hh) hr
theorem slowF_le {h : Int} (hh : 0 ≤ h) (h4 : h ≤ 400000) : 0 ≤ slowF h ∧ slowF h ≤ 9000 := by
  obtain ⟨h1, h2, _⟩ := slowF_is hh
  refine ⟨h1, ?_⟩
  rcases Int.lt_or_le 9000 (slowF h) with hlt | hle
  · have := sq_mono (a := 9000) (b := slowF h) (by omega) (by omega); omega
  · exact hle
noncomputable def fastF (h : Int) : Int := if 10 * slowF h * slowF h < 1962 * h then slowF h + 1 else slowF h
theorem slow_no {h x : Int} (hh : 0 ≤ h) (h0 : 0 ≤ x) (hx : x < slowF h + 1) : decide (1962 * h < 10 * x * x) = false := by
  obtain ⟨h1, h2, h3⟩ := slowF_is hh
  have := sq_mono (a := x) (b := slowF h) h0 (by omega)
  exact decide_eq_false (by omega)
theorem slow_yes {h x : Int} (hh : 0 ≤ h) (hx : slowF h + 1 ≤ x) : decide (1962 * h < 10 * x * x) = true := by
  obtain ⟨h1, h2, h3⟩ := slowF_is hh
  have := sq_mono (a := slowF h + 1) (b := x) (by omega) hx
  exact decide_eq_true (by omega)
theorem fastF_le {h : Int} (hh : 0 ≤ h) (h4 : h ≤ 400000) : 0 ≤ fastF h ∧ fastF h ≤ 9001 := by
  have := slowF_le hh h4
  unfold fastF; split <;> omega
theorem fast_no {h x : Int} (hh : 0 ≤ h) (h0 : 0 ≤ x) (hx : x < fastF h) : decide (1962 * h ≤ 10 * x * x) = false := by
  obtain ⟨h1, h2, h3⟩ := slowF_is hh
  unfold fastF at hx
  refine decide_eq_false ?_
  split at hx
  · have := sq_mono (a := x) (b := slowF h) h0 (by omega); omega
  · have h4 := Int.mul_lt_mul' (show 10 * x ≤ 10 * slowF h by omega) hx h0 (by omega); omega
theorem fast_yes {h x : Int} (hh : 0 ≤ h) (hx : fastF h ≤ x) : decide (1962 * h ≤ 10 * x * x) = true := by
  obtain ⟨h1, h2, h3⟩ := slowF_is hh
  unfold fastF at hx
  refine decide_eq_true ?_
  split at hx
  · have := sq_mono (a := slowF h + 1) (b := x) (by omega) hx; omega
  · have := sq_mono (a := slowF h) (b := x) h1 hx; omega
/-- what the halving search keeps -/
def capB (b : Int) : Int := if b = 0 then 1 else 2 * b
def Pow2 (b : Int) : Prop := b = 0 ∨ ∃ k : Nat, b = 2 ^ k
theorem half_cap {b : Int} (h : Pow2 b) (hb : 0 < b) : capB (b / 2) = b ∧ Pow2 (b / 2) := by
  rcases h with h | ⟨k, rfl⟩
  · omega
  · cases k with
    | zero => exact ⟨by decide, .inl (by decide)⟩
    | succ k =>
      have h1 : ((2 : Int) ^ (k + 1)) / 2 = 2 ^ k := by rw [Int.pow_succ]; omega
      have h2 : (0 : Int) < 2 ^ k := Int.pow_pos (by decide)
      rw [h1]
      refine ⟨?_, .inr ⟨k, rfl⟩⟩
      unfold capB; rw [if_neg (by omega), Int.pow_succ]; omega
theorem capB_pos {b : Int} (h : 0 < b) : capB b = 2 * b := by unfold capB; rw [if_neg (by omega)]
/-! ### heads -/
def oneF (best f : Bool) (s : SpanV) : Int := if best = f then s.Hi else s.Lo
def stepH (best : Bool) (s : SledV) (x : StretchV) (h : Int) : Int := nextH h (oneF best false x.Long) (oneF best true x.Fall) (oneF best false s.Rub) (oneF best false s.Drag) (oneF best true s.Weight)
def headAt (best : Bool) (s : SledV) (ts : List StretchV) : Nat → Int
  | 0 => oneF best true s.Start
  | i + 1 => match ts[i]? with
    | some x => stepH best s x (headAt best s ts i)
    | none => headAt best s ts i
def headsL (best : Bool) (s : SledV) (ts : List StretchV) : List Int := (List.range (ts.length + 1)).map (headAt best s ts)
theorem oneF_ok {best f : Bool} {s : SpanV} {lo hi : Int} (h : SpanOk s lo hi) : lo ≤ oneF best f s ∧ oneF best f s ≤ hi := by
  obtain ⟨h1, h2, h3⟩ := h
  unfold oneF; split <;> omega
theorem headAt_succ {best : Bool} {s : SledV} {ts : List StretchV} {i : Nat} {x : StretchV} (hx : ts[i]? = some x) : headAt best s ts (i + 1) = stepH best s x (headAt best s ts i) := by simp [headAt, hx]
theorem headAt_b {best : Bool} {s : SledV} {ts : List StretchV} (hs : SledOk s) (ht : ∀ x ∈ ts, StretchOk x) : ∀ i : Nat, 0 ≤ headAt best s ts i ∧ headAt best s ts i ≤ 200000 + 5000 * (i : Int) := by
  intro i
  induction i with
  | zero => have := oneF_ok (best := best) (f := true) hs.2.1; simp only [headAt]; omega
  | succ i ih =>
    simp only [headAt]
    split
    · rename_i x hx
      have hm := ht x (List.mem_of_getElem? hx)
      have h1 := oneF_ok (best := best) (f := true) hm.2.2.1
      have h2 := oneF_ok (best := best) (f := false) hm.2.1
      have h3 := oneF_ok (best := best) (f := false) hs.2.2.1
      have h4 := oneF_ok (best := best) (f := false) hs.2.2.2.1
      have h5 := oneF_ok (best := best) (f := true) hs.2.2.2.2.1
      have hq : 0 ≤ headAt best s ts i * oneF best false s.Drag * oneF best false x.Long / (100 * oneF best true s.Weight) :=
        Int.ediv_nonneg (Int.mul_nonneg (Int.mul_nonneg ih.1 h4.1) (by omega)) (by omega)
      have hr : 0 ≤ oneF best false s.Rub * oneF best false x.Long / 100 := Int.ediv_nonneg (Int.mul_nonneg h3.1 (by omega)) (by omega)
      unfold stepH nextH
      omega
    · omega
/-- what the iterator of heads yields -/
def headV (best : Bool) (s : SledV) (ts : List StretchV) : List (List Value) := (List.range (ts.length + 1)).map fun (i : Nat) => [.int .i64 (i : Int), .int .i64 (headAt best s ts i)]
theorem headV_length {best : Bool} {s : SledV} {ts : List StretchV} : (headV best s ts).length = ts.length + 1 := by simp [headV]
theorem headV_get {best : Bool} {s : SledV} {ts : List StretchV} {i : Nat} (h : i ≤ ts.length) : (headV best s ts)[i]? = some [.int .i64 (i : Int), .int .i64 (headAt best s ts i)] := by
  simp [headV, List.getElem?_range (show i < ts.length + 1 by omega)]
theorem headV_out {best : Bool} {s : SledV} {ts : List StretchV} {i : Nat} {x : List Value} (h : (headV best s ts)[i]? = some x) : i ≤ ts.length ∧ x = [.int .i64 (i : Int), .int .i64 (headAt best s ts i)] := by
  have hi : i < ts.length + 1 := by
    have := (List.getElem?_eq_some_iff.1 h).1
    simpa [headV] using this
  rw [headV_get (by omega)] at h
  exact ⟨by omega, (Option.some.inj h).symm⟩
theorem headsL_length {best : Bool} {s : SledV} {ts : List StretchV} : (headsL best s ts).length = ts.length + 1 := by simp [headsL]
theorem headsL_get {best : Bool} {s : SledV} {ts : List StretchV} {i : Nat} (h : i ≤ ts.length) : (headsL best s ts)[i]? = some (headAt best s ts i) := by
  simp [headsL, List.getElem?_range (show i < ts.length + 1 by omega)]
theorem headsL_take {best : Bool} {s : SledV} {ts : List StretchV} {i : Nat} (h : i ≤ ts.length) : (headsL best s ts).take (i + 1) = (headsL best s ts).take i ++ [headAt best s ts i] := by
  rw [List.take_add_one, headsL_get h]; rfl
theorem headV_end {best : Bool} {s : SledV} {ts : List StretchV} {i : Nat} (h : i ≤ ts.length) (h' : ts.length ≤ i) : (headV best s ts)[i]? = some [.int .i64 (ts.length : Int), .int .i64 (headAt best s ts i)] := by
  have e : i = ts.length := by omega
  rw [headV_get h, e]
theorem heads_take_end {best : Bool} {s : SledV} {ts : List StretchV} : (headsL best s ts).take (headV best s ts).length = headsL best s ts := by
  rw [List.take_of_length_le]; rw [headV_length, headsL_length]; exact Nat.le_refl _
theorem headV_lens {best : Bool} {s : SledV} {ts : List StretchV} : ∀ x ∈ headV best s ts, x.length = 2 := by
  intro x hx
  simp only [headV, List.mem_map] at hx
  obtain ⟨i, _, rfl⟩ := hx; rfl
def spanAt (s : SledV) (ts : List StretchV) (i : Nat) : SpanV := ⟨headAt false s ts i, headAt true s ts i⟩
def spansL (s : SledV) (ts : List StretchV) : List SpanV := (List.range (ts.length + 1)).map (spanAt s ts)
theorem spansL_length {s : SledV} {ts : List StretchV} : (spansL s ts).length = ts.length + 1 := by simp [spansL]
theorem spansL_get {s : SledV} {ts : List StretchV} {i : Nat} (h : i ≤ ts.length) : (spansL s ts)[i]? = some (spanAt s ts i) := by
  simp [spansL, List.getElem?_range (show i < ts.length + 1 by omega)]
theorem spansL_take {s : SledV} {ts : List StretchV} {i : Nat} (h : i ≤ ts.length) : (spansL s ts).take (i + 1) = (spansL s ts).take i ++ [spanAt s ts i] := by
  rw [List.take_add_one, spansL_get h]; rfl
theorem spans_take_end {s : SledV} {ts : List StretchV} : (spansL s ts).take (headV false s ts).length = spansL s ts := by
  rw [List.take_of_length_le]; rw [headV_length, spansL_length]; exact Nat.le_refl _
theorem spansL_full {s : SledV} {ts : List StretchV} {i : Nat} (h : ts.length ≤ i) : (spansL s ts).take (i + 1) = spansL s ts := by
  rw [List.take_of_length_le]; rw [spansL_length]; omega
theorem span_next {s : SledV} {ts : List StretchV} {i : Nat} {x : StretchV} (hx : ts[i]? = some x) :
    SpanV.mk (nextH (headAt false s ts i) x.Long.Hi x.Fall.Lo s.Rub.Hi s.Drag.Hi s.Weight.Lo) (nextH (headAt true s ts i) x.Long.Lo x.Fall.Hi s.Rub.Lo s.Drag.Lo s.Weight.Hi) = spanAt s ts (i + 1) := by
  unfold spanAt; rw [headAt_succ hx, headAt_succ hx]; rfl
theorem spans_one {s : SledV} {ts : List StretchV} : (spansL s ts).take (0 + 1) = [spanAt s ts 0] := by rw [spansL_take (Nat.zero_le _)]; rfl
theorem spanAt_zero {s : SledV} {ts : List StretchV} : spanAt s ts 0 = s.Start := by unfold spanAt headAt oneF; cases s; simp
/-! ### what the chapter's functions answer -/
def bothE (s : SledV) (ts : List StretchV) : Int := if trackOk ts = true then (if SledOk s then 0 else 30) else 10
theorem bothE_bad {s : SledV} {ts : List StretchV} (h : trackOk ts = false) : bothE s ts = 10 := by unfold bothE; rw [h]; rfl
theorem bothE_sled {s : SledV} {ts : List StretchV} (h : trackOk ts = true) (hs : ¬ SledOk s) : bothE s ts = 30 := by unfold bothE; rw [if_pos h, if_neg hs]
theorem bothE_ok {s : SledV} {ts : List StretchV} (h : trackOk ts = true) (hs : SledOk s) : bothE s ts = 0 := by unfold bothE; rw [if_pos h, if_pos hs]
theorem bothE_zero {s : SledV} {ts : List StretchV} (h : bothE s ts = 0) : trackOk ts = true ∧ SledOk s := by
  unfold bothE at h
  split at h
  · split at h
    · exact ⟨by assumption, by assumption⟩
    · omega
  · omega
def spansU (s : SledV) (ts : List StretchV) : List SpanV := if bothE s ts = 0 then spansL s ts else []
theorem spansU_ok {s : SledV} {ts : List StretchV} (h : trackOk ts = true) (hs : SledOk s) : spansU s ts = spansL s ts := by unfold spansU; rw [if_pos (bothE_ok h hs)]
theorem spansU_no {s : SledV} {ts : List StretchV} (h : ¬ bothE s ts = 0) : spansU s ts = [] := by unfold spansU; rw [if_neg h]
def speedE (s : SledV) (ts : List StretchV) (mark : Int) : Int := if bothE s ts = 0 then (if 0 ≤ mark ∧ mark ≤ ts.length then 0 else 2) else bothE s ts
noncomputable def speedV (s : SledV) (ts : List StretchV) (mark : Int) : SpanV := if bothE s ts = 0 ∧ 0 ≤ mark ∧ mark ≤ ts.length then ⟨slowF (headAt false s ts mark.toNat), fastF (headAt true s ts mark.toNat)⟩ else ⟨0, 0⟩
theorem speed_no {s : SledV} {ts : List StretchV} {i : Int} (h : ¬ bothE s ts = 0) : speedV s ts i = ⟨0, 0⟩ ∧ speedE s ts i = bothE s ts := ⟨if_neg (fun q => h q.1), if_neg h⟩
theorem speed_out {s : SledV} {ts : List StretchV} {i : Int} (h : bothE s ts = 0) (hi : ¬ (0 ≤ i ∧ i ≤ ts.length)) : speedV s ts i = ⟨0, 0⟩ ∧ speedE s ts i = 2 := ⟨if_neg (fun q => hi q.2), by unfold speedE; rw [if_pos h, if_neg hi]⟩
theorem speed_in {s : SledV} {ts : List StretchV} {i : Int} (h : bothE s ts = 0) (hi : 0 ≤ i ∧ i ≤ ts.length) : speedV s ts i = ⟨slowF (headAt false s ts i.toNat), fastF (headAt true s ts i.toNat)⟩ ∧ speedE s ts i = 0 := ⟨if_pos ⟨h, hi⟩, by unfold speedE; rw [if_pos h, if_pos hi]⟩
/-- the greatest head within a stretch -/
def inAt (best : Bool) (s : SledV) (ts : List StretchV) (i : Nat) : Int := max (headAt best s ts i) (headAt best s ts (i + 1))
theorem inAt_b {best : Bool} {s : SledV} {ts : List StretchV} (hs : SledOk s) (ht : ∀ x ∈ ts, StretchOk x) {i : Nat} (hi : i ≤ 12) : 0 ≤ inAt best s ts i ∧ inAt best s ts i ≤ 270000 := by
  have h1 := headAt_b (best := best) hs ht i
  have h2 := headAt_b (best := best) hs ht (i + 1)
  unfold inAt; omega
def bankF (best : Bool) (s : SledV) (x : StretchV) (h : Int) : Int := if 10 * oneF best false x.Radius = 0 then 0 else 1200 * h / (10 * oneF best false x.Radius) + oneF best true s.Steer
def hgt (best : Bool) (s : SledV) (ts : List StretchV) (i : Nat) : Int := match ts[i]? with
  | some x => bankF best s x (inAt best s ts i)
  | none => 0
theorem hgt_at {best : Bool} {s : SledV} {ts : List StretchV} {i : Nat} {x : StretchV} (h : ts[i]? = some x) : hgt best s ts i = bankF best s x (inAt best s ts i) := by unfold hgt; rw [h]
def isCurve (ts : List StretchV) (j : Nat) : Bool := match ts[j]? with
  | some x => !decide (x.Side = 0)
  | none => false
theorem isCurve_at {ts : List StretchV} {i : Nat} {x : StretchV} (h : ts[i]? = some x) : isCurve ts i = !decide (x.Side = 0) := by unfold isCurve; rw [h]
theorem isCurve_no {ts : List StretchV} {i : Nat} (h : ts.length ≤ i) : isCurve ts i = false := by unfold isCurve; rw [List.getElem?_eq_none h]
/-- the heights of all stretches -/
def hall (best : Bool) (s : SledV) (ts : List StretchV) : List (Int × Int) := (List.range ts.length).map fun (i : Nat) => ((i : Int), hgt best s ts i)
/-- the heights of all stretches from i on, and of the curves ahead of it -/
def hgts (best : Bool) (s : SledV) (ts : List StretchV) (i : Nat) : List (Int × Int) := ((List.range ts.length).filter fun j => decide (i ≤ j) || isCurve ts j).map fun (j : Nat) => ((j : Int), hgt best s ts j)
theorem lookup_pairs {f : Nat → Int} {i : Int} : ∀ l : List Nat, (l.map fun (j : Nat) => ((j : Int), f j)).lookup i = if 0 ≤ i ∧ i.toNat ∈ l then some (f i.toNat) else none
  | [] => by simp
  | j :: l => by
    have ih := lookup_pairs (f := f) (i := i) l
    simp only [List.map_cons]
    by_cases h : i = (j : Int)
    · subst h; simp [List.lookup]
    · have hb : (i == (j : Int)) = false := by simpa using h
      simp only [List.lookup, hb, ih, List.mem_cons]
      by_cases h0 : 0 ≤ i
      · have : ¬ i.toNat = j := by omega
        simp [h0, this]
      · simp [h0]
theorem hall_length {best : Bool} {s : SledV} {ts : List StretchV} : (hall best s ts).length = ts.length := by simp [hall]
theorem hall_take {best : Bool} {s : SledV} {ts : List StretchV} {i : Nat} : (hall best s ts).take i = (List.range (min i ts.length)).map fun (i : Nat) => ((i : Int), hgt best s ts i) := by
  unfold hall; rw [← List.map_take, List.take_range]
theorem hall_step {best : Bool} {s : SledV} {ts : List StretchV} {i : Nat} (h : i < ts.length) : setK ((hall best s ts).take i) (i : Int) (hgt best s ts i) = (hall best s ts).take (i + 1) := by
  rw [hall_take, hall_take, Nat.min_eq_left (by omega), Nat.min_eq_left (by omega), List.range_succ, List.map_append]
  unfold setK
  rw [lookup_pairs]
  simp
theorem hall_end {best : Bool} {s : SledV} {ts : List StretchV} {i : Nat} (h : ts.length ≤ i) : (hall best s ts).take i = hgts best s ts 0 := by
  rw [List.take_of_length_le (by rw [hall_length]; exact h)]
  unfold hall hgts
  rw [List.filter_eq_self.2 (fun j _ => by simp)]
theorem hgts_del {best : Bool} {s : SledV} {ts : List StretchV} {i : Nat} {x : StretchV} (hx : ts[i]? = some x) (h : x.Side = 0) : delK (hgts best s ts i) (i : Int) = hgts best s ts (i + 1) := by
  unfold delK hgts
  rw [List.filter_map, List.filter_filter]
  refine congrArg _ (List.filter_congr fun j _ => ?_)
  simp only [Function.comp]
  have hc := isCurve_at hx
  by_cases e : j = i
  · subst e; simp [hc, h]
  · have e1 : ¬ (j : Int) = (i : Int) := by omega
    have e2 : (i ≤ j) ↔ (i + 1 ≤ j) := by omega
    simp [e1, e2]
theorem hgts_keep {best : Bool} {s : SledV} {ts : List StretchV} {i : Nat} {x : StretchV} (hx : ts[i]? = some x) (h : ¬ x.Side = 0) : hgts best s ts i = hgts best s ts (i + 1) := by
  unfold hgts
  refine congrArg _ (List.filter_congr fun j _ => ?_)
  have hc := isCurve_at hx
  by_cases e : j = i
  · subst e; simp [hc, h]
  · have e2 : (i ≤ j) ↔ (i + 1 ≤ j) := by omega
    simp [e2]
def curveB (ts : List StretchV) (i : Int) : Bool := decide (0 ≤ i) && isCurve ts i.toNat
theorem hgts_lookup {best : Bool} {s : SledV} {ts : List StretchV} {i : Int} {n : Nat} (hn : ts.length ≤ n) : (hgts best s ts n).lookup i = if curveB ts i = true then some (hgt best s ts i.toNat) else none := by
  unfold hgts
  rw [lookup_pairs]
  unfold curveB
  by_cases h0 : 0 ≤ i
  · by_cases h1 : i.toNat < ts.length
    · have : ¬ n ≤ i.toNat := by omega
      simp [h0, h1, this]
    · have := isCurve_no (ts := ts) (i := i.toNat) (by omega)
      simp [h0, h1, this]
  · simp [h0]
theorem curveB_at {ts : List StretchV} {i : Int} {x : StretchV} (h0 : 0 ≤ i) (hx : ts[i.toNat]? = some x) : curveB ts i = !decide (x.Side = 0) := by unfold curveB; rw [isCurve_at hx, decide_eq_true h0]; rfl
theorem curveB_out {ts : List StretchV} {i : Int} (h : ¬ (0 ≤ i ∧ i < ts.length)) : curveB ts i = false := by
  unfold curveB
  by_cases h0 : 0 ≤ i
  · rw [isCurve_no (by omega)]; simp
  · simp [h0]
theorem curveB_in {ts : List StretchV} {i : Int} (h : curveB ts i = true) : 0 ≤ i ∧ i < ts.length ∧ ∃ x, ts[i.toNat]? = some x ∧ ¬ x.Side = 0 := by
  unfold curveB isCurve at h
  simp only [Bool.and_eq_true, decide_eq_true_eq] at h
  obtain ⟨h0, h1⟩ := h
  split at h1
  · rename_i x hx
    have := (List.getElem?_eq_some_iff.1 hx).1
    exact ⟨h0, by omega, x, hx, by simpa using h1⟩
  · cases h1
def heightE (s : SledV) (ts : List StretchV) (i : Int) : Int := if bothE s ts = 0 then (if curveB ts i = true then 0 else 2) else bothE s ts
def heightV (s : SledV) (ts : List StretchV) (i : Int) : SpanV := if bothE s ts = 0 ∧ curveB ts i = true then ⟨hgt false s ts i.toNat, hgt true s ts i.toNat⟩ else ⟨0, 0⟩
noncomputable def leastE (s : SledV) (ts : List StretchV) (i : Int) : Int := if bothE s ts = 0 then (if 0 ≤ i ∧ i < ts.length then (if fastF (inAt true s ts i.toNat) = 0 then 6 else 0) else 2) else bothE s ts
noncomputable def leastV (s : SledV) (ts : List StretchV) (i : Int) : Int := if leastE s ts i = 0 then (match ts[i.toNat]? with
  | some x => (x.Long.Lo * 1000 + fastF (inAt true s ts i.toNat) - 1) / fastF (inAt true s ts i.toNat)
  | none => 0) else 0
theorem height_no {s : SledV} {ts : List StretchV} {i : Int} (h : ¬ bothE s ts = 0) : heightV s ts i = ⟨0, 0⟩ ∧ heightE s ts i = bothE s ts := ⟨if_neg (fun q => h q.1), if_neg h⟩
theorem height_out {s : SledV} {ts : List StretchV} {i : Int} (h : bothE s ts = 0) (hi : curveB ts i = false) : heightV s ts i = ⟨0, 0⟩ ∧ heightE s ts i = 2 := ⟨if_neg (fun q => by rw [hi] at q; cases q.2), by unfold heightE; rw [if_pos h, hi]; rfl⟩
theorem height_in {s : SledV} {ts : List StretchV} {i : Int} (h : bothE s ts = 0) (hi : curveB ts i = true) : heightV s ts i = ⟨hgt false s ts i.toNat, hgt true s ts i.toNat⟩ ∧ heightE s ts i = 0 := ⟨if_pos ⟨h, hi⟩, by unfold heightE; rw [if_pos h, if_pos hi]⟩
theorem least_no {s : SledV} {ts : List StretchV} {i : Int} (h : ¬ bothE s ts = 0) : leastV s ts i = 0 ∧ leastE s ts i = bothE s ts := by
  have e : leastE s ts i = bothE s ts := if_neg h
  exact ⟨by unfold leastV; rw [e, if_neg h], e⟩
theorem least_out {s : SledV} {ts : List StretchV} {i : Int} (h : bothE s ts = 0) (hi : ¬ (0 ≤ i ∧ i < ts.length)) : leastV s ts i = 0 ∧ leastE s ts i = 2 := by
  have e : leastE s ts i = 2 := by unfold leastE; rw [if_pos h, if_neg hi]
  exact ⟨by unfold leastV; rw [e]; rfl, e⟩
theorem least_none {s : SledV} {ts : List StretchV} {i : Int} (h : bothE s ts = 0) (hi : 0 ≤ i ∧ i < ts.length) (hv : fastF (inAt true s ts i.toNat) = 0) : leastV s ts i = 0 ∧ leastE s ts i = 6 := by
  have e : leastE s ts i = 6 := by unfold leastE; rw [if_pos h, if_pos hi, if_pos hv]
  exact ⟨by unfold leastV; rw [e]; rfl, e⟩
theorem least_in {s : SledV} {ts : List StretchV} {i : Int} {x : StretchV} (h : bothE s ts = 0) (hi : 0 ≤ i ∧ i < ts.length) (hv : ¬ fastF (inAt true s ts i.toNat) = 0) (hx : ts[i.toNat]? = some x) :
    leastV s ts i = (x.Long.Lo * 1000 + fastF (inAt true s ts i.toNat) - 1) / fastF (inAt true s ts i.toNat) ∧ leastE s ts i = 0 := by
  have e : leastE s ts i = 0 := by unfold leastE; rw [if_pos h, if_pos hi, if_neg hv]
  exact ⟨by unfold leastV; rw [e, if_pos rfl, hx], e⟩
theorem least_slide {s : SledV} {ts : List StretchV} {i r : Int} {x : StretchV} (h : bothE s ts = 0) (hi : 0 ≤ i ∧ i < ts.length) (hv : 0 < fastF (inAt true s ts i.toNat)) (hx : ts[i.toNat]? = some x)
    (hr : r = (1000 * x.Long.Lo + fastF (inAt true s ts i.toNat) - 1) / fastF (inAt true s ts i.toNat)) : leastV s ts i = r ∧ leastE s ts i = 0 := by
  have := least_in h hi (by omega) hx
  rw [hr, Int.mul_comm 1000]; exact this
theorem inAt_spans {best : Bool} {s : SledV} {ts : List StretchV} {i : Int} {a b : Int} (h0 : 0 ≤ i) (ha : a = headAt best s ts i.toNat) (hb : b = headAt best s ts (i + 1).toNat) : max a b = inAt best s ts i.toNat := by
  have : (i + 1).toNat = i.toNat + 1 := by omega
  rw [this] at hb
  rw [ha, hb]; rfl
theorem hgts_is {best : Bool} {s : SledV} {ts : List StretchV} {i : Int} : ((hgts best s ts ts.length).lookup i).isSome = curveB ts i := by
  rw [hgts_lookup (Nat.le_refl _)]
  cases curveB ts i <;> rfl
theorem hgts_get {best : Bool} {s : SledV} {ts : List StretchV} {i : Int} (h : curveB ts i = true) : ((hgts best s ts ts.length).lookup i).getD 0 = hgt best s ts i.toNat := by
  rw [hgts_lookup (Nat.le_refl _), if_pos h]; rfl
theorem hgt_low {s : SledV} {ts : List StretchV} {i : Nat} {x : StretchV} (hx : ts[i]? = some x) (hr : 0 < x.Radius.Hi) : hgt false s ts i = 1200 * inAt false s ts i / (10 * x.Radius.Hi) + s.Steer.Lo := by
  rw [hgt_at hx]; unfold bankF
  rw [if_neg (by simp only [oneF, if_true]; omega)]; rfl
theorem hgt_high {s : SledV} {ts : List StretchV} {i : Nat} {x : StretchV} (hx : ts[i]? = some x) (hr : 0 < x.Radius.Lo) : hgt true s ts i = 1200 * inAt true s ts i / (10 * x.Radius.Lo) + s.Steer.Hi := by
  rw [hgt_at hx]; unfold bankF
  rw [if_neg (by simp only [oneF, Bool.true_eq_false, if_false]; omega)]; rfl
theorem radius_b {best f : Bool} {x : StretchV} (h : StretchOk x) : 0 ≤ oneF best f x.Radius ∧ oneF best f x.Radius ≤ 20000 := by
  obtain ⟨_, _, _, _, h⟩ := h
  simp only [SpanOk] at h
  unfold oneF; split <;> omega
theorem radius_c {x : StretchV} (h : StretchOk x) (hc : ¬ x.Side = 0) : (500 ≤ x.Radius.Lo ∧ x.Radius.Lo ≤ 20000) ∧ 500 ≤ x.Radius.Hi ∧ x.Radius.Hi ≤ 20000 := by
  obtain ⟨_, _, _, _, h⟩ := h
  simp only [SpanOk] at h
  omega
theorem inAt_nat {best : Bool} {s : SledV} {ts : List StretchV} {i : Nat} {a b : Int} (ha : a = headAt best s ts i) (hb : b = headAt best s ts (i + 1)) : max a b = inAt best s ts i := by rw [ha, hb]; rfl
end Go.Proofs.Ytpbgdeojcefnmaa
