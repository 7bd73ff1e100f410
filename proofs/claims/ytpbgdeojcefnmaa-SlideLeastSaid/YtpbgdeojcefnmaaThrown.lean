/-
  Plain laws: which truths throw a sled, and where.
-/
import Derived.Test.YtpbgdeojcefnmaaEnds
namespace Go.Proofs.Ytpbgdeojcefnmaa
set_option linter.unusedVariables false
def tThrB (bl : List Int) (s : SledV) (ts : List StretchV) (j : Nat) : Bool := isCurve ts j && decide (wallAt ts j < tHgt bl s ts j)
/-- the first curve from k on that throws the sled in a truth; -1 if there is none -/
def thrF (bl : List Int) (s : SledV) (ts : List StretchV) (k : Nat) : Int := match (List.range ts.length).find? (fun j => decide (k ≤ j) && tThrB bl s ts j) with
  | some j => (j : Int)
  | none => -1
theorem thrF_out {bl : List Int} {s : SledV} {ts : List StretchV} {k : Nat} : (thrF bl s ts k = -1 ∧ ∀ j, j < ts.length → k ≤ j → tThrB bl s ts j = false) ∨ ∃ j : Nat, thrF bl s ts k = (j : Int) ∧ j < ts.length ∧ k ≤ j ∧ tThrB bl s ts j = true ∧ ∀ i, k ≤ i → i < j → tThrB bl s ts i = false := by
  unfold thrF
  cases h : (List.range ts.length).find? (fun j => decide (k ≤ j) && tThrB bl s ts j) with
  | none =>
    refine .inl ⟨rfl, fun j hj hk => ?_⟩
    have := List.find?_eq_none.1 h j (by simpa using hj)
    simpa [hk] using this
  | some j =>
    have h1 := List.find?_some h
    rw [Bool.and_eq_true, decide_eq_true_eq] at h1
    have h2 := List.mem_of_find?_eq_some h
    refine .inr ⟨j, rfl, by simpa using h2, h1.1, h1.2, fun i hi hj => ?_⟩
    obtain ⟨_, as, bs, hl, ha⟩ := List.find?_eq_some_iff_append.1 h
    have hlen : as.length = j := by
      have e := congrArg (fun l => l[as.length]?) hl
      simp only [List.getElem?_append_right (Nat.le_refl as.length), Nat.sub_self, List.getElem?_cons_zero] at e
      have hlt : as.length < ts.length := by
        have e2 := congrArg List.length hl
        simp at e2; omega
      rw [List.getElem?_range hlt] at e
      exact Option.some.inj e
    have hm : i ∈ as := by
      have e := congrArg (fun l => l[i]?) hl
      have hi2 : i < as.length := by omega
      simp only [List.getElem?_append_left hi2] at e
      rw [List.getElem?_range (by have := (List.mem_range.1 h2); omega)] at e
      exact List.mem_of_getElem? e.symm
    have := ha i hm
    simpa [hi] using this
theorem thrF_eq {bl : List Int} {s : SledV} {ts : List StretchV} {k j : Nat} (hj : j < ts.length) (hk : k ≤ j) (h : tThrB bl s ts j = true) (hb : ∀ i, k ≤ i → i < j → tThrB bl s ts i = false) : thrF bl s ts k = (j : Int) := by
  rcases thrF_out (bl := bl) (s := s) (ts := ts) (k := k) with ⟨_, h1⟩ | ⟨i, h1, h2, h3, h4, h5⟩
  · rw [h1 j hj hk] at h; cases h
  · rcases Nat.lt_trichotomy i j with hlt | rfl | hlt
    · rw [hb i h3 hlt] at h4; cases h4
    · exact h1
    · rw [h5 j hk hlt] at h; cases h
theorem thrF_start {bl : List Int} {s : SledV} {ts : List StretchV} : thrF bl s ts ts.length = -1 := by
  rcases thrF_out (bl := bl) (s := s) (ts := ts) (k := ts.length) with ⟨h1, _⟩ | ⟨i, h1, h2, h3, h4, h5⟩
  · exact h1
  · omega
theorem thrF_yes {bl : List Int} {s : SledV} {ts : List StretchV} {k : Nat} (hk : 0 < k) (hl : k ≤ ts.length) (h : tThrB bl s ts (k - 1) = true) : thrF bl s ts (k - 1) = (k : Int) - 1 := by
  rw [thrF_eq (j := k - 1) (by omega) (Nat.le_refl _) h (fun i h1 h2 => by omega)]; omega
theorem thrF_no {bl : List Int} {s : SledV} {ts : List StretchV} {k : Nat} (hk : 0 < k) (hl : k ≤ ts.length) (h : tThrB bl s ts (k - 1) = false) : thrF bl s ts (k - 1) = thrF bl s ts k := by
  rcases thrF_out (bl := bl) (s := s) (ts := ts) (k := k) with ⟨h1, h0⟩ | ⟨i, h1, h2, h3, h4, h5⟩
  · rcases thrF_out (bl := bl) (s := s) (ts := ts) (k := k - 1) with ⟨h6, _⟩ | ⟨j, h6, h7, h8, h9, h10⟩
    · rw [h6, h1]
    · by_cases e : j = k - 1
      · rw [e] at h9; rw [h] at h9; cases h9
      · rw [h0 j h7 (by omega)] at h9; cases h9
  · rw [h1]
    refine thrF_eq h2 (by omega) h4 fun j hj hi => ?_
    by_cases e : j = k - 1
    · rw [e]; exact h
    · exact h5 j (by omega) hi
theorem tThrB_yes {bl : List Int} {s : SledV} {ts : List StretchV} {j : Nat} {x : StretchV} {v : Int} (hx : ts[j]? = some x) (hd : ¬ x.Side = 0) (hv : v = tHgt bl s ts j) (h : x.Wall < v) : tThrB bl s ts j = true := by
  unfold tThrB; rw [isCurve_at hx, wallAt_at hx, decide_eq_false hd, ← hv, decide_eq_true h]; rfl
theorem tThrB_no {bl : List Int} {s : SledV} {ts : List StretchV} {j : Nat} {x : StretchV} {v : Int} (hx : ts[j]? = some x) (hv : v = tHgt bl s ts j) (h : ¬ x.Wall < v) : tThrB bl s ts j = false := by
  unfold tThrB; rw [isCurve_at hx, wallAt_at hx, ← hv, decide_eq_false h]; simp
theorem tThrB_straight {bl : List Int} {s : SledV} {ts : List StretchV} {j : Nat} {x : StretchV} (hx : ts[j]? = some x) (hd : x.Side = 0) : tThrB bl s ts j = false := by
  unfold tThrB; rw [isCurve_at hx, decide_eq_true hd]; rfl
theorem tHgts_is {bl : List Int} {s : SledV} {ts : List StretchV} {i n : Nat} {v : Int} (h : (tHgts bl s ts n)[i]? = some v) (hi : i < n) : v = tHgt bl s ts i := by rw [tHgts_get hi] at h; exact (Option.some.inj h).symm
theorem tHeads_is {bl : List Int} {s : SledV} {ts : List StretchV} {i n : Nat} {v : Int} (h : (tHeads bl s ts n)[i]? = some v) (hi : i ≤ n) : v = tHead bl s ts i := by rw [tHeads_get hi] at h; exact (Option.some.inj h).symm
section
variable {bl : List Int} {s : SledV} {ts : List StretchV} (hs : SledOk s) (ht : ∀ x ∈ ts, StretchOk x)
include hs ht
theorem tThr_high {j : Nat} (h : tThrB bl s ts j = true) : thrB true s ts j = true := by
  unfold tThrB at h
  rw [Bool.and_eq_true, decide_eq_true_eq] at h
  obtain ⟨x, hx, hd⟩ := curve_side h.1
  have := (within_hgt (bl := bl) hs ht hx hd).2
  unfold thrB; rw [h.1, decide_eq_true (by omega)]; rfl
theorem tThr_low {j : Nat} (h : thrB false s ts j = true) : tThrB bl s ts j = true := by
  unfold thrB at h
  rw [Bool.and_eq_true, decide_eq_true_eq] at h
  obtain ⟨x, hx, hd⟩ := curve_side h.1
  have := (within_hgt (bl := bl) hs ht hx hd).1
  unfold tThrB; rw [h.1, decide_eq_true (by omega)]; rfl
/-- what is told of a sled, and what throws it in a truth -/
theorem thrown_told (hb : bothE s ts = 0) : (safeF s ts = 2 ↔ namesE s ts = 6) ∧ (namesE s ts = 0 ∨ namesE s ts = 6) ∧ (safeF s ts = 2 → thrF bl s ts 0 = -1) ∧ (safeF s ts = 0 → 0 ≤ thrF bl s ts 0) := by
  have hE : namesE s ts = if thr true s ts = [] then 6 else 0 := if_pos hb
  have h2 := safe_two hs ht
  refine ⟨?_, ?_, fun h => ?_, fun h => ?_⟩
  · rw [h2, hE]; split <;> simp [*]
  · rw [hE]; split
    · exact .inr rfl
    · exact .inl rfl
  · have hn := thr_nil.1 (h2.1 h)
    rcases thrF_out (bl := bl) (s := s) (ts := ts) (k := 0) with ⟨h1, _⟩ | ⟨i, h1, h3, _, h4, _⟩
    · exact h1
    · have := tThr_high hs ht h4
      rw [hn i h3] at this; cases this
  · have hf : ¬ thr false s ts = [] := fun e => by
      unfold safeF at h; rw [if_pos e] at h; split at h <;> omega
    rcases thrF_out (bl := bl) (s := s) (ts := ts) (k := 0) with ⟨h1, h0⟩ | ⟨i, h1, h3, _, h4, _⟩
    · refine absurd (thr_nil.2 fun j hj => ?_) hf
      cases e : thrB false s ts j with
      | false => rfl
      | true => rw [← h0 j hj (Nat.zero_le _)]; exact (tThr_low hs ht e).symm
    · omega
omit hs ht in
theorem named_first (hb : bothE s ts = 0) (hE : namesE s ts = 0) : (thr true s ts)[0]? = some (namesC s ts) := by
  have h1 : namesE s ts = if thr true s ts = [] then 6 else 0 := if_pos hb
  have h2 : namesC s ts = ((thr true s ts)[0]?).getD 0 := if_pos hb
  rw [h1] at hE
  cases hl : thr true s ts with
  | nil => rw [hl, if_pos rfl] at hE; omega
  | cons a l => rw [h2, hl]; rfl
omit hs ht in
theorem named_b (hb : bothE s ts = 0) (hE : namesE s ts = 0) : 0 ≤ namesC s ts ∧ namesC s ts < ts.length ∧ thrB true s ts (namesC s ts).toNat = true := thr_at (named_first hb hE)
theorem named_before (hb : bothE s ts = 0) (hE : namesE s ts = 0) (h : 0 ≤ thrF bl s ts 0) : namesC s ts ≤ thrF bl s ts 0 := by
  have hk := named_first hb hE
  have hm := hk
  rcases thrF_out (bl := bl) (s := s) (ts := ts) (k := 0) with ⟨h1, h0⟩ | ⟨i, h1, h3, _, h4, _⟩
  · omega
  · have h5 := tThr_high hs ht h4
    have h6 : (i : Int) ∈ thr true s ts := by
      unfold thr
      exact List.mem_map.2 ⟨i, List.mem_filter.2 ⟨by simpa using h3, h5⟩, rfl⟩
    have hp := thr_sorted (best := true) (s := s) (ts := ts)
    cases hl : thr true s ts with
    | nil => rw [hl] at h6; cases h6
    | cons a l =>
      rw [hl] at hk h6 hp
      have ha : a = namesC s ts := Option.some.inj hk
      rw [h1, ← ha]
      rcases List.mem_cons.1 h6 with h7 | h7
      · omega
      · exact (List.pairwise_cons.1 hp).1 _ h7
omit ht in
theorem named_speed (ht : ∀ x ∈ ts, StretchOk x) (hl : ts.length ≤ 12) (hb : bothE s ts = 0) (hE : namesE s ts = 0) {x : StretchV} (hx : ts[(namesC s ts).toNat]? = some x) :
    ¬ x.Side = 0 ∧ (0 ≤ namesV s ts ∧ namesV s ts ≤ 9000) ∧ (x.Wall < tHgt bl s ts (namesC s ts).toNat → 10 * namesV s ts * namesV s ts ≤ 1962 * max (tHead bl s ts (namesC s ts).toNat) (tHead bl s ts ((namesC s ts).toNat + 1))) := by
  have hk := named_first hb hE
  obtain ⟨c0, c1, ct⟩ := named_b hb hE
  have hv := (names_some hb hk hx).2.1
  have hd := (thrB_out hx ct).1
  have hxo := ht x (List.mem_of_getElem? hx)
  have hi : (namesC s ts).toNat ≤ 12 := by omega
  have hle := nameH_le hs ht hi hx ct
  have hib := inAt_b (best := true) hs ht (i := (namesC s ts).toNat) hi
  have hsl := slowF_le hle.1 (by omega)
  refine ⟨hd, by rw [hv]; exact hsl, fun hw => ?_⟩
  rw [hv]
  have hr := radius_c hxo hd
  have hq := hxo.2.2.2.2
  simp only [SpanOk] at hq
  have q1 := ch_in (bl := bl) (s := x.Radius) (k := 3 + 5 * (((namesC s ts).toNat : Nat) : Int) + 3) (by omega)
  have q2 := ch_in (bl := bl) (k := 3 + 5 * (((namesC s ts).toNat : Nat) : Int) + 4) hs.2.2.2.2.2.1
  have hh : 0 ≤ max (tHead bl s ts (namesC s ts).toNat) (tHead bl s ts ((namesC s ts).toNat + 1)) := by
    have := tHead_b (bl := bl) hs ht (i := (namesC s ts).toNat) (by omega)
    omega
  have hp : nameP s x (max (tHead bl s ts (namesC s ts).toNat) (tHead bl s ts ((namesC s ts).toNat + 1))) = true := by
    rw [nameP_eq (by omega)]
    refine decide_eq_true ?_
    rw [tHgt_at hx] at hw
    unfold tHgtX at hw
    rw [if_neg hd] at hw
    have a3 : 1200 * max (tHead bl s ts (namesC s ts).toNat) (tHead bl s ts ((namesC s ts).toNat + 1)) / (10 * ch bl x.Radius (3 + 5 * (((namesC s ts).toNat : Nat) : Int) + 3)) ≤ 1200 * max (tHead bl s ts (namesC s ts).toNat) (tHead bl s ts ((namesC s ts).toNat + 1)) / (10 * x.Radius.Lo) := div_anti (by omega) (by omega) (by omega)
    omega
  have hmin : nameH s x ≤ max (tHead bl s ts (namesC s ts).toNat) (tHead bl s ts ((namesC s ts).toNat + 1)) := by
    rcases Int.lt_or_le (max (tHead bl s ts (namesC s ts).toNat) (tHead bl s ts ((namesC s ts).toNat + 1))) (nameH s x) with h | h
    · have := firstN_no (p := nameP s x) (n := 1048576) hh h
      rw [this] at hp; cases hp
    · exact h
  have := (slowF_is hle.1).2.1
  omega
end
section
variable {s : SledV} {ts : List StretchV}
theorem thrB_end {b : Bool} {j : Nat} : thrB b (limS true s) (limT true ts) j = thrB true s ts j := by
  unfold thrB
  rw [hgt_end]
  unfold isCurve wallAt limT
  rw [List.getElem?_map]
  cases ts[j]? <;> rfl
theorem thr_end {b : Bool} : thr b (limS true s) (limT true ts) = thr true s ts := by
  unfold thr
  rw [limT_length]
  have : thrB b (limS true s) (limT true ts) = thrB true s ts := funext fun j => thrB_end
  rw [this]
theorem nameH_end {x : StretchV} : nameH (limS true s) (limX true x) = nameH s x := by
  unfold nameH
  have : nameP (limS true s) (limX true x) = nameP s x := funext fun h => by
    unfold nameP bankF
    simp only [limS, limX, oneF_end']
  rw [this]
theorem thrown_end (hb : bothE s ts = 0) (hb' : bothE (limS true s) (limT true ts) = 0) (hE : namesE s ts = 0) : safeV (limS true s) (limT true ts) = 0 ∧ namesC (limS true s) (limT true ts) = namesC s ts ∧ namesV (limS true s) (limT true ts) = namesV s ts ∧ namesE (limS true s) (limT true ts) = 0 := by
  have hk := named_first hb hE
  obtain ⟨c0, c1, ct⟩ := named_b hb hE
  obtain ⟨x, hx⟩ : ∃ x, ts[(namesC s ts).toNat]? = some x := ⟨_, List.getElem?_eq_getElem (by omega)⟩
  have hk' : (thr true (limS true s) (limT true ts))[0]? = some (namesC s ts) := by rw [thr_end]; exact hk
  have h1 := names_some hb' hk' (curve_end hx)
  have h2 := names_some hb hk hx
  refine ⟨?_, h1.1, by rw [h1.2.1, h2.2.1, nameH_end], h1.2.2⟩
  rw [safeV_ok hb']
  refine safeF_zero ?_
  rw [thr_end]
  intro e; rw [e] at hk; cases hk
end
end Go.Proofs.Ytpbgdeojcefnmaa
