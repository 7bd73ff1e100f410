/-
  Plain laws: heads and heights grow with what they begin with; the first number of which something is so.
-/
import Derived.Test.YtpbgdeojcefnmaaThr
namespace Go.Proofs.Ytpbgdeojcefnmaa
set_option linter.unusedVariables false
/-! ### the first number -/
theorem firstN_ex (p : Int → Bool) (n : Nat) : ∃ r : Int, r = ((List.range n).findIdx fun (k : Nat) => p (k : Int) : Nat) := ⟨_, rfl⟩
noncomputable def firstN (p : Int → Bool) (n : Nat) : Int := Classical.choose (firstN_ex p n)
theorem firstN_def (p : Int → Bool) (n : Nat) : firstN p n = ((List.range n).findIdx fun (k : Nat) => p (k : Int) : Nat) := Classical.choose_spec (firstN_ex p n)
theorem firstN_b {p : Int → Bool} {n : Nat} : 0 ≤ firstN p n ∧ firstN p n ≤ n := by
  rw [firstN_def]
  have := List.findIdx_le_length (xs := List.range n) (p := fun (k : Nat) => p (k : Int))
  rw [List.length_range] at this
  omega
theorem firstN_no {p : Int → Bool} {n : Nat} {x : Int} (h0 : 0 ≤ x) (h : x < firstN p n) : p x = false := by
  have hb := firstN_b (p := p) (n := n)
  rw [firstN_def] at h
  have h1 : x.toNat < (List.range n).findIdx fun (k : Nat) => p (k : Int) := by omega
  have h2 := List.not_of_lt_findIdx h1
  simp only [List.getElem_range] at h2
  rw [show ((x.toNat : Nat) : Int) = x by omega] at h2
  simpa using h2
theorem firstN_at {p : Int → Bool} {n : Nat} (h : firstN p n < n) : p (firstN p n) = true := by
  rw [firstN_def] at h ⊢
  have h1 : ((List.range n).findIdx fun (k : Nat) => p (k : Int)) < (List.range n).length := by rw [List.length_range]; omega
  have := List.findIdx_getElem (w := h1)
  simpa using this
def Mono (p : Int → Bool) : Prop := ∀ a b : Int, 0 ≤ a → a ≤ b → p a = true → p b = true
theorem firstN_yes {p : Int → Bool} {n : Nat} (hm : Mono p) {x : Int} (h : firstN p n ≤ x) (hx : x < n) : p x = true :=
  hm _ x firstN_b.1 h (firstN_at (by omega))
theorem firstN_eq {p : Int → Bool} {n : Nat} {r : Int} (h0 : 0 ≤ r) (hn : r < n) (hr : p r = true) (hb : ∀ x, 0 ≤ x → x < r → p x = false) : firstN p n = r := by
  have h1 := firstN_b (p := p) (n := n)
  rcases Int.lt_trichotomy (firstN p n) r with h | h | h
  · have := hb _ h1.1 h
    have e := firstN_at (p := p) (n := n) (by omega)
    rw [e] at this; cases this
  · exact h
  · have := firstN_no h0 h
    rw [hr] at this; cases this
theorem firstN_end {p : Int → Bool} {n : Nat} (hb : ∀ x : Int, 0 ≤ x → x < (n : Int) → p x = false) : firstN p n = n := by
  have h1 := firstN_b (p := p) (n := n)
  rcases Int.lt_or_le (firstN p n) n with h | h
  · have := hb _ h1.1 h
    rw [firstN_at h] at this; cases this
  · omega
/-! ### heads -/
theorem div_anti {a w w' : Int} (ha : 0 ≤ a) (hw : 0 < w) (h : w ≤ w') : a / w' ≤ a / w := by
  have hw' : 0 < w' := by omega
  rw [Int.le_ediv_iff_mul_le hw]
  have h1 : 0 ≤ a / w' := Int.ediv_nonneg ha (by omega)
  exact Int.le_trans (Int.mul_le_mul_of_nonneg_left h h1) (Int.ediv_mul_le a (by omega))
theorem left_mono {h h' k w : Int} (h0 : 0 ≤ h) (hh : h ≤ h') (hk : 0 ≤ k) (hw : 0 < w) : max 0 (h - h * k / w) ≤ max 0 (h' - h' * k / w) := by
  rcases Int.le_total k w with h1 | h1
  · have h2 : h' * k ≤ h * k + (h' - h) * w := by
      have e : h' * k = h * k + (h' - h) * k := by rw [← Int.add_mul]; congr 1; omega
      rw [e]
      exact Int.add_le_add_left (Int.mul_le_mul_of_nonneg_left h1 (by omega)) _
    have h3 := Int.ediv_le_ediv hw h2
    rw [Int.add_mul_ediv_right _ _ (Int.ne_of_gt hw)] at h3
    omega
  · have h2 : h * w ≤ h * k := Int.mul_le_mul_of_nonneg_left h1 h0
    have h3 := Int.ediv_le_ediv hw h2
    rw [Int.mul_ediv_cancel _ (Int.ne_of_gt hw)] at h3
    omega
theorem nextH_mono {h h' lo lo' fa fa' ru ru' dr dr' we we' : Int} (h0 : 0 ≤ h) (hh : h ≤ h') (hlo0 : 0 ≤ lo') (hlo : lo' ≤ lo) (hfa : fa ≤ fa') (hru0 : 0 ≤ ru') (hru : ru' ≤ ru) (hdr0 : 0 ≤ dr') (hdr : dr' ≤ dr) (hwe0 : 0 < we) (hwe : we ≤ we') :
    nextH h lo fa ru dr we ≤ nextH h' lo' fa' ru' dr' we' := by
  unfold nextH
  have hk : dr' * lo' ≤ dr * lo := Int.mul_le_mul hdr hlo hlo0 (by omega)
  have hk0 : 0 ≤ dr' * lo' := Int.mul_nonneg hdr0 hlo0
  have h1 : h * (dr' * lo') / (100 * we') ≤ h * (dr * lo) / (100 * we) :=
    Int.le_trans (div_anti (Int.mul_nonneg h0 hk0) (by omega) (by omega)) (Int.ediv_le_ediv (by omega) (Int.mul_le_mul_of_nonneg_left hk h0))
  have h2 := left_mono (k := dr' * lo') (w := 100 * we') h0 hh hk0 (by omega)
  have h3 : ru' * lo' / 100 ≤ ru * lo / 100 := Int.ediv_le_ediv (by omega) (Int.mul_le_mul hru hlo hlo0 (by omega))
  rw [Int.mul_assoc h, Int.mul_assoc h']
  omega
theorem headAt_le {b b' : Bool} {s s' : SledV} {ts : List StretchV} (h0 : oneF b true s.Start ≤ oneF b' true s'.Start) (hn : ∀ i, 0 ≤ headAt b s ts i) (hs : ∀ x ∈ ts, ∀ h h', 0 ≤ h → h ≤ h' → stepH b s x h ≤ stepH b' s' x h') : ∀ i, headAt b s ts i ≤ headAt b' s' ts i := by
  intro i
  induction i with
  | zero => exact h0
  | succ i ih =>
    simp only [headAt]
    cases hx : ts[i]? with
    | none => exact ih
    | some x => exact hs x (List.mem_of_getElem? hx) _ _ (hn i) ih
theorem span_one {s : SpanV} {lo hi : Int} (h : SpanOk s lo hi) : oneF false true s ≤ oneF true true s ∧ oneF true false s ≤ oneF false false s := by
  have := h.1
  simp only [oneF]
  constructor <;> simp <;> omega
theorem low_high {s : SledV} {ts : List StretchV} (hs : SledOk s) (ht : ∀ x ∈ ts, StretchOk x) (i : Nat) : headAt false s ts i ≤ headAt true s ts i := by
  refine headAt_le (span_one hs.2.1).1 (fun i => (headAt_b hs ht i).1) (fun x hx h h' h0 hh => ?_) i
  have hm := ht x hx
  unfold stepH
  have l1 := oneF_ok (best := true) (f := false) hm.2.1
  have r1 := oneF_ok (best := true) (f := false) hs.2.2.1
  have d1 := oneF_ok (best := true) (f := false) hs.2.2.2.1
  have w1 := oneF_ok (best := false) (f := true) hs.2.2.2.2.1
  exact nextH_mono h0 hh (by omega) (span_one hm.2.1).2 (span_one hm.2.2.1).1 (by omega) (span_one hs.2.2.1).2 (by omega) (span_one hs.2.2.2.1).2 (by omega) (span_one hs.2.2.2.2.1).1
theorem in_low_high {s : SledV} {ts : List StretchV} (hs : SledOk s) (ht : ∀ x ∈ ts, StretchOk x) (i : Nat) : inAt false s ts i ≤ inAt true s ts i := by
  have h1 := low_high hs ht i
  have h2 := low_high hs ht (i + 1)
  unfold inAt; omega
theorem bankF_mono {b : Bool} {s : SledV} {x : StretchV} (hx : StretchOk x) {h h' : Int} (hh : h ≤ h') : bankF b s x h ≤ bankF b s x h' := by
  have hr := radius_b (best := b) (f := false) hx
  unfold bankF
  split
  · omega
  · have := Int.ediv_le_ediv (show 0 < 10 * oneF b false x.Radius by omega) (show 1200 * h ≤ 1200 * h' by omega)
    omega
theorem bank_low_high {s : SledV} {x : StretchV} (hs : SledOk s) (hx : StretchOk x) (hc : ¬ x.Side = 0) {h h' : Int} (h0 : 0 ≤ h) (hh : h ≤ h') : bankF false s x h ≤ bankF true s x h' := by
  have hr := radius_c hx hc
  have hq := hx.2.2.2.2
  simp only [SpanOk] at hq
  have hst := (span_one hs.2.2.2.2.2).1
  have h1 : oneF false false x.Radius = x.Radius.Hi := rfl
  have h2 : oneF true false x.Radius = x.Radius.Lo := rfl
  unfold bankF
  rw [h1, h2, if_neg (by omega), if_neg (by omega)]
  have h3 : 1200 * h / (10 * x.Radius.Hi) ≤ 1200 * h / (10 * x.Radius.Lo) := div_anti (by omega) (by omega) (by omega)
  have h4 : 1200 * h / (10 * x.Radius.Lo) ≤ 1200 * h' / (10 * x.Radius.Lo) := Int.ediv_le_ediv (by omega) (by omega)
  omega
theorem curve_side {ts : List StretchV} {j : Nat} (h : isCurve ts j = true) : ∃ x, ts[j]? = some x ∧ ¬ x.Side = 0 := by
  unfold isCurve at h
  split at h
  · rename_i x hx; exact ⟨x, hx, by simpa using h⟩
  · cases h
theorem thr_low_high {s : SledV} {ts : List StretchV} (hs : SledOk s) (ht : ∀ x ∈ ts, StretchOk x) (j : Nat) (h : thrB false s ts j = true) : thrB true s ts j = true := by
  unfold thrB at h ⊢
  simp only [Bool.and_eq_true, decide_eq_true_eq] at h ⊢
  obtain ⟨x, hx, hc⟩ := curve_side h.1
  refine ⟨h.1, Int.lt_of_lt_of_le h.2 ?_⟩
  rw [hgt_at hx, hgt_at hx]
  have h0 : 0 ≤ inAt false s ts j := by have := (headAt_b (best := false) hs ht j).1; unfold inAt; omega
  exact bank_low_high hs (ht x (List.mem_of_getElem? hx)) hc h0 (in_low_high hs ht j)
theorem thr_nil_low {s : SledV} {ts : List StretchV} (hs : SledOk s) (ht : ∀ x ∈ ts, StretchOk x) (h : thr true s ts = []) : thr false s ts = [] := by
  rw [thr_nil] at h ⊢
  intro j hj
  cases hb : thrB false s ts j with
  | false => rfl
  | true => have := h j hj; rw [thr_low_high hs ht j hb] at this; cases this
theorem safe_two {s : SledV} {ts : List StretchV} (hs : SledOk s) (ht : ∀ x ∈ ts, StretchOk x) : safeF s ts = 2 ↔ thr true s ts = [] := by
  constructor
  · intro h
    unfold safeF at h
    by_cases h1 : thr false s ts = []
    · rw [if_pos h1] at h
      by_cases h2 : thr true s ts = []
      · exact h2
      · rw [if_neg h2] at h; omega
    · rw [if_neg h1] at h; omega
  · intro h; exact safeF_two (thr_nil_low hs ht h) h
/-! ### names -/
def nameP (s : SledV) (x : StretchV) (h : Int) : Bool := decide (x.Wall < bankF true s x h)
theorem nameP_mono {s : SledV} {x : StretchV} (hx : StretchOk x) : Mono (nameP s x) := fun a b _ hab h => by
  unfold nameP at h ⊢
  have := bankF_mono (b := true) (s := s) hx hab
  simp only [decide_eq_true_eq] at h ⊢
  omega
theorem nameP_eq {s : SledV} {x : StretchV} (hr : 0 < x.Radius.Lo) (h : Int) : nameP s x h = decide (x.Wall < 1200 * h / (10 * x.Radius.Lo) + s.Steer.Hi) := by
  have e : bankF true s x h = 1200 * h / (10 * x.Radius.Lo) + s.Steer.Hi := by
    unfold bankF
    rw [if_neg (by simp only [oneF, Bool.true_eq_false, if_false]; omega)]; rfl
  unfold nameP; rw [e]
theorem nameP_upto {s : SledV} {x : StretchV} (hx : StretchOk x) {m : Int} (h : nameP s x m = false) : ∀ y, 0 ≤ y → y < m + 1 → nameP s x y = false := fun y h0 h1 => by
  cases hp : nameP s x y with
  | false => rfl
  | true => have := nameP_mono hx y m h0 (by omega) hp; rw [h] at this; cases this
noncomputable def nameH (s : SledV) (x : StretchV) : Int := firstN (nameP s x) 1048576
theorem thr_head {best : Bool} {s : SledV} {ts : List StretchV} {i : Nat} (hn : noThr best s ts i) (hi : i < ts.length) (h : thrB best s ts i = true) : (thr best s ts)[0]? = some (i : Int) := by
  unfold thr
  have e : ts.length = i + (ts.length - i) := by omega
  rw [e, List.range_add, List.filter_append]
  have h1 : (List.range i).filter (thrB best s ts) = [] := by
    rw [List.filter_eq_nil_iff]
    intro j hj
    rw [hn j (by simpa using hj)]; simp
  obtain ⟨m, hm⟩ : ∃ m, ts.length - i = m + 1 := ⟨ts.length - i - 1, by omega⟩
  rw [h1, hm, List.nil_append, List.range_succ_eq_map, List.map_cons, List.filter_cons_of_pos (by simpa using h)]
  simp
theorem thr_at {best : Bool} {s : SledV} {ts : List StretchV} {k : Int} (h : (thr best s ts)[0]? = some k) : 0 ≤ k ∧ k < ts.length ∧ thrB best s ts k.toNat = true := by
  have hm := List.mem_of_getElem? h
  unfold thr at hm
  obtain ⟨j, hj, rfl⟩ := List.mem_map.1 hm
  rw [List.mem_filter] at hj
  have := List.mem_range.1 hj.1
  exact ⟨by omega, by omega, by simpa using hj.2⟩
theorem thrB_out {best : Bool} {s : SledV} {ts : List StretchV} {i : Nat} {x : StretchV} (hx : ts[i]? = some x) (h : thrB best s ts i = true) : ¬ x.Side = 0 ∧ x.Wall < hgt best s ts i := by
  unfold thrB at h
  rw [isCurve_at hx, wallAt_at hx] at h
  simpa using h
/-- the head with which a sled is thrown first is no more than the greatest one -/
theorem nameP_in {s : SledV} {ts : List StretchV} {i : Nat} {x : StretchV} (hx : ts[i]? = some x) (h : thrB true s ts i = true) : nameP s x (inAt true s ts i) = true := by
  have := (thrB_out hx h).2
  rw [hgt_at hx] at this
  exact decide_eq_true this
theorem nameH_le {s : SledV} {ts : List StretchV} {i : Nat} {x : StretchV} (hs : SledOk s) (ht : ∀ x ∈ ts, StretchOk x) (hi : i ≤ 12) (hx : ts[i]? = some x) (h : thrB true s ts i = true) : 0 ≤ nameH s x ∧ nameH s x ≤ inAt true s ts i := by
  have hb := inAt_b (best := true) hs ht hi
  refine ⟨firstN_b.1, ?_⟩
  rcases Int.lt_or_le (inAt true s ts i) (nameH s x) with h1 | h1
  · have := firstN_no hb.1 h1
    rw [nameP_in hx h] at this; cases this
  · exact h1
noncomputable def namesC (s : SledV) (ts : List StretchV) : Int := if bothE s ts = 0 then ((thr true s ts)[0]?).getD 0 else 0
noncomputable def namesV (s : SledV) (ts : List StretchV) : Int := if bothE s ts = 0 then (match (thr true s ts)[0]? with
  | some k => (match ts[k.toNat]? with
    | some x => slowF (nameH s x)
    | none => 0)
  | none => 0) else 0
noncomputable def namesE (s : SledV) (ts : List StretchV) : Int := if bothE s ts = 0 then (if thr true s ts = [] then 6 else 0) else bothE s ts
theorem names_no {s : SledV} {ts : List StretchV} (h : ¬ bothE s ts = 0) : namesC s ts = 0 ∧ namesV s ts = 0 ∧ namesE s ts = bothE s ts := ⟨if_neg h, if_neg h, if_neg h⟩
theorem names_none {s : SledV} {ts : List StretchV} (h : bothE s ts = 0) (hn : thr true s ts = []) : namesC s ts = 0 ∧ namesV s ts = 0 ∧ namesE s ts = 6 := by
  refine ⟨?_, ?_, ?_⟩
  · unfold namesC; rw [if_pos h, hn]; rfl
  · unfold namesV; rw [if_pos h, hn]; rfl
  · unfold namesE; rw [if_pos h, if_pos hn]
theorem names_some {s : SledV} {ts : List StretchV} {k : Int} {x : StretchV} (h : bothE s ts = 0) (hk : (thr true s ts)[0]? = some k) (hx : ts[k.toNat]? = some x) : namesC s ts = k ∧ namesV s ts = slowF (nameH s x) ∧ namesE s ts = 0 := by
  refine ⟨?_, ?_, ?_⟩
  · unfold namesC; rw [if_pos h, hk]; rfl
  · unfold namesV; rw [if_pos h, hk]; simp only [hx]
  · unfold namesE; rw [if_pos h, if_neg (fun e => by rw [e] at hk; cases hk)]
theorem names_ref {s : SledV} {ts : List StretchV} {i : Nat} {x : StretchV} {lo : Int} (h : bothE s ts = 0) (hn : noThr true s ts i) (hi : i < ts.length) (hx : ts[i]? = some x) (ht : thrB true s ts i = true) (h0 : 0 ≤ lo) (h1 : lo < 1048576)
    (hb : ∀ y, 0 ≤ y → y < lo → nameP s x y = false) (hy : nameP s x lo = true) : namesC s ts = (i : Int) ∧ namesV s ts = slowF lo ∧ namesE s ts = 0 := by
  have := names_some h (thr_head hn hi ht) (x := x) (by simpa using hx)
  rw [show nameH s x = lo from firstN_eq h0 h1 hy hb] at this
  exact this
/-! ### starts -/
def fromS (s : SledV) (h : Int) : SledV := { s with Start := ⟨0, h⟩ }
theorem fromS_ok {s : SledV} {h : Int} (hs : SledOk s) (h0 : 0 ≤ h) (h1 : h ≤ 200000) : SledOk (fromS s h) :=
  ⟨hs.1, ⟨by simpa [fromS] using h0, by simp [fromS], by simpa [fromS] using h1⟩, hs.2.2⟩
def startP (s : SledV) (ts : List StretchV) (h : Int) : Bool := !decide (thr true (fromS s h) ts = [])
theorem head_from {s : SledV} {ts : List StretchV} (hs : SledOk s) (ht : ∀ x ∈ ts, StretchOk x) {a b : Int} (h0 : 0 ≤ a) (hab : a ≤ b) (i : Nat) : 0 ≤ headAt true (fromS s a) ts i ∧ headAt true (fromS s a) ts i ≤ headAt true (fromS s b) ts i := by
  have step : ∀ x ∈ ts, ∀ h h', 0 ≤ h → h ≤ h' → stepH true (fromS s a) x h ≤ stepH true (fromS s b) x h' := fun x hx h h' h0 hh => by
    have hm := ht x hx
    have l1 := oneF_ok (best := true) (f := false) hm.2.1
    have r1 := oneF_ok (best := true) (f := false) hs.2.2.1
    have d1 := oneF_ok (best := true) (f := false) hs.2.2.2.1
    have w1 := oneF_ok (best := true) (f := true) hs.2.2.2.2.1
    unfold stepH
    exact nextH_mono h0 hh (by omega) (Int.le_refl _) (Int.le_refl _) r1.1 (Int.le_refl _) d1.1 (Int.le_refl _) (show 0 < oneF true true s.Weight by omega) (Int.le_refl _)
  have nn : ∀ i, 0 ≤ headAt true (fromS s a) ts i := fun i => by
    induction i with
    | zero => simpa [headAt, fromS, oneF] using h0
    | succ i ih =>
      simp only [headAt]
      cases ts[i]? with
      | none => exact ih
      | some x => simp only [stepH, nextH]; omega
  exact ⟨nn i, headAt_le (by simpa [fromS, oneF] using hab) nn step i⟩
theorem startP_mono {s : SledV} {ts : List StretchV} (hs : SledOk s) (ht : ∀ x ∈ ts, StretchOk x) : Mono (startP s ts) := fun a b h0 hab h => by
  unfold startP at h ⊢
  simp only [Bool.not_eq_true', decide_eq_false_iff_not] at h ⊢
  intro e
  refine h ?_
  rw [thr_nil] at e ⊢
  intro j hj
  have := e j hj
  unfold thrB at this ⊢
  cases hc : isCurve ts j with
  | false => rfl
  | true =>
    rw [hc, Bool.true_and, decide_eq_false_iff_not] at this
    rw [Bool.true_and, decide_eq_false_iff_not]
    obtain ⟨x, hx, _⟩ := curve_side hc
    rw [hgt_at hx] at this ⊢
    have h1 := (head_from hs ht h0 hab j).2
    have h2 := (head_from hs ht h0 hab (j + 1)).2
    have hin : inAt true (fromS s a) ts j ≤ inAt true (fromS s b) ts j := by unfold inAt; omega
    have h3 := bankF_mono (b := true) (s := s) (ht x (List.mem_of_getElem? hx)) hin
    have e1 : ∀ h z, bankF true (fromS s h) x z = bankF true s x z := fun h z => rfl
    rw [e1] at this ⊢
    omega
noncomputable def startN (s : SledV) (ts : List StretchV) : Int := firstN (startP s ts) 200001
noncomputable def startV (s : SledV) (ts : List StretchV) : Int := if bothE s ts = 0 then (if startN s ts = 0 then 0 else startN s ts - 1) else 0
noncomputable def startE (s : SledV) (ts : List StretchV) : Int := if bothE s ts = 0 then (if startN s ts = 0 then 6 else 0) else bothE s ts
theorem start_no {s : SledV} {ts : List StretchV} (h : ¬ bothE s ts = 0) : startV s ts = 0 ∧ startE s ts = bothE s ts := ⟨if_neg h, if_neg h⟩
theorem start_none {s : SledV} {ts : List StretchV} (h : bothE s ts = 0) (hn : startN s ts = 0) : startV s ts = 0 ∧ startE s ts = 6 := by
  unfold startV startE; rw [if_pos h, if_pos h, if_pos hn, if_pos hn]; exact ⟨rfl, rfl⟩
theorem start_some {s : SledV} {ts : List StretchV} (h : bothE s ts = 0) (hn : ¬ startN s ts = 0) : startV s ts = startN s ts - 1 ∧ startE s ts = 0 := by
  unfold startV startE; rw [if_pos h, if_pos h, if_neg hn, if_neg hn]; exact ⟨rfl, rfl⟩
theorem startN_zero {s : SledV} {ts : List StretchV} : startN s ts = 0 ↔ startP s ts 0 = true := by
  constructor
  · intro h
    have := firstN_at (p := startP s ts) (n := 200001) (by show startN s ts < _; omega)
    rw [show firstN (startP s ts) 200001 = startN s ts from rfl, h] at this
    exact this
  · intro h
    exact firstN_eq (Int.le_refl _) (by omega) h (fun x h1 h2 => by omega)
theorem start_safe {s : SledV} {ts : List StretchV} (hs : SledOk s) (ht : ∀ x ∈ ts, StretchOk x) {h : Int} (h0 : 0 ≤ h) (h1 : h ≤ 200000) : safeF (fromS s h) ts = 2 ↔ startP s ts h = false := by
  rw [safe_two (fromS_ok hs h0 h1) ht]
  unfold startP
  simp
/-- what the halving search of the reference finds -/
theorem start_ref {s : SledV} {ts : List StretchV} {lo : Int} (hb : bothE s ts = 0) (h0 : 0 ≤ lo) (h1 : lo ≤ 200000) (hlo : startP s ts lo = false) (hm : Mono (startP s ts)) (hhi : ∀ x, lo < x → x ≤ 200000 → startP s ts x = true) : startV s ts = lo ∧ startE s ts = 0 := by
  have e : startN s ts = lo + 1 := by
    unfold startN
    rcases Int.lt_or_le lo 200000 with h | h
    · refine firstN_eq (by omega) (by omega) (hhi _ (by omega) (by omega)) (fun x hx0 hx => ?_)
      cases hp : startP s ts x with
      | false => rfl
      | true => have := hm x lo hx0 (by omega) hp; rw [hlo] at this; cases this
    · have h2 := firstN_end (p := startP s ts) (n := 200001) (fun x hx0 hx => by
        cases hp : startP s ts x with
        | false => rfl
        | true => have := hm x lo hx0 (by omega) hp; rw [hlo] at this; cases this)
      rw [h2]; omega
  have := start_some hb (by omega)
  rw [e] at this
  exact ⟨by rw [this.1]; omega, this.2⟩
end Go.Proofs.Ytpbgdeojcefnmaa
