/-
  Plain laws: two tracks that are joined.
-/
import Derived.Test.YtpbgdeojcefnmaaIn
import Derived.Test.YtpbgdeojcefnmaaDrop
namespace Go.Proofs.Ytpbgdeojcefnmaa
set_option linter.unusedVariables false
def joinE (ts us : List StretchV) : Int := if trackOk ts = true ∧ trackOk us = true then (if 12 < ((ts ++ us).length : Int) then 9 else (if trackOk (ts ++ us) = true then 0 else 8)) else 10
theorem joinE_bad {ts us : List StretchV} (h : ¬ (trackOk ts = true ∧ trackOk us = true)) : joinE ts us = 10 := if_neg h
theorem joinE_full {ts us : List StretchV} (h : trackOk ts = true ∧ trackOk us = true) (h2 : 12 < ((ts ++ us).length : Int)) : joinE ts us = 9 := by unfold joinE; rw [if_pos h, if_pos h2]
theorem joinE_odd {ts us : List StretchV} (h : trackOk ts = true ∧ trackOk us = true) (h2 : ¬ 12 < ((ts ++ us).length : Int)) (h3 : ¬ trackOk (ts ++ us) = true) : joinE ts us = 8 := by unfold joinE; rw [if_pos h, if_neg h2, if_neg h3]
theorem joinE_ok {ts us : List StretchV} (h : joinE ts us = 0) : trackOk ts = true ∧ trackOk us = true ∧ (ts ++ us).length ≤ 12 ∧ trackOk (ts ++ us) = true := by
  unfold joinE at h
  split at h
  · rename_i h1
    split at h
    · omega
    · split at h
      · rename_i h2 h3; exact ⟨h1.1, h1.2, by omega, h3⟩
      · omega
  · omega
theorem joinE_two {ts us : List StretchV} (h : trackOk ts = true ∧ trackOk us = true) : joinE ts us = 0 ∨ joinE ts us = 8 ∨ joinE ts us = 9 := by
  unfold joinE; rw [if_pos h]
  split
  · exact .inr (.inr rfl)
  · split
    · exact .inl rfl
    · exact .inr (.inl rfl)
def joinL (ts us : List StretchV) : List StretchV := if joinE ts us = 0 then ts ++ us else []
theorem joinL_ok {ts us : List StretchV} (h : joinE ts us = 0) : joinL ts us = ts ++ us := if_pos h
theorem joinL_no {ts us : List StretchV} (h : ¬ joinE ts us = 0) : joinL ts us = [] := if_neg h
theorem append_side {ts us : List StretchV} (h : ∀ x ∈ ts, 0 ≤ x.Side ∧ x.Side ≤ 255) (k : ∀ x ∈ us, 0 ≤ x.Side ∧ x.Side ≤ 255) : ∀ x ∈ ts ++ us, 0 ≤ x.Side ∧ x.Side ≤ 255 := fun x hx => by
  rcases List.mem_append.1 hx with hx | hx
  · exact h x hx
  · exact k x hx
theorem code_tr {ts : List StretchV} (h : (if trackOk ts = true then (0 : Int) else 10) = 0) : trackOk ts = true := tr_yes h
theorem code_no {ts : List StretchV} (h : ¬ (if trackOk ts = true then (0 : Int) else 10) = 0) : ¬ trackOk ts = true := fun e => by rw [(tr_no h).1] at e; cases e
/-- the sled at the end of a track -/
def thenS (s : SledV) (ts : List StretchV) : SledV := { s with Start := spanAt s ts ts.length }
theorem then_bad {s : SledV} {ts : List StretchV} (hs : SledOk s) (ht : ∀ x ∈ ts, StretchOk x) (h : ¬ SledOk (thenS s ts)) : 200000 < (spanAt s ts ts.length).Hi := by
  have h0 := (headAt_b (best := false) hs ht ts.length).1
  have h1 := low_high hs ht ts.length
  rcases Int.lt_or_le 200000 (spanAt s ts ts.length).Hi with h2 | h2
  · exact h2
  · refine absurd ?_ h
    obtain ⟨q1, q2, q3⟩ := hs
    exact ⟨q1, ⟨h1, h0, h2⟩, q3⟩
section
variable {s : SledV} {ts us : List StretchV} {b : Bool}
theorem head_left : ∀ {i : Nat}, i ≤ ts.length → headAt b s (ts ++ us) i = headAt b s ts i := by
  intro i
  induction i with
  | zero => intro _; rfl
  | succ i ih =>
    intro hi
    simp only [headAt]
    rw [ih (by omega), List.getElem?_append_left (by omega)]
theorem start_then : oneF b true (thenS s ts).Start = headAt b s ts ts.length := by cases b <;> rfl
theorem head_right : ∀ {j : Nat}, headAt b s (ts ++ us) (ts.length + j) = headAt b (thenS s ts) us j := by
  intro j
  induction j with
  | zero => rw [Nat.add_zero, head_left (Nat.le_refl _)]; simp only [headAt]; exact start_then.symm
  | succ j ih =>
    show headAt b s (ts ++ us) ((ts.length + j) + 1) = _
    simp only [headAt]
    rw [ih, List.getElem?_append_right (by omega), Nat.add_sub_cancel_left]
    rfl
theorem spans_join : spansL s (ts ++ us) = spansL s ts ++ (spansL (thenS s ts) us).drop 1 := by
  refine List.ext_getElem? fun i => ?_
  by_cases h : i ≤ ts.length
  · rw [List.getElem?_append_left (by rw [spansL_length]; omega), spansL_get (by rw [List.length_append]; omega), spansL_get h]
    unfold spanAt; rw [head_left h, head_left h]
  · rw [List.getElem?_append_right (by rw [spansL_length]; omega), List.getElem?_drop, spansL_length]
    by_cases h2 : i ≤ (ts ++ us).length
    · rw [List.length_append] at h2
      rw [spansL_get (by rw [List.length_append]; omega), spansL_get (by omega)]
      have e : i = ts.length + (1 + (i - (ts.length + 1))) := by omega
      unfold spanAt
      rw [← head_right, ← head_right, ← e]
    · rw [List.length_append] at h2
      rw [List.getElem?_eq_none (by rw [spansL_length, List.length_append]; omega), List.getElem?_eq_none (by rw [spansL_length]; omega)]
theorem hgt_left {i : Nat} (h : i < ts.length) : hgt b s (ts ++ us) i = hgt b s ts i := by
  unfold hgt inAt
  rw [head_left (by omega), head_left (by omega), List.getElem?_append_left h]
theorem hgt_right {j : Nat} : hgt b s (ts ++ us) (ts.length + j) = hgt b (thenS s ts) us j := by
  unfold hgt inAt
  rw [Nat.add_assoc, head_right, head_right, List.getElem?_append_right (by omega), Nat.add_sub_cancel_left]
  rfl
theorem thrB_left {i : Nat} (h : i < ts.length) : thrB b s (ts ++ us) i = thrB b s ts i := by
  unfold thrB isCurve wallAt
  rw [hgt_left h, List.getElem?_append_left h]
theorem thrB_right {j : Nat} : thrB b s (ts ++ us) (ts.length + j) = thrB b (thenS s ts) us j := by
  unfold thrB isCurve wallAt
  rw [hgt_right, List.getElem?_append_right (by omega), Nat.add_sub_cancel_left]
theorem thr_join : thr b s (ts ++ us) = [] ↔ thr b s ts = [] ∧ thr b (thenS s ts) us = [] := by
  rw [thr_nil, thr_nil, thr_nil]
  unfold noThr
  rw [List.length_append]
  constructor
  · intro h
    exact ⟨fun j hj => by rw [← thrB_left (us := us) hj]; exact h j (by omega), fun j hj => by rw [← thrB_right]; exact h _ (by omega)⟩
  · rintro ⟨h1, h2⟩ j hj
    by_cases h : j < ts.length
    · rw [thrB_left h]; exact h1 j h
    · have e : j = ts.length + (j - ts.length) := by omega
      rw [e, thrB_right]; exact h2 _ (by omega)
theorem safe_join : safeF s (ts ++ us) = min (safeF s ts) (safeF (thenS s ts) us) := by
  unfold safeF
  simp only [thr_join]
  by_cases h1 : thr false s ts = [] <;> by_cases h2 : thr false (thenS s ts) us = [] <;> by_cases h3 : thr true s ts = [] <;> by_cases h4 : thr true (thenS s ts) us = [] <;> simp [h1, h2, h3, h4] <;> decide
end
end Go.Proofs.Ytpbgdeojcefnmaa
