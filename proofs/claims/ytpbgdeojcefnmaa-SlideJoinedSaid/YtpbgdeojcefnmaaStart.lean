/-
  Plain laws: the greatest start from which a sled is safe.
-/
import Derived.Test.YtpbgdeojcefnmaaShut
namespace Go.Proofs.Ytpbgdeojcefnmaa
set_option linter.unusedVariables false
theorem headAt_from {s : SledV} {ts : List StretchV} : ∀ i, headAt true s ts i = headAt true (fromS s s.Start.Hi) ts i := by
  intro i
  induction i with
  | zero => simp [headAt, oneF, fromS]
  | succ i ih =>
    simp only [headAt]
    rw [ih]
    rfl
theorem thr_from {s : SledV} {ts : List StretchV} : thr true s ts = thr true (fromS s s.Start.Hi) ts := by
  unfold thr
  have : thrB true s ts = thrB true (fromS s s.Start.Hi) ts := by
    funext j
    unfold thrB hgt inAt
    rw [headAt_from j, headAt_from (j + 1)]
    rfl
  rw [this]
theorem start_law0 {s : SledV} {ts : List StretchV} (hs : SledOk s) (ht : ∀ x ∈ ts, StretchOk x) (hb : bothE s ts = 0) (h : ¬ startE s ts = 0) : startE s ts = 6 ∧ ¬ safeF (fromS s 0) ts = 2 := by
  have hn : startN s ts = 0 := Decidable.byContradiction fun hn => h (start_some hb hn).2
  refine ⟨(start_none hb hn).2, fun e => ?_⟩
  rw [start_safe hs ht (by omega) (by omega)] at e
  rw [startN_zero.1 hn] at e
  cases e
theorem start_law {s : SledV} {ts : List StretchV} (hs : SledOk s) (ht : ∀ x ∈ ts, StretchOk x) (hb : bothE s ts = 0) (h : startE s ts = 0) : (0 ≤ startV s ts ∧ startV s ts ≤ 200000) ∧ (∀ y, 0 ≤ y → y ≤ startV s ts → safeF (fromS s y) ts = 2) ∧ (startV s ts < 200000 → ¬ safeF (fromS s (startV s ts + 1)) ts = 2) ∧ (safeF s ts = 2 ↔ s.Start.Hi ≤ startV s ts) := by
  have hn : ¬ startN s ts = 0 := fun hn => by have := (start_none hb hn).2; omega
  have e := (start_some hb hn).1
  have b := startN_b (s := s) (ts := ts)
  have m := startP_mono hs ht
  have no : ∀ y, 0 ≤ y → y < startN s ts → startP s ts y = false := fun y h0 h1 => firstN_no (p := startP s ts) (n := 200001) h0 h1
  have yes : ∀ y, startN s ts ≤ y → y ≤ 200000 → startP s ts y = true := fun y h0 h1 => firstN_yes (p := startP s ts) (n := 200001) m h0 (by omega)
  have q := hs.2.1
  simp only [SpanOk] at q
  refine ⟨by omega, fun y h0 h1 => (start_safe hs ht h0 (by omega)).2 (no y h0 (by omega)), fun h1 e2 => ?_, ?_⟩
  · rw [start_safe hs ht (by omega) (by omega), yes _ (by omega) (by omega)] at e2
    cases e2
  · rw [safe_two hs ht, thr_from, ← safe_two (fromS_ok hs (by omega) (by omega)) ht, start_safe hs ht (by omega) (by omega)]
    constructor
    · intro h1
      rcases Int.lt_or_le (startV s ts) s.Start.Hi with h2 | h2
      · rw [yes _ (by omega) (by omega)] at h1; cases h1
      · exact h2
    · intro h1
      exact no _ (by omega) (by omega)
end Go.Proofs.Ytpbgdeojcefnmaa
