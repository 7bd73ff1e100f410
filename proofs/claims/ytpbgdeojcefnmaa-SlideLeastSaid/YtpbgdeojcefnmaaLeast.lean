/-
  Plain laws: the least time of a stretch.
-/
import Derived.Test.YtpbgdeojcefnmaaWithin
import Derived.Test.YtpbgdeojcefnmaaDrop
namespace Go.Proofs.Ytpbgdeojcefnmaa
set_option linter.unusedVariables false
theorem fastF_least {h x : Int} (hh : 0 ≤ h) (h0 : 0 ≤ x) (hx : 1962 * h ≤ 10 * x * x) : fastF h ≤ x := by
  rcases Int.lt_or_le x (fastF h) with h1 | h1
  · have := fast_no hh h0 h1
    have := of_decide_eq_false this
    omega
  · exact h1
theorem fastF_sq {h : Int} (hh : 0 ≤ h) : 1962 * h ≤ 10 * fastF h * fastF h := of_decide_eq_true (fast_yes hh (Int.le_refl _))
theorem fastF_nn {h : Int} (hh : 0 ≤ h) : 0 ≤ fastF h := by
  have := slowF_is hh
  unfold fastF; split <;> (have := this.1; omega)
theorem fastF_mono {a b : Int} (ha : 0 ≤ a) (h : a ≤ b) : fastF a ≤ fastF b := fastF_least ha (fastF_nn (by omega)) (by have := fastF_sq (h := b) (by omega); omega)
theorem fast_max {a b : Int} (ha : 0 ≤ a) (hb : 0 ≤ b) : max (fastF a) (fastF b) = fastF (max a b) := by
  rcases Int.le_total a b with h | h
  · have := fastF_mono ha h
    rw [Int.max_eq_right h, Int.max_eq_right this]
  · have := fastF_mono hb h
    rw [Int.max_eq_left h, Int.max_eq_left this]
theorem fastF_zero {h : Int} (hh : 0 ≤ h) (h0 : fastF h = 0) : h = 0 := by
  have := fastF_sq hh
  rw [h0] at this; omega
theorem fast_more {h v : Int} (hh : 0 ≤ h) (h1 : 10 * v * v < 1962 * h) (h2 : v ≤ fastF h) : v + 1 ≤ fastF h := by
  rcases Int.lt_or_le v (fastF h) with h3 | h3
  · omega
  · have := of_decide_eq_true (fast_yes hh h3); omega
theorem ceil_up {n v : Int} (hv : 0 < v) (hn : 1 ≤ n) : 1 ≤ (n + v - 1) / v ∧ n ≤ (n + v - 1) / v * v ∧ ((n + v - 1) / v - 1) * v < n := by
  have h1 := Int.emod_nonneg (n + v - 1) (Int.ne_of_gt hv)
  have h2 := Int.emod_lt_of_pos (n + v - 1) hv
  have h3 := Int.emod_add_mul_ediv (n + v - 1) v
  have h4 : (n + v - 1) / v * v = v * ((n + v - 1) / v) := Int.mul_comm _ _
  have h5 : ((n + v - 1) / v - 1) * v = v * ((n + v - 1) / v) - v := by rw [Int.sub_mul, h4, Int.one_mul]
  refine ⟨?_, by omega, by omega⟩
  rcases Int.lt_or_le ((n + v - 1) / v) 1 with h6 | h6
  · have : (n + v - 1) / v = 0 := by
      have := Int.ediv_nonneg (show 0 ≤ n + v - 1 by omega) (show 0 ≤ v by omega); omega
    rw [this] at h3; omega
  · exact h6
section
variable {bl : List Int} {s : SledV} {ts : List StretchV} {k : Nat} {x : StretchV}
theorem least_two (hb : bothE s ts = 0) (hk : k < ts.length) : leastE s ts (k : Int) = 0 ∨ leastE s ts (k : Int) = 6 ∧ fastF (inAt true s ts k) = 0 := by
  by_cases h : fastF (inAt true s ts k) = 0
  · exact .inr ⟨(least_none (i := (k : Int)) hb (by omega) (by simpa using h)).2, h⟩
  · left; unfold leastE; rw [if_pos hb, if_pos (by omega), if_neg (by simpa using h)]
theorem least_law (hs : SledOk s) (ht : ∀ x ∈ ts, StretchOk x) (hl : ts.length ≤ 12) (hb : bothE s ts = 0) (hx : ts[k]? = some x) (hE : leastE s ts (k : Int) = 0) :
    1 ≤ leastV s ts (k : Int) ∧ x.Long.Lo * 1000 ≤ leastV s ts (k : Int) * fastF (inAt true s ts k) ∧ (leastV s ts (k : Int) - 1) * fastF (inAt true s ts k) < x.Long.Lo * 1000 ∧
      (leastV s ts (k : Int) * fastF (inAt true s ts k) ≤ 30000000 + 9001 ∧ 0 ≤ (leastV s ts (k : Int) - 1) * fastF (inAt true s ts k)) ∧ leastV s ts (k : Int) ≤ 30009001 ∧ 0 < fastF (inAt true s ts k) ∧ fastF (inAt true s ts k) ≤ 9001 := by
  have hk := (List.getElem?_eq_some_iff.1 hx).1
  have hi := inAt_b (best := true) hs ht (i := k) (by omega)
  have hf := fastF_le hi.1 (by omega)
  have hv : ¬ fastF (inAt true s ts k) = 0 := fun h => by
    have := (least_none (i := (k : Int)) hb (by omega) (by simpa using h)).2
    omega
  have hxo := (ht x (List.mem_of_getElem? hx)).2.1
  simp only [SpanOk] at hxo
  have e := (least_in (i := (k : Int)) hb (by omega) (by simpa using hv) (by simpa using hx)).1
  simp only [Int.toNat_natCast] at e
  have hc := ceil_up (n := x.Long.Lo * 1000) (v := fastF (inAt true s ts k)) (by omega) (by omega)
  rw [← e] at hc
  generalize leastV s ts (k : Int) = n at hc
  generalize fastF (inAt true s ts k) = v at hc hf hv
  have h1 : (n - 1) * v = n * v - v := by rw [Int.sub_mul, Int.one_mul]
  have h2 : 0 ≤ (n - 1) * v := Int.mul_nonneg (by omega) (by omega)
  refine ⟨hc.1, hc.2.1, hc.2.2, ⟨by omega, h2⟩, ?_, by omega, hf.2⟩
  have h3 : n ≤ n * v := by
    have := Int.mul_le_mul_of_nonneg_left (show (1 : Int) ≤ v by omega) (show 0 ≤ n by omega)
    omega
  omega
theorem least_slow {n v V : Int} (hn : 1 ≤ n) (h : v ≤ V) (h0 : 0 ≤ v) : 0 ≤ (n - 1) * v ∧ (n - 1) * v ≤ (n - 1) * V := ⟨Int.mul_nonneg (by omega) h0, Int.mul_le_mul_of_nonneg_left h (by omega)⟩
end
end Go.Proofs.Ytpbgdeojcefnmaa
