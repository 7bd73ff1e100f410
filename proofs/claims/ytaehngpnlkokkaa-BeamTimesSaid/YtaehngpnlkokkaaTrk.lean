/-
  Plain functions: spans and tracks, lists.
-/
import Derived.Test.YtaehngpnlkokkaaTypes
import Derived.Test.YtaehngpnlkokkaaMap
namespace Go.Proofs.Ytaehngpnlkokkaa
def SpanOk (s : SpanV) (lo hi : Int) : Prop := s.Lo ≤ s.Hi ∧ lo ≤ s.Lo ∧ s.Hi ≤ hi
instance (s : SpanV) (lo hi : Int) : Decidable (SpanOk s lo hi) := by unfold SpanOk; infer_instance
def StretchOk (x : StretchV) : Prop := (0 ≤ x.Id ∧ x.Id ≤ 9999) ∧ SpanOk x.Long 1 30000 ∧ SpanOk x.Fall 0 5000 ∧ (0 ≤ x.Wall ∧ x.Wall ≤ 5000) ∧
  (x.Side = 0 ∧ x.Radius.Lo = 0 ∧ x.Radius.Hi = 0 ∨ (x.Side = 1 ∨ x.Side = 2) ∧ SpanOk x.Radius 500 20000)
instance (x : StretchV) : Decidable (StretchOk x) := by unfold StretchOk; infer_instance
def trackFrom : Int → List StretchV → Bool
  | _, [] => true
  | last, x :: xs => decide (last < x.Id ∧ StretchOk x) && trackFrom x.Id xs
def trackOk (ts : List StretchV) : Bool := decide (1 ≤ (ts.length : Int) ∧ (ts.length : Int) ≤ 12) && trackFrom (-1) ts
theorem drop_step {α : Type} {l : List α} {i : Nat} {x : α} (h : l[i]? = some x) : l.drop i = x :: l.drop (i + 1) := by
  obtain ⟨h1, rfl⟩ := List.getElem?_eq_some_iff.1 h
  exact List.drop_eq_getElem_cons h1
theorem trackFrom_step {ts : List StretchV} {i : Nat} {x : StretchV} (last : Int) (h : ts[i]? = some x) : trackFrom last (ts.drop i) = (decide (last < x.Id ∧ StretchOk x) && trackFrom x.Id (ts.drop (i + 1))) := by
  rw [drop_step h]; rfl
/-! ### first of a list -/
def findI {α : Type} (p : α → Bool) (l : List α) : Int := if l.any p then (l.findIdx p : Nat) else -1
theorem findI_at {α : Type} {p : α → Bool} {l : List α} {i : Nat} {x : α} (h : l[i]? = some x) (hp : p x = true) (h0 : (l.take i).any p = false) : findI p l = i := by
  obtain ⟨h1, rfl⟩ := List.getElem?_eq_some_iff.1 h
  have ha : l.any p = true := List.any_eq_true.2 ⟨_, List.getElem_mem h1, hp⟩
  have hi : l.findIdx p = i := by
    rw [List.findIdx_eq h1]
    refine ⟨hp, fun j hj => ?_⟩
    have := List.any_eq_false.1 h0 l[j] (by rw [List.mem_take_iff_getElem]; exact ⟨j, by omega, rfl⟩)
    simpa using this
  simp [findI, ha, hi]
theorem findI_none {α : Type} {p : α → Bool} {l : List α} {i : Nat} (hi : l.length ≤ i) (h0 : (l.take i).any p = false) : findI p l = -1 := by
  rw [List.take_of_length_le hi] at h0
  simp [findI, h0]
theorem any_step {α : Type} {p : α → Bool} {l : List α} {i : Nat} {x : α} (h : l[i]? = some x) (h0 : (l.take i).any p = false) (hp : p x = false) : (l.take (i + 1)).any p = false := by
  rw [List.take_add_one, h]; simp [h0, hp]
theorem findI_any {α : Type} {p : α → Bool} {l : List α} : decide (0 ≤ findI p l) = l.any p := by
  unfold findI; cases l.any p <;> simp
def inAll (lo hi : Int) (l : List Int) : Bool := !(l.any fun u => decide (u < lo ∨ hi < u))
theorem inAll_one {lo hi a : Int} : Value.bool (inAll lo hi [a]) = Value.bool (decide (lo ≤ a ∧ a ≤ hi)) := by
  refine congrArg _ ?_
  rw [Bool.eq_iff_iff]; simp [inAll]
theorem inAll_two {lo hi a b : Int} : Value.bool (inAll lo hi [a, b]) = Value.bool (decide ((lo ≤ a ∧ a ≤ hi) ∧ lo ≤ b ∧ b ≤ hi)) := by
  refine congrArg _ ?_
  rw [Bool.eq_iff_iff]; simp [inAll]
/-! ### spans and tracks -/
def inSpans (lo hi : Int) (l : List SpanV) : Bool := l.all fun s => decide (s.Lo ≤ s.Hi ∧ lo ≤ s.Lo ∧ s.Hi ≤ hi)
theorem inSpans_one {lo hi : Int} {a : SpanV} : Value.bool (inSpans lo hi [a]) = Value.bool (decide (a.Lo ≤ a.Hi ∧ lo ≤ a.Lo ∧ a.Hi ≤ hi)) := by simp [inSpans]
theorem all_step {α : Type} {p : α → Bool} {l : List α} {i : Nat} {x : α} (h : l[i]? = some x) (h0 : (l.take i).all p = true) (hp : p x = true) : (l.take (i + 1)).all p = true := by
  rw [List.take_add_one, h]; simp [h0, hp]
theorem all_no {α : Type} {p : α → Bool} {l : List α} {i : Nat} {x : α} (h : l[i]? = some x) (hp : p x = false) : l.all p = false := by
  rw [List.all_eq_false]; exact ⟨x, List.mem_of_getElem? h, by simp [hp]⟩
theorem all_end {α : Type} {p : α → Bool} {l : List α} {i : Nat} (hi : l.length ≤ i) (h0 : (l.take i).all p = true) : l.all p = true := by
  rwa [List.take_of_length_le hi] at h0
def lastId (ts : List StretchV) (i : Nat) : Int := if i = 0 then -1 else ((ts[i - 1]?).map (·.Id)).getD 0
theorem lastId_zero {ts : List StretchV} {i : Nat} (h : i = 0) : lastId ts i = -1 := by simp [lastId, h]
theorem lastId_pos {ts : List StretchV} {i : Nat} {y : StretchV} (h : 0 < i) (hy : ts[i - 1]? = some y) : lastId ts i = y.Id := by
  simp [lastId, hy]; omega
theorem lastId_succ {ts : List StretchV} {i : Nat} {y : StretchV} (hy : ts[i]? = some y) : lastId ts (i + 1) = y.Id := by simp [lastId, hy]
theorem trackOk_len {ts : List StretchV} (h : ¬ (1 ≤ (ts.length : Int) ∧ (ts.length : Int) ≤ 12)) : trackOk ts = false := by
  simp only [trackOk, decide_eq_false h, Bool.false_and]
theorem trackOk_no {ts : List StretchV} {i : Nat} {x : StretchV} (h : trackFrom (-1) ts = trackFrom (lastId ts i) (ts.drop i)) (hx : ts[i]? = some x) (hn : ¬ (lastId ts i < x.Id ∧ StretchOk x)) : trackOk ts = false := by
  rw [trackOk, h, trackFrom_step _ hx, decide_eq_false hn]; simp
theorem trackOk_yes {ts : List StretchV} {i : Nat} (h : trackFrom (-1) ts = trackFrom (lastId ts i) (ts.drop i)) (hi : ts.length ≤ i) (hl : 1 ≤ (ts.length : Int) ∧ (ts.length : Int) ≤ 12) : trackOk ts = true := by
  rw [trackOk, h, List.drop_eq_nil_of_le hi, decide_eq_true hl]; rfl
theorem trackFrom_next {ts : List StretchV} {i : Nat} {x : StretchV} (h : trackFrom (-1) ts = trackFrom (lastId ts i) (ts.drop i)) (hx : ts[i]? = some x) (hn : lastId ts i < x.Id ∧ StretchOk x) : trackFrom (-1) ts = trackFrom (lastId ts (i + 1)) (ts.drop (i + 1)) := by
  rw [h, trackFrom_step _ hx, decide_eq_true hn, lastId_succ hx]; rfl
/-! ### lists that are the same -/
theorem lists_ne {α : Type} {a b : List α} {i : Nat} {x y : α} (hx : a[i]? = some x) (hy : b[i]? = some y) (h : ¬ x = y) : ¬ a = b := by
  rintro rfl; rw [hx] at hy; exact h (Option.some.inj hy)
theorem lists_eq {α : Type} {a b : List α} {i : Nat} (hl : a.length = b.length) (ht : a.take i = b.take i) (hi : a.length ≤ i) : a = b := by
  rwa [List.take_of_length_le hi, List.take_of_length_le (by omega)] at ht
theorem take_same {α : Type} {a b : List α} {i : Nat} {x y : α} (ht : a.take i = b.take i) (hx : a[i]? = some x) (hy : b[i]? = some y) (h : x = y) : a.take (i + 1) = b.take (i + 1) := by
  rw [List.take_add_one, List.take_add_one, ht, hx, hy, h]
theorem trackFrom_all : ∀ {ts : List StretchV} {last : Int}, trackFrom last ts = true → ∀ x ∈ ts, StretchOk x
  | [], _, _, x, hx => by cases hx
  | y :: ts, last, h, x, hx => by
    simp only [trackFrom, Bool.and_eq_true, decide_eq_true_eq] at h
    rcases List.mem_cons.1 hx with rfl | hx
    · exact h.1.2
    · exact trackFrom_all h.2 x hx
theorem trackOk_all {ts : List StretchV} (h : trackOk ts = true) : ∀ x ∈ ts, StretchOk x := by
  simp only [trackOk, Bool.and_eq_true] at h
  exact trackFrom_all h.2
theorem trackOk_le {ts : List StretchV} (h : trackOk ts = true) : ts.length ≤ 12 := by
  simp only [trackOk, Bool.and_eq_true, decide_eq_true_eq] at h
  omega
theorem trackOk_pos {ts : List StretchV} (h : trackOk ts = true) : 1 ≤ ts.length := by
  simp only [trackOk, Bool.and_eq_true, decide_eq_true_eq] at h
  omega
theorem ceil_div {n v : Int} (hv : 0 < v) : (if 0 < n % v then n + v else n) / v = (n + v - 1) / v := by
  have h1 := Int.emod_nonneg n (Int.ne_of_gt hv)
  have h2 := Int.emod_lt_of_pos n hv
  have h3 := Int.emod_add_mul_ediv n v
  have h4 : (n + v - 1) / v = (if 0 < n % v then n / v + 1 else n / v) := by
    split
    · refine (Int.ediv_emod_unique hv (r := n % v - 1) |>.2 ⟨?_, by omega, by omega⟩).1
      rw [Int.mul_add]; omega
    · refine (Int.ediv_emod_unique hv (r := v - 1) |>.2 ⟨?_, by omega, by omega⟩).1
      omega
  rw [h4]
  split
  · rw [Int.add_ediv_of_dvd_right (Int.dvd_refl v), Int.ediv_self (Int.ne_of_gt hv)]
  · rfl
theorem ceil_yes {n v : Int} (hv : 0 < v) (h : 0 < n % v) : (n + v) / v = (n + v - 1) / v := by have := ceil_div (n := n) hv; rwa [if_pos h] at this
theorem ceil_no {n v : Int} (hv : 0 < v) (h : ¬ 0 < n % v) : n / v = (n + v - 1) / v := by have := ceil_div (n := n) hv; rwa [if_neg h] at this
end Go.Proofs.Ytaehngpnlkokkaa
