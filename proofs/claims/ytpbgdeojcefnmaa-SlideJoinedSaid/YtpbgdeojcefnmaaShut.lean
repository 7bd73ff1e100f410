/-
  Plain laws: who is told to be shut out.
-/
import Derived.Test.YtpbgdeojcefnmaaWithin
namespace Go.Proofs.Ytpbgdeojcefnmaa
set_option linter.unusedVariables false
theorem shutL_split {ts : List StretchV} {l : List SledV} {i : Nat} (hi : i ≤ l.length) : ∃ rest : List Int, shutL ts l l.length = shutL ts l i ++ rest ∧ ∀ z ∈ rest, ∃ j : Nat, z = (j : Int) ∧ i ≤ j ∧ shutB ts l j = true := by
  obtain ⟨m, hm⟩ : ∃ m, l.length = i + m := ⟨l.length - i, by omega⟩
  refine ⟨((List.range m).map (i + ·)).filter (shutB ts l) |>.map fun (j : Nat) => (j : Int), ?_, fun z hz => ?_⟩
  · unfold shutL
    rw [hm, List.range_add, List.filter_append, List.map_append]
  · obtain ⟨j, hj, rfl⟩ := List.mem_map.1 hz
    rw [List.mem_filter] at hj
    obtain ⟨k, _, rfl⟩ := List.mem_map.1 hj.1
    exact ⟨_, rfl, by omega, hj.2⟩
theorem shut_told {ts : List StretchV} {l : List SledV} {i : Nat} {z : Int} (hi : i < l.length) (hz : (shutL ts l l.length)[(shutL ts l i).length]? = some z) (h : z = (i : Int)) : shutB ts l i = true := by
  obtain ⟨rest, h1, h2⟩ := shutL_split (ts := ts) (l := l) (i := i) (by omega)
  rw [h1, List.getElem?_append_right (Nat.le_refl _)] at hz
  obtain ⟨j, e, _, hb⟩ := h2 z (List.mem_of_getElem? hz)
  have : j = i := by omega
  rw [← this]; exact hb
theorem shut_first {ts : List StretchV} {l : List SledV} {i : Nat} (hi : i < l.length) (hb : shutB ts l i = true) : (shutL ts l l.length)[(shutL ts l i).length]? = some (i : Int) := by
  obtain ⟨rest, h1, _⟩ := shutL_split (ts := ts) (l := l) (i := i + 1) (by omega)
  have e : shutL ts l (i + 1) = shutL ts l i ++ [(i : Int)] := by
    unfold shutL
    rw [List.range_succ, List.filter_append, List.map_append]; simp [hb]
  rw [h1, e, List.append_assoc, List.getElem?_append_right (Nat.le_refl _)]
  simp
theorem shut_not1 {ts : List StretchV} {l : List SledV} {i : Nat} {z : Int} (hi : i < l.length) (hz : (shutL ts l l.length)[(shutL ts l i).length]? = some z) (h : ¬ z = (i : Int)) : shutB ts l i = false := by
  cases hb : shutB ts l i with
  | false => rfl
  | true => rw [shut_first hi hb] at hz; exact absurd (Option.some.inj hz).symm h
theorem shut_not2 {ts : List StretchV} {l : List SledV} {i : Nat} (hi : i < l.length) (h : ¬ (shutL ts l i).length < (shutL ts l l.length).length) : shutB ts l i = false := by
  cases hb : shutB ts l i with
  | false => rfl
  | true => exact absurd (List.getElem?_eq_some_iff.1 (shut_first hi hb)).1 h
theorem shutB_at {ts : List StretchV} {l : List SledV} {i : Nat} {x : SledV} (hx : l[i]? = some x) : shutB ts l i = !decide (safeF x ts = 2) := by unfold shutB; rw [hx]
theorem shut_yes {ts : List StretchV} {l : List SledV} {i : Nat} {x : SledV} (hx : l[i]? = some x) (h : shutB ts l i = true) : ¬ safeF x ts = 2 := by rw [shutB_at hx] at h; simpa using h
theorem shut_no' {ts : List StretchV} {l : List SledV} {i : Nat} {x : SledV} (hx : l[i]? = some x) (h : shutB ts l i = false) : safeF x ts = 2 := by rw [shutB_at hx] at h; simpa using h
theorem names_told {s : SledV} {ts : List StretchV} (hs : SledOk s) (ht : ∀ x ∈ ts, StretchOk x) (hb : bothE s ts = 0) (h : ¬ safeF s ts = 2) : 0 ≤ namesC s ts ∧ namesC s ts < ts.length ∧ namesE s ts = 0 := by
  have hne : ¬ thr true s ts = [] := fun e => h ((safe_two hs ht).2 e)
  obtain ⟨k, hk⟩ : ∃ k, (thr true s ts)[0]? = some k := by
    cases e : thr true s ts with
    | nil => exact absurd e hne
    | cons k l => exact ⟨k, rfl⟩
  obtain ⟨h0, h1, _⟩ := thr_at hk
  obtain ⟨x, hx⟩ : ∃ x, ts[k.toNat]? = some x := ⟨ts[k.toNat]'(by omega), List.getElem?_eq_getElem _⟩
  obtain ⟨e1, _, e3⟩ := names_some hb hk hx
  rw [e1]
  exact ⟨h0, h1, e3⟩
theorem names_not {s : SledV} {ts : List StretchV} (hs : SledOk s) (ht : ∀ x ∈ ts, StretchOk x) (hb : bothE s ts = 0) (h : safeF s ts = 2) : namesE s ts = 6 := (names_none hb ((safe_two hs ht).1 h)).2.2
end Go.Proofs.Ytpbgdeojcefnmaa
