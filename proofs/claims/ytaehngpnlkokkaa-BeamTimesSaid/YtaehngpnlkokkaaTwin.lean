/-
  Lines in new memory.
  No condition: the theorems hold over whatever program.
-/
import Derived.Test.YtaehngpnlkokkaaLineR
namespace Go.Proofs.Ytaehngpnlkokkaa
open Go.RowKit
set_option linter.unusedVariables false
theorem one_clocks (l : List ClockM) (az : List RA) : ∀ v ∈ (List.zipWith ClockM.cells l az).flatten, v.oneCell' = true := by
  induction l generalizing az with
  | nil => intro v hv; simp at hv
  | cons x l ih =>
    cases az with
    | nil => intro v hv; simp at hv
    | cons a az =>
      intro v hv
      rw [List.zipWith_cons_cons, List.flatten_cons, List.mem_append] at hv
      rcases hv with hv | hv
      · simp [ClockM.cells, ClockV.cells] at hv
        rcases hv with rfl | rfl <;> rfl
      · exact ih az v hv
theorem zip_len {l : List ClockM} {az : List RA} (h : az.length = l.length) : (List.zipWith ClockM.cells l az).length = l.length := by simp [h]
/-- addresses, of which some are new -/
def mixA (bz az : List RA) (i : Nat) : List RA := bz ++ az.drop i
theorem mixA_zero {az : List RA} : mixA [] az 0 = az := rfl
theorem mixA_len {bz az : List RA} {i : Nat} (hb : bz.length = i) (hi : i ≤ az.length) : (mixA bz az i).length = az.length := by simp [mixA, hb]; omega
theorem mixA_all {bz az : List RA} {i : Nat} (h : az.length ≤ i) : mixA bz az i = bz := by unfold mixA; rw [List.drop_eq_nil_of_le h, List.append_nil]
theorem mixA_at {bz az : List RA} {i : Nat} {a : RA} (hb : bz.length = i) (h : az[i]? = some a) : (mixA bz az i)[i]? = some a := by
  unfold mixA
  rw [List.getElem?_append_right (by omega), hb, Nat.sub_self, List.getElem?_drop]
  simpa using h
theorem mixA_set {bz az : List RA} {i : Nat} {a b : RA} (hb : bz.length = i) (h : az[i]? = some a) : (mixA bz az i).set i b = mixA (bz ++ [b]) az (i + 1) := by
  unfold mixA
  have hi := (List.getElem?_eq_some_iff.1 h).1
  rw [List.set_append_right _ _ (by omega), hb, Nat.sub_self, List.drop_eq_getElem_cons hi, List.set_cons_zero]
  simp
theorem zip_set {l : List ClockM} {bz az : List RA} {i : Nat} {x : ClockM} {xa nw : RA} (hx : l[i]? = some x) (hb : bz.length = i) (ha : az[i]? = some xa) :
    (List.zipWith ClockM.cells l (mixA bz az i)).set i (ClockM.cells x nw) = List.zipWith ClockM.cells l (mixA (bz ++ [nw]) az (i + 1)) := by
  rw [← mixA_set hb ha]
  apply List.ext_getElem?
  intro k
  rw [List.getElem?_set]
  by_cases e : i = k
  · subst e
    have h1 := mixA_at hb ha
    have h2 := (List.getElem?_eq_some_iff.1 h1).1
    have h3 := (List.getElem?_eq_some_iff.1 hx).1
    rw [if_pos rfl, List.getElem?_zipWith, hx, List.getElem?_set_self h2, if_pos (by simp; omega)]
  · rw [if_neg e, List.getElem?_zipWith, List.getElem?_zipWith, List.getElem?_set_ne e]
theorem nest_succ {l : List ClockM} {bz : List RA} {i : Nat} {x : ClockM} {nw : RA} (hx : l[i]? = some x) (hb : bz.length = i) : nest ClockM.owns (l.take i) bz ++ ClockM.owns x nw = nest ClockM.owns (l.take (i + 1)) (bz ++ [nw]) := by
  have hi := (List.getElem?_eq_some_iff.1 hx).1
  rw [List.take_add_one, hx, Option.toList_some, nest_append (by rw [List.length_take, hb]; omega)]
  simp [nest]
theorem bund_owns_wr {l : List ClockM} {bz : List RA} : (bund (nest ClockM.owns l bz)).wr = true := by
  show (nest ClockM.owns l bz).all (·.wr) = true
  rw [List.all_eq_true]
  intro X hX
  obtain ⟨k, m, a, _, _, h⟩ := nest_mem hX
  simp only [ClockM.owns, List.mem_singleton] at h
  subst h; rfl
/-- what is known of new rows -/
def CapOk (l : List ClockM) (bz : List RA) : Prop := ∀ (k : Nat) m (a : RA), l[k]? = some m → bz[k]? = some a → m.Syncs.length ≤ a.2
theorem cap_succ {l : List ClockM} {bz : List RA} {i : Nat} {x : ClockM} {nw : RA} (h : CapOk l bz) (hb : bz.length = i) (hx : l[i]? = some x) (hc : x.Syncs.length ≤ nw.2) : CapOk l (bz ++ [nw]) := fun k m a hm ha => by
  by_cases e : k < bz.length
  · rw [List.getElem?_append_left e] at ha
    exact h k m a hm ha
  · rw [List.getElem?_append_right (by omega)] at ha
    have hk : k - bz.length = 0 := by
      rcases Nat.eq_zero_or_pos (k - bz.length) with h1 | h1
      · exact h1
      · rw [List.getElem?_eq_none (by simp; omega)] at ha; cases ha
    rw [hk] at ha
    simp at ha
    have : k = i := by omega
    subst this
    rw [hx] at hm; cases hm
    subst ha; exact hc
theorem owns_rds : ∀ (m : ClockM) (a : RA) (w : World), (∀ X ∈ ClockM.owns m a, X.holds w) → ∀ X ∈ ClockM.rds m a, X.holds w := fun m a w h X hX => by
  simp only [ClockM.rds, List.mem_singleton] at hX
  subst hX
  have := own_rd (h _ (List.mem_singleton.2 rfl))
  simpa using this
theorem LineIn.twin {l : LineM} {az bz : List RA} (h : LineIn l az) (hb : bz.length = l.Clocks.length) (hc : CapOk l.Clocks bz) : LineIn l bz := ⟨h.trk, h.side, h.cks, hb, h.bms, fun k m a hm ha => ⟨hc k m a hm ha, by
  obtain ⟨a2, h2⟩ : ∃ a2, az[k]? = some a2 := ⟨az[k]'(by rw [h.as_]; exact (List.getElem?_eq_some_iff.1 hm).1), List.getElem?_eq_getElem _⟩
  exact (h.syn k m a2 hm h2).2⟩⟩
theorem clock_same {x y : ClockM} {k : Nat} (h1 : x.Drift = y.Drift) (h2 : (x.Syncs.length : Int) = (y.Syncs.length : Int)) (hk : x.Syncs.length ≤ k) (h : x.Syncs.take k = y.Syncs.take k) : x = y := by
  cases x; cases y
  simp only [ClockM.mk.injEq] at *
  rw [List.take_of_length_le hk, List.take_of_length_le (by omega)] at h
  exact ⟨h1, h⟩
theorem line_same {l m : LineM} (h1 : l.Track = m.Track) (h2 : l.Fast = m.Fast) (h3 : l.Finish = m.Finish) (h4 : l.Fakes = m.Fakes) (h5 : l.Misses = m.Misses) (h6 : l.Clocks = m.Clocks) (h7 : l.Beams = m.Beams) : l = m := by
  cases l; cases m; simp_all
section
variable {E : Env} {ops : Array Oper} {Q : Post} {rest : List Oper} {D : List Deferred} {L : List (Nat × Value)} {C : List Assn}
theorem r_cap {a : Option Addr} {c e sz : Nat} {es : List (List Value)} (i : Nat) (hC : C[i]? = some (own a c e sz es)) (k : es.length ≤ c → RJ E ops Q rest D L C) : RJ E ops Q rest D L C := fun act w hf hs =>
  k (own_cap (hs.holds _ (List.mem_of_getElem? hC))) act w hf hs
end
end Go.Proofs.Ytaehngpnlkokkaa
