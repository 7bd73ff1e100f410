/-
  Plain laws: a track with other walls.
-/
import Derived.Test.YtpbgdeojcefnmaaStart
namespace Go.Proofs.Ytpbgdeojcefnmaa
set_option linter.unusedVariables false
def reW (ts : List StretchV) (w : Nat → Int) : List StretchV := ts.mapIdx fun j x => { x with Wall := w j }
@[simp] theorem reW_length {ts : List StretchV} {w : Nat → Int} : (reW ts w).length = ts.length := by simp [reW]
theorem reW_get {ts : List StretchV} {w : Nat → Int} {i : Nat} : (reW ts w)[i]? = (ts[i]?).map fun x => { x with Wall := w i } := by unfold reW; rw [List.getElem?_mapIdx]
theorem reW_at {ts : List StretchV} {w : Nat → Int} {i : Nat} {x : StretchV} (h : ts[i]? = some x) : (reW ts w)[i]? = some { x with Wall := w i } := by rw [reW_get, h]; rfl
theorem reW_set {ts : List StretchV} {w : Nat → Int} {i : Nat} {z : StretchV} {n : Int} (hz : (reW ts w)[i]? = some z) : (reW ts w).set i { z with Wall := n } = reW ts (fun j => if j = i then n else w j) := by
  refine List.ext_getElem? fun k => ?_
  rw [List.getElem?_set, reW_get, reW_get]
  by_cases h : i = k
  · subst h
    rw [if_pos rfl, if_pos (List.getElem?_eq_some_iff.1 hz).1, if_pos rfl]
    rw [reW_get] at hz
    cases hx : ts[i]? with
    | none => rw [hx] at hz; simp at hz
    | some x =>
      rw [hx] at hz
      have : { x with Wall := w i } = z := by simpa using hz
      subst this
      rfl
  · rw [if_neg h, if_neg (fun e => h e.symm)]
theorem reW_congr {ts : List StretchV} {w w' : Nat → Int} (h : ∀ j, j < ts.length → w j = w' j) : reW ts w = reW ts w' := by
  refine List.ext_getElem? fun k => ?_
  rw [reW_get, reW_get]
  cases hx : ts[k]? with
  | none => rfl
  | some x => rw [h k (List.getElem?_eq_some_iff.1 hx).1]
theorem reW_side {ts : List StretchV} {w : Nat → Int} (h : ∀ x ∈ ts, 0 ≤ x.Side ∧ x.Side ≤ 255) : ∀ x ∈ reW ts w, 0 ≤ x.Side ∧ x.Side ≤ 255 := fun x hx => by
  obtain ⟨k, hk⟩ := List.mem_iff_getElem?.1 hx
  rw [reW_get] at hk
  cases e : ts[k]? with
  | none => rw [e] at hk; simp at hk
  | some y =>
    rw [e] at hk
    have : { y with Wall := w k } = x := by simpa using hk
    subst this
    exact h y (List.mem_of_getElem? e)
theorem trackFrom_reW : ∀ {ts : List StretchV} {w : Nat → Int} {last : Int}, (∀ x ∈ ts, 0 ≤ x.Wall ∧ x.Wall ≤ 5000) → (∀ j, j < ts.length → 0 ≤ w j ∧ w j ≤ 5000) → trackFrom last (reW ts w) = trackFrom last ts
  | [], w, last, _, _ => rfl
  | x :: xs, w, last, h0, h => by
    have ih := trackFrom_reW (ts := xs) (w := fun j => w (j + 1)) (last := x.Id) (fun y hy => h0 y (List.mem_cons_of_mem _ hy)) (fun j hj => h (j + 1) (by simpa using hj))
    have e : reW (x :: xs) w = { x with Wall := w 0 } :: reW xs (fun j => w (j + 1)) := by simp [reW, List.mapIdx_cons]
    rw [e]
    simp only [trackFrom]
    rw [ih]
    have h1 := h0 x (List.mem_cons_self ..)
    have h2 := h 0 (by simp)
    congr 1
    rw [decide_eq_decide]
    simp only [StretchOk]
    constructor
    · rintro ⟨a, b, c, d, _, f⟩; exact ⟨a, b, c, d, h1, f⟩
    · rintro ⟨a, b, c, d, _, f⟩; exact ⟨a, b, c, d, h2, f⟩
theorem trackOk_reW {ts : List StretchV} {w : Nat → Int} (ht : trackOk ts = true) (h : ∀ j, j < ts.length → 0 ≤ w j ∧ w j ≤ 5000) : trackOk (reW ts w) = true := by
  unfold trackOk at ht ⊢
  rw [trackFrom_reW (fun x hx => (trackOk_all (by unfold trackOk; exact ht) x hx).2.2.2.1) h, reW_length]
  exact ht
theorem headAt_reW {best : Bool} {s : SledV} {ts : List StretchV} {w : Nat → Int} : ∀ i, headAt best s (reW ts w) i = headAt best s ts i := by
  intro i
  induction i with
  | zero => rfl
  | succ i ih =>
    simp only [headAt]
    rw [reW_get, ih]
    cases ts[i]? <;> rfl
theorem hgt_reW {best : Bool} {s : SledV} {ts : List StretchV} {w : Nat → Int} {j : Nat} : hgt best s (reW ts w) j = hgt best s ts j := by
  unfold hgt inAt
  rw [headAt_reW, headAt_reW, reW_get]
  cases ts[j]? <;> rfl
theorem isCurve_reW {ts : List StretchV} {w : Nat → Int} {j : Nat} : isCurve (reW ts w) j = isCurve ts j := by
  unfold isCurve
  rw [reW_get]
  cases ts[j]? <;> rfl
theorem thrB_reW {best : Bool} {s : SledV} {ts : List StretchV} {w : Nat → Int} {j : Nat} (hj : j < ts.length) : thrB best s (reW ts w) j = (isCurve ts j && decide (w j < hgt best s ts j)) := by
  unfold thrB
  rw [isCurve_reW, hgt_reW, wallAt_at (reW_at (List.getElem?_eq_getElem hj))]
/-- the walls as they are told, up to a place -/
def wTo (s : SledV) (ts : List StretchV) (i : Nat) (j : Nat) : Int := if j < i then wallV s ts j else wallAt ts j
/-- .. but for one, which is lower -/
def wLow (s : SledV) (ts : List StretchV) (i : Nat) (j : Nat) : Int := if j = i then wallV s ts j - 1 else wTo s ts ts.length j
theorem reW_zero {s : SledV} {ts : List StretchV} : reW ts (wTo s ts 0) = ts := by
  refine List.ext_getElem? fun k => ?_
  rw [reW_get]
  cases hx : ts[k]? with
  | none => rfl
  | some x => simp [wTo, wallAt_at hx]
theorem wallsL_get {s : SledV} {ts : List StretchV} {i : Nat} {n : Int} (h : (wallsL s ts)[i]? = some n) : n = wallV s ts i := by
  have hl := (List.getElem?_eq_some_iff.1 h).1
  rw [wallsL_length] at hl
  unfold wallsL at h
  rw [List.getElem?_map, List.getElem?_range hl] at h
  exact (Option.some.inj h).symm
theorem wallV_b {s : SledV} {ts : List StretchV} {i : Nat} : 0 ≤ wallV s ts i := by unfold wallV; split <;> omega
theorem wallV_straight {s : SledV} {ts : List StretchV} {i : Nat} {y : StretchV} (hy : ts[i]? = some y) (h : y.Side = 0) : wallV s ts i = 0 := by
  unfold wallV; rw [isCurve_at hy]; simp [h]
theorem reW_step {s : SledV} {ts : List StretchV} {i : Nat} {n : Int} {z : StretchV} (hn : (wallsL s ts)[i]? = some n) (hz : (reW ts (wTo s ts i))[i]? = some z) : (reW ts (wTo s ts i)).set i { z with Wall := n } = reW ts (wTo s ts (i + 1)) := by
  rw [reW_set hz, wallsL_get hn]
  refine reW_congr fun j _ => ?_
  unfold wTo
  by_cases h : j = i
  · subst h; rw [if_pos rfl, if_pos (by omega)]
  · rw [if_neg h]
    by_cases h2 : j < i
    · rw [if_pos h2, if_pos (by omega)]
    · rw [if_neg h2, if_neg (by omega)]
theorem reW_low {s : SledV} {ts : List StretchV} {i : Nat} {n : Int} {z : StretchV} (hn : (wallsL s ts)[i]? = some n) (hz : (reW ts (wTo s ts ts.length))[i]? = some z) : (reW ts (wTo s ts ts.length)).set i { z with Wall := n - 1 } = reW ts (wLow s ts i) := by
  rw [reW_set hz, wallsL_get hn]
  refine reW_congr fun j _ => ?_
  unfold wLow
  by_cases h : j = i
  · subst h; rfl
  · rw [if_neg h, if_neg h]
theorem wTo_all {s : SledV} {ts : List StretchV} {j : Nat} (h : j < ts.length) : wTo s ts ts.length j = wallV s ts j := if_pos h
/-- with the walls that are told the sled is safe -/
theorem walls_built {s : SledV} {ts : List StretchV} (hs : SledOk s) (ht : trackOk ts = true) (hw : ∀ j, j < ts.length → wallV s ts j ≤ 5000) : trackOk (reW ts (wTo s ts ts.length)) = true ∧ safeF s (reW ts (wTo s ts ts.length)) = 2 := by
  have hk : trackOk (reW ts (wTo s ts ts.length)) = true := trackOk_reW ht fun j hj => by
    rw [wTo_all hj]
    exact ⟨wallV_b, hw j hj⟩
  refine ⟨hk, ?_⟩
  rw [safe_two hs (trackOk_all hk), thr_nil]
  intro j hj
  rw [reW_length] at hj
  rw [thrB_reW hj, wTo_all hj]
  unfold wallV
  cases hc : isCurve ts j with
  | false => rfl
  | true => rw [if_pos rfl, Bool.true_and, decide_eq_false_iff_not]; omega
/-- with a lower wall it is thrown there -/
theorem walls_low {s : SledV} {ts : List StretchV} {i : Nat} (hs : SledOk s) (ht : trackOk ts = true) (hw : ∀ j, j < ts.length → wallV s ts j ≤ 5000) (hi : i < ts.length) (hn : ¬ wallV s ts i = 0) : trackOk (reW ts (wLow s ts i)) = true ∧ namesC s (reW ts (wLow s ts i)) = (i : Int) ∧ namesE s (reW ts (wLow s ts i)) = 0 := by
  have hk : trackOk (reW ts (wLow s ts i)) = true := trackOk_reW ht fun j hj => by
    have h1 := wallV_b (s := s) (ts := ts) (i := j)
    have h2 := hw j hj
    unfold wLow
    by_cases h : j = i
    · subst h; rw [if_pos rfl]; omega
    · rw [if_neg h, wTo_all hj]; omega
  refine ⟨hk, ?_⟩
  have hnot : noThr true s (reW ts (wLow s ts i)) i := fun j hj => by
    rw [thrB_reW (by omega)]
    unfold wLow
    rw [if_neg (by omega), wTo_all (by omega)]
    unfold wallV
    cases hc : isCurve ts j with
    | false => rfl
    | true => rw [if_pos rfl, Bool.true_and, decide_eq_false_iff_not]; omega
  have hyes : thrB true s (reW ts (wLow s ts i)) i = true := by
    rw [thrB_reW hi]
    unfold wLow
    rw [if_pos rfl]
    unfold wallV at hn ⊢
    cases hc : isCurve ts i with
    | false => rw [hc] at hn; simp at hn
    | true =>
      rw [hc, if_pos rfl] at hn
      rw [if_pos rfl, Bool.true_and, decide_eq_true_iff]
      omega
  have hh := thr_head hnot (by rw [reW_length]; exact hi) hyes
  obtain ⟨x, hx⟩ : ∃ x, (reW ts (wLow s ts i))[(i : Int).toNat]? = some x := ⟨_, List.getElem?_eq_getElem (by rw [reW_length]; omega)⟩
  have := names_some (bothE_ok hk hs) hh hx
  exact ⟨this.1, this.2.2⟩
end Go.Proofs.Ytpbgdeojcefnmaa
