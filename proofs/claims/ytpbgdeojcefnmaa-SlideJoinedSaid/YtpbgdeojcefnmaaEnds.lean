/-
  Plain laws: the tracks and sleds whose spans are at their ends.
-/
import Derived.Test.YtpbgdeojcefnmaaWalls
namespace Go.Proofs.Ytpbgdeojcefnmaa
set_option linter.unusedVariables false
def limZ (best f : Bool) (z : SpanV) : SpanV := ⟨oneF best f z, oneF best f z⟩
def limX (best : Bool) (x : StretchV) : StretchV := { x with Long := limZ best false x.Long, Fall := limZ best true x.Fall, Radius := limZ best false x.Radius }
def limS (best : Bool) (s : SledV) : SledV := ⟨s.Class, limZ best true s.Start, limZ best false s.Rub, limZ best false s.Drag, limZ best true s.Weight, limZ best true s.Steer⟩
/-- a stretch of which so many fields are at their ends -/
def limP (best : Bool) : Nat → StretchV → StretchV
  | 0, x => x
  | 1, x => { x with Long := limZ best false x.Long }
  | 2, x => { x with Long := limZ best false x.Long, Fall := limZ best true x.Fall }
  | _, x => limX best x
def limT (best : Bool) (ts : List StretchV) : List StretchV := ts.map (limX best)
def limM (best : Bool) (ts : List StretchV) (i k : Nat) : List StretchV := ts.mapIdx fun j x => if j < i then limX best x else if j = i then limP best k x else x
@[simp] theorem limT_length {best : Bool} {ts : List StretchV} : (limT best ts).length = ts.length := by simp [limT]
@[simp] theorem limM_length {best : Bool} {ts : List StretchV} {i k : Nat} : (limM best ts i k).length = ts.length := by simp [limM]
theorem limM_get {best : Bool} {ts : List StretchV} {i k j : Nat} : (limM best ts i k)[j]? = (ts[j]?).map fun x => if j < i then limX best x else if j = i then limP best k x else x := by unfold limM; rw [List.getElem?_mapIdx]
theorem limM_start {best : Bool} {ts : List StretchV} : limM best ts 0 0 = ts := by
  refine List.ext_getElem? fun j => ?_
  rw [limM_get]
  cases ts[j]? with
  | none => rfl
  | some x =>
    rw [Option.map_some, if_neg (by omega)]
    split <;> rfl
theorem limM_end {best : Bool} {ts : List StretchV} : limM best ts ts.length 0 = limT best ts := by
  refine List.ext_getElem? fun j => ?_
  unfold limT
  rw [limM_get, List.getElem?_map]
  cases h : ts[j]? with
  | none => rfl
  | some x => rw [Option.map_some, if_pos (List.getElem?_eq_some_iff.1 h).1]; rfl
theorem limM_next {best : Bool} {ts : List StretchV} {i : Nat} : limM best ts i 3 = limM best ts (i + 1) 0 := by
  refine List.ext_getElem? fun j => ?_
  rw [limM_get, limM_get]
  cases h : ts[j]? with
  | none => rfl
  | some x =>
    rw [Option.map_some, Option.map_some]
    by_cases h1 : j < i
    · rw [if_pos h1, if_pos (by omega)]
    · rw [if_neg h1]
      by_cases h2 : j = i
      · rw [if_pos h2, if_pos (by omega)]; rfl
      · rw [if_neg h2, if_neg (by omega)]
        split <;> rfl
theorem limM_at {best : Bool} {ts : List StretchV} {i k : Nat} {x z : StretchV} (hx : ts[i]? = some x) (hz : (limM best ts i k)[i]? = some z) : z = limP best k x := by
  rw [limM_get, hx, Option.map_some, if_neg (by omega), if_pos rfl] at hz
  exact (Option.some.inj hz).symm
theorem limM_set {best : Bool} {ts : List StretchV} {i k k' : Nat} {x v : StretchV} (hx : ts[i]? = some x) (hv : v = limP best k' x) : (limM best ts i k).set i v = limM best ts i k' := by
  subst hv
  have hi := (List.getElem?_eq_some_iff.1 hx).1
  refine List.ext_getElem? fun j => ?_
  rw [List.getElem?_set, limM_get, limM_get]
  by_cases h : i = j
  · subst h
    rw [if_pos rfl, if_pos (by simpa using hi), hx, Option.map_some, if_neg (by omega), if_pos rfl]
  · rw [if_neg h]
    cases ts[j]? with
    | none => rfl
    | some y =>
      rw [Option.map_some, Option.map_some]
      by_cases h1 : j < i
      · rw [if_pos h1, if_pos h1]
      · rw [if_neg h1, if_neg h1, if_neg (by omega), if_neg (by omega)]
theorem limT_side {best : Bool} {ts : List StretchV} (h : ∀ x ∈ ts, 0 ≤ x.Side ∧ x.Side ≤ 255) : ∀ x ∈ limT best ts, 0 ≤ x.Side ∧ x.Side ≤ 255 := fun x hx => by
  obtain ⟨y, hy, rfl⟩ := List.mem_map.1 hx
  exact h y hy
theorem limZ_ok {best f : Bool} {z : SpanV} {lo hi : Int} (h : SpanOk z lo hi) : SpanOk (limZ best f z) lo hi := by
  simp only [SpanOk, limZ, oneF] at h ⊢
  split <;> omega
theorem limS_ok {best : Bool} {s : SledV} (h : SledOk s) : SledOk (limS best s) := by
  simp only [SledOk] at h ⊢
  exact ⟨h.1, limZ_ok h.2.1, limZ_ok h.2.2.1, limZ_ok h.2.2.2.1, limZ_ok h.2.2.2.2.1, limZ_ok h.2.2.2.2.2⟩
theorem limX_ok {best : Bool} {x : StretchV} (h : StretchOk x) : StretchOk (limX best x) := by
  simp only [StretchOk] at h ⊢
  refine ⟨h.1, limZ_ok h.2.1, limZ_ok h.2.2.1, h.2.2.2.1, ?_⟩
  rcases h.2.2.2.2 with h1 | h1
  · refine .inl ⟨h1.1, ?_, ?_⟩ <;> simp only [limX, limZ, oneF] <;> split <;> omega
  · exact .inr ⟨h1.1, limZ_ok h1.2⟩
theorem trackFrom_end {best : Bool} : ∀ {ts : List StretchV} {last : Int}, trackFrom last ts = true → trackFrom last (limT best ts) = true
  | [], last, _ => rfl
  | x :: xs, last, h => by
    simp only [trackFrom, Bool.and_eq_true, decide_eq_true_eq] at h
    simp only [limT, List.map_cons, trackFrom, Bool.and_eq_true, decide_eq_true_eq]
    exact ⟨⟨h.1.1, limX_ok h.1.2⟩, trackFrom_end h.2⟩
theorem limT_ok {best : Bool} {ts : List StretchV} (h : trackOk ts = true) : trackOk (limT best ts) = true := by
  unfold trackOk at h ⊢
  simp only [Bool.and_eq_true] at h ⊢
  exact ⟨by simpa using h.1, trackFrom_end h.2⟩
theorem oneF_end {b best f : Bool} {z : SpanV} : oneF b f (limZ best f z) = oneF best f z := by
  unfold limZ
  conv => lhs; unfold oneF
  split <;> rfl
theorem oneF_end' {b best f f' : Bool} {z : SpanV} : oneF b f' (limZ best f z) = oneF best f z := by
  unfold limZ
  conv => lhs; unfold oneF
  split <;> rfl
theorem headAt_end {b best : Bool} {s : SledV} {ts : List StretchV} : ∀ i, headAt b (limS best s) (limT best ts) i = headAt best s ts i := by
  intro i
  induction i with
  | zero => simp only [headAt, limS, oneF_end']
  | succ i ih =>
    simp only [headAt]
    rw [ih]
    unfold limT
    rw [List.getElem?_map]
    cases ts[i]? with
    | none => rfl
    | some x => simp only [Option.map_some, stepH, limS, limX, oneF_end']
theorem hgt_end {b best : Bool} {s : SledV} {ts : List StretchV} {j : Nat} : hgt b (limS best s) (limT best ts) j = hgt best s ts j := by
  unfold hgt inAt
  rw [headAt_end, headAt_end]
  unfold limT
  rw [List.getElem?_map]
  cases ts[j]? with
  | none => rfl
  | some x => simp only [Option.map_some, bankF, limS, limX, oneF_end']
theorem spansL_end {best : Bool} {s : SledV} {ts : List StretchV} {i : Nat} (hi : i ≤ ts.length) : (spansL (limS best s) (limT best ts))[i]? = some ⟨headAt best s ts i, headAt best s ts i⟩ := by
  rw [spansL_get (by rw [limT_length]; exact hi)]
  unfold spanAt
  rw [headAt_end, headAt_end]
theorem curve_end {best : Bool} {ts : List StretchV} {i : Nat} {x : StretchV} (hx : ts[i]? = some x) : (limT best ts)[i]? = some (limX best x) := by unfold limT; rw [List.getElem?_map, hx]; rfl
theorem height_end {best : Bool} {s : SledV} {ts : List StretchV} {i : Nat} {x : StretchV} (h : bothE (limS best s) (limT best ts) = 0) (hx : ts[i]? = some x) (hd : ¬ x.Side = 0) : heightV (limS best s) (limT best ts) (i : Int) = ⟨hgt best s ts i, hgt best s ts i⟩ ∧ heightE (limS best s) (limT best ts) (i : Int) = 0 := by
  have := height_nat h (curve_end (best := best) hx) hd
  rw [hgt_end, hgt_end] at this
  exact this
end Go.Proofs.Ytpbgdeojcefnmaa
