/-
  Plain laws: a truth of ice, air, weight and track, by choices; it is within what is told.
-/
import Derived.Test.YtpbgdeojcefnmaaAlive
namespace Go.Proofs.Ytpbgdeojcefnmaa
set_option linter.unusedVariables false
def chooseF (bl : List Int) (i : Int) : Int := if bl.length = 0 then 0 else bl.getD (i % (bl.length : Int)).toNat 0
def someF (s : SpanV) (b : Int) : Int := if b % 5 = 0 then s.Lo else (if b % 5 = 1 then s.Hi else s.Lo + b / 5 % (s.Hi - s.Lo + 1))
theorem someF_in {s : SpanV} {b : Int} (h : s.Lo ≤ s.Hi) : s.Lo ≤ someF s b ∧ someF s b ≤ s.Hi := by
  unfold someF
  have h1 := Int.emod_nonneg (b / 5) (show s.Hi - s.Lo + 1 ≠ 0 by omega)
  have h2 := Int.emod_lt_of_pos (b / 5) (show 0 < s.Hi - s.Lo + 1 by omega)
  split
  · omega
  · split <;> omega
theorem someF_ok {s : SpanV} {b lo hi : Int} (h : SpanOk s lo hi) : lo ≤ someF s b ∧ someF s b ≤ hi := by
  have := someF_in (b := b) h.1
  have h2 := h.2
  omega
theorem chooseF_b {bl : List Int} (hb : ∀ z ∈ bl, 0 ≤ z ∧ z ≤ 4294967295) (i : Int) : 0 ≤ chooseF bl i ∧ chooseF bl i ≤ 4294967295 := by
  unfold chooseF
  split
  · omega
  · rw [List.getD_eq_getElem?_getD]
    cases h : bl[(i % (bl.length : Int)).toNat]? with
    | none => simp
    | some z => exact hb z (List.mem_of_getElem? h)
theorem chooseF_at {bl : List Int} {i z : Int} (h : ¬ (bl.length : Int) = 0) (hz : bl[(i % (bl.length : Int)).toNat]? = some z) : chooseF bl i = z := by
  unfold chooseF; rw [if_neg (by omega), List.getD_eq_getElem?_getD, hz]; rfl
/-- the number of the choices at a place -/
def ch (bl : List Int) (s : SpanV) (k : Int) : Int := someF s (chooseF bl k)
theorem ch_in {bl : List Int} {s : SpanV} {k : Int} (h : s.Lo ≤ s.Hi) : s.Lo ≤ ch bl s k ∧ ch bl s k ≤ s.Hi := someF_in h
theorem ch_ok {bl : List Int} {s : SpanV} {k lo hi : Int} (h : SpanOk s lo hi) : lo ≤ ch bl s k ∧ ch bl s k ≤ hi := someF_ok h
def tStep (bl : List Int) (s : SledV) (x : StretchV) (i : Nat) (h : Int) : Int := nextH h (ch bl x.Long (3 + 5 * (i : Int))) (ch bl x.Fall (3 + 5 * (i : Int) + 1)) (ch bl s.Rub (3 + 5 * (i : Int) + 2)) (ch bl s.Drag 1) (ch bl s.Weight 2)
def tHead (bl : List Int) (s : SledV) (ts : List StretchV) : Nat → Int
  | 0 => ch bl s.Start 0
  | i + 1 => match ts[i]? with
    | some x => tStep bl s x i (tHead bl s ts i)
    | none => tHead bl s ts i
theorem tHead_succ {bl : List Int} {s : SledV} {ts : List StretchV} {i : Nat} {x : StretchV} (h : ts[i]? = some x) : tHead bl s ts (i + 1) = tStep bl s x i (tHead bl s ts i) := by simp [tHead, h]
def tHgtX (bl : List Int) (s : SledV) (x : StretchV) (i : Nat) (h : Int) : Int := if x.Side = 0 then 0 else 1200 * h / (10 * ch bl x.Radius (3 + 5 * (i : Int) + 3)) + ch bl s.Steer (3 + 5 * (i : Int) + 4)
def tHgt (bl : List Int) (s : SledV) (ts : List StretchV) (i : Nat) : Int := match ts[i]? with
  | some x => tHgtX bl s x i (max (tHead bl s ts i) (tHead bl s ts (i + 1)))
  | none => 0
theorem tHgt_at {bl : List Int} {s : SledV} {ts : List StretchV} {i : Nat} {x : StretchV} (h : ts[i]? = some x) : tHgt bl s ts i = tHgtX bl s x i (max (tHead bl s ts i) (tHead bl s ts (i + 1))) := by unfold tHgt; rw [h]
def tHeads (bl : List Int) (s : SledV) (ts : List StretchV) (n : Nat) : List Int := (List.range (n + 1)).map (tHead bl s ts)
def tHgts (bl : List Int) (s : SledV) (ts : List StretchV) (n : Nat) : List Int := (List.range n).map (tHgt bl s ts)
theorem tHeads_len {bl : List Int} {s : SledV} {ts : List StretchV} {n : Nat} : (tHeads bl s ts n).length = n + 1 := by simp [tHeads]
theorem tHgts_len {bl : List Int} {s : SledV} {ts : List StretchV} {n : Nat} : (tHgts bl s ts n).length = n := by simp [tHgts]
theorem tHeads_succ {bl : List Int} {s : SledV} {ts : List StretchV} {n : Nat} : tHeads bl s ts (n + 1) = tHeads bl s ts n ++ [tHead bl s ts (n + 1)] := by unfold tHeads; rw [List.range_succ (n := n + 1), List.map_append]; rfl
theorem tHgts_succ {bl : List Int} {s : SledV} {ts : List StretchV} {n : Nat} : tHgts bl s ts (n + 1) = tHgts bl s ts n ++ [tHgt bl s ts n] := by unfold tHgts; rw [List.range_succ, List.map_append]; rfl
theorem tHeads_get {bl : List Int} {s : SledV} {ts : List StretchV} {n i : Nat} (h : i ≤ n) : (tHeads bl s ts n)[i]? = some (tHead bl s ts i) := by simp [tHeads, List.getElem?_range (show i < n + 1 by omega)]
theorem tHgts_get {bl : List Int} {s : SledV} {ts : List StretchV} {n i : Nat} (h : i < n) : (tHgts bl s ts n)[i]? = some (tHgt bl s ts i) := by simp [tHgts, List.getElem?_range h]
/-- heads are within what is told -/
theorem within {bl : List Int} {s : SledV} {ts : List StretchV} (hs : SledOk s) (ht : ∀ x ∈ ts, StretchOk x) : ∀ i, headAt false s ts i ≤ tHead bl s ts i ∧ tHead bl s ts i ≤ headAt true s ts i := by
  intro i
  induction i with
  | zero =>
    have := ch_in (bl := bl) (k := 0) hs.2.1.1
    simp only [headAt, tHead, oneF]
    exact ⟨by simpa using this.1, by simpa using this.2⟩
  | succ i ih =>
    simp only [headAt, tHead]
    cases hx : ts[i]? with
    | none => exact ih
    | some x =>
      have hm := ht x (List.mem_of_getElem? hx)
      have h0 := (headAt_b (best := false) hs ht i).1
      have q1 := ch_in (bl := bl) (k := 3 + 5 * (i : Int)) hm.2.1.1
      have q2 := ch_in (bl := bl) (k := 3 + 5 * (i : Int) + 1) hm.2.2.1.1
      have q3 := ch_in (bl := bl) (k := 3 + 5 * (i : Int) + 2) hs.2.2.1.1
      have q4 := ch_in (bl := bl) (k := 1) hs.2.2.2.1.1
      have q5 := ch_in (bl := bl) (k := 2) hs.2.2.2.2.1.1
      have p1 := hm.2.1.2.1
      have p3 := hs.2.2.1.2.1
      have p4 := hs.2.2.2.1.2.1
      have p5 := hs.2.2.2.2.1.2.1
      simp only [stepH, tStep]
      constructor
      · refine nextH_mono h0 ih.1 (by omega) ?_ ?_ (by omega) ?_ (by omega) ?_ ?_ ?_ <;> simp only [oneF] <;> simp <;> omega
      · refine nextH_mono (by omega) ih.2 ?_ ?_ ?_ ?_ ?_ ?_ ?_ (by omega) ?_ <;> simp only [oneF] <;> simp <;> omega
theorem tHead_b {bl : List Int} {s : SledV} {ts : List StretchV} (hs : SledOk s) (ht : ∀ x ∈ ts, StretchOk x) {i : Nat} (hi : i ≤ 13) : 0 ≤ tHead bl s ts i ∧ tHead bl s ts i ≤ 270000 := by
  have h1 := within (bl := bl) hs ht i
  have h2 := headAt_b (best := false) hs ht i
  have h3 := headAt_b (best := true) hs ht i
  omega
/-- heights are within what is told -/
theorem within_hgt {bl : List Int} {s : SledV} {ts : List StretchV} (hs : SledOk s) (ht : ∀ x ∈ ts, StretchOk x) {i : Nat} {x : StretchV} (hx : ts[i]? = some x) (hc : ¬ x.Side = 0) : hgt false s ts i ≤ tHgt bl s ts i ∧ tHgt bl s ts i ≤ hgt true s ts i := by
  have hm := ht x (List.mem_of_getElem? hx)
  have hr := radius_c hm hc
  have hq := hm.2.2.2.2
  simp only [SpanOk] at hq
  have hR : x.Radius.Lo ≤ x.Radius.Hi := by omega
  have w0 := within (bl := bl) hs ht i
  have w1 := within (bl := bl) hs ht (i + 1)
  have n0 := (headAt_b (best := false) hs ht i).1
  have q1 := ch_in (bl := bl) (k := 3 + 5 * (i : Int) + 3) hR
  have q2 := ch_in (bl := bl) (k := 3 + 5 * (i : Int) + 4) hs.2.2.2.2.2.1
  rw [hgt_low hx (by omega), hgt_high hx (by omega), tHgt_at hx]
  unfold tHgtX
  rw [if_neg hc]
  have i0 : inAt false s ts i ≤ max (tHead bl s ts i) (tHead bl s ts (i + 1)) := by unfold inAt; omega
  have i1 : max (tHead bl s ts i) (tHead bl s ts (i + 1)) ≤ inAt true s ts i := by unfold inAt; omega
  have i2 : 0 ≤ inAt false s ts i := by unfold inAt; omega
  have a1 : 1200 * inAt false s ts i / (10 * x.Radius.Hi) ≤ 1200 * inAt false s ts i / (10 * ch bl x.Radius (3 + 5 * (i : Int) + 3)) := div_anti (by omega) (by omega) (by omega)
  have a2 : 1200 * inAt false s ts i / (10 * ch bl x.Radius (3 + 5 * (i : Int) + 3)) ≤ 1200 * max (tHead bl s ts i) (tHead bl s ts (i + 1)) / (10 * ch bl x.Radius (3 + 5 * (i : Int) + 3)) := Int.ediv_le_ediv (by omega) (by omega)
  have a3 : 1200 * max (tHead bl s ts i) (tHead bl s ts (i + 1)) / (10 * ch bl x.Radius (3 + 5 * (i : Int) + 3)) ≤ 1200 * max (tHead bl s ts i) (tHead bl s ts (i + 1)) / (10 * x.Radius.Lo) := div_anti (by omega) (by omega) (by omega)
  have a4 : 1200 * max (tHead bl s ts i) (tHead bl s ts (i + 1)) / (10 * x.Radius.Lo) ≤ 1200 * inAt true s ts i / (10 * x.Radius.Lo) := Int.ediv_le_ediv (by omega) (by omega)
  omega
/-- the speeds of what is told hold those of a head within -/
theorem speed_within {s : SledV} {ts : List StretchV} {i : Nat} {h : Int} (hs : SledOk s) (ht : ∀ x ∈ ts, StretchOk x) (hi : i ≤ 12) (h0 : headAt false s ts i ≤ h) (h1 : h ≤ headAt true s ts i) :
    0 ≤ slowF (headAt false s ts i) ∧ 10 * slowF (headAt false s ts i) * slowF (headAt false s ts i) ≤ 1962 * h ∧ 1962 * h ≤ 10 * fastF (headAt true s ts i) * fastF (headAt true s ts i) := by
  have b0 := headAt_b (best := false) hs ht i
  have b1 := headAt_b (best := true) hs ht i
  obtain ⟨p1, p2, p3⟩ := slowF_is b0.1
  refine ⟨p1, by omega, ?_⟩
  have := fast_yes b1.1 (Int.le_refl (fastF (headAt true s ts i)))
  have := of_decide_eq_true this
  omega
theorem curve_t {ts : List StretchV} {i : Nat} {x : StretchV} (hx : ts[i]? = some x) (h : ¬ x.Side = 0) : curveB ts (i : Int) = true := by
  rw [curveB_at (by omega) (x := x) (by simpa using hx), decide_eq_false h]; rfl
theorem curve_f {ts : List StretchV} {i : Nat} {x : StretchV} (hx : ts[i]? = some x) (h : x.Side = 0) : curveB ts (i : Int) = false := by
  rw [curveB_at (by omega) (x := x) (by simpa using hx), decide_eq_true h]; rfl
theorem speed_nat {s : SledV} {ts : List StretchV} {i : Nat} (h : bothE s ts = 0) (hi : i ≤ ts.length) : speedV s ts (i : Int) = SpanV.mk (slowF (headAt false s ts i)) (fastF (headAt true s ts i)) ∧ speedE s ts (i : Int) = 0 := by
  have := speed_in (i := (i : Int)) h (by omega)
  simpa only [Int.toNat_natCast] using this
theorem height_nat {s : SledV} {ts : List StretchV} {i : Nat} {x : StretchV} (h : bothE s ts = 0) (hx : ts[i]? = some x) (hd : ¬ x.Side = 0) : heightV s ts (i : Int) = SpanV.mk (hgt false s ts i) (hgt true s ts i) ∧ heightE s ts (i : Int) = 0 := by
  have := height_in (i := (i : Int)) h (curve_t hx hd)
  simpa only [Int.toNat_natCast] using this
end Go.Proofs.Ytpbgdeojcefnmaa
