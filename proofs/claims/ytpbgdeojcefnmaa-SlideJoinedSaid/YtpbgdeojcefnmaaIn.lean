/-
  Plain laws: a sled, or a track, whose spans are wider; a sled that is better.
-/
import Derived.Test.YtpbgdeojcefnmaaEnds
namespace Go.Proofs.Ytpbgdeojcefnmaa
set_option linter.unusedVariables false
def SpanIn (a b : SpanV) : Prop := b.Lo ≤ a.Lo ∧ a.Hi ≤ b.Hi
structure SledIn (s z : SledV) : Prop where
  start : SpanIn s.Start z.Start
  rub : SpanIn s.Rub z.Rub
  drag : SpanIn s.Drag z.Drag
  weight : SpanIn s.Weight z.Weight
  steer : SpanIn s.Steer z.Steer
structure StretchIn (x y : StretchV) : Prop where
  long : SpanIn x.Long y.Long
  fall : SpanIn x.Fall y.Fall
  radius : SpanIn x.Radius y.Radius
  side : x.Side = y.Side
structure TrackIn (ts us : List StretchV) : Prop where
  len : us.length = ts.length
  at_ : ∀ (i : Nat) x y, ts[i]? = some x → us[i]? = some y → StretchIn x y
theorem SpanIn.refl (a : SpanV) : SpanIn a a := ⟨Int.le_refl _, Int.le_refl _⟩
theorem SledIn.refl (s : SledV) : SledIn s s := ⟨.refl _, .refl _, .refl _, .refl _, .refl _⟩
theorem StretchIn.refl (x : StretchV) : StretchIn x x := ⟨.refl _, .refl _, .refl _, rfl⟩
theorem TrackIn.refl (ts : List StretchV) : TrackIn ts ts := ⟨rfl, fun i x y hx hy => by rw [hx] at hy; cases hy; exact .refl _⟩
theorem oneF_in {a b : SpanV} (h : SpanIn a b) : oneF false true b ≤ oneF false true a ∧ oneF true true a ≤ oneF true true b ∧ oneF false false a ≤ oneF false false b ∧ oneF true false b ≤ oneF true false a := by
  simp only [oneF]
  obtain ⟨h1, h2⟩ := h
  refine ⟨?_, ?_, ?_, ?_⟩ <;> simp <;> omega
section
variable {s z : SledV} {ts us : List StretchV} (hs : SledOk s) (hz : SledOk z) (ht : ∀ x ∈ ts, StretchOk x) (hu : ∀ x ∈ us, StretchOk x) (is : SledIn s z) (it : TrackIn ts us)
include hs hz ht hu is it
theorem head_in : ∀ i, headAt false z us i ≤ headAt false s ts i ∧ headAt true s ts i ≤ headAt true z us i := by
  intro i
  induction i with
  | zero => exact ⟨(oneF_in is.start).1, (oneF_in is.start).2.1⟩
  | succ i ih =>
    simp only [headAt]
    cases hx : ts[i]? with
    | none =>
      have hlen := it.len
      have : us[i]? = none := List.getElem?_eq_none (by have := List.getElem?_eq_none_iff.1 hx; omega)
      rw [this]; exact ih
    | some x =>
      have hlen := it.len
      have hi := (List.getElem?_eq_some_iff.1 hx).1
      have hy : us[i]? = some (us[i]'(by omega)) := List.getElem?_eq_getElem (by omega)
      rw [hy]
      have hin := it.at_ i x _ hx hy
      generalize us[i]'(by omega) = y at hy hin
      have hxo := ht x (List.mem_of_getElem? hx)
      have hyo := hu y (List.mem_of_getElem? hy)
      have n0 := (headAt_b (best := false) hs ht i).1
      have n1 := (headAt_b (best := true) hs ht i).1
      have n2 := (headAt_b (best := false) hz hu i).1
      have n3 := (headAt_b (best := true) hz hu i).1
      have a1 := oneF_in hin.long
      have a2 := oneF_in hin.fall
      have a3 := oneF_in is.rub
      have a4 := oneF_in is.drag
      have a5 := oneF_in is.weight
      have p1 := fun b f => oneF_ok (best := b) (f := f) hxo.2.1
      have q1 := fun b f => oneF_ok (best := b) (f := f) hyo.2.1
      have p3 := fun b f => oneF_ok (best := b) (f := f) hs.2.2.1
      have q3 := fun b f => oneF_ok (best := b) (f := f) hz.2.2.1
      have p4 := fun b f => oneF_ok (best := b) (f := f) hs.2.2.2.1
      have q4 := fun b f => oneF_ok (best := b) (f := f) hz.2.2.2.1
      have p5 := fun b f => oneF_ok (best := b) (f := f) hs.2.2.2.2.1
      have q5 := fun b f => oneF_ok (best := b) (f := f) hz.2.2.2.2.1
      simp only [stepH]
      constructor
      · refine nextH_mono n2 ih.1 ?_ a1.2.2.1 a2.1 ?_ a3.2.2.1 ?_ a4.2.2.1 ?_ a5.1
        · have := p1 false false; omega
        · have := p3 false false; omega
        · have := p4 false false; omega
        · have := q5 false true; omega
      · refine nextH_mono n1 ih.2 ?_ a1.2.2.2 a2.2.1 ?_ a3.2.2.2 ?_ a4.2.2.2 ?_ a5.2.1
        · have := q1 true false; omega
        · have := q3 true false; omega
        · have := q4 true false; omega
        · have := p5 true true; omega
theorem hgt_in {i : Nat} {x : StretchV} (hx : ts[i]? = some x) (hd : ¬ x.Side = 0) : hgt false z us i ≤ hgt false s ts i ∧ hgt true s ts i ≤ hgt true z us i := by
  have hlen := it.len
  have hi := (List.getElem?_eq_some_iff.1 hx).1
  have hy : us[i]? = some (us[i]'(by omega)) := List.getElem?_eq_getElem (by omega)
  have hin := it.at_ i x _ hx hy
  generalize us[i]'(by omega) = y at hy hin
  have hxo := ht x (List.mem_of_getElem? hx)
  have hyo := hu y (List.mem_of_getElem? hy)
  have rx := radius_c hxo hd
  have ry := radius_c hyo (by rw [← hin.side]; exact hd)
  have h0 := head_in hs hz ht hu is it i
  have h1 := head_in hs hz ht hu is it (i + 1)
  have n0 := (headAt_b (best := false) hz hu i).1
  have n1 := (headAt_b (best := true) hs ht i).1
  rw [hgt_low hy (by omega), hgt_low hx (by omega), hgt_high hx (by omega), hgt_high hy (by omega)]
  obtain ⟨r1, r2⟩ := hin.radius
  obtain ⟨t1, t2⟩ := is.steer
  have i0 : inAt false z us i ≤ inAt false s ts i := by unfold inAt; omega
  have i1 : inAt true s ts i ≤ inAt true z us i := by unfold inAt; omega
  have i2 : 0 ≤ inAt false z us i := by unfold inAt; omega
  have i3 : 0 ≤ inAt true s ts i := by unfold inAt; omega
  have a1 : 1200 * inAt false z us i / (10 * y.Radius.Hi) ≤ 1200 * inAt false z us i / (10 * x.Radius.Hi) := div_anti (by omega) (by omega) (by omega)
  have a2 : 1200 * inAt false z us i / (10 * x.Radius.Hi) ≤ 1200 * inAt false s ts i / (10 * x.Radius.Hi) := Int.ediv_le_ediv (by omega) (by omega)
  have a3 : 1200 * inAt true s ts i / (10 * x.Radius.Lo) ≤ 1200 * inAt true s ts i / (10 * y.Radius.Lo) := div_anti (by omega) (by omega) (by omega)
  have a4 : 1200 * inAt true s ts i / (10 * y.Radius.Lo) ≤ 1200 * inAt true z us i / (10 * y.Radius.Lo) := Int.ediv_le_ediv (by omega) (by omega)
  omega
end
/-! ### a sled with a wider span, a better sled, a track with a wider stretch -/
def widF (w n : Int) (z : SpanV) : SpanV := if w / 8 % 2 = 0 then ⟨z.Lo - n, z.Hi⟩ else ⟨z.Lo, z.Hi + n⟩
def laxF (s : SledV) (w n : Int) : SledV :=
  if w % 5 = 0 then { s with Start := widF w n s.Start } else if w % 5 = 1 then { s with Rub := widF w n s.Rub } else if w % 5 = 2 then { s with Drag := widF w n s.Drag } else if w % 5 = 3 then { s with Weight := widF w n s.Weight } else { s with Steer := widF w n s.Steer }
theorem widF_in {w n : Int} (hn : 0 ≤ n) (z : SpanV) : SpanIn z (widF w n z) := by
  unfold widF SpanIn; split <;> simp only <;> omega
theorem lax_in {s : SledV} {w n : Int} (hn : 0 ≤ n) : SledIn s (laxF s w n) := by
  unfold laxF
  split
  · exact ⟨widF_in hn _, .refl _, .refl _, .refl _, .refl _⟩
  · split
    · exact ⟨.refl _, widF_in hn _, .refl _, .refl _, .refl _⟩
    · split
      · exact ⟨.refl _, .refl _, widF_in hn _, .refl _, .refl _⟩
      · split
        · exact ⟨.refl _, .refl _, .refl _, widF_in hn _, .refl _⟩
        · exact ⟨.refl _, .refl _, .refl _, .refl _, widF_in hn _⟩
theorem lax_class {s : SledV} {w n : Int} : (laxF s w n).Class = s.Class := by
  unfold laxF
  split
  · rfl
  · split
    · rfl
    · split
      · rfl
      · split <;> rfl
def upF (d : Int) (z : SpanV) : SpanV := ⟨z.Lo + d, z.Hi + d⟩
def downF (d : Int) (z : SpanV) : SpanV := ⟨z.Lo - d, z.Hi - d⟩
def betF (s : SledV) (w n : Int) : SledV :=
  if w % 4 = 0 then { s with Weight := upF (100 * n) s.Weight } else if w % 4 = 1 then { s with Rub := downF (n % 9) s.Rub } else if w % 4 = 2 then { s with Drag := downF (n % 99) s.Drag } else { s with Start := upF n s.Start }
theorem bet_class {s : SledV} {w n : Int} : (betF s w n).Class = s.Class := by
  unfold betF
  split
  · rfl
  · split
    · rfl
    · split <;> rfl
theorem one_up {b f : Bool} {d : Int} {z : SpanV} : oneF b f (upF d z) = oneF b f z + d := by unfold oneF upF; split <;> rfl
theorem one_down {b f : Bool} {d : Int} {z : SpanV} : oneF b f (downF d z) = oneF b f z - d := by unfold oneF downF; split <;> rfl
theorem bet_head {s : SledV} {ts : List StretchV} {w n : Int} (hn : 0 ≤ n) (hs : SledOk s) (hz : SledOk (betF s w n)) (ht : ∀ x ∈ ts, StretchOk x) {b : Bool} : ∀ i, headAt b s ts i ≤ headAt b (betF s w n) ts i := by
  have hst : oneF b true s.Start ≤ oneF b true (betF s w n).Start := by
    unfold betF
    split
    · exact Int.le_refl _
    · split
      · exact Int.le_refl _
      · split
        · exact Int.le_refl _
        · simp only [one_up]; omega
  refine headAt_le hst (fun i => (headAt_b hs ht i).1) fun x hx h h' h0 hh => ?_
  have hxo := ht x hx
  have p1 := oneF_ok (best := b) (f := false) hxo.2.1
  have p3 := oneF_ok (best := b) (f := false) hs.2.2.1
  have q3 := oneF_ok (best := b) (f := false) hz.2.2.1
  have p4 := oneF_ok (best := b) (f := false) hs.2.2.2.1
  have q4 := oneF_ok (best := b) (f := false) hz.2.2.2.1
  have p5 := oneF_ok (best := b) (f := true) hs.2.2.2.2.1
  have m1 := Int.emod_nonneg n (show (9 : Int) ≠ 0 by decide)
  have m2 := Int.emod_nonneg n (show (99 : Int) ≠ 0 by decide)
  have e3 : oneF b false (betF s w n).Rub ≤ oneF b false s.Rub := by
    unfold betF; split
    · exact Int.le_refl _
    · split
      · simp only [one_down]; omega
      · split <;> exact Int.le_refl _
  have e4 : oneF b false (betF s w n).Drag ≤ oneF b false s.Drag := by
    unfold betF; split
    · exact Int.le_refl _
    · split
      · exact Int.le_refl _
      · split
        · simp only [one_down]; omega
        · exact Int.le_refl _
  have e5 : oneF b true s.Weight ≤ oneF b true (betF s w n).Weight := by
    unfold betF; split
    · simp only [one_up]; omega
    · split
      · exact Int.le_refl _
      · split <;> exact Int.le_refl _
  simp only [stepH]
  exact nextH_mono h0 hh (by omega) (Int.le_refl _) (Int.le_refl _) (by omega) e3 (by omega) e4 (by omega) e5
def wideX (w n : Int) (x : StretchV) : StretchV := if w % 2 = 0 then { x with Long := ⟨x.Long.Lo, x.Long.Hi + n⟩ } else { x with Fall := ⟨x.Fall.Lo, x.Fall.Hi + n⟩ }
def wideT (ts : List StretchV) (w n : Int) : List StretchV := ts.modify (w % (ts.length : Int)).toNat (wideX w n)
@[simp] theorem wideT_length {ts : List StretchV} {w n : Int} : (wideT ts w n).length = ts.length := by simp [wideT]
theorem wideT_set {ts : List StretchV} {w n : Int} {x v : StretchV} (hx : ts[(w % (ts.length : Int)).toNat]? = some x) (hv : v = wideX w n x) : ts.set (w % (ts.length : Int)).toNat v = wideT ts w n := by
  subst hv
  unfold wideT
  refine List.ext_getElem? fun j => ?_
  rw [List.getElem?_set, List.getElem?_modify, Option.map_eq_map]
  have hi := (List.getElem?_eq_some_iff.1 hx).1
  split
  · rename_i e; subst e
    rw [hx]; rfl
  · cases ts[j]? <;> rfl
theorem wideT_side {ts : List StretchV} {w n : Int} (h : ∀ x ∈ ts, 0 ≤ x.Side ∧ x.Side ≤ 255) : ∀ x ∈ wideT ts w n, 0 ≤ x.Side ∧ x.Side ≤ 255 := fun x hx => by
  obtain ⟨i, hi⟩ := List.getElem?_of_mem hx
  unfold wideT at hi
  rw [List.getElem?_modify, Option.map_eq_map] at hi
  cases hy : ts[i]? with
  | none => rw [hy] at hi; cases hi
  | some y =>
    rw [hy, Option.map_some] at hi
    have := h y (List.mem_of_getElem? hy)
    have e := Option.some.inj hi
    rw [← e]
    split
    · unfold wideX; split <;> exact this
    · exact this
theorem wide_in {ts : List StretchV} {w n : Int} (hn : 0 ≤ n) : TrackIn ts (wideT ts w n) := by
  refine ⟨wideT_length, fun i x y hx hy => ?_⟩
  unfold wideT at hy
  rw [List.getElem?_modify, Option.map_eq_map, hx, Option.map_some] at hy
  have e := Option.some.inj hy
  rw [← e]
  split
  · unfold wideX
    split
    · exact ⟨⟨Int.le_refl _, by simp only; omega⟩, .refl _, .refl _, rfl⟩
    · exact ⟨.refl _, ⟨Int.le_refl _, by simp only; omega⟩, .refl _, rfl⟩
  · exact .refl _
end Go.Proofs.Ytpbgdeojcefnmaa
