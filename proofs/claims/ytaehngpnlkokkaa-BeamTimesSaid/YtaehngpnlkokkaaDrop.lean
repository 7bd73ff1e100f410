/-
  Plain functions: spans added; how long a run is between two marks, and by how much it falls.
-/
import Derived.Test.YtaehngpnlkokkaaTrk
import Derived.Test.YtaehngpnlkokkaaMisc
namespace Go.Proofs.Ytaehngpnlkokkaa
set_option linter.unusedVariables false
def addZ (a b : SpanV) : SpanV := ⟨a.Lo + b.Lo, a.Hi + b.Hi⟩
def zeroZ : SpanV := ⟨0, 0⟩
def plusF (a : SpanV) (l : List SpanV) : SpanV := l.foldl addZ a
def In12 (z : SpanV) : Prop := (-1000000000 ≤ z.Lo ∧ z.Lo ≤ 1000000000) ∧ -1000000000 ≤ z.Hi ∧ z.Hi ≤ 1000000000
theorem plus_take {a : SpanV} {l : List SpanV} {i : Nat} {z : SpanV} (h : l[i]? = some z) : plusF a (l.take (i + 1)) = addZ (plusF a (l.take i)) z := by
  rw [List.take_add_one, h]; unfold plusF; simp
theorem plus_b {a : SpanV} {l : List SpanV} (ha : In12 a) (hl : ∀ z ∈ l, In12 z) : ∀ i : Nat, (-1000000000 - 1000000000 * (i : Int) ≤ (plusF a (l.take i)).Lo ∧ (plusF a (l.take i)).Lo ≤ 1000000000 + 1000000000 * (i : Int)) ∧ -1000000000 - 1000000000 * (i : Int) ≤ (plusF a (l.take i)).Hi ∧ (plusF a (l.take i)).Hi ≤ 1000000000 + 1000000000 * (i : Int) := by
  intro i
  induction i with
  | zero => unfold In12 at ha; simp [plusF]; omega
  | succ i ih =>
    cases h : l[i]? with
    | none => rw [List.take_add_one, h]; simp only [Option.toList_none, List.append_nil]; omega
    | some z =>
      have hz := hl z (List.mem_of_getElem? h)
      unfold In12 at hz
      rw [plus_take h]
      simp only [addZ]
      omega
theorem plus_all {a : SpanV} {l : List SpanV} {i : Nat} (h : l.length ≤ i) : plusF a (l.take i) = plusF a l := by rw [List.take_of_length_le h]
theorem plus_one {a z : SpanV} : Value.agg (SpanV.cells (plusF a [z])).toArray = Value.agg (SpanV.cells (addZ a z)).toArray := rfl
theorem plus_two {a y z : SpanV} : Value.agg (SpanV.cells (plusF a [y, z])).toArray = Value.agg (SpanV.cells (addZ (addZ a y) z)).toArray := rfl
/-- how long the run is from one mark, over so many stretches; by how much it falls -/
def longF (ts : List StretchV) (f : Nat) : Nat → SpanV
  | 0 => zeroZ
  | k + 1 => match ts[f + k]? with
    | some x => addZ (longF ts f k) x.Long
    | none => longF ts f k
def fallF (ts : List StretchV) (f : Nat) : Nat → SpanV
  | 0 => zeroZ
  | k + 1 => match ts[f + k]? with
    | some x => addZ (fallF ts f k) x.Fall
    | none => fallF ts f k
theorem longF_succ {ts : List StretchV} {f k : Nat} {x : StretchV} (h : ts[f + k]? = some x) : longF ts f (k + 1) = addZ (longF ts f k) x.Long := by simp [longF, h]
theorem fallF_succ {ts : List StretchV} {f k : Nat} {x : StretchV} (h : ts[f + k]? = some x) : fallF ts f (k + 1) = addZ (fallF ts f k) x.Fall := by simp [fallF, h]
theorem longF_b {ts : List StretchV} (ht : ∀ x ∈ ts, StretchOk x) (f : Nat) : ∀ k : Nat, (0 ≤ (longF ts f k).Lo ∧ (longF ts f k).Lo ≤ (longF ts f k).Hi) ∧ (longF ts f k).Hi ≤ 30000 * (k : Int) := by
  intro k
  induction k with
  | zero => simp [longF, zeroZ]
  | succ k ih =>
    simp only [longF]
    cases h : ts[f + k]? with
    | none => simp only; omega
    | some x =>
      have hx := (ht x (List.mem_of_getElem? h)).2.1
      simp only [SpanOk] at hx
      simp only [addZ]
      omega
theorem longF_pos {ts : List StretchV} (ht : ∀ x ∈ ts, StretchOk x) (f : Nat) : ∀ k : Nat, f + k ≤ ts.length → (k : Int) ≤ (longF ts f k).Lo := by
  intro k
  induction k with
  | zero => intro _; simp [longF, zeroZ]
  | succ k ih =>
    intro hk
    have h : ts[f + k]? = some (ts[f + k]'(by omega)) := List.getElem?_eq_getElem (by omega)
    have hx := (ht _ (List.mem_of_getElem? h)).2.1
    simp only [SpanOk] at hx
    rw [longF_succ h]
    have := ih (by omega)
    simp only [addZ]; omega
theorem fallF_b {ts : List StretchV} (ht : ∀ x ∈ ts, StretchOk x) (f : Nat) : ∀ k : Nat, (0 ≤ (fallF ts f k).Lo ∧ (fallF ts f k).Lo ≤ (fallF ts f k).Hi) ∧ (fallF ts f k).Hi ≤ 5000 * (k : Int) := by
  intro k
  induction k with
  | zero => simp [fallF, zeroZ]
  | succ k ih =>
    simp only [fallF]
    cases h : ts[f + k]? with
    | none => simp only; omega
    | some x =>
      have hx := (ht x (List.mem_of_getElem? h)).2.2.1
      simp only [SpanOk] at hx
      simp only [addZ]
      omega
theorem longF_in {ts : List StretchV} (ht : ∀ x ∈ ts, StretchOk x) {f k : Nat} (hk : k ≤ 13) : In12 (longF ts f k) := by
  have := longF_b ht f k; unfold In12; omega
theorem fallF_in {ts : List StretchV} (ht : ∀ x ∈ ts, StretchOk x) {f k : Nat} (hk : k ≤ 13) : In12 (fallF ts f k) := by
  have := fallF_b ht f k; unfold In12; omega
theorem long_in12 {x : StretchV} (h : StretchOk x) : In12 x.Long := by have := h.2.1; simp only [SpanOk] at this; unfold In12; omega
theorem fall_in12 {x : StretchV} (h : StretchOk x) : In12 x.Fall := by have := h.2.2.1; simp only [SpanOk] at this; unfold In12; omega
theorem longF_one {ts : List StretchV} {f : Nat} {x : StretchV} (h : ts[f]? = some x) : longF ts f 1 = x.Long := by
  have : ts[f + 0]? = some x := by simpa using h
  rw [longF_succ this]; simp [longF, addZ, zeroZ]
theorem tr_no {ts : List StretchV} (h : ¬ (if trackOk ts = true then (0 : Int) else 10) = 0) : trackOk ts = false ∧ (if trackOk ts = true then (0 : Int) else 10) = 10 := by
  cases ht : trackOk ts with
  | true => rw [ht] at h; exact absurd rfl h
  | false => exact ⟨rfl, rfl⟩
theorem tr_yes {ts : List StretchV} (h : (if trackOk ts = true then (0 : Int) else 10) = 0) : trackOk ts = true := by
  cases ht : trackOk ts with
  | true => rfl
  | false => rw [ht] at h; exact absurd h (by decide)
/-- what the iterator of marks yields -/
def markV (ts : List StretchV) (f : Nat) : List (List Value) := (List.range (ts.length - f + 1)).map fun (k : Nat) => [.agg (longF ts f k).cells.toArray, .agg (fallF ts f k).cells.toArray]
theorem markV_length {ts : List StretchV} {f : Nat} : (markV ts f).length = ts.length - f + 1 := by simp [markV]
theorem markV_get {ts : List StretchV} {f k : Nat} (h : k ≤ ts.length - f) : (markV ts f)[k]? = some [.agg (longF ts f k).cells.toArray, .agg (fallF ts f k).cells.toArray] := by
  simp [markV, List.getElem?_range (show k < ts.length - f + 1 by omega)]
theorem markV_out {ts : List StretchV} {f k : Nat} {x : List Value} (h : (markV ts f)[k]? = some x) : k ≤ ts.length - f ∧ x = [.agg (longF ts f k).cells.toArray, .agg (fallF ts f k).cells.toArray] := by
  have hi : k < ts.length - f + 1 := by
    have := (List.getElem?_eq_some_iff.1 h).1
    simpa [markV] using this
  rw [markV_get (by omega)] at h
  exact ⟨by omega, (Option.some.inj h).symm⟩
theorem markV_lens {ts : List StretchV} {f : Nat} : ∀ x ∈ markV ts f, x.length = 2 := fun x hx => by
  obtain ⟨k, _, rfl⟩ := List.mem_map.1 hx; rfl
def dropE (ts : List StretchV) (f t : Int) : Int := if trackOk ts = true then (if 0 ≤ f ∧ f ≤ t ∧ t ≤ (ts.length : Int) then 0 else 2) else 10
def dropL (ts : List StretchV) (f t : Int) : SpanV := if dropE ts f t = 0 then longF ts f.toNat (t - f).toNat else zeroZ
def dropH (ts : List StretchV) (f t : Int) : SpanV := if dropE ts f t = 0 then fallF ts f.toNat (t - f).toNat else zeroZ
theorem dropE_bad {ts : List StretchV} {f t : Int} (h : trackOk ts = false) : dropE ts f t = 10 ∧ dropL ts f t = zeroZ ∧ dropH ts f t = zeroZ := by
  have e : dropE ts f t = 10 := by unfold dropE; rw [h]; rfl
  exact ⟨e, by unfold dropL; rw [e]; rfl, by unfold dropH; rw [e]; rfl⟩
theorem dropE_out {ts : List StretchV} {f t : Int} (h : trackOk ts = true) (h2 : ¬ (0 ≤ f ∧ f ≤ t ∧ t ≤ (ts.length : Int))) : dropE ts f t = 2 ∧ dropL ts f t = zeroZ ∧ dropH ts f t = zeroZ := by
  have e : dropE ts f t = 2 := by unfold dropE; rw [if_pos h, if_neg h2]
  exact ⟨e, by unfold dropL; rw [e]; rfl, by unfold dropH; rw [e]; rfl⟩
theorem dropE_in {ts : List StretchV} {f t : Int} (h : trackOk ts = true) (h2 : 0 ≤ f ∧ f ≤ t ∧ t ≤ (ts.length : Int)) : dropE ts f t = 0 ∧ dropL ts f t = longF ts f.toNat (t - f).toNat ∧ dropH ts f t = fallF ts f.toNat (t - f).toNat := by
  have e : dropE ts f t = 0 := by unfold dropE; rw [if_pos h, if_pos h2]
  exact ⟨e, if_pos e, if_pos e⟩
end Go.Proofs.Ytaehngpnlkokkaa
