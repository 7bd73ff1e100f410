/-
  Plain functions: where spots are, and how far they are apart.
-/
import Derived.Test.YtaehngpnlkokkaaDrop
namespace Go.Proofs.Ytaehngpnlkokkaa
set_option linter.unusedVariables false
def SpotOk (ts : List StretchV) (s : SpotV) : Prop := (0 ≤ s.Stretch ∧ s.Stretch < (ts.length : Int)) ∧ ∃ x, ts[s.Stretch.toNat]? = some x ∧ SpanOk s.Off 0 (x.Long.Lo - 1)
noncomputable instance (ts : List StretchV) (s : SpotV) : Decidable (SpotOk ts s) := Classical.propDecidable _
theorem spot_yes {ts : List StretchV} {s : SpotV} {x : StretchV} (h : 0 ≤ s.Stretch ∧ s.Stretch < (ts.length : Int)) (hx : ts[s.Stretch.toNat]? = some x) : SpotOk ts s ↔ SpanOk s.Off 0 (x.Long.Lo - 1) :=
  ⟨fun h2 => by obtain ⟨y, hy, h3⟩ := h2.2; rw [hx] at hy; cases hy; exact h3, fun h2 => ⟨h, x, hx, h2⟩⟩
theorem spot_out {ts : List StretchV} {s : SpotV} (h : ¬ (0 ≤ s.Stretch ∧ s.Stretch < (ts.length : Int))) : ¬ SpotOk ts s := fun h2 => h h2.1
theorem spot_get {ts : List StretchV} {s : SpotV} (h : SpotOk ts s) : ∃ x, ts[s.Stretch.toNat]? = some x ∧ SpanOk s.Off 0 (x.Long.Lo - 1) := h.2
theorem spot_b {ts : List StretchV} {s : SpotV} (ht : ∀ x ∈ ts, StretchOk x) (h : SpotOk ts s) : (0 ≤ s.Off.Lo ∧ s.Off.Lo ≤ s.Off.Hi) ∧ s.Off.Hi ≤ 30000 := by
  obtain ⟨x, hx, h2⟩ := h.2
  have := (ht x (List.mem_of_getElem? hx)).2.1
  simp only [SpanOk] at h2 this
  omega
theorem stands_one {ts : List StretchV} {a : SpotV} : Value.bool (decide (∀ s ∈ [a], SpotOk ts s)) = Value.bool (decide (SpotOk ts a)) := congrArg _ (decide_eq_decide.2 (by simp))
theorem stands_two {ts : List StretchV} {a b : SpotV} : Value.bool (decide (∀ s ∈ [a, b], SpotOk ts s)) = Value.bool (decide (SpotOk ts a ∧ SpotOk ts b)) := congrArg _ (decide_eq_decide.2 (by simp))
def lessZ (z : SpanV) : SpanV := ⟨-z.Hi, -z.Lo⟩
def atF (ts : List StretchV) (s : SpotV) : SpanV := addZ (longF ts 0 s.Stretch.toNat) s.Off
noncomputable def atE (ts : List StretchV) (s : SpotV) : Int := if trackOk ts = true then (if SpotOk ts s then 0 else 12) else 10
noncomputable def atV (ts : List StretchV) (s : SpotV) : SpanV := if atE ts s = 0 then atF ts s else zeroZ
theorem at_bad {ts : List StretchV} {s : SpotV} (h : trackOk ts = false) : atE ts s = 10 ∧ atV ts s = zeroZ := by
  have e : atE ts s = 10 := by unfold atE; rw [h]; rfl
  exact ⟨e, by unfold atV; rw [e]; rfl⟩
theorem at_out {ts : List StretchV} {s : SpotV} (h : trackOk ts = true) (h2 : ¬ SpotOk ts s) : atE ts s = 12 ∧ atV ts s = zeroZ := by
  have e : atE ts s = 12 := by unfold atE; rw [if_pos h, if_neg h2]
  exact ⟨e, by unfold atV; rw [e]; rfl⟩
theorem at_in {ts : List StretchV} {s : SpotV} (h : trackOk ts = true) (h2 : SpotOk ts s) : atE ts s = 0 ∧ atV ts s = atF ts s := by
  have e : atE ts s = 0 := by unfold atE; rw [if_pos h, if_pos h2]
  exact ⟨e, if_pos e⟩
theorem at_zero {ts : List StretchV} {s : SpotV} (h : trackOk ts = true) : atE ts s = 0 ↔ SpotOk ts s := by
  unfold atE; rw [if_pos h]; split <;> simp [*]
def wayB (ts : List StretchV) (a b : SpotV) : SpanV := longF ts (min a.Stretch b.Stretch).toNat (max a.Stretch b.Stretch - min a.Stretch b.Stretch).toNat
def apartF (ts : List StretchV) (a b : SpotV) : SpanV := addZ (addZ (if b.Stretch < a.Stretch then lessZ (wayB ts a b) else wayB ts a b) b.Off) (lessZ a.Off)
noncomputable def apartE (ts : List StretchV) (a b : SpotV) : Int := if trackOk ts = true then (if SpotOk ts a ∧ SpotOk ts b then 0 else 12) else 10
noncomputable def apartV (ts : List StretchV) (a b : SpotV) : SpanV := if apartE ts a b = 0 then apartF ts a b else zeroZ
theorem apart_bad {ts : List StretchV} {a b : SpotV} (h : trackOk ts = false) : apartE ts a b = 10 ∧ apartV ts a b = zeroZ := by
  have e : apartE ts a b = 10 := by unfold apartE; rw [h]; rfl
  exact ⟨e, by unfold apartV; rw [e]; rfl⟩
theorem apart_out {ts : List StretchV} {a b : SpotV} (h : trackOk ts = true) (h2 : ¬ (SpotOk ts a ∧ SpotOk ts b)) : apartE ts a b = 12 ∧ apartV ts a b = zeroZ := by
  have e : apartE ts a b = 12 := by unfold apartE; rw [if_pos h, if_neg h2]
  exact ⟨e, by unfold apartV; rw [e]; rfl⟩
theorem apart_in {ts : List StretchV} {a b : SpotV} (h : trackOk ts = true) (h2 : SpotOk ts a ∧ SpotOk ts b) : apartE ts a b = 0 ∧ apartV ts a b = apartF ts a b := by
  have e : apartE ts a b = 0 := by unfold apartE; rw [if_pos h, if_pos h2]
  exact ⟨e, if_pos e⟩
theorem less_in {z : SpanV} (h : In12 z) : In12 (lessZ z) := by unfold In12 lessZ at *; simp only; omega
theorem off_in {ts : List StretchV} {s : SpotV} (ht : ∀ x ∈ ts, StretchOk x) (h : SpotOk ts s) : In12 s.Off := by have := spot_b ht h; unfold In12; omega
theorem wayB_b {ts : List StretchV} {a b : SpotV} (ht : ∀ x ∈ ts, StretchOk x) (hl : ts.length ≤ 12) (ha : SpotOk ts a) (hb : SpotOk ts b) : (0 ≤ (wayB ts a b).Lo ∧ (wayB ts a b).Lo ≤ (wayB ts a b).Hi) ∧ (wayB ts a b).Hi ≤ 360000 := by
  have h := longF_b ht (min a.Stretch b.Stretch).toNat (max a.Stretch b.Stretch - min a.Stretch b.Stretch).toNat
  have h1 := ha.1
  have h2 := hb.1
  unfold wayB
  omega
theorem apartF_b {ts : List StretchV} {a b : SpotV} (ht : ∀ x ∈ ts, StretchOk x) (hl : ts.length ≤ 12) (ha : SpotOk ts a) (hb : SpotOk ts b) : (-400000 ≤ (apartF ts a b).Lo ∧ (apartF ts a b).Lo ≤ (apartF ts a b).Hi) ∧ (apartF ts a b).Hi ≤ 400000 := by
  have h := wayB_b ht hl ha hb
  have h1 := spot_b ht ha
  have h2 := spot_b ht hb
  unfold apartF addZ lessZ
  split <;> simp only <;> omega
theorem atF_b {ts : List StretchV} {s : SpotV} (ht : ∀ x ∈ ts, StretchOk x) (hl : ts.length ≤ 12) (h : SpotOk ts s) : (0 ≤ (atF ts s).Lo ∧ (atF ts s).Lo ≤ (atF ts s).Hi) ∧ (atF ts s).Hi ≤ 400000 := by
  have h1 := longF_b ht 0 s.Stretch.toNat
  have h2 := spot_b ht h
  have h3 := h.1
  unfold atF addZ
  simp only; omega
theorem pick_none {α : Type} {p : Nat → α → Bool} {l : List α} : ((l.zipIdx.filter fun q => p q.2 q.1).map fun q => (q.2 : Int)) = [] ↔ ∀ (i : Nat) x, l[i]? = some x → p i x = false := by
  rw [List.map_eq_nil_iff, List.filter_eq_nil_iff]
  constructor
  · intro h i x hx
    have := h (x, i) (by rw [List.mem_zipIdx_iff_getElem?]; simpa using hx)
    simpa using this
  · rintro h ⟨x, i⟩ hm
    rw [List.mem_zipIdx_iff_getElem?] at hm
    simpa using h i x (by simpa using hm)
/-- the places of a list at which something is so -/
def pckL {α : Type} (p : Nat → α → Bool) (l : List α) (n : Nat) : List Int := (((l.take n).zipIdx.filter fun q => p q.2 q.1).map fun q => (q.2 : Int))
theorem pckL_yes {α : Type} {p : Nat → α → Bool} {l : List α} {i : Nat} {x : α} (hx : l[i]? = some x) (h : p i x = true) : pckL p l (i + 1) = pckL p l i ++ [(i : Int)] := by
  have hi := (List.getElem?_eq_some_iff.1 hx).1
  unfold pckL
  rw [List.take_add_one, hx, List.zipIdx_append, List.filter_append, List.map_append]
  simp [Nat.min_eq_left (Nat.le_of_lt hi), h]
theorem pckL_no {α : Type} {p : Nat → α → Bool} {l : List α} {i : Nat} {x : α} (hx : l[i]? = some x) (h : p i x = false) : pckL p l (i + 1) = pckL p l i := by
  have hi := (List.getElem?_eq_some_iff.1 hx).1
  unfold pckL
  rw [List.take_add_one, hx, List.zipIdx_append, List.filter_append, List.map_append]
  simp [Nat.min_eq_left (Nat.le_of_lt hi), h]
theorem pckL_len {α : Type} {p : Nat → α → Bool} {l : List α} {n : Nat} : (pckL p l n).length ≤ n := by
  unfold pckL
  rw [List.length_map]
  refine Nat.le_trans (List.length_filter_le _ _) ?_
  rw [List.length_zipIdx, List.length_take]; omega
def pckF {α : Type} (p : Nat → α → Bool) (l : List α) : List Int := pckL p l l.length
theorem pckF_at {α : Type} {p : Nat → α → Bool} {l : List α} {n : Nat} (h : n = l.length) : pckL p l n = pckF p l := by rw [h]; rfl
theorem pckF_none {α : Type} {p : Nat → α → Bool} {l : List α} : (pckF p l).length = 0 ↔ ∀ (i : Nat) x, l[i]? = some x → p i x = false := by
  unfold pckF pckL
  rw [List.length_eq_zero_iff, List.take_length]
  exact pick_none
end Go.Proofs.Ytaehngpnlkokkaa
