/-
  Plain functions: curves that throw a sled.
-/
import Derived.Test.YtpbgdeojcefnmaaPlain
import Derived.Test.YtpbgdeojcefnmaaSort
namespace Go.Proofs.Ytpbgdeojcefnmaa
set_option linter.unusedVariables false
def wallAt (ts : List StretchV) (j : Nat) : Int := match ts[j]? with
  | some x => x.Wall
  | none => 0
theorem wallAt_at {ts : List StretchV} {j : Nat} {x : StretchV} (h : ts[j]? = some x) : wallAt ts j = x.Wall := by unfold wallAt; rw [h]
def thrB (best : Bool) (s : SledV) (ts : List StretchV) (j : Nat) : Bool := isCurve ts j && decide (wallAt ts j < hgt best s ts j)
/-- the curves that throw a sled -/
def thr (best : Bool) (s : SledV) (ts : List StretchV) : List Int := ((List.range ts.length).filter (thrB best s ts)).map fun (j : Nat) => (j : Int)
def thrP (ts : List StretchV) (p : Int × Int) : Bool := decide (wallAt ts p.1.toNat < p.2)
theorem thr_start {best : Bool} {s : SledV} {ts : List StretchV} : ((hgts best s ts ts.length).filter (thrP ts)).map (·.1) = thr best s ts := by
  unfold hgts thr
  rw [List.filter_map, List.map_map, List.filter_filter]
  have : (List.range ts.length).filter (fun a => (thrP ts ∘ fun (j : Nat) => ((j : Int), hgt best s ts j)) a && (decide (ts.length ≤ a) || isCurve ts a)) = (List.range ts.length).filter (thrB best s ts) := by
    refine List.filter_congr fun j hj => ?_
    have hl : j < ts.length := by simpa using hj
    have : ¬ ts.length ≤ j := by omega
    simp only [Function.comp, thrP, thrB, Int.toNat_natCast, decide_eq_false this, Bool.false_or]
    rw [Bool.and_comm]
  rw [this]
  rfl
theorem hgts_mem {best : Bool} {s : SledV} {ts : List StretchV} {x y : Int} (h : (x, y) ∈ hgts best s ts ts.length) : 0 ≤ x ∧ x < ts.length ∧ isCurve ts x.toNat = true ∧ y = hgt best s ts x.toNat := by
  unfold hgts at h
  obtain ⟨j, hj, he⟩ := List.mem_map.1 h
  simp only [Prod.mk.injEq] at he
  obtain ⟨rfl, rfl⟩ := he
  rw [List.mem_filter] at hj
  have hl : j < ts.length := by simpa using hj.1
  have h1 : ¬ ts.length ≤ j := by omega
  have := hj.2
  simp only [decide_eq_false h1, Bool.false_or] at this
  exact ⟨by omega, by omega, by simpa using this, by simp⟩
theorem perm_delK {β : Type} {x : Int} {y : β} : ∀ {l : List (Int × β)}, (x, y) ∈ l → (l.map (·.1)).Nodup → l.Perm ((x, y) :: delK l x)
  | [], h, _ => by cases h
  | p :: l, h, hn => by
    simp only [List.map_cons, List.nodup_cons] at hn
    rcases List.mem_cons.1 h with rfl | h
    · have : delK ((x, y) :: l) x = l := by
        unfold delK
        rw [List.filter_cons_of_neg (by simp)]
        refine List.filter_eq_self.2 fun q hq => ?_
        have : q.1 ≠ x := fun e => hn.1 (List.mem_map.2 ⟨q, hq, e⟩)
        simpa using this
      rw [this]
    · have hne : p.1 ≠ x := fun e => hn.1 (List.mem_map.2 ⟨_, h, e.symm⟩)
      have : delK (p :: l) x = p :: delK l x := by unfold delK; rw [List.filter_cons_of_pos (by simpa using hne)]
      rw [this]
      exact ((perm_delK h hn.2).cons p).trans (List.Perm.swap _ _ _)
theorem thr_yes {ts : List StretchV} {acc T : List Int} {left : List (Int × Int)} {x y : Int} (h : (acc ++ (left.filter (thrP ts)).map (·.1)).Perm T) (hm : (x, y) ∈ left) (hn : (left.map (·.1)).Nodup) (ht : wallAt ts x.toNat < y) :
    ((acc ++ [x]) ++ ((delK left x).filter (thrP ts)).map (·.1)).Perm T := by
  refine List.Perm.trans ?_ h
  rw [List.append_assoc]
  refine List.Perm.append_left acc ?_
  have := ((perm_delK hm hn).filter (thrP ts)).map (·.1)
  rw [List.filter_cons_of_pos (by simpa [thrP] using ht)] at this
  exact this.symm
theorem thr_not {ts : List StretchV} {acc T : List Int} {left : List (Int × Int)} {x y : Int} (h : (acc ++ (left.filter (thrP ts)).map (·.1)).Perm T) (hm : (x, y) ∈ left) (hn : (left.map (·.1)).Nodup) (ht : ¬ wallAt ts x.toNat < y) :
    (acc ++ ((delK left x).filter (thrP ts)).map (·.1)).Perm T := by
  refine List.Perm.trans ?_ h
  refine List.Perm.append_left acc ?_
  have := ((perm_delK hm hn).filter (thrP ts)).map (·.1)
  rw [List.filter_cons_of_neg (by simpa [thrP] using ht)] at this
  exact this.symm
theorem thr_le {best : Bool} {s : SledV} {ts : List StretchV} : (thr best s ts).length ≤ ts.length := by
  unfold thr
  rw [List.length_map]
  exact Nat.le_trans (List.length_filter_le _ _) (by simp)
theorem thr_room {best : Bool} {s : SledV} {ts : List StretchV} {acc r : List Int} (h : (acc ++ r).Perm (thr best s ts)) : acc.length ≤ ts.length := by
  have h1 := h.length_eq
  have h2 := thr_le (best := best) (s := s) (ts := ts)
  rw [List.length_append] at h1
  omega
theorem thr_sorted {best : Bool} {s : SledV} {ts : List StretchV} : (thr best s ts).Pairwise (· ≤ ·) := by
  unfold thr
  rw [List.pairwise_map]
  refine (List.pairwise_lt_range.filter _).imp fun h => ?_
  omega
theorem thrB_yes {best : Bool} {s : SledV} {ts : List StretchV} {i : Nat} {x : StretchV} (hx : ts[i]? = some x) (hc : curveB ts (i : Int) = true) (h : x.Wall < hgt best s ts (i : Int).toNat) : thrB best s ts i = true := by
  unfold curveB at hc
  simp only [Int.toNat_natCast, Bool.and_eq_true] at hc h
  unfold thrB; rw [hc.2, wallAt_at hx, decide_eq_true h]; rfl
theorem thrB_no {best : Bool} {s : SledV} {ts : List StretchV} {i : Nat} {x : StretchV} (hx : ts[i]? = some x) (h : ¬ x.Wall < hgt best s ts (i : Int).toNat) : thrB best s ts i = false := by
  simp only [Int.toNat_natCast] at h
  unfold thrB; rw [wallAt_at hx, decide_eq_false h, Bool.and_false]
theorem thrB_straight {best : Bool} {s : SledV} {ts : List StretchV} {i : Nat} (hc : curveB ts (i : Int) = false) : thrB best s ts i = false := by
  unfold curveB at hc
  have h0 : (0 : Int) ≤ (i : Int) := by omega
  simp only [Int.toNat_natCast, decide_eq_true h0, Bool.true_and] at hc
  unfold thrB; rw [hc]; rfl
def noThr (best : Bool) (s : SledV) (ts : List StretchV) (i : Nat) : Prop := ∀ j, j < i → thrB best s ts j = false
theorem noThr_zero {best : Bool} {s : SledV} {ts : List StretchV} : noThr best s ts 0 := fun j h => by omega
theorem noThr_succ {best : Bool} {s : SledV} {ts : List StretchV} {i : Nat} (h : noThr best s ts i) (hi : thrB best s ts i = false) : noThr best s ts (i + 1) := fun j hj => by
  rcases Nat.lt_or_ge j i with h1 | h1
  · exact h j h1
  · have : j = i := by omega
    rw [this]; exact hi
theorem thr_nil {best : Bool} {s : SledV} {ts : List StretchV} : thr best s ts = [] ↔ noThr best s ts ts.length := by
  unfold thr noThr
  rw [List.map_eq_nil_iff, List.filter_eq_nil_iff]
  constructor
  · intro h j hj
    have := h j (by simpa using hj)
    simpa using this
  · intro h j hj
    rw [h j (by simpa using hj)]; simp
theorem thr_some {best : Bool} {s : SledV} {ts : List StretchV} {i : Nat} (hi : i < ts.length) (h : thrB best s ts i = true) : ¬ thr best s ts = [] := fun e => by
  have := thr_nil.1 e i hi
  rw [h] at this; cases this
/-- how safe a sled is -/
def safeF (s : SledV) (ts : List StretchV) : Int := if thr false s ts = [] then (if thr true s ts = [] then 2 else 1) else 0
theorem safeF_zero {s : SledV} {ts : List StretchV} (h : ¬ thr false s ts = []) : safeF s ts = 0 := if_neg h
theorem safeF_one {s : SledV} {ts : List StretchV} (h : thr false s ts = []) (h' : ¬ thr true s ts = []) : safeF s ts = 1 := by unfold safeF; rw [if_pos h, if_neg h']
theorem safeF_two {s : SledV} {ts : List StretchV} (h : thr false s ts = []) (h' : thr true s ts = []) : safeF s ts = 2 := by unfold safeF; rw [if_pos h, if_pos h']
theorem safeF_b {s : SledV} {ts : List StretchV} : 0 ≤ safeF s ts ∧ safeF s ts ≤ 2 := by unfold safeF; split <;> (try split) <;> omega
def outAt (s : SledV) (ts : List StretchV) (i : Nat) : Int := if (List.range i).any (thrB true s ts) = true then 1 else 2
theorem outAt_zero {s : SledV} {ts : List StretchV} : outAt s ts 0 = 2 := rfl
theorem outAt_yes {s : SledV} {ts : List StretchV} {i : Nat} (h : thrB true s ts i = true) : outAt s ts (i + 1) = 1 := by
  unfold outAt; rw [List.range_succ]; simp [h]
theorem outAt_no {s : SledV} {ts : List StretchV} {i : Nat} (h : thrB true s ts i = false) : outAt s ts (i + 1) = outAt s ts i := by
  unfold outAt; rw [List.range_succ]; simp [h]
theorem outAt_end {s : SledV} {ts : List StretchV} {i : Nat} (hi : i = ts.length) (h : noThr false s ts i) : outAt s ts i = safeF s ts := by
  subst hi
  have h1 := thr_nil.2 h
  by_cases h2 : thr true s ts = []
  · rw [safeF_two h1 h2]
    unfold outAt
    rw [if_neg]
    rw [List.any_eq_true]
    rintro ⟨j, hj, hb⟩
    rw [thr_nil.1 h2 j (by simpa using hj)] at hb; cases hb
  · rw [safeF_one h1 h2]
    unfold outAt
    rw [if_pos]
    rw [List.any_eq_true]
    by_cases h3 : ∃ j, j < ts.length ∧ thrB true s ts j = true
    · obtain ⟨j, hj, hb⟩ := h3; exact ⟨j, by simpa using hj, hb⟩
    · exact absurd (thr_nil.2 fun j hj => by
        cases hb : thrB true s ts j with
        | false => rfl
        | true => exact absurd ⟨j, hj, hb⟩ h3) h2
def safeV (s : SledV) (ts : List StretchV) : Int := if bothE s ts = 0 then safeF s ts else 0
theorem safeV_no {s : SledV} {ts : List StretchV} (h : ¬ bothE s ts = 0) : safeV s ts = 0 := if_neg h
theorem safeV_ok {s : SledV} {ts : List StretchV} (h : bothE s ts = 0) : safeV s ts = safeF s ts := if_pos h
theorem len_ne {l : List Int} (h : 0 < (l.length : Int)) : ¬ l = [] := fun e => by rw [e] at h; simp at h
theorem len_eq {l : List Int} (h : ¬ 0 < (l.length : Int)) : l = [] := List.eq_nil_of_length_eq_zero (by omega)
end Go.Proofs.Ytpbgdeojcefnmaa
