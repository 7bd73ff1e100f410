/-
  Plain functions: walls; sleds for which the run is shut. A call of a function value that turns what it has caught.
-/
import Derived.Test.YtpbgdeojcefnmaaMono
namespace Go.Proofs.Ytpbgdeojcefnmaa
set_option linter.unusedVariables false
/-! ### walls -/
def wallV (s : SledV) (ts : List StretchV) (j : Nat) : Int := if isCurve ts j = true then max 0 (hgt true s ts j) else 0
def wallsL (s : SledV) (ts : List StretchV) : List Int := (List.range ts.length).map (wallV s ts)
/-- the walls when the entries of a list are still to come -/
def wallsP (s : SledV) (ts : List StretchV) (l : List (Int × Int)) : List Int := (List.range ts.length).map fun (j : Nat) => if l.any (fun p => decide (p.1 = (j : Int))) = true then 0 else wallV s ts j
@[simp] theorem wallsP_length {s : SledV} {ts : List StretchV} {l : List (Int × Int)} : (wallsP s ts l).length = ts.length := by simp [wallsP]
theorem wallsL_length {s : SledV} {ts : List StretchV} : (wallsL s ts).length = ts.length := by simp [wallsL]
theorem wallsP_end {s : SledV} {ts : List StretchV} : wallsP s ts [] = wallsL s ts := by simp [wallsP, wallsL]
theorem wallsP_start {s : SledV} {ts : List StretchV} : List.replicate ts.length (0 : Int) = wallsP s ts (hgts true s ts ts.length) := by
  refine List.ext_getElem? fun j => ?_
  unfold wallsP
  rw [List.getElem?_map]
  by_cases h : j < ts.length
  · rw [List.getElem?_replicate, if_pos h, List.getElem?_range h]
    simp only [Option.map_some, Option.some.injEq]
    by_cases hc : isCurve ts j = true
    · rw [if_pos]
      rw [List.any_eq_true]
      refine ⟨((j : Int), hgt true s ts j), ?_, by simp⟩
      unfold hgts
      exact List.mem_map.2 ⟨j, List.mem_filter.2 ⟨by simpa using h, by rw [hc]; simp⟩, rfl⟩
    · have : wallV s ts j = 0 := if_neg hc
      rw [this]; split <;> rfl
  · rw [List.getElem?_eq_none (by simp; omega), List.getElem?_eq_none (by simp; omega)]; rfl
theorem wallsP_step {s : SledV} {ts : List StretchV} {l : List (Int × Int)} {x y : Int} (h : (x, y) ∈ l) (hm : ∀ p ∈ l, p ∈ hgts true s ts ts.length) : (wallsP s ts l).set x.toNat (max 0 y) = wallsP s ts (delK l x) := by
  obtain ⟨h0, h1, hc, hy⟩ := hgts_mem (hm _ h)
  refine List.ext_getElem? fun j => ?_
  rw [List.getElem?_set]
  by_cases e : x.toNat = j
  · subst e
    rw [if_pos rfl, wallsP_length, if_pos (by omega)]
    unfold wallsP
    rw [List.getElem?_map, List.getElem?_range (by omega)]
    simp only [Option.map_some, Option.some.injEq]
    rw [if_neg]
    · unfold wallV; rw [if_pos hc, hy]
    · rw [List.any_eq_true]
      rintro ⟨p, hp, hq⟩
      have := (mem_delK.1 hp).2
      simp only [decide_eq_true_eq] at hq
      omega
  · rw [if_neg e]
    unfold wallsP
    rw [List.getElem?_map, List.getElem?_map]
    by_cases hj : j < ts.length
    · rw [List.getElem?_range hj]
      simp only [Option.map_some, Option.some.injEq]
      have : l.any (fun p => decide (p.1 = (j : Int))) = (delK l x).any (fun p => decide (p.1 = (j : Int))) := by
        rw [Bool.eq_iff_iff, List.any_eq_true, List.any_eq_true]
        constructor
        · rintro ⟨p, hp, hq⟩
          refine ⟨p, mem_delK.2 ⟨hp, fun e2 => ?_⟩, hq⟩
          simp only [decide_eq_true_eq] at hq
          omega
        · rintro ⟨p, hp, hq⟩
          exact ⟨p, (mem_delK.1 hp).1, hq⟩
      rw [this]
    · rw [List.getElem?_eq_none (by simp; omega)]; rfl
theorem wallsL_take {s : SledV} {ts : List StretchV} {i : Nat} (h : i < ts.length) : (wallsL s ts).take (i + 1) = (wallsL s ts).take i ++ [wallV s ts i] := by
  rw [List.take_add_one]
  have : (wallsL s ts)[i]? = some (wallV s ts i) := by unfold wallsL; rw [List.getElem?_map, List.getElem?_range h]; rfl
  rw [this]; rfl
theorem wallsL_yes {s : SledV} {ts : List StretchV} {i : Nat} (h : i < ts.length) (hc : curveB ts (i : Int) = true) : (wallsL s ts).take (i + 1) = (wallsL s ts).take i ++ [max 0 (hgt true s ts (i : Int).toNat)] := by
  rw [wallsL_take h]
  unfold curveB at hc
  simp only [Int.toNat_natCast, Bool.and_eq_true] at hc ⊢
  unfold wallV; rw [if_pos hc.2]
theorem wallsL_not {s : SledV} {ts : List StretchV} {i : Nat} (h : i < ts.length) (hc : curveB ts (i : Int) = false) : (wallsL s ts).take (i + 1) = (wallsL s ts).take i ++ [0] := by
  rw [wallsL_take h]
  unfold curveB at hc
  have h0 : (0 : Int) ≤ (i : Int) := by omega
  simp only [Int.toNat_natCast, decide_eq_true h0, Bool.true_and] at hc
  unfold wallV; rw [hc]; rfl
def wallsU (s : SledV) (ts : List StretchV) : List Int := if bothE s ts = 0 then wallsL s ts else []
theorem wallsU_ok {s : SledV} {ts : List StretchV} (h : trackOk ts = true) (hs : SledOk s) : wallsU s ts = wallsL s ts := if_pos (bothE_ok h hs)
theorem wallsU_no {s : SledV} {ts : List StretchV} (h : ¬ bothE s ts = 0) : wallsU s ts = [] := if_neg h
theorem wallsU_len {s : SledV} {ts : List StretchV} : (wallsU s ts).length ≤ ts.length := by unfold wallsU; split <;> simp [wallsL_length]
theorem start_len {s : SledV} {ts : List StretchV} {h : Int} : decide (0 < ((thr true (fromS s h) ts).length : Int)) = startP s ts h := by
  unfold startP
  rw [Bool.eq_iff_iff]
  simp only [decide_eq_true_eq, Bool.not_eq_true', decide_eq_false_iff_not]
  constructor
  · intro h e; rw [e] at h; simp at h
  · intro h
    have := List.length_pos_iff.2 h
    omega
theorem startN_b {s : SledV} {ts : List StretchV} : 0 ≤ startN s ts ∧ startN s ts ≤ 200001 := firstN_b
theorem start_upto {s : SledV} {ts : List StretchV} (hs : SledOk s) (ht : ∀ x ∈ ts, StretchOk x) {m : Int} (h0 : 0 ≤ m) (h1 : m ≤ 200000) (h : ¬ safeF (fromS s m) ts = 2) : ∀ y, m - 1 < y → y ≤ 200000 → startP s ts y = true := fun y hy _ => by
  refine startP_mono hs ht m y h0 (by omega) ?_
  cases hp : startP s ts m with
  | true => rfl
  | false => exact absurd ((start_safe hs ht h0 h1).2 hp) h
theorem start_zero {s : SledV} {ts : List StretchV} (hs : SledOk s) (ht : ∀ x ∈ ts, StretchOk x) (h : ¬ safeF (fromS s 0) ts = 2) : startN s ts = 0 := startN_zero.2 (start_upto hs ht (Int.le_refl _) (by omega) h 0 (by omega) (by omega))
/-! ### shut -/
def shutE (ts : List StretchV) (l : List SledV) : Int := if trackOk ts = true then (if 6 < l.length then 4 else (if l.all (fun s => decide (SledOk s)) = true then 0 else 30)) else 10
def shutB (ts : List StretchV) (l : List SledV) (j : Nat) : Bool := match l[j]? with
  | some s => !decide (safeF s ts = 2)
  | none => false
def shutL (ts : List StretchV) (l : List SledV) (i : Nat) : List Int := ((List.range i).filter (shutB ts l)).map fun (j : Nat) => (j : Int)
def shutU (ts : List StretchV) (l : List SledV) : List Int := if shutE ts l = 0 then shutL ts l l.length else []
theorem shutU_ok {ts : List StretchV} {l : List SledV} (h : shutE ts l = 0) : shutU ts l = shutL ts l l.length := if_pos h
theorem shutU_no {ts : List StretchV} {l : List SledV} (h : ¬ shutE ts l = 0) : shutU ts l = [] := if_neg h
theorem shutL_len {ts : List StretchV} {l : List SledV} {i : Nat} : (shutL ts l i).length ≤ i := by
  unfold shutL
  rw [List.length_map]
  exact Nat.le_trans (List.length_filter_le _ _) (by simp)
theorem shutU_len {ts : List StretchV} {l : List SledV} : (shutU ts l).length ≤ l.length := by
  unfold shutU; split
  · exact shutL_len
  · simp
theorem shutL_yes {ts : List StretchV} {l : List SledV} {i : Nat} {s : SledV} (hs : l[i]? = some s) (h : ¬ safeF s ts = 2) : shutL ts l (i + 1) = shutL ts l i ++ [(i : Int)] := by
  have : shutB ts l i = true := by unfold shutB; rw [hs]; simp [h]
  unfold shutL
  rw [List.range_succ, List.filter_append, List.map_append]; simp [this]
theorem shutL_not {ts : List StretchV} {l : List SledV} {i : Nat} {s : SledV} (hs : l[i]? = some s) (h : safeF s ts = 2) : shutL ts l (i + 1) = shutL ts l i := by
  have : shutB ts l i = false := by unfold shutB; rw [hs]; simp [h]
  unfold shutL
  rw [List.range_succ, List.filter_append, List.map_append]; simp [this]
theorem shutE_track {ts : List StretchV} {l : List SledV} (h : trackOk ts = false) : shutE ts l = 10 := by unfold shutE; rw [h]; rfl
theorem shutE_many {ts : List StretchV} {l : List SledV} (h : trackOk ts = true) (hl : 6 < (l.length : Int)) : shutE ts l = 4 := by unfold shutE; rw [if_pos h, if_pos (by omega)]
theorem shutE_sled {ts : List StretchV} {l : List SledV} {i : Nat} {s : SledV} (h : trackOk ts = true) (hl : ¬ 6 < (l.length : Int)) (hs : l[i]? = some s) (hb : ¬ SledOk s) : shutE ts l = 30 := by
  unfold shutE
  rw [if_pos h, if_neg (by omega), if_neg]
  intro e
  have := List.all_eq_true.1 e s (List.mem_of_getElem? hs)
  exact hb (of_decide_eq_true this)
theorem shutE_ok {ts : List StretchV} {l : List SledV} (h : trackOk ts = true) (hl : ¬ 6 < (l.length : Int)) (ha : l.all (fun s => decide (SledOk s)) = true) : shutE ts l = 0 := by unfold shutE; rw [if_pos h, if_neg (by omega), if_pos ha]
theorem shutE_zero {ts : List StretchV} {l : List SledV} (h : shutE ts l = 0) : trackOk ts = true ∧ l.length ≤ 6 ∧ ∀ s ∈ l, SledOk s := by
  unfold shutE at h
  split at h
  · split at h
    · omega
    · split at h
      · rename_i h1 h2 h3
        exact ⟨h1, by omega, fun s hs => of_decide_eq_true (List.all_eq_true.1 h3 s hs)⟩
      · omega
  · omega
theorem shut_a {ts : List StretchV} (h : ¬ (if trackOk ts = true then (0 : Int) else 10) = 0) : trackOk ts = false ∧ (if trackOk ts = true then (0 : Int) else 10) = 10 := by
  cases ht : trackOk ts with
  | true => rw [ht] at h; exact absurd rfl h
  | false => exact ⟨rfl, rfl⟩
theorem shut_tr {ts : List StretchV} (h : (if trackOk ts = true then (0 : Int) else 10) = 0) : trackOk ts = true := by
  cases ht : trackOk ts with
  | true => rfl
  | false => rw [ht] at h; exact absurd h (by decide)
theorem shut_all {l : List SledV} {i : Nat} (hi : l.length ≤ i) (h : (l.take i).all (fun s => decide (SledOk s)) = true) : ∀ s ∈ l, SledOk s := fun s hs => by
  rw [List.take_of_length_le hi] at h
  exact of_decide_eq_true (List.all_eq_true.1 h s hs)
end Go.Proofs.Ytpbgdeojcefnmaa
namespace Go.Proofs.Ytpbgdeojcefnmaa
open Go.RowKit
set_option linter.unusedVariables false
/-- a call that hands back v and turns what satisfies J into what does -/
structure FnJ (P : Program) (f : FuncId) (args : List Value) (Cp : List Assn) (J : Assn → Prop) (v : Value) : Prop where
  go : isGo P f = true
  run : ∀ w B, J B → B.holds w → (∀ X ∈ Cp, X.holds w) → (∀ X ∈ Cp, Sep B X.ro) → Calls P f args.toArray w fun e w' => e = .returned v ∧ ∃ B', J B' ∧ Mv B B' w w'
def CloJ (P : Program) (fv : Value) (args : List Value) (Cp : List Assn) (J : Assn → Prop) (v : Value) : Prop :=
  ∃ f fi ca, fv = .func (.func f) fi ca ∧ FnJ P f (fi.toList ++ args ++ ca.toList) Cp J v
section
variable {E : Env} {ops : Array Oper} {Q : Post} {rest : List Oper} {D : List Deferred} {L : List (Nat × Value)} {C : List Assn}
variable {d : Nat} {ty : TypeId} {ps : String} {af : Array Edge} {g : Option (Nat × Bool)}
theorem r_cloj {fop : Operand} {xs : Array Operand} {ts : Array TypeId} {fv : Value} {vs : List Value} {Cp : List Assn} {J : Assn → Prop} {B : Assn} {v : Value} (i : Nat) (hg : gOn ops L g = true) (hf : ev L fop = some fv) (hx : evs L xs.toList = some vs) (c : CloJ E.P fv vs Cp J v)
    (hJ : J B) (hC : C[i]? = some B) (hCp : CovAll C i Cp) (hd : Nat.blt d E.n = true) (k : ∀ B', J B' → RJ E ops Q rest D ((d, v) :: L) (C.set i B')) :
    RJ E ops Q (⟨some d, .call { callee := .value fop, args := xs, argTypes := ts }, ty, ps, af, g⟩ :: rest) D L C := by
  obtain ⟨f, fi, ca, rfl, hF⟩ := c
  refine r_callm (α := Assn) (V := fun _ => v) (p := J) (A' := fun B' => B') i hg hf hx rfl ?_ hC hCp hd (fun B' hB' => k B' hB')
  exact ⟨hF.go, fun w hB hCp' hsep => (hF.run w B hJ hB hCp' hsep).mono fun e w' ⟨he, B', hJ', hm⟩ => ⟨B', he, hJ', hm⟩⟩
end
end Go.Proofs.Ytpbgdeojcefnmaa
