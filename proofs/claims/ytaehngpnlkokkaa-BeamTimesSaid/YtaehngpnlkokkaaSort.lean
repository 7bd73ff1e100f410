/-
  Sorting by insertion, said of lists; some rules for the library's numbers.
  No condition: the theorems hold over whatever program.
-/
import Derived.Test.YtaehngpnlkokkaaIt
namespace Go.Proofs.Ytaehngpnlkokkaa
open Go.RowKit
set_option linter.unusedVariables false
theorem wrap_i64_u64 {n : Int} (h : 0 ≤ n ∧ n ≤ 18446744073709551615) : IntKind.u64.wrap n = n := by
  have e : IntKind.u64.wrap n = n % 18446744073709551616 := by simp [IntKind.wrap, IntKind.bits, IntKind.signed]
  rw [e]; omega
theorem wrap_u64_u64 {n : Int} (h : 0 ≤ n ∧ n ≤ 18446744073709551615) : IntKind.u64.wrap n = n := wrap_i64_u64 h
theorem wrap_u64_u8 {n : Int} (h : 0 ≤ n ∧ n ≤ 255) : IntKind.u8.wrap n = n := by
  have e : IntKind.u8.wrap n = n % 256 := by simp [IntKind.wrap, IntKind.bits, IntKind.signed]
  rw [e]; omega
theorem wrap_u64_i64 {n : Int} (h : 0 ≤ n ∧ n ≤ 9223372036854775807) : IntKind.i64.wrap n = n := wrap_in ⟨by omega, h.2⟩
section
variable {E : Env} {ops : Array Oper} {Q : Post} {rest : List Oper} {D : List Deferred} {L : List (Nat × Value)} {C : List Assn}
variable {d : Nat} {ty : TypeId} {ps : String} {af : Array Edge} {g : Option (Nat × Bool)}
/-- a byte of a string -/
theorem r_sidx {t : TypeId} {x ix : Operand} {s : ByteArray} {q : IntKind} {j : Int} {k : Nat} (hg : gOn ops L g = true) (hx : ev L x = some (.string s)) (hi : ev L ix = some (.int q j)) (ht : E.P.underlying t = some .string) (hj : j = (k : Int)) (hk : k < s.size) (hd : Nat.blt d E.n = true)
    (kk : ∀ b : Int, 0 ≤ b ∧ b ≤ 255 → RJ E ops Q rest D ((d, .int .u8 b) :: L) C) : RJ E ops Q (⟨some d, .index t x ix, ty, ps, af, g⟩ :: rest) D L C := by
  subst hj
  intro a w hfr hs
  have hd' : d < E.n := by rw [← Nat.blt_eq]; exact hd
  unfold wpL
  rw [if_pos (gOn_wanted hfr hg)]
  have hb : s[k]? = some s[k] := getElem?_pos s k hk
  refine wp_value (v := .int .u8 (s[k].toNat : Int)) (w' := w) (by simp) ?_ ?_
  · simp [execOp, hfr.ev hx, hfr.ev hi, Instr.index, asIntOf, run_underlying ht, hb]
  · refine kk _ ⟨by omega, ?_⟩ _ _ (hfr.put hd' _) hs
    have := s[k].toNat_lt
    omega
end
/-! ## sorted up to a place -/
def Srt (m : List Int) (i : Nat) : Prop := ∀ p r, p < r → r < i → r < m.length → m.getD p 0 ≤ m.getD r 0
/-- sorted up to i, but for the one at j, which is not above those behind it -/
def Ins (m : List Int) (i j : Nat) : Prop := (∀ p r, p < r → r ≤ i → p ≠ j → r ≠ j → m.getD p 0 ≤ m.getD r 0) ∧ ∀ r, j < r → r ≤ i → m.getD j 0 ≤ m.getD r 0
theorem ins_start {m : List Int} {i : Nat} (h : Srt m i) (hi : i < m.length) : Ins m i i := ⟨fun p r hpr hri hp hr => h p r hpr (by omega) (by omega), fun r h1 h2 => by omega⟩
theorem getD_at {m : List Int} {j : Nat} {x : Int} (h : m[j]? = some x) : m.getD j 0 = x := by simp [List.getD, h]
theorem getD_swap {m : List Int} {j : Nat} {x y : Int} (hx : m[j]? = some x) (hy : m[j - 1]? = some y) (hj : 0 < j) (p : Nat) :
    ((m.set j y).set (j - 1) x).getD p 0 = if p = j - 1 then x else if p = j then y else m.getD p 0 := by
  have h1 := (List.getElem?_eq_some_iff.1 hx).1
  have h2 := (List.getElem?_eq_some_iff.1 hy).1
  simp only [List.getD, List.getElem?_set, List.length_set]
  by_cases e1 : j - 1 = p
  · subst e1; simp [h2]
  · have e1' : ¬ p = j - 1 := fun e => e1 e.symm
    rw [if_neg e1, if_neg e1']
    by_cases e2 : j = p
    · subst e2; simp [h1]
    · have e2' : ¬ p = j := fun e => e2 e.symm
      rw [if_neg e2, if_neg e2']
theorem ins_step {m : List Int} {i j : Nat} {x y : Int} (hx : m[j]? = some x) (hy : m[j - 1]? = some y) (hj : 0 < j) (hji : j ≤ i) (h : x < y) (hI : Ins m i j) : Ins ((m.set j y).set (j - 1) x) i (j - 1) := by
  have gx := getD_at hx
  have gy := getD_at hy
  refine ⟨fun p r hpr hri hp hr => ?_, fun r h1 h2 => ?_⟩
  · rw [getD_swap hx hy hj, getD_swap hx hy hj, if_neg hp, if_neg hr]
    by_cases e1 : p = j
    · rw [if_pos e1, if_neg (by omega), ← gy]
      exact hI.1 (j - 1) r (by omega) hri (by omega) (by omega)
    · rw [if_neg e1]
      by_cases e2 : r = j
      · rw [if_pos e2, ← gy]; exact hI.1 p (j - 1) (by omega) (by omega) e1 (by omega)
      · rw [if_neg e2]; exact hI.1 p r hpr hri e1 e2
  · rw [getD_swap hx hy hj, getD_swap hx hy hj, if_pos rfl, if_neg (by omega)]
    by_cases e : r = j
    · rw [if_pos e]; omega
    · rw [if_neg e, ← gx]; exact hI.2 r (by omega) h2
theorem ins_zero {m : List Int} {i j : Nat} (hj : ¬ 0 < j) (hI : Ins m i j) : Srt m (i + 1) := fun p r hpr hri _ => by
  by_cases e1 : p = j
  · subst e1; exact hI.2 r hpr (by omega)
  · exact hI.1 p r hpr (by omega) e1 (by omega)
theorem ins_stop {m : List Int} {i j : Nat} {x y : Int} (hx : m[j]? = some x) (hy : m[j - 1]? = some y) (hj : 0 < j) (hji : j ≤ i) (h : ¬ x < y) (hI : Ins m i j) : Srt m (i + 1) := fun p r hpr hri hl => by
  have gx := getD_at hx
  have gy := getD_at hy
  by_cases e1 : p = j
  · subst e1; exact hI.2 r hpr (by omega)
  · by_cases e2 : r = j
    · subst e2
      rw [gx]
      by_cases e3 : p = r - 1
      · subst e3; rw [gy]; omega
      · have := hI.1 p (r - 1) (by omega) (by omega) e1 (by omega)
        rw [gy] at this; omega
    · exact hI.1 p r hpr (by omega) e1 e2
theorem swap_perm {m : List Int} {j : Nat} {x y : Int} (hx : m[j]? = some x) (hy : m[j - 1]? = some y) : ((m.set j y).set (j - 1) x).Perm m := by
  obtain ⟨h1, rfl⟩ := List.getElem?_eq_some_iff.1 hx
  obtain ⟨h2, rfl⟩ := List.getElem?_eq_some_iff.1 hy
  exact List.set_set_perm h1 h2
theorem srt_one {m : List Int} : Srt m 1 := fun p r h1 h2 => by omega
theorem srt_all {m : List Int} {i : Nat} (h : Srt m i) (hi : m.length ≤ i) : m.Pairwise (· ≤ ·) := by
  rw [List.pairwise_iff_getElem]
  intro p r hp hr hpr
  have := h p r hpr (by omega) hr
  simpa [List.getD, hp, hr] using this
theorem sorted_unique {a b : List Int} (h : a.Perm b) (ha : a.Pairwise (· ≤ ·)) (hb : b.Pairwise (· ≤ ·)) : a = b :=
  List.Perm.eq_of_pairwise (fun a b _ _ h1 h2 => Int.le_antisymm h1 h2) ha hb h
end Go.Proofs.Ytaehngpnlkokkaa
