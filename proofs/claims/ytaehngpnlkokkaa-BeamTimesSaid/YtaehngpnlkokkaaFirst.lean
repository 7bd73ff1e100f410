/-
  Plain laws: the first number of which something is so.
-/
import Derived.Test.YtaehngpnlkokkaaTrk
namespace Go.Proofs.Ytaehngpnlkokkaa
set_option linter.unusedVariables false
theorem firstN_ex (p : Int → Bool) (n : Nat) : ∃ r : Int, r = ((List.range n).findIdx fun (k : Nat) => p (k : Int) : Nat) := ⟨_, rfl⟩
noncomputable def firstN (p : Int → Bool) (n : Nat) : Int := Classical.choose (firstN_ex p n)
theorem firstN_def (p : Int → Bool) (n : Nat) : firstN p n = ((List.range n).findIdx fun (k : Nat) => p (k : Int) : Nat) := Classical.choose_spec (firstN_ex p n)
theorem firstN_b {p : Int → Bool} {n : Nat} : 0 ≤ firstN p n ∧ firstN p n ≤ n := by
  rw [firstN_def]
  have := List.findIdx_le_length (xs := List.range n) (p := fun (k : Nat) => p (k : Int))
  rw [List.length_range] at this
  omega
theorem firstN_no {p : Int → Bool} {n : Nat} {x : Int} (h0 : 0 ≤ x) (h : x < firstN p n) : p x = false := by
  have hb := firstN_b (p := p) (n := n)
  rw [firstN_def] at h
  have h1 : x.toNat < (List.range n).findIdx fun (k : Nat) => p (k : Int) := by omega
  have h2 := List.not_of_lt_findIdx h1
  simp only [List.getElem_range] at h2
  rw [show ((x.toNat : Nat) : Int) = x by omega] at h2
  simpa using h2
theorem firstN_at {p : Int → Bool} {n : Nat} (h : firstN p n < n) : p (firstN p n) = true := by
  rw [firstN_def] at h ⊢
  have h1 : ((List.range n).findIdx fun (k : Nat) => p (k : Int)) < (List.range n).length := by rw [List.length_range]; omega
  have := List.findIdx_getElem (w := h1)
  simpa using this
def Mono (p : Int → Bool) : Prop := ∀ a b : Int, 0 ≤ a → a ≤ b → p a = true → p b = true
theorem firstN_yes {p : Int → Bool} {n : Nat} (hm : Mono p) {x : Int} (h : firstN p n ≤ x) (hx : x < n) : p x = true :=
  hm _ x firstN_b.1 h (firstN_at (by omega))
theorem firstN_eq {p : Int → Bool} {n : Nat} {r : Int} (h0 : 0 ≤ r) (hn : r < n) (hr : p r = true) (hb : ∀ x, 0 ≤ x → x < r → p x = false) : firstN p n = r := by
  have h1 := firstN_b (p := p) (n := n)
  rcases Int.lt_trichotomy (firstN p n) r with h | h | h
  · have := hb _ h1.1 h
    have e := firstN_at (p := p) (n := n) (by omega)
    rw [e] at this; cases this
  · exact h
  · have := firstN_no h0 h
    rw [hr] at this; cases this
theorem firstN_end {p : Int → Bool} {n : Nat} (hb : ∀ x : Int, 0 ≤ x → x < (n : Int) → p x = false) : firstN p n = n := by
  have h1 := firstN_b (p := p) (n := n)
  rcases Int.lt_or_le (firstN p n) n with h | h
  · have := hb _ h1.1 h
    rw [firstN_at h] at this; cases this
  · omega
/-! ### heads -/
theorem div_anti {a w w' : Int} (ha : 0 ≤ a) (hw : 0 < w) (h : w ≤ w') : a / w' ≤ a / w := by
  have hw' : 0 < w' := by omega
  rw [Int.le_ediv_iff_mul_le hw]
  have h1 : 0 ≤ a / w' := Int.ediv_nonneg ha (by omega)
  exact Int.le_trans (Int.mul_le_mul_of_nonneg_left h h1) (Int.ediv_mul_le a (by omega))
end Go.Proofs.Ytaehngpnlkokkaa
