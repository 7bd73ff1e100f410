/-
  Sums and products that may go round.
  No condition: the theorems hold over whatever program.
-/
import Derived.Test.YtaehngpnlkokkaaShort
namespace Go.Proofs.Ytaehngpnlkokkaa
open Go.RowKit
set_option linter.unusedVariables false
def w64 (n : Int) : Int := IntKind.i64.wrap n
theorem w64_in {n : Int} (h : In64 n) : w64 n = n := wrap_in h
theorem w64_b (n : Int) : -9223372036854775808 ≤ w64 n ∧ w64 n ≤ 9223372036854775807 := by
  unfold w64
  rw [IntKind.wrap_i64]
  omega
section
variable {P : Program} {t : TypeId} {x y : Operand} {a b : Int}
theorem b_addW : BinRun P .add t x y (.int .i64 a) (.int .i64 b) (.int .i64 (w64 (a + b))) := fun w => by simp [eqGuard_add, binOp_add, Op.intArith, w64]
theorem b_subW : BinRun P .sub t x y (.int .i64 a) (.int .i64 b) (.int .i64 (w64 (a - b))) := fun w => by simp [eqGuard_sub, binOp_sub, Op.intArith, w64]
theorem b_mulW : BinRun P .mul t x y (.int .i64 a) (.int .i64 b) (.int .i64 (w64 (a * b))) := fun w => by simp [eqGuard_mul, binOp_mul, Op.intArith, w64]
end
/-- divided, and rounded up, as it comes out -/
def upG (n by_ : Int) : Int := (w64 (w64 (n + by_) - 1)).tdiv by_
theorem tdiv_b {a b : Int} (ha : -9223372036854775808 ≤ a ∧ a ≤ 9223372036854775807) (hb : 2 ≤ b) : In64 (a.tdiv b) := by
  have h1 : a.tdiv b = a / b + if a % b ≠ 0 ∧ a < 0 then 1 else 0 := by
    rcases Int.lt_or_le a 0 with h | h
    · rw [Int.tdiv_eq_ediv]
      have : b.sign = 1 := Int.sign_eq_one_of_pos (by omega)
      rw [this]
      by_cases hd : b ∣ a
      · have : a % b = 0 := Int.emod_eq_zero_of_dvd hd
        simp [hd, this]
      · have : a % b ≠ 0 := fun e => hd (Int.dvd_of_emod_eq_zero e)
        have hn : ¬ 0 ≤ a := by omega
        simp [hd, this, h, hn]
    · rw [Int.tdiv_eq_ediv_of_nonneg h]
      have : ¬ a < 0 := by omega
      simp [this]
  have h2 : a / b * b + a % b = a := by rw [Int.mul_comm]; exact Int.mul_ediv_add_emod a b
  have h3 : 0 ≤ a % b := Int.emod_nonneg _ (by omega)
  have h4 : a % b < b := Int.emod_lt_of_pos _ (by omega)
  have h5 : -9223372036854775808 ≤ a / b ∧ a / b ≤ 4611686018427387904 := by
    constructor
    · refine Int.le_ediv_of_mul_le (by omega) ?_
      have : (-9223372036854775808 : Int) * b ≤ -9223372036854775808 * 1 := Int.mul_le_mul_of_nonpos_left (by omega) (by omega)
      omega
    · refine Int.ediv_le_of_le_mul (by omega) ?_
      have : (4611686018427387904 : Int) * 2 ≤ 4611686018427387904 * b := Int.mul_le_mul_of_nonneg_left hb (by omega)
      omega
  rw [h1]
  unfold In64
  split <;> omega
theorem upG_in {n by_ : Int} (h0 : 0 ≤ n) (h1 : n ≤ 1000000000000000000) (hb : 1 ≤ by_ ∧ by_ ≤ 1000000000000) : upG n by_ = (n + by_ - 1) / by_ := by
  unfold upG
  rw [w64_in (show In64 (n + by_) from ⟨by omega, by omega⟩), w64_in (show In64 (n + by_ - 1) from ⟨by omega, by omega⟩), Int.tdiv_eq_ediv_of_nonneg (by omega)]
end Go.Proofs.Ytaehngpnlkokkaa
