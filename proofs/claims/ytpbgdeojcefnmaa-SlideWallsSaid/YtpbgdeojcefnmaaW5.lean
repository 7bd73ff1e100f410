/-
  Walks: kreisel/kreiselref03.slow, kreisel/kreiselref03.fast, kreisel/slide.slow$1, kreisel/slide.fast$1, kreisel/slide.first[int], kreisel/slide.slow, kreisel/slide.fast
-/
import Derived.Test.YtpbgdeojcefnmaaTab
import Derived.Test.YtpbgdeojcefnmaaSort
namespace Go.Proofs.Ytpbgdeojcefnmaa
open Go.RowKit
set_option linter.unusedVariables false

set_option maxRecDepth 100000 in
set_option maxHeartbeats 400000 in
theorem slow3_c (h : Int) (hh : 0 ≤ h ∧ h ≤ 400000) :
    FnV Try.prog 68 [(Value.int .i64 h)] [] (Value.int .i64 (slowF h)) := by
  refine fnV_of go68 Try.func68 rfl rfl fun w0 Q hQ hN => ?_
  change WJ _ _ _ _ [(0, (Value.int .i64 h))] []
  refine w_seq fun K1 hK1 => ?_
  refine w_region ?_
  refine r_sd (sd_assign rfl rfl) rfl rfl ?_
  refine r_nil ?_
  refine k_then (hK1 _ _ _ ?_)
  refine w_seq fun K2 hK2 => ?_
  refine w_region ?_
  refine r_sd (sd_assign rfl rfl) rfl rfl ?_
  refine r_nil ?_
  refine k_then (hK2 _ _ _ ?_)
  refine w_seq fun K3 hK3 => ?_
  refine w_seq fun K4 hK4 => ?_
  refine w_region ?_
  refine r_sd (sd_assign rfl rfl) rfl rfl ?_
  refine r_nil ?_
  refine k_then (hK4 _ _ _ ?_)
  refine w_block ?_
  have hinit : (0 ≤ (0 : Int) ∧ 0 ≤ (32768 : Int) ∧ (0 : Int) + capB (32768 : Int) ≤ 65536 ∧ (0 : Int) + (32768 : Int) ≤ 65536) ∧ (Pow2 (32768 : Int)) ∧ (10 * (0 : Int) * (0 : Int) ≤ 1962 * h) ∧ (1962 * h < 10 * ((0 : Int) + capB (32768 : Int)) * ((0 : Int) + capB (32768 : Int))) := by (refine ⟨⟨by decide, by decide, by decide, by decide⟩, .inr ⟨15, by decide⟩, by omega, by rw [capB_pos (by decide)]; omega⟩)
  refine w_loop (ι := { z : Int × Int // (0 ≤ z.1 ∧ 0 ≤ z.2 ∧ z.1 + capB z.2 ≤ 65536 ∧ z.1 + z.2 ≤ 65536) ∧ (Pow2 z.2) ∧ (10 * z.1 * z.1 ≤ 1962 * h) ∧ (1962 * h < 10 * (z.1 + capB z.2) * (z.1 + capB z.2)) }) (fun z => [(0, (Value.int .i64 h)), (3, (Value.int .i64 z.1.1)), (4, (Value.int .i64 z.1.2))]) (fun z => []) (fun z => z.1.2.toNat) ⟨((0 : Int), (32768 : Int)), hinit⟩ (Sub.cons rfl <| Sub.cons rfl <| Sub.cons rfl <| Sub.nil _) (fun w hs => St.sel [] rfl rfl hs) ?_
  clear hinit
  rintro ⟨⟨n, b⟩, ⟨hl0_0, hl0_1, hl0_2, hl0_3⟩⟩ J5 hJ5
  try dsimp only at hl0_0 hl0_1 hl0_2 hl0_3
  change WJ _ _ _ _ [(0, (Value.int .i64 h)), (3, (Value.int .i64 n)), (4, (Value.int .i64 b))] []
  refine w_seq fun K6 hK6 => ?_
  refine w_seq fun K7 hK7 => ?_
  refine w_region ?_
  refine r_sd (sd_move rfl rfl) rfl rfl ?_
  refine r_sd (sd_bin rfl rfl rfl b_gtr) rfl rfl ?_
  refine r_nil ?_
  refine k_then (hK7 _ _ _ ?_)
  refine w_if rfl (fun hb => ?_) (fun hb => ?_)
  · -- yes
    replace hb := of_decide_eq_true hb
    refine w_skip ?_
    refine k_then (hK6 _ _ _ ?_)
    refine w_seq fun K8 hK8 => ?_
    refine w_block ?_
    refine w_seq fun K9 hK9 => ?_
    refine w_region ?_
    refine r_sd (sd_move rfl rfl) rfl rfl ?_
    refine r_sd (sd_move rfl rfl) rfl rfl ?_
    refine r_sd (sd_bin rfl rfl rfl (b_add ⟨by omega, by omega⟩)) rfl rfl ?_
    refine r_sd (sd_bin rfl rfl rfl (b_mul ⟨by omega, by omega⟩)) rfl rfl ?_
    refine r_sd (sd_move rfl rfl) rfl rfl ?_
    refine r_sd (sd_move rfl rfl) rfl rfl ?_
    refine r_sd (sd_bin rfl rfl rfl (b_add ⟨by omega, by omega⟩)) rfl rfl ?_
    have m1 := mulb (a := 10 * (n + b)) (b := n + b) (A := 655360) (B := 65536) (by omega) (by omega) (by omega) (by omega)
    refine r_sd (sd_bin rfl rfl rfl (b_mul ⟨by omega, by omega⟩)) rfl rfl ?_
    refine r_sd (sd_move rfl rfl) rfl rfl ?_
    refine r_sd (sd_bin rfl rfl rfl (b_mul ⟨by omega, by omega⟩)) rfl rfl ?_
    refine r_sd (sd_bin rfl rfl rfl b_leq) rfl rfl ?_
    refine r_nil ?_
    refine k_then (hK9 _ _ _ ?_)
    refine w_if rfl (fun hq => ?_) (fun hq => ?_)
    · -- yes
      replace hq := of_decide_eq_true hq
      refine w_region ?_
      refine r_sd (sd_move rfl rfl) rfl rfl ?_
      refine r_sd (sd_move rfl rfl) rfl rfl ?_
      refine r_sd (sd_bin rfl rfl rfl (b_add ⟨by omega, by omega⟩)) rfl rfl ?_
      refine r_sd (sd_assign rfl rfl) rfl rfl ?_
      refine r_nil ?_
      refine k_block ?_
      refine k_then (hK8 _ _ _ ?_)
      refine w_region ?_
      refine r_sd (sd_move rfl rfl) rfl rfl ?_
      refine r_sd (sd_bin rfl rfl rfl (b_quo (by omega) (by omega) (by omega))) rfl rfl ?_
      refine r_sd (sd_assign rfl rfl) rfl rfl ?_
      refine r_nil ?_
      refine k_then (hJ5 ⟨((n + b), (b / 2)), (by dsimp only; obtain ⟨q1, q2⟩ := half_cap hl0_1 hb; have q3 := capB_pos hb; rw [q1]; rw [q3] at hl0_0 hl0_3; refine ⟨⟨by omega, by omega, by omega, by omega⟩, q2, by omega, ?_⟩; first | omega | (rw [show n + b + b = n + 2 * b by omega]; omega))⟩ _ _ _ rfl (by simp only []; omega) (Sub.cons rfl <| Sub.cons rfl <| Sub.cons rfl <| Sub.nil _) (fun w hs => St.sel [] rfl rfl hs))
    · -- no
      replace hq := of_decide_eq_false hq
      refine w_skip ?_
      refine k_block ?_
      refine k_then (hK8 _ _ _ ?_)
      refine w_region ?_
      refine r_sd (sd_move rfl rfl) rfl rfl ?_
      refine r_sd (sd_bin rfl rfl rfl (b_quo (by omega) (by omega) (by omega))) rfl rfl ?_
      refine r_sd (sd_assign rfl rfl) rfl rfl ?_
      refine r_nil ?_
      refine k_then (hJ5 ⟨(n, (b / 2)), (by dsimp only; obtain ⟨q1, q2⟩ := half_cap hl0_1 hb; have q3 := capB_pos hb; rw [q1]; rw [q3] at hl0_0 hl0_3; refine ⟨⟨by omega, by omega, by omega, by omega⟩, q2, by omega, ?_⟩; first | omega | (rw [show n + b + b = n + 2 * b by omega]; omega))⟩ _ _ _ rfl (by simp only []; omega) (Sub.cons rfl <| Sub.cons rfl <| Sub.cons rfl <| Sub.nil _) (fun w hs => St.sel [] rfl rfl hs))
  · -- no
    replace hb := of_decide_eq_false hb
    refine w_exit ?_
    refine k_exit_then ?_
    refine k_exit_then ?_
    refine k_exit_same ?_
    refine k_then (hK3 _ _ _ ?_)
    refine w_seq fun K10 hK10 => ?_
    refine w_region ?_
    refine r_sd (sd_move rfl rfl) rfl rfl ?_
    refine r_sd (sd_assign rfl rfl) rfl rfl ?_
    refine r_nil ?_
    refine k_then (hK10 _ _ _ ?_)
    refine w_ret ?_
    refine hQ _ _ _ (l_nil (vs := [(Value.int .i64 n)]) ⟨rfl, trivial⟩ fun w hs => endV ?_ hs)
    show (Value.int .i64 n) = (Value.int .i64 (slowF h))
    clear hs w hQ hN hK10 K10 hK7 K7 hK6 K6 hK4 K4 hK3 K3 hK2 K2 hK1 K1
    have e : b = 0 := by omega
    subst e
    exact congrArg (Value.int .i64) (slowF_eq hh.1 ⟨hl0_0.1, hl0_2, hl0_3⟩).symm

set_option maxRecDepth 100000 in
set_option maxHeartbeats 400000 in
theorem fast3_c (h : Int) (hh : 0 ≤ h ∧ h ≤ 400000) :
    FnV Try.prog 69 [(Value.int .i64 h)] [] (Value.int .i64 (fastF h)) := by
  have hs := slowF_le hh.1 hh.2
  have m1 := mulb (a := 10 * slowF h) (b := slowF h) (A := 90000) (B := 9000) (by omega) (by omega) (by omega) (by omega)
  refine fnV_of go69 Try.func69 rfl rfl fun w0 Q hQ hN => ?_
  change WJ _ _ _ _ [(0, (Value.int .i64 h))] []
  refine w_seq fun K1 hK1 => ?_
  refine w_region ?_
  refine r_sd (sd_assign rfl rfl) rfl rfl ?_
  refine r_nil ?_
  refine k_then (hK1 _ _ _ ?_)
  refine w_seq fun K2 hK2 => ?_
  refine w_region ?_
  refine r_sd (sd_move rfl rfl) rfl rfl ?_
  refine r_sd (sd_call rfl rfl rfl rfl (slow3_c h (by first | assumption | omega | (simp; done) | (simp; omega))) (ha_nil)) rfl rfl ?_
  refine r_sd (sd_assign rfl rfl) rfl rfl ?_
  refine r_nil ?_
  refine k_then (hK2 _ _ _ ?_)
  refine w_seq fun K3 hK3 => ?_
  refine w_seq fun K4 hK4 => ?_
  refine w_region ?_
  refine r_sd (sd_move rfl rfl) rfl rfl ?_
  refine r_sd (sd_bin rfl rfl rfl (b_mul ⟨by omega, by omega⟩)) rfl rfl ?_
  refine r_sd (sd_move rfl rfl) rfl rfl ?_
  refine r_sd (sd_bin rfl rfl rfl (b_mul ⟨by omega, by omega⟩)) rfl rfl ?_
  refine r_sd (sd_move rfl rfl) rfl rfl ?_
  refine r_sd (sd_bin rfl rfl rfl (b_mul ⟨by omega, by omega⟩)) rfl rfl ?_
  refine r_sd (sd_bin rfl rfl rfl b_lss) rfl rfl ?_
  refine r_nil ?_
  refine k_then (hK4 _ _ _ ?_)
  refine w_if rfl (fun h5 => ?_) (fun h5 => ?_)
  · -- yes
    replace h5 := of_decide_eq_true h5
    refine w_region ?_
    refine r_sd (sd_move rfl rfl) rfl rfl ?_
    refine r_sd (sd_bin rfl rfl rfl (b_add ⟨by omega, by omega⟩)) rfl rfl ?_
    refine r_sd (sd_assign rfl rfl) rfl rfl ?_
    refine r_nil ?_
    refine k_then (hK3 _ _ _ ?_)
    refine w_seq fun K6 hK6 => ?_
    refine w_region ?_
    refine r_sd (sd_move rfl rfl) rfl rfl ?_
    refine r_sd (sd_assign rfl rfl) rfl rfl ?_
    refine r_nil ?_
    refine k_then (hK6 _ _ _ ?_)
    refine w_ret ?_
    refine hQ _ _ _ (l_nil (vs := [(Value.int .i64 ((slowF h) + 1))]) ⟨rfl, trivial⟩ fun w hs => endV ?_ hs)
    show (Value.int .i64 ((slowF h) + 1)) = (Value.int .i64 (fastF h))
    clear hs w hQ hN hK6 K6 hK4 K4 hK3 K3 hK2 K2 hK1 K1
    exact congrArg (Value.int .i64) (by unfold fastF; simp [*])
  · -- no
    replace h5 := of_decide_eq_false h5
    refine w_skip ?_
    refine k_then (hK3 _ _ _ ?_)
    refine w_seq fun K7 hK7 => ?_
    refine w_region ?_
    refine r_sd (sd_move rfl rfl) rfl rfl ?_
    refine r_sd (sd_assign rfl rfl) rfl rfl ?_
    refine r_nil ?_
    refine k_then (hK7 _ _ _ ?_)
    refine w_ret ?_
    refine hQ _ _ _ (l_nil (vs := [(Value.int .i64 (slowF h))]) ⟨rfl, trivial⟩ fun w hs => endV ?_ hs)
    show (Value.int .i64 (slowF h)) = (Value.int .i64 (fastF h))
    clear hs w hQ hN hK7 K7 hK4 K4 hK3 K3 hK2 K2 hK1 K1
    exact congrArg (Value.int .i64) (by unfold fastF; simp [*])

set_option maxRecDepth 100000 in
set_option maxHeartbeats 400000 in
theorem slow1_c (v : Int) (h : Int) (g1 : Nat) (hh : 0 ≤ h ∧ h ≤ 400000) (hv : 0 ≤ v ∧ v ≤ 10000) :
    FnV Try.prog 96 [(Value.int .i64 v), (Value.pointer (some ⟨g1, 0, none⟩))] [(blk g1 3 [(Value.int .i64 h)])] (Value.bool (decide (1962 * h < 10 * v * v))) := by
  have m1 := mulb (a := 10 * v) (b := v) (A := 100000) (B := 10000) (by omega) (by omega) (by omega) (by omega)
  refine fnV_of go96 Try.func96 rfl rfl fun w0 Q hQ hN => ?_
  change WJ _ _ _ _ [(0, (Value.int .i64 v)), (1, (Value.pointer (some ⟨g1, 0, none⟩)))] [(blk g1 3 [(Value.int .i64 h)]).ro]
  refine w_seq fun K1 hK1 => ?_
  refine w_region ?_
  refine r_sd (sd_assign rfl rfl) rfl rfl ?_
  refine r_nil ?_
  refine k_then (hK1 _ _ _ ?_)
  refine w_seq fun K2 hK2 => ?_
  refine w_region ?_
  refine r_sd (sd_move rfl rfl) rfl rfl ?_
  refine r_sd (sd_bin rfl rfl rfl (b_mul ⟨by omega, by omega⟩)) rfl rfl ?_
  refine r_sd (sd_move rfl rfl) rfl rfl ?_
  refine r_sd (sd_bin rfl rfl rfl (b_mul ⟨by omega, by omega⟩)) rfl rfl ?_
  refine r_sd (sd_ld1 rfl rfl tk3 (at_blkr (vs := [(Value.int .i64 h)]) 0 rfl rfl)) rfl rfl ?_
  refine r_sd (sd_bin rfl rfl rfl (b_mul ⟨by omega, by omega⟩)) rfl rfl ?_
  refine r_sd (sd_bin rfl rfl rfl b_gtr) rfl rfl ?_
  refine r_sd (sd_assign rfl rfl) rfl rfl ?_
  refine r_nil ?_
  refine k_then (hK2 _ _ _ ?_)
  refine w_ret ?_
  refine hQ _ _ _ (l_nil (vs := [(Value.bool (decide ((1962 * h) < ((10 * v) * v))))]) ⟨rfl, trivial⟩ fun w hs => endV ?_ hs)
  show (Value.bool (decide ((1962 * h) < ((10 * v) * v)))) = (Value.bool (decide (1962 * h < 10 * v * v)))
  clear hs w hQ hN hK2 K2 hK1 K1
  rfl

set_option maxRecDepth 100000 in
set_option maxHeartbeats 400000 in
theorem fast1_c (v : Int) (h : Int) (g1 : Nat) (hh : 0 ≤ h ∧ h ≤ 400000) (hv : 0 ≤ v ∧ v ≤ 10000) :
    FnV Try.prog 97 [(Value.int .i64 v), (Value.pointer (some ⟨g1, 0, none⟩))] [(blk g1 3 [(Value.int .i64 h)])] (Value.bool (decide (1962 * h ≤ 10 * v * v))) := by
  have m1 := mulb (a := 10 * v) (b := v) (A := 100000) (B := 10000) (by omega) (by omega) (by omega) (by omega)
  refine fnV_of go97 Try.func97 rfl rfl fun w0 Q hQ hN => ?_
  change WJ _ _ _ _ [(0, (Value.int .i64 v)), (1, (Value.pointer (some ⟨g1, 0, none⟩)))] [(blk g1 3 [(Value.int .i64 h)]).ro]
  refine w_seq fun K1 hK1 => ?_
  refine w_region ?_
  refine r_sd (sd_assign rfl rfl) rfl rfl ?_
  refine r_nil ?_
  refine k_then (hK1 _ _ _ ?_)
  refine w_seq fun K2 hK2 => ?_
  refine w_region ?_
  refine r_sd (sd_move rfl rfl) rfl rfl ?_
  refine r_sd (sd_bin rfl rfl rfl (b_mul ⟨by omega, by omega⟩)) rfl rfl ?_
  refine r_sd (sd_move rfl rfl) rfl rfl ?_
  refine r_sd (sd_bin rfl rfl rfl (b_mul ⟨by omega, by omega⟩)) rfl rfl ?_
  refine r_sd (sd_ld1 rfl rfl tk3 (at_blkr (vs := [(Value.int .i64 h)]) 0 rfl rfl)) rfl rfl ?_
  refine r_sd (sd_bin rfl rfl rfl (b_mul ⟨by omega, by omega⟩)) rfl rfl ?_
  refine r_sd (sd_bin rfl rfl rfl b_geq) rfl rfl ?_
  refine r_sd (sd_assign rfl rfl) rfl rfl ?_
  refine r_nil ?_
  refine k_then (hK2 _ _ _ ?_)
  refine w_ret ?_
  refine hQ _ _ _ (l_nil (vs := [(Value.bool (decide ((1962 * h) ≤ ((10 * v) * v))))]) ⟨rfl, trivial⟩ fun w hs => endV ?_ hs)
  show (Value.bool (decide ((1962 * h) ≤ ((10 * v) * v)))) = (Value.bool (decide (1962 * h ≤ 10 * v * v)))
  clear hs w hQ hN hK2 K2 hK1 K1
  rfl

set_option maxRecDepth 100000 in
set_option maxHeartbeats 400000 in
theorem first_c (lo : Int) (hi : Int) (f : Value) (p : Int → Bool) (X : Assn) (r : Int) (hf : ∀ x0, 0 ≤ x0 ∧ x0 < hi → Clo Try.prog f [.int .i64 x0] [X] (.bool (p x0))) (hb : 0 ≤ lo ∧ lo ≤ r ∧ r ≤ hi ∧ hi ≤ 100000000) (hno : ∀ x, lo ≤ x → x < r → p x = false) (hyes : ∀ x, r ≤ x → x < hi → p x = true) :
    FnV Try.prog 77 [(Value.int .i64 lo), (Value.int .i64 hi), f] [X] (Value.int .i64 r) := by
  refine fnV_of go77 Try.func77 rfl rfl fun w0 Q hQ hN => ?_
  change WJ _ _ _ _ [(0, (Value.int .i64 lo)), (1, (Value.int .i64 hi)), (2, f)] [X.ro]
  refine w_seq fun K1 hK1 => ?_
  refine w_region ?_
  refine r_sd (sd_assign rfl rfl) rfl rfl ?_
  refine r_nil ?_
  refine k_then (hK1 _ _ _ ?_)
  refine w_seq fun K2 hK2 => ?_
  refine w_block ?_
  have hinit : (lo ≤ lo ∧ lo ≤ r) ∧ (r ≤ hi ∧ hi ≤ hi) := by first | trivial | omega | (refine ⟨?_, ?_⟩ <;> first | trivial | omega | simp)
  refine w_loop (ι := { z : Int × Int // (lo ≤ z.1 ∧ z.1 ≤ r) ∧ (r ≤ z.2 ∧ z.2 ≤ hi) }) (fun z => [(0, (Value.int .i64 z.1.1)), (1, (Value.int .i64 z.1.2)), (2, f)]) (fun z => [X.ro]) (fun z => (z.1.2 - z.1.1).toNat) ⟨(lo, hi), hinit⟩ (Sub.cons rfl <| Sub.cons rfl <| Sub.cons rfl <| Sub.nil _) (fun w hs => St.sel [0] rfl rfl hs) ?_
  clear hinit
  rintro ⟨⟨a, b⟩, ⟨hl0_0, hl0_1⟩⟩ J3 hJ3
  try dsimp only at hl0_0 hl0_1
  change WJ _ _ _ _ [(0, (Value.int .i64 a)), (1, (Value.int .i64 b)), (2, f)] [X.ro]
  refine w_seq fun K4 hK4 => ?_
  refine w_seq fun K5 hK5 => ?_
  refine w_region ?_
  refine r_sd (sd_move rfl rfl) rfl rfl ?_
  refine r_sd (sd_move rfl rfl) rfl rfl ?_
  refine r_sd (sd_bin rfl rfl rfl b_lss) rfl rfl ?_
  refine r_nil ?_
  refine k_then (hK5 _ _ _ ?_)
  refine w_if rfl (fun h6 => ?_) (fun h6 => ?_)
  · -- yes
    replace h6 := of_decide_eq_true h6
    refine w_skip ?_
    refine k_then (hK4 _ _ _ ?_)
    refine w_block ?_
    refine w_seq fun K7 hK7 => ?_
    refine w_region ?_
    refine r_sd (sd_move rfl rfl) rfl rfl ?_
    refine r_sd (sd_move rfl rfl) rfl rfl ?_
    refine r_sd (sd_move rfl rfl) rfl rfl ?_
    refine r_sd (sd_bin rfl rfl rfl (b_sub ⟨by omega, by omega⟩)) rfl rfl ?_
    refine r_sd (sd_bin rfl rfl rfl (b_quo (by omega) (by omega) (by omega))) rfl rfl ?_
    refine r_sd (sd_bin rfl rfl rfl (b_add ⟨by omega, by omega⟩)) rfl rfl ?_
    refine r_sd (sd_assign rfl rfl) rfl rfl ?_
    refine r_nil ?_
    refine k_then (hK7 _ _ _ ?_)
    refine w_seq fun K8 hK8 => ?_
    refine w_region ?_
    refine r_sd (sd_move rfl rfl) rfl rfl ?_
    refine r_sd (sd_move rfl rfl) rfl rfl ?_
    refine r_sd (sd_clo rfl rfl rfl (hf (a + ((b - a) / 2)) (by omega)) (ha_at 0 rfl rfl <| ha_nil)) rfl rfl ?_
    refine r_nil ?_
    refine k_then (hK8 _ _ _ ?_)
    refine w_if rfl (fun hp => ?_) (fun hp => ?_)
    · -- yes
      refine w_region ?_
      refine r_sd (sd_move rfl rfl) rfl rfl ?_
      refine r_sd (sd_assign rfl rfl) rfl rfl ?_
      refine r_nil ?_
      refine k_block ?_
      refine k_then (hJ3 ⟨(a, (a + ((b - a) / 2))), (by dsimp only; rcases Int.lt_or_le (a + (b - a) / 2) r with q | q; (have q2 := hno _ (by omega) q; first | (refine ⟨⟨by omega, by omega⟩, by omega, by omega⟩) | (rw [q2] at hp; cases hp)); (have q2 := hyes _ q (by omega); first | (refine ⟨⟨by omega, by omega⟩, by omega, by omega⟩) | (rw [q2] at hp; cases hp)))⟩ _ _ _ rfl (by simp only []; omega) (Sub.cons rfl <| Sub.cons rfl <| Sub.cons rfl <| Sub.nil _) (fun w hs => St.sel [0] rfl rfl hs))
    · -- no
      refine w_region ?_
      refine r_sd (sd_move rfl rfl) rfl rfl ?_
      refine r_sd (sd_bin rfl rfl rfl (b_add ⟨by omega, by omega⟩)) rfl rfl ?_
      refine r_sd (sd_assign rfl rfl) rfl rfl ?_
      refine r_nil ?_
      refine k_block ?_
      refine k_then (hJ3 ⟨(((a + ((b - a) / 2)) + 1), b), (by dsimp only; rcases Int.lt_or_le (a + (b - a) / 2) r with q | q; (have q2 := hno _ (by omega) q; first | (refine ⟨⟨by omega, by omega⟩, by omega, by omega⟩) | (rw [q2] at hp; cases hp)); (have q2 := hyes _ q (by omega); first | (refine ⟨⟨by omega, by omega⟩, by omega, by omega⟩) | (rw [q2] at hp; cases hp)))⟩ _ _ _ rfl (by simp only []; omega) (Sub.cons rfl <| Sub.cons rfl <| Sub.cons rfl <| Sub.nil _) (fun w hs => St.sel [0] rfl rfl hs))
  · -- no
    replace h6 := of_decide_eq_false h6
    refine w_exit ?_
    refine k_exit_then ?_
    refine k_exit_then ?_
    refine k_exit_same ?_
    refine k_then (hK2 _ _ _ ?_)
    refine w_seq fun K9 hK9 => ?_
    refine w_region ?_
    refine r_sd (sd_move rfl rfl) rfl rfl ?_
    refine r_sd (sd_assign rfl rfl) rfl rfl ?_
    refine r_nil ?_
    refine k_then (hK9 _ _ _ ?_)
    refine w_ret ?_
    refine hQ _ _ _ (l_nil (vs := [(Value.int .i64 a)]) ⟨rfl, trivial⟩ fun w hs => endV ?_ hs)
    show (Value.int .i64 a) = (Value.int .i64 r)
    clear hs w hQ hN hK9 K9 hK5 K5 hK4 K4 hK2 K2 hK1 K1
    exact congrArg (Value.int .i64) (by omega)

set_option maxRecDepth 100000 in
set_option maxHeartbeats 400000 in
theorem slow_c (h : Int) (hh : 0 ≤ h ∧ h ≤ 400000) :
    FnV Try.prog 65 [(Value.int .i64 h)] [] (Value.int .i64 (slowF h)) := by
  have hs := slowF_le hh.1 hh.2
  have hfs := fastF_le hh.1 hh.2
  refine fnV_of go65 Try.func65 rfl rfl fun w0 Q hQ hN => ?_
  change WJ _ _ _ _ [(0, (Value.int .i64 h))] []
  refine w_seq fun K1 hK1 => ?_
  refine w_region ?_
  refine r_box (cs := [(Value.int .i64 h)]) rfl rfl rfl rfl fun b2 => ?_
  refine r_sd (sd_assign rfl rfl) rfl rfl ?_
  refine r_nil ?_
  refine k_then (hK1 _ _ _ ?_)
  refine w_seq fun K3 hK3 => ?_
  refine w_region ?_
  refine r_sd (sd_func rfl rfl rfl) rfl rfl ?_
  refine r_sd (sd_call rfl rfl rfl rfl (first_c 0 10000 (Value.func (.func 96) [].toArray [(Value.pointer (some ⟨b2, 0, none⟩))].toArray) (fun u4 => (decide (1962 * h < 10 * u4 * u4))) (bun [(blk b2 3 [(Value.int .i64 h)])]) (slowF h + 1) (by intro u4 _; exact clo_of (fi := []) (ca := [(Value.pointer (some ⟨b2, 0, none⟩))]) (fnV_bun (slow1_c u4 h b2 (by first | assumption | omega) (by first | assumption | omega)) (ha_at 0 rfl rfl <| ha_nil))) (by first | assumption | omega | (simp; done) | (simp; omega)) (by intro x h0 hx; exact slow_no hh.1 (by omega) hx) (by intro x hx h1; exact slow_yes hh.1 hx)) (ha_cons (has_bun (ha_at 0 rfl rfl <| ha_nil)) <| ha_nil)) rfl rfl ?_
  refine r_sd (sd_bin rfl rfl rfl (b_sub ⟨by omega, by omega⟩)) rfl rfl ?_
  refine r_sd (sd_assign rfl rfl) rfl rfl ?_
  refine r_nil ?_
  refine k_then (hK3 _ _ _ ?_)
  refine w_ret ?_
  refine hQ _ _ _ (l_nil (vs := [(Value.int .i64 ((slowF h + 1) - 1))]) ⟨rfl, trivial⟩ fun w hs => endV ?_ hs)
  show (Value.int .i64 ((slowF h + 1) - 1)) = (Value.int .i64 (slowF h))
  clear hs w hQ hN hK3 K3 hK1 K1
  exact congrArg (Value.int .i64) (by omega)

set_option maxRecDepth 100000 in
set_option maxHeartbeats 400000 in
theorem fast_c (h : Int) (hh : 0 ≤ h ∧ h ≤ 400000) :
    FnV Try.prog 66 [(Value.int .i64 h)] [] (Value.int .i64 (fastF h)) := by
  have hs := slowF_le hh.1 hh.2
  have hfs := fastF_le hh.1 hh.2
  refine fnV_of go66 Try.func66 rfl rfl fun w0 Q hQ hN => ?_
  change WJ _ _ _ _ [(0, (Value.int .i64 h))] []
  refine w_seq fun K1 hK1 => ?_
  refine w_region ?_
  refine r_box (cs := [(Value.int .i64 h)]) rfl rfl rfl rfl fun b2 => ?_
  refine r_sd (sd_assign rfl rfl) rfl rfl ?_
  refine r_nil ?_
  refine k_then (hK1 _ _ _ ?_)
  refine w_seq fun K3 hK3 => ?_
  refine w_region ?_
  refine r_sd (sd_func rfl rfl rfl) rfl rfl ?_
  refine r_sd (sd_call rfl rfl rfl rfl (first_c 0 10000 (Value.func (.func 97) [].toArray [(Value.pointer (some ⟨b2, 0, none⟩))].toArray) (fun u4 => (decide (1962 * h ≤ 10 * u4 * u4))) (bun [(blk b2 3 [(Value.int .i64 h)])]) (fastF h) (by intro u4 _; exact clo_of (fi := []) (ca := [(Value.pointer (some ⟨b2, 0, none⟩))]) (fnV_bun (fast1_c u4 h b2 (by first | assumption | omega) (by first | assumption | omega)) (ha_at 0 rfl rfl <| ha_nil))) (by first | assumption | omega | (simp; done) | (simp; omega)) (by intro x h0 hx; exact fast_no hh.1 (by omega) hx) (by intro x hx h1; exact fast_yes hh.1 hx)) (ha_cons (has_bun (ha_at 0 rfl rfl <| ha_nil)) <| ha_nil)) rfl rfl ?_
  refine r_sd (sd_assign rfl rfl) rfl rfl ?_
  refine r_nil ?_
  refine k_then (hK3 _ _ _ ?_)
  refine w_ret ?_
  refine hQ _ _ _ (l_nil (vs := [(Value.int .i64 (fastF h))]) ⟨rfl, trivial⟩ fun w hs => endV ?_ hs)
  show (Value.int .i64 (fastF h)) = (Value.int .i64 (fastF h))
  clear hs w hQ hN hK3 K3 hK1 K1
  exact congrArg (Value.int .i64) (by omega)

end Go.Proofs.Ytpbgdeojcefnmaa
