/-
  Walks: kreisel/kreiselref03.slow, kreisel/kreiselref03.fast, kreisel/slide.slow$1, kreisel/slide.fast$1, kreisel/slide.first[int], kreisel/slide.slow, kreisel/slide.fast
-/
import Derived.Test.YtpbgdeojcefnmaaTab
import Derived.Test.YtpbgdeojcefnmaaShort
namespace Go.Proofs.Ytpbgdeojcefnmaa
open Go.RowKit
set_option linter.unusedVariables false

set_option maxRecDepth 100000 in
set_option maxHeartbeats 400000 in
theorem slow3_c (h : Int) (hh : 0 ≤ h ∧ h ≤ 400000) :
    FnV Try.prog 68 [(Value.int .i64 h)] [] (Value.int .i64 (slowF h)) := by
 refine fnV_of go68 Try.func68 rfl rfl fun w0 Q hQ hN => ?_
 change WJ _ _ _ _ [(0, (Value.int .i64 h))] []
 refine WS fun _ hK1 => ?_
 refine rS (AG rfl) ?_
 refine RK hK1 ?_
 refine WS fun _ hK2 => ?_
 refine rS (AG rfl) ?_
 refine RK hK2 ?_
 refine w_seq fun _ hK3 => ?_
 refine WS fun _ hK4 => ?_
 refine rS (AG rfl) ?_
 refine RK hK4 ?_
 refine w_block ?_
 have hinit : (0 ≤ (0 : Int) ∧ 0 ≤ (32768 : Int) ∧ (0 : Int) + capB (32768 : Int) ≤ 65536 ∧ (0 : Int) + (32768 : Int) ≤ 65536) ∧ (Pow2 (32768 : Int)) ∧ (10 * (0 : Int) * (0 : Int) ≤ 1962 * h) ∧ (1962 * h < 10 * ((0 : Int) + capB (32768 : Int)) * ((0 : Int) + capB (32768 : Int))) := by (refine ⟨⟨by decide, by decide, by decide, by decide⟩, .inr ⟨15, by decide⟩, by omega, by rw [capB_pos (by decide)]; omega⟩)
 refine w_loop (ι := { z : Int × Int // (0 ≤ z.1 ∧ 0 ≤ z.2 ∧ z.1 + capB z.2 ≤ 65536 ∧ z.1 + z.2 ≤ 65536) ∧ (Pow2 z.2) ∧ (10 * z.1 * z.1 ≤ 1962 * h) ∧ (1962 * h < 10 * (z.1 + capB z.2) * (z.1 + capB z.2)) }) (fun z => [(0, (Value.int .i64 h)), (3, (Value.int .i64 z.1.1)), (4, (Value.int .i64 z.1.2))]) (fun z => []) (fun z => z.1.2.toNat) ⟨((0 : Int), (32768 : Int)), hinit⟩ (Sub.cons rfl <| Sub.cons rfl <| Sub.cons rfl <| Sub.nil _) (fun w hs => St.sel [] rfl rfl hs) ?_
 clear hinit
 rintro ⟨⟨n, b⟩, ⟨hl0_0, hl0_1, hl0_2, hl0_3⟩⟩ J5 hJ5
 try dsimp only at hl0_0 hl0_1 hl0_2 hl0_3
 change WJ _ _ _ _ [(0, (Value.int .i64 h)), (3, (Value.int .i64 n)), (4, (Value.int .i64 b))] []
 refine w_seq fun _ hK6 => ?_
 refine WS fun _ hK7 => ?_
 refine rS (MV rfl) ?_
 refine rS (BI rfl b_gtr) ?_
 refine RK hK7 ?_
 refine w_if rfl (fun hb => ?_) (fun hb => ?_)
 rotate_left 1
 · replace hb := DF hb
   refine w_exit ?_
   refine k_exit_then ?_
   refine k_exit_then ?_
   refine k_exit_same ?_
   refine KK hK3 ?_
   refine WS fun _ hK10 => ?_
   refine rS (MV rfl) ?_
   refine rS (AG rfl) ?_
   refine RK hK10 ?_
   refine w_ret ?_
   refine Q1 hQ rfl rfl rfl ?_
   have e : b = 0 := by omega
   subst e
   exact congrArg (Value.int .i64) (slowF_eq hh.1 ⟨hl0_0.1, hl0_2, hl0_3⟩).symm
 replace hb := DT hb
 refine WK hK6 ?_
 refine w_seq fun _ hK8 => ?_
 refine w_block ?_
 refine WS fun _ hK9 => ?_
 refine rS (MV rfl) ?_
 refine rS (MV rfl) ?_
 refine rS (BI rfl (b_add ⟨by omega, by omega⟩)) ?_
 refine rS (BI rfl (b_mul ⟨by omega, by omega⟩)) ?_
 refine rS (MV rfl) ?_
 refine rS (MV rfl) ?_
 refine rS (BI rfl (b_add ⟨by omega, by omega⟩)) ?_
 have m1 := mulb (a := 10 * (n + b)) (b := n + b) (A := 655360) (B := 65536) (by omega) (by omega) (by omega) (by omega)
 refine rS (BI rfl (b_mul ⟨by omega, by omega⟩)) ?_
 refine rS (MV rfl) ?_
 refine rS (BI rfl (b_mul ⟨by omega, by omega⟩)) ?_
 refine rS (BI rfl b_leq) ?_
 refine RK hK9 ?_
 refine w_if rfl (fun hq => ?_) (fun hq => ?_)
 rotate_left 1
 · replace hq := DF hq
   refine w_skip ?_
   refine k_block ?_
   refine KK hK8 ?_
   refine w_region ?_
   refine rS (MV rfl) ?_
   refine rS (BI rfl (b_quo (by omega) (by omega) (by omega))) ?_
   refine rS (AG rfl) ?_
   refine r_nil ?_
   refine k_then (hJ5 ⟨(n, (b / 2)), (by dsimp only; obtain ⟨q1, q2⟩ := half_cap hl0_1 hb; have q3 := capB_pos hb; rw [q1]; rw [q3] at hl0_0 hl0_3; refine ⟨⟨by omega, by omega, by omega, by omega⟩, q2, by omega, ?_⟩; first | omega | (rw [show n + b + b = n + 2 * b by omega]; omega))⟩ _ _ _ rfl (by simp only []; omega) (Sub.cons rfl <| Sub.cons rfl <| Sub.cons rfl <| Sub.nil _) (fun w hs => St.sel [] rfl rfl hs))
 replace hq := DT hq
 refine w_region ?_
 refine rS (MV rfl) ?_
 refine rS (MV rfl) ?_
 refine rS (BI rfl (b_add ⟨by omega, by omega⟩)) ?_
 refine rS (AG rfl) ?_
 refine r_nil ?_
 refine k_block ?_
 refine KK hK8 ?_
 refine w_region ?_
 refine rS (MV rfl) ?_
 refine rS (BI rfl (b_quo (by omega) (by omega) (by omega))) ?_
 refine rS (AG rfl) ?_
 refine r_nil ?_
 refine k_then (hJ5 ⟨((n + b), (b / 2)), (by dsimp only; obtain ⟨q1, q2⟩ := half_cap hl0_1 hb; have q3 := capB_pos hb; rw [q1]; rw [q3] at hl0_0 hl0_3; refine ⟨⟨by omega, by omega, by omega, by omega⟩, q2, by omega, ?_⟩; first | omega | (rw [show n + b + b = n + 2 * b by omega]; omega))⟩ _ _ _ rfl (by simp only []; omega) (Sub.cons rfl <| Sub.cons rfl <| Sub.cons rfl <| Sub.nil _) (fun w hs => St.sel [] rfl rfl hs))

set_option maxRecDepth 100000 in
set_option maxHeartbeats 400000 in
theorem fast3_c (h : Int) (hh : 0 ≤ h ∧ h ≤ 400000) :
    FnV Try.prog 69 [(Value.int .i64 h)] [] (Value.int .i64 (fastF h)) := by
 have hs := slowF_le hh.1 hh.2
 have m1 := mulb (a := 10 * slowF h) (b := slowF h) (A := 90000) (B := 9000) (by omega) (by omega) (by omega) (by omega)
 refine fnV_of go69 Try.func69 rfl rfl fun w0 Q hQ hN => ?_
 change WJ _ _ _ _ [(0, (Value.int .i64 h))] []
 refine WS fun _ hK1 => ?_
 refine rS (AG rfl) ?_
 refine RK hK1 ?_
 refine WS fun _ hK2 => ?_
 refine rS (MV rfl) ?_
 refine rS (CL (slow3_c h hh) (ha_nil) rfl) ?_
 refine rS (AG rfl) ?_
 refine RK hK2 ?_
 refine w_seq fun _ hK3 => ?_
 refine WS fun _ hK4 => ?_
 refine rS (MV rfl) ?_
 refine rS (BI rfl (b_mul ⟨by omega, by omega⟩)) ?_
 refine rS (MV rfl) ?_
 refine rS (BI rfl (b_mul ⟨by omega, by omega⟩)) ?_
 refine rS (MV rfl) ?_
 refine rS (BI rfl (b_mul ⟨by omega, by omega⟩)) ?_
 refine rS (BI rfl b_lss) ?_
 refine RK hK4 ?_
 refine w_if rfl (fun h5 => ?_) (fun h5 => ?_)
 rotate_left 1
 · replace h5 := DF h5
   refine WK hK3 ?_
   refine WS fun _ hK7 => ?_
   refine rS (MV rfl) ?_
   refine rS (AG rfl) ?_
   refine RK hK7 ?_
   refine w_ret ?_
   refine Q1 hQ rfl rfl rfl ?_
   clear hQ hN hK7 hK4 hK3 hK2 hK1
   exact congrArg (Value.int .i64) (by unfold fastF; simp [*])
 replace h5 := DT h5
 refine w_region ?_
 refine rS (MV rfl) ?_
 refine rS (BI rfl (b_add ⟨by omega, by omega⟩)) ?_
 refine rS (AG rfl) ?_
 refine RK hK3 ?_
 refine WS fun _ hK6 => ?_
 refine rS (MV rfl) ?_
 refine rS (AG rfl) ?_
 refine RK hK6 ?_
 refine w_ret ?_
 refine Q1 hQ rfl rfl rfl ?_
 clear hQ hN hK6 hK4 hK3 hK2 hK1
 exact congrArg (Value.int .i64) (by unfold fastF; simp [*])

set_option maxRecDepth 100000 in
set_option maxHeartbeats 400000 in
theorem slow1_c (v : Int) (h : Int) (g1 : Nat) (hh : 0 ≤ h ∧ h ≤ 400000) (hv : 0 ≤ v ∧ v ≤ 10000) :
    FnV Try.prog 96 [(Value.int .i64 v), (Value.pointer (some ⟨g1, 0, none⟩))] [(blk g1 3 [(Value.int .i64 h)])] (Value.bool (decide (1962 * h < 10 * v * v))) := by
 have m1 := mulb (a := 10 * v) (b := v) (A := 100000) (B := 10000) (by omega) (by omega) (by omega) (by omega)
 refine fnV_of go96 Try.func96 rfl rfl fun w0 Q hQ hN => ?_
 change WJ _ _ _ _ [(0, (Value.int .i64 v)), (1, (Value.pointer (some ⟨g1, 0, none⟩)))] [(blk g1 3 [(Value.int .i64 h)]).ro]
 refine WS fun _ hK1 => ?_
 refine rS (AG rfl) ?_
 refine RK hK1 ?_
 refine WS fun _ hK2 => ?_
 refine rS (MV rfl) ?_
 refine rS (BI rfl (b_mul ⟨by omega, by omega⟩)) ?_
 refine rS (MV rfl) ?_
 refine rS (BI rfl (b_mul ⟨by omega, by omega⟩)) ?_
 refine rS (L1Q 0 rfl tk3 rfl) ?_
 refine rS (BI rfl (b_mul ⟨by omega, by omega⟩)) ?_
 refine rS (BI rfl b_gtr) ?_
 refine rS (AG rfl) ?_
 refine RK hK2 ?_
 refine w_ret ?_
 exact Q1 hQ rfl rfl rfl rfl

set_option maxRecDepth 100000 in
set_option maxHeartbeats 400000 in
theorem fast1_c (v : Int) (h : Int) (g1 : Nat) (hh : 0 ≤ h ∧ h ≤ 400000) (hv : 0 ≤ v ∧ v ≤ 10000) :
    FnV Try.prog 97 [(Value.int .i64 v), (Value.pointer (some ⟨g1, 0, none⟩))] [(blk g1 3 [(Value.int .i64 h)])] (Value.bool (decide (1962 * h ≤ 10 * v * v))) := by
 have m1 := mulb (a := 10 * v) (b := v) (A := 100000) (B := 10000) (by omega) (by omega) (by omega) (by omega)
 refine fnV_of go97 Try.func97 rfl rfl fun w0 Q hQ hN => ?_
 change WJ _ _ _ _ [(0, (Value.int .i64 v)), (1, (Value.pointer (some ⟨g1, 0, none⟩)))] [(blk g1 3 [(Value.int .i64 h)]).ro]
 refine WS fun _ hK1 => ?_
 refine rS (AG rfl) ?_
 refine RK hK1 ?_
 refine WS fun _ hK2 => ?_
 refine rS (MV rfl) ?_
 refine rS (BI rfl (b_mul ⟨by omega, by omega⟩)) ?_
 refine rS (MV rfl) ?_
 refine rS (BI rfl (b_mul ⟨by omega, by omega⟩)) ?_
 refine rS (L1Q 0 rfl tk3 rfl) ?_
 refine rS (BI rfl (b_mul ⟨by omega, by omega⟩)) ?_
 refine rS (BI rfl b_geq) ?_
 refine rS (AG rfl) ?_
 refine RK hK2 ?_
 refine w_ret ?_
 exact Q1 hQ rfl rfl rfl rfl

set_option maxRecDepth 100000 in
set_option maxHeartbeats 400000 in
theorem first_c (lo : Int) (hi : Int) (f : Value) (p : Int → Bool) (X : Assn) (r : Int) (hf : ∀ x0, 0 ≤ x0 ∧ x0 < hi → Clo Try.prog f [.int .i64 x0] [X] (.bool (p x0))) (hb : 0 ≤ lo ∧ lo ≤ r ∧ r ≤ hi ∧ hi ≤ 100000000) (hno : ∀ x, lo ≤ x → x < r → p x = false) (hyes : ∀ x, r ≤ x → x < hi → p x = true) :
    FnV Try.prog 77 [(Value.int .i64 lo), (Value.int .i64 hi), f] [X] (Value.int .i64 r) := by
 refine fnV_of go77 Try.func77 rfl rfl fun w0 Q hQ hN => ?_
 change WJ _ _ _ _ [(0, (Value.int .i64 lo)), (1, (Value.int .i64 hi)), (2, f)] [X.ro]
 refine WS fun _ hK1 => ?_
 refine rS (AG rfl) ?_
 refine RK hK1 ?_
 refine w_seq fun _ hK2 => ?_
 refine w_block ?_
 have hinit : (lo ≤ lo ∧ lo ≤ r) ∧ (r ≤ hi ∧ hi ≤ hi) := by first | trivial | omega | (refine ⟨?_, ?_⟩ <;> first | trivial | omega | simp)
 refine w_loop (ι := { z : Int × Int // (lo ≤ z.1 ∧ z.1 ≤ r) ∧ (r ≤ z.2 ∧ z.2 ≤ hi) }) (fun z => [(0, (Value.int .i64 z.1.1)), (1, (Value.int .i64 z.1.2)), (2, f)]) (fun z => [X.ro]) (fun z => (z.1.2 - z.1.1).toNat) ⟨(lo, hi), hinit⟩ (Sub.cons rfl <| Sub.cons rfl <| Sub.cons rfl <| Sub.nil _) (fun w hs => St.sel [0] rfl rfl hs) ?_
 clear hinit
 rintro ⟨⟨a, b⟩, ⟨hl0_0, hl0_1⟩⟩ J3 hJ3
 try dsimp only at hl0_0 hl0_1
 change WJ _ _ _ _ [(0, (Value.int .i64 a)), (1, (Value.int .i64 b)), (2, f)] [X.ro]
 refine w_seq fun _ hK4 => ?_
 refine WS fun _ hK5 => ?_
 refine rS (MV rfl) ?_
 refine rS (MV rfl) ?_
 refine rS (BI rfl b_lss) ?_
 refine RK hK5 ?_
 refine w_if rfl (fun h6 => ?_) (fun h6 => ?_)
 rotate_left 1
 · replace h6 := DF h6
   refine w_exit ?_
   refine k_exit_then ?_
   refine k_exit_then ?_
   refine k_exit_same ?_
   refine KK hK2 ?_
   refine WS fun _ hK9 => ?_
   refine rS (MV rfl) ?_
   refine rS (AG rfl) ?_
   refine RK hK9 ?_
   refine w_ret ?_
   refine Q1 hQ rfl rfl rfl ?_
   exact congrArg (Value.int .i64) (by omega)
 replace h6 := DT h6
 refine WK hK4 ?_
 refine w_block ?_
 refine WS fun _ hK7 => ?_
 refine rS (MV rfl) ?_
 refine rS (MV rfl) ?_
 refine rS (MV rfl) ?_
 refine rS (BI rfl (b_sub ⟨by omega, by omega⟩)) ?_
 refine rS (BI rfl (b_quo (by omega) (by omega) (by omega))) ?_
 refine rS (BI rfl (b_add ⟨by omega, by omega⟩)) ?_
 refine rS (AG rfl) ?_
 refine RK hK7 ?_
 refine WS fun _ hK8 => ?_
 refine rS (MV rfl) ?_
 refine rS (MV rfl) ?_
 refine rS (SX (sd_clo rfl rfl rfl (hf (a + ((b - a) / 2)) (by omega)) (ha_at 0 rfl rfl <| ha_nil)) rfl rfl) ?_
 refine RK hK8 ?_
 refine w_if rfl (fun hp => ?_) (fun hp => ?_)
 · refine w_region ?_
   refine rS (MV rfl) ?_
   refine rS (AG rfl) ?_
   refine r_nil ?_
   refine k_block ?_
   refine k_then (hJ3 ⟨(a, (a + ((b - a) / 2))), (by dsimp only; rcases Int.lt_or_le (a + (b - a) / 2) r with q | q; (have q2 := hno _ (by omega) q; first | (refine ⟨⟨by omega, by omega⟩, by omega, by omega⟩) | (rw [q2] at hp; cases hp)); (have q2 := hyes _ q (by omega); first | (refine ⟨⟨by omega, by omega⟩, by omega, by omega⟩) | (rw [q2] at hp; cases hp)))⟩ _ _ _ rfl (by simp only []; omega) (Sub.cons rfl <| Sub.cons rfl <| Sub.cons rfl <| Sub.nil _) (fun w hs => St.sel [0] rfl rfl hs))
 refine w_region ?_
 refine rS (MV rfl) ?_
 refine rS (BI rfl (b_add ⟨by omega, by omega⟩)) ?_
 refine rS (AG rfl) ?_
 refine r_nil ?_
 refine k_block ?_
 refine k_then (hJ3 ⟨(((a + ((b - a) / 2)) + 1), b), (by dsimp only; rcases Int.lt_or_le (a + (b - a) / 2) r with q | q; (have q2 := hno _ (by omega) q; first | (refine ⟨⟨by omega, by omega⟩, by omega, by omega⟩) | (rw [q2] at hp; cases hp)); (have q2 := hyes _ q (by omega); first | (refine ⟨⟨by omega, by omega⟩, by omega, by omega⟩) | (rw [q2] at hp; cases hp)))⟩ _ _ _ rfl (by simp only []; omega) (Sub.cons rfl <| Sub.cons rfl <| Sub.cons rfl <| Sub.nil _) (fun w hs => St.sel [0] rfl rfl hs))

set_option maxRecDepth 100000 in
set_option maxHeartbeats 400000 in
theorem slow_c (h : Int) (hh : 0 ≤ h ∧ h ≤ 400000) :
    FnV Try.prog 65 [(Value.int .i64 h)] [] (Value.int .i64 (slowF h)) := by
 have hs := slowF_le hh.1 hh.2
 have hfs := fastF_le hh.1 hh.2
 refine fnV_of go65 Try.func65 rfl rfl fun w0 Q hQ hN => ?_
 change WJ _ _ _ _ [(0, (Value.int .i64 h))] []
 refine WS fun _ hK1 => ?_
 refine BX1 rfl rfl fun b2 => ?_
 refine rS (AG rfl) ?_
 refine RK hK1 ?_
 refine WS fun _ hK3 => ?_
 refine rS (FU rfl) ?_
 refine rS (CL (first_c 0 10000 (Value.func (.func 96) [].toArray [(Value.pointer (some ⟨b2, 0, none⟩))].toArray) (fun u4 => (decide (1962 * h < 10 * u4 * u4))) (bun [(blk b2 3 [(Value.int .i64 h)])]) (slowF h + 1) (by intro u4 _; exact clo_of (fi := []) (ca := [(Value.pointer (some ⟨b2, 0, none⟩))]) (fnV_bun (slow1_c u4 h b2 (by first | assumption | omega) (by first | assumption | omega)) (ha_at 0 rfl rfl <| ha_nil))) (by first | assumption | omega | (simp; done) | (simp; omega)) (by intro x h0 hx; exact slow_no hh.1 (by omega) hx) (by intro x hx h1; exact slow_yes hh.1 hx)) (ha_cons (has_bun (ha_at 0 rfl rfl <| ha_nil)) <| ha_nil) rfl) ?_
 refine rS (BI rfl (b_sub ⟨by omega, by omega⟩)) ?_
 refine rS (AG rfl) ?_
 refine RK hK3 ?_
 refine w_ret ?_
 refine Q1 hQ rfl rfl rfl ?_
 exact congrArg (Value.int .i64) (by omega)

set_option maxRecDepth 100000 in
set_option maxHeartbeats 400000 in
theorem fast_c (h : Int) (hh : 0 ≤ h ∧ h ≤ 400000) :
    FnV Try.prog 66 [(Value.int .i64 h)] [] (Value.int .i64 (fastF h)) := by
 have hs := slowF_le hh.1 hh.2
 have hfs := fastF_le hh.1 hh.2
 refine fnV_of go66 Try.func66 rfl rfl fun w0 Q hQ hN => ?_
 change WJ _ _ _ _ [(0, (Value.int .i64 h))] []
 refine WS fun _ hK1 => ?_
 refine BX1 rfl rfl fun b2 => ?_
 refine rS (AG rfl) ?_
 refine RK hK1 ?_
 refine WS fun _ hK3 => ?_
 refine rS (FU rfl) ?_
 refine rS (CL (first_c 0 10000 (Value.func (.func 97) [].toArray [(Value.pointer (some ⟨b2, 0, none⟩))].toArray) (fun u4 => (decide (1962 * h ≤ 10 * u4 * u4))) (bun [(blk b2 3 [(Value.int .i64 h)])]) (fastF h) (by intro u4 _; exact clo_of (fi := []) (ca := [(Value.pointer (some ⟨b2, 0, none⟩))]) (fnV_bun (fast1_c u4 h b2 (by first | assumption | omega) (by first | assumption | omega)) (ha_at 0 rfl rfl <| ha_nil))) (by first | assumption | omega | (simp; done) | (simp; omega)) (by intro x h0 hx; exact fast_no hh.1 (by omega) hx) (by intro x hx h1; exact fast_yes hh.1 hx)) (ha_cons (has_bun (ha_at 0 rfl rfl <| ha_nil)) <| ha_nil) rfl) ?_
 refine rS (AG rfl) ?_
 refine RK hK3 ?_
 refine w_ret ?_
 refine Q1 hQ rfl rfl rfl ?_
 exact congrArg (Value.int .i64) (by omega)

end Go.Proofs.Ytpbgdeojcefnmaa
