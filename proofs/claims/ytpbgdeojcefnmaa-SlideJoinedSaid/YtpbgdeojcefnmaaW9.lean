/-
  Walks: kreisel/kreiselref03.slow, kreisel/kreiselref03.fast, kreisel/slide.slow$1, kreisel/slide.fast$1, kreisel/slide.first[int], kreisel/slide.slow, kreisel/slide.fast, kreisel/kreiselref01.SameSpans, kreisel/kreiselref01.Same, kreisel/kreiselref03.both, kreisel/slide.takers$1, kreisel/slide.takers$2, kreisel/slide.takers, (kreisel/slide.rider).heads, (kreisel/slide.rider).heads$1, (kreisel/slide.rider).list, kreisel/kreiselref03.heads, kreisel/slide.open, kreisel/slide.open
-/
import Derived.Test.YtpbgdeojcefnmaaTab
import Derived.Test.YtpbgdeojcefnmaaShort
import Derived.Test.YtpbgdeojcefnmaaW4
namespace Go.Proofs.Ytpbgdeojcefnmaa
open Go.RowKit
set_option linter.unusedVariables false

set_option maxRecDepth 100000 in
set_option maxHeartbeats 400000 in
theorem slow3_c (h : Int) (hh : 0 ≤ h ∧ h ≤ 400000) :
    FnV Try.prog 68 [(Value.int .i64 h)] [] (Value.int .i64 (slowF h)) := by
 refine fnV_of go68 Try.func68 rfl rfl fun w0 Q hQ hN => ?_
 change WJ _ _ _ _ [(0, (Value.int .i64 h))] []
 refine WS fun _ hK1 => ?_
 refine rS (AG rfl) ?_
 refine RK hK1 ?_
 refine WS fun _ hK2 => ?_
 refine rS (AG rfl) ?_
 refine RK hK2 ?_
 refine w_seq fun _ hK3 => ?_
 refine WS fun _ hK4 => ?_
 refine rS (AG rfl) ?_
 refine RK hK4 ?_
 refine w_block ?_
 have hinit : (0 ≤ (0 : Int) ∧ 0 ≤ (32768 : Int) ∧ (0 : Int) + capB (32768 : Int) ≤ 65536 ∧ (0 : Int) + (32768 : Int) ≤ 65536) ∧ (Pow2 (32768 : Int)) ∧ (10 * (0 : Int) * (0 : Int) ≤ 1962 * h) ∧ (1962 * h < 10 * ((0 : Int) + capB (32768 : Int)) * ((0 : Int) + capB (32768 : Int))) := by (refine ⟨⟨by decide, by decide, by decide, by decide⟩, .inr ⟨15, by decide⟩, by omega, by rw [capB_pos (by decide)]; omega⟩)
 refine w_loop (ι := { z : Int × Int // (0 ≤ z.1 ∧ 0 ≤ z.2 ∧ z.1 + capB z.2 ≤ 65536 ∧ z.1 + z.2 ≤ 65536) ∧ (Pow2 z.2) ∧ (10 * z.1 * z.1 ≤ 1962 * h) ∧ (1962 * h < 10 * (z.1 + capB z.2) * (z.1 + capB z.2)) }) (fun z => [(0, (Value.int .i64 h)), (3, (Value.int .i64 z.1.1)), (4, (Value.int .i64 z.1.2))]) (fun z => []) (fun z => z.1.2.toNat) ⟨((0 : Int), (32768 : Int)), hinit⟩ (Sub.cons rfl <| Sub.cons rfl <| Sub.cons rfl <| Sub.nil _) (fun w hs => St.sel [] rfl rfl hs) ?_
 clear hinit
 rintro ⟨⟨n, b⟩, ⟨hl0_0, hl0_1, hl0_2, hl0_3⟩⟩ J5 hJ5
 try dsimp only at hl0_0 hl0_1 hl0_2 hl0_3
 change WJ _ _ _ _ [(0, (Value.int .i64 h)), (3, (Value.int .i64 n)), (4, (Value.int .i64 b))] []
 refine w_seq fun _ hK6 => ?_
 refine WS fun _ hK7 => ?_
 refine rS (MV rfl) ?_
 refine rS (BI rfl b_gtr) ?_
 refine RK hK7 ?_
 refine w_if rfl (fun hb => ?_) (fun hb => ?_)
 rotate_left 1
 · replace hb := DF hb
   refine w_exit ?_
   refine k_exit_then ?_
   refine k_exit_then ?_
   refine k_exit_same ?_
   refine KK hK3 ?_
   refine WS fun _ hK10 => ?_
   refine rS (MV rfl) ?_
   refine rS (AG rfl) ?_
   refine RK hK10 ?_
   refine w_ret ?_
   refine Q1 hQ rfl rfl rfl ?_
   have e : b = 0 := by omega
   subst e
   exact congrArg (Value.int .i64) (slowF_eq hh.1 ⟨hl0_0.1, hl0_2, hl0_3⟩).symm
 replace hb := DT hb
 refine WK hK6 ?_
 refine w_seq fun _ hK8 => ?_
 refine w_block ?_
 refine WS fun _ hK9 => ?_
 refine rS (MV rfl) ?_
 refine rS (MV rfl) ?_
 refine rS (BI rfl (b_add ⟨by omega, by omega⟩)) ?_
 refine rS (BI rfl (b_mul ⟨by omega, by omega⟩)) ?_
 refine rS (MV rfl) ?_
 refine rS (MV rfl) ?_
 refine rS (BI rfl (b_add ⟨by omega, by omega⟩)) ?_
 have m1 := mulb (a := 10 * (n + b)) (b := n + b) (A := 655360) (B := 65536) (by omega) (by omega) (by omega) (by omega)
 refine rS (BI rfl (b_mul ⟨by omega, by omega⟩)) ?_
 refine rS (MV rfl) ?_
 refine rS (BI rfl (b_mul ⟨by omega, by omega⟩)) ?_
 refine rS (BI rfl b_leq) ?_
 refine RK hK9 ?_
 refine w_if rfl (fun hq => ?_) (fun hq => ?_)
 rotate_left 1
 · replace hq := DF hq
   refine w_skip ?_
   refine k_block ?_
   refine KK hK8 ?_
   refine w_region ?_
   refine rS (MV rfl) ?_
   refine rS (BI rfl (b_quo (by omega) (by omega) (by omega))) ?_
   refine rS (AG rfl) ?_
   refine r_nil ?_
   refine k_then (hJ5 ⟨(n, (b / 2)), (by dsimp only; obtain ⟨q1, q2⟩ := half_cap hl0_1 hb; have q3 := capB_pos hb; rw [q1]; rw [q3] at hl0_0 hl0_3; refine ⟨⟨by omega, by omega, by omega, by omega⟩, q2, by omega, ?_⟩; first | omega | (rw [show n + b + b = n + 2 * b by omega]; omega))⟩ _ _ _ rfl (by simp only []; omega) (Sub.cons rfl <| Sub.cons rfl <| Sub.cons rfl <| Sub.nil _) (fun w hs => St.sel [] rfl rfl hs))
 replace hq := DT hq
 refine w_region ?_
 refine rS (MV rfl) ?_
 refine rS (MV rfl) ?_
 refine rS (BI rfl (b_add ⟨by omega, by omega⟩)) ?_
 refine rS (AG rfl) ?_
 refine r_nil ?_
 refine k_block ?_
 refine KK hK8 ?_
 refine w_region ?_
 refine rS (MV rfl) ?_
 refine rS (BI rfl (b_quo (by omega) (by omega) (by omega))) ?_
 refine rS (AG rfl) ?_
 refine r_nil ?_
 refine k_then (hJ5 ⟨((n + b), (b / 2)), (by dsimp only; obtain ⟨q1, q2⟩ := half_cap hl0_1 hb; have q3 := capB_pos hb; rw [q1]; rw [q3] at hl0_0 hl0_3; refine ⟨⟨by omega, by omega, by omega, by omega⟩, q2, by omega, ?_⟩; first | omega | (rw [show n + b + b = n + 2 * b by omega]; omega))⟩ _ _ _ rfl (by simp only []; omega) (Sub.cons rfl <| Sub.cons rfl <| Sub.cons rfl <| Sub.nil _) (fun w hs => St.sel [] rfl rfl hs))

set_option maxRecDepth 100000 in
set_option maxHeartbeats 400000 in
theorem fast3_c (h : Int) (hh : 0 ≤ h ∧ h ≤ 400000) :
    FnV Try.prog 69 [(Value.int .i64 h)] [] (Value.int .i64 (fastF h)) := by
 have hs := slowF_le hh.1 hh.2
 have m1 := mulb (a := 10 * slowF h) (b := slowF h) (A := 90000) (B := 9000) (by omega) (by omega) (by omega) (by omega)
 refine fnV_of go69 Try.func69 rfl rfl fun w0 Q hQ hN => ?_
 change WJ _ _ _ _ [(0, (Value.int .i64 h))] []
 refine WS fun _ hK1 => ?_
 refine rS (AG rfl) ?_
 refine RK hK1 ?_
 refine WS fun _ hK2 => ?_
 refine rS (MV rfl) ?_
 refine rS (CL (slow3_c h hh) (ha_nil) rfl) ?_
 refine rS (AG rfl) ?_
 refine RK hK2 ?_
 refine w_seq fun _ hK3 => ?_
 refine WS fun _ hK4 => ?_
 refine rS (MV rfl) ?_
 refine rS (BI rfl (b_mul ⟨by omega, by omega⟩)) ?_
 refine rS (MV rfl) ?_
 refine rS (BI rfl (b_mul ⟨by omega, by omega⟩)) ?_
 refine rS (MV rfl) ?_
 refine rS (BI rfl (b_mul ⟨by omega, by omega⟩)) ?_
 refine rS (BI rfl b_lss) ?_
 refine RK hK4 ?_
 refine w_if rfl (fun h5 => ?_) (fun h5 => ?_)
 rotate_left 1
 · replace h5 := DF h5
   refine WK hK3 ?_
   refine WS fun _ hK7 => ?_
   refine rS (MV rfl) ?_
   refine rS (AG rfl) ?_
   refine RK hK7 ?_
   refine w_ret ?_
   refine Q1 hQ rfl rfl rfl ?_
   clear hQ hN hK7 hK4 hK3 hK2 hK1
   exact congrArg (Value.int .i64) (by unfold fastF; simp [*])
 replace h5 := DT h5
 refine w_region ?_
 refine rS (MV rfl) ?_
 refine rS (BI rfl (b_add ⟨by omega, by omega⟩)) ?_
 refine rS (AG rfl) ?_
 refine RK hK3 ?_
 refine WS fun _ hK6 => ?_
 refine rS (MV rfl) ?_
 refine rS (AG rfl) ?_
 refine RK hK6 ?_
 refine w_ret ?_
 refine Q1 hQ rfl rfl rfl ?_
 clear hQ hN hK6 hK4 hK3 hK2 hK1
 exact congrArg (Value.int .i64) (by unfold fastF; simp [*])

set_option maxRecDepth 100000 in
set_option maxHeartbeats 400000 in
theorem slow1_c (v : Int) (h : Int) (g1 : Nat) (hh : 0 ≤ h ∧ h ≤ 400000) (hv : 0 ≤ v ∧ v ≤ 10000) :
    FnV Try.prog 96 [(Value.int .i64 v), (Value.pointer (some ⟨g1, 0, none⟩))] [(blk g1 3 [(Value.int .i64 h)])] (Value.bool (decide (1962 * h < 10 * v * v))) := by
 have m1 := mulb (a := 10 * v) (b := v) (A := 100000) (B := 10000) (by omega) (by omega) (by omega) (by omega)
 refine fnV_of go96 Try.func96 rfl rfl fun w0 Q hQ hN => ?_
 change WJ _ _ _ _ [(0, (Value.int .i64 v)), (1, (Value.pointer (some ⟨g1, 0, none⟩)))] [(blk g1 3 [(Value.int .i64 h)]).ro]
 refine WS fun _ hK1 => ?_
 refine rS (AG rfl) ?_
 refine RK hK1 ?_
 refine WS fun _ hK2 => ?_
 refine rS (MV rfl) ?_
 refine rS (BI rfl (b_mul ⟨by omega, by omega⟩)) ?_
 refine rS (MV rfl) ?_
 refine rS (BI rfl (b_mul ⟨by omega, by omega⟩)) ?_
 refine rS (L1Q 0 rfl tk3 rfl) ?_
 refine rS (BI rfl (b_mul ⟨by omega, by omega⟩)) ?_
 refine rS (BI rfl b_gtr) ?_
 refine rS (AG rfl) ?_
 refine RK hK2 ?_
 refine w_ret ?_
 exact Q1 hQ rfl rfl rfl rfl

set_option maxRecDepth 100000 in
set_option maxHeartbeats 400000 in
theorem fast1_c (v : Int) (h : Int) (g1 : Nat) (hh : 0 ≤ h ∧ h ≤ 400000) (hv : 0 ≤ v ∧ v ≤ 10000) :
    FnV Try.prog 97 [(Value.int .i64 v), (Value.pointer (some ⟨g1, 0, none⟩))] [(blk g1 3 [(Value.int .i64 h)])] (Value.bool (decide (1962 * h ≤ 10 * v * v))) := by
 have m1 := mulb (a := 10 * v) (b := v) (A := 100000) (B := 10000) (by omega) (by omega) (by omega) (by omega)
 refine fnV_of go97 Try.func97 rfl rfl fun w0 Q hQ hN => ?_
 change WJ _ _ _ _ [(0, (Value.int .i64 v)), (1, (Value.pointer (some ⟨g1, 0, none⟩)))] [(blk g1 3 [(Value.int .i64 h)]).ro]
 refine WS fun _ hK1 => ?_
 refine rS (AG rfl) ?_
 refine RK hK1 ?_
 refine WS fun _ hK2 => ?_
 refine rS (MV rfl) ?_
 refine rS (BI rfl (b_mul ⟨by omega, by omega⟩)) ?_
 refine rS (MV rfl) ?_
 refine rS (BI rfl (b_mul ⟨by omega, by omega⟩)) ?_
 refine rS (L1Q 0 rfl tk3 rfl) ?_
 refine rS (BI rfl (b_mul ⟨by omega, by omega⟩)) ?_
 refine rS (BI rfl b_geq) ?_
 refine rS (AG rfl) ?_
 refine RK hK2 ?_
 refine w_ret ?_
 exact Q1 hQ rfl rfl rfl rfl

set_option maxRecDepth 100000 in
set_option maxHeartbeats 400000 in
theorem first_c (lo : Int) (hi : Int) (f : Value) (p : Int → Bool) (X : Assn) (r : Int) (hf : ∀ x0, 0 ≤ x0 ∧ x0 < hi → Clo Try.prog f [.int .i64 x0] [X] (.bool (p x0))) (hb : 0 ≤ lo ∧ lo ≤ r ∧ r ≤ hi ∧ hi ≤ 100000000) (hno : ∀ x, lo ≤ x → x < r → p x = false) (hyes : ∀ x, r ≤ x → x < hi → p x = true) :
    FnV Try.prog 77 [(Value.int .i64 lo), (Value.int .i64 hi), f] [X] (Value.int .i64 r) := by
 refine fnV_of go77 Try.func77 rfl rfl fun w0 Q hQ hN => ?_
 change WJ _ _ _ _ [(0, (Value.int .i64 lo)), (1, (Value.int .i64 hi)), (2, f)] [X.ro]
 refine WS fun _ hK1 => ?_
 refine rS (AG rfl) ?_
 refine RK hK1 ?_
 refine w_seq fun _ hK2 => ?_
 refine w_block ?_
 have hinit : (lo ≤ lo ∧ lo ≤ r) ∧ (r ≤ hi ∧ hi ≤ hi) := by first | trivial | omega | (refine ⟨?_, ?_⟩ <;> first | trivial | omega | simp)
 refine w_loop (ι := { z : Int × Int // (lo ≤ z.1 ∧ z.1 ≤ r) ∧ (r ≤ z.2 ∧ z.2 ≤ hi) }) (fun z => [(0, (Value.int .i64 z.1.1)), (1, (Value.int .i64 z.1.2)), (2, f)]) (fun z => [X.ro]) (fun z => (z.1.2 - z.1.1).toNat) ⟨(lo, hi), hinit⟩ (Sub.cons rfl <| Sub.cons rfl <| Sub.cons rfl <| Sub.nil _) (fun w hs => St.sel [0] rfl rfl hs) ?_
 clear hinit
 rintro ⟨⟨a, b⟩, ⟨hl0_0, hl0_1⟩⟩ J3 hJ3
 try dsimp only at hl0_0 hl0_1
 change WJ _ _ _ _ [(0, (Value.int .i64 a)), (1, (Value.int .i64 b)), (2, f)] [X.ro]
 refine w_seq fun _ hK4 => ?_
 refine WS fun _ hK5 => ?_
 refine rS (MV rfl) ?_
 refine rS (MV rfl) ?_
 refine rS (BI rfl b_lss) ?_
 refine RK hK5 ?_
 refine w_if rfl (fun h6 => ?_) (fun h6 => ?_)
 rotate_left 1
 · replace h6 := DF h6
   refine w_exit ?_
   refine k_exit_then ?_
   refine k_exit_then ?_
   refine k_exit_same ?_
   refine KK hK2 ?_
   refine WS fun _ hK9 => ?_
   refine rS (MV rfl) ?_
   refine rS (AG rfl) ?_
   refine RK hK9 ?_
   refine w_ret ?_
   refine Q1 hQ rfl rfl rfl ?_
   exact congrArg (Value.int .i64) (by omega)
 replace h6 := DT h6
 refine WK hK4 ?_
 refine w_block ?_
 refine WS fun _ hK7 => ?_
 refine rS (MV rfl) ?_
 refine rS (MV rfl) ?_
 refine rS (MV rfl) ?_
 refine rS (BI rfl (b_sub ⟨by omega, by omega⟩)) ?_
 refine rS (BI rfl (b_quo (by omega) (by omega) (by omega))) ?_
 refine rS (BI rfl (b_add ⟨by omega, by omega⟩)) ?_
 refine rS (AG rfl) ?_
 refine RK hK7 ?_
 refine WS fun _ hK8 => ?_
 refine rS (MV rfl) ?_
 refine rS (MV rfl) ?_
 refine rS (SX (sd_clo rfl rfl rfl (hf (a + ((b - a) / 2)) (by omega)) (ha_at 0 rfl rfl <| ha_nil)) rfl rfl) ?_
 refine RK hK8 ?_
 refine w_if rfl (fun hp => ?_) (fun hp => ?_)
 · refine w_region ?_
   refine rS (MV rfl) ?_
   refine rS (AG rfl) ?_
   refine r_nil ?_
   refine k_block ?_
   refine k_then (hJ3 ⟨(a, (a + ((b - a) / 2))), (by dsimp only; rcases Int.lt_or_le (a + (b - a) / 2) r with q | q; (have q2 := hno _ (by omega) q; first | (refine ⟨⟨by omega, by omega⟩, by omega, by omega⟩) | (rw [q2] at hp; cases hp)); (have q2 := hyes _ q (by omega); first | (refine ⟨⟨by omega, by omega⟩, by omega, by omega⟩) | (rw [q2] at hp; cases hp)))⟩ _ _ _ rfl (by simp only []; omega) (Sub.cons rfl <| Sub.cons rfl <| Sub.cons rfl <| Sub.nil _) (fun w hs => St.sel [0] rfl rfl hs))
 refine w_region ?_
 refine rS (MV rfl) ?_
 refine rS (BI rfl (b_add ⟨by omega, by omega⟩)) ?_
 refine rS (AG rfl) ?_
 refine r_nil ?_
 refine k_block ?_
 refine k_then (hJ3 ⟨(((a + ((b - a) / 2)) + 1), b), (by dsimp only; rcases Int.lt_or_le (a + (b - a) / 2) r with q | q; (have q2 := hno _ (by omega) q; first | (refine ⟨⟨by omega, by omega⟩, by omega, by omega⟩) | (rw [q2] at hp; cases hp)); (have q2 := hyes _ q (by omega); first | (refine ⟨⟨by omega, by omega⟩, by omega, by omega⟩) | (rw [q2] at hp; cases hp)))⟩ _ _ _ rfl (by simp only []; omega) (Sub.cons rfl <| Sub.cons rfl <| Sub.cons rfl <| Sub.nil _) (fun w hs => St.sel [0] rfl rfl hs))

set_option maxRecDepth 100000 in
set_option maxHeartbeats 400000 in
theorem slow_c (h : Int) (hh : 0 ≤ h ∧ h ≤ 400000) :
    FnV Try.prog 65 [(Value.int .i64 h)] [] (Value.int .i64 (slowF h)) := by
 have hs := slowF_le hh.1 hh.2
 have hfs := fastF_le hh.1 hh.2
 refine fnV_of go65 Try.func65 rfl rfl fun w0 Q hQ hN => ?_
 change WJ _ _ _ _ [(0, (Value.int .i64 h))] []
 refine WS fun _ hK1 => ?_
 refine BX1 rfl rfl fun b2 => ?_
 refine rS (AG rfl) ?_
 refine RK hK1 ?_
 refine WS fun _ hK3 => ?_
 refine rS (FU rfl) ?_
 refine rS (CL (first_c 0 10000 (Value.func (.func 96) [].toArray [(Value.pointer (some ⟨b2, 0, none⟩))].toArray) (fun u4 => (decide (1962 * h < 10 * u4 * u4))) (bun [(blk b2 3 [(Value.int .i64 h)])]) (slowF h + 1) (by intro u4 _; exact clo_of (fi := []) (ca := [(Value.pointer (some ⟨b2, 0, none⟩))]) (fnV_bun (slow1_c u4 h b2 (by first | assumption | omega) (by first | assumption | omega)) (ha_at 0 rfl rfl <| ha_nil))) (by first | assumption | omega | (simp; done) | (simp; omega)) (by intro x h0 hx; exact slow_no hh.1 (by omega) hx) (by intro x hx h1; exact slow_yes hh.1 hx)) (ha_cons (has_bun (ha_at 0 rfl rfl <| ha_nil)) <| ha_nil) rfl) ?_
 refine rS (BI rfl (b_sub ⟨by omega, by omega⟩)) ?_
 refine rS (AG rfl) ?_
 refine RK hK3 ?_
 refine w_ret ?_
 refine Q1 hQ rfl rfl rfl ?_
 exact congrArg (Value.int .i64) (by omega)

set_option maxRecDepth 100000 in
set_option maxHeartbeats 400000 in
theorem fast_c (h : Int) (hh : 0 ≤ h ∧ h ≤ 400000) :
    FnV Try.prog 66 [(Value.int .i64 h)] [] (Value.int .i64 (fastF h)) := by
 have hs := slowF_le hh.1 hh.2
 have hfs := fastF_le hh.1 hh.2
 refine fnV_of go66 Try.func66 rfl rfl fun w0 Q hQ hN => ?_
 change WJ _ _ _ _ [(0, (Value.int .i64 h))] []
 refine WS fun _ hK1 => ?_
 refine BX1 rfl rfl fun b2 => ?_
 refine rS (AG rfl) ?_
 refine RK hK1 ?_
 refine WS fun _ hK3 => ?_
 refine rS (FU rfl) ?_
 refine rS (CL (first_c 0 10000 (Value.func (.func 97) [].toArray [(Value.pointer (some ⟨b2, 0, none⟩))].toArray) (fun u4 => (decide (1962 * h ≤ 10 * u4 * u4))) (bun [(blk b2 3 [(Value.int .i64 h)])]) (fastF h) (by intro u4 _; exact clo_of (fi := []) (ca := [(Value.pointer (some ⟨b2, 0, none⟩))]) (fnV_bun (fast1_c u4 h b2 (by first | assumption | omega) (by first | assumption | omega)) (ha_at 0 rfl rfl <| ha_nil))) (by first | assumption | omega | (simp; done) | (simp; omega)) (by intro x h0 hx; exact fast_no hh.1 (by omega) hx) (by intro x hx h1; exact fast_yes hh.1 hx)) (ha_cons (has_bun (ha_at 0 rfl rfl <| ha_nil)) <| ha_nil) rfl) ?_
 refine rS (AG rfl) ?_
 refine RK hK3 ?_
 refine w_ret ?_
 refine Q1 hQ rfl rfl rfl ?_
 exact congrArg (Value.int .i64) (by omega)

set_option maxRecDepth 100000 in
set_option maxHeartbeats 400000 in
theorem samespans_c (la : List SpanV) (laA : Option Addr) (laC : Nat) (lb : List SpanV) (lbA : Option Addr) (lbC : Nat) (h1 : la.length ≤ 1000000) (h2 : lb.length ≤ 1000000) :
    FnV Try.prog 28 [(Value.slice laA la.length laC), (Value.slice lbA lb.length lbC)] [(rd laA la.length 2 (la.map SpanV.cells)), (rd lbA lb.length 2 (lb.map SpanV.cells))] (Value.bool (decide (la = lb))) := by
 refine fnV_of go28 Try.func28 rfl rfl fun w0 Q hQ hN => ?_
 change WJ _ _ _ _ [(0, (Value.slice laA la.length laC)), (1, (Value.slice lbA lb.length lbC))] [(rd laA la.length 2 (la.map SpanV.cells)).ro, (rd lbA lb.length 2 (lb.map SpanV.cells)).ro]
 refine WS fun _ hK1 => ?_
 refine rS (AG rfl) ?_
 refine RK hK1 ?_
 refine w_seq fun _ hK2 => ?_
 refine WS fun _ hK3 => ?_
 refine rS (MV rfl) ?_
 refine rS (LN rfl ut31) ?_
 refine rS (MV rfl) ?_
 refine rS (LN rfl ut31) ?_
 refine rS (BI rfl b_neq) ?_
 refine RK hK3 ?_
 refine w_if rfl (fun hl => ?_) (fun hl => ?_)
 · replace hl := XT hl
   refine WS fun _ hK4 => ?_
   refine rS (AG rfl) ?_
   refine RK hK4 ?_
   refine w_ret ?_
   refine Q1 hQ rfl rfl rfl ?_
   first | exact congrArg Value.bool (decide_eq_false (lists_ne hx hy h)).symm | exact congrArg Value.bool (decide_eq_true (lists_eq (by omega) hl0_1 (by omega))).symm | exact congrArg Value.bool (decide_eq_false (fun e => by subst e; omega)).symm
 replace hl := XF hl
 refine WK hK2 ?_
 refine w_seq fun _ hK5 => ?_
 refine WS fun _ hK6 => ?_
 refine rS (AG rfl) ?_
 refine RK hK6 ?_
 refine w_block ?_
 have hinit : (0 ≤ la.length) ∧ (la.take 0 = lb.take 0) := by simp
 refine w_loop (ι := { z : Nat // (z ≤ la.length) ∧ (la.take z = lb.take z) }) (fun z => [(0, (Value.slice laA la.length laC)), (1, (Value.slice lbA lb.length lbC)), (5, (Value.int .i64 (z.1 : Int)))]) (fun z => [(rd laA la.length 2 (la.map SpanV.cells)).ro, (rd lbA lb.length 2 (lb.map SpanV.cells)).ro]) (fun z => la.length - z.1) ⟨0, hinit⟩ (Sub.cons rfl <| Sub.cons rfl <| Sub.cons rfl <| Sub.nil _) (fun w hs => St.sel [0, 1] rfl rfl hs) ?_
 clear hinit
 rintro ⟨i, ⟨hl0_0, hl0_1⟩⟩ J7 hJ7
 change WJ _ _ _ _ [(0, (Value.slice laA la.length laC)), (1, (Value.slice lbA lb.length lbC)), (5, (Value.int .i64 (i : Int)))] [(rd laA la.length 2 (la.map SpanV.cells)).ro, (rd lbA lb.length 2 (lb.map SpanV.cells)).ro]
 refine w_seq fun _ hK8 => ?_
 refine WS fun _ hK9 => ?_
 refine rS (MV rfl) ?_
 refine rS (MV rfl) ?_
 refine rS (LN rfl ut31) ?_
 refine rS (BI rfl b_lss) ?_
 refine RK hK9 ?_
 refine w_if rfl (fun h10 => ?_) (fun h10 => ?_)
 rotate_left 1
 · replace h10 := DF h10
   refine w_exit ?_
   refine k_exit_then ?_
   refine k_exit_then ?_
   refine k_exit_same ?_
   refine KK hK5 ?_
   refine WS fun _ hK14 => ?_
   refine rS (AG rfl) ?_
   refine RK hK14 ?_
   refine w_ret ?_
   refine Q1 hQ rfl rfl rfl ?_
   first | exact congrArg Value.bool (decide_eq_false (lists_ne hx hy h)).symm | exact congrArg Value.bool (decide_eq_true (lists_eq (by omega) hl0_1 (by omega))).symm | exact congrArg Value.bool (decide_eq_false (fun e => by subst e; omega)).symm
 replace h10 := DT h10
 refine WK hK8 ?_
 refine w_seq fun _ hK11 => ?_
 refine w_block ?_
 refine w_seq fun _ hK12 => ?_
 refine w_draw mixed 9 (by kernel_rfl) ?_
 refine dS (MV rfl) ?_
 refine dS (MV rfl) ?_
 obtain ⟨x, hx⟩ : ∃ y_, la[i]? = some y_ := ⟨la[i]'(by omega), List.getElem?_eq_getElem _⟩
 have hxm : (la.map SpanV.cells)[i]? = some (SpanV.cells x) := by rw [List.getElem?_map, hx]; rfl
 refine dS (IA i rfl (has_at 0 rfl) te31 (by decide) (by omega) (by omega)) ?_
 refine dS (LEN i 0 (SpanV.cells x) rfl tk26 (has_at 0 rfl) hxm rfl (by decide) rfl rfl) ?_
 refine dS (MV rfl) ?_
 refine dS (MV rfl) ?_
 obtain ⟨y, hy⟩ : ∃ y_, lb[i]? = some y_ := ⟨lb[i]'(by omega), List.getElem?_eq_getElem _⟩
 have hym : (lb.map SpanV.cells)[i]? = some (SpanV.cells y) := by rw [List.getElem?_map, hy]; rfl
 refine dS (IA i rfl (has_at 1 rfl) te31 (by decide) (by omega) (by omega)) ?_
 refine dS (LEN i 0 (SpanV.cells y) rfl tk26 (has_at 1 rfl) hym rfl (by decide) rfl rfl) ?_
 refine dS (BI rfl (nes26 _ _ x y)) ?_
 refine d_end ?_
 refine RK hK12 ?_
 refine w_if rfl (fun h => ?_) (fun h => ?_)
 rotate_left 1
 · replace h := XF h
   refine w_skip ?_
   refine k_block ?_
   refine KK hK11 ?_
   refine w_region ?_
   refine rS (MV rfl) ?_
   refine rS (BI rfl (b_add ⟨by omega, by omega⟩)) ?_
   refine rS (AG rfl) ?_
   refine r_nil ?_
   refine k_then (hJ7 ⟨(i + 1), ⟨by omega, take_same hl0_1 hx hy h⟩⟩ _ _ _ rfl (by first | omega | (simp; omega)) (Sub.cons rfl <| Sub.cons rfl <| Sub.cons rfl <| Sub.nil _) (fun w hs => St.sel [0, 1] rfl rfl hs))
 replace h := XT h
 refine WS fun _ hK13 => ?_
 refine rS (AG rfl) ?_
 refine RK hK13 ?_
 refine w_ret ?_
 refine Q1 hQ rfl rfl rfl ?_
 first | exact congrArg Value.bool (decide_eq_false (lists_ne hx hy h)).symm | exact congrArg Value.bool (decide_eq_true (lists_eq (by omega) hl0_1 (by omega))).symm | exact congrArg Value.bool (decide_eq_false (fun e => by subst e; omega)).symm

set_option maxRecDepth 100000 in
set_option maxHeartbeats 400000 in
theorem same_c (la : List StretchV) (laA : Option Addr) (laC : Nat) (lb : List StretchV) (lbA : Option Addr) (lbC : Nat) (h1 : la.length ≤ 1000000) (h2 : lb.length ≤ 1000000) :
    FnV Try.prog 29 [(Value.agg (TrackV.cells (TrackV.mk (Slc.mk laA la.length laC))).toArray), (Value.agg (TrackV.cells (TrackV.mk (Slc.mk lbA lb.length lbC))).toArray)] [(rd laA la.length 9 (la.map StretchV.cells)), (rd lbA lb.length 9 (lb.map StretchV.cells))] (Value.bool (decide (la = lb))) := by
 refine fnV_of go29 Try.func29 rfl rfl fun w0 Q hQ hN => ?_
 change WJ _ _ _ _ [(0, (Value.agg (TrackV.cells (TrackV.mk (Slc.mk laA la.length laC))).toArray)), (1, (Value.agg (TrackV.cells (TrackV.mk (Slc.mk lbA lb.length lbC))).toArray))] [(rd laA la.length 9 (la.map StretchV.cells)).ro, (rd lbA lb.length 9 (lb.map StretchV.cells)).ro]
 refine WS fun _ hK1 => ?_
 refine BXA rfl fun b2 => ?_
 refine BXA rfl fun b3 => ?_
 refine rS (AG rfl) ?_
 refine RK hK1 ?_
 refine w_seq fun _ hK4 => ?_
 refine WS fun _ hK5 => ?_
 refine rS (FA 0 rfl fo24_0 rfl) ?_
 refine rS (L1 (Value.slice laA la.length laC) 1 rfl tk22 rfl rfl) ?_
 refine rS (LN rfl ut22) ?_
 refine rS (FA 0 rfl fo24_0 rfl) ?_
 refine rS (L1 (Value.slice lbA lb.length lbC) 0 rfl tk22 rfl rfl) ?_
 refine rS (LN rfl ut22) ?_
 refine rS (BI rfl b_neq) ?_
 refine RK hK5 ?_
 refine w_if rfl (fun hl => ?_) (fun hl => ?_)
 · replace hl := XT hl
   refine WS fun _ hK6 => ?_
   refine rS (AG rfl) ?_
   refine RK hK6 ?_
   refine w_ret ?_
   refine Q1 hQ rfl rfl rfl ?_
   first | exact congrArg Value.bool (decide_eq_false (lists_ne hx hy h)).symm | exact congrArg Value.bool (decide_eq_true (lists_eq (by omega) hl0_1 (by omega))).symm | exact congrArg Value.bool (decide_eq_false (fun e => by subst e; omega)).symm
 replace hl := XF hl
 refine WK hK4 ?_
 refine w_seq fun _ hK7 => ?_
 refine WS fun _ hK8 => ?_
 refine rS (AG rfl) ?_
 refine RK hK8 ?_
 refine w_block ?_
 have hinit : (0 ≤ la.length) ∧ (la.take 0 = lb.take 0) := by simp
 refine w_loop (ι := { z : Nat // (z ≤ la.length) ∧ (la.take z = lb.take z) }) (fun z => [(2, (Value.pointer (some ⟨b2, 0, none⟩))), (3, (Value.pointer (some ⟨b3, 0, none⟩))), (5, (Value.int .i64 (z.1 : Int)))]) (fun z => [(blk b3 24 (TrackV.cells (TrackV.mk (Slc.mk lbA lb.length lbC)))), (blk b2 24 (TrackV.cells (TrackV.mk (Slc.mk laA la.length laC)))), (rd laA la.length 9 (la.map StretchV.cells)).ro, (rd lbA lb.length 9 (lb.map StretchV.cells)).ro]) (fun z => la.length - z.1) ⟨0, hinit⟩ (Sub.cons rfl <| Sub.cons rfl <| Sub.cons rfl <| Sub.nil _) (fun w hs => St.sel [0, 1, 2, 3] rfl rfl hs) ?_
 clear hinit
 rintro ⟨i, ⟨hl0_0, hl0_1⟩⟩ J9 hJ9
 change WJ _ _ _ _ [(2, (Value.pointer (some ⟨b2, 0, none⟩))), (3, (Value.pointer (some ⟨b3, 0, none⟩))), (5, (Value.int .i64 (i : Int)))] [(blk b3 24 (TrackV.cells (TrackV.mk (Slc.mk lbA lb.length lbC)))), (blk b2 24 (TrackV.cells (TrackV.mk (Slc.mk laA la.length laC)))), (rd laA la.length 9 (la.map StretchV.cells)).ro, (rd lbA lb.length 9 (lb.map StretchV.cells)).ro]
 refine w_seq fun _ hK10 => ?_
 refine WS fun _ hK11 => ?_
 refine rS (MV rfl) ?_
 refine rS (FA 0 rfl fo24_0 rfl) ?_
 refine rS (L1 (Value.slice laA la.length laC) 1 rfl tk22 rfl rfl) ?_
 refine rS (LN rfl ut22) ?_
 refine rS (BI rfl b_lss) ?_
 refine RK hK11 ?_
 refine w_if rfl (fun h12 => ?_) (fun h12 => ?_)
 rotate_left 1
 · replace h12 := DF h12
   refine w_exit ?_
   refine k_exit_then ?_
   refine k_exit_then ?_
   refine k_exit_same ?_
   refine KK hK7 ?_
   refine WS fun _ hK16 => ?_
   refine rS (AG rfl) ?_
   refine RK hK16 ?_
   refine w_ret ?_
   refine Q1 hQ rfl rfl rfl ?_
   first | exact congrArg Value.bool (decide_eq_false (lists_ne hx hy h)).symm | exact congrArg Value.bool (decide_eq_true (lists_eq (by omega) hl0_1 (by omega))).symm | exact congrArg Value.bool (decide_eq_false (fun e => by subst e; omega)).symm
 replace h12 := DT h12
 refine WK hK10 ?_
 refine w_seq fun _ hK13 => ?_
 refine w_block ?_
 refine w_seq fun _ hK14 => ?_
 refine w_draw mixed 11 (by kernel_rfl) ?_
 refine dS (FA 0 rfl fo24_0 rfl) ?_
 refine dS (L1 (Value.slice laA la.length laC) 1 rfl tk22 rfl rfl) ?_
 refine dS (MV rfl) ?_
 obtain ⟨x, hx⟩ : ∃ y_, la[i]? = some y_ := ⟨la[i]'(by omega), List.getElem?_eq_getElem _⟩
 have hxm : (la.map StretchV.cells)[i]? = some (StretchV.cells x) := by rw [List.getElem?_map, hx]; rfl
 refine dS (IA i rfl (has_at 2 rfl) te22 (by decide) (by omega) (by omega)) ?_
 refine dS (LEN i 0 (StretchV.cells x) rfl tk77 (has_at 2 rfl) hxm rfl (by decide) rfl rfl) ?_
 refine dS (FA 0 rfl fo24_0 rfl) ?_
 refine dS (L1 (Value.slice lbA lb.length lbC) 0 rfl tk22 rfl rfl) ?_
 refine dS (MV rfl) ?_
 obtain ⟨y, hy⟩ : ∃ y_, lb[i]? = some y_ := ⟨lb[i]'(by omega), List.getElem?_eq_getElem _⟩
 have hym : (lb.map StretchV.cells)[i]? = some (StretchV.cells y) := by rw [List.getElem?_map, hy]; rfl
 refine dS (IA i rfl (has_at 3 rfl) te22 (by decide) (by omega) (by omega)) ?_
 refine dS (LEN i 0 (StretchV.cells y) rfl tk77 (has_at 3 rfl) hym rfl (by decide) rfl rfl) ?_
 refine dS (BI rfl (nes77 _ _ x y)) ?_
 refine d_end ?_
 refine RK hK14 ?_
 refine w_if rfl (fun h => ?_) (fun h => ?_)
 · replace h := XT h
   refine WS fun _ hK15 => ?_
   refine rS (AG rfl) ?_
   refine RK hK15 ?_
   refine w_ret ?_
   refine Q1 hQ rfl rfl rfl ?_
   first | exact congrArg Value.bool (decide_eq_false (lists_ne hx hy h)).symm | exact congrArg Value.bool (decide_eq_true (lists_eq (by omega) hl0_1 (by omega))).symm | exact congrArg Value.bool (decide_eq_false (fun e => by subst e; omega)).symm
 replace h := XF h
 refine w_skip ?_
 refine k_block ?_
 refine KK hK13 ?_
 refine w_region ?_
 refine rS (MV rfl) ?_
 refine rS (BI rfl (b_add ⟨by omega, by omega⟩)) ?_
 refine rS (AG rfl) ?_
 refine r_nil ?_
 refine k_then (hJ9 ⟨(i + 1), ⟨by omega, take_same hl0_1 hx hy h⟩⟩ _ _ _ rfl (by first | omega | (simp; omega)) (Sub.cons rfl <| Sub.cons rfl <| Sub.cons rfl <| Sub.nil _) (fun w hs => St.sel [0, 1, 2, 3] rfl rfl hs))

set_option maxRecDepth 100000 in
set_option maxHeartbeats 400000 in
theorem both_c (ts : List StretchV) (tsA : Option Addr) (tsC : Nat) (s : SledV) (hlen : ts.length ≤ 1000000) (hc : 0 ≤ s.Class ∧ s.Class ≤ 255) :
    FnV Try.prog 63 [(Value.agg (TrackV.cells (TrackV.mk (Slc.mk tsA ts.length tsC))).toArray), (Value.agg (SledV.cells s).toArray)] [(rd tsA ts.length 9 (ts.map StretchV.cells))] (Value.int .i64 (bothE s ts)) := by
 refine fnV_of go63 Try.func63 rfl rfl fun w0 Q hQ hN => ?_
 change WJ _ _ _ _ [(0, (Value.agg (TrackV.cells (TrackV.mk (Slc.mk tsA ts.length tsC))).toArray)), (1, (Value.agg (SledV.cells s).toArray))] [(rd tsA ts.length 9 (ts.map StretchV.cells)).ro]
 refine WS fun _ hK1 => ?_
 refine BXA rfl fun b2 => ?_
 refine BXA rfl fun b3 => ?_
 refine rS (AG rfl) ?_
 refine RK hK1 ?_
 refine w_seq fun _ hK4 => ?_
 refine WS fun _ hK5 => ?_
 refine rS (LW 1 rfl tk24 rfl rfl) ?_
 refine rS (CL (track_c ts tsA tsC hlen) (ha_at 2 rfl rfl <| ha_nil) rfl) ?_
 refine rS (NT rfl) ?_
 refine RK hK5 ?_
 refine w_if rfl (fun h6 => ?_) (fun h6 => ?_)
 · rw [Bool.not_eq_true'] at h6
   refine WS fun _ hK7 => ?_
   refine rS (AG rfl) ?_
   refine RK hK7 ?_
   refine w_ret ?_
   refine Q1 hQ rfl rfl rfl ?_
   clear hQ hN hK7 hK5 hK4 hK1
   exact congrArg (Value.int .i64) (by simp [bothE, *])
 rw [Bool.not_eq_false'] at h6
 refine WK hK4 ?_
 refine WS fun _ hK8 => ?_
 refine rS (LW 0 rfl tk28 rfl rfl) ?_
 refine rS (CL (check3_c s hc) (ha_nil) rfl) ?_
 refine rS (AG rfl) ?_
 refine RK hK8 ?_
 refine w_ret ?_
 refine Q1 hQ rfl rfl rfl ?_
 clear hQ hN hK8 hK5 hK4 hK1
 exact congrArg (Value.int .i64) (by simp [bothE, *])

set_option maxRecDepth 100000 in
set_option maxHeartbeats 400000 in
theorem air_c (s : SledV) (best : Bool) (tsA : Option Addr) (tsN : Nat) (tsC : Nat) (h : Int) (lo : Int) (hs : SledOk s) (hh : 0 ≤ h ∧ h ≤ 400000) (hl : 0 ≤ lo ∧ lo ≤ 100000) :
    FnV Try.prog 111 [(Value.agg (RiderV.cells (RiderV.mk s (TrackV.mk (Slc.mk tsA tsN tsC)) best)).toArray), (Value.int .i64 h), (Value.int .i64 lo)] [] (Value.int .i64 (min h (h * oneF best false s.Drag * lo / (100 * oneF best true s.Weight)))) := by
 have h5 := oneF_ok (best := best) (f := false) hs.2.2.2.1
 have h6 := oneF_ok (best := best) (f := true) hs.2.2.2.2.1
 have m1 := mulb hh.1 hh.2 h5.1 h5.2
 have m2 := mulb m1.1 m1.2 hl.1 hl.2
 have m3 := divb (b := 100 * oneF best true s.Weight) m2.1 m2.2 (by omega)
 refine fnV_of go111 Try.func111 rfl rfl fun w0 Q hQ hN => ?_
 change WJ _ _ _ _ [(0, (Value.agg (RiderV.cells (RiderV.mk s (TrackV.mk (Slc.mk tsA tsN tsC)) best)).toArray)), (1, (Value.int .i64 h)), (2, (Value.int .i64 lo))] []
 refine WS fun _ hK1 => ?_
 refine BXA rfl fun b2 => ?_
 refine rS (AG rfl) ?_
 refine RK hK1 ?_
 refine w_seq fun _ hK3 => ?_
 refine w_draw mixed 19 (by kernel_rfl) ?_
 refine dS (MV rfl) ?_
 refine dS (MV rfl) ?_
 refine dS (LW 0 rfl tk108 rfl rfl) ?_
 refine dS (FA 0 rfl fo108_0 rfl) ?_
 refine dS (FA 5 rfl fo28_3 rfl) ?_
 refine dS (LP (SpanV.cells s.Drag) 0 rfl tk26 rfl rfl rfl) ?_
 refine dS (CL (one_c s best tsA tsN tsC s.Drag false) (ha_nil) rfl) ?_
 refine dS (BI rfl (b_mul ⟨by omega, by omega⟩)) ?_
 refine dS (MV rfl) ?_
 refine dS (BI rfl (b_mul ⟨by omega, by omega⟩)) ?_
 refine dS (LW 0 rfl tk108 rfl rfl) ?_
 refine dS (FA 0 rfl fo108_0 rfl) ?_
 refine dS (FA 7 rfl fo28_4 rfl) ?_
 refine dS (LP (SpanV.cells s.Weight) 0 rfl tk26 rfl rfl rfl) ?_
 refine dS (CL (one_c s best tsA tsN tsC s.Weight true) (ha_nil) rfl) ?_
 refine dS (BI rfl (b_mul ⟨by omega, by omega⟩)) ?_
 refine dS (BI rfl (b_quo (by omega) (by omega) (by omega))) ?_
 refine dS (MN rfl) ?_
 refine dS (AG rfl) ?_
 refine d_end ?_
 refine RK hK3 ?_
 refine w_ret ?_
 exact Q1 hQ rfl rfl rfl rfl

set_option maxRecDepth 100000 in
set_option maxHeartbeats 400000 in
theorem ice_c (s : SledV) (best : Bool) (tsA : Option Addr) (tsN : Nat) (tsC : Nat) (h : Int) (lo : Int) (hs : SledOk s) (hl : 0 ≤ lo ∧ lo ≤ 100000) :
    FnV Try.prog 112 [(Value.agg (RiderV.cells (RiderV.mk s (TrackV.mk (Slc.mk tsA tsN tsC)) best)).toArray), (Value.int .i64 h), (Value.int .i64 lo)] [] (Value.int .i64 (oneF best false s.Rub * lo / 100)) := by
 have h5 := oneF_ok (best := best) (f := false) hs.2.2.1
 have m1 := mulb h5.1 h5.2 hl.1 hl.2
 refine fnV_of go112 Try.func112 rfl rfl fun w0 Q hQ hN => ?_
 change WJ _ _ _ _ [(0, (Value.agg (RiderV.cells (RiderV.mk s (TrackV.mk (Slc.mk tsA tsN tsC)) best)).toArray)), (1, (Value.int .i64 h)), (2, (Value.int .i64 lo))] []
 refine WS fun _ hK1 => ?_
 refine BXA rfl fun b2 => ?_
 refine rS (AG rfl) ?_
 refine RK hK1 ?_
 refine WS fun _ hK3 => ?_
 refine rS (LW 0 rfl tk108 rfl rfl) ?_
 refine rS (FA 0 rfl fo108_0 rfl) ?_
 refine rS (FA 3 rfl fo28_2 rfl) ?_
 refine rS (LP (SpanV.cells s.Rub) 0 rfl tk26 rfl rfl rfl) ?_
 refine rS (CL (one_c s best tsA tsN tsC s.Rub false) (ha_nil) rfl) ?_
 refine rS (MV rfl) ?_
 refine rS (BI rfl (b_mul ⟨by omega, by omega⟩)) ?_
 refine rS (BI rfl (b_quo (by omega) (by omega) (by omega))) ?_
 refine rS (AG rfl) ?_
 refine RK hK3 ?_
 refine w_ret ?_
 exact Q1 hQ rfl rfl rfl rfl

set_option maxRecDepth 100000 in
set_option maxHeartbeats 400000 in
theorem takers_c  :
    FnV Try.prog 94 [] [] (Value.agg ((T151V.cells (T151V.mk (Value.func (.func 111) [].toArray [].toArray))) ++ (T151V.cells (T151V.mk (Value.func (.func 112) [].toArray [].toArray)))).toArray) := by
 refine fnV_of go94 Try.func94 rfl rfl fun w0 Q hQ hN => ?_
 change WJ _ _ _ _ [] []
 refine WS fun _ hK1 => ?_
 refine AL rfl tz152 fun b2 => ?_
 refine RK hK1 ?_
 refine WS fun _ hK3 => ?_
 refine rS (SX (sd_build (xs := [(0, .func 111)]) (cs := (T151V.cells (T151V.mk (Value.func (.func 111) [].toArray [].toArray)))) rfl rfl (built_of tb151 rfl)) rfl rfl) ?_
 refine rS (SX (sd_build (xs := [(0, .func 112)]) (cs := (T151V.cells (T151V.mk (Value.func (.func 112) [].toArray [].toArray)))) rfl rfl (built_of tb151 rfl)) rfl rfl) ?_
 refine rS (SX (sd_build (xs := [(0, .tmp 1), (1, .tmp 2)]) (cs := ((T151V.cells (T151V.mk (Value.func (.func 111) [].toArray [].toArray))) ++ (T151V.cells (T151V.mk (Value.func (.func 112) [].toArray [].toArray))))) rfl rfl (built_of tb152 rfl)) rfl rfl) ?_
 refine SW0 rfl ts152 rfl ?_
 refine RK hK3 ?_
 refine w_ret ?_
 refine hQ _ _ _ (l_nil (vs := [(Value.agg ((T151V.cells (T151V.mk (Value.func (.func 111) [].toArray [].toArray))) ++ (T151V.cells (T151V.mk (Value.func (.func 112) [].toArray [].toArray)))).toArray)]) ⟨⟨_, rfl, .inl ⟨_, _, tk152, at_blk (vs := ((T151V.cells (T151V.mk (Value.func (.func 111) [].toArray [].toArray))) ++ (T151V.cells (T151V.mk (Value.func (.func 112) [].toArray [].toArray))))) 0 rfl rfl, rfl, rfl⟩⟩, trivial⟩ fun w hs => endV ?_ hs)
 show (Value.agg ((T151V.cells (T151V.mk (Value.func (.func 111) [].toArray [].toArray))) ++ (T151V.cells (T151V.mk (Value.func (.func 112) [].toArray [].toArray)))).toArray) = (Value.agg ((T151V.cells (T151V.mk (Value.func (.func 111) [].toArray [].toArray))) ++ (T151V.cells (T151V.mk (Value.func (.func 112) [].toArray [].toArray)))).toArray)
 clear hs w hQ hN hK3 hK1
 rfl

set_option maxRecDepth 100000 in
set_option maxHeartbeats 400000 in
theorem mkheads_c (s : SledV) (best : Bool) (tsA : Option Addr) (tsN : Nat) (tsC : Nat) :
    FnX Try.prog 62 [(Value.agg (RiderV.cells (RiderV.mk s (TrackV.mk (Slc.mk tsA tsN tsC)) best)).toArray)] [] (fun (x : Nat) => (Value.func (.func 93) [].toArray [(Value.pointer (some ⟨x, 0, none⟩))].toArray)) (fun (x : Nat) => True) (fun (x : Nat) => [(blk x 108 (RiderV.cells (RiderV.mk s (TrackV.mk (Slc.mk tsA tsN tsC)) best)))]) := by
 refine fnX_of go62 Try.func62 rfl rfl fun w0 Q hQ hN => ?_
 change WJ _ _ _ _ [(0, (Value.agg (RiderV.cells (RiderV.mk s (TrackV.mk (Slc.mk tsA tsN tsC)) best)).toArray))] []
 refine WS fun _ hK1 => ?_
 refine BXA rfl fun b2 => ?_
 refine rS (AG rfl) ?_
 refine RK hK1 ?_
 refine WS fun _ hK3 => ?_
 refine rS (FU rfl) ?_
 refine rS (AG rfl) ?_
 refine RK hK3 ?_
 refine w_ret ?_
 refine hQ _ _ _ (l_nil (vs := [(Value.func (.func 93) [].toArray [(Value.pointer (some ⟨b2, 0, none⟩))].toArray)]) ⟨rfl, trivial⟩ fun w hs => endX b2 [0] ?_ ?_ rfl rfl rfl hs)
 · rfl
 · trivial

set_option maxRecDepth 100000 in
set_option maxHeartbeats 400000 in
theorem iter_c (s : SledV) (ts : List StretchV) (tsA : Option Addr) (tsC : Nat) (best : Bool) (g1 : Nat) (hs : SledOk s) (hst : ∀ x ∈ ts, StretchOk x) (hlen : ts.length ≤ 12) :
    SeqV Try.prog 93 [] [(Value.pointer (some ⟨g1, 0, none⟩))] [(rd tsA ts.length 9 (ts.map StretchV.cells)), (blk g1 108 (RiderV.cells (RiderV.mk s (TrackV.mk (Slc.mk tsA ts.length tsC)) best)))] (headV best s ts) := by
 refine seqV_of go93 Try.func93 rfl rfl fun l J Z A0 w0 Q hY hJ0 hF0 hQ hN => ?_
 change WJ _ _ _ _ [(0, (Value.func (.yield l) #[] #[])), (1, (Value.pointer (some ⟨g1, 0, none⟩)))] [A0, (rd tsA ts.length 9 (ts.map StretchV.cells)).ro, (blk g1 108 (RiderV.cells (RiderV.mk s (TrackV.mk (Slc.mk tsA ts.length tsC)) best))).ro]
 refine WS fun _ hK1 => ?_
 refine rS (CL takers_c (ha_nil) rfl) ?_
 refine AL rfl tz152 fun b2 => ?_
 refine SW0 rfl ts152 rfl ?_
 refine RK hK1 ?_
 refine WS fun _ hK3 => ?_
 refine rS (LWR 3 rfl tk108 rfl rfl) ?_
 refine rS (FA 0 rfl fo108_0 rfl) ?_
 refine rS (FA 1 rfl fo28_1 rfl) ?_
 refine rS (LPR (SpanV.cells s.Start) 3 rfl tk26 rfl rfl rfl) ?_
 refine rS (CL (one_c s best tsA ts.length tsC s.Start true) (ha_nil) rfl) ?_
 refine rS (AG rfl) ?_
 refine RK hK3 ?_
 refine w_seq fun _ hK4 => ?_
 refine WS fun _ hK5 => ?_
 refine rS (FA 11 rfl fo108_1 rfl) ?_
 refine rS (FA 11 rfl fo24_0 rfl) ?_
 refine rS (L1R (Value.slice tsA ts.length tsC) 3 rfl tk22 rfl rfl) ?_
 refine rS (LN rfl ut22) ?_
 refine rS (MV rfl) ?_
 refine RK hK5 ?_
 refine w_block ?_
 have hinit : (0 ≤ ts.length) ∧ (J 0 A0) ∧ (Fo A0 w0 A0) := by exact ⟨by omega, hJ0, hF0⟩
 refine w_loop (ι := { z : Nat × Assn // (z.1 ≤ ts.length) ∧ (J z.1 z.2) ∧ (Fo A0 w0 z.2) }) (fun z => [(0, (Value.func (.yield l) #[] #[])), (1, (Value.pointer (some ⟨g1, 0, none⟩))), (3, (Value.pointer (some ⟨b2, 0, none⟩))), (4, (Value.int .i64 (headAt best s ts z.1.1))), (19, (Value.slice tsA ts.length tsC)), (20, (Value.int .i64 ((ts.length : Nat) : Int))), (21, (Value.int .i64 (z.1.1 : Int)))]) (fun z => [(blk b2 152 ((T151V.cells (T151V.mk (Value.func (.func 111) [].toArray [].toArray))) ++ (T151V.cells (T151V.mk (Value.func (.func 112) [].toArray [].toArray))))), z.1.2, (rd tsA ts.length 9 (ts.map StretchV.cells)).ro, (blk g1 108 (RiderV.cells (RiderV.mk s (TrackV.mk (Slc.mk tsA ts.length tsC)) best))).ro]) (fun z => ts.length - z.1.1) ⟨(0, A0), hinit⟩ (Sub.cons rfl <| Sub.cons rfl <| Sub.cons rfl <| Sub.cons rfl <| Sub.cons rfl <| Sub.cons rfl <| Sub.cons rfl <| Sub.nil _) (fun w hs => St.sel [0, 1, 2, 3] rfl rfl hs) ?_
 clear hinit
 rintro ⟨⟨i, A⟩, ⟨hl3_0, hl3_1, hl3_2⟩⟩ J6 hJ6
 try dsimp only at hl3_0 hl3_1 hl3_2
 change WJ _ _ _ _ [(0, (Value.func (.yield l) #[] #[])), (1, (Value.pointer (some ⟨g1, 0, none⟩))), (3, (Value.pointer (some ⟨b2, 0, none⟩))), (4, (Value.int .i64 (headAt best s ts i))), (19, (Value.slice tsA ts.length tsC)), (20, (Value.int .i64 ((ts.length : Nat) : Int))), (21, (Value.int .i64 (i : Int)))] [(blk b2 152 ((T151V.cells (T151V.mk (Value.func (.func 111) [].toArray [].toArray))) ++ (T151V.cells (T151V.mk (Value.func (.func 112) [].toArray [].toArray))))), A, (rd tsA ts.length 9 (ts.map StretchV.cells)).ro, (blk g1 108 (RiderV.cells (RiderV.mk s (TrackV.mk (Slc.mk tsA ts.length tsC)) best))).ro]
 have hb := headAt_b (best := best) hs hst i
 refine WS fun _ hK7 => ?_
 refine rS (BI rfl b_lss) ?_
 refine RK hK7 ?_
 refine w_seq fun _ hK8 => ?_
 refine w_if rfl (fun h9 => ?_) (fun h9 => ?_)
 rotate_left 1
 · replace h9 := DF h9
   refine w_exit ?_
   refine k_exit_then ?_
   refine k_exit_then ?_
   refine k_exit_same ?_
   refine KK hK4 ?_
   refine w_region ?_
   refine rS (MV rfl) ?_
   refine rS (FA 11 rfl fo108_1 rfl) ?_
   refine rS (FA 11 rfl fo24_0 rfl) ?_
   refine rS (L1R (Value.slice tsA ts.length tsC) 3 rfl tk22 rfl rfl) ?_
   refine rS (LN rfl ut22) ?_
   refine rS (MV rfl) ?_
   refine r_yield 1 hY hl3_1 hl3_2 rfl rfl rfl (headV_end (by omega) (by omega)) rfl rfl (fun B37 hJ38 hF39 => ?_) (fun B37 hJ38 hF39 => ?_)
   rotate_left 1
   · refine r_nil ?_
     refine hN _ _ _ (l_nil (vs := []) trivial fun w hs => endSz 1 rfl hJ38 hF39 hs)
   refine r_nil ?_
   refine hN _ _ _ (l_nil (vs := []) trivial fun w hs => endS 1 rfl (by rw [headV_length]; have e : ts.length = i := (by omega); rw [e]; exact hJ38) hF39 hs)
 replace h9 := DT h9
 refine WK hK8 ?_
 refine w_seq fun _ hK10 => ?_
 refine w_block ?_
 refine WS fun _ hK11 => ?_
 refine rS (MV rfl) ?_
 obtain ⟨x, hxe⟩ : ∃ y_, ts[i]? = some y_ := ⟨ts[i]'(by omega), List.getElem?_eq_getElem _⟩
 have hxem : (ts.map StretchV.cells)[i]? = some (StretchV.cells x) := by rw [List.getElem?_map, hxe]; rfl
 refine rS (IA i rfl (has_at 2 rfl) te22 (by decide) (by omega) (by omega)) ?_
 have hxo := hst x (List.mem_of_getElem? hxe)
 have hlo := oneF_ok (best := best) (f := false) hxo.2.1
 have hfa := oneF_ok (best := best) (f := true) hxo.2.2.1
 have h5 := oneF_ok (best := best) (f := false) hs.2.2.2.1
 have h6 := oneF_ok (best := best) (f := true) hs.2.2.2.2.1
 have h7 := oneF_ok (best := best) (f := false) hs.2.2.1
 have m1 := mulb hb.1 (show headAt best s ts i ≤ 400000 by omega) h5.1 h5.2
 have m2 := mulb m1.1 m1.2 (show 0 ≤ oneF best false x.Long by omega) hlo.2
 have m3 := divb (b := 100 * oneF best true s.Weight) m2.1 m2.2 (by omega)
 have m4 := mulb h7.1 h7.2 (show 0 ≤ oneF best false x.Long by omega) hlo.2
 refine rS (LEN i 0 (StretchV.cells x) rfl tk77 (has_at 2 rfl) hxem rfl (by decide) rfl rfl) ?_
 refine AL rfl tz77 fun b12 => ?_
 refine rS (AG rfl) ?_
 refine SW0 rfl ts77 rfl ?_
 refine RK hK11 ?_
 refine w_seq fun _ hK13 => ?_
 refine WS fun _ hK14 => ?_
 refine rS (MV rfl) ?_
 refine rS (MV rfl) ?_
 refine rS (MV rfl) ?_
 refine r_yield 2 hY hl3_1 hl3_2 rfl rfl rfl (headV_get (by omega)) rfl rfl (fun B15 hJ16 hF17 => ?_) (fun B15 hJ16 hF17 => ?_)
 rotate_left 1
 · refine rS (NT rfl) ?_
   refine RK hK14 ?_
   refine w_if_true rfl ?_
   refine w_ret ?_
   refine hQ _ _ _ (l_nil (vs := []) trivial fun w hs => endSz 2 rfl hJ16 hF17 hs)
 refine rS (NT rfl) ?_
 refine RK hK14 ?_
 refine w_if_false rfl ?_
 refine WK hK13 ?_
 refine w_seq fun _ hK18 => ?_
 refine w_draw mixed 12 (by kernel_rfl) ?_
 refine dS (LWR 4 rfl tk108 rfl rfl) ?_
 refine dS (FA 1 rfl fo77_1 rfl) ?_
 refine dS (LP (SpanV.cells x.Long) 0 rfl tk26 rfl rfl rfl) ?_
 refine dS (CL (one_c s best tsA ts.length tsC x.Long false) (ha_nil) rfl) ?_
 refine dS (MV rfl) ?_
 refine dS (LWR 4 rfl tk108 rfl rfl) ?_
 refine dS (FA 3 rfl fo77_2 rfl) ?_
 refine dS (LP (SpanV.cells x.Fall) 0 rfl tk26 rfl rfl rfl) ?_
 refine dS (CL (one_c s best tsA ts.length tsC x.Fall true) (ha_nil) rfl) ?_
 refine dS (BI rfl (b_add ⟨by omega, by omega⟩)) ?_
 refine dS (AG rfl) ?_
 refine dS (AG rfl) ?_
 refine d_end ?_
 refine RK hK18 ?_
 refine w_seq fun _ hK19 => ?_
 refine WS fun _ hK20 => ?_
 refine rS (LW 1 rfl tk152 rfl rfl) ?_
 refine rS (MV rfl) ?_
 refine RK hK20 ?_
 refine w_block ?_
 refine w_rounds 3 ?_
 refine ro_succ fun R21 hR21 => ?_
 refine WS fun _ hK22 => ?_
 refine rS (SX (sd_bin (r := .bool true) rfl rfl rfl b_lss) rfl rfl) ?_
 refine RK hK22 ?_
 refine w_seq fun _ hK23 => ?_
 refine w_if_true rfl ?_
 refine WK hK23 ?_
 refine w_seq fun _ hK24 => ?_
 refine w_block ?_
 refine WS fun _ hK25 => ?_
 refine rS (SX (sd_index (vs := (T151V.cells (T151V.mk (Value.func (.func 111) [].toArray [].toArray)))) 0 rfl rfl rfl tx152 tk151 rfl (by decide) rfl) rfl rfl) ?_
 refine AL rfl tz151 fun b26 => ?_
 refine SW0 rfl ts151 rfl ?_
 refine RK hK25 ?_
 refine w_region ?_
 refine rS (MV rfl) ?_
 refine rS (FA 0 rfl fo151_0 rfl) ?_
 refine rS (L1 (Value.func (.func 111) [].toArray [].toArray) 0 rfl tk150 rfl rfl) ?_
 refine rS (LWR 5 rfl tk108 rfl rfl) ?_
 refine rS (MV rfl) ?_
 refine rS (MV rfl) ?_
 refine rS (CL (air_c s best tsA ts.length tsC (headAt best s ts i) (oneF best false x.Long) hs (by first | assumption | omega | (simp; done) | (simp; omega)) (by first | assumption | omega | (simp; done) | (simp; omega))) (ha_nil) rfl) ?_
 refine rS (BI rfl (b_sub ⟨by omega, by omega⟩)) ?_
 refine rS (AG rfl) ?_
 refine r_nil ?_
 refine k_block ?_
 refine KK hK24 ?_
 refine w_region ?_
 refine rS (SX (sd_bin (r := .int .i64 1) rfl rfl rfl (b_add ⟨by decide, by decide⟩)) rfl rfl) ?_
 refine rS (MV rfl) ?_
 refine RK hR21 ?_
 refine ro_succ fun R27 hR27 => ?_
 refine WS fun _ hK28 => ?_
 refine rS (SX (sd_bin (r := .bool true) rfl rfl rfl b_lss) rfl rfl) ?_
 refine RK hK28 ?_
 refine w_seq fun _ hK29 => ?_
 refine w_if_true rfl ?_
 refine WK hK29 ?_
 refine w_seq fun _ hK30 => ?_
 refine w_block ?_
 refine WS fun _ hK31 => ?_
 refine rS (SX (sd_index (vs := (T151V.cells (T151V.mk (Value.func (.func 112) [].toArray [].toArray)))) 1 rfl rfl rfl tx152 tk151 rfl (by decide) rfl) rfl rfl) ?_
 refine AL rfl tz151 fun b32 => ?_
 refine SW0 rfl ts151 rfl ?_
 refine RK hK31 ?_
 refine w_region ?_
 refine rS (MV rfl) ?_
 refine rS (FA 0 rfl fo151_0 rfl) ?_
 refine rS (L1 (Value.func (.func 112) [].toArray [].toArray) 0 rfl tk150 rfl rfl) ?_
 refine rS (LWR 6 rfl tk108 rfl rfl) ?_
 refine rS (MV rfl) ?_
 refine rS (MV rfl) ?_
 refine rS (CL (ice_c s best tsA ts.length tsC (headAt best s ts i) (oneF best false x.Long) hs (by first | assumption | omega | (simp; done) | (simp; omega))) (ha_nil) rfl) ?_
 refine rS (BI rfl (b_sub ⟨by omega, by omega⟩)) ?_
 refine rS (AG rfl) ?_
 refine r_nil ?_
 refine k_block ?_
 refine KK hK30 ?_
 refine w_region ?_
 refine rS (SX (sd_bin (r := .int .i64 2) rfl rfl rfl (b_add ⟨by decide, by decide⟩)) rfl rfl) ?_
 refine rS (MV rfl) ?_
 refine RK hR27 ?_
 refine ro_succ fun R33 hR33 => ?_
 refine WS fun _ hK34 => ?_
 refine rS (SX (sd_bin (r := .bool false) rfl rfl rfl b_lss) rfl rfl) ?_
 refine RK hK34 ?_
 refine w_seq fun _ hK35 => ?_
 refine w_if_false rfl ?_
 refine w_exit ?_
 refine k_exit_then ?_
 refine k_exit_then ?_
 refine k_exit_same ?_
 refine KK hK19 ?_
 refine w_region ?_
 refine rS (MV rfl) ?_
 refine rS (MX rfl) ?_
 refine rS (AG rfl) ?_
 refine r_nil ?_
 refine k_block ?_
 refine KK hK10 ?_
 refine w_region ?_
 refine rS (BI rfl (b_add ⟨by omega, by omega⟩)) ?_
 refine rS (MV rfl) ?_
 refine r_nil ?_
 have hb36 : (Value.int .i64 (headAt best s ts (i + 1))) = (Value.int .i64 (max 0 ((((headAt best s ts i) + (oneF best true x.Fall)) - (min (headAt best s ts i) ((headAt best s ts i) * oneF best false s.Drag * (oneF best false x.Long) / (100 * oneF best true s.Weight)))) - (oneF best false s.Rub * (oneF best false x.Long) / 100)))) := by rw [headAt_succ hxe]; refine congrArg (Value.int .i64) ?_; unfold stepH nextH; omega
 refine k_then (hJ6 ⟨((i + 1), B15), ⟨by omega, hJ16, hF17⟩⟩ _ _ _ rfl (by first | omega | (simp; omega)) (Sub.cons rfl <| Sub.cons rfl <| Sub.cons rfl <| sub_val rfl hb36 <| Sub.cons rfl <| Sub.cons rfl <| Sub.cons rfl <| Sub.nil _) (fun w hs => St.sel [3, 4, 5, 6] rfl rfl hs))

set_option maxRecDepth 100000 in
set_option maxHeartbeats 400000 in
theorem list_c (s : SledV) (ts : List StretchV) (tsA : Option Addr) (tsC : Nat) (best : Bool) (hs : SledOk s) (hst : ∀ x ∈ ts, StretchOk x) (hlen : ts.length ≤ 12) :
    FnX Try.prog 61 [(Value.agg (RiderV.cells (RiderV.mk s (TrackV.mk (Slc.mk tsA ts.length tsC)) best)).toArray)] [(rd tsA ts.length 9 (ts.map StretchV.cells))] (fun (x : (Option Addr) × Nat) => (Value.slice x.1 ((headsL best s ts).length) x.2)) (fun (x : (Option Addr) × Nat) => True) (fun (x : (Option Addr) × Nat) => [(own x.1 x.2 3 1 ((headsL best s ts).map iC))]) := by
 refine fnX_of go61 Try.func61 rfl rfl fun w0 Q hQ hN => ?_
 change WJ _ _ _ _ [(0, (Value.agg (RiderV.cells (RiderV.mk s (TrackV.mk (Slc.mk tsA ts.length tsC)) best)).toArray))] [(rd tsA ts.length 9 (ts.map StretchV.cells)).ro]
 refine WS fun _ hK1 => ?_
 refine BXA rfl fun b2 => ?_
 refine rS (AG rfl) ?_
 refine RK hK1 ?_
 refine WS fun _ hK3 => ?_
 refine AL rfl tz61 fun b4 => ?_
 refine RK hK3 ?_
 refine w_seq fun _ hK5 => ?_
 refine WS fun _ hK6 => ?_
 refine rS (LW 1 rfl tk108 rfl rfl) ?_
 refine cX (mkheads_c s best tsA ts.length tsC) (ha_nil) rfl fun b9 hy8 => ?_
 change RJ _ _ _ _ _ ((_, (Value.func (.func 93) [].toArray [(Value.pointer (some ⟨b9, 0, none⟩))].toArray)) :: _) ((blk b9 108 (RiderV.cells (RiderV.mk s (TrackV.mk (Slc.mk tsA ts.length tsC)) best))) :: _)
 refine RK hK6 ?_
 refine w_block ?_
 refine w_dup 3 rfl (by exact fun _ h => h) ?_
 refine w_own_nil 3 1 ?_
 refine w_range (L0 := [(3, (Value.pointer (some ⟨b4, 0, none⟩)))]) (F := [(rd tsA ts.length 9 (ts.map StretchV.cells)).ro, (blk b9 108 (RiderV.cells (RiderV.mk s (TrackV.mk (Slc.mk tsA ts.length tsC)) best)))]) (xs := (headV best s ts)) (fun k (y : (Option Addr) × Nat) => True) (fun k y => [(own y.1 y.2 3 1 (((headsL best s ts).take k).map iC)), (blk b4 61 [(Value.slice y.1 (((headsL best s ts).take k).length) y.2)]), (rd tsA ts.length 9 (ts.map StretchV.cells)).ro]) (fun _ (_ : Unit) => False) (fun _ _ => []) [0, 3, 5] [1, 2] (none, 0) rfl rfl (iter_c s ts tsA tsC best b9 (by first | assumption | omega | (simp; done)) (by first | assumption | omega | (simp; done)) (by first | assumption | omega | (simp; done))) rfl rfl rfl (by trivial) (by simp only [List.forall_mem_cons, List.not_mem_nil, false_imp_iff, implies_true, and_true]; exact ⟨⟨_, by simp, (cov_ro (cov_refl _))⟩, ⟨_, by simp, (cov_refl _)⟩⟩) (by exact headV_lens) rfl (Sub.cons rfl <| Sub.nil _) ?_ ?_ (fun _ _ _ h => h.elim) (fun _ _ h => h.elim)
 rotate_left 1
 · rintro r16 ⟨a, c⟩ hin17
   change KJ _ _ _ [(3, (Value.pointer (some ⟨b4, 0, none⟩)))] [(obj r16 (.deferred (some []))), (rd tsA ts.length 9 (ts.map StretchV.cells)).ro, (blk b9 108 (RiderV.cells (RiderV.mk s (TrackV.mk (Slc.mk tsA ts.length tsC)) best))), (own a c 3 1 (((headsL best s ts).take ((headV best s ts).length)).map iC)), (blk b4 61 [(Value.slice a (((headsL best s ts).take ((headV best s ts).length)).length) c)]), (rd tsA ts.length 9 (ts.map StretchV.cells)).ro]
   rw [heads_take_end]
   refine k_block ?_
   refine KK hK5 ?_
   refine WS fun _ hK18 => ?_
   refine rS (L1W 4 rfl tk61 rfl) ?_
   refine rS (AG rfl) ?_
   refine RK hK18 ?_
   refine w_ret ?_
   refine hQ _ _ _ (l_mark 0 rfl rfl <| l_nil (vs := [(Value.slice a ((headsL best s ts).length) c)]) ⟨rfl, trivial⟩ fun w hs => endX (a, c) [3] ?_ ?_ rfl rfl rfl hs)
   · rfl
   · trivial
 rintro k x ⟨a, c⟩ l ra rb S w1 K10 Qr11 hx hin12 hK10 hQr11 xQr11 yQr11
 obtain ⟨hk, rfl⟩ := headV_out hx
 change WJ _ _ _ _ [(9, (Value.int .i64 (headAt best s ts k))), (8, (Value.int .i64 (k : Int))), (3, (Value.pointer (some ⟨b4, 0, none⟩)))] [(obj l (.loop ra)), (own a c 3 1 (((headsL best s ts).take k).map iC)), (blk b4 61 [(Value.slice a (((headsL best s ts).take k).length) c)]), (rd tsA ts.length 9 (ts.map StretchV.cells)).ro]
 refine w_region ?_
 refine rS (AG rfl) ?_
 refine r_nil ?_
 refine k_then (hK10 _ _ ?_)
 refine w_block ?_
 refine w_region ?_
 refine rS (L1W 2 rfl tk61 rfl) ?_
 refine rS (MV rfl) ?_
 refine r_bs (xs := [.tmp 11]) (cs := [(Value.int .i64 (headAt best s ts k))]) rfl te61 tz3 rfl rfl rfl rfl (by simp [Value.cells]) rfl rfl fun b13 => ?_
 refine r_append (es2 := (List.map iC ((headsL best s ts).take (k + 1)))) (m' := ((headsL best s ts).take (k + 1)).length) 2 rfl rfl rfl ta61 rfl rfl (by simp) (has_rd_blk (es := List.map iC [(headAt best s ts k)]) 0 rfl rfl (by simp [iC_length]) rfl) (one_iC _) (by simp [headsL_length]; omega) (by simp [headsL_length, maxLen]; omega) (by rw [headsL_take hk]; simp) (by simp) rfl fun a14 c15 => ?_
 change RJ _ _ _ _ _ _ [_, _, (own a14 c15 3 1 (List.map iC ((headsL best s ts).take (k + 1)))), _, _]
 refine SO3 rfl ts61 rfl rfl ?_
 refine r_nil ?_
 refine k_block ?_
 exact hQr11 (a14, c15) _ _ (by trivial) (fun w hs => St.sel [1, 2, 3, 4] rfl rfl hs)

set_option maxRecDepth 100000 in
set_option maxHeartbeats 400000 in
theorem rheads_c (ts : List StretchV) (tsA : Option Addr) (tsC : Nat) (s : SledV) (hs : SledOk s) (hst : ∀ x ∈ ts, StretchOk x) (hlen : ts.length ≤ 12) :
    FnX Try.prog 64 [(Value.agg (TrackV.cells (TrackV.mk (Slc.mk tsA ts.length tsC))).toArray), (Value.agg (SledV.cells s).toArray)] [(rd tsA ts.length 9 (ts.map StretchV.cells))] (fun (x : (Option Addr) × Nat) => (Value.slice x.1 ((spansL s ts).length) x.2)) (fun (x : (Option Addr) × Nat) => True) (fun (x : (Option Addr) × Nat) => [(own x.1 x.2 26 2 ((spansL s ts).map SpanV.cells))]) := by
 refine fnX_of go64 Try.func64 rfl rfl fun w0 Q hQ hN => ?_
 change WJ _ _ _ _ [(0, (Value.agg (TrackV.cells (TrackV.mk (Slc.mk tsA ts.length tsC))).toArray)), (1, (Value.agg (SledV.cells s).toArray))] [(rd tsA ts.length 9 (ts.map StretchV.cells)).ro]
 refine WS fun _ hK1 => ?_
 refine BXA rfl fun b2 => ?_
 refine BXA rfl fun b3 => ?_
 refine rS (AG rfl) ?_
 refine RK hK1 ?_
 refine WS fun _ hK4 => ?_
 refine rS (FA 1 rfl fo28_1 rfl) ?_
 refine rS (LP (SpanV.cells s.Start) 0 rfl tk26 rfl rfl rfl) ?_
 refine AL rfl tz26 fun b5 => ?_
 refine SW0 rfl ts26 rfl ?_
 refine RK hK4 ?_
 refine WS fun _ hK6 => ?_
 refine rS (LW 0 rfl tk26 rfl rfl) ?_
 refine r_bs (xs := [.tmp 11]) (cs := (SpanV.cells s.Start)) rfl te31 tz26 rfl rfl rfl rfl (by simp [Value.cells, SpanV.cells_length]) rfl rfl fun b7 => ?_
 refine rS (AG rfl) ?_
 refine RK hK6 ?_
 refine w_seq fun _ hK8 => ?_
 refine WS fun _ hK9 => ?_
 refine rS (AG rfl) ?_
 refine RK hK9 ?_
 refine w_block ?_
 refine w_blk_own (es := (((spansL s ts).take (0 + 1)).map SpanV.cells)) (C' := [(own (some ⟨b7, 0, none⟩) (((((spansL s ts).take (0 + 1)).map SpanV.cells)).length) 26 2 (((spansL s ts).take (0 + 1)).map SpanV.cells)), _, _, _, _]) 0 rfl (map_len SpanV.cells_length _) (by rw [spans_one, spanAt_zero]; simp) (by rw [spans_one]; simp [maxLen]) rfl ?_
 have hinit : (0 ≤ ts.length) := by simp
 have hb10 : (Value.slice (some ⟨b7, 0, none⟩) (((spansL s ts).take (0 + 1)).length) (((((spansL s ts).take (0 + 1)).map SpanV.cells)).length)) = (Value.slice (some ⟨b7, 0, none⟩) 1 1) := by rw [spans_one]; rfl
 refine w_loop (ι := { z : Nat × (Option Addr) × Nat // (z.1 ≤ ts.length) }) (fun z => [(2, (Value.pointer (some ⟨b2, 0, none⟩))), (3, (Value.pointer (some ⟨b3, 0, none⟩))), (5, (Value.pointer (some ⟨b5, 0, none⟩))), (6, (Value.slice z.1.2.1 (((spansL s ts).take (z.1.1 + 1)).length) z.1.2.2)), (7, (Value.int .i64 (z.1.1 : Int)))]) (fun z => [(own z.1.2.1 z.1.2.2 26 2 (((spansL s ts).take (z.1.1 + 1)).map SpanV.cells)), (blk b5 26 (SpanV.cells (SpanV.mk (headAt false s ts z.1.1) (headAt true s ts z.1.1)))), (blk b3 28 (SledV.cells s)), (blk b2 24 (TrackV.cells (TrackV.mk (Slc.mk tsA ts.length tsC)))), (rd tsA ts.length 9 (ts.map StretchV.cells)).ro]) (fun z => ts.length - z.1.1) ⟨(0, (some ⟨b7, 0, none⟩), ((((spansL s ts).take (0 + 1)).map SpanV.cells)).length), hinit⟩ (Sub.cons rfl <| Sub.cons rfl <| Sub.cons rfl <| sub_val rfl hb10 <| Sub.cons rfl <| Sub.nil _) (fun w hs => St.sel [0, 1, 2, 3, 4] rfl rfl hs) ?_
 clear hinit
 rintro ⟨⟨i, a, c⟩, hl0_0⟩ J11 hJ11
 try dsimp only at hl0_0
 change WJ _ _ _ _ [(2, (Value.pointer (some ⟨b2, 0, none⟩))), (3, (Value.pointer (some ⟨b3, 0, none⟩))), (5, (Value.pointer (some ⟨b5, 0, none⟩))), (6, (Value.slice a (((spansL s ts).take (i + 1)).length) c)), (7, (Value.int .i64 (i : Int)))] [(own a c 26 2 (((spansL s ts).take (i + 1)).map SpanV.cells)), (blk b5 26 (SpanV.cells (SpanV.mk (headAt false s ts i) (headAt true s ts i)))), (blk b3 28 (SledV.cells s)), (blk b2 24 (TrackV.cells (TrackV.mk (Slc.mk tsA ts.length tsC)))), (rd tsA ts.length 9 (ts.map StretchV.cells)).ro]
 refine w_seq fun _ hK12 => ?_
 refine WS fun _ hK13 => ?_
 refine rS (MV rfl) ?_
 refine rS (FA 0 rfl fo24_0 rfl) ?_
 refine rS (L1 (Value.slice tsA ts.length tsC) 3 rfl tk22 rfl rfl) ?_
 refine rS (LN rfl ut22) ?_
 refine rS (BI rfl b_lss) ?_
 refine RK hK13 ?_
 refine w_if rfl (fun h14 => ?_) (fun h14 => ?_)
 rotate_left 1
 · replace h14 := DF h14
   refine w_exit ?_
   refine k_exit_then ?_
   refine k_exit_then ?_
   refine k_exit_same ?_
   refine KK hK8 ?_
   refine WS fun _ hK23 => ?_
   rw [spansL_full (by omega)]
   refine rS (MV rfl) ?_
   refine rS (AG rfl) ?_
   refine RK hK23 ?_
   refine w_ret ?_
   refine hQ _ _ _ (l_nil (vs := [(Value.slice a ((spansL s ts).length) c)]) ⟨rfl, trivial⟩ fun w hs => endX (a, c) [0] ?_ ?_ rfl rfl rfl hs)
   · rfl
   · trivial
 replace h14 := DT h14
 refine WK hK12 ?_
 refine w_seq fun _ hK15 => ?_
 refine w_block ?_
 refine WS fun _ hK16 => ?_
 refine rS (FA 0 rfl fo24_0 rfl) ?_
 refine rS (L1 (Value.slice tsA ts.length tsC) 3 rfl tk22 rfl rfl) ?_
 refine rS (MV rfl) ?_
 obtain ⟨x, hx⟩ : ∃ y_, ts[i]? = some y_ := ⟨ts[i]'(by omega), List.getElem?_eq_getElem _⟩
 have hxm : (ts.map StretchV.cells)[i]? = some (StretchV.cells x) := by rw [List.getElem?_map, hx]; rfl
 refine rS (IA i rfl (has_at 4 rfl) te22 (by decide) (by omega) (by omega)) ?_
 refine rS (LEN i 0 (StretchV.cells x) rfl tk77 (has_at 4 rfl) hxm rfl (by decide) rfl rfl) ?_
 refine AL rfl tz77 fun b17 => ?_
 refine SW0 rfl ts77 rfl ?_
 refine RK hK16 ?_
 refine w_seq fun _ hK18 => ?_
 refine w_draw mixed 37 (by kernel_rfl) ?_
 have hxo := hst x (List.mem_of_getElem? hx)
 have hb0 := headAt_b (best := false) hs hst i
 have hb1 := headAt_b (best := true) hs hst i
 obtain ⟨q1, q2, q3, q4, q5, q6⟩ := hs
 obtain ⟨p1, p2, p3, p4, p5⟩ := hxo
 simp only [SpanOk] at q2 q3 q4 q5 q6 p2 p3
 refine dS (FA 0 rfl fo26_0 rfl) ?_
 refine dS (L1 (Value.int .i64 (headAt false s ts i)) 2 rfl tk3 rfl rfl) ?_
 refine dS (FA 1 rfl fo77_1 rfl) ?_
 refine dS (FA 2 rfl fo26_1 rfl) ?_
 refine dS (L1 (Value.int .i64 x.Long.Hi) 0 rfl tk3 rfl rfl) ?_
 refine dS (FA 3 rfl fo77_2 rfl) ?_
 refine dS (FA 3 rfl fo26_0 rfl) ?_
 refine dS (L1 (Value.int .i64 x.Fall.Lo) 0 rfl tk3 rfl rfl) ?_
 refine dS (FA 3 rfl fo28_2 rfl) ?_
 refine dS (FA 4 rfl fo26_1 rfl) ?_
 refine dS (L1 (Value.int .i64 s.Rub.Hi) 3 rfl tk3 rfl rfl) ?_
 refine dS (FA 5 rfl fo28_3 rfl) ?_
 refine dS (FA 6 rfl fo26_1 rfl) ?_
 refine dS (L1 (Value.int .i64 s.Drag.Hi) 3 rfl tk3 rfl rfl) ?_
 refine dS (FA 7 rfl fo28_4 rfl) ?_
 refine dS (FA 7 rfl fo26_0 rfl) ?_
 refine dS (L1 (Value.int .i64 s.Weight.Lo) 3 rfl tk3 rfl rfl) ?_
 refine dS (CL (next_c (headAt false s ts i) x.Long.Hi x.Fall.Lo s.Rub.Hi s.Drag.Hi s.Weight.Lo (by first | assumption | omega | (simp; done) | (simp; omega)) (by first | assumption | omega | (simp; done) | (simp; omega)) (by first | assumption | omega | (simp; done) | (simp; omega)) (by first | assumption | omega | (simp; done) | (simp; omega)) (by first | assumption | omega | (simp; done) | (simp; omega)) (by first | assumption | omega | (simp; done) | (simp; omega))) (ha_nil) rfl) ?_
 refine dS (FA 1 rfl fo26_1 rfl) ?_
 refine dS (L1 (Value.int .i64 (headAt true s ts i)) 2 rfl tk3 rfl rfl) ?_
 refine dS (FA 1 rfl fo77_1 rfl) ?_
 refine dS (FA 1 rfl fo26_0 rfl) ?_
 refine dS (L1 (Value.int .i64 x.Long.Lo) 0 rfl tk3 rfl rfl) ?_
 refine dS (FA 3 rfl fo77_2 rfl) ?_
 refine dS (FA 4 rfl fo26_1 rfl) ?_
 refine dS (L1 (Value.int .i64 x.Fall.Hi) 0 rfl tk3 rfl rfl) ?_
 refine dS (FA 3 rfl fo28_2 rfl) ?_
 refine dS (FA 3 rfl fo26_0 rfl) ?_
 refine dS (L1 (Value.int .i64 s.Rub.Lo) 3 rfl tk3 rfl rfl) ?_
 refine dS (FA 5 rfl fo28_3 rfl) ?_
 refine dS (FA 5 rfl fo26_0 rfl) ?_
 refine dS (L1 (Value.int .i64 s.Drag.Lo) 3 rfl tk3 rfl rfl) ?_
 refine dS (FA 7 rfl fo28_4 rfl) ?_
 refine dS (FA 8 rfl fo26_1 rfl) ?_
 refine dS (L1 (Value.int .i64 s.Weight.Hi) 3 rfl tk3 rfl rfl) ?_
 refine dS (CL (next_c (headAt true s ts i) x.Long.Lo x.Fall.Hi s.Rub.Lo s.Drag.Lo s.Weight.Hi (by first | assumption | omega | (simp; done) | (simp; omega)) (by first | assumption | omega | (simp; done) | (simp; omega)) (by first | assumption | omega | (simp; done) | (simp; omega)) (by first | assumption | omega | (simp; done) | (simp; omega)) (by first | assumption | omega | (simp; done) | (simp; omega)) (by first | assumption | omega | (simp; done) | (simp; omega))) (ha_nil) rfl) ?_
 refine dS (SX (sd_build (xs := [(0, .tmp 42), (1, .tmp 60)]) (cs := (SpanV.cells (SpanV.mk (nextH (headAt false s ts i) x.Long.Hi x.Fall.Lo s.Rub.Hi s.Drag.Hi s.Weight.Lo) (nextH (headAt true s ts i) x.Long.Lo x.Fall.Hi s.Rub.Lo s.Drag.Lo s.Weight.Hi)))) rfl rfl (built_of tb26 rfl)) rfl rfl) ?_
 refine d_end ?_
 refine SW2 rfl ts26 rfl ?_
 refine RK hK18 ?_
 have hb19 : (SpanV.cells (SpanV.mk (nextH (headAt false s ts i) x.Long.Hi x.Fall.Lo s.Rub.Hi s.Drag.Hi s.Weight.Lo) (nextH (headAt true s ts i) x.Long.Lo x.Fall.Hi s.Rub.Lo s.Drag.Lo s.Weight.Hi))) = (SpanV.cells (spanAt s ts (i + 1))) := by exact congrArg SpanV.cells (span_next hx)
 rw [hb19]
 refine w_region ?_
 refine rS (MV rfl) ?_
 refine rS (LW 2 rfl tk26 rfl rfl) ?_
 refine r_bs (xs := [.tmp 63]) (cs := (SpanV.cells (spanAt s ts (i + 1)))) rfl te31 tz26 rfl rfl rfl rfl (by simp [Value.cells, SpanV.cells_length]) rfl rfl fun b20 => ?_
 refine r_append (es2 := (List.map SpanV.cells ((spansL s ts).take ((i + 1) + 1)))) (m' := ((spansL s ts).take ((i + 1) + 1)).length) 2 rfl rfl rfl ta31 rfl rfl (by simp) (has_rd_blk (es := List.map SpanV.cells [(spanAt s ts (i + 1))]) 0 rfl rfl (by simp [SpanV.cells_length]) rfl) (one_SpanV_cells _) (by simp [spansL_length]; omega) (by simp [spansL_length, maxLen]; omega) (by rw [spansL_take (i := i + 1) (by omega)]; simp) (by simp) rfl fun a21 c22 => ?_
 change RJ _ _ _ _ _ _ [_, _, (own a21 c22 26 2 (List.map SpanV.cells ((spansL s ts).take ((i + 1) + 1)))), _, _, _, _]
 refine rS (AG rfl) ?_
 refine r_nil ?_
 refine k_block ?_
 refine KK hK15 ?_
 refine w_region ?_
 refine rS (MV rfl) ?_
 refine rS (BI rfl (b_add ⟨by omega, by omega⟩)) ?_
 refine rS (AG rfl) ?_
 refine r_nil ?_
 refine k_then (hJ11 ⟨((i + 1), a21, c22), (by simp only []; omega)⟩ _ _ _ rfl (by first | omega | (simp; omega)) (Sub.cons rfl <| Sub.cons rfl <| Sub.cons rfl <| Sub.cons rfl <| Sub.cons rfl <| Sub.nil _) (fun w hs => St.sel [2, 3, 4, 5, 6] rfl rfl hs))

set_option maxRecDepth 100000 in
set_option maxHeartbeats 400000 in
theorem open_bad (ts : List StretchV) (tsA : Option Addr) (tsC : Nat) (s : SledV) (hlen : ts.length ≤ 1000000) (hside : ∀ x ∈ ts, 0 ≤ x.Side ∧ x.Side ≤ 255) (htr : trackOk ts = false) :
    FnV Try.prog 60 [(Value.agg (TrackV.cells (TrackV.mk (Slc.mk tsA ts.length tsC))).toArray), (Value.agg (SledV.cells s).toArray)] [(rd tsA ts.length 9 (ts.map StretchV.cells))] (Value.tuple [(Value.agg (RiderV.cells (RiderV.mk (SledV.mk 0 (SpanV.mk 0 0) (SpanV.mk 0 0) (SpanV.mk 0 0) (SpanV.mk 0 0) (SpanV.mk 0 0)) (TrackV.mk (Slc.mk none 0 0)) false)).toArray), (Value.agg (RiderV.cells (RiderV.mk (SledV.mk 0 (SpanV.mk 0 0) (SpanV.mk 0 0) (SpanV.mk 0 0) (SpanV.mk 0 0) (SpanV.mk 0 0)) (TrackV.mk (Slc.mk none 0 0)) false)).toArray), (Value.int .i64 (bothE s ts))].toArray) := by
 refine fnV_of go60 Try.func60 rfl rfl fun w0 Q hQ hN => ?_
 change WJ _ _ _ _ [(0, (Value.agg (TrackV.cells (TrackV.mk (Slc.mk tsA ts.length tsC))).toArray)), (1, (Value.agg (SledV.cells s).toArray))] [(rd tsA ts.length 9 (ts.map StretchV.cells)).ro]
 refine WS fun _ hK1 => ?_
 refine BXA rfl fun b2 => ?_
 refine BXA rfl fun b3 => ?_
 refine AL rfl tz108 fun b4 => ?_
 refine AL rfl tz108 fun b5 => ?_
 refine rS (AG rfl) ?_
 refine RK hK1 ?_
 refine w_seq fun _ hK6 => ?_
 refine WS fun _ hK7 => ?_
 refine rS (LW 3 rfl tk24 rfl rfl) ?_
 refine rS (CL (tcheck_c ts tsA tsC hlen hside) (ha_at 4 rfl rfl <| ha_nil) rfl) ?_
 refine rS (AG rfl) ?_
 refine RK hK7 ?_
 refine WS fun _ hK8 => ?_
 refine rS (MV rfl) ?_
 refine rS (BI rfl b_neq) ?_
 refine RK hK8 ?_
 refine w_if rfl (fun h => ?_) (fun h => ?_)
 rotate_left 1
 · replace h := XF h
   exfalso; simp [htr] at h
 replace h := XT h
 refine w_seq fun _ hK9 => ?_
 refine w_draw4 mixed [0, 1, 2, 5] [3, 4] [false, false, false, false] [false, false] [(blk b5 108 (RiderV.cells (RiderV.mk (SledV.mk 0 (SpanV.mk 0 0) (SpanV.mk 0 0) (SpanV.mk 0 0) (SpanV.mk 0 0) (SpanV.mk 0 0)) (TrackV.mk (Slc.mk none 0 0)) false))), (blk b4 108 (RiderV.cells (RiderV.mk (SledV.mk 0 (SpanV.mk 0 0) (SpanV.mk 0 0) (SpanV.mk 0 0) (SpanV.mk 0 0) (SpanV.mk 0 0)) (TrackV.mk (Slc.mk none 0 0)) false))), (blk b3 28 (SledV.cells s)), (blk b2 24 (TrackV.cells (TrackV.mk (Slc.mk tsA ts.length tsC)))), (rd tsA ts.length 9 (ts.map StretchV.cells)).ro] [] (by kernel_rfl) (fun w hs => St.sel [0, 1, 2, 3, 4] rfl rfl hs) (fun w hs => St.sel [] rfl rfl hs) ?_
 refine eS rfl (LW 1 rfl tk108 rfl rfl) ?_
 refine eS rfl (LW 0 rfl tk108 rfl rfl) ?_
 refine eS rfl (MV rfl) ?_
 refine eS rfl (AG rfl) ?_
 refine d_fin rfl ?_
 refine t_cons rfl fun T10 hT10 => ?_
 refine SW1 rfl ts108 rfl ?_
 refine r_nil (hT10 _ _ (fun w hs => St.sel [0, 1, 2, 3, 4] rfl rfl hs) ?_)
 refine t_cons rfl fun T11 hT11 => ?_
 refine SW0 rfl ts108 rfl ?_
 refine r_nil (hT11 _ _ (fun w hs => St.sel [0, 1, 2, 3, 4] rfl rfl hs) ?_)
 refine t_fin rfl ?_
 refine KK hK9 ?_
 refine w_ret ?_
 refine hQ _ _ _ (l_nil (vs := [(Value.agg (RiderV.cells (RiderV.mk (SledV.mk 0 (SpanV.mk 0 0) (SpanV.mk 0 0) (SpanV.mk 0 0) (SpanV.mk 0 0) (SpanV.mk 0 0)) (TrackV.mk (Slc.mk none 0 0)) false)).toArray), (Value.agg (RiderV.cells (RiderV.mk (SledV.mk 0 (SpanV.mk 0 0) (SpanV.mk 0 0) (SpanV.mk 0 0) (SpanV.mk 0 0) (SpanV.mk 0 0)) (TrackV.mk (Slc.mk none 0 0)) false)).toArray), (Value.int .i64 (if trackOk ts = true then 0 else 10))]) ⟨⟨_, rfl, .inl ⟨_, _, tk108, at_blk (vs := (RiderV.cells (RiderV.mk (SledV.mk 0 (SpanV.mk 0 0) (SpanV.mk 0 0) (SpanV.mk 0 0) (SpanV.mk 0 0) (SpanV.mk 0 0)) (TrackV.mk (Slc.mk none 0 0)) false))) 1 rfl rfl, rfl, rfl⟩⟩, ⟨_, rfl, .inl ⟨_, _, tk108, at_blk (vs := (RiderV.cells (RiderV.mk (SledV.mk 0 (SpanV.mk 0 0) (SpanV.mk 0 0) (SpanV.mk 0 0) (SpanV.mk 0 0) (SpanV.mk 0 0)) (TrackV.mk (Slc.mk none 0 0)) false))) 0 rfl rfl, rfl, rfl⟩⟩, rfl, trivial⟩ fun w hs => endV ?_ hs)
 show (Value.tuple [(Value.agg (RiderV.cells (RiderV.mk (SledV.mk 0 (SpanV.mk 0 0) (SpanV.mk 0 0) (SpanV.mk 0 0) (SpanV.mk 0 0) (SpanV.mk 0 0)) (TrackV.mk (Slc.mk none 0 0)) false)).toArray), (Value.agg (RiderV.cells (RiderV.mk (SledV.mk 0 (SpanV.mk 0 0) (SpanV.mk 0 0) (SpanV.mk 0 0) (SpanV.mk 0 0) (SpanV.mk 0 0)) (TrackV.mk (Slc.mk none 0 0)) false)).toArray), (Value.int .i64 (if trackOk ts = true then 0 else 10))].toArray) = (Value.tuple [(Value.agg (RiderV.cells (RiderV.mk (SledV.mk 0 (SpanV.mk 0 0) (SpanV.mk 0 0) (SpanV.mk 0 0) (SpanV.mk 0 0) (SpanV.mk 0 0)) (TrackV.mk (Slc.mk none 0 0)) false)).toArray), (Value.agg (RiderV.cells (RiderV.mk (SledV.mk 0 (SpanV.mk 0 0) (SpanV.mk 0 0) (SpanV.mk 0 0) (SpanV.mk 0 0) (SpanV.mk 0 0)) (TrackV.mk (Slc.mk none 0 0)) false)).toArray), (Value.int .i64 (bothE s ts))].toArray)
 clear hs w hQ hN hT11 T11 hT10 T10 hK9 hK8 hK7 hK6 hK1
 simp [htr, bothE_bad htr]

set_option maxRecDepth 100000 in
set_option maxHeartbeats 400000 in
theorem open_ok (ts : List StretchV) (tsA : Option Addr) (tsC : Nat) (s : SledV) (hlen : ts.length ≤ 1000000) (hside : ∀ x ∈ ts, 0 ≤ x.Side ∧ x.Side ≤ 255) (htr : trackOk ts = true) :
    FnV Try.prog 60 [(Value.agg (TrackV.cells (TrackV.mk (Slc.mk tsA ts.length tsC))).toArray), (Value.agg (SledV.cells s).toArray)] [(rd tsA ts.length 9 (ts.map StretchV.cells))] (Value.tuple [(Value.agg (RiderV.cells (RiderV.mk s (TrackV.mk (Slc.mk tsA ts.length tsC)) false)).toArray), (Value.agg (RiderV.cells (RiderV.mk s (TrackV.mk (Slc.mk tsA ts.length tsC)) true)).toArray), (Value.int .i64 (bothE s ts))].toArray) := by
 refine fnV_of go60 Try.func60 rfl rfl fun w0 Q hQ hN => ?_
 change WJ _ _ _ _ [(0, (Value.agg (TrackV.cells (TrackV.mk (Slc.mk tsA ts.length tsC))).toArray)), (1, (Value.agg (SledV.cells s).toArray))] [(rd tsA ts.length 9 (ts.map StretchV.cells)).ro]
 refine WS fun _ hK1 => ?_
 refine BXA rfl fun b2 => ?_
 refine BXA rfl fun b3 => ?_
 refine AL rfl tz108 fun b4 => ?_
 refine AL rfl tz108 fun b5 => ?_
 refine rS (AG rfl) ?_
 refine RK hK1 ?_
 refine w_seq fun _ hK6 => ?_
 refine WS fun _ hK7 => ?_
 refine rS (LW 3 rfl tk24 rfl rfl) ?_
 refine rS (CL (tcheck_c ts tsA tsC hlen hside) (ha_at 4 rfl rfl <| ha_nil) rfl) ?_
 refine rS (AG rfl) ?_
 refine RK hK7 ?_
 refine WS fun _ hK8 => ?_
 refine rS (MV rfl) ?_
 refine rS (BI rfl b_neq) ?_
 refine RK hK8 ?_
 refine w_if rfl (fun h => ?_) (fun h => ?_)
 · replace h := XT h
   exact absurd (by simp [htr]) h
 replace h := XF h
 refine WK hK6 ?_
 refine w_seq fun _ hK9 => ?_
 refine w_draw4 mixed [0, 1, 2, 3, 4, 5, 6, 7, 10] [8, 9] [false, false, false, false, false, false, false, false, false] [false, false] [(blk b3 28 (SledV.cells s)), (blk b2 24 (TrackV.cells (TrackV.mk (Slc.mk tsA ts.length tsC)))), (rd tsA ts.length 9 (ts.map StretchV.cells)).ro] [] (by kernel_rfl) (fun w hs => St.sel [2, 3, 4] rfl rfl hs) (fun w hs => St.sel [] rfl rfl hs) ?_
 refine eS rfl (LW 0 rfl tk28 rfl rfl) ?_
 refine eS rfl (LW 1 rfl tk24 rfl rfl) ?_
 refine eS rfl (SX (sd_build (xs := [(0, .tmp 15), (1, .tmp 16), (2, .const (Value.bool false))]) (cs := (RiderV.cells (RiderV.mk s (TrackV.mk (Slc.mk tsA ts.length tsC)) false))) rfl rfl (built_of tb108 rfl)) rfl rfl) ?_
 refine eS rfl (LW 0 rfl tk28 rfl rfl) ?_
 refine eS rfl (LW 1 rfl tk24 rfl rfl) ?_
 refine eS rfl (SX (sd_build (xs := [(0, .tmp 18), (1, .tmp 19), (2, .const (Value.bool true))]) (cs := (RiderV.cells (RiderV.mk s (TrackV.mk (Slc.mk tsA ts.length tsC)) true))) rfl rfl (built_of tb108 rfl)) rfl rfl) ?_
 refine eS rfl (LW 0 rfl tk28 rfl rfl) ?_
 refine eS rfl (CL (scheck_c s) (ha_nil) rfl) ?_
 refine eS rfl (AG rfl) ?_
 refine d_fin rfl ?_
 refine t_cons rfl fun T10 hT10 => ?_
 refine SW1 rfl ts108 rfl ?_
 refine r_nil (hT10 _ _ (fun w hs => St.sel [2, 3, 4] rfl rfl hs) ?_)
 refine t_cons rfl fun T11 hT11 => ?_
 refine SW0 rfl ts108 rfl ?_
 refine r_nil (hT11 _ _ (fun w hs => St.sel [2, 3, 4] rfl rfl hs) ?_)
 refine t_fin rfl ?_
 refine KK hK9 ?_
 refine w_ret ?_
 refine hQ _ _ _ (l_nil (vs := [(Value.agg (RiderV.cells (RiderV.mk s (TrackV.mk (Slc.mk tsA ts.length tsC)) false)).toArray), (Value.agg (RiderV.cells (RiderV.mk s (TrackV.mk (Slc.mk tsA ts.length tsC)) true)).toArray), (Value.int .i64 (if SledOk s then 0 else 30))]) ⟨⟨_, rfl, .inl ⟨_, _, tk108, at_blk (vs := (RiderV.cells (RiderV.mk s (TrackV.mk (Slc.mk tsA ts.length tsC)) false))) 1 rfl rfl, rfl, rfl⟩⟩, ⟨_, rfl, .inl ⟨_, _, tk108, at_blk (vs := (RiderV.cells (RiderV.mk s (TrackV.mk (Slc.mk tsA ts.length tsC)) true))) 0 rfl rfl, rfl, rfl⟩⟩, rfl, trivial⟩ fun w hs => endV ?_ hs)
 show (Value.tuple [(Value.agg (RiderV.cells (RiderV.mk s (TrackV.mk (Slc.mk tsA ts.length tsC)) false)).toArray), (Value.agg (RiderV.cells (RiderV.mk s (TrackV.mk (Slc.mk tsA ts.length tsC)) true)).toArray), (Value.int .i64 (if SledOk s then 0 else 30))].toArray) = (Value.tuple [(Value.agg (RiderV.cells (RiderV.mk s (TrackV.mk (Slc.mk tsA ts.length tsC)) false)).toArray), (Value.agg (RiderV.cells (RiderV.mk s (TrackV.mk (Slc.mk tsA ts.length tsC)) true)).toArray), (Value.int .i64 (bothE s ts))].toArray)
 clear hs w hQ hN hT11 T11 hT10 T10 hK9 hK8 hK7 hK6 hK1
 rw [bothE, if_pos htr]

end Go.Proofs.Ytpbgdeojcefnmaa
