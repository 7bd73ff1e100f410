/-
  Walks: kreisel/kreisellaw03.SlideStart$1, kreisel/kreisellaw03.SlideStart
-/
import Derived.Test.YtpbgdeojcefnmaaTab
import Derived.Test.YtpbgdeojcefnmaaSort
import Derived.Test.YtpbgdeojcefnmaaThr
import Derived.Test.YtpbgdeojcefnmaaMono
import Derived.Test.YtpbgdeojcefnmaaSafe
import Derived.Test.YtpbgdeojcefnmaaAlive
import Derived.Test.YtpbgdeojcefnmaaWithin
import Derived.Test.YtpbgdeojcefnmaaShut
import Derived.Test.YtpbgdeojcefnmaaStart
import Derived.Test.YtpbgdeojcefnmaaW16
import Derived.Test.YtpbgdeojcefnmaaW19
import Derived.Test.YtpbgdeojcefnmaaW22
namespace Go.Proofs.Ytpbgdeojcefnmaa
open Go.RowKit
set_option linter.unusedVariables false

set_option maxRecDepth 100000 in
set_option maxHeartbeats 400000 in
theorem fromsafe_c (h : Int) (s : SledV) (ts : List StretchV) (tsA : Option Addr) (tsC : Nat) (g1 : Nat) (g2 : Nat) (hs : SledOk (fromS s h)) (htr : trackOk ts = true) (hlen : ts.length ≤ 12) (hside : ∀ x ∈ ts, 0 ≤ x.Side ∧ x.Side ≤ 255) :
    FnV Try.prog 49 [(Value.int .i64 h), (Value.pointer (some ⟨g1, 0, none⟩)), (Value.pointer (some ⟨g2, 0, none⟩))] [(rd tsA ts.length 9 (ts.map StretchV.cells)), (blk g1 28 (SledV.cells s)), (blk g2 24 (TrackV.cells (TrackV.mk (Slc.mk tsA ts.length tsC))))] (Value.bool (decide (safeF (fromS s h) ts = 2))) := by
  refine fnV_of go49 Try.func49 rfl rfl fun w0 Q hQ hN => ?_
  change WJ _ _ _ _ [(0, (Value.int .i64 h)), (1, (Value.pointer (some ⟨g1, 0, none⟩))), (2, (Value.pointer (some ⟨g2, 0, none⟩)))] [(rd tsA ts.length 9 (ts.map StretchV.cells)).ro, (blk g1 28 (SledV.cells s)).ro, (blk g2 24 (TrackV.cells (TrackV.mk (Slc.mk tsA ts.length tsC)))).ro]
  refine w_seq fun K1 hK1 => ?_
  refine w_region ?_
  refine r_sd (sd_assign rfl rfl) rfl rfl ?_
  refine r_nil ?_
  refine k_then (hK1 _ _ _ ?_)
  refine w_seq fun K2 hK2 => ?_
  refine w_region ?_
  refine r_sd (sd_ldn rfl rfl tk28 (at_blkr (vs := (SledV.cells s)) 1 rfl rfl) rfl) rfl rfl ?_
  refine r_alloc rfl tz28 rfl fun b3 => ?_
  refine r_store (vs := (SledV.cells s)) (cs' := (SledV.cells s)) (C' := [(blk b3 28 (SledV.cells s)), _, _, _]) 0 rfl rfl rfl ts28 rfl rfl rfl rfl rfl rfl rfl ?_
  refine r_nil ?_
  refine k_then (hK2 _ _ _ ?_)
  refine w_seq fun K4 hK4 => ?_
  refine w_region ?_
  refine r_sd (sd_move rfl rfl) rfl rfl ?_
  refine r_sd (sd_call rfl rfl rfl rfl (lspan_c 0 h) (ha_nil)) rfl rfl ?_
  refine r_sd (sd_fa (o' := 1) rfl rfl fo28_1 rfl) rfl rfl ?_
  refine r_store (vs := (SpanV.cells (SpanV.mk 0 h))) (cs' := (SledV.cells (SledV.mk s.Class (SpanV.mk 0 h) s.Rub s.Drag s.Weight s.Steer))) (C' := [(blk b3 28 (SledV.cells (SledV.mk s.Class (SpanV.mk 0 h) s.Rub s.Drag s.Weight s.Steer))), _, _, _]) 0 rfl rfl rfl ts26 rfl rfl rfl rfl rfl rfl rfl ?_
  refine r_nil ?_
  refine k_then (hK4 _ _ _ ?_)
  refine w_seq fun K5 hK5 => ?_
  refine w_region ?_
  refine r_sd (sd_ldn rfl rfl tk24 (at_blkr (vs := (TrackV.cells (TrackV.mk (Slc.mk tsA ts.length tsC)))) 3 rfl rfl) rfl) rfl rfl ?_
  refine r_sd (sd_ldn rfl rfl tk28 (at_blk (vs := (SledV.cells (SledV.mk s.Class (SpanV.mk 0 h) s.Rub s.Drag s.Weight s.Steer))) 0 rfl rfl) rfl) rfl rfl ?_
  refine r_sd (sd_call rfl rfl rfl rfl (safe_c ts tsA tsC (SledV.mk s.Class (SpanV.mk 0 h) s.Rub s.Drag s.Weight s.Steer) (by first | assumption | omega | (simp; done) | (simp; omega)) (by first | assumption | omega | (simp; done) | (simp; omega))) (ha_at 1 rfl rfl <| ha_nil)) rfl rfl ?_
  refine r_sd (sd_move rfl rfl) rfl rfl ?_
  refine r_sd (sd_extract rfl rfl rfl) rfl rfl ?_
  refine r_sd (sd_extract rfl rfl rfl) rfl rfl ?_
  refine r_sd (sd_assign rfl rfl) rfl rfl ?_
  refine r_sd (sd_assign rfl rfl) rfl rfl ?_
  refine r_nil ?_
  refine k_then (hK5 _ _ _ ?_)
  refine w_seq fun K6 hK6 => ?_
  refine w_region ?_
  refine r_sd (sd_move rfl rfl) rfl rfl ?_
  refine r_sd (sd_bin rfl rfl rfl b_eql) rfl rfl ?_
  refine r_sd (sd_move rfl rfl) rfl rfl ?_
  refine r_bool (t := 20) rfl (fun h20 => ?_) (fun h20 => ?_)
  · -- yes
    replace h20 := of_decide_eq_true h20
    refine r_sd (sd_move rfl rfl) rfl rfl ?_
    refine r_sd (sd_bin rfl rfl rfl b_eql) rfl rfl ?_
    refine r_sd (sd_pick_t rfl rfl rfl) rfl rfl ?_
    refine r_sd (sd_assign rfl rfl) rfl rfl ?_
    refine r_nil ?_
    refine k_then (hK6 _ _ _ ?_)
    refine w_ret ?_
    refine hQ _ _ _ (l_nil (vs := [(Value.bool (decide ((safeV (SledV.mk s.Class (SpanV.mk 0 h) s.Rub s.Drag s.Weight s.Steer) ts) = 2)))]) ⟨rfl, trivial⟩ fun w hs => endV ?_ hs)
    show (Value.bool (decide ((safeV (SledV.mk s.Class (SpanV.mk 0 h) s.Rub s.Drag s.Weight s.Steer) ts) = 2))) = (Value.bool (decide (safeF (fromS s h) ts = 2)))
    clear hs w hQ hN hK6 K6 hK5 K5 hK4 K4 hK2 K2 hK1 K1
    exact congrArg (fun z => Value.bool (decide (z = 2))) (safeV_ok (bothE_ok htr hs))
  · -- no
    replace h20 := of_decide_eq_false h20
    exact absurd (bothE_ok htr hs) h20

set_option maxRecDepth 100000 in
set_option maxHeartbeats 400000 in
theorem slideStart_c (ts : List StretchV) (tsA : Option Addr) (tsC : Nat) (s : SledV) (lower : Int) (hside : ∀ x ∈ ts, 0 ≤ x.Side ∧ x.Side ≤ 255) (hc : 0 ≤ s.Class ∧ s.Class ≤ 255) (hlo : 0 ≤ lower ∧ lower ≤ 4294967295) :
    FnV Try.prog 9 [(Value.agg (TrackV.cells (TrackV.mk (Slc.mk tsA ts.length tsC))).toArray), (Value.agg (SledV.cells s).toArray), (Value.int .u32 lower)] [(rd tsA ts.length 9 (ts.map StretchV.cells))] (Value.bool true) := by
  refine fnV_of go9 Try.func9 rfl rfl fun w0 Q hQ hN => ?_
  change WJ _ _ _ _ [(0, (Value.agg (TrackV.cells (TrackV.mk (Slc.mk tsA ts.length tsC))).toArray)), (1, (Value.agg (SledV.cells s).toArray)), (2, (Value.int .u32 lower))] [(rd tsA ts.length 9 (ts.map StretchV.cells)).ro]
  refine w_seq fun K1 hK1 => ?_
  refine w_region ?_
  refine r_box (cs := (TrackV.cells (TrackV.mk (Slc.mk tsA ts.length tsC)))) rfl rfl rfl rfl fun b2 => ?_
  refine r_box (cs := (SledV.cells s)) rfl rfl rfl rfl fun b3 => ?_
  refine r_sd (sd_assign rfl rfl) rfl rfl ?_
  refine r_nil ?_
  refine k_then (hK1 _ _ _ ?_)
  refine w_seq fun K4 hK4 => ?_
  refine w_region ?_
  refine r_sd (sd_call rfl rfl rfl rfl alive_c (ha_nil)) rfl rfl ?_
  refine r_sd (sd_assign rfl rfl) rfl rfl ?_
  refine r_nil ?_
  refine k_then (hK4 _ _ _ ?_)
  refine w_seq fun K5 hK5 => ?_
  refine w_seq fun K6 hK6 => ?_
  refine w_region ?_
  refine r_sd (sd_ldn rfl rfl tk24 (at_blk (vs := (TrackV.cells (TrackV.mk (Slc.mk tsA ts.length tsC)))) 1 rfl rfl) rfl) rfl rfl ?_
  refine r_sd (sd_ldn rfl rfl tk28 (at_blk (vs := (SledV.cells s)) 0 rfl rfl) rfl) rfl rfl ?_
  refine r_sd (sd_call rfl rfl rfl rfl (ready_c ts tsA tsC s (by first | assumption | omega | (simp; done) | (simp; omega))) (ha_at 2 rfl rfl <| ha_nil)) rfl rfl ?_
  refine r_sd (sd_not rfl rfl) rfl rfl ?_
  refine r_sd (sd_move rfl rfl) rfl rfl ?_
  refine r_bool (t := 18) rfl (fun hrd => ?_) (fun hrd => ?_)
  · -- yes
    rw [Bool.not_eq_true'] at hrd
    replace hrd := of_decide_eq_false hrd
    refine r_sd (sd_off rfl) rfl rfl ?_
    refine r_sd (sd_off rfl) rfl rfl ?_
    refine r_sd (sd_pick_t rfl rfl rfl) rfl rfl ?_
    refine r_nil ?_
    refine k_then (hK6 _ _ _ ?_)
    refine w_if_true rfl ?_
    refine w_seq fun K7 hK7 => ?_
    refine w_region ?_
    refine r_sd (sd_move rfl rfl) rfl rfl ?_
    refine r_sd (sd_assign rfl rfl) rfl rfl ?_
    refine r_nil ?_
    refine k_then (hK7 _ _ _ ?_)
    refine w_ret ?_
    refine hQ _ _ _ (l_nil (vs := [(Value.bool true)]) ⟨rfl, trivial⟩ fun w hs => endV ?_ hs)
    show (Value.bool true) = (Value.bool true)
    clear hs w hQ hN hK7 K7 hK6 K6 hK5 K5 hK4 K4 hK1 K1
    first | rfl | (exfalso; omega) | (have e := h6.2; simp [e]; done) | (have e : ¬ safeF s ts = 2 := (fun e => absurd (n5.1 e) (by omega)); simp [e]; done) | (simp; omega)
  · -- no
    rw [Bool.not_eq_false'] at hrd
    replace hrd := of_decide_eq_true hrd
    refine r_sd (sd_move rfl rfl) rfl rfl ?_
    refine r_sd (sd_not rfl rfl) rfl rfl ?_
    refine r_sd (sd_pick_f rfl rfl rfl) rfl rfl ?_
    refine r_nil ?_
    refine k_then (hK6 _ _ _ ?_)
    refine w_if_false rfl ?_
    refine w_skip ?_
    refine k_then (hK5 _ _ _ ?_)
    refine w_seq fun K8 hK8 => ?_
    refine w_region ?_
    obtain ⟨hgr, htr, hs⟩ := hrd
    have hb0 := bothE_ok htr hs
    have hst := trackOk_all htr
    have hl12 := trackOk_le htr
    refine r_sd (sd_ldn rfl rfl tk24 (at_blk (vs := (TrackV.cells (TrackV.mk (Slc.mk tsA ts.length tsC)))) 1 rfl rfl) rfl) rfl rfl ?_
    refine r_sd (sd_ldn rfl rfl tk28 (at_blk (vs := (SledV.cells s)) 0 rfl rfl) rfl) rfl rfl ?_
    refine r_sd (sd_call rfl rfl rfl rfl (start_c ts tsA tsC s (by first | assumption | omega | (simp; done) | (simp; omega)) (by first | assumption | omega | (simp; done) | (simp; omega))) (ha_at 2 rfl rfl <| ha_nil)) rfl rfl ?_
    refine r_sd (sd_move rfl rfl) rfl rfl ?_
    refine r_sd (sd_extract rfl rfl rfl) rfl rfl ?_
    refine r_sd (sd_extract rfl rfl rfl) rfl rfl ?_
    refine r_sd (sd_assign rfl rfl) rfl rfl ?_
    refine r_sd (sd_assign rfl rfl) rfl rfl ?_
    refine r_nil ?_
    refine k_then (hK8 _ _ _ ?_)
    refine w_seq fun K9 hK9 => ?_
    refine w_region ?_
    refine r_sd (sd_func rfl rfl rfl) rfl rfl ?_
    refine r_sd (sd_assign rfl rfl) rfl rfl ?_
    refine r_nil ?_
    refine k_then (hK9 _ _ _ ?_)
    refine w_seq fun K10 hK10 => ?_
    refine w_seq fun K11 hK11 => ?_
    refine w_region ?_
    refine r_sd (sd_move rfl rfl) rfl rfl ?_
    refine r_sd (sd_bin rfl rfl rfl b_neq) rfl rfl ?_
    refine r_nil ?_
    refine k_then (hK11 _ _ _ ?_)
    refine w_if rfl (fun hE => ?_) (fun hE => ?_)
    · -- yes
      rw [Bool.not_eq_true'] at hE
      replace hE := of_decide_eq_false hE
      refine w_seq fun K12 hK12 => ?_
      refine w_region ?_
      refine r_sd (sd_move rfl rfl) rfl rfl ?_
      refine r_sd (sd_move rfl rfl) rfl rfl ?_
      have h6 := start_law0 hs hst hb0 hE
      rw [h6.1]
      refine r_sd (sd_move rfl rfl) rfl rfl ?_
      refine r_sd (sd_bin (r := .bool true) rfl rfl rfl b_eql) rfl rfl ?_
      refine r_sd (sd_pick_t rfl rfl rfl) rfl rfl ?_
      refine r_sd (sd_move rfl rfl) rfl rfl ?_
      refine r_sd (sd_move rfl rfl) rfl rfl ?_
      refine r_sd (sd_call rfl rfl rfl rfl (fromsafe_c 0 s ts tsA tsC b3 b2 (by exact fromS_ok hs (by omega) (by omega)) (by first | assumption | omega | (simp; done) | (simp; omega)) (by first | assumption | omega | (simp; done) | (simp; omega)) (by first | assumption | omega | (simp; done) | (simp; omega))) (ha_at 2 rfl rfl <| ha_at 0 rfl rfl <| ha_at 1 rfl rfl <| ha_nil)) rfl rfl ?_
      refine r_sd (sd_not rfl rfl) rfl rfl ?_
      refine r_sd (sd_pick_t rfl rfl rfl) rfl rfl ?_
      refine r_sd (sd_assign rfl rfl) rfl rfl ?_
      refine r_nil ?_
      refine k_then (hK12 _ _ _ ?_)
      refine w_ret ?_
      refine hQ _ _ _ (l_nil (vs := [(Value.bool (!(decide (safeF (fromS s 0) ts = 2))))]) ⟨rfl, trivial⟩ fun w hs => endV ?_ hs)
      show (Value.bool (!(decide (safeF (fromS s 0) ts = 2)))) = (Value.bool true)
      clear hs w hQ hN hK12 K12 hK11 K11 hK10 K10 hK9 K9 hK8 K8 hK6 K6 hK5 K5 hK4 K4 hK1 K1
      first | rfl | (exfalso; omega) | (have e := h6.2; simp [e]; done) | (have e : ¬ safeF s ts = 2 := (fun e => absurd (n5.1 e) (by omega)); simp [e]; done) | (simp; omega)
    · -- no
      rw [Bool.not_eq_false'] at hE
      replace hE := of_decide_eq_true hE
      refine w_skip ?_
      refine k_then (hK10 _ _ _ ?_)
      refine w_seq fun K13 hK13 => ?_
      refine w_seq fun K14 hK14 => ?_
      refine w_region ?_
      obtain ⟨n1, n3, n4, n5⟩ := start_law hs hst hb0 hE
      refine r_sd (sd_move rfl rfl) rfl rfl ?_
      refine r_sd (sd_bin rfl rfl rfl b_lss) rfl rfl ?_
      refine r_sd (sd_move rfl rfl) rfl rfl ?_
      refine r_bool (t := 44) rfl (fun h15 => ?_) (fun h15 => ?_)
      · -- yes
        replace h15 := of_decide_eq_true h15
        exfalso; omega
      · -- no
        replace h15 := of_decide_eq_false h15
        refine r_sd (sd_move rfl rfl) rfl rfl ?_
        refine r_sd (sd_bin rfl rfl rfl b_gtr) rfl rfl ?_
        refine r_sd (sd_pick_f rfl rfl rfl) rfl rfl ?_
        refine r_sd (sd_move rfl rfl) rfl rfl ?_
        refine r_bool (t := 48) rfl (fun h16 => ?_) (fun h16 => ?_)
        · -- yes
          replace h16 := of_decide_eq_true h16
          exfalso; omega
        · -- no
          replace h16 := of_decide_eq_false h16
          refine r_sd (sd_move rfl rfl) rfl rfl ?_
          refine r_sd (sd_move rfl rfl) rfl rfl ?_
          refine r_sd (sd_call rfl rfl rfl rfl (fromsafe_c (startV s ts) s ts tsA tsC b3 b2 (by exact fromS_ok hs (by omega) (by omega)) (by first | assumption | omega | (simp; done) | (simp; omega)) (by first | assumption | omega | (simp; done) | (simp; omega)) (by first | assumption | omega | (simp; done) | (simp; omega))) (ha_at 2 rfl rfl <| ha_at 0 rfl rfl <| ha_at 1 rfl rfl <| ha_nil)) rfl rfl ?_
          refine r_sd (sd_not rfl rfl) rfl rfl ?_
          refine r_sd (sd_pick_f rfl rfl rfl) rfl rfl ?_
          refine r_sd (sd_move rfl rfl) rfl rfl ?_
          refine r_bool (t := 54) rfl (fun h54 => ?_) (fun h54 => ?_)
          · -- yes
            rw [Bool.not_eq_true'] at h54
            replace h54 := of_decide_eq_false h54
            exact absurd (n3 _ (by omega) (by omega)) h54
          · -- no
            rw [Bool.not_eq_false'] at h54
            replace h54 := of_decide_eq_true h54
            refine r_sd (sd_move rfl rfl) rfl rfl ?_
            refine r_sd (sd_move rfl rfl) rfl rfl ?_
            refine r_sd (sd_conv (m := lower) rfl rfl ut88 ut3 (wrap_u32_i64 (by first | assumption | omega))) rfl rfl ?_
            refine r_sd (sd_move rfl rfl) rfl rfl ?_
            refine r_sd (sd_bin rfl rfl rfl (b_add ⟨by omega, by omega⟩)) rfl rfl ?_
            have r0 := Int.emod_nonneg lower (show startV s ts + 1 ≠ 0 by omega)
            have r1 := Int.emod_lt_of_pos lower (show 0 < startV s ts + 1 by omega)
            have r2 : Int.tmod lower (startV s ts + 1) = lower % (startV s ts + 1) := Int.tmod_eq_emod_of_nonneg hlo.1
            refine r_sd (sd_bin rfl rfl rfl (b_rem (by omega) (by omega))) rfl rfl ?_
            refine r_sd (sd_call rfl rfl rfl rfl (fromsafe_c (lower % ((startV s ts) + 1)) s ts tsA tsC b3 b2 (by exact fromS_ok hs (by omega) (by omega)) (by first | assumption | omega | (simp; done) | (simp; omega)) (by first | assumption | omega | (simp; done) | (simp; omega)) (by first | assumption | omega | (simp; done) | (simp; omega))) (ha_at 2 rfl rfl <| ha_at 0 rfl rfl <| ha_at 1 rfl rfl <| ha_nil)) rfl rfl ?_
            refine r_sd (sd_not rfl rfl) rfl rfl ?_
            refine r_sd (sd_pick_f rfl rfl rfl) rfl rfl ?_
            refine r_sd (sd_move rfl rfl) rfl rfl ?_
            refine r_bool (t := 64) rfl (fun h64 => ?_) (fun h64 => ?_)
            · -- yes
              rw [Bool.not_eq_true'] at h64
              replace h64 := of_decide_eq_false h64
              exact absurd (n3 _ (by omega) (by omega)) h64
            · -- no
              rw [Bool.not_eq_false'] at h64
              replace h64 := of_decide_eq_true h64
              refine r_sd (sd_move rfl rfl) rfl rfl ?_
              refine r_sd (sd_bin rfl rfl rfl b_lss) rfl rfl ?_
              refine r_sd (sd_move rfl rfl) rfl rfl ?_
              refine r_bool (t := 67) rfl (fun h67 => ?_) (fun h67 => ?_)
              · -- yes
                replace h67 := of_decide_eq_true h67
                refine r_sd (sd_move rfl rfl) rfl rfl ?_
                refine r_sd (sd_move rfl rfl) rfl rfl ?_
                refine r_sd (sd_bin rfl rfl rfl (b_add ⟨by omega, by omega⟩)) rfl rfl ?_
                refine r_sd (sd_call rfl rfl rfl rfl (fromsafe_c ((startV s ts) + 1) s ts tsA tsC b3 b2 (by exact fromS_ok hs (by omega) (by omega)) (by first | assumption | omega | (simp; done) | (simp; omega)) (by first | assumption | omega | (simp; done) | (simp; omega)) (by first | assumption | omega | (simp; done) | (simp; omega))) (ha_at 2 rfl rfl <| ha_at 0 rfl rfl <| ha_at 1 rfl rfl <| ha_nil)) rfl rfl ?_
                refine r_sd (sd_pick_t rfl rfl rfl) rfl rfl ?_
                refine r_sd (sd_pick_f rfl rfl rfl) rfl rfl ?_
                refine r_nil ?_
                refine k_then (hK14 _ _ _ ?_)
                refine w_if rfl (fun h73 => ?_) (fun h73 => ?_)
                · -- yes
                  replace h73 := of_decide_eq_true h73
                  exact absurd h73 (n4 h67)
                · -- no
                  replace h73 := of_decide_eq_false h73
                  refine w_skip ?_
                  refine k_then (hK13 _ _ _ ?_)
                  refine w_seq fun K17 hK17 => ?_
                  refine w_region ?_
                  refine r_sd (sd_ldn rfl rfl tk24 (at_blk (vs := (TrackV.cells (TrackV.mk (Slc.mk tsA ts.length tsC)))) 1 rfl rfl) rfl) rfl rfl ?_
                  refine r_sd (sd_ldn rfl rfl tk28 (at_blk (vs := (SledV.cells s)) 0 rfl rfl) rfl) rfl rfl ?_
                  refine r_sd (sd_call rfl rfl rfl rfl (safe_c ts tsA tsC s (by first | assumption | omega | (simp; done) | (simp; omega)) (by first | assumption | omega | (simp; done) | (simp; omega))) (ha_at 2 rfl rfl <| ha_nil)) rfl rfl ?_
                  refine r_sd (sd_move rfl rfl) rfl rfl ?_
                  refine r_sd (sd_extract rfl rfl rfl) rfl rfl ?_
                  refine r_sd (sd_extract rfl rfl rfl) rfl rfl ?_
                  refine r_sd (sd_assign rfl rfl) rfl rfl ?_
                  refine r_sd (sd_assign rfl rfl) rfl rfl ?_
                  refine r_nil ?_
                  refine k_then (hK17 _ _ _ ?_)
                  refine w_seq fun K18 hK18 => ?_
                  refine w_region ?_
                  rw [hb0]
                  rw [safeV_ok hb0]
                  refine r_sd (sd_move rfl rfl) rfl rfl ?_
                  refine r_sd (sd_move rfl rfl) rfl rfl ?_
                  refine r_sd (sd_move rfl rfl) rfl rfl ?_
                  refine r_sd (sd_bin (r := .bool true) rfl rfl rfl b_eql) rfl rfl ?_
                  refine r_sd (sd_pick_t rfl rfl rfl) rfl rfl ?_
                  refine r_sd (sd_move rfl rfl) rfl rfl ?_
                  refine r_sd (sd_fa (o' := 1) rfl rfl fo28_1 rfl) rfl rfl ?_
                  refine r_sd (sd_fa (o' := 2) rfl rfl fo26_1 rfl) rfl rfl ?_
                  refine r_sd (sd_ld1 rfl rfl tk3 (at_blk (vs := [(Value.int .i64 s.Start.Hi)]) 0 rfl rfl)) rfl rfl ?_
                  refine r_sd (sd_move rfl rfl) rfl rfl ?_
                  refine r_sd (sd_bin rfl rfl rfl b_gtr) rfl rfl ?_
                  refine r_sd (sd_move rfl rfl) rfl rfl ?_
                  refine r_bool (t := 91) rfl (fun h91 => ?_) (fun h91 => ?_)
                  · -- yes
                    replace h91 := of_decide_eq_true h91
                    refine r_sd (sd_off rfl) rfl rfl ?_
                    refine r_sd (sd_off rfl) rfl rfl ?_
                    refine r_sd (sd_pick_t rfl rfl rfl) rfl rfl ?_
                    refine r_sd (sd_pick_t rfl rfl rfl) rfl rfl ?_
                    refine r_sd (sd_move rfl rfl) rfl rfl ?_
                    refine r_sd (sd_fa (o' := 1) rfl rfl fo28_1 rfl) rfl rfl ?_
                    refine r_sd (sd_fa (o' := 2) rfl rfl fo26_1 rfl) rfl rfl ?_
                    refine r_sd (sd_ld1 rfl rfl tk3 (at_blk (vs := [(Value.int .i64 s.Start.Hi)]) 0 rfl rfl)) rfl rfl ?_
                    refine r_sd (sd_move rfl rfl) rfl rfl ?_
                    refine r_sd (sd_bin rfl rfl rfl b_leq) rfl rfl ?_
                    refine r_sd (sd_move rfl rfl) rfl rfl ?_
                    refine r_bool (t := 102) rfl (fun h102 => ?_) (fun h102 => ?_)
                    · -- yes
                      replace h102 := of_decide_eq_true h102
                      refine r_sd (sd_off rfl) rfl rfl ?_
                      refine r_sd (sd_off rfl) rfl rfl ?_
                      refine r_sd (sd_pick_t rfl rfl rfl) rfl rfl ?_
                      refine r_sd (sd_pick_t rfl rfl rfl) rfl rfl ?_
                      refine r_sd (sd_assign rfl rfl) rfl rfl ?_
                      refine r_nil ?_
                      refine k_then (hK18 _ _ _ ?_)
                      refine w_ret ?_
                      refine hQ _ _ _ (l_nil (vs := [(Value.bool true)]) ⟨rfl, trivial⟩ fun w hs => endV ?_ hs)
                      show (Value.bool true) = (Value.bool true)
                      clear hs w hQ hN hK18 K18 hK17 K17 hK14 K14 hK13 K13 hK11 K11 hK10 K10 hK9 K9 hK8 K8 hK6 K6 hK5 K5 hK4 K4 hK1 K1
                      first | rfl | (exfalso; omega) | (have e := h6.2; simp [e]; done) | (have e : ¬ safeF s ts = 2 := (fun e => absurd (n5.1 e) (by omega)); simp [e]; done) | (simp; omega)
                    · -- no
                      replace h102 := of_decide_eq_false h102
                      refine r_sd (sd_move rfl rfl) rfl rfl ?_
                      refine r_sd (sd_bin rfl rfl rfl b_neq) rfl rfl ?_
                      refine r_sd (sd_pick_f rfl rfl rfl) rfl rfl ?_
                      refine r_sd (sd_pick_t rfl rfl rfl) rfl rfl ?_
                      refine r_sd (sd_assign rfl rfl) rfl rfl ?_
                      refine r_nil ?_
                      refine k_then (hK18 _ _ _ ?_)
                      refine w_ret ?_
                      refine hQ _ _ _ (l_nil (vs := [(Value.bool (!(decide ((safeF s ts) = 2))))]) ⟨rfl, trivial⟩ fun w hs => endV ?_ hs)
                      show (Value.bool (!(decide ((safeF s ts) = 2)))) = (Value.bool true)
                      clear hs w hQ hN hK18 K18 hK17 K17 hK14 K14 hK13 K13 hK11 K11 hK10 K10 hK9 K9 hK8 K8 hK6 K6 hK5 K5 hK4 K4 hK1 K1
                      first | rfl | (exfalso; omega) | (have e := h6.2; simp [e]; done) | (have e : ¬ safeF s ts = 2 := (fun e => absurd (n5.1 e) (by omega)); simp [e]; done) | (simp; omega)
                  · -- no
                    replace h91 := of_decide_eq_false h91
                    refine r_sd (sd_move rfl rfl) rfl rfl ?_
                    refine r_sd (sd_bin rfl rfl rfl b_eql) rfl rfl ?_
                    refine r_sd (sd_pick_f rfl rfl rfl) rfl rfl ?_
                    refine r_sd (sd_pick_t rfl rfl rfl) rfl rfl ?_
                    refine r_sd (sd_move rfl rfl) rfl rfl ?_
                    refine r_bool (t := 96) rfl (fun h96 => ?_) (fun h96 => ?_)
                    · -- yes
                      replace h96 := of_decide_eq_true h96
                      refine r_sd (sd_fa (o' := 1) rfl rfl fo28_1 rfl) rfl rfl ?_
                      refine r_sd (sd_fa (o' := 2) rfl rfl fo26_1 rfl) rfl rfl ?_
                      refine r_sd (sd_ld1 rfl rfl tk3 (at_blk (vs := [(Value.int .i64 s.Start.Hi)]) 0 rfl rfl)) rfl rfl ?_
                      refine r_sd (sd_move rfl rfl) rfl rfl ?_
                      refine r_sd (sd_bin rfl rfl rfl b_leq) rfl rfl ?_
                      refine r_sd (sd_move rfl rfl) rfl rfl ?_
                      refine r_bool (t := 102) rfl (fun h102 => ?_) (fun h102 => ?_)
                      · -- yes
                        replace h102 := of_decide_eq_true h102
                        refine r_sd (sd_off rfl) rfl rfl ?_
                        refine r_sd (sd_off rfl) rfl rfl ?_
                        refine r_sd (sd_pick_t rfl rfl rfl) rfl rfl ?_
                        refine r_sd (sd_pick_t rfl rfl rfl) rfl rfl ?_
                        refine r_sd (sd_assign rfl rfl) rfl rfl ?_
                        refine r_nil ?_
                        refine k_then (hK18 _ _ _ ?_)
                        refine w_ret ?_
                        refine hQ _ _ _ (l_nil (vs := [(Value.bool true)]) ⟨rfl, trivial⟩ fun w hs => endV ?_ hs)
                        show (Value.bool true) = (Value.bool true)
                        clear hs w hQ hN hK18 K18 hK17 K17 hK14 K14 hK13 K13 hK11 K11 hK10 K10 hK9 K9 hK8 K8 hK6 K6 hK5 K5 hK4 K4 hK1 K1
                        first | rfl | (exfalso; omega) | (have e := h6.2; simp [e]; done) | (have e : ¬ safeF s ts = 2 := (fun e => absurd (n5.1 e) (by omega)); simp [e]; done) | (simp; omega)
                      · -- no
                        replace h102 := of_decide_eq_false h102
                        refine r_sd (sd_move rfl rfl) rfl rfl ?_
                        refine r_sd (sd_bin rfl rfl rfl b_neq) rfl rfl ?_
                        refine r_sd (sd_pick_f rfl rfl rfl) rfl rfl ?_
                        refine r_sd (sd_pick_t rfl rfl rfl) rfl rfl ?_
                        refine r_sd (sd_assign rfl rfl) rfl rfl ?_
                        refine r_nil ?_
                        refine k_then (hK18 _ _ _ ?_)
                        refine w_ret ?_
                        refine hQ _ _ _ (l_nil (vs := [(Value.bool (!(decide ((safeF s ts) = 2))))]) ⟨rfl, trivial⟩ fun w hs => endV ?_ hs)
                        show (Value.bool (!(decide ((safeF s ts) = 2)))) = (Value.bool true)
                        clear hs w hQ hN hK18 K18 hK17 K17 hK14 K14 hK13 K13 hK11 K11 hK10 K10 hK9 K9 hK8 K8 hK6 K6 hK5 K5 hK4 K4 hK1 K1
                        first | rfl | (exfalso; omega) | (have e := h6.2; simp [e]; done) | (have e : ¬ safeF s ts = 2 := (fun e => absurd (n5.1 e) (by omega)); simp [e]; done) | (simp; omega)
                    · -- no
                      replace h96 := of_decide_eq_false h96
                      exact absurd (n5.2 (by omega)) h96
              · -- no
                replace h67 := of_decide_eq_false h67
                refine r_sd (sd_off rfl) rfl rfl ?_
                refine r_sd (sd_off rfl) rfl rfl ?_
                refine r_sd (sd_off rfl) rfl rfl ?_
                refine r_sd (sd_off rfl) rfl rfl ?_
                refine r_sd (sd_pick_f rfl rfl rfl) rfl rfl ?_
                refine r_sd (sd_pick_f rfl rfl rfl) rfl rfl ?_
                refine r_nil ?_
                refine k_then (hK14 _ _ _ ?_)
                refine w_if_false rfl ?_
                refine w_skip ?_
                refine k_then (hK13 _ _ _ ?_)
                refine w_seq fun K19 hK19 => ?_
                refine w_region ?_
                refine r_sd (sd_ldn rfl rfl tk24 (at_blk (vs := (TrackV.cells (TrackV.mk (Slc.mk tsA ts.length tsC)))) 1 rfl rfl) rfl) rfl rfl ?_
                refine r_sd (sd_ldn rfl rfl tk28 (at_blk (vs := (SledV.cells s)) 0 rfl rfl) rfl) rfl rfl ?_
                refine r_sd (sd_call rfl rfl rfl rfl (safe_c ts tsA tsC s (by first | assumption | omega | (simp; done) | (simp; omega)) (by first | assumption | omega | (simp; done) | (simp; omega))) (ha_at 2 rfl rfl <| ha_nil)) rfl rfl ?_
                refine r_sd (sd_move rfl rfl) rfl rfl ?_
                refine r_sd (sd_extract rfl rfl rfl) rfl rfl ?_
                refine r_sd (sd_extract rfl rfl rfl) rfl rfl ?_
                refine r_sd (sd_assign rfl rfl) rfl rfl ?_
                refine r_sd (sd_assign rfl rfl) rfl rfl ?_
                refine r_nil ?_
                refine k_then (hK19 _ _ _ ?_)
                refine w_seq fun K20 hK20 => ?_
                refine w_region ?_
                rw [hb0]
                rw [safeV_ok hb0]
                refine r_sd (sd_move rfl rfl) rfl rfl ?_
                refine r_sd (sd_move rfl rfl) rfl rfl ?_
                refine r_sd (sd_move rfl rfl) rfl rfl ?_
                refine r_sd (sd_bin (r := .bool true) rfl rfl rfl b_eql) rfl rfl ?_
                refine r_sd (sd_pick_t rfl rfl rfl) rfl rfl ?_
                refine r_sd (sd_move rfl rfl) rfl rfl ?_
                refine r_sd (sd_fa (o' := 1) rfl rfl fo28_1 rfl) rfl rfl ?_
                refine r_sd (sd_fa (o' := 2) rfl rfl fo26_1 rfl) rfl rfl ?_
                refine r_sd (sd_ld1 rfl rfl tk3 (at_blk (vs := [(Value.int .i64 s.Start.Hi)]) 0 rfl rfl)) rfl rfl ?_
                refine r_sd (sd_move rfl rfl) rfl rfl ?_
                refine r_sd (sd_bin rfl rfl rfl b_gtr) rfl rfl ?_
                refine r_sd (sd_move rfl rfl) rfl rfl ?_
                refine r_bool (t := 91) rfl (fun h91 => ?_) (fun h91 => ?_)
                · -- yes
                  replace h91 := of_decide_eq_true h91
                  refine r_sd (sd_off rfl) rfl rfl ?_
                  refine r_sd (sd_off rfl) rfl rfl ?_
                  refine r_sd (sd_pick_t rfl rfl rfl) rfl rfl ?_
                  refine r_sd (sd_pick_t rfl rfl rfl) rfl rfl ?_
                  refine r_sd (sd_move rfl rfl) rfl rfl ?_
                  refine r_sd (sd_fa (o' := 1) rfl rfl fo28_1 rfl) rfl rfl ?_
                  refine r_sd (sd_fa (o' := 2) rfl rfl fo26_1 rfl) rfl rfl ?_
                  refine r_sd (sd_ld1 rfl rfl tk3 (at_blk (vs := [(Value.int .i64 s.Start.Hi)]) 0 rfl rfl)) rfl rfl ?_
                  refine r_sd (sd_move rfl rfl) rfl rfl ?_
                  refine r_sd (sd_bin rfl rfl rfl b_leq) rfl rfl ?_
                  refine r_sd (sd_move rfl rfl) rfl rfl ?_
                  refine r_bool (t := 102) rfl (fun h102 => ?_) (fun h102 => ?_)
                  · -- yes
                    replace h102 := of_decide_eq_true h102
                    refine r_sd (sd_off rfl) rfl rfl ?_
                    refine r_sd (sd_off rfl) rfl rfl ?_
                    refine r_sd (sd_pick_t rfl rfl rfl) rfl rfl ?_
                    refine r_sd (sd_pick_t rfl rfl rfl) rfl rfl ?_
                    refine r_sd (sd_assign rfl rfl) rfl rfl ?_
                    refine r_nil ?_
                    refine k_then (hK20 _ _ _ ?_)
                    refine w_ret ?_
                    refine hQ _ _ _ (l_nil (vs := [(Value.bool true)]) ⟨rfl, trivial⟩ fun w hs => endV ?_ hs)
                    show (Value.bool true) = (Value.bool true)
                    clear hs w hQ hN hK20 K20 hK19 K19 hK14 K14 hK13 K13 hK11 K11 hK10 K10 hK9 K9 hK8 K8 hK6 K6 hK5 K5 hK4 K4 hK1 K1
                    first | rfl | (exfalso; omega) | (have e := h6.2; simp [e]; done) | (have e : ¬ safeF s ts = 2 := (fun e => absurd (n5.1 e) (by omega)); simp [e]; done) | (simp; omega)
                  · -- no
                    replace h102 := of_decide_eq_false h102
                    refine r_sd (sd_move rfl rfl) rfl rfl ?_
                    refine r_sd (sd_bin rfl rfl rfl b_neq) rfl rfl ?_
                    refine r_sd (sd_pick_f rfl rfl rfl) rfl rfl ?_
                    refine r_sd (sd_pick_t rfl rfl rfl) rfl rfl ?_
                    refine r_sd (sd_assign rfl rfl) rfl rfl ?_
                    refine r_nil ?_
                    refine k_then (hK20 _ _ _ ?_)
                    refine w_ret ?_
                    refine hQ _ _ _ (l_nil (vs := [(Value.bool (!(decide ((safeF s ts) = 2))))]) ⟨rfl, trivial⟩ fun w hs => endV ?_ hs)
                    show (Value.bool (!(decide ((safeF s ts) = 2)))) = (Value.bool true)
                    clear hs w hQ hN hK20 K20 hK19 K19 hK14 K14 hK13 K13 hK11 K11 hK10 K10 hK9 K9 hK8 K8 hK6 K6 hK5 K5 hK4 K4 hK1 K1
                    first | rfl | (exfalso; omega) | (have e := h6.2; simp [e]; done) | (have e : ¬ safeF s ts = 2 := (fun e => absurd (n5.1 e) (by omega)); simp [e]; done) | (simp; omega)
                · -- no
                  replace h91 := of_decide_eq_false h91
                  refine r_sd (sd_move rfl rfl) rfl rfl ?_
                  refine r_sd (sd_bin rfl rfl rfl b_eql) rfl rfl ?_
                  refine r_sd (sd_pick_f rfl rfl rfl) rfl rfl ?_
                  refine r_sd (sd_pick_t rfl rfl rfl) rfl rfl ?_
                  refine r_sd (sd_move rfl rfl) rfl rfl ?_
                  refine r_bool (t := 96) rfl (fun h96 => ?_) (fun h96 => ?_)
                  · -- yes
                    replace h96 := of_decide_eq_true h96
                    refine r_sd (sd_fa (o' := 1) rfl rfl fo28_1 rfl) rfl rfl ?_
                    refine r_sd (sd_fa (o' := 2) rfl rfl fo26_1 rfl) rfl rfl ?_
                    refine r_sd (sd_ld1 rfl rfl tk3 (at_blk (vs := [(Value.int .i64 s.Start.Hi)]) 0 rfl rfl)) rfl rfl ?_
                    refine r_sd (sd_move rfl rfl) rfl rfl ?_
                    refine r_sd (sd_bin rfl rfl rfl b_leq) rfl rfl ?_
                    refine r_sd (sd_move rfl rfl) rfl rfl ?_
                    refine r_bool (t := 102) rfl (fun h102 => ?_) (fun h102 => ?_)
                    · -- yes
                      replace h102 := of_decide_eq_true h102
                      refine r_sd (sd_off rfl) rfl rfl ?_
                      refine r_sd (sd_off rfl) rfl rfl ?_
                      refine r_sd (sd_pick_t rfl rfl rfl) rfl rfl ?_
                      refine r_sd (sd_pick_t rfl rfl rfl) rfl rfl ?_
                      refine r_sd (sd_assign rfl rfl) rfl rfl ?_
                      refine r_nil ?_
                      refine k_then (hK20 _ _ _ ?_)
                      refine w_ret ?_
                      refine hQ _ _ _ (l_nil (vs := [(Value.bool true)]) ⟨rfl, trivial⟩ fun w hs => endV ?_ hs)
                      show (Value.bool true) = (Value.bool true)
                      clear hs w hQ hN hK20 K20 hK19 K19 hK14 K14 hK13 K13 hK11 K11 hK10 K10 hK9 K9 hK8 K8 hK6 K6 hK5 K5 hK4 K4 hK1 K1
                      first | rfl | (exfalso; omega) | (have e := h6.2; simp [e]; done) | (have e : ¬ safeF s ts = 2 := (fun e => absurd (n5.1 e) (by omega)); simp [e]; done) | (simp; omega)
                    · -- no
                      replace h102 := of_decide_eq_false h102
                      refine r_sd (sd_move rfl rfl) rfl rfl ?_
                      refine r_sd (sd_bin rfl rfl rfl b_neq) rfl rfl ?_
                      refine r_sd (sd_pick_f rfl rfl rfl) rfl rfl ?_
                      refine r_sd (sd_pick_t rfl rfl rfl) rfl rfl ?_
                      refine r_sd (sd_assign rfl rfl) rfl rfl ?_
                      refine r_nil ?_
                      refine k_then (hK20 _ _ _ ?_)
                      refine w_ret ?_
                      refine hQ _ _ _ (l_nil (vs := [(Value.bool (!(decide ((safeF s ts) = 2))))]) ⟨rfl, trivial⟩ fun w hs => endV ?_ hs)
                      show (Value.bool (!(decide ((safeF s ts) = 2)))) = (Value.bool true)
                      clear hs w hQ hN hK20 K20 hK19 K19 hK14 K14 hK13 K13 hK11 K11 hK10 K10 hK9 K9 hK8 K8 hK6 K6 hK5 K5 hK4 K4 hK1 K1
                      first | rfl | (exfalso; omega) | (have e := h6.2; simp [e]; done) | (have e : ¬ safeF s ts = 2 := (fun e => absurd (n5.1 e) (by omega)); simp [e]; done) | (simp; omega)
                  · -- no
                    replace h96 := of_decide_eq_false h96
                    exact absurd (n5.2 (by omega)) h96

end Go.Proofs.Ytpbgdeojcefnmaa
