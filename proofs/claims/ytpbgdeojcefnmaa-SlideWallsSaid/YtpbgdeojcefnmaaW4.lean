/-
  Walks: kreisel/kreiselref01.Track, kreisel/track.Check
-/
import Derived.Test.YtpbgdeojcefnmaaTab
import Derived.Test.YtpbgdeojcefnmaaSort
import Derived.Test.YtpbgdeojcefnmaaW1
import Derived.Test.YtpbgdeojcefnmaaW2
namespace Go.Proofs.Ytpbgdeojcefnmaa
open Go.RowKit
set_option linter.unusedVariables false

set_option maxRecDepth 100000 in
set_option maxHeartbeats 400000 in
theorem track_c (ts : List StretchV) (tsA : Option Addr) (tsC : Nat) (hlen : ts.length ≤ 1000000) :
    FnV Try.prog 50 [(Value.agg (TrackV.cells (TrackV.mk (Slc.mk tsA ts.length tsC))).toArray)] [(rd tsA ts.length 9 (ts.map StretchV.cells))] (Value.bool (trackOk ts)) := by
  refine fnV_of go50 Try.func50 rfl rfl fun w0 Q hQ hN => ?_
  change WJ _ _ _ _ [(0, (Value.agg (TrackV.cells (TrackV.mk (Slc.mk tsA ts.length tsC))).toArray))] [(rd tsA ts.length 9 (ts.map StretchV.cells)).ro]
  refine w_seq fun K1 hK1 => ?_
  refine w_region ?_
  refine r_box (cs := (TrackV.cells (TrackV.mk (Slc.mk tsA ts.length tsC)))) rfl rfl rfl rfl fun b2 => ?_
  refine r_sd (sd_assign rfl rfl) rfl rfl ?_
  refine r_nil ?_
  refine k_then (hK1 _ _ _ ?_)
  refine w_seq fun K3 hK3 => ?_
  refine w_seq fun K4 hK4 => ?_
  refine w_region ?_
  refine r_sd (sd_fa (o' := 0) rfl rfl fo24_0 rfl) rfl rfl ?_
  refine r_sd (sd_ld1 rfl rfl tk22 (at_blk (vs := [(Value.slice tsA ts.length tsC)]) 0 rfl rfl)) rfl rfl ?_
  refine r_sd (sd_len rfl rfl ut22) rfl rfl ?_
  refine r_sd (sd_call rfl rfl rfl rfl (within1_c ((ts.length : Nat) : Int) 1 12) (ha_nil)) rfl rfl ?_
  refine r_sd (sd_not rfl rfl) rfl rfl ?_
  refine r_nil ?_
  refine k_then (hK4 _ _ _ ?_)
  refine w_if rfl (fun h5 => ?_) (fun h5 => ?_)
  · -- yes
    rw [Bool.not_eq_true'] at h5
    replace h5 := of_decide_eq_false h5
    refine w_seq fun K6 hK6 => ?_
    refine w_region ?_
    refine r_sd (sd_assign rfl rfl) rfl rfl ?_
    refine r_nil ?_
    refine k_then (hK6 _ _ _ ?_)
    refine w_ret ?_
    refine hQ _ _ _ (l_nil (vs := [(Value.bool false)]) ⟨rfl, trivial⟩ fun w hs => endV ?_ hs)
    show (Value.bool false) = (Value.bool (trackOk ts))
    clear hs w hQ hN hK6 K6 hK4 K4 hK3 K3 hK1 K1
    first | exact congrArg Value.bool (trackOk_len (by omega)).symm | exact congrArg Value.bool (trackOk_no hl0_1 hx (by simp only [StretchOk, SpanOk]; omega)).symm | exact congrArg Value.bool (trackOk_yes hl0_1 (by omega) (by omega)).symm
  · -- no
    rw [Bool.not_eq_false'] at h5
    replace h5 := of_decide_eq_true h5
    refine w_skip ?_
    refine k_then (hK3 _ _ _ ?_)
    refine w_seq fun K7 hK7 => ?_
    refine w_seq fun K8 hK8 => ?_
    refine w_region ?_
    refine r_sd (sd_assign rfl rfl) rfl rfl ?_
    refine r_nil ?_
    refine k_then (hK8 _ _ _ ?_)
    refine w_block ?_
    have hinit : (0 ≤ ts.length) ∧ (trackFrom (-1) ts = trackFrom (lastId ts 0) (ts.drop 0)) ∧ (-1 ≤ lastId ts 0) := by (refine ⟨by omega, rfl, by simp [lastId]⟩)
    refine w_loop (ι := { z : Nat // (z ≤ ts.length) ∧ (trackFrom (-1) ts = trackFrom (lastId ts z) (ts.drop z)) ∧ (-1 ≤ lastId ts z) }) (fun z => [(1, (Value.pointer (some ⟨b2, 0, none⟩))), (3, (Value.int .i64 (z.1 : Int)))]) (fun z => [(blk b2 24 (TrackV.cells (TrackV.mk (Slc.mk tsA ts.length tsC)))), (rd tsA ts.length 9 (ts.map StretchV.cells)).ro]) (fun z => ts.length - z.1) ⟨0, hinit⟩ (Sub.cons rfl <| Sub.cons rfl <| Sub.nil _) (fun w hs => St.sel [0, 1] rfl rfl hs) ?_
    clear hinit
    rintro ⟨i, ⟨hl0_0, hl0_1, hl0_2⟩⟩ J9 hJ9
    change WJ _ _ _ _ [(1, (Value.pointer (some ⟨b2, 0, none⟩))), (3, (Value.int .i64 (i : Int)))] [(blk b2 24 (TrackV.cells (TrackV.mk (Slc.mk tsA ts.length tsC)))), (rd tsA ts.length 9 (ts.map StretchV.cells)).ro]
    have hz : i = 0 → lastId ts i = -1 := lastId_zero
    refine w_seq fun K10 hK10 => ?_
    refine w_seq fun K11 hK11 => ?_
    refine w_region ?_
    refine r_sd (sd_move rfl rfl) rfl rfl ?_
    refine r_sd (sd_fa (o' := 0) rfl rfl fo24_0 rfl) rfl rfl ?_
    refine r_sd (sd_ld1 rfl rfl tk22 (at_blk (vs := [(Value.slice tsA ts.length tsC)]) 0 rfl rfl)) rfl rfl ?_
    refine r_sd (sd_len rfl rfl ut22) rfl rfl ?_
    refine r_sd (sd_bin rfl rfl rfl b_lss) rfl rfl ?_
    refine r_nil ?_
    refine k_then (hK11 _ _ _ ?_)
    refine w_if rfl (fun h12 => ?_) (fun h12 => ?_)
    · -- yes
      replace h12 := of_decide_eq_true h12
      refine w_skip ?_
      refine k_then (hK10 _ _ _ ?_)
      refine w_seq fun K13 hK13 => ?_
      refine w_block ?_
      refine w_seq fun K14 hK14 => ?_
      refine w_region ?_
      refine r_sd (sd_fa (o' := 0) rfl rfl fo24_0 rfl) rfl rfl ?_
      refine r_sd (sd_ld1 rfl rfl tk22 (at_blk (vs := [(Value.slice tsA ts.length tsC)]) 0 rfl rfl)) rfl rfl ?_
      refine r_sd (sd_move rfl rfl) rfl rfl ?_
      obtain ⟨x, hx⟩ : ∃ y_, ts[i]? = some y_ := ⟨ts[i]'(by omega), List.getElem?_eq_getElem _⟩
      have hxm : (ts.map StretchV.cells)[i]? = some (StretchV.cells x) := by rw [List.getElem?_map, hx]; rfl
      refine r_sd (sd_ia (k := i) rfl rfl rfl (has_at 1 rfl) te22 (by decide) (by omega) (by omega)) rfl rfl ?_
      refine r_sd (sd_ldn rfl rfl tk77 (at_rd (k := i) (o := 0) (vs := (StretchV.cells x)) (has_at 1 rfl) hxm rfl (by decide) rfl) rfl) rfl rfl ?_
      refine r_alloc rfl tz77 rfl fun b15 => ?_
      refine r_store (vs := (StretchV.cells x)) (cs' := (StretchV.cells x)) (C' := [(blk b15 77 (StretchV.cells x)), _, _]) 0 rfl rfl rfl ts77 rfl rfl rfl rfl rfl rfl rfl ?_
      refine r_nil ?_
      refine k_then (hK14 _ _ _ ?_)
      refine w_seq fun K16 hK16 => ?_
      refine w_seq fun K17 hK17 => ?_
      refine w_draw mixed 38 (by kernel_rfl) ?_
      refine d_sd (sd_fa (o' := 0) rfl rfl fo77_0 rfl) rfl rfl ?_
      refine d_sd (sd_ld1 rfl rfl tk3 (at_blk (vs := [(Value.int .i64 x.Id)]) 0 rfl rfl)) rfl rfl ?_
      refine d_sd (sd_call rfl rfl rfl rfl (within1_c x.Id 0 9999) (ha_nil)) rfl rfl ?_
      refine d_sd (sd_not rfl rfl) rfl rfl ?_
      refine d_sd (sd_move rfl rfl) rfl rfl ?_
      refine d_bool (t := 26) rfl (fun h18 => ?_) (fun h18 => ?_)
      · -- yes
        rw [Bool.not_eq_true'] at h18
        replace h18 := of_decide_eq_false h18
        refine d_sd (sd_off rfl) rfl rfl ?_
        refine d_sd (sd_off rfl) rfl rfl ?_
        refine d_sd (sd_off rfl) rfl rfl ?_
        refine d_sd (sd_off rfl) rfl rfl ?_
        refine d_sd (sd_off rfl) rfl rfl ?_
        refine d_sd (sd_off rfl) rfl rfl ?_
        refine d_sd (sd_off rfl) rfl rfl ?_
        refine d_sd (sd_off rfl) rfl rfl ?_
        refine d_sd (sd_off rfl) rfl rfl ?_
        refine d_sd (sd_off rfl) rfl rfl ?_
        refine d_sd (sd_off rfl) rfl rfl ?_
        refine d_sd (sd_off rfl) rfl rfl ?_
        refine d_sd (sd_off rfl) rfl rfl ?_
        refine d_sd (sd_off rfl) rfl rfl ?_
        refine d_sd (sd_pick_t rfl rfl rfl) rfl rfl ?_
        refine d_sd (sd_move rfl rfl) rfl rfl ?_
        refine d_sd (sd_off rfl) rfl rfl ?_
        refine d_sd (sd_off rfl) rfl rfl ?_
        refine d_sd (sd_off rfl) rfl rfl ?_
        refine d_sd (sd_off rfl) rfl rfl ?_
        refine d_sd (sd_pick_t rfl rfl rfl) rfl rfl ?_
        refine d_sd (sd_move rfl rfl) rfl rfl ?_
        refine d_sd (sd_off rfl) rfl rfl ?_
        refine d_sd (sd_off rfl) rfl rfl ?_
        refine d_sd (sd_off rfl) rfl rfl ?_
        refine d_sd (sd_off rfl) rfl rfl ?_
        refine d_sd (sd_pick_t rfl rfl rfl) rfl rfl ?_
        refine d_sd (sd_move rfl rfl) rfl rfl ?_
        refine d_sd (sd_off rfl) rfl rfl ?_
        refine d_sd (sd_off rfl) rfl rfl ?_
        refine d_sd (sd_off rfl) rfl rfl ?_
        refine d_sd (sd_off rfl) rfl rfl ?_
        refine d_sd (sd_pick_t rfl rfl rfl) rfl rfl ?_
        refine d_end ?_
        refine r_nil ?_
        refine k_then (hK17 _ _ _ ?_)
        refine w_if_true rfl ?_
        refine w_seq fun K19 hK19 => ?_
        refine w_region ?_
        refine r_sd (sd_assign rfl rfl) rfl rfl ?_
        refine r_nil ?_
        refine k_then (hK19 _ _ _ ?_)
        refine w_ret ?_
        refine hQ _ _ _ (l_nil (vs := [(Value.bool false)]) ⟨rfl, trivial⟩ fun w hs => endV ?_ hs)
        show (Value.bool false) = (Value.bool (trackOk ts))
        clear hs w hQ hN hK19 K19 hK17 K17 hK16 K16 hK14 K14 hK13 K13 hK11 K11 hK10 K10 hK8 K8 hK7 K7 hK4 K4 hK3 K3 hK1 K1
        first | exact congrArg Value.bool (trackOk_len (by omega)).symm | exact congrArg Value.bool (trackOk_no hl0_1 hx (by simp only [StretchOk, SpanOk]; omega)).symm | exact congrArg Value.bool (trackOk_yes hl0_1 (by omega) (by omega)).symm
      · -- no
        rw [Bool.not_eq_false'] at h18
        replace h18 := of_decide_eq_true h18
        refine d_sd (sd_move rfl rfl) rfl rfl ?_
        refine d_sd (sd_bin rfl rfl rfl b_gtr) rfl rfl ?_
        refine d_sd (sd_move rfl rfl) rfl rfl ?_
        refine d_bool (t := 29) rfl (fun h20 => ?_) (fun h20 => ?_)
        · -- yes
          replace h20 := of_decide_eq_true h20
          refine d_sd (sd_fa (o' := 0) rfl rfl fo77_0 rfl) rfl rfl ?_
          refine d_sd (sd_ld1 rfl rfl tk3 (at_blk (vs := [(Value.int .i64 x.Id)]) 0 rfl rfl)) rfl rfl ?_
          refine d_sd (sd_fa (o' := 0) rfl rfl fo24_0 rfl) rfl rfl ?_
          refine d_sd (sd_ld1 rfl rfl tk22 (at_blk (vs := [(Value.slice tsA ts.length tsC)]) 1 rfl rfl)) rfl rfl ?_
          refine d_sd (sd_move rfl rfl) rfl rfl ?_
          refine d_sd (sd_bin rfl rfl rfl (b_sub ⟨by omega, by omega⟩)) rfl rfl ?_
          obtain ⟨y, hy⟩ : ∃ y_, ts[(i - 1)]? = some y_ := ⟨ts[(i - 1)]'(by omega), List.getElem?_eq_getElem _⟩
          have hym : (ts.map StretchV.cells)[(i - 1)]? = some (StretchV.cells y) := by rw [List.getElem?_map, hy]; rfl
          refine d_sd (sd_ia (k := (i - 1)) rfl rfl rfl (has_at 2 rfl) te22 (by decide) (by omega) (by omega)) rfl rfl ?_
          refine d_sd (sd_fa_rd (k' := ((i - 1) * 9)) rfl rfl (has_at 2 rfl) (Nat.mul_pos (by omega) (by decide)) fo77_0 rfl) rfl rfl ?_
          have hyl := lastId_pos (by omega) hy
          refine d_sd (sd_ld1 rfl rfl tk3 (at_rd (k := (i - 1)) (o := 0) (vs := [(Value.int .i64 y.Id)]) (has_at 2 rfl) hym rfl (by decide) rfl)) rfl rfl ?_
          refine d_sd (sd_bin rfl rfl rfl b_leq) rfl rfl ?_
          refine d_sd (sd_pick_t rfl rfl rfl) rfl rfl ?_
          refine d_sd (sd_pick_f rfl rfl rfl) rfl rfl ?_
          refine d_sd (sd_move rfl rfl) rfl rfl ?_
          refine d_bool (t := 42) rfl (fun h21 => ?_) (fun h21 => ?_)
          · -- yes
            replace h21 := of_decide_eq_true h21
            refine d_sd (sd_off rfl) rfl rfl ?_
            refine d_sd (sd_off rfl) rfl rfl ?_
            refine d_sd (sd_off rfl) rfl rfl ?_
            refine d_sd (sd_off rfl) rfl rfl ?_
            refine d_sd (sd_pick_t rfl rfl rfl) rfl rfl ?_
            refine d_sd (sd_move rfl rfl) rfl rfl ?_
            refine d_sd (sd_off rfl) rfl rfl ?_
            refine d_sd (sd_off rfl) rfl rfl ?_
            refine d_sd (sd_off rfl) rfl rfl ?_
            refine d_sd (sd_off rfl) rfl rfl ?_
            refine d_sd (sd_pick_t rfl rfl rfl) rfl rfl ?_
            refine d_sd (sd_move rfl rfl) rfl rfl ?_
            refine d_sd (sd_off rfl) rfl rfl ?_
            refine d_sd (sd_off rfl) rfl rfl ?_
            refine d_sd (sd_off rfl) rfl rfl ?_
            refine d_sd (sd_off rfl) rfl rfl ?_
            refine d_sd (sd_pick_t rfl rfl rfl) rfl rfl ?_
            refine d_end ?_
            refine r_nil ?_
            refine k_then (hK17 _ _ _ ?_)
            refine w_if_true rfl ?_
            refine w_seq fun K22 hK22 => ?_
            refine w_region ?_
            refine r_sd (sd_assign rfl rfl) rfl rfl ?_
            refine r_nil ?_
            refine k_then (hK22 _ _ _ ?_)
            refine w_ret ?_
            refine hQ _ _ _ (l_nil (vs := [(Value.bool false)]) ⟨rfl, trivial⟩ fun w hs => endV ?_ hs)
            show (Value.bool false) = (Value.bool (trackOk ts))
            clear hs w hQ hN hK22 K22 hK17 K17 hK16 K16 hK14 K14 hK13 K13 hK11 K11 hK10 K10 hK8 K8 hK7 K7 hK4 K4 hK3 K3 hK1 K1
            first | exact congrArg Value.bool (trackOk_len (by omega)).symm | exact congrArg Value.bool (trackOk_no hl0_1 hx (by simp only [StretchOk, SpanOk]; omega)).symm | exact congrArg Value.bool (trackOk_yes hl0_1 (by omega) (by omega)).symm
          · -- no
            replace h21 := of_decide_eq_false h21
            refine d_sd (sd_fa (o' := 1) rfl rfl fo77_1 rfl) rfl rfl ?_
            refine d_sd (sd_ldn rfl rfl tk26 (at_blk (vs := (SpanV.cells x.Long)) 0 rfl rfl) rfl) rfl rfl ?_
            refine d_sd (sd_call rfl rfl rfl rfl (span1_c x.Long 1 30000) (ha_nil)) rfl rfl ?_
            refine d_sd (sd_not rfl rfl) rfl rfl ?_
            refine d_sd (sd_pick_f rfl rfl rfl) rfl rfl ?_
            refine d_sd (sd_move rfl rfl) rfl rfl ?_
            refine d_bool (t := 48) rfl (fun h23 => ?_) (fun h23 => ?_)
            · -- yes
              rw [Bool.not_eq_true'] at h23
              replace h23 := of_decide_eq_false h23
              refine d_sd (sd_off rfl) rfl rfl ?_
              refine d_sd (sd_off rfl) rfl rfl ?_
              refine d_sd (sd_off rfl) rfl rfl ?_
              refine d_sd (sd_off rfl) rfl rfl ?_
              refine d_sd (sd_pick_t rfl rfl rfl) rfl rfl ?_
              refine d_sd (sd_move rfl rfl) rfl rfl ?_
              refine d_sd (sd_off rfl) rfl rfl ?_
              refine d_sd (sd_off rfl) rfl rfl ?_
              refine d_sd (sd_off rfl) rfl rfl ?_
              refine d_sd (sd_off rfl) rfl rfl ?_
              refine d_sd (sd_pick_t rfl rfl rfl) rfl rfl ?_
              refine d_end ?_
              refine r_nil ?_
              refine k_then (hK17 _ _ _ ?_)
              refine w_if_true rfl ?_
              refine w_seq fun K24 hK24 => ?_
              refine w_region ?_
              refine r_sd (sd_assign rfl rfl) rfl rfl ?_
              refine r_nil ?_
              refine k_then (hK24 _ _ _ ?_)
              refine w_ret ?_
              refine hQ _ _ _ (l_nil (vs := [(Value.bool false)]) ⟨rfl, trivial⟩ fun w hs => endV ?_ hs)
              show (Value.bool false) = (Value.bool (trackOk ts))
              clear hs w hQ hN hK24 K24 hK17 K17 hK16 K16 hK14 K14 hK13 K13 hK11 K11 hK10 K10 hK8 K8 hK7 K7 hK4 K4 hK3 K3 hK1 K1
              first | exact congrArg Value.bool (trackOk_len (by omega)).symm | exact congrArg Value.bool (trackOk_no hl0_1 hx (by simp only [StretchOk, SpanOk]; omega)).symm | exact congrArg Value.bool (trackOk_yes hl0_1 (by omega) (by omega)).symm
            · -- no
              rw [Bool.not_eq_false'] at h23
              replace h23 := of_decide_eq_true h23
              refine d_sd (sd_fa (o' := 3) rfl rfl fo77_2 rfl) rfl rfl ?_
              refine d_sd (sd_ldn rfl rfl tk26 (at_blk (vs := (SpanV.cells x.Fall)) 0 rfl rfl) rfl) rfl rfl ?_
              refine d_sd (sd_call rfl rfl rfl rfl (span1_c x.Fall 0 5000) (ha_nil)) rfl rfl ?_
              refine d_sd (sd_not rfl rfl) rfl rfl ?_
              refine d_sd (sd_pick_f rfl rfl rfl) rfl rfl ?_
              refine d_sd (sd_move rfl rfl) rfl rfl ?_
              refine d_bool (t := 54) rfl (fun h25 => ?_) (fun h25 => ?_)
              · -- yes
                rw [Bool.not_eq_true'] at h25
                replace h25 := of_decide_eq_false h25
                refine d_sd (sd_off rfl) rfl rfl ?_
                refine d_sd (sd_off rfl) rfl rfl ?_
                refine d_sd (sd_off rfl) rfl rfl ?_
                refine d_sd (sd_off rfl) rfl rfl ?_
                refine d_sd (sd_pick_t rfl rfl rfl) rfl rfl ?_
                refine d_end ?_
                refine r_nil ?_
                refine k_then (hK17 _ _ _ ?_)
                refine w_if_true rfl ?_
                refine w_seq fun K26 hK26 => ?_
                refine w_region ?_
                refine r_sd (sd_assign rfl rfl) rfl rfl ?_
                refine r_nil ?_
                refine k_then (hK26 _ _ _ ?_)
                refine w_ret ?_
                refine hQ _ _ _ (l_nil (vs := [(Value.bool false)]) ⟨rfl, trivial⟩ fun w hs => endV ?_ hs)
                show (Value.bool false) = (Value.bool (trackOk ts))
                clear hs w hQ hN hK26 K26 hK17 K17 hK16 K16 hK14 K14 hK13 K13 hK11 K11 hK10 K10 hK8 K8 hK7 K7 hK4 K4 hK3 K3 hK1 K1
                first | exact congrArg Value.bool (trackOk_len (by omega)).symm | exact congrArg Value.bool (trackOk_no hl0_1 hx (by simp only [StretchOk, SpanOk]; omega)).symm | exact congrArg Value.bool (trackOk_yes hl0_1 (by omega) (by omega)).symm
              · -- no
                rw [Bool.not_eq_false'] at h25
                replace h25 := of_decide_eq_true h25
                refine d_sd (sd_fa (o' := 8) rfl rfl fo77_5 rfl) rfl rfl ?_
                refine d_sd (sd_ld1 rfl rfl tk3 (at_blk (vs := [(Value.int .i64 x.Wall)]) 0 rfl rfl)) rfl rfl ?_
                refine d_sd (sd_call rfl rfl rfl rfl (within1_c x.Wall 0 5000) (ha_nil)) rfl rfl ?_
                refine d_sd (sd_not rfl rfl) rfl rfl ?_
                refine d_sd (sd_pick_f rfl rfl rfl) rfl rfl ?_
                refine d_end ?_
                refine r_nil ?_
                refine k_then (hK17 _ _ _ ?_)
                refine w_if rfl (fun h27 => ?_) (fun h27 => ?_)
                · -- yes
                  rw [Bool.not_eq_true'] at h27
                  replace h27 := of_decide_eq_false h27
                  refine w_seq fun K28 hK28 => ?_
                  refine w_region ?_
                  refine r_sd (sd_assign rfl rfl) rfl rfl ?_
                  refine r_nil ?_
                  refine k_then (hK28 _ _ _ ?_)
                  refine w_ret ?_
                  refine hQ _ _ _ (l_nil (vs := [(Value.bool false)]) ⟨rfl, trivial⟩ fun w hs => endV ?_ hs)
                  show (Value.bool false) = (Value.bool (trackOk ts))
                  clear hs w hQ hN hK28 K28 hK17 K17 hK16 K16 hK14 K14 hK13 K13 hK11 K11 hK10 K10 hK8 K8 hK7 K7 hK4 K4 hK3 K3 hK1 K1
                  first | exact congrArg Value.bool (trackOk_len (by omega)).symm | exact congrArg Value.bool (trackOk_no hl0_1 hx (by simp only [StretchOk, SpanOk]; omega)).symm | exact congrArg Value.bool (trackOk_yes hl0_1 (by omega) (by omega)).symm
                · -- no
                  rw [Bool.not_eq_false'] at h27
                  replace h27 := of_decide_eq_true h27
                  refine w_skip ?_
                  refine k_then (hK16 _ _ _ ?_)
                  refine w_seq fun K29 hK29 => ?_
                  refine w_region ?_
                  refine r_sd (sd_fa (o' := 7) rfl rfl fo77_4 rfl) rfl rfl ?_
                  refine r_sd (sd_ld1 rfl rfl tk5 (at_blk (vs := [(Value.int .u8 x.Side)]) 0 rfl rfl)) rfl rfl ?_
                  refine r_nil ?_
                  refine k_then (hK29 _ _ _ ?_)
                  refine w_block ?_
                  refine w_seq fun K30 hK30 => ?_
                  refine w_region ?_
                  refine r_sd (sd_bin rfl rfl rfl b_eql) rfl rfl ?_
                  refine r_sd (sd_assign rfl rfl) rfl rfl ?_
                  refine r_nil ?_
                  refine k_then (hK30 _ _ _ ?_)
                  refine w_if rfl (fun h31 => ?_) (fun h31 => ?_)
                  · -- yes
                    replace h31 := of_decide_eq_true h31
                    refine w_seq fun K32 hK32 => ?_
                    refine w_region ?_
                    refine r_sd (sd_fa (o' := 5) rfl rfl fo77_3 rfl) rfl rfl ?_
                    refine r_sd (sd_fa (o' := 5) rfl rfl fo26_0 rfl) rfl rfl ?_
                    refine r_sd (sd_ld1 rfl rfl tk3 (at_blk (vs := [(Value.int .i64 x.Radius.Lo)]) 0 rfl rfl)) rfl rfl ?_
                    refine r_sd (sd_bin rfl rfl rfl b_neq) rfl rfl ?_
                    refine r_sd (sd_move rfl rfl) rfl rfl ?_
                    refine r_bool (t := 68) rfl (fun h33 => ?_) (fun h33 => ?_)
                    · -- yes
                      rw [Bool.not_eq_true'] at h33
                      replace h33 := of_decide_eq_false h33
                      refine r_sd (sd_off rfl) rfl rfl ?_
                      refine r_sd (sd_off rfl) rfl rfl ?_
                      refine r_sd (sd_off rfl) rfl rfl ?_
                      refine r_sd (sd_off rfl) rfl rfl ?_
                      refine r_sd (sd_pick_t rfl rfl rfl) rfl rfl ?_
                      refine r_nil ?_
                      refine k_then (hK32 _ _ _ ?_)
                      refine w_if_true rfl ?_
                      refine w_seq fun K34 hK34 => ?_
                      refine w_region ?_
                      refine r_sd (sd_assign rfl rfl) rfl rfl ?_
                      refine r_nil ?_
                      refine k_then (hK34 _ _ _ ?_)
                      refine w_ret ?_
                      refine hQ _ _ _ (l_nil (vs := [(Value.bool false)]) ⟨rfl, trivial⟩ fun w hs => endV ?_ hs)
                      show (Value.bool false) = (Value.bool (trackOk ts))
                      clear hs w hQ hN hK34 K34 hK32 K32 hK30 K30 hK29 K29 hK17 K17 hK16 K16 hK14 K14 hK13 K13 hK11 K11 hK10 K10 hK8 K8 hK7 K7 hK4 K4 hK3 K3 hK1 K1
                      first | exact congrArg Value.bool (trackOk_len (by omega)).symm | exact congrArg Value.bool (trackOk_no hl0_1 hx (by simp only [StretchOk, SpanOk]; omega)).symm | exact congrArg Value.bool (trackOk_yes hl0_1 (by omega) (by omega)).symm
                    · -- no
                      rw [Bool.not_eq_false'] at h33
                      replace h33 := of_decide_eq_true h33
                      refine r_sd (sd_fa (o' := 5) rfl rfl fo77_3 rfl) rfl rfl ?_
                      refine r_sd (sd_fa (o' := 6) rfl rfl fo26_1 rfl) rfl rfl ?_
                      refine r_sd (sd_ld1 rfl rfl tk3 (at_blk (vs := [(Value.int .i64 x.Radius.Hi)]) 0 rfl rfl)) rfl rfl ?_
                      refine r_sd (sd_bin rfl rfl rfl b_neq) rfl rfl ?_
                      refine r_sd (sd_pick_f rfl rfl rfl) rfl rfl ?_
                      refine r_nil ?_
                      refine k_then (hK32 _ _ _ ?_)
                      refine w_if rfl (fun h35 => ?_) (fun h35 => ?_)
                      · -- yes
                        rw [Bool.not_eq_true'] at h35
                        replace h35 := of_decide_eq_false h35
                        refine w_seq fun K36 hK36 => ?_
                        refine w_region ?_
                        refine r_sd (sd_assign rfl rfl) rfl rfl ?_
                        refine r_nil ?_
                        refine k_then (hK36 _ _ _ ?_)
                        refine w_ret ?_
                        refine hQ _ _ _ (l_nil (vs := [(Value.bool false)]) ⟨rfl, trivial⟩ fun w hs => endV ?_ hs)
                        show (Value.bool false) = (Value.bool (trackOk ts))
                        clear hs w hQ hN hK36 K36 hK32 K32 hK30 K30 hK29 K29 hK17 K17 hK16 K16 hK14 K14 hK13 K13 hK11 K11 hK10 K10 hK8 K8 hK7 K7 hK4 K4 hK3 K3 hK1 K1
                        first | exact congrArg Value.bool (trackOk_len (by omega)).symm | exact congrArg Value.bool (trackOk_no hl0_1 hx (by simp only [StretchOk, SpanOk]; omega)).symm | exact congrArg Value.bool (trackOk_yes hl0_1 (by omega) (by omega)).symm
                      · -- no
                        rw [Bool.not_eq_false'] at h35
                        replace h35 := of_decide_eq_true h35
                        refine w_skip ?_
                        refine k_block ?_
                        refine k_block ?_
                        refine k_then (hK13 _ _ _ ?_)
                        refine w_region ?_
                        refine r_sd (sd_move rfl rfl) rfl rfl ?_
                        refine r_sd (sd_bin rfl rfl rfl (b_add ⟨by omega, by omega⟩)) rfl rfl ?_
                        refine r_sd (sd_assign rfl rfl) rfl rfl ?_
                        refine r_nil ?_
                        refine k_then (hJ9 ⟨(i + 1), ⟨by omega, trackFrom_next hl0_1 hx (by simp only [StretchOk, SpanOk]; omega), by rw [lastId_succ hx]; omega⟩⟩ _ _ _ rfl (by first | omega | (simp; omega)) (Sub.cons rfl <| Sub.cons rfl <| Sub.nil _) (fun w hs => St.sel [1, 2] rfl rfl hs))
                  · -- no
                    replace h31 := of_decide_eq_false h31
                    refine w_seq fun K37 hK37 => ?_
                    refine w_seq fun K38 hK38 => ?_
                    refine w_region ?_
                    refine r_sd (sd_bin rfl rfl rfl b_eql) rfl rfl ?_
                    refine r_sd (sd_assign rfl rfl) rfl rfl ?_
                    refine r_nil ?_
                    refine k_then (hK38 _ _ _ ?_)
                    refine w_if rfl (fun h39 => ?_) (fun h39 => ?_)
                    · -- yes
                      replace h39 := of_decide_eq_true h39
                      refine w_skip ?_
                      refine k_then (hK37 _ _ _ ?_)
                      refine w_if rfl (fun h40 => ?_) (fun h40 => ?_)
                      · -- yes
                        replace h40 := of_decide_eq_true h40
                        refine w_seq fun K41 hK41 => ?_
                        refine w_region ?_
                        refine r_sd (sd_fa (o' := 5) rfl rfl fo77_3 rfl) rfl rfl ?_
                        refine r_sd (sd_ldn rfl rfl tk26 (at_blk (vs := (SpanV.cells x.Radius)) 0 rfl rfl) rfl) rfl rfl ?_
                        refine r_sd (sd_call rfl rfl rfl rfl (span1_c x.Radius 500 20000) (ha_nil)) rfl rfl ?_
                        refine r_sd (sd_not rfl rfl) rfl rfl ?_
                        refine r_nil ?_
                        refine k_then (hK41 _ _ _ ?_)
                        refine w_if rfl (fun h42 => ?_) (fun h42 => ?_)
                        · -- yes
                          rw [Bool.not_eq_true'] at h42
                          replace h42 := of_decide_eq_false h42
                          refine w_seq fun K43 hK43 => ?_
                          refine w_region ?_
                          refine r_sd (sd_assign rfl rfl) rfl rfl ?_
                          refine r_nil ?_
                          refine k_then (hK43 _ _ _ ?_)
                          refine w_ret ?_
                          refine hQ _ _ _ (l_nil (vs := [(Value.bool false)]) ⟨rfl, trivial⟩ fun w hs => endV ?_ hs)
                          show (Value.bool false) = (Value.bool (trackOk ts))
                          clear hs w hQ hN hK43 K43 hK41 K41 hK38 K38 hK37 K37 hK30 K30 hK29 K29 hK17 K17 hK16 K16 hK14 K14 hK13 K13 hK11 K11 hK10 K10 hK8 K8 hK7 K7 hK4 K4 hK3 K3 hK1 K1
                          first | exact congrArg Value.bool (trackOk_len (by omega)).symm | exact congrArg Value.bool (trackOk_no hl0_1 hx (by simp only [StretchOk, SpanOk]; omega)).symm | exact congrArg Value.bool (trackOk_yes hl0_1 (by omega) (by omega)).symm
                        · -- no
                          rw [Bool.not_eq_false'] at h42
                          replace h42 := of_decide_eq_true h42
                          refine w_skip ?_
                          refine k_block ?_
                          refine k_block ?_
                          refine k_then (hK13 _ _ _ ?_)
                          refine w_region ?_
                          refine r_sd (sd_move rfl rfl) rfl rfl ?_
                          refine r_sd (sd_bin rfl rfl rfl (b_add ⟨by omega, by omega⟩)) rfl rfl ?_
                          refine r_sd (sd_assign rfl rfl) rfl rfl ?_
                          refine r_nil ?_
                          refine k_then (hJ9 ⟨(i + 1), ⟨by omega, trackFrom_next hl0_1 hx (by simp only [StretchOk, SpanOk]; omega), by rw [lastId_succ hx]; omega⟩⟩ _ _ _ rfl (by first | omega | (simp; omega)) (Sub.cons rfl <| Sub.cons rfl <| Sub.nil _) (fun w hs => St.sel [1, 2] rfl rfl hs))
                      · -- no
                        replace h40 := of_decide_eq_false h40
                        refine w_seq fun K44 hK44 => ?_
                        refine w_region ?_
                        refine r_sd (sd_assign rfl rfl) rfl rfl ?_
                        refine r_nil ?_
                        refine k_then (hK44 _ _ _ ?_)
                        refine w_ret ?_
                        refine hQ _ _ _ (l_nil (vs := [(Value.bool false)]) ⟨rfl, trivial⟩ fun w hs => endV ?_ hs)
                        show (Value.bool false) = (Value.bool (trackOk ts))
                        clear hs w hQ hN hK44 K44 hK38 K38 hK37 K37 hK30 K30 hK29 K29 hK17 K17 hK16 K16 hK14 K14 hK13 K13 hK11 K11 hK10 K10 hK8 K8 hK7 K7 hK4 K4 hK3 K3 hK1 K1
                        first | exact congrArg Value.bool (trackOk_len (by omega)).symm | exact congrArg Value.bool (trackOk_no hl0_1 hx (by simp only [StretchOk, SpanOk]; omega)).symm | exact congrArg Value.bool (trackOk_yes hl0_1 (by omega) (by omega)).symm
                    · -- no
                      replace h39 := of_decide_eq_false h39
                      refine w_region ?_
                      refine r_sd (sd_bin rfl rfl rfl b_eql) rfl rfl ?_
                      refine r_sd (sd_assign rfl rfl) rfl rfl ?_
                      refine r_nil ?_
                      refine k_then (hK37 _ _ _ ?_)
                      refine w_if rfl (fun h45 => ?_) (fun h45 => ?_)
                      · -- yes
                        replace h45 := of_decide_eq_true h45
                        refine w_seq fun K46 hK46 => ?_
                        refine w_region ?_
                        refine r_sd (sd_fa (o' := 5) rfl rfl fo77_3 rfl) rfl rfl ?_
                        refine r_sd (sd_ldn rfl rfl tk26 (at_blk (vs := (SpanV.cells x.Radius)) 0 rfl rfl) rfl) rfl rfl ?_
                        refine r_sd (sd_call rfl rfl rfl rfl (span1_c x.Radius 500 20000) (ha_nil)) rfl rfl ?_
                        refine r_sd (sd_not rfl rfl) rfl rfl ?_
                        refine r_nil ?_
                        refine k_then (hK46 _ _ _ ?_)
                        refine w_if rfl (fun h47 => ?_) (fun h47 => ?_)
                        · -- yes
                          rw [Bool.not_eq_true'] at h47
                          replace h47 := of_decide_eq_false h47
                          refine w_seq fun K48 hK48 => ?_
                          refine w_region ?_
                          refine r_sd (sd_assign rfl rfl) rfl rfl ?_
                          refine r_nil ?_
                          refine k_then (hK48 _ _ _ ?_)
                          refine w_ret ?_
                          refine hQ _ _ _ (l_nil (vs := [(Value.bool false)]) ⟨rfl, trivial⟩ fun w hs => endV ?_ hs)
                          show (Value.bool false) = (Value.bool (trackOk ts))
                          clear hs w hQ hN hK48 K48 hK46 K46 hK38 K38 hK37 K37 hK30 K30 hK29 K29 hK17 K17 hK16 K16 hK14 K14 hK13 K13 hK11 K11 hK10 K10 hK8 K8 hK7 K7 hK4 K4 hK3 K3 hK1 K1
                          first | exact congrArg Value.bool (trackOk_len (by omega)).symm | exact congrArg Value.bool (trackOk_no hl0_1 hx (by simp only [StretchOk, SpanOk]; omega)).symm | exact congrArg Value.bool (trackOk_yes hl0_1 (by omega) (by omega)).symm
                        · -- no
                          rw [Bool.not_eq_false'] at h47
                          replace h47 := of_decide_eq_true h47
                          refine w_skip ?_
                          refine k_block ?_
                          refine k_block ?_
                          refine k_then (hK13 _ _ _ ?_)
                          refine w_region ?_
                          refine r_sd (sd_move rfl rfl) rfl rfl ?_
                          refine r_sd (sd_bin rfl rfl rfl (b_add ⟨by omega, by omega⟩)) rfl rfl ?_
                          refine r_sd (sd_assign rfl rfl) rfl rfl ?_
                          refine r_nil ?_
                          refine k_then (hJ9 ⟨(i + 1), ⟨by omega, trackFrom_next hl0_1 hx (by simp only [StretchOk, SpanOk]; omega), by rw [lastId_succ hx]; omega⟩⟩ _ _ _ rfl (by first | omega | (simp; omega)) (Sub.cons rfl <| Sub.cons rfl <| Sub.nil _) (fun w hs => St.sel [1, 2] rfl rfl hs))
                      · -- no
                        replace h45 := of_decide_eq_false h45
                        refine w_seq fun K49 hK49 => ?_
                        refine w_region ?_
                        refine r_sd (sd_assign rfl rfl) rfl rfl ?_
                        refine r_nil ?_
                        refine k_then (hK49 _ _ _ ?_)
                        refine w_ret ?_
                        refine hQ _ _ _ (l_nil (vs := [(Value.bool false)]) ⟨rfl, trivial⟩ fun w hs => endV ?_ hs)
                        show (Value.bool false) = (Value.bool (trackOk ts))
                        clear hs w hQ hN hK49 K49 hK38 K38 hK37 K37 hK30 K30 hK29 K29 hK17 K17 hK16 K16 hK14 K14 hK13 K13 hK11 K11 hK10 K10 hK8 K8 hK7 K7 hK4 K4 hK3 K3 hK1 K1
                        first | exact congrArg Value.bool (trackOk_len (by omega)).symm | exact congrArg Value.bool (trackOk_no hl0_1 hx (by simp only [StretchOk, SpanOk]; omega)).symm | exact congrArg Value.bool (trackOk_yes hl0_1 (by omega) (by omega)).symm
        · -- no
          replace h20 := of_decide_eq_false h20
          refine d_sd (sd_off rfl) rfl rfl ?_
          refine d_sd (sd_off rfl) rfl rfl ?_
          refine d_sd (sd_off rfl) rfl rfl ?_
          refine d_sd (sd_off rfl) rfl rfl ?_
          refine d_sd (sd_off rfl) rfl rfl ?_
          refine d_sd (sd_off rfl) rfl rfl ?_
          refine d_sd (sd_off rfl) rfl rfl ?_
          refine d_sd (sd_off rfl) rfl rfl ?_
          refine d_sd (sd_off rfl) rfl rfl ?_
          refine d_sd (sd_off rfl) rfl rfl ?_
          refine d_sd (sd_pick_f rfl rfl rfl) rfl rfl ?_
          refine d_sd (sd_pick_f rfl rfl rfl) rfl rfl ?_
          refine d_sd (sd_move rfl rfl) rfl rfl ?_
          refine d_sd (sd_fa (o' := 1) rfl rfl fo77_1 rfl) rfl rfl ?_
          refine d_sd (sd_ldn rfl rfl tk26 (at_blk (vs := (SpanV.cells x.Long)) 0 rfl rfl) rfl) rfl rfl ?_
          refine d_sd (sd_call rfl rfl rfl rfl (span1_c x.Long 1 30000) (ha_nil)) rfl rfl ?_
          refine d_sd (sd_not rfl rfl) rfl rfl ?_
          refine d_sd (sd_pick_f rfl rfl rfl) rfl rfl ?_
          refine d_sd (sd_move rfl rfl) rfl rfl ?_
          refine d_bool (t := 48) rfl (fun h50 => ?_) (fun h50 => ?_)
          · -- yes
            rw [Bool.not_eq_true'] at h50
            replace h50 := of_decide_eq_false h50
            refine d_sd (sd_off rfl) rfl rfl ?_
            refine d_sd (sd_off rfl) rfl rfl ?_
            refine d_sd (sd_off rfl) rfl rfl ?_
            refine d_sd (sd_off rfl) rfl rfl ?_
            refine d_sd (sd_pick_t rfl rfl rfl) rfl rfl ?_
            refine d_sd (sd_move rfl rfl) rfl rfl ?_
            refine d_sd (sd_off rfl) rfl rfl ?_
            refine d_sd (sd_off rfl) rfl rfl ?_
            refine d_sd (sd_off rfl) rfl rfl ?_
            refine d_sd (sd_off rfl) rfl rfl ?_
            refine d_sd (sd_pick_t rfl rfl rfl) rfl rfl ?_
            refine d_end ?_
            refine r_nil ?_
            refine k_then (hK17 _ _ _ ?_)
            refine w_if_true rfl ?_
            refine w_seq fun K51 hK51 => ?_
            refine w_region ?_
            refine r_sd (sd_assign rfl rfl) rfl rfl ?_
            refine r_nil ?_
            refine k_then (hK51 _ _ _ ?_)
            refine w_ret ?_
            refine hQ _ _ _ (l_nil (vs := [(Value.bool false)]) ⟨rfl, trivial⟩ fun w hs => endV ?_ hs)
            show (Value.bool false) = (Value.bool (trackOk ts))
            clear hs w hQ hN hK51 K51 hK17 K17 hK16 K16 hK14 K14 hK13 K13 hK11 K11 hK10 K10 hK8 K8 hK7 K7 hK4 K4 hK3 K3 hK1 K1
            first | exact congrArg Value.bool (trackOk_len (by omega)).symm | exact congrArg Value.bool (trackOk_no hl0_1 hx (by simp only [StretchOk, SpanOk]; omega)).symm | exact congrArg Value.bool (trackOk_yes hl0_1 (by omega) (by omega)).symm
          · -- no
            rw [Bool.not_eq_false'] at h50
            replace h50 := of_decide_eq_true h50
            refine d_sd (sd_fa (o' := 3) rfl rfl fo77_2 rfl) rfl rfl ?_
            refine d_sd (sd_ldn rfl rfl tk26 (at_blk (vs := (SpanV.cells x.Fall)) 0 rfl rfl) rfl) rfl rfl ?_
            refine d_sd (sd_call rfl rfl rfl rfl (span1_c x.Fall 0 5000) (ha_nil)) rfl rfl ?_
            refine d_sd (sd_not rfl rfl) rfl rfl ?_
            refine d_sd (sd_pick_f rfl rfl rfl) rfl rfl ?_
            refine d_sd (sd_move rfl rfl) rfl rfl ?_
            refine d_bool (t := 54) rfl (fun h52 => ?_) (fun h52 => ?_)
            · -- yes
              rw [Bool.not_eq_true'] at h52
              replace h52 := of_decide_eq_false h52
              refine d_sd (sd_off rfl) rfl rfl ?_
              refine d_sd (sd_off rfl) rfl rfl ?_
              refine d_sd (sd_off rfl) rfl rfl ?_
              refine d_sd (sd_off rfl) rfl rfl ?_
              refine d_sd (sd_pick_t rfl rfl rfl) rfl rfl ?_
              refine d_end ?_
              refine r_nil ?_
              refine k_then (hK17 _ _ _ ?_)
              refine w_if_true rfl ?_
              refine w_seq fun K53 hK53 => ?_
              refine w_region ?_
              refine r_sd (sd_assign rfl rfl) rfl rfl ?_
              refine r_nil ?_
              refine k_then (hK53 _ _ _ ?_)
              refine w_ret ?_
              refine hQ _ _ _ (l_nil (vs := [(Value.bool false)]) ⟨rfl, trivial⟩ fun w hs => endV ?_ hs)
              show (Value.bool false) = (Value.bool (trackOk ts))
              clear hs w hQ hN hK53 K53 hK17 K17 hK16 K16 hK14 K14 hK13 K13 hK11 K11 hK10 K10 hK8 K8 hK7 K7 hK4 K4 hK3 K3 hK1 K1
              first | exact congrArg Value.bool (trackOk_len (by omega)).symm | exact congrArg Value.bool (trackOk_no hl0_1 hx (by simp only [StretchOk, SpanOk]; omega)).symm | exact congrArg Value.bool (trackOk_yes hl0_1 (by omega) (by omega)).symm
            · -- no
              rw [Bool.not_eq_false'] at h52
              replace h52 := of_decide_eq_true h52
              refine d_sd (sd_fa (o' := 8) rfl rfl fo77_5 rfl) rfl rfl ?_
              refine d_sd (sd_ld1 rfl rfl tk3 (at_blk (vs := [(Value.int .i64 x.Wall)]) 0 rfl rfl)) rfl rfl ?_
              refine d_sd (sd_call rfl rfl rfl rfl (within1_c x.Wall 0 5000) (ha_nil)) rfl rfl ?_
              refine d_sd (sd_not rfl rfl) rfl rfl ?_
              refine d_sd (sd_pick_f rfl rfl rfl) rfl rfl ?_
              refine d_end ?_
              refine r_nil ?_
              refine k_then (hK17 _ _ _ ?_)
              refine w_if rfl (fun h54 => ?_) (fun h54 => ?_)
              · -- yes
                rw [Bool.not_eq_true'] at h54
                replace h54 := of_decide_eq_false h54
                refine w_seq fun K55 hK55 => ?_
                refine w_region ?_
                refine r_sd (sd_assign rfl rfl) rfl rfl ?_
                refine r_nil ?_
                refine k_then (hK55 _ _ _ ?_)
                refine w_ret ?_
                refine hQ _ _ _ (l_nil (vs := [(Value.bool false)]) ⟨rfl, trivial⟩ fun w hs => endV ?_ hs)
                show (Value.bool false) = (Value.bool (trackOk ts))
                clear hs w hQ hN hK55 K55 hK17 K17 hK16 K16 hK14 K14 hK13 K13 hK11 K11 hK10 K10 hK8 K8 hK7 K7 hK4 K4 hK3 K3 hK1 K1
                first | exact congrArg Value.bool (trackOk_len (by omega)).symm | exact congrArg Value.bool (trackOk_no hl0_1 hx (by simp only [StretchOk, SpanOk]; omega)).symm | exact congrArg Value.bool (trackOk_yes hl0_1 (by omega) (by omega)).symm
              · -- no
                rw [Bool.not_eq_false'] at h54
                replace h54 := of_decide_eq_true h54
                refine w_skip ?_
                refine k_then (hK16 _ _ _ ?_)
                refine w_seq fun K56 hK56 => ?_
                refine w_region ?_
                refine r_sd (sd_fa (o' := 7) rfl rfl fo77_4 rfl) rfl rfl ?_
                refine r_sd (sd_ld1 rfl rfl tk5 (at_blk (vs := [(Value.int .u8 x.Side)]) 0 rfl rfl)) rfl rfl ?_
                refine r_nil ?_
                refine k_then (hK56 _ _ _ ?_)
                refine w_block ?_
                refine w_seq fun K57 hK57 => ?_
                refine w_region ?_
                refine r_sd (sd_bin rfl rfl rfl b_eql) rfl rfl ?_
                refine r_sd (sd_assign rfl rfl) rfl rfl ?_
                refine r_nil ?_
                refine k_then (hK57 _ _ _ ?_)
                refine w_if rfl (fun h58 => ?_) (fun h58 => ?_)
                · -- yes
                  replace h58 := of_decide_eq_true h58
                  refine w_seq fun K59 hK59 => ?_
                  refine w_region ?_
                  refine r_sd (sd_fa (o' := 5) rfl rfl fo77_3 rfl) rfl rfl ?_
                  refine r_sd (sd_fa (o' := 5) rfl rfl fo26_0 rfl) rfl rfl ?_
                  refine r_sd (sd_ld1 rfl rfl tk3 (at_blk (vs := [(Value.int .i64 x.Radius.Lo)]) 0 rfl rfl)) rfl rfl ?_
                  refine r_sd (sd_bin rfl rfl rfl b_neq) rfl rfl ?_
                  refine r_sd (sd_move rfl rfl) rfl rfl ?_
                  refine r_bool (t := 68) rfl (fun h60 => ?_) (fun h60 => ?_)
                  · -- yes
                    rw [Bool.not_eq_true'] at h60
                    replace h60 := of_decide_eq_false h60
                    refine r_sd (sd_off rfl) rfl rfl ?_
                    refine r_sd (sd_off rfl) rfl rfl ?_
                    refine r_sd (sd_off rfl) rfl rfl ?_
                    refine r_sd (sd_off rfl) rfl rfl ?_
                    refine r_sd (sd_pick_t rfl rfl rfl) rfl rfl ?_
                    refine r_nil ?_
                    refine k_then (hK59 _ _ _ ?_)
                    refine w_if_true rfl ?_
                    refine w_seq fun K61 hK61 => ?_
                    refine w_region ?_
                    refine r_sd (sd_assign rfl rfl) rfl rfl ?_
                    refine r_nil ?_
                    refine k_then (hK61 _ _ _ ?_)
                    refine w_ret ?_
                    refine hQ _ _ _ (l_nil (vs := [(Value.bool false)]) ⟨rfl, trivial⟩ fun w hs => endV ?_ hs)
                    show (Value.bool false) = (Value.bool (trackOk ts))
                    clear hs w hQ hN hK61 K61 hK59 K59 hK57 K57 hK56 K56 hK17 K17 hK16 K16 hK14 K14 hK13 K13 hK11 K11 hK10 K10 hK8 K8 hK7 K7 hK4 K4 hK3 K3 hK1 K1
                    first | exact congrArg Value.bool (trackOk_len (by omega)).symm | exact congrArg Value.bool (trackOk_no hl0_1 hx (by simp only [StretchOk, SpanOk]; omega)).symm | exact congrArg Value.bool (trackOk_yes hl0_1 (by omega) (by omega)).symm
                  · -- no
                    rw [Bool.not_eq_false'] at h60
                    replace h60 := of_decide_eq_true h60
                    refine r_sd (sd_fa (o' := 5) rfl rfl fo77_3 rfl) rfl rfl ?_
                    refine r_sd (sd_fa (o' := 6) rfl rfl fo26_1 rfl) rfl rfl ?_
                    refine r_sd (sd_ld1 rfl rfl tk3 (at_blk (vs := [(Value.int .i64 x.Radius.Hi)]) 0 rfl rfl)) rfl rfl ?_
                    refine r_sd (sd_bin rfl rfl rfl b_neq) rfl rfl ?_
                    refine r_sd (sd_pick_f rfl rfl rfl) rfl rfl ?_
                    refine r_nil ?_
                    refine k_then (hK59 _ _ _ ?_)
                    refine w_if rfl (fun h62 => ?_) (fun h62 => ?_)
                    · -- yes
                      rw [Bool.not_eq_true'] at h62
                      replace h62 := of_decide_eq_false h62
                      refine w_seq fun K63 hK63 => ?_
                      refine w_region ?_
                      refine r_sd (sd_assign rfl rfl) rfl rfl ?_
                      refine r_nil ?_
                      refine k_then (hK63 _ _ _ ?_)
                      refine w_ret ?_
                      refine hQ _ _ _ (l_nil (vs := [(Value.bool false)]) ⟨rfl, trivial⟩ fun w hs => endV ?_ hs)
                      show (Value.bool false) = (Value.bool (trackOk ts))
                      clear hs w hQ hN hK63 K63 hK59 K59 hK57 K57 hK56 K56 hK17 K17 hK16 K16 hK14 K14 hK13 K13 hK11 K11 hK10 K10 hK8 K8 hK7 K7 hK4 K4 hK3 K3 hK1 K1
                      first | exact congrArg Value.bool (trackOk_len (by omega)).symm | exact congrArg Value.bool (trackOk_no hl0_1 hx (by simp only [StretchOk, SpanOk]; omega)).symm | exact congrArg Value.bool (trackOk_yes hl0_1 (by omega) (by omega)).symm
                    · -- no
                      rw [Bool.not_eq_false'] at h62
                      replace h62 := of_decide_eq_true h62
                      refine w_skip ?_
                      refine k_block ?_
                      refine k_block ?_
                      refine k_then (hK13 _ _ _ ?_)
                      refine w_region ?_
                      refine r_sd (sd_move rfl rfl) rfl rfl ?_
                      refine r_sd (sd_bin rfl rfl rfl (b_add ⟨by omega, by omega⟩)) rfl rfl ?_
                      refine r_sd (sd_assign rfl rfl) rfl rfl ?_
                      refine r_nil ?_
                      refine k_then (hJ9 ⟨(i + 1), ⟨by omega, trackFrom_next hl0_1 hx (by simp only [StretchOk, SpanOk]; omega), by rw [lastId_succ hx]; omega⟩⟩ _ _ _ rfl (by first | omega | (simp; omega)) (Sub.cons rfl <| Sub.cons rfl <| Sub.nil _) (fun w hs => St.sel [1, 2] rfl rfl hs))
                · -- no
                  replace h58 := of_decide_eq_false h58
                  refine w_seq fun K64 hK64 => ?_
                  refine w_seq fun K65 hK65 => ?_
                  refine w_region ?_
                  refine r_sd (sd_bin rfl rfl rfl b_eql) rfl rfl ?_
                  refine r_sd (sd_assign rfl rfl) rfl rfl ?_
                  refine r_nil ?_
                  refine k_then (hK65 _ _ _ ?_)
                  refine w_if rfl (fun h66 => ?_) (fun h66 => ?_)
                  · -- yes
                    replace h66 := of_decide_eq_true h66
                    refine w_skip ?_
                    refine k_then (hK64 _ _ _ ?_)
                    refine w_if rfl (fun h67 => ?_) (fun h67 => ?_)
                    · -- yes
                      replace h67 := of_decide_eq_true h67
                      refine w_seq fun K68 hK68 => ?_
                      refine w_region ?_
                      refine r_sd (sd_fa (o' := 5) rfl rfl fo77_3 rfl) rfl rfl ?_
                      refine r_sd (sd_ldn rfl rfl tk26 (at_blk (vs := (SpanV.cells x.Radius)) 0 rfl rfl) rfl) rfl rfl ?_
                      refine r_sd (sd_call rfl rfl rfl rfl (span1_c x.Radius 500 20000) (ha_nil)) rfl rfl ?_
                      refine r_sd (sd_not rfl rfl) rfl rfl ?_
                      refine r_nil ?_
                      refine k_then (hK68 _ _ _ ?_)
                      refine w_if rfl (fun h69 => ?_) (fun h69 => ?_)
                      · -- yes
                        rw [Bool.not_eq_true'] at h69
                        replace h69 := of_decide_eq_false h69
                        refine w_seq fun K70 hK70 => ?_
                        refine w_region ?_
                        refine r_sd (sd_assign rfl rfl) rfl rfl ?_
                        refine r_nil ?_
                        refine k_then (hK70 _ _ _ ?_)
                        refine w_ret ?_
                        refine hQ _ _ _ (l_nil (vs := [(Value.bool false)]) ⟨rfl, trivial⟩ fun w hs => endV ?_ hs)
                        show (Value.bool false) = (Value.bool (trackOk ts))
                        clear hs w hQ hN hK70 K70 hK68 K68 hK65 K65 hK64 K64 hK57 K57 hK56 K56 hK17 K17 hK16 K16 hK14 K14 hK13 K13 hK11 K11 hK10 K10 hK8 K8 hK7 K7 hK4 K4 hK3 K3 hK1 K1
                        first | exact congrArg Value.bool (trackOk_len (by omega)).symm | exact congrArg Value.bool (trackOk_no hl0_1 hx (by simp only [StretchOk, SpanOk]; omega)).symm | exact congrArg Value.bool (trackOk_yes hl0_1 (by omega) (by omega)).symm
                      · -- no
                        rw [Bool.not_eq_false'] at h69
                        replace h69 := of_decide_eq_true h69
                        refine w_skip ?_
                        refine k_block ?_
                        refine k_block ?_
                        refine k_then (hK13 _ _ _ ?_)
                        refine w_region ?_
                        refine r_sd (sd_move rfl rfl) rfl rfl ?_
                        refine r_sd (sd_bin rfl rfl rfl (b_add ⟨by omega, by omega⟩)) rfl rfl ?_
                        refine r_sd (sd_assign rfl rfl) rfl rfl ?_
                        refine r_nil ?_
                        refine k_then (hJ9 ⟨(i + 1), ⟨by omega, trackFrom_next hl0_1 hx (by simp only [StretchOk, SpanOk]; omega), by rw [lastId_succ hx]; omega⟩⟩ _ _ _ rfl (by first | omega | (simp; omega)) (Sub.cons rfl <| Sub.cons rfl <| Sub.nil _) (fun w hs => St.sel [1, 2] rfl rfl hs))
                    · -- no
                      replace h67 := of_decide_eq_false h67
                      refine w_seq fun K71 hK71 => ?_
                      refine w_region ?_
                      refine r_sd (sd_assign rfl rfl) rfl rfl ?_
                      refine r_nil ?_
                      refine k_then (hK71 _ _ _ ?_)
                      refine w_ret ?_
                      refine hQ _ _ _ (l_nil (vs := [(Value.bool false)]) ⟨rfl, trivial⟩ fun w hs => endV ?_ hs)
                      show (Value.bool false) = (Value.bool (trackOk ts))
                      clear hs w hQ hN hK71 K71 hK65 K65 hK64 K64 hK57 K57 hK56 K56 hK17 K17 hK16 K16 hK14 K14 hK13 K13 hK11 K11 hK10 K10 hK8 K8 hK7 K7 hK4 K4 hK3 K3 hK1 K1
                      first | exact congrArg Value.bool (trackOk_len (by omega)).symm | exact congrArg Value.bool (trackOk_no hl0_1 hx (by simp only [StretchOk, SpanOk]; omega)).symm | exact congrArg Value.bool (trackOk_yes hl0_1 (by omega) (by omega)).symm
                  · -- no
                    replace h66 := of_decide_eq_false h66
                    refine w_region ?_
                    refine r_sd (sd_bin rfl rfl rfl b_eql) rfl rfl ?_
                    refine r_sd (sd_assign rfl rfl) rfl rfl ?_
                    refine r_nil ?_
                    refine k_then (hK64 _ _ _ ?_)
                    refine w_if rfl (fun h72 => ?_) (fun h72 => ?_)
                    · -- yes
                      replace h72 := of_decide_eq_true h72
                      refine w_seq fun K73 hK73 => ?_
                      refine w_region ?_
                      refine r_sd (sd_fa (o' := 5) rfl rfl fo77_3 rfl) rfl rfl ?_
                      refine r_sd (sd_ldn rfl rfl tk26 (at_blk (vs := (SpanV.cells x.Radius)) 0 rfl rfl) rfl) rfl rfl ?_
                      refine r_sd (sd_call rfl rfl rfl rfl (span1_c x.Radius 500 20000) (ha_nil)) rfl rfl ?_
                      refine r_sd (sd_not rfl rfl) rfl rfl ?_
                      refine r_nil ?_
                      refine k_then (hK73 _ _ _ ?_)
                      refine w_if rfl (fun h74 => ?_) (fun h74 => ?_)
                      · -- yes
                        rw [Bool.not_eq_true'] at h74
                        replace h74 := of_decide_eq_false h74
                        refine w_seq fun K75 hK75 => ?_
                        refine w_region ?_
                        refine r_sd (sd_assign rfl rfl) rfl rfl ?_
                        refine r_nil ?_
                        refine k_then (hK75 _ _ _ ?_)
                        refine w_ret ?_
                        refine hQ _ _ _ (l_nil (vs := [(Value.bool false)]) ⟨rfl, trivial⟩ fun w hs => endV ?_ hs)
                        show (Value.bool false) = (Value.bool (trackOk ts))
                        clear hs w hQ hN hK75 K75 hK73 K73 hK65 K65 hK64 K64 hK57 K57 hK56 K56 hK17 K17 hK16 K16 hK14 K14 hK13 K13 hK11 K11 hK10 K10 hK8 K8 hK7 K7 hK4 K4 hK3 K3 hK1 K1
                        first | exact congrArg Value.bool (trackOk_len (by omega)).symm | exact congrArg Value.bool (trackOk_no hl0_1 hx (by simp only [StretchOk, SpanOk]; omega)).symm | exact congrArg Value.bool (trackOk_yes hl0_1 (by omega) (by omega)).symm
                      · -- no
                        rw [Bool.not_eq_false'] at h74
                        replace h74 := of_decide_eq_true h74
                        refine w_skip ?_
                        refine k_block ?_
                        refine k_block ?_
                        refine k_then (hK13 _ _ _ ?_)
                        refine w_region ?_
                        refine r_sd (sd_move rfl rfl) rfl rfl ?_
                        refine r_sd (sd_bin rfl rfl rfl (b_add ⟨by omega, by omega⟩)) rfl rfl ?_
                        refine r_sd (sd_assign rfl rfl) rfl rfl ?_
                        refine r_nil ?_
                        refine k_then (hJ9 ⟨(i + 1), ⟨by omega, trackFrom_next hl0_1 hx (by simp only [StretchOk, SpanOk]; omega), by rw [lastId_succ hx]; omega⟩⟩ _ _ _ rfl (by first | omega | (simp; omega)) (Sub.cons rfl <| Sub.cons rfl <| Sub.nil _) (fun w hs => St.sel [1, 2] rfl rfl hs))
                    · -- no
                      replace h72 := of_decide_eq_false h72
                      refine w_seq fun K76 hK76 => ?_
                      refine w_region ?_
                      refine r_sd (sd_assign rfl rfl) rfl rfl ?_
                      refine r_nil ?_
                      refine k_then (hK76 _ _ _ ?_)
                      refine w_ret ?_
                      refine hQ _ _ _ (l_nil (vs := [(Value.bool false)]) ⟨rfl, trivial⟩ fun w hs => endV ?_ hs)
                      show (Value.bool false) = (Value.bool (trackOk ts))
                      clear hs w hQ hN hK76 K76 hK65 K65 hK64 K64 hK57 K57 hK56 K56 hK17 K17 hK16 K16 hK14 K14 hK13 K13 hK11 K11 hK10 K10 hK8 K8 hK7 K7 hK4 K4 hK3 K3 hK1 K1
                      first | exact congrArg Value.bool (trackOk_len (by omega)).symm | exact congrArg Value.bool (trackOk_no hl0_1 hx (by simp only [StretchOk, SpanOk]; omega)).symm | exact congrArg Value.bool (trackOk_yes hl0_1 (by omega) (by omega)).symm
    · -- no
      replace h12 := of_decide_eq_false h12
      refine w_exit ?_
      refine k_exit_then ?_
      refine k_exit_then ?_
      refine k_exit_same ?_
      refine k_then (hK7 _ _ _ ?_)
      refine w_seq fun K77 hK77 => ?_
      refine w_region ?_
      refine r_sd (sd_assign rfl rfl) rfl rfl ?_
      refine r_nil ?_
      refine k_then (hK77 _ _ _ ?_)
      refine w_ret ?_
      refine hQ _ _ _ (l_nil (vs := [(Value.bool true)]) ⟨rfl, trivial⟩ fun w hs => endV ?_ hs)
      show (Value.bool true) = (Value.bool (trackOk ts))
      clear hs w hQ hN hK77 K77 hK11 K11 hK10 K10 hK8 K8 hK7 K7 hK4 K4 hK3 K3 hK1 K1
      first | exact congrArg Value.bool (trackOk_len (by omega)).symm | exact congrArg Value.bool (trackOk_no hl0_1 hx (by simp only [StretchOk, SpanOk]; omega)).symm | exact congrArg Value.bool (trackOk_yes hl0_1 (by omega) (by omega)).symm

set_option maxRecDepth 100000 in
set_option maxHeartbeats 400000 in
theorem tcheck_c (ts : List StretchV) (tsA : Option Addr) (tsC : Nat) (hlen : ts.length ≤ 1000000) (hside : ∀ x ∈ ts, 0 ≤ x.Side ∧ x.Side ≤ 255) :
    FnV Try.prog 82 [(Value.agg (TrackV.cells (TrackV.mk (Slc.mk tsA ts.length tsC))).toArray)] [(rd tsA ts.length 9 (ts.map StretchV.cells))] (Value.int .i64 (if trackOk ts = true then 0 else 10)) := by
  refine fnV_of go82 Try.func82 rfl rfl fun w0 Q hQ hN => ?_
  change WJ _ _ _ _ [(0, (Value.agg (TrackV.cells (TrackV.mk (Slc.mk tsA ts.length tsC))).toArray))] [(rd tsA ts.length 9 (ts.map StretchV.cells)).ro]
  refine w_seq fun K1 hK1 => ?_
  refine w_region ?_
  refine r_box (cs := (TrackV.cells (TrackV.mk (Slc.mk tsA ts.length tsC)))) rfl rfl rfl rfl fun b2 => ?_
  refine r_sd (sd_assign rfl rfl) rfl rfl ?_
  refine r_nil ?_
  refine k_then (hK1 _ _ _ ?_)
  refine w_scope rfl ?_
  refine w_seq fun K3 hK3 => ?_
  refine w_seq fun K4 hK4 => ?_
  refine w_region ?_
  refine r_sd (sd_fa (o' := 0) rfl rfl fo24_0 rfl) rfl rfl ?_
  refine r_sd (sd_ld1 rfl rfl tk22 (at_blk (vs := [(Value.slice tsA ts.length tsC)]) 0 rfl rfl)) rfl rfl ?_
  refine r_sd (sd_len rfl rfl ut22) rfl rfl ?_
  refine r_bs (xs := [.tmp 11]) (cs := [(Value.int .i64 ((ts.length : Nat) : Int))]) rfl te61 tz3 rfl rfl rfl rfl (by simp [Value.cells]) rfl rfl fun b5 => ?_
  refine r_sd (sd_call rfl rfl rfl rfl (FnV.eq (in_c 1 12 ([((ts.length : Nat) : Int)]) (some ⟨b5, 0, none⟩) 1 (by first | assumption | omega | (simp; done) | (simp; omega))) inAll_one) (ha_cons (has_rd_blk 0 rfl rfl (by simp [iC_length]) rfl) <| ha_nil)) rfl rfl ?_
  refine r_sd (sd_not rfl rfl) rfl rfl ?_
  refine r_nil ?_
  refine k_then (hK4 _ _ _ ?_)
  refine w_if rfl (fun h6 => ?_) (fun h6 => ?_)
  · -- yes
    rw [Bool.not_eq_true'] at h6
    replace h6 := of_decide_eq_false h6
    refine w_seq fun K7 hK7 => ?_
    refine w_region ?_
    refine r_sd (sd_assign rfl rfl) rfl rfl ?_
    refine r_nil ?_
    refine k_then (hK7 _ _ _ ?_)
    refine w_ret ?_
    refine hQ _ _ _ (l_nil (vs := [(Value.int .i64 10)]) ⟨rfl, trivial⟩ fun w hs => endV ?_ hs)
    show (Value.int .i64 10) = (Value.int .i64 (if trackOk ts = true then 0 else 10))
    clear hs w hQ hN hK7 K7 hK4 K4 hK3 K3 hK1 K1
    first | exact congrArg (Value.int .i64) (if_neg (by rw [trackOk_len (by omega)]; decide)).symm | exact congrArg (Value.int .i64) (if_neg (by rw [trackOk_no hl0_1 hx (by simp only [StretchOk, SpanOk]; omega)]; decide)).symm | exact congrArg (Value.int .i64) (if_pos (trackOk_yes hl0_1 (by omega) (by omega))).symm
  · -- no
    rw [Bool.not_eq_false'] at h6
    replace h6 := of_decide_eq_true h6
    refine w_skip ?_
    refine k_then (hK3 _ _ _ ?_)
    refine w_seq fun K8 hK8 => ?_
    refine w_region ?_
    refine r_sd (sd_assign rfl rfl) rfl rfl ?_
    refine r_nil ?_
    refine k_then (hK8 _ _ _ ?_)
    refine w_seq fun K9 hK9 => ?_
    refine w_region ?_
    refine r_sd (sd_assign rfl rfl) rfl rfl ?_
    refine r_nil ?_
    refine k_then (hK9 _ _ _ ?_)
    refine w_seq fun K10 hK10 => ?_
    refine w_label ?_
    refine k_then (hK10 _ _ _ ?_)
    refine w_seq fun K11 hK11 => ?_
    refine w_seq fun K12 hK12 => ?_
    refine w_region ?_
    refine r_sd (sd_fa (o' := 0) rfl rfl fo24_0 rfl) rfl rfl ?_
    refine r_sd (sd_ld1 rfl rfl tk22 (at_blk (vs := [(Value.slice tsA ts.length tsC)]) 1 rfl rfl)) rfl rfl ?_
    refine r_sd (sd_len rfl rfl ut22) rfl rfl ?_
    refine r_sd (sd_move rfl rfl) rfl rfl ?_
    refine r_nil ?_
    refine k_then (hK12 _ _ _ ?_)
    refine w_block ?_
    have hinit : (0 ≤ ts.length) ∧ (trackFrom (-1) ts = trackFrom (lastId ts 0) (ts.drop 0)) ∧ (-1 ≤ lastId ts 0) ∧ (lastId ts 0 ≤ 9999) := by (refine ⟨by omega, rfl, by simp [lastId], by simp [lastId]⟩)
    refine w_loop (ι := { z : Nat // (z ≤ ts.length) ∧ (trackFrom (-1) ts = trackFrom (lastId ts z) (ts.drop z)) ∧ (-1 ≤ lastId ts z) ∧ (lastId ts z ≤ 9999) }) (fun z => [(1, (Value.pointer (some ⟨b2, 0, none⟩))), (3, (Value.int .i64 (lastId ts z.1))), (4, (Value.int .i64 0)), (16, (Value.slice tsA ts.length tsC)), (17, (Value.int .i64 ((ts.length : Nat) : Int))), (18, (Value.int .i64 (z.1 : Int)))]) (fun z => [(blk b2 24 (TrackV.cells (TrackV.mk (Slc.mk tsA ts.length tsC)))), (rd tsA ts.length 9 (ts.map StretchV.cells)).ro]) (fun z => ts.length - z.1) ⟨0, hinit⟩ (Sub.cons rfl <| Sub.cons rfl <| Sub.cons rfl <| Sub.cons rfl <| Sub.cons rfl <| Sub.cons rfl <| Sub.nil _) (fun w hs => St.sel [1, 2] rfl rfl hs) ?_
    clear hinit
    rintro ⟨i, ⟨hl0_0, hl0_1, hl0_2, hl0_3⟩⟩ J13 hJ13
    change WJ _ _ _ _ [(1, (Value.pointer (some ⟨b2, 0, none⟩))), (3, (Value.int .i64 (lastId ts i))), (4, (Value.int .i64 0)), (16, (Value.slice tsA ts.length tsC)), (17, (Value.int .i64 ((ts.length : Nat) : Int))), (18, (Value.int .i64 (i : Int)))] [(blk b2 24 (TrackV.cells (TrackV.mk (Slc.mk tsA ts.length tsC)))), (rd tsA ts.length 9 (ts.map StretchV.cells)).ro]
    refine w_seq fun K14 hK14 => ?_
    refine w_region ?_
    refine r_sd (sd_bin rfl rfl rfl b_lss) rfl rfl ?_
    refine r_nil ?_
    refine k_then (hK14 _ _ _ ?_)
    refine w_seq fun K15 hK15 => ?_
    refine w_if rfl (fun h16 => ?_) (fun h16 => ?_)
    · -- yes
      replace h16 := of_decide_eq_true h16
      refine w_skip ?_
      refine k_then (hK15 _ _ _ ?_)
      refine w_seq fun K17 hK17 => ?_
      refine w_block ?_
      refine w_seq fun K18 hK18 => ?_
      refine w_region ?_
      obtain ⟨x, hx⟩ : ∃ y_, ts[i]? = some y_ := ⟨ts[i]'(by omega), List.getElem?_eq_getElem _⟩
      have hxm : (ts.map StretchV.cells)[i]? = some (StretchV.cells x) := by rw [List.getElem?_map, hx]; rfl
      refine r_sd (sd_ia (k := i) rfl rfl rfl (has_at 1 rfl) te22 (by decide) (by omega) (by omega)) rfl rfl ?_
      have hsd := hside x (List.mem_of_getElem? hx)
      refine r_sd (sd_ldn rfl rfl tk77 (at_rd (k := i) (o := 0) (vs := (StretchV.cells x)) (has_at 1 rfl) hxm rfl (by decide) rfl) rfl) rfl rfl ?_
      refine r_alloc rfl tz77 rfl fun b19 => ?_
      refine r_store (vs := (StretchV.cells x)) (cs' := (StretchV.cells x)) (C' := [(blk b19 77 (StretchV.cells x)), _, _]) 0 rfl rfl rfl ts77 rfl rfl rfl rfl rfl rfl rfl ?_
      refine r_nil ?_
      refine k_then (hK18 _ _ _ ?_)
      refine w_join (ι := Unit) (fun z => [(1, (Value.pointer (some ⟨b2, 0, none⟩))), (3, (Value.int .i64 (lastId ts i))), (4, (Value.int .i64 0)), (6, (Value.pointer (some ⟨b19, 0, none⟩))), (7, (Value.bool (decide (x.Side = 0 ∧ x.Radius.Lo = 0 ∧ x.Radius.Hi = 0)))), (16, (Value.slice tsA ts.length tsC)), (17, (Value.int .i64 ((ts.length : Nat) : Int))), (18, (Value.int .i64 (i : Int)))]) (fun z => [(blk b19 77 (StretchV.cells x)), (blk b2 24 (TrackV.cells (TrackV.mk (Slc.mk tsA ts.length tsC)))), (rd tsA ts.length 9 (ts.map StretchV.cells)).ro]) ?_ fun K20 hK20 => ?_
      · -- behind the meeting
        intro _
        change WJ _ _ _ _ [(1, (Value.pointer (some ⟨b2, 0, none⟩))), (3, (Value.int .i64 (lastId ts i))), (4, (Value.int .i64 0)), (6, (Value.pointer (some ⟨b19, 0, none⟩))), (7, (Value.bool (decide (x.Side = 0 ∧ x.Radius.Lo = 0 ∧ x.Radius.Hi = 0)))), (16, (Value.slice tsA ts.length tsC)), (17, (Value.int .i64 ((ts.length : Nat) : Int))), (18, (Value.int .i64 (i : Int)))] [(blk b19 77 (StretchV.cells x)), (blk b2 24 (TrackV.cells (TrackV.mk (Slc.mk tsA ts.length tsC)))), (rd tsA ts.length 9 (ts.map StretchV.cells)).ro]
        refine w_join (ι := Unit) (fun z => [(1, (Value.pointer (some ⟨b2, 0, none⟩))), (3, (Value.int .i64 (lastId ts i))), (4, (Value.int .i64 0)), (6, (Value.pointer (some ⟨b19, 0, none⟩))), (7, (Value.bool (decide (x.Side = 0 ∧ x.Radius.Lo = 0 ∧ x.Radius.Hi = 0)))), (8, (Value.bool (decide ((1 ≤ x.Side ∧ x.Side ≤ 2) ∧ x.Radius.Lo ≤ x.Radius.Hi ∧ 500 ≤ x.Radius.Lo ∧ x.Radius.Hi ≤ 20000)))), (16, (Value.slice tsA ts.length tsC)), (17, (Value.int .i64 ((ts.length : Nat) : Int))), (18, (Value.int .i64 (i : Int)))]) (fun z => [(blk b19 77 (StretchV.cells x)), (blk b2 24 (TrackV.cells (TrackV.mk (Slc.mk tsA ts.length tsC)))), (rd tsA ts.length 9 (ts.map StretchV.cells)).ro]) ?_ fun K21 hK21 => ?_
        · -- behind the meeting
          intro _
          change WJ _ _ _ _ [(1, (Value.pointer (some ⟨b2, 0, none⟩))), (3, (Value.int .i64 (lastId ts i))), (4, (Value.int .i64 0)), (6, (Value.pointer (some ⟨b19, 0, none⟩))), (7, (Value.bool (decide (x.Side = 0 ∧ x.Radius.Lo = 0 ∧ x.Radius.Hi = 0)))), (8, (Value.bool (decide ((1 ≤ x.Side ∧ x.Side ≤ 2) ∧ x.Radius.Lo ≤ x.Radius.Hi ∧ 500 ≤ x.Radius.Lo ∧ x.Radius.Hi ≤ 20000)))), (16, (Value.slice tsA ts.length tsC)), (17, (Value.int .i64 ((ts.length : Nat) : Int))), (18, (Value.int .i64 (i : Int)))] [(blk b19 77 (StretchV.cells x)), (blk b2 24 (TrackV.cells (TrackV.mk (Slc.mk tsA ts.length tsC)))), (rd tsA ts.length 9 (ts.map StretchV.cells)).ro]
          refine w_seq fun K22 hK22 => ?_
          refine w_seq fun K23 hK23 => ?_
          refine w_region ?_
          refine r_sd (sd_move rfl rfl) rfl rfl ?_
          refine r_sd (sd_bin rfl rfl rfl (b_add ⟨by omega, by omega⟩)) rfl rfl ?_
          refine r_sd (sd_fa (o' := 0) rfl rfl fo77_0 rfl) rfl rfl ?_
          refine r_sd (sd_ld1 rfl rfl tk3 (at_blk (vs := [(Value.int .i64 x.Id)]) 0 rfl rfl)) rfl rfl ?_
          refine r_bs (xs := [.tmp 44]) (cs := [(Value.int .i64 x.Id)]) rfl te61 tz3 rfl rfl rfl rfl (by simp [Value.cells]) rfl rfl fun b24 => ?_
          refine r_sd (sd_call rfl rfl rfl rfl (FnV.eq (in_c ((lastId ts i) + 1) 9999 ([x.Id]) (some ⟨b24, 0, none⟩) 1 (by first | assumption | omega | (simp; done) | (simp; omega))) inAll_one) (ha_cons (has_rd_blk 0 rfl rfl (by simp [iC_length]) rfl) <| ha_nil)) rfl rfl ?_
          refine r_sd (sd_not rfl rfl) rfl rfl ?_
          refine r_sd (sd_move rfl rfl) rfl rfl ?_
          refine r_bool (t := 48) rfl (fun h25 => ?_) (fun h25 => ?_)
          · -- yes
            rw [Bool.not_eq_true'] at h25
            replace h25 := of_decide_eq_false h25
            refine r_sd (sd_off rfl) rfl rfl ?_
            refine r_sd (sd_off rfl) rfl rfl ?_
            refine r_sd (sd_off rfl) rfl rfl ?_
            refine r_sd (sd_off rfl) rfl rfl ?_
            refine r_sd (sd_pick_t rfl rfl rfl) rfl rfl ?_
            refine r_sd (sd_move rfl rfl) rfl rfl ?_
            refine r_sd (sd_off rfl) rfl rfl ?_
            refine r_sd (sd_off rfl) rfl rfl ?_
            refine r_sd (sd_off rfl) rfl rfl ?_
            refine r_sd (sd_off rfl) rfl rfl ?_
            refine r_sd (sd_pick_t rfl rfl rfl) rfl rfl ?_
            refine r_sd (sd_move rfl rfl) rfl rfl ?_
            refine r_sd (sd_off rfl) rfl rfl ?_
            refine r_sd (sd_off rfl) rfl rfl ?_
            refine r_sd (sd_off rfl) rfl rfl ?_
            refine r_sd (sd_off rfl) rfl rfl ?_
            refine r_sd (sd_off rfl) rfl rfl ?_
            refine r_sd (sd_pick_t rfl rfl rfl) rfl rfl ?_
            refine r_sd (sd_move rfl rfl) rfl rfl ?_
            refine r_sd (sd_off rfl) rfl rfl ?_
            refine r_sd (sd_off rfl) rfl rfl ?_
            refine r_sd (sd_off rfl) rfl rfl ?_
            refine r_sd (sd_off rfl) rfl rfl ?_
            refine r_sd (sd_off rfl) rfl rfl ?_
            refine r_sd (sd_off rfl) rfl rfl ?_
            refine r_sd (sd_pick_t rfl rfl rfl) rfl rfl ?_
            refine r_nil ?_
            refine k_then (hK23 _ _ _ ?_)
            refine w_if_true rfl ?_
            refine w_seq fun K26 hK26 => ?_
            refine w_region ?_
            refine r_sd (sd_assign rfl rfl) rfl rfl ?_
            refine r_nil ?_
            refine k_then (hK26 _ _ _ ?_)
            refine w_exit ?_
            refine k_exit_then ?_
            refine k_exit_other rfl ?_
            refine k_exit_then ?_
            refine k_exit_then ?_
            refine k_exit_same ?_
            refine k_then (hK11 _ _ _ ?_)
            refine w_seq fun K27 hK27 => ?_
            refine w_region ?_
            refine r_sd (sd_move rfl rfl) rfl rfl ?_
            refine r_sd (sd_assign rfl rfl) rfl rfl ?_
            refine r_nil ?_
            refine k_then (hK27 _ _ _ ?_)
            refine w_ret ?_
            refine hQ _ _ _ (l_nil (vs := [(Value.int .i64 10)]) ⟨rfl, trivial⟩ fun w hs => endV ?_ hs)
            show (Value.int .i64 10) = (Value.int .i64 (if trackOk ts = true then 0 else 10))
            clear hs w hQ hN hK27 K27 hK26 K26 hK23 K23 hK22 K22 hK18 K18 hK17 K17 hK15 K15 hK14 K14 hK12 K12 hK11 K11 hK10 K10 hK9 K9 hK8 K8 hK4 K4 hK3 K3 hK1 K1
            first | exact congrArg (Value.int .i64) (if_neg (by rw [trackOk_len (by omega)]; decide)).symm | exact congrArg (Value.int .i64) (if_neg (by rw [trackOk_no hl0_1 hx (by simp only [StretchOk, SpanOk]; omega)]; decide)).symm | exact congrArg (Value.int .i64) (if_pos (trackOk_yes hl0_1 (by omega) (by omega))).symm
          · -- no
            rw [Bool.not_eq_false'] at h25
            replace h25 := of_decide_eq_true h25
            refine r_sd (sd_fa (o' := 1) rfl rfl fo77_1 rfl) rfl rfl ?_
            refine r_sd (sd_ldn rfl rfl tk26 (at_blk (vs := (SpanV.cells x.Long)) 1 rfl rfl) rfl) rfl rfl ?_
            refine r_sd (sd_call rfl rfl rfl rfl (known_c x.Long 1 30000) (ha_nil)) rfl rfl ?_
            refine r_sd (sd_not rfl rfl) rfl rfl ?_
            refine r_sd (sd_pick_f rfl rfl rfl) rfl rfl ?_
            refine r_sd (sd_move rfl rfl) rfl rfl ?_
            refine r_bool (t := 54) rfl (fun h28 => ?_) (fun h28 => ?_)
            · -- yes
              rw [Bool.not_eq_true'] at h28
              replace h28 := of_decide_eq_false h28
              refine r_sd (sd_off rfl) rfl rfl ?_
              refine r_sd (sd_off rfl) rfl rfl ?_
              refine r_sd (sd_off rfl) rfl rfl ?_
              refine r_sd (sd_off rfl) rfl rfl ?_
              refine r_sd (sd_pick_t rfl rfl rfl) rfl rfl ?_
              refine r_sd (sd_move rfl rfl) rfl rfl ?_
              refine r_sd (sd_off rfl) rfl rfl ?_
              refine r_sd (sd_off rfl) rfl rfl ?_
              refine r_sd (sd_off rfl) rfl rfl ?_
              refine r_sd (sd_off rfl) rfl rfl ?_
              refine r_sd (sd_off rfl) rfl rfl ?_
              refine r_sd (sd_pick_t rfl rfl rfl) rfl rfl ?_
              refine r_sd (sd_move rfl rfl) rfl rfl ?_
              refine r_sd (sd_off rfl) rfl rfl ?_
              refine r_sd (sd_off rfl) rfl rfl ?_
              refine r_sd (sd_off rfl) rfl rfl ?_
              refine r_sd (sd_off rfl) rfl rfl ?_
              refine r_sd (sd_off rfl) rfl rfl ?_
              refine r_sd (sd_off rfl) rfl rfl ?_
              refine r_sd (sd_pick_t rfl rfl rfl) rfl rfl ?_
              refine r_nil ?_
              refine k_then (hK23 _ _ _ ?_)
              refine w_if_true rfl ?_
              refine w_seq fun K29 hK29 => ?_
              refine w_region ?_
              refine r_sd (sd_assign rfl rfl) rfl rfl ?_
              refine r_nil ?_
              refine k_then (hK29 _ _ _ ?_)
              refine w_exit ?_
              refine k_exit_then ?_
              refine k_exit_other rfl ?_
              refine k_exit_then ?_
              refine k_exit_then ?_
              refine k_exit_same ?_
              refine k_then (hK11 _ _ _ ?_)
              refine w_seq fun K30 hK30 => ?_
              refine w_region ?_
              refine r_sd (sd_move rfl rfl) rfl rfl ?_
              refine r_sd (sd_assign rfl rfl) rfl rfl ?_
              refine r_nil ?_
              refine k_then (hK30 _ _ _ ?_)
              refine w_ret ?_
              refine hQ _ _ _ (l_nil (vs := [(Value.int .i64 10)]) ⟨rfl, trivial⟩ fun w hs => endV ?_ hs)
              show (Value.int .i64 10) = (Value.int .i64 (if trackOk ts = true then 0 else 10))
              clear hs w hQ hN hK30 K30 hK29 K29 hK23 K23 hK22 K22 hK18 K18 hK17 K17 hK15 K15 hK14 K14 hK12 K12 hK11 K11 hK10 K10 hK9 K9 hK8 K8 hK4 K4 hK3 K3 hK1 K1
              first | exact congrArg (Value.int .i64) (if_neg (by rw [trackOk_len (by omega)]; decide)).symm | exact congrArg (Value.int .i64) (if_neg (by rw [trackOk_no hl0_1 hx (by simp only [StretchOk, SpanOk]; omega)]; decide)).symm | exact congrArg (Value.int .i64) (if_pos (trackOk_yes hl0_1 (by omega) (by omega))).symm
            · -- no
              rw [Bool.not_eq_false'] at h28
              replace h28 := of_decide_eq_true h28
              refine r_sd (sd_fa (o' := 3) rfl rfl fo77_2 rfl) rfl rfl ?_
              refine r_sd (sd_ldn rfl rfl tk26 (at_blk (vs := (SpanV.cells x.Fall)) 1 rfl rfl) rfl) rfl rfl ?_
              refine r_sd (sd_call rfl rfl rfl rfl (known_c x.Fall 0 5000) (ha_nil)) rfl rfl ?_
              refine r_sd (sd_not rfl rfl) rfl rfl ?_
              refine r_sd (sd_pick_f rfl rfl rfl) rfl rfl ?_
              refine r_sd (sd_move rfl rfl) rfl rfl ?_
              refine r_bool (t := 60) rfl (fun h31 => ?_) (fun h31 => ?_)
              · -- yes
                rw [Bool.not_eq_true'] at h31
                replace h31 := of_decide_eq_false h31
                refine r_sd (sd_off rfl) rfl rfl ?_
                refine r_sd (sd_off rfl) rfl rfl ?_
                refine r_sd (sd_off rfl) rfl rfl ?_
                refine r_sd (sd_off rfl) rfl rfl ?_
                refine r_sd (sd_off rfl) rfl rfl ?_
                refine r_sd (sd_pick_t rfl rfl rfl) rfl rfl ?_
                refine r_sd (sd_move rfl rfl) rfl rfl ?_
                refine r_sd (sd_off rfl) rfl rfl ?_
                refine r_sd (sd_off rfl) rfl rfl ?_
                refine r_sd (sd_off rfl) rfl rfl ?_
                refine r_sd (sd_off rfl) rfl rfl ?_
                refine r_sd (sd_off rfl) rfl rfl ?_
                refine r_sd (sd_off rfl) rfl rfl ?_
                refine r_sd (sd_pick_t rfl rfl rfl) rfl rfl ?_
                refine r_nil ?_
                refine k_then (hK23 _ _ _ ?_)
                refine w_if_true rfl ?_
                refine w_seq fun K32 hK32 => ?_
                refine w_region ?_
                refine r_sd (sd_assign rfl rfl) rfl rfl ?_
                refine r_nil ?_
                refine k_then (hK32 _ _ _ ?_)
                refine w_exit ?_
                refine k_exit_then ?_
                refine k_exit_other rfl ?_
                refine k_exit_then ?_
                refine k_exit_then ?_
                refine k_exit_same ?_
                refine k_then (hK11 _ _ _ ?_)
                refine w_seq fun K33 hK33 => ?_
                refine w_region ?_
                refine r_sd (sd_move rfl rfl) rfl rfl ?_
                refine r_sd (sd_assign rfl rfl) rfl rfl ?_
                refine r_nil ?_
                refine k_then (hK33 _ _ _ ?_)
                refine w_ret ?_
                refine hQ _ _ _ (l_nil (vs := [(Value.int .i64 10)]) ⟨rfl, trivial⟩ fun w hs => endV ?_ hs)
                show (Value.int .i64 10) = (Value.int .i64 (if trackOk ts = true then 0 else 10))
                clear hs w hQ hN hK33 K33 hK32 K32 hK23 K23 hK22 K22 hK18 K18 hK17 K17 hK15 K15 hK14 K14 hK12 K12 hK11 K11 hK10 K10 hK9 K9 hK8 K8 hK4 K4 hK3 K3 hK1 K1
                first | exact congrArg (Value.int .i64) (if_neg (by rw [trackOk_len (by omega)]; decide)).symm | exact congrArg (Value.int .i64) (if_neg (by rw [trackOk_no hl0_1 hx (by simp only [StretchOk, SpanOk]; omega)]; decide)).symm | exact congrArg (Value.int .i64) (if_pos (trackOk_yes hl0_1 (by omega) (by omega))).symm
              · -- no
                rw [Bool.not_eq_false'] at h31
                replace h31 := of_decide_eq_true h31
                refine r_sd (sd_fa (o' := 8) rfl rfl fo77_5 rfl) rfl rfl ?_
                refine r_sd (sd_ld1 rfl rfl tk3 (at_blk (vs := [(Value.int .i64 x.Wall)]) 1 rfl rfl)) rfl rfl ?_
                refine r_bs (xs := [.tmp 62]) (cs := [(Value.int .i64 x.Wall)]) rfl te61 tz3 rfl rfl rfl rfl (by simp [Value.cells]) rfl rfl fun b34 => ?_
                refine r_sd (sd_call rfl rfl rfl rfl (FnV.eq (in_c 0 5000 ([x.Wall]) (some ⟨b34, 0, none⟩) 1 (by first | assumption | omega | (simp; done) | (simp; omega))) inAll_one) (ha_cons (has_rd_blk 0 rfl rfl (by simp [iC_length]) rfl) <| ha_nil)) rfl rfl ?_
                refine r_sd (sd_not rfl rfl) rfl rfl ?_
                refine r_sd (sd_pick_f rfl rfl rfl) rfl rfl ?_
                refine r_sd (sd_move rfl rfl) rfl rfl ?_
                refine r_bool (t := 67) rfl (fun h35 => ?_) (fun h35 => ?_)
                · -- yes
                  rw [Bool.not_eq_true'] at h35
                  replace h35 := of_decide_eq_false h35
                  refine r_sd (sd_off rfl) rfl rfl ?_
                  refine r_sd (sd_off rfl) rfl rfl ?_
                  refine r_sd (sd_off rfl) rfl rfl ?_
                  refine r_sd (sd_off rfl) rfl rfl ?_
                  refine r_sd (sd_off rfl) rfl rfl ?_
                  refine r_sd (sd_off rfl) rfl rfl ?_
                  refine r_sd (sd_pick_t rfl rfl rfl) rfl rfl ?_
                  refine r_nil ?_
                  refine k_then (hK23 _ _ _ ?_)
                  refine w_if_true rfl ?_
                  refine w_seq fun K36 hK36 => ?_
                  refine w_region ?_
                  refine r_sd (sd_assign rfl rfl) rfl rfl ?_
                  refine r_nil ?_
                  refine k_then (hK36 _ _ _ ?_)
                  refine w_exit ?_
                  refine k_exit_then ?_
                  refine k_exit_other rfl ?_
                  refine k_exit_then ?_
                  refine k_exit_then ?_
                  refine k_exit_same ?_
                  refine k_then (hK11 _ _ _ ?_)
                  refine w_seq fun K37 hK37 => ?_
                  refine w_region ?_
                  refine r_sd (sd_move rfl rfl) rfl rfl ?_
                  refine r_sd (sd_assign rfl rfl) rfl rfl ?_
                  refine r_nil ?_
                  refine k_then (hK37 _ _ _ ?_)
                  refine w_ret ?_
                  refine hQ _ _ _ (l_nil (vs := [(Value.int .i64 10)]) ⟨rfl, trivial⟩ fun w hs => endV ?_ hs)
                  show (Value.int .i64 10) = (Value.int .i64 (if trackOk ts = true then 0 else 10))
                  clear hs w hQ hN hK37 K37 hK36 K36 hK23 K23 hK22 K22 hK18 K18 hK17 K17 hK15 K15 hK14 K14 hK12 K12 hK11 K11 hK10 K10 hK9 K9 hK8 K8 hK4 K4 hK3 K3 hK1 K1
                  first | exact congrArg (Value.int .i64) (if_neg (by rw [trackOk_len (by omega)]; decide)).symm | exact congrArg (Value.int .i64) (if_neg (by rw [trackOk_no hl0_1 hx (by simp only [StretchOk, SpanOk]; omega)]; decide)).symm | exact congrArg (Value.int .i64) (if_pos (trackOk_yes hl0_1 (by omega) (by omega))).symm
                · -- no
                  rw [Bool.not_eq_false'] at h35
                  replace h35 := of_decide_eq_true h35
                  refine r_sd (sd_move rfl rfl) rfl rfl ?_
                  refine r_sd (sd_not rfl rfl) rfl rfl ?_
                  refine r_sd (sd_move rfl rfl) rfl rfl ?_
                  refine r_bool (t := 70) rfl (fun h38 => ?_) (fun h38 => ?_)
                  · -- yes
                    rw [Bool.not_eq_true'] at h38
                    replace h38 := of_decide_eq_false h38
                    refine r_sd (sd_move rfl rfl) rfl rfl ?_
                    refine r_sd (sd_not rfl rfl) rfl rfl ?_
                    refine r_sd (sd_pick_t rfl rfl rfl) rfl rfl ?_
                    refine r_sd (sd_pick_f rfl rfl rfl) rfl rfl ?_
                    refine r_nil ?_
                    refine k_then (hK23 _ _ _ ?_)
                    refine w_if rfl (fun h39 => ?_) (fun h39 => ?_)
                    · -- yes
                      rw [Bool.not_eq_true'] at h39
                      replace h39 := of_decide_eq_false h39
                      refine w_seq fun K40 hK40 => ?_
                      refine w_region ?_
                      refine r_sd (sd_assign rfl rfl) rfl rfl ?_
                      refine r_nil ?_
                      refine k_then (hK40 _ _ _ ?_)
                      refine w_exit ?_
                      refine k_exit_then ?_
                      refine k_exit_other rfl ?_
                      refine k_exit_then ?_
                      refine k_exit_then ?_
                      refine k_exit_same ?_
                      refine k_then (hK11 _ _ _ ?_)
                      refine w_seq fun K41 hK41 => ?_
                      refine w_region ?_
                      refine r_sd (sd_move rfl rfl) rfl rfl ?_
                      refine r_sd (sd_assign rfl rfl) rfl rfl ?_
                      refine r_nil ?_
                      refine k_then (hK41 _ _ _ ?_)
                      refine w_ret ?_
                      refine hQ _ _ _ (l_nil (vs := [(Value.int .i64 10)]) ⟨rfl, trivial⟩ fun w hs => endV ?_ hs)
                      show (Value.int .i64 10) = (Value.int .i64 (if trackOk ts = true then 0 else 10))
                      clear hs w hQ hN hK41 K41 hK40 K40 hK23 K23 hK22 K22 hK18 K18 hK17 K17 hK15 K15 hK14 K14 hK12 K12 hK11 K11 hK10 K10 hK9 K9 hK8 K8 hK4 K4 hK3 K3 hK1 K1
                      first | exact congrArg (Value.int .i64) (if_neg (by rw [trackOk_len (by omega)]; decide)).symm | exact congrArg (Value.int .i64) (if_neg (by rw [trackOk_no hl0_1 hx (by simp only [StretchOk, SpanOk]; omega)]; decide)).symm | exact congrArg (Value.int .i64) (if_pos (trackOk_yes hl0_1 (by omega) (by omega))).symm
                    · -- no
                      rw [Bool.not_eq_false'] at h39
                      replace h39 := of_decide_eq_true h39
                      refine w_skip ?_
                      refine k_then (hK22 _ _ _ ?_)
                      refine w_region ?_
                      refine r_sd (sd_fa (o' := 0) rfl rfl fo77_0 rfl) rfl rfl ?_
                      refine r_sd (sd_ld1 rfl rfl tk3 (at_blk (vs := [(Value.int .i64 x.Id)]) 2 rfl rfl)) rfl rfl ?_
                      refine r_sd (sd_assign rfl rfl) rfl rfl ?_
                      refine r_nil ?_
                      refine k_block ?_
                      refine k_then (hK17 _ _ _ ?_)
                      refine w_region ?_
                      refine r_sd (sd_bin rfl rfl rfl (b_add ⟨by omega, by omega⟩)) rfl rfl ?_
                      refine r_sd (sd_move rfl rfl) rfl rfl ?_
                      refine r_nil ?_
                      have hb42 : (Value.int .i64 (lastId ts (i + 1))) = (Value.int .i64 x.Id) := by rw [lastId_succ hx]
                      refine k_then (hJ13 ⟨(i + 1), ⟨by omega, trackFrom_next hl0_1 hx (by simp only [StretchOk, SpanOk]; omega), by rw [lastId_succ hx]; omega, by rw [lastId_succ hx]; omega⟩⟩ _ _ _ rfl (by first | omega | (simp; omega)) (Sub.cons rfl <| sub_val rfl hb42 <| Sub.cons rfl <| Sub.cons rfl <| Sub.cons rfl <| Sub.cons rfl <| Sub.nil _) (fun w hs => St.sel [3, 4] rfl rfl hs))
                  · -- no
                    rw [Bool.not_eq_false'] at h38
                    replace h38 := of_decide_eq_true h38
                    refine r_sd (sd_off rfl) rfl rfl ?_
                    refine r_sd (sd_off rfl) rfl rfl ?_
                    refine r_sd (sd_pick_f rfl rfl rfl) rfl rfl ?_
                    refine r_sd (sd_pick_f rfl rfl rfl) rfl rfl ?_
                    refine r_nil ?_
                    refine k_then (hK23 _ _ _ ?_)
                    refine w_if_false rfl ?_
                    refine w_skip ?_
                    refine k_then (hK22 _ _ _ ?_)
                    refine w_region ?_
                    refine r_sd (sd_fa (o' := 0) rfl rfl fo77_0 rfl) rfl rfl ?_
                    refine r_sd (sd_ld1 rfl rfl tk3 (at_blk (vs := [(Value.int .i64 x.Id)]) 2 rfl rfl)) rfl rfl ?_
                    refine r_sd (sd_assign rfl rfl) rfl rfl ?_
                    refine r_nil ?_
                    refine k_block ?_
                    refine k_then (hK17 _ _ _ ?_)
                    refine w_region ?_
                    refine r_sd (sd_bin rfl rfl rfl (b_add ⟨by omega, by omega⟩)) rfl rfl ?_
                    refine r_sd (sd_move rfl rfl) rfl rfl ?_
                    refine r_nil ?_
                    have hb43 : (Value.int .i64 (lastId ts (i + 1))) = (Value.int .i64 x.Id) := by rw [lastId_succ hx]
                    refine k_then (hJ13 ⟨(i + 1), ⟨by omega, trackFrom_next hl0_1 hx (by simp only [StretchOk, SpanOk]; omega), by rw [lastId_succ hx]; omega, by rw [lastId_succ hx]; omega⟩⟩ _ _ _ rfl (by first | omega | (simp; omega)) (Sub.cons rfl <| sub_val rfl hb43 <| Sub.cons rfl <| Sub.cons rfl <| Sub.cons rfl <| Sub.cons rfl <| Sub.nil _) (fun w hs => St.sel [3, 4] rfl rfl hs))
        refine w_region ?_
        refine r_sd (sd_fa (o' := 7) rfl rfl fo77_4 rfl) rfl rfl ?_
        refine r_sd (sd_ld1 rfl rfl tk5 (at_blk (vs := [(Value.int .u8 x.Side)]) 0 rfl rfl)) rfl rfl ?_
        refine r_sd (sd_conv (m := x.Side) rfl rfl ut5 ut3 (wrap_u8_i64 (by first | assumption | omega))) rfl rfl ?_
        refine r_bs (xs := [.tmp 33]) (cs := [(Value.int .i64 x.Side)]) rfl te61 tz3 rfl rfl rfl rfl (by simp [Value.cells]) rfl rfl fun b44 => ?_
        refine r_sd (sd_call rfl rfl rfl rfl (FnV.eq (in_c 1 2 ([x.Side]) (some ⟨b44, 0, none⟩) 1 (by first | assumption | omega | (simp; done) | (simp; omega))) inAll_one) (ha_cons (has_rd_blk 0 rfl rfl (by simp [iC_length]) rfl) <| ha_nil)) rfl rfl ?_
        refine r_sd (sd_move rfl rfl) rfl rfl ?_
        refine r_bool (t := 36) rfl (fun h45 => ?_) (fun h45 => ?_)
        · -- yes
          replace h45 := of_decide_eq_true h45
          refine r_sd (sd_fa (o' := 5) rfl rfl fo77_3 rfl) rfl rfl ?_
          refine r_sd (sd_ldn rfl rfl tk26 (at_blk (vs := (SpanV.cells x.Radius)) 1 rfl rfl) rfl) rfl rfl ?_
          refine r_sd (sd_call rfl rfl rfl rfl (known_c x.Radius 500 20000) (ha_nil)) rfl rfl ?_
          refine r_sd (sd_pick_t rfl rfl rfl) rfl rfl ?_
          refine r_sd (sd_assign rfl rfl) rfl rfl ?_
          refine r_nil ?_
          have hb46 : (decide ((1 ≤ x.Side ∧ x.Side ≤ 2) ∧ x.Radius.Lo ≤ x.Radius.Hi ∧ 500 ≤ x.Radius.Lo ∧ x.Radius.Hi ≤ 20000)) = (decide (x.Radius.Lo ≤ x.Radius.Hi ∧ 500 ≤ x.Radius.Lo ∧ x.Radius.Hi ≤ 20000)) := decide_eq_decide.2 (by first | omega | (simp only [SpanV.ext_iff] at *; omega))
          refine k_then (k_sub (Sub.cons rfl <| Sub.cons rfl <| Sub.cons rfl <| Sub.cons rfl <| Sub.cons rfl <| sub_bool rfl hb46 <| Sub.cons rfl <| Sub.cons rfl <| Sub.cons rfl <| Sub.nil _) (fun w hs => St.sel [1, 2, 3] rfl rfl hs) (hK21 ()))
        · -- no
          replace h45 := of_decide_eq_false h45
          refine r_sd (sd_off rfl) rfl rfl ?_
          refine r_sd (sd_off rfl) rfl rfl ?_
          refine r_sd (sd_off rfl) rfl rfl ?_
          refine r_sd (sd_pick_f rfl rfl rfl) rfl rfl ?_
          refine r_sd (sd_assign rfl rfl) rfl rfl ?_
          refine r_nil ?_
          have hb47 : (decide ((1 ≤ x.Side ∧ x.Side ≤ 2) ∧ x.Radius.Lo ≤ x.Radius.Hi ∧ 500 ≤ x.Radius.Lo ∧ x.Radius.Hi ≤ 20000)) = false := decide_eq_false (by first | omega | (simp only [SpanV.ext_iff] at *; omega))
          refine k_then (k_sub (Sub.cons rfl <| Sub.cons rfl <| Sub.cons rfl <| Sub.cons rfl <| Sub.cons rfl <| sub_bool rfl hb47 <| Sub.cons rfl <| Sub.cons rfl <| Sub.cons rfl <| Sub.nil _) (fun w hs => St.sel [1, 2, 3] rfl rfl hs) (hK21 ()))
      refine w_region ?_
      refine r_sd (sd_fa (o' := 7) rfl rfl fo77_4 rfl) rfl rfl ?_
      refine r_sd (sd_ld1 rfl rfl tk5 (at_blk (vs := [(Value.int .u8 x.Side)]) 0 rfl rfl)) rfl rfl ?_
      refine r_sd (sd_bin rfl rfl rfl b_eql) rfl rfl ?_
      refine r_sd (sd_move rfl rfl) rfl rfl ?_
      refine r_bool (t := 25) rfl (fun h48 => ?_) (fun h48 => ?_)
      · -- yes
        replace h48 := of_decide_eq_true h48
        refine r_sd (sd_fa (o' := 5) rfl rfl fo77_3 rfl) rfl rfl ?_
        refine r_sd (sd_ldn rfl rfl tk26 (at_blk (vs := (SpanV.cells x.Radius)) 0 rfl rfl) rfl) rfl rfl ?_
        refine r_sd (sd_build (xs := []) (cs := (SpanV.cells (SpanV.mk 0 0))) rfl rfl (built_of tb26 rfl)) rfl rfl ?_
        refine r_sd (sd_bin rfl rfl rfl (eqs26 _ _ x.Radius (SpanV.mk 0 0))) rfl rfl ?_
        refine r_sd (sd_pick_t rfl rfl rfl) rfl rfl ?_
        refine r_sd (sd_assign rfl rfl) rfl rfl ?_
        refine r_nil ?_
        have hb49 : (decide (x.Side = 0 ∧ x.Radius.Lo = 0 ∧ x.Radius.Hi = 0)) = (decide (x.Radius = (SpanV.mk 0 0))) := decide_eq_decide.2 (by first | omega | (simp only [SpanV.ext_iff] at *; omega))
        refine k_then (k_sub (Sub.cons rfl <| Sub.cons rfl <| Sub.cons rfl <| Sub.cons rfl <| sub_bool rfl hb49 <| Sub.cons rfl <| Sub.cons rfl <| Sub.cons rfl <| Sub.nil _) (fun w hs => St.sel [0, 1, 2] rfl rfl hs) (hK20 ()))
      · -- no
        replace h48 := of_decide_eq_false h48
        refine r_sd (sd_off rfl) rfl rfl ?_
        refine r_sd (sd_off rfl) rfl rfl ?_
        refine r_sd (sd_off rfl) rfl rfl ?_
        refine r_sd (sd_off rfl) rfl rfl ?_
        refine r_sd (sd_pick_f rfl rfl rfl) rfl rfl ?_
        refine r_sd (sd_assign rfl rfl) rfl rfl ?_
        refine r_nil ?_
        have hb50 : (decide (x.Side = 0 ∧ x.Radius.Lo = 0 ∧ x.Radius.Hi = 0)) = false := decide_eq_false (by first | omega | (simp only [SpanV.ext_iff] at *; omega))
        refine k_then (k_sub (Sub.cons rfl <| Sub.cons rfl <| Sub.cons rfl <| Sub.cons rfl <| sub_bool rfl hb50 <| Sub.cons rfl <| Sub.cons rfl <| Sub.cons rfl <| Sub.nil _) (fun w hs => St.sel [0, 1, 2] rfl rfl hs) (hK20 ()))
    · -- no
      replace h16 := of_decide_eq_false h16
      refine w_exit ?_
      refine k_exit_then ?_
      refine k_exit_then ?_
      refine k_exit_same ?_
      refine k_then (hK11 _ _ _ ?_)
      refine w_seq fun K51 hK51 => ?_
      refine w_region ?_
      refine r_sd (sd_move rfl rfl) rfl rfl ?_
      refine r_sd (sd_assign rfl rfl) rfl rfl ?_
      refine r_nil ?_
      refine k_then (hK51 _ _ _ ?_)
      refine w_ret ?_
      refine hQ _ _ _ (l_nil (vs := [(Value.int .i64 0)]) ⟨rfl, trivial⟩ fun w hs => endV ?_ hs)
      show (Value.int .i64 0) = (Value.int .i64 (if trackOk ts = true then 0 else 10))
      clear hs w hQ hN hK51 K51 hK15 K15 hK14 K14 hK12 K12 hK11 K11 hK10 K10 hK9 K9 hK8 K8 hK4 K4 hK3 K3 hK1 K1
      first | exact congrArg (Value.int .i64) (if_neg (by rw [trackOk_len (by omega)]; decide)).symm | exact congrArg (Value.int .i64) (if_neg (by rw [trackOk_no hl0_1 hx (by simp only [StretchOk, SpanOk]; omega)]; decide)).symm | exact congrArg (Value.int .i64) (if_pos (trackOk_yes hl0_1 (by omega) (by omega))).symm

end Go.Proofs.Ytpbgdeojcefnmaa
