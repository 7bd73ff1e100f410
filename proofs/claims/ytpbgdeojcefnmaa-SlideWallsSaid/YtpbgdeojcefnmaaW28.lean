/-
  Walks: kreisel/kreisellaw03.SlideWalls
-/
import Derived.Test.YtpbgdeojcefnmaaTab
import Derived.Test.YtpbgdeojcefnmaaSort
import Derived.Test.YtpbgdeojcefnmaaThr
import Derived.Test.YtpbgdeojcefnmaaMono
import Derived.Test.YtpbgdeojcefnmaaSafe
import Derived.Test.YtpbgdeojcefnmaaAlive
import Derived.Test.YtpbgdeojcefnmaaWithin
import Derived.Test.YtpbgdeojcefnmaaShut
import Derived.Test.YtpbgdeojcefnmaaStart
import Derived.Test.YtpbgdeojcefnmaaWalls
import Derived.Test.YtpbgdeojcefnmaaW14
import Derived.Test.YtpbgdeojcefnmaaW16
import Derived.Test.YtpbgdeojcefnmaaW17
import Derived.Test.YtpbgdeojcefnmaaW18
import Derived.Test.YtpbgdeojcefnmaaW22
namespace Go.Proofs.Ytpbgdeojcefnmaa
open Go.RowKit
set_option linter.unusedVariables false

set_option maxRecDepth 100000 in
set_option maxHeartbeats 400000 in
theorem slideWalls_c (ts : List StretchV) (tsA : Option Addr) (tsC : Nat) (s : SledV) (hside : ∀ x ∈ ts, 0 ≤ x.Side ∧ x.Side ≤ 255) (hc : 0 ≤ s.Class ∧ s.Class ≤ 255) :
    FnV Try.prog 10 [(Value.agg (TrackV.cells (TrackV.mk (Slc.mk tsA ts.length tsC))).toArray), (Value.agg (SledV.cells s).toArray)] [(rd tsA ts.length 9 (ts.map StretchV.cells))] (Value.bool true) := by
  refine fnV_of go10 Try.func10 rfl rfl fun w0 Q hQ hN => ?_
  change WJ _ _ _ _ [(0, (Value.agg (TrackV.cells (TrackV.mk (Slc.mk tsA ts.length tsC))).toArray)), (1, (Value.agg (SledV.cells s).toArray))] [(rd tsA ts.length 9 (ts.map StretchV.cells)).ro]
  refine w_seq fun K1 hK1 => ?_
  refine w_region ?_
  refine r_box (cs := (TrackV.cells (TrackV.mk (Slc.mk tsA ts.length tsC)))) rfl rfl rfl rfl fun b2 => ?_
  refine r_box (cs := (SledV.cells s)) rfl rfl rfl rfl fun b3 => ?_
  refine r_sd (sd_assign rfl rfl) rfl rfl ?_
  refine r_nil ?_
  refine k_then (hK1 _ _ _ ?_)
  refine w_seq fun K4 hK4 => ?_
  refine w_region ?_
  refine r_sd (sd_call rfl rfl rfl rfl alive_c (ha_nil)) rfl rfl ?_
  refine r_sd (sd_assign rfl rfl) rfl rfl ?_
  refine r_nil ?_
  refine k_then (hK4 _ _ _ ?_)
  refine w_seq fun K5 hK5 => ?_
  refine w_seq fun K6 hK6 => ?_
  refine w_region ?_
  refine r_sd (sd_ldn rfl rfl tk24 (at_blk (vs := (TrackV.cells (TrackV.mk (Slc.mk tsA ts.length tsC)))) 1 rfl rfl) rfl) rfl rfl ?_
  refine r_sd (sd_ldn rfl rfl tk28 (at_blk (vs := (SledV.cells s)) 0 rfl rfl) rfl) rfl rfl ?_
  refine r_sd (sd_call rfl rfl rfl rfl (ready_c ts tsA tsC s (by first | assumption | omega | (simp; done) | (simp; omega))) (ha_at 2 rfl rfl <| ha_nil)) rfl rfl ?_
  refine r_sd (sd_not rfl rfl) rfl rfl ?_
  refine r_sd (sd_move rfl rfl) rfl rfl ?_
  refine r_bool (t := 24) rfl (fun hrd => ?_) (fun hrd => ?_)
  · -- yes
    rw [Bool.not_eq_true'] at hrd
    replace hrd := of_decide_eq_false hrd
    refine r_sd (sd_off rfl) rfl rfl ?_
    refine r_sd (sd_off rfl) rfl rfl ?_
    refine r_sd (sd_pick_t rfl rfl rfl) rfl rfl ?_
    refine r_nil ?_
    refine k_then (hK6 _ _ _ ?_)
    refine w_if_true rfl ?_
    refine w_seq fun K7 hK7 => ?_
    refine w_region ?_
    refine r_sd (sd_move rfl rfl) rfl rfl ?_
    refine r_sd (sd_assign rfl rfl) rfl rfl ?_
    refine r_nil ?_
    refine k_then (hK7 _ _ _ ?_)
    refine w_ret ?_
    refine hQ _ _ _ (l_nil (vs := [(Value.bool true)]) ⟨rfl, trivial⟩ fun w hs => endV ?_ hs)
    show (Value.bool true) = (Value.bool true)
    clear hs w hQ hN hK7 K7 hK6 K6 hK5 K5 hK4 K4 hK1 K1
    rfl
  · -- no
    rw [Bool.not_eq_false'] at hrd
    replace hrd := of_decide_eq_true hrd
    refine r_sd (sd_move rfl rfl) rfl rfl ?_
    refine r_sd (sd_not rfl rfl) rfl rfl ?_
    refine r_sd (sd_pick_f rfl rfl rfl) rfl rfl ?_
    refine r_nil ?_
    refine k_then (hK6 _ _ _ ?_)
    refine w_if_false rfl ?_
    refine w_skip ?_
    refine k_then (hK5 _ _ _ ?_)
    refine w_seq fun K8 hK8 => ?_
    refine w_region ?_
    obtain ⟨hgr, htr, hs⟩ := hrd
    have hb0 := bothE_ok htr hs
    have hst := trackOk_all htr
    have hl12 := trackOk_le htr
    refine r_sd (sd_ldn rfl rfl tk24 (at_blk (vs := (TrackV.cells (TrackV.mk (Slc.mk tsA ts.length tsC)))) 1 rfl rfl) rfl) rfl rfl ?_
    refine r_sd (sd_ldn rfl rfl tk28 (at_blk (vs := (SledV.cells s)) 0 rfl rfl) rfl) rfl rfl ?_
    refine r_call rfl rfl rfl rfl (walls_c ts tsA tsC s (by first | assumption | omega | (simp; done) | (simp; omega)) (by first | assumption | omega | (simp; done) | (simp; omega))) (ha_at 2 rfl rfl <| ha_nil) rfl (fun y9 hy10 => ?_)
    obtain ⟨a11, c12⟩ := y9
    change RJ _ _ _ _ _ ((_, (Value.tuple [(Value.slice a11 ((wallsU s ts).length) c12), (Value.int .i64 (bothE s ts))].toArray)) :: _) ((own a11 c12 3 1 ((wallsU s ts).map iC)) :: _)
    rw [wallsU_ok htr hs]
    rw [hb0]
    refine r_sd (sd_move rfl rfl) rfl rfl ?_
    refine r_sd (sd_extract rfl rfl rfl) rfl rfl ?_
    refine r_sd (sd_extract rfl rfl rfl) rfl rfl ?_
    refine r_sd (sd_assign rfl rfl) rfl rfl ?_
    refine r_sd (sd_assign rfl rfl) rfl rfl ?_
    refine r_nil ?_
    refine k_then (hK8 _ _ _ ?_)
    refine w_seq fun K13 hK13 => ?_
    refine w_seq fun K14 hK14 => ?_
    refine w_region ?_
    have hwl := wallsL_length (s := s) (ts := ts)
    refine r_sd (sd_move rfl rfl) rfl rfl ?_
    refine r_sd (sd_bin (r := .bool false) rfl rfl rfl b_neq) rfl rfl ?_
    refine r_sd (sd_move rfl rfl) rfl rfl ?_
    refine r_sd (sd_move rfl rfl) rfl rfl ?_
    refine r_sd (sd_len rfl rfl ut61) rfl rfl ?_
    refine r_sd (sd_fa (o' := 0) rfl rfl fo24_0 rfl) rfl rfl ?_
    refine r_sd (sd_ld1 rfl rfl tk22 (at_blk (vs := [(Value.slice tsA ts.length tsC)]) 2 rfl rfl)) rfl rfl ?_
    refine r_sd (sd_len rfl rfl ut22) rfl rfl ?_
    refine r_sd (sd_bin rfl rfl rfl b_neq) rfl rfl ?_
    refine r_sd (sd_pick_f rfl rfl rfl) rfl rfl ?_
    refine r_nil ?_
    refine k_then (hK14 _ _ _ ?_)
    refine w_if rfl (fun h15 => ?_) (fun h15 => ?_)
    · -- yes
      rw [Bool.not_eq_true'] at h15
      replace h15 := of_decide_eq_false h15
      exfalso; omega
    · -- no
      rw [Bool.not_eq_false'] at h15
      replace h15 := of_decide_eq_true h15
      refine w_skip ?_
      refine k_then (hK13 _ _ _ ?_)
      refine w_seq fun K16 hK16 => ?_
      refine w_region ?_
      refine r_sd (sd_ldn rfl rfl tk24 (at_blk (vs := (TrackV.cells (TrackV.mk (Slc.mk tsA ts.length tsC)))) 2 rfl rfl) rfl) rfl rfl ?_
      refine r_call rfl rfl rfl rfl (twin_c ts tsA tsC (by first | assumption | omega | (simp; done) | (simp; omega))) (ha_at 3 rfl rfl <| ha_nil) rfl (fun y17 hy18 => ?_)
      obtain ⟨a19, c20⟩ := y17
      change RJ _ _ _ _ _ ((_, (Value.agg (TrackV.cells (TrackV.mk (Slc.mk a19 ts.length c20))).toArray)) :: _) ((own a19 c20 77 9 (ts.map StretchV.cells)) :: _)
      refine r_alloc rfl tz24 rfl fun b21 => ?_
      refine r_store (vs := (TrackV.cells (TrackV.mk (Slc.mk a19 ts.length c20)))) (cs' := (TrackV.cells (TrackV.mk (Slc.mk a19 ts.length c20)))) (C' := [(blk b21 24 (TrackV.cells (TrackV.mk (Slc.mk a19 ts.length c20)))), _, _, _, _, _]) 0 rfl rfl rfl ts24 rfl rfl rfl rfl rfl rfl rfl ?_
      refine r_nil ?_
      refine k_then (hK16 _ _ _ ?_)
      refine w_seq fun K22 hK22 => ?_
      refine w_seq fun K23 hK23 => ?_
      refine w_region ?_
      rw [show (own a19 c20 77 9 (ts.map StretchV.cells)) = (own a19 c20 77 9 ((reW ts (wTo s ts 0)).map StretchV.cells)) from by rw [reW_zero]]
      refine r_sd (sd_move rfl rfl) rfl rfl ?_
      refine r_sd (sd_len rfl rfl ut61) rfl rfl ?_
      refine r_sd (sd_move rfl rfl) rfl rfl ?_
      refine r_nil ?_
      refine k_then (hK23 _ _ _ ?_)
      refine w_block ?_
      have hinit : (0 ≤ ts.length) ∧ (∀ j, j < 0 → wallV s ts j ≤ 5000) := by exact ⟨Nat.zero_le _, fun j hj => absurd hj (Nat.not_lt_zero _)⟩
      refine w_loop (ι := { z : Nat // (z ≤ ts.length) ∧ (∀ j, j < z → wallV s ts j ≤ 5000) }) (fun z => [(2, (Value.pointer (some ⟨b2, 0, none⟩))), (3, (Value.pointer (some ⟨b3, 0, none⟩))), (5, (Value.bool true)), (6, (Value.slice a11 ((wallsL s ts).length) c12)), (8, (Value.pointer (some ⟨b21, 0, none⟩))), (47, (Value.slice a11 ((wallsL s ts).length) c12)), (48, (Value.int .i64 (((wallsL s ts).length : Nat) : Int))), (49, (Value.int .i64 ((z.1 : Nat) : Int)))]) (fun z => [(blk b21 24 (TrackV.cells (TrackV.mk (Slc.mk a19 ts.length c20)))), (own a19 c20 77 9 ((reW ts (wTo s ts z.1)).map StretchV.cells)), (own a11 c12 3 1 ((wallsL s ts).map iC)), (blk b3 28 (SledV.cells s)), (blk b2 24 (TrackV.cells (TrackV.mk (Slc.mk tsA ts.length tsC)))), (rd tsA ts.length 9 (ts.map StretchV.cells)).ro]) (fun z => ts.length - z.1) ⟨0, hinit⟩ (Sub.cons rfl <| Sub.cons rfl <| Sub.cons rfl <| Sub.cons rfl <| Sub.cons rfl <| Sub.cons rfl <| Sub.cons rfl <| Sub.cons rfl <| Sub.nil _) (fun w hs => St.sel [0, 1, 2, 3, 4, 5] rfl rfl hs) ?_
      clear hinit
      rintro ⟨i, ⟨hl9_0, hl9_1⟩⟩ J24 hJ24
      change WJ _ _ _ _ [(2, (Value.pointer (some ⟨b2, 0, none⟩))), (3, (Value.pointer (some ⟨b3, 0, none⟩))), (5, (Value.bool true)), (6, (Value.slice a11 ((wallsL s ts).length) c12)), (8, (Value.pointer (some ⟨b21, 0, none⟩))), (47, (Value.slice a11 ((wallsL s ts).length) c12)), (48, (Value.int .i64 (((wallsL s ts).length : Nat) : Int))), (49, (Value.int .i64 ((i : Nat) : Int)))] [(blk b21 24 (TrackV.cells (TrackV.mk (Slc.mk a19 ts.length c20)))), (own a19 c20 77 9 ((reW ts (wTo s ts i)).map StretchV.cells)), (own a11 c12 3 1 ((wallsL s ts).map iC)), (blk b3 28 (SledV.cells s)), (blk b2 24 (TrackV.cells (TrackV.mk (Slc.mk tsA ts.length tsC)))), (rd tsA ts.length 9 (ts.map StretchV.cells)).ro]
      refine w_seq fun K25 hK25 => ?_
      refine w_region ?_
      refine r_sd (sd_bin rfl rfl rfl b_lss) rfl rfl ?_
      refine r_nil ?_
      refine k_then (hK25 _ _ _ ?_)
      refine w_seq fun K26 hK26 => ?_
      refine w_if rfl (fun h27 => ?_) (fun h27 => ?_)
      · -- yes
        replace h27 := of_decide_eq_true h27
        refine w_skip ?_
        refine k_then (hK26 _ _ _ ?_)
        refine w_seq fun K28 hK28 => ?_
        refine w_block ?_
        refine w_seq fun K29 hK29 => ?_
        refine w_region ?_
        refine r_sd (sd_move rfl rfl) rfl rfl ?_
        obtain ⟨n, hn⟩ : ∃ y_, (wallsL s ts)[i]? = some y_ := ⟨(wallsL s ts)[i]'(by omega), List.getElem?_eq_getElem _⟩
        have hnm : ((wallsL s ts).map iC)[i]? = some (iC n) := by rw [List.getElem?_map, hn]; rfl
        refine r_sd (sd_ia (k := i) rfl rfl rfl (has_own_n (n := (wallsL s ts).length) 2 rfl (by simp)) te61 (by decide) (by omega) (by omega)) rfl rfl ?_
        refine r_sd (sd_ld1 rfl rfl tk3 (at_rd (k := i) (o := 0) (vs := [(Value.int .i64 n)]) (has_own_n (n := (wallsL s ts).length) 2 rfl (by simp)) hnm rfl (by decide) rfl)) rfl rfl ?_
        refine r_sd (sd_assign rfl rfl) rfl rfl ?_
        refine r_sd (sd_assign rfl rfl) rfl rfl ?_
        refine r_nil ?_
        refine k_then (hK29 _ _ _ ?_)
        refine w_seq fun K30 hK30 => ?_
        refine w_seq fun K31 hK31 => ?_
        refine w_region ?_
        have hnv := wallsL_get hn
        have hn0 := wallV_b (s := s) (ts := ts) (i := i)
        have hrl := reW_length (ts := ts) (w := wTo s ts i)
        refine r_sd (sd_move rfl rfl) rfl rfl ?_
        refine r_sd (sd_bin rfl rfl rfl b_lss) rfl rfl ?_
        refine r_sd (sd_move rfl rfl) rfl rfl ?_
        refine r_bool (t := 56) rfl (fun h32 => ?_) (fun h32 => ?_)
        · -- yes
          replace h32 := of_decide_eq_true h32
          exfalso; omega
        · -- no
          replace h32 := of_decide_eq_false h32
          refine r_sd (sd_fa (o' := 0) rfl rfl fo24_0 rfl) rfl rfl ?_
          refine r_sd (sd_ld1 rfl rfl tk22 (at_blk (vs := [(Value.slice tsA ts.length tsC)]) 4 rfl rfl)) rfl rfl ?_
          refine r_sd (sd_move rfl rfl) rfl rfl ?_
          obtain ⟨y, hy⟩ : ∃ y_, ts[i]? = some y_ := ⟨ts[i]'(by omega), List.getElem?_eq_getElem _⟩
          have hym : (ts.map StretchV.cells)[i]? = some (StretchV.cells y) := by rw [List.getElem?_map, hy]; rfl
          refine r_sd (sd_ia (k := i) rfl rfl rfl (has_at 5 rfl) te22 (by decide) (by omega) (by omega)) rfl rfl ?_
          refine r_sd (sd_fa_rd (k' := ((i * 9) + 7)) rfl rfl (has_at 5 rfl) (Nat.mul_pos (by omega) (by decide)) fo77_4 rfl) rfl rfl ?_
          refine r_sd (sd_ld1 rfl rfl tk5 (at_rd (k := i) (o := 7) (vs := [(Value.int .u8 y.Side)]) (has_at 5 rfl) hym rfl (by decide) rfl)) rfl rfl ?_
          refine r_sd (sd_bin rfl rfl rfl b_eql) rfl rfl ?_
          refine r_sd (sd_move rfl rfl) rfl rfl ?_
          refine r_bool (t := 64) rfl (fun h64 => ?_) (fun h64 => ?_)
          · -- yes
            replace h64 := of_decide_eq_true h64
            refine r_sd (sd_move rfl rfl) rfl rfl ?_
            refine r_sd (sd_bin rfl rfl rfl b_neq) rfl rfl ?_
            refine r_sd (sd_pick_t rfl rfl rfl) rfl rfl ?_
            refine r_sd (sd_pick_f rfl rfl rfl) rfl rfl ?_
            refine r_nil ?_
            refine k_then (hK31 _ _ _ ?_)
            refine w_if rfl (fun h68 => ?_) (fun h68 => ?_)
            · -- yes
              rw [Bool.not_eq_true'] at h68
              replace h68 := of_decide_eq_false h68
              exact absurd (hnv.trans (wallV_straight hy h64)) h68
            · -- no
              rw [Bool.not_eq_false'] at h68
              replace h68 := of_decide_eq_true h68
              refine w_skip ?_
              refine k_then (hK30 _ _ _ ?_)
              refine w_seq fun K33 hK33 => ?_
              refine w_seq fun K34 hK34 => ?_
              refine w_region ?_
              refine r_sd (sd_move rfl rfl) rfl rfl ?_
              refine r_sd (sd_bin rfl rfl rfl b_gtr) rfl rfl ?_
              refine r_nil ?_
              refine k_then (hK34 _ _ _ ?_)
              refine w_if rfl (fun h70 => ?_) (fun h70 => ?_)
              · -- yes
                replace h70 := of_decide_eq_true h70
                refine w_seq fun K35 hK35 => ?_
                refine w_region ?_
                refine r_sd (sd_move rfl rfl) rfl rfl ?_
                refine r_sd (sd_assign rfl rfl) rfl rfl ?_
                refine r_nil ?_
                refine k_then (hK35 _ _ _ ?_)
                refine w_ret ?_
                refine hQ _ _ _ (l_nil (vs := [(Value.bool true)]) ⟨rfl, trivial⟩ fun w hs => endV ?_ hs)
                show (Value.bool true) = (Value.bool true)
                clear hs w hQ hN hK35 K35 hK34 K34 hK33 K33 hK31 K31 hK30 K30 hK29 K29 hK28 K28 hK26 K26 hK25 K25 hK23 K23 hK22 K22 hK16 K16 hK14 K14 hK13 K13 hK8 K8 hK6 K6 hK5 K5 hK4 K4 hK1 K1
                rfl
              · -- no
                replace h70 := of_decide_eq_false h70
                refine w_skip ?_
                refine k_then (hK33 _ _ _ ?_)
                refine w_region ?_
                refine r_sd (sd_fa (o' := 0) rfl rfl fo24_0 rfl) rfl rfl ?_
                refine r_sd (sd_ld1 rfl rfl tk22 (at_blk (vs := [(Value.slice a19 ts.length c20)]) 0 rfl rfl)) rfl rfl ?_
                refine r_sd (sd_move rfl rfl) rfl rfl ?_
                refine r_sd (sd_move rfl rfl) rfl rfl ?_
                obtain ⟨z, hz⟩ : ∃ y_, (reW ts (wTo s ts i))[i]? = some y_ := ⟨(reW ts (wTo s ts i))[i]'(by omega), List.getElem?_eq_getElem _⟩
                have hzm : ((reW ts (wTo s ts i)).map StretchV.cells)[i]? = some (StretchV.cells z) := by rw [List.getElem?_map, hz]; rfl
                refine r_sd (sd_ia (k := i) rfl rfl rfl (has_own_n (n := ts.length) 1 rfl (by first | (simp; done) | (simp; omega))) te22 (by decide) (by omega) (by omega)) rfl rfl ?_
                refine r_sd (sd_fa_rd (k' := ((i * 9) + 8)) rfl rfl (has_own_n (n := (reW ts (wTo s ts i)).length) 1 rfl (by simp)) (Nat.mul_pos (by omega) (by decide)) fo77_5 rfl) rfl rfl ?_
                have hb36 : ((reW ts (wTo s ts i)).set i (StretchV.mk z.Id z.Long z.Fall z.Radius z.Side n)) = (reW ts (wTo s ts (i + 1))) := by exact reW_step hn hz
                refine r_store_own (k := i) (o := 8) (vs := [(Value.int .i64 n)]) (es' := (List.map StretchV.cells (reW ts (wTo s ts (i + 1))))) (C' := [_, (own a19 c20 77 9 (List.map StretchV.cells (reW ts (wTo s ts (i + 1))))), _, _, _, _]) 1 rfl rfl rfl ts3 rfl rfl rfl rfl hzm rfl (by decide) (by exact (List.map_set (f := StretchV.cells) (l := (reW ts (wTo s ts i))) (i := i) (a := (StretchV.mk z.Id z.Long z.Fall z.Radius z.Side n))).symm.trans (congrArg _ hb36)) rfl ?_
                refine r_nil ?_
                refine k_block ?_
                refine k_then (hK28 _ _ _ ?_)
                refine w_region ?_
                refine r_sd (sd_bin rfl rfl rfl (b_add ⟨by omega, by omega⟩)) rfl rfl ?_
                refine r_sd (sd_move rfl rfl) rfl rfl ?_
                refine r_nil ?_
                have hb37 : (Value.int .i64 (((i + 1) : Nat) : Int)) = (Value.int .i64 (((i : Nat) : Int) + 1)) := by exact congrArg (Value.int .i64) (by omega)
                refine k_then (hJ24 ⟨(i + 1), ⟨by omega, fun j hj => by (rcases Nat.lt_or_ge j i with h | h; exact hl9_1 j h; have e : j = i := (by omega); rw [e]; omega)⟩⟩ _ _ _ rfl (by first | omega | (simp; omega)) (Sub.cons rfl <| Sub.cons rfl <| Sub.cons rfl <| Sub.cons rfl <| Sub.cons rfl <| Sub.cons rfl <| Sub.cons rfl <| sub_val rfl hb37 <| Sub.nil _) (fun w hs => St.sel [0, 1, 2, 3, 4, 5] rfl rfl hs))
          · -- no
            replace h64 := of_decide_eq_false h64
            refine r_sd (sd_off rfl) rfl rfl ?_
            refine r_sd (sd_off rfl) rfl rfl ?_
            refine r_sd (sd_pick_f rfl rfl rfl) rfl rfl ?_
            refine r_sd (sd_pick_f rfl rfl rfl) rfl rfl ?_
            refine r_nil ?_
            refine k_then (hK31 _ _ _ ?_)
            refine w_if_false rfl ?_
            refine w_skip ?_
            refine k_then (hK30 _ _ _ ?_)
            refine w_seq fun K38 hK38 => ?_
            refine w_seq fun K39 hK39 => ?_
            refine w_region ?_
            refine r_sd (sd_move rfl rfl) rfl rfl ?_
            refine r_sd (sd_bin rfl rfl rfl b_gtr) rfl rfl ?_
            refine r_nil ?_
            refine k_then (hK39 _ _ _ ?_)
            refine w_if rfl (fun h70 => ?_) (fun h70 => ?_)
            · -- yes
              replace h70 := of_decide_eq_true h70
              refine w_seq fun K40 hK40 => ?_
              refine w_region ?_
              refine r_sd (sd_move rfl rfl) rfl rfl ?_
              refine r_sd (sd_assign rfl rfl) rfl rfl ?_
              refine r_nil ?_
              refine k_then (hK40 _ _ _ ?_)
              refine w_ret ?_
              refine hQ _ _ _ (l_nil (vs := [(Value.bool true)]) ⟨rfl, trivial⟩ fun w hs => endV ?_ hs)
              show (Value.bool true) = (Value.bool true)
              clear hs w hQ hN hK40 K40 hK39 K39 hK38 K38 hK31 K31 hK30 K30 hK29 K29 hK28 K28 hK26 K26 hK25 K25 hK23 K23 hK22 K22 hK16 K16 hK14 K14 hK13 K13 hK8 K8 hK6 K6 hK5 K5 hK4 K4 hK1 K1
              rfl
            · -- no
              replace h70 := of_decide_eq_false h70
              refine w_skip ?_
              refine k_then (hK38 _ _ _ ?_)
              refine w_region ?_
              refine r_sd (sd_fa (o' := 0) rfl rfl fo24_0 rfl) rfl rfl ?_
              refine r_sd (sd_ld1 rfl rfl tk22 (at_blk (vs := [(Value.slice a19 ts.length c20)]) 0 rfl rfl)) rfl rfl ?_
              refine r_sd (sd_move rfl rfl) rfl rfl ?_
              refine r_sd (sd_move rfl rfl) rfl rfl ?_
              obtain ⟨z, hz⟩ : ∃ y_, (reW ts (wTo s ts i))[i]? = some y_ := ⟨(reW ts (wTo s ts i))[i]'(by omega), List.getElem?_eq_getElem _⟩
              have hzm : ((reW ts (wTo s ts i)).map StretchV.cells)[i]? = some (StretchV.cells z) := by rw [List.getElem?_map, hz]; rfl
              refine r_sd (sd_ia (k := i) rfl rfl rfl (has_own_n (n := ts.length) 1 rfl (by first | (simp; done) | (simp; omega))) te22 (by decide) (by omega) (by omega)) rfl rfl ?_
              refine r_sd (sd_fa_rd (k' := ((i * 9) + 8)) rfl rfl (has_own_n (n := (reW ts (wTo s ts i)).length) 1 rfl (by simp)) (Nat.mul_pos (by omega) (by decide)) fo77_5 rfl) rfl rfl ?_
              have hb41 : ((reW ts (wTo s ts i)).set i (StretchV.mk z.Id z.Long z.Fall z.Radius z.Side n)) = (reW ts (wTo s ts (i + 1))) := by exact reW_step hn hz
              refine r_store_own (k := i) (o := 8) (vs := [(Value.int .i64 n)]) (es' := (List.map StretchV.cells (reW ts (wTo s ts (i + 1))))) (C' := [_, (own a19 c20 77 9 (List.map StretchV.cells (reW ts (wTo s ts (i + 1))))), _, _, _, _]) 1 rfl rfl rfl ts3 rfl rfl rfl rfl hzm rfl (by decide) (by exact (List.map_set (f := StretchV.cells) (l := (reW ts (wTo s ts i))) (i := i) (a := (StretchV.mk z.Id z.Long z.Fall z.Radius z.Side n))).symm.trans (congrArg _ hb41)) rfl ?_
              refine r_nil ?_
              refine k_block ?_
              refine k_then (hK28 _ _ _ ?_)
              refine w_region ?_
              refine r_sd (sd_bin rfl rfl rfl (b_add ⟨by omega, by omega⟩)) rfl rfl ?_
              refine r_sd (sd_move rfl rfl) rfl rfl ?_
              refine r_nil ?_
              have hb42 : (Value.int .i64 (((i + 1) : Nat) : Int)) = (Value.int .i64 (((i : Nat) : Int) + 1)) := by exact congrArg (Value.int .i64) (by omega)
              refine k_then (hJ24 ⟨(i + 1), ⟨by omega, fun j hj => by (rcases Nat.lt_or_ge j i with h | h; exact hl9_1 j h; have e : j = i := (by omega); rw [e]; omega)⟩⟩ _ _ _ rfl (by first | omega | (simp; omega)) (Sub.cons rfl <| Sub.cons rfl <| Sub.cons rfl <| Sub.cons rfl <| Sub.cons rfl <| Sub.cons rfl <| Sub.cons rfl <| sub_val rfl hb42 <| Sub.nil _) (fun w hs => St.sel [0, 1, 2, 3, 4, 5] rfl rfl hs))
      · -- no
        replace h27 := of_decide_eq_false h27
        refine w_exit ?_
        refine k_exit_then ?_
        refine k_exit_then ?_
        refine k_exit_same ?_
        refine k_then (hK22 _ _ _ ?_)
        refine w_seq fun K43 hK43 => ?_
        have hb44 : (TrackV.cells (TrackV.mk (Slc.mk a19 ts.length c20))) = (TrackV.cells (TrackV.mk (Slc.mk a19 ((reW ts (wTo s ts i)).length) c20))) := by simp
        rw [hb44]
        refine w_region ?_
        obtain rfl : i = ts.length := by omega
        refine r_sd (sd_ldn rfl rfl tk24 (at_blk (vs := (TrackV.cells (TrackV.mk (Slc.mk a19 ((reW ts (wTo s ts ts.length)).length) c20)))) 0 rfl rfl) rfl) rfl rfl ?_
        obtain ⟨hbt, hbs⟩ := walls_built hs htr hl9_1
        have hbb := bothE_ok hbt hs
        have hrl := reW_length (ts := ts) (w := wTo s ts ts.length)
        refine r_sd (sd_ldn rfl rfl tk28 (at_blk (vs := (SledV.cells s)) 3 rfl rfl) rfl) rfl rfl ?_
        refine r_sd (sd_call rfl rfl rfl rfl (safe_c (reW ts (wTo s ts ts.length)) a19 c20 s (by first | assumption | omega | (simp; done) | (simp; omega)) (by exact reW_side hside)) (ha_cons (has_own_n (n := (reW ts (wTo s ts ts.length)).length) 1 rfl (by simp)) <| ha_nil)) rfl rfl ?_
        rw [hbb]
        rw [safeV_ok hbb]
        rw [hbs]
        refine r_sd (sd_move rfl rfl) rfl rfl ?_
        refine r_sd (sd_extract rfl rfl rfl) rfl rfl ?_
        refine r_sd (sd_extract rfl rfl rfl) rfl rfl ?_
        refine r_sd (sd_assign rfl rfl) rfl rfl ?_
        refine r_sd (sd_assign rfl rfl) rfl rfl ?_
        refine r_nil ?_
        refine k_then (hK43 _ _ _ ?_)
        refine w_seq fun K45 hK45 => ?_
        refine w_seq fun K46 hK46 => ?_
        refine w_region ?_
        refine r_sd (sd_move rfl rfl) rfl rfl ?_
        refine r_sd (sd_bin (r := .bool false) rfl rfl rfl b_neq) rfl rfl ?_
        refine r_sd (sd_move rfl rfl) rfl rfl ?_
        refine r_sd (sd_move rfl rfl) rfl rfl ?_
        refine r_sd (sd_bin (r := .bool false) rfl rfl rfl b_neq) rfl rfl ?_
        refine r_sd (sd_pick_f rfl rfl rfl) rfl rfl ?_
        refine r_nil ?_
        refine k_then (hK46 _ _ _ ?_)
        refine w_if_false rfl ?_
        refine w_skip ?_
        refine k_then (hK45 _ _ _ ?_)
        refine w_seq fun K47 hK47 => ?_
        refine w_seq fun K48 hK48 => ?_
        refine w_region ?_
        refine r_sd (sd_move rfl rfl) rfl rfl ?_
        refine r_sd (sd_len rfl rfl ut61) rfl rfl ?_
        refine r_sd (sd_move rfl rfl) rfl rfl ?_
        refine r_nil ?_
        refine k_then (hK48 _ _ _ ?_)
        refine w_block ?_
        have hinit : (0 ≤ ts.length) := by exact Nat.zero_le _
        refine w_loop (ι := { z : Nat // (z ≤ ts.length) }) (fun z => [(3, (Value.pointer (some ⟨b3, 0, none⟩))), (5, (Value.bool true)), (8, (Value.pointer (some ⟨b21, 0, none⟩))), (91, (Value.slice a11 ((wallsL s ts).length) c12)), (92, (Value.int .i64 (((wallsL s ts).length : Nat) : Int))), (93, (Value.int .i64 ((z.1 : Nat) : Int)))]) (fun z => [(blk b21 24 (TrackV.cells (TrackV.mk (Slc.mk a19 ((reW ts (wTo s ts ts.length)).length) c20)))), (own a19 c20 77 9 ((reW ts (wTo s ts ts.length)).map StretchV.cells)), (own a11 c12 3 1 ((wallsL s ts).map iC)), (blk b3 28 (SledV.cells s)), (rd tsA ts.length 9 (ts.map StretchV.cells)).ro]) (fun z => ts.length - z.1) ⟨0, hinit⟩ (Sub.cons rfl <| Sub.cons rfl <| Sub.cons rfl <| Sub.cons rfl <| Sub.cons rfl <| Sub.cons rfl <| Sub.nil _) (fun w hs => St.sel [0, 1, 2, 3, 5] rfl rfl hs) ?_
        clear hinit
        rintro ⟨i, hl21_0⟩ J49 hJ49
        change WJ _ _ _ _ [(3, (Value.pointer (some ⟨b3, 0, none⟩))), (5, (Value.bool true)), (8, (Value.pointer (some ⟨b21, 0, none⟩))), (91, (Value.slice a11 ((wallsL s ts).length) c12)), (92, (Value.int .i64 (((wallsL s ts).length : Nat) : Int))), (93, (Value.int .i64 ((i : Nat) : Int)))] [(blk b21 24 (TrackV.cells (TrackV.mk (Slc.mk a19 ((reW ts (wTo s ts ts.length)).length) c20)))), (own a19 c20 77 9 ((reW ts (wTo s ts ts.length)).map StretchV.cells)), (own a11 c12 3 1 ((wallsL s ts).map iC)), (blk b3 28 (SledV.cells s)), (rd tsA ts.length 9 (ts.map StretchV.cells)).ro]
        refine w_seq fun K50 hK50 => ?_
        refine w_region ?_
        refine r_sd (sd_bin rfl rfl rfl b_lss) rfl rfl ?_
        refine r_nil ?_
        refine k_then (hK50 _ _ _ ?_)
        refine w_seq fun K51 hK51 => ?_
        refine w_if rfl (fun h52 => ?_) (fun h52 => ?_)
        · -- yes
          replace h52 := of_decide_eq_true h52
          refine w_skip ?_
          refine k_then (hK51 _ _ _ ?_)
          refine w_seq fun K53 hK53 => ?_
          refine w_block ?_
          refine w_seq fun K54 hK54 => ?_
          refine w_region ?_
          refine r_sd (sd_move rfl rfl) rfl rfl ?_
          obtain ⟨n, hn⟩ : ∃ y_, (wallsL s ts)[i]? = some y_ := ⟨(wallsL s ts)[i]'(by omega), List.getElem?_eq_getElem _⟩
          have hnm : ((wallsL s ts).map iC)[i]? = some (iC n) := by rw [List.getElem?_map, hn]; rfl
          refine r_sd (sd_ia (k := i) rfl rfl rfl (has_own_n (n := (wallsL s ts).length) 2 rfl (by simp)) te61 (by decide) (by omega) (by omega)) rfl rfl ?_
          refine r_sd (sd_ld1 rfl rfl tk3 (at_rd (k := i) (o := 0) (vs := [(Value.int .i64 n)]) (has_own_n (n := (wallsL s ts).length) 2 rfl (by simp)) hnm rfl (by decide) rfl)) rfl rfl ?_
          refine r_sd (sd_assign rfl rfl) rfl rfl ?_
          refine r_sd (sd_assign rfl rfl) rfl rfl ?_
          refine r_nil ?_
          refine k_then (hK54 _ _ _ ?_)
          refine w_seq fun K55 hK55 => ?_
          refine w_seq fun K56 hK56 => ?_
          refine w_region ?_
          refine r_sd (sd_move rfl rfl) rfl rfl ?_
          refine r_sd (sd_bin rfl rfl rfl b_eql) rfl rfl ?_
          refine r_nil ?_
          refine k_then (hK56 _ _ _ ?_)
          refine w_if rfl (fun h99 => ?_) (fun h99 => ?_)
          · -- yes
            replace h99 := of_decide_eq_true h99
            refine w_exit ?_
            refine k_exit_then ?_
            refine k_exit_same ?_
            refine k_then (hK53 _ _ _ ?_)
            refine w_region ?_
            refine r_sd (sd_bin rfl rfl rfl (b_add ⟨by omega, by omega⟩)) rfl rfl ?_
            refine r_sd (sd_move rfl rfl) rfl rfl ?_
            refine r_nil ?_
            have hb57 : (Value.int .i64 (((i + 1) : Nat) : Int)) = (Value.int .i64 (((i : Nat) : Int) + 1)) := by exact congrArg (Value.int .i64) (by omega)
            refine k_then (hJ49 ⟨(i + 1), (by first | omega | (simp only []; omega))⟩ _ _ _ rfl (by first | omega | (simp; omega)) (Sub.cons rfl <| Sub.cons rfl <| Sub.cons rfl <| Sub.cons rfl <| Sub.cons rfl <| sub_val rfl hb57 <| Sub.nil _) (fun w hs => St.sel [0, 1, 2, 3, 4] rfl rfl hs))
          · -- no
            replace h99 := of_decide_eq_false h99
            refine w_skip ?_
            refine k_then (hK55 _ _ _ ?_)
            refine w_seq fun K58 hK58 => ?_
            refine w_region ?_
            have hnv := wallsL_get hn
            have hnu := hl9_1 i (by omega)
            have hn0 := wallV_b (s := s) (ts := ts) (i := i)
            obtain ⟨hlt, hlc, hle⟩ := walls_low hs htr hl9_1 (i := i) (by omega) (by omega)
            have hrw := reW_length (ts := ts) (w := wLow s ts i)
            refine r_sd (sd_ldn rfl rfl tk24 (at_blk (vs := (TrackV.cells (TrackV.mk (Slc.mk a19 ((reW ts (wTo s ts ts.length)).length) c20)))) 0 rfl rfl) rfl) rfl rfl ?_
            refine r_call rfl rfl rfl rfl (twin_c (reW ts (wTo s ts ts.length)) a19 c20 (by first | assumption | omega | (simp; done) | (simp; omega))) (ha_cons (has_own_n (n := (reW ts (wTo s ts ts.length)).length) 1 rfl (by simp)) <| ha_nil) rfl (fun y59 hy60 => ?_)
            obtain ⟨a61, c62⟩ := y59
            change RJ _ _ _ _ _ ((_, (Value.agg (TrackV.cells (TrackV.mk (Slc.mk a61 ((reW ts (wTo s ts ts.length)).length) c62))).toArray)) :: _) ((own a61 c62 77 9 ((reW ts (wTo s ts ts.length)).map StretchV.cells)) :: _)
            refine r_alloc rfl tz24 rfl fun b63 => ?_
            refine r_store (vs := (TrackV.cells (TrackV.mk (Slc.mk a61 ((reW ts (wTo s ts ts.length)).length) c62)))) (cs' := (TrackV.cells (TrackV.mk (Slc.mk a61 ((reW ts (wTo s ts ts.length)).length) c62)))) (C' := [(blk b63 24 (TrackV.cells (TrackV.mk (Slc.mk a61 ((reW ts (wTo s ts ts.length)).length) c62)))), _, _, _, _, _, _]) 0 rfl rfl rfl ts24 rfl rfl rfl rfl rfl rfl rfl ?_
            refine r_nil ?_
            refine k_then (hK58 _ _ _ ?_)
            refine w_seq fun K64 hK64 => ?_
            refine w_region ?_
            refine r_sd (sd_fa (o' := 0) rfl rfl fo24_0 rfl) rfl rfl ?_
            refine r_sd (sd_ld1 rfl rfl tk22 (at_blk (vs := [(Value.slice a61 ((reW ts (wTo s ts ts.length)).length) c62)]) 0 rfl rfl)) rfl rfl ?_
            refine r_sd (sd_move rfl rfl) rfl rfl ?_
            refine r_sd (sd_move rfl rfl) rfl rfl ?_
            refine r_sd (sd_bin rfl rfl rfl (b_sub ⟨by omega, by omega⟩)) rfl rfl ?_
            obtain ⟨z, hz⟩ : ∃ y_, (reW ts (wTo s ts ts.length))[i]? = some y_ := ⟨(reW ts (wTo s ts ts.length))[i]'(by omega), List.getElem?_eq_getElem _⟩
            have hzm : ((reW ts (wTo s ts ts.length)).map StretchV.cells)[i]? = some (StretchV.cells z) := by rw [List.getElem?_map, hz]; rfl
            refine r_sd (sd_ia (k := i) rfl rfl rfl (has_own_n (n := (reW ts (wTo s ts ts.length)).length) 1 rfl (by simp)) te22 (by decide) (by omega) (by omega)) rfl rfl ?_
            refine r_sd (sd_fa_rd (k' := ((i * 9) + 8)) rfl rfl (has_own_n (n := (reW ts (wTo s ts ts.length)).length) 1 rfl (by simp)) (Nat.mul_pos (by omega) (by decide)) fo77_5 rfl) rfl rfl ?_
            have hb65 : ((reW ts (wTo s ts ts.length)).set i (StretchV.mk z.Id z.Long z.Fall z.Radius z.Side (n - 1))) = (reW ts (wLow s ts i)) := by exact reW_low hn hz
            refine r_store_own (k := i) (o := 8) (vs := [(Value.int .i64 (n - 1))]) (es' := (List.map StretchV.cells (reW ts (wLow s ts i)))) (C' := [_, (own a61 c62 77 9 (List.map StretchV.cells (reW ts (wLow s ts i)))), _, _, _, _, _]) 1 rfl rfl rfl ts3 rfl rfl rfl rfl hzm rfl (by decide) (by exact (List.map_set (f := StretchV.cells) (l := (reW ts (wTo s ts ts.length))) (i := i) (a := (StretchV.mk z.Id z.Long z.Fall z.Radius z.Side (n - 1)))).symm.trans (congrArg _ hb65)) rfl ?_
            refine r_nil ?_
            refine k_then (hK64 _ _ _ ?_)
            refine w_seq fun K66 hK66 => ?_
            have hb67 : (TrackV.cells (TrackV.mk (Slc.mk a61 ((reW ts (wTo s ts ts.length)).length) c62))) = (TrackV.cells (TrackV.mk (Slc.mk a61 ((reW ts (wLow s ts i)).length) c62))) := by simp
            rw [hb67]
            refine w_region ?_
            refine r_sd (sd_ldn rfl rfl tk24 (at_blk (vs := (TrackV.cells (TrackV.mk (Slc.mk a61 ((reW ts (wLow s ts i)).length) c62)))) 0 rfl rfl) rfl) rfl rfl ?_
            refine r_sd (sd_ldn rfl rfl tk28 (at_blk (vs := (SledV.cells s)) 5 rfl rfl) rfl) rfl rfl ?_
            refine r_sd (sd_call rfl rfl rfl rfl (names_c (reW ts (wLow s ts i)) a61 c62 s (by first | assumption | omega | (simp; done) | (simp; omega)) (by exact reW_side hside)) (ha_cons (has_own_n (n := (reW ts (wLow s ts i)).length) 1 rfl (by simp)) <| ha_nil)) rfl rfl ?_
            rw [hle]
            rw [hlc]
            refine r_sd (sd_move rfl rfl) rfl rfl ?_
            refine r_sd (sd_extract rfl rfl rfl) rfl rfl ?_
            refine r_sd (sd_extract rfl rfl rfl) rfl rfl ?_
            refine r_sd (sd_extract rfl rfl rfl) rfl rfl ?_
            refine r_sd (sd_assign rfl rfl) rfl rfl ?_
            refine r_sd (sd_assign rfl rfl) rfl rfl ?_
            refine r_sd (sd_assign rfl rfl) rfl rfl ?_
            refine r_nil ?_
            refine k_then (hK66 _ _ _ ?_)
            refine w_seq fun K68 hK68 => ?_
            refine w_region ?_
            refine r_sd (sd_move rfl rfl) rfl rfl ?_
            refine r_sd (sd_bin (r := .bool false) rfl rfl rfl b_neq) rfl rfl ?_
            refine r_sd (sd_move rfl rfl) rfl rfl ?_
            refine r_sd (sd_move rfl rfl) rfl rfl ?_
            refine r_sd (sd_move rfl rfl) rfl rfl ?_
            refine r_sd (sd_bin rfl rfl rfl b_neq) rfl rfl ?_
            refine r_sd (sd_pick_f rfl rfl rfl) rfl rfl ?_
            refine r_nil ?_
            refine k_then (hK68 _ _ _ ?_)
            refine w_if rfl (fun h122 => ?_) (fun h122 => ?_)
            · -- yes
              rw [Bool.not_eq_true'] at h122
              replace h122 := of_decide_eq_false h122
              exact absurd rfl h122
            · -- no
              rw [Bool.not_eq_false'] at h122
              replace h122 := of_decide_eq_true h122
              refine w_skip ?_
              refine k_block ?_
              refine k_then (hK53 _ _ _ ?_)
              refine w_region ?_
              refine r_sd (sd_bin rfl rfl rfl (b_add ⟨by omega, by omega⟩)) rfl rfl ?_
              refine r_sd (sd_move rfl rfl) rfl rfl ?_
              refine r_nil ?_
              have hb69 : (Value.int .i64 (((i + 1) : Nat) : Int)) = (Value.int .i64 (((i : Nat) : Int) + 1)) := by exact congrArg (Value.int .i64) (by omega)
              refine k_then (hJ49 ⟨(i + 1), (by first | omega | (simp only []; omega))⟩ _ _ _ rfl (by first | omega | (simp; omega)) (Sub.cons rfl <| Sub.cons rfl <| Sub.cons rfl <| Sub.cons rfl <| Sub.cons rfl <| sub_val rfl hb69 <| Sub.nil _) (fun w hs => St.sel [2, 3, 4, 5, 6] rfl rfl hs))
        · -- no
          replace h52 := of_decide_eq_false h52
          refine w_exit ?_
          refine k_exit_then ?_
          refine k_exit_then ?_
          refine k_exit_same ?_
          refine k_then (hK47 _ _ _ ?_)
          refine w_seq fun K70 hK70 => ?_
          refine w_region ?_
          refine r_sd (sd_move rfl rfl) rfl rfl ?_
          refine r_sd (sd_assign rfl rfl) rfl rfl ?_
          refine r_nil ?_
          refine k_then (hK70 _ _ _ ?_)
          refine w_ret ?_
          refine hQ _ _ _ (l_nil (vs := [(Value.bool true)]) ⟨rfl, trivial⟩ fun w hs => endV ?_ hs)
          show (Value.bool true) = (Value.bool true)
          clear hs w hQ hN hK70 K70 hK51 K51 hK50 K50 hK48 K48 hK47 K47 hK46 K46 hK45 K45 hK43 K43 hK26 K26 hK25 K25 hK23 K23 hK22 K22 hK16 K16 hK14 K14 hK13 K13 hK8 K8 hK6 K6 hK5 K5 hK4 K4 hK1 K1
          rfl

end Go.Proofs.Ytpbgdeojcefnmaa
