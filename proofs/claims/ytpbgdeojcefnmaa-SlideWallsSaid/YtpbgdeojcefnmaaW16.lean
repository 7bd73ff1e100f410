/-
  Walks: (kreisel/slide.rider).thrown, kreisel/slide.Safe, kreisel/slide.Safe, kreisel/slide.Safe, kreisel/slide.Safe, kreisel/slide.Safe, kreisel/kreiselref03.safe, kreisel/kreiselref03.Safe
-/
import Derived.Test.YtpbgdeojcefnmaaTab
import Derived.Test.YtpbgdeojcefnmaaSort
import Derived.Test.YtpbgdeojcefnmaaThr
import Derived.Test.YtpbgdeojcefnmaaW6
import Derived.Test.YtpbgdeojcefnmaaW9
import Derived.Test.YtpbgdeojcefnmaaW13
import Derived.Test.YtpbgdeojcefnmaaW15
namespace Go.Proofs.Ytpbgdeojcefnmaa
open Go.RowKit
set_option linter.unusedVariables false

set_option maxRecDepth 100000 in
set_option maxHeartbeats 400000 in
theorem thrown_c (s : SledV) (ts : List StretchV) (tsA : Option Addr) (tsC : Nat) (best : Bool) (hs : SledOk s) (hst : ∀ x ∈ ts, StretchOk x) (hlen : ts.length ≤ 12) (hside : ∀ x ∈ ts, 0 ≤ x.Side ∧ x.Side ≤ 255) :
    FnX Try.prog 75 [(Value.agg (RiderV.cells (RiderV.mk s (TrackV.mk (Slc.mk tsA ts.length tsC)) best)).toArray)] [(rd tsA ts.length 9 (ts.map StretchV.cells))] (fun (x : (Option Addr) × Nat) => (Value.slice x.1 ((thr best s ts).length) x.2)) (fun (x : (Option Addr) × Nat) => True) (fun (x : (Option Addr) × Nat) => [(own x.1 x.2 3 1 ((thr best s ts).map iC))]) := by
  refine fnX_of go75 Try.func75 rfl rfl fun w0 Q hQ hN => ?_
  change WJ _ _ _ _ [(0, (Value.agg (RiderV.cells (RiderV.mk s (TrackV.mk (Slc.mk tsA ts.length tsC)) best)).toArray))] [(rd tsA ts.length 9 (ts.map StretchV.cells)).ro]
  refine w_seq fun K1 hK1 => ?_
  refine w_region ?_
  refine r_box (cs := (RiderV.cells (RiderV.mk s (TrackV.mk (Slc.mk tsA ts.length tsC)) best))) rfl rfl rfl rfl fun b2 => ?_
  refine r_sd (sd_assign rfl rfl) rfl rfl ?_
  refine r_nil ?_
  refine k_then (hK1 _ _ _ ?_)
  refine w_seq fun K3 hK3 => ?_
  refine w_region ?_
  refine r_sd (sd_assign rfl rfl) rfl rfl ?_
  refine r_nil ?_
  refine k_then (hK3 _ _ _ ?_)
  refine w_seq fun K4 hK4 => ?_
  refine w_seq fun K5 hK5 => ?_
  refine w_region ?_
  refine r_sd (sd_ldn rfl rfl tk108 (at_blk (vs := (RiderV.cells (RiderV.mk s (TrackV.mk (Slc.mk tsA ts.length tsC)) best))) 0 rfl rfl) rfl) rfl rfl ?_
  refine r_call rfl rfl rfl rfl (heights_c s ts tsA tsC best (by first | assumption | omega | (simp; done) | (simp; omega)) (by first | assumption | omega | (simp; done) | (simp; omega)) (by first | assumption | omega | (simp; done) | (simp; omega)) (by first | assumption | omega | (simp; done) | (simp; omega))) (ha_at 1 rfl rfl <| ha_nil) rfl (fun b8 hy7 => ?_)
  change RJ _ _ _ _ _ ((_, (Value.map (some b8))) :: _) ((mp b8 (mapV iV (hgts best s ts ts.length))) :: _)
  refine r_mrange 0 rfl rfl ut120 rfl rfl fun r9 => ?_
  change RJ _ _ _ _ _ ((_, (Value.pointer (some ⟨r9, 0, none⟩))) :: _) [(mi r9 b8 (mapV iV (hgts best s ts ts.length)) (mapV iV (hgts best s ts ts.length)) none), (blk b2 108 (RiderV.cells (RiderV.mk s (TrackV.mk (Slc.mk tsA ts.length tsC)) best))), (rd tsA ts.length 9 (ts.map StretchV.cells)).ro]
  refine r_nil ?_
  refine k_then (hK5 _ _ _ ?_)
  refine w_block ?_
  refine w_own_nil 3 1 ?_
  have hinit : (∀ p ∈ (hgts best s ts ts.length), p ∈ hgts best s ts ts.length) ∧ ((([] : List Int) ++ ((hgts best s ts ts.length).filter (thrP ts)).map (·.1)).Perm (thr best s ts)) := by exact ⟨fun _ h => h, by rw [List.nil_append, thr_start]⟩
  refine w_loop (ι := { z : (List (Int × Int)) × (List Int) × (Option Addr) × Nat // (∀ p ∈ z.1, p ∈ hgts best s ts ts.length) ∧ ((z.2.1 ++ (z.1.filter (thrP ts)).map (·.1)).Perm (thr best s ts)) }) (fun z => [(1, (Value.pointer (some ⟨b2, 0, none⟩))), (3, (Value.slice z.1.2.2.1 z.1.2.1.length z.1.2.2.2)), (8, (Value.pointer (some ⟨r9, 0, none⟩)))]) (fun z => [(own z.1.2.2.1 z.1.2.2.2 3 1 (z.1.2.1.map iC)), (mi r9 b8 (mapV iV (hgts best s ts ts.length)) (mapV iV z.1.1) none), (blk b2 108 (RiderV.cells (RiderV.mk s (TrackV.mk (Slc.mk tsA ts.length tsC)) best))), (rd tsA ts.length 9 (ts.map StretchV.cells)).ro]) (fun z => z.1.1.length) ⟨((hgts best s ts ts.length), ([] : List Int), none, 0), hinit⟩ (Sub.cons rfl <| Sub.cons rfl <| Sub.cons rfl <| Sub.nil _) (fun w hs => St.sel [0, 1, 2, 3] rfl rfl hs) ?_
  clear hinit
  rintro ⟨⟨left, acc, a, c⟩, ⟨hl3_0, hl3_1⟩⟩ J10 hJ10
  try dsimp only at hl3_0 hl3_1
  change WJ _ _ _ _ [(1, (Value.pointer (some ⟨b2, 0, none⟩))), (3, (Value.slice a acc.length c)), (8, (Value.pointer (some ⟨r9, 0, none⟩)))] [(own a c 3 1 (acc.map iC)), (mi r9 b8 (mapV iV (hgts best s ts ts.length)) (mapV iV left) none), (blk b2 108 (RiderV.cells (RiderV.mk s (TrackV.mk (Slc.mk tsA ts.length tsC)) best))), (rd tsA ts.length 9 (ts.map StretchV.cells)).ro]
  refine w_seq fun K11 hK11 => ?_
  refine w_region ?_
  refine r_mnext_v (f := iV) 1 rfl rfl rfl rfl (fun hemp => ?_) (fun x y hm hnd => ?_)
  · -- done
    refine r_sd (sd_extract rfl rfl rfl) rfl rfl ?_
    refine r_nil ?_
    refine k_then (hK11 _ _ _ ?_)
    refine w_seq fun K12 hK12 => ?_
    refine w_if_false rfl ?_
    refine w_exit ?_
    refine k_exit_then ?_
    refine k_exit_then ?_
    refine k_exit_same ?_
    refine k_then (hK4 _ _ _ ?_)
    refine w_seq fun K13 hK13 => ?_
    refine w_region ?_
    have hpa : acc.Perm (thr best s ts) := by simpa [hemp] using hl3_1
    have hal := hpa.length_eq
    have hth := thr_le (best := best) (s := s) (ts := ts)
    refine r_sd (sd_move rfl rfl) rfl rfl ?_
    refine r_callm 0 rfl rfl rfl rfl (sort_c acc a c (by first | assumption | omega | (simp; done) | (simp; omega))) rfl cv_nil rfl (fun mSorted hms => ?_)
    change RJ _ _ _ _ _ ((_, (Value.tuple [].toArray)) :: _) [(own a c 3 1 (mSorted.map iC)), (mi r9 b8 (mapV iV (hgts best s ts ts.length)) (mapV iV left) none), (blk b2 108 (RiderV.cells (RiderV.mk s (TrackV.mk (Slc.mk tsA ts.length tsC)) best))), (rd tsA ts.length 9 (ts.map StretchV.cells)).ro]
    refine r_nil ?_
    refine k_then (hK13 _ _ _ ?_)
    refine w_seq fun K15 hK15 => ?_
    refine w_region ?_
    have hmt : mSorted = thr best s ts := sorted_unique (hms.1.trans hpa) hms.2 thr_sorted
    subst hmt
    skip
    refine r_sd (sd_move rfl rfl) rfl rfl ?_
    refine r_sd (sd_assign rfl rfl) rfl rfl ?_
    refine r_nil ?_
    refine k_then (hK15 _ _ _ ?_)
    refine w_ret ?_
    refine hQ _ _ _ (l_nil (vs := [(Value.slice a acc.length c)]) ⟨rfl, trivial⟩ fun w hs => endX (a, c) [0] ?_ ?_ rfl rfl rfl hs)
    · rw [hal]; rfl
    · trivial
  · -- one more
    change RJ _ _ _ _ _ ((_, (Value.tuple [(Value.bool true), (Value.int .i64 x), (Value.int .i64 y)].toArray)) :: _) [(own a c 3 1 (acc.map iC)), (mi r9 b8 (mapV iV (hgts best s ts ts.length)) (mapV iV (delK left x)) (some (x, (Value.int .i64 y)))), (blk b2 108 (RiderV.cells (RiderV.mk s (TrackV.mk (Slc.mk tsA ts.length tsC)) best))), (rd tsA ts.length 9 (ts.map StretchV.cells)).ro]
    refine r_sd (sd_extract rfl rfl rfl) rfl rfl ?_
    refine r_nil ?_
    refine k_then (hK11 _ _ _ ?_)
    refine w_seq fun K16 hK16 => ?_
    refine w_if_true rfl ?_
    refine w_skip ?_
    refine k_then (hK16 _ _ _ ?_)
    refine w_block ?_
    refine w_seq fun K17 hK17 => ?_
    refine w_region ?_
    obtain ⟨hx0, hxn, hxc, hyv⟩ := hgts_mem (hl3_0 _ hm)
    have hal := thr_room hl3_1
    refine r_sd (sd_mentry 1 rfl rfl rfl) rfl rfl ?_
    refine r_sd (sd_extract rfl rfl rfl) rfl rfl ?_
    refine r_sd (sd_extract rfl rfl rfl) rfl rfl ?_
    refine r_sd (sd_assign rfl rfl) rfl rfl ?_
    refine r_sd (sd_assign rfl rfl) rfl rfl ?_
    refine r_nil ?_
    refine k_then (hK17 _ _ _ ?_)
    refine w_seq fun K18 hK18 => ?_
    refine w_region ?_
    refine r_sd (sd_move rfl rfl) rfl rfl ?_
    refine r_sd (sd_fa (o' := 11) rfl rfl fo108_1 rfl) rfl rfl ?_
    refine r_sd (sd_fa (o' := 11) rfl rfl fo24_0 rfl) rfl rfl ?_
    refine r_sd (sd_ld1 rfl rfl tk22 (at_blk (vs := [(Value.slice tsA ts.length tsC)]) 2 rfl rfl)) rfl rfl ?_
    refine r_sd (sd_move rfl rfl) rfl rfl ?_
    obtain ⟨z, hz⟩ : ∃ y_, ts[(x).toNat]? = some y_ := ⟨ts[(x).toNat]'(by omega), List.getElem?_eq_getElem _⟩
    have hzm : (ts.map StretchV.cells)[(x).toNat]? = some (StretchV.cells z) := by rw [List.getElem?_map, hz]; rfl
    refine r_sd (sd_ia (k := (x).toNat) rfl rfl rfl (has_at 3 rfl) te22 (by decide) (by omega) (by omega)) rfl rfl ?_
    refine r_sd (sd_fa_rd (k' := ((((x).toNat) * 9) + 8)) rfl rfl (has_at 3 rfl) (Nat.mul_pos (by omega) (by decide)) fo77_5 rfl) rfl rfl ?_
    refine r_sd (sd_ld1 rfl rfl tk3 (at_rd (k := (x).toNat) (o := 8) (vs := [(Value.int .i64 z.Wall)]) (has_at 3 rfl) hzm rfl (by decide) rfl)) rfl rfl ?_
    refine r_sd (sd_bin rfl rfl rfl b_gtr) rfl rfl ?_
    refine r_nil ?_
    refine k_then (hK18 _ _ _ ?_)
    refine w_if rfl (fun ht => ?_) (fun ht => ?_)
    · -- yes
      replace ht := of_decide_eq_true ht
      refine w_region ?_
      refine r_sd (sd_move rfl rfl) rfl rfl ?_
      refine r_sd (sd_move rfl rfl) rfl rfl ?_
      refine r_bs (xs := [.tmp 24]) (cs := [(Value.int .i64 x)]) rfl te61 tz3 rfl rfl rfl rfl (by simp [Value.cells]) rfl rfl fun b19 => ?_
      refine r_append (es2 := (List.map iC (acc ++ ([x])))) (m' := (acc ++ ([x])).length) 1 rfl rfl rfl ta61 rfl rfl (by simp) (has_rd_blk (es := List.map iC [x]) 0 rfl rfl (by simp [iC_length]) rfl) (one_iC _) (by first | omega | (simp; omega)) (by first | (simp only [maxLen]; omega) | (simp [maxLen]; omega)) (by simp) (by simp) rfl fun a20 c21 => ?_
      change RJ _ _ _ _ _ _ [_, (own a20 c21 3 1 (List.map iC (acc ++ ([x])))), _, _, _]
      refine r_sd (sd_assign rfl rfl) rfl rfl ?_
      refine r_nil ?_
      refine k_block ?_
      refine k_imp (C' := [(blk b19 3 [(Value.int .i64 x)]), (own a20 c21 3 1 (List.map iC (acc ++ ([x])))), (mi r9 b8 (mapV iV (hgts best s ts ts.length)) (mapV iV (delK left x)) none), (blk b2 108 (RiderV.cells (RiderV.mk s (TrackV.mk (Slc.mk tsA ts.length tsC)) best))), (rd tsA ts.length 9 (ts.map StretchV.cells)).ro]) 2 rfl mi_none rfl ?_
      refine k_then (hJ10 ⟨((delK left x), (acc ++ ([x])), a20, c21), ⟨fun p hp => hl3_0 p (mem_delK.1 hp).1, by first | exact thr_yes hl3_1 hm hnd (by rw [wallAt_at hz]; exact ht) | exact thr_not hl3_1 hm hnd (by rw [wallAt_at hz]; exact ht)⟩⟩ _ _ _ rfl (delK_lt hm) (Sub.cons rfl <| Sub.cons rfl <| Sub.cons rfl <| Sub.nil _) (fun w hs => St.sel [1, 2, 3, 4] rfl rfl hs))
    · -- no
      replace ht := of_decide_eq_false ht
      refine w_skip ?_
      refine k_block ?_
      refine k_imp (C' := [(own a c 3 1 (acc.map iC)), (mi r9 b8 (mapV iV (hgts best s ts ts.length)) (mapV iV (delK left x)) none), (blk b2 108 (RiderV.cells (RiderV.mk s (TrackV.mk (Slc.mk tsA ts.length tsC)) best))), (rd tsA ts.length 9 (ts.map StretchV.cells)).ro]) 1 rfl mi_none rfl ?_
      refine k_then (hJ10 ⟨((delK left x), acc, a, c), ⟨fun p hp => hl3_0 p (mem_delK.1 hp).1, by first | exact thr_yes hl3_1 hm hnd (by rw [wallAt_at hz]; exact ht) | exact thr_not hl3_1 hm hnd (by rw [wallAt_at hz]; exact ht)⟩⟩ _ _ _ rfl (delK_lt hm) (Sub.cons rfl <| Sub.cons rfl <| Sub.cons rfl <| Sub.nil _) (fun w hs => St.sel [0, 1, 2, 3] rfl rfl hs))

set_option maxRecDepth 100000 in
set_option maxHeartbeats 400000 in
theorem safe_bad (ts : List StretchV) (tsA : Option Addr) (tsC : Nat) (s : SledV) (hlen : ts.length ≤ 1000000) (hside : ∀ x ∈ ts, 0 ≤ x.Side ∧ x.Side ≤ 255) (htr : trackOk ts = false) :
    FnV Try.prog 30 [(Value.agg (TrackV.cells (TrackV.mk (Slc.mk tsA ts.length tsC))).toArray), (Value.agg (SledV.cells s).toArray)] [(rd tsA ts.length 9 (ts.map StretchV.cells))] (Value.tuple [(Value.int .u8 (safeV s ts)), (Value.int .i64 (bothE s ts))].toArray) := by
  have hb0 : ¬ bothE s ts = 0 := by rw [bothE_bad htr]; decide
  refine fnV_of go30 Try.func30 rfl rfl fun w0 Q hQ hN => ?_
  change WJ _ _ _ _ [(0, (Value.agg (TrackV.cells (TrackV.mk (Slc.mk tsA ts.length tsC))).toArray)), (1, (Value.agg (SledV.cells s).toArray))] [(rd tsA ts.length 9 (ts.map StretchV.cells)).ro]
  refine w_seq fun K1 hK1 => ?_
  refine w_region ?_
  refine r_box (cs := (TrackV.cells (TrackV.mk (Slc.mk tsA ts.length tsC)))) rfl rfl rfl rfl fun b2 => ?_
  refine r_box (cs := (SledV.cells s)) rfl rfl rfl rfl fun b3 => ?_
  refine r_sd (sd_assign rfl rfl) rfl rfl ?_
  refine r_sd (sd_assign rfl rfl) rfl rfl ?_
  refine r_nil ?_
  refine k_then (hK1 _ _ _ ?_)
  refine w_seq fun K4 hK4 => ?_
  refine w_region ?_
  refine r_sd (sd_ldn rfl rfl tk24 (at_blk (vs := (TrackV.cells (TrackV.mk (Slc.mk tsA ts.length tsC)))) 1 rfl rfl) rfl) rfl rfl ?_
  refine r_sd (sd_ldn rfl rfl tk28 (at_blk (vs := (SledV.cells s)) 0 rfl rfl) rfl) rfl rfl ?_
  refine r_sd (sd_call rfl rfl rfl rfl (open_bad ts tsA tsC s (by first | assumption | omega | (simp; done) | (simp; omega)) (by first | assumption | omega | (simp; done) | (simp; omega)) (by first | assumption | omega | (simp; done) | (simp; omega))) (ha_at 2 rfl rfl <| ha_nil)) rfl rfl ?_
  refine r_sd (sd_move rfl rfl) rfl rfl ?_
  refine r_sd (sd_extract rfl rfl rfl) rfl rfl ?_
  refine r_sd (sd_extract rfl rfl rfl) rfl rfl ?_
  refine r_sd (sd_extract rfl rfl rfl) rfl rfl ?_
  refine r_alloc rfl tz108 rfl fun b5 => ?_
  refine r_alloc rfl tz108 rfl fun b6 => ?_
  refine r_store (vs := (RiderV.cells (RiderV.mk (SledV.mk 0 (SpanV.mk 0 0) (SpanV.mk 0 0) (SpanV.mk 0 0) (SpanV.mk 0 0) (SpanV.mk 0 0)) (TrackV.mk (Slc.mk none 0 0)) false))) (cs' := (RiderV.cells (RiderV.mk (SledV.mk 0 (SpanV.mk 0 0) (SpanV.mk 0 0) (SpanV.mk 0 0) (SpanV.mk 0 0) (SpanV.mk 0 0)) (TrackV.mk (Slc.mk none 0 0)) false))) (C' := [_, (blk b5 108 (RiderV.cells (RiderV.mk (SledV.mk 0 (SpanV.mk 0 0) (SpanV.mk 0 0) (SpanV.mk 0 0) (SpanV.mk 0 0) (SpanV.mk 0 0)) (TrackV.mk (Slc.mk none 0 0)) false))), _, _, _]) 1 rfl rfl rfl ts108 rfl rfl rfl rfl rfl rfl rfl ?_
  refine r_store (vs := (RiderV.cells (RiderV.mk (SledV.mk 0 (SpanV.mk 0 0) (SpanV.mk 0 0) (SpanV.mk 0 0) (SpanV.mk 0 0) (SpanV.mk 0 0)) (TrackV.mk (Slc.mk none 0 0)) false))) (cs' := (RiderV.cells (RiderV.mk (SledV.mk 0 (SpanV.mk 0 0) (SpanV.mk 0 0) (SpanV.mk 0 0) (SpanV.mk 0 0) (SpanV.mk 0 0)) (TrackV.mk (Slc.mk none 0 0)) false))) (C' := [(blk b6 108 (RiderV.cells (RiderV.mk (SledV.mk 0 (SpanV.mk 0 0) (SpanV.mk 0 0) (SpanV.mk 0 0) (SpanV.mk 0 0) (SpanV.mk 0 0)) (TrackV.mk (Slc.mk none 0 0)) false))), _, _, _, _]) 0 rfl rfl rfl ts108 rfl rfl rfl rfl rfl rfl rfl ?_
  refine r_sd (sd_assign rfl rfl) rfl rfl ?_
  refine r_nil ?_
  refine k_then (hK4 _ _ _ ?_)
  refine w_seq fun K7 hK7 => ?_
  refine w_block ?_
  refine w_seq fun K8 hK8 => ?_
  refine w_region ?_
  refine r_sd (sd_move rfl rfl) rfl rfl ?_
  refine r_sd (sd_bin rfl rfl rfl b_neq) rfl rfl ?_
  refine r_sd (sd_assign rfl rfl) rfl rfl ?_
  refine r_nil ?_
  refine k_then (hK8 _ _ _ ?_)
  refine w_if rfl (fun he => ?_) (fun he => ?_)
  · -- yes
    rw [Bool.not_eq_true'] at he
    replace he := of_decide_eq_false he
    refine w_seq fun K9 hK9 => ?_
    refine w_region ?_
    refine r_sd (sd_move rfl rfl) rfl rfl ?_
    refine r_sd (sd_assign rfl rfl) rfl rfl ?_
    refine r_sd (sd_assign rfl rfl) rfl rfl ?_
    refine r_nil ?_
    refine k_then (hK9 _ _ _ ?_)
    refine w_ret ?_
    refine hQ _ _ _ (l_nil (vs := [(Value.int .u8 0), (Value.int .i64 (bothE s ts))]) ⟨rfl, rfl, trivial⟩ fun w hs => endV ?_ hs)
    show (Value.tuple [(Value.int .u8 0), (Value.int .i64 (bothE s ts))].toArray) = (Value.tuple [(Value.int .u8 (safeV s ts)), (Value.int .i64 (bothE s ts))].toArray)
    clear hs w hQ hN hK9 K9 hK8 K8 hK7 K7 hK4 K4 hK1 K1
    rw [safeV_no hb0]
  · -- no
    rw [Bool.not_eq_false'] at he
    replace he := of_decide_eq_true he
    exact absurd he hb0

set_option maxRecDepth 100000 in
set_option maxHeartbeats 400000 in
theorem safe_sled (ts : List StretchV) (tsA : Option Addr) (tsC : Nat) (s : SledV) (hlen : ts.length ≤ 1000000) (hside : ∀ x ∈ ts, 0 ≤ x.Side ∧ x.Side ≤ 255) (htr : trackOk ts = true) (hns : ¬ SledOk s) :
    FnV Try.prog 30 [(Value.agg (TrackV.cells (TrackV.mk (Slc.mk tsA ts.length tsC))).toArray), (Value.agg (SledV.cells s).toArray)] [(rd tsA ts.length 9 (ts.map StretchV.cells))] (Value.tuple [(Value.int .u8 (safeV s ts)), (Value.int .i64 (bothE s ts))].toArray) := by
  have hb0 : ¬ bothE s ts = 0 := by rw [bothE_sled htr hns]; decide
  refine fnV_of go30 Try.func30 rfl rfl fun w0 Q hQ hN => ?_
  change WJ _ _ _ _ [(0, (Value.agg (TrackV.cells (TrackV.mk (Slc.mk tsA ts.length tsC))).toArray)), (1, (Value.agg (SledV.cells s).toArray))] [(rd tsA ts.length 9 (ts.map StretchV.cells)).ro]
  refine w_seq fun K1 hK1 => ?_
  refine w_region ?_
  refine r_box (cs := (TrackV.cells (TrackV.mk (Slc.mk tsA ts.length tsC)))) rfl rfl rfl rfl fun b2 => ?_
  refine r_box (cs := (SledV.cells s)) rfl rfl rfl rfl fun b3 => ?_
  refine r_sd (sd_assign rfl rfl) rfl rfl ?_
  refine r_sd (sd_assign rfl rfl) rfl rfl ?_
  refine r_nil ?_
  refine k_then (hK1 _ _ _ ?_)
  refine w_seq fun K4 hK4 => ?_
  refine w_region ?_
  refine r_sd (sd_ldn rfl rfl tk24 (at_blk (vs := (TrackV.cells (TrackV.mk (Slc.mk tsA ts.length tsC)))) 1 rfl rfl) rfl) rfl rfl ?_
  refine r_sd (sd_ldn rfl rfl tk28 (at_blk (vs := (SledV.cells s)) 0 rfl rfl) rfl) rfl rfl ?_
  refine r_sd (sd_call rfl rfl rfl rfl (open_ok ts tsA tsC s (by first | assumption | omega | (simp; done) | (simp; omega)) (by first | assumption | omega | (simp; done) | (simp; omega)) (by first | assumption | omega | (simp; done) | (simp; omega))) (ha_at 2 rfl rfl <| ha_nil)) rfl rfl ?_
  refine r_sd (sd_move rfl rfl) rfl rfl ?_
  refine r_sd (sd_extract rfl rfl rfl) rfl rfl ?_
  refine r_sd (sd_extract rfl rfl rfl) rfl rfl ?_
  refine r_sd (sd_extract rfl rfl rfl) rfl rfl ?_
  refine r_alloc rfl tz108 rfl fun b5 => ?_
  refine r_alloc rfl tz108 rfl fun b6 => ?_
  refine r_store (vs := (RiderV.cells (RiderV.mk s (TrackV.mk (Slc.mk tsA ts.length tsC)) false))) (cs' := (RiderV.cells (RiderV.mk s (TrackV.mk (Slc.mk tsA ts.length tsC)) false))) (C' := [_, (blk b5 108 (RiderV.cells (RiderV.mk s (TrackV.mk (Slc.mk tsA ts.length tsC)) false))), _, _, _]) 1 rfl rfl rfl ts108 rfl rfl rfl rfl rfl rfl rfl ?_
  refine r_store (vs := (RiderV.cells (RiderV.mk s (TrackV.mk (Slc.mk tsA ts.length tsC)) true))) (cs' := (RiderV.cells (RiderV.mk s (TrackV.mk (Slc.mk tsA ts.length tsC)) true))) (C' := [(blk b6 108 (RiderV.cells (RiderV.mk s (TrackV.mk (Slc.mk tsA ts.length tsC)) true))), _, _, _, _]) 0 rfl rfl rfl ts108 rfl rfl rfl rfl rfl rfl rfl ?_
  refine r_sd (sd_assign rfl rfl) rfl rfl ?_
  refine r_nil ?_
  refine k_then (hK4 _ _ _ ?_)
  refine w_seq fun K7 hK7 => ?_
  refine w_block ?_
  refine w_seq fun K8 hK8 => ?_
  refine w_region ?_
  refine r_sd (sd_move rfl rfl) rfl rfl ?_
  refine r_sd (sd_bin rfl rfl rfl b_neq) rfl rfl ?_
  refine r_sd (sd_assign rfl rfl) rfl rfl ?_
  refine r_nil ?_
  refine k_then (hK8 _ _ _ ?_)
  refine w_if rfl (fun he => ?_) (fun he => ?_)
  · -- yes
    rw [Bool.not_eq_true'] at he
    replace he := of_decide_eq_false he
    refine w_seq fun K9 hK9 => ?_
    refine w_region ?_
    refine r_sd (sd_move rfl rfl) rfl rfl ?_
    refine r_sd (sd_assign rfl rfl) rfl rfl ?_
    refine r_sd (sd_assign rfl rfl) rfl rfl ?_
    refine r_nil ?_
    refine k_then (hK9 _ _ _ ?_)
    refine w_ret ?_
    refine hQ _ _ _ (l_nil (vs := [(Value.int .u8 0), (Value.int .i64 (bothE s ts))]) ⟨rfl, rfl, trivial⟩ fun w hs => endV ?_ hs)
    show (Value.tuple [(Value.int .u8 0), (Value.int .i64 (bothE s ts))].toArray) = (Value.tuple [(Value.int .u8 (safeV s ts)), (Value.int .i64 (bothE s ts))].toArray)
    clear hs w hQ hN hK9 K9 hK8 K8 hK7 K7 hK4 K4 hK1 K1
    rw [safeV_no hb0]
  · -- no
    rw [Bool.not_eq_false'] at he
    replace he := of_decide_eq_true he
    exact absurd he hb0

set_option maxRecDepth 100000 in
set_option maxHeartbeats 400000 in
theorem safe_ok (ts : List StretchV) (tsA : Option Addr) (tsC : Nat) (s : SledV) (hlen : ts.length ≤ 1000000) (hside : ∀ x ∈ ts, 0 ≤ x.Side ∧ x.Side ≤ 255) (htr : trackOk ts = true) (hs : SledOk s) :
    FnV Try.prog 30 [(Value.agg (TrackV.cells (TrackV.mk (Slc.mk tsA ts.length tsC))).toArray), (Value.agg (SledV.cells s).toArray)] [(rd tsA ts.length 9 (ts.map StretchV.cells))] (Value.tuple [(Value.int .u8 (safeV s ts)), (Value.int .i64 (bothE s ts))].toArray) := by
  have hb0 := bothE_ok htr hs
  have hst := trackOk_all htr
  have hl12 := trackOk_le htr
  have hl1 := trackOk_pos htr
  refine fnV_of go30 Try.func30 rfl rfl fun w0 Q hQ hN => ?_
  change WJ _ _ _ _ [(0, (Value.agg (TrackV.cells (TrackV.mk (Slc.mk tsA ts.length tsC))).toArray)), (1, (Value.agg (SledV.cells s).toArray))] [(rd tsA ts.length 9 (ts.map StretchV.cells)).ro]
  refine w_seq fun K1 hK1 => ?_
  refine w_region ?_
  refine r_box (cs := (TrackV.cells (TrackV.mk (Slc.mk tsA ts.length tsC)))) rfl rfl rfl rfl fun b2 => ?_
  refine r_box (cs := (SledV.cells s)) rfl rfl rfl rfl fun b3 => ?_
  refine r_sd (sd_assign rfl rfl) rfl rfl ?_
  refine r_sd (sd_assign rfl rfl) rfl rfl ?_
  refine r_nil ?_
  refine k_then (hK1 _ _ _ ?_)
  refine w_seq fun K4 hK4 => ?_
  refine w_region ?_
  refine r_sd (sd_ldn rfl rfl tk24 (at_blk (vs := (TrackV.cells (TrackV.mk (Slc.mk tsA ts.length tsC)))) 1 rfl rfl) rfl) rfl rfl ?_
  refine r_sd (sd_ldn rfl rfl tk28 (at_blk (vs := (SledV.cells s)) 0 rfl rfl) rfl) rfl rfl ?_
  refine r_sd (sd_call rfl rfl rfl rfl (open_ok ts tsA tsC s (by first | assumption | omega | (simp; done) | (simp; omega)) (by first | assumption | omega | (simp; done) | (simp; omega)) (by first | assumption | omega | (simp; done) | (simp; omega))) (ha_at 2 rfl rfl <| ha_nil)) rfl rfl ?_
  refine r_sd (sd_move rfl rfl) rfl rfl ?_
  refine r_sd (sd_extract rfl rfl rfl) rfl rfl ?_
  refine r_sd (sd_extract rfl rfl rfl) rfl rfl ?_
  refine r_sd (sd_extract rfl rfl rfl) rfl rfl ?_
  refine r_alloc rfl tz108 rfl fun b5 => ?_
  refine r_alloc rfl tz108 rfl fun b6 => ?_
  refine r_store (vs := (RiderV.cells (RiderV.mk s (TrackV.mk (Slc.mk tsA ts.length tsC)) false))) (cs' := (RiderV.cells (RiderV.mk s (TrackV.mk (Slc.mk tsA ts.length tsC)) false))) (C' := [_, (blk b5 108 (RiderV.cells (RiderV.mk s (TrackV.mk (Slc.mk tsA ts.length tsC)) false))), _, _, _]) 1 rfl rfl rfl ts108 rfl rfl rfl rfl rfl rfl rfl ?_
  refine r_store (vs := (RiderV.cells (RiderV.mk s (TrackV.mk (Slc.mk tsA ts.length tsC)) true))) (cs' := (RiderV.cells (RiderV.mk s (TrackV.mk (Slc.mk tsA ts.length tsC)) true))) (C' := [(blk b6 108 (RiderV.cells (RiderV.mk s (TrackV.mk (Slc.mk tsA ts.length tsC)) true))), _, _, _, _]) 0 rfl rfl rfl ts108 rfl rfl rfl rfl rfl rfl rfl ?_
  refine r_sd (sd_assign rfl rfl) rfl rfl ?_
  refine r_nil ?_
  refine k_then (hK4 _ _ _ ?_)
  refine w_seq fun K7 hK7 => ?_
  refine w_block ?_
  refine w_seq fun K8 hK8 => ?_
  refine w_region ?_
  refine r_sd (sd_move rfl rfl) rfl rfl ?_
  refine r_sd (sd_bin rfl rfl rfl b_neq) rfl rfl ?_
  refine r_sd (sd_assign rfl rfl) rfl rfl ?_
  refine r_nil ?_
  refine k_then (hK8 _ _ _ ?_)
  refine w_if rfl (fun he => ?_) (fun he => ?_)
  · -- yes
    rw [Bool.not_eq_true'] at he
    replace he := of_decide_eq_false he
    exact absurd hb0 he
  · -- no
    rw [Bool.not_eq_false'] at he
    replace he := of_decide_eq_true he
    refine w_seq fun K9 hK9 => ?_
    refine w_region ?_
    refine r_sd (sd_ldn rfl rfl tk108 (at_blk (vs := (RiderV.cells (RiderV.mk s (TrackV.mk (Slc.mk tsA ts.length tsC)) false))) 1 rfl rfl) rfl) rfl rfl ?_
    refine r_call rfl rfl rfl rfl (thrown_c s ts tsA tsC false (by first | assumption | omega | (simp; done) | (simp; omega)) (by first | assumption | omega | (simp; done) | (simp; omega)) (by first | assumption | omega | (simp; done) | (simp; omega)) (by first | assumption | omega | (simp; done) | (simp; omega))) (ha_at 4 rfl rfl <| ha_nil) rfl (fun y10 hy11 => ?_)
    obtain ⟨a12, c13⟩ := y10
    change RJ _ _ _ _ _ ((_, (Value.slice a12 ((thr false s ts).length) c13)) :: _) ((own a12 c13 3 1 ((thr false s ts).map iC)) :: _)
    refine r_sd (sd_len rfl rfl ut61) rfl rfl ?_
    refine r_sd (sd_bin rfl rfl rfl b_gtr) rfl rfl ?_
    refine r_sd (sd_assign rfl rfl) rfl rfl ?_
    refine r_nil ?_
    refine k_then (hK9 _ _ _ ?_)
    refine w_if rfl (fun h1 => ?_) (fun h1 => ?_)
    · -- yes
      replace h1 := of_decide_eq_true h1
      refine w_seq fun K14 hK14 => ?_
      refine w_region ?_
      refine r_sd (sd_assign rfl rfl) rfl rfl ?_
      refine r_sd (sd_assign rfl rfl) rfl rfl ?_
      refine r_nil ?_
      refine k_then (hK14 _ _ _ ?_)
      refine w_ret ?_
      refine hQ _ _ _ (l_nil (vs := [(Value.int .u8 0), (Value.int .i64 0)]) ⟨rfl, rfl, trivial⟩ fun w hs => endV ?_ hs)
      show (Value.tuple [(Value.int .u8 0), (Value.int .i64 0)].toArray) = (Value.tuple [(Value.int .u8 (safeV s ts)), (Value.int .i64 (bothE s ts))].toArray)
      clear hs w hQ hN hK14 K14 hK9 K9 hK8 K8 hK7 K7 hK4 K4 hK1 K1
      first | (rw [safeV_ok hb0, hb0, safeF_zero (len_ne h1)] <;> rfl) | (rw [safeV_ok hb0, hb0, safeF_one (len_eq h1) (len_ne h2)] <;> rfl) | (rw [safeV_ok hb0, hb0, safeF_two (len_eq h1) (len_eq h2)] <;> rfl)
    · -- no
      replace h1 := of_decide_eq_false h1
      refine w_seq fun K15 hK15 => ?_
      refine w_region ?_
      refine r_sd (sd_ldn rfl rfl tk108 (at_blk (vs := (RiderV.cells (RiderV.mk s (TrackV.mk (Slc.mk tsA ts.length tsC)) true))) 1 rfl rfl) rfl) rfl rfl ?_
      refine r_call rfl rfl rfl rfl (thrown_c s ts tsA tsC true (by first | assumption | omega | (simp; done) | (simp; omega)) (by first | assumption | omega | (simp; done) | (simp; omega)) (by first | assumption | omega | (simp; done) | (simp; omega)) (by first | assumption | omega | (simp; done) | (simp; omega))) (ha_at 5 rfl rfl <| ha_nil) rfl (fun y16 hy17 => ?_)
      obtain ⟨a18, c19⟩ := y16
      change RJ _ _ _ _ _ ((_, (Value.slice a18 ((thr true s ts).length) c19)) :: _) ((own a18 c19 3 1 ((thr true s ts).map iC)) :: _)
      refine r_sd (sd_len rfl rfl ut61) rfl rfl ?_
      refine r_sd (sd_bin rfl rfl rfl b_gtr) rfl rfl ?_
      refine r_sd (sd_assign rfl rfl) rfl rfl ?_
      refine r_nil ?_
      refine k_then (hK15 _ _ _ ?_)
      refine w_if rfl (fun h2 => ?_) (fun h2 => ?_)
      · -- yes
        replace h2 := of_decide_eq_true h2
        refine w_seq fun K20 hK20 => ?_
        refine w_region ?_
        refine r_sd (sd_assign rfl rfl) rfl rfl ?_
        refine r_sd (sd_assign rfl rfl) rfl rfl ?_
        refine r_nil ?_
        refine k_then (hK20 _ _ _ ?_)
        refine w_ret ?_
        refine hQ _ _ _ (l_nil (vs := [(Value.int .u8 1), (Value.int .i64 0)]) ⟨rfl, rfl, trivial⟩ fun w hs => endV ?_ hs)
        show (Value.tuple [(Value.int .u8 1), (Value.int .i64 0)].toArray) = (Value.tuple [(Value.int .u8 (safeV s ts)), (Value.int .i64 (bothE s ts))].toArray)
        clear hs w hQ hN hK20 K20 hK15 K15 hK9 K9 hK8 K8 hK7 K7 hK4 K4 hK1 K1
        first | (rw [safeV_ok hb0, hb0, safeF_zero (len_ne h1)] <;> rfl) | (rw [safeV_ok hb0, hb0, safeF_one (len_eq h1) (len_ne h2)] <;> rfl) | (rw [safeV_ok hb0, hb0, safeF_two (len_eq h1) (len_eq h2)] <;> rfl)
      · -- no
        replace h2 := of_decide_eq_false h2
        refine w_skip ?_
        refine k_block ?_
        refine k_then (hK7 _ _ _ ?_)
        refine w_seq fun K21 hK21 => ?_
        refine w_region ?_
        refine r_sd (sd_assign rfl rfl) rfl rfl ?_
        refine r_sd (sd_assign rfl rfl) rfl rfl ?_
        refine r_nil ?_
        refine k_then (hK21 _ _ _ ?_)
        refine w_ret ?_
        refine hQ _ _ _ (l_nil (vs := [(Value.int .u8 2), (Value.int .i64 0)]) ⟨rfl, rfl, trivial⟩ fun w hs => endV ?_ hs)
        show (Value.tuple [(Value.int .u8 2), (Value.int .i64 0)].toArray) = (Value.tuple [(Value.int .u8 (safeV s ts)), (Value.int .i64 (bothE s ts))].toArray)
        clear hs w hQ hN hK21 K21 hK15 K15 hK9 K9 hK8 K8 hK7 K7 hK4 K4 hK1 K1
        first | (rw [safeV_ok hb0, hb0, safeF_zero (len_ne h1)] <;> rfl) | (rw [safeV_ok hb0, hb0, safeF_one (len_eq h1) (len_ne h2)] <;> rfl) | (rw [safeV_ok hb0, hb0, safeF_two (len_eq h1) (len_eq h2)] <;> rfl)

theorem safe_no_ (ts : List StretchV) (tsA : Option Addr) (tsC : Nat) (s : SledV) (hlen : ts.length ≤ 1000000) (hside : ∀ x ∈ ts, 0 ≤ x.Side ∧ x.Side ≤ 255) (hb : ¬ bothE s ts = 0) :
    FnV Try.prog 30 [(Value.agg (TrackV.cells (TrackV.mk (Slc.mk tsA ts.length tsC))).toArray), (Value.agg (SledV.cells s).toArray)] [(rd tsA ts.length 9 (ts.map StretchV.cells))] (Value.tuple [(Value.int .u8 (safeV s ts)), (Value.int .i64 (bothE s ts))].toArray) := by
  by_cases htr : trackOk ts = true
  · by_cases hs : SledOk s
    · exact absurd (bothE_ok htr hs) hb
    · exact safe_sled ts tsA tsC s hlen hside htr hs
  · exact safe_bad ts tsA tsC s hlen hside (by simpa using htr)

theorem safe_c (ts : List StretchV) (tsA : Option Addr) (tsC : Nat) (s : SledV) (hlen : ts.length ≤ 1000000) (hside : ∀ x ∈ ts, 0 ≤ x.Side ∧ x.Side ≤ 255) :
    FnV Try.prog 30 [(Value.agg (TrackV.cells (TrackV.mk (Slc.mk tsA ts.length tsC))).toArray), (Value.agg (SledV.cells s).toArray)] [(rd tsA ts.length 9 (ts.map StretchV.cells))] (Value.tuple [(Value.int .u8 (safeV s ts)), (Value.int .i64 (bothE s ts))].toArray) := by
  by_cases hb : bothE s ts = 0
  · obtain ⟨h1, h2⟩ := bothE_zero hb
    exact safe_ok ts tsA tsC s hlen hside h1 h2
  · exact safe_no_ ts tsA tsC s hlen hside hb

set_option maxRecDepth 100000 in
set_option maxHeartbeats 400000 in
theorem rsafe_c (ts : List StretchV) (tsA : Option Addr) (tsC : Nat) (s : SledV) (hs : SledOk s) (hst : ∀ x ∈ ts, StretchOk x) (hlen : ts.length ≤ 12) (hside : ∀ x ∈ ts, 0 ≤ x.Side ∧ x.Side ≤ 255) :
    FnV Try.prog 76 [(Value.agg (TrackV.cells (TrackV.mk (Slc.mk tsA ts.length tsC))).toArray), (Value.agg (SledV.cells s).toArray)] [(rd tsA ts.length 9 (ts.map StretchV.cells))] (Value.int .u8 (safeF s ts)) := by
  refine fnV_of go76 Try.func76 rfl rfl fun w0 Q hQ hN => ?_
  change WJ _ _ _ _ [(0, (Value.agg (TrackV.cells (TrackV.mk (Slc.mk tsA ts.length tsC))).toArray)), (1, (Value.agg (SledV.cells s).toArray))] [(rd tsA ts.length 9 (ts.map StretchV.cells)).ro]
  refine w_seq fun K1 hK1 => ?_
  refine w_region ?_
  refine r_box (cs := (TrackV.cells (TrackV.mk (Slc.mk tsA ts.length tsC)))) rfl rfl rfl rfl fun b2 => ?_
  refine r_box (cs := (SledV.cells s)) rfl rfl rfl rfl fun b3 => ?_
  refine r_sd (sd_assign rfl rfl) rfl rfl ?_
  refine r_nil ?_
  refine k_then (hK1 _ _ _ ?_)
  refine w_seq fun K4 hK4 => ?_
  refine w_region ?_
  refine r_sd (sd_assign rfl rfl) rfl rfl ?_
  refine r_nil ?_
  refine k_then (hK4 _ _ _ ?_)
  refine w_seq fun K5 hK5 => ?_
  refine w_seq fun K6 hK6 => ?_
  refine w_region ?_
  refine r_sd (sd_assign rfl rfl) rfl rfl ?_
  refine r_nil ?_
  refine k_then (hK6 _ _ _ ?_)
  refine w_block ?_
  have hinit : (0 ≤ ts.length) ∧ (noThr false s ts 0) := by exact ⟨Nat.zero_le _, noThr_zero⟩
  refine w_loop (ι := { z : Nat // (z ≤ ts.length) ∧ (noThr false s ts z) }) (fun z => [(2, (Value.pointer (some ⟨b2, 0, none⟩))), (3, (Value.pointer (some ⟨b3, 0, none⟩))), (5, (Value.int .u8 (outAt s ts z.1))), (6, (Value.int .i64 ((z.1 : Nat) : Int)))]) (fun z => [(blk b3 28 (SledV.cells s)), (blk b2 24 (TrackV.cells (TrackV.mk (Slc.mk tsA ts.length tsC)))), (rd tsA ts.length 9 (ts.map StretchV.cells)).ro]) (fun z => ts.length - z.1) ⟨0, hinit⟩ (Sub.cons rfl <| Sub.cons rfl <| Sub.cons rfl <| Sub.cons rfl <| Sub.nil _) (fun w hs => St.sel [0, 1, 2] rfl rfl hs) ?_
  clear hinit
  rintro ⟨i, ⟨hl3_0, hl3_1⟩⟩ J7 hJ7
  change WJ _ _ _ _ [(2, (Value.pointer (some ⟨b2, 0, none⟩))), (3, (Value.pointer (some ⟨b3, 0, none⟩))), (5, (Value.int .u8 (outAt s ts i))), (6, (Value.int .i64 ((i : Nat) : Int)))] [(blk b3 28 (SledV.cells s)), (blk b2 24 (TrackV.cells (TrackV.mk (Slc.mk tsA ts.length tsC)))), (rd tsA ts.length 9 (ts.map StretchV.cells)).ro]
  refine w_seq fun K8 hK8 => ?_
  refine w_seq fun K9 hK9 => ?_
  refine w_region ?_
  refine r_sd (sd_move rfl rfl) rfl rfl ?_
  refine r_sd (sd_fa (o' := 0) rfl rfl fo24_0 rfl) rfl rfl ?_
  refine r_sd (sd_ld1 rfl rfl tk22 (at_blk (vs := [(Value.slice tsA ts.length tsC)]) 1 rfl rfl)) rfl rfl ?_
  refine r_sd (sd_len rfl rfl ut22) rfl rfl ?_
  refine r_sd (sd_bin rfl rfl rfl b_lss) rfl rfl ?_
  refine r_nil ?_
  refine k_then (hK9 _ _ _ ?_)
  refine w_if rfl (fun h10 => ?_) (fun h10 => ?_)
  · -- yes
    replace h10 := of_decide_eq_true h10
    refine w_skip ?_
    refine k_then (hK8 _ _ _ ?_)
    refine w_seq fun K11 hK11 => ?_
    refine w_block ?_
    refine w_seq fun K12 hK12 => ?_
    refine w_seq fun K13 hK13 => ?_
    refine w_region ?_
    refine r_sd (sd_ldn rfl rfl tk24 (at_blk (vs := (TrackV.cells (TrackV.mk (Slc.mk tsA ts.length tsC)))) 1 rfl rfl) rfl) rfl rfl ?_
    refine r_sd (sd_move rfl rfl) rfl rfl ?_
    refine r_sd (sd_call rfl rfl rfl rfl (curve_c ts tsA tsC ((i : Nat) : Int) (by first | assumption | omega | (simp; done) | (simp; omega)) (by first | assumption | omega | (simp; done) | (simp; omega))) (ha_at 2 rfl rfl <| ha_nil)) rfl rfl ?_
    refine r_sd (sd_not rfl rfl) rfl rfl ?_
    refine r_nil ?_
    refine k_then (hK13 _ _ _ ?_)
    refine w_if rfl (fun hc => ?_) (fun hc => ?_)
    · -- yes
      rw [Bool.not_eq_true'] at hc
      refine w_exit ?_
      refine k_exit_then ?_
      refine k_exit_same ?_
      refine k_then (hK11 _ _ _ ?_)
      refine w_region ?_
      refine r_sd (sd_move rfl rfl) rfl rfl ?_
      refine r_sd (sd_bin rfl rfl rfl (b_add ⟨by omega, by omega⟩)) rfl rfl ?_
      refine r_sd (sd_assign rfl rfl) rfl rfl ?_
      refine r_nil ?_
      have hb14 : (Value.int .u8 (outAt s ts (i + 1))) = (Value.int .u8 (outAt s ts i)) := by first | rw [outAt_no (thrB_straight hc)] | rw [outAt_no (thrB_no hx hhi)] | rw [outAt_yes (thrB_yes hx hc hhi)]
      have hb15 : (Value.int .i64 (((i + 1) : Nat) : Int)) = (Value.int .i64 (((i : Nat) : Int) + 1)) := by exact congrArg (Value.int .i64) (by omega)
      refine k_then (hJ7 ⟨(i + 1), ⟨by omega, noThr_succ hl3_1 (by first | exact thrB_straight hc | exact thrB_no hx hlo)⟩⟩ _ _ _ rfl (by first | omega | (simp; omega)) (Sub.cons rfl <| Sub.cons rfl <| sub_val rfl hb14 <| sub_val rfl hb15 <| Sub.nil _) (fun w hs => St.sel [0, 1, 2] rfl rfl hs))
    · -- no
      rw [Bool.not_eq_false'] at hc
      refine w_skip ?_
      refine k_then (hK12 _ _ _ ?_)
      refine w_seq fun K16 hK16 => ?_
      refine w_region ?_
      refine r_sd (sd_ldn rfl rfl tk24 (at_blk (vs := (TrackV.cells (TrackV.mk (Slc.mk tsA ts.length tsC)))) 1 rfl rfl) rfl) rfl rfl ?_
      refine r_sd (sd_ldn rfl rfl tk28 (at_blk (vs := (SledV.cells s)) 0 rfl rfl) rfl) rfl rfl ?_
      refine r_sd (sd_move rfl rfl) rfl rfl ?_
      refine r_sd (sd_call rfl rfl rfl rfl (rheight_c ts tsA tsC s ((i : Nat) : Int) (by first | assumption | omega | (simp; done) | (simp; omega)) (by first | assumption | omega | (simp; done) | (simp; omega)) (by first | assumption | omega | (simp; done) | (simp; omega)) (by first | assumption | omega | (simp; done) | (simp; omega))) (ha_at 2 rfl rfl <| ha_nil)) rfl rfl ?_
      refine r_alloc rfl tz26 rfl fun b17 => ?_
      refine r_store (vs := (SpanV.cells (SpanV.mk (hgt false s ts ((i : Nat) : Int).toNat) (hgt true s ts ((i : Nat) : Int).toNat)))) (cs' := (SpanV.cells (SpanV.mk (hgt false s ts ((i : Nat) : Int).toNat) (hgt true s ts ((i : Nat) : Int).toNat)))) (C' := [(blk b17 26 (SpanV.cells (SpanV.mk (hgt false s ts ((i : Nat) : Int).toNat) (hgt true s ts ((i : Nat) : Int).toNat)))), _, _, _]) 0 rfl rfl rfl ts26 rfl rfl rfl rfl rfl rfl rfl ?_
      refine r_nil ?_
      refine k_then (hK16 _ _ _ ?_)
      refine w_seq fun K18 hK18 => ?_
      refine w_seq fun K19 hK19 => ?_
      refine w_draw mixed 9 (by kernel_rfl) ?_
      refine d_sd (sd_fa (o' := 0) rfl rfl fo26_0 rfl) rfl rfl ?_
      refine d_sd (sd_ld1 rfl rfl tk3 (at_blk (vs := [(Value.int .i64 (hgt false s ts ((i : Nat) : Int).toNat))]) 0 rfl rfl)) rfl rfl ?_
      refine d_sd (sd_fa (o' := 0) rfl rfl fo24_0 rfl) rfl rfl ?_
      refine d_sd (sd_ld1 rfl rfl tk22 (at_blk (vs := [(Value.slice tsA ts.length tsC)]) 2 rfl rfl)) rfl rfl ?_
      refine d_sd (sd_move rfl rfl) rfl rfl ?_
      obtain ⟨x, hx⟩ : ∃ y_, ts[i]? = some y_ := ⟨ts[i]'(by omega), List.getElem?_eq_getElem _⟩
      have hxm : (ts.map StretchV.cells)[i]? = some (StretchV.cells x) := by rw [List.getElem?_map, hx]; rfl
      refine d_sd (sd_ia (k := i) rfl rfl rfl (has_at 3 rfl) te22 (by decide) (by omega) (by omega)) rfl rfl ?_
      refine d_sd (sd_fa_rd (k' := ((i * 9) + 8)) rfl rfl (has_at 3 rfl) (Nat.mul_pos (by omega) (by decide)) fo77_5 rfl) rfl rfl ?_
      refine d_sd (sd_ld1 rfl rfl tk3 (at_rd (k := i) (o := 8) (vs := [(Value.int .i64 x.Wall)]) (has_at 3 rfl) hxm rfl (by decide) rfl)) rfl rfl ?_
      refine d_sd (sd_bin rfl rfl rfl b_gtr) rfl rfl ?_
      refine d_end ?_
      refine r_nil ?_
      refine k_then (hK19 _ _ _ ?_)
      refine w_if rfl (fun hlo => ?_) (fun hlo => ?_)
      · -- yes
        replace hlo := of_decide_eq_true hlo
        refine w_seq fun K20 hK20 => ?_
        refine w_region ?_
        refine r_sd (sd_assign rfl rfl) rfl rfl ?_
        refine r_nil ?_
        refine k_then (hK20 _ _ _ ?_)
        refine w_ret ?_
        refine hQ _ _ _ (l_nil (vs := [(Value.int .u8 0)]) ⟨rfl, trivial⟩ fun w hs => endV ?_ hs)
        show (Value.int .u8 0) = (Value.int .u8 (safeF s ts))
        clear hs w hQ hN hK20 K20 hK19 K19 hK18 K18 hK16 K16 hK13 K13 hK12 K12 hK11 K11 hK9 K9 hK8 K8 hK6 K6 hK5 K5 hK4 K4 hK1 K1
        first | exact congrArg (Value.int .u8) (safeF_zero (thr_some (by omega) (thrB_yes hx hc hlo))).symm | exact congrArg (Value.int .u8) (outAt_end (by omega) hl3_1)
      · -- no
        replace hlo := of_decide_eq_false hlo
        refine w_skip ?_
        refine k_then (hK18 _ _ _ ?_)
        refine w_seq fun K21 hK21 => ?_
        refine w_draw mixed 9 (by kernel_rfl) ?_
        refine d_sd (sd_fa (o' := 1) rfl rfl fo26_1 rfl) rfl rfl ?_
        refine d_sd (sd_ld1 rfl rfl tk3 (at_blk (vs := [(Value.int .i64 (hgt true s ts ((i : Nat) : Int).toNat))]) 0 rfl rfl)) rfl rfl ?_
        refine d_sd (sd_fa (o' := 0) rfl rfl fo24_0 rfl) rfl rfl ?_
        refine d_sd (sd_ld1 rfl rfl tk22 (at_blk (vs := [(Value.slice tsA ts.length tsC)]) 2 rfl rfl)) rfl rfl ?_
        refine d_sd (sd_move rfl rfl) rfl rfl ?_
        refine d_sd (sd_ia (k := i) rfl rfl rfl (has_at 3 rfl) te22 (by decide) (by omega) (by omega)) rfl rfl ?_
        refine d_sd (sd_fa_rd (k' := ((i * 9) + 8)) rfl rfl (has_at 3 rfl) (Nat.mul_pos (by omega) (by decide)) fo77_5 rfl) rfl rfl ?_
        refine d_sd (sd_ld1 rfl rfl tk3 (at_rd (k := i) (o := 8) (vs := [(Value.int .i64 x.Wall)]) (has_at 3 rfl) hxm rfl (by decide) rfl)) rfl rfl ?_
        refine d_sd (sd_bin rfl rfl rfl b_gtr) rfl rfl ?_
        refine d_end ?_
        refine r_nil ?_
        refine k_then (hK21 _ _ _ ?_)
        refine w_if rfl (fun hhi => ?_) (fun hhi => ?_)
        · -- yes
          replace hhi := of_decide_eq_true hhi
          refine w_region ?_
          refine r_sd (sd_assign rfl rfl) rfl rfl ?_
          refine r_nil ?_
          refine k_block ?_
          refine k_then (hK11 _ _ _ ?_)
          refine w_region ?_
          refine r_sd (sd_move rfl rfl) rfl rfl ?_
          refine r_sd (sd_bin rfl rfl rfl (b_add ⟨by omega, by omega⟩)) rfl rfl ?_
          refine r_sd (sd_assign rfl rfl) rfl rfl ?_
          refine r_nil ?_
          have hb22 : (Value.int .u8 (outAt s ts (i + 1))) = (Value.int .u8 1) := by first | rw [outAt_no (thrB_straight hc)] | rw [outAt_no (thrB_no hx hhi)] | rw [outAt_yes (thrB_yes hx hc hhi)]
          have hb23 : (Value.int .i64 (((i + 1) : Nat) : Int)) = (Value.int .i64 (((i : Nat) : Int) + 1)) := by exact congrArg (Value.int .i64) (by omega)
          refine k_then (hJ7 ⟨(i + 1), ⟨by omega, noThr_succ hl3_1 (by first | exact thrB_straight hc | exact thrB_no hx hlo)⟩⟩ _ _ _ rfl (by first | omega | (simp; omega)) (Sub.cons rfl <| Sub.cons rfl <| sub_val rfl hb22 <| sub_val rfl hb23 <| Sub.nil _) (fun w hs => St.sel [1, 2, 3] rfl rfl hs))
        · -- no
          replace hhi := of_decide_eq_false hhi
          refine w_skip ?_
          refine k_block ?_
          refine k_then (hK11 _ _ _ ?_)
          refine w_region ?_
          refine r_sd (sd_move rfl rfl) rfl rfl ?_
          refine r_sd (sd_bin rfl rfl rfl (b_add ⟨by omega, by omega⟩)) rfl rfl ?_
          refine r_sd (sd_assign rfl rfl) rfl rfl ?_
          refine r_nil ?_
          have hb24 : (Value.int .u8 (outAt s ts (i + 1))) = (Value.int .u8 (outAt s ts i)) := by first | rw [outAt_no (thrB_straight hc)] | rw [outAt_no (thrB_no hx hhi)] | rw [outAt_yes (thrB_yes hx hc hhi)]
          have hb25 : (Value.int .i64 (((i + 1) : Nat) : Int)) = (Value.int .i64 (((i : Nat) : Int) + 1)) := by exact congrArg (Value.int .i64) (by omega)
          refine k_then (hJ7 ⟨(i + 1), ⟨by omega, noThr_succ hl3_1 (by first | exact thrB_straight hc | exact thrB_no hx hlo)⟩⟩ _ _ _ rfl (by first | omega | (simp; omega)) (Sub.cons rfl <| Sub.cons rfl <| sub_val rfl hb24 <| sub_val rfl hb25 <| Sub.nil _) (fun w hs => St.sel [1, 2, 3] rfl rfl hs))
  · -- no
    replace h10 := of_decide_eq_false h10
    refine w_exit ?_
    refine k_exit_then ?_
    refine k_exit_then ?_
    refine k_exit_same ?_
    refine k_then (hK5 _ _ _ ?_)
    refine w_seq fun K26 hK26 => ?_
    refine w_region ?_
    refine r_sd (sd_move rfl rfl) rfl rfl ?_
    refine r_sd (sd_assign rfl rfl) rfl rfl ?_
    refine r_nil ?_
    refine k_then (hK26 _ _ _ ?_)
    refine w_ret ?_
    refine hQ _ _ _ (l_nil (vs := [(Value.int .u8 (outAt s ts i))]) ⟨rfl, trivial⟩ fun w hs => endV ?_ hs)
    show (Value.int .u8 (outAt s ts i)) = (Value.int .u8 (safeF s ts))
    clear hs w hQ hN hK26 K26 hK9 K9 hK8 K8 hK6 K6 hK5 K5 hK4 K4 hK1 K1
    first | exact congrArg (Value.int .u8) (safeF_zero (thr_some (by omega) (thrB_yes hx hc hlo))).symm | exact congrArg (Value.int .u8) (outAt_end (by omega) hl3_1)

set_option maxRecDepth 100000 in
set_option maxHeartbeats 400000 in
theorem rSafe_c (ts : List StretchV) (tsA : Option Addr) (tsC : Nat) (s : SledV) (hlen : ts.length ≤ 1000000) (hside : ∀ x ∈ ts, 0 ≤ x.Side ∧ x.Side ≤ 255) (hc : 0 ≤ s.Class ∧ s.Class ≤ 255) :
    FnV Try.prog 31 [(Value.agg (TrackV.cells (TrackV.mk (Slc.mk tsA ts.length tsC))).toArray), (Value.agg (SledV.cells s).toArray)] [(rd tsA ts.length 9 (ts.map StretchV.cells))] (Value.tuple [(Value.int .u8 (safeV s ts)), (Value.int .i64 (bothE s ts))].toArray) := by
  refine fnV_of go31 Try.func31 rfl rfl fun w0 Q hQ hN => ?_
  change WJ _ _ _ _ [(0, (Value.agg (TrackV.cells (TrackV.mk (Slc.mk tsA ts.length tsC))).toArray)), (1, (Value.agg (SledV.cells s).toArray))] [(rd tsA ts.length 9 (ts.map StretchV.cells)).ro]
  refine w_seq fun K1 hK1 => ?_
  refine w_region ?_
  refine r_box (cs := (TrackV.cells (TrackV.mk (Slc.mk tsA ts.length tsC)))) rfl rfl rfl rfl fun b2 => ?_
  refine r_box (cs := (SledV.cells s)) rfl rfl rfl rfl fun b3 => ?_
  refine r_sd (sd_assign rfl rfl) rfl rfl ?_
  refine r_sd (sd_assign rfl rfl) rfl rfl ?_
  refine r_nil ?_
  refine k_then (hK1 _ _ _ ?_)
  refine w_seq fun K4 hK4 => ?_
  refine w_seq fun K5 hK5 => ?_
  refine w_region ?_
  refine r_sd (sd_ldn rfl rfl tk24 (at_blk (vs := (TrackV.cells (TrackV.mk (Slc.mk tsA ts.length tsC)))) 1 rfl rfl) rfl) rfl rfl ?_
  refine r_sd (sd_ldn rfl rfl tk28 (at_blk (vs := (SledV.cells s)) 0 rfl rfl) rfl) rfl rfl ?_
  refine r_sd (sd_call rfl rfl rfl rfl (both_c ts tsA tsC s (by first | assumption | omega | (simp; done) | (simp; omega)) (by first | assumption | omega | (simp; done) | (simp; omega))) (ha_at 2 rfl rfl <| ha_nil)) rfl rfl ?_
  refine r_sd (sd_assign rfl rfl) rfl rfl ?_
  refine r_nil ?_
  refine k_then (hK5 _ _ _ ?_)
  refine w_seq fun K6 hK6 => ?_
  refine w_region ?_
  refine r_sd (sd_move rfl rfl) rfl rfl ?_
  refine r_sd (sd_bin rfl rfl rfl b_neq) rfl rfl ?_
  refine r_nil ?_
  refine k_then (hK6 _ _ _ ?_)
  refine w_if rfl (fun he => ?_) (fun he => ?_)
  · -- yes
    rw [Bool.not_eq_true'] at he
    replace he := of_decide_eq_false he
    refine w_seq fun K7 hK7 => ?_
    refine w_region ?_
    refine r_sd (sd_move rfl rfl) rfl rfl ?_
    refine r_sd (sd_assign rfl rfl) rfl rfl ?_
    refine r_sd (sd_assign rfl rfl) rfl rfl ?_
    refine r_nil ?_
    refine k_then (hK7 _ _ _ ?_)
    refine w_ret ?_
    refine hQ _ _ _ (l_nil (vs := [(Value.int .u8 0), (Value.int .i64 (bothE s ts))]) ⟨rfl, rfl, trivial⟩ fun w hs => endV ?_ hs)
    show (Value.tuple [(Value.int .u8 0), (Value.int .i64 (bothE s ts))].toArray) = (Value.tuple [(Value.int .u8 (safeV s ts)), (Value.int .i64 (bothE s ts))].toArray)
    clear hs w hQ hN hK7 K7 hK6 K6 hK5 K5 hK4 K4 hK1 K1
    first | rw [safeV_no he] | (rw [safeV_ok he, he] <;> rfl)
  · -- no
    rw [Bool.not_eq_false'] at he
    replace he := of_decide_eq_true he
    refine w_skip ?_
    refine k_then (hK4 _ _ _ ?_)
    refine w_seq fun K8 hK8 => ?_
    refine w_region ?_
    obtain ⟨htr, hs⟩ := bothE_zero he
    have hst := trackOk_all htr
    have hl12 := trackOk_le htr
    refine r_sd (sd_ldn rfl rfl tk24 (at_blk (vs := (TrackV.cells (TrackV.mk (Slc.mk tsA ts.length tsC)))) 1 rfl rfl) rfl) rfl rfl ?_
    refine r_sd (sd_ldn rfl rfl tk28 (at_blk (vs := (SledV.cells s)) 0 rfl rfl) rfl) rfl rfl ?_
    refine r_sd (sd_call rfl rfl rfl rfl (rsafe_c ts tsA tsC s (by first | assumption | omega | (simp; done) | (simp; omega)) (by first | assumption | omega | (simp; done) | (simp; omega)) (by first | assumption | omega | (simp; done) | (simp; omega)) (by first | assumption | omega | (simp; done) | (simp; omega))) (ha_at 2 rfl rfl <| ha_nil)) rfl rfl ?_
    refine r_sd (sd_assign rfl rfl) rfl rfl ?_
    refine r_sd (sd_assign rfl rfl) rfl rfl ?_
    refine r_nil ?_
    refine k_then (hK8 _ _ _ ?_)
    refine w_ret ?_
    refine hQ _ _ _ (l_nil (vs := [(Value.int .u8 (safeF s ts)), (Value.int .i64 0)]) ⟨rfl, rfl, trivial⟩ fun w hs => endV ?_ hs)
    show (Value.tuple [(Value.int .u8 (safeF s ts)), (Value.int .i64 0)].toArray) = (Value.tuple [(Value.int .u8 (safeV s ts)), (Value.int .i64 (bothE s ts))].toArray)
    clear hs w hQ hN hK8 K8 hK6 K6 hK5 K5 hK4 K4 hK1 K1
    first | rw [safeV_no he] | (rw [safeV_ok he, he] <;> rfl)

end Go.Proofs.Ytpbgdeojcefnmaa
