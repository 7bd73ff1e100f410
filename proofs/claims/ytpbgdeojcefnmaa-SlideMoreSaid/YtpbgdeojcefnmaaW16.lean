/-
  Walks: (kreisel/slide.rider).thrown, kreisel/slide.Safe, kreisel/slide.Safe, kreisel/slide.Safe, kreisel/slide.Safe, kreisel/slide.Safe, kreisel/kreiselref03.safe, kreisel/kreiselref03.Safe
-/
import Derived.Test.YtpbgdeojcefnmaaTab
import Derived.Test.YtpbgdeojcefnmaaShort
import Derived.Test.YtpbgdeojcefnmaaThr
import Derived.Test.YtpbgdeojcefnmaaW6
import Derived.Test.YtpbgdeojcefnmaaW9
import Derived.Test.YtpbgdeojcefnmaaW13
import Derived.Test.YtpbgdeojcefnmaaW15
namespace Go.Proofs.Ytpbgdeojcefnmaa
open Go.RowKit
set_option linter.unusedVariables false

set_option maxRecDepth 100000 in
set_option maxHeartbeats 400000 in
theorem thrown_c (s : SledV) (ts : List StretchV) (tsA : Option Addr) (tsC : Nat) (best : Bool) (hs : SledOk s) (hst : ∀ x ∈ ts, StretchOk x) (hlen : ts.length ≤ 12) (hside : ∀ x ∈ ts, 0 ≤ x.Side ∧ x.Side ≤ 255) :
    FnX Try.prog 75 [(Value.agg (RiderV.cells (RiderV.mk s (TrackV.mk (Slc.mk tsA ts.length tsC)) best)).toArray)] [(rd tsA ts.length 9 (ts.map StretchV.cells))] (fun (x : (Option Addr) × Nat) => (Value.slice x.1 ((thr best s ts).length) x.2)) (fun (x : (Option Addr) × Nat) => True) (fun (x : (Option Addr) × Nat) => [(own x.1 x.2 3 1 ((thr best s ts).map iC))]) := by
 refine fnX_of go75 Try.func75 rfl rfl fun w0 Q hQ hN => ?_
 change WJ _ _ _ _ [(0, (Value.agg (RiderV.cells (RiderV.mk s (TrackV.mk (Slc.mk tsA ts.length tsC)) best)).toArray))] [(rd tsA ts.length 9 (ts.map StretchV.cells)).ro]
 refine WS fun _ hK1 => ?_
 refine BXA rfl fun b2 => ?_
 refine rS (AG rfl) ?_
 refine RK hK1 ?_
 refine WS fun _ hK3 => ?_
 refine rS (AG rfl) ?_
 refine RK hK3 ?_
 refine w_seq fun _ hK4 => ?_
 refine WS fun _ hK5 => ?_
 refine rS (LW 0 rfl tk108 rfl rfl) ?_
 refine cX (heights_c s ts tsA tsC best hs hst hlen hside) (ha_at 1 rfl rfl <| ha_nil) rfl fun b8 hy7 => ?_
 change RJ _ _ _ _ _ ((_, (Value.map (some b8))) :: _) ((mp b8 (mapV iV (hgts best s ts ts.length))) :: _)
 refine r_mrange 0 rfl rfl ut120 rfl rfl fun r9 => ?_
 change RJ _ _ _ _ _ ((_, (Value.pointer (some ⟨r9, 0, none⟩))) :: _) [(mi r9 b8 (mapV iV (hgts best s ts ts.length)) (mapV iV (hgts best s ts ts.length)) none), (blk b2 108 (RiderV.cells (RiderV.mk s (TrackV.mk (Slc.mk tsA ts.length tsC)) best))), (rd tsA ts.length 9 (ts.map StretchV.cells)).ro]
 refine RK hK5 ?_
 refine w_block ?_
 refine w_own_nil 3 1 ?_
 have hinit : (∀ p ∈ (hgts best s ts ts.length), p ∈ hgts best s ts ts.length) ∧ ((([] : List Int) ++ ((hgts best s ts ts.length).filter (thrP ts)).map (·.1)).Perm (thr best s ts)) := by exact ⟨fun _ h => h, by rw [List.nil_append, thr_start]⟩
 refine w_loop (ι := { z : (List (Int × Int)) × (List Int) × (Option Addr) × Nat // (∀ p ∈ z.1, p ∈ hgts best s ts ts.length) ∧ ((z.2.1 ++ (z.1.filter (thrP ts)).map (·.1)).Perm (thr best s ts)) }) (fun z => [(1, (Value.pointer (some ⟨b2, 0, none⟩))), (3, (Value.slice z.1.2.2.1 z.1.2.1.length z.1.2.2.2)), (8, (Value.pointer (some ⟨r9, 0, none⟩)))]) (fun z => [(own z.1.2.2.1 z.1.2.2.2 3 1 (z.1.2.1.map iC)), (mi r9 b8 (mapV iV (hgts best s ts ts.length)) (mapV iV z.1.1) none), (blk b2 108 (RiderV.cells (RiderV.mk s (TrackV.mk (Slc.mk tsA ts.length tsC)) best))), (rd tsA ts.length 9 (ts.map StretchV.cells)).ro]) (fun z => z.1.1.length) ⟨((hgts best s ts ts.length), ([] : List Int), none, 0), hinit⟩ (Sub.cons rfl <| Sub.cons rfl <| Sub.cons rfl <| Sub.nil _) (fun w hs => St.sel [0, 1, 2, 3] rfl rfl hs) ?_
 clear hinit
 rintro ⟨⟨left, acc, a, c⟩, ⟨hl3_0, hl3_1⟩⟩ J10 hJ10
 try dsimp only at hl3_0 hl3_1
 change WJ _ _ _ _ [(1, (Value.pointer (some ⟨b2, 0, none⟩))), (3, (Value.slice a acc.length c)), (8, (Value.pointer (some ⟨r9, 0, none⟩)))] [(own a c 3 1 (acc.map iC)), (mi r9 b8 (mapV iV (hgts best s ts ts.length)) (mapV iV left) none), (blk b2 108 (RiderV.cells (RiderV.mk s (TrackV.mk (Slc.mk tsA ts.length tsC)) best))), (rd tsA ts.length 9 (ts.map StretchV.cells)).ro]
 refine WS fun _ hK11 => ?_
 refine r_mnext_v (f := iV) 1 rfl rfl rfl rfl (fun hemp => ?_) (fun x y hm hnd => ?_)
 · refine rS (EX rfl) ?_
   refine RK hK11 ?_
   refine w_seq fun _ hK12 => ?_
   refine w_if_false rfl ?_
   refine w_exit ?_
   refine k_exit_then ?_
   refine k_exit_then ?_
   refine k_exit_same ?_
   refine KK hK4 ?_
   refine WS fun _ hK13 => ?_
   have hpa : acc.Perm (thr best s ts) := by simpa [hemp] using hl3_1
   have hal := hpa.length_eq
   have hth := thr_le (best := best) (s := s) (ts := ts)
   refine rS (MV rfl) ?_
   refine r_callm 0 rfl rfl rfl rfl (sort_c acc a c (by first | assumption | omega | (simp; done) | (simp; omega))) rfl cv_nil rfl (fun mSorted hms => ?_)
   change RJ _ _ _ _ _ ((_, (Value.tuple [].toArray)) :: _) [(own a c 3 1 (mSorted.map iC)), (mi r9 b8 (mapV iV (hgts best s ts ts.length)) (mapV iV left) none), (blk b2 108 (RiderV.cells (RiderV.mk s (TrackV.mk (Slc.mk tsA ts.length tsC)) best))), (rd tsA ts.length 9 (ts.map StretchV.cells)).ro]
   refine RK hK13 ?_
   refine WS fun _ hK15 => ?_
   have hmt : mSorted = thr best s ts := sorted_unique (hms.1.trans hpa) hms.2 thr_sorted
   subst hmt
   skip
   refine rS (MV rfl) ?_
   refine rS (AG rfl) ?_
   refine RK hK15 ?_
   refine w_ret ?_
   refine hQ _ _ _ (l_nil (vs := [(Value.slice a acc.length c)]) ⟨rfl, trivial⟩ fun w hs => endX (a, c) [0] ?_ ?_ rfl rfl rfl hs)
   · rw [hal]; rfl
   · trivial
 change RJ _ _ _ _ _ ((_, (Value.tuple [(Value.bool true), (Value.int .i64 x), (Value.int .i64 y)].toArray)) :: _) [(own a c 3 1 (acc.map iC)), (mi r9 b8 (mapV iV (hgts best s ts ts.length)) (mapV iV (delK left x)) (some (x, (Value.int .i64 y)))), (blk b2 108 (RiderV.cells (RiderV.mk s (TrackV.mk (Slc.mk tsA ts.length tsC)) best))), (rd tsA ts.length 9 (ts.map StretchV.cells)).ro]
 refine rS (EX rfl) ?_
 refine RK hK11 ?_
 refine w_seq fun _ hK16 => ?_
 refine w_if_true rfl ?_
 refine WK hK16 ?_
 refine w_block ?_
 refine WS fun _ hK17 => ?_
 obtain ⟨hx0, hxn, hxc, hyv⟩ := hgts_mem (hl3_0 _ hm)
 have hal := thr_room hl3_1
 refine rS (SX (sd_mentry 1 rfl rfl rfl) rfl rfl) ?_
 refine rS (EX rfl) ?_
 refine rS (EX rfl) ?_
 refine rS (AG rfl) ?_
 refine rS (AG rfl) ?_
 refine RK hK17 ?_
 refine WS fun _ hK18 => ?_
 refine rS (MV rfl) ?_
 refine rS (FA 11 rfl fo108_1 rfl) ?_
 refine rS (FA 11 rfl fo24_0 rfl) ?_
 refine rS (L1 (Value.slice tsA ts.length tsC) 2 rfl tk22 rfl rfl) ?_
 refine rS (MV rfl) ?_
 obtain ⟨z, hz⟩ : ∃ y_, ts[(x).toNat]? = some y_ := ⟨ts[(x).toNat]'(by omega), List.getElem?_eq_getElem _⟩
 have hzm : (ts.map StretchV.cells)[(x).toNat]? = some (StretchV.cells z) := by rw [List.getElem?_map, hz]; rfl
 refine rS (IA ((x).toNat) rfl (has_at 3 rfl) te22 (by decide) (by omega) (by omega)) ?_
 refine rS (FAR ((((x).toNat) * 9) + 8) rfl (has_at 3 rfl) (Nat.mul_pos (by omega) (by decide)) fo77_5 rfl) ?_
 refine rS (LE1 ((x).toNat) 8 (Value.int .i64 z.Wall) rfl tk3 (has_at 3 rfl) hzm rfl (by decide) rfl) ?_
 refine rS (BI rfl b_gtr) ?_
 refine RK hK18 ?_
 refine w_if rfl (fun ht => ?_) (fun ht => ?_)
 rotate_left 1
 · replace ht := DF ht
   refine w_skip ?_
   refine k_block ?_
   refine k_imp (C' := [(own a c 3 1 (acc.map iC)), (mi r9 b8 (mapV iV (hgts best s ts ts.length)) (mapV iV (delK left x)) none), (blk b2 108 (RiderV.cells (RiderV.mk s (TrackV.mk (Slc.mk tsA ts.length tsC)) best))), (rd tsA ts.length 9 (ts.map StretchV.cells)).ro]) 1 rfl mi_none rfl ?_
   refine k_then (hJ10 ⟨((delK left x), acc, a, c), ⟨fun p hp => hl3_0 p (mem_delK.1 hp).1, by first | exact thr_yes hl3_1 hm hnd (by rw [wallAt_at hz]; exact ht) | exact thr_not hl3_1 hm hnd (by rw [wallAt_at hz]; exact ht)⟩⟩ _ _ _ rfl (delK_lt hm) (Sub.cons rfl <| Sub.cons rfl <| Sub.cons rfl <| Sub.nil _) (fun w hs => St.sel [0, 1, 2, 3] rfl rfl hs))
 replace ht := DT ht
 refine w_region ?_
 refine rS (MV rfl) ?_
 refine rS (MV rfl) ?_
 refine r_bs (xs := [.tmp 24]) (cs := [(Value.int .i64 x)]) rfl te61 tz3 rfl rfl rfl rfl (by simp [Value.cells]) rfl rfl fun b19 => ?_
 refine r_append (es2 := (List.map iC (acc ++ ([x])))) (m' := (acc ++ ([x])).length) 1 rfl rfl rfl ta61 rfl rfl (by simp) (has_rd_blk (es := List.map iC [x]) 0 rfl rfl (by simp [iC_length]) rfl) (one_iC _) (by first | omega | (simp; omega)) (by first | (simp only [maxLen]; omega) | (simp [maxLen]; omega)) (by simp) (by simp) rfl fun a20 c21 => ?_
 change RJ _ _ _ _ _ _ [_, (own a20 c21 3 1 (List.map iC (acc ++ ([x])))), _, _, _]
 refine rS (AG rfl) ?_
 refine r_nil ?_
 refine k_block ?_
 refine k_imp (C' := [(blk b19 3 [(Value.int .i64 x)]), (own a20 c21 3 1 (List.map iC (acc ++ ([x])))), (mi r9 b8 (mapV iV (hgts best s ts ts.length)) (mapV iV (delK left x)) none), (blk b2 108 (RiderV.cells (RiderV.mk s (TrackV.mk (Slc.mk tsA ts.length tsC)) best))), (rd tsA ts.length 9 (ts.map StretchV.cells)).ro]) 2 rfl mi_none rfl ?_
 refine k_then (hJ10 ⟨((delK left x), (acc ++ ([x])), a20, c21), ⟨fun p hp => hl3_0 p (mem_delK.1 hp).1, by first | exact thr_yes hl3_1 hm hnd (by rw [wallAt_at hz]; exact ht) | exact thr_not hl3_1 hm hnd (by rw [wallAt_at hz]; exact ht)⟩⟩ _ _ _ rfl (delK_lt hm) (Sub.cons rfl <| Sub.cons rfl <| Sub.cons rfl <| Sub.nil _) (fun w hs => St.sel [1, 2, 3, 4] rfl rfl hs))

set_option maxRecDepth 100000 in
set_option maxHeartbeats 400000 in
theorem safe_bad (ts : List StretchV) (tsA : Option Addr) (tsC : Nat) (s : SledV) (hlen : ts.length ≤ 1000000) (hside : ∀ x ∈ ts, 0 ≤ x.Side ∧ x.Side ≤ 255) (htr : trackOk ts = false) :
    FnV Try.prog 30 [(Value.agg (TrackV.cells (TrackV.mk (Slc.mk tsA ts.length tsC))).toArray), (Value.agg (SledV.cells s).toArray)] [(rd tsA ts.length 9 (ts.map StretchV.cells))] (Value.tuple [(Value.int .u8 (safeV s ts)), (Value.int .i64 (bothE s ts))].toArray) := by
 have hb0 : ¬ bothE s ts = 0 := by rw [bothE_bad htr]; decide
 refine fnV_of go30 Try.func30 rfl rfl fun w0 Q hQ hN => ?_
 change WJ _ _ _ _ [(0, (Value.agg (TrackV.cells (TrackV.mk (Slc.mk tsA ts.length tsC))).toArray)), (1, (Value.agg (SledV.cells s).toArray))] [(rd tsA ts.length 9 (ts.map StretchV.cells)).ro]
 refine WS fun _ hK1 => ?_
 refine BXA rfl fun b2 => ?_
 refine BXA rfl fun b3 => ?_
 refine rS (AG rfl) ?_
 refine rS (AG rfl) ?_
 refine RK hK1 ?_
 refine WS fun _ hK4 => ?_
 refine rS (LW 1 rfl tk24 rfl rfl) ?_
 refine rS (LW 0 rfl tk28 rfl rfl) ?_
 refine rS (CL (open_bad ts tsA tsC s hlen hside htr) (ha_at 2 rfl rfl <| ha_nil) rfl) ?_
 refine rS (MV rfl) ?_
 refine rS (EX rfl) ?_
 refine rS (EX rfl) ?_
 refine rS (EX rfl) ?_
 refine AL rfl tz108 fun b5 => ?_
 refine AL rfl tz108 fun b6 => ?_
 refine SW1 rfl ts108 rfl ?_
 refine SW0 rfl ts108 rfl ?_
 refine rS (AG rfl) ?_
 refine RK hK4 ?_
 refine w_seq fun _ hK7 => ?_
 refine w_block ?_
 refine WS fun _ hK8 => ?_
 refine rS (MV rfl) ?_
 refine rS (BI rfl b_neq) ?_
 refine rS (AG rfl) ?_
 refine RK hK8 ?_
 refine w_if rfl (fun he => ?_) (fun he => ?_)
 rotate_left 1
 · replace he := XF he
   exact absurd he hb0
 replace he := XT he
 refine WS fun _ hK9 => ?_
 refine rS (MV rfl) ?_
 refine rS (AG rfl) ?_
 refine rS (AG rfl) ?_
 refine RK hK9 ?_
 refine w_ret ?_
 refine Q2 hQ rfl rfl rfl rfl ?_
 rw [safeV_no hb0]

set_option maxRecDepth 100000 in
set_option maxHeartbeats 400000 in
theorem safe_sled (ts : List StretchV) (tsA : Option Addr) (tsC : Nat) (s : SledV) (hlen : ts.length ≤ 1000000) (hside : ∀ x ∈ ts, 0 ≤ x.Side ∧ x.Side ≤ 255) (htr : trackOk ts = true) (hns : ¬ SledOk s) :
    FnV Try.prog 30 [(Value.agg (TrackV.cells (TrackV.mk (Slc.mk tsA ts.length tsC))).toArray), (Value.agg (SledV.cells s).toArray)] [(rd tsA ts.length 9 (ts.map StretchV.cells))] (Value.tuple [(Value.int .u8 (safeV s ts)), (Value.int .i64 (bothE s ts))].toArray) := by
 have hb0 : ¬ bothE s ts = 0 := by rw [bothE_sled htr hns]; decide
 refine fnV_of go30 Try.func30 rfl rfl fun w0 Q hQ hN => ?_
 change WJ _ _ _ _ [(0, (Value.agg (TrackV.cells (TrackV.mk (Slc.mk tsA ts.length tsC))).toArray)), (1, (Value.agg (SledV.cells s).toArray))] [(rd tsA ts.length 9 (ts.map StretchV.cells)).ro]
 refine WS fun _ hK1 => ?_
 refine BXA rfl fun b2 => ?_
 refine BXA rfl fun b3 => ?_
 refine rS (AG rfl) ?_
 refine rS (AG rfl) ?_
 refine RK hK1 ?_
 refine WS fun _ hK4 => ?_
 refine rS (LW 1 rfl tk24 rfl rfl) ?_
 refine rS (LW 0 rfl tk28 rfl rfl) ?_
 refine rS (CL (open_ok ts tsA tsC s hlen hside htr) (ha_at 2 rfl rfl <| ha_nil) rfl) ?_
 refine rS (MV rfl) ?_
 refine rS (EX rfl) ?_
 refine rS (EX rfl) ?_
 refine rS (EX rfl) ?_
 refine AL rfl tz108 fun b5 => ?_
 refine AL rfl tz108 fun b6 => ?_
 refine SW1 rfl ts108 rfl ?_
 refine SW0 rfl ts108 rfl ?_
 refine rS (AG rfl) ?_
 refine RK hK4 ?_
 refine w_seq fun _ hK7 => ?_
 refine w_block ?_
 refine WS fun _ hK8 => ?_
 refine rS (MV rfl) ?_
 refine rS (BI rfl b_neq) ?_
 refine rS (AG rfl) ?_
 refine RK hK8 ?_
 refine w_if rfl (fun he => ?_) (fun he => ?_)
 rotate_left 1
 · replace he := XF he
   exact absurd he hb0
 replace he := XT he
 refine WS fun _ hK9 => ?_
 refine rS (MV rfl) ?_
 refine rS (AG rfl) ?_
 refine rS (AG rfl) ?_
 refine RK hK9 ?_
 refine w_ret ?_
 refine Q2 hQ rfl rfl rfl rfl ?_
 rw [safeV_no hb0]

set_option maxRecDepth 100000 in
set_option maxHeartbeats 400000 in
theorem safe_ok (ts : List StretchV) (tsA : Option Addr) (tsC : Nat) (s : SledV) (hlen : ts.length ≤ 1000000) (hside : ∀ x ∈ ts, 0 ≤ x.Side ∧ x.Side ≤ 255) (htr : trackOk ts = true) (hs : SledOk s) :
    FnV Try.prog 30 [(Value.agg (TrackV.cells (TrackV.mk (Slc.mk tsA ts.length tsC))).toArray), (Value.agg (SledV.cells s).toArray)] [(rd tsA ts.length 9 (ts.map StretchV.cells))] (Value.tuple [(Value.int .u8 (safeV s ts)), (Value.int .i64 (bothE s ts))].toArray) := by
 have hb0 := bothE_ok htr hs
 have hst := trackOk_all htr
 have hl12 := trackOk_le htr
 have hl1 := trackOk_pos htr
 refine fnV_of go30 Try.func30 rfl rfl fun w0 Q hQ hN => ?_
 change WJ _ _ _ _ [(0, (Value.agg (TrackV.cells (TrackV.mk (Slc.mk tsA ts.length tsC))).toArray)), (1, (Value.agg (SledV.cells s).toArray))] [(rd tsA ts.length 9 (ts.map StretchV.cells)).ro]
 refine WS fun _ hK1 => ?_
 refine BXA rfl fun b2 => ?_
 refine BXA rfl fun b3 => ?_
 refine rS (AG rfl) ?_
 refine rS (AG rfl) ?_
 refine RK hK1 ?_
 refine WS fun _ hK4 => ?_
 refine rS (LW 1 rfl tk24 rfl rfl) ?_
 refine rS (LW 0 rfl tk28 rfl rfl) ?_
 refine rS (CL (open_ok ts tsA tsC s hlen hside htr) (ha_at 2 rfl rfl <| ha_nil) rfl) ?_
 refine rS (MV rfl) ?_
 refine rS (EX rfl) ?_
 refine rS (EX rfl) ?_
 refine rS (EX rfl) ?_
 refine AL rfl tz108 fun b5 => ?_
 refine AL rfl tz108 fun b6 => ?_
 refine SW1 rfl ts108 rfl ?_
 refine SW0 rfl ts108 rfl ?_
 refine rS (AG rfl) ?_
 refine RK hK4 ?_
 refine w_seq fun _ hK7 => ?_
 refine w_block ?_
 refine WS fun _ hK8 => ?_
 refine rS (MV rfl) ?_
 refine rS (BI rfl b_neq) ?_
 refine rS (AG rfl) ?_
 refine RK hK8 ?_
 refine w_if rfl (fun he => ?_) (fun he => ?_)
 · replace he := XT he
   exact absurd hb0 he
 replace he := XF he
 refine WS fun _ hK9 => ?_
 refine rS (LW 1 rfl tk108 rfl rfl) ?_
 refine cX (thrown_c s ts tsA tsC false hs (by first | assumption | omega | (simp; done) | (simp; omega)) (by first | assumption | omega | (simp; done) | (simp; omega)) hside) (ha_at 4 rfl rfl <| ha_nil) rfl fun y10 hy11 => ?_
 obtain ⟨a12, c13⟩ := y10
 change RJ _ _ _ _ _ ((_, (Value.slice a12 ((thr false s ts).length) c13)) :: _) ((own a12 c13 3 1 ((thr false s ts).map iC)) :: _)
 refine rS (LN rfl ut61) ?_
 refine rS (BI rfl b_gtr) ?_
 refine rS (AG rfl) ?_
 refine RK hK9 ?_
 refine w_if rfl (fun h1 => ?_) (fun h1 => ?_)
 · replace h1 := DT h1
   refine WS fun _ hK14 => ?_
   refine rS (AG rfl) ?_
   refine rS (AG rfl) ?_
   refine RK hK14 ?_
   refine w_ret ?_
   refine Q2 hQ rfl rfl rfl rfl ?_
   first | (rw [safeV_ok hb0, hb0, safeF_zero (len_ne h1)] <;> rfl) | (rw [safeV_ok hb0, hb0, safeF_one (len_eq h1) (len_ne h2)] <;> rfl) | (rw [safeV_ok hb0, hb0, safeF_two (len_eq h1) (len_eq h2)] <;> rfl)
 replace h1 := DF h1
 refine WS fun _ hK15 => ?_
 refine rS (LW 1 rfl tk108 rfl rfl) ?_
 refine cX (thrown_c s ts tsA tsC true hs (by first | assumption | omega | (simp; done) | (simp; omega)) (by first | assumption | omega | (simp; done) | (simp; omega)) hside) (ha_at 5 rfl rfl <| ha_nil) rfl fun y16 hy17 => ?_
 obtain ⟨a18, c19⟩ := y16
 change RJ _ _ _ _ _ ((_, (Value.slice a18 ((thr true s ts).length) c19)) :: _) ((own a18 c19 3 1 ((thr true s ts).map iC)) :: _)
 refine rS (LN rfl ut61) ?_
 refine rS (BI rfl b_gtr) ?_
 refine rS (AG rfl) ?_
 refine RK hK15 ?_
 refine w_if rfl (fun h2 => ?_) (fun h2 => ?_)
 · replace h2 := DT h2
   refine WS fun _ hK20 => ?_
   refine rS (AG rfl) ?_
   refine rS (AG rfl) ?_
   refine RK hK20 ?_
   refine w_ret ?_
   refine Q2 hQ rfl rfl rfl rfl ?_
   first | (rw [safeV_ok hb0, hb0, safeF_zero (len_ne h1)] <;> rfl) | (rw [safeV_ok hb0, hb0, safeF_one (len_eq h1) (len_ne h2)] <;> rfl) | (rw [safeV_ok hb0, hb0, safeF_two (len_eq h1) (len_eq h2)] <;> rfl)
 replace h2 := DF h2
 refine w_skip ?_
 refine k_block ?_
 refine KK hK7 ?_
 refine WS fun _ hK21 => ?_
 refine rS (AG rfl) ?_
 refine rS (AG rfl) ?_
 refine RK hK21 ?_
 refine w_ret ?_
 refine Q2 hQ rfl rfl rfl rfl ?_
 first | (rw [safeV_ok hb0, hb0, safeF_zero (len_ne h1)] <;> rfl) | (rw [safeV_ok hb0, hb0, safeF_one (len_eq h1) (len_ne h2)] <;> rfl) | (rw [safeV_ok hb0, hb0, safeF_two (len_eq h1) (len_eq h2)] <;> rfl)

theorem safe_no_ (ts : List StretchV) (tsA : Option Addr) (tsC : Nat) (s : SledV) (hlen : ts.length ≤ 1000000) (hside : ∀ x ∈ ts, 0 ≤ x.Side ∧ x.Side ≤ 255) (hb : ¬ bothE s ts = 0) :
    FnV Try.prog 30 [(Value.agg (TrackV.cells (TrackV.mk (Slc.mk tsA ts.length tsC))).toArray), (Value.agg (SledV.cells s).toArray)] [(rd tsA ts.length 9 (ts.map StretchV.cells))] (Value.tuple [(Value.int .u8 (safeV s ts)), (Value.int .i64 (bothE s ts))].toArray) := by
  by_cases htr : trackOk ts = true
  · by_cases hs : SledOk s
    · exact absurd (bothE_ok htr hs) hb
    · exact safe_sled ts tsA tsC s hlen hside htr hs
  · exact safe_bad ts tsA tsC s hlen hside (by simpa using htr)

theorem safe_c (ts : List StretchV) (tsA : Option Addr) (tsC : Nat) (s : SledV) (hlen : ts.length ≤ 1000000) (hside : ∀ x ∈ ts, 0 ≤ x.Side ∧ x.Side ≤ 255) :
    FnV Try.prog 30 [(Value.agg (TrackV.cells (TrackV.mk (Slc.mk tsA ts.length tsC))).toArray), (Value.agg (SledV.cells s).toArray)] [(rd tsA ts.length 9 (ts.map StretchV.cells))] (Value.tuple [(Value.int .u8 (safeV s ts)), (Value.int .i64 (bothE s ts))].toArray) := by
  by_cases hb : bothE s ts = 0
  · obtain ⟨h1, h2⟩ := bothE_zero hb
    exact safe_ok ts tsA tsC s hlen hside h1 h2
  · exact safe_no_ ts tsA tsC s hlen hside hb

set_option maxRecDepth 100000 in
set_option maxHeartbeats 400000 in
theorem rsafe_c (ts : List StretchV) (tsA : Option Addr) (tsC : Nat) (s : SledV) (hs : SledOk s) (hst : ∀ x ∈ ts, StretchOk x) (hlen : ts.length ≤ 12) (hside : ∀ x ∈ ts, 0 ≤ x.Side ∧ x.Side ≤ 255) :
    FnV Try.prog 76 [(Value.agg (TrackV.cells (TrackV.mk (Slc.mk tsA ts.length tsC))).toArray), (Value.agg (SledV.cells s).toArray)] [(rd tsA ts.length 9 (ts.map StretchV.cells))] (Value.int .u8 (safeF s ts)) := by
 refine fnV_of go76 Try.func76 rfl rfl fun w0 Q hQ hN => ?_
 change WJ _ _ _ _ [(0, (Value.agg (TrackV.cells (TrackV.mk (Slc.mk tsA ts.length tsC))).toArray)), (1, (Value.agg (SledV.cells s).toArray))] [(rd tsA ts.length 9 (ts.map StretchV.cells)).ro]
 refine WS fun _ hK1 => ?_
 refine BXA rfl fun b2 => ?_
 refine BXA rfl fun b3 => ?_
 refine rS (AG rfl) ?_
 refine RK hK1 ?_
 refine WS fun _ hK4 => ?_
 refine rS (AG rfl) ?_
 refine RK hK4 ?_
 refine w_seq fun _ hK5 => ?_
 refine WS fun _ hK6 => ?_
 refine rS (AG rfl) ?_
 refine RK hK6 ?_
 refine w_block ?_
 have hinit : (0 ≤ ts.length) ∧ (noThr false s ts 0) := by exact ⟨Nat.zero_le _, noThr_zero⟩
 refine w_loop (ι := { z : Nat // (z ≤ ts.length) ∧ (noThr false s ts z) }) (fun z => [(2, (Value.pointer (some ⟨b2, 0, none⟩))), (3, (Value.pointer (some ⟨b3, 0, none⟩))), (5, (Value.int .u8 (outAt s ts z.1))), (6, (Value.int .i64 ((z.1 : Nat) : Int)))]) (fun z => [(blk b3 28 (SledV.cells s)), (blk b2 24 (TrackV.cells (TrackV.mk (Slc.mk tsA ts.length tsC)))), (rd tsA ts.length 9 (ts.map StretchV.cells)).ro]) (fun z => ts.length - z.1) ⟨0, hinit⟩ (Sub.cons rfl <| Sub.cons rfl <| Sub.cons rfl <| Sub.cons rfl <| Sub.nil _) (fun w hs => St.sel [0, 1, 2] rfl rfl hs) ?_
 clear hinit
 rintro ⟨i, ⟨hl3_0, hl3_1⟩⟩ J7 hJ7
 change WJ _ _ _ _ [(2, (Value.pointer (some ⟨b2, 0, none⟩))), (3, (Value.pointer (some ⟨b3, 0, none⟩))), (5, (Value.int .u8 (outAt s ts i))), (6, (Value.int .i64 ((i : Nat) : Int)))] [(blk b3 28 (SledV.cells s)), (blk b2 24 (TrackV.cells (TrackV.mk (Slc.mk tsA ts.length tsC)))), (rd tsA ts.length 9 (ts.map StretchV.cells)).ro]
 refine w_seq fun _ hK8 => ?_
 refine WS fun _ hK9 => ?_
 refine rS (MV rfl) ?_
 refine rS (FA 0 rfl fo24_0 rfl) ?_
 refine rS (L1 (Value.slice tsA ts.length tsC) 1 rfl tk22 rfl rfl) ?_
 refine rS (LN rfl ut22) ?_
 refine rS (BI rfl b_lss) ?_
 refine RK hK9 ?_
 refine w_if rfl (fun h10 => ?_) (fun h10 => ?_)
 rotate_left 1
 · replace h10 := DF h10
   refine w_exit ?_
   refine k_exit_then ?_
   refine k_exit_then ?_
   refine k_exit_same ?_
   refine KK hK5 ?_
   refine WS fun _ hK26 => ?_
   refine rS (MV rfl) ?_
   refine rS (AG rfl) ?_
   refine RK hK26 ?_
   refine w_ret ?_
   refine Q1 hQ rfl rfl rfl ?_
   first | exact congrArg (Value.int .u8) (safeF_zero (thr_some (by omega) (thrB_yes hx hc hlo))).symm | exact congrArg (Value.int .u8) (outAt_end (by omega) hl3_1)
 replace h10 := DT h10
 refine WK hK8 ?_
 refine w_seq fun _ hK11 => ?_
 refine w_block ?_
 refine w_seq fun _ hK12 => ?_
 refine WS fun _ hK13 => ?_
 refine rS (LW 1 rfl tk24 rfl rfl) ?_
 refine rS (MV rfl) ?_
 refine rS (CL (curve_c ts tsA tsC ((i : Nat) : Int) (by first | assumption | omega | (simp; done) | (simp; omega)) hside) (ha_at 2 rfl rfl <| ha_nil) rfl) ?_
 refine rS (NT rfl) ?_
 refine RK hK13 ?_
 refine w_if rfl (fun hc => ?_) (fun hc => ?_)
 · rw [Bool.not_eq_true'] at hc
   refine w_exit ?_
   refine k_exit_then ?_
   refine k_exit_same ?_
   refine KK hK11 ?_
   refine w_region ?_
   refine rS (MV rfl) ?_
   refine rS (BI rfl (b_add ⟨by omega, by omega⟩)) ?_
   refine rS (AG rfl) ?_
   refine r_nil ?_
   have hb14 : (Value.int .u8 (outAt s ts (i + 1))) = (Value.int .u8 (outAt s ts i)) := by first | rw [outAt_no (thrB_straight hc)] | rw [outAt_no (thrB_no hx hhi)] | rw [outAt_yes (thrB_yes hx hc hhi)]
   have hb15 : (Value.int .i64 (((i + 1) : Nat) : Int)) = (Value.int .i64 (((i : Nat) : Int) + 1)) := by exact congrArg (Value.int .i64) (by omega)
   refine k_then (hJ7 ⟨(i + 1), ⟨by omega, noThr_succ hl3_1 (by first | exact thrB_straight hc | exact thrB_no hx hlo)⟩⟩ _ _ _ rfl (by first | omega | (simp; omega)) (Sub.cons rfl <| Sub.cons rfl <| sub_val rfl hb14 <| sub_val rfl hb15 <| Sub.nil _) (fun w hs => St.sel [0, 1, 2] rfl rfl hs))
 rw [Bool.not_eq_false'] at hc
 refine WK hK12 ?_
 refine WS fun _ hK16 => ?_
 refine rS (LW 1 rfl tk24 rfl rfl) ?_
 refine rS (LW 0 rfl tk28 rfl rfl) ?_
 refine rS (MV rfl) ?_
 refine rS (CL (rheight_c ts tsA tsC s ((i : Nat) : Int) hs hst hlen (by first | assumption | omega | (simp; done) | (simp; omega))) (ha_at 2 rfl rfl <| ha_nil) rfl) ?_
 refine AL rfl tz26 fun b17 => ?_
 refine SW0 rfl ts26 rfl ?_
 refine RK hK16 ?_
 refine w_seq fun _ hK18 => ?_
 refine w_seq fun _ hK19 => ?_
 refine w_draw mixed 9 (by kernel_rfl) ?_
 refine dS (FA 0 rfl fo26_0 rfl) ?_
 refine dS (L1 (Value.int .i64 (hgt false s ts ((i : Nat) : Int).toNat)) 0 rfl tk3 rfl rfl) ?_
 refine dS (FA 0 rfl fo24_0 rfl) ?_
 refine dS (L1 (Value.slice tsA ts.length tsC) 2 rfl tk22 rfl rfl) ?_
 refine dS (MV rfl) ?_
 obtain ⟨x, hx⟩ : ∃ y_, ts[i]? = some y_ := ⟨ts[i]'(by omega), List.getElem?_eq_getElem _⟩
 have hxm : (ts.map StretchV.cells)[i]? = some (StretchV.cells x) := by rw [List.getElem?_map, hx]; rfl
 refine dS (IA i rfl (has_at 3 rfl) te22 (by decide) (by omega) (by omega)) ?_
 refine dS (FAR ((i * 9) + 8) rfl (has_at 3 rfl) (Nat.mul_pos (by omega) (by decide)) fo77_5 rfl) ?_
 refine dS (LE1 i 8 (Value.int .i64 x.Wall) rfl tk3 (has_at 3 rfl) hxm rfl (by decide) rfl) ?_
 refine dS (BI rfl b_gtr) ?_
 refine d_end ?_
 refine RK hK19 ?_
 refine w_if rfl (fun hlo => ?_) (fun hlo => ?_)
 · replace hlo := DT hlo
   refine WS fun _ hK20 => ?_
   refine rS (AG rfl) ?_
   refine RK hK20 ?_
   refine w_ret ?_
   refine Q1 hQ rfl rfl rfl ?_
   first | exact congrArg (Value.int .u8) (safeF_zero (thr_some (by omega) (thrB_yes hx hc hlo))).symm | exact congrArg (Value.int .u8) (outAt_end (by omega) hl3_1)
 replace hlo := DF hlo
 refine WK hK18 ?_
 refine w_seq fun _ hK21 => ?_
 refine w_draw mixed 9 (by kernel_rfl) ?_
 refine dS (FA 1 rfl fo26_1 rfl) ?_
 refine dS (L1 (Value.int .i64 (hgt true s ts ((i : Nat) : Int).toNat)) 0 rfl tk3 rfl rfl) ?_
 refine dS (FA 0 rfl fo24_0 rfl) ?_
 refine dS (L1 (Value.slice tsA ts.length tsC) 2 rfl tk22 rfl rfl) ?_
 refine dS (MV rfl) ?_
 refine dS (IA i rfl (has_at 3 rfl) te22 (by decide) (by omega) (by omega)) ?_
 refine dS (FAR ((i * 9) + 8) rfl (has_at 3 rfl) (Nat.mul_pos (by omega) (by decide)) fo77_5 rfl) ?_
 refine dS (LE1 i 8 (Value.int .i64 x.Wall) rfl tk3 (has_at 3 rfl) hxm rfl (by decide) rfl) ?_
 refine dS (BI rfl b_gtr) ?_
 refine d_end ?_
 refine RK hK21 ?_
 refine w_if rfl (fun hhi => ?_) (fun hhi => ?_)
 rotate_left 1
 · replace hhi := DF hhi
   refine w_skip ?_
   refine k_block ?_
   refine KK hK11 ?_
   refine w_region ?_
   refine rS (MV rfl) ?_
   refine rS (BI rfl (b_add ⟨by omega, by omega⟩)) ?_
   refine rS (AG rfl) ?_
   refine r_nil ?_
   have hb24 : (Value.int .u8 (outAt s ts (i + 1))) = (Value.int .u8 (outAt s ts i)) := by first | rw [outAt_no (thrB_straight hc)] | rw [outAt_no (thrB_no hx hhi)] | rw [outAt_yes (thrB_yes hx hc hhi)]
   have hb25 : (Value.int .i64 (((i + 1) : Nat) : Int)) = (Value.int .i64 (((i : Nat) : Int) + 1)) := by exact congrArg (Value.int .i64) (by omega)
   refine k_then (hJ7 ⟨(i + 1), ⟨by omega, noThr_succ hl3_1 (by first | exact thrB_straight hc | exact thrB_no hx hlo)⟩⟩ _ _ _ rfl (by first | omega | (simp; omega)) (Sub.cons rfl <| Sub.cons rfl <| sub_val rfl hb24 <| sub_val rfl hb25 <| Sub.nil _) (fun w hs => St.sel [1, 2, 3] rfl rfl hs))
 replace hhi := DT hhi
 refine w_region ?_
 refine rS (AG rfl) ?_
 refine r_nil ?_
 refine k_block ?_
 refine KK hK11 ?_
 refine w_region ?_
 refine rS (MV rfl) ?_
 refine rS (BI rfl (b_add ⟨by omega, by omega⟩)) ?_
 refine rS (AG rfl) ?_
 refine r_nil ?_
 have hb22 : (Value.int .u8 (outAt s ts (i + 1))) = (Value.int .u8 1) := by first | rw [outAt_no (thrB_straight hc)] | rw [outAt_no (thrB_no hx hhi)] | rw [outAt_yes (thrB_yes hx hc hhi)]
 have hb23 : (Value.int .i64 (((i + 1) : Nat) : Int)) = (Value.int .i64 (((i : Nat) : Int) + 1)) := by exact congrArg (Value.int .i64) (by omega)
 refine k_then (hJ7 ⟨(i + 1), ⟨by omega, noThr_succ hl3_1 (by first | exact thrB_straight hc | exact thrB_no hx hlo)⟩⟩ _ _ _ rfl (by first | omega | (simp; omega)) (Sub.cons rfl <| Sub.cons rfl <| sub_val rfl hb22 <| sub_val rfl hb23 <| Sub.nil _) (fun w hs => St.sel [1, 2, 3] rfl rfl hs))

set_option maxRecDepth 100000 in
set_option maxHeartbeats 400000 in
theorem rSafe_c (ts : List StretchV) (tsA : Option Addr) (tsC : Nat) (s : SledV) (hlen : ts.length ≤ 1000000) (hside : ∀ x ∈ ts, 0 ≤ x.Side ∧ x.Side ≤ 255) (hc : 0 ≤ s.Class ∧ s.Class ≤ 255) :
    FnV Try.prog 31 [(Value.agg (TrackV.cells (TrackV.mk (Slc.mk tsA ts.length tsC))).toArray), (Value.agg (SledV.cells s).toArray)] [(rd tsA ts.length 9 (ts.map StretchV.cells))] (Value.tuple [(Value.int .u8 (safeV s ts)), (Value.int .i64 (bothE s ts))].toArray) := by
 refine fnV_of go31 Try.func31 rfl rfl fun w0 Q hQ hN => ?_
 change WJ _ _ _ _ [(0, (Value.agg (TrackV.cells (TrackV.mk (Slc.mk tsA ts.length tsC))).toArray)), (1, (Value.agg (SledV.cells s).toArray))] [(rd tsA ts.length 9 (ts.map StretchV.cells)).ro]
 refine WS fun _ hK1 => ?_
 refine BXA rfl fun b2 => ?_
 refine BXA rfl fun b3 => ?_
 refine rS (AG rfl) ?_
 refine rS (AG rfl) ?_
 refine RK hK1 ?_
 refine w_seq fun _ hK4 => ?_
 refine WS fun _ hK5 => ?_
 refine rS (LW 1 rfl tk24 rfl rfl) ?_
 refine rS (LW 0 rfl tk28 rfl rfl) ?_
 refine rS (CL (both_c ts tsA tsC s hlen hc) (ha_at 2 rfl rfl <| ha_nil) rfl) ?_
 refine rS (AG rfl) ?_
 refine RK hK5 ?_
 refine WS fun _ hK6 => ?_
 refine rS (MV rfl) ?_
 refine rS (BI rfl b_neq) ?_
 refine RK hK6 ?_
 refine w_if rfl (fun he => ?_) (fun he => ?_)
 · replace he := XT he
   refine WS fun _ hK7 => ?_
   refine rS (MV rfl) ?_
   refine rS (AG rfl) ?_
   refine rS (AG rfl) ?_
   refine RK hK7 ?_
   refine w_ret ?_
   refine Q2 hQ rfl rfl rfl rfl ?_
   first | rw [safeV_no he] | (rw [safeV_ok he, he] <;> rfl)
 replace he := XF he
 refine WK hK4 ?_
 refine WS fun _ hK8 => ?_
 obtain ⟨htr, hs⟩ := bothE_zero he
 have hst := trackOk_all htr
 have hl12 := trackOk_le htr
 refine rS (LW 1 rfl tk24 rfl rfl) ?_
 refine rS (LW 0 rfl tk28 rfl rfl) ?_
 refine rS (CL (rsafe_c ts tsA tsC s (by first | assumption | omega | (simp; done) | (simp; omega)) (by first | assumption | omega | (simp; done) | (simp; omega)) (by first | assumption | omega | (simp; done) | (simp; omega)) hside) (ha_at 2 rfl rfl <| ha_nil) rfl) ?_
 refine rS (AG rfl) ?_
 refine rS (AG rfl) ?_
 refine RK hK8 ?_
 refine w_ret ?_
 refine Q2 hQ rfl rfl rfl rfl ?_
 first | rw [safeV_no he] | (rw [safeV_ok he, he] <;> rfl)

end Go.Proofs.Ytpbgdeojcefnmaa
