/-
  Walks: (kreisel/slide.rider).thrown, kreisel/slide.Safe, kreisel/slide.Safe, kreisel/slide.Safe, kreisel/slide.Safe, kreisel/slide.Safe, kreisel/kreiselref03.safe, kreisel/kreiselref03.Safe, kreisel/slide.Names$1, kreisel/slide.Names, kreisel/slide.Names, kreisel/slide.Names, kreisel/slide.Names, kreisel/slide.Names, kreisel/kreiselref03.Names, kreisel/kreiselref01.SameInts, kreisel/slide.Walls, kreisel/slide.Walls, kreisel/slide.Walls, kreisel/slide.Walls, kreisel/slide.Walls, kreisel/kreiselref03.Walls, kreisel/kreiselref03.Walls, kreisel/kreiselref03.Walls
-/
import Derived.Test.YtpbgdeojcefnmaaTab
import Derived.Test.YtpbgdeojcefnmaaShort
import Derived.Test.YtpbgdeojcefnmaaThr
import Derived.Test.YtpbgdeojcefnmaaMono
import Derived.Test.YtpbgdeojcefnmaaSafe
import Derived.Test.YtpbgdeojcefnmaaW9
import Derived.Test.YtpbgdeojcefnmaaW12
import Derived.Test.YtpbgdeojcefnmaaW15
namespace Go.Proofs.Ytpbgdeojcefnmaa
open Go.RowKit
set_option linter.unusedVariables false

set_option maxRecDepth 100000 in
set_option maxHeartbeats 400000 in
theorem thrown_c (s : SledV) (ts : List StretchV) (tsA : Option Addr) (tsC : Nat) (best : Bool) (hs : SledOk s) (hst : ∀ x ∈ ts, StretchOk x) (hlen : ts.length ≤ 12) (hside : ∀ x ∈ ts, 0 ≤ x.Side ∧ x.Side ≤ 255) :
    FnX Try.prog 75 [(Value.agg (RiderV.cells (RiderV.mk s (TrackV.mk (Slc.mk tsA ts.length tsC)) best)).toArray)] [(rd tsA ts.length 9 (ts.map StretchV.cells))] (fun (x : (Option Addr) × Nat) => (Value.slice x.1 ((thr best s ts).length) x.2)) (fun (x : (Option Addr) × Nat) => True) (fun (x : (Option Addr) × Nat) => [(own x.1 x.2 3 1 ((thr best s ts).map iC))]) := by
 refine fnX_of go75 Try.func75 rfl rfl fun w0 Q hQ hN => ?_
 change WJ _ _ _ _ [(0, (Value.agg (RiderV.cells (RiderV.mk s (TrackV.mk (Slc.mk tsA ts.length tsC)) best)).toArray))] [(rd tsA ts.length 9 (ts.map StretchV.cells)).ro]
 refine WS fun _ hK1 => ?_
 refine BXA rfl fun b2 => ?_
 refine rS (AG rfl) ?_
 refine RK hK1 ?_
 refine WS fun _ hK3 => ?_
 refine rS (AG rfl) ?_
 refine RK hK3 ?_
 refine w_seq fun _ hK4 => ?_
 refine WS fun _ hK5 => ?_
 refine rS (LW 0 rfl tk108 rfl rfl) ?_
 refine cX (heights_c s ts tsA tsC best hs hst hlen hside) (ha_at 1 rfl rfl <| ha_nil) rfl fun b8 hy7 => ?_
 change RJ _ _ _ _ _ ((_, (Value.map (some b8))) :: _) ((mp b8 (mapV iV (hgts best s ts ts.length))) :: _)
 refine r_mrange 0 rfl rfl ut120 rfl rfl fun r9 => ?_
 change RJ _ _ _ _ _ ((_, (Value.pointer (some ⟨r9, 0, none⟩))) :: _) [(mi r9 b8 (mapV iV (hgts best s ts ts.length)) (mapV iV (hgts best s ts ts.length)) none), (blk b2 108 (RiderV.cells (RiderV.mk s (TrackV.mk (Slc.mk tsA ts.length tsC)) best))), (rd tsA ts.length 9 (ts.map StretchV.cells)).ro]
 refine RK hK5 ?_
 refine w_block ?_
 refine w_own_nil 3 1 ?_
 have hinit : (∀ p ∈ (hgts best s ts ts.length), p ∈ hgts best s ts ts.length) ∧ ((([] : List Int) ++ ((hgts best s ts ts.length).filter (thrP ts)).map (·.1)).Perm (thr best s ts)) := by exact ⟨fun _ h => h, by rw [List.nil_append, thr_start]⟩
 refine w_loop (ι := { z : (List (Int × Int)) × (List Int) × (Option Addr) × Nat // (∀ p ∈ z.1, p ∈ hgts best s ts ts.length) ∧ ((z.2.1 ++ (z.1.filter (thrP ts)).map (·.1)).Perm (thr best s ts)) }) (fun z => [(1, (Value.pointer (some ⟨b2, 0, none⟩))), (3, (Value.slice z.1.2.2.1 z.1.2.1.length z.1.2.2.2)), (8, (Value.pointer (some ⟨r9, 0, none⟩)))]) (fun z => [(own z.1.2.2.1 z.1.2.2.2 3 1 (z.1.2.1.map iC)), (mi r9 b8 (mapV iV (hgts best s ts ts.length)) (mapV iV z.1.1) none), (blk b2 108 (RiderV.cells (RiderV.mk s (TrackV.mk (Slc.mk tsA ts.length tsC)) best))), (rd tsA ts.length 9 (ts.map StretchV.cells)).ro]) (fun z => z.1.1.length) ⟨((hgts best s ts ts.length), ([] : List Int), none, 0), hinit⟩ (Sub.cons rfl <| Sub.cons rfl <| Sub.cons rfl <| Sub.nil _) (fun w hs => St.sel [0, 1, 2, 3] rfl rfl hs) ?_
 clear hinit
 rintro ⟨⟨left, acc, a, c⟩, ⟨hl3_0, hl3_1⟩⟩ J10 hJ10
 try dsimp only at hl3_0 hl3_1
 change WJ _ _ _ _ [(1, (Value.pointer (some ⟨b2, 0, none⟩))), (3, (Value.slice a acc.length c)), (8, (Value.pointer (some ⟨r9, 0, none⟩)))] [(own a c 3 1 (acc.map iC)), (mi r9 b8 (mapV iV (hgts best s ts ts.length)) (mapV iV left) none), (blk b2 108 (RiderV.cells (RiderV.mk s (TrackV.mk (Slc.mk tsA ts.length tsC)) best))), (rd tsA ts.length 9 (ts.map StretchV.cells)).ro]
 refine WS fun _ hK11 => ?_
 refine r_mnext_v (f := iV) 1 rfl rfl rfl rfl (fun hemp => ?_) (fun x y hm hnd => ?_)
 · refine rS (EX rfl) ?_
   refine RK hK11 ?_
   refine w_seq fun _ hK12 => ?_
   refine w_if_false rfl ?_
   refine w_exit ?_
   refine k_exit_then ?_
   refine k_exit_then ?_
   refine k_exit_same ?_
   refine KK hK4 ?_
   refine WS fun _ hK13 => ?_
   have hpa : acc.Perm (thr best s ts) := by simpa [hemp] using hl3_1
   have hal := hpa.length_eq
   have hth := thr_le (best := best) (s := s) (ts := ts)
   refine rS (MV rfl) ?_
   refine r_callm 0 rfl rfl rfl rfl (sort_c acc a c (by first | assumption | omega | (simp; done) | (simp; omega))) rfl cv_nil rfl (fun mSorted hms => ?_)
   change RJ _ _ _ _ _ ((_, (Value.tuple [].toArray)) :: _) [(own a c 3 1 (mSorted.map iC)), (mi r9 b8 (mapV iV (hgts best s ts ts.length)) (mapV iV left) none), (blk b2 108 (RiderV.cells (RiderV.mk s (TrackV.mk (Slc.mk tsA ts.length tsC)) best))), (rd tsA ts.length 9 (ts.map StretchV.cells)).ro]
   refine RK hK13 ?_
   refine WS fun _ hK15 => ?_
   have hmt : mSorted = thr best s ts := sorted_unique (hms.1.trans hpa) hms.2 thr_sorted
   subst hmt
   skip
   refine rS (MV rfl) ?_
   refine rS (AG rfl) ?_
   refine RK hK15 ?_
   refine w_ret ?_
   refine hQ _ _ _ (l_nil (vs := [(Value.slice a acc.length c)]) ⟨rfl, trivial⟩ fun w hs => endX (a, c) [0] ?_ ?_ rfl rfl rfl hs)
   · rw [hal]; rfl
   · trivial
 change RJ _ _ _ _ _ ((_, (Value.tuple [(Value.bool true), (Value.int .i64 x), (Value.int .i64 y)].toArray)) :: _) [(own a c 3 1 (acc.map iC)), (mi r9 b8 (mapV iV (hgts best s ts ts.length)) (mapV iV (delK left x)) (some (x, (Value.int .i64 y)))), (blk b2 108 (RiderV.cells (RiderV.mk s (TrackV.mk (Slc.mk tsA ts.length tsC)) best))), (rd tsA ts.length 9 (ts.map StretchV.cells)).ro]
 refine rS (EX rfl) ?_
 refine RK hK11 ?_
 refine w_seq fun _ hK16 => ?_
 refine w_if_true rfl ?_
 refine WK hK16 ?_
 refine w_block ?_
 refine WS fun _ hK17 => ?_
 obtain ⟨hx0, hxn, hxc, hyv⟩ := hgts_mem (hl3_0 _ hm)
 have hal := thr_room hl3_1
 refine rS (SX (sd_mentry 1 rfl rfl rfl) rfl rfl) ?_
 refine rS (EX rfl) ?_
 refine rS (EX rfl) ?_
 refine rS (AG rfl) ?_
 refine rS (AG rfl) ?_
 refine RK hK17 ?_
 refine WS fun _ hK18 => ?_
 refine rS (MV rfl) ?_
 refine rS (FA 11 rfl fo108_1 rfl) ?_
 refine rS (FA 11 rfl fo24_0 rfl) ?_
 refine rS (L1 (Value.slice tsA ts.length tsC) 2 rfl tk22 rfl rfl) ?_
 refine rS (MV rfl) ?_
 obtain ⟨z, hz⟩ : ∃ y_, ts[(x).toNat]? = some y_ := ⟨ts[(x).toNat]'(by omega), List.getElem?_eq_getElem _⟩
 have hzm : (ts.map StretchV.cells)[(x).toNat]? = some (StretchV.cells z) := by rw [List.getElem?_map, hz]; rfl
 refine rS (IA ((x).toNat) rfl (has_at 3 rfl) te22 (by decide) (by omega) (by omega)) ?_
 refine rS (FAR ((((x).toNat) * 9) + 8) rfl (has_at 3 rfl) (Nat.mul_pos (by omega) (by decide)) fo77_5 rfl) ?_
 refine rS (LE1 ((x).toNat) 8 (Value.int .i64 z.Wall) rfl tk3 (has_at 3 rfl) hzm rfl (by decide) rfl) ?_
 refine rS (BI rfl b_gtr) ?_
 refine RK hK18 ?_
 refine w_if rfl (fun ht => ?_) (fun ht => ?_)
 rotate_left 1
 · replace ht := DF ht
   refine w_skip ?_
   refine k_block ?_
   refine k_imp (C' := [(own a c 3 1 (acc.map iC)), (mi r9 b8 (mapV iV (hgts best s ts ts.length)) (mapV iV (delK left x)) none), (blk b2 108 (RiderV.cells (RiderV.mk s (TrackV.mk (Slc.mk tsA ts.length tsC)) best))), (rd tsA ts.length 9 (ts.map StretchV.cells)).ro]) 1 rfl mi_none rfl ?_
   refine k_then (hJ10 ⟨((delK left x), acc, a, c), ⟨fun p hp => hl3_0 p (mem_delK.1 hp).1, by first | exact thr_yes hl3_1 hm hnd (by rw [wallAt_at hz]; exact ht) | exact thr_not hl3_1 hm hnd (by rw [wallAt_at hz]; exact ht)⟩⟩ _ _ _ rfl (delK_lt hm) (Sub.cons rfl <| Sub.cons rfl <| Sub.cons rfl <| Sub.nil _) (fun w hs => St.sel [0, 1, 2, 3] rfl rfl hs))
 replace ht := DT ht
 refine w_region ?_
 refine rS (MV rfl) ?_
 refine rS (MV rfl) ?_
 refine r_bs (xs := [.tmp 24]) (cs := [(Value.int .i64 x)]) rfl te61 tz3 rfl rfl rfl rfl (by simp [Value.cells]) rfl rfl fun b19 => ?_
 refine r_append (es2 := (List.map iC (acc ++ ([x])))) (m' := (acc ++ ([x])).length) 1 rfl rfl rfl ta61 rfl rfl (by simp) (has_rd_blk (es := List.map iC [x]) 0 rfl rfl (by simp [iC_length]) rfl) (one_iC _) (by first | omega | (simp; omega)) (by first | (simp only [maxLen]; omega) | (simp [maxLen]; omega)) (by simp) (by simp) rfl fun a20 c21 => ?_
 change RJ _ _ _ _ _ _ [_, (own a20 c21 3 1 (List.map iC (acc ++ ([x])))), _, _, _]
 refine rS (AG rfl) ?_
 refine r_nil ?_
 refine k_block ?_
 refine k_imp (C' := [(blk b19 3 [(Value.int .i64 x)]), (own a20 c21 3 1 (List.map iC (acc ++ ([x])))), (mi r9 b8 (mapV iV (hgts best s ts ts.length)) (mapV iV (delK left x)) none), (blk b2 108 (RiderV.cells (RiderV.mk s (TrackV.mk (Slc.mk tsA ts.length tsC)) best))), (rd tsA ts.length 9 (ts.map StretchV.cells)).ro]) 2 rfl mi_none rfl ?_
 refine k_then (hJ10 ⟨((delK left x), (acc ++ ([x])), a20, c21), ⟨fun p hp => hl3_0 p (mem_delK.1 hp).1, by first | exact thr_yes hl3_1 hm hnd (by rw [wallAt_at hz]; exact ht) | exact thr_not hl3_1 hm hnd (by rw [wallAt_at hz]; exact ht)⟩⟩ _ _ _ rfl (delK_lt hm) (Sub.cons rfl <| Sub.cons rfl <| Sub.cons rfl <| Sub.nil _) (fun w hs => St.sel [1, 2, 3, 4] rfl rfl hs))

set_option maxRecDepth 100000 in
set_option maxHeartbeats 400000 in
theorem safe_bad (ts : List StretchV) (tsA : Option Addr) (tsC : Nat) (s : SledV) (hlen : ts.length ≤ 1000000) (hside : ∀ x ∈ ts, 0 ≤ x.Side ∧ x.Side ≤ 255) (htr : trackOk ts = false) :
    FnV Try.prog 30 [(Value.agg (TrackV.cells (TrackV.mk (Slc.mk tsA ts.length tsC))).toArray), (Value.agg (SledV.cells s).toArray)] [(rd tsA ts.length 9 (ts.map StretchV.cells))] (Value.tuple [(Value.int .u8 (safeV s ts)), (Value.int .i64 (bothE s ts))].toArray) := by
 have hb0 : ¬ bothE s ts = 0 := by rw [bothE_bad htr]; decide
 refine fnV_of go30 Try.func30 rfl rfl fun w0 Q hQ hN => ?_
 change WJ _ _ _ _ [(0, (Value.agg (TrackV.cells (TrackV.mk (Slc.mk tsA ts.length tsC))).toArray)), (1, (Value.agg (SledV.cells s).toArray))] [(rd tsA ts.length 9 (ts.map StretchV.cells)).ro]
 refine WS fun _ hK1 => ?_
 refine BXA rfl fun b2 => ?_
 refine BXA rfl fun b3 => ?_
 refine rS (AG rfl) ?_
 refine rS (AG rfl) ?_
 refine RK hK1 ?_
 refine WS fun _ hK4 => ?_
 refine rS (LW 1 rfl tk24 rfl rfl) ?_
 refine rS (LW 0 rfl tk28 rfl rfl) ?_
 refine rS (CL (open_bad ts tsA tsC s hlen hside htr) (ha_at 2 rfl rfl <| ha_nil) rfl) ?_
 refine rS (MV rfl) ?_
 refine rS (EX rfl) ?_
 refine rS (EX rfl) ?_
 refine rS (EX rfl) ?_
 refine AL rfl tz108 fun b5 => ?_
 refine AL rfl tz108 fun b6 => ?_
 refine SW1 rfl ts108 rfl ?_
 refine SW0 rfl ts108 rfl ?_
 refine rS (AG rfl) ?_
 refine RK hK4 ?_
 refine w_seq fun _ hK7 => ?_
 refine w_block ?_
 refine WS fun _ hK8 => ?_
 refine rS (MV rfl) ?_
 refine rS (BI rfl b_neq) ?_
 refine rS (AG rfl) ?_
 refine RK hK8 ?_
 refine w_if rfl (fun he => ?_) (fun he => ?_)
 rotate_left 1
 · replace he := XF he
   exact absurd he hb0
 replace he := XT he
 refine WS fun _ hK9 => ?_
 refine rS (MV rfl) ?_
 refine rS (AG rfl) ?_
 refine rS (AG rfl) ?_
 refine RK hK9 ?_
 refine w_ret ?_
 refine Q2 hQ rfl rfl rfl rfl ?_
 rw [safeV_no hb0]

set_option maxRecDepth 100000 in
set_option maxHeartbeats 400000 in
theorem safe_sled (ts : List StretchV) (tsA : Option Addr) (tsC : Nat) (s : SledV) (hlen : ts.length ≤ 1000000) (hside : ∀ x ∈ ts, 0 ≤ x.Side ∧ x.Side ≤ 255) (htr : trackOk ts = true) (hns : ¬ SledOk s) :
    FnV Try.prog 30 [(Value.agg (TrackV.cells (TrackV.mk (Slc.mk tsA ts.length tsC))).toArray), (Value.agg (SledV.cells s).toArray)] [(rd tsA ts.length 9 (ts.map StretchV.cells))] (Value.tuple [(Value.int .u8 (safeV s ts)), (Value.int .i64 (bothE s ts))].toArray) := by
 have hb0 : ¬ bothE s ts = 0 := by rw [bothE_sled htr hns]; decide
 refine fnV_of go30 Try.func30 rfl rfl fun w0 Q hQ hN => ?_
 change WJ _ _ _ _ [(0, (Value.agg (TrackV.cells (TrackV.mk (Slc.mk tsA ts.length tsC))).toArray)), (1, (Value.agg (SledV.cells s).toArray))] [(rd tsA ts.length 9 (ts.map StretchV.cells)).ro]
 refine WS fun _ hK1 => ?_
 refine BXA rfl fun b2 => ?_
 refine BXA rfl fun b3 => ?_
 refine rS (AG rfl) ?_
 refine rS (AG rfl) ?_
 refine RK hK1 ?_
 refine WS fun _ hK4 => ?_
 refine rS (LW 1 rfl tk24 rfl rfl) ?_
 refine rS (LW 0 rfl tk28 rfl rfl) ?_
 refine rS (CL (open_ok ts tsA tsC s hlen hside htr) (ha_at 2 rfl rfl <| ha_nil) rfl) ?_
 refine rS (MV rfl) ?_
 refine rS (EX rfl) ?_
 refine rS (EX rfl) ?_
 refine rS (EX rfl) ?_
 refine AL rfl tz108 fun b5 => ?_
 refine AL rfl tz108 fun b6 => ?_
 refine SW1 rfl ts108 rfl ?_
 refine SW0 rfl ts108 rfl ?_
 refine rS (AG rfl) ?_
 refine RK hK4 ?_
 refine w_seq fun _ hK7 => ?_
 refine w_block ?_
 refine WS fun _ hK8 => ?_
 refine rS (MV rfl) ?_
 refine rS (BI rfl b_neq) ?_
 refine rS (AG rfl) ?_
 refine RK hK8 ?_
 refine w_if rfl (fun he => ?_) (fun he => ?_)
 rotate_left 1
 · replace he := XF he
   exact absurd he hb0
 replace he := XT he
 refine WS fun _ hK9 => ?_
 refine rS (MV rfl) ?_
 refine rS (AG rfl) ?_
 refine rS (AG rfl) ?_
 refine RK hK9 ?_
 refine w_ret ?_
 refine Q2 hQ rfl rfl rfl rfl ?_
 rw [safeV_no hb0]

set_option maxRecDepth 100000 in
set_option maxHeartbeats 400000 in
theorem safe_ok (ts : List StretchV) (tsA : Option Addr) (tsC : Nat) (s : SledV) (hlen : ts.length ≤ 1000000) (hside : ∀ x ∈ ts, 0 ≤ x.Side ∧ x.Side ≤ 255) (htr : trackOk ts = true) (hs : SledOk s) :
    FnV Try.prog 30 [(Value.agg (TrackV.cells (TrackV.mk (Slc.mk tsA ts.length tsC))).toArray), (Value.agg (SledV.cells s).toArray)] [(rd tsA ts.length 9 (ts.map StretchV.cells))] (Value.tuple [(Value.int .u8 (safeV s ts)), (Value.int .i64 (bothE s ts))].toArray) := by
 have hb0 := bothE_ok htr hs
 have hst := trackOk_all htr
 have hl12 := trackOk_le htr
 have hl1 := trackOk_pos htr
 refine fnV_of go30 Try.func30 rfl rfl fun w0 Q hQ hN => ?_
 change WJ _ _ _ _ [(0, (Value.agg (TrackV.cells (TrackV.mk (Slc.mk tsA ts.length tsC))).toArray)), (1, (Value.agg (SledV.cells s).toArray))] [(rd tsA ts.length 9 (ts.map StretchV.cells)).ro]
 refine WS fun _ hK1 => ?_
 refine BXA rfl fun b2 => ?_
 refine BXA rfl fun b3 => ?_
 refine rS (AG rfl) ?_
 refine rS (AG rfl) ?_
 refine RK hK1 ?_
 refine WS fun _ hK4 => ?_
 refine rS (LW 1 rfl tk24 rfl rfl) ?_
 refine rS (LW 0 rfl tk28 rfl rfl) ?_
 refine rS (CL (open_ok ts tsA tsC s hlen hside htr) (ha_at 2 rfl rfl <| ha_nil) rfl) ?_
 refine rS (MV rfl) ?_
 refine rS (EX rfl) ?_
 refine rS (EX rfl) ?_
 refine rS (EX rfl) ?_
 refine AL rfl tz108 fun b5 => ?_
 refine AL rfl tz108 fun b6 => ?_
 refine SW1 rfl ts108 rfl ?_
 refine SW0 rfl ts108 rfl ?_
 refine rS (AG rfl) ?_
 refine RK hK4 ?_
 refine w_seq fun _ hK7 => ?_
 refine w_block ?_
 refine WS fun _ hK8 => ?_
 refine rS (MV rfl) ?_
 refine rS (BI rfl b_neq) ?_
 refine rS (AG rfl) ?_
 refine RK hK8 ?_
 refine w_if rfl (fun he => ?_) (fun he => ?_)
 · replace he := XT he
   exact absurd hb0 he
 replace he := XF he
 refine WS fun _ hK9 => ?_
 refine rS (LW 1 rfl tk108 rfl rfl) ?_
 refine cX (thrown_c s ts tsA tsC false hs (by first | assumption | omega | (simp; done) | (simp; omega)) (by first | assumption | omega | (simp; done) | (simp; omega)) hside) (ha_at 4 rfl rfl <| ha_nil) rfl fun y10 hy11 => ?_
 obtain ⟨a12, c13⟩ := y10
 change RJ _ _ _ _ _ ((_, (Value.slice a12 ((thr false s ts).length) c13)) :: _) ((own a12 c13 3 1 ((thr false s ts).map iC)) :: _)
 refine rS (LN rfl ut61) ?_
 refine rS (BI rfl b_gtr) ?_
 refine rS (AG rfl) ?_
 refine RK hK9 ?_
 refine w_if rfl (fun h1 => ?_) (fun h1 => ?_)
 · replace h1 := DT h1
   refine WS fun _ hK14 => ?_
   refine rS (AG rfl) ?_
   refine rS (AG rfl) ?_
   refine RK hK14 ?_
   refine w_ret ?_
   refine Q2 hQ rfl rfl rfl rfl ?_
   first | (rw [safeV_ok hb0, hb0, safeF_zero (len_ne h1)] <;> rfl) | (rw [safeV_ok hb0, hb0, safeF_one (len_eq h1) (len_ne h2)] <;> rfl) | (rw [safeV_ok hb0, hb0, safeF_two (len_eq h1) (len_eq h2)] <;> rfl)
 replace h1 := DF h1
 refine WS fun _ hK15 => ?_
 refine rS (LW 1 rfl tk108 rfl rfl) ?_
 refine cX (thrown_c s ts tsA tsC true hs (by first | assumption | omega | (simp; done) | (simp; omega)) (by first | assumption | omega | (simp; done) | (simp; omega)) hside) (ha_at 5 rfl rfl <| ha_nil) rfl fun y16 hy17 => ?_
 obtain ⟨a18, c19⟩ := y16
 change RJ _ _ _ _ _ ((_, (Value.slice a18 ((thr true s ts).length) c19)) :: _) ((own a18 c19 3 1 ((thr true s ts).map iC)) :: _)
 refine rS (LN rfl ut61) ?_
 refine rS (BI rfl b_gtr) ?_
 refine rS (AG rfl) ?_
 refine RK hK15 ?_
 refine w_if rfl (fun h2 => ?_) (fun h2 => ?_)
 · replace h2 := DT h2
   refine WS fun _ hK20 => ?_
   refine rS (AG rfl) ?_
   refine rS (AG rfl) ?_
   refine RK hK20 ?_
   refine w_ret ?_
   refine Q2 hQ rfl rfl rfl rfl ?_
   first | (rw [safeV_ok hb0, hb0, safeF_zero (len_ne h1)] <;> rfl) | (rw [safeV_ok hb0, hb0, safeF_one (len_eq h1) (len_ne h2)] <;> rfl) | (rw [safeV_ok hb0, hb0, safeF_two (len_eq h1) (len_eq h2)] <;> rfl)
 replace h2 := DF h2
 refine w_skip ?_
 refine k_block ?_
 refine KK hK7 ?_
 refine WS fun _ hK21 => ?_
 refine rS (AG rfl) ?_
 refine rS (AG rfl) ?_
 refine RK hK21 ?_
 refine w_ret ?_
 refine Q2 hQ rfl rfl rfl rfl ?_
 first | (rw [safeV_ok hb0, hb0, safeF_zero (len_ne h1)] <;> rfl) | (rw [safeV_ok hb0, hb0, safeF_one (len_eq h1) (len_ne h2)] <;> rfl) | (rw [safeV_ok hb0, hb0, safeF_two (len_eq h1) (len_eq h2)] <;> rfl)

theorem safe_no_ (ts : List StretchV) (tsA : Option Addr) (tsC : Nat) (s : SledV) (hlen : ts.length ≤ 1000000) (hside : ∀ x ∈ ts, 0 ≤ x.Side ∧ x.Side ≤ 255) (hb : ¬ bothE s ts = 0) :
    FnV Try.prog 30 [(Value.agg (TrackV.cells (TrackV.mk (Slc.mk tsA ts.length tsC))).toArray), (Value.agg (SledV.cells s).toArray)] [(rd tsA ts.length 9 (ts.map StretchV.cells))] (Value.tuple [(Value.int .u8 (safeV s ts)), (Value.int .i64 (bothE s ts))].toArray) := by
  by_cases htr : trackOk ts = true
  · by_cases hs : SledOk s
    · exact absurd (bothE_ok htr hs) hb
    · exact safe_sled ts tsA tsC s hlen hside htr hs
  · exact safe_bad ts tsA tsC s hlen hside (by simpa using htr)

theorem safe_c (ts : List StretchV) (tsA : Option Addr) (tsC : Nat) (s : SledV) (hlen : ts.length ≤ 1000000) (hside : ∀ x ∈ ts, 0 ≤ x.Side ∧ x.Side ≤ 255) :
    FnV Try.prog 30 [(Value.agg (TrackV.cells (TrackV.mk (Slc.mk tsA ts.length tsC))).toArray), (Value.agg (SledV.cells s).toArray)] [(rd tsA ts.length 9 (ts.map StretchV.cells))] (Value.tuple [(Value.int .u8 (safeV s ts)), (Value.int .i64 (bothE s ts))].toArray) := by
  by_cases hb : bothE s ts = 0
  · obtain ⟨h1, h2⟩ := bothE_zero hb
    exact safe_ok ts tsA tsC s hlen hside h1 h2
  · exact safe_no_ ts tsA tsC s hlen hside hb

set_option maxRecDepth 100000 in
set_option maxHeartbeats 400000 in
theorem rsafe_c (ts : List StretchV) (tsA : Option Addr) (tsC : Nat) (s : SledV) (hs : SledOk s) (hst : ∀ x ∈ ts, StretchOk x) (hlen : ts.length ≤ 12) (hside : ∀ x ∈ ts, 0 ≤ x.Side ∧ x.Side ≤ 255) :
    FnV Try.prog 76 [(Value.agg (TrackV.cells (TrackV.mk (Slc.mk tsA ts.length tsC))).toArray), (Value.agg (SledV.cells s).toArray)] [(rd tsA ts.length 9 (ts.map StretchV.cells))] (Value.int .u8 (safeF s ts)) := by
 refine fnV_of go76 Try.func76 rfl rfl fun w0 Q hQ hN => ?_
 change WJ _ _ _ _ [(0, (Value.agg (TrackV.cells (TrackV.mk (Slc.mk tsA ts.length tsC))).toArray)), (1, (Value.agg (SledV.cells s).toArray))] [(rd tsA ts.length 9 (ts.map StretchV.cells)).ro]
 refine WS fun _ hK1 => ?_
 refine BXA rfl fun b2 => ?_
 refine BXA rfl fun b3 => ?_
 refine rS (AG rfl) ?_
 refine RK hK1 ?_
 refine WS fun _ hK4 => ?_
 refine rS (AG rfl) ?_
 refine RK hK4 ?_
 refine w_seq fun _ hK5 => ?_
 refine WS fun _ hK6 => ?_
 refine rS (AG rfl) ?_
 refine RK hK6 ?_
 refine w_block ?_
 have hinit : (0 ≤ ts.length) ∧ (noThr false s ts 0) := by exact ⟨Nat.zero_le _, noThr_zero⟩
 refine w_loop (ι := { z : Nat // (z ≤ ts.length) ∧ (noThr false s ts z) }) (fun z => [(2, (Value.pointer (some ⟨b2, 0, none⟩))), (3, (Value.pointer (some ⟨b3, 0, none⟩))), (5, (Value.int .u8 (outAt s ts z.1))), (6, (Value.int .i64 ((z.1 : Nat) : Int)))]) (fun z => [(blk b3 28 (SledV.cells s)), (blk b2 24 (TrackV.cells (TrackV.mk (Slc.mk tsA ts.length tsC)))), (rd tsA ts.length 9 (ts.map StretchV.cells)).ro]) (fun z => ts.length - z.1) ⟨0, hinit⟩ (Sub.cons rfl <| Sub.cons rfl <| Sub.cons rfl <| Sub.cons rfl <| Sub.nil _) (fun w hs => St.sel [0, 1, 2] rfl rfl hs) ?_
 clear hinit
 rintro ⟨i, ⟨hl3_0, hl3_1⟩⟩ J7 hJ7
 change WJ _ _ _ _ [(2, (Value.pointer (some ⟨b2, 0, none⟩))), (3, (Value.pointer (some ⟨b3, 0, none⟩))), (5, (Value.int .u8 (outAt s ts i))), (6, (Value.int .i64 ((i : Nat) : Int)))] [(blk b3 28 (SledV.cells s)), (blk b2 24 (TrackV.cells (TrackV.mk (Slc.mk tsA ts.length tsC)))), (rd tsA ts.length 9 (ts.map StretchV.cells)).ro]
 refine w_seq fun _ hK8 => ?_
 refine WS fun _ hK9 => ?_
 refine rS (MV rfl) ?_
 refine rS (FA 0 rfl fo24_0 rfl) ?_
 refine rS (L1 (Value.slice tsA ts.length tsC) 1 rfl tk22 rfl rfl) ?_
 refine rS (LN rfl ut22) ?_
 refine rS (BI rfl b_lss) ?_
 refine RK hK9 ?_
 refine w_if rfl (fun h10 => ?_) (fun h10 => ?_)
 rotate_left 1
 · replace h10 := DF h10
   refine w_exit ?_
   refine k_exit_then ?_
   refine k_exit_then ?_
   refine k_exit_same ?_
   refine KK hK5 ?_
   refine WS fun _ hK26 => ?_
   refine rS (MV rfl) ?_
   refine rS (AG rfl) ?_
   refine RK hK26 ?_
   refine w_ret ?_
   refine Q1 hQ rfl rfl rfl ?_
   first | exact congrArg (Value.int .u8) (safeF_zero (thr_some (by omega) (thrB_yes hx hc hlo))).symm | exact congrArg (Value.int .u8) (outAt_end (by omega) hl3_1)
 replace h10 := DT h10
 refine WK hK8 ?_
 refine w_seq fun _ hK11 => ?_
 refine w_block ?_
 refine w_seq fun _ hK12 => ?_
 refine WS fun _ hK13 => ?_
 refine rS (LW 1 rfl tk24 rfl rfl) ?_
 refine rS (MV rfl) ?_
 refine rS (CL (curve_c ts tsA tsC ((i : Nat) : Int) (by first | assumption | omega | (simp; done) | (simp; omega)) hside) (ha_at 2 rfl rfl <| ha_nil) rfl) ?_
 refine rS (NT rfl) ?_
 refine RK hK13 ?_
 refine w_if rfl (fun hc => ?_) (fun hc => ?_)
 · rw [Bool.not_eq_true'] at hc
   refine w_exit ?_
   refine k_exit_then ?_
   refine k_exit_same ?_
   refine KK hK11 ?_
   refine w_region ?_
   refine rS (MV rfl) ?_
   refine rS (BI rfl (b_add ⟨by omega, by omega⟩)) ?_
   refine rS (AG rfl) ?_
   refine r_nil ?_
   have hb14 : (Value.int .u8 (outAt s ts (i + 1))) = (Value.int .u8 (outAt s ts i)) := by first | rw [outAt_no (thrB_straight hc)] | rw [outAt_no (thrB_no hx hhi)] | rw [outAt_yes (thrB_yes hx hc hhi)]
   have hb15 : (Value.int .i64 (((i + 1) : Nat) : Int)) = (Value.int .i64 (((i : Nat) : Int) + 1)) := by exact congrArg (Value.int .i64) (by omega)
   refine k_then (hJ7 ⟨(i + 1), ⟨by omega, noThr_succ hl3_1 (by first | exact thrB_straight hc | exact thrB_no hx hlo)⟩⟩ _ _ _ rfl (by first | omega | (simp; omega)) (Sub.cons rfl <| Sub.cons rfl <| sub_val rfl hb14 <| sub_val rfl hb15 <| Sub.nil _) (fun w hs => St.sel [0, 1, 2] rfl rfl hs))
 rw [Bool.not_eq_false'] at hc
 refine WK hK12 ?_
 refine WS fun _ hK16 => ?_
 refine rS (LW 1 rfl tk24 rfl rfl) ?_
 refine rS (LW 0 rfl tk28 rfl rfl) ?_
 refine rS (MV rfl) ?_
 refine rS (CL (rheight_c ts tsA tsC s ((i : Nat) : Int) hs hst hlen (by first | assumption | omega | (simp; done) | (simp; omega))) (ha_at 2 rfl rfl <| ha_nil) rfl) ?_
 refine AL rfl tz26 fun b17 => ?_
 refine SW0 rfl ts26 rfl ?_
 refine RK hK16 ?_
 refine w_seq fun _ hK18 => ?_
 refine w_seq fun _ hK19 => ?_
 refine w_draw mixed 9 (by kernel_rfl) ?_
 refine dS (FA 0 rfl fo26_0 rfl) ?_
 refine dS (L1 (Value.int .i64 (hgt false s ts ((i : Nat) : Int).toNat)) 0 rfl tk3 rfl rfl) ?_
 refine dS (FA 0 rfl fo24_0 rfl) ?_
 refine dS (L1 (Value.slice tsA ts.length tsC) 2 rfl tk22 rfl rfl) ?_
 refine dS (MV rfl) ?_
 obtain ⟨x, hx⟩ : ∃ y_, ts[i]? = some y_ := ⟨ts[i]'(by omega), List.getElem?_eq_getElem _⟩
 have hxm : (ts.map StretchV.cells)[i]? = some (StretchV.cells x) := by rw [List.getElem?_map, hx]; rfl
 refine dS (IA i rfl (has_at 3 rfl) te22 (by decide) (by omega) (by omega)) ?_
 refine dS (FAR ((i * 9) + 8) rfl (has_at 3 rfl) (Nat.mul_pos (by omega) (by decide)) fo77_5 rfl) ?_
 refine dS (LE1 i 8 (Value.int .i64 x.Wall) rfl tk3 (has_at 3 rfl) hxm rfl (by decide) rfl) ?_
 refine dS (BI rfl b_gtr) ?_
 refine d_end ?_
 refine RK hK19 ?_
 refine w_if rfl (fun hlo => ?_) (fun hlo => ?_)
 · replace hlo := DT hlo
   refine WS fun _ hK20 => ?_
   refine rS (AG rfl) ?_
   refine RK hK20 ?_
   refine w_ret ?_
   refine Q1 hQ rfl rfl rfl ?_
   first | exact congrArg (Value.int .u8) (safeF_zero (thr_some (by omega) (thrB_yes hx hc hlo))).symm | exact congrArg (Value.int .u8) (outAt_end (by omega) hl3_1)
 replace hlo := DF hlo
 refine WK hK18 ?_
 refine w_seq fun _ hK21 => ?_
 refine w_draw mixed 9 (by kernel_rfl) ?_
 refine dS (FA 1 rfl fo26_1 rfl) ?_
 refine dS (L1 (Value.int .i64 (hgt true s ts ((i : Nat) : Int).toNat)) 0 rfl tk3 rfl rfl) ?_
 refine dS (FA 0 rfl fo24_0 rfl) ?_
 refine dS (L1 (Value.slice tsA ts.length tsC) 2 rfl tk22 rfl rfl) ?_
 refine dS (MV rfl) ?_
 refine dS (IA i rfl (has_at 3 rfl) te22 (by decide) (by omega) (by omega)) ?_
 refine dS (FAR ((i * 9) + 8) rfl (has_at 3 rfl) (Nat.mul_pos (by omega) (by decide)) fo77_5 rfl) ?_
 refine dS (LE1 i 8 (Value.int .i64 x.Wall) rfl tk3 (has_at 3 rfl) hxm rfl (by decide) rfl) ?_
 refine dS (BI rfl b_gtr) ?_
 refine d_end ?_
 refine RK hK21 ?_
 refine w_if rfl (fun hhi => ?_) (fun hhi => ?_)
 rotate_left 1
 · replace hhi := DF hhi
   refine w_skip ?_
   refine k_block ?_
   refine KK hK11 ?_
   refine w_region ?_
   refine rS (MV rfl) ?_
   refine rS (BI rfl (b_add ⟨by omega, by omega⟩)) ?_
   refine rS (AG rfl) ?_
   refine r_nil ?_
   have hb24 : (Value.int .u8 (outAt s ts (i + 1))) = (Value.int .u8 (outAt s ts i)) := by first | rw [outAt_no (thrB_straight hc)] | rw [outAt_no (thrB_no hx hhi)] | rw [outAt_yes (thrB_yes hx hc hhi)]
   have hb25 : (Value.int .i64 (((i + 1) : Nat) : Int)) = (Value.int .i64 (((i : Nat) : Int) + 1)) := by exact congrArg (Value.int .i64) (by omega)
   refine k_then (hJ7 ⟨(i + 1), ⟨by omega, noThr_succ hl3_1 (by first | exact thrB_straight hc | exact thrB_no hx hlo)⟩⟩ _ _ _ rfl (by first | omega | (simp; omega)) (Sub.cons rfl <| Sub.cons rfl <| sub_val rfl hb24 <| sub_val rfl hb25 <| Sub.nil _) (fun w hs => St.sel [1, 2, 3] rfl rfl hs))
 replace hhi := DT hhi
 refine w_region ?_
 refine rS (AG rfl) ?_
 refine r_nil ?_
 refine k_block ?_
 refine KK hK11 ?_
 refine w_region ?_
 refine rS (MV rfl) ?_
 refine rS (BI rfl (b_add ⟨by omega, by omega⟩)) ?_
 refine rS (AG rfl) ?_
 refine r_nil ?_
 have hb22 : (Value.int .u8 (outAt s ts (i + 1))) = (Value.int .u8 1) := by first | rw [outAt_no (thrB_straight hc)] | rw [outAt_no (thrB_no hx hhi)] | rw [outAt_yes (thrB_yes hx hc hhi)]
 have hb23 : (Value.int .i64 (((i + 1) : Nat) : Int)) = (Value.int .i64 (((i : Nat) : Int) + 1)) := by exact congrArg (Value.int .i64) (by omega)
 refine k_then (hJ7 ⟨(i + 1), ⟨by omega, noThr_succ hl3_1 (by first | exact thrB_straight hc | exact thrB_no hx hlo)⟩⟩ _ _ _ rfl (by first | omega | (simp; omega)) (Sub.cons rfl <| Sub.cons rfl <| sub_val rfl hb22 <| sub_val rfl hb23 <| Sub.nil _) (fun w hs => St.sel [1, 2, 3] rfl rfl hs))

set_option maxRecDepth 100000 in
set_option maxHeartbeats 400000 in
theorem rSafe_c (ts : List StretchV) (tsA : Option Addr) (tsC : Nat) (s : SledV) (hlen : ts.length ≤ 1000000) (hside : ∀ x ∈ ts, 0 ≤ x.Side ∧ x.Side ≤ 255) (hc : 0 ≤ s.Class ∧ s.Class ≤ 255) :
    FnV Try.prog 31 [(Value.agg (TrackV.cells (TrackV.mk (Slc.mk tsA ts.length tsC))).toArray), (Value.agg (SledV.cells s).toArray)] [(rd tsA ts.length 9 (ts.map StretchV.cells))] (Value.tuple [(Value.int .u8 (safeV s ts)), (Value.int .i64 (bothE s ts))].toArray) := by
 refine fnV_of go31 Try.func31 rfl rfl fun w0 Q hQ hN => ?_
 change WJ _ _ _ _ [(0, (Value.agg (TrackV.cells (TrackV.mk (Slc.mk tsA ts.length tsC))).toArray)), (1, (Value.agg (SledV.cells s).toArray))] [(rd tsA ts.length 9 (ts.map StretchV.cells)).ro]
 refine WS fun _ hK1 => ?_
 refine BXA rfl fun b2 => ?_
 refine BXA rfl fun b3 => ?_
 refine rS (AG rfl) ?_
 refine rS (AG rfl) ?_
 refine RK hK1 ?_
 refine w_seq fun _ hK4 => ?_
 refine WS fun _ hK5 => ?_
 refine rS (LW 1 rfl tk24 rfl rfl) ?_
 refine rS (LW 0 rfl tk28 rfl rfl) ?_
 refine rS (CL (both_c ts tsA tsC s hlen hc) (ha_at 2 rfl rfl <| ha_nil) rfl) ?_
 refine rS (AG rfl) ?_
 refine RK hK5 ?_
 refine WS fun _ hK6 => ?_
 refine rS (MV rfl) ?_
 refine rS (BI rfl b_neq) ?_
 refine RK hK6 ?_
 refine w_if rfl (fun he => ?_) (fun he => ?_)
 · replace he := XT he
   refine WS fun _ hK7 => ?_
   refine rS (MV rfl) ?_
   refine rS (AG rfl) ?_
   refine rS (AG rfl) ?_
   refine RK hK7 ?_
   refine w_ret ?_
   refine Q2 hQ rfl rfl rfl rfl ?_
   first | rw [safeV_no he] | (rw [safeV_ok he, he] <;> rfl)
 replace he := XF he
 refine WK hK4 ?_
 refine WS fun _ hK8 => ?_
 obtain ⟨htr, hs⟩ := bothE_zero he
 have hst := trackOk_all htr
 have hl12 := trackOk_le htr
 refine rS (LW 1 rfl tk24 rfl rfl) ?_
 refine rS (LW 0 rfl tk28 rfl rfl) ?_
 refine rS (CL (rsafe_c ts tsA tsC s (by first | assumption | omega | (simp; done) | (simp; omega)) (by first | assumption | omega | (simp; done) | (simp; omega)) (by first | assumption | omega | (simp; done) | (simp; omega)) hside) (ha_at 2 rfl rfl <| ha_nil) rfl) ?_
 refine rS (AG rfl) ?_
 refine rS (AG rfl) ?_
 refine RK hK8 ?_
 refine w_ret ?_
 refine Q2 hQ rfl rfl rfl rfl ?_
 first | rw [safeV_no he] | (rw [safeV_ok he, he] <;> rfl)

set_option maxRecDepth 100000 in
set_option maxHeartbeats 400000 in
theorem names1_c (h : Int) (s : SledV) (ts : List StretchV) (tsA : Option Addr) (tsC : Nat) (best : Bool) (g1 : Nat) (tl : List Int) (tlA : Option Addr) (tlC : Nat) (g2 : Nat) (g3 : Nat) (k : Int) (x : StretchV) (hs : SledOk s) (hst : ∀ x ∈ ts, StretchOk x) (hlen : ts.length ≤ 12) (hk : tl[0]? = some k) (hk1 : 0 ≤ k ∧ k < ts.length) (hx : ts[k.toNat]? = some x) (hh : 0 ≤ h ∧ h ≤ 1048576) :
    FnV Try.prog 78 [(Value.int .i64 h), (Value.pointer (some ⟨g1, 0, none⟩)), (Value.pointer (some ⟨g2, 0, none⟩)), (Value.pointer (some ⟨g3, 0, none⟩))] [(rd tsA ts.length 9 (ts.map StretchV.cells)), (blk g1 108 (RiderV.cells (RiderV.mk s (TrackV.mk (Slc.mk tsA ts.length tsC)) best))), (rd tlA tl.length 1 (tl.map iC)), (blk g2 61 [(Value.slice tlA tl.length tlC)]), (blk g3 24 (TrackV.cells (TrackV.mk (Slc.mk tsA ts.length tsC))))] (Value.bool (decide (x.Wall < bankF best s x h))) := by
 have htl := (List.getElem?_eq_some_iff.1 hk).1
 refine fnV_of go78 Try.func78 rfl rfl fun w0 Q hQ hN => ?_
 change WJ _ _ _ _ [(0, (Value.int .i64 h)), (1, (Value.pointer (some ⟨g1, 0, none⟩))), (2, (Value.pointer (some ⟨g2, 0, none⟩))), (3, (Value.pointer (some ⟨g3, 0, none⟩)))] [(rd tsA ts.length 9 (ts.map StretchV.cells)).ro, (blk g1 108 (RiderV.cells (RiderV.mk s (TrackV.mk (Slc.mk tsA ts.length tsC)) best))).ro, (rd tlA tl.length 1 (tl.map iC)).ro, (blk g2 61 [(Value.slice tlA tl.length tlC)]).ro, (blk g3 24 (TrackV.cells (TrackV.mk (Slc.mk tsA ts.length tsC)))).ro]
 refine WS fun _ hK1 => ?_
 refine rS (AG rfl) ?_
 refine RK hK1 ?_
 refine w_seq fun _ hK2 => ?_
 refine w_draw mixed 16 (by kernel_rfl) ?_
 refine dS (LWR 1 rfl tk108 rfl rfl) ?_
 refine dS (L1Q 3 rfl tk61 rfl) ?_
 obtain ⟨z, hz⟩ : ∃ y_, tl[0]? = some y_ := ⟨tl[0]'(by omega), List.getElem?_eq_getElem _⟩
 have hzm : (tl.map iC)[0]? = some (iC z) := by rw [List.getElem?_map, hz]; rfl
 refine dS (IA 0 rfl (has_at 2 rfl) te61 (by decide) rfl (by omega)) ?_
 have zk : z = k := Option.some.inj (hz.symm.trans hk)
 subst zk
 refine dS (LE1 0 0 (Value.int .i64 z) rfl tk3 (has_at 2 rfl) hzm rfl (by decide) rfl) ?_
 refine dS (MV rfl) ?_
 refine dS (CL (bank_c s ts tsA tsC best z h x hs hst hlen (by first | assumption | omega | (simp; done) | (simp; omega)) (by first | assumption | omega | (simp; done) | (simp; omega)) (by first | assumption | omega | (simp; done) | (simp; omega))) (ha_at 0 rfl rfl <| ha_nil) rfl) ?_
 refine dS (FA 0 rfl fo24_0 rfl) ?_
 refine dS (L1R (Value.slice tsA ts.length tsC) 4 rfl tk22 rfl rfl) ?_
 refine dS (L1Q 3 rfl tk61 rfl) ?_
 refine dS (IA 0 rfl (has_at 2 rfl) te61 (by decide) rfl (by omega)) ?_
 refine dS (LE1 0 0 (Value.int .i64 z) rfl tk3 (has_at 2 rfl) hzm rfl (by decide) rfl) ?_
 obtain ⟨y, hy⟩ : ∃ y_, ts[(z).toNat]? = some y_ := ⟨ts[(z).toNat]'(by omega), List.getElem?_eq_getElem _⟩
 have hym : (ts.map StretchV.cells)[(z).toNat]? = some (StretchV.cells y) := by rw [List.getElem?_map, hy]; rfl
 refine dS (IA ((z).toNat) rfl (has_at 0 rfl) te22 (by decide) (by omega) (by omega)) ?_
 refine dS (FAR ((((z).toNat) * 9) + 8) rfl (has_at 0 rfl) (Nat.mul_pos (by omega) (by decide)) fo77_5 rfl) ?_
 refine dS (LE1 ((z).toNat) 8 (Value.int .i64 y.Wall) rfl tk3 (has_at 0 rfl) hym rfl (by decide) rfl) ?_
 refine dS (BI rfl b_gtr) ?_
 refine dS (AG rfl) ?_
 refine d_end ?_
 refine RK hK2 ?_
 refine w_ret ?_
 refine Q1 hQ rfl rfl rfl ?_
 obtain rfl : y = x := Option.some.inj (hy.symm.trans hx)
 rfl

set_option maxRecDepth 100000 in
set_option maxHeartbeats 400000 in
theorem names_bad (ts : List StretchV) (tsA : Option Addr) (tsC : Nat) (s : SledV) (hlen : ts.length ≤ 1000000) (hside : ∀ x ∈ ts, 0 ≤ x.Side ∧ x.Side ≤ 255) (htr : trackOk ts = false) :
    FnV Try.prog 32 [(Value.agg (TrackV.cells (TrackV.mk (Slc.mk tsA ts.length tsC))).toArray), (Value.agg (SledV.cells s).toArray)] [(rd tsA ts.length 9 (ts.map StretchV.cells))] (Value.tuple [(Value.int .i64 (namesC s ts)), (Value.int .i64 (namesV s ts)), (Value.int .i64 (namesE s ts))].toArray) := by
 have hb0 : ¬ bothE s ts = 0 := by rw [bothE_bad htr]; decide
 refine fnV_of go32 Try.func32 rfl rfl fun w0 Q hQ hN => ?_
 change WJ _ _ _ _ [(0, (Value.agg (TrackV.cells (TrackV.mk (Slc.mk tsA ts.length tsC))).toArray)), (1, (Value.agg (SledV.cells s).toArray))] [(rd tsA ts.length 9 (ts.map StretchV.cells)).ro]
 refine WS fun _ hK1 => ?_
 refine BXA rfl fun b2 => ?_
 refine BXA rfl fun b3 => ?_
 refine rS (AG rfl) ?_
 refine rS (AG rfl) ?_
 refine rS (AG rfl) ?_
 refine RK hK1 ?_
 refine WS fun _ hK4 => ?_
 refine rS (LW 1 rfl tk24 rfl rfl) ?_
 refine rS (LW 0 rfl tk28 rfl rfl) ?_
 refine rS (CL (open_bad ts tsA tsC s hlen hside htr) (ha_at 2 rfl rfl <| ha_nil) rfl) ?_
 refine rS (MV rfl) ?_
 refine rS (EX rfl) ?_
 refine rS (EX rfl) ?_
 refine rS (EX rfl) ?_
 refine AL rfl tz108 fun b5 => ?_
 refine AL rfl tz108 fun b6 => ?_
 refine SW1 rfl ts108 rfl ?_
 refine SW0 rfl ts108 rfl ?_
 refine rS (AG rfl) ?_
 refine RK hK4 ?_
 refine w_seq fun _ hK7 => ?_
 refine WS fun _ hK8 => ?_
 refine rS (MV rfl) ?_
 refine rS (BI rfl b_neq) ?_
 refine RK hK8 ?_
 refine w_if rfl (fun he => ?_) (fun he => ?_)
 rotate_left 1
 · replace he := XF he
   exact absurd he hb0
 replace he := XT he
 refine WS fun _ hK9 => ?_
 refine rS (MV rfl) ?_
 refine rS (AG rfl) ?_
 refine rS (AG rfl) ?_
 refine rS (AG rfl) ?_
 refine RK hK9 ?_
 refine w_ret ?_
 refine Q3 hQ rfl rfl rfl rfl rfl ?_
 rw [(names_no hb0).1, (names_no hb0).2.1, (names_no hb0).2.2]

set_option maxRecDepth 100000 in
set_option maxHeartbeats 400000 in
theorem names_sled (ts : List StretchV) (tsA : Option Addr) (tsC : Nat) (s : SledV) (hlen : ts.length ≤ 1000000) (hside : ∀ x ∈ ts, 0 ≤ x.Side ∧ x.Side ≤ 255) (htr : trackOk ts = true) (hns : ¬ SledOk s) :
    FnV Try.prog 32 [(Value.agg (TrackV.cells (TrackV.mk (Slc.mk tsA ts.length tsC))).toArray), (Value.agg (SledV.cells s).toArray)] [(rd tsA ts.length 9 (ts.map StretchV.cells))] (Value.tuple [(Value.int .i64 (namesC s ts)), (Value.int .i64 (namesV s ts)), (Value.int .i64 (namesE s ts))].toArray) := by
 have hb0 : ¬ bothE s ts = 0 := by rw [bothE_sled htr hns]; decide
 refine fnV_of go32 Try.func32 rfl rfl fun w0 Q hQ hN => ?_
 change WJ _ _ _ _ [(0, (Value.agg (TrackV.cells (TrackV.mk (Slc.mk tsA ts.length tsC))).toArray)), (1, (Value.agg (SledV.cells s).toArray))] [(rd tsA ts.length 9 (ts.map StretchV.cells)).ro]
 refine WS fun _ hK1 => ?_
 refine BXA rfl fun b2 => ?_
 refine BXA rfl fun b3 => ?_
 refine rS (AG rfl) ?_
 refine rS (AG rfl) ?_
 refine rS (AG rfl) ?_
 refine RK hK1 ?_
 refine WS fun _ hK4 => ?_
 refine rS (LW 1 rfl tk24 rfl rfl) ?_
 refine rS (LW 0 rfl tk28 rfl rfl) ?_
 refine rS (CL (open_ok ts tsA tsC s hlen hside htr) (ha_at 2 rfl rfl <| ha_nil) rfl) ?_
 refine rS (MV rfl) ?_
 refine rS (EX rfl) ?_
 refine rS (EX rfl) ?_
 refine rS (EX rfl) ?_
 refine AL rfl tz108 fun b5 => ?_
 refine AL rfl tz108 fun b6 => ?_
 refine SW1 rfl ts108 rfl ?_
 refine SW0 rfl ts108 rfl ?_
 refine rS (AG rfl) ?_
 refine RK hK4 ?_
 refine w_seq fun _ hK7 => ?_
 refine WS fun _ hK8 => ?_
 refine rS (MV rfl) ?_
 refine rS (BI rfl b_neq) ?_
 refine RK hK8 ?_
 refine w_if rfl (fun he => ?_) (fun he => ?_)
 rotate_left 1
 · replace he := XF he
   exact absurd he hb0
 replace he := XT he
 refine WS fun _ hK9 => ?_
 refine rS (MV rfl) ?_
 refine rS (AG rfl) ?_
 refine rS (AG rfl) ?_
 refine rS (AG rfl) ?_
 refine RK hK9 ?_
 refine w_ret ?_
 refine Q3 hQ rfl rfl rfl rfl rfl ?_
 rw [(names_no hb0).1, (names_no hb0).2.1, (names_no hb0).2.2]

set_option maxRecDepth 100000 in
set_option maxHeartbeats 400000 in
theorem names_ok (ts : List StretchV) (tsA : Option Addr) (tsC : Nat) (s : SledV) (hlen : ts.length ≤ 1000000) (hside : ∀ x ∈ ts, 0 ≤ x.Side ∧ x.Side ≤ 255) (htr : trackOk ts = true) (hs : SledOk s) :
    FnV Try.prog 32 [(Value.agg (TrackV.cells (TrackV.mk (Slc.mk tsA ts.length tsC))).toArray), (Value.agg (SledV.cells s).toArray)] [(rd tsA ts.length 9 (ts.map StretchV.cells))] (Value.tuple [(Value.int .i64 (namesC s ts)), (Value.int .i64 (namesV s ts)), (Value.int .i64 (namesE s ts))].toArray) := by
 have hb0 := bothE_ok htr hs
 have hst := trackOk_all htr
 have hl12 := trackOk_le htr
 have hl1 := trackOk_pos htr
 have hside2 := hside
 refine fnV_of go32 Try.func32 rfl rfl fun w0 Q hQ hN => ?_
 change WJ _ _ _ _ [(0, (Value.agg (TrackV.cells (TrackV.mk (Slc.mk tsA ts.length tsC))).toArray)), (1, (Value.agg (SledV.cells s).toArray))] [(rd tsA ts.length 9 (ts.map StretchV.cells)).ro]
 refine WS fun _ hK1 => ?_
 refine BXA rfl fun b2 => ?_
 refine BXA rfl fun b3 => ?_
 refine rS (AG rfl) ?_
 refine rS (AG rfl) ?_
 refine rS (AG rfl) ?_
 refine RK hK1 ?_
 refine WS fun _ hK4 => ?_
 refine rS (LW 1 rfl tk24 rfl rfl) ?_
 refine rS (LW 0 rfl tk28 rfl rfl) ?_
 refine rS (CL (open_ok ts tsA tsC s hlen hside htr) (ha_at 2 rfl rfl <| ha_nil) rfl) ?_
 refine rS (MV rfl) ?_
 refine rS (EX rfl) ?_
 refine rS (EX rfl) ?_
 refine rS (EX rfl) ?_
 refine AL rfl tz108 fun b5 => ?_
 refine AL rfl tz108 fun b6 => ?_
 refine SW1 rfl ts108 rfl ?_
 refine SW0 rfl ts108 rfl ?_
 refine rS (AG rfl) ?_
 refine RK hK4 ?_
 refine w_seq fun _ hK7 => ?_
 refine WS fun _ hK8 => ?_
 refine rS (MV rfl) ?_
 refine rS (BI rfl b_neq) ?_
 refine RK hK8 ?_
 refine w_if rfl (fun he => ?_) (fun he => ?_)
 · replace he := XT he
   exact absurd hb0 he
 replace he := XF he
 refine WK hK7 ?_
 refine WS fun _ hK9 => ?_
 refine rS (LW 0 rfl tk108 rfl rfl) ?_
 refine cX (thrown_c s ts tsA tsC true hs (by first | assumption | omega | (simp; done) | (simp; omega)) (by first | assumption | omega | (simp; done) | (simp; omega)) hside) (ha_at 4 rfl rfl <| ha_nil) rfl fun y10 hy11 => ?_
 obtain ⟨a12, c13⟩ := y10
 change RJ _ _ _ _ _ ((_, (Value.slice a12 ((thr true s ts).length) c13)) :: _) ((own a12 c13 3 1 ((thr true s ts).map iC)) :: _)
 refine AL rfl tz61 fun b14 => ?_
 refine SO0 rfl ts61 rfl rfl ?_
 refine RK hK9 ?_
 refine w_seq fun _ hK15 => ?_
 refine WS fun _ hK16 => ?_
 refine rS (L1W 0 rfl tk61 rfl) ?_
 refine rS (LN rfl ut61) ?_
 refine rS (BI rfl b_eql) ?_
 refine RK hK16 ?_
 refine w_if rfl (fun hz0 => ?_) (fun hz0 => ?_)
 · replace hz0 := DT hz0
   refine WS fun _ hK17 => ?_
   refine rS (AG rfl) ?_
   refine rS (AG rfl) ?_
   refine rS (AG rfl) ?_
   refine RK hK17 ?_
   refine w_ret ?_
   refine Q3 hQ rfl rfl rfl rfl rfl ?_
   first | (have e := names_none (s := s) hb0 (List.eq_nil_of_length_eq_zero (by omega)); rw [e.1, e.2.1, e.2.2]) | (have e := names_some hb0 hk hx; rw [e.1, e.2.1, e.2.2])
 replace hz0 := DF hz0
 refine WK hK15 ?_
 refine WS fun _ hK18 => ?_
 obtain ⟨k, hk⟩ : ∃ k, (thr true s ts)[0]? = some k := ⟨(thr true s ts)[0]'(by omega), List.getElem?_eq_getElem _⟩
 obtain ⟨hk0, hk1, htb⟩ := thr_at hk
 obtain ⟨x, hx⟩ : ∃ x, ts[k.toNat]? = some x := ⟨ts[k.toNat]'(by omega), List.getElem?_eq_getElem _⟩
 have hnh := nameH_le hs hst (by omega) hx htb
 have hib := inAt_b (best := true) hs hst (i := k.toNat) (by omega)
 refine rS (FU rfl) ?_
 refine rS (CL (first_c 0 1048576 (Value.func (.func 78) [].toArray [(Value.pointer (some ⟨b6, 0, none⟩)), (Value.pointer (some ⟨b14, 0, none⟩)), (Value.pointer (some ⟨b2, 0, none⟩))].toArray) (fun u19 => (decide (x.Wall < bankF true s x u19))) (bun [(rd tsA ts.length 9 (ts.map StretchV.cells)), (blk b6 108 (RiderV.cells (RiderV.mk s (TrackV.mk (Slc.mk tsA ts.length tsC)) true))), (rd a12 ((thr true s ts).length) 1 ((thr true s ts).map iC)), (blk b14 61 [(Value.slice a12 ((thr true s ts).length) c13)]), (blk b2 24 (TrackV.cells (TrackV.mk (Slc.mk tsA ts.length tsC))))]) (nameH s x) (by intro u19 _; exact clo_of (fi := []) (ca := [(Value.pointer (some ⟨b6, 0, none⟩)), (Value.pointer (some ⟨b14, 0, none⟩)), (Value.pointer (some ⟨b2, 0, none⟩))]) (fnV_bun (names1_c u19 s ts tsA tsC true b6 (thr true s ts) a12 c13 b14 b2 k x (by first | assumption | omega) (by first | assumption | omega) (by first | assumption | omega) (by first | assumption | omega) (by first | assumption | omega) (by first | assumption | omega) (by first | assumption | omega)) (ha_at 0 rfl rfl <| ha_at 1 rfl rfl <| ha_at 2 rfl rfl <| ha_at 3 rfl rfl <| ha_at 4 rfl rfl <| ha_nil))) (by first | assumption | omega | (simp; done) | (simp; omega)) (by intro y _ hy; exact firstN_no (p := nameP s x) (n := 1048576) (by omega) hy) (by intro y hy hy2; exact firstN_yes (p := nameP s x) (n := 1048576) (nameP_mono (hst x (List.mem_of_getElem? hx))) hy (by omega))) (ha_cons (has_bun (ha_at 6 rfl rfl <| ha_at 2 rfl rfl <| ha_cons (has_own_n (n := (thr true s ts).length) 1 rfl (by simp)) <| ha_at 0 rfl rfl <| ha_at 5 rfl rfl <| ha_nil)) <| ha_nil) rfl) ?_
 refine rS (AG rfl) ?_
 refine RK hK18 ?_
 refine w_seq fun _ hK20 => ?_
 refine w_draw mixed 8 (by kernel_rfl) ?_
 refine dS (L1W 0 rfl tk61 rfl) ?_
 obtain ⟨kk, hkk⟩ : ∃ y_, (thr true s ts)[0]? = some y_ := ⟨(thr true s ts)[0]'(by omega), List.getElem?_eq_getElem _⟩
 have hkkm : ((thr true s ts).map iC)[0]? = some (iC kk) := by rw [List.getElem?_map, hkk]; rfl
 refine dS (IA 0 rfl (has_own_n (n := (thr true s ts).length) 1 rfl (by simp)) te61 (by decide) rfl (by omega)) ?_
 have kkk : kk = k := Option.some.inj (hkk.symm.trans hk)
 subst kkk
 refine dS (LE1 0 0 (Value.int .i64 kk) rfl tk3 (has_own_n (n := (thr true s ts).length) 1 rfl (by simp)) hkkm rfl (by decide) rfl) ?_
 refine dS (MV rfl) ?_
 refine dS (CL (slow_c (nameH s x) (by first | assumption | omega | (simp; done) | (simp; omega))) (ha_nil) rfl) ?_
 refine dS (AG rfl) ?_
 refine dS (AG rfl) ?_
 refine dS (AG rfl) ?_
 refine d_end ?_
 refine RK hK20 ?_
 refine w_ret ?_
 refine Q3 hQ rfl rfl rfl rfl rfl ?_
 first | (have e := names_none (s := s) hb0 (List.eq_nil_of_length_eq_zero (by omega)); rw [e.1, e.2.1, e.2.2]) | (have e := names_some hb0 hk hx; rw [e.1, e.2.1, e.2.2])

theorem names_no_ (ts : List StretchV) (tsA : Option Addr) (tsC : Nat) (s : SledV) (hlen : ts.length ≤ 1000000) (hside : ∀ x ∈ ts, 0 ≤ x.Side ∧ x.Side ≤ 255) (hb : ¬ bothE s ts = 0) :
    FnV Try.prog 32 [(Value.agg (TrackV.cells (TrackV.mk (Slc.mk tsA ts.length tsC))).toArray), (Value.agg (SledV.cells s).toArray)] [(rd tsA ts.length 9 (ts.map StretchV.cells))] (Value.tuple [(Value.int .i64 (namesC s ts)), (Value.int .i64 (namesV s ts)), (Value.int .i64 (namesE s ts))].toArray) := by
  by_cases htr : trackOk ts = true
  · by_cases hs : SledOk s
    · exact absurd (bothE_ok htr hs) hb
    · exact names_sled ts tsA tsC s hlen hside htr hs
  · exact names_bad ts tsA tsC s hlen hside (by simpa using htr)

theorem names_c (ts : List StretchV) (tsA : Option Addr) (tsC : Nat) (s : SledV) (hlen : ts.length ≤ 1000000) (hside : ∀ x ∈ ts, 0 ≤ x.Side ∧ x.Side ≤ 255) :
    FnV Try.prog 32 [(Value.agg (TrackV.cells (TrackV.mk (Slc.mk tsA ts.length tsC))).toArray), (Value.agg (SledV.cells s).toArray)] [(rd tsA ts.length 9 (ts.map StretchV.cells))] (Value.tuple [(Value.int .i64 (namesC s ts)), (Value.int .i64 (namesV s ts)), (Value.int .i64 (namesE s ts))].toArray) := by
  by_cases hb : bothE s ts = 0
  · obtain ⟨h1, h2⟩ := bothE_zero hb
    exact names_ok ts tsA tsC s hlen hside h1 h2
  · exact names_no_ ts tsA tsC s hlen hside hb

set_option maxRecDepth 100000 in
set_option maxHeartbeats 400000 in
theorem rNames_c (ts : List StretchV) (tsA : Option Addr) (tsC : Nat) (s : SledV) (hlen : ts.length ≤ 1000000) (hside : ∀ x ∈ ts, 0 ≤ x.Side ∧ x.Side ≤ 255) (hc : 0 ≤ s.Class ∧ s.Class ≤ 255) :
    FnV Try.prog 33 [(Value.agg (TrackV.cells (TrackV.mk (Slc.mk tsA ts.length tsC))).toArray), (Value.agg (SledV.cells s).toArray)] [(rd tsA ts.length 9 (ts.map StretchV.cells))] (Value.tuple [(Value.int .i64 (namesC s ts)), (Value.int .i64 (namesV s ts)), (Value.int .i64 (namesE s ts))].toArray) := by
 refine fnV_of go33 Try.func33 rfl rfl fun w0 Q hQ hN => ?_
 change WJ _ _ _ _ [(0, (Value.agg (TrackV.cells (TrackV.mk (Slc.mk tsA ts.length tsC))).toArray)), (1, (Value.agg (SledV.cells s).toArray))] [(rd tsA ts.length 9 (ts.map StretchV.cells)).ro]
 refine WS fun _ hK1 => ?_
 refine BXA rfl fun b2 => ?_
 refine BXA rfl fun b3 => ?_
 refine rS (AG rfl) ?_
 refine rS (AG rfl) ?_
 refine rS (AG rfl) ?_
 refine RK hK1 ?_
 refine w_seq fun _ hK4 => ?_
 refine WS fun _ hK5 => ?_
 refine rS (LW 1 rfl tk24 rfl rfl) ?_
 refine rS (LW 0 rfl tk28 rfl rfl) ?_
 refine rS (CL (both_c ts tsA tsC s hlen hc) (ha_at 2 rfl rfl <| ha_nil) rfl) ?_
 refine rS (AG rfl) ?_
 refine RK hK5 ?_
 refine WS fun _ hK6 => ?_
 refine rS (MV rfl) ?_
 refine rS (BI rfl b_neq) ?_
 refine RK hK6 ?_
 refine w_if rfl (fun he => ?_) (fun he => ?_)
 · replace he := XT he
   refine WS fun _ hK7 => ?_
   refine rS (MV rfl) ?_
   refine rS (AG rfl) ?_
   refine rS (AG rfl) ?_
   refine rS (AG rfl) ?_
   refine RK hK7 ?_
   refine w_ret ?_
   refine Q3 hQ rfl rfl rfl rfl rfl ?_
   first | (have e := names_no he; rw [e.1, e.2.1, e.2.2]) | (have e := names_ref he hl5_1 (by omega) hx htb (by omega) (by omega) hl10_1 (by have e2 : lo = hi := (by omega); rw [e2]; exact hl10_2); rw [e.1, e.2.1, e.2.2]) | (have e := names_none (s := s) he (thr_nil.2 (by have e2 : i = ts.length := (by omega); rw [← e2]; exact hl5_1)); rw [e.1, e.2.1, e.2.2])
 replace he := XF he
 refine WK hK4 ?_
 refine w_seq fun _ hK8 => ?_
 refine WS fun _ hK9 => ?_
 obtain ⟨htr, hs⟩ := bothE_zero he
 have hst := trackOk_all htr
 have hl12 := trackOk_le htr
 refine rS (AG rfl) ?_
 refine RK hK9 ?_
 refine w_block ?_
 have hinit : (0 ≤ ts.length) ∧ (noThr true s ts 0) := by exact ⟨Nat.zero_le _, noThr_zero⟩
 refine w_loop (ι := { z : Nat // (z ≤ ts.length) ∧ (noThr true s ts z) }) (fun z => [(2, (Value.pointer (some ⟨b2, 0, none⟩))), (3, (Value.pointer (some ⟨b3, 0, none⟩))), (8, (Value.int .i64 ((z.1 : Nat) : Int)))]) (fun z => [(blk b3 28 (SledV.cells s)), (blk b2 24 (TrackV.cells (TrackV.mk (Slc.mk tsA ts.length tsC)))), (rd tsA ts.length 9 (ts.map StretchV.cells)).ro]) (fun z => ts.length - z.1) ⟨0, hinit⟩ (Sub.cons rfl <| Sub.cons rfl <| Sub.cons rfl <| Sub.nil _) (fun w hs => St.sel [0, 1, 2] rfl rfl hs) ?_
 clear hinit
 rintro ⟨i, ⟨hl5_0, hl5_1⟩⟩ J10 hJ10
 change WJ _ _ _ _ [(2, (Value.pointer (some ⟨b2, 0, none⟩))), (3, (Value.pointer (some ⟨b3, 0, none⟩))), (8, (Value.int .i64 ((i : Nat) : Int)))] [(blk b3 28 (SledV.cells s)), (blk b2 24 (TrackV.cells (TrackV.mk (Slc.mk tsA ts.length tsC)))), (rd tsA ts.length 9 (ts.map StretchV.cells)).ro]
 refine w_seq fun _ hK11 => ?_
 refine WS fun _ hK12 => ?_
 refine rS (MV rfl) ?_
 refine rS (FA 0 rfl fo24_0 rfl) ?_
 refine rS (L1 (Value.slice tsA ts.length tsC) 1 rfl tk22 rfl rfl) ?_
 refine rS (LN rfl ut22) ?_
 refine rS (BI rfl b_lss) ?_
 refine RK hK12 ?_
 refine w_if rfl (fun h13 => ?_) (fun h13 => ?_)
 rotate_left 1
 · replace h13 := DF h13
   refine w_exit ?_
   refine k_exit_then ?_
   refine k_exit_then ?_
   refine k_exit_same ?_
   refine KK hK8 ?_
   refine WS fun _ hK30 => ?_
   refine rS (AG rfl) ?_
   refine rS (AG rfl) ?_
   refine rS (AG rfl) ?_
   refine RK hK30 ?_
   refine w_ret ?_
   refine Q3 hQ rfl rfl rfl rfl rfl ?_
   first | (have e := names_no he; rw [e.1, e.2.1, e.2.2]) | (have e := names_ref he hl5_1 (by omega) hx htb (by omega) (by omega) hl10_1 (by have e2 : lo = hi := (by omega); rw [e2]; exact hl10_2); rw [e.1, e.2.1, e.2.2]) | (have e := names_none (s := s) he (thr_nil.2 (by have e2 : i = ts.length := (by omega); rw [← e2]; exact hl5_1)); rw [e.1, e.2.1, e.2.2])
 replace h13 := DT h13
 refine WK hK11 ?_
 refine w_seq fun _ hK14 => ?_
 refine w_block ?_
 refine WS fun _ hK15 => ?_
 refine rS (FA 0 rfl fo24_0 rfl) ?_
 refine rS (L1 (Value.slice tsA ts.length tsC) 1 rfl tk22 rfl rfl) ?_
 refine rS (MV rfl) ?_
 obtain ⟨x, hx⟩ : ∃ y_, ts[i]? = some y_ := ⟨ts[i]'(by omega), List.getElem?_eq_getElem _⟩
 have hxm : (ts.map StretchV.cells)[i]? = some (StretchV.cells x) := by rw [List.getElem?_map, hx]; rfl
 refine rS (IA i rfl (has_at 2 rfl) te22 (by decide) (by omega) (by omega)) ?_
 refine rS (LEN i 0 (StretchV.cells x) rfl tk77 (has_at 2 rfl) hxm rfl (by decide) rfl rfl) ?_
 refine AL rfl tz77 fun b16 => ?_
 refine SW0 rfl ts77 rfl ?_
 refine RK hK15 ?_
 refine w_seq fun _ hK17 => ?_
 refine w_seq fun _ hK18 => ?_
 refine w_draw mixed 14 (by kernel_rfl) ?_
 refine dS (LW 2 rfl tk24 rfl rfl) ?_
 refine dS (MV rfl) ?_
 refine dS (CL (curve_c ts tsA tsC ((i : Nat) : Int) hlen hside) (ha_at 3 rfl rfl <| ha_nil) rfl) ?_
 refine dS (NT rfl) ?_
 refine dS (MV rfl) ?_
 refine d_bool (t := 35) rfl (fun hc => ?_) (fun hc => ?_)
 · rw [Bool.not_eq_true'] at hc
   refine dS (OX rfl) ?_
   refine dS (OX rfl) ?_
   refine dS (OX rfl) ?_
   refine dS (OX rfl) ?_
   refine dS (OX rfl) ?_
   refine dS (OX rfl) ?_
   refine dS (OX rfl) ?_
   refine dS (OX rfl) ?_
   refine dS (PK rfl) ?_
   refine d_end ?_
   refine RK hK18 ?_
   refine w_if_true rfl ?_
   refine w_exit ?_
   refine k_exit_then ?_
   refine k_exit_same ?_
   refine KK hK14 ?_
   refine w_region ?_
   refine rS (MV rfl) ?_
   refine rS (BI rfl (b_add ⟨by omega, by omega⟩)) ?_
   obtain ⟨htr, hs⟩ := bothE_zero he
   have hst := trackOk_all htr
   have hl12 := trackOk_le htr
   refine rS (AG rfl) ?_
   refine r_nil ?_
   have hb19 : (Value.int .i64 (((i + 1) : Nat) : Int)) = (Value.int .i64 (((i : Nat) : Int) + 1)) := by exact congrArg (Value.int .i64) (by omega)
   refine k_then (hJ10 ⟨(i + 1), ⟨by omega, noThr_succ hl5_1 (by first | exact thrB_straight hc | exact thrB_no hx (by omega))⟩⟩ _ _ _ rfl (by first | omega | (simp; omega)) (Sub.cons rfl <| Sub.cons rfl <| sub_val rfl hb19 <| Sub.nil _) (fun w hs => St.sel [1, 2, 3] rfl rfl hs))
 rw [Bool.not_eq_false'] at hc
 refine dS (LW 2 rfl tk24 rfl rfl) ?_
 refine dS (LW 1 rfl tk28 rfl rfl) ?_
 refine dS (MV rfl) ?_
 refine dS (CL (rheight_c ts tsA tsC s ((i : Nat) : Int) (by first | assumption | omega | (simp; done) | (simp; omega)) (by first | assumption | omega | (simp; done) | (simp; omega)) (by first | assumption | omega | (simp; done) | (simp; omega)) (by first | assumption | omega | (simp; done) | (simp; omega))) (ha_at 3 rfl rfl <| ha_nil) rfl) ?_
 refine dS (SX (sd_field1 (v := (Value.int .i64 (hgt true s ts ((i : Nat) : Int).toNat))) rfl rfl fo26_1 tf26_1 rfl) rfl rfl) ?_
 refine dS (FA 8 rfl fo77_5 rfl) ?_
 refine dS (L1 (Value.int .i64 x.Wall) 0 rfl tk3 rfl rfl) ?_
 refine dS (BI rfl b_leq) ?_
 refine dS (PK rfl) ?_
 refine d_end ?_
 refine RK hK18 ?_
 refine w_if rfl (fun hw => ?_) (fun hw => ?_)
 · replace hw := DT hw
   refine w_exit ?_
   refine k_exit_then ?_
   refine k_exit_same ?_
   refine KK hK14 ?_
   refine w_region ?_
   refine rS (MV rfl) ?_
   refine rS (BI rfl (b_add ⟨by omega, by omega⟩)) ?_
   obtain ⟨htr, hs⟩ := bothE_zero he
   have hst := trackOk_all htr
   have hl12 := trackOk_le htr
   refine rS (AG rfl) ?_
   refine r_nil ?_
   have hb20 : (Value.int .i64 (((i + 1) : Nat) : Int)) = (Value.int .i64 (((i : Nat) : Int) + 1)) := by exact congrArg (Value.int .i64) (by omega)
   refine k_then (hJ10 ⟨(i + 1), ⟨by omega, noThr_succ hl5_1 (by first | exact thrB_straight hc | exact thrB_no hx (by omega))⟩⟩ _ _ _ rfl (by first | omega | (simp; omega)) (Sub.cons rfl <| Sub.cons rfl <| sub_val rfl hb20 <| Sub.nil _) (fun w hs => St.sel [1, 2, 3] rfl rfl hs))
 replace hw := DF hw
 refine WK hK17 ?_
 refine WS fun _ hK21 => ?_
 have htb := thrB_yes (best := true) (s := s) hx hc (by omega)
 have hib := inAt_b (best := true) hs hst (i := i) (by omega)
 have hns := (thrB_out hx htb).1
 have hxo := hst x (List.mem_of_getElem? hx)
 have hrc := radius_c hxo hns
 have q6 := hs.2.2.2.2.2
 simp only [SpanOk] at q6
 refine rS (LW 2 rfl tk24 rfl rfl) ?_
 refine rS (LW 1 rfl tk28 rfl rfl) ?_
 refine rS (MV rfl) ?_
 refine rS (CL (inside_c ts tsA tsC s ((i : Nat) : Int) (by first | assumption | omega | (simp; done) | (simp; omega)) (by first | assumption | omega | (simp; done) | (simp; omega)) (by first | assumption | omega | (simp; done) | (simp; omega)) (by first | assumption | omega | (simp; done) | (simp; omega))) (ha_at 3 rfl rfl <| ha_nil) rfl) ?_
 refine rS (SX (sd_field1 (v := (Value.int .i64 (inAt true s ts ((i : Nat) : Int).toNat))) rfl rfl fo26_1 tf26_1 rfl) rfl rfl) ?_
 refine rS (AG rfl) ?_
 refine rS (AG rfl) ?_
 refine RK hK21 ?_
 refine w_seq fun _ hK22 => ?_
 refine w_block ?_
 have hinit : (0 ≤ (0 : Int) ∧ (0 : Int) ≤ (inAt true s ts ((i : Nat) : Int).toNat) ∧ (inAt true s ts ((i : Nat) : Int).toNat) ≤ 270000) ∧ (∀ y, 0 ≤ y → y < (0 : Int) → nameP s x y = false) ∧ (nameP s x (inAt true s ts ((i : Nat) : Int).toNat) = true) := by exact ⟨by simp only [Int.toNat_natCast]; omega, fun y h0 h1 => by omega, by simpa using nameP_in hx htb⟩
 refine w_loop (ι := { z : Int × Int // (0 ≤ z.1 ∧ z.1 ≤ z.2 ∧ z.2 ≤ 270000) ∧ (∀ y, 0 ≤ y → y < z.1 → nameP s x y = false) ∧ (nameP s x z.2 = true) }) (fun z => [(2, (Value.pointer (some ⟨b2, 0, none⟩))), (3, (Value.pointer (some ⟨b3, 0, none⟩))), (8, (Value.int .i64 ((i : Nat) : Int))), (9, (Value.pointer (some ⟨b16, 0, none⟩))), (10, (Value.int .i64 z.1.1)), (11, (Value.int .i64 z.1.2))]) (fun z => [(blk b16 77 (StretchV.cells x)), (blk b3 28 (SledV.cells s)), (blk b2 24 (TrackV.cells (TrackV.mk (Slc.mk tsA ts.length tsC)))), (rd tsA ts.length 9 (ts.map StretchV.cells)).ro]) (fun z => (z.1.2 - z.1.1).toNat) ⟨((0 : Int), (inAt true s ts ((i : Nat) : Int).toNat)), hinit⟩ (Sub.cons rfl <| Sub.cons rfl <| Sub.cons rfl <| Sub.cons rfl <| Sub.cons rfl <| Sub.cons rfl <| Sub.nil _) (fun w hs => St.sel [0, 1, 2, 3] rfl rfl hs) ?_
 clear hinit
 rintro ⟨⟨lo, hi⟩, ⟨hl10_0, hl10_1, hl10_2⟩⟩ J23 hJ23
 try dsimp only at hl10_0 hl10_1 hl10_2
 change WJ _ _ _ _ [(2, (Value.pointer (some ⟨b2, 0, none⟩))), (3, (Value.pointer (some ⟨b3, 0, none⟩))), (8, (Value.int .i64 ((i : Nat) : Int))), (9, (Value.pointer (some ⟨b16, 0, none⟩))), (10, (Value.int .i64 lo)), (11, (Value.int .i64 hi))] [(blk b16 77 (StretchV.cells x)), (blk b3 28 (SledV.cells s)), (blk b2 24 (TrackV.cells (TrackV.mk (Slc.mk tsA ts.length tsC)))), (rd tsA ts.length 9 (ts.map StretchV.cells)).ro]
 refine w_seq fun _ hK24 => ?_
 refine WS fun _ hK25 => ?_
 refine rS (MV rfl) ?_
 refine rS (MV rfl) ?_
 refine rS (BI rfl b_lss) ?_
 refine RK hK25 ?_
 refine w_if rfl (fun h26 => ?_) (fun h26 => ?_)
 rotate_left 1
 · replace h26 := DF h26
   refine w_exit ?_
   refine k_exit_then ?_
   refine k_exit_then ?_
   refine k_exit_same ?_
   refine KK hK22 ?_
   refine WS fun _ hK29 => ?_
   refine rS (MV rfl) ?_
   refine rS (MV rfl) ?_
   refine rS (CL (slow3_c lo (by first | assumption | omega | (simp; done) | (simp; omega))) (ha_nil) rfl) ?_
   refine rS (AG rfl) ?_
   refine rS (AG rfl) ?_
   refine rS (AG rfl) ?_
   refine RK hK29 ?_
   refine w_ret ?_
   refine Q3 hQ rfl rfl rfl rfl rfl ?_
   first | (have e := names_no he; rw [e.1, e.2.1, e.2.2]) | (have e := names_ref he hl5_1 (by omega) hx htb (by omega) (by omega) hl10_1 (by have e2 : lo = hi := (by omega); rw [e2]; exact hl10_2); rw [e.1, e.2.1, e.2.2]) | (have e := names_none (s := s) he (thr_nil.2 (by have e2 : i = ts.length := (by omega); rw [← e2]; exact hl5_1)); rw [e.1, e.2.1, e.2.2])
 replace h26 := DT h26
 refine WK hK24 ?_
 refine w_block ?_
 refine WS fun _ hK27 => ?_
 refine rS (MV rfl) ?_
 refine rS (MV rfl) ?_
 refine rS (BI rfl (b_add ⟨by omega, by omega⟩)) ?_
 refine rS (BI rfl (b_quo (by omega) (by omega) (by omega))) ?_
 refine rS (AG rfl) ?_
 refine RK hK27 ?_
 refine w_seq fun _ hK28 => ?_
 refine w_draw mixed 14 (by kernel_rfl) ?_
 refine dS (MV rfl) ?_
 have m3 := divb (a := 1200 * ((lo + hi) / 2)) (b := 10 * x.Radius.Lo) (A := 480000000) (by omega) (by omega) (by omega)
 refine dS (BI rfl (b_mul ⟨by omega, by omega⟩)) ?_
 refine dS (FA 5 rfl fo77_3 rfl) ?_
 refine dS (FA 5 rfl fo26_0 rfl) ?_
 refine dS (L1 (Value.int .i64 x.Radius.Lo) 0 rfl tk3 rfl rfl) ?_
 refine dS (BI rfl (b_mul ⟨by omega, by omega⟩)) ?_
 refine dS (BI rfl (b_quo (by omega) (by omega) (by omega))) ?_
 refine dS (FA 9 rfl fo28_5 rfl) ?_
 refine dS (FA 10 rfl fo26_1 rfl) ?_
 refine dS (L1 (Value.int .i64 s.Steer.Hi) 1 rfl tk3 rfl rfl) ?_
 refine dS (BI rfl (b_add ⟨by omega, by omega⟩)) ?_
 refine dS (FA 8 rfl fo77_5 rfl) ?_
 refine dS (L1 (Value.int .i64 x.Wall) 0 rfl tk3 rfl rfl) ?_
 refine dS (BI rfl b_gtr) ?_
 refine d_end ?_
 refine RK hK28 ?_
 refine w_if rfl (fun hp => ?_) (fun hp => ?_)
 · replace hp := DT hp
   refine w_region ?_
   refine rS (MV rfl) ?_
   refine rS (AG rfl) ?_
   refine r_nil ?_
   refine k_block ?_
   refine k_then (hJ23 ⟨(lo, ((lo + hi) / 2)), (by first | exact ⟨by simp only []; omega, hl10_1, by rw [nameP_eq (by omega)]; exact decide_eq_true hp⟩ | exact ⟨by simp only []; omega, nameP_upto hxo (by rw [nameP_eq (by omega)]; exact decide_eq_false hp), hl10_2⟩)⟩ _ _ _ rfl (by simp only []; omega) (Sub.cons rfl <| Sub.cons rfl <| Sub.cons rfl <| Sub.cons rfl <| Sub.cons rfl <| Sub.cons rfl <| Sub.nil _) (fun w hs => St.sel [0, 1, 2, 3] rfl rfl hs))
 replace hp := DF hp
 refine w_region ?_
 refine rS (MV rfl) ?_
 refine rS (BI rfl (b_add ⟨by omega, by omega⟩)) ?_
 refine rS (AG rfl) ?_
 refine r_nil ?_
 refine k_block ?_
 refine k_then (hJ23 ⟨((((lo + hi) / 2) + 1), hi), (by first | exact ⟨by simp only []; omega, hl10_1, by rw [nameP_eq (by omega)]; exact decide_eq_true hp⟩ | exact ⟨by simp only []; omega, nameP_upto hxo (by rw [nameP_eq (by omega)]; exact decide_eq_false hp), hl10_2⟩)⟩ _ _ _ rfl (by simp only []; omega) (Sub.cons rfl <| Sub.cons rfl <| Sub.cons rfl <| Sub.cons rfl <| Sub.cons rfl <| Sub.cons rfl <| Sub.nil _) (fun w hs => St.sel [0, 1, 2, 3] rfl rfl hs))

set_option maxRecDepth 100000 in
set_option maxHeartbeats 400000 in
theorem sameints_c (la : List Int) (laA : Option Addr) (laC : Nat) (lb : List Int) (lbA : Option Addr) (lbC : Nat) (h1 : la.length ≤ 1000000) (h2 : lb.length ≤ 1000000) :
    FnV Try.prog 40 [(Value.slice laA la.length laC), (Value.slice lbA lb.length lbC)] [(rd laA la.length 1 (la.map iC)), (rd lbA lb.length 1 (lb.map iC))] (Value.bool (decide (la = lb))) := by
 refine fnV_of go40 Try.func40 rfl rfl fun w0 Q hQ hN => ?_
 change WJ _ _ _ _ [(0, (Value.slice laA la.length laC)), (1, (Value.slice lbA lb.length lbC))] [(rd laA la.length 1 (la.map iC)).ro, (rd lbA lb.length 1 (lb.map iC)).ro]
 refine WS fun _ hK1 => ?_
 refine rS (AG rfl) ?_
 refine RK hK1 ?_
 refine w_seq fun _ hK2 => ?_
 refine WS fun _ hK3 => ?_
 refine rS (MV rfl) ?_
 refine rS (LN rfl ut61) ?_
 refine rS (MV rfl) ?_
 refine rS (LN rfl ut61) ?_
 refine rS (BI rfl b_neq) ?_
 refine RK hK3 ?_
 refine w_if rfl (fun hl => ?_) (fun hl => ?_)
 · replace hl := XT hl
   refine WS fun _ hK4 => ?_
   refine rS (AG rfl) ?_
   refine RK hK4 ?_
   refine w_ret ?_
   refine Q1 hQ rfl rfl rfl ?_
   first | exact congrArg Value.bool (decide_eq_false (lists_ne hx hy h)).symm | exact congrArg Value.bool (decide_eq_true (lists_eq (by omega) hl0_1 (by omega))).symm | exact congrArg Value.bool (decide_eq_false (fun e => by subst e; omega)).symm
 replace hl := XF hl
 refine WK hK2 ?_
 refine w_seq fun _ hK5 => ?_
 refine WS fun _ hK6 => ?_
 refine rS (AG rfl) ?_
 refine RK hK6 ?_
 refine w_block ?_
 have hinit : (0 ≤ la.length) ∧ (la.take 0 = lb.take 0) := by simp
 refine w_loop (ι := { z : Nat // (z ≤ la.length) ∧ (la.take z = lb.take z) }) (fun z => [(0, (Value.slice laA la.length laC)), (1, (Value.slice lbA lb.length lbC)), (5, (Value.int .i64 ((z.1 : Nat) : Int)))]) (fun z => [(rd laA la.length 1 (la.map iC)).ro, (rd lbA lb.length 1 (lb.map iC)).ro]) (fun z => la.length - z.1) ⟨0, hinit⟩ (Sub.cons rfl <| Sub.cons rfl <| Sub.cons rfl <| Sub.nil _) (fun w hs => St.sel [0, 1] rfl rfl hs) ?_
 clear hinit
 rintro ⟨i, ⟨hl0_0, hl0_1⟩⟩ J7 hJ7
 change WJ _ _ _ _ [(0, (Value.slice laA la.length laC)), (1, (Value.slice lbA lb.length lbC)), (5, (Value.int .i64 ((i : Nat) : Int)))] [(rd laA la.length 1 (la.map iC)).ro, (rd lbA lb.length 1 (lb.map iC)).ro]
 refine w_seq fun _ hK8 => ?_
 refine WS fun _ hK9 => ?_
 refine rS (MV rfl) ?_
 refine rS (MV rfl) ?_
 refine rS (LN rfl ut61) ?_
 refine rS (BI rfl b_lss) ?_
 refine RK hK9 ?_
 refine w_if rfl (fun h10 => ?_) (fun h10 => ?_)
 rotate_left 1
 · replace h10 := DF h10
   refine w_exit ?_
   refine k_exit_then ?_
   refine k_exit_then ?_
   refine k_exit_same ?_
   refine KK hK5 ?_
   refine WS fun _ hK15 => ?_
   refine rS (AG rfl) ?_
   refine RK hK15 ?_
   refine w_ret ?_
   refine Q1 hQ rfl rfl rfl ?_
   first | exact congrArg Value.bool (decide_eq_false (lists_ne hx hy h)).symm | exact congrArg Value.bool (decide_eq_true (lists_eq (by omega) hl0_1 (by omega))).symm | exact congrArg Value.bool (decide_eq_false (fun e => by subst e; omega)).symm
 replace h10 := DT h10
 refine WK hK8 ?_
 refine w_seq fun _ hK11 => ?_
 refine w_block ?_
 refine w_seq fun _ hK12 => ?_
 refine w_draw mixed 9 (by kernel_rfl) ?_
 refine dS (MV rfl) ?_
 refine dS (MV rfl) ?_
 obtain ⟨x, hx⟩ : ∃ y_, la[i]? = some y_ := ⟨la[i]'(by omega), List.getElem?_eq_getElem _⟩
 have hxm : (la.map iC)[i]? = some (iC x) := by rw [List.getElem?_map, hx]; rfl
 refine dS (IA i rfl (has_at 0 rfl) te61 (by decide) (by omega) (by omega)) ?_
 refine dS (LE1 i 0 (Value.int .i64 x) rfl tk3 (has_at 0 rfl) hxm rfl (by decide) rfl) ?_
 refine dS (MV rfl) ?_
 refine dS (MV rfl) ?_
 obtain ⟨y, hy⟩ : ∃ y_, lb[i]? = some y_ := ⟨lb[i]'(by omega), List.getElem?_eq_getElem _⟩
 have hym : (lb.map iC)[i]? = some (iC y) := by rw [List.getElem?_map, hy]; rfl
 refine dS (IA i rfl (has_at 1 rfl) te61 (by decide) (by omega) (by omega)) ?_
 refine dS (LE1 i 0 (Value.int .i64 y) rfl tk3 (has_at 1 rfl) hym rfl (by decide) rfl) ?_
 refine dS (BI rfl b_neq) ?_
 refine d_end ?_
 refine RK hK12 ?_
 refine w_if rfl (fun h => ?_) (fun h => ?_)
 · replace h := XT h
   refine WS fun _ hK13 => ?_
   refine rS (AG rfl) ?_
   refine RK hK13 ?_
   refine w_ret ?_
   refine Q1 hQ rfl rfl rfl ?_
   first | exact congrArg Value.bool (decide_eq_false (lists_ne hx hy h)).symm | exact congrArg Value.bool (decide_eq_true (lists_eq (by omega) hl0_1 (by omega))).symm | exact congrArg Value.bool (decide_eq_false (fun e => by subst e; omega)).symm
 replace h := XF h
 refine w_skip ?_
 refine k_block ?_
 refine KK hK11 ?_
 refine w_region ?_
 refine rS (MV rfl) ?_
 refine rS (BI rfl (b_add ⟨by omega, by omega⟩)) ?_
 refine rS (AG rfl) ?_
 refine r_nil ?_
 have hb14 : (Value.int .i64 (((i + 1) : Nat) : Int)) = (Value.int .i64 (((i : Nat) : Int) + 1)) := by exact congrArg (Value.int .i64) (by omega)
 refine k_then (hJ7 ⟨(i + 1), ⟨by omega, take_same hl0_1 hx hy h⟩⟩ _ _ _ rfl (by first | omega | (simp; omega)) (Sub.cons rfl <| Sub.cons rfl <| sub_val rfl hb14 <| Sub.nil _) (fun w hs => St.sel [0, 1] rfl rfl hs))

set_option maxRecDepth 100000 in
set_option maxHeartbeats 400000 in
theorem walls_bad (ts : List StretchV) (tsA : Option Addr) (tsC : Nat) (s : SledV) (hlen : ts.length ≤ 1000000) (hside : ∀ x ∈ ts, 0 ≤ x.Side ∧ x.Side ≤ 255) (htr : trackOk ts = false) :
    FnV Try.prog 36 [(Value.agg (TrackV.cells (TrackV.mk (Slc.mk tsA ts.length tsC))).toArray), (Value.agg (SledV.cells s).toArray)] [(rd tsA ts.length 9 (ts.map StretchV.cells))] (Value.tuple [(Value.slice none 0 0), (Value.int .i64 (bothE s ts))].toArray) := by
 have hb0 : ¬ bothE s ts = 0 := by rw [bothE_bad htr]; decide
 refine fnV_of go36 Try.func36 rfl rfl fun w0 Q hQ hN => ?_
 change WJ _ _ _ _ [(0, (Value.agg (TrackV.cells (TrackV.mk (Slc.mk tsA ts.length tsC))).toArray)), (1, (Value.agg (SledV.cells s).toArray))] [(rd tsA ts.length 9 (ts.map StretchV.cells)).ro]
 refine WS fun _ hK1 => ?_
 refine BXA rfl fun b2 => ?_
 refine BXA rfl fun b3 => ?_
 refine rS (AG rfl) ?_
 refine rS (AG rfl) ?_
 refine RK hK1 ?_
 refine WS fun _ hK4 => ?_
 refine rS (LW 1 rfl tk24 rfl rfl) ?_
 refine rS (LW 0 rfl tk28 rfl rfl) ?_
 refine rS (CL (open_bad ts tsA tsC s hlen hside htr) (ha_at 2 rfl rfl <| ha_nil) rfl) ?_
 refine rS (MV rfl) ?_
 refine rS (EX rfl) ?_
 refine rS (EX rfl) ?_
 refine rS (EX rfl) ?_
 refine AL rfl tz108 fun b5 => ?_
 refine AL rfl tz108 fun b6 => ?_
 refine SW1 rfl ts108 rfl ?_
 refine SW0 rfl ts108 rfl ?_
 refine rS (AG rfl) ?_
 refine RK hK4 ?_
 refine w_seq fun _ hK7 => ?_
 refine WS fun _ hK8 => ?_
 refine rS (MV rfl) ?_
 refine rS (BI rfl b_neq) ?_
 refine RK hK8 ?_
 refine w_if rfl (fun he => ?_) (fun he => ?_)
 rotate_left 1
 · replace he := XF he
   exact absurd he hb0
 replace he := XT he
 refine WS fun _ hK9 => ?_
 refine rS (MV rfl) ?_
 refine rS (AG rfl) ?_
 refine rS (AG rfl) ?_
 refine RK hK9 ?_
 refine w_ret ?_
 exact Q2 hQ rfl rfl rfl rfl rfl

set_option maxRecDepth 100000 in
set_option maxHeartbeats 400000 in
theorem walls_sled (ts : List StretchV) (tsA : Option Addr) (tsC : Nat) (s : SledV) (hlen : ts.length ≤ 1000000) (hside : ∀ x ∈ ts, 0 ≤ x.Side ∧ x.Side ≤ 255) (htr : trackOk ts = true) (hns : ¬ SledOk s) :
    FnV Try.prog 36 [(Value.agg (TrackV.cells (TrackV.mk (Slc.mk tsA ts.length tsC))).toArray), (Value.agg (SledV.cells s).toArray)] [(rd tsA ts.length 9 (ts.map StretchV.cells))] (Value.tuple [(Value.slice none 0 0), (Value.int .i64 (bothE s ts))].toArray) := by
 have hb0 : ¬ bothE s ts = 0 := by rw [bothE_sled htr hns]; decide
 refine fnV_of go36 Try.func36 rfl rfl fun w0 Q hQ hN => ?_
 change WJ _ _ _ _ [(0, (Value.agg (TrackV.cells (TrackV.mk (Slc.mk tsA ts.length tsC))).toArray)), (1, (Value.agg (SledV.cells s).toArray))] [(rd tsA ts.length 9 (ts.map StretchV.cells)).ro]
 refine WS fun _ hK1 => ?_
 refine BXA rfl fun b2 => ?_
 refine BXA rfl fun b3 => ?_
 refine rS (AG rfl) ?_
 refine rS (AG rfl) ?_
 refine RK hK1 ?_
 refine WS fun _ hK4 => ?_
 refine rS (LW 1 rfl tk24 rfl rfl) ?_
 refine rS (LW 0 rfl tk28 rfl rfl) ?_
 refine rS (CL (open_ok ts tsA tsC s hlen hside htr) (ha_at 2 rfl rfl <| ha_nil) rfl) ?_
 refine rS (MV rfl) ?_
 refine rS (EX rfl) ?_
 refine rS (EX rfl) ?_
 refine rS (EX rfl) ?_
 refine AL rfl tz108 fun b5 => ?_
 refine AL rfl tz108 fun b6 => ?_
 refine SW1 rfl ts108 rfl ?_
 refine SW0 rfl ts108 rfl ?_
 refine rS (AG rfl) ?_
 refine RK hK4 ?_
 refine w_seq fun _ hK7 => ?_
 refine WS fun _ hK8 => ?_
 refine rS (MV rfl) ?_
 refine rS (BI rfl b_neq) ?_
 refine RK hK8 ?_
 refine w_if rfl (fun he => ?_) (fun he => ?_)
 rotate_left 1
 · replace he := XF he
   exact absurd he hb0
 replace he := XT he
 refine WS fun _ hK9 => ?_
 refine rS (MV rfl) ?_
 refine rS (AG rfl) ?_
 refine rS (AG rfl) ?_
 refine RK hK9 ?_
 refine w_ret ?_
 exact Q2 hQ rfl rfl rfl rfl rfl

set_option maxRecDepth 100000 in
set_option maxHeartbeats 400000 in
theorem walls_ok (ts : List StretchV) (tsA : Option Addr) (tsC : Nat) (s : SledV) (hlen : ts.length ≤ 1000000) (hside : ∀ x ∈ ts, 0 ≤ x.Side ∧ x.Side ≤ 255) (htr : trackOk ts = true) (hs : SledOk s) :
    FnX Try.prog 36 [(Value.agg (TrackV.cells (TrackV.mk (Slc.mk tsA ts.length tsC))).toArray), (Value.agg (SledV.cells s).toArray)] [(rd tsA ts.length 9 (ts.map StretchV.cells))] (fun (x : (Option Addr) × Nat) => (Value.tuple [(Value.slice x.1 ((wallsL s ts).length) x.2), (Value.int .i64 (bothE s ts))].toArray)) (fun (x : (Option Addr) × Nat) => True) (fun (x : (Option Addr) × Nat) => [(own x.1 x.2 3 1 ((wallsL s ts).map iC))]) := by
 have hb0 := bothE_ok htr hs
 have hst := trackOk_all htr
 have hl12 := trackOk_le htr
 have hl1 := trackOk_pos htr
 refine fnX_of go36 Try.func36 rfl rfl fun w0 Q hQ hN => ?_
 change WJ _ _ _ _ [(0, (Value.agg (TrackV.cells (TrackV.mk (Slc.mk tsA ts.length tsC))).toArray)), (1, (Value.agg (SledV.cells s).toArray))] [(rd tsA ts.length 9 (ts.map StretchV.cells)).ro]
 refine WS fun _ hK1 => ?_
 refine BXA rfl fun b2 => ?_
 refine BXA rfl fun b3 => ?_
 refine rS (AG rfl) ?_
 refine rS (AG rfl) ?_
 refine RK hK1 ?_
 refine WS fun _ hK4 => ?_
 refine rS (LW 1 rfl tk24 rfl rfl) ?_
 refine rS (LW 0 rfl tk28 rfl rfl) ?_
 refine rS (CL (open_ok ts tsA tsC s hlen hside htr) (ha_at 2 rfl rfl <| ha_nil) rfl) ?_
 refine rS (MV rfl) ?_
 refine rS (EX rfl) ?_
 refine rS (EX rfl) ?_
 refine rS (EX rfl) ?_
 refine AL rfl tz108 fun b5 => ?_
 refine AL rfl tz108 fun b6 => ?_
 refine SW1 rfl ts108 rfl ?_
 refine SW0 rfl ts108 rfl ?_
 refine rS (AG rfl) ?_
 refine RK hK4 ?_
 refine w_seq fun _ hK7 => ?_
 refine WS fun _ hK8 => ?_
 refine rS (MV rfl) ?_
 refine rS (BI rfl b_neq) ?_
 refine RK hK8 ?_
 refine w_if rfl (fun he => ?_) (fun he => ?_)
 · replace he := XT he
   exact absurd hb0 he
 replace he := XF he
 refine WK hK7 ?_
 refine WS fun _ hK9 => ?_
 refine rS (FA 0 rfl fo24_0 rfl) ?_
 refine rS (L1 (Value.slice tsA ts.length tsC) 3 rfl tk22 rfl rfl) ?_
 refine rS (LN rfl ut22) ?_
 refine r_mks (n := ts.length) (es := (List.map iC (List.replicate ts.length 0))) rfl rfl rfl ta61 (by omega) (by omega) (by simp only [maxLen]; omega) (by rw [List.map_replicate]; rfl) rfl fun b10 => ?_
 change RJ _ _ _ _ _ _ ((own (some ⟨b10, 0, none⟩) ts.length 3 1 (List.map iC (List.replicate ts.length 0))) :: _)
 refine rS (AG rfl) ?_
 refine RK hK9 ?_
 refine w_seq fun _ hK11 => ?_
 refine WS fun _ hK12 => ?_
 refine rS (LW 1 rfl tk108 rfl rfl) ?_
 refine cX (heights_c s ts tsA tsC true hs (by first | assumption | omega | (simp; done) | (simp; omega)) (by first | assumption | omega | (simp; done) | (simp; omega)) hside) (ha_at 5 rfl rfl <| ha_nil) rfl fun b15 hy14 => ?_
 change RJ _ _ _ _ _ ((_, (Value.map (some b15))) :: _) ((mp b15 (mapV iV (hgts true s ts ts.length))) :: _)
 refine r_mrange 0 rfl rfl ut120 rfl rfl fun r16 => ?_
 change RJ _ _ _ _ _ ((_, (Value.pointer (some ⟨r16, 0, none⟩))) :: _) [(mi r16 b15 (mapV iV (hgts true s ts ts.length)) (mapV iV (hgts true s ts ts.length)) none), (own (some ⟨b10, 0, none⟩) ts.length 3 1 (List.map iC (List.replicate ts.length 0))), (blk b6 108 (RiderV.cells (RiderV.mk s (TrackV.mk (Slc.mk tsA ts.length tsC)) true))), (blk b5 108 (RiderV.cells (RiderV.mk s (TrackV.mk (Slc.mk tsA ts.length tsC)) false))), (blk b3 28 (SledV.cells s)), (blk b2 24 (TrackV.cells (TrackV.mk (Slc.mk tsA ts.length tsC)))), (rd tsA ts.length 9 (ts.map StretchV.cells)).ro]
 refine RK hK12 ?_
 refine w_block ?_
 rw [wallsP_start]
 have hinit : (∀ p ∈ (hgts true s ts ts.length), p ∈ hgts true s ts ts.length) := by exact fun _ h => h
 refine w_loop (ι := { z : (List (Int × Int)) // (∀ p ∈ z, p ∈ hgts true s ts ts.length) }) (fun z => [(2, (Value.pointer (some ⟨b2, 0, none⟩))), (3, (Value.pointer (some ⟨b3, 0, none⟩))), (7, (Value.pointer (some ⟨b6, 0, none⟩))), (9, (Value.slice (some ⟨b10, 0, none⟩) ts.length ts.length)), (28, (Value.pointer (some ⟨r16, 0, none⟩)))]) (fun z => [(mi r16 b15 (mapV iV (hgts true s ts ts.length)) (mapV iV z.1) none), (own (some ⟨b10, 0, none⟩) ts.length 3 1 ((wallsP s ts z.1).map iC)), (blk b6 108 (RiderV.cells (RiderV.mk s (TrackV.mk (Slc.mk tsA ts.length tsC)) true))), (blk b3 28 (SledV.cells s)), (blk b2 24 (TrackV.cells (TrackV.mk (Slc.mk tsA ts.length tsC)))), (rd tsA ts.length 9 (ts.map StretchV.cells)).ro]) (fun z => z.1.length) ⟨(hgts true s ts ts.length), hinit⟩ (Sub.cons rfl <| Sub.cons rfl <| Sub.cons rfl <| Sub.cons rfl <| Sub.cons rfl <| Sub.nil _) (fun w hs => St.sel [0, 1, 2, 4, 5, 6] rfl rfl hs) ?_
 clear hinit
 rintro ⟨left, hl6_0⟩ J17 hJ17
 change WJ _ _ _ _ [(2, (Value.pointer (some ⟨b2, 0, none⟩))), (3, (Value.pointer (some ⟨b3, 0, none⟩))), (7, (Value.pointer (some ⟨b6, 0, none⟩))), (9, (Value.slice (some ⟨b10, 0, none⟩) ts.length ts.length)), (28, (Value.pointer (some ⟨r16, 0, none⟩)))] [(mi r16 b15 (mapV iV (hgts true s ts ts.length)) (mapV iV left) none), (own (some ⟨b10, 0, none⟩) ts.length 3 1 ((wallsP s ts left).map iC)), (blk b6 108 (RiderV.cells (RiderV.mk s (TrackV.mk (Slc.mk tsA ts.length tsC)) true))), (blk b3 28 (SledV.cells s)), (blk b2 24 (TrackV.cells (TrackV.mk (Slc.mk tsA ts.length tsC)))), (rd tsA ts.length 9 (ts.map StretchV.cells)).ro]
 refine WS fun _ hK18 => ?_
 refine r_mnext_v (f := iV) 0 rfl rfl rfl rfl (fun hemp => ?_) (fun x y hm hnd => ?_)
 · refine rS (EX rfl) ?_
   refine RK hK18 ?_
   refine w_seq fun _ hK19 => ?_
   refine w_if_false rfl ?_
   refine w_exit ?_
   refine k_exit_then ?_
   refine k_exit_then ?_
   refine k_exit_same ?_
   refine KK hK11 ?_
   refine WS fun _ hK20 => ?_
   rw [hemp, wallsP_end]
   refine rS (MV rfl) ?_
   refine rS (AG rfl) ?_
   refine rS (AG rfl) ?_
   refine RK hK20 ?_
   refine w_ret ?_
   refine hQ _ _ _ (l_nil (vs := [(Value.slice (some ⟨b10, 0, none⟩) ts.length ts.length), (Value.int .i64 0)]) ⟨rfl, rfl, trivial⟩ fun w hs => endX ((some ⟨b10, 0, none⟩), ts.length) [1] ?_ ?_ rfl rfl rfl hs)
   · rw [hb0, wallsL_length]; rfl
   · trivial
 change RJ _ _ _ _ _ ((_, (Value.tuple [(Value.bool true), (Value.int .i64 x), (Value.int .i64 y)].toArray)) :: _) [(mi r16 b15 (mapV iV (hgts true s ts ts.length)) (mapV iV (delK left x)) (some (x, (Value.int .i64 y)))), (own (some ⟨b10, 0, none⟩) ts.length 3 1 ((wallsP s ts left).map iC)), (blk b6 108 (RiderV.cells (RiderV.mk s (TrackV.mk (Slc.mk tsA ts.length tsC)) true))), (blk b3 28 (SledV.cells s)), (blk b2 24 (TrackV.cells (TrackV.mk (Slc.mk tsA ts.length tsC)))), (rd tsA ts.length 9 (ts.map StretchV.cells)).ro]
 refine rS (EX rfl) ?_
 refine RK hK18 ?_
 refine w_seq fun _ hK21 => ?_
 refine w_if_true rfl ?_
 refine WK hK21 ?_
 refine w_block ?_
 refine WS fun _ hK22 => ?_
 obtain ⟨hx0, hxn, hxc, hyv⟩ := hgts_mem (hl6_0 _ hm)
 have hwl := wallsP_length (s := s) (ts := ts) (l := left)
 refine rS (SX (sd_mentry 0 rfl rfl rfl) rfl rfl) ?_
 refine rS (EX rfl) ?_
 refine rS (EX rfl) ?_
 refine rS (AG rfl) ?_
 refine rS (AG rfl) ?_
 refine RK hK22 ?_
 refine w_region ?_
 refine rS (MV rfl) ?_
 refine rS (MV rfl) ?_
 refine rS (MV rfl) ?_
 refine rS (MX rfl) ?_
 obtain ⟨x23, hx24⟩ : ∃ y_, (wallsP s ts left)[(x).toNat]? = some y_ := ⟨(wallsP s ts left)[(x).toNat]'(by omega), List.getElem?_eq_getElem _⟩
 have hx24m : ((wallsP s ts left).map iC)[(x).toNat]? = some (iC x23) := by rw [List.getElem?_map, hx24]; rfl
 refine rS (IA ((x).toNat) rfl (has_own_n (n := ts.length) 1 rfl (by first | (simp; done) | (simp; omega))) te61 (by decide) (by omega) (by omega)) ?_
 have hb25 : ((wallsP s ts left).set ((x).toNat) (max 0 y)) = (wallsP s ts (delK left x)) := by exact wallsP_step hm hl6_0
 refine r_store_own (k := (x).toNat) (o := 0) (vs := [(Value.int .i64 (max 0 y))]) (es' := (List.map iC (wallsP s ts (delK left x)))) (C' := [_, (own (some ⟨b10, 0, none⟩) ts.length 3 1 (List.map iC (wallsP s ts (delK left x)))), _, _, _, _]) 1 rfl rfl rfl ts3 rfl rfl rfl rfl hx24m rfl (by decide) (by exact (List.map_set (f := iC) (l := (wallsP s ts left)) (i := (x).toNat) (a := (max 0 y))).symm.trans (congrArg _ hb25)) rfl ?_
 refine r_nil ?_
 refine k_block ?_
 refine k_imp (C' := [(mi r16 b15 (mapV iV (hgts true s ts ts.length)) (mapV iV (delK left x)) none), (own (some ⟨b10, 0, none⟩) ts.length 3 1 (List.map iC (wallsP s ts (delK left x)))), (blk b6 108 (RiderV.cells (RiderV.mk s (TrackV.mk (Slc.mk tsA ts.length tsC)) true))), (blk b3 28 (SledV.cells s)), (blk b2 24 (TrackV.cells (TrackV.mk (Slc.mk tsA ts.length tsC)))), (rd tsA ts.length 9 (ts.map StretchV.cells)).ro]) 0 rfl mi_none rfl ?_
 refine k_then (hJ17 ⟨(delK left x), (fun p hp => hl6_0 p (mem_delK.1 hp).1)⟩ _ _ _ rfl (delK_lt hm) (Sub.cons rfl <| Sub.cons rfl <| Sub.cons rfl <| Sub.cons rfl <| Sub.cons rfl <| Sub.nil _) (fun w hs => St.sel [0, 1, 2, 3, 4, 5] rfl rfl hs))

theorem walls_no (ts : List StretchV) (tsA : Option Addr) (tsC : Nat) (s : SledV) (hlen : ts.length ≤ 1000000) (hside : ∀ x ∈ ts, 0 ≤ x.Side ∧ x.Side ≤ 255) (hb : ¬ bothE s ts = 0) :
    FnV Try.prog 36 [(Value.agg (TrackV.cells (TrackV.mk (Slc.mk tsA ts.length tsC))).toArray), (Value.agg (SledV.cells s).toArray)] [(rd tsA ts.length 9 (ts.map StretchV.cells))] (Value.tuple [(Value.slice none 0 0), (Value.int .i64 (bothE s ts))].toArray) := by
  by_cases htr : trackOk ts = true
  · by_cases hs : SledOk s
    · exact absurd (bothE_ok htr hs) hb
    · exact walls_sled ts tsA tsC s hlen hside htr hs
  · exact walls_bad ts tsA tsC s hlen hside (by simpa using htr)

theorem walls_c (ts : List StretchV) (tsA : Option Addr) (tsC : Nat) (s : SledV) (hlen : ts.length ≤ 1000000) (hside : ∀ x ∈ ts, 0 ≤ x.Side ∧ x.Side ≤ 255) :
    FnX Try.prog 36 [(Value.agg (TrackV.cells (TrackV.mk (Slc.mk tsA ts.length tsC))).toArray), (Value.agg (SledV.cells s).toArray)] [(rd tsA ts.length 9 (ts.map StretchV.cells))] (fun (x : (Option Addr) × Nat) => (Value.tuple [(Value.slice x.1 ((wallsU s ts).length) x.2), (Value.int .i64 (bothE s ts))].toArray)) (fun (x : (Option Addr) × Nat) => True) (fun (x : (Option Addr) × Nat) => [(own x.1 x.2 3 1 ((wallsU s ts).map iC))]) := by
  by_cases hb : bothE s ts = 0
  · obtain ⟨h1, h2⟩ := bothE_zero hb
    rw [wallsU_ok h1 h2]
    exact walls_ok ts tsA tsC s hlen hside h1 h2
  · rw [wallsU_no hb]
    exact FnV.toX (none, 0) (walls_no ts tsA tsC s hlen hside hb) trivial own_none

set_option maxRecDepth 100000 in
set_option maxHeartbeats 400000 in
theorem rWalls_no (ts : List StretchV) (tsA : Option Addr) (tsC : Nat) (s : SledV) (hlen : ts.length ≤ 1000000) (hside : ∀ x ∈ ts, 0 ≤ x.Side ∧ x.Side ≤ 255) (hc : 0 ≤ s.Class ∧ s.Class ≤ 255) (hb : ¬ bothE s ts = 0) :
    FnV Try.prog 37 [(Value.agg (TrackV.cells (TrackV.mk (Slc.mk tsA ts.length tsC))).toArray), (Value.agg (SledV.cells s).toArray)] [(rd tsA ts.length 9 (ts.map StretchV.cells))] (Value.tuple [(Value.slice none 0 0), (Value.int .i64 (bothE s ts))].toArray) := by
 refine fnV_of go37 Try.func37 rfl rfl fun w0 Q hQ hN => ?_
 change WJ _ _ _ _ [(0, (Value.agg (TrackV.cells (TrackV.mk (Slc.mk tsA ts.length tsC))).toArray)), (1, (Value.agg (SledV.cells s).toArray))] [(rd tsA ts.length 9 (ts.map StretchV.cells)).ro]
 refine WS fun _ hK1 => ?_
 refine BXA rfl fun b2 => ?_
 refine BXA rfl fun b3 => ?_
 refine rS (AG rfl) ?_
 refine rS (AG rfl) ?_
 refine RK hK1 ?_
 refine w_seq fun _ hK4 => ?_
 refine WS fun _ hK5 => ?_
 refine rS (LW 1 rfl tk24 rfl rfl) ?_
 refine rS (LW 0 rfl tk28 rfl rfl) ?_
 refine rS (CL (both_c ts tsA tsC s hlen hc) (ha_at 2 rfl rfl <| ha_nil) rfl) ?_
 refine rS (AG rfl) ?_
 refine RK hK5 ?_
 refine WS fun _ hK6 => ?_
 refine rS (MV rfl) ?_
 refine rS (BI rfl b_neq) ?_
 refine RK hK6 ?_
 refine w_if rfl (fun he => ?_) (fun he => ?_)
 rotate_left 1
 · replace he := XF he
   exact absurd he hb
 replace he := XT he
 refine WS fun _ hK7 => ?_
 refine rS (MV rfl) ?_
 refine rS (AG rfl) ?_
 refine rS (AG rfl) ?_
 refine RK hK7 ?_
 refine w_ret ?_
 exact Q2 hQ rfl rfl rfl rfl rfl

set_option maxRecDepth 100000 in
set_option maxHeartbeats 400000 in
theorem rWalls_ok (ts : List StretchV) (tsA : Option Addr) (tsC : Nat) (s : SledV) (hlen : ts.length ≤ 1000000) (hside : ∀ x ∈ ts, 0 ≤ x.Side ∧ x.Side ≤ 255) (hc : 0 ≤ s.Class ∧ s.Class ≤ 255) (htr : trackOk ts = true) (hs : SledOk s) :
    FnX Try.prog 37 [(Value.agg (TrackV.cells (TrackV.mk (Slc.mk tsA ts.length tsC))).toArray), (Value.agg (SledV.cells s).toArray)] [(rd tsA ts.length 9 (ts.map StretchV.cells))] (fun (x : (Option Addr) × Nat) => (Value.tuple [(Value.slice x.1 ((wallsL s ts).length) x.2), (Value.int .i64 (bothE s ts))].toArray)) (fun (x : (Option Addr) × Nat) => True) (fun (x : (Option Addr) × Nat) => [(own x.1 x.2 3 1 ((wallsL s ts).map iC))]) := by
 have hb0 := bothE_ok htr hs
 have hst := trackOk_all htr
 have hl12 := trackOk_le htr
 have hwl := wallsL_length (s := s) (ts := ts)
 refine fnX_of go37 Try.func37 rfl rfl fun w0 Q hQ hN => ?_
 change WJ _ _ _ _ [(0, (Value.agg (TrackV.cells (TrackV.mk (Slc.mk tsA ts.length tsC))).toArray)), (1, (Value.agg (SledV.cells s).toArray))] [(rd tsA ts.length 9 (ts.map StretchV.cells)).ro]
 refine WS fun _ hK1 => ?_
 refine BXA rfl fun b2 => ?_
 refine BXA rfl fun b3 => ?_
 refine rS (AG rfl) ?_
 refine rS (AG rfl) ?_
 refine RK hK1 ?_
 refine w_seq fun _ hK4 => ?_
 refine WS fun _ hK5 => ?_
 refine rS (LW 1 rfl tk24 rfl rfl) ?_
 refine rS (LW 0 rfl tk28 rfl rfl) ?_
 refine rS (CL (both_c ts tsA tsC s hlen hc) (ha_at 2 rfl rfl <| ha_nil) rfl) ?_
 refine rS (AG rfl) ?_
 refine RK hK5 ?_
 refine WS fun _ hK6 => ?_
 refine rS (MV rfl) ?_
 refine rS (BI rfl b_neq) ?_
 refine RK hK6 ?_
 refine w_if rfl (fun he => ?_) (fun he => ?_)
 · replace he := XT he
   exact absurd hb0 he
 replace he := XF he
 refine WK hK4 ?_
 refine WS fun _ hK7 => ?_
 refine rS (AG rfl) ?_
 refine RK hK7 ?_
 refine w_seq fun _ hK8 => ?_
 refine WS fun _ hK9 => ?_
 refine rS (AG rfl) ?_
 refine RK hK9 ?_
 refine w_block ?_
 refine w_own_nil 3 1 ?_
 have hinit : (0 ≤ ts.length) := by exact Nat.zero_le _
 refine w_loop (ι := { z : Nat × (Option Addr) × Nat // (z.1 ≤ ts.length) }) (fun z => [(2, (Value.pointer (some ⟨b2, 0, none⟩))), (3, (Value.pointer (some ⟨b3, 0, none⟩))), (7, (Value.slice z.1.2.1 (((wallsL s ts).take z.1.1).length) z.1.2.2)), (8, (Value.int .i64 ((z.1.1 : Nat) : Int)))]) (fun z => [(own z.1.2.1 z.1.2.2 3 1 (((wallsL s ts).take z.1.1).map iC)), (blk b3 28 (SledV.cells s)), (blk b2 24 (TrackV.cells (TrackV.mk (Slc.mk tsA ts.length tsC)))), (rd tsA ts.length 9 (ts.map StretchV.cells)).ro]) (fun z => ts.length - z.1.1) ⟨(0, none, 0), hinit⟩ (Sub.cons rfl <| Sub.cons rfl <| Sub.cons rfl <| Sub.cons rfl <| Sub.nil _) (fun w hs => St.sel [0, 1, 2, 3] rfl rfl hs) ?_
 clear hinit
 rintro ⟨⟨i, a, c⟩, hl6_0⟩ J10 hJ10
 try dsimp only at hl6_0
 change WJ _ _ _ _ [(2, (Value.pointer (some ⟨b2, 0, none⟩))), (3, (Value.pointer (some ⟨b3, 0, none⟩))), (7, (Value.slice a (((wallsL s ts).take i).length) c)), (8, (Value.int .i64 ((i : Nat) : Int)))] [(own a c 3 1 (((wallsL s ts).take i).map iC)), (blk b3 28 (SledV.cells s)), (blk b2 24 (TrackV.cells (TrackV.mk (Slc.mk tsA ts.length tsC)))), (rd tsA ts.length 9 (ts.map StretchV.cells)).ro]
 refine w_seq fun _ hK11 => ?_
 refine WS fun _ hK12 => ?_
 refine rS (MV rfl) ?_
 refine rS (FA 0 rfl fo24_0 rfl) ?_
 refine rS (L1 (Value.slice tsA ts.length tsC) 2 rfl tk22 rfl rfl) ?_
 refine rS (LN rfl ut22) ?_
 refine rS (BI rfl b_lss) ?_
 refine RK hK12 ?_
 refine w_if rfl (fun h13 => ?_) (fun h13 => ?_)
 rotate_left 1
 · replace h13 := DF h13
   refine w_exit ?_
   refine k_exit_then ?_
   refine k_exit_then ?_
   refine k_exit_same ?_
   refine KK hK8 ?_
   refine WS fun _ hK26 => ?_
   rw [(List.take_of_length_le (by omega) : (wallsL s ts).take i = wallsL s ts)]
   refine rS (MV rfl) ?_
   refine rS (AG rfl) ?_
   refine rS (AG rfl) ?_
   refine RK hK26 ?_
   refine w_ret ?_
   refine hQ _ _ _ (l_nil (vs := [(Value.slice a ((wallsL s ts).length) c), (Value.int .i64 0)]) ⟨rfl, rfl, trivial⟩ fun w hs => endX (a, c) [0] ?_ ?_ rfl rfl rfl hs)
   · rw [hb0]; rfl
   · trivial
 replace h13 := DT h13
 refine WK hK11 ?_
 refine w_seq fun _ hK14 => ?_
 refine w_block ?_
 refine WS fun _ hK15 => ?_
 refine rS (AG rfl) ?_
 refine RK hK15 ?_
 refine w_seq fun _ hK16 => ?_
 refine WS fun _ hK17 => ?_
 refine rS (LW 2 rfl tk24 rfl rfl) ?_
 refine rS (MV rfl) ?_
 refine rS (CL (curve_c ts tsA tsC ((i : Nat) : Int) hlen hside) (ha_at 3 rfl rfl <| ha_nil) rfl) ?_
 refine RK hK17 ?_
 refine w_if rfl (fun hc => ?_) (fun hc => ?_)
 rotate_left 1
 · refine WK hK16 ?_
   refine w_region ?_
   refine rS (MV rfl) ?_
   refine rS (MV rfl) ?_
   refine r_bs (xs := [.tmp 33]) (cs := [(Value.int .i64 0)]) rfl te61 tz3 rfl rfl rfl rfl (by simp [Value.cells]) rfl rfl fun b22 => ?_
   refine r_append (es2 := (List.map iC ((wallsL s ts).take (i + 1)))) (m' := ((wallsL s ts).take (i + 1)).length) 1 rfl rfl rfl ta61 rfl rfl (by simp) (has_rd_blk (es := List.map iC [0]) 0 rfl rfl (by simp [iC_length]) rfl) (one_iC _) (by simp; omega) (by simp [maxLen]; omega) (by first | (rw [wallsL_yes (by omega) hc]; simp) | (rw [wallsL_not (by omega) hc]; simp)) (by simp) rfl fun a23 c24 => ?_
   change RJ _ _ _ _ _ _ [_, (own a23 c24 3 1 (List.map iC ((wallsL s ts).take (i + 1)))), _, _, _]
   refine rS (AG rfl) ?_
   refine r_nil ?_
   refine k_block ?_
   refine KK hK14 ?_
   refine w_region ?_
   refine rS (MV rfl) ?_
   refine rS (BI rfl (b_add ⟨by omega, by omega⟩)) ?_
   refine rS (AG rfl) ?_
   refine r_nil ?_
   have hb25 : (Value.int .i64 (((i + 1) : Nat) : Int)) = (Value.int .i64 (((i : Nat) : Int) + 1)) := by exact congrArg (Value.int .i64) (by omega)
   refine k_then (hJ10 ⟨((i + 1), a23, c24), (by first | omega | (simp only []; omega))⟩ _ _ _ rfl (by first | omega | (simp; omega)) (Sub.cons rfl <| Sub.cons rfl <| Sub.cons rfl <| sub_val rfl hb25 <| Sub.nil _) (fun w hs => St.sel [1, 2, 3, 4] rfl rfl hs))
 refine w_region ?_
 refine rS (LW 2 rfl tk24 rfl rfl) ?_
 refine rS (LW 1 rfl tk28 rfl rfl) ?_
 refine rS (MV rfl) ?_
 refine rS (CL (rheight_c ts tsA tsC s ((i : Nat) : Int) hs (by first | assumption | omega | (simp; done) | (simp; omega)) (by first | assumption | omega | (simp; done) | (simp; omega)) (by first | assumption | omega | (simp; done) | (simp; omega))) (ha_at 3 rfl rfl <| ha_nil) rfl) ?_
 refine rS (SX (sd_field1 (v := (Value.int .i64 (hgt true s ts ((i : Nat) : Int).toNat))) rfl rfl fo26_1 tf26_1 rfl) rfl rfl) ?_
 refine rS (MX rfl) ?_
 refine rS (AG rfl) ?_
 refine RK hK16 ?_
 refine w_region ?_
 refine rS (MV rfl) ?_
 refine rS (MV rfl) ?_
 refine r_bs (xs := [.tmp 33]) (cs := [(Value.int .i64 (max 0 (hgt true s ts ((i : Nat) : Int).toNat)))]) rfl te61 tz3 rfl rfl rfl rfl (by simp [Value.cells]) rfl rfl fun b18 => ?_
 refine r_append (es2 := (List.map iC ((wallsL s ts).take (i + 1)))) (m' := ((wallsL s ts).take (i + 1)).length) 1 rfl rfl rfl ta61 rfl rfl (by simp) (has_rd_blk (es := List.map iC [(max 0 (hgt true s ts ((i : Nat) : Int).toNat))]) 0 rfl rfl (by simp [iC_length]) rfl) (one_iC _) (by simp; omega) (by simp [maxLen]; omega) (by first | (rw [wallsL_yes (by omega) hc]; simp) | (rw [wallsL_not (by omega) hc]; simp)) (by simp) rfl fun a19 c20 => ?_
 change RJ _ _ _ _ _ _ [_, (own a19 c20 3 1 (List.map iC ((wallsL s ts).take (i + 1)))), _, _, _]
 refine rS (AG rfl) ?_
 refine r_nil ?_
 refine k_block ?_
 refine KK hK14 ?_
 refine w_region ?_
 refine rS (MV rfl) ?_
 refine rS (BI rfl (b_add ⟨by omega, by omega⟩)) ?_
 refine rS (AG rfl) ?_
 refine r_nil ?_
 have hb21 : (Value.int .i64 (((i + 1) : Nat) : Int)) = (Value.int .i64 (((i : Nat) : Int) + 1)) := by exact congrArg (Value.int .i64) (by omega)
 refine k_then (hJ10 ⟨((i + 1), a19, c20), (by first | omega | (simp only []; omega))⟩ _ _ _ rfl (by first | omega | (simp; omega)) (Sub.cons rfl <| Sub.cons rfl <| Sub.cons rfl <| sub_val rfl hb21 <| Sub.nil _) (fun w hs => St.sel [1, 2, 3, 4] rfl rfl hs))

theorem rWalls_c (ts : List StretchV) (tsA : Option Addr) (tsC : Nat) (s : SledV) (hlen : ts.length ≤ 1000000) (hside : ∀ x ∈ ts, 0 ≤ x.Side ∧ x.Side ≤ 255) (hc : 0 ≤ s.Class ∧ s.Class ≤ 255) :
    FnX Try.prog 37 [(Value.agg (TrackV.cells (TrackV.mk (Slc.mk tsA ts.length tsC))).toArray), (Value.agg (SledV.cells s).toArray)] [(rd tsA ts.length 9 (ts.map StretchV.cells))] (fun (x : (Option Addr) × Nat) => (Value.tuple [(Value.slice x.1 ((wallsU s ts).length) x.2), (Value.int .i64 (bothE s ts))].toArray)) (fun (x : (Option Addr) × Nat) => True) (fun (x : (Option Addr) × Nat) => [(own x.1 x.2 3 1 ((wallsU s ts).map iC))]) := by
  by_cases hb : bothE s ts = 0
  · obtain ⟨h1, h2⟩ := bothE_zero hb
    rw [wallsU_ok h1 h2]
    exact rWalls_ok ts tsA tsC s hlen hside hc h1 h2
  · rw [wallsU_no hb]
    exact FnV.toX (none, 0) (rWalls_no ts tsA tsC s hlen hside hc hb) trivial own_none

end Go.Proofs.Ytpbgdeojcefnmaa
