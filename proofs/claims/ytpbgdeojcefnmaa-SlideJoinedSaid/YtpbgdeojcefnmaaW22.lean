/-
  Walks: kreisel/kreisellaw03.span, kreisel/kreisellaw03.run, kreisel/kreisellaw03.bob, kreisel/kreisellaw03.safe, kreisel/kreisellaw03.alive, kreisel/kreisellaw03.ready
-/
import Derived.Test.YtpbgdeojcefnmaaTab
import Derived.Test.YtpbgdeojcefnmaaShort
import Derived.Test.YtpbgdeojcefnmaaThr
import Derived.Test.YtpbgdeojcefnmaaMono
import Derived.Test.YtpbgdeojcefnmaaSafe
import Derived.Test.YtpbgdeojcefnmaaAlive
import Derived.Test.YtpbgdeojcefnmaaW4
import Derived.Test.YtpbgdeojcefnmaaW9
import Derived.Test.YtpbgdeojcefnmaaW12
import Derived.Test.YtpbgdeojcefnmaaW15
import Derived.Test.YtpbgdeojcefnmaaW18
import Derived.Test.YtpbgdeojcefnmaaW20
namespace Go.Proofs.Ytpbgdeojcefnmaa
open Go.RowKit
set_option linter.unusedVariables false

set_option maxRecDepth 100000 in
set_option maxHeartbeats 400000 in
theorem lspan_c (lo : Int) (hi : Int) :
    FnV Try.prog 46 [(Value.int .i64 lo), (Value.int .i64 hi)] [] (Value.agg (SpanV.cells (SpanV.mk lo hi)).toArray) := by
 refine fnV_of go46 Try.func46 rfl rfl fun w0 Q hQ hN => ?_
 change WJ _ _ _ _ [(0, (Value.int .i64 lo)), (1, (Value.int .i64 hi))] []
 refine WS fun _ hK1 => ?_
 refine AL rfl tz26 fun b2 => ?_
 refine RK hK1 ?_
 refine WS fun _ hK3 => ?_
 refine rS (MV rfl) ?_
 refine rS (MV rfl) ?_
 refine rS (SX (sd_build (xs := [(0, .tmp 5), (1, .tmp 6)]) (cs := (SpanV.cells (SpanV.mk lo hi))) rfl rfl (built_of tb26 rfl)) rfl rfl) ?_
 refine SW0 rfl ts26 rfl ?_
 refine RK hK3 ?_
 refine w_ret ?_
 refine hQ _ _ _ (l_nil (vs := [(Value.agg (SpanV.cells (SpanV.mk lo hi)).toArray)]) ⟨⟨_, rfl, .inl ⟨_, _, tk26, at_blk (vs := (SpanV.cells (SpanV.mk lo hi))) 0 rfl rfl, rfl, rfl⟩⟩, trivial⟩ fun w hs => endV ?_ hs)
 show (Value.agg (SpanV.cells (SpanV.mk lo hi)).toArray) = (Value.agg (SpanV.cells (SpanV.mk lo hi)).toArray)
 clear hs w hQ hN hK3 hK1
 rfl

set_option maxRecDepth 100000 in
set_option maxHeartbeats 400000 in
theorem run_c (wall : Int) :
    FnX Try.prog 53 [(Value.int .i64 wall)] [] (fun (x : (Option Addr) × Nat) => (Value.agg (TrackV.cells (TrackV.mk (Slc.mk x.1 ((runL wall).length) x.2))).toArray)) (fun (x : (Option Addr) × Nat) => True) (fun (x : (Option Addr) × Nat) => [(own x.1 x.2 77 9 ((runL wall).map StretchV.cells))]) := by
 refine fnX_of go53 Try.func53 rfl rfl fun w0 Q hQ hN => ?_
 change WJ _ _ _ _ [(0, (Value.int .i64 wall))] []
 refine WS fun _ hK1 => ?_
 refine AL rfl tz24 fun b2 => ?_
 refine RK hK1 ?_
 refine WS fun _ hK3 => ?_
 refine rS (CL (lspan_c 4000 4100) (ha_nil) rfl) ?_
 refine rS (CL (lspan_c 400 420) (ha_nil) rfl) ?_
 refine rS (SX (sd_build (xs := [(0, .const (Value.int .i64 3)), (1, .tmp 3), (2, .tmp 4)]) (cs := (StretchV.cells (StretchV.mk 3 (SpanV.mk 4000 4100) (SpanV.mk 400 420) (SpanV.mk 0 0) 0 0))) rfl rfl (built_of tb77 rfl)) rfl rfl) ?_
 refine rS (CL (lspan_c 2000 2200) (ha_nil) rfl) ?_
 refine rS (CL (lspan_c 150 160) (ha_nil) rfl) ?_
 refine rS (CL (lspan_c 1500 1600) (ha_nil) rfl) ?_
 refine rS (MV rfl) ?_
 refine rS (SX (sd_build (xs := [(0, .const (Value.int .i64 5)), (1, .tmp 6), (2, .tmp 7), (3, .tmp 8), (4, .const (Value.int .u8 1)), (5, .tmp 9)]) (cs := (StretchV.cells (StretchV.mk 5 (SpanV.mk 2000 2200) (SpanV.mk 150 160) (SpanV.mk 1500 1600) 1 wall))) rfl rfl (built_of tb77 rfl)) rfl rfl) ?_
 refine rS (CL (lspan_c 3000 3000) (ha_nil) rfl) ?_
 refine rS (CL (lspan_c 300 330) (ha_nil) rfl) ?_
 refine rS (SX (sd_build (xs := [(0, .const (Value.int .i64 8)), (1, .tmp 11), (2, .tmp 12)]) (cs := (StretchV.cells (StretchV.mk 8 (SpanV.mk 3000 3000) (SpanV.mk 300 330) (SpanV.mk 0 0) 0 0))) rfl rfl (built_of tb77 rfl)) rfl rfl) ?_
 refine r_bs (xs := [.tmp 5, .tmp 10, .tmp 13]) (cs := ((StretchV.cells (StretchV.mk 3 (SpanV.mk 4000 4100) (SpanV.mk 400 420) (SpanV.mk 0 0) 0 0)) ++ (StretchV.cells (StretchV.mk 5 (SpanV.mk 2000 2200) (SpanV.mk 150 160) (SpanV.mk 1500 1600) 1 wall)) ++ (StretchV.cells (StretchV.mk 8 (SpanV.mk 3000 3000) (SpanV.mk 300 330) (SpanV.mk 0 0) 0 0)))) rfl te22 tz77 rfl rfl rfl rfl (by simp [Value.cells, StretchV.cells_length]) rfl rfl fun b4 => ?_
 refine r_blk_own (es := ((runL wall).map StretchV.cells)) (C' := [(own (some ⟨b4, 0, none⟩) 3 77 9 ((runL wall).map StretchV.cells)), _]) 0 rfl (map_len StretchV.cells_length _) rfl (by simp [maxLen, runL]) rfl ?_
 skip
 refine rS (SX (sd_build (xs := [(0, .tmp 14)]) (cs := (TrackV.cells (TrackV.mk (Slc.mk (some ⟨b4, 0, none⟩) ((runL wall).length) 3)))) rfl rfl (built_of tb24 rfl)) rfl rfl) ?_
 refine SW1 rfl ts24 rfl ?_
 refine RK hK3 ?_
 refine w_ret ?_
 refine hQ _ _ _ (l_nil (vs := [(Value.agg (TrackV.cells (TrackV.mk (Slc.mk (some ⟨b4, 0, none⟩) ((runL wall).length) 3))).toArray)]) ⟨⟨_, rfl, .inl ⟨_, _, tk24, at_blk (vs := (TrackV.cells (TrackV.mk (Slc.mk (some ⟨b4, 0, none⟩) ((runL wall).length) 3)))) 1 rfl rfl, rfl, rfl⟩⟩, trivial⟩ fun w hs => endX ((some ⟨b4, 0, none⟩), 3) [0] ?_ ?_ rfl rfl rfl hs)
 · rfl
 · trivial

set_option maxRecDepth 100000 in
set_option maxHeartbeats 400000 in
theorem bob_c  :
    FnV Try.prog 54 [] [] (Value.agg (SledV.cells bobS).toArray) := by
 refine fnV_of go54 Try.func54 rfl rfl fun w0 Q hQ hN => ?_
 change WJ _ _ _ _ [] []
 refine WS fun _ hK1 => ?_
 refine AL rfl tz28 fun b2 => ?_
 refine RK hK1 ?_
 refine WS fun _ hK3 => ?_
 refine rS (CL (lspan_c 200 300) (ha_nil) rfl) ?_
 refine rS (CL (lspan_c 1 4) (ha_nil) rfl) ?_
 refine rS (CL (lspan_c 100 200) (ha_nil) rfl) ?_
 refine rS (CL (lspan_c 300000 400000) (ha_nil) rfl) ?_
 refine rS (CL (lspan_c (-20) 30) (ha_nil) rfl) ?_
 refine rS (SX (sd_build (xs := [(0, .const (Value.int .u8 1)), (1, .tmp 1), (2, .tmp 2), (3, .tmp 3), (4, .tmp 4), (5, .tmp 5)]) (cs := (SledV.cells (SledV.mk 1 (SpanV.mk 200 300) (SpanV.mk 1 4) (SpanV.mk 100 200) (SpanV.mk 300000 400000) (SpanV.mk (-20) 30)))) rfl rfl (built_of tb28 rfl)) rfl rfl) ?_
 refine SW0 rfl ts28 rfl ?_
 refine RK hK3 ?_
 refine w_ret ?_
 refine hQ _ _ _ (l_nil (vs := [(Value.agg (SledV.cells (SledV.mk 1 (SpanV.mk 200 300) (SpanV.mk 1 4) (SpanV.mk 100 200) (SpanV.mk 300000 400000) (SpanV.mk (-20) 30))).toArray)]) ⟨⟨_, rfl, .inl ⟨_, _, tk28, at_blk (vs := (SledV.cells (SledV.mk 1 (SpanV.mk 200 300) (SpanV.mk 1 4) (SpanV.mk 100 200) (SpanV.mk 300000 400000) (SpanV.mk (-20) 30)))) 0 rfl rfl, rfl, rfl⟩⟩, trivial⟩ fun w hs => endV ?_ hs)
 show (Value.agg (SledV.cells (SledV.mk 1 (SpanV.mk 200 300) (SpanV.mk 1 4) (SpanV.mk 100 200) (SpanV.mk 300000 400000) (SpanV.mk (-20) 30))).toArray) = (Value.agg (SledV.cells bobS).toArray)
 clear hs w hQ hN hK3 hK1
 rfl

set_option maxRecDepth 100000 in
set_option maxHeartbeats 400000 in
theorem exsafe_c (wall : Int) (want : Int) (hE : bothE bobS (runL wall) = 0) (hv : safeV bobS (runL wall) = want) :
    FnV Try.prog 52 [(Value.int .i64 wall), (Value.int .u8 want)] [] (Value.bool true) := by
 have hl := runL_len wall
 have hsd := runL_side wall
 refine fnV_of go52 Try.func52 rfl rfl fun w0 Q hQ hN => ?_
 change WJ _ _ _ _ [(0, (Value.int .i64 wall)), (1, (Value.int .u8 want))] []
 refine WS fun _ hK1 => ?_
 refine rS (AG rfl) ?_
 refine RK hK1 ?_
 refine WS fun _ hK2 => ?_
 refine rS (MV rfl) ?_
 refine cX (run_c wall) (ha_nil) rfl fun y3 hy4 => ?_
 obtain ⟨a5, c6⟩ := y3
 change RJ _ _ _ _ _ ((_, (Value.agg (TrackV.cells (TrackV.mk (Slc.mk a5 ((runL wall).length) c6))).toArray)) :: _) ((own a5 c6 77 9 ((runL wall).map StretchV.cells)) :: _)
 refine rS (CL bob_c (ha_nil) rfl) ?_
 refine rS (CL (safe_c (runL wall) a5 c6 bobS (by first | assumption | omega | (simp; done) | (simp; omega)) (by first | assumption | omega | (simp; done) | (simp; omega))) (ha_cons (has_own_n (n := (runL wall).length) 0 rfl (by simp)) <| ha_nil) rfl) ?_
 refine rS (MV rfl) ?_
 refine rS (EX rfl) ?_
 refine rS (EX rfl) ?_
 refine rS (AG rfl) ?_
 refine rS (AG rfl) ?_
 refine RK hK2 ?_
 refine WS fun _ hK7 => ?_
 refine rS (MV rfl) ?_
 refine rS (BI rfl b_eql) ?_
 refine rS (MV rfl) ?_
 refine r_bool (t := 16) rfl (fun h1 => ?_) (fun h1 => ?_)
 rotate_left 1
 · replace h1 := DF h1
   exact absurd hE h1
 replace h1 := DT h1
 refine rS (MV rfl) ?_
 refine rS (MV rfl) ?_
 refine rS (BI rfl b_eql) ?_
 refine rS (PK rfl) ?_
 refine rS (AG rfl) ?_
 refine RK hK7 ?_
 refine w_ret ?_
 refine Q1 hQ rfl rfl rfl ?_
 simp [hv]

set_option maxRecDepth 100000 in
set_option maxHeartbeats 400000 in
theorem alive_c  :
    FnV Try.prog 41 [] [] (Value.bool true) := by
 have hl100 := runL_len 100
 have hs100 := runL_side 100
 have hl90 := runL_len 90
 have hs90 := runL_side 90
 have hl10 := runL_len 10
 have hs10 := runL_side 10
 have hl0 := runL_len 0
 have hs0 := runL_side 0
 refine fnV_of go41 Try.func41 rfl rfl fun w0 Q hQ hN => ?_
 change WJ _ _ _ _ [] []
 refine WS fun _ hK1 => ?_
 refine rS (AG rfl) ?_
 refine RK hK1 ?_
 refine WS fun _ hK2 => ?_
 refine cX (run_c 100) (ha_nil) rfl fun y3 hy4 => ?_
 obtain ⟨a5, c6⟩ := y3
 change RJ _ _ _ _ _ ((_, (Value.agg (TrackV.cells (TrackV.mk (Slc.mk a5 ((runL 100).length) c6))).toArray)) :: _) ((own a5 c6 77 9 ((runL 100).map StretchV.cells)) :: _)
 refine rS (CL bob_c (ha_nil) rfl) ?_
 refine cX (heads_c (runL 100) a5 c6 bobS (by first | assumption | omega | (simp; done) | (simp; omega)) (by first | assumption | omega | (simp; done) | (simp; omega))) (ha_cons (has_own_n (n := (runL 100).length) 0 rfl (by simp)) <| ha_nil) rfl fun y7 hy8 => ?_
 obtain ⟨a9, c10⟩ := y7
 change RJ _ _ _ _ _ ((_, (Value.tuple [(Value.slice a9 ((spansU bobS (runL 100)).length) c10), (Value.int .i64 (bothE bobS (runL 100)))].toArray)) :: _) ((own a9 c10 26 2 ((spansU bobS (runL 100)).map SpanV.cells)) :: _)
 refine rS (MV rfl) ?_
 refine rS (EX rfl) ?_
 refine rS (EX rfl) ?_
 refine rS (AG rfl) ?_
 refine rS (AG rfl) ?_
 refine RK hK2 ?_
 refine WS fun _ hK11 => ?_
 refine cX (run_c 100) (ha_nil) rfl fun y12 hy13 => ?_
 obtain ⟨a14, c15⟩ := y12
 change RJ _ _ _ _ _ ((_, (Value.agg (TrackV.cells (TrackV.mk (Slc.mk a14 ((runL 100).length) c15))).toArray)) :: _) ((own a14 c15 77 9 ((runL 100).map StretchV.cells)) :: _)
 refine rS (CL bob_c (ha_nil) rfl) ?_
 refine rS (CL (speed_c (runL 100) a14 c15 bobS 3 (by first | assumption | omega | (simp; done) | (simp; omega)) (by first | assumption | omega | (simp; done) | (simp; omega))) (ha_cons (has_own_n (n := (runL 100).length) 0 rfl (by simp)) <| ha_nil) rfl) ?_
 refine rS (MV rfl) ?_
 refine rS (EX rfl) ?_
 refine rS (EX rfl) ?_
 refine AL rfl tz26 fun b16 => ?_
 refine SW0 rfl ts26 rfl ?_
 refine rS (AG rfl) ?_
 refine RK hK11 ?_
 refine WS fun _ hK17 => ?_
 refine cX (run_c 100) (ha_nil) rfl fun y18 hy19 => ?_
 obtain ⟨a20, c21⟩ := y18
 change RJ _ _ _ _ _ ((_, (Value.agg (TrackV.cells (TrackV.mk (Slc.mk a20 ((runL 100).length) c21))).toArray)) :: _) ((own a20 c21 77 9 ((runL 100).map StretchV.cells)) :: _)
 refine rS (CL bob_c (ha_nil) rfl) ?_
 refine rS (CL (height_c (runL 100) a20 c21 bobS 1 (by first | assumption | omega | (simp; done) | (simp; omega)) (by first | assumption | omega | (simp; done) | (simp; omega))) (ha_cons (has_own_n (n := (runL 100).length) 0 rfl (by simp)) <| ha_nil) rfl) ?_
 refine rS (MV rfl) ?_
 refine rS (EX rfl) ?_
 refine rS (EX rfl) ?_
 refine AL rfl tz26 fun b22 => ?_
 refine SW0 rfl ts26 rfl ?_
 refine rS (AG rfl) ?_
 refine RK hK17 ?_
 refine WS fun _ hK23 => ?_
 refine cX (run_c 90) (ha_nil) rfl fun y24 hy25 => ?_
 obtain ⟨a26, c27⟩ := y24
 change RJ _ _ _ _ _ ((_, (Value.agg (TrackV.cells (TrackV.mk (Slc.mk a26 ((runL 90).length) c27))).toArray)) :: _) ((own a26 c27 77 9 ((runL 90).map StretchV.cells)) :: _)
 refine rS (CL bob_c (ha_nil) rfl) ?_
 refine rS (CL (names_c (runL 90) a26 c27 bobS (by first | assumption | omega | (simp; done) | (simp; omega)) (by first | assumption | omega | (simp; done) | (simp; omega))) (ha_cons (has_own_n (n := (runL 90).length) 0 rfl (by simp)) <| ha_nil) rfl) ?_
 refine rS (MV rfl) ?_
 refine rS (EX rfl) ?_
 refine rS (EX rfl) ?_
 refine rS (EX rfl) ?_
 refine rS (AG rfl) ?_
 refine rS (AG rfl) ?_
 refine rS (AG rfl) ?_
 refine RK hK23 ?_
 refine WS fun _ hK28 => ?_
 refine cX (run_c 100) (ha_nil) rfl fun y29 hy30 => ?_
 obtain ⟨a31, c32⟩ := y29
 change RJ _ _ _ _ _ ((_, (Value.agg (TrackV.cells (TrackV.mk (Slc.mk a31 ((runL 100).length) c32))).toArray)) :: _) ((own a31 c32 77 9 ((runL 100).map StretchV.cells)) :: _)
 refine rS (CL bob_c (ha_nil) rfl) ?_
 refine rS (CL (start_c (runL 100) a31 c32 bobS (by first | assumption | omega | (simp; done) | (simp; omega)) (by first | assumption | omega | (simp; done) | (simp; omega))) (ha_cons (has_own_n (n := (runL 100).length) 0 rfl (by simp)) <| ha_nil) rfl) ?_
 refine rS (MV rfl) ?_
 refine rS (EX rfl) ?_
 refine rS (EX rfl) ?_
 refine rS (AG rfl) ?_
 rw [ex_spans]
 rw [both100]
 rw [ex_speed.1]
 rw [ex_speed.2]
 rw [ex_height.1]
 rw [ex_height.2]
 rw [ex_names.1]
 rw [ex_names.2.1]
 rw [ex_names.2.2]
 rw [ex_start.1]
 rw [ex_start.2]
 refine rS (AG rfl) ?_
 refine RK hK28 ?_
 refine w_seq fun _ hK33 => ?_
 refine w_drawN mixed [0, 1, 2, 3, 4, 5, 6, 7] [8, 9, 10, 11, 12, 13, 14, 15, 16, 17, 18, 19, 20, 21, 22, 23, 24, 25, 26, 27, 28, 29, 30, 31, 32, 33, 34, 35, 36, 37, 38, 39, 40, 41, 42, 43, 44, 45, 46, 47, 48, 49, 50, 51, 52, 53, 54, 55] [false, false, false, false, false, false, false, false] [] [(own a31 c32 77 9 ((runL 100).map StretchV.cells)), (own a26 c27 77 9 ((runL 90).map StretchV.cells)), (blk b22 26 (SpanV.cells (SpanV.mk 16 95))), (own a20 c21 77 9 ((runL 100).map StretchV.cells)), (blk b16 26 (SpanV.cells (SpanV.mk 359 467))), (own a14 c15 77 9 ((runL 100).map StretchV.cells)), (own a9 c10 26 2 ([(SpanV.mk 200 300), (SpanV.mk 431 677), (SpanV.mk 487 814), (SpanV.mk 658 1108)].map SpanV.cells)), (own a5 c6 77 9 ((runL 100).map StretchV.cells))] [] (by kernel_rfl) (fun w hs => St.sel [0, 1, 2, 3, 4, 5, 6, 7] rfl rfl hs) (fun w hs => St.sel [] rfl rfl hs) ?_
 refine eS rfl (MV rfl) ?_
 refine eS rfl (SX (sd_bin (r := .bool true) rfl rfl rfl b_eql) rfl rfl) ?_
 refine eS rfl (MV rfl) ?_
 refine eS rfl (MV rfl) ?_
 refine eS rfl (CL (lspan_c 200 300) (ha_nil) rfl) ?_
 refine eS rfl (CL (lspan_c 431 677) (ha_nil) rfl) ?_
 refine eS rfl (CL (lspan_c 487 814) (ha_nil) rfl) ?_
 refine eS rfl (CL (lspan_c 658 1108) (ha_nil) rfl) ?_
 refine d_fin rfl ?_
 refine n_step [8] (by kernel_rfl) (n_cons ?_ <| n_nil)
 refine n_op (rem' := [9, 10, 11, 12, 13, 14, 15, 16, 17, 18, 19, 20, 21, 22, 23, 24, 25, 26, 27, 28, 29, 30, 31, 32, 33, 34, 35, 36, 37, 38, 39, 40, 41, 42, 43, 44, 45, 46, 47, 48, 49, 50, 51, 52, 53, 54, 55]) rfl (by kernel_rfl) rfl fun T34 hT34 => ?_
 refine r_bs (xs := [.tmp 47, .tmp 48, .tmp 49, .tmp 50]) (cs := ((SpanV.cells (SpanV.mk 200 300)) ++ (SpanV.cells (SpanV.mk 431 677)) ++ (SpanV.cells (SpanV.mk 487 814)) ++ (SpanV.cells (SpanV.mk 658 1108)))) rfl te31 tz26 rfl rfl rfl rfl (by simp [Value.cells, SpanV.cells_length]) rfl rfl fun b35 => ?_
 refine r_nil (hT34 _ _ (fun w hs => St.sel [1, 2, 3, 4, 5, 6, 7, 8] rfl rfl hs) ?_)
 refine n_step [9] (by kernel_rfl) (n_cons ?_ <| n_nil)
 refine n_op (rem' := [10, 11, 12, 13, 14, 15, 16, 17, 18, 19, 20, 21, 22, 23, 24, 25, 26, 27, 28, 29, 30, 31, 32, 33, 34, 35, 36, 37, 38, 39, 40, 41, 42, 43, 44, 45, 46, 47, 48, 49, 50, 51, 52, 53, 54, 55]) rfl (by kernel_rfl) rfl fun T36 hT36 => ?_
 refine rS (CL (samespans_c ([(SpanV.mk 200 300), (SpanV.mk 431 677), (SpanV.mk 487 814), (SpanV.mk 658 1108)]) a9 c10 ([(SpanV.mk 200 300), (SpanV.mk 431 677), (SpanV.mk 487 814), (SpanV.mk 658 1108)]) (some ⟨b35, 0, none⟩) 4 (by first | assumption | omega | (simp; done) | (simp; omega)) (by first | assumption | omega | (simp; done) | (simp; omega))) (ha_cons (has_own_n (n := ([(SpanV.mk 200 300), (SpanV.mk 431 677), (SpanV.mk 487 814), (SpanV.mk 658 1108)]).length) 7 rfl (by simp)) <| ha_cons (has_rd_blk 0 rfl rfl (by simp [SpanV.cells_length]) rfl) <| ha_nil) rfl) ?_
 refine r_nil (hT36 _ _ (fun w hs => St.sel [1, 2, 3, 4, 5, 6, 7, 8] rfl rfl hs) ?_)
 refine n_step [10] (by kernel_rfl) (n_cons ?_ <| n_nil)
 refine n_op (rem' := [11, 12, 13, 14, 15, 16, 17, 18, 19, 20, 21, 22, 23, 24, 25, 26, 27, 28, 29, 30, 31, 32, 33, 34, 35, 36, 37, 38, 39, 40, 41, 42, 43, 44, 45, 46, 47, 48, 49, 50, 51, 52, 53, 54, 55]) rfl (by kernel_rfl) rfl fun T37 hT37 => ?_
 refine rS (PK rfl) ?_
 refine r_nil (hT37 _ _ (fun w hs => St.sel [1, 2, 3, 4, 5, 6, 7, 8] rfl rfl hs) ?_)
 refine n_step [11] (by kernel_rfl) (n_cons ?_ <| n_nil)
 refine n_op (rem' := [12, 13, 14, 15, 16, 17, 18, 19, 20, 21, 22, 23, 24, 25, 26, 27, 28, 29, 30, 31, 32, 33, 34, 35, 36, 37, 38, 39, 40, 41, 42, 43, 44, 45, 46, 47, 48, 49, 50, 51, 52, 53, 54, 55]) rfl (by kernel_rfl) rfl fun T38 hT38 => ?_
 refine rS (MV rfl) ?_
 refine r_nil (hT38 _ _ (fun w hs => St.sel [1, 2, 3, 4, 5, 6, 7, 8] rfl rfl hs) ?_)
 refine n_step [12] (by kernel_rfl) (n_cons ?_ <| n_nil)
 refine n_op (rem' := [13, 14, 15, 16, 17, 18, 19, 20, 21, 22, 23, 24, 25, 26, 27, 28, 29, 30, 31, 32, 33, 34, 35, 36, 37, 38, 39, 40, 41, 42, 43, 44, 45, 46, 47, 48, 49, 50, 51, 52, 53, 54, 55]) rfl (by kernel_rfl) rfl fun T39 hT39 => ?_
 refine r_bool (t := 54) rfl (fun h40 => ?_) (fun h40 => ?_)
 rotate_left 1
 · replace h40 := DF h40
   exact absurd rfl h40
 replace h40 := DT h40
 refine rS (MV rfl) ?_
 refine r_nil (hT39 _ _ (fun w hs => St.sel [1, 2, 3, 4, 5, 6, 7, 8] rfl rfl hs) ?_)
 refine n_step [13] (by kernel_rfl) (n_cons ?_ <| n_nil)
 refine n_op (rem' := [14, 15, 16, 17, 18, 19, 20, 21, 22, 23, 24, 25, 26, 27, 28, 29, 30, 31, 32, 33, 34, 35, 36, 37, 38, 39, 40, 41, 42, 43, 44, 45, 46, 47, 48, 49, 50, 51, 52, 53, 54, 55]) rfl (by kernel_rfl) rfl fun T41 hT41 => ?_
 refine rS (SX (sd_bin (r := .bool true) rfl rfl rfl b_eql) rfl rfl) ?_
 refine r_nil (hT41 _ _ (fun w hs => St.sel [1, 2, 3, 4, 5, 6, 7, 8] rfl rfl hs) ?_)
 refine n_step [14] (by kernel_rfl) (n_cons ?_ <| n_nil)
 refine n_op (rem' := [15, 16, 17, 18, 19, 20, 21, 22, 23, 24, 25, 26, 27, 28, 29, 30, 31, 32, 33, 34, 35, 36, 37, 38, 39, 40, 41, 42, 43, 44, 45, 46, 47, 48, 49, 50, 51, 52, 53, 54, 55]) rfl (by kernel_rfl) rfl fun T42 hT42 => ?_
 refine rS (PK rfl) ?_
 refine r_nil (hT42 _ _ (fun w hs => St.sel [1, 2, 3, 4, 5, 6, 7, 8] rfl rfl hs) ?_)
 refine n_step [15] (by kernel_rfl) (n_cons ?_ <| n_nil)
 refine n_op (rem' := [16, 17, 18, 19, 20, 21, 22, 23, 24, 25, 26, 27, 28, 29, 30, 31, 32, 33, 34, 35, 36, 37, 38, 39, 40, 41, 42, 43, 44, 45, 46, 47, 48, 49, 50, 51, 52, 53, 54, 55]) rfl (by kernel_rfl) rfl fun T43 hT43 => ?_
 refine rS (MV rfl) ?_
 refine r_nil (hT43 _ _ (fun w hs => St.sel [1, 2, 3, 4, 5, 6, 7, 8] rfl rfl hs) ?_)
 refine n_step [16, 17] (by kernel_rfl) (n_cons ?_ <| n_cons ?_ <| n_nil)
 · refine n_op (rem' := [17, 18, 19, 20, 21, 22, 23, 24, 25, 26, 27, 28, 29, 30, 31, 32, 33, 34, 35, 36, 37, 38, 39, 40, 41, 42, 43, 44, 45, 46, 47, 48, 49, 50, 51, 52, 53, 54, 55]) rfl (by kernel_rfl) rfl fun T44 hT44 => ?_
   refine rS (LW 5 rfl tk26 rfl rfl) ?_
   refine r_nil (hT44 _ _ (fun w hs => St.sel [1, 2, 3, 4, 5, 6, 7, 8] rfl rfl hs) ?_)
   refine n_step [17] (by kernel_rfl) (n_cons ?_ <| n_nil)
   refine n_op (rem' := [18, 19, 20, 21, 22, 23, 24, 25, 26, 27, 28, 29, 30, 31, 32, 33, 34, 35, 36, 37, 38, 39, 40, 41, 42, 43, 44, 45, 46, 47, 48, 49, 50, 51, 52, 53, 54, 55]) rfl (by kernel_rfl) rfl fun T45 hT45 => ?_
   refine rS (CL (lspan_c 359 467) (ha_nil) rfl) ?_
   refine r_nil (hT45 _ _ (fun w hs => St.sel [1, 2, 3, 4, 5, 6, 7, 8] rfl rfl hs) ?_)
   refine n_step [18] (by kernel_rfl) (n_cons ?_ <| n_nil)
   refine n_op (rem' := [19, 20, 21, 22, 23, 24, 25, 26, 27, 28, 29, 30, 31, 32, 33, 34, 35, 36, 37, 38, 39, 40, 41, 42, 43, 44, 45, 46, 47, 48, 49, 50, 51, 52, 53, 54, 55]) rfl (by kernel_rfl) rfl fun T46 hT46 => ?_
   refine rS (BI rfl (eqs26 _ _ (SpanV.mk 359 467) (SpanV.mk 359 467))) ?_
   refine r_nil (hT46 _ _ (fun w hs => St.sel [1, 2, 3, 4, 5, 6, 7, 8] rfl rfl hs) ?_)
   refine n_step [19] (by kernel_rfl) (n_cons ?_ <| n_nil)
   refine n_op (rem' := [20, 21, 22, 23, 24, 25, 26, 27, 28, 29, 30, 31, 32, 33, 34, 35, 36, 37, 38, 39, 40, 41, 42, 43, 44, 45, 46, 47, 48, 49, 50, 51, 52, 53, 54, 55]) rfl (by kernel_rfl) rfl fun T47 hT47 => ?_
   refine rS (PK rfl) ?_
   refine r_nil (hT47 _ _ (fun w hs => St.sel [1, 2, 3, 4, 5, 6, 7, 8] rfl rfl hs) ?_)
   refine n_step [20] (by kernel_rfl) (n_cons ?_ <| n_nil)
   refine n_op (rem' := [21, 22, 23, 24, 25, 26, 27, 28, 29, 30, 31, 32, 33, 34, 35, 36, 37, 38, 39, 40, 41, 42, 43, 44, 45, 46, 47, 48, 49, 50, 51, 52, 53, 54, 55]) rfl (by kernel_rfl) rfl fun T48 hT48 => ?_
   refine rS (MV rfl) ?_
   refine r_nil (hT48 _ _ (fun w hs => St.sel [1, 2, 3, 4, 5, 6, 7, 8] rfl rfl hs) ?_)
   refine n_step [21] (by kernel_rfl) (n_cons ?_ <| n_nil)
   refine n_op (rem' := [22, 23, 24, 25, 26, 27, 28, 29, 30, 31, 32, 33, 34, 35, 36, 37, 38, 39, 40, 41, 42, 43, 44, 45, 46, 47, 48, 49, 50, 51, 52, 53, 54, 55]) rfl (by kernel_rfl) rfl fun T49 hT49 => ?_
   refine r_bool (t := 63) rfl (fun h50 => ?_) (fun h50 => ?_)
   rotate_left 1
   · replace h50 := DF h50
     exact absurd rfl h50
   replace h50 := DT h50
   refine rS (MV rfl) ?_
   refine r_nil (hT49 _ _ (fun w hs => St.sel [1, 2, 3, 4, 5, 6, 7, 8] rfl rfl hs) ?_)
   refine n_step [22] (by kernel_rfl) (n_cons ?_ <| n_nil)
   refine n_op (rem' := [23, 24, 25, 26, 27, 28, 29, 30, 31, 32, 33, 34, 35, 36, 37, 38, 39, 40, 41, 42, 43, 44, 45, 46, 47, 48, 49, 50, 51, 52, 53, 54, 55]) rfl (by kernel_rfl) rfl fun T51 hT51 => ?_
   refine rS (SX (sd_bin (r := .bool true) rfl rfl rfl b_eql) rfl rfl) ?_
   refine r_nil (hT51 _ _ (fun w hs => St.sel [1, 2, 3, 4, 5, 6, 7, 8] rfl rfl hs) ?_)
   refine n_step [23] (by kernel_rfl) (n_cons ?_ <| n_nil)
   refine n_op (rem' := [24, 25, 26, 27, 28, 29, 30, 31, 32, 33, 34, 35, 36, 37, 38, 39, 40, 41, 42, 43, 44, 45, 46, 47, 48, 49, 50, 51, 52, 53, 54, 55]) rfl (by kernel_rfl) rfl fun T52 hT52 => ?_
   refine rS (PK rfl) ?_
   refine r_nil (hT52 _ _ (fun w hs => St.sel [1, 2, 3, 4, 5, 6, 7, 8] rfl rfl hs) ?_)
   refine n_step [24] (by kernel_rfl) (n_cons ?_ <| n_nil)
   refine n_op (rem' := [25, 26, 27, 28, 29, 30, 31, 32, 33, 34, 35, 36, 37, 38, 39, 40, 41, 42, 43, 44, 45, 46, 47, 48, 49, 50, 51, 52, 53, 54, 55]) rfl (by kernel_rfl) rfl fun T53 hT53 => ?_
   refine rS (MV rfl) ?_
   refine r_nil (hT53 _ _ (fun w hs => St.sel [1, 2, 3, 4, 5, 6, 7, 8] rfl rfl hs) ?_)
   refine n_step [25, 26] (by kernel_rfl) (n_cons ?_ <| n_cons ?_ <| n_nil)
   · refine n_op (rem' := [26, 27, 28, 29, 30, 31, 32, 33, 34, 35, 36, 37, 38, 39, 40, 41, 42, 43, 44, 45, 46, 47, 48, 49, 50, 51, 52, 53, 54, 55]) rfl (by kernel_rfl) rfl fun T54 hT54 => ?_
     refine rS (LW 3 rfl tk26 rfl rfl) ?_
     refine r_nil (hT54 _ _ (fun w hs => St.sel [1, 2, 3, 4, 5, 6, 7, 8] rfl rfl hs) ?_)
     refine n_step [26] (by kernel_rfl) (n_cons ?_ <| n_nil)
     refine n_op (rem' := [27, 28, 29, 30, 31, 32, 33, 34, 35, 36, 37, 38, 39, 40, 41, 42, 43, 44, 45, 46, 47, 48, 49, 50, 51, 52, 53, 54, 55]) rfl (by kernel_rfl) rfl fun T55 hT55 => ?_
     refine rS (CL (lspan_c 16 95) (ha_nil) rfl) ?_
     refine r_nil (hT55 _ _ (fun w hs => St.sel [1, 2, 3, 4, 5, 6, 7, 8] rfl rfl hs) ?_)
     refine n_step [27] (by kernel_rfl) (n_cons ?_ <| n_nil)
     refine n_op (rem' := [28, 29, 30, 31, 32, 33, 34, 35, 36, 37, 38, 39, 40, 41, 42, 43, 44, 45, 46, 47, 48, 49, 50, 51, 52, 53, 54, 55]) rfl (by kernel_rfl) rfl fun T56 hT56 => ?_
     refine rS (BI rfl (eqs26 _ _ (SpanV.mk 16 95) (SpanV.mk 16 95))) ?_
     refine r_nil (hT56 _ _ (fun w hs => St.sel [1, 2, 3, 4, 5, 6, 7, 8] rfl rfl hs) ?_)
     refine n_step [28] (by kernel_rfl) (n_cons ?_ <| n_nil)
     refine n_op (rem' := [29, 30, 31, 32, 33, 34, 35, 36, 37, 38, 39, 40, 41, 42, 43, 44, 45, 46, 47, 48, 49, 50, 51, 52, 53, 54, 55]) rfl (by kernel_rfl) rfl fun T57 hT57 => ?_
     refine rS (PK rfl) ?_
     refine r_nil (hT57 _ _ (fun w hs => St.sel [1, 2, 3, 4, 5, 6, 7, 8] rfl rfl hs) ?_)
     refine n_step [29] (by kernel_rfl) (n_cons ?_ <| n_nil)
     refine n_op (rem' := [30, 31, 32, 33, 34, 35, 36, 37, 38, 39, 40, 41, 42, 43, 44, 45, 46, 47, 48, 49, 50, 51, 52, 53, 54, 55]) rfl (by kernel_rfl) rfl fun T58 hT58 => ?_
     refine rS (MV rfl) ?_
     refine r_nil (hT58 _ _ (fun w hs => St.sel [1, 2, 3, 4, 5, 6, 7, 8] rfl rfl hs) ?_)
     refine n_step [30] (by kernel_rfl) (n_cons ?_ <| n_nil)
     refine n_op (rem' := [31, 32, 33, 34, 35, 36, 37, 38, 39, 40, 41, 42, 43, 44, 45, 46, 47, 48, 49, 50, 51, 52, 53, 54, 55]) rfl (by kernel_rfl) rfl fun T59 hT59 => ?_
     refine r_bool (t := 72) rfl (fun h60 => ?_) (fun h60 => ?_)
     rotate_left 1
     · replace h60 := DF h60
       exact absurd rfl h60
     replace h60 := DT h60
     refine rS (CL (exsafe_c 100 2 (by exact both100) (by exact ex_safe100)) (ha_nil) rfl) ?_
     refine r_nil (hT59 _ _ (fun w hs => St.sel [1, 2, 3, 4, 5, 6, 7, 8] rfl rfl hs) ?_)
     refine n_step [31] (by kernel_rfl) (n_cons ?_ <| n_nil)
     refine n_op (rem' := [32, 33, 34, 35, 36, 37, 38, 39, 40, 41, 42, 43, 44, 45, 46, 47, 48, 49, 50, 51, 52, 53, 54, 55]) rfl (by kernel_rfl) rfl fun T61 hT61 => ?_
     refine rS (PK rfl) ?_
     refine r_nil (hT61 _ _ (fun w hs => St.sel [1, 2, 3, 4, 5, 6, 7, 8] rfl rfl hs) ?_)
     refine n_step [32] (by kernel_rfl) (n_cons ?_ <| n_nil)
     refine n_op (rem' := [33, 34, 35, 36, 37, 38, 39, 40, 41, 42, 43, 44, 45, 46, 47, 48, 49, 50, 51, 52, 53, 54, 55]) rfl (by kernel_rfl) rfl fun T62 hT62 => ?_
     refine rS (MV rfl) ?_
     refine r_nil (hT62 _ _ (fun w hs => St.sel [1, 2, 3, 4, 5, 6, 7, 8] rfl rfl hs) ?_)
     refine n_step [33] (by kernel_rfl) (n_cons ?_ <| n_nil)
     refine n_op (rem' := [34, 35, 36, 37, 38, 39, 40, 41, 42, 43, 44, 45, 46, 47, 48, 49, 50, 51, 52, 53, 54, 55]) rfl (by kernel_rfl) rfl fun T63 hT63 => ?_
     refine rS (CL (exsafe_c 90 1 (by exact both90) (by exact ex_safe90)) (ha_nil) rfl) ?_
     refine r_nil (hT63 _ _ (fun w hs => St.sel [1, 2, 3, 4, 5, 6, 7, 8] rfl rfl hs) ?_)
     refine n_step [34] (by kernel_rfl) (n_cons ?_ <| n_nil)
     refine n_op (rem' := [35, 36, 37, 38, 39, 40, 41, 42, 43, 44, 45, 46, 47, 48, 49, 50, 51, 52, 53, 54, 55]) rfl (by kernel_rfl) rfl fun T64 hT64 => ?_
     refine rS (PK rfl) ?_
     refine r_nil (hT64 _ _ (fun w hs => St.sel [1, 2, 3, 4, 5, 6, 7, 8] rfl rfl hs) ?_)
     refine n_step [35] (by kernel_rfl) (n_cons ?_ <| n_nil)
     refine n_op (rem' := [36, 37, 38, 39, 40, 41, 42, 43, 44, 45, 46, 47, 48, 49, 50, 51, 52, 53, 54, 55]) rfl (by kernel_rfl) rfl fun T65 hT65 => ?_
     refine rS (MV rfl) ?_
     refine r_nil (hT65 _ _ (fun w hs => St.sel [1, 2, 3, 4, 5, 6, 7, 8] rfl rfl hs) ?_)
     refine n_step [36] (by kernel_rfl) (n_cons ?_ <| n_nil)
     refine n_op (rem' := [37, 38, 39, 40, 41, 42, 43, 44, 45, 46, 47, 48, 49, 50, 51, 52, 53, 54, 55]) rfl (by kernel_rfl) rfl fun T66 hT66 => ?_
     refine rS (MV rfl) ?_
     refine r_nil (hT66 _ _ (fun w hs => St.sel [1, 2, 3, 4, 5, 6, 7, 8] rfl rfl hs) ?_)
     refine n_step [37] (by kernel_rfl) (n_cons ?_ <| n_nil)
     refine n_op (rem' := [38, 39, 40, 41, 42, 43, 44, 45, 46, 47, 48, 49, 50, 51, 52, 53, 54, 55]) rfl (by kernel_rfl) rfl fun T67 hT67 => ?_
     refine rS (SX (sd_bin (r := .bool true) rfl rfl rfl b_eql) rfl rfl) ?_
     refine r_nil (hT67 _ _ (fun w hs => St.sel [1, 2, 3, 4, 5, 6, 7, 8] rfl rfl hs) ?_)
     refine n_step [38] (by kernel_rfl) (n_cons ?_ <| n_nil)
     refine n_op (rem' := [39, 40, 41, 42, 43, 44, 45, 46, 47, 48, 49, 50, 51, 52, 53, 54, 55]) rfl (by kernel_rfl) rfl fun T68 hT68 => ?_
     refine rS (PK rfl) ?_
     refine r_nil (hT68 _ _ (fun w hs => St.sel [1, 2, 3, 4, 5, 6, 7, 8] rfl rfl hs) ?_)
     refine n_step [39] (by kernel_rfl) (n_cons ?_ <| n_nil)
     refine n_op (rem' := [40, 41, 42, 43, 44, 45, 46, 47, 48, 49, 50, 51, 52, 53, 54, 55]) rfl (by kernel_rfl) rfl fun T69 hT69 => ?_
     refine rS (MV rfl) ?_
     refine r_nil (hT69 _ _ (fun w hs => St.sel [1, 2, 3, 4, 5, 6, 7, 8] rfl rfl hs) ?_)
     refine n_step [40] (by kernel_rfl) (n_cons ?_ <| n_nil)
     refine n_op (rem' := [41, 42, 43, 44, 45, 46, 47, 48, 49, 50, 51, 52, 53, 54, 55]) rfl (by kernel_rfl) rfl fun T70 hT70 => ?_
     refine rS (MV rfl) ?_
     refine r_nil (hT70 _ _ (fun w hs => St.sel [1, 2, 3, 4, 5, 6, 7, 8] rfl rfl hs) ?_)
     refine n_step [41] (by kernel_rfl) (n_cons ?_ <| n_nil)
     refine n_op (rem' := [42, 43, 44, 45, 46, 47, 48, 49, 50, 51, 52, 53, 54, 55]) rfl (by kernel_rfl) rfl fun T71 hT71 => ?_
     refine rS (SX (sd_bin (r := .bool true) rfl rfl rfl b_eql) rfl rfl) ?_
     refine r_nil (hT71 _ _ (fun w hs => St.sel [1, 2, 3, 4, 5, 6, 7, 8] rfl rfl hs) ?_)
     refine n_step [42] (by kernel_rfl) (n_cons ?_ <| n_nil)
     refine n_op (rem' := [43, 44, 45, 46, 47, 48, 49, 50, 51, 52, 53, 54, 55]) rfl (by kernel_rfl) rfl fun T72 hT72 => ?_
     refine rS (PK rfl) ?_
     refine r_nil (hT72 _ _ (fun w hs => St.sel [1, 2, 3, 4, 5, 6, 7, 8] rfl rfl hs) ?_)
     refine n_step [43] (by kernel_rfl) (n_cons ?_ <| n_nil)
     refine n_op (rem' := [44, 45, 46, 47, 48, 49, 50, 51, 52, 53, 54, 55]) rfl (by kernel_rfl) rfl fun T73 hT73 => ?_
     refine rS (MV rfl) ?_
     refine r_nil (hT73 _ _ (fun w hs => St.sel [1, 2, 3, 4, 5, 6, 7, 8] rfl rfl hs) ?_)
     refine n_step [44] (by kernel_rfl) (n_cons ?_ <| n_nil)
     refine n_op (rem' := [45, 46, 47, 48, 49, 50, 51, 52, 53, 54, 55]) rfl (by kernel_rfl) rfl fun T74 hT74 => ?_
     refine rS (MV rfl) ?_
     refine r_nil (hT74 _ _ (fun w hs => St.sel [1, 2, 3, 4, 5, 6, 7, 8] rfl rfl hs) ?_)
     refine n_step [45] (by kernel_rfl) (n_cons ?_ <| n_nil)
     refine n_op (rem' := [46, 47, 48, 49, 50, 51, 52, 53, 54, 55]) rfl (by kernel_rfl) rfl fun T75 hT75 => ?_
     refine rS (SX (sd_bin (r := .bool true) rfl rfl rfl b_eql) rfl rfl) ?_
     refine r_nil (hT75 _ _ (fun w hs => St.sel [1, 2, 3, 4, 5, 6, 7, 8] rfl rfl hs) ?_)
     refine n_step [46] (by kernel_rfl) (n_cons ?_ <| n_nil)
     refine n_op (rem' := [47, 48, 49, 50, 51, 52, 53, 54, 55]) rfl (by kernel_rfl) rfl fun T76 hT76 => ?_
     refine rS (PK rfl) ?_
     refine r_nil (hT76 _ _ (fun w hs => St.sel [1, 2, 3, 4, 5, 6, 7, 8] rfl rfl hs) ?_)
     refine n_step [47] (by kernel_rfl) (n_cons ?_ <| n_nil)
     refine n_op (rem' := [48, 49, 50, 51, 52, 53, 54, 55]) rfl (by kernel_rfl) rfl fun T77 hT77 => ?_
     refine rS (MV rfl) ?_
     refine r_nil (hT77 _ _ (fun w hs => St.sel [1, 2, 3, 4, 5, 6, 7, 8] rfl rfl hs) ?_)
     refine n_step [48] (by kernel_rfl) (n_cons ?_ <| n_nil)
     refine n_op (rem' := [49, 50, 51, 52, 53, 54, 55]) rfl (by kernel_rfl) rfl fun T78 hT78 => ?_
     refine rS (MV rfl) ?_
     refine r_nil (hT78 _ _ (fun w hs => St.sel [1, 2, 3, 4, 5, 6, 7, 8] rfl rfl hs) ?_)
     refine n_step [49] (by kernel_rfl) (n_cons ?_ <| n_nil)
     refine n_op (rem' := [50, 51, 52, 53, 54, 55]) rfl (by kernel_rfl) rfl fun T79 hT79 => ?_
     refine rS (SX (sd_bin (r := .bool true) rfl rfl rfl b_eql) rfl rfl) ?_
     refine r_nil (hT79 _ _ (fun w hs => St.sel [1, 2, 3, 4, 5, 6, 7, 8] rfl rfl hs) ?_)
     refine n_step [50] (by kernel_rfl) (n_cons ?_ <| n_nil)
     refine n_op (rem' := [51, 52, 53, 54, 55]) rfl (by kernel_rfl) rfl fun T80 hT80 => ?_
     refine rS (PK rfl) ?_
     refine r_nil (hT80 _ _ (fun w hs => St.sel [1, 2, 3, 4, 5, 6, 7, 8] rfl rfl hs) ?_)
     refine n_step [51] (by kernel_rfl) (n_cons ?_ <| n_nil)
     refine n_op (rem' := [52, 53, 54, 55]) rfl (by kernel_rfl) rfl fun T81 hT81 => ?_
     refine rS (MV rfl) ?_
     refine r_nil (hT81 _ _ (fun w hs => St.sel [1, 2, 3, 4, 5, 6, 7, 8] rfl rfl hs) ?_)
     refine n_step [52] (by kernel_rfl) (n_cons ?_ <| n_nil)
     refine n_op (rem' := [53, 54, 55]) rfl (by kernel_rfl) rfl fun T82 hT82 => ?_
     refine rS (MV rfl) ?_
     refine r_nil (hT82 _ _ (fun w hs => St.sel [1, 2, 3, 4, 5, 6, 7, 8] rfl rfl hs) ?_)
     refine n_step [53] (by kernel_rfl) (n_cons ?_ <| n_nil)
     refine n_op (rem' := [54, 55]) rfl (by kernel_rfl) rfl fun T83 hT83 => ?_
     refine rS (SX (sd_bin (r := .bool true) rfl rfl rfl b_eql) rfl rfl) ?_
     refine r_nil (hT83 _ _ (fun w hs => St.sel [1, 2, 3, 4, 5, 6, 7, 8] rfl rfl hs) ?_)
     refine n_step [54] (by kernel_rfl) (n_cons ?_ <| n_nil)
     refine n_op (rem' := [55]) rfl (by kernel_rfl) rfl fun T84 hT84 => ?_
     refine rS (PK rfl) ?_
     refine r_nil (hT84 _ _ (fun w hs => St.sel [1, 2, 3, 4, 5, 6, 7, 8] rfl rfl hs) ?_)
     refine n_step [55] (by kernel_rfl) (n_cons ?_ <| n_nil)
     refine n_op (rem' := []) rfl (by kernel_rfl) rfl fun T85 hT85 => ?_
     refine rS (AG rfl) ?_
     refine r_nil (hT85 _ _ (fun w hs => St.sel [1, 2, 3, 4, 5, 6, 7, 8] rfl rfl hs) ?_)
     refine n_fin ?_
     refine KK hK33 ?_
     refine w_ret ?_
     refine Q1 hQ rfl rfl rfl ?_
     first | rfl | simp
   refine n_op (rem' := [25, 27, 28, 29, 30, 31, 32, 33, 34, 35, 36, 37, 38, 39, 40, 41, 42, 43, 44, 45, 46, 47, 48, 49, 50, 51, 52, 53, 54, 55]) rfl (by kernel_rfl) rfl fun T86 hT86 => ?_
   refine rS (CL (lspan_c 16 95) (ha_nil) rfl) ?_
   refine r_nil (hT86 _ _ (fun w hs => St.sel [1, 2, 3, 4, 5, 6, 7, 8] rfl rfl hs) ?_)
   refine n_step [25] (by kernel_rfl) (n_cons ?_ <| n_nil)
   refine n_op (rem' := [27, 28, 29, 30, 31, 32, 33, 34, 35, 36, 37, 38, 39, 40, 41, 42, 43, 44, 45, 46, 47, 48, 49, 50, 51, 52, 53, 54, 55]) rfl (by kernel_rfl) rfl fun T87 hT87 => ?_
   refine rS (LW 3 rfl tk26 rfl rfl) ?_
   refine r_nil (hT87 _ _ (fun w hs => St.sel [1, 2, 3, 4, 5, 6, 7, 8] rfl rfl hs) ?_)
   refine n_step [27] (by kernel_rfl) (n_cons ?_ <| n_nil)
   refine n_op (rem' := [28, 29, 30, 31, 32, 33, 34, 35, 36, 37, 38, 39, 40, 41, 42, 43, 44, 45, 46, 47, 48, 49, 50, 51, 52, 53, 54, 55]) rfl (by kernel_rfl) rfl fun T88 hT88 => ?_
   refine rS (BI rfl (eqs26 _ _ (SpanV.mk 16 95) (SpanV.mk 16 95))) ?_
   refine r_nil (hT88 _ _ (fun w hs => St.sel [1, 2, 3, 4, 5, 6, 7, 8] rfl rfl hs) ?_)
   refine n_step [28] (by kernel_rfl) (n_cons ?_ <| n_nil)
   refine n_op (rem' := [29, 30, 31, 32, 33, 34, 35, 36, 37, 38, 39, 40, 41, 42, 43, 44, 45, 46, 47, 48, 49, 50, 51, 52, 53, 54, 55]) rfl (by kernel_rfl) rfl fun T89 hT89 => ?_
   refine rS (PK rfl) ?_
   refine r_nil (hT89 _ _ (fun w hs => St.sel [1, 2, 3, 4, 5, 6, 7, 8] rfl rfl hs) ?_)
   refine n_step [29] (by kernel_rfl) (n_cons ?_ <| n_nil)
   refine n_op (rem' := [30, 31, 32, 33, 34, 35, 36, 37, 38, 39, 40, 41, 42, 43, 44, 45, 46, 47, 48, 49, 50, 51, 52, 53, 54, 55]) rfl (by kernel_rfl) rfl fun T90 hT90 => ?_
   refine rS (MV rfl) ?_
   refine r_nil (hT90 _ _ (fun w hs => St.sel [1, 2, 3, 4, 5, 6, 7, 8] rfl rfl hs) ?_)
   refine n_step [30] (by kernel_rfl) (n_cons ?_ <| n_nil)
   refine n_op (rem' := [31, 32, 33, 34, 35, 36, 37, 38, 39, 40, 41, 42, 43, 44, 45, 46, 47, 48, 49, 50, 51, 52, 53, 54, 55]) rfl (by kernel_rfl) rfl fun T91 hT91 => ?_
   refine r_bool (t := 72) rfl (fun h92 => ?_) (fun h92 => ?_)
   rotate_left 1
   · replace h92 := DF h92
     exact absurd rfl h92
   replace h92 := DT h92
   refine rS (CL (exsafe_c 100 2 (by exact both100) (by exact ex_safe100)) (ha_nil) rfl) ?_
   refine r_nil (hT91 _ _ (fun w hs => St.sel [1, 2, 3, 4, 5, 6, 7, 8] rfl rfl hs) ?_)
   refine n_step [31] (by kernel_rfl) (n_cons ?_ <| n_nil)
   refine n_op (rem' := [32, 33, 34, 35, 36, 37, 38, 39, 40, 41, 42, 43, 44, 45, 46, 47, 48, 49, 50, 51, 52, 53, 54, 55]) rfl (by kernel_rfl) rfl fun T93 hT93 => ?_
   refine rS (PK rfl) ?_
   refine r_nil (hT93 _ _ (fun w hs => St.sel [1, 2, 3, 4, 5, 6, 7, 8] rfl rfl hs) ?_)
   refine n_step [32] (by kernel_rfl) (n_cons ?_ <| n_nil)
   refine n_op (rem' := [33, 34, 35, 36, 37, 38, 39, 40, 41, 42, 43, 44, 45, 46, 47, 48, 49, 50, 51, 52, 53, 54, 55]) rfl (by kernel_rfl) rfl fun T94 hT94 => ?_
   refine rS (MV rfl) ?_
   refine r_nil (hT94 _ _ (fun w hs => St.sel [1, 2, 3, 4, 5, 6, 7, 8] rfl rfl hs) ?_)
   refine n_step [33] (by kernel_rfl) (n_cons ?_ <| n_nil)
   refine n_op (rem' := [34, 35, 36, 37, 38, 39, 40, 41, 42, 43, 44, 45, 46, 47, 48, 49, 50, 51, 52, 53, 54, 55]) rfl (by kernel_rfl) rfl fun T95 hT95 => ?_
   refine rS (CL (exsafe_c 90 1 (by exact both90) (by exact ex_safe90)) (ha_nil) rfl) ?_
   refine r_nil (hT95 _ _ (fun w hs => St.sel [1, 2, 3, 4, 5, 6, 7, 8] rfl rfl hs) ?_)
   refine n_step [34] (by kernel_rfl) (n_cons ?_ <| n_nil)
   refine n_op (rem' := [35, 36, 37, 38, 39, 40, 41, 42, 43, 44, 45, 46, 47, 48, 49, 50, 51, 52, 53, 54, 55]) rfl (by kernel_rfl) rfl fun T96 hT96 => ?_
   refine rS (PK rfl) ?_
   refine r_nil (hT96 _ _ (fun w hs => St.sel [1, 2, 3, 4, 5, 6, 7, 8] rfl rfl hs) ?_)
   refine n_step [35] (by kernel_rfl) (n_cons ?_ <| n_nil)
   refine n_op (rem' := [36, 37, 38, 39, 40, 41, 42, 43, 44, 45, 46, 47, 48, 49, 50, 51, 52, 53, 54, 55]) rfl (by kernel_rfl) rfl fun T97 hT97 => ?_
   refine rS (MV rfl) ?_
   refine r_nil (hT97 _ _ (fun w hs => St.sel [1, 2, 3, 4, 5, 6, 7, 8] rfl rfl hs) ?_)
   refine n_step [36] (by kernel_rfl) (n_cons ?_ <| n_nil)
   refine n_op (rem' := [37, 38, 39, 40, 41, 42, 43, 44, 45, 46, 47, 48, 49, 50, 51, 52, 53, 54, 55]) rfl (by kernel_rfl) rfl fun T98 hT98 => ?_
   refine rS (MV rfl) ?_
   refine r_nil (hT98 _ _ (fun w hs => St.sel [1, 2, 3, 4, 5, 6, 7, 8] rfl rfl hs) ?_)
   refine n_step [37] (by kernel_rfl) (n_cons ?_ <| n_nil)
   refine n_op (rem' := [38, 39, 40, 41, 42, 43, 44, 45, 46, 47, 48, 49, 50, 51, 52, 53, 54, 55]) rfl (by kernel_rfl) rfl fun T99 hT99 => ?_
   refine rS (SX (sd_bin (r := .bool true) rfl rfl rfl b_eql) rfl rfl) ?_
   refine r_nil (hT99 _ _ (fun w hs => St.sel [1, 2, 3, 4, 5, 6, 7, 8] rfl rfl hs) ?_)
   refine n_step [38] (by kernel_rfl) (n_cons ?_ <| n_nil)
   refine n_op (rem' := [39, 40, 41, 42, 43, 44, 45, 46, 47, 48, 49, 50, 51, 52, 53, 54, 55]) rfl (by kernel_rfl) rfl fun T100 hT100 => ?_
   refine rS (PK rfl) ?_
   refine r_nil (hT100 _ _ (fun w hs => St.sel [1, 2, 3, 4, 5, 6, 7, 8] rfl rfl hs) ?_)
   refine n_step [39] (by kernel_rfl) (n_cons ?_ <| n_nil)
   refine n_op (rem' := [40, 41, 42, 43, 44, 45, 46, 47, 48, 49, 50, 51, 52, 53, 54, 55]) rfl (by kernel_rfl) rfl fun T101 hT101 => ?_
   refine rS (MV rfl) ?_
   refine r_nil (hT101 _ _ (fun w hs => St.sel [1, 2, 3, 4, 5, 6, 7, 8] rfl rfl hs) ?_)
   refine n_step [40] (by kernel_rfl) (n_cons ?_ <| n_nil)
   refine n_op (rem' := [41, 42, 43, 44, 45, 46, 47, 48, 49, 50, 51, 52, 53, 54, 55]) rfl (by kernel_rfl) rfl fun T102 hT102 => ?_
   refine rS (MV rfl) ?_
   refine r_nil (hT102 _ _ (fun w hs => St.sel [1, 2, 3, 4, 5, 6, 7, 8] rfl rfl hs) ?_)
   refine n_step [41] (by kernel_rfl) (n_cons ?_ <| n_nil)
   refine n_op (rem' := [42, 43, 44, 45, 46, 47, 48, 49, 50, 51, 52, 53, 54, 55]) rfl (by kernel_rfl) rfl fun T103 hT103 => ?_
   refine rS (SX (sd_bin (r := .bool true) rfl rfl rfl b_eql) rfl rfl) ?_
   refine r_nil (hT103 _ _ (fun w hs => St.sel [1, 2, 3, 4, 5, 6, 7, 8] rfl rfl hs) ?_)
   refine n_step [42] (by kernel_rfl) (n_cons ?_ <| n_nil)
   refine n_op (rem' := [43, 44, 45, 46, 47, 48, 49, 50, 51, 52, 53, 54, 55]) rfl (by kernel_rfl) rfl fun T104 hT104 => ?_
   refine rS (PK rfl) ?_
   refine r_nil (hT104 _ _ (fun w hs => St.sel [1, 2, 3, 4, 5, 6, 7, 8] rfl rfl hs) ?_)
   refine n_step [43] (by kernel_rfl) (n_cons ?_ <| n_nil)
   refine n_op (rem' := [44, 45, 46, 47, 48, 49, 50, 51, 52, 53, 54, 55]) rfl (by kernel_rfl) rfl fun T105 hT105 => ?_
   refine rS (MV rfl) ?_
   refine r_nil (hT105 _ _ (fun w hs => St.sel [1, 2, 3, 4, 5, 6, 7, 8] rfl rfl hs) ?_)
   refine n_step [44] (by kernel_rfl) (n_cons ?_ <| n_nil)
   refine n_op (rem' := [45, 46, 47, 48, 49, 50, 51, 52, 53, 54, 55]) rfl (by kernel_rfl) rfl fun T106 hT106 => ?_
   refine rS (MV rfl) ?_
   refine r_nil (hT106 _ _ (fun w hs => St.sel [1, 2, 3, 4, 5, 6, 7, 8] rfl rfl hs) ?_)
   refine n_step [45] (by kernel_rfl) (n_cons ?_ <| n_nil)
   refine n_op (rem' := [46, 47, 48, 49, 50, 51, 52, 53, 54, 55]) rfl (by kernel_rfl) rfl fun T107 hT107 => ?_
   refine rS (SX (sd_bin (r := .bool true) rfl rfl rfl b_eql) rfl rfl) ?_
   refine r_nil (hT107 _ _ (fun w hs => St.sel [1, 2, 3, 4, 5, 6, 7, 8] rfl rfl hs) ?_)
   refine n_step [46] (by kernel_rfl) (n_cons ?_ <| n_nil)
   refine n_op (rem' := [47, 48, 49, 50, 51, 52, 53, 54, 55]) rfl (by kernel_rfl) rfl fun T108 hT108 => ?_
   refine rS (PK rfl) ?_
   refine r_nil (hT108 _ _ (fun w hs => St.sel [1, 2, 3, 4, 5, 6, 7, 8] rfl rfl hs) ?_)
   refine n_step [47] (by kernel_rfl) (n_cons ?_ <| n_nil)
   refine n_op (rem' := [48, 49, 50, 51, 52, 53, 54, 55]) rfl (by kernel_rfl) rfl fun T109 hT109 => ?_
   refine rS (MV rfl) ?_
   refine r_nil (hT109 _ _ (fun w hs => St.sel [1, 2, 3, 4, 5, 6, 7, 8] rfl rfl hs) ?_)
   refine n_step [48] (by kernel_rfl) (n_cons ?_ <| n_nil)
   refine n_op (rem' := [49, 50, 51, 52, 53, 54, 55]) rfl (by kernel_rfl) rfl fun T110 hT110 => ?_
   refine rS (MV rfl) ?_
   refine r_nil (hT110 _ _ (fun w hs => St.sel [1, 2, 3, 4, 5, 6, 7, 8] rfl rfl hs) ?_)
   refine n_step [49] (by kernel_rfl) (n_cons ?_ <| n_nil)
   refine n_op (rem' := [50, 51, 52, 53, 54, 55]) rfl (by kernel_rfl) rfl fun T111 hT111 => ?_
   refine rS (SX (sd_bin (r := .bool true) rfl rfl rfl b_eql) rfl rfl) ?_
   refine r_nil (hT111 _ _ (fun w hs => St.sel [1, 2, 3, 4, 5, 6, 7, 8] rfl rfl hs) ?_)
   refine n_step [50] (by kernel_rfl) (n_cons ?_ <| n_nil)
   refine n_op (rem' := [51, 52, 53, 54, 55]) rfl (by kernel_rfl) rfl fun T112 hT112 => ?_
   refine rS (PK rfl) ?_
   refine r_nil (hT112 _ _ (fun w hs => St.sel [1, 2, 3, 4, 5, 6, 7, 8] rfl rfl hs) ?_)
   refine n_step [51] (by kernel_rfl) (n_cons ?_ <| n_nil)
   refine n_op (rem' := [52, 53, 54, 55]) rfl (by kernel_rfl) rfl fun T113 hT113 => ?_
   refine rS (MV rfl) ?_
   refine r_nil (hT113 _ _ (fun w hs => St.sel [1, 2, 3, 4, 5, 6, 7, 8] rfl rfl hs) ?_)
   refine n_step [52] (by kernel_rfl) (n_cons ?_ <| n_nil)
   refine n_op (rem' := [53, 54, 55]) rfl (by kernel_rfl) rfl fun T114 hT114 => ?_
   refine rS (MV rfl) ?_
   refine r_nil (hT114 _ _ (fun w hs => St.sel [1, 2, 3, 4, 5, 6, 7, 8] rfl rfl hs) ?_)
   refine n_step [53] (by kernel_rfl) (n_cons ?_ <| n_nil)
   refine n_op (rem' := [54, 55]) rfl (by kernel_rfl) rfl fun T115 hT115 => ?_
   refine rS (SX (sd_bin (r := .bool true) rfl rfl rfl b_eql) rfl rfl) ?_
   refine r_nil (hT115 _ _ (fun w hs => St.sel [1, 2, 3, 4, 5, 6, 7, 8] rfl rfl hs) ?_)
   refine n_step [54] (by kernel_rfl) (n_cons ?_ <| n_nil)
   refine n_op (rem' := [55]) rfl (by kernel_rfl) rfl fun T116 hT116 => ?_
   refine rS (PK rfl) ?_
   refine r_nil (hT116 _ _ (fun w hs => St.sel [1, 2, 3, 4, 5, 6, 7, 8] rfl rfl hs) ?_)
   refine n_step [55] (by kernel_rfl) (n_cons ?_ <| n_nil)
   refine n_op (rem' := []) rfl (by kernel_rfl) rfl fun T117 hT117 => ?_
   refine rS (AG rfl) ?_
   refine r_nil (hT117 _ _ (fun w hs => St.sel [1, 2, 3, 4, 5, 6, 7, 8] rfl rfl hs) ?_)
   refine n_fin ?_
   refine KK hK33 ?_
   refine w_ret ?_
   refine Q1 hQ rfl rfl rfl ?_
   first | rfl | simp
 refine n_op (rem' := [16, 18, 19, 20, 21, 22, 23, 24, 25, 26, 27, 28, 29, 30, 31, 32, 33, 34, 35, 36, 37, 38, 39, 40, 41, 42, 43, 44, 45, 46, 47, 48, 49, 50, 51, 52, 53, 54, 55]) rfl (by kernel_rfl) rfl fun T118 hT118 => ?_
 refine rS (CL (lspan_c 359 467) (ha_nil) rfl) ?_
 refine r_nil (hT118 _ _ (fun w hs => St.sel [1, 2, 3, 4, 5, 6, 7, 8] rfl rfl hs) ?_)
 refine n_step [16] (by kernel_rfl) (n_cons ?_ <| n_nil)
 refine n_op (rem' := [18, 19, 20, 21, 22, 23, 24, 25, 26, 27, 28, 29, 30, 31, 32, 33, 34, 35, 36, 37, 38, 39, 40, 41, 42, 43, 44, 45, 46, 47, 48, 49, 50, 51, 52, 53, 54, 55]) rfl (by kernel_rfl) rfl fun T119 hT119 => ?_
 refine rS (LW 5 rfl tk26 rfl rfl) ?_
 refine r_nil (hT119 _ _ (fun w hs => St.sel [1, 2, 3, 4, 5, 6, 7, 8] rfl rfl hs) ?_)
 refine n_step [18] (by kernel_rfl) (n_cons ?_ <| n_nil)
 refine n_op (rem' := [19, 20, 21, 22, 23, 24, 25, 26, 27, 28, 29, 30, 31, 32, 33, 34, 35, 36, 37, 38, 39, 40, 41, 42, 43, 44, 45, 46, 47, 48, 49, 50, 51, 52, 53, 54, 55]) rfl (by kernel_rfl) rfl fun T120 hT120 => ?_
 refine rS (BI rfl (eqs26 _ _ (SpanV.mk 359 467) (SpanV.mk 359 467))) ?_
 refine r_nil (hT120 _ _ (fun w hs => St.sel [1, 2, 3, 4, 5, 6, 7, 8] rfl rfl hs) ?_)
 refine n_step [19] (by kernel_rfl) (n_cons ?_ <| n_nil)
 refine n_op (rem' := [20, 21, 22, 23, 24, 25, 26, 27, 28, 29, 30, 31, 32, 33, 34, 35, 36, 37, 38, 39, 40, 41, 42, 43, 44, 45, 46, 47, 48, 49, 50, 51, 52, 53, 54, 55]) rfl (by kernel_rfl) rfl fun T121 hT121 => ?_
 refine rS (PK rfl) ?_
 refine r_nil (hT121 _ _ (fun w hs => St.sel [1, 2, 3, 4, 5, 6, 7, 8] rfl rfl hs) ?_)
 refine n_step [20] (by kernel_rfl) (n_cons ?_ <| n_nil)
 refine n_op (rem' := [21, 22, 23, 24, 25, 26, 27, 28, 29, 30, 31, 32, 33, 34, 35, 36, 37, 38, 39, 40, 41, 42, 43, 44, 45, 46, 47, 48, 49, 50, 51, 52, 53, 54, 55]) rfl (by kernel_rfl) rfl fun T122 hT122 => ?_
 refine rS (MV rfl) ?_
 refine r_nil (hT122 _ _ (fun w hs => St.sel [1, 2, 3, 4, 5, 6, 7, 8] rfl rfl hs) ?_)
 refine n_step [21] (by kernel_rfl) (n_cons ?_ <| n_nil)
 refine n_op (rem' := [22, 23, 24, 25, 26, 27, 28, 29, 30, 31, 32, 33, 34, 35, 36, 37, 38, 39, 40, 41, 42, 43, 44, 45, 46, 47, 48, 49, 50, 51, 52, 53, 54, 55]) rfl (by kernel_rfl) rfl fun T123 hT123 => ?_
 refine r_bool (t := 63) rfl (fun h124 => ?_) (fun h124 => ?_)
 rotate_left 1
 · replace h124 := DF h124
   exact absurd rfl h124
 replace h124 := DT h124
 refine rS (MV rfl) ?_
 refine r_nil (hT123 _ _ (fun w hs => St.sel [1, 2, 3, 4, 5, 6, 7, 8] rfl rfl hs) ?_)
 refine n_step [22] (by kernel_rfl) (n_cons ?_ <| n_nil)
 refine n_op (rem' := [23, 24, 25, 26, 27, 28, 29, 30, 31, 32, 33, 34, 35, 36, 37, 38, 39, 40, 41, 42, 43, 44, 45, 46, 47, 48, 49, 50, 51, 52, 53, 54, 55]) rfl (by kernel_rfl) rfl fun T125 hT125 => ?_
 refine rS (SX (sd_bin (r := .bool true) rfl rfl rfl b_eql) rfl rfl) ?_
 refine r_nil (hT125 _ _ (fun w hs => St.sel [1, 2, 3, 4, 5, 6, 7, 8] rfl rfl hs) ?_)
 refine n_step [23] (by kernel_rfl) (n_cons ?_ <| n_nil)
 refine n_op (rem' := [24, 25, 26, 27, 28, 29, 30, 31, 32, 33, 34, 35, 36, 37, 38, 39, 40, 41, 42, 43, 44, 45, 46, 47, 48, 49, 50, 51, 52, 53, 54, 55]) rfl (by kernel_rfl) rfl fun T126 hT126 => ?_
 refine rS (PK rfl) ?_
 refine r_nil (hT126 _ _ (fun w hs => St.sel [1, 2, 3, 4, 5, 6, 7, 8] rfl rfl hs) ?_)
 refine n_step [24] (by kernel_rfl) (n_cons ?_ <| n_nil)
 refine n_op (rem' := [25, 26, 27, 28, 29, 30, 31, 32, 33, 34, 35, 36, 37, 38, 39, 40, 41, 42, 43, 44, 45, 46, 47, 48, 49, 50, 51, 52, 53, 54, 55]) rfl (by kernel_rfl) rfl fun T127 hT127 => ?_
 refine rS (MV rfl) ?_
 refine r_nil (hT127 _ _ (fun w hs => St.sel [1, 2, 3, 4, 5, 6, 7, 8] rfl rfl hs) ?_)
 refine n_step [25, 26] (by kernel_rfl) (n_cons ?_ <| n_cons ?_ <| n_nil)
 rotate_left 1
 · refine n_op (rem' := [25, 27, 28, 29, 30, 31, 32, 33, 34, 35, 36, 37, 38, 39, 40, 41, 42, 43, 44, 45, 46, 47, 48, 49, 50, 51, 52, 53, 54, 55]) rfl (by kernel_rfl) rfl fun T160 hT160 => ?_
   refine rS (CL (lspan_c 16 95) (ha_nil) rfl) ?_
   refine r_nil (hT160 _ _ (fun w hs => St.sel [1, 2, 3, 4, 5, 6, 7, 8] rfl rfl hs) ?_)
   refine n_step [25] (by kernel_rfl) (n_cons ?_ <| n_nil)
   refine n_op (rem' := [27, 28, 29, 30, 31, 32, 33, 34, 35, 36, 37, 38, 39, 40, 41, 42, 43, 44, 45, 46, 47, 48, 49, 50, 51, 52, 53, 54, 55]) rfl (by kernel_rfl) rfl fun T161 hT161 => ?_
   refine rS (LW 3 rfl tk26 rfl rfl) ?_
   refine r_nil (hT161 _ _ (fun w hs => St.sel [1, 2, 3, 4, 5, 6, 7, 8] rfl rfl hs) ?_)
   refine n_step [27] (by kernel_rfl) (n_cons ?_ <| n_nil)
   refine n_op (rem' := [28, 29, 30, 31, 32, 33, 34, 35, 36, 37, 38, 39, 40, 41, 42, 43, 44, 45, 46, 47, 48, 49, 50, 51, 52, 53, 54, 55]) rfl (by kernel_rfl) rfl fun T162 hT162 => ?_
   refine rS (BI rfl (eqs26 _ _ (SpanV.mk 16 95) (SpanV.mk 16 95))) ?_
   refine r_nil (hT162 _ _ (fun w hs => St.sel [1, 2, 3, 4, 5, 6, 7, 8] rfl rfl hs) ?_)
   refine n_step [28] (by kernel_rfl) (n_cons ?_ <| n_nil)
   refine n_op (rem' := [29, 30, 31, 32, 33, 34, 35, 36, 37, 38, 39, 40, 41, 42, 43, 44, 45, 46, 47, 48, 49, 50, 51, 52, 53, 54, 55]) rfl (by kernel_rfl) rfl fun T163 hT163 => ?_
   refine rS (PK rfl) ?_
   refine r_nil (hT163 _ _ (fun w hs => St.sel [1, 2, 3, 4, 5, 6, 7, 8] rfl rfl hs) ?_)
   refine n_step [29] (by kernel_rfl) (n_cons ?_ <| n_nil)
   refine n_op (rem' := [30, 31, 32, 33, 34, 35, 36, 37, 38, 39, 40, 41, 42, 43, 44, 45, 46, 47, 48, 49, 50, 51, 52, 53, 54, 55]) rfl (by kernel_rfl) rfl fun T164 hT164 => ?_
   refine rS (MV rfl) ?_
   refine r_nil (hT164 _ _ (fun w hs => St.sel [1, 2, 3, 4, 5, 6, 7, 8] rfl rfl hs) ?_)
   refine n_step [30] (by kernel_rfl) (n_cons ?_ <| n_nil)
   refine n_op (rem' := [31, 32, 33, 34, 35, 36, 37, 38, 39, 40, 41, 42, 43, 44, 45, 46, 47, 48, 49, 50, 51, 52, 53, 54, 55]) rfl (by kernel_rfl) rfl fun T165 hT165 => ?_
   refine r_bool (t := 72) rfl (fun h166 => ?_) (fun h166 => ?_)
   rotate_left 1
   · replace h166 := DF h166
     exact absurd rfl h166
   replace h166 := DT h166
   refine rS (CL (exsafe_c 100 2 (by exact both100) (by exact ex_safe100)) (ha_nil) rfl) ?_
   refine r_nil (hT165 _ _ (fun w hs => St.sel [1, 2, 3, 4, 5, 6, 7, 8] rfl rfl hs) ?_)
   refine n_step [31] (by kernel_rfl) (n_cons ?_ <| n_nil)
   refine n_op (rem' := [32, 33, 34, 35, 36, 37, 38, 39, 40, 41, 42, 43, 44, 45, 46, 47, 48, 49, 50, 51, 52, 53, 54, 55]) rfl (by kernel_rfl) rfl fun T167 hT167 => ?_
   refine rS (PK rfl) ?_
   refine r_nil (hT167 _ _ (fun w hs => St.sel [1, 2, 3, 4, 5, 6, 7, 8] rfl rfl hs) ?_)
   refine n_step [32] (by kernel_rfl) (n_cons ?_ <| n_nil)
   refine n_op (rem' := [33, 34, 35, 36, 37, 38, 39, 40, 41, 42, 43, 44, 45, 46, 47, 48, 49, 50, 51, 52, 53, 54, 55]) rfl (by kernel_rfl) rfl fun T168 hT168 => ?_
   refine rS (MV rfl) ?_
   refine r_nil (hT168 _ _ (fun w hs => St.sel [1, 2, 3, 4, 5, 6, 7, 8] rfl rfl hs) ?_)
   refine n_step [33] (by kernel_rfl) (n_cons ?_ <| n_nil)
   refine n_op (rem' := [34, 35, 36, 37, 38, 39, 40, 41, 42, 43, 44, 45, 46, 47, 48, 49, 50, 51, 52, 53, 54, 55]) rfl (by kernel_rfl) rfl fun T169 hT169 => ?_
   refine rS (CL (exsafe_c 90 1 (by exact both90) (by exact ex_safe90)) (ha_nil) rfl) ?_
   refine r_nil (hT169 _ _ (fun w hs => St.sel [1, 2, 3, 4, 5, 6, 7, 8] rfl rfl hs) ?_)
   refine n_step [34] (by kernel_rfl) (n_cons ?_ <| n_nil)
   refine n_op (rem' := [35, 36, 37, 38, 39, 40, 41, 42, 43, 44, 45, 46, 47, 48, 49, 50, 51, 52, 53, 54, 55]) rfl (by kernel_rfl) rfl fun T170 hT170 => ?_
   refine rS (PK rfl) ?_
   refine r_nil (hT170 _ _ (fun w hs => St.sel [1, 2, 3, 4, 5, 6, 7, 8] rfl rfl hs) ?_)
   refine n_step [35] (by kernel_rfl) (n_cons ?_ <| n_nil)
   refine n_op (rem' := [36, 37, 38, 39, 40, 41, 42, 43, 44, 45, 46, 47, 48, 49, 50, 51, 52, 53, 54, 55]) rfl (by kernel_rfl) rfl fun T171 hT171 => ?_
   refine rS (MV rfl) ?_
   refine r_nil (hT171 _ _ (fun w hs => St.sel [1, 2, 3, 4, 5, 6, 7, 8] rfl rfl hs) ?_)
   refine n_step [36] (by kernel_rfl) (n_cons ?_ <| n_nil)
   refine n_op (rem' := [37, 38, 39, 40, 41, 42, 43, 44, 45, 46, 47, 48, 49, 50, 51, 52, 53, 54, 55]) rfl (by kernel_rfl) rfl fun T172 hT172 => ?_
   refine rS (MV rfl) ?_
   refine r_nil (hT172 _ _ (fun w hs => St.sel [1, 2, 3, 4, 5, 6, 7, 8] rfl rfl hs) ?_)
   refine n_step [37] (by kernel_rfl) (n_cons ?_ <| n_nil)
   refine n_op (rem' := [38, 39, 40, 41, 42, 43, 44, 45, 46, 47, 48, 49, 50, 51, 52, 53, 54, 55]) rfl (by kernel_rfl) rfl fun T173 hT173 => ?_
   refine rS (SX (sd_bin (r := .bool true) rfl rfl rfl b_eql) rfl rfl) ?_
   refine r_nil (hT173 _ _ (fun w hs => St.sel [1, 2, 3, 4, 5, 6, 7, 8] rfl rfl hs) ?_)
   refine n_step [38] (by kernel_rfl) (n_cons ?_ <| n_nil)
   refine n_op (rem' := [39, 40, 41, 42, 43, 44, 45, 46, 47, 48, 49, 50, 51, 52, 53, 54, 55]) rfl (by kernel_rfl) rfl fun T174 hT174 => ?_
   refine rS (PK rfl) ?_
   refine r_nil (hT174 _ _ (fun w hs => St.sel [1, 2, 3, 4, 5, 6, 7, 8] rfl rfl hs) ?_)
   refine n_step [39] (by kernel_rfl) (n_cons ?_ <| n_nil)
   refine n_op (rem' := [40, 41, 42, 43, 44, 45, 46, 47, 48, 49, 50, 51, 52, 53, 54, 55]) rfl (by kernel_rfl) rfl fun T175 hT175 => ?_
   refine rS (MV rfl) ?_
   refine r_nil (hT175 _ _ (fun w hs => St.sel [1, 2, 3, 4, 5, 6, 7, 8] rfl rfl hs) ?_)
   refine n_step [40] (by kernel_rfl) (n_cons ?_ <| n_nil)
   refine n_op (rem' := [41, 42, 43, 44, 45, 46, 47, 48, 49, 50, 51, 52, 53, 54, 55]) rfl (by kernel_rfl) rfl fun T176 hT176 => ?_
   refine rS (MV rfl) ?_
   refine r_nil (hT176 _ _ (fun w hs => St.sel [1, 2, 3, 4, 5, 6, 7, 8] rfl rfl hs) ?_)
   refine n_step [41] (by kernel_rfl) (n_cons ?_ <| n_nil)
   refine n_op (rem' := [42, 43, 44, 45, 46, 47, 48, 49, 50, 51, 52, 53, 54, 55]) rfl (by kernel_rfl) rfl fun T177 hT177 => ?_
   refine rS (SX (sd_bin (r := .bool true) rfl rfl rfl b_eql) rfl rfl) ?_
   refine r_nil (hT177 _ _ (fun w hs => St.sel [1, 2, 3, 4, 5, 6, 7, 8] rfl rfl hs) ?_)
   refine n_step [42] (by kernel_rfl) (n_cons ?_ <| n_nil)
   refine n_op (rem' := [43, 44, 45, 46, 47, 48, 49, 50, 51, 52, 53, 54, 55]) rfl (by kernel_rfl) rfl fun T178 hT178 => ?_
   refine rS (PK rfl) ?_
   refine r_nil (hT178 _ _ (fun w hs => St.sel [1, 2, 3, 4, 5, 6, 7, 8] rfl rfl hs) ?_)
   refine n_step [43] (by kernel_rfl) (n_cons ?_ <| n_nil)
   refine n_op (rem' := [44, 45, 46, 47, 48, 49, 50, 51, 52, 53, 54, 55]) rfl (by kernel_rfl) rfl fun T179 hT179 => ?_
   refine rS (MV rfl) ?_
   refine r_nil (hT179 _ _ (fun w hs => St.sel [1, 2, 3, 4, 5, 6, 7, 8] rfl rfl hs) ?_)
   refine n_step [44] (by kernel_rfl) (n_cons ?_ <| n_nil)
   refine n_op (rem' := [45, 46, 47, 48, 49, 50, 51, 52, 53, 54, 55]) rfl (by kernel_rfl) rfl fun T180 hT180 => ?_
   refine rS (MV rfl) ?_
   refine r_nil (hT180 _ _ (fun w hs => St.sel [1, 2, 3, 4, 5, 6, 7, 8] rfl rfl hs) ?_)
   refine n_step [45] (by kernel_rfl) (n_cons ?_ <| n_nil)
   refine n_op (rem' := [46, 47, 48, 49, 50, 51, 52, 53, 54, 55]) rfl (by kernel_rfl) rfl fun T181 hT181 => ?_
   refine rS (SX (sd_bin (r := .bool true) rfl rfl rfl b_eql) rfl rfl) ?_
   refine r_nil (hT181 _ _ (fun w hs => St.sel [1, 2, 3, 4, 5, 6, 7, 8] rfl rfl hs) ?_)
   refine n_step [46] (by kernel_rfl) (n_cons ?_ <| n_nil)
   refine n_op (rem' := [47, 48, 49, 50, 51, 52, 53, 54, 55]) rfl (by kernel_rfl) rfl fun T182 hT182 => ?_
   refine rS (PK rfl) ?_
   refine r_nil (hT182 _ _ (fun w hs => St.sel [1, 2, 3, 4, 5, 6, 7, 8] rfl rfl hs) ?_)
   refine n_step [47] (by kernel_rfl) (n_cons ?_ <| n_nil)
   refine n_op (rem' := [48, 49, 50, 51, 52, 53, 54, 55]) rfl (by kernel_rfl) rfl fun T183 hT183 => ?_
   refine rS (MV rfl) ?_
   refine r_nil (hT183 _ _ (fun w hs => St.sel [1, 2, 3, 4, 5, 6, 7, 8] rfl rfl hs) ?_)
   refine n_step [48] (by kernel_rfl) (n_cons ?_ <| n_nil)
   refine n_op (rem' := [49, 50, 51, 52, 53, 54, 55]) rfl (by kernel_rfl) rfl fun T184 hT184 => ?_
   refine rS (MV rfl) ?_
   refine r_nil (hT184 _ _ (fun w hs => St.sel [1, 2, 3, 4, 5, 6, 7, 8] rfl rfl hs) ?_)
   refine n_step [49] (by kernel_rfl) (n_cons ?_ <| n_nil)
   refine n_op (rem' := [50, 51, 52, 53, 54, 55]) rfl (by kernel_rfl) rfl fun T185 hT185 => ?_
   refine rS (SX (sd_bin (r := .bool true) rfl rfl rfl b_eql) rfl rfl) ?_
   refine r_nil (hT185 _ _ (fun w hs => St.sel [1, 2, 3, 4, 5, 6, 7, 8] rfl rfl hs) ?_)
   refine n_step [50] (by kernel_rfl) (n_cons ?_ <| n_nil)
   refine n_op (rem' := [51, 52, 53, 54, 55]) rfl (by kernel_rfl) rfl fun T186 hT186 => ?_
   refine rS (PK rfl) ?_
   refine r_nil (hT186 _ _ (fun w hs => St.sel [1, 2, 3, 4, 5, 6, 7, 8] rfl rfl hs) ?_)
   refine n_step [51] (by kernel_rfl) (n_cons ?_ <| n_nil)
   refine n_op (rem' := [52, 53, 54, 55]) rfl (by kernel_rfl) rfl fun T187 hT187 => ?_
   refine rS (MV rfl) ?_
   refine r_nil (hT187 _ _ (fun w hs => St.sel [1, 2, 3, 4, 5, 6, 7, 8] rfl rfl hs) ?_)
   refine n_step [52] (by kernel_rfl) (n_cons ?_ <| n_nil)
   refine n_op (rem' := [53, 54, 55]) rfl (by kernel_rfl) rfl fun T188 hT188 => ?_
   refine rS (MV rfl) ?_
   refine r_nil (hT188 _ _ (fun w hs => St.sel [1, 2, 3, 4, 5, 6, 7, 8] rfl rfl hs) ?_)
   refine n_step [53] (by kernel_rfl) (n_cons ?_ <| n_nil)
   refine n_op (rem' := [54, 55]) rfl (by kernel_rfl) rfl fun T189 hT189 => ?_
   refine rS (SX (sd_bin (r := .bool true) rfl rfl rfl b_eql) rfl rfl) ?_
   refine r_nil (hT189 _ _ (fun w hs => St.sel [1, 2, 3, 4, 5, 6, 7, 8] rfl rfl hs) ?_)
   refine n_step [54] (by kernel_rfl) (n_cons ?_ <| n_nil)
   refine n_op (rem' := [55]) rfl (by kernel_rfl) rfl fun T190 hT190 => ?_
   refine rS (PK rfl) ?_
   refine r_nil (hT190 _ _ (fun w hs => St.sel [1, 2, 3, 4, 5, 6, 7, 8] rfl rfl hs) ?_)
   refine n_step [55] (by kernel_rfl) (n_cons ?_ <| n_nil)
   refine n_op (rem' := []) rfl (by kernel_rfl) rfl fun T191 hT191 => ?_
   refine rS (AG rfl) ?_
   refine r_nil (hT191 _ _ (fun w hs => St.sel [1, 2, 3, 4, 5, 6, 7, 8] rfl rfl hs) ?_)
   refine n_fin ?_
   refine KK hK33 ?_
   refine w_ret ?_
   refine Q1 hQ rfl rfl rfl ?_
   first | rfl | simp
 refine n_op (rem' := [26, 27, 28, 29, 30, 31, 32, 33, 34, 35, 36, 37, 38, 39, 40, 41, 42, 43, 44, 45, 46, 47, 48, 49, 50, 51, 52, 53, 54, 55]) rfl (by kernel_rfl) rfl fun T128 hT128 => ?_
 refine rS (LW 3 rfl tk26 rfl rfl) ?_
 refine r_nil (hT128 _ _ (fun w hs => St.sel [1, 2, 3, 4, 5, 6, 7, 8] rfl rfl hs) ?_)
 refine n_step [26] (by kernel_rfl) (n_cons ?_ <| n_nil)
 refine n_op (rem' := [27, 28, 29, 30, 31, 32, 33, 34, 35, 36, 37, 38, 39, 40, 41, 42, 43, 44, 45, 46, 47, 48, 49, 50, 51, 52, 53, 54, 55]) rfl (by kernel_rfl) rfl fun T129 hT129 => ?_
 refine rS (CL (lspan_c 16 95) (ha_nil) rfl) ?_
 refine r_nil (hT129 _ _ (fun w hs => St.sel [1, 2, 3, 4, 5, 6, 7, 8] rfl rfl hs) ?_)
 refine n_step [27] (by kernel_rfl) (n_cons ?_ <| n_nil)
 refine n_op (rem' := [28, 29, 30, 31, 32, 33, 34, 35, 36, 37, 38, 39, 40, 41, 42, 43, 44, 45, 46, 47, 48, 49, 50, 51, 52, 53, 54, 55]) rfl (by kernel_rfl) rfl fun T130 hT130 => ?_
 refine rS (BI rfl (eqs26 _ _ (SpanV.mk 16 95) (SpanV.mk 16 95))) ?_
 refine r_nil (hT130 _ _ (fun w hs => St.sel [1, 2, 3, 4, 5, 6, 7, 8] rfl rfl hs) ?_)
 refine n_step [28] (by kernel_rfl) (n_cons ?_ <| n_nil)
 refine n_op (rem' := [29, 30, 31, 32, 33, 34, 35, 36, 37, 38, 39, 40, 41, 42, 43, 44, 45, 46, 47, 48, 49, 50, 51, 52, 53, 54, 55]) rfl (by kernel_rfl) rfl fun T131 hT131 => ?_
 refine rS (PK rfl) ?_
 refine r_nil (hT131 _ _ (fun w hs => St.sel [1, 2, 3, 4, 5, 6, 7, 8] rfl rfl hs) ?_)
 refine n_step [29] (by kernel_rfl) (n_cons ?_ <| n_nil)
 refine n_op (rem' := [30, 31, 32, 33, 34, 35, 36, 37, 38, 39, 40, 41, 42, 43, 44, 45, 46, 47, 48, 49, 50, 51, 52, 53, 54, 55]) rfl (by kernel_rfl) rfl fun T132 hT132 => ?_
 refine rS (MV rfl) ?_
 refine r_nil (hT132 _ _ (fun w hs => St.sel [1, 2, 3, 4, 5, 6, 7, 8] rfl rfl hs) ?_)
 refine n_step [30] (by kernel_rfl) (n_cons ?_ <| n_nil)
 refine n_op (rem' := [31, 32, 33, 34, 35, 36, 37, 38, 39, 40, 41, 42, 43, 44, 45, 46, 47, 48, 49, 50, 51, 52, 53, 54, 55]) rfl (by kernel_rfl) rfl fun T133 hT133 => ?_
 refine r_bool (t := 72) rfl (fun h134 => ?_) (fun h134 => ?_)
 rotate_left 1
 · replace h134 := DF h134
   exact absurd rfl h134
 replace h134 := DT h134
 refine rS (CL (exsafe_c 100 2 (by exact both100) (by exact ex_safe100)) (ha_nil) rfl) ?_
 refine r_nil (hT133 _ _ (fun w hs => St.sel [1, 2, 3, 4, 5, 6, 7, 8] rfl rfl hs) ?_)
 refine n_step [31] (by kernel_rfl) (n_cons ?_ <| n_nil)
 refine n_op (rem' := [32, 33, 34, 35, 36, 37, 38, 39, 40, 41, 42, 43, 44, 45, 46, 47, 48, 49, 50, 51, 52, 53, 54, 55]) rfl (by kernel_rfl) rfl fun T135 hT135 => ?_
 refine rS (PK rfl) ?_
 refine r_nil (hT135 _ _ (fun w hs => St.sel [1, 2, 3, 4, 5, 6, 7, 8] rfl rfl hs) ?_)
 refine n_step [32] (by kernel_rfl) (n_cons ?_ <| n_nil)
 refine n_op (rem' := [33, 34, 35, 36, 37, 38, 39, 40, 41, 42, 43, 44, 45, 46, 47, 48, 49, 50, 51, 52, 53, 54, 55]) rfl (by kernel_rfl) rfl fun T136 hT136 => ?_
 refine rS (MV rfl) ?_
 refine r_nil (hT136 _ _ (fun w hs => St.sel [1, 2, 3, 4, 5, 6, 7, 8] rfl rfl hs) ?_)
 refine n_step [33] (by kernel_rfl) (n_cons ?_ <| n_nil)
 refine n_op (rem' := [34, 35, 36, 37, 38, 39, 40, 41, 42, 43, 44, 45, 46, 47, 48, 49, 50, 51, 52, 53, 54, 55]) rfl (by kernel_rfl) rfl fun T137 hT137 => ?_
 refine rS (CL (exsafe_c 90 1 (by exact both90) (by exact ex_safe90)) (ha_nil) rfl) ?_
 refine r_nil (hT137 _ _ (fun w hs => St.sel [1, 2, 3, 4, 5, 6, 7, 8] rfl rfl hs) ?_)
 refine n_step [34] (by kernel_rfl) (n_cons ?_ <| n_nil)
 refine n_op (rem' := [35, 36, 37, 38, 39, 40, 41, 42, 43, 44, 45, 46, 47, 48, 49, 50, 51, 52, 53, 54, 55]) rfl (by kernel_rfl) rfl fun T138 hT138 => ?_
 refine rS (PK rfl) ?_
 refine r_nil (hT138 _ _ (fun w hs => St.sel [1, 2, 3, 4, 5, 6, 7, 8] rfl rfl hs) ?_)
 refine n_step [35] (by kernel_rfl) (n_cons ?_ <| n_nil)
 refine n_op (rem' := [36, 37, 38, 39, 40, 41, 42, 43, 44, 45, 46, 47, 48, 49, 50, 51, 52, 53, 54, 55]) rfl (by kernel_rfl) rfl fun T139 hT139 => ?_
 refine rS (MV rfl) ?_
 refine r_nil (hT139 _ _ (fun w hs => St.sel [1, 2, 3, 4, 5, 6, 7, 8] rfl rfl hs) ?_)
 refine n_step [36] (by kernel_rfl) (n_cons ?_ <| n_nil)
 refine n_op (rem' := [37, 38, 39, 40, 41, 42, 43, 44, 45, 46, 47, 48, 49, 50, 51, 52, 53, 54, 55]) rfl (by kernel_rfl) rfl fun T140 hT140 => ?_
 refine rS (MV rfl) ?_
 refine r_nil (hT140 _ _ (fun w hs => St.sel [1, 2, 3, 4, 5, 6, 7, 8] rfl rfl hs) ?_)
 refine n_step [37] (by kernel_rfl) (n_cons ?_ <| n_nil)
 refine n_op (rem' := [38, 39, 40, 41, 42, 43, 44, 45, 46, 47, 48, 49, 50, 51, 52, 53, 54, 55]) rfl (by kernel_rfl) rfl fun T141 hT141 => ?_
 refine rS (SX (sd_bin (r := .bool true) rfl rfl rfl b_eql) rfl rfl) ?_
 refine r_nil (hT141 _ _ (fun w hs => St.sel [1, 2, 3, 4, 5, 6, 7, 8] rfl rfl hs) ?_)
 refine n_step [38] (by kernel_rfl) (n_cons ?_ <| n_nil)
 refine n_op (rem' := [39, 40, 41, 42, 43, 44, 45, 46, 47, 48, 49, 50, 51, 52, 53, 54, 55]) rfl (by kernel_rfl) rfl fun T142 hT142 => ?_
 refine rS (PK rfl) ?_
 refine r_nil (hT142 _ _ (fun w hs => St.sel [1, 2, 3, 4, 5, 6, 7, 8] rfl rfl hs) ?_)
 refine n_step [39] (by kernel_rfl) (n_cons ?_ <| n_nil)
 refine n_op (rem' := [40, 41, 42, 43, 44, 45, 46, 47, 48, 49, 50, 51, 52, 53, 54, 55]) rfl (by kernel_rfl) rfl fun T143 hT143 => ?_
 refine rS (MV rfl) ?_
 refine r_nil (hT143 _ _ (fun w hs => St.sel [1, 2, 3, 4, 5, 6, 7, 8] rfl rfl hs) ?_)
 refine n_step [40] (by kernel_rfl) (n_cons ?_ <| n_nil)
 refine n_op (rem' := [41, 42, 43, 44, 45, 46, 47, 48, 49, 50, 51, 52, 53, 54, 55]) rfl (by kernel_rfl) rfl fun T144 hT144 => ?_
 refine rS (MV rfl) ?_
 refine r_nil (hT144 _ _ (fun w hs => St.sel [1, 2, 3, 4, 5, 6, 7, 8] rfl rfl hs) ?_)
 refine n_step [41] (by kernel_rfl) (n_cons ?_ <| n_nil)
 refine n_op (rem' := [42, 43, 44, 45, 46, 47, 48, 49, 50, 51, 52, 53, 54, 55]) rfl (by kernel_rfl) rfl fun T145 hT145 => ?_
 refine rS (SX (sd_bin (r := .bool true) rfl rfl rfl b_eql) rfl rfl) ?_
 refine r_nil (hT145 _ _ (fun w hs => St.sel [1, 2, 3, 4, 5, 6, 7, 8] rfl rfl hs) ?_)
 refine n_step [42] (by kernel_rfl) (n_cons ?_ <| n_nil)
 refine n_op (rem' := [43, 44, 45, 46, 47, 48, 49, 50, 51, 52, 53, 54, 55]) rfl (by kernel_rfl) rfl fun T146 hT146 => ?_
 refine rS (PK rfl) ?_
 refine r_nil (hT146 _ _ (fun w hs => St.sel [1, 2, 3, 4, 5, 6, 7, 8] rfl rfl hs) ?_)
 refine n_step [43] (by kernel_rfl) (n_cons ?_ <| n_nil)
 refine n_op (rem' := [44, 45, 46, 47, 48, 49, 50, 51, 52, 53, 54, 55]) rfl (by kernel_rfl) rfl fun T147 hT147 => ?_
 refine rS (MV rfl) ?_
 refine r_nil (hT147 _ _ (fun w hs => St.sel [1, 2, 3, 4, 5, 6, 7, 8] rfl rfl hs) ?_)
 refine n_step [44] (by kernel_rfl) (n_cons ?_ <| n_nil)
 refine n_op (rem' := [45, 46, 47, 48, 49, 50, 51, 52, 53, 54, 55]) rfl (by kernel_rfl) rfl fun T148 hT148 => ?_
 refine rS (MV rfl) ?_
 refine r_nil (hT148 _ _ (fun w hs => St.sel [1, 2, 3, 4, 5, 6, 7, 8] rfl rfl hs) ?_)
 refine n_step [45] (by kernel_rfl) (n_cons ?_ <| n_nil)
 refine n_op (rem' := [46, 47, 48, 49, 50, 51, 52, 53, 54, 55]) rfl (by kernel_rfl) rfl fun T149 hT149 => ?_
 refine rS (SX (sd_bin (r := .bool true) rfl rfl rfl b_eql) rfl rfl) ?_
 refine r_nil (hT149 _ _ (fun w hs => St.sel [1, 2, 3, 4, 5, 6, 7, 8] rfl rfl hs) ?_)
 refine n_step [46] (by kernel_rfl) (n_cons ?_ <| n_nil)
 refine n_op (rem' := [47, 48, 49, 50, 51, 52, 53, 54, 55]) rfl (by kernel_rfl) rfl fun T150 hT150 => ?_
 refine rS (PK rfl) ?_
 refine r_nil (hT150 _ _ (fun w hs => St.sel [1, 2, 3, 4, 5, 6, 7, 8] rfl rfl hs) ?_)
 refine n_step [47] (by kernel_rfl) (n_cons ?_ <| n_nil)
 refine n_op (rem' := [48, 49, 50, 51, 52, 53, 54, 55]) rfl (by kernel_rfl) rfl fun T151 hT151 => ?_
 refine rS (MV rfl) ?_
 refine r_nil (hT151 _ _ (fun w hs => St.sel [1, 2, 3, 4, 5, 6, 7, 8] rfl rfl hs) ?_)
 refine n_step [48] (by kernel_rfl) (n_cons ?_ <| n_nil)
 refine n_op (rem' := [49, 50, 51, 52, 53, 54, 55]) rfl (by kernel_rfl) rfl fun T152 hT152 => ?_
 refine rS (MV rfl) ?_
 refine r_nil (hT152 _ _ (fun w hs => St.sel [1, 2, 3, 4, 5, 6, 7, 8] rfl rfl hs) ?_)
 refine n_step [49] (by kernel_rfl) (n_cons ?_ <| n_nil)
 refine n_op (rem' := [50, 51, 52, 53, 54, 55]) rfl (by kernel_rfl) rfl fun T153 hT153 => ?_
 refine rS (SX (sd_bin (r := .bool true) rfl rfl rfl b_eql) rfl rfl) ?_
 refine r_nil (hT153 _ _ (fun w hs => St.sel [1, 2, 3, 4, 5, 6, 7, 8] rfl rfl hs) ?_)
 refine n_step [50] (by kernel_rfl) (n_cons ?_ <| n_nil)
 refine n_op (rem' := [51, 52, 53, 54, 55]) rfl (by kernel_rfl) rfl fun T154 hT154 => ?_
 refine rS (PK rfl) ?_
 refine r_nil (hT154 _ _ (fun w hs => St.sel [1, 2, 3, 4, 5, 6, 7, 8] rfl rfl hs) ?_)
 refine n_step [51] (by kernel_rfl) (n_cons ?_ <| n_nil)
 refine n_op (rem' := [52, 53, 54, 55]) rfl (by kernel_rfl) rfl fun T155 hT155 => ?_
 refine rS (MV rfl) ?_
 refine r_nil (hT155 _ _ (fun w hs => St.sel [1, 2, 3, 4, 5, 6, 7, 8] rfl rfl hs) ?_)
 refine n_step [52] (by kernel_rfl) (n_cons ?_ <| n_nil)
 refine n_op (rem' := [53, 54, 55]) rfl (by kernel_rfl) rfl fun T156 hT156 => ?_
 refine rS (MV rfl) ?_
 refine r_nil (hT156 _ _ (fun w hs => St.sel [1, 2, 3, 4, 5, 6, 7, 8] rfl rfl hs) ?_)
 refine n_step [53] (by kernel_rfl) (n_cons ?_ <| n_nil)
 refine n_op (rem' := [54, 55]) rfl (by kernel_rfl) rfl fun T157 hT157 => ?_
 refine rS (SX (sd_bin (r := .bool true) rfl rfl rfl b_eql) rfl rfl) ?_
 refine r_nil (hT157 _ _ (fun w hs => St.sel [1, 2, 3, 4, 5, 6, 7, 8] rfl rfl hs) ?_)
 refine n_step [54] (by kernel_rfl) (n_cons ?_ <| n_nil)
 refine n_op (rem' := [55]) rfl (by kernel_rfl) rfl fun T158 hT158 => ?_
 refine rS (PK rfl) ?_
 refine r_nil (hT158 _ _ (fun w hs => St.sel [1, 2, 3, 4, 5, 6, 7, 8] rfl rfl hs) ?_)
 refine n_step [55] (by kernel_rfl) (n_cons ?_ <| n_nil)
 refine n_op (rem' := []) rfl (by kernel_rfl) rfl fun T159 hT159 => ?_
 refine rS (AG rfl) ?_
 refine r_nil (hT159 _ _ (fun w hs => St.sel [1, 2, 3, 4, 5, 6, 7, 8] rfl rfl hs) ?_)
 refine n_fin ?_
 refine KK hK33 ?_
 refine w_ret ?_
 refine Q1 hQ rfl rfl rfl ?_
 first | rfl | simp

set_option maxRecDepth 100000 in
set_option maxHeartbeats 400000 in
theorem ready_c (ts : List StretchV) (tsA : Option Addr) (tsC : Nat) (s : SledV) (hc : 0 ≤ s.Class ∧ s.Class ≤ 255) :
    FnV Try.prog 42 [(Value.agg (TrackV.cells (TrackV.mk (Slc.mk tsA ts.length tsC))).toArray), (Value.agg (SledV.cells s).toArray)] [(rd tsA ts.length 9 (ts.map StretchV.cells))] (Value.bool (decide (¬ 20 < (ts.length : Int) ∧ trackOk ts = true ∧ SledOk s))) := by
 refine fnV_of go42 Try.func42 rfl rfl fun w0 Q hQ hN => ?_
 change WJ _ _ _ _ [(0, (Value.agg (TrackV.cells (TrackV.mk (Slc.mk tsA ts.length tsC))).toArray)), (1, (Value.agg (SledV.cells s).toArray))] [(rd tsA ts.length 9 (ts.map StretchV.cells)).ro]
 refine WS fun _ hK1 => ?_
 refine BXA rfl fun b2 => ?_
 refine BXA rfl fun b3 => ?_
 refine rS (AG rfl) ?_
 refine RK hK1 ?_
 refine WS fun _ hK4 => ?_
 refine rS (LW 1 rfl tk24 rfl rfl) ?_
 refine rS (CL (great_c ts tsA tsC) (ha_at 2 rfl rfl <| ha_nil) rfl) ?_
 refine rS (NT rfl) ?_
 refine rS (MV rfl) ?_
 refine r_bool (t := 8) rfl (fun h1 => ?_) (fun h1 => ?_)
 rotate_left 1
 · replace h1 := XF h1
   refine rS (OX rfl) ?_
   refine rS (OX rfl) ?_
   refine rS (PK rfl) ?_
   refine rS (MV rfl) ?_
   refine rS (OX rfl) ?_
   refine rS (OX rfl) ?_
   refine rS (PK rfl) ?_
   refine rS (AG rfl) ?_
   refine RK hK4 ?_
   refine w_ret ?_
   refine Q1 hQ rfl rfl rfl ?_
   first | exact congrArg Value.bool (decide_eq_decide.2 ⟨fun h => ⟨h1, h2, h⟩, fun h => h.2.2⟩) | (rw [decide_eq_false]; intro h; simp [h2] at h) | (rw [decide_eq_false]; intro h; exact h.1 h1)
 replace h1 := XT h1
 refine rS (LW 1 rfl tk24 rfl rfl) ?_
 refine rS (CL (track_c ts tsA tsC (by first | assumption | omega | (simp; done) | (simp; omega))) (ha_at 2 rfl rfl <| ha_nil) rfl) ?_
 refine rS (PK rfl) ?_
 refine rS (MV rfl) ?_
 refine r_bool (t := 12) rfl (fun h2 => ?_) (fun h2 => ?_)
 rotate_left 1
 · refine rS (OX rfl) ?_
   refine rS (OX rfl) ?_
   refine rS (PK rfl) ?_
   refine rS (AG rfl) ?_
   refine RK hK4 ?_
   refine w_ret ?_
   refine Q1 hQ rfl rfl rfl ?_
   first | exact congrArg Value.bool (decide_eq_decide.2 ⟨fun h => ⟨h1, h2, h⟩, fun h => h.2.2⟩) | (rw [decide_eq_false]; intro h; simp [h2] at h) | (rw [decide_eq_false]; intro h; exact h.1 h1)
 refine rS (LW 0 rfl tk28 rfl rfl) ?_
 refine rS (CL (sled_c s hc) (ha_nil) rfl) ?_
 refine rS (PK rfl) ?_
 refine rS (AG rfl) ?_
 refine RK hK4 ?_
 refine w_ret ?_
 refine Q1 hQ rfl rfl rfl ?_
 first | exact congrArg Value.bool (decide_eq_decide.2 ⟨fun h => ⟨h1, h2, h⟩, fun h => h.2.2⟩) | (rw [decide_eq_false]; intro h; simp [h2] at h) | (rw [decide_eq_false]; intro h; exact h.1 h1)

end Go.Proofs.Ytpbgdeojcefnmaa
