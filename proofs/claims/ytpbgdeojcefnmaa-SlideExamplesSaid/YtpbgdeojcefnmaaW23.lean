/-
  Walks: kreisel/kreisellaw03.SlideExamples
-/
import Derived.Test.YtpbgdeojcefnmaaTab
import Derived.Test.YtpbgdeojcefnmaaSort
import Derived.Test.YtpbgdeojcefnmaaThr
import Derived.Test.YtpbgdeojcefnmaaMono
import Derived.Test.YtpbgdeojcefnmaaSafe
import Derived.Test.YtpbgdeojcefnmaaAlive
import Derived.Test.YtpbgdeojcefnmaaW1
import Derived.Test.YtpbgdeojcefnmaaW2
import Derived.Test.YtpbgdeojcefnmaaW3
import Derived.Test.YtpbgdeojcefnmaaW4
import Derived.Test.YtpbgdeojcefnmaaW5
import Derived.Test.YtpbgdeojcefnmaaW6
import Derived.Test.YtpbgdeojcefnmaaW7
import Derived.Test.YtpbgdeojcefnmaaW8
import Derived.Test.YtpbgdeojcefnmaaW9
import Derived.Test.YtpbgdeojcefnmaaW10
import Derived.Test.YtpbgdeojcefnmaaW11
import Derived.Test.YtpbgdeojcefnmaaW12
import Derived.Test.YtpbgdeojcefnmaaW13
import Derived.Test.YtpbgdeojcefnmaaW14
import Derived.Test.YtpbgdeojcefnmaaW15
import Derived.Test.YtpbgdeojcefnmaaW16
import Derived.Test.YtpbgdeojcefnmaaW17
import Derived.Test.YtpbgdeojcefnmaaW18
import Derived.Test.YtpbgdeojcefnmaaW19
import Derived.Test.YtpbgdeojcefnmaaW20
import Derived.Test.YtpbgdeojcefnmaaW21
import Derived.Test.YtpbgdeojcefnmaaW22
namespace Go.Proofs.Ytpbgdeojcefnmaa
open Go.RowKit
set_option linter.unusedVariables false

set_option maxRecDepth 100000 in
set_option maxHeartbeats 400000 in
theorem slideExamples_c  :
    FnV Try.prog 13 [] [] (Value.bool true) := by
  have hl100 := runL_len 100
  have hs100 := runL_side 100
  have hl90 := runL_len 90
  have hs90 := runL_side 90
  have hl10 := runL_len 10
  have hs10 := runL_side 10
  have hl0 := runL_len 0
  have hs0 := runL_side 0
  refine fnV_of go13 Try.func13 rfl rfl fun w0 Q hQ hN => ?_
  change WJ _ _ _ _ [] []
  refine w_seq fun K1 hK1 => ?_
  refine w_region ?_
  refine r_sd (sd_assign rfl rfl) rfl rfl ?_
  refine r_nil ?_
  refine k_then (hK1 _ _ _ ?_)
  refine w_seq fun K2 hK2 => ?_
  refine w_seq fun K3 hK3 => ?_
  refine w_region ?_
  refine r_sd (sd_move rfl rfl) rfl rfl ?_
  refine r_sd (sd_call rfl rfl rfl rfl alive_c (ha_nil)) rfl rfl ?_
  refine r_sd (sd_not rfl rfl) rfl rfl ?_
  refine r_sd (sd_pick_f rfl rfl rfl) rfl rfl ?_
  refine r_sd (sd_move rfl rfl) rfl rfl ?_
  refine r_sd (sd_call rfl rfl rfl rfl (exsafe_c 10 0 (by exact both10) (by exact ex_safe10)) (ha_nil)) rfl rfl ?_
  refine r_sd (sd_not rfl rfl) rfl rfl ?_
  refine r_sd (sd_pick_f rfl rfl rfl) rfl rfl ?_
  refine r_nil ?_
  refine k_then (hK3 _ _ _ ?_)
  refine w_if_false rfl ?_
  refine w_skip ?_
  refine k_then (hK2 _ _ _ ?_)
  refine w_seq fun K4 hK4 => ?_
  refine w_region ?_
  refine r_call rfl rfl rfl rfl (run_c 100) (ha_nil) rfl (fun y5 hy6 => ?_)
  obtain ⟨a7, c8⟩ := y5
  change RJ _ _ _ _ _ ((_, (Value.agg (TrackV.cells (TrackV.mk (Slc.mk a7 ((runL 100).length) c8))).toArray)) :: _) ((own a7 c8 77 9 ((runL 100).map StretchV.cells)) :: _)
  refine r_sd (sd_call rfl rfl rfl rfl bob_c (ha_nil)) rfl rfl ?_
  refine r_call rfl rfl rfl rfl (walls_c (runL 100) a7 c8 bobS (by first | assumption | omega | (simp; done) | (simp; omega)) (by first | assumption | omega | (simp; done) | (simp; omega))) (ha_cons (has_own_n (n := (runL 100).length) 0 rfl (by simp)) <| ha_nil) rfl (fun y9 hy10 => ?_)
  obtain ⟨a11, c12⟩ := y9
  change RJ _ _ _ _ _ ((_, (Value.tuple [(Value.slice a11 ((wallsU bobS (runL 100)).length) c12), (Value.int .i64 (bothE bobS (runL 100)))].toArray)) :: _) ((own a11 c12 3 1 ((wallsU bobS (runL 100)).map iC)) :: _)
  refine r_sd (sd_move rfl rfl) rfl rfl ?_
  refine r_sd (sd_extract rfl rfl rfl) rfl rfl ?_
  refine r_sd (sd_extract rfl rfl rfl) rfl rfl ?_
  refine r_sd (sd_assign rfl rfl) rfl rfl ?_
  refine r_sd (sd_assign rfl rfl) rfl rfl ?_
  refine r_nil ?_
  refine k_then (hK4 _ _ _ ?_)
  refine w_seq fun K13 hK13 => ?_
  refine w_region ?_
  refine r_call rfl rfl rfl rfl (run_c 100) (ha_nil) rfl (fun y14 hy15 => ?_)
  obtain ⟨a16, c17⟩ := y14
  change RJ _ _ _ _ _ ((_, (Value.agg (TrackV.cells (TrackV.mk (Slc.mk a16 ((runL 100).length) c17))).toArray)) :: _) ((own a16 c17 77 9 ((runL 100).map StretchV.cells)) :: _)
  refine r_sd (sd_call rfl rfl rfl rfl bob_c (ha_nil)) rfl rfl ?_
  refine r_sd (sd_call rfl rfl rfl rfl (least_c (runL 100) a16 c17 bobS 0 (by first | assumption | omega | (simp; done) | (simp; omega)) (by first | assumption | omega | (simp; done) | (simp; omega))) (ha_cons (has_own_n (n := (runL 100).length) 0 rfl (by simp)) <| ha_nil)) rfl rfl ?_
  refine r_sd (sd_move rfl rfl) rfl rfl ?_
  refine r_sd (sd_extract rfl rfl rfl) rfl rfl ?_
  refine r_sd (sd_extract rfl rfl rfl) rfl rfl ?_
  refine r_sd (sd_assign rfl rfl) rfl rfl ?_
  refine r_sd (sd_assign rfl rfl) rfl rfl ?_
  refine r_nil ?_
  refine k_then (hK13 _ _ _ ?_)
  refine w_seq fun K18 hK18 => ?_
  refine w_seq fun K19 hK19 => ?_
  refine w_region ?_
  rw [ex_walls]
  rw [both100]
  rw [ex_least.1]
  rw [ex_least.2]
  refine r_sd (sd_move rfl rfl) rfl rfl ?_
  refine r_sd (sd_bin (r := .bool false) rfl rfl rfl b_neq) rfl rfl ?_
  refine r_sd (sd_move rfl rfl) rfl rfl ?_
  refine r_sd (sd_move rfl rfl) rfl rfl ?_
  refine r_bs (xs := [.const (Value.int .i64 0), .const (Value.int .i64 95), .const (Value.int .i64 0)]) (cs := [(Value.int .i64 0), (Value.int .i64 95), (Value.int .i64 0)]) rfl te61 tz3 rfl rfl rfl rfl (by simp [Value.cells]) rfl rfl fun b20 => ?_
  refine r_sd (sd_call rfl rfl rfl rfl (sameints_c ([0, 95, 0]) a11 c12 ([0, 95, 0]) (some ⟨b20, 0, none⟩) 3 (by first | assumption | omega | (simp; done) | (simp; omega)) (by first | assumption | omega | (simp; done) | (simp; omega))) (ha_cons (has_own_n (n := ([0, 95, 0]).length) 2 rfl (by simp)) <| ha_cons (has_rd_blk 0 rfl rfl (by simp [iC_length]) rfl) <| ha_nil)) rfl rfl ?_
  refine r_sd (sd_not rfl rfl) rfl rfl ?_
  refine r_sd (sd_pick_f rfl rfl rfl) rfl rfl ?_
  refine r_sd (sd_move rfl rfl) rfl rfl ?_
  refine r_bool (t := 50) rfl (fun h21 => ?_) (fun h21 => ?_)
  · -- yes
    rw [Bool.not_eq_true'] at h21
    replace h21 := of_decide_eq_false h21
    exact absurd rfl h21
  · -- no
    rw [Bool.not_eq_false'] at h21
    replace h21 := of_decide_eq_true h21
    refine r_sd (sd_move rfl rfl) rfl rfl ?_
    refine r_sd (sd_bin (r := .bool false) rfl rfl rfl b_neq) rfl rfl ?_
    refine r_sd (sd_pick_f rfl rfl rfl) rfl rfl ?_
    refine r_sd (sd_move rfl rfl) rfl rfl ?_
    refine r_sd (sd_move rfl rfl) rfl rfl ?_
    refine r_sd (sd_bin (r := .bool false) rfl rfl rfl b_neq) rfl rfl ?_
    refine r_sd (sd_pick_f rfl rfl rfl) rfl rfl ?_
    refine r_nil ?_
    refine k_then (hK19 _ _ _ ?_)
    refine w_if_false rfl ?_
    refine w_skip ?_
    refine k_then (hK18 _ _ _ ?_)
    refine w_seq fun K22 hK22 => ?_
    refine w_region ?_
    refine r_sd (sd_call rfl rfl rfl rfl bob_c (ha_nil)) rfl rfl ?_
    refine r_alloc rfl tz28 rfl fun b23 => ?_
    refine r_store (vs := (SledV.cells bobS)) (cs' := (SledV.cells bobS)) (C' := [(blk b23 28 (SledV.cells bobS)), _, _, _, _]) 0 rfl rfl rfl ts28 rfl rfl rfl rfl rfl rfl rfl ?_
    refine r_nil ?_
    refine k_then (hK22 _ _ _ ?_)
    refine w_seq fun K24 hK24 => ?_
    refine w_region ?_
    refine r_sd (sd_fa (o' := 0) rfl rfl fo28_0 rfl) rfl rfl ?_
    refine r_store (vs := [(Value.int .u8 4)]) (cs' := (SledV.cells (SledV.mk 4 bobS.Start bobS.Rub bobS.Drag bobS.Weight bobS.Steer))) (C' := [(blk b23 28 (SledV.cells (SledV.mk 4 bobS.Start bobS.Rub bobS.Drag bobS.Weight bobS.Steer))), _, _, _, _]) 0 rfl rfl rfl ts5 rfl rfl rfl rfl rfl rfl rfl ?_
    refine r_nil ?_
    refine k_then (hK24 _ _ _ ?_)
    refine w_seq fun K25 hK25 => ?_
    refine w_region ?_
    refine r_sd (sd_call rfl rfl rfl rfl bob_c (ha_nil)) rfl rfl ?_
    refine r_alloc rfl tz28 rfl fun b26 => ?_
    refine r_store (vs := (SledV.cells bobS)) (cs' := (SledV.cells bobS)) (C' := [(blk b26 28 (SledV.cells bobS)), _, _, _, _, _]) 0 rfl rfl rfl ts28 rfl rfl rfl rfl rfl rfl rfl ?_
    refine r_nil ?_
    refine k_then (hK25 _ _ _ ?_)
    refine w_seq fun K27 hK27 => ?_
    refine w_region ?_
    refine r_sd (sd_call rfl rfl rfl rfl (lspan_c 0 0) (ha_nil)) rfl rfl ?_
    refine r_sd (sd_call rfl rfl rfl rfl (lspan_c 100 100) (ha_nil)) rfl rfl ?_
    refine r_sd (sd_fa (o' := 1) rfl rfl fo28_1 rfl) rfl rfl ?_
    refine r_store (vs := (SpanV.cells (SpanV.mk 0 0))) (cs' := (SledV.cells (SledV.mk bobS.Class (SpanV.mk 0 0) bobS.Rub bobS.Drag bobS.Weight bobS.Steer))) (C' := [(blk b26 28 (SledV.cells (SledV.mk bobS.Class (SpanV.mk 0 0) bobS.Rub bobS.Drag bobS.Weight bobS.Steer))), _, _, _, _, _]) 0 rfl rfl rfl ts26 rfl rfl rfl rfl rfl rfl rfl ?_
    refine r_sd (sd_fa (o' := 3) rfl rfl fo28_2 rfl) rfl rfl ?_
    refine r_store (vs := (SpanV.cells (SpanV.mk 100 100))) (cs' := (SledV.cells (SledV.mk bobS.Class (SpanV.mk 0 0) (SpanV.mk 100 100) bobS.Drag bobS.Weight bobS.Steer))) (C' := [(blk b26 28 (SledV.cells (SledV.mk bobS.Class (SpanV.mk 0 0) (SpanV.mk 100 100) bobS.Drag bobS.Weight bobS.Steer))), _, _, _, _, _]) 0 rfl rfl rfl ts26 rfl rfl rfl rfl rfl rfl rfl ?_
    refine r_nil ?_
    refine k_then (hK27 _ _ _ ?_)
    refine w_join (ι := Unit) (fun z => [(2, (Value.int .i64 (bothE oddS (runL 100)))), (5, (Value.pointer (some ⟨b23, 0, none⟩))), (6, (Value.pointer (some ⟨b26, 0, none⟩)))]) (fun z => [(blk b26 28 (SledV.cells stillS)), (blk b23 28 (SledV.cells oddS)), (blk b20 3 [(Value.int .i64 0), (Value.int .i64 95), (Value.int .i64 0)]), (own a16 c17 77 9 ((runL 100).map StretchV.cells)), (own a11 c12 3 1 ([0, 95, 0].map iC)), (own a7 c8 77 9 ((runL 100).map StretchV.cells))]) ?_ fun K28 hK28 => ?_
    · -- behind the meeting
      intro _
      change WJ _ _ _ _ [(2, (Value.int .i64 (bothE oddS (runL 100)))), (5, (Value.pointer (some ⟨b23, 0, none⟩))), (6, (Value.pointer (some ⟨b26, 0, none⟩)))] [(blk b26 28 (SledV.cells stillS)), (blk b23 28 (SledV.cells oddS)), (blk b20 3 [(Value.int .i64 0), (Value.int .i64 95), (Value.int .i64 0)]), (own a16 c17 77 9 ((runL 100).map StretchV.cells)), (own a11 c12 3 1 ([0, 95, 0].map iC)), (own a7 c8 77 9 ((runL 100).map StretchV.cells))]
      refine w_seq fun K29 hK29 => ?_
      refine w_region ?_
      refine r_call rfl rfl rfl rfl (run_c 100) (ha_nil) rfl (fun y30 hy31 => ?_)
      obtain ⟨a32, c33⟩ := y30
      change RJ _ _ _ _ _ ((_, (Value.agg (TrackV.cells (TrackV.mk (Slc.mk a32 ((runL 100).length) c33))).toArray)) :: _) ((own a32 c33 77 9 ((runL 100).map StretchV.cells)) :: _)
      refine r_sd (sd_call rfl rfl rfl rfl bob_c (ha_nil)) rfl rfl ?_
      refine r_sd (sd_call rfl rfl rfl rfl (speed_c (runL 100) a32 c33 bobS 4 (by first | assumption | omega | (simp; done) | (simp; omega)) (by first | assumption | omega | (simp; done) | (simp; omega))) (ha_cons (has_own_n (n := (runL 100).length) 0 rfl (by simp)) <| ha_nil)) rfl rfl ?_
      refine r_sd (sd_move rfl rfl) rfl rfl ?_
      refine r_sd (sd_extract rfl rfl rfl) rfl rfl ?_
      refine r_sd (sd_extract rfl rfl rfl) rfl rfl ?_
      refine r_sd (sd_assign rfl rfl) rfl rfl ?_
      refine r_nil ?_
      refine k_then (hK29 _ _ _ ?_)
      refine w_seq fun K34 hK34 => ?_
      refine w_region ?_
      refine r_call rfl rfl rfl rfl (run_c 100) (ha_nil) rfl (fun y35 hy36 => ?_)
      obtain ⟨a37, c38⟩ := y35
      change RJ _ _ _ _ _ ((_, (Value.agg (TrackV.cells (TrackV.mk (Slc.mk a37 ((runL 100).length) c38))).toArray)) :: _) ((own a37 c38 77 9 ((runL 100).map StretchV.cells)) :: _)
      refine r_sd (sd_call rfl rfl rfl rfl bob_c (ha_nil)) rfl rfl ?_
      refine r_sd (sd_call rfl rfl rfl rfl (height_c (runL 100) a37 c38 bobS 0 (by first | assumption | omega | (simp; done) | (simp; omega)) (by first | assumption | omega | (simp; done) | (simp; omega))) (ha_cons (has_own_n (n := (runL 100).length) 0 rfl (by simp)) <| ha_nil)) rfl rfl ?_
      refine r_sd (sd_move rfl rfl) rfl rfl ?_
      refine r_sd (sd_extract rfl rfl rfl) rfl rfl ?_
      refine r_sd (sd_extract rfl rfl rfl) rfl rfl ?_
      refine r_alloc rfl tz26 rfl fun b39 => ?_
      refine r_store (vs := (SpanV.cells (heightV bobS (runL 100) 0))) (cs' := (SpanV.cells (heightV bobS (runL 100) 0))) (C' := [(blk b39 26 (SpanV.cells (heightV bobS (runL 100) 0))), _, _, _, _, _, _, _, _]) 0 rfl rfl rfl ts26 rfl rfl rfl rfl rfl rfl rfl ?_
      refine r_sd (sd_assign rfl rfl) rfl rfl ?_
      refine r_nil ?_
      refine k_then (hK34 _ _ _ ?_)
      refine w_seq fun K40 hK40 => ?_
      refine w_region ?_
      refine r_call rfl rfl rfl rfl (run_c 100) (ha_nil) rfl (fun y41 hy42 => ?_)
      obtain ⟨a43, c44⟩ := y41
      change RJ _ _ _ _ _ ((_, (Value.agg (TrackV.cells (TrackV.mk (Slc.mk a43 ((runL 100).length) c44))).toArray)) :: _) ((own a43 c44 77 9 ((runL 100).map StretchV.cells)) :: _)
      refine r_sd (sd_call rfl rfl rfl rfl bob_c (ha_nil)) rfl rfl ?_
      refine r_sd (sd_call rfl rfl rfl rfl (names_c (runL 100) a43 c44 bobS (by first | assumption | omega | (simp; done) | (simp; omega)) (by first | assumption | omega | (simp; done) | (simp; omega))) (ha_cons (has_own_n (n := (runL 100).length) 0 rfl (by simp)) <| ha_nil)) rfl rfl ?_
      refine r_sd (sd_move rfl rfl) rfl rfl ?_
      refine r_sd (sd_extract rfl rfl rfl) rfl rfl ?_
      refine r_sd (sd_extract rfl rfl rfl) rfl rfl ?_
      refine r_sd (sd_extract rfl rfl rfl) rfl rfl ?_
      refine r_sd (sd_assign rfl rfl) rfl rfl ?_
      refine r_sd (sd_assign rfl rfl) rfl rfl ?_
      refine r_sd (sd_assign rfl rfl) rfl rfl ?_
      refine r_nil ?_
      refine k_then (hK40 _ _ _ ?_)
      refine w_join (ι := Unit) (fun z => [(2, (Value.int .i64 (bothE oddS (runL 100)))), (4, (Value.int .i64 (speedE bobS (runL 100) 4))), (5, (Value.pointer (some ⟨b23, 0, none⟩))), (6, (Value.pointer (some ⟨b26, 0, none⟩))), (8, (Value.int .i64 (heightE bobS (runL 100) 0))), (11, (Value.int .i64 (namesE bobS (runL 100)))), (13, (Value.int .i64 (leastE stillS (runL 100) 1)))]) (fun z => [(own a43 c44 77 9 ((runL 100).map StretchV.cells)), (blk b39 26 (SpanV.cells (heightV bobS (runL 100) 0))), (own a37 c38 77 9 ((runL 100).map StretchV.cells)), (own a32 c33 77 9 ((runL 100).map StretchV.cells)), (blk b26 28 (SledV.cells stillS)), (blk b23 28 (SledV.cells oddS)), (blk b20 3 [(Value.int .i64 0), (Value.int .i64 95), (Value.int .i64 0)]), (own a16 c17 77 9 ((runL 100).map StretchV.cells)), (own a11 c12 3 1 ([0, 95, 0].map iC)), (own a7 c8 77 9 ((runL 100).map StretchV.cells))]) ?_ fun K45 hK45 => ?_
      · -- behind the meeting
        intro _
        change WJ _ _ _ _ [(2, (Value.int .i64 (bothE oddS (runL 100)))), (4, (Value.int .i64 (speedE bobS (runL 100) 4))), (5, (Value.pointer (some ⟨b23, 0, none⟩))), (6, (Value.pointer (some ⟨b26, 0, none⟩))), (8, (Value.int .i64 (heightE bobS (runL 100) 0))), (11, (Value.int .i64 (namesE bobS (runL 100)))), (13, (Value.int .i64 (leastE stillS (runL 100) 1)))] [(own a43 c44 77 9 ((runL 100).map StretchV.cells)), (blk b39 26 (SpanV.cells (heightV bobS (runL 100) 0))), (own a37 c38 77 9 ((runL 100).map StretchV.cells)), (own a32 c33 77 9 ((runL 100).map StretchV.cells)), (blk b26 28 (SledV.cells stillS)), (blk b23 28 (SledV.cells oddS)), (blk b20 3 [(Value.int .i64 0), (Value.int .i64 95), (Value.int .i64 0)]), (own a16 c17 77 9 ((runL 100).map StretchV.cells)), (own a11 c12 3 1 ([0, 95, 0].map iC)), (own a7 c8 77 9 ((runL 100).map StretchV.cells))]
        refine w_seq fun K46 hK46 => ?_
        refine w_region ?_
        refine r_sd (sd_build (xs := []) (cs := (TrackV.cells (TrackV.mk (Slc.mk none 0 0)))) rfl rfl (built_of tb24 rfl)) rfl rfl ?_
        refine r_sd (sd_ldn rfl rfl tk28 (at_blk (vs := (SledV.cells oddS)) 5 rfl rfl) rfl) rfl rfl ?_
        refine r_sd (sd_call rfl rfl rfl rfl (safe_c ([]) none 0 oddS (by first | assumption | omega | (simp; done) | (simp; omega)) (by first | assumption | omega | (simp; done) | (simp; omega))) (ha_cons (rd_nil _ _) <| ha_nil)) rfl rfl ?_
        refine r_sd (sd_move rfl rfl) rfl rfl ?_
        refine r_sd (sd_extract rfl rfl rfl) rfl rfl ?_
        refine r_sd (sd_extract rfl rfl rfl) rfl rfl ?_
        refine r_sd (sd_assign rfl rfl) rfl rfl ?_
        refine r_sd (sd_assign rfl rfl) rfl rfl ?_
        refine r_nil ?_
        refine k_then (hK46 _ _ _ ?_)
        refine w_join (ι := { z : (Option Addr) × Nat // True }) (fun z => [(2, (Value.int .i64 (bothE oddS (runL 100)))), (4, (Value.int .i64 (speedE bobS (runL 100) 4))), (5, (Value.pointer (some ⟨b23, 0, none⟩))), (6, (Value.pointer (some ⟨b26, 0, none⟩))), (8, (Value.int .i64 (heightE bobS (runL 100) 0))), (11, (Value.int .i64 (namesE bobS (runL 100)))), (13, (Value.int .i64 (leastE stillS (runL 100) 1))), (15, (Value.int .i64 (bothE oddS ([])))), (16, (Value.slice z.1.1 ((shutU (runL 90) ([bobS, stillS])).length) z.1.2)), (17, (Value.int .i64 (shutE (runL 90) ([bobS, stillS]))))]) (fun z => [(own z.1.1 z.1.2 3 1 ((shutU (runL 90) ([bobS, stillS])).map iC)), (own a43 c44 77 9 ((runL 100).map StretchV.cells)), (blk b39 26 (SpanV.cells (heightV bobS (runL 100) 0))), (own a37 c38 77 9 ((runL 100).map StretchV.cells)), (own a32 c33 77 9 ((runL 100).map StretchV.cells)), (blk b26 28 (SledV.cells stillS)), (blk b23 28 (SledV.cells oddS)), (blk b20 3 [(Value.int .i64 0), (Value.int .i64 95), (Value.int .i64 0)]), (own a16 c17 77 9 ((runL 100).map StretchV.cells)), (own a11 c12 3 1 ([0, 95, 0].map iC)), (own a7 c8 77 9 ((runL 100).map StretchV.cells))]) ?_ fun K47 hK47 => ?_
        · -- behind the meeting
          rintro ⟨⟨a, c⟩, _⟩
          change WJ _ _ _ _ [(2, (Value.int .i64 (bothE oddS (runL 100)))), (4, (Value.int .i64 (speedE bobS (runL 100) 4))), (5, (Value.pointer (some ⟨b23, 0, none⟩))), (6, (Value.pointer (some ⟨b26, 0, none⟩))), (8, (Value.int .i64 (heightE bobS (runL 100) 0))), (11, (Value.int .i64 (namesE bobS (runL 100)))), (13, (Value.int .i64 (leastE stillS (runL 100) 1))), (15, (Value.int .i64 (bothE oddS ([])))), (16, (Value.slice a ((shutU (runL 90) ([bobS, stillS])).length) c)), (17, (Value.int .i64 (shutE (runL 90) ([bobS, stillS]))))] [(own a c 3 1 ((shutU (runL 90) ([bobS, stillS])).map iC)), (own a43 c44 77 9 ((runL 100).map StretchV.cells)), (blk b39 26 (SpanV.cells (heightV bobS (runL 100) 0))), (own a37 c38 77 9 ((runL 100).map StretchV.cells)), (own a32 c33 77 9 ((runL 100).map StretchV.cells)), (blk b26 28 (SledV.cells stillS)), (blk b23 28 (SledV.cells oddS)), (blk b20 3 [(Value.int .i64 0), (Value.int .i64 95), (Value.int .i64 0)]), (own a16 c17 77 9 ((runL 100).map StretchV.cells)), (own a11 c12 3 1 ([0, 95, 0].map iC)), (own a7 c8 77 9 ((runL 100).map StretchV.cells))]
          refine w_join (ι := Unit) (fun z => [(2, (Value.int .i64 (bothE oddS (runL 100)))), (4, (Value.int .i64 (speedE bobS (runL 100) 4))), (5, (Value.pointer (some ⟨b23, 0, none⟩))), (6, (Value.pointer (some ⟨b26, 0, none⟩))), (8, (Value.int .i64 (heightE bobS (runL 100) 0))), (11, (Value.int .i64 (namesE bobS (runL 100)))), (13, (Value.int .i64 (leastE stillS (runL 100) 1))), (15, (Value.int .i64 (bothE oddS ([])))), (16, (Value.slice a ((shutU (runL 90) ([bobS, stillS])).length) c)), (17, (Value.int .i64 (shutE (runL 90) ([bobS, stillS])))), (19, (Value.int .i64 (shutE (runL 90) (List.replicate 7 (SledV.mk 0 (SpanV.mk 0 0) (SpanV.mk 0 0) (SpanV.mk 0 0) (SpanV.mk 0 0) (SpanV.mk 0 0))))))]) (fun z => [(own a c 3 1 ((shutU (runL 90) ([bobS, stillS])).map iC)), (own a43 c44 77 9 ((runL 100).map StretchV.cells)), (blk b39 26 (SpanV.cells (heightV bobS (runL 100) 0))), (own a37 c38 77 9 ((runL 100).map StretchV.cells)), (own a32 c33 77 9 ((runL 100).map StretchV.cells)), (blk b26 28 (SledV.cells stillS)), (blk b23 28 (SledV.cells oddS)), (blk b20 3 [(Value.int .i64 0), (Value.int .i64 95), (Value.int .i64 0)]), (own a16 c17 77 9 ((runL 100).map StretchV.cells)), (own a11 c12 3 1 ([0, 95, 0].map iC)), (own a7 c8 77 9 ((runL 100).map StretchV.cells))]) ?_ fun K48 hK48 => ?_
          · -- behind the meeting
            intro _
            change WJ _ _ _ _ [(2, (Value.int .i64 (bothE oddS (runL 100)))), (4, (Value.int .i64 (speedE bobS (runL 100) 4))), (5, (Value.pointer (some ⟨b23, 0, none⟩))), (6, (Value.pointer (some ⟨b26, 0, none⟩))), (8, (Value.int .i64 (heightE bobS (runL 100) 0))), (11, (Value.int .i64 (namesE bobS (runL 100)))), (13, (Value.int .i64 (leastE stillS (runL 100) 1))), (15, (Value.int .i64 (bothE oddS ([])))), (16, (Value.slice a ((shutU (runL 90) ([bobS, stillS])).length) c)), (17, (Value.int .i64 (shutE (runL 90) ([bobS, stillS])))), (19, (Value.int .i64 (shutE (runL 90) (List.replicate 7 (SledV.mk 0 (SpanV.mk 0 0) (SpanV.mk 0 0) (SpanV.mk 0 0) (SpanV.mk 0 0) (SpanV.mk 0 0))))))] [(own a c 3 1 ((shutU (runL 90) ([bobS, stillS])).map iC)), (own a43 c44 77 9 ((runL 100).map StretchV.cells)), (blk b39 26 (SpanV.cells (heightV bobS (runL 100) 0))), (own a37 c38 77 9 ((runL 100).map StretchV.cells)), (own a32 c33 77 9 ((runL 100).map StretchV.cells)), (blk b26 28 (SledV.cells stillS)), (blk b23 28 (SledV.cells oddS)), (blk b20 3 [(Value.int .i64 0), (Value.int .i64 95), (Value.int .i64 0)]), (own a16 c17 77 9 ((runL 100).map StretchV.cells)), (own a11 c12 3 1 ([0, 95, 0].map iC)), (own a7 c8 77 9 ((runL 100).map StretchV.cells))]
            refine w_seq fun K49 hK49 => ?_
            refine w_region ?_
            refine r_call rfl rfl rfl rfl (run_c 0) (ha_nil) rfl (fun y50 hy51 => ?_)
            obtain ⟨a52, c53⟩ := y50
            change RJ _ _ _ _ _ ((_, (Value.agg (TrackV.cells (TrackV.mk (Slc.mk a52 ((runL 0).length) c53))).toArray)) :: _) ((own a52 c53 77 9 ((runL 0).map StretchV.cells)) :: _)
            refine r_sd (sd_call rfl rfl rfl rfl bob_c (ha_nil)) rfl rfl ?_
            refine r_sd (sd_call rfl rfl rfl rfl (start_c (runL 0) a52 c53 bobS (by first | assumption | omega | (simp; done) | (simp; omega)) (by first | assumption | omega | (simp; done) | (simp; omega))) (ha_cons (has_own_n (n := (runL 0).length) 0 rfl (by simp)) <| ha_nil)) rfl rfl ?_
            refine r_sd (sd_move rfl rfl) rfl rfl ?_
            refine r_sd (sd_extract rfl rfl rfl) rfl rfl ?_
            refine r_sd (sd_extract rfl rfl rfl) rfl rfl ?_
            refine r_sd (sd_assign rfl rfl) rfl rfl ?_
            refine r_sd (sd_assign rfl rfl) rfl rfl ?_
            refine r_nil ?_
            refine k_then (hK49 _ _ _ ?_)
            refine w_seq fun K54 hK54 => ?_
            refine w_region ?_
            rw [ex_odd]
            rw [ex_speed4]
            rw [ex_height0]
            rw [ex_names6]
            rw [ex_least6]
            rw [ex_empty]
            rw [ex_shut.1]
            rw [ex_shut.2]
            rw [ex_many]
            rw [ex_start6]
            skip
            refine r_sd (sd_move rfl rfl) rfl rfl ?_
            refine r_sd (sd_bin (r := .bool true) rfl rfl rfl b_eql) rfl rfl ?_
            refine r_sd (sd_move rfl rfl) rfl rfl ?_
            refine r_sd (sd_move rfl rfl) rfl rfl ?_
            refine r_sd (sd_bin (r := .bool true) rfl rfl rfl b_eql) rfl rfl ?_
            refine r_sd (sd_pick_t rfl rfl rfl) rfl rfl ?_
            refine r_sd (sd_move rfl rfl) rfl rfl ?_
            refine r_sd (sd_move rfl rfl) rfl rfl ?_
            refine r_sd (sd_bin (r := .bool true) rfl rfl rfl b_eql) rfl rfl ?_
            refine r_sd (sd_pick_t rfl rfl rfl) rfl rfl ?_
            refine r_sd (sd_move rfl rfl) rfl rfl ?_
            refine r_sd (sd_move rfl rfl) rfl rfl ?_
            refine r_sd (sd_bin (r := .bool true) rfl rfl rfl b_eql) rfl rfl ?_
            refine r_sd (sd_pick_t rfl rfl rfl) rfl rfl ?_
            refine r_sd (sd_move rfl rfl) rfl rfl ?_
            refine r_sd (sd_move rfl rfl) rfl rfl ?_
            refine r_sd (sd_bin (r := .bool true) rfl rfl rfl b_eql) rfl rfl ?_
            refine r_sd (sd_pick_t rfl rfl rfl) rfl rfl ?_
            refine r_sd (sd_move rfl rfl) rfl rfl ?_
            refine r_sd (sd_move rfl rfl) rfl rfl ?_
            refine r_sd (sd_bin (r := .bool true) rfl rfl rfl b_eql) rfl rfl ?_
            refine r_sd (sd_pick_t rfl rfl rfl) rfl rfl ?_
            refine r_sd (sd_move rfl rfl) rfl rfl ?_
            refine r_sd (sd_move rfl rfl) rfl rfl ?_
            refine r_sd (sd_bin (r := .bool true) rfl rfl rfl b_eql) rfl rfl ?_
            refine r_sd (sd_pick_t rfl rfl rfl) rfl rfl ?_
            refine r_sd (sd_move rfl rfl) rfl rfl ?_
            refine r_sd (sd_move rfl rfl) rfl rfl ?_
            refine r_bs (xs := [.const (Value.int .i64 0)]) (cs := [(Value.int .i64 0)]) rfl te61 tz3 rfl rfl rfl rfl (by simp [Value.cells]) rfl rfl fun b55 => ?_
            refine r_sd (sd_call rfl rfl rfl rfl (sameints_c ([0]) a c ([0]) (some ⟨b55, 0, none⟩) 1 (by first | assumption | omega | (simp; done) | (simp; omega)) (by first | assumption | omega | (simp; done) | (simp; omega))) (ha_cons (has_own_n (n := ([0]).length) 2 rfl (by simp)) <| ha_cons (has_rd_blk 0 rfl rfl (by simp [iC_length]) rfl) <| ha_nil)) rfl rfl ?_
            refine r_sd (sd_pick_t rfl rfl rfl) rfl rfl ?_
            refine r_sd (sd_move rfl rfl) rfl rfl ?_
            refine r_bool (t := 153) rfl (fun h56 => ?_) (fun h56 => ?_)
            · -- yes
              replace h56 := of_decide_eq_true h56
              refine r_sd (sd_move rfl rfl) rfl rfl ?_
              refine r_sd (sd_bin (r := .bool true) rfl rfl rfl b_eql) rfl rfl ?_
              refine r_sd (sd_pick_t rfl rfl rfl) rfl rfl ?_
              refine r_sd (sd_move rfl rfl) rfl rfl ?_
              refine r_sd (sd_move rfl rfl) rfl rfl ?_
              refine r_sd (sd_bin (r := .bool true) rfl rfl rfl b_eql) rfl rfl ?_
              refine r_sd (sd_pick_t rfl rfl rfl) rfl rfl ?_
              refine r_sd (sd_move rfl rfl) rfl rfl ?_
              refine r_sd (sd_ldn rfl rfl tk28 (at_blk (vs := (SledV.cells oddS)) 8 rfl rfl) rfl) rfl rfl ?_
              refine r_sd (sd_call rfl rfl rfl rfl (scheck_c oddS) (ha_nil)) rfl rfl ?_
              rw [(if_neg odd_no : (if SledOk oddS then (0 : Int) else 30) = 30)]
              refine r_sd (sd_bin (r := .bool true) rfl rfl rfl b_eql) rfl rfl ?_
              refine r_sd (sd_pick_t rfl rfl rfl) rfl rfl ?_
              refine r_sd (sd_move rfl rfl) rfl rfl ?_
              refine r_sd (sd_call rfl rfl rfl rfl bob_c (ha_nil)) rfl rfl ?_
              refine r_sd (sd_call rfl rfl rfl rfl (scheck_c bobS) (ha_nil)) rfl rfl ?_
              rw [(if_pos bob_ok : (if SledOk bobS then (0 : Int) else 30) = 0)]
              refine r_sd (sd_bin (r := .bool true) rfl rfl rfl b_eql) rfl rfl ?_
              refine r_sd (sd_pick_t rfl rfl rfl) rfl rfl ?_
              refine r_sd (sd_assign rfl rfl) rfl rfl ?_
              refine r_nil ?_
              refine k_then (hK54 _ _ _ ?_)
              refine w_ret ?_
              refine hQ _ _ _ (l_nil (vs := [(Value.bool true)]) ⟨rfl, trivial⟩ fun w hs => endV ?_ hs)
              show (Value.bool true) = (Value.bool true)
              clear hs w hQ hN hK54 K54 hK49 K49 hK46 K46 hK40 K40 hK34 K34 hK29 K29 hK27 K27 hK25 K25 hK24 K24 hK22 K22 hK19 K19 hK18 K18 hK13 K13 hK4 K4 hK3 K3 hK2 K2 hK1 K1
              first | rfl | simp
            · -- no
              replace h56 := of_decide_eq_false h56
              exact absurd rfl h56
          refine w_drawN mixed [] [0, 1, 2, 3, 4, 5, 6, 7] [] [] [(own a c 3 1 ((shutU (runL 90) ([bobS, stillS])).map iC)), (own a43 c44 77 9 ((runL 100).map StretchV.cells)), (blk b39 26 (SpanV.cells (heightV bobS (runL 100) 0))), (own a37 c38 77 9 ((runL 100).map StretchV.cells)), (own a32 c33 77 9 ((runL 100).map StretchV.cells)), (blk b26 28 (SledV.cells stillS)), (blk b23 28 (SledV.cells oddS)), (blk b20 3 [(Value.int .i64 0), (Value.int .i64 95), (Value.int .i64 0)]), (own a16 c17 77 9 ((runL 100).map StretchV.cells)), (own a11 c12 3 1 ([0, 95, 0].map iC)), (own a7 c8 77 9 ((runL 100).map StretchV.cells))] [] (by kernel_rfl) (fun w hs => St.sel [0, 1, 2, 3, 4, 5, 6, 7, 8, 9, 10] rfl rfl hs) (fun w hs => St.sel [] rfl rfl hs) ?_
          refine d_fin rfl ?_
          refine n_step [0, 1] (by kernel_rfl) (n_cons ?_ <| n_cons ?_ <| n_nil)
          · -- operation 0 first
            refine n_op (rem' := [1, 2, 3, 4, 5, 6, 7]) rfl (by kernel_rfl) rfl fun T57 hT57 => ?_
            refine r_call rfl rfl rfl rfl (run_c 90) (ha_nil) rfl (fun y58 hy59 => ?_)
            obtain ⟨a60, c61⟩ := y58
            change RJ _ _ _ _ _ ((_, (Value.agg (TrackV.cells (TrackV.mk (Slc.mk a60 ((runL 90).length) c61))).toArray)) :: _) ((own a60 c61 77 9 ((runL 90).map StretchV.cells)) :: _)
            refine r_nil (hT57 _ _ (fun w hs => St.sel [1, 2, 3, 4, 5, 6, 7, 8, 9, 10, 11] rfl rfl hs) ?_)
            refine n_step [1] (by kernel_rfl) (n_cons ?_ <| n_nil)
            refine n_op (rem' := [2, 3, 4, 5, 6, 7]) rfl (by kernel_rfl) rfl fun T62 hT62 => ?_
            refine r_mks (n := 7) (es := (List.map SledV.cells (List.replicate 7 (SledV.mk 0 (SpanV.mk 0 0) (SpanV.mk 0 0) (SpanV.mk 0 0) (SpanV.mk 0 0) (SpanV.mk 0 0))))) rfl rfl rfl ta50 rfl (by omega) (by simp only [maxLen]; omega) (by rw [List.map_replicate]; rfl) rfl fun b63 => ?_
            change RJ _ _ _ _ _ _ ((own (some ⟨b63, 0, none⟩) 7 28 11 (List.map SledV.cells (List.replicate 7 (SledV.mk 0 (SpanV.mk 0 0) (SpanV.mk 0 0) (SpanV.mk 0 0) (SpanV.mk 0 0) (SpanV.mk 0 0))))) :: _)
            refine r_nil (hT62 _ _ (fun w hs => St.sel [2, 3, 4, 5, 6, 7, 8, 9, 10, 11, 12] rfl rfl hs) ?_)
            refine n_step [2] (by kernel_rfl) (n_cons ?_ <| n_nil)
            refine n_op (rem' := [3, 4, 5, 6, 7]) rfl (by kernel_rfl) rfl fun T64 hT64 => ?_
            refine r_call rfl rfl rfl rfl (shut_c (runL 90) a60 c61 (List.replicate 7 (SledV.mk 0 (SpanV.mk 0 0) (SpanV.mk 0 0) (SpanV.mk 0 0) (SpanV.mk 0 0) (SpanV.mk 0 0))) (some ⟨b63, 0, none⟩) 7 (by first | assumption | omega | (simp; done) | (simp; omega)) (by first | assumption | omega | (simp; done) | (simp; omega))) (ha_cons (has_own_n (n := (runL 90).length) 1 rfl (by simp)) <| ha_cons (has_own_n (n := (List.replicate 7 (SledV.mk 0 (SpanV.mk 0 0) (SpanV.mk 0 0) (SpanV.mk 0 0) (SpanV.mk 0 0) (SpanV.mk 0 0))).length) 0 rfl (by simp)) <| ha_nil) rfl (fun y65 hy66 => ?_)
            obtain ⟨a67, c68⟩ := y65
            change RJ _ _ _ _ _ ((_, (Value.tuple [(Value.slice a67 ((shutU (runL 90) (List.replicate 7 (SledV.mk 0 (SpanV.mk 0 0) (SpanV.mk 0 0) (SpanV.mk 0 0) (SpanV.mk 0 0) (SpanV.mk 0 0)))).length) c68), (Value.int .i64 (shutE (runL 90) (List.replicate 7 (SledV.mk 0 (SpanV.mk 0 0) (SpanV.mk 0 0) (SpanV.mk 0 0) (SpanV.mk 0 0) (SpanV.mk 0 0)))))].toArray)) :: _) ((own a67 c68 3 1 ((shutU (runL 90) (List.replicate 7 (SledV.mk 0 (SpanV.mk 0 0) (SpanV.mk 0 0) (SpanV.mk 0 0) (SpanV.mk 0 0) (SpanV.mk 0 0)))).map iC)) :: _)
            refine r_nil (hT64 _ _ (fun w hs => St.sel [3, 4, 5, 6, 7, 8, 9, 10, 11, 12, 13] rfl rfl hs) ?_)
            refine n_step [3] (by kernel_rfl) (n_cons ?_ <| n_nil)
            refine n_op (rem' := [4, 5, 6, 7]) rfl (by kernel_rfl) rfl fun T69 hT69 => ?_
            refine r_sd (sd_move rfl rfl) rfl rfl ?_
            refine r_nil (hT69 _ _ (fun w hs => St.sel [3, 4, 5, 6, 7, 8, 9, 10, 11, 12, 13] rfl rfl hs) ?_)
            refine n_step [4, 5] (by kernel_rfl) (n_cons ?_ <| n_cons ?_ <| n_nil)
            · -- operation 4 first
              refine n_op (rem' := [5, 6, 7]) rfl (by kernel_rfl) rfl fun T70 hT70 => ?_
              refine r_sd (sd_extract rfl rfl rfl) rfl rfl ?_
              refine r_nil (hT70 _ _ (fun w hs => St.sel [3, 4, 5, 6, 7, 8, 9, 10, 11, 12, 13] rfl rfl hs) ?_)
              refine n_step [5, 6] (by kernel_rfl) (n_cons ?_ <| n_cons ?_ <| n_nil)
              · -- operation 5 first
                refine n_op (rem' := [6, 7]) rfl (by kernel_rfl) rfl fun T71 hT71 => ?_
                refine r_sd (sd_extract rfl rfl rfl) rfl rfl ?_
                refine r_nil (hT71 _ _ (fun w hs => St.sel [3, 4, 5, 6, 7, 8, 9, 10, 11, 12, 13] rfl rfl hs) ?_)
                refine n_step [6] (by kernel_rfl) (n_cons ?_ <| n_nil)
                refine n_op (rem' := [7]) rfl (by kernel_rfl) rfl fun T72 hT72 => ?_
                refine r_sd (sd_assign rfl rfl) rfl rfl ?_
                refine r_nil (hT72 _ _ (fun w hs => St.sel [3, 4, 5, 6, 7, 8, 9, 10, 11, 12, 13] rfl rfl hs) ?_)
                refine n_step [7] (by kernel_rfl) (n_cons ?_ <| n_nil)
                refine n_op (rem' := []) rfl (by kernel_rfl) rfl fun T73 hT73 => ?_
                refine r_sd (sd_assign rfl rfl) rfl rfl ?_
                refine r_nil (hT73 _ _ (fun w hs => St.sel [3, 4, 5, 6, 7, 8, 9, 10, 11, 12, 13] rfl rfl hs) ?_)
                refine n_fin ?_
                refine k_then (k_sub (Sub.cons rfl <| Sub.cons rfl <| Sub.cons rfl <| Sub.cons rfl <| Sub.cons rfl <| Sub.cons rfl <| Sub.cons rfl <| Sub.cons rfl <| Sub.cons rfl <| Sub.cons rfl <| Sub.cons rfl <| Sub.nil _) (fun w hs => St.sel [3, 4, 5, 6, 7, 8, 9, 10, 11, 12, 13] rfl rfl hs) (hK48 ()))
              · -- operation 6 first
                refine n_op (rem' := [5, 7]) rfl (by kernel_rfl) rfl fun T74 hT74 => ?_
                refine r_sd (sd_assign rfl rfl) rfl rfl ?_
                refine r_nil (hT74 _ _ (fun w hs => St.sel [3, 4, 5, 6, 7, 8, 9, 10, 11, 12, 13] rfl rfl hs) ?_)
                refine n_step [5] (by kernel_rfl) (n_cons ?_ <| n_nil)
                refine n_op (rem' := [7]) rfl (by kernel_rfl) rfl fun T75 hT75 => ?_
                refine r_sd (sd_extract rfl rfl rfl) rfl rfl ?_
                refine r_nil (hT75 _ _ (fun w hs => St.sel [3, 4, 5, 6, 7, 8, 9, 10, 11, 12, 13] rfl rfl hs) ?_)
                refine n_step [7] (by kernel_rfl) (n_cons ?_ <| n_nil)
                refine n_op (rem' := []) rfl (by kernel_rfl) rfl fun T76 hT76 => ?_
                refine r_sd (sd_assign rfl rfl) rfl rfl ?_
                refine r_nil (hT76 _ _ (fun w hs => St.sel [3, 4, 5, 6, 7, 8, 9, 10, 11, 12, 13] rfl rfl hs) ?_)
                refine n_fin ?_
                refine k_then (k_sub (Sub.cons rfl <| Sub.cons rfl <| Sub.cons rfl <| Sub.cons rfl <| Sub.cons rfl <| Sub.cons rfl <| Sub.cons rfl <| Sub.cons rfl <| Sub.cons rfl <| Sub.cons rfl <| Sub.cons rfl <| Sub.nil _) (fun w hs => St.sel [3, 4, 5, 6, 7, 8, 9, 10, 11, 12, 13] rfl rfl hs) (hK48 ()))
            · -- operation 5 first
              refine n_op (rem' := [4, 6, 7]) rfl (by kernel_rfl) rfl fun T77 hT77 => ?_
              refine r_sd (sd_extract rfl rfl rfl) rfl rfl ?_
              refine r_nil (hT77 _ _ (fun w hs => St.sel [3, 4, 5, 6, 7, 8, 9, 10, 11, 12, 13] rfl rfl hs) ?_)
              refine n_step [4] (by kernel_rfl) (n_cons ?_ <| n_nil)
              refine n_op (rem' := [6, 7]) rfl (by kernel_rfl) rfl fun T78 hT78 => ?_
              refine r_sd (sd_extract rfl rfl rfl) rfl rfl ?_
              refine r_nil (hT78 _ _ (fun w hs => St.sel [3, 4, 5, 6, 7, 8, 9, 10, 11, 12, 13] rfl rfl hs) ?_)
              refine n_step [6] (by kernel_rfl) (n_cons ?_ <| n_nil)
              refine n_op (rem' := [7]) rfl (by kernel_rfl) rfl fun T79 hT79 => ?_
              refine r_sd (sd_assign rfl rfl) rfl rfl ?_
              refine r_nil (hT79 _ _ (fun w hs => St.sel [3, 4, 5, 6, 7, 8, 9, 10, 11, 12, 13] rfl rfl hs) ?_)
              refine n_step [7] (by kernel_rfl) (n_cons ?_ <| n_nil)
              refine n_op (rem' := []) rfl (by kernel_rfl) rfl fun T80 hT80 => ?_
              refine r_sd (sd_assign rfl rfl) rfl rfl ?_
              refine r_nil (hT80 _ _ (fun w hs => St.sel [3, 4, 5, 6, 7, 8, 9, 10, 11, 12, 13] rfl rfl hs) ?_)
              refine n_fin ?_
              refine k_then (k_sub (Sub.cons rfl <| Sub.cons rfl <| Sub.cons rfl <| Sub.cons rfl <| Sub.cons rfl <| Sub.cons rfl <| Sub.cons rfl <| Sub.cons rfl <| Sub.cons rfl <| Sub.cons rfl <| Sub.cons rfl <| Sub.nil _) (fun w hs => St.sel [3, 4, 5, 6, 7, 8, 9, 10, 11, 12, 13] rfl rfl hs) (hK48 ()))
          · -- operation 1 first
            refine n_op (rem' := [0, 2, 3, 4, 5, 6, 7]) rfl (by kernel_rfl) rfl fun T81 hT81 => ?_
            refine r_mks (n := 7) (es := (List.map SledV.cells (List.replicate 7 (SledV.mk 0 (SpanV.mk 0 0) (SpanV.mk 0 0) (SpanV.mk 0 0) (SpanV.mk 0 0) (SpanV.mk 0 0))))) rfl rfl rfl ta50 rfl (by omega) (by simp only [maxLen]; omega) (by rw [List.map_replicate]; rfl) rfl fun b82 => ?_
            change RJ _ _ _ _ _ _ ((own (some ⟨b82, 0, none⟩) 7 28 11 (List.map SledV.cells (List.replicate 7 (SledV.mk 0 (SpanV.mk 0 0) (SpanV.mk 0 0) (SpanV.mk 0 0) (SpanV.mk 0 0) (SpanV.mk 0 0))))) :: _)
            refine r_nil (hT81 _ _ (fun w hs => St.sel [1, 2, 3, 4, 5, 6, 7, 8, 9, 10, 11] rfl rfl hs) ?_)
            refine n_step [0] (by kernel_rfl) (n_cons ?_ <| n_nil)
            refine n_op (rem' := [2, 3, 4, 5, 6, 7]) rfl (by kernel_rfl) rfl fun T83 hT83 => ?_
            refine r_call rfl rfl rfl rfl (run_c 90) (ha_nil) rfl (fun y84 hy85 => ?_)
            obtain ⟨a86, c87⟩ := y84
            change RJ _ _ _ _ _ ((_, (Value.agg (TrackV.cells (TrackV.mk (Slc.mk a86 ((runL 90).length) c87))).toArray)) :: _) ((own a86 c87 77 9 ((runL 90).map StretchV.cells)) :: _)
            refine r_nil (hT83 _ _ (fun w hs => St.sel [2, 3, 4, 5, 6, 7, 8, 9, 10, 11, 12] rfl rfl hs) ?_)
            refine n_step [2] (by kernel_rfl) (n_cons ?_ <| n_nil)
            refine n_op (rem' := [3, 4, 5, 6, 7]) rfl (by kernel_rfl) rfl fun T88 hT88 => ?_
            refine r_call rfl rfl rfl rfl (shut_c (runL 90) a86 c87 (List.replicate 7 (SledV.mk 0 (SpanV.mk 0 0) (SpanV.mk 0 0) (SpanV.mk 0 0) (SpanV.mk 0 0) (SpanV.mk 0 0))) (some ⟨b82, 0, none⟩) 7 (by first | assumption | omega | (simp; done) | (simp; omega)) (by first | assumption | omega | (simp; done) | (simp; omega))) (ha_cons (has_own_n (n := (runL 90).length) 0 rfl (by simp)) <| ha_cons (has_own_n (n := (List.replicate 7 (SledV.mk 0 (SpanV.mk 0 0) (SpanV.mk 0 0) (SpanV.mk 0 0) (SpanV.mk 0 0) (SpanV.mk 0 0))).length) 1 rfl (by simp)) <| ha_nil) rfl (fun y89 hy90 => ?_)
            obtain ⟨a91, c92⟩ := y89
            change RJ _ _ _ _ _ ((_, (Value.tuple [(Value.slice a91 ((shutU (runL 90) (List.replicate 7 (SledV.mk 0 (SpanV.mk 0 0) (SpanV.mk 0 0) (SpanV.mk 0 0) (SpanV.mk 0 0) (SpanV.mk 0 0)))).length) c92), (Value.int .i64 (shutE (runL 90) (List.replicate 7 (SledV.mk 0 (SpanV.mk 0 0) (SpanV.mk 0 0) (SpanV.mk 0 0) (SpanV.mk 0 0) (SpanV.mk 0 0)))))].toArray)) :: _) ((own a91 c92 3 1 ((shutU (runL 90) (List.replicate 7 (SledV.mk 0 (SpanV.mk 0 0) (SpanV.mk 0 0) (SpanV.mk 0 0) (SpanV.mk 0 0) (SpanV.mk 0 0)))).map iC)) :: _)
            refine r_nil (hT88 _ _ (fun w hs => St.sel [3, 4, 5, 6, 7, 8, 9, 10, 11, 12, 13] rfl rfl hs) ?_)
            refine n_step [3] (by kernel_rfl) (n_cons ?_ <| n_nil)
            refine n_op (rem' := [4, 5, 6, 7]) rfl (by kernel_rfl) rfl fun T93 hT93 => ?_
            refine r_sd (sd_move rfl rfl) rfl rfl ?_
            refine r_nil (hT93 _ _ (fun w hs => St.sel [3, 4, 5, 6, 7, 8, 9, 10, 11, 12, 13] rfl rfl hs) ?_)
            refine n_step [4, 5] (by kernel_rfl) (n_cons ?_ <| n_cons ?_ <| n_nil)
            · -- operation 4 first
              refine n_op (rem' := [5, 6, 7]) rfl (by kernel_rfl) rfl fun T94 hT94 => ?_
              refine r_sd (sd_extract rfl rfl rfl) rfl rfl ?_
              refine r_nil (hT94 _ _ (fun w hs => St.sel [3, 4, 5, 6, 7, 8, 9, 10, 11, 12, 13] rfl rfl hs) ?_)
              refine n_step [5, 6] (by kernel_rfl) (n_cons ?_ <| n_cons ?_ <| n_nil)
              · -- operation 5 first
                refine n_op (rem' := [6, 7]) rfl (by kernel_rfl) rfl fun T95 hT95 => ?_
                refine r_sd (sd_extract rfl rfl rfl) rfl rfl ?_
                refine r_nil (hT95 _ _ (fun w hs => St.sel [3, 4, 5, 6, 7, 8, 9, 10, 11, 12, 13] rfl rfl hs) ?_)
                refine n_step [6] (by kernel_rfl) (n_cons ?_ <| n_nil)
                refine n_op (rem' := [7]) rfl (by kernel_rfl) rfl fun T96 hT96 => ?_
                refine r_sd (sd_assign rfl rfl) rfl rfl ?_
                refine r_nil (hT96 _ _ (fun w hs => St.sel [3, 4, 5, 6, 7, 8, 9, 10, 11, 12, 13] rfl rfl hs) ?_)
                refine n_step [7] (by kernel_rfl) (n_cons ?_ <| n_nil)
                refine n_op (rem' := []) rfl (by kernel_rfl) rfl fun T97 hT97 => ?_
                refine r_sd (sd_assign rfl rfl) rfl rfl ?_
                refine r_nil (hT97 _ _ (fun w hs => St.sel [3, 4, 5, 6, 7, 8, 9, 10, 11, 12, 13] rfl rfl hs) ?_)
                refine n_fin ?_
                refine k_then (k_sub (Sub.cons rfl <| Sub.cons rfl <| Sub.cons rfl <| Sub.cons rfl <| Sub.cons rfl <| Sub.cons rfl <| Sub.cons rfl <| Sub.cons rfl <| Sub.cons rfl <| Sub.cons rfl <| Sub.cons rfl <| Sub.nil _) (fun w hs => St.sel [3, 4, 5, 6, 7, 8, 9, 10, 11, 12, 13] rfl rfl hs) (hK48 ()))
              · -- operation 6 first
                refine n_op (rem' := [5, 7]) rfl (by kernel_rfl) rfl fun T98 hT98 => ?_
                refine r_sd (sd_assign rfl rfl) rfl rfl ?_
                refine r_nil (hT98 _ _ (fun w hs => St.sel [3, 4, 5, 6, 7, 8, 9, 10, 11, 12, 13] rfl rfl hs) ?_)
                refine n_step [5] (by kernel_rfl) (n_cons ?_ <| n_nil)
                refine n_op (rem' := [7]) rfl (by kernel_rfl) rfl fun T99 hT99 => ?_
                refine r_sd (sd_extract rfl rfl rfl) rfl rfl ?_
                refine r_nil (hT99 _ _ (fun w hs => St.sel [3, 4, 5, 6, 7, 8, 9, 10, 11, 12, 13] rfl rfl hs) ?_)
                refine n_step [7] (by kernel_rfl) (n_cons ?_ <| n_nil)
                refine n_op (rem' := []) rfl (by kernel_rfl) rfl fun T100 hT100 => ?_
                refine r_sd (sd_assign rfl rfl) rfl rfl ?_
                refine r_nil (hT100 _ _ (fun w hs => St.sel [3, 4, 5, 6, 7, 8, 9, 10, 11, 12, 13] rfl rfl hs) ?_)
                refine n_fin ?_
                refine k_then (k_sub (Sub.cons rfl <| Sub.cons rfl <| Sub.cons rfl <| Sub.cons rfl <| Sub.cons rfl <| Sub.cons rfl <| Sub.cons rfl <| Sub.cons rfl <| Sub.cons rfl <| Sub.cons rfl <| Sub.cons rfl <| Sub.nil _) (fun w hs => St.sel [3, 4, 5, 6, 7, 8, 9, 10, 11, 12, 13] rfl rfl hs) (hK48 ()))
            · -- operation 5 first
              refine n_op (rem' := [4, 6, 7]) rfl (by kernel_rfl) rfl fun T101 hT101 => ?_
              refine r_sd (sd_extract rfl rfl rfl) rfl rfl ?_
              refine r_nil (hT101 _ _ (fun w hs => St.sel [3, 4, 5, 6, 7, 8, 9, 10, 11, 12, 13] rfl rfl hs) ?_)
              refine n_step [4] (by kernel_rfl) (n_cons ?_ <| n_nil)
              refine n_op (rem' := [6, 7]) rfl (by kernel_rfl) rfl fun T102 hT102 => ?_
              refine r_sd (sd_extract rfl rfl rfl) rfl rfl ?_
              refine r_nil (hT102 _ _ (fun w hs => St.sel [3, 4, 5, 6, 7, 8, 9, 10, 11, 12, 13] rfl rfl hs) ?_)
              refine n_step [6] (by kernel_rfl) (n_cons ?_ <| n_nil)
              refine n_op (rem' := [7]) rfl (by kernel_rfl) rfl fun T103 hT103 => ?_
              refine r_sd (sd_assign rfl rfl) rfl rfl ?_
              refine r_nil (hT103 _ _ (fun w hs => St.sel [3, 4, 5, 6, 7, 8, 9, 10, 11, 12, 13] rfl rfl hs) ?_)
              refine n_step [7] (by kernel_rfl) (n_cons ?_ <| n_nil)
              refine n_op (rem' := []) rfl (by kernel_rfl) rfl fun T104 hT104 => ?_
              refine r_sd (sd_assign rfl rfl) rfl rfl ?_
              refine r_nil (hT104 _ _ (fun w hs => St.sel [3, 4, 5, 6, 7, 8, 9, 10, 11, 12, 13] rfl rfl hs) ?_)
              refine n_fin ?_
              refine k_then (k_sub (Sub.cons rfl <| Sub.cons rfl <| Sub.cons rfl <| Sub.cons rfl <| Sub.cons rfl <| Sub.cons rfl <| Sub.cons rfl <| Sub.cons rfl <| Sub.cons rfl <| Sub.cons rfl <| Sub.cons rfl <| Sub.nil _) (fun w hs => St.sel [3, 4, 5, 6, 7, 8, 9, 10, 11, 12, 13] rfl rfl hs) (hK48 ()))
        refine w_drawN mixed [1, 2] [0, 3, 4, 5, 6, 7, 8, 9] [false, false] [] [(own a43 c44 77 9 ((runL 100).map StretchV.cells)), (blk b39 26 (SpanV.cells (heightV bobS (runL 100) 0))), (own a37 c38 77 9 ((runL 100).map StretchV.cells)), (own a32 c33 77 9 ((runL 100).map StretchV.cells)), (blk b26 28 (SledV.cells stillS)), (blk b23 28 (SledV.cells oddS)), (blk b20 3 [(Value.int .i64 0), (Value.int .i64 95), (Value.int .i64 0)]), (own a16 c17 77 9 ((runL 100).map StretchV.cells)), (own a11 c12 3 1 ([0, 95, 0].map iC)), (own a7 c8 77 9 ((runL 100).map StretchV.cells))] [] (by kernel_rfl) (fun w hs => St.sel [0, 1, 2, 3, 4, 5, 6, 7, 8, 9] rfl rfl hs) (fun w hs => St.sel [] rfl rfl hs) ?_
        refine d4_sd (sd_call rfl rfl rfl rfl bob_c (ha_nil)) rfl rfl rfl ?_
        refine d4_sd (sd_ldn rfl rfl tk28 (at_blk (vs := (SledV.cells stillS)) 4 rfl rfl) rfl) rfl rfl rfl ?_
        refine d_fin rfl ?_
        refine n_step [0] (by kernel_rfl) (n_cons ?_ <| n_nil)
        refine n_op (rem' := [3, 4, 5, 6, 7, 8, 9]) rfl (by kernel_rfl) rfl fun T105 hT105 => ?_
        refine r_call rfl rfl rfl rfl (run_c 90) (ha_nil) rfl (fun y106 hy107 => ?_)
        obtain ⟨a108, c109⟩ := y106
        change RJ _ _ _ _ _ ((_, (Value.agg (TrackV.cells (TrackV.mk (Slc.mk a108 ((runL 90).length) c109))).toArray)) :: _) ((own a108 c109 77 9 ((runL 90).map StretchV.cells)) :: _)
        refine r_nil (hT105 _ _ (fun w hs => St.sel [1, 2, 3, 4, 5, 6, 7, 8, 9, 10] rfl rfl hs) ?_)
        refine n_step [3] (by kernel_rfl) (n_cons ?_ <| n_nil)
        refine n_op (rem' := [4, 5, 6, 7, 8, 9]) rfl (by kernel_rfl) rfl fun T110 hT110 => ?_
        refine r_bs (xs := [.tmp 104, .tmp 105]) (cs := ((SledV.cells bobS) ++ (SledV.cells stillS))) rfl te50 tz28 rfl rfl rfl rfl (by simp [Value.cells, SledV.cells_length]) rfl rfl fun b111 => ?_
        refine r_nil (hT110 _ _ (fun w hs => St.sel [2, 3, 4, 5, 6, 7, 8, 9, 10, 11] rfl rfl hs) ?_)
        refine n_step [4] (by kernel_rfl) (n_cons ?_ <| n_nil)
        refine n_op (rem' := [5, 6, 7, 8, 9]) rfl (by kernel_rfl) rfl fun T112 hT112 => ?_
        refine r_call rfl rfl rfl rfl (shut_c (runL 90) a108 c109 ([bobS, stillS]) (some ⟨b111, 0, none⟩) 2 (by first | assumption | omega | (simp; done) | (simp; omega)) (by first | assumption | omega | (simp; done) | (simp; omega))) (ha_cons (has_own_n (n := (runL 90).length) 1 rfl (by simp)) <| ha_cons (has_rd_blk 0 rfl rfl (by simp [SledV.cells_length]) rfl) <| ha_nil) rfl (fun y113 hy114 => ?_)
        obtain ⟨a115, c116⟩ := y113
        change RJ _ _ _ _ _ ((_, (Value.tuple [(Value.slice a115 ((shutU (runL 90) ([bobS, stillS])).length) c116), (Value.int .i64 (shutE (runL 90) ([bobS, stillS])))].toArray)) :: _) ((own a115 c116 3 1 ((shutU (runL 90) ([bobS, stillS])).map iC)) :: _)
        refine r_nil (hT112 _ _ (fun w hs => St.sel [3, 4, 5, 6, 7, 8, 9, 10, 11, 12] rfl rfl hs) ?_)
        refine n_step [5] (by kernel_rfl) (n_cons ?_ <| n_nil)
        refine n_op (rem' := [6, 7, 8, 9]) rfl (by kernel_rfl) rfl fun T117 hT117 => ?_
        refine r_sd (sd_move rfl rfl) rfl rfl ?_
        refine r_nil (hT117 _ _ (fun w hs => St.sel [3, 4, 5, 6, 7, 8, 9, 10, 11, 12] rfl rfl hs) ?_)
        refine n_step [6, 7] (by kernel_rfl) (n_cons ?_ <| n_cons ?_ <| n_nil)
        · -- operation 6 first
          refine n_op (rem' := [7, 8, 9]) rfl (by kernel_rfl) rfl fun T118 hT118 => ?_
          refine r_sd (sd_extract rfl rfl rfl) rfl rfl ?_
          refine r_nil (hT118 _ _ (fun w hs => St.sel [3, 4, 5, 6, 7, 8, 9, 10, 11, 12] rfl rfl hs) ?_)
          refine n_step [7, 8] (by kernel_rfl) (n_cons ?_ <| n_cons ?_ <| n_nil)
          · -- operation 7 first
            refine n_op (rem' := [8, 9]) rfl (by kernel_rfl) rfl fun T119 hT119 => ?_
            refine r_sd (sd_extract rfl rfl rfl) rfl rfl ?_
            refine r_nil (hT119 _ _ (fun w hs => St.sel [3, 4, 5, 6, 7, 8, 9, 10, 11, 12] rfl rfl hs) ?_)
            refine n_step [8] (by kernel_rfl) (n_cons ?_ <| n_nil)
            refine n_op (rem' := [9]) rfl (by kernel_rfl) rfl fun T120 hT120 => ?_
            refine r_sd (sd_assign rfl rfl) rfl rfl ?_
            refine r_nil (hT120 _ _ (fun w hs => St.sel [3, 4, 5, 6, 7, 8, 9, 10, 11, 12] rfl rfl hs) ?_)
            refine n_step [9] (by kernel_rfl) (n_cons ?_ <| n_nil)
            refine n_op (rem' := []) rfl (by kernel_rfl) rfl fun T121 hT121 => ?_
            refine r_sd (sd_assign rfl rfl) rfl rfl ?_
            refine r_nil (hT121 _ _ (fun w hs => St.sel [3, 4, 5, 6, 7, 8, 9, 10, 11, 12] rfl rfl hs) ?_)
            refine n_fin ?_
            refine k_then (k_sub (Sub.cons rfl <| Sub.cons rfl <| Sub.cons rfl <| Sub.cons rfl <| Sub.cons rfl <| Sub.cons rfl <| Sub.cons rfl <| Sub.cons rfl <| Sub.cons rfl <| Sub.cons rfl <| Sub.nil _) (fun w hs => St.sel [0, 3, 4, 5, 6, 7, 8, 9, 10, 11, 12] rfl rfl hs) (hK47 ⟨(a115, c116), trivial⟩))
          · -- operation 8 first
            refine n_op (rem' := [7, 9]) rfl (by kernel_rfl) rfl fun T122 hT122 => ?_
            refine r_sd (sd_assign rfl rfl) rfl rfl ?_
            refine r_nil (hT122 _ _ (fun w hs => St.sel [3, 4, 5, 6, 7, 8, 9, 10, 11, 12] rfl rfl hs) ?_)
            refine n_step [7] (by kernel_rfl) (n_cons ?_ <| n_nil)
            refine n_op (rem' := [9]) rfl (by kernel_rfl) rfl fun T123 hT123 => ?_
            refine r_sd (sd_extract rfl rfl rfl) rfl rfl ?_
            refine r_nil (hT123 _ _ (fun w hs => St.sel [3, 4, 5, 6, 7, 8, 9, 10, 11, 12] rfl rfl hs) ?_)
            refine n_step [9] (by kernel_rfl) (n_cons ?_ <| n_nil)
            refine n_op (rem' := []) rfl (by kernel_rfl) rfl fun T124 hT124 => ?_
            refine r_sd (sd_assign rfl rfl) rfl rfl ?_
            refine r_nil (hT124 _ _ (fun w hs => St.sel [3, 4, 5, 6, 7, 8, 9, 10, 11, 12] rfl rfl hs) ?_)
            refine n_fin ?_
            refine k_then (k_sub (Sub.cons rfl <| Sub.cons rfl <| Sub.cons rfl <| Sub.cons rfl <| Sub.cons rfl <| Sub.cons rfl <| Sub.cons rfl <| Sub.cons rfl <| Sub.cons rfl <| Sub.cons rfl <| Sub.nil _) (fun w hs => St.sel [0, 3, 4, 5, 6, 7, 8, 9, 10, 11, 12] rfl rfl hs) (hK47 ⟨(a115, c116), trivial⟩))
        · -- operation 7 first
          refine n_op (rem' := [6, 8, 9]) rfl (by kernel_rfl) rfl fun T125 hT125 => ?_
          refine r_sd (sd_extract rfl rfl rfl) rfl rfl ?_
          refine r_nil (hT125 _ _ (fun w hs => St.sel [3, 4, 5, 6, 7, 8, 9, 10, 11, 12] rfl rfl hs) ?_)
          refine n_step [6] (by kernel_rfl) (n_cons ?_ <| n_nil)
          refine n_op (rem' := [8, 9]) rfl (by kernel_rfl) rfl fun T126 hT126 => ?_
          refine r_sd (sd_extract rfl rfl rfl) rfl rfl ?_
          refine r_nil (hT126 _ _ (fun w hs => St.sel [3, 4, 5, 6, 7, 8, 9, 10, 11, 12] rfl rfl hs) ?_)
          refine n_step [8] (by kernel_rfl) (n_cons ?_ <| n_nil)
          refine n_op (rem' := [9]) rfl (by kernel_rfl) rfl fun T127 hT127 => ?_
          refine r_sd (sd_assign rfl rfl) rfl rfl ?_
          refine r_nil (hT127 _ _ (fun w hs => St.sel [3, 4, 5, 6, 7, 8, 9, 10, 11, 12] rfl rfl hs) ?_)
          refine n_step [9] (by kernel_rfl) (n_cons ?_ <| n_nil)
          refine n_op (rem' := []) rfl (by kernel_rfl) rfl fun T128 hT128 => ?_
          refine r_sd (sd_assign rfl rfl) rfl rfl ?_
          refine r_nil (hT128 _ _ (fun w hs => St.sel [3, 4, 5, 6, 7, 8, 9, 10, 11, 12] rfl rfl hs) ?_)
          refine n_fin ?_
          refine k_then (k_sub (Sub.cons rfl <| Sub.cons rfl <| Sub.cons rfl <| Sub.cons rfl <| Sub.cons rfl <| Sub.cons rfl <| Sub.cons rfl <| Sub.cons rfl <| Sub.cons rfl <| Sub.cons rfl <| Sub.nil _) (fun w hs => St.sel [0, 3, 4, 5, 6, 7, 8, 9, 10, 11, 12] rfl rfl hs) (hK47 ⟨(a115, c116), trivial⟩))
      refine w_drawN mixed [1] [0, 2, 3, 4, 5, 6, 7] [false] [] [(own a43 c44 77 9 ((runL 100).map StretchV.cells)), (blk b39 26 (SpanV.cells (heightV bobS (runL 100) 0))), (own a37 c38 77 9 ((runL 100).map StretchV.cells)), (own a32 c33 77 9 ((runL 100).map StretchV.cells)), (blk b26 28 (SledV.cells stillS)), (blk b23 28 (SledV.cells oddS)), (blk b20 3 [(Value.int .i64 0), (Value.int .i64 95), (Value.int .i64 0)]), (own a16 c17 77 9 ((runL 100).map StretchV.cells)), (own a11 c12 3 1 ([0, 95, 0].map iC)), (own a7 c8 77 9 ((runL 100).map StretchV.cells))] [] (by kernel_rfl) (fun w hs => St.sel [0, 1, 2, 3, 4, 5, 6, 7, 8, 9] rfl rfl hs) (fun w hs => St.sel [] rfl rfl hs) ?_
      refine d4_sd (sd_ldn rfl rfl tk28 (at_blk (vs := (SledV.cells stillS)) 4 rfl rfl) rfl) rfl rfl rfl ?_
      refine d_fin rfl ?_
      refine n_step [0] (by kernel_rfl) (n_cons ?_ <| n_nil)
      refine n_op (rem' := [2, 3, 4, 5, 6, 7]) rfl (by kernel_rfl) rfl fun T129 hT129 => ?_
      refine r_call rfl rfl rfl rfl (run_c 100) (ha_nil) rfl (fun y130 hy131 => ?_)
      obtain ⟨a132, c133⟩ := y130
      change RJ _ _ _ _ _ ((_, (Value.agg (TrackV.cells (TrackV.mk (Slc.mk a132 ((runL 100).length) c133))).toArray)) :: _) ((own a132 c133 77 9 ((runL 100).map StretchV.cells)) :: _)
      refine r_nil (hT129 _ _ (fun w hs => St.sel [1, 2, 3, 4, 5, 6, 7, 8, 9, 10] rfl rfl hs) ?_)
      refine n_step [2] (by kernel_rfl) (n_cons ?_ <| n_nil)
      refine n_op (rem' := [3, 4, 5, 6, 7]) rfl (by kernel_rfl) rfl fun T134 hT134 => ?_
      refine r_sd (sd_call rfl rfl rfl rfl (least_c (runL 100) a132 c133 stillS 1 (by first | assumption | omega | (simp; done) | (simp; omega)) (by first | assumption | omega | (simp; done) | (simp; omega))) (ha_cons (has_own_n (n := (runL 100).length) 0 rfl (by simp)) <| ha_nil)) rfl rfl ?_
      refine r_nil (hT134 _ _ (fun w hs => St.sel [1, 2, 3, 4, 5, 6, 7, 8, 9, 10] rfl rfl hs) ?_)
      refine n_step [3] (by kernel_rfl) (n_cons ?_ <| n_nil)
      refine n_op (rem' := [4, 5, 6, 7]) rfl (by kernel_rfl) rfl fun T135 hT135 => ?_
      refine r_sd (sd_move rfl rfl) rfl rfl ?_
      refine r_nil (hT135 _ _ (fun w hs => St.sel [1, 2, 3, 4, 5, 6, 7, 8, 9, 10] rfl rfl hs) ?_)
      refine n_step [4, 5] (by kernel_rfl) (n_cons ?_ <| n_cons ?_ <| n_nil)
      · -- operation 4 first
        refine n_op (rem' := [5, 6, 7]) rfl (by kernel_rfl) rfl fun T136 hT136 => ?_
        refine r_sd (sd_extract rfl rfl rfl) rfl rfl ?_
        refine r_nil (hT136 _ _ (fun w hs => St.sel [1, 2, 3, 4, 5, 6, 7, 8, 9, 10] rfl rfl hs) ?_)
        refine n_step [5, 6] (by kernel_rfl) (n_cons ?_ <| n_cons ?_ <| n_nil)
        · -- operation 5 first
          refine n_op (rem' := [6, 7]) rfl (by kernel_rfl) rfl fun T137 hT137 => ?_
          refine r_sd (sd_extract rfl rfl rfl) rfl rfl ?_
          refine r_nil (hT137 _ _ (fun w hs => St.sel [1, 2, 3, 4, 5, 6, 7, 8, 9, 10] rfl rfl hs) ?_)
          refine n_step [6] (by kernel_rfl) (n_cons ?_ <| n_nil)
          refine n_op (rem' := [7]) rfl (by kernel_rfl) rfl fun T138 hT138 => ?_
          refine r_sd (sd_assign rfl rfl) rfl rfl ?_
          refine r_nil (hT138 _ _ (fun w hs => St.sel [1, 2, 3, 4, 5, 6, 7, 8, 9, 10] rfl rfl hs) ?_)
          refine n_step [7] (by kernel_rfl) (n_cons ?_ <| n_nil)
          refine n_op (rem' := []) rfl (by kernel_rfl) rfl fun T139 hT139 => ?_
          refine r_sd (sd_assign rfl rfl) rfl rfl ?_
          refine r_nil (hT139 _ _ (fun w hs => St.sel [1, 2, 3, 4, 5, 6, 7, 8, 9, 10] rfl rfl hs) ?_)
          refine n_fin ?_
          refine k_then (k_sub (Sub.cons rfl <| Sub.cons rfl <| Sub.cons rfl <| Sub.cons rfl <| Sub.cons rfl <| Sub.cons rfl <| Sub.cons rfl <| Sub.nil _) (fun w hs => St.sel [1, 2, 3, 4, 5, 6, 7, 8, 9, 10] rfl rfl hs) (hK45 ()))
        · -- operation 6 first
          refine n_op (rem' := [5, 7]) rfl (by kernel_rfl) rfl fun T140 hT140 => ?_
          refine r_sd (sd_assign rfl rfl) rfl rfl ?_
          refine r_nil (hT140 _ _ (fun w hs => St.sel [1, 2, 3, 4, 5, 6, 7, 8, 9, 10] rfl rfl hs) ?_)
          refine n_step [5] (by kernel_rfl) (n_cons ?_ <| n_nil)
          refine n_op (rem' := [7]) rfl (by kernel_rfl) rfl fun T141 hT141 => ?_
          refine r_sd (sd_extract rfl rfl rfl) rfl rfl ?_
          refine r_nil (hT141 _ _ (fun w hs => St.sel [1, 2, 3, 4, 5, 6, 7, 8, 9, 10] rfl rfl hs) ?_)
          refine n_step [7] (by kernel_rfl) (n_cons ?_ <| n_nil)
          refine n_op (rem' := []) rfl (by kernel_rfl) rfl fun T142 hT142 => ?_
          refine r_sd (sd_assign rfl rfl) rfl rfl ?_
          refine r_nil (hT142 _ _ (fun w hs => St.sel [1, 2, 3, 4, 5, 6, 7, 8, 9, 10] rfl rfl hs) ?_)
          refine n_fin ?_
          refine k_then (k_sub (Sub.cons rfl <| Sub.cons rfl <| Sub.cons rfl <| Sub.cons rfl <| Sub.cons rfl <| Sub.cons rfl <| Sub.cons rfl <| Sub.nil _) (fun w hs => St.sel [1, 2, 3, 4, 5, 6, 7, 8, 9, 10] rfl rfl hs) (hK45 ()))
      · -- operation 5 first
        refine n_op (rem' := [4, 6, 7]) rfl (by kernel_rfl) rfl fun T143 hT143 => ?_
        refine r_sd (sd_extract rfl rfl rfl) rfl rfl ?_
        refine r_nil (hT143 _ _ (fun w hs => St.sel [1, 2, 3, 4, 5, 6, 7, 8, 9, 10] rfl rfl hs) ?_)
        refine n_step [4] (by kernel_rfl) (n_cons ?_ <| n_nil)
        refine n_op (rem' := [6, 7]) rfl (by kernel_rfl) rfl fun T144 hT144 => ?_
        refine r_sd (sd_extract rfl rfl rfl) rfl rfl ?_
        refine r_nil (hT144 _ _ (fun w hs => St.sel [1, 2, 3, 4, 5, 6, 7, 8, 9, 10] rfl rfl hs) ?_)
        refine n_step [6] (by kernel_rfl) (n_cons ?_ <| n_nil)
        refine n_op (rem' := [7]) rfl (by kernel_rfl) rfl fun T145 hT145 => ?_
        refine r_sd (sd_assign rfl rfl) rfl rfl ?_
        refine r_nil (hT145 _ _ (fun w hs => St.sel [1, 2, 3, 4, 5, 6, 7, 8, 9, 10] rfl rfl hs) ?_)
        refine n_step [7] (by kernel_rfl) (n_cons ?_ <| n_nil)
        refine n_op (rem' := []) rfl (by kernel_rfl) rfl fun T146 hT146 => ?_
        refine r_sd (sd_assign rfl rfl) rfl rfl ?_
        refine r_nil (hT146 _ _ (fun w hs => St.sel [1, 2, 3, 4, 5, 6, 7, 8, 9, 10] rfl rfl hs) ?_)
        refine n_fin ?_
        refine k_then (k_sub (Sub.cons rfl <| Sub.cons rfl <| Sub.cons rfl <| Sub.cons rfl <| Sub.cons rfl <| Sub.cons rfl <| Sub.cons rfl <| Sub.nil _) (fun w hs => St.sel [1, 2, 3, 4, 5, 6, 7, 8, 9, 10] rfl rfl hs) (hK45 ()))
    have hb147 : (SledV.cells (SledV.mk 4 bobS.Start bobS.Rub bobS.Drag bobS.Weight bobS.Steer)) = (SledV.cells oddS) := by rfl
    rw [hb147]
    have hb148 : (SledV.cells (SledV.mk bobS.Class (SpanV.mk 0 0) (SpanV.mk 100 100) bobS.Drag bobS.Weight bobS.Steer)) = (SledV.cells stillS) := by rfl
    rw [hb148]
    refine w_drawN mixed [1] [0, 2, 3, 4, 5, 6] [false] [] [(blk b26 28 (SledV.cells stillS)), (blk b23 28 (SledV.cells oddS)), (blk b20 3 [(Value.int .i64 0), (Value.int .i64 95), (Value.int .i64 0)]), (own a16 c17 77 9 ((runL 100).map StretchV.cells)), (own a11 c12 3 1 ([0, 95, 0].map iC)), (own a7 c8 77 9 ((runL 100).map StretchV.cells))] [] (by kernel_rfl) (fun w hs => St.sel [0, 1, 2, 3, 4, 5] rfl rfl hs) (fun w hs => St.sel [] rfl rfl hs) ?_
    refine d4_sd (sd_ldn rfl rfl tk28 (at_blk (vs := (SledV.cells oddS)) 1 rfl rfl) rfl) rfl rfl rfl ?_
    refine d_fin rfl ?_
    refine n_step [0] (by kernel_rfl) (n_cons ?_ <| n_nil)
    refine n_op (rem' := [2, 3, 4, 5, 6]) rfl (by kernel_rfl) rfl fun T149 hT149 => ?_
    refine r_call rfl rfl rfl rfl (run_c 100) (ha_nil) rfl (fun y150 hy151 => ?_)
    obtain ⟨a152, c153⟩ := y150
    change RJ _ _ _ _ _ ((_, (Value.agg (TrackV.cells (TrackV.mk (Slc.mk a152 ((runL 100).length) c153))).toArray)) :: _) ((own a152 c153 77 9 ((runL 100).map StretchV.cells)) :: _)
    refine r_nil (hT149 _ _ (fun w hs => St.sel [1, 2, 3, 4, 5, 6] rfl rfl hs) ?_)
    refine n_step [2] (by kernel_rfl) (n_cons ?_ <| n_nil)
    refine n_op (rem' := [3, 4, 5, 6]) rfl (by kernel_rfl) rfl fun T154 hT154 => ?_
    refine r_call rfl rfl rfl rfl (heads_c (runL 100) a152 c153 oddS (by first | assumption | omega | (simp; done) | (simp; omega)) (by first | assumption | omega | (simp; done) | (simp; omega))) (ha_cons (has_own_n (n := (runL 100).length) 0 rfl (by simp)) <| ha_nil) rfl (fun y155 hy156 => ?_)
    obtain ⟨a157, c158⟩ := y155
    change RJ _ _ _ _ _ ((_, (Value.tuple [(Value.slice a157 ((spansU oddS (runL 100)).length) c158), (Value.int .i64 (bothE oddS (runL 100)))].toArray)) :: _) ((own a157 c158 26 2 ((spansU oddS (runL 100)).map SpanV.cells)) :: _)
    refine r_nil (hT154 _ _ (fun w hs => St.sel [2, 3, 4, 5, 6, 7] rfl rfl hs) ?_)
    refine n_step [3] (by kernel_rfl) (n_cons ?_ <| n_nil)
    refine n_op (rem' := [4, 5, 6]) rfl (by kernel_rfl) rfl fun T159 hT159 => ?_
    refine r_sd (sd_move rfl rfl) rfl rfl ?_
    refine r_nil (hT159 _ _ (fun w hs => St.sel [2, 3, 4, 5, 6, 7] rfl rfl hs) ?_)
    refine n_step [4, 5] (by kernel_rfl) (n_cons ?_ <| n_cons ?_ <| n_nil)
    · -- operation 4 first
      refine n_op (rem' := [5, 6]) rfl (by kernel_rfl) rfl fun T160 hT160 => ?_
      refine r_sd (sd_extract rfl rfl rfl) rfl rfl ?_
      refine r_nil (hT160 _ _ (fun w hs => St.sel [2, 3, 4, 5, 6, 7] rfl rfl hs) ?_)
      refine n_step [5] (by kernel_rfl) (n_cons ?_ <| n_nil)
      refine n_op (rem' := [6]) rfl (by kernel_rfl) rfl fun T161 hT161 => ?_
      refine r_sd (sd_extract rfl rfl rfl) rfl rfl ?_
      refine r_nil (hT161 _ _ (fun w hs => St.sel [2, 3, 4, 5, 6, 7] rfl rfl hs) ?_)
      refine n_step [6] (by kernel_rfl) (n_cons ?_ <| n_nil)
      refine n_op (rem' := []) rfl (by kernel_rfl) rfl fun T162 hT162 => ?_
      refine r_sd (sd_assign rfl rfl) rfl rfl ?_
      refine r_nil (hT162 _ _ (fun w hs => St.sel [2, 3, 4, 5, 6, 7] rfl rfl hs) ?_)
      refine n_fin ?_
      refine k_then (k_sub (Sub.cons rfl <| Sub.cons rfl <| Sub.cons rfl <| Sub.nil _) (fun w hs => St.sel [2, 3, 4, 5, 6, 7] rfl rfl hs) (hK28 ()))
    · -- operation 5 first
      refine n_op (rem' := [4, 6]) rfl (by kernel_rfl) rfl fun T163 hT163 => ?_
      refine r_sd (sd_extract rfl rfl rfl) rfl rfl ?_
      refine r_nil (hT163 _ _ (fun w hs => St.sel [2, 3, 4, 5, 6, 7] rfl rfl hs) ?_)
      refine n_step [4] (by kernel_rfl) (n_cons ?_ <| n_nil)
      refine n_op (rem' := [6]) rfl (by kernel_rfl) rfl fun T164 hT164 => ?_
      refine r_sd (sd_extract rfl rfl rfl) rfl rfl ?_
      refine r_nil (hT164 _ _ (fun w hs => St.sel [2, 3, 4, 5, 6, 7] rfl rfl hs) ?_)
      refine n_step [6] (by kernel_rfl) (n_cons ?_ <| n_nil)
      refine n_op (rem' := []) rfl (by kernel_rfl) rfl fun T165 hT165 => ?_
      refine r_sd (sd_assign rfl rfl) rfl rfl ?_
      refine r_nil (hT165 _ _ (fun w hs => St.sel [2, 3, 4, 5, 6, 7] rfl rfl hs) ?_)
      refine n_fin ?_
      refine k_then (k_sub (Sub.cons rfl <| Sub.cons rfl <| Sub.cons rfl <| Sub.nil _) (fun w hs => St.sel [2, 3, 4, 5, 6, 7] rfl rfl hs) (hK28 ()))

end Go.Proofs.Ytpbgdeojcefnmaa
