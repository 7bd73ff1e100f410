/-
  Walks: kreisel/kreisellaw03.SlideSafes
-/
import Derived.Test.YtpbgdeojcefnmaaTab
import Derived.Test.YtpbgdeojcefnmaaSort
import Derived.Test.YtpbgdeojcefnmaaThr
import Derived.Test.YtpbgdeojcefnmaaMono
import Derived.Test.YtpbgdeojcefnmaaSafe
import Derived.Test.YtpbgdeojcefnmaaW1
import Derived.Test.YtpbgdeojcefnmaaW2
import Derived.Test.YtpbgdeojcefnmaaW3
import Derived.Test.YtpbgdeojcefnmaaW4
import Derived.Test.YtpbgdeojcefnmaaW5
import Derived.Test.YtpbgdeojcefnmaaW6
import Derived.Test.YtpbgdeojcefnmaaW7
import Derived.Test.YtpbgdeojcefnmaaW8
import Derived.Test.YtpbgdeojcefnmaaW9
import Derived.Test.YtpbgdeojcefnmaaW10
import Derived.Test.YtpbgdeojcefnmaaW11
import Derived.Test.YtpbgdeojcefnmaaW12
import Derived.Test.YtpbgdeojcefnmaaW13
import Derived.Test.YtpbgdeojcefnmaaW14
import Derived.Test.YtpbgdeojcefnmaaW15
import Derived.Test.YtpbgdeojcefnmaaW16
import Derived.Test.YtpbgdeojcefnmaaW17
import Derived.Test.YtpbgdeojcefnmaaW18
import Derived.Test.YtpbgdeojcefnmaaW19
import Derived.Test.YtpbgdeojcefnmaaW20
namespace Go.Proofs.Ytpbgdeojcefnmaa
open Go.RowKit
set_option linter.unusedVariables false

set_option maxRecDepth 100000 in
set_option maxHeartbeats 400000 in
theorem slideSafes_c (ts : List StretchV) (tsA : Option Addr) (tsC : Nat) (s : SledV) (all : List SledV) (allA : Option Addr) (allC : Nat) (hside : ∀ x ∈ ts, 0 ≤ x.Side ∧ x.Side ≤ 255) (hc : 0 ≤ s.Class ∧ s.Class ≤ 255) (hcl : ∀ s ∈ all, 0 ≤ s.Class ∧ s.Class ≤ 255) :
    FnV Try.prog 4 [(Value.agg (TrackV.cells (TrackV.mk (Slc.mk tsA ts.length tsC))).toArray), (Value.agg (SledV.cells s).toArray), (Value.slice allA all.length allC)] [(rd tsA ts.length 9 (ts.map StretchV.cells)), (rd allA all.length 11 (all.map SledV.cells))] (Value.bool true) := by
  refine fnV_of go4 Try.func4 rfl rfl fun w0 Q hQ hN => ?_
  change WJ _ _ _ _ [(0, (Value.agg (TrackV.cells (TrackV.mk (Slc.mk tsA ts.length tsC))).toArray)), (1, (Value.agg (SledV.cells s).toArray)), (2, (Value.slice allA all.length allC))] [(rd tsA ts.length 9 (ts.map StretchV.cells)).ro, (rd allA all.length 11 (all.map SledV.cells)).ro]
  refine w_seq fun K1 hK1 => ?_
  refine w_region ?_
  refine r_box (cs := (TrackV.cells (TrackV.mk (Slc.mk tsA ts.length tsC)))) rfl rfl rfl rfl fun b2 => ?_
  refine r_box (cs := (SledV.cells s)) rfl rfl rfl rfl fun b3 => ?_
  refine r_sd (sd_assign rfl rfl) rfl rfl ?_
  refine r_nil ?_
  refine k_then (hK1 _ _ _ ?_)
  refine w_seq fun K4 hK4 => ?_
  refine w_seq fun K5 hK5 => ?_
  refine w_region ?_
  refine r_sd (sd_ldn rfl rfl tk24 (at_blk (vs := (TrackV.cells (TrackV.mk (Slc.mk tsA ts.length tsC)))) 1 rfl rfl) rfl) rfl rfl ?_
  refine r_sd (sd_call rfl rfl rfl rfl (great_c ts tsA tsC) (ha_at 2 rfl rfl <| ha_nil)) rfl rfl ?_
  refine r_sd (sd_move rfl rfl) rfl rfl ?_
  refine r_bool (t := 34) rfl (fun h6 => ?_) (fun h6 => ?_)
  · -- yes
    replace h6 := of_decide_eq_true h6
    refine r_sd (sd_off rfl) rfl rfl ?_
    refine r_sd (sd_off rfl) rfl rfl ?_
    refine r_sd (sd_off rfl) rfl rfl ?_
    refine r_sd (sd_pick_t rfl rfl rfl) rfl rfl ?_
    refine r_nil ?_
    refine k_then (hK5 _ _ _ ?_)
    refine w_if_true rfl ?_
    refine w_seq fun K7 hK7 => ?_
    refine w_region ?_
    refine r_sd (sd_assign rfl rfl) rfl rfl ?_
    refine r_nil ?_
    refine k_then (hK7 _ _ _ ?_)
    refine w_ret ?_
    refine hQ _ _ _ (l_nil (vs := [(Value.bool true)]) ⟨rfl, trivial⟩ fun w hs => endV ?_ hs)
    show (Value.bool true) = (Value.bool true)
    clear hs w hQ hN hK7 K7 hK5 K5 hK4 K4 hK1 K1
    first | rfl | simp
  · -- no
    replace h6 := of_decide_eq_false h6
    refine r_sd (sd_move rfl rfl) rfl rfl ?_
    refine r_sd (sd_len rfl rfl ut50) rfl rfl ?_
    refine r_sd (sd_bin rfl rfl rfl b_gtr) rfl rfl ?_
    refine r_sd (sd_pick_f rfl rfl rfl) rfl rfl ?_
    refine r_nil ?_
    refine k_then (hK5 _ _ _ ?_)
    refine w_if rfl (fun h8 => ?_) (fun h8 => ?_)
    · -- yes
      replace h8 := of_decide_eq_true h8
      refine w_seq fun K9 hK9 => ?_
      refine w_region ?_
      refine r_sd (sd_assign rfl rfl) rfl rfl ?_
      refine r_nil ?_
      refine k_then (hK9 _ _ _ ?_)
      refine w_ret ?_
      refine hQ _ _ _ (l_nil (vs := [(Value.bool true)]) ⟨rfl, trivial⟩ fun w hs => endV ?_ hs)
      show (Value.bool true) = (Value.bool true)
      clear hs w hQ hN hK9 K9 hK5 K5 hK4 K4 hK1 K1
      first | rfl | simp
    · -- no
      replace h8 := of_decide_eq_false h8
      refine w_skip ?_
      refine k_then (hK4 _ _ _ ?_)
      refine w_seq fun K10 hK10 => ?_
      refine w_region ?_
      refine r_sd (sd_ldn rfl rfl tk24 (at_blk (vs := (TrackV.cells (TrackV.mk (Slc.mk tsA ts.length tsC)))) 1 rfl rfl) rfl) rfl rfl ?_
      refine r_call rfl rfl rfl rfl (twin_c ts tsA tsC (by first | assumption | omega | (simp; done) | (simp; omega))) (ha_at 2 rfl rfl <| ha_nil) rfl (fun y11 hy12 => ?_)
      obtain ⟨a13, c14⟩ := y11
      change RJ _ _ _ _ _ ((_, (Value.agg (TrackV.cells (TrackV.mk (Slc.mk a13 ts.length c14))).toArray)) :: _) ((own a13 c14 77 9 (ts.map StretchV.cells)) :: _)
      refine r_bs0 rfl te50 rfl fun b15 => ?_
      refine r_sd (sd_move rfl rfl) rfl rfl ?_
      refine r_blk_own (es := (List.map SledV.cells [])) (C' := [own (some ⟨b15, 0, none⟩) 0 28 11 (List.map SledV.cells []), _, _, _, _, _]) 0 rfl (by simp) rfl (by simp [maxLen]) rfl ?_
      refine r_append (es2 := (List.map SledV.cells all)) (m' := all.length) 0 rfl rfl rfl ta50 rfl rfl (by simp) (has_at 5 rfl) (one_SledV_cells _) (by first | omega | (simp; omega)) (by first | (simp only [maxLen]; omega) | (simp [maxLen]; omega)) (by simp) (by simp) rfl fun a16 c17 => ?_
      change RJ _ _ _ _ _ _ [(own a16 c17 28 11 (List.map SledV.cells all)), _, _, _, _, _]
      refine r_alloc rfl tz24 rfl fun b18 => ?_
      refine r_store (vs := (TrackV.cells (TrackV.mk (Slc.mk a13 ts.length c14)))) (cs' := (TrackV.cells (TrackV.mk (Slc.mk a13 ts.length c14)))) (C' := [(blk b18 24 (TrackV.cells (TrackV.mk (Slc.mk a13 ts.length c14)))), _, _, _, _, _, _]) 0 rfl rfl rfl ts24 rfl rfl rfl rfl rfl rfl rfl ?_
      refine r_sd (sd_assign rfl rfl) rfl rfl ?_
      refine r_nil ?_
      refine k_then (hK10 _ _ _ ?_)
      refine w_seq fun K19 hK19 => ?_
      refine w_region ?_
      refine r_sd (sd_ldn rfl rfl tk24 (at_blk (vs := (TrackV.cells (TrackV.mk (Slc.mk a13 ts.length c14)))) 0 rfl rfl) rfl) rfl rfl ?_
      refine r_sd (sd_ldn rfl rfl tk28 (at_blk (vs := (SledV.cells s)) 3 rfl rfl) rfl) rfl rfl ?_
      refine r_sd (sd_call rfl rfl rfl rfl (safe_c ts a13 c14 s (by first | assumption | omega | (simp; done) | (simp; omega)) (by first | assumption | omega | (simp; done) | (simp; omega))) (ha_cons (has_own_n (n := ts.length) 2 rfl (by simp)) <| ha_nil)) rfl rfl ?_
      refine r_sd (sd_move rfl rfl) rfl rfl ?_
      refine r_sd (sd_extract rfl rfl rfl) rfl rfl ?_
      refine r_sd (sd_extract rfl rfl rfl) rfl rfl ?_
      refine r_sd (sd_assign rfl rfl) rfl rfl ?_
      refine r_sd (sd_assign rfl rfl) rfl rfl ?_
      refine r_nil ?_
      refine k_then (hK19 _ _ _ ?_)
      refine w_seq fun K20 hK20 => ?_
      refine w_region ?_
      refine r_sd (sd_ldn rfl rfl tk24 (at_blk (vs := (TrackV.cells (TrackV.mk (Slc.mk tsA ts.length tsC)))) 4 rfl rfl) rfl) rfl rfl ?_
      refine r_sd (sd_ldn rfl rfl tk28 (at_blk (vs := (SledV.cells s)) 3 rfl rfl) rfl) rfl rfl ?_
      refine r_sd (sd_call rfl rfl rfl rfl (rSafe_c ts tsA tsC s (by first | assumption | omega | (simp; done) | (simp; omega)) (by first | assumption | omega | (simp; done) | (simp; omega)) (by first | assumption | omega | (simp; done) | (simp; omega))) (ha_at 5 rfl rfl <| ha_nil)) rfl rfl ?_
      refine r_sd (sd_move rfl rfl) rfl rfl ?_
      refine r_sd (sd_extract rfl rfl rfl) rfl rfl ?_
      refine r_sd (sd_extract rfl rfl rfl) rfl rfl ?_
      refine r_sd (sd_assign rfl rfl) rfl rfl ?_
      refine r_sd (sd_assign rfl rfl) rfl rfl ?_
      refine r_nil ?_
      refine k_then (hK20 _ _ _ ?_)
      refine w_seq fun K21 hK21 => ?_
      refine w_region ?_
      refine r_sd (sd_ldn rfl rfl tk24 (at_blk (vs := (TrackV.cells (TrackV.mk (Slc.mk a13 ts.length c14)))) 0 rfl rfl) rfl) rfl rfl ?_
      refine r_sd (sd_ldn rfl rfl tk28 (at_blk (vs := (SledV.cells s)) 3 rfl rfl) rfl) rfl rfl ?_
      refine r_sd (sd_call rfl rfl rfl rfl (names_c ts a13 c14 s (by first | assumption | omega | (simp; done) | (simp; omega)) (by first | assumption | omega | (simp; done) | (simp; omega))) (ha_cons (has_own_n (n := ts.length) 2 rfl (by simp)) <| ha_nil)) rfl rfl ?_
      refine r_sd (sd_move rfl rfl) rfl rfl ?_
      refine r_sd (sd_extract rfl rfl rfl) rfl rfl ?_
      refine r_sd (sd_extract rfl rfl rfl) rfl rfl ?_
      refine r_sd (sd_extract rfl rfl rfl) rfl rfl ?_
      refine r_sd (sd_assign rfl rfl) rfl rfl ?_
      refine r_sd (sd_assign rfl rfl) rfl rfl ?_
      refine r_sd (sd_assign rfl rfl) rfl rfl ?_
      refine r_nil ?_
      refine k_then (hK21 _ _ _ ?_)
      refine w_seq fun K22 hK22 => ?_
      refine w_region ?_
      refine r_sd (sd_ldn rfl rfl tk24 (at_blk (vs := (TrackV.cells (TrackV.mk (Slc.mk tsA ts.length tsC)))) 4 rfl rfl) rfl) rfl rfl ?_
      refine r_sd (sd_ldn rfl rfl tk28 (at_blk (vs := (SledV.cells s)) 3 rfl rfl) rfl) rfl rfl ?_
      refine r_sd (sd_call rfl rfl rfl rfl (rNames_c ts tsA tsC s (by first | assumption | omega | (simp; done) | (simp; omega)) (by first | assumption | omega | (simp; done) | (simp; omega)) (by first | assumption | omega | (simp; done) | (simp; omega))) (ha_at 5 rfl rfl <| ha_nil)) rfl rfl ?_
      refine r_sd (sd_move rfl rfl) rfl rfl ?_
      refine r_sd (sd_extract rfl rfl rfl) rfl rfl ?_
      refine r_sd (sd_extract rfl rfl rfl) rfl rfl ?_
      refine r_sd (sd_extract rfl rfl rfl) rfl rfl ?_
      refine r_sd (sd_assign rfl rfl) rfl rfl ?_
      refine r_sd (sd_assign rfl rfl) rfl rfl ?_
      refine r_sd (sd_assign rfl rfl) rfl rfl ?_
      refine r_nil ?_
      refine k_then (hK22 _ _ _ ?_)
      refine w_seq fun K23 hK23 => ?_
      refine w_region ?_
      refine r_sd (sd_ldn rfl rfl tk24 (at_blk (vs := (TrackV.cells (TrackV.mk (Slc.mk a13 ts.length c14)))) 0 rfl rfl) rfl) rfl rfl ?_
      refine r_sd (sd_ldn rfl rfl tk28 (at_blk (vs := (SledV.cells s)) 3 rfl rfl) rfl) rfl rfl ?_
      refine r_sd (sd_call rfl rfl rfl rfl (start_c ts a13 c14 s (by first | assumption | omega | (simp; done) | (simp; omega)) (by first | assumption | omega | (simp; done) | (simp; omega))) (ha_cons (has_own_n (n := ts.length) 2 rfl (by simp)) <| ha_nil)) rfl rfl ?_
      refine r_sd (sd_move rfl rfl) rfl rfl ?_
      refine r_sd (sd_extract rfl rfl rfl) rfl rfl ?_
      refine r_sd (sd_extract rfl rfl rfl) rfl rfl ?_
      refine r_sd (sd_assign rfl rfl) rfl rfl ?_
      refine r_sd (sd_assign rfl rfl) rfl rfl ?_
      refine r_nil ?_
      refine k_then (hK23 _ _ _ ?_)
      refine w_seq fun K24 hK24 => ?_
      refine w_region ?_
      refine r_sd (sd_ldn rfl rfl tk24 (at_blk (vs := (TrackV.cells (TrackV.mk (Slc.mk tsA ts.length tsC)))) 4 rfl rfl) rfl) rfl rfl ?_
      refine r_sd (sd_ldn rfl rfl tk28 (at_blk (vs := (SledV.cells s)) 3 rfl rfl) rfl) rfl rfl ?_
      refine r_sd (sd_call rfl rfl rfl rfl (rStart_c ts tsA tsC s (by first | assumption | omega | (simp; done) | (simp; omega)) (by first | assumption | omega | (simp; done) | (simp; omega)) (by first | assumption | omega | (simp; done) | (simp; omega))) (ha_at 5 rfl rfl <| ha_nil)) rfl rfl ?_
      refine r_sd (sd_move rfl rfl) rfl rfl ?_
      refine r_sd (sd_extract rfl rfl rfl) rfl rfl ?_
      refine r_sd (sd_extract rfl rfl rfl) rfl rfl ?_
      refine r_sd (sd_assign rfl rfl) rfl rfl ?_
      refine r_sd (sd_assign rfl rfl) rfl rfl ?_
      refine r_nil ?_
      refine k_then (hK24 _ _ _ ?_)
      refine w_seq fun K25 hK25 => ?_
      refine w_region ?_
      refine r_sd (sd_ldn rfl rfl tk24 (at_blk (vs := (TrackV.cells (TrackV.mk (Slc.mk a13 ts.length c14)))) 0 rfl rfl) rfl) rfl rfl ?_
      refine r_sd (sd_ldn rfl rfl tk28 (at_blk (vs := (SledV.cells s)) 3 rfl rfl) rfl) rfl rfl ?_
      refine r_call rfl rfl rfl rfl (walls_c ts a13 c14 s (by first | assumption | omega | (simp; done) | (simp; omega)) (by first | assumption | omega | (simp; done) | (simp; omega))) (ha_cons (has_own_n (n := ts.length) 2 rfl (by simp)) <| ha_nil) rfl (fun y26 hy27 => ?_)
      obtain ⟨a28, c29⟩ := y26
      change RJ _ _ _ _ _ ((_, (Value.tuple [(Value.slice a28 ((wallsU s ts).length) c29), (Value.int .i64 (bothE s ts))].toArray)) :: _) ((own a28 c29 3 1 ((wallsU s ts).map iC)) :: _)
      refine r_sd (sd_move rfl rfl) rfl rfl ?_
      refine r_sd (sd_extract rfl rfl rfl) rfl rfl ?_
      refine r_sd (sd_extract rfl rfl rfl) rfl rfl ?_
      refine r_sd (sd_assign rfl rfl) rfl rfl ?_
      refine r_sd (sd_assign rfl rfl) rfl rfl ?_
      refine r_nil ?_
      refine k_then (hK25 _ _ _ ?_)
      refine w_seq fun K30 hK30 => ?_
      refine w_region ?_
      refine r_sd (sd_ldn rfl rfl tk24 (at_blk (vs := (TrackV.cells (TrackV.mk (Slc.mk tsA ts.length tsC)))) 5 rfl rfl) rfl) rfl rfl ?_
      refine r_sd (sd_ldn rfl rfl tk28 (at_blk (vs := (SledV.cells s)) 4 rfl rfl) rfl) rfl rfl ?_
      refine r_call rfl rfl rfl rfl (rWalls_c ts tsA tsC s (by first | assumption | omega | (simp; done) | (simp; omega)) (by first | assumption | omega | (simp; done) | (simp; omega)) (by first | assumption | omega | (simp; done) | (simp; omega))) (ha_at 6 rfl rfl <| ha_nil) rfl (fun y31 hy32 => ?_)
      obtain ⟨a33, c34⟩ := y31
      change RJ _ _ _ _ _ ((_, (Value.tuple [(Value.slice a33 ((wallsU s ts).length) c34), (Value.int .i64 (bothE s ts))].toArray)) :: _) ((own a33 c34 3 1 ((wallsU s ts).map iC)) :: _)
      refine r_sd (sd_move rfl rfl) rfl rfl ?_
      refine r_sd (sd_extract rfl rfl rfl) rfl rfl ?_
      refine r_sd (sd_extract rfl rfl rfl) rfl rfl ?_
      refine r_sd (sd_assign rfl rfl) rfl rfl ?_
      refine r_sd (sd_assign rfl rfl) rfl rfl ?_
      refine r_nil ?_
      refine k_then (hK30 _ _ _ ?_)
      refine w_seq fun K35 hK35 => ?_
      refine w_region ?_
      refine r_sd (sd_ldn rfl rfl tk24 (at_blk (vs := (TrackV.cells (TrackV.mk (Slc.mk a13 ts.length c14)))) 2 rfl rfl) rfl) rfl rfl ?_
      refine r_sd (sd_move rfl rfl) rfl rfl ?_
      refine r_call rfl rfl rfl rfl (shut_c ts a13 c14 all a16 c17 (by first | assumption | omega | (simp; done) | (simp; omega)) (by first | assumption | omega | (simp; done) | (simp; omega))) (ha_cons (has_own_n (n := ts.length) 4 rfl (by simp)) <| ha_cons (has_own_n (n := all.length) 3 rfl (by simp)) <| ha_nil) rfl (fun y36 hy37 => ?_)
      obtain ⟨a38, c39⟩ := y36
      change RJ _ _ _ _ _ ((_, (Value.tuple [(Value.slice a38 ((shutU ts all).length) c39), (Value.int .i64 (shutE ts all))].toArray)) :: _) ((own a38 c39 3 1 ((shutU ts all).map iC)) :: _)
      refine r_sd (sd_move rfl rfl) rfl rfl ?_
      refine r_sd (sd_extract rfl rfl rfl) rfl rfl ?_
      refine r_sd (sd_extract rfl rfl rfl) rfl rfl ?_
      refine r_sd (sd_assign rfl rfl) rfl rfl ?_
      refine r_sd (sd_assign rfl rfl) rfl rfl ?_
      refine r_nil ?_
      refine k_then (hK35 _ _ _ ?_)
      refine w_seq fun K40 hK40 => ?_
      refine w_region ?_
      refine r_sd (sd_ldn rfl rfl tk24 (at_blk (vs := (TrackV.cells (TrackV.mk (Slc.mk tsA ts.length tsC)))) 7 rfl rfl) rfl) rfl rfl ?_
      refine r_sd (sd_move rfl rfl) rfl rfl ?_
      refine r_call rfl rfl rfl rfl (rShut_c ts tsA tsC all allA allC (by first | assumption | omega | (simp; done) | (simp; omega)) (by first | assumption | omega | (simp; done) | (simp; omega)) (by first | assumption | omega | (simp; done) | (simp; omega))) (ha_at 8 rfl rfl <| ha_at 9 rfl rfl <| ha_nil) rfl (fun y41 hy42 => ?_)
      obtain ⟨a43, c44⟩ := y41
      change RJ _ _ _ _ _ ((_, (Value.tuple [(Value.slice a43 ((shutU ts all).length) c44), (Value.int .i64 (shutE ts all))].toArray)) :: _) ((own a43 c44 3 1 ((shutU ts all).map iC)) :: _)
      refine r_sd (sd_move rfl rfl) rfl rfl ?_
      refine r_sd (sd_extract rfl rfl rfl) rfl rfl ?_
      refine r_sd (sd_extract rfl rfl rfl) rfl rfl ?_
      refine r_sd (sd_assign rfl rfl) rfl rfl ?_
      refine r_sd (sd_assign rfl rfl) rfl rfl ?_
      refine r_nil ?_
      refine k_then (hK40 _ _ _ ?_)
      refine w_seq fun K45 hK45 => ?_
      refine w_seq fun K46 hK46 => ?_
      refine w_region ?_
      refine r_sd (sd_move rfl rfl) rfl rfl ?_
      refine r_sd (sd_len rfl rfl ut50) rfl rfl ?_
      refine r_sd (sd_move rfl rfl) rfl rfl ?_
      refine r_nil ?_
      refine k_then (hK46 _ _ _ ?_)
      refine w_block ?_
      have hinit : (0 ≤ all.length) := by exact Nat.zero_le _
      refine w_loop (ι := { z : Nat // (z ≤ all.length) }) (fun z => [(2, (Value.slice allA all.length allC)), (3, (Value.pointer (some ⟨b2, 0, none⟩))), (4, (Value.pointer (some ⟨b3, 0, none⟩))), (7, (Value.pointer (some ⟨b18, 0, none⟩))), (8, (Value.slice a16 all.length c17)), (9, (Value.int .u8 (safeV s ts))), (10, (Value.int .i64 (bothE s ts))), (11, (Value.int .u8 (safeV s ts))), (12, (Value.int .i64 (bothE s ts))), (13, (Value.int .i64 (namesC s ts))), (14, (Value.int .i64 (namesV s ts))), (15, (Value.int .i64 (namesE s ts))), (16, (Value.int .i64 (namesC s ts))), (17, (Value.int .i64 (namesV s ts))), (18, (Value.int .i64 (namesE s ts))), (19, (Value.int .i64 (startV s ts))), (20, (Value.int .i64 (startE s ts))), (21, (Value.int .i64 (startV s ts))), (22, (Value.int .i64 (startE s ts))), (23, (Value.slice a28 ((wallsU s ts).length) c29)), (24, (Value.int .i64 (bothE s ts))), (25, (Value.slice a33 ((wallsU s ts).length) c34)), (26, (Value.int .i64 (bothE s ts))), (27, (Value.slice a38 ((shutU ts all).length) c39)), (28, (Value.int .i64 (shutE ts all))), (29, (Value.slice a43 ((shutU ts all).length) c44)), (30, (Value.int .i64 (shutE ts all))), (107, (Value.int .i64 ((all.length : Nat) : Int))), (108, (Value.int .i64 ((z.1 : Nat) : Int)))]) (fun z => [(own a43 c44 3 1 ((shutU ts all).map iC)), (own a38 c39 3 1 ((shutU ts all).map iC)), (own a33 c34 3 1 ((wallsU s ts).map iC)), (own a28 c29 3 1 ((wallsU s ts).map iC)), (blk b18 24 (TrackV.cells (TrackV.mk (Slc.mk a13 ts.length c14)))), (own a16 c17 28 11 (List.map SledV.cells all)), (own a13 c14 77 9 (ts.map StretchV.cells)), (blk b3 28 (SledV.cells s)), (blk b2 24 (TrackV.cells (TrackV.mk (Slc.mk tsA ts.length tsC)))), (rd tsA ts.length 9 (ts.map StretchV.cells)).ro, (rd allA all.length 11 (all.map SledV.cells)).ro]) (fun z => all.length - z.1) ⟨0, hinit⟩ (Sub.cons rfl <| Sub.cons rfl <| Sub.cons rfl <| Sub.cons rfl <| Sub.cons rfl <| Sub.cons rfl <| Sub.cons rfl <| Sub.cons rfl <| Sub.cons rfl <| Sub.cons rfl <| Sub.cons rfl <| Sub.cons rfl <| Sub.cons rfl <| Sub.cons rfl <| Sub.cons rfl <| Sub.cons rfl <| Sub.cons rfl <| Sub.cons rfl <| Sub.cons rfl <| Sub.cons rfl <| Sub.cons rfl <| Sub.cons rfl <| Sub.cons rfl <| Sub.cons rfl <| Sub.cons rfl <| Sub.cons rfl <| Sub.cons rfl <| Sub.cons rfl <| Sub.cons rfl <| Sub.nil _) (fun w hs => St.sel [0, 1, 2, 3, 4, 5, 6, 7, 8, 9, 10] rfl rfl hs) ?_
      clear hinit
      rintro ⟨i, hl15_0⟩ J47 hJ47
      change WJ _ _ _ _ [(2, (Value.slice allA all.length allC)), (3, (Value.pointer (some ⟨b2, 0, none⟩))), (4, (Value.pointer (some ⟨b3, 0, none⟩))), (7, (Value.pointer (some ⟨b18, 0, none⟩))), (8, (Value.slice a16 all.length c17)), (9, (Value.int .u8 (safeV s ts))), (10, (Value.int .i64 (bothE s ts))), (11, (Value.int .u8 (safeV s ts))), (12, (Value.int .i64 (bothE s ts))), (13, (Value.int .i64 (namesC s ts))), (14, (Value.int .i64 (namesV s ts))), (15, (Value.int .i64 (namesE s ts))), (16, (Value.int .i64 (namesC s ts))), (17, (Value.int .i64 (namesV s ts))), (18, (Value.int .i64 (namesE s ts))), (19, (Value.int .i64 (startV s ts))), (20, (Value.int .i64 (startE s ts))), (21, (Value.int .i64 (startV s ts))), (22, (Value.int .i64 (startE s ts))), (23, (Value.slice a28 ((wallsU s ts).length) c29)), (24, (Value.int .i64 (bothE s ts))), (25, (Value.slice a33 ((wallsU s ts).length) c34)), (26, (Value.int .i64 (bothE s ts))), (27, (Value.slice a38 ((shutU ts all).length) c39)), (28, (Value.int .i64 (shutE ts all))), (29, (Value.slice a43 ((shutU ts all).length) c44)), (30, (Value.int .i64 (shutE ts all))), (107, (Value.int .i64 ((all.length : Nat) : Int))), (108, (Value.int .i64 ((i : Nat) : Int)))] [(own a43 c44 3 1 ((shutU ts all).map iC)), (own a38 c39 3 1 ((shutU ts all).map iC)), (own a33 c34 3 1 ((wallsU s ts).map iC)), (own a28 c29 3 1 ((wallsU s ts).map iC)), (blk b18 24 (TrackV.cells (TrackV.mk (Slc.mk a13 ts.length c14)))), (own a16 c17 28 11 (List.map SledV.cells all)), (own a13 c14 77 9 (ts.map StretchV.cells)), (blk b3 28 (SledV.cells s)), (blk b2 24 (TrackV.cells (TrackV.mk (Slc.mk tsA ts.length tsC)))), (rd tsA ts.length 9 (ts.map StretchV.cells)).ro, (rd allA all.length 11 (all.map SledV.cells)).ro]
      refine w_seq fun K48 hK48 => ?_
      refine w_region ?_
      refine r_sd (sd_bin rfl rfl rfl b_lss) rfl rfl ?_
      refine r_nil ?_
      refine k_then (hK48 _ _ _ ?_)
      refine w_seq fun K49 hK49 => ?_
      refine w_if rfl (fun h50 => ?_) (fun h50 => ?_)
      · -- yes
        replace h50 := of_decide_eq_true h50
        refine w_skip ?_
        refine k_then (hK49 _ _ _ ?_)
        refine w_seq fun K51 hK51 => ?_
        refine w_block ?_
        refine w_seq fun K52 hK52 => ?_
        refine w_region ?_
        refine r_sd (sd_move rfl rfl) rfl rfl ?_
        refine r_sd (sd_assign rfl rfl) rfl rfl ?_
        refine r_nil ?_
        refine k_then (hK52 _ _ _ ?_)
        refine w_seq fun K53 hK53 => ?_
        refine w_draw mixed 9 (by kernel_rfl) ?_
        refine d_sd (sd_move rfl rfl) rfl rfl ?_
        refine d_sd (sd_move rfl rfl) rfl rfl ?_
        obtain ⟨p, hp⟩ : ∃ y_, all[i]? = some y_ := ⟨all[i]'(by omega), List.getElem?_eq_getElem _⟩
        have hpm : (List.map SledV.cells all)[i]? = some (SledV.cells p) := by rw [List.getElem?_map, hp]; rfl
        refine d_sd (sd_ia (k := i) rfl rfl rfl (has_own_n (n := all.length) 5 rfl (by simp)) te50 (by decide) (by omega) (by omega)) rfl rfl ?_
        refine d_sd (sd_ldn rfl rfl tk28 (at_rd (k := i) (o := 0) (vs := (SledV.cells p)) (has_own_n (n := all.length) 5 rfl (by simp)) hpm rfl (by decide) rfl) rfl) rfl rfl ?_
        refine d_sd (sd_move rfl rfl) rfl rfl ?_
        refine d_sd (sd_move rfl rfl) rfl rfl ?_
        obtain ⟨q, hq⟩ : ∃ y_, all[i]? = some y_ := ⟨all[i]'(by omega), List.getElem?_eq_getElem _⟩
        have hqm : (all.map SledV.cells)[i]? = some (SledV.cells q) := by rw [List.getElem?_map, hq]; rfl
        refine d_sd (sd_ia (k := i) rfl rfl rfl (has_at 10 rfl) te50 (by decide) (by omega) (by omega)) rfl rfl ?_
        refine d_sd (sd_ldn rfl rfl tk28 (at_rd (k := i) (o := 0) (vs := (SledV.cells q)) (has_at 10 rfl) hqm rfl (by decide) rfl) rfl) rfl rfl ?_
        refine d_sd (sd_bin rfl rfl rfl (nes28 _ _ p q)) rfl rfl ?_
        refine d_end ?_
        refine r_nil ?_
        refine k_then (hK53 _ _ _ ?_)
        refine w_if rfl (fun hpq => ?_) (fun hpq => ?_)
        · -- yes
          rw [Bool.not_eq_true'] at hpq
          replace hpq := of_decide_eq_false hpq
          exact absurd (Option.some.inj (hp.symm.trans hq)) hpq
        · -- no
          rw [Bool.not_eq_false'] at hpq
          replace hpq := of_decide_eq_true hpq
          refine w_skip ?_
          refine k_block ?_
          refine k_then (hK51 _ _ _ ?_)
          refine w_region ?_
          refine r_sd (sd_bin rfl rfl rfl (b_add ⟨by omega, by omega⟩)) rfl rfl ?_
          refine r_sd (sd_move rfl rfl) rfl rfl ?_
          refine r_nil ?_
          have hb54 : (Value.int .i64 (((i + 1) : Nat) : Int)) = (Value.int .i64 (((i : Nat) : Int) + 1)) := by exact congrArg (Value.int .i64) (by omega)
          refine k_then (hJ47 ⟨(i + 1), (by first | omega | (simp only []; omega))⟩ _ _ _ rfl (by first | omega | (simp; omega)) (Sub.cons rfl <| Sub.cons rfl <| Sub.cons rfl <| Sub.cons rfl <| Sub.cons rfl <| Sub.cons rfl <| Sub.cons rfl <| Sub.cons rfl <| Sub.cons rfl <| Sub.cons rfl <| Sub.cons rfl <| Sub.cons rfl <| Sub.cons rfl <| Sub.cons rfl <| Sub.cons rfl <| Sub.cons rfl <| Sub.cons rfl <| Sub.cons rfl <| Sub.cons rfl <| Sub.cons rfl <| Sub.cons rfl <| Sub.cons rfl <| Sub.cons rfl <| Sub.cons rfl <| Sub.cons rfl <| Sub.cons rfl <| Sub.cons rfl <| Sub.cons rfl <| sub_val rfl hb54 <| Sub.nil _) (fun w hs => St.sel [0, 1, 2, 3, 4, 5, 6, 7, 8, 9, 10] rfl rfl hs))
      · -- no
        replace h50 := of_decide_eq_false h50
        refine w_exit ?_
        refine k_exit_then ?_
        refine k_exit_then ?_
        refine k_exit_same ?_
        refine k_then (hK45 _ _ _ ?_)
        refine w_seq fun K55 hK55 => ?_
        refine w_region ?_
        refine r_sd (sd_move rfl rfl) rfl rfl ?_
        refine r_sd (sd_move rfl rfl) rfl rfl ?_
        refine r_sd (sd_bin rfl rfl rfl b_eql) rfl rfl ?_
        refine r_sd (sd_move rfl rfl) rfl rfl ?_
        refine r_bool (t := 124) rfl (fun h56 => ?_) (fun h56 => ?_)
        · -- yes
          replace h56 := of_decide_eq_true h56
          refine r_sd (sd_move rfl rfl) rfl rfl ?_
          refine r_sd (sd_move rfl rfl) rfl rfl ?_
          refine r_sd (sd_bin rfl rfl rfl b_eql) rfl rfl ?_
          refine r_sd (sd_pick_t rfl rfl rfl) rfl rfl ?_
          refine r_sd (sd_move rfl rfl) rfl rfl ?_
          refine r_bool (t := 129) rfl (fun h57 => ?_) (fun h57 => ?_)
          · -- yes
            replace h57 := of_decide_eq_true h57
            refine r_sd (sd_move rfl rfl) rfl rfl ?_
            refine r_sd (sd_move rfl rfl) rfl rfl ?_
            refine r_sd (sd_bin rfl rfl rfl b_eql) rfl rfl ?_
            refine r_sd (sd_pick_t rfl rfl rfl) rfl rfl ?_
            refine r_sd (sd_move rfl rfl) rfl rfl ?_
            refine r_bool (t := 134) rfl (fun h58 => ?_) (fun h58 => ?_)
            · -- yes
              replace h58 := of_decide_eq_true h58
              refine r_sd (sd_move rfl rfl) rfl rfl ?_
              refine r_sd (sd_move rfl rfl) rfl rfl ?_
              refine r_sd (sd_bin rfl rfl rfl b_eql) rfl rfl ?_
              refine r_sd (sd_pick_t rfl rfl rfl) rfl rfl ?_
              refine r_sd (sd_move rfl rfl) rfl rfl ?_
              refine r_bool (t := 139) rfl (fun h59 => ?_) (fun h59 => ?_)
              · -- yes
                replace h59 := of_decide_eq_true h59
                refine r_sd (sd_move rfl rfl) rfl rfl ?_
                refine r_sd (sd_move rfl rfl) rfl rfl ?_
                refine r_sd (sd_bin rfl rfl rfl b_eql) rfl rfl ?_
                refine r_sd (sd_pick_t rfl rfl rfl) rfl rfl ?_
                refine r_sd (sd_move rfl rfl) rfl rfl ?_
                refine r_bool (t := 144) rfl (fun h60 => ?_) (fun h60 => ?_)
                · -- yes
                  replace h60 := of_decide_eq_true h60
                  refine r_sd (sd_move rfl rfl) rfl rfl ?_
                  refine r_sd (sd_move rfl rfl) rfl rfl ?_
                  refine r_sd (sd_bin rfl rfl rfl b_eql) rfl rfl ?_
                  refine r_sd (sd_pick_t rfl rfl rfl) rfl rfl ?_
                  refine r_sd (sd_move rfl rfl) rfl rfl ?_
                  refine r_bool (t := 149) rfl (fun h61 => ?_) (fun h61 => ?_)
                  · -- yes
                    replace h61 := of_decide_eq_true h61
                    refine r_sd (sd_move rfl rfl) rfl rfl ?_
                    refine r_sd (sd_move rfl rfl) rfl rfl ?_
                    refine r_sd (sd_bin rfl rfl rfl b_eql) rfl rfl ?_
                    refine r_sd (sd_pick_t rfl rfl rfl) rfl rfl ?_
                    refine r_sd (sd_move rfl rfl) rfl rfl ?_
                    refine r_bool (t := 154) rfl (fun h62 => ?_) (fun h62 => ?_)
                    · -- yes
                      replace h62 := of_decide_eq_true h62
                      refine r_sd (sd_move rfl rfl) rfl rfl ?_
                      refine r_sd (sd_move rfl rfl) rfl rfl ?_
                      have hwl := wallsU_len (s := s) (ts := ts)
                      refine r_sd (sd_call rfl rfl rfl rfl (sameints_c (wallsU s ts) a28 c29 (wallsU s ts) a33 c34 (by first | assumption | omega | (simp; done) | (simp; omega)) (by first | assumption | omega | (simp; done) | (simp; omega))) (ha_cons (has_own_n (n := (wallsU s ts).length) 3 rfl (by simp)) <| ha_cons (has_own_n (n := (wallsU s ts).length) 2 rfl (by simp)) <| ha_nil)) rfl rfl ?_
                      refine r_sd (sd_pick_t rfl rfl rfl) rfl rfl ?_
                      refine r_sd (sd_move rfl rfl) rfl rfl ?_
                      refine r_bool (t := 159) rfl (fun h63 => ?_) (fun h63 => ?_)
                      · -- yes
                        replace h63 := of_decide_eq_true h63
                        refine r_sd (sd_move rfl rfl) rfl rfl ?_
                        refine r_sd (sd_move rfl rfl) rfl rfl ?_
                        refine r_sd (sd_bin rfl rfl rfl b_eql) rfl rfl ?_
                        refine r_sd (sd_pick_t rfl rfl rfl) rfl rfl ?_
                        refine r_sd (sd_move rfl rfl) rfl rfl ?_
                        refine r_bool (t := 164) rfl (fun h64 => ?_) (fun h64 => ?_)
                        · -- yes
                          replace h64 := of_decide_eq_true h64
                          refine r_sd (sd_move rfl rfl) rfl rfl ?_
                          refine r_sd (sd_move rfl rfl) rfl rfl ?_
                          have hsl := shutU_len (ts := ts) (l := all)
                          refine r_sd (sd_call rfl rfl rfl rfl (sameints_c (shutU ts all) a38 c39 (shutU ts all) a43 c44 (by first | assumption | omega | (simp; done) | (simp; omega)) (by first | assumption | omega | (simp; done) | (simp; omega))) (ha_cons (has_own_n (n := (shutU ts all).length) 1 rfl (by simp)) <| ha_cons (has_own_n (n := (shutU ts all).length) 0 rfl (by simp)) <| ha_nil)) rfl rfl ?_
                          refine r_sd (sd_pick_t rfl rfl rfl) rfl rfl ?_
                          refine r_sd (sd_move rfl rfl) rfl rfl ?_
                          refine r_bool (t := 169) rfl (fun h65 => ?_) (fun h65 => ?_)
                          · -- yes
                            replace h65 := of_decide_eq_true h65
                            refine r_sd (sd_move rfl rfl) rfl rfl ?_
                            refine r_sd (sd_move rfl rfl) rfl rfl ?_
                            refine r_sd (sd_bin rfl rfl rfl b_eql) rfl rfl ?_
                            refine r_sd (sd_pick_t rfl rfl rfl) rfl rfl ?_
                            refine r_sd (sd_move rfl rfl) rfl rfl ?_
                            refine r_bool (t := 174) rfl (fun h66 => ?_) (fun h66 => ?_)
                            · -- yes
                              replace h66 := of_decide_eq_true h66
                              refine r_sd (sd_ldn rfl rfl tk24 (at_blk (vs := (TrackV.cells (TrackV.mk (Slc.mk a13 ts.length c14)))) 4 rfl rfl) rfl) rfl rfl ?_
                              refine r_sd (sd_ldn rfl rfl tk24 (at_blk (vs := (TrackV.cells (TrackV.mk (Slc.mk tsA ts.length tsC)))) 8 rfl rfl) rfl) rfl rfl ?_
                              refine r_sd (sd_call rfl rfl rfl rfl (same_c ts a13 c14 ts tsA tsC (by first | assumption | omega | (simp; done) | (simp; omega)) (by first | assumption | omega | (simp; done) | (simp; omega))) (ha_cons (has_own_n (n := ts.length) 6 rfl (by simp)) <| ha_at 9 rfl rfl <| ha_nil)) rfl rfl ?_
                              refine r_sd (sd_pick_t rfl rfl rfl) rfl rfl ?_
                              refine r_sd (sd_assign rfl rfl) rfl rfl ?_
                              refine r_nil ?_
                              refine k_then (hK55 _ _ _ ?_)
                              refine w_ret ?_
                              refine hQ _ _ _ (l_nil (vs := [(Value.bool (decide (ts = ts)))]) ⟨rfl, trivial⟩ fun w hs => endV ?_ hs)
                              show (Value.bool (decide (ts = ts))) = (Value.bool true)
                              clear hs w hQ hN hK55 K55 hK49 K49 hK48 K48 hK46 K46 hK45 K45 hK40 K40 hK35 K35 hK30 K30 hK25 K25 hK24 K24 hK23 K23 hK22 K22 hK21 K21 hK20 K20 hK19 K19 hK10 K10 hK5 K5 hK4 K4 hK1 K1
                              first | rfl | simp
                            · -- no
                              replace h66 := of_decide_eq_false h66
                              exact absurd rfl h66
                          · -- no
                            replace h65 := of_decide_eq_false h65
                            exact absurd rfl h65
                        · -- no
                          replace h64 := of_decide_eq_false h64
                          exact absurd rfl h64
                      · -- no
                        replace h63 := of_decide_eq_false h63
                        exact absurd rfl h63
                    · -- no
                      replace h62 := of_decide_eq_false h62
                      exact absurd rfl h62
                  · -- no
                    replace h61 := of_decide_eq_false h61
                    exact absurd rfl h61
                · -- no
                  replace h60 := of_decide_eq_false h60
                  exact absurd rfl h60
              · -- no
                replace h59 := of_decide_eq_false h59
                exact absurd rfl h59
            · -- no
              replace h58 := of_decide_eq_false h58
              exact absurd rfl h58
          · -- no
            replace h57 := of_decide_eq_false h57
            exact absurd rfl h57
        · -- no
          replace h56 := of_decide_eq_false h56
          exact absurd rfl h56

end Go.Proofs.Ytpbgdeojcefnmaa
