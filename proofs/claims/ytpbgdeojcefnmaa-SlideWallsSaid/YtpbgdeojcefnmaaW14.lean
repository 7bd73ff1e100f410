/-
  Walks: kreisel/kreiselref01.Twin, kreisel/kreisellaw03.SlideHeads
-/
import Derived.Test.YtpbgdeojcefnmaaTab
import Derived.Test.YtpbgdeojcefnmaaSort
import Derived.Test.YtpbgdeojcefnmaaW1
import Derived.Test.YtpbgdeojcefnmaaW3
import Derived.Test.YtpbgdeojcefnmaaW6
import Derived.Test.YtpbgdeojcefnmaaW10
import Derived.Test.YtpbgdeojcefnmaaW11
import Derived.Test.YtpbgdeojcefnmaaW12
import Derived.Test.YtpbgdeojcefnmaaW13
namespace Go.Proofs.Ytpbgdeojcefnmaa
open Go.RowKit
set_option linter.unusedVariables false

set_option maxRecDepth 100000 in
set_option maxHeartbeats 400000 in
theorem twin_c (ts : List StretchV) (tsA : Option Addr) (tsC : Nat) (hlen : ts.length ≤ 1000000) :
    FnX Try.prog 17 [(Value.agg (TrackV.cells (TrackV.mk (Slc.mk tsA ts.length tsC))).toArray)] [(rd tsA ts.length 9 (ts.map StretchV.cells))] (fun (x : (Option Addr) × Nat) => (Value.agg (TrackV.cells (TrackV.mk (Slc.mk x.1 ts.length x.2))).toArray)) (fun (x : (Option Addr) × Nat) => True) (fun (x : (Option Addr) × Nat) => [(own x.1 x.2 77 9 (ts.map StretchV.cells))]) := by
  refine fnX_of go17 Try.func17 rfl rfl fun w0 Q hQ hN => ?_
  change WJ _ _ _ _ [(0, (Value.agg (TrackV.cells (TrackV.mk (Slc.mk tsA ts.length tsC))).toArray))] [(rd tsA ts.length 9 (ts.map StretchV.cells)).ro]
  refine w_seq fun K1 hK1 => ?_
  refine w_region ?_
  refine r_box (cs := (TrackV.cells (TrackV.mk (Slc.mk tsA ts.length tsC)))) rfl rfl rfl rfl fun b2 => ?_
  refine r_alloc rfl tz24 rfl fun b3 => ?_
  refine r_nil ?_
  refine k_then (hK1 _ _ _ ?_)
  refine w_seq fun K4 hK4 => ?_
  refine w_region ?_
  refine r_bs0 rfl te22 rfl fun b5 => ?_
  refine r_sd (sd_fa (o' := 0) rfl rfl fo24_0 rfl) rfl rfl ?_
  refine r_sd (sd_ld1 rfl rfl tk22 (at_blk (vs := [(Value.slice tsA ts.length tsC)]) 2 rfl rfl)) rfl rfl ?_
  refine r_blk_own (es := (List.map StretchV.cells [])) (C' := [own (some ⟨b5, 0, none⟩) 0 77 9 (List.map StretchV.cells []), _, _, _]) 0 rfl (by simp) rfl (by simp [maxLen]) rfl ?_
  refine r_append (es2 := (List.map StretchV.cells ts)) (m' := ts.length) 0 rfl rfl rfl ta22 rfl rfl (by simp) (has_at 3 rfl) (one_StretchV_cells _) (by first | omega | (simp; omega)) (by first | (simp only [maxLen]; omega) | (simp [maxLen]; omega)) (by simp) (by simp) rfl fun a6 c7 => ?_
  change RJ _ _ _ _ _ _ [(own a6 c7 77 9 (List.map StretchV.cells ts)), _, _, _]
  refine r_sd (sd_build (xs := [(0, .tmp 6)]) (cs := (TrackV.cells (TrackV.mk (Slc.mk a6 ts.length c7)))) rfl rfl (built_of tb24 rfl)) rfl rfl ?_
  refine r_store (vs := (TrackV.cells (TrackV.mk (Slc.mk a6 ts.length c7)))) (cs' := (TrackV.cells (TrackV.mk (Slc.mk a6 ts.length c7)))) (C' := [_, (blk b3 24 (TrackV.cells (TrackV.mk (Slc.mk a6 ts.length c7)))), _, _]) 1 rfl rfl rfl ts24 rfl rfl rfl rfl rfl rfl rfl ?_
  refine r_nil ?_
  refine k_then (hK4 _ _ _ ?_)
  refine w_ret ?_
  refine hQ _ _ _ (l_nil (vs := [(Value.agg (TrackV.cells (TrackV.mk (Slc.mk a6 ts.length c7))).toArray)]) ⟨⟨_, rfl, .inl ⟨_, _, tk24, at_blk (vs := (TrackV.cells (TrackV.mk (Slc.mk a6 ts.length c7)))) 1 rfl rfl, rfl, rfl⟩⟩, trivial⟩ fun w hs => endX (a6, c7) [0] ?_ ?_ rfl rfl rfl hs)
  · rfl
  · trivial

set_option maxRecDepth 100000 in
set_option maxHeartbeats 400000 in
theorem slideHeads_c (ts : List StretchV) (tsA : Option Addr) (tsC : Nat) (s : SledV) (mark : Int) (i : Int) (hside : ∀ x ∈ ts, 0 ≤ x.Side ∧ x.Side ≤ 255) (hc : 0 ≤ s.Class ∧ s.Class ≤ 255) :
    FnV Try.prog 3 [(Value.agg (TrackV.cells (TrackV.mk (Slc.mk tsA ts.length tsC))).toArray), (Value.agg (SledV.cells s).toArray), (Value.int .i64 mark), (Value.int .i64 i)] [(rd tsA ts.length 9 (ts.map StretchV.cells))] (Value.bool true) := by
  refine fnV_of go3 Try.func3 rfl rfl fun w0 Q hQ hN => ?_
  change WJ _ _ _ _ [(0, (Value.agg (TrackV.cells (TrackV.mk (Slc.mk tsA ts.length tsC))).toArray)), (1, (Value.agg (SledV.cells s).toArray)), (2, (Value.int .i64 mark)), (3, (Value.int .i64 i))] [(rd tsA ts.length 9 (ts.map StretchV.cells)).ro]
  refine w_seq fun K1 hK1 => ?_
  refine w_region ?_
  refine r_box (cs := (TrackV.cells (TrackV.mk (Slc.mk tsA ts.length tsC)))) rfl rfl rfl rfl fun b2 => ?_
  refine r_box (cs := (SledV.cells s)) rfl rfl rfl rfl fun b3 => ?_
  refine r_sd (sd_assign rfl rfl) rfl rfl ?_
  refine r_nil ?_
  refine k_then (hK1 _ _ _ ?_)
  refine w_seq fun K4 hK4 => ?_
  refine w_seq fun K5 hK5 => ?_
  refine w_region ?_
  refine r_sd (sd_ldn rfl rfl tk24 (at_blk (vs := (TrackV.cells (TrackV.mk (Slc.mk tsA ts.length tsC)))) 1 rfl rfl) rfl) rfl rfl ?_
  refine r_sd (sd_call rfl rfl rfl rfl (great_c ts tsA tsC) (ha_at 2 rfl rfl <| ha_nil)) rfl rfl ?_
  refine r_nil ?_
  refine k_then (hK5 _ _ _ ?_)
  refine w_if rfl (fun hg => ?_) (fun hg => ?_)
  · -- yes
    replace hg := of_decide_eq_true hg
    refine w_seq fun K6 hK6 => ?_
    refine w_region ?_
    refine r_sd (sd_assign rfl rfl) rfl rfl ?_
    refine r_nil ?_
    refine k_then (hK6 _ _ _ ?_)
    refine w_ret ?_
    refine hQ _ _ _ (l_nil (vs := [(Value.bool true)]) ⟨rfl, trivial⟩ fun w hs => endV ?_ hs)
    show (Value.bool true) = (Value.bool true)
    clear hs w hQ hN hK6 K6 hK5 K5 hK4 K4 hK1 K1
    first | rfl | simp
  · -- no
    replace hg := of_decide_eq_false hg
    refine w_skip ?_
    refine k_then (hK4 _ _ _ ?_)
    refine w_seq fun K7 hK7 => ?_
    refine w_region ?_
    refine r_sd (sd_ldn rfl rfl tk24 (at_blk (vs := (TrackV.cells (TrackV.mk (Slc.mk tsA ts.length tsC)))) 1 rfl rfl) rfl) rfl rfl ?_
    refine r_call rfl rfl rfl rfl (twin_c ts tsA tsC (by first | assumption | omega | (simp; done) | (simp; omega))) (ha_at 2 rfl rfl <| ha_nil) rfl (fun y8 hy9 => ?_)
    obtain ⟨a10, c11⟩ := y8
    change RJ _ _ _ _ _ ((_, (Value.agg (TrackV.cells (TrackV.mk (Slc.mk a10 ts.length c11))).toArray)) :: _) ((own a10 c11 77 9 (ts.map StretchV.cells)) :: _)
    refine r_alloc rfl tz24 rfl fun b12 => ?_
    refine r_store (vs := (TrackV.cells (TrackV.mk (Slc.mk a10 ts.length c11)))) (cs' := (TrackV.cells (TrackV.mk (Slc.mk a10 ts.length c11)))) (C' := [(blk b12 24 (TrackV.cells (TrackV.mk (Slc.mk a10 ts.length c11)))), _, _, _, _]) 0 rfl rfl rfl ts24 rfl rfl rfl rfl rfl rfl rfl ?_
    refine r_nil ?_
    refine k_then (hK7 _ _ _ ?_)
    refine w_seq fun K13 hK13 => ?_
    refine w_region ?_
    refine r_sd (sd_ldn rfl rfl tk24 (at_blk (vs := (TrackV.cells (TrackV.mk (Slc.mk a10 ts.length c11)))) 0 rfl rfl) rfl) rfl rfl ?_
    refine r_sd (sd_ldn rfl rfl tk28 (at_blk (vs := (SledV.cells s)) 2 rfl rfl) rfl) rfl rfl ?_
    refine r_call rfl rfl rfl rfl (heads_c ts a10 c11 s (by first | assumption | omega | (simp; done) | (simp; omega)) (by first | assumption | omega | (simp; done) | (simp; omega))) (ha_cons (has_own_n (n := ts.length) 1 rfl (by simp)) <| ha_nil) rfl (fun y14 hy15 => ?_)
    obtain ⟨a16, c17⟩ := y14
    change RJ _ _ _ _ _ ((_, (Value.tuple [(Value.slice a16 ((spansU s ts).length) c17), (Value.int .i64 (bothE s ts))].toArray)) :: _) ((own a16 c17 26 2 ((spansU s ts).map SpanV.cells)) :: _)
    refine r_sd (sd_move rfl rfl) rfl rfl ?_
    refine r_sd (sd_extract rfl rfl rfl) rfl rfl ?_
    refine r_sd (sd_extract rfl rfl rfl) rfl rfl ?_
    refine r_sd (sd_assign rfl rfl) rfl rfl ?_
    refine r_sd (sd_assign rfl rfl) rfl rfl ?_
    refine r_nil ?_
    refine k_then (hK13 _ _ _ ?_)
    refine w_seq fun K18 hK18 => ?_
    refine w_region ?_
    refine r_sd (sd_ldn rfl rfl tk24 (at_blk (vs := (TrackV.cells (TrackV.mk (Slc.mk tsA ts.length tsC)))) 4 rfl rfl) rfl) rfl rfl ?_
    refine r_sd (sd_ldn rfl rfl tk28 (at_blk (vs := (SledV.cells s)) 3 rfl rfl) rfl) rfl rfl ?_
    refine r_call rfl rfl rfl rfl (rHeads_c ts tsA tsC s (by first | assumption | omega | (simp; done) | (simp; omega)) (by first | assumption | omega | (simp; done) | (simp; omega)) (by first | assumption | omega | (simp; done) | (simp; omega))) (ha_at 5 rfl rfl <| ha_nil) rfl (fun y19 hy20 => ?_)
    obtain ⟨a21, c22⟩ := y19
    change RJ _ _ _ _ _ ((_, (Value.tuple [(Value.slice a21 ((spansU s ts).length) c22), (Value.int .i64 (bothE s ts))].toArray)) :: _) ((own a21 c22 26 2 ((spansU s ts).map SpanV.cells)) :: _)
    refine r_sd (sd_move rfl rfl) rfl rfl ?_
    refine r_sd (sd_extract rfl rfl rfl) rfl rfl ?_
    refine r_sd (sd_extract rfl rfl rfl) rfl rfl ?_
    refine r_sd (sd_assign rfl rfl) rfl rfl ?_
    refine r_sd (sd_assign rfl rfl) rfl rfl ?_
    refine r_nil ?_
    refine k_then (hK18 _ _ _ ?_)
    refine w_seq fun K23 hK23 => ?_
    refine w_region ?_
    refine r_sd (sd_ldn rfl rfl tk24 (at_blk (vs := (TrackV.cells (TrackV.mk (Slc.mk a10 ts.length c11)))) 2 rfl rfl) rfl) rfl rfl ?_
    refine r_sd (sd_ldn rfl rfl tk28 (at_blk (vs := (SledV.cells s)) 4 rfl rfl) rfl) rfl rfl ?_
    refine r_sd (sd_move rfl rfl) rfl rfl ?_
    refine r_sd (sd_call rfl rfl rfl rfl (speed_c ts a10 c11 s mark (by first | assumption | omega | (simp; done) | (simp; omega)) (by first | assumption | omega | (simp; done) | (simp; omega))) (ha_cons (has_own_n (n := ts.length) 3 rfl (by simp)) <| ha_nil)) rfl rfl ?_
    refine r_sd (sd_move rfl rfl) rfl rfl ?_
    refine r_sd (sd_extract rfl rfl rfl) rfl rfl ?_
    refine r_sd (sd_extract rfl rfl rfl) rfl rfl ?_
    refine r_alloc rfl tz26 rfl fun b24 => ?_
    refine r_store (vs := (SpanV.cells (speedV s ts mark))) (cs' := (SpanV.cells (speedV s ts mark))) (C' := [(blk b24 26 (SpanV.cells (speedV s ts mark))), _, _, _, _, _, _, _]) 0 rfl rfl rfl ts26 rfl rfl rfl rfl rfl rfl rfl ?_
    refine r_sd (sd_assign rfl rfl) rfl rfl ?_
    refine r_nil ?_
    refine k_then (hK23 _ _ _ ?_)
    refine w_seq fun K25 hK25 => ?_
    refine w_region ?_
    refine r_sd (sd_ldn rfl rfl tk24 (at_blk (vs := (TrackV.cells (TrackV.mk (Slc.mk tsA ts.length tsC)))) 6 rfl rfl) rfl) rfl rfl ?_
    refine r_sd (sd_ldn rfl rfl tk28 (at_blk (vs := (SledV.cells s)) 5 rfl rfl) rfl) rfl rfl ?_
    refine r_sd (sd_move rfl rfl) rfl rfl ?_
    refine r_sd (sd_call rfl rfl rfl rfl (rSpeed_c ts tsA tsC s mark (by first | assumption | omega | (simp; done) | (simp; omega)) (by first | assumption | omega | (simp; done) | (simp; omega)) (by first | assumption | omega | (simp; done) | (simp; omega))) (ha_at 7 rfl rfl <| ha_nil)) rfl rfl ?_
    refine r_sd (sd_move rfl rfl) rfl rfl ?_
    refine r_sd (sd_extract rfl rfl rfl) rfl rfl ?_
    refine r_sd (sd_extract rfl rfl rfl) rfl rfl ?_
    refine r_alloc rfl tz26 rfl fun b26 => ?_
    refine r_store (vs := (SpanV.cells (speedV s ts mark))) (cs' := (SpanV.cells (speedV s ts mark))) (C' := [(blk b26 26 (SpanV.cells (speedV s ts mark))), _, _, _, _, _, _, _, _]) 0 rfl rfl rfl ts26 rfl rfl rfl rfl rfl rfl rfl ?_
    refine r_sd (sd_assign rfl rfl) rfl rfl ?_
    refine r_nil ?_
    refine k_then (hK25 _ _ _ ?_)
    refine w_seq fun K27 hK27 => ?_
    refine w_region ?_
    refine r_sd (sd_ldn rfl rfl tk24 (at_blk (vs := (TrackV.cells (TrackV.mk (Slc.mk a10 ts.length c11)))) 4 rfl rfl) rfl) rfl rfl ?_
    refine r_sd (sd_ldn rfl rfl tk28 (at_blk (vs := (SledV.cells s)) 6 rfl rfl) rfl) rfl rfl ?_
    refine r_sd (sd_move rfl rfl) rfl rfl ?_
    refine r_sd (sd_call rfl rfl rfl rfl (height_c ts a10 c11 s i (by first | assumption | omega | (simp; done) | (simp; omega)) (by first | assumption | omega | (simp; done) | (simp; omega))) (ha_cons (has_own_n (n := ts.length) 5 rfl (by simp)) <| ha_nil)) rfl rfl ?_
    refine r_sd (sd_move rfl rfl) rfl rfl ?_
    refine r_sd (sd_extract rfl rfl rfl) rfl rfl ?_
    refine r_sd (sd_extract rfl rfl rfl) rfl rfl ?_
    refine r_alloc rfl tz26 rfl fun b28 => ?_
    refine r_store (vs := (SpanV.cells (heightV s ts i))) (cs' := (SpanV.cells (heightV s ts i))) (C' := [(blk b28 26 (SpanV.cells (heightV s ts i))), _, _, _, _, _, _, _, _, _]) 0 rfl rfl rfl ts26 rfl rfl rfl rfl rfl rfl rfl ?_
    refine r_sd (sd_assign rfl rfl) rfl rfl ?_
    refine r_nil ?_
    refine k_then (hK27 _ _ _ ?_)
    refine w_seq fun K29 hK29 => ?_
    refine w_region ?_
    refine r_sd (sd_ldn rfl rfl tk24 (at_blk (vs := (TrackV.cells (TrackV.mk (Slc.mk tsA ts.length tsC)))) 8 rfl rfl) rfl) rfl rfl ?_
    refine r_sd (sd_ldn rfl rfl tk28 (at_blk (vs := (SledV.cells s)) 7 rfl rfl) rfl) rfl rfl ?_
    refine r_sd (sd_move rfl rfl) rfl rfl ?_
    refine r_sd (sd_call rfl rfl rfl rfl (rHeight_c ts tsA tsC s i (by first | assumption | omega | (simp; done) | (simp; omega)) (by first | assumption | omega | (simp; done) | (simp; omega)) (by first | assumption | omega | (simp; done) | (simp; omega))) (ha_at 9 rfl rfl <| ha_nil)) rfl rfl ?_
    refine r_sd (sd_move rfl rfl) rfl rfl ?_
    refine r_sd (sd_extract rfl rfl rfl) rfl rfl ?_
    refine r_sd (sd_extract rfl rfl rfl) rfl rfl ?_
    refine r_alloc rfl tz26 rfl fun b30 => ?_
    refine r_store (vs := (SpanV.cells (heightV s ts i))) (cs' := (SpanV.cells (heightV s ts i))) (C' := [(blk b30 26 (SpanV.cells (heightV s ts i))), _, _, _, _, _, _, _, _, _, _]) 0 rfl rfl rfl ts26 rfl rfl rfl rfl rfl rfl rfl ?_
    refine r_sd (sd_assign rfl rfl) rfl rfl ?_
    refine r_nil ?_
    refine k_then (hK29 _ _ _ ?_)
    refine w_seq fun K31 hK31 => ?_
    refine w_region ?_
    refine r_sd (sd_ldn rfl rfl tk24 (at_blk (vs := (TrackV.cells (TrackV.mk (Slc.mk a10 ts.length c11)))) 6 rfl rfl) rfl) rfl rfl ?_
    refine r_sd (sd_ldn rfl rfl tk28 (at_blk (vs := (SledV.cells s)) 8 rfl rfl) rfl) rfl rfl ?_
    refine r_sd (sd_move rfl rfl) rfl rfl ?_
    refine r_sd (sd_call rfl rfl rfl rfl (least_c ts a10 c11 s i (by first | assumption | omega | (simp; done) | (simp; omega)) (by first | assumption | omega | (simp; done) | (simp; omega))) (ha_cons (has_own_n (n := ts.length) 7 rfl (by simp)) <| ha_nil)) rfl rfl ?_
    refine r_sd (sd_move rfl rfl) rfl rfl ?_
    refine r_sd (sd_extract rfl rfl rfl) rfl rfl ?_
    refine r_sd (sd_extract rfl rfl rfl) rfl rfl ?_
    refine r_sd (sd_assign rfl rfl) rfl rfl ?_
    refine r_sd (sd_assign rfl rfl) rfl rfl ?_
    refine r_nil ?_
    refine k_then (hK31 _ _ _ ?_)
    refine w_seq fun K32 hK32 => ?_
    refine w_region ?_
    refine r_sd (sd_ldn rfl rfl tk24 (at_blk (vs := (TrackV.cells (TrackV.mk (Slc.mk tsA ts.length tsC)))) 9 rfl rfl) rfl) rfl rfl ?_
    refine r_sd (sd_ldn rfl rfl tk28 (at_blk (vs := (SledV.cells s)) 8 rfl rfl) rfl) rfl rfl ?_
    refine r_sd (sd_move rfl rfl) rfl rfl ?_
    refine r_sd (sd_call rfl rfl rfl rfl (rLeast_c ts tsA tsC s i (by first | assumption | omega | (simp; done) | (simp; omega)) (by first | assumption | omega | (simp; done) | (simp; omega)) (by first | assumption | omega | (simp; done) | (simp; omega))) (ha_at 10 rfl rfl <| ha_nil)) rfl rfl ?_
    refine r_sd (sd_move rfl rfl) rfl rfl ?_
    refine r_sd (sd_extract rfl rfl rfl) rfl rfl ?_
    refine r_sd (sd_extract rfl rfl rfl) rfl rfl ?_
    refine r_sd (sd_assign rfl rfl) rfl rfl ?_
    refine r_sd (sd_assign rfl rfl) rfl rfl ?_
    refine r_nil ?_
    refine k_then (hK32 _ _ _ ?_)
    refine w_seq fun K33 hK33 => ?_
    refine w_draw mixed 51 (by kernel_rfl) ?_
    refine d_sd (sd_ldn rfl rfl tk28 (at_blk (vs := (SledV.cells s)) 8 rfl rfl) rfl) rfl rfl ?_
    refine d_sd (sd_call rfl rfl rfl rfl (scheck_c s) (ha_nil)) rfl rfl ?_
    refine d_sd (sd_ldn rfl rfl tk28 (at_blk (vs := (SledV.cells s)) 8 rfl rfl) rfl) rfl rfl ?_
    refine d_sd (sd_call rfl rfl rfl rfl (check3_c s (by first | assumption | omega | (simp; done) | (simp; omega))) (ha_nil)) rfl rfl ?_
    refine d_sd (sd_bin rfl rfl rfl b_eql) rfl rfl ?_
    refine d_sd (sd_move rfl rfl) rfl rfl ?_
    refine d_bool (t := 89) rfl (fun h34 => ?_) (fun h34 => ?_)
    · -- yes
      replace h34 := of_decide_eq_true h34
      refine d_sd (sd_move rfl rfl) rfl rfl ?_
      refine d_sd (sd_move rfl rfl) rfl rfl ?_
      have hsu : (spansU s ts).length ≤ ts.length + 1 := by unfold spansU; split <;> simp [spansL_length]
      refine d_sd (sd_call rfl rfl rfl rfl (samespans_c (spansU s ts) a16 c17 (spansU s ts) a21 c22 (by first | assumption | omega | (simp; done) | (simp; omega)) (by first | assumption | omega | (simp; done) | (simp; omega))) (ha_cons (has_own_n (n := (spansU s ts).length) 5 rfl (by simp)) <| ha_cons (has_own_n (n := (spansU s ts).length) 4 rfl (by simp)) <| ha_nil)) rfl rfl ?_
      refine d_sd (sd_pick_t rfl rfl rfl) rfl rfl ?_
      refine d_sd (sd_move rfl rfl) rfl rfl ?_
      refine d_bool (t := 94) rfl (fun h35 => ?_) (fun h35 => ?_)
      · -- yes
        replace h35 := of_decide_eq_true h35
        refine d_sd (sd_move rfl rfl) rfl rfl ?_
        refine d_sd (sd_move rfl rfl) rfl rfl ?_
        refine d_sd (sd_bin rfl rfl rfl b_eql) rfl rfl ?_
        refine d_sd (sd_pick_t rfl rfl rfl) rfl rfl ?_
        refine d_sd (sd_move rfl rfl) rfl rfl ?_
        refine d_bool (t := 99) rfl (fun h36 => ?_) (fun h36 => ?_)
        · -- yes
          replace h36 := of_decide_eq_true h36
          refine d_sd (sd_ldn rfl rfl tk26 (at_blk (vs := (SpanV.cells (speedV s ts mark))) 3 rfl rfl) rfl) rfl rfl ?_
          refine d_sd (sd_ldn rfl rfl tk26 (at_blk (vs := (SpanV.cells (speedV s ts mark))) 2 rfl rfl) rfl) rfl rfl ?_
          refine d_sd (sd_bin rfl rfl rfl (eqs26 _ _ (speedV s ts mark) (speedV s ts mark))) rfl rfl ?_
          refine d_sd (sd_pick_t rfl rfl rfl) rfl rfl ?_
          refine d_sd (sd_move rfl rfl) rfl rfl ?_
          refine d_bool (t := 104) rfl (fun h37 => ?_) (fun h37 => ?_)
          · -- yes
            replace h37 := of_decide_eq_true h37
            refine d_sd (sd_move rfl rfl) rfl rfl ?_
            refine d_sd (sd_move rfl rfl) rfl rfl ?_
            refine d_sd (sd_bin rfl rfl rfl b_eql) rfl rfl ?_
            refine d_sd (sd_pick_t rfl rfl rfl) rfl rfl ?_
            refine d_sd (sd_move rfl rfl) rfl rfl ?_
            refine d_bool (t := 109) rfl (fun h38 => ?_) (fun h38 => ?_)
            · -- yes
              replace h38 := of_decide_eq_true h38
              refine d_sd (sd_ldn rfl rfl tk26 (at_blk (vs := (SpanV.cells (heightV s ts i))) 1 rfl rfl) rfl) rfl rfl ?_
              refine d_sd (sd_ldn rfl rfl tk26 (at_blk (vs := (SpanV.cells (heightV s ts i))) 0 rfl rfl) rfl) rfl rfl ?_
              refine d_sd (sd_bin rfl rfl rfl (eqs26 _ _ (heightV s ts i) (heightV s ts i))) rfl rfl ?_
              refine d_sd (sd_pick_t rfl rfl rfl) rfl rfl ?_
              refine d_sd (sd_move rfl rfl) rfl rfl ?_
              refine d_bool (t := 114) rfl (fun h39 => ?_) (fun h39 => ?_)
              · -- yes
                replace h39 := of_decide_eq_true h39
                refine d_sd (sd_move rfl rfl) rfl rfl ?_
                refine d_sd (sd_move rfl rfl) rfl rfl ?_
                refine d_sd (sd_bin rfl rfl rfl b_eql) rfl rfl ?_
                refine d_sd (sd_pick_t rfl rfl rfl) rfl rfl ?_
                refine d_sd (sd_move rfl rfl) rfl rfl ?_
                refine d_bool (t := 119) rfl (fun h40 => ?_) (fun h40 => ?_)
                · -- yes
                  replace h40 := of_decide_eq_true h40
                  refine d_sd (sd_move rfl rfl) rfl rfl ?_
                  refine d_sd (sd_move rfl rfl) rfl rfl ?_
                  refine d_sd (sd_bin rfl rfl rfl b_eql) rfl rfl ?_
                  refine d_sd (sd_pick_t rfl rfl rfl) rfl rfl ?_
                  refine d_sd (sd_move rfl rfl) rfl rfl ?_
                  refine d_bool (t := 124) rfl (fun h41 => ?_) (fun h41 => ?_)
                  · -- yes
                    replace h41 := of_decide_eq_true h41
                    refine d_sd (sd_move rfl rfl) rfl rfl ?_
                    refine d_sd (sd_move rfl rfl) rfl rfl ?_
                    refine d_sd (sd_bin rfl rfl rfl b_eql) rfl rfl ?_
                    refine d_sd (sd_pick_t rfl rfl rfl) rfl rfl ?_
                    refine d_sd (sd_move rfl rfl) rfl rfl ?_
                    refine d_bool (t := 129) rfl (fun h42 => ?_) (fun h42 => ?_)
                    · -- yes
                      replace h42 := of_decide_eq_true h42
                      refine d_sd (sd_ldn rfl rfl tk24 (at_blk (vs := (TrackV.cells (TrackV.mk (Slc.mk a10 ts.length c11)))) 6 rfl rfl) rfl) rfl rfl ?_
                      refine d_sd (sd_ldn rfl rfl tk24 (at_blk (vs := (TrackV.cells (TrackV.mk (Slc.mk tsA ts.length tsC)))) 9 rfl rfl) rfl) rfl rfl ?_
                      refine d_sd (sd_call rfl rfl rfl rfl (same_c ts a10 c11 ts tsA tsC (by first | assumption | omega | (simp; done) | (simp; omega)) (by first | assumption | omega | (simp; done) | (simp; omega))) (ha_cons (has_own_n (n := ts.length) 7 rfl (by simp)) <| ha_at 10 rfl rfl <| ha_nil)) rfl rfl ?_
                      refine d_sd (sd_pick_t rfl rfl rfl) rfl rfl ?_
                      refine d_sd (sd_assign rfl rfl) rfl rfl ?_
                      refine d_end ?_
                      refine r_nil ?_
                      refine k_then (hK33 _ _ _ ?_)
                      refine w_ret ?_
                      refine hQ _ _ _ (l_nil (vs := [(Value.bool (decide (ts = ts)))]) ⟨rfl, trivial⟩ fun w hs => endV ?_ hs)
                      show (Value.bool (decide (ts = ts))) = (Value.bool true)
                      clear hs w hQ hN hK33 K33 hK32 K32 hK31 K31 hK29 K29 hK27 K27 hK25 K25 hK23 K23 hK18 K18 hK13 K13 hK7 K7 hK5 K5 hK4 K4 hK1 K1
                      first | rfl | simp
                    · -- no
                      replace h42 := of_decide_eq_false h42
                      exact absurd rfl h42
                  · -- no
                    replace h41 := of_decide_eq_false h41
                    exact absurd rfl h41
                · -- no
                  replace h40 := of_decide_eq_false h40
                  exact absurd rfl h40
              · -- no
                replace h39 := of_decide_eq_false h39
                exact absurd rfl h39
            · -- no
              replace h38 := of_decide_eq_false h38
              exact absurd rfl h38
          · -- no
            replace h37 := of_decide_eq_false h37
            exact absurd rfl h37
        · -- no
          replace h36 := of_decide_eq_false h36
          exact absurd rfl h36
      · -- no
        replace h35 := of_decide_eq_false h35
        exact absurd rfl h35
    · -- no
      replace h34 := of_decide_eq_false h34
      exact absurd rfl h34

end Go.Proofs.Ytpbgdeojcefnmaa
