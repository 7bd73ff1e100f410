/-
  Walks: kreisel/kreiselref03.Heads, kreisel/kreiselref03.Heads, kreisel/kreiselref03.Heads, kreisel/slide.Speed, kreisel/kreiselref03.Speed
-/
import Derived.Test.YtpbgdeojcefnmaaTab
import Derived.Test.YtpbgdeojcefnmaaSort
import Derived.Test.YtpbgdeojcefnmaaW1
import Derived.Test.YtpbgdeojcefnmaaW5
import Derived.Test.YtpbgdeojcefnmaaW6
import Derived.Test.YtpbgdeojcefnmaaW8
import Derived.Test.YtpbgdeojcefnmaaW10
namespace Go.Proofs.Ytpbgdeojcefnmaa
open Go.RowKit
set_option linter.unusedVariables false

set_option maxRecDepth 100000 in
set_option maxHeartbeats 400000 in
theorem rHeads_no (ts : List StretchV) (tsA : Option Addr) (tsC : Nat) (s : SledV) (hlen : ts.length ≤ 1000000) (hside : ∀ x ∈ ts, 0 ≤ x.Side ∧ x.Side ≤ 255) (hc : 0 ≤ s.Class ∧ s.Class ≤ 255) (hb : ¬ bothE s ts = 0) :
    FnV Try.prog 19 [(Value.agg (TrackV.cells (TrackV.mk (Slc.mk tsA ts.length tsC))).toArray), (Value.agg (SledV.cells s).toArray)] [(rd tsA ts.length 9 (ts.map StretchV.cells))] (Value.tuple [(Value.slice none 0 0), (Value.int .i64 (bothE s ts))].toArray) := by
  refine fnV_of go19 Try.func19 rfl rfl fun w0 Q hQ hN => ?_
  change WJ _ _ _ _ [(0, (Value.agg (TrackV.cells (TrackV.mk (Slc.mk tsA ts.length tsC))).toArray)), (1, (Value.agg (SledV.cells s).toArray))] [(rd tsA ts.length 9 (ts.map StretchV.cells)).ro]
  refine w_seq fun K1 hK1 => ?_
  refine w_region ?_
  refine r_box (cs := (TrackV.cells (TrackV.mk (Slc.mk tsA ts.length tsC)))) rfl rfl rfl rfl fun b2 => ?_
  refine r_box (cs := (SledV.cells s)) rfl rfl rfl rfl fun b3 => ?_
  refine r_sd (sd_assign rfl rfl) rfl rfl ?_
  refine r_sd (sd_assign rfl rfl) rfl rfl ?_
  refine r_nil ?_
  refine k_then (hK1 _ _ _ ?_)
  refine w_seq fun K4 hK4 => ?_
  refine w_seq fun K5 hK5 => ?_
  refine w_region ?_
  refine r_sd (sd_ldn rfl rfl tk24 (at_blk (vs := (TrackV.cells (TrackV.mk (Slc.mk tsA ts.length tsC)))) 1 rfl rfl) rfl) rfl rfl ?_
  refine r_sd (sd_ldn rfl rfl tk28 (at_blk (vs := (SledV.cells s)) 0 rfl rfl) rfl) rfl rfl ?_
  refine r_sd (sd_call rfl rfl rfl rfl (both_c ts tsA tsC s (by first | assumption | omega | (simp; done) | (simp; omega)) (by first | assumption | omega | (simp; done) | (simp; omega))) (ha_at 2 rfl rfl <| ha_nil)) rfl rfl ?_
  refine r_sd (sd_assign rfl rfl) rfl rfl ?_
  refine r_nil ?_
  refine k_then (hK5 _ _ _ ?_)
  refine w_seq fun K6 hK6 => ?_
  refine w_region ?_
  refine r_sd (sd_move rfl rfl) rfl rfl ?_
  refine r_sd (sd_bin rfl rfl rfl b_neq) rfl rfl ?_
  refine r_nil ?_
  refine k_then (hK6 _ _ _ ?_)
  refine w_if rfl (fun he => ?_) (fun he => ?_)
  · -- yes
    rw [Bool.not_eq_true'] at he
    replace he := of_decide_eq_false he
    refine w_seq fun K7 hK7 => ?_
    refine w_region ?_
    refine r_sd (sd_move rfl rfl) rfl rfl ?_
    refine r_sd (sd_assign rfl rfl) rfl rfl ?_
    refine r_sd (sd_assign rfl rfl) rfl rfl ?_
    refine r_nil ?_
    refine k_then (hK7 _ _ _ ?_)
    refine w_ret ?_
    refine hQ _ _ _ (l_nil (vs := [(Value.slice none 0 0), (Value.int .i64 (bothE s ts))]) ⟨rfl, rfl, trivial⟩ fun w hs => endV ?_ hs)
    show (Value.tuple [(Value.slice none 0 0), (Value.int .i64 (bothE s ts))].toArray) = (Value.tuple [(Value.slice none 0 0), (Value.int .i64 (bothE s ts))].toArray)
    clear hs w hQ hN hK7 K7 hK6 K6 hK5 K5 hK4 K4 hK1 K1
    rfl
  · -- no
    rw [Bool.not_eq_false'] at he
    replace he := of_decide_eq_true he
    exact absurd he hb

set_option maxRecDepth 100000 in
set_option maxHeartbeats 400000 in
theorem rHeads_ok (ts : List StretchV) (tsA : Option Addr) (tsC : Nat) (s : SledV) (hlen : ts.length ≤ 1000000) (hside : ∀ x ∈ ts, 0 ≤ x.Side ∧ x.Side ≤ 255) (hc : 0 ≤ s.Class ∧ s.Class ≤ 255) (htr : trackOk ts = true) (hs : SledOk s) :
    FnX Try.prog 19 [(Value.agg (TrackV.cells (TrackV.mk (Slc.mk tsA ts.length tsC))).toArray), (Value.agg (SledV.cells s).toArray)] [(rd tsA ts.length 9 (ts.map StretchV.cells))] (fun (x : (Option Addr) × Nat) => (Value.tuple [(Value.slice x.1 ((spansL s ts).length) x.2), (Value.int .i64 (bothE s ts))].toArray)) (fun (x : (Option Addr) × Nat) => True) (fun (x : (Option Addr) × Nat) => [(own x.1 x.2 26 2 ((spansL s ts).map SpanV.cells))]) := by
  have hb0 := bothE_ok htr hs
  have hst := trackOk_all htr
  have hl12 := trackOk_le htr
  refine fnX_of go19 Try.func19 rfl rfl fun w0 Q hQ hN => ?_
  change WJ _ _ _ _ [(0, (Value.agg (TrackV.cells (TrackV.mk (Slc.mk tsA ts.length tsC))).toArray)), (1, (Value.agg (SledV.cells s).toArray))] [(rd tsA ts.length 9 (ts.map StretchV.cells)).ro]
  refine w_seq fun K1 hK1 => ?_
  refine w_region ?_
  refine r_box (cs := (TrackV.cells (TrackV.mk (Slc.mk tsA ts.length tsC)))) rfl rfl rfl rfl fun b2 => ?_
  refine r_box (cs := (SledV.cells s)) rfl rfl rfl rfl fun b3 => ?_
  refine r_sd (sd_assign rfl rfl) rfl rfl ?_
  refine r_sd (sd_assign rfl rfl) rfl rfl ?_
  refine r_nil ?_
  refine k_then (hK1 _ _ _ ?_)
  refine w_seq fun K4 hK4 => ?_
  refine w_seq fun K5 hK5 => ?_
  refine w_region ?_
  refine r_sd (sd_ldn rfl rfl tk24 (at_blk (vs := (TrackV.cells (TrackV.mk (Slc.mk tsA ts.length tsC)))) 1 rfl rfl) rfl) rfl rfl ?_
  refine r_sd (sd_ldn rfl rfl tk28 (at_blk (vs := (SledV.cells s)) 0 rfl rfl) rfl) rfl rfl ?_
  refine r_sd (sd_call rfl rfl rfl rfl (both_c ts tsA tsC s (by first | assumption | omega | (simp; done) | (simp; omega)) (by first | assumption | omega | (simp; done) | (simp; omega))) (ha_at 2 rfl rfl <| ha_nil)) rfl rfl ?_
  refine r_sd (sd_assign rfl rfl) rfl rfl ?_
  refine r_nil ?_
  refine k_then (hK5 _ _ _ ?_)
  refine w_seq fun K6 hK6 => ?_
  refine w_region ?_
  refine r_sd (sd_move rfl rfl) rfl rfl ?_
  refine r_sd (sd_bin rfl rfl rfl b_neq) rfl rfl ?_
  refine r_nil ?_
  refine k_then (hK6 _ _ _ ?_)
  refine w_if rfl (fun he => ?_) (fun he => ?_)
  · -- yes
    rw [Bool.not_eq_true'] at he
    replace he := of_decide_eq_false he
    exact absurd hb0 he
  · -- no
    rw [Bool.not_eq_false'] at he
    replace he := of_decide_eq_true he
    refine w_skip ?_
    refine k_then (hK4 _ _ _ ?_)
    refine w_seq fun K7 hK7 => ?_
    refine w_region ?_
    refine r_sd (sd_ldn rfl rfl tk24 (at_blk (vs := (TrackV.cells (TrackV.mk (Slc.mk tsA ts.length tsC)))) 1 rfl rfl) rfl) rfl rfl ?_
    refine r_sd (sd_ldn rfl rfl tk28 (at_blk (vs := (SledV.cells s)) 0 rfl rfl) rfl) rfl rfl ?_
    refine r_call rfl rfl rfl rfl (rheads_c ts tsA tsC s (by first | assumption | omega | (simp; done) | (simp; omega)) (by first | assumption | omega | (simp; done) | (simp; omega)) (by first | assumption | omega | (simp; done) | (simp; omega))) (ha_at 2 rfl rfl <| ha_nil) rfl (fun y8 hy9 => ?_)
    obtain ⟨a10, c11⟩ := y8
    change RJ _ _ _ _ _ ((_, (Value.slice a10 ((spansL s ts).length) c11)) :: _) ((own a10 c11 26 2 ((spansL s ts).map SpanV.cells)) :: _)
    refine r_sd (sd_assign rfl rfl) rfl rfl ?_
    refine r_sd (sd_assign rfl rfl) rfl rfl ?_
    refine r_nil ?_
    refine k_then (hK7 _ _ _ ?_)
    refine w_ret ?_
    refine hQ _ _ _ (l_nil (vs := [(Value.slice a10 ((spansL s ts).length) c11), (Value.int .i64 0)]) ⟨rfl, rfl, trivial⟩ fun w hs => endX (a10, c11) [0] ?_ ?_ rfl rfl rfl hs)
    · rw [hb0]; rfl
    · trivial

theorem rHeads_c (ts : List StretchV) (tsA : Option Addr) (tsC : Nat) (s : SledV) (hlen : ts.length ≤ 1000000) (hside : ∀ x ∈ ts, 0 ≤ x.Side ∧ x.Side ≤ 255) (hc : 0 ≤ s.Class ∧ s.Class ≤ 255) :
    FnX Try.prog 19 [(Value.agg (TrackV.cells (TrackV.mk (Slc.mk tsA ts.length tsC))).toArray), (Value.agg (SledV.cells s).toArray)] [(rd tsA ts.length 9 (ts.map StretchV.cells))] (fun (x : (Option Addr) × Nat) => (Value.tuple [(Value.slice x.1 ((spansU s ts).length) x.2), (Value.int .i64 (bothE s ts))].toArray)) (fun (x : (Option Addr) × Nat) => True) (fun (x : (Option Addr) × Nat) => [(own x.1 x.2 26 2 ((spansU s ts).map SpanV.cells))]) := by
  by_cases hb : bothE s ts = 0
  · obtain ⟨h1, h2⟩ := bothE_zero hb
    rw [spansU_ok h1 h2]
    exact rHeads_ok ts tsA tsC s hlen hside hc h1 h2
  · rw [spansU_no hb]
    exact FnV.toX (none, 0) (rHeads_no ts tsA tsC s hlen hside hc hb) trivial own_none

set_option maxRecDepth 100000 in
set_option maxHeartbeats 400000 in
theorem speed_c (ts : List StretchV) (tsA : Option Addr) (tsC : Nat) (s : SledV) (i : Int) (hlen : ts.length ≤ 1000000) (hside : ∀ x ∈ ts, 0 ≤ x.Side ∧ x.Side ≤ 255) :
    FnV Try.prog 20 [(Value.agg (TrackV.cells (TrackV.mk (Slc.mk tsA ts.length tsC))).toArray), (Value.agg (SledV.cells s).toArray), (Value.int .i64 i)] [(rd tsA ts.length 9 (ts.map StretchV.cells))] (Value.tuple [(Value.agg (SpanV.cells (speedV s ts i)).toArray), (Value.int .i64 (speedE s ts i))].toArray) := by
  refine fnV_of go20 Try.func20 rfl rfl fun w0 Q hQ hN => ?_
  change WJ _ _ _ _ [(0, (Value.agg (TrackV.cells (TrackV.mk (Slc.mk tsA ts.length tsC))).toArray)), (1, (Value.agg (SledV.cells s).toArray)), (2, (Value.int .i64 i))] [(rd tsA ts.length 9 (ts.map StretchV.cells)).ro]
  refine w_seq fun K1 hK1 => ?_
  refine w_region ?_
  refine r_box (cs := (TrackV.cells (TrackV.mk (Slc.mk tsA ts.length tsC)))) rfl rfl rfl rfl fun b2 => ?_
  refine r_box (cs := (SledV.cells s)) rfl rfl rfl rfl fun b3 => ?_
  refine r_alloc rfl tz26 rfl fun b4 => ?_
  refine r_sd (sd_assign rfl rfl) rfl rfl ?_
  refine r_nil ?_
  refine k_then (hK1 _ _ _ ?_)
  refine w_seq fun K5 hK5 => ?_
  refine w_region ?_
  refine r_sd (sd_ldn rfl rfl tk24 (at_blk (vs := (TrackV.cells (TrackV.mk (Slc.mk tsA ts.length tsC)))) 2 rfl rfl) rfl) rfl rfl ?_
  refine r_sd (sd_ldn rfl rfl tk28 (at_blk (vs := (SledV.cells s)) 1 rfl rfl) rfl) rfl rfl ?_
  refine r_call rfl rfl rfl rfl (heads_c ts tsA tsC s (by first | assumption | omega | (simp; done) | (simp; omega)) (by first | assumption | omega | (simp; done) | (simp; omega))) (ha_at 3 rfl rfl <| ha_nil) rfl (fun y6 hy7 => ?_)
  obtain ⟨a8, c9⟩ := y6
  change RJ _ _ _ _ _ ((_, (Value.tuple [(Value.slice a8 ((spansU s ts).length) c9), (Value.int .i64 (bothE s ts))].toArray)) :: _) ((own a8 c9 26 2 ((spansU s ts).map SpanV.cells)) :: _)
  refine r_sd (sd_move rfl rfl) rfl rfl ?_
  refine r_sd (sd_extract rfl rfl rfl) rfl rfl ?_
  refine r_sd (sd_extract rfl rfl rfl) rfl rfl ?_
  refine r_sd (sd_assign rfl rfl) rfl rfl ?_
  refine r_sd (sd_assign rfl rfl) rfl rfl ?_
  refine r_nil ?_
  refine k_then (hK5 _ _ _ ?_)
  refine w_seq fun K10 hK10 => ?_
  refine w_seq fun K11 hK11 => ?_
  refine w_region ?_
  refine r_sd (sd_move rfl rfl) rfl rfl ?_
  refine r_sd (sd_bin rfl rfl rfl b_neq) rfl rfl ?_
  refine r_nil ?_
  refine k_then (hK11 _ _ _ ?_)
  refine w_if rfl (fun he => ?_) (fun he => ?_)
  · -- yes
    rw [Bool.not_eq_true'] at he
    replace he := of_decide_eq_false he
    refine w_seq fun K12 hK12 => ?_
    refine w_region ?_
    refine r_sd (sd_build (xs := []) (cs := (SpanV.cells (SpanV.mk 0 0))) rfl rfl (built_of tb26 rfl)) rfl rfl ?_
    refine r_sd (sd_move rfl rfl) rfl rfl ?_
    refine r_store (vs := (SpanV.cells (SpanV.mk 0 0))) (cs' := (SpanV.cells (SpanV.mk 0 0))) (C' := [_, (blk b4 26 (SpanV.cells (SpanV.mk 0 0))), _, _, _]) 1 rfl rfl rfl ts26 rfl rfl rfl rfl rfl rfl rfl ?_
    refine r_sd (sd_assign rfl rfl) rfl rfl ?_
    refine r_nil ?_
    refine k_then (hK12 _ _ _ ?_)
    refine w_ret ?_
    refine hQ _ _ _ (l_nil (vs := [(Value.agg (SpanV.cells (SpanV.mk 0 0)).toArray), (Value.int .i64 (bothE s ts))]) ⟨⟨_, rfl, .inl ⟨_, _, tk26, at_blk (vs := (SpanV.cells (SpanV.mk 0 0))) 1 rfl rfl, rfl, rfl⟩⟩, rfl, trivial⟩ fun w hs => endV ?_ hs)
    show (Value.tuple [(Value.agg (SpanV.cells (SpanV.mk 0 0)).toArray), (Value.int .i64 (bothE s ts))].toArray) = (Value.tuple [(Value.agg (SpanV.cells (speedV s ts i)).toArray), (Value.int .i64 (speedE s ts i))].toArray)
    clear hs w hQ hN hK12 K12 hK11 K11 hK10 K10 hK5 K5 hK1 K1
    first | (rw [(speed_no (i := i) he).1, (speed_no (i := i) he).2] <;> rfl) | (rw [(speed_out (i := i) he (by omega)).1, (speed_out (i := i) he (by omega)).2] <;> rfl) | (rw [(speed_in (i := i) he (by omega)).1, (speed_in (i := i) he (by omega)).2, hyv] <;> rfl)
  · -- no
    rw [Bool.not_eq_false'] at he
    replace he := of_decide_eq_true he
    refine w_skip ?_
    refine k_then (hK10 _ _ _ ?_)
    refine w_seq fun K13 hK13 => ?_
    refine w_seq fun K14 hK14 => ?_
    refine w_region ?_
    obtain ⟨htr, hs⟩ := bothE_zero he
    have hst := trackOk_all htr
    have hl12 := trackOk_le htr
    have hsl := spansL_length (s := s) (ts := ts)
    rw [spansU_ok htr hs]
    refine r_sd (sd_move rfl rfl) rfl rfl ?_
    refine r_sd (sd_bin rfl rfl rfl b_lss) rfl rfl ?_
    refine r_sd (sd_move rfl rfl) rfl rfl ?_
    refine r_bool (t := 22) rfl (fun h15 => ?_) (fun h15 => ?_)
    · -- yes
      replace h15 := of_decide_eq_true h15
      refine r_sd (sd_off rfl) rfl rfl ?_
      refine r_sd (sd_off rfl) rfl rfl ?_
      refine r_sd (sd_off rfl) rfl rfl ?_
      refine r_sd (sd_off rfl) rfl rfl ?_
      refine r_sd (sd_pick_t rfl rfl rfl) rfl rfl ?_
      refine r_nil ?_
      refine k_then (hK14 _ _ _ ?_)
      refine w_if_true rfl ?_
      refine w_seq fun K16 hK16 => ?_
      refine w_region ?_
      refine r_sd (sd_build (xs := []) (cs := (SpanV.cells (SpanV.mk 0 0))) rfl rfl (built_of tb26 rfl)) rfl rfl ?_
      refine r_store (vs := (SpanV.cells (SpanV.mk 0 0))) (cs' := (SpanV.cells (SpanV.mk 0 0))) (C' := [_, (blk b4 26 (SpanV.cells (SpanV.mk 0 0))), _, _, _]) 1 rfl rfl rfl ts26 rfl rfl rfl rfl rfl rfl rfl ?_
      refine r_sd (sd_assign rfl rfl) rfl rfl ?_
      refine r_nil ?_
      refine k_then (hK16 _ _ _ ?_)
      refine w_ret ?_
      refine hQ _ _ _ (l_nil (vs := [(Value.agg (SpanV.cells (SpanV.mk 0 0)).toArray), (Value.int .i64 2)]) ⟨⟨_, rfl, .inl ⟨_, _, tk26, at_blk (vs := (SpanV.cells (SpanV.mk 0 0))) 1 rfl rfl, rfl, rfl⟩⟩, rfl, trivial⟩ fun w hs => endV ?_ hs)
      show (Value.tuple [(Value.agg (SpanV.cells (SpanV.mk 0 0)).toArray), (Value.int .i64 2)].toArray) = (Value.tuple [(Value.agg (SpanV.cells (speedV s ts i)).toArray), (Value.int .i64 (speedE s ts i))].toArray)
      clear hs w hQ hN hK16 K16 hK14 K14 hK13 K13 hK11 K11 hK10 K10 hK5 K5 hK1 K1
      first | (rw [(speed_no (i := i) he).1, (speed_no (i := i) he).2] <;> rfl) | (rw [(speed_out (i := i) he (by omega)).1, (speed_out (i := i) he (by omega)).2] <;> rfl) | (rw [(speed_in (i := i) he (by omega)).1, (speed_in (i := i) he (by omega)).2, hyv] <;> rfl)
    · -- no
      replace h15 := of_decide_eq_false h15
      refine r_sd (sd_move rfl rfl) rfl rfl ?_
      refine r_sd (sd_move rfl rfl) rfl rfl ?_
      refine r_sd (sd_len rfl rfl ut31) rfl rfl ?_
      refine r_sd (sd_bin rfl rfl rfl b_geq) rfl rfl ?_
      refine r_sd (sd_pick_f rfl rfl rfl) rfl rfl ?_
      refine r_nil ?_
      refine k_then (hK14 _ _ _ ?_)
      refine w_if rfl (fun h17 => ?_) (fun h17 => ?_)
      · -- yes
        replace h17 := of_decide_eq_true h17
        refine w_seq fun K18 hK18 => ?_
        refine w_region ?_
        refine r_sd (sd_build (xs := []) (cs := (SpanV.cells (SpanV.mk 0 0))) rfl rfl (built_of tb26 rfl)) rfl rfl ?_
        refine r_store (vs := (SpanV.cells (SpanV.mk 0 0))) (cs' := (SpanV.cells (SpanV.mk 0 0))) (C' := [_, (blk b4 26 (SpanV.cells (SpanV.mk 0 0))), _, _, _]) 1 rfl rfl rfl ts26 rfl rfl rfl rfl rfl rfl rfl ?_
        refine r_sd (sd_assign rfl rfl) rfl rfl ?_
        refine r_nil ?_
        refine k_then (hK18 _ _ _ ?_)
        refine w_ret ?_
        refine hQ _ _ _ (l_nil (vs := [(Value.agg (SpanV.cells (SpanV.mk 0 0)).toArray), (Value.int .i64 2)]) ⟨⟨_, rfl, .inl ⟨_, _, tk26, at_blk (vs := (SpanV.cells (SpanV.mk 0 0))) 1 rfl rfl, rfl, rfl⟩⟩, rfl, trivial⟩ fun w hs => endV ?_ hs)
        show (Value.tuple [(Value.agg (SpanV.cells (SpanV.mk 0 0)).toArray), (Value.int .i64 2)].toArray) = (Value.tuple [(Value.agg (SpanV.cells (speedV s ts i)).toArray), (Value.int .i64 (speedE s ts i))].toArray)
        clear hs w hQ hN hK18 K18 hK14 K14 hK13 K13 hK11 K11 hK10 K10 hK5 K5 hK1 K1
        first | (rw [(speed_no (i := i) he).1, (speed_no (i := i) he).2] <;> rfl) | (rw [(speed_out (i := i) he (by omega)).1, (speed_out (i := i) he (by omega)).2] <;> rfl) | (rw [(speed_in (i := i) he (by omega)).1, (speed_in (i := i) he (by omega)).2, hyv] <;> rfl)
      · -- no
        replace h17 := of_decide_eq_false h17
        refine w_skip ?_
        refine k_then (hK13 _ _ _ ?_)
        refine w_seq fun K19 hK19 => ?_
        refine w_draw mixed 13 (by kernel_rfl) ?_
        refine d_sd (sd_move rfl rfl) rfl rfl ?_
        refine d_sd (sd_move rfl rfl) rfl rfl ?_
        obtain ⟨y, hy⟩ : ∃ y_, (spansL s ts)[(i).toNat]? = some y_ := ⟨(spansL s ts)[(i).toNat]'(by omega), List.getElem?_eq_getElem _⟩
        have hym : ((spansL s ts).map SpanV.cells)[(i).toNat]? = some (SpanV.cells y) := by rw [List.getElem?_map, hy]; rfl
        refine d_sd (sd_ia (k := (i).toNat) rfl rfl rfl (has_own_n (n := (spansL s ts).length) 0 rfl (by simp)) te31 (by decide) (by omega) (by omega)) rfl rfl ?_
        refine d_sd (sd_fa_rd (k' := (((i).toNat) * 2)) rfl rfl (has_own_n (n := (spansL s ts).length) 0 rfl (by simp)) (Nat.mul_pos (by omega) (by decide)) fo26_0 rfl) rfl rfl ?_
        have hb0 := headAt_b (best := false) hs hst i.toNat
        have hb1 := headAt_b (best := true) hs hst i.toNat
        have hyv : y = spanAt s ts i.toNat := by rw [spansL_get (by omega)] at hy; exact (Option.some.inj hy).symm
        have hylo : 0 ≤ y.Lo ∧ y.Lo ≤ 400000 := by rw [hyv]; simp only [spanAt]; omega
        have hyhi : 0 ≤ y.Hi ∧ y.Hi ≤ 400000 := by rw [hyv]; simp only [spanAt]; omega
        refine d_sd (sd_ld1 rfl rfl tk3 (at_rd (k := (i).toNat) (o := 0) (vs := [(Value.int .i64 y.Lo)]) (has_own_n (n := (spansL s ts).length) 0 rfl (by simp)) hym rfl (by decide) rfl)) rfl rfl ?_
        refine d_sd (sd_call rfl rfl rfl rfl (slow_c y.Lo (by first | assumption | omega | (simp; done) | (simp; omega))) (ha_nil)) rfl rfl ?_
        refine d_sd (sd_move rfl rfl) rfl rfl ?_
        refine d_sd (sd_move rfl rfl) rfl rfl ?_
        refine d_sd (sd_ia (k := (i).toNat) rfl rfl rfl (has_own_n (n := (spansL s ts).length) 0 rfl (by simp)) te31 (by decide) (by omega) (by omega)) rfl rfl ?_
        refine d_sd (sd_fa_rd (k' := ((((i).toNat) * 2) + 1)) rfl rfl (has_own_n (n := (spansL s ts).length) 0 rfl (by simp)) (Nat.mul_pos (by omega) (by decide)) fo26_1 rfl) rfl rfl ?_
        refine d_sd (sd_ld1 rfl rfl tk3 (at_rd (k := (i).toNat) (o := 1) (vs := [(Value.int .i64 y.Hi)]) (has_own_n (n := (spansL s ts).length) 0 rfl (by simp)) hym rfl (by decide) rfl)) rfl rfl ?_
        refine d_sd (sd_call rfl rfl rfl rfl (fast_c y.Hi (by first | assumption | omega | (simp; done) | (simp; omega))) (ha_nil)) rfl rfl ?_
        refine d_sd (sd_build (xs := [(0, .tmp 34), (1, .tmp 40)]) (cs := (SpanV.cells (SpanV.mk (slowF y.Lo) (fastF y.Hi)))) rfl rfl (built_of tb26 rfl)) rfl rfl ?_
        refine d_end ?_
        refine r_store (vs := (SpanV.cells (SpanV.mk (slowF y.Lo) (fastF y.Hi)))) (cs' := (SpanV.cells (SpanV.mk (slowF y.Lo) (fastF y.Hi)))) (C' := [_, (blk b4 26 (SpanV.cells (SpanV.mk (slowF y.Lo) (fastF y.Hi)))), _, _, _]) 1 rfl rfl rfl ts26 rfl rfl rfl rfl rfl rfl rfl ?_
        refine r_sd (sd_assign rfl rfl) rfl rfl ?_
        refine r_nil ?_
        refine k_then (hK19 _ _ _ ?_)
        refine w_ret ?_
        refine hQ _ _ _ (l_nil (vs := [(Value.agg (SpanV.cells (SpanV.mk (slowF y.Lo) (fastF y.Hi))).toArray), (Value.int .i64 0)]) ⟨⟨_, rfl, .inl ⟨_, _, tk26, at_blk (vs := (SpanV.cells (SpanV.mk (slowF y.Lo) (fastF y.Hi)))) 1 rfl rfl, rfl, rfl⟩⟩, rfl, trivial⟩ fun w hs => endV ?_ hs)
        show (Value.tuple [(Value.agg (SpanV.cells (SpanV.mk (slowF y.Lo) (fastF y.Hi))).toArray), (Value.int .i64 0)].toArray) = (Value.tuple [(Value.agg (SpanV.cells (speedV s ts i)).toArray), (Value.int .i64 (speedE s ts i))].toArray)
        clear hs w hQ hN hK19 K19 hK14 K14 hK13 K13 hK11 K11 hK10 K10 hK5 K5 hK1 K1
        first | (rw [(speed_no (i := i) he).1, (speed_no (i := i) he).2] <;> rfl) | (rw [(speed_out (i := i) he (by omega)).1, (speed_out (i := i) he (by omega)).2] <;> rfl) | (rw [(speed_in (i := i) he (by omega)).1, (speed_in (i := i) he (by omega)).2, hyv] <;> rfl)

set_option maxRecDepth 100000 in
set_option maxHeartbeats 400000 in
theorem rSpeed_c (ts : List StretchV) (tsA : Option Addr) (tsC : Nat) (s : SledV) (i : Int) (hlen : ts.length ≤ 1000000) (hside : ∀ x ∈ ts, 0 ≤ x.Side ∧ x.Side ≤ 255) (hc : 0 ≤ s.Class ∧ s.Class ≤ 255) :
    FnV Try.prog 21 [(Value.agg (TrackV.cells (TrackV.mk (Slc.mk tsA ts.length tsC))).toArray), (Value.agg (SledV.cells s).toArray), (Value.int .i64 i)] [(rd tsA ts.length 9 (ts.map StretchV.cells))] (Value.tuple [(Value.agg (SpanV.cells (speedV s ts i)).toArray), (Value.int .i64 (speedE s ts i))].toArray) := by
  refine fnV_of go21 Try.func21 rfl rfl fun w0 Q hQ hN => ?_
  change WJ _ _ _ _ [(0, (Value.agg (TrackV.cells (TrackV.mk (Slc.mk tsA ts.length tsC))).toArray)), (1, (Value.agg (SledV.cells s).toArray)), (2, (Value.int .i64 i))] [(rd tsA ts.length 9 (ts.map StretchV.cells)).ro]
  refine w_seq fun K1 hK1 => ?_
  refine w_region ?_
  refine r_box (cs := (TrackV.cells (TrackV.mk (Slc.mk tsA ts.length tsC)))) rfl rfl rfl rfl fun b2 => ?_
  refine r_box (cs := (SledV.cells s)) rfl rfl rfl rfl fun b3 => ?_
  refine r_alloc rfl tz26 rfl fun b4 => ?_
  refine r_sd (sd_assign rfl rfl) rfl rfl ?_
  refine r_nil ?_
  refine k_then (hK1 _ _ _ ?_)
  refine w_seq fun K5 hK5 => ?_
  refine w_seq fun K6 hK6 => ?_
  refine w_region ?_
  refine r_sd (sd_ldn rfl rfl tk24 (at_blk (vs := (TrackV.cells (TrackV.mk (Slc.mk tsA ts.length tsC)))) 2 rfl rfl) rfl) rfl rfl ?_
  refine r_sd (sd_ldn rfl rfl tk28 (at_blk (vs := (SledV.cells s)) 1 rfl rfl) rfl) rfl rfl ?_
  refine r_sd (sd_call rfl rfl rfl rfl (both_c ts tsA tsC s (by first | assumption | omega | (simp; done) | (simp; omega)) (by first | assumption | omega | (simp; done) | (simp; omega))) (ha_at 3 rfl rfl <| ha_nil)) rfl rfl ?_
  refine r_sd (sd_assign rfl rfl) rfl rfl ?_
  refine r_nil ?_
  refine k_then (hK6 _ _ _ ?_)
  refine w_seq fun K7 hK7 => ?_
  refine w_region ?_
  refine r_sd (sd_move rfl rfl) rfl rfl ?_
  refine r_sd (sd_bin rfl rfl rfl b_neq) rfl rfl ?_
  refine r_nil ?_
  refine k_then (hK7 _ _ _ ?_)
  refine w_if rfl (fun he => ?_) (fun he => ?_)
  · -- yes
    rw [Bool.not_eq_true'] at he
    replace he := of_decide_eq_false he
    refine w_seq fun K8 hK8 => ?_
    refine w_region ?_
    refine r_sd (sd_build (xs := []) (cs := (SpanV.cells (SpanV.mk 0 0))) rfl rfl (built_of tb26 rfl)) rfl rfl ?_
    refine r_sd (sd_move rfl rfl) rfl rfl ?_
    refine r_store (vs := (SpanV.cells (SpanV.mk 0 0))) (cs' := (SpanV.cells (SpanV.mk 0 0))) (C' := [(blk b4 26 (SpanV.cells (SpanV.mk 0 0))), _, _, _]) 0 rfl rfl rfl ts26 rfl rfl rfl rfl rfl rfl rfl ?_
    refine r_sd (sd_assign rfl rfl) rfl rfl ?_
    refine r_nil ?_
    refine k_then (hK8 _ _ _ ?_)
    refine w_ret ?_
    refine hQ _ _ _ (l_nil (vs := [(Value.agg (SpanV.cells (SpanV.mk 0 0)).toArray), (Value.int .i64 (bothE s ts))]) ⟨⟨_, rfl, .inl ⟨_, _, tk26, at_blk (vs := (SpanV.cells (SpanV.mk 0 0))) 0 rfl rfl, rfl, rfl⟩⟩, rfl, trivial⟩ fun w hs => endV ?_ hs)
    show (Value.tuple [(Value.agg (SpanV.cells (SpanV.mk 0 0)).toArray), (Value.int .i64 (bothE s ts))].toArray) = (Value.tuple [(Value.agg (SpanV.cells (speedV s ts i)).toArray), (Value.int .i64 (speedE s ts i))].toArray)
    clear hs w hQ hN hK8 K8 hK7 K7 hK6 K6 hK5 K5 hK1 K1
    first | (rw [(speed_no (i := i) he).1, (speed_no (i := i) he).2] <;> rfl) | (rw [(speed_out (i := i) he (by omega)).1, (speed_out (i := i) he (by omega)).2] <;> rfl) | (rw [(speed_in (i := i) he (by omega)).1, (speed_in (i := i) he (by omega)).2, hyv] <;> rfl)
  · -- no
    rw [Bool.not_eq_false'] at he
    replace he := of_decide_eq_true he
    refine w_skip ?_
    refine k_then (hK5 _ _ _ ?_)
    refine w_seq fun K9 hK9 => ?_
    refine w_seq fun K10 hK10 => ?_
    refine w_region ?_
    obtain ⟨htr, hs⟩ := bothE_zero he
    have hst := trackOk_all htr
    have hl12 := trackOk_le htr
    have hsl := spansL_length (s := s) (ts := ts)
    refine r_sd (sd_move rfl rfl) rfl rfl ?_
    refine r_sd (sd_fa (o' := 0) rfl rfl fo24_0 rfl) rfl rfl ?_
    refine r_sd (sd_ld1 rfl rfl tk22 (at_blk (vs := [(Value.slice tsA ts.length tsC)]) 2 rfl rfl)) rfl rfl ?_
    refine r_sd (sd_len rfl rfl ut22) rfl rfl ?_
    refine r_sd (sd_call rfl rfl rfl rfl (within3_c i 0 ((ts.length : Nat) : Int)) (ha_nil)) rfl rfl ?_
    refine r_sd (sd_not rfl rfl) rfl rfl ?_
    refine r_nil ?_
    refine k_then (hK10 _ _ _ ?_)
    refine w_if rfl (fun h11 => ?_) (fun h11 => ?_)
    · -- yes
      rw [Bool.not_eq_true'] at h11
      replace h11 := of_decide_eq_false h11
      refine w_seq fun K12 hK12 => ?_
      refine w_region ?_
      refine r_sd (sd_build (xs := []) (cs := (SpanV.cells (SpanV.mk 0 0))) rfl rfl (built_of tb26 rfl)) rfl rfl ?_
      refine r_store (vs := (SpanV.cells (SpanV.mk 0 0))) (cs' := (SpanV.cells (SpanV.mk 0 0))) (C' := [(blk b4 26 (SpanV.cells (SpanV.mk 0 0))), _, _, _]) 0 rfl rfl rfl ts26 rfl rfl rfl rfl rfl rfl rfl ?_
      refine r_sd (sd_assign rfl rfl) rfl rfl ?_
      refine r_nil ?_
      refine k_then (hK12 _ _ _ ?_)
      refine w_ret ?_
      refine hQ _ _ _ (l_nil (vs := [(Value.agg (SpanV.cells (SpanV.mk 0 0)).toArray), (Value.int .i64 2)]) ⟨⟨_, rfl, .inl ⟨_, _, tk26, at_blk (vs := (SpanV.cells (SpanV.mk 0 0))) 0 rfl rfl, rfl, rfl⟩⟩, rfl, trivial⟩ fun w hs => endV ?_ hs)
      show (Value.tuple [(Value.agg (SpanV.cells (SpanV.mk 0 0)).toArray), (Value.int .i64 2)].toArray) = (Value.tuple [(Value.agg (SpanV.cells (speedV s ts i)).toArray), (Value.int .i64 (speedE s ts i))].toArray)
      clear hs w hQ hN hK12 K12 hK10 K10 hK9 K9 hK7 K7 hK6 K6 hK5 K5 hK1 K1
      first | (rw [(speed_no (i := i) he).1, (speed_no (i := i) he).2] <;> rfl) | (rw [(speed_out (i := i) he (by omega)).1, (speed_out (i := i) he (by omega)).2] <;> rfl) | (rw [(speed_in (i := i) he (by omega)).1, (speed_in (i := i) he (by omega)).2, hyv] <;> rfl)
    · -- no
      rw [Bool.not_eq_false'] at h11
      replace h11 := of_decide_eq_true h11
      refine w_skip ?_
      refine k_then (hK9 _ _ _ ?_)
      refine w_seq fun K13 hK13 => ?_
      refine w_region ?_
      refine r_sd (sd_ldn rfl rfl tk24 (at_blk (vs := (TrackV.cells (TrackV.mk (Slc.mk tsA ts.length tsC)))) 2 rfl rfl) rfl) rfl rfl ?_
      refine r_sd (sd_ldn rfl rfl tk28 (at_blk (vs := (SledV.cells s)) 1 rfl rfl) rfl) rfl rfl ?_
      refine r_call rfl rfl rfl rfl (rheads_c ts tsA tsC s (by first | assumption | omega | (simp; done) | (simp; omega)) (by first | assumption | omega | (simp; done) | (simp; omega)) (by first | assumption | omega | (simp; done) | (simp; omega))) (ha_at 3 rfl rfl <| ha_nil) rfl (fun y14 hy15 => ?_)
      obtain ⟨a16, c17⟩ := y14
      change RJ _ _ _ _ _ ((_, (Value.slice a16 ((spansL s ts).length) c17)) :: _) ((own a16 c17 26 2 ((spansL s ts).map SpanV.cells)) :: _)
      refine r_sd (sd_move rfl rfl) rfl rfl ?_
      obtain ⟨y, hy⟩ : ∃ y_, (spansL s ts)[(i).toNat]? = some y_ := ⟨(spansL s ts)[(i).toNat]'(by omega), List.getElem?_eq_getElem _⟩
      have hym : ((spansL s ts).map SpanV.cells)[(i).toNat]? = some (SpanV.cells y) := by rw [List.getElem?_map, hy]; rfl
      refine r_sd (sd_ia (k := (i).toNat) rfl rfl rfl (has_own_n (n := (spansL s ts).length) 0 rfl (by simp)) te31 (by decide) (by omega) (by omega)) rfl rfl ?_
      have hb0 := headAt_b (best := false) hs hst i.toNat
      have hb1 := headAt_b (best := true) hs hst i.toNat
      have hyv : y = spanAt s ts i.toNat := by rw [spansL_get (by omega)] at hy; exact (Option.some.inj hy).symm
      have hylo : 0 ≤ y.Lo ∧ y.Lo ≤ 400000 := by rw [hyv]; simp only [spanAt]; omega
      have hyhi : 0 ≤ y.Hi ∧ y.Hi ≤ 400000 := by rw [hyv]; simp only [spanAt]; omega
      refine r_sd (sd_ldn rfl rfl tk26 (at_rd (k := (i).toNat) (o := 0) (vs := (SpanV.cells y)) (has_own_n (n := (spansL s ts).length) 0 rfl (by simp)) hym rfl (by decide) rfl) rfl) rfl rfl ?_
      refine r_alloc rfl tz26 rfl fun b18 => ?_
      refine r_store (vs := (SpanV.cells y)) (cs' := (SpanV.cells y)) (C' := [(blk b18 26 (SpanV.cells y)), _, _, _, _, _]) 0 rfl rfl rfl ts26 rfl rfl rfl rfl rfl rfl rfl ?_
      refine r_nil ?_
      refine k_then (hK13 _ _ _ ?_)
      refine w_seq fun K19 hK19 => ?_
      refine w_draw mixed 7 (by kernel_rfl) ?_
      refine d_sd (sd_fa (o' := 0) rfl rfl fo26_0 rfl) rfl rfl ?_
      refine d_sd (sd_ld1 rfl rfl tk3 (at_blk (vs := [(Value.int .i64 y.Lo)]) 0 rfl rfl)) rfl rfl ?_
      refine d_sd (sd_call rfl rfl rfl rfl (slow3_c y.Lo (by first | assumption | omega | (simp; done) | (simp; omega))) (ha_nil)) rfl rfl ?_
      refine d_sd (sd_fa (o' := 1) rfl rfl fo26_1 rfl) rfl rfl ?_
      refine d_sd (sd_ld1 rfl rfl tk3 (at_blk (vs := [(Value.int .i64 y.Hi)]) 0 rfl rfl)) rfl rfl ?_
      refine d_sd (sd_call rfl rfl rfl rfl (fast3_c y.Hi (by first | assumption | omega | (simp; done) | (simp; omega))) (ha_nil)) rfl rfl ?_
      refine d_sd (sd_build (xs := [(0, .tmp 32), (1, .tmp 35)]) (cs := (SpanV.cells (SpanV.mk (slowF y.Lo) (fastF y.Hi)))) rfl rfl (built_of tb26 rfl)) rfl rfl ?_
      refine d_end ?_
      refine r_store (vs := (SpanV.cells (SpanV.mk (slowF y.Lo) (fastF y.Hi)))) (cs' := (SpanV.cells (SpanV.mk (slowF y.Lo) (fastF y.Hi)))) (C' := [_, _, (blk b4 26 (SpanV.cells (SpanV.mk (slowF y.Lo) (fastF y.Hi)))), _, _, _]) 2 rfl rfl rfl ts26 rfl rfl rfl rfl rfl rfl rfl ?_
      refine r_sd (sd_assign rfl rfl) rfl rfl ?_
      refine r_nil ?_
      refine k_then (hK19 _ _ _ ?_)
      refine w_ret ?_
      refine hQ _ _ _ (l_nil (vs := [(Value.agg (SpanV.cells (SpanV.mk (slowF y.Lo) (fastF y.Hi))).toArray), (Value.int .i64 0)]) ⟨⟨_, rfl, .inl ⟨_, _, tk26, at_blk (vs := (SpanV.cells (SpanV.mk (slowF y.Lo) (fastF y.Hi)))) 2 rfl rfl, rfl, rfl⟩⟩, rfl, trivial⟩ fun w hs => endV ?_ hs)
      show (Value.tuple [(Value.agg (SpanV.cells (SpanV.mk (slowF y.Lo) (fastF y.Hi))).toArray), (Value.int .i64 0)].toArray) = (Value.tuple [(Value.agg (SpanV.cells (speedV s ts i)).toArray), (Value.int .i64 (speedE s ts i))].toArray)
      clear hs w hQ hN hK19 K19 hK13 K13 hK10 K10 hK9 K9 hK7 K7 hK6 K6 hK5 K5 hK1 K1
      first | (rw [(speed_no (i := i) he).1, (speed_no (i := i) he).2] <;> rfl) | (rw [(speed_out (i := i) he (by omega)).1, (speed_out (i := i) he (by omega)).2] <;> rfl) | (rw [(speed_in (i := i) he (by omega)).1, (speed_in (i := i) he (by omega)).2, hyv] <;> rfl)

end Go.Proofs.Ytpbgdeojcefnmaa
