/-
  Walks: kreisel/slide.open, kreisel/slide.open
-/
import Derived.Test.YtpbgdeojcefnmaaTab
import Derived.Test.YtpbgdeojcefnmaaShort
import Derived.Test.YtpbgdeojcefnmaaW3
import Derived.Test.YtpbgdeojcefnmaaW4
namespace Go.Proofs.Ytpbgdeojcefnmaa
open Go.RowKit
set_option linter.unusedVariables false

set_option maxRecDepth 100000 in
set_option maxHeartbeats 400000 in
theorem open_bad (ts : List StretchV) (tsA : Option Addr) (tsC : Nat) (s : SledV) (hlen : ts.length ≤ 1000000) (hside : ∀ x ∈ ts, 0 ≤ x.Side ∧ x.Side ≤ 255) (htr : trackOk ts = false) :
    FnV Try.prog 60 [(Value.agg (TrackV.cells (TrackV.mk (Slc.mk tsA ts.length tsC))).toArray), (Value.agg (SledV.cells s).toArray)] [(rd tsA ts.length 9 (ts.map StretchV.cells))] (Value.tuple [(Value.agg (RiderV.cells (RiderV.mk (SledV.mk 0 (SpanV.mk 0 0) (SpanV.mk 0 0) (SpanV.mk 0 0) (SpanV.mk 0 0) (SpanV.mk 0 0)) (TrackV.mk (Slc.mk none 0 0)) false)).toArray), (Value.agg (RiderV.cells (RiderV.mk (SledV.mk 0 (SpanV.mk 0 0) (SpanV.mk 0 0) (SpanV.mk 0 0) (SpanV.mk 0 0) (SpanV.mk 0 0)) (TrackV.mk (Slc.mk none 0 0)) false)).toArray), (Value.int .i64 (bothE s ts))].toArray) := by
 refine fnV_of go60 Try.func60 rfl rfl fun w0 Q hQ hN => ?_
 change WJ _ _ _ _ [(0, (Value.agg (TrackV.cells (TrackV.mk (Slc.mk tsA ts.length tsC))).toArray)), (1, (Value.agg (SledV.cells s).toArray))] [(rd tsA ts.length 9 (ts.map StretchV.cells)).ro]
 refine WS fun _ hK1 => ?_
 refine BXA rfl fun b2 => ?_
 refine BXA rfl fun b3 => ?_
 refine AL rfl tz108 fun b4 => ?_
 refine AL rfl tz108 fun b5 => ?_
 refine rS (AG rfl) ?_
 refine RK hK1 ?_
 refine w_seq fun _ hK6 => ?_
 refine WS fun _ hK7 => ?_
 refine rS (LW 3 rfl tk24 rfl rfl) ?_
 refine rS (CL (tcheck_c ts tsA tsC hlen hside) (ha_at 4 rfl rfl <| ha_nil) rfl) ?_
 refine rS (AG rfl) ?_
 refine RK hK7 ?_
 refine WS fun _ hK8 => ?_
 refine rS (MV rfl) ?_
 refine rS (BI rfl b_neq) ?_
 refine RK hK8 ?_
 refine w_if rfl (fun h => ?_) (fun h => ?_)
 rotate_left 1
 · replace h := XF h
   exfalso; simp [htr] at h
 replace h := XT h
 refine w_seq fun _ hK9 => ?_
 refine w_draw4 mixed [0, 1, 2, 5] [3, 4] [false, false, false, false] [false, false] [(blk b5 108 (RiderV.cells (RiderV.mk (SledV.mk 0 (SpanV.mk 0 0) (SpanV.mk 0 0) (SpanV.mk 0 0) (SpanV.mk 0 0) (SpanV.mk 0 0)) (TrackV.mk (Slc.mk none 0 0)) false))), (blk b4 108 (RiderV.cells (RiderV.mk (SledV.mk 0 (SpanV.mk 0 0) (SpanV.mk 0 0) (SpanV.mk 0 0) (SpanV.mk 0 0) (SpanV.mk 0 0)) (TrackV.mk (Slc.mk none 0 0)) false))), (blk b3 28 (SledV.cells s)), (blk b2 24 (TrackV.cells (TrackV.mk (Slc.mk tsA ts.length tsC)))), (rd tsA ts.length 9 (ts.map StretchV.cells)).ro] [] (by kernel_rfl) (fun w hs => St.sel [0, 1, 2, 3, 4] rfl rfl hs) (fun w hs => St.sel [] rfl rfl hs) ?_
 refine eS rfl (LW 1 rfl tk108 rfl rfl) ?_
 refine eS rfl (LW 0 rfl tk108 rfl rfl) ?_
 refine eS rfl (MV rfl) ?_
 refine eS rfl (AG rfl) ?_
 refine d_fin rfl ?_
 refine t_cons rfl fun T10 hT10 => ?_
 refine SW1 rfl ts108 rfl ?_
 refine r_nil (hT10 _ _ (fun w hs => St.sel [0, 1, 2, 3, 4] rfl rfl hs) ?_)
 refine t_cons rfl fun T11 hT11 => ?_
 refine SW0 rfl ts108 rfl ?_
 refine r_nil (hT11 _ _ (fun w hs => St.sel [0, 1, 2, 3, 4] rfl rfl hs) ?_)
 refine t_fin rfl ?_
 refine KK hK9 ?_
 refine w_ret ?_
 refine hQ _ _ _ (l_nil (vs := [(Value.agg (RiderV.cells (RiderV.mk (SledV.mk 0 (SpanV.mk 0 0) (SpanV.mk 0 0) (SpanV.mk 0 0) (SpanV.mk 0 0) (SpanV.mk 0 0)) (TrackV.mk (Slc.mk none 0 0)) false)).toArray), (Value.agg (RiderV.cells (RiderV.mk (SledV.mk 0 (SpanV.mk 0 0) (SpanV.mk 0 0) (SpanV.mk 0 0) (SpanV.mk 0 0) (SpanV.mk 0 0)) (TrackV.mk (Slc.mk none 0 0)) false)).toArray), (Value.int .i64 (if trackOk ts = true then 0 else 10))]) ⟨⟨_, rfl, .inl ⟨_, _, tk108, at_blk (vs := (RiderV.cells (RiderV.mk (SledV.mk 0 (SpanV.mk 0 0) (SpanV.mk 0 0) (SpanV.mk 0 0) (SpanV.mk 0 0) (SpanV.mk 0 0)) (TrackV.mk (Slc.mk none 0 0)) false))) 1 rfl rfl, rfl, rfl⟩⟩, ⟨_, rfl, .inl ⟨_, _, tk108, at_blk (vs := (RiderV.cells (RiderV.mk (SledV.mk 0 (SpanV.mk 0 0) (SpanV.mk 0 0) (SpanV.mk 0 0) (SpanV.mk 0 0) (SpanV.mk 0 0)) (TrackV.mk (Slc.mk none 0 0)) false))) 0 rfl rfl, rfl, rfl⟩⟩, rfl, trivial⟩ fun w hs => endV ?_ hs)
 show (Value.tuple [(Value.agg (RiderV.cells (RiderV.mk (SledV.mk 0 (SpanV.mk 0 0) (SpanV.mk 0 0) (SpanV.mk 0 0) (SpanV.mk 0 0) (SpanV.mk 0 0)) (TrackV.mk (Slc.mk none 0 0)) false)).toArray), (Value.agg (RiderV.cells (RiderV.mk (SledV.mk 0 (SpanV.mk 0 0) (SpanV.mk 0 0) (SpanV.mk 0 0) (SpanV.mk 0 0) (SpanV.mk 0 0)) (TrackV.mk (Slc.mk none 0 0)) false)).toArray), (Value.int .i64 (if trackOk ts = true then 0 else 10))].toArray) = (Value.tuple [(Value.agg (RiderV.cells (RiderV.mk (SledV.mk 0 (SpanV.mk 0 0) (SpanV.mk 0 0) (SpanV.mk 0 0) (SpanV.mk 0 0) (SpanV.mk 0 0)) (TrackV.mk (Slc.mk none 0 0)) false)).toArray), (Value.agg (RiderV.cells (RiderV.mk (SledV.mk 0 (SpanV.mk 0 0) (SpanV.mk 0 0) (SpanV.mk 0 0) (SpanV.mk 0 0) (SpanV.mk 0 0)) (TrackV.mk (Slc.mk none 0 0)) false)).toArray), (Value.int .i64 (bothE s ts))].toArray)
 clear hs w hQ hN hT11 T11 hT10 T10 hK9 hK8 hK7 hK6 hK1
 simp [htr, bothE_bad htr]

set_option maxRecDepth 100000 in
set_option maxHeartbeats 400000 in
theorem open_ok (ts : List StretchV) (tsA : Option Addr) (tsC : Nat) (s : SledV) (hlen : ts.length ≤ 1000000) (hside : ∀ x ∈ ts, 0 ≤ x.Side ∧ x.Side ≤ 255) (htr : trackOk ts = true) :
    FnV Try.prog 60 [(Value.agg (TrackV.cells (TrackV.mk (Slc.mk tsA ts.length tsC))).toArray), (Value.agg (SledV.cells s).toArray)] [(rd tsA ts.length 9 (ts.map StretchV.cells))] (Value.tuple [(Value.agg (RiderV.cells (RiderV.mk s (TrackV.mk (Slc.mk tsA ts.length tsC)) false)).toArray), (Value.agg (RiderV.cells (RiderV.mk s (TrackV.mk (Slc.mk tsA ts.length tsC)) true)).toArray), (Value.int .i64 (bothE s ts))].toArray) := by
 refine fnV_of go60 Try.func60 rfl rfl fun w0 Q hQ hN => ?_
 change WJ _ _ _ _ [(0, (Value.agg (TrackV.cells (TrackV.mk (Slc.mk tsA ts.length tsC))).toArray)), (1, (Value.agg (SledV.cells s).toArray))] [(rd tsA ts.length 9 (ts.map StretchV.cells)).ro]
 refine WS fun _ hK1 => ?_
 refine BXA rfl fun b2 => ?_
 refine BXA rfl fun b3 => ?_
 refine AL rfl tz108 fun b4 => ?_
 refine AL rfl tz108 fun b5 => ?_
 refine rS (AG rfl) ?_
 refine RK hK1 ?_
 refine w_seq fun _ hK6 => ?_
 refine WS fun _ hK7 => ?_
 refine rS (LW 3 rfl tk24 rfl rfl) ?_
 refine rS (CL (tcheck_c ts tsA tsC hlen hside) (ha_at 4 rfl rfl <| ha_nil) rfl) ?_
 refine rS (AG rfl) ?_
 refine RK hK7 ?_
 refine WS fun _ hK8 => ?_
 refine rS (MV rfl) ?_
 refine rS (BI rfl b_neq) ?_
 refine RK hK8 ?_
 refine w_if rfl (fun h => ?_) (fun h => ?_)
 · replace h := XT h
   exact absurd (by simp [htr]) h
 replace h := XF h
 refine WK hK6 ?_
 refine w_seq fun _ hK9 => ?_
 refine w_draw4 mixed [0, 1, 2, 3, 4, 5, 6, 7, 10] [8, 9] [false, false, false, false, false, false, false, false, false] [false, false] [(blk b3 28 (SledV.cells s)), (blk b2 24 (TrackV.cells (TrackV.mk (Slc.mk tsA ts.length tsC)))), (rd tsA ts.length 9 (ts.map StretchV.cells)).ro] [] (by kernel_rfl) (fun w hs => St.sel [2, 3, 4] rfl rfl hs) (fun w hs => St.sel [] rfl rfl hs) ?_
 refine eS rfl (LW 0 rfl tk28 rfl rfl) ?_
 refine eS rfl (LW 1 rfl tk24 rfl rfl) ?_
 refine eS rfl (SX (sd_build (xs := [(0, .tmp 15), (1, .tmp 16), (2, .const (Value.bool false))]) (cs := (RiderV.cells (RiderV.mk s (TrackV.mk (Slc.mk tsA ts.length tsC)) false))) rfl rfl (built_of tb108 rfl)) rfl rfl) ?_
 refine eS rfl (LW 0 rfl tk28 rfl rfl) ?_
 refine eS rfl (LW 1 rfl tk24 rfl rfl) ?_
 refine eS rfl (SX (sd_build (xs := [(0, .tmp 18), (1, .tmp 19), (2, .const (Value.bool true))]) (cs := (RiderV.cells (RiderV.mk s (TrackV.mk (Slc.mk tsA ts.length tsC)) true))) rfl rfl (built_of tb108 rfl)) rfl rfl) ?_
 refine eS rfl (LW 0 rfl tk28 rfl rfl) ?_
 refine eS rfl (CL (scheck_c s) (ha_nil) rfl) ?_
 refine eS rfl (AG rfl) ?_
 refine d_fin rfl ?_
 refine t_cons rfl fun T10 hT10 => ?_
 refine SW1 rfl ts108 rfl ?_
 refine r_nil (hT10 _ _ (fun w hs => St.sel [2, 3, 4] rfl rfl hs) ?_)
 refine t_cons rfl fun T11 hT11 => ?_
 refine SW0 rfl ts108 rfl ?_
 refine r_nil (hT11 _ _ (fun w hs => St.sel [2, 3, 4] rfl rfl hs) ?_)
 refine t_fin rfl ?_
 refine KK hK9 ?_
 refine w_ret ?_
 refine hQ _ _ _ (l_nil (vs := [(Value.agg (RiderV.cells (RiderV.mk s (TrackV.mk (Slc.mk tsA ts.length tsC)) false)).toArray), (Value.agg (RiderV.cells (RiderV.mk s (TrackV.mk (Slc.mk tsA ts.length tsC)) true)).toArray), (Value.int .i64 (if SledOk s then 0 else 30))]) ⟨⟨_, rfl, .inl ⟨_, _, tk108, at_blk (vs := (RiderV.cells (RiderV.mk s (TrackV.mk (Slc.mk tsA ts.length tsC)) false))) 1 rfl rfl, rfl, rfl⟩⟩, ⟨_, rfl, .inl ⟨_, _, tk108, at_blk (vs := (RiderV.cells (RiderV.mk s (TrackV.mk (Slc.mk tsA ts.length tsC)) true))) 0 rfl rfl, rfl, rfl⟩⟩, rfl, trivial⟩ fun w hs => endV ?_ hs)
 show (Value.tuple [(Value.agg (RiderV.cells (RiderV.mk s (TrackV.mk (Slc.mk tsA ts.length tsC)) false)).toArray), (Value.agg (RiderV.cells (RiderV.mk s (TrackV.mk (Slc.mk tsA ts.length tsC)) true)).toArray), (Value.int .i64 (if SledOk s then 0 else 30))].toArray) = (Value.tuple [(Value.agg (RiderV.cells (RiderV.mk s (TrackV.mk (Slc.mk tsA ts.length tsC)) false)).toArray), (Value.agg (RiderV.cells (RiderV.mk s (TrackV.mk (Slc.mk tsA ts.length tsC)) true)).toArray), (Value.int .i64 (bothE s ts))].toArray)
 clear hs w hQ hN hT11 T11 hT10 T10 hK9 hK8 hK7 hK6 hK1
 rw [bothE, if_pos htr]

end Go.Proofs.Ytpbgdeojcefnmaa
