/-
  The statement beamAhead_said, part 6 of 6: A1, A2, B9, R1, L6, LineOpen, Ahead0.
  Conditions: none.
-/
import Derived.Test.YtaehngpnlkokkaaKAh1
import Derived.Test.YtaehngpnlkokkaaKAh2
import Derived.Test.YtaehngpnlkokkaaKAh3
import Derived.Test.YtaehngpnlkokkaaKAh4
import Derived.Test.YtaehngpnlkokkaaKAh5
import Derived.Test.YtaehngpnlkokkaaRows
import Derived.Test.YtaehngpnlkokkaaProg
import Derived.KernelRfl
namespace Go.Proofs.Ytaehngpnlkokkaa
section
open Go.RowKit
set_option linter.unusedVariables false
set_option maxRecDepth 100000 in
set_option maxHeartbeats 400000 in
theorem lspan_c (x : Int) (y : Int) :
    FnV Try.prog 35 [(Value.int .i64 x), (Value.int .i64 y)] [] (Value.agg (SpanV.cells (SpanV.mk x y)).toArray) := by
 refine fnV_of go35 Try.func35 rfl rfl fun w0 Q hQ hN => ?_
 try dsimp only
 refine WS fun _ hK1 => ?_
 refine AL rfl tz34 fun b2 => ?_
 refine RK hK1 ?_
 refine WS fun _ hK3 => ?_
 refine rS (MV rfl) ?_
 refine rS (MV rfl) ?_
 refine rS (SX (sd_build (xs := [(0, .tmp 5), (1, .tmp 6)]) (cs := (SpanV.cells (SpanV.mk x y))) rfl rfl (built_of tb34 rfl)) rfl rfl) ?_
 refine SW0 rfl ts34 rfl ?_
 refine RK hK3 ?_
 refine w_ret ?_
 refine hQ _ _ _ (l_nil (vs := [(Value.agg (SpanV.cells (SpanV.mk x y)).toArray)]) ⟨⟨_, rfl, .inl ⟨_, _, tk34, at_blk (vs := (SpanV.cells (SpanV.mk x y))) 0 rfl rfl, rfl, rfl⟩⟩, trivial⟩ fun w hs => endV ?_ hs)
 show (Value.agg (SpanV.cells (SpanV.mk x y)).toArray) = (Value.agg (SpanV.cells (SpanV.mk x y)).toArray)
 clear hs w hQ hN hK3 hK1
 rfl
set_option maxRecDepth 100000 in
set_option maxHeartbeats 400000 in
theorem line1_c  :
    FnX Try.prog 39 [(Value.int .i64 1)] [] (fun (x : (Option Addr) × Nat × (Option Addr) × Nat × (List RA) × (Option Addr) × Nat) => (Value.agg (LineV.cells (LineV.mk (TrackV.mk (Slc.mk x.1 exL1.Track.length x.2.1)) exL1.Fast (Slc.mk x.2.2.1 exL1.Clocks.length x.2.2.2.1) (Slc.mk x.2.2.2.2.2.1 exL1.Beams.length x.2.2.2.2.2.2) exL1.Finish exL1.Fakes exL1.Misses)).toArray)) (fun (x : (Option Addr) × Nat × (Option Addr) × Nat × (List RA) × (Option Addr) × Nat) => x.2.2.2.2.1.length = exL1.Clocks.length ∧ LineIn exL1 x.2.2.2.2.1) (fun (x : (Option Addr) × Nat × (Option Addr) × Nat × (List RA) × (Option Addr) × Nat) => [(own x.1 x.2.1 126 9 (exL1.Track.map StretchV.cells)), (own x.2.2.1 x.2.2.2.1 64 2 (List.zipWith ClockM.cells exL1.Clocks x.2.2.2.2.1)), (bund (nest ClockM.owns exL1.Clocks x.2.2.2.2.1)), (own x.2.2.2.2.2.1 x.2.2.2.2.2.2 55 4 (exL1.Beams.map BeamV.cells))]) := by
 refine fnX_of go39 Try.func39 rfl rfl fun w0 Q hQ hN => ?_
 try dsimp only
 refine WS fun _ hK1 => ?_
 refine AL rfl tz28 fun b2 => ?_
 refine RK hK1 ?_
 refine WS fun _ hK3 => ?_
 refine rS (CL (lspan_c 10000 10200) (ha_nil) rfl) ?_
 refine rS (SX (sd_build (xs := [(0, .const (Value.int .i64 1)), (1, .tmp 3)]) (cs := (StretchV.cells (StretchV.mk 1 (SpanV.mk 10000 10200) (SpanV.mk 0 0) (SpanV.mk 0 0) 0 0))) rfl rfl (built_of tb126 rfl)) rfl rfl) ?_
 refine r_bs (xs := [.tmp 4]) (cs := (StretchV.cells (StretchV.mk 1 (SpanV.mk 10000 10200) (SpanV.mk 0 0) (SpanV.mk 0 0) 0 0))) rfl te22 tz126 rfl rfl rfl rfl (by simp [Value.cells, StretchV.cells_length]) rfl rfl fun b4 => ?_
 refine rS (SX (sd_build (xs := [(0, .tmp 5)]) (cs := (TrackV.cells (TrackV.mk (Slc.mk (some ⟨b4, 0, none⟩) 1 1)))) rfl rfl (built_of tb24 rfl)) rfl rfl) ?_
 refine rS (MV rfl) ?_
 refine rS (CL (lspan_c 0 2) (ha_nil) rfl) ?_
 refine rS (SX (sd_build (xs := [(0, .const (Value.int .i64 0)), (1, .tmp 8)]) (cs := (SyncV.cells (SyncV.mk 0 (SpanV.mk 0 2)))) rfl rfl (built_of tb61 rfl)) rfl rfl) ?_
 refine rS (CL (lspan_c 5 6) (ha_nil) rfl) ?_
 refine rS (SX (sd_build (xs := [(0, .const (Value.int .i64 100000)), (1, .tmp 10)]) (cs := (SyncV.cells (SyncV.mk 100000 (SpanV.mk 5 6)))) rfl rfl (built_of tb61 rfl)) rfl rfl) ?_
 refine r_bs (xs := [.tmp 9, .tmp 11]) (cs := ((SyncV.cells (SyncV.mk 0 (SpanV.mk 0 2))) ++ (SyncV.cells (SyncV.mk 100000 (SpanV.mk 5 6))))) rfl te62 tz61 rfl rfl rfl rfl (by simp [Value.cells, SyncV.cells_length]) rfl rfl fun b5 => ?_
 refine rS (SX (sd_build (xs := [(0, .const (Value.int .i64 100)), (1, .tmp 12)]) (cs := (ClockV.cells (ClockV.mk 100 (Slc.mk (some ⟨b5, 0, none⟩) 2 2)))) rfl rfl (built_of tb64 rfl)) rfl rfl) ?_
 refine r_bs (xs := [.tmp 13]) (cs := (ClockV.cells (ClockV.mk 100 (Slc.mk (some ⟨b5, 0, none⟩) 2 2)))) rfl te25 tz64 rfl rfl rfl rfl (by simp [Value.cells, ClockV.cells_length]) rfl rfl fun b6 => ?_
 refine rS (CL (lspan_c 1000 1000) (ha_nil) rfl) ?_
 refine rS (SX (sd_build (xs := [(1, .tmp 15)]) (cs := (SpotV.cells (SpotV.mk 0 (SpanV.mk 1000 1000)))) rfl rfl (built_of tb53 rfl)) rfl rfl) ?_
 refine rS (SX (sd_build (xs := [(0, .tmp 16)]) (cs := (BeamV.cells (BeamV.mk (SpotV.mk 0 (SpanV.mk 1000 1000)) 0))) rfl rfl (built_of tb55 rfl)) rfl rfl) ?_
 refine rS (CL (lspan_c 4000 4000) (ha_nil) rfl) ?_
 refine rS (SX (sd_build (xs := [(1, .tmp 18)]) (cs := (SpotV.cells (SpotV.mk 0 (SpanV.mk 4000 4000)))) rfl rfl (built_of tb53 rfl)) rfl rfl) ?_
 refine rS (SX (sd_build (xs := [(0, .tmp 19)]) (cs := (BeamV.cells (BeamV.mk (SpotV.mk 0 (SpanV.mk 4000 4000)) 0))) rfl rfl (built_of tb55 rfl)) rfl rfl) ?_
 refine rS (CL (lspan_c 9000 9000) (ha_nil) rfl) ?_
 refine rS (SX (sd_build (xs := [(1, .tmp 21)]) (cs := (SpotV.cells (SpotV.mk 0 (SpanV.mk 9000 9000)))) rfl rfl (built_of tb53 rfl)) rfl rfl) ?_
 refine rS (SX (sd_build (xs := [(0, .tmp 22)]) (cs := (BeamV.cells (BeamV.mk (SpotV.mk 0 (SpanV.mk 9000 9000)) 0))) rfl rfl (built_of tb55 rfl)) rfl rfl) ?_
 refine r_bs (xs := [.tmp 17, .tmp 20, .tmp 23]) (cs := ((BeamV.cells (BeamV.mk (SpotV.mk 0 (SpanV.mk 1000 1000)) 0)) ++ (BeamV.cells (BeamV.mk (SpotV.mk 0 (SpanV.mk 4000 4000)) 0)) ++ (BeamV.cells (BeamV.mk (SpotV.mk 0 (SpanV.mk 9000 9000)) 0)))) rfl te26 tz55 rfl rfl rfl rfl (by simp [Value.cells, BeamV.cells_length]) rfl rfl fun b7 => ?_
 refine rS (SX (sd_build (xs := [(0, .tmp 6), (1, .const (Value.int .i64 2000)), (4, .const (Value.int .i64 1)), (5, .tmp 7), (6, .const (Value.int .i64 1)), (2, .tmp 14), (3, .tmp 24)]) (cs := (LineV.cells (LineV.mk (TrackV.mk (Slc.mk (some ⟨b4, 0, none⟩) 1 1)) 2000 (Slc.mk (some ⟨b6, 0, none⟩) 1 1) (Slc.mk (some ⟨b7, 0, none⟩) 3 3) 1 1 1))) rfl rfl (built_of tb28 rfl)) rfl rfl) ?_
 refine r_blk_own (es := (exL1.Track.map StretchV.cells)) (C' := [_, _, _, (own (some ⟨b4, 0, none⟩) 1 126 9 (exL1.Track.map StretchV.cells)), _]) 3 rfl (map_len StretchV.cells_length _) rfl (by show _ ≤ maxLen; exact Nat.le_trans (m := 10) (by first | decide | (show (1 : Nat) ≤ 10; decide)) (by decide)) rfl ?_
 refine r_blk_own (es := (exC.Syncs.map SyncV.cells)) (C' := [_, _, (own (some ⟨b5, 0, none⟩) 2 61 3 (exC.Syncs.map SyncV.cells)), _, _]) 2 rfl (map_len SyncV.cells_length _) rfl (by show _ ≤ maxLen; exact Nat.le_trans (m := 10) (by first | decide | (show (1 : Nat) ≤ 10; decide)) (by decide)) rfl ?_
 refine r_blk_own (es := (List.zipWith ClockM.cells exL1.Clocks [((some ⟨b5, 0, none⟩), 2)])) (C' := [_, (own (some ⟨b6, 0, none⟩) 1 64 2 (List.zipWith ClockM.cells exL1.Clocks [((some ⟨b5, 0, none⟩), 2)])), _, _, _]) 1 rfl (by intro x hx; change x ∈ [ClockM.cells exC ((some ⟨b5, 0, none⟩), 2)] at hx; rw [List.mem_singleton.1 hx]; rfl) rfl (by show _ ≤ maxLen; exact Nat.le_trans (m := 10) (by first | decide | (show (1 : Nat) ≤ 10; decide)) (by decide)) rfl ?_
 refine r_blk_own (es := (exL1.Beams.map BeamV.cells)) (C' := [(own (some ⟨b7, 0, none⟩) 3 55 4 (exL1.Beams.map BeamV.cells)), _, _, _, _]) 0 rfl (map_len BeamV.cells_length _) rfl (by show _ ≤ maxLen; exact Nat.le_trans (m := 10) (by first | decide | (show (1 : Nat) ≤ 10; decide)) (by decide)) rfl ?_
 refine r_tie0 ?_
 refine r_tie (X := []) (X' := nest ClockM.owns exL1.Clocks [((some ⟨b5, 0, none⟩), 2)]) 0 3 rfl rfl rfl ?_
 refine SW4 rfl ts28 rfl ?_
 refine RK hK3 ?_
 refine w_ret ?_
 refine hQ _ _ _ (l_nil (vs := [(Value.agg (LineV.cells (LineV.mk (TrackV.mk (Slc.mk (some ⟨b4, 0, none⟩) 1 1)) 2000 (Slc.mk (some ⟨b6, 0, none⟩) 1 1) (Slc.mk (some ⟨b7, 0, none⟩) 3 3) 1 1 1)).toArray)]) ⟨⟨_, rfl, .inl ⟨_, _, tk28, at_blk (vs := (LineV.cells (LineV.mk (TrackV.mk (Slc.mk (some ⟨b4, 0, none⟩) 1 1)) 2000 (Slc.mk (some ⟨b6, 0, none⟩) 1 1) (Slc.mk (some ⟨b7, 0, none⟩) 3 3) 1 1 1))) 4 rfl rfl, rfl, rfl⟩⟩, trivial⟩ fun w hs => endX ((some ⟨b4, 0, none⟩), 1, (some ⟨b6, 0, none⟩), 1, [((some ⟨b5, 0, none⟩), 2)], (some ⟨b7, 0, none⟩), 3) [3, 2, 0, 1] ?_ ?_ rfl rfl (by simp only [List.all_cons, List.all_nil, bund_owns_wr, Bool.and_true]; rfl) hs)
 · rfl
 · exact ⟨rfl, ex_in _ (by decide)⟩
set_option maxRecDepth 100000 in
set_option maxHeartbeats 400000 in
theorem line0_c  :
    FnX Try.prog 39 [(Value.int .i64 0)] [] (fun (x : (Option Addr) × Nat × (Option Addr) × Nat × (List RA) × (Option Addr) × Nat) => (Value.agg (LineV.cells (LineV.mk (TrackV.mk (Slc.mk x.1 exL0.Track.length x.2.1)) exL0.Fast (Slc.mk x.2.2.1 exL0.Clocks.length x.2.2.2.1) (Slc.mk x.2.2.2.2.2.1 exL0.Beams.length x.2.2.2.2.2.2) exL0.Finish exL0.Fakes exL0.Misses)).toArray)) (fun (x : (Option Addr) × Nat × (Option Addr) × Nat × (List RA) × (Option Addr) × Nat) => x.2.2.2.2.1.length = exL0.Clocks.length ∧ LineIn exL0 x.2.2.2.2.1) (fun (x : (Option Addr) × Nat × (Option Addr) × Nat × (List RA) × (Option Addr) × Nat) => [(own x.1 x.2.1 126 9 (exL0.Track.map StretchV.cells)), (own x.2.2.1 x.2.2.2.1 64 2 (List.zipWith ClockM.cells exL0.Clocks x.2.2.2.2.1)), (bund (nest ClockM.owns exL0.Clocks x.2.2.2.2.1)), (own x.2.2.2.2.2.1 x.2.2.2.2.2.2 55 4 (exL0.Beams.map BeamV.cells))]) := by
 refine fnX_of go39 Try.func39 rfl rfl fun w0 Q hQ hN => ?_
 try dsimp only
 refine WS fun _ hK1 => ?_
 refine AL rfl tz28 fun b2 => ?_
 refine RK hK1 ?_
 refine WS fun _ hK3 => ?_
 refine rS (CL (lspan_c 10000 10200) (ha_nil) rfl) ?_
 refine rS (SX (sd_build (xs := [(0, .const (Value.int .i64 1)), (1, .tmp 3)]) (cs := (StretchV.cells (StretchV.mk 1 (SpanV.mk 10000 10200) (SpanV.mk 0 0) (SpanV.mk 0 0) 0 0))) rfl rfl (built_of tb126 rfl)) rfl rfl) ?_
 refine r_bs (xs := [.tmp 4]) (cs := (StretchV.cells (StretchV.mk 1 (SpanV.mk 10000 10200) (SpanV.mk 0 0) (SpanV.mk 0 0) 0 0))) rfl te22 tz126 rfl rfl rfl rfl (by simp [Value.cells, StretchV.cells_length]) rfl rfl fun b4 => ?_
 refine rS (SX (sd_build (xs := [(0, .tmp 5)]) (cs := (TrackV.cells (TrackV.mk (Slc.mk (some ⟨b4, 0, none⟩) 1 1)))) rfl rfl (built_of tb24 rfl)) rfl rfl) ?_
 refine rS (MV rfl) ?_
 refine rS (CL (lspan_c 0 2) (ha_nil) rfl) ?_
 refine rS (SX (sd_build (xs := [(0, .const (Value.int .i64 0)), (1, .tmp 8)]) (cs := (SyncV.cells (SyncV.mk 0 (SpanV.mk 0 2)))) rfl rfl (built_of tb61 rfl)) rfl rfl) ?_
 refine rS (CL (lspan_c 5 6) (ha_nil) rfl) ?_
 refine rS (SX (sd_build (xs := [(0, .const (Value.int .i64 100000)), (1, .tmp 10)]) (cs := (SyncV.cells (SyncV.mk 100000 (SpanV.mk 5 6)))) rfl rfl (built_of tb61 rfl)) rfl rfl) ?_
 refine r_bs (xs := [.tmp 9, .tmp 11]) (cs := ((SyncV.cells (SyncV.mk 0 (SpanV.mk 0 2))) ++ (SyncV.cells (SyncV.mk 100000 (SpanV.mk 5 6))))) rfl te62 tz61 rfl rfl rfl rfl (by simp [Value.cells, SyncV.cells_length]) rfl rfl fun b5 => ?_
 refine rS (SX (sd_build (xs := [(0, .const (Value.int .i64 100)), (1, .tmp 12)]) (cs := (ClockV.cells (ClockV.mk 100 (Slc.mk (some ⟨b5, 0, none⟩) 2 2)))) rfl rfl (built_of tb64 rfl)) rfl rfl) ?_
 refine r_bs (xs := [.tmp 13]) (cs := (ClockV.cells (ClockV.mk 100 (Slc.mk (some ⟨b5, 0, none⟩) 2 2)))) rfl te25 tz64 rfl rfl rfl rfl (by simp [Value.cells, ClockV.cells_length]) rfl rfl fun b6 => ?_
 refine rS (CL (lspan_c 1000 1000) (ha_nil) rfl) ?_
 refine rS (SX (sd_build (xs := [(1, .tmp 15)]) (cs := (SpotV.cells (SpotV.mk 0 (SpanV.mk 1000 1000)))) rfl rfl (built_of tb53 rfl)) rfl rfl) ?_
 refine rS (SX (sd_build (xs := [(0, .tmp 16)]) (cs := (BeamV.cells (BeamV.mk (SpotV.mk 0 (SpanV.mk 1000 1000)) 0))) rfl rfl (built_of tb55 rfl)) rfl rfl) ?_
 refine rS (CL (lspan_c 4000 4000) (ha_nil) rfl) ?_
 refine rS (SX (sd_build (xs := [(1, .tmp 18)]) (cs := (SpotV.cells (SpotV.mk 0 (SpanV.mk 4000 4000)))) rfl rfl (built_of tb53 rfl)) rfl rfl) ?_
 refine rS (SX (sd_build (xs := [(0, .tmp 19)]) (cs := (BeamV.cells (BeamV.mk (SpotV.mk 0 (SpanV.mk 4000 4000)) 0))) rfl rfl (built_of tb55 rfl)) rfl rfl) ?_
 refine rS (CL (lspan_c 9000 9000) (ha_nil) rfl) ?_
 refine rS (SX (sd_build (xs := [(1, .tmp 21)]) (cs := (SpotV.cells (SpotV.mk 0 (SpanV.mk 9000 9000)))) rfl rfl (built_of tb53 rfl)) rfl rfl) ?_
 refine rS (SX (sd_build (xs := [(0, .tmp 22)]) (cs := (BeamV.cells (BeamV.mk (SpotV.mk 0 (SpanV.mk 9000 9000)) 0))) rfl rfl (built_of tb55 rfl)) rfl rfl) ?_
 refine r_bs (xs := [.tmp 17, .tmp 20, .tmp 23]) (cs := ((BeamV.cells (BeamV.mk (SpotV.mk 0 (SpanV.mk 1000 1000)) 0)) ++ (BeamV.cells (BeamV.mk (SpotV.mk 0 (SpanV.mk 4000 4000)) 0)) ++ (BeamV.cells (BeamV.mk (SpotV.mk 0 (SpanV.mk 9000 9000)) 0)))) rfl te26 tz55 rfl rfl rfl rfl (by simp [Value.cells, BeamV.cells_length]) rfl rfl fun b7 => ?_
 refine rS (SX (sd_build (xs := [(0, .tmp 6), (1, .const (Value.int .i64 2000)), (4, .const (Value.int .i64 1)), (5, .tmp 7), (6, .const (Value.int .i64 1)), (2, .tmp 14), (3, .tmp 24)]) (cs := (LineV.cells (LineV.mk (TrackV.mk (Slc.mk (some ⟨b4, 0, none⟩) 1 1)) 2000 (Slc.mk (some ⟨b6, 0, none⟩) 1 1) (Slc.mk (some ⟨b7, 0, none⟩) 3 3) 1 0 1))) rfl rfl (built_of tb28 rfl)) rfl rfl) ?_
 refine r_blk_own (es := (exL0.Track.map StretchV.cells)) (C' := [_, _, _, (own (some ⟨b4, 0, none⟩) 1 126 9 (exL0.Track.map StretchV.cells)), _]) 3 rfl (map_len StretchV.cells_length _) rfl (by show _ ≤ maxLen; exact Nat.le_trans (m := 10) (by first | decide | (show (1 : Nat) ≤ 10; decide)) (by decide)) rfl ?_
 refine r_blk_own (es := (exC.Syncs.map SyncV.cells)) (C' := [_, _, (own (some ⟨b5, 0, none⟩) 2 61 3 (exC.Syncs.map SyncV.cells)), _, _]) 2 rfl (map_len SyncV.cells_length _) rfl (by show _ ≤ maxLen; exact Nat.le_trans (m := 10) (by first | decide | (show (1 : Nat) ≤ 10; decide)) (by decide)) rfl ?_
 refine r_blk_own (es := (List.zipWith ClockM.cells exL0.Clocks [((some ⟨b5, 0, none⟩), 2)])) (C' := [_, (own (some ⟨b6, 0, none⟩) 1 64 2 (List.zipWith ClockM.cells exL0.Clocks [((some ⟨b5, 0, none⟩), 2)])), _, _, _]) 1 rfl (by intro x hx; change x ∈ [ClockM.cells exC ((some ⟨b5, 0, none⟩), 2)] at hx; rw [List.mem_singleton.1 hx]; rfl) rfl (by show _ ≤ maxLen; exact Nat.le_trans (m := 10) (by first | decide | (show (1 : Nat) ≤ 10; decide)) (by decide)) rfl ?_
 refine r_blk_own (es := (exL0.Beams.map BeamV.cells)) (C' := [(own (some ⟨b7, 0, none⟩) 3 55 4 (exL0.Beams.map BeamV.cells)), _, _, _, _]) 0 rfl (map_len BeamV.cells_length _) rfl (by show _ ≤ maxLen; exact Nat.le_trans (m := 10) (by first | decide | (show (1 : Nat) ≤ 10; decide)) (by decide)) rfl ?_
 refine r_tie0 ?_
 refine r_tie (X := []) (X' := nest ClockM.owns exL0.Clocks [((some ⟨b5, 0, none⟩), 2)]) 0 3 rfl rfl rfl ?_
 refine SW4 rfl ts28 rfl ?_
 refine RK hK3 ?_
 refine w_ret ?_
 refine hQ _ _ _ (l_nil (vs := [(Value.agg (LineV.cells (LineV.mk (TrackV.mk (Slc.mk (some ⟨b4, 0, none⟩) 1 1)) 2000 (Slc.mk (some ⟨b6, 0, none⟩) 1 1) (Slc.mk (some ⟨b7, 0, none⟩) 3 3) 1 0 1)).toArray)]) ⟨⟨_, rfl, .inl ⟨_, _, tk28, at_blk (vs := (LineV.cells (LineV.mk (TrackV.mk (Slc.mk (some ⟨b4, 0, none⟩) 1 1)) 2000 (Slc.mk (some ⟨b6, 0, none⟩) 1 1) (Slc.mk (some ⟨b7, 0, none⟩) 3 3) 1 0 1))) 4 rfl rfl, rfl, rfl⟩⟩, trivial⟩ fun w hs => endX ((some ⟨b4, 0, none⟩), 1, (some ⟨b6, 0, none⟩), 1, [((some ⟨b5, 0, none⟩), 2)], (some ⟨b7, 0, none⟩), 3) [3, 2, 0, 1] ?_ ?_ rfl rfl (by simp only [List.all_cons, List.all_nil, bund_owns_wr, Bool.and_true]; rfl) hs)
 · rfl
 · exact ⟨rfl, ex_in _ (by decide)⟩
set_option maxRecDepth 100000 in
set_option maxHeartbeats 400000 in
theorem exride_c  :
    FnX Try.prog 41 [] [] (fun (x : (Option Addr) × Nat) => (Value.agg (RideV.cells (RideV.mk exR.Start exR.Now (Slc.mk x.1 exR.Signals.length x.2))).toArray)) (fun (x : (Option Addr) × Nat) => True) (fun (x : (Option Addr) × Nat) => [(own x.1 x.2 30 2 (exR.Signals.map SignalV.cells))]) := by
 refine fnX_of go41 Try.func41 rfl rfl fun w0 Q hQ hN => ?_
 try dsimp only
 refine WS fun _ hK1 => ?_
 refine AL rfl tz69 fun b2 => ?_
 refine RK hK1 ?_
 refine WS fun _ hK3 => ?_
 refine rS (SX (sd_build (xs := [(0, .const (Value.int .i64 0)), (1, .const (Value.int .i64 10600))]) (cs := (SignalV.cells (SignalV.mk 0 10600))) rfl rfl (built_of tb30 rfl)) rfl rfl) ?_
 refine rS (SX (sd_build (xs := [(0, .const (Value.int .i64 0)), (1, .const (Value.int .i64 11000))]) (cs := (SignalV.cells (SignalV.mk 0 11000))) rfl rfl (built_of tb30 rfl)) rfl rfl) ?_
 refine rS (SX (sd_build (xs := [(0, .const (Value.int .i64 1)), (1, .const (Value.int .i64 12600))]) (cs := (SignalV.cells (SignalV.mk 1 12600))) rfl rfl (built_of tb30 rfl)) rfl rfl) ?_
 refine r_bs (xs := [.tmp 1, .tmp 2, .tmp 3]) (cs := ((SignalV.cells (SignalV.mk 0 10600)) ++ (SignalV.cells (SignalV.mk 0 11000)) ++ (SignalV.cells (SignalV.mk 1 12600)))) rfl te67 tz30 rfl rfl rfl rfl (by simp [Value.cells, SignalV.cells_length]) rfl rfl fun b4 => ?_
 refine rS (SX (sd_build (xs := [(0, .const (Value.int .i64 10000)), (1, .const (Value.int .i64 20000)), (2, .tmp 4)]) (cs := (RideV.cells (RideV.mk 10000 20000 (Slc.mk (some ⟨b4, 0, none⟩) 3 3)))) rfl rfl (built_of tb69 rfl)) rfl rfl) ?_
 refine r_blk_own (es := (exR.Signals.map SignalV.cells)) (C' := [(own (some ⟨b4, 0, none⟩) 3 30 2 (exR.Signals.map SignalV.cells)), _]) 0 rfl (map_len SignalV.cells_length _) rfl (by decide) rfl ?_
 refine SW1 rfl ts69 rfl ?_
 refine RK hK3 ?_
 refine w_ret ?_
 refine hQ _ _ _ (l_nil (vs := [(Value.agg (RideV.cells (RideV.mk 10000 20000 (Slc.mk (some ⟨b4, 0, none⟩) 3 3))).toArray)]) ⟨⟨_, rfl, .inl ⟨_, _, tk69, at_blk (vs := (RideV.cells (RideV.mk 10000 20000 (Slc.mk (some ⟨b4, 0, none⟩) 3 3)))) 1 rfl rfl, rfl, rfl⟩⟩, trivial⟩ fun w hs => endX ((some ⟨b4, 0, none⟩), 3) [0] ?_ ?_ rfl rfl rfl hs)
 · rfl
 · trivial
end
section
open Go.RowKit
set_option linter.unusedVariables false
set_option maxRecDepth 100000 in
set_option maxHeartbeats 400000 in
theorem exahead_c (x : Int) (lo : Int) (hi : Int) :
    FnV Try.prog 38 [(Value.int .i64 x), (Value.int .i64 lo), (Value.int .i64 hi)] [] (Value.bool (decide (aheadE exL1 0 x = 0 ∧ aheadV exL1 0 x = SpanV.mk lo hi))) := by
 refine fnV_of go38 Try.func38 rfl rfl fun w0 Q hQ hN => ?_
 try dsimp only
 refine WS fun _ hK1 => ?_
 refine rS (AG rfl) ?_
 refine RK hK1 ?_
 refine WS fun _ hK2 => ?_
 refine cX line1_c (ha_nil) rfl fun y3 hy4 => ?_
 obtain ⟨a15, c16, a27, c28, bz9, a310, c311⟩ := y3
 try dsimp only
 obtain ⟨hbz, hlin⟩ := hy4
 refine rS (MV rfl) ?_
 refine rS (CL (Ahead_c exL1 a15 c16 bz9 a27 c28 a310 c311 0 x (by exact hlin)) (ha_cons (has_own_n (n := exL1.Track.length) 0 rfl (by simp)) <| ha_cons (has_own_n (n := exL1.Clocks.length) 1 rfl (zip_len (by first | exact hbz | assumption))) <| ha_cons (bun_bund 2 rfl owns_rds) <| ha_cons (has_own_n (n := exL1.Beams.length) 3 rfl (by simp)) <| ha_nil) rfl) ?_
 refine rS (MV rfl) ?_
 refine rS (EX rfl) ?_
 refine rS (EX rfl) ?_
 refine AL rfl tz34 fun b12 => ?_
 refine SW0 rfl ts34 rfl ?_
 refine rS (AG rfl) ?_
 refine RK hK2 ?_
 refine w_seq fun _ hK13 => ?_
 refine w_draw mixed 10 (by kernel_rfl) ?_
 refine dS (MV rfl) ?_
 refine dS (BI rfl b_eql) ?_
 refine dS (MV rfl) ?_
 refine d_bool (t := 17) rfl (fun h17 => ?_) (fun h17 => ?_)
 rotate_left 1
 · replace h17 := DF h17
   refine dS (OX rfl) ?_
   refine dS (OX rfl) ?_
   refine dS (OX rfl) ?_
   refine dS (OX rfl) ?_
   refine dS (OX rfl) ?_
   refine dS (PK rfl) ?_
   refine dS (AG rfl) ?_
   refine d_end ?_
   refine RK hK13 ?_
   refine w_ret ?_
   refine Q1 hQ rfl rfl rfl ?_
   first | exact congrArg Value.bool (decide_eq_false fun q => h17 q.1).symm | exact congrArg Value.bool (decide_eq_decide.2 ⟨fun q => ⟨h17, q⟩, fun q => q.2⟩)
 replace h17 := DT h17
 refine dS (LW 0 rfl tk34 rfl rfl) ?_
 refine dS (MV rfl) ?_
 refine dS (MV rfl) ?_
 refine dS (CL (lspan_c lo hi) (ha_nil) rfl) ?_
 refine dS (BI rfl (eqs34 _ _ (aheadV exL1 0 x) (SpanV.mk lo hi))) ?_
 refine dS (PK rfl) ?_
 refine dS (AG rfl) ?_
 refine d_end ?_
 refine RK hK13 ?_
 refine w_ret ?_
 refine Q1 hQ rfl rfl rfl ?_
 first | exact congrArg Value.bool (decide_eq_false fun q => h17 q.1).symm | exact congrArg Value.bool (decide_eq_decide.2 ⟨fun q => ⟨h17, q⟩, fun q => q.2⟩)
set_option maxRecDepth 100000 in
set_option maxHeartbeats 400000 in
theorem expassed_c (x : Int) (lo : Int) (hi : Int) :
    FnV Try.prog 59 [(Value.int .i64 x), (Value.int .i64 lo), (Value.int .i64 hi)] [] (Value.bool (decide (passedE exL1 exR x = 0 ∧ passedV exL1 exR x = SpanV.mk lo hi))) := by
 refine fnV_of go59 Try.func59 rfl rfl fun w0 Q hQ hN => ?_
 try dsimp only
 refine WS fun _ hK1 => ?_
 refine rS (AG rfl) ?_
 refine RK hK1 ?_
 refine WS fun _ hK2 => ?_
 refine cX line1_c (ha_nil) rfl fun y3 hy4 => ?_
 obtain ⟨a15, c16, a27, c28, bz9, a310, c311⟩ := y3
 try dsimp only
 obtain ⟨hbz, hlin⟩ := hy4
 refine cX exride_c (ha_nil) rfl fun y12 hy13 => ?_
 obtain ⟨a14, c15⟩ := y12
 try dsimp only
 refine rS (MV rfl) ?_
 refine rS (CL (Passed_c exL1 a15 c16 bz9 a27 c28 a310 c311 exR a14 c15 x (by exact hlin) (by decide)) (ha_cons (has_own_n (n := exL1.Track.length) 1 rfl (by simp)) <| ha_cons (has_own_n (n := exL1.Clocks.length) 2 rfl (zip_len (by first | exact hbz | assumption))) <| ha_cons (bun_bund 3 rfl owns_rds) <| ha_cons (has_own_n (n := exL1.Beams.length) 4 rfl (by simp)) <| ha_cons (has_own_n (n := exR.Signals.length) 0 rfl (by simp)) <| ha_nil) rfl) ?_
 refine rS (MV rfl) ?_
 refine rS (EX rfl) ?_
 refine rS (EX rfl) ?_
 refine AL rfl tz34 fun b16 => ?_
 refine SW0 rfl ts34 rfl ?_
 refine rS (AG rfl) ?_
 refine RK hK2 ?_
 refine w_seq fun _ hK17 => ?_
 refine w_draw mixed 10 (by kernel_rfl) ?_
 refine dS (MV rfl) ?_
 refine dS (BI rfl b_eql) ?_
 refine dS (MV rfl) ?_
 refine d_bool (t := 18) rfl (fun h18 => ?_) (fun h18 => ?_)
 rotate_left 1
 · replace h18 := DF h18
   refine dS (OX rfl) ?_
   refine dS (OX rfl) ?_
   refine dS (OX rfl) ?_
   refine dS (OX rfl) ?_
   refine dS (OX rfl) ?_
   refine dS (PK rfl) ?_
   refine dS (AG rfl) ?_
   refine d_end ?_
   refine RK hK17 ?_
   refine w_ret ?_
   refine Q1 hQ rfl rfl rfl ?_
   first | exact congrArg Value.bool (decide_eq_false fun q => h18 q.1).symm | exact congrArg Value.bool (decide_eq_decide.2 ⟨fun q => ⟨h18, q⟩, fun q => q.2⟩)
 replace h18 := DT h18
 refine dS (LW 0 rfl tk34 rfl rfl) ?_
 refine dS (MV rfl) ?_
 refine dS (MV rfl) ?_
 refine dS (CL (lspan_c lo hi) (ha_nil) rfl) ?_
 refine dS (BI rfl (eqs34 _ _ (passedV exL1 exR x) (SpanV.mk lo hi))) ?_
 refine dS (PK rfl) ?_
 refine dS (AG rfl) ?_
 refine d_end ?_
 refine RK hK17 ?_
 refine w_ret ?_
 refine Q1 hQ rfl rfl rfl ?_
 first | exact congrArg Value.bool (decide_eq_false fun q => h18 q.1).symm | exact congrArg Value.bool (decide_eq_decide.2 ⟨fun q => ⟨h18, q⟩, fun q => q.2⟩)
set_option maxRecDepth 100000 in
set_option maxHeartbeats 400000 in
theorem alive_c  :
    FnV Try.prog 22 [] [] (Value.bool true) := by
 have hxl : exR.Signals.length = 3 := rfl
 refine fnV_of go22 Try.func22 rfl rfl fun w0 Q hQ hN => ?_
 try dsimp only
 refine WS fun _ hK1 => ?_
 refine rS (AG rfl) ?_
 refine RK hK1 ?_
 refine WS fun _ hK2 => ?_
 refine cX line1_c (ha_nil) rfl fun y3 hy4 => ?_
 obtain ⟨a15, c16, a27, c28, bz9, a310, c311⟩ := y3
 try dsimp only
 obtain ⟨hbz, hlin⟩ := hy4
 refine cX exride_c (ha_nil) rfl fun y12 hy13 => ?_
 obtain ⟨a14, c15⟩ := y12
 try dsimp only
 refine rS (SX (sd_field1 (v := (Value.slice a14 exR.Signals.length c15)) rfl rfl fo69_2 tf69_2 rfl) rfl rfl) ?_
 obtain ⟨x, hx⟩ : ∃ y_, exR.Signals[0]? = some y_ := ⟨exR.Signals[0]'(by omega), List.getElem?_eq_getElem _⟩
 have hxm : (exR.Signals.map SignalV.cells)[0]? = some (SignalV.cells x) := by rw [List.getElem?_map, hx]; rfl
 refine rS (IA 0 rfl (has_own_n (n := exR.Signals.length) 0 rfl (by simp)) te67 (by decide) rfl (by omega)) ?_
 refine rS (LEN 0 0 (SignalV.cells x) rfl tk30 (has_own_n (n := exR.Signals.length) 0 rfl (by simp)) hxm rfl (by decide) rfl rfl) ?_
 refine rS (CL (When_c exL1 a15 c16 bz9 a27 c28 a310 c311 x (by exact hlin)) (ha_cons (has_own_n (n := exL1.Track.length) 1 rfl (by simp)) <| ha_cons (has_own_n (n := exL1.Clocks.length) 2 rfl (zip_len (by first | exact hbz | assumption))) <| ha_cons (bun_bund 3 rfl owns_rds) <| ha_cons (has_own_n (n := exL1.Beams.length) 4 rfl (by simp)) <| ha_nil) rfl) ?_
 refine rS (MV rfl) ?_
 refine rS (EX rfl) ?_
 refine rS (EX rfl) ?_
 refine AL rfl tz34 fun b16 => ?_
 refine SW0 rfl ts34 rfl ?_
 refine rS (AG rfl) ?_
 refine RK hK2 ?_
 refine WS fun _ hK17 => ?_
 refine cX line1_c (ha_nil) rfl fun y18 hy19 => ?_
 obtain ⟨a120, c121, a222, c223, bz24, a325, c326⟩ := y18
 try dsimp only
 obtain ⟨hbz, hlin⟩ := hy19
 refine cX exride_c (ha_nil) rfl fun y27 hy28 => ?_
 obtain ⟨a29, c30⟩ := y27
 try dsimp only
 refine cX (Where_c exL1 a120 c121 bz24 a222 c223 a325 c326 exR a29 c30 (by exact hlin) (by decide)) (ha_cons (has_own_n (n := exL1.Track.length) 1 rfl (by simp)) <| ha_cons (has_own_n (n := exL1.Clocks.length) 2 rfl (zip_len (by first | exact hbz | assumption))) <| ha_cons (bun_bund 3 rfl owns_rds) <| ha_cons (has_own_n (n := exL1.Beams.length) 4 rfl (by simp)) <| ha_cons (has_own_n (n := exR.Signals.length) 0 rfl (by simp)) <| ha_nil) rfl fun y31 hy32 => ?_
 obtain ⟨a33, c34⟩ := y31
 try dsimp only
 refine rS (MV rfl) ?_
 refine rS (EX rfl) ?_
 refine rS (EX rfl) ?_
 refine rS (AG rfl) ?_
 refine rS (AG rfl) ?_
 refine RK hK17 ?_
 refine WS fun _ hK35 => ?_
 refine cX line1_c (ha_nil) rfl fun y36 hy37 => ?_
 obtain ⟨a138, c139, a240, c241, bz42, a343, c344⟩ := y36
 try dsimp only
 obtain ⟨hbz, hlin⟩ := hy37
 refine cX exride_c (ha_nil) rfl fun y45 hy46 => ?_
 obtain ⟨a47, c48⟩ := y45
 try dsimp only
 refine rS (CL (Clear_c exL1 a138 c139 bz42 a240 c241 a343 c344 exR a47 c48 (by exact hlin) (by decide)) (ha_cons (has_own_n (n := exL1.Track.length) 1 rfl (by simp)) <| ha_cons (has_own_n (n := exL1.Clocks.length) 2 rfl (zip_len (by first | exact hbz | assumption))) <| ha_cons (bun_bund 3 rfl owns_rds) <| ha_cons (has_own_n (n := exL1.Beams.length) 4 rfl (by simp)) <| ha_cons (has_own_n (n := exR.Signals.length) 0 rfl (by simp)) <| ha_nil) rfl) ?_
 refine rS (MV rfl) ?_
 refine rS (EX rfl) ?_
 refine rS (EX rfl) ?_
 refine rS (AG rfl) ?_
 refine rS (AG rfl) ?_
 refine RK hK35 ?_
 refine WS fun _ hK49 => ?_
 refine cX line1_c (ha_nil) rfl fun y50 hy51 => ?_
 obtain ⟨a152, c153, a254, c255, bz56, a357, c358⟩ := y50
 try dsimp only
 obtain ⟨hbz, hlin⟩ := hy51
 refine cX exride_c (ha_nil) rfl fun y59 hy60 => ?_
 obtain ⟨a61, c62⟩ := y59
 try dsimp only
 refine rS (CL (Ran_c exL1 a152 c153 bz56 a254 c255 a357 c358 exR a61 c62 (by exact hlin) (by decide)) (ha_cons (has_own_n (n := exL1.Track.length) 1 rfl (by simp)) <| ha_cons (has_own_n (n := exL1.Clocks.length) 2 rfl (zip_len (by first | exact hbz | assumption))) <| ha_cons (bun_bund 3 rfl owns_rds) <| ha_cons (has_own_n (n := exL1.Beams.length) 4 rfl (by simp)) <| ha_cons (has_own_n (n := exR.Signals.length) 0 rfl (by simp)) <| ha_nil) rfl) ?_
 refine rS (MV rfl) ?_
 refine rS (EX rfl) ?_
 refine rS (EX rfl) ?_
 refine AL rfl tz34 fun b63 => ?_
 refine SW0 rfl ts34 rfl ?_
 refine rS (AG rfl) ?_
 refine RK hK49 ?_
 refine WS fun _ hK64 => ?_
 refine cX line0_c (ha_nil) rfl fun y65 hy66 => ?_
 obtain ⟨a167, c168, a269, c270, bz71, a372, c373⟩ := y65
 try dsimp only
 obtain ⟨hbz, hlin⟩ := hy66
 refine cX exride_c (ha_nil) rfl fun y74 hy75 => ?_
 obtain ⟨a76, c77⟩ := y74
 try dsimp only
 refine cX (Where_c exL0 a167 c168 bz71 a269 c270 a372 c373 exR a76 c77 (by exact hlin) (by decide)) (ha_cons (has_own_n (n := exL0.Track.length) 1 rfl (by simp)) <| ha_cons (has_own_n (n := exL0.Clocks.length) 2 rfl (zip_len (by first | exact hbz | assumption))) <| ha_cons (bun_bund 3 rfl owns_rds) <| ha_cons (has_own_n (n := exL0.Beams.length) 4 rfl (by simp)) <| ha_cons (has_own_n (n := exR.Signals.length) 0 rfl (by simp)) <| ha_nil) rfl fun y78 hy79 => ?_
 obtain ⟨a80, c81⟩ := y78
 try dsimp only
 refine rS (MV rfl) ?_
 refine rS (EX rfl) ?_
 refine rS (EX rfl) ?_
 refine rS (AG rfl) ?_
 refine rS (AG rfl) ?_
 refine RK hK64 ?_
 refine w_seq fun _ hK82 => ?_
 refine w_drawN mixed [0, 1, 2, 3, 4, 5, 6, 7, 8, 9, 10, 11, 12, 13, 14, 15] [16, 17, 18, 19, 20, 21, 22, 23, 24, 25, 26, 27, 28, 29, 30, 31, 32, 33, 34, 35, 36, 37, 38, 39, 40, 41, 42, 43, 44, 45, 46] [false, false, false, false, false, false, false, false, false, false, false, false, false, false, false, false] [] [(own a80 c81 3 1 ((whereV exL0 exR).map iC)), (own a76 c77 30 2 (exR.Signals.map SignalV.cells)), (own a167 c168 126 9 (exL0.Track.map StretchV.cells)), (own a269 c270 64 2 (List.zipWith ClockM.cells exL0.Clocks bz71)), (bund (nest ClockM.owns exL0.Clocks bz71)), (own a372 c373 55 4 (exL0.Beams.map BeamV.cells)), (blk b63 34 (SpanV.cells (ranV exL1 exR))), (own a61 c62 30 2 (exR.Signals.map SignalV.cells)), (own a152 c153 126 9 (exL1.Track.map StretchV.cells)), (own a254 c255 64 2 (List.zipWith ClockM.cells exL1.Clocks bz56)), (bund (nest ClockM.owns exL1.Clocks bz56)), (own a357 c358 55 4 (exL1.Beams.map BeamV.cells)), (own a47 c48 30 2 (exR.Signals.map SignalV.cells)), (own a138 c139 126 9 (exL1.Track.map StretchV.cells)), (own a240 c241 64 2 (List.zipWith ClockM.cells exL1.Clocks bz42)), (bund (nest ClockM.owns exL1.Clocks bz42)), (own a343 c344 55 4 (exL1.Beams.map BeamV.cells)), (own a33 c34 3 1 ((whereV exL1 exR).map iC)), (own a29 c30 30 2 (exR.Signals.map SignalV.cells)), (own a120 c121 126 9 (exL1.Track.map StretchV.cells)), (own a222 c223 64 2 (List.zipWith ClockM.cells exL1.Clocks bz24)), (bund (nest ClockM.owns exL1.Clocks bz24)), (own a325 c326 55 4 (exL1.Beams.map BeamV.cells)), (blk b16 34 (SpanV.cells (whenV exL1 x))), (own a14 c15 30 2 (exR.Signals.map SignalV.cells)), (own a15 c16 126 9 (exL1.Track.map StretchV.cells)), (own a27 c28 64 2 (List.zipWith ClockM.cells exL1.Clocks bz9)), (bund (nest ClockM.owns exL1.Clocks bz9)), (own a310 c311 55 4 (exL1.Beams.map BeamV.cells))] [] (by kernel_rfl) (fun w hs => St.sel [0, 1, 2, 3, 4, 5, 6, 7, 8, 9, 10, 11, 12, 13, 14, 15, 16, 17, 18, 19, 20, 21, 22, 23, 24, 25, 26, 27, 28] rfl rfl hs) (fun w hs => St.sel [] rfl rfl hs) ?_
 refine eS rfl (CL (exahead_c 10000 (-1) 3) (ha_nil) rfl) ?_
 refine eS rfl (MV rfl) ?_
 refine d_boolN (t := 45) rfl (fun h45 => ?_) (fun h45 => ?_)
 rotate_left 1
 · replace h45 := DF h45
   exact absurd (ex_ahead) h45
 replace h45 := DT h45
 refine eS rfl (MV rfl) ?_
 refine eS rfl (BI rfl b_eql) ?_
 refine eS rfl (PK rfl) ?_
 refine eS rfl (MV rfl) ?_
 refine d_boolN (t := 49) rfl (fun h49 => ?_) (fun h49 => ?_)
 rotate_left 1
 · replace h49 := DF h49
   exact absurd (by rw [ex_sig hx]; exact ex_when.1) h49
 replace h49 := DT h49
 refine eS rfl (LW 23 rfl tk34 rfl rfl) ?_
 refine eS rfl (CL (lspan_c 10596 10602) (ha_nil) rfl) ?_
 refine eS rfl (BI rfl (eqs34 _ _ (whenV exL1 x) (SpanV.mk 10596 10602))) ?_
 refine eS rfl (PK rfl) ?_
 refine eS rfl (MV rfl) ?_
 refine d_boolN (t := 54) rfl (fun h54 => ?_) (fun h54 => ?_)
 rotate_left 1
 · replace h54 := DF h54
   exact absurd (by rw [ex_sig hx]; exact ex_when.2) h54
 replace h54 := DT h54
 refine eS rfl (MV rfl) ?_
 refine eS rfl (BI rfl b_eql) ?_
 refine eS rfl (PK rfl) ?_
 refine eS rfl (MV rfl) ?_
 refine d_boolN (t := 58) rfl (fun h58 => ?_) (fun h58 => ?_)
 rotate_left 1
 · replace h58 := DF h58
   exact absurd (ex_open1) h58
 replace h58 := DT h58
 refine eS rfl (MV rfl) ?_
 refine d_fin rfl ?_
 refine n_step [16] (by kernel_rfl) (n_cons ?_ <| n_nil)
 refine n_op (rem' := [17, 18, 19, 20, 21, 22, 23, 24, 25, 26, 27, 28, 29, 30, 31, 32, 33, 34, 35, 36, 37, 38, 39, 40, 41, 42, 43, 44, 45, 46]) rfl (by kernel_rfl) rfl fun T83 hT83 => ?_
 refine r_bs (xs := [.const (Value.int .i64 2), .const (Value.int .i64 3)]) (cs := [(Value.int .i64 2), (Value.int .i64 3)]) rfl te57 tz3 rfl rfl rfl rfl (by simp [Value.cells]) rfl rfl fun b84 => ?_
 refine r_nil (hT83 _ _ (fun w hs => St.sel [1, 2, 3, 4, 5, 6, 7, 8, 9, 10, 11, 12, 13, 14, 15, 16, 17, 18, 19, 20, 21, 22, 23, 24, 25, 26, 27, 28, 29] rfl rfl hs) ?_)
 refine n_pure [61, 62, 63, 64, 65, 66, 67, 68, 69, 70, 71, 72, 73, 74, 75, 76, 77, 78, 79, 80, 81, 82, 83, 84, 85, 86, 87, 88, 89, 0] (by kernel_rfl) (by kernel_rfl) rfl _ rfl rfl (fun w hs => St.sel [1, 2, 3, 4, 5, 6, 7, 8, 9, 10, 11, 12, 13, 14, 15, 16, 17, 18, 19, 20, 21, 22, 23, 24, 25, 26, 27, 28, 29] rfl rfl hs) ?_
 refine dS (CL (sameints_c (whereV exL1 exR) a33 c34 ([2, 3]) (some ⟨b84, 0, none⟩) 2 (by rw [ex_where]; decide) (by decide)) (ha_cons (has_own_n (n := (whereV exL1 exR).length) 18 rfl (by simp)) <| ha_cons (has_rd_blk 0 rfl rfl (by simp [iC_length]) rfl) <| ha_nil) rfl) ?_
 refine dS (PK rfl) ?_
 refine dS (MV rfl) ?_
 refine d_bool (t := 63) rfl (fun h63 => ?_) (fun h63 => ?_)
 rotate_left 1
 · replace h63 := DF h63
   exact absurd (ex_where) h63
 replace h63 := DT h63
 refine dS (MV rfl) ?_
 refine dS (BI rfl b_eql) ?_
 refine dS (PK rfl) ?_
 refine dS (MV rfl) ?_
 refine d_bool (t := 67) rfl (fun h67 => ?_) (fun h67 => ?_)
 rotate_left 1
 · replace h67 := DF h67
   exact absurd (ex_open1) h67
 replace h67 := DT h67
 refine dS (MV rfl) ?_
 refine dS (BI rfl b_eql) ?_
 refine dS (PK rfl) ?_
 refine dS (MV rfl) ?_
 refine d_bool (t := 71) rfl (fun h71 => ?_) (fun h71 => ?_)
 rotate_left 1
 · replace h71 := DF h71
   exact absurd (ex_clear) h71
 replace h71 := DT h71
 refine dS (CL (expassed_c 0 10596 11002) (ha_nil) rfl) ?_
 refine dS (PK rfl) ?_
 refine dS (MV rfl) ?_
 refine d_bool (t := 74) rfl (fun h74 => ?_) (fun h74 => ?_)
 rotate_left 1
 · replace h74 := DF h74
   exact absurd (ex_pass0) h74
 replace h74 := DT h74
 refine dS (CL (expassed_c 1 12596 12602) (ha_nil) rfl) ?_
 refine dS (PK rfl) ?_
 refine dS (MV rfl) ?_
 refine d_bool (t := 77) rfl (fun h77 => ?_) (fun h77 => ?_)
 rotate_left 1
 · replace h77 := DF h77
   exact absurd (ex_pass1) h77
 replace h77 := DT h77
 refine dS (MV rfl) ?_
 refine dS (BI rfl b_eql) ?_
 refine dS (PK rfl) ?_
 refine dS (MV rfl) ?_
 refine d_bool (t := 81) rfl (fun h81 => ?_) (fun h81 => ?_)
 rotate_left 1
 · replace h81 := DF h81
   exact absurd (ex_ran.1) h81
 replace h81 := DT h81
 refine dS (LW 7 rfl tk34 rfl rfl) ?_
 refine dS (CL (lspan_c 2596 2602) (ha_nil) rfl) ?_
 refine dS (BI rfl (eqs34 _ _ (ranV exL1 exR) (SpanV.mk 2596 2602))) ?_
 refine dS (PK rfl) ?_
 refine dS (MV rfl) ?_
 refine d_bool (t := 86) rfl (fun h86 => ?_) (fun h86 => ?_)
 rotate_left 1
 · replace h86 := DF h86
   exact absurd (ex_ran.2) h86
 replace h86 := DT h86
 refine dS (MV rfl) ?_
 refine dS (BI rfl b_eql) ?_
 refine dS (PK rfl) ?_
 refine dS (AG rfl) ?_
 refine d_end ?_
 refine RK hK82 ?_
 refine w_ret ?_
 refine Q1 hQ rfl rfl rfl ?_
 exact congrArg Value.bool (decide_eq_true ex_open0)
end
section
open Go.RowKit
set_option linter.unusedVariables false
set_option maxRecDepth 100000 in
set_option maxHeartbeats 400000 in
theorem rcheck_c (l : LineM) (kA : Option Addr) (kC : Nat) (az : List RA) (cA : Option Addr) (cC : Nat) (bA : Option Addr) (bC : Nat) (hin : LineIn l az) :
    FnV Try.prog 20 [(Value.agg (LineV.cells (LineV.mk (TrackV.mk (Slc.mk kA l.Track.length kC)) l.Fast (Slc.mk cA l.Clocks.length cC) (Slc.mk bA l.Beams.length bC) l.Finish l.Fakes l.Misses)).toArray)] [(rd kA l.Track.length 9 (l.Track.map StretchV.cells)), (rd cA l.Clocks.length 2 (List.zipWith ClockM.cells l.Clocks az)), (bun (nest ClockM.rds l.Clocks az)), (rd bA l.Beams.length 4 (l.Beams.map BeamV.cells))] (Value.int .i64 (lineE l)) := by
 have htk := hin.trk
 have hck := hin.cks
 have has := hin.as_
 have hbm := hin.bms
 refine fnV_of go20 Try.func20 rfl rfl fun w0 Q hQ hN => ?_
 try dsimp only
 refine WS fun _ hK1 => ?_
 refine BXA rfl fun b2 => ?_
 refine rS (AG rfl) ?_
 refine RK hK1 ?_
 refine w_seq fun _ hK3 => ?_
 refine WS fun _ hK4 => ?_
 refine rS (FA 0 rfl fo28_0 rfl) ?_
 refine rS (LP (TrackV.cells (TrackV.mk (Slc.mk kA l.Track.length kC))) 0 rfl tk24 rfl rfl rfl) ?_
 refine rS (CL (track_c l.Track kA kC (by first | assumption | omega | (simp; done) | (simp; omega))) (ha_at 1 rfl rfl <| ha_nil) rfl) ?_
 refine rS (NT rfl) ?_
 refine RK hK4 ?_
 refine w_if rfl (fun h6 => ?_) (fun h6 => ?_)
 · rw [Bool.not_eq_true'] at h6
   refine WS fun _ hK5 => ?_
   refine rS (AG rfl) ?_
   refine RK hK5 ?_
   refine w_ret ?_
   refine Q1 hQ rfl rfl rfl ?_
   first | exact congrArg (Value.int .i64) (lineE_bad (by simpa using h6)).symm | exact congrArg (Value.int .i64) (lineE_no h6 h9).symm | exact congrArg (Value.int .i64) (lineE_ok h6 h9).symm
 rw [Bool.not_eq_false'] at h6
 refine WK hK3 ?_
 refine w_seq fun _ hK6 => ?_
 refine WS fun _ hK7 => ?_
 refine rS (LW 0 rfl tk28 rfl rfl) ?_
 refine rS (CL (rline_c l kA kC az cA cC bA bC hin (by first | assumption | omega | (simp; done) | (simp; omega))) (ha_at 1 rfl rfl <| ha_at 2 rfl rfl <| ha_at 3 rfl rfl <| ha_at 4 rfl rfl <| ha_nil) rfl) ?_
 refine rS (NT rfl) ?_
 refine RK hK7 ?_
 refine w_if rfl (fun h9 => ?_) (fun h9 => ?_)
 · replace h9 := XT h9
   refine WS fun _ hK8 => ?_
   refine rS (AG rfl) ?_
   refine RK hK8 ?_
   refine w_ret ?_
   refine Q1 hQ rfl rfl rfl ?_
   first | exact congrArg (Value.int .i64) (lineE_bad (by simpa using h6)).symm | exact congrArg (Value.int .i64) (lineE_no h6 h9).symm | exact congrArg (Value.int .i64) (lineE_ok h6 h9).symm
 replace h9 := XF h9
 refine WK hK6 ?_
 refine WS fun _ hK9 => ?_
 refine rS (AG rfl) ?_
 refine RK hK9 ?_
 refine w_ret ?_
 refine Q1 hQ rfl rfl rfl ?_
 first | exact congrArg (Value.int .i64) (lineE_bad (by simpa using h6)).symm | exact congrArg (Value.int .i64) (lineE_no h6 h9).symm | exact congrArg (Value.int .i64) (lineE_ok h6 h9).symm
end
section
open Go.RowKit
set_option linter.unusedVariables false
set_option maxRecDepth 100000 in
set_option maxHeartbeats 400000 in
theorem ready_c (l : LineM) (kA : Option Addr) (kC : Nat) (az : List RA) (cA : Option Addr) (cC : Nat) (bA : Option Addr) (bC : Nat) (hraw : LineRaw l az) :
    FnV Try.prog 23 [(Value.agg (LineV.cells (LineV.mk (TrackV.mk (Slc.mk kA l.Track.length kC)) l.Fast (Slc.mk cA l.Clocks.length cC) (Slc.mk bA l.Beams.length bC) l.Finish l.Fakes l.Misses)).toArray)] [(rd kA l.Track.length 9 (l.Track.map StretchV.cells)), (rd cA l.Clocks.length 2 (List.zipWith ClockM.cells l.Clocks az)), (bun (nest ClockM.rds l.Clocks az)), (rd bA l.Beams.length 4 (l.Beams.map BeamV.cells))] (Value.bool (decide (ReadyL l))) := by
 refine fnV_of go23 Try.func23 rfl rfl fun w0 Q hQ hN => ?_
 try dsimp only
 refine WS fun _ hK1 => ?_
 refine BXA rfl fun b2 => ?_
 refine rS (AG rfl) ?_
 refine RK hK1 ?_
 refine WS fun _ hK3 => ?_
 refine rS (LW 0 rfl tk28 rfl rfl) ?_
 refine rS (CL (lgreat_c l kA kC az cA cC bA bC hraw) (ha_at 1 rfl rfl <| ha_at 2 rfl rfl <| ha_at 3 rfl rfl <| ha_at 4 rfl rfl <| ha_nil) rfl) ?_
 refine rS (NT rfl) ?_
 refine rS (MV rfl) ?_
 refine r_bool (t := 6) rfl (fun h6 => ?_) (fun h6 => ?_)
 rotate_left 1
 · replace h6 := XF h6
   refine rS (OX rfl) ?_
   refine rS (OX rfl) ?_
   refine rS (OX rfl) ?_
   refine rS (PK rfl) ?_
   refine rS (AG rfl) ?_
   refine RK hK3 ?_
   refine w_ret ?_
   refine Q1 hQ rfl rfl rfl ?_
   first | exact congrArg Value.bool (decide_eq_false fun q => q.1 h6).symm | exact congrArg Value.bool (decide_eq_decide.2 ⟨fun q => ⟨h6, q⟩, fun q => q.2⟩)
 replace h6 := XT h6
 refine rS (LW 0 rfl tk28 rfl rfl) ?_
 have hin := hraw.small h6
 refine rS (CL (rcheck_c l kA kC az cA cC bA bC (by first | assumption | omega | (simp; done) | (simp; omega))) (ha_at 1 rfl rfl <| ha_at 2 rfl rfl <| ha_at 3 rfl rfl <| ha_at 4 rfl rfl <| ha_nil) rfl) ?_
 refine rS (BI rfl b_eql) ?_
 refine rS (PK rfl) ?_
 refine rS (AG rfl) ?_
 refine RK hK3 ?_
 refine w_ret ?_
 refine Q1 hQ rfl rfl rfl ?_
 first | exact congrArg Value.bool (decide_eq_false fun q => q.1 h6).symm | exact congrArg Value.bool (decide_eq_decide.2 ⟨fun q => ⟨h6, q⟩, fun q => q.2⟩)
end
section
open Go.RowKit
set_option linter.unusedVariables false
set_option maxRecDepth 100000 in
set_option maxHeartbeats 400000 in
theorem beamAhead_c (l : LineM) (kA : Option Addr) (kC : Nat) (az : List RA) (cA : Option Addr) (cC : Nat) (bA : Option Addr) (bC : Nat) (wh : Int) (ta : Int) (tb : Int) (sm : SyncV) (hraw : LineRaw l az) (hwh : 0 ≤ wh ∧ wh ≤ 255) (hta : 0 ≤ ta ∧ ta ≤ 4294967295) (htb : 0 ≤ tb ∧ tb ≤ 4294967295) :
    FnV Try.prog 5 [(Value.agg (LineV.cells (LineV.mk (TrackV.mk (Slc.mk kA l.Track.length kC)) l.Fast (Slc.mk cA l.Clocks.length cC) (Slc.mk bA l.Beams.length bC) l.Finish l.Fakes l.Misses)).toArray), (Value.int .u8 wh), (Value.int .u32 ta), (Value.int .u32 tb), (Value.agg (SyncV.cells sm).toArray)] [(rd kA l.Track.length 9 (l.Track.map StretchV.cells)), (rd cA l.Clocks.length 2 (List.zipWith ClockM.cells l.Clocks az)), (bun (nest ClockM.rds l.Clocks az)), (rd bA l.Beams.length 4 (l.Beams.map BeamV.cells))] (Value.bool true) := by
 refine fnV_of go5 Try.func5 rfl rfl fun w0 Q hQ hN => ?_
 try dsimp only
 refine WS fun _ hK1 => ?_
 refine BXA rfl fun b2 => ?_
 refine BXA rfl fun b3 => ?_
 refine rS (AG rfl) ?_
 refine RK hK1 ?_
 refine WS fun _ hK4 => ?_
 refine rS (CL alive_c (ha_nil) rfl) ?_
 refine rS (AG rfl) ?_
 refine RK hK4 ?_
 refine w_seq fun _ hK5 => ?_
 refine WS fun _ hK6 => ?_
 refine rS (LW 1 rfl tk28 rfl rfl) ?_
 refine rS (CL (ready_c l kA kC az cA cC bA bC hraw) (ha_at 2 rfl rfl <| ha_at 3 rfl rfl <| ha_at 4 rfl rfl <| ha_at 5 rfl rfl <| ha_nil) rfl) ?_
 refine rS (NT rfl) ?_
 refine rS (MV rfl) ?_
 refine r_bool (t := 33) rfl (fun h33 => ?_) (fun h33 => ?_)
 · replace h33 := XT h33
   refine rS (OX rfl) ?_
   refine rS (OX rfl) ?_
   refine rS (PK rfl) ?_
   refine RK hK6 ?_
   refine w_if_true rfl ?_
   refine WS fun _ hK7 => ?_
   refine rS (MV rfl) ?_
   refine rS (AG rfl) ?_
   refine RK hK7 ?_
   refine w_ret ?_
   refine Q1 hQ rfl rfl rfl ?_
   first | rfl | exact congrArg Value.bool (decide_eq_true hnw.2)
 replace h33 := XF h33
 refine rS (MV rfl) ?_
 refine rS (NT rfl) ?_
 refine rS (PK rfl) ?_
 refine RK hK6 ?_
 refine w_if_false rfl ?_
 refine WK hK5 ?_
 refine WS fun _ hK8 => ?_
 have hin := hraw.small h33.1
 obtain ⟨htr, hok⟩ := lineE_zero h33.2
 have hhd := hok.head
 unfold HeadOk at hhd
 have hbm := hin.bms
 have htk := hin.trk
 have hck := hin.cks
 have hri := rem_b wh ((l.Clocks.length : Nat) : Int) hwh.1 (by omega)
 refine rS (MV rfl) ?_
 refine rS (SX (sd_conv (m := wh) rfl rfl ut5 ut3 (wrap_u8_i64 (by first | assumption | omega))) rfl rfl) ?_
 refine rS (FA 2 rfl fo28_2 rfl) ?_
 refine rS (L1 (Value.slice cA l.Clocks.length cC) 1 rfl tk25 rfl rfl) ?_
 refine rS (LN rfl ut25) ?_
 refine rS (BI rfl (b_rem (by omega) (by omega))) ?_
 obtain ⟨i, hi⟩ : ∃ i : Nat, (wh % ((l.Clocks.length : Nat) : Int)) = ((i : Nat) : Int) := ⟨((wh % ((l.Clocks.length : Nat) : Int))).toNat, by omega⟩
 rw [hi]
 refine rS (AG rfl) ?_
 refine RK hK8 ?_
 refine WS fun _ hK9 => ?_
 refine rS (FA 2 rfl fo28_2 rfl) ?_
 refine rS (L1 (Value.slice cA l.Clocks.length cC) 1 rfl tk25 rfl rfl) ?_
 refine rS (MV rfl) ?_
 have hil : i < l.Clocks.length := by omega
 have has := hin.as_
 obtain ⟨x, hx⟩ : ∃ y_, l.Clocks[i]? = some y_ := ⟨l.Clocks[i]'(by omega), List.getElem?_eq_getElem _⟩
 obtain ⟨xa, hxa⟩ : ∃ y_, az[i]? = some y_ := ⟨az[i]'(by omega), List.getElem?_eq_getElem _⟩
 have hxm : (List.zipWith ClockM.cells l.Clocks az)[i]? = some (ClockM.cells x xa) := zip_get hx hxa
 refine rS (IA i rfl (has_at 3 rfl) te25 (by decide) rfl (by omega)) ?_
 refine rS (LEN i 0 (ClockV.cells (ClockV.mk x.Drift (Slc.mk xa.1 x.Syncs.length xa.2))) rfl tk64 (has_at 3 rfl) hxm rfl (by decide) rfl rfl) ?_
 refine AL rfl tz64 fun b10 => ?_
 refine SW0 rfl ts64 rfl ?_
 refine RK hK9 ?_
 refine w_seq fun _ hK11 => ?_
 refine WS fun _ hK12 => ?_
 have hxo := hok.clock _ (List.mem_of_getElem? hx)
 have hdr := hxo.drift
 have hxl := hxo.len
 have hcki : (0 ≤ ((i : Nat) : Int) ∧ ((i : Nat) : Int) ≤ (l.Clocks.length : Int) - 1) := by omega
 refine rS (FA 1 rfl fo64_1 rfl) ?_
 refine rS (L1 (Value.slice xa.1 x.Syncs.length xa.2) 0 rfl tk62 rfl rfl) ?_
 refine rS (LN rfl ut62) ?_
 refine rS (MV rfl) ?_
 refine RK hK12 ?_
 refine w_block ?_
 have hinit : (0 ≤ x.Syncs.length) := by exact Nat.zero_le _
 refine w_loop (ι := { z : Nat // (z ≤ x.Syncs.length) }) (fun z => [(1, (Value.int .u8 wh)), (2, (Value.int .u32 ta)), (3, (Value.int .u32 tb)), (5, (Value.pointer (some ⟨b2, 0, none⟩))), (9, (Value.pointer (some ⟨b3, 0, none⟩))), (11, (Value.bool true)), (12, (Value.int .i64 ((i : Nat) : Int))), (13, (Value.pointer (some ⟨b10, 0, none⟩))), (50, (Value.slice xa.1 x.Syncs.length xa.2)), (51, (Value.int .i64 ((x.Syncs.length : Nat) : Int))), (52, (Value.int .i64 ((z.1 : Nat) : Int)))]) (fun z => [(blk b10 64 (ClockV.cells (ClockV.mk x.Drift (Slc.mk xa.1 x.Syncs.length xa.2)))), (blk b3 61 (SyncV.cells sm)), (blk b2 28 (LineV.cells (LineV.mk (TrackV.mk (Slc.mk kA l.Track.length kC)) l.Fast (Slc.mk cA l.Clocks.length cC) (Slc.mk bA l.Beams.length bC) l.Finish l.Fakes l.Misses))), (rd kA l.Track.length 9 (l.Track.map StretchV.cells)).ro, (rd cA l.Clocks.length 2 (List.zipWith ClockM.cells l.Clocks az)).ro, (bun (nest ClockM.rds l.Clocks az)).ro, (rd bA l.Beams.length 4 (l.Beams.map BeamV.cells)).ro]) (fun z => x.Syncs.length - z.1) ⟨0, hinit⟩ (Sub.cons rfl <| Sub.cons rfl <| Sub.cons rfl <| Sub.cons rfl <| Sub.cons rfl <| Sub.cons rfl <| Sub.cons rfl <| Sub.cons rfl <| Sub.cons rfl <| Sub.cons rfl <| Sub.cons rfl <| Sub.nil _) (fun w hs => St.sel [0, 1, 2, 3, 4, 5, 6] rfl rfl hs) ?_
 clear hinit
 rintro ⟨k, hl7_0⟩ J13 hJ13
 try dsimp only
 refine WS fun _ hK14 => ?_
 refine rS (BI rfl b_lss) ?_
 refine RK hK14 ?_
 refine w_seq fun _ hK15 => ?_
 refine w_if rfl (fun h16 => ?_) (fun h16 => ?_)
 · replace h16 := DT h16
   refine WK hK15 ?_
   refine w_seq fun _ hK17 => ?_
   refine w_block ?_
   refine WS fun _ hK18 => ?_
   obtain ⟨s, hs⟩ : ∃ y_, x.Syncs[k]? = some y_ := ⟨x.Syncs[k]'(by omega), List.getElem?_eq_getElem _⟩
   have hsm : (x.Syncs.map SyncV.cells)[k]? = some (SyncV.cells s) := by rw [List.getElem?_map, hs]; rfl
   refine rS (IA k rfl (show Has _ (rd xa.1 x.Syncs.length 3 (x.Syncs.map SyncV.cells)).holds from (has_inr 5 rfl (mem_nest hx hxa (by simp [ClockM.rds])))) te62 (by decide) (by omega) (by omega)) ?_
   refine rS (LEN k 0 (SyncV.cells s) rfl tk61 (show Has _ (rd xa.1 x.Syncs.length 3 (x.Syncs.map SyncV.cells)).holds from (has_inr 5 rfl (mem_nest hx hxa (by simp [ClockM.rds])))) hsm rfl (by decide) rfl rfl) ?_
   refine AL rfl tz61 fun b19 => ?_
   refine SW0 rfl ts61 rfl ?_
   refine RK hK18 ?_
   refine WS fun _ hK20 => ?_
   refine rS (LW 3 rfl tk28 rfl rfl) ?_
   refine rS (MV rfl) ?_
   refine rS (FA 0 rfl fo61_0 rfl) ?_
   refine rS (L1 (Value.int .i64 s.At) 0 rfl tk3 rfl rfl) ?_
   refine rS (CL (Ahead_c l kA kC az cA cC bA bC ((i : Nat) : Int) s.At (by exact hin)) (ha_at 4 rfl rfl <| ha_at 5 rfl rfl <| ha_at 6 rfl rfl <| ha_at 7 rfl rfl <| ha_nil) rfl) ?_
   refine rS (MV rfl) ?_
   refine rS (EX rfl) ?_
   refine rS (EX rfl) ?_
   refine AL rfl tz34 fun b21 => ?_
   refine SW0 rfl ts34 rfl ?_
   refine rS (AG rfl) ?_
   refine RK hK20 ?_
   refine WS fun _ hK22 => ?_
   have hsb := (hxo.sync_b hs).1
   have hal := ahead_in (l := l) (ck := ((i : Nat) : Int)) (at_ := s.At) h33.2 ⟨hcki, by omega⟩ (by simpa using hx)
   have hsp := ahead_span hxo (t := s.At) (by omega)
   have how := ahead_own (List.mem_of_getElem? hs)
   rw [← hal.2] at hsp how
   refine rS (MV rfl) ?_
   refine rS (BI rfl b_neq) ?_
   refine rS (MV rfl) ?_
   refine r_bool (t := 66) rfl (fun h66 => ?_) (fun h66 => ?_)
   · replace h66 := XT h66
     exact absurd hal.1 h66
   replace h66 := XF h66
   refine rS (FA 0 rfl fo34_0 rfl) ?_
   refine rS (L1 (Value.int .i64 ((aheadV l ((i : Nat) : Int) s.At).Lo)) 0 rfl tk3 rfl rfl) ?_
   refine rS (FA 1 rfl fo34_1 rfl) ?_
   refine rS (L1 (Value.int .i64 ((aheadV l ((i : Nat) : Int) s.At).Hi)) 0 rfl tk3 rfl rfl) ?_
   refine rS (BI rfl b_gtr) ?_
   refine rS (PK rfl) ?_
   refine rS (MV rfl) ?_
   refine r_bool (t := 73) rfl (fun h73 => ?_) (fun h73 => ?_)
   · replace h73 := DT h73
     exfalso; omega
   replace h73 := DF h73
   refine rS (FA 0 rfl fo34_0 rfl) ?_
   refine rS (L1 (Value.int .i64 ((aheadV l ((i : Nat) : Int) s.At).Lo)) 0 rfl tk3 rfl rfl) ?_
   refine rS (FA 1 rfl fo61_1 rfl) ?_
   refine rS (FA 1 rfl fo34_0 rfl) ?_
   refine rS (L1 (Value.int .i64 s.Ahead.Lo) 1 rfl tk3 rfl rfl) ?_
   refine rS (BI rfl b_lss) ?_
   refine rS (PK rfl) ?_
   refine rS (MV rfl) ?_
   refine r_bool (t := 81) rfl (fun h81 => ?_) (fun h81 => ?_)
   · replace h81 := DT h81
     exfalso; omega
   replace h81 := DF h81
   refine rS (FA 1 rfl fo34_1 rfl) ?_
   refine rS (L1 (Value.int .i64 ((aheadV l ((i : Nat) : Int) s.At).Hi)) 0 rfl tk3 rfl rfl) ?_
   refine rS (FA 1 rfl fo61_1 rfl) ?_
   refine rS (FA 2 rfl fo34_1 rfl) ?_
   refine rS (L1 (Value.int .i64 s.Ahead.Hi) 1 rfl tk3 rfl rfl) ?_
   refine rS (BI rfl b_gtr) ?_
   refine rS (PK rfl) ?_
   refine RK hK22 ?_
   refine w_if rfl (fun h88 => ?_) (fun h88 => ?_)
   · replace h88 := DT h88
     exfalso; omega
   replace h88 := DF h88
   refine w_skip ?_
   refine k_block ?_
   refine KK hK17 ?_
   refine w_region ?_
   refine rS (BI rfl (b_add ⟨by omega, by omega⟩)) ?_
   refine rS (MV rfl) ?_
   refine r_nil ?_
   have hb23 : (Value.int .i64 (((k + 1) : Nat) : Int)) = (Value.int .i64 (((k : Nat) : Int) + 1)) := by exact congrArg (Value.int .i64) (by omega)
   refine k_then (hJ13 ⟨(k + 1), (by first | omega | (simp only []; omega))⟩ _ _ _ rfl (by first | omega | (simp; omega)) (Sub.cons rfl <| Sub.cons rfl <| Sub.cons rfl <| Sub.cons rfl <| Sub.cons rfl <| Sub.cons rfl <| Sub.cons rfl <| Sub.cons rfl <| Sub.cons rfl <| Sub.cons rfl <| sub_val rfl hb23 <| Sub.nil _) (fun w hs => St.sel [2, 3, 4, 5, 6, 7, 8] rfl rfl hs))
 replace h16 := DF h16
 refine w_exit ?_
 refine k_exit_then ?_
 refine k_exit_then ?_
 refine k_exit_same ?_
 refine KK hK11 ?_
 refine WS fun _ hK24 => ?_
 refine rS (MV rfl) ?_
 refine rS (SX (sd_conv (m := ta) rfl rfl ut50 ut3 (wrap_u32_i64 (by first | assumption | omega))) rfl rfl) ?_
 refine rS (BI rfl (b_rem (by omega) (by omega))) ?_
 refine rS (MV rfl) ?_
 refine rS (SX (sd_conv (m := tb) rfl rfl ut50 ut3 (wrap_u32_i64 (by first | assumption | omega))) rfl rfl) ?_
 refine rS (BI rfl (b_rem (by omega) (by omega))) ?_
 refine rS (AG rfl) ?_
 refine rS (AG rfl) ?_
 refine RK hK24 ?_
 refine WS fun _ hK25 => ?_
 refine rS (LW 2 rfl tk28 rfl rfl) ?_
 refine rS (MV rfl) ?_
 refine rS (MV rfl) ?_
 refine rS (CL (Ahead_c l kA kC az cA cC bA bC ((i : Nat) : Int) (ta % 86400001) (by exact hin)) (ha_at 3 rfl rfl <| ha_at 4 rfl rfl <| ha_at 5 rfl rfl <| ha_at 6 rfl rfl <| ha_nil) rfl) ?_
 refine rS (MV rfl) ?_
 refine rS (EX rfl) ?_
 refine rS (EX rfl) ?_
 refine AL rfl tz34 fun b26 => ?_
 refine SW0 rfl ts34 rfl ?_
 refine rS (AG rfl) ?_
 refine RK hK25 ?_
 refine WS fun _ hK27 => ?_
 refine rS (LW 3 rfl tk28 rfl rfl) ?_
 refine rS (MV rfl) ?_
 refine rS (MV rfl) ?_
 refine rS (CL (Ahead_c l kA kC az cA cC bA bC ((i : Nat) : Int) (tb % 86400001) (by exact hin)) (ha_at 4 rfl rfl <| ha_at 5 rfl rfl <| ha_at 6 rfl rfl <| ha_at 7 rfl rfl <| ha_nil) rfl) ?_
 refine rS (MV rfl) ?_
 refine rS (EX rfl) ?_
 refine rS (EX rfl) ?_
 refine AL rfl tz34 fun b28 => ?_
 refine SW0 rfl ts34 rfl ?_
 refine rS (AG rfl) ?_
 refine RK hK27 ?_
 refine WS fun _ hK29 => ?_
 have hdb := drift_b hxo.drift (a := (ta % 86400001)) (b := (tb % 86400001)) (by omega) (by omega)
 have hdu := upD_b hdb.1 hdb.2
 refine rS (FA 0 rfl fo64_0 rfl) ?_
 refine rS (L1 (Value.int .i64 x.Drift) 2 rfl tk3 rfl rfl) ?_
 refine rS (MV rfl) ?_
 refine rS (MV rfl) ?_
 refine rS (BI rfl (b_sub ⟨by omega, by omega⟩)) ?_
 refine rS (MV rfl) ?_
 refine rS (MV rfl) ?_
 refine rS (BI rfl (b_sub ⟨by omega, by omega⟩)) ?_
 refine rS (MX rfl) ?_
 refine rS (CL (drifts_c x.Drift (max ((ta % 86400001) - (tb % 86400001)) ((tb % 86400001) - (ta % 86400001))) (by exact hdr) (by omega)) (ha_nil) rfl) ?_
 refine rS (BI rfl (b_add ⟨by omega, by omega⟩)) ?_
 refine rS (AG rfl) ?_
 refine RK hK29 ?_
 refine w_seq fun _ hK30 => ?_
 refine WS fun _ hK31 => ?_
 have ha1 := ahead_in (l := l) (ck := ((i : Nat) : Int)) (at_ := (ta % 86400001)) h33.2 ⟨hcki, by omega⟩ (by simpa using hx)
 have ha2 := ahead_in (l := l) (ck := ((i : Nat) : Int)) (at_ := (tb % 86400001)) h33.2 ⟨hcki, by omega⟩ (by simpa using hx)
 have hsa := ahead_span hxo (t := (ta % 86400001)) (by omega)
 have hdf := ahead_drift hxo (a := (ta % 86400001)) (b := (tb % 86400001)) (by omega) (by omega)
 have hb1 := aheadF_b hxo (at_ := (ta % 86400001)) (by omega)
 rw [← ha1.2] at hsa hb1
 rw [← ha1.2, ← ha2.2] at hdf
 refine rS (MV rfl) ?_
 refine rS (BI rfl b_neq) ?_
 refine rS (MV rfl) ?_
 refine r_bool (t := 123) rfl (fun h123 => ?_) (fun h123 => ?_)
 · replace h123 := XT h123
   exact absurd ha1.1 h123
 replace h123 := XF h123
 refine rS (MV rfl) ?_
 refine rS (BI rfl b_neq) ?_
 refine rS (PK rfl) ?_
 refine rS (MV rfl) ?_
 refine r_bool (t := 127) rfl (fun h127 => ?_) (fun h127 => ?_)
 · replace h127 := XT h127
   exact absurd ha2.1 h127
 replace h127 := XF h127
 refine rS (FA 0 rfl fo34_0 rfl) ?_
 refine rS (L1 (Value.int .i64 ((aheadV l ((i : Nat) : Int) (ta % 86400001)).Lo)) 1 rfl tk3 rfl rfl) ?_
 refine rS (FA 1 rfl fo34_1 rfl) ?_
 refine rS (L1 (Value.int .i64 ((aheadV l ((i : Nat) : Int) (ta % 86400001)).Hi)) 1 rfl tk3 rfl rfl) ?_
 refine rS (BI rfl b_gtr) ?_
 refine rS (PK rfl) ?_
 refine rS (MV rfl) ?_
 refine r_bool (t := 134) rfl (fun h134 => ?_) (fun h134 => ?_)
 · replace h134 := DT h134
   exfalso; omega
 replace h134 := DF h134
 refine rS (FA 0 rfl fo34_0 rfl) ?_
 refine rS (L1 (Value.int .i64 ((aheadV l ((i : Nat) : Int) (tb % 86400001)).Lo)) 0 rfl tk3 rfl rfl) ?_
 refine rS (FA 0 rfl fo34_0 rfl) ?_
 refine rS (L1 (Value.int .i64 ((aheadV l ((i : Nat) : Int) (ta % 86400001)).Lo)) 1 rfl tk3 rfl rfl) ?_
 refine rS (MV rfl) ?_
 refine rS (BI rfl (b_sub ⟨by omega, by omega⟩)) ?_
 refine rS (BI rfl b_lss) ?_
 refine rS (PK rfl) ?_
 refine rS (MV rfl) ?_
 refine r_bool (t := 143) rfl (fun h143 => ?_) (fun h143 => ?_)
 · replace h143 := DT h143
   exfalso; omega
 replace h143 := DF h143
 refine rS (FA 0 rfl fo34_0 rfl) ?_
 refine rS (L1 (Value.int .i64 ((aheadV l ((i : Nat) : Int) (tb % 86400001)).Lo)) 0 rfl tk3 rfl rfl) ?_
 refine rS (FA 0 rfl fo34_0 rfl) ?_
 refine rS (L1 (Value.int .i64 ((aheadV l ((i : Nat) : Int) (ta % 86400001)).Lo)) 1 rfl tk3 rfl rfl) ?_
 refine rS (MV rfl) ?_
 refine rS (BI rfl (b_add ⟨by omega, by omega⟩)) ?_
 refine rS (BI rfl b_gtr) ?_
 refine rS (PK rfl) ?_
 refine rS (MV rfl) ?_
 refine r_bool (t := 152) rfl (fun h152 => ?_) (fun h152 => ?_)
 · replace h152 := DT h152
   exfalso; omega
 replace h152 := DF h152
 refine rS (FA 1 rfl fo34_1 rfl) ?_
 refine rS (L1 (Value.int .i64 ((aheadV l ((i : Nat) : Int) (tb % 86400001)).Hi)) 0 rfl tk3 rfl rfl) ?_
 refine rS (FA 1 rfl fo34_1 rfl) ?_
 refine rS (L1 (Value.int .i64 ((aheadV l ((i : Nat) : Int) (ta % 86400001)).Hi)) 1 rfl tk3 rfl rfl) ?_
 refine rS (MV rfl) ?_
 refine rS (BI rfl (b_sub ⟨by omega, by omega⟩)) ?_
 refine rS (BI rfl b_lss) ?_
 refine rS (PK rfl) ?_
 refine rS (MV rfl) ?_
 refine r_bool (t := 161) rfl (fun h161 => ?_) (fun h161 => ?_)
 · replace h161 := DT h161
   exfalso; omega
 replace h161 := DF h161
 refine rS (FA 1 rfl fo34_1 rfl) ?_
 refine rS (L1 (Value.int .i64 ((aheadV l ((i : Nat) : Int) (tb % 86400001)).Hi)) 0 rfl tk3 rfl rfl) ?_
 refine rS (FA 1 rfl fo34_1 rfl) ?_
 refine rS (L1 (Value.int .i64 ((aheadV l ((i : Nat) : Int) (ta % 86400001)).Hi)) 1 rfl tk3 rfl rfl) ?_
 refine rS (MV rfl) ?_
 refine rS (BI rfl (b_add ⟨by omega, by omega⟩)) ?_
 refine rS (BI rfl b_gtr) ?_
 refine rS (PK rfl) ?_
 refine RK hK31 ?_
 refine w_if rfl (fun h169 => ?_) (fun h169 => ?_)
 · replace h169 := DT h169
   exfalso; omega
 replace h169 := DF h169
 refine WK hK30 ?_
 refine WS fun _ hK32 => ?_
 refine rS (LW 4 rfl tk28 rfl rfl) ?_
 refine cX (ltwin_c l kA kC az cA cC bA bC (by first | assumption | omega | (simp; done) | (simp; omega)) (by exact h33.1)) (ha_at 5 rfl rfl <| ha_at 6 rfl rfl <| ha_at 7 rfl rfl <| ha_at 8 rfl rfl <| ha_nil) rfl fun y33 hy34 => ?_
 obtain ⟨a135, c136, a237, c238, bz39, a340, c341⟩ := y33
 try dsimp only
 obtain ⟨hbz, hcp⟩ := hy34
 try dsimp only at hbz hcp
 refine AL rfl tz28 fun b42 => ?_
 refine SW0 rfl ts28 rfl ?_
 refine RK hK32 ?_
 refine WS fun _ hK43 => ?_
 refine rS (AG rfl) ?_
 refine RK hK43 ?_
 refine w_join (ι := { z : Nat // (z ≤ x.Syncs.length) }) (fun z => [(1, (Value.int .u8 wh)), (2, (Value.int .u32 ta)), (3, (Value.int .u32 tb)), (5, (Value.pointer (some ⟨b2, 0, none⟩))), (9, (Value.pointer (some ⟨b3, 0, none⟩))), (11, (Value.bool true)), (12, (Value.int .i64 ((i : Nat) : Int))), (13, (Value.pointer (some ⟨b10, 0, none⟩))), (18, (Value.int .i64 (ta % 86400001))), (20, (Value.pointer (some ⟨b26, 0, none⟩))), (25, (Value.pointer (some ⟨b42, 0, none⟩))), (26, (Value.int .i64 ((z.1 : Nat) : Int)))]) (fun z => [(blk b42 28 (LineV.cells (LineV.mk (TrackV.mk (Slc.mk a135 l.Track.length c136)) l.Fast (Slc.mk a237 l.Clocks.length c238) (Slc.mk a340 l.Beams.length c341) l.Finish l.Fakes l.Misses))), (own a135 c136 126 9 (l.Track.map StretchV.cells)), (own a237 c238 64 2 (List.zipWith ClockM.cells l.Clocks bz39)), (bund (nest ClockM.owns l.Clocks bz39)), (own a340 c341 55 4 (l.Beams.map BeamV.cells)), (blk b26 34 (SpanV.cells (aheadV l ((i : Nat) : Int) (ta % 86400001)))), (blk b10 64 (ClockV.cells (ClockV.mk x.Drift (Slc.mk xa.1 x.Syncs.length xa.2)))), (blk b3 61 (SyncV.cells sm)), (blk b2 28 (LineV.cells (LineV.mk (TrackV.mk (Slc.mk kA l.Track.length kC)) l.Fast (Slc.mk cA l.Clocks.length cC) (Slc.mk bA l.Beams.length bC) l.Finish l.Fakes l.Misses))), (rd kA l.Track.length 9 (l.Track.map StretchV.cells)).ro, (rd cA l.Clocks.length 2 (List.zipWith ClockM.cells l.Clocks az)).ro, (bun (nest ClockM.rds l.Clocks az)).ro, (rd bA l.Beams.length 4 (l.Beams.map BeamV.cells)).ro]) ?_ fun K44 hK44 => ?_
 · rintro ⟨m, hjK44_0⟩
   try dsimp only
   refine w_join (ι := { z : (Option Addr) × Nat // ((moreC x m sm).Syncs.length ≤ z.2) }) (fun z => [(1, (Value.int .u8 wh)), (2, (Value.int .u32 ta)), (3, (Value.int .u32 tb)), (5, (Value.pointer (some ⟨b2, 0, none⟩))), (9, (Value.pointer (some ⟨b3, 0, none⟩))), (11, (Value.bool true)), (12, (Value.int .i64 ((i : Nat) : Int))), (13, (Value.pointer (some ⟨b10, 0, none⟩))), (18, (Value.int .i64 (ta % 86400001))), (20, (Value.pointer (some ⟨b26, 0, none⟩))), (25, (Value.pointer (some ⟨b42, 0, none⟩)))]) (fun z => [(own z.1.1 z.1.2 61 3 ((moreC x m sm).Syncs.map SyncV.cells)), (blk b42 28 (LineV.cells (LineV.mk (TrackV.mk (Slc.mk a135 l.Track.length c136)) l.Fast (Slc.mk a237 l.Clocks.length c238) (Slc.mk a340 l.Beams.length c341) l.Finish l.Fakes l.Misses))), (own a135 c136 126 9 (l.Track.map StretchV.cells)), (own a237 c238 64 2 (List.zipWith ClockM.cells (l.Clocks.set i (moreC x m sm)) (bz39.set i (z.1.1, z.1.2)))), (bund (nest ClockM.owns l.Clocks bz39)), (own a340 c341 55 4 (l.Beams.map BeamV.cells)), (blk b26 34 (SpanV.cells (aheadV l ((i : Nat) : Int) (ta % 86400001)))), (blk b10 64 (ClockV.cells (ClockV.mk x.Drift (Slc.mk xa.1 x.Syncs.length xa.2)))), (blk b3 61 (SyncV.cells sm)), (blk b2 28 (LineV.cells (LineV.mk (TrackV.mk (Slc.mk kA l.Track.length kC)) l.Fast (Slc.mk cA l.Clocks.length cC) (Slc.mk bA l.Beams.length bC) l.Finish l.Fakes l.Misses))), (rd kA l.Track.length 9 (l.Track.map StretchV.cells)).ro, (rd cA l.Clocks.length 2 (List.zipWith ClockM.cells l.Clocks az)).ro, (bun (nest ClockM.rds l.Clocks az)).ro, (rd bA l.Beams.length 4 (l.Beams.map BeamV.cells)).ro]) ?_ fun K45 hK45 => ?_
   · rintro ⟨⟨nA, nC⟩, hjK45_0⟩
     try dsimp only at hjK45_0
     try dsimp only
     have hjK := hjK45_0
     have hr2 := more_raw (i := i) (c := (moreC x m sm)) (a := (nA, nC)) (hin.twin hbz hcp) hbz ⟨hjK, by show ((moreC x m sm)).Syncs.length ≤ 9223372036854775807; simp [moreC]; omega⟩
     refine w_seq fun _ hK46 => ?_
     refine w_seq fun _ hK47 => ?_
     have hb48 : (LineV.cells (LineV.mk (TrackV.mk (Slc.mk a135 l.Track.length c136)) l.Fast (Slc.mk a237 l.Clocks.length c238) (Slc.mk a340 l.Beams.length c341) l.Finish l.Fakes l.Misses)) = (LineV.cells (LineV.mk (TrackV.mk (Slc.mk a135 l.Track.length c136)) l.Fast (Slc.mk a237 ((l.Clocks.set i (moreC x m sm)).length) c238) (Slc.mk a340 l.Beams.length c341) l.Finish l.Fakes l.Misses)) := by rw [List.length_set]
     rw [hb48]
     refine w_region ?_
     refine rS (LW 1 rfl tk28 rfl rfl) ?_
     refine rS (CL (ready_c (LineM.mk l.Track l.Fast (l.Clocks.set i (moreC x m sm)) l.Beams l.Finish l.Fakes l.Misses) a135 c136 (bz39.set i (nA, nC)) a237 c238 a340 c341 (by exact hr2)) (ha_cons (has_own_n (n := l.Track.length) 2 rfl (by simp)) <| ha_cons (has_own_n (n := (l.Clocks.set i (moreC x m sm)).length) 3 rfl (zip_len (by rw [List.length_set, List.length_set]; exact hbz))) <| ha_cons (has_more 4 0 rfl rfl rfl) <| ha_cons (has_own_n (n := l.Beams.length) 5 rfl (by simp)) <| ha_nil) rfl) ?_
     refine rS (NT rfl) ?_
     refine RK hK47 ?_
     refine w_if rfl (fun h211 => ?_) (fun h211 => ?_)
     · replace h211 := XT h211
       refine WS fun _ hK49 => ?_
       refine rS (MV rfl) ?_
       refine rS (AG rfl) ?_
       refine RK hK49 ?_
       refine w_ret ?_
       refine Q1 hQ rfl rfl rfl ?_
       first | rfl | exact congrArg Value.bool (decide_eq_true hnw.2)
     replace h211 := XF h211
     refine WK hK46 ?_
     refine WS fun _ hK50 => ?_
     refine rS (LW 1 rfl tk28 rfl rfl) ?_
     refine rS (MV rfl) ?_
     refine rS (MV rfl) ?_
     refine rS (CL (Ahead_c (LineM.mk l.Track l.Fast (l.Clocks.set i (moreC x m sm)) l.Beams l.Finish l.Fakes l.Misses) a135 c136 (bz39.set i (nA, nC)) a237 c238 a340 c341 ((i : Nat) : Int) (ta % 86400001) (by exact hr2.small h211.1)) (ha_cons (has_own_n (n := l.Track.length) 2 rfl (by simp)) <| ha_cons (has_own_n (n := (l.Clocks.set i (moreC x m sm)).length) 3 rfl (zip_len (by rw [List.length_set, List.length_set]; exact hbz))) <| ha_cons (has_more 4 0 rfl rfl rfl) <| ha_cons (has_own_n (n := l.Beams.length) 5 rfl (by simp)) <| ha_nil) rfl) ?_
     refine rS (MV rfl) ?_
     refine rS (EX rfl) ?_
     refine rS (EX rfl) ?_
     refine AL rfl tz34 fun b51 => ?_
     refine SW0 rfl ts34 rfl ?_
     refine rS (AG rfl) ?_
     refine RK hK50 ?_
     refine WS fun _ hK52 => ?_
     have hnl := ahead_in (l := (LineM.mk l.Track l.Fast (l.Clocks.set i (moreC x m sm)) l.Beams l.Finish l.Fakes l.Misses)) (ck := ((i : Nat) : Int)) (at_ := (ta % 86400001)) h211.2 ⟨by simp only [List.length_set]; omega, by omega⟩ (show (l.Clocks.set i (moreC x m sm))[(((i : Nat) : Int)).toNat]? = some (moreC x m sm) by rw [Int.toNat_natCast, List.getElem?_set_self hil])
     have hnm : (moreC x m sm) ∈ l.Clocks.set i (moreC x m sm) := List.mem_set hil _
     have hsn := ahead_span ((lineE_zero h211.2).2.clock _ hnm) (t := (ta % 86400001)) (by omega)
     have hnw := more_narrow (c := x) (k := m) (x := sm) (t := (ta % 86400001))
     rw [← hnl.2, ← ha1.2] at hnw
     rw [← hnl.2] at hsn
     refine rS (MV rfl) ?_
     refine rS (MV rfl) ?_
     refine rS (MV rfl) ?_
     refine rS (BI rfl b_eql) ?_
     refine rS (PK rfl) ?_
     refine rS (MV rfl) ?_
     refine r_bool (t := 225) rfl (fun h225 => ?_) (fun h225 => ?_)
     rotate_left 1
     · replace h225 := DF h225
       exact absurd hnl.1 h225
     replace h225 := DT h225
     refine rS (FA 0 rfl fo34_0 rfl) ?_
     refine rS (L1 (Value.int .i64 ((aheadV (LineM.mk l.Track l.Fast (l.Clocks.set i (moreC x m sm)) l.Beams l.Finish l.Fakes l.Misses) ((i : Nat) : Int) (ta % 86400001)).Lo)) 0 rfl tk3 rfl rfl) ?_
     refine rS (FA 1 rfl fo34_1 rfl) ?_
     refine rS (L1 (Value.int .i64 ((aheadV (LineM.mk l.Track l.Fast (l.Clocks.set i (moreC x m sm)) l.Beams l.Finish l.Fakes l.Misses) ((i : Nat) : Int) (ta % 86400001)).Hi)) 0 rfl tk3 rfl rfl) ?_
     refine rS (BI rfl b_leq) ?_
     refine rS (PK rfl) ?_
     refine rS (MV rfl) ?_
     refine r_bool (t := 232) rfl (fun h232 => ?_) (fun h232 => ?_)
     rotate_left 1
     · replace h232 := DF h232
       exact absurd hsn h232
     replace h232 := DT h232
     refine rS (FA 0 rfl fo34_0 rfl) ?_
     refine rS (L1 (Value.int .i64 ((aheadV (LineM.mk l.Track l.Fast (l.Clocks.set i (moreC x m sm)) l.Beams l.Finish l.Fakes l.Misses) ((i : Nat) : Int) (ta % 86400001)).Lo)) 0 rfl tk3 rfl rfl) ?_
     refine rS (FA 0 rfl fo34_0 rfl) ?_
     refine rS (L1 (Value.int .i64 ((aheadV l ((i : Nat) : Int) (ta % 86400001)).Lo)) 7 rfl tk3 rfl rfl) ?_
     refine rS (BI rfl b_geq) ?_
     refine rS (PK rfl) ?_
     refine rS (MV rfl) ?_
     refine r_bool (t := 239) rfl (fun h239 => ?_) (fun h239 => ?_)
     rotate_left 1
     · replace h239 := DF h239
       exact absurd hnw.1 h239
     replace h239 := DT h239
     refine rS (FA 1 rfl fo34_1 rfl) ?_
     refine rS (L1 (Value.int .i64 ((aheadV (LineM.mk l.Track l.Fast (l.Clocks.set i (moreC x m sm)) l.Beams l.Finish l.Fakes l.Misses) ((i : Nat) : Int) (ta % 86400001)).Hi)) 0 rfl tk3 rfl rfl) ?_
     refine rS (FA 1 rfl fo34_1 rfl) ?_
     refine rS (L1 (Value.int .i64 ((aheadV l ((i : Nat) : Int) (ta % 86400001)).Hi)) 7 rfl tk3 rfl rfl) ?_
     refine rS (BI rfl b_leq) ?_
     refine rS (PK rfl) ?_
     refine rS (AG rfl) ?_
     refine RK hK52 ?_
     refine w_ret ?_
     refine Q1 hQ rfl rfl rfl ?_
     first | rfl | exact congrArg Value.bool (decide_eq_true hnw.2)
   refine w_drawN mixed [0, 1, 2, 4, 5, 6, 7, 9, 12, 13, 14, 15] [3, 8, 10, 11, 16, 17, 18, 19] [false, false, false, false, false, false, false, false, false, false, false, false] [] [(blk b42 28 (LineV.cells (LineV.mk (TrackV.mk (Slc.mk a135 l.Track.length c136)) l.Fast (Slc.mk a237 l.Clocks.length c238) (Slc.mk a340 l.Beams.length c341) l.Finish l.Fakes l.Misses))), (own a135 c136 126 9 (l.Track.map StretchV.cells)), (bund (nest ClockM.owns l.Clocks bz39)), (own a340 c341 55 4 (l.Beams.map BeamV.cells)), (blk b26 34 (SpanV.cells (aheadV l ((i : Nat) : Int) (ta % 86400001)))), (blk b10 64 (ClockV.cells (ClockV.mk x.Drift (Slc.mk xa.1 x.Syncs.length xa.2)))), (blk b3 61 (SyncV.cells sm)), (blk b2 28 (LineV.cells (LineV.mk (TrackV.mk (Slc.mk kA l.Track.length kC)) l.Fast (Slc.mk cA l.Clocks.length cC) (Slc.mk bA l.Beams.length bC) l.Finish l.Fakes l.Misses))), (rd kA l.Track.length 9 (l.Track.map StretchV.cells)).ro, (rd cA l.Clocks.length 2 (List.zipWith ClockM.cells l.Clocks az)).ro, (bun (nest ClockM.rds l.Clocks az)).ro, (rd bA l.Beams.length 4 (l.Beams.map BeamV.cells)).ro] [] (by kernel_rfl) (fun w hs => St.sel [0, 1, 3, 4, 5, 6, 7, 8, 9, 10, 11, 12] rfl rfl hs) (fun w hs => St.sel [] rfl rfl hs) ?_
   have hxc := (hin.syn _ _ _ hx hxa).1
   refine eS rfl (FA 2 rfl fo28_2 rfl) ?_
   refine eS rfl (L1 (Value.slice a237 l.Clocks.length c238) 0 rfl tk25 rfl rfl) ?_
   refine eS rfl (MV rfl) ?_
   refine eS rfl (FA 1 rfl fo64_1 rfl) ?_
   refine eS rfl (L1 (Value.slice xa.1 x.Syncs.length xa.2) 5 rfl tk62 rfl rfl) ?_
   refine eS rfl (MV rfl) ?_
   refine eS rfl (SHI m rfl te62 (by omega) (by first | omega | exact Nat.zero_le _ | (simp; omega))) ?_
   refine eS rfl (LW 6 rfl tk61 rfl rfl) ?_
   refine eS rfl (FA 1 rfl fo64_1 rfl) ?_
   refine eS rfl (L1 (Value.slice xa.1 x.Syncs.length xa.2) 5 rfl tk62 rfl rfl) ?_
   refine eS rfl (MV rfl) ?_
   refine eS rfl (SLO m rfl te62 (by omega) (by first | omega | (simp; omega))) ?_
   refine d_fin rfl ?_
   refine n_step [3, 10] (by kernel_rfl) (n_cons ?_ <| n_cons ?_ <| n_nil)
   rotate_left 1
   · refine n_op (rem' := [3, 8, 11, 16, 17, 18, 19]) rfl (by kernel_rfl) rfl fun T83 hT83 => ?_
     refine r_bs (xs := [.tmp 199]) (cs := (SyncV.cells sm)) rfl te62 tz61 rfl rfl rfl rfl (by simp [Value.cells, SyncV.cells_length]) rfl rfl fun b84 => ?_
     refine r_nil (hT83 _ _ (fun w hs => St.sel [1, 2, 4, 5, 6, 7, 8, 9, 10, 11, 12, 13] rfl rfl hs) ?_)
     refine n_step [3] (by kernel_rfl) (n_cons ?_ <| n_nil)
     refine n_op (rem' := [8, 11, 16, 17, 18, 19]) rfl (by kernel_rfl) rfl fun T85 hT85 => ?_
     refine r_bs0 rfl te62 rfl fun b86 => ?_
     refine r_nil (hT85 _ _ (fun w hs => St.sel [2, 3, 5, 6, 7, 8, 9, 10, 11, 12, 13, 14] rfl rfl hs) ?_)
     refine n_step [8] (by kernel_rfl) (n_cons ?_ <| n_nil)
     refine n_op (rem' := [11, 16, 17, 18, 19]) rfl (by kernel_rfl) rfl fun T87 hT87 => ?_
     refine r_blk_own (es := (List.map SyncV.cells [])) (C' := [own (some ⟨b86, 0, none⟩) 0 61 3 (List.map SyncV.cells []), _, _, _, _, _, _, _, _, _, _, _, _, _, _]) 0 rfl (by simp) rfl (by simp [maxLen]) rfl ?_
     refine r_append (es2 := (List.map SyncV.cells (x.Syncs.take m))) (m' := (x.Syncs.take m).length) 0 rfl rfl rfl ta62 rfl rfl (by simp) (by rw [List.map_take]; exact rd_take (show Has _ (rd xa.1 x.Syncs.length 3 (x.Syncs.map SyncV.cells)).holds from (has_inr 13 rfl (mem_nest hx hxa (by simp [ClockM.rds])))) (by omega)) (one_SyncV_cells _) (by first | omega | (simp; omega)) (by first | (simp only [maxLen]; omega) | (simp [maxLen]; omega)) (by simp) (by simp) rfl fun a88 c89 => ?_
     try dsimp only
     refine r_nil (hT87 _ _ (fun w hs => St.sel [2, 3, 5, 6, 7, 8, 9, 10, 11, 12, 13, 14] rfl rfl hs) ?_)
     refine n_step [11] (by kernel_rfl) (n_cons ?_ <| n_nil)
     refine n_op (rem' := [16, 17, 18, 19]) rfl (by kernel_rfl) rfl fun T90 hT90 => ?_
     refine r_append (es2 := (List.map SyncV.cells (x.Syncs.take m ++ [sm]))) (m' := (x.Syncs.take m ++ [sm]).length) 0 rfl rfl rfl ta62 rfl rfl (by simp) (has_rd_blk (es := List.map SyncV.cells [sm]) 1 rfl rfl (by simp [SyncV.cells_length]) rfl) (one_SyncV_cells _) (by simp only [List.length_take]; omega) (by simp only [maxLen, List.length_take]; omega) (by rw [List.map_append]) (by simp) rfl fun a91 c92 => ?_
     try dsimp only
     refine r_nil (hT90 _ _ (fun w hs => St.sel [2, 3, 5, 6, 7, 8, 9, 10, 11, 12, 13, 14] rfl rfl hs) ?_)
     refine n_step [16] (by kernel_rfl) (n_cons ?_ <| n_nil)
     refine n_op (rem' := [17, 18, 19]) rfl (by kernel_rfl) rfl fun T93 hT93 => ?_
     refine r_append (es2 := (List.map SyncV.cells ((moreC x m sm).Syncs))) (m' := ((moreC x m sm).Syncs).length) 0 rfl rfl rfl ta62 rfl rfl (by simp) (by rw [List.map_drop]; exact rd_sub (show Has _ (rd xa.1 x.Syncs.length 3 (x.Syncs.map SyncV.cells)).holds from (has_inr 13 rfl (mem_nest hx hxa (by simp [ClockM.rds])))) (by omega) (by have := (hin.syn _ _ _ hx hxa).1; omega)) (one_SyncV_cells _) (by simp; omega) (by simp [maxLen]; omega) (by rw [← List.map_append]; rfl) (by simp) rfl fun a94 c95 => ?_
     try dsimp only
     refine r_cap 0 rfl fun hcap => ?_
     refine r_nil (hT93 _ _ (fun w hs => St.sel [2, 3, 5, 6, 7, 8, 9, 10, 11, 12, 13, 14] rfl rfl hs) ?_)
     refine n_step [17] (by kernel_rfl) (n_cons ?_ <| n_nil)
     refine n_op (rem' := [18, 19]) rfl (by kernel_rfl) rfl fun T96 hT96 => ?_
     obtain ⟨xb, hxb⟩ : ∃ y_, bz39[i]? = some y_ := ⟨bz39[i]'(by omega), List.getElem?_eq_getElem _⟩
     have hxm2 : (List.zipWith ClockM.cells l.Clocks bz39)[i]? = some (ClockM.cells x xb) := zip_get hx hxb
     refine rS (IA i rfl (has_own_n (n := l.Clocks.length) 4 rfl (zip_len hbz)) te25 (by decide) rfl (by omega)) ?_
     refine r_nil (hT96 _ _ (fun w hs => St.sel [2, 3, 5, 6, 7, 8, 9, 10, 11, 12, 13, 14] rfl rfl hs) ?_)
     refine n_step [18] (by kernel_rfl) (n_cons ?_ <| n_nil)
     refine n_op (rem' := [19]) rfl (by kernel_rfl) rfl fun T97 hT97 => ?_
     refine rS (FAR ((i * 2) + 1) rfl (has_own_n (n := l.Clocks.length) 4 rfl (zip_len hbz)) (Nat.mul_pos (by omega) (by decide)) fo64_1 rfl) ?_
     refine r_nil (hT97 _ _ (fun w hs => St.sel [2, 3, 5, 6, 7, 8, 9, 10, 11, 12, 13, 14] rfl rfl hs) ?_)
     refine n_step [19] (by kernel_rfl) (n_cons ?_ <| n_nil)
     refine n_op (rem' := []) rfl (by kernel_rfl) rfl fun T98 hT98 => ?_
     refine r_store_own (k := i) (o := 1) (vs := [(Value.slice a94 (((moreC x m sm).Syncs).length) c95)]) (es' := (List.zipWith ClockM.cells (l.Clocks.set i (moreC x m sm)) (bz39.set i (a94, c95)))) (C' := [_, _, _, _, (own a237 c238 64 2 (List.zipWith ClockM.cells (l.Clocks.set i (moreC x m sm)) (bz39.set i (a94, c95)))), _, _, _, _, _, _, _, _, _, _]) 4 rfl rfl rfl ts62 rfl rfl rfl rfl hxm2 rfl (by decide) (by exact set_zip (c := (moreC x m sm)) (a := (a94, c95))) rfl ?_
     refine r_nil (hT98 _ _ (fun w hs => St.sel [2, 3, 5, 6, 7, 8, 9, 10, 11, 12, 13, 14] rfl rfl hs) ?_)
     refine n_fin ?_
     refine k_then (k_sub (Sub.cons rfl <| Sub.cons rfl <| Sub.cons rfl <| Sub.cons rfl <| Sub.cons rfl <| Sub.cons rfl <| Sub.cons rfl <| Sub.cons rfl <| Sub.cons rfl <| Sub.cons rfl <| Sub.cons rfl <| Sub.nil _) (fun w hs => St.sel [0, 2, 3, 4, 5, 6, 7, 8, 9, 10, 11, 12, 13, 14] rfl rfl hs) (hK45 ⟨(a94, c95), (by simpa using hcap)⟩))
   refine n_op (rem' := [8, 10, 11, 16, 17, 18, 19]) rfl (by kernel_rfl) rfl fun T53 hT53 => ?_
   refine r_bs0 rfl te62 rfl fun b54 => ?_
   refine r_nil (hT53 _ _ (fun w hs => St.sel [1, 2, 4, 5, 6, 7, 8, 9, 10, 11, 12, 13] rfl rfl hs) ?_)
   refine n_step [8, 10] (by kernel_rfl) (n_cons ?_ <| n_cons ?_ <| n_nil)
   · refine n_op (rem' := [10, 11, 16, 17, 18, 19]) rfl (by kernel_rfl) rfl fun T55 hT55 => ?_
     refine r_blk_own (es := (List.map SyncV.cells [])) (C' := [own (some ⟨b54, 0, none⟩) 0 61 3 (List.map SyncV.cells []), _, _, _, _, _, _, _, _, _, _, _, _, _]) 0 rfl (by simp) rfl (by simp [maxLen]) rfl ?_
     refine r_append (es2 := (List.map SyncV.cells (x.Syncs.take m))) (m' := (x.Syncs.take m).length) 0 rfl rfl rfl ta62 rfl rfl (by simp) (by rw [List.map_take]; exact rd_take (show Has _ (rd xa.1 x.Syncs.length 3 (x.Syncs.map SyncV.cells)).holds from (has_inr 12 rfl (mem_nest hx hxa (by simp [ClockM.rds])))) (by omega)) (one_SyncV_cells _) (by first | omega | (simp; omega)) (by first | (simp only [maxLen]; omega) | (simp [maxLen]; omega)) (by simp) (by simp) rfl fun a56 c57 => ?_
     try dsimp only
     refine r_nil (hT55 _ _ (fun w hs => St.sel [1, 2, 4, 5, 6, 7, 8, 9, 10, 11, 12, 13] rfl rfl hs) ?_)
     refine n_step [10] (by kernel_rfl) (n_cons ?_ <| n_nil)
     refine n_op (rem' := [11, 16, 17, 18, 19]) rfl (by kernel_rfl) rfl fun T58 hT58 => ?_
     refine r_bs (xs := [.tmp 199]) (cs := (SyncV.cells sm)) rfl te62 tz61 rfl rfl rfl rfl (by simp [Value.cells, SyncV.cells_length]) rfl rfl fun b59 => ?_
     refine r_nil (hT58 _ _ (fun w hs => St.sel [2, 3, 5, 6, 7, 8, 9, 10, 11, 12, 13, 14] rfl rfl hs) ?_)
     refine n_step [11] (by kernel_rfl) (n_cons ?_ <| n_nil)
     refine n_op (rem' := [16, 17, 18, 19]) rfl (by kernel_rfl) rfl fun T60 hT60 => ?_
     refine r_append (es2 := (List.map SyncV.cells (x.Syncs.take m ++ [sm]))) (m' := (x.Syncs.take m ++ [sm]).length) 1 rfl rfl rfl ta62 rfl rfl (by simp) (has_rd_blk (es := List.map SyncV.cells [sm]) 0 rfl rfl (by simp [SyncV.cells_length]) rfl) (one_SyncV_cells _) (by simp only [List.length_take]; omega) (by simp only [maxLen, List.length_take]; omega) (by rw [List.map_append]) (by simp) rfl fun a61 c62 => ?_
     try dsimp only
     refine r_nil (hT60 _ _ (fun w hs => St.sel [2, 3, 5, 6, 7, 8, 9, 10, 11, 12, 13, 14] rfl rfl hs) ?_)
     refine n_step [16] (by kernel_rfl) (n_cons ?_ <| n_nil)
     refine n_op (rem' := [17, 18, 19]) rfl (by kernel_rfl) rfl fun T63 hT63 => ?_
     refine r_append (es2 := (List.map SyncV.cells ((moreC x m sm).Syncs))) (m' := ((moreC x m sm).Syncs).length) 1 rfl rfl rfl ta62 rfl rfl (by simp) (by rw [List.map_drop]; exact rd_sub (show Has _ (rd xa.1 x.Syncs.length 3 (x.Syncs.map SyncV.cells)).holds from (has_inr 13 rfl (mem_nest hx hxa (by simp [ClockM.rds])))) (by omega) (by have := (hin.syn _ _ _ hx hxa).1; omega)) (one_SyncV_cells _) (by simp; omega) (by simp [maxLen]; omega) (by rw [← List.map_append]; rfl) (by simp) rfl fun a64 c65 => ?_
     try dsimp only
     refine r_cap 1 rfl fun hcap => ?_
     refine r_nil (hT63 _ _ (fun w hs => St.sel [2, 3, 5, 6, 7, 8, 9, 10, 11, 12, 13, 14] rfl rfl hs) ?_)
     refine n_step [17] (by kernel_rfl) (n_cons ?_ <| n_nil)
     refine n_op (rem' := [18, 19]) rfl (by kernel_rfl) rfl fun T66 hT66 => ?_
     obtain ⟨xb, hxb⟩ : ∃ y_, bz39[i]? = some y_ := ⟨bz39[i]'(by omega), List.getElem?_eq_getElem _⟩
     have hxm2 : (List.zipWith ClockM.cells l.Clocks bz39)[i]? = some (ClockM.cells x xb) := zip_get hx hxb
     refine rS (IA i rfl (has_own_n (n := l.Clocks.length) 4 rfl (zip_len hbz)) te25 (by decide) rfl (by omega)) ?_
     refine r_nil (hT66 _ _ (fun w hs => St.sel [2, 3, 5, 6, 7, 8, 9, 10, 11, 12, 13, 14] rfl rfl hs) ?_)
     refine n_step [18] (by kernel_rfl) (n_cons ?_ <| n_nil)
     refine n_op (rem' := [19]) rfl (by kernel_rfl) rfl fun T67 hT67 => ?_
     refine rS (FAR ((i * 2) + 1) rfl (has_own_n (n := l.Clocks.length) 4 rfl (zip_len hbz)) (Nat.mul_pos (by omega) (by decide)) fo64_1 rfl) ?_
     refine r_nil (hT67 _ _ (fun w hs => St.sel [2, 3, 5, 6, 7, 8, 9, 10, 11, 12, 13, 14] rfl rfl hs) ?_)
     refine n_step [19] (by kernel_rfl) (n_cons ?_ <| n_nil)
     refine n_op (rem' := []) rfl (by kernel_rfl) rfl fun T68 hT68 => ?_
     refine r_store_own (k := i) (o := 1) (vs := [(Value.slice a64 (((moreC x m sm).Syncs).length) c65)]) (es' := (List.zipWith ClockM.cells (l.Clocks.set i (moreC x m sm)) (bz39.set i (a64, c65)))) (C' := [_, _, _, _, (own a237 c238 64 2 (List.zipWith ClockM.cells (l.Clocks.set i (moreC x m sm)) (bz39.set i (a64, c65)))), _, _, _, _, _, _, _, _, _, _]) 4 rfl rfl rfl ts62 rfl rfl rfl rfl hxm2 rfl (by decide) (by exact set_zip (c := (moreC x m sm)) (a := (a64, c65))) rfl ?_
     refine r_nil (hT68 _ _ (fun w hs => St.sel [2, 3, 5, 6, 7, 8, 9, 10, 11, 12, 13, 14] rfl rfl hs) ?_)
     refine n_fin ?_
     refine k_then (k_sub (Sub.cons rfl <| Sub.cons rfl <| Sub.cons rfl <| Sub.cons rfl <| Sub.cons rfl <| Sub.cons rfl <| Sub.cons rfl <| Sub.cons rfl <| Sub.cons rfl <| Sub.cons rfl <| Sub.cons rfl <| Sub.nil _) (fun w hs => St.sel [1, 2, 3, 4, 5, 6, 7, 8, 9, 10, 11, 12, 13, 14] rfl rfl hs) (hK45 ⟨(a64, c65), (by simpa using hcap)⟩))
   refine n_op (rem' := [8, 11, 16, 17, 18, 19]) rfl (by kernel_rfl) rfl fun T69 hT69 => ?_
   refine r_bs (xs := [.tmp 199]) (cs := (SyncV.cells sm)) rfl te62 tz61 rfl rfl rfl rfl (by simp [Value.cells, SyncV.cells_length]) rfl rfl fun b70 => ?_
   refine r_nil (hT69 _ _ (fun w hs => St.sel [2, 3, 5, 6, 7, 8, 9, 10, 11, 12, 13, 14] rfl rfl hs) ?_)
   refine n_step [8] (by kernel_rfl) (n_cons ?_ <| n_nil)
   refine n_op (rem' := [11, 16, 17, 18, 19]) rfl (by kernel_rfl) rfl fun T71 hT71 => ?_
   refine r_blk_own (es := (List.map SyncV.cells [])) (C' := [_, own (some ⟨b54, 0, none⟩) 0 61 3 (List.map SyncV.cells []), _, _, _, _, _, _, _, _, _, _, _, _, _]) 1 rfl (by simp) rfl (by simp [maxLen]) rfl ?_
   refine r_append (es2 := (List.map SyncV.cells (x.Syncs.take m))) (m' := (x.Syncs.take m).length) 1 rfl rfl rfl ta62 rfl rfl (by simp) (by rw [List.map_take]; exact rd_take (show Has _ (rd xa.1 x.Syncs.length 3 (x.Syncs.map SyncV.cells)).holds from (has_inr 13 rfl (mem_nest hx hxa (by simp [ClockM.rds])))) (by omega)) (one_SyncV_cells _) (by first | omega | (simp; omega)) (by first | (simp only [maxLen]; omega) | (simp [maxLen]; omega)) (by simp) (by simp) rfl fun a72 c73 => ?_
   try dsimp only
   refine r_nil (hT71 _ _ (fun w hs => St.sel [2, 3, 5, 6, 7, 8, 9, 10, 11, 12, 13, 14] rfl rfl hs) ?_)
   refine n_step [11] (by kernel_rfl) (n_cons ?_ <| n_nil)
   refine n_op (rem' := [16, 17, 18, 19]) rfl (by kernel_rfl) rfl fun T74 hT74 => ?_
   refine r_append (es2 := (List.map SyncV.cells (x.Syncs.take m ++ [sm]))) (m' := (x.Syncs.take m ++ [sm]).length) 1 rfl rfl rfl ta62 rfl rfl (by simp) (has_rd_blk (es := List.map SyncV.cells [sm]) 0 rfl rfl (by simp [SyncV.cells_length]) rfl) (one_SyncV_cells _) (by simp only [List.length_take]; omega) (by simp only [maxLen, List.length_take]; omega) (by rw [List.map_append]) (by simp) rfl fun a75 c76 => ?_
   try dsimp only
   refine r_nil (hT74 _ _ (fun w hs => St.sel [2, 3, 5, 6, 7, 8, 9, 10, 11, 12, 13, 14] rfl rfl hs) ?_)
   refine n_step [16] (by kernel_rfl) (n_cons ?_ <| n_nil)
   refine n_op (rem' := [17, 18, 19]) rfl (by kernel_rfl) rfl fun T77 hT77 => ?_
   refine r_append (es2 := (List.map SyncV.cells ((moreC x m sm).Syncs))) (m' := ((moreC x m sm).Syncs).length) 1 rfl rfl rfl ta62 rfl rfl (by simp) (by rw [List.map_drop]; exact rd_sub (show Has _ (rd xa.1 x.Syncs.length 3 (x.Syncs.map SyncV.cells)).holds from (has_inr 13 rfl (mem_nest hx hxa (by simp [ClockM.rds])))) (by omega) (by have := (hin.syn _ _ _ hx hxa).1; omega)) (one_SyncV_cells _) (by simp; omega) (by simp [maxLen]; omega) (by rw [← List.map_append]; rfl) (by simp) rfl fun a78 c79 => ?_
   try dsimp only
   refine r_cap 1 rfl fun hcap => ?_
   refine r_nil (hT77 _ _ (fun w hs => St.sel [2, 3, 5, 6, 7, 8, 9, 10, 11, 12, 13, 14] rfl rfl hs) ?_)
   refine n_step [17] (by kernel_rfl) (n_cons ?_ <| n_nil)
   refine n_op (rem' := [18, 19]) rfl (by kernel_rfl) rfl fun T80 hT80 => ?_
   obtain ⟨xb, hxb⟩ : ∃ y_, bz39[i]? = some y_ := ⟨bz39[i]'(by omega), List.getElem?_eq_getElem _⟩
   have hxm2 : (List.zipWith ClockM.cells l.Clocks bz39)[i]? = some (ClockM.cells x xb) := zip_get hx hxb
   refine rS (IA i rfl (has_own_n (n := l.Clocks.length) 4 rfl (zip_len hbz)) te25 (by decide) rfl (by omega)) ?_
   refine r_nil (hT80 _ _ (fun w hs => St.sel [2, 3, 5, 6, 7, 8, 9, 10, 11, 12, 13, 14] rfl rfl hs) ?_)
   refine n_step [18] (by kernel_rfl) (n_cons ?_ <| n_nil)
   refine n_op (rem' := [19]) rfl (by kernel_rfl) rfl fun T81 hT81 => ?_
   refine rS (FAR ((i * 2) + 1) rfl (has_own_n (n := l.Clocks.length) 4 rfl (zip_len hbz)) (Nat.mul_pos (by omega) (by decide)) fo64_1 rfl) ?_
   refine r_nil (hT81 _ _ (fun w hs => St.sel [2, 3, 5, 6, 7, 8, 9, 10, 11, 12, 13, 14] rfl rfl hs) ?_)
   refine n_step [19] (by kernel_rfl) (n_cons ?_ <| n_nil)
   refine n_op (rem' := []) rfl (by kernel_rfl) rfl fun T82 hT82 => ?_
   refine r_store_own (k := i) (o := 1) (vs := [(Value.slice a78 (((moreC x m sm).Syncs).length) c79)]) (es' := (List.zipWith ClockM.cells (l.Clocks.set i (moreC x m sm)) (bz39.set i (a78, c79)))) (C' := [_, _, _, _, (own a237 c238 64 2 (List.zipWith ClockM.cells (l.Clocks.set i (moreC x m sm)) (bz39.set i (a78, c79)))), _, _, _, _, _, _, _, _, _, _]) 4 rfl rfl rfl ts62 rfl rfl rfl rfl hxm2 rfl (by decide) (by exact set_zip (c := (moreC x m sm)) (a := (a78, c79))) rfl ?_
   refine r_nil (hT82 _ _ (fun w hs => St.sel [2, 3, 5, 6, 7, 8, 9, 10, 11, 12, 13, 14] rfl rfl hs) ?_)
   refine n_fin ?_
   refine k_then (k_sub (Sub.cons rfl <| Sub.cons rfl <| Sub.cons rfl <| Sub.cons rfl <| Sub.cons rfl <| Sub.cons rfl <| Sub.cons rfl <| Sub.cons rfl <| Sub.cons rfl <| Sub.cons rfl <| Sub.cons rfl <| Sub.nil _) (fun w hs => St.sel [1, 2, 3, 4, 5, 6, 7, 8, 9, 10, 11, 12, 13, 14] rfl rfl hs) (hK45 ⟨(a78, c79), (by simpa using hcap)⟩))
 refine w_block ?_
 have hinit : (0 ≤ x.Syncs.length) := by exact Nat.zero_le _
 refine w_loop (ι := { z : Nat // (z ≤ x.Syncs.length) }) (fun z => [(1, (Value.int .u8 wh)), (2, (Value.int .u32 ta)), (3, (Value.int .u32 tb)), (5, (Value.pointer (some ⟨b2, 0, none⟩))), (9, (Value.pointer (some ⟨b3, 0, none⟩))), (11, (Value.bool true)), (12, (Value.int .i64 ((i : Nat) : Int))), (13, (Value.pointer (some ⟨b10, 0, none⟩))), (18, (Value.int .i64 (ta % 86400001))), (20, (Value.pointer (some ⟨b26, 0, none⟩))), (25, (Value.pointer (some ⟨b42, 0, none⟩))), (26, (Value.int .i64 ((z.1 : Nat) : Int)))]) (fun z => [(blk b42 28 (LineV.cells (LineV.mk (TrackV.mk (Slc.mk a135 l.Track.length c136)) l.Fast (Slc.mk a237 l.Clocks.length c238) (Slc.mk a340 l.Beams.length c341) l.Finish l.Fakes l.Misses))), (own a135 c136 126 9 (l.Track.map StretchV.cells)), (own a237 c238 64 2 (List.zipWith ClockM.cells l.Clocks bz39)), (bund (nest ClockM.owns l.Clocks bz39)), (own a340 c341 55 4 (l.Beams.map BeamV.cells)), (blk b26 34 (SpanV.cells (aheadV l ((i : Nat) : Int) (ta % 86400001)))), (blk b10 64 (ClockV.cells (ClockV.mk x.Drift (Slc.mk xa.1 x.Syncs.length xa.2)))), (blk b3 61 (SyncV.cells sm)), (blk b2 28 (LineV.cells (LineV.mk (TrackV.mk (Slc.mk kA l.Track.length kC)) l.Fast (Slc.mk cA l.Clocks.length cC) (Slc.mk bA l.Beams.length bC) l.Finish l.Fakes l.Misses))), (rd kA l.Track.length 9 (l.Track.map StretchV.cells)).ro, (rd cA l.Clocks.length 2 (List.zipWith ClockM.cells l.Clocks az)).ro, (bun (nest ClockM.rds l.Clocks az)).ro, (rd bA l.Beams.length 4 (l.Beams.map BeamV.cells)).ro]) (fun z => x.Syncs.length - z.1) ⟨0, hinit⟩ (Sub.cons rfl <| Sub.cons rfl <| Sub.cons rfl <| Sub.cons rfl <| Sub.cons rfl <| Sub.cons rfl <| Sub.cons rfl <| Sub.cons rfl <| Sub.cons rfl <| Sub.cons rfl <| Sub.cons rfl <| Sub.cons rfl <| Sub.nil _) (fun w hs => St.sel [0, 1, 2, 3, 4, 6, 7, 8, 9, 10, 11, 12, 13] rfl rfl hs) ?_
 clear hinit
 rintro ⟨m, hl21_0⟩ J99 hJ99
 try dsimp only
 refine w_seq fun _ hK100 => ?_
 refine w_seq fun _ hK101 => ?_
 refine w_draw mixed 16 (by kernel_rfl) ?_
 have hgr := small_of h33.1
 refine dS (MV rfl) ?_
 refine dS (FA 1 rfl fo64_1 rfl) ?_
 refine dS (L1 (Value.slice xa.1 x.Syncs.length xa.2) 6 rfl tk62 rfl rfl) ?_
 refine dS (LN rfl ut62) ?_
 refine dS (BI rfl b_lss) ?_
 refine dS (MV rfl) ?_
 refine d_bool (t := 177) rfl (fun h177 => ?_) (fun h177 => ?_)
 rotate_left 1
 · replace h177 := DF h177
   refine dS (OX rfl) ?_
   refine dS (OX rfl) ?_
   refine dS (OX rfl) ?_
   refine dS (OX rfl) ?_
   refine dS (OX rfl) ?_
   refine dS (OX rfl) ?_
   refine dS (OX rfl) ?_
   refine dS (OX rfl) ?_
   refine dS (OX rfl) ?_
   refine dS (PK rfl) ?_
   refine d_end ?_
   refine RK hK101 ?_
   refine w_if_false rfl ?_
   refine w_exit ?_
   refine k_exit_then ?_
   refine k_exit_then ?_
   refine k_exit_same ?_
   refine k_then (k_sub (Sub.cons rfl <| Sub.cons rfl <| Sub.cons rfl <| Sub.cons rfl <| Sub.cons rfl <| Sub.cons rfl <| Sub.cons rfl <| Sub.cons rfl <| Sub.cons rfl <| Sub.cons rfl <| Sub.cons rfl <| Sub.cons rfl <| Sub.nil _) (fun w hs => St.sel [0, 1, 2, 3, 4, 5, 6, 7, 8, 9, 10, 11, 12] rfl rfl hs) (hK44 ⟨m, (by first | assumption | omega)⟩))
 replace h177 := DT h177
 refine dS (FA 1 rfl fo64_1 rfl) ?_
 refine dS (L1 (Value.slice xa.1 x.Syncs.length xa.2) 6 rfl tk62 rfl rfl) ?_
 refine dS (MV rfl) ?_
 obtain ⟨s, hs⟩ : ∃ y_, x.Syncs[m]? = some y_ := ⟨x.Syncs[m]'(by omega), List.getElem?_eq_getElem _⟩
 have hsm : (x.Syncs.map SyncV.cells)[m]? = some (SyncV.cells s) := by rw [List.getElem?_map, hs]; rfl
 refine dS (IA m rfl (show Has _ (rd xa.1 x.Syncs.length 3 (x.Syncs.map SyncV.cells)).holds from (has_inr 11 rfl (mem_nest hx hxa (by simp [ClockM.rds])))) te62 (by decide) (by omega) (by omega)) ?_
 refine dS (FAR (m * 3) rfl (show Has _ (rd xa.1 x.Syncs.length 3 (x.Syncs.map SyncV.cells)).holds from (has_inr 11 rfl (mem_nest hx hxa (by simp [ClockM.rds])))) (Nat.mul_pos (by omega) (by decide)) fo61_0 rfl) ?_
 refine dS (LE1 m 0 (Value.int .i64 s.At) rfl tk3 (show Has _ (rd xa.1 x.Syncs.length 3 (x.Syncs.map SyncV.cells)).holds from (has_inr 11 rfl (mem_nest hx hxa (by simp [ClockM.rds])))) hsm rfl (by decide) rfl) ?_
 refine dS (FA 0 rfl fo61_0 rfl) ?_
 refine dS (L1 (Value.int .i64 sm.At) 7 rfl tk3 rfl rfl) ?_
 refine dS (BI rfl b_lss) ?_
 refine dS (PK rfl) ?_
 refine d_end ?_
 refine RK hK101 ?_
 refine w_if rfl (fun h187 => ?_) (fun h187 => ?_)
 rotate_left 1
 · replace h187 := DF h187
   refine w_exit ?_
   refine k_exit_then ?_
   refine k_exit_then ?_
   refine k_exit_same ?_
   refine k_then (k_sub (Sub.cons rfl <| Sub.cons rfl <| Sub.cons rfl <| Sub.cons rfl <| Sub.cons rfl <| Sub.cons rfl <| Sub.cons rfl <| Sub.cons rfl <| Sub.cons rfl <| Sub.cons rfl <| Sub.cons rfl <| Sub.cons rfl <| Sub.nil _) (fun w hs => St.sel [0, 1, 2, 3, 4, 5, 6, 7, 8, 9, 10, 11, 12] rfl rfl hs) (hK44 ⟨m, (by first | assumption | omega)⟩))
 replace h187 := DT h187
 refine WK hK100 ?_
 refine w_block ?_
 refine w_region ?_
 refine rS (MV rfl) ?_
 refine rS (BI rfl (b_add ⟨by omega, by omega⟩)) ?_
 refine rS (AG rfl) ?_
 refine r_nil ?_
 refine k_block ?_
 have hb102 : (Value.int .i64 (((m + 1) : Nat) : Int)) = (Value.int .i64 (((m : Nat) : Int) + 1)) := by exact congrArg (Value.int .i64) (by omega)
 refine k_then (hJ99 ⟨(m + 1), (by first | omega | (simp only []; omega))⟩ _ _ _ rfl (by first | omega | (simp; omega)) (Sub.cons rfl <| Sub.cons rfl <| Sub.cons rfl <| Sub.cons rfl <| Sub.cons rfl <| Sub.cons rfl <| Sub.cons rfl <| Sub.cons rfl <| Sub.cons rfl <| Sub.cons rfl <| Sub.cons rfl <| sub_val rfl hb102 <| Sub.nil _) (fun w hs => St.sel [0, 1, 2, 3, 4, 5, 6, 7, 8, 9, 10, 11, 12] rfl rfl hs))
end
section
open Go.RowKit
set_option linter.unusedVariables false
def ReadsAs {α : Type} (cells : α → List Value) (sz : Nat) (R : World → α → Prop) (w : World) (s : Slc) : Prop := ∃ l : List α, s.n = l.length ∧ (rd s.a l.length sz (l.map cells)).holds w ∧ (∀ x ∈ l, R w x) ∧ l.length ≤ maxLen ∧ s.n ≤ s.c
theorem open_clocks {w : World} {R : World → SyncV → Prop} : ∀ {l : List ClockV}, (∀ x ∈ l, ReadsAs SyncV.cells 3 R w x.Syncs) → ∃ (ms : List ClockM) (az : List RA), l.map ClockV.cells = List.zipWith ClockM.cells ms az ∧ ms.length = l.length ∧ az.length = l.length ∧ (∀ X ∈ nest ClockM.rds ms az, X.holds w) ∧
    (∀ (k : Nat) m (a : RA), ms[k]? = some m → az[k]? = some a → m.Syncs.length ≤ a.2 ∧ m.Syncs.length ≤ 9223372036854775807) ∧ ms.map (fun m => m.Drift) = l.map (fun x => x.Drift) ∧ ∀ (k : Nat) m y, ms[k]? = some m → y ∈ m.Syncs → R w y
  | [], _ => ⟨[], [], rfl, rfl, rfl, (fun X hX => by cases hX), (fun k m a h => by simp at h), rfl, (fun k m y h => by simp at h)⟩
  | x :: l, h => by
    obtain ⟨ms, az, h1, h2, h3, h4, h5, h6, h7⟩ := open_clocks (fun y hy => h y (List.mem_cons_of_mem _ hy))
    obtain ⟨sy, e1, e2, e3, e4, e5⟩ := h x (by simp)
    have e4' : sy.length ≤ 9223372036854775807 := e4
    refine ⟨⟨x.Drift, sy⟩ :: ms, (x.Syncs.a, x.Syncs.c) :: az, ?_, by simp [h2], by simp [h3], fun X hX => ?_, fun k m a hm ha => ?_, by simp [h6], fun k m y hm hy => ?_⟩
    · obtain ⟨dr, ⟨a, n, c⟩⟩ := x
      simp only at e1
      subst e1
      simp only [List.map_cons, List.zipWith_cons_cons, h1]
      rfl
    · rcases List.mem_append.1 hX with hX | hX
      · simp only [ClockM.rds, List.mem_singleton] at hX
        subst hX; exact e2
      · exact h4 X hX
    · cases k with
      | zero =>
        simp only [List.getElem?_cons_zero, Option.some.injEq] at hm ha
        subst hm ha
        exact ⟨by simp only; omega, e4'⟩
      | succ k => exact h5 k m a (by simpa using hm) (by simpa using ha)
    · cases k with
      | zero =>
        simp only [List.getElem?_cons_zero, Option.some.injEq] at hm
        subst hm
        exact e3 y hy
      | succ k => exact h7 k m y (by simpa using hm) hy
theorem open_line {w : World} {s : LineV} {R1 : World → StretchV → Prop} {R2 : World → ClockV → Prop} {R3 : World → BeamV → Prop} {R4 : World → SyncV → Prop} (h1 : ReadsAs StretchV.cells 9 R1 w s.Track.Stretches) (hs : ∀ x, R1 w x → 0 ≤ x.Side ∧ x.Side ≤ 255) (h2 : ReadsAs ClockV.cells 2 R2 w s.Clocks) (hc : ∀ x, R2 w x → ReadsAs SyncV.cells 3 R4 w x.Syncs) (h3 : ReadsAs BeamV.cells 4 R3 w s.Beams) :
    ∃ (l : LineM) (az : List RA) (kA : Option Addr) (kC : Nat) (cA : Option Addr) (cC : Nat) (bA : Option Addr) (bC : Nat), s = LineV.mk (TrackV.mk (Slc.mk kA l.Track.length kC)) l.Fast (Slc.mk cA l.Clocks.length cC) (Slc.mk bA l.Beams.length bC) l.Finish l.Fakes l.Misses ∧ LineRaw l az ∧
      ((rd kA l.Track.length 9 (l.Track.map StretchV.cells)).holds w ∧ (rd cA l.Clocks.length 2 (List.zipWith ClockM.cells l.Clocks az)).holds w ∧ (bun (nest ClockM.rds l.Clocks az)).holds w ∧ (rd bA l.Beams.length 4 (l.Beams.map BeamV.cells)).holds w) ∧ l.Fast = s.Fast ∧ l.Finish = s.Finish ∧ l.Fakes = s.Fakes ∧ l.Misses = s.Misses := by
  obtain ⟨⟨⟨ka, kn, kc⟩⟩, fa, ⟨ca, cn, cc⟩, ⟨ba, bn, bc⟩, fi, fk, mi⟩ := s
  obtain ⟨ts, t1, t2, t3, t4, t5⟩ := h1
  obtain ⟨cs, c1, c2, c3, c4, c5⟩ := h2
  obtain ⟨bs, b1, b2, b3, b4, b5⟩ := h3
  simp only at t1 c1 b1
  subst t1 c1 b1
  obtain ⟨ms, az, m1, m2, m3, m4, m5, _⟩ := open_clocks (fun x hx => hc x (c3 x hx))
  have t4' : ts.length ≤ 9223372036854775807 := t4
  have c4' : cs.length ≤ 9223372036854775807 := c4
  have b4' : bs.length ≤ 9223372036854775807 := b4
  refine ⟨⟨ts, fa, ms, bs, fi, fk, mi⟩, az, ka, kc, ca, cc, ba, bc, by simp only [m2], ⟨t4', fun x hx => hs x (t3 x hx), by simp only; omega, by simp only; omega, b4', m5⟩, ⟨t2, ?_, m4, b2⟩, rfl, rfl, rfl, rfl⟩
  simp only at c2 ⊢
  rw [m2, ← m1]; exact c2
end
section
open Go.ChangeShapes Go.WideShapes Go.ChangeAt Go.RowKit
set_option linter.unusedVariables false
theorem cz28 : Try.prog.cellsOf 28 = 7 := by kernel_rfl
theorem cz24 : Try.prog.cellsOf 24 = 1 := by kernel_rfl
theorem cz22 : Try.prog.cellsOf 22 = 1 := by kernel_rfl
theorem cz126 : Try.prog.cellsOf 126 = 9 := by kernel_rfl
theorem cz3 : Try.prog.cellsOf 3 = 1 := by kernel_rfl
def Is3 (w : World) (n : Int) : Prop := In64 n
theorem op3 : OpR Try.prog 3 Int iC Is3 := op_i64 ut3
theorem cz34 : Try.prog.cellsOf 34 = 2 := by kernel_rfl
structure Is34 (w : World) (s : SpanV) : Prop where
  Lo : Is3 w s.Lo
  Hi : Is3 w s.Hi
theorem fx34 : fL Try.prog 34 = some [(3, 0), (3, 1)] := by kernel_rfl
theorem op34 : OpR Try.prog 34 SpanV SpanV.cells Is34 := fun {H} enc w base sp held fuel cs x h => by
  obtain ⟨hl, hp⟩ := op_parts fx34 h
  obtain ⟨n0, y0, h0⟩ := hp 0 3 0 rfl
  obtain ⟨s0, c0, r0⟩ := op3 _ _ _ _ _ _ _ _ h0
  obtain ⟨n1, y1, h1⟩ := hp 1 3 1 rfl
  obtain ⟨s1, c1, r1⟩ := op3 _ _ _ _ _ _ _ _ h1
  refine ⟨⟨s0, s1⟩, ?_, ⟨r0, r1⟩⟩
  have e1 := parts_last (hl.trans cz34) (by rw [cz3]) c1
  have e0 := parts_cons c0 (m := 1) (by rw [cz3]) e1
  exact e0
theorem cz5 : Try.prog.cellsOf 5 = 1 := by kernel_rfl
def Is5 (w : World) (n : Int) : Prop := 0 ≤ n ∧ n ≤ 255
theorem op5 : OpR Try.prog 5 Int iC_u8 Is5 := op_u8 ut5
structure Is126 (w : World) (s : StretchV) : Prop where
  Id : Is3 w s.Id
  Long : Is34 w s.Long
  Fall : Is34 w s.Fall
  Radius : Is34 w s.Radius
  Side : Is5 w s.Side
  Wall : Is3 w s.Wall
theorem fx126 : fL Try.prog 126 = some [(3, 0), (34, 1), (34, 3), (34, 5), (5, 7), (3, 8)] := by kernel_rfl
theorem op126 : OpR Try.prog 126 StretchV StretchV.cells Is126 := fun {H} enc w base sp held fuel cs x h => by
  obtain ⟨hl, hp⟩ := op_parts fx126 h
  obtain ⟨n0, y0, h0⟩ := hp 0 3 0 rfl
  obtain ⟨s0, c0, r0⟩ := op3 _ _ _ _ _ _ _ _ h0
  obtain ⟨n1, y1, h1⟩ := hp 1 34 1 rfl
  obtain ⟨s1, c1, r1⟩ := op34 _ _ _ _ _ _ _ _ h1
  obtain ⟨n2, y2, h2⟩ := hp 2 34 3 rfl
  obtain ⟨s2, c2, r2⟩ := op34 _ _ _ _ _ _ _ _ h2
  obtain ⟨n3, y3, h3⟩ := hp 3 34 5 rfl
  obtain ⟨s3, c3, r3⟩ := op34 _ _ _ _ _ _ _ _ h3
  obtain ⟨n4, y4, h4⟩ := hp 4 5 7 rfl
  obtain ⟨s4, c4, r4⟩ := op5 _ _ _ _ _ _ _ _ h4
  obtain ⟨n5, y5, h5⟩ := hp 5 3 8 rfl
  obtain ⟨s5, c5, r5⟩ := op3 _ _ _ _ _ _ _ _ h5
  refine ⟨⟨s0, s1, s2, s3, s4, s5⟩, ?_, ⟨r0, r1, r2, r3, r4, r5⟩⟩
  have e5 := parts_last (hl.trans cz126) (by rw [cz3]) c5
  have e4 := parts_cons c4 (m := 8) (by rw [cz5]) e5
  have e3 := parts_cons c3 (m := 7) (by rw [cz34]) e4
  have e2 := parts_cons c2 (m := 5) (by rw [cz34]) e3
  have e1 := parts_cons c1 (m := 3) (by rw [cz34]) e2
  have e0 := parts_cons c0 (m := 1) (by rw [cz3]) e1
  exact e0
def Is22 (w : World) (s : Slc) : Prop := ∃ l : List StretchV, s.n = l.length ∧ (rd s.a l.length 9 (l.map StretchV.cells)).holds w ∧ (∀ x ∈ l, Is126 w x) ∧ l.length ≤ maxLen ∧ s.n ≤ s.c
theorem op22 : OpR Try.prog 22 Slc (fun s => [Value.slice s.a s.n s.c]) Is22 := op_slice ut22 cz126 op126
structure Is24 (w : World) (s : TrackV) : Prop where
  Stretches : Is22 w s.Stretches
theorem fx24 : fL Try.prog 24 = some [(22, 0)] := by kernel_rfl
theorem op24 : OpR Try.prog 24 TrackV TrackV.cells Is24 := fun {H} enc w base sp held fuel cs x h => by
  obtain ⟨hl, hp⟩ := op_parts fx24 h
  obtain ⟨n0, y0, h0⟩ := hp 0 22 0 rfl
  obtain ⟨s0, c0, r0⟩ := op22 _ _ _ _ _ _ _ _ h0
  refine ⟨⟨s0⟩, ?_, ⟨r0⟩⟩
  have e0 := parts_last (hl.trans cz24) (by rw [cz22]) c0
  exact e0
theorem cz25 : Try.prog.cellsOf 25 = 1 := by kernel_rfl
theorem cz64 : Try.prog.cellsOf 64 = 2 := by kernel_rfl
theorem cz62 : Try.prog.cellsOf 62 = 1 := by kernel_rfl
theorem cz61 : Try.prog.cellsOf 61 = 3 := by kernel_rfl
structure Is61 (w : World) (s : SyncV) : Prop where
  At : Is3 w s.At
  Ahead : Is34 w s.Ahead
theorem fx61 : fL Try.prog 61 = some [(3, 0), (34, 1)] := by kernel_rfl
theorem op61 : OpR Try.prog 61 SyncV SyncV.cells Is61 := fun {H} enc w base sp held fuel cs x h => by
  obtain ⟨hl, hp⟩ := op_parts fx61 h
  obtain ⟨n0, y0, h0⟩ := hp 0 3 0 rfl
  obtain ⟨s0, c0, r0⟩ := op3 _ _ _ _ _ _ _ _ h0
  obtain ⟨n1, y1, h1⟩ := hp 1 34 1 rfl
  obtain ⟨s1, c1, r1⟩ := op34 _ _ _ _ _ _ _ _ h1
  refine ⟨⟨s0, s1⟩, ?_, ⟨r0, r1⟩⟩
  have e1 := parts_last (hl.trans cz61) (by rw [cz34]) c1
  have e0 := parts_cons c0 (m := 1) (by rw [cz3]) e1
  exact e0
def Is62 (w : World) (s : Slc) : Prop := ∃ l : List SyncV, s.n = l.length ∧ (rd s.a l.length 3 (l.map SyncV.cells)).holds w ∧ (∀ x ∈ l, Is61 w x) ∧ l.length ≤ maxLen ∧ s.n ≤ s.c
theorem op62 : OpR Try.prog 62 Slc (fun s => [Value.slice s.a s.n s.c]) Is62 := op_slice ut62 cz61 op61
structure Is64 (w : World) (s : ClockV) : Prop where
  Drift : Is3 w s.Drift
  Syncs : Is62 w s.Syncs
theorem fx64 : fL Try.prog 64 = some [(3, 0), (62, 1)] := by kernel_rfl
theorem op64 : OpR Try.prog 64 ClockV ClockV.cells Is64 := fun {H} enc w base sp held fuel cs x h => by
  obtain ⟨hl, hp⟩ := op_parts fx64 h
  obtain ⟨n0, y0, h0⟩ := hp 0 3 0 rfl
  obtain ⟨s0, c0, r0⟩ := op3 _ _ _ _ _ _ _ _ h0
  obtain ⟨n1, y1, h1⟩ := hp 1 62 1 rfl
  obtain ⟨s1, c1, r1⟩ := op62 _ _ _ _ _ _ _ _ h1
  refine ⟨⟨s0, s1⟩, ?_, ⟨r0, r1⟩⟩
  have e1 := parts_last (hl.trans cz64) (by rw [cz62]) c1
  have e0 := parts_cons c0 (m := 1) (by rw [cz3]) e1
  exact e0
def Is25 (w : World) (s : Slc) : Prop := ∃ l : List ClockV, s.n = l.length ∧ (rd s.a l.length 2 (l.map ClockV.cells)).holds w ∧ (∀ x ∈ l, Is64 w x) ∧ l.length ≤ maxLen ∧ s.n ≤ s.c
theorem op25 : OpR Try.prog 25 Slc (fun s => [Value.slice s.a s.n s.c]) Is25 := op_slice ut25 cz64 op64
theorem cz26 : Try.prog.cellsOf 26 = 1 := by kernel_rfl
theorem cz55 : Try.prog.cellsOf 55 = 4 := by kernel_rfl
theorem cz53 : Try.prog.cellsOf 53 = 3 := by kernel_rfl
structure Is53 (w : World) (s : SpotV) : Prop where
  Stretch : Is3 w s.Stretch
  Off : Is34 w s.Off
theorem fx53 : fL Try.prog 53 = some [(3, 0), (34, 1)] := by kernel_rfl
theorem op53 : OpR Try.prog 53 SpotV SpotV.cells Is53 := fun {H} enc w base sp held fuel cs x h => by
  obtain ⟨hl, hp⟩ := op_parts fx53 h
  obtain ⟨n0, y0, h0⟩ := hp 0 3 0 rfl
  obtain ⟨s0, c0, r0⟩ := op3 _ _ _ _ _ _ _ _ h0
  obtain ⟨n1, y1, h1⟩ := hp 1 34 1 rfl
  obtain ⟨s1, c1, r1⟩ := op34 _ _ _ _ _ _ _ _ h1
  refine ⟨⟨s0, s1⟩, ?_, ⟨r0, r1⟩⟩
  have e1 := parts_last (hl.trans cz53) (by rw [cz34]) c1
  have e0 := parts_cons c0 (m := 1) (by rw [cz3]) e1
  exact e0
structure Is55 (w : World) (s : BeamV) : Prop where
  Spot : Is53 w s.Spot
  Clock : Is3 w s.Clock
theorem fx55 : fL Try.prog 55 = some [(53, 0), (3, 3)] := by kernel_rfl
theorem op55 : OpR Try.prog 55 BeamV BeamV.cells Is55 := fun {H} enc w base sp held fuel cs x h => by
  obtain ⟨hl, hp⟩ := op_parts fx55 h
  obtain ⟨n0, y0, h0⟩ := hp 0 53 0 rfl
  obtain ⟨s0, c0, r0⟩ := op53 _ _ _ _ _ _ _ _ h0
  obtain ⟨n1, y1, h1⟩ := hp 1 3 3 rfl
  obtain ⟨s1, c1, r1⟩ := op3 _ _ _ _ _ _ _ _ h1
  refine ⟨⟨s0, s1⟩, ?_, ⟨r0, r1⟩⟩
  have e1 := parts_last (hl.trans cz55) (by rw [cz3]) c1
  have e0 := parts_cons c0 (m := 3) (by rw [cz53]) e1
  exact e0
def Is26 (w : World) (s : Slc) : Prop := ∃ l : List BeamV, s.n = l.length ∧ (rd s.a l.length 4 (l.map BeamV.cells)).holds w ∧ (∀ x ∈ l, Is55 w x) ∧ l.length ≤ maxLen ∧ s.n ≤ s.c
theorem op26 : OpR Try.prog 26 Slc (fun s => [Value.slice s.a s.n s.c]) Is26 := op_slice ut26 cz55 op55
structure Is28 (w : World) (s : LineV) : Prop where
  Track : Is24 w s.Track
  Fast : Is3 w s.Fast
  Clocks : Is25 w s.Clocks
  Beams : Is26 w s.Beams
  Finish : Is3 w s.Finish
  Fakes : Is3 w s.Fakes
  Misses : Is3 w s.Misses
theorem fx28 : fL Try.prog 28 = some [(24, 0), (3, 1), (25, 2), (26, 3), (3, 4), (3, 5), (3, 6)] := by kernel_rfl
theorem op28 : OpR Try.prog 28 LineV LineV.cells Is28 := fun {H} enc w base sp held fuel cs x h => by
  obtain ⟨hl, hp⟩ := op_parts fx28 h
  obtain ⟨n0, y0, h0⟩ := hp 0 24 0 rfl
  obtain ⟨s0, c0, r0⟩ := op24 _ _ _ _ _ _ _ _ h0
  obtain ⟨n1, y1, h1⟩ := hp 1 3 1 rfl
  obtain ⟨s1, c1, r1⟩ := op3 _ _ _ _ _ _ _ _ h1
  obtain ⟨n2, y2, h2⟩ := hp 2 25 2 rfl
  obtain ⟨s2, c2, r2⟩ := op25 _ _ _ _ _ _ _ _ h2
  obtain ⟨n3, y3, h3⟩ := hp 3 26 3 rfl
  obtain ⟨s3, c3, r3⟩ := op26 _ _ _ _ _ _ _ _ h3
  obtain ⟨n4, y4, h4⟩ := hp 4 3 4 rfl
  obtain ⟨s4, c4, r4⟩ := op3 _ _ _ _ _ _ _ _ h4
  obtain ⟨n5, y5, h5⟩ := hp 5 3 5 rfl
  obtain ⟨s5, c5, r5⟩ := op3 _ _ _ _ _ _ _ _ h5
  obtain ⟨n6, y6, h6⟩ := hp 6 3 6 rfl
  obtain ⟨s6, c6, r6⟩ := op3 _ _ _ _ _ _ _ _ h6
  refine ⟨⟨s0, s1, s2, s3, s4, s5, s6⟩, ?_, ⟨r0, r1, r2, r3, r4, r5, r6⟩⟩
  have e6 := parts_last (hl.trans cz28) (by rw [cz3]) c6
  have e5 := parts_cons c5 (m := 6) (by rw [cz3]) e6
  have e4 := parts_cons c4 (m := 5) (by rw [cz3]) e5
  have e3 := parts_cons c3 (m := 4) (by rw [cz26]) e4
  have e2 := parts_cons c2 (m := 3) (by rw [cz25]) e3
  have e1 := parts_cons c1 (m := 2) (by rw [cz3]) e2
  have e0 := parts_cons c0 (m := 1) (by rw [cz24]) e1
  exact e0
theorem own_beamAhead : ownKnob Try.prog.godebug = none := by kernel_rfl
theorem laid_beamAhead : laidOutB Try.prog = true := by kernel_rfl
set_option maxRecDepth 100000 in
theorem beamAhead_lifted (os : Os) (started : os.Started) (H : Type) (enc : TypeId × Value → H) :
    ReturnsInHanded {} Try.checked os 5 .any (Rows.beamAheadSpec.pre6 enc Try.prog Try.f5 Rows.beamAheadRow.domain false) (Rows.beamAheadSpec.post enc Try.prog Try.f5 false true false false) := by
  refine returnsInHanded_of_change (C := Try.checked) own_beamAhead started (by kernel_rfl) Try.func5
    (ChangeSpec.witness6 (enc := enc) (C := Try.checked) false ⟨#[], #[.agg #[(Value.slice none 0 0), (Value.int .i64 0), (Value.slice none 0 0), (Value.slice none 0 0), (Value.int .i64 0), (Value.int .i64 0), (Value.int .i64 0)], Value.int .u8 0, Value.int .u32 0, Value.int .u32 0, .agg #[(Value.int .i64 0), (Value.int .i64 0), (Value.int .i64 0)]], []⟩ 8 (by kernel_rfl) (by kernel_rfl) (by kernel_rfl) (by kernel_rfl)) ?_
  intro W base args ds gs before hval0 hW hcnd _
  have hval : ∀ (j : Nat) t v, Try.f5.params[j]? = some t → args[j]? = some v → Value.okWide Try.prog W .any base t v := hval0
  have hW' := hW
  obtain ⟨p, q, hA0, hV, rfl, hfz, hnd⟩ := hW
  have hA : DataW.TrodAll enc Try.prog W 0 (fun _ => true) true Try.f5.params.toList args.toList ds p := hA0
  have hA1 := hA
  rw [Try.params5] at hA hval
  obtain ⟨v0, vs0, d0, ds0, p0, q0, hargs, rfl, rfl, h0, r0⟩ := trodAll_cons hA
  obtain ⟨v1, vs1, d1, ds1, p1, q1, rfl, rfl, rfl, h1, r1⟩ := trodAll_cons r0
  obtain ⟨v2, vs2, d2, ds2, p2, q2, rfl, rfl, rfl, h2, r2⟩ := trodAll_cons r1
  obtain ⟨v3, vs3, d3, ds3, p3, q3, rfl, rfl, rfl, h3, r3⟩ := trodAll_cons r2
  obtain ⟨v4, vs4, d4, ds4, p4, q4, rfl, rfl, rfl, h4, r4⟩ := trodAll_cons r3
  obtain ⟨rfl, rfl, rfl⟩ := trodAll_nil r4
  obtain rfl : args = #[v0, v1, v2, v3, v4] := by cases args; simp_all
  obtain ⟨rfl, rfl⟩ := trodVars_none hV
  obtain ⟨s0, rfl, R0⟩ := arg_struct fx28 op28 (hval 0 28 v0 rfl rfl) h0
  obtain ⟨s1, rfl, R1⟩ := arg_int (k := .u8) ut5 (hval 1 5 v1 rfl rfl) h1
  obtain ⟨s2, rfl, R2⟩ := arg_int (k := .u32) ut50 (hval 2 50 v2 rfl rfl) h2
  obtain ⟨s3, rfl, R3⟩ := arg_int (k := .u32) ut50 (hval 3 50 v3 rfl rfl) h3
  obtain ⟨s4, rfl, R4⟩ := arg_struct fx61 op61 (hval 4 61 v4 rfl rfl) h4
  simp only [List.append_nil] at hW' hA1
  obtain ⟨l, az, kA, kC, cA, cC, bA, bC, rfl, hraw, hl4, _⟩ := open_line (R1 := Is126) (R2 := Is64) (R3 := Is55) (R4 := Is61) R0.Track.Stretches (fun x hx => hx.Side) R0.Clocks (fun x hx => hx.Syncs) R0.Beams
  have hrun := (beamAhead_c l kA kC az cA cC bA bC s1 s2 s3 s4 hraw R1 R2 R3).run W (by intro A hA; simp only [List.mem_cons, List.not_mem_nil, or_false] at hA; rcases hA with rfl | rfl | rfl | rfl; exact hl4.1; exact hl4.2.1; exact hl4.2.2.1; exact hl4.2.2.2)
  refine (hrun).mono fun e W' ⟨he, hk⟩ => ?_
  subst he
  exact ⟨_, rfl, law_post laid_beamAhead hW' hA1 rfl rfl (by kernel_rfl) hk.below (by kernel_rfl) ut4⟩
/-- the statement -/
theorem beamAhead_said : Rows.BeamAheadSaid :=
  OpenClaim.holds_of_wide 5 Try.f5 rfl rfl rfl rfl rfl rfl rfl ⟨rfl, rfl, rfl, rfl, rfl⟩ rfl rfl rfl rfl rfl (by kernel_rfl) Try.func5 (by kernel_rfl)
    (of_decide_eq_true (by kernel_rfl)) (by unfold Func.isWrapper; first | (rw [if_pos (by decide +kernel)]; kernel_rfl) | (rw [if_neg (by decide +kernel)]; exact ⟨rfl, rfl⟩))
    (fun os started H enc _ => beamAhead_lifted os started H enc)
#print axioms beamAhead_said
end
end Go.Proofs.Ytaehngpnlkokkaa
