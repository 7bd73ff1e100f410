/-
  Walks: kreisel/beam.asks, kreisel/beam.Check, kreisel/beam.Ahead, kreisel/beam.first[int], kreisel/beam.when$1, kreisel/beam.when$2, kreisel/beam.when, kreisel/beam.When, kreisel/beam.Least
-/
import Derived.Test.YtaehngpnlkokkaaTab
import Derived.Test.YtaehngpnlkokkaaShort
import Derived.Test.YtaehngpnlkokkaaGoes
import Derived.Test.YtaehngpnlkokkaaB1
import Derived.Test.YtaehngpnlkokkaaB4
import Derived.Test.YtaehngpnlkokkaaB5
namespace Go.Proofs.Ytaehngpnlkokkaa
open Go.RowKit
set_option linter.unusedVariables false

set_option maxRecDepth 100000 in
set_option maxHeartbeats 400000 in
theorem asks_c  :
    FnV Try.prog 55 [] [] (Value.agg ((T103V.cells (T103V.mk (Value.func (.func 81) [].toArray [].toArray))) ++ (T103V.cells (T103V.mk (Value.func (.func 82) [].toArray [].toArray))) ++ (T103V.cells (T103V.mk (Value.func (.func 86) [].toArray [].toArray))) ++ (T103V.cells (T103V.mk (Value.func (.func 89) [].toArray [].toArray)))).toArray) := by
 refine fnV_of go55 Try.func55 rfl rfl fun w0 Q hQ hN => ?_
 change WJ _ _ _ _ [] []
 refine WS fun _ hK1 => ?_
 refine AL rfl tz104 fun b2 => ?_
 refine RK hK1 ?_
 refine WS fun _ hK3 => ?_
 refine rS (SX (sd_build (xs := [(0, .func 81)]) (cs := (T103V.cells (T103V.mk (Value.func (.func 81) [].toArray [].toArray)))) rfl rfl (built_of tb103 rfl)) rfl rfl) ?_
 refine rS (SX (sd_build (xs := [(0, .func 82)]) (cs := (T103V.cells (T103V.mk (Value.func (.func 82) [].toArray [].toArray)))) rfl rfl (built_of tb103 rfl)) rfl rfl) ?_
 refine rS (SX (sd_build (xs := [(0, .func 86)]) (cs := (T103V.cells (T103V.mk (Value.func (.func 86) [].toArray [].toArray)))) rfl rfl (built_of tb103 rfl)) rfl rfl) ?_
 refine rS (SX (sd_build (xs := [(0, .func 89)]) (cs := (T103V.cells (T103V.mk (Value.func (.func 89) [].toArray [].toArray)))) rfl rfl (built_of tb103 rfl)) rfl rfl) ?_
 refine rS (SX (sd_build (xs := [(0, .tmp 1), (1, .tmp 2), (2, .tmp 3), (3, .tmp 4)]) (cs := ((T103V.cells (T103V.mk (Value.func (.func 81) [].toArray [].toArray))) ++ (T103V.cells (T103V.mk (Value.func (.func 82) [].toArray [].toArray))) ++ (T103V.cells (T103V.mk (Value.func (.func 86) [].toArray [].toArray))) ++ (T103V.cells (T103V.mk (Value.func (.func 89) [].toArray [].toArray))))) rfl rfl (built_of tb104 rfl)) rfl rfl) ?_
 refine SW0 rfl ts104 rfl ?_
 refine RK hK3 ?_
 refine w_ret ?_
 refine hQ _ _ _ (l_nil (vs := [(Value.agg ((T103V.cells (T103V.mk (Value.func (.func 81) [].toArray [].toArray))) ++ (T103V.cells (T103V.mk (Value.func (.func 82) [].toArray [].toArray))) ++ (T103V.cells (T103V.mk (Value.func (.func 86) [].toArray [].toArray))) ++ (T103V.cells (T103V.mk (Value.func (.func 89) [].toArray [].toArray)))).toArray)]) ⟨⟨_, rfl, .inl ⟨_, _, tk104, at_blk (vs := ((T103V.cells (T103V.mk (Value.func (.func 81) [].toArray [].toArray))) ++ (T103V.cells (T103V.mk (Value.func (.func 82) [].toArray [].toArray))) ++ (T103V.cells (T103V.mk (Value.func (.func 86) [].toArray [].toArray))) ++ (T103V.cells (T103V.mk (Value.func (.func 89) [].toArray [].toArray))))) 0 rfl rfl, rfl, rfl⟩⟩, trivial⟩ fun w hs => endV ?_ hs)
 show (Value.agg ((T103V.cells (T103V.mk (Value.func (.func 81) [].toArray [].toArray))) ++ (T103V.cells (T103V.mk (Value.func (.func 82) [].toArray [].toArray))) ++ (T103V.cells (T103V.mk (Value.func (.func 86) [].toArray [].toArray))) ++ (T103V.cells (T103V.mk (Value.func (.func 89) [].toArray [].toArray)))).toArray) = (Value.agg ((T103V.cells (T103V.mk (Value.func (.func 81) [].toArray [].toArray))) ++ (T103V.cells (T103V.mk (Value.func (.func 82) [].toArray [].toArray))) ++ (T103V.cells (T103V.mk (Value.func (.func 86) [].toArray [].toArray))) ++ (T103V.cells (T103V.mk (Value.func (.func 89) [].toArray [].toArray)))).toArray)
 clear hs w hQ hN hK3 hK1
 rfl

set_option maxRecDepth 100000 in
set_option maxHeartbeats 400000 in
theorem lcheck_c (l : LineM) (kA : Option Addr) (kC : Nat) (az : List RA) (cA : Option Addr) (cC : Nat) (bA : Option Addr) (bC : Nat) (hin : LineIn l az) :
    FnV Try.prog 19 [(Value.agg (LineV.cells (LineV.mk (TrackV.mk (Slc.mk kA l.Track.length kC)) l.Fast (Slc.mk cA l.Clocks.length cC) (Slc.mk bA l.Beams.length bC) l.Finish l.Fakes l.Misses)).toArray)] [(rd kA l.Track.length 9 (l.Track.map StretchV.cells)), (rd cA l.Clocks.length 2 (List.zipWith ClockM.cells l.Clocks az)), (bun (nest ClockM.rds l.Clocks az)), (rd bA l.Beams.length 4 (l.Beams.map BeamV.cells))] (Value.int .i64 (lineE l)) := by
 have htk := hin.trk
 have hck := hin.cks
 have has := hin.as_
 have hbm := hin.bms
 have hsd := hin.side
 refine fnV_of go19 Try.func19 rfl rfl fun w0 Q hQ hN => ?_
 change WJ _ _ _ _ [(0, (Value.agg (LineV.cells (LineV.mk (TrackV.mk (Slc.mk kA l.Track.length kC)) l.Fast (Slc.mk cA l.Clocks.length cC) (Slc.mk bA l.Beams.length bC) l.Finish l.Fakes l.Misses)).toArray))] [(rd kA l.Track.length 9 (l.Track.map StretchV.cells)).ro, (rd cA l.Clocks.length 2 (List.zipWith ClockM.cells l.Clocks az)).ro, (bun (nest ClockM.rds l.Clocks az)).ro, (rd bA l.Beams.length 4 (l.Beams.map BeamV.cells)).ro]
 refine WS fun _ hK1 => ?_
 refine BXA rfl fun b2 => ?_
 refine rS (AG rfl) ?_
 refine RK hK1 ?_
 refine w_seq fun _ hK3 => ?_
 refine WS fun _ hK4 => ?_
 refine rS (FA 0 rfl fo28_0 rfl) ?_
 refine rS (LP (TrackV.cells (TrackV.mk (Slc.mk kA l.Track.length kC))) 0 rfl tk24 rfl rfl rfl) ?_
 refine rS (CL (tcheck_c l.Track kA kC (by first | assumption | omega | (simp; done) | (simp; omega)) (by first | assumption | omega | (simp; done) | (simp; omega))) (ha_at 1 rfl rfl <| ha_nil) rfl) ?_
 refine rS (AG rfl) ?_
 refine RK hK4 ?_
 refine WS fun _ hK5 => ?_
 refine rS (MV rfl) ?_
 refine rS (BI rfl b_neq) ?_
 refine RK hK5 ?_
 refine w_if rfl (fun h10 => ?_) (fun h10 => ?_)
 · replace h10 := XT h10
   refine WS fun _ hK6 => ?_
   refine rS (MV rfl) ?_
   refine rS (AG rfl) ?_
   refine RK hK6 ?_
   refine w_ret ?_
   refine Q1 hQ rfl rfl rfl ?_
   first | (refine congrArg (Value.int .i64) ?_; rw [(tr_no h10).2, lineE_bad (tr_no h10).1]) | exact congrArg (Value.int .i64) (lineE_no htr fun h => absurd h.head (by assumption)).symm | exact congrArg (Value.int .i64) (lineE_no htr fun h => absurd h.clock (by assumption)).symm | exact congrArg (Value.int .i64) (lineE_no htr fun h => absurd h.beam (by assumption)).symm | exact congrArg (Value.int .i64) (lineE_no htr fun h => absurd h.way (by assumption)).symm | exact congrArg (Value.int .i64) (lineE_ok htr (line_head (by assumption) (by assumption) (by assumption) (by assumption))).symm
 replace h10 := XF h10
 refine WK hK3 ?_
 refine w_seq fun _ hK7 => ?_
 refine WS fun _ hK8 => ?_
 have htr := tr_yes h10
 refine rS (CL asks_c (ha_nil) rfl) ?_
 refine rS (MV rfl) ?_
 refine RK hK8 ?_
 refine w_block ?_
 refine w_rounds 5 ?_
 refine ro_succ fun R9 hR9 => ?_
 refine WS fun _ hK10 => ?_
 refine rS (SX (sd_bin (r := .bool true) rfl rfl rfl b_lss) rfl rfl) ?_
 refine RK hK10 ?_
 refine w_seq fun _ hK11 => ?_
 refine w_if_true rfl ?_
 refine WK hK11 ?_
 refine w_seq fun _ hK12 => ?_
 refine w_block ?_
 refine WS fun _ hK13 => ?_
 refine rS (SX (sd_index (vs := (T103V.cells (T103V.mk (Value.func (.func 81) [].toArray [].toArray)))) 0 rfl rfl rfl tx104 tk103 rfl (by decide) rfl) rfl rfl) ?_
 refine AL rfl tz103 fun b14 => ?_
 refine SW0 rfl ts103 rfl ?_
 refine RK hK13 ?_
 refine WS fun _ hK15 => ?_
 refine rS (FA 0 rfl fo103_0 rfl) ?_
 refine rS (L1 (Value.func (.func 81) [].toArray [].toArray) 0 rfl tk31 rfl rfl) ?_
 refine rS (LW 1 rfl tk28 rfl rfl) ?_
 refine rS (CL (ask1_c l kA kC az cA cC bA bC hin) (ha_at 2 rfl rfl <| ha_at 3 rfl rfl <| ha_at 4 rfl rfl <| ha_at 5 rfl rfl <| ha_nil) rfl) ?_
 refine rS (NT rfl) ?_
 refine RK hK15 ?_
 refine w_if rfl (fun h16 => ?_) (fun h16 => ?_)
 · replace h16 := XT h16
   refine WS fun _ hK17 => ?_
   refine rS (AG rfl) ?_
   refine RK hK17 ?_
   refine w_ret ?_
   refine Q1 hQ rfl rfl rfl ?_
   first | (refine congrArg (Value.int .i64) ?_; rw [(tr_no h10).2, lineE_bad (tr_no h10).1]) | exact congrArg (Value.int .i64) (lineE_no htr fun h => absurd h.head (by assumption)).symm | exact congrArg (Value.int .i64) (lineE_no htr fun h => absurd h.clock (by assumption)).symm | exact congrArg (Value.int .i64) (lineE_no htr fun h => absurd h.beam (by assumption)).symm | exact congrArg (Value.int .i64) (lineE_no htr fun h => absurd h.way (by assumption)).symm | exact congrArg (Value.int .i64) (lineE_ok htr (line_head (by assumption) (by assumption) (by assumption) (by assumption))).symm
 replace h16 := XF h16
 refine w_skip ?_
 refine k_block ?_
 refine KK hK12 ?_
 refine w_region ?_
 refine rS (SX (sd_bin (r := .int .i64 1) rfl rfl rfl (b_add ⟨by decide, by decide⟩)) rfl rfl) ?_
 refine rS (MV rfl) ?_
 refine RK hR9 ?_
 refine ro_succ fun R18 hR18 => ?_
 refine WS fun _ hK19 => ?_
 refine rS (SX (sd_bin (r := .bool true) rfl rfl rfl b_lss) rfl rfl) ?_
 refine RK hK19 ?_
 refine w_seq fun _ hK20 => ?_
 refine w_if_true rfl ?_
 refine WK hK20 ?_
 refine w_seq fun _ hK21 => ?_
 refine w_block ?_
 refine WS fun _ hK22 => ?_
 refine rS (SX (sd_index (vs := (T103V.cells (T103V.mk (Value.func (.func 82) [].toArray [].toArray)))) 1 rfl rfl rfl tx104 tk103 rfl (by decide) rfl) rfl rfl) ?_
 refine AL rfl tz103 fun b23 => ?_
 refine SW0 rfl ts103 rfl ?_
 refine RK hK22 ?_
 refine WS fun _ hK24 => ?_
 refine rS (FA 0 rfl fo103_0 rfl) ?_
 refine rS (L1 (Value.func (.func 82) [].toArray [].toArray) 0 rfl tk31 rfl rfl) ?_
 refine rS (LW 2 rfl tk28 rfl rfl) ?_
 refine rS (CL (ask2_c l kA kC az cA cC bA bC hin) (ha_at 3 rfl rfl <| ha_at 4 rfl rfl <| ha_at 5 rfl rfl <| ha_at 6 rfl rfl <| ha_nil) rfl) ?_
 refine rS (NT rfl) ?_
 refine RK hK24 ?_
 refine w_if rfl (fun h25 => ?_) (fun h25 => ?_)
 · replace h25 := XT h25
   refine WS fun _ hK26 => ?_
   refine rS (AG rfl) ?_
   refine RK hK26 ?_
   refine w_ret ?_
   refine Q1 hQ rfl rfl rfl ?_
   first | (refine congrArg (Value.int .i64) ?_; rw [(tr_no h10).2, lineE_bad (tr_no h10).1]) | exact congrArg (Value.int .i64) (lineE_no htr fun h => absurd h.head (by assumption)).symm | exact congrArg (Value.int .i64) (lineE_no htr fun h => absurd h.clock (by assumption)).symm | exact congrArg (Value.int .i64) (lineE_no htr fun h => absurd h.beam (by assumption)).symm | exact congrArg (Value.int .i64) (lineE_no htr fun h => absurd h.way (by assumption)).symm | exact congrArg (Value.int .i64) (lineE_ok htr (line_head (by assumption) (by assumption) (by assumption) (by assumption))).symm
 replace h25 := XF h25
 refine w_skip ?_
 refine k_block ?_
 refine KK hK21 ?_
 refine w_region ?_
 refine rS (SX (sd_bin (r := .int .i64 2) rfl rfl rfl (b_add ⟨by decide, by decide⟩)) rfl rfl) ?_
 refine rS (MV rfl) ?_
 refine RK hR18 ?_
 refine ro_succ fun R27 hR27 => ?_
 refine WS fun _ hK28 => ?_
 refine rS (SX (sd_bin (r := .bool true) rfl rfl rfl b_lss) rfl rfl) ?_
 refine RK hK28 ?_
 refine w_seq fun _ hK29 => ?_
 refine w_if_true rfl ?_
 refine WK hK29 ?_
 refine w_seq fun _ hK30 => ?_
 refine w_block ?_
 refine WS fun _ hK31 => ?_
 refine rS (SX (sd_index (vs := (T103V.cells (T103V.mk (Value.func (.func 86) [].toArray [].toArray)))) 2 rfl rfl rfl tx104 tk103 rfl (by decide) rfl) rfl rfl) ?_
 refine AL rfl tz103 fun b32 => ?_
 refine SW0 rfl ts103 rfl ?_
 refine RK hK31 ?_
 refine WS fun _ hK33 => ?_
 refine rS (FA 0 rfl fo103_0 rfl) ?_
 refine rS (L1 (Value.func (.func 86) [].toArray [].toArray) 0 rfl tk31 rfl rfl) ?_
 refine rS (LW 3 rfl tk28 rfl rfl) ?_
 refine rS (CL (ask3_c l kA kC az cA cC bA bC hin (by first | assumption | omega | (simp; done) | (simp; omega))) (ha_at 4 rfl rfl <| ha_at 5 rfl rfl <| ha_at 6 rfl rfl <| ha_at 7 rfl rfl <| ha_nil) rfl) ?_
 refine rS (NT rfl) ?_
 refine RK hK33 ?_
 refine w_if rfl (fun h34 => ?_) (fun h34 => ?_)
 · replace h34 := XT h34
   refine WS fun _ hK35 => ?_
   refine rS (AG rfl) ?_
   refine RK hK35 ?_
   refine w_ret ?_
   refine Q1 hQ rfl rfl rfl ?_
   first | (refine congrArg (Value.int .i64) ?_; rw [(tr_no h10).2, lineE_bad (tr_no h10).1]) | exact congrArg (Value.int .i64) (lineE_no htr fun h => absurd h.head (by assumption)).symm | exact congrArg (Value.int .i64) (lineE_no htr fun h => absurd h.clock (by assumption)).symm | exact congrArg (Value.int .i64) (lineE_no htr fun h => absurd h.beam (by assumption)).symm | exact congrArg (Value.int .i64) (lineE_no htr fun h => absurd h.way (by assumption)).symm | exact congrArg (Value.int .i64) (lineE_ok htr (line_head (by assumption) (by assumption) (by assumption) (by assumption))).symm
 replace h34 := XF h34
 refine w_skip ?_
 refine k_block ?_
 refine KK hK30 ?_
 refine w_region ?_
 refine rS (SX (sd_bin (r := .int .i64 3) rfl rfl rfl (b_add ⟨by decide, by decide⟩)) rfl rfl) ?_
 refine rS (MV rfl) ?_
 refine RK hR27 ?_
 refine ro_succ fun R36 hR36 => ?_
 refine WS fun _ hK37 => ?_
 refine rS (SX (sd_bin (r := .bool true) rfl rfl rfl b_lss) rfl rfl) ?_
 refine RK hK37 ?_
 refine w_seq fun _ hK38 => ?_
 refine w_if_true rfl ?_
 refine WK hK38 ?_
 refine w_seq fun _ hK39 => ?_
 refine w_block ?_
 refine WS fun _ hK40 => ?_
 refine rS (SX (sd_index (vs := (T103V.cells (T103V.mk (Value.func (.func 89) [].toArray [].toArray)))) 3 rfl rfl rfl tx104 tk103 rfl (by decide) rfl) rfl rfl) ?_
 refine AL rfl tz103 fun b41 => ?_
 refine SW0 rfl ts103 rfl ?_
 refine RK hK40 ?_
 refine WS fun _ hK42 => ?_
 refine rS (FA 0 rfl fo103_0 rfl) ?_
 refine rS (L1 (Value.func (.func 89) [].toArray [].toArray) 0 rfl tk31 rfl rfl) ?_
 refine rS (LW 4 rfl tk28 rfl rfl) ?_
 refine rS (CL (ask4_c l kA kC az cA cC bA bC hin (by first | assumption | omega | (simp; done) | (simp; omega)) (by first | assumption | omega | (simp; done) | (simp; omega))) (ha_at 5 rfl rfl <| ha_at 6 rfl rfl <| ha_at 7 rfl rfl <| ha_at 8 rfl rfl <| ha_nil) rfl) ?_
 refine rS (NT rfl) ?_
 refine RK hK42 ?_
 refine w_if rfl (fun h43 => ?_) (fun h43 => ?_)
 · replace h43 := XT h43
   refine WS fun _ hK44 => ?_
   refine rS (AG rfl) ?_
   refine RK hK44 ?_
   refine w_ret ?_
   refine Q1 hQ rfl rfl rfl ?_
   first | (refine congrArg (Value.int .i64) ?_; rw [(tr_no h10).2, lineE_bad (tr_no h10).1]) | exact congrArg (Value.int .i64) (lineE_no htr fun h => absurd h.head (by assumption)).symm | exact congrArg (Value.int .i64) (lineE_no htr fun h => absurd h.clock (by assumption)).symm | exact congrArg (Value.int .i64) (lineE_no htr fun h => absurd h.beam (by assumption)).symm | exact congrArg (Value.int .i64) (lineE_no htr fun h => absurd h.way (by assumption)).symm | exact congrArg (Value.int .i64) (lineE_ok htr (line_head (by assumption) (by assumption) (by assumption) (by assumption))).symm
 replace h43 := XF h43
 refine w_skip ?_
 refine k_block ?_
 refine KK hK39 ?_
 refine w_region ?_
 refine rS (SX (sd_bin (r := .int .i64 4) rfl rfl rfl (b_add ⟨by decide, by decide⟩)) rfl rfl) ?_
 refine rS (MV rfl) ?_
 refine RK hR36 ?_
 refine ro_succ fun R45 hR45 => ?_
 refine WS fun _ hK46 => ?_
 refine rS (SX (sd_bin (r := .bool false) rfl rfl rfl b_lss) rfl rfl) ?_
 refine RK hK46 ?_
 refine w_seq fun _ hK47 => ?_
 refine w_if_false rfl ?_
 refine w_exit ?_
 refine k_exit_then ?_
 refine k_exit_then ?_
 refine k_exit_same ?_
 refine KK hK7 ?_
 refine WS fun _ hK48 => ?_
 refine rS (AG rfl) ?_
 refine RK hK48 ?_
 refine w_ret ?_
 refine Q1 hQ rfl rfl rfl ?_
 first | (refine congrArg (Value.int .i64) ?_; rw [(tr_no h10).2, lineE_bad (tr_no h10).1]) | exact congrArg (Value.int .i64) (lineE_no htr fun h => absurd h.head (by assumption)).symm | exact congrArg (Value.int .i64) (lineE_no htr fun h => absurd h.clock (by assumption)).symm | exact congrArg (Value.int .i64) (lineE_no htr fun h => absurd h.beam (by assumption)).symm | exact congrArg (Value.int .i64) (lineE_no htr fun h => absurd h.way (by assumption)).symm | exact congrArg (Value.int .i64) (lineE_ok htr (line_head (by assumption) (by assumption) (by assumption) (by assumption))).symm

set_option maxRecDepth 100000 in
set_option maxHeartbeats 400000 in
theorem Ahead_c (l : LineM) (kA : Option Addr) (kC : Nat) (az : List RA) (cA : Option Addr) (cC : Nat) (bA : Option Addr) (bC : Nat) (ck : Int) (at_ : Int) (hin : LineIn l az) :
    FnV Try.prog 13 [(Value.agg (LineV.cells (LineV.mk (TrackV.mk (Slc.mk kA l.Track.length kC)) l.Fast (Slc.mk cA l.Clocks.length cC) (Slc.mk bA l.Beams.length bC) l.Finish l.Fakes l.Misses)).toArray), (Value.int .i64 ck), (Value.int .i64 at_)] [(rd kA l.Track.length 9 (l.Track.map StretchV.cells)), (rd cA l.Clocks.length 2 (List.zipWith ClockM.cells l.Clocks az)), (bun (nest ClockM.rds l.Clocks az)), (rd bA l.Beams.length 4 (l.Beams.map BeamV.cells))] (Value.tuple [(Value.agg (SpanV.cells (aheadV l ck at_)).toArray), (Value.int .i64 (aheadE l ck at_))].toArray) := by
 have htk := hin.trk
 have hck := hin.cks
 have has := hin.as_
 have hbm := hin.bms
 refine fnV_of go13 Try.func13 rfl rfl fun w0 Q hQ hN => ?_
 change WJ _ _ _ _ [(0, (Value.agg (LineV.cells (LineV.mk (TrackV.mk (Slc.mk kA l.Track.length kC)) l.Fast (Slc.mk cA l.Clocks.length cC) (Slc.mk bA l.Beams.length bC) l.Finish l.Fakes l.Misses)).toArray)), (1, (Value.int .i64 ck)), (2, (Value.int .i64 at_))] [(rd kA l.Track.length 9 (l.Track.map StretchV.cells)).ro, (rd cA l.Clocks.length 2 (List.zipWith ClockM.cells l.Clocks az)).ro, (bun (nest ClockM.rds l.Clocks az)).ro, (rd bA l.Beams.length 4 (l.Beams.map BeamV.cells)).ro]
 refine WS fun _ hK1 => ?_
 refine BXA rfl fun b2 => ?_
 refine AL rfl tz34 fun b3 => ?_
 refine rS (AG rfl) ?_
 refine RK hK1 ?_
 refine w_seq fun _ hK4 => ?_
 refine WS fun _ hK5 => ?_
 refine rS (LW 1 rfl tk28 rfl rfl) ?_
 refine rS (CL (lcheck_c l kA kC az cA cC bA bC hin) (ha_at 2 rfl rfl <| ha_at 3 rfl rfl <| ha_at 4 rfl rfl <| ha_at 5 rfl rfl <| ha_nil) rfl) ?_
 refine rS (AG rfl) ?_
 refine RK hK5 ?_
 refine WS fun _ hK6 => ?_
 refine rS (MV rfl) ?_
 refine rS (BI rfl b_neq) ?_
 refine RK hK6 ?_
 refine w_if rfl (fun h12 => ?_) (fun h12 => ?_)
 · replace h12 := XT h12
   refine WS fun _ hK7 => ?_
   refine rS (SX (sd_build (xs := []) (cs := (SpanV.cells (SpanV.mk 0 0))) rfl rfl (built_of tb34 rfl)) rfl rfl) ?_
   refine rS (MV rfl) ?_
   refine SW0 rfl ts34 rfl ?_
   refine rS (AG rfl) ?_
   refine RK hK7 ?_
   refine w_ret ?_
   refine hQ _ _ _ (l_nil (vs := [(Value.agg (SpanV.cells (SpanV.mk 0 0)).toArray), (Value.int .i64 (lineE l))]) ⟨⟨_, rfl, .inl ⟨_, _, tk34, at_blk (vs := (SpanV.cells (SpanV.mk 0 0))) 0 rfl rfl, rfl, rfl⟩⟩, rfl, trivial⟩ fun w hs => endV ?_ hs)
   show (Value.tuple [(Value.agg (SpanV.cells (SpanV.mk 0 0)).toArray), (Value.int .i64 (lineE l))].toArray) = (Value.tuple [(Value.agg (SpanV.cells (aheadV l ck at_)).toArray), (Value.int .i64 (aheadE l ck at_))].toArray)
   clear hs w hQ hN hK7 hK6 hK5 hK4 hK1
   first | (have e := ahead_bad (ck := ck) (at_ := at_) h12; rw [e.1, e.2] <;> rfl) | (have e := ahead_in (ck := ck) (at_ := at_) h12 (by omega) hx; rw [e.1, e.2] <;> rfl) | (have e := ahead_out (ck := ck) (at_ := at_) h12 (by omega); rw [e.1, e.2] <;> rfl)
 replace h12 := XF h12
 refine WK hK4 ?_
 refine w_seq fun _ hK8 => ?_
 refine WS fun _ hK9 => ?_
 obtain ⟨htr, hok⟩ := lineE_zero h12
 refine rS (FA 2 rfl fo28_2 rfl) ?_
 refine rS (L1 (Value.slice cA l.Clocks.length cC) 1 rfl tk25 rfl rfl) ?_
 refine rS (LN rfl ut25) ?_
 refine rS (BI rfl (b_sub ⟨by omega, by omega⟩)) ?_
 refine rS (MV rfl) ?_
 refine r_bs (xs := [.tmp 19]) (cs := [(Value.int .i64 ck)]) rfl te57 tz3 rfl rfl rfl rfl (by simp [Value.cells]) rfl rfl fun b10 => ?_
 refine rS (CL (FnV.eq (in_beam 0 (((l.Clocks.length : Nat) : Int) - 1) ([ck]) (some ⟨b10, 0, none⟩) 1 (by first | assumption | omega | (simp; done) | (simp; omega))) inAll_one) (ha_cons (has_rd_blk 0 rfl rfl (by simp [iC_length]) rfl) <| ha_nil) rfl) ?_
 refine rS (NT rfl) ?_
 refine rS (MV rfl) ?_
 refine r_bool (t := 23) rfl (fun h23 => ?_) (fun h23 => ?_)
 · replace h23 := XT h23
   refine rS (OX rfl) ?_
   refine rS (OX rfl) ?_
   refine rS (OX rfl) ?_
   refine rS (OX rfl) ?_
   refine rS (PK rfl) ?_
   refine RK hK9 ?_
   refine w_if_true rfl ?_
   refine WS fun _ hK11 => ?_
   refine rS (SX (sd_build (xs := []) (cs := (SpanV.cells (SpanV.mk 0 0))) rfl rfl (built_of tb34 rfl)) rfl rfl) ?_
   refine SW1 rfl ts34 rfl ?_
   refine rS (AG rfl) ?_
   refine RK hK11 ?_
   refine w_ret ?_
   refine hQ _ _ _ (l_nil (vs := [(Value.agg (SpanV.cells (SpanV.mk 0 0)).toArray), (Value.int .i64 2)]) ⟨⟨_, rfl, .inl ⟨_, _, tk34, at_blk (vs := (SpanV.cells (SpanV.mk 0 0))) 1 rfl rfl, rfl, rfl⟩⟩, rfl, trivial⟩ fun w hs => endV ?_ hs)
   show (Value.tuple [(Value.agg (SpanV.cells (SpanV.mk 0 0)).toArray), (Value.int .i64 2)].toArray) = (Value.tuple [(Value.agg (SpanV.cells (aheadV l ck at_)).toArray), (Value.int .i64 (aheadE l ck at_))].toArray)
   clear hs w hQ hN hK11 hK9 hK8 hK6 hK5 hK4 hK1
   first | (have e := ahead_bad (ck := ck) (at_ := at_) h12; rw [e.1, e.2] <;> rfl) | (have e := ahead_in (ck := ck) (at_ := at_) h12 (by omega) hx; rw [e.1, e.2] <;> rfl) | (have e := ahead_out (ck := ck) (at_ := at_) h12 (by omega); rw [e.1, e.2] <;> rfl)
 replace h23 := XF h23
 refine rS (MV rfl) ?_
 refine r_bs (xs := [.tmp 24]) (cs := [(Value.int .i64 at_)]) rfl te57 tz3 rfl rfl rfl rfl (by simp [Value.cells]) rfl rfl fun b12 => ?_
 refine rS (CL (FnV.eq (in_beam 0 86400000 ([at_]) (some ⟨b12, 0, none⟩) 1 (by first | assumption | omega | (simp; done) | (simp; omega))) inAll_one) (ha_cons (has_rd_blk 0 rfl rfl (by simp [iC_length]) rfl) <| ha_nil) rfl) ?_
 refine rS (NT rfl) ?_
 refine rS (PK rfl) ?_
 refine RK hK9 ?_
 refine w_if rfl (fun h28 => ?_) (fun h28 => ?_)
 · replace h28 := XT h28
   refine WS fun _ hK13 => ?_
   refine rS (SX (sd_build (xs := []) (cs := (SpanV.cells (SpanV.mk 0 0))) rfl rfl (built_of tb34 rfl)) rfl rfl) ?_
   refine SW2 rfl ts34 rfl ?_
   refine rS (AG rfl) ?_
   refine RK hK13 ?_
   refine w_ret ?_
   refine hQ _ _ _ (l_nil (vs := [(Value.agg (SpanV.cells (SpanV.mk 0 0)).toArray), (Value.int .i64 2)]) ⟨⟨_, rfl, .inl ⟨_, _, tk34, at_blk (vs := (SpanV.cells (SpanV.mk 0 0))) 2 rfl rfl, rfl, rfl⟩⟩, rfl, trivial⟩ fun w hs => endV ?_ hs)
   show (Value.tuple [(Value.agg (SpanV.cells (SpanV.mk 0 0)).toArray), (Value.int .i64 2)].toArray) = (Value.tuple [(Value.agg (SpanV.cells (aheadV l ck at_)).toArray), (Value.int .i64 (aheadE l ck at_))].toArray)
   clear hs w hQ hN hK13 hK9 hK8 hK6 hK5 hK4 hK1
   first | (have e := ahead_bad (ck := ck) (at_ := at_) h12; rw [e.1, e.2] <;> rfl) | (have e := ahead_in (ck := ck) (at_ := at_) h12 (by omega) hx; rw [e.1, e.2] <;> rfl) | (have e := ahead_out (ck := ck) (at_ := at_) h12 (by omega); rw [e.1, e.2] <;> rfl)
 replace h28 := XF h28
 refine WK hK8 ?_
 refine WS fun _ hK14 => ?_
 refine rS (FA 2 rfl fo28_2 rfl) ?_
 refine rS (L1 (Value.slice cA l.Clocks.length cC) 3 rfl tk25 rfl rfl) ?_
 refine rS (MV rfl) ?_
 obtain ⟨x, hx⟩ : ∃ y_, l.Clocks[(ck).toNat]? = some y_ := ⟨l.Clocks[(ck).toNat]'(by omega), List.getElem?_eq_getElem _⟩
 obtain ⟨xa, hxa⟩ : ∃ y_, az[(ck).toNat]? = some y_ := ⟨az[(ck).toNat]'(by omega), List.getElem?_eq_getElem _⟩
 have hxm : (List.zipWith ClockM.cells l.Clocks az)[(ck).toNat]? = some (ClockM.cells x xa) := zip_get hx hxa
 refine rS (IA ((ck).toNat) rfl (has_at 5 rfl) te25 (by decide) (by omega) (by omega)) ?_
 refine rS (LEN ((ck).toNat) 0 (ClockV.cells (ClockV.mk x.Drift (Slc.mk xa.1 x.Syncs.length xa.2))) rfl tk64 (has_at 5 rfl) hxm rfl (by decide) rfl rfl) ?_
 refine rS (MV rfl) ?_
 refine rS (CL (ahead_c x xa.1 xa.2 at_ (by exact hok.clock _ (List.mem_of_getElem? hx)) (by first | assumption | omega | (simp; done) | (simp; omega))) (ha_cons (show Has _ (rd xa.1 x.Syncs.length 3 (x.Syncs.map SyncV.cells)).holds from (has_inr 6 rfl (mem_nest hx hxa (by simp [ClockM.rds])))) <| ha_nil) rfl) ?_
 refine SW2 rfl ts34 rfl ?_
 refine rS (AG rfl) ?_
 refine RK hK14 ?_
 refine w_ret ?_
 refine hQ _ _ _ (l_nil (vs := [(Value.agg (SpanV.cells (aheadF x at_)).toArray), (Value.int .i64 0)]) ⟨⟨_, rfl, .inl ⟨_, _, tk34, at_blk (vs := (SpanV.cells (aheadF x at_))) 2 rfl rfl, rfl, rfl⟩⟩, rfl, trivial⟩ fun w hs => endV ?_ hs)
 show (Value.tuple [(Value.agg (SpanV.cells (aheadF x at_)).toArray), (Value.int .i64 0)].toArray) = (Value.tuple [(Value.agg (SpanV.cells (aheadV l ck at_)).toArray), (Value.int .i64 (aheadE l ck at_))].toArray)
 clear hs w hQ hN hK14 hK9 hK8 hK6 hK5 hK4 hK1
 first | (have e := ahead_bad (ck := ck) (at_ := at_) h12; rw [e.1, e.2] <;> rfl) | (have e := ahead_in (ck := ck) (at_ := at_) h12 (by omega) hx; rw [e.1, e.2] <;> rfl) | (have e := ahead_out (ck := ck) (at_ := at_) h12 (by omega); rw [e.1, e.2] <;> rfl)

set_option maxRecDepth 100000 in
set_option maxHeartbeats 400000 in
theorem bfirst_c (lo : Int) (hi : Int) (f : Value) (p : Int → Bool) (X : Assn) (r : Int) (hf : ∀ x0, 0 ≤ x0 ∧ x0 < hi → Clo Try.prog f [.int .i64 x0] [X] (.bool (p x0))) (hb : 0 ≤ lo ∧ lo ≤ r ∧ r ≤ hi ∧ hi ≤ 100000000) (hno : ∀ x, lo ≤ x → x < r → p x = false) (hyes : ∀ x, r ≤ x → x < hi → p x = true) :
    FnV Try.prog 75 [(Value.int .i64 lo), (Value.int .i64 hi), f] [X] (Value.int .i64 r) := by
 refine fnV_of go75 Try.func75 rfl rfl fun w0 Q hQ hN => ?_
 change WJ _ _ _ _ [(0, (Value.int .i64 lo)), (1, (Value.int .i64 hi)), (2, f)] [X.ro]
 refine WS fun _ hK1 => ?_
 refine rS (AG rfl) ?_
 refine RK hK1 ?_
 refine w_seq fun _ hK2 => ?_
 refine w_block ?_
 have hinit : (lo ≤ lo ∧ lo ≤ r) ∧ (r ≤ hi ∧ hi ≤ hi) := by first | trivial | omega | (refine ⟨?_, ?_⟩ <;> first | trivial | omega | simp)
 refine w_loop (ι := { z : Int × Int // (lo ≤ z.1 ∧ z.1 ≤ r) ∧ (r ≤ z.2 ∧ z.2 ≤ hi) }) (fun z => [(0, (Value.int .i64 z.1.1)), (1, (Value.int .i64 z.1.2)), (2, f)]) (fun z => [X.ro]) (fun z => (z.1.2 - z.1.1).toNat) ⟨(lo, hi), hinit⟩ (Sub.cons rfl <| Sub.cons rfl <| Sub.cons rfl <| Sub.nil _) (fun w hs => St.sel [0] rfl rfl hs) ?_
 clear hinit
 rintro ⟨⟨a, b⟩, ⟨hl0_0, hl0_1⟩⟩ J3 hJ3
 try dsimp only at hl0_0 hl0_1
 change WJ _ _ _ _ [(0, (Value.int .i64 a)), (1, (Value.int .i64 b)), (2, f)] [X.ro]
 refine w_seq fun _ hK4 => ?_
 refine WS fun _ hK5 => ?_
 refine rS (MV rfl) ?_
 refine rS (MV rfl) ?_
 refine rS (BI rfl b_lss) ?_
 refine RK hK5 ?_
 refine w_if rfl (fun h6 => ?_) (fun h6 => ?_)
 rotate_left 1
 · replace h6 := DF h6
   refine w_exit ?_
   refine k_exit_then ?_
   refine k_exit_then ?_
   refine k_exit_same ?_
   refine KK hK2 ?_
   refine WS fun _ hK9 => ?_
   refine rS (MV rfl) ?_
   refine rS (AG rfl) ?_
   refine RK hK9 ?_
   refine w_ret ?_
   refine Q1 hQ rfl rfl rfl ?_
   exact congrArg (Value.int .i64) (by omega)
 replace h6 := DT h6
 refine WK hK4 ?_
 refine w_block ?_
 refine WS fun _ hK7 => ?_
 refine rS (MV rfl) ?_
 refine rS (MV rfl) ?_
 refine rS (MV rfl) ?_
 refine rS (BI rfl (b_sub ⟨by omega, by omega⟩)) ?_
 refine rS (BI rfl (b_quo (by omega) (by omega) (by omega))) ?_
 refine rS (BI rfl (b_add ⟨by omega, by omega⟩)) ?_
 refine rS (AG rfl) ?_
 refine RK hK7 ?_
 refine WS fun _ hK8 => ?_
 refine rS (MV rfl) ?_
 refine rS (MV rfl) ?_
 refine rS (SX (sd_clo rfl rfl rfl (hf (a + ((b - a) / 2)) (by omega)) (ha_at 0 rfl rfl <| ha_nil)) rfl rfl) ?_
 refine RK hK8 ?_
 refine w_if rfl (fun hp => ?_) (fun hp => ?_)
 · refine w_region ?_
   refine rS (MV rfl) ?_
   refine rS (AG rfl) ?_
   refine r_nil ?_
   refine k_block ?_
   refine k_then (hJ3 ⟨(a, (a + ((b - a) / 2))), (by dsimp only; rcases Int.lt_or_le (a + (b - a) / 2) r with q | q; (have q2 := hno _ (by omega) q; first | (refine ⟨⟨by omega, by omega⟩, by omega, by omega⟩) | (rw [q2] at hp; cases hp)); (have q2 := hyes _ q (by omega); first | (refine ⟨⟨by omega, by omega⟩, by omega, by omega⟩) | (rw [q2] at hp; cases hp)))⟩ _ _ _ rfl (by simp only []; omega) (Sub.cons rfl <| Sub.cons rfl <| Sub.cons rfl <| Sub.nil _) (fun w hs => St.sel [0] rfl rfl hs))
 refine w_region ?_
 refine rS (MV rfl) ?_
 refine rS (BI rfl (b_add ⟨by omega, by omega⟩)) ?_
 refine rS (AG rfl) ?_
 refine r_nil ?_
 refine k_block ?_
 refine k_then (hJ3 ⟨(((a + ((b - a) / 2)) + 1), b), (by dsimp only; rcases Int.lt_or_le (a + (b - a) / 2) r with q | q; (have q2 := hno _ (by omega) q; first | (refine ⟨⟨by omega, by omega⟩, by omega, by omega⟩) | (rw [q2] at hp; cases hp)); (have q2 := hyes _ q (by omega); first | (refine ⟨⟨by omega, by omega⟩, by omega, by omega⟩) | (rw [q2] at hp; cases hp)))⟩ _ _ _ rfl (by simp only []; omega) (Sub.cons rfl <| Sub.cons rfl <| Sub.cons rfl <| Sub.nil _) (fun w hs => St.sel [0] rfl rfl hs))

set_option maxRecDepth 100000 in
set_option maxHeartbeats 400000 in
theorem whenlo_c (u : Int) (c : ClockM) (sA : Option Addr) (sC : Nat) (g1 : Nat) (s : SignalV) (g2 : Nat) (hc : ClockOk c) (hu : 0 ≤ u ∧ u ≤ 90000000) :
    FnV Try.prog 76 [(Value.int .i64 u), (Value.pointer (some ⟨g1, 0, none⟩)), (Value.pointer (some ⟨g2, 0, none⟩))] [(rd sA c.Syncs.length 3 (c.Syncs.map SyncV.cells)), (blk g1 64 (ClockV.cells (ClockV.mk c.Drift (Slc.mk sA c.Syncs.length sC)))), (blk g2 30 (SignalV.cells s))] (Value.bool (decide (s.Read ≤ u + (aheadF c u).Hi))) := by
 have hab := aheadF_b hc hu
 refine fnV_of go76 Try.func76 rfl rfl fun w0 Q hQ hN => ?_
 change WJ _ _ _ _ [(0, (Value.int .i64 u)), (1, (Value.pointer (some ⟨g1, 0, none⟩))), (2, (Value.pointer (some ⟨g2, 0, none⟩)))] [(rd sA c.Syncs.length 3 (c.Syncs.map SyncV.cells)).ro, (blk g1 64 (ClockV.cells (ClockV.mk c.Drift (Slc.mk sA c.Syncs.length sC)))).ro, (blk g2 30 (SignalV.cells s)).ro]
 refine WS fun _ hK1 => ?_
 refine rS (AG rfl) ?_
 refine RK hK1 ?_
 refine w_seq fun _ hK2 => ?_
 refine w_draw mixed 10 (by kernel_rfl) ?_
 refine dS (MV rfl) ?_
 refine dS (LWR 1 rfl tk64 rfl rfl) ?_
 refine dS (MV rfl) ?_
 refine dS (CL (ahead_c c sA sC u hc hu) (ha_at 0 rfl rfl <| ha_nil) rfl) ?_
 refine dS (SX (sd_field1 (v := (Value.int .i64 ((aheadF c u).Hi))) rfl rfl fo34_1 tf34_1 rfl) rfl rfl) ?_
 refine dS (BI rfl (b_add ⟨by omega, by omega⟩)) ?_
 refine dS (FA 1 rfl fo30_1 rfl) ?_
 refine dS (L1R (Value.int .i64 s.Read) 2 rfl tk3 rfl rfl) ?_
 refine dS (BI rfl b_geq) ?_
 refine dS (AG rfl) ?_
 refine d_end ?_
 refine RK hK2 ?_
 refine w_ret ?_
 exact Q1 hQ rfl rfl rfl rfl

set_option maxRecDepth 100000 in
set_option maxHeartbeats 400000 in
theorem whenhi_c (u : Int) (c : ClockM) (sA : Option Addr) (sC : Nat) (g1 : Nat) (s : SignalV) (g2 : Nat) (hc : ClockOk c) (hu : 0 ≤ u ∧ u ≤ 90000000) :
    FnV Try.prog 77 [(Value.int .i64 u), (Value.pointer (some ⟨g1, 0, none⟩)), (Value.pointer (some ⟨g2, 0, none⟩))] [(rd sA c.Syncs.length 3 (c.Syncs.map SyncV.cells)), (blk g1 64 (ClockV.cells (ClockV.mk c.Drift (Slc.mk sA c.Syncs.length sC)))), (blk g2 30 (SignalV.cells s))] (Value.bool (decide (s.Read < u + (aheadF c u).Lo))) := by
 have hab := aheadF_b hc hu
 refine fnV_of go77 Try.func77 rfl rfl fun w0 Q hQ hN => ?_
 change WJ _ _ _ _ [(0, (Value.int .i64 u)), (1, (Value.pointer (some ⟨g1, 0, none⟩))), (2, (Value.pointer (some ⟨g2, 0, none⟩)))] [(rd sA c.Syncs.length 3 (c.Syncs.map SyncV.cells)).ro, (blk g1 64 (ClockV.cells (ClockV.mk c.Drift (Slc.mk sA c.Syncs.length sC)))).ro, (blk g2 30 (SignalV.cells s)).ro]
 refine WS fun _ hK1 => ?_
 refine rS (AG rfl) ?_
 refine RK hK1 ?_
 refine w_seq fun _ hK2 => ?_
 refine w_draw mixed 10 (by kernel_rfl) ?_
 refine dS (MV rfl) ?_
 refine dS (LWR 1 rfl tk64 rfl rfl) ?_
 refine dS (MV rfl) ?_
 refine dS (CL (ahead_c c sA sC u hc hu) (ha_at 0 rfl rfl <| ha_nil) rfl) ?_
 refine dS (SX (sd_field1 (v := (Value.int .i64 ((aheadF c u).Lo))) rfl rfl fo34_0 tf34_0 rfl) rfl rfl) ?_
 refine dS (BI rfl (b_add ⟨by omega, by omega⟩)) ?_
 refine dS (FA 1 rfl fo30_1 rfl) ?_
 refine dS (L1R (Value.int .i64 s.Read) 2 rfl tk3 rfl rfl) ?_
 refine dS (BI rfl b_gtr) ?_
 refine dS (AG rfl) ?_
 refine d_end ?_
 refine RK hK2 ?_
 refine w_ret ?_
 exact Q1 hQ rfl rfl rfl rfl

set_option maxRecDepth 100000 in
set_option maxHeartbeats 400000 in
theorem when_c (l : LineM) (kA : Option Addr) (kC : Nat) (az : List RA) (cA : Option Addr) (cC : Nat) (bA : Option Addr) (bC : Nat) (s : SignalV) (hin : LineIn l az) (hok : LineOk l) (hs : (0 ≤ s.Beam ∧ s.Beam ≤ (l.Beams.length : Int) - 1) ∧ 0 ≤ s.Read ∧ s.Read ≤ 86400000) :
    FnV Try.prog 49 [(Value.agg (LineV.cells (LineV.mk (TrackV.mk (Slc.mk kA l.Track.length kC)) l.Fast (Slc.mk cA l.Clocks.length cC) (Slc.mk bA l.Beams.length bC) l.Finish l.Fakes l.Misses)).toArray), (Value.agg (SignalV.cells s).toArray)] [(rd kA l.Track.length 9 (l.Track.map StretchV.cells)), (rd cA l.Clocks.length 2 (List.zipWith ClockM.cells l.Clocks az)), (bun (nest ClockM.rds l.Clocks az)), (rd bA l.Beams.length 4 (l.Beams.map BeamV.cells))] (Value.agg (SpanV.cells (whenF l s)).toArray) := by
 have htk := hin.trk
 have hck := hin.cks
 have has := hin.as_
 have hbm := hin.bms
 refine fnV_of go49 Try.func49 rfl rfl fun w0 Q hQ hN => ?_
 change WJ _ _ _ _ [(0, (Value.agg (LineV.cells (LineV.mk (TrackV.mk (Slc.mk kA l.Track.length kC)) l.Fast (Slc.mk cA l.Clocks.length cC) (Slc.mk bA l.Beams.length bC) l.Finish l.Fakes l.Misses)).toArray)), (1, (Value.agg (SignalV.cells s).toArray))] [(rd kA l.Track.length 9 (l.Track.map StretchV.cells)).ro, (rd cA l.Clocks.length 2 (List.zipWith ClockM.cells l.Clocks az)).ro, (bun (nest ClockM.rds l.Clocks az)).ro, (rd bA l.Beams.length 4 (l.Beams.map BeamV.cells)).ro]
 refine WS fun _ hK1 => ?_
 refine BXA rfl fun b2 => ?_
 refine BXA rfl fun b3 => ?_
 refine AL rfl tz34 fun b4 => ?_
 refine RK hK1 ?_
 refine w_seq fun _ hK5 => ?_
 refine w_draw4 mixed [0, 1, 2, 3, 4, 5, 6, 7, 8, 9, 10] [11, 12] [false, false, false, false, false, false, false, false, false, false, false] [false, false] [(blk b4 34 (SpanV.cells (SpanV.mk 0 0))), (blk b3 30 (SignalV.cells s)), (blk b2 28 (LineV.cells (LineV.mk (TrackV.mk (Slc.mk kA l.Track.length kC)) l.Fast (Slc.mk cA l.Clocks.length cC) (Slc.mk bA l.Beams.length bC) l.Finish l.Fakes l.Misses))), (rd kA l.Track.length 9 (l.Track.map StretchV.cells)).ro, (rd cA l.Clocks.length 2 (List.zipWith ClockM.cells l.Clocks az)).ro, (bun (nest ClockM.rds l.Clocks az)).ro, (rd bA l.Beams.length 4 (l.Beams.map BeamV.cells)).ro] [] (by kernel_rfl) (fun w hs => St.sel [0, 1, 2, 3, 4, 5, 6] rfl rfl hs) (fun w hs => St.sel [] rfl rfl hs) ?_
 refine eS rfl (FA 2 rfl fo28_2 rfl) ?_
 refine eS rfl (L1 (Value.slice cA l.Clocks.length cC) 2 rfl tk25 rfl rfl) ?_
 refine eS rfl (FA 3 rfl fo28_3 rfl) ?_
 refine eS rfl (L1 (Value.slice bA l.Beams.length bC) 2 rfl tk26 rfl rfl) ?_
 refine eS rfl (FA 0 rfl fo30_0 rfl) ?_
 refine eS rfl (L1 (Value.int .i64 s.Beam) 1 rfl tk3 rfl rfl) ?_
 obtain ⟨y, hy⟩ : ∃ y_, l.Beams[(s.Beam).toNat]? = some y_ := ⟨l.Beams[(s.Beam).toNat]'(by omega), List.getElem?_eq_getElem _⟩
 have hym : (l.Beams.map BeamV.cells)[(s.Beam).toNat]? = some (BeamV.cells y) := by rw [List.getElem?_map, hy]; rfl
 refine eS rfl (IA ((s.Beam).toNat) rfl (has_at 6 rfl) te26 (by decide) (by omega) (by omega)) ?_
 refine eS rfl (FAR ((((s.Beam).toNat) * 4) + 3) rfl (has_at 6 rfl) (Nat.mul_pos (by omega) (by decide)) fo55_1 rfl) ?_
 refine eS rfl (LE1 ((s.Beam).toNat) 3 (Value.int .i64 y.Clock) rfl tk3 (has_at 6 rfl) hym rfl (by decide) rfl) ?_
 have hyb := (hok.beam _ (List.mem_of_getElem? hy)).2
 obtain ⟨x, hx⟩ : ∃ y_, l.Clocks[(y.Clock).toNat]? = some y_ := ⟨l.Clocks[(y.Clock).toNat]'(by omega), List.getElem?_eq_getElem _⟩
 obtain ⟨xa, hxa⟩ : ∃ y_, az[(y.Clock).toNat]? = some y_ := ⟨az[(y.Clock).toNat]'(by omega), List.getElem?_eq_getElem _⟩
 have hxm : (List.zipWith ClockM.cells l.Clocks az)[(y.Clock).toNat]? = some (ClockM.cells x xa) := zip_get hx hxa
 refine eS rfl (IA ((y.Clock).toNat) rfl (has_at 4 rfl) te25 (by decide) (by omega) (by omega)) ?_
 refine eS rfl (LEN ((y.Clock).toNat) 0 (ClockV.cells (ClockV.mk x.Drift (Slc.mk xa.1 x.Syncs.length xa.2))) rfl tk64 (has_at 4 rfl) hxm rfl (by decide) rfl rfl) ?_
 refine d_fin rfl ?_
 refine t_cons rfl fun T6 hT6 => ?_
 refine AL rfl tz64 fun b7 => ?_
 refine r_nil (hT6 _ _ (fun w hs => St.sel [1, 2, 3, 4, 5, 6, 7] rfl rfl hs) ?_)
 refine t_cons rfl fun T8 hT8 => ?_
 refine SW0 rfl ts64 rfl ?_
 refine r_nil (hT8 _ _ (fun w hs => St.sel [1, 2, 3, 4, 5, 6, 7] rfl rfl hs) ?_)
 refine t_fin rfl ?_
 refine KK hK5 ?_
 refine WS fun _ hK9 => ?_
 have hxo := hok.clock _ (List.mem_of_getElem? hx)
 have hfl := firstN_b (p := whenLo x s.Read) (n := 86400001)
 have hfh := firstN_b (p := whenHi x s.Read) (n := 86400001)
 refine rS (FU rfl) ?_
 refine rS (CL (bfirst_c 0 86400001 (Value.func (.func 76) [].toArray [(Value.pointer (some ⟨b7, 0, none⟩)), (Value.pointer (some ⟨b3, 0, none⟩))].toArray) (fun u10 => (decide (s.Read ≤ u10 + (aheadF x u10).Hi))) (bun [(rd xa.1 x.Syncs.length 3 (x.Syncs.map SyncV.cells)), (blk b7 64 (ClockV.cells (ClockV.mk x.Drift (Slc.mk xa.1 x.Syncs.length xa.2)))), (blk b3 30 (SignalV.cells s))]) (firstN (whenLo x s.Read) 86400001) (by intro u10 _; exact clo_of (fi := []) (ca := [(Value.pointer (some ⟨b7, 0, none⟩)), (Value.pointer (some ⟨b3, 0, none⟩))]) (fnV_bun (whenlo_c u10 x xa.1 xa.2 b7 s b3 (by first | assumption | omega) (by first | assumption | omega)) (ha_at 0 rfl rfl <| ha_at 1 rfl rfl <| ha_at 2 rfl rfl <| ha_nil))) (by first | assumption | omega | (simp; done) | (simp; omega)) (by intro z h0 hz; exact (when_mono hxo h0 (by omega)).1 hz) (by intro z hz h1; exact (when_mono hxo (by omega) h1).2.1 hz)) (ha_cons (has_bun (ha_cons (show Has _ (rd xa.1 x.Syncs.length 3 (x.Syncs.map SyncV.cells)).holds from (has_inr 6 rfl (mem_nest hx hxa (by simp [ClockM.rds])))) <| ha_at 0 rfl rfl <| ha_at 2 rfl rfl <| ha_nil)) <| ha_nil) rfl) ?_
 refine rS (FU rfl) ?_
 refine rS (CL (bfirst_c 0 86400001 (Value.func (.func 77) [].toArray [(Value.pointer (some ⟨b7, 0, none⟩)), (Value.pointer (some ⟨b3, 0, none⟩))].toArray) (fun u11 => (decide (s.Read < u11 + (aheadF x u11).Lo))) (bun [(rd xa.1 x.Syncs.length 3 (x.Syncs.map SyncV.cells)), (blk b7 64 (ClockV.cells (ClockV.mk x.Drift (Slc.mk xa.1 x.Syncs.length xa.2)))), (blk b3 30 (SignalV.cells s))]) (firstN (whenHi x s.Read) 86400001) (by intro u11 _; exact clo_of (fi := []) (ca := [(Value.pointer (some ⟨b7, 0, none⟩)), (Value.pointer (some ⟨b3, 0, none⟩))]) (fnV_bun (whenhi_c u11 x xa.1 xa.2 b7 s b3 (by first | assumption | omega) (by first | assumption | omega)) (ha_at 0 rfl rfl <| ha_at 1 rfl rfl <| ha_at 2 rfl rfl <| ha_nil))) (by first | assumption | omega | (simp; done) | (simp; omega)) (by intro z h0 hz; exact (when_mono hxo h0 (by omega)).2.2.1 hz) (by intro z hz h1; exact (when_mono hxo (by omega) h1).2.2.2 hz)) (ha_cons (has_bun (ha_cons (show Has _ (rd xa.1 x.Syncs.length 3 (x.Syncs.map SyncV.cells)).holds from (has_inr 6 rfl (mem_nest hx hxa (by simp [ClockM.rds])))) <| ha_at 0 rfl rfl <| ha_at 2 rfl rfl <| ha_nil)) <| ha_nil) rfl) ?_
 refine rS (BI rfl (b_sub ⟨by omega, by omega⟩)) ?_
 refine rS (SX (sd_build (xs := [(0, .tmp 18), (1, .tmp 21)]) (cs := (SpanV.cells (SpanV.mk (firstN (whenLo x s.Read) 86400001) ((firstN (whenHi x s.Read) 86400001) - 1)))) rfl rfl (built_of tb34 rfl)) rfl rfl) ?_
 refine SW1 rfl ts34 rfl ?_
 refine RK hK9 ?_
 refine w_ret ?_
 refine hQ _ _ _ (l_nil (vs := [(Value.agg (SpanV.cells (SpanV.mk (firstN (whenLo x s.Read) 86400001) ((firstN (whenHi x s.Read) 86400001) - 1))).toArray)]) ⟨⟨_, rfl, .inl ⟨_, _, tk34, at_blk (vs := (SpanV.cells (SpanV.mk (firstN (whenLo x s.Read) 86400001) ((firstN (whenHi x s.Read) 86400001) - 1)))) 1 rfl rfl, rfl, rfl⟩⟩, trivial⟩ fun w hs => endV ?_ hs)
 show (Value.agg (SpanV.cells (SpanV.mk (firstN (whenLo x s.Read) 86400001) ((firstN (whenHi x s.Read) 86400001) - 1))).toArray) = (Value.agg (SpanV.cells (whenF l s)).toArray)
 clear hs w hQ hN hK9 hT8 T8 hT6 T6 hK5 hK1
 unfold whenF whenC; rw [clockOf_eq hy hx]

set_option maxRecDepth 100000 in
set_option maxHeartbeats 400000 in
theorem When_c (l : LineM) (kA : Option Addr) (kC : Nat) (az : List RA) (cA : Option Addr) (cC : Nat) (bA : Option Addr) (bC : Nat) (s : SignalV) (hin : LineIn l az) :
    FnV Try.prog 15 [(Value.agg (LineV.cells (LineV.mk (TrackV.mk (Slc.mk kA l.Track.length kC)) l.Fast (Slc.mk cA l.Clocks.length cC) (Slc.mk bA l.Beams.length bC) l.Finish l.Fakes l.Misses)).toArray), (Value.agg (SignalV.cells s).toArray)] [(rd kA l.Track.length 9 (l.Track.map StretchV.cells)), (rd cA l.Clocks.length 2 (List.zipWith ClockM.cells l.Clocks az)), (bun (nest ClockM.rds l.Clocks az)), (rd bA l.Beams.length 4 (l.Beams.map BeamV.cells))] (Value.tuple [(Value.agg (SpanV.cells (whenV l s)).toArray), (Value.int .i64 (whenE l s))].toArray) := by
 have htk := hin.trk
 have hck := hin.cks
 have has := hin.as_
 have hbm := hin.bms
 refine fnV_of go15 Try.func15 rfl rfl fun w0 Q hQ hN => ?_
 change WJ _ _ _ _ [(0, (Value.agg (LineV.cells (LineV.mk (TrackV.mk (Slc.mk kA l.Track.length kC)) l.Fast (Slc.mk cA l.Clocks.length cC) (Slc.mk bA l.Beams.length bC) l.Finish l.Fakes l.Misses)).toArray)), (1, (Value.agg (SignalV.cells s).toArray))] [(rd kA l.Track.length 9 (l.Track.map StretchV.cells)).ro, (rd cA l.Clocks.length 2 (List.zipWith ClockM.cells l.Clocks az)).ro, (bun (nest ClockM.rds l.Clocks az)).ro, (rd bA l.Beams.length 4 (l.Beams.map BeamV.cells)).ro]
 refine WS fun _ hK1 => ?_
 refine BXA rfl fun b2 => ?_
 refine BXA rfl fun b3 => ?_
 refine AL rfl tz34 fun b4 => ?_
 refine rS (AG rfl) ?_
 refine RK hK1 ?_
 refine w_seq fun _ hK5 => ?_
 refine WS fun _ hK6 => ?_
 refine rS (LW 2 rfl tk28 rfl rfl) ?_
 refine rS (CL (lcheck_c l kA kC az cA cC bA bC hin) (ha_at 3 rfl rfl <| ha_at 4 rfl rfl <| ha_at 5 rfl rfl <| ha_at 6 rfl rfl <| ha_nil) rfl) ?_
 refine rS (AG rfl) ?_
 refine RK hK6 ?_
 refine WS fun _ hK7 => ?_
 refine rS (MV rfl) ?_
 refine rS (BI rfl b_neq) ?_
 refine RK hK7 ?_
 refine w_if rfl (fun h11 => ?_) (fun h11 => ?_)
 · replace h11 := XT h11
   refine WS fun _ hK8 => ?_
   refine rS (SX (sd_build (xs := []) (cs := (SpanV.cells (SpanV.mk 0 0))) rfl rfl (built_of tb34 rfl)) rfl rfl) ?_
   refine rS (MV rfl) ?_
   refine SW0 rfl ts34 rfl ?_
   refine rS (AG rfl) ?_
   refine RK hK8 ?_
   refine w_ret ?_
   refine hQ _ _ _ (l_nil (vs := [(Value.agg (SpanV.cells (SpanV.mk 0 0)).toArray), (Value.int .i64 (lineE l))]) ⟨⟨_, rfl, .inl ⟨_, _, tk34, at_blk (vs := (SpanV.cells (SpanV.mk 0 0))) 0 rfl rfl, rfl, rfl⟩⟩, rfl, trivial⟩ fun w hs => endV ?_ hs)
   show (Value.tuple [(Value.agg (SpanV.cells (SpanV.mk 0 0)).toArray), (Value.int .i64 (lineE l))].toArray) = (Value.tuple [(Value.agg (SpanV.cells (whenV l s)).toArray), (Value.int .i64 (whenE l s))].toArray)
   clear hs w hQ hN hK8 hK7 hK6 hK5 hK1
   first | (have e := when_bad (s := s) h11; rw [e.1, e.2] <;> rfl) | (have e := when_none (s := s) h11 (by omega) h38; rw [e.1, e.2] <;> rfl) | (have e := when_in (s := s) h11 (by omega) h38; rw [e.1, e.2] <;> rfl) | (have e := when_out (s := s) h11 (by omega); rw [e.1, e.2] <;> rfl)
 replace h11 := XF h11
 refine WK hK5 ?_
 refine w_seq fun _ hK9 => ?_
 refine WS fun _ hK10 => ?_
 refine rS (FA 3 rfl fo28_3 rfl) ?_
 obtain ⟨htr, hok⟩ := lineE_zero h11
 refine rS (L1 (Value.slice bA l.Beams.length bC) 2 rfl tk26 rfl rfl) ?_
 refine rS (LN rfl ut26) ?_
 refine rS (BI rfl (b_sub ⟨by omega, by omega⟩)) ?_
 refine rS (FA 0 rfl fo30_0 rfl) ?_
 refine rS (L1 (Value.int .i64 s.Beam) 1 rfl tk3 rfl rfl) ?_
 refine r_bs (xs := [.tmp 19]) (cs := [(Value.int .i64 s.Beam)]) rfl te57 tz3 rfl rfl rfl rfl (by simp [Value.cells]) rfl rfl fun b11 => ?_
 refine rS (CL (FnV.eq (in_beam 0 (((l.Beams.length : Nat) : Int) - 1) ([s.Beam]) (some ⟨b11, 0, none⟩) 1 (by first | assumption | omega | (simp; done) | (simp; omega))) inAll_one) (ha_cons (has_rd_blk 0 rfl rfl (by simp [iC_length]) rfl) <| ha_nil) rfl) ?_
 refine rS (NT rfl) ?_
 refine rS (MV rfl) ?_
 refine r_bool (t := 23) rfl (fun h23 => ?_) (fun h23 => ?_)
 · replace h23 := XT h23
   refine rS (OX rfl) ?_
   refine rS (OX rfl) ?_
   refine rS (OX rfl) ?_
   refine rS (OX rfl) ?_
   refine rS (OX rfl) ?_
   refine rS (PK rfl) ?_
   refine RK hK10 ?_
   refine w_if_true rfl ?_
   refine WS fun _ hK12 => ?_
   refine rS (SX (sd_build (xs := []) (cs := (SpanV.cells (SpanV.mk 0 0))) rfl rfl (built_of tb34 rfl)) rfl rfl) ?_
   refine SW1 rfl ts34 rfl ?_
   refine rS (AG rfl) ?_
   refine RK hK12 ?_
   refine w_ret ?_
   refine hQ _ _ _ (l_nil (vs := [(Value.agg (SpanV.cells (SpanV.mk 0 0)).toArray), (Value.int .i64 2)]) ⟨⟨_, rfl, .inl ⟨_, _, tk34, at_blk (vs := (SpanV.cells (SpanV.mk 0 0))) 1 rfl rfl, rfl, rfl⟩⟩, rfl, trivial⟩ fun w hs => endV ?_ hs)
   show (Value.tuple [(Value.agg (SpanV.cells (SpanV.mk 0 0)).toArray), (Value.int .i64 2)].toArray) = (Value.tuple [(Value.agg (SpanV.cells (whenV l s)).toArray), (Value.int .i64 (whenE l s))].toArray)
   clear hs w hQ hN hK12 hK10 hK9 hK7 hK6 hK5 hK1
   first | (have e := when_bad (s := s) h11; rw [e.1, e.2] <;> rfl) | (have e := when_none (s := s) h11 (by omega) h38; rw [e.1, e.2] <;> rfl) | (have e := when_in (s := s) h11 (by omega) h38; rw [e.1, e.2] <;> rfl) | (have e := when_out (s := s) h11 (by omega); rw [e.1, e.2] <;> rfl)
 replace h23 := XF h23
 refine rS (FA 1 rfl fo30_1 rfl) ?_
 refine rS (L1 (Value.int .i64 s.Read) 2 rfl tk3 rfl rfl) ?_
 refine r_bs (xs := [.tmp 25]) (cs := [(Value.int .i64 s.Read)]) rfl te57 tz3 rfl rfl rfl rfl (by simp [Value.cells]) rfl rfl fun b13 => ?_
 refine rS (CL (FnV.eq (in_beam 0 86400000 ([s.Read]) (some ⟨b13, 0, none⟩) 1 (by first | assumption | omega | (simp; done) | (simp; omega))) inAll_one) (ha_cons (has_rd_blk 0 rfl rfl (by simp [iC_length]) rfl) <| ha_nil) rfl) ?_
 refine rS (NT rfl) ?_
 refine rS (PK rfl) ?_
 refine RK hK10 ?_
 refine w_if rfl (fun h29 => ?_) (fun h29 => ?_)
 · replace h29 := XT h29
   refine WS fun _ hK14 => ?_
   refine rS (SX (sd_build (xs := []) (cs := (SpanV.cells (SpanV.mk 0 0))) rfl rfl (built_of tb34 rfl)) rfl rfl) ?_
   refine SW2 rfl ts34 rfl ?_
   refine rS (AG rfl) ?_
   refine RK hK14 ?_
   refine w_ret ?_
   refine hQ _ _ _ (l_nil (vs := [(Value.agg (SpanV.cells (SpanV.mk 0 0)).toArray), (Value.int .i64 2)]) ⟨⟨_, rfl, .inl ⟨_, _, tk34, at_blk (vs := (SpanV.cells (SpanV.mk 0 0))) 2 rfl rfl, rfl, rfl⟩⟩, rfl, trivial⟩ fun w hs => endV ?_ hs)
   show (Value.tuple [(Value.agg (SpanV.cells (SpanV.mk 0 0)).toArray), (Value.int .i64 2)].toArray) = (Value.tuple [(Value.agg (SpanV.cells (whenV l s)).toArray), (Value.int .i64 (whenE l s))].toArray)
   clear hs w hQ hN hK14 hK10 hK9 hK7 hK6 hK5 hK1
   first | (have e := when_bad (s := s) h11; rw [e.1, e.2] <;> rfl) | (have e := when_none (s := s) h11 (by omega) h38; rw [e.1, e.2] <;> rfl) | (have e := when_in (s := s) h11 (by omega) h38; rw [e.1, e.2] <;> rfl) | (have e := when_out (s := s) h11 (by omega); rw [e.1, e.2] <;> rfl)
 replace h29 := XF h29
 refine WK hK9 ?_
 refine WS fun _ hK15 => ?_
 refine rS (LW 4 rfl tk28 rfl rfl) ?_
 refine rS (LW 3 rfl tk30 rfl rfl) ?_
 refine rS (CL (when_c l kA kC az cA cC bA bC s hin (by first | assumption | omega | (simp; done) | (simp; omega)) (by first | assumption | omega | (simp; done) | (simp; omega))) (ha_at 5 rfl rfl <| ha_at 6 rfl rfl <| ha_at 7 rfl rfl <| ha_at 8 rfl rfl <| ha_nil) rfl) ?_
 refine AL rfl tz34 fun b16 => ?_
 refine SW0 rfl ts34 rfl ?_
 refine RK hK15 ?_
 refine w_seq fun _ hK17 => ?_
 refine WS fun _ hK18 => ?_
 refine rS (FA 0 rfl fo34_0 rfl) ?_
 refine rS (L1 (Value.int .i64 ((whenF l s).Lo)) 0 rfl tk3 rfl rfl) ?_
 refine rS (FA 1 rfl fo34_1 rfl) ?_
 refine rS (L1 (Value.int .i64 ((whenF l s).Hi)) 0 rfl tk3 rfl rfl) ?_
 refine rS (BI rfl b_gtr) ?_
 refine RK hK18 ?_
 refine w_if rfl (fun h38 => ?_) (fun h38 => ?_)
 rotate_left 1
 · replace h38 := DF h38
   refine WK hK17 ?_
   refine WS fun _ hK20 => ?_
   refine rS (LW 0 rfl tk34 rfl rfl) ?_
   refine SW3 rfl ts34 rfl ?_
   refine rS (AG rfl) ?_
   refine RK hK20 ?_
   refine w_ret ?_
   refine hQ _ _ _ (l_nil (vs := [(Value.agg (SpanV.cells (whenF l s)).toArray), (Value.int .i64 0)]) ⟨⟨_, rfl, .inl ⟨_, _, tk34, at_blk (vs := (SpanV.cells (whenF l s))) 3 rfl rfl, rfl, rfl⟩⟩, rfl, trivial⟩ fun w hs => endV ?_ hs)
   show (Value.tuple [(Value.agg (SpanV.cells (whenF l s)).toArray), (Value.int .i64 0)].toArray) = (Value.tuple [(Value.agg (SpanV.cells (whenV l s)).toArray), (Value.int .i64 (whenE l s))].toArray)
   clear hs w hQ hN hK20 hK18 hK17 hK15 hK10 hK9 hK7 hK6 hK5 hK1
   first | (have e := when_bad (s := s) h11; rw [e.1, e.2] <;> rfl) | (have e := when_none (s := s) h11 (by omega) h38; rw [e.1, e.2] <;> rfl) | (have e := when_in (s := s) h11 (by omega) h38; rw [e.1, e.2] <;> rfl) | (have e := when_out (s := s) h11 (by omega); rw [e.1, e.2] <;> rfl)
 replace h38 := DT h38
 refine WS fun _ hK19 => ?_
 refine rS (SX (sd_build (xs := []) (cs := (SpanV.cells (SpanV.mk 0 0))) rfl rfl (built_of tb34 rfl)) rfl rfl) ?_
 refine SW3 rfl ts34 rfl ?_
 refine rS (AG rfl) ?_
 refine RK hK19 ?_
 refine w_ret ?_
 refine hQ _ _ _ (l_nil (vs := [(Value.agg (SpanV.cells (SpanV.mk 0 0)).toArray), (Value.int .i64 6)]) ⟨⟨_, rfl, .inl ⟨_, _, tk34, at_blk (vs := (SpanV.cells (SpanV.mk 0 0))) 3 rfl rfl, rfl, rfl⟩⟩, rfl, trivial⟩ fun w hs => endV ?_ hs)
 show (Value.tuple [(Value.agg (SpanV.cells (SpanV.mk 0 0)).toArray), (Value.int .i64 6)].toArray) = (Value.tuple [(Value.agg (SpanV.cells (whenV l s)).toArray), (Value.int .i64 (whenE l s))].toArray)
 clear hs w hQ hN hK19 hK18 hK17 hK15 hK10 hK9 hK7 hK6 hK5 hK1
 first | (have e := when_bad (s := s) h11; rw [e.1, e.2] <;> rfl) | (have e := when_none (s := s) h11 (by omega) h38; rw [e.1, e.2] <;> rfl) | (have e := when_in (s := s) h11 (by omega) h38; rw [e.1, e.2] <;> rfl) | (have e := when_out (s := s) h11 (by omega); rw [e.1, e.2] <;> rfl)

set_option maxRecDepth 100000 in
set_option maxHeartbeats 400000 in
theorem Least_c (l : LineM) (kA : Option Addr) (kC : Nat) (az : List RA) (cA : Option Addr) (cC : Nat) (bA : Option Addr) (bC : Nat) (n : Int) (hin : LineIn l az) :
    FnV Try.prog 17 [(Value.agg (LineV.cells (LineV.mk (TrackV.mk (Slc.mk kA l.Track.length kC)) l.Fast (Slc.mk cA l.Clocks.length cC) (Slc.mk bA l.Beams.length bC) l.Finish l.Fakes l.Misses)).toArray), (Value.int .i64 n)] [(rd kA l.Track.length 9 (l.Track.map StretchV.cells)), (rd cA l.Clocks.length 2 (List.zipWith ClockM.cells l.Clocks az)), (bun (nest ClockM.rds l.Clocks az)), (rd bA l.Beams.length 4 (l.Beams.map BeamV.cells))] (Value.tuple [(Value.int .i64 (leastV l n)), (Value.int .i64 (leastE l n))].toArray) := by
 have htk := hin.trk
 have hck := hin.cks
 have has := hin.as_
 have hbm := hin.bms
 refine fnV_of go17 Try.func17 rfl rfl fun w0 Q hQ hN => ?_
 change WJ _ _ _ _ [(0, (Value.agg (LineV.cells (LineV.mk (TrackV.mk (Slc.mk kA l.Track.length kC)) l.Fast (Slc.mk cA l.Clocks.length cC) (Slc.mk bA l.Beams.length bC) l.Finish l.Fakes l.Misses)).toArray)), (1, (Value.int .i64 n))] [(rd kA l.Track.length 9 (l.Track.map StretchV.cells)).ro, (rd cA l.Clocks.length 2 (List.zipWith ClockM.cells l.Clocks az)).ro, (bun (nest ClockM.rds l.Clocks az)).ro, (rd bA l.Beams.length 4 (l.Beams.map BeamV.cells)).ro]
 refine WS fun _ hK1 => ?_
 refine BXA rfl fun b2 => ?_
 refine rS (AG rfl) ?_
 refine rS (AG rfl) ?_
 refine RK hK1 ?_
 refine w_seq fun _ hK3 => ?_
 refine WS fun _ hK4 => ?_
 refine rS (LW 0 rfl tk28 rfl rfl) ?_
 refine rS (CL (lcheck_c l kA kC az cA cC bA bC hin) (ha_at 1 rfl rfl <| ha_at 2 rfl rfl <| ha_at 3 rfl rfl <| ha_at 4 rfl rfl <| ha_nil) rfl) ?_
 refine rS (AG rfl) ?_
 refine RK hK4 ?_
 refine WS fun _ hK5 => ?_
 refine rS (MV rfl) ?_
 refine rS (BI rfl b_neq) ?_
 refine RK hK5 ?_
 refine w_if rfl (fun h10 => ?_) (fun h10 => ?_)
 · replace h10 := XT h10
   refine WS fun _ hK6 => ?_
   refine rS (MV rfl) ?_
   refine rS (AG rfl) ?_
   refine rS (AG rfl) ?_
   refine RK hK6 ?_
   refine w_ret ?_
   refine Q2 hQ rfl rfl rfl rfl ?_
   first | (have e := least_bad (i := n) h10; rw [e.1, e.2] <;> rfl) | (have e := least_in (i := n) h10 (by omega); rw [e.1, e.2] <;> rfl) | (have e := least_out (i := n) h10 (by omega); rw [e.1, e.2] <;> rfl)
 replace h10 := XF h10
 refine WK hK3 ?_
 refine w_seq fun _ hK7 => ?_
 refine WS fun _ hK8 => ?_
 refine rS (FA 3 rfl fo28_3 rfl) ?_
 obtain ⟨htr, hok⟩ := lineE_zero h10
 have hhd := hok.head
 unfold HeadOk at hhd
 refine rS (L1 (Value.slice bA l.Beams.length bC) 0 rfl tk26 rfl rfl) ?_
 refine rS (LN rfl ut26) ?_
 refine rS (BI rfl (b_sub ⟨by omega, by omega⟩)) ?_
 refine rS (MV rfl) ?_
 refine r_bs (xs := [.tmp 16]) (cs := [(Value.int .i64 n)]) rfl te57 tz3 rfl rfl rfl rfl (by simp [Value.cells]) rfl rfl fun b9 => ?_
 refine rS (CL (FnV.eq (in_beam 0 (((l.Beams.length : Nat) : Int) - 1) ([n]) (some ⟨b9, 0, none⟩) 1 (by first | assumption | omega | (simp; done) | (simp; omega))) inAll_one) (ha_cons (has_rd_blk 0 rfl rfl (by simp [iC_length]) rfl) <| ha_nil) rfl) ?_
 refine rS (NT rfl) ?_
 refine RK hK8 ?_
 refine w_if rfl (fun h19 => ?_) (fun h19 => ?_)
 · replace h19 := XT h19
   refine WS fun _ hK10 => ?_
   refine rS (AG rfl) ?_
   refine rS (AG rfl) ?_
   refine RK hK10 ?_
   refine w_ret ?_
   refine Q2 hQ rfl rfl rfl rfl ?_
   first | (have e := least_bad (i := n) h10; rw [e.1, e.2] <;> rfl) | (have e := least_in (i := n) h10 (by omega); rw [e.1, e.2] <;> rfl) | (have e := least_out (i := n) h10 (by omega); rw [e.1, e.2] <;> rfl)
 replace h19 := XF h19
 refine WK hK7 ?_
 refine w_seq fun _ hK11 => ?_
 refine w_draw mixed 9 (by kernel_rfl) ?_
 refine dS (LW 1 rfl tk28 rfl rfl) ?_
 refine dS (MV rfl) ?_
 refine dS (CL (way_c l kA kC az cA cC bA bC n hin (by first | assumption | omega | (simp; done) | (simp; omega)) (by exact hok.beam) (by first | assumption | omega | (simp; done) | (simp; omega))) (ha_at 2 rfl rfl <| ha_at 3 rfl rfl <| ha_at 4 rfl rfl <| ha_at 5 rfl rfl <| ha_nil) rfl) ?_
 have hwb := way_b htr hok.beam n.toNat
 have hwy := hok.way n.toNat (by omega)
 refine dS (BI rfl (b_mul ⟨by omega, by omega⟩)) ?_
 refine dS (FA 1 rfl fo28_1 rfl) ?_
 refine dS (L1 (Value.int .i64 l.Fast) 1 rfl tk3 rfl rfl) ?_
 refine dS (CL (upd_c (1000 * (wayF l n.toNat)) l.Fast (by first | assumption | omega | (simp; done) | (simp; omega)) (by first | assumption | omega | (simp; done) | (simp; omega))) (ha_nil) rfl) ?_
 refine dS (AG rfl) ?_
 refine dS (AG rfl) ?_
 refine d_end ?_
 refine RK hK11 ?_
 refine w_ret ?_
 refine Q2 hQ rfl rfl rfl rfl ?_
 first | (have e := least_bad (i := n) h10; rw [e.1, e.2] <;> rfl) | (have e := least_in (i := n) h10 (by omega); rw [e.1, e.2] <;> rfl) | (have e := least_out (i := n) h10 (by omega); rw [e.1, e.2] <;> rfl)

end Go.Proofs.Ytaehngpnlkokkaa
