/-
  The statement beamExamples_said, part 6 of 6: L5, Examples0.
  Conditions: none.
-/
import Derived.Test.YtaehngpnlkokkaaKEx1
import Derived.Test.YtaehngpnlkokkaaKEx2
import Derived.Test.YtaehngpnlkokkaaKEx3
import Derived.Test.YtaehngpnlkokkaaKEx4
import Derived.Test.YtaehngpnlkokkaaKEx5
import Derived.Test.YtaehngpnlkokkaaRows
import Derived.Test.YtaehngpnlkokkaaProg
import Derived.KernelRfl
namespace Go.Proofs.Ytaehngpnlkokkaa
section
open Go.RowKit
set_option linter.unusedVariables false
set_option maxRecDepth 100000 in
set_option maxHeartbeats 12000000 in
theorem beamExamples_c  :
    FnV Try.prog 10 [] [] (Value.bool true) := by
 have hbl : exL1.Beams.length = 3 := rfl
 refine fnV_of go10 Try.func10 rfl rfl fun w0 Q hQ hN => ?_
 try dsimp only
 refine WS fun _ hK1 => ?_
 refine rS (AG rfl) ?_
 refine RK hK1 ?_
 refine w_seq fun _ hK2 => ?_
 refine WS fun _ hK3 => ?_
 refine rS (MV rfl) ?_
 refine rS (CL alive_c (ha_nil) rfl) ?_
 refine rS (NT rfl) ?_
 refine rS (PK rfl) ?_
 refine rS (MV rfl) ?_
 refine rS (CL (exahead_c 100000 5 6) (ha_nil) rfl) ?_
 refine rS (NT rfl) ?_
 refine rS (PK rfl) ?_
 refine rS (MV rfl) ?_
 refine r_bool (t := 35) rfl (fun h35 => ?_) (fun h35 => ?_)
 · replace h35 := XT h35
   exact absurd (ex_ahead2) h35
 replace h35 := XF h35
 refine rS (CL (exahead_c 50000 0 7) (ha_nil) rfl) ?_
 refine rS (NT rfl) ?_
 refine rS (PK rfl) ?_
 refine RK hK3 ?_
 refine w_if rfl (fun h38 => ?_) (fun h38 => ?_)
 · replace h38 := XT h38
   exact absurd (ex_ahead3) h38
 replace h38 := XF h38
 refine WK hK2 ?_
 refine w_seq fun _ hK4 => ?_
 refine WS fun _ hK5 => ?_
 refine r_bs (xs := [.const (Value.int .i64 500), .const (Value.int .i64 1500), .const (Value.int .i64 2500)]) (cs := [(Value.int .i64 500), (Value.int .i64 1500), (Value.int .i64 2500)]) rfl te57 tz3 rfl rfl rfl rfl (by simp [Value.cells]) rfl rfl fun b6 => ?_
 refine rS (LN rfl ut57) ?_
 refine rS (MV rfl) ?_
 refine RK hK5 ?_
 refine w_block ?_
 refine w_rounds 4 ?_
 refine ro_succ fun R7 hR7 => ?_
 refine WS fun _ hK8 => ?_
 refine rS (SX (sd_bin (r := .bool true) rfl rfl rfl b_lss) rfl rfl) ?_
 refine RK hK8 ?_
 refine w_seq fun _ hK9 => ?_
 refine w_if_true rfl ?_
 refine WK hK9 ?_
 refine w_seq fun _ hK10 => ?_
 refine w_block ?_
 refine WS fun _ hK11 => ?_
 refine rS (MV rfl) ?_
 refine rS (IAB 0 0 rfl te57 rfl (by decide) rfl) ?_
 refine rS (L1 (Value.int .i64 500) 0 rfl tk3 rfl rfl) ?_
 refine rS (AG rfl) ?_
 refine rS (AG rfl) ?_
 refine RK hK11 ?_
 refine WS fun _ hK12 => ?_
 refine cX line1_c (ha_nil) rfl fun y13 hy14 => ?_
 obtain ⟨a115, c116, a217, c218, bz19, a320, c321⟩ := y13
 try dsimp only
 obtain ⟨hbz, hlin⟩ := hy14
 refine rS (MV rfl) ?_
 refine rS (CL (Least_c exL1 a115 c116 bz19 a217 c218 a320 c321 0 (by first | exact hlin | assumption)) (ha_cons (has_own_n (n := exL1.Track.length) 0 rfl (by simp)) <| ha_cons (has_own_n (n := exL1.Clocks.length) 1 rfl (zip_len (by first | exact hbz | assumption))) <| ha_cons (bun_bund 2 rfl owns_rds) <| ha_cons (has_own_n (n := exL1.Beams.length) 3 rfl (by simp)) <| ha_nil) rfl) ?_
 refine rS (MV rfl) ?_
 refine rS (EX rfl) ?_
 refine rS (EX rfl) ?_
 refine rS (AG rfl) ?_
 refine rS (AG rfl) ?_
 refine RK hK12 ?_
 refine w_seq fun _ hK22 => ?_
 refine w_sel (C' := [(blk b6 3 [(Value.int .i64 500), (Value.int .i64 1500), (Value.int .i64 2500)])]) [4] rfl rfl ?_
 refine w_region ?_
 refine rS (MV rfl) ?_
 refine rS (BI rfl b_neq) ?_
 refine rS (MV rfl) ?_
 refine r_bool (t := 54) rfl (fun h54 => ?_) (fun h54 => ?_)
 · replace h54 := XT h54
   exact absurd (ex_le (by decide)) h54
 replace h54 := XF h54
 refine rS (MV rfl) ?_
 refine rS (MV rfl) ?_
 refine rS (BI rfl b_neq) ?_
 refine rS (PK rfl) ?_
 refine RK hK22 ?_
 refine w_if rfl (fun h58 => ?_) (fun h58 => ?_)
 · replace h58 := XT h58
   exact absurd (ex_lv (by decide)) h58
 replace h58 := XF h58
 refine w_skip ?_
 refine k_block ?_
 refine KK hK10 ?_
 refine w_region ?_
 refine rS (SX (sd_bin (r := .int .i64 1) rfl rfl rfl (b_add ⟨by decide, by decide⟩)) rfl rfl) ?_
 refine rS (MV rfl) ?_
 refine RK hR7 ?_
 refine ro_succ fun R23 hR23 => ?_
 refine WS fun _ hK24 => ?_
 refine rS (SX (sd_bin (r := .bool true) rfl rfl rfl b_lss) rfl rfl) ?_
 refine RK hK24 ?_
 refine w_seq fun _ hK25 => ?_
 refine w_if_true rfl ?_
 refine WK hK25 ?_
 refine w_seq fun _ hK26 => ?_
 refine w_block ?_
 refine WS fun _ hK27 => ?_
 refine rS (MV rfl) ?_
 refine rS (IAB 1 1 rfl te57 rfl (by decide) rfl) ?_
 refine rS (L1 (Value.int .i64 1500) 0 rfl tk3 rfl rfl) ?_
 refine rS (AG rfl) ?_
 refine rS (AG rfl) ?_
 refine RK hK27 ?_
 refine WS fun _ hK28 => ?_
 refine cX line1_c (ha_nil) rfl fun y29 hy30 => ?_
 obtain ⟨a131, c132, a233, c234, bz35, a336, c337⟩ := y29
 try dsimp only
 obtain ⟨hbz, hlin⟩ := hy30
 refine rS (MV rfl) ?_
 refine rS (CL (Least_c exL1 a131 c132 bz35 a233 c234 a336 c337 1 (by first | exact hlin | assumption)) (ha_cons (has_own_n (n := exL1.Track.length) 0 rfl (by simp)) <| ha_cons (has_own_n (n := exL1.Clocks.length) 1 rfl (zip_len (by first | exact hbz | assumption))) <| ha_cons (bun_bund 2 rfl owns_rds) <| ha_cons (has_own_n (n := exL1.Beams.length) 3 rfl (by simp)) <| ha_nil) rfl) ?_
 refine rS (MV rfl) ?_
 refine rS (EX rfl) ?_
 refine rS (EX rfl) ?_
 refine rS (AG rfl) ?_
 refine rS (AG rfl) ?_
 refine RK hK28 ?_
 refine w_seq fun _ hK38 => ?_
 refine w_sel (C' := [(blk b6 3 [(Value.int .i64 500), (Value.int .i64 1500), (Value.int .i64 2500)])]) [4] rfl rfl ?_
 refine w_region ?_
 refine rS (MV rfl) ?_
 refine rS (BI rfl b_neq) ?_
 refine rS (MV rfl) ?_
 refine r_bool (t := 54) rfl (fun h54 => ?_) (fun h54 => ?_)
 · replace h54 := XT h54
   exact absurd (ex_le (by decide)) h54
 replace h54 := XF h54
 refine rS (MV rfl) ?_
 refine rS (MV rfl) ?_
 refine rS (BI rfl b_neq) ?_
 refine rS (PK rfl) ?_
 refine RK hK38 ?_
 refine w_if rfl (fun h58 => ?_) (fun h58 => ?_)
 · replace h58 := XT h58
   exact absurd (ex_lv (by decide)) h58
 replace h58 := XF h58
 refine w_skip ?_
 refine k_block ?_
 refine KK hK26 ?_
 refine w_region ?_
 refine rS (SX (sd_bin (r := .int .i64 2) rfl rfl rfl (b_add ⟨by decide, by decide⟩)) rfl rfl) ?_
 refine rS (MV rfl) ?_
 refine RK hR23 ?_
 refine ro_succ fun R39 hR39 => ?_
 refine WS fun _ hK40 => ?_
 refine rS (SX (sd_bin (r := .bool true) rfl rfl rfl b_lss) rfl rfl) ?_
 refine RK hK40 ?_
 refine w_seq fun _ hK41 => ?_
 refine w_if_true rfl ?_
 refine WK hK41 ?_
 refine w_seq fun _ hK42 => ?_
 refine w_block ?_
 refine WS fun _ hK43 => ?_
 refine rS (MV rfl) ?_
 refine rS (IAB 2 2 rfl te57 rfl (by decide) rfl) ?_
 refine rS (L1 (Value.int .i64 2500) 0 rfl tk3 rfl rfl) ?_
 refine rS (AG rfl) ?_
 refine rS (AG rfl) ?_
 refine RK hK43 ?_
 refine WS fun _ hK44 => ?_
 refine cX line1_c (ha_nil) rfl fun y45 hy46 => ?_
 obtain ⟨a147, c148, a249, c250, bz51, a352, c353⟩ := y45
 try dsimp only
 obtain ⟨hbz, hlin⟩ := hy46
 refine rS (MV rfl) ?_
 refine rS (CL (Least_c exL1 a147 c148 bz51 a249 c250 a352 c353 2 (by first | exact hlin | assumption)) (ha_cons (has_own_n (n := exL1.Track.length) 0 rfl (by simp)) <| ha_cons (has_own_n (n := exL1.Clocks.length) 1 rfl (zip_len (by first | exact hbz | assumption))) <| ha_cons (bun_bund 2 rfl owns_rds) <| ha_cons (has_own_n (n := exL1.Beams.length) 3 rfl (by simp)) <| ha_nil) rfl) ?_
 refine rS (MV rfl) ?_
 refine rS (EX rfl) ?_
 refine rS (EX rfl) ?_
 refine rS (AG rfl) ?_
 refine rS (AG rfl) ?_
 refine RK hK44 ?_
 refine w_seq fun _ hK54 => ?_
 refine w_sel (C' := [(blk b6 3 [(Value.int .i64 500), (Value.int .i64 1500), (Value.int .i64 2500)])]) [4] rfl rfl ?_
 refine w_region ?_
 refine rS (MV rfl) ?_
 refine rS (BI rfl b_neq) ?_
 refine rS (MV rfl) ?_
 refine r_bool (t := 54) rfl (fun h54 => ?_) (fun h54 => ?_)
 · replace h54 := XT h54
   exact absurd (ex_le (by decide)) h54
 replace h54 := XF h54
 refine rS (MV rfl) ?_
 refine rS (MV rfl) ?_
 refine rS (BI rfl b_neq) ?_
 refine rS (PK rfl) ?_
 refine RK hK54 ?_
 refine w_if rfl (fun h58 => ?_) (fun h58 => ?_)
 · replace h58 := XT h58
   exact absurd (ex_lv (by decide)) h58
 replace h58 := XF h58
 refine w_skip ?_
 refine k_block ?_
 refine KK hK42 ?_
 refine w_region ?_
 refine rS (SX (sd_bin (r := .int .i64 3) rfl rfl rfl (b_add ⟨by decide, by decide⟩)) rfl rfl) ?_
 refine rS (MV rfl) ?_
 refine RK hR39 ?_
 refine ro_succ fun R55 hR55 => ?_
 refine WS fun _ hK56 => ?_
 refine rS (SX (sd_bin (r := .bool false) rfl rfl rfl b_lss) rfl rfl) ?_
 refine RK hK56 ?_
 refine w_seq fun _ hK57 => ?_
 refine w_if_false rfl ?_
 refine w_exit ?_
 refine k_exit_then ?_
 refine k_exit_then ?_
 refine k_exit_same ?_
 refine KK hK4 ?_
 refine WS fun _ hK58 => ?_
 refine cX line1_c (ha_nil) rfl fun y59 hy60 => ?_
 obtain ⟨a161, c162, a263, c264, bz65, a366, c367⟩ := y59
 try dsimp only
 obtain ⟨hbz, hlin⟩ := hy60
 refine cX exride_c (ha_nil) rfl fun y68 hy69 => ?_
 obtain ⟨a70, c71⟩ := y68
 try dsimp only
 refine cX (False_c exL1 a161 c162 bz65 a263 c264 a366 c367 exR a70 c71 (by first | exact hlin | assumption) (by decide)) (ha_cons (has_own_n (n := exL1.Track.length) 1 rfl (by simp)) <| ha_cons (has_own_n (n := exL1.Clocks.length) 2 rfl (zip_len (by first | exact hbz | assumption))) <| ha_cons (bun_bund 3 rfl owns_rds) <| ha_cons (has_own_n (n := exL1.Beams.length) 4 rfl (by simp)) <| ha_cons (has_own_n (n := exR.Signals.length) 0 rfl (by simp)) <| ha_nil) rfl fun y72 hy73 => ?_
 obtain ⟨a74, c75⟩ := y72
 try dsimp only
 refine rS (MV rfl) ?_
 refine rS (EX rfl) ?_
 refine rS (EX rfl) ?_
 refine rS (AG rfl) ?_
 refine rS (AG rfl) ?_
 refine RK hK58 ?_
 refine w_seq fun _ hK76 => ?_
 refine w_sel (C' := [(own a74 c75 3 1 ((falseV exL1 exR).map iC)), (blk b6 3 [(Value.int .i64 500), (Value.int .i64 1500), (Value.int .i64 2500)])]) [0, 6] rfl rfl ?_
 refine w_region ?_
 refine cX line1_c (ha_nil) rfl fun y77 hy78 => ?_
 obtain ⟨a179, c180, a281, c282, bz83, a384, c385⟩ := y77
 try dsimp only
 obtain ⟨hbz, hlin⟩ := hy78
 refine cX exride_c (ha_nil) rfl fun y86 hy87 => ?_
 obtain ⟨a88, c89⟩ := y86
 try dsimp only
 refine cX (Missed_c exL1 a179 c180 bz83 a281 c282 a384 c385 exR a88 c89 (by first | exact hlin | assumption) (by decide)) (ha_cons (has_own_n (n := exL1.Track.length) 1 rfl (by simp)) <| ha_cons (has_own_n (n := exL1.Clocks.length) 2 rfl (zip_len (by first | exact hbz | assumption))) <| ha_cons (bun_bund 3 rfl owns_rds) <| ha_cons (has_own_n (n := exL1.Beams.length) 4 rfl (by simp)) <| ha_cons (has_own_n (n := exR.Signals.length) 0 rfl (by simp)) <| ha_nil) rfl fun y90 hy91 => ?_
 obtain ⟨a92, c93⟩ := y90
 try dsimp only
 refine rS (MV rfl) ?_
 refine rS (EX rfl) ?_
 refine rS (EX rfl) ?_
 refine rS (AG rfl) ?_
 refine rS (AG rfl) ?_
 refine RK hK76 ?_
 refine w_seq fun _ hK94 => ?_
 refine w_sel (C' := [(own a92 c93 3 1 ((missedV exL1 exR).map iC)), (own a74 c75 3 1 ((falseV exL1 exR).map iC)), (blk b6 3 [(Value.int .i64 500), (Value.int .i64 1500), (Value.int .i64 2500)])]) [0, 6, 7] rfl rfl ?_
 refine w_region ?_
 refine cX exride_c (ha_nil) rfl fun y95 hy96 => ?_
 obtain ⟨a97, c98⟩ := y95
 try dsimp only
 refine cX line1_c (ha_nil) rfl fun y99 hy100 => ?_
 obtain ⟨a1101, c1102, a2103, c2104, bz105, a3106, c3107⟩ := y99
 try dsimp only
 obtain ⟨hbz, hlin⟩ := hy100
 refine cX line1_c (ha_nil) rfl fun y108 hy109 => ?_
 obtain ⟨a1110, c1111, a2112, c2113, bz114, a3115, c3116⟩ := y108
 try dsimp only
 obtain ⟨hbz, hlin⟩ := hy109
 refine AL rfl tz69 fun b117 => ?_
 refine AL rfl tz28 fun b118 => ?_
 refine AL rfl tz28 fun b119 => ?_
 refine SW2 rfl ts69 rfl ?_
 refine SW1 rfl ts28 rfl ?_
 refine SW0 rfl ts28 rfl ?_
 refine RK hK94 ?_
 refine WS fun _ hK120 => ?_
 refine rS (FA 1 rfl fo69_1 rfl) ?_
 refine ST2 (RideV.cells (RideV.mk exR.Start 9999 (Slc.mk a97 exR.Signals.length c98))) rfl ts3 rfl rfl ?_
 refine RK hK120 ?_
 refine w_seq fun _ hK121 => ?_
 refine w_draw mixed 6 (by kernel_rfl) ?_
 refine dS (FA 3 rfl fo28_3 rfl) ?_
 refine dS (L1 (Value.slice a3106 exL1.Beams.length c3107) 1 rfl tk26 rfl rfl) ?_
 refine dS (CL (lspan_c 1000 1000) (ha_nil) rfl) ?_
 obtain ⟨x, hx⟩ : ∃ y_, exL1.Beams[1]? = some y_ := ⟨exL1.Beams[1]'(by omega), List.getElem?_eq_getElem _⟩
 have hxm : (exL1.Beams.map BeamV.cells)[1]? = some (BeamV.cells x) := by rw [List.getElem?_map, hx]; rfl
 refine dS (IA 1 rfl (has_own_n (n := exL1.Beams.length) 10 rfl (by simp)) te26 (by decide) rfl (by omega)) ?_
 refine dS (FAR (1 * 4) rfl (has_own_n (n := exL1.Beams.length) 10 rfl (by simp)) (Nat.mul_pos (by omega) (by decide)) fo55_0 rfl) ?_
 refine dS (FAR ((1 * 4) + 1) rfl (has_own_n (n := exL1.Beams.length) 10 rfl (by simp)) (Nat.mul_pos (by omega) (by decide)) fo53_1 rfl) ?_
 refine d_end ?_
 have hb122 : (exL1.Beams.set 1 (BeamV.mk (SpotV.mk x.Spot.Stretch (SpanV.mk 1000 1000)) x.Clock)) = exLF.Beams := by rw [ex_b1 hx]; rfl
 refine r_store_own (k := 1) (o := 1) (vs := (SpanV.cells (SpanV.mk 1000 1000))) (es' := (List.map BeamV.cells exLF.Beams)) (C' := [_, _, _, _, _, _, _, _, _, _, (own a3106 c3107 55 4 (List.map BeamV.cells exLF.Beams)), _, _, _, _]) 10 rfl rfl rfl ts34 rfl rfl rfl rfl hxm rfl (by decide) (by exact (List.map_set (f := BeamV.cells) (l := exL1.Beams) (i := 1) (a := (BeamV.mk (SpotV.mk x.Spot.Stretch (SpanV.mk 1000 1000)) x.Clock))).symm.trans (congrArg _ hb122)) rfl ?_
 refine RK hK121 ?_
 refine WS fun _ hK123 => ?_
 refine rS (SX (sd_build (xs := []) (cs := (TrackV.cells (TrackV.mk (Slc.mk none 0 0)))) rfl rfl (built_of tb24 rfl)) rfl rfl) ?_
 refine rS (FA 0 rfl fo28_0 rfl) ?_
 refine ST0 (LineV.cells (LineV.mk (TrackV.mk (Slc.mk none 0 0)) exL1.Fast (Slc.mk a2112 exL1.Clocks.length c2113) (Slc.mk a3115 exL1.Beams.length c3116) exL1.Finish exL1.Fakes exL1.Misses)) rfl ts24 rfl rfl ?_
 refine RK hK123 ?_
 refine w_seq fun _ hK124 => ?_
 refine w_sel (C' := [(blk b119 28 (LineV.cells (LineV.mk (TrackV.mk (Slc.mk none 0 0)) exL1.Fast (Slc.mk a2112 exL1.Clocks.length c2113) (Slc.mk a3115 exL1.Beams.length c3116) exL1.Finish exL1.Fakes exL1.Misses))), (blk b118 28 (LineV.cells (LineV.mk (TrackV.mk (Slc.mk a1101 exL1.Track.length c1102)) exL1.Fast (Slc.mk a2103 exL1.Clocks.length c2104) (Slc.mk a3106 exL1.Beams.length c3107) exL1.Finish exL1.Fakes exL1.Misses))), (blk b117 69 (RideV.cells (RideV.mk exR.Start 9999 (Slc.mk a97 exR.Signals.length c98)))), (own a2112 c2113 64 2 (List.zipWith ClockM.cells exL1.Clocks bz114)), (bund (nest ClockM.owns exL1.Clocks bz114)), (own a3115 c3116 55 4 (exL1.Beams.map BeamV.cells)), (own a1101 c1102 126 9 (exL1.Track.map StretchV.cells)), (own a2103 c2104 64 2 (List.zipWith ClockM.cells exL1.Clocks bz105)), (bund (nest ClockM.owns exL1.Clocks bz105)), (own a3106 c3107 55 4 (List.map BeamV.cells exLF.Beams)), (own a97 c98 30 2 (exR.Signals.map SignalV.cells)), (own a92 c93 3 1 ((missedV exL1 exR).map iC)), (own a74 c75 3 1 ((falseV exL1 exR).map iC)), (blk b6 3 [(Value.int .i64 500), (Value.int .i64 1500), (Value.int .i64 2500)])]) [0, 1, 2, 4, 5, 6, 7, 8, 9, 10, 11, 12, 13, 14] rfl rfl ?_
 refine w_drawN mixed [1] [0, 2, 3, 4, 5, 6, 7] [false] [] [(blk b119 28 (LineV.cells (LineV.mk (TrackV.mk (Slc.mk none 0 0)) exL1.Fast (Slc.mk a2112 exL1.Clocks.length c2113) (Slc.mk a3115 exL1.Beams.length c3116) exL1.Finish exL1.Fakes exL1.Misses))), (blk b118 28 (LineV.cells (LineV.mk (TrackV.mk (Slc.mk a1101 exL1.Track.length c1102)) exL1.Fast (Slc.mk a2103 exL1.Clocks.length c2104) (Slc.mk a3106 exL1.Beams.length c3107) exL1.Finish exL1.Fakes exL1.Misses))), (blk b117 69 (RideV.cells (RideV.mk exR.Start 9999 (Slc.mk a97 exR.Signals.length c98)))), (own a2112 c2113 64 2 (List.zipWith ClockM.cells exL1.Clocks bz114)), (bund (nest ClockM.owns exL1.Clocks bz114)), (own a3115 c3116 55 4 (exL1.Beams.map BeamV.cells)), (own a1101 c1102 126 9 (exL1.Track.map StretchV.cells)), (own a2103 c2104 64 2 (List.zipWith ClockM.cells exL1.Clocks bz105)), (bund (nest ClockM.owns exL1.Clocks bz105)), (own a3106 c3107 55 4 (List.map BeamV.cells exLF.Beams)), (own a97 c98 30 2 (exR.Signals.map SignalV.cells)), (own a92 c93 3 1 ((missedV exL1 exR).map iC)), (own a74 c75 3 1 ((falseV exL1 exR).map iC)), (blk b6 3 [(Value.int .i64 500), (Value.int .i64 1500), (Value.int .i64 2500)])] [] (by kernel_rfl) (fun w hs => St.sel [0, 1, 2, 3, 4, 5, 6, 7, 8, 9, 10, 11, 12, 13] rfl rfl hs) (fun w hs => St.sel [] rfl rfl hs) ?_
 refine eS rfl (LW 2 rfl tk69 rfl rfl) ?_
 refine d_fin rfl ?_
 refine n_step [0] (by kernel_rfl) (n_cons ?_ <| n_nil)
 refine n_op (rem' := [2, 3, 4, 5, 6, 7]) rfl (by kernel_rfl) rfl fun T125 hT125 => ?_
 refine cX line1_c (ha_nil) rfl fun y126 hy127 => ?_
 obtain ⟨a1128, c1129, a2130, c2131, bz132, a3133, c3134⟩ := y126
 try dsimp only
 obtain ⟨hbz, hlin⟩ := hy127
 refine r_nil (hT125 _ _ (fun w hs => St.sel [4, 5, 6, 7, 8, 9, 10, 11, 12, 13, 14, 15, 16, 17] rfl rfl hs) ?_)
 refine n_step [2] (by kernel_rfl) (n_cons ?_ <| n_nil)
 refine n_op (rem' := [3, 4, 5, 6, 7]) rfl (by kernel_rfl) rfl fun T135 hT135 => ?_
 refine cX (Where_c exL1 a1128 c1129 bz132 a2130 c2131 a3133 c3134 (RideM.mk exR.Start 9999 exR.Signals) a97 c98 (by first | exact hlin | assumption) (by decide)) (ha_cons (has_own_n (n := exL1.Track.length) 0 rfl (by simp)) <| ha_cons (has_own_n (n := exL1.Clocks.length) 1 rfl (zip_len (by first | exact hbz | assumption))) <| ha_cons (bun_bund 2 rfl owns_rds) <| ha_cons (has_own_n (n := exL1.Beams.length) 3 rfl (by simp)) <| ha_cons (has_own_n (n := exR.Signals.length) 14 rfl (by simp)) <| ha_nil) rfl fun y136 hy137 => ?_
 obtain ⟨a138, c139⟩ := y136
 try dsimp only
 refine r_nil (hT135 _ _ (fun w hs => St.sel [5, 6, 7, 8, 9, 10, 11, 12, 13, 14, 15, 16, 17, 18] rfl rfl hs) ?_)
 refine n_pure [84, 88, 89, 12, 13] (by kernel_rfl) (by kernel_rfl) rfl _ rfl rfl (fun w hs => St.sel [5, 6, 7, 8, 9, 10, 11, 12, 13, 14, 15, 16, 17, 18] rfl rfl hs) ?_
 refine dS (MV rfl) ?_
 refine dS (EX rfl) ?_
 refine dS (EX rfl) ?_
 refine dS (AG rfl) ?_
 refine dS (AG rfl) ?_
 refine d_end ?_
 refine RK hK124 ?_
 refine w_seq fun _ hK140 => ?_
 refine w_sel (C' := [(blk b119 28 (LineV.cells (LineV.mk (TrackV.mk (Slc.mk none 0 0)) exL1.Fast (Slc.mk a2112 exL1.Clocks.length c2113) (Slc.mk a3115 exL1.Beams.length c3116) exL1.Finish exL1.Fakes exL1.Misses))), (blk b118 28 (LineV.cells (LineV.mk (TrackV.mk (Slc.mk a1101 exL1.Track.length c1102)) exL1.Fast (Slc.mk a2103 exL1.Clocks.length c2104) (Slc.mk a3106 exL1.Beams.length c3107) exL1.Finish exL1.Fakes exL1.Misses))), (blk b117 69 (RideV.cells (RideV.mk exR.Start 9999 (Slc.mk a97 exR.Signals.length c98)))), (own a2112 c2113 64 2 (List.zipWith ClockM.cells exL1.Clocks bz114)), (bund (nest ClockM.owns exL1.Clocks bz114)), (own a3115 c3116 55 4 (exL1.Beams.map BeamV.cells)), (own a1101 c1102 126 9 (exL1.Track.map StretchV.cells)), (own a2103 c2104 64 2 (List.zipWith ClockM.cells exL1.Clocks bz105)), (bund (nest ClockM.owns exL1.Clocks bz105)), (own a3106 c3107 55 4 (List.map BeamV.cells exLF.Beams)), (own a97 c98 30 2 (exR.Signals.map SignalV.cells)), (own a92 c93 3 1 ((missedV exL1 exR).map iC)), (own a74 c75 3 1 ((falseV exL1 exR).map iC)), (blk b6 3 [(Value.int .i64 500), (Value.int .i64 1500), (Value.int .i64 2500)])]) [5, 6, 7, 8, 9, 10, 11, 12, 13, 14, 15, 16, 17, 18] rfl rfl ?_
 refine w_region ?_
 refine cX line1_c (ha_nil) rfl fun y141 hy142 => ?_
 obtain ⟨a1143, c1144, a2145, c2146, bz147, a3148, c3149⟩ := y141
 try dsimp only
 obtain ⟨hbz, hlin⟩ := hy142
 refine cX exride_c (ha_nil) rfl fun y150 hy151 => ?_
 obtain ⟨a152, c153⟩ := y150
 try dsimp only
 refine rS (CL (Passed_c exL1 a1143 c1144 bz147 a2145 c2146 a3148 c3149 exR a152 c153 3 (by first | exact hlin | assumption) (by decide)) (ha_cons (has_own_n (n := exL1.Track.length) 1 rfl (by simp)) <| ha_cons (has_own_n (n := exL1.Clocks.length) 2 rfl (zip_len (by first | exact hbz | assumption))) <| ha_cons (bun_bund 3 rfl owns_rds) <| ha_cons (has_own_n (n := exL1.Beams.length) 4 rfl (by simp)) <| ha_cons (has_own_n (n := exR.Signals.length) 0 rfl (by simp)) <| ha_nil) rfl) ?_
 refine rS (MV rfl) ?_
 refine rS (EX rfl) ?_
 refine rS (EX rfl) ?_
 refine AL rfl tz34 fun b154 => ?_
 refine SW0 rfl ts34 rfl ?_
 refine rS (AG rfl) ?_
 refine RK hK140 ?_
 refine w_sel (C' := [(blk b119 28 (LineV.cells (LineV.mk (TrackV.mk (Slc.mk none 0 0)) exL1.Fast (Slc.mk a2112 exL1.Clocks.length c2113) (Slc.mk a3115 exL1.Beams.length c3116) exL1.Finish exL1.Fakes exL1.Misses))), (blk b118 28 (LineV.cells (LineV.mk (TrackV.mk (Slc.mk a1101 exL1.Track.length c1102)) exL1.Fast (Slc.mk a2103 exL1.Clocks.length c2104) (Slc.mk a3106 exL1.Beams.length c3107) exL1.Finish exL1.Fakes exL1.Misses))), (blk b117 69 (RideV.cells (RideV.mk exR.Start 9999 (Slc.mk a97 exR.Signals.length c98)))), (own a2112 c2113 64 2 (List.zipWith ClockM.cells exL1.Clocks bz114)), (bund (nest ClockM.owns exL1.Clocks bz114)), (own a3115 c3116 55 4 (exL1.Beams.map BeamV.cells)), (own a1101 c1102 126 9 (exL1.Track.map StretchV.cells)), (own a2103 c2104 64 2 (List.zipWith ClockM.cells exL1.Clocks bz105)), (bund (nest ClockM.owns exL1.Clocks bz105)), (own a3106 c3107 55 4 (List.map BeamV.cells exLF.Beams)), (own a97 c98 30 2 (exR.Signals.map SignalV.cells)), (own a92 c93 3 1 ((missedV exL1 exR).map iC)), (own a74 c75 3 1 ((falseV exL1 exR).map iC))]) [6, 7, 8, 9, 10, 11, 12, 13, 14, 15, 16, 17, 18] rfl rfl ?_
 refine w_join (ι := Unit) (fun z => [(5, (Value.slice a74 ((falseV exL1 exR).length) c75)), (6, (Value.int .i64 (openE exL1 exR 0))), (7, (Value.slice a92 ((missedV exL1 exR).length) c93)), (8, (Value.int .i64 (openE exL1 exR 0))), (10, (Value.pointer (some ⟨b118, 0, none⟩))), (11, (Value.pointer (some ⟨b119, 0, none⟩))), (13, (Value.int .i64 (openE exL1 (RideM.mk exR.Start 9999 exR.Signals) 0))), (15, (Value.int .i64 (passedE exL1 exR 3))), (17, (Value.int .i64 (passedE exL1 (RideM.mk exR.Start 9999 exR.Signals) 3)))]) (fun z => [(blk b119 28 (LineV.cells (LineV.mk (TrackV.mk (Slc.mk none 0 0)) exL1.Fast (Slc.mk a2112 exL1.Clocks.length c2113) (Slc.mk a3115 exL1.Beams.length c3116) exL1.Finish exL1.Fakes exL1.Misses))), (blk b118 28 (LineV.cells (LineV.mk (TrackV.mk (Slc.mk a1101 exL1.Track.length c1102)) exL1.Fast (Slc.mk a2103 exL1.Clocks.length c2104) (Slc.mk a3106 exL1.Beams.length c3107) exL1.Finish exL1.Fakes exL1.Misses))), (own a2112 c2113 64 2 (List.zipWith ClockM.cells exL1.Clocks bz114)), (bund (nest ClockM.owns exL1.Clocks bz114)), (own a3115 c3116 55 4 (exL1.Beams.map BeamV.cells)), (own a1101 c1102 126 9 (exL1.Track.map StretchV.cells)), (own a2103 c2104 64 2 (List.zipWith ClockM.cells exL1.Clocks bz105)), (bund (nest ClockM.owns exL1.Clocks bz105)), (own a3106 c3107 55 4 (List.map BeamV.cells exLF.Beams)), (own a97 c98 30 2 (exR.Signals.map SignalV.cells)), (own a92 c93 3 1 ((missedV exL1 exR).map iC)), (own a74 c75 3 1 ((falseV exL1 exR).map iC))]) ?_ fun K155 hK155 => ?_
 · intro _
   try dsimp only
   refine w_seq fun _ hK156 => ?_
   refine w_sel (C' := [(blk b119 28 (LineV.cells (LineV.mk (TrackV.mk (Slc.mk none 0 0)) exL1.Fast (Slc.mk a2112 exL1.Clocks.length c2113) (Slc.mk a3115 exL1.Beams.length c3116) exL1.Finish exL1.Fakes exL1.Misses))), (blk b118 28 (LineV.cells (LineV.mk (TrackV.mk (Slc.mk a1101 exL1.Track.length c1102)) exL1.Fast (Slc.mk a2103 exL1.Clocks.length c2104) (Slc.mk a3106 exL1.Beams.length c3107) exL1.Finish exL1.Fakes exL1.Misses))), (own a2112 c2113 64 2 (List.zipWith ClockM.cells exL1.Clocks bz114)), (bund (nest ClockM.owns exL1.Clocks bz114)), (own a3115 c3116 55 4 (exL1.Beams.map BeamV.cells)), (own a1101 c1102 126 9 (exL1.Track.map StretchV.cells)), (own a2103 c2104 64 2 (List.zipWith ClockM.cells exL1.Clocks bz105)), (bund (nest ClockM.owns exL1.Clocks bz105)), (own a3106 c3107 55 4 (List.map BeamV.cells exLF.Beams)), (own a92 c93 3 1 ((missedV exL1 exR).map iC)), (own a74 c75 3 1 ((falseV exL1 exR).map iC))]) [0, 1, 2, 3, 4, 5, 6, 7, 8, 10, 11] rfl rfl ?_
   refine w_region ?_
   refine cX line1_c (ha_nil) rfl fun y157 hy158 => ?_
   obtain ⟨a1159, c1160, a2161, c2162, bz163, a3164, c3165⟩ := y157
   try dsimp only
   obtain ⟨hbz, hlin⟩ := hy158
   refine rS (CL (Ahead_c exL1 a1159 c1160 bz163 a2161 c2162 a3164 c3165 1 0 (by first | exact hlin | assumption)) (ha_cons (has_own_n (n := exL1.Track.length) 0 rfl (by simp)) <| ha_cons (has_own_n (n := exL1.Clocks.length) 1 rfl (zip_len (by first | exact hbz | assumption))) <| ha_cons (bun_bund 2 rfl owns_rds) <| ha_cons (has_own_n (n := exL1.Beams.length) 3 rfl (by simp)) <| ha_nil) rfl) ?_
   refine rS (MV rfl) ?_
   refine rS (EX rfl) ?_
   refine rS (EX rfl) ?_
   refine AL rfl tz34 fun b166 => ?_
   refine SW0 rfl ts34 rfl ?_
   refine rS (AG rfl) ?_
   refine RK hK156 ?_
   refine w_seq fun _ hK167 => ?_
   refine w_sel (C' := [(blk b119 28 (LineV.cells (LineV.mk (TrackV.mk (Slc.mk none 0 0)) exL1.Fast (Slc.mk a2112 exL1.Clocks.length c2113) (Slc.mk a3115 exL1.Beams.length c3116) exL1.Finish exL1.Fakes exL1.Misses))), (blk b118 28 (LineV.cells (LineV.mk (TrackV.mk (Slc.mk a1101 exL1.Track.length c1102)) exL1.Fast (Slc.mk a2103 exL1.Clocks.length c2104) (Slc.mk a3106 exL1.Beams.length c3107) exL1.Finish exL1.Fakes exL1.Misses))), (own a2112 c2113 64 2 (List.zipWith ClockM.cells exL1.Clocks bz114)), (bund (nest ClockM.owns exL1.Clocks bz114)), (own a3115 c3116 55 4 (exL1.Beams.map BeamV.cells)), (own a1101 c1102 126 9 (exL1.Track.map StretchV.cells)), (own a2103 c2104 64 2 (List.zipWith ClockM.cells exL1.Clocks bz105)), (bund (nest ClockM.owns exL1.Clocks bz105)), (own a3106 c3107 55 4 (List.map BeamV.cells exLF.Beams)), (own a92 c93 3 1 ((missedV exL1 exR).map iC)), (own a74 c75 3 1 ((falseV exL1 exR).map iC))]) [5, 6, 7, 8, 9, 10, 11, 12, 13, 14, 15] rfl rfl ?_
   refine w_region ?_
   refine cX line1_c (ha_nil) rfl fun y168 hy169 => ?_
   obtain ⟨a1170, c1171, a2172, c2173, bz174, a3175, c3176⟩ := y168
   try dsimp only
   obtain ⟨hbz, hlin⟩ := hy169
   refine rS (SX (sd_build (xs := [(0, .const (Value.int .i64 3))]) (cs := (SignalV.cells (SignalV.mk 3 0))) rfl rfl (built_of tb30 rfl)) rfl rfl) ?_
   refine rS (CL (When_c exL1 a1170 c1171 bz174 a2172 c2173 a3175 c3176 (SignalV.mk 3 0) (by first | exact hlin | assumption)) (ha_cons (has_own_n (n := exL1.Track.length) 0 rfl (by simp)) <| ha_cons (has_own_n (n := exL1.Clocks.length) 1 rfl (zip_len (by first | exact hbz | assumption))) <| ha_cons (bun_bund 2 rfl owns_rds) <| ha_cons (has_own_n (n := exL1.Beams.length) 3 rfl (by simp)) <| ha_nil) rfl) ?_
   refine rS (MV rfl) ?_
   refine rS (EX rfl) ?_
   refine rS (EX rfl) ?_
   refine AL rfl tz34 fun b177 => ?_
   refine SW0 rfl ts34 rfl ?_
   refine rS (AG rfl) ?_
   refine RK hK167 ?_
   refine w_seq fun _ hK178 => ?_
   refine w_sel (C' := [(blk b119 28 (LineV.cells (LineV.mk (TrackV.mk (Slc.mk none 0 0)) exL1.Fast (Slc.mk a2112 exL1.Clocks.length c2113) (Slc.mk a3115 exL1.Beams.length c3116) exL1.Finish exL1.Fakes exL1.Misses))), (blk b118 28 (LineV.cells (LineV.mk (TrackV.mk (Slc.mk a1101 exL1.Track.length c1102)) exL1.Fast (Slc.mk a2103 exL1.Clocks.length c2104) (Slc.mk a3106 exL1.Beams.length c3107) exL1.Finish exL1.Fakes exL1.Misses))), (own a2112 c2113 64 2 (List.zipWith ClockM.cells exL1.Clocks bz114)), (bund (nest ClockM.owns exL1.Clocks bz114)), (own a3115 c3116 55 4 (exL1.Beams.map BeamV.cells)), (own a1101 c1102 126 9 (exL1.Track.map StretchV.cells)), (own a2103 c2104 64 2 (List.zipWith ClockM.cells exL1.Clocks bz105)), (bund (nest ClockM.owns exL1.Clocks bz105)), (own a3106 c3107 55 4 (List.map BeamV.cells exLF.Beams)), (own a92 c93 3 1 ((missedV exL1 exR).map iC)), (own a74 c75 3 1 ((falseV exL1 exR).map iC))]) [5, 6, 7, 8, 9, 10, 11, 12, 13, 14, 15] rfl rfl ?_
   refine w_region ?_
   refine cX exride_c (ha_nil) rfl fun y179 hy180 => ?_
   obtain ⟨a181, c182⟩ := y179
   try dsimp only
   refine AL rfl tz69 fun b183 => ?_
   refine SW0 rfl ts69 rfl ?_
   refine RK hK178 ?_
   refine WS fun _ hK184 => ?_
   refine rS (FA 1 rfl fo69_1 rfl) ?_
   refine ST0 (RideV.cells (RideV.mk exR.Start 10400 (Slc.mk a181 exR.Signals.length c182))) rfl ts3 rfl rfl ?_
   refine rS (FA 2 rfl fo69_2 rfl) ?_
   refine ST0 (RideV.cells (RideV.mk exR.Start 10400 (Slc.mk none 0 0))) rfl ts67 rfl rfl ?_
   refine RK hK184 ?_
   refine w_seq fun _ hK185 => ?_
   refine w_sel (C' := [(blk b183 69 (RideV.cells (RideV.mk exR.Start 10400 (Slc.mk none 0 0)))), (blk b119 28 (LineV.cells (LineV.mk (TrackV.mk (Slc.mk none 0 0)) exL1.Fast (Slc.mk a2112 exL1.Clocks.length c2113) (Slc.mk a3115 exL1.Beams.length c3116) exL1.Finish exL1.Fakes exL1.Misses))), (blk b118 28 (LineV.cells (LineV.mk (TrackV.mk (Slc.mk a1101 exL1.Track.length c1102)) exL1.Fast (Slc.mk a2103 exL1.Clocks.length c2104) (Slc.mk a3106 exL1.Beams.length c3107) exL1.Finish exL1.Fakes exL1.Misses))), (own a2112 c2113 64 2 (List.zipWith ClockM.cells exL1.Clocks bz114)), (bund (nest ClockM.owns exL1.Clocks bz114)), (own a3115 c3116 55 4 (exL1.Beams.map BeamV.cells)), (own a1101 c1102 126 9 (exL1.Track.map StretchV.cells)), (own a2103 c2104 64 2 (List.zipWith ClockM.cells exL1.Clocks bz105)), (bund (nest ClockM.owns exL1.Clocks bz105)), (own a3106 c3107 55 4 (List.map BeamV.cells exLF.Beams)), (own a92 c93 3 1 ((missedV exL1 exR).map iC)), (own a74 c75 3 1 ((falseV exL1 exR).map iC))]) [0, 2, 3, 4, 5, 6, 7, 8, 9, 10, 11, 12] rfl rfl ?_
   refine w_drawN mixed [1] [0, 2, 3, 4, 5, 6, 7] [false] [] [(blk b183 69 (RideV.cells (RideV.mk exR.Start 10400 (Slc.mk none 0 0)))), (blk b119 28 (LineV.cells (LineV.mk (TrackV.mk (Slc.mk none 0 0)) exL1.Fast (Slc.mk a2112 exL1.Clocks.length c2113) (Slc.mk a3115 exL1.Beams.length c3116) exL1.Finish exL1.Fakes exL1.Misses))), (blk b118 28 (LineV.cells (LineV.mk (TrackV.mk (Slc.mk a1101 exL1.Track.length c1102)) exL1.Fast (Slc.mk a2103 exL1.Clocks.length c2104) (Slc.mk a3106 exL1.Beams.length c3107) exL1.Finish exL1.Fakes exL1.Misses))), (own a2112 c2113 64 2 (List.zipWith ClockM.cells exL1.Clocks bz114)), (bund (nest ClockM.owns exL1.Clocks bz114)), (own a3115 c3116 55 4 (exL1.Beams.map BeamV.cells)), (own a1101 c1102 126 9 (exL1.Track.map StretchV.cells)), (own a2103 c2104 64 2 (List.zipWith ClockM.cells exL1.Clocks bz105)), (bund (nest ClockM.owns exL1.Clocks bz105)), (own a3106 c3107 55 4 (List.map BeamV.cells exLF.Beams)), (own a92 c93 3 1 ((missedV exL1 exR).map iC)), (own a74 c75 3 1 ((falseV exL1 exR).map iC))] [] (by kernel_rfl) (fun w hs => St.sel [0, 1, 2, 3, 4, 5, 6, 7, 8, 9, 10, 11] rfl rfl hs) (fun w hs => St.sel [] rfl rfl hs) ?_
   refine eS rfl (LW 0 rfl tk69 rfl rfl) ?_
   refine d_fin rfl ?_
   refine n_step [0] (by kernel_rfl) (n_cons ?_ <| n_nil)
   refine n_op (rem' := [2, 3, 4, 5, 6, 7]) rfl (by kernel_rfl) rfl fun T186 hT186 => ?_
   refine cX line1_c (ha_nil) rfl fun y187 hy188 => ?_
   obtain ⟨a1189, c1190, a2191, c2192, bz193, a3194, c3195⟩ := y187
   try dsimp only
   obtain ⟨hbz, hlin⟩ := hy188
   refine r_nil (hT186 _ _ (fun w hs => St.sel [4, 5, 6, 7, 8, 9, 10, 11, 12, 13, 14, 15] rfl rfl hs) ?_)
   refine n_step [2] (by kernel_rfl) (n_cons ?_ <| n_nil)
   refine n_op (rem' := [3, 4, 5, 6, 7]) rfl (by kernel_rfl) rfl fun T196 hT196 => ?_
   refine cX (Where_c exL1 a1189 c1190 bz193 a2191 c2192 a3194 c3195 (RideM.mk exR.Start 10400 ([])) none 0 (by first | exact hlin | assumption) (by decide)) (ha_cons (has_own_n (n := exL1.Track.length) 0 rfl (by simp)) <| ha_cons (has_own_n (n := exL1.Clocks.length) 1 rfl (zip_len (by first | exact hbz | assumption))) <| ha_cons (bun_bund 2 rfl owns_rds) <| ha_cons (has_own_n (n := exL1.Beams.length) 3 rfl (by simp)) <| ha_cons (rd_nil _ _) <| ha_nil) rfl fun y197 hy198 => ?_
   obtain ⟨a199, c200⟩ := y197
   try dsimp only
   refine r_nil (hT196 _ _ (fun w hs => St.sel [5, 6, 7, 8, 9, 10, 11, 12, 13, 14, 15, 16] rfl rfl hs) ?_)
   refine n_pure [116, 120, 121, 23, 24] (by kernel_rfl) (by kernel_rfl) rfl _ rfl rfl (fun w hs => St.sel [5, 6, 7, 8, 9, 10, 11, 12, 13, 14, 15, 16] rfl rfl hs) ?_
   refine dS (MV rfl) ?_
   refine dS (EX rfl) ?_
   refine dS (EX rfl) ?_
   refine dS (AG rfl) ?_
   refine dS (AG rfl) ?_
   refine d_end ?_
   refine RK hK185 ?_
   refine w_sel (C' := [(own a199 c200 3 1 ((whereV exL1 (RideM.mk exR.Start 10400 ([]))).map iC)), (blk b183 69 (RideV.cells (RideV.mk exR.Start 10400 (Slc.mk none 0 0)))), (blk b119 28 (LineV.cells (LineV.mk (TrackV.mk (Slc.mk none 0 0)) exL1.Fast (Slc.mk a2112 exL1.Clocks.length c2113) (Slc.mk a3115 exL1.Beams.length c3116) exL1.Finish exL1.Fakes exL1.Misses))), (blk b118 28 (LineV.cells (LineV.mk (TrackV.mk (Slc.mk a1101 exL1.Track.length c1102)) exL1.Fast (Slc.mk a2103 exL1.Clocks.length c2104) (Slc.mk a3106 exL1.Beams.length c3107) exL1.Finish exL1.Fakes exL1.Misses))), (own a2112 c2113 64 2 (List.zipWith ClockM.cells exL1.Clocks bz114)), (bund (nest ClockM.owns exL1.Clocks bz114)), (own a3115 c3116 55 4 (exL1.Beams.map BeamV.cells)), (own a1101 c1102 126 9 (exL1.Track.map StretchV.cells)), (own a2103 c2104 64 2 (List.zipWith ClockM.cells exL1.Clocks bz105)), (bund (nest ClockM.owns exL1.Clocks bz105)), (own a3106 c3107 55 4 (List.map BeamV.cells exLF.Beams)), (own a92 c93 3 1 ((missedV exL1 exR).map iC)), (own a74 c75 3 1 ((falseV exL1 exR).map iC))]) [0, 5, 6, 7, 8, 9, 10, 11, 12, 13, 14, 15, 16] rfl rfl ?_
   refine w_join (ι := Unit) (fun z => [(5, (Value.slice a74 ((falseV exL1 exR).length) c75)), (6, (Value.int .i64 (openE exL1 exR 0))), (7, (Value.slice a92 ((missedV exL1 exR).length) c93)), (8, (Value.int .i64 (openE exL1 exR 0))), (10, (Value.pointer (some ⟨b118, 0, none⟩))), (11, (Value.pointer (some ⟨b119, 0, none⟩))), (13, (Value.int .i64 (openE exL1 (RideM.mk exR.Start 9999 exR.Signals) 0))), (15, (Value.int .i64 (passedE exL1 exR 3))), (17, (Value.int .i64 (passedE exL1 (RideM.mk exR.Start 9999 exR.Signals) 3))), (19, (Value.int .i64 (aheadE exL1 1 0))), (21, (Value.int .i64 (whenE exL1 (SignalV.mk 3 0)))), (23, (Value.slice a199 ((whereV exL1 (RideM.mk exR.Start 10400 ([]))).length) c200)), (24, (Value.int .i64 (openE exL1 (RideM.mk exR.Start 10400 ([])) 0))), (26, (Value.int .i64 (passedE exL1 (RideM.mk exR.Start 10400 []) exL1.Finish)))]) (fun z => [(own a199 c200 3 1 ((whereV exL1 (RideM.mk exR.Start 10400 ([]))).map iC)), (blk b119 28 (LineV.cells (LineV.mk (TrackV.mk (Slc.mk none 0 0)) exL1.Fast (Slc.mk a2112 exL1.Clocks.length c2113) (Slc.mk a3115 exL1.Beams.length c3116) exL1.Finish exL1.Fakes exL1.Misses))), (blk b118 28 (LineV.cells (LineV.mk (TrackV.mk (Slc.mk a1101 exL1.Track.length c1102)) exL1.Fast (Slc.mk a2103 exL1.Clocks.length c2104) (Slc.mk a3106 exL1.Beams.length c3107) exL1.Finish exL1.Fakes exL1.Misses))), (own a2112 c2113 64 2 (List.zipWith ClockM.cells exL1.Clocks bz114)), (bund (nest ClockM.owns exL1.Clocks bz114)), (own a3115 c3116 55 4 (exL1.Beams.map BeamV.cells)), (own a1101 c1102 126 9 (exL1.Track.map StretchV.cells)), (own a2103 c2104 64 2 (List.zipWith ClockM.cells exL1.Clocks bz105)), (bund (nest ClockM.owns exL1.Clocks bz105)), (own a3106 c3107 55 4 (List.map BeamV.cells exLF.Beams)), (own a92 c93 3 1 ((missedV exL1 exR).map iC)), (own a74 c75 3 1 ((falseV exL1 exR).map iC))]) ?_ fun K201 hK201 => ?_
   · intro _
     try dsimp only
     refine WS fun _ hK202 => ?_
     refine rS (MV rfl) ?_
     refine rS (BI rfl b_eql) ?_
     refine rS (MV rfl) ?_
     refine r_bool (t := 130) rfl (fun h130 => ?_) (fun h130 => ?_)
     rotate_left 1
     · replace h130 := DF h130
       exact absurd (ex_open1) h130
     replace h130 := DT h130
     refine rS (MV rfl) ?_
     refine rS (LN rfl ut57) ?_
     refine rS (BI rfl b_eql) ?_
     refine rS (PK rfl) ?_
     refine rS (MV rfl) ?_
     refine r_bool (t := 135) rfl (fun h135 => ?_) (fun h135 => ?_)
     rotate_left 1
     · replace h135 := DF h135
       exact absurd (by rw [ex_false]; rfl) h135
     replace h135 := DT h135
     refine rS (MV rfl) ?_
     refine rS (BI rfl b_eql) ?_
     refine rS (PK rfl) ?_
     refine rS (MV rfl) ?_
     refine r_bool (t := 139) rfl (fun h139 => ?_) (fun h139 => ?_)
     rotate_left 1
     · replace h139 := DF h139
       exact absurd (ex_open1) h139
     replace h139 := DT h139
     refine rS (MV rfl) ?_
     refine rS (LN rfl ut57) ?_
     refine rS (BI rfl b_eql) ?_
     refine rS (PK rfl) ?_
     refine rS (MV rfl) ?_
     refine r_bool (t := 144) rfl (fun h144 => ?_) (fun h144 => ?_)
     rotate_left 1
     · replace h144 := DF h144
       exact absurd (by rw [ex_missed]; rfl) h144
     replace h144 := DT h144
     refine rS (MV rfl) ?_
     refine rS (BI rfl b_eql) ?_
     refine rS (PK rfl) ?_
     refine rS (MV rfl) ?_
     refine r_bool (t := 148) rfl (fun h148 => ?_) (fun h148 => ?_)
     rotate_left 1
     · replace h148 := DF h148
       exact absurd (ex_late) h148
     replace h148 := DT h148
     refine rS (MV rfl) ?_
     refine rS (BI rfl b_eql) ?_
     refine rS (PK rfl) ?_
     refine rS (MV rfl) ?_
     refine r_bool (t := 152) rfl (fun h152 => ?_) (fun h152 => ?_)
     rotate_left 1
     · replace h152 := DF h152
       exact absurd (ex_pass3) h152
     replace h152 := DT h152
     refine rS (MV rfl) ?_
     refine rS (BI rfl b_eql) ?_
     refine rS (PK rfl) ?_
     refine rS (MV rfl) ?_
     refine r_bool (t := 156) rfl (fun h156 => ?_) (fun h156 => ?_)
     rotate_left 1
     · replace h156 := DF h156
       exact absurd (ex_late3) h156
     replace h156 := DT h156
     refine rS (MV rfl) ?_
     refine rS (BI rfl b_eql) ?_
     refine rS (PK rfl) ?_
     refine rS (MV rfl) ?_
     refine r_bool (t := 160) rfl (fun h160 => ?_) (fun h160 => ?_)
     rotate_left 1
     · replace h160 := DF h160
       exact absurd (ex_ah1) h160
     replace h160 := DT h160
     refine rS (MV rfl) ?_
     refine rS (BI rfl b_eql) ?_
     refine rS (PK rfl) ?_
     refine rS (MV rfl) ?_
     refine r_bool (t := 164) rfl (fun h164 => ?_) (fun h164 => ?_)
     rotate_left 1
     · replace h164 := DF h164
       exact absurd (ex_wh3) h164
     replace h164 := DT h164
     refine rS (MV rfl) ?_
     refine rS (BI rfl b_eql) ?_
     refine rS (PK rfl) ?_
     refine rS (MV rfl) ?_
     refine r_bool (t := 168) rfl (fun h168 => ?_) (fun h168 => ?_)
     rotate_left 1
     · replace h168 := DF h168
       exact absurd (ex_eopen) h168
     replace h168 := DT h168
     refine rS (MV rfl) ?_
     refine r_bs (xs := [.const (Value.int .i64 0)]) (cs := [(Value.int .i64 0)]) rfl te57 tz3 rfl rfl rfl rfl (by simp [Value.cells]) rfl rfl fun b203 => ?_
     refine rS (CL (sameints_c (whereV exL1 (RideM.mk exR.Start 10400 ([]))) a199 c200 ([0]) (some ⟨b203, 0, none⟩) 1 (by exact Nat.le_trans whereV_len (by decide)) (by decide)) (ha_cons (has_own_n (n := (whereV exL1 (RideM.mk exR.Start 10400 ([]))).length) 1 rfl (by simp)) <| ha_cons (has_rd_blk 0 rfl rfl (by simp [iC_length]) rfl) <| ha_nil) rfl) ?_
     refine rS (PK rfl) ?_
     refine rS (MV rfl) ?_
     refine r_bool (t := 173) rfl (fun h173 => ?_) (fun h173 => ?_)
     rotate_left 1
     · replace h173 := DF h173
       exact absurd (ex_ewhere) h173
     replace h173 := DT h173
     refine rS (MV rfl) ?_
     refine rS (BI rfl b_eql) ?_
     refine rS (PK rfl) ?_
     refine rS (MV rfl) ?_
     refine r_bool (t := 177) rfl (fun h177 => ?_) (fun h177 => ?_)
     rotate_left 1
     · replace h177 := DF h177
       exact absurd (ex_eran) h177
     replace h177 := DT h177
     refine rS (LW 3 rfl tk28 rfl rfl) ?_
     refine rS (CL (lcheck_c (LineM.mk exL1.Track exL1.Fast exL1.Clocks exLF.Beams exL1.Finish exL1.Fakes exL1.Misses) a1101 c1102 bz105 a2103 c2104 a3106 c3107 (by exact ex_farin (by assumption))) (ha_cons (has_own_n (n := exL1.Track.length) 7 rfl (by simp)) <| ha_cons (has_own_n (n := exL1.Clocks.length) 8 rfl (zip_len (by first | exact hbz | assumption))) <| ha_cons (bun_bund 9 rfl owns_rds) <| ha_cons (has_own_n (n := exLF.Beams.length) 10 rfl (by simp)) <| ha_nil) rfl) ?_
     refine rS (BI rfl b_eql) ?_
     refine rS (PK rfl) ?_
     refine rS (MV rfl) ?_
     refine r_bool (t := 182) rfl (fun h182 => ?_) (fun h182 => ?_)
     rotate_left 1
     · replace h182 := DF h182
       exact absurd (ex_far) h182
     replace h182 := DT h182
     refine rS (LW 2 rfl tk28 rfl rfl) ?_
     refine rS (CL (lcheck_c (LineM.mk ([]) exL1.Fast exL1.Clocks exL1.Beams exL1.Finish exL1.Fakes exL1.Misses) none 0 bz114 a2112 c2113 a3115 c3116 (by exact ex_wildin (by assumption))) (ha_cons (rd_nil _ _) <| ha_cons (has_own_n (n := exL1.Clocks.length) 4 rfl (zip_len (by first | exact hbz | assumption))) <| ha_cons (bun_bund 5 rfl owns_rds) <| ha_cons (has_own_n (n := exL1.Beams.length) 6 rfl (by simp)) <| ha_nil) rfl) ?_
     refine rS (BI rfl b_eql) ?_
     refine rS (PK rfl) ?_
     refine rS (AG rfl) ?_
     refine RK hK202 ?_
     refine w_ret ?_
     refine Q1 hQ rfl rfl rfl ?_
     exact congrArg Value.bool (decide_eq_true (ex_wild exL1))
   refine w_drawN mixed [1] [0, 2, 3, 4, 5, 6, 7, 8] [false] [] [(own a199 c200 3 1 ((whereV exL1 (RideM.mk exR.Start 10400 ([]))).map iC)), (blk b183 69 (RideV.cells (RideV.mk exR.Start 10400 (Slc.mk none 0 0)))), (blk b119 28 (LineV.cells (LineV.mk (TrackV.mk (Slc.mk none 0 0)) exL1.Fast (Slc.mk a2112 exL1.Clocks.length c2113) (Slc.mk a3115 exL1.Beams.length c3116) exL1.Finish exL1.Fakes exL1.Misses))), (blk b118 28 (LineV.cells (LineV.mk (TrackV.mk (Slc.mk a1101 exL1.Track.length c1102)) exL1.Fast (Slc.mk a2103 exL1.Clocks.length c2104) (Slc.mk a3106 exL1.Beams.length c3107) exL1.Finish exL1.Fakes exL1.Misses))), (own a2112 c2113 64 2 (List.zipWith ClockM.cells exL1.Clocks bz114)), (bund (nest ClockM.owns exL1.Clocks bz114)), (own a3115 c3116 55 4 (exL1.Beams.map BeamV.cells)), (own a1101 c1102 126 9 (exL1.Track.map StretchV.cells)), (own a2103 c2104 64 2 (List.zipWith ClockM.cells exL1.Clocks bz105)), (bund (nest ClockM.owns exL1.Clocks bz105)), (own a3106 c3107 55 4 (List.map BeamV.cells exLF.Beams)), (own a92 c93 3 1 ((missedV exL1 exR).map iC)), (own a74 c75 3 1 ((falseV exL1 exR).map iC))] [] (by kernel_rfl) (fun w hs => St.sel [0, 1, 2, 3, 4, 5, 6, 7, 8, 9, 10, 11, 12] rfl rfl hs) (fun w hs => St.sel [] rfl rfl hs) ?_
   refine eS rfl (LW 1 rfl tk69 rfl rfl) ?_
   refine d_fin rfl ?_
   refine n_step [0, 6] (by kernel_rfl) (n_cons ?_ <| n_cons ?_ <| n_nil)
   rotate_left 1
   · refine n_op (rem' := [0, 2, 3, 4, 5, 7, 8]) rfl (by kernel_rfl) rfl fun T275 hT275 => ?_
     refine AL rfl tz34 fun b276 => ?_
     refine r_nil (hT275 _ _ (fun w hs => St.sel [1, 2, 3, 4, 5, 6, 7, 8, 9, 10, 11, 12, 13] rfl rfl hs) ?_)
     refine n_step [0] (by kernel_rfl) (n_cons ?_ <| n_nil)
     refine n_op (rem' := [2, 3, 4, 5, 7, 8]) rfl (by kernel_rfl) rfl fun T277 hT277 => ?_
     refine cX line1_c (ha_nil) rfl fun y278 hy279 => ?_
     obtain ⟨a1280, c1281, a2282, c2283, bz284, a3285, c3286⟩ := y278
     try dsimp only
     obtain ⟨hbz, hlin⟩ := hy279
     refine r_nil (hT277 _ _ (fun w hs => St.sel [5, 6, 7, 8, 9, 10, 11, 12, 13, 14, 15, 16, 17] rfl rfl hs) ?_)
     refine n_step [2] (by kernel_rfl) (n_cons ?_ <| n_nil)
     refine n_op (rem' := [3, 4, 5, 7, 8]) rfl (by kernel_rfl) rfl fun T287 hT287 => ?_
     refine rS (CL (Ran_c exL1 a1280 c1281 bz284 a2282 c2283 a3285 c3286 (RideM.mk exR.Start 10400 ([])) none 0 (by first | exact hlin | assumption) (by decide)) (ha_cons (has_own_n (n := exL1.Track.length) 0 rfl (by simp)) <| ha_cons (has_own_n (n := exL1.Clocks.length) 1 rfl (zip_len (by first | exact hbz | assumption))) <| ha_cons (bun_bund 2 rfl owns_rds) <| ha_cons (has_own_n (n := exL1.Beams.length) 3 rfl (by simp)) <| ha_cons (rd_nil _ _) <| ha_nil) rfl) ?_
     refine r_nil (hT287 _ _ (fun w hs => St.sel [5, 6, 7, 8, 9, 10, 11, 12, 13, 14, 15, 16, 17] rfl rfl hs) ?_)
     refine n_step [3] (by kernel_rfl) (n_cons ?_ <| n_nil)
     refine n_op (rem' := [4, 5, 7, 8]) rfl (by kernel_rfl) rfl fun T288 hT288 => ?_
     refine rS (MV rfl) ?_
     refine r_nil (hT288 _ _ (fun w hs => St.sel [5, 6, 7, 8, 9, 10, 11, 12, 13, 14, 15, 16, 17] rfl rfl hs) ?_)
     refine n_step [4, 5] (by kernel_rfl) (n_cons ?_ <| n_cons ?_ <| n_nil)
     rotate_left 1
     · refine n_op (rem' := [4, 7, 8]) rfl (by kernel_rfl) rfl fun T294 hT294 => ?_
       refine rS (EX rfl) ?_
       refine r_nil (hT294 _ _ (fun w hs => St.sel [5, 6, 7, 8, 9, 10, 11, 12, 13, 14, 15, 16, 17] rfl rfl hs) ?_)
       refine n_step [4] (by kernel_rfl) (n_cons ?_ <| n_nil)
       refine n_op (rem' := [7, 8]) rfl (by kernel_rfl) rfl fun T295 hT295 => ?_
       refine rS (EX rfl) ?_
       refine r_nil (hT295 _ _ (fun w hs => St.sel [5, 6, 7, 8, 9, 10, 11, 12, 13, 14, 15, 16, 17] rfl rfl hs) ?_)
       refine n_step [7] (by kernel_rfl) (n_cons ?_ <| n_nil)
       refine n_op (rem' := [8]) rfl (by kernel_rfl) rfl fun T296 hT296 => ?_
       refine SW4 rfl ts34 rfl ?_
       refine r_nil (hT296 _ _ (fun w hs => St.sel [5, 6, 7, 8, 9, 10, 11, 12, 13, 14, 15, 16, 17] rfl rfl hs) ?_)
       refine n_step [8] (by kernel_rfl) (n_cons ?_ <| n_nil)
       refine n_op (rem' := []) rfl (by kernel_rfl) rfl fun T297 hT297 => ?_
       refine rS (AG rfl) ?_
       refine r_nil (hT297 _ _ (fun w hs => St.sel [5, 6, 7, 8, 9, 10, 11, 12, 13, 14, 15, 16, 17] rfl rfl hs) ?_)
       refine n_fin ?_
       refine k_then (k_sub (Sub.cons rfl <| Sub.cons rfl <| Sub.cons rfl <| Sub.cons rfl <| Sub.cons rfl <| Sub.cons rfl <| Sub.cons rfl <| Sub.cons rfl <| Sub.cons rfl <| Sub.cons rfl <| Sub.cons rfl <| Sub.cons rfl <| Sub.cons rfl <| Sub.cons rfl <| Sub.nil _) (fun w hs => St.sel [5, 7, 8, 9, 10, 11, 12, 13, 14, 15, 16, 17] rfl rfl hs) (hK201 ()))
     refine n_op (rem' := [5, 7, 8]) rfl (by kernel_rfl) rfl fun T289 hT289 => ?_
     refine rS (EX rfl) ?_
     refine r_nil (hT289 _ _ (fun w hs => St.sel [5, 6, 7, 8, 9, 10, 11, 12, 13, 14, 15, 16, 17] rfl rfl hs) ?_)
     refine n_step [5, 7] (by kernel_rfl) (n_cons ?_ <| n_cons ?_ <| n_nil)
     rotate_left 1
     · refine n_op (rem' := [5, 8]) rfl (by kernel_rfl) rfl fun T293 hT293 => ?_
       refine SW4 rfl ts34 rfl ?_
       refine r_nil (hT293 _ _ (fun w hs => St.sel [5, 6, 7, 8, 9, 10, 11, 12, 13, 14, 15, 16, 17] rfl rfl hs) ?_)
       refine n_pure [127, 26] (by kernel_rfl) (by kernel_rfl) rfl _ rfl rfl (fun w hs => St.sel [5, 6, 7, 8, 9, 10, 11, 12, 13, 14, 15, 16, 17] rfl rfl hs) ?_
       refine dS (EX rfl) ?_
       refine dS (AG rfl) ?_
       refine d_end ?_
       refine r_nil ?_
       refine k_then (k_sub (Sub.cons rfl <| Sub.cons rfl <| Sub.cons rfl <| Sub.cons rfl <| Sub.cons rfl <| Sub.cons rfl <| Sub.cons rfl <| Sub.cons rfl <| Sub.cons rfl <| Sub.cons rfl <| Sub.cons rfl <| Sub.cons rfl <| Sub.cons rfl <| Sub.cons rfl <| Sub.nil _) (fun w hs => St.sel [5, 7, 8, 9, 10, 11, 12, 13, 14, 15, 16, 17] rfl rfl hs) (hK201 ()))
     refine n_op (rem' := [7, 8]) rfl (by kernel_rfl) rfl fun T290 hT290 => ?_
     refine rS (EX rfl) ?_
     refine r_nil (hT290 _ _ (fun w hs => St.sel [5, 6, 7, 8, 9, 10, 11, 12, 13, 14, 15, 16, 17] rfl rfl hs) ?_)
     refine n_step [7] (by kernel_rfl) (n_cons ?_ <| n_nil)
     refine n_op (rem' := [8]) rfl (by kernel_rfl) rfl fun T291 hT291 => ?_
     refine SW4 rfl ts34 rfl ?_
     refine r_nil (hT291 _ _ (fun w hs => St.sel [5, 6, 7, 8, 9, 10, 11, 12, 13, 14, 15, 16, 17] rfl rfl hs) ?_)
     refine n_step [8] (by kernel_rfl) (n_cons ?_ <| n_nil)
     refine n_op (rem' := []) rfl (by kernel_rfl) rfl fun T292 hT292 => ?_
     refine rS (AG rfl) ?_
     refine r_nil (hT292 _ _ (fun w hs => St.sel [5, 6, 7, 8, 9, 10, 11, 12, 13, 14, 15, 16, 17] rfl rfl hs) ?_)
     refine n_fin ?_
     refine k_then (k_sub (Sub.cons rfl <| Sub.cons rfl <| Sub.cons rfl <| Sub.cons rfl <| Sub.cons rfl <| Sub.cons rfl <| Sub.cons rfl <| Sub.cons rfl <| Sub.cons rfl <| Sub.cons rfl <| Sub.cons rfl <| Sub.cons rfl <| Sub.cons rfl <| Sub.cons rfl <| Sub.nil _) (fun w hs => St.sel [5, 7, 8, 9, 10, 11, 12, 13, 14, 15, 16, 17] rfl rfl hs) (hK201 ()))
   refine n_op (rem' := [2, 3, 4, 5, 6, 7, 8]) rfl (by kernel_rfl) rfl fun T204 hT204 => ?_
   refine cX line1_c (ha_nil) rfl fun y205 hy206 => ?_
   obtain ⟨a1207, c1208, a2209, c2210, bz211, a3212, c3213⟩ := y205
   try dsimp only
   obtain ⟨hbz, hlin⟩ := hy206
   refine r_nil (hT204 _ _ (fun w hs => St.sel [4, 5, 6, 7, 8, 9, 10, 11, 12, 13, 14, 15, 16] rfl rfl hs) ?_)
   refine n_step [2, 6] (by kernel_rfl) (n_cons ?_ <| n_cons ?_ <| n_nil)
   rotate_left 1
   · refine n_op (rem' := [2, 3, 4, 5, 7, 8]) rfl (by kernel_rfl) rfl fun T262 hT262 => ?_
     refine AL rfl tz34 fun b263 => ?_
     refine r_nil (hT262 _ _ (fun w hs => St.sel [5, 6, 7, 8, 9, 10, 11, 12, 13, 14, 15, 16, 17] rfl rfl hs) ?_)
     refine n_step [2] (by kernel_rfl) (n_cons ?_ <| n_nil)
     refine n_op (rem' := [3, 4, 5, 7, 8]) rfl (by kernel_rfl) rfl fun T264 hT264 => ?_
     refine rS (CL (Ran_c exL1 a1207 c1208 bz211 a2209 c2210 a3212 c3213 (RideM.mk exR.Start 10400 ([])) none 0 (by first | exact hlin | assumption) (by decide)) (ha_cons (has_own_n (n := exL1.Track.length) 1 rfl (by simp)) <| ha_cons (has_own_n (n := exL1.Clocks.length) 2 rfl (zip_len (by first | exact hbz | assumption))) <| ha_cons (bun_bund 3 rfl owns_rds) <| ha_cons (has_own_n (n := exL1.Beams.length) 4 rfl (by simp)) <| ha_cons (rd_nil _ _) <| ha_nil) rfl) ?_
     refine r_nil (hT264 _ _ (fun w hs => St.sel [5, 6, 7, 8, 9, 10, 11, 12, 13, 14, 15, 16, 17] rfl rfl hs) ?_)
     refine n_step [3] (by kernel_rfl) (n_cons ?_ <| n_nil)
     refine n_op (rem' := [4, 5, 7, 8]) rfl (by kernel_rfl) rfl fun T265 hT265 => ?_
     refine rS (MV rfl) ?_
     refine r_nil (hT265 _ _ (fun w hs => St.sel [5, 6, 7, 8, 9, 10, 11, 12, 13, 14, 15, 16, 17] rfl rfl hs) ?_)
     refine n_step [4, 5] (by kernel_rfl) (n_cons ?_ <| n_cons ?_ <| n_nil)
     rotate_left 1
     · refine n_op (rem' := [4, 7, 8]) rfl (by kernel_rfl) rfl fun T271 hT271 => ?_
       refine rS (EX rfl) ?_
       refine r_nil (hT271 _ _ (fun w hs => St.sel [5, 6, 7, 8, 9, 10, 11, 12, 13, 14, 15, 16, 17] rfl rfl hs) ?_)
       refine n_step [4] (by kernel_rfl) (n_cons ?_ <| n_nil)
       refine n_op (rem' := [7, 8]) rfl (by kernel_rfl) rfl fun T272 hT272 => ?_
       refine rS (EX rfl) ?_
       refine r_nil (hT272 _ _ (fun w hs => St.sel [5, 6, 7, 8, 9, 10, 11, 12, 13, 14, 15, 16, 17] rfl rfl hs) ?_)
       refine n_step [7] (by kernel_rfl) (n_cons ?_ <| n_nil)
       refine n_op (rem' := [8]) rfl (by kernel_rfl) rfl fun T273 hT273 => ?_
       refine SW0 rfl ts34 rfl ?_
       refine r_nil (hT273 _ _ (fun w hs => St.sel [5, 6, 7, 8, 9, 10, 11, 12, 13, 14, 15, 16, 17] rfl rfl hs) ?_)
       refine n_step [8] (by kernel_rfl) (n_cons ?_ <| n_nil)
       refine n_op (rem' := []) rfl (by kernel_rfl) rfl fun T274 hT274 => ?_
       refine rS (AG rfl) ?_
       refine r_nil (hT274 _ _ (fun w hs => St.sel [5, 6, 7, 8, 9, 10, 11, 12, 13, 14, 15, 16, 17] rfl rfl hs) ?_)
       refine n_fin ?_
       refine k_then (k_sub (Sub.cons rfl <| Sub.cons rfl <| Sub.cons rfl <| Sub.cons rfl <| Sub.cons rfl <| Sub.cons rfl <| Sub.cons rfl <| Sub.cons rfl <| Sub.cons rfl <| Sub.cons rfl <| Sub.cons rfl <| Sub.cons rfl <| Sub.cons rfl <| Sub.cons rfl <| Sub.nil _) (fun w hs => St.sel [5, 7, 8, 9, 10, 11, 12, 13, 14, 15, 16, 17] rfl rfl hs) (hK201 ()))
     refine n_op (rem' := [5, 7, 8]) rfl (by kernel_rfl) rfl fun T266 hT266 => ?_
     refine rS (EX rfl) ?_
     refine r_nil (hT266 _ _ (fun w hs => St.sel [5, 6, 7, 8, 9, 10, 11, 12, 13, 14, 15, 16, 17] rfl rfl hs) ?_)
     refine n_step [5, 7] (by kernel_rfl) (n_cons ?_ <| n_cons ?_ <| n_nil)
     rotate_left 1
     · refine n_op (rem' := [5, 8]) rfl (by kernel_rfl) rfl fun T270 hT270 => ?_
       refine SW0 rfl ts34 rfl ?_
       refine r_nil (hT270 _ _ (fun w hs => St.sel [5, 6, 7, 8, 9, 10, 11, 12, 13, 14, 15, 16, 17] rfl rfl hs) ?_)
       refine n_pure [127, 26] (by kernel_rfl) (by kernel_rfl) rfl _ rfl rfl (fun w hs => St.sel [5, 6, 7, 8, 9, 10, 11, 12, 13, 14, 15, 16, 17] rfl rfl hs) ?_
       refine dS (EX rfl) ?_
       refine dS (AG rfl) ?_
       refine d_end ?_
       refine r_nil ?_
       refine k_then (k_sub (Sub.cons rfl <| Sub.cons rfl <| Sub.cons rfl <| Sub.cons rfl <| Sub.cons rfl <| Sub.cons rfl <| Sub.cons rfl <| Sub.cons rfl <| Sub.cons rfl <| Sub.cons rfl <| Sub.cons rfl <| Sub.cons rfl <| Sub.cons rfl <| Sub.cons rfl <| Sub.nil _) (fun w hs => St.sel [5, 7, 8, 9, 10, 11, 12, 13, 14, 15, 16, 17] rfl rfl hs) (hK201 ()))
     refine n_op (rem' := [7, 8]) rfl (by kernel_rfl) rfl fun T267 hT267 => ?_
     refine rS (EX rfl) ?_
     refine r_nil (hT267 _ _ (fun w hs => St.sel [5, 6, 7, 8, 9, 10, 11, 12, 13, 14, 15, 16, 17] rfl rfl hs) ?_)
     refine n_step [7] (by kernel_rfl) (n_cons ?_ <| n_nil)
     refine n_op (rem' := [8]) rfl (by kernel_rfl) rfl fun T268 hT268 => ?_
     refine SW0 rfl ts34 rfl ?_
     refine r_nil (hT268 _ _ (fun w hs => St.sel [5, 6, 7, 8, 9, 10, 11, 12, 13, 14, 15, 16, 17] rfl rfl hs) ?_)
     refine n_step [8] (by kernel_rfl) (n_cons ?_ <| n_nil)
     refine n_op (rem' := []) rfl (by kernel_rfl) rfl fun T269 hT269 => ?_
     refine rS (AG rfl) ?_
     refine r_nil (hT269 _ _ (fun w hs => St.sel [5, 6, 7, 8, 9, 10, 11, 12, 13, 14, 15, 16, 17] rfl rfl hs) ?_)
     refine n_fin ?_
     refine k_then (k_sub (Sub.cons rfl <| Sub.cons rfl <| Sub.cons rfl <| Sub.cons rfl <| Sub.cons rfl <| Sub.cons rfl <| Sub.cons rfl <| Sub.cons rfl <| Sub.cons rfl <| Sub.cons rfl <| Sub.cons rfl <| Sub.cons rfl <| Sub.cons rfl <| Sub.cons rfl <| Sub.nil _) (fun w hs => St.sel [5, 7, 8, 9, 10, 11, 12, 13, 14, 15, 16, 17] rfl rfl hs) (hK201 ()))
   refine n_op (rem' := [3, 4, 5, 6, 7, 8]) rfl (by kernel_rfl) rfl fun T214 hT214 => ?_
   refine rS (CL (Ran_c exL1 a1207 c1208 bz211 a2209 c2210 a3212 c3213 (RideM.mk exR.Start 10400 ([])) none 0 (by first | exact hlin | assumption) (by decide)) (ha_cons (has_own_n (n := exL1.Track.length) 0 rfl (by simp)) <| ha_cons (has_own_n (n := exL1.Clocks.length) 1 rfl (zip_len (by first | exact hbz | assumption))) <| ha_cons (bun_bund 2 rfl owns_rds) <| ha_cons (has_own_n (n := exL1.Beams.length) 3 rfl (by simp)) <| ha_cons (rd_nil _ _) <| ha_nil) rfl) ?_
   refine r_nil (hT214 _ _ (fun w hs => St.sel [4, 5, 6, 7, 8, 9, 10, 11, 12, 13, 14, 15, 16] rfl rfl hs) ?_)
   refine n_step [3, 6] (by kernel_rfl) (n_cons ?_ <| n_cons ?_ <| n_nil)
   rotate_left 1
   · refine n_op (rem' := [3, 4, 5, 7, 8]) rfl (by kernel_rfl) rfl fun T250 hT250 => ?_
     refine AL rfl tz34 fun b251 => ?_
     refine r_nil (hT250 _ _ (fun w hs => St.sel [5, 6, 7, 8, 9, 10, 11, 12, 13, 14, 15, 16, 17] rfl rfl hs) ?_)
     refine n_step [3] (by kernel_rfl) (n_cons ?_ <| n_nil)
     refine n_op (rem' := [4, 5, 7, 8]) rfl (by kernel_rfl) rfl fun T252 hT252 => ?_
     refine rS (MV rfl) ?_
     refine r_nil (hT252 _ _ (fun w hs => St.sel [5, 6, 7, 8, 9, 10, 11, 12, 13, 14, 15, 16, 17] rfl rfl hs) ?_)
     refine n_step [4, 5] (by kernel_rfl) (n_cons ?_ <| n_cons ?_ <| n_nil)
     rotate_left 1
     · refine n_op (rem' := [4, 7, 8]) rfl (by kernel_rfl) rfl fun T258 hT258 => ?_
       refine rS (EX rfl) ?_
       refine r_nil (hT258 _ _ (fun w hs => St.sel [5, 6, 7, 8, 9, 10, 11, 12, 13, 14, 15, 16, 17] rfl rfl hs) ?_)
       refine n_step [4] (by kernel_rfl) (n_cons ?_ <| n_nil)
       refine n_op (rem' := [7, 8]) rfl (by kernel_rfl) rfl fun T259 hT259 => ?_
       refine rS (EX rfl) ?_
       refine r_nil (hT259 _ _ (fun w hs => St.sel [5, 6, 7, 8, 9, 10, 11, 12, 13, 14, 15, 16, 17] rfl rfl hs) ?_)
       refine n_step [7] (by kernel_rfl) (n_cons ?_ <| n_nil)
       refine n_op (rem' := [8]) rfl (by kernel_rfl) rfl fun T260 hT260 => ?_
       refine SW0 rfl ts34 rfl ?_
       refine r_nil (hT260 _ _ (fun w hs => St.sel [5, 6, 7, 8, 9, 10, 11, 12, 13, 14, 15, 16, 17] rfl rfl hs) ?_)
       refine n_step [8] (by kernel_rfl) (n_cons ?_ <| n_nil)
       refine n_op (rem' := []) rfl (by kernel_rfl) rfl fun T261 hT261 => ?_
       refine rS (AG rfl) ?_
       refine r_nil (hT261 _ _ (fun w hs => St.sel [5, 6, 7, 8, 9, 10, 11, 12, 13, 14, 15, 16, 17] rfl rfl hs) ?_)
       refine n_fin ?_
       refine k_then (k_sub (Sub.cons rfl <| Sub.cons rfl <| Sub.cons rfl <| Sub.cons rfl <| Sub.cons rfl <| Sub.cons rfl <| Sub.cons rfl <| Sub.cons rfl <| Sub.cons rfl <| Sub.cons rfl <| Sub.cons rfl <| Sub.cons rfl <| Sub.cons rfl <| Sub.cons rfl <| Sub.nil _) (fun w hs => St.sel [5, 7, 8, 9, 10, 11, 12, 13, 14, 15, 16, 17] rfl rfl hs) (hK201 ()))
     refine n_op (rem' := [5, 7, 8]) rfl (by kernel_rfl) rfl fun T253 hT253 => ?_
     refine rS (EX rfl) ?_
     refine r_nil (hT253 _ _ (fun w hs => St.sel [5, 6, 7, 8, 9, 10, 11, 12, 13, 14, 15, 16, 17] rfl rfl hs) ?_)
     refine n_step [5, 7] (by kernel_rfl) (n_cons ?_ <| n_cons ?_ <| n_nil)
     rotate_left 1
     · refine n_op (rem' := [5, 8]) rfl (by kernel_rfl) rfl fun T257 hT257 => ?_
       refine SW0 rfl ts34 rfl ?_
       refine r_nil (hT257 _ _ (fun w hs => St.sel [5, 6, 7, 8, 9, 10, 11, 12, 13, 14, 15, 16, 17] rfl rfl hs) ?_)
       refine n_pure [127, 26] (by kernel_rfl) (by kernel_rfl) rfl _ rfl rfl (fun w hs => St.sel [5, 6, 7, 8, 9, 10, 11, 12, 13, 14, 15, 16, 17] rfl rfl hs) ?_
       refine dS (EX rfl) ?_
       refine dS (AG rfl) ?_
       refine d_end ?_
       refine r_nil ?_
       refine k_then (k_sub (Sub.cons rfl <| Sub.cons rfl <| Sub.cons rfl <| Sub.cons rfl <| Sub.cons rfl <| Sub.cons rfl <| Sub.cons rfl <| Sub.cons rfl <| Sub.cons rfl <| Sub.cons rfl <| Sub.cons rfl <| Sub.cons rfl <| Sub.cons rfl <| Sub.cons rfl <| Sub.nil _) (fun w hs => St.sel [5, 7, 8, 9, 10, 11, 12, 13, 14, 15, 16, 17] rfl rfl hs) (hK201 ()))
     refine n_op (rem' := [7, 8]) rfl (by kernel_rfl) rfl fun T254 hT254 => ?_
     refine rS (EX rfl) ?_
     refine r_nil (hT254 _ _ (fun w hs => St.sel [5, 6, 7, 8, 9, 10, 11, 12, 13, 14, 15, 16, 17] rfl rfl hs) ?_)
     refine n_step [7] (by kernel_rfl) (n_cons ?_ <| n_nil)
     refine n_op (rem' := [8]) rfl (by kernel_rfl) rfl fun T255 hT255 => ?_
     refine SW0 rfl ts34 rfl ?_
     refine r_nil (hT255 _ _ (fun w hs => St.sel [5, 6, 7, 8, 9, 10, 11, 12, 13, 14, 15, 16, 17] rfl rfl hs) ?_)
     refine n_step [8] (by kernel_rfl) (n_cons ?_ <| n_nil)
     refine n_op (rem' := []) rfl (by kernel_rfl) rfl fun T256 hT256 => ?_
     refine rS (AG rfl) ?_
     refine r_nil (hT256 _ _ (fun w hs => St.sel [5, 6, 7, 8, 9, 10, 11, 12, 13, 14, 15, 16, 17] rfl rfl hs) ?_)
     refine n_fin ?_
     refine k_then (k_sub (Sub.cons rfl <| Sub.cons rfl <| Sub.cons rfl <| Sub.cons rfl <| Sub.cons rfl <| Sub.cons rfl <| Sub.cons rfl <| Sub.cons rfl <| Sub.cons rfl <| Sub.cons rfl <| Sub.cons rfl <| Sub.cons rfl <| Sub.cons rfl <| Sub.cons rfl <| Sub.nil _) (fun w hs => St.sel [5, 7, 8, 9, 10, 11, 12, 13, 14, 15, 16, 17] rfl rfl hs) (hK201 ()))
   refine n_op (rem' := [4, 5, 6, 7, 8]) rfl (by kernel_rfl) rfl fun T215 hT215 => ?_
   refine rS (MV rfl) ?_
   refine r_nil (hT215 _ _ (fun w hs => St.sel [4, 5, 6, 7, 8, 9, 10, 11, 12, 13, 14, 15, 16] rfl rfl hs) ?_)
   refine n_step [4, 5, 6] (by kernel_rfl) (n_cons ?_ <| n_cons ?_ <| n_cons ?_ <| n_nil)
   rotate_left 1
   · refine n_op (rem' := [4, 6, 7, 8]) rfl (by kernel_rfl) rfl fun T228 hT228 => ?_
     refine rS (EX rfl) ?_
     refine r_nil (hT228 _ _ (fun w hs => St.sel [4, 5, 6, 7, 8, 9, 10, 11, 12, 13, 14, 15, 16] rfl rfl hs) ?_)
     refine n_step [4, 6] (by kernel_rfl) (n_cons ?_ <| n_cons ?_ <| n_nil)
     · refine n_op (rem' := [6, 7, 8]) rfl (by kernel_rfl) rfl fun T229 hT229 => ?_
       refine rS (EX rfl) ?_
       refine r_nil (hT229 _ _ (fun w hs => St.sel [4, 5, 6, 7, 8, 9, 10, 11, 12, 13, 14, 15, 16] rfl rfl hs) ?_)
       refine n_step [6] (by kernel_rfl) (n_cons ?_ <| n_nil)
       refine n_op (rem' := [7, 8]) rfl (by kernel_rfl) rfl fun T230 hT230 => ?_
       refine AL rfl tz34 fun b231 => ?_
       refine r_nil (hT230 _ _ (fun w hs => St.sel [5, 6, 7, 8, 9, 10, 11, 12, 13, 14, 15, 16, 17] rfl rfl hs) ?_)
       refine n_step [7] (by kernel_rfl) (n_cons ?_ <| n_nil)
       refine n_op (rem' := [8]) rfl (by kernel_rfl) rfl fun T232 hT232 => ?_
       refine SW0 rfl ts34 rfl ?_
       refine r_nil (hT232 _ _ (fun w hs => St.sel [5, 6, 7, 8, 9, 10, 11, 12, 13, 14, 15, 16, 17] rfl rfl hs) ?_)
       refine n_step [8] (by kernel_rfl) (n_cons ?_ <| n_nil)
       refine n_op (rem' := []) rfl (by kernel_rfl) rfl fun T233 hT233 => ?_
       refine rS (AG rfl) ?_
       refine r_nil (hT233 _ _ (fun w hs => St.sel [5, 6, 7, 8, 9, 10, 11, 12, 13, 14, 15, 16, 17] rfl rfl hs) ?_)
       refine n_fin ?_
       refine k_then (k_sub (Sub.cons rfl <| Sub.cons rfl <| Sub.cons rfl <| Sub.cons rfl <| Sub.cons rfl <| Sub.cons rfl <| Sub.cons rfl <| Sub.cons rfl <| Sub.cons rfl <| Sub.cons rfl <| Sub.cons rfl <| Sub.cons rfl <| Sub.cons rfl <| Sub.cons rfl <| Sub.nil _) (fun w hs => St.sel [5, 7, 8, 9, 10, 11, 12, 13, 14, 15, 16, 17] rfl rfl hs) (hK201 ()))
     refine n_op (rem' := [4, 7, 8]) rfl (by kernel_rfl) rfl fun T234 hT234 => ?_
     refine AL rfl tz34 fun b235 => ?_
     refine r_nil (hT234 _ _ (fun w hs => St.sel [5, 6, 7, 8, 9, 10, 11, 12, 13, 14, 15, 16, 17] rfl rfl hs) ?_)
     refine n_step [4] (by kernel_rfl) (n_cons ?_ <| n_nil)
     refine n_op (rem' := [7, 8]) rfl (by kernel_rfl) rfl fun T236 hT236 => ?_
     refine rS (EX rfl) ?_
     refine r_nil (hT236 _ _ (fun w hs => St.sel [5, 6, 7, 8, 9, 10, 11, 12, 13, 14, 15, 16, 17] rfl rfl hs) ?_)
     refine n_step [7] (by kernel_rfl) (n_cons ?_ <| n_nil)
     refine n_op (rem' := [8]) rfl (by kernel_rfl) rfl fun T237 hT237 => ?_
     refine SW0 rfl ts34 rfl ?_
     refine r_nil (hT237 _ _ (fun w hs => St.sel [5, 6, 7, 8, 9, 10, 11, 12, 13, 14, 15, 16, 17] rfl rfl hs) ?_)
     refine n_step [8] (by kernel_rfl) (n_cons ?_ <| n_nil)
     refine n_op (rem' := []) rfl (by kernel_rfl) rfl fun T238 hT238 => ?_
     refine rS (AG rfl) ?_
     refine r_nil (hT238 _ _ (fun w hs => St.sel [5, 6, 7, 8, 9, 10, 11, 12, 13, 14, 15, 16, 17] rfl rfl hs) ?_)
     refine n_fin ?_
     refine k_then (k_sub (Sub.cons rfl <| Sub.cons rfl <| Sub.cons rfl <| Sub.cons rfl <| Sub.cons rfl <| Sub.cons rfl <| Sub.cons rfl <| Sub.cons rfl <| Sub.cons rfl <| Sub.cons rfl <| Sub.cons rfl <| Sub.cons rfl <| Sub.cons rfl <| Sub.cons rfl <| Sub.nil _) (fun w hs => St.sel [5, 7, 8, 9, 10, 11, 12, 13, 14, 15, 16, 17] rfl rfl hs) (hK201 ()))
   · refine n_op (rem' := [4, 5, 7, 8]) rfl (by kernel_rfl) rfl fun T239 hT239 => ?_
     refine AL rfl tz34 fun b240 => ?_
     refine r_nil (hT239 _ _ (fun w hs => St.sel [5, 6, 7, 8, 9, 10, 11, 12, 13, 14, 15, 16, 17] rfl rfl hs) ?_)
     refine n_step [4, 5] (by kernel_rfl) (n_cons ?_ <| n_cons ?_ <| n_nil)
     rotate_left 1
     · refine n_op (rem' := [4, 7, 8]) rfl (by kernel_rfl) rfl fun T246 hT246 => ?_
       refine rS (EX rfl) ?_
       refine r_nil (hT246 _ _ (fun w hs => St.sel [5, 6, 7, 8, 9, 10, 11, 12, 13, 14, 15, 16, 17] rfl rfl hs) ?_)
       refine n_step [4] (by kernel_rfl) (n_cons ?_ <| n_nil)
       refine n_op (rem' := [7, 8]) rfl (by kernel_rfl) rfl fun T247 hT247 => ?_
       refine rS (EX rfl) ?_
       refine r_nil (hT247 _ _ (fun w hs => St.sel [5, 6, 7, 8, 9, 10, 11, 12, 13, 14, 15, 16, 17] rfl rfl hs) ?_)
       refine n_step [7] (by kernel_rfl) (n_cons ?_ <| n_nil)
       refine n_op (rem' := [8]) rfl (by kernel_rfl) rfl fun T248 hT248 => ?_
       refine SW0 rfl ts34 rfl ?_
       refine r_nil (hT248 _ _ (fun w hs => St.sel [5, 6, 7, 8, 9, 10, 11, 12, 13, 14, 15, 16, 17] rfl rfl hs) ?_)
       refine n_step [8] (by kernel_rfl) (n_cons ?_ <| n_nil)
       refine n_op (rem' := []) rfl (by kernel_rfl) rfl fun T249 hT249 => ?_
       refine rS (AG rfl) ?_
       refine r_nil (hT249 _ _ (fun w hs => St.sel [5, 6, 7, 8, 9, 10, 11, 12, 13, 14, 15, 16, 17] rfl rfl hs) ?_)
       refine n_fin ?_
       refine k_then (k_sub (Sub.cons rfl <| Sub.cons rfl <| Sub.cons rfl <| Sub.cons rfl <| Sub.cons rfl <| Sub.cons rfl <| Sub.cons rfl <| Sub.cons rfl <| Sub.cons rfl <| Sub.cons rfl <| Sub.cons rfl <| Sub.cons rfl <| Sub.cons rfl <| Sub.cons rfl <| Sub.nil _) (fun w hs => St.sel [5, 7, 8, 9, 10, 11, 12, 13, 14, 15, 16, 17] rfl rfl hs) (hK201 ()))
     refine n_op (rem' := [5, 7, 8]) rfl (by kernel_rfl) rfl fun T241 hT241 => ?_
     refine rS (EX rfl) ?_
     refine r_nil (hT241 _ _ (fun w hs => St.sel [5, 6, 7, 8, 9, 10, 11, 12, 13, 14, 15, 16, 17] rfl rfl hs) ?_)
     refine n_step [5, 7] (by kernel_rfl) (n_cons ?_ <| n_cons ?_ <| n_nil)
     rotate_left 1
     · refine n_op (rem' := [5, 8]) rfl (by kernel_rfl) rfl fun T245 hT245 => ?_
       refine SW0 rfl ts34 rfl ?_
       refine r_nil (hT245 _ _ (fun w hs => St.sel [5, 6, 7, 8, 9, 10, 11, 12, 13, 14, 15, 16, 17] rfl rfl hs) ?_)
       refine n_pure [127, 26] (by kernel_rfl) (by kernel_rfl) rfl _ rfl rfl (fun w hs => St.sel [5, 6, 7, 8, 9, 10, 11, 12, 13, 14, 15, 16, 17] rfl rfl hs) ?_
       refine dS (EX rfl) ?_
       refine dS (AG rfl) ?_
       refine d_end ?_
       refine r_nil ?_
       refine k_then (k_sub (Sub.cons rfl <| Sub.cons rfl <| Sub.cons rfl <| Sub.cons rfl <| Sub.cons rfl <| Sub.cons rfl <| Sub.cons rfl <| Sub.cons rfl <| Sub.cons rfl <| Sub.cons rfl <| Sub.cons rfl <| Sub.cons rfl <| Sub.cons rfl <| Sub.cons rfl <| Sub.nil _) (fun w hs => St.sel [5, 7, 8, 9, 10, 11, 12, 13, 14, 15, 16, 17] rfl rfl hs) (hK201 ()))
     refine n_op (rem' := [7, 8]) rfl (by kernel_rfl) rfl fun T242 hT242 => ?_
     refine rS (EX rfl) ?_
     refine r_nil (hT242 _ _ (fun w hs => St.sel [5, 6, 7, 8, 9, 10, 11, 12, 13, 14, 15, 16, 17] rfl rfl hs) ?_)
     refine n_step [7] (by kernel_rfl) (n_cons ?_ <| n_nil)
     refine n_op (rem' := [8]) rfl (by kernel_rfl) rfl fun T243 hT243 => ?_
     refine SW0 rfl ts34 rfl ?_
     refine r_nil (hT243 _ _ (fun w hs => St.sel [5, 6, 7, 8, 9, 10, 11, 12, 13, 14, 15, 16, 17] rfl rfl hs) ?_)
     refine n_step [8] (by kernel_rfl) (n_cons ?_ <| n_nil)
     refine n_op (rem' := []) rfl (by kernel_rfl) rfl fun T244 hT244 => ?_
     refine rS (AG rfl) ?_
     refine r_nil (hT244 _ _ (fun w hs => St.sel [5, 6, 7, 8, 9, 10, 11, 12, 13, 14, 15, 16, 17] rfl rfl hs) ?_)
     refine n_fin ?_
     refine k_then (k_sub (Sub.cons rfl <| Sub.cons rfl <| Sub.cons rfl <| Sub.cons rfl <| Sub.cons rfl <| Sub.cons rfl <| Sub.cons rfl <| Sub.cons rfl <| Sub.cons rfl <| Sub.cons rfl <| Sub.cons rfl <| Sub.cons rfl <| Sub.cons rfl <| Sub.cons rfl <| Sub.nil _) (fun w hs => St.sel [5, 7, 8, 9, 10, 11, 12, 13, 14, 15, 16, 17] rfl rfl hs) (hK201 ()))
   refine n_op (rem' := [5, 6, 7, 8]) rfl (by kernel_rfl) rfl fun T216 hT216 => ?_
   refine rS (EX rfl) ?_
   refine r_nil (hT216 _ _ (fun w hs => St.sel [4, 5, 6, 7, 8, 9, 10, 11, 12, 13, 14, 15, 16] rfl rfl hs) ?_)
   refine n_step [5, 6] (by kernel_rfl) (n_cons ?_ <| n_cons ?_ <| n_nil)
   · refine n_op (rem' := [6, 7, 8]) rfl (by kernel_rfl) rfl fun T217 hT217 => ?_
     refine rS (EX rfl) ?_
     refine r_nil (hT217 _ _ (fun w hs => St.sel [4, 5, 6, 7, 8, 9, 10, 11, 12, 13, 14, 15, 16] rfl rfl hs) ?_)
     refine n_step [6] (by kernel_rfl) (n_cons ?_ <| n_nil)
     refine n_op (rem' := [7, 8]) rfl (by kernel_rfl) rfl fun T218 hT218 => ?_
     refine AL rfl tz34 fun b219 => ?_
     refine r_nil (hT218 _ _ (fun w hs => St.sel [5, 6, 7, 8, 9, 10, 11, 12, 13, 14, 15, 16, 17] rfl rfl hs) ?_)
     refine n_step [7] (by kernel_rfl) (n_cons ?_ <| n_nil)
     refine n_op (rem' := [8]) rfl (by kernel_rfl) rfl fun T220 hT220 => ?_
     refine SW0 rfl ts34 rfl ?_
     refine r_nil (hT220 _ _ (fun w hs => St.sel [5, 6, 7, 8, 9, 10, 11, 12, 13, 14, 15, 16, 17] rfl rfl hs) ?_)
     refine n_step [8] (by kernel_rfl) (n_cons ?_ <| n_nil)
     refine n_op (rem' := []) rfl (by kernel_rfl) rfl fun T221 hT221 => ?_
     refine rS (AG rfl) ?_
     refine r_nil (hT221 _ _ (fun w hs => St.sel [5, 6, 7, 8, 9, 10, 11, 12, 13, 14, 15, 16, 17] rfl rfl hs) ?_)
     refine n_fin ?_
     refine k_then (k_sub (Sub.cons rfl <| Sub.cons rfl <| Sub.cons rfl <| Sub.cons rfl <| Sub.cons rfl <| Sub.cons rfl <| Sub.cons rfl <| Sub.cons rfl <| Sub.cons rfl <| Sub.cons rfl <| Sub.cons rfl <| Sub.cons rfl <| Sub.cons rfl <| Sub.cons rfl <| Sub.nil _) (fun w hs => St.sel [5, 7, 8, 9, 10, 11, 12, 13, 14, 15, 16, 17] rfl rfl hs) (hK201 ()))
   refine n_op (rem' := [5, 7, 8]) rfl (by kernel_rfl) rfl fun T222 hT222 => ?_
   refine AL rfl tz34 fun b223 => ?_
   refine r_nil (hT222 _ _ (fun w hs => St.sel [5, 6, 7, 8, 9, 10, 11, 12, 13, 14, 15, 16, 17] rfl rfl hs) ?_)
   refine n_step [5, 7] (by kernel_rfl) (n_cons ?_ <| n_cons ?_ <| n_nil)
   rotate_left 1
   · refine n_op (rem' := [5, 8]) rfl (by kernel_rfl) rfl fun T227 hT227 => ?_
     refine SW0 rfl ts34 rfl ?_
     refine r_nil (hT227 _ _ (fun w hs => St.sel [5, 6, 7, 8, 9, 10, 11, 12, 13, 14, 15, 16, 17] rfl rfl hs) ?_)
     refine n_pure [127, 26] (by kernel_rfl) (by kernel_rfl) rfl _ rfl rfl (fun w hs => St.sel [5, 6, 7, 8, 9, 10, 11, 12, 13, 14, 15, 16, 17] rfl rfl hs) ?_
     refine dS (EX rfl) ?_
     refine dS (AG rfl) ?_
     refine d_end ?_
     refine r_nil ?_
     refine k_then (k_sub (Sub.cons rfl <| Sub.cons rfl <| Sub.cons rfl <| Sub.cons rfl <| Sub.cons rfl <| Sub.cons rfl <| Sub.cons rfl <| Sub.cons rfl <| Sub.cons rfl <| Sub.cons rfl <| Sub.cons rfl <| Sub.cons rfl <| Sub.cons rfl <| Sub.cons rfl <| Sub.nil _) (fun w hs => St.sel [5, 7, 8, 9, 10, 11, 12, 13, 14, 15, 16, 17] rfl rfl hs) (hK201 ()))
   refine n_op (rem' := [7, 8]) rfl (by kernel_rfl) rfl fun T224 hT224 => ?_
   refine rS (EX rfl) ?_
   refine r_nil (hT224 _ _ (fun w hs => St.sel [5, 6, 7, 8, 9, 10, 11, 12, 13, 14, 15, 16, 17] rfl rfl hs) ?_)
   refine n_step [7] (by kernel_rfl) (n_cons ?_ <| n_nil)
   refine n_op (rem' := [8]) rfl (by kernel_rfl) rfl fun T225 hT225 => ?_
   refine SW0 rfl ts34 rfl ?_
   refine r_nil (hT225 _ _ (fun w hs => St.sel [5, 6, 7, 8, 9, 10, 11, 12, 13, 14, 15, 16, 17] rfl rfl hs) ?_)
   refine n_step [8] (by kernel_rfl) (n_cons ?_ <| n_nil)
   refine n_op (rem' := []) rfl (by kernel_rfl) rfl fun T226 hT226 => ?_
   refine rS (AG rfl) ?_
   refine r_nil (hT226 _ _ (fun w hs => St.sel [5, 6, 7, 8, 9, 10, 11, 12, 13, 14, 15, 16, 17] rfl rfl hs) ?_)
   refine n_fin ?_
   refine k_then (k_sub (Sub.cons rfl <| Sub.cons rfl <| Sub.cons rfl <| Sub.cons rfl <| Sub.cons rfl <| Sub.cons rfl <| Sub.cons rfl <| Sub.cons rfl <| Sub.cons rfl <| Sub.cons rfl <| Sub.cons rfl <| Sub.cons rfl <| Sub.cons rfl <| Sub.cons rfl <| Sub.nil _) (fun w hs => St.sel [5, 7, 8, 9, 10, 11, 12, 13, 14, 15, 16, 17] rfl rfl hs) (hK201 ()))
 refine w_drawN mixed [1] [0, 2, 3, 4, 5, 6, 7, 8] [false] [] [(blk b119 28 (LineV.cells (LineV.mk (TrackV.mk (Slc.mk none 0 0)) exL1.Fast (Slc.mk a2112 exL1.Clocks.length c2113) (Slc.mk a3115 exL1.Beams.length c3116) exL1.Finish exL1.Fakes exL1.Misses))), (blk b118 28 (LineV.cells (LineV.mk (TrackV.mk (Slc.mk a1101 exL1.Track.length c1102)) exL1.Fast (Slc.mk a2103 exL1.Clocks.length c2104) (Slc.mk a3106 exL1.Beams.length c3107) exL1.Finish exL1.Fakes exL1.Misses))), (blk b117 69 (RideV.cells (RideV.mk exR.Start 9999 (Slc.mk a97 exR.Signals.length c98)))), (own a2112 c2113 64 2 (List.zipWith ClockM.cells exL1.Clocks bz114)), (bund (nest ClockM.owns exL1.Clocks bz114)), (own a3115 c3116 55 4 (exL1.Beams.map BeamV.cells)), (own a1101 c1102 126 9 (exL1.Track.map StretchV.cells)), (own a2103 c2104 64 2 (List.zipWith ClockM.cells exL1.Clocks bz105)), (bund (nest ClockM.owns exL1.Clocks bz105)), (own a3106 c3107 55 4 (List.map BeamV.cells exLF.Beams)), (own a97 c98 30 2 (exR.Signals.map SignalV.cells)), (own a92 c93 3 1 ((missedV exL1 exR).map iC)), (own a74 c75 3 1 ((falseV exL1 exR).map iC))] [] (by kernel_rfl) (fun w hs => St.sel [0, 1, 2, 3, 4, 5, 6, 7, 8, 9, 10, 11, 12] rfl rfl hs) (fun w hs => St.sel [] rfl rfl hs) ?_
 refine eS rfl (LW 2 rfl tk69 rfl rfl) ?_
 refine d_fin rfl ?_
 refine n_step [0, 6] (by kernel_rfl) (n_cons ?_ <| n_cons ?_ <| n_nil)
 rotate_left 1
 · refine n_op (rem' := [0, 2, 3, 4, 5, 7, 8]) rfl (by kernel_rfl) rfl fun T369 hT369 => ?_
   refine AL rfl tz34 fun b370 => ?_
   refine r_nil (hT369 _ _ (fun w hs => St.sel [1, 2, 3, 4, 5, 6, 7, 8, 9, 10, 11, 12, 13] rfl rfl hs) ?_)
   refine n_step [0] (by kernel_rfl) (n_cons ?_ <| n_nil)
   refine n_op (rem' := [2, 3, 4, 5, 7, 8]) rfl (by kernel_rfl) rfl fun T371 hT371 => ?_
   refine cX line1_c (ha_nil) rfl fun y372 hy373 => ?_
   obtain ⟨a1374, c1375, a2376, c2377, bz378, a3379, c3380⟩ := y372
   try dsimp only
   obtain ⟨hbz, hlin⟩ := hy373
   refine r_nil (hT371 _ _ (fun w hs => St.sel [5, 6, 7, 8, 9, 10, 11, 12, 13, 14, 15, 16, 17] rfl rfl hs) ?_)
   refine n_step [2] (by kernel_rfl) (n_cons ?_ <| n_nil)
   refine n_op (rem' := [3, 4, 5, 7, 8]) rfl (by kernel_rfl) rfl fun T381 hT381 => ?_
   refine rS (CL (Passed_c exL1 a1374 c1375 bz378 a2376 c2377 a3379 c3380 (RideM.mk exR.Start 9999 exR.Signals) a97 c98 3 (by first | exact hlin | assumption) (by decide)) (ha_cons (has_own_n (n := exL1.Track.length) 0 rfl (by simp)) <| ha_cons (has_own_n (n := exL1.Clocks.length) 1 rfl (zip_len (by first | exact hbz | assumption))) <| ha_cons (bun_bund 2 rfl owns_rds) <| ha_cons (has_own_n (n := exL1.Beams.length) 3 rfl (by simp)) <| ha_cons (has_own_n (n := exR.Signals.length) 15 rfl (by simp)) <| ha_nil) rfl) ?_
   refine r_nil (hT381 _ _ (fun w hs => St.sel [5, 6, 7, 8, 9, 10, 11, 12, 13, 14, 15, 16, 17] rfl rfl hs) ?_)
   refine n_step [3] (by kernel_rfl) (n_cons ?_ <| n_nil)
   refine n_op (rem' := [4, 5, 7, 8]) rfl (by kernel_rfl) rfl fun T382 hT382 => ?_
   refine rS (MV rfl) ?_
   refine r_nil (hT382 _ _ (fun w hs => St.sel [5, 6, 7, 8, 9, 10, 11, 12, 13, 14, 15, 16, 17] rfl rfl hs) ?_)
   refine n_step [4, 5] (by kernel_rfl) (n_cons ?_ <| n_cons ?_ <| n_nil)
   rotate_left 1
   · refine n_op (rem' := [4, 7, 8]) rfl (by kernel_rfl) rfl fun T388 hT388 => ?_
     refine rS (EX rfl) ?_
     refine r_nil (hT388 _ _ (fun w hs => St.sel [5, 6, 7, 8, 9, 10, 11, 12, 13, 14, 15, 16, 17] rfl rfl hs) ?_)
     refine n_step [4] (by kernel_rfl) (n_cons ?_ <| n_nil)
     refine n_op (rem' := [7, 8]) rfl (by kernel_rfl) rfl fun T389 hT389 => ?_
     refine rS (EX rfl) ?_
     refine r_nil (hT389 _ _ (fun w hs => St.sel [5, 6, 7, 8, 9, 10, 11, 12, 13, 14, 15, 16, 17] rfl rfl hs) ?_)
     refine n_step [7] (by kernel_rfl) (n_cons ?_ <| n_nil)
     refine n_op (rem' := [8]) rfl (by kernel_rfl) rfl fun T390 hT390 => ?_
     refine SW4 rfl ts34 rfl ?_
     refine r_nil (hT390 _ _ (fun w hs => St.sel [5, 6, 7, 8, 9, 10, 11, 12, 13, 14, 15, 16, 17] rfl rfl hs) ?_)
     refine n_step [8] (by kernel_rfl) (n_cons ?_ <| n_nil)
     refine n_op (rem' := []) rfl (by kernel_rfl) rfl fun T391 hT391 => ?_
     refine rS (AG rfl) ?_
     refine r_nil (hT391 _ _ (fun w hs => St.sel [5, 6, 7, 8, 9, 10, 11, 12, 13, 14, 15, 16, 17] rfl rfl hs) ?_)
     refine n_fin ?_
     refine k_then (k_sub (Sub.cons rfl <| Sub.cons rfl <| Sub.cons rfl <| Sub.cons rfl <| Sub.cons rfl <| Sub.cons rfl <| Sub.cons rfl <| Sub.cons rfl <| Sub.cons rfl <| Sub.nil _) (fun w hs => St.sel [5, 6, 8, 9, 10, 11, 12, 13, 14, 15, 16, 17] rfl rfl hs) (hK155 ()))
   refine n_op (rem' := [5, 7, 8]) rfl (by kernel_rfl) rfl fun T383 hT383 => ?_
   refine rS (EX rfl) ?_
   refine r_nil (hT383 _ _ (fun w hs => St.sel [5, 6, 7, 8, 9, 10, 11, 12, 13, 14, 15, 16, 17] rfl rfl hs) ?_)
   refine n_step [5, 7] (by kernel_rfl) (n_cons ?_ <| n_cons ?_ <| n_nil)
   rotate_left 1
   · refine n_op (rem' := [5, 8]) rfl (by kernel_rfl) rfl fun T387 hT387 => ?_
     refine SW4 rfl ts34 rfl ?_
     refine r_nil (hT387 _ _ (fun w hs => St.sel [5, 6, 7, 8, 9, 10, 11, 12, 13, 14, 15, 16, 17] rfl rfl hs) ?_)
     refine n_pure [101, 17] (by kernel_rfl) (by kernel_rfl) rfl _ rfl rfl (fun w hs => St.sel [5, 6, 7, 8, 9, 10, 11, 12, 13, 14, 15, 16, 17] rfl rfl hs) ?_
     refine dS (EX rfl) ?_
     refine dS (AG rfl) ?_
     refine d_end ?_
     refine r_nil ?_
     refine k_then (k_sub (Sub.cons rfl <| Sub.cons rfl <| Sub.cons rfl <| Sub.cons rfl <| Sub.cons rfl <| Sub.cons rfl <| Sub.cons rfl <| Sub.cons rfl <| Sub.cons rfl <| Sub.nil _) (fun w hs => St.sel [5, 6, 8, 9, 10, 11, 12, 13, 14, 15, 16, 17] rfl rfl hs) (hK155 ()))
   refine n_op (rem' := [7, 8]) rfl (by kernel_rfl) rfl fun T384 hT384 => ?_
   refine rS (EX rfl) ?_
   refine r_nil (hT384 _ _ (fun w hs => St.sel [5, 6, 7, 8, 9, 10, 11, 12, 13, 14, 15, 16, 17] rfl rfl hs) ?_)
   refine n_step [7] (by kernel_rfl) (n_cons ?_ <| n_nil)
   refine n_op (rem' := [8]) rfl (by kernel_rfl) rfl fun T385 hT385 => ?_
   refine SW4 rfl ts34 rfl ?_
   refine r_nil (hT385 _ _ (fun w hs => St.sel [5, 6, 7, 8, 9, 10, 11, 12, 13, 14, 15, 16, 17] rfl rfl hs) ?_)
   refine n_step [8] (by kernel_rfl) (n_cons ?_ <| n_nil)
   refine n_op (rem' := []) rfl (by kernel_rfl) rfl fun T386 hT386 => ?_
   refine rS (AG rfl) ?_
   refine r_nil (hT386 _ _ (fun w hs => St.sel [5, 6, 7, 8, 9, 10, 11, 12, 13, 14, 15, 16, 17] rfl rfl hs) ?_)
   refine n_fin ?_
   refine k_then (k_sub (Sub.cons rfl <| Sub.cons rfl <| Sub.cons rfl <| Sub.cons rfl <| Sub.cons rfl <| Sub.cons rfl <| Sub.cons rfl <| Sub.cons rfl <| Sub.cons rfl <| Sub.nil _) (fun w hs => St.sel [5, 6, 8, 9, 10, 11, 12, 13, 14, 15, 16, 17] rfl rfl hs) (hK155 ()))
 refine n_op (rem' := [2, 3, 4, 5, 6, 7, 8]) rfl (by kernel_rfl) rfl fun T298 hT298 => ?_
 refine cX line1_c (ha_nil) rfl fun y299 hy300 => ?_
 obtain ⟨a1301, c1302, a2303, c2304, bz305, a3306, c3307⟩ := y299
 try dsimp only
 obtain ⟨hbz, hlin⟩ := hy300
 refine r_nil (hT298 _ _ (fun w hs => St.sel [4, 5, 6, 7, 8, 9, 10, 11, 12, 13, 14, 15, 16] rfl rfl hs) ?_)
 refine n_step [2, 6] (by kernel_rfl) (n_cons ?_ <| n_cons ?_ <| n_nil)
 rotate_left 1
 · refine n_op (rem' := [2, 3, 4, 5, 7, 8]) rfl (by kernel_rfl) rfl fun T356 hT356 => ?_
   refine AL rfl tz34 fun b357 => ?_
   refine r_nil (hT356 _ _ (fun w hs => St.sel [5, 6, 7, 8, 9, 10, 11, 12, 13, 14, 15, 16, 17] rfl rfl hs) ?_)
   refine n_step [2] (by kernel_rfl) (n_cons ?_ <| n_nil)
   refine n_op (rem' := [3, 4, 5, 7, 8]) rfl (by kernel_rfl) rfl fun T358 hT358 => ?_
   refine rS (CL (Passed_c exL1 a1301 c1302 bz305 a2303 c2304 a3306 c3307 (RideM.mk exR.Start 9999 exR.Signals) a97 c98 3 (by first | exact hlin | assumption) (by decide)) (ha_cons (has_own_n (n := exL1.Track.length) 1 rfl (by simp)) <| ha_cons (has_own_n (n := exL1.Clocks.length) 2 rfl (zip_len (by first | exact hbz | assumption))) <| ha_cons (bun_bund 3 rfl owns_rds) <| ha_cons (has_own_n (n := exL1.Beams.length) 4 rfl (by simp)) <| ha_cons (has_own_n (n := exR.Signals.length) 15 rfl (by simp)) <| ha_nil) rfl) ?_
   refine r_nil (hT358 _ _ (fun w hs => St.sel [5, 6, 7, 8, 9, 10, 11, 12, 13, 14, 15, 16, 17] rfl rfl hs) ?_)
   refine n_step [3] (by kernel_rfl) (n_cons ?_ <| n_nil)
   refine n_op (rem' := [4, 5, 7, 8]) rfl (by kernel_rfl) rfl fun T359 hT359 => ?_
   refine rS (MV rfl) ?_
   refine r_nil (hT359 _ _ (fun w hs => St.sel [5, 6, 7, 8, 9, 10, 11, 12, 13, 14, 15, 16, 17] rfl rfl hs) ?_)
   refine n_step [4, 5] (by kernel_rfl) (n_cons ?_ <| n_cons ?_ <| n_nil)
   rotate_left 1
   · refine n_op (rem' := [4, 7, 8]) rfl (by kernel_rfl) rfl fun T365 hT365 => ?_
     refine rS (EX rfl) ?_
     refine r_nil (hT365 _ _ (fun w hs => St.sel [5, 6, 7, 8, 9, 10, 11, 12, 13, 14, 15, 16, 17] rfl rfl hs) ?_)
     refine n_step [4] (by kernel_rfl) (n_cons ?_ <| n_nil)
     refine n_op (rem' := [7, 8]) rfl (by kernel_rfl) rfl fun T366 hT366 => ?_
     refine rS (EX rfl) ?_
     refine r_nil (hT366 _ _ (fun w hs => St.sel [5, 6, 7, 8, 9, 10, 11, 12, 13, 14, 15, 16, 17] rfl rfl hs) ?_)
     refine n_step [7] (by kernel_rfl) (n_cons ?_ <| n_nil)
     refine n_op (rem' := [8]) rfl (by kernel_rfl) rfl fun T367 hT367 => ?_
     refine SW0 rfl ts34 rfl ?_
     refine r_nil (hT367 _ _ (fun w hs => St.sel [5, 6, 7, 8, 9, 10, 11, 12, 13, 14, 15, 16, 17] rfl rfl hs) ?_)
     refine n_step [8] (by kernel_rfl) (n_cons ?_ <| n_nil)
     refine n_op (rem' := []) rfl (by kernel_rfl) rfl fun T368 hT368 => ?_
     refine rS (AG rfl) ?_
     refine r_nil (hT368 _ _ (fun w hs => St.sel [5, 6, 7, 8, 9, 10, 11, 12, 13, 14, 15, 16, 17] rfl rfl hs) ?_)
     refine n_fin ?_
     refine k_then (k_sub (Sub.cons rfl <| Sub.cons rfl <| Sub.cons rfl <| Sub.cons rfl <| Sub.cons rfl <| Sub.cons rfl <| Sub.cons rfl <| Sub.cons rfl <| Sub.cons rfl <| Sub.nil _) (fun w hs => St.sel [5, 6, 8, 9, 10, 11, 12, 13, 14, 15, 16, 17] rfl rfl hs) (hK155 ()))
   refine n_op (rem' := [5, 7, 8]) rfl (by kernel_rfl) rfl fun T360 hT360 => ?_
   refine rS (EX rfl) ?_
   refine r_nil (hT360 _ _ (fun w hs => St.sel [5, 6, 7, 8, 9, 10, 11, 12, 13, 14, 15, 16, 17] rfl rfl hs) ?_)
   refine n_step [5, 7] (by kernel_rfl) (n_cons ?_ <| n_cons ?_ <| n_nil)
   rotate_left 1
   · refine n_op (rem' := [5, 8]) rfl (by kernel_rfl) rfl fun T364 hT364 => ?_
     refine SW0 rfl ts34 rfl ?_
     refine r_nil (hT364 _ _ (fun w hs => St.sel [5, 6, 7, 8, 9, 10, 11, 12, 13, 14, 15, 16, 17] rfl rfl hs) ?_)
     refine n_pure [101, 17] (by kernel_rfl) (by kernel_rfl) rfl _ rfl rfl (fun w hs => St.sel [5, 6, 7, 8, 9, 10, 11, 12, 13, 14, 15, 16, 17] rfl rfl hs) ?_
     refine dS (EX rfl) ?_
     refine dS (AG rfl) ?_
     refine d_end ?_
     refine r_nil ?_
     refine k_then (k_sub (Sub.cons rfl <| Sub.cons rfl <| Sub.cons rfl <| Sub.cons rfl <| Sub.cons rfl <| Sub.cons rfl <| Sub.cons rfl <| Sub.cons rfl <| Sub.cons rfl <| Sub.nil _) (fun w hs => St.sel [5, 6, 8, 9, 10, 11, 12, 13, 14, 15, 16, 17] rfl rfl hs) (hK155 ()))
   refine n_op (rem' := [7, 8]) rfl (by kernel_rfl) rfl fun T361 hT361 => ?_
   refine rS (EX rfl) ?_
   refine r_nil (hT361 _ _ (fun w hs => St.sel [5, 6, 7, 8, 9, 10, 11, 12, 13, 14, 15, 16, 17] rfl rfl hs) ?_)
   refine n_step [7] (by kernel_rfl) (n_cons ?_ <| n_nil)
   refine n_op (rem' := [8]) rfl (by kernel_rfl) rfl fun T362 hT362 => ?_
   refine SW0 rfl ts34 rfl ?_
   refine r_nil (hT362 _ _ (fun w hs => St.sel [5, 6, 7, 8, 9, 10, 11, 12, 13, 14, 15, 16, 17] rfl rfl hs) ?_)
   refine n_step [8] (by kernel_rfl) (n_cons ?_ <| n_nil)
   refine n_op (rem' := []) rfl (by kernel_rfl) rfl fun T363 hT363 => ?_
   refine rS (AG rfl) ?_
   refine r_nil (hT363 _ _ (fun w hs => St.sel [5, 6, 7, 8, 9, 10, 11, 12, 13, 14, 15, 16, 17] rfl rfl hs) ?_)
   refine n_fin ?_
   refine k_then (k_sub (Sub.cons rfl <| Sub.cons rfl <| Sub.cons rfl <| Sub.cons rfl <| Sub.cons rfl <| Sub.cons rfl <| Sub.cons rfl <| Sub.cons rfl <| Sub.cons rfl <| Sub.nil _) (fun w hs => St.sel [5, 6, 8, 9, 10, 11, 12, 13, 14, 15, 16, 17] rfl rfl hs) (hK155 ()))
 refine n_op (rem' := [3, 4, 5, 6, 7, 8]) rfl (by kernel_rfl) rfl fun T308 hT308 => ?_
 refine rS (CL (Passed_c exL1 a1301 c1302 bz305 a2303 c2304 a3306 c3307 (RideM.mk exR.Start 9999 exR.Signals) a97 c98 3 (by first | exact hlin | assumption) (by decide)) (ha_cons (has_own_n (n := exL1.Track.length) 0 rfl (by simp)) <| ha_cons (has_own_n (n := exL1.Clocks.length) 1 rfl (zip_len (by first | exact hbz | assumption))) <| ha_cons (bun_bund 2 rfl owns_rds) <| ha_cons (has_own_n (n := exL1.Beams.length) 3 rfl (by simp)) <| ha_cons (has_own_n (n := exR.Signals.length) 14 rfl (by simp)) <| ha_nil) rfl) ?_
 refine r_nil (hT308 _ _ (fun w hs => St.sel [4, 5, 6, 7, 8, 9, 10, 11, 12, 13, 14, 15, 16] rfl rfl hs) ?_)
 refine n_step [3, 6] (by kernel_rfl) (n_cons ?_ <| n_cons ?_ <| n_nil)
 rotate_left 1
 · refine n_op (rem' := [3, 4, 5, 7, 8]) rfl (by kernel_rfl) rfl fun T344 hT344 => ?_
   refine AL rfl tz34 fun b345 => ?_
   refine r_nil (hT344 _ _ (fun w hs => St.sel [5, 6, 7, 8, 9, 10, 11, 12, 13, 14, 15, 16, 17] rfl rfl hs) ?_)
   refine n_step [3] (by kernel_rfl) (n_cons ?_ <| n_nil)
   refine n_op (rem' := [4, 5, 7, 8]) rfl (by kernel_rfl) rfl fun T346 hT346 => ?_
   refine rS (MV rfl) ?_
   refine r_nil (hT346 _ _ (fun w hs => St.sel [5, 6, 7, 8, 9, 10, 11, 12, 13, 14, 15, 16, 17] rfl rfl hs) ?_)
   refine n_step [4, 5] (by kernel_rfl) (n_cons ?_ <| n_cons ?_ <| n_nil)
   rotate_left 1
   · refine n_op (rem' := [4, 7, 8]) rfl (by kernel_rfl) rfl fun T352 hT352 => ?_
     refine rS (EX rfl) ?_
     refine r_nil (hT352 _ _ (fun w hs => St.sel [5, 6, 7, 8, 9, 10, 11, 12, 13, 14, 15, 16, 17] rfl rfl hs) ?_)
     refine n_step [4] (by kernel_rfl) (n_cons ?_ <| n_nil)
     refine n_op (rem' := [7, 8]) rfl (by kernel_rfl) rfl fun T353 hT353 => ?_
     refine rS (EX rfl) ?_
     refine r_nil (hT353 _ _ (fun w hs => St.sel [5, 6, 7, 8, 9, 10, 11, 12, 13, 14, 15, 16, 17] rfl rfl hs) ?_)
     refine n_step [7] (by kernel_rfl) (n_cons ?_ <| n_nil)
     refine n_op (rem' := [8]) rfl (by kernel_rfl) rfl fun T354 hT354 => ?_
     refine SW0 rfl ts34 rfl ?_
     refine r_nil (hT354 _ _ (fun w hs => St.sel [5, 6, 7, 8, 9, 10, 11, 12, 13, 14, 15, 16, 17] rfl rfl hs) ?_)
     refine n_step [8] (by kernel_rfl) (n_cons ?_ <| n_nil)
     refine n_op (rem' := []) rfl (by kernel_rfl) rfl fun T355 hT355 => ?_
     refine rS (AG rfl) ?_
     refine r_nil (hT355 _ _ (fun w hs => St.sel [5, 6, 7, 8, 9, 10, 11, 12, 13, 14, 15, 16, 17] rfl rfl hs) ?_)
     refine n_fin ?_
     refine k_then (k_sub (Sub.cons rfl <| Sub.cons rfl <| Sub.cons rfl <| Sub.cons rfl <| Sub.cons rfl <| Sub.cons rfl <| Sub.cons rfl <| Sub.cons rfl <| Sub.cons rfl <| Sub.nil _) (fun w hs => St.sel [5, 6, 8, 9, 10, 11, 12, 13, 14, 15, 16, 17] rfl rfl hs) (hK155 ()))
   refine n_op (rem' := [5, 7, 8]) rfl (by kernel_rfl) rfl fun T347 hT347 => ?_
   refine rS (EX rfl) ?_
   refine r_nil (hT347 _ _ (fun w hs => St.sel [5, 6, 7, 8, 9, 10, 11, 12, 13, 14, 15, 16, 17] rfl rfl hs) ?_)
   refine n_step [5, 7] (by kernel_rfl) (n_cons ?_ <| n_cons ?_ <| n_nil)
   rotate_left 1
   · refine n_op (rem' := [5, 8]) rfl (by kernel_rfl) rfl fun T351 hT351 => ?_
     refine SW0 rfl ts34 rfl ?_
     refine r_nil (hT351 _ _ (fun w hs => St.sel [5, 6, 7, 8, 9, 10, 11, 12, 13, 14, 15, 16, 17] rfl rfl hs) ?_)
     refine n_pure [101, 17] (by kernel_rfl) (by kernel_rfl) rfl _ rfl rfl (fun w hs => St.sel [5, 6, 7, 8, 9, 10, 11, 12, 13, 14, 15, 16, 17] rfl rfl hs) ?_
     refine dS (EX rfl) ?_
     refine dS (AG rfl) ?_
     refine d_end ?_
     refine r_nil ?_
     refine k_then (k_sub (Sub.cons rfl <| Sub.cons rfl <| Sub.cons rfl <| Sub.cons rfl <| Sub.cons rfl <| Sub.cons rfl <| Sub.cons rfl <| Sub.cons rfl <| Sub.cons rfl <| Sub.nil _) (fun w hs => St.sel [5, 6, 8, 9, 10, 11, 12, 13, 14, 15, 16, 17] rfl rfl hs) (hK155 ()))
   refine n_op (rem' := [7, 8]) rfl (by kernel_rfl) rfl fun T348 hT348 => ?_
   refine rS (EX rfl) ?_
   refine r_nil (hT348 _ _ (fun w hs => St.sel [5, 6, 7, 8, 9, 10, 11, 12, 13, 14, 15, 16, 17] rfl rfl hs) ?_)
   refine n_step [7] (by kernel_rfl) (n_cons ?_ <| n_nil)
   refine n_op (rem' := [8]) rfl (by kernel_rfl) rfl fun T349 hT349 => ?_
   refine SW0 rfl ts34 rfl ?_
   refine r_nil (hT349 _ _ (fun w hs => St.sel [5, 6, 7, 8, 9, 10, 11, 12, 13, 14, 15, 16, 17] rfl rfl hs) ?_)
   refine n_step [8] (by kernel_rfl) (n_cons ?_ <| n_nil)
   refine n_op (rem' := []) rfl (by kernel_rfl) rfl fun T350 hT350 => ?_
   refine rS (AG rfl) ?_
   refine r_nil (hT350 _ _ (fun w hs => St.sel [5, 6, 7, 8, 9, 10, 11, 12, 13, 14, 15, 16, 17] rfl rfl hs) ?_)
   refine n_fin ?_
   refine k_then (k_sub (Sub.cons rfl <| Sub.cons rfl <| Sub.cons rfl <| Sub.cons rfl <| Sub.cons rfl <| Sub.cons rfl <| Sub.cons rfl <| Sub.cons rfl <| Sub.cons rfl <| Sub.nil _) (fun w hs => St.sel [5, 6, 8, 9, 10, 11, 12, 13, 14, 15, 16, 17] rfl rfl hs) (hK155 ()))
 refine n_op (rem' := [4, 5, 6, 7, 8]) rfl (by kernel_rfl) rfl fun T309 hT309 => ?_
 refine rS (MV rfl) ?_
 refine r_nil (hT309 _ _ (fun w hs => St.sel [4, 5, 6, 7, 8, 9, 10, 11, 12, 13, 14, 15, 16] rfl rfl hs) ?_)
 refine n_step [4, 5, 6] (by kernel_rfl) (n_cons ?_ <| n_cons ?_ <| n_cons ?_ <| n_nil)
 rotate_left 1
 · refine n_op (rem' := [4, 6, 7, 8]) rfl (by kernel_rfl) rfl fun T322 hT322 => ?_
   refine rS (EX rfl) ?_
   refine r_nil (hT322 _ _ (fun w hs => St.sel [4, 5, 6, 7, 8, 9, 10, 11, 12, 13, 14, 15, 16] rfl rfl hs) ?_)
   refine n_step [4, 6] (by kernel_rfl) (n_cons ?_ <| n_cons ?_ <| n_nil)
   · refine n_op (rem' := [6, 7, 8]) rfl (by kernel_rfl) rfl fun T323 hT323 => ?_
     refine rS (EX rfl) ?_
     refine r_nil (hT323 _ _ (fun w hs => St.sel [4, 5, 6, 7, 8, 9, 10, 11, 12, 13, 14, 15, 16] rfl rfl hs) ?_)
     refine n_step [6] (by kernel_rfl) (n_cons ?_ <| n_nil)
     refine n_op (rem' := [7, 8]) rfl (by kernel_rfl) rfl fun T324 hT324 => ?_
     refine AL rfl tz34 fun b325 => ?_
     refine r_nil (hT324 _ _ (fun w hs => St.sel [5, 6, 7, 8, 9, 10, 11, 12, 13, 14, 15, 16, 17] rfl rfl hs) ?_)
     refine n_step [7] (by kernel_rfl) (n_cons ?_ <| n_nil)
     refine n_op (rem' := [8]) rfl (by kernel_rfl) rfl fun T326 hT326 => ?_
     refine SW0 rfl ts34 rfl ?_
     refine r_nil (hT326 _ _ (fun w hs => St.sel [5, 6, 7, 8, 9, 10, 11, 12, 13, 14, 15, 16, 17] rfl rfl hs) ?_)
     refine n_step [8] (by kernel_rfl) (n_cons ?_ <| n_nil)
     refine n_op (rem' := []) rfl (by kernel_rfl) rfl fun T327 hT327 => ?_
     refine rS (AG rfl) ?_
     refine r_nil (hT327 _ _ (fun w hs => St.sel [5, 6, 7, 8, 9, 10, 11, 12, 13, 14, 15, 16, 17] rfl rfl hs) ?_)
     refine n_fin ?_
     refine k_then (k_sub (Sub.cons rfl <| Sub.cons rfl <| Sub.cons rfl <| Sub.cons rfl <| Sub.cons rfl <| Sub.cons rfl <| Sub.cons rfl <| Sub.cons rfl <| Sub.cons rfl <| Sub.nil _) (fun w hs => St.sel [5, 6, 8, 9, 10, 11, 12, 13, 14, 15, 16, 17] rfl rfl hs) (hK155 ()))
   refine n_op (rem' := [4, 7, 8]) rfl (by kernel_rfl) rfl fun T328 hT328 => ?_
   refine AL rfl tz34 fun b329 => ?_
   refine r_nil (hT328 _ _ (fun w hs => St.sel [5, 6, 7, 8, 9, 10, 11, 12, 13, 14, 15, 16, 17] rfl rfl hs) ?_)
   refine n_step [4] (by kernel_rfl) (n_cons ?_ <| n_nil)
   refine n_op (rem' := [7, 8]) rfl (by kernel_rfl) rfl fun T330 hT330 => ?_
   refine rS (EX rfl) ?_
   refine r_nil (hT330 _ _ (fun w hs => St.sel [5, 6, 7, 8, 9, 10, 11, 12, 13, 14, 15, 16, 17] rfl rfl hs) ?_)
   refine n_step [7] (by kernel_rfl) (n_cons ?_ <| n_nil)
   refine n_op (rem' := [8]) rfl (by kernel_rfl) rfl fun T331 hT331 => ?_
   refine SW0 rfl ts34 rfl ?_
   refine r_nil (hT331 _ _ (fun w hs => St.sel [5, 6, 7, 8, 9, 10, 11, 12, 13, 14, 15, 16, 17] rfl rfl hs) ?_)
   refine n_step [8] (by kernel_rfl) (n_cons ?_ <| n_nil)
   refine n_op (rem' := []) rfl (by kernel_rfl) rfl fun T332 hT332 => ?_
   refine rS (AG rfl) ?_
   refine r_nil (hT332 _ _ (fun w hs => St.sel [5, 6, 7, 8, 9, 10, 11, 12, 13, 14, 15, 16, 17] rfl rfl hs) ?_)
   refine n_fin ?_
   refine k_then (k_sub (Sub.cons rfl <| Sub.cons rfl <| Sub.cons rfl <| Sub.cons rfl <| Sub.cons rfl <| Sub.cons rfl <| Sub.cons rfl <| Sub.cons rfl <| Sub.cons rfl <| Sub.nil _) (fun w hs => St.sel [5, 6, 8, 9, 10, 11, 12, 13, 14, 15, 16, 17] rfl rfl hs) (hK155 ()))
 · refine n_op (rem' := [4, 5, 7, 8]) rfl (by kernel_rfl) rfl fun T333 hT333 => ?_
   refine AL rfl tz34 fun b334 => ?_
   refine r_nil (hT333 _ _ (fun w hs => St.sel [5, 6, 7, 8, 9, 10, 11, 12, 13, 14, 15, 16, 17] rfl rfl hs) ?_)
   refine n_step [4, 5] (by kernel_rfl) (n_cons ?_ <| n_cons ?_ <| n_nil)
   rotate_left 1
   · refine n_op (rem' := [4, 7, 8]) rfl (by kernel_rfl) rfl fun T340 hT340 => ?_
     refine rS (EX rfl) ?_
     refine r_nil (hT340 _ _ (fun w hs => St.sel [5, 6, 7, 8, 9, 10, 11, 12, 13, 14, 15, 16, 17] rfl rfl hs) ?_)
     refine n_step [4] (by kernel_rfl) (n_cons ?_ <| n_nil)
     refine n_op (rem' := [7, 8]) rfl (by kernel_rfl) rfl fun T341 hT341 => ?_
     refine rS (EX rfl) ?_
     refine r_nil (hT341 _ _ (fun w hs => St.sel [5, 6, 7, 8, 9, 10, 11, 12, 13, 14, 15, 16, 17] rfl rfl hs) ?_)
     refine n_step [7] (by kernel_rfl) (n_cons ?_ <| n_nil)
     refine n_op (rem' := [8]) rfl (by kernel_rfl) rfl fun T342 hT342 => ?_
     refine SW0 rfl ts34 rfl ?_
     refine r_nil (hT342 _ _ (fun w hs => St.sel [5, 6, 7, 8, 9, 10, 11, 12, 13, 14, 15, 16, 17] rfl rfl hs) ?_)
     refine n_step [8] (by kernel_rfl) (n_cons ?_ <| n_nil)
     refine n_op (rem' := []) rfl (by kernel_rfl) rfl fun T343 hT343 => ?_
     refine rS (AG rfl) ?_
     refine r_nil (hT343 _ _ (fun w hs => St.sel [5, 6, 7, 8, 9, 10, 11, 12, 13, 14, 15, 16, 17] rfl rfl hs) ?_)
     refine n_fin ?_
     refine k_then (k_sub (Sub.cons rfl <| Sub.cons rfl <| Sub.cons rfl <| Sub.cons rfl <| Sub.cons rfl <| Sub.cons rfl <| Sub.cons rfl <| Sub.cons rfl <| Sub.cons rfl <| Sub.nil _) (fun w hs => St.sel [5, 6, 8, 9, 10, 11, 12, 13, 14, 15, 16, 17] rfl rfl hs) (hK155 ()))
   refine n_op (rem' := [5, 7, 8]) rfl (by kernel_rfl) rfl fun T335 hT335 => ?_
   refine rS (EX rfl) ?_
   refine r_nil (hT335 _ _ (fun w hs => St.sel [5, 6, 7, 8, 9, 10, 11, 12, 13, 14, 15, 16, 17] rfl rfl hs) ?_)
   refine n_step [5, 7] (by kernel_rfl) (n_cons ?_ <| n_cons ?_ <| n_nil)
   rotate_left 1
   · refine n_op (rem' := [5, 8]) rfl (by kernel_rfl) rfl fun T339 hT339 => ?_
     refine SW0 rfl ts34 rfl ?_
     refine r_nil (hT339 _ _ (fun w hs => St.sel [5, 6, 7, 8, 9, 10, 11, 12, 13, 14, 15, 16, 17] rfl rfl hs) ?_)
     refine n_pure [101, 17] (by kernel_rfl) (by kernel_rfl) rfl _ rfl rfl (fun w hs => St.sel [5, 6, 7, 8, 9, 10, 11, 12, 13, 14, 15, 16, 17] rfl rfl hs) ?_
     refine dS (EX rfl) ?_
     refine dS (AG rfl) ?_
     refine d_end ?_
     refine r_nil ?_
     refine k_then (k_sub (Sub.cons rfl <| Sub.cons rfl <| Sub.cons rfl <| Sub.cons rfl <| Sub.cons rfl <| Sub.cons rfl <| Sub.cons rfl <| Sub.cons rfl <| Sub.cons rfl <| Sub.nil _) (fun w hs => St.sel [5, 6, 8, 9, 10, 11, 12, 13, 14, 15, 16, 17] rfl rfl hs) (hK155 ()))
   refine n_op (rem' := [7, 8]) rfl (by kernel_rfl) rfl fun T336 hT336 => ?_
   refine rS (EX rfl) ?_
   refine r_nil (hT336 _ _ (fun w hs => St.sel [5, 6, 7, 8, 9, 10, 11, 12, 13, 14, 15, 16, 17] rfl rfl hs) ?_)
   refine n_step [7] (by kernel_rfl) (n_cons ?_ <| n_nil)
   refine n_op (rem' := [8]) rfl (by kernel_rfl) rfl fun T337 hT337 => ?_
   refine SW0 rfl ts34 rfl ?_
   refine r_nil (hT337 _ _ (fun w hs => St.sel [5, 6, 7, 8, 9, 10, 11, 12, 13, 14, 15, 16, 17] rfl rfl hs) ?_)
   refine n_step [8] (by kernel_rfl) (n_cons ?_ <| n_nil)
   refine n_op (rem' := []) rfl (by kernel_rfl) rfl fun T338 hT338 => ?_
   refine rS (AG rfl) ?_
   refine r_nil (hT338 _ _ (fun w hs => St.sel [5, 6, 7, 8, 9, 10, 11, 12, 13, 14, 15, 16, 17] rfl rfl hs) ?_)
   refine n_fin ?_
   refine k_then (k_sub (Sub.cons rfl <| Sub.cons rfl <| Sub.cons rfl <| Sub.cons rfl <| Sub.cons rfl <| Sub.cons rfl <| Sub.cons rfl <| Sub.cons rfl <| Sub.cons rfl <| Sub.nil _) (fun w hs => St.sel [5, 6, 8, 9, 10, 11, 12, 13, 14, 15, 16, 17] rfl rfl hs) (hK155 ()))
 refine n_op (rem' := [5, 6, 7, 8]) rfl (by kernel_rfl) rfl fun T310 hT310 => ?_
 refine rS (EX rfl) ?_
 refine r_nil (hT310 _ _ (fun w hs => St.sel [4, 5, 6, 7, 8, 9, 10, 11, 12, 13, 14, 15, 16] rfl rfl hs) ?_)
 refine n_step [5, 6] (by kernel_rfl) (n_cons ?_ <| n_cons ?_ <| n_nil)
 · refine n_op (rem' := [6, 7, 8]) rfl (by kernel_rfl) rfl fun T311 hT311 => ?_
   refine rS (EX rfl) ?_
   refine r_nil (hT311 _ _ (fun w hs => St.sel [4, 5, 6, 7, 8, 9, 10, 11, 12, 13, 14, 15, 16] rfl rfl hs) ?_)
   refine n_step [6] (by kernel_rfl) (n_cons ?_ <| n_nil)
   refine n_op (rem' := [7, 8]) rfl (by kernel_rfl) rfl fun T312 hT312 => ?_
   refine AL rfl tz34 fun b313 => ?_
   refine r_nil (hT312 _ _ (fun w hs => St.sel [5, 6, 7, 8, 9, 10, 11, 12, 13, 14, 15, 16, 17] rfl rfl hs) ?_)
   refine n_step [7] (by kernel_rfl) (n_cons ?_ <| n_nil)
   refine n_op (rem' := [8]) rfl (by kernel_rfl) rfl fun T314 hT314 => ?_
   refine SW0 rfl ts34 rfl ?_
   refine r_nil (hT314 _ _ (fun w hs => St.sel [5, 6, 7, 8, 9, 10, 11, 12, 13, 14, 15, 16, 17] rfl rfl hs) ?_)
   refine n_step [8] (by kernel_rfl) (n_cons ?_ <| n_nil)
   refine n_op (rem' := []) rfl (by kernel_rfl) rfl fun T315 hT315 => ?_
   refine rS (AG rfl) ?_
   refine r_nil (hT315 _ _ (fun w hs => St.sel [5, 6, 7, 8, 9, 10, 11, 12, 13, 14, 15, 16, 17] rfl rfl hs) ?_)
   refine n_fin ?_
   refine k_then (k_sub (Sub.cons rfl <| Sub.cons rfl <| Sub.cons rfl <| Sub.cons rfl <| Sub.cons rfl <| Sub.cons rfl <| Sub.cons rfl <| Sub.cons rfl <| Sub.cons rfl <| Sub.nil _) (fun w hs => St.sel [5, 6, 8, 9, 10, 11, 12, 13, 14, 15, 16, 17] rfl rfl hs) (hK155 ()))
 refine n_op (rem' := [5, 7, 8]) rfl (by kernel_rfl) rfl fun T316 hT316 => ?_
 refine AL rfl tz34 fun b317 => ?_
 refine r_nil (hT316 _ _ (fun w hs => St.sel [5, 6, 7, 8, 9, 10, 11, 12, 13, 14, 15, 16, 17] rfl rfl hs) ?_)
 refine n_step [5, 7] (by kernel_rfl) (n_cons ?_ <| n_cons ?_ <| n_nil)
 rotate_left 1
 · refine n_op (rem' := [5, 8]) rfl (by kernel_rfl) rfl fun T321 hT321 => ?_
   refine SW0 rfl ts34 rfl ?_
   refine r_nil (hT321 _ _ (fun w hs => St.sel [5, 6, 7, 8, 9, 10, 11, 12, 13, 14, 15, 16, 17] rfl rfl hs) ?_)
   refine n_pure [101, 17] (by kernel_rfl) (by kernel_rfl) rfl _ rfl rfl (fun w hs => St.sel [5, 6, 7, 8, 9, 10, 11, 12, 13, 14, 15, 16, 17] rfl rfl hs) ?_
   refine dS (EX rfl) ?_
   refine dS (AG rfl) ?_
   refine d_end ?_
   refine r_nil ?_
   refine k_then (k_sub (Sub.cons rfl <| Sub.cons rfl <| Sub.cons rfl <| Sub.cons rfl <| Sub.cons rfl <| Sub.cons rfl <| Sub.cons rfl <| Sub.cons rfl <| Sub.cons rfl <| Sub.nil _) (fun w hs => St.sel [5, 6, 8, 9, 10, 11, 12, 13, 14, 15, 16, 17] rfl rfl hs) (hK155 ()))
 refine n_op (rem' := [7, 8]) rfl (by kernel_rfl) rfl fun T318 hT318 => ?_
 refine rS (EX rfl) ?_
 refine r_nil (hT318 _ _ (fun w hs => St.sel [5, 6, 7, 8, 9, 10, 11, 12, 13, 14, 15, 16, 17] rfl rfl hs) ?_)
 refine n_step [7] (by kernel_rfl) (n_cons ?_ <| n_nil)
 refine n_op (rem' := [8]) rfl (by kernel_rfl) rfl fun T319 hT319 => ?_
 refine SW0 rfl ts34 rfl ?_
 refine r_nil (hT319 _ _ (fun w hs => St.sel [5, 6, 7, 8, 9, 10, 11, 12, 13, 14, 15, 16, 17] rfl rfl hs) ?_)
 refine n_step [8] (by kernel_rfl) (n_cons ?_ <| n_nil)
 refine n_op (rem' := []) rfl (by kernel_rfl) rfl fun T320 hT320 => ?_
 refine rS (AG rfl) ?_
 refine r_nil (hT320 _ _ (fun w hs => St.sel [5, 6, 7, 8, 9, 10, 11, 12, 13, 14, 15, 16, 17] rfl rfl hs) ?_)
 refine n_fin ?_
 refine k_then (k_sub (Sub.cons rfl <| Sub.cons rfl <| Sub.cons rfl <| Sub.cons rfl <| Sub.cons rfl <| Sub.cons rfl <| Sub.cons rfl <| Sub.cons rfl <| Sub.cons rfl <| Sub.nil _) (fun w hs => St.sel [5, 6, 8, 9, 10, 11, 12, 13, 14, 15, 16, 17] rfl rfl hs) (hK155 ()))
end
section
open Go.ChangeShapes Go.WideShapes Go.ChangeAt Go.RowKit
set_option linter.unusedVariables false
theorem own_beamExamples : ownKnob Try.prog.godebug = none := by kernel_rfl
theorem laid_beamExamples : laidOutB Try.prog = true := by kernel_rfl
set_option maxRecDepth 100000 in
theorem beamExamples_lifted (os : Os) (started : os.Started) (H : Type) (enc : TypeId × Value → H) :
    ReturnsInHanded {} Try.checked os 10 .any (Rows.beamExamplesSpec.pre6 enc Try.prog Try.f10 Rows.beamExamplesRow.domain false) (Rows.beamExamplesSpec.post enc Try.prog Try.f10 false true false false) := by
  refine returnsInHanded_of_change (C := Try.checked) own_beamExamples started (by kernel_rfl) Try.func10
    (ChangeSpec.witness6 (enc := enc) (C := Try.checked) false ⟨#[], #[], []⟩ 8 (by kernel_rfl) (by kernel_rfl) (by kernel_rfl) (by kernel_rfl)) ?_
  intro W base args ds gs before hval0 hW hcnd _
  have hval : ∀ (j : Nat) t v, Try.f10.params[j]? = some t → args[j]? = some v → Value.okWide Try.prog W .any base t v := hval0
  have hW' := hW
  obtain ⟨p, q, hA0, hV, rfl, hfz, hnd⟩ := hW
  have hA : DataW.TrodAll enc Try.prog W 0 (fun _ => true) true Try.f10.params.toList args.toList ds p := hA0
  have hA1 := hA
  rw [Try.params10] at hA hval
  obtain ⟨hargs, rfl, rfl⟩ := trodAll_nil hA
  obtain rfl : args = #[] := by cases args; simp_all
  obtain ⟨rfl, rfl⟩ := trodVars_none hV
  simp only [List.append_nil] at hW' hA1
  have hrun := beamExamples_c.run W (by intro A hA; cases hA)
  refine (hrun).mono fun e W' ⟨he, hk⟩ => ?_
  subst he
  exact ⟨_, rfl, law_post laid_beamExamples hW' hA1 rfl rfl (by kernel_rfl) hk.below (by kernel_rfl) ut4⟩
/-- the statement -/
theorem beamExamples_said : Rows.BeamExamplesSaid :=
  OpenClaim.holds_of_wide 10 Try.f10 rfl rfl rfl rfl rfl rfl rfl ⟨rfl, rfl, rfl, rfl, rfl⟩ rfl rfl rfl rfl rfl (by kernel_rfl) Try.func10 (by kernel_rfl)
    (of_decide_eq_true (by kernel_rfl)) (by unfold Func.isWrapper; first | (rw [if_pos (by decide +kernel)]; kernel_rfl) | (rw [if_neg (by decide +kernel)]; exact ⟨rfl, rfl⟩))
    (fun os started H enc _ => beamExamples_lifted os started H enc)
#print axioms beamExamples_said
end
end Go.Proofs.Ytaehngpnlkokkaa
