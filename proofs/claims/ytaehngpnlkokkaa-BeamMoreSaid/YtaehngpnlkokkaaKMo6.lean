/-
  The statement beamMore_said, part 6 of 6: L4, LineOpen, RideOpen, More0.
  Conditions: none.
-/
import Derived.Test.YtaehngpnlkokkaaKMo1
import Derived.Test.YtaehngpnlkokkaaKMo2
import Derived.Test.YtaehngpnlkokkaaKMo3
import Derived.Test.YtaehngpnlkokkaaKMo4
import Derived.Test.YtaehngpnlkokkaaKMo5
import Derived.Test.YtaehngpnlkokkaaRows
import Derived.Test.YtaehngpnlkokkaaProg
import Derived.KernelRfl
namespace Go.Proofs.Ytaehngpnlkokkaa
section
open Go.RowKit
set_option linter.unusedVariables false
set_option maxRecDepth 100000 in
set_option maxHeartbeats 400000 in
theorem beamMore_c (l : LineM) (kA : Option Addr) (kC : Nat) (az : List RA) (cA : Option Addr) (cC : Nat) (bA : Option Addr) (bC : Nat) (r : RideM) (sgA : Option Addr) (sgC : Nat) (by_ : Int) (hraw : LineRaw l az) (hrr : r.Signals.length ≤ 9223372036854775807) (hby : 0 ≤ by_ ∧ by_ ≤ 65535) :
    FnV Try.prog 6 [(Value.agg (LineV.cells (LineV.mk (TrackV.mk (Slc.mk kA l.Track.length kC)) l.Fast (Slc.mk cA l.Clocks.length cC) (Slc.mk bA l.Beams.length bC) l.Finish l.Fakes l.Misses)).toArray), (Value.agg (RideV.cells (RideV.mk r.Start r.Now (Slc.mk sgA r.Signals.length sgC))).toArray), (Value.int .u16 by_)] [(rd kA l.Track.length 9 (l.Track.map StretchV.cells)), (rd cA l.Clocks.length 2 (List.zipWith ClockM.cells l.Clocks az)), (bun (nest ClockM.rds l.Clocks az)), (rd bA l.Beams.length 4 (l.Beams.map BeamV.cells)), (rd sgA r.Signals.length 2 (r.Signals.map SignalV.cells))] (Value.bool true) := by
 refine fnV_of go6 Try.func6 rfl rfl fun w0 Q hQ hN => ?_
 try dsimp only
 refine WS fun _ hK1 => ?_
 refine BXA rfl fun b2 => ?_
 refine BXA rfl fun b3 => ?_
 refine rS (AG rfl) ?_
 refine RK hK1 ?_
 refine WS fun _ hK4 => ?_
 refine rS (CL alive_c (ha_nil) rfl) ?_
 refine rS (AG rfl) ?_
 refine RK hK4 ?_
 refine w_seq fun _ hK5 => ?_
 refine WS fun _ hK6 => ?_
 refine rS (LW 1 rfl tk28 rfl rfl) ?_
 refine rS (CL (ready_c l kA kC az cA cC bA bC hraw) (ha_at 2 rfl rfl <| ha_at 3 rfl rfl <| ha_at 4 rfl rfl <| ha_at 5 rfl rfl <| ha_nil) rfl) ?_
 refine rS (NT rfl) ?_
 refine rS (MV rfl) ?_
 refine r_bool (t := 33) rfl (fun h33 => ?_) (fun h33 => ?_)
 · replace h33 := XT h33
   refine rS (OX rfl) ?_
   refine rS (OX rfl) ?_
   refine rS (OX rfl) ?_
   refine rS (OX rfl) ?_
   refine rS (PK rfl) ?_
   refine rS (MV rfl) ?_
   refine rS (OX rfl) ?_
   refine rS (OX rfl) ?_
   refine rS (PK rfl) ?_
   refine RK hK6 ?_
   refine w_if_true rfl ?_
   refine WS fun _ hK7 => ?_
   refine rS (MV rfl) ?_
   refine rS (AG rfl) ?_
   refine RK hK7 ?_
   refine w_ret ?_
   refine Q1 hQ rfl rfl rfl ?_
   first | rfl | exact congrArg Value.bool (decide_eq_true (bad_of hls hrs h159)) | exact congrArg Value.bool (decide_eq_true hsa.1)
 replace h33 := XF h33
 refine rS (LW 1 rfl tk28 rfl rfl) ?_
 have hin := hraw.small h33.1
 refine rS (LW 0 rfl tk69 rfl rfl) ?_
 refine rS (CL (right_c l kA kC az cA cC bA bC r sgA sgC (by first | assumption | omega | (simp; done) | (simp; omega)) hrr) (ha_at 2 rfl rfl <| ha_at 3 rfl rfl <| ha_at 4 rfl rfl <| ha_at 5 rfl rfl <| ha_at 6 rfl rfl <| ha_nil) rfl) ?_
 refine rS (NT rfl) ?_
 refine rS (PK rfl) ?_
 refine rS (MV rfl) ?_
 refine r_bool (t := 39) rfl (fun h39 => ?_) (fun h39 => ?_)
 · replace h39 := XT h39
   refine rS (OX rfl) ?_
   refine rS (OX rfl) ?_
   refine rS (PK rfl) ?_
   refine RK hK6 ?_
   refine w_if_true rfl ?_
   refine WS fun _ hK8 => ?_
   refine rS (MV rfl) ?_
   refine rS (AG rfl) ?_
   refine RK hK8 ?_
   refine w_ret ?_
   refine Q1 hQ rfl rfl rfl ?_
   first | rfl | exact congrArg Value.bool (decide_eq_true (bad_of hls hrs h159)) | exact congrArg Value.bool (decide_eq_true hsa.1)
 replace h39 := XF h39
 refine rS (MV rfl) ?_
 refine rS (NT rfl) ?_
 refine rS (PK rfl) ?_
 refine RK hK6 ?_
 refine w_if_false rfl ?_
 refine WK hK5 ?_
 refine WS fun _ hK9 => ?_
 have hrt := h39.time
 have hrl := h39.len
 have hbm := hin.bms
 have hwl := whereV_len (l := l) (r := r)
 obtain ⟨htr, hok⟩ := lineE_zero h33.2
 have hhd := hok.head
 unfold HeadOk at hhd
 have hbr := rem_b by_ 500 hby.1 (by omega)
 refine rS (LW 1 rfl tk28 rfl rfl) ?_
 refine rS (LW 0 rfl tk69 rfl rfl) ?_
 refine cX (Where_c l kA kC az cA cC bA bC r sgA sgC (by exact hin) (by show r.Signals.length ≤ 1000000; omega)) (ha_at 2 rfl rfl <| ha_at 3 rfl rfl <| ha_at 4 rfl rfl <| ha_at 5 rfl rfl <| ha_at 6 rfl rfl <| ha_nil) rfl fun y10 hy11 => ?_
 obtain ⟨a12, c13⟩ := y10
 try dsimp only
 refine rS (MV rfl) ?_
 refine rS (EX rfl) ?_
 refine rS (EX rfl) ?_
 refine rS (AG rfl) ?_
 refine rS (AG rfl) ?_
 refine RK hK9 ?_
 refine w_join (ι := { z : Nat × Nat × Nat × Nat // True }) (fun z => [(2, (Value.int .u16 by_)), (3, (Value.pointer (some ⟨b2, 0, none⟩))), (4, (Value.pointer (some ⟨b3, 0, none⟩))), (7, (Value.bool true)), (8, (Value.slice a12 ((whereV l r).length) c13)), (9, (Value.int .i64 (openE l r 0))), (10, (Value.pointer (some ⟨z.1.1, 0, none⟩))), (11, (Value.pointer (some ⟨z.1.2.1, 0, none⟩))), (12, (Value.pointer (some ⟨z.1.2.2.1, 0, none⟩))), (13, (Value.pointer (some ⟨z.1.2.2.2, 0, none⟩)))]) (fun z => [(blk z.1.1 28 (LineV.cells (LineV.mk (TrackV.mk (Slc.mk kA l.Track.length kC)) l.Fast (Slc.mk cA l.Clocks.length cC) (Slc.mk bA l.Beams.length bC) l.Finish l.Fakes l.Misses))), (blk z.1.2.1 28 (LineV.cells (LineV.mk (TrackV.mk (Slc.mk kA l.Track.length kC)) l.Fast (Slc.mk cA l.Clocks.length cC) (Slc.mk bA l.Beams.length bC) l.Finish l.Fakes l.Misses))), (blk z.1.2.2.1 28 (LineV.cells (LineV.mk (TrackV.mk (Slc.mk kA l.Track.length kC)) l.Fast (Slc.mk cA l.Clocks.length cC) (Slc.mk bA l.Beams.length bC) l.Finish l.Fakes l.Misses))), (blk z.1.2.2.2 28 (LineV.cells (LineV.mk (TrackV.mk (Slc.mk kA l.Track.length kC)) l.Fast (Slc.mk cA l.Clocks.length cC) (Slc.mk bA l.Beams.length bC) l.Finish l.Fakes l.Misses))), (own a12 c13 3 1 ((whereV l r).map iC)), (blk b3 69 (RideV.cells (RideV.mk r.Start r.Now (Slc.mk sgA r.Signals.length sgC)))), (blk b2 28 (LineV.cells (LineV.mk (TrackV.mk (Slc.mk kA l.Track.length kC)) l.Fast (Slc.mk cA l.Clocks.length cC) (Slc.mk bA l.Beams.length bC) l.Finish l.Fakes l.Misses))), (rd kA l.Track.length 9 (l.Track.map StretchV.cells)).ro, (rd cA l.Clocks.length 2 (List.zipWith ClockM.cells l.Clocks az)).ro, (bun (nest ClockM.rds l.Clocks az)).ro, (rd bA l.Beams.length 4 (l.Beams.map BeamV.cells)).ro, (rd sgA r.Signals.length 2 (r.Signals.map SignalV.cells)).ro]) ?_ fun K14 hK14 => ?_
 · rintro ⟨⟨g1, g2, g3, g4⟩, _⟩
   try dsimp only
   refine w_seq fun _ hK15 => ?_
   refine w_draw4 mixed [0, 1, 2, 3, 4, 5, 6, 7, 8, 9, 10, 11, 12, 14, 16] [13, 15, 17] [false, false, false, false, false, false, false, false, false, false, false, false, false, false, false] [false, false, false] [(blk g4 28 (LineV.cells (LineV.mk (TrackV.mk (Slc.mk kA l.Track.length kC)) l.Fast (Slc.mk cA l.Clocks.length cC) (Slc.mk bA l.Beams.length bC) l.Finish l.Fakes l.Misses))), (own a12 c13 3 1 ((whereV l r).map iC)), (blk b3 69 (RideV.cells (RideV.mk r.Start r.Now (Slc.mk sgA r.Signals.length sgC)))), (blk b2 28 (LineV.cells (LineV.mk (TrackV.mk (Slc.mk kA l.Track.length kC)) l.Fast (Slc.mk cA l.Clocks.length cC) (Slc.mk bA l.Beams.length bC) l.Finish l.Fakes l.Misses))), (rd kA l.Track.length 9 (l.Track.map StretchV.cells)).ro, (rd cA l.Clocks.length 2 (List.zipWith ClockM.cells l.Clocks az)).ro, (bun (nest ClockM.rds l.Clocks az)).ro, (rd bA l.Beams.length 4 (l.Beams.map BeamV.cells)).ro, (rd sgA r.Signals.length 2 (r.Signals.map SignalV.cells)).ro] [] (by kernel_rfl) (fun w hs => St.sel [3, 4, 5, 6, 7, 8, 9, 10, 11] rfl rfl hs) (fun w hs => St.sel [] rfl rfl hs) ?_
   refine eS rfl (FA 5 rfl fo28_5 rfl) ?_
   refine eS rfl (L1 (Value.int .i64 l.Fakes) 3 rfl tk3 rfl rfl) ?_
   refine eS rfl (BI rfl (b_add ⟨by omega, by omega⟩)) ?_
   refine eS rfl (FA 6 rfl fo28_6 rfl) ?_
   refine eS rfl (L1 (Value.int .i64 l.Misses) 3 rfl tk3 rfl rfl) ?_
   refine eS rfl (BI rfl (b_add ⟨by omega, by omega⟩)) ?_
   refine eS rfl (FA 1 rfl fo28_1 rfl) ?_
   refine eS rfl (L1 (Value.int .i64 l.Fast) 3 rfl tk3 rfl rfl) ?_
   refine eS rfl (MV rfl) ?_
   refine eS rfl (SX (sd_conv (m := by_) rfl rfl ut70 ut3 (wrap_u16_i64 (by first | assumption | omega))) rfl rfl) ?_
   refine eS rfl (BI rfl (b_rem (by omega) (by omega))) ?_
   refine eS rfl (BI rfl (b_add ⟨by omega, by omega⟩)) ?_
   refine eS rfl (FA 5 rfl fo28_5 rfl) ?_
   refine eS rfl (FA 6 rfl fo28_6 rfl) ?_
   refine eS rfl (FA 1 rfl fo28_1 rfl) ?_
   refine d_fin rfl ?_
   refine t_cons rfl fun T16 hT16 => ?_
   refine ST0 (LineV.cells (LineV.mk (TrackV.mk (Slc.mk kA l.Track.length kC)) l.Fast (Slc.mk cA l.Clocks.length cC) (Slc.mk bA l.Beams.length bC) l.Finish (l.Fakes + 1) l.Misses)) rfl ts3 rfl rfl ?_
   refine r_nil (hT16 _ _ (fun w hs => St.sel [3, 4, 5, 6, 7, 8, 9, 10, 11] rfl rfl hs) ?_)
   refine t_cons rfl fun T17 hT17 => ?_
   refine ST1 (LineV.cells (LineV.mk (TrackV.mk (Slc.mk kA l.Track.length kC)) l.Fast (Slc.mk cA l.Clocks.length cC) (Slc.mk bA l.Beams.length bC) l.Finish l.Fakes (l.Misses + 1))) rfl ts3 rfl rfl ?_
   refine r_nil (hT17 _ _ (fun w hs => St.sel [3, 4, 5, 6, 7, 8, 9, 10, 11] rfl rfl hs) ?_)
   refine t_cons rfl fun T18 hT18 => ?_
   refine ST2 (LineV.cells (LineV.mk (TrackV.mk (Slc.mk kA l.Track.length kC)) (l.Fast + (by_ % 500)) (Slc.mk cA l.Clocks.length cC) (Slc.mk bA l.Beams.length bC) l.Finish l.Fakes l.Misses)) rfl ts3 rfl rfl ?_
   refine r_nil (hT18 _ _ (fun w hs => St.sel [3, 4, 5, 6, 7, 8, 9, 10, 11] rfl rfl hs) ?_)
   refine t_fin rfl ?_
   refine KK hK15 ?_
   refine WS fun _ hK19 => ?_
   refine rS (FA 5 rfl fo28_5 rfl) ?_
   refine ST3 (LineV.cells (LineV.mk (TrackV.mk (Slc.mk kA l.Track.length kC)) l.Fast (Slc.mk cA l.Clocks.length cC) (Slc.mk bA l.Beams.length bC) l.Finish 0 l.Misses)) rfl ts3 rfl rfl ?_
   refine rS (FA 6 rfl fo28_6 rfl) ?_
   refine ST3 (LineV.cells (LineV.mk (TrackV.mk (Slc.mk kA l.Track.length kC)) l.Fast (Slc.mk cA l.Clocks.length cC) (Slc.mk bA l.Beams.length bC) l.Finish 0 0)) rfl ts3 rfl rfl ?_
   refine RK hK19 ?_
   refine w_seq fun _ hK20 => ?_
   refine WS fun _ hK21 => ?_
   refine rS (LW 0 rfl tk28 rfl rfl) ?_
   refine rS (LW 1 rfl tk28 rfl rfl) ?_
   refine rS (LW 2 rfl tk28 rfl rfl) ?_
   refine r_bs (xs := [.tmp 71, .tmp 72, .tmp 73]) (cs := ((LineV.cells (LineV.mk (TrackV.mk (Slc.mk kA l.Track.length kC)) l.Fast (Slc.mk cA l.Clocks.length cC) (Slc.mk bA l.Beams.length bC) l.Finish (l.Fakes + 1) l.Misses)) ++ (LineV.cells (LineV.mk (TrackV.mk (Slc.mk kA l.Track.length kC)) l.Fast (Slc.mk cA l.Clocks.length cC) (Slc.mk bA l.Beams.length bC) l.Finish l.Fakes (l.Misses + 1))) ++ (LineV.cells (LineV.mk (TrackV.mk (Slc.mk kA l.Track.length kC)) (l.Fast + (by_ % 500)) (Slc.mk cA l.Clocks.length cC) (Slc.mk bA l.Beams.length bC) l.Finish l.Fakes l.Misses)))) rfl te74 tz28 rfl rfl rfl rfl (by simp [Value.cells, LineV.cells_length]) rfl rfl fun b22 => ?_
   refine rS (LN rfl ut74) ?_
   refine rS (MV rfl) ?_
   refine RK hK21 ?_
   refine w_block ?_
   refine w_rounds 4 ?_
   refine ro_succ fun R23 hR23 => ?_
   refine WS fun _ hK24 => ?_
   refine rS (SX (sd_bin (r := .bool true) rfl rfl rfl b_lss) rfl rfl) ?_
   refine RK hK24 ?_
   refine w_seq fun _ hK25 => ?_
   refine w_if_true rfl ?_
   refine WK hK25 ?_
   refine w_join (ι := Unit) (fun z => [(3, (Value.pointer (some ⟨b2, 0, none⟩))), (4, (Value.pointer (some ⟨b3, 0, none⟩))), (7, (Value.bool true)), (8, (Value.slice a12 ((whereV l r).length) c13)), (9, (Value.int .i64 (openE l r 0))), (13, (Value.pointer (some ⟨g4, 0, none⟩))), (74, (Value.slice (some ⟨b22, 0, none⟩) 3 3)), (75, (Value.int .i64 3)), (76, (Value.int .i64 0))]) (fun z => [(blk b22 28 ((LineV.cells (LineV.mk (TrackV.mk (Slc.mk kA l.Track.length kC)) l.Fast (Slc.mk cA l.Clocks.length cC) (Slc.mk bA l.Beams.length bC) l.Finish (l.Fakes + 1) l.Misses)) ++ (LineV.cells (LineV.mk (TrackV.mk (Slc.mk kA l.Track.length kC)) l.Fast (Slc.mk cA l.Clocks.length cC) (Slc.mk bA l.Beams.length bC) l.Finish l.Fakes (l.Misses + 1))) ++ (LineV.cells (LineV.mk (TrackV.mk (Slc.mk kA l.Track.length kC)) (l.Fast + (by_ % 500)) (Slc.mk cA l.Clocks.length cC) (Slc.mk bA l.Beams.length bC) l.Finish l.Fakes l.Misses)))), (blk g4 28 (LineV.cells (LineV.mk (TrackV.mk (Slc.mk kA l.Track.length kC)) l.Fast (Slc.mk cA l.Clocks.length cC) (Slc.mk bA l.Beams.length bC) l.Finish 0 0))), (own a12 c13 3 1 ((whereV l r).map iC)), (blk b3 69 (RideV.cells (RideV.mk r.Start r.Now (Slc.mk sgA r.Signals.length sgC)))), (blk b2 28 (LineV.cells (LineV.mk (TrackV.mk (Slc.mk kA l.Track.length kC)) l.Fast (Slc.mk cA l.Clocks.length cC) (Slc.mk bA l.Beams.length bC) l.Finish l.Fakes l.Misses))), (rd kA l.Track.length 9 (l.Track.map StretchV.cells)).ro, (rd cA l.Clocks.length 2 (List.zipWith ClockM.cells l.Clocks az)).ro, (bun (nest ClockM.rds l.Clocks az)).ro, (rd bA l.Beams.length 4 (l.Beams.map BeamV.cells)).ro, (rd sgA r.Signals.length 2 (r.Signals.map SignalV.cells)).ro]) ?_ fun K26 hK26 => ?_
   · intro _
     try dsimp only
     refine w_region ?_
     refine rS (SX (sd_bin (r := .int .i64 1) rfl rfl rfl (b_add ⟨by decide, by decide⟩)) rfl rfl) ?_
     refine rS (MV rfl) ?_
     refine RK hR23 ?_
     refine ro_succ fun R27 hR27 => ?_
     refine WS fun _ hK28 => ?_
     refine rS (SX (sd_bin (r := .bool true) rfl rfl rfl b_lss) rfl rfl) ?_
     refine RK hK28 ?_
     refine w_seq fun _ hK29 => ?_
     refine w_if_true rfl ?_
     refine WK hK29 ?_
     refine w_join (ι := Unit) (fun z => [(3, (Value.pointer (some ⟨b2, 0, none⟩))), (4, (Value.pointer (some ⟨b3, 0, none⟩))), (7, (Value.bool true)), (8, (Value.slice a12 ((whereV l r).length) c13)), (9, (Value.int .i64 (openE l r 0))), (13, (Value.pointer (some ⟨g4, 0, none⟩))), (74, (Value.slice (some ⟨b22, 0, none⟩) 3 3)), (75, (Value.int .i64 3)), (76, (Value.int .i64 1))]) (fun z => [(blk b22 28 ((LineV.cells (LineV.mk (TrackV.mk (Slc.mk kA l.Track.length kC)) l.Fast (Slc.mk cA l.Clocks.length cC) (Slc.mk bA l.Beams.length bC) l.Finish (l.Fakes + 1) l.Misses)) ++ (LineV.cells (LineV.mk (TrackV.mk (Slc.mk kA l.Track.length kC)) l.Fast (Slc.mk cA l.Clocks.length cC) (Slc.mk bA l.Beams.length bC) l.Finish l.Fakes (l.Misses + 1))) ++ (LineV.cells (LineV.mk (TrackV.mk (Slc.mk kA l.Track.length kC)) (l.Fast + (by_ % 500)) (Slc.mk cA l.Clocks.length cC) (Slc.mk bA l.Beams.length bC) l.Finish l.Fakes l.Misses)))), (blk g4 28 (LineV.cells (LineV.mk (TrackV.mk (Slc.mk kA l.Track.length kC)) l.Fast (Slc.mk cA l.Clocks.length cC) (Slc.mk bA l.Beams.length bC) l.Finish 0 0))), (own a12 c13 3 1 ((whereV l r).map iC)), (blk b3 69 (RideV.cells (RideV.mk r.Start r.Now (Slc.mk sgA r.Signals.length sgC)))), (blk b2 28 (LineV.cells (LineV.mk (TrackV.mk (Slc.mk kA l.Track.length kC)) l.Fast (Slc.mk cA l.Clocks.length cC) (Slc.mk bA l.Beams.length bC) l.Finish l.Fakes l.Misses))), (rd kA l.Track.length 9 (l.Track.map StretchV.cells)).ro, (rd cA l.Clocks.length 2 (List.zipWith ClockM.cells l.Clocks az)).ro, (bun (nest ClockM.rds l.Clocks az)).ro, (rd bA l.Beams.length 4 (l.Beams.map BeamV.cells)).ro, (rd sgA r.Signals.length 2 (r.Signals.map SignalV.cells)).ro]) ?_ fun K30 hK30 => ?_
     · intro _
       try dsimp only
       refine w_region ?_
       refine rS (SX (sd_bin (r := .int .i64 2) rfl rfl rfl (b_add ⟨by decide, by decide⟩)) rfl rfl) ?_
       refine rS (MV rfl) ?_
       refine RK hR27 ?_
       refine ro_succ fun R31 hR31 => ?_
       refine WS fun _ hK32 => ?_
       refine rS (SX (sd_bin (r := .bool true) rfl rfl rfl b_lss) rfl rfl) ?_
       refine RK hK32 ?_
       refine w_seq fun _ hK33 => ?_
       refine w_if_true rfl ?_
       refine WK hK33 ?_
       refine w_join (ι := Unit) (fun z => [(3, (Value.pointer (some ⟨b2, 0, none⟩))), (4, (Value.pointer (some ⟨b3, 0, none⟩))), (7, (Value.bool true)), (8, (Value.slice a12 ((whereV l r).length) c13)), (9, (Value.int .i64 (openE l r 0))), (13, (Value.pointer (some ⟨g4, 0, none⟩))), (74, (Value.slice (some ⟨b22, 0, none⟩) 3 3)), (75, (Value.int .i64 3)), (76, (Value.int .i64 2))]) (fun z => [(blk b22 28 ((LineV.cells (LineV.mk (TrackV.mk (Slc.mk kA l.Track.length kC)) l.Fast (Slc.mk cA l.Clocks.length cC) (Slc.mk bA l.Beams.length bC) l.Finish (l.Fakes + 1) l.Misses)) ++ (LineV.cells (LineV.mk (TrackV.mk (Slc.mk kA l.Track.length kC)) l.Fast (Slc.mk cA l.Clocks.length cC) (Slc.mk bA l.Beams.length bC) l.Finish l.Fakes (l.Misses + 1))) ++ (LineV.cells (LineV.mk (TrackV.mk (Slc.mk kA l.Track.length kC)) (l.Fast + (by_ % 500)) (Slc.mk cA l.Clocks.length cC) (Slc.mk bA l.Beams.length bC) l.Finish l.Fakes l.Misses)))), (blk g4 28 (LineV.cells (LineV.mk (TrackV.mk (Slc.mk kA l.Track.length kC)) l.Fast (Slc.mk cA l.Clocks.length cC) (Slc.mk bA l.Beams.length bC) l.Finish 0 0))), (own a12 c13 3 1 ((whereV l r).map iC)), (blk b3 69 (RideV.cells (RideV.mk r.Start r.Now (Slc.mk sgA r.Signals.length sgC)))), (blk b2 28 (LineV.cells (LineV.mk (TrackV.mk (Slc.mk kA l.Track.length kC)) l.Fast (Slc.mk cA l.Clocks.length cC) (Slc.mk bA l.Beams.length bC) l.Finish l.Fakes l.Misses))), (rd kA l.Track.length 9 (l.Track.map StretchV.cells)).ro, (rd cA l.Clocks.length 2 (List.zipWith ClockM.cells l.Clocks az)).ro, (bun (nest ClockM.rds l.Clocks az)).ro, (rd bA l.Beams.length 4 (l.Beams.map BeamV.cells)).ro, (rd sgA r.Signals.length 2 (r.Signals.map SignalV.cells)).ro]) ?_ fun K34 hK34 => ?_
       · intro _
         try dsimp only
         refine w_region ?_
         refine rS (SX (sd_bin (r := .int .i64 3) rfl rfl rfl (b_add ⟨by decide, by decide⟩)) rfl rfl) ?_
         refine rS (MV rfl) ?_
         refine RK hR31 ?_
         refine ro_succ fun R35 hR35 => ?_
         refine WS fun _ hK36 => ?_
         refine rS (SX (sd_bin (r := .bool false) rfl rfl rfl b_lss) rfl rfl) ?_
         refine RK hK36 ?_
         refine w_seq fun _ hK37 => ?_
         refine w_if_false rfl ?_
         refine w_exit ?_
         refine k_exit_then ?_
         refine k_exit_then ?_
         refine k_exit_same ?_
         refine KK hK20 ?_
         refine WS fun _ hK38 => ?_
         have hls := strict_line h33.2
         have hrs : RideOk (LineM.mk l.Track l.Fast l.Clocks l.Beams l.Finish 0 0) r := ⟨h39.time, h39.len, h39.sig⟩
         have hwl3 := whereV_len (l := (LineM.mk l.Track l.Fast l.Clocks l.Beams l.Finish 0 0)) (r := r)
         refine rS (LW 1 rfl tk28 rfl rfl) ?_
         refine rS (LW 3 rfl tk69 rfl rfl) ?_
         refine cX (Where_c (LineM.mk l.Track l.Fast l.Clocks l.Beams l.Finish 0 0) kA kC az cA cC bA bC r sgA sgC (by exact hin.more) (by show r.Signals.length ≤ 1000000; omega)) (ha_at 5 rfl rfl <| ha_at 6 rfl rfl <| ha_at 7 rfl rfl <| ha_at 8 rfl rfl <| ha_at 9 rfl rfl <| ha_nil) rfl fun y39 hy40 => ?_
         obtain ⟨a41, c42⟩ := y39
         try dsimp only
         refine rS (MV rfl) ?_
         refine rS (EX rfl) ?_
         refine rS (EX rfl) ?_
         refine rS (AG rfl) ?_
         refine rS (AG rfl) ?_
         refine RK hK38 ?_
         refine w_seq fun _ hK43 => ?_
         refine WS fun _ hK44 => ?_
         refine rS (MV rfl) ?_
         refine rS (BI rfl b_neq) ?_
         refine RK hK44 ?_
         refine w_if rfl (fun h159 => ?_) (fun h159 => ?_)
         · replace h159 := XT h159
           refine WS fun _ hK45 => ?_
           refine rS (MV rfl) ?_
           refine rS (MV rfl) ?_
           refine rS (MV rfl) ?_
           refine rS (BI rfl b_eql) ?_
           refine rS (PK rfl) ?_
           refine rS (AG rfl) ?_
           refine RK hK45 ?_
           refine w_ret ?_
           refine Q1 hQ rfl rfl rfl ?_
           first | rfl | exact congrArg Value.bool (decide_eq_true (bad_of hls hrs h159)) | exact congrArg Value.bool (decide_eq_true hsa.1)
         replace h159 := XF h159
         refine WK hK43 ?_
         refine w_seq fun _ hK46 => ?_
         refine WS fun _ hK47 => ?_
         have hsa := strict_all hls hrs rfl rfl h159
         refine rS (FA 2 rfl fo69_2 rfl) ?_
         refine rS (L1 (Value.slice sgA r.Signals.length sgC) 4 rfl tk67 rfl rfl) ?_
         refine rS (LN rfl ut67) ?_
         refine rS (MV rfl) ?_
         refine RK hK47 ?_
         refine w_block ?_
         have hinit : (0 ≤ r.Signals.length) := by exact Nat.zero_le _
         refine w_loop (ι := { z : Nat // (z ≤ r.Signals.length) }) (fun z => [(3, (Value.pointer (some ⟨b2, 0, none⟩))), (4, (Value.pointer (some ⟨b3, 0, none⟩))), (7, (Value.bool true)), (25, (Value.slice a41 ((whereV (LineM.mk l.Track l.Fast l.Clocks l.Beams l.Finish 0 0) r).length) c42)), (26, (Value.int .i64 (openE (LineM.mk l.Track l.Fast l.Clocks l.Beams l.Finish 0 0) r 0))), (166, (Value.slice sgA r.Signals.length sgC)), (167, (Value.int .i64 ((r.Signals.length : Nat) : Int))), (168, (Value.int .i64 ((z.1 : Nat) : Int)))]) (fun z => [(own a41 c42 3 1 ((whereV (LineM.mk l.Track l.Fast l.Clocks l.Beams l.Finish 0 0) r).map iC)), (own a12 c13 3 1 ((whereV l r).map iC)), (blk b3 69 (RideV.cells (RideV.mk r.Start r.Now (Slc.mk sgA r.Signals.length sgC)))), (blk b2 28 (LineV.cells (LineV.mk (TrackV.mk (Slc.mk kA l.Track.length kC)) l.Fast (Slc.mk cA l.Clocks.length cC) (Slc.mk bA l.Beams.length bC) l.Finish l.Fakes l.Misses))), (rd kA l.Track.length 9 (l.Track.map StretchV.cells)).ro, (rd cA l.Clocks.length 2 (List.zipWith ClockM.cells l.Clocks az)).ro, (bun (nest ClockM.rds l.Clocks az)).ro, (rd bA l.Beams.length 4 (l.Beams.map BeamV.cells)).ro, (rd sgA r.Signals.length 2 (r.Signals.map SignalV.cells)).ro]) (fun z => r.Signals.length - z.1) ⟨0, hinit⟩ (Sub.cons rfl <| Sub.cons rfl <| Sub.cons rfl <| Sub.cons rfl <| Sub.cons rfl <| Sub.cons rfl <| Sub.cons rfl <| Sub.cons rfl <| Sub.nil _) (fun w hs => St.sel [0, 3, 4, 5, 6, 7, 8, 9, 10] rfl rfl hs) ?_
         clear hinit
         rintro ⟨i, hl34_0⟩ J48 hJ48
         try dsimp only
         refine WS fun _ hK49 => ?_
         refine rS (BI rfl b_lss) ?_
         refine RK hK49 ?_
         refine w_seq fun _ hK50 => ?_
         refine w_if rfl (fun h51 => ?_) (fun h51 => ?_)
         rotate_left 1
         · replace h51 := DF h51
           refine w_exit ?_
           refine k_exit_then ?_
           refine k_exit_then ?_
           refine k_exit_same ?_
           refine KK hK46 ?_
           refine WS fun _ hK57 => ?_
           refine rS (MV rfl) ?_
           refine rS (MV rfl) ?_
           refine rS (MV rfl) ?_
           refine rS (FA 2 rfl fo69_2 rfl) ?_
           refine rS (L1 (Value.slice sgA r.Signals.length sgC) 2 rfl tk67 rfl rfl) ?_
           refine rS (LN rfl ut67) ?_
           refine r_bs (xs := [.tmp 183]) (cs := [(Value.int .i64 ((r.Signals.length : Nat) : Int))]) rfl te57 tz3 rfl rfl rfl rfl (by simp [Value.cells]) rfl rfl fun b58 => ?_
           refine rS (CL (sameints_c (whereV (LineM.mk l.Track l.Fast l.Clocks l.Beams l.Finish 0 0) r) a41 c42 ([((r.Signals.length : Nat) : Int)]) (some ⟨b58, 0, none⟩) 1 (by omega) (by simp)) (ha_cons (has_own_n (n := (whereV (LineM.mk l.Track l.Fast l.Clocks l.Beams l.Finish 0 0) r).length) 1 rfl (by simp)) <| ha_cons (has_rd_blk 0 rfl rfl (by simp [iC_length]) rfl) <| ha_nil) rfl) ?_
           refine rS (PK rfl) ?_
           refine rS (AG rfl) ?_
           refine RK hK57 ?_
           refine w_ret ?_
           refine Q1 hQ rfl rfl rfl ?_
           first | rfl | exact congrArg Value.bool (decide_eq_true (bad_of hls hrs h159)) | exact congrArg Value.bool (decide_eq_true hsa.1)
         replace h51 := DT h51
         refine WK hK50 ?_
         refine w_seq fun _ hK52 => ?_
         refine w_block ?_
         refine WS fun _ hK53 => ?_
         refine rS (MV rfl) ?_
         obtain ⟨z, hz⟩ : ∃ y_, r.Signals[i]? = some y_ := ⟨r.Signals[i]'(by omega), List.getElem?_eq_getElem _⟩
         have hzm : (r.Signals.map SignalV.cells)[i]? = some (SignalV.cells z) := by rw [List.getElem?_map, hz]; rfl
         refine rS (IA i rfl (has_at 8 rfl) te67 (by decide) (by omega) (by omega)) ?_
         refine rS (LEN i 0 (SignalV.cells z) rfl tk30 (has_at 8 rfl) hzm rfl (by decide) rfl rfl) ?_
         refine AL rfl tz30 fun b54 => ?_
         refine rS (AG rfl) ?_
         refine SW0 rfl ts30 rfl ?_
         refine RK hK53 ?_
         refine WS fun _ hK55 => ?_
         refine rS (FA 0 rfl fo30_0 rfl) ?_
         refine rS (L1 (Value.int .i64 z.Beam) 0 rfl tk3 rfl rfl) ?_
         refine rS (MV rfl) ?_
         refine rS (BI rfl b_neq) ?_
         refine RK hK55 ?_
         refine w_if rfl (fun h176 => ?_) (fun h176 => ?_)
         · replace h176 := XT h176
           exact absurd (hsa.2 i z hz) h176
         replace h176 := XF h176
         refine w_skip ?_
         refine k_block ?_
         refine KK hK52 ?_
         refine w_region ?_
         refine rS (BI rfl (b_add ⟨by omega, by omega⟩)) ?_
         refine rS (MV rfl) ?_
         refine r_nil ?_
         have hb56 : (Value.int .i64 (((i + 1) : Nat) : Int)) = (Value.int .i64 (((i : Nat) : Int) + 1)) := by exact congrArg (Value.int .i64) (by omega)
         refine k_then (hJ48 ⟨(i + 1), (by first | omega | (simp only []; omega))⟩ _ _ _ rfl (by first | omega | (simp; omega)) (Sub.cons rfl <| Sub.cons rfl <| Sub.cons rfl <| Sub.cons rfl <| Sub.cons rfl <| Sub.cons rfl <| Sub.cons rfl <| sub_val rfl hb56 <| Sub.nil _) (fun w hs => St.sel [1, 2, 3, 4, 5, 6, 7, 8, 9] rfl rfl hs))
       refine w_block ?_
       refine WS fun _ hK59 => ?_
       refine rS (IAB 2 14 rfl te74 rfl (by decide) rfl) ?_
       refine rS (LP (LineV.cells (LineV.mk (TrackV.mk (Slc.mk kA l.Track.length kC)) (l.Fast + (by_ % 500)) (Slc.mk cA l.Clocks.length cC) (Slc.mk bA l.Beams.length bC) l.Finish l.Fakes l.Misses)) 0 rfl tk28 rfl rfl rfl) ?_
       refine AL rfl tz28 fun b60 => ?_
       refine SW0 rfl ts28 rfl ?_
       refine RK hK59 ?_
       refine w_seq fun _ hK61 => ?_
       refine WS fun _ hK62 => ?_
       refine rS (LW 0 rfl tk28 rfl rfl) ?_
       refine rS (CL (ready_c (LineM.mk l.Track (l.Fast + (by_ % 500)) l.Clocks l.Beams l.Finish l.Fakes l.Misses) kA kC az cA cC bA bC (by exact hraw.more)) (ha_at 6 rfl rfl <| ha_at 7 rfl rfl <| ha_at 8 rfl rfl <| ha_at 9 rfl rfl <| ha_nil) rfl) ?_
       refine rS (NT rfl) ?_
       refine RK hK62 ?_
       refine w_if rfl (fun h82 => ?_) (fun h82 => ?_)
       · replace h82 := XT h82
         refine w_exit ?_
         refine k_exit_then ?_
         refine k_exit_same ?_
         refine k_then (k_sub (Sub.cons rfl <| Sub.cons rfl <| Sub.cons rfl <| Sub.cons rfl <| Sub.cons rfl <| Sub.cons rfl <| Sub.cons rfl <| Sub.cons rfl <| Sub.cons rfl <| Sub.nil _) (fun w hs => St.sel [1, 2, 3, 4, 5, 6, 7, 8, 9, 10] rfl rfl hs) (hK34 ()))
       replace h82 := XF h82
       refine WK hK61 ?_
       refine WS fun _ hK63 => ?_
       refine rS (LW 0 rfl tk28 rfl rfl) ?_
       refine rS (LW 4 rfl tk69 rfl rfl) ?_
       have hle := more_le h33.2 h82.2 h39 (by first | omega | exact Int.le_refl _) (by first | omega | exact Int.le_refl _) (by first | omega | exact Int.le_refl _)
       refine cX (Where_c (LineM.mk l.Track (l.Fast + (by_ % 500)) l.Clocks l.Beams l.Finish l.Fakes l.Misses) kA kC az cA cC bA bC r sgA sgC (by exact hin.more) (by show r.Signals.length ≤ 1000000; omega)) (ha_at 6 rfl rfl <| ha_at 7 rfl rfl <| ha_at 8 rfl rfl <| ha_at 9 rfl rfl <| ha_at 10 rfl rfl <| ha_nil) rfl fun y64 hy65 => ?_
       obtain ⟨a66, c67⟩ := y64
       try dsimp only
       refine rS (MV rfl) ?_
       refine rS (EX rfl) ?_
       refine rS (EX rfl) ?_
       refine rS (AG rfl) ?_
       refine rS (AG rfl) ?_
       refine RK hK63 ?_
       refine w_join (ι := Unit) (fun z => [(3, (Value.pointer (some ⟨b2, 0, none⟩))), (4, (Value.pointer (some ⟨b3, 0, none⟩))), (7, (Value.bool true)), (8, (Value.slice a12 ((whereV l r).length) c13)), (9, (Value.int .i64 (openE l r 0))), (13, (Value.pointer (some ⟨g4, 0, none⟩))), (15, (Value.pointer (some ⟨b60, 0, none⟩))), (16, (Value.slice a66 ((whereV (LineM.mk l.Track (l.Fast + (by_ % 500)) l.Clocks l.Beams l.Finish l.Fakes l.Misses) r).length) c67)), (17, (Value.int .i64 (openE (LineM.mk l.Track (l.Fast + (by_ % 500)) l.Clocks l.Beams l.Finish l.Fakes l.Misses) r 0))), (74, (Value.slice (some ⟨b22, 0, none⟩) 3 3)), (75, (Value.int .i64 3)), (76, (Value.int .i64 2))]) (fun z => [(own a66 c67 3 1 ((whereV (LineM.mk l.Track (l.Fast + (by_ % 500)) l.Clocks l.Beams l.Finish l.Fakes l.Misses) r).map iC)), (blk b60 28 (LineV.cells (LineV.mk (TrackV.mk (Slc.mk kA l.Track.length kC)) (l.Fast + (by_ % 500)) (Slc.mk cA l.Clocks.length cC) (Slc.mk bA l.Beams.length bC) l.Finish l.Fakes l.Misses))), (blk b22 28 ((LineV.cells (LineV.mk (TrackV.mk (Slc.mk kA l.Track.length kC)) l.Fast (Slc.mk cA l.Clocks.length cC) (Slc.mk bA l.Beams.length bC) l.Finish (l.Fakes + 1) l.Misses)) ++ (LineV.cells (LineV.mk (TrackV.mk (Slc.mk kA l.Track.length kC)) l.Fast (Slc.mk cA l.Clocks.length cC) (Slc.mk bA l.Beams.length bC) l.Finish l.Fakes (l.Misses + 1))) ++ (LineV.cells (LineV.mk (TrackV.mk (Slc.mk kA l.Track.length kC)) (l.Fast + (by_ % 500)) (Slc.mk cA l.Clocks.length cC) (Slc.mk bA l.Beams.length bC) l.Finish l.Fakes l.Misses)))), (blk g4 28 (LineV.cells (LineV.mk (TrackV.mk (Slc.mk kA l.Track.length kC)) l.Fast (Slc.mk cA l.Clocks.length cC) (Slc.mk bA l.Beams.length bC) l.Finish 0 0))), (own a12 c13 3 1 ((whereV l r).map iC)), (blk b3 69 (RideV.cells (RideV.mk r.Start r.Now (Slc.mk sgA r.Signals.length sgC)))), (blk b2 28 (LineV.cells (LineV.mk (TrackV.mk (Slc.mk kA l.Track.length kC)) l.Fast (Slc.mk cA l.Clocks.length cC) (Slc.mk bA l.Beams.length bC) l.Finish l.Fakes l.Misses))), (rd kA l.Track.length 9 (l.Track.map StretchV.cells)).ro, (rd cA l.Clocks.length 2 (List.zipWith ClockM.cells l.Clocks az)).ro, (bun (nest ClockM.rds l.Clocks az)).ro, (rd bA l.Beams.length 4 (l.Beams.map BeamV.cells)).ro, (rd sgA r.Signals.length 2 (r.Signals.map SignalV.cells)).ro]) ?_ fun K68 hK68 => ?_
       · intro _
         try dsimp only
         refine w_seq fun _ hK69 => ?_
         refine WS fun _ hK70 => ?_
         refine rS (MV rfl) ?_
         refine rS (LN rfl ut57) ?_
         refine rS (MV rfl) ?_
         refine RK hK70 ?_
         refine w_block ?_
         have hinit : (0 ≤ (whereV l r).length) := by exact Nat.zero_le _
         refine w_loop (ι := { z : Nat // (z ≤ (whereV l r).length) }) (fun z => [(3, (Value.pointer (some ⟨b2, 0, none⟩))), (4, (Value.pointer (some ⟨b3, 0, none⟩))), (7, (Value.bool true)), (8, (Value.slice a12 ((whereV l r).length) c13)), (9, (Value.int .i64 (openE l r 0))), (13, (Value.pointer (some ⟨g4, 0, none⟩))), (15, (Value.pointer (some ⟨b60, 0, none⟩))), (16, (Value.slice a66 ((whereV (LineM.mk l.Track (l.Fast + (by_ % 500)) l.Clocks l.Beams l.Finish l.Fakes l.Misses) r).length) c67)), (17, (Value.int .i64 (openE (LineM.mk l.Track (l.Fast + (by_ % 500)) l.Clocks l.Beams l.Finish l.Fakes l.Misses) r 0))), (74, (Value.slice (some ⟨b22, 0, none⟩) 3 3)), (75, (Value.int .i64 3)), (76, (Value.int .i64 2)), (99, (Value.slice a12 ((whereV l r).length) c13)), (100, (Value.int .i64 (((whereV l r).length : Nat) : Int))), (101, (Value.int .i64 ((z.1 : Nat) : Int)))]) (fun z => [(own a66 c67 3 1 ((whereV (LineM.mk l.Track (l.Fast + (by_ % 500)) l.Clocks l.Beams l.Finish l.Fakes l.Misses) r).map iC)), (blk b60 28 (LineV.cells (LineV.mk (TrackV.mk (Slc.mk kA l.Track.length kC)) (l.Fast + (by_ % 500)) (Slc.mk cA l.Clocks.length cC) (Slc.mk bA l.Beams.length bC) l.Finish l.Fakes l.Misses))), (blk b22 28 ((LineV.cells (LineV.mk (TrackV.mk (Slc.mk kA l.Track.length kC)) l.Fast (Slc.mk cA l.Clocks.length cC) (Slc.mk bA l.Beams.length bC) l.Finish (l.Fakes + 1) l.Misses)) ++ (LineV.cells (LineV.mk (TrackV.mk (Slc.mk kA l.Track.length kC)) l.Fast (Slc.mk cA l.Clocks.length cC) (Slc.mk bA l.Beams.length bC) l.Finish l.Fakes (l.Misses + 1))) ++ (LineV.cells (LineV.mk (TrackV.mk (Slc.mk kA l.Track.length kC)) (l.Fast + (by_ % 500)) (Slc.mk cA l.Clocks.length cC) (Slc.mk bA l.Beams.length bC) l.Finish l.Fakes l.Misses)))), (blk g4 28 (LineV.cells (LineV.mk (TrackV.mk (Slc.mk kA l.Track.length kC)) l.Fast (Slc.mk cA l.Clocks.length cC) (Slc.mk bA l.Beams.length bC) l.Finish 0 0))), (own a12 c13 3 1 ((whereV l r).map iC)), (blk b3 69 (RideV.cells (RideV.mk r.Start r.Now (Slc.mk sgA r.Signals.length sgC)))), (blk b2 28 (LineV.cells (LineV.mk (TrackV.mk (Slc.mk kA l.Track.length kC)) l.Fast (Slc.mk cA l.Clocks.length cC) (Slc.mk bA l.Beams.length bC) l.Finish l.Fakes l.Misses))), (rd kA l.Track.length 9 (l.Track.map StretchV.cells)).ro, (rd cA l.Clocks.length 2 (List.zipWith ClockM.cells l.Clocks az)).ro, (bun (nest ClockM.rds l.Clocks az)).ro, (rd bA l.Beams.length 4 (l.Beams.map BeamV.cells)).ro, (rd sgA r.Signals.length 2 (r.Signals.map SignalV.cells)).ro]) (fun z => (whereV l r).length - z.1) ⟨0, hinit⟩ (Sub.cons rfl <| Sub.cons rfl <| Sub.cons rfl <| Sub.cons rfl <| Sub.cons rfl <| Sub.cons rfl <| Sub.cons rfl <| Sub.cons rfl <| Sub.cons rfl <| Sub.cons rfl <| Sub.cons rfl <| Sub.cons rfl <| Sub.cons rfl <| Sub.cons rfl <| Sub.cons rfl <| Sub.nil _) (fun w hs => St.sel [0, 1, 2, 3, 4, 5, 6, 7, 8, 9, 10, 11] rfl rfl hs) ?_
         clear hinit
         rintro ⟨b, hl16_0⟩ J71 hJ71
         try dsimp only
         refine WS fun _ hK72 => ?_
         refine rS (BI rfl b_lss) ?_
         refine RK hK72 ?_
         refine w_seq fun _ hK73 => ?_
         refine w_if rfl (fun h74 => ?_) (fun h74 => ?_)
         · replace h74 := DT h74
           refine WK hK73 ?_
           refine w_seq fun _ hK75 => ?_
           refine w_block ?_
           refine WS fun _ hK76 => ?_
           obtain ⟨x, hx⟩ : ∃ y_, (whereV l r)[b]? = some y_ := ⟨(whereV l r)[b]'(by omega), List.getElem?_eq_getElem _⟩
           have hxm : ((whereV l r).map iC)[b]? = some (iC x) := by rw [List.getElem?_map, hx]; rfl
           refine rS (IA b rfl (has_own_n (n := (whereV l r).length) 4 rfl (by simp)) te57 (by decide) (by omega) (by omega)) ?_
           refine rS (LE1 b 0 (Value.int .i64 x) rfl tk3 (has_own_n (n := (whereV l r).length) 4 rfl (by simp)) hxm rfl (by decide) rfl) ?_
           refine rS (AG rfl) ?_
           refine RK hK76 ?_
           refine WS fun _ hK77 => ?_
           refine rS (MV rfl) ?_
           refine rS (MV rfl) ?_
           refine rS (CL (has_c (whereV (LineM.mk l.Track (l.Fast + (by_ % 500)) l.Clocks l.Beams l.Finish l.Fakes l.Misses) r) a66 c67 x (by exact Nat.le_trans whereV_len (by decide))) (ha_cons (has_own_n (n := (whereV (LineM.mk l.Track (l.Fast + (by_ % 500)) l.Clocks l.Beams l.Finish l.Fakes l.Misses) r).length) 0 rfl (by simp)) <| ha_nil) rfl) ?_
           refine rS (NT rfl) ?_
           refine RK hK77 ?_
           refine w_if rfl (fun h108 => ?_) (fun h108 => ?_)
           · replace h108 := XT h108
             exact absurd (hle.where_ (List.mem_of_getElem? hx)) h108
           replace h108 := XF h108
           refine w_skip ?_
           refine k_block ?_
           refine KK hK75 ?_
           refine w_region ?_
           refine rS (BI rfl (b_add ⟨by omega, by omega⟩)) ?_
           refine rS (MV rfl) ?_
           refine r_nil ?_
           have hb78 : (Value.int .i64 (((b + 1) : Nat) : Int)) = (Value.int .i64 (((b : Nat) : Int) + 1)) := by exact congrArg (Value.int .i64) (by omega)
           refine k_then (hJ71 ⟨(b + 1), (by first | omega | (simp only []; omega))⟩ _ _ _ rfl (by first | omega | (simp; omega)) (Sub.cons rfl <| Sub.cons rfl <| Sub.cons rfl <| Sub.cons rfl <| Sub.cons rfl <| Sub.cons rfl <| Sub.cons rfl <| Sub.cons rfl <| Sub.cons rfl <| Sub.cons rfl <| Sub.cons rfl <| Sub.cons rfl <| Sub.cons rfl <| Sub.cons rfl <| sub_val rfl hb78 <| Sub.nil _) (fun w hs => St.sel [0, 1, 2, 3, 4, 5, 6, 7, 8, 9, 10, 11] rfl rfl hs))
         replace h74 := DF h74
         refine w_exit ?_
         refine k_exit_then ?_
         refine k_exit_then ?_
         refine k_exit_same ?_
         refine KK hK69 ?_
         refine WS fun _ hK79 => ?_
         refine rS (FA 3 rfl fo28_3 rfl) ?_
         refine rS (L1 (Value.slice bA l.Beams.length bC) 6 rfl tk26 rfl rfl) ?_
         refine rS (LN rfl ut26) ?_
         refine rS (MV rfl) ?_
         refine RK hK79 ?_
         refine w_block ?_
         have hinit : (0 ≤ l.Beams.length) := by exact Nat.zero_le _
         refine w_loop (ι := { z : Nat // (z ≤ l.Beams.length) }) (fun z => [(3, (Value.pointer (some ⟨b2, 0, none⟩))), (4, (Value.pointer (some ⟨b3, 0, none⟩))), (7, (Value.bool true)), (8, (Value.slice a12 ((whereV l r).length) c13)), (9, (Value.int .i64 (openE l r 0))), (13, (Value.pointer (some ⟨g4, 0, none⟩))), (15, (Value.pointer (some ⟨b60, 0, none⟩))), (16, (Value.slice a66 ((whereV (LineM.mk l.Track (l.Fast + (by_ % 500)) l.Clocks l.Beams l.Finish l.Fakes l.Misses) r).length) c67)), (17, (Value.int .i64 (openE (LineM.mk l.Track (l.Fast + (by_ % 500)) l.Clocks l.Beams l.Finish l.Fakes l.Misses) r 0))), (74, (Value.slice (some ⟨b22, 0, none⟩) 3 3)), (75, (Value.int .i64 3)), (76, (Value.int .i64 2)), (112, (Value.int .i64 ((l.Beams.length : Nat) : Int))), (113, (Value.int .i64 ((z.1 : Nat) : Int)))]) (fun z => [(own a66 c67 3 1 ((whereV (LineM.mk l.Track (l.Fast + (by_ % 500)) l.Clocks l.Beams l.Finish l.Fakes l.Misses) r).map iC)), (blk b60 28 (LineV.cells (LineV.mk (TrackV.mk (Slc.mk kA l.Track.length kC)) (l.Fast + (by_ % 500)) (Slc.mk cA l.Clocks.length cC) (Slc.mk bA l.Beams.length bC) l.Finish l.Fakes l.Misses))), (blk b22 28 ((LineV.cells (LineV.mk (TrackV.mk (Slc.mk kA l.Track.length kC)) l.Fast (Slc.mk cA l.Clocks.length cC) (Slc.mk bA l.Beams.length bC) l.Finish (l.Fakes + 1) l.Misses)) ++ (LineV.cells (LineV.mk (TrackV.mk (Slc.mk kA l.Track.length kC)) l.Fast (Slc.mk cA l.Clocks.length cC) (Slc.mk bA l.Beams.length bC) l.Finish l.Fakes (l.Misses + 1))) ++ (LineV.cells (LineV.mk (TrackV.mk (Slc.mk kA l.Track.length kC)) (l.Fast + (by_ % 500)) (Slc.mk cA l.Clocks.length cC) (Slc.mk bA l.Beams.length bC) l.Finish l.Fakes l.Misses)))), (blk g4 28 (LineV.cells (LineV.mk (TrackV.mk (Slc.mk kA l.Track.length kC)) l.Fast (Slc.mk cA l.Clocks.length cC) (Slc.mk bA l.Beams.length bC) l.Finish 0 0))), (own a12 c13 3 1 ((whereV l r).map iC)), (blk b3 69 (RideV.cells (RideV.mk r.Start r.Now (Slc.mk sgA r.Signals.length sgC)))), (blk b2 28 (LineV.cells (LineV.mk (TrackV.mk (Slc.mk kA l.Track.length kC)) l.Fast (Slc.mk cA l.Clocks.length cC) (Slc.mk bA l.Beams.length bC) l.Finish l.Fakes l.Misses))), (rd kA l.Track.length 9 (l.Track.map StretchV.cells)).ro, (rd cA l.Clocks.length 2 (List.zipWith ClockM.cells l.Clocks az)).ro, (bun (nest ClockM.rds l.Clocks az)).ro, (rd bA l.Beams.length 4 (l.Beams.map BeamV.cells)).ro, (rd sgA r.Signals.length 2 (r.Signals.map SignalV.cells)).ro]) (fun z => l.Beams.length - z.1) ⟨0, hinit⟩ (Sub.cons rfl <| Sub.cons rfl <| Sub.cons rfl <| Sub.cons rfl <| Sub.cons rfl <| Sub.cons rfl <| Sub.cons rfl <| Sub.cons rfl <| Sub.cons rfl <| Sub.cons rfl <| Sub.cons rfl <| Sub.cons rfl <| Sub.cons rfl <| Sub.cons rfl <| Sub.nil _) (fun w hs => St.sel [0, 1, 2, 3, 4, 5, 6, 7, 8, 9, 10, 11] rfl rfl hs) ?_
         clear hinit
         rintro ⟨b, hl22_0⟩ J80 hJ80
         try dsimp only
         refine WS fun _ hK81 => ?_
         refine rS (BI rfl b_lss) ?_
         refine RK hK81 ?_
         refine w_seq fun _ hK82 => ?_
         refine w_if rfl (fun h83 => ?_) (fun h83 => ?_)
         rotate_left 1
         · replace h83 := DF h83
           refine w_exit ?_
           refine k_exit_then ?_
           refine k_exit_then ?_
           refine k_exit_same ?_
           refine k_block ?_
           refine k_then (k_sub (Sub.cons rfl <| Sub.cons rfl <| Sub.cons rfl <| Sub.cons rfl <| Sub.cons rfl <| Sub.cons rfl <| Sub.cons rfl <| Sub.cons rfl <| Sub.cons rfl <| Sub.nil _) (fun w hs => St.sel [2, 3, 4, 5, 6, 7, 8, 9, 10, 11] rfl rfl hs) (hK34 ()))
         replace h83 := DT h83
         refine WK hK82 ?_
         refine w_seq fun _ hK84 => ?_
         refine w_block ?_
         refine WS fun _ hK85 => ?_
         refine rS (MV rfl) ?_
         refine rS (AG rfl) ?_
         refine RK hK85 ?_
         refine WS fun _ hK86 => ?_
         refine rS (LW 6 rfl tk28 rfl rfl) ?_
         refine rS (LW 5 rfl tk69 rfl rfl) ?_
         refine rS (MV rfl) ?_
         refine rS (CL (Passed_c l kA kC az cA cC bA bC r sgA sgC ((b : Nat) : Int) (by exact hin) (by show r.Signals.length ≤ 1000000; omega)) (ha_at 7 rfl rfl <| ha_at 8 rfl rfl <| ha_at 9 rfl rfl <| ha_at 10 rfl rfl <| ha_at 11 rfl rfl <| ha_nil) rfl) ?_
         refine rS (MV rfl) ?_
         refine rS (EX rfl) ?_
         refine rS (EX rfl) ?_
         refine AL rfl tz34 fun b87 => ?_
         refine SW0 rfl ts34 rfl ?_
         refine rS (AG rfl) ?_
         refine RK hK86 ?_
         refine WS fun _ hK88 => ?_
         refine rS (LW 2 rfl tk28 rfl rfl) ?_
         refine rS (LW 6 rfl tk69 rfl rfl) ?_
         refine rS (MV rfl) ?_
         refine rS (CL (Passed_c (LineM.mk l.Track (l.Fast + (by_ % 500)) l.Clocks l.Beams l.Finish l.Fakes l.Misses) kA kC az cA cC bA bC r sgA sgC ((b : Nat) : Int) (by exact hin.more) (by show r.Signals.length ≤ 1000000; omega)) (ha_at 8 rfl rfl <| ha_at 9 rfl rfl <| ha_at 10 rfl rfl <| ha_at 11 rfl rfl <| ha_at 12 rfl rfl <| ha_nil) rfl) ?_
         refine rS (MV rfl) ?_
         refine rS (EX rfl) ?_
         refine rS (EX rfl) ?_
         refine AL rfl tz34 fun b89 => ?_
         refine SW0 rfl ts34 rfl ?_
         refine rS (AG rfl) ?_
         refine RK hK88 ?_
         refine WS fun _ hK90 => ?_
         refine rS (MV rfl) ?_
         refine rS (BI rfl b_eql) ?_
         refine rS (MV rfl) ?_
         refine r_bool (t := 132) rfl (fun h132 => ?_) (fun h132 => ?_)
         rotate_left 1
         · replace h132 := DF h132
           refine rS (OX rfl) ?_
           refine rS (OX rfl) ?_
           refine rS (OX rfl) ?_
           refine rS (OX rfl) ?_
           refine rS (OX rfl) ?_
           refine rS (OX rfl) ?_
           refine rS (OX rfl) ?_
           refine rS (OX rfl) ?_
           refine rS (OX rfl) ?_
           refine rS (OX rfl) ?_
           refine rS (OX rfl) ?_
           refine rS (OX rfl) ?_
           refine rS (OX rfl) ?_
           refine rS (OX rfl) ?_
           refine rS (OX rfl) ?_
           refine rS (OX rfl) ?_
           refine rS (PK rfl) ?_
           refine RK hK90 ?_
           refine w_if_false rfl ?_
           refine w_skip ?_
           refine k_block ?_
           refine KK hK84 ?_
           refine w_region ?_
           refine rS (BI rfl (b_add ⟨by omega, by omega⟩)) ?_
           refine rS (MV rfl) ?_
           refine r_nil ?_
           have hb92 : (Value.int .i64 (((b + 1) : Nat) : Int)) = (Value.int .i64 (((b : Nat) : Int) + 1)) := by exact congrArg (Value.int .i64) (by omega)
           refine k_then (hJ80 ⟨(b + 1), (by first | omega | (simp only []; omega))⟩ _ _ _ rfl (by first | omega | (simp; omega)) (Sub.cons rfl <| Sub.cons rfl <| Sub.cons rfl <| Sub.cons rfl <| Sub.cons rfl <| Sub.cons rfl <| Sub.cons rfl <| Sub.cons rfl <| Sub.cons rfl <| Sub.cons rfl <| Sub.cons rfl <| Sub.cons rfl <| Sub.cons rfl <| sub_val rfl hb92 <| Sub.nil _) (fun w hs => St.sel [2, 3, 4, 5, 6, 7, 8, 9, 10, 11, 12, 13] rfl rfl hs))
         replace h132 := DT h132
         refine rS (MV rfl) ?_
         refine rS (BI rfl b_neq) ?_
         refine rS (MV rfl) ?_
         refine r_bool (t := 135) rfl (fun h135 => ?_) (fun h135 => ?_)
         · replace h135 := XT h135
           exact absurd (hle.passed (b := b) (by omega) h132).1 h135
         replace h135 := XF h135
         refine rS (FA 0 rfl fo34_0 rfl) ?_
         have hps := hle.passed (b := b) (by omega) h132
         refine rS (L1 (Value.int .i64 ((passedV (LineM.mk l.Track (l.Fast + (by_ % 500)) l.Clocks l.Beams l.Finish l.Fakes l.Misses) r ((b : Nat) : Int)).Lo)) 0 rfl tk3 rfl rfl) ?_
         refine rS (FA 0 rfl fo34_0 rfl) ?_
         refine rS (L1 (Value.int .i64 ((passedV l r ((b : Nat) : Int)).Lo)) 1 rfl tk3 rfl rfl) ?_
         refine rS (BI rfl b_gtr) ?_
         refine rS (PK rfl) ?_
         refine rS (MV rfl) ?_
         refine r_bool (t := 142) rfl (fun h142 => ?_) (fun h142 => ?_)
         · replace h142 := DT h142
           exfalso; omega
         replace h142 := DF h142
         refine rS (FA 1 rfl fo34_1 rfl) ?_
         refine rS (L1 (Value.int .i64 ((passedV (LineM.mk l.Track (l.Fast + (by_ % 500)) l.Clocks l.Beams l.Finish l.Fakes l.Misses) r ((b : Nat) : Int)).Hi)) 0 rfl tk3 rfl rfl) ?_
         refine rS (FA 1 rfl fo34_1 rfl) ?_
         refine rS (L1 (Value.int .i64 ((passedV l r ((b : Nat) : Int)).Hi)) 1 rfl tk3 rfl rfl) ?_
         refine rS (BI rfl b_lss) ?_
         refine rS (PK rfl) ?_
         refine rS (PK rfl) ?_
         refine RK hK90 ?_
         refine w_if rfl (fun h149 => ?_) (fun h149 => ?_)
         · replace h149 := DT h149
           exfalso; omega
         replace h149 := DF h149
         refine w_skip ?_
         refine k_block ?_
         refine KK hK84 ?_
         refine w_region ?_
         refine rS (BI rfl (b_add ⟨by omega, by omega⟩)) ?_
         refine rS (MV rfl) ?_
         refine r_nil ?_
         have hb91 : (Value.int .i64 (((b + 1) : Nat) : Int)) = (Value.int .i64 (((b : Nat) : Int) + 1)) := by exact congrArg (Value.int .i64) (by omega)
         refine k_then (hJ80 ⟨(b + 1), (by first | omega | (simp only []; omega))⟩ _ _ _ rfl (by first | omega | (simp; omega)) (Sub.cons rfl <| Sub.cons rfl <| Sub.cons rfl <| Sub.cons rfl <| Sub.cons rfl <| Sub.cons rfl <| Sub.cons rfl <| Sub.cons rfl <| Sub.cons rfl <| Sub.cons rfl <| Sub.cons rfl <| Sub.cons rfl <| Sub.cons rfl <| sub_val rfl hb91 <| Sub.nil _) (fun w hs => St.sel [2, 3, 4, 5, 6, 7, 8, 9, 10, 11, 12, 13] rfl rfl hs))
       refine WS fun _ hK93 => ?_
       refine rS (MV rfl) ?_
       refine rS (BI rfl b_neq) ?_
       refine rS (MV rfl) ?_
       refine r_bool (t := 91) rfl (fun h91 => ?_) (fun h91 => ?_)
       rotate_left 1
       · replace h91 := XF h91
         refine rS (OX rfl) ?_
         refine rS (OX rfl) ?_
         refine rS (OX rfl) ?_
         refine rS (OX rfl) ?_
         refine rS (OX rfl) ?_
         refine rS (OX rfl) ?_
         refine rS (PK rfl) ?_
         refine RK hK93 ?_
         refine w_if_false rfl ?_
         refine w_skip ?_
         refine k_then (k_sub (Sub.cons rfl <| Sub.cons rfl <| Sub.cons rfl <| Sub.cons rfl <| Sub.cons rfl <| Sub.cons rfl <| Sub.cons rfl <| Sub.cons rfl <| Sub.cons rfl <| Sub.cons rfl <| Sub.cons rfl <| Sub.cons rfl <| Sub.nil _) (fun w hs => St.sel [0, 1, 2, 3, 4, 5, 6, 7, 8, 9, 10, 11] rfl rfl hs) (hK68 ()))
       replace h91 := XT h91
       refine rS (MV rfl) ?_
       refine rS (BI rfl b_neq) ?_
       refine rS (MV rfl) ?_
       refine r_bool (t := 94) rfl (fun h94 => ?_) (fun h94 => ?_)
       · replace h94 := XT h94
         exact absurd (hle.bad' h91) h94
       replace h94 := XF h94
       refine rS (MV rfl) ?_
       refine rS (BI rfl b_eql) ?_
       refine rS (PK rfl) ?_
       refine rS (PK rfl) ?_
       refine RK hK93 ?_
       refine w_if rfl (fun h98 => ?_) (fun h98 => ?_)
       · replace h98 := DT h98
         exact absurd (hle.ok h98) h91
       replace h98 := DF h98
       refine w_skip ?_
       refine k_then (k_sub (Sub.cons rfl <| Sub.cons rfl <| Sub.cons rfl <| Sub.cons rfl <| Sub.cons rfl <| Sub.cons rfl <| Sub.cons rfl <| Sub.cons rfl <| Sub.cons rfl <| Sub.cons rfl <| Sub.cons rfl <| Sub.cons rfl <| Sub.nil _) (fun w hs => St.sel [0, 1, 2, 3, 4, 5, 6, 7, 8, 9, 10, 11] rfl rfl hs) (hK68 ()))
     refine w_block ?_
     refine WS fun _ hK94 => ?_
     refine rS (IAB 1 7 rfl te74 rfl (by decide) rfl) ?_
     refine rS (LP (LineV.cells (LineV.mk (TrackV.mk (Slc.mk kA l.Track.length kC)) l.Fast (Slc.mk cA l.Clocks.length cC) (Slc.mk bA l.Beams.length bC) l.Finish l.Fakes (l.Misses + 1))) 0 rfl tk28 rfl rfl rfl) ?_
     refine AL rfl tz28 fun b95 => ?_
     refine SW0 rfl ts28 rfl ?_
     refine RK hK94 ?_
     refine w_seq fun _ hK96 => ?_
     refine WS fun _ hK97 => ?_
     refine rS (LW 0 rfl tk28 rfl rfl) ?_
     refine rS (CL (ready_c (LineM.mk l.Track l.Fast l.Clocks l.Beams l.Finish l.Fakes (l.Misses + 1)) kA kC az cA cC bA bC (by exact hraw.more)) (ha_at 6 rfl rfl <| ha_at 7 rfl rfl <| ha_at 8 rfl rfl <| ha_at 9 rfl rfl <| ha_nil) rfl) ?_
     refine rS (NT rfl) ?_
     refine RK hK97 ?_
     refine w_if rfl (fun h82 => ?_) (fun h82 => ?_)
     · replace h82 := XT h82
       refine w_exit ?_
       refine k_exit_then ?_
       refine k_exit_same ?_
       refine k_then (k_sub (Sub.cons rfl <| Sub.cons rfl <| Sub.cons rfl <| Sub.cons rfl <| Sub.cons rfl <| Sub.cons rfl <| Sub.cons rfl <| Sub.cons rfl <| Sub.cons rfl <| Sub.nil _) (fun w hs => St.sel [1, 2, 3, 4, 5, 6, 7, 8, 9, 10] rfl rfl hs) (hK30 ()))
     replace h82 := XF h82
     refine WK hK96 ?_
     refine WS fun _ hK98 => ?_
     refine rS (LW 0 rfl tk28 rfl rfl) ?_
     refine rS (LW 4 rfl tk69 rfl rfl) ?_
     have hle := more_le h33.2 h82.2 h39 (by first | omega | exact Int.le_refl _) (by first | omega | exact Int.le_refl _) (by first | omega | exact Int.le_refl _)
     refine cX (Where_c (LineM.mk l.Track l.Fast l.Clocks l.Beams l.Finish l.Fakes (l.Misses + 1)) kA kC az cA cC bA bC r sgA sgC (by exact hin.more) (by show r.Signals.length ≤ 1000000; omega)) (ha_at 6 rfl rfl <| ha_at 7 rfl rfl <| ha_at 8 rfl rfl <| ha_at 9 rfl rfl <| ha_at 10 rfl rfl <| ha_nil) rfl fun y99 hy100 => ?_
     obtain ⟨a101, c102⟩ := y99
     try dsimp only
     refine rS (MV rfl) ?_
     refine rS (EX rfl) ?_
     refine rS (EX rfl) ?_
     refine rS (AG rfl) ?_
     refine rS (AG rfl) ?_
     refine RK hK98 ?_
     refine w_join (ι := Unit) (fun z => [(3, (Value.pointer (some ⟨b2, 0, none⟩))), (4, (Value.pointer (some ⟨b3, 0, none⟩))), (7, (Value.bool true)), (8, (Value.slice a12 ((whereV l r).length) c13)), (9, (Value.int .i64 (openE l r 0))), (13, (Value.pointer (some ⟨g4, 0, none⟩))), (15, (Value.pointer (some ⟨b95, 0, none⟩))), (16, (Value.slice a101 ((whereV (LineM.mk l.Track l.Fast l.Clocks l.Beams l.Finish l.Fakes (l.Misses + 1)) r).length) c102)), (17, (Value.int .i64 (openE (LineM.mk l.Track l.Fast l.Clocks l.Beams l.Finish l.Fakes (l.Misses + 1)) r 0))), (74, (Value.slice (some ⟨b22, 0, none⟩) 3 3)), (75, (Value.int .i64 3)), (76, (Value.int .i64 1))]) (fun z => [(own a101 c102 3 1 ((whereV (LineM.mk l.Track l.Fast l.Clocks l.Beams l.Finish l.Fakes (l.Misses + 1)) r).map iC)), (blk b95 28 (LineV.cells (LineV.mk (TrackV.mk (Slc.mk kA l.Track.length kC)) l.Fast (Slc.mk cA l.Clocks.length cC) (Slc.mk bA l.Beams.length bC) l.Finish l.Fakes (l.Misses + 1)))), (blk b22 28 ((LineV.cells (LineV.mk (TrackV.mk (Slc.mk kA l.Track.length kC)) l.Fast (Slc.mk cA l.Clocks.length cC) (Slc.mk bA l.Beams.length bC) l.Finish (l.Fakes + 1) l.Misses)) ++ (LineV.cells (LineV.mk (TrackV.mk (Slc.mk kA l.Track.length kC)) l.Fast (Slc.mk cA l.Clocks.length cC) (Slc.mk bA l.Beams.length bC) l.Finish l.Fakes (l.Misses + 1))) ++ (LineV.cells (LineV.mk (TrackV.mk (Slc.mk kA l.Track.length kC)) (l.Fast + (by_ % 500)) (Slc.mk cA l.Clocks.length cC) (Slc.mk bA l.Beams.length bC) l.Finish l.Fakes l.Misses)))), (blk g4 28 (LineV.cells (LineV.mk (TrackV.mk (Slc.mk kA l.Track.length kC)) l.Fast (Slc.mk cA l.Clocks.length cC) (Slc.mk bA l.Beams.length bC) l.Finish 0 0))), (own a12 c13 3 1 ((whereV l r).map iC)), (blk b3 69 (RideV.cells (RideV.mk r.Start r.Now (Slc.mk sgA r.Signals.length sgC)))), (blk b2 28 (LineV.cells (LineV.mk (TrackV.mk (Slc.mk kA l.Track.length kC)) l.Fast (Slc.mk cA l.Clocks.length cC) (Slc.mk bA l.Beams.length bC) l.Finish l.Fakes l.Misses))), (rd kA l.Track.length 9 (l.Track.map StretchV.cells)).ro, (rd cA l.Clocks.length 2 (List.zipWith ClockM.cells l.Clocks az)).ro, (bun (nest ClockM.rds l.Clocks az)).ro, (rd bA l.Beams.length 4 (l.Beams.map BeamV.cells)).ro, (rd sgA r.Signals.length 2 (r.Signals.map SignalV.cells)).ro]) ?_ fun K103 hK103 => ?_
     · intro _
       try dsimp only
       refine w_seq fun _ hK104 => ?_
       refine WS fun _ hK105 => ?_
       refine rS (MV rfl) ?_
       refine rS (LN rfl ut57) ?_
       refine rS (MV rfl) ?_
       refine RK hK105 ?_
       refine w_block ?_
       have hinit : (0 ≤ (whereV l r).length) := by exact Nat.zero_le _
       refine w_loop (ι := { z : Nat // (z ≤ (whereV l r).length) }) (fun z => [(3, (Value.pointer (some ⟨b2, 0, none⟩))), (4, (Value.pointer (some ⟨b3, 0, none⟩))), (7, (Value.bool true)), (8, (Value.slice a12 ((whereV l r).length) c13)), (9, (Value.int .i64 (openE l r 0))), (13, (Value.pointer (some ⟨g4, 0, none⟩))), (15, (Value.pointer (some ⟨b95, 0, none⟩))), (16, (Value.slice a101 ((whereV (LineM.mk l.Track l.Fast l.Clocks l.Beams l.Finish l.Fakes (l.Misses + 1)) r).length) c102)), (17, (Value.int .i64 (openE (LineM.mk l.Track l.Fast l.Clocks l.Beams l.Finish l.Fakes (l.Misses + 1)) r 0))), (74, (Value.slice (some ⟨b22, 0, none⟩) 3 3)), (75, (Value.int .i64 3)), (76, (Value.int .i64 1)), (99, (Value.slice a12 ((whereV l r).length) c13)), (100, (Value.int .i64 (((whereV l r).length : Nat) : Int))), (101, (Value.int .i64 ((z.1 : Nat) : Int)))]) (fun z => [(own a101 c102 3 1 ((whereV (LineM.mk l.Track l.Fast l.Clocks l.Beams l.Finish l.Fakes (l.Misses + 1)) r).map iC)), (blk b95 28 (LineV.cells (LineV.mk (TrackV.mk (Slc.mk kA l.Track.length kC)) l.Fast (Slc.mk cA l.Clocks.length cC) (Slc.mk bA l.Beams.length bC) l.Finish l.Fakes (l.Misses + 1)))), (blk b22 28 ((LineV.cells (LineV.mk (TrackV.mk (Slc.mk kA l.Track.length kC)) l.Fast (Slc.mk cA l.Clocks.length cC) (Slc.mk bA l.Beams.length bC) l.Finish (l.Fakes + 1) l.Misses)) ++ (LineV.cells (LineV.mk (TrackV.mk (Slc.mk kA l.Track.length kC)) l.Fast (Slc.mk cA l.Clocks.length cC) (Slc.mk bA l.Beams.length bC) l.Finish l.Fakes (l.Misses + 1))) ++ (LineV.cells (LineV.mk (TrackV.mk (Slc.mk kA l.Track.length kC)) (l.Fast + (by_ % 500)) (Slc.mk cA l.Clocks.length cC) (Slc.mk bA l.Beams.length bC) l.Finish l.Fakes l.Misses)))), (blk g4 28 (LineV.cells (LineV.mk (TrackV.mk (Slc.mk kA l.Track.length kC)) l.Fast (Slc.mk cA l.Clocks.length cC) (Slc.mk bA l.Beams.length bC) l.Finish 0 0))), (own a12 c13 3 1 ((whereV l r).map iC)), (blk b3 69 (RideV.cells (RideV.mk r.Start r.Now (Slc.mk sgA r.Signals.length sgC)))), (blk b2 28 (LineV.cells (LineV.mk (TrackV.mk (Slc.mk kA l.Track.length kC)) l.Fast (Slc.mk cA l.Clocks.length cC) (Slc.mk bA l.Beams.length bC) l.Finish l.Fakes l.Misses))), (rd kA l.Track.length 9 (l.Track.map StretchV.cells)).ro, (rd cA l.Clocks.length 2 (List.zipWith ClockM.cells l.Clocks az)).ro, (bun (nest ClockM.rds l.Clocks az)).ro, (rd bA l.Beams.length 4 (l.Beams.map BeamV.cells)).ro, (rd sgA r.Signals.length 2 (r.Signals.map SignalV.cells)).ro]) (fun z => (whereV l r).length - z.1) ⟨0, hinit⟩ (Sub.cons rfl <| Sub.cons rfl <| Sub.cons rfl <| Sub.cons rfl <| Sub.cons rfl <| Sub.cons rfl <| Sub.cons rfl <| Sub.cons rfl <| Sub.cons rfl <| Sub.cons rfl <| Sub.cons rfl <| Sub.cons rfl <| Sub.cons rfl <| Sub.cons rfl <| Sub.cons rfl <| Sub.nil _) (fun w hs => St.sel [0, 1, 2, 3, 4, 5, 6, 7, 8, 9, 10, 11] rfl rfl hs) ?_
       clear hinit
       rintro ⟨b, hl16_0⟩ J106 hJ106
       try dsimp only
       refine WS fun _ hK107 => ?_
       refine rS (BI rfl b_lss) ?_
       refine RK hK107 ?_
       refine w_seq fun _ hK108 => ?_
       refine w_if rfl (fun h109 => ?_) (fun h109 => ?_)
       · replace h109 := DT h109
         refine WK hK108 ?_
         refine w_seq fun _ hK110 => ?_
         refine w_block ?_
         refine WS fun _ hK111 => ?_
         obtain ⟨x, hx⟩ : ∃ y_, (whereV l r)[b]? = some y_ := ⟨(whereV l r)[b]'(by omega), List.getElem?_eq_getElem _⟩
         have hxm : ((whereV l r).map iC)[b]? = some (iC x) := by rw [List.getElem?_map, hx]; rfl
         refine rS (IA b rfl (has_own_n (n := (whereV l r).length) 4 rfl (by simp)) te57 (by decide) (by omega) (by omega)) ?_
         refine rS (LE1 b 0 (Value.int .i64 x) rfl tk3 (has_own_n (n := (whereV l r).length) 4 rfl (by simp)) hxm rfl (by decide) rfl) ?_
         refine rS (AG rfl) ?_
         refine RK hK111 ?_
         refine WS fun _ hK112 => ?_
         refine rS (MV rfl) ?_
         refine rS (MV rfl) ?_
         refine rS (CL (has_c (whereV (LineM.mk l.Track l.Fast l.Clocks l.Beams l.Finish l.Fakes (l.Misses + 1)) r) a101 c102 x (by exact Nat.le_trans whereV_len (by decide))) (ha_cons (has_own_n (n := (whereV (LineM.mk l.Track l.Fast l.Clocks l.Beams l.Finish l.Fakes (l.Misses + 1)) r).length) 0 rfl (by simp)) <| ha_nil) rfl) ?_
         refine rS (NT rfl) ?_
         refine RK hK112 ?_
         refine w_if rfl (fun h108 => ?_) (fun h108 => ?_)
         · replace h108 := XT h108
           exact absurd (hle.where_ (List.mem_of_getElem? hx)) h108
         replace h108 := XF h108
         refine w_skip ?_
         refine k_block ?_
         refine KK hK110 ?_
         refine w_region ?_
         refine rS (BI rfl (b_add ⟨by omega, by omega⟩)) ?_
         refine rS (MV rfl) ?_
         refine r_nil ?_
         have hb113 : (Value.int .i64 (((b + 1) : Nat) : Int)) = (Value.int .i64 (((b : Nat) : Int) + 1)) := by exact congrArg (Value.int .i64) (by omega)
         refine k_then (hJ106 ⟨(b + 1), (by first | omega | (simp only []; omega))⟩ _ _ _ rfl (by first | omega | (simp; omega)) (Sub.cons rfl <| Sub.cons rfl <| Sub.cons rfl <| Sub.cons rfl <| Sub.cons rfl <| Sub.cons rfl <| Sub.cons rfl <| Sub.cons rfl <| Sub.cons rfl <| Sub.cons rfl <| Sub.cons rfl <| Sub.cons rfl <| Sub.cons rfl <| Sub.cons rfl <| sub_val rfl hb113 <| Sub.nil _) (fun w hs => St.sel [0, 1, 2, 3, 4, 5, 6, 7, 8, 9, 10, 11] rfl rfl hs))
       replace h109 := DF h109
       refine w_exit ?_
       refine k_exit_then ?_
       refine k_exit_then ?_
       refine k_exit_same ?_
       refine KK hK104 ?_
       refine WS fun _ hK114 => ?_
       refine rS (FA 3 rfl fo28_3 rfl) ?_
       refine rS (L1 (Value.slice bA l.Beams.length bC) 6 rfl tk26 rfl rfl) ?_
       refine rS (LN rfl ut26) ?_
       refine rS (MV rfl) ?_
       refine RK hK114 ?_
       refine w_block ?_
       have hinit : (0 ≤ l.Beams.length) := by exact Nat.zero_le _
       refine w_loop (ι := { z : Nat // (z ≤ l.Beams.length) }) (fun z => [(3, (Value.pointer (some ⟨b2, 0, none⟩))), (4, (Value.pointer (some ⟨b3, 0, none⟩))), (7, (Value.bool true)), (8, (Value.slice a12 ((whereV l r).length) c13)), (9, (Value.int .i64 (openE l r 0))), (13, (Value.pointer (some ⟨g4, 0, none⟩))), (15, (Value.pointer (some ⟨b95, 0, none⟩))), (16, (Value.slice a101 ((whereV (LineM.mk l.Track l.Fast l.Clocks l.Beams l.Finish l.Fakes (l.Misses + 1)) r).length) c102)), (17, (Value.int .i64 (openE (LineM.mk l.Track l.Fast l.Clocks l.Beams l.Finish l.Fakes (l.Misses + 1)) r 0))), (74, (Value.slice (some ⟨b22, 0, none⟩) 3 3)), (75, (Value.int .i64 3)), (76, (Value.int .i64 1)), (112, (Value.int .i64 ((l.Beams.length : Nat) : Int))), (113, (Value.int .i64 ((z.1 : Nat) : Int)))]) (fun z => [(own a101 c102 3 1 ((whereV (LineM.mk l.Track l.Fast l.Clocks l.Beams l.Finish l.Fakes (l.Misses + 1)) r).map iC)), (blk b95 28 (LineV.cells (LineV.mk (TrackV.mk (Slc.mk kA l.Track.length kC)) l.Fast (Slc.mk cA l.Clocks.length cC) (Slc.mk bA l.Beams.length bC) l.Finish l.Fakes (l.Misses + 1)))), (blk b22 28 ((LineV.cells (LineV.mk (TrackV.mk (Slc.mk kA l.Track.length kC)) l.Fast (Slc.mk cA l.Clocks.length cC) (Slc.mk bA l.Beams.length bC) l.Finish (l.Fakes + 1) l.Misses)) ++ (LineV.cells (LineV.mk (TrackV.mk (Slc.mk kA l.Track.length kC)) l.Fast (Slc.mk cA l.Clocks.length cC) (Slc.mk bA l.Beams.length bC) l.Finish l.Fakes (l.Misses + 1))) ++ (LineV.cells (LineV.mk (TrackV.mk (Slc.mk kA l.Track.length kC)) (l.Fast + (by_ % 500)) (Slc.mk cA l.Clocks.length cC) (Slc.mk bA l.Beams.length bC) l.Finish l.Fakes l.Misses)))), (blk g4 28 (LineV.cells (LineV.mk (TrackV.mk (Slc.mk kA l.Track.length kC)) l.Fast (Slc.mk cA l.Clocks.length cC) (Slc.mk bA l.Beams.length bC) l.Finish 0 0))), (own a12 c13 3 1 ((whereV l r).map iC)), (blk b3 69 (RideV.cells (RideV.mk r.Start r.Now (Slc.mk sgA r.Signals.length sgC)))), (blk b2 28 (LineV.cells (LineV.mk (TrackV.mk (Slc.mk kA l.Track.length kC)) l.Fast (Slc.mk cA l.Clocks.length cC) (Slc.mk bA l.Beams.length bC) l.Finish l.Fakes l.Misses))), (rd kA l.Track.length 9 (l.Track.map StretchV.cells)).ro, (rd cA l.Clocks.length 2 (List.zipWith ClockM.cells l.Clocks az)).ro, (bun (nest ClockM.rds l.Clocks az)).ro, (rd bA l.Beams.length 4 (l.Beams.map BeamV.cells)).ro, (rd sgA r.Signals.length 2 (r.Signals.map SignalV.cells)).ro]) (fun z => l.Beams.length - z.1) ⟨0, hinit⟩ (Sub.cons rfl <| Sub.cons rfl <| Sub.cons rfl <| Sub.cons rfl <| Sub.cons rfl <| Sub.cons rfl <| Sub.cons rfl <| Sub.cons rfl <| Sub.cons rfl <| Sub.cons rfl <| Sub.cons rfl <| Sub.cons rfl <| Sub.cons rfl <| Sub.cons rfl <| Sub.nil _) (fun w hs => St.sel [0, 1, 2, 3, 4, 5, 6, 7, 8, 9, 10, 11] rfl rfl hs) ?_
       clear hinit
       rintro ⟨b, hl22_0⟩ J115 hJ115
       try dsimp only
       refine WS fun _ hK116 => ?_
       refine rS (BI rfl b_lss) ?_
       refine RK hK116 ?_
       refine w_seq fun _ hK117 => ?_
       refine w_if rfl (fun h118 => ?_) (fun h118 => ?_)
       rotate_left 1
       · replace h118 := DF h118
         refine w_exit ?_
         refine k_exit_then ?_
         refine k_exit_then ?_
         refine k_exit_same ?_
         refine k_block ?_
         refine k_then (k_sub (Sub.cons rfl <| Sub.cons rfl <| Sub.cons rfl <| Sub.cons rfl <| Sub.cons rfl <| Sub.cons rfl <| Sub.cons rfl <| Sub.cons rfl <| Sub.cons rfl <| Sub.nil _) (fun w hs => St.sel [2, 3, 4, 5, 6, 7, 8, 9, 10, 11] rfl rfl hs) (hK30 ()))
       replace h118 := DT h118
       refine WK hK117 ?_
       refine w_seq fun _ hK119 => ?_
       refine w_block ?_
       refine WS fun _ hK120 => ?_
       refine rS (MV rfl) ?_
       refine rS (AG rfl) ?_
       refine RK hK120 ?_
       refine WS fun _ hK121 => ?_
       refine rS (LW 6 rfl tk28 rfl rfl) ?_
       refine rS (LW 5 rfl tk69 rfl rfl) ?_
       refine rS (MV rfl) ?_
       refine rS (CL (Passed_c l kA kC az cA cC bA bC r sgA sgC ((b : Nat) : Int) (by exact hin) (by show r.Signals.length ≤ 1000000; omega)) (ha_at 7 rfl rfl <| ha_at 8 rfl rfl <| ha_at 9 rfl rfl <| ha_at 10 rfl rfl <| ha_at 11 rfl rfl <| ha_nil) rfl) ?_
       refine rS (MV rfl) ?_
       refine rS (EX rfl) ?_
       refine rS (EX rfl) ?_
       refine AL rfl tz34 fun b122 => ?_
       refine SW0 rfl ts34 rfl ?_
       refine rS (AG rfl) ?_
       refine RK hK121 ?_
       refine WS fun _ hK123 => ?_
       refine rS (LW 2 rfl tk28 rfl rfl) ?_
       refine rS (LW 6 rfl tk69 rfl rfl) ?_
       refine rS (MV rfl) ?_
       refine rS (CL (Passed_c (LineM.mk l.Track l.Fast l.Clocks l.Beams l.Finish l.Fakes (l.Misses + 1)) kA kC az cA cC bA bC r sgA sgC ((b : Nat) : Int) (by exact hin.more) (by show r.Signals.length ≤ 1000000; omega)) (ha_at 8 rfl rfl <| ha_at 9 rfl rfl <| ha_at 10 rfl rfl <| ha_at 11 rfl rfl <| ha_at 12 rfl rfl <| ha_nil) rfl) ?_
       refine rS (MV rfl) ?_
       refine rS (EX rfl) ?_
       refine rS (EX rfl) ?_
       refine AL rfl tz34 fun b124 => ?_
       refine SW0 rfl ts34 rfl ?_
       refine rS (AG rfl) ?_
       refine RK hK123 ?_
       refine WS fun _ hK125 => ?_
       refine rS (MV rfl) ?_
       refine rS (BI rfl b_eql) ?_
       refine rS (MV rfl) ?_
       refine r_bool (t := 132) rfl (fun h132 => ?_) (fun h132 => ?_)
       rotate_left 1
       · replace h132 := DF h132
         refine rS (OX rfl) ?_
         refine rS (OX rfl) ?_
         refine rS (OX rfl) ?_
         refine rS (OX rfl) ?_
         refine rS (OX rfl) ?_
         refine rS (OX rfl) ?_
         refine rS (OX rfl) ?_
         refine rS (OX rfl) ?_
         refine rS (OX rfl) ?_
         refine rS (OX rfl) ?_
         refine rS (OX rfl) ?_
         refine rS (OX rfl) ?_
         refine rS (OX rfl) ?_
         refine rS (OX rfl) ?_
         refine rS (OX rfl) ?_
         refine rS (OX rfl) ?_
         refine rS (PK rfl) ?_
         refine RK hK125 ?_
         refine w_if_false rfl ?_
         refine w_skip ?_
         refine k_block ?_
         refine KK hK119 ?_
         refine w_region ?_
         refine rS (BI rfl (b_add ⟨by omega, by omega⟩)) ?_
         refine rS (MV rfl) ?_
         refine r_nil ?_
         have hb127 : (Value.int .i64 (((b + 1) : Nat) : Int)) = (Value.int .i64 (((b : Nat) : Int) + 1)) := by exact congrArg (Value.int .i64) (by omega)
         refine k_then (hJ115 ⟨(b + 1), (by first | omega | (simp only []; omega))⟩ _ _ _ rfl (by first | omega | (simp; omega)) (Sub.cons rfl <| Sub.cons rfl <| Sub.cons rfl <| Sub.cons rfl <| Sub.cons rfl <| Sub.cons rfl <| Sub.cons rfl <| Sub.cons rfl <| Sub.cons rfl <| Sub.cons rfl <| Sub.cons rfl <| Sub.cons rfl <| Sub.cons rfl <| sub_val rfl hb127 <| Sub.nil _) (fun w hs => St.sel [2, 3, 4, 5, 6, 7, 8, 9, 10, 11, 12, 13] rfl rfl hs))
       replace h132 := DT h132
       refine rS (MV rfl) ?_
       refine rS (BI rfl b_neq) ?_
       refine rS (MV rfl) ?_
       refine r_bool (t := 135) rfl (fun h135 => ?_) (fun h135 => ?_)
       · replace h135 := XT h135
         exact absurd (hle.passed (b := b) (by omega) h132).1 h135
       replace h135 := XF h135
       refine rS (FA 0 rfl fo34_0 rfl) ?_
       have hps := hle.passed (b := b) (by omega) h132
       refine rS (L1 (Value.int .i64 ((passedV (LineM.mk l.Track l.Fast l.Clocks l.Beams l.Finish l.Fakes (l.Misses + 1)) r ((b : Nat) : Int)).Lo)) 0 rfl tk3 rfl rfl) ?_
       refine rS (FA 0 rfl fo34_0 rfl) ?_
       refine rS (L1 (Value.int .i64 ((passedV l r ((b : Nat) : Int)).Lo)) 1 rfl tk3 rfl rfl) ?_
       refine rS (BI rfl b_gtr) ?_
       refine rS (PK rfl) ?_
       refine rS (MV rfl) ?_
       refine r_bool (t := 142) rfl (fun h142 => ?_) (fun h142 => ?_)
       · replace h142 := DT h142
         exfalso; omega
       replace h142 := DF h142
       refine rS (FA 1 rfl fo34_1 rfl) ?_
       refine rS (L1 (Value.int .i64 ((passedV (LineM.mk l.Track l.Fast l.Clocks l.Beams l.Finish l.Fakes (l.Misses + 1)) r ((b : Nat) : Int)).Hi)) 0 rfl tk3 rfl rfl) ?_
       refine rS (FA 1 rfl fo34_1 rfl) ?_
       refine rS (L1 (Value.int .i64 ((passedV l r ((b : Nat) : Int)).Hi)) 1 rfl tk3 rfl rfl) ?_
       refine rS (BI rfl b_lss) ?_
       refine rS (PK rfl) ?_
       refine rS (PK rfl) ?_
       refine RK hK125 ?_
       refine w_if rfl (fun h149 => ?_) (fun h149 => ?_)
       · replace h149 := DT h149
         exfalso; omega
       replace h149 := DF h149
       refine w_skip ?_
       refine k_block ?_
       refine KK hK119 ?_
       refine w_region ?_
       refine rS (BI rfl (b_add ⟨by omega, by omega⟩)) ?_
       refine rS (MV rfl) ?_
       refine r_nil ?_
       have hb126 : (Value.int .i64 (((b + 1) : Nat) : Int)) = (Value.int .i64 (((b : Nat) : Int) + 1)) := by exact congrArg (Value.int .i64) (by omega)
       refine k_then (hJ115 ⟨(b + 1), (by first | omega | (simp only []; omega))⟩ _ _ _ rfl (by first | omega | (simp; omega)) (Sub.cons rfl <| Sub.cons rfl <| Sub.cons rfl <| Sub.cons rfl <| Sub.cons rfl <| Sub.cons rfl <| Sub.cons rfl <| Sub.cons rfl <| Sub.cons rfl <| Sub.cons rfl <| Sub.cons rfl <| Sub.cons rfl <| Sub.cons rfl <| sub_val rfl hb126 <| Sub.nil _) (fun w hs => St.sel [2, 3, 4, 5, 6, 7, 8, 9, 10, 11, 12, 13] rfl rfl hs))
     refine WS fun _ hK128 => ?_
     refine rS (MV rfl) ?_
     refine rS (BI rfl b_neq) ?_
     refine rS (MV rfl) ?_
     refine r_bool (t := 91) rfl (fun h91 => ?_) (fun h91 => ?_)
     rotate_left 1
     · replace h91 := XF h91
       refine rS (OX rfl) ?_
       refine rS (OX rfl) ?_
       refine rS (OX rfl) ?_
       refine rS (OX rfl) ?_
       refine rS (OX rfl) ?_
       refine rS (OX rfl) ?_
       refine rS (PK rfl) ?_
       refine RK hK128 ?_
       refine w_if_false rfl ?_
       refine w_skip ?_
       refine k_then (k_sub (Sub.cons rfl <| Sub.cons rfl <| Sub.cons rfl <| Sub.cons rfl <| Sub.cons rfl <| Sub.cons rfl <| Sub.cons rfl <| Sub.cons rfl <| Sub.cons rfl <| Sub.cons rfl <| Sub.cons rfl <| Sub.cons rfl <| Sub.nil _) (fun w hs => St.sel [0, 1, 2, 3, 4, 5, 6, 7, 8, 9, 10, 11] rfl rfl hs) (hK103 ()))
     replace h91 := XT h91
     refine rS (MV rfl) ?_
     refine rS (BI rfl b_neq) ?_
     refine rS (MV rfl) ?_
     refine r_bool (t := 94) rfl (fun h94 => ?_) (fun h94 => ?_)
     · replace h94 := XT h94
       exact absurd (hle.bad' h91) h94
     replace h94 := XF h94
     refine rS (MV rfl) ?_
     refine rS (BI rfl b_eql) ?_
     refine rS (PK rfl) ?_
     refine rS (PK rfl) ?_
     refine RK hK128 ?_
     refine w_if rfl (fun h98 => ?_) (fun h98 => ?_)
     · replace h98 := DT h98
       exact absurd (hle.ok h98) h91
     replace h98 := DF h98
     refine w_skip ?_
     refine k_then (k_sub (Sub.cons rfl <| Sub.cons rfl <| Sub.cons rfl <| Sub.cons rfl <| Sub.cons rfl <| Sub.cons rfl <| Sub.cons rfl <| Sub.cons rfl <| Sub.cons rfl <| Sub.cons rfl <| Sub.cons rfl <| Sub.cons rfl <| Sub.nil _) (fun w hs => St.sel [0, 1, 2, 3, 4, 5, 6, 7, 8, 9, 10, 11] rfl rfl hs) (hK103 ()))
   refine w_block ?_
   refine WS fun _ hK129 => ?_
   refine rS (IAB 0 0 rfl te74 rfl (by decide) rfl) ?_
   refine rS (LP (LineV.cells (LineV.mk (TrackV.mk (Slc.mk kA l.Track.length kC)) l.Fast (Slc.mk cA l.Clocks.length cC) (Slc.mk bA l.Beams.length bC) l.Finish (l.Fakes + 1) l.Misses)) 0 rfl tk28 rfl rfl rfl) ?_
   refine AL rfl tz28 fun b130 => ?_
   refine SW0 rfl ts28 rfl ?_
   refine RK hK129 ?_
   refine w_seq fun _ hK131 => ?_
   refine WS fun _ hK132 => ?_
   refine rS (LW 0 rfl tk28 rfl rfl) ?_
   refine rS (CL (ready_c (LineM.mk l.Track l.Fast l.Clocks l.Beams l.Finish (l.Fakes + 1) l.Misses) kA kC az cA cC bA bC (by exact hraw.more)) (ha_at 9 rfl rfl <| ha_at 10 rfl rfl <| ha_at 11 rfl rfl <| ha_at 12 rfl rfl <| ha_nil) rfl) ?_
   refine rS (NT rfl) ?_
   refine RK hK132 ?_
   refine w_if rfl (fun h82 => ?_) (fun h82 => ?_)
   · replace h82 := XT h82
     refine w_exit ?_
     refine k_exit_then ?_
     refine k_exit_same ?_
     refine k_then (k_sub (Sub.cons rfl <| Sub.cons rfl <| Sub.cons rfl <| Sub.cons rfl <| Sub.cons rfl <| Sub.cons rfl <| Sub.cons rfl <| Sub.cons rfl <| Sub.cons rfl <| Sub.nil _) (fun w hs => St.sel [1, 5, 6, 7, 8, 9, 10, 11, 12, 13] rfl rfl hs) (hK26 ()))
   replace h82 := XF h82
   refine WK hK131 ?_
   refine WS fun _ hK133 => ?_
   refine rS (LW 0 rfl tk28 rfl rfl) ?_
   refine rS (LW 7 rfl tk69 rfl rfl) ?_
   have hle := more_le h33.2 h82.2 h39 (by first | omega | exact Int.le_refl _) (by first | omega | exact Int.le_refl _) (by first | omega | exact Int.le_refl _)
   refine cX (Where_c (LineM.mk l.Track l.Fast l.Clocks l.Beams l.Finish (l.Fakes + 1) l.Misses) kA kC az cA cC bA bC r sgA sgC (by exact hin.more) (by show r.Signals.length ≤ 1000000; omega)) (ha_at 9 rfl rfl <| ha_at 10 rfl rfl <| ha_at 11 rfl rfl <| ha_at 12 rfl rfl <| ha_at 13 rfl rfl <| ha_nil) rfl fun y134 hy135 => ?_
   obtain ⟨a136, c137⟩ := y134
   try dsimp only
   refine rS (MV rfl) ?_
   refine rS (EX rfl) ?_
   refine rS (EX rfl) ?_
   refine rS (AG rfl) ?_
   refine rS (AG rfl) ?_
   refine RK hK133 ?_
   refine w_join (ι := Unit) (fun z => [(3, (Value.pointer (some ⟨b2, 0, none⟩))), (4, (Value.pointer (some ⟨b3, 0, none⟩))), (7, (Value.bool true)), (8, (Value.slice a12 ((whereV l r).length) c13)), (9, (Value.int .i64 (openE l r 0))), (13, (Value.pointer (some ⟨g4, 0, none⟩))), (15, (Value.pointer (some ⟨b130, 0, none⟩))), (16, (Value.slice a136 ((whereV (LineM.mk l.Track l.Fast l.Clocks l.Beams l.Finish (l.Fakes + 1) l.Misses) r).length) c137)), (17, (Value.int .i64 (openE (LineM.mk l.Track l.Fast l.Clocks l.Beams l.Finish (l.Fakes + 1) l.Misses) r 0))), (74, (Value.slice (some ⟨b22, 0, none⟩) 3 3)), (75, (Value.int .i64 3)), (76, (Value.int .i64 0))]) (fun z => [(own a136 c137 3 1 ((whereV (LineM.mk l.Track l.Fast l.Clocks l.Beams l.Finish (l.Fakes + 1) l.Misses) r).map iC)), (blk b130 28 (LineV.cells (LineV.mk (TrackV.mk (Slc.mk kA l.Track.length kC)) l.Fast (Slc.mk cA l.Clocks.length cC) (Slc.mk bA l.Beams.length bC) l.Finish (l.Fakes + 1) l.Misses))), (blk b22 28 ((LineV.cells (LineV.mk (TrackV.mk (Slc.mk kA l.Track.length kC)) l.Fast (Slc.mk cA l.Clocks.length cC) (Slc.mk bA l.Beams.length bC) l.Finish (l.Fakes + 1) l.Misses)) ++ (LineV.cells (LineV.mk (TrackV.mk (Slc.mk kA l.Track.length kC)) l.Fast (Slc.mk cA l.Clocks.length cC) (Slc.mk bA l.Beams.length bC) l.Finish l.Fakes (l.Misses + 1))) ++ (LineV.cells (LineV.mk (TrackV.mk (Slc.mk kA l.Track.length kC)) (l.Fast + (by_ % 500)) (Slc.mk cA l.Clocks.length cC) (Slc.mk bA l.Beams.length bC) l.Finish l.Fakes l.Misses)))), (blk g4 28 (LineV.cells (LineV.mk (TrackV.mk (Slc.mk kA l.Track.length kC)) l.Fast (Slc.mk cA l.Clocks.length cC) (Slc.mk bA l.Beams.length bC) l.Finish 0 0))), (own a12 c13 3 1 ((whereV l r).map iC)), (blk b3 69 (RideV.cells (RideV.mk r.Start r.Now (Slc.mk sgA r.Signals.length sgC)))), (blk b2 28 (LineV.cells (LineV.mk (TrackV.mk (Slc.mk kA l.Track.length kC)) l.Fast (Slc.mk cA l.Clocks.length cC) (Slc.mk bA l.Beams.length bC) l.Finish l.Fakes l.Misses))), (rd kA l.Track.length 9 (l.Track.map StretchV.cells)).ro, (rd cA l.Clocks.length 2 (List.zipWith ClockM.cells l.Clocks az)).ro, (bun (nest ClockM.rds l.Clocks az)).ro, (rd bA l.Beams.length 4 (l.Beams.map BeamV.cells)).ro, (rd sgA r.Signals.length 2 (r.Signals.map SignalV.cells)).ro]) ?_ fun K138 hK138 => ?_
   · intro _
     try dsimp only
     refine w_seq fun _ hK139 => ?_
     refine WS fun _ hK140 => ?_
     refine rS (MV rfl) ?_
     refine rS (LN rfl ut57) ?_
     refine rS (MV rfl) ?_
     refine RK hK140 ?_
     refine w_block ?_
     have hinit : (0 ≤ (whereV l r).length) := by exact Nat.zero_le _
     refine w_loop (ι := { z : Nat // (z ≤ (whereV l r).length) }) (fun z => [(3, (Value.pointer (some ⟨b2, 0, none⟩))), (4, (Value.pointer (some ⟨b3, 0, none⟩))), (7, (Value.bool true)), (8, (Value.slice a12 ((whereV l r).length) c13)), (9, (Value.int .i64 (openE l r 0))), (13, (Value.pointer (some ⟨g4, 0, none⟩))), (15, (Value.pointer (some ⟨b130, 0, none⟩))), (16, (Value.slice a136 ((whereV (LineM.mk l.Track l.Fast l.Clocks l.Beams l.Finish (l.Fakes + 1) l.Misses) r).length) c137)), (17, (Value.int .i64 (openE (LineM.mk l.Track l.Fast l.Clocks l.Beams l.Finish (l.Fakes + 1) l.Misses) r 0))), (74, (Value.slice (some ⟨b22, 0, none⟩) 3 3)), (75, (Value.int .i64 3)), (76, (Value.int .i64 0)), (99, (Value.slice a12 ((whereV l r).length) c13)), (100, (Value.int .i64 (((whereV l r).length : Nat) : Int))), (101, (Value.int .i64 ((z.1 : Nat) : Int)))]) (fun z => [(own a136 c137 3 1 ((whereV (LineM.mk l.Track l.Fast l.Clocks l.Beams l.Finish (l.Fakes + 1) l.Misses) r).map iC)), (blk b130 28 (LineV.cells (LineV.mk (TrackV.mk (Slc.mk kA l.Track.length kC)) l.Fast (Slc.mk cA l.Clocks.length cC) (Slc.mk bA l.Beams.length bC) l.Finish (l.Fakes + 1) l.Misses))), (blk b22 28 ((LineV.cells (LineV.mk (TrackV.mk (Slc.mk kA l.Track.length kC)) l.Fast (Slc.mk cA l.Clocks.length cC) (Slc.mk bA l.Beams.length bC) l.Finish (l.Fakes + 1) l.Misses)) ++ (LineV.cells (LineV.mk (TrackV.mk (Slc.mk kA l.Track.length kC)) l.Fast (Slc.mk cA l.Clocks.length cC) (Slc.mk bA l.Beams.length bC) l.Finish l.Fakes (l.Misses + 1))) ++ (LineV.cells (LineV.mk (TrackV.mk (Slc.mk kA l.Track.length kC)) (l.Fast + (by_ % 500)) (Slc.mk cA l.Clocks.length cC) (Slc.mk bA l.Beams.length bC) l.Finish l.Fakes l.Misses)))), (blk g4 28 (LineV.cells (LineV.mk (TrackV.mk (Slc.mk kA l.Track.length kC)) l.Fast (Slc.mk cA l.Clocks.length cC) (Slc.mk bA l.Beams.length bC) l.Finish 0 0))), (own a12 c13 3 1 ((whereV l r).map iC)), (blk b3 69 (RideV.cells (RideV.mk r.Start r.Now (Slc.mk sgA r.Signals.length sgC)))), (blk b2 28 (LineV.cells (LineV.mk (TrackV.mk (Slc.mk kA l.Track.length kC)) l.Fast (Slc.mk cA l.Clocks.length cC) (Slc.mk bA l.Beams.length bC) l.Finish l.Fakes l.Misses))), (rd kA l.Track.length 9 (l.Track.map StretchV.cells)).ro, (rd cA l.Clocks.length 2 (List.zipWith ClockM.cells l.Clocks az)).ro, (bun (nest ClockM.rds l.Clocks az)).ro, (rd bA l.Beams.length 4 (l.Beams.map BeamV.cells)).ro, (rd sgA r.Signals.length 2 (r.Signals.map SignalV.cells)).ro]) (fun z => (whereV l r).length - z.1) ⟨0, hinit⟩ (Sub.cons rfl <| Sub.cons rfl <| Sub.cons rfl <| Sub.cons rfl <| Sub.cons rfl <| Sub.cons rfl <| Sub.cons rfl <| Sub.cons rfl <| Sub.cons rfl <| Sub.cons rfl <| Sub.cons rfl <| Sub.cons rfl <| Sub.cons rfl <| Sub.cons rfl <| Sub.cons rfl <| Sub.nil _) (fun w hs => St.sel [0, 1, 2, 3, 4, 5, 6, 7, 8, 9, 10, 11] rfl rfl hs) ?_
     clear hinit
     rintro ⟨b, hl16_0⟩ J141 hJ141
     try dsimp only
     refine WS fun _ hK142 => ?_
     refine rS (BI rfl b_lss) ?_
     refine RK hK142 ?_
     refine w_seq fun _ hK143 => ?_
     refine w_if rfl (fun h144 => ?_) (fun h144 => ?_)
     · replace h144 := DT h144
       refine WK hK143 ?_
       refine w_seq fun _ hK145 => ?_
       refine w_block ?_
       refine WS fun _ hK146 => ?_
       obtain ⟨x, hx⟩ : ∃ y_, (whereV l r)[b]? = some y_ := ⟨(whereV l r)[b]'(by omega), List.getElem?_eq_getElem _⟩
       have hxm : ((whereV l r).map iC)[b]? = some (iC x) := by rw [List.getElem?_map, hx]; rfl
       refine rS (IA b rfl (has_own_n (n := (whereV l r).length) 4 rfl (by simp)) te57 (by decide) (by omega) (by omega)) ?_
       refine rS (LE1 b 0 (Value.int .i64 x) rfl tk3 (has_own_n (n := (whereV l r).length) 4 rfl (by simp)) hxm rfl (by decide) rfl) ?_
       refine rS (AG rfl) ?_
       refine RK hK146 ?_
       refine WS fun _ hK147 => ?_
       refine rS (MV rfl) ?_
       refine rS (MV rfl) ?_
       refine rS (CL (has_c (whereV (LineM.mk l.Track l.Fast l.Clocks l.Beams l.Finish (l.Fakes + 1) l.Misses) r) a136 c137 x (by exact Nat.le_trans whereV_len (by decide))) (ha_cons (has_own_n (n := (whereV (LineM.mk l.Track l.Fast l.Clocks l.Beams l.Finish (l.Fakes + 1) l.Misses) r).length) 0 rfl (by simp)) <| ha_nil) rfl) ?_
       refine rS (NT rfl) ?_
       refine RK hK147 ?_
       refine w_if rfl (fun h108 => ?_) (fun h108 => ?_)
       · replace h108 := XT h108
         exact absurd (hle.where_ (List.mem_of_getElem? hx)) h108
       replace h108 := XF h108
       refine w_skip ?_
       refine k_block ?_
       refine KK hK145 ?_
       refine w_region ?_
       refine rS (BI rfl (b_add ⟨by omega, by omega⟩)) ?_
       refine rS (MV rfl) ?_
       refine r_nil ?_
       have hb148 : (Value.int .i64 (((b + 1) : Nat) : Int)) = (Value.int .i64 (((b : Nat) : Int) + 1)) := by exact congrArg (Value.int .i64) (by omega)
       refine k_then (hJ141 ⟨(b + 1), (by first | omega | (simp only []; omega))⟩ _ _ _ rfl (by first | omega | (simp; omega)) (Sub.cons rfl <| Sub.cons rfl <| Sub.cons rfl <| Sub.cons rfl <| Sub.cons rfl <| Sub.cons rfl <| Sub.cons rfl <| Sub.cons rfl <| Sub.cons rfl <| Sub.cons rfl <| Sub.cons rfl <| Sub.cons rfl <| Sub.cons rfl <| Sub.cons rfl <| sub_val rfl hb148 <| Sub.nil _) (fun w hs => St.sel [0, 1, 2, 3, 4, 5, 6, 7, 8, 9, 10, 11] rfl rfl hs))
     replace h144 := DF h144
     refine w_exit ?_
     refine k_exit_then ?_
     refine k_exit_then ?_
     refine k_exit_same ?_
     refine KK hK139 ?_
     refine WS fun _ hK149 => ?_
     refine rS (FA 3 rfl fo28_3 rfl) ?_
     refine rS (L1 (Value.slice bA l.Beams.length bC) 6 rfl tk26 rfl rfl) ?_
     refine rS (LN rfl ut26) ?_
     refine rS (MV rfl) ?_
     refine RK hK149 ?_
     refine w_block ?_
     have hinit : (0 ≤ l.Beams.length) := by exact Nat.zero_le _
     refine w_loop (ι := { z : Nat // (z ≤ l.Beams.length) }) (fun z => [(3, (Value.pointer (some ⟨b2, 0, none⟩))), (4, (Value.pointer (some ⟨b3, 0, none⟩))), (7, (Value.bool true)), (8, (Value.slice a12 ((whereV l r).length) c13)), (9, (Value.int .i64 (openE l r 0))), (13, (Value.pointer (some ⟨g4, 0, none⟩))), (15, (Value.pointer (some ⟨b130, 0, none⟩))), (16, (Value.slice a136 ((whereV (LineM.mk l.Track l.Fast l.Clocks l.Beams l.Finish (l.Fakes + 1) l.Misses) r).length) c137)), (17, (Value.int .i64 (openE (LineM.mk l.Track l.Fast l.Clocks l.Beams l.Finish (l.Fakes + 1) l.Misses) r 0))), (74, (Value.slice (some ⟨b22, 0, none⟩) 3 3)), (75, (Value.int .i64 3)), (76, (Value.int .i64 0)), (112, (Value.int .i64 ((l.Beams.length : Nat) : Int))), (113, (Value.int .i64 ((z.1 : Nat) : Int)))]) (fun z => [(own a136 c137 3 1 ((whereV (LineM.mk l.Track l.Fast l.Clocks l.Beams l.Finish (l.Fakes + 1) l.Misses) r).map iC)), (blk b130 28 (LineV.cells (LineV.mk (TrackV.mk (Slc.mk kA l.Track.length kC)) l.Fast (Slc.mk cA l.Clocks.length cC) (Slc.mk bA l.Beams.length bC) l.Finish (l.Fakes + 1) l.Misses))), (blk b22 28 ((LineV.cells (LineV.mk (TrackV.mk (Slc.mk kA l.Track.length kC)) l.Fast (Slc.mk cA l.Clocks.length cC) (Slc.mk bA l.Beams.length bC) l.Finish (l.Fakes + 1) l.Misses)) ++ (LineV.cells (LineV.mk (TrackV.mk (Slc.mk kA l.Track.length kC)) l.Fast (Slc.mk cA l.Clocks.length cC) (Slc.mk bA l.Beams.length bC) l.Finish l.Fakes (l.Misses + 1))) ++ (LineV.cells (LineV.mk (TrackV.mk (Slc.mk kA l.Track.length kC)) (l.Fast + (by_ % 500)) (Slc.mk cA l.Clocks.length cC) (Slc.mk bA l.Beams.length bC) l.Finish l.Fakes l.Misses)))), (blk g4 28 (LineV.cells (LineV.mk (TrackV.mk (Slc.mk kA l.Track.length kC)) l.Fast (Slc.mk cA l.Clocks.length cC) (Slc.mk bA l.Beams.length bC) l.Finish 0 0))), (own a12 c13 3 1 ((whereV l r).map iC)), (blk b3 69 (RideV.cells (RideV.mk r.Start r.Now (Slc.mk sgA r.Signals.length sgC)))), (blk b2 28 (LineV.cells (LineV.mk (TrackV.mk (Slc.mk kA l.Track.length kC)) l.Fast (Slc.mk cA l.Clocks.length cC) (Slc.mk bA l.Beams.length bC) l.Finish l.Fakes l.Misses))), (rd kA l.Track.length 9 (l.Track.map StretchV.cells)).ro, (rd cA l.Clocks.length 2 (List.zipWith ClockM.cells l.Clocks az)).ro, (bun (nest ClockM.rds l.Clocks az)).ro, (rd bA l.Beams.length 4 (l.Beams.map BeamV.cells)).ro, (rd sgA r.Signals.length 2 (r.Signals.map SignalV.cells)).ro]) (fun z => l.Beams.length - z.1) ⟨0, hinit⟩ (Sub.cons rfl <| Sub.cons rfl <| Sub.cons rfl <| Sub.cons rfl <| Sub.cons rfl <| Sub.cons rfl <| Sub.cons rfl <| Sub.cons rfl <| Sub.cons rfl <| Sub.cons rfl <| Sub.cons rfl <| Sub.cons rfl <| Sub.cons rfl <| Sub.cons rfl <| Sub.nil _) (fun w hs => St.sel [0, 1, 2, 3, 4, 5, 6, 7, 8, 9, 10, 11] rfl rfl hs) ?_
     clear hinit
     rintro ⟨b, hl22_0⟩ J150 hJ150
     try dsimp only
     refine WS fun _ hK151 => ?_
     refine rS (BI rfl b_lss) ?_
     refine RK hK151 ?_
     refine w_seq fun _ hK152 => ?_
     refine w_if rfl (fun h153 => ?_) (fun h153 => ?_)
     rotate_left 1
     · replace h153 := DF h153
       refine w_exit ?_
       refine k_exit_then ?_
       refine k_exit_then ?_
       refine k_exit_same ?_
       refine k_block ?_
       refine k_then (k_sub (Sub.cons rfl <| Sub.cons rfl <| Sub.cons rfl <| Sub.cons rfl <| Sub.cons rfl <| Sub.cons rfl <| Sub.cons rfl <| Sub.cons rfl <| Sub.cons rfl <| Sub.nil _) (fun w hs => St.sel [2, 3, 4, 5, 6, 7, 8, 9, 10, 11] rfl rfl hs) (hK26 ()))
     replace h153 := DT h153
     refine WK hK152 ?_
     refine w_seq fun _ hK154 => ?_
     refine w_block ?_
     refine WS fun _ hK155 => ?_
     refine rS (MV rfl) ?_
     refine rS (AG rfl) ?_
     refine RK hK155 ?_
     refine WS fun _ hK156 => ?_
     refine rS (LW 6 rfl tk28 rfl rfl) ?_
     refine rS (LW 5 rfl tk69 rfl rfl) ?_
     refine rS (MV rfl) ?_
     refine rS (CL (Passed_c l kA kC az cA cC bA bC r sgA sgC ((b : Nat) : Int) (by exact hin) (by show r.Signals.length ≤ 1000000; omega)) (ha_at 7 rfl rfl <| ha_at 8 rfl rfl <| ha_at 9 rfl rfl <| ha_at 10 rfl rfl <| ha_at 11 rfl rfl <| ha_nil) rfl) ?_
     refine rS (MV rfl) ?_
     refine rS (EX rfl) ?_
     refine rS (EX rfl) ?_
     refine AL rfl tz34 fun b157 => ?_
     refine SW0 rfl ts34 rfl ?_
     refine rS (AG rfl) ?_
     refine RK hK156 ?_
     refine WS fun _ hK158 => ?_
     refine rS (LW 2 rfl tk28 rfl rfl) ?_
     refine rS (LW 6 rfl tk69 rfl rfl) ?_
     refine rS (MV rfl) ?_
     refine rS (CL (Passed_c (LineM.mk l.Track l.Fast l.Clocks l.Beams l.Finish (l.Fakes + 1) l.Misses) kA kC az cA cC bA bC r sgA sgC ((b : Nat) : Int) (by exact hin.more) (by show r.Signals.length ≤ 1000000; omega)) (ha_at 8 rfl rfl <| ha_at 9 rfl rfl <| ha_at 10 rfl rfl <| ha_at 11 rfl rfl <| ha_at 12 rfl rfl <| ha_nil) rfl) ?_
     refine rS (MV rfl) ?_
     refine rS (EX rfl) ?_
     refine rS (EX rfl) ?_
     refine AL rfl tz34 fun b159 => ?_
     refine SW0 rfl ts34 rfl ?_
     refine rS (AG rfl) ?_
     refine RK hK158 ?_
     refine WS fun _ hK160 => ?_
     refine rS (MV rfl) ?_
     refine rS (BI rfl b_eql) ?_
     refine rS (MV rfl) ?_
     refine r_bool (t := 132) rfl (fun h132 => ?_) (fun h132 => ?_)
     rotate_left 1
     · replace h132 := DF h132
       refine rS (OX rfl) ?_
       refine rS (OX rfl) ?_
       refine rS (OX rfl) ?_
       refine rS (OX rfl) ?_
       refine rS (OX rfl) ?_
       refine rS (OX rfl) ?_
       refine rS (OX rfl) ?_
       refine rS (OX rfl) ?_
       refine rS (OX rfl) ?_
       refine rS (OX rfl) ?_
       refine rS (OX rfl) ?_
       refine rS (OX rfl) ?_
       refine rS (OX rfl) ?_
       refine rS (OX rfl) ?_
       refine rS (OX rfl) ?_
       refine rS (OX rfl) ?_
       refine rS (PK rfl) ?_
       refine RK hK160 ?_
       refine w_if_false rfl ?_
       refine w_skip ?_
       refine k_block ?_
       refine KK hK154 ?_
       refine w_region ?_
       refine rS (BI rfl (b_add ⟨by omega, by omega⟩)) ?_
       refine rS (MV rfl) ?_
       refine r_nil ?_
       have hb162 : (Value.int .i64 (((b + 1) : Nat) : Int)) = (Value.int .i64 (((b : Nat) : Int) + 1)) := by exact congrArg (Value.int .i64) (by omega)
       refine k_then (hJ150 ⟨(b + 1), (by first | omega | (simp only []; omega))⟩ _ _ _ rfl (by first | omega | (simp; omega)) (Sub.cons rfl <| Sub.cons rfl <| Sub.cons rfl <| Sub.cons rfl <| Sub.cons rfl <| Sub.cons rfl <| Sub.cons rfl <| Sub.cons rfl <| Sub.cons rfl <| Sub.cons rfl <| Sub.cons rfl <| Sub.cons rfl <| Sub.cons rfl <| sub_val rfl hb162 <| Sub.nil _) (fun w hs => St.sel [2, 3, 4, 5, 6, 7, 8, 9, 10, 11, 12, 13] rfl rfl hs))
     replace h132 := DT h132
     refine rS (MV rfl) ?_
     refine rS (BI rfl b_neq) ?_
     refine rS (MV rfl) ?_
     refine r_bool (t := 135) rfl (fun h135 => ?_) (fun h135 => ?_)
     · replace h135 := XT h135
       exact absurd (hle.passed (b := b) (by omega) h132).1 h135
     replace h135 := XF h135
     refine rS (FA 0 rfl fo34_0 rfl) ?_
     have hps := hle.passed (b := b) (by omega) h132
     refine rS (L1 (Value.int .i64 ((passedV (LineM.mk l.Track l.Fast l.Clocks l.Beams l.Finish (l.Fakes + 1) l.Misses) r ((b : Nat) : Int)).Lo)) 0 rfl tk3 rfl rfl) ?_
     refine rS (FA 0 rfl fo34_0 rfl) ?_
     refine rS (L1 (Value.int .i64 ((passedV l r ((b : Nat) : Int)).Lo)) 1 rfl tk3 rfl rfl) ?_
     refine rS (BI rfl b_gtr) ?_
     refine rS (PK rfl) ?_
     refine rS (MV rfl) ?_
     refine r_bool (t := 142) rfl (fun h142 => ?_) (fun h142 => ?_)
     · replace h142 := DT h142
       exfalso; omega
     replace h142 := DF h142
     refine rS (FA 1 rfl fo34_1 rfl) ?_
     refine rS (L1 (Value.int .i64 ((passedV (LineM.mk l.Track l.Fast l.Clocks l.Beams l.Finish (l.Fakes + 1) l.Misses) r ((b : Nat) : Int)).Hi)) 0 rfl tk3 rfl rfl) ?_
     refine rS (FA 1 rfl fo34_1 rfl) ?_
     refine rS (L1 (Value.int .i64 ((passedV l r ((b : Nat) : Int)).Hi)) 1 rfl tk3 rfl rfl) ?_
     refine rS (BI rfl b_lss) ?_
     refine rS (PK rfl) ?_
     refine rS (PK rfl) ?_
     refine RK hK160 ?_
     refine w_if rfl (fun h149 => ?_) (fun h149 => ?_)
     · replace h149 := DT h149
       exfalso; omega
     replace h149 := DF h149
     refine w_skip ?_
     refine k_block ?_
     refine KK hK154 ?_
     refine w_region ?_
     refine rS (BI rfl (b_add ⟨by omega, by omega⟩)) ?_
     refine rS (MV rfl) ?_
     refine r_nil ?_
     have hb161 : (Value.int .i64 (((b + 1) : Nat) : Int)) = (Value.int .i64 (((b : Nat) : Int) + 1)) := by exact congrArg (Value.int .i64) (by omega)
     refine k_then (hJ150 ⟨(b + 1), (by first | omega | (simp only []; omega))⟩ _ _ _ rfl (by first | omega | (simp; omega)) (Sub.cons rfl <| Sub.cons rfl <| Sub.cons rfl <| Sub.cons rfl <| Sub.cons rfl <| Sub.cons rfl <| Sub.cons rfl <| Sub.cons rfl <| Sub.cons rfl <| Sub.cons rfl <| Sub.cons rfl <| Sub.cons rfl <| Sub.cons rfl <| sub_val rfl hb161 <| Sub.nil _) (fun w hs => St.sel [2, 3, 4, 5, 6, 7, 8, 9, 10, 11, 12, 13] rfl rfl hs))
   refine WS fun _ hK163 => ?_
   refine rS (MV rfl) ?_
   refine rS (BI rfl b_neq) ?_
   refine rS (MV rfl) ?_
   refine r_bool (t := 91) rfl (fun h91 => ?_) (fun h91 => ?_)
   rotate_left 1
   · replace h91 := XF h91
     refine rS (OX rfl) ?_
     refine rS (OX rfl) ?_
     refine rS (OX rfl) ?_
     refine rS (OX rfl) ?_
     refine rS (OX rfl) ?_
     refine rS (OX rfl) ?_
     refine rS (PK rfl) ?_
     refine RK hK163 ?_
     refine w_if_false rfl ?_
     refine w_skip ?_
     refine k_then (k_sub (Sub.cons rfl <| Sub.cons rfl <| Sub.cons rfl <| Sub.cons rfl <| Sub.cons rfl <| Sub.cons rfl <| Sub.cons rfl <| Sub.cons rfl <| Sub.cons rfl <| Sub.cons rfl <| Sub.cons rfl <| Sub.cons rfl <| Sub.nil _) (fun w hs => St.sel [0, 1, 2, 6, 7, 8, 9, 10, 11, 12, 13, 14] rfl rfl hs) (hK138 ()))
   replace h91 := XT h91
   refine rS (MV rfl) ?_
   refine rS (BI rfl b_neq) ?_
   refine rS (MV rfl) ?_
   refine r_bool (t := 94) rfl (fun h94 => ?_) (fun h94 => ?_)
   · replace h94 := XT h94
     exact absurd (hle.bad' h91) h94
   replace h94 := XF h94
   refine rS (MV rfl) ?_
   refine rS (BI rfl b_eql) ?_
   refine rS (PK rfl) ?_
   refine rS (PK rfl) ?_
   refine RK hK163 ?_
   refine w_if rfl (fun h98 => ?_) (fun h98 => ?_)
   · replace h98 := DT h98
     exact absurd (hle.ok h98) h91
   replace h98 := DF h98
   refine w_skip ?_
   refine k_then (k_sub (Sub.cons rfl <| Sub.cons rfl <| Sub.cons rfl <| Sub.cons rfl <| Sub.cons rfl <| Sub.cons rfl <| Sub.cons rfl <| Sub.cons rfl <| Sub.cons rfl <| Sub.cons rfl <| Sub.cons rfl <| Sub.cons rfl <| Sub.nil _) (fun w hs => St.sel [0, 1, 2, 6, 7, 8, 9, 10, 11, 12, 13, 14] rfl rfl hs) (hK138 ()))
 refine w_drawN mixed [0, 1, 2, 3] [4, 5, 6, 7, 8, 9, 10, 11] [false, false, false, false] [] [(own a12 c13 3 1 ((whereV l r).map iC)), (blk b3 69 (RideV.cells (RideV.mk r.Start r.Now (Slc.mk sgA r.Signals.length sgC)))), (blk b2 28 (LineV.cells (LineV.mk (TrackV.mk (Slc.mk kA l.Track.length kC)) l.Fast (Slc.mk cA l.Clocks.length cC) (Slc.mk bA l.Beams.length bC) l.Finish l.Fakes l.Misses))), (rd kA l.Track.length 9 (l.Track.map StretchV.cells)).ro, (rd cA l.Clocks.length 2 (List.zipWith ClockM.cells l.Clocks az)).ro, (bun (nest ClockM.rds l.Clocks az)).ro, (rd bA l.Beams.length 4 (l.Beams.map BeamV.cells)).ro, (rd sgA r.Signals.length 2 (r.Signals.map SignalV.cells)).ro] [] (by kernel_rfl) (fun w hs => St.sel [0, 1, 2, 3, 4, 5, 6, 7] rfl rfl hs) (fun w hs => St.sel [] rfl rfl hs) ?_
 refine eS rfl (LW 2 rfl tk28 rfl rfl) ?_
 refine eS rfl (LW 2 rfl tk28 rfl rfl) ?_
 refine eS rfl (LW 2 rfl tk28 rfl rfl) ?_
 refine eS rfl (LW 2 rfl tk28 rfl rfl) ?_
 refine d_fin rfl ?_
 refine n_step [4, 5, 6, 7] (by kernel_rfl) (n_cons ?_ <| n_cons ?_ <| n_cons ?_ <| n_cons ?_ <| n_nil)
 rotate_left 1
 · refine n_op (rem' := [4, 6, 7, 8, 9, 10, 11]) rfl (by kernel_rfl) rfl fun T220 hT220 => ?_
   refine AL rfl tz28 fun b221 => ?_
   refine r_nil (hT220 _ _ (fun w hs => St.sel [1, 2, 3, 4, 5, 6, 7, 8] rfl rfl hs) ?_)
   refine n_step [4, 6, 7] (by kernel_rfl) (n_cons ?_ <| n_cons ?_ <| n_cons ?_ <| n_nil)
   rotate_left 1
   · refine n_op (rem' := [4, 7, 8, 9, 10, 11]) rfl (by kernel_rfl) rfl fun T240 hT240 => ?_
     refine AL rfl tz28 fun b241 => ?_
     refine r_nil (hT240 _ _ (fun w hs => St.sel [2, 3, 4, 5, 6, 7, 8, 9] rfl rfl hs) ?_)
     refine n_step [4, 7] (by kernel_rfl) (n_cons ?_ <| n_cons ?_ <| n_nil)
     rotate_left 1
     · refine n_op (rem' := [4, 8, 9, 10, 11]) rfl (by kernel_rfl) rfl fun T250 hT250 => ?_
       refine AL rfl tz28 fun b251 => ?_
       refine r_nil (hT250 _ _ (fun w hs => St.sel [3, 4, 5, 6, 7, 8, 9, 10] rfl rfl hs) ?_)
       refine n_step [4] (by kernel_rfl) (n_cons ?_ <| n_nil)
       refine n_op (rem' := [8, 9, 10, 11]) rfl (by kernel_rfl) rfl fun T252 hT252 => ?_
       refine AL rfl tz28 fun b253 => ?_
       refine r_nil (hT252 _ _ (fun w hs => St.sel [4, 5, 6, 7, 8, 9, 10, 11] rfl rfl hs) ?_)
       refine n_step [8] (by kernel_rfl) (n_cons ?_ <| n_nil)
       refine n_op (rem' := [9, 10, 11]) rfl (by kernel_rfl) rfl fun T254 hT254 => ?_
       refine SW0 rfl ts28 rfl ?_
       refine r_nil (hT254 _ _ (fun w hs => St.sel [4, 5, 6, 7, 8, 9, 10, 11] rfl rfl hs) ?_)
       refine n_step [9] (by kernel_rfl) (n_cons ?_ <| n_nil)
       refine n_op (rem' := [10, 11]) rfl (by kernel_rfl) rfl fun T255 hT255 => ?_
       refine SW3 rfl ts28 rfl ?_
       refine r_nil (hT255 _ _ (fun w hs => St.sel [4, 5, 6, 7, 8, 9, 10, 11] rfl rfl hs) ?_)
       refine n_step [10] (by kernel_rfl) (n_cons ?_ <| n_nil)
       refine n_op (rem' := [11]) rfl (by kernel_rfl) rfl fun T256 hT256 => ?_
       refine SW2 rfl ts28 rfl ?_
       refine r_nil (hT256 _ _ (fun w hs => St.sel [4, 5, 6, 7, 8, 9, 10, 11] rfl rfl hs) ?_)
       refine n_step [11] (by kernel_rfl) (n_cons ?_ <| n_nil)
       refine n_op (rem' := []) rfl (by kernel_rfl) rfl fun T257 hT257 => ?_
       refine SW1 rfl ts28 rfl ?_
       refine r_nil (hT257 _ _ (fun w hs => St.sel [4, 5, 6, 7, 8, 9, 10, 11] rfl rfl hs) ?_)
       refine n_fin ?_
       refine k_then (k_sub (Sub.cons rfl <| Sub.cons rfl <| Sub.cons rfl <| Sub.cons rfl <| Sub.cons rfl <| Sub.cons rfl <| Sub.cons rfl <| Sub.cons rfl <| Sub.cons rfl <| Sub.cons rfl <| Sub.nil _) (fun w hs => St.sel [0, 3, 2, 1, 4, 5, 6, 7, 8, 9, 10, 11] rfl rfl hs) (hK14 ⟨(b253, b221, b241, b251), trivial⟩))
     refine n_op (rem' := [7, 8, 9, 10, 11]) rfl (by kernel_rfl) rfl fun T242 hT242 => ?_
     refine AL rfl tz28 fun b243 => ?_
     refine r_nil (hT242 _ _ (fun w hs => St.sel [3, 4, 5, 6, 7, 8, 9, 10] rfl rfl hs) ?_)
     refine n_step [7] (by kernel_rfl) (n_cons ?_ <| n_nil)
     refine n_op (rem' := [8, 9, 10, 11]) rfl (by kernel_rfl) rfl fun T244 hT244 => ?_
     refine AL rfl tz28 fun b245 => ?_
     refine r_nil (hT244 _ _ (fun w hs => St.sel [4, 5, 6, 7, 8, 9, 10, 11] rfl rfl hs) ?_)
     refine n_step [8] (by kernel_rfl) (n_cons ?_ <| n_nil)
     refine n_op (rem' := [9, 10, 11]) rfl (by kernel_rfl) rfl fun T246 hT246 => ?_
     refine SW1 rfl ts28 rfl ?_
     refine r_nil (hT246 _ _ (fun w hs => St.sel [4, 5, 6, 7, 8, 9, 10, 11] rfl rfl hs) ?_)
     refine n_step [9] (by kernel_rfl) (n_cons ?_ <| n_nil)
     refine n_op (rem' := [10, 11]) rfl (by kernel_rfl) rfl fun T247 hT247 => ?_
     refine SW3 rfl ts28 rfl ?_
     refine r_nil (hT247 _ _ (fun w hs => St.sel [4, 5, 6, 7, 8, 9, 10, 11] rfl rfl hs) ?_)
     refine n_step [10] (by kernel_rfl) (n_cons ?_ <| n_nil)
     refine n_op (rem' := [11]) rfl (by kernel_rfl) rfl fun T248 hT248 => ?_
     refine SW2 rfl ts28 rfl ?_
     refine r_nil (hT248 _ _ (fun w hs => St.sel [4, 5, 6, 7, 8, 9, 10, 11] rfl rfl hs) ?_)
     refine n_step [11] (by kernel_rfl) (n_cons ?_ <| n_nil)
     refine n_op (rem' := []) rfl (by kernel_rfl) rfl fun T249 hT249 => ?_
     refine SW0 rfl ts28 rfl ?_
     refine r_nil (hT249 _ _ (fun w hs => St.sel [4, 5, 6, 7, 8, 9, 10, 11] rfl rfl hs) ?_)
     refine n_fin ?_
     refine k_then (k_sub (Sub.cons rfl <| Sub.cons rfl <| Sub.cons rfl <| Sub.cons rfl <| Sub.cons rfl <| Sub.cons rfl <| Sub.cons rfl <| Sub.cons rfl <| Sub.cons rfl <| Sub.cons rfl <| Sub.nil _) (fun w hs => St.sel [1, 3, 2, 0, 4, 5, 6, 7, 8, 9, 10, 11] rfl rfl hs) (hK14 ⟨(b243, b221, b241, b245), trivial⟩))
   · refine n_op (rem' := [4, 6, 8, 9, 10, 11]) rfl (by kernel_rfl) rfl fun T258 hT258 => ?_
     refine AL rfl tz28 fun b259 => ?_
     refine r_nil (hT258 _ _ (fun w hs => St.sel [2, 3, 4, 5, 6, 7, 8, 9] rfl rfl hs) ?_)
     refine n_step [4, 6] (by kernel_rfl) (n_cons ?_ <| n_cons ?_ <| n_nil)
     rotate_left 1
     · refine n_op (rem' := [4, 8, 9, 10, 11]) rfl (by kernel_rfl) rfl fun T268 hT268 => ?_
       refine AL rfl tz28 fun b269 => ?_
       refine r_nil (hT268 _ _ (fun w hs => St.sel [3, 4, 5, 6, 7, 8, 9, 10] rfl rfl hs) ?_)
       refine n_step [4] (by kernel_rfl) (n_cons ?_ <| n_nil)
       refine n_op (rem' := [8, 9, 10, 11]) rfl (by kernel_rfl) rfl fun T270 hT270 => ?_
       refine AL rfl tz28 fun b271 => ?_
       refine r_nil (hT270 _ _ (fun w hs => St.sel [4, 5, 6, 7, 8, 9, 10, 11] rfl rfl hs) ?_)
       refine n_step [8] (by kernel_rfl) (n_cons ?_ <| n_nil)
       refine n_op (rem' := [9, 10, 11]) rfl (by kernel_rfl) rfl fun T272 hT272 => ?_
       refine SW0 rfl ts28 rfl ?_
       refine r_nil (hT272 _ _ (fun w hs => St.sel [4, 5, 6, 7, 8, 9, 10, 11] rfl rfl hs) ?_)
       refine n_step [9] (by kernel_rfl) (n_cons ?_ <| n_nil)
       refine n_op (rem' := [10, 11]) rfl (by kernel_rfl) rfl fun T273 hT273 => ?_
       refine SW3 rfl ts28 rfl ?_
       refine r_nil (hT273 _ _ (fun w hs => St.sel [4, 5, 6, 7, 8, 9, 10, 11] rfl rfl hs) ?_)
       refine n_step [10] (by kernel_rfl) (n_cons ?_ <| n_nil)
       refine n_op (rem' := [11]) rfl (by kernel_rfl) rfl fun T274 hT274 => ?_
       refine SW1 rfl ts28 rfl ?_
       refine r_nil (hT274 _ _ (fun w hs => St.sel [4, 5, 6, 7, 8, 9, 10, 11] rfl rfl hs) ?_)
       refine n_step [11] (by kernel_rfl) (n_cons ?_ <| n_nil)
       refine n_op (rem' := []) rfl (by kernel_rfl) rfl fun T275 hT275 => ?_
       refine SW2 rfl ts28 rfl ?_
       refine r_nil (hT275 _ _ (fun w hs => St.sel [4, 5, 6, 7, 8, 9, 10, 11] rfl rfl hs) ?_)
       refine n_fin ?_
       refine k_then (k_sub (Sub.cons rfl <| Sub.cons rfl <| Sub.cons rfl <| Sub.cons rfl <| Sub.cons rfl <| Sub.cons rfl <| Sub.cons rfl <| Sub.cons rfl <| Sub.cons rfl <| Sub.cons rfl <| Sub.nil _) (fun w hs => St.sel [0, 3, 1, 2, 4, 5, 6, 7, 8, 9, 10, 11] rfl rfl hs) (hK14 ⟨(b271, b221, b269, b259), trivial⟩))
     refine n_op (rem' := [6, 8, 9, 10, 11]) rfl (by kernel_rfl) rfl fun T260 hT260 => ?_
     refine AL rfl tz28 fun b261 => ?_
     refine r_nil (hT260 _ _ (fun w hs => St.sel [3, 4, 5, 6, 7, 8, 9, 10] rfl rfl hs) ?_)
     refine n_step [6] (by kernel_rfl) (n_cons ?_ <| n_nil)
     refine n_op (rem' := [8, 9, 10, 11]) rfl (by kernel_rfl) rfl fun T262 hT262 => ?_
     refine AL rfl tz28 fun b263 => ?_
     refine r_nil (hT262 _ _ (fun w hs => St.sel [4, 5, 6, 7, 8, 9, 10, 11] rfl rfl hs) ?_)
     refine n_step [8] (by kernel_rfl) (n_cons ?_ <| n_nil)
     refine n_op (rem' := [9, 10, 11]) rfl (by kernel_rfl) rfl fun T264 hT264 => ?_
     refine SW1 rfl ts28 rfl ?_
     refine r_nil (hT264 _ _ (fun w hs => St.sel [4, 5, 6, 7, 8, 9, 10, 11] rfl rfl hs) ?_)
     refine n_step [9] (by kernel_rfl) (n_cons ?_ <| n_nil)
     refine n_op (rem' := [10, 11]) rfl (by kernel_rfl) rfl fun T265 hT265 => ?_
     refine SW3 rfl ts28 rfl ?_
     refine r_nil (hT265 _ _ (fun w hs => St.sel [4, 5, 6, 7, 8, 9, 10, 11] rfl rfl hs) ?_)
     refine n_step [10] (by kernel_rfl) (n_cons ?_ <| n_nil)
     refine n_op (rem' := [11]) rfl (by kernel_rfl) rfl fun T266 hT266 => ?_
     refine SW0 rfl ts28 rfl ?_
     refine r_nil (hT266 _ _ (fun w hs => St.sel [4, 5, 6, 7, 8, 9, 10, 11] rfl rfl hs) ?_)
     refine n_step [11] (by kernel_rfl) (n_cons ?_ <| n_nil)
     refine n_op (rem' := []) rfl (by kernel_rfl) rfl fun T267 hT267 => ?_
     refine SW2 rfl ts28 rfl ?_
     refine r_nil (hT267 _ _ (fun w hs => St.sel [4, 5, 6, 7, 8, 9, 10, 11] rfl rfl hs) ?_)
     refine n_fin ?_
     refine k_then (k_sub (Sub.cons rfl <| Sub.cons rfl <| Sub.cons rfl <| Sub.cons rfl <| Sub.cons rfl <| Sub.cons rfl <| Sub.cons rfl <| Sub.cons rfl <| Sub.cons rfl <| Sub.cons rfl <| Sub.nil _) (fun w hs => St.sel [1, 3, 0, 2, 4, 5, 6, 7, 8, 9, 10, 11] rfl rfl hs) (hK14 ⟨(b261, b221, b263, b259), trivial⟩))
   refine n_op (rem' := [6, 7, 8, 9, 10, 11]) rfl (by kernel_rfl) rfl fun T222 hT222 => ?_
   refine AL rfl tz28 fun b223 => ?_
   refine r_nil (hT222 _ _ (fun w hs => St.sel [2, 3, 4, 5, 6, 7, 8, 9] rfl rfl hs) ?_)
   refine n_step [6, 7] (by kernel_rfl) (n_cons ?_ <| n_cons ?_ <| n_nil)
   rotate_left 1
   · refine n_op (rem' := [6, 8, 9, 10, 11]) rfl (by kernel_rfl) rfl fun T232 hT232 => ?_
     refine AL rfl tz28 fun b233 => ?_
     refine r_nil (hT232 _ _ (fun w hs => St.sel [3, 4, 5, 6, 7, 8, 9, 10] rfl rfl hs) ?_)
     refine n_step [6] (by kernel_rfl) (n_cons ?_ <| n_nil)
     refine n_op (rem' := [8, 9, 10, 11]) rfl (by kernel_rfl) rfl fun T234 hT234 => ?_
     refine AL rfl tz28 fun b235 => ?_
     refine r_nil (hT234 _ _ (fun w hs => St.sel [4, 5, 6, 7, 8, 9, 10, 11] rfl rfl hs) ?_)
     refine n_step [8] (by kernel_rfl) (n_cons ?_ <| n_nil)
     refine n_op (rem' := [9, 10, 11]) rfl (by kernel_rfl) rfl fun T236 hT236 => ?_
     refine SW2 rfl ts28 rfl ?_
     refine r_nil (hT236 _ _ (fun w hs => St.sel [4, 5, 6, 7, 8, 9, 10, 11] rfl rfl hs) ?_)
     refine n_step [9] (by kernel_rfl) (n_cons ?_ <| n_nil)
     refine n_op (rem' := [10, 11]) rfl (by kernel_rfl) rfl fun T237 hT237 => ?_
     refine SW3 rfl ts28 rfl ?_
     refine r_nil (hT237 _ _ (fun w hs => St.sel [4, 5, 6, 7, 8, 9, 10, 11] rfl rfl hs) ?_)
     refine n_step [10] (by kernel_rfl) (n_cons ?_ <| n_nil)
     refine n_op (rem' := [11]) rfl (by kernel_rfl) rfl fun T238 hT238 => ?_
     refine SW0 rfl ts28 rfl ?_
     refine r_nil (hT238 _ _ (fun w hs => St.sel [4, 5, 6, 7, 8, 9, 10, 11] rfl rfl hs) ?_)
     refine n_step [11] (by kernel_rfl) (n_cons ?_ <| n_nil)
     refine n_op (rem' := []) rfl (by kernel_rfl) rfl fun T239 hT239 => ?_
     refine SW1 rfl ts28 rfl ?_
     refine r_nil (hT239 _ _ (fun w hs => St.sel [4, 5, 6, 7, 8, 9, 10, 11] rfl rfl hs) ?_)
     refine n_fin ?_
     refine k_then (k_sub (Sub.cons rfl <| Sub.cons rfl <| Sub.cons rfl <| Sub.cons rfl <| Sub.cons rfl <| Sub.cons rfl <| Sub.cons rfl <| Sub.cons rfl <| Sub.cons rfl <| Sub.cons rfl <| Sub.nil _) (fun w hs => St.sel [2, 3, 0, 1, 4, 5, 6, 7, 8, 9, 10, 11] rfl rfl hs) (hK14 ⟨(b223, b221, b235, b233), trivial⟩))
   refine n_op (rem' := [7, 8, 9, 10, 11]) rfl (by kernel_rfl) rfl fun T224 hT224 => ?_
   refine AL rfl tz28 fun b225 => ?_
   refine r_nil (hT224 _ _ (fun w hs => St.sel [3, 4, 5, 6, 7, 8, 9, 10] rfl rfl hs) ?_)
   refine n_step [7] (by kernel_rfl) (n_cons ?_ <| n_nil)
   refine n_op (rem' := [8, 9, 10, 11]) rfl (by kernel_rfl) rfl fun T226 hT226 => ?_
   refine AL rfl tz28 fun b227 => ?_
   refine r_nil (hT226 _ _ (fun w hs => St.sel [4, 5, 6, 7, 8, 9, 10, 11] rfl rfl hs) ?_)
   refine n_step [8] (by kernel_rfl) (n_cons ?_ <| n_nil)
   refine n_op (rem' := [9, 10, 11]) rfl (by kernel_rfl) rfl fun T228 hT228 => ?_
   refine SW2 rfl ts28 rfl ?_
   refine r_nil (hT228 _ _ (fun w hs => St.sel [4, 5, 6, 7, 8, 9, 10, 11] rfl rfl hs) ?_)
   refine n_step [9] (by kernel_rfl) (n_cons ?_ <| n_nil)
   refine n_op (rem' := [10, 11]) rfl (by kernel_rfl) rfl fun T229 hT229 => ?_
   refine SW3 rfl ts28 rfl ?_
   refine r_nil (hT229 _ _ (fun w hs => St.sel [4, 5, 6, 7, 8, 9, 10, 11] rfl rfl hs) ?_)
   refine n_step [10] (by kernel_rfl) (n_cons ?_ <| n_nil)
   refine n_op (rem' := [11]) rfl (by kernel_rfl) rfl fun T230 hT230 => ?_
   refine SW1 rfl ts28 rfl ?_
   refine r_nil (hT230 _ _ (fun w hs => St.sel [4, 5, 6, 7, 8, 9, 10, 11] rfl rfl hs) ?_)
   refine n_step [11] (by kernel_rfl) (n_cons ?_ <| n_nil)
   refine n_op (rem' := []) rfl (by kernel_rfl) rfl fun T231 hT231 => ?_
   refine SW0 rfl ts28 rfl ?_
   refine r_nil (hT231 _ _ (fun w hs => St.sel [4, 5, 6, 7, 8, 9, 10, 11] rfl rfl hs) ?_)
   refine n_fin ?_
   refine k_then (k_sub (Sub.cons rfl <| Sub.cons rfl <| Sub.cons rfl <| Sub.cons rfl <| Sub.cons rfl <| Sub.cons rfl <| Sub.cons rfl <| Sub.cons rfl <| Sub.cons rfl <| Sub.cons rfl <| Sub.nil _) (fun w hs => St.sel [2, 3, 1, 0, 4, 5, 6, 7, 8, 9, 10, 11] rfl rfl hs) (hK14 ⟨(b223, b221, b225, b227), trivial⟩))
 · refine n_op (rem' := [4, 5, 7, 8, 9, 10, 11]) rfl (by kernel_rfl) rfl fun T276 hT276 => ?_
   refine AL rfl tz28 fun b277 => ?_
   refine r_nil (hT276 _ _ (fun w hs => St.sel [1, 2, 3, 4, 5, 6, 7, 8] rfl rfl hs) ?_)
   refine n_step [4, 5, 7] (by kernel_rfl) (n_cons ?_ <| n_cons ?_ <| n_cons ?_ <| n_nil)
   rotate_left 1
   · refine n_op (rem' := [4, 7, 8, 9, 10, 11]) rfl (by kernel_rfl) rfl fun T296 hT296 => ?_
     refine AL rfl tz28 fun b297 => ?_
     refine r_nil (hT296 _ _ (fun w hs => St.sel [2, 3, 4, 5, 6, 7, 8, 9] rfl rfl hs) ?_)
     refine n_step [4, 7] (by kernel_rfl) (n_cons ?_ <| n_cons ?_ <| n_nil)
     rotate_left 1
     · refine n_op (rem' := [4, 8, 9, 10, 11]) rfl (by kernel_rfl) rfl fun T306 hT306 => ?_
       refine AL rfl tz28 fun b307 => ?_
       refine r_nil (hT306 _ _ (fun w hs => St.sel [3, 4, 5, 6, 7, 8, 9, 10] rfl rfl hs) ?_)
       refine n_step [4] (by kernel_rfl) (n_cons ?_ <| n_nil)
       refine n_op (rem' := [8, 9, 10, 11]) rfl (by kernel_rfl) rfl fun T308 hT308 => ?_
       refine AL rfl tz28 fun b309 => ?_
       refine r_nil (hT308 _ _ (fun w hs => St.sel [4, 5, 6, 7, 8, 9, 10, 11] rfl rfl hs) ?_)
       refine n_step [8] (by kernel_rfl) (n_cons ?_ <| n_nil)
       refine n_op (rem' := [9, 10, 11]) rfl (by kernel_rfl) rfl fun T310 hT310 => ?_
       refine SW0 rfl ts28 rfl ?_
       refine r_nil (hT310 _ _ (fun w hs => St.sel [4, 5, 6, 7, 8, 9, 10, 11] rfl rfl hs) ?_)
       refine n_step [9] (by kernel_rfl) (n_cons ?_ <| n_nil)
       refine n_op (rem' := [10, 11]) rfl (by kernel_rfl) rfl fun T311 hT311 => ?_
       refine SW2 rfl ts28 rfl ?_
       refine r_nil (hT311 _ _ (fun w hs => St.sel [4, 5, 6, 7, 8, 9, 10, 11] rfl rfl hs) ?_)
       refine n_step [10] (by kernel_rfl) (n_cons ?_ <| n_nil)
       refine n_op (rem' := [11]) rfl (by kernel_rfl) rfl fun T312 hT312 => ?_
       refine SW3 rfl ts28 rfl ?_
       refine r_nil (hT312 _ _ (fun w hs => St.sel [4, 5, 6, 7, 8, 9, 10, 11] rfl rfl hs) ?_)
       refine n_step [11] (by kernel_rfl) (n_cons ?_ <| n_nil)
       refine n_op (rem' := []) rfl (by kernel_rfl) rfl fun T313 hT313 => ?_
       refine SW1 rfl ts28 rfl ?_
       refine r_nil (hT313 _ _ (fun w hs => St.sel [4, 5, 6, 7, 8, 9, 10, 11] rfl rfl hs) ?_)
       refine n_fin ?_
       refine k_then (k_sub (Sub.cons rfl <| Sub.cons rfl <| Sub.cons rfl <| Sub.cons rfl <| Sub.cons rfl <| Sub.cons rfl <| Sub.cons rfl <| Sub.cons rfl <| Sub.cons rfl <| Sub.cons rfl <| Sub.nil _) (fun w hs => St.sel [0, 2, 3, 1, 4, 5, 6, 7, 8, 9, 10, 11] rfl rfl hs) (hK14 ⟨(b309, b297, b277, b307), trivial⟩))
     refine n_op (rem' := [7, 8, 9, 10, 11]) rfl (by kernel_rfl) rfl fun T298 hT298 => ?_
     refine AL rfl tz28 fun b299 => ?_
     refine r_nil (hT298 _ _ (fun w hs => St.sel [3, 4, 5, 6, 7, 8, 9, 10] rfl rfl hs) ?_)
     refine n_step [7] (by kernel_rfl) (n_cons ?_ <| n_nil)
     refine n_op (rem' := [8, 9, 10, 11]) rfl (by kernel_rfl) rfl fun T300 hT300 => ?_
     refine AL rfl tz28 fun b301 => ?_
     refine r_nil (hT300 _ _ (fun w hs => St.sel [4, 5, 6, 7, 8, 9, 10, 11] rfl rfl hs) ?_)
     refine n_step [8] (by kernel_rfl) (n_cons ?_ <| n_nil)
     refine n_op (rem' := [9, 10, 11]) rfl (by kernel_rfl) rfl fun T302 hT302 => ?_
     refine SW1 rfl ts28 rfl ?_
     refine r_nil (hT302 _ _ (fun w hs => St.sel [4, 5, 6, 7, 8, 9, 10, 11] rfl rfl hs) ?_)
     refine n_step [9] (by kernel_rfl) (n_cons ?_ <| n_nil)
     refine n_op (rem' := [10, 11]) rfl (by kernel_rfl) rfl fun T303 hT303 => ?_
     refine SW2 rfl ts28 rfl ?_
     refine r_nil (hT303 _ _ (fun w hs => St.sel [4, 5, 6, 7, 8, 9, 10, 11] rfl rfl hs) ?_)
     refine n_step [10] (by kernel_rfl) (n_cons ?_ <| n_nil)
     refine n_op (rem' := [11]) rfl (by kernel_rfl) rfl fun T304 hT304 => ?_
     refine SW3 rfl ts28 rfl ?_
     refine r_nil (hT304 _ _ (fun w hs => St.sel [4, 5, 6, 7, 8, 9, 10, 11] rfl rfl hs) ?_)
     refine n_step [11] (by kernel_rfl) (n_cons ?_ <| n_nil)
     refine n_op (rem' := []) rfl (by kernel_rfl) rfl fun T305 hT305 => ?_
     refine SW0 rfl ts28 rfl ?_
     refine r_nil (hT305 _ _ (fun w hs => St.sel [4, 5, 6, 7, 8, 9, 10, 11] rfl rfl hs) ?_)
     refine n_fin ?_
     refine k_then (k_sub (Sub.cons rfl <| Sub.cons rfl <| Sub.cons rfl <| Sub.cons rfl <| Sub.cons rfl <| Sub.cons rfl <| Sub.cons rfl <| Sub.cons rfl <| Sub.cons rfl <| Sub.cons rfl <| Sub.nil _) (fun w hs => St.sel [1, 2, 3, 0, 4, 5, 6, 7, 8, 9, 10, 11] rfl rfl hs) (hK14 ⟨(b299, b297, b277, b301), trivial⟩))
   · refine n_op (rem' := [4, 5, 8, 9, 10, 11]) rfl (by kernel_rfl) rfl fun T314 hT314 => ?_
     refine AL rfl tz28 fun b315 => ?_
     refine r_nil (hT314 _ _ (fun w hs => St.sel [2, 3, 4, 5, 6, 7, 8, 9] rfl rfl hs) ?_)
     refine n_step [4, 5] (by kernel_rfl) (n_cons ?_ <| n_cons ?_ <| n_nil)
     rotate_left 1
     · refine n_op (rem' := [4, 8, 9, 10, 11]) rfl (by kernel_rfl) rfl fun T324 hT324 => ?_
       refine AL rfl tz28 fun b325 => ?_
       refine r_nil (hT324 _ _ (fun w hs => St.sel [3, 4, 5, 6, 7, 8, 9, 10] rfl rfl hs) ?_)
       refine n_step [4] (by kernel_rfl) (n_cons ?_ <| n_nil)
       refine n_op (rem' := [8, 9, 10, 11]) rfl (by kernel_rfl) rfl fun T326 hT326 => ?_
       refine AL rfl tz28 fun b327 => ?_
       refine r_nil (hT326 _ _ (fun w hs => St.sel [4, 5, 6, 7, 8, 9, 10, 11] rfl rfl hs) ?_)
       refine n_step [8] (by kernel_rfl) (n_cons ?_ <| n_nil)
       refine n_op (rem' := [9, 10, 11]) rfl (by kernel_rfl) rfl fun T328 hT328 => ?_
       refine SW0 rfl ts28 rfl ?_
       refine r_nil (hT328 _ _ (fun w hs => St.sel [4, 5, 6, 7, 8, 9, 10, 11] rfl rfl hs) ?_)
       refine n_step [9] (by kernel_rfl) (n_cons ?_ <| n_nil)
       refine n_op (rem' := [10, 11]) rfl (by kernel_rfl) rfl fun T329 hT329 => ?_
       refine SW1 rfl ts28 rfl ?_
       refine r_nil (hT329 _ _ (fun w hs => St.sel [4, 5, 6, 7, 8, 9, 10, 11] rfl rfl hs) ?_)
       refine n_step [10] (by kernel_rfl) (n_cons ?_ <| n_nil)
       refine n_op (rem' := [11]) rfl (by kernel_rfl) rfl fun T330 hT330 => ?_
       refine SW3 rfl ts28 rfl ?_
       refine r_nil (hT330 _ _ (fun w hs => St.sel [4, 5, 6, 7, 8, 9, 10, 11] rfl rfl hs) ?_)
       refine n_step [11] (by kernel_rfl) (n_cons ?_ <| n_nil)
       refine n_op (rem' := []) rfl (by kernel_rfl) rfl fun T331 hT331 => ?_
       refine SW2 rfl ts28 rfl ?_
       refine r_nil (hT331 _ _ (fun w hs => St.sel [4, 5, 6, 7, 8, 9, 10, 11] rfl rfl hs) ?_)
       refine n_fin ?_
       refine k_then (k_sub (Sub.cons rfl <| Sub.cons rfl <| Sub.cons rfl <| Sub.cons rfl <| Sub.cons rfl <| Sub.cons rfl <| Sub.cons rfl <| Sub.cons rfl <| Sub.cons rfl <| Sub.cons rfl <| Sub.nil _) (fun w hs => St.sel [0, 1, 3, 2, 4, 5, 6, 7, 8, 9, 10, 11] rfl rfl hs) (hK14 ⟨(b327, b325, b277, b315), trivial⟩))
     refine n_op (rem' := [5, 8, 9, 10, 11]) rfl (by kernel_rfl) rfl fun T316 hT316 => ?_
     refine AL rfl tz28 fun b317 => ?_
     refine r_nil (hT316 _ _ (fun w hs => St.sel [3, 4, 5, 6, 7, 8, 9, 10] rfl rfl hs) ?_)
     refine n_step [5] (by kernel_rfl) (n_cons ?_ <| n_nil)
     refine n_op (rem' := [8, 9, 10, 11]) rfl (by kernel_rfl) rfl fun T318 hT318 => ?_
     refine AL rfl tz28 fun b319 => ?_
     refine r_nil (hT318 _ _ (fun w hs => St.sel [4, 5, 6, 7, 8, 9, 10, 11] rfl rfl hs) ?_)
     refine n_step [8] (by kernel_rfl) (n_cons ?_ <| n_nil)
     refine n_op (rem' := [9, 10, 11]) rfl (by kernel_rfl) rfl fun T320 hT320 => ?_
     refine SW1 rfl ts28 rfl ?_
     refine r_nil (hT320 _ _ (fun w hs => St.sel [4, 5, 6, 7, 8, 9, 10, 11] rfl rfl hs) ?_)
     refine n_step [9] (by kernel_rfl) (n_cons ?_ <| n_nil)
     refine n_op (rem' := [10, 11]) rfl (by kernel_rfl) rfl fun T321 hT321 => ?_
     refine SW0 rfl ts28 rfl ?_
     refine r_nil (hT321 _ _ (fun w hs => St.sel [4, 5, 6, 7, 8, 9, 10, 11] rfl rfl hs) ?_)
     refine n_step [10] (by kernel_rfl) (n_cons ?_ <| n_nil)
     refine n_op (rem' := [11]) rfl (by kernel_rfl) rfl fun T322 hT322 => ?_
     refine SW3 rfl ts28 rfl ?_
     refine r_nil (hT322 _ _ (fun w hs => St.sel [4, 5, 6, 7, 8, 9, 10, 11] rfl rfl hs) ?_)
     refine n_step [11] (by kernel_rfl) (n_cons ?_ <| n_nil)
     refine n_op (rem' := []) rfl (by kernel_rfl) rfl fun T323 hT323 => ?_
     refine SW2 rfl ts28 rfl ?_
     refine r_nil (hT323 _ _ (fun w hs => St.sel [4, 5, 6, 7, 8, 9, 10, 11] rfl rfl hs) ?_)
     refine n_fin ?_
     refine k_then (k_sub (Sub.cons rfl <| Sub.cons rfl <| Sub.cons rfl <| Sub.cons rfl <| Sub.cons rfl <| Sub.cons rfl <| Sub.cons rfl <| Sub.cons rfl <| Sub.cons rfl <| Sub.cons rfl <| Sub.nil _) (fun w hs => St.sel [1, 0, 3, 2, 4, 5, 6, 7, 8, 9, 10, 11] rfl rfl hs) (hK14 ⟨(b317, b319, b277, b315), trivial⟩))
   refine n_op (rem' := [5, 7, 8, 9, 10, 11]) rfl (by kernel_rfl) rfl fun T278 hT278 => ?_
   refine AL rfl tz28 fun b279 => ?_
   refine r_nil (hT278 _ _ (fun w hs => St.sel [2, 3, 4, 5, 6, 7, 8, 9] rfl rfl hs) ?_)
   refine n_step [5, 7] (by kernel_rfl) (n_cons ?_ <| n_cons ?_ <| n_nil)
   rotate_left 1
   · refine n_op (rem' := [5, 8, 9, 10, 11]) rfl (by kernel_rfl) rfl fun T288 hT288 => ?_
     refine AL rfl tz28 fun b289 => ?_
     refine r_nil (hT288 _ _ (fun w hs => St.sel [3, 4, 5, 6, 7, 8, 9, 10] rfl rfl hs) ?_)
     refine n_step [5] (by kernel_rfl) (n_cons ?_ <| n_nil)
     refine n_op (rem' := [8, 9, 10, 11]) rfl (by kernel_rfl) rfl fun T290 hT290 => ?_
     refine AL rfl tz28 fun b291 => ?_
     refine r_nil (hT290 _ _ (fun w hs => St.sel [4, 5, 6, 7, 8, 9, 10, 11] rfl rfl hs) ?_)
     refine n_step [8] (by kernel_rfl) (n_cons ?_ <| n_nil)
     refine n_op (rem' := [9, 10, 11]) rfl (by kernel_rfl) rfl fun T292 hT292 => ?_
     refine SW2 rfl ts28 rfl ?_
     refine r_nil (hT292 _ _ (fun w hs => St.sel [4, 5, 6, 7, 8, 9, 10, 11] rfl rfl hs) ?_)
     refine n_step [9] (by kernel_rfl) (n_cons ?_ <| n_nil)
     refine n_op (rem' := [10, 11]) rfl (by kernel_rfl) rfl fun T293 hT293 => ?_
     refine SW0 rfl ts28 rfl ?_
     refine r_nil (hT293 _ _ (fun w hs => St.sel [4, 5, 6, 7, 8, 9, 10, 11] rfl rfl hs) ?_)
     refine n_step [10] (by kernel_rfl) (n_cons ?_ <| n_nil)
     refine n_op (rem' := [11]) rfl (by kernel_rfl) rfl fun T294 hT294 => ?_
     refine SW3 rfl ts28 rfl ?_
     refine r_nil (hT294 _ _ (fun w hs => St.sel [4, 5, 6, 7, 8, 9, 10, 11] rfl rfl hs) ?_)
     refine n_step [11] (by kernel_rfl) (n_cons ?_ <| n_nil)
     refine n_op (rem' := []) rfl (by kernel_rfl) rfl fun T295 hT295 => ?_
     refine SW1 rfl ts28 rfl ?_
     refine r_nil (hT295 _ _ (fun w hs => St.sel [4, 5, 6, 7, 8, 9, 10, 11] rfl rfl hs) ?_)
     refine n_fin ?_
     refine k_then (k_sub (Sub.cons rfl <| Sub.cons rfl <| Sub.cons rfl <| Sub.cons rfl <| Sub.cons rfl <| Sub.cons rfl <| Sub.cons rfl <| Sub.cons rfl <| Sub.cons rfl <| Sub.cons rfl <| Sub.nil _) (fun w hs => St.sel [2, 0, 3, 1, 4, 5, 6, 7, 8, 9, 10, 11] rfl rfl hs) (hK14 ⟨(b279, b291, b277, b289), trivial⟩))
   refine n_op (rem' := [7, 8, 9, 10, 11]) rfl (by kernel_rfl) rfl fun T280 hT280 => ?_
   refine AL rfl tz28 fun b281 => ?_
   refine r_nil (hT280 _ _ (fun w hs => St.sel [3, 4, 5, 6, 7, 8, 9, 10] rfl rfl hs) ?_)
   refine n_step [7] (by kernel_rfl) (n_cons ?_ <| n_nil)
   refine n_op (rem' := [8, 9, 10, 11]) rfl (by kernel_rfl) rfl fun T282 hT282 => ?_
   refine AL rfl tz28 fun b283 => ?_
   refine r_nil (hT282 _ _ (fun w hs => St.sel [4, 5, 6, 7, 8, 9, 10, 11] rfl rfl hs) ?_)
   refine n_step [8] (by kernel_rfl) (n_cons ?_ <| n_nil)
   refine n_op (rem' := [9, 10, 11]) rfl (by kernel_rfl) rfl fun T284 hT284 => ?_
   refine SW2 rfl ts28 rfl ?_
   refine r_nil (hT284 _ _ (fun w hs => St.sel [4, 5, 6, 7, 8, 9, 10, 11] rfl rfl hs) ?_)
   refine n_step [9] (by kernel_rfl) (n_cons ?_ <| n_nil)
   refine n_op (rem' := [10, 11]) rfl (by kernel_rfl) rfl fun T285 hT285 => ?_
   refine SW1 rfl ts28 rfl ?_
   refine r_nil (hT285 _ _ (fun w hs => St.sel [4, 5, 6, 7, 8, 9, 10, 11] rfl rfl hs) ?_)
   refine n_step [10] (by kernel_rfl) (n_cons ?_ <| n_nil)
   refine n_op (rem' := [11]) rfl (by kernel_rfl) rfl fun T286 hT286 => ?_
   refine SW3 rfl ts28 rfl ?_
   refine r_nil (hT286 _ _ (fun w hs => St.sel [4, 5, 6, 7, 8, 9, 10, 11] rfl rfl hs) ?_)
   refine n_step [11] (by kernel_rfl) (n_cons ?_ <| n_nil)
   refine n_op (rem' := []) rfl (by kernel_rfl) rfl fun T287 hT287 => ?_
   refine SW0 rfl ts28 rfl ?_
   refine r_nil (hT287 _ _ (fun w hs => St.sel [4, 5, 6, 7, 8, 9, 10, 11] rfl rfl hs) ?_)
   refine n_fin ?_
   refine k_then (k_sub (Sub.cons rfl <| Sub.cons rfl <| Sub.cons rfl <| Sub.cons rfl <| Sub.cons rfl <| Sub.cons rfl <| Sub.cons rfl <| Sub.cons rfl <| Sub.cons rfl <| Sub.cons rfl <| Sub.nil _) (fun w hs => St.sel [2, 1, 3, 0, 4, 5, 6, 7, 8, 9, 10, 11] rfl rfl hs) (hK14 ⟨(b279, b281, b277, b283), trivial⟩))
 · refine n_op (rem' := [4, 5, 6, 8, 9, 10, 11]) rfl (by kernel_rfl) rfl fun T332 hT332 => ?_
   refine AL rfl tz28 fun b333 => ?_
   refine r_nil (hT332 _ _ (fun w hs => St.sel [1, 2, 3, 4, 5, 6, 7, 8] rfl rfl hs) ?_)
   refine n_step [4, 5, 6] (by kernel_rfl) (n_cons ?_ <| n_cons ?_ <| n_cons ?_ <| n_nil)
   rotate_left 1
   · refine n_op (rem' := [4, 6, 8, 9, 10, 11]) rfl (by kernel_rfl) rfl fun T352 hT352 => ?_
     refine AL rfl tz28 fun b353 => ?_
     refine r_nil (hT352 _ _ (fun w hs => St.sel [2, 3, 4, 5, 6, 7, 8, 9] rfl rfl hs) ?_)
     refine n_step [4, 6] (by kernel_rfl) (n_cons ?_ <| n_cons ?_ <| n_nil)
     rotate_left 1
     · refine n_op (rem' := [4, 8, 9, 10, 11]) rfl (by kernel_rfl) rfl fun T362 hT362 => ?_
       refine AL rfl tz28 fun b363 => ?_
       refine r_nil (hT362 _ _ (fun w hs => St.sel [3, 4, 5, 6, 7, 8, 9, 10] rfl rfl hs) ?_)
       refine n_step [4] (by kernel_rfl) (n_cons ?_ <| n_nil)
       refine n_op (rem' := [8, 9, 10, 11]) rfl (by kernel_rfl) rfl fun T364 hT364 => ?_
       refine AL rfl tz28 fun b365 => ?_
       refine r_nil (hT364 _ _ (fun w hs => St.sel [4, 5, 6, 7, 8, 9, 10, 11] rfl rfl hs) ?_)
       refine n_step [8] (by kernel_rfl) (n_cons ?_ <| n_nil)
       refine n_op (rem' := [9, 10, 11]) rfl (by kernel_rfl) rfl fun T366 hT366 => ?_
       refine SW0 rfl ts28 rfl ?_
       refine r_nil (hT366 _ _ (fun w hs => St.sel [4, 5, 6, 7, 8, 9, 10, 11] rfl rfl hs) ?_)
       refine n_step [9] (by kernel_rfl) (n_cons ?_ <| n_nil)
       refine n_op (rem' := [10, 11]) rfl (by kernel_rfl) rfl fun T367 hT367 => ?_
       refine SW2 rfl ts28 rfl ?_
       refine r_nil (hT367 _ _ (fun w hs => St.sel [4, 5, 6, 7, 8, 9, 10, 11] rfl rfl hs) ?_)
       refine n_step [10] (by kernel_rfl) (n_cons ?_ <| n_nil)
       refine n_op (rem' := [11]) rfl (by kernel_rfl) rfl fun T368 hT368 => ?_
       refine SW1 rfl ts28 rfl ?_
       refine r_nil (hT368 _ _ (fun w hs => St.sel [4, 5, 6, 7, 8, 9, 10, 11] rfl rfl hs) ?_)
       refine n_step [11] (by kernel_rfl) (n_cons ?_ <| n_nil)
       refine n_op (rem' := []) rfl (by kernel_rfl) rfl fun T369 hT369 => ?_
       refine SW3 rfl ts28 rfl ?_
       refine r_nil (hT369 _ _ (fun w hs => St.sel [4, 5, 6, 7, 8, 9, 10, 11] rfl rfl hs) ?_)
       refine n_fin ?_
       refine k_then (k_sub (Sub.cons rfl <| Sub.cons rfl <| Sub.cons rfl <| Sub.cons rfl <| Sub.cons rfl <| Sub.cons rfl <| Sub.cons rfl <| Sub.cons rfl <| Sub.cons rfl <| Sub.cons rfl <| Sub.nil _) (fun w hs => St.sel [0, 2, 1, 3, 4, 5, 6, 7, 8, 9, 10, 11] rfl rfl hs) (hK14 ⟨(b365, b353, b363, b333), trivial⟩))
     refine n_op (rem' := [6, 8, 9, 10, 11]) rfl (by kernel_rfl) rfl fun T354 hT354 => ?_
     refine AL rfl tz28 fun b355 => ?_
     refine r_nil (hT354 _ _ (fun w hs => St.sel [3, 4, 5, 6, 7, 8, 9, 10] rfl rfl hs) ?_)
     refine n_step [6] (by kernel_rfl) (n_cons ?_ <| n_nil)
     refine n_op (rem' := [8, 9, 10, 11]) rfl (by kernel_rfl) rfl fun T356 hT356 => ?_
     refine AL rfl tz28 fun b357 => ?_
     refine r_nil (hT356 _ _ (fun w hs => St.sel [4, 5, 6, 7, 8, 9, 10, 11] rfl rfl hs) ?_)
     refine n_step [8] (by kernel_rfl) (n_cons ?_ <| n_nil)
     refine n_op (rem' := [9, 10, 11]) rfl (by kernel_rfl) rfl fun T358 hT358 => ?_
     refine SW1 rfl ts28 rfl ?_
     refine r_nil (hT358 _ _ (fun w hs => St.sel [4, 5, 6, 7, 8, 9, 10, 11] rfl rfl hs) ?_)
     refine n_step [9] (by kernel_rfl) (n_cons ?_ <| n_nil)
     refine n_op (rem' := [10, 11]) rfl (by kernel_rfl) rfl fun T359 hT359 => ?_
     refine SW2 rfl ts28 rfl ?_
     refine r_nil (hT359 _ _ (fun w hs => St.sel [4, 5, 6, 7, 8, 9, 10, 11] rfl rfl hs) ?_)
     refine n_step [10] (by kernel_rfl) (n_cons ?_ <| n_nil)
     refine n_op (rem' := [11]) rfl (by kernel_rfl) rfl fun T360 hT360 => ?_
     refine SW0 rfl ts28 rfl ?_
     refine r_nil (hT360 _ _ (fun w hs => St.sel [4, 5, 6, 7, 8, 9, 10, 11] rfl rfl hs) ?_)
     refine n_step [11] (by kernel_rfl) (n_cons ?_ <| n_nil)
     refine n_op (rem' := []) rfl (by kernel_rfl) rfl fun T361 hT361 => ?_
     refine SW3 rfl ts28 rfl ?_
     refine r_nil (hT361 _ _ (fun w hs => St.sel [4, 5, 6, 7, 8, 9, 10, 11] rfl rfl hs) ?_)
     refine n_fin ?_
     refine k_then (k_sub (Sub.cons rfl <| Sub.cons rfl <| Sub.cons rfl <| Sub.cons rfl <| Sub.cons rfl <| Sub.cons rfl <| Sub.cons rfl <| Sub.cons rfl <| Sub.cons rfl <| Sub.cons rfl <| Sub.nil _) (fun w hs => St.sel [1, 2, 0, 3, 4, 5, 6, 7, 8, 9, 10, 11] rfl rfl hs) (hK14 ⟨(b355, b353, b357, b333), trivial⟩))
   · refine n_op (rem' := [4, 5, 8, 9, 10, 11]) rfl (by kernel_rfl) rfl fun T370 hT370 => ?_
     refine AL rfl tz28 fun b371 => ?_
     refine r_nil (hT370 _ _ (fun w hs => St.sel [2, 3, 4, 5, 6, 7, 8, 9] rfl rfl hs) ?_)
     refine n_step [4, 5] (by kernel_rfl) (n_cons ?_ <| n_cons ?_ <| n_nil)
     rotate_left 1
     · refine n_op (rem' := [4, 8, 9, 10, 11]) rfl (by kernel_rfl) rfl fun T380 hT380 => ?_
       refine AL rfl tz28 fun b381 => ?_
       refine r_nil (hT380 _ _ (fun w hs => St.sel [3, 4, 5, 6, 7, 8, 9, 10] rfl rfl hs) ?_)
       refine n_step [4] (by kernel_rfl) (n_cons ?_ <| n_nil)
       refine n_op (rem' := [8, 9, 10, 11]) rfl (by kernel_rfl) rfl fun T382 hT382 => ?_
       refine AL rfl tz28 fun b383 => ?_
       refine r_nil (hT382 _ _ (fun w hs => St.sel [4, 5, 6, 7, 8, 9, 10, 11] rfl rfl hs) ?_)
       refine n_step [8] (by kernel_rfl) (n_cons ?_ <| n_nil)
       refine n_op (rem' := [9, 10, 11]) rfl (by kernel_rfl) rfl fun T384 hT384 => ?_
       refine SW0 rfl ts28 rfl ?_
       refine r_nil (hT384 _ _ (fun w hs => St.sel [4, 5, 6, 7, 8, 9, 10, 11] rfl rfl hs) ?_)
       refine n_step [9] (by kernel_rfl) (n_cons ?_ <| n_nil)
       refine n_op (rem' := [10, 11]) rfl (by kernel_rfl) rfl fun T385 hT385 => ?_
       refine SW1 rfl ts28 rfl ?_
       refine r_nil (hT385 _ _ (fun w hs => St.sel [4, 5, 6, 7, 8, 9, 10, 11] rfl rfl hs) ?_)
       refine n_step [10] (by kernel_rfl) (n_cons ?_ <| n_nil)
       refine n_op (rem' := [11]) rfl (by kernel_rfl) rfl fun T386 hT386 => ?_
       refine SW2 rfl ts28 rfl ?_
       refine r_nil (hT386 _ _ (fun w hs => St.sel [4, 5, 6, 7, 8, 9, 10, 11] rfl rfl hs) ?_)
       refine n_step [11] (by kernel_rfl) (n_cons ?_ <| n_nil)
       refine n_op (rem' := []) rfl (by kernel_rfl) rfl fun T387 hT387 => ?_
       refine SW3 rfl ts28 rfl ?_
       refine r_nil (hT387 _ _ (fun w hs => St.sel [4, 5, 6, 7, 8, 9, 10, 11] rfl rfl hs) ?_)
       refine n_fin ?_
       refine k_then (k_sub (Sub.cons rfl <| Sub.cons rfl <| Sub.cons rfl <| Sub.cons rfl <| Sub.cons rfl <| Sub.cons rfl <| Sub.cons rfl <| Sub.cons rfl <| Sub.cons rfl <| Sub.cons rfl <| Sub.nil _) (fun w hs => St.sel [0, 1, 2, 3, 4, 5, 6, 7, 8, 9, 10, 11] rfl rfl hs) (hK14 ⟨(b383, b381, b371, b333), trivial⟩))
     refine n_op (rem' := [5, 8, 9, 10, 11]) rfl (by kernel_rfl) rfl fun T372 hT372 => ?_
     refine AL rfl tz28 fun b373 => ?_
     refine r_nil (hT372 _ _ (fun w hs => St.sel [3, 4, 5, 6, 7, 8, 9, 10] rfl rfl hs) ?_)
     refine n_step [5] (by kernel_rfl) (n_cons ?_ <| n_nil)
     refine n_op (rem' := [8, 9, 10, 11]) rfl (by kernel_rfl) rfl fun T374 hT374 => ?_
     refine AL rfl tz28 fun b375 => ?_
     refine r_nil (hT374 _ _ (fun w hs => St.sel [4, 5, 6, 7, 8, 9, 10, 11] rfl rfl hs) ?_)
     refine n_step [8] (by kernel_rfl) (n_cons ?_ <| n_nil)
     refine n_op (rem' := [9, 10, 11]) rfl (by kernel_rfl) rfl fun T376 hT376 => ?_
     refine SW1 rfl ts28 rfl ?_
     refine r_nil (hT376 _ _ (fun w hs => St.sel [4, 5, 6, 7, 8, 9, 10, 11] rfl rfl hs) ?_)
     refine n_step [9] (by kernel_rfl) (n_cons ?_ <| n_nil)
     refine n_op (rem' := [10, 11]) rfl (by kernel_rfl) rfl fun T377 hT377 => ?_
     refine SW0 rfl ts28 rfl ?_
     refine r_nil (hT377 _ _ (fun w hs => St.sel [4, 5, 6, 7, 8, 9, 10, 11] rfl rfl hs) ?_)
     refine n_step [10] (by kernel_rfl) (n_cons ?_ <| n_nil)
     refine n_op (rem' := [11]) rfl (by kernel_rfl) rfl fun T378 hT378 => ?_
     refine SW2 rfl ts28 rfl ?_
     refine r_nil (hT378 _ _ (fun w hs => St.sel [4, 5, 6, 7, 8, 9, 10, 11] rfl rfl hs) ?_)
     refine n_step [11] (by kernel_rfl) (n_cons ?_ <| n_nil)
     refine n_op (rem' := []) rfl (by kernel_rfl) rfl fun T379 hT379 => ?_
     refine SW3 rfl ts28 rfl ?_
     refine r_nil (hT379 _ _ (fun w hs => St.sel [4, 5, 6, 7, 8, 9, 10, 11] rfl rfl hs) ?_)
     refine n_fin ?_
     refine k_then (k_sub (Sub.cons rfl <| Sub.cons rfl <| Sub.cons rfl <| Sub.cons rfl <| Sub.cons rfl <| Sub.cons rfl <| Sub.cons rfl <| Sub.cons rfl <| Sub.cons rfl <| Sub.cons rfl <| Sub.nil _) (fun w hs => St.sel [1, 0, 2, 3, 4, 5, 6, 7, 8, 9, 10, 11] rfl rfl hs) (hK14 ⟨(b373, b375, b371, b333), trivial⟩))
   refine n_op (rem' := [5, 6, 8, 9, 10, 11]) rfl (by kernel_rfl) rfl fun T334 hT334 => ?_
   refine AL rfl tz28 fun b335 => ?_
   refine r_nil (hT334 _ _ (fun w hs => St.sel [2, 3, 4, 5, 6, 7, 8, 9] rfl rfl hs) ?_)
   refine n_step [5, 6] (by kernel_rfl) (n_cons ?_ <| n_cons ?_ <| n_nil)
   rotate_left 1
   · refine n_op (rem' := [5, 8, 9, 10, 11]) rfl (by kernel_rfl) rfl fun T344 hT344 => ?_
     refine AL rfl tz28 fun b345 => ?_
     refine r_nil (hT344 _ _ (fun w hs => St.sel [3, 4, 5, 6, 7, 8, 9, 10] rfl rfl hs) ?_)
     refine n_step [5] (by kernel_rfl) (n_cons ?_ <| n_nil)
     refine n_op (rem' := [8, 9, 10, 11]) rfl (by kernel_rfl) rfl fun T346 hT346 => ?_
     refine AL rfl tz28 fun b347 => ?_
     refine r_nil (hT346 _ _ (fun w hs => St.sel [4, 5, 6, 7, 8, 9, 10, 11] rfl rfl hs) ?_)
     refine n_step [8] (by kernel_rfl) (n_cons ?_ <| n_nil)
     refine n_op (rem' := [9, 10, 11]) rfl (by kernel_rfl) rfl fun T348 hT348 => ?_
     refine SW2 rfl ts28 rfl ?_
     refine r_nil (hT348 _ _ (fun w hs => St.sel [4, 5, 6, 7, 8, 9, 10, 11] rfl rfl hs) ?_)
     refine n_step [9] (by kernel_rfl) (n_cons ?_ <| n_nil)
     refine n_op (rem' := [10, 11]) rfl (by kernel_rfl) rfl fun T349 hT349 => ?_
     refine SW0 rfl ts28 rfl ?_
     refine r_nil (hT349 _ _ (fun w hs => St.sel [4, 5, 6, 7, 8, 9, 10, 11] rfl rfl hs) ?_)
     refine n_step [10] (by kernel_rfl) (n_cons ?_ <| n_nil)
     refine n_op (rem' := [11]) rfl (by kernel_rfl) rfl fun T350 hT350 => ?_
     refine SW1 rfl ts28 rfl ?_
     refine r_nil (hT350 _ _ (fun w hs => St.sel [4, 5, 6, 7, 8, 9, 10, 11] rfl rfl hs) ?_)
     refine n_step [11] (by kernel_rfl) (n_cons ?_ <| n_nil)
     refine n_op (rem' := []) rfl (by kernel_rfl) rfl fun T351 hT351 => ?_
     refine SW3 rfl ts28 rfl ?_
     refine r_nil (hT351 _ _ (fun w hs => St.sel [4, 5, 6, 7, 8, 9, 10, 11] rfl rfl hs) ?_)
     refine n_fin ?_
     refine k_then (k_sub (Sub.cons rfl <| Sub.cons rfl <| Sub.cons rfl <| Sub.cons rfl <| Sub.cons rfl <| Sub.cons rfl <| Sub.cons rfl <| Sub.cons rfl <| Sub.cons rfl <| Sub.cons rfl <| Sub.nil _) (fun w hs => St.sel [2, 0, 1, 3, 4, 5, 6, 7, 8, 9, 10, 11] rfl rfl hs) (hK14 ⟨(b335, b347, b345, b333), trivial⟩))
   refine n_op (rem' := [6, 8, 9, 10, 11]) rfl (by kernel_rfl) rfl fun T336 hT336 => ?_
   refine AL rfl tz28 fun b337 => ?_
   refine r_nil (hT336 _ _ (fun w hs => St.sel [3, 4, 5, 6, 7, 8, 9, 10] rfl rfl hs) ?_)
   refine n_step [6] (by kernel_rfl) (n_cons ?_ <| n_nil)
   refine n_op (rem' := [8, 9, 10, 11]) rfl (by kernel_rfl) rfl fun T338 hT338 => ?_
   refine AL rfl tz28 fun b339 => ?_
   refine r_nil (hT338 _ _ (fun w hs => St.sel [4, 5, 6, 7, 8, 9, 10, 11] rfl rfl hs) ?_)
   refine n_step [8] (by kernel_rfl) (n_cons ?_ <| n_nil)
   refine n_op (rem' := [9, 10, 11]) rfl (by kernel_rfl) rfl fun T340 hT340 => ?_
   refine SW2 rfl ts28 rfl ?_
   refine r_nil (hT340 _ _ (fun w hs => St.sel [4, 5, 6, 7, 8, 9, 10, 11] rfl rfl hs) ?_)
   refine n_step [9] (by kernel_rfl) (n_cons ?_ <| n_nil)
   refine n_op (rem' := [10, 11]) rfl (by kernel_rfl) rfl fun T341 hT341 => ?_
   refine SW1 rfl ts28 rfl ?_
   refine r_nil (hT341 _ _ (fun w hs => St.sel [4, 5, 6, 7, 8, 9, 10, 11] rfl rfl hs) ?_)
   refine n_step [10] (by kernel_rfl) (n_cons ?_ <| n_nil)
   refine n_op (rem' := [11]) rfl (by kernel_rfl) rfl fun T342 hT342 => ?_
   refine SW0 rfl ts28 rfl ?_
   refine r_nil (hT342 _ _ (fun w hs => St.sel [4, 5, 6, 7, 8, 9, 10, 11] rfl rfl hs) ?_)
   refine n_step [11] (by kernel_rfl) (n_cons ?_ <| n_nil)
   refine n_op (rem' := []) rfl (by kernel_rfl) rfl fun T343 hT343 => ?_
   refine SW3 rfl ts28 rfl ?_
   refine r_nil (hT343 _ _ (fun w hs => St.sel [4, 5, 6, 7, 8, 9, 10, 11] rfl rfl hs) ?_)
   refine n_fin ?_
   refine k_then (k_sub (Sub.cons rfl <| Sub.cons rfl <| Sub.cons rfl <| Sub.cons rfl <| Sub.cons rfl <| Sub.cons rfl <| Sub.cons rfl <| Sub.cons rfl <| Sub.cons rfl <| Sub.cons rfl <| Sub.nil _) (fun w hs => St.sel [2, 1, 0, 3, 4, 5, 6, 7, 8, 9, 10, 11] rfl rfl hs) (hK14 ⟨(b335, b337, b339, b333), trivial⟩))
 refine n_op (rem' := [5, 6, 7, 8, 9, 10, 11]) rfl (by kernel_rfl) rfl fun T164 hT164 => ?_
 refine AL rfl tz28 fun b165 => ?_
 refine r_nil (hT164 _ _ (fun w hs => St.sel [1, 2, 3, 4, 5, 6, 7, 8] rfl rfl hs) ?_)
 refine n_step [5, 6, 7] (by kernel_rfl) (n_cons ?_ <| n_cons ?_ <| n_cons ?_ <| n_nil)
 rotate_left 1
 · refine n_op (rem' := [5, 7, 8, 9, 10, 11]) rfl (by kernel_rfl) rfl fun T184 hT184 => ?_
   refine AL rfl tz28 fun b185 => ?_
   refine r_nil (hT184 _ _ (fun w hs => St.sel [2, 3, 4, 5, 6, 7, 8, 9] rfl rfl hs) ?_)
   refine n_step [5, 7] (by kernel_rfl) (n_cons ?_ <| n_cons ?_ <| n_nil)
   rotate_left 1
   · refine n_op (rem' := [5, 8, 9, 10, 11]) rfl (by kernel_rfl) rfl fun T194 hT194 => ?_
     refine AL rfl tz28 fun b195 => ?_
     refine r_nil (hT194 _ _ (fun w hs => St.sel [3, 4, 5, 6, 7, 8, 9, 10] rfl rfl hs) ?_)
     refine n_step [5] (by kernel_rfl) (n_cons ?_ <| n_nil)
     refine n_op (rem' := [8, 9, 10, 11]) rfl (by kernel_rfl) rfl fun T196 hT196 => ?_
     refine AL rfl tz28 fun b197 => ?_
     refine r_nil (hT196 _ _ (fun w hs => St.sel [4, 5, 6, 7, 8, 9, 10, 11] rfl rfl hs) ?_)
     refine n_step [8] (by kernel_rfl) (n_cons ?_ <| n_nil)
     refine n_op (rem' := [9, 10, 11]) rfl (by kernel_rfl) rfl fun T198 hT198 => ?_
     refine SW3 rfl ts28 rfl ?_
     refine r_nil (hT198 _ _ (fun w hs => St.sel [4, 5, 6, 7, 8, 9, 10, 11] rfl rfl hs) ?_)
     refine n_step [9] (by kernel_rfl) (n_cons ?_ <| n_nil)
     refine n_op (rem' := [10, 11]) rfl (by kernel_rfl) rfl fun T199 hT199 => ?_
     refine SW0 rfl ts28 rfl ?_
     refine r_nil (hT199 _ _ (fun w hs => St.sel [4, 5, 6, 7, 8, 9, 10, 11] rfl rfl hs) ?_)
     refine n_step [10] (by kernel_rfl) (n_cons ?_ <| n_nil)
     refine n_op (rem' := [11]) rfl (by kernel_rfl) rfl fun T200 hT200 => ?_
     refine SW2 rfl ts28 rfl ?_
     refine r_nil (hT200 _ _ (fun w hs => St.sel [4, 5, 6, 7, 8, 9, 10, 11] rfl rfl hs) ?_)
     refine n_step [11] (by kernel_rfl) (n_cons ?_ <| n_nil)
     refine n_op (rem' := []) rfl (by kernel_rfl) rfl fun T201 hT201 => ?_
     refine SW1 rfl ts28 rfl ?_
     refine r_nil (hT201 _ _ (fun w hs => St.sel [4, 5, 6, 7, 8, 9, 10, 11] rfl rfl hs) ?_)
     refine n_fin ?_
     refine k_then (k_sub (Sub.cons rfl <| Sub.cons rfl <| Sub.cons rfl <| Sub.cons rfl <| Sub.cons rfl <| Sub.cons rfl <| Sub.cons rfl <| Sub.cons rfl <| Sub.cons rfl <| Sub.cons rfl <| Sub.nil _) (fun w hs => St.sel [3, 0, 2, 1, 4, 5, 6, 7, 8, 9, 10, 11] rfl rfl hs) (hK14 ⟨(b165, b197, b185, b195), trivial⟩))
   refine n_op (rem' := [7, 8, 9, 10, 11]) rfl (by kernel_rfl) rfl fun T186 hT186 => ?_
   refine AL rfl tz28 fun b187 => ?_
   refine r_nil (hT186 _ _ (fun w hs => St.sel [3, 4, 5, 6, 7, 8, 9, 10] rfl rfl hs) ?_)
   refine n_step [7] (by kernel_rfl) (n_cons ?_ <| n_nil)
   refine n_op (rem' := [8, 9, 10, 11]) rfl (by kernel_rfl) rfl fun T188 hT188 => ?_
   refine AL rfl tz28 fun b189 => ?_
   refine r_nil (hT188 _ _ (fun w hs => St.sel [4, 5, 6, 7, 8, 9, 10, 11] rfl rfl hs) ?_)
   refine n_step [8] (by kernel_rfl) (n_cons ?_ <| n_nil)
   refine n_op (rem' := [9, 10, 11]) rfl (by kernel_rfl) rfl fun T190 hT190 => ?_
   refine SW3 rfl ts28 rfl ?_
   refine r_nil (hT190 _ _ (fun w hs => St.sel [4, 5, 6, 7, 8, 9, 10, 11] rfl rfl hs) ?_)
   refine n_step [9] (by kernel_rfl) (n_cons ?_ <| n_nil)
   refine n_op (rem' := [10, 11]) rfl (by kernel_rfl) rfl fun T191 hT191 => ?_
   refine SW1 rfl ts28 rfl ?_
   refine r_nil (hT191 _ _ (fun w hs => St.sel [4, 5, 6, 7, 8, 9, 10, 11] rfl rfl hs) ?_)
   refine n_step [10] (by kernel_rfl) (n_cons ?_ <| n_nil)
   refine n_op (rem' := [11]) rfl (by kernel_rfl) rfl fun T192 hT192 => ?_
   refine SW2 rfl ts28 rfl ?_
   refine r_nil (hT192 _ _ (fun w hs => St.sel [4, 5, 6, 7, 8, 9, 10, 11] rfl rfl hs) ?_)
   refine n_step [11] (by kernel_rfl) (n_cons ?_ <| n_nil)
   refine n_op (rem' := []) rfl (by kernel_rfl) rfl fun T193 hT193 => ?_
   refine SW0 rfl ts28 rfl ?_
   refine r_nil (hT193 _ _ (fun w hs => St.sel [4, 5, 6, 7, 8, 9, 10, 11] rfl rfl hs) ?_)
   refine n_fin ?_
   refine k_then (k_sub (Sub.cons rfl <| Sub.cons rfl <| Sub.cons rfl <| Sub.cons rfl <| Sub.cons rfl <| Sub.cons rfl <| Sub.cons rfl <| Sub.cons rfl <| Sub.cons rfl <| Sub.cons rfl <| Sub.nil _) (fun w hs => St.sel [3, 1, 2, 0, 4, 5, 6, 7, 8, 9, 10, 11] rfl rfl hs) (hK14 ⟨(b165, b187, b185, b189), trivial⟩))
 · refine n_op (rem' := [5, 6, 8, 9, 10, 11]) rfl (by kernel_rfl) rfl fun T202 hT202 => ?_
   refine AL rfl tz28 fun b203 => ?_
   refine r_nil (hT202 _ _ (fun w hs => St.sel [2, 3, 4, 5, 6, 7, 8, 9] rfl rfl hs) ?_)
   refine n_step [5, 6] (by kernel_rfl) (n_cons ?_ <| n_cons ?_ <| n_nil)
   rotate_left 1
   · refine n_op (rem' := [5, 8, 9, 10, 11]) rfl (by kernel_rfl) rfl fun T212 hT212 => ?_
     refine AL rfl tz28 fun b213 => ?_
     refine r_nil (hT212 _ _ (fun w hs => St.sel [3, 4, 5, 6, 7, 8, 9, 10] rfl rfl hs) ?_)
     refine n_step [5] (by kernel_rfl) (n_cons ?_ <| n_nil)
     refine n_op (rem' := [8, 9, 10, 11]) rfl (by kernel_rfl) rfl fun T214 hT214 => ?_
     refine AL rfl tz28 fun b215 => ?_
     refine r_nil (hT214 _ _ (fun w hs => St.sel [4, 5, 6, 7, 8, 9, 10, 11] rfl rfl hs) ?_)
     refine n_step [8] (by kernel_rfl) (n_cons ?_ <| n_nil)
     refine n_op (rem' := [9, 10, 11]) rfl (by kernel_rfl) rfl fun T216 hT216 => ?_
     refine SW3 rfl ts28 rfl ?_
     refine r_nil (hT216 _ _ (fun w hs => St.sel [4, 5, 6, 7, 8, 9, 10, 11] rfl rfl hs) ?_)
     refine n_step [9] (by kernel_rfl) (n_cons ?_ <| n_nil)
     refine n_op (rem' := [10, 11]) rfl (by kernel_rfl) rfl fun T217 hT217 => ?_
     refine SW0 rfl ts28 rfl ?_
     refine r_nil (hT217 _ _ (fun w hs => St.sel [4, 5, 6, 7, 8, 9, 10, 11] rfl rfl hs) ?_)
     refine n_step [10] (by kernel_rfl) (n_cons ?_ <| n_nil)
     refine n_op (rem' := [11]) rfl (by kernel_rfl) rfl fun T218 hT218 => ?_
     refine SW1 rfl ts28 rfl ?_
     refine r_nil (hT218 _ _ (fun w hs => St.sel [4, 5, 6, 7, 8, 9, 10, 11] rfl rfl hs) ?_)
     refine n_step [11] (by kernel_rfl) (n_cons ?_ <| n_nil)
     refine n_op (rem' := []) rfl (by kernel_rfl) rfl fun T219 hT219 => ?_
     refine SW2 rfl ts28 rfl ?_
     refine r_nil (hT219 _ _ (fun w hs => St.sel [4, 5, 6, 7, 8, 9, 10, 11] rfl rfl hs) ?_)
     refine n_fin ?_
     refine k_then (k_sub (Sub.cons rfl <| Sub.cons rfl <| Sub.cons rfl <| Sub.cons rfl <| Sub.cons rfl <| Sub.cons rfl <| Sub.cons rfl <| Sub.cons rfl <| Sub.cons rfl <| Sub.cons rfl <| Sub.nil _) (fun w hs => St.sel [3, 0, 1, 2, 4, 5, 6, 7, 8, 9, 10, 11] rfl rfl hs) (hK14 ⟨(b165, b215, b213, b203), trivial⟩))
   refine n_op (rem' := [6, 8, 9, 10, 11]) rfl (by kernel_rfl) rfl fun T204 hT204 => ?_
   refine AL rfl tz28 fun b205 => ?_
   refine r_nil (hT204 _ _ (fun w hs => St.sel [3, 4, 5, 6, 7, 8, 9, 10] rfl rfl hs) ?_)
   refine n_step [6] (by kernel_rfl) (n_cons ?_ <| n_nil)
   refine n_op (rem' := [8, 9, 10, 11]) rfl (by kernel_rfl) rfl fun T206 hT206 => ?_
   refine AL rfl tz28 fun b207 => ?_
   refine r_nil (hT206 _ _ (fun w hs => St.sel [4, 5, 6, 7, 8, 9, 10, 11] rfl rfl hs) ?_)
   refine n_step [8] (by kernel_rfl) (n_cons ?_ <| n_nil)
   refine n_op (rem' := [9, 10, 11]) rfl (by kernel_rfl) rfl fun T208 hT208 => ?_
   refine SW3 rfl ts28 rfl ?_
   refine r_nil (hT208 _ _ (fun w hs => St.sel [4, 5, 6, 7, 8, 9, 10, 11] rfl rfl hs) ?_)
   refine n_step [9] (by kernel_rfl) (n_cons ?_ <| n_nil)
   refine n_op (rem' := [10, 11]) rfl (by kernel_rfl) rfl fun T209 hT209 => ?_
   refine SW1 rfl ts28 rfl ?_
   refine r_nil (hT209 _ _ (fun w hs => St.sel [4, 5, 6, 7, 8, 9, 10, 11] rfl rfl hs) ?_)
   refine n_step [10] (by kernel_rfl) (n_cons ?_ <| n_nil)
   refine n_op (rem' := [11]) rfl (by kernel_rfl) rfl fun T210 hT210 => ?_
   refine SW0 rfl ts28 rfl ?_
   refine r_nil (hT210 _ _ (fun w hs => St.sel [4, 5, 6, 7, 8, 9, 10, 11] rfl rfl hs) ?_)
   refine n_step [11] (by kernel_rfl) (n_cons ?_ <| n_nil)
   refine n_op (rem' := []) rfl (by kernel_rfl) rfl fun T211 hT211 => ?_
   refine SW2 rfl ts28 rfl ?_
   refine r_nil (hT211 _ _ (fun w hs => St.sel [4, 5, 6, 7, 8, 9, 10, 11] rfl rfl hs) ?_)
   refine n_fin ?_
   refine k_then (k_sub (Sub.cons rfl <| Sub.cons rfl <| Sub.cons rfl <| Sub.cons rfl <| Sub.cons rfl <| Sub.cons rfl <| Sub.cons rfl <| Sub.cons rfl <| Sub.cons rfl <| Sub.cons rfl <| Sub.nil _) (fun w hs => St.sel [3, 1, 0, 2, 4, 5, 6, 7, 8, 9, 10, 11] rfl rfl hs) (hK14 ⟨(b165, b205, b207, b203), trivial⟩))
 refine n_op (rem' := [6, 7, 8, 9, 10, 11]) rfl (by kernel_rfl) rfl fun T166 hT166 => ?_
 refine AL rfl tz28 fun b167 => ?_
 refine r_nil (hT166 _ _ (fun w hs => St.sel [2, 3, 4, 5, 6, 7, 8, 9] rfl rfl hs) ?_)
 refine n_step [6, 7] (by kernel_rfl) (n_cons ?_ <| n_cons ?_ <| n_nil)
 rotate_left 1
 · refine n_op (rem' := [6, 8, 9, 10, 11]) rfl (by kernel_rfl) rfl fun T176 hT176 => ?_
   refine AL rfl tz28 fun b177 => ?_
   refine r_nil (hT176 _ _ (fun w hs => St.sel [3, 4, 5, 6, 7, 8, 9, 10] rfl rfl hs) ?_)
   refine n_step [6] (by kernel_rfl) (n_cons ?_ <| n_nil)
   refine n_op (rem' := [8, 9, 10, 11]) rfl (by kernel_rfl) rfl fun T178 hT178 => ?_
   refine AL rfl tz28 fun b179 => ?_
   refine r_nil (hT178 _ _ (fun w hs => St.sel [4, 5, 6, 7, 8, 9, 10, 11] rfl rfl hs) ?_)
   refine n_step [8] (by kernel_rfl) (n_cons ?_ <| n_nil)
   refine n_op (rem' := [9, 10, 11]) rfl (by kernel_rfl) rfl fun T180 hT180 => ?_
   refine SW3 rfl ts28 rfl ?_
   refine r_nil (hT180 _ _ (fun w hs => St.sel [4, 5, 6, 7, 8, 9, 10, 11] rfl rfl hs) ?_)
   refine n_step [9] (by kernel_rfl) (n_cons ?_ <| n_nil)
   refine n_op (rem' := [10, 11]) rfl (by kernel_rfl) rfl fun T181 hT181 => ?_
   refine SW2 rfl ts28 rfl ?_
   refine r_nil (hT181 _ _ (fun w hs => St.sel [4, 5, 6, 7, 8, 9, 10, 11] rfl rfl hs) ?_)
   refine n_step [10] (by kernel_rfl) (n_cons ?_ <| n_nil)
   refine n_op (rem' := [11]) rfl (by kernel_rfl) rfl fun T182 hT182 => ?_
   refine SW0 rfl ts28 rfl ?_
   refine r_nil (hT182 _ _ (fun w hs => St.sel [4, 5, 6, 7, 8, 9, 10, 11] rfl rfl hs) ?_)
   refine n_step [11] (by kernel_rfl) (n_cons ?_ <| n_nil)
   refine n_op (rem' := []) rfl (by kernel_rfl) rfl fun T183 hT183 => ?_
   refine SW1 rfl ts28 rfl ?_
   refine r_nil (hT183 _ _ (fun w hs => St.sel [4, 5, 6, 7, 8, 9, 10, 11] rfl rfl hs) ?_)
   refine n_fin ?_
   refine k_then (k_sub (Sub.cons rfl <| Sub.cons rfl <| Sub.cons rfl <| Sub.cons rfl <| Sub.cons rfl <| Sub.cons rfl <| Sub.cons rfl <| Sub.cons rfl <| Sub.cons rfl <| Sub.cons rfl <| Sub.nil _) (fun w hs => St.sel [3, 2, 0, 1, 4, 5, 6, 7, 8, 9, 10, 11] rfl rfl hs) (hK14 ⟨(b165, b167, b179, b177), trivial⟩))
 refine n_op (rem' := [7, 8, 9, 10, 11]) rfl (by kernel_rfl) rfl fun T168 hT168 => ?_
 refine AL rfl tz28 fun b169 => ?_
 refine r_nil (hT168 _ _ (fun w hs => St.sel [3, 4, 5, 6, 7, 8, 9, 10] rfl rfl hs) ?_)
 refine n_step [7] (by kernel_rfl) (n_cons ?_ <| n_nil)
 refine n_op (rem' := [8, 9, 10, 11]) rfl (by kernel_rfl) rfl fun T170 hT170 => ?_
 refine AL rfl tz28 fun b171 => ?_
 refine r_nil (hT170 _ _ (fun w hs => St.sel [4, 5, 6, 7, 8, 9, 10, 11] rfl rfl hs) ?_)
 refine n_step [8] (by kernel_rfl) (n_cons ?_ <| n_nil)
 refine n_op (rem' := [9, 10, 11]) rfl (by kernel_rfl) rfl fun T172 hT172 => ?_
 refine SW3 rfl ts28 rfl ?_
 refine r_nil (hT172 _ _ (fun w hs => St.sel [4, 5, 6, 7, 8, 9, 10, 11] rfl rfl hs) ?_)
 refine n_step [9] (by kernel_rfl) (n_cons ?_ <| n_nil)
 refine n_op (rem' := [10, 11]) rfl (by kernel_rfl) rfl fun T173 hT173 => ?_
 refine SW2 rfl ts28 rfl ?_
 refine r_nil (hT173 _ _ (fun w hs => St.sel [4, 5, 6, 7, 8, 9, 10, 11] rfl rfl hs) ?_)
 refine n_step [10] (by kernel_rfl) (n_cons ?_ <| n_nil)
 refine n_op (rem' := [11]) rfl (by kernel_rfl) rfl fun T174 hT174 => ?_
 refine SW1 rfl ts28 rfl ?_
 refine r_nil (hT174 _ _ (fun w hs => St.sel [4, 5, 6, 7, 8, 9, 10, 11] rfl rfl hs) ?_)
 refine n_step [11] (by kernel_rfl) (n_cons ?_ <| n_nil)
 refine n_op (rem' := []) rfl (by kernel_rfl) rfl fun T175 hT175 => ?_
 refine SW0 rfl ts28 rfl ?_
 refine r_nil (hT175 _ _ (fun w hs => St.sel [4, 5, 6, 7, 8, 9, 10, 11] rfl rfl hs) ?_)
 refine n_fin ?_
 refine k_then (k_sub (Sub.cons rfl <| Sub.cons rfl <| Sub.cons rfl <| Sub.cons rfl <| Sub.cons rfl <| Sub.cons rfl <| Sub.cons rfl <| Sub.cons rfl <| Sub.cons rfl <| Sub.cons rfl <| Sub.nil _) (fun w hs => St.sel [3, 2, 1, 0, 4, 5, 6, 7, 8, 9, 10, 11] rfl rfl hs) (hK14 ⟨(b165, b167, b169, b171), trivial⟩))
end
section
open Go.RowKit
set_option linter.unusedVariables false
def ReadsAs {α : Type} (cells : α → List Value) (sz : Nat) (R : World → α → Prop) (w : World) (s : Slc) : Prop := ∃ l : List α, s.n = l.length ∧ (rd s.a l.length sz (l.map cells)).holds w ∧ (∀ x ∈ l, R w x) ∧ l.length ≤ maxLen ∧ s.n ≤ s.c
theorem open_clocks {w : World} {R : World → SyncV → Prop} : ∀ {l : List ClockV}, (∀ x ∈ l, ReadsAs SyncV.cells 3 R w x.Syncs) → ∃ (ms : List ClockM) (az : List RA), l.map ClockV.cells = List.zipWith ClockM.cells ms az ∧ ms.length = l.length ∧ az.length = l.length ∧ (∀ X ∈ nest ClockM.rds ms az, X.holds w) ∧
    (∀ (k : Nat) m (a : RA), ms[k]? = some m → az[k]? = some a → m.Syncs.length ≤ a.2 ∧ m.Syncs.length ≤ 9223372036854775807) ∧ ms.map (fun m => m.Drift) = l.map (fun x => x.Drift) ∧ ∀ (k : Nat) m y, ms[k]? = some m → y ∈ m.Syncs → R w y
  | [], _ => ⟨[], [], rfl, rfl, rfl, (fun X hX => by cases hX), (fun k m a h => by simp at h), rfl, (fun k m y h => by simp at h)⟩
  | x :: l, h => by
    obtain ⟨ms, az, h1, h2, h3, h4, h5, h6, h7⟩ := open_clocks (fun y hy => h y (List.mem_cons_of_mem _ hy))
    obtain ⟨sy, e1, e2, e3, e4, e5⟩ := h x (by simp)
    have e4' : sy.length ≤ 9223372036854775807 := e4
    refine ⟨⟨x.Drift, sy⟩ :: ms, (x.Syncs.a, x.Syncs.c) :: az, ?_, by simp [h2], by simp [h3], fun X hX => ?_, fun k m a hm ha => ?_, by simp [h6], fun k m y hm hy => ?_⟩
    · obtain ⟨dr, ⟨a, n, c⟩⟩ := x
      simp only at e1
      subst e1
      simp only [List.map_cons, List.zipWith_cons_cons, h1]
      rfl
    · rcases List.mem_append.1 hX with hX | hX
      · simp only [ClockM.rds, List.mem_singleton] at hX
        subst hX; exact e2
      · exact h4 X hX
    · cases k with
      | zero =>
        simp only [List.getElem?_cons_zero, Option.some.injEq] at hm ha
        subst hm ha
        exact ⟨by simp only; omega, e4'⟩
      | succ k => exact h5 k m a (by simpa using hm) (by simpa using ha)
    · cases k with
      | zero =>
        simp only [List.getElem?_cons_zero, Option.some.injEq] at hm
        subst hm
        exact e3 y hy
      | succ k => exact h7 k m y (by simpa using hm) hy
theorem open_line {w : World} {s : LineV} {R1 : World → StretchV → Prop} {R2 : World → ClockV → Prop} {R3 : World → BeamV → Prop} {R4 : World → SyncV → Prop} (h1 : ReadsAs StretchV.cells 9 R1 w s.Track.Stretches) (hs : ∀ x, R1 w x → 0 ≤ x.Side ∧ x.Side ≤ 255) (h2 : ReadsAs ClockV.cells 2 R2 w s.Clocks) (hc : ∀ x, R2 w x → ReadsAs SyncV.cells 3 R4 w x.Syncs) (h3 : ReadsAs BeamV.cells 4 R3 w s.Beams) :
    ∃ (l : LineM) (az : List RA) (kA : Option Addr) (kC : Nat) (cA : Option Addr) (cC : Nat) (bA : Option Addr) (bC : Nat), s = LineV.mk (TrackV.mk (Slc.mk kA l.Track.length kC)) l.Fast (Slc.mk cA l.Clocks.length cC) (Slc.mk bA l.Beams.length bC) l.Finish l.Fakes l.Misses ∧ LineRaw l az ∧
      ((rd kA l.Track.length 9 (l.Track.map StretchV.cells)).holds w ∧ (rd cA l.Clocks.length 2 (List.zipWith ClockM.cells l.Clocks az)).holds w ∧ (bun (nest ClockM.rds l.Clocks az)).holds w ∧ (rd bA l.Beams.length 4 (l.Beams.map BeamV.cells)).holds w) ∧ l.Fast = s.Fast ∧ l.Finish = s.Finish ∧ l.Fakes = s.Fakes ∧ l.Misses = s.Misses := by
  obtain ⟨⟨⟨ka, kn, kc⟩⟩, fa, ⟨ca, cn, cc⟩, ⟨ba, bn, bc⟩, fi, fk, mi⟩ := s
  obtain ⟨ts, t1, t2, t3, t4, t5⟩ := h1
  obtain ⟨cs, c1, c2, c3, c4, c5⟩ := h2
  obtain ⟨bs, b1, b2, b3, b4, b5⟩ := h3
  simp only at t1 c1 b1
  subst t1 c1 b1
  obtain ⟨ms, az, m1, m2, m3, m4, m5, _⟩ := open_clocks (fun x hx => hc x (c3 x hx))
  have t4' : ts.length ≤ 9223372036854775807 := t4
  have c4' : cs.length ≤ 9223372036854775807 := c4
  have b4' : bs.length ≤ 9223372036854775807 := b4
  refine ⟨⟨ts, fa, ms, bs, fi, fk, mi⟩, az, ka, kc, ca, cc, ba, bc, by simp only [m2], ⟨t4', fun x hx => hs x (t3 x hx), by simp only; omega, by simp only; omega, b4', m5⟩, ⟨t2, ?_, m4, b2⟩, rfl, rfl, rfl, rfl⟩
  simp only at c2 ⊢
  rw [m2, ← m1]; exact c2
end
section
open Go.RowKit
set_option linter.unusedVariables false
theorem open_ride {w : World} {s : RideV} {R : World → SignalV → Prop} (h : ReadsAs SignalV.cells 2 R w s.Signals) :
    ∃ (r : RideM) (gA : Option Addr) (gC : Nat), s = RideV.mk r.Start r.Now (Slc.mk gA r.Signals.length gC) ∧ r.Signals.length ≤ 9223372036854775807 ∧ (rd gA r.Signals.length 2 (r.Signals.map SignalV.cells)).holds w := by
  obtain ⟨st, nw, ⟨a, n, c⟩⟩ := s
  obtain ⟨l, h1, h2, h3, h4, h5⟩ := h
  simp only at h1
  subst h1
  exact ⟨⟨st, nw, l⟩, a, c, rfl, h4, h2⟩
end
section
open Go.ChangeShapes Go.WideShapes Go.ChangeAt Go.RowKit
set_option linter.unusedVariables false
theorem cz28 : Try.prog.cellsOf 28 = 7 := by kernel_rfl
theorem cz24 : Try.prog.cellsOf 24 = 1 := by kernel_rfl
theorem cz22 : Try.prog.cellsOf 22 = 1 := by kernel_rfl
theorem cz126 : Try.prog.cellsOf 126 = 9 := by kernel_rfl
theorem cz3 : Try.prog.cellsOf 3 = 1 := by kernel_rfl
def Is3 (w : World) (n : Int) : Prop := In64 n
theorem op3 : OpR Try.prog 3 Int iC Is3 := op_i64 ut3
theorem cz34 : Try.prog.cellsOf 34 = 2 := by kernel_rfl
structure Is34 (w : World) (s : SpanV) : Prop where
  Lo : Is3 w s.Lo
  Hi : Is3 w s.Hi
theorem fx34 : fL Try.prog 34 = some [(3, 0), (3, 1)] := by kernel_rfl
theorem op34 : OpR Try.prog 34 SpanV SpanV.cells Is34 := fun {H} enc w base sp held fuel cs x h => by
  obtain ⟨hl, hp⟩ := op_parts fx34 h
  obtain ⟨n0, y0, h0⟩ := hp 0 3 0 rfl
  obtain ⟨s0, c0, r0⟩ := op3 _ _ _ _ _ _ _ _ h0
  obtain ⟨n1, y1, h1⟩ := hp 1 3 1 rfl
  obtain ⟨s1, c1, r1⟩ := op3 _ _ _ _ _ _ _ _ h1
  refine ⟨⟨s0, s1⟩, ?_, ⟨r0, r1⟩⟩
  have e1 := parts_last (hl.trans cz34) (by rw [cz3]) c1
  have e0 := parts_cons c0 (m := 1) (by rw [cz3]) e1
  exact e0
theorem cz5 : Try.prog.cellsOf 5 = 1 := by kernel_rfl
def Is5 (w : World) (n : Int) : Prop := 0 ≤ n ∧ n ≤ 255
theorem op5 : OpR Try.prog 5 Int iC_u8 Is5 := op_u8 ut5
structure Is126 (w : World) (s : StretchV) : Prop where
  Id : Is3 w s.Id
  Long : Is34 w s.Long
  Fall : Is34 w s.Fall
  Radius : Is34 w s.Radius
  Side : Is5 w s.Side
  Wall : Is3 w s.Wall
theorem fx126 : fL Try.prog 126 = some [(3, 0), (34, 1), (34, 3), (34, 5), (5, 7), (3, 8)] := by kernel_rfl
theorem op126 : OpR Try.prog 126 StretchV StretchV.cells Is126 := fun {H} enc w base sp held fuel cs x h => by
  obtain ⟨hl, hp⟩ := op_parts fx126 h
  obtain ⟨n0, y0, h0⟩ := hp 0 3 0 rfl
  obtain ⟨s0, c0, r0⟩ := op3 _ _ _ _ _ _ _ _ h0
  obtain ⟨n1, y1, h1⟩ := hp 1 34 1 rfl
  obtain ⟨s1, c1, r1⟩ := op34 _ _ _ _ _ _ _ _ h1
  obtain ⟨n2, y2, h2⟩ := hp 2 34 3 rfl
  obtain ⟨s2, c2, r2⟩ := op34 _ _ _ _ _ _ _ _ h2
  obtain ⟨n3, y3, h3⟩ := hp 3 34 5 rfl
  obtain ⟨s3, c3, r3⟩ := op34 _ _ _ _ _ _ _ _ h3
  obtain ⟨n4, y4, h4⟩ := hp 4 5 7 rfl
  obtain ⟨s4, c4, r4⟩ := op5 _ _ _ _ _ _ _ _ h4
  obtain ⟨n5, y5, h5⟩ := hp 5 3 8 rfl
  obtain ⟨s5, c5, r5⟩ := op3 _ _ _ _ _ _ _ _ h5
  refine ⟨⟨s0, s1, s2, s3, s4, s5⟩, ?_, ⟨r0, r1, r2, r3, r4, r5⟩⟩
  have e5 := parts_last (hl.trans cz126) (by rw [cz3]) c5
  have e4 := parts_cons c4 (m := 8) (by rw [cz5]) e5
  have e3 := parts_cons c3 (m := 7) (by rw [cz34]) e4
  have e2 := parts_cons c2 (m := 5) (by rw [cz34]) e3
  have e1 := parts_cons c1 (m := 3) (by rw [cz34]) e2
  have e0 := parts_cons c0 (m := 1) (by rw [cz3]) e1
  exact e0
def Is22 (w : World) (s : Slc) : Prop := ∃ l : List StretchV, s.n = l.length ∧ (rd s.a l.length 9 (l.map StretchV.cells)).holds w ∧ (∀ x ∈ l, Is126 w x) ∧ l.length ≤ maxLen ∧ s.n ≤ s.c
theorem op22 : OpR Try.prog 22 Slc (fun s => [Value.slice s.a s.n s.c]) Is22 := op_slice ut22 cz126 op126
structure Is24 (w : World) (s : TrackV) : Prop where
  Stretches : Is22 w s.Stretches
theorem fx24 : fL Try.prog 24 = some [(22, 0)] := by kernel_rfl
theorem op24 : OpR Try.prog 24 TrackV TrackV.cells Is24 := fun {H} enc w base sp held fuel cs x h => by
  obtain ⟨hl, hp⟩ := op_parts fx24 h
  obtain ⟨n0, y0, h0⟩ := hp 0 22 0 rfl
  obtain ⟨s0, c0, r0⟩ := op22 _ _ _ _ _ _ _ _ h0
  refine ⟨⟨s0⟩, ?_, ⟨r0⟩⟩
  have e0 := parts_last (hl.trans cz24) (by rw [cz22]) c0
  exact e0
theorem cz25 : Try.prog.cellsOf 25 = 1 := by kernel_rfl
theorem cz64 : Try.prog.cellsOf 64 = 2 := by kernel_rfl
theorem cz62 : Try.prog.cellsOf 62 = 1 := by kernel_rfl
theorem cz61 : Try.prog.cellsOf 61 = 3 := by kernel_rfl
structure Is61 (w : World) (s : SyncV) : Prop where
  At : Is3 w s.At
  Ahead : Is34 w s.Ahead
theorem fx61 : fL Try.prog 61 = some [(3, 0), (34, 1)] := by kernel_rfl
theorem op61 : OpR Try.prog 61 SyncV SyncV.cells Is61 := fun {H} enc w base sp held fuel cs x h => by
  obtain ⟨hl, hp⟩ := op_parts fx61 h
  obtain ⟨n0, y0, h0⟩ := hp 0 3 0 rfl
  obtain ⟨s0, c0, r0⟩ := op3 _ _ _ _ _ _ _ _ h0
  obtain ⟨n1, y1, h1⟩ := hp 1 34 1 rfl
  obtain ⟨s1, c1, r1⟩ := op34 _ _ _ _ _ _ _ _ h1
  refine ⟨⟨s0, s1⟩, ?_, ⟨r0, r1⟩⟩
  have e1 := parts_last (hl.trans cz61) (by rw [cz34]) c1
  have e0 := parts_cons c0 (m := 1) (by rw [cz3]) e1
  exact e0
def Is62 (w : World) (s : Slc) : Prop := ∃ l : List SyncV, s.n = l.length ∧ (rd s.a l.length 3 (l.map SyncV.cells)).holds w ∧ (∀ x ∈ l, Is61 w x) ∧ l.length ≤ maxLen ∧ s.n ≤ s.c
theorem op62 : OpR Try.prog 62 Slc (fun s => [Value.slice s.a s.n s.c]) Is62 := op_slice ut62 cz61 op61
structure Is64 (w : World) (s : ClockV) : Prop where
  Drift : Is3 w s.Drift
  Syncs : Is62 w s.Syncs
theorem fx64 : fL Try.prog 64 = some [(3, 0), (62, 1)] := by kernel_rfl
theorem op64 : OpR Try.prog 64 ClockV ClockV.cells Is64 := fun {H} enc w base sp held fuel cs x h => by
  obtain ⟨hl, hp⟩ := op_parts fx64 h
  obtain ⟨n0, y0, h0⟩ := hp 0 3 0 rfl
  obtain ⟨s0, c0, r0⟩ := op3 _ _ _ _ _ _ _ _ h0
  obtain ⟨n1, y1, h1⟩ := hp 1 62 1 rfl
  obtain ⟨s1, c1, r1⟩ := op62 _ _ _ _ _ _ _ _ h1
  refine ⟨⟨s0, s1⟩, ?_, ⟨r0, r1⟩⟩
  have e1 := parts_last (hl.trans cz64) (by rw [cz62]) c1
  have e0 := parts_cons c0 (m := 1) (by rw [cz3]) e1
  exact e0
def Is25 (w : World) (s : Slc) : Prop := ∃ l : List ClockV, s.n = l.length ∧ (rd s.a l.length 2 (l.map ClockV.cells)).holds w ∧ (∀ x ∈ l, Is64 w x) ∧ l.length ≤ maxLen ∧ s.n ≤ s.c
theorem op25 : OpR Try.prog 25 Slc (fun s => [Value.slice s.a s.n s.c]) Is25 := op_slice ut25 cz64 op64
theorem cz26 : Try.prog.cellsOf 26 = 1 := by kernel_rfl
theorem cz55 : Try.prog.cellsOf 55 = 4 := by kernel_rfl
theorem cz53 : Try.prog.cellsOf 53 = 3 := by kernel_rfl
structure Is53 (w : World) (s : SpotV) : Prop where
  Stretch : Is3 w s.Stretch
  Off : Is34 w s.Off
theorem fx53 : fL Try.prog 53 = some [(3, 0), (34, 1)] := by kernel_rfl
theorem op53 : OpR Try.prog 53 SpotV SpotV.cells Is53 := fun {H} enc w base sp held fuel cs x h => by
  obtain ⟨hl, hp⟩ := op_parts fx53 h
  obtain ⟨n0, y0, h0⟩ := hp 0 3 0 rfl
  obtain ⟨s0, c0, r0⟩ := op3 _ _ _ _ _ _ _ _ h0
  obtain ⟨n1, y1, h1⟩ := hp 1 34 1 rfl
  obtain ⟨s1, c1, r1⟩ := op34 _ _ _ _ _ _ _ _ h1
  refine ⟨⟨s0, s1⟩, ?_, ⟨r0, r1⟩⟩
  have e1 := parts_last (hl.trans cz53) (by rw [cz34]) c1
  have e0 := parts_cons c0 (m := 1) (by rw [cz3]) e1
  exact e0
structure Is55 (w : World) (s : BeamV) : Prop where
  Spot : Is53 w s.Spot
  Clock : Is3 w s.Clock
theorem fx55 : fL Try.prog 55 = some [(53, 0), (3, 3)] := by kernel_rfl
theorem op55 : OpR Try.prog 55 BeamV BeamV.cells Is55 := fun {H} enc w base sp held fuel cs x h => by
  obtain ⟨hl, hp⟩ := op_parts fx55 h
  obtain ⟨n0, y0, h0⟩ := hp 0 53 0 rfl
  obtain ⟨s0, c0, r0⟩ := op53 _ _ _ _ _ _ _ _ h0
  obtain ⟨n1, y1, h1⟩ := hp 1 3 3 rfl
  obtain ⟨s1, c1, r1⟩ := op3 _ _ _ _ _ _ _ _ h1
  refine ⟨⟨s0, s1⟩, ?_, ⟨r0, r1⟩⟩
  have e1 := parts_last (hl.trans cz55) (by rw [cz3]) c1
  have e0 := parts_cons c0 (m := 3) (by rw [cz53]) e1
  exact e0
def Is26 (w : World) (s : Slc) : Prop := ∃ l : List BeamV, s.n = l.length ∧ (rd s.a l.length 4 (l.map BeamV.cells)).holds w ∧ (∀ x ∈ l, Is55 w x) ∧ l.length ≤ maxLen ∧ s.n ≤ s.c
theorem op26 : OpR Try.prog 26 Slc (fun s => [Value.slice s.a s.n s.c]) Is26 := op_slice ut26 cz55 op55
structure Is28 (w : World) (s : LineV) : Prop where
  Track : Is24 w s.Track
  Fast : Is3 w s.Fast
  Clocks : Is25 w s.Clocks
  Beams : Is26 w s.Beams
  Finish : Is3 w s.Finish
  Fakes : Is3 w s.Fakes
  Misses : Is3 w s.Misses
theorem fx28 : fL Try.prog 28 = some [(24, 0), (3, 1), (25, 2), (26, 3), (3, 4), (3, 5), (3, 6)] := by kernel_rfl
theorem op28 : OpR Try.prog 28 LineV LineV.cells Is28 := fun {H} enc w base sp held fuel cs x h => by
  obtain ⟨hl, hp⟩ := op_parts fx28 h
  obtain ⟨n0, y0, h0⟩ := hp 0 24 0 rfl
  obtain ⟨s0, c0, r0⟩ := op24 _ _ _ _ _ _ _ _ h0
  obtain ⟨n1, y1, h1⟩ := hp 1 3 1 rfl
  obtain ⟨s1, c1, r1⟩ := op3 _ _ _ _ _ _ _ _ h1
  obtain ⟨n2, y2, h2⟩ := hp 2 25 2 rfl
  obtain ⟨s2, c2, r2⟩ := op25 _ _ _ _ _ _ _ _ h2
  obtain ⟨n3, y3, h3⟩ := hp 3 26 3 rfl
  obtain ⟨s3, c3, r3⟩ := op26 _ _ _ _ _ _ _ _ h3
  obtain ⟨n4, y4, h4⟩ := hp 4 3 4 rfl
  obtain ⟨s4, c4, r4⟩ := op3 _ _ _ _ _ _ _ _ h4
  obtain ⟨n5, y5, h5⟩ := hp 5 3 5 rfl
  obtain ⟨s5, c5, r5⟩ := op3 _ _ _ _ _ _ _ _ h5
  obtain ⟨n6, y6, h6⟩ := hp 6 3 6 rfl
  obtain ⟨s6, c6, r6⟩ := op3 _ _ _ _ _ _ _ _ h6
  refine ⟨⟨s0, s1, s2, s3, s4, s5, s6⟩, ?_, ⟨r0, r1, r2, r3, r4, r5, r6⟩⟩
  have e6 := parts_last (hl.trans cz28) (by rw [cz3]) c6
  have e5 := parts_cons c5 (m := 6) (by rw [cz3]) e6
  have e4 := parts_cons c4 (m := 5) (by rw [cz3]) e5
  have e3 := parts_cons c3 (m := 4) (by rw [cz26]) e4
  have e2 := parts_cons c2 (m := 3) (by rw [cz25]) e3
  have e1 := parts_cons c1 (m := 2) (by rw [cz3]) e2
  have e0 := parts_cons c0 (m := 1) (by rw [cz24]) e1
  exact e0
theorem cz69 : Try.prog.cellsOf 69 = 3 := by kernel_rfl
theorem cz67 : Try.prog.cellsOf 67 = 1 := by kernel_rfl
theorem cz30 : Try.prog.cellsOf 30 = 2 := by kernel_rfl
structure Is30 (w : World) (s : SignalV) : Prop where
  Beam : Is3 w s.Beam
  Read : Is3 w s.Read
theorem fx30 : fL Try.prog 30 = some [(3, 0), (3, 1)] := by kernel_rfl
theorem op30 : OpR Try.prog 30 SignalV SignalV.cells Is30 := fun {H} enc w base sp held fuel cs x h => by
  obtain ⟨hl, hp⟩ := op_parts fx30 h
  obtain ⟨n0, y0, h0⟩ := hp 0 3 0 rfl
  obtain ⟨s0, c0, r0⟩ := op3 _ _ _ _ _ _ _ _ h0
  obtain ⟨n1, y1, h1⟩ := hp 1 3 1 rfl
  obtain ⟨s1, c1, r1⟩ := op3 _ _ _ _ _ _ _ _ h1
  refine ⟨⟨s0, s1⟩, ?_, ⟨r0, r1⟩⟩
  have e1 := parts_last (hl.trans cz30) (by rw [cz3]) c1
  have e0 := parts_cons c0 (m := 1) (by rw [cz3]) e1
  exact e0
def Is67 (w : World) (s : Slc) : Prop := ∃ l : List SignalV, s.n = l.length ∧ (rd s.a l.length 2 (l.map SignalV.cells)).holds w ∧ (∀ x ∈ l, Is30 w x) ∧ l.length ≤ maxLen ∧ s.n ≤ s.c
theorem op67 : OpR Try.prog 67 Slc (fun s => [Value.slice s.a s.n s.c]) Is67 := op_slice ut67 cz30 op30
structure Is69 (w : World) (s : RideV) : Prop where
  Start : Is3 w s.Start
  Now : Is3 w s.Now
  Signals : Is67 w s.Signals
theorem fx69 : fL Try.prog 69 = some [(3, 0), (3, 1), (67, 2)] := by kernel_rfl
theorem op69 : OpR Try.prog 69 RideV RideV.cells Is69 := fun {H} enc w base sp held fuel cs x h => by
  obtain ⟨hl, hp⟩ := op_parts fx69 h
  obtain ⟨n0, y0, h0⟩ := hp 0 3 0 rfl
  obtain ⟨s0, c0, r0⟩ := op3 _ _ _ _ _ _ _ _ h0
  obtain ⟨n1, y1, h1⟩ := hp 1 3 1 rfl
  obtain ⟨s1, c1, r1⟩ := op3 _ _ _ _ _ _ _ _ h1
  obtain ⟨n2, y2, h2⟩ := hp 2 67 2 rfl
  obtain ⟨s2, c2, r2⟩ := op67 _ _ _ _ _ _ _ _ h2
  refine ⟨⟨s0, s1, s2⟩, ?_, ⟨r0, r1, r2⟩⟩
  have e2 := parts_last (hl.trans cz69) (by rw [cz67]) c2
  have e1 := parts_cons c1 (m := 2) (by rw [cz3]) e2
  have e0 := parts_cons c0 (m := 1) (by rw [cz3]) e1
  exact e0
theorem own_beamMore : ownKnob Try.prog.godebug = none := by kernel_rfl
theorem laid_beamMore : laidOutB Try.prog = true := by kernel_rfl
set_option maxRecDepth 100000 in
theorem beamMore_lifted (os : Os) (started : os.Started) (H : Type) (enc : TypeId × Value → H) :
    ReturnsInHanded {} Try.checked os 6 .any (Rows.beamMoreSpec.pre6 enc Try.prog Try.f6 Rows.beamMoreRow.domain false) (Rows.beamMoreSpec.post enc Try.prog Try.f6 false true false false) := by
  refine returnsInHanded_of_change (C := Try.checked) own_beamMore started (by kernel_rfl) Try.func6
    (ChangeSpec.witness6 (enc := enc) (C := Try.checked) false ⟨#[], #[.agg #[(Value.slice none 0 0), (Value.int .i64 0), (Value.slice none 0 0), (Value.slice none 0 0), (Value.int .i64 0), (Value.int .i64 0), (Value.int .i64 0)], .agg #[(Value.int .i64 0), (Value.int .i64 0), (Value.slice none 0 0)], Value.int .u16 0], []⟩ 8 (by kernel_rfl) (by kernel_rfl) (by kernel_rfl) (by kernel_rfl)) ?_
  intro W base args ds gs before hval0 hW hcnd _
  have hval : ∀ (j : Nat) t v, Try.f6.params[j]? = some t → args[j]? = some v → Value.okWide Try.prog W .any base t v := hval0
  have hW' := hW
  obtain ⟨p, q, hA0, hV, rfl, hfz, hnd⟩ := hW
  have hA : DataW.TrodAll enc Try.prog W 0 (fun _ => true) true Try.f6.params.toList args.toList ds p := hA0
  have hA1 := hA
  rw [Try.params6] at hA hval
  obtain ⟨v0, vs0, d0, ds0, p0, q0, hargs, rfl, rfl, h0, r0⟩ := trodAll_cons hA
  obtain ⟨v1, vs1, d1, ds1, p1, q1, rfl, rfl, rfl, h1, r1⟩ := trodAll_cons r0
  obtain ⟨v2, vs2, d2, ds2, p2, q2, rfl, rfl, rfl, h2, r2⟩ := trodAll_cons r1
  obtain ⟨rfl, rfl, rfl⟩ := trodAll_nil r2
  obtain rfl : args = #[v0, v1, v2] := by cases args; simp_all
  obtain ⟨rfl, rfl⟩ := trodVars_none hV
  obtain ⟨s0, rfl, R0⟩ := arg_struct fx28 op28 (hval 0 28 v0 rfl rfl) h0
  obtain ⟨s1, rfl, R1⟩ := arg_struct fx69 op69 (hval 1 69 v1 rfl rfl) h1
  obtain ⟨s2, rfl, R2⟩ := arg_int (k := .u16) ut70 (hval 2 70 v2 rfl rfl) h2
  simp only [List.append_nil] at hW' hA1
  obtain ⟨l, az, kA, kC, cA, cC, bA, bC, rfl, hraw, hl4, _⟩ := open_line (R1 := Is126) (R2 := Is64) (R3 := Is55) (R4 := Is61) R0.Track.Stretches (fun x hx => hx.Side) R0.Clocks (fun x hx => hx.Syncs) R0.Beams
  obtain ⟨r, gA, gC, rfl, hrr, hrd⟩ := open_ride (R := Is30) R1.Signals
  have hrun := (beamMore_c l kA kC az cA cC bA bC r gA gC s2 hraw hrr R2).run W (by intro A hA; simp only [List.mem_cons, List.not_mem_nil, or_false] at hA; rcases hA with rfl | rfl | rfl | rfl | rfl; exact hl4.1; exact hl4.2.1; exact hl4.2.2.1; exact hl4.2.2.2; exact hrd)
  refine (hrun).mono fun e W' ⟨he, hk⟩ => ?_
  subst he
  exact ⟨_, rfl, law_post laid_beamMore hW' hA1 rfl rfl (by kernel_rfl) hk.below (by kernel_rfl) ut4⟩
/-- the statement -/
theorem beamMore_said : Rows.BeamMoreSaid :=
  OpenClaim.holds_of_wide 6 Try.f6 rfl rfl rfl rfl rfl rfl rfl ⟨rfl, rfl, rfl, rfl, rfl⟩ rfl rfl rfl rfl rfl (by kernel_rfl) Try.func6 (by kernel_rfl)
    (of_decide_eq_true (by kernel_rfl)) (by unfold Func.isWrapper; first | (rw [if_pos (by decide +kernel)]; kernel_rfl) | (rw [if_neg (by decide +kernel)]; exact ⟨rfl, rfl⟩))
    (fun os started H enc _ => beamMore_lifted os started H enc)
#print axioms beamMore_said
end
end Go.Proofs.Ytaehngpnlkokkaa
