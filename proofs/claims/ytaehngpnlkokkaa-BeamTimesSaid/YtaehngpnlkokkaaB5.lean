/-
  Walks: kreisel/beam.asks$1, kreisel/beam.asks$2, kreisel/beam.asks$3$1, kreisel/beam.asks$3, kreisel/beam.way, kreisel/beam.asks$4
-/
import Derived.Test.YtaehngpnlkokkaaTab
import Derived.Test.YtaehngpnlkokkaaShort
import Derived.Test.YtaehngpnlkokkaaGoes
import Derived.Test.YtaehngpnlkokkaaB3
import Derived.Test.YtaehngpnlkokkaaB4
namespace Go.Proofs.Ytaehngpnlkokkaa
open Go.RowKit
set_option linter.unusedVariables false

set_option maxRecDepth 100000 in
set_option maxHeartbeats 400000 in
theorem ask1_c (l : LineM) (kA : Option Addr) (kC : Nat) (az : List RA) (cA : Option Addr) (cC : Nat) (bA : Option Addr) (bC : Nat) (hin : LineIn l az) :
    FnV Try.prog 81 [(Value.agg (LineV.cells (LineV.mk (TrackV.mk (Slc.mk kA l.Track.length kC)) l.Fast (Slc.mk cA l.Clocks.length cC) (Slc.mk bA l.Beams.length bC) l.Finish l.Fakes l.Misses)).toArray)] [(rd kA l.Track.length 9 (l.Track.map StretchV.cells)), (rd cA l.Clocks.length 2 (List.zipWith ClockM.cells l.Clocks az)), (bun (nest ClockM.rds l.Clocks az)), (rd bA l.Beams.length 4 (l.Beams.map BeamV.cells))] (Value.bool (decide (HeadOk l))) := by
 have htk := hin.trk
 have hck := hin.cks
 have has := hin.as_
 have hbm := hin.bms
 refine fnV_of go81 Try.func81 rfl rfl fun w0 Q hQ hN => ?_
 change WJ _ _ _ _ [(0, (Value.agg (LineV.cells (LineV.mk (TrackV.mk (Slc.mk kA l.Track.length kC)) l.Fast (Slc.mk cA l.Clocks.length cC) (Slc.mk bA l.Beams.length bC) l.Finish l.Fakes l.Misses)).toArray))] [(rd kA l.Track.length 9 (l.Track.map StretchV.cells)).ro, (rd cA l.Clocks.length 2 (List.zipWith ClockM.cells l.Clocks az)).ro, (bun (nest ClockM.rds l.Clocks az)).ro, (rd bA l.Beams.length 4 (l.Beams.map BeamV.cells)).ro]
 refine WS fun _ hK1 => ?_
 refine BXA rfl fun b2 => ?_
 refine rS (AG rfl) ?_
 refine RK hK1 ?_
 refine WS fun _ hK3 => ?_
 refine rS (FA 1 rfl fo28_1 rfl) ?_
 refine rS (L1 (Value.int .i64 l.Fast) 0 rfl tk3 rfl rfl) ?_
 refine r_bs (xs := [.tmp 4]) (cs := [(Value.int .i64 l.Fast)]) rfl te57 tz3 rfl rfl rfl rfl (by simp [Value.cells]) rfl rfl fun b4 => ?_
 refine rS (CL (FnV.eq (in_beam 1 5000 ([l.Fast]) (some ⟨b4, 0, none⟩) 1 (by first | assumption | omega | (simp; done) | (simp; omega))) inAll_one) (ha_cons (has_rd_blk 0 rfl rfl (by simp [iC_length]) rfl) <| ha_nil) rfl) ?_
 refine rS (MV rfl) ?_
 refine r_bool (t := 7) rfl (fun h5 => ?_) (fun h5 => ?_)
 rotate_left 1
 · replace h5 := DF h5
   refine rS (OX rfl) ?_
   refine rS (OX rfl) ?_
   refine rS (OX rfl) ?_
   refine rS (OX rfl) ?_
   refine rS (OX rfl) ?_
   refine rS (PK rfl) ?_
   refine rS (MV rfl) ?_
   refine rS (OX rfl) ?_
   refine rS (OX rfl) ?_
   refine rS (OX rfl) ?_
   refine rS (OX rfl) ?_
   refine rS (OX rfl) ?_
   refine rS (PK rfl) ?_
   refine rS (MV rfl) ?_
   refine rS (OX rfl) ?_
   refine rS (OX rfl) ?_
   refine rS (OX rfl) ?_
   refine rS (OX rfl) ?_
   refine rS (OX rfl) ?_
   refine rS (OX rfl) ?_
   refine rS (OX rfl) ?_
   refine rS (OX rfl) ?_
   refine rS (PK rfl) ?_
   refine rS (MV rfl) ?_
   refine rS (OX rfl) ?_
   refine rS (OX rfl) ?_
   refine rS (OX rfl) ?_
   refine rS (OX rfl) ?_
   refine rS (PK rfl) ?_
   refine rS (MV rfl) ?_
   refine rS (OX rfl) ?_
   refine rS (OX rfl) ?_
   refine rS (OX rfl) ?_
   refine rS (OX rfl) ?_
   refine rS (PK rfl) ?_
   refine rS (AG rfl) ?_
   refine RK hK3 ?_
   refine w_ret ?_
   refine Q1 hQ rfl rfl rfl ?_
   exact congrArg Value.bool (decide_eq_false (by unfold HeadOk; omega)).symm
 replace h5 := DT h5
 refine rS (FA 2 rfl fo28_2 rfl) ?_
 refine rS (L1 (Value.slice cA l.Clocks.length cC) 1 rfl tk25 rfl rfl) ?_
 refine rS (LN rfl ut25) ?_
 refine r_bs (xs := [.tmp 10]) (cs := [(Value.int .i64 ((l.Clocks.length : Nat) : Int))]) rfl te57 tz3 rfl rfl rfl rfl (by simp [Value.cells]) rfl rfl fun b6 => ?_
 refine rS (CL (FnV.eq (in_beam 1 4 ([((l.Clocks.length : Nat) : Int)]) (some ⟨b6, 0, none⟩) 1 (by first | assumption | omega | (simp; done) | (simp; omega))) inAll_one) (ha_cons (has_rd_blk 0 rfl rfl (by simp [iC_length]) rfl) <| ha_nil) rfl) ?_
 refine rS (PK rfl) ?_
 refine rS (MV rfl) ?_
 refine r_bool (t := 14) rfl (fun h7 => ?_) (fun h7 => ?_)
 rotate_left 1
 · replace h7 := DF h7
   refine rS (OX rfl) ?_
   refine rS (OX rfl) ?_
   refine rS (OX rfl) ?_
   refine rS (OX rfl) ?_
   refine rS (OX rfl) ?_
   refine rS (PK rfl) ?_
   refine rS (MV rfl) ?_
   refine rS (OX rfl) ?_
   refine rS (OX rfl) ?_
   refine rS (OX rfl) ?_
   refine rS (OX rfl) ?_
   refine rS (OX rfl) ?_
   refine rS (OX rfl) ?_
   refine rS (OX rfl) ?_
   refine rS (OX rfl) ?_
   refine rS (PK rfl) ?_
   refine rS (MV rfl) ?_
   refine rS (OX rfl) ?_
   refine rS (OX rfl) ?_
   refine rS (OX rfl) ?_
   refine rS (OX rfl) ?_
   refine rS (PK rfl) ?_
   refine rS (MV rfl) ?_
   refine rS (OX rfl) ?_
   refine rS (OX rfl) ?_
   refine rS (OX rfl) ?_
   refine rS (OX rfl) ?_
   refine rS (PK rfl) ?_
   refine rS (AG rfl) ?_
   refine RK hK3 ?_
   refine w_ret ?_
   refine Q1 hQ rfl rfl rfl ?_
   exact congrArg Value.bool (decide_eq_false (by unfold HeadOk; omega)).symm
 replace h7 := DT h7
 refine rS (FA 3 rfl fo28_3 rfl) ?_
 refine rS (L1 (Value.slice bA l.Beams.length bC) 2 rfl tk26 rfl rfl) ?_
 refine rS (LN rfl ut26) ?_
 refine r_bs (xs := [.tmp 17]) (cs := [(Value.int .i64 ((l.Beams.length : Nat) : Int))]) rfl te57 tz3 rfl rfl rfl rfl (by simp [Value.cells]) rfl rfl fun b8 => ?_
 refine rS (CL (FnV.eq (in_beam 1 6 ([((l.Beams.length : Nat) : Int)]) (some ⟨b8, 0, none⟩) 1 (by first | assumption | omega | (simp; done) | (simp; omega))) inAll_one) (ha_cons (has_rd_blk 0 rfl rfl (by simp [iC_length]) rfl) <| ha_nil) rfl) ?_
 refine rS (PK rfl) ?_
 refine rS (MV rfl) ?_
 refine r_bool (t := 21) rfl (fun h9 => ?_) (fun h9 => ?_)
 rotate_left 1
 · replace h9 := DF h9
   refine rS (OX rfl) ?_
   refine rS (OX rfl) ?_
   refine rS (OX rfl) ?_
   refine rS (OX rfl) ?_
   refine rS (OX rfl) ?_
   refine rS (OX rfl) ?_
   refine rS (OX rfl) ?_
   refine rS (OX rfl) ?_
   refine rS (PK rfl) ?_
   refine rS (MV rfl) ?_
   refine rS (OX rfl) ?_
   refine rS (OX rfl) ?_
   refine rS (OX rfl) ?_
   refine rS (OX rfl) ?_
   refine rS (PK rfl) ?_
   refine rS (MV rfl) ?_
   refine rS (OX rfl) ?_
   refine rS (OX rfl) ?_
   refine rS (OX rfl) ?_
   refine rS (OX rfl) ?_
   refine rS (PK rfl) ?_
   refine rS (AG rfl) ?_
   refine RK hK3 ?_
   refine w_ret ?_
   refine Q1 hQ rfl rfl rfl ?_
   exact congrArg Value.bool (decide_eq_false (by unfold HeadOk; omega)).symm
 replace h9 := DT h9
 refine rS (FA 3 rfl fo28_3 rfl) ?_
 refine rS (L1 (Value.slice bA l.Beams.length bC) 3 rfl tk26 rfl rfl) ?_
 refine rS (LN rfl ut26) ?_
 refine rS (BI rfl (b_sub ⟨by omega, by omega⟩)) ?_
 refine rS (FA 4 rfl fo28_4 rfl) ?_
 refine rS (L1 (Value.int .i64 l.Finish) 3 rfl tk3 rfl rfl) ?_
 refine r_bs (xs := [.tmp 27]) (cs := [(Value.int .i64 l.Finish)]) rfl te57 tz3 rfl rfl rfl rfl (by simp [Value.cells]) rfl rfl fun b10 => ?_
 refine rS (CL (FnV.eq (in_beam 0 (((l.Beams.length : Nat) : Int) - 1) ([l.Finish]) (some ⟨b10, 0, none⟩) 1 (by first | assumption | omega | (simp; done) | (simp; omega))) inAll_one) (ha_cons (has_rd_blk 0 rfl rfl (by simp [iC_length]) rfl) <| ha_nil) rfl) ?_
 refine rS (PK rfl) ?_
 refine rS (MV rfl) ?_
 refine r_bool (t := 31) rfl (fun h11 => ?_) (fun h11 => ?_)
 rotate_left 1
 · replace h11 := DF h11
   refine rS (OX rfl) ?_
   refine rS (OX rfl) ?_
   refine rS (OX rfl) ?_
   refine rS (OX rfl) ?_
   refine rS (PK rfl) ?_
   refine rS (MV rfl) ?_
   refine rS (OX rfl) ?_
   refine rS (OX rfl) ?_
   refine rS (OX rfl) ?_
   refine rS (OX rfl) ?_
   refine rS (PK rfl) ?_
   refine rS (AG rfl) ?_
   refine RK hK3 ?_
   refine w_ret ?_
   refine Q1 hQ rfl rfl rfl ?_
   exact congrArg Value.bool (decide_eq_false (by unfold HeadOk; omega)).symm
 replace h11 := DT h11
 refine rS (FA 5 rfl fo28_5 rfl) ?_
 refine rS (L1 (Value.int .i64 l.Fakes) 4 rfl tk3 rfl rfl) ?_
 refine r_bs (xs := [.tmp 33]) (cs := [(Value.int .i64 l.Fakes)]) rfl te57 tz3 rfl rfl rfl rfl (by simp [Value.cells]) rfl rfl fun b12 => ?_
 refine rS (CL (FnV.eq (in_beam 0 3 ([l.Fakes]) (some ⟨b12, 0, none⟩) 1 (by first | assumption | omega | (simp; done) | (simp; omega))) inAll_one) (ha_cons (has_rd_blk 0 rfl rfl (by simp [iC_length]) rfl) <| ha_nil) rfl) ?_
 refine rS (PK rfl) ?_
 refine rS (MV rfl) ?_
 refine r_bool (t := 37) rfl (fun h13 => ?_) (fun h13 => ?_)
 rotate_left 1
 · replace h13 := DF h13
   refine rS (OX rfl) ?_
   refine rS (OX rfl) ?_
   refine rS (OX rfl) ?_
   refine rS (OX rfl) ?_
   refine rS (PK rfl) ?_
   refine rS (AG rfl) ?_
   refine RK hK3 ?_
   refine w_ret ?_
   refine Q1 hQ rfl rfl rfl ?_
   exact congrArg Value.bool (decide_eq_false (by unfold HeadOk; omega)).symm
 replace h13 := DT h13
 refine rS (FA 6 rfl fo28_6 rfl) ?_
 refine rS (L1 (Value.int .i64 l.Misses) 5 rfl tk3 rfl rfl) ?_
 refine r_bs (xs := [.tmp 39]) (cs := [(Value.int .i64 l.Misses)]) rfl te57 tz3 rfl rfl rfl rfl (by simp [Value.cells]) rfl rfl fun b14 => ?_
 refine rS (CL (FnV.eq (in_beam 0 3 ([l.Misses]) (some ⟨b14, 0, none⟩) 1 (by first | assumption | omega | (simp; done) | (simp; omega))) inAll_one) (ha_cons (has_rd_blk 0 rfl rfl (by simp [iC_length]) rfl) <| ha_nil) rfl) ?_
 refine rS (PK rfl) ?_
 refine rS (AG rfl) ?_
 refine RK hK3 ?_
 refine w_ret ?_
 refine Q1 hQ rfl rfl rfl ?_
 exact congrArg Value.bool (decide_eq_decide.2 (by unfold HeadOk; omega))

set_option maxRecDepth 100000 in
set_option maxHeartbeats 400000 in
theorem ask2_c (l : LineM) (kA : Option Addr) (kC : Nat) (az : List RA) (cA : Option Addr) (cC : Nat) (bA : Option Addr) (bC : Nat) (hin : LineIn l az) :
    FnV Try.prog 82 [(Value.agg (LineV.cells (LineV.mk (TrackV.mk (Slc.mk kA l.Track.length kC)) l.Fast (Slc.mk cA l.Clocks.length cC) (Slc.mk bA l.Beams.length bC) l.Finish l.Fakes l.Misses)).toArray)] [(rd kA l.Track.length 9 (l.Track.map StretchV.cells)), (rd cA l.Clocks.length 2 (List.zipWith ClockM.cells l.Clocks az)), (bun (nest ClockM.rds l.Clocks az)), (rd bA l.Beams.length 4 (l.Beams.map BeamV.cells))] (Value.bool (decide (∀ c ∈ l.Clocks, ClockOk c))) := by
 have htk := hin.trk
 have hck := hin.cks
 have has := hin.as_
 have hbm := hin.bms
 refine fnV_of go82 Try.func82 rfl rfl fun w0 Q hQ hN => ?_
 change WJ _ _ _ _ [(0, (Value.agg (LineV.cells (LineV.mk (TrackV.mk (Slc.mk kA l.Track.length kC)) l.Fast (Slc.mk cA l.Clocks.length cC) (Slc.mk bA l.Beams.length bC) l.Finish l.Fakes l.Misses)).toArray))] [(rd kA l.Track.length 9 (l.Track.map StretchV.cells)).ro, (rd cA l.Clocks.length 2 (List.zipWith ClockM.cells l.Clocks az)).ro, (bun (nest ClockM.rds l.Clocks az)).ro, (rd bA l.Beams.length 4 (l.Beams.map BeamV.cells)).ro]
 refine WS fun _ hK1 => ?_
 refine BXA rfl fun b2 => ?_
 refine rS (AG rfl) ?_
 refine RK hK1 ?_
 refine WS fun _ hK3 => ?_
 refine rS (FA 2 rfl fo28_2 rfl) ?_
 refine rS (L1 (Value.slice cA l.Clocks.length cC) 0 rfl tk25 rfl rfl) ?_
 refine rS (CL (containsck_c l.Clocks az cA cC (Value.func (.func 84) [].toArray [].toArray) (fun m => (!(decide (ClockOk m)))) (bun (nest ClockM.rds l.Clocks az)) (by intro k_ m a hm_ ha_; exact clo_of (fi := []) (ca := []) (bad_c l.Clocks az k_ m a (by exact hm_) (by exact ha_) (by exact hin.syn _ _ _ hm_ ha_))) (by first | assumption | omega | (simp; done) | (simp; omega)) (by first | assumption | omega | (simp; done) | (simp; omega))) (ha_at 2 rfl rfl <| ha_at 3 rfl rfl <| ha_at 3 rfl rfl <| ha_nil) rfl) ?_
 refine rS (NT rfl) ?_
 refine rS (AG rfl) ?_
 refine RK hK3 ?_
 refine w_ret ?_
 refine Q1 hQ rfl rfl rfl ?_
 exact congrArg Value.bool (by rw [Bool.eq_iff_iff, decide_eq_true_eq]; exact clocks_any)

set_option maxRecDepth 100000 in
set_option maxHeartbeats 400000 in
theorem spot_c (b : BeamV) (l : LineM) (kA : Option Addr) (kC : Nat) (az : List RA) (cA : Option Addr) (cC : Nat) (bA : Option Addr) (bC : Nat) (g1 : Nat) (hin : LineIn l az) (htr : trackOk l.Track = true) :
    FnV Try.prog 88 [(Value.agg (BeamV.cells b).toArray), (Value.pointer (some ⟨g1, 0, none⟩))] [(rd kA l.Track.length 9 (l.Track.map StretchV.cells)), (rd cA l.Clocks.length 2 (List.zipWith ClockM.cells l.Clocks az)), (bun (nest ClockM.rds l.Clocks az)), (rd bA l.Beams.length 4 (l.Beams.map BeamV.cells)), (blk g1 28 (LineV.cells (LineV.mk (TrackV.mk (Slc.mk kA l.Track.length kC)) l.Fast (Slc.mk cA l.Clocks.length cC) (Slc.mk bA l.Beams.length bC) l.Finish l.Fakes l.Misses)))] (Value.bool (!(decide (BeamOk l b)))) := by
 have htk := hin.trk
 have hck := hin.cks
 have has := hin.as_
 have hbm := hin.bms
 have hsd := hin.side
 refine fnV_of go88 Try.func88 rfl rfl fun w0 Q hQ hN => ?_
 change WJ _ _ _ _ [(0, (Value.agg (BeamV.cells b).toArray)), (1, (Value.pointer (some ⟨g1, 0, none⟩)))] [(rd kA l.Track.length 9 (l.Track.map StretchV.cells)).ro, (rd cA l.Clocks.length 2 (List.zipWith ClockM.cells l.Clocks az)).ro, (bun (nest ClockM.rds l.Clocks az)).ro, (rd bA l.Beams.length 4 (l.Beams.map BeamV.cells)).ro, (blk g1 28 (LineV.cells (LineV.mk (TrackV.mk (Slc.mk kA l.Track.length kC)) l.Fast (Slc.mk cA l.Clocks.length cC) (Slc.mk bA l.Beams.length bC) l.Finish l.Fakes l.Misses))).ro]
 refine WS fun _ hK1 => ?_
 refine BXA rfl fun b2 => ?_
 refine rS (AG rfl) ?_
 refine RK hK1 ?_
 refine WS fun _ hK3 => ?_
 refine rS (FA 0 rfl fo28_0 rfl) ?_
 refine rS (LPR (TrackV.cells (TrackV.mk (Slc.mk kA l.Track.length kC))) 5 rfl tk24 rfl rfl rfl) ?_
 refine rS (FA 0 rfl fo55_0 rfl) ?_
 refine rS (LP (SpotV.cells b.Spot) 0 rfl tk53 rfl rfl rfl) ?_
 refine rS (CL (At_c l.Track kA kC b.Spot (by first | assumption | omega | (simp; done) | (simp; omega)) (by first | assumption | omega | (simp; done) | (simp; omega))) (ha_at 1 rfl rfl <| ha_nil) rfl) ?_
 refine rS (MV rfl) ?_
 refine rS (EX rfl) ?_
 refine rS (EX rfl) ?_
 refine AL rfl tz34 fun b4 => ?_
 refine SW0 rfl ts34 rfl ?_
 refine rS (AG rfl) ?_
 refine RK hK3 ?_
 refine WS fun _ hK5 => ?_
 refine rS (MV rfl) ?_
 refine rS (BI rfl b_neq) ?_
 refine rS (MV rfl) ?_
 refine r_bool (t := 16) rfl (fun h16 => ?_) (fun h16 => ?_)
 · replace h16 := XT h16
   refine rS (OX rfl) ?_
   refine rS (OX rfl) ?_
   refine rS (OX rfl) ?_
   refine rS (OX rfl) ?_
   refine rS (OX rfl) ?_
   refine rS (OX rfl) ?_
   refine rS (OX rfl) ?_
   refine rS (OX rfl) ?_
   refine rS (OX rfl) ?_
   refine rS (PK rfl) ?_
   refine rS (AG rfl) ?_
   refine RK hK5 ?_
   refine w_ret ?_
   refine Q1 hQ rfl rfl rfl ?_
   first | (refine congrArg Value.bool ?_; rw [decide_eq_false (fun h : BeamOk l b => h16 ((at_zero htr).2 h.1))]; rfl) | (refine congrArg Value.bool ?_; refine congrArg Bool.not (decide_eq_decide.2 ⟨fun h => ⟨(at_zero htr).1 h16, by omega, by omega⟩, fun h => by have := h.2; omega⟩))
 replace h16 := XF h16
 refine rS (FA 2 rfl fo28_2 rfl) ?_
 refine rS (L1R (Value.slice cA l.Clocks.length cC) 6 rfl tk25 rfl rfl) ?_
 refine rS (LN rfl ut25) ?_
 refine rS (BI rfl (b_sub ⟨by omega, by omega⟩)) ?_
 refine rS (FA 3 rfl fo55_1 rfl) ?_
 refine rS (L1 (Value.int .i64 b.Clock) 1 rfl tk3 rfl rfl) ?_
 refine r_bs (xs := [.tmp 22]) (cs := [(Value.int .i64 b.Clock)]) rfl te57 tz3 rfl rfl rfl rfl (by simp [Value.cells]) rfl rfl fun b6 => ?_
 refine rS (CL (FnV.eq (in_beam 0 (((l.Clocks.length : Nat) : Int) - 1) ([b.Clock]) (some ⟨b6, 0, none⟩) 1 (by first | assumption | omega | (simp; done) | (simp; omega))) inAll_one) (ha_cons (has_rd_blk 0 rfl rfl (by simp [iC_length]) rfl) <| ha_nil) rfl) ?_
 refine rS (NT rfl) ?_
 refine rS (PK rfl) ?_
 refine rS (AG rfl) ?_
 refine RK hK5 ?_
 refine w_ret ?_
 refine Q1 hQ rfl rfl rfl ?_
 first | (refine congrArg Value.bool ?_; rw [decide_eq_false (fun h : BeamOk l b => h16 ((at_zero htr).2 h.1))]; rfl) | (refine congrArg Value.bool ?_; refine congrArg Bool.not (decide_eq_decide.2 ⟨fun h => ⟨(at_zero htr).1 h16, by omega, by omega⟩, fun h => by have := h.2; omega⟩))

set_option maxRecDepth 100000 in
set_option maxHeartbeats 400000 in
theorem ask3_c (l : LineM) (kA : Option Addr) (kC : Nat) (az : List RA) (cA : Option Addr) (cC : Nat) (bA : Option Addr) (bC : Nat) (hin : LineIn l az) (htr : trackOk l.Track = true) :
    FnV Try.prog 86 [(Value.agg (LineV.cells (LineV.mk (TrackV.mk (Slc.mk kA l.Track.length kC)) l.Fast (Slc.mk cA l.Clocks.length cC) (Slc.mk bA l.Beams.length bC) l.Finish l.Fakes l.Misses)).toArray)] [(rd kA l.Track.length 9 (l.Track.map StretchV.cells)), (rd cA l.Clocks.length 2 (List.zipWith ClockM.cells l.Clocks az)), (bun (nest ClockM.rds l.Clocks az)), (rd bA l.Beams.length 4 (l.Beams.map BeamV.cells))] (Value.bool (decide (∀ b ∈ l.Beams, BeamOk l b))) := by
 have htk := hin.trk
 have hck := hin.cks
 have has := hin.as_
 have hbm := hin.bms
 refine fnV_of go86 Try.func86 rfl rfl fun w0 Q hQ hN => ?_
 change WJ _ _ _ _ [(0, (Value.agg (LineV.cells (LineV.mk (TrackV.mk (Slc.mk kA l.Track.length kC)) l.Fast (Slc.mk cA l.Clocks.length cC) (Slc.mk bA l.Beams.length bC) l.Finish l.Fakes l.Misses)).toArray))] [(rd kA l.Track.length 9 (l.Track.map StretchV.cells)).ro, (rd cA l.Clocks.length 2 (List.zipWith ClockM.cells l.Clocks az)).ro, (bun (nest ClockM.rds l.Clocks az)).ro, (rd bA l.Beams.length 4 (l.Beams.map BeamV.cells)).ro]
 refine WS fun _ hK1 => ?_
 refine BXA rfl fun b2 => ?_
 refine rS (AG rfl) ?_
 refine RK hK1 ?_
 refine WS fun _ hK3 => ?_
 refine rS (FA 3 rfl fo28_3 rfl) ?_
 refine rS (L1 (Value.slice bA l.Beams.length bC) 0 rfl tk26 rfl rfl) ?_
 refine rS (FU rfl) ?_
 refine rS (CL (containsbm_c l.Beams bA bC (Value.func (.func 88) [].toArray [(Value.pointer (some ⟨b2, 0, none⟩))].toArray) (fun u4 => (!(decide (BeamOk l u4)))) (bun [(rd kA l.Track.length 9 (l.Track.map StretchV.cells)), (rd cA l.Clocks.length 2 (List.zipWith ClockM.cells l.Clocks az)), (bun (nest ClockM.rds l.Clocks az)), (rd bA l.Beams.length 4 (l.Beams.map BeamV.cells)), (blk b2 28 (LineV.cells (LineV.mk (TrackV.mk (Slc.mk kA l.Track.length kC)) l.Fast (Slc.mk cA l.Clocks.length cC) (Slc.mk bA l.Beams.length bC) l.Finish l.Fakes l.Misses)))]) (by intro u4 _; exact clo_of (fi := []) (ca := [(Value.pointer (some ⟨b2, 0, none⟩))]) (fnV_bun (spot_c u4 l kA kC az cA cC bA bC b2 (by first | assumption | omega) (by first | assumption | omega)) (ha_at 0 rfl rfl <| ha_at 1 rfl rfl <| ha_at 2 rfl rfl <| ha_at 3 rfl rfl <| ha_at 4 rfl rfl <| ha_nil))) (by first | assumption | omega | (simp; done) | (simp; omega))) (ha_at 4 rfl rfl <| ha_cons (has_bun (ha_at 1 rfl rfl <| ha_at 2 rfl rfl <| ha_at 3 rfl rfl <| ha_at 4 rfl rfl <| ha_at 0 rfl rfl <| ha_nil)) <| ha_nil) rfl) ?_
 refine rS (NT rfl) ?_
 refine rS (AG rfl) ?_
 refine RK hK3 ?_
 refine w_ret ?_
 refine Q1 hQ rfl rfl rfl ?_
 exact congrArg Value.bool (by rw [Bool.eq_iff_iff, decide_eq_true_eq]; exact beams_any)

set_option maxRecDepth 100000 in
set_option maxHeartbeats 400000 in
theorem way_c (l : LineM) (kA : Option Addr) (kC : Nat) (az : List RA) (cA : Option Addr) (cC : Nat) (bA : Option Addr) (bC : Nat) (n : Int) (hin : LineIn l az) (htr : trackOk l.Track = true) (hbk : ∀ b ∈ l.Beams, BeamOk l b) (hn : 0 ≤ n ∧ n < (l.Beams.length : Int)) :
    FnV Try.prog 52 [(Value.agg (LineV.cells (LineV.mk (TrackV.mk (Slc.mk kA l.Track.length kC)) l.Fast (Slc.mk cA l.Clocks.length cC) (Slc.mk bA l.Beams.length bC) l.Finish l.Fakes l.Misses)).toArray), (Value.int .i64 n)] [(rd kA l.Track.length 9 (l.Track.map StretchV.cells)), (rd cA l.Clocks.length 2 (List.zipWith ClockM.cells l.Clocks az)), (bun (nest ClockM.rds l.Clocks az)), (rd bA l.Beams.length 4 (l.Beams.map BeamV.cells))] (Value.int .i64 (wayF l n.toNat)) := by
 have htk := hin.trk
 have hck := hin.cks
 have has := hin.as_
 have hbm := hin.bms
 have hsd := hin.side
 refine fnV_of go52 Try.func52 rfl rfl fun w0 Q hQ hN => ?_
 change WJ _ _ _ _ [(0, (Value.agg (LineV.cells (LineV.mk (TrackV.mk (Slc.mk kA l.Track.length kC)) l.Fast (Slc.mk cA l.Clocks.length cC) (Slc.mk bA l.Beams.length bC) l.Finish l.Fakes l.Misses)).toArray)), (1, (Value.int .i64 n))] [(rd kA l.Track.length 9 (l.Track.map StretchV.cells)).ro, (rd cA l.Clocks.length 2 (List.zipWith ClockM.cells l.Clocks az)).ro, (bun (nest ClockM.rds l.Clocks az)).ro, (rd bA l.Beams.length 4 (l.Beams.map BeamV.cells)).ro]
 refine WS fun _ hK1 => ?_
 refine BXA rfl fun b2 => ?_
 refine rS (AG rfl) ?_
 refine RK hK1 ?_
 refine WS fun _ hK3 => ?_
 refine rS (FA 3 rfl fo28_3 rfl) ?_
 refine rS (L1 (Value.slice bA l.Beams.length bC) 0 rfl tk26 rfl rfl) ?_
 refine rS (MV rfl) ?_
 obtain ⟨x, hx⟩ : ∃ y_, l.Beams[(n).toNat]? = some y_ := ⟨l.Beams[(n).toNat]'(by omega), List.getElem?_eq_getElem _⟩
 have hxm : (l.Beams.map BeamV.cells)[(n).toNat]? = some (BeamV.cells x) := by rw [List.getElem?_map, hx]; rfl
 refine rS (IA ((n).toNat) rfl (has_at 4 rfl) te26 (by decide) (by omega) (by omega)) ?_
 refine rS (FAR (((n).toNat) * 4) rfl (has_at 4 rfl) (Nat.mul_pos (by omega) (by decide)) fo55_0 rfl) ?_
 refine rS (LEN ((n).toNat) 0 (SpotV.cells x.Spot) rfl tk53 (has_at 4 rfl) hxm rfl (by decide) rfl rfl) ?_
 refine AL rfl tz53 fun b4 => ?_
 refine SW0 rfl ts53 rfl ?_
 refine RK hK3 ?_
 refine WS fun _ hK5 => ?_
 refine rS (FA 0 rfl fo28_0 rfl) ?_
 refine rS (LP (TrackV.cells (TrackV.mk (Slc.mk kA l.Track.length kC))) 1 rfl tk24 rfl rfl rfl) ?_
 refine rS (LW 0 rfl tk53 rfl rfl) ?_
 refine rS (CL (At_c l.Track kA kC x.Spot (by first | assumption | omega | (simp; done) | (simp; omega)) (by first | assumption | omega | (simp; done) | (simp; omega))) (ha_at 2 rfl rfl <| ha_nil) rfl) ?_
 refine rS (MV rfl) ?_
 refine rS (EX rfl) ?_
 refine rS (EX rfl) ?_
 refine AL rfl tz34 fun b6 => ?_
 refine SW0 rfl ts34 rfl ?_
 refine rS (AG rfl) ?_
 refine RK hK5 ?_
 refine w_seq fun _ hK7 => ?_
 refine WS fun _ hK8 => ?_
 refine rS (MV rfl) ?_
 refine rS (BI rfl b_gtr) ?_
 refine RK hK8 ?_
 refine w_if rfl (fun h22 => ?_) (fun h22 => ?_)
 rotate_left 1
 · replace h22 := DF h22
   refine WK hK7 ?_
   refine WS fun _ hK11 => ?_
   refine rS (FA 0 rfl fo34_0 rfl) ?_
   refine rS (L1 (Value.int .i64 ((atV l.Track x.Spot).Lo)) 0 rfl tk3 rfl rfl) ?_
   refine rS (AG rfl) ?_
   refine RK hK11 ?_
   refine w_ret ?_
   refine Q1 hQ rfl rfl rfl ?_
   first | (refine congrArg (Value.int .i64) ?_; rw [wayF_pos (by omega) hx (by rw [show n.toNat - 1 = (n - 1).toNat by omega]; exact hy), (apart_in htr ⟨(hbk _ (List.mem_of_getElem? hy)).1, (hbk _ (List.mem_of_getElem? hx)).1⟩).2]) | (refine congrArg (Value.int .i64) ?_; rw [show n.toNat = 0 by omega] at hx ⊢; rw [wayF_zero hx, (at_in htr (hbk _ (List.mem_of_getElem? hx)).1).2])
 replace h22 := DT h22
 refine w_draw4 mixed [0, 1, 2, 3, 4, 5, 6, 7, 8, 9, 10, 11, 12, 13] [14] [false, false, false, false, false, false, false, false, false, false, false, false, false, false] [false] [(blk b4 53 (SpotV.cells x.Spot)), (blk b2 28 (LineV.cells (LineV.mk (TrackV.mk (Slc.mk kA l.Track.length kC)) l.Fast (Slc.mk cA l.Clocks.length cC) (Slc.mk bA l.Beams.length bC) l.Finish l.Fakes l.Misses))), (rd kA l.Track.length 9 (l.Track.map StretchV.cells)).ro, (rd cA l.Clocks.length 2 (List.zipWith ClockM.cells l.Clocks az)).ro, (bun (nest ClockM.rds l.Clocks az)).ro, (rd bA l.Beams.length 4 (l.Beams.map BeamV.cells)).ro] [] (by kernel_rfl) (fun w hs => St.sel [1, 2, 3, 4, 5, 6] rfl rfl hs) (fun w hs => St.sel [] rfl rfl hs) ?_
 refine eS rfl (FA 0 rfl fo28_0 rfl) ?_
 refine eS rfl (LP (TrackV.cells (TrackV.mk (Slc.mk kA l.Track.length kC))) 1 rfl tk24 rfl rfl rfl) ?_
 refine eS rfl (FA 3 rfl fo28_3 rfl) ?_
 refine eS rfl (L1 (Value.slice bA l.Beams.length bC) 1 rfl tk26 rfl rfl) ?_
 refine eS rfl (MV rfl) ?_
 refine eS rfl (BI rfl (b_sub ⟨by omega, by omega⟩)) ?_
 obtain ⟨y, hy⟩ : ∃ y_, l.Beams[((n - 1)).toNat]? = some y_ := ⟨l.Beams[((n - 1)).toNat]'(by omega), List.getElem?_eq_getElem _⟩
 have hym : (l.Beams.map BeamV.cells)[((n - 1)).toNat]? = some (BeamV.cells y) := by rw [List.getElem?_map, hy]; rfl
 refine eS rfl (IA (((n - 1)).toNat) rfl (has_at 5 rfl) te26 (by decide) (by omega) (by omega)) ?_
 refine eS rfl (FAR ((((n - 1)).toNat) * 4) rfl (has_at 5 rfl) (Nat.mul_pos (by omega) (by decide)) fo55_0 rfl) ?_
 refine eS rfl (LEN (((n - 1)).toNat) 0 (SpotV.cells y.Spot) rfl tk53 (has_at 5 rfl) hym rfl (by decide) rfl rfl) ?_
 refine eS rfl (LW 0 rfl tk53 rfl rfl) ?_
 refine eS rfl (CL (Apart_c l.Track kA kC y.Spot x.Spot (by first | assumption | omega | (simp; done) | (simp; omega)) (by first | assumption | omega | (simp; done) | (simp; omega))) (ha_at 2 rfl rfl <| ha_nil) rfl) ?_
 refine eS rfl (MV rfl) ?_
 refine eS rfl (EX rfl) ?_
 refine eS rfl (EX rfl) ?_
 refine d_fin rfl ?_
 refine t_cons rfl fun T9 hT9 => ?_
 refine SW0 rfl ts34 rfl ?_
 refine r_nil (hT9 _ _ (fun w hs => St.sel [1, 2, 3, 4, 5, 6] rfl rfl hs) ?_)
 refine t_fin rfl ?_
 refine KK hK7 ?_
 refine WS fun _ hK10 => ?_
 refine rS (FA 0 rfl fo34_0 rfl) ?_
 refine rS (L1 (Value.int .i64 ((apartV l.Track y.Spot x.Spot).Lo)) 0 rfl tk3 rfl rfl) ?_
 refine rS (AG rfl) ?_
 refine RK hK10 ?_
 refine w_ret ?_
 refine Q1 hQ rfl rfl rfl ?_
 first | (refine congrArg (Value.int .i64) ?_; rw [wayF_pos (by omega) hx (by rw [show n.toNat - 1 = (n - 1).toNat by omega]; exact hy), (apart_in htr ⟨(hbk _ (List.mem_of_getElem? hy)).1, (hbk _ (List.mem_of_getElem? hx)).1⟩).2]) | (refine congrArg (Value.int .i64) ?_; rw [show n.toNat = 0 by omega] at hx ⊢; rw [wayF_zero hx, (at_in htr (hbk _ (List.mem_of_getElem? hx)).1).2])

set_option maxRecDepth 100000 in
set_option maxHeartbeats 400000 in
theorem ask4_c (l : LineM) (kA : Option Addr) (kC : Nat) (az : List RA) (cA : Option Addr) (cC : Nat) (bA : Option Addr) (bC : Nat) (hin : LineIn l az) (htr : trackOk l.Track = true) (hbk : ∀ b ∈ l.Beams, BeamOk l b) :
    FnV Try.prog 89 [(Value.agg (LineV.cells (LineV.mk (TrackV.mk (Slc.mk kA l.Track.length kC)) l.Fast (Slc.mk cA l.Clocks.length cC) (Slc.mk bA l.Beams.length bC) l.Finish l.Fakes l.Misses)).toArray)] [(rd kA l.Track.length 9 (l.Track.map StretchV.cells)), (rd cA l.Clocks.length 2 (List.zipWith ClockM.cells l.Clocks az)), (bun (nest ClockM.rds l.Clocks az)), (rd bA l.Beams.length 4 (l.Beams.map BeamV.cells))] (Value.bool (decide (∀ i, i < l.Beams.length → 1 ≤ wayF l i))) := by
 have htk := hin.trk
 have hck := hin.cks
 have has := hin.as_
 have hbm := hin.bms
 refine fnV_of go89 Try.func89 rfl rfl fun w0 Q hQ hN => ?_
 change WJ _ _ _ _ [(0, (Value.agg (LineV.cells (LineV.mk (TrackV.mk (Slc.mk kA l.Track.length kC)) l.Fast (Slc.mk cA l.Clocks.length cC) (Slc.mk bA l.Beams.length bC) l.Finish l.Fakes l.Misses)).toArray))] [(rd kA l.Track.length 9 (l.Track.map StretchV.cells)).ro, (rd cA l.Clocks.length 2 (List.zipWith ClockM.cells l.Clocks az)).ro, (bun (nest ClockM.rds l.Clocks az)).ro, (rd bA l.Beams.length 4 (l.Beams.map BeamV.cells)).ro]
 refine WS fun _ hK1 => ?_
 refine BXA rfl fun b2 => ?_
 refine rS (AG rfl) ?_
 refine RK hK1 ?_
 refine w_seq fun _ hK3 => ?_
 refine WS fun _ hK4 => ?_
 refine rS (FA 3 rfl fo28_3 rfl) ?_
 refine rS (L1 (Value.slice bA l.Beams.length bC) 0 rfl tk26 rfl rfl) ?_
 refine rS (LN rfl ut26) ?_
 refine rS (MV rfl) ?_
 refine RK hK4 ?_
 refine w_block ?_
 have hinit : (0 ≤ l.Beams.length) ∧ (∀ j, j < 0 → 1 ≤ wayF l j) := by exact ⟨Nat.zero_le _, fun j hj => absurd hj (Nat.not_lt_zero _)⟩
 refine w_loop (ι := { z : Nat // (z ≤ l.Beams.length) ∧ (∀ j, j < z → 1 ≤ wayF l j) }) (fun z => [(1, (Value.pointer (some ⟨b2, 0, none⟩))), (6, (Value.int .i64 ((l.Beams.length : Nat) : Int))), (7, (Value.int .i64 ((z.1 : Nat) : Int)))]) (fun z => [(blk b2 28 (LineV.cells (LineV.mk (TrackV.mk (Slc.mk kA l.Track.length kC)) l.Fast (Slc.mk cA l.Clocks.length cC) (Slc.mk bA l.Beams.length bC) l.Finish l.Fakes l.Misses))), (rd kA l.Track.length 9 (l.Track.map StretchV.cells)).ro, (rd cA l.Clocks.length 2 (List.zipWith ClockM.cells l.Clocks az)).ro, (bun (nest ClockM.rds l.Clocks az)).ro, (rd bA l.Beams.length 4 (l.Beams.map BeamV.cells)).ro]) (fun z => l.Beams.length - z.1) ⟨0, hinit⟩ (Sub.cons rfl <| Sub.cons rfl <| Sub.cons rfl <| Sub.nil _) (fun w hs => St.sel [0, 1, 2, 3, 4] rfl rfl hs) ?_
 clear hinit
 rintro ⟨i, ⟨hl0_0, hl0_1⟩⟩ J5 hJ5
 change WJ _ _ _ _ [(1, (Value.pointer (some ⟨b2, 0, none⟩))), (6, (Value.int .i64 ((l.Beams.length : Nat) : Int))), (7, (Value.int .i64 ((i : Nat) : Int)))] [(blk b2 28 (LineV.cells (LineV.mk (TrackV.mk (Slc.mk kA l.Track.length kC)) l.Fast (Slc.mk cA l.Clocks.length cC) (Slc.mk bA l.Beams.length bC) l.Finish l.Fakes l.Misses))), (rd kA l.Track.length 9 (l.Track.map StretchV.cells)).ro, (rd cA l.Clocks.length 2 (List.zipWith ClockM.cells l.Clocks az)).ro, (bun (nest ClockM.rds l.Clocks az)).ro, (rd bA l.Beams.length 4 (l.Beams.map BeamV.cells)).ro]
 refine WS fun _ hK6 => ?_
 refine rS (BI rfl b_lss) ?_
 refine RK hK6 ?_
 refine w_seq fun _ hK7 => ?_
 refine w_if rfl (fun h8 => ?_) (fun h8 => ?_)
 rotate_left 1
 · replace h8 := DF h8
   refine w_exit ?_
   refine k_exit_then ?_
   refine k_exit_then ?_
   refine k_exit_same ?_
   refine KK hK3 ?_
   refine WS fun _ hK14 => ?_
   refine rS (AG rfl) ?_
   refine RK hK14 ?_
   refine w_ret ?_
   refine Q1 hQ rfl rfl rfl ?_
   first | exact congrArg Value.bool (decide_eq_false (fun h => by have := h i (by omega); simp only [Int.toNat_natCast] at h13; omega)).symm | exact congrArg Value.bool (decide_eq_true (fun j hj => hl0_1 j (by omega))).symm
 replace h8 := DT h8
 refine WK hK7 ?_
 refine w_seq fun _ hK9 => ?_
 refine w_block ?_
 refine WS fun _ hK10 => ?_
 refine rS (MV rfl) ?_
 refine rS (AG rfl) ?_
 refine RK hK10 ?_
 refine WS fun _ hK11 => ?_
 refine rS (LW 0 rfl tk28 rfl rfl) ?_
 refine rS (MV rfl) ?_
 refine rS (CL (way_c l kA kC az cA cC bA bC ((i : Nat) : Int) hin htr hbk (by first | assumption | omega | (simp; done) | (simp; omega))) (ha_at 1 rfl rfl <| ha_at 2 rfl rfl <| ha_at 3 rfl rfl <| ha_at 4 rfl rfl <| ha_nil) rfl) ?_
 refine rS (BI rfl b_lss) ?_
 refine RK hK11 ?_
 refine w_if rfl (fun h13 => ?_) (fun h13 => ?_)
 · replace h13 := DT h13
   refine WS fun _ hK12 => ?_
   refine rS (AG rfl) ?_
   refine RK hK12 ?_
   refine w_ret ?_
   refine Q1 hQ rfl rfl rfl ?_
   first | exact congrArg Value.bool (decide_eq_false (fun h => by have := h i (by omega); simp only [Int.toNat_natCast] at h13; omega)).symm | exact congrArg Value.bool (decide_eq_true (fun j hj => hl0_1 j (by omega))).symm
 replace h13 := DF h13
 refine w_skip ?_
 refine k_block ?_
 refine KK hK9 ?_
 refine w_region ?_
 refine rS (BI rfl (b_add ⟨by omega, by omega⟩)) ?_
 refine rS (MV rfl) ?_
 refine r_nil ?_
 have hb13 : (Value.int .i64 (((i + 1) : Nat) : Int)) = (Value.int .i64 (((i : Nat) : Int) + 1)) := by exact congrArg (Value.int .i64) (by omega)
 refine k_then (hJ5 ⟨(i + 1), ⟨by omega, fun j hj => by rcases Nat.lt_or_ge j i with q | q; exact hl0_1 j q; (obtain rfl : j = i := by omega); simp only [Int.toNat_natCast] at h13; omega⟩⟩ _ _ _ rfl (by first | omega | (simp; omega)) (Sub.cons rfl <| Sub.cons rfl <| sub_val rfl hb13 <| Sub.nil _) (fun w hs => St.sel [0, 1, 2, 3, 4] rfl rfl hs))

end Go.Proofs.Ytaehngpnlkokkaa
