/-
  The statement beamAhead_said, part 4 of 6: B5, B6, B7, B8, B10, V1, V3, V2.
  Conditions: none.
-/
import Derived.Test.YtaehngpnlkokkaaKAh1
import Derived.Test.YtaehngpnlkokkaaKAh2
import Derived.Test.YtaehngpnlkokkaaKAh3
namespace Go.Proofs.Ytaehngpnlkokkaa
section
open Go.RowKit
set_option linter.unusedVariables false
set_option maxRecDepth 100000 in
set_option maxHeartbeats 400000 in
theorem ask1_c (l : LineM) (kA : Option Addr) (kC : Nat) (az : List RA) (cA : Option Addr) (cC : Nat) (bA : Option Addr) (bC : Nat) (hin : LineIn l az) :
    FnV Try.prog 81 [(Value.agg (LineV.cells (LineV.mk (TrackV.mk (Slc.mk kA l.Track.length kC)) l.Fast (Slc.mk cA l.Clocks.length cC) (Slc.mk bA l.Beams.length bC) l.Finish l.Fakes l.Misses)).toArray)] [(rd kA l.Track.length 9 (l.Track.map StretchV.cells)), (rd cA l.Clocks.length 2 (List.zipWith ClockM.cells l.Clocks az)), (bun (nest ClockM.rds l.Clocks az)), (rd bA l.Beams.length 4 (l.Beams.map BeamV.cells))] (Value.bool (decide (HeadOk l))) := by
 have htk := hin.trk
 have hck := hin.cks
 have has := hin.as_
 have hbm := hin.bms
 refine fnV_of go81 Try.func81 rfl rfl fun w0 Q hQ hN => ?_
 try dsimp only
 refine WS fun _ hK1 => ?_
 refine BXA rfl fun b2 => ?_
 refine rS (AG rfl) ?_
 refine RK hK1 ?_
 refine WS fun _ hK3 => ?_
 refine rS (FA 1 rfl fo28_1 rfl) ?_
 refine rS (L1 (Value.int .i64 l.Fast) 0 rfl tk3 rfl rfl) ?_
 refine r_bs (xs := [.tmp 4]) (cs := [(Value.int .i64 l.Fast)]) rfl te57 tz3 rfl rfl rfl rfl (by simp [Value.cells]) rfl rfl fun b4 => ?_
 refine rS (CL (FnV.eq (in_beam 1 5000 ([l.Fast]) (some ⟨b4, 0, none⟩) 1 (by first | assumption | omega | (simp; done) | (simp; omega))) inAll_one) (ha_cons (has_rd_blk 0 rfl rfl (by simp [iC_length]) rfl) <| ha_nil) rfl) ?_
 refine rS (MV rfl) ?_
 refine r_bool (t := 7) rfl (fun h5 => ?_) (fun h5 => ?_)
 rotate_left 1
 · replace h5 := DF h5
   refine rS (OX rfl) ?_
   refine rS (OX rfl) ?_
   refine rS (OX rfl) ?_
   refine rS (OX rfl) ?_
   refine rS (OX rfl) ?_
   refine rS (PK rfl) ?_
   refine rS (MV rfl) ?_
   refine rS (OX rfl) ?_
   refine rS (OX rfl) ?_
   refine rS (OX rfl) ?_
   refine rS (OX rfl) ?_
   refine rS (OX rfl) ?_
   refine rS (PK rfl) ?_
   refine rS (MV rfl) ?_
   refine rS (OX rfl) ?_
   refine rS (OX rfl) ?_
   refine rS (OX rfl) ?_
   refine rS (OX rfl) ?_
   refine rS (OX rfl) ?_
   refine rS (OX rfl) ?_
   refine rS (OX rfl) ?_
   refine rS (OX rfl) ?_
   refine rS (PK rfl) ?_
   refine rS (MV rfl) ?_
   refine rS (OX rfl) ?_
   refine rS (OX rfl) ?_
   refine rS (OX rfl) ?_
   refine rS (OX rfl) ?_
   refine rS (PK rfl) ?_
   refine rS (MV rfl) ?_
   refine rS (OX rfl) ?_
   refine rS (OX rfl) ?_
   refine rS (OX rfl) ?_
   refine rS (OX rfl) ?_
   refine rS (PK rfl) ?_
   refine rS (AG rfl) ?_
   refine RK hK3 ?_
   refine w_ret ?_
   refine Q1 hQ rfl rfl rfl ?_
   exact congrArg Value.bool (decide_eq_false (by unfold HeadOk; omega)).symm
 replace h5 := DT h5
 refine rS (FA 2 rfl fo28_2 rfl) ?_
 refine rS (L1 (Value.slice cA l.Clocks.length cC) 1 rfl tk25 rfl rfl) ?_
 refine rS (LN rfl ut25) ?_
 refine r_bs (xs := [.tmp 10]) (cs := [(Value.int .i64 ((l.Clocks.length : Nat) : Int))]) rfl te57 tz3 rfl rfl rfl rfl (by simp [Value.cells]) rfl rfl fun b6 => ?_
 refine rS (CL (FnV.eq (in_beam 1 4 ([((l.Clocks.length : Nat) : Int)]) (some ⟨b6, 0, none⟩) 1 (by first | assumption | omega | (simp; done) | (simp; omega))) inAll_one) (ha_cons (has_rd_blk 0 rfl rfl (by simp [iC_length]) rfl) <| ha_nil) rfl) ?_
 refine rS (PK rfl) ?_
 refine rS (MV rfl) ?_
 refine r_bool (t := 14) rfl (fun h7 => ?_) (fun h7 => ?_)
 rotate_left 1
 · replace h7 := DF h7
   refine rS (OX rfl) ?_
   refine rS (OX rfl) ?_
   refine rS (OX rfl) ?_
   refine rS (OX rfl) ?_
   refine rS (OX rfl) ?_
   refine rS (PK rfl) ?_
   refine rS (MV rfl) ?_
   refine rS (OX rfl) ?_
   refine rS (OX rfl) ?_
   refine rS (OX rfl) ?_
   refine rS (OX rfl) ?_
   refine rS (OX rfl) ?_
   refine rS (OX rfl) ?_
   refine rS (OX rfl) ?_
   refine rS (OX rfl) ?_
   refine rS (PK rfl) ?_
   refine rS (MV rfl) ?_
   refine rS (OX rfl) ?_
   refine rS (OX rfl) ?_
   refine rS (OX rfl) ?_
   refine rS (OX rfl) ?_
   refine rS (PK rfl) ?_
   refine rS (MV rfl) ?_
   refine rS (OX rfl) ?_
   refine rS (OX rfl) ?_
   refine rS (OX rfl) ?_
   refine rS (OX rfl) ?_
   refine rS (PK rfl) ?_
   refine rS (AG rfl) ?_
   refine RK hK3 ?_
   refine w_ret ?_
   refine Q1 hQ rfl rfl rfl ?_
   exact congrArg Value.bool (decide_eq_false (by unfold HeadOk; omega)).symm
 replace h7 := DT h7
 refine rS (FA 3 rfl fo28_3 rfl) ?_
 refine rS (L1 (Value.slice bA l.Beams.length bC) 2 rfl tk26 rfl rfl) ?_
 refine rS (LN rfl ut26) ?_
 refine r_bs (xs := [.tmp 17]) (cs := [(Value.int .i64 ((l.Beams.length : Nat) : Int))]) rfl te57 tz3 rfl rfl rfl rfl (by simp [Value.cells]) rfl rfl fun b8 => ?_
 refine rS (CL (FnV.eq (in_beam 1 6 ([((l.Beams.length : Nat) : Int)]) (some ⟨b8, 0, none⟩) 1 (by first | assumption | omega | (simp; done) | (simp; omega))) inAll_one) (ha_cons (has_rd_blk 0 rfl rfl (by simp [iC_length]) rfl) <| ha_nil) rfl) ?_
 refine rS (PK rfl) ?_
 refine rS (MV rfl) ?_
 refine r_bool (t := 21) rfl (fun h9 => ?_) (fun h9 => ?_)
 rotate_left 1
 · replace h9 := DF h9
   refine rS (OX rfl) ?_
   refine rS (OX rfl) ?_
   refine rS (OX rfl) ?_
   refine rS (OX rfl) ?_
   refine rS (OX rfl) ?_
   refine rS (OX rfl) ?_
   refine rS (OX rfl) ?_
   refine rS (OX rfl) ?_
   refine rS (PK rfl) ?_
   refine rS (MV rfl) ?_
   refine rS (OX rfl) ?_
   refine rS (OX rfl) ?_
   refine rS (OX rfl) ?_
   refine rS (OX rfl) ?_
   refine rS (PK rfl) ?_
   refine rS (MV rfl) ?_
   refine rS (OX rfl) ?_
   refine rS (OX rfl) ?_
   refine rS (OX rfl) ?_
   refine rS (OX rfl) ?_
   refine rS (PK rfl) ?_
   refine rS (AG rfl) ?_
   refine RK hK3 ?_
   refine w_ret ?_
   refine Q1 hQ rfl rfl rfl ?_
   exact congrArg Value.bool (decide_eq_false (by unfold HeadOk; omega)).symm
 replace h9 := DT h9
 refine rS (FA 3 rfl fo28_3 rfl) ?_
 refine rS (L1 (Value.slice bA l.Beams.length bC) 3 rfl tk26 rfl rfl) ?_
 refine rS (LN rfl ut26) ?_
 refine rS (BI rfl (b_sub ⟨by omega, by omega⟩)) ?_
 refine rS (FA 4 rfl fo28_4 rfl) ?_
 refine rS (L1 (Value.int .i64 l.Finish) 3 rfl tk3 rfl rfl) ?_
 refine r_bs (xs := [.tmp 27]) (cs := [(Value.int .i64 l.Finish)]) rfl te57 tz3 rfl rfl rfl rfl (by simp [Value.cells]) rfl rfl fun b10 => ?_
 refine rS (CL (FnV.eq (in_beam 0 (((l.Beams.length : Nat) : Int) - 1) ([l.Finish]) (some ⟨b10, 0, none⟩) 1 (by first | assumption | omega | (simp; done) | (simp; omega))) inAll_one) (ha_cons (has_rd_blk 0 rfl rfl (by simp [iC_length]) rfl) <| ha_nil) rfl) ?_
 refine rS (PK rfl) ?_
 refine rS (MV rfl) ?_
 refine r_bool (t := 31) rfl (fun h11 => ?_) (fun h11 => ?_)
 rotate_left 1
 · replace h11 := DF h11
   refine rS (OX rfl) ?_
   refine rS (OX rfl) ?_
   refine rS (OX rfl) ?_
   refine rS (OX rfl) ?_
   refine rS (PK rfl) ?_
   refine rS (MV rfl) ?_
   refine rS (OX rfl) ?_
   refine rS (OX rfl) ?_
   refine rS (OX rfl) ?_
   refine rS (OX rfl) ?_
   refine rS (PK rfl) ?_
   refine rS (AG rfl) ?_
   refine RK hK3 ?_
   refine w_ret ?_
   refine Q1 hQ rfl rfl rfl ?_
   exact congrArg Value.bool (decide_eq_false (by unfold HeadOk; omega)).symm
 replace h11 := DT h11
 refine rS (FA 5 rfl fo28_5 rfl) ?_
 refine rS (L1 (Value.int .i64 l.Fakes) 4 rfl tk3 rfl rfl) ?_
 refine r_bs (xs := [.tmp 33]) (cs := [(Value.int .i64 l.Fakes)]) rfl te57 tz3 rfl rfl rfl rfl (by simp [Value.cells]) rfl rfl fun b12 => ?_
 refine rS (CL (FnV.eq (in_beam 0 3 ([l.Fakes]) (some ⟨b12, 0, none⟩) 1 (by first | assumption | omega | (simp; done) | (simp; omega))) inAll_one) (ha_cons (has_rd_blk 0 rfl rfl (by simp [iC_length]) rfl) <| ha_nil) rfl) ?_
 refine rS (PK rfl) ?_
 refine rS (MV rfl) ?_
 refine r_bool (t := 37) rfl (fun h13 => ?_) (fun h13 => ?_)
 rotate_left 1
 · replace h13 := DF h13
   refine rS (OX rfl) ?_
   refine rS (OX rfl) ?_
   refine rS (OX rfl) ?_
   refine rS (OX rfl) ?_
   refine rS (PK rfl) ?_
   refine rS (AG rfl) ?_
   refine RK hK3 ?_
   refine w_ret ?_
   refine Q1 hQ rfl rfl rfl ?_
   exact congrArg Value.bool (decide_eq_false (by unfold HeadOk; omega)).symm
 replace h13 := DT h13
 refine rS (FA 6 rfl fo28_6 rfl) ?_
 refine rS (L1 (Value.int .i64 l.Misses) 5 rfl tk3 rfl rfl) ?_
 refine r_bs (xs := [.tmp 39]) (cs := [(Value.int .i64 l.Misses)]) rfl te57 tz3 rfl rfl rfl rfl (by simp [Value.cells]) rfl rfl fun b14 => ?_
 refine rS (CL (FnV.eq (in_beam 0 3 ([l.Misses]) (some ⟨b14, 0, none⟩) 1 (by first | assumption | omega | (simp; done) | (simp; omega))) inAll_one) (ha_cons (has_rd_blk 0 rfl rfl (by simp [iC_length]) rfl) <| ha_nil) rfl) ?_
 refine rS (PK rfl) ?_
 refine rS (AG rfl) ?_
 refine RK hK3 ?_
 refine w_ret ?_
 refine Q1 hQ rfl rfl rfl ?_
 exact congrArg Value.bool (decide_eq_decide.2 (by unfold HeadOk; omega))
set_option maxRecDepth 100000 in
set_option maxHeartbeats 400000 in
theorem ask2_c (l : LineM) (kA : Option Addr) (kC : Nat) (az : List RA) (cA : Option Addr) (cC : Nat) (bA : Option Addr) (bC : Nat) (hin : LineIn l az) :
    FnV Try.prog 82 [(Value.agg (LineV.cells (LineV.mk (TrackV.mk (Slc.mk kA l.Track.length kC)) l.Fast (Slc.mk cA l.Clocks.length cC) (Slc.mk bA l.Beams.length bC) l.Finish l.Fakes l.Misses)).toArray)] [(rd kA l.Track.length 9 (l.Track.map StretchV.cells)), (rd cA l.Clocks.length 2 (List.zipWith ClockM.cells l.Clocks az)), (bun (nest ClockM.rds l.Clocks az)), (rd bA l.Beams.length 4 (l.Beams.map BeamV.cells))] (Value.bool (decide (∀ c ∈ l.Clocks, ClockOk c))) := by
 have htk := hin.trk
 have hck := hin.cks
 have has := hin.as_
 have hbm := hin.bms
 refine fnV_of go82 Try.func82 rfl rfl fun w0 Q hQ hN => ?_
 try dsimp only
 refine WS fun _ hK1 => ?_
 refine BXA rfl fun b2 => ?_
 refine rS (AG rfl) ?_
 refine RK hK1 ?_
 refine WS fun _ hK3 => ?_
 refine rS (FA 2 rfl fo28_2 rfl) ?_
 refine rS (L1 (Value.slice cA l.Clocks.length cC) 0 rfl tk25 rfl rfl) ?_
 refine rS (CL (containsck_c l.Clocks az cA cC (Value.func (.func 84) [].toArray [].toArray) (fun m => (!(decide (ClockOk m)))) (bun (nest ClockM.rds l.Clocks az)) (by intro k_ m a hm_ ha_; exact clo_of (fi := []) (ca := []) (bad_c l.Clocks az k_ m a (by exact hm_) (by exact ha_) (by exact hin.syn _ _ _ hm_ ha_))) (by first | assumption | omega | (simp; done) | (simp; omega)) (by first | assumption | omega | (simp; done) | (simp; omega))) (ha_at 2 rfl rfl <| ha_at 3 rfl rfl <| ha_at 3 rfl rfl <| ha_nil) rfl) ?_
 refine rS (NT rfl) ?_
 refine rS (AG rfl) ?_
 refine RK hK3 ?_
 refine w_ret ?_
 refine Q1 hQ rfl rfl rfl ?_
 exact congrArg Value.bool (by rw [Bool.eq_iff_iff, decide_eq_true_eq]; exact clocks_any)
set_option maxRecDepth 100000 in
set_option maxHeartbeats 400000 in
theorem spot_c (b : BeamV) (l : LineM) (kA : Option Addr) (kC : Nat) (az : List RA) (cA : Option Addr) (cC : Nat) (bA : Option Addr) (bC : Nat) (g1 : Nat) (hin : LineIn l az) (htr : trackOk l.Track = true) :
    FnV Try.prog 88 [(Value.agg (BeamV.cells b).toArray), (Value.pointer (some ⟨g1, 0, none⟩))] [(rd kA l.Track.length 9 (l.Track.map StretchV.cells)), (rd cA l.Clocks.length 2 (List.zipWith ClockM.cells l.Clocks az)), (bun (nest ClockM.rds l.Clocks az)), (rd bA l.Beams.length 4 (l.Beams.map BeamV.cells)), (blk g1 28 (LineV.cells (LineV.mk (TrackV.mk (Slc.mk kA l.Track.length kC)) l.Fast (Slc.mk cA l.Clocks.length cC) (Slc.mk bA l.Beams.length bC) l.Finish l.Fakes l.Misses)))] (Value.bool (!(decide (BeamOk l b)))) := by
 have htk := hin.trk
 have hck := hin.cks
 have has := hin.as_
 have hbm := hin.bms
 have hsd := hin.side
 refine fnV_of go88 Try.func88 rfl rfl fun w0 Q hQ hN => ?_
 try dsimp only
 refine WS fun _ hK1 => ?_
 refine BXA rfl fun b2 => ?_
 refine rS (AG rfl) ?_
 refine RK hK1 ?_
 refine WS fun _ hK3 => ?_
 refine rS (FA 0 rfl fo28_0 rfl) ?_
 refine rS (LPR (TrackV.cells (TrackV.mk (Slc.mk kA l.Track.length kC))) 5 rfl tk24 rfl rfl rfl) ?_
 refine rS (FA 0 rfl fo55_0 rfl) ?_
 refine rS (LP (SpotV.cells b.Spot) 0 rfl tk53 rfl rfl rfl) ?_
 refine rS (CL (At_c l.Track kA kC b.Spot (by first | assumption | omega | (simp; done) | (simp; omega)) (by first | assumption | omega | (simp; done) | (simp; omega))) (ha_at 1 rfl rfl <| ha_nil) rfl) ?_
 refine rS (MV rfl) ?_
 refine rS (EX rfl) ?_
 refine rS (EX rfl) ?_
 refine AL rfl tz34 fun b4 => ?_
 refine SW0 rfl ts34 rfl ?_
 refine rS (AG rfl) ?_
 refine RK hK3 ?_
 refine WS fun _ hK5 => ?_
 refine rS (MV rfl) ?_
 refine rS (BI rfl b_neq) ?_
 refine rS (MV rfl) ?_
 refine r_bool (t := 16) rfl (fun h16 => ?_) (fun h16 => ?_)
 · replace h16 := XT h16
   refine rS (OX rfl) ?_
   refine rS (OX rfl) ?_
   refine rS (OX rfl) ?_
   refine rS (OX rfl) ?_
   refine rS (OX rfl) ?_
   refine rS (OX rfl) ?_
   refine rS (OX rfl) ?_
   refine rS (OX rfl) ?_
   refine rS (OX rfl) ?_
   refine rS (PK rfl) ?_
   refine rS (AG rfl) ?_
   refine RK hK5 ?_
   refine w_ret ?_
   refine Q1 hQ rfl rfl rfl ?_
   first | (refine congrArg Value.bool ?_; rw [decide_eq_false (fun h : BeamOk l b => h16 ((at_zero htr).2 h.1))]; rfl) | (refine congrArg Value.bool ?_; refine congrArg Bool.not (decide_eq_decide.2 ⟨fun h => ⟨(at_zero htr).1 h16, by omega, by omega⟩, fun h => by have := h.2; omega⟩))
 replace h16 := XF h16
 refine rS (FA 2 rfl fo28_2 rfl) ?_
 refine rS (L1R (Value.slice cA l.Clocks.length cC) 6 rfl tk25 rfl rfl) ?_
 refine rS (LN rfl ut25) ?_
 refine rS (BI rfl (b_sub ⟨by omega, by omega⟩)) ?_
 refine rS (FA 3 rfl fo55_1 rfl) ?_
 refine rS (L1 (Value.int .i64 b.Clock) 1 rfl tk3 rfl rfl) ?_
 refine r_bs (xs := [.tmp 22]) (cs := [(Value.int .i64 b.Clock)]) rfl te57 tz3 rfl rfl rfl rfl (by simp [Value.cells]) rfl rfl fun b6 => ?_
 refine rS (CL (FnV.eq (in_beam 0 (((l.Clocks.length : Nat) : Int) - 1) ([b.Clock]) (some ⟨b6, 0, none⟩) 1 (by first | assumption | omega | (simp; done) | (simp; omega))) inAll_one) (ha_cons (has_rd_blk 0 rfl rfl (by simp [iC_length]) rfl) <| ha_nil) rfl) ?_
 refine rS (NT rfl) ?_
 refine rS (PK rfl) ?_
 refine rS (AG rfl) ?_
 refine RK hK5 ?_
 refine w_ret ?_
 refine Q1 hQ rfl rfl rfl ?_
 first | (refine congrArg Value.bool ?_; rw [decide_eq_false (fun h : BeamOk l b => h16 ((at_zero htr).2 h.1))]; rfl) | (refine congrArg Value.bool ?_; refine congrArg Bool.not (decide_eq_decide.2 ⟨fun h => ⟨(at_zero htr).1 h16, by omega, by omega⟩, fun h => by have := h.2; omega⟩))
set_option maxRecDepth 100000 in
set_option maxHeartbeats 400000 in
theorem ask3_c (l : LineM) (kA : Option Addr) (kC : Nat) (az : List RA) (cA : Option Addr) (cC : Nat) (bA : Option Addr) (bC : Nat) (hin : LineIn l az) (htr : trackOk l.Track = true) :
    FnV Try.prog 86 [(Value.agg (LineV.cells (LineV.mk (TrackV.mk (Slc.mk kA l.Track.length kC)) l.Fast (Slc.mk cA l.Clocks.length cC) (Slc.mk bA l.Beams.length bC) l.Finish l.Fakes l.Misses)).toArray)] [(rd kA l.Track.length 9 (l.Track.map StretchV.cells)), (rd cA l.Clocks.length 2 (List.zipWith ClockM.cells l.Clocks az)), (bun (nest ClockM.rds l.Clocks az)), (rd bA l.Beams.length 4 (l.Beams.map BeamV.cells))] (Value.bool (decide (∀ b ∈ l.Beams, BeamOk l b))) := by
 have htk := hin.trk
 have hck := hin.cks
 have has := hin.as_
 have hbm := hin.bms
 refine fnV_of go86 Try.func86 rfl rfl fun w0 Q hQ hN => ?_
 try dsimp only
 refine WS fun _ hK1 => ?_
 refine BXA rfl fun b2 => ?_
 refine rS (AG rfl) ?_
 refine RK hK1 ?_
 refine WS fun _ hK3 => ?_
 refine rS (FA 3 rfl fo28_3 rfl) ?_
 refine rS (L1 (Value.slice bA l.Beams.length bC) 0 rfl tk26 rfl rfl) ?_
 refine rS (FU rfl) ?_
 refine rS (CL (containsbm_c l.Beams bA bC (Value.func (.func 88) [].toArray [(Value.pointer (some ⟨b2, 0, none⟩))].toArray) (fun u4 => (!(decide (BeamOk l u4)))) (bun [(rd kA l.Track.length 9 (l.Track.map StretchV.cells)), (rd cA l.Clocks.length 2 (List.zipWith ClockM.cells l.Clocks az)), (bun (nest ClockM.rds l.Clocks az)), (rd bA l.Beams.length 4 (l.Beams.map BeamV.cells)), (blk b2 28 (LineV.cells (LineV.mk (TrackV.mk (Slc.mk kA l.Track.length kC)) l.Fast (Slc.mk cA l.Clocks.length cC) (Slc.mk bA l.Beams.length bC) l.Finish l.Fakes l.Misses)))]) (by intro u4 _; exact clo_of (fi := []) (ca := [(Value.pointer (some ⟨b2, 0, none⟩))]) (fnV_bun (spot_c u4 l kA kC az cA cC bA bC b2 (by first | assumption | omega) (by first | assumption | omega)) (ha_at 0 rfl rfl <| ha_at 1 rfl rfl <| ha_at 2 rfl rfl <| ha_at 3 rfl rfl <| ha_at 4 rfl rfl <| ha_nil))) (by first | assumption | omega | (simp; done) | (simp; omega))) (ha_at 4 rfl rfl <| ha_cons (has_bun (ha_at 1 rfl rfl <| ha_at 2 rfl rfl <| ha_at 3 rfl rfl <| ha_at 4 rfl rfl <| ha_at 0 rfl rfl <| ha_nil)) <| ha_nil) rfl) ?_
 refine rS (NT rfl) ?_
 refine rS (AG rfl) ?_
 refine RK hK3 ?_
 refine w_ret ?_
 refine Q1 hQ rfl rfl rfl ?_
 exact congrArg Value.bool (by rw [Bool.eq_iff_iff, decide_eq_true_eq]; exact beams_any)
set_option maxRecDepth 100000 in
set_option maxHeartbeats 400000 in
theorem way_c (l : LineM) (kA : Option Addr) (kC : Nat) (az : List RA) (cA : Option Addr) (cC : Nat) (bA : Option Addr) (bC : Nat) (n : Int) (hin : LineIn l az) (htr : trackOk l.Track = true) (hbk : ∀ b ∈ l.Beams, BeamOk l b) (hn : 0 ≤ n ∧ n < (l.Beams.length : Int)) :
    FnV Try.prog 52 [(Value.agg (LineV.cells (LineV.mk (TrackV.mk (Slc.mk kA l.Track.length kC)) l.Fast (Slc.mk cA l.Clocks.length cC) (Slc.mk bA l.Beams.length bC) l.Finish l.Fakes l.Misses)).toArray), (Value.int .i64 n)] [(rd kA l.Track.length 9 (l.Track.map StretchV.cells)), (rd cA l.Clocks.length 2 (List.zipWith ClockM.cells l.Clocks az)), (bun (nest ClockM.rds l.Clocks az)), (rd bA l.Beams.length 4 (l.Beams.map BeamV.cells))] (Value.int .i64 (wayF l n.toNat)) := by
 have htk := hin.trk
 have hck := hin.cks
 have has := hin.as_
 have hbm := hin.bms
 have hsd := hin.side
 refine fnV_of go52 Try.func52 rfl rfl fun w0 Q hQ hN => ?_
 try dsimp only
 refine WS fun _ hK1 => ?_
 refine BXA rfl fun b2 => ?_
 refine rS (AG rfl) ?_
 refine RK hK1 ?_
 refine WS fun _ hK3 => ?_
 refine rS (FA 3 rfl fo28_3 rfl) ?_
 refine rS (L1 (Value.slice bA l.Beams.length bC) 0 rfl tk26 rfl rfl) ?_
 refine rS (MV rfl) ?_
 obtain ⟨x, hx⟩ : ∃ y_, l.Beams[(n).toNat]? = some y_ := ⟨l.Beams[(n).toNat]'(by omega), List.getElem?_eq_getElem _⟩
 have hxm : (l.Beams.map BeamV.cells)[(n).toNat]? = some (BeamV.cells x) := by rw [List.getElem?_map, hx]; rfl
 refine rS (IA ((n).toNat) rfl (has_at 4 rfl) te26 (by decide) (by omega) (by omega)) ?_
 refine rS (FAR (((n).toNat) * 4) rfl (has_at 4 rfl) (Nat.mul_pos (by omega) (by decide)) fo55_0 rfl) ?_
 refine rS (LEN ((n).toNat) 0 (SpotV.cells x.Spot) rfl tk53 (has_at 4 rfl) hxm rfl (by decide) rfl rfl) ?_
 refine AL rfl tz53 fun b4 => ?_
 refine SW0 rfl ts53 rfl ?_
 refine RK hK3 ?_
 refine WS fun _ hK5 => ?_
 refine rS (FA 0 rfl fo28_0 rfl) ?_
 refine rS (LP (TrackV.cells (TrackV.mk (Slc.mk kA l.Track.length kC))) 1 rfl tk24 rfl rfl rfl) ?_
 refine rS (LW 0 rfl tk53 rfl rfl) ?_
 refine rS (CL (At_c l.Track kA kC x.Spot (by first | assumption | omega | (simp; done) | (simp; omega)) (by first | assumption | omega | (simp; done) | (simp; omega))) (ha_at 2 rfl rfl <| ha_nil) rfl) ?_
 refine rS (MV rfl) ?_
 refine rS (EX rfl) ?_
 refine rS (EX rfl) ?_
 refine AL rfl tz34 fun b6 => ?_
 refine SW0 rfl ts34 rfl ?_
 refine rS (AG rfl) ?_
 refine RK hK5 ?_
 refine w_seq fun _ hK7 => ?_
 refine WS fun _ hK8 => ?_
 refine rS (MV rfl) ?_
 refine rS (BI rfl b_gtr) ?_
 refine RK hK8 ?_
 refine w_if rfl (fun h22 => ?_) (fun h22 => ?_)
 rotate_left 1
 · replace h22 := DF h22
   refine WK hK7 ?_
   refine WS fun _ hK11 => ?_
   refine rS (FA 0 rfl fo34_0 rfl) ?_
   refine rS (L1 (Value.int .i64 ((atV l.Track x.Spot).Lo)) 0 rfl tk3 rfl rfl) ?_
   refine rS (AG rfl) ?_
   refine RK hK11 ?_
   refine w_ret ?_
   refine Q1 hQ rfl rfl rfl ?_
   first | (refine congrArg (Value.int .i64) ?_; rw [wayF_pos (by omega) hx (by rw [show n.toNat - 1 = (n - 1).toNat by omega]; exact hy), (apart_in htr ⟨(hbk _ (List.mem_of_getElem? hy)).1, (hbk _ (List.mem_of_getElem? hx)).1⟩).2]) | (refine congrArg (Value.int .i64) ?_; rw [show n.toNat = 0 by omega] at hx ⊢; rw [wayF_zero hx, (at_in htr (hbk _ (List.mem_of_getElem? hx)).1).2])
 replace h22 := DT h22
 refine w_draw4 mixed [0, 1, 2, 3, 4, 5, 6, 7, 8, 9, 10, 11, 12, 13] [14] [false, false, false, false, false, false, false, false, false, false, false, false, false, false] [false] [(blk b4 53 (SpotV.cells x.Spot)), (blk b2 28 (LineV.cells (LineV.mk (TrackV.mk (Slc.mk kA l.Track.length kC)) l.Fast (Slc.mk cA l.Clocks.length cC) (Slc.mk bA l.Beams.length bC) l.Finish l.Fakes l.Misses))), (rd kA l.Track.length 9 (l.Track.map StretchV.cells)).ro, (rd cA l.Clocks.length 2 (List.zipWith ClockM.cells l.Clocks az)).ro, (bun (nest ClockM.rds l.Clocks az)).ro, (rd bA l.Beams.length 4 (l.Beams.map BeamV.cells)).ro] [] (by kernel_rfl) (fun w hs => St.sel [1, 2, 3, 4, 5, 6] rfl rfl hs) (fun w hs => St.sel [] rfl rfl hs) ?_
 refine eS rfl (FA 0 rfl fo28_0 rfl) ?_
 refine eS rfl (LP (TrackV.cells (TrackV.mk (Slc.mk kA l.Track.length kC))) 1 rfl tk24 rfl rfl rfl) ?_
 refine eS rfl (FA 3 rfl fo28_3 rfl) ?_
 refine eS rfl (L1 (Value.slice bA l.Beams.length bC) 1 rfl tk26 rfl rfl) ?_
 refine eS rfl (MV rfl) ?_
 refine eS rfl (BI rfl (b_sub ⟨by omega, by omega⟩)) ?_
 obtain ⟨y, hy⟩ : ∃ y_, l.Beams[((n - 1)).toNat]? = some y_ := ⟨l.Beams[((n - 1)).toNat]'(by omega), List.getElem?_eq_getElem _⟩
 have hym : (l.Beams.map BeamV.cells)[((n - 1)).toNat]? = some (BeamV.cells y) := by rw [List.getElem?_map, hy]; rfl
 refine eS rfl (IA (((n - 1)).toNat) rfl (has_at 5 rfl) te26 (by decide) (by omega) (by omega)) ?_
 refine eS rfl (FAR ((((n - 1)).toNat) * 4) rfl (has_at 5 rfl) (Nat.mul_pos (by omega) (by decide)) fo55_0 rfl) ?_
 refine eS rfl (LEN (((n - 1)).toNat) 0 (SpotV.cells y.Spot) rfl tk53 (has_at 5 rfl) hym rfl (by decide) rfl rfl) ?_
 refine eS rfl (LW 0 rfl tk53 rfl rfl) ?_
 refine eS rfl (CL (Apart_c l.Track kA kC y.Spot x.Spot (by first | assumption | omega | (simp; done) | (simp; omega)) (by first | assumption | omega | (simp; done) | (simp; omega))) (ha_at 2 rfl rfl <| ha_nil) rfl) ?_
 refine eS rfl (MV rfl) ?_
 refine eS rfl (EX rfl) ?_
 refine eS rfl (EX rfl) ?_
 refine d_fin rfl ?_
 refine t_cons rfl fun T9 hT9 => ?_
 refine SW0 rfl ts34 rfl ?_
 refine r_nil (hT9 _ _ (fun w hs => St.sel [1, 2, 3, 4, 5, 6] rfl rfl hs) ?_)
 refine t_fin rfl ?_
 refine KK hK7 ?_
 refine WS fun _ hK10 => ?_
 refine rS (FA 0 rfl fo34_0 rfl) ?_
 refine rS (L1 (Value.int .i64 ((apartV l.Track y.Spot x.Spot).Lo)) 0 rfl tk3 rfl rfl) ?_
 refine rS (AG rfl) ?_
 refine RK hK10 ?_
 refine w_ret ?_
 refine Q1 hQ rfl rfl rfl ?_
 first | (refine congrArg (Value.int .i64) ?_; rw [wayF_pos (by omega) hx (by rw [show n.toNat - 1 = (n - 1).toNat by omega]; exact hy), (apart_in htr ⟨(hbk _ (List.mem_of_getElem? hy)).1, (hbk _ (List.mem_of_getElem? hx)).1⟩).2]) | (refine congrArg (Value.int .i64) ?_; rw [show n.toNat = 0 by omega] at hx ⊢; rw [wayF_zero hx, (at_in htr (hbk _ (List.mem_of_getElem? hx)).1).2])
set_option maxRecDepth 100000 in
set_option maxHeartbeats 400000 in
theorem ask4_c (l : LineM) (kA : Option Addr) (kC : Nat) (az : List RA) (cA : Option Addr) (cC : Nat) (bA : Option Addr) (bC : Nat) (hin : LineIn l az) (htr : trackOk l.Track = true) (hbk : ∀ b ∈ l.Beams, BeamOk l b) :
    FnV Try.prog 89 [(Value.agg (LineV.cells (LineV.mk (TrackV.mk (Slc.mk kA l.Track.length kC)) l.Fast (Slc.mk cA l.Clocks.length cC) (Slc.mk bA l.Beams.length bC) l.Finish l.Fakes l.Misses)).toArray)] [(rd kA l.Track.length 9 (l.Track.map StretchV.cells)), (rd cA l.Clocks.length 2 (List.zipWith ClockM.cells l.Clocks az)), (bun (nest ClockM.rds l.Clocks az)), (rd bA l.Beams.length 4 (l.Beams.map BeamV.cells))] (Value.bool (decide (∀ i, i < l.Beams.length → 1 ≤ wayF l i))) := by
 have htk := hin.trk
 have hck := hin.cks
 have has := hin.as_
 have hbm := hin.bms
 refine fnV_of go89 Try.func89 rfl rfl fun w0 Q hQ hN => ?_
 try dsimp only
 refine WS fun _ hK1 => ?_
 refine BXA rfl fun b2 => ?_
 refine rS (AG rfl) ?_
 refine RK hK1 ?_
 refine w_seq fun _ hK3 => ?_
 refine WS fun _ hK4 => ?_
 refine rS (FA 3 rfl fo28_3 rfl) ?_
 refine rS (L1 (Value.slice bA l.Beams.length bC) 0 rfl tk26 rfl rfl) ?_
 refine rS (LN rfl ut26) ?_
 refine rS (MV rfl) ?_
 refine RK hK4 ?_
 refine w_block ?_
 have hinit : (0 ≤ l.Beams.length) ∧ (∀ j, j < 0 → 1 ≤ wayF l j) := by exact ⟨Nat.zero_le _, fun j hj => absurd hj (Nat.not_lt_zero _)⟩
 refine w_loop (ι := { z : Nat // (z ≤ l.Beams.length) ∧ (∀ j, j < z → 1 ≤ wayF l j) }) (fun z => [(1, (Value.pointer (some ⟨b2, 0, none⟩))), (6, (Value.int .i64 ((l.Beams.length : Nat) : Int))), (7, (Value.int .i64 ((z.1 : Nat) : Int)))]) (fun z => [(blk b2 28 (LineV.cells (LineV.mk (TrackV.mk (Slc.mk kA l.Track.length kC)) l.Fast (Slc.mk cA l.Clocks.length cC) (Slc.mk bA l.Beams.length bC) l.Finish l.Fakes l.Misses))), (rd kA l.Track.length 9 (l.Track.map StretchV.cells)).ro, (rd cA l.Clocks.length 2 (List.zipWith ClockM.cells l.Clocks az)).ro, (bun (nest ClockM.rds l.Clocks az)).ro, (rd bA l.Beams.length 4 (l.Beams.map BeamV.cells)).ro]) (fun z => l.Beams.length - z.1) ⟨0, hinit⟩ (Sub.cons rfl <| Sub.cons rfl <| Sub.cons rfl <| Sub.nil _) (fun w hs => St.sel [0, 1, 2, 3, 4] rfl rfl hs) ?_
 clear hinit
 rintro ⟨i, ⟨hl0_0, hl0_1⟩⟩ J5 hJ5
 try dsimp only
 refine WS fun _ hK6 => ?_
 refine rS (BI rfl b_lss) ?_
 refine RK hK6 ?_
 refine w_seq fun _ hK7 => ?_
 refine w_if rfl (fun h8 => ?_) (fun h8 => ?_)
 rotate_left 1
 · replace h8 := DF h8
   refine w_exit ?_
   refine k_exit_then ?_
   refine k_exit_then ?_
   refine k_exit_same ?_
   refine KK hK3 ?_
   refine WS fun _ hK14 => ?_
   refine rS (AG rfl) ?_
   refine RK hK14 ?_
   refine w_ret ?_
   refine Q1 hQ rfl rfl rfl ?_
   first | exact congrArg Value.bool (decide_eq_false (fun h => by have := h i (by omega); simp only [Int.toNat_natCast] at h13; omega)).symm | exact congrArg Value.bool (decide_eq_true (fun j hj => hl0_1 j (by omega))).symm
 replace h8 := DT h8
 refine WK hK7 ?_
 refine w_seq fun _ hK9 => ?_
 refine w_block ?_
 refine WS fun _ hK10 => ?_
 refine rS (MV rfl) ?_
 refine rS (AG rfl) ?_
 refine RK hK10 ?_
 refine WS fun _ hK11 => ?_
 refine rS (LW 0 rfl tk28 rfl rfl) ?_
 refine rS (MV rfl) ?_
 refine rS (CL (way_c l kA kC az cA cC bA bC ((i : Nat) : Int) hin htr hbk (by first | assumption | omega | (simp; done) | (simp; omega))) (ha_at 1 rfl rfl <| ha_at 2 rfl rfl <| ha_at 3 rfl rfl <| ha_at 4 rfl rfl <| ha_nil) rfl) ?_
 refine rS (BI rfl b_lss) ?_
 refine RK hK11 ?_
 refine w_if rfl (fun h13 => ?_) (fun h13 => ?_)
 · replace h13 := DT h13
   refine WS fun _ hK12 => ?_
   refine rS (AG rfl) ?_
   refine RK hK12 ?_
   refine w_ret ?_
   refine Q1 hQ rfl rfl rfl ?_
   first | exact congrArg Value.bool (decide_eq_false (fun h => by have := h i (by omega); simp only [Int.toNat_natCast] at h13; omega)).symm | exact congrArg Value.bool (decide_eq_true (fun j hj => hl0_1 j (by omega))).symm
 replace h13 := DF h13
 refine w_skip ?_
 refine k_block ?_
 refine KK hK9 ?_
 refine w_region ?_
 refine rS (BI rfl (b_add ⟨by omega, by omega⟩)) ?_
 refine rS (MV rfl) ?_
 refine r_nil ?_
 have hb13 : (Value.int .i64 (((i + 1) : Nat) : Int)) = (Value.int .i64 (((i : Nat) : Int) + 1)) := by exact congrArg (Value.int .i64) (by omega)
 refine k_then (hJ5 ⟨(i + 1), ⟨by omega, fun j hj => by rcases Nat.lt_or_ge j i with q | q; exact hl0_1 j q; (obtain rfl : j = i := by omega); simp only [Int.toNat_natCast] at h13; omega⟩⟩ _ _ _ rfl (by first | omega | (simp; omega)) (Sub.cons rfl <| Sub.cons rfl <| sub_val rfl hb13 <| Sub.nil _) (fun w hs => St.sel [0, 1, 2, 3, 4] rfl rfl hs))
end
section
open Go.RowKit
set_option linter.unusedVariables false
set_option maxRecDepth 100000 in
set_option maxHeartbeats 400000 in
theorem asks_c  :
    FnV Try.prog 55 [] [] (Value.agg ((T103V.cells (T103V.mk (Value.func (.func 81) [].toArray [].toArray))) ++ (T103V.cells (T103V.mk (Value.func (.func 82) [].toArray [].toArray))) ++ (T103V.cells (T103V.mk (Value.func (.func 86) [].toArray [].toArray))) ++ (T103V.cells (T103V.mk (Value.func (.func 89) [].toArray [].toArray)))).toArray) := by
 refine fnV_of go55 Try.func55 rfl rfl fun w0 Q hQ hN => ?_
 try dsimp only
 refine WS fun _ hK1 => ?_
 refine AL rfl tz104 fun b2 => ?_
 refine RK hK1 ?_
 refine WS fun _ hK3 => ?_
 refine rS (SX (sd_build (xs := [(0, .func 81)]) (cs := (T103V.cells (T103V.mk (Value.func (.func 81) [].toArray [].toArray)))) rfl rfl (built_of tb103 rfl)) rfl rfl) ?_
 refine rS (SX (sd_build (xs := [(0, .func 82)]) (cs := (T103V.cells (T103V.mk (Value.func (.func 82) [].toArray [].toArray)))) rfl rfl (built_of tb103 rfl)) rfl rfl) ?_
 refine rS (SX (sd_build (xs := [(0, .func 86)]) (cs := (T103V.cells (T103V.mk (Value.func (.func 86) [].toArray [].toArray)))) rfl rfl (built_of tb103 rfl)) rfl rfl) ?_
 refine rS (SX (sd_build (xs := [(0, .func 89)]) (cs := (T103V.cells (T103V.mk (Value.func (.func 89) [].toArray [].toArray)))) rfl rfl (built_of tb103 rfl)) rfl rfl) ?_
 refine rS (SX (sd_build (xs := [(0, .tmp 1), (1, .tmp 2), (2, .tmp 3), (3, .tmp 4)]) (cs := ((T103V.cells (T103V.mk (Value.func (.func 81) [].toArray [].toArray))) ++ (T103V.cells (T103V.mk (Value.func (.func 82) [].toArray [].toArray))) ++ (T103V.cells (T103V.mk (Value.func (.func 86) [].toArray [].toArray))) ++ (T103V.cells (T103V.mk (Value.func (.func 89) [].toArray [].toArray))))) rfl rfl (built_of tb104 rfl)) rfl rfl) ?_
 refine SW0 rfl ts104 rfl ?_
 refine RK hK3 ?_
 refine w_ret ?_
 refine hQ _ _ _ (l_nil (vs := [(Value.agg ((T103V.cells (T103V.mk (Value.func (.func 81) [].toArray [].toArray))) ++ (T103V.cells (T103V.mk (Value.func (.func 82) [].toArray [].toArray))) ++ (T103V.cells (T103V.mk (Value.func (.func 86) [].toArray [].toArray))) ++ (T103V.cells (T103V.mk (Value.func (.func 89) [].toArray [].toArray)))).toArray)]) ⟨⟨_, rfl, .inl ⟨_, _, tk104, at_blk (vs := ((T103V.cells (T103V.mk (Value.func (.func 81) [].toArray [].toArray))) ++ (T103V.cells (T103V.mk (Value.func (.func 82) [].toArray [].toArray))) ++ (T103V.cells (T103V.mk (Value.func (.func 86) [].toArray [].toArray))) ++ (T103V.cells (T103V.mk (Value.func (.func 89) [].toArray [].toArray))))) 0 rfl rfl, rfl, rfl⟩⟩, trivial⟩ fun w hs => endV ?_ hs)
 show (Value.agg ((T103V.cells (T103V.mk (Value.func (.func 81) [].toArray [].toArray))) ++ (T103V.cells (T103V.mk (Value.func (.func 82) [].toArray [].toArray))) ++ (T103V.cells (T103V.mk (Value.func (.func 86) [].toArray [].toArray))) ++ (T103V.cells (T103V.mk (Value.func (.func 89) [].toArray [].toArray)))).toArray) = (Value.agg ((T103V.cells (T103V.mk (Value.func (.func 81) [].toArray [].toArray))) ++ (T103V.cells (T103V.mk (Value.func (.func 82) [].toArray [].toArray))) ++ (T103V.cells (T103V.mk (Value.func (.func 86) [].toArray [].toArray))) ++ (T103V.cells (T103V.mk (Value.func (.func 89) [].toArray [].toArray)))).toArray)
 clear hs w hQ hN hK3 hK1
 rfl
set_option maxRecDepth 100000 in
set_option maxHeartbeats 400000 in
theorem lcheck_c (l : LineM) (kA : Option Addr) (kC : Nat) (az : List RA) (cA : Option Addr) (cC : Nat) (bA : Option Addr) (bC : Nat) (hin : LineIn l az) :
    FnV Try.prog 19 [(Value.agg (LineV.cells (LineV.mk (TrackV.mk (Slc.mk kA l.Track.length kC)) l.Fast (Slc.mk cA l.Clocks.length cC) (Slc.mk bA l.Beams.length bC) l.Finish l.Fakes l.Misses)).toArray)] [(rd kA l.Track.length 9 (l.Track.map StretchV.cells)), (rd cA l.Clocks.length 2 (List.zipWith ClockM.cells l.Clocks az)), (bun (nest ClockM.rds l.Clocks az)), (rd bA l.Beams.length 4 (l.Beams.map BeamV.cells))] (Value.int .i64 (lineE l)) := by
 have htk := hin.trk
 have hck := hin.cks
 have has := hin.as_
 have hbm := hin.bms
 have hsd := hin.side
 refine fnV_of go19 Try.func19 rfl rfl fun w0 Q hQ hN => ?_
 try dsimp only
 refine WS fun _ hK1 => ?_
 refine BXA rfl fun b2 => ?_
 refine rS (AG rfl) ?_
 refine RK hK1 ?_
 refine w_seq fun _ hK3 => ?_
 refine WS fun _ hK4 => ?_
 refine rS (FA 0 rfl fo28_0 rfl) ?_
 refine rS (LP (TrackV.cells (TrackV.mk (Slc.mk kA l.Track.length kC))) 0 rfl tk24 rfl rfl rfl) ?_
 refine rS (CL (tcheck_c l.Track kA kC (by first | assumption | omega | (simp; done) | (simp; omega)) (by first | assumption | omega | (simp; done) | (simp; omega))) (ha_at 1 rfl rfl <| ha_nil) rfl) ?_
 refine rS (AG rfl) ?_
 refine RK hK4 ?_
 refine WS fun _ hK5 => ?_
 refine rS (MV rfl) ?_
 refine rS (BI rfl b_neq) ?_
 refine RK hK5 ?_
 refine w_if rfl (fun h10 => ?_) (fun h10 => ?_)
 · replace h10 := XT h10
   refine WS fun _ hK6 => ?_
   refine rS (MV rfl) ?_
   refine rS (AG rfl) ?_
   refine RK hK6 ?_
   refine w_ret ?_
   refine Q1 hQ rfl rfl rfl ?_
   first | (refine congrArg (Value.int .i64) ?_; rw [(tr_no h10).2, lineE_bad (tr_no h10).1]) | exact congrArg (Value.int .i64) (lineE_no htr fun h => absurd h.head (by assumption)).symm | exact congrArg (Value.int .i64) (lineE_no htr fun h => absurd h.clock (by assumption)).symm | exact congrArg (Value.int .i64) (lineE_no htr fun h => absurd h.beam (by assumption)).symm | exact congrArg (Value.int .i64) (lineE_no htr fun h => absurd h.way (by assumption)).symm | exact congrArg (Value.int .i64) (lineE_ok htr (line_head (by assumption) (by assumption) (by assumption) (by assumption))).symm
 replace h10 := XF h10
 refine WK hK3 ?_
 refine w_seq fun _ hK7 => ?_
 refine WS fun _ hK8 => ?_
 have htr := tr_yes h10
 refine rS (CL asks_c (ha_nil) rfl) ?_
 refine rS (MV rfl) ?_
 refine RK hK8 ?_
 refine w_block ?_
 refine w_rounds 5 ?_
 refine ro_succ fun R9 hR9 => ?_
 refine WS fun _ hK10 => ?_
 refine rS (SX (sd_bin (r := .bool true) rfl rfl rfl b_lss) rfl rfl) ?_
 refine RK hK10 ?_
 refine w_seq fun _ hK11 => ?_
 refine w_if_true rfl ?_
 refine WK hK11 ?_
 refine w_seq fun _ hK12 => ?_
 refine w_block ?_
 refine WS fun _ hK13 => ?_
 refine rS (SX (sd_index (vs := (T103V.cells (T103V.mk (Value.func (.func 81) [].toArray [].toArray)))) 0 rfl rfl rfl tx104 tk103 rfl (by decide) rfl) rfl rfl) ?_
 refine AL rfl tz103 fun b14 => ?_
 refine SW0 rfl ts103 rfl ?_
 refine RK hK13 ?_
 refine WS fun _ hK15 => ?_
 refine rS (FA 0 rfl fo103_0 rfl) ?_
 refine rS (L1 (Value.func (.func 81) [].toArray [].toArray) 0 rfl tk31 rfl rfl) ?_
 refine rS (LW 1 rfl tk28 rfl rfl) ?_
 refine rS (CL (ask1_c l kA kC az cA cC bA bC hin) (ha_at 2 rfl rfl <| ha_at 3 rfl rfl <| ha_at 4 rfl rfl <| ha_at 5 rfl rfl <| ha_nil) rfl) ?_
 refine rS (NT rfl) ?_
 refine RK hK15 ?_
 refine w_if rfl (fun h16 => ?_) (fun h16 => ?_)
 · replace h16 := XT h16
   refine WS fun _ hK17 => ?_
   refine rS (AG rfl) ?_
   refine RK hK17 ?_
   refine w_ret ?_
   refine Q1 hQ rfl rfl rfl ?_
   first | (refine congrArg (Value.int .i64) ?_; rw [(tr_no h10).2, lineE_bad (tr_no h10).1]) | exact congrArg (Value.int .i64) (lineE_no htr fun h => absurd h.head (by assumption)).symm | exact congrArg (Value.int .i64) (lineE_no htr fun h => absurd h.clock (by assumption)).symm | exact congrArg (Value.int .i64) (lineE_no htr fun h => absurd h.beam (by assumption)).symm | exact congrArg (Value.int .i64) (lineE_no htr fun h => absurd h.way (by assumption)).symm | exact congrArg (Value.int .i64) (lineE_ok htr (line_head (by assumption) (by assumption) (by assumption) (by assumption))).symm
 replace h16 := XF h16
 refine w_skip ?_
 refine k_block ?_
 refine KK hK12 ?_
 refine w_region ?_
 refine rS (SX (sd_bin (r := .int .i64 1) rfl rfl rfl (b_add ⟨by decide, by decide⟩)) rfl rfl) ?_
 refine rS (MV rfl) ?_
 refine RK hR9 ?_
 refine ro_succ fun R18 hR18 => ?_
 refine WS fun _ hK19 => ?_
 refine rS (SX (sd_bin (r := .bool true) rfl rfl rfl b_lss) rfl rfl) ?_
 refine RK hK19 ?_
 refine w_seq fun _ hK20 => ?_
 refine w_if_true rfl ?_
 refine WK hK20 ?_
 refine w_seq fun _ hK21 => ?_
 refine w_block ?_
 refine WS fun _ hK22 => ?_
 refine rS (SX (sd_index (vs := (T103V.cells (T103V.mk (Value.func (.func 82) [].toArray [].toArray)))) 1 rfl rfl rfl tx104 tk103 rfl (by decide) rfl) rfl rfl) ?_
 refine AL rfl tz103 fun b23 => ?_
 refine SW0 rfl ts103 rfl ?_
 refine RK hK22 ?_
 refine WS fun _ hK24 => ?_
 refine rS (FA 0 rfl fo103_0 rfl) ?_
 refine rS (L1 (Value.func (.func 82) [].toArray [].toArray) 0 rfl tk31 rfl rfl) ?_
 refine rS (LW 2 rfl tk28 rfl rfl) ?_
 refine rS (CL (ask2_c l kA kC az cA cC bA bC hin) (ha_at 3 rfl rfl <| ha_at 4 rfl rfl <| ha_at 5 rfl rfl <| ha_at 6 rfl rfl <| ha_nil) rfl) ?_
 refine rS (NT rfl) ?_
 refine RK hK24 ?_
 refine w_if rfl (fun h25 => ?_) (fun h25 => ?_)
 · replace h25 := XT h25
   refine WS fun _ hK26 => ?_
   refine rS (AG rfl) ?_
   refine RK hK26 ?_
   refine w_ret ?_
   refine Q1 hQ rfl rfl rfl ?_
   first | (refine congrArg (Value.int .i64) ?_; rw [(tr_no h10).2, lineE_bad (tr_no h10).1]) | exact congrArg (Value.int .i64) (lineE_no htr fun h => absurd h.head (by assumption)).symm | exact congrArg (Value.int .i64) (lineE_no htr fun h => absurd h.clock (by assumption)).symm | exact congrArg (Value.int .i64) (lineE_no htr fun h => absurd h.beam (by assumption)).symm | exact congrArg (Value.int .i64) (lineE_no htr fun h => absurd h.way (by assumption)).symm | exact congrArg (Value.int .i64) (lineE_ok htr (line_head (by assumption) (by assumption) (by assumption) (by assumption))).symm
 replace h25 := XF h25
 refine w_skip ?_
 refine k_block ?_
 refine KK hK21 ?_
 refine w_region ?_
 refine rS (SX (sd_bin (r := .int .i64 2) rfl rfl rfl (b_add ⟨by decide, by decide⟩)) rfl rfl) ?_
 refine rS (MV rfl) ?_
 refine RK hR18 ?_
 refine ro_succ fun R27 hR27 => ?_
 refine WS fun _ hK28 => ?_
 refine rS (SX (sd_bin (r := .bool true) rfl rfl rfl b_lss) rfl rfl) ?_
 refine RK hK28 ?_
 refine w_seq fun _ hK29 => ?_
 refine w_if_true rfl ?_
 refine WK hK29 ?_
 refine w_seq fun _ hK30 => ?_
 refine w_block ?_
 refine WS fun _ hK31 => ?_
 refine rS (SX (sd_index (vs := (T103V.cells (T103V.mk (Value.func (.func 86) [].toArray [].toArray)))) 2 rfl rfl rfl tx104 tk103 rfl (by decide) rfl) rfl rfl) ?_
 refine AL rfl tz103 fun b32 => ?_
 refine SW0 rfl ts103 rfl ?_
 refine RK hK31 ?_
 refine WS fun _ hK33 => ?_
 refine rS (FA 0 rfl fo103_0 rfl) ?_
 refine rS (L1 (Value.func (.func 86) [].toArray [].toArray) 0 rfl tk31 rfl rfl) ?_
 refine rS (LW 3 rfl tk28 rfl rfl) ?_
 refine rS (CL (ask3_c l kA kC az cA cC bA bC hin (by first | assumption | omega | (simp; done) | (simp; omega))) (ha_at 4 rfl rfl <| ha_at 5 rfl rfl <| ha_at 6 rfl rfl <| ha_at 7 rfl rfl <| ha_nil) rfl) ?_
 refine rS (NT rfl) ?_
 refine RK hK33 ?_
 refine w_if rfl (fun h34 => ?_) (fun h34 => ?_)
 · replace h34 := XT h34
   refine WS fun _ hK35 => ?_
   refine rS (AG rfl) ?_
   refine RK hK35 ?_
   refine w_ret ?_
   refine Q1 hQ rfl rfl rfl ?_
   first | (refine congrArg (Value.int .i64) ?_; rw [(tr_no h10).2, lineE_bad (tr_no h10).1]) | exact congrArg (Value.int .i64) (lineE_no htr fun h => absurd h.head (by assumption)).symm | exact congrArg (Value.int .i64) (lineE_no htr fun h => absurd h.clock (by assumption)).symm | exact congrArg (Value.int .i64) (lineE_no htr fun h => absurd h.beam (by assumption)).symm | exact congrArg (Value.int .i64) (lineE_no htr fun h => absurd h.way (by assumption)).symm | exact congrArg (Value.int .i64) (lineE_ok htr (line_head (by assumption) (by assumption) (by assumption) (by assumption))).symm
 replace h34 := XF h34
 refine w_skip ?_
 refine k_block ?_
 refine KK hK30 ?_
 refine w_region ?_
 refine rS (SX (sd_bin (r := .int .i64 3) rfl rfl rfl (b_add ⟨by decide, by decide⟩)) rfl rfl) ?_
 refine rS (MV rfl) ?_
 refine RK hR27 ?_
 refine ro_succ fun R36 hR36 => ?_
 refine WS fun _ hK37 => ?_
 refine rS (SX (sd_bin (r := .bool true) rfl rfl rfl b_lss) rfl rfl) ?_
 refine RK hK37 ?_
 refine w_seq fun _ hK38 => ?_
 refine w_if_true rfl ?_
 refine WK hK38 ?_
 refine w_seq fun _ hK39 => ?_
 refine w_block ?_
 refine WS fun _ hK40 => ?_
 refine rS (SX (sd_index (vs := (T103V.cells (T103V.mk (Value.func (.func 89) [].toArray [].toArray)))) 3 rfl rfl rfl tx104 tk103 rfl (by decide) rfl) rfl rfl) ?_
 refine AL rfl tz103 fun b41 => ?_
 refine SW0 rfl ts103 rfl ?_
 refine RK hK40 ?_
 refine WS fun _ hK42 => ?_
 refine rS (FA 0 rfl fo103_0 rfl) ?_
 refine rS (L1 (Value.func (.func 89) [].toArray [].toArray) 0 rfl tk31 rfl rfl) ?_
 refine rS (LW 4 rfl tk28 rfl rfl) ?_
 refine rS (CL (ask4_c l kA kC az cA cC bA bC hin (by first | assumption | omega | (simp; done) | (simp; omega)) (by first | assumption | omega | (simp; done) | (simp; omega))) (ha_at 5 rfl rfl <| ha_at 6 rfl rfl <| ha_at 7 rfl rfl <| ha_at 8 rfl rfl <| ha_nil) rfl) ?_
 refine rS (NT rfl) ?_
 refine RK hK42 ?_
 refine w_if rfl (fun h43 => ?_) (fun h43 => ?_)
 · replace h43 := XT h43
   refine WS fun _ hK44 => ?_
   refine rS (AG rfl) ?_
   refine RK hK44 ?_
   refine w_ret ?_
   refine Q1 hQ rfl rfl rfl ?_
   first | (refine congrArg (Value.int .i64) ?_; rw [(tr_no h10).2, lineE_bad (tr_no h10).1]) | exact congrArg (Value.int .i64) (lineE_no htr fun h => absurd h.head (by assumption)).symm | exact congrArg (Value.int .i64) (lineE_no htr fun h => absurd h.clock (by assumption)).symm | exact congrArg (Value.int .i64) (lineE_no htr fun h => absurd h.beam (by assumption)).symm | exact congrArg (Value.int .i64) (lineE_no htr fun h => absurd h.way (by assumption)).symm | exact congrArg (Value.int .i64) (lineE_ok htr (line_head (by assumption) (by assumption) (by assumption) (by assumption))).symm
 replace h43 := XF h43
 refine w_skip ?_
 refine k_block ?_
 refine KK hK39 ?_
 refine w_region ?_
 refine rS (SX (sd_bin (r := .int .i64 4) rfl rfl rfl (b_add ⟨by decide, by decide⟩)) rfl rfl) ?_
 refine rS (MV rfl) ?_
 refine RK hR36 ?_
 refine ro_succ fun R45 hR45 => ?_
 refine WS fun _ hK46 => ?_
 refine rS (SX (sd_bin (r := .bool false) rfl rfl rfl b_lss) rfl rfl) ?_
 refine RK hK46 ?_
 refine w_seq fun _ hK47 => ?_
 refine w_if_false rfl ?_
 refine w_exit ?_
 refine k_exit_then ?_
 refine k_exit_then ?_
 refine k_exit_same ?_
 refine KK hK7 ?_
 refine WS fun _ hK48 => ?_
 refine rS (AG rfl) ?_
 refine RK hK48 ?_
 refine w_ret ?_
 refine Q1 hQ rfl rfl rfl ?_
 first | (refine congrArg (Value.int .i64) ?_; rw [(tr_no h10).2, lineE_bad (tr_no h10).1]) | exact congrArg (Value.int .i64) (lineE_no htr fun h => absurd h.head (by assumption)).symm | exact congrArg (Value.int .i64) (lineE_no htr fun h => absurd h.clock (by assumption)).symm | exact congrArg (Value.int .i64) (lineE_no htr fun h => absurd h.beam (by assumption)).symm | exact congrArg (Value.int .i64) (lineE_no htr fun h => absurd h.way (by assumption)).symm | exact congrArg (Value.int .i64) (lineE_ok htr (line_head (by assumption) (by assumption) (by assumption) (by assumption))).symm
set_option maxRecDepth 100000 in
set_option maxHeartbeats 400000 in
theorem Ahead_c (l : LineM) (kA : Option Addr) (kC : Nat) (az : List RA) (cA : Option Addr) (cC : Nat) (bA : Option Addr) (bC : Nat) (ck : Int) (at_ : Int) (hin : LineIn l az) :
    FnV Try.prog 13 [(Value.agg (LineV.cells (LineV.mk (TrackV.mk (Slc.mk kA l.Track.length kC)) l.Fast (Slc.mk cA l.Clocks.length cC) (Slc.mk bA l.Beams.length bC) l.Finish l.Fakes l.Misses)).toArray), (Value.int .i64 ck), (Value.int .i64 at_)] [(rd kA l.Track.length 9 (l.Track.map StretchV.cells)), (rd cA l.Clocks.length 2 (List.zipWith ClockM.cells l.Clocks az)), (bun (nest ClockM.rds l.Clocks az)), (rd bA l.Beams.length 4 (l.Beams.map BeamV.cells))] (Value.tuple [(Value.agg (SpanV.cells (aheadV l ck at_)).toArray), (Value.int .i64 (aheadE l ck at_))].toArray) := by
 have htk := hin.trk
 have hck := hin.cks
 have has := hin.as_
 have hbm := hin.bms
 refine fnV_of go13 Try.func13 rfl rfl fun w0 Q hQ hN => ?_
 try dsimp only
 refine WS fun _ hK1 => ?_
 refine BXA rfl fun b2 => ?_
 refine AL rfl tz34 fun b3 => ?_
 refine rS (AG rfl) ?_
 refine RK hK1 ?_
 refine w_seq fun _ hK4 => ?_
 refine WS fun _ hK5 => ?_
 refine rS (LW 1 rfl tk28 rfl rfl) ?_
 refine rS (CL (lcheck_c l kA kC az cA cC bA bC hin) (ha_at 2 rfl rfl <| ha_at 3 rfl rfl <| ha_at 4 rfl rfl <| ha_at 5 rfl rfl <| ha_nil) rfl) ?_
 refine rS (AG rfl) ?_
 refine RK hK5 ?_
 refine WS fun _ hK6 => ?_
 refine rS (MV rfl) ?_
 refine rS (BI rfl b_neq) ?_
 refine RK hK6 ?_
 refine w_if rfl (fun h12 => ?_) (fun h12 => ?_)
 · replace h12 := XT h12
   refine WS fun _ hK7 => ?_
   refine rS (SX (sd_build (xs := []) (cs := (SpanV.cells (SpanV.mk 0 0))) rfl rfl (built_of tb34 rfl)) rfl rfl) ?_
   refine rS (MV rfl) ?_
   refine SW0 rfl ts34 rfl ?_
   refine rS (AG rfl) ?_
   refine RK hK7 ?_
   refine w_ret ?_
   refine hQ _ _ _ (l_nil (vs := [(Value.agg (SpanV.cells (SpanV.mk 0 0)).toArray), (Value.int .i64 (lineE l))]) ⟨⟨_, rfl, .inl ⟨_, _, tk34, at_blk (vs := (SpanV.cells (SpanV.mk 0 0))) 0 rfl rfl, rfl, rfl⟩⟩, rfl, trivial⟩ fun w hs => endV ?_ hs)
   show (Value.tuple [(Value.agg (SpanV.cells (SpanV.mk 0 0)).toArray), (Value.int .i64 (lineE l))].toArray) = (Value.tuple [(Value.agg (SpanV.cells (aheadV l ck at_)).toArray), (Value.int .i64 (aheadE l ck at_))].toArray)
   clear hs w hQ hN hK7 hK6 hK5 hK4 hK1
   first | (have e := ahead_bad (ck := ck) (at_ := at_) h12; rw [e.1, e.2] <;> rfl) | (have e := ahead_in (ck := ck) (at_ := at_) h12 (by omega) hx; rw [e.1, e.2] <;> rfl) | (have e := ahead_out (ck := ck) (at_ := at_) h12 (by omega); rw [e.1, e.2] <;> rfl)
 replace h12 := XF h12
 refine WK hK4 ?_
 refine w_seq fun _ hK8 => ?_
 refine WS fun _ hK9 => ?_
 obtain ⟨htr, hok⟩ := lineE_zero h12
 refine rS (FA 2 rfl fo28_2 rfl) ?_
 refine rS (L1 (Value.slice cA l.Clocks.length cC) 1 rfl tk25 rfl rfl) ?_
 refine rS (LN rfl ut25) ?_
 refine rS (BI rfl (b_sub ⟨by omega, by omega⟩)) ?_
 refine rS (MV rfl) ?_
 refine r_bs (xs := [.tmp 19]) (cs := [(Value.int .i64 ck)]) rfl te57 tz3 rfl rfl rfl rfl (by simp [Value.cells]) rfl rfl fun b10 => ?_
 refine rS (CL (FnV.eq (in_beam 0 (((l.Clocks.length : Nat) : Int) - 1) ([ck]) (some ⟨b10, 0, none⟩) 1 (by first | assumption | omega | (simp; done) | (simp; omega))) inAll_one) (ha_cons (has_rd_blk 0 rfl rfl (by simp [iC_length]) rfl) <| ha_nil) rfl) ?_
 refine rS (NT rfl) ?_
 refine rS (MV rfl) ?_
 refine r_bool (t := 23) rfl (fun h23 => ?_) (fun h23 => ?_)
 · replace h23 := XT h23
   refine rS (OX rfl) ?_
   refine rS (OX rfl) ?_
   refine rS (OX rfl) ?_
   refine rS (OX rfl) ?_
   refine rS (PK rfl) ?_
   refine RK hK9 ?_
   refine w_if_true rfl ?_
   refine WS fun _ hK11 => ?_
   refine rS (SX (sd_build (xs := []) (cs := (SpanV.cells (SpanV.mk 0 0))) rfl rfl (built_of tb34 rfl)) rfl rfl) ?_
   refine SW1 rfl ts34 rfl ?_
   refine rS (AG rfl) ?_
   refine RK hK11 ?_
   refine w_ret ?_
   refine hQ _ _ _ (l_nil (vs := [(Value.agg (SpanV.cells (SpanV.mk 0 0)).toArray), (Value.int .i64 2)]) ⟨⟨_, rfl, .inl ⟨_, _, tk34, at_blk (vs := (SpanV.cells (SpanV.mk 0 0))) 1 rfl rfl, rfl, rfl⟩⟩, rfl, trivial⟩ fun w hs => endV ?_ hs)
   show (Value.tuple [(Value.agg (SpanV.cells (SpanV.mk 0 0)).toArray), (Value.int .i64 2)].toArray) = (Value.tuple [(Value.agg (SpanV.cells (aheadV l ck at_)).toArray), (Value.int .i64 (aheadE l ck at_))].toArray)
   clear hs w hQ hN hK11 hK9 hK8 hK6 hK5 hK4 hK1
   first | (have e := ahead_bad (ck := ck) (at_ := at_) h12; rw [e.1, e.2] <;> rfl) | (have e := ahead_in (ck := ck) (at_ := at_) h12 (by omega) hx; rw [e.1, e.2] <;> rfl) | (have e := ahead_out (ck := ck) (at_ := at_) h12 (by omega); rw [e.1, e.2] <;> rfl)
 replace h23 := XF h23
 refine rS (MV rfl) ?_
 refine r_bs (xs := [.tmp 24]) (cs := [(Value.int .i64 at_)]) rfl te57 tz3 rfl rfl rfl rfl (by simp [Value.cells]) rfl rfl fun b12 => ?_
 refine rS (CL (FnV.eq (in_beam 0 86400000 ([at_]) (some ⟨b12, 0, none⟩) 1 (by first | assumption | omega | (simp; done) | (simp; omega))) inAll_one) (ha_cons (has_rd_blk 0 rfl rfl (by simp [iC_length]) rfl) <| ha_nil) rfl) ?_
 refine rS (NT rfl) ?_
 refine rS (PK rfl) ?_
 refine RK hK9 ?_
 refine w_if rfl (fun h28 => ?_) (fun h28 => ?_)
 · replace h28 := XT h28
   refine WS fun _ hK13 => ?_
   refine rS (SX (sd_build (xs := []) (cs := (SpanV.cells (SpanV.mk 0 0))) rfl rfl (built_of tb34 rfl)) rfl rfl) ?_
   refine SW2 rfl ts34 rfl ?_
   refine rS (AG rfl) ?_
   refine RK hK13 ?_
   refine w_ret ?_
   refine hQ _ _ _ (l_nil (vs := [(Value.agg (SpanV.cells (SpanV.mk 0 0)).toArray), (Value.int .i64 2)]) ⟨⟨_, rfl, .inl ⟨_, _, tk34, at_blk (vs := (SpanV.cells (SpanV.mk 0 0))) 2 rfl rfl, rfl, rfl⟩⟩, rfl, trivial⟩ fun w hs => endV ?_ hs)
   show (Value.tuple [(Value.agg (SpanV.cells (SpanV.mk 0 0)).toArray), (Value.int .i64 2)].toArray) = (Value.tuple [(Value.agg (SpanV.cells (aheadV l ck at_)).toArray), (Value.int .i64 (aheadE l ck at_))].toArray)
   clear hs w hQ hN hK13 hK9 hK8 hK6 hK5 hK4 hK1
   first | (have e := ahead_bad (ck := ck) (at_ := at_) h12; rw [e.1, e.2] <;> rfl) | (have e := ahead_in (ck := ck) (at_ := at_) h12 (by omega) hx; rw [e.1, e.2] <;> rfl) | (have e := ahead_out (ck := ck) (at_ := at_) h12 (by omega); rw [e.1, e.2] <;> rfl)
 replace h28 := XF h28
 refine WK hK8 ?_
 refine WS fun _ hK14 => ?_
 refine rS (FA 2 rfl fo28_2 rfl) ?_
 refine rS (L1 (Value.slice cA l.Clocks.length cC) 3 rfl tk25 rfl rfl) ?_
 refine rS (MV rfl) ?_
 obtain ⟨x, hx⟩ : ∃ y_, l.Clocks[(ck).toNat]? = some y_ := ⟨l.Clocks[(ck).toNat]'(by omega), List.getElem?_eq_getElem _⟩
 obtain ⟨xa, hxa⟩ : ∃ y_, az[(ck).toNat]? = some y_ := ⟨az[(ck).toNat]'(by omega), List.getElem?_eq_getElem _⟩
 have hxm : (List.zipWith ClockM.cells l.Clocks az)[(ck).toNat]? = some (ClockM.cells x xa) := zip_get hx hxa
 refine rS (IA ((ck).toNat) rfl (has_at 5 rfl) te25 (by decide) (by omega) (by omega)) ?_
 refine rS (LEN ((ck).toNat) 0 (ClockV.cells (ClockV.mk x.Drift (Slc.mk xa.1 x.Syncs.length xa.2))) rfl tk64 (has_at 5 rfl) hxm rfl (by decide) rfl rfl) ?_
 refine rS (MV rfl) ?_
 refine rS (CL (ahead_c x xa.1 xa.2 at_ (by exact hok.clock _ (List.mem_of_getElem? hx)) (by first | assumption | omega | (simp; done) | (simp; omega))) (ha_cons (show Has _ (rd xa.1 x.Syncs.length 3 (x.Syncs.map SyncV.cells)).holds from (has_inr 6 rfl (mem_nest hx hxa (by simp [ClockM.rds])))) <| ha_nil) rfl) ?_
 refine SW2 rfl ts34 rfl ?_
 refine rS (AG rfl) ?_
 refine RK hK14 ?_
 refine w_ret ?_
 refine hQ _ _ _ (l_nil (vs := [(Value.agg (SpanV.cells (aheadF x at_)).toArray), (Value.int .i64 0)]) ⟨⟨_, rfl, .inl ⟨_, _, tk34, at_blk (vs := (SpanV.cells (aheadF x at_))) 2 rfl rfl, rfl, rfl⟩⟩, rfl, trivial⟩ fun w hs => endV ?_ hs)
 show (Value.tuple [(Value.agg (SpanV.cells (aheadF x at_)).toArray), (Value.int .i64 0)].toArray) = (Value.tuple [(Value.agg (SpanV.cells (aheadV l ck at_)).toArray), (Value.int .i64 (aheadE l ck at_))].toArray)
 clear hs w hQ hN hK14 hK9 hK8 hK6 hK5 hK4 hK1
 first | (have e := ahead_bad (ck := ck) (at_ := at_) h12; rw [e.1, e.2] <;> rfl) | (have e := ahead_in (ck := ck) (at_ := at_) h12 (by omega) hx; rw [e.1, e.2] <;> rfl) | (have e := ahead_out (ck := ck) (at_ := at_) h12 (by omega); rw [e.1, e.2] <;> rfl)
set_option maxRecDepth 100000 in
set_option maxHeartbeats 400000 in
theorem bfirst_c (lo : Int) (hi : Int) (f : Value) (p : Int → Bool) (X : Assn) (r : Int) (hf : ∀ x0, 0 ≤ x0 ∧ x0 < hi → Clo Try.prog f [.int .i64 x0] [X] (.bool (p x0))) (hb : 0 ≤ lo ∧ lo ≤ r ∧ r ≤ hi ∧ hi ≤ 100000000) (hno : ∀ x, lo ≤ x → x < r → p x = false) (hyes : ∀ x, r ≤ x → x < hi → p x = true) :
    FnV Try.prog 75 [(Value.int .i64 lo), (Value.int .i64 hi), f] [X] (Value.int .i64 r) := by
 refine fnV_of go75 Try.func75 rfl rfl fun w0 Q hQ hN => ?_
 try dsimp only
 refine WS fun _ hK1 => ?_
 refine rS (AG rfl) ?_
 refine RK hK1 ?_
 refine w_seq fun _ hK2 => ?_
 refine w_block ?_
 have hinit : (lo ≤ lo ∧ lo ≤ r) ∧ (r ≤ hi ∧ hi ≤ hi) := by first | trivial | omega | (refine ⟨?_, ?_⟩ <;> first | trivial | omega | simp)
 refine w_loop (ι := { z : Int × Int // (lo ≤ z.1 ∧ z.1 ≤ r) ∧ (r ≤ z.2 ∧ z.2 ≤ hi) }) (fun z => [(0, (Value.int .i64 z.1.1)), (1, (Value.int .i64 z.1.2)), (2, f)]) (fun z => [X.ro]) (fun z => (z.1.2 - z.1.1).toNat) ⟨(lo, hi), hinit⟩ (Sub.cons rfl <| Sub.cons rfl <| Sub.cons rfl <| Sub.nil _) (fun w hs => St.sel [0] rfl rfl hs) ?_
 clear hinit
 rintro ⟨⟨a, b⟩, ⟨hl0_0, hl0_1⟩⟩ J3 hJ3
 try dsimp only at hl0_0 hl0_1
 try dsimp only
 refine w_seq fun _ hK4 => ?_
 refine WS fun _ hK5 => ?_
 refine rS (MV rfl) ?_
 refine rS (MV rfl) ?_
 refine rS (BI rfl b_lss) ?_
 refine RK hK5 ?_
 refine w_if rfl (fun h6 => ?_) (fun h6 => ?_)
 rotate_left 1
 · replace h6 := DF h6
   refine w_exit ?_
   refine k_exit_then ?_
   refine k_exit_then ?_
   refine k_exit_same ?_
   refine KK hK2 ?_
   refine WS fun _ hK9 => ?_
   refine rS (MV rfl) ?_
   refine rS (AG rfl) ?_
   refine RK hK9 ?_
   refine w_ret ?_
   refine Q1 hQ rfl rfl rfl ?_
   exact congrArg (Value.int .i64) (by omega)
 replace h6 := DT h6
 refine WK hK4 ?_
 refine w_block ?_
 refine WS fun _ hK7 => ?_
 refine rS (MV rfl) ?_
 refine rS (MV rfl) ?_
 refine rS (MV rfl) ?_
 refine rS (BI rfl (b_sub ⟨by omega, by omega⟩)) ?_
 refine rS (BI rfl (b_quo (by omega) (by omega) (by omega))) ?_
 refine rS (BI rfl (b_add ⟨by omega, by omega⟩)) ?_
 refine rS (AG rfl) ?_
 refine RK hK7 ?_
 refine WS fun _ hK8 => ?_
 refine rS (MV rfl) ?_
 refine rS (MV rfl) ?_
 refine rS (SX (sd_clo rfl rfl rfl (hf (a + ((b - a) / 2)) (by omega)) (ha_at 0 rfl rfl <| ha_nil)) rfl rfl) ?_
 refine RK hK8 ?_
 refine w_if rfl (fun hp => ?_) (fun hp => ?_)
 · refine w_region ?_
   refine rS (MV rfl) ?_
   refine rS (AG rfl) ?_
   refine r_nil ?_
   refine k_block ?_
   refine k_then (hJ3 ⟨(a, (a + ((b - a) / 2))), (by dsimp only; rcases Int.lt_or_le (a + (b - a) / 2) r with q | q; (have q2 := hno _ (by omega) q; first | (refine ⟨⟨by omega, by omega⟩, by omega, by omega⟩) | (rw [q2] at hp; cases hp)); (have q2 := hyes _ q (by omega); first | (refine ⟨⟨by omega, by omega⟩, by omega, by omega⟩) | (rw [q2] at hp; cases hp)))⟩ _ _ _ rfl (by simp only []; omega) (Sub.cons rfl <| Sub.cons rfl <| Sub.cons rfl <| Sub.nil _) (fun w hs => St.sel [0] rfl rfl hs))
 refine w_region ?_
 refine rS (MV rfl) ?_
 refine rS (BI rfl (b_add ⟨by omega, by omega⟩)) ?_
 refine rS (AG rfl) ?_
 refine r_nil ?_
 refine k_block ?_
 refine k_then (hJ3 ⟨(((a + ((b - a) / 2)) + 1), b), (by dsimp only; rcases Int.lt_or_le (a + (b - a) / 2) r with q | q; (have q2 := hno _ (by omega) q; first | (refine ⟨⟨by omega, by omega⟩, by omega, by omega⟩) | (rw [q2] at hp; cases hp)); (have q2 := hyes _ q (by omega); first | (refine ⟨⟨by omega, by omega⟩, by omega, by omega⟩) | (rw [q2] at hp; cases hp)))⟩ _ _ _ rfl (by simp only []; omega) (Sub.cons rfl <| Sub.cons rfl <| Sub.cons rfl <| Sub.nil _) (fun w hs => St.sel [0] rfl rfl hs))
set_option maxRecDepth 100000 in
set_option maxHeartbeats 400000 in
theorem whenlo_c (u : Int) (c : ClockM) (sA : Option Addr) (sC : Nat) (g1 : Nat) (s : SignalV) (g2 : Nat) (hc : ClockOk c) (hu : 0 ≤ u ∧ u ≤ 90000000) :
    FnV Try.prog 76 [(Value.int .i64 u), (Value.pointer (some ⟨g1, 0, none⟩)), (Value.pointer (some ⟨g2, 0, none⟩))] [(rd sA c.Syncs.length 3 (c.Syncs.map SyncV.cells)), (blk g1 64 (ClockV.cells (ClockV.mk c.Drift (Slc.mk sA c.Syncs.length sC)))), (blk g2 30 (SignalV.cells s))] (Value.bool (decide (s.Read ≤ u + (aheadF c u).Hi))) := by
 have hab := aheadF_b hc hu
 refine fnV_of go76 Try.func76 rfl rfl fun w0 Q hQ hN => ?_
 try dsimp only
 refine WS fun _ hK1 => ?_
 refine rS (AG rfl) ?_
 refine RK hK1 ?_
 refine w_seq fun _ hK2 => ?_
 refine w_draw mixed 10 (by kernel_rfl) ?_
 refine dS (MV rfl) ?_
 refine dS (LWR 1 rfl tk64 rfl rfl) ?_
 refine dS (MV rfl) ?_
 refine dS (CL (ahead_c c sA sC u hc hu) (ha_at 0 rfl rfl <| ha_nil) rfl) ?_
 refine dS (SX (sd_field1 (v := (Value.int .i64 ((aheadF c u).Hi))) rfl rfl fo34_1 tf34_1 rfl) rfl rfl) ?_
 refine dS (BI rfl (b_add ⟨by omega, by omega⟩)) ?_
 refine dS (FA 1 rfl fo30_1 rfl) ?_
 refine dS (L1R (Value.int .i64 s.Read) 2 rfl tk3 rfl rfl) ?_
 refine dS (BI rfl b_geq) ?_
 refine dS (AG rfl) ?_
 refine d_end ?_
 refine RK hK2 ?_
 refine w_ret ?_
 exact Q1 hQ rfl rfl rfl rfl
set_option maxRecDepth 100000 in
set_option maxHeartbeats 400000 in
theorem whenhi_c (u : Int) (c : ClockM) (sA : Option Addr) (sC : Nat) (g1 : Nat) (s : SignalV) (g2 : Nat) (hc : ClockOk c) (hu : 0 ≤ u ∧ u ≤ 90000000) :
    FnV Try.prog 77 [(Value.int .i64 u), (Value.pointer (some ⟨g1, 0, none⟩)), (Value.pointer (some ⟨g2, 0, none⟩))] [(rd sA c.Syncs.length 3 (c.Syncs.map SyncV.cells)), (blk g1 64 (ClockV.cells (ClockV.mk c.Drift (Slc.mk sA c.Syncs.length sC)))), (blk g2 30 (SignalV.cells s))] (Value.bool (decide (s.Read < u + (aheadF c u).Lo))) := by
 have hab := aheadF_b hc hu
 refine fnV_of go77 Try.func77 rfl rfl fun w0 Q hQ hN => ?_
 try dsimp only
 refine WS fun _ hK1 => ?_
 refine rS (AG rfl) ?_
 refine RK hK1 ?_
 refine w_seq fun _ hK2 => ?_
 refine w_draw mixed 10 (by kernel_rfl) ?_
 refine dS (MV rfl) ?_
 refine dS (LWR 1 rfl tk64 rfl rfl) ?_
 refine dS (MV rfl) ?_
 refine dS (CL (ahead_c c sA sC u hc hu) (ha_at 0 rfl rfl <| ha_nil) rfl) ?_
 refine dS (SX (sd_field1 (v := (Value.int .i64 ((aheadF c u).Lo))) rfl rfl fo34_0 tf34_0 rfl) rfl rfl) ?_
 refine dS (BI rfl (b_add ⟨by omega, by omega⟩)) ?_
 refine dS (FA 1 rfl fo30_1 rfl) ?_
 refine dS (L1R (Value.int .i64 s.Read) 2 rfl tk3 rfl rfl) ?_
 refine dS (BI rfl b_gtr) ?_
 refine dS (AG rfl) ?_
 refine d_end ?_
 refine RK hK2 ?_
 refine w_ret ?_
 exact Q1 hQ rfl rfl rfl rfl
set_option maxRecDepth 100000 in
set_option maxHeartbeats 400000 in
theorem when_c (l : LineM) (kA : Option Addr) (kC : Nat) (az : List RA) (cA : Option Addr) (cC : Nat) (bA : Option Addr) (bC : Nat) (s : SignalV) (hin : LineIn l az) (hok : LineOk l) (hs : (0 ≤ s.Beam ∧ s.Beam ≤ (l.Beams.length : Int) - 1) ∧ 0 ≤ s.Read ∧ s.Read ≤ 86400000) :
    FnV Try.prog 49 [(Value.agg (LineV.cells (LineV.mk (TrackV.mk (Slc.mk kA l.Track.length kC)) l.Fast (Slc.mk cA l.Clocks.length cC) (Slc.mk bA l.Beams.length bC) l.Finish l.Fakes l.Misses)).toArray), (Value.agg (SignalV.cells s).toArray)] [(rd kA l.Track.length 9 (l.Track.map StretchV.cells)), (rd cA l.Clocks.length 2 (List.zipWith ClockM.cells l.Clocks az)), (bun (nest ClockM.rds l.Clocks az)), (rd bA l.Beams.length 4 (l.Beams.map BeamV.cells))] (Value.agg (SpanV.cells (whenF l s)).toArray) := by
 have htk := hin.trk
 have hck := hin.cks
 have has := hin.as_
 have hbm := hin.bms
 refine fnV_of go49 Try.func49 rfl rfl fun w0 Q hQ hN => ?_
 try dsimp only
 refine WS fun _ hK1 => ?_
 refine BXA rfl fun b2 => ?_
 refine BXA rfl fun b3 => ?_
 refine AL rfl tz34 fun b4 => ?_
 refine RK hK1 ?_
 refine w_seq fun _ hK5 => ?_
 refine w_draw4 mixed [0, 1, 2, 3, 4, 5, 6, 7, 8, 9, 10] [11, 12] [false, false, false, false, false, false, false, false, false, false, false] [false, false] [(blk b4 34 (SpanV.cells (SpanV.mk 0 0))), (blk b3 30 (SignalV.cells s)), (blk b2 28 (LineV.cells (LineV.mk (TrackV.mk (Slc.mk kA l.Track.length kC)) l.Fast (Slc.mk cA l.Clocks.length cC) (Slc.mk bA l.Beams.length bC) l.Finish l.Fakes l.Misses))), (rd kA l.Track.length 9 (l.Track.map StretchV.cells)).ro, (rd cA l.Clocks.length 2 (List.zipWith ClockM.cells l.Clocks az)).ro, (bun (nest ClockM.rds l.Clocks az)).ro, (rd bA l.Beams.length 4 (l.Beams.map BeamV.cells)).ro] [] (by kernel_rfl) (fun w hs => St.sel [0, 1, 2, 3, 4, 5, 6] rfl rfl hs) (fun w hs => St.sel [] rfl rfl hs) ?_
 refine eS rfl (FA 2 rfl fo28_2 rfl) ?_
 refine eS rfl (L1 (Value.slice cA l.Clocks.length cC) 2 rfl tk25 rfl rfl) ?_
 refine eS rfl (FA 3 rfl fo28_3 rfl) ?_
 refine eS rfl (L1 (Value.slice bA l.Beams.length bC) 2 rfl tk26 rfl rfl) ?_
 refine eS rfl (FA 0 rfl fo30_0 rfl) ?_
 refine eS rfl (L1 (Value.int .i64 s.Beam) 1 rfl tk3 rfl rfl) ?_
 obtain ⟨y, hy⟩ : ∃ y_, l.Beams[(s.Beam).toNat]? = some y_ := ⟨l.Beams[(s.Beam).toNat]'(by omega), List.getElem?_eq_getElem _⟩
 have hym : (l.Beams.map BeamV.cells)[(s.Beam).toNat]? = some (BeamV.cells y) := by rw [List.getElem?_map, hy]; rfl
 refine eS rfl (IA ((s.Beam).toNat) rfl (has_at 6 rfl) te26 (by decide) (by omega) (by omega)) ?_
 refine eS rfl (FAR ((((s.Beam).toNat) * 4) + 3) rfl (has_at 6 rfl) (Nat.mul_pos (by omega) (by decide)) fo55_1 rfl) ?_
 refine eS rfl (LE1 ((s.Beam).toNat) 3 (Value.int .i64 y.Clock) rfl tk3 (has_at 6 rfl) hym rfl (by decide) rfl) ?_
 have hyb := (hok.beam _ (List.mem_of_getElem? hy)).2
 obtain ⟨x, hx⟩ : ∃ y_, l.Clocks[(y.Clock).toNat]? = some y_ := ⟨l.Clocks[(y.Clock).toNat]'(by omega), List.getElem?_eq_getElem _⟩
 obtain ⟨xa, hxa⟩ : ∃ y_, az[(y.Clock).toNat]? = some y_ := ⟨az[(y.Clock).toNat]'(by omega), List.getElem?_eq_getElem _⟩
 have hxm : (List.zipWith ClockM.cells l.Clocks az)[(y.Clock).toNat]? = some (ClockM.cells x xa) := zip_get hx hxa
 refine eS rfl (IA ((y.Clock).toNat) rfl (has_at 4 rfl) te25 (by decide) (by omega) (by omega)) ?_
 refine eS rfl (LEN ((y.Clock).toNat) 0 (ClockV.cells (ClockV.mk x.Drift (Slc.mk xa.1 x.Syncs.length xa.2))) rfl tk64 (has_at 4 rfl) hxm rfl (by decide) rfl rfl) ?_
 refine d_fin rfl ?_
 refine t_cons rfl fun T6 hT6 => ?_
 refine AL rfl tz64 fun b7 => ?_
 refine r_nil (hT6 _ _ (fun w hs => St.sel [1, 2, 3, 4, 5, 6, 7] rfl rfl hs) ?_)
 refine t_cons rfl fun T8 hT8 => ?_
 refine SW0 rfl ts64 rfl ?_
 refine r_nil (hT8 _ _ (fun w hs => St.sel [1, 2, 3, 4, 5, 6, 7] rfl rfl hs) ?_)
 refine t_fin rfl ?_
 refine KK hK5 ?_
 refine WS fun _ hK9 => ?_
 have hxo := hok.clock _ (List.mem_of_getElem? hx)
 have hfl := firstN_b (p := whenLo x s.Read) (n := 86400001)
 have hfh := firstN_b (p := whenHi x s.Read) (n := 86400001)
 refine rS (FU rfl) ?_
 refine rS (CL (bfirst_c 0 86400001 (Value.func (.func 76) [].toArray [(Value.pointer (some ⟨b7, 0, none⟩)), (Value.pointer (some ⟨b3, 0, none⟩))].toArray) (fun u10 => (decide (s.Read ≤ u10 + (aheadF x u10).Hi))) (bun [(rd xa.1 x.Syncs.length 3 (x.Syncs.map SyncV.cells)), (blk b7 64 (ClockV.cells (ClockV.mk x.Drift (Slc.mk xa.1 x.Syncs.length xa.2)))), (blk b3 30 (SignalV.cells s))]) (firstN (whenLo x s.Read) 86400001) (by intro u10 _; exact clo_of (fi := []) (ca := [(Value.pointer (some ⟨b7, 0, none⟩)), (Value.pointer (some ⟨b3, 0, none⟩))]) (fnV_bun (whenlo_c u10 x xa.1 xa.2 b7 s b3 (by first | assumption | omega) (by first | assumption | omega)) (ha_at 0 rfl rfl <| ha_at 1 rfl rfl <| ha_at 2 rfl rfl <| ha_nil))) (by first | assumption | omega | (simp; done) | (simp; omega)) (by intro z h0 hz; exact (when_mono hxo h0 (by omega)).1 hz) (by intro z hz h1; exact (when_mono hxo (by omega) h1).2.1 hz)) (ha_cons (has_bun (ha_cons (show Has _ (rd xa.1 x.Syncs.length 3 (x.Syncs.map SyncV.cells)).holds from (has_inr 6 rfl (mem_nest hx hxa (by simp [ClockM.rds])))) <| ha_at 0 rfl rfl <| ha_at 2 rfl rfl <| ha_nil)) <| ha_nil) rfl) ?_
 refine rS (FU rfl) ?_
 refine rS (CL (bfirst_c 0 86400001 (Value.func (.func 77) [].toArray [(Value.pointer (some ⟨b7, 0, none⟩)), (Value.pointer (some ⟨b3, 0, none⟩))].toArray) (fun u11 => (decide (s.Read < u11 + (aheadF x u11).Lo))) (bun [(rd xa.1 x.Syncs.length 3 (x.Syncs.map SyncV.cells)), (blk b7 64 (ClockV.cells (ClockV.mk x.Drift (Slc.mk xa.1 x.Syncs.length xa.2)))), (blk b3 30 (SignalV.cells s))]) (firstN (whenHi x s.Read) 86400001) (by intro u11 _; exact clo_of (fi := []) (ca := [(Value.pointer (some ⟨b7, 0, none⟩)), (Value.pointer (some ⟨b3, 0, none⟩))]) (fnV_bun (whenhi_c u11 x xa.1 xa.2 b7 s b3 (by first | assumption | omega) (by first | assumption | omega)) (ha_at 0 rfl rfl <| ha_at 1 rfl rfl <| ha_at 2 rfl rfl <| ha_nil))) (by first | assumption | omega | (simp; done) | (simp; omega)) (by intro z h0 hz; exact (when_mono hxo h0 (by omega)).2.2.1 hz) (by intro z hz h1; exact (when_mono hxo (by omega) h1).2.2.2 hz)) (ha_cons (has_bun (ha_cons (show Has _ (rd xa.1 x.Syncs.length 3 (x.Syncs.map SyncV.cells)).holds from (has_inr 6 rfl (mem_nest hx hxa (by simp [ClockM.rds])))) <| ha_at 0 rfl rfl <| ha_at 2 rfl rfl <| ha_nil)) <| ha_nil) rfl) ?_
 refine rS (BI rfl (b_sub ⟨by omega, by omega⟩)) ?_
 refine rS (SX (sd_build (xs := [(0, .tmp 18), (1, .tmp 21)]) (cs := (SpanV.cells (SpanV.mk (firstN (whenLo x s.Read) 86400001) ((firstN (whenHi x s.Read) 86400001) - 1)))) rfl rfl (built_of tb34 rfl)) rfl rfl) ?_
 refine SW1 rfl ts34 rfl ?_
 refine RK hK9 ?_
 refine w_ret ?_
 refine hQ _ _ _ (l_nil (vs := [(Value.agg (SpanV.cells (SpanV.mk (firstN (whenLo x s.Read) 86400001) ((firstN (whenHi x s.Read) 86400001) - 1))).toArray)]) ⟨⟨_, rfl, .inl ⟨_, _, tk34, at_blk (vs := (SpanV.cells (SpanV.mk (firstN (whenLo x s.Read) 86400001) ((firstN (whenHi x s.Read) 86400001) - 1)))) 1 rfl rfl, rfl, rfl⟩⟩, trivial⟩ fun w hs => endV ?_ hs)
 show (Value.agg (SpanV.cells (SpanV.mk (firstN (whenLo x s.Read) 86400001) ((firstN (whenHi x s.Read) 86400001) - 1))).toArray) = (Value.agg (SpanV.cells (whenF l s)).toArray)
 clear hs w hQ hN hK9 hT8 T8 hT6 T6 hK5 hK1
 unfold whenF whenC; rw [clockOf_eq hy hx]
set_option maxRecDepth 100000 in
set_option maxHeartbeats 400000 in
theorem When_c (l : LineM) (kA : Option Addr) (kC : Nat) (az : List RA) (cA : Option Addr) (cC : Nat) (bA : Option Addr) (bC : Nat) (s : SignalV) (hin : LineIn l az) :
    FnV Try.prog 15 [(Value.agg (LineV.cells (LineV.mk (TrackV.mk (Slc.mk kA l.Track.length kC)) l.Fast (Slc.mk cA l.Clocks.length cC) (Slc.mk bA l.Beams.length bC) l.Finish l.Fakes l.Misses)).toArray), (Value.agg (SignalV.cells s).toArray)] [(rd kA l.Track.length 9 (l.Track.map StretchV.cells)), (rd cA l.Clocks.length 2 (List.zipWith ClockM.cells l.Clocks az)), (bun (nest ClockM.rds l.Clocks az)), (rd bA l.Beams.length 4 (l.Beams.map BeamV.cells))] (Value.tuple [(Value.agg (SpanV.cells (whenV l s)).toArray), (Value.int .i64 (whenE l s))].toArray) := by
 have htk := hin.trk
 have hck := hin.cks
 have has := hin.as_
 have hbm := hin.bms
 refine fnV_of go15 Try.func15 rfl rfl fun w0 Q hQ hN => ?_
 try dsimp only
 refine WS fun _ hK1 => ?_
 refine BXA rfl fun b2 => ?_
 refine BXA rfl fun b3 => ?_
 refine AL rfl tz34 fun b4 => ?_
 refine rS (AG rfl) ?_
 refine RK hK1 ?_
 refine w_seq fun _ hK5 => ?_
 refine WS fun _ hK6 => ?_
 refine rS (LW 2 rfl tk28 rfl rfl) ?_
 refine rS (CL (lcheck_c l kA kC az cA cC bA bC hin) (ha_at 3 rfl rfl <| ha_at 4 rfl rfl <| ha_at 5 rfl rfl <| ha_at 6 rfl rfl <| ha_nil) rfl) ?_
 refine rS (AG rfl) ?_
 refine RK hK6 ?_
 refine WS fun _ hK7 => ?_
 refine rS (MV rfl) ?_
 refine rS (BI rfl b_neq) ?_
 refine RK hK7 ?_
 refine w_if rfl (fun h11 => ?_) (fun h11 => ?_)
 · replace h11 := XT h11
   refine WS fun _ hK8 => ?_
   refine rS (SX (sd_build (xs := []) (cs := (SpanV.cells (SpanV.mk 0 0))) rfl rfl (built_of tb34 rfl)) rfl rfl) ?_
   refine rS (MV rfl) ?_
   refine SW0 rfl ts34 rfl ?_
   refine rS (AG rfl) ?_
   refine RK hK8 ?_
   refine w_ret ?_
   refine hQ _ _ _ (l_nil (vs := [(Value.agg (SpanV.cells (SpanV.mk 0 0)).toArray), (Value.int .i64 (lineE l))]) ⟨⟨_, rfl, .inl ⟨_, _, tk34, at_blk (vs := (SpanV.cells (SpanV.mk 0 0))) 0 rfl rfl, rfl, rfl⟩⟩, rfl, trivial⟩ fun w hs => endV ?_ hs)
   show (Value.tuple [(Value.agg (SpanV.cells (SpanV.mk 0 0)).toArray), (Value.int .i64 (lineE l))].toArray) = (Value.tuple [(Value.agg (SpanV.cells (whenV l s)).toArray), (Value.int .i64 (whenE l s))].toArray)
   clear hs w hQ hN hK8 hK7 hK6 hK5 hK1
   first | (have e := when_bad (s := s) h11; rw [e.1, e.2] <;> rfl) | (have e := when_none (s := s) h11 (by omega) h38; rw [e.1, e.2] <;> rfl) | (have e := when_in (s := s) h11 (by omega) h38; rw [e.1, e.2] <;> rfl) | (have e := when_out (s := s) h11 (by omega); rw [e.1, e.2] <;> rfl)
 replace h11 := XF h11
 refine WK hK5 ?_
 refine w_seq fun _ hK9 => ?_
 refine WS fun _ hK10 => ?_
 refine rS (FA 3 rfl fo28_3 rfl) ?_
 obtain ⟨htr, hok⟩ := lineE_zero h11
 refine rS (L1 (Value.slice bA l.Beams.length bC) 2 rfl tk26 rfl rfl) ?_
 refine rS (LN rfl ut26) ?_
 refine rS (BI rfl (b_sub ⟨by omega, by omega⟩)) ?_
 refine rS (FA 0 rfl fo30_0 rfl) ?_
 refine rS (L1 (Value.int .i64 s.Beam) 1 rfl tk3 rfl rfl) ?_
 refine r_bs (xs := [.tmp 19]) (cs := [(Value.int .i64 s.Beam)]) rfl te57 tz3 rfl rfl rfl rfl (by simp [Value.cells]) rfl rfl fun b11 => ?_
 refine rS (CL (FnV.eq (in_beam 0 (((l.Beams.length : Nat) : Int) - 1) ([s.Beam]) (some ⟨b11, 0, none⟩) 1 (by first | assumption | omega | (simp; done) | (simp; omega))) inAll_one) (ha_cons (has_rd_blk 0 rfl rfl (by simp [iC_length]) rfl) <| ha_nil) rfl) ?_
 refine rS (NT rfl) ?_
 refine rS (MV rfl) ?_
 refine r_bool (t := 23) rfl (fun h23 => ?_) (fun h23 => ?_)
 · replace h23 := XT h23
   refine rS (OX rfl) ?_
   refine rS (OX rfl) ?_
   refine rS (OX rfl) ?_
   refine rS (OX rfl) ?_
   refine rS (OX rfl) ?_
   refine rS (PK rfl) ?_
   refine RK hK10 ?_
   refine w_if_true rfl ?_
   refine WS fun _ hK12 => ?_
   refine rS (SX (sd_build (xs := []) (cs := (SpanV.cells (SpanV.mk 0 0))) rfl rfl (built_of tb34 rfl)) rfl rfl) ?_
   refine SW1 rfl ts34 rfl ?_
   refine rS (AG rfl) ?_
   refine RK hK12 ?_
   refine w_ret ?_
   refine hQ _ _ _ (l_nil (vs := [(Value.agg (SpanV.cells (SpanV.mk 0 0)).toArray), (Value.int .i64 2)]) ⟨⟨_, rfl, .inl ⟨_, _, tk34, at_blk (vs := (SpanV.cells (SpanV.mk 0 0))) 1 rfl rfl, rfl, rfl⟩⟩, rfl, trivial⟩ fun w hs => endV ?_ hs)
   show (Value.tuple [(Value.agg (SpanV.cells (SpanV.mk 0 0)).toArray), (Value.int .i64 2)].toArray) = (Value.tuple [(Value.agg (SpanV.cells (whenV l s)).toArray), (Value.int .i64 (whenE l s))].toArray)
   clear hs w hQ hN hK12 hK10 hK9 hK7 hK6 hK5 hK1
   first | (have e := when_bad (s := s) h11; rw [e.1, e.2] <;> rfl) | (have e := when_none (s := s) h11 (by omega) h38; rw [e.1, e.2] <;> rfl) | (have e := when_in (s := s) h11 (by omega) h38; rw [e.1, e.2] <;> rfl) | (have e := when_out (s := s) h11 (by omega); rw [e.1, e.2] <;> rfl)
 replace h23 := XF h23
 refine rS (FA 1 rfl fo30_1 rfl) ?_
 refine rS (L1 (Value.int .i64 s.Read) 2 rfl tk3 rfl rfl) ?_
 refine r_bs (xs := [.tmp 25]) (cs := [(Value.int .i64 s.Read)]) rfl te57 tz3 rfl rfl rfl rfl (by simp [Value.cells]) rfl rfl fun b13 => ?_
 refine rS (CL (FnV.eq (in_beam 0 86400000 ([s.Read]) (some ⟨b13, 0, none⟩) 1 (by first | assumption | omega | (simp; done) | (simp; omega))) inAll_one) (ha_cons (has_rd_blk 0 rfl rfl (by simp [iC_length]) rfl) <| ha_nil) rfl) ?_
 refine rS (NT rfl) ?_
 refine rS (PK rfl) ?_
 refine RK hK10 ?_
 refine w_if rfl (fun h29 => ?_) (fun h29 => ?_)
 · replace h29 := XT h29
   refine WS fun _ hK14 => ?_
   refine rS (SX (sd_build (xs := []) (cs := (SpanV.cells (SpanV.mk 0 0))) rfl rfl (built_of tb34 rfl)) rfl rfl) ?_
   refine SW2 rfl ts34 rfl ?_
   refine rS (AG rfl) ?_
   refine RK hK14 ?_
   refine w_ret ?_
   refine hQ _ _ _ (l_nil (vs := [(Value.agg (SpanV.cells (SpanV.mk 0 0)).toArray), (Value.int .i64 2)]) ⟨⟨_, rfl, .inl ⟨_, _, tk34, at_blk (vs := (SpanV.cells (SpanV.mk 0 0))) 2 rfl rfl, rfl, rfl⟩⟩, rfl, trivial⟩ fun w hs => endV ?_ hs)
   show (Value.tuple [(Value.agg (SpanV.cells (SpanV.mk 0 0)).toArray), (Value.int .i64 2)].toArray) = (Value.tuple [(Value.agg (SpanV.cells (whenV l s)).toArray), (Value.int .i64 (whenE l s))].toArray)
   clear hs w hQ hN hK14 hK10 hK9 hK7 hK6 hK5 hK1
   first | (have e := when_bad (s := s) h11; rw [e.1, e.2] <;> rfl) | (have e := when_none (s := s) h11 (by omega) h38; rw [e.1, e.2] <;> rfl) | (have e := when_in (s := s) h11 (by omega) h38; rw [e.1, e.2] <;> rfl) | (have e := when_out (s := s) h11 (by omega); rw [e.1, e.2] <;> rfl)
 replace h29 := XF h29
 refine WK hK9 ?_
 refine WS fun _ hK15 => ?_
 refine rS (LW 4 rfl tk28 rfl rfl) ?_
 refine rS (LW 3 rfl tk30 rfl rfl) ?_
 refine rS (CL (when_c l kA kC az cA cC bA bC s hin (by first | assumption | omega | (simp; done) | (simp; omega)) (by first | assumption | omega | (simp; done) | (simp; omega))) (ha_at 5 rfl rfl <| ha_at 6 rfl rfl <| ha_at 7 rfl rfl <| ha_at 8 rfl rfl <| ha_nil) rfl) ?_
 refine AL rfl tz34 fun b16 => ?_
 refine SW0 rfl ts34 rfl ?_
 refine RK hK15 ?_
 refine w_seq fun _ hK17 => ?_
 refine WS fun _ hK18 => ?_
 refine rS (FA 0 rfl fo34_0 rfl) ?_
 refine rS (L1 (Value.int .i64 ((whenF l s).Lo)) 0 rfl tk3 rfl rfl) ?_
 refine rS (FA 1 rfl fo34_1 rfl) ?_
 refine rS (L1 (Value.int .i64 ((whenF l s).Hi)) 0 rfl tk3 rfl rfl) ?_
 refine rS (BI rfl b_gtr) ?_
 refine RK hK18 ?_
 refine w_if rfl (fun h38 => ?_) (fun h38 => ?_)
 rotate_left 1
 · replace h38 := DF h38
   refine WK hK17 ?_
   refine WS fun _ hK20 => ?_
   refine rS (LW 0 rfl tk34 rfl rfl) ?_
   refine SW3 rfl ts34 rfl ?_
   refine rS (AG rfl) ?_
   refine RK hK20 ?_
   refine w_ret ?_
   refine hQ _ _ _ (l_nil (vs := [(Value.agg (SpanV.cells (whenF l s)).toArray), (Value.int .i64 0)]) ⟨⟨_, rfl, .inl ⟨_, _, tk34, at_blk (vs := (SpanV.cells (whenF l s))) 3 rfl rfl, rfl, rfl⟩⟩, rfl, trivial⟩ fun w hs => endV ?_ hs)
   show (Value.tuple [(Value.agg (SpanV.cells (whenF l s)).toArray), (Value.int .i64 0)].toArray) = (Value.tuple [(Value.agg (SpanV.cells (whenV l s)).toArray), (Value.int .i64 (whenE l s))].toArray)
   clear hs w hQ hN hK20 hK18 hK17 hK15 hK10 hK9 hK7 hK6 hK5 hK1
   first | (have e := when_bad (s := s) h11; rw [e.1, e.2] <;> rfl) | (have e := when_none (s := s) h11 (by omega) h38; rw [e.1, e.2] <;> rfl) | (have e := when_in (s := s) h11 (by omega) h38; rw [e.1, e.2] <;> rfl) | (have e := when_out (s := s) h11 (by omega); rw [e.1, e.2] <;> rfl)
 replace h38 := DT h38
 refine WS fun _ hK19 => ?_
 refine rS (SX (sd_build (xs := []) (cs := (SpanV.cells (SpanV.mk 0 0))) rfl rfl (built_of tb34 rfl)) rfl rfl) ?_
 refine SW3 rfl ts34 rfl ?_
 refine rS (AG rfl) ?_
 refine RK hK19 ?_
 refine w_ret ?_
 refine hQ _ _ _ (l_nil (vs := [(Value.agg (SpanV.cells (SpanV.mk 0 0)).toArray), (Value.int .i64 6)]) ⟨⟨_, rfl, .inl ⟨_, _, tk34, at_blk (vs := (SpanV.cells (SpanV.mk 0 0))) 3 rfl rfl, rfl, rfl⟩⟩, rfl, trivial⟩ fun w hs => endV ?_ hs)
 show (Value.tuple [(Value.agg (SpanV.cells (SpanV.mk 0 0)).toArray), (Value.int .i64 6)].toArray) = (Value.tuple [(Value.agg (SpanV.cells (whenV l s)).toArray), (Value.int .i64 (whenE l s))].toArray)
 clear hs w hQ hN hK19 hK18 hK17 hK15 hK10 hK9 hK7 hK6 hK5 hK1
 first | (have e := when_bad (s := s) h11; rw [e.1, e.2] <;> rfl) | (have e := when_none (s := s) h11 (by omega) h38; rw [e.1, e.2] <;> rfl) | (have e := when_in (s := s) h11 (by omega) h38; rw [e.1, e.2] <;> rfl) | (have e := when_out (s := s) h11 (by omega); rw [e.1, e.2] <;> rfl)
end
section
open Go.RowKit
set_option linter.unusedVariables false
set_option maxRecDepth 100000 in
set_option maxHeartbeats 400000 in
theorem within_5 (n : Int) (lo : Int) (hi : Int) :
    FnV Try.prog 47 [(Value.int .i64 n), (Value.int .i64 lo), (Value.int .i64 hi)] [] (Value.bool (decide (lo ≤ n ∧ n ≤ hi))) := by
 refine fnV_of go47 Try.func47 rfl rfl fun w0 Q hQ hN => ?_
 try dsimp only
 refine WS fun _ hK1 => ?_
 refine rS (AG rfl) ?_
 refine RK hK1 ?_
 refine WS fun _ hK2 => ?_
 refine rS (MV rfl) ?_
 refine rS (MV rfl) ?_
 refine rS (BI rfl b_geq) ?_
 refine rS (MV rfl) ?_
 refine r_bool (t := 10) rfl (fun h3 => ?_) (fun h3 => ?_)
 rotate_left 1
 · replace h3 := DF h3
   refine rS (OX rfl) ?_
   refine rS (OX rfl) ?_
   refine rS (OX rfl) ?_
   refine rS (PK rfl) ?_
   refine rS (AG rfl) ?_
   refine RK hK2 ?_
   refine w_ret ?_
   refine Q1 hQ rfl rfl rfl ?_
   exact congrArg Value.bool (decide_eq_false (by omega)).symm
 replace h3 := DT h3
 refine rS (MV rfl) ?_
 refine rS (MV rfl) ?_
 refine rS (BI rfl b_leq) ?_
 refine rS (PK rfl) ?_
 refine rS (AG rfl) ?_
 refine RK hK2 ?_
 refine w_ret ?_
 refine Q1 hQ rfl rfl rfl ?_
 exact congrArg Value.bool (decide_eq_decide.2 (by omega))
set_option maxRecDepth 100000 in
set_option maxHeartbeats 400000 in
theorem rmarks_c (ts : List StretchV) (tsA : Option Addr) (tsC : Nat) (hst : ∀ x ∈ ts, StretchOk x) (hlen : ts.length ≤ 12) :
    FnX Try.prog 124 [(Value.agg (TrackV.cells (TrackV.mk (Slc.mk tsA ts.length tsC))).toArray)] [(rd tsA ts.length 9 (ts.map StretchV.cells))] (fun (x : (Option Addr) × Nat) => (Value.slice x.1 ((marksS ts (ts.length + 1)).length) x.2)) (fun (x : (Option Addr) × Nat) => True) (fun (x : (Option Addr) × Nat) => [(own x.1 x.2 34 2 ((marksS ts (ts.length + 1)).map SpanV.cells))]) := by
 refine fnX_of go124 Try.func124 rfl rfl fun w0 Q hQ hN => ?_
 try dsimp only
 refine WS fun _ hK1 => ?_
 refine BXA rfl fun b2 => ?_
 refine rS (AG rfl) ?_
 refine RK hK1 ?_
 refine WS fun _ hK3 => ?_
 refine rS (AG rfl) ?_
 refine RK hK3 ?_
 refine w_seq fun _ hK4 => ?_
 refine WS fun _ hK5 => ?_
 refine rS (AG rfl) ?_
 refine RK hK5 ?_
 refine w_block ?_
 refine w_own_nil 34 2 ?_
 have hinit : (0 ≤ ts.length + 1) := by exact Nat.zero_le _
 refine w_loop (ι := { z : Nat × (Option Addr) × Nat // (z.1 ≤ ts.length + 1) }) (fun z => [(1, (Value.pointer (some ⟨b2, 0, none⟩))), (3, (Value.slice z.1.2.1 ((marksS ts z.1.1).length) z.1.2.2)), (4, (Value.int .i64 ((z.1.1 : Nat) : Int)))]) (fun z => [(own z.1.2.1 z.1.2.2 34 2 ((marksS ts z.1.1).map SpanV.cells)), (blk b2 24 (TrackV.cells (TrackV.mk (Slc.mk tsA ts.length tsC)))), (rd tsA ts.length 9 (ts.map StretchV.cells)).ro]) (fun z => ts.length + 1 - z.1.1) ⟨(0, none, 0), hinit⟩ (Sub.cons rfl <| Sub.cons rfl <| Sub.cons rfl <| Sub.nil _) (fun w hs => St.sel [0, 1, 2] rfl rfl hs) ?_
 clear hinit
 rintro ⟨⟨i, a, c⟩, hl0_0⟩ J6 hJ6
 try dsimp only at hl0_0
 try dsimp only
 refine w_seq fun _ hK7 => ?_
 refine WS fun _ hK8 => ?_
 refine rS (MV rfl) ?_
 refine rS (FA 0 rfl fo24_0 rfl) ?_
 refine rS (L1 (Value.slice tsA ts.length tsC) 1 rfl tk22 rfl rfl) ?_
 refine rS (LN rfl ut22) ?_
 refine rS (BI rfl b_leq) ?_
 refine RK hK8 ?_
 refine w_if rfl (fun h9 => ?_) (fun h9 => ?_)
 rotate_left 1
 · replace h9 := DF h9
   refine w_exit ?_
   refine k_exit_then ?_
   refine k_exit_then ?_
   refine k_exit_same ?_
   refine KK hK4 ?_
   refine WS fun _ hK18 => ?_
   obtain rfl : i = ts.length + 1 := by omega
   refine rS (MV rfl) ?_
   refine rS (AG rfl) ?_
   refine RK hK18 ?_
   refine w_ret ?_
   refine hQ _ _ _ (l_nil (vs := [(Value.slice a ((marksS ts (ts.length + 1)).length) c)]) ⟨rfl, trivial⟩ fun w hs => endX (a, c) [0] ?_ ?_ rfl rfl rfl hs)
   · rfl
   · trivial
 replace h9 := DT h9
 refine WK hK7 ?_
 refine w_seq fun _ hK10 => ?_
 refine w_block ?_
 refine WS fun _ hK11 => ?_
 refine rS (LW 1 rfl tk24 rfl rfl) ?_
 refine rS (MV rfl) ?_
 refine rS (CL (rdrop_c ts tsA tsC 0 ((i : Nat) : Int) hst hlen (by omega)) (ha_at 2 rfl rfl <| ha_nil) rfl) ?_
 refine rS (MV rfl) ?_
 refine rS (EX rfl) ?_
 refine rS (EX rfl) ?_
 refine AL rfl tz34 fun b12 => ?_
 refine AL rfl tz34 fun b13 => ?_
 refine SW1 rfl ts34 rfl ?_
 refine SW0 rfl ts34 rfl ?_
 refine RK hK11 ?_
 refine w_region ?_
 refine rS (MV rfl) ?_
 refine rS (LW 1 rfl tk34 rfl rfl) ?_
 refine r_bs (xs := [.tmp 21]) (cs := (SpanV.cells (longF ts (0 : Int).toNat (((i : Nat) : Int) - 0).toNat))) rfl te81 tz34 rfl rfl rfl rfl (by simp [Value.cells, SpanV.cells_length]) rfl rfl fun b14 => ?_
 refine r_append (es2 := (List.map SpanV.cells (marksS ts (i + 1)))) (m' := (marksS ts (i + 1)).length) 3 rfl rfl rfl ta81 rfl rfl (by simp) (has_rd_blk (es := List.map SpanV.cells [(longF ts (0 : Int).toNat (((i : Nat) : Int) - 0).toNat)]) 0 rfl rfl (by simp [SpanV.cells_length]) rfl) (one_SpanV_cells _) (by simp only [marksS_length]; omega) (by simp only [maxLen, marksS_length]; omega) (by rw [marksS_succ]; simp) (by simp) rfl fun a15 c16 => ?_
 try dsimp only
 refine rS (AG rfl) ?_
 refine r_nil ?_
 refine k_block ?_
 refine KK hK10 ?_
 refine w_region ?_
 refine rS (MV rfl) ?_
 refine rS (BI rfl (b_add ⟨by omega, by omega⟩)) ?_
 refine rS (AG rfl) ?_
 refine r_nil ?_
 have hb17 : (Value.int .i64 (((i + 1) : Nat) : Int)) = (Value.int .i64 (((i : Nat) : Int) + 1)) := by exact congrArg (Value.int .i64) (by omega)
 refine k_then (hJ6 ⟨((i + 1), a15, c16), (by first | omega | (simp only []; omega))⟩ _ _ _ rfl (by first | omega | (simp; omega)) (Sub.cons rfl <| Sub.cons rfl <| sub_val rfl hb17 <| Sub.nil _) (fun w hs => St.sel [3, 4, 5] rfl rfl hs))
set_option maxRecDepth 100000 in
set_option maxHeartbeats 400000 in
theorem rat_c (ts : List StretchV) (tsA : Option Addr) (tsC : Nat) (s : SpotV) (hlen : ts.length ≤ 1000000) (hside : ∀ x ∈ ts, 0 ≤ x.Side ∧ x.Side ≤ 255) :
    FnV Try.prog 106 [(Value.agg (TrackV.cells (TrackV.mk (Slc.mk tsA ts.length tsC))).toArray), (Value.agg (SpotV.cells s).toArray)] [(rd tsA ts.length 9 (ts.map StretchV.cells))] (Value.tuple [(Value.agg (SpanV.cells (atV ts s)).toArray), (Value.int .i64 (atE ts s))].toArray) := by
 refine fnV_of go106 Try.func106 rfl rfl fun w0 Q hQ hN => ?_
 try dsimp only
 refine WS fun _ hK1 => ?_
 refine BXA rfl fun b2 => ?_
 refine BXA rfl fun b3 => ?_
 refine AL rfl tz34 fun b4 => ?_
 refine rS (AG rfl) ?_
 refine RK hK1 ?_
 refine w_seq fun _ hK5 => ?_
 refine WS fun _ hK6 => ?_
 refine rS (LW 2 rfl tk24 rfl rfl) ?_
 refine rS (CL (track_c ts tsA tsC hlen) (ha_at 3 rfl rfl <| ha_nil) rfl) ?_
 refine rS (NT rfl) ?_
 refine RK hK6 ?_
 refine w_if rfl (fun h9 => ?_) (fun h9 => ?_)
 · rw [Bool.not_eq_true'] at h9
   refine WS fun _ hK7 => ?_
   refine rS (SX (sd_build (xs := []) (cs := (SpanV.cells (SpanV.mk 0 0))) rfl rfl (built_of tb34 rfl)) rfl rfl) ?_
   refine SW0 rfl ts34 rfl ?_
   refine rS (AG rfl) ?_
   refine RK hK7 ?_
   refine w_ret ?_
   refine hQ _ _ _ (l_nil (vs := [(Value.agg (SpanV.cells (SpanV.mk 0 0)).toArray), (Value.int .i64 10)]) ⟨⟨_, rfl, .inl ⟨_, _, tk34, at_blk (vs := (SpanV.cells (SpanV.mk 0 0))) 0 rfl rfl, rfl, rfl⟩⟩, rfl, trivial⟩ fun w hs => endV ?_ hs)
   show (Value.tuple [(Value.agg (SpanV.cells (SpanV.mk 0 0)).toArray), (Value.int .i64 10)].toArray) = (Value.tuple [(Value.agg (SpanV.cells (atV ts s)).toArray), (Value.int .i64 (atE ts s))].toArray)
   clear hs w hQ hN hK7 hK6 hK5 hK1
   first | (have e := at_bad (s := s) (by simpa using h9); rw [e.1, e.2] <;> rfl) | (have e := at_out h9 h14; rw [e.1, e.2] <;> rfl) | (have e := at_in h9 h14; subst hzm; rw [e.1, e.2] <;> rfl)
 rw [Bool.not_eq_false'] at h9
 refine WK hK5 ?_
 refine w_seq fun _ hK8 => ?_
 refine WS fun _ hK9 => ?_
 have hst := trackOk_all h9
 have hl12 := trackOk_le h9
 refine rS (LW 2 rfl tk24 rfl rfl) ?_
 refine rS (LW 1 rfl tk53 rfl rfl) ?_
 refine rS (CL (rspot_c ts tsA tsC s (by first | assumption | omega | (simp; done) | (simp; omega)) (by first | assumption | omega | (simp; done) | (simp; omega))) (ha_at 3 rfl rfl <| ha_nil) rfl) ?_
 refine rS (NT rfl) ?_
 refine RK hK9 ?_
 refine w_if rfl (fun h14 => ?_) (fun h14 => ?_)
 · replace h14 := XT h14
   refine WS fun _ hK10 => ?_
   refine rS (SX (sd_build (xs := []) (cs := (SpanV.cells (SpanV.mk 0 0))) rfl rfl (built_of tb34 rfl)) rfl rfl) ?_
   refine SW0 rfl ts34 rfl ?_
   refine rS (AG rfl) ?_
   refine RK hK10 ?_
   refine w_ret ?_
   refine hQ _ _ _ (l_nil (vs := [(Value.agg (SpanV.cells (SpanV.mk 0 0)).toArray), (Value.int .i64 12)]) ⟨⟨_, rfl, .inl ⟨_, _, tk34, at_blk (vs := (SpanV.cells (SpanV.mk 0 0))) 0 rfl rfl, rfl, rfl⟩⟩, rfl, trivial⟩ fun w hs => endV ?_ hs)
   show (Value.tuple [(Value.agg (SpanV.cells (SpanV.mk 0 0)).toArray), (Value.int .i64 12)].toArray) = (Value.tuple [(Value.agg (SpanV.cells (atV ts s)).toArray), (Value.int .i64 (atE ts s))].toArray)
   clear hs w hQ hN hK10 hK9 hK8 hK6 hK5 hK1
   first | (have e := at_bad (s := s) (by simpa using h9); rw [e.1, e.2] <;> rfl) | (have e := at_out h9 h14; rw [e.1, e.2] <;> rfl) | (have e := at_in h9 h14; subst hzm; rw [e.1, e.2] <;> rfl)
 replace h14 := XF h14
 refine WK hK8 ?_
 refine w_seq fun _ hK11 => ?_
 refine w_drawN mixed [0, 2, 3] [1, 4, 5, 6, 7] [false, false, false] [] [(blk b4 34 (SpanV.cells (SpanV.mk 0 0))), (blk b3 53 (SpotV.cells s)), (blk b2 24 (TrackV.cells (TrackV.mk (Slc.mk tsA ts.length tsC)))), (rd tsA ts.length 9 (ts.map StretchV.cells)).ro] [] (by kernel_rfl) (fun w hs => St.sel [0, 1, 2, 3] rfl rfl hs) (fun w hs => St.sel [] rfl rfl hs) ?_
 have hsb := h14.1
 have hof := off_in hst h14
 have hml : (marksS ts (ts.length + 1)).length = ts.length + 1 := marksS_length
 refine eS rfl (LW 2 rfl tk24 rfl rfl) ?_
 refine eS rfl (FA 0 rfl fo53_0 rfl) ?_
 refine eS rfl (L1 (Value.int .i64 s.Stretch) 1 rfl tk3 rfl rfl) ?_
 refine d_fin rfl ?_
 refine n_step [1, 6] (by kernel_rfl) (n_cons ?_ <| n_cons ?_ <| n_nil)
 rotate_left 1
 · refine n_op (rem' := [1, 4, 5, 7]) rfl (by kernel_rfl) rfl fun T34 hT34 => ?_
   refine AL rfl tz34 fun b35 => ?_
   refine r_nil (hT34 _ _ (fun w hs => St.sel [1, 2, 3, 4] rfl rfl hs) ?_)
   refine n_step [1] (by kernel_rfl) (n_cons ?_ <| n_nil)
   refine n_op (rem' := [4, 5, 7]) rfl (by kernel_rfl) rfl fun T36 hT36 => ?_
   refine cX (rmarks_c ts tsA tsC (by first | assumption | omega | (simp; done) | (simp; omega)) (by first | assumption | omega | (simp; done) | (simp; omega))) (ha_at 4 rfl rfl <| ha_nil) rfl fun y37 hy38 => ?_
   obtain ⟨a39, c40⟩ := y37
   try dsimp only
   refine r_nil (hT36 _ _ (fun w hs => St.sel [2, 3, 4, 5] rfl rfl hs) ?_)
   refine n_step [4] (by kernel_rfl) (n_cons ?_ <| n_nil)
   refine n_op (rem' := [5, 7]) rfl (by kernel_rfl) rfl fun T41 hT41 => ?_
   obtain ⟨z, hz⟩ : ∃ y_, (marksS ts (ts.length + 1))[(s.Stretch).toNat]? = some y_ := ⟨(marksS ts (ts.length + 1))[(s.Stretch).toNat]'(by omega), List.getElem?_eq_getElem _⟩
   have hzm : ((marksS ts (ts.length + 1)).map SpanV.cells)[(s.Stretch).toNat]? = some (SpanV.cells z) := by rw [List.getElem?_map, hz]; rfl
   refine rS (IA ((s.Stretch).toNat) rfl (has_own_n (n := (marksS ts (ts.length + 1)).length) 0 rfl (by simp)) te81 (by decide) (by omega) (by omega)) ?_
   refine r_nil (hT41 _ _ (fun w hs => St.sel [2, 3, 4, 5] rfl rfl hs) ?_)
   refine n_step [5] (by kernel_rfl) (n_cons ?_ <| n_nil)
   refine n_op (rem' := [7]) rfl (by kernel_rfl) rfl fun T42 hT42 => ?_
   refine rS (LEN ((s.Stretch).toNat) 0 (SpanV.cells z) rfl tk34 (has_own_n (n := (marksS ts (ts.length + 1)).length) 0 rfl (by simp)) hzm rfl (by decide) rfl rfl) ?_
   refine r_nil (hT42 _ _ (fun w hs => St.sel [2, 3, 4, 5] rfl rfl hs) ?_)
   refine n_step [7] (by kernel_rfl) (n_cons ?_ <| n_nil)
   refine n_op (rem' := []) rfl (by kernel_rfl) rfl fun T43 hT43 => ?_
   refine SW1 rfl ts34 rfl ?_
   refine r_nil (hT43 _ _ (fun w hs => St.sel [2, 3, 4, 5] rfl rfl hs) ?_)
   refine n_fin ?_
   refine KK hK11 ?_
   refine WS fun _ hK44 => ?_
   refine rS (FA 0 rfl fo34_0 rfl) ?_
   have hzm := marksS_get hz
   have hlb := longF_b hst 0 s.Stretch.toNat
   unfold In12 at hof
   rw [← hzm] at hlb
   refine rS (L1 (Value.int .i64 z.Lo) 1 rfl tk3 rfl rfl) ?_
   refine rS (FA 1 rfl fo53_1 rfl) ?_
   refine rS (FA 1 rfl fo34_0 rfl) ?_
   refine rS (L1 (Value.int .i64 s.Off.Lo) 3 rfl tk3 rfl rfl) ?_
   refine rS (BI rfl (b_add ⟨by omega, by omega⟩)) ?_
   refine rS (FA 1 rfl fo34_1 rfl) ?_
   refine rS (L1 (Value.int .i64 z.Hi) 1 rfl tk3 rfl rfl) ?_
   refine rS (FA 1 rfl fo53_1 rfl) ?_
   refine rS (FA 2 rfl fo34_1 rfl) ?_
   refine rS (L1 (Value.int .i64 s.Off.Hi) 3 rfl tk3 rfl rfl) ?_
   refine rS (BI rfl (b_add ⟨by omega, by omega⟩)) ?_
   refine rS (SX (sd_build (xs := [(0, .tmp 27), (1, .tmp 33)]) (cs := (SpanV.cells (SpanV.mk (z.Lo + s.Off.Lo) (z.Hi + s.Off.Hi)))) rfl rfl (built_of tb34 rfl)) rfl rfl) ?_
   refine SW2 rfl ts34 rfl ?_
   refine rS (AG rfl) ?_
   refine RK hK44 ?_
   refine w_ret ?_
   refine hQ _ _ _ (l_nil (vs := [(Value.agg (SpanV.cells (SpanV.mk (z.Lo + s.Off.Lo) (z.Hi + s.Off.Hi))).toArray), (Value.int .i64 0)]) ⟨⟨_, rfl, .inl ⟨_, _, tk34, at_blk (vs := (SpanV.cells (SpanV.mk (z.Lo + s.Off.Lo) (z.Hi + s.Off.Hi)))) 2 rfl rfl, rfl, rfl⟩⟩, rfl, trivial⟩ fun w hs => endV ?_ hs)
   show (Value.tuple [(Value.agg (SpanV.cells (SpanV.mk (z.Lo + s.Off.Lo) (z.Hi + s.Off.Hi))).toArray), (Value.int .i64 0)].toArray) = (Value.tuple [(Value.agg (SpanV.cells (atV ts s)).toArray), (Value.int .i64 (atE ts s))].toArray)
   clear hs w hQ hN hK44 hT43 T43 hT42 T42 hT41 T41 hT36 T36 hT34 T34 hK11 hK9 hK8 hK6 hK5 hK1
   first | (have e := at_bad (s := s) (by simpa using h9); rw [e.1, e.2] <;> rfl) | (have e := at_out h9 h14; rw [e.1, e.2] <;> rfl) | (have e := at_in h9 h14; subst hzm; rw [e.1, e.2] <;> rfl)
 refine n_op (rem' := [4, 5, 6, 7]) rfl (by kernel_rfl) rfl fun T12 hT12 => ?_
 refine cX (rmarks_c ts tsA tsC (by first | assumption | omega | (simp; done) | (simp; omega)) (by first | assumption | omega | (simp; done) | (simp; omega))) (ha_at 3 rfl rfl <| ha_nil) rfl fun y13 hy14 => ?_
 obtain ⟨a15, c16⟩ := y13
 try dsimp only
 refine r_nil (hT12 _ _ (fun w hs => St.sel [1, 2, 3, 4] rfl rfl hs) ?_)
 refine n_step [4, 6] (by kernel_rfl) (n_cons ?_ <| n_cons ?_ <| n_nil)
 rotate_left 1
 · refine n_op (rem' := [4, 5, 7]) rfl (by kernel_rfl) rfl fun T28 hT28 => ?_
   refine AL rfl tz34 fun b29 => ?_
   refine r_nil (hT28 _ _ (fun w hs => St.sel [2, 3, 4, 5] rfl rfl hs) ?_)
   refine n_step [4] (by kernel_rfl) (n_cons ?_ <| n_nil)
   refine n_op (rem' := [5, 7]) rfl (by kernel_rfl) rfl fun T30 hT30 => ?_
   obtain ⟨z, hz⟩ : ∃ y_, (marksS ts (ts.length + 1))[(s.Stretch).toNat]? = some y_ := ⟨(marksS ts (ts.length + 1))[(s.Stretch).toNat]'(by omega), List.getElem?_eq_getElem _⟩
   have hzm : ((marksS ts (ts.length + 1)).map SpanV.cells)[(s.Stretch).toNat]? = some (SpanV.cells z) := by rw [List.getElem?_map, hz]; rfl
   refine rS (IA ((s.Stretch).toNat) rfl (has_own_n (n := (marksS ts (ts.length + 1)).length) 1 rfl (by simp)) te81 (by decide) (by omega) (by omega)) ?_
   refine r_nil (hT30 _ _ (fun w hs => St.sel [2, 3, 4, 5] rfl rfl hs) ?_)
   refine n_step [5] (by kernel_rfl) (n_cons ?_ <| n_nil)
   refine n_op (rem' := [7]) rfl (by kernel_rfl) rfl fun T31 hT31 => ?_
   refine rS (LEN ((s.Stretch).toNat) 0 (SpanV.cells z) rfl tk34 (has_own_n (n := (marksS ts (ts.length + 1)).length) 1 rfl (by simp)) hzm rfl (by decide) rfl rfl) ?_
   refine r_nil (hT31 _ _ (fun w hs => St.sel [2, 3, 4, 5] rfl rfl hs) ?_)
   refine n_step [7] (by kernel_rfl) (n_cons ?_ <| n_nil)
   refine n_op (rem' := []) rfl (by kernel_rfl) rfl fun T32 hT32 => ?_
   refine SW0 rfl ts34 rfl ?_
   refine r_nil (hT32 _ _ (fun w hs => St.sel [2, 3, 4, 5] rfl rfl hs) ?_)
   refine n_fin ?_
   refine KK hK11 ?_
   refine WS fun _ hK33 => ?_
   refine rS (FA 0 rfl fo34_0 rfl) ?_
   have hzm := marksS_get hz
   have hlb := longF_b hst 0 s.Stretch.toNat
   unfold In12 at hof
   rw [← hzm] at hlb
   refine rS (L1 (Value.int .i64 z.Lo) 0 rfl tk3 rfl rfl) ?_
   refine rS (FA 1 rfl fo53_1 rfl) ?_
   refine rS (FA 1 rfl fo34_0 rfl) ?_
   refine rS (L1 (Value.int .i64 s.Off.Lo) 3 rfl tk3 rfl rfl) ?_
   refine rS (BI rfl (b_add ⟨by omega, by omega⟩)) ?_
   refine rS (FA 1 rfl fo34_1 rfl) ?_
   refine rS (L1 (Value.int .i64 z.Hi) 0 rfl tk3 rfl rfl) ?_
   refine rS (FA 1 rfl fo53_1 rfl) ?_
   refine rS (FA 2 rfl fo34_1 rfl) ?_
   refine rS (L1 (Value.int .i64 s.Off.Hi) 3 rfl tk3 rfl rfl) ?_
   refine rS (BI rfl (b_add ⟨by omega, by omega⟩)) ?_
   refine rS (SX (sd_build (xs := [(0, .tmp 27), (1, .tmp 33)]) (cs := (SpanV.cells (SpanV.mk (z.Lo + s.Off.Lo) (z.Hi + s.Off.Hi)))) rfl rfl (built_of tb34 rfl)) rfl rfl) ?_
   refine SW2 rfl ts34 rfl ?_
   refine rS (AG rfl) ?_
   refine RK hK33 ?_
   refine w_ret ?_
   refine hQ _ _ _ (l_nil (vs := [(Value.agg (SpanV.cells (SpanV.mk (z.Lo + s.Off.Lo) (z.Hi + s.Off.Hi))).toArray), (Value.int .i64 0)]) ⟨⟨_, rfl, .inl ⟨_, _, tk34, at_blk (vs := (SpanV.cells (SpanV.mk (z.Lo + s.Off.Lo) (z.Hi + s.Off.Hi)))) 2 rfl rfl, rfl, rfl⟩⟩, rfl, trivial⟩ fun w hs => endV ?_ hs)
   show (Value.tuple [(Value.agg (SpanV.cells (SpanV.mk (z.Lo + s.Off.Lo) (z.Hi + s.Off.Hi))).toArray), (Value.int .i64 0)].toArray) = (Value.tuple [(Value.agg (SpanV.cells (atV ts s)).toArray), (Value.int .i64 (atE ts s))].toArray)
   clear hs w hQ hN hK33 hT32 T32 hT31 T31 hT30 T30 hT28 T28 hT12 T12 hK11 hK9 hK8 hK6 hK5 hK1
   first | (have e := at_bad (s := s) (by simpa using h9); rw [e.1, e.2] <;> rfl) | (have e := at_out h9 h14; rw [e.1, e.2] <;> rfl) | (have e := at_in h9 h14; subst hzm; rw [e.1, e.2] <;> rfl)
 refine n_op (rem' := [5, 6, 7]) rfl (by kernel_rfl) rfl fun T17 hT17 => ?_
 obtain ⟨z, hz⟩ : ∃ y_, (marksS ts (ts.length + 1))[(s.Stretch).toNat]? = some y_ := ⟨(marksS ts (ts.length + 1))[(s.Stretch).toNat]'(by omega), List.getElem?_eq_getElem _⟩
 have hzm : ((marksS ts (ts.length + 1)).map SpanV.cells)[(s.Stretch).toNat]? = some (SpanV.cells z) := by rw [List.getElem?_map, hz]; rfl
 refine rS (IA ((s.Stretch).toNat) rfl (has_own_n (n := (marksS ts (ts.length + 1)).length) 0 rfl (by simp)) te81 (by decide) (by omega) (by omega)) ?_
 refine r_nil (hT17 _ _ (fun w hs => St.sel [1, 2, 3, 4] rfl rfl hs) ?_)
 refine n_step [5, 6] (by kernel_rfl) (n_cons ?_ <| n_cons ?_ <| n_nil)
 rotate_left 1
 · refine n_op (rem' := [5, 7]) rfl (by kernel_rfl) rfl fun T23 hT23 => ?_
   refine AL rfl tz34 fun b24 => ?_
   refine r_nil (hT23 _ _ (fun w hs => St.sel [2, 3, 4, 5] rfl rfl hs) ?_)
   refine n_step [5] (by kernel_rfl) (n_cons ?_ <| n_nil)
   refine n_op (rem' := [7]) rfl (by kernel_rfl) rfl fun T25 hT25 => ?_
   refine rS (LEN ((s.Stretch).toNat) 0 (SpanV.cells z) rfl tk34 (has_own_n (n := (marksS ts (ts.length + 1)).length) 1 rfl (by simp)) hzm rfl (by decide) rfl rfl) ?_
   refine r_nil (hT25 _ _ (fun w hs => St.sel [2, 3, 4, 5] rfl rfl hs) ?_)
   refine n_step [7] (by kernel_rfl) (n_cons ?_ <| n_nil)
   refine n_op (rem' := []) rfl (by kernel_rfl) rfl fun T26 hT26 => ?_
   refine SW0 rfl ts34 rfl ?_
   refine r_nil (hT26 _ _ (fun w hs => St.sel [2, 3, 4, 5] rfl rfl hs) ?_)
   refine n_fin ?_
   refine KK hK11 ?_
   refine WS fun _ hK27 => ?_
   refine rS (FA 0 rfl fo34_0 rfl) ?_
   have hzm := marksS_get hz
   have hlb := longF_b hst 0 s.Stretch.toNat
   unfold In12 at hof
   rw [← hzm] at hlb
   refine rS (L1 (Value.int .i64 z.Lo) 0 rfl tk3 rfl rfl) ?_
   refine rS (FA 1 rfl fo53_1 rfl) ?_
   refine rS (FA 1 rfl fo34_0 rfl) ?_
   refine rS (L1 (Value.int .i64 s.Off.Lo) 3 rfl tk3 rfl rfl) ?_
   refine rS (BI rfl (b_add ⟨by omega, by omega⟩)) ?_
   refine rS (FA 1 rfl fo34_1 rfl) ?_
   refine rS (L1 (Value.int .i64 z.Hi) 0 rfl tk3 rfl rfl) ?_
   refine rS (FA 1 rfl fo53_1 rfl) ?_
   refine rS (FA 2 rfl fo34_1 rfl) ?_
   refine rS (L1 (Value.int .i64 s.Off.Hi) 3 rfl tk3 rfl rfl) ?_
   refine rS (BI rfl (b_add ⟨by omega, by omega⟩)) ?_
   refine rS (SX (sd_build (xs := [(0, .tmp 27), (1, .tmp 33)]) (cs := (SpanV.cells (SpanV.mk (z.Lo + s.Off.Lo) (z.Hi + s.Off.Hi)))) rfl rfl (built_of tb34 rfl)) rfl rfl) ?_
   refine SW2 rfl ts34 rfl ?_
   refine rS (AG rfl) ?_
   refine RK hK27 ?_
   refine w_ret ?_
   refine hQ _ _ _ (l_nil (vs := [(Value.agg (SpanV.cells (SpanV.mk (z.Lo + s.Off.Lo) (z.Hi + s.Off.Hi))).toArray), (Value.int .i64 0)]) ⟨⟨_, rfl, .inl ⟨_, _, tk34, at_blk (vs := (SpanV.cells (SpanV.mk (z.Lo + s.Off.Lo) (z.Hi + s.Off.Hi)))) 2 rfl rfl, rfl, rfl⟩⟩, rfl, trivial⟩ fun w hs => endV ?_ hs)
   show (Value.tuple [(Value.agg (SpanV.cells (SpanV.mk (z.Lo + s.Off.Lo) (z.Hi + s.Off.Hi))).toArray), (Value.int .i64 0)].toArray) = (Value.tuple [(Value.agg (SpanV.cells (atV ts s)).toArray), (Value.int .i64 (atE ts s))].toArray)
   clear hs w hQ hN hK27 hT26 T26 hT25 T25 hT23 T23 hT17 T17 hT12 T12 hK11 hK9 hK8 hK6 hK5 hK1
   first | (have e := at_bad (s := s) (by simpa using h9); rw [e.1, e.2] <;> rfl) | (have e := at_out h9 h14; rw [e.1, e.2] <;> rfl) | (have e := at_in h9 h14; subst hzm; rw [e.1, e.2] <;> rfl)
 refine n_op (rem' := [6, 7]) rfl (by kernel_rfl) rfl fun T18 hT18 => ?_
 refine rS (LEN ((s.Stretch).toNat) 0 (SpanV.cells z) rfl tk34 (has_own_n (n := (marksS ts (ts.length + 1)).length) 0 rfl (by simp)) hzm rfl (by decide) rfl rfl) ?_
 refine r_nil (hT18 _ _ (fun w hs => St.sel [1, 2, 3, 4] rfl rfl hs) ?_)
 refine n_step [6] (by kernel_rfl) (n_cons ?_ <| n_nil)
 refine n_op (rem' := [7]) rfl (by kernel_rfl) rfl fun T19 hT19 => ?_
 refine AL rfl tz34 fun b20 => ?_
 refine r_nil (hT19 _ _ (fun w hs => St.sel [2, 3, 4, 5] rfl rfl hs) ?_)
 refine n_step [7] (by kernel_rfl) (n_cons ?_ <| n_nil)
 refine n_op (rem' := []) rfl (by kernel_rfl) rfl fun T21 hT21 => ?_
 refine SW0 rfl ts34 rfl ?_
 refine r_nil (hT21 _ _ (fun w hs => St.sel [2, 3, 4, 5] rfl rfl hs) ?_)
 refine n_fin ?_
 refine KK hK11 ?_
 refine WS fun _ hK22 => ?_
 refine rS (FA 0 rfl fo34_0 rfl) ?_
 have hzm := marksS_get hz
 have hlb := longF_b hst 0 s.Stretch.toNat
 unfold In12 at hof
 rw [← hzm] at hlb
 refine rS (L1 (Value.int .i64 z.Lo) 0 rfl tk3 rfl rfl) ?_
 refine rS (FA 1 rfl fo53_1 rfl) ?_
 refine rS (FA 1 rfl fo34_0 rfl) ?_
 refine rS (L1 (Value.int .i64 s.Off.Lo) 3 rfl tk3 rfl rfl) ?_
 refine rS (BI rfl (b_add ⟨by omega, by omega⟩)) ?_
 refine rS (FA 1 rfl fo34_1 rfl) ?_
 refine rS (L1 (Value.int .i64 z.Hi) 0 rfl tk3 rfl rfl) ?_
 refine rS (FA 1 rfl fo53_1 rfl) ?_
 refine rS (FA 2 rfl fo34_1 rfl) ?_
 refine rS (L1 (Value.int .i64 s.Off.Hi) 3 rfl tk3 rfl rfl) ?_
 refine rS (BI rfl (b_add ⟨by omega, by omega⟩)) ?_
 refine rS (SX (sd_build (xs := [(0, .tmp 27), (1, .tmp 33)]) (cs := (SpanV.cells (SpanV.mk (z.Lo + s.Off.Lo) (z.Hi + s.Off.Hi)))) rfl rfl (built_of tb34 rfl)) rfl rfl) ?_
 refine SW2 rfl ts34 rfl ?_
 refine rS (AG rfl) ?_
 refine RK hK22 ?_
 refine w_ret ?_
 refine hQ _ _ _ (l_nil (vs := [(Value.agg (SpanV.cells (SpanV.mk (z.Lo + s.Off.Lo) (z.Hi + s.Off.Hi))).toArray), (Value.int .i64 0)]) ⟨⟨_, rfl, .inl ⟨_, _, tk34, at_blk (vs := (SpanV.cells (SpanV.mk (z.Lo + s.Off.Lo) (z.Hi + s.Off.Hi)))) 2 rfl rfl, rfl, rfl⟩⟩, rfl, trivial⟩ fun w hs => endV ?_ hs)
 show (Value.tuple [(Value.agg (SpanV.cells (SpanV.mk (z.Lo + s.Off.Lo) (z.Hi + s.Off.Hi))).toArray), (Value.int .i64 0)].toArray) = (Value.tuple [(Value.agg (SpanV.cells (atV ts s)).toArray), (Value.int .i64 (atE ts s))].toArray)
 clear hs w hQ hN hK22 hT21 T21 hT19 T19 hT18 T18 hT17 T17 hT12 T12 hK11 hK9 hK8 hK6 hK5 hK1
 first | (have e := at_bad (s := s) (by simpa using h9); rw [e.1, e.2] <;> rfl) | (have e := at_out h9 h14; rw [e.1, e.2] <;> rfl) | (have e := at_in h9 h14; subst hzm; rw [e.1, e.2] <;> rfl)
set_option maxRecDepth 100000 in
set_option maxHeartbeats 400000 in
theorem rapart1_c (ts : List StretchV) (tsA : Option Addr) (tsC : Nat) (p : SpotV) (q : SpotV) (hlen : ts.length ≤ 1000000) (hside : ∀ x ∈ ts, 0 ≤ x.Side ∧ x.Side ≤ 255) (hord : ¬ q.Stretch < p.Stretch) :
    FnV Try.prog 107 [(Value.agg (TrackV.cells (TrackV.mk (Slc.mk tsA ts.length tsC))).toArray), (Value.agg (SpotV.cells p).toArray), (Value.agg (SpotV.cells q).toArray)] [(rd tsA ts.length 9 (ts.map StretchV.cells))] (Value.tuple [(Value.agg (SpanV.cells (apartV ts p q)).toArray), (Value.int .i64 (apartE ts p q))].toArray) := by
 refine fnV_of go107 Try.func107 rfl rfl fun w0 Q hQ hN => ?_
 try dsimp only
 refine WS fun _ hK1 => ?_
 refine BXA rfl fun b2 => ?_
 refine BXA rfl fun b3 => ?_
 refine BXA rfl fun b4 => ?_
 refine AL rfl tz34 fun b5 => ?_
 refine rS (AG rfl) ?_
 refine RK hK1 ?_
 refine w_seq fun _ hK6 => ?_
 refine WS fun _ hK7 => ?_
 refine rS (LW 3 rfl tk24 rfl rfl) ?_
 refine rS (CL (track_c ts tsA tsC hlen) (ha_at 4 rfl rfl <| ha_nil) rfl) ?_
 refine rS (NT rfl) ?_
 refine RK hK7 ?_
 refine w_if rfl (fun h14 => ?_) (fun h14 => ?_)
 · rw [Bool.not_eq_true'] at h14
   refine WS fun _ hK8 => ?_
   refine rS (SX (sd_build (xs := []) (cs := (SpanV.cells (SpanV.mk 0 0))) rfl rfl (built_of tb34 rfl)) rfl rfl) ?_
   refine SW0 rfl ts34 rfl ?_
   refine rS (AG rfl) ?_
   refine RK hK8 ?_
   refine w_ret ?_
   refine hQ _ _ _ (l_nil (vs := [(Value.agg (SpanV.cells (SpanV.mk 0 0)).toArray), (Value.int .i64 10)]) ⟨⟨_, rfl, .inl ⟨_, _, tk34, at_blk (vs := (SpanV.cells (SpanV.mk 0 0))) 0 rfl rfl, rfl, rfl⟩⟩, rfl, trivial⟩ fun w hs => endV ?_ hs)
   show (Value.tuple [(Value.agg (SpanV.cells (SpanV.mk 0 0)).toArray), (Value.int .i64 10)].toArray) = (Value.tuple [(Value.agg (SpanV.cells (apartV ts p q)).toArray), (Value.int .i64 (apartE ts p q))].toArray)
   clear hs w hQ hN hK8 hK7 hK6 hK1
   first | (have e := apart_bad (a := p) (b := q) (by simpa using h14); rw [e.1, e.2] <;> rfl) | (have e := apart_in h14 hq1; rw [e.1, e.2, apart_straight h31] <;> rfl) | (have e := apart_in h14 hq1; have e2 := apart_in h14 ⟨h25, h20⟩; rw [e.1, e.2, e2.2, apart_swap h31] <;> rfl) | (have e := apart_out (a := p) (b := q) h14 (fun h => by first | exact h20 h.1 | exact h25 h.2); rw [e.1, e.2] <;> rfl)
 rw [Bool.not_eq_false'] at h14
 refine WK hK6 ?_
 refine w_seq fun _ hK9 => ?_
 refine WS fun _ hK10 => ?_
 have hst := trackOk_all h14
 have hl12 := trackOk_le h14
 refine rS (LW 3 rfl tk24 rfl rfl) ?_
 refine rS (LW 2 rfl tk53 rfl rfl) ?_
 refine rS (CL (rspot_c ts tsA tsC p (by first | assumption | omega | (simp; done) | (simp; omega)) (by first | assumption | omega | (simp; done) | (simp; omega))) (ha_at 4 rfl rfl <| ha_nil) rfl) ?_
 refine rS (NT rfl) ?_
 refine rS (MV rfl) ?_
 refine r_bool (t := 20) rfl (fun h20 => ?_) (fun h20 => ?_)
 · replace h20 := XT h20
   refine rS (OX rfl) ?_
   refine rS (OX rfl) ?_
   refine rS (OX rfl) ?_
   refine rS (OX rfl) ?_
   refine rS (PK rfl) ?_
   refine RK hK10 ?_
   refine w_if_true rfl ?_
   refine WS fun _ hK11 => ?_
   refine rS (SX (sd_build (xs := []) (cs := (SpanV.cells (SpanV.mk 0 0))) rfl rfl (built_of tb34 rfl)) rfl rfl) ?_
   refine SW0 rfl ts34 rfl ?_
   refine rS (AG rfl) ?_
   refine RK hK11 ?_
   refine w_ret ?_
   refine hQ _ _ _ (l_nil (vs := [(Value.agg (SpanV.cells (SpanV.mk 0 0)).toArray), (Value.int .i64 12)]) ⟨⟨_, rfl, .inl ⟨_, _, tk34, at_blk (vs := (SpanV.cells (SpanV.mk 0 0))) 0 rfl rfl, rfl, rfl⟩⟩, rfl, trivial⟩ fun w hs => endV ?_ hs)
   show (Value.tuple [(Value.agg (SpanV.cells (SpanV.mk 0 0)).toArray), (Value.int .i64 12)].toArray) = (Value.tuple [(Value.agg (SpanV.cells (apartV ts p q)).toArray), (Value.int .i64 (apartE ts p q))].toArray)
   clear hs w hQ hN hK11 hK10 hK9 hK7 hK6 hK1
   first | (have e := apart_bad (a := p) (b := q) (by simpa using h14); rw [e.1, e.2] <;> rfl) | (have e := apart_in h14 hq1; rw [e.1, e.2, apart_straight h31] <;> rfl) | (have e := apart_in h14 hq1; have e2 := apart_in h14 ⟨h25, h20⟩; rw [e.1, e.2, e2.2, apart_swap h31] <;> rfl) | (have e := apart_out (a := p) (b := q) h14 (fun h => by first | exact h20 h.1 | exact h25 h.2); rw [e.1, e.2] <;> rfl)
 replace h20 := XF h20
 refine rS (LW 3 rfl tk24 rfl rfl) ?_
 refine rS (LW 1 rfl tk53 rfl rfl) ?_
 refine rS (CL (rspot_c ts tsA tsC q (by first | assumption | omega | (simp; done) | (simp; omega)) (by first | assumption | omega | (simp; done) | (simp; omega))) (ha_at 4 rfl rfl <| ha_nil) rfl) ?_
 refine rS (NT rfl) ?_
 refine rS (PK rfl) ?_
 refine RK hK10 ?_
 refine w_if rfl (fun h25 => ?_) (fun h25 => ?_)
 · replace h25 := XT h25
   refine WS fun _ hK12 => ?_
   refine rS (SX (sd_build (xs := []) (cs := (SpanV.cells (SpanV.mk 0 0))) rfl rfl (built_of tb34 rfl)) rfl rfl) ?_
   refine SW0 rfl ts34 rfl ?_
   refine rS (AG rfl) ?_
   refine RK hK12 ?_
   refine w_ret ?_
   refine hQ _ _ _ (l_nil (vs := [(Value.agg (SpanV.cells (SpanV.mk 0 0)).toArray), (Value.int .i64 12)]) ⟨⟨_, rfl, .inl ⟨_, _, tk34, at_blk (vs := (SpanV.cells (SpanV.mk 0 0))) 0 rfl rfl, rfl, rfl⟩⟩, rfl, trivial⟩ fun w hs => endV ?_ hs)
   show (Value.tuple [(Value.agg (SpanV.cells (SpanV.mk 0 0)).toArray), (Value.int .i64 12)].toArray) = (Value.tuple [(Value.agg (SpanV.cells (apartV ts p q)).toArray), (Value.int .i64 (apartE ts p q))].toArray)
   clear hs w hQ hN hK12 hK10 hK9 hK7 hK6 hK1
   first | (have e := apart_bad (a := p) (b := q) (by simpa using h14); rw [e.1, e.2] <;> rfl) | (have e := apart_in h14 hq1; rw [e.1, e.2, apart_straight h31] <;> rfl) | (have e := apart_in h14 hq1; have e2 := apart_in h14 ⟨h25, h20⟩; rw [e.1, e.2, e2.2, apart_swap h31] <;> rfl) | (have e := apart_out (a := p) (b := q) h14 (fun h => by first | exact h20 h.1 | exact h25 h.2); rw [e.1, e.2] <;> rfl)
 replace h25 := XF h25
 refine WK hK9 ?_
 refine w_seq fun _ hK13 => ?_
 refine WS fun _ hK14 => ?_
 have hq1 : SpotOk ts p ∧ SpotOk ts q := ⟨h20, h25⟩
 have hpo := off_in hst h20
 have hqo := off_in hst h25
 have hpb := h20.1
 have hqb := h25.1
 have hab := apartF_b hst hl12 h25 h20
 unfold In12 at hpo hqo
 refine rS (FA 0 rfl fo53_0 rfl) ?_
 refine rS (L1 (Value.int .i64 q.Stretch) 1 rfl tk3 rfl rfl) ?_
 refine rS (FA 0 rfl fo53_0 rfl) ?_
 refine rS (L1 (Value.int .i64 p.Stretch) 2 rfl tk3 rfl rfl) ?_
 refine rS (BI rfl b_lss) ?_
 refine RK hK14 ?_
 refine w_if rfl (fun h31 => ?_) (fun h31 => ?_)
 · replace h31 := DT h31
   exfalso; omega
 replace h31 := DF h31
 refine WK hK13 ?_
 refine WS fun _ hK15 => ?_
 refine rS (LW 3 rfl tk24 rfl rfl) ?_
 refine rS (FA 0 rfl fo53_0 rfl) ?_
 have hlb := longF_b hst p.Stretch.toNat (q.Stretch - p.Stretch).toNat
 refine rS (L1 (Value.int .i64 p.Stretch) 2 rfl tk3 rfl rfl) ?_
 refine rS (FA 0 rfl fo53_0 rfl) ?_
 refine rS (L1 (Value.int .i64 q.Stretch) 1 rfl tk3 rfl rfl) ?_
 refine rS (CL (rdrop_c ts tsA tsC p.Stretch q.Stretch (by first | assumption | omega | (simp; done) | (simp; omega)) (by first | assumption | omega | (simp; done) | (simp; omega)) (by omega)) (ha_at 4 rfl rfl <| ha_nil) rfl) ?_
 refine rS (MV rfl) ?_
 refine rS (EX rfl) ?_
 refine rS (EX rfl) ?_
 refine AL rfl tz34 fun b16 => ?_
 refine AL rfl tz34 fun b17 => ?_
 refine SW1 rfl ts34 rfl ?_
 refine SW0 rfl ts34 rfl ?_
 refine RK hK15 ?_
 refine WS fun _ hK18 => ?_
 refine rS (FA 0 rfl fo34_0 rfl) ?_
 refine rS (L1 (Value.int .i64 ((longF ts p.Stretch.toNat (q.Stretch - p.Stretch).toNat).Lo)) 1 rfl tk3 rfl rfl) ?_
 refine rS (FA 1 rfl fo53_1 rfl) ?_
 refine rS (FA 1 rfl fo34_0 rfl) ?_
 refine rS (L1 (Value.int .i64 q.Off.Lo) 3 rfl tk3 rfl rfl) ?_
 refine rS (BI rfl (b_add ⟨by omega, by omega⟩)) ?_
 refine rS (FA 1 rfl fo53_1 rfl) ?_
 refine rS (FA 2 rfl fo34_1 rfl) ?_
 refine rS (L1 (Value.int .i64 p.Off.Hi) 4 rfl tk3 rfl rfl) ?_
 refine rS (BI rfl (b_sub ⟨by omega, by omega⟩)) ?_
 refine rS (FA 1 rfl fo34_1 rfl) ?_
 refine rS (L1 (Value.int .i64 ((longF ts p.Stretch.toNat (q.Stretch - p.Stretch).toNat).Hi)) 1 rfl tk3 rfl rfl) ?_
 refine rS (FA 1 rfl fo53_1 rfl) ?_
 refine rS (FA 2 rfl fo34_1 rfl) ?_
 refine rS (L1 (Value.int .i64 q.Off.Hi) 3 rfl tk3 rfl rfl) ?_
 refine rS (BI rfl (b_add ⟨by omega, by omega⟩)) ?_
 refine rS (FA 1 rfl fo53_1 rfl) ?_
 refine rS (FA 1 rfl fo34_0 rfl) ?_
 refine rS (L1 (Value.int .i64 p.Off.Lo) 4 rfl tk3 rfl rfl) ?_
 refine rS (BI rfl (b_sub ⟨by omega, by omega⟩)) ?_
 refine rS (SX (sd_build (xs := [(0, .tmp 64), (1, .tmp 74)]) (cs := (SpanV.cells (SpanV.mk ((((longF ts p.Stretch.toNat (q.Stretch - p.Stretch).toNat).Lo) + q.Off.Lo) - p.Off.Hi) ((((longF ts p.Stretch.toNat (q.Stretch - p.Stretch).toNat).Hi) + q.Off.Hi) - p.Off.Lo)))) rfl rfl (built_of tb34 rfl)) rfl rfl) ?_
 refine SW2 rfl ts34 rfl ?_
 refine rS (AG rfl) ?_
 refine RK hK18 ?_
 refine w_ret ?_
 refine hQ _ _ _ (l_nil (vs := [(Value.agg (SpanV.cells (SpanV.mk ((((longF ts p.Stretch.toNat (q.Stretch - p.Stretch).toNat).Lo) + q.Off.Lo) - p.Off.Hi) ((((longF ts p.Stretch.toNat (q.Stretch - p.Stretch).toNat).Hi) + q.Off.Hi) - p.Off.Lo))).toArray), (Value.int .i64 0)]) ⟨⟨_, rfl, .inl ⟨_, _, tk34, at_blk (vs := (SpanV.cells (SpanV.mk ((((longF ts p.Stretch.toNat (q.Stretch - p.Stretch).toNat).Lo) + q.Off.Lo) - p.Off.Hi) ((((longF ts p.Stretch.toNat (q.Stretch - p.Stretch).toNat).Hi) + q.Off.Hi) - p.Off.Lo)))) 2 rfl rfl, rfl, rfl⟩⟩, rfl, trivial⟩ fun w hs => endV ?_ hs)
 show (Value.tuple [(Value.agg (SpanV.cells (SpanV.mk ((((longF ts p.Stretch.toNat (q.Stretch - p.Stretch).toNat).Lo) + q.Off.Lo) - p.Off.Hi) ((((longF ts p.Stretch.toNat (q.Stretch - p.Stretch).toNat).Hi) + q.Off.Hi) - p.Off.Lo))).toArray), (Value.int .i64 0)].toArray) = (Value.tuple [(Value.agg (SpanV.cells (apartV ts p q)).toArray), (Value.int .i64 (apartE ts p q))].toArray)
 clear hs w hQ hN hK18 hK15 hK14 hK13 hK10 hK9 hK7 hK6 hK1
 first | (have e := apart_bad (a := p) (b := q) (by simpa using h14); rw [e.1, e.2] <;> rfl) | (have e := apart_in h14 hq1; rw [e.1, e.2, apart_straight h31] <;> rfl) | (have e := apart_in h14 hq1; have e2 := apart_in h14 ⟨h25, h20⟩; rw [e.1, e.2, e2.2, apart_swap h31] <;> rfl) | (have e := apart_out (a := p) (b := q) h14 (fun h => by first | exact h20 h.1 | exact h25 h.2); rw [e.1, e.2] <;> rfl)
set_option maxRecDepth 100000 in
set_option maxHeartbeats 400000 in
theorem rapart_c (ts : List StretchV) (tsA : Option Addr) (tsC : Nat) (p : SpotV) (q : SpotV) (hlen : ts.length ≤ 1000000) (hside : ∀ x ∈ ts, 0 ≤ x.Side ∧ x.Side ≤ 255) :
    FnV Try.prog 107 [(Value.agg (TrackV.cells (TrackV.mk (Slc.mk tsA ts.length tsC))).toArray), (Value.agg (SpotV.cells p).toArray), (Value.agg (SpotV.cells q).toArray)] [(rd tsA ts.length 9 (ts.map StretchV.cells))] (Value.tuple [(Value.agg (SpanV.cells (apartV ts p q)).toArray), (Value.int .i64 (apartE ts p q))].toArray) := by
 refine fnV_of go107 Try.func107 rfl rfl fun w0 Q hQ hN => ?_
 try dsimp only
 refine WS fun _ hK1 => ?_
 refine BXA rfl fun b2 => ?_
 refine BXA rfl fun b3 => ?_
 refine BXA rfl fun b4 => ?_
 refine AL rfl tz34 fun b5 => ?_
 refine rS (AG rfl) ?_
 refine RK hK1 ?_
 refine w_seq fun _ hK6 => ?_
 refine WS fun _ hK7 => ?_
 refine rS (LW 3 rfl tk24 rfl rfl) ?_
 refine rS (CL (track_c ts tsA tsC hlen) (ha_at 4 rfl rfl <| ha_nil) rfl) ?_
 refine rS (NT rfl) ?_
 refine RK hK7 ?_
 refine w_if rfl (fun h14 => ?_) (fun h14 => ?_)
 · rw [Bool.not_eq_true'] at h14
   refine WS fun _ hK8 => ?_
   refine rS (SX (sd_build (xs := []) (cs := (SpanV.cells (SpanV.mk 0 0))) rfl rfl (built_of tb34 rfl)) rfl rfl) ?_
   refine SW0 rfl ts34 rfl ?_
   refine rS (AG rfl) ?_
   refine RK hK8 ?_
   refine w_ret ?_
   refine hQ _ _ _ (l_nil (vs := [(Value.agg (SpanV.cells (SpanV.mk 0 0)).toArray), (Value.int .i64 10)]) ⟨⟨_, rfl, .inl ⟨_, _, tk34, at_blk (vs := (SpanV.cells (SpanV.mk 0 0))) 0 rfl rfl, rfl, rfl⟩⟩, rfl, trivial⟩ fun w hs => endV ?_ hs)
   show (Value.tuple [(Value.agg (SpanV.cells (SpanV.mk 0 0)).toArray), (Value.int .i64 10)].toArray) = (Value.tuple [(Value.agg (SpanV.cells (apartV ts p q)).toArray), (Value.int .i64 (apartE ts p q))].toArray)
   clear hs w hQ hN hK8 hK7 hK6 hK1
   first | (have e := apart_bad (a := p) (b := q) (by simpa using h14); rw [e.1, e.2] <;> rfl) | (have e := apart_in h14 hq1; rw [e.1, e.2, apart_straight h31] <;> rfl) | (have e := apart_in h14 hq1; have e2 := apart_in h14 ⟨h25, h20⟩; rw [e.1, e.2, e2.2, apart_swap h31] <;> rfl) | (have e := apart_out (a := p) (b := q) h14 (fun h => by first | exact h20 h.1 | exact h25 h.2); rw [e.1, e.2] <;> rfl)
 rw [Bool.not_eq_false'] at h14
 refine WK hK6 ?_
 refine w_seq fun _ hK9 => ?_
 refine WS fun _ hK10 => ?_
 have hst := trackOk_all h14
 have hl12 := trackOk_le h14
 refine rS (LW 3 rfl tk24 rfl rfl) ?_
 refine rS (LW 2 rfl tk53 rfl rfl) ?_
 refine rS (CL (rspot_c ts tsA tsC p (by first | assumption | omega | (simp; done) | (simp; omega)) (by first | assumption | omega | (simp; done) | (simp; omega))) (ha_at 4 rfl rfl <| ha_nil) rfl) ?_
 refine rS (NT rfl) ?_
 refine rS (MV rfl) ?_
 refine r_bool (t := 20) rfl (fun h20 => ?_) (fun h20 => ?_)
 · replace h20 := XT h20
   refine rS (OX rfl) ?_
   refine rS (OX rfl) ?_
   refine rS (OX rfl) ?_
   refine rS (OX rfl) ?_
   refine rS (PK rfl) ?_
   refine RK hK10 ?_
   refine w_if_true rfl ?_
   refine WS fun _ hK11 => ?_
   refine rS (SX (sd_build (xs := []) (cs := (SpanV.cells (SpanV.mk 0 0))) rfl rfl (built_of tb34 rfl)) rfl rfl) ?_
   refine SW0 rfl ts34 rfl ?_
   refine rS (AG rfl) ?_
   refine RK hK11 ?_
   refine w_ret ?_
   refine hQ _ _ _ (l_nil (vs := [(Value.agg (SpanV.cells (SpanV.mk 0 0)).toArray), (Value.int .i64 12)]) ⟨⟨_, rfl, .inl ⟨_, _, tk34, at_blk (vs := (SpanV.cells (SpanV.mk 0 0))) 0 rfl rfl, rfl, rfl⟩⟩, rfl, trivial⟩ fun w hs => endV ?_ hs)
   show (Value.tuple [(Value.agg (SpanV.cells (SpanV.mk 0 0)).toArray), (Value.int .i64 12)].toArray) = (Value.tuple [(Value.agg (SpanV.cells (apartV ts p q)).toArray), (Value.int .i64 (apartE ts p q))].toArray)
   clear hs w hQ hN hK11 hK10 hK9 hK7 hK6 hK1
   first | (have e := apart_bad (a := p) (b := q) (by simpa using h14); rw [e.1, e.2] <;> rfl) | (have e := apart_in h14 hq1; rw [e.1, e.2, apart_straight h31] <;> rfl) | (have e := apart_in h14 hq1; have e2 := apart_in h14 ⟨h25, h20⟩; rw [e.1, e.2, e2.2, apart_swap h31] <;> rfl) | (have e := apart_out (a := p) (b := q) h14 (fun h => by first | exact h20 h.1 | exact h25 h.2); rw [e.1, e.2] <;> rfl)
 replace h20 := XF h20
 refine rS (LW 3 rfl tk24 rfl rfl) ?_
 refine rS (LW 1 rfl tk53 rfl rfl) ?_
 refine rS (CL (rspot_c ts tsA tsC q (by first | assumption | omega | (simp; done) | (simp; omega)) (by first | assumption | omega | (simp; done) | (simp; omega))) (ha_at 4 rfl rfl <| ha_nil) rfl) ?_
 refine rS (NT rfl) ?_
 refine rS (PK rfl) ?_
 refine RK hK10 ?_
 refine w_if rfl (fun h25 => ?_) (fun h25 => ?_)
 · replace h25 := XT h25
   refine WS fun _ hK12 => ?_
   refine rS (SX (sd_build (xs := []) (cs := (SpanV.cells (SpanV.mk 0 0))) rfl rfl (built_of tb34 rfl)) rfl rfl) ?_
   refine SW0 rfl ts34 rfl ?_
   refine rS (AG rfl) ?_
   refine RK hK12 ?_
   refine w_ret ?_
   refine hQ _ _ _ (l_nil (vs := [(Value.agg (SpanV.cells (SpanV.mk 0 0)).toArray), (Value.int .i64 12)]) ⟨⟨_, rfl, .inl ⟨_, _, tk34, at_blk (vs := (SpanV.cells (SpanV.mk 0 0))) 0 rfl rfl, rfl, rfl⟩⟩, rfl, trivial⟩ fun w hs => endV ?_ hs)
   show (Value.tuple [(Value.agg (SpanV.cells (SpanV.mk 0 0)).toArray), (Value.int .i64 12)].toArray) = (Value.tuple [(Value.agg (SpanV.cells (apartV ts p q)).toArray), (Value.int .i64 (apartE ts p q))].toArray)
   clear hs w hQ hN hK12 hK10 hK9 hK7 hK6 hK1
   first | (have e := apart_bad (a := p) (b := q) (by simpa using h14); rw [e.1, e.2] <;> rfl) | (have e := apart_in h14 hq1; rw [e.1, e.2, apart_straight h31] <;> rfl) | (have e := apart_in h14 hq1; have e2 := apart_in h14 ⟨h25, h20⟩; rw [e.1, e.2, e2.2, apart_swap h31] <;> rfl) | (have e := apart_out (a := p) (b := q) h14 (fun h => by first | exact h20 h.1 | exact h25 h.2); rw [e.1, e.2] <;> rfl)
 replace h25 := XF h25
 refine WK hK9 ?_
 refine w_seq fun _ hK13 => ?_
 refine WS fun _ hK14 => ?_
 have hq1 : SpotOk ts p ∧ SpotOk ts q := ⟨h20, h25⟩
 have hpo := off_in hst h20
 have hqo := off_in hst h25
 have hpb := h20.1
 have hqb := h25.1
 have hab := apartF_b hst hl12 h25 h20
 unfold In12 at hpo hqo
 refine rS (FA 0 rfl fo53_0 rfl) ?_
 refine rS (L1 (Value.int .i64 q.Stretch) 1 rfl tk3 rfl rfl) ?_
 refine rS (FA 0 rfl fo53_0 rfl) ?_
 refine rS (L1 (Value.int .i64 p.Stretch) 2 rfl tk3 rfl rfl) ?_
 refine rS (BI rfl b_lss) ?_
 refine RK hK14 ?_
 refine w_if rfl (fun h31 => ?_) (fun h31 => ?_)
 · replace h31 := DT h31
   refine WS fun _ hK15 => ?_
   refine rS (LW 3 rfl tk24 rfl rfl) ?_
   refine rS (LW 1 rfl tk53 rfl rfl) ?_
   refine rS (LW 2 rfl tk53 rfl rfl) ?_
   refine rS (CL (rapart1_c ts tsA tsC q p hlen hside (by first | assumption | omega | (simp; done) | (simp; omega))) (ha_at 4 rfl rfl <| ha_nil) rfl) ?_
   refine rS (MV rfl) ?_
   refine rS (EX rfl) ?_
   refine rS (EX rfl) ?_
   refine AL rfl tz34 fun b16 => ?_
   refine SW0 rfl ts34 rfl ?_
   refine rS (AG rfl) ?_
   refine RK hK15 ?_
   refine WS fun _ hK17 => ?_
   refine rS (FA 1 rfl fo34_1 rfl) ?_
   refine rS (L1 (Value.int .i64 ((apartV ts q p).Hi)) 0 rfl tk3 rfl rfl) ?_
   have hav : apartV ts q p = apartF ts q p := (apart_in h14 ⟨h25, h20⟩).2
   have hav1 : -400000 ≤ (apartV ts q p).Lo ∧ (apartV ts q p).Hi ≤ 400000 := by rw [hav]; omega
   have hav2 : (apartV ts q p).Lo ≤ (apartV ts q p).Hi := by rw [hav]; omega
   refine rS (NG rfl ⟨by omega, by omega⟩) ?_
   refine rS (FA 0 rfl fo34_0 rfl) ?_
   refine rS (L1 (Value.int .i64 ((apartV ts q p).Lo)) 0 rfl tk3 rfl rfl) ?_
   refine rS (NG rfl ⟨by omega, by omega⟩) ?_
   refine rS (SX (sd_build (xs := [(0, .tmp 41), (1, .tmp 44)]) (cs := (SpanV.cells (SpanV.mk (-((apartV ts q p).Hi)) (-((apartV ts q p).Lo))))) rfl rfl (built_of tb34 rfl)) rfl rfl) ?_
   refine SW1 rfl ts34 rfl ?_
   refine rS (AG rfl) ?_
   refine RK hK17 ?_
   refine w_ret ?_
   refine hQ _ _ _ (l_nil (vs := [(Value.agg (SpanV.cells (SpanV.mk (-((apartV ts q p).Hi)) (-((apartV ts q p).Lo)))).toArray), (Value.int .i64 0)]) ⟨⟨_, rfl, .inl ⟨_, _, tk34, at_blk (vs := (SpanV.cells (SpanV.mk (-((apartV ts q p).Hi)) (-((apartV ts q p).Lo))))) 1 rfl rfl, rfl, rfl⟩⟩, rfl, trivial⟩ fun w hs => endV ?_ hs)
   show (Value.tuple [(Value.agg (SpanV.cells (SpanV.mk (-((apartV ts q p).Hi)) (-((apartV ts q p).Lo)))).toArray), (Value.int .i64 0)].toArray) = (Value.tuple [(Value.agg (SpanV.cells (apartV ts p q)).toArray), (Value.int .i64 (apartE ts p q))].toArray)
   clear hs w hQ hN hK17 hK15 hK14 hK13 hK10 hK9 hK7 hK6 hK1
   first | (have e := apart_bad (a := p) (b := q) (by simpa using h14); rw [e.1, e.2] <;> rfl) | (have e := apart_in h14 hq1; rw [e.1, e.2, apart_straight h31] <;> rfl) | (have e := apart_in h14 hq1; have e2 := apart_in h14 ⟨h25, h20⟩; rw [e.1, e.2, e2.2, apart_swap h31] <;> rfl) | (have e := apart_out (a := p) (b := q) h14 (fun h => by first | exact h20 h.1 | exact h25 h.2); rw [e.1, e.2] <;> rfl)
 replace h31 := DF h31
 refine WK hK13 ?_
 refine WS fun _ hK18 => ?_
 refine rS (LW 3 rfl tk24 rfl rfl) ?_
 refine rS (FA 0 rfl fo53_0 rfl) ?_
 have hlb := longF_b hst p.Stretch.toNat (q.Stretch - p.Stretch).toNat
 refine rS (L1 (Value.int .i64 p.Stretch) 2 rfl tk3 rfl rfl) ?_
 refine rS (FA 0 rfl fo53_0 rfl) ?_
 refine rS (L1 (Value.int .i64 q.Stretch) 1 rfl tk3 rfl rfl) ?_
 refine rS (CL (rdrop_c ts tsA tsC p.Stretch q.Stretch (by first | assumption | omega | (simp; done) | (simp; omega)) (by first | assumption | omega | (simp; done) | (simp; omega)) (by omega)) (ha_at 4 rfl rfl <| ha_nil) rfl) ?_
 refine rS (MV rfl) ?_
 refine rS (EX rfl) ?_
 refine rS (EX rfl) ?_
 refine AL rfl tz34 fun b19 => ?_
 refine AL rfl tz34 fun b20 => ?_
 refine SW1 rfl ts34 rfl ?_
 refine SW0 rfl ts34 rfl ?_
 refine RK hK18 ?_
 refine WS fun _ hK21 => ?_
 refine rS (FA 0 rfl fo34_0 rfl) ?_
 refine rS (L1 (Value.int .i64 ((longF ts p.Stretch.toNat (q.Stretch - p.Stretch).toNat).Lo)) 1 rfl tk3 rfl rfl) ?_
 refine rS (FA 1 rfl fo53_1 rfl) ?_
 refine rS (FA 1 rfl fo34_0 rfl) ?_
 refine rS (L1 (Value.int .i64 q.Off.Lo) 3 rfl tk3 rfl rfl) ?_
 refine rS (BI rfl (b_add ⟨by omega, by omega⟩)) ?_
 refine rS (FA 1 rfl fo53_1 rfl) ?_
 refine rS (FA 2 rfl fo34_1 rfl) ?_
 refine rS (L1 (Value.int .i64 p.Off.Hi) 4 rfl tk3 rfl rfl) ?_
 refine rS (BI rfl (b_sub ⟨by omega, by omega⟩)) ?_
 refine rS (FA 1 rfl fo34_1 rfl) ?_
 refine rS (L1 (Value.int .i64 ((longF ts p.Stretch.toNat (q.Stretch - p.Stretch).toNat).Hi)) 1 rfl tk3 rfl rfl) ?_
 refine rS (FA 1 rfl fo53_1 rfl) ?_
 refine rS (FA 2 rfl fo34_1 rfl) ?_
 refine rS (L1 (Value.int .i64 q.Off.Hi) 3 rfl tk3 rfl rfl) ?_
 refine rS (BI rfl (b_add ⟨by omega, by omega⟩)) ?_
 refine rS (FA 1 rfl fo53_1 rfl) ?_
 refine rS (FA 1 rfl fo34_0 rfl) ?_
 refine rS (L1 (Value.int .i64 p.Off.Lo) 4 rfl tk3 rfl rfl) ?_
 refine rS (BI rfl (b_sub ⟨by omega, by omega⟩)) ?_
 refine rS (SX (sd_build (xs := [(0, .tmp 64), (1, .tmp 74)]) (cs := (SpanV.cells (SpanV.mk ((((longF ts p.Stretch.toNat (q.Stretch - p.Stretch).toNat).Lo) + q.Off.Lo) - p.Off.Hi) ((((longF ts p.Stretch.toNat (q.Stretch - p.Stretch).toNat).Hi) + q.Off.Hi) - p.Off.Lo)))) rfl rfl (built_of tb34 rfl)) rfl rfl) ?_
 refine SW2 rfl ts34 rfl ?_
 refine rS (AG rfl) ?_
 refine RK hK21 ?_
 refine w_ret ?_
 refine hQ _ _ _ (l_nil (vs := [(Value.agg (SpanV.cells (SpanV.mk ((((longF ts p.Stretch.toNat (q.Stretch - p.Stretch).toNat).Lo) + q.Off.Lo) - p.Off.Hi) ((((longF ts p.Stretch.toNat (q.Stretch - p.Stretch).toNat).Hi) + q.Off.Hi) - p.Off.Lo))).toArray), (Value.int .i64 0)]) ⟨⟨_, rfl, .inl ⟨_, _, tk34, at_blk (vs := (SpanV.cells (SpanV.mk ((((longF ts p.Stretch.toNat (q.Stretch - p.Stretch).toNat).Lo) + q.Off.Lo) - p.Off.Hi) ((((longF ts p.Stretch.toNat (q.Stretch - p.Stretch).toNat).Hi) + q.Off.Hi) - p.Off.Lo)))) 2 rfl rfl, rfl, rfl⟩⟩, rfl, trivial⟩ fun w hs => endV ?_ hs)
 show (Value.tuple [(Value.agg (SpanV.cells (SpanV.mk ((((longF ts p.Stretch.toNat (q.Stretch - p.Stretch).toNat).Lo) + q.Off.Lo) - p.Off.Hi) ((((longF ts p.Stretch.toNat (q.Stretch - p.Stretch).toNat).Hi) + q.Off.Hi) - p.Off.Lo))).toArray), (Value.int .i64 0)].toArray) = (Value.tuple [(Value.agg (SpanV.cells (apartV ts p q)).toArray), (Value.int .i64 (apartE ts p q))].toArray)
 clear hs w hQ hN hK21 hK18 hK14 hK13 hK10 hK9 hK7 hK6 hK1
 first | (have e := apart_bad (a := p) (b := q) (by simpa using h14); rw [e.1, e.2] <;> rfl) | (have e := apart_in h14 hq1; rw [e.1, e.2, apart_straight h31] <;> rfl) | (have e := apart_in h14 hq1; have e2 := apart_in h14 ⟨h25, h20⟩; rw [e.1, e.2, e2.2, apart_swap h31] <;> rfl) | (have e := apart_out (a := p) (b := q) h14 (fun h => by first | exact h20 h.1 | exact h25 h.2); rw [e.1, e.2] <;> rfl)
end
section
open Go.RowKit
set_option linter.unusedVariables false
set_option maxRecDepth 100000 in
set_option maxHeartbeats 400000 in
theorem lgreat_c (l : LineM) (kA : Option Addr) (kC : Nat) (az : List RA) (cA : Option Addr) (cC : Nat) (bA : Option Addr) (bC : Nat) (hraw : LineRaw l az) :
    FnV Try.prog 11 [(Value.agg (LineV.cells (LineV.mk (TrackV.mk (Slc.mk kA l.Track.length kC)) l.Fast (Slc.mk cA l.Clocks.length cC) (Slc.mk bA l.Beams.length bC) l.Finish l.Fakes l.Misses)).toArray)] [(rd kA l.Track.length 9 (l.Track.map StretchV.cells)), (rd cA l.Clocks.length 2 (List.zipWith ClockM.cells l.Clocks az)), (bun (nest ClockM.rds l.Clocks az)), (rd bA l.Beams.length 4 (l.Beams.map BeamV.cells))] (Value.bool (decide (GreatL l))) := by
 have htk := hraw.trk
 have hck := hraw.cks
 have has := hraw.as_
 have hbm := hraw.bms
 refine fnV_of go11 Try.func11 rfl rfl fun w0 Q hQ hN => ?_
 try dsimp only
 refine WS fun _ hK1 => ?_
 refine BXA rfl fun b2 => ?_
 refine rS (AG rfl) ?_
 refine RK hK1 ?_
 refine w_seq fun _ hK3 => ?_
 refine WS fun _ hK4 => ?_
 refine rS (FA 0 rfl fo28_0 rfl) ?_
 refine rS (LP (TrackV.cells (TrackV.mk (Slc.mk kA l.Track.length kC))) 0 rfl tk24 rfl rfl rfl) ?_
 refine rS (CL (great_c l.Track kA kC) (ha_at 1 rfl rfl <| ha_nil) rfl) ?_
 refine rS (MV rfl) ?_
 refine r_bool (t := 7) rfl (fun h7 => ?_) (fun h7 => ?_)
 · replace h7 := DT h7
   refine rS (OX rfl) ?_
   refine rS (OX rfl) ?_
   refine rS (OX rfl) ?_
   refine rS (OX rfl) ?_
   refine rS (PK rfl) ?_
   refine rS (MV rfl) ?_
   refine rS (OX rfl) ?_
   refine rS (OX rfl) ?_
   refine rS (OX rfl) ?_
   refine rS (OX rfl) ?_
   refine rS (PK rfl) ?_
   refine RK hK4 ?_
   refine w_if_true rfl ?_
   refine WS fun _ hK5 => ?_
   refine rS (AG rfl) ?_
   refine RK hK5 ?_
   refine w_ret ?_
   refine Q1 hQ rfl rfl rfl ?_
   first | exact congrArg Value.bool (decide_eq_true (.inl (by omega))).symm | exact congrArg Value.bool (decide_eq_true (great_at hx h33)).symm | exact congrArg Value.bool (decide_eq_false (great_no (by omega) (by omega) hl0_1)).symm
 replace h7 := DF h7
 refine rS (FA 2 rfl fo28_2 rfl) ?_
 refine rS (L1 (Value.slice cA l.Clocks.length cC) 0 rfl tk25 rfl rfl) ?_
 refine rS (LN rfl ut25) ?_
 refine rS (BI rfl b_gtr) ?_
 refine rS (PK rfl) ?_
 refine rS (MV rfl) ?_
 refine r_bool (t := 13) rfl (fun h13 => ?_) (fun h13 => ?_)
 · replace h13 := DT h13
   refine rS (OX rfl) ?_
   refine rS (OX rfl) ?_
   refine rS (OX rfl) ?_
   refine rS (OX rfl) ?_
   refine rS (PK rfl) ?_
   refine RK hK4 ?_
   refine w_if_true rfl ?_
   refine WS fun _ hK6 => ?_
   refine rS (AG rfl) ?_
   refine RK hK6 ?_
   refine w_ret ?_
   refine Q1 hQ rfl rfl rfl ?_
   first | exact congrArg Value.bool (decide_eq_true (.inl (by omega))).symm | exact congrArg Value.bool (decide_eq_true (great_at hx h33)).symm | exact congrArg Value.bool (decide_eq_false (great_no (by omega) (by omega) hl0_1)).symm
 replace h13 := DF h13
 refine rS (FA 3 rfl fo28_3 rfl) ?_
 refine rS (L1 (Value.slice bA l.Beams.length bC) 0 rfl tk26 rfl rfl) ?_
 refine rS (LN rfl ut26) ?_
 refine rS (BI rfl b_gtr) ?_
 refine rS (PK rfl) ?_
 refine RK hK4 ?_
 refine w_if rfl (fun h18 => ?_) (fun h18 => ?_)
 · replace h18 := DT h18
   refine WS fun _ hK7 => ?_
   refine rS (AG rfl) ?_
   refine RK hK7 ?_
   refine w_ret ?_
   refine Q1 hQ rfl rfl rfl ?_
   first | exact congrArg Value.bool (decide_eq_true (.inl (by omega))).symm | exact congrArg Value.bool (decide_eq_true (great_at hx h33)).symm | exact congrArg Value.bool (decide_eq_false (great_no (by omega) (by omega) hl0_1)).symm
 replace h18 := DF h18
 refine WK hK3 ?_
 refine w_seq fun _ hK8 => ?_
 refine WS fun _ hK9 => ?_
 refine rS (AG rfl) ?_
 refine RK hK9 ?_
 refine w_block ?_
 have hinit : (0 ≤ l.Clocks.length) ∧ (SyncsTo l 0) := by exact ⟨Nat.zero_le _, fun j c hj => absurd hj (Nat.not_lt_zero _)⟩
 refine w_loop (ι := { z : Nat // (z ≤ l.Clocks.length) ∧ (SyncsTo l z) }) (fun z => [(1, (Value.pointer (some ⟨b2, 0, none⟩))), (3, (Value.int .i64 ((z.1 : Nat) : Int)))]) (fun z => [(blk b2 28 (LineV.cells (LineV.mk (TrackV.mk (Slc.mk kA l.Track.length kC)) l.Fast (Slc.mk cA l.Clocks.length cC) (Slc.mk bA l.Beams.length bC) l.Finish l.Fakes l.Misses))), (rd kA l.Track.length 9 (l.Track.map StretchV.cells)).ro, (rd cA l.Clocks.length 2 (List.zipWith ClockM.cells l.Clocks az)).ro, (bun (nest ClockM.rds l.Clocks az)).ro, (rd bA l.Beams.length 4 (l.Beams.map BeamV.cells)).ro]) (fun z => l.Clocks.length - z.1) ⟨0, hinit⟩ (Sub.cons rfl <| Sub.cons rfl <| Sub.nil _) (fun w hs => St.sel [0, 1, 2, 3, 4] rfl rfl hs) ?_
 clear hinit
 rintro ⟨i, ⟨hl0_0, hl0_1⟩⟩ J10 hJ10
 try dsimp only
 refine w_seq fun _ hK11 => ?_
 refine WS fun _ hK12 => ?_
 refine rS (MV rfl) ?_
 refine rS (FA 2 rfl fo28_2 rfl) ?_
 refine rS (L1 (Value.slice cA l.Clocks.length cC) 0 rfl tk25 rfl rfl) ?_
 refine rS (LN rfl ut25) ?_
 refine rS (BI rfl b_lss) ?_
 refine RK hK12 ?_
 refine w_if rfl (fun h13 => ?_) (fun h13 => ?_)
 rotate_left 1
 · replace h13 := DF h13
   refine w_exit ?_
   refine k_exit_then ?_
   refine k_exit_then ?_
   refine k_exit_same ?_
   refine KK hK8 ?_
   refine WS fun _ hK18 => ?_
   refine rS (AG rfl) ?_
   refine RK hK18 ?_
   refine w_ret ?_
   refine Q1 hQ rfl rfl rfl ?_
   first | exact congrArg Value.bool (decide_eq_true (.inl (by omega))).symm | exact congrArg Value.bool (decide_eq_true (great_at hx h33)).symm | exact congrArg Value.bool (decide_eq_false (great_no (by omega) (by omega) hl0_1)).symm
 replace h13 := DT h13
 refine WK hK11 ?_
 refine w_seq fun _ hK14 => ?_
 refine w_block ?_
 refine WS fun _ hK15 => ?_
 refine rS (FA 2 rfl fo28_2 rfl) ?_
 refine rS (L1 (Value.slice cA l.Clocks.length cC) 0 rfl tk25 rfl rfl) ?_
 refine rS (MV rfl) ?_
 obtain ⟨x, hx⟩ : ∃ y_, l.Clocks[i]? = some y_ := ⟨l.Clocks[i]'(by omega), List.getElem?_eq_getElem _⟩
 obtain ⟨xa, hxa⟩ : ∃ y_, az[i]? = some y_ := ⟨az[i]'(by omega), List.getElem?_eq_getElem _⟩
 have hxm : (List.zipWith ClockM.cells l.Clocks az)[i]? = some (ClockM.cells x xa) := zip_get hx hxa
 refine rS (IA i rfl (has_at 2 rfl) te25 (by decide) (by omega) (by omega)) ?_
 refine rS (FAR ((i * 2) + 1) rfl (has_at 2 rfl) (Nat.mul_pos (by omega) (by decide)) fo64_1 rfl) ?_
 refine rS (LE1 i 1 (Value.slice xa.1 x.Syncs.length xa.2) rfl tk62 (has_at 2 rfl) hxm rfl (by decide) rfl) ?_
 refine rS (LN rfl ut62) ?_
 refine rS (BI rfl b_gtr) ?_
 refine RK hK15 ?_
 refine w_if rfl (fun h33 => ?_) (fun h33 => ?_)
 · replace h33 := DT h33
   refine WS fun _ hK16 => ?_
   refine rS (AG rfl) ?_
   refine RK hK16 ?_
   refine w_ret ?_
   refine Q1 hQ rfl rfl rfl ?_
   first | exact congrArg Value.bool (decide_eq_true (.inl (by omega))).symm | exact congrArg Value.bool (decide_eq_true (great_at hx h33)).symm | exact congrArg Value.bool (decide_eq_false (great_no (by omega) (by omega) hl0_1)).symm
 replace h33 := DF h33
 refine w_skip ?_
 refine k_block ?_
 refine KK hK14 ?_
 refine w_region ?_
 refine rS (MV rfl) ?_
 refine rS (BI rfl (b_add ⟨by omega, by omega⟩)) ?_
 refine rS (AG rfl) ?_
 refine r_nil ?_
 have hb17 : (Value.int .i64 (((i + 1) : Nat) : Int)) = (Value.int .i64 (((i : Nat) : Int) + 1)) := by exact congrArg (Value.int .i64) (by omega)
 refine k_then (hJ10 ⟨(i + 1), ⟨by omega, upto_succ hl0_1 hx (by omega)⟩⟩ _ _ _ rfl (by first | omega | (simp; omega)) (Sub.cons rfl <| sub_val rfl hb17 <| Sub.nil _) (fun w hs => St.sel [0, 1, 2, 3, 4] rfl rfl hs))
set_option maxRecDepth 100000 in
set_option maxHeartbeats 400000 in
theorem drifts_c (d : Int) (m : Int) (hd : 0 ≤ d ∧ d ≤ 1000) (hm : 0 ≤ m ∧ m ≤ 90000000) :
    FnV Try.prog 25 [(Value.int .i64 d), (Value.int .i64 m)] [] (Value.int .i64 (upD (d * m) 1000000)) := by
 have hdm := mulb (a := d) (b := m) (A := 1000) (B := 90000000) hd.1 hd.2 hm.1 hm.2
 refine fnV_of go25 Try.func25 rfl rfl fun w0 Q hQ hN => ?_
 try dsimp only
 refine WS fun _ hK1 => ?_
 refine rS (AG rfl) ?_
 refine RK hK1 ?_
 refine WS fun _ hK2 => ?_
 refine rS (MV rfl) ?_
 refine rS (MV rfl) ?_
 refine rS (BI rfl (b_mul ⟨by omega, by omega⟩)) ?_
 refine rS (AG rfl) ?_
 refine RK hK2 ?_
 refine w_seq fun _ hK3 => ?_
 refine WS fun _ hK4 => ?_
 refine rS (MV rfl) ?_
 refine rS (BI rfl (b_rem (by omega) (by omega))) ?_
 refine rS (BI rfl b_gtr) ?_
 refine RK hK4 ?_
 refine w_if rfl (fun h5 => ?_) (fun h5 => ?_)
 rotate_left 1
 · replace h5 := DF h5
   refine WK hK3 ?_
   refine WS fun _ hK7 => ?_
   refine rS (MV rfl) ?_
   refine rS (BI rfl (b_quo (by omega) (by omega) (by omega))) ?_
   refine rS (AG rfl) ?_
   refine RK hK7 ?_
   refine w_ret ?_
   refine Q1 hQ rfl rfl rfl ?_
   exact congrArg (Value.int .i64) (by unfold upD; omega)
 replace h5 := DT h5
 refine WS fun _ hK6 => ?_
 refine rS (MV rfl) ?_
 refine rS (BI rfl (b_quo (by omega) (by omega) (by omega))) ?_
 refine rS (BI rfl (b_add ⟨by omega, by omega⟩)) ?_
 refine rS (AG rfl) ?_
 refine RK hK6 ?_
 refine w_ret ?_
 refine Q1 hQ rfl rfl rfl ?_
 exact congrArg (Value.int .i64) (by unfold upD; omega)
set_option maxRecDepth 100000 in
set_option maxHeartbeats 400000 in
theorem rclock_c (c : ClockM) (sA : Option Addr) (sC : Nat) (hlen : c.Syncs.length ≤ 1000000) :
    FnV Try.prog 92 [(Value.agg (ClockV.cells (ClockV.mk c.Drift (Slc.mk sA c.Syncs.length sC))).toArray)] [(rd sA c.Syncs.length 3 (c.Syncs.map SyncV.cells))] (Value.bool (decide (ClockOk c))) := by
 refine fnV_of go92 Try.func92 rfl rfl fun w0 Q hQ hN => ?_
 try dsimp only
 refine WS fun _ hK1 => ?_
 refine BXA rfl fun b2 => ?_
 refine rS (AG rfl) ?_
 refine RK hK1 ?_
 refine w_seq fun _ hK3 => ?_
 refine WS fun _ hK4 => ?_
 refine rS (FA 0 rfl fo64_0 rfl) ?_
 refine rS (L1 (Value.int .i64 c.Drift) 0 rfl tk3 rfl rfl) ?_
 refine rS (CL (within_5 c.Drift 0 1000) (ha_nil) rfl) ?_
 refine rS (NT rfl) ?_
 refine rS (MV rfl) ?_
 refine r_bool (t := 14) rfl (fun h14 => ?_) (fun h14 => ?_)
 · replace h14 := XT h14
   refine rS (OX rfl) ?_
   refine rS (OX rfl) ?_
   refine rS (OX rfl) ?_
   refine rS (OX rfl) ?_
   refine rS (OX rfl) ?_
   refine rS (PK rfl) ?_
   refine RK hK4 ?_
   refine w_if_true rfl ?_
   refine WS fun _ hK5 => ?_
   refine rS (AG rfl) ?_
   refine RK hK5 ?_
   refine w_ret ?_
   refine Q1 hQ rfl rfl rfl ?_
   first | exact congrArg Value.bool (decide_eq_false fun h => by have q1 := h.drift; have q2 := h.len; omega).symm | exact congrArg Value.bool (decide_eq_false fun h => by have q := h.sync i x hx; unfold SyncOk at q; first | (rw [prevAt_zero (by omega)] at q; omega) | (rw [prevAt_pos (by omega) hy] at q; omega) | omega).symm | exact congrArg Value.bool (decide_eq_false fun h => by have q := h.pair m k y x hy (by omega) hx; unfold PairOk at q; omega).symm | exact congrArg Value.bool (decide_eq_true (clock_ok (by omega) (by omega) (upto_all (by omega) hl4_1) (by omega) hl10_1)).symm
 replace h14 := XF h14
 refine rS (FA 1 rfl fo64_1 rfl) ?_
 refine rS (L1 (Value.slice sA c.Syncs.length sC) 0 rfl tk62 rfl rfl) ?_
 refine rS (LN rfl ut62) ?_
 refine rS (CL (within_5 ((c.Syncs.length : Nat) : Int) 1 5) (ha_nil) rfl) ?_
 refine rS (NT rfl) ?_
 refine rS (PK rfl) ?_
 refine RK hK4 ?_
 refine w_if rfl (fun h20 => ?_) (fun h20 => ?_)
 · replace h20 := XT h20
   refine WS fun _ hK6 => ?_
   refine rS (AG rfl) ?_
   refine RK hK6 ?_
   refine w_ret ?_
   refine Q1 hQ rfl rfl rfl ?_
   first | exact congrArg Value.bool (decide_eq_false fun h => by have q1 := h.drift; have q2 := h.len; omega).symm | exact congrArg Value.bool (decide_eq_false fun h => by have q := h.sync i x hx; unfold SyncOk at q; first | (rw [prevAt_zero (by omega)] at q; omega) | (rw [prevAt_pos (by omega) hy] at q; omega) | omega).symm | exact congrArg Value.bool (decide_eq_false fun h => by have q := h.pair m k y x hy (by omega) hx; unfold PairOk at q; omega).symm | exact congrArg Value.bool (decide_eq_true (clock_ok (by omega) (by omega) (upto_all (by omega) hl4_1) (by omega) hl10_1)).symm
 replace h20 := XF h20
 refine WK hK3 ?_
 refine w_seq fun _ hK7 => ?_
 refine WS fun _ hK8 => ?_
 refine rS (AG rfl) ?_
 refine RK hK8 ?_
 refine w_block ?_
 have hinit : (0 ≤ c.Syncs.length) ∧ (∀ (j : Nat) y, j < 0 → c.Syncs[j]? = some y → SyncOk c j y) := by exact ⟨Nat.zero_le _, fun j y hj => absurd hj (Nat.not_lt_zero _)⟩
 refine w_loop (ι := { z : Nat // (z ≤ c.Syncs.length) ∧ (∀ (j : Nat) y, j < z → c.Syncs[j]? = some y → SyncOk c j y) }) (fun z => [(1, (Value.pointer (some ⟨b2, 0, none⟩))), (3, (Value.int .i64 ((z.1 : Nat) : Int)))]) (fun z => [(blk b2 64 (ClockV.cells (ClockV.mk c.Drift (Slc.mk sA c.Syncs.length sC)))), (rd sA c.Syncs.length 3 (c.Syncs.map SyncV.cells)).ro]) (fun z => c.Syncs.length - z.1) ⟨0, hinit⟩ (Sub.cons rfl <| Sub.cons rfl <| Sub.nil _) (fun w hs => St.sel [0, 1] rfl rfl hs) ?_
 clear hinit
 rintro ⟨i, ⟨hl4_0, hl4_1⟩⟩ J9 hJ9
 try dsimp only
 have hpv := prev_s hl4_0 hl4_1
 refine w_seq fun _ hK10 => ?_
 refine WS fun _ hK11 => ?_
 refine rS (MV rfl) ?_
 refine rS (FA 1 rfl fo64_1 rfl) ?_
 refine rS (L1 (Value.slice sA c.Syncs.length sC) 0 rfl tk62 rfl rfl) ?_
 refine rS (LN rfl ut62) ?_
 refine rS (BI rfl b_lss) ?_
 refine RK hK11 ?_
 refine w_if rfl (fun h25 => ?_) (fun h25 => ?_)
 · replace h25 := DT h25
   refine WK hK10 ?_
   refine w_seq fun _ hK12 => ?_
   refine w_block ?_
   refine WS fun _ hK13 => ?_
   refine rS (FA 1 rfl fo64_1 rfl) ?_
   refine rS (L1 (Value.slice sA c.Syncs.length sC) 0 rfl tk62 rfl rfl) ?_
   refine rS (MV rfl) ?_
   obtain ⟨x, hx⟩ : ∃ y_, c.Syncs[i]? = some y_ := ⟨c.Syncs[i]'(by omega), List.getElem?_eq_getElem _⟩
   have hxm : (c.Syncs.map SyncV.cells)[i]? = some (SyncV.cells x) := by rw [List.getElem?_map, hx]; rfl
   refine rS (IA i rfl (has_at 1 rfl) te62 (by decide) (by omega) (by omega)) ?_
   refine rS (LEN i 0 (SyncV.cells x) rfl tk61 (has_at 1 rfl) hxm rfl (by decide) rfl rfl) ?_
   refine AL rfl tz61 fun b14 => ?_
   refine SW0 rfl ts61 rfl ?_
   refine RK hK13 ?_
   refine w_seq fun _ hK15 => ?_
   refine w_draw mixed 41 (by kernel_rfl) ?_
   refine dS (FA 0 rfl fo61_0 rfl) ?_
   refine dS (L1 (Value.int .i64 x.At) 0 rfl tk3 rfl rfl) ?_
   refine dS (CL (within_5 x.At 0 86400000) (ha_nil) rfl) ?_
   refine dS (NT rfl) ?_
   refine dS (MV rfl) ?_
   refine d_bool (t := 37) rfl (fun h37 => ?_) (fun h37 => ?_)
   · replace h37 := XT h37
     refine dS (OX rfl) ?_
     refine dS (OX rfl) ?_
     refine dS (OX rfl) ?_
     refine dS (OX rfl) ?_
     refine dS (OX rfl) ?_
     refine dS (OX rfl) ?_
     refine dS (OX rfl) ?_
     refine dS (OX rfl) ?_
     refine dS (OX rfl) ?_
     refine dS (OX rfl) ?_
     refine dS (OX rfl) ?_
     refine dS (OX rfl) ?_
     refine dS (OX rfl) ?_
     refine dS (OX rfl) ?_
     refine dS (PK rfl) ?_
     refine dS (MV rfl) ?_
     refine dS (OX rfl) ?_
     refine dS (OX rfl) ?_
     refine dS (OX rfl) ?_
     refine dS (OX rfl) ?_
     refine dS (PK rfl) ?_
     refine dS (MV rfl) ?_
     refine dS (OX rfl) ?_
     refine dS (OX rfl) ?_
     refine dS (OX rfl) ?_
     refine dS (OX rfl) ?_
     refine dS (OX rfl) ?_
     refine dS (OX rfl) ?_
     refine dS (OX rfl) ?_
     refine dS (PK rfl) ?_
     refine dS (MV rfl) ?_
     refine dS (OX rfl) ?_
     refine dS (OX rfl) ?_
     refine dS (OX rfl) ?_
     refine dS (OX rfl) ?_
     refine dS (PK rfl) ?_
     refine d_end ?_
     refine RK hK15 ?_
     refine w_if_true rfl ?_
     refine WS fun _ hK16 => ?_
     refine rS (AG rfl) ?_
     refine RK hK16 ?_
     refine w_ret ?_
     refine Q1 hQ rfl rfl rfl ?_
     first | exact congrArg Value.bool (decide_eq_false fun h => by have q1 := h.drift; have q2 := h.len; omega).symm | exact congrArg Value.bool (decide_eq_false fun h => by have q := h.sync i x hx; unfold SyncOk at q; first | (rw [prevAt_zero (by omega)] at q; omega) | (rw [prevAt_pos (by omega) hy] at q; omega) | omega).symm | exact congrArg Value.bool (decide_eq_false fun h => by have q := h.pair m k y x hy (by omega) hx; unfold PairOk at q; omega).symm | exact congrArg Value.bool (decide_eq_true (clock_ok (by omega) (by omega) (upto_all (by omega) hl4_1) (by omega) hl10_1)).symm
   replace h37 := XF h37
   refine dS (MV rfl) ?_
   refine dS (BI rfl b_gtr) ?_
   refine dS (MV rfl) ?_
   refine d_bool (t := 40) rfl (fun h40 => ?_) (fun h40 => ?_)
   rotate_left 1
   · replace h40 := DF h40
     refine dS (OX rfl) ?_
     refine dS (OX rfl) ?_
     refine dS (OX rfl) ?_
     refine dS (OX rfl) ?_
     refine dS (OX rfl) ?_
     refine dS (OX rfl) ?_
     refine dS (OX rfl) ?_
     refine dS (OX rfl) ?_
     refine dS (OX rfl) ?_
     refine dS (OX rfl) ?_
     refine dS (PK rfl) ?_
     refine dS (PK rfl) ?_
     refine dS (MV rfl) ?_
     refine dS (FA 1 rfl fo61_1 rfl) ?_
     refine dS (FA 1 rfl fo34_0 rfl) ?_
     refine dS (L1 (Value.int .i64 x.Ahead.Lo) 0 rfl tk3 rfl rfl) ?_
     refine dS (BI rfl b_lss) ?_
     refine dS (PK rfl) ?_
     refine dS (MV rfl) ?_
     refine d_bool (t := 59) rfl (fun h59 => ?_) (fun h59 => ?_)
     · replace h59 := DT h59
       refine dS (OX rfl) ?_
       refine dS (OX rfl) ?_
       refine dS (OX rfl) ?_
       refine dS (OX rfl) ?_
       refine dS (OX rfl) ?_
       refine dS (OX rfl) ?_
       refine dS (OX rfl) ?_
       refine dS (PK rfl) ?_
       refine dS (MV rfl) ?_
       refine dS (OX rfl) ?_
       refine dS (OX rfl) ?_
       refine dS (OX rfl) ?_
       refine dS (OX rfl) ?_
       refine dS (PK rfl) ?_
       refine d_end ?_
       refine RK hK15 ?_
       refine w_if_true rfl ?_
       refine WS fun _ hK22 => ?_
       refine rS (AG rfl) ?_
       refine RK hK22 ?_
       refine w_ret ?_
       refine Q1 hQ rfl rfl rfl ?_
       first | exact congrArg Value.bool (decide_eq_false fun h => by have q1 := h.drift; have q2 := h.len; omega).symm | exact congrArg Value.bool (decide_eq_false fun h => by have q := h.sync i x hx; unfold SyncOk at q; first | (rw [prevAt_zero (by omega)] at q; omega) | (rw [prevAt_pos (by omega) hy] at q; omega) | omega).symm | exact congrArg Value.bool (decide_eq_false fun h => by have q := h.pair m k y x hy (by omega) hx; unfold PairOk at q; omega).symm | exact congrArg Value.bool (decide_eq_true (clock_ok (by omega) (by omega) (upto_all (by omega) hl4_1) (by omega) hl10_1)).symm
     replace h59 := DF h59
     refine dS (FA 1 rfl fo61_1 rfl) ?_
     refine dS (FA 1 rfl fo34_0 rfl) ?_
     refine dS (L1 (Value.int .i64 x.Ahead.Lo) 0 rfl tk3 rfl rfl) ?_
     refine dS (FA 1 rfl fo61_1 rfl) ?_
     refine dS (FA 2 rfl fo34_1 rfl) ?_
     refine dS (L1 (Value.int .i64 x.Ahead.Hi) 0 rfl tk3 rfl rfl) ?_
     refine dS (BI rfl b_gtr) ?_
     refine dS (PK rfl) ?_
     refine dS (MV rfl) ?_
     refine d_bool (t := 68) rfl (fun h68 => ?_) (fun h68 => ?_)
     · replace h68 := DT h68
       refine dS (OX rfl) ?_
       refine dS (OX rfl) ?_
       refine dS (OX rfl) ?_
       refine dS (OX rfl) ?_
       refine dS (PK rfl) ?_
       refine d_end ?_
       refine RK hK15 ?_
       refine w_if_true rfl ?_
       refine WS fun _ hK23 => ?_
       refine rS (AG rfl) ?_
       refine RK hK23 ?_
       refine w_ret ?_
       refine Q1 hQ rfl rfl rfl ?_
       first | exact congrArg Value.bool (decide_eq_false fun h => by have q1 := h.drift; have q2 := h.len; omega).symm | exact congrArg Value.bool (decide_eq_false fun h => by have q := h.sync i x hx; unfold SyncOk at q; first | (rw [prevAt_zero (by omega)] at q; omega) | (rw [prevAt_pos (by omega) hy] at q; omega) | omega).symm | exact congrArg Value.bool (decide_eq_false fun h => by have q := h.pair m k y x hy (by omega) hx; unfold PairOk at q; omega).symm | exact congrArg Value.bool (decide_eq_true (clock_ok (by omega) (by omega) (upto_all (by omega) hl4_1) (by omega) hl10_1)).symm
     replace h68 := DF h68
     refine dS (FA 1 rfl fo61_1 rfl) ?_
     refine dS (FA 2 rfl fo34_1 rfl) ?_
     refine dS (L1 (Value.int .i64 x.Ahead.Hi) 0 rfl tk3 rfl rfl) ?_
     refine dS (BI rfl b_gtr) ?_
     refine dS (PK rfl) ?_
     refine d_end ?_
     refine RK hK15 ?_
     refine w_if rfl (fun h73 => ?_) (fun h73 => ?_)
     rotate_left 1
     · replace h73 := DF h73
       refine w_skip ?_
       refine k_block ?_
       refine KK hK12 ?_
       refine w_region ?_
       refine rS (MV rfl) ?_
       refine rS (BI rfl (b_add ⟨by omega, by omega⟩)) ?_
       refine rS (AG rfl) ?_
       refine r_nil ?_
       have hb25 : (Value.int .i64 (((i + 1) : Nat) : Int)) = (Value.int .i64 (((i : Nat) : Int) + 1)) := by exact congrArg (Value.int .i64) (by omega)
       refine k_then (hJ9 ⟨(i + 1), ⟨by omega, upto_succ hl4_1 hx (by unfold SyncOk; first | (rw [prevAt_zero (by omega)]; omega) | (rw [prevAt_pos (by omega) hy]; omega))⟩⟩ _ _ _ rfl (by first | omega | (simp; omega)) (Sub.cons rfl <| sub_val rfl hb25 <| Sub.nil _) (fun w hs => St.sel [1, 2] rfl rfl hs))
     replace h73 := DT h73
     refine WS fun _ hK24 => ?_
     refine rS (AG rfl) ?_
     refine RK hK24 ?_
     refine w_ret ?_
     refine Q1 hQ rfl rfl rfl ?_
     first | exact congrArg Value.bool (decide_eq_false fun h => by have q1 := h.drift; have q2 := h.len; omega).symm | exact congrArg Value.bool (decide_eq_false fun h => by have q := h.sync i x hx; unfold SyncOk at q; first | (rw [prevAt_zero (by omega)] at q; omega) | (rw [prevAt_pos (by omega) hy] at q; omega) | omega).symm | exact congrArg Value.bool (decide_eq_false fun h => by have q := h.pair m k y x hy (by omega) hx; unfold PairOk at q; omega).symm | exact congrArg Value.bool (decide_eq_true (clock_ok (by omega) (by omega) (upto_all (by omega) hl4_1) (by omega) hl10_1)).symm
   replace h40 := DT h40
   refine dS (FA 0 rfl fo61_0 rfl) ?_
   refine dS (L1 (Value.int .i64 x.At) 0 rfl tk3 rfl rfl) ?_
   refine dS (FA 1 rfl fo64_1 rfl) ?_
   refine dS (L1 (Value.slice sA c.Syncs.length sC) 1 rfl tk62 rfl rfl) ?_
   refine dS (MV rfl) ?_
   refine dS (BI rfl (b_sub ⟨by omega, by omega⟩)) ?_
   obtain ⟨y, hy⟩ : ∃ y_, c.Syncs[(i - 1)]? = some y_ := ⟨c.Syncs[(i - 1)]'(by omega), List.getElem?_eq_getElem _⟩
   have hym : (c.Syncs.map SyncV.cells)[(i - 1)]? = some (SyncV.cells y) := by rw [List.getElem?_map, hy]; rfl
   refine dS (IA (i - 1) rfl (has_at 2 rfl) te62 (by decide) (by omega) (by omega)) ?_
   refine dS (FAR ((i - 1) * 3) rfl (has_at 2 rfl) (Nat.mul_pos (by omega) (by decide)) fo61_0 rfl) ?_
   refine dS (LE1 (i - 1) 0 (Value.int .i64 y.At) rfl tk3 (has_at 2 rfl) hym rfl (by decide) rfl) ?_
   refine dS (BI rfl b_leq) ?_
   refine dS (PK rfl) ?_
   refine dS (PK rfl) ?_
   refine dS (MV rfl) ?_
   refine d_bool (t := 53) rfl (fun h53 => ?_) (fun h53 => ?_)
   · replace h53 := DT h53
     refine dS (OX rfl) ?_
     refine dS (OX rfl) ?_
     refine dS (OX rfl) ?_
     refine dS (OX rfl) ?_
     refine dS (PK rfl) ?_
     refine dS (MV rfl) ?_
     refine dS (OX rfl) ?_
     refine dS (OX rfl) ?_
     refine dS (OX rfl) ?_
     refine dS (OX rfl) ?_
     refine dS (OX rfl) ?_
     refine dS (OX rfl) ?_
     refine dS (OX rfl) ?_
     refine dS (PK rfl) ?_
     refine dS (MV rfl) ?_
     refine dS (OX rfl) ?_
     refine dS (OX rfl) ?_
     refine dS (OX rfl) ?_
     refine dS (OX rfl) ?_
     refine dS (PK rfl) ?_
     refine d_end ?_
     refine RK hK15 ?_
     refine w_if_true rfl ?_
     refine WS fun _ hK17 => ?_
     refine rS (AG rfl) ?_
     refine RK hK17 ?_
     refine w_ret ?_
     refine Q1 hQ rfl rfl rfl ?_
     first | exact congrArg Value.bool (decide_eq_false fun h => by have q1 := h.drift; have q2 := h.len; omega).symm | exact congrArg Value.bool (decide_eq_false fun h => by have q := h.sync i x hx; unfold SyncOk at q; first | (rw [prevAt_zero (by omega)] at q; omega) | (rw [prevAt_pos (by omega) hy] at q; omega) | omega).symm | exact congrArg Value.bool (decide_eq_false fun h => by have q := h.pair m k y x hy (by omega) hx; unfold PairOk at q; omega).symm | exact congrArg Value.bool (decide_eq_true (clock_ok (by omega) (by omega) (upto_all (by omega) hl4_1) (by omega) hl10_1)).symm
   replace h53 := DF h53
   refine dS (FA 1 rfl fo61_1 rfl) ?_
   refine dS (FA 1 rfl fo34_0 rfl) ?_
   refine dS (L1 (Value.int .i64 x.Ahead.Lo) 0 rfl tk3 rfl rfl) ?_
   refine dS (BI rfl b_lss) ?_
   refine dS (PK rfl) ?_
   refine dS (MV rfl) ?_
   refine d_bool (t := 59) rfl (fun h59 => ?_) (fun h59 => ?_)
   · replace h59 := DT h59
     refine dS (OX rfl) ?_
     refine dS (OX rfl) ?_
     refine dS (OX rfl) ?_
     refine dS (OX rfl) ?_
     refine dS (OX rfl) ?_
     refine dS (OX rfl) ?_
     refine dS (OX rfl) ?_
     refine dS (PK rfl) ?_
     refine dS (MV rfl) ?_
     refine dS (OX rfl) ?_
     refine dS (OX rfl) ?_
     refine dS (OX rfl) ?_
     refine dS (OX rfl) ?_
     refine dS (PK rfl) ?_
     refine d_end ?_
     refine RK hK15 ?_
     refine w_if_true rfl ?_
     refine WS fun _ hK18 => ?_
     refine rS (AG rfl) ?_
     refine RK hK18 ?_
     refine w_ret ?_
     refine Q1 hQ rfl rfl rfl ?_
     first | exact congrArg Value.bool (decide_eq_false fun h => by have q1 := h.drift; have q2 := h.len; omega).symm | exact congrArg Value.bool (decide_eq_false fun h => by have q := h.sync i x hx; unfold SyncOk at q; first | (rw [prevAt_zero (by omega)] at q; omega) | (rw [prevAt_pos (by omega) hy] at q; omega) | omega).symm | exact congrArg Value.bool (decide_eq_false fun h => by have q := h.pair m k y x hy (by omega) hx; unfold PairOk at q; omega).symm | exact congrArg Value.bool (decide_eq_true (clock_ok (by omega) (by omega) (upto_all (by omega) hl4_1) (by omega) hl10_1)).symm
   replace h59 := DF h59
   refine dS (FA 1 rfl fo61_1 rfl) ?_
   refine dS (FA 1 rfl fo34_0 rfl) ?_
   refine dS (L1 (Value.int .i64 x.Ahead.Lo) 0 rfl tk3 rfl rfl) ?_
   refine dS (FA 1 rfl fo61_1 rfl) ?_
   refine dS (FA 2 rfl fo34_1 rfl) ?_
   refine dS (L1 (Value.int .i64 x.Ahead.Hi) 0 rfl tk3 rfl rfl) ?_
   refine dS (BI rfl b_gtr) ?_
   refine dS (PK rfl) ?_
   refine dS (MV rfl) ?_
   refine d_bool (t := 68) rfl (fun h68 => ?_) (fun h68 => ?_)
   · replace h68 := DT h68
     refine dS (OX rfl) ?_
     refine dS (OX rfl) ?_
     refine dS (OX rfl) ?_
     refine dS (OX rfl) ?_
     refine dS (PK rfl) ?_
     refine d_end ?_
     refine RK hK15 ?_
     refine w_if_true rfl ?_
     refine WS fun _ hK19 => ?_
     refine rS (AG rfl) ?_
     refine RK hK19 ?_
     refine w_ret ?_
     refine Q1 hQ rfl rfl rfl ?_
     first | exact congrArg Value.bool (decide_eq_false fun h => by have q1 := h.drift; have q2 := h.len; omega).symm | exact congrArg Value.bool (decide_eq_false fun h => by have q := h.sync i x hx; unfold SyncOk at q; first | (rw [prevAt_zero (by omega)] at q; omega) | (rw [prevAt_pos (by omega) hy] at q; omega) | omega).symm | exact congrArg Value.bool (decide_eq_false fun h => by have q := h.pair m k y x hy (by omega) hx; unfold PairOk at q; omega).symm | exact congrArg Value.bool (decide_eq_true (clock_ok (by omega) (by omega) (upto_all (by omega) hl4_1) (by omega) hl10_1)).symm
   replace h68 := DF h68
   refine dS (FA 1 rfl fo61_1 rfl) ?_
   refine dS (FA 2 rfl fo34_1 rfl) ?_
   refine dS (L1 (Value.int .i64 x.Ahead.Hi) 0 rfl tk3 rfl rfl) ?_
   refine dS (BI rfl b_gtr) ?_
   refine dS (PK rfl) ?_
   refine d_end ?_
   refine RK hK15 ?_
   refine w_if rfl (fun h73 => ?_) (fun h73 => ?_)
   rotate_left 1
   · replace h73 := DF h73
     refine w_skip ?_
     refine k_block ?_
     refine KK hK12 ?_
     refine w_region ?_
     refine rS (MV rfl) ?_
     refine rS (BI rfl (b_add ⟨by omega, by omega⟩)) ?_
     refine rS (AG rfl) ?_
     refine r_nil ?_
     have hb21 : (Value.int .i64 (((i + 1) : Nat) : Int)) = (Value.int .i64 (((i : Nat) : Int) + 1)) := by exact congrArg (Value.int .i64) (by omega)
     refine k_then (hJ9 ⟨(i + 1), ⟨by omega, upto_succ hl4_1 hx (by unfold SyncOk; first | (rw [prevAt_zero (by omega)]; omega) | (rw [prevAt_pos (by omega) hy]; omega))⟩⟩ _ _ _ rfl (by first | omega | (simp; omega)) (Sub.cons rfl <| sub_val rfl hb21 <| Sub.nil _) (fun w hs => St.sel [1, 2] rfl rfl hs))
   replace h73 := DT h73
   refine WS fun _ hK20 => ?_
   refine rS (AG rfl) ?_
   refine RK hK20 ?_
   refine w_ret ?_
   refine Q1 hQ rfl rfl rfl ?_
   first | exact congrArg Value.bool (decide_eq_false fun h => by have q1 := h.drift; have q2 := h.len; omega).symm | exact congrArg Value.bool (decide_eq_false fun h => by have q := h.sync i x hx; unfold SyncOk at q; first | (rw [prevAt_zero (by omega)] at q; omega) | (rw [prevAt_pos (by omega) hy] at q; omega) | omega).symm | exact congrArg Value.bool (decide_eq_false fun h => by have q := h.pair m k y x hy (by omega) hx; unfold PairOk at q; omega).symm | exact congrArg Value.bool (decide_eq_true (clock_ok (by omega) (by omega) (upto_all (by omega) hl4_1) (by omega) hl10_1)).symm
 replace h25 := DF h25
 refine w_exit ?_
 refine k_exit_then ?_
 refine k_exit_then ?_
 refine k_exit_same ?_
 refine KK hK7 ?_
 refine w_seq fun _ hK26 => ?_
 refine WS fun _ hK27 => ?_
 refine rS (AG rfl) ?_
 refine RK hK27 ?_
 refine w_block ?_
 have hinit : (0 ≤ c.Syncs.length) ∧ (PairsOk c 0) := by exact ⟨Nat.zero_le _, fun j y hj => absurd hj (Nat.not_lt_zero _)⟩
 refine w_loop (ι := { z : Nat // (z ≤ c.Syncs.length) ∧ (PairsOk c z) }) (fun z => [(1, (Value.pointer (some ⟨b2, 0, none⟩))), (5, (Value.int .i64 ((z.1 : Nat) : Int)))]) (fun z => [(blk b2 64 (ClockV.cells (ClockV.mk c.Drift (Slc.mk sA c.Syncs.length sC)))), (rd sA c.Syncs.length 3 (c.Syncs.map SyncV.cells)).ro]) (fun z => c.Syncs.length - z.1) ⟨0, hinit⟩ (Sub.cons rfl <| Sub.cons rfl <| Sub.nil _) (fun w hs => St.sel [0, 1] rfl rfl hs) ?_
 clear hinit
 rintro ⟨m, ⟨hl10_0, hl10_1⟩⟩ J28 hJ28
 try dsimp only
 have hall := upto_all (P := SyncOk c) (by omega) hl4_1
 refine w_seq fun _ hK29 => ?_
 refine WS fun _ hK30 => ?_
 refine rS (MV rfl) ?_
 refine rS (FA 1 rfl fo64_1 rfl) ?_
 refine rS (L1 (Value.slice sA c.Syncs.length sC) 0 rfl tk62 rfl rfl) ?_
 refine rS (LN rfl ut62) ?_
 refine rS (BI rfl b_lss) ?_
 refine RK hK30 ?_
 refine w_if rfl (fun h78 => ?_) (fun h78 => ?_)
 rotate_left 1
 · replace h78 := DF h78
   refine w_exit ?_
   refine k_exit_then ?_
   refine k_exit_then ?_
   refine k_exit_same ?_
   refine KK hK26 ?_
   refine WS fun _ hK61 => ?_
   refine rS (AG rfl) ?_
   refine RK hK61 ?_
   refine w_ret ?_
   refine Q1 hQ rfl rfl rfl ?_
   first | exact congrArg Value.bool (decide_eq_false fun h => by have q1 := h.drift; have q2 := h.len; omega).symm | exact congrArg Value.bool (decide_eq_false fun h => by have q := h.sync i x hx; unfold SyncOk at q; first | (rw [prevAt_zero (by omega)] at q; omega) | (rw [prevAt_pos (by omega) hy] at q; omega) | omega).symm | exact congrArg Value.bool (decide_eq_false fun h => by have q := h.pair m k y x hy (by omega) hx; unfold PairOk at q; omega).symm | exact congrArg Value.bool (decide_eq_true (clock_ok (by omega) (by omega) (upto_all (by omega) hl4_1) (by omega) hl10_1)).symm
 replace h78 := DT h78
 refine WK hK29 ?_
 refine w_seq fun _ hK31 => ?_
 refine w_block ?_
 refine WS fun _ hK32 => ?_
 refine rS (AG rfl) ?_
 refine RK hK32 ?_
 refine w_block ?_
 have hinit : (0 ≤ m) ∧ (∀ y, c.Syncs[m]? = some y → PairK c y 0) := by exact ⟨Nat.zero_le _, fun y _ j o hj => absurd hj (Nat.not_lt_zero _)⟩
 refine w_loop (ι := { z : Nat // (z ≤ m) ∧ (∀ y, c.Syncs[m]? = some y → PairK c y z) }) (fun z => [(1, (Value.pointer (some ⟨b2, 0, none⟩))), (5, (Value.int .i64 ((m : Nat) : Int))), (6, (Value.int .i64 ((z.1 : Nat) : Int)))]) (fun z => [(blk b2 64 (ClockV.cells (ClockV.mk c.Drift (Slc.mk sA c.Syncs.length sC)))), (rd sA c.Syncs.length 3 (c.Syncs.map SyncV.cells)).ro]) (fun z => m - z.1) ⟨0, hinit⟩ (Sub.cons rfl <| Sub.cons rfl <| Sub.cons rfl <| Sub.nil _) (fun w hs => St.sel [0, 1] rfl rfl hs) ?_
 clear hinit
 rintro ⟨k, ⟨hl13_0, hl13_1⟩⟩ J33 hJ33
 try dsimp only
 refine w_seq fun _ hK34 => ?_
 refine WS fun _ hK35 => ?_
 refine rS (MV rfl) ?_
 refine rS (MV rfl) ?_
 refine rS (BI rfl b_lss) ?_
 refine RK hK35 ?_
 refine w_if rfl (fun h83 => ?_) (fun h83 => ?_)
 rotate_left 1
 · replace h83 := DF h83
   refine w_exit ?_
   refine k_exit_then ?_
   refine k_exit_then ?_
   refine k_exit_same ?_
   refine k_block ?_
   refine KK hK31 ?_
   refine w_region ?_
   refine rS (MV rfl) ?_
   refine rS (BI rfl (b_add ⟨by omega, by omega⟩)) ?_
   refine rS (AG rfl) ?_
   refine r_nil ?_
   have hb60 : (Value.int .i64 (((m + 1) : Nat) : Int)) = (Value.int .i64 (((m : Nat) : Int) + 1)) := by exact congrArg (Value.int .i64) (by omega)
   refine k_then (hJ28 ⟨(m + 1), ⟨by omega, pairs_succ hl10_1 hl13_1 (by omega)⟩⟩ _ _ _ rfl (by first | omega | (simp; omega)) (Sub.cons rfl <| sub_val rfl hb60 <| Sub.nil _) (fun w hs => St.sel [0, 1] rfl rfl hs))
 replace h83 := DT h83
 refine WK hK34 ?_
 refine w_seq fun _ hK36 => ?_
 refine w_block ?_
 refine w_seq fun _ hK37 => ?_
 refine w_drawN mixed [0, 1, 2, 3, 4, 5, 6, 7, 8, 9] [10, 11, 12, 13] [false, false, false, false, false, false, false, false, false, false] [] [(blk b2 64 (ClockV.cells (ClockV.mk c.Drift (Slc.mk sA c.Syncs.length sC)))), (rd sA c.Syncs.length 3 (c.Syncs.map SyncV.cells)).ro] [] (by kernel_rfl) (fun w hs => St.sel [0, 1] rfl rfl hs) (fun w hs => St.sel [] rfl rfl hs) ?_
 refine eS rfl (FA 1 rfl fo64_1 rfl) ?_
 refine eS rfl (L1 (Value.slice sA c.Syncs.length sC) 0 rfl tk62 rfl rfl) ?_
 refine eS rfl (MV rfl) ?_
 obtain ⟨x, hx⟩ : ∃ y_, c.Syncs[k]? = some y_ := ⟨c.Syncs[k]'(by omega), List.getElem?_eq_getElem _⟩
 have hxm : (c.Syncs.map SyncV.cells)[k]? = some (SyncV.cells x) := by rw [List.getElem?_map, hx]; rfl
 refine eS rfl (IA k rfl (has_at 1 rfl) te62 (by decide) (by omega) (by omega)) ?_
 refine eS rfl (LEN k 0 (SyncV.cells x) rfl tk61 (has_at 1 rfl) hxm rfl (by decide) rfl rfl) ?_
 refine eS rfl (FA 1 rfl fo64_1 rfl) ?_
 refine eS rfl (L1 (Value.slice sA c.Syncs.length sC) 0 rfl tk62 rfl rfl) ?_
 refine eS rfl (MV rfl) ?_
 obtain ⟨y, hy⟩ : ∃ y_, c.Syncs[m]? = some y_ := ⟨c.Syncs[m]'(by omega), List.getElem?_eq_getElem _⟩
 have hym : (c.Syncs.map SyncV.cells)[m]? = some (SyncV.cells y) := by rw [List.getElem?_map, hy]; rfl
 refine eS rfl (IA m rfl (has_at 1 rfl) te62 (by decide) (by omega) (by omega)) ?_
 refine eS rfl (LEN m 0 (SyncV.cells y) rfl tk61 (has_at 1 rfl) hym rfl (by decide) rfl rfl) ?_
 refine d_fin rfl ?_
 refine n_step [10, 11] (by kernel_rfl) (n_cons ?_ <| n_cons ?_ <| n_nil)
 rotate_left 1
 · refine n_op (rem' := [10, 12, 13]) rfl (by kernel_rfl) rfl fun T49 hT49 => ?_
   refine AL rfl tz61 fun b50 => ?_
   refine r_nil (hT49 _ _ (fun w hs => St.sel [1, 2] rfl rfl hs) ?_)
   refine n_step [10] (by kernel_rfl) (n_cons ?_ <| n_nil)
   refine n_op (rem' := [12, 13]) rfl (by kernel_rfl) rfl fun T51 hT51 => ?_
   refine AL rfl tz61 fun b52 => ?_
   refine r_nil (hT51 _ _ (fun w hs => St.sel [2, 3] rfl rfl hs) ?_)
   refine n_step [12] (by kernel_rfl) (n_cons ?_ <| n_nil)
   refine n_op (rem' := [13]) rfl (by kernel_rfl) rfl fun T53 hT53 => ?_
   refine SW0 rfl ts61 rfl ?_
   refine r_nil (hT53 _ _ (fun w hs => St.sel [2, 3] rfl rfl hs) ?_)
   refine n_step [13] (by kernel_rfl) (n_cons ?_ <| n_nil)
   refine n_op (rem' := []) rfl (by kernel_rfl) rfl fun T54 hT54 => ?_
   refine SW1 rfl ts61 rfl ?_
   refine r_nil (hT54 _ _ (fun w hs => St.sel [2, 3] rfl rfl hs) ?_)
   refine n_fin ?_
   refine KK hK37 ?_
   refine WS fun _ hK55 => ?_
   refine rS (FA 0 rfl fo64_0 rfl) ?_
   refine rS (L1 (Value.int .i64 c.Drift) 2 rfl tk3 rfl rfl) ?_
   refine rS (FA 0 rfl fo61_0 rfl) ?_
   refine rS (L1 (Value.int .i64 y.At) 1 rfl tk3 rfl rfl) ?_
   refine rS (FA 0 rfl fo61_0 rfl) ?_
   refine rS (L1 (Value.int .i64 x.At) 0 rfl tk3 rfl rfl) ?_
   obtain ⟨hq1, hq2, hq3⟩ := sync_pair (fun j z _ hz => hall j z hz) hy (hall _ _ hy) (show k < m by omega) hx
   refine rS (BI rfl (b_sub ⟨by omega, by omega⟩)) ?_
   refine rS (CL (drifts_c c.Drift (y.At - x.At) (by omega) (by first | assumption | omega | (simp; done) | (simp; omega))) (ha_nil) rfl) ?_
   refine rS (AG rfl) ?_
   refine RK hK55 ?_
   refine WS fun _ hK56 => ?_
   refine rS (FA 1 rfl fo61_1 rfl) ?_
   refine rS (FA 1 rfl fo34_0 rfl) ?_
   refine rS (L1 (Value.int .i64 x.Ahead.Lo) 0 rfl tk3 rfl rfl) ?_
   refine rS (FA 1 rfl fo61_1 rfl) ?_
   refine rS (FA 2 rfl fo34_1 rfl) ?_
   refine rS (L1 (Value.int .i64 y.Ahead.Hi) 1 rfl tk3 rfl rfl) ?_
   refine rS (BI rfl (b_sub ⟨by omega, by omega⟩)) ?_
   refine rS (MV rfl) ?_
   refine rS (BI rfl b_gtr) ?_
   refine rS (MV rfl) ?_
   refine r_bool (t := 113) rfl (fun h113 => ?_) (fun h113 => ?_)
   · replace h113 := DT h113
     refine rS (OX rfl) ?_
     refine rS (OX rfl) ?_
     refine rS (OX rfl) ?_
     refine rS (OX rfl) ?_
     refine rS (OX rfl) ?_
     refine rS (OX rfl) ?_
     refine rS (OX rfl) ?_
     refine rS (OX rfl) ?_
     refine rS (OX rfl) ?_
     refine rS (PK rfl) ?_
     refine RK hK56 ?_
     refine w_if_true rfl ?_
     refine WS fun _ hK57 => ?_
     refine rS (AG rfl) ?_
     refine RK hK57 ?_
     refine w_ret ?_
     refine Q1 hQ rfl rfl rfl ?_
     first | exact congrArg Value.bool (decide_eq_false fun h => by have q1 := h.drift; have q2 := h.len; omega).symm | exact congrArg Value.bool (decide_eq_false fun h => by have q := h.sync i x hx; unfold SyncOk at q; first | (rw [prevAt_zero (by omega)] at q; omega) | (rw [prevAt_pos (by omega) hy] at q; omega) | omega).symm | exact congrArg Value.bool (decide_eq_false fun h => by have q := h.pair m k y x hy (by omega) hx; unfold PairOk at q; omega).symm | exact congrArg Value.bool (decide_eq_true (clock_ok (by omega) (by omega) (upto_all (by omega) hl4_1) (by omega) hl10_1)).symm
   replace h113 := DF h113
   refine rS (FA 1 rfl fo61_1 rfl) ?_
   refine rS (FA 1 rfl fo34_0 rfl) ?_
   refine rS (L1 (Value.int .i64 y.Ahead.Lo) 1 rfl tk3 rfl rfl) ?_
   refine rS (FA 1 rfl fo61_1 rfl) ?_
   refine rS (FA 2 rfl fo34_1 rfl) ?_
   refine rS (L1 (Value.int .i64 x.Ahead.Hi) 0 rfl tk3 rfl rfl) ?_
   refine rS (BI rfl (b_sub ⟨by omega, by omega⟩)) ?_
   refine rS (MV rfl) ?_
   refine rS (BI rfl b_gtr) ?_
   refine rS (PK rfl) ?_
   refine RK hK56 ?_
   refine w_if rfl (fun h123 => ?_) (fun h123 => ?_)
   rotate_left 1
   · replace h123 := DF h123
     refine w_skip ?_
     refine k_block ?_
     refine KK hK36 ?_
     refine w_region ?_
     refine rS (MV rfl) ?_
     refine rS (BI rfl (b_add ⟨by omega, by omega⟩)) ?_
     refine rS (AG rfl) ?_
     refine r_nil ?_
     have hb59 : (Value.int .i64 (((k + 1) : Nat) : Int)) = (Value.int .i64 (((k : Nat) : Int) + 1)) := by exact congrArg (Value.int .i64) (by omega)
     refine k_then (hJ33 ⟨(k + 1), ⟨by omega, fun z hz => by rw [hy] at hz; cases hz; exact upto_succ (hl13_1 _ hy) hx (by unfold PairOk; omega)⟩⟩ _ _ _ rfl (by first | omega | (simp; omega)) (Sub.cons rfl <| Sub.cons rfl <| sub_val rfl hb59 <| Sub.nil _) (fun w hs => St.sel [2, 3] rfl rfl hs))
   replace h123 := DT h123
   refine WS fun _ hK58 => ?_
   refine rS (AG rfl) ?_
   refine RK hK58 ?_
   refine w_ret ?_
   refine Q1 hQ rfl rfl rfl ?_
   first | exact congrArg Value.bool (decide_eq_false fun h => by have q1 := h.drift; have q2 := h.len; omega).symm | exact congrArg Value.bool (decide_eq_false fun h => by have q := h.sync i x hx; unfold SyncOk at q; first | (rw [prevAt_zero (by omega)] at q; omega) | (rw [prevAt_pos (by omega) hy] at q; omega) | omega).symm | exact congrArg Value.bool (decide_eq_false fun h => by have q := h.pair m k y x hy (by omega) hx; unfold PairOk at q; omega).symm | exact congrArg Value.bool (decide_eq_true (clock_ok (by omega) (by omega) (upto_all (by omega) hl4_1) (by omega) hl10_1)).symm
 refine n_op (rem' := [11, 12, 13]) rfl (by kernel_rfl) rfl fun T38 hT38 => ?_
 refine AL rfl tz61 fun b39 => ?_
 refine r_nil (hT38 _ _ (fun w hs => St.sel [1, 2] rfl rfl hs) ?_)
 refine n_step [11] (by kernel_rfl) (n_cons ?_ <| n_nil)
 refine n_op (rem' := [12, 13]) rfl (by kernel_rfl) rfl fun T40 hT40 => ?_
 refine AL rfl tz61 fun b41 => ?_
 refine r_nil (hT40 _ _ (fun w hs => St.sel [2, 3] rfl rfl hs) ?_)
 refine n_step [12] (by kernel_rfl) (n_cons ?_ <| n_nil)
 refine n_op (rem' := [13]) rfl (by kernel_rfl) rfl fun T42 hT42 => ?_
 refine SW1 rfl ts61 rfl ?_
 refine r_nil (hT42 _ _ (fun w hs => St.sel [2, 3] rfl rfl hs) ?_)
 refine n_step [13] (by kernel_rfl) (n_cons ?_ <| n_nil)
 refine n_op (rem' := []) rfl (by kernel_rfl) rfl fun T43 hT43 => ?_
 refine SW0 rfl ts61 rfl ?_
 refine r_nil (hT43 _ _ (fun w hs => St.sel [2, 3] rfl rfl hs) ?_)
 refine n_fin ?_
 refine KK hK37 ?_
 refine WS fun _ hK44 => ?_
 refine rS (FA 0 rfl fo64_0 rfl) ?_
 refine rS (L1 (Value.int .i64 c.Drift) 2 rfl tk3 rfl rfl) ?_
 refine rS (FA 0 rfl fo61_0 rfl) ?_
 refine rS (L1 (Value.int .i64 y.At) 0 rfl tk3 rfl rfl) ?_
 refine rS (FA 0 rfl fo61_0 rfl) ?_
 refine rS (L1 (Value.int .i64 x.At) 1 rfl tk3 rfl rfl) ?_
 obtain ⟨hq1, hq2, hq3⟩ := sync_pair (fun j z _ hz => hall j z hz) hy (hall _ _ hy) (show k < m by omega) hx
 refine rS (BI rfl (b_sub ⟨by omega, by omega⟩)) ?_
 refine rS (CL (drifts_c c.Drift (y.At - x.At) (by omega) (by first | assumption | omega | (simp; done) | (simp; omega))) (ha_nil) rfl) ?_
 refine rS (AG rfl) ?_
 refine RK hK44 ?_
 refine WS fun _ hK45 => ?_
 refine rS (FA 1 rfl fo61_1 rfl) ?_
 refine rS (FA 1 rfl fo34_0 rfl) ?_
 refine rS (L1 (Value.int .i64 x.Ahead.Lo) 1 rfl tk3 rfl rfl) ?_
 refine rS (FA 1 rfl fo61_1 rfl) ?_
 refine rS (FA 2 rfl fo34_1 rfl) ?_
 refine rS (L1 (Value.int .i64 y.Ahead.Hi) 0 rfl tk3 rfl rfl) ?_
 refine rS (BI rfl (b_sub ⟨by omega, by omega⟩)) ?_
 refine rS (MV rfl) ?_
 refine rS (BI rfl b_gtr) ?_
 refine rS (MV rfl) ?_
 refine r_bool (t := 113) rfl (fun h113 => ?_) (fun h113 => ?_)
 · replace h113 := DT h113
   refine rS (OX rfl) ?_
   refine rS (OX rfl) ?_
   refine rS (OX rfl) ?_
   refine rS (OX rfl) ?_
   refine rS (OX rfl) ?_
   refine rS (OX rfl) ?_
   refine rS (OX rfl) ?_
   refine rS (OX rfl) ?_
   refine rS (OX rfl) ?_
   refine rS (PK rfl) ?_
   refine RK hK45 ?_
   refine w_if_true rfl ?_
   refine WS fun _ hK46 => ?_
   refine rS (AG rfl) ?_
   refine RK hK46 ?_
   refine w_ret ?_
   refine Q1 hQ rfl rfl rfl ?_
   first | exact congrArg Value.bool (decide_eq_false fun h => by have q1 := h.drift; have q2 := h.len; omega).symm | exact congrArg Value.bool (decide_eq_false fun h => by have q := h.sync i x hx; unfold SyncOk at q; first | (rw [prevAt_zero (by omega)] at q; omega) | (rw [prevAt_pos (by omega) hy] at q; omega) | omega).symm | exact congrArg Value.bool (decide_eq_false fun h => by have q := h.pair m k y x hy (by omega) hx; unfold PairOk at q; omega).symm | exact congrArg Value.bool (decide_eq_true (clock_ok (by omega) (by omega) (upto_all (by omega) hl4_1) (by omega) hl10_1)).symm
 replace h113 := DF h113
 refine rS (FA 1 rfl fo61_1 rfl) ?_
 refine rS (FA 1 rfl fo34_0 rfl) ?_
 refine rS (L1 (Value.int .i64 y.Ahead.Lo) 0 rfl tk3 rfl rfl) ?_
 refine rS (FA 1 rfl fo61_1 rfl) ?_
 refine rS (FA 2 rfl fo34_1 rfl) ?_
 refine rS (L1 (Value.int .i64 x.Ahead.Hi) 1 rfl tk3 rfl rfl) ?_
 refine rS (BI rfl (b_sub ⟨by omega, by omega⟩)) ?_
 refine rS (MV rfl) ?_
 refine rS (BI rfl b_gtr) ?_
 refine rS (PK rfl) ?_
 refine RK hK45 ?_
 refine w_if rfl (fun h123 => ?_) (fun h123 => ?_)
 rotate_left 1
 · replace h123 := DF h123
   refine w_skip ?_
   refine k_block ?_
   refine KK hK36 ?_
   refine w_region ?_
   refine rS (MV rfl) ?_
   refine rS (BI rfl (b_add ⟨by omega, by omega⟩)) ?_
   refine rS (AG rfl) ?_
   refine r_nil ?_
   have hb48 : (Value.int .i64 (((k + 1) : Nat) : Int)) = (Value.int .i64 (((k : Nat) : Int) + 1)) := by exact congrArg (Value.int .i64) (by omega)
   refine k_then (hJ33 ⟨(k + 1), ⟨by omega, fun z hz => by rw [hy] at hz; cases hz; exact upto_succ (hl13_1 _ hy) hx (by unfold PairOk; omega)⟩⟩ _ _ _ rfl (by first | omega | (simp; omega)) (Sub.cons rfl <| Sub.cons rfl <| sub_val rfl hb48 <| Sub.nil _) (fun w hs => St.sel [2, 3] rfl rfl hs))
 replace h123 := DT h123
 refine WS fun _ hK47 => ?_
 refine rS (AG rfl) ?_
 refine RK hK47 ?_
 refine w_ret ?_
 refine Q1 hQ rfl rfl rfl ?_
 first | exact congrArg Value.bool (decide_eq_false fun h => by have q1 := h.drift; have q2 := h.len; omega).symm | exact congrArg Value.bool (decide_eq_false fun h => by have q := h.sync i x hx; unfold SyncOk at q; first | (rw [prevAt_zero (by omega)] at q; omega) | (rw [prevAt_pos (by omega) hy] at q; omega) | omega).symm | exact congrArg Value.bool (decide_eq_false fun h => by have q := h.pair m k y x hy (by omega) hx; unfold PairOk at q; omega).symm | exact congrArg Value.bool (decide_eq_true (clock_ok (by omega) (by omega) (upto_all (by omega) hl4_1) (by omega) hl10_1)).symm
set_option maxRecDepth 100000 in
set_option maxHeartbeats 400000 in
theorem rway_c (l : LineM) (kA : Option Addr) (kC : Nat) (az : List RA) (cA : Option Addr) (cC : Nat) (bA : Option Addr) (bC : Nat) (n : Int) (hin : LineIn l az) (htr : trackOk l.Track = true) (hbk : ∀ b ∈ l.Beams, BeamOk l b) (hn : 0 ≤ n ∧ n < (l.Beams.length : Int)) :
    FnV Try.prog 78 [(Value.agg (LineV.cells (LineV.mk (TrackV.mk (Slc.mk kA l.Track.length kC)) l.Fast (Slc.mk cA l.Clocks.length cC) (Slc.mk bA l.Beams.length bC) l.Finish l.Fakes l.Misses)).toArray), (Value.int .i64 n)] [(rd kA l.Track.length 9 (l.Track.map StretchV.cells)), (rd cA l.Clocks.length 2 (List.zipWith ClockM.cells l.Clocks az)), (bun (nest ClockM.rds l.Clocks az)), (rd bA l.Beams.length 4 (l.Beams.map BeamV.cells))] (Value.int .i64 (wayF l n.toNat)) := by
 have htk := hin.trk
 have hck := hin.cks
 have has := hin.as_
 have hbm := hin.bms
 have hsd := hin.side
 refine fnV_of go78 Try.func78 rfl rfl fun w0 Q hQ hN => ?_
 try dsimp only
 refine WS fun _ hK1 => ?_
 refine BXA rfl fun b2 => ?_
 refine rS (AG rfl) ?_
 refine RK hK1 ?_
 refine w_seq fun _ hK3 => ?_
 refine WS fun _ hK4 => ?_
 refine rS (MV rfl) ?_
 refine rS (BI rfl b_eql) ?_
 refine RK hK4 ?_
 refine w_if rfl (fun h10 => ?_) (fun h10 => ?_)
 · replace h10 := DT h10
   refine w_seq fun _ hK5 => ?_
   refine w_draw4 mixed [0, 1, 2, 3, 4, 5, 6, 7, 8, 9, 10, 13] [11, 12] [false, false, false, false, false, false, false, false, false, false, false, false] [false, false] [(blk b2 28 (LineV.cells (LineV.mk (TrackV.mk (Slc.mk kA l.Track.length kC)) l.Fast (Slc.mk cA l.Clocks.length cC) (Slc.mk bA l.Beams.length bC) l.Finish l.Fakes l.Misses))), (rd kA l.Track.length 9 (l.Track.map StretchV.cells)).ro, (rd cA l.Clocks.length 2 (List.zipWith ClockM.cells l.Clocks az)).ro, (bun (nest ClockM.rds l.Clocks az)).ro, (rd bA l.Beams.length 4 (l.Beams.map BeamV.cells)).ro] [] (by kernel_rfl) (fun w hs => St.sel [0, 1, 2, 3, 4] rfl rfl hs) (fun w hs => St.sel [] rfl rfl hs) ?_
   refine eS rfl (FA 0 rfl fo28_0 rfl) ?_
   refine eS rfl (LP (TrackV.cells (TrackV.mk (Slc.mk kA l.Track.length kC))) 0 rfl tk24 rfl rfl rfl) ?_
   refine eS rfl (FA 3 rfl fo28_3 rfl) ?_
   refine eS rfl (L1 (Value.slice bA l.Beams.length bC) 0 rfl tk26 rfl rfl) ?_
   obtain ⟨y, hy⟩ : ∃ y_, l.Beams[0]? = some y_ := ⟨l.Beams[0]'(by omega), List.getElem?_eq_getElem _⟩
   have hym : (l.Beams.map BeamV.cells)[0]? = some (BeamV.cells y) := by rw [List.getElem?_map, hy]; rfl
   refine eS rfl (IA 0 rfl (has_at 4 rfl) te26 (by decide) rfl (by omega)) ?_
   refine eS rfl (FAR (0 * 4) rfl (has_at 4 rfl) (Nat.mul_pos (by omega) (by decide)) fo55_0 rfl) ?_
   refine eS rfl (LEN 0 0 (SpotV.cells y.Spot) rfl tk53 (has_at 4 rfl) hym rfl (by decide) rfl rfl) ?_
   refine eS rfl (CL (rat_c l.Track kA kC y.Spot (by first | assumption | omega | (simp; done) | (simp; omega)) (by first | assumption | omega | (simp; done) | (simp; omega))) (ha_at 1 rfl rfl <| ha_nil) rfl) ?_
   refine eS rfl (MV rfl) ?_
   refine eS rfl (EX rfl) ?_
   refine eS rfl (EX rfl) ?_
   refine eS rfl (AG rfl) ?_
   refine d_fin rfl ?_
   refine t_cons rfl fun T6 hT6 => ?_
   refine AL rfl tz34 fun b7 => ?_
   refine r_nil (hT6 _ _ (fun w hs => St.sel [1, 2, 3, 4, 5] rfl rfl hs) ?_)
   refine t_cons rfl fun T8 hT8 => ?_
   refine SW0 rfl ts34 rfl ?_
   refine r_nil (hT8 _ _ (fun w hs => St.sel [1, 2, 3, 4, 5] rfl rfl hs) ?_)
   refine t_fin rfl ?_
   refine KK hK5 ?_
   refine WS fun _ hK9 => ?_
   refine rS (FA 0 rfl fo34_0 rfl) ?_
   refine rS (L1 (Value.int .i64 ((atV l.Track y.Spot).Lo)) 0 rfl tk3 rfl rfl) ?_
   refine rS (AG rfl) ?_
   refine RK hK9 ?_
   refine w_ret ?_
   refine Q1 hQ rfl rfl rfl ?_
   first | (refine congrArg (Value.int .i64) ?_; rw [show n.toNat = 0 by omega]; rw [wayF_zero hy, (at_in htr (hbk _ (List.mem_of_getElem? hy)).1).2]) | (refine congrArg (Value.int .i64) ?_; rw [wayF_pos (by omega) hx (by rw [show n.toNat - 1 = (n - 1).toNat by omega]; exact hy), (apart_in htr ⟨(hbk _ (List.mem_of_getElem? hy)).1, (hbk _ (List.mem_of_getElem? hx)).1⟩).2])
 replace h10 := DF h10
 refine WK hK3 ?_
 refine w_seq fun _ hK10 => ?_
 refine w_draw4 mixed [0, 1, 2, 3, 4, 5, 6, 7, 8, 9, 10, 11, 12, 13, 14, 15, 16, 17, 18, 21] [19, 20] [false, false, false, false, false, false, false, false, false, false, false, false, false, false, false, false, false, false, false, false] [false, false] [(blk b2 28 (LineV.cells (LineV.mk (TrackV.mk (Slc.mk kA l.Track.length kC)) l.Fast (Slc.mk cA l.Clocks.length cC) (Slc.mk bA l.Beams.length bC) l.Finish l.Fakes l.Misses))), (rd kA l.Track.length 9 (l.Track.map StretchV.cells)).ro, (rd cA l.Clocks.length 2 (List.zipWith ClockM.cells l.Clocks az)).ro, (bun (nest ClockM.rds l.Clocks az)).ro, (rd bA l.Beams.length 4 (l.Beams.map BeamV.cells)).ro] [] (by kernel_rfl) (fun w hs => St.sel [0, 1, 2, 3, 4] rfl rfl hs) (fun w hs => St.sel [] rfl rfl hs) ?_
 refine eS rfl (FA 0 rfl fo28_0 rfl) ?_
 refine eS rfl (LP (TrackV.cells (TrackV.mk (Slc.mk kA l.Track.length kC))) 0 rfl tk24 rfl rfl rfl) ?_
 refine eS rfl (FA 3 rfl fo28_3 rfl) ?_
 refine eS rfl (L1 (Value.slice bA l.Beams.length bC) 0 rfl tk26 rfl rfl) ?_
 refine eS rfl (MV rfl) ?_
 refine eS rfl (BI rfl (b_sub ⟨by omega, by omega⟩)) ?_
 obtain ⟨y, hy⟩ : ∃ y_, l.Beams[((n - 1)).toNat]? = some y_ := ⟨l.Beams[((n - 1)).toNat]'(by omega), List.getElem?_eq_getElem _⟩
 have hym : (l.Beams.map BeamV.cells)[((n - 1)).toNat]? = some (BeamV.cells y) := by rw [List.getElem?_map, hy]; rfl
 refine eS rfl (IA (((n - 1)).toNat) rfl (has_at 4 rfl) te26 (by decide) (by omega) (by omega)) ?_
 refine eS rfl (FAR ((((n - 1)).toNat) * 4) rfl (has_at 4 rfl) (Nat.mul_pos (by omega) (by decide)) fo55_0 rfl) ?_
 refine eS rfl (LEN (((n - 1)).toNat) 0 (SpotV.cells y.Spot) rfl tk53 (has_at 4 rfl) hym rfl (by decide) rfl rfl) ?_
 refine eS rfl (FA 3 rfl fo28_3 rfl) ?_
 refine eS rfl (L1 (Value.slice bA l.Beams.length bC) 0 rfl tk26 rfl rfl) ?_
 refine eS rfl (MV rfl) ?_
 obtain ⟨x, hx⟩ : ∃ y_, l.Beams[(n).toNat]? = some y_ := ⟨l.Beams[(n).toNat]'(by omega), List.getElem?_eq_getElem _⟩
 have hxm : (l.Beams.map BeamV.cells)[(n).toNat]? = some (BeamV.cells x) := by rw [List.getElem?_map, hx]; rfl
 refine eS rfl (IA ((n).toNat) rfl (has_at 4 rfl) te26 (by decide) (by omega) (by omega)) ?_
 refine eS rfl (FAR (((n).toNat) * 4) rfl (has_at 4 rfl) (Nat.mul_pos (by omega) (by decide)) fo55_0 rfl) ?_
 refine eS rfl (LEN ((n).toNat) 0 (SpotV.cells x.Spot) rfl tk53 (has_at 4 rfl) hxm rfl (by decide) rfl rfl) ?_
 refine eS rfl (CL (rapart_c l.Track kA kC y.Spot x.Spot (by first | assumption | omega | (simp; done) | (simp; omega)) (by first | assumption | omega | (simp; done) | (simp; omega))) (ha_at 1 rfl rfl <| ha_nil) rfl) ?_
 refine eS rfl (MV rfl) ?_
 refine eS rfl (EX rfl) ?_
 refine eS rfl (EX rfl) ?_
 refine eS rfl (AG rfl) ?_
 refine d_fin rfl ?_
 refine t_cons rfl fun T11 hT11 => ?_
 refine AL rfl tz34 fun b12 => ?_
 refine r_nil (hT11 _ _ (fun w hs => St.sel [1, 2, 3, 4, 5] rfl rfl hs) ?_)
 refine t_cons rfl fun T13 hT13 => ?_
 refine SW0 rfl ts34 rfl ?_
 refine r_nil (hT13 _ _ (fun w hs => St.sel [1, 2, 3, 4, 5] rfl rfl hs) ?_)
 refine t_fin rfl ?_
 refine KK hK10 ?_
 refine WS fun _ hK14 => ?_
 refine rS (FA 0 rfl fo34_0 rfl) ?_
 refine rS (L1 (Value.int .i64 ((apartV l.Track y.Spot x.Spot).Lo)) 0 rfl tk3 rfl rfl) ?_
 refine rS (AG rfl) ?_
 refine RK hK14 ?_
 refine w_ret ?_
 refine Q1 hQ rfl rfl rfl ?_
 first | (refine congrArg (Value.int .i64) ?_; rw [show n.toNat = 0 by omega]; rw [wayF_zero hy, (at_in htr (hbk _ (List.mem_of_getElem? hy)).1).2]) | (refine congrArg (Value.int .i64) ?_; rw [wayF_pos (by omega) hx (by rw [show n.toNat - 1 = (n - 1).toNat by omega]; exact hy), (apart_in htr ⟨(hbk _ (List.mem_of_getElem? hy)).1, (hbk _ (List.mem_of_getElem? hx)).1⟩).2])
set_option maxRecDepth 100000 in
set_option maxHeartbeats 400000 in
theorem rline_c (l : LineM) (kA : Option Addr) (kC : Nat) (az : List RA) (cA : Option Addr) (cC : Nat) (bA : Option Addr) (bC : Nat) (hin : LineIn l az) (htr : trackOk l.Track = true) :
    FnV Try.prog 57 [(Value.agg (LineV.cells (LineV.mk (TrackV.mk (Slc.mk kA l.Track.length kC)) l.Fast (Slc.mk cA l.Clocks.length cC) (Slc.mk bA l.Beams.length bC) l.Finish l.Fakes l.Misses)).toArray)] [(rd kA l.Track.length 9 (l.Track.map StretchV.cells)), (rd cA l.Clocks.length 2 (List.zipWith ClockM.cells l.Clocks az)), (bun (nest ClockM.rds l.Clocks az)), (rd bA l.Beams.length 4 (l.Beams.map BeamV.cells))] (Value.bool (decide (LineOk l))) := by
 have htk := hin.trk
 have hck := hin.cks
 have has := hin.as_
 have hbm := hin.bms
 have hsd := hin.side
 have hst := trackOk_all htr
 have hl12 := trackOk_le htr
 refine fnV_of go57 Try.func57 rfl rfl fun w0 Q hQ hN => ?_
 try dsimp only
 refine WS fun _ hK1 => ?_
 refine BXA rfl fun b2 => ?_
 refine rS (AG rfl) ?_
 refine RK hK1 ?_
 refine w_seq fun _ hK3 => ?_
 refine WS fun _ hK4 => ?_
 refine rS (FA 1 rfl fo28_1 rfl) ?_
 refine rS (L1 (Value.int .i64 l.Fast) 0 rfl tk3 rfl rfl) ?_
 refine rS (CL (within_5 l.Fast 1 5000) (ha_nil) rfl) ?_
 refine rS (NT rfl) ?_
 refine rS (MV rfl) ?_
 refine r_bool (t := 10) rfl (fun h10 => ?_) (fun h10 => ?_)
 · replace h10 := XT h10
   refine rS (OX rfl) ?_
   refine rS (OX rfl) ?_
   refine rS (OX rfl) ?_
   refine rS (OX rfl) ?_
   refine rS (OX rfl) ?_
   refine rS (PK rfl) ?_
   refine rS (MV rfl) ?_
   refine rS (OX rfl) ?_
   refine rS (OX rfl) ?_
   refine rS (OX rfl) ?_
   refine rS (OX rfl) ?_
   refine rS (OX rfl) ?_
   refine rS (PK rfl) ?_
   refine rS (MV rfl) ?_
   refine rS (OX rfl) ?_
   refine rS (OX rfl) ?_
   refine rS (OX rfl) ?_
   refine rS (OX rfl) ?_
   refine rS (OX rfl) ?_
   refine rS (OX rfl) ?_
   refine rS (OX rfl) ?_
   refine rS (OX rfl) ?_
   refine rS (PK rfl) ?_
   refine rS (MV rfl) ?_
   refine rS (OX rfl) ?_
   refine rS (OX rfl) ?_
   refine rS (OX rfl) ?_
   refine rS (OX rfl) ?_
   refine rS (PK rfl) ?_
   refine rS (MV rfl) ?_
   refine rS (OX rfl) ?_
   refine rS (OX rfl) ?_
   refine rS (OX rfl) ?_
   refine rS (OX rfl) ?_
   refine rS (PK rfl) ?_
   refine RK hK4 ?_
   refine w_if_true rfl ?_
   refine WS fun _ hK5 => ?_
   refine rS (AG rfl) ?_
   refine RK hK5 ?_
   refine w_ret ?_
   refine Q1 hQ rfl rfl rfl ?_
   first | exact congrArg Value.bool (decide_eq_false fun h => by have q := h.head; unfold HeadOk at q; omega).symm | exact congrArg Value.bool (decide_eq_false fun h => h59 (h.clock _ (List.mem_of_getElem? hx))).symm | exact congrArg Value.bool (decide_eq_false fun h => by have q := h.beam _ (List.mem_of_getElem? hy); have q2 := q.2; first | exact h77 q.1 | omega).symm | exact congrArg Value.bool (decide_eq_false fun h => by have q := h.way n (by omega); simp only [Int.toNat_natCast] at h101; omega).symm | exact congrArg Value.bool (decide_eq_true (line_head (by unfold HeadOk; omega) (upto_mem (by omega) hl4_1) (upto_mem (by omega) hl9_1) (fun j hj => hl14_1 j (by omega)))).symm
 replace h10 := XF h10
 refine rS (FA 2 rfl fo28_2 rfl) ?_
 refine rS (L1 (Value.slice cA l.Clocks.length cC) 0 rfl tk25 rfl rfl) ?_
 refine rS (LN rfl ut25) ?_
 refine rS (CL (within_5 ((l.Clocks.length : Nat) : Int) 1 4) (ha_nil) rfl) ?_
 refine rS (NT rfl) ?_
 refine rS (PK rfl) ?_
 refine rS (MV rfl) ?_
 refine r_bool (t := 17) rfl (fun h17 => ?_) (fun h17 => ?_)
 · replace h17 := XT h17
   refine rS (OX rfl) ?_
   refine rS (OX rfl) ?_
   refine rS (OX rfl) ?_
   refine rS (OX rfl) ?_
   refine rS (OX rfl) ?_
   refine rS (PK rfl) ?_
   refine rS (MV rfl) ?_
   refine rS (OX rfl) ?_
   refine rS (OX rfl) ?_
   refine rS (OX rfl) ?_
   refine rS (OX rfl) ?_
   refine rS (OX rfl) ?_
   refine rS (OX rfl) ?_
   refine rS (OX rfl) ?_
   refine rS (OX rfl) ?_
   refine rS (PK rfl) ?_
   refine rS (MV rfl) ?_
   refine rS (OX rfl) ?_
   refine rS (OX rfl) ?_
   refine rS (OX rfl) ?_
   refine rS (OX rfl) ?_
   refine rS (PK rfl) ?_
   refine rS (MV rfl) ?_
   refine rS (OX rfl) ?_
   refine rS (OX rfl) ?_
   refine rS (OX rfl) ?_
   refine rS (OX rfl) ?_
   refine rS (PK rfl) ?_
   refine RK hK4 ?_
   refine w_if_true rfl ?_
   refine WS fun _ hK6 => ?_
   refine rS (AG rfl) ?_
   refine RK hK6 ?_
   refine w_ret ?_
   refine Q1 hQ rfl rfl rfl ?_
   first | exact congrArg Value.bool (decide_eq_false fun h => by have q := h.head; unfold HeadOk at q; omega).symm | exact congrArg Value.bool (decide_eq_false fun h => h59 (h.clock _ (List.mem_of_getElem? hx))).symm | exact congrArg Value.bool (decide_eq_false fun h => by have q := h.beam _ (List.mem_of_getElem? hy); have q2 := q.2; first | exact h77 q.1 | omega).symm | exact congrArg Value.bool (decide_eq_false fun h => by have q := h.way n (by omega); simp only [Int.toNat_natCast] at h101; omega).symm | exact congrArg Value.bool (decide_eq_true (line_head (by unfold HeadOk; omega) (upto_mem (by omega) hl4_1) (upto_mem (by omega) hl9_1) (fun j hj => hl14_1 j (by omega)))).symm
 replace h17 := XF h17
 refine rS (FA 3 rfl fo28_3 rfl) ?_
 refine rS (L1 (Value.slice bA l.Beams.length bC) 0 rfl tk26 rfl rfl) ?_
 refine rS (LN rfl ut26) ?_
 refine rS (CL (within_5 ((l.Beams.length : Nat) : Int) 1 6) (ha_nil) rfl) ?_
 refine rS (NT rfl) ?_
 refine rS (PK rfl) ?_
 refine rS (MV rfl) ?_
 refine r_bool (t := 24) rfl (fun h24 => ?_) (fun h24 => ?_)
 · replace h24 := XT h24
   refine rS (OX rfl) ?_
   refine rS (OX rfl) ?_
   refine rS (OX rfl) ?_
   refine rS (OX rfl) ?_
   refine rS (OX rfl) ?_
   refine rS (OX rfl) ?_
   refine rS (OX rfl) ?_
   refine rS (OX rfl) ?_
   refine rS (PK rfl) ?_
   refine rS (MV rfl) ?_
   refine rS (OX rfl) ?_
   refine rS (OX rfl) ?_
   refine rS (OX rfl) ?_
   refine rS (OX rfl) ?_
   refine rS (PK rfl) ?_
   refine rS (MV rfl) ?_
   refine rS (OX rfl) ?_
   refine rS (OX rfl) ?_
   refine rS (OX rfl) ?_
   refine rS (OX rfl) ?_
   refine rS (PK rfl) ?_
   refine RK hK4 ?_
   refine w_if_true rfl ?_
   refine WS fun _ hK7 => ?_
   refine rS (AG rfl) ?_
   refine RK hK7 ?_
   refine w_ret ?_
   refine Q1 hQ rfl rfl rfl ?_
   first | exact congrArg Value.bool (decide_eq_false fun h => by have q := h.head; unfold HeadOk at q; omega).symm | exact congrArg Value.bool (decide_eq_false fun h => h59 (h.clock _ (List.mem_of_getElem? hx))).symm | exact congrArg Value.bool (decide_eq_false fun h => by have q := h.beam _ (List.mem_of_getElem? hy); have q2 := q.2; first | exact h77 q.1 | omega).symm | exact congrArg Value.bool (decide_eq_false fun h => by have q := h.way n (by omega); simp only [Int.toNat_natCast] at h101; omega).symm | exact congrArg Value.bool (decide_eq_true (line_head (by unfold HeadOk; omega) (upto_mem (by omega) hl4_1) (upto_mem (by omega) hl9_1) (fun j hj => hl14_1 j (by omega)))).symm
 replace h24 := XF h24
 refine rS (FA 4 rfl fo28_4 rfl) ?_
 refine rS (L1 (Value.int .i64 l.Finish) 0 rfl tk3 rfl rfl) ?_
 refine rS (FA 3 rfl fo28_3 rfl) ?_
 refine rS (L1 (Value.slice bA l.Beams.length bC) 0 rfl tk26 rfl rfl) ?_
 refine rS (LN rfl ut26) ?_
 refine rS (BI rfl (b_sub ⟨by omega, by omega⟩)) ?_
 refine rS (CL (within_5 l.Finish 0 (((l.Beams.length : Nat) : Int) - 1)) (ha_nil) rfl) ?_
 refine rS (NT rfl) ?_
 refine rS (PK rfl) ?_
 refine rS (MV rfl) ?_
 refine r_bool (t := 34) rfl (fun h34 => ?_) (fun h34 => ?_)
 · replace h34 := XT h34
   refine rS (OX rfl) ?_
   refine rS (OX rfl) ?_
   refine rS (OX rfl) ?_
   refine rS (OX rfl) ?_
   refine rS (PK rfl) ?_
   refine rS (MV rfl) ?_
   refine rS (OX rfl) ?_
   refine rS (OX rfl) ?_
   refine rS (OX rfl) ?_
   refine rS (OX rfl) ?_
   refine rS (PK rfl) ?_
   refine RK hK4 ?_
   refine w_if_true rfl ?_
   refine WS fun _ hK8 => ?_
   refine rS (AG rfl) ?_
   refine RK hK8 ?_
   refine w_ret ?_
   refine Q1 hQ rfl rfl rfl ?_
   first | exact congrArg Value.bool (decide_eq_false fun h => by have q := h.head; unfold HeadOk at q; omega).symm | exact congrArg Value.bool (decide_eq_false fun h => h59 (h.clock _ (List.mem_of_getElem? hx))).symm | exact congrArg Value.bool (decide_eq_false fun h => by have q := h.beam _ (List.mem_of_getElem? hy); have q2 := q.2; first | exact h77 q.1 | omega).symm | exact congrArg Value.bool (decide_eq_false fun h => by have q := h.way n (by omega); simp only [Int.toNat_natCast] at h101; omega).symm | exact congrArg Value.bool (decide_eq_true (line_head (by unfold HeadOk; omega) (upto_mem (by omega) hl4_1) (upto_mem (by omega) hl9_1) (fun j hj => hl14_1 j (by omega)))).symm
 replace h34 := XF h34
 refine rS (FA 5 rfl fo28_5 rfl) ?_
 refine rS (L1 (Value.int .i64 l.Fakes) 0 rfl tk3 rfl rfl) ?_
 refine rS (CL (within_5 l.Fakes 0 3) (ha_nil) rfl) ?_
 refine rS (NT rfl) ?_
 refine rS (PK rfl) ?_
 refine rS (MV rfl) ?_
 refine r_bool (t := 40) rfl (fun h40 => ?_) (fun h40 => ?_)
 · replace h40 := XT h40
   refine rS (OX rfl) ?_
   refine rS (OX rfl) ?_
   refine rS (OX rfl) ?_
   refine rS (OX rfl) ?_
   refine rS (PK rfl) ?_
   refine RK hK4 ?_
   refine w_if_true rfl ?_
   refine WS fun _ hK9 => ?_
   refine rS (AG rfl) ?_
   refine RK hK9 ?_
   refine w_ret ?_
   refine Q1 hQ rfl rfl rfl ?_
   first | exact congrArg Value.bool (decide_eq_false fun h => by have q := h.head; unfold HeadOk at q; omega).symm | exact congrArg Value.bool (decide_eq_false fun h => h59 (h.clock _ (List.mem_of_getElem? hx))).symm | exact congrArg Value.bool (decide_eq_false fun h => by have q := h.beam _ (List.mem_of_getElem? hy); have q2 := q.2; first | exact h77 q.1 | omega).symm | exact congrArg Value.bool (decide_eq_false fun h => by have q := h.way n (by omega); simp only [Int.toNat_natCast] at h101; omega).symm | exact congrArg Value.bool (decide_eq_true (line_head (by unfold HeadOk; omega) (upto_mem (by omega) hl4_1) (upto_mem (by omega) hl9_1) (fun j hj => hl14_1 j (by omega)))).symm
 replace h40 := XF h40
 refine rS (FA 6 rfl fo28_6 rfl) ?_
 refine rS (L1 (Value.int .i64 l.Misses) 0 rfl tk3 rfl rfl) ?_
 refine rS (CL (within_5 l.Misses 0 3) (ha_nil) rfl) ?_
 refine rS (NT rfl) ?_
 refine rS (PK rfl) ?_
 refine RK hK4 ?_
 refine w_if rfl (fun h45 => ?_) (fun h45 => ?_)
 · replace h45 := XT h45
   refine WS fun _ hK10 => ?_
   refine rS (AG rfl) ?_
   refine RK hK10 ?_
   refine w_ret ?_
   refine Q1 hQ rfl rfl rfl ?_
   first | exact congrArg Value.bool (decide_eq_false fun h => by have q := h.head; unfold HeadOk at q; omega).symm | exact congrArg Value.bool (decide_eq_false fun h => h59 (h.clock _ (List.mem_of_getElem? hx))).symm | exact congrArg Value.bool (decide_eq_false fun h => by have q := h.beam _ (List.mem_of_getElem? hy); have q2 := q.2; first | exact h77 q.1 | omega).symm | exact congrArg Value.bool (decide_eq_false fun h => by have q := h.way n (by omega); simp only [Int.toNat_natCast] at h101; omega).symm | exact congrArg Value.bool (decide_eq_true (line_head (by unfold HeadOk; omega) (upto_mem (by omega) hl4_1) (upto_mem (by omega) hl9_1) (fun j hj => hl14_1 j (by omega)))).symm
 replace h45 := XF h45
 refine WK hK3 ?_
 refine w_seq fun _ hK11 => ?_
 refine WS fun _ hK12 => ?_
 refine rS (AG rfl) ?_
 refine RK hK12 ?_
 refine w_block ?_
 have hinit : (0 ≤ l.Clocks.length) ∧ (∀ (j : Nat) y, j < 0 → l.Clocks[j]? = some y → ClockOk y) := by exact ⟨Nat.zero_le _, fun j y hj => absurd hj (Nat.not_lt_zero _)⟩
 refine w_loop (ι := { z : Nat // (z ≤ l.Clocks.length) ∧ (∀ (j : Nat) y, j < z → l.Clocks[j]? = some y → ClockOk y) }) (fun z => [(1, (Value.pointer (some ⟨b2, 0, none⟩))), (3, (Value.int .i64 ((z.1 : Nat) : Int)))]) (fun z => [(blk b2 28 (LineV.cells (LineV.mk (TrackV.mk (Slc.mk kA l.Track.length kC)) l.Fast (Slc.mk cA l.Clocks.length cC) (Slc.mk bA l.Beams.length bC) l.Finish l.Fakes l.Misses))), (rd kA l.Track.length 9 (l.Track.map StretchV.cells)).ro, (rd cA l.Clocks.length 2 (List.zipWith ClockM.cells l.Clocks az)).ro, (bun (nest ClockM.rds l.Clocks az)).ro, (rd bA l.Beams.length 4 (l.Beams.map BeamV.cells)).ro]) (fun z => l.Clocks.length - z.1) ⟨0, hinit⟩ (Sub.cons rfl <| Sub.cons rfl <| Sub.nil _) (fun w hs => St.sel [0, 1, 2, 3, 4] rfl rfl hs) ?_
 clear hinit
 rintro ⟨i, ⟨hl4_0, hl4_1⟩⟩ J13 hJ13
 try dsimp only
 refine w_seq fun _ hK14 => ?_
 refine WS fun _ hK15 => ?_
 refine rS (MV rfl) ?_
 refine rS (FA 2 rfl fo28_2 rfl) ?_
 refine rS (L1 (Value.slice cA l.Clocks.length cC) 0 rfl tk25 rfl rfl) ?_
 refine rS (LN rfl ut25) ?_
 refine rS (BI rfl b_lss) ?_
 refine RK hK15 ?_
 refine w_if rfl (fun h50 => ?_) (fun h50 => ?_)
 · replace h50 := DT h50
   refine WK hK14 ?_
   refine w_seq fun _ hK16 => ?_
   refine w_block ?_
   refine WS fun _ hK17 => ?_
   refine rS (FA 2 rfl fo28_2 rfl) ?_
   refine rS (L1 (Value.slice cA l.Clocks.length cC) 0 rfl tk25 rfl rfl) ?_
   refine rS (MV rfl) ?_
   obtain ⟨x, hx⟩ : ∃ y_, l.Clocks[i]? = some y_ := ⟨l.Clocks[i]'(by omega), List.getElem?_eq_getElem _⟩
   obtain ⟨xa, hxa⟩ : ∃ y_, az[i]? = some y_ := ⟨az[i]'(by omega), List.getElem?_eq_getElem _⟩
   have hxm : (List.zipWith ClockM.cells l.Clocks az)[i]? = some (ClockM.cells x xa) := zip_get hx hxa
   refine rS (IA i rfl (has_at 2 rfl) te25 (by decide) (by omega) (by omega)) ?_
   refine rS (LEN i 0 (ClockV.cells (ClockV.mk x.Drift (Slc.mk xa.1 x.Syncs.length xa.2))) rfl tk64 (has_at 2 rfl) hxm rfl (by decide) rfl rfl) ?_
   have hsy := (hin.syn _ _ _ hx hxa).2
   refine rS (CL (rclock_c x xa.1 xa.2 (by first | assumption | omega | (simp; done) | (simp; omega))) (ha_cons (show Has _ (rd xa.1 x.Syncs.length 3 (x.Syncs.map SyncV.cells)).holds from (has_inr 3 rfl (mem_nest hx hxa (by simp [ClockM.rds])))) <| ha_nil) rfl) ?_
   refine rS (NT rfl) ?_
   refine RK hK17 ?_
   refine w_if rfl (fun h59 => ?_) (fun h59 => ?_)
   rotate_left 1
   · replace h59 := XF h59
     refine w_skip ?_
     refine k_block ?_
     refine KK hK16 ?_
     refine w_region ?_
     refine rS (MV rfl) ?_
     refine rS (BI rfl (b_add ⟨by omega, by omega⟩)) ?_
     refine rS (AG rfl) ?_
     refine r_nil ?_
     have hb19 : (Value.int .i64 (((i + 1) : Nat) : Int)) = (Value.int .i64 (((i : Nat) : Int) + 1)) := by exact congrArg (Value.int .i64) (by omega)
     refine k_then (hJ13 ⟨(i + 1), ⟨by omega, upto_succ (P := fun _ y => ClockOk y) hl4_1 hx h59⟩⟩ _ _ _ rfl (by first | omega | (simp; omega)) (Sub.cons rfl <| sub_val rfl hb19 <| Sub.nil _) (fun w hs => St.sel [0, 1, 2, 3, 4] rfl rfl hs))
   replace h59 := XT h59
   refine WS fun _ hK18 => ?_
   refine rS (AG rfl) ?_
   refine RK hK18 ?_
   refine w_ret ?_
   refine Q1 hQ rfl rfl rfl ?_
   first | exact congrArg Value.bool (decide_eq_false fun h => by have q := h.head; unfold HeadOk at q; omega).symm | exact congrArg Value.bool (decide_eq_false fun h => h59 (h.clock _ (List.mem_of_getElem? hx))).symm | exact congrArg Value.bool (decide_eq_false fun h => by have q := h.beam _ (List.mem_of_getElem? hy); have q2 := q.2; first | exact h77 q.1 | omega).symm | exact congrArg Value.bool (decide_eq_false fun h => by have q := h.way n (by omega); simp only [Int.toNat_natCast] at h101; omega).symm | exact congrArg Value.bool (decide_eq_true (line_head (by unfold HeadOk; omega) (upto_mem (by omega) hl4_1) (upto_mem (by omega) hl9_1) (fun j hj => hl14_1 j (by omega)))).symm
 replace h50 := DF h50
 refine w_exit ?_
 refine k_exit_then ?_
 refine k_exit_then ?_
 refine k_exit_same ?_
 refine KK hK11 ?_
 refine w_seq fun _ hK20 => ?_
 refine WS fun _ hK21 => ?_
 refine rS (AG rfl) ?_
 refine RK hK21 ?_
 refine w_block ?_
 have hinit : (0 ≤ l.Beams.length) ∧ (∀ (j : Nat) y, j < 0 → l.Beams[j]? = some y → BeamOk l y) := by exact ⟨Nat.zero_le _, fun j y hj => absurd hj (Nat.not_lt_zero _)⟩
 refine w_loop (ι := { z : Nat // (z ≤ l.Beams.length) ∧ (∀ (j : Nat) y, j < z → l.Beams[j]? = some y → BeamOk l y) }) (fun z => [(1, (Value.pointer (some ⟨b2, 0, none⟩))), (4, (Value.int .i64 ((z.1 : Nat) : Int)))]) (fun z => [(blk b2 28 (LineV.cells (LineV.mk (TrackV.mk (Slc.mk kA l.Track.length kC)) l.Fast (Slc.mk cA l.Clocks.length cC) (Slc.mk bA l.Beams.length bC) l.Finish l.Fakes l.Misses))), (rd kA l.Track.length 9 (l.Track.map StretchV.cells)).ro, (rd cA l.Clocks.length 2 (List.zipWith ClockM.cells l.Clocks az)).ro, (bun (nest ClockM.rds l.Clocks az)).ro, (rd bA l.Beams.length 4 (l.Beams.map BeamV.cells)).ro]) (fun z => l.Beams.length - z.1) ⟨0, hinit⟩ (Sub.cons rfl <| Sub.cons rfl <| Sub.nil _) (fun w hs => St.sel [0, 1, 2, 3, 4] rfl rfl hs) ?_
 clear hinit
 rintro ⟨m, ⟨hl9_0, hl9_1⟩⟩ J22 hJ22
 try dsimp only
 refine w_seq fun _ hK23 => ?_
 refine WS fun _ hK24 => ?_
 refine rS (MV rfl) ?_
 refine rS (FA 3 rfl fo28_3 rfl) ?_
 refine rS (L1 (Value.slice bA l.Beams.length bC) 0 rfl tk26 rfl rfl) ?_
 refine rS (LN rfl ut26) ?_
 refine rS (BI rfl b_lss) ?_
 refine RK hK24 ?_
 refine w_if rfl (fun h64 => ?_) (fun h64 => ?_)
 rotate_left 1
 · replace h64 := DF h64
   refine w_exit ?_
   refine k_exit_then ?_
   refine k_exit_then ?_
   refine k_exit_same ?_
   refine KK hK20 ?_
   refine w_seq fun _ hK30 => ?_
   refine WS fun _ hK31 => ?_
   refine rS (AG rfl) ?_
   refine RK hK31 ?_
   refine w_block ?_
   have hinit : (0 ≤ l.Beams.length) ∧ (∀ j, j < 0 → 1 ≤ wayF l j) := by exact ⟨Nat.zero_le _, fun j hj => absurd hj (Nat.not_lt_zero _)⟩
   refine w_loop (ι := { z : Nat // (z ≤ l.Beams.length) ∧ (∀ j, j < z → 1 ≤ wayF l j) }) (fun z => [(1, (Value.pointer (some ⟨b2, 0, none⟩))), (5, (Value.int .i64 ((z.1 : Nat) : Int)))]) (fun z => [(blk b2 28 (LineV.cells (LineV.mk (TrackV.mk (Slc.mk kA l.Track.length kC)) l.Fast (Slc.mk cA l.Clocks.length cC) (Slc.mk bA l.Beams.length bC) l.Finish l.Fakes l.Misses))), (rd kA l.Track.length 9 (l.Track.map StretchV.cells)).ro, (rd cA l.Clocks.length 2 (List.zipWith ClockM.cells l.Clocks az)).ro, (bun (nest ClockM.rds l.Clocks az)).ro, (rd bA l.Beams.length 4 (l.Beams.map BeamV.cells)).ro]) (fun z => l.Beams.length - z.1) ⟨0, hinit⟩ (Sub.cons rfl <| Sub.cons rfl <| Sub.nil _) (fun w hs => St.sel [0, 1, 2, 3, 4] rfl rfl hs) ?_
   clear hinit
   rintro ⟨n, ⟨hl14_0, hl14_1⟩⟩ J32 hJ32
   try dsimp only
   have hbk := upto_mem (P := BeamOk l) (by omega) hl9_1
   refine w_seq fun _ hK33 => ?_
   refine WS fun _ hK34 => ?_
   refine rS (MV rfl) ?_
   refine rS (FA 3 rfl fo28_3 rfl) ?_
   refine rS (L1 (Value.slice bA l.Beams.length bC) 0 rfl tk26 rfl rfl) ?_
   refine rS (LN rfl ut26) ?_
   refine rS (BI rfl b_lss) ?_
   refine RK hK34 ?_
   refine w_if rfl (fun h95 => ?_) (fun h95 => ?_)
   rotate_left 1
   · replace h95 := DF h95
     refine w_exit ?_
     refine k_exit_then ?_
     refine k_exit_then ?_
     refine k_exit_same ?_
     refine KK hK30 ?_
     refine WS fun _ hK39 => ?_
     refine rS (AG rfl) ?_
     refine RK hK39 ?_
     refine w_ret ?_
     refine Q1 hQ rfl rfl rfl ?_
     first | exact congrArg Value.bool (decide_eq_false fun h => by have q := h.head; unfold HeadOk at q; omega).symm | exact congrArg Value.bool (decide_eq_false fun h => h59 (h.clock _ (List.mem_of_getElem? hx))).symm | exact congrArg Value.bool (decide_eq_false fun h => by have q := h.beam _ (List.mem_of_getElem? hy); have q2 := q.2; first | exact h77 q.1 | omega).symm | exact congrArg Value.bool (decide_eq_false fun h => by have q := h.way n (by omega); simp only [Int.toNat_natCast] at h101; omega).symm | exact congrArg Value.bool (decide_eq_true (line_head (by unfold HeadOk; omega) (upto_mem (by omega) hl4_1) (upto_mem (by omega) hl9_1) (fun j hj => hl14_1 j (by omega)))).symm
   replace h95 := DT h95
   refine WK hK33 ?_
   refine w_seq fun _ hK35 => ?_
   refine w_block ?_
   refine WS fun _ hK36 => ?_
   refine rS (LW 0 rfl tk28 rfl rfl) ?_
   refine rS (MV rfl) ?_
   refine rS (CL (rway_c l kA kC az cA cC bA bC ((n : Nat) : Int) hin htr (by first | assumption | omega | (simp; done) | (simp; omega)) (by first | assumption | omega | (simp; done) | (simp; omega))) (ha_at 1 rfl rfl <| ha_at 2 rfl rfl <| ha_at 3 rfl rfl <| ha_at 4 rfl rfl <| ha_nil) rfl) ?_
   refine rS (BI rfl b_lss) ?_
   refine RK hK36 ?_
   refine w_if rfl (fun h101 => ?_) (fun h101 => ?_)
   rotate_left 1
   · replace h101 := DF h101
     refine w_skip ?_
     refine k_block ?_
     refine KK hK35 ?_
     refine w_region ?_
     refine rS (MV rfl) ?_
     refine rS (BI rfl (b_add ⟨by omega, by omega⟩)) ?_
     refine rS (AG rfl) ?_
     refine r_nil ?_
     have hb38 : (Value.int .i64 (((n + 1) : Nat) : Int)) = (Value.int .i64 (((n : Nat) : Int) + 1)) := by exact congrArg (Value.int .i64) (by omega)
     refine k_then (hJ32 ⟨(n + 1), ⟨by omega, fun j hj => by rcases Nat.lt_or_ge j n with q | q; exact hl14_1 j q; (obtain rfl : j = n := by omega); simp only [Int.toNat_natCast] at h101; omega⟩⟩ _ _ _ rfl (by first | omega | (simp; omega)) (Sub.cons rfl <| sub_val rfl hb38 <| Sub.nil _) (fun w hs => St.sel [0, 1, 2, 3, 4] rfl rfl hs))
   replace h101 := DT h101
   refine WS fun _ hK37 => ?_
   refine rS (AG rfl) ?_
   refine RK hK37 ?_
   refine w_ret ?_
   refine Q1 hQ rfl rfl rfl ?_
   first | exact congrArg Value.bool (decide_eq_false fun h => by have q := h.head; unfold HeadOk at q; omega).symm | exact congrArg Value.bool (decide_eq_false fun h => h59 (h.clock _ (List.mem_of_getElem? hx))).symm | exact congrArg Value.bool (decide_eq_false fun h => by have q := h.beam _ (List.mem_of_getElem? hy); have q2 := q.2; first | exact h77 q.1 | omega).symm | exact congrArg Value.bool (decide_eq_false fun h => by have q := h.way n (by omega); simp only [Int.toNat_natCast] at h101; omega).symm | exact congrArg Value.bool (decide_eq_true (line_head (by unfold HeadOk; omega) (upto_mem (by omega) hl4_1) (upto_mem (by omega) hl9_1) (fun j hj => hl14_1 j (by omega)))).symm
 replace h64 := DT h64
 refine WK hK23 ?_
 refine w_seq fun _ hK25 => ?_
 refine w_block ?_
 refine w_seq fun _ hK26 => ?_
 refine w_draw mixed 24 (by kernel_rfl) ?_
 refine dS (FA 0 rfl fo28_0 rfl) ?_
 refine dS (LP (TrackV.cells (TrackV.mk (Slc.mk kA l.Track.length kC))) 0 rfl tk24 rfl rfl rfl) ?_
 refine dS (FA 3 rfl fo28_3 rfl) ?_
 refine dS (L1 (Value.slice bA l.Beams.length bC) 0 rfl tk26 rfl rfl) ?_
 refine dS (MV rfl) ?_
 obtain ⟨y, hy⟩ : ∃ y_, l.Beams[m]? = some y_ := ⟨l.Beams[m]'(by omega), List.getElem?_eq_getElem _⟩
 have hym : (l.Beams.map BeamV.cells)[m]? = some (BeamV.cells y) := by rw [List.getElem?_map, hy]; rfl
 refine dS (IA m rfl (has_at 4 rfl) te26 (by decide) (by omega) (by omega)) ?_
 refine dS (FAR (m * 4) rfl (has_at 4 rfl) (Nat.mul_pos (by omega) (by decide)) fo55_0 rfl) ?_
 refine dS (LEN m 0 (SpotV.cells y.Spot) rfl tk53 (has_at 4 rfl) hym rfl (by decide) rfl rfl) ?_
 refine dS (CL (rspot_c l.Track kA kC y.Spot (by first | assumption | omega | (simp; done) | (simp; omega)) (by first | assumption | omega | (simp; done) | (simp; omega))) (ha_at 1 rfl rfl <| ha_nil) rfl) ?_
 refine dS (NT rfl) ?_
 refine dS (MV rfl) ?_
 refine d_bool (t := 77) rfl (fun h77 => ?_) (fun h77 => ?_)
 · replace h77 := XT h77
   refine dS (OX rfl) ?_
   refine dS (OX rfl) ?_
   refine dS (OX rfl) ?_
   refine dS (OX rfl) ?_
   refine dS (OX rfl) ?_
   refine dS (OX rfl) ?_
   refine dS (OX rfl) ?_
   refine dS (OX rfl) ?_
   refine dS (OX rfl) ?_
   refine dS (OX rfl) ?_
   refine dS (OX rfl) ?_
   refine dS (OX rfl) ?_
   refine dS (PK rfl) ?_
   refine d_end ?_
   refine RK hK26 ?_
   refine w_if_true rfl ?_
   refine WS fun _ hK27 => ?_
   refine rS (AG rfl) ?_
   refine RK hK27 ?_
   refine w_ret ?_
   refine Q1 hQ rfl rfl rfl ?_
   first | exact congrArg Value.bool (decide_eq_false fun h => by have q := h.head; unfold HeadOk at q; omega).symm | exact congrArg Value.bool (decide_eq_false fun h => h59 (h.clock _ (List.mem_of_getElem? hx))).symm | exact congrArg Value.bool (decide_eq_false fun h => by have q := h.beam _ (List.mem_of_getElem? hy); have q2 := q.2; first | exact h77 q.1 | omega).symm | exact congrArg Value.bool (decide_eq_false fun h => by have q := h.way n (by omega); simp only [Int.toNat_natCast] at h101; omega).symm | exact congrArg Value.bool (decide_eq_true (line_head (by unfold HeadOk; omega) (upto_mem (by omega) hl4_1) (upto_mem (by omega) hl9_1) (fun j hj => hl14_1 j (by omega)))).symm
 replace h77 := XF h77
 refine dS (FA 3 rfl fo28_3 rfl) ?_
 refine dS (L1 (Value.slice bA l.Beams.length bC) 0 rfl tk26 rfl rfl) ?_
 refine dS (MV rfl) ?_
 refine dS (IA m rfl (has_at 4 rfl) te26 (by decide) (by omega) (by omega)) ?_
 refine dS (FAR ((m * 4) + 3) rfl (has_at 4 rfl) (Nat.mul_pos (by omega) (by decide)) fo55_1 rfl) ?_
 refine dS (LE1 m 3 (Value.int .i64 y.Clock) rfl tk3 (has_at 4 rfl) hym rfl (by decide) rfl) ?_
 refine dS (FA 2 rfl fo28_2 rfl) ?_
 refine dS (L1 (Value.slice cA l.Clocks.length cC) 0 rfl tk25 rfl rfl) ?_
 refine dS (LN rfl ut25) ?_
 refine dS (BI rfl (b_sub ⟨by omega, by omega⟩)) ?_
 refine dS (CL (within_5 y.Clock 0 (((l.Clocks.length : Nat) : Int) - 1)) (ha_nil) rfl) ?_
 refine dS (NT rfl) ?_
 refine dS (PK rfl) ?_
 refine d_end ?_
 refine RK hK26 ?_
 refine w_if rfl (fun h90 => ?_) (fun h90 => ?_)
 rotate_left 1
 · replace h90 := XF h90
   refine w_skip ?_
   refine k_block ?_
   refine KK hK25 ?_
   refine w_region ?_
   refine rS (MV rfl) ?_
   refine rS (BI rfl (b_add ⟨by omega, by omega⟩)) ?_
   refine rS (AG rfl) ?_
   refine r_nil ?_
   have hb29 : (Value.int .i64 (((m + 1) : Nat) : Int)) = (Value.int .i64 (((m : Nat) : Int) + 1)) := by exact congrArg (Value.int .i64) (by omega)
   refine k_then (hJ22 ⟨(m + 1), ⟨by omega, upto_succ (P := fun _ y => BeamOk l y) hl9_1 hy ⟨h77, by omega, by omega⟩⟩⟩ _ _ _ rfl (by first | omega | (simp; omega)) (Sub.cons rfl <| sub_val rfl hb29 <| Sub.nil _) (fun w hs => St.sel [0, 1, 2, 3, 4] rfl rfl hs))
 replace h90 := XT h90
 refine WS fun _ hK28 => ?_
 refine rS (AG rfl) ?_
 refine RK hK28 ?_
 refine w_ret ?_
 refine Q1 hQ rfl rfl rfl ?_
 first | exact congrArg Value.bool (decide_eq_false fun h => by have q := h.head; unfold HeadOk at q; omega).symm | exact congrArg Value.bool (decide_eq_false fun h => h59 (h.clock _ (List.mem_of_getElem? hx))).symm | exact congrArg Value.bool (decide_eq_false fun h => by have q := h.beam _ (List.mem_of_getElem? hy); have q2 := q.2; first | exact h77 q.1 | omega).symm | exact congrArg Value.bool (decide_eq_false fun h => by have q := h.way n (by omega); simp only [Int.toNat_natCast] at h101; omega).symm | exact congrArg Value.bool (decide_eq_true (line_head (by unfold HeadOk; omega) (upto_mem (by omega) hl4_1) (upto_mem (by omega) hl9_1) (fun j hj => hl14_1 j (by omega)))).symm
end
section
open Go.RowKit
set_option linter.unusedVariables false
set_option maxRecDepth 100000 in
set_option maxHeartbeats 400000 in
theorem ltwin_c (l : LineM) (kA : Option Addr) (kC : Nat) (az : List RA) (cA : Option Addr) (cC : Nat) (bA : Option Addr) (bC : Nat) (hin : LineIn l az) (hng : ¬ GreatL l) :
    FnX Try.prog 12 [(Value.agg (LineV.cells (LineV.mk (TrackV.mk (Slc.mk kA l.Track.length kC)) l.Fast (Slc.mk cA l.Clocks.length cC) (Slc.mk bA l.Beams.length bC) l.Finish l.Fakes l.Misses)).toArray)] [(rd kA l.Track.length 9 (l.Track.map StretchV.cells)), (rd cA l.Clocks.length 2 (List.zipWith ClockM.cells l.Clocks az)), (bun (nest ClockM.rds l.Clocks az)), (rd bA l.Beams.length 4 (l.Beams.map BeamV.cells))] (fun (x : (Option Addr) × Nat × (Option Addr) × Nat × (List RA) × (Option Addr) × Nat) => (Value.agg (LineV.cells (LineV.mk (TrackV.mk (Slc.mk x.1 l.Track.length x.2.1)) l.Fast (Slc.mk x.2.2.1 l.Clocks.length x.2.2.2.1) (Slc.mk x.2.2.2.2.2.1 l.Beams.length x.2.2.2.2.2.2) l.Finish l.Fakes l.Misses)).toArray)) (fun (x : (Option Addr) × Nat × (Option Addr) × Nat × (List RA) × (Option Addr) × Nat) => x.2.2.2.2.1.length = l.Clocks.length ∧ CapOk l.Clocks x.2.2.2.2.1) (fun (x : (Option Addr) × Nat × (Option Addr) × Nat × (List RA) × (Option Addr) × Nat) => [(own x.1 x.2.1 126 9 (l.Track.map StretchV.cells)), (own x.2.2.1 x.2.2.2.1 64 2 (List.zipWith ClockM.cells l.Clocks x.2.2.2.2.1)), (bund (nest ClockM.owns l.Clocks x.2.2.2.2.1)), (own x.2.2.2.2.2.1 x.2.2.2.2.2.2 55 4 (l.Beams.map BeamV.cells))]) := by
 have htk := hin.trk
 have hck := hin.cks
 have has := hin.as_
 have hbm := hin.bms
 have hgr := small_of hng
 refine fnX_of go12 Try.func12 rfl rfl fun w0 Q hQ hN => ?_
 try dsimp only
 refine WS fun _ hK1 => ?_
 refine BXA rfl fun b2 => ?_
 refine AL rfl tz28 fun b3 => ?_
 refine RK hK1 ?_
 refine WS fun _ hK4 => ?_
 refine rS (FA 0 rfl fo28_0 rfl) ?_
 refine rS (LP (TrackV.cells (TrackV.mk (Slc.mk kA l.Track.length kC))) 1 rfl tk24 rfl rfl rfl) ?_
 refine cX (twin_c l.Track kA kC (by first | assumption | omega | (simp; done) | (simp; omega))) (ha_at 2 rfl rfl <| ha_nil) rfl fun y5 hy6 => ?_
 obtain ⟨a7, c8⟩ := y5
 try dsimp only
 refine rS (FA 0 rfl fo28_0 rfl) ?_
 refine ST2 (LineV.cells (LineV.mk (TrackV.mk (Slc.mk a7 l.Track.length c8)) l.Fast (Slc.mk cA l.Clocks.length cC) (Slc.mk bA l.Beams.length bC) l.Finish l.Fakes l.Misses)) rfl ts24 rfl rfl ?_
 refine RK hK4 ?_
 refine WS fun _ hK9 => ?_
 refine r_bs0 rfl te25 rfl fun b10 => ?_
 refine rS (FA 2 rfl fo28_2 rfl) ?_
 refine rS (L1 (Value.slice cA l.Clocks.length cC) 3 rfl tk25 rfl rfl) ?_
 refine r_blk_own (es := (List.map ClockV.cells [])) (C' := [own (some ⟨b10, 0, none⟩) 0 64 2 (List.map ClockV.cells []), _, _, _, _, _, _, _]) 0 rfl (by simp) rfl (by simp [maxLen]) rfl ?_
 refine r_append (es2 := (List.zipWith ClockM.cells l.Clocks az)) (m' := l.Clocks.length) 0 rfl rfl rfl ta25 rfl rfl (by simp) (has_at 5 rfl) (one_clocks _ _) (by first | omega | (simp; omega)) (by first | (simp only [maxLen]; omega) | (simp [maxLen]; omega)) (by simp) (zip_len has) rfl fun a11 c12 => ?_
 try dsimp only
 refine rS (FA 2 rfl fo28_2 rfl) ?_
 refine ST3 (LineV.cells (LineV.mk (TrackV.mk (Slc.mk a7 l.Track.length c8)) l.Fast (Slc.mk a11 l.Clocks.length c12) (Slc.mk bA l.Beams.length bC) l.Finish l.Fakes l.Misses)) rfl ts25 rfl rfl ?_
 refine RK hK9 ?_
 refine w_seq fun _ hK13 => ?_
 refine WS fun _ hK14 => ?_
 refine rS (AG rfl) ?_
 refine RK hK14 ?_
 refine w_block ?_
 refine w_tie0 ?_
 have hinit : (0 ≤ l.Clocks.length) ∧ (([] : List RA).length = 0) ∧ (CapOk l.Clocks ([] : List RA)) := by exact ⟨Nat.zero_le _, rfl, fun k m a _ h => by simp at h⟩
 refine w_loop (ι := { z : Nat × (List RA) // (z.1 ≤ l.Clocks.length) ∧ (z.2.length = z.1) ∧ (CapOk l.Clocks z.2) }) (fun z => [(1, (Value.pointer (some ⟨b2, 0, none⟩))), (2, (Value.pointer (some ⟨b3, 0, none⟩))), (3, (Value.int .i64 ((z.1.1 : Nat) : Int)))]) (fun z => [(bund (nest ClockM.owns (l.Clocks.take z.1.1) z.1.2)), (own a11 c12 64 2 (List.zipWith ClockM.cells l.Clocks (mixA z.1.2 az z.1.1))), (own a7 c8 126 9 (l.Track.map StretchV.cells)), (blk b3 28 (LineV.cells (LineV.mk (TrackV.mk (Slc.mk none 0 0)) 0 (Slc.mk none 0 0) (Slc.mk none 0 0) 0 0 0))), (blk b2 28 (LineV.cells (LineV.mk (TrackV.mk (Slc.mk a7 l.Track.length c8)) l.Fast (Slc.mk a11 l.Clocks.length c12) (Slc.mk bA l.Beams.length bC) l.Finish l.Fakes l.Misses))), (rd kA l.Track.length 9 (l.Track.map StretchV.cells)).ro, (rd cA l.Clocks.length 2 (List.zipWith ClockM.cells l.Clocks az)).ro, (bun (nest ClockM.rds l.Clocks az)).ro, (rd bA l.Beams.length 4 (l.Beams.map BeamV.cells)).ro]) (fun z => l.Clocks.length - z.1.1) ⟨(0, ([] : List RA)), hinit⟩ (Sub.cons rfl <| Sub.cons rfl <| Sub.cons rfl <| Sub.nil _) (fun w hs => St.sel [0, 1, 2, 3, 4, 5, 6, 7, 8] rfl rfl hs) ?_
 clear hinit
 rintro ⟨⟨i, bz⟩, ⟨hl4_0, hl4_1, hl4_2⟩⟩ J15 hJ15
 try dsimp only at hl4_0 hl4_1 hl4_2
 try dsimp only
 refine w_seq fun _ hK16 => ?_
 refine WS fun _ hK17 => ?_
 refine rS (MV rfl) ?_
 refine rS (FA 2 rfl fo28_2 rfl) ?_
 refine rS (L1 (Value.slice a11 l.Clocks.length c12) 4 rfl tk25 rfl rfl) ?_
 refine rS (LN rfl ut25) ?_
 refine rS (BI rfl b_lss) ?_
 refine RK hK17 ?_
 refine w_if rfl (fun h18 => ?_) (fun h18 => ?_)
 rotate_left 1
 · replace h18 := DF h18
   refine w_exit ?_
   refine k_exit_then ?_
   refine k_exit_then ?_
   refine k_exit_same ?_
   refine KK hK13 ?_
   refine WS fun _ hK27 => ?_
   refine r_bs0 rfl te26 rfl fun b28 => ?_
   rw [show mixA bz az i = bz from mixA_all (by omega)]
   rw [show l.Clocks.take i = l.Clocks from List.take_of_length_le (by omega)]
   refine rS (FA 3 rfl fo28_3 rfl) ?_
   refine rS (L1 (Value.slice bA l.Beams.length bC) 5 rfl tk26 rfl rfl) ?_
   refine r_blk_own (es := (List.map BeamV.cells [])) (C' := [own (some ⟨b28, 0, none⟩) 0 55 4 (List.map BeamV.cells []), _, _, _, _, _, _, _, _, _]) 0 rfl (by simp) rfl (by simp [maxLen]) rfl ?_
   refine r_append (es2 := (List.map BeamV.cells l.Beams)) (m' := l.Beams.length) 0 rfl rfl rfl ta26 rfl rfl (by simp) (has_at 9 rfl) (one_BeamV_cells _) (by first | omega | (simp; omega)) (by first | (simp only [maxLen]; omega) | (simp [maxLen]; omega)) (by simp) (by simp) rfl fun a29 c30 => ?_
   try dsimp only
   refine rS (FA 3 rfl fo28_3 rfl) ?_
   refine ST5 (LineV.cells (LineV.mk (TrackV.mk (Slc.mk a7 l.Track.length c8)) l.Fast (Slc.mk a11 l.Clocks.length c12) (Slc.mk a29 l.Beams.length c30) l.Finish l.Fakes l.Misses)) rfl ts26 rfl rfl ?_
   refine RK hK27 ?_
   refine WS fun _ hK31 => ?_
   refine rS (LW 5 rfl tk28 rfl rfl) ?_
   refine SW4 rfl ts28 rfl ?_
   refine RK hK31 ?_
   refine w_ret ?_
   refine hQ _ _ _ (l_nil (vs := [(Value.agg (LineV.cells (LineV.mk (TrackV.mk (Slc.mk a7 l.Track.length c8)) l.Fast (Slc.mk a11 l.Clocks.length c12) (Slc.mk a29 l.Beams.length c30) l.Finish l.Fakes l.Misses)).toArray)]) ⟨⟨_, rfl, .inl ⟨_, _, tk28, at_blk (vs := (LineV.cells (LineV.mk (TrackV.mk (Slc.mk a7 l.Track.length c8)) l.Fast (Slc.mk a11 l.Clocks.length c12) (Slc.mk a29 l.Beams.length c30) l.Finish l.Fakes l.Misses))) 4 rfl rfl, rfl, rfl⟩⟩, trivial⟩ fun w hs => endX (a7, c8, a11, c12, bz, a29, c30) [3, 2, 1, 0] ?_ ?_ rfl rfl (by simp only [List.all_cons, List.all_nil, bund_owns_wr, Bool.and_true]; rfl) hs)
   · rfl
   · exact ⟨by dsimp only; omega, hl4_2⟩
 replace h18 := DT h18
 refine WK hK16 ?_
 refine w_seq fun _ hK19 => ?_
 refine w_block ?_
 refine w_draw4 mixed [0, 1, 2, 4, 5, 6, 7, 8, 9, 11, 12] [3, 10, 13] [false, false, false, false, false, false, true, true, true, true, true] [true, true, false] [(bund (nest ClockM.owns (l.Clocks.take i) bz)), (own a7 c8 126 9 (l.Track.map StretchV.cells)), (blk b3 28 (LineV.cells (LineV.mk (TrackV.mk (Slc.mk none 0 0)) 0 (Slc.mk none 0 0) (Slc.mk none 0 0) 0 0 0))), (blk b2 28 (LineV.cells (LineV.mk (TrackV.mk (Slc.mk a7 l.Track.length c8)) l.Fast (Slc.mk a11 l.Clocks.length c12) (Slc.mk bA l.Beams.length bC) l.Finish l.Fakes l.Misses))), (rd kA l.Track.length 9 (l.Track.map StretchV.cells)).ro, (rd cA l.Clocks.length 2 (List.zipWith ClockM.cells l.Clocks az)).ro, (bun (nest ClockM.rds l.Clocks az)).ro, (rd bA l.Beams.length 4 (l.Beams.map BeamV.cells)).ro] [(bund (nest ClockM.owns (l.Clocks.take i) bz)), (own a11 c12 64 2 (List.zipWith ClockM.cells l.Clocks (mixA bz az i))), (own a7 c8 126 9 (l.Track.map StretchV.cells)), (blk b3 28 (LineV.cells (LineV.mk (TrackV.mk (Slc.mk none 0 0)) 0 (Slc.mk none 0 0) (Slc.mk none 0 0) 0 0 0))), (blk b2 28 (LineV.cells (LineV.mk (TrackV.mk (Slc.mk a7 l.Track.length c8)) l.Fast (Slc.mk a11 l.Clocks.length c12) (Slc.mk bA l.Beams.length bC) l.Finish l.Fakes l.Misses))), (rd kA l.Track.length 9 (l.Track.map StretchV.cells)).ro, (rd cA l.Clocks.length 2 (List.zipWith ClockM.cells l.Clocks az)).ro, (bun (nest ClockM.rds l.Clocks az)).ro, (rd bA l.Beams.length 4 (l.Beams.map BeamV.cells)).ro] (by kernel_rfl) (fun w hs => St.sel [0, 2, 3, 4, 5, 6, 7, 8] rfl rfl hs) (fun w hs => St.sel [0, 1, 2, 3, 4, 5, 6, 7, 8] rfl rfl hs) ?_
 refine eS rfl (FA 2 rfl fo28_2 rfl) ?_
 refine eS rfl (L1 (Value.slice a11 l.Clocks.length c12) 3 rfl tk25 rfl rfl) ?_
 refine eS rfl (MV rfl) ?_
 refine eS rfl (FA 2 rfl fo28_2 rfl) ?_
 refine eS rfl (L1 (Value.slice a11 l.Clocks.length c12) 3 rfl tk25 rfl rfl) ?_
 refine eS rfl (MV rfl) ?_
 obtain ⟨x, hx⟩ : ∃ y_, l.Clocks[i]? = some y_ := ⟨l.Clocks[i]'(by omega), List.getElem?_eq_getElem _⟩
 obtain ⟨xa, hxa⟩ : ∃ y_, az[i]? = some y_ := ⟨az[i]'(by omega), List.getElem?_eq_getElem _⟩
 have hxm : (List.zipWith ClockM.cells l.Clocks (mixA bz az i))[i]? = some (ClockM.cells x xa) := zip_get hx (mixA_at hl4_1 hxa)
 refine fS rfl (IA i rfl (has_own_n (n := l.Clocks.length) 1 rfl (zip_len (by rw [mixA_len hl4_1 (by omega)]; exact has))) te25 (by decide) (by omega) (by omega)) ?_
 refine fS rfl (FAR ((i * 2) + 1) rfl (has_own_n (n := l.Clocks.length) 1 rfl (zip_len (by rw [mixA_len hl4_1 (by omega)]; exact has))) (Nat.mul_pos (by omega) (by decide)) fo64_1 rfl) ?_
 refine fS rfl (LE1 i 1 (Value.slice xa.1 x.Syncs.length xa.2) rfl tk62 (has_own_n (n := l.Clocks.length) 1 rfl (zip_len (by rw [mixA_len hl4_1 (by omega)]; exact has))) hxm rfl (by decide) rfl) ?_
 refine fS rfl (IA i rfl (has_own_n (n := l.Clocks.length) 1 rfl (zip_len (by rw [mixA_len hl4_1 (by omega)]; exact has))) te25 (by decide) (by omega) (by omega)) ?_
 refine fS rfl (FAR ((i * 2) + 1) rfl (has_own_n (n := l.Clocks.length) 1 rfl (zip_len (by rw [mixA_len hl4_1 (by omega)]; exact has))) (Nat.mul_pos (by omega) (by decide)) fo64_1 rfl) ?_
 refine d_fin rfl ?_
 refine t5_cons rfl fun T20 hT20 => ?_
 refine r_bs0 rfl te62 rfl fun b21 => ?_
 refine r_nil (hT20 _ _ (fun w hs => St.sel [1, 3, 4, 5, 6, 7, 8, 9] rfl rfl hs) (fun w hs => St.sel [1, 2, 3, 4, 5, 6, 7, 8, 9] rfl rfl hs) ?_)
 refine t5_cons rfl fun T22 hT22 => ?_
 refine r_blk_own (es := (List.map SyncV.cells [])) (C' := [own (some ⟨b21, 0, none⟩) 0 61 3 (List.map SyncV.cells []), _, _, _, _, _, _, _, _, _]) 0 rfl (by simp) rfl (by simp [maxLen]) rfl ?_
 refine r_append (es2 := (List.map SyncV.cells x.Syncs)) (m' := x.Syncs.length) 0 rfl rfl rfl ta62 rfl rfl (by simp) (show Has _ (rd xa.1 x.Syncs.length 3 (x.Syncs.map SyncV.cells)).holds from (has_inr 8 rfl (mem_nest hx hxa (by simp [ClockM.rds])))) (one_SyncV_cells _) (by have := hgr.2.2.2 x (List.mem_of_getElem? hx); simp; omega) (by have := hgr.2.2.2 x (List.mem_of_getElem? hx); simp only [maxLen]; simp; omega) (by simp) (by simp) rfl fun a23 c24 => ?_
 try dsimp only
 refine r_cap 0 rfl fun hcp => ?_
 refine r_nil (hT22 _ _ (fun w hs => St.sel [1, 3, 4, 5, 6, 7, 8, 9] rfl rfl hs) (fun w hs => St.sel [1, 2, 3, 4, 5, 6, 7, 8, 9] rfl rfl hs) ?_)
 refine t_cons rfl fun T25 hT25 => ?_
 refine r_store_own (k := i) (o := 1) (vs := [(Value.slice a23 x.Syncs.length c24)]) (es' := (List.zipWith ClockM.cells l.Clocks (mixA (bz ++ [(a23, c24)]) az (i + 1)))) (C' := [_, _, (own a11 c12 64 2 (List.zipWith ClockM.cells l.Clocks (mixA (bz ++ [(a23, c24)]) az (i + 1)))), _, _, _, _, _, _, _]) 2 rfl rfl rfl ts62 rfl rfl rfl rfl hxm rfl (by decide) (by exact zip_set (nw := (a23, c24)) hx hl4_1 hxa) rfl ?_
 refine r_nil (hT25 _ _ (fun w hs => St.sel [1, 3, 4, 5, 6, 7, 8, 9] rfl rfl hs) ?_)
 refine t_fin rfl ?_
 refine k_block ?_
 refine KK hK19 ?_
 refine w_region ?_
 refine rS (MV rfl) ?_
 refine rS (BI rfl (b_add ⟨by omega, by omega⟩)) ?_
 refine rS (AG rfl) ?_
 refine r_nil ?_
 refine k_tie (X' := nest ClockM.owns (l.Clocks.take (i + 1)) (bz ++ [(a23, c24)])) 1 0 rfl rfl (nest_succ (nw := (a23, c24)) hx hl4_1) ?_
 have hb26 : (Value.int .i64 (((i + 1) : Nat) : Int)) = (Value.int .i64 (((i : Nat) : Int) + 1)) := by exact congrArg (Value.int .i64) (by omega)
 refine k_then (hJ15 ⟨((i + 1), (bz ++ [(a23, c24)])), ⟨by omega, by simp; omega, cap_succ hl4_2 hl4_1 hx (by simpa using hcp)⟩⟩ _ _ _ rfl (by first | omega | (simp; omega)) (Sub.cons rfl <| Sub.cons rfl <| sub_val rfl hb26 <| Sub.nil _) (fun w hs => St.sel [0, 1, 2, 3, 4, 5, 6, 7, 8] rfl rfl hs))
end
section
open Go.RowKit
set_option linter.unusedVariables false
theorem gk146 : GKey Try.prog 146 tallyU := gkey_of fl146 (fun x y w => eqI146 9998 x y w) (fun x y h => by cases x; cases y; simp [TallyV.cells] at h; simp [h]) (fun x => by simp [TallyV.cells, Instr.sameBits]) (fun x w => ⟨_, rfl, fun p hp => by
    simp only [List.mem_cons, List.not_mem_nil, or_false] at hp
    rcases hp with rfl | rfl
    · exact ⟨⟨_, part_one tk3 rfl w⟩, _, ut3⟩
    · exact ⟨⟨_, part_one tk3 rfl w⟩, _, ut3⟩⟩)
set_option maxRecDepth 100000 in
set_option maxHeartbeats 400000 in
theorem one_c (s : Int) :
    FnV Try.prog 99 [(Value.int .i64 s)] [] (Value.agg (TallyV.cells (oneT s)).toArray) := by
 refine fnV_of go99 Try.func99 rfl rfl fun w0 Q hQ hN => ?_
 try dsimp only
 refine WS fun _ hK1 => ?_
 refine AL rfl tz146 fun b2 => ?_
 refine RK hK1 ?_
 refine w_seq fun _ hK3 => ?_
 refine WS fun _ hK4 => ?_
 refine rS (MV rfl) ?_
 refine rS (BI rfl b_lss) ?_
 refine RK hK4 ?_
 refine w_if rfl (fun h4 => ?_) (fun h4 => ?_)
 · replace h4 := DT h4
   refine WS fun _ hK5 => ?_
   refine rS (SX (sd_build (xs := [(1, .const (Value.int .i64 1))]) (cs := (TallyV.cells (TallyV.mk 0 1))) rfl rfl (built_of tb146 rfl)) rfl rfl) ?_
   refine SW0 rfl ts146 rfl ?_
   refine RK hK5 ?_
   refine w_ret ?_
   refine hQ _ _ _ (l_nil (vs := [(Value.agg (TallyV.cells (TallyV.mk 0 1)).toArray)]) ⟨⟨_, rfl, .inl ⟨_, _, tk146, at_blk (vs := (TallyV.cells (TallyV.mk 0 1))) 0 rfl rfl, rfl, rfl⟩⟩, trivial⟩ fun w hs => endV ?_ hs)
   show (Value.agg (TallyV.cells (TallyV.mk 0 1)).toArray) = (Value.agg (TallyV.cells (oneT s)).toArray)
   clear hs w hQ hN hK5 hK4 hK3 hK1
   unfold oneT; first | rw [if_pos h4] | rw [if_neg h4]
 replace h4 := DF h4
 refine WK hK3 ?_
 refine WS fun _ hK6 => ?_
 refine rS (SX (sd_build (xs := [(0, .const (Value.int .i64 1))]) (cs := (TallyV.cells (TallyV.mk 1 0))) rfl rfl (built_of tb146 rfl)) rfl rfl) ?_
 refine SW0 rfl ts146 rfl ?_
 refine RK hK6 ?_
 refine w_ret ?_
 refine hQ _ _ _ (l_nil (vs := [(Value.agg (TallyV.cells (TallyV.mk 1 0)).toArray)]) ⟨⟨_, rfl, .inl ⟨_, _, tk146, at_blk (vs := (TallyV.cells (TallyV.mk 1 0))) 0 rfl rfl, rfl, rfl⟩⟩, trivial⟩ fun w hs => endV ?_ hs)
 show (Value.agg (TallyV.cells (TallyV.mk 1 0)).toArray) = (Value.agg (TallyV.cells (oneT s)).toArray)
 clear hs w hQ hN hK6 hK4 hK3 hK1
 unfold oneT; first | rw [if_pos h4] | rw [if_neg h4]
set_option maxRecDepth 100000 in
set_option maxHeartbeats 400000 in
theorem tplus_c (x : TallyV) (y : TallyV) (hx : (0 ≤ x.right ∧ x.right ≤ 1000) ∧ 0 ≤ x.missed ∧ x.missed ≤ 1000) (hy : (0 ≤ y.right ∧ y.right ≤ 1000) ∧ 0 ≤ y.missed ∧ y.missed ≤ 1000) :
    FnV Try.prog 98 [(Value.agg (TallyV.cells x).toArray), (Value.agg (TallyV.cells y).toArray)] [] (Value.agg (TallyV.cells (addT x y)).toArray) := by
 refine fnV_of go98 Try.func98 rfl rfl fun w0 Q hQ hN => ?_
 try dsimp only
 refine WS fun _ hK1 => ?_
 refine BXA rfl fun b2 => ?_
 refine BXA rfl fun b3 => ?_
 refine AL rfl tz146 fun b4 => ?_
 refine RK hK1 ?_
 refine WS fun _ hK5 => ?_
 refine rS (FA 0 rfl fo146_0 rfl) ?_
 refine rS (L1 (Value.int .i64 x.right) 2 rfl tk3 rfl rfl) ?_
 refine rS (FA 0 rfl fo146_0 rfl) ?_
 refine rS (L1 (Value.int .i64 y.right) 1 rfl tk3 rfl rfl) ?_
 refine rS (BI rfl (b_add ⟨by omega, by omega⟩)) ?_
 refine rS (FA 1 rfl fo146_1 rfl) ?_
 refine rS (L1 (Value.int .i64 x.missed) 2 rfl tk3 rfl rfl) ?_
 refine rS (FA 1 rfl fo146_1 rfl) ?_
 refine rS (L1 (Value.int .i64 y.missed) 1 rfl tk3 rfl rfl) ?_
 refine rS (BI rfl (b_add ⟨by omega, by omega⟩)) ?_
 refine rS (SX (sd_build (xs := [(0, .tmp 9), (1, .tmp 14)]) (cs := (TallyV.cells (TallyV.mk (x.right + y.right) (x.missed + y.missed)))) rfl rfl (built_of tb146 rfl)) rfl rfl) ?_
 refine SW0 rfl ts146 rfl ?_
 refine RK hK5 ?_
 refine w_ret ?_
 refine hQ _ _ _ (l_nil (vs := [(Value.agg (TallyV.cells (TallyV.mk (x.right + y.right) (x.missed + y.missed))).toArray)]) ⟨⟨_, rfl, .inl ⟨_, _, tk146, at_blk (vs := (TallyV.cells (TallyV.mk (x.right + y.right) (x.missed + y.missed)))) 0 rfl rfl, rfl, rfl⟩⟩, trivial⟩ fun w hs => endV ?_ hs)
 show (Value.agg (TallyV.cells (TallyV.mk (x.right + y.right) (x.missed + y.missed))).toArray) = (Value.agg (TallyV.cells (addT x y)).toArray)
 clear hs w hQ hN hK5 hK1
 rfl
set_option maxRecDepth 100000 in
set_option maxHeartbeats 400000 in
theorem may_c (ln : LineV) (ri : RideV) (e : List Int) (tms : List TM) (e_A : Option Addr) (e_C : Nat) (tb : List Nat) (t_A : Option Addr) (t_C : Nat) (fs : List FM) (bs : List FM) (fb : List Nat) (f_A : Option Addr) (f_C : Nat) (bb : List Nat) (b_A : Option Addr) (b_C : Nat) (gw : Nat) (x : TallyV) (hx : (0 ≤ x.right ∧ x.right ≤ 1000) ∧ 0 ≤ x.missed ∧ x.missed ≤ 1000) (hn : ri.Signals.n ≤ 1000) :
    FnV Try.prog 95 [(Value.pointer (some ⟨gw, 0, none⟩)), (Value.agg (TallyV.cells x).toArray)] [(rd e_A e.length 1 (e.map iC)), (rd t_A tms.length 1 (List.zipWith mapC tms tb)), (bun (nest tmR tms tb)), (rd f_A fs.length 1 (List.zipWith mapC fs fb)), (bun (nest fmR fs fb)), (rd b_A bs.length 1 (List.zipWith mapC bs bb)), (bun (nest fmR bs bb)), (blk gw 142 (WatchV.cells (WatchV.mk ln ri (Slc.mk e_A e.length e_C) (Slc.mk t_A tms.length t_C) (Slc.mk f_A fs.length f_C) (Slc.mk b_A bs.length b_C))))] (Value.bool (mayT (watchOf ln ri e tms) x)) := by
 refine fnV_of go95 Try.func95 rfl rfl fun w0 Q hQ hN => ?_
 try dsimp only
 refine WS fun _ hK1 => ?_
 refine BXA rfl fun b2 => ?_
 refine rS (AG rfl) ?_
 refine RK hK1 ?_
 refine w_seq fun _ hK3 => ?_
 refine w_draw mixed 26 (by kernel_rfl) ?_
 refine dS (FA 1 rfl fo146_1 rfl) ?_
 refine dS (L1 (Value.int .i64 x.missed) 0 rfl tk3 rfl rfl) ?_
 refine dS (MV rfl) ?_
 refine dS (SX (sd_nil_p rfl rfl) rfl rfl) ?_
 refine dS (FA 0 rfl fo142_0 rfl) ?_
 refine dS (FA 6 rfl fo28_6 rfl) ?_
 refine dS (L1R (Value.int .i64 ln.Misses) 8 rfl tk3 rfl rfl) ?_
 refine dS (BI rfl b_leq) ?_
 refine dS (MV rfl) ?_
 refine d_bool (t := 13) rfl (fun h13 => ?_) (fun h13 => ?_)
 rotate_left 1
 · replace h13 := DF h13
   refine dS (OX rfl) ?_
   refine dS (OX rfl) ?_
   refine dS (OX rfl) ?_
   refine dS (OX rfl) ?_
   refine dS (OX rfl) ?_
   refine dS (OX rfl) ?_
   refine dS (OX rfl) ?_
   refine dS (OX rfl) ?_
   refine dS (OX rfl) ?_
   refine dS (OX rfl) ?_
   refine dS (OX rfl) ?_
   refine dS (OX rfl) ?_
   refine dS (OX rfl) ?_
   refine dS (OX rfl) ?_
   refine dS (OX rfl) ?_
   refine dS (PK rfl) ?_
   refine dS (AG rfl) ?_
   refine d_end ?_
   refine RK hK3 ?_
   refine w_ret ?_
   refine Q1 hQ rfl rfl rfl ?_
   first | exact congrArg Value.bool (decide_eq_false (fun h => h13 h.1)).symm | exact congrArg Value.bool (decide_eq_decide.2 ⟨fun h => ⟨h13, h⟩, fun h => h.2⟩)
 replace h13 := DT h13
 refine dS (MV rfl) ?_
 refine dS (SX (sd_nil_p rfl rfl) rfl rfl) ?_
 refine dS (FA 7 rfl fo142_1 rfl) ?_
 refine dS (FA 9 rfl fo69_2 rfl) ?_
 refine dS (L1R (Value.slice ri.Signals.a ri.Signals.n ri.Signals.c) 8 rfl tk67 rfl rfl) ?_
 refine dS (LN rfl ut67) ?_
 refine dS (FA 0 rfl fo146_0 rfl) ?_
 refine dS (L1 (Value.int .i64 x.right) 0 rfl tk3 rfl rfl) ?_
 refine dS (BI rfl (b_sub ⟨by omega, by omega⟩)) ?_
 refine dS (MV rfl) ?_
 refine dS (SX (sd_nil_p rfl rfl) rfl rfl) ?_
 refine dS (FA 0 rfl fo142_0 rfl) ?_
 refine dS (FA 5 rfl fo28_5 rfl) ?_
 refine dS (L1R (Value.int .i64 ln.Fakes) 8 rfl tk3 rfl rfl) ?_
 refine dS (BI rfl b_leq) ?_
 refine dS (PK rfl) ?_
 refine dS (AG rfl) ?_
 refine d_end ?_
 refine RK hK3 ?_
 refine w_ret ?_
 refine Q1 hQ rfl rfl rfl ?_
 first | exact congrArg Value.bool (decide_eq_false (fun h => h13 h.1)).symm | exact congrArg Value.bool (decide_eq_decide.2 ⟨fun h => ⟨h13, h⟩, fun h => h.2⟩)
end
section
open Go.RowKit
set_option linter.unusedVariables false
set_option maxRecDepth 100000 in
set_option maxHeartbeats 400000 in
theorem numbers_c (ln : LineV) (ri : RideV) (e : List Int) (tms : List TM) (e_A : Option Addr) (e_C : Nat) (tb : List Nat) (t_A : Option Addr) (t_C : Nat) (fs : List FM) (bs : List FM) (fb : List Nat) (f_A : Option Addr) (f_C : Nat) (bb : List Nat) (b_A : Option Addr) (b_C : Nat) (gw : Nat) (hw : WOk (watchOf ln ri e tms)) (hsg : ri.Signals.n ≤ 1000) (hn : ln.Beams.n = e.length) (hfw : FwdOk (watchOf ln ri e tms) fs) (hfb : fb.length = fs.length) :
    FnX Try.prog 62 [(Value.pointer (some ⟨gw, 0, none⟩))] [(rd e_A e.length 1 (e.map iC)), (rd t_A tms.length 1 (List.zipWith mapC tms tb)), (bun (nest tmR tms tb)), (rd f_A fs.length 1 (List.zipWith mapC fs fb)), (bun (nest fmR fs fb)), (rd b_A bs.length 1 (List.zipWith mapC bs bb)), (bun (nest fmR bs bb)), (blk gw 142 (WatchV.cells (WatchV.mk ln ri (Slc.mk e_A e.length e_C) (Slc.mk t_A tms.length t_C) (Slc.mk f_A fs.length f_C) (Slc.mk b_A bs.length b_C))))] (fun (x : (Option Addr) × Nat) => (Value.slice x.1 ((numsF (watchOf ln ri e tms)).length) x.2)) (fun (x : (Option Addr) × Nat) => True) (fun (x : (Option Addr) × Nat) => [(own x.1 x.2 3 1 ((numsF (watchOf ln ri e tms)).map iC))]) := by
 have hw6 : e.length ≤ 6 := hw.n
 have hfl : fs.length = e.length + 1 := hfw.len
 refine fnX_of go62 Try.func62 rfl rfl fun w0 Q hQ hN => ?_
 try dsimp only
 refine WS fun _ hK1 => ?_
 refine rS (AG rfl) ?_
 refine RK hK1 ?_
 refine WS fun _ hK2 => ?_
 refine rS (AG rfl) ?_
 refine RK hK2 ?_
 refine w_seq fun _ hK3 => ?_
 refine WS fun _ hK4 => ?_
 refine rS (MV rfl) ?_
 refine rS (SX (sd_nil_p rfl rfl) rfl rfl) ?_
 refine rS (FA 0 rfl fo142_0 rfl) ?_
 refine rS (FA 3 rfl fo28_3 rfl) ?_
 refine rS (L1R (Value.slice ln.Beams.a ln.Beams.n ln.Beams.c) 7 rfl tk26 rfl rfl) ?_
 refine rS (LN rfl ut26) ?_
 refine rS (BI rfl (b_add ⟨by omega, by omega⟩)) ?_
 refine rS (MV rfl) ?_
 refine RK hK4 ?_
 refine w_block ?_
 refine w_own_nil 3 1 ?_
 have hinit : (0 ≤ e.length + 1) := by exact Nat.zero_le _
 refine w_loop (ι := { z : Nat × (Option Addr) × Nat // (z.1 ≤ e.length + 1) }) (fun z => [(0, (Value.pointer (some ⟨gw, 0, none⟩))), (3, (Value.slice z.1.2.1 ((numsTo (watchOf ln ri e tms) z.1.1).length) z.1.2.2)), (12, (Value.int .i64 (((ln.Beams.n : Nat) : Int) + 1))), (13, (Value.int .i64 ((z.1.1 : Nat) : Int)))]) (fun z => [(own z.1.2.1 z.1.2.2 3 1 ((numsTo (watchOf ln ri e tms) z.1.1).map iC)), (rd e_A e.length 1 (e.map iC)).ro, (rd t_A tms.length 1 (List.zipWith mapC tms tb)).ro, (bun (nest tmR tms tb)).ro, (rd f_A fs.length 1 (List.zipWith mapC fs fb)).ro, (bun (nest fmR fs fb)).ro, (rd b_A bs.length 1 (List.zipWith mapC bs bb)).ro, (bun (nest fmR bs bb)).ro, (blk gw 142 (WatchV.cells (WatchV.mk ln ri (Slc.mk e_A e.length e_C) (Slc.mk t_A tms.length t_C) (Slc.mk f_A fs.length f_C) (Slc.mk b_A bs.length b_C)))).ro]) (fun z => e.length + 1 - z.1.1) ⟨(0, none, 0), hinit⟩ (Sub.cons rfl <| Sub.cons rfl <| Sub.cons rfl <| Sub.cons rfl <| Sub.nil _) (fun w hs => St.sel [0, 1, 2, 3, 4, 5, 6, 7, 8] rfl rfl hs) ?_
 clear hinit
 rintro ⟨⟨n, a, c⟩, hl3_0⟩ J5 hJ5
 try dsimp only at hl3_0
 try dsimp only
 refine WS fun _ hK6 => ?_
 refine rS (BI rfl b_lss) ?_
 refine RK hK6 ?_
 refine w_seq fun _ hK7 => ?_
 refine w_if rfl (fun h8 => ?_) (fun h8 => ?_)
 rotate_left 1
 · replace h8 := DF h8
   refine w_exit ?_
   refine k_exit_then ?_
   refine k_exit_then ?_
   refine k_exit_same ?_
   refine KK hK3 ?_
   refine WS fun _ hK26 => ?_
   rw [show numsTo (watchOf ln ri e tms) n = numsF (watchOf ln ri e tms) by (obtain rfl : n = e.length + 1 := by omega); rfl]
   refine rS (MV rfl) ?_
   refine rS (AG rfl) ?_
   refine RK hK26 ?_
   refine w_ret ?_
   refine hQ _ _ _ (l_nil (vs := [(Value.slice a ((numsF (watchOf ln ri e tms)).length) c)]) ⟨rfl, trivial⟩ fun w hs => endX (a, c) [0] ?_ ?_ rfl rfl rfl hs)
   · rfl
   · trivial
 replace h8 := DT h8
 refine WK hK7 ?_
 refine w_seq fun _ hK9 => ?_
 refine w_block ?_
 refine WS fun _ hK10 => ?_
 refine rS (MV rfl) ?_
 refine rS (AG rfl) ?_
 refine RK hK10 ?_
 refine WS fun _ hK11 => ?_
 refine rS (MV rfl) ?_
 refine rS (SX (sd_nil_p rfl rfl) rfl rfl) ?_
 refine rS (FA 12 rfl fo142_4 rfl) ?_
 refine rS (L1R (Value.slice f_A fs.length f_C) 8 rfl tk140 rfl rfl) ?_
 refine rS (MV rfl) ?_
 obtain ⟨m, hm0⟩ : ∃ y_, fs[n]? = some y_ := ⟨fs[n]'(by omega), List.getElem?_eq_getElem _⟩
 obtain ⟨ma, hm0a⟩ : ∃ y_, fb[n]? = some y_ := ⟨fb[n]'(by omega), List.getElem?_eq_getElem _⟩
 have hm0m : (List.zipWith mapC fs fb)[n]? = some (mapC m ma) := zip_get hm0 hm0a
 refine rS (IA n rfl (has_at 4 rfl) te140 (by decide) (by omega) (by omega)) ?_
 refine rS (LE1 n 0 (Value.map (some ma)) rfl tk144 (has_at 4 rfl) hm0m rfl (by decide) rfl) ?_
 refine gr_mrangeR (kV := tallyU) (m := gmapV iV m) 5 rfl rfl ut144 rfl ⟨⟨(gmp tallyU ma (gmapV iV m)), (mem_nest hm0 hm0a (by simp [fmR])), rfl⟩, fun h => h⟩ (show Has _ (gmp tallyU ma (gmapV iV m)).holds from has_inr 5 rfl (mem_nest hm0 hm0a (by simp [fmR]))) rfl fun r12 => ?_
 try dsimp only
 refine RK hK11 ?_
 refine w_block ?_
 have hinit : (∀ p ∈ m, p ∈ m) ∧ (∀ p ∈ m, p ∈ m ∨ mayT (watchOf ln ri e tms) p.1 = false) := by exact ⟨fun p hp => hp, fun p hp => .inl hp⟩
 refine w_loop (ι := { z : FM // (∀ p ∈ z, p ∈ m) ∧ (∀ p ∈ m, p ∈ z ∨ mayT (watchOf ln ri e tms) p.1 = false) }) (fun z => [(0, (Value.pointer (some ⟨gw, 0, none⟩))), (3, (Value.slice a ((numsTo (watchOf ln ri e tms) n).length) c)), (4, (Value.int .i64 ((n : Nat) : Int))), (12, (Value.int .i64 (((ln.Beams.n : Nat) : Int) + 1))), (13, (Value.int .i64 ((n : Nat) : Int))), (23, (Value.pointer (some ⟨r12, 0, none⟩)))]) (fun z => [(gmr tallyU r12 ma (gmapV iV m) (gmapV iV z.1) none), (own a c 3 1 ((numsTo (watchOf ln ri e tms) n).map iC)), (rd e_A e.length 1 (e.map iC)).ro, (rd t_A tms.length 1 (List.zipWith mapC tms tb)).ro, (bun (nest tmR tms tb)).ro, (rd f_A fs.length 1 (List.zipWith mapC fs fb)).ro, (bun (nest fmR fs fb)).ro, (rd b_A bs.length 1 (List.zipWith mapC bs bb)).ro, (bun (nest fmR bs bb)).ro, (blk gw 142 (WatchV.cells (WatchV.mk ln ri (Slc.mk e_A e.length e_C) (Slc.mk t_A tms.length t_C) (Slc.mk f_A fs.length f_C) (Slc.mk b_A bs.length b_C)))).ro]) (fun z => z.1.length) ⟨m, hinit⟩ (Sub.cons rfl <| Sub.cons rfl <| Sub.cons rfl <| Sub.cons rfl <| Sub.cons rfl <| Sub.cons rfl <| Sub.nil _) (fun w hs => St.sel [0, 1, 2, 3, 4, 5, 6, 7, 8, 9] rfl rfl hs) ?_
 clear hinit
 rintro ⟨left, ⟨hl6_0, hl6_1⟩⟩ J13 hJ13
 try dsimp only
 refine WS fun _ hK14 => ?_
 refine gr_mnextR_v gk146.inj (f := iV) 0 rfl rfl rfl rfl (fun h24 => ?_) (fun t v hm hnd => ?_)
 · refine rS (EX rfl) ?_
   refine RK hK14 ?_
   refine w_seq fun _ hK15 => ?_
   refine w_if_false rfl ?_
   refine w_exit ?_
   refine k_exit_then ?_
   refine k_exit_then ?_
   refine k_exit_same ?_
   refine k_block ?_
   refine KK hK9 ?_
   refine w_region ?_
   refine rS (BI rfl (b_add ⟨by omega, by omega⟩)) ?_
   refine rS (MV rfl) ?_
   refine r_nil ?_
   rw [← numsTo_no (w := (watchOf ln ri e tms)) (k := n) ((may_maps (hfw.min _ _ hm0) (hfw.keys _ _ hm0)).symm.trans (may_none hl6_1 h24))]
   have hb16 : (Value.int .i64 (((n + 1) : Nat) : Int)) = (Value.int .i64 (((n : Nat) : Int) + 1)) := by exact congrArg (Value.int .i64) (by omega)
   refine k_then (hJ5 ⟨((n + 1), a, c), (by first | omega | (simp only []; omega))⟩ _ _ _ rfl (by first | omega | (simp; omega)) (Sub.cons rfl <| Sub.cons rfl <| Sub.cons rfl <| sub_val rfl hb16 <| Sub.nil _) (fun w hs => St.sel [1, 2, 3, 4, 5, 6, 7, 8, 9] rfl rfl hs))
 try dsimp only
 refine rS (EX rfl) ?_
 refine RK hK14 ?_
 refine w_seq fun _ hK17 => ?_
 refine w_if_true rfl ?_
 refine WK hK17 ?_
 refine w_block ?_
 refine WS fun _ hK18 => ?_
 refine rS (SX (gsd_mentryR 0 rfl rfl rfl) rfl rfl) ?_
 refine rS (EX rfl) ?_
 refine AL rfl tz146 fun b19 => ?_
 refine SW0 rfl ts146 rfl ?_
 refine RK hK18 ?_
 refine WS fun _ hK20 => ?_
 refine rS (MV rfl) ?_
 refine rS (LW 0 rfl tk146 rfl rfl) ?_
 have htb := fwd_b hw _ _ (hfw.mem hm0 (hl6_0 _ hm))
 dsimp only at htb
 refine rS (CL (may_c ln ri e tms e_A e_C tb t_A t_C fs bs fb f_A f_C bb b_A b_C gw t (by first | assumption | omega | (simp; done) | (simp; omega)) hsg) (ha_at 3 rfl rfl <| ha_at 4 rfl rfl <| ha_at 5 rfl rfl <| ha_at 6 rfl rfl <| ha_at 7 rfl rfl <| ha_at 8 rfl rfl <| ha_at 9 rfl rfl <| ha_at 10 rfl rfl <| ha_nil) rfl) ?_
 refine RK hK20 ?_
 refine w_if rfl (fun h30 => ?_) (fun h30 => ?_)
 rotate_left 1
 · refine w_skip ?_
   refine k_block ?_
   refine k_imp (C' := [(blk b19 146 (TallyV.cells t)), (gmr tallyU r12 ma (gmapV iV m) (gmapV iV (gdelK left t)) none), (own a c 3 1 ((numsTo (watchOf ln ri e tms) n).map iC)), (rd e_A e.length 1 (e.map iC)).ro, (rd t_A tms.length 1 (List.zipWith mapC tms tb)).ro, (bun (nest tmR tms tb)).ro, (rd f_A fs.length 1 (List.zipWith mapC fs fb)).ro, (bun (nest fmR fs fb)).ro, (rd b_A bs.length 1 (List.zipWith mapC bs bb)).ro, (bun (nest fmR bs bb)).ro, (blk gw 142 (WatchV.cells (WatchV.mk ln ri (Slc.mk e_A e.length e_C) (Slc.mk t_A tms.length t_C) (Slc.mk f_A fs.length f_C) (Slc.mk b_A bs.length b_C)))).ro]) 1 rfl gmr_none rfl ?_
   refine k_then (hJ13 ⟨(gdelK left t), ⟨left_sub hl6_0, may_step hnd hm hl6_1 (by first | exact h30 | simpa using h30)⟩⟩ _ _ _ rfl (gdelK_lt hm) (Sub.cons rfl <| Sub.cons rfl <| Sub.cons rfl <| Sub.cons rfl <| Sub.cons rfl <| Sub.cons rfl <| Sub.nil _) (fun w hs => St.sel [1, 2, 3, 4, 5, 6, 7, 8, 9, 10] rfl rfl hs))
 refine WS fun _ hK21 => ?_
 refine rS (MV rfl) ?_
 refine rS (MV rfl) ?_
 refine r_bs (xs := [.tmp 32]) (cs := [(Value.int .i64 ((n : Nat) : Int))]) rfl te57 tz3 rfl rfl rfl rfl (by simp [Value.cells]) rfl rfl fun b22 => ?_
 have hy : mayAny (watchOf ln ri e tms) (fwd (watchOf ln ri e tms) n) = true := (may_maps (hfw.min _ _ hm0) (hfw.keys _ _ hm0)).symm.trans (may_yes (hl6_0 _ hm) h30)
 refine r_append (es2 := (List.map iC (numsTo (watchOf ln ri e tms) (n + 1)))) (m' := (numsTo (watchOf ln ri e tms) (n + 1)).length) 3 rfl rfl rfl ta57 rfl rfl (by simp) (has_rd_blk (es := List.map iC [((n : Nat) : Int)]) 0 rfl rfl (by simp [iC_length]) rfl) (one_iC _) (by have := numsTo_len (w := (watchOf ln ri e tms)) (k := n); first | omega | (simp; omega)) (by have := numsTo_len (w := (watchOf ln ri e tms)) (k := n); simp only [maxLen]; omega) (by rw [numsTo_yes hy]; simp) (by simp) rfl fun a23 c24 => ?_
 try dsimp only
 refine rS (AG rfl) ?_
 refine RK hK21 ?_
 refine w_exit ?_
 refine k_exit_other rfl ?_
 refine k_exit_then ?_
 refine k_exit_same ?_
 refine k_block ?_
 refine KK hK9 ?_
 refine w_region ?_
 refine rS (BI rfl (b_add ⟨by omega, by omega⟩)) ?_
 refine rS (MV rfl) ?_
 refine r_nil ?_
 have hb25 : (Value.int .i64 (((n + 1) : Nat) : Int)) = (Value.int .i64 (((n : Nat) : Int) + 1)) := by exact congrArg (Value.int .i64) (by omega)
 refine k_then (hJ5 ⟨((n + 1), a23, c24), (by first | omega | (simp only []; omega))⟩ _ _ _ rfl (by first | omega | (simp; omega)) (Sub.cons rfl <| Sub.cons rfl <| Sub.cons rfl <| sub_val rfl hb25 <| Sub.nil _) (fun w hs => St.sel [3, 4, 5, 6, 7, 8, 9, 10, 11] rfl rfl hs))
end
section
open Go.RowKit
set_option linter.unusedVariables false
set_option maxRecDepth 100000 in
set_option maxHeartbeats 400000 in
theorem options1_c (ln : LineV) (ri : RideV) (e : List Int) (tms : List TM) (e_A : Option Addr) (e_C : Nat) (tb : List Nat) (t_A : Option Addr) (t_C : Nat) (fA : Option Addr) (fN : Nat) (fC : Nat) (bA : Option Addr) (bN : Nat) (bC : Nat) (gw : Nat) (b : Nat) (g1 : Nat) (g2 : Nat) (hb : b < tms.length) (htb : tb.length = tms.length) :
    SeqG Try.prog 111 [] [(Value.pointer (some ⟨g1, 0, none⟩)), (Value.pointer (some ⟨g2, 0, none⟩))] [(rd e_A e.length 1 (e.map iC)), (rd t_A tms.length 1 (List.zipWith mapC tms tb)), (bun (nest tmR tms tb)), (blk gw 142 (WatchV.cells (WatchV.mk ln ri (Slc.mk e_A e.length e_C) (Slc.mk t_A tms.length t_C) (Slc.mk fA fN fC) (Slc.mk bA bN bC)))), (blk g1 107 [(Value.pointer (some ⟨gw, 0, none⟩))]), (blk g2 3 [(Value.int .i64 ((b : Nat) : Int))])] ([] : List (Int × SpanV)) (fun ys x ys' => ∃ o, o ∈ opts (watchOf ln ri e tms) b ∧ x = itemV o ∧ ys' = ys ++ [o]) (fun ys => ∀ o ∈ opts (watchOf ln ri e tms) b, o ∈ ys) := by
 refine seqG_of go111 Try.func111 rfl rfl fun l J Z A0 w0 Q hY hJ0 hF0 hQ hN => ?_
 try dsimp only
 refine w_seq fun _ hK1 => ?_
 refine w_seq fun _ hK2 => ?_
 refine w_draw mixed 12 (by kernel_rfl) ?_
 refine dS (MV rfl) ?_
 refine dS (L1Q 5 rfl tk107 rfl) ?_
 refine dS (SX (sd_nil_p rfl rfl) rfl rfl) ?_
 refine dS (FA 7 rfl fo142_1 rfl) ?_
 refine dS (FA 7 rfl fo69_0 rfl) ?_
 refine dS (L1R (Value.int .i64 ri.Start) 4 rfl tk3 rfl rfl) ?_
 refine dS (L1Q 5 rfl tk107 rfl) ?_
 refine dS (SX (sd_nil_p rfl rfl) rfl rfl) ?_
 refine dS (FA 7 rfl fo142_1 rfl) ?_
 refine dS (FA 8 rfl fo69_1 rfl) ?_
 refine dS (L1R (Value.int .i64 ri.Now) 4 rfl tk3 rfl rfl) ?_
 refine dS (SX (sd_build (xs := [(0, .tmp 11), (1, .tmp 16)]) (cs := (SpanV.cells (SpanV.mk ri.Start ri.Now))) rfl rfl (built_of tb34 rfl)) rfl rfl) ?_
 refine d_end ?_
 refine r_yieldG (k := ([] : List (Int × SpanV))) (k' := (([] : List (Int × SpanV)) ++ [((-1), (SpanV.mk ri.Start ri.Now))])) 0 (by first | exact hsz | exact Nat.le_refl _) hY hJ0 hF0 rfl rfl rfl (by exact ⟨(-1, ⟨ri.Start, ri.Now⟩), List.mem_cons_self .., rfl, rfl⟩) rfl rfl (fun B3 hJ4 hF5 => ?_) (fun B3 hJ4 hF5 => ?_)
 rotate_left 1
 · refine rS (NT rfl) ?_
   refine RK hK2 ?_
   refine w_if_true rfl ?_
   refine w_ret ?_
   refine hQ _ _ _ (l_nil (vs := []) trivial fun w hs => endGz 0 rfl hJ4 hF5 hs)
 refine rS (NT rfl) ?_
 refine RK hK2 ?_
 refine w_if_false rfl ?_
 refine WK hK1 ?_
 refine w_seq fun _ hK6 => ?_
 refine w_draw mixed 7 (by kernel_rfl) ?_
 refine dS (L1Q 5 rfl tk107 rfl) ?_
 refine dS (SX (sd_nil_p rfl rfl) rfl rfl) ?_
 refine dS (FA 11 rfl fo142_3 rfl) ?_
 refine dS (L1R (Value.slice t_A tms.length t_C) 4 rfl tk139 rfl rfl) ?_
 refine dS (L1Q 6 rfl tk3 rfl) ?_
 obtain ⟨x, hx⟩ : ∃ y_, tms[b]? = some y_ := ⟨tms[b]'(by omega), List.getElem?_eq_getElem _⟩
 obtain ⟨xa, hxa⟩ : ∃ y_, tb[b]? = some y_ := ⟨tb[b]'(by omega), List.getElem?_eq_getElem _⟩
 have hxm : (List.zipWith mapC tms tb)[b]? = some (mapC x xa) := zip_get hx hxa
 refine dS (IA b rfl (has_at 2 rfl) te139 (by decide) (by omega) (by omega)) ?_
 refine dS (LE1 b 0 (Value.map (some xa)) rfl tk143 (has_at 2 rfl) hxm rfl (by decide) rfl) ?_
 refine d_end ?_
 refine gr_mrangeR (kV := iV) (m := gmapV spanU x) 3 rfl rfl ut143 rfl ⟨⟨(gmp iV xa (gmapV spanU x)), (mem_nest hx hxa (by simp [tmR])), rfl⟩, fun h => h⟩ (show Has _ (gmp iV xa (gmapV spanU x)).holds from has_inr 3 rfl (mem_nest hx hxa (by simp [tmR]))) rfl fun r7 => ?_
 try dsimp only
 refine RK hK6 ?_
 refine w_block ?_
 have hinit : (∀ o ∈ x, o ∈ x ∨ o ∈ (([] : List (Int × SpanV)) ++ [((-1), (SpanV.mk ri.Start ri.Now))])) ∧ (∀ o ∈ x, o ∈ x) ∧ (J (([] : List (Int × SpanV)) ++ [((-1), (SpanV.mk ri.Start ri.Now))]) B3) ∧ (Fo A0 w0 B3) ∧ ((-1, (⟨ri.Start, ri.Now⟩ : SpanV)) ∈ (([] : List (Int × SpanV)) ++ [((-1), (SpanV.mk ri.Start ri.Now))])) := by exact ⟨fun o ho => .inl ho, fun o ho => ho, by assumption, by assumption, by simp⟩
 refine w_loop (ι := { z : TM × (List (Int × SpanV)) × Assn // (∀ o ∈ x, o ∈ z.1 ∨ o ∈ z.2.1) ∧ (∀ o ∈ z.1, o ∈ x) ∧ (J z.2.1 z.2.2) ∧ (Fo A0 w0 z.2.2) ∧ ((-1, (⟨ri.Start, ri.Now⟩ : SpanV)) ∈ z.2.1) }) (fun z => [(0, (Value.func (.yield l) #[] #[])), (1, (Value.pointer (some ⟨g1, 0, none⟩))), (2, (Value.pointer (some ⟨g2, 0, none⟩))), (27, (Value.pointer (some ⟨r7, 0, none⟩)))]) (fun z => [(gmr iV r7 xa (gmapV spanU x) (gmapV spanU z.1.1) none), z.1.2.2, (rd e_A e.length 1 (e.map iC)).ro, (rd t_A tms.length 1 (List.zipWith mapC tms tb)).ro, (bun (nest tmR tms tb)).ro, (blk g1 107 [(Value.pointer (some ⟨gw, 0, none⟩))]).ro, (blk g2 3 [(Value.int .i64 ((b : Nat) : Int))]).ro]) (fun z => z.1.1.length) ⟨(x, (([] : List (Int × SpanV)) ++ [((-1), (SpanV.mk ri.Start ri.Now))]), B3), hinit⟩ (Sub.cons rfl <| Sub.cons rfl <| Sub.cons rfl <| Sub.cons rfl <| Sub.nil _) (fun w hs => St.sel [0, 1, 2, 3, 4, 6, 7] rfl rfl hs) ?_
 clear hinit
 rintro ⟨⟨left, ys, A⟩, ⟨hl2_0, hl2_1, hl2_2, hl2_3, hl2_4⟩⟩ J8 hJ8
 try dsimp only at hl2_0 hl2_1 hl2_2 hl2_3 hl2_4
 try dsimp only
 refine WS fun _ hK9 => ?_
 refine gr_mnextR_v (gkey_int ut3).inj (f := spanU) 0 rfl rfl rfl rfl (fun h28 => ?_) (fun i z hm hn => ?_)
 · refine rS (EX rfl) ?_
   refine RK hK9 ?_
   refine w_seq fun _ hK10 => ?_
   refine w_if_false rfl ?_
   refine w_exit ?_
   refine k_exit_then ?_
   refine k_exit_then ?_
   refine k_exit_same ?_
   refine hN _ _ _ (l_nil (vs := []) trivial fun w hs => endG 1 rfl (by exact opts_done hx hl2_0 h28 hl2_4) hl2_2 hl2_3 hs)
 try dsimp only
 refine rS (EX rfl) ?_
 refine RK hK9 ?_
 refine w_seq fun _ hK11 => ?_
 refine w_if_true rfl ?_
 refine WK hK11 ?_
 refine w_block ?_
 refine WS fun _ hK12 => ?_
 refine rS (SX (gsd_mentryR 0 rfl rfl rfl) rfl rfl) ?_
 refine rS (EX rfl) ?_
 refine rS (EX rfl) ?_
 refine AL rfl tz34 fun b13 => ?_
 refine rS (AG rfl) ?_
 refine SW0 rfl ts34 rfl ?_
 refine RK hK12 ?_
 refine WS fun _ hK14 => ?_
 refine rS (MV rfl) ?_
 refine rS (MV rfl) ?_
 refine rS (LW 0 rfl tk34 rfl rfl) ?_
 refine r_yieldG (k := ys) (k' := (ys ++ [(i, z)])) 2 (by first | exact hsz | exact Nat.le_refl _) hY hl2_2 hl2_3 rfl rfl rfl (by exact ⟨(i, z), (opts_times hx).2 (.inr (hl2_1 _ hm)), rfl, rfl⟩) rfl rfl (fun B15 hJ16 hF17 => ?_) (fun B15 hJ16 hF17 => ?_)
 rotate_left 1
 · refine rS (NT rfl) ?_
   refine RK hK14 ?_
   refine w_if_true rfl ?_
   refine w_ret ?_
   refine hQ _ _ _ (l_nil (vs := []) trivial fun w hs => endGz 2 rfl hJ16 hF17 hs)
 refine rS (NT rfl) ?_
 refine RK hK14 ?_
 refine w_if_false rfl ?_
 refine w_skip ?_
 refine k_block ?_
 refine k_imp (C' := [(blk b13 34 (SpanV.cells z)), (gmr iV r7 xa (gmapV spanU x) (gmapV spanU (gdelK left i)) none), B15, (rd e_A e.length 1 (e.map iC)).ro, (rd t_A tms.length 1 (List.zipWith mapC tms tb)).ro, (bun (nest tmR tms tb)).ro, (blk g1 107 [(Value.pointer (some ⟨gw, 0, none⟩))]).ro, (blk g2 3 [(Value.int .i64 ((b : Nat) : Int))]).ro]) 1 rfl gmr_none rfl ?_
 refine k_then (hJ8 ⟨((gdelK left i), (ys ++ [(i, z)]), B15), ⟨left_step hn hm hl2_0, left_sub hl2_1, by assumption, by assumption, by simp [hl2_4]⟩⟩ _ _ _ rfl (gdelK_lt hm) (Sub.cons rfl <| Sub.cons rfl <| Sub.cons rfl <| Sub.cons rfl <| Sub.nil _) (fun w hs => St.sel [1, 2, 3, 4, 5, 6, 7] rfl rfl hs))
set_option maxRecDepth 100000 in
set_option maxHeartbeats 400000 in
theorem options_c (gw : Nat) (b : Nat) :
    FnX Try.prog 97 [(Value.pointer (some ⟨gw, 0, none⟩)), (Value.int .i64 ((b : Nat) : Int))] [] (fun (x : Nat × Nat) => (Value.func (.func 111) [].toArray [(Value.pointer (some ⟨x.1, 0, none⟩)), (Value.pointer (some ⟨x.2, 0, none⟩))].toArray)) (fun (x : Nat × Nat) => True) (fun (x : Nat × Nat) => [(blk x.1 107 [(Value.pointer (some ⟨gw, 0, none⟩))]), (blk x.2 3 [(Value.int .i64 ((b : Nat) : Int))])]) := by
 refine fnX_of go97 Try.func97 rfl rfl fun w0 Q hQ hN => ?_
 try dsimp only
 refine WS fun _ hK1 => ?_
 refine BX1 rfl rfl fun b2 => ?_
 refine BX1 rfl rfl fun b3 => ?_
 refine rS (AG rfl) ?_
 refine RK hK1 ?_
 refine WS fun _ hK4 => ?_
 refine rS (FU rfl) ?_
 refine rS (AG rfl) ?_
 refine RK hK4 ?_
 refine w_ret ?_
 refine hQ _ _ _ (l_nil (vs := [(Value.func (.func 111) [].toArray [(Value.pointer (some ⟨b2, 0, none⟩)), (Value.pointer (some ⟨b3, 0, none⟩))].toArray)]) ⟨rfl, trivial⟩ fun w hs => endX (b2, b3) [1, 0] ?_ ?_ rfl rfl rfl hs)
 · rfl
 · trivial
set_option maxRecDepth 100000 in
set_option maxHeartbeats 400000 in
theorem passes_c (gw : Nat) (b : Nat) :
    FnX Try.prog 64 [(Value.pointer (some ⟨gw, 0, none⟩)), (Value.int .i64 ((b : Nat) : Int))] [] (fun (x : Nat × Nat) => (Value.func (.func 96) [].toArray [(Value.pointer (some ⟨x.1, 0, none⟩)), (Value.pointer (some ⟨x.2, 0, none⟩))].toArray)) (fun (x : Nat × Nat) => True) (fun (x : Nat × Nat) => [(blk x.1 107 [(Value.pointer (some ⟨gw, 0, none⟩))]), (blk x.2 3 [(Value.int .i64 ((b : Nat) : Int))])]) := by
 refine fnX_of go64 Try.func64 rfl rfl fun w0 Q hQ hN => ?_
 try dsimp only
 refine WS fun _ hK1 => ?_
 refine BX1 rfl rfl fun b2 => ?_
 refine BX1 rfl rfl fun b3 => ?_
 refine rS (AG rfl) ?_
 refine RK hK1 ?_
 refine WS fun _ hK4 => ?_
 refine rS (FU rfl) ?_
 refine rS (AG rfl) ?_
 refine RK hK4 ?_
 refine w_ret ?_
 refine hQ _ _ _ (l_nil (vs := [(Value.func (.func 96) [].toArray [(Value.pointer (some ⟨b2, 0, none⟩)), (Value.pointer (some ⟨b3, 0, none⟩))].toArray)]) ⟨rfl, trivial⟩ fun w hs => endX (b2, b3) [1, 0] ?_ ?_ rfl rfl rfl hs)
 · rfl
 · trivial
end
end Go.Proofs.Ytaehngpnlkokkaa
