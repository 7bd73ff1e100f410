/-
  Walks: kreisel/kreiselref05.Same
-/
import Derived.Test.YtaehngpnlkokkaaTab
import Derived.Test.YtaehngpnlkokkaaShort
import Derived.Test.YtaehngpnlkokkaaTwin
import Derived.Test.YtaehngpnlkokkaaB1
namespace Go.Proofs.Ytaehngpnlkokkaa
open Go.RowKit
set_option linter.unusedVariables false

set_option maxRecDepth 100000 in
set_option maxHeartbeats 400000 in
theorem lsame_c (l : LineM) (kA : Option Addr) (kC : Nat) (az : List RA) (cA : Option Addr) (cC : Nat) (bA : Option Addr) (bC : Nat) (m : LineM) (k2A : Option Addr) (k2C : Nat) (az2 : List RA) (c2A : Option Addr) (c2C : Nat) (b2A : Option Addr) (b2C : Nat) (hin : LineIn l az) (hin2 : LineIn m az2) (hsm : ¬ GreatL l) (hsm2 : ¬ GreatL m) :
    FnV Try.prog 21 [(Value.agg (LineV.cells (LineV.mk (TrackV.mk (Slc.mk kA l.Track.length kC)) l.Fast (Slc.mk cA l.Clocks.length cC) (Slc.mk bA l.Beams.length bC) l.Finish l.Fakes l.Misses)).toArray), (Value.agg (LineV.cells (LineV.mk (TrackV.mk (Slc.mk k2A m.Track.length k2C)) m.Fast (Slc.mk c2A m.Clocks.length c2C) (Slc.mk b2A m.Beams.length b2C) m.Finish m.Fakes m.Misses)).toArray)] [(rd kA l.Track.length 9 (l.Track.map StretchV.cells)), (rd cA l.Clocks.length 2 (List.zipWith ClockM.cells l.Clocks az)), (bun (nest ClockM.rds l.Clocks az)), (rd bA l.Beams.length 4 (l.Beams.map BeamV.cells)), (rd k2A m.Track.length 9 (m.Track.map StretchV.cells)), (rd c2A m.Clocks.length 2 (List.zipWith ClockM.cells m.Clocks az2)), (bun (nest ClockM.rds m.Clocks az2)), (rd b2A m.Beams.length 4 (m.Beams.map BeamV.cells))] (Value.bool (decide (l = m))) := by
 have htk := hin.trk
 have hck := hin.cks
 have has := hin.as_
 have hbm := hin.bms
 have htk2 := hin2.trk
 have hck2 := hin2.cks
 have has2 := hin2.as_
 have hbm2 := hin2.bms
 have hgr := small_of hsm
 have hgr2 := small_of hsm2
 refine fnV_of go21 Try.func21 rfl rfl fun w0 Q hQ hN => ?_
 change WJ _ _ _ _ [(0, (Value.agg (LineV.cells (LineV.mk (TrackV.mk (Slc.mk kA l.Track.length kC)) l.Fast (Slc.mk cA l.Clocks.length cC) (Slc.mk bA l.Beams.length bC) l.Finish l.Fakes l.Misses)).toArray)), (1, (Value.agg (LineV.cells (LineV.mk (TrackV.mk (Slc.mk k2A m.Track.length k2C)) m.Fast (Slc.mk c2A m.Clocks.length c2C) (Slc.mk b2A m.Beams.length b2C) m.Finish m.Fakes m.Misses)).toArray))] [(rd kA l.Track.length 9 (l.Track.map StretchV.cells)).ro, (rd cA l.Clocks.length 2 (List.zipWith ClockM.cells l.Clocks az)).ro, (bun (nest ClockM.rds l.Clocks az)).ro, (rd bA l.Beams.length 4 (l.Beams.map BeamV.cells)).ro, (rd k2A m.Track.length 9 (m.Track.map StretchV.cells)).ro, (rd c2A m.Clocks.length 2 (List.zipWith ClockM.cells m.Clocks az2)).ro, (bun (nest ClockM.rds m.Clocks az2)).ro, (rd b2A m.Beams.length 4 (m.Beams.map BeamV.cells)).ro]
 refine WS fun _ hK1 => ?_
 refine BXA rfl fun b2 => ?_
 refine BXA rfl fun b3 => ?_
 refine rS (AG rfl) ?_
 refine RK hK1 ?_
 refine w_seq fun _ hK4 => ?_
 refine WS fun _ hK5 => ?_
 refine rS (FA 0 rfl fo28_0 rfl) ?_
 refine rS (LP (TrackV.cells (TrackV.mk (Slc.mk kA l.Track.length kC))) 1 rfl tk24 rfl rfl rfl) ?_
 refine rS (FA 0 rfl fo28_0 rfl) ?_
 refine rS (LP (TrackV.cells (TrackV.mk (Slc.mk k2A m.Track.length k2C))) 0 rfl tk24 rfl rfl rfl) ?_
 refine rS (CL (same_c l.Track kA kC m.Track k2A k2C (by first | assumption | omega | (simp; done) | (simp; omega)) (by first | assumption | omega | (simp; done) | (simp; omega))) (ha_at 2 rfl rfl <| ha_at 6 rfl rfl <| ha_nil) rfl) ?_
 refine rS (NT rfl) ?_
 refine rS (MV rfl) ?_
 refine r_bool (t := 16) rfl (fun h16 => ?_) (fun h16 => ?_)
 · replace h16 := XT h16
   refine rS (OX rfl) ?_
   refine rS (OX rfl) ?_
   refine rS (OX rfl) ?_
   refine rS (OX rfl) ?_
   refine rS (OX rfl) ?_
   refine rS (PK rfl) ?_
   refine rS (MV rfl) ?_
   refine rS (OX rfl) ?_
   refine rS (OX rfl) ?_
   refine rS (OX rfl) ?_
   refine rS (OX rfl) ?_
   refine rS (OX rfl) ?_
   refine rS (PK rfl) ?_
   refine rS (MV rfl) ?_
   refine rS (OX rfl) ?_
   refine rS (OX rfl) ?_
   refine rS (OX rfl) ?_
   refine rS (OX rfl) ?_
   refine rS (OX rfl) ?_
   refine rS (PK rfl) ?_
   refine rS (MV rfl) ?_
   refine rS (OX rfl) ?_
   refine rS (OX rfl) ?_
   refine rS (OX rfl) ?_
   refine rS (OX rfl) ?_
   refine rS (OX rfl) ?_
   refine rS (PK rfl) ?_
   refine rS (MV rfl) ?_
   refine rS (OX rfl) ?_
   refine rS (OX rfl) ?_
   refine rS (OX rfl) ?_
   refine rS (OX rfl) ?_
   refine rS (OX rfl) ?_
   refine rS (OX rfl) ?_
   refine rS (OX rfl) ?_
   refine rS (PK rfl) ?_
   refine rS (MV rfl) ?_
   refine rS (OX rfl) ?_
   refine rS (OX rfl) ?_
   refine rS (OX rfl) ?_
   refine rS (OX rfl) ?_
   refine rS (OX rfl) ?_
   refine rS (OX rfl) ?_
   refine rS (OX rfl) ?_
   refine rS (PK rfl) ?_
   refine RK hK5 ?_
   refine w_if_true rfl ?_
   refine WS fun _ hK6 => ?_
   refine rS (AG rfl) ?_
   refine RK hK6 ?_
   refine w_ret ?_
   refine Q1 hQ rfl rfl rfl ?_
   first | exact congrArg Value.bool (decide_eq_false (fun e => by subst e; first | exact h16 rfl | omega)).symm | exact congrArg Value.bool (decide_eq_false (fun e => by subst e; rw [hp] at hq; cases hq; exact h128 rfl)).symm | exact congrArg Value.bool (decide_eq_false (fun e => by subst e; rw [hx] at hy; cases hy; first | (rw [hz] at hu; cases hu; exact h110 rfl) | omega)).symm | exact congrArg Value.bool (decide_eq_true (line_same h16 (by omega) (by omega) (by omega) (by omega) (lists_eq (by omega) hl4_1 (by omega)) (lists_eq (by omega) hl15_1 (by omega)))).symm
 replace h16 := XF h16
 refine rS (FA 1 rfl fo28_1 rfl) ?_
 refine rS (L1 (Value.int .i64 l.Fast) 1 rfl tk3 rfl rfl) ?_
 refine rS (FA 1 rfl fo28_1 rfl) ?_
 refine rS (L1 (Value.int .i64 m.Fast) 0 rfl tk3 rfl rfl) ?_
 refine rS (BI rfl b_neq) ?_
 refine rS (PK rfl) ?_
 refine rS (MV rfl) ?_
 refine r_bool (t := 23) rfl (fun h23 => ?_) (fun h23 => ?_)
 · replace h23 := XT h23
   refine rS (OX rfl) ?_
   refine rS (OX rfl) ?_
   refine rS (OX rfl) ?_
   refine rS (OX rfl) ?_
   refine rS (OX rfl) ?_
   refine rS (PK rfl) ?_
   refine rS (MV rfl) ?_
   refine rS (OX rfl) ?_
   refine rS (OX rfl) ?_
   refine rS (OX rfl) ?_
   refine rS (OX rfl) ?_
   refine rS (OX rfl) ?_
   refine rS (PK rfl) ?_
   refine rS (MV rfl) ?_
   refine rS (OX rfl) ?_
   refine rS (OX rfl) ?_
   refine rS (OX rfl) ?_
   refine rS (OX rfl) ?_
   refine rS (OX rfl) ?_
   refine rS (PK rfl) ?_
   refine rS (MV rfl) ?_
   refine rS (OX rfl) ?_
   refine rS (OX rfl) ?_
   refine rS (OX rfl) ?_
   refine rS (OX rfl) ?_
   refine rS (OX rfl) ?_
   refine rS (OX rfl) ?_
   refine rS (OX rfl) ?_
   refine rS (PK rfl) ?_
   refine rS (MV rfl) ?_
   refine rS (OX rfl) ?_
   refine rS (OX rfl) ?_
   refine rS (OX rfl) ?_
   refine rS (OX rfl) ?_
   refine rS (OX rfl) ?_
   refine rS (OX rfl) ?_
   refine rS (OX rfl) ?_
   refine rS (PK rfl) ?_
   refine RK hK5 ?_
   refine w_if_true rfl ?_
   refine WS fun _ hK7 => ?_
   refine rS (AG rfl) ?_
   refine RK hK7 ?_
   refine w_ret ?_
   refine Q1 hQ rfl rfl rfl ?_
   first | exact congrArg Value.bool (decide_eq_false (fun e => by subst e; first | exact h16 rfl | omega)).symm | exact congrArg Value.bool (decide_eq_false (fun e => by subst e; rw [hp] at hq; cases hq; exact h128 rfl)).symm | exact congrArg Value.bool (decide_eq_false (fun e => by subst e; rw [hx] at hy; cases hy; first | (rw [hz] at hu; cases hu; exact h110 rfl) | omega)).symm | exact congrArg Value.bool (decide_eq_true (line_same h16 (by omega) (by omega) (by omega) (by omega) (lists_eq (by omega) hl4_1 (by omega)) (lists_eq (by omega) hl15_1 (by omega)))).symm
 replace h23 := XF h23
 refine rS (FA 4 rfl fo28_4 rfl) ?_
 refine rS (L1 (Value.int .i64 l.Finish) 1 rfl tk3 rfl rfl) ?_
 refine rS (FA 4 rfl fo28_4 rfl) ?_
 refine rS (L1 (Value.int .i64 m.Finish) 0 rfl tk3 rfl rfl) ?_
 refine rS (BI rfl b_neq) ?_
 refine rS (PK rfl) ?_
 refine rS (MV rfl) ?_
 refine r_bool (t := 30) rfl (fun h30 => ?_) (fun h30 => ?_)
 · replace h30 := XT h30
   refine rS (OX rfl) ?_
   refine rS (OX rfl) ?_
   refine rS (OX rfl) ?_
   refine rS (OX rfl) ?_
   refine rS (OX rfl) ?_
   refine rS (PK rfl) ?_
   refine rS (MV rfl) ?_
   refine rS (OX rfl) ?_
   refine rS (OX rfl) ?_
   refine rS (OX rfl) ?_
   refine rS (OX rfl) ?_
   refine rS (OX rfl) ?_
   refine rS (PK rfl) ?_
   refine rS (MV rfl) ?_
   refine rS (OX rfl) ?_
   refine rS (OX rfl) ?_
   refine rS (OX rfl) ?_
   refine rS (OX rfl) ?_
   refine rS (OX rfl) ?_
   refine rS (OX rfl) ?_
   refine rS (OX rfl) ?_
   refine rS (PK rfl) ?_
   refine rS (MV rfl) ?_
   refine rS (OX rfl) ?_
   refine rS (OX rfl) ?_
   refine rS (OX rfl) ?_
   refine rS (OX rfl) ?_
   refine rS (OX rfl) ?_
   refine rS (OX rfl) ?_
   refine rS (OX rfl) ?_
   refine rS (PK rfl) ?_
   refine RK hK5 ?_
   refine w_if_true rfl ?_
   refine WS fun _ hK8 => ?_
   refine rS (AG rfl) ?_
   refine RK hK8 ?_
   refine w_ret ?_
   refine Q1 hQ rfl rfl rfl ?_
   first | exact congrArg Value.bool (decide_eq_false (fun e => by subst e; first | exact h16 rfl | omega)).symm | exact congrArg Value.bool (decide_eq_false (fun e => by subst e; rw [hp] at hq; cases hq; exact h128 rfl)).symm | exact congrArg Value.bool (decide_eq_false (fun e => by subst e; rw [hx] at hy; cases hy; first | (rw [hz] at hu; cases hu; exact h110 rfl) | omega)).symm | exact congrArg Value.bool (decide_eq_true (line_same h16 (by omega) (by omega) (by omega) (by omega) (lists_eq (by omega) hl4_1 (by omega)) (lists_eq (by omega) hl15_1 (by omega)))).symm
 replace h30 := XF h30
 refine rS (FA 5 rfl fo28_5 rfl) ?_
 refine rS (L1 (Value.int .i64 l.Fakes) 1 rfl tk3 rfl rfl) ?_
 refine rS (FA 5 rfl fo28_5 rfl) ?_
 refine rS (L1 (Value.int .i64 m.Fakes) 0 rfl tk3 rfl rfl) ?_
 refine rS (BI rfl b_neq) ?_
 refine rS (PK rfl) ?_
 refine rS (MV rfl) ?_
 refine r_bool (t := 37) rfl (fun h37 => ?_) (fun h37 => ?_)
 · replace h37 := XT h37
   refine rS (OX rfl) ?_
   refine rS (OX rfl) ?_
   refine rS (OX rfl) ?_
   refine rS (OX rfl) ?_
   refine rS (OX rfl) ?_
   refine rS (PK rfl) ?_
   refine rS (MV rfl) ?_
   refine rS (OX rfl) ?_
   refine rS (OX rfl) ?_
   refine rS (OX rfl) ?_
   refine rS (OX rfl) ?_
   refine rS (OX rfl) ?_
   refine rS (OX rfl) ?_
   refine rS (OX rfl) ?_
   refine rS (PK rfl) ?_
   refine rS (MV rfl) ?_
   refine rS (OX rfl) ?_
   refine rS (OX rfl) ?_
   refine rS (OX rfl) ?_
   refine rS (OX rfl) ?_
   refine rS (OX rfl) ?_
   refine rS (OX rfl) ?_
   refine rS (OX rfl) ?_
   refine rS (PK rfl) ?_
   refine RK hK5 ?_
   refine w_if_true rfl ?_
   refine WS fun _ hK9 => ?_
   refine rS (AG rfl) ?_
   refine RK hK9 ?_
   refine w_ret ?_
   refine Q1 hQ rfl rfl rfl ?_
   first | exact congrArg Value.bool (decide_eq_false (fun e => by subst e; first | exact h16 rfl | omega)).symm | exact congrArg Value.bool (decide_eq_false (fun e => by subst e; rw [hp] at hq; cases hq; exact h128 rfl)).symm | exact congrArg Value.bool (decide_eq_false (fun e => by subst e; rw [hx] at hy; cases hy; first | (rw [hz] at hu; cases hu; exact h110 rfl) | omega)).symm | exact congrArg Value.bool (decide_eq_true (line_same h16 (by omega) (by omega) (by omega) (by omega) (lists_eq (by omega) hl4_1 (by omega)) (lists_eq (by omega) hl15_1 (by omega)))).symm
 replace h37 := XF h37
 refine rS (FA 6 rfl fo28_6 rfl) ?_
 refine rS (L1 (Value.int .i64 l.Misses) 1 rfl tk3 rfl rfl) ?_
 refine rS (FA 6 rfl fo28_6 rfl) ?_
 refine rS (L1 (Value.int .i64 m.Misses) 0 rfl tk3 rfl rfl) ?_
 refine rS (BI rfl b_neq) ?_
 refine rS (PK rfl) ?_
 refine rS (MV rfl) ?_
 refine r_bool (t := 44) rfl (fun h44 => ?_) (fun h44 => ?_)
 · replace h44 := XT h44
   refine rS (OX rfl) ?_
   refine rS (OX rfl) ?_
   refine rS (OX rfl) ?_
   refine rS (OX rfl) ?_
   refine rS (OX rfl) ?_
   refine rS (OX rfl) ?_
   refine rS (OX rfl) ?_
   refine rS (PK rfl) ?_
   refine rS (MV rfl) ?_
   refine rS (OX rfl) ?_
   refine rS (OX rfl) ?_
   refine rS (OX rfl) ?_
   refine rS (OX rfl) ?_
   refine rS (OX rfl) ?_
   refine rS (OX rfl) ?_
   refine rS (OX rfl) ?_
   refine rS (PK rfl) ?_
   refine RK hK5 ?_
   refine w_if_true rfl ?_
   refine WS fun _ hK10 => ?_
   refine rS (AG rfl) ?_
   refine RK hK10 ?_
   refine w_ret ?_
   refine Q1 hQ rfl rfl rfl ?_
   first | exact congrArg Value.bool (decide_eq_false (fun e => by subst e; first | exact h16 rfl | omega)).symm | exact congrArg Value.bool (decide_eq_false (fun e => by subst e; rw [hp] at hq; cases hq; exact h128 rfl)).symm | exact congrArg Value.bool (decide_eq_false (fun e => by subst e; rw [hx] at hy; cases hy; first | (rw [hz] at hu; cases hu; exact h110 rfl) | omega)).symm | exact congrArg Value.bool (decide_eq_true (line_same h16 (by omega) (by omega) (by omega) (by omega) (lists_eq (by omega) hl4_1 (by omega)) (lists_eq (by omega) hl15_1 (by omega)))).symm
 replace h44 := XF h44
 refine rS (FA 2 rfl fo28_2 rfl) ?_
 refine rS (L1 (Value.slice cA l.Clocks.length cC) 1 rfl tk25 rfl rfl) ?_
 refine rS (LN rfl ut25) ?_
 refine rS (FA 2 rfl fo28_2 rfl) ?_
 refine rS (L1 (Value.slice c2A m.Clocks.length c2C) 0 rfl tk25 rfl rfl) ?_
 refine rS (LN rfl ut25) ?_
 refine rS (BI rfl b_neq) ?_
 refine rS (PK rfl) ?_
 refine rS (MV rfl) ?_
 refine r_bool (t := 53) rfl (fun h53 => ?_) (fun h53 => ?_)
 · replace h53 := XT h53
   refine rS (OX rfl) ?_
   refine rS (OX rfl) ?_
   refine rS (OX rfl) ?_
   refine rS (OX rfl) ?_
   refine rS (OX rfl) ?_
   refine rS (OX rfl) ?_
   refine rS (OX rfl) ?_
   refine rS (PK rfl) ?_
   refine RK hK5 ?_
   refine w_if_true rfl ?_
   refine WS fun _ hK11 => ?_
   refine rS (AG rfl) ?_
   refine RK hK11 ?_
   refine w_ret ?_
   refine Q1 hQ rfl rfl rfl ?_
   first | exact congrArg Value.bool (decide_eq_false (fun e => by subst e; first | exact h16 rfl | omega)).symm | exact congrArg Value.bool (decide_eq_false (fun e => by subst e; rw [hp] at hq; cases hq; exact h128 rfl)).symm | exact congrArg Value.bool (decide_eq_false (fun e => by subst e; rw [hx] at hy; cases hy; first | (rw [hz] at hu; cases hu; exact h110 rfl) | omega)).symm | exact congrArg Value.bool (decide_eq_true (line_same h16 (by omega) (by omega) (by omega) (by omega) (lists_eq (by omega) hl4_1 (by omega)) (lists_eq (by omega) hl15_1 (by omega)))).symm
 replace h53 := XF h53
 refine rS (FA 3 rfl fo28_3 rfl) ?_
 refine rS (L1 (Value.slice bA l.Beams.length bC) 1 rfl tk26 rfl rfl) ?_
 refine rS (LN rfl ut26) ?_
 refine rS (FA 3 rfl fo28_3 rfl) ?_
 refine rS (L1 (Value.slice b2A m.Beams.length b2C) 0 rfl tk26 rfl rfl) ?_
 refine rS (LN rfl ut26) ?_
 refine rS (BI rfl b_neq) ?_
 refine rS (PK rfl) ?_
 refine RK hK5 ?_
 refine w_if rfl (fun h61 => ?_) (fun h61 => ?_)
 · replace h61 := XT h61
   refine WS fun _ hK12 => ?_
   refine rS (AG rfl) ?_
   refine RK hK12 ?_
   refine w_ret ?_
   refine Q1 hQ rfl rfl rfl ?_
   first | exact congrArg Value.bool (decide_eq_false (fun e => by subst e; first | exact h16 rfl | omega)).symm | exact congrArg Value.bool (decide_eq_false (fun e => by subst e; rw [hp] at hq; cases hq; exact h128 rfl)).symm | exact congrArg Value.bool (decide_eq_false (fun e => by subst e; rw [hx] at hy; cases hy; first | (rw [hz] at hu; cases hu; exact h110 rfl) | omega)).symm | exact congrArg Value.bool (decide_eq_true (line_same h16 (by omega) (by omega) (by omega) (by omega) (lists_eq (by omega) hl4_1 (by omega)) (lists_eq (by omega) hl15_1 (by omega)))).symm
 replace h61 := XF h61
 refine WK hK4 ?_
 refine w_seq fun _ hK13 => ?_
 refine WS fun _ hK14 => ?_
 refine rS (AG rfl) ?_
 refine RK hK14 ?_
 refine w_block ?_
 have hinit : (0 ≤ l.Clocks.length) ∧ (l.Clocks.take 0 = m.Clocks.take 0) := by simp
 refine w_loop (ι := { z : Nat // (z ≤ l.Clocks.length) ∧ (l.Clocks.take z = m.Clocks.take z) }) (fun z => [(2, (Value.pointer (some ⟨b2, 0, none⟩))), (3, (Value.pointer (some ⟨b3, 0, none⟩))), (5, (Value.int .i64 ((z.1 : Nat) : Int)))]) (fun z => [(blk b3 28 (LineV.cells (LineV.mk (TrackV.mk (Slc.mk k2A m.Track.length k2C)) m.Fast (Slc.mk c2A m.Clocks.length c2C) (Slc.mk b2A m.Beams.length b2C) m.Finish m.Fakes m.Misses))), (blk b2 28 (LineV.cells (LineV.mk (TrackV.mk (Slc.mk kA l.Track.length kC)) l.Fast (Slc.mk cA l.Clocks.length cC) (Slc.mk bA l.Beams.length bC) l.Finish l.Fakes l.Misses))), (rd kA l.Track.length 9 (l.Track.map StretchV.cells)).ro, (rd cA l.Clocks.length 2 (List.zipWith ClockM.cells l.Clocks az)).ro, (bun (nest ClockM.rds l.Clocks az)).ro, (rd bA l.Beams.length 4 (l.Beams.map BeamV.cells)).ro, (rd k2A m.Track.length 9 (m.Track.map StretchV.cells)).ro, (rd c2A m.Clocks.length 2 (List.zipWith ClockM.cells m.Clocks az2)).ro, (bun (nest ClockM.rds m.Clocks az2)).ro, (rd b2A m.Beams.length 4 (m.Beams.map BeamV.cells)).ro]) (fun z => l.Clocks.length - z.1) ⟨0, hinit⟩ (Sub.cons rfl <| Sub.cons rfl <| Sub.cons rfl <| Sub.nil _) (fun w hs => St.sel [0, 1, 2, 3, 4, 5, 6, 7, 8, 9] rfl rfl hs) ?_
 clear hinit
 rintro ⟨i, ⟨hl4_0, hl4_1⟩⟩ J15 hJ15
 change WJ _ _ _ _ [(2, (Value.pointer (some ⟨b2, 0, none⟩))), (3, (Value.pointer (some ⟨b3, 0, none⟩))), (5, (Value.int .i64 ((i : Nat) : Int)))] [(blk b3 28 (LineV.cells (LineV.mk (TrackV.mk (Slc.mk k2A m.Track.length k2C)) m.Fast (Slc.mk c2A m.Clocks.length c2C) (Slc.mk b2A m.Beams.length b2C) m.Finish m.Fakes m.Misses))), (blk b2 28 (LineV.cells (LineV.mk (TrackV.mk (Slc.mk kA l.Track.length kC)) l.Fast (Slc.mk cA l.Clocks.length cC) (Slc.mk bA l.Beams.length bC) l.Finish l.Fakes l.Misses))), (rd kA l.Track.length 9 (l.Track.map StretchV.cells)).ro, (rd cA l.Clocks.length 2 (List.zipWith ClockM.cells l.Clocks az)).ro, (bun (nest ClockM.rds l.Clocks az)).ro, (rd bA l.Beams.length 4 (l.Beams.map BeamV.cells)).ro, (rd k2A m.Track.length 9 (m.Track.map StretchV.cells)).ro, (rd c2A m.Clocks.length 2 (List.zipWith ClockM.cells m.Clocks az2)).ro, (bun (nest ClockM.rds m.Clocks az2)).ro, (rd b2A m.Beams.length 4 (m.Beams.map BeamV.cells)).ro]
 refine w_seq fun _ hK16 => ?_
 refine WS fun _ hK17 => ?_
 refine rS (MV rfl) ?_
 refine rS (FA 2 rfl fo28_2 rfl) ?_
 refine rS (L1 (Value.slice cA l.Clocks.length cC) 1 rfl tk25 rfl rfl) ?_
 refine rS (LN rfl ut25) ?_
 refine rS (BI rfl b_lss) ?_
 refine RK hK17 ?_
 refine w_if rfl (fun h18 => ?_) (fun h18 => ?_)
 rotate_left 1
 · replace h18 := DF h18
   refine w_exit ?_
   refine k_exit_then ?_
   refine k_exit_then ?_
   refine k_exit_same ?_
   refine KK hK13 ?_
   refine w_seq fun _ hK61 => ?_
   refine WS fun _ hK62 => ?_
   refine rS (AG rfl) ?_
   refine RK hK62 ?_
   refine w_block ?_
   have hinit : (0 ≤ l.Beams.length) ∧ (l.Beams.take 0 = m.Beams.take 0) := by simp
   refine w_loop (ι := { z : Nat // (z ≤ l.Beams.length) ∧ (l.Beams.take z = m.Beams.take z) }) (fun z => [(2, (Value.pointer (some ⟨b2, 0, none⟩))), (3, (Value.pointer (some ⟨b3, 0, none⟩))), (9, (Value.int .i64 ((z.1 : Nat) : Int)))]) (fun z => [(blk b3 28 (LineV.cells (LineV.mk (TrackV.mk (Slc.mk k2A m.Track.length k2C)) m.Fast (Slc.mk c2A m.Clocks.length c2C) (Slc.mk b2A m.Beams.length b2C) m.Finish m.Fakes m.Misses))), (blk b2 28 (LineV.cells (LineV.mk (TrackV.mk (Slc.mk kA l.Track.length kC)) l.Fast (Slc.mk cA l.Clocks.length cC) (Slc.mk bA l.Beams.length bC) l.Finish l.Fakes l.Misses))), (rd kA l.Track.length 9 (l.Track.map StretchV.cells)).ro, (rd cA l.Clocks.length 2 (List.zipWith ClockM.cells l.Clocks az)).ro, (bun (nest ClockM.rds l.Clocks az)).ro, (rd bA l.Beams.length 4 (l.Beams.map BeamV.cells)).ro, (rd k2A m.Track.length 9 (m.Track.map StretchV.cells)).ro, (rd c2A m.Clocks.length 2 (List.zipWith ClockM.cells m.Clocks az2)).ro, (bun (nest ClockM.rds m.Clocks az2)).ro, (rd b2A m.Beams.length 4 (m.Beams.map BeamV.cells)).ro]) (fun z => l.Beams.length - z.1) ⟨0, hinit⟩ (Sub.cons rfl <| Sub.cons rfl <| Sub.cons rfl <| Sub.nil _) (fun w hs => St.sel [0, 1, 2, 3, 4, 5, 6, 7, 8, 9] rfl rfl hs) ?_
   clear hinit
   rintro ⟨n, ⟨hl15_0, hl15_1⟩⟩ J63 hJ63
   change WJ _ _ _ _ [(2, (Value.pointer (some ⟨b2, 0, none⟩))), (3, (Value.pointer (some ⟨b3, 0, none⟩))), (9, (Value.int .i64 ((n : Nat) : Int)))] [(blk b3 28 (LineV.cells (LineV.mk (TrackV.mk (Slc.mk k2A m.Track.length k2C)) m.Fast (Slc.mk c2A m.Clocks.length c2C) (Slc.mk b2A m.Beams.length b2C) m.Finish m.Fakes m.Misses))), (blk b2 28 (LineV.cells (LineV.mk (TrackV.mk (Slc.mk kA l.Track.length kC)) l.Fast (Slc.mk cA l.Clocks.length cC) (Slc.mk bA l.Beams.length bC) l.Finish l.Fakes l.Misses))), (rd kA l.Track.length 9 (l.Track.map StretchV.cells)).ro, (rd cA l.Clocks.length 2 (List.zipWith ClockM.cells l.Clocks az)).ro, (bun (nest ClockM.rds l.Clocks az)).ro, (rd bA l.Beams.length 4 (l.Beams.map BeamV.cells)).ro, (rd k2A m.Track.length 9 (m.Track.map StretchV.cells)).ro, (rd c2A m.Clocks.length 2 (List.zipWith ClockM.cells m.Clocks az2)).ro, (bun (nest ClockM.rds m.Clocks az2)).ro, (rd b2A m.Beams.length 4 (m.Beams.map BeamV.cells)).ro]
   refine w_seq fun _ hK64 => ?_
   refine WS fun _ hK65 => ?_
   refine rS (MV rfl) ?_
   refine rS (FA 3 rfl fo28_3 rfl) ?_
   refine rS (L1 (Value.slice bA l.Beams.length bC) 1 rfl tk26 rfl rfl) ?_
   refine rS (LN rfl ut26) ?_
   refine rS (BI rfl b_lss) ?_
   refine RK hK65 ?_
   refine w_if rfl (fun h66 => ?_) (fun h66 => ?_)
   rotate_left 1
   · replace h66 := DF h66
     refine w_exit ?_
     refine k_exit_then ?_
     refine k_exit_then ?_
     refine k_exit_same ?_
     refine KK hK61 ?_
     refine WS fun _ hK71 => ?_
     refine rS (AG rfl) ?_
     refine RK hK71 ?_
     refine w_ret ?_
     refine Q1 hQ rfl rfl rfl ?_
     first | exact congrArg Value.bool (decide_eq_false (fun e => by subst e; first | exact h16 rfl | omega)).symm | exact congrArg Value.bool (decide_eq_false (fun e => by subst e; rw [hp] at hq; cases hq; exact h128 rfl)).symm | exact congrArg Value.bool (decide_eq_false (fun e => by subst e; rw [hx] at hy; cases hy; first | (rw [hz] at hu; cases hu; exact h110 rfl) | omega)).symm | exact congrArg Value.bool (decide_eq_true (line_same h16 (by omega) (by omega) (by omega) (by omega) (lists_eq (by omega) hl4_1 (by omega)) (lists_eq (by omega) hl15_1 (by omega)))).symm
   replace h66 := DT h66
   refine WK hK64 ?_
   refine w_seq fun _ hK67 => ?_
   refine w_block ?_
   refine w_seq fun _ hK68 => ?_
   refine w_draw mixed 11 (by kernel_rfl) ?_
   refine dS (FA 3 rfl fo28_3 rfl) ?_
   refine dS (L1 (Value.slice bA l.Beams.length bC) 1 rfl tk26 rfl rfl) ?_
   refine dS (MV rfl) ?_
   obtain ⟨p, hp⟩ : ∃ y_, l.Beams[n]? = some y_ := ⟨l.Beams[n]'(by omega), List.getElem?_eq_getElem _⟩
   have hpm : (l.Beams.map BeamV.cells)[n]? = some (BeamV.cells p) := by rw [List.getElem?_map, hp]; rfl
   refine dS (IA n rfl (has_at 5 rfl) te26 (by decide) (by omega) (by omega)) ?_
   refine dS (LEN n 0 (BeamV.cells p) rfl tk55 (has_at 5 rfl) hpm rfl (by decide) rfl rfl) ?_
   refine dS (FA 3 rfl fo28_3 rfl) ?_
   refine dS (L1 (Value.slice b2A m.Beams.length b2C) 0 rfl tk26 rfl rfl) ?_
   refine dS (MV rfl) ?_
   obtain ⟨q, hq⟩ : ∃ y_, m.Beams[n]? = some y_ := ⟨m.Beams[n]'(by omega), List.getElem?_eq_getElem _⟩
   have hqm : (m.Beams.map BeamV.cells)[n]? = some (BeamV.cells q) := by rw [List.getElem?_map, hq]; rfl
   refine dS (IA n rfl (has_at 9 rfl) te26 (by decide) (by omega) (by omega)) ?_
   refine dS (LEN n 0 (BeamV.cells q) rfl tk55 (has_at 9 rfl) hqm rfl (by decide) rfl rfl) ?_
   refine dS (BI rfl (nes55 _ _ p q)) ?_
   refine d_end ?_
   refine RK hK68 ?_
   refine w_if rfl (fun h128 => ?_) (fun h128 => ?_)
   rotate_left 1
   · replace h128 := XF h128
     refine w_skip ?_
     refine k_block ?_
     refine KK hK67 ?_
     refine w_region ?_
     refine rS (MV rfl) ?_
     refine rS (BI rfl (b_add ⟨by omega, by omega⟩)) ?_
     refine rS (AG rfl) ?_
     refine r_nil ?_
     have hb70 : (Value.int .i64 (((n + 1) : Nat) : Int)) = (Value.int .i64 (((n : Nat) : Int) + 1)) := by exact congrArg (Value.int .i64) (by omega)
     refine k_then (hJ63 ⟨(n + 1), ⟨by omega, take_same hl15_1 hp hq h128⟩⟩ _ _ _ rfl (by first | omega | (simp; omega)) (Sub.cons rfl <| Sub.cons rfl <| sub_val rfl hb70 <| Sub.nil _) (fun w hs => St.sel [0, 1, 2, 3, 4, 5, 6, 7, 8, 9] rfl rfl hs))
   replace h128 := XT h128
   refine WS fun _ hK69 => ?_
   refine rS (AG rfl) ?_
   refine RK hK69 ?_
   refine w_ret ?_
   refine Q1 hQ rfl rfl rfl ?_
   first | exact congrArg Value.bool (decide_eq_false (fun e => by subst e; first | exact h16 rfl | omega)).symm | exact congrArg Value.bool (decide_eq_false (fun e => by subst e; rw [hp] at hq; cases hq; exact h128 rfl)).symm | exact congrArg Value.bool (decide_eq_false (fun e => by subst e; rw [hx] at hy; cases hy; first | (rw [hz] at hu; cases hu; exact h110 rfl) | omega)).symm | exact congrArg Value.bool (decide_eq_true (line_same h16 (by omega) (by omega) (by omega) (by omega) (lists_eq (by omega) hl4_1 (by omega)) (lists_eq (by omega) hl15_1 (by omega)))).symm
 replace h18 := DT h18
 refine WK hK16 ?_
 refine w_seq fun _ hK19 => ?_
 refine w_block ?_
 refine w_seq fun _ hK20 => ?_
 refine w_drawN mixed [0, 1, 2, 3, 4, 5, 6, 7, 8, 9] [10, 11, 12, 13] [false, false, false, false, false, false, false, false, false, false] [] [(blk b3 28 (LineV.cells (LineV.mk (TrackV.mk (Slc.mk k2A m.Track.length k2C)) m.Fast (Slc.mk c2A m.Clocks.length c2C) (Slc.mk b2A m.Beams.length b2C) m.Finish m.Fakes m.Misses))), (blk b2 28 (LineV.cells (LineV.mk (TrackV.mk (Slc.mk kA l.Track.length kC)) l.Fast (Slc.mk cA l.Clocks.length cC) (Slc.mk bA l.Beams.length bC) l.Finish l.Fakes l.Misses))), (rd kA l.Track.length 9 (l.Track.map StretchV.cells)).ro, (rd cA l.Clocks.length 2 (List.zipWith ClockM.cells l.Clocks az)).ro, (bun (nest ClockM.rds l.Clocks az)).ro, (rd bA l.Beams.length 4 (l.Beams.map BeamV.cells)).ro, (rd k2A m.Track.length 9 (m.Track.map StretchV.cells)).ro, (rd c2A m.Clocks.length 2 (List.zipWith ClockM.cells m.Clocks az2)).ro, (bun (nest ClockM.rds m.Clocks az2)).ro, (rd b2A m.Beams.length 4 (m.Beams.map BeamV.cells)).ro] [] (by kernel_rfl) (fun w hs => St.sel [0, 1, 2, 3, 4, 5, 6, 7, 8, 9] rfl rfl hs) (fun w hs => St.sel [] rfl rfl hs) ?_
 refine eS rfl (FA 2 rfl fo28_2 rfl) ?_
 refine eS rfl (L1 (Value.slice cA l.Clocks.length cC) 1 rfl tk25 rfl rfl) ?_
 refine eS rfl (MV rfl) ?_
 obtain ⟨x, hx⟩ : ∃ y_, l.Clocks[i]? = some y_ := ⟨l.Clocks[i]'(by omega), List.getElem?_eq_getElem _⟩
 obtain ⟨xa, hxa⟩ : ∃ y_, az[i]? = some y_ := ⟨az[i]'(by omega), List.getElem?_eq_getElem _⟩
 have hxm : (List.zipWith ClockM.cells l.Clocks az)[i]? = some (ClockM.cells x xa) := zip_get hx hxa
 refine eS rfl (IA i rfl (has_at 3 rfl) te25 (by decide) (by omega) (by omega)) ?_
 refine eS rfl (LEN i 0 (ClockV.cells (ClockV.mk x.Drift (Slc.mk xa.1 x.Syncs.length xa.2))) rfl tk64 (has_at 3 rfl) hxm rfl (by decide) rfl rfl) ?_
 refine eS rfl (FA 2 rfl fo28_2 rfl) ?_
 refine eS rfl (L1 (Value.slice c2A m.Clocks.length c2C) 0 rfl tk25 rfl rfl) ?_
 refine eS rfl (MV rfl) ?_
 obtain ⟨y, hy⟩ : ∃ y_, m.Clocks[i]? = some y_ := ⟨m.Clocks[i]'(by omega), List.getElem?_eq_getElem _⟩
 obtain ⟨ya, hya⟩ : ∃ y_, az2[i]? = some y_ := ⟨az2[i]'(by omega), List.getElem?_eq_getElem _⟩
 have hym : (List.zipWith ClockM.cells m.Clocks az2)[i]? = some (ClockM.cells y ya) := zip_get hy hya
 refine eS rfl (IA i rfl (has_at 7 rfl) te25 (by decide) (by omega) (by omega)) ?_
 refine eS rfl (LEN i 0 (ClockV.cells (ClockV.mk y.Drift (Slc.mk ya.1 y.Syncs.length ya.2))) rfl tk64 (has_at 7 rfl) hym rfl (by decide) rfl rfl) ?_
 refine d_fin rfl ?_
 refine n_step [10, 11] (by kernel_rfl) (n_cons ?_ <| n_cons ?_ <| n_nil)
 rotate_left 1
 · refine n_op (rem' := [10, 12, 13]) rfl (by kernel_rfl) rfl fun T41 hT41 => ?_
   refine AL rfl tz64 fun b42 => ?_
   refine r_nil (hT41 _ _ (fun w hs => St.sel [1, 2, 3, 4, 5, 6, 7, 8, 9, 10] rfl rfl hs) ?_)
   refine n_step [10] (by kernel_rfl) (n_cons ?_ <| n_nil)
   refine n_op (rem' := [12, 13]) rfl (by kernel_rfl) rfl fun T43 hT43 => ?_
   refine AL rfl tz64 fun b44 => ?_
   refine r_nil (hT43 _ _ (fun w hs => St.sel [2, 3, 4, 5, 6, 7, 8, 9, 10, 11] rfl rfl hs) ?_)
   refine n_step [12] (by kernel_rfl) (n_cons ?_ <| n_nil)
   refine n_op (rem' := [13]) rfl (by kernel_rfl) rfl fun T45 hT45 => ?_
   refine SW0 rfl ts64 rfl ?_
   refine r_nil (hT45 _ _ (fun w hs => St.sel [2, 3, 4, 5, 6, 7, 8, 9, 10, 11] rfl rfl hs) ?_)
   refine n_step [13] (by kernel_rfl) (n_cons ?_ <| n_nil)
   refine n_op (rem' := []) rfl (by kernel_rfl) rfl fun T46 hT46 => ?_
   refine SW1 rfl ts64 rfl ?_
   refine r_nil (hT46 _ _ (fun w hs => St.sel [2, 3, 4, 5, 6, 7, 8, 9, 10, 11] rfl rfl hs) ?_)
   refine n_fin ?_
   refine KK hK20 ?_
   refine w_seq fun _ hK47 => ?_
   refine WS fun _ hK48 => ?_
   refine rS (FA 0 rfl fo64_0 rfl) ?_
   refine rS (L1 (Value.int .i64 x.Drift) 0 rfl tk3 rfl rfl) ?_
   refine rS (FA 0 rfl fo64_0 rfl) ?_
   refine rS (L1 (Value.int .i64 y.Drift) 1 rfl tk3 rfl rfl) ?_
   refine rS (BI rfl b_neq) ?_
   refine rS (MV rfl) ?_
   refine r_bool (t := 84) rfl (fun h84 => ?_) (fun h84 => ?_)
   · replace h84 := XT h84
     refine rS (OX rfl) ?_
     refine rS (OX rfl) ?_
     refine rS (OX rfl) ?_
     refine rS (OX rfl) ?_
     refine rS (OX rfl) ?_
     refine rS (OX rfl) ?_
     refine rS (OX rfl) ?_
     refine rS (PK rfl) ?_
     refine RK hK48 ?_
     refine w_if_true rfl ?_
     refine WS fun _ hK49 => ?_
     refine rS (AG rfl) ?_
     refine RK hK49 ?_
     refine w_ret ?_
     refine Q1 hQ rfl rfl rfl ?_
     first | exact congrArg Value.bool (decide_eq_false (fun e => by subst e; first | exact h16 rfl | omega)).symm | exact congrArg Value.bool (decide_eq_false (fun e => by subst e; rw [hp] at hq; cases hq; exact h128 rfl)).symm | exact congrArg Value.bool (decide_eq_false (fun e => by subst e; rw [hx] at hy; cases hy; first | (rw [hz] at hu; cases hu; exact h110 rfl) | omega)).symm | exact congrArg Value.bool (decide_eq_true (line_same h16 (by omega) (by omega) (by omega) (by omega) (lists_eq (by omega) hl4_1 (by omega)) (lists_eq (by omega) hl15_1 (by omega)))).symm
   replace h84 := XF h84
   refine rS (FA 1 rfl fo64_1 rfl) ?_
   refine rS (L1 (Value.slice xa.1 x.Syncs.length xa.2) 0 rfl tk62 rfl rfl) ?_
   refine rS (LN rfl ut62) ?_
   refine rS (FA 1 rfl fo64_1 rfl) ?_
   refine rS (L1 (Value.slice ya.1 y.Syncs.length ya.2) 1 rfl tk62 rfl rfl) ?_
   refine rS (LN rfl ut62) ?_
   refine rS (BI rfl b_neq) ?_
   refine rS (PK rfl) ?_
   refine RK hK48 ?_
   refine w_if rfl (fun h92 => ?_) (fun h92 => ?_)
   · replace h92 := XT h92
     refine WS fun _ hK50 => ?_
     refine rS (AG rfl) ?_
     refine RK hK50 ?_
     refine w_ret ?_
     refine Q1 hQ rfl rfl rfl ?_
     first | exact congrArg Value.bool (decide_eq_false (fun e => by subst e; first | exact h16 rfl | omega)).symm | exact congrArg Value.bool (decide_eq_false (fun e => by subst e; rw [hp] at hq; cases hq; exact h128 rfl)).symm | exact congrArg Value.bool (decide_eq_false (fun e => by subst e; rw [hx] at hy; cases hy; first | (rw [hz] at hu; cases hu; exact h110 rfl) | omega)).symm | exact congrArg Value.bool (decide_eq_true (line_same h16 (by omega) (by omega) (by omega) (by omega) (lists_eq (by omega) hl4_1 (by omega)) (lists_eq (by omega) hl15_1 (by omega)))).symm
   replace h92 := XF h92
   refine WK hK47 ?_
   refine WS fun _ hK51 => ?_
   refine rS (AG rfl) ?_
   refine RK hK51 ?_
   refine w_block ?_
   have hinit : (0 ≤ x.Syncs.length) ∧ (x.Syncs.take 0 = y.Syncs.take 0) := by simp
   refine w_loop (ι := { z : Nat // (z ≤ x.Syncs.length) ∧ (x.Syncs.take z = y.Syncs.take z) }) (fun z => [(2, (Value.pointer (some ⟨b2, 0, none⟩))), (3, (Value.pointer (some ⟨b3, 0, none⟩))), (5, (Value.int .i64 ((i : Nat) : Int))), (6, (Value.pointer (some ⟨b44, 0, none⟩))), (7, (Value.pointer (some ⟨b42, 0, none⟩))), (8, (Value.int .i64 ((z.1 : Nat) : Int)))]) (fun z => [(blk b44 64 (ClockV.cells (ClockV.mk x.Drift (Slc.mk xa.1 x.Syncs.length xa.2)))), (blk b42 64 (ClockV.cells (ClockV.mk y.Drift (Slc.mk ya.1 y.Syncs.length ya.2)))), (blk b3 28 (LineV.cells (LineV.mk (TrackV.mk (Slc.mk k2A m.Track.length k2C)) m.Fast (Slc.mk c2A m.Clocks.length c2C) (Slc.mk b2A m.Beams.length b2C) m.Finish m.Fakes m.Misses))), (blk b2 28 (LineV.cells (LineV.mk (TrackV.mk (Slc.mk kA l.Track.length kC)) l.Fast (Slc.mk cA l.Clocks.length cC) (Slc.mk bA l.Beams.length bC) l.Finish l.Fakes l.Misses))), (rd kA l.Track.length 9 (l.Track.map StretchV.cells)).ro, (rd cA l.Clocks.length 2 (List.zipWith ClockM.cells l.Clocks az)).ro, (bun (nest ClockM.rds l.Clocks az)).ro, (rd bA l.Beams.length 4 (l.Beams.map BeamV.cells)).ro, (rd k2A m.Track.length 9 (m.Track.map StretchV.cells)).ro, (rd c2A m.Clocks.length 2 (List.zipWith ClockM.cells m.Clocks az2)).ro, (bun (nest ClockM.rds m.Clocks az2)).ro, (rd b2A m.Beams.length 4 (m.Beams.map BeamV.cells)).ro]) (fun z => x.Syncs.length - z.1) ⟨0, hinit⟩ (Sub.cons rfl <| Sub.cons rfl <| Sub.cons rfl <| Sub.cons rfl <| Sub.cons rfl <| Sub.cons rfl <| Sub.nil _) (fun w hs => St.sel [0, 1, 2, 3, 4, 5, 6, 7, 8, 9, 10, 11] rfl rfl hs) ?_
   clear hinit
   rintro ⟨k, ⟨hl10_0, hl10_1⟩⟩ J52 hJ52
   change WJ _ _ _ _ [(2, (Value.pointer (some ⟨b2, 0, none⟩))), (3, (Value.pointer (some ⟨b3, 0, none⟩))), (5, (Value.int .i64 ((i : Nat) : Int))), (6, (Value.pointer (some ⟨b44, 0, none⟩))), (7, (Value.pointer (some ⟨b42, 0, none⟩))), (8, (Value.int .i64 ((k : Nat) : Int)))] [(blk b44 64 (ClockV.cells (ClockV.mk x.Drift (Slc.mk xa.1 x.Syncs.length xa.2)))), (blk b42 64 (ClockV.cells (ClockV.mk y.Drift (Slc.mk ya.1 y.Syncs.length ya.2)))), (blk b3 28 (LineV.cells (LineV.mk (TrackV.mk (Slc.mk k2A m.Track.length k2C)) m.Fast (Slc.mk c2A m.Clocks.length c2C) (Slc.mk b2A m.Beams.length b2C) m.Finish m.Fakes m.Misses))), (blk b2 28 (LineV.cells (LineV.mk (TrackV.mk (Slc.mk kA l.Track.length kC)) l.Fast (Slc.mk cA l.Clocks.length cC) (Slc.mk bA l.Beams.length bC) l.Finish l.Fakes l.Misses))), (rd kA l.Track.length 9 (l.Track.map StretchV.cells)).ro, (rd cA l.Clocks.length 2 (List.zipWith ClockM.cells l.Clocks az)).ro, (bun (nest ClockM.rds l.Clocks az)).ro, (rd bA l.Beams.length 4 (l.Beams.map BeamV.cells)).ro, (rd k2A m.Track.length 9 (m.Track.map StretchV.cells)).ro, (rd c2A m.Clocks.length 2 (List.zipWith ClockM.cells m.Clocks az2)).ro, (bun (nest ClockM.rds m.Clocks az2)).ro, (rd b2A m.Beams.length 4 (m.Beams.map BeamV.cells)).ro]
   have hxg := hgr.2.2.2 x (List.mem_of_getElem? hx)
   have hyg := hgr2.2.2.2 y (List.mem_of_getElem? hy)
   refine w_seq fun _ hK53 => ?_
   refine WS fun _ hK54 => ?_
   refine rS (MV rfl) ?_
   refine rS (FA 1 rfl fo64_1 rfl) ?_
   refine rS (L1 (Value.slice xa.1 x.Syncs.length xa.2) 0 rfl tk62 rfl rfl) ?_
   refine rS (LN rfl ut62) ?_
   refine rS (BI rfl b_lss) ?_
   refine RK hK54 ?_
   refine w_if rfl (fun h55 => ?_) (fun h55 => ?_)
   rotate_left 1
   · replace h55 := DF h55
     refine w_exit ?_
     refine k_exit_then ?_
     refine k_exit_then ?_
     refine k_exit_same ?_
     refine k_block ?_
     refine KK hK19 ?_
     refine w_region ?_
     refine rS (MV rfl) ?_
     refine rS (BI rfl (b_add ⟨by omega, by omega⟩)) ?_
     refine rS (AG rfl) ?_
     refine r_nil ?_
     have hb60 : (Value.int .i64 (((i + 1) : Nat) : Int)) = (Value.int .i64 (((i : Nat) : Int) + 1)) := by exact congrArg (Value.int .i64) (by omega)
     refine k_then (hJ15 ⟨(i + 1), ⟨by omega, take_same hl4_1 hx hy (clock_same (by omega) (by omega) (by omega) hl10_1)⟩⟩ _ _ _ rfl (by first | omega | (simp; omega)) (Sub.cons rfl <| Sub.cons rfl <| sub_val rfl hb60 <| Sub.nil _) (fun w hs => St.sel [2, 3, 4, 5, 6, 7, 8, 9, 10, 11] rfl rfl hs))
   replace h55 := DT h55
   refine WK hK53 ?_
   refine w_seq fun _ hK56 => ?_
   refine w_block ?_
   refine w_seq fun _ hK57 => ?_
   refine w_draw mixed 11 (by kernel_rfl) ?_
   refine dS (FA 1 rfl fo64_1 rfl) ?_
   refine dS (L1 (Value.slice xa.1 x.Syncs.length xa.2) 0 rfl tk62 rfl rfl) ?_
   refine dS (MV rfl) ?_
   obtain ⟨z, hz⟩ : ∃ y_, x.Syncs[k]? = some y_ := ⟨x.Syncs[k]'(by omega), List.getElem?_eq_getElem _⟩
   have hzm : (x.Syncs.map SyncV.cells)[k]? = some (SyncV.cells z) := by rw [List.getElem?_map, hz]; rfl
   refine dS (IA k rfl (show Has _ (rd xa.1 x.Syncs.length 3 (x.Syncs.map SyncV.cells)).holds from (has_inr 6 rfl (mem_nest hx hxa (by simp [ClockM.rds])))) te62 (by decide) (by omega) (by omega)) ?_
   refine dS (LEN k 0 (SyncV.cells z) rfl tk61 (show Has _ (rd xa.1 x.Syncs.length 3 (x.Syncs.map SyncV.cells)).holds from (has_inr 6 rfl (mem_nest hx hxa (by simp [ClockM.rds])))) hzm rfl (by decide) rfl rfl) ?_
   refine dS (FA 1 rfl fo64_1 rfl) ?_
   refine dS (L1 (Value.slice ya.1 y.Syncs.length ya.2) 1 rfl tk62 rfl rfl) ?_
   refine dS (MV rfl) ?_
   obtain ⟨u, hu⟩ : ∃ y_, y.Syncs[k]? = some y_ := ⟨y.Syncs[k]'(by omega), List.getElem?_eq_getElem _⟩
   have hum : (y.Syncs.map SyncV.cells)[k]? = some (SyncV.cells u) := by rw [List.getElem?_map, hu]; rfl
   refine dS (IA k rfl (show Has _ (rd ya.1 y.Syncs.length 3 (y.Syncs.map SyncV.cells)).holds from (has_inr 10 rfl (mem_nest hy hya (by simp [ClockM.rds])))) te62 (by decide) (by omega) (by omega)) ?_
   refine dS (LEN k 0 (SyncV.cells u) rfl tk61 (show Has _ (rd ya.1 y.Syncs.length 3 (y.Syncs.map SyncV.cells)).holds from (has_inr 10 rfl (mem_nest hy hya (by simp [ClockM.rds])))) hum rfl (by decide) rfl rfl) ?_
   refine dS (BI rfl (nes61 _ _ z u)) ?_
   refine d_end ?_
   refine RK hK57 ?_
   refine w_if rfl (fun h110 => ?_) (fun h110 => ?_)
   rotate_left 1
   · replace h110 := XF h110
     refine w_skip ?_
     refine k_block ?_
     refine KK hK56 ?_
     refine w_region ?_
     refine rS (MV rfl) ?_
     refine rS (BI rfl (b_add ⟨by omega, by omega⟩)) ?_
     refine rS (AG rfl) ?_
     refine r_nil ?_
     have hb59 : (Value.int .i64 (((k + 1) : Nat) : Int)) = (Value.int .i64 (((k : Nat) : Int) + 1)) := by exact congrArg (Value.int .i64) (by omega)
     refine k_then (hJ52 ⟨(k + 1), ⟨by omega, take_same hl10_1 hz hu h110⟩⟩ _ _ _ rfl (by first | omega | (simp; omega)) (Sub.cons rfl <| Sub.cons rfl <| Sub.cons rfl <| Sub.cons rfl <| Sub.cons rfl <| sub_val rfl hb59 <| Sub.nil _) (fun w hs => St.sel [0, 1, 2, 3, 4, 5, 6, 7, 8, 9, 10, 11] rfl rfl hs))
   replace h110 := XT h110
   refine WS fun _ hK58 => ?_
   refine rS (AG rfl) ?_
   refine RK hK58 ?_
   refine w_ret ?_
   refine Q1 hQ rfl rfl rfl ?_
   first | exact congrArg Value.bool (decide_eq_false (fun e => by subst e; first | exact h16 rfl | omega)).symm | exact congrArg Value.bool (decide_eq_false (fun e => by subst e; rw [hp] at hq; cases hq; exact h128 rfl)).symm | exact congrArg Value.bool (decide_eq_false (fun e => by subst e; rw [hx] at hy; cases hy; first | (rw [hz] at hu; cases hu; exact h110 rfl) | omega)).symm | exact congrArg Value.bool (decide_eq_true (line_same h16 (by omega) (by omega) (by omega) (by omega) (lists_eq (by omega) hl4_1 (by omega)) (lists_eq (by omega) hl15_1 (by omega)))).symm
 refine n_op (rem' := [11, 12, 13]) rfl (by kernel_rfl) rfl fun T21 hT21 => ?_
 refine AL rfl tz64 fun b22 => ?_
 refine r_nil (hT21 _ _ (fun w hs => St.sel [1, 2, 3, 4, 5, 6, 7, 8, 9, 10] rfl rfl hs) ?_)
 refine n_step [11] (by kernel_rfl) (n_cons ?_ <| n_nil)
 refine n_op (rem' := [12, 13]) rfl (by kernel_rfl) rfl fun T23 hT23 => ?_
 refine AL rfl tz64 fun b24 => ?_
 refine r_nil (hT23 _ _ (fun w hs => St.sel [2, 3, 4, 5, 6, 7, 8, 9, 10, 11] rfl rfl hs) ?_)
 refine n_step [12] (by kernel_rfl) (n_cons ?_ <| n_nil)
 refine n_op (rem' := [13]) rfl (by kernel_rfl) rfl fun T25 hT25 => ?_
 refine SW1 rfl ts64 rfl ?_
 refine r_nil (hT25 _ _ (fun w hs => St.sel [2, 3, 4, 5, 6, 7, 8, 9, 10, 11] rfl rfl hs) ?_)
 refine n_step [13] (by kernel_rfl) (n_cons ?_ <| n_nil)
 refine n_op (rem' := []) rfl (by kernel_rfl) rfl fun T26 hT26 => ?_
 refine SW0 rfl ts64 rfl ?_
 refine r_nil (hT26 _ _ (fun w hs => St.sel [2, 3, 4, 5, 6, 7, 8, 9, 10, 11] rfl rfl hs) ?_)
 refine n_fin ?_
 refine KK hK20 ?_
 refine w_seq fun _ hK27 => ?_
 refine WS fun _ hK28 => ?_
 refine rS (FA 0 rfl fo64_0 rfl) ?_
 refine rS (L1 (Value.int .i64 x.Drift) 1 rfl tk3 rfl rfl) ?_
 refine rS (FA 0 rfl fo64_0 rfl) ?_
 refine rS (L1 (Value.int .i64 y.Drift) 0 rfl tk3 rfl rfl) ?_
 refine rS (BI rfl b_neq) ?_
 refine rS (MV rfl) ?_
 refine r_bool (t := 84) rfl (fun h84 => ?_) (fun h84 => ?_)
 · replace h84 := XT h84
   refine rS (OX rfl) ?_
   refine rS (OX rfl) ?_
   refine rS (OX rfl) ?_
   refine rS (OX rfl) ?_
   refine rS (OX rfl) ?_
   refine rS (OX rfl) ?_
   refine rS (OX rfl) ?_
   refine rS (PK rfl) ?_
   refine RK hK28 ?_
   refine w_if_true rfl ?_
   refine WS fun _ hK29 => ?_
   refine rS (AG rfl) ?_
   refine RK hK29 ?_
   refine w_ret ?_
   refine Q1 hQ rfl rfl rfl ?_
   first | exact congrArg Value.bool (decide_eq_false (fun e => by subst e; first | exact h16 rfl | omega)).symm | exact congrArg Value.bool (decide_eq_false (fun e => by subst e; rw [hp] at hq; cases hq; exact h128 rfl)).symm | exact congrArg Value.bool (decide_eq_false (fun e => by subst e; rw [hx] at hy; cases hy; first | (rw [hz] at hu; cases hu; exact h110 rfl) | omega)).symm | exact congrArg Value.bool (decide_eq_true (line_same h16 (by omega) (by omega) (by omega) (by omega) (lists_eq (by omega) hl4_1 (by omega)) (lists_eq (by omega) hl15_1 (by omega)))).symm
 replace h84 := XF h84
 refine rS (FA 1 rfl fo64_1 rfl) ?_
 refine rS (L1 (Value.slice xa.1 x.Syncs.length xa.2) 1 rfl tk62 rfl rfl) ?_
 refine rS (LN rfl ut62) ?_
 refine rS (FA 1 rfl fo64_1 rfl) ?_
 refine rS (L1 (Value.slice ya.1 y.Syncs.length ya.2) 0 rfl tk62 rfl rfl) ?_
 refine rS (LN rfl ut62) ?_
 refine rS (BI rfl b_neq) ?_
 refine rS (PK rfl) ?_
 refine RK hK28 ?_
 refine w_if rfl (fun h92 => ?_) (fun h92 => ?_)
 · replace h92 := XT h92
   refine WS fun _ hK30 => ?_
   refine rS (AG rfl) ?_
   refine RK hK30 ?_
   refine w_ret ?_
   refine Q1 hQ rfl rfl rfl ?_
   first | exact congrArg Value.bool (decide_eq_false (fun e => by subst e; first | exact h16 rfl | omega)).symm | exact congrArg Value.bool (decide_eq_false (fun e => by subst e; rw [hp] at hq; cases hq; exact h128 rfl)).symm | exact congrArg Value.bool (decide_eq_false (fun e => by subst e; rw [hx] at hy; cases hy; first | (rw [hz] at hu; cases hu; exact h110 rfl) | omega)).symm | exact congrArg Value.bool (decide_eq_true (line_same h16 (by omega) (by omega) (by omega) (by omega) (lists_eq (by omega) hl4_1 (by omega)) (lists_eq (by omega) hl15_1 (by omega)))).symm
 replace h92 := XF h92
 refine WK hK27 ?_
 refine WS fun _ hK31 => ?_
 refine rS (AG rfl) ?_
 refine RK hK31 ?_
 refine w_block ?_
 have hinit : (0 ≤ x.Syncs.length) ∧ (x.Syncs.take 0 = y.Syncs.take 0) := by simp
 refine w_loop (ι := { z : Nat // (z ≤ x.Syncs.length) ∧ (x.Syncs.take z = y.Syncs.take z) }) (fun z => [(2, (Value.pointer (some ⟨b2, 0, none⟩))), (3, (Value.pointer (some ⟨b3, 0, none⟩))), (5, (Value.int .i64 ((i : Nat) : Int))), (6, (Value.pointer (some ⟨b22, 0, none⟩))), (7, (Value.pointer (some ⟨b24, 0, none⟩))), (8, (Value.int .i64 ((z.1 : Nat) : Int)))]) (fun z => [(blk b24 64 (ClockV.cells (ClockV.mk y.Drift (Slc.mk ya.1 y.Syncs.length ya.2)))), (blk b22 64 (ClockV.cells (ClockV.mk x.Drift (Slc.mk xa.1 x.Syncs.length xa.2)))), (blk b3 28 (LineV.cells (LineV.mk (TrackV.mk (Slc.mk k2A m.Track.length k2C)) m.Fast (Slc.mk c2A m.Clocks.length c2C) (Slc.mk b2A m.Beams.length b2C) m.Finish m.Fakes m.Misses))), (blk b2 28 (LineV.cells (LineV.mk (TrackV.mk (Slc.mk kA l.Track.length kC)) l.Fast (Slc.mk cA l.Clocks.length cC) (Slc.mk bA l.Beams.length bC) l.Finish l.Fakes l.Misses))), (rd kA l.Track.length 9 (l.Track.map StretchV.cells)).ro, (rd cA l.Clocks.length 2 (List.zipWith ClockM.cells l.Clocks az)).ro, (bun (nest ClockM.rds l.Clocks az)).ro, (rd bA l.Beams.length 4 (l.Beams.map BeamV.cells)).ro, (rd k2A m.Track.length 9 (m.Track.map StretchV.cells)).ro, (rd c2A m.Clocks.length 2 (List.zipWith ClockM.cells m.Clocks az2)).ro, (bun (nest ClockM.rds m.Clocks az2)).ro, (rd b2A m.Beams.length 4 (m.Beams.map BeamV.cells)).ro]) (fun z => x.Syncs.length - z.1) ⟨0, hinit⟩ (Sub.cons rfl <| Sub.cons rfl <| Sub.cons rfl <| Sub.cons rfl <| Sub.cons rfl <| Sub.cons rfl <| Sub.nil _) (fun w hs => St.sel [0, 1, 2, 3, 4, 5, 6, 7, 8, 9, 10, 11] rfl rfl hs) ?_
 clear hinit
 rintro ⟨k, ⟨hl10_0, hl10_1⟩⟩ J32 hJ32
 change WJ _ _ _ _ [(2, (Value.pointer (some ⟨b2, 0, none⟩))), (3, (Value.pointer (some ⟨b3, 0, none⟩))), (5, (Value.int .i64 ((i : Nat) : Int))), (6, (Value.pointer (some ⟨b22, 0, none⟩))), (7, (Value.pointer (some ⟨b24, 0, none⟩))), (8, (Value.int .i64 ((k : Nat) : Int)))] [(blk b24 64 (ClockV.cells (ClockV.mk y.Drift (Slc.mk ya.1 y.Syncs.length ya.2)))), (blk b22 64 (ClockV.cells (ClockV.mk x.Drift (Slc.mk xa.1 x.Syncs.length xa.2)))), (blk b3 28 (LineV.cells (LineV.mk (TrackV.mk (Slc.mk k2A m.Track.length k2C)) m.Fast (Slc.mk c2A m.Clocks.length c2C) (Slc.mk b2A m.Beams.length b2C) m.Finish m.Fakes m.Misses))), (blk b2 28 (LineV.cells (LineV.mk (TrackV.mk (Slc.mk kA l.Track.length kC)) l.Fast (Slc.mk cA l.Clocks.length cC) (Slc.mk bA l.Beams.length bC) l.Finish l.Fakes l.Misses))), (rd kA l.Track.length 9 (l.Track.map StretchV.cells)).ro, (rd cA l.Clocks.length 2 (List.zipWith ClockM.cells l.Clocks az)).ro, (bun (nest ClockM.rds l.Clocks az)).ro, (rd bA l.Beams.length 4 (l.Beams.map BeamV.cells)).ro, (rd k2A m.Track.length 9 (m.Track.map StretchV.cells)).ro, (rd c2A m.Clocks.length 2 (List.zipWith ClockM.cells m.Clocks az2)).ro, (bun (nest ClockM.rds m.Clocks az2)).ro, (rd b2A m.Beams.length 4 (m.Beams.map BeamV.cells)).ro]
 have hxg := hgr.2.2.2 x (List.mem_of_getElem? hx)
 have hyg := hgr2.2.2.2 y (List.mem_of_getElem? hy)
 refine w_seq fun _ hK33 => ?_
 refine WS fun _ hK34 => ?_
 refine rS (MV rfl) ?_
 refine rS (FA 1 rfl fo64_1 rfl) ?_
 refine rS (L1 (Value.slice xa.1 x.Syncs.length xa.2) 1 rfl tk62 rfl rfl) ?_
 refine rS (LN rfl ut62) ?_
 refine rS (BI rfl b_lss) ?_
 refine RK hK34 ?_
 refine w_if rfl (fun h35 => ?_) (fun h35 => ?_)
 rotate_left 1
 · replace h35 := DF h35
   refine w_exit ?_
   refine k_exit_then ?_
   refine k_exit_then ?_
   refine k_exit_same ?_
   refine k_block ?_
   refine KK hK19 ?_
   refine w_region ?_
   refine rS (MV rfl) ?_
   refine rS (BI rfl (b_add ⟨by omega, by omega⟩)) ?_
   refine rS (AG rfl) ?_
   refine r_nil ?_
   have hb40 : (Value.int .i64 (((i + 1) : Nat) : Int)) = (Value.int .i64 (((i : Nat) : Int) + 1)) := by exact congrArg (Value.int .i64) (by omega)
   refine k_then (hJ15 ⟨(i + 1), ⟨by omega, take_same hl4_1 hx hy (clock_same (by omega) (by omega) (by omega) hl10_1)⟩⟩ _ _ _ rfl (by first | omega | (simp; omega)) (Sub.cons rfl <| Sub.cons rfl <| sub_val rfl hb40 <| Sub.nil _) (fun w hs => St.sel [2, 3, 4, 5, 6, 7, 8, 9, 10, 11] rfl rfl hs))
 replace h35 := DT h35
 refine WK hK33 ?_
 refine w_seq fun _ hK36 => ?_
 refine w_block ?_
 refine w_seq fun _ hK37 => ?_
 refine w_draw mixed 11 (by kernel_rfl) ?_
 refine dS (FA 1 rfl fo64_1 rfl) ?_
 refine dS (L1 (Value.slice xa.1 x.Syncs.length xa.2) 1 rfl tk62 rfl rfl) ?_
 refine dS (MV rfl) ?_
 obtain ⟨z, hz⟩ : ∃ y_, x.Syncs[k]? = some y_ := ⟨x.Syncs[k]'(by omega), List.getElem?_eq_getElem _⟩
 have hzm : (x.Syncs.map SyncV.cells)[k]? = some (SyncV.cells z) := by rw [List.getElem?_map, hz]; rfl
 refine dS (IA k rfl (show Has _ (rd xa.1 x.Syncs.length 3 (x.Syncs.map SyncV.cells)).holds from (has_inr 6 rfl (mem_nest hx hxa (by simp [ClockM.rds])))) te62 (by decide) (by omega) (by omega)) ?_
 refine dS (LEN k 0 (SyncV.cells z) rfl tk61 (show Has _ (rd xa.1 x.Syncs.length 3 (x.Syncs.map SyncV.cells)).holds from (has_inr 6 rfl (mem_nest hx hxa (by simp [ClockM.rds])))) hzm rfl (by decide) rfl rfl) ?_
 refine dS (FA 1 rfl fo64_1 rfl) ?_
 refine dS (L1 (Value.slice ya.1 y.Syncs.length ya.2) 0 rfl tk62 rfl rfl) ?_
 refine dS (MV rfl) ?_
 obtain ⟨u, hu⟩ : ∃ y_, y.Syncs[k]? = some y_ := ⟨y.Syncs[k]'(by omega), List.getElem?_eq_getElem _⟩
 have hum : (y.Syncs.map SyncV.cells)[k]? = some (SyncV.cells u) := by rw [List.getElem?_map, hu]; rfl
 refine dS (IA k rfl (show Has _ (rd ya.1 y.Syncs.length 3 (y.Syncs.map SyncV.cells)).holds from (has_inr 10 rfl (mem_nest hy hya (by simp [ClockM.rds])))) te62 (by decide) (by omega) (by omega)) ?_
 refine dS (LEN k 0 (SyncV.cells u) rfl tk61 (show Has _ (rd ya.1 y.Syncs.length 3 (y.Syncs.map SyncV.cells)).holds from (has_inr 10 rfl (mem_nest hy hya (by simp [ClockM.rds])))) hum rfl (by decide) rfl rfl) ?_
 refine dS (BI rfl (nes61 _ _ z u)) ?_
 refine d_end ?_
 refine RK hK37 ?_
 refine w_if rfl (fun h110 => ?_) (fun h110 => ?_)
 rotate_left 1
 · replace h110 := XF h110
   refine w_skip ?_
   refine k_block ?_
   refine KK hK36 ?_
   refine w_region ?_
   refine rS (MV rfl) ?_
   refine rS (BI rfl (b_add ⟨by omega, by omega⟩)) ?_
   refine rS (AG rfl) ?_
   refine r_nil ?_
   have hb39 : (Value.int .i64 (((k + 1) : Nat) : Int)) = (Value.int .i64 (((k : Nat) : Int) + 1)) := by exact congrArg (Value.int .i64) (by omega)
   refine k_then (hJ32 ⟨(k + 1), ⟨by omega, take_same hl10_1 hz hu h110⟩⟩ _ _ _ rfl (by first | omega | (simp; omega)) (Sub.cons rfl <| Sub.cons rfl <| Sub.cons rfl <| Sub.cons rfl <| Sub.cons rfl <| sub_val rfl hb39 <| Sub.nil _) (fun w hs => St.sel [0, 1, 2, 3, 4, 5, 6, 7, 8, 9, 10, 11] rfl rfl hs))
 replace h110 := XT h110
 refine WS fun _ hK38 => ?_
 refine rS (AG rfl) ?_
 refine RK hK38 ?_
 refine w_ret ?_
 refine Q1 hQ rfl rfl rfl ?_
 first | exact congrArg Value.bool (decide_eq_false (fun e => by subst e; first | exact h16 rfl | omega)).symm | exact congrArg Value.bool (decide_eq_false (fun e => by subst e; rw [hp] at hq; cases hq; exact h128 rfl)).symm | exact congrArg Value.bool (decide_eq_false (fun e => by subst e; rw [hx] at hy; cases hy; first | (rw [hz] at hu; cases hu; exact h110 rfl) | omega)).symm | exact congrArg Value.bool (decide_eq_true (line_same h16 (by omega) (by omega) (by omega) (by omega) (lists_eq (by omega) hl4_1 (by omega)) (lists_eq (by omega) hl15_1 (by omega)))).symm

end Go.Proofs.Ytaehngpnlkokkaa
