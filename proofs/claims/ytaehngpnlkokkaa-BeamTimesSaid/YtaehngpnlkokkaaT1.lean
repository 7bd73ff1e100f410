/-
  Walks: kreisel/kreisellaw05.BeamTimes
-/
import Derived.Test.YtaehngpnlkokkaaTab
import Derived.Test.YtaehngpnlkokkaaShort
import Derived.Test.YtaehngpnlkokkaaTwin
import Derived.Test.YtaehngpnlkokkaaB6
import Derived.Test.YtaehngpnlkokkaaB8
import Derived.Test.YtaehngpnlkokkaaB9
import Derived.Test.YtaehngpnlkokkaaB10
import Derived.Test.YtaehngpnlkokkaaB11
namespace Go.Proofs.Ytaehngpnlkokkaa
open Go.RowKit
set_option linter.unusedVariables false

set_option maxRecDepth 100000 in
set_option maxHeartbeats 400000 in
theorem beamTimes_c (l : LineM) (kA : Option Addr) (kC : Nat) (az : List RA) (cA : Option Addr) (cC : Nat) (bA : Option Addr) (bC : Nat) (s : SignalV) (ck : Int) (at_ : Int) (one : Int) (hraw : LineRaw l az) :
    FnV Try.prog 3 [(Value.agg (LineV.cells (LineV.mk (TrackV.mk (Slc.mk kA l.Track.length kC)) l.Fast (Slc.mk cA l.Clocks.length cC) (Slc.mk bA l.Beams.length bC) l.Finish l.Fakes l.Misses)).toArray), (Value.agg (SignalV.cells s).toArray), (Value.int .i64 ck), (Value.int .i64 at_), (Value.int .i64 one)] [(rd kA l.Track.length 9 (l.Track.map StretchV.cells)), (rd cA l.Clocks.length 2 (List.zipWith ClockM.cells l.Clocks az)), (bun (nest ClockM.rds l.Clocks az)), (rd bA l.Beams.length 4 (l.Beams.map BeamV.cells))] (Value.bool true) := by
 refine fnV_of go3 Try.func3 rfl rfl fun w0 Q hQ hN => ?_
 change WJ _ _ _ _ [(0, (Value.agg (LineV.cells (LineV.mk (TrackV.mk (Slc.mk kA l.Track.length kC)) l.Fast (Slc.mk cA l.Clocks.length cC) (Slc.mk bA l.Beams.length bC) l.Finish l.Fakes l.Misses)).toArray)), (1, (Value.agg (SignalV.cells s).toArray)), (2, (Value.int .i64 ck)), (3, (Value.int .i64 at_)), (4, (Value.int .i64 one))] [(rd kA l.Track.length 9 (l.Track.map StretchV.cells)).ro, (rd cA l.Clocks.length 2 (List.zipWith ClockM.cells l.Clocks az)).ro, (bun (nest ClockM.rds l.Clocks az)).ro, (rd bA l.Beams.length 4 (l.Beams.map BeamV.cells)).ro]
 refine WS fun _ hK1 => ?_
 refine BXA rfl fun b2 => ?_
 refine BXA rfl fun b3 => ?_
 refine rS (AG rfl) ?_
 refine RK hK1 ?_
 refine w_seq fun _ hK4 => ?_
 refine WS fun _ hK5 => ?_
 refine rS (LW 1 rfl tk28 rfl rfl) ?_
 refine rS (CL (lgreat_c l kA kC az cA cC bA bC hraw) (ha_at 2 rfl rfl <| ha_at 3 rfl rfl <| ha_at 4 rfl rfl <| ha_at 5 rfl rfl <| ha_nil) rfl) ?_
 refine RK hK5 ?_
 refine w_if rfl (fun h25 => ?_) (fun h25 => ?_)
 · replace h25 := DT h25
   refine WS fun _ hK6 => ?_
   refine rS (AG rfl) ?_
   refine RK hK6 ?_
   refine w_ret ?_
   refine Q1 hQ rfl rfl rfl ?_
   first | rfl | exact congrArg Value.bool (decide_eq_true rfl)
 replace h25 := DF h25
 refine WK hK4 ?_
 refine WS fun _ hK7 => ?_
 refine rS (LW 1 rfl tk28 rfl rfl) ?_
 have hin := hraw.small h25
 refine cX (ltwin_c l kA kC az cA cC bA bC (by first | assumption | omega | (simp; done) | (simp; omega)) (by first | assumption | omega | (simp; done) | (simp; omega))) (ha_at 2 rfl rfl <| ha_at 3 rfl rfl <| ha_at 4 rfl rfl <| ha_at 5 rfl rfl <| ha_nil) rfl fun y8 hy9 => ?_
 obtain ⟨a110, c111, a212, c213, bz14, a315, c316⟩ := y8
 change RJ _ _ _ _ _ ((_, (Value.agg (LineV.cells (LineV.mk (TrackV.mk (Slc.mk a110 l.Track.length c111)) l.Fast (Slc.mk a212 l.Clocks.length c213) (Slc.mk a315 l.Beams.length c316) l.Finish l.Fakes l.Misses)).toArray)) :: _) ((own a110 c111 126 9 (l.Track.map StretchV.cells)) :: (own a212 c213 64 2 (List.zipWith ClockM.cells l.Clocks bz14)) :: (bund (nest ClockM.owns l.Clocks bz14)) :: (own a315 c316 55 4 (l.Beams.map BeamV.cells)) :: _)
 obtain ⟨hbz, hcp⟩ := hy9
 refine AL rfl tz28 fun b17 => ?_
 refine SW0 rfl ts28 rfl ?_
 refine RK hK7 ?_
 refine WS fun _ hK18 => ?_
 have hin2 := hin.twin hbz hcp
 refine rS (LW 0 rfl tk28 rfl rfl) ?_
 refine rS (MV rfl) ?_
 refine rS (MV rfl) ?_
 refine rS (CL (Ahead_c l a110 c111 bz14 a212 c213 a315 c316 ck at_ (by first | assumption | omega | (simp; done) | (simp; omega))) (ha_cons (has_own_n (n := l.Track.length) 1 rfl (by simp)) <| ha_cons (has_own_n (n := l.Clocks.length) 2 rfl (zip_len hbz)) <| ha_cons (bun_bund 3 rfl owns_rds) <| ha_cons (has_own_n (n := l.Beams.length) 4 rfl (by simp)) <| ha_nil) rfl) ?_
 refine rS (MV rfl) ?_
 refine rS (EX rfl) ?_
 refine rS (EX rfl) ?_
 refine AL rfl tz34 fun b19 => ?_
 refine SW0 rfl ts34 rfl ?_
 refine rS (AG rfl) ?_
 refine RK hK18 ?_
 refine WS fun _ hK20 => ?_
 refine rS (LW 7 rfl tk28 rfl rfl) ?_
 refine rS (MV rfl) ?_
 refine rS (MV rfl) ?_
 refine rS (CL (rAhead_c l kA kC az cA cC bA bC ck at_ (by first | assumption | omega | (simp; done) | (simp; omega))) (ha_at 8 rfl rfl <| ha_at 9 rfl rfl <| ha_at 10 rfl rfl <| ha_at 11 rfl rfl <| ha_nil) rfl) ?_
 refine rS (MV rfl) ?_
 refine rS (EX rfl) ?_
 refine rS (EX rfl) ?_
 refine AL rfl tz34 fun b21 => ?_
 refine SW0 rfl ts34 rfl ?_
 refine rS (AG rfl) ?_
 refine RK hK20 ?_
 refine WS fun _ hK22 => ?_
 refine rS (LW 2 rfl tk28 rfl rfl) ?_
 refine rS (LW 7 rfl tk30 rfl rfl) ?_
 refine rS (CL (When_c l a110 c111 bz14 a212 c213 a315 c316 s (by first | assumption | omega | (simp; done) | (simp; omega))) (ha_cons (has_own_n (n := l.Track.length) 3 rfl (by simp)) <| ha_cons (has_own_n (n := l.Clocks.length) 4 rfl (zip_len hbz)) <| ha_cons (bun_bund 5 rfl owns_rds) <| ha_cons (has_own_n (n := l.Beams.length) 6 rfl (by simp)) <| ha_nil) rfl) ?_
 refine rS (MV rfl) ?_
 refine rS (EX rfl) ?_
 refine rS (EX rfl) ?_
 refine AL rfl tz34 fun b23 => ?_
 refine SW0 rfl ts34 rfl ?_
 refine rS (AG rfl) ?_
 refine RK hK22 ?_
 refine WS fun _ hK24 => ?_
 refine rS (LW 9 rfl tk28 rfl rfl) ?_
 refine rS (LW 8 rfl tk30 rfl rfl) ?_
 refine rS (CL (rWhen_c l kA kC az cA cC bA bC s (by first | assumption | omega | (simp; done) | (simp; omega))) (ha_at 10 rfl rfl <| ha_at 11 rfl rfl <| ha_at 12 rfl rfl <| ha_at 13 rfl rfl <| ha_nil) rfl) ?_
 refine rS (MV rfl) ?_
 refine rS (EX rfl) ?_
 refine rS (EX rfl) ?_
 refine AL rfl tz34 fun b25 => ?_
 refine SW0 rfl ts34 rfl ?_
 refine rS (AG rfl) ?_
 refine RK hK24 ?_
 refine WS fun _ hK26 => ?_
 refine rS (LW 4 rfl tk28 rfl rfl) ?_
 refine rS (MV rfl) ?_
 refine rS (CL (Least_c l a110 c111 bz14 a212 c213 a315 c316 one (by first | assumption | omega | (simp; done) | (simp; omega))) (ha_cons (has_own_n (n := l.Track.length) 5 rfl (by simp)) <| ha_cons (has_own_n (n := l.Clocks.length) 6 rfl (zip_len hbz)) <| ha_cons (bun_bund 7 rfl owns_rds) <| ha_cons (has_own_n (n := l.Beams.length) 8 rfl (by simp)) <| ha_nil) rfl) ?_
 refine rS (MV rfl) ?_
 refine rS (EX rfl) ?_
 refine rS (EX rfl) ?_
 refine rS (AG rfl) ?_
 refine rS (AG rfl) ?_
 refine RK hK26 ?_
 refine WS fun _ hK27 => ?_
 refine rS (LW 10 rfl tk28 rfl rfl) ?_
 refine rS (MV rfl) ?_
 refine rS (CL (rLeast_c l kA kC az cA cC bA bC one (by first | assumption | omega | (simp; done) | (simp; omega))) (ha_at 11 rfl rfl <| ha_at 12 rfl rfl <| ha_at 13 rfl rfl <| ha_at 14 rfl rfl <| ha_nil) rfl) ?_
 refine rS (MV rfl) ?_
 refine rS (EX rfl) ?_
 refine rS (EX rfl) ?_
 refine rS (AG rfl) ?_
 refine rS (AG rfl) ?_
 refine RK hK27 ?_
 refine w_seq fun _ hK28 => ?_
 refine w_draw mixed 41 (by kernel_rfl) ?_
 refine dS (LW 4 rfl tk28 rfl rfl) ?_
 refine dS (CL (lcheck_c l a110 c111 bz14 a212 c213 a315 c316 (by first | assumption | omega | (simp; done) | (simp; omega))) (ha_cons (has_own_n (n := l.Track.length) 5 rfl (by simp)) <| ha_cons (has_own_n (n := l.Clocks.length) 6 rfl (zip_len hbz)) <| ha_cons (bun_bund 7 rfl owns_rds) <| ha_cons (has_own_n (n := l.Beams.length) 8 rfl (by simp)) <| ha_nil) rfl) ?_
 refine dS (LW 10 rfl tk28 rfl rfl) ?_
 refine dS (CL (rcheck_c l kA kC az cA cC bA bC (by first | assumption | omega | (simp; done) | (simp; omega))) (ha_at 11 rfl rfl <| ha_at 12 rfl rfl <| ha_at 13 rfl rfl <| ha_at 14 rfl rfl <| ha_nil) rfl) ?_
 refine dS (BI rfl b_eql) ?_
 refine dS (MV rfl) ?_
 refine d_bool (t := 71) rfl (fun h29 => ?_) (fun h29 => ?_)
 rotate_left 1
 · replace h29 := DF h29
   exact absurd rfl h29
 replace h29 := DT h29
 refine dS (LW 3 rfl tk34 rfl rfl) ?_
 refine dS (LW 2 rfl tk34 rfl rfl) ?_
 refine dS (BI rfl (eqs34 _ _ (aheadV l ck at_) (aheadV l ck at_))) ?_
 refine dS (PK rfl) ?_
 refine dS (MV rfl) ?_
 refine d_bool (t := 76) rfl (fun h30 => ?_) (fun h30 => ?_)
 rotate_left 1
 · replace h30 := DF h30
   exact absurd rfl h30
 replace h30 := DT h30
 refine dS (MV rfl) ?_
 refine dS (MV rfl) ?_
 refine dS (BI rfl b_eql) ?_
 refine dS (PK rfl) ?_
 refine dS (MV rfl) ?_
 refine d_bool (t := 81) rfl (fun h31 => ?_) (fun h31 => ?_)
 rotate_left 1
 · replace h31 := DF h31
   exact absurd rfl h31
 replace h31 := DT h31
 refine dS (LW 1 rfl tk34 rfl rfl) ?_
 refine dS (LW 0 rfl tk34 rfl rfl) ?_
 refine dS (BI rfl (eqs34 _ _ (whenV l s) (whenV l s))) ?_
 refine dS (PK rfl) ?_
 refine dS (MV rfl) ?_
 refine d_bool (t := 86) rfl (fun h32 => ?_) (fun h32 => ?_)
 rotate_left 1
 · replace h32 := DF h32
   exact absurd rfl h32
 replace h32 := DT h32
 refine dS (MV rfl) ?_
 refine dS (MV rfl) ?_
 refine dS (BI rfl b_eql) ?_
 refine dS (PK rfl) ?_
 refine dS (MV rfl) ?_
 refine d_bool (t := 91) rfl (fun h33 => ?_) (fun h33 => ?_)
 rotate_left 1
 · replace h33 := DF h33
   exact absurd rfl h33
 replace h33 := DT h33
 refine dS (MV rfl) ?_
 refine dS (MV rfl) ?_
 refine dS (BI rfl b_eql) ?_
 refine dS (PK rfl) ?_
 refine dS (MV rfl) ?_
 refine d_bool (t := 96) rfl (fun h34 => ?_) (fun h34 => ?_)
 rotate_left 1
 · replace h34 := DF h34
   exact absurd rfl h34
 replace h34 := DT h34
 refine dS (MV rfl) ?_
 refine dS (MV rfl) ?_
 refine dS (BI rfl b_eql) ?_
 refine dS (PK rfl) ?_
 refine dS (MV rfl) ?_
 refine d_bool (t := 101) rfl (fun h35 => ?_) (fun h35 => ?_)
 rotate_left 1
 · replace h35 := DF h35
   exact absurd rfl h35
 replace h35 := DT h35
 refine dS (LW 4 rfl tk28 rfl rfl) ?_
 refine dS (LW 10 rfl tk28 rfl rfl) ?_
 refine dS (CL (lsame_c l a110 c111 bz14 a212 c213 a315 c316 l kA kC az cA cC bA bC (by first | assumption | omega | (simp; done) | (simp; omega)) (by first | assumption | omega | (simp; done) | (simp; omega)) (by first | assumption | omega | (simp; done) | (simp; omega)) (by first | assumption | omega | (simp; done) | (simp; omega))) (ha_cons (has_own_n (n := l.Track.length) 5 rfl (by simp)) <| ha_cons (has_own_n (n := l.Clocks.length) 6 rfl (zip_len hbz)) <| ha_cons (bun_bund 7 rfl owns_rds) <| ha_cons (has_own_n (n := l.Beams.length) 8 rfl (by simp)) <| ha_at 11 rfl rfl <| ha_at 12 rfl rfl <| ha_at 13 rfl rfl <| ha_at 14 rfl rfl <| ha_nil) rfl) ?_
 refine dS (PK rfl) ?_
 refine dS (AG rfl) ?_
 refine d_end ?_
 refine RK hK28 ?_
 refine w_ret ?_
 refine Q1 hQ rfl rfl rfl ?_
 first | rfl | exact congrArg Value.bool (decide_eq_true rfl)

end Go.Proofs.Ytaehngpnlkokkaa
