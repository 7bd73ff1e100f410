/-
  Walks: kreisel/kreiselref05.Check, kreisel/kreiselref05.Ahead, kreisel/kreiselref05.when, kreisel/kreiselref05.When, kreisel/kreiselref05.Least
-/
import Derived.Test.YtaehngpnlkokkaaTab
import Derived.Test.YtaehngpnlkokkaaShort
import Derived.Test.YtaehngpnlkokkaaLineR
import Derived.Test.YtaehngpnlkokkaaB1
import Derived.Test.YtaehngpnlkokkaaB7
import Derived.Test.YtaehngpnlkokkaaB8
namespace Go.Proofs.Ytaehngpnlkokkaa
open Go.RowKit
set_option linter.unusedVariables false

set_option maxRecDepth 100000 in
set_option maxHeartbeats 400000 in
theorem rcheck_c (l : LineM) (kA : Option Addr) (kC : Nat) (az : List RA) (cA : Option Addr) (cC : Nat) (bA : Option Addr) (bC : Nat) (hin : LineIn l az) :
    FnV Try.prog 20 [(Value.agg (LineV.cells (LineV.mk (TrackV.mk (Slc.mk kA l.Track.length kC)) l.Fast (Slc.mk cA l.Clocks.length cC) (Slc.mk bA l.Beams.length bC) l.Finish l.Fakes l.Misses)).toArray)] [(rd kA l.Track.length 9 (l.Track.map StretchV.cells)), (rd cA l.Clocks.length 2 (List.zipWith ClockM.cells l.Clocks az)), (bun (nest ClockM.rds l.Clocks az)), (rd bA l.Beams.length 4 (l.Beams.map BeamV.cells))] (Value.int .i64 (lineE l)) := by
 have htk := hin.trk
 have hck := hin.cks
 have has := hin.as_
 have hbm := hin.bms
 refine fnV_of go20 Try.func20 rfl rfl fun w0 Q hQ hN => ?_
 change WJ _ _ _ _ [(0, (Value.agg (LineV.cells (LineV.mk (TrackV.mk (Slc.mk kA l.Track.length kC)) l.Fast (Slc.mk cA l.Clocks.length cC) (Slc.mk bA l.Beams.length bC) l.Finish l.Fakes l.Misses)).toArray))] [(rd kA l.Track.length 9 (l.Track.map StretchV.cells)).ro, (rd cA l.Clocks.length 2 (List.zipWith ClockM.cells l.Clocks az)).ro, (bun (nest ClockM.rds l.Clocks az)).ro, (rd bA l.Beams.length 4 (l.Beams.map BeamV.cells)).ro]
 refine WS fun _ hK1 => ?_
 refine BXA rfl fun b2 => ?_
 refine rS (AG rfl) ?_
 refine RK hK1 ?_
 refine w_seq fun _ hK3 => ?_
 refine WS fun _ hK4 => ?_
 refine rS (FA 0 rfl fo28_0 rfl) ?_
 refine rS (LP (TrackV.cells (TrackV.mk (Slc.mk kA l.Track.length kC))) 0 rfl tk24 rfl rfl rfl) ?_
 refine rS (CL (track_c l.Track kA kC (by first | assumption | omega | (simp; done) | (simp; omega))) (ha_at 1 rfl rfl <| ha_nil) rfl) ?_
 refine rS (NT rfl) ?_
 refine RK hK4 ?_
 refine w_if rfl (fun h6 => ?_) (fun h6 => ?_)
 · rw [Bool.not_eq_true'] at h6
   refine WS fun _ hK5 => ?_
   refine rS (AG rfl) ?_
   refine RK hK5 ?_
   refine w_ret ?_
   refine Q1 hQ rfl rfl rfl ?_
   first | exact congrArg (Value.int .i64) (lineE_bad (by simpa using h6)).symm | exact congrArg (Value.int .i64) (lineE_no h6 h9).symm | exact congrArg (Value.int .i64) (lineE_ok h6 h9).symm
 rw [Bool.not_eq_false'] at h6
 refine WK hK3 ?_
 refine w_seq fun _ hK6 => ?_
 refine WS fun _ hK7 => ?_
 refine rS (LW 0 rfl tk28 rfl rfl) ?_
 refine rS (CL (rline_c l kA kC az cA cC bA bC hin (by first | assumption | omega | (simp; done) | (simp; omega))) (ha_at 1 rfl rfl <| ha_at 2 rfl rfl <| ha_at 3 rfl rfl <| ha_at 4 rfl rfl <| ha_nil) rfl) ?_
 refine rS (NT rfl) ?_
 refine RK hK7 ?_
 refine w_if rfl (fun h9 => ?_) (fun h9 => ?_)
 · replace h9 := XT h9
   refine WS fun _ hK8 => ?_
   refine rS (AG rfl) ?_
   refine RK hK8 ?_
   refine w_ret ?_
   refine Q1 hQ rfl rfl rfl ?_
   first | exact congrArg (Value.int .i64) (lineE_bad (by simpa using h6)).symm | exact congrArg (Value.int .i64) (lineE_no h6 h9).symm | exact congrArg (Value.int .i64) (lineE_ok h6 h9).symm
 replace h9 := XF h9
 refine WK hK6 ?_
 refine WS fun _ hK9 => ?_
 refine rS (AG rfl) ?_
 refine RK hK9 ?_
 refine w_ret ?_
 refine Q1 hQ rfl rfl rfl ?_
 first | exact congrArg (Value.int .i64) (lineE_bad (by simpa using h6)).symm | exact congrArg (Value.int .i64) (lineE_no h6 h9).symm | exact congrArg (Value.int .i64) (lineE_ok h6 h9).symm

set_option maxRecDepth 100000 in
set_option maxHeartbeats 400000 in
theorem rAhead_c (l : LineM) (kA : Option Addr) (kC : Nat) (az : List RA) (cA : Option Addr) (cC : Nat) (bA : Option Addr) (bC : Nat) (ck : Int) (at_ : Int) (hin : LineIn l az) :
    FnV Try.prog 14 [(Value.agg (LineV.cells (LineV.mk (TrackV.mk (Slc.mk kA l.Track.length kC)) l.Fast (Slc.mk cA l.Clocks.length cC) (Slc.mk bA l.Beams.length bC) l.Finish l.Fakes l.Misses)).toArray), (Value.int .i64 ck), (Value.int .i64 at_)] [(rd kA l.Track.length 9 (l.Track.map StretchV.cells)), (rd cA l.Clocks.length 2 (List.zipWith ClockM.cells l.Clocks az)), (bun (nest ClockM.rds l.Clocks az)), (rd bA l.Beams.length 4 (l.Beams.map BeamV.cells))] (Value.tuple [(Value.agg (SpanV.cells (aheadV l ck at_)).toArray), (Value.int .i64 (aheadE l ck at_))].toArray) := by
 have htk := hin.trk
 have hck := hin.cks
 have has := hin.as_
 have hbm := hin.bms
 refine fnV_of go14 Try.func14 rfl rfl fun w0 Q hQ hN => ?_
 change WJ _ _ _ _ [(0, (Value.agg (LineV.cells (LineV.mk (TrackV.mk (Slc.mk kA l.Track.length kC)) l.Fast (Slc.mk cA l.Clocks.length cC) (Slc.mk bA l.Beams.length bC) l.Finish l.Fakes l.Misses)).toArray)), (1, (Value.int .i64 ck)), (2, (Value.int .i64 at_))] [(rd kA l.Track.length 9 (l.Track.map StretchV.cells)).ro, (rd cA l.Clocks.length 2 (List.zipWith ClockM.cells l.Clocks az)).ro, (bun (nest ClockM.rds l.Clocks az)).ro, (rd bA l.Beams.length 4 (l.Beams.map BeamV.cells)).ro]
 refine WS fun _ hK1 => ?_
 refine BXA rfl fun b2 => ?_
 refine AL rfl tz34 fun b3 => ?_
 refine rS (AG rfl) ?_
 refine RK hK1 ?_
 refine w_seq fun _ hK4 => ?_
 refine WS fun _ hK5 => ?_
 refine rS (LW 1 rfl tk28 rfl rfl) ?_
 refine rS (CL (rcheck_c l kA kC az cA cC bA bC hin) (ha_at 2 rfl rfl <| ha_at 3 rfl rfl <| ha_at 4 rfl rfl <| ha_at 5 rfl rfl <| ha_nil) rfl) ?_
 refine rS (AG rfl) ?_
 refine RK hK5 ?_
 refine WS fun _ hK6 => ?_
 refine rS (MV rfl) ?_
 refine rS (BI rfl b_neq) ?_
 refine RK hK6 ?_
 refine w_if rfl (fun h12 => ?_) (fun h12 => ?_)
 · replace h12 := XT h12
   refine WS fun _ hK7 => ?_
   refine rS (SX (sd_build (xs := []) (cs := (SpanV.cells (SpanV.mk 0 0))) rfl rfl (built_of tb34 rfl)) rfl rfl) ?_
   refine rS (MV rfl) ?_
   refine SW0 rfl ts34 rfl ?_
   refine rS (AG rfl) ?_
   refine RK hK7 ?_
   refine w_ret ?_
   refine hQ _ _ _ (l_nil (vs := [(Value.agg (SpanV.cells (SpanV.mk 0 0)).toArray), (Value.int .i64 (lineE l))]) ⟨⟨_, rfl, .inl ⟨_, _, tk34, at_blk (vs := (SpanV.cells (SpanV.mk 0 0))) 0 rfl rfl, rfl, rfl⟩⟩, rfl, trivial⟩ fun w hs => endV ?_ hs)
   show (Value.tuple [(Value.agg (SpanV.cells (SpanV.mk 0 0)).toArray), (Value.int .i64 (lineE l))].toArray) = (Value.tuple [(Value.agg (SpanV.cells (aheadV l ck at_)).toArray), (Value.int .i64 (aheadE l ck at_))].toArray)
   clear hs w hQ hN hK7 hK6 hK5 hK4 hK1
   first | (have e := ahead_bad (ck := ck) (at_ := at_) h12; rw [e.1, e.2] <;> rfl) | (have e := ahead_in (ck := ck) (at_ := at_) h12 (by omega) hx; rw [e.1, e.2] <;> rfl) | (have e := ahead_out (ck := ck) (at_ := at_) h12 (by omega); rw [e.1, e.2] <;> rfl)
 replace h12 := XF h12
 refine WK hK4 ?_
 refine w_seq fun _ hK8 => ?_
 refine WS fun _ hK9 => ?_
 obtain ⟨htr, hok⟩ := lineE_zero h12
 refine rS (MV rfl) ?_
 refine rS (FA 2 rfl fo28_2 rfl) ?_
 refine rS (L1 (Value.slice cA l.Clocks.length cC) 1 rfl tk25 rfl rfl) ?_
 refine rS (LN rfl ut25) ?_
 refine rS (BI rfl (b_sub ⟨by omega, by omega⟩)) ?_
 refine rS (CL (within_5 ck 0 (((l.Clocks.length : Nat) : Int) - 1)) (ha_nil) rfl) ?_
 refine rS (NT rfl) ?_
 refine rS (MV rfl) ?_
 refine r_bool (t := 22) rfl (fun h22 => ?_) (fun h22 => ?_)
 · replace h22 := XT h22
   refine rS (OX rfl) ?_
   refine rS (OX rfl) ?_
   refine rS (OX rfl) ?_
   refine rS (PK rfl) ?_
   refine RK hK9 ?_
   refine w_if_true rfl ?_
   refine WS fun _ hK10 => ?_
   refine rS (SX (sd_build (xs := []) (cs := (SpanV.cells (SpanV.mk 0 0))) rfl rfl (built_of tb34 rfl)) rfl rfl) ?_
   refine SW0 rfl ts34 rfl ?_
   refine rS (AG rfl) ?_
   refine RK hK10 ?_
   refine w_ret ?_
   refine hQ _ _ _ (l_nil (vs := [(Value.agg (SpanV.cells (SpanV.mk 0 0)).toArray), (Value.int .i64 2)]) ⟨⟨_, rfl, .inl ⟨_, _, tk34, at_blk (vs := (SpanV.cells (SpanV.mk 0 0))) 0 rfl rfl, rfl, rfl⟩⟩, rfl, trivial⟩ fun w hs => endV ?_ hs)
   show (Value.tuple [(Value.agg (SpanV.cells (SpanV.mk 0 0)).toArray), (Value.int .i64 2)].toArray) = (Value.tuple [(Value.agg (SpanV.cells (aheadV l ck at_)).toArray), (Value.int .i64 (aheadE l ck at_))].toArray)
   clear hs w hQ hN hK10 hK9 hK8 hK6 hK5 hK4 hK1
   first | (have e := ahead_bad (ck := ck) (at_ := at_) h12; rw [e.1, e.2] <;> rfl) | (have e := ahead_in (ck := ck) (at_ := at_) h12 (by omega) hx; rw [e.1, e.2] <;> rfl) | (have e := ahead_out (ck := ck) (at_ := at_) h12 (by omega); rw [e.1, e.2] <;> rfl)
 replace h22 := XF h22
 refine rS (MV rfl) ?_
 refine rS (CL (within_5 at_ 0 86400000) (ha_nil) rfl) ?_
 refine rS (NT rfl) ?_
 refine rS (PK rfl) ?_
 refine RK hK9 ?_
 refine w_if rfl (fun h26 => ?_) (fun h26 => ?_)
 · replace h26 := XT h26
   refine WS fun _ hK11 => ?_
   refine rS (SX (sd_build (xs := []) (cs := (SpanV.cells (SpanV.mk 0 0))) rfl rfl (built_of tb34 rfl)) rfl rfl) ?_
   refine SW0 rfl ts34 rfl ?_
   refine rS (AG rfl) ?_
   refine RK hK11 ?_
   refine w_ret ?_
   refine hQ _ _ _ (l_nil (vs := [(Value.agg (SpanV.cells (SpanV.mk 0 0)).toArray), (Value.int .i64 2)]) ⟨⟨_, rfl, .inl ⟨_, _, tk34, at_blk (vs := (SpanV.cells (SpanV.mk 0 0))) 0 rfl rfl, rfl, rfl⟩⟩, rfl, trivial⟩ fun w hs => endV ?_ hs)
   show (Value.tuple [(Value.agg (SpanV.cells (SpanV.mk 0 0)).toArray), (Value.int .i64 2)].toArray) = (Value.tuple [(Value.agg (SpanV.cells (aheadV l ck at_)).toArray), (Value.int .i64 (aheadE l ck at_))].toArray)
   clear hs w hQ hN hK11 hK9 hK8 hK6 hK5 hK4 hK1
   first | (have e := ahead_bad (ck := ck) (at_ := at_) h12; rw [e.1, e.2] <;> rfl) | (have e := ahead_in (ck := ck) (at_ := at_) h12 (by omega) hx; rw [e.1, e.2] <;> rfl) | (have e := ahead_out (ck := ck) (at_ := at_) h12 (by omega); rw [e.1, e.2] <;> rfl)
 replace h26 := XF h26
 refine WK hK8 ?_
 refine WS fun _ hK12 => ?_
 refine rS (FA 2 rfl fo28_2 rfl) ?_
 refine rS (L1 (Value.slice cA l.Clocks.length cC) 1 rfl tk25 rfl rfl) ?_
 refine rS (MV rfl) ?_
 obtain ⟨x, hx⟩ : ∃ y_, l.Clocks[(ck).toNat]? = some y_ := ⟨l.Clocks[(ck).toNat]'(by omega), List.getElem?_eq_getElem _⟩
 obtain ⟨xa, hxa⟩ : ∃ y_, az[(ck).toNat]? = some y_ := ⟨az[(ck).toNat]'(by omega), List.getElem?_eq_getElem _⟩
 have hxm : (List.zipWith ClockM.cells l.Clocks az)[(ck).toNat]? = some (ClockM.cells x xa) := zip_get hx hxa
 refine rS (IA ((ck).toNat) rfl (has_at 3 rfl) te25 (by decide) (by omega) (by omega)) ?_
 refine rS (LEN ((ck).toNat) 0 (ClockV.cells (ClockV.mk x.Drift (Slc.mk xa.1 x.Syncs.length xa.2))) rfl tk64 (has_at 3 rfl) hxm rfl (by decide) rfl rfl) ?_
 refine rS (MV rfl) ?_
 refine rS (CL (rahead_c x xa.1 xa.2 at_ (by exact hok.clock _ (List.mem_of_getElem? hx)) (by first | assumption | omega | (simp; done) | (simp; omega))) (ha_cons (show Has _ (rd xa.1 x.Syncs.length 3 (x.Syncs.map SyncV.cells)).holds from (has_inr 4 rfl (mem_nest hx hxa (by simp [ClockM.rds])))) <| ha_nil) rfl) ?_
 refine SW0 rfl ts34 rfl ?_
 refine rS (AG rfl) ?_
 refine RK hK12 ?_
 refine w_ret ?_
 refine hQ _ _ _ (l_nil (vs := [(Value.agg (SpanV.cells (aheadF x at_)).toArray), (Value.int .i64 0)]) ⟨⟨_, rfl, .inl ⟨_, _, tk34, at_blk (vs := (SpanV.cells (aheadF x at_))) 0 rfl rfl, rfl, rfl⟩⟩, rfl, trivial⟩ fun w hs => endV ?_ hs)
 show (Value.tuple [(Value.agg (SpanV.cells (aheadF x at_)).toArray), (Value.int .i64 0)].toArray) = (Value.tuple [(Value.agg (SpanV.cells (aheadV l ck at_)).toArray), (Value.int .i64 (aheadE l ck at_))].toArray)
 clear hs w hQ hN hK12 hK9 hK8 hK6 hK5 hK4 hK1
 first | (have e := ahead_bad (ck := ck) (at_ := at_) h12; rw [e.1, e.2] <;> rfl) | (have e := ahead_in (ck := ck) (at_ := at_) h12 (by omega) hx; rw [e.1, e.2] <;> rfl) | (have e := ahead_out (ck := ck) (at_ := at_) h12 (by omega); rw [e.1, e.2] <;> rfl)

set_option maxRecDepth 100000 in
set_option maxHeartbeats 400000 in
theorem rwhen_c (l : LineM) (kA : Option Addr) (kC : Nat) (az : List RA) (cA : Option Addr) (cC : Nat) (bA : Option Addr) (bC : Nat) (s : SignalV) (hin : LineIn l az) (hok : LineOk l) (hs : (0 ≤ s.Beam ∧ s.Beam ≤ (l.Beams.length : Int) - 1) ∧ 0 ≤ s.Read ∧ s.Read ≤ 86400000) :
    FnV Try.prog 50 [(Value.agg (LineV.cells (LineV.mk (TrackV.mk (Slc.mk kA l.Track.length kC)) l.Fast (Slc.mk cA l.Clocks.length cC) (Slc.mk bA l.Beams.length bC) l.Finish l.Fakes l.Misses)).toArray), (Value.agg (SignalV.cells s).toArray)] [(rd kA l.Track.length 9 (l.Track.map StretchV.cells)), (rd cA l.Clocks.length 2 (List.zipWith ClockM.cells l.Clocks az)), (bun (nest ClockM.rds l.Clocks az)), (rd bA l.Beams.length 4 (l.Beams.map BeamV.cells))] (Value.tuple [(Value.agg (SpanV.cells (whenF l s)).toArray), (Value.bool (decide ((whenF l s).Lo ≤ (whenF l s).Hi)))].toArray) := by
 have htk := hin.trk
 have hck := hin.cks
 have has := hin.as_
 have hbm := hin.bms
 refine fnV_of go50 Try.func50 rfl rfl fun w0 Q hQ hN => ?_
 change WJ _ _ _ _ [(0, (Value.agg (LineV.cells (LineV.mk (TrackV.mk (Slc.mk kA l.Track.length kC)) l.Fast (Slc.mk cA l.Clocks.length cC) (Slc.mk bA l.Beams.length bC) l.Finish l.Fakes l.Misses)).toArray)), (1, (Value.agg (SignalV.cells s).toArray))] [(rd kA l.Track.length 9 (l.Track.map StretchV.cells)).ro, (rd cA l.Clocks.length 2 (List.zipWith ClockM.cells l.Clocks az)).ro, (bun (nest ClockM.rds l.Clocks az)).ro, (rd bA l.Beams.length 4 (l.Beams.map BeamV.cells)).ro]
 refine WS fun _ hK1 => ?_
 refine BXA rfl fun b2 => ?_
 refine BXA rfl fun b3 => ?_
 refine AL rfl tz34 fun b4 => ?_
 refine rS (AG rfl) ?_
 refine RK hK1 ?_
 refine w_seq fun _ hK5 => ?_
 refine w_draw4 mixed [0, 1, 2, 3, 4, 5, 6, 7, 8, 9, 10] [11, 12] [false, false, false, false, false, false, false, false, false, false, false] [false, false] [(blk b4 34 (SpanV.cells (SpanV.mk 0 0))), (blk b3 30 (SignalV.cells s)), (blk b2 28 (LineV.cells (LineV.mk (TrackV.mk (Slc.mk kA l.Track.length kC)) l.Fast (Slc.mk cA l.Clocks.length cC) (Slc.mk bA l.Beams.length bC) l.Finish l.Fakes l.Misses))), (rd kA l.Track.length 9 (l.Track.map StretchV.cells)).ro, (rd cA l.Clocks.length 2 (List.zipWith ClockM.cells l.Clocks az)).ro, (bun (nest ClockM.rds l.Clocks az)).ro, (rd bA l.Beams.length 4 (l.Beams.map BeamV.cells)).ro] [] (by kernel_rfl) (fun w hs => St.sel [0, 1, 2, 3, 4, 5, 6] rfl rfl hs) (fun w hs => St.sel [] rfl rfl hs) ?_
 refine eS rfl (FA 2 rfl fo28_2 rfl) ?_
 refine eS rfl (L1 (Value.slice cA l.Clocks.length cC) 2 rfl tk25 rfl rfl) ?_
 refine eS rfl (FA 3 rfl fo28_3 rfl) ?_
 refine eS rfl (L1 (Value.slice bA l.Beams.length bC) 2 rfl tk26 rfl rfl) ?_
 refine eS rfl (FA 0 rfl fo30_0 rfl) ?_
 refine eS rfl (L1 (Value.int .i64 s.Beam) 1 rfl tk3 rfl rfl) ?_
 obtain ⟨y, hy⟩ : ∃ y_, l.Beams[(s.Beam).toNat]? = some y_ := ⟨l.Beams[(s.Beam).toNat]'(by omega), List.getElem?_eq_getElem _⟩
 have hym : (l.Beams.map BeamV.cells)[(s.Beam).toNat]? = some (BeamV.cells y) := by rw [List.getElem?_map, hy]; rfl
 refine eS rfl (IA ((s.Beam).toNat) rfl (has_at 6 rfl) te26 (by decide) (by omega) (by omega)) ?_
 refine eS rfl (FAR ((((s.Beam).toNat) * 4) + 3) rfl (has_at 6 rfl) (Nat.mul_pos (by omega) (by decide)) fo55_1 rfl) ?_
 refine eS rfl (LE1 ((s.Beam).toNat) 3 (Value.int .i64 y.Clock) rfl tk3 (has_at 6 rfl) hym rfl (by decide) rfl) ?_
 have hyb := (hok.beam _ (List.mem_of_getElem? hy)).2
 obtain ⟨x, hx⟩ : ∃ y_, l.Clocks[(y.Clock).toNat]? = some y_ := ⟨l.Clocks[(y.Clock).toNat]'(by omega), List.getElem?_eq_getElem _⟩
 obtain ⟨xa, hxa⟩ : ∃ y_, az[(y.Clock).toNat]? = some y_ := ⟨az[(y.Clock).toNat]'(by omega), List.getElem?_eq_getElem _⟩
 have hxm : (List.zipWith ClockM.cells l.Clocks az)[(y.Clock).toNat]? = some (ClockM.cells x xa) := zip_get hx hxa
 refine eS rfl (IA ((y.Clock).toNat) rfl (has_at 4 rfl) te25 (by decide) (by omega) (by omega)) ?_
 refine eS rfl (LEN ((y.Clock).toNat) 0 (ClockV.cells (ClockV.mk x.Drift (Slc.mk xa.1 x.Syncs.length xa.2))) rfl tk64 (has_at 4 rfl) hxm rfl (by decide) rfl rfl) ?_
 refine d_fin rfl ?_
 refine t_cons rfl fun T6 hT6 => ?_
 refine AL rfl tz64 fun b7 => ?_
 refine r_nil (hT6 _ _ (fun w hs => St.sel [1, 2, 3, 4, 5, 6, 7] rfl rfl hs) ?_)
 refine t_cons rfl fun T8 hT8 => ?_
 refine SW0 rfl ts64 rfl ?_
 refine r_nil (hT8 _ _ (fun w hs => St.sel [1, 2, 3, 4, 5, 6, 7] rfl rfl hs) ?_)
 refine t_fin rfl ?_
 refine KK hK5 ?_
 refine WS fun _ hK9 => ?_
 refine rS (AG rfl) ?_
 refine rS (AG rfl) ?_
 refine RK hK9 ?_
 refine w_seq fun _ hK10 => ?_
 refine w_block ?_
 have hinit : (0 ≤ (0 : Int) ∧ (0 : Int) ≤ (firstN (whenLo x s.Read) 86400001)) ∧ ((firstN (whenLo x s.Read) 86400001) ≤ (86400001 : Int) ∧ (86400001 : Int) ≤ 86400001) := by (have hfl := firstN_b (p := whenLo x s.Read) (n := 86400001); omega)
 refine w_loop (ι := { z : Int × Int // (0 ≤ z.1 ∧ z.1 ≤ (firstN (whenLo x s.Read) 86400001)) ∧ ((firstN (whenLo x s.Read) 86400001) ≤ z.2 ∧ z.2 ≤ 86400001) }) (fun z => [(2, (Value.pointer (some ⟨b2, 0, none⟩))), (3, (Value.pointer (some ⟨b3, 0, none⟩))), (4, (Value.pointer (some ⟨b4, 0, none⟩))), (6, (Value.pointer (some ⟨b7, 0, none⟩))), (7, (Value.int .i64 z.1.1)), (8, (Value.int .i64 z.1.2))]) (fun z => [(blk b7 64 (ClockV.cells (ClockV.mk x.Drift (Slc.mk xa.1 x.Syncs.length xa.2)))), (blk b4 34 (SpanV.cells (SpanV.mk 0 0))), (blk b3 30 (SignalV.cells s)), (blk b2 28 (LineV.cells (LineV.mk (TrackV.mk (Slc.mk kA l.Track.length kC)) l.Fast (Slc.mk cA l.Clocks.length cC) (Slc.mk bA l.Beams.length bC) l.Finish l.Fakes l.Misses))), (rd kA l.Track.length 9 (l.Track.map StretchV.cells)).ro, (rd cA l.Clocks.length 2 (List.zipWith ClockM.cells l.Clocks az)).ro, (bun (nest ClockM.rds l.Clocks az)).ro, (rd bA l.Beams.length 4 (l.Beams.map BeamV.cells)).ro]) (fun z => (z.1.2 - z.1.1).toNat) ⟨((0 : Int), (86400001 : Int)), hinit⟩ (Sub.cons rfl <| Sub.cons rfl <| Sub.cons rfl <| Sub.cons rfl <| Sub.cons rfl <| Sub.cons rfl <| Sub.nil _) (fun w hs => St.sel [0, 1, 2, 3, 4, 5, 6, 7] rfl rfl hs) ?_
 clear hinit
 rintro ⟨⟨a, b⟩, ⟨hl3_0, hl3_1⟩⟩ J11 hJ11
 try dsimp only at hl3_0 hl3_1
 change WJ _ _ _ _ [(2, (Value.pointer (some ⟨b2, 0, none⟩))), (3, (Value.pointer (some ⟨b3, 0, none⟩))), (4, (Value.pointer (some ⟨b4, 0, none⟩))), (6, (Value.pointer (some ⟨b7, 0, none⟩))), (7, (Value.int .i64 a)), (8, (Value.int .i64 b))] [(blk b7 64 (ClockV.cells (ClockV.mk x.Drift (Slc.mk xa.1 x.Syncs.length xa.2)))), (blk b4 34 (SpanV.cells (SpanV.mk 0 0))), (blk b3 30 (SignalV.cells s)), (blk b2 28 (LineV.cells (LineV.mk (TrackV.mk (Slc.mk kA l.Track.length kC)) l.Fast (Slc.mk cA l.Clocks.length cC) (Slc.mk bA l.Beams.length bC) l.Finish l.Fakes l.Misses))), (rd kA l.Track.length 9 (l.Track.map StretchV.cells)).ro, (rd cA l.Clocks.length 2 (List.zipWith ClockM.cells l.Clocks az)).ro, (bun (nest ClockM.rds l.Clocks az)).ro, (rd bA l.Beams.length 4 (l.Beams.map BeamV.cells)).ro]
 have hxo := hok.clock _ (List.mem_of_getElem? hx)
 have hfl := firstN_b (p := whenLo x s.Read) (n := 86400001)
 have hfh := firstN_b (p := whenHi x s.Read) (n := 86400001)
 refine w_seq fun _ hK12 => ?_
 refine WS fun _ hK13 => ?_
 refine rS (MV rfl) ?_
 refine rS (MV rfl) ?_
 refine rS (BI rfl b_lss) ?_
 refine RK hK13 ?_
 refine w_if rfl (fun h14 => ?_) (fun h14 => ?_)
 · replace h14 := DT h14
   refine WK hK12 ?_
   refine w_block ?_
   refine WS fun _ hK15 => ?_
   refine rS (MV rfl) ?_
   refine rS (MV rfl) ?_
   refine rS (BI rfl (b_add ⟨by omega, by omega⟩)) ?_
   refine rS (BI rfl (b_quo (by omega) (by omega) (by omega))) ?_
   refine rS (AG rfl) ?_
   refine RK hK15 ?_
   refine w_seq fun _ hK16 => ?_
   refine w_draw mixed 9 (by kernel_rfl) ?_
   refine dS (MV rfl) ?_
   refine dS (LW 0 rfl tk64 rfl rfl) ?_
   refine dS (MV rfl) ?_
   refine dS (CL (rahead_c x xa.1 xa.2 ((a + b) / 2) (by first | assumption | omega | (simp; done) | (simp; omega)) (by first | assumption | omega | (simp; done) | (simp; omega))) (ha_cons (show Has _ (rd xa.1 x.Syncs.length 3 (x.Syncs.map SyncV.cells)).holds from (has_inr 6 rfl (mem_nest hx hxa (by simp [ClockM.rds])))) <| ha_nil) rfl) ?_
   refine dS (SX (sd_field1 (v := (Value.int .i64 ((aheadF x ((a + b) / 2)).Hi))) rfl rfl fo34_1 tf34_1 rfl) rfl rfl) ?_
   have hab := aheadF_b hxo (show 0 ≤ (a + b) / 2 ∧ (a + b) / 2 ≤ 90000000 by omega)
   refine dS (BI rfl (b_add ⟨by omega, by omega⟩)) ?_
   refine dS (FA 1 rfl fo30_1 rfl) ?_
   refine dS (L1 (Value.int .i64 s.Read) 2 rfl tk3 rfl rfl) ?_
   refine dS (BI rfl b_geq) ?_
   refine d_end ?_
   refine RK hK16 ?_
   refine w_if rfl (fun h38 => ?_) (fun h38 => ?_)
   · replace h38 := DT h38
     refine w_region ?_
     refine rS (MV rfl) ?_
     refine rS (AG rfl) ?_
     refine r_nil ?_
     refine k_block ?_
     refine k_then (hJ11 ⟨(a, ((a + b) / 2)), (by dsimp only; have hm := when_mono (r := s.Read) hxo (x := (a + b) / 2) (by omega) (by omega); rcases Int.lt_or_le ((a + b) / 2) (firstN (whenLo x s.Read) 86400001) with q | q; (have q2 := hm.1 q; simp only [whenLo, decide_eq_false_iff_not] at q2; omega); (have q2 := hm.2.1 q; simp only [whenLo, decide_eq_true_eq] at q2; omega))⟩ _ _ _ rfl (by simp only []; omega) (Sub.cons rfl <| Sub.cons rfl <| Sub.cons rfl <| Sub.cons rfl <| Sub.cons rfl <| Sub.cons rfl <| Sub.nil _) (fun w hs => St.sel [0, 1, 2, 3, 4, 5, 6, 7] rfl rfl hs))
   replace h38 := DF h38
   refine w_region ?_
   refine rS (MV rfl) ?_
   refine rS (BI rfl (b_add ⟨by omega, by omega⟩)) ?_
   refine rS (AG rfl) ?_
   refine r_nil ?_
   refine k_block ?_
   refine k_then (hJ11 ⟨((((a + b) / 2) + 1), b), (by dsimp only; have hm := when_mono (r := s.Read) hxo (x := (a + b) / 2) (by omega) (by omega); rcases Int.lt_or_le ((a + b) / 2) (firstN (whenLo x s.Read) 86400001) with q | q; (have q2 := hm.1 q; simp only [whenLo, decide_eq_false_iff_not] at q2; omega); (have q2 := hm.2.1 q; simp only [whenLo, decide_eq_true_eq] at q2; omega))⟩ _ _ _ rfl (by simp only []; omega) (Sub.cons rfl <| Sub.cons rfl <| Sub.cons rfl <| Sub.cons rfl <| Sub.cons rfl <| Sub.cons rfl <| Sub.nil _) (fun w hs => St.sel [0, 1, 2, 3, 4, 5, 6, 7] rfl rfl hs))
 replace h14 := DF h14
 refine w_exit ?_
 refine k_exit_then ?_
 refine k_exit_then ?_
 refine k_exit_same ?_
 refine KK hK10 ?_
 refine WS fun _ hK17 => ?_
 refine rS (MV rfl) ?_
 refine rS (AG rfl) ?_
 refine RK hK17 ?_
 refine WS fun _ hK18 => ?_
 refine rS (AG rfl) ?_
 refine rS (AG rfl) ?_
 refine RK hK18 ?_
 refine w_seq fun _ hK19 => ?_
 refine w_block ?_
 have hinit : (-1 ≤ ((-1) : Int) ∧ ((-1) : Int) ≤ (firstN (whenHi x s.Read) 86400001) - 1) ∧ ((firstN (whenHi x s.Read) 86400001) - 1 ≤ (86400000 : Int) ∧ (86400000 : Int) ≤ 86400000) := by (have hfh := firstN_b (p := whenHi x s.Read) (n := 86400001); omega)
 refine w_loop (ι := { z : Int × Int // (-1 ≤ z.1 ∧ z.1 ≤ (firstN (whenHi x s.Read) 86400001) - 1) ∧ ((firstN (whenHi x s.Read) 86400001) - 1 ≤ z.2 ∧ z.2 ≤ 86400000) }) (fun z => [(2, (Value.pointer (some ⟨b2, 0, none⟩))), (3, (Value.pointer (some ⟨b3, 0, none⟩))), (4, (Value.pointer (some ⟨b4, 0, none⟩))), (6, (Value.pointer (some ⟨b7, 0, none⟩))), (7, (Value.int .i64 z.1.1)), (8, (Value.int .i64 z.1.2)), (10, (Value.int .i64 a))]) (fun z => [(blk b7 64 (ClockV.cells (ClockV.mk x.Drift (Slc.mk xa.1 x.Syncs.length xa.2)))), (blk b4 34 (SpanV.cells (SpanV.mk 0 0))), (blk b3 30 (SignalV.cells s)), (blk b2 28 (LineV.cells (LineV.mk (TrackV.mk (Slc.mk kA l.Track.length kC)) l.Fast (Slc.mk cA l.Clocks.length cC) (Slc.mk bA l.Beams.length bC) l.Finish l.Fakes l.Misses))), (rd kA l.Track.length 9 (l.Track.map StretchV.cells)).ro, (rd cA l.Clocks.length 2 (List.zipWith ClockM.cells l.Clocks az)).ro, (bun (nest ClockM.rds l.Clocks az)).ro, (rd bA l.Beams.length 4 (l.Beams.map BeamV.cells)).ro]) (fun z => (z.1.2 - z.1.1).toNat) ⟨(((-1) : Int), (86400000 : Int)), hinit⟩ (Sub.cons rfl <| Sub.cons rfl <| Sub.cons rfl <| Sub.cons rfl <| Sub.cons rfl <| Sub.cons rfl <| Sub.cons rfl <| Sub.nil _) (fun w hs => St.sel [0, 1, 2, 3, 4, 5, 6, 7] rfl rfl hs) ?_
 clear hinit
 rintro ⟨⟨d, e⟩, ⟨hl10_0, hl10_1⟩⟩ J20 hJ20
 try dsimp only at hl10_0 hl10_1
 change WJ _ _ _ _ [(2, (Value.pointer (some ⟨b2, 0, none⟩))), (3, (Value.pointer (some ⟨b3, 0, none⟩))), (4, (Value.pointer (some ⟨b4, 0, none⟩))), (6, (Value.pointer (some ⟨b7, 0, none⟩))), (7, (Value.int .i64 d)), (8, (Value.int .i64 e)), (10, (Value.int .i64 a))] [(blk b7 64 (ClockV.cells (ClockV.mk x.Drift (Slc.mk xa.1 x.Syncs.length xa.2)))), (blk b4 34 (SpanV.cells (SpanV.mk 0 0))), (blk b3 30 (SignalV.cells s)), (blk b2 28 (LineV.cells (LineV.mk (TrackV.mk (Slc.mk kA l.Track.length kC)) l.Fast (Slc.mk cA l.Clocks.length cC) (Slc.mk bA l.Beams.length bC) l.Finish l.Fakes l.Misses))), (rd kA l.Track.length 9 (l.Track.map StretchV.cells)).ro, (rd cA l.Clocks.length 2 (List.zipWith ClockM.cells l.Clocks az)).ro, (bun (nest ClockM.rds l.Clocks az)).ro, (rd bA l.Beams.length 4 (l.Beams.map BeamV.cells)).ro]
 have hxo := hok.clock _ (List.mem_of_getElem? hx)
 have hfl := firstN_b (p := whenLo x s.Read) (n := 86400001)
 have hfh := firstN_b (p := whenHi x s.Read) (n := 86400001)
 refine w_seq fun _ hK21 => ?_
 refine WS fun _ hK22 => ?_
 refine rS (MV rfl) ?_
 refine rS (MV rfl) ?_
 refine rS (BI rfl b_lss) ?_
 refine RK hK22 ?_
 refine w_if rfl (fun h23 => ?_) (fun h23 => ?_)
 rotate_left 1
 · replace h23 := DF h23
   refine w_exit ?_
   refine k_exit_then ?_
   refine k_exit_then ?_
   refine k_exit_same ?_
   refine KK hK19 ?_
   refine WS fun _ hK26 => ?_
   refine rS (MV rfl) ?_
   refine rS (MV rfl) ?_
   refine rS (SX (sd_build (xs := [(0, .tmp 63), (1, .tmp 64)]) (cs := (SpanV.cells (SpanV.mk a d))) rfl rfl (built_of tb34 rfl)) rfl rfl) ?_
   refine rS (MV rfl) ?_
   refine rS (MV rfl) ?_
   refine rS (BI rfl b_leq) ?_
   refine SW1 rfl ts34 rfl ?_
   refine rS (AG rfl) ?_
   refine RK hK26 ?_
   refine w_ret ?_
   refine hQ _ _ _ (l_nil (vs := [(Value.agg (SpanV.cells (SpanV.mk a d)).toArray), (Value.bool (decide (a ≤ d)))]) ⟨⟨_, rfl, .inl ⟨_, _, tk34, at_blk (vs := (SpanV.cells (SpanV.mk a d))) 1 rfl rfl, rfl, rfl⟩⟩, rfl, trivial⟩ fun w hs => endV ?_ hs)
   show (Value.tuple [(Value.agg (SpanV.cells (SpanV.mk a d)).toArray), (Value.bool (decide (a ≤ d)))].toArray) = (Value.tuple [(Value.agg (SpanV.cells (whenF l s)).toArray), (Value.bool (decide ((whenF l s).Lo ≤ (whenF l s).Hi)))].toArray)
   clear hs w hQ hN hK26 hK22 hK21 hK19 hK18 hK17 hK13 hK12 hK10 hK9 hT8 T8 hT6 T6 hK5 hK1
   have e0 : whenF l s = ⟨a, d⟩ := by (unfold whenF whenC; rw [clockOf_eq hy hx, show a = (firstN (whenLo x s.Read) 86400001) by omega, show d = (firstN (whenHi x s.Read) 86400001) - 1 by omega])
   rw [e0]
 replace h23 := DT h23
 refine WK hK21 ?_
 refine w_block ?_
 refine WS fun _ hK24 => ?_
 refine rS (MV rfl) ?_
 refine rS (MV rfl) ?_
 refine rS (BI rfl (b_add ⟨by omega, by omega⟩)) ?_
 refine rS (BI rfl (b_add ⟨by omega, by omega⟩)) ?_
 refine rS (BI rfl (b_quo (by omega) (by omega) (by omega))) ?_
 refine rS (AG rfl) ?_
 refine RK hK24 ?_
 refine w_seq fun _ hK25 => ?_
 refine w_draw mixed 9 (by kernel_rfl) ?_
 refine dS (MV rfl) ?_
 refine dS (LW 0 rfl tk64 rfl rfl) ?_
 refine dS (MV rfl) ?_
 refine dS (CL (rahead_c x xa.1 xa.2 (((d + e) + 1) / 2) (by first | assumption | omega | (simp; done) | (simp; omega)) (by first | assumption | omega | (simp; done) | (simp; omega))) (ha_cons (show Has _ (rd xa.1 x.Syncs.length 3 (x.Syncs.map SyncV.cells)).holds from (has_inr 6 rfl (mem_nest hx hxa (by simp [ClockM.rds])))) <| ha_nil) rfl) ?_
 refine dS (SX (sd_field1 (v := (Value.int .i64 ((aheadF x (((d + e) + 1) / 2)).Lo))) rfl rfl fo34_0 tf34_0 rfl) rfl rfl) ?_
 have hab := aheadF_b hxo (show 0 ≤ (d + e + 1) / 2 ∧ (d + e + 1) / 2 ≤ 90000000 by omega)
 refine dS (BI rfl (b_add ⟨by omega, by omega⟩)) ?_
 refine dS (FA 1 rfl fo30_1 rfl) ?_
 refine dS (L1 (Value.int .i64 s.Read) 2 rfl tk3 rfl rfl) ?_
 refine dS (BI rfl b_leq) ?_
 refine d_end ?_
 refine RK hK25 ?_
 refine w_if rfl (fun h59 => ?_) (fun h59 => ?_)
 · replace h59 := DT h59
   refine w_region ?_
   refine rS (MV rfl) ?_
   refine rS (AG rfl) ?_
   refine r_nil ?_
   refine k_block ?_
   refine k_then (hJ20 ⟨((((d + e) + 1) / 2), e), (by dsimp only; have hm := when_mono (r := s.Read) hxo (x := (d + e + 1) / 2) (by omega) (by omega); rcases Int.lt_or_le ((d + e + 1) / 2) (firstN (whenHi x s.Read) 86400001) with q | q; (have q2 := hm.2.2.1 q; simp only [whenHi, decide_eq_false_iff_not] at q2; omega); (have q2 := hm.2.2.2 q; simp only [whenHi, decide_eq_true_eq] at q2; omega))⟩ _ _ _ rfl (by simp only []; omega) (Sub.cons rfl <| Sub.cons rfl <| Sub.cons rfl <| Sub.cons rfl <| Sub.cons rfl <| Sub.cons rfl <| Sub.cons rfl <| Sub.nil _) (fun w hs => St.sel [0, 1, 2, 3, 4, 5, 6, 7] rfl rfl hs))
 replace h59 := DF h59
 refine w_region ?_
 refine rS (MV rfl) ?_
 refine rS (BI rfl (b_sub ⟨by omega, by omega⟩)) ?_
 refine rS (AG rfl) ?_
 refine r_nil ?_
 refine k_block ?_
 refine k_then (hJ20 ⟨(d, ((((d + e) + 1) / 2) - 1)), (by dsimp only; have hm := when_mono (r := s.Read) hxo (x := (d + e + 1) / 2) (by omega) (by omega); rcases Int.lt_or_le ((d + e + 1) / 2) (firstN (whenHi x s.Read) 86400001) with q | q; (have q2 := hm.2.2.1 q; simp only [whenHi, decide_eq_false_iff_not] at q2; omega); (have q2 := hm.2.2.2 q; simp only [whenHi, decide_eq_true_eq] at q2; omega))⟩ _ _ _ rfl (by simp only []; omega) (Sub.cons rfl <| Sub.cons rfl <| Sub.cons rfl <| Sub.cons rfl <| Sub.cons rfl <| Sub.cons rfl <| Sub.cons rfl <| Sub.nil _) (fun w hs => St.sel [0, 1, 2, 3, 4, 5, 6, 7] rfl rfl hs))

set_option maxRecDepth 100000 in
set_option maxHeartbeats 400000 in
theorem rWhen_c (l : LineM) (kA : Option Addr) (kC : Nat) (az : List RA) (cA : Option Addr) (cC : Nat) (bA : Option Addr) (bC : Nat) (s : SignalV) (hin : LineIn l az) :
    FnV Try.prog 16 [(Value.agg (LineV.cells (LineV.mk (TrackV.mk (Slc.mk kA l.Track.length kC)) l.Fast (Slc.mk cA l.Clocks.length cC) (Slc.mk bA l.Beams.length bC) l.Finish l.Fakes l.Misses)).toArray), (Value.agg (SignalV.cells s).toArray)] [(rd kA l.Track.length 9 (l.Track.map StretchV.cells)), (rd cA l.Clocks.length 2 (List.zipWith ClockM.cells l.Clocks az)), (bun (nest ClockM.rds l.Clocks az)), (rd bA l.Beams.length 4 (l.Beams.map BeamV.cells))] (Value.tuple [(Value.agg (SpanV.cells (whenV l s)).toArray), (Value.int .i64 (whenE l s))].toArray) := by
 have htk := hin.trk
 have hck := hin.cks
 have has := hin.as_
 have hbm := hin.bms
 refine fnV_of go16 Try.func16 rfl rfl fun w0 Q hQ hN => ?_
 change WJ _ _ _ _ [(0, (Value.agg (LineV.cells (LineV.mk (TrackV.mk (Slc.mk kA l.Track.length kC)) l.Fast (Slc.mk cA l.Clocks.length cC) (Slc.mk bA l.Beams.length bC) l.Finish l.Fakes l.Misses)).toArray)), (1, (Value.agg (SignalV.cells s).toArray))] [(rd kA l.Track.length 9 (l.Track.map StretchV.cells)).ro, (rd cA l.Clocks.length 2 (List.zipWith ClockM.cells l.Clocks az)).ro, (bun (nest ClockM.rds l.Clocks az)).ro, (rd bA l.Beams.length 4 (l.Beams.map BeamV.cells)).ro]
 refine WS fun _ hK1 => ?_
 refine BXA rfl fun b2 => ?_
 refine BXA rfl fun b3 => ?_
 refine AL rfl tz34 fun b4 => ?_
 refine rS (AG rfl) ?_
 refine RK hK1 ?_
 refine w_seq fun _ hK5 => ?_
 refine WS fun _ hK6 => ?_
 refine rS (LW 2 rfl tk28 rfl rfl) ?_
 refine rS (CL (rcheck_c l kA kC az cA cC bA bC hin) (ha_at 3 rfl rfl <| ha_at 4 rfl rfl <| ha_at 5 rfl rfl <| ha_at 6 rfl rfl <| ha_nil) rfl) ?_
 refine rS (AG rfl) ?_
 refine RK hK6 ?_
 refine WS fun _ hK7 => ?_
 refine rS (MV rfl) ?_
 refine rS (BI rfl b_neq) ?_
 refine RK hK7 ?_
 refine w_if rfl (fun h11 => ?_) (fun h11 => ?_)
 · replace h11 := XT h11
   refine WS fun _ hK8 => ?_
   refine rS (SX (sd_build (xs := []) (cs := (SpanV.cells (SpanV.mk 0 0))) rfl rfl (built_of tb34 rfl)) rfl rfl) ?_
   refine rS (MV rfl) ?_
   refine SW0 rfl ts34 rfl ?_
   refine rS (AG rfl) ?_
   refine RK hK8 ?_
   refine w_ret ?_
   refine hQ _ _ _ (l_nil (vs := [(Value.agg (SpanV.cells (SpanV.mk 0 0)).toArray), (Value.int .i64 (lineE l))]) ⟨⟨_, rfl, .inl ⟨_, _, tk34, at_blk (vs := (SpanV.cells (SpanV.mk 0 0))) 0 rfl rfl, rfl, rfl⟩⟩, rfl, trivial⟩ fun w hs => endV ?_ hs)
   show (Value.tuple [(Value.agg (SpanV.cells (SpanV.mk 0 0)).toArray), (Value.int .i64 (lineE l))].toArray) = (Value.tuple [(Value.agg (SpanV.cells (whenV l s)).toArray), (Value.int .i64 (whenE l s))].toArray)
   clear hs w hQ hN hK8 hK7 hK6 hK5 hK1
   first | (have e := when_bad (s := s) h11; rw [e.1, e.2] <;> rfl) | (have e := when_none (s := s) h11 (by omega) (by omega); rw [e.1, e.2] <;> rfl) | (have e := when_in (s := s) h11 (by omega) (by omega); rw [e.1, e.2] <;> rfl) | (have e := when_out (s := s) h11 (by omega); rw [e.1, e.2] <;> rfl)
 replace h11 := XF h11
 refine WK hK5 ?_
 refine w_seq fun _ hK9 => ?_
 refine WS fun _ hK10 => ?_
 obtain ⟨htr, hok⟩ := lineE_zero h11
 refine rS (FA 0 rfl fo30_0 rfl) ?_
 refine rS (L1 (Value.int .i64 s.Beam) 1 rfl tk3 rfl rfl) ?_
 refine rS (FA 3 rfl fo28_3 rfl) ?_
 refine rS (L1 (Value.slice bA l.Beams.length bC) 2 rfl tk26 rfl rfl) ?_
 refine rS (LN rfl ut26) ?_
 refine rS (BI rfl (b_sub ⟨by omega, by omega⟩)) ?_
 refine rS (CL (within_5 s.Beam 0 (((l.Beams.length : Nat) : Int) - 1)) (ha_nil) rfl) ?_
 refine rS (NT rfl) ?_
 refine rS (MV rfl) ?_
 refine r_bool (t := 23) rfl (fun h23 => ?_) (fun h23 => ?_)
 · replace h23 := XT h23
   refine rS (OX rfl) ?_
   refine rS (OX rfl) ?_
   refine rS (OX rfl) ?_
   refine rS (OX rfl) ?_
   refine rS (PK rfl) ?_
   refine RK hK10 ?_
   refine w_if_true rfl ?_
   refine WS fun _ hK11 => ?_
   refine rS (SX (sd_build (xs := []) (cs := (SpanV.cells (SpanV.mk 0 0))) rfl rfl (built_of tb34 rfl)) rfl rfl) ?_
   refine SW0 rfl ts34 rfl ?_
   refine rS (AG rfl) ?_
   refine RK hK11 ?_
   refine w_ret ?_
   refine hQ _ _ _ (l_nil (vs := [(Value.agg (SpanV.cells (SpanV.mk 0 0)).toArray), (Value.int .i64 2)]) ⟨⟨_, rfl, .inl ⟨_, _, tk34, at_blk (vs := (SpanV.cells (SpanV.mk 0 0))) 0 rfl rfl, rfl, rfl⟩⟩, rfl, trivial⟩ fun w hs => endV ?_ hs)
   show (Value.tuple [(Value.agg (SpanV.cells (SpanV.mk 0 0)).toArray), (Value.int .i64 2)].toArray) = (Value.tuple [(Value.agg (SpanV.cells (whenV l s)).toArray), (Value.int .i64 (whenE l s))].toArray)
   clear hs w hQ hN hK11 hK10 hK9 hK7 hK6 hK5 hK1
   first | (have e := when_bad (s := s) h11; rw [e.1, e.2] <;> rfl) | (have e := when_none (s := s) h11 (by omega) (by omega); rw [e.1, e.2] <;> rfl) | (have e := when_in (s := s) h11 (by omega) (by omega); rw [e.1, e.2] <;> rfl) | (have e := when_out (s := s) h11 (by omega); rw [e.1, e.2] <;> rfl)
 replace h23 := XF h23
 refine rS (FA 1 rfl fo30_1 rfl) ?_
 refine rS (L1 (Value.int .i64 s.Read) 1 rfl tk3 rfl rfl) ?_
 refine rS (CL (within_5 s.Read 0 86400000) (ha_nil) rfl) ?_
 refine rS (NT rfl) ?_
 refine rS (PK rfl) ?_
 refine RK hK10 ?_
 refine w_if rfl (fun h28 => ?_) (fun h28 => ?_)
 · replace h28 := XT h28
   refine WS fun _ hK12 => ?_
   refine rS (SX (sd_build (xs := []) (cs := (SpanV.cells (SpanV.mk 0 0))) rfl rfl (built_of tb34 rfl)) rfl rfl) ?_
   refine SW0 rfl ts34 rfl ?_
   refine rS (AG rfl) ?_
   refine RK hK12 ?_
   refine w_ret ?_
   refine hQ _ _ _ (l_nil (vs := [(Value.agg (SpanV.cells (SpanV.mk 0 0)).toArray), (Value.int .i64 2)]) ⟨⟨_, rfl, .inl ⟨_, _, tk34, at_blk (vs := (SpanV.cells (SpanV.mk 0 0))) 0 rfl rfl, rfl, rfl⟩⟩, rfl, trivial⟩ fun w hs => endV ?_ hs)
   show (Value.tuple [(Value.agg (SpanV.cells (SpanV.mk 0 0)).toArray), (Value.int .i64 2)].toArray) = (Value.tuple [(Value.agg (SpanV.cells (whenV l s)).toArray), (Value.int .i64 (whenE l s))].toArray)
   clear hs w hQ hN hK12 hK10 hK9 hK7 hK6 hK5 hK1
   first | (have e := when_bad (s := s) h11; rw [e.1, e.2] <;> rfl) | (have e := when_none (s := s) h11 (by omega) (by omega); rw [e.1, e.2] <;> rfl) | (have e := when_in (s := s) h11 (by omega) (by omega); rw [e.1, e.2] <;> rfl) | (have e := when_out (s := s) h11 (by omega); rw [e.1, e.2] <;> rfl)
 replace h28 := XF h28
 refine WK hK9 ?_
 refine WS fun _ hK13 => ?_
 refine rS (LW 2 rfl tk28 rfl rfl) ?_
 refine rS (LW 1 rfl tk30 rfl rfl) ?_
 refine rS (CL (rwhen_c l kA kC az cA cC bA bC s hin (by first | assumption | omega | (simp; done) | (simp; omega)) (by first | assumption | omega | (simp; done) | (simp; omega))) (ha_at 3 rfl rfl <| ha_at 4 rfl rfl <| ha_at 5 rfl rfl <| ha_at 6 rfl rfl <| ha_nil) rfl) ?_
 refine rS (MV rfl) ?_
 refine rS (EX rfl) ?_
 refine rS (EX rfl) ?_
 refine AL rfl tz34 fun b14 => ?_
 refine SW0 rfl ts34 rfl ?_
 refine rS (AG rfl) ?_
 refine RK hK13 ?_
 refine w_seq fun _ hK15 => ?_
 refine WS fun _ hK16 => ?_
 refine rS (MV rfl) ?_
 refine rS (NT rfl) ?_
 refine RK hK16 ?_
 refine w_if rfl (fun h37 => ?_) (fun h37 => ?_)
 rotate_left 1
 · replace h37 := XF h37
   refine WK hK15 ?_
   refine WS fun _ hK18 => ?_
   refine rS (LW 0 rfl tk34 rfl rfl) ?_
   refine SW1 rfl ts34 rfl ?_
   refine rS (AG rfl) ?_
   refine RK hK18 ?_
   refine w_ret ?_
   refine hQ _ _ _ (l_nil (vs := [(Value.agg (SpanV.cells (whenF l s)).toArray), (Value.int .i64 0)]) ⟨⟨_, rfl, .inl ⟨_, _, tk34, at_blk (vs := (SpanV.cells (whenF l s))) 1 rfl rfl, rfl, rfl⟩⟩, rfl, trivial⟩ fun w hs => endV ?_ hs)
   show (Value.tuple [(Value.agg (SpanV.cells (whenF l s)).toArray), (Value.int .i64 0)].toArray) = (Value.tuple [(Value.agg (SpanV.cells (whenV l s)).toArray), (Value.int .i64 (whenE l s))].toArray)
   clear hs w hQ hN hK18 hK16 hK15 hK13 hK10 hK9 hK7 hK6 hK5 hK1
   first | (have e := when_bad (s := s) h11; rw [e.1, e.2] <;> rfl) | (have e := when_none (s := s) h11 (by omega) (by omega); rw [e.1, e.2] <;> rfl) | (have e := when_in (s := s) h11 (by omega) (by omega); rw [e.1, e.2] <;> rfl) | (have e := when_out (s := s) h11 (by omega); rw [e.1, e.2] <;> rfl)
 replace h37 := XT h37
 refine WS fun _ hK17 => ?_
 refine rS (SX (sd_build (xs := []) (cs := (SpanV.cells (SpanV.mk 0 0))) rfl rfl (built_of tb34 rfl)) rfl rfl) ?_
 refine SW1 rfl ts34 rfl ?_
 refine rS (AG rfl) ?_
 refine RK hK17 ?_
 refine w_ret ?_
 refine hQ _ _ _ (l_nil (vs := [(Value.agg (SpanV.cells (SpanV.mk 0 0)).toArray), (Value.int .i64 6)]) ⟨⟨_, rfl, .inl ⟨_, _, tk34, at_blk (vs := (SpanV.cells (SpanV.mk 0 0))) 1 rfl rfl, rfl, rfl⟩⟩, rfl, trivial⟩ fun w hs => endV ?_ hs)
 show (Value.tuple [(Value.agg (SpanV.cells (SpanV.mk 0 0)).toArray), (Value.int .i64 6)].toArray) = (Value.tuple [(Value.agg (SpanV.cells (whenV l s)).toArray), (Value.int .i64 (whenE l s))].toArray)
 clear hs w hQ hN hK17 hK16 hK15 hK13 hK10 hK9 hK7 hK6 hK5 hK1
 first | (have e := when_bad (s := s) h11; rw [e.1, e.2] <;> rfl) | (have e := when_none (s := s) h11 (by omega) (by omega); rw [e.1, e.2] <;> rfl) | (have e := when_in (s := s) h11 (by omega) (by omega); rw [e.1, e.2] <;> rfl) | (have e := when_out (s := s) h11 (by omega); rw [e.1, e.2] <;> rfl)

set_option maxRecDepth 100000 in
set_option maxHeartbeats 400000 in
theorem rLeast_c (l : LineM) (kA : Option Addr) (kC : Nat) (az : List RA) (cA : Option Addr) (cC : Nat) (bA : Option Addr) (bC : Nat) (n : Int) (hin : LineIn l az) :
    FnV Try.prog 18 [(Value.agg (LineV.cells (LineV.mk (TrackV.mk (Slc.mk kA l.Track.length kC)) l.Fast (Slc.mk cA l.Clocks.length cC) (Slc.mk bA l.Beams.length bC) l.Finish l.Fakes l.Misses)).toArray), (Value.int .i64 n)] [(rd kA l.Track.length 9 (l.Track.map StretchV.cells)), (rd cA l.Clocks.length 2 (List.zipWith ClockM.cells l.Clocks az)), (bun (nest ClockM.rds l.Clocks az)), (rd bA l.Beams.length 4 (l.Beams.map BeamV.cells))] (Value.tuple [(Value.int .i64 (leastV l n)), (Value.int .i64 (leastE l n))].toArray) := by
 have htk := hin.trk
 have hck := hin.cks
 have has := hin.as_
 have hbm := hin.bms
 refine fnV_of go18 Try.func18 rfl rfl fun w0 Q hQ hN => ?_
 change WJ _ _ _ _ [(0, (Value.agg (LineV.cells (LineV.mk (TrackV.mk (Slc.mk kA l.Track.length kC)) l.Fast (Slc.mk cA l.Clocks.length cC) (Slc.mk bA l.Beams.length bC) l.Finish l.Fakes l.Misses)).toArray)), (1, (Value.int .i64 n))] [(rd kA l.Track.length 9 (l.Track.map StretchV.cells)).ro, (rd cA l.Clocks.length 2 (List.zipWith ClockM.cells l.Clocks az)).ro, (bun (nest ClockM.rds l.Clocks az)).ro, (rd bA l.Beams.length 4 (l.Beams.map BeamV.cells)).ro]
 refine WS fun _ hK1 => ?_
 refine BXA rfl fun b2 => ?_
 refine rS (AG rfl) ?_
 refine rS (AG rfl) ?_
 refine RK hK1 ?_
 refine w_seq fun _ hK3 => ?_
 refine WS fun _ hK4 => ?_
 refine rS (LW 0 rfl tk28 rfl rfl) ?_
 refine rS (CL (rcheck_c l kA kC az cA cC bA bC hin) (ha_at 1 rfl rfl <| ha_at 2 rfl rfl <| ha_at 3 rfl rfl <| ha_at 4 rfl rfl <| ha_nil) rfl) ?_
 refine rS (AG rfl) ?_
 refine RK hK4 ?_
 refine WS fun _ hK5 => ?_
 refine rS (MV rfl) ?_
 refine rS (BI rfl b_neq) ?_
 refine RK hK5 ?_
 refine w_if rfl (fun h10 => ?_) (fun h10 => ?_)
 · replace h10 := XT h10
   refine WS fun _ hK6 => ?_
   refine rS (MV rfl) ?_
   refine rS (AG rfl) ?_
   refine rS (AG rfl) ?_
   refine RK hK6 ?_
   refine w_ret ?_
   refine Q2 hQ rfl rfl rfl rfl ?_
   first | (have e := least_bad (i := n) h10; rw [e.1, e.2] <;> rfl) | (have e := least_in (i := n) h10 (by omega); rw [e.1, e.2] <;> rfl) | (have e := least_out (i := n) h10 (by omega); rw [e.1, e.2] <;> rfl)
 replace h10 := XF h10
 refine WK hK3 ?_
 refine w_seq fun _ hK7 => ?_
 refine WS fun _ hK8 => ?_
 obtain ⟨htr, hok⟩ := lineE_zero h10
 refine rS (MV rfl) ?_
 refine rS (FA 3 rfl fo28_3 rfl) ?_
 refine rS (L1 (Value.slice bA l.Beams.length bC) 0 rfl tk26 rfl rfl) ?_
 refine rS (LN rfl ut26) ?_
 refine rS (BI rfl (b_sub ⟨by omega, by omega⟩)) ?_
 refine rS (CL (within_5 n 0 (((l.Beams.length : Nat) : Int) - 1)) (ha_nil) rfl) ?_
 refine rS (NT rfl) ?_
 refine RK hK8 ?_
 refine w_if rfl (fun h19 => ?_) (fun h19 => ?_)
 · replace h19 := XT h19
   refine WS fun _ hK9 => ?_
   refine rS (AG rfl) ?_
   refine rS (AG rfl) ?_
   refine RK hK9 ?_
   refine w_ret ?_
   refine Q2 hQ rfl rfl rfl rfl ?_
   first | (have e := least_bad (i := n) h10; rw [e.1, e.2] <;> rfl) | (have e := least_in (i := n) h10 (by omega); rw [e.1, e.2] <;> rfl) | (have e := least_out (i := n) h10 (by omega); rw [e.1, e.2] <;> rfl)
 replace h19 := XF h19
 refine WK hK7 ?_
 refine WS fun _ hK10 => ?_
 refine rS (LW 0 rfl tk28 rfl rfl) ?_
 refine rS (MV rfl) ?_
 refine rS (CL (rleast_c l kA kC az cA cC bA bC n hin (by first | assumption | omega | (simp; done) | (simp; omega)) (by first | assumption | omega | (simp; done) | (simp; omega)) (by first | assumption | omega | (simp; done) | (simp; omega))) (ha_at 1 rfl rfl <| ha_at 2 rfl rfl <| ha_at 3 rfl rfl <| ha_at 4 rfl rfl <| ha_nil) rfl) ?_
 refine rS (AG rfl) ?_
 refine rS (AG rfl) ?_
 refine RK hK10 ?_
 refine w_ret ?_
 refine Q2 hQ rfl rfl rfl rfl ?_
 first | (have e := least_bad (i := n) h10; rw [e.1, e.2] <;> rfl) | (have e := least_in (i := n) h10 (by omega); rw [e.1, e.2] <;> rfl) | (have e := least_out (i := n) h10 (by omega); rw [e.1, e.2] <;> rfl)

end Go.Proofs.Ytaehngpnlkokkaa
