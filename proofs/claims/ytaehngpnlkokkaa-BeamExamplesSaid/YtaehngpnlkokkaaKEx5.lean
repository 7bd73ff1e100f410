/-
  The statement beamExamples_said, part 5 of 6: V8, Wh2, MapD, S2, Wh3, Twin, A1, A2.
  Conditions: none.
-/
import Derived.Test.YtaehngpnlkokkaaKEx1
import Derived.Test.YtaehngpnlkokkaaKEx2
import Derived.Test.YtaehngpnlkokkaaKEx3
import Derived.Test.YtaehngpnlkokkaaKEx4
namespace Go.Proofs.Ytaehngpnlkokkaa
section
open Go.RowKit
set_option linter.unusedVariables false
set_option maxRecDepth 100000 in
set_option maxHeartbeats 400000 in
theorem open1_c (l : LineM) (kA : Option Addr) (kC : Nat) (az : List RA) (cA : Option Addr) (cC : Nat) (bA : Option Addr) (bC : Nat) (r : RideM) (sgA : Option Addr) (sgC : Nat) (f : Value) (X : Assn) (me : Int) (gm : Nat) (hf : Clo Try.prog f [] [X] (.int .i64 me)) (hin : LineIn l az) (hsl : r.Signals.length ≤ 1000000) :
    FnX Try.prog 61 [(Value.agg (LineV.cells (LineV.mk (TrackV.mk (Slc.mk kA l.Track.length kC)) l.Fast (Slc.mk cA l.Clocks.length cC) (Slc.mk bA l.Beams.length bC) l.Finish l.Fakes l.Misses)).toArray), (Value.agg (RideV.cells (RideV.mk r.Start r.Now (Slc.mk sgA r.Signals.length sgC))).toArray), (Value.slice (some ⟨gm, 0, none⟩) 1 1)] [(rd kA l.Track.length 9 (l.Track.map StretchV.cells)), (rd cA l.Clocks.length 2 (List.zipWith ClockM.cells l.Clocks az)), (bun (nest ClockM.rds l.Clocks az)), (rd bA l.Beams.length 4 (l.Beams.map BeamV.cells)), (rd sgA r.Signals.length 2 (r.Signals.map SignalV.cells)), X, (blk gm 111 [f])] (fun (x : Bool × Int × Nat × (Option Addr) × Nat × (Option Addr) × Nat × (List Nat) × (List FM) × (List Nat) × (Option Addr) × Nat × (List FM) × (List Nat) × (Option Addr) × Nat) => bif x.1 then (Value.tuple [(Value.pointer (some ⟨x.2.2.1, 0, none⟩)), (Value.int .i64 0)].toArray) else (Value.tuple [(Value.pointer none), (Value.int .i64 x.2.1)].toArray)) (fun (x : Bool × Int × Nat × (Option Addr) × Nat × (Option Addr) × Nat × (List Nat) × (List FM) × (List Nat) × (Option Addr) × Nat × (List FM) × (List Nat) × (Option Addr) × Nat) => (x.1 = true → (openE l r me = 0 ∧ FwdOk (watchL l r) x.2.2.2.2.2.2.2.2.1 ∧ BackOk (watchL l r) x.2.2.2.2.2.2.2.2.2.2.2.2.1 ∧ x.2.2.2.2.2.2.2.2.2.1.length = x.2.2.2.2.2.2.2.2.1.length ∧ x.2.2.2.2.2.2.2.2.2.2.2.2.2.1.length = x.2.2.2.2.2.2.2.2.2.2.2.2.1.length ∧ x.2.2.2.2.2.2.2.1.length = (timesT l r.Signals r.Signals.length).length)) ∧ (x.1 = false → (x.2.1 = openE l r me ∧ ¬ openE l r me = 0))) (fun (x : Bool × Int × Nat × (Option Addr) × Nat × (Option Addr) × Nat × (List Nat) × (List FM) × (List Nat) × (Option Addr) × Nat × (List FM) × (List Nat) × (Option Addr) × Nat) => bif x.1 then [(blk x.2.2.1 142 (WatchV.cells (WatchV.mk (LineV.mk (TrackV.mk (Slc.mk kA l.Track.length kC)) l.Fast (Slc.mk cA l.Clocks.length cC) (Slc.mk bA l.Beams.length bC) l.Finish l.Fakes l.Misses) (RideV.mk r.Start r.Now (Slc.mk sgA r.Signals.length sgC)) (Slc.mk x.2.2.2.1 ((leasts l l.Beams.length).length) x.2.2.2.2.1) (Slc.mk x.2.2.2.2.2.1 ((timesT l r.Signals r.Signals.length).length) x.2.2.2.2.2.2.1) (Slc.mk x.2.2.2.2.2.2.2.2.2.2.1 x.2.2.2.2.2.2.2.2.1.length x.2.2.2.2.2.2.2.2.2.2.2.1) (Slc.mk x.2.2.2.2.2.2.2.2.2.2.2.2.2.2.1 x.2.2.2.2.2.2.2.2.2.2.2.2.1.length x.2.2.2.2.2.2.2.2.2.2.2.2.2.2.2)))), (own x.2.2.2.1 x.2.2.2.2.1 3 1 ((leasts l l.Beams.length).map iC)), (own x.2.2.2.2.2.1 x.2.2.2.2.2.2.1 143 1 (List.zipWith mapC (timesT l r.Signals r.Signals.length) x.2.2.2.2.2.2.2.1)), (bund (nest tmR (timesT l r.Signals r.Signals.length) x.2.2.2.2.2.2.2.1)), (own x.2.2.2.2.2.2.2.2.2.2.1 x.2.2.2.2.2.2.2.2.2.2.2.1 144 1 (List.zipWith mapC x.2.2.2.2.2.2.2.2.1 x.2.2.2.2.2.2.2.2.2.1)), (bund (nest fmR x.2.2.2.2.2.2.2.2.1 x.2.2.2.2.2.2.2.2.2.1)), (own x.2.2.2.2.2.2.2.2.2.2.2.2.2.2.1 x.2.2.2.2.2.2.2.2.2.2.2.2.2.2.2 144 1 (List.zipWith mapC x.2.2.2.2.2.2.2.2.2.2.2.2.1 x.2.2.2.2.2.2.2.2.2.2.2.2.2.1)), (bund (nest fmR x.2.2.2.2.2.2.2.2.2.2.2.2.1 x.2.2.2.2.2.2.2.2.2.2.2.2.2.1))] else []) := by
 have htk := hin.trk
 have hck := hin.cks
 have has := hin.as_
 have hbm := hin.bms
 have hsd := hin.side
 refine fnX_of go61 Try.func61 rfl rfl fun w0 Q hQ hN => ?_
 try dsimp only
 refine WS fun _ hK1 => ?_
 refine BXA rfl fun b2 => ?_
 refine BXA rfl fun b3 => ?_
 refine rS (AG rfl) ?_
 refine rS (AG rfl) ?_
 refine RK hK1 ?_
 refine w_seq fun _ hK4 => ?_
 refine WS fun _ hK5 => ?_
 refine rS (LW 1 rfl tk28 rfl rfl) ?_
 refine rS (CL (lcheck_c l kA kC az cA cC bA bC hin) (ha_at 2 rfl rfl <| ha_at 3 rfl rfl <| ha_at 4 rfl rfl <| ha_at 5 rfl rfl <| ha_nil) rfl) ?_
 refine rS (AG rfl) ?_
 refine RK hK5 ?_
 refine WS fun _ hK6 => ?_
 refine rS (MV rfl) ?_
 refine rS (BI rfl b_neq) ?_
 refine RK hK6 ?_
 refine w_if rfl (fun h21 => ?_) (fun h21 => ?_)
 · replace h21 := XT h21
   refine WS fun _ hK7 => ?_
   refine rS (MV rfl) ?_
   refine rS (AG rfl) ?_
   refine rS (AG rfl) ?_
   refine RK hK7 ?_
   refine w_ret ?_
   refine hQ _ _ _ (l_nil (vs := [(Value.pointer none), (Value.int .i64 (lineE l))]) ⟨rfl, rfl, trivial⟩ fun w hs => endX (false, (lineE l), 0, none, 0, none, 0, [], [], [], none, 0, [], [], none, 0) [] ?_ ?_ rfl rfl (by first | rfl | (show List.all _ _ = true; simp only [cond_true, List.all_cons, List.all_nil, fm_wr, tm_wr, Bool.and_true]; rfl)) hs)
   · rfl
   · refine ⟨fun q => Bool.noConfusion (show false = true from q), fun _ => ?_⟩; first | (have e := open_line_e (r := r) (me := me) h21; exact ⟨e.symm, fun q => h21 (e.symm.trans q)⟩) | (have e := open_ride_e (me := me) h10 (fun q : RideOk l r => by have q1 := q.time; have q2 := q.len; omega); exact ⟨e.symm, fun q => absurd (e.symm.trans q) (by decide)⟩) | (have e := open_ride_e (me := me) h10 (ride_no hx (by unfold SigOk SigIn; omega)); exact ⟨e.symm, fun q => absurd (e.symm.trans q) (by decide)⟩) | (have e := open_more_e h10 hro h156; exact ⟨e.symm, fun q => h156 (e.symm.trans q)⟩) | (have e := open_bad_e (me := me) h10 hro (by first | rfl | exact h156) (show numsF (watchL l r) = [] from List.eq_nil_of_length_eq_zero (Int.natCast_eq_zero.1 h164)); exact ⟨e.symm, fun q => absurd (e.symm.trans q) (by decide)⟩)
 replace h21 := XF h21
 refine WK hK4 ?_
 refine w_seq fun _ hK8 => ?_
 refine WS fun _ hK9 => ?_
 have h10 : lineE l = 0 := h21
 obtain ⟨htr, hok⟩ := lineE_zero h10
 have hhd := hok.head
 unfold HeadOk at hhd
 refine rS (FA 0 rfl fo69_0 rfl) ?_
 refine rS (L1 (Value.int .i64 r.Start) 0 rfl tk3 rfl rfl) ?_
 refine r_bs (xs := [.tmp 24]) (cs := [(Value.int .i64 r.Start)]) rfl te57 tz3 rfl rfl rfl rfl (by simp [Value.cells]) rfl rfl fun b10 => ?_
 refine rS (CL (FnV.eq (in_beam 0 86400000 ([r.Start]) (some ⟨b10, 0, none⟩) 1 (by first | assumption | omega | (simp; done) | (simp; omega))) inAll_one) (ha_cons (has_rd_blk 0 rfl rfl (by simp [iC_length]) rfl) <| ha_nil) rfl) ?_
 refine rS (NT rfl) ?_
 refine rS (MV rfl) ?_
 refine r_bool (t := 28) rfl (fun h28 => ?_) (fun h28 => ?_)
 · replace h28 := XT h28
   refine rS (OX rfl) ?_
   refine rS (OX rfl) ?_
   refine rS (OX rfl) ?_
   refine rS (OX rfl) ?_
   refine rS (OX rfl) ?_
   refine rS (OX rfl) ?_
   refine rS (OX rfl) ?_
   refine rS (PK rfl) ?_
   refine rS (MV rfl) ?_
   refine rS (OX rfl) ?_
   refine rS (OX rfl) ?_
   refine rS (OX rfl) ?_
   refine rS (OX rfl) ?_
   refine rS (PK rfl) ?_
   refine RK hK9 ?_
   refine w_if_true rfl ?_
   refine WS fun _ hK11 => ?_
   refine rS (AG rfl) ?_
   refine rS (AG rfl) ?_
   refine RK hK11 ?_
   refine w_ret ?_
   refine hQ _ _ _ (l_nil (vs := [(Value.pointer none), (Value.int .i64 51)]) ⟨rfl, rfl, trivial⟩ fun w hs => endX (false, 51, 0, none, 0, none, 0, [], [], [], none, 0, [], [], none, 0) [] ?_ ?_ rfl rfl (by first | rfl | (show List.all _ _ = true; simp only [cond_true, List.all_cons, List.all_nil, fm_wr, tm_wr, Bool.and_true]; rfl)) hs)
   · rfl
   · refine ⟨fun q => Bool.noConfusion (show false = true from q), fun _ => ?_⟩; first | (have e := open_line_e (r := r) (me := me) h21; exact ⟨e.symm, fun q => h21 (e.symm.trans q)⟩) | (have e := open_ride_e (me := me) h10 (fun q : RideOk l r => by have q1 := q.time; have q2 := q.len; omega); exact ⟨e.symm, fun q => absurd (e.symm.trans q) (by decide)⟩) | (have e := open_ride_e (me := me) h10 (ride_no hx (by unfold SigOk SigIn; omega)); exact ⟨e.symm, fun q => absurd (e.symm.trans q) (by decide)⟩) | (have e := open_more_e h10 hro h156; exact ⟨e.symm, fun q => h156 (e.symm.trans q)⟩) | (have e := open_bad_e (me := me) h10 hro (by first | rfl | exact h156) (show numsF (watchL l r) = [] from List.eq_nil_of_length_eq_zero (Int.natCast_eq_zero.1 h164)); exact ⟨e.symm, fun q => absurd (e.symm.trans q) (by decide)⟩)
 replace h28 := XF h28
 refine rS (FA 0 rfl fo69_0 rfl) ?_
 refine rS (L1 (Value.int .i64 r.Start) 1 rfl tk3 rfl rfl) ?_
 refine rS (FA 1 rfl fo69_1 rfl) ?_
 refine rS (L1 (Value.int .i64 r.Now) 1 rfl tk3 rfl rfl) ?_
 refine r_bs (xs := [.tmp 32]) (cs := [(Value.int .i64 r.Now)]) rfl te57 tz3 rfl rfl rfl rfl (by simp [Value.cells]) rfl rfl fun b12 => ?_
 refine rS (CL (FnV.eq (in_beam r.Start 86400000 ([r.Now]) (some ⟨b12, 0, none⟩) 1 (by first | assumption | omega | (simp; done) | (simp; omega))) inAll_one) (ha_cons (has_rd_blk 0 rfl rfl (by simp [iC_length]) rfl) <| ha_nil) rfl) ?_
 refine rS (NT rfl) ?_
 refine rS (PK rfl) ?_
 refine rS (MV rfl) ?_
 refine r_bool (t := 37) rfl (fun h37 => ?_) (fun h37 => ?_)
 · replace h37 := XT h37
   refine rS (OX rfl) ?_
   refine rS (OX rfl) ?_
   refine rS (OX rfl) ?_
   refine rS (OX rfl) ?_
   refine rS (PK rfl) ?_
   refine RK hK9 ?_
   refine w_if_true rfl ?_
   refine WS fun _ hK13 => ?_
   refine rS (AG rfl) ?_
   refine rS (AG rfl) ?_
   refine RK hK13 ?_
   refine w_ret ?_
   refine hQ _ _ _ (l_nil (vs := [(Value.pointer none), (Value.int .i64 51)]) ⟨rfl, rfl, trivial⟩ fun w hs => endX (false, 51, 0, none, 0, none, 0, [], [], [], none, 0, [], [], none, 0) [] ?_ ?_ rfl rfl (by first | rfl | (show List.all _ _ = true; simp only [cond_true, List.all_cons, List.all_nil, fm_wr, tm_wr, Bool.and_true]; rfl)) hs)
   · rfl
   · refine ⟨fun q => Bool.noConfusion (show false = true from q), fun _ => ?_⟩; first | (have e := open_line_e (r := r) (me := me) h21; exact ⟨e.symm, fun q => h21 (e.symm.trans q)⟩) | (have e := open_ride_e (me := me) h10 (fun q : RideOk l r => by have q1 := q.time; have q2 := q.len; omega); exact ⟨e.symm, fun q => absurd (e.symm.trans q) (by decide)⟩) | (have e := open_ride_e (me := me) h10 (ride_no hx (by unfold SigOk SigIn; omega)); exact ⟨e.symm, fun q => absurd (e.symm.trans q) (by decide)⟩) | (have e := open_more_e h10 hro h156; exact ⟨e.symm, fun q => h156 (e.symm.trans q)⟩) | (have e := open_bad_e (me := me) h10 hro (by first | rfl | exact h156) (show numsF (watchL l r) = [] from List.eq_nil_of_length_eq_zero (Int.natCast_eq_zero.1 h164)); exact ⟨e.symm, fun q => absurd (e.symm.trans q) (by decide)⟩)
 replace h37 := XF h37
 refine rS (FA 2 rfl fo69_2 rfl) ?_
 refine rS (L1 (Value.slice sgA r.Signals.length sgC) 2 rfl tk67 rfl rfl) ?_
 refine rS (LN rfl ut67) ?_
 refine rS (BI rfl b_gtr) ?_
 refine rS (PK rfl) ?_
 refine RK hK9 ?_
 refine w_if rfl (fun h42 => ?_) (fun h42 => ?_)
 · replace h42 := DT h42
   refine WS fun _ hK14 => ?_
   refine rS (AG rfl) ?_
   refine rS (AG rfl) ?_
   refine RK hK14 ?_
   refine w_ret ?_
   refine hQ _ _ _ (l_nil (vs := [(Value.pointer none), (Value.int .i64 51)]) ⟨rfl, rfl, trivial⟩ fun w hs => endX (false, 51, 0, none, 0, none, 0, [], [], [], none, 0, [], [], none, 0) [] ?_ ?_ rfl rfl (by first | rfl | (show List.all _ _ = true; simp only [cond_true, List.all_cons, List.all_nil, fm_wr, tm_wr, Bool.and_true]; rfl)) hs)
   · rfl
   · refine ⟨fun q => Bool.noConfusion (show false = true from q), fun _ => ?_⟩; first | (have e := open_line_e (r := r) (me := me) h21; exact ⟨e.symm, fun q => h21 (e.symm.trans q)⟩) | (have e := open_ride_e (me := me) h10 (fun q : RideOk l r => by have q1 := q.time; have q2 := q.len; omega); exact ⟨e.symm, fun q => absurd (e.symm.trans q) (by decide)⟩) | (have e := open_ride_e (me := me) h10 (ride_no hx (by unfold SigOk SigIn; omega)); exact ⟨e.symm, fun q => absurd (e.symm.trans q) (by decide)⟩) | (have e := open_more_e h10 hro h156; exact ⟨e.symm, fun q => h156 (e.symm.trans q)⟩) | (have e := open_bad_e (me := me) h10 hro (by first | rfl | exact h156) (show numsF (watchL l r) = [] from List.eq_nil_of_length_eq_zero (Int.natCast_eq_zero.1 h164)); exact ⟨e.symm, fun q => absurd (e.symm.trans q) (by decide)⟩)
 replace h42 := DF h42
 refine WK hK8 ?_
 refine WS fun _ hK15 => ?_
 refine rS (SX (sd_build (xs := [(0, .const (Value.int .i64 (-1)))]) (cs := (SignalV.cells (SignalV.mk (-1) 0))) rfl rfl (built_of tb30 rfl)) rfl rfl) ?_
 refine AL rfl tz30 fun b16 => ?_
 refine SW0 rfl ts30 rfl ?_
 refine RK hK15 ?_
 refine w_seq fun _ hK17 => ?_
 refine w_draw4 mixed [0, 1, 2, 3, 4] [5, 6, 7, 8] [false, false, false, false, false] [false, false, false, false] [(blk b16 30 (SignalV.cells (SignalV.mk (-1) 0))), (blk b12 3 [(Value.int .i64 r.Now)]), (blk b10 3 [(Value.int .i64 r.Start)]), (blk b3 69 (RideV.cells (RideV.mk r.Start r.Now (Slc.mk sgA r.Signals.length sgC)))), (blk b2 28 (LineV.cells (LineV.mk (TrackV.mk (Slc.mk kA l.Track.length kC)) l.Fast (Slc.mk cA l.Clocks.length cC) (Slc.mk bA l.Beams.length bC) l.Finish l.Fakes l.Misses))), (rd kA l.Track.length 9 (l.Track.map StretchV.cells)).ro, (rd cA l.Clocks.length 2 (List.zipWith ClockM.cells l.Clocks az)).ro, (bun (nest ClockM.rds l.Clocks az)).ro, (rd bA l.Beams.length 4 (l.Beams.map BeamV.cells)).ro, (rd sgA r.Signals.length 2 (r.Signals.map SignalV.cells)).ro, X.ro, (blk gm 111 [f]).ro] [] (by kernel_rfl) (fun w hs => St.sel [0, 1, 2, 3, 4, 5, 6, 7, 8, 9, 10, 11] rfl rfl hs) (fun w hs => St.sel [] rfl rfl hs) ?_
 refine eS rfl (LW 4 rfl tk28 rfl rfl) ?_
 refine eS rfl (LW 3 rfl tk69 rfl rfl) ?_
 refine eS rfl (FA 3 rfl fo28_3 rfl) ?_
 refine eS rfl (L1 (Value.slice bA l.Beams.length bC) 4 rfl tk26 rfl rfl) ?_
 refine eS rfl (LN rfl ut26) ?_
 refine d_fin rfl ?_
 refine t_cons rfl fun T18 hT18 => ?_
 refine r_mks (n := l.Beams.length) (es := (List.map oC (List.replicate l.Beams.length (none : Option Nat)))) rfl rfl rfl ta139 (by omega) (by omega) (by simp only [maxLen]; omega) (by rw [List.map_replicate]; rfl) rfl fun b19 => ?_
 try dsimp only
 refine r_nil (hT18 _ _ (fun w hs => St.sel [1, 2, 3, 4, 5, 6, 7, 8, 9, 10, 11, 12] rfl rfl hs) ?_)
 refine t_cons rfl fun T20 hT20 => ?_
 refine rS (SX (sd_build (xs := [(0, .tmp 44), (1, .tmp 45), (3, .tmp 49)]) (cs := (WatchV.cells (WatchV.mk (LineV.mk (TrackV.mk (Slc.mk kA l.Track.length kC)) l.Fast (Slc.mk cA l.Clocks.length cC) (Slc.mk bA l.Beams.length bC) l.Finish l.Fakes l.Misses) (RideV.mk r.Start r.Now (Slc.mk sgA r.Signals.length sgC)) (Slc.mk none 0 0) (Slc.mk (some ⟨b19, 0, none⟩) l.Beams.length l.Beams.length) (Slc.mk none 0 0) (Slc.mk none 0 0)))) rfl rfl (built_of tb142 rfl)) rfl rfl) ?_
 refine r_nil (hT20 _ _ (fun w hs => St.sel [1, 2, 3, 4, 5, 6, 7, 8, 9, 10, 11, 12] rfl rfl hs) ?_)
 refine t_cons rfl fun T21 hT21 => ?_
 refine BXA rfl fun b22 => ?_
 refine r_nil (hT21 _ _ (fun w hs => St.sel [2, 3, 4, 5, 6, 7, 8, 9, 10, 11, 12, 13] rfl rfl hs) ?_)
 refine t_cons rfl fun T23 hT23 => ?_
 refine rS (AG rfl) ?_
 refine r_nil (hT23 _ _ (fun w hs => St.sel [2, 3, 4, 5, 6, 7, 8, 9, 10, 11, 12, 13] rfl rfl hs) ?_)
 refine t_fin rfl ?_
 refine KK hK17 ?_
 refine w_seq fun _ hK24 => ?_
 refine WS fun _ hK25 => ?_
 refine rS (FA 3 rfl fo28_3 rfl) ?_
 refine rS (L1 (Value.slice bA l.Beams.length bC) 6 rfl tk26 rfl rfl) ?_
 refine rS (LN rfl ut26) ?_
 refine rS (MV rfl) ?_
 refine RK hK25 ?_
 refine w_block ?_
 rw [fillF_nil]
 refine w_own_nil 3 1 ?_
 refine w_tie0 ?_
 have hinit : (0 ≤ l.Beams.length) ∧ (([] : List Nat).length = 0) := by exact ⟨Nat.zero_le _, rfl⟩
 refine w_loop (ι := { z : Nat × (Option Addr) × Nat × (List Nat) // (z.1 ≤ l.Beams.length) ∧ (z.2.2.2.length = z.1) }) (fun z => [(2, (Value.slice (some ⟨gm, 0, none⟩) 1 1)), (3, (Value.pointer (some ⟨b2, 0, none⟩))), (4, (Value.pointer (some ⟨b3, 0, none⟩))), (6, (Value.pointer none)), (7, (Value.int .i64 0)), (9, (Value.pointer (some ⟨b16, 0, none⟩))), (10, (Value.pointer (some ⟨b22, 0, none⟩))), (54, (Value.int .i64 ((l.Beams.length : Nat) : Int))), (55, (Value.int .i64 ((z.1.1 : Nat) : Int)))]) (fun z => [(bund (nest tmR (List.replicate z.1.1 ([] : TM)) z.1.2.2.2)), (own z.1.2.1 z.1.2.2.1 3 1 ((leasts l z.1.1).map iC)), (blk b22 142 (WatchV.cells (WatchV.mk (LineV.mk (TrackV.mk (Slc.mk kA l.Track.length kC)) l.Fast (Slc.mk cA l.Clocks.length cC) (Slc.mk bA l.Beams.length bC) l.Finish l.Fakes l.Misses) (RideV.mk r.Start r.Now (Slc.mk sgA r.Signals.length sgC)) (Slc.mk z.1.2.1 ((leasts l z.1.1).length) z.1.2.2.1) (Slc.mk (some ⟨b19, 0, none⟩) l.Beams.length l.Beams.length) (Slc.mk none 0 0) (Slc.mk none 0 0)))), (own (some ⟨b19, 0, none⟩) l.Beams.length 143 1 (List.map oC (fillF z.1.2.2.2 l.Beams.length))), (blk b16 30 (SignalV.cells (SignalV.mk (-1) 0))), (blk b3 69 (RideV.cells (RideV.mk r.Start r.Now (Slc.mk sgA r.Signals.length sgC)))), (blk b2 28 (LineV.cells (LineV.mk (TrackV.mk (Slc.mk kA l.Track.length kC)) l.Fast (Slc.mk cA l.Clocks.length cC) (Slc.mk bA l.Beams.length bC) l.Finish l.Fakes l.Misses))), (rd kA l.Track.length 9 (l.Track.map StretchV.cells)).ro, (rd cA l.Clocks.length 2 (List.zipWith ClockM.cells l.Clocks az)).ro, (bun (nest ClockM.rds l.Clocks az)).ro, (rd bA l.Beams.length 4 (l.Beams.map BeamV.cells)).ro, (rd sgA r.Signals.length 2 (r.Signals.map SignalV.cells)).ro, X.ro, (blk gm 111 [f]).ro]) (fun z => l.Beams.length - z.1.1) ⟨(0, none, 0, ([] : List Nat)), hinit⟩ (Sub.cons rfl <| Sub.cons rfl <| Sub.cons rfl <| Sub.cons rfl <| Sub.cons rfl <| Sub.cons rfl <| Sub.cons rfl <| Sub.cons rfl <| Sub.cons rfl <| Sub.nil _) (fun w hs => St.sel [0, 1, 2, 3, 4, 7, 8, 9, 10, 11, 12, 13, 14, 15] rfl rfl hs) ?_
 clear hinit
 rintro ⟨⟨b, a, c, fb⟩, ⟨hl9_0, hl9_1⟩⟩ J26 hJ26
 try dsimp only at hl9_0 hl9_1
 try dsimp only
 have hlf : (fillF fb l.Beams.length).length = l.Beams.length := fillF_len (by omega)
 refine WS fun _ hK27 => ?_
 refine rS (BI rfl b_lss) ?_
 refine RK hK27 ?_
 refine w_seq fun _ hK28 => ?_
 refine w_if rfl (fun h29 => ?_) (fun h29 => ?_)
 · replace h29 := DT h29
   refine WK hK28 ?_
   refine w_seq fun _ hK30 => ?_
   refine w_block ?_
   refine WS fun _ hK31 => ?_
   refine rS (MV rfl) ?_
   refine rS (AG rfl) ?_
   refine RK hK31 ?_
   refine w_seq fun _ hK32 => ?_
   refine w_draw4 mixed [0, 1, 2, 3, 4, 5, 6, 7, 8, 9, 10, 11, 14, 15] [12, 13, 16] [false, false, false, false, true, false, false, false, false, false, false, false, false, false] [true, false, false] [(bund (nest tmR (List.replicate b ([] : TM)) fb)), (own (some ⟨b19, 0, none⟩) l.Beams.length 143 1 (List.map oC (fillF fb l.Beams.length))), (blk b16 30 (SignalV.cells (SignalV.mk (-1) 0))), (blk b3 69 (RideV.cells (RideV.mk r.Start r.Now (Slc.mk sgA r.Signals.length sgC)))), (blk b2 28 (LineV.cells (LineV.mk (TrackV.mk (Slc.mk kA l.Track.length kC)) l.Fast (Slc.mk cA l.Clocks.length cC) (Slc.mk bA l.Beams.length bC) l.Finish l.Fakes l.Misses))), (rd kA l.Track.length 9 (l.Track.map StretchV.cells)).ro, (rd cA l.Clocks.length 2 (List.zipWith ClockM.cells l.Clocks az)).ro, (bun (nest ClockM.rds l.Clocks az)).ro, (rd bA l.Beams.length 4 (l.Beams.map BeamV.cells)).ro, (rd sgA r.Signals.length 2 (r.Signals.map SignalV.cells)).ro, X.ro, (blk gm 111 [f]).ro] [(bund (nest tmR (List.replicate b ([] : TM)) fb)), (own a c 3 1 ((leasts l b).map iC)), (blk b22 142 (WatchV.cells (WatchV.mk (LineV.mk (TrackV.mk (Slc.mk kA l.Track.length kC)) l.Fast (Slc.mk cA l.Clocks.length cC) (Slc.mk bA l.Beams.length bC) l.Finish l.Fakes l.Misses) (RideV.mk r.Start r.Now (Slc.mk sgA r.Signals.length sgC)) (Slc.mk a ((leasts l b).length) c) (Slc.mk (some ⟨b19, 0, none⟩) l.Beams.length l.Beams.length) (Slc.mk none 0 0) (Slc.mk none 0 0)))), (own (some ⟨b19, 0, none⟩) l.Beams.length 143 1 (List.map oC (fillF fb l.Beams.length))), (blk b16 30 (SignalV.cells (SignalV.mk (-1) 0))), (blk b3 69 (RideV.cells (RideV.mk r.Start r.Now (Slc.mk sgA r.Signals.length sgC)))), (blk b2 28 (LineV.cells (LineV.mk (TrackV.mk (Slc.mk kA l.Track.length kC)) l.Fast (Slc.mk cA l.Clocks.length cC) (Slc.mk bA l.Beams.length bC) l.Finish l.Fakes l.Misses))), (rd kA l.Track.length 9 (l.Track.map StretchV.cells)).ro, (rd cA l.Clocks.length 2 (List.zipWith ClockM.cells l.Clocks az)).ro, (bun (nest ClockM.rds l.Clocks az)).ro, (rd bA l.Beams.length 4 (l.Beams.map BeamV.cells)).ro, (rd sgA r.Signals.length 2 (r.Signals.map SignalV.cells)).ro, X.ro, (blk gm 111 [f]).ro] (by kernel_rfl) (fun w hs => St.sel [0, 3, 4, 5, 6, 7, 8, 9, 10, 11, 12, 13] rfl rfl hs) (fun w hs => St.sel [0, 1, 2, 3, 4, 5, 6, 7, 8, 9, 10, 11, 12, 13] rfl rfl hs) ?_
   refine eS rfl (MV rfl) ?_
   refine eS rfl (MV rfl) ?_
   refine eS rfl (SX (sd_nil_p rfl rfl) rfl rfl) ?_
   refine eS rfl (FA 10 rfl fo142_2 rfl) ?_
   refine fS rfl (L1 (Value.slice a ((leasts l b).length) c) 2 rfl tk57 rfl rfl) ?_
   refine eS rfl (LW 4 rfl tk28 rfl rfl) ?_
   refine eS rfl (MV rfl) ?_
   refine eS rfl (CL (way_c l kA kC az cA cC bA bC ((b : Nat) : Int) hin (by first | assumption | omega | (simp; done) | (simp; omega)) (by exact hok.beam) (by first | assumption | omega | (simp; done) | (simp; omega))) (ha_at 5 rfl rfl <| ha_at 6 rfl rfl <| ha_at 7 rfl rfl <| ha_at 8 rfl rfl <| ha_nil) rfl) ?_
   have hwb := way_b htr hok.beam b
   have hwy := hok.way b (by omega)
   simp only [Int.toNat_natCast]
   refine eS rfl (BI rfl (b_mul ⟨by omega, by omega⟩)) ?_
   refine eS rfl (FA 1 rfl fo28_1 rfl) ?_
   refine eS rfl (L1 (Value.int .i64 l.Fast) 4 rfl tk3 rfl rfl) ?_
   refine eS rfl (CL (upd_c (1000 * (wayF l ((b : Nat) : Int).toNat)) l.Fast (by first | assumption | omega | (simp; done) | (simp; omega)) (by first | assumption | omega | (simp; done) | (simp; omega))) (ha_nil) rfl) ?_
   refine eS rfl (SX (sd_nil_p rfl rfl) rfl rfl) ?_
   refine eS rfl (FA 10 rfl fo142_2 rfl) ?_
   refine d_fin rfl ?_
   refine t5_cons rfl fun T33 hT33 => ?_
   refine r_bs (xs := [.tmp 69]) (cs := [(Value.int .i64 (upD (1000 * (wayF l ((b : Nat) : Int).toNat)) l.Fast))]) rfl te57 tz3 rfl rfl rfl rfl (by simp [Value.cells]) rfl rfl fun b34 => ?_
   refine r_nil (hT33 _ _ (fun w hs => St.sel [1, 4, 5, 6, 7, 8, 9, 10, 11, 12, 13, 14] rfl rfl hs) (fun w hs => St.sel [1, 2, 3, 4, 5, 6, 7, 8, 9, 10, 11, 12, 13, 14] rfl rfl hs) ?_)
   refine t_cons rfl fun T35 hT35 => ?_
   refine r_append (es2 := (List.map iC (leasts l (b + 1)))) (m' := (leasts l (b + 1)).length) 2 rfl rfl rfl ta57 rfl rfl (by simp [leasts_len]) (has_rd_blk (es := List.map iC [(upD (1000 * (wayF l ((b : Nat) : Int).toNat)) l.Fast)]) 0 rfl rfl (by simp [iC_length]) rfl) (one_iC _) (by have := leasts_len (l := l) (n := b); first | omega | (simp; omega)) (by simp only [maxLen, leasts_len]; omega) (by rw [leasts_succ]; simp [leastF]) (by simp [leasts_len]) rfl fun a36 c37 => ?_
   try dsimp only
   refine r_nil (hT35 _ _ (fun w hs => St.sel [1, 4, 5, 6, 7, 8, 9, 10, 11, 12, 13, 14] rfl rfl hs) ?_)
   refine t_cons rfl fun T38 hT38 => ?_
   refine ST3 (WatchV.cells (WatchV.mk (LineV.mk (TrackV.mk (Slc.mk kA l.Track.length kC)) l.Fast (Slc.mk cA l.Clocks.length cC) (Slc.mk bA l.Beams.length bC) l.Finish l.Fakes l.Misses) (RideV.mk r.Start r.Now (Slc.mk sgA r.Signals.length sgC)) (Slc.mk a36 ((leasts l (b + 1)).length) c37) (Slc.mk (some ⟨b19, 0, none⟩) l.Beams.length l.Beams.length) (Slc.mk none 0 0) (Slc.mk none 0 0))) rfl ts57 rfl rfl ?_
   refine r_nil (hT38 _ _ (fun w hs => St.sel [1, 4, 5, 6, 7, 8, 9, 10, 11, 12, 13, 14] rfl rfl hs) ?_)
   refine t_fin rfl ?_
   refine KK hK32 ?_
   refine w_region ?_
   refine rS (MV rfl) ?_
   refine rS (SX (sd_nil_p rfl rfl) rfl rfl) ?_
   refine rS (FA 11 rfl fo142_3 rfl) ?_
   refine rS (L1 (Value.slice (some ⟨b19, 0, none⟩) l.Beams.length l.Beams.length) 3 rfl tk139 rfl rfl) ?_
   refine rS (MV rfl) ?_
   refine gr_mkmap (kV := iV) rfl rfl fun b39 => ?_
   try dsimp only
   obtain ⟨x40, hx41⟩ : ∃ y_, (fillF fb l.Beams.length)[b]? = some y_ := ⟨(fillF fb l.Beams.length)[b]'(by omega), List.getElem?_eq_getElem _⟩
   have hx41m : (List.map oC (fillF fb l.Beams.length))[b]? = some (oC x40) := by rw [List.getElem?_map, hx41]; rfl
   refine rS (IA b rfl (has_own_n (n := l.Beams.length) 5 rfl (by first | (simp; done) | (simp; omega))) te139 (by decide) (by omega) (by omega)) ?_
   have hb42 : ((fillF fb l.Beams.length).set b (some b39)) = (fillF (fb ++ [b39]) l.Beams.length) := by exact fillF_set (by omega) (by omega)
   refine r_store_own (k := b) (o := 0) (vs := [(Value.map (some b39))]) (es' := (List.map oC (fillF (fb ++ [b39]) l.Beams.length))) (C' := [_, _, _, _, _, (own (some ⟨b19, 0, none⟩) l.Beams.length 143 1 (List.map oC (fillF (fb ++ [b39]) l.Beams.length))), _, _, _, _, _, _, _, _, _, _]) 5 rfl rfl rfl ts143 rfl rfl rfl rfl hx41m rfl (by decide) (by exact (List.map_set (f := oC) (l := (fillF fb l.Beams.length)) (i := b) (a := (some b39))).symm.trans (congrArg _ hb42)) rfl ?_
   refine r_nil ?_
   refine k_block ?_
   refine KK hK30 ?_
   refine w_region ?_
   refine rS (BI rfl (b_add ⟨by omega, by omega⟩)) ?_
   refine rS (MV rfl) ?_
   refine r_nil ?_
   refine k_tie (X' := nest tmR (List.replicate (b + 1) ([] : TM)) (fb ++ [b39])) 2 0 rfl rfl (tm_snoc hl9_1) ?_
   try dsimp only
   have hb43 : (Value.int .i64 (((b + 1) : Nat) : Int)) = (Value.int .i64 (((b : Nat) : Int) + 1)) := by exact congrArg (Value.int .i64) (by omega)
   refine k_then (hJ26 ⟨((b + 1), a36, c37, (fb ++ [b39])), ⟨by omega, by simp; omega⟩⟩ _ _ _ rfl (by first | omega | (simp; omega)) (Sub.cons rfl <| Sub.cons rfl <| Sub.cons rfl <| Sub.cons rfl <| Sub.cons rfl <| Sub.cons rfl <| Sub.cons rfl <| Sub.cons rfl <| sub_val rfl hb43 <| Sub.nil _) (fun w hs => St.sel [0, 2, 3, 4, 5, 6, 7, 8, 9, 10, 11, 12, 13, 14] rfl rfl hs))
 replace h29 := DF h29
 refine w_exit ?_
 refine k_exit_then ?_
 refine k_exit_then ?_
 refine k_exit_same ?_
 refine KK hK24 ?_
 refine w_seq fun _ hK44 => ?_
 refine WS fun _ hK45 => ?_
 refine rS (FA 2 rfl fo69_2 rfl) ?_
 refine rS (L1 (Value.slice sgA r.Signals.length sgC) 5 rfl tk67 rfl rfl) ?_
 refine rS (LN rfl ut67) ?_
 refine rS (MV rfl) ?_
 refine RK hK45 ?_
 refine w_block ?_
 rw [show (List.replicate b ([] : TM)) = timesT l r.Signals 0 from by rw [times_zero, show b = l.Beams.length by omega]]
 rw [show leasts l b = leasts l l.Beams.length from by rw [show b = l.Beams.length by omega]]
 have hinit : (0 ≤ r.Signals.length) ∧ (SigsTo l r.Signals 0) := by exact ⟨Nat.zero_le _, sigs_zero⟩
 refine w_loop (ι := { z : Nat // (z ≤ r.Signals.length) ∧ (SigsTo l r.Signals z) }) (fun z => [(2, (Value.slice (some ⟨gm, 0, none⟩) 1 1)), (3, (Value.pointer (some ⟨b2, 0, none⟩))), (4, (Value.pointer (some ⟨b3, 0, none⟩))), (6, (Value.pointer none)), (7, (Value.int .i64 0)), (9, (Value.pointer (some ⟨b16, 0, none⟩))), (10, (Value.pointer (some ⟨b22, 0, none⟩))), (83, (Value.slice sgA r.Signals.length sgC)), (84, (Value.int .i64 ((r.Signals.length : Nat) : Int))), (85, (Value.int .i64 ((z.1 : Nat) : Int)))]) (fun z => [(bund (nest tmR (timesT l r.Signals z.1) fb)), (own a c 3 1 ((leasts l l.Beams.length).map iC)), (blk b22 142 (WatchV.cells (WatchV.mk (LineV.mk (TrackV.mk (Slc.mk kA l.Track.length kC)) l.Fast (Slc.mk cA l.Clocks.length cC) (Slc.mk bA l.Beams.length bC) l.Finish l.Fakes l.Misses) (RideV.mk r.Start r.Now (Slc.mk sgA r.Signals.length sgC)) (Slc.mk a ((leasts l l.Beams.length).length) c) (Slc.mk (some ⟨b19, 0, none⟩) l.Beams.length l.Beams.length) (Slc.mk none 0 0) (Slc.mk none 0 0)))), (own (some ⟨b19, 0, none⟩) l.Beams.length 143 1 (List.map oC (fillF fb l.Beams.length))), (blk b16 30 (SignalV.cells (prevS r.Signals z.1))), (blk b3 69 (RideV.cells (RideV.mk r.Start r.Now (Slc.mk sgA r.Signals.length sgC)))), (blk b2 28 (LineV.cells (LineV.mk (TrackV.mk (Slc.mk kA l.Track.length kC)) l.Fast (Slc.mk cA l.Clocks.length cC) (Slc.mk bA l.Beams.length bC) l.Finish l.Fakes l.Misses))), (rd kA l.Track.length 9 (l.Track.map StretchV.cells)).ro, (rd cA l.Clocks.length 2 (List.zipWith ClockM.cells l.Clocks az)).ro, (bun (nest ClockM.rds l.Clocks az)).ro, (rd bA l.Beams.length 4 (l.Beams.map BeamV.cells)).ro, (rd sgA r.Signals.length 2 (r.Signals.map SignalV.cells)).ro, X.ro, (blk gm 111 [f]).ro]) (fun z => r.Signals.length - z.1) ⟨0, hinit⟩ (Sub.cons rfl <| Sub.cons rfl <| Sub.cons rfl <| Sub.cons rfl <| Sub.cons rfl <| Sub.cons rfl <| Sub.cons rfl <| Sub.cons rfl <| Sub.cons rfl <| Sub.cons rfl <| Sub.nil _) (fun w hs => St.sel [0, 1, 2, 3, 4, 5, 6, 7, 8, 9, 10, 11, 12, 13] rfl rfl hs) ?_
 clear hinit
 rintro ⟨i, ⟨hl15_0, hl15_1⟩⟩ J46 hJ46
 try dsimp only
 have htlen : (timesT l r.Signals i).length = l.Beams.length := timesT_len
 have hlf : (fillF fb l.Beams.length).length = l.Beams.length := fillF_len (by omega)
 refine WS fun _ hK47 => ?_
 refine rS (BI rfl b_lss) ?_
 refine RK hK47 ?_
 refine w_seq fun _ hK48 => ?_
 refine w_if rfl (fun h49 => ?_) (fun h49 => ?_)
 rotate_left 1
 · replace h49 := DF h49
   refine w_exit ?_
   refine k_exit_then ?_
   refine k_exit_then ?_
   refine k_exit_same ?_
   refine KK hK44 ?_
   refine w_seq fun _ hK79 => ?_
   refine w_seq fun _ hK80 => ?_
   have hro : RideOk l r := ride_all (by omega) (by omega) hl15_1 (by omega)
   refine w_region ?_
   refine rS (MV rfl) ?_
   refine rS (LN rfl ut138) ?_
   refine rS (MV rfl) ?_
   refine RK hK80 ?_
   refine w_block ?_
   refine w_rounds 2 ?_
   refine ro_succ fun R81 hR81 => ?_
   refine WS fun _ hK82 => ?_
   refine rS (SX (sd_bin (r := .bool true) rfl rfl rfl b_lss) rfl rfl) ?_
   refine RK hK82 ?_
   refine w_seq fun _ hK83 => ?_
   refine w_if_true rfl ?_
   refine WK hK83 ?_
   refine w_seq fun _ hK84 => ?_
   refine w_block ?_
   refine WS fun _ hK85 => ?_
   refine rS (IAB 0 0 rfl te138 rfl (by decide) rfl) ?_
   refine rS (L1Q 13 rfl tk111 rfl) ?_
   refine rS (AG rfl) ?_
   refine RK hK85 ?_
   refine WS fun _ hK86 => ?_
   refine rS (MV rfl) ?_
   refine rS (SX (sd_clo rfl rfl rfl (hf ) (ha_at 12 rfl rfl <| ha_nil)) rfl rfl) ?_
   refine rS (AG rfl) ?_
   refine RK hK86 ?_
   refine WS fun _ hK87 => ?_
   refine rS (MV rfl) ?_
   refine rS (BI rfl b_neq) ?_
   refine RK hK87 ?_
   refine w_if rfl (fun h156 => ?_) (fun h156 => ?_)
   · replace h156 := XT h156
     refine WS fun _ hK88 => ?_
     refine rS (MV rfl) ?_
     refine rS (AG rfl) ?_
     refine rS (AG rfl) ?_
     refine RK hK88 ?_
     refine w_ret ?_
     refine hQ _ _ _ (l_nil (vs := [(Value.pointer none), (Value.int .i64 me)]) ⟨rfl, rfl, trivial⟩ fun w hs => endX (false, me, 0, none, 0, none, 0, [], [], [], none, 0, [], [], none, 0) [] ?_ ?_ rfl rfl (by first | rfl | (show List.all _ _ = true; simp only [cond_true, List.all_cons, List.all_nil, fm_wr, tm_wr, Bool.and_true]; rfl)) hs)
     · rfl
     · refine ⟨fun q => Bool.noConfusion (show false = true from q), fun _ => ?_⟩; first | (have e := open_line_e (r := r) (me := me) h21; exact ⟨e.symm, fun q => h21 (e.symm.trans q)⟩) | (have e := open_ride_e (me := me) h10 (fun q : RideOk l r => by have q1 := q.time; have q2 := q.len; omega); exact ⟨e.symm, fun q => absurd (e.symm.trans q) (by decide)⟩) | (have e := open_ride_e (me := me) h10 (ride_no hx (by unfold SigOk SigIn; omega)); exact ⟨e.symm, fun q => absurd (e.symm.trans q) (by decide)⟩) | (have e := open_more_e h10 hro h156; exact ⟨e.symm, fun q => h156 (e.symm.trans q)⟩) | (have e := open_bad_e (me := me) h10 hro (by first | rfl | exact h156) (show numsF (watchL l r) = [] from List.eq_nil_of_length_eq_zero (Int.natCast_eq_zero.1 h164)); exact ⟨e.symm, fun q => absurd (e.symm.trans q) (by decide)⟩)
   replace h156 := XF h156
   refine w_skip ?_
   refine k_block ?_
   refine KK hK84 ?_
   refine w_region ?_
   refine rS (SX (sd_bin (r := .int .i64 1) rfl rfl rfl (b_add ⟨by decide, by decide⟩)) rfl rfl) ?_
   refine rS (MV rfl) ?_
   refine RK hR81 ?_
   refine ro_succ fun R89 hR89 => ?_
   refine WS fun _ hK90 => ?_
   refine rS (SX (sd_bin (r := .bool false) rfl rfl rfl b_lss) rfl rfl) ?_
   refine RK hK90 ?_
   refine w_seq fun _ hK91 => ?_
   refine w_if_false rfl ?_
   refine w_exit ?_
   refine k_exit_then ?_
   refine k_exit_then ?_
   refine k_exit_same ?_
   refine KK hK79 ?_
   refine w_seq fun _ hK92 => ?_
   rw [show timesT l r.Signals i = timesT l r.Signals r.Signals.length from by rw [show i = r.Signals.length by omega]]
   have htl : (timesT l r.Signals r.Signals.length).length = l.Beams.length := timesT_len
   rw [show (List.map oC (fillF fb l.Beams.length)) = (List.zipWith mapC (timesT l r.Signals r.Signals.length) fb) from zipF (by omega) htl]
   rw [show (blk b22 142 (WatchV.cells (WatchV.mk (LineV.mk (TrackV.mk (Slc.mk kA l.Track.length kC)) l.Fast (Slc.mk cA l.Clocks.length cC) (Slc.mk bA l.Beams.length bC) l.Finish l.Fakes l.Misses) (RideV.mk r.Start r.Now (Slc.mk sgA r.Signals.length sgC)) (Slc.mk a ((leasts l l.Beams.length).length) c) (Slc.mk (some ⟨b19, 0, none⟩) l.Beams.length l.Beams.length) (Slc.mk none 0 0) (Slc.mk none 0 0)))) = (blk b22 142 (WatchV.cells (WatchV.mk (LineV.mk (TrackV.mk (Slc.mk kA l.Track.length kC)) l.Fast (Slc.mk cA l.Clocks.length cC) (Slc.mk bA l.Beams.length bC) l.Finish l.Fakes l.Misses) (RideV.mk r.Start r.Now (Slc.mk sgA r.Signals.length sgC)) (Slc.mk a ((leasts l l.Beams.length).length) c) (Slc.mk (some ⟨b19, 0, none⟩) ((timesT l r.Signals r.Signals.length).length) l.Beams.length) (Slc.mk none 0 0) (Slc.mk none 0 0)))) from by rw [htl]]
   have hwo := watch_ok htr hok hro
   have hlel : (leasts l l.Beams.length).length = l.Beams.length := leasts_len
   refine w_region ?_
   refine rS (MV rfl) ?_
   refine r_callm 2 rfl rfl rfl rfl (follow_c (LineV.mk (TrackV.mk (Slc.mk kA l.Track.length kC)) l.Fast (Slc.mk cA l.Clocks.length cC) (Slc.mk bA l.Beams.length bC) l.Finish l.Fakes l.Misses) (RideV.mk r.Start r.Now (Slc.mk sgA r.Signals.length sgC)) (leasts l l.Beams.length) (timesT l r.Signals r.Signals.length) a c fb (some ⟨b19, 0, none⟩) l.Beams.length b22 (by exact hwo) (by exact leasts_len.symm) (by rw [htl]; omega)) rfl (cv_cons 1 rfl rfl (cov_own_n (by simp)) (cv_cons 3 rfl rfl (cov_own_n (by rw [List.length_zipWith]; omega)) (cv_cons 0 rfl rfl cov_bund cv_nil))) rfl (fun y101 hfo => ?_)
   obtain ⟨fs93, fb94, fA95, fC96, bs97, bb98, bA99, bC100⟩ := y101
   refine r_untie (X := [(blk b22 142 (WatchV.cells (WatchV.mk (LineV.mk (TrackV.mk (Slc.mk kA l.Track.length kC)) l.Fast (Slc.mk cA l.Clocks.length cC) (Slc.mk bA l.Beams.length bC) l.Finish l.Fakes l.Misses) (RideV.mk r.Start r.Now (Slc.mk sgA r.Signals.length sgC)) (Slc.mk a ((leasts l l.Beams.length).length) c) (Slc.mk (some ⟨b19, 0, none⟩) ((timesT l r.Signals r.Signals.length).length) l.Beams.length) (Slc.mk fA95 fs93.length fC96) (Slc.mk bA99 bs97.length bC100)))), (own fA95 fC96 144 1 (List.zipWith mapC fs93 fb94)), (bund (nest fmR fs93 fb94)), (own bA99 bC100 144 1 (List.zipWith mapC bs97 bb98)), (bund (nest fmR bs97 bb98))]) 2 rfl rfl ?_
   try dsimp only
   obtain ⟨hq1, hq2, hq3, hq4⟩ := hfo
   dsimp only at hq1 hq2 hq3 hq4
   refine RK hK92 ?_
   refine w_seq fun _ hK102 => ?_
   refine WS fun _ hK103 => ?_
   refine rS (MV rfl) ?_
   refine cX (numbers_c (LineV.mk (TrackV.mk (Slc.mk kA l.Track.length kC)) l.Fast (Slc.mk cA l.Clocks.length cC) (Slc.mk bA l.Beams.length bC) l.Finish l.Fakes l.Misses) (RideV.mk r.Start r.Now (Slc.mk sgA r.Signals.length sgC)) (leasts l l.Beams.length) (timesT l r.Signals r.Signals.length) a c fb (some ⟨b19, 0, none⟩) l.Beams.length fs93 bs97 fb94 fA95 fC96 bb98 bA99 bC100 b22 (by exact hwo) (by first | assumption | omega | (simp; done) | (simp; omega)) (by exact leasts_len.symm) (by exact hq1) (by first | assumption | omega | (simp; done) | (simp; omega))) (ha_cons (has_own_n (n := (leasts l l.Beams.length).length) 6 rfl (by simp)) <| ha_cons (has_own_n (n := (timesT l r.Signals r.Signals.length).length) 7 rfl (by rw [List.length_zipWith]; omega)) <| ha_cons (bun_bund 5 rfl bun_same) <| ha_cons (has_own_n (n := fs93.length) 1 rfl (by rw [List.length_zipWith]; omega)) <| ha_cons (bun_bund 2 rfl bun_same) <| ha_cons (has_own_n (n := bs97.length) 3 rfl (by rw [List.length_zipWith]; omega)) <| ha_cons (bun_bund 4 rfl bun_same) <| ha_at 0 rfl rfl <| ha_nil) rfl fun y104 hy105 => ?_
   obtain ⟨a106, c107⟩ := y104
   try dsimp only
   refine rS (LN rfl ut57) ?_
   refine rS (BI rfl b_eql) ?_
   refine RK hK103 ?_
   refine w_if rfl (fun h164 => ?_) (fun h164 => ?_)
   rotate_left 1
   · replace h164 := DF h164
     refine WK hK102 ?_
     refine WS fun _ hK109 => ?_
     refine rS (MV rfl) ?_
     refine rS (AG rfl) ?_
     refine rS (AG rfl) ?_
     refine RK hK109 ?_
     refine w_ret ?_
     refine hQ _ _ _ (l_nil (vs := [(Value.pointer (some ⟨b22, 0, none⟩)), (Value.int .i64 0)]) ⟨rfl, rfl, trivial⟩ fun w hs => endX (true, 0, b22, a, c, (some ⟨b19, 0, none⟩), l.Beams.length, fb, fs93, fb94, fA95, fC96, bs97, bb98, bA99, bC100) [1, 7, 8, 6, 2, 3, 4, 5] ?_ ?_ rfl rfl (by first | rfl | (show List.all _ _ = true; simp only [cond_true, List.all_cons, List.all_nil, fm_wr, tm_wr, Bool.and_true]; rfl)) hs)
     · rfl
     · exact ⟨fun _ => ⟨open_ok_e h10 hro (by first | rfl | exact h156) (fun q => h164 (congrArg (fun z : List Int => ((z.length : Nat) : Int)) q)), hq1, hq2, hq3, hq4, by dsimp only; omega⟩, fun q => Bool.noConfusion (show true = false from q)⟩
   replace h164 := DT h164
   refine WS fun _ hK108 => ?_
   refine rS (AG rfl) ?_
   refine rS (AG rfl) ?_
   refine RK hK108 ?_
   refine w_ret ?_
   refine hQ _ _ _ (l_nil (vs := [(Value.pointer none), (Value.int .i64 8)]) ⟨rfl, rfl, trivial⟩ fun w hs => endX (false, 8, 0, none, 0, none, 0, [], [], [], none, 0, [], [], none, 0) [] ?_ ?_ rfl rfl (by first | rfl | (show List.all _ _ = true; simp only [cond_true, List.all_cons, List.all_nil, fm_wr, tm_wr, Bool.and_true]; rfl)) hs)
   · rfl
   · refine ⟨fun q => Bool.noConfusion (show false = true from q), fun _ => ?_⟩; first | (have e := open_line_e (r := r) (me := me) h21; exact ⟨e.symm, fun q => h21 (e.symm.trans q)⟩) | (have e := open_ride_e (me := me) h10 (fun q : RideOk l r => by have q1 := q.time; have q2 := q.len; omega); exact ⟨e.symm, fun q => absurd (e.symm.trans q) (by decide)⟩) | (have e := open_ride_e (me := me) h10 (ride_no hx (by unfold SigOk SigIn; omega)); exact ⟨e.symm, fun q => absurd (e.symm.trans q) (by decide)⟩) | (have e := open_more_e h10 hro h156; exact ⟨e.symm, fun q => h156 (e.symm.trans q)⟩) | (have e := open_bad_e (me := me) h10 hro (by first | rfl | exact h156) (show numsF (watchL l r) = [] from List.eq_nil_of_length_eq_zero (Int.natCast_eq_zero.1 h164)); exact ⟨e.symm, fun q => absurd (e.symm.trans q) (by decide)⟩)
 replace h49 := DT h49
 refine WK hK48 ?_
 refine w_seq fun _ hK50 => ?_
 refine w_block ?_
 refine WS fun _ hK51 => ?_
 refine rS (MV rfl) ?_
 obtain ⟨x, hx⟩ : ∃ y_, r.Signals[i]? = some y_ := ⟨r.Signals[i]'(by omega), List.getElem?_eq_getElem _⟩
 have hxm : (r.Signals.map SignalV.cells)[i]? = some (SignalV.cells x) := by rw [List.getElem?_map, hx]; rfl
 refine rS (IA i rfl (has_at 11 rfl) te67 (by decide) (by omega) (by omega)) ?_
 refine rS (LEN i 0 (SignalV.cells x) rfl tk30 (has_at 11 rfl) hxm rfl (by decide) rfl rfl) ?_
 refine AL rfl tz30 fun b52 => ?_
 refine rS (AG rfl) ?_
 refine SW0 rfl ts30 rfl ?_
 refine RK hK51 ?_
 refine w_seq fun _ hK53 => ?_
 refine WS fun _ hK54 => ?_
 refine rS (FA 3 rfl fo28_3 rfl) ?_
 refine rS (L1 (Value.slice bA l.Beams.length bC) 7 rfl tk26 rfl rfl) ?_
 refine rS (LN rfl ut26) ?_
 refine rS (BI rfl (b_sub ⟨by omega, by omega⟩)) ?_
 refine rS (FA 0 rfl fo30_0 rfl) ?_
 refine rS (L1 (Value.int .i64 x.Beam) 0 rfl tk3 rfl rfl) ?_
 refine r_bs (xs := [.tmp 95]) (cs := [(Value.int .i64 x.Beam)]) rfl te57 tz3 rfl rfl rfl rfl (by simp [Value.cells]) rfl rfl fun b55 => ?_
 refine rS (CL (FnV.eq (in_beam 0 (((l.Beams.length : Nat) : Int) - 1) ([x.Beam]) (some ⟨b55, 0, none⟩) 1 (by first | assumption | omega | (simp; done) | (simp; omega))) inAll_one) (ha_cons (has_rd_blk 0 rfl rfl (by simp [iC_length]) rfl) <| ha_nil) rfl) ?_
 refine rS (NT rfl) ?_
 refine rS (MV rfl) ?_
 refine r_bool (t := 99) rfl (fun h99 => ?_) (fun h99 => ?_)
 · replace h99 := XT h99
   refine rS (OX rfl) ?_
   refine rS (OX rfl) ?_
   refine rS (OX rfl) ?_
   refine rS (OX rfl) ?_
   refine rS (OX rfl) ?_
   refine rS (PK rfl) ?_
   refine rS (MV rfl) ?_
   refine rS (OX rfl) ?_
   refine rS (OX rfl) ?_
   refine rS (OX rfl) ?_
   refine rS (OX rfl) ?_
   refine rS (OX rfl) ?_
   refine rS (PK rfl) ?_
   refine rS (MV rfl) ?_
   refine rS (OX rfl) ?_
   refine rS (OX rfl) ?_
   refine rS (OX rfl) ?_
   refine rS (OX rfl) ?_
   refine rS (OX rfl) ?_
   refine rS (OX rfl) ?_
   refine rS (OX rfl) ?_
   refine rS (OX rfl) ?_
   refine rS (OX rfl) ?_
   refine rS (OX rfl) ?_
   refine rS (OX rfl) ?_
   refine rS (OX rfl) ?_
   refine rS (PK rfl) ?_
   refine RK hK54 ?_
   refine w_if_true rfl ?_
   refine WS fun _ hK56 => ?_
   refine rS (AG rfl) ?_
   refine rS (AG rfl) ?_
   refine RK hK56 ?_
   refine w_ret ?_
   refine hQ _ _ _ (l_nil (vs := [(Value.pointer none), (Value.int .i64 51)]) ⟨rfl, rfl, trivial⟩ fun w hs => endX (false, 51, 0, none, 0, none, 0, [], [], [], none, 0, [], [], none, 0) [] ?_ ?_ rfl rfl (by first | rfl | (show List.all _ _ = true; simp only [cond_true, List.all_cons, List.all_nil, fm_wr, tm_wr, Bool.and_true]; rfl)) hs)
   · rfl
   · refine ⟨fun q => Bool.noConfusion (show false = true from q), fun _ => ?_⟩; first | (have e := open_line_e (r := r) (me := me) h21; exact ⟨e.symm, fun q => h21 (e.symm.trans q)⟩) | (have e := open_ride_e (me := me) h10 (fun q : RideOk l r => by have q1 := q.time; have q2 := q.len; omega); exact ⟨e.symm, fun q => absurd (e.symm.trans q) (by decide)⟩) | (have e := open_ride_e (me := me) h10 (ride_no hx (by unfold SigOk SigIn; omega)); exact ⟨e.symm, fun q => absurd (e.symm.trans q) (by decide)⟩) | (have e := open_more_e h10 hro h156; exact ⟨e.symm, fun q => h156 (e.symm.trans q)⟩) | (have e := open_bad_e (me := me) h10 hro (by first | rfl | exact h156) (show numsF (watchL l r) = [] from List.eq_nil_of_length_eq_zero (Int.natCast_eq_zero.1 h164)); exact ⟨e.symm, fun q => absurd (e.symm.trans q) (by decide)⟩)
 replace h99 := XF h99
 refine rS (FA 1 rfl fo30_1 rfl) ?_
 refine rS (L1 (Value.int .i64 x.Read) 1 rfl tk3 rfl rfl) ?_
 refine r_bs (xs := [.tmp 101]) (cs := [(Value.int .i64 x.Read)]) rfl te57 tz3 rfl rfl rfl rfl (by simp [Value.cells]) rfl rfl fun b57 => ?_
 refine rS (CL (FnV.eq (in_beam 0 86400000 ([x.Read]) (some ⟨b57, 0, none⟩) 1 (by first | assumption | omega | (simp; done) | (simp; omega))) inAll_one) (ha_cons (has_rd_blk 0 rfl rfl (by simp [iC_length]) rfl) <| ha_nil) rfl) ?_
 refine rS (NT rfl) ?_
 refine rS (PK rfl) ?_
 refine rS (MV rfl) ?_
 refine r_bool (t := 106) rfl (fun h106 => ?_) (fun h106 => ?_)
 · replace h106 := XT h106
   refine rS (OX rfl) ?_
   refine rS (OX rfl) ?_
   refine rS (OX rfl) ?_
   refine rS (OX rfl) ?_
   refine rS (OX rfl) ?_
   refine rS (PK rfl) ?_
   refine rS (MV rfl) ?_
   refine rS (OX rfl) ?_
   refine rS (OX rfl) ?_
   refine rS (OX rfl) ?_
   refine rS (OX rfl) ?_
   refine rS (OX rfl) ?_
   refine rS (OX rfl) ?_
   refine rS (OX rfl) ?_
   refine rS (OX rfl) ?_
   refine rS (OX rfl) ?_
   refine rS (OX rfl) ?_
   refine rS (OX rfl) ?_
   refine rS (OX rfl) ?_
   refine rS (PK rfl) ?_
   refine RK hK54 ?_
   refine w_if_true rfl ?_
   refine WS fun _ hK58 => ?_
   refine rS (AG rfl) ?_
   refine rS (AG rfl) ?_
   refine RK hK58 ?_
   refine w_ret ?_
   refine hQ _ _ _ (l_nil (vs := [(Value.pointer none), (Value.int .i64 51)]) ⟨rfl, rfl, trivial⟩ fun w hs => endX (false, 51, 0, none, 0, none, 0, [], [], [], none, 0, [], [], none, 0) [] ?_ ?_ rfl rfl (by first | rfl | (show List.all _ _ = true; simp only [cond_true, List.all_cons, List.all_nil, fm_wr, tm_wr, Bool.and_true]; rfl)) hs)
   · rfl
   · refine ⟨fun q => Bool.noConfusion (show false = true from q), fun _ => ?_⟩; first | (have e := open_line_e (r := r) (me := me) h21; exact ⟨e.symm, fun q => h21 (e.symm.trans q)⟩) | (have e := open_ride_e (me := me) h10 (fun q : RideOk l r => by have q1 := q.time; have q2 := q.len; omega); exact ⟨e.symm, fun q => absurd (e.symm.trans q) (by decide)⟩) | (have e := open_ride_e (me := me) h10 (ride_no hx (by unfold SigOk SigIn; omega)); exact ⟨e.symm, fun q => absurd (e.symm.trans q) (by decide)⟩) | (have e := open_more_e h10 hro h156; exact ⟨e.symm, fun q => h156 (e.symm.trans q)⟩) | (have e := open_bad_e (me := me) h10 hro (by first | rfl | exact h156) (show numsF (watchL l r) = [] from List.eq_nil_of_length_eq_zero (Int.natCast_eq_zero.1 h164)); exact ⟨e.symm, fun q => absurd (e.symm.trans q) (by decide)⟩)
 replace h106 := XF h106
 refine rS (FA 0 rfl fo30_0 rfl) ?_
 refine rS (L1 (Value.int .i64 x.Beam) 2 rfl tk3 rfl rfl) ?_
 refine rS (FA 0 rfl fo30_0 rfl) ?_
 refine rS (L1 (Value.int .i64 ((prevS r.Signals i).Beam)) 7 rfl tk3 rfl rfl) ?_
 refine rS (BI rfl b_lss) ?_
 refine rS (PK rfl) ?_
 refine rS (MV rfl) ?_
 refine r_bool (t := 113) rfl (fun h113 => ?_) (fun h113 => ?_)
 · replace h113 := DT h113
   refine rS (OX rfl) ?_
   refine rS (OX rfl) ?_
   refine rS (OX rfl) ?_
   refine rS (OX rfl) ?_
   refine rS (OX rfl) ?_
   refine rS (OX rfl) ?_
   refine rS (OX rfl) ?_
   refine rS (OX rfl) ?_
   refine rS (OX rfl) ?_
   refine rS (OX rfl) ?_
   refine rS (OX rfl) ?_
   refine rS (OX rfl) ?_
   refine rS (PK rfl) ?_
   refine RK hK54 ?_
   refine w_if_true rfl ?_
   refine WS fun _ hK59 => ?_
   refine rS (AG rfl) ?_
   refine rS (AG rfl) ?_
   refine RK hK59 ?_
   refine w_ret ?_
   refine hQ _ _ _ (l_nil (vs := [(Value.pointer none), (Value.int .i64 51)]) ⟨rfl, rfl, trivial⟩ fun w hs => endX (false, 51, 0, none, 0, none, 0, [], [], [], none, 0, [], [], none, 0) [] ?_ ?_ rfl rfl (by first | rfl | (show List.all _ _ = true; simp only [cond_true, List.all_cons, List.all_nil, fm_wr, tm_wr, Bool.and_true]; rfl)) hs)
   · rfl
   · refine ⟨fun q => Bool.noConfusion (show false = true from q), fun _ => ?_⟩; first | (have e := open_line_e (r := r) (me := me) h21; exact ⟨e.symm, fun q => h21 (e.symm.trans q)⟩) | (have e := open_ride_e (me := me) h10 (fun q : RideOk l r => by have q1 := q.time; have q2 := q.len; omega); exact ⟨e.symm, fun q => absurd (e.symm.trans q) (by decide)⟩) | (have e := open_ride_e (me := me) h10 (ride_no hx (by unfold SigOk SigIn; omega)); exact ⟨e.symm, fun q => absurd (e.symm.trans q) (by decide)⟩) | (have e := open_more_e h10 hro h156; exact ⟨e.symm, fun q => h156 (e.symm.trans q)⟩) | (have e := open_bad_e (me := me) h10 hro (by first | rfl | exact h156) (show numsF (watchL l r) = [] from List.eq_nil_of_length_eq_zero (Int.natCast_eq_zero.1 h164)); exact ⟨e.symm, fun q => absurd (e.symm.trans q) (by decide)⟩)
 replace h113 := DF h113
 refine rS (FA 0 rfl fo30_0 rfl) ?_
 refine rS (L1 (Value.int .i64 x.Beam) 2 rfl tk3 rfl rfl) ?_
 refine rS (FA 0 rfl fo30_0 rfl) ?_
 refine rS (L1 (Value.int .i64 ((prevS r.Signals i).Beam)) 7 rfl tk3 rfl rfl) ?_
 refine rS (BI rfl b_eql) ?_
 refine rS (MV rfl) ?_
 refine r_bool (t := 119) rfl (fun h119 => ?_) (fun h119 => ?_)
 rotate_left 1
 · replace h119 := DF h119
   refine rS (OX rfl) ?_
   refine rS (OX rfl) ?_
   refine rS (OX rfl) ?_
   refine rS (OX rfl) ?_
   refine rS (OX rfl) ?_
   refine rS (PK rfl) ?_
   refine rS (PK rfl) ?_
   refine RK hK54 ?_
   refine w_if_false rfl ?_
   refine WK hK53 ?_
   refine w_seq fun _ hK70 => ?_
   refine WS fun _ hK71 => ?_
   refine rS (LW 9 rfl tk28 rfl rfl) ?_
   refine rS (LW 2 rfl tk30 rfl rfl) ?_
   refine rS (CL (when_c l kA kC az cA cC bA bC x hin (by first | assumption | omega | (simp; done) | (simp; omega)) (by first | assumption | omega | (simp; done) | (simp; omega))) (ha_at 10 rfl rfl <| ha_at 11 rfl rfl <| ha_at 12 rfl rfl <| ha_at 13 rfl rfl <| ha_nil) rfl) ?_
   refine AL rfl tz34 fun b72 => ?_
   refine SW0 rfl ts34 rfl ?_
   refine RK hK71 ?_
   refine WS fun _ hK73 => ?_
   refine rS (FA 0 rfl fo34_0 rfl) ?_
   refine rS (L1 (Value.int .i64 ((whenF l x).Lo)) 0 rfl tk3 rfl rfl) ?_
   refine rS (FA 1 rfl fo34_1 rfl) ?_
   refine rS (L1 (Value.int .i64 ((whenF l x).Hi)) 0 rfl tk3 rfl rfl) ?_
   refine rS (BI rfl b_leq) ?_
   refine RK hK73 ?_
   refine w_if rfl (fun h134 => ?_) (fun h134 => ?_)
   rotate_left 1
   · replace h134 := DF h134
     refine WK hK70 ?_
     refine w_region ?_
     refine rS (LW 3 rfl tk30 rfl rfl) ?_
     refine SW8 rfl ts30 rfl ?_
     refine r_nil ?_
     refine k_block ?_
     refine KK hK50 ?_
     have hb77 : (SignalV.cells x) = (SignalV.cells (prevS r.Signals (i + 1))) := by rw [prevS_succ hx]
     rw [hb77]
     refine w_region ?_
     refine rS (BI rfl (b_add ⟨by omega, by omega⟩)) ?_
     refine rS (MV rfl) ?_
     refine r_nil ?_
     rw [show (timesT l r.Signals i) = (timesT l r.Signals (i + 1)) from (times_skip hx h134).symm]
     have hb78 : (Value.int .i64 (((i + 1) : Nat) : Int)) = (Value.int .i64 (((i : Nat) : Int) + 1)) := by exact congrArg (Value.int .i64) (by omega)
     refine k_then (hJ46 ⟨(i + 1), ⟨by omega, sigs_succ hl15_1 hx (by unfold SigOk SigIn; omega)⟩⟩ _ _ _ rfl (by first | omega | (simp; omega)) (Sub.cons rfl <| Sub.cons rfl <| Sub.cons rfl <| Sub.cons rfl <| Sub.cons rfl <| Sub.cons rfl <| Sub.cons rfl <| Sub.cons rfl <| Sub.cons rfl <| sub_val rfl hb78 <| Sub.nil _) (fun w hs => St.sel [4, 5, 6, 7, 8, 9, 10, 11, 12, 13, 14, 15, 16, 17] rfl rfl hs))
   replace h134 := DT h134
   obtain ⟨mb, hmb⟩ : ∃ y_, (timesT l r.Signals i)[(x.Beam).toNat]? = some y_ := ⟨(timesT l r.Signals i)[(x.Beam).toNat]'(by omega), List.getElem?_eq_getElem _⟩
   obtain ⟨ga, hga⟩ : ∃ y_, fb[(x.Beam).toNat]? = some y_ := ⟨fb[(x.Beam).toNat]'(by omega), List.getElem?_eq_getElem _⟩
   refine w_out 4 hmb hga rfl rfl rfl ?_
   try dsimp only
   refine w_draw mixed 10 (by kernel_rfl) ?_
   refine dS (MV rfl) ?_
   refine dS (SX (sd_nil_p rfl rfl) rfl rfl) ?_
   refine dS (FA 11 rfl fo142_3 rfl) ?_
   refine dS (L1 (Value.slice (some ⟨b19, 0, none⟩) l.Beams.length l.Beams.length) 7 rfl tk139 rfl rfl) ?_
   refine dS (FA 0 rfl fo30_0 rfl) ?_
   refine dS (L1 (Value.int .i64 x.Beam) 5 rfl tk3 rfl rfl) ?_
   have hk74 : (List.map oC (fillF fb l.Beams.length))[(x.Beam).toNat]? = some (oC (some ga)) := oC_at (fillF_at hga)
   refine dS (IA ((x.Beam).toNat) rfl (has_own_n (n := l.Beams.length) 8 rfl (by first | (simp; done) | (simp; omega))) te139 (by decide) (by omega) (by omega)) ?_
   refine dS (LE1 ((x.Beam).toNat) 0 (Value.map (some ga)) rfl tk143 (has_own_n (n := (fillF fb l.Beams.length).length) 8 rfl (by simp)) hk74 rfl (by decide) rfl) ?_
   refine dS (MV rfl) ?_
   refine dS (LW 2 rfl tk34 rfl rfl) ?_
   refine d_end ?_
   refine gr_mapset (kV := iV) (x := ((i : Nat) : Int)) (C' := [(gmp iV ga (gmapV spanU (gsetK mb ((i : Nat) : Int) (whenF l x)))), _, _, _, _, _, _, _, _, _, _, _, _, _, _, _, _, _, _]) 0 rfl rfl rfl rfl ut143 (gkey_int ut3) rfl (gmapV_setK _ _ _ _).symm rfl ?_
   refine RK hK70 ?_
   refine w_region ?_
   refine rS (LW 5 rfl tk30 rfl rfl) ?_
   refine SW9 rfl ts30 rfl ?_
   refine r_nil ?_
   refine k_block ?_
   refine KK hK50 ?_
   have hb75 : (SignalV.cells x) = (SignalV.cells (prevS r.Signals (i + 1))) := by rw [prevS_succ hx]
   rw [hb75]
   refine w_region ?_
   refine rS (BI rfl (b_add ⟨by omega, by omega⟩)) ?_
   refine rS (MV rfl) ?_
   refine r_nil ?_
   refine k_back (f := tmR) (ms := (timesT l r.Signals i)) (m := (gsetK mb ((i : Nat) : Int) (whenF l x))) 1 0 (by rw [timesT_len]; omega) hga rfl rfl rfl ?_
   rw [times_put hx (by omega) h134 hmb]
   have hb76 : (Value.int .i64 (((i + 1) : Nat) : Int)) = (Value.int .i64 (((i : Nat) : Int) + 1)) := by exact congrArg (Value.int .i64) (by omega)
   refine k_then (hJ46 ⟨(i + 1), ⟨by omega, sigs_succ hl15_1 hx (by unfold SigOk SigIn; omega)⟩⟩ _ _ _ rfl (by first | omega | (simp; omega)) (Sub.cons rfl <| Sub.cons rfl <| Sub.cons rfl <| Sub.cons rfl <| Sub.cons rfl <| Sub.cons rfl <| Sub.cons rfl <| Sub.cons rfl <| Sub.cons rfl <| sub_val rfl hb76 <| Sub.nil _) (fun w hs => St.sel [0, 5, 6, 7, 8, 9, 10, 11, 12, 13, 14, 15, 16, 17] rfl rfl hs))
 replace h119 := DT h119
 refine rS (FA 1 rfl fo30_1 rfl) ?_
 refine rS (L1 (Value.int .i64 x.Read) 2 rfl tk3 rfl rfl) ?_
 refine rS (FA 1 rfl fo30_1 rfl) ?_
 refine rS (L1 (Value.int .i64 ((prevS r.Signals i).Read)) 7 rfl tk3 rfl rfl) ?_
 refine rS (BI rfl b_leq) ?_
 refine rS (PK rfl) ?_
 refine rS (PK rfl) ?_
 refine RK hK54 ?_
 refine w_if rfl (fun h126 => ?_) (fun h126 => ?_)
 · replace h126 := DT h126
   refine WS fun _ hK60 => ?_
   refine rS (AG rfl) ?_
   refine rS (AG rfl) ?_
   refine RK hK60 ?_
   refine w_ret ?_
   refine hQ _ _ _ (l_nil (vs := [(Value.pointer none), (Value.int .i64 51)]) ⟨rfl, rfl, trivial⟩ fun w hs => endX (false, 51, 0, none, 0, none, 0, [], [], [], none, 0, [], [], none, 0) [] ?_ ?_ rfl rfl (by first | rfl | (show List.all _ _ = true; simp only [cond_true, List.all_cons, List.all_nil, fm_wr, tm_wr, Bool.and_true]; rfl)) hs)
   · rfl
   · refine ⟨fun q => Bool.noConfusion (show false = true from q), fun _ => ?_⟩; first | (have e := open_line_e (r := r) (me := me) h21; exact ⟨e.symm, fun q => h21 (e.symm.trans q)⟩) | (have e := open_ride_e (me := me) h10 (fun q : RideOk l r => by have q1 := q.time; have q2 := q.len; omega); exact ⟨e.symm, fun q => absurd (e.symm.trans q) (by decide)⟩) | (have e := open_ride_e (me := me) h10 (ride_no hx (by unfold SigOk SigIn; omega)); exact ⟨e.symm, fun q => absurd (e.symm.trans q) (by decide)⟩) | (have e := open_more_e h10 hro h156; exact ⟨e.symm, fun q => h156 (e.symm.trans q)⟩) | (have e := open_bad_e (me := me) h10 hro (by first | rfl | exact h156) (show numsF (watchL l r) = [] from List.eq_nil_of_length_eq_zero (Int.natCast_eq_zero.1 h164)); exact ⟨e.symm, fun q => absurd (e.symm.trans q) (by decide)⟩)
 replace h126 := DF h126
 refine WK hK53 ?_
 refine w_seq fun _ hK61 => ?_
 refine WS fun _ hK62 => ?_
 refine rS (LW 9 rfl tk28 rfl rfl) ?_
 refine rS (LW 2 rfl tk30 rfl rfl) ?_
 refine rS (CL (when_c l kA kC az cA cC bA bC x hin (by first | assumption | omega | (simp; done) | (simp; omega)) (by first | assumption | omega | (simp; done) | (simp; omega))) (ha_at 10 rfl rfl <| ha_at 11 rfl rfl <| ha_at 12 rfl rfl <| ha_at 13 rfl rfl <| ha_nil) rfl) ?_
 refine AL rfl tz34 fun b63 => ?_
 refine SW0 rfl ts34 rfl ?_
 refine RK hK62 ?_
 refine WS fun _ hK64 => ?_
 refine rS (FA 0 rfl fo34_0 rfl) ?_
 refine rS (L1 (Value.int .i64 ((whenF l x).Lo)) 0 rfl tk3 rfl rfl) ?_
 refine rS (FA 1 rfl fo34_1 rfl) ?_
 refine rS (L1 (Value.int .i64 ((whenF l x).Hi)) 0 rfl tk3 rfl rfl) ?_
 refine rS (BI rfl b_leq) ?_
 refine RK hK64 ?_
 refine w_if rfl (fun h134 => ?_) (fun h134 => ?_)
 rotate_left 1
 · replace h134 := DF h134
   refine WK hK61 ?_
   refine w_region ?_
   refine rS (LW 3 rfl tk30 rfl rfl) ?_
   refine SW8 rfl ts30 rfl ?_
   refine r_nil ?_
   refine k_block ?_
   refine KK hK50 ?_
   have hb68 : (SignalV.cells x) = (SignalV.cells (prevS r.Signals (i + 1))) := by rw [prevS_succ hx]
   rw [hb68]
   refine w_region ?_
   refine rS (BI rfl (b_add ⟨by omega, by omega⟩)) ?_
   refine rS (MV rfl) ?_
   refine r_nil ?_
   rw [show (timesT l r.Signals i) = (timesT l r.Signals (i + 1)) from (times_skip hx h134).symm]
   have hb69 : (Value.int .i64 (((i + 1) : Nat) : Int)) = (Value.int .i64 (((i : Nat) : Int) + 1)) := by exact congrArg (Value.int .i64) (by omega)
   refine k_then (hJ46 ⟨(i + 1), ⟨by omega, sigs_succ hl15_1 hx (by unfold SigOk SigIn; omega)⟩⟩ _ _ _ rfl (by first | omega | (simp; omega)) (Sub.cons rfl <| Sub.cons rfl <| Sub.cons rfl <| Sub.cons rfl <| Sub.cons rfl <| Sub.cons rfl <| Sub.cons rfl <| Sub.cons rfl <| Sub.cons rfl <| sub_val rfl hb69 <| Sub.nil _) (fun w hs => St.sel [4, 5, 6, 7, 8, 9, 10, 11, 12, 13, 14, 15, 16, 17] rfl rfl hs))
 replace h134 := DT h134
 obtain ⟨mb, hmb⟩ : ∃ y_, (timesT l r.Signals i)[(x.Beam).toNat]? = some y_ := ⟨(timesT l r.Signals i)[(x.Beam).toNat]'(by omega), List.getElem?_eq_getElem _⟩
 obtain ⟨ga, hga⟩ : ∃ y_, fb[(x.Beam).toNat]? = some y_ := ⟨fb[(x.Beam).toNat]'(by omega), List.getElem?_eq_getElem _⟩
 refine w_out 4 hmb hga rfl rfl rfl ?_
 try dsimp only
 refine w_draw mixed 10 (by kernel_rfl) ?_
 refine dS (MV rfl) ?_
 refine dS (SX (sd_nil_p rfl rfl) rfl rfl) ?_
 refine dS (FA 11 rfl fo142_3 rfl) ?_
 refine dS (L1 (Value.slice (some ⟨b19, 0, none⟩) l.Beams.length l.Beams.length) 7 rfl tk139 rfl rfl) ?_
 refine dS (FA 0 rfl fo30_0 rfl) ?_
 refine dS (L1 (Value.int .i64 x.Beam) 5 rfl tk3 rfl rfl) ?_
 have hk65 : (List.map oC (fillF fb l.Beams.length))[(x.Beam).toNat]? = some (oC (some ga)) := oC_at (fillF_at hga)
 refine dS (IA ((x.Beam).toNat) rfl (has_own_n (n := l.Beams.length) 8 rfl (by first | (simp; done) | (simp; omega))) te139 (by decide) (by omega) (by omega)) ?_
 refine dS (LE1 ((x.Beam).toNat) 0 (Value.map (some ga)) rfl tk143 (has_own_n (n := (fillF fb l.Beams.length).length) 8 rfl (by simp)) hk65 rfl (by decide) rfl) ?_
 refine dS (MV rfl) ?_
 refine dS (LW 2 rfl tk34 rfl rfl) ?_
 refine d_end ?_
 refine gr_mapset (kV := iV) (x := ((i : Nat) : Int)) (C' := [(gmp iV ga (gmapV spanU (gsetK mb ((i : Nat) : Int) (whenF l x)))), _, _, _, _, _, _, _, _, _, _, _, _, _, _, _, _, _, _]) 0 rfl rfl rfl rfl ut143 (gkey_int ut3) rfl (gmapV_setK _ _ _ _).symm rfl ?_
 refine RK hK61 ?_
 refine w_region ?_
 refine rS (LW 5 rfl tk30 rfl rfl) ?_
 refine SW9 rfl ts30 rfl ?_
 refine r_nil ?_
 refine k_block ?_
 refine KK hK50 ?_
 have hb66 : (SignalV.cells x) = (SignalV.cells (prevS r.Signals (i + 1))) := by rw [prevS_succ hx]
 rw [hb66]
 refine w_region ?_
 refine rS (BI rfl (b_add ⟨by omega, by omega⟩)) ?_
 refine rS (MV rfl) ?_
 refine r_nil ?_
 refine k_back (f := tmR) (ms := (timesT l r.Signals i)) (m := (gsetK mb ((i : Nat) : Int) (whenF l x))) 1 0 (by rw [timesT_len]; omega) hga rfl rfl rfl ?_
 rw [times_put hx (by omega) h134 hmb]
 have hb67 : (Value.int .i64 (((i + 1) : Nat) : Int)) = (Value.int .i64 (((i : Nat) : Int) + 1)) := by exact congrArg (Value.int .i64) (by omega)
 refine k_then (hJ46 ⟨(i + 1), ⟨by omega, sigs_succ hl15_1 hx (by unfold SigOk SigIn; omega)⟩⟩ _ _ _ rfl (by first | omega | (simp; omega)) (Sub.cons rfl <| Sub.cons rfl <| Sub.cons rfl <| Sub.cons rfl <| Sub.cons rfl <| Sub.cons rfl <| Sub.cons rfl <| Sub.cons rfl <| Sub.cons rfl <| sub_val rfl hb67 <| Sub.nil _) (fun w hs => St.sel [0, 5, 6, 7, 8, 9, 10, 11, 12, 13, 14, 15, 16, 17] rfl rfl hs))
end
section
open Go.RowKit
set_option linter.unusedVariables false
set_option maxRecDepth 100000 in
set_option maxHeartbeats 400000 in
theorem Passed_c (l : LineM) (kA : Option Addr) (kC : Nat) (az : List RA) (cA : Option Addr) (cC : Nat) (bA : Option Addr) (bC : Nat) (r : RideM) (sgA : Option Addr) (sgC : Nat) (bq_ : Int) (hin : LineIn l az) (hsl : r.Signals.length ≤ 1000000) :
    FnV Try.prog 29 [(Value.agg (LineV.cells (LineV.mk (TrackV.mk (Slc.mk kA l.Track.length kC)) l.Fast (Slc.mk cA l.Clocks.length cC) (Slc.mk bA l.Beams.length bC) l.Finish l.Fakes l.Misses)).toArray), (Value.agg (RideV.cells (RideV.mk r.Start r.Now (Slc.mk sgA r.Signals.length sgC))).toArray), (Value.int .i64 bq_)] [(rd kA l.Track.length 9 (l.Track.map StretchV.cells)), (rd cA l.Clocks.length 2 (List.zipWith ClockM.cells l.Clocks az)), (bun (nest ClockM.rds l.Clocks az)), (rd bA l.Beams.length 4 (l.Beams.map BeamV.cells)), (rd sgA r.Signals.length 2 (r.Signals.map SignalV.cells))] (Value.tuple [(Value.agg (SpanV.cells (passedV l r bq_)).toArray), (Value.int .i64 (passedE l r bq_))].toArray) := by
 have htk := hin.trk
 have hck := hin.cks
 have has := hin.as_
 have hbm := hin.bms
 have hsd := hin.side
 refine fnV_of go29 Try.func29 rfl rfl fun w0 Q hQ hN => ?_
 try dsimp only
 refine WS fun _ hK1 => ?_
 refine BXA rfl fun b2 => ?_
 refine BXA rfl fun b3 => ?_
 refine BX1 rfl rfl fun b4 => ?_
 refine AL rfl tz34 fun b5 => ?_
 refine rS (AG rfl) ?_
 refine RK hK1 ?_
 refine WS fun _ hK6 => ?_
 refine rS (LW 3 rfl tk28 rfl rfl) ?_
 refine rS (LW 2 rfl tk69 rfl rfl) ?_
 refine rS (FU rfl) ?_
 refine r_bs (xs := [.tmp 17]) (cs := [(Value.func (.func 63) [].toArray [(Value.pointer (some ⟨b2, 0, none⟩)), (Value.pointer (some ⟨b4, 0, none⟩))].toArray)]) rfl te138 tz111 rfl rfl rfl rfl (by simp [Value.cells]) rfl rfl fun b7 => ?_
 refine cX (open1_c l kA kC az cA cC bA bC r sgA sgC (Value.func (.func 63) [].toArray [(Value.pointer (some ⟨b2, 0, none⟩)), (Value.pointer (some ⟨b4, 0, none⟩))].toArray) (bun [(rd kA l.Track.length 9 (l.Track.map StretchV.cells)), (rd cA l.Clocks.length 2 (List.zipWith ClockM.cells l.Clocks az)), (bun (nest ClockM.rds l.Clocks az)), (rd bA l.Beams.length 4 (l.Beams.map BeamV.cells)), (blk b2 28 (LineV.cells (LineV.mk (TrackV.mk (Slc.mk kA l.Track.length kC)) l.Fast (Slc.mk cA l.Clocks.length cC) (Slc.mk bA l.Beams.length bC) l.Finish l.Fakes l.Misses))), (blk b4 3 [(Value.int .i64 bq_)])]) (beamE l bq_) b7 (by exact clo_of (fi := []) (ca := [(Value.pointer (some ⟨b2, 0, none⟩)), (Value.pointer (some ⟨b4, 0, none⟩))]) (fnV_bun (passed1f_c l kA kC az cA cC bA bC b2 bq_ b4 (by first | assumption | omega)) (ha_at 0 rfl rfl <| ha_at 1 rfl rfl <| ha_at 2 rfl rfl <| ha_at 3 rfl rfl <| ha_at 4 rfl rfl <| ha_at 5 rfl rfl <| ha_nil))) hin hsl) (ha_at 5 rfl rfl <| ha_at 6 rfl rfl <| ha_at 7 rfl rfl <| ha_at 8 rfl rfl <| ha_at 9 rfl rfl <| ha_cons (has_bun (ha_at 5 rfl rfl <| ha_at 6 rfl rfl <| ha_at 7 rfl rfl <| ha_at 8 rfl rfl <| ha_at 4 rfl rfl <| ha_at 2 rfl rfl <| ha_nil)) <| ha_at 0 rfl rfl <| ha_nil) rfl fun y8 hy9 => ?_
 obtain ⟨ok25, ec10, gw11, eA12, eC13, tA14, tC15, tb16, fs17, fb18, fA19, fC20, bs21, bb22, qA23, qC24⟩ := y8
 cases ok25
 · obtain ⟨hec, he⟩ := hy9.2 rfl
   try dsimp only at hec he
   subst hec
   try dsimp only [cond_true, cond_false, List.cons_append, List.nil_append]
   refine rS (MV rfl) ?_
   refine rS (EX rfl) ?_
   refine rS (EX rfl) ?_
   refine rS (AG rfl) ?_
   refine rS (AG rfl) ?_
   refine RK hK6 ?_
   refine w_seq fun _ hK26 => ?_
   refine WS fun _ hK27 => ?_
   refine rS (MV rfl) ?_
   refine rS (BI rfl b_neq) ?_
   refine RK hK27 ?_
   refine w_if rfl (fun h23 => ?_) (fun h23 => ?_)
   rotate_left 1
   · replace h23 := XF h23
     exact absurd h23 he
   replace h23 := XT h23
   refine WS fun _ hK28 => ?_
   refine rS (SX (sd_build (xs := []) (cs := (SpanV.cells (SpanV.mk 0 0))) rfl rfl (built_of tb34 rfl)) rfl rfl) ?_
   refine rS (MV rfl) ?_
   refine SW1 rfl ts34 rfl ?_
   refine rS (AG rfl) ?_
   refine RK hK28 ?_
   refine w_ret ?_
   refine hQ _ _ _ (l_nil (vs := [(Value.agg (SpanV.cells (SpanV.mk 0 0)).toArray), (Value.int .i64 (openE l r (beamE l bq_)))]) ⟨⟨_, rfl, .inl ⟨_, _, tk34, at_blk (vs := (SpanV.cells (SpanV.mk 0 0))) 1 rfl rfl, rfl, rfl⟩⟩, rfl, trivial⟩ fun w hs => endV ?_ hs)
   show (Value.tuple [(Value.agg (SpanV.cells (SpanV.mk 0 0)).toArray), (Value.int .i64 (openE l r (beamE l bq_)))].toArray) = (Value.tuple [(Value.agg (SpanV.cells (passedV l r bq_)).toArray), (Value.int .i64 (passedE l r bq_))].toArray)
   clear hs w hQ hN hK28 hK27 hK26 hK6 hK1
   first | (have e := passed_bad (b := bq_) he; rw [e.1, e.2] <;> rfl) | (rw [hbq] at he ⊢; have hh : h = hullW l r b := hull_maps (hfw.min _ _ hm1) (hbw.max _ _ hm2) (hfw.keys _ _ hm1) (hbw.keys _ _ hm2) hr1 hfin hr0; first | (have e := passed_none he (hh.symm.trans h50); rw [e.1, e.2] <;> rfl) | (have e := passed_some he (fun q => h50 (hh.trans q)); rw [e.1, e.2, hh] <;> rfl))
 obtain ⟨he, hfw, hbw, hfl, hbl, htl⟩ := hy9.1 rfl
 try dsimp only [cond_true, cond_false, List.cons_append, List.nil_append]
 dsimp only at hfw hbw hfl hbl htl
 obtain ⟨h10, hro, hme, hnn⟩ := openE_zero he
 obtain ⟨htr, hok⟩ := lineE_zero h10
 have hhd := hok.head
 unfold HeadOk at hhd
 have hwo := watch_ok htr hok hro
 have hrt := hro.time
 have hrl := hro.len
 have hlel : (leasts l l.Beams.length).length = l.Beams.length := leasts_len
 have htll : (timesT l r.Signals r.Signals.length).length = l.Beams.length := timesT_len
 have hfn : fs17.length = l.Beams.length + 1 := by have := hfw.len; rw [show (watchL l r).n = l.Beams.length from leasts_len] at this; exact this
 have hbn : bs21.length = l.Beams.length + 1 := by have := hbw.len; rw [show (watchL l r).n = l.Beams.length from leasts_len] at this; exact this
 obtain ⟨hb0, hb1⟩ := beamE_zero hme
 obtain ⟨b, hbq⟩ : ∃ b : Nat, bq_ = ((b : Nat) : Int) := ⟨bq_.toNat, by omega⟩
 rw [hbq]
 refine rS (MV rfl) ?_
 refine rS (EX rfl) ?_
 refine rS (EX rfl) ?_
 refine rS (AG rfl) ?_
 refine rS (AG rfl) ?_
 refine RK hK6 ?_
 refine w_seq fun _ hK29 => ?_
 refine WS fun _ hK30 => ?_
 refine rS (MV rfl) ?_
 refine rS (SX (sd_bin (r := .bool false) rfl rfl rfl b_neq) rfl rfl) ?_
 refine RK hK30 ?_
 refine w_if_false rfl ?_
 refine WK hK29 ?_
 refine WS fun _ hK31 => ?_
 refine rS (SX (sd_build (xs := [(0, .const (Value.int .i64 1))]) (cs := (SpanV.cells (SpanV.mk 1 0))) rfl rfl (built_of tb34 rfl)) rfl rfl) ?_
 refine AL rfl tz34 fun b32 => ?_
 refine SW0 rfl ts34 rfl ?_
 refine RK hK31 ?_
 refine WS fun _ hK33 => ?_
 refine rS (LW 0 rfl tk34 rfl rfl) ?_
 refine AL rfl tz34 fun b34 => ?_
 refine SW0 rfl ts34 rfl ?_
 refine RK hK33 ?_
 refine w_seq fun _ hK35 => ?_
 refine WS fun _ hK36 => ?_
 refine rS (MV rfl) ?_
 refine rS (L1W 12 rfl tk3 rfl) ?_
 obtain ⟨mf, hm1⟩ : ∃ y_, fs17[b]? = some y_ := ⟨fs17[b]'(by omega), List.getElem?_eq_getElem _⟩
 obtain ⟨mb, hm2⟩ : ∃ y_, bs21[b + 1]? = some y_ := ⟨bs21[b + 1]'(by omega), List.getElem?_eq_getElem _⟩
 refine cX (passes_c gw11 b) (ha_nil) rfl fun y37 hy38 => ?_
 obtain ⟨x139, x240⟩ := y37
 try dsimp only
 refine RK hK36 ?_
 refine w_block ?_
 refine w_rangeG (L0 := [(3, (Value.pointer (some ⟨b2, 0, none⟩))), (4, (Value.pointer (some ⟨b3, 0, none⟩))), (5, (Value.pointer (some ⟨b4, 0, none⟩))), (6, (Value.pointer (some ⟨b5, 0, none⟩))), (7, (Value.int .i64 0)), (10, (Value.pointer (some ⟨b32, 0, none⟩))), (11, (Value.pointer (some ⟨b34, 0, none⟩)))]) (F := [(own eA12 eC13 3 1 ((leasts l l.Beams.length).map iC)), (own tA14 tC15 143 1 (List.zipWith mapC (timesT l r.Signals r.Signals.length) tb16)), (bund (nest tmR (timesT l r.Signals r.Signals.length) tb16)), (own fA19 fC20 144 1 (List.zipWith mapC fs17 fb18)), (bund (nest fmR fs17 fb18)), (own qA23 qC24 144 1 (List.zipWith mapC bs21 bb22)), (bund (nest fmR bs21 bb22)), (blk gw11 142 (WatchV.cells (WatchV.mk (LineV.mk (TrackV.mk (Slc.mk kA l.Track.length kC)) l.Fast (Slc.mk cA l.Clocks.length cC) (Slc.mk bA l.Beams.length bC) l.Finish l.Fakes l.Misses) (RideV.mk r.Start r.Now (Slc.mk sgA r.Signals.length sgC)) (Slc.mk eA12 ((leasts l l.Beams.length).length) eC13) (Slc.mk tA14 ((timesT l r.Signals r.Signals.length).length) tC15) (Slc.mk fA19 fs17.length fC20) (Slc.mk qA23 bs21.length qC24)))), (blk x139 107 [(Value.pointer (some ⟨gw11, 0, none⟩))]), (blk x240 3 [(Value.int .i64 ((b : Nat) : Int))])])  (fun k (y : SpanV) => (HullOk k y) ∧ (∀ q ∈ k, q ∈ passM (watchL l r) b mf mb)) (fun k y => [(blk b34 34 (SpanV.cells y)), (blk b32 34 (SpanV.cells (SpanV.mk 1 0))), (blk b5 34 (SpanV.cells (SpanV.mk 0 0))), (blk b4 3 [(Value.int .i64 ((b : Nat) : Int))]), (blk b3 69 (RideV.cells (RideV.mk r.Start r.Now (Slc.mk sgA r.Signals.length sgC)))), (blk b2 28 (LineV.cells (LineV.mk (TrackV.mk (Slc.mk kA l.Track.length kC)) l.Fast (Slc.mk cA l.Clocks.length cC) (Slc.mk bA l.Beams.length bC) l.Finish l.Fakes l.Misses))), (rd kA l.Track.length 9 (l.Track.map StretchV.cells)).ro, (rd cA l.Clocks.length 2 (List.zipWith ClockM.cells l.Clocks az)).ro, (bun (nest ClockM.rds l.Clocks az)).ro, (rd bA l.Beams.length 4 (l.Beams.map BeamV.cells)).ro, (rd sgA r.Signals.length 2 (r.Signals.map SignalV.cells)).ro]) (fun _ (_ : Unit) => False) (fun _ _ => []) [2, 3, 13, 14, 15, 16, 17, 18, 19, 20, 21] [5, 6, 7, 8, 9, 10, 11, 4, 0, 1] noneZ rfl rfl (passes1_c (LineV.mk (TrackV.mk (Slc.mk kA l.Track.length kC)) l.Fast (Slc.mk cA l.Clocks.length cC) (Slc.mk bA l.Beams.length bC) l.Finish l.Fakes l.Misses) (RideV.mk r.Start r.Now (Slc.mk sgA r.Signals.length sgC)) (leasts l l.Beams.length) (timesT l r.Signals r.Signals.length) eA12 eC13 tb16 tA14 tC15 fs17 bs21 fb18 fA19 fC20 bb22 qA23 qC24 gw11 b x139 x240 mf mb (by rw [hlel]; omega) (by exact hwo) (by rw [htll]; omega) (by exact hfw) (by omega) (by exact hbw) (by omega) (by show r.Signals.length ≤ 1000; omega) (by exact hm1) (by exact hm2)) rfl rfl rfl (by exact ⟨hull_nil, fun q hq => by cases hq⟩) (by simp only [List.forall_mem_cons, List.not_mem_nil, false_imp_iff, implies_true, and_true]; exact ⟨⟨_, List.mem_of_getElem? (i := 0) rfl, (cov_own_n (by simp))⟩, ⟨_, List.mem_of_getElem? (i := 1) rfl, (cov_own_n (by rw [List.length_zipWith]; omega))⟩, ⟨_, List.mem_of_getElem? (i := 2) rfl, cov_bund⟩, ⟨_, List.mem_of_getElem? (i := 3) rfl, (cov_own_n (by rw [List.length_zipWith]; omega))⟩, ⟨_, List.mem_of_getElem? (i := 4) rfl, cov_bund⟩, ⟨_, List.mem_of_getElem? (i := 5) rfl, (cov_own_n (by rw [List.length_zipWith]; omega))⟩, ⟨_, List.mem_of_getElem? (i := 6) rfl, cov_bund⟩, ⟨_, List.mem_of_getElem? (i := 7) rfl, (cov_refl _)⟩, ⟨_, List.mem_of_getElem? (i := 8) rfl, (cov_refl _)⟩, ⟨_, List.mem_of_getElem? (i := 9) rfl, (cov_refl _)⟩⟩) (by rintro k x k2 ⟨o, _, rfl, _⟩; rfl) rfl (Sub.cons rfl <| Sub.cons rfl <| Sub.cons rfl <| Sub.cons rfl <| Sub.cons rfl <| Sub.cons rfl <| Sub.cons rfl <| Sub.nil _) ?_ ?_ (fun _ _ _ h => h.elim) (fun _ _ h => h.elim)
 · rintro k x k2 h lr ra rb S w1 K41 Qr42 hsz hx hin43 hK41 hQr42 xQr42 yQr42
   obtain ⟨q, hq, rfl, rfl⟩ := hx
   obtain ⟨hr0, hr1⟩ := hin43
   try dsimp only
   refine w_region ?_
   refine AL rfl tz34 fun b44 => ?_
   refine SW0 rfl ts34 rfl ?_
   refine r_nil ?_
   refine k_sub (fun _ _ h => h) (fun w hs => St.sel [1, 0, 2, 3, 4, 5, 6, 7, 8, 9, 10, 11, 12] rfl rfl hs) ?_
   refine k_then (hK41 _ _ ?_)
   refine w_block ?_
   refine w_seq fun _ hK45 => ?_
   refine WS fun _ hK46 => ?_
   refine rS (LW 2 rfl tk34 rfl rfl) ?_
   refine rS (LW 3 rfl tk34 rfl rfl) ?_
   refine rS (BI rfl (nes34 _ _ h (SpanV.mk 1 0))) ?_
   refine RK hK46 ?_
   refine w_if rfl (fun h35 => ?_) (fun h35 => ?_)
   rotate_left 1
   · replace h35 := XF h35
     refine WK hK45 ?_
     refine w_region ?_
     refine rS (LW 1 rfl tk34 rfl rfl) ?_
     refine SW2 rfl ts34 rfl ?_
     refine r_nil ?_
     refine k_block ?_
     exact hQr42 q.2 _ _ (by refine ⟨hull_next hr0 (pass_le hq) ?_, fun z hz => ?_⟩; (first | exact if_neg h35 | exact if_pos h35); (rcases List.mem_append.1 hz with hz | hz; exact hr1 z hz; (rw [List.mem_singleton.1 hz]; exact hq))) (fun w hs => St.sel [0, 2, 3, 4, 5, 6, 7, 8, 9, 10, 11, 12] rfl rfl hs)
   replace h35 := XT h35
   refine w_region ?_
   refine rS (FA 0 rfl fo34_0 rfl) ?_
   refine rS (L1 (Value.int .i64 q.2.Lo) 1 rfl tk3 rfl rfl) ?_
   refine rS (FA 0 rfl fo34_0 rfl) ?_
   refine rS (L1 (Value.int .i64 h.Lo) 2 rfl tk3 rfl rfl) ?_
   refine rS (MN rfl) ?_
   refine rS (FA 1 rfl fo34_1 rfl) ?_
   refine rS (L1 (Value.int .i64 q.2.Hi) 1 rfl tk3 rfl rfl) ?_
   refine rS (FA 1 rfl fo34_1 rfl) ?_
   refine rS (L1 (Value.int .i64 h.Hi) 2 rfl tk3 rfl rfl) ?_
   refine rS (MX rfl) ?_
   refine rS (SX (sd_build (xs := [(0, .tmp 40), (1, .tmp 45)]) (cs := (SpanV.cells (SpanV.mk (min q.2.Lo h.Lo) (max q.2.Hi h.Hi)))) rfl rfl (built_of tb34 rfl)) rfl rfl) ?_
   refine SW1 rfl ts34 rfl ?_
   refine RK hK45 ?_
   refine w_region ?_
   refine rS (LW 1 rfl tk34 rfl rfl) ?_
   refine SW2 rfl ts34 rfl ?_
   refine r_nil ?_
   refine k_block ?_
   exact hQr42 (SpanV.mk (min q.2.Lo h.Lo) (max q.2.Hi h.Hi)) _ _ (by refine ⟨hull_next hr0 (pass_le hq) ?_, fun z hz => ?_⟩; (first | exact if_neg h35 | exact if_pos h35); (rcases List.mem_append.1 hz with hz | hz; exact hr1 z hz; (rw [List.mem_singleton.1 hz]; exact hq))) (fun w hs => St.sel [0, 2, 3, 4, 5, 6, 7, 8, 9, 10, 11, 12] rfl rfl hs)
 rintro r47 k h hfin hin48
 obtain ⟨hr0, hr1⟩ := hin48
 try dsimp only
 refine k_block ?_
 refine KK hK35 ?_
 refine w_seq fun _ hK49 => ?_
 refine WS fun _ hK50 => ?_
 refine rS (LW 11 rfl tk34 rfl rfl) ?_
 refine rS (LW 12 rfl tk34 rfl rfl) ?_
 refine rS (BI rfl (eqs34 _ _ h (SpanV.mk 1 0))) ?_
 refine RK hK50 ?_
 refine w_if rfl (fun h50 => ?_) (fun h50 => ?_)
 rotate_left 1
 · replace h50 := DF h50
   refine WK hK49 ?_
   refine WS fun _ hK52 => ?_
   refine rS (LW 11 rfl tk34 rfl rfl) ?_
   refine r_store (vs := (SpanV.cells h)) (cs' := (SpanV.cells h)) (C' := [_, _, _, _, _, _, _, _, _, _, _, _, _, (blk b5 34 (SpanV.cells h)), _, _, _, _, _, _, _, _]) 13 rfl rfl rfl ts34 rfl rfl rfl rfl rfl rfl rfl ?_
   refine rS (AG rfl) ?_
   refine RK hK52 ?_
   refine w_ret ?_
   refine hQ _ _ _ (l_mark 0 rfl rfl <| l_nil (vs := [(Value.agg (SpanV.cells h).toArray), (Value.int .i64 0)]) ⟨⟨_, rfl, .inl ⟨_, _, tk34, at_blk (vs := (SpanV.cells h)) 13 rfl rfl, rfl, rfl⟩⟩, rfl, trivial⟩ fun w hs => endV ?_ hs)
   show (Value.tuple [(Value.agg (SpanV.cells h).toArray), (Value.int .i64 0)].toArray) = (Value.tuple [(Value.agg (SpanV.cells (passedV l r bq_)).toArray), (Value.int .i64 (passedE l r bq_))].toArray)
   clear hs w hQ hN hK52 hK50 hK49 hK36 hK35 hK33 hK31 hK30 hK29 hK6 hK1
   first | (have e := passed_bad (b := bq_) he; rw [e.1, e.2] <;> rfl) | (rw [hbq] at he ⊢; have hh : h = hullW l r b := hull_maps (hfw.min _ _ hm1) (hbw.max _ _ hm2) (hfw.keys _ _ hm1) (hbw.keys _ _ hm2) hr1 hfin hr0; first | (have e := passed_none he (hh.symm.trans h50); rw [e.1, e.2] <;> rfl) | (have e := passed_some he (fun q => h50 (hh.trans q)); rw [e.1, e.2, hh] <;> rfl))
 replace h50 := DT h50
 refine WS fun _ hK51 => ?_
 refine rS (SX (sd_build (xs := []) (cs := (SpanV.cells (SpanV.mk 0 0))) rfl rfl (built_of tb34 rfl)) rfl rfl) ?_
 refine r_store (vs := (SpanV.cells (SpanV.mk 0 0))) (cs' := (SpanV.cells (SpanV.mk 0 0))) (C' := [_, _, _, _, _, _, _, _, _, _, _, _, _, (blk b5 34 (SpanV.cells (SpanV.mk 0 0))), _, _, _, _, _, _, _, _]) 13 rfl rfl rfl ts34 rfl rfl rfl rfl rfl rfl rfl ?_
 refine rS (AG rfl) ?_
 refine RK hK51 ?_
 refine w_ret ?_
 refine hQ _ _ _ (l_mark 0 rfl rfl <| l_nil (vs := [(Value.agg (SpanV.cells (SpanV.mk 0 0)).toArray), (Value.int .i64 6)]) ⟨⟨_, rfl, .inl ⟨_, _, tk34, at_blk (vs := (SpanV.cells (SpanV.mk 0 0))) 13 rfl rfl, rfl, rfl⟩⟩, rfl, trivial⟩ fun w hs => endV ?_ hs)
 show (Value.tuple [(Value.agg (SpanV.cells (SpanV.mk 0 0)).toArray), (Value.int .i64 6)].toArray) = (Value.tuple [(Value.agg (SpanV.cells (passedV l r bq_)).toArray), (Value.int .i64 (passedE l r bq_))].toArray)
 clear hs w hQ hN hK51 hK50 hK49 hK36 hK35 hK33 hK31 hK30 hK29 hK6 hK1
 first | (have e := passed_bad (b := bq_) he; rw [e.1, e.2] <;> rfl) | (rw [hbq] at he ⊢; have hh : h = hullW l r b := hull_maps (hfw.min _ _ hm1) (hbw.max _ _ hm2) (hfw.keys _ _ hm1) (hbw.keys _ _ hm2) hr1 hfin hr0; first | (have e := passed_none he (hh.symm.trans h50); rw [e.1, e.2] <;> rfl) | (have e := passed_some he (fun q => h50 (hh.trans q)); rw [e.1, e.2, hh] <;> rfl))
set_option maxRecDepth 100000 in
set_option maxHeartbeats 400000 in
theorem Ran_c (l : LineM) (kA : Option Addr) (kC : Nat) (az : List RA) (cA : Option Addr) (cC : Nat) (bA : Option Addr) (bC : Nat) (r : RideM) (sgA : Option Addr) (sgC : Nat) (hin : LineIn l az) (hsl : r.Signals.length ≤ 1000000) :
    FnV Try.prog 34 [(Value.agg (LineV.cells (LineV.mk (TrackV.mk (Slc.mk kA l.Track.length kC)) l.Fast (Slc.mk cA l.Clocks.length cC) (Slc.mk bA l.Beams.length bC) l.Finish l.Fakes l.Misses)).toArray), (Value.agg (RideV.cells (RideV.mk r.Start r.Now (Slc.mk sgA r.Signals.length sgC))).toArray)] [(rd kA l.Track.length 9 (l.Track.map StretchV.cells)), (rd cA l.Clocks.length 2 (List.zipWith ClockM.cells l.Clocks az)), (bun (nest ClockM.rds l.Clocks az)), (rd bA l.Beams.length 4 (l.Beams.map BeamV.cells)), (rd sgA r.Signals.length 2 (r.Signals.map SignalV.cells))] (Value.tuple [(Value.agg (SpanV.cells (ranV l r)).toArray), (Value.int .i64 (passedE l r l.Finish))].toArray) := by
 have htk := hin.trk
 have hck := hin.cks
 have has := hin.as_
 have hbm := hin.bms
 have hsd := hin.side
 refine fnV_of go34 Try.func34 rfl rfl fun w0 Q hQ hN => ?_
 try dsimp only
 refine WS fun _ hK1 => ?_
 refine BXA rfl fun b2 => ?_
 refine BXA rfl fun b3 => ?_
 refine AL rfl tz34 fun b4 => ?_
 refine rS (AG rfl) ?_
 refine RK hK1 ?_
 refine WS fun _ hK5 => ?_
 refine rS (LW 2 rfl tk28 rfl rfl) ?_
 refine rS (LW 1 rfl tk69 rfl rfl) ?_
 refine rS (FA 4 rfl fo28_4 rfl) ?_
 refine rS (L1 (Value.int .i64 l.Finish) 2 rfl tk3 rfl rfl) ?_
 refine rS (CL (Passed_c l kA kC az cA cC bA bC r sgA sgC l.Finish hin hsl) (ha_at 3 rfl rfl <| ha_at 4 rfl rfl <| ha_at 5 rfl rfl <| ha_at 6 rfl rfl <| ha_at 7 rfl rfl <| ha_nil) rfl) ?_
 refine rS (MV rfl) ?_
 refine rS (EX rfl) ?_
 refine rS (EX rfl) ?_
 refine AL rfl tz34 fun b6 => ?_
 refine SW0 rfl ts34 rfl ?_
 refine rS (AG rfl) ?_
 refine RK hK5 ?_
 refine w_seq fun _ hK7 => ?_
 refine WS fun _ hK8 => ?_
 refine rS (MV rfl) ?_
 refine rS (BI rfl b_neq) ?_
 refine RK hK8 ?_
 refine w_if rfl (fun h17 => ?_) (fun h17 => ?_)
 · replace h17 := XT h17
   refine WS fun _ hK9 => ?_
   refine rS (SX (sd_build (xs := []) (cs := (SpanV.cells (SpanV.mk 0 0))) rfl rfl (built_of tb34 rfl)) rfl rfl) ?_
   refine rS (MV rfl) ?_
   refine SW1 rfl ts34 rfl ?_
   refine rS (AG rfl) ?_
   refine RK hK9 ?_
   refine w_ret ?_
   refine hQ _ _ _ (l_nil (vs := [(Value.agg (SpanV.cells (SpanV.mk 0 0)).toArray), (Value.int .i64 (passedE l r l.Finish))]) ⟨⟨_, rfl, .inl ⟨_, _, tk34, at_blk (vs := (SpanV.cells (SpanV.mk 0 0))) 1 rfl rfl, rfl, rfl⟩⟩, rfl, trivial⟩ fun w hs => endV ?_ hs)
   show (Value.tuple [(Value.agg (SpanV.cells (SpanV.mk 0 0)).toArray), (Value.int .i64 (passedE l r l.Finish))].toArray) = (Value.tuple [(Value.agg (SpanV.cells (ranV l r)).toArray), (Value.int .i64 (passedE l r l.Finish))].toArray)
   clear hs w hQ hN hK9 hK8 hK7 hK5 hK1
   first | (rw [ran_no h17] <;> rfl) | (rw [ran_ok h17, h17] <;> rfl)
 replace h17 := XF h17
 refine WK hK7 ?_
 refine WS fun _ hK10 => ?_
 refine rS (FA 0 rfl fo34_0 rfl) ?_
 refine rS (L1 (Value.int .i64 ((passedV l r l.Finish).Lo)) 0 rfl tk3 rfl rfl) ?_
 refine rS (FA 0 rfl fo69_0 rfl) ?_
 refine rS (L1 (Value.int .i64 r.Start) 2 rfl tk3 rfl rfl) ?_
 have hpb := passed_b h17
 have hpr := (passed_ride h17).time
 refine rS (BI rfl (b_sub ⟨by omega, by omega⟩)) ?_
 refine rS (FA 1 rfl fo34_1 rfl) ?_
 refine rS (L1 (Value.int .i64 ((passedV l r l.Finish).Hi)) 0 rfl tk3 rfl rfl) ?_
 refine rS (FA 0 rfl fo69_0 rfl) ?_
 refine rS (L1 (Value.int .i64 r.Start) 2 rfl tk3 rfl rfl) ?_
 refine rS (BI rfl (b_sub ⟨by omega, by omega⟩)) ?_
 refine rS (SX (sd_build (xs := [(0, .tmp 24), (1, .tmp 29)]) (cs := (SpanV.cells (SpanV.mk (((passedV l r l.Finish).Lo) - r.Start) (((passedV l r l.Finish).Hi) - r.Start)))) rfl rfl (built_of tb34 rfl)) rfl rfl) ?_
 refine SW1 rfl ts34 rfl ?_
 refine rS (AG rfl) ?_
 refine RK hK10 ?_
 refine w_ret ?_
 refine hQ _ _ _ (l_nil (vs := [(Value.agg (SpanV.cells (SpanV.mk (((passedV l r l.Finish).Lo) - r.Start) (((passedV l r l.Finish).Hi) - r.Start))).toArray), (Value.int .i64 0)]) ⟨⟨_, rfl, .inl ⟨_, _, tk34, at_blk (vs := (SpanV.cells (SpanV.mk (((passedV l r l.Finish).Lo) - r.Start) (((passedV l r l.Finish).Hi) - r.Start)))) 1 rfl rfl, rfl, rfl⟩⟩, rfl, trivial⟩ fun w hs => endV ?_ hs)
 show (Value.tuple [(Value.agg (SpanV.cells (SpanV.mk (((passedV l r l.Finish).Lo) - r.Start) (((passedV l r l.Finish).Hi) - r.Start))).toArray), (Value.int .i64 0)].toArray) = (Value.tuple [(Value.agg (SpanV.cells (ranV l r)).toArray), (Value.int .i64 (passedE l r l.Finish))].toArray)
 clear hs w hQ hN hK10 hK8 hK7 hK5 hK1
 first | (rw [ran_no h17] <;> rfl) | (rw [ran_ok h17, h17] <;> rfl)
end
section
open Go.RowKit
set_option linter.unusedVariables false
section
variable {K : Type} [DecidableEq K] {kV : K → Value}
variable {E : Env} {ops : Array Oper} {Q : Post} {rest : List Oper} {D : List Deferred} {L : List (Nat × Value)} {C : List Assn}
variable {ty : TypeId} {ps : String} {af : Array Edge} {g : Option (Nat × Bool)}
theorem gr_mapdel0 {t kt et : TypeId} {xm xk : Operand} {ts : Array TypeId} {b : Nat} {x : K} {m m' : List (K × Value)} {C' : List Assn} (i : Nat) (hg : gOn ops L g = true) (hm : ev L xm = some (.map (some b))) (hk : ev L xk = some (kV x)) (hts : ts[0]? = some t)
    (ht : E.P.underlying t = some (.map kt et)) (hkt : GKey E.P kt kV) (hC : C[i]? = some (gmp kV b m)) (hm' : gdelK m x = m') (hC' : C.set i (gmp kV b m') = C') (k : RJ E ops Q rest D L C') :
    RJ E ops Q (⟨none, .call { callee := .builtin .delete, args := #[xm, xk], argTypes := ts }, ty, ps, af, g⟩ :: rest) D L C := by
  subst hm' hC'
  intro a w hfr hs
  unfold wpL
  rw [if_pos (gOn_wanted hfr hg)]
  obtain ⟨es, c, he, hi⟩ := hs.holds _ (List.mem_of_getElem? hC)
  have hget : (getObj b).run E.P w = .ok (.map es c) w := MapKept.run_getObj_map he
  rcases grun_find (P := E.P) (w := w) (x := x) hkt hi with ⟨h1, h2⟩ | ⟨j, v0, h1, h2, h3⟩
  · refine wp_value (v := .tuple #[]) (w' := { w with heap := w.heap.setIfInBounds b (.map es c) }) (by simp) ?_ ?_
    · simp [execOp, resolve, invoke, builtin, hfr.ev hm, hfr.ev hk, Builtin.delete_, hts, run_underlying ht, hget, grun_check hkt, h1, MapKept.run_setObj_map _ he]
    · refine k _ _ ⟨hfr.defers, hfr.size, hfr.at_⟩ (hs.upd (b := b) i hC rfl rfl (keeps_set _) (fun _ h => h) ⟨_, _, heap_set he, ?_⟩)
      rw [gdelK_self h2]; exact hi
  · refine wp_value (v := .tuple #[]) (w' := { w with heap := w.heap.setIfInBounds b (.map (es.eraseIdxIfInBounds j) c) }) (by simp) ?_ ?_
    · simp [execOp, resolve, invoke, builtin, hfr.ev hm, hfr.ev hk, Builtin.delete_, hts, run_underlying ht, hget, grun_check hkt, h1, MapKept.run_setObj_map _ he]
    · exact k _ _ ⟨hfr.defers, hfr.size, hfr.at_⟩ (hs.upd (b := b) i hC rfl rfl (keeps_set _) (fun _ h => h) ⟨_, _, heap_set he, hi.del h2⟩)
end
end
section
open Go.RowKit
set_option linter.unusedVariables false
set_option maxRecDepth 100000 in
set_option maxHeartbeats 400000 in
theorem isnan_c (x : Int) :
    FnV Try.prog 131 [(Value.int .i64 x)] [] (Value.bool false) := by
 refine fnV_of go131 Try.func131 rfl rfl fun w0 Q hQ hN => ?_
 try dsimp only
 refine WS fun _ hK1 => ?_
 refine rS (AG rfl) ?_
 refine RK hK1 ?_
 refine WS fun _ hK2 => ?_
 refine rS (MV rfl) ?_
 refine rS (MV rfl) ?_
 refine rS (BI rfl b_neq) ?_
 refine rS (AG rfl) ?_
 refine RK hK2 ?_
 refine w_ret ?_
 refine Q1 hQ rfl rfl rfl ?_
 simp
set_option maxRecDepth 100000 in
set_option maxHeartbeats 400000 in
theorem cless_c (x : Int) (y : Int) :
    FnV Try.prog 119 [(Value.int .i64 x), (Value.int .i64 y)] [] (Value.bool (decide (x < y))) := by
 refine fnV_of go119 Try.func119 rfl rfl fun w0 Q hQ hN => ?_
 try dsimp only
 refine WS fun _ hK1 => ?_
 refine rS (AG rfl) ?_
 refine RK hK1 ?_
 refine WS fun _ hK2 => ?_
 refine rS (MV rfl) ?_
 refine rS (CL (isnan_c x) (ha_nil) rfl) ?_
 refine rS (MV rfl) ?_
 refine rS (OX rfl) ?_
 refine rS (OX rfl) ?_
 refine rS (OX rfl) ?_
 refine rS (PK rfl) ?_
 refine rS (MV rfl) ?_
 refine rS (MV rfl) ?_
 refine rS (MV rfl) ?_
 refine rS (BI rfl b_lss) ?_
 refine rS (PK rfl) ?_
 refine rS (AG rfl) ?_
 refine RK hK2 ?_
 refine w_ret ?_
 refine Q1 hQ rfl rfl rfl ?_
 exact congrArg Value.bool (decide_eq_decide.2 (by omega))
set_option maxRecDepth 100000 in
set_option maxHeartbeats 400000 in
theorem inssort_c (l : List Int) (lA : Option Addr) (lC : Nat) (hlen : l.length ≤ 1000000) :
    FnM Try.prog 113 [(Value.slice lA l.length lC), (Value.int .i64 0), (Value.int .i64 ((l.length : Nat) : Int))] [] (own lA lC 3 1 (l.map iC)) (fun (x : (List Int)) => (Value.tuple [].toArray)) (fun (x : (List Int)) => x.Perm l ∧ x.Pairwise (· ≤ ·)) (fun (x : (List Int)) => (own lA lC 3 1 (x.map iC))) := by
 refine fnM_of go113 Try.func113 rfl rfl fun w0 Q hQ hN => ?_
 try dsimp only
 refine WS fun _ hK1 => ?_
 refine rS (MV rfl) ?_
 refine rS (SX (sd_bin (r := .int .i64 1) rfl rfl rfl (b_add ⟨by decide, by decide⟩)) rfl rfl) ?_
 refine rS (AG rfl) ?_
 refine RK hK1 ?_
 refine w_block ?_
 have hinit : (1 ≤ 1 ∧ (1 ≤ l.length ∨ 1 = 1)) ∧ (l.length = l.length) ∧ (l.Perm l) ∧ (Srt l 1) := by exact ⟨by omega, rfl, List.Perm.refl _, srt_one⟩
 refine w_loop (ι := { z : Nat × (List Int) // (1 ≤ z.1 ∧ (z.1 ≤ l.length ∨ z.1 = 1)) ∧ (z.2.length = l.length) ∧ (z.2.Perm l) ∧ (Srt z.2 z.1) }) (fun z => [(0, (Value.slice lA l.length lC)), (1, (Value.int .i64 0)), (2, (Value.int .i64 ((l.length : Nat) : Int))), (6, (Value.int .i64 (z.1.1 : Int)))]) (fun z => [(own lA lC 3 1 (z.1.2.map iC))]) (fun z => l.length - z.1.1) ⟨(1, l), hinit⟩ (Sub.cons rfl <| Sub.cons rfl <| Sub.cons rfl <| Sub.cons rfl <| Sub.nil _) (fun w hs => St.sel [0] rfl rfl hs) ?_
 clear hinit
 rintro ⟨⟨i, m⟩, ⟨hl1_0, hl1_1, hl1_2, hl1_3⟩⟩ J2 hJ2
 try dsimp only at hl1_0 hl1_1 hl1_2 hl1_3
 try dsimp only
 refine w_seq fun _ hK3 => ?_
 refine WS fun _ hK4 => ?_
 refine rS (MV rfl) ?_
 refine rS (MV rfl) ?_
 refine rS (BI rfl b_lss) ?_
 refine RK hK4 ?_
 refine w_if rfl (fun h5 => ?_) (fun h5 => ?_)
 rotate_left 1
 · replace h5 := DF h5
   refine w_exit ?_
   refine k_exit_then ?_
   refine k_exit_then ?_
   refine k_exit_same ?_
   refine hN _ _ _ (l_nil (vs := []) trivial fun w hs => endM m 0 ?_ ?_ rfl rfl hs)
   · clear hs w hQ hN hK4 hK3 hK1; rfl
   · clear hs w hQ hN hK4 hK3 hK1; exact ⟨hl1_2, srt_all hl1_3 (by omega)⟩
 replace h5 := DT h5
 refine WK hK3 ?_
 refine w_seq fun _ hK6 => ?_
 refine w_block ?_
 refine WS fun _ hK7 => ?_
 refine rS (MV rfl) ?_
 refine rS (AG rfl) ?_
 refine RK hK7 ?_
 refine w_block ?_
 have hinit : (i ≤ i) ∧ (m.length = l.length) ∧ (m.Perm l) ∧ (Ins m i i) := by exact ⟨Nat.le_refl _, hl1_1, hl1_2, ins_start hl1_3 (by omega)⟩
 refine w_loop (ι := { z : Nat × (List Int) // (z.1 ≤ i) ∧ (z.2.length = l.length) ∧ (z.2.Perm l) ∧ (Ins z.2 i z.1) }) (fun z => [(0, (Value.slice lA l.length lC)), (1, (Value.int .i64 0)), (2, (Value.int .i64 ((l.length : Nat) : Int))), (6, (Value.int .i64 (i : Int))), (7, (Value.int .i64 ((z.1.1 : Nat) : Int)))]) (fun z => [(own lA lC 3 1 (z.1.2.map iC))]) (fun z => z.1.1) ⟨(i, m), hinit⟩ (Sub.cons rfl <| Sub.cons rfl <| Sub.cons rfl <| Sub.cons rfl <| Sub.cons rfl <| Sub.nil _) (fun w hs => St.sel [0] rfl rfl hs) ?_
 clear hinit
 rintro ⟨⟨j, q⟩, ⟨hl4_0, hl4_1, hl4_2, hl4_3⟩⟩ J8 hJ8
 try dsimp only at hl4_0 hl4_1 hl4_2 hl4_3
 try dsimp only
 refine w_seq fun _ hK9 => ?_
 refine w_seq fun _ hK10 => ?_
 refine w_draw mixed 15 (by kernel_rfl) ?_
 refine dS (MV rfl) ?_
 refine dS (MV rfl) ?_
 refine dS (BI rfl b_gtr) ?_
 refine dS (MV rfl) ?_
 refine d_bool (t := 19) rfl (fun hj => ?_) (fun hj => ?_)
 rotate_left 1
 · replace hj := DF hj
   refine dS (OX rfl) ?_
   refine dS (OX rfl) ?_
   refine dS (OX rfl) ?_
   refine dS (OX rfl) ?_
   refine dS (OX rfl) ?_
   refine dS (OX rfl) ?_
   refine dS (OX rfl) ?_
   refine dS (OX rfl) ?_
   refine dS (OX rfl) ?_
   refine dS (OX rfl) ?_
   refine dS (PK rfl) ?_
   refine d_end ?_
   refine RK hK10 ?_
   refine w_if_false rfl ?_
   refine w_exit ?_
   refine k_exit_then ?_
   refine k_exit_then ?_
   refine k_exit_same ?_
   refine k_block ?_
   refine KK hK6 ?_
   refine w_region ?_
   refine rS (MV rfl) ?_
   refine rS (BI rfl (b_add ⟨by omega, by omega⟩)) ?_
   refine rS (AG rfl) ?_
   refine r_nil ?_
   refine k_then (hJ2 ⟨((i + 1), q), ⟨by omega, hl4_1, hl4_2, by first | exact ins_zero (by omega) hl4_3 | exact ins_stop hx hy (by omega) hl4_0 hless hl4_3⟩⟩ _ _ _ rfl (by simp only []; omega) (Sub.cons rfl <| Sub.cons rfl <| Sub.cons rfl <| Sub.cons rfl <| Sub.nil _) (fun w hs => St.sel [0] rfl rfl hs))
 replace hj := DT hj
 refine dS (MV rfl) ?_
 refine dS (MV rfl) ?_
 obtain ⟨x, hx⟩ : ∃ y_, q[j]? = some y_ := ⟨q[j]'(by omega), List.getElem?_eq_getElem _⟩
 have hxm : (q.map iC)[j]? = some (iC x) := by rw [List.getElem?_map, hx]; rfl
 refine dS (IA j rfl (has_own_n (n := l.length) 0 rfl (by first | (simp; done) | (simp; omega))) te57 (by decide) (by omega) (by omega)) ?_
 refine dS (LE1 j 0 (Value.int .i64 x) rfl tk3 (has_own_n (n := q.length) 0 rfl (by simp)) hxm rfl (by decide) rfl) ?_
 refine dS (MV rfl) ?_
 refine dS (MV rfl) ?_
 refine dS (BI rfl (b_sub ⟨by omega, by omega⟩)) ?_
 obtain ⟨y, hy⟩ : ∃ y_, q[(j - 1)]? = some y_ := ⟨q[(j - 1)]'(by omega), List.getElem?_eq_getElem _⟩
 have hym : (q.map iC)[(j - 1)]? = some (iC y) := by rw [List.getElem?_map, hy]; rfl
 refine dS (IA (j - 1) rfl (has_own_n (n := l.length) 0 rfl (by first | (simp; done) | (simp; omega))) te57 (by decide) (by omega) (by omega)) ?_
 refine dS (LE1 (j - 1) 0 (Value.int .i64 y) rfl tk3 (has_own_n (n := q.length) 0 rfl (by simp)) hym rfl (by decide) rfl) ?_
 refine dS (CL (cless_c x y) (ha_nil) rfl) ?_
 refine dS (PK rfl) ?_
 refine d_end ?_
 refine RK hK10 ?_
 refine w_if rfl (fun hless => ?_) (fun hless => ?_)
 rotate_left 1
 · replace hless := DF hless
   refine w_exit ?_
   refine k_exit_then ?_
   refine k_exit_then ?_
   refine k_exit_same ?_
   refine k_block ?_
   refine KK hK6 ?_
   refine w_region ?_
   refine rS (MV rfl) ?_
   refine rS (BI rfl (b_add ⟨by omega, by omega⟩)) ?_
   refine rS (AG rfl) ?_
   refine r_nil ?_
   refine k_then (hJ2 ⟨((i + 1), q), ⟨by omega, hl4_1, hl4_2, by first | exact ins_zero (by omega) hl4_3 | exact ins_stop hx hy (by omega) hl4_0 hless hl4_3⟩⟩ _ _ _ rfl (by simp only []; omega) (Sub.cons rfl <| Sub.cons rfl <| Sub.cons rfl <| Sub.cons rfl <| Sub.nil _) (fun w hs => St.sel [0] rfl rfl hs))
 replace hless := DT hless
 refine WK hK9 ?_
 refine w_seq fun _ hK11 => ?_
 refine w_block ?_
 refine w_draw4 mixed [0, 1, 2, 3, 4, 5, 6, 7, 8, 9, 10, 11, 12, 13, 14] [15, 16, 17] [false, false, false, false, false, false, false, false, true, true, false, false, true, true, true] [false, false, false] [] [(own lA lC 3 1 (q.map iC))] (by kernel_rfl) (fun w hs => St.sel [] rfl rfl hs) (fun w hs => St.sel [0] rfl rfl hs) ?_
 refine eS rfl (MV rfl) ?_
 refine eS rfl (MV rfl) ?_
 refine eS rfl (MV rfl) ?_
 refine eS rfl (MV rfl) ?_
 refine eS rfl (BI rfl (b_sub ⟨by omega, by omega⟩)) ?_
 refine eS rfl (MV rfl) ?_
 refine eS rfl (MV rfl) ?_
 refine eS rfl (BI rfl (b_sub ⟨by omega, by omega⟩)) ?_
 refine fS rfl (IA (j - 1) rfl (has_own_n (n := l.length) 0 rfl (by first | (simp; done) | (simp; omega))) te57 (by decide) (by omega) (by omega)) ?_
 refine fS rfl (LE1 (j - 1) 0 (Value.int .i64 y) rfl tk3 (has_own_n (n := q.length) 0 rfl (by simp)) hym rfl (by decide) rfl) ?_
 refine eS rfl (MV rfl) ?_
 refine eS rfl (MV rfl) ?_
 refine fS rfl (IA j rfl (has_own_n (n := l.length) 0 rfl (by first | (simp; done) | (simp; omega))) te57 (by decide) (by omega) (by omega)) ?_
 refine fS rfl (LE1 j 0 (Value.int .i64 x) rfl tk3 (has_own_n (n := q.length) 0 rfl (by simp)) hxm rfl (by decide) rfl) ?_
 refine fS rfl (IA j rfl (has_own_n (n := l.length) 0 rfl (by first | (simp; done) | (simp; omega))) te57 (by decide) (by omega) (by omega)) ?_
 refine d_fin rfl ?_
 refine t_cons rfl fun T12 hT12 => ?_
 refine r_store_own (k := j) (o := 0) (vs := [(Value.int .i64 y)]) (es' := (List.map iC (q.set j y))) (C' := [(own lA lC 3 1 (List.map iC (q.set j y)))]) 0 rfl rfl rfl ts3 rfl rfl rfl rfl hxm rfl (by decide) (by exact (List.map_set (f := iC) (l := q) (i := j) (a := y)).symm) rfl ?_
 refine r_nil (hT12 _ _ (fun w hs => St.sel [] rfl rfl hs) ?_)
 refine t_cons rfl fun T13 hT13 => ?_
 obtain ⟨x14, hx15⟩ : ∃ y_, (q.set j y)[(j - 1)]? = some y_ := ⟨(q.set j y)[(j - 1)]'(by first | omega | (simp; omega)), List.getElem?_eq_getElem _⟩
 have hx15m : (List.map iC (q.set j y))[(j - 1)]? = some (iC x14) := by rw [List.getElem?_map, hx15]; rfl
 refine rS (IA (j - 1) rfl (has_own_n (n := l.length) 0 rfl (by first | (simp; done) | (simp; omega))) te57 (by decide) (by omega) (by omega)) ?_
 refine r_nil (hT13 _ _ (fun w hs => St.sel [] rfl rfl hs) ?_)
 refine t_cons rfl fun T16 hT16 => ?_
 refine r_store_own (k := (j - 1)) (o := 0) (vs := [(Value.int .i64 x)]) (es' := (List.map iC ((q.set j y).set (j - 1) x))) (C' := [(own lA lC 3 1 (List.map iC ((q.set j y).set (j - 1) x)))]) 0 rfl rfl rfl ts3 rfl rfl rfl rfl hx15m rfl (by decide) (by exact (List.map_set (f := iC) (l := (q.set j y)) (i := (j - 1)) (a := x)).symm) rfl ?_
 refine r_nil (hT16 _ _ (fun w hs => St.sel [] rfl rfl hs) ?_)
 refine t_fin rfl ?_
 refine k_block ?_
 refine KK hK11 ?_
 refine w_region ?_
 refine rS (MV rfl) ?_
 refine rS (BI rfl (b_sub ⟨by omega, by omega⟩)) ?_
 refine rS (AG rfl) ?_
 refine r_nil ?_
 have hb17 : (Value.int .i64 (((j - 1) : Nat) : Int)) = (Value.int .i64 (((j : Nat) : Int) - 1)) := by exact congrArg (Value.int .i64) (by omega)
 refine k_then (hJ8 ⟨((j - 1), ((q.set j y).set (j - 1) x)), ⟨by omega, by simp; exact hl4_1, (swap_perm hx hy).trans hl4_2, ins_step hx hy (by omega) hl4_0 hless hl4_3⟩⟩ _ _ _ rfl (by simp only []; omega) (Sub.cons rfl <| Sub.cons rfl <| Sub.cons rfl <| Sub.cons rfl <| sub_val rfl hb17 <| Sub.nil _) (fun w hs => St.sel [0] rfl rfl hs))
set_option maxRecDepth 100000 in
set_option maxHeartbeats 400000 in
theorem len64_c (x : Int) (hx : 0 ≤ x ∧ x ≤ 100) :
    FnX Try.prog 123 [(Value.int .u64 x)] [] (fun (x : Int) => (Value.int .i64 x)) (fun (x : Int) => True) (fun (x : Int) => []) := by
 refine fnX_of go123 Try.func123 rfl rfl fun w0 Q hQ hN => ?_
 try dsimp only
 refine WS fun _ hK1 => ?_
 refine rS (AG rfl) ?_
 refine RK hK1 ?_
 refine w_seq fun _ hK2 => ?_
 refine WS fun _ hK3 => ?_
 refine rS (MV rfl) ?_
 refine rS (BI rfl b_geq) ?_
 refine RK hK3 ?_
 refine w_if rfl (fun h4 => ?_) (fun h4 => ?_)
 · replace h4 := DT h4
   exfalso; omega
 replace h4 := DF h4
 refine WK hK2 ?_
 refine w_seq fun _ hK5 => ?_
 refine WS fun _ hK6 => ?_
 refine rS (MV rfl) ?_
 refine rS (BI rfl b_geq) ?_
 refine RK hK6 ?_
 refine w_if rfl (fun h7 => ?_) (fun h7 => ?_)
 · replace h7 := DT h7
   exfalso; omega
 replace h7 := DF h7
 refine WK hK5 ?_
 refine w_seq fun _ hK8 => ?_
 refine WS fun _ hK9 => ?_
 refine rS (MV rfl) ?_
 refine rS (BI rfl b_geq) ?_
 refine RK hK9 ?_
 refine w_if rfl (fun h10 => ?_) (fun h10 => ?_)
 · replace h10 := DT h10
   exfalso; omega
 replace h10 := DF h10
 refine WK hK8 ?_
 refine WS fun _ hK11 => ?_
 refine rS (MV rfl) ?_
 refine rS (MV rfl) ?_
 refine rS (SX (sd_conv (m := x) rfl rfl ut177 ut5 (wrap_u64_u8 (by first | assumption | omega))) rfl rfl) ?_
 refine r_sidx (k := (x).toNat) rfl rfl rfl ut9 (by omega) (Nat.lt_of_lt_of_le (m := 200) (by omega) (of_decide_eq_true (by kernel_rfl))) rfl fun b12 hb13 => ?_
 refine rS (SX (sd_conv (m := b12) rfl rfl ut5 ut3 (wrap_u8_i64 (by first | assumption | omega))) rfl rfl) ?_
 refine rS (BI rfl (b_add ⟨by omega, by omega⟩)) ?_
 refine rS (AG rfl) ?_
 refine RK hK11 ?_
 refine w_ret ?_
 refine hQ _ _ _ (l_nil (vs := [(Value.int .i64 (0 + b12))]) ⟨rfl, trivial⟩ fun w hs => endX (0 + b12) [] ?_ ?_ rfl rfl rfl hs)
 · rfl
 · trivial
set_option maxRecDepth 100000 in
set_option maxHeartbeats 400000 in
theorem blen_c (x : Int) (hx : 0 ≤ x ∧ x ≤ 100) :
    FnX Try.prog 104 [(Value.int .u64 x)] [] (fun (x : Int) => (Value.int .i64 x)) (fun (x : Int) => True) (fun (x : Int) => []) := by
 refine fnX_of go104 Try.func104 rfl rfl fun w0 Q hQ hN => ?_
 try dsimp only
 refine WS fun _ hK1 => ?_
 refine rS (AG rfl) ?_
 refine RK hK1 ?_
 refine w_seq fun _ hK2 => ?_
 refine w_if_false rfl ?_
 refine WK hK2 ?_
 refine WS fun _ hK3 => ?_
 refine rS (MV rfl) ?_
 refine cX (len64_c x hx) (ha_nil) rfl fun n6 hy5 => ?_
 try dsimp only
 refine rS (AG rfl) ?_
 refine RK hK3 ?_
 refine w_ret ?_
 refine hQ _ _ _ (l_nil (vs := [(Value.int .i64 n6)]) ⟨rfl, trivial⟩ fun w hs => endX n6 [] ?_ ?_ rfl rfl rfl hs)
 · rfl
 · trivial
set_option maxRecDepth 100000 in
set_option maxHeartbeats 400000 in
theorem pdq_c (l : List Int) (lA : Option Addr) (lC : Nat) (u : Int) (hlen : l.length ≤ 12) :
    FnM Try.prog 103 [(Value.slice lA l.length lC), (Value.int .i64 0), (Value.int .i64 ((l.length : Nat) : Int)), (Value.int .i64 u)] [] (own lA lC 3 1 (l.map iC)) (fun (x : (List Int)) => (Value.tuple [].toArray)) (fun (x : (List Int)) => x.Perm l ∧ x.Pairwise (· ≤ ·)) (fun (x : (List Int)) => (own lA lC 3 1 (x.map iC))) := by
 refine fnM_of go103 Try.func103 rfl rfl fun w0 Q hQ hN => ?_
 try dsimp only
 refine WS fun _ hK1 => ?_
 refine rS (AG rfl) ?_
 refine RK hK1 ?_
 refine WS fun _ hK2 => ?_
 refine rS (AG rfl) ?_
 refine RK hK2 ?_
 refine w_block ?_
 refine w_rounds 1 ?_
 refine ro_succ fun R3 hR3 => ?_
 refine w_block ?_
 refine WS fun _ hK4 => ?_
 refine rS (MV rfl) ?_
 refine rS (MV rfl) ?_
 refine rS (BI rfl (b_sub ⟨by omega, by omega⟩)) ?_
 refine rS (AG rfl) ?_
 refine RK hK4 ?_
 refine w_seq fun _ hK5 => ?_
 refine WS fun _ hK6 => ?_
 refine rS (MV rfl) ?_
 refine rS (BI rfl b_leq) ?_
 refine RK hK6 ?_
 refine w_if rfl (fun h7 => ?_) (fun h7 => ?_)
 rotate_left 1
 · replace h7 := DF h7
   exfalso; omega
 replace h7 := DT h7
 refine WS fun _ hK8 => ?_
 refine rS (MV rfl) ?_
 refine rS (MV rfl) ?_
 refine rS (MV rfl) ?_
 refine r_callm 0 rfl rfl rfl rfl (inssort_c l lA lC (by first | assumption | omega | (simp; done) | (simp; omega))) rfl cv_nil rfl (fun m9 hy11 => ?_)
 try dsimp only
 refine RK hK8 ?_
 refine w_ret ?_
 refine hQ _ _ _ (l_nil (vs := []) trivial fun w hs => endM m9 0 ?_ ?_ rfl rfl hs)
 · clear hs w hQ hN hK8 hK6 hK5 hK4 hK2 hK1; rfl
 · clear hs w hQ hN hK8 hK6 hK5 hK4 hK2 hK1; assumption
set_option maxRecDepth 100000 in
set_option maxHeartbeats 400000 in
theorem sort_c (l : List Int) (lA : Option Addr) (lC : Nat) (hlen : l.length ≤ 12) :
    FnM Try.prog 72 [(Value.slice lA l.length lC)] [] (own lA lC 3 1 (l.map iC)) (fun (x : (List Int)) => (Value.tuple [].toArray)) (fun (x : (List Int)) => x.Perm l ∧ x.Pairwise (· ≤ ·)) (fun (x : (List Int)) => (own lA lC 3 1 (x.map iC))) := by
 refine fnM_of go72 Try.func72 rfl rfl fun w0 Q hQ hN => ?_
 try dsimp only
 refine WS fun _ hK1 => ?_
 refine rS (MV rfl) ?_
 refine rS (LN rfl ut57) ?_
 refine rS (AG rfl) ?_
 refine RK hK1 ?_
 refine w_region ?_
 refine rS (MV rfl) ?_
 refine rS (MV rfl) ?_
 refine rS (MV rfl) ?_
 refine rS (SX (sd_conv (m := ((l.length : Nat) : Int)) rfl rfl ut3 ut159 (wrap_i64_u64 (by first | assumption | omega))) rfl rfl) ?_
 refine cX (blen_c ((l.length : Nat) : Int) (by first | assumption | omega | (simp; done) | (simp; omega))) (ha_nil) rfl fun n4 hy3 => ?_
 try dsimp only
 refine r_callm 0 rfl rfl rfl rfl (pdq_c l lA lC n4 hlen) rfl cv_nil rfl (fun m5 hy7 => ?_)
 try dsimp only
 refine r_nil ?_
 refine hN _ _ _ (l_nil (vs := []) trivial fun w hs => endM m5 0 ?_ ?_ rfl rfl hs)
 · clear hs w hQ hN hK1; rfl
 · clear hs w hQ hN hK1; assumption
end
section
open Go.RowKit
set_option linter.unusedVariables false
set_option maxRecDepth 100000 in
set_option maxHeartbeats 400000 in
theorem False_c (l : LineM) (kA : Option Addr) (kC : Nat) (az : List RA) (cA : Option Addr) (cC : Nat) (bA : Option Addr) (bC : Nat) (r : RideM) (sgA : Option Addr) (sgC : Nat) (hin : LineIn l az) (hsl : r.Signals.length ≤ 1000000) :
    FnX Try.prog 40 [(Value.agg (LineV.cells (LineV.mk (TrackV.mk (Slc.mk kA l.Track.length kC)) l.Fast (Slc.mk cA l.Clocks.length cC) (Slc.mk bA l.Beams.length bC) l.Finish l.Fakes l.Misses)).toArray), (Value.agg (RideV.cells (RideV.mk r.Start r.Now (Slc.mk sgA r.Signals.length sgC))).toArray)] [(rd kA l.Track.length 9 (l.Track.map StretchV.cells)), (rd cA l.Clocks.length 2 (List.zipWith ClockM.cells l.Clocks az)), (bun (nest ClockM.rds l.Clocks az)), (rd bA l.Beams.length 4 (l.Beams.map BeamV.cells)), (rd sgA r.Signals.length 2 (r.Signals.map SignalV.cells))] (fun (x : (Option Addr) × Nat) => (Value.tuple [(Value.slice x.1 ((falseV l r).length) x.2), (Value.int .i64 (openE l r 0))].toArray)) (fun (x : (Option Addr) × Nat) => True) (fun (x : (Option Addr) × Nat) => [(own x.1 x.2 3 1 ((falseV l r).map iC))]) := by
 have htk := hin.trk
 have hck := hin.cks
 have has := hin.as_
 have hbm := hin.bms
 have hsd := hin.side
 refine fnX_of go40 Try.func40 rfl rfl fun w0 Q hQ hN => ?_
 try dsimp only
 refine WS fun _ hK1 => ?_
 refine BXA rfl fun b2 => ?_
 refine BXA rfl fun b3 => ?_
 refine rS (AG rfl) ?_
 refine rS (AG rfl) ?_
 refine RK hK1 ?_
 refine WS fun _ hK4 => ?_
 refine rS (LW 1 rfl tk28 rfl rfl) ?_
 refine rS (LW 0 rfl tk69 rfl rfl) ?_
 refine cX (open0_c l kA kC az cA cC bA bC r sgA sgC hin hsl) (ha_at 2 rfl rfl <| ha_at 3 rfl rfl <| ha_at 4 rfl rfl <| ha_at 5 rfl rfl <| ha_at 6 rfl rfl <| ha_nil) rfl fun y5 hy6 => ?_
 obtain ⟨ok22, ec7, gw8, eA9, eC10, tA11, tC12, tb13, fs14, fb15, fA16, fC17, bs18, bb19, qA20, qC21⟩ := y5
 cases ok22
 · obtain ⟨hec, he⟩ := hy6.2 rfl
   try dsimp only at hec he
   subst hec
   try dsimp only [cond_true, cond_false, List.cons_append, List.nil_append]
   refine rS (MV rfl) ?_
   refine rS (EX rfl) ?_
   refine rS (EX rfl) ?_
   refine rS (AG rfl) ?_
   refine rS (AG rfl) ?_
   refine RK hK4 ?_
   refine w_seq fun _ hK23 => ?_
   refine WS fun _ hK24 => ?_
   refine rS (MV rfl) ?_
   refine rS (BI rfl b_neq) ?_
   refine RK hK24 ?_
   refine w_if rfl (fun h21 => ?_) (fun h21 => ?_)
   rotate_left 1
   · replace h21 := XF h21
     exact absurd h21 he
   replace h21 := XT h21
   refine WS fun _ hK25 => ?_
   refine r_own_nil 3 1 ?_
   rw [show (own none 0 3 1 ([] : List (List Value))) = own none 0 3 1 ((falseV l r).map iC) from by rw [falseV_no he]; rfl]
   refine rS (MV rfl) ?_
   refine rS (AG rfl) ?_
   refine rS (AG rfl) ?_
   refine RK hK25 ?_
   refine w_ret ?_
   refine hQ _ _ _ (l_nil (vs := [(Value.slice none 0 0), (Value.int .i64 (openE l r 0))]) ⟨rfl, rfl, trivial⟩ fun w hs => endX (none, 0) [0] ?_ ?_ rfl rfl rfl hs)
   · first | (rw [falseV_no he]; rfl) | (rw [he, show (falseV l r).length = ys.length from by rw [← hsf]; exact hso.1.length_eq]; rfl)
   · trivial
 obtain ⟨he, hfw, hbw, hfl, hbl, htl⟩ := hy6.1 rfl
 try dsimp only [cond_true, cond_false, List.cons_append, List.nil_append]
 dsimp only at hfw hbw hfl hbl htl
 obtain ⟨h10, hro, hme, hnn⟩ := openE_zero he
 obtain ⟨htr, hok⟩ := lineE_zero h10
 have hhd := hok.head
 unfold HeadOk at hhd
 have hwo := watch_ok htr hok hro
 have hrt := hro.time
 have hrl := hro.len
 have hlel : (leasts l l.Beams.length).length = l.Beams.length := leasts_len
 have htll : (timesT l r.Signals r.Signals.length).length = l.Beams.length := timesT_len
 have hfn : fs14.length = l.Beams.length + 1 := by have := hfw.len; rw [show (watchL l r).n = l.Beams.length from leasts_len] at this; exact this
 have hbn : bs18.length = l.Beams.length + 1 := by have := hbw.len; rw [show (watchL l r).n = l.Beams.length from leasts_len] at this; exact this
 refine rS (MV rfl) ?_
 refine rS (EX rfl) ?_
 refine rS (EX rfl) ?_
 refine rS (AG rfl) ?_
 refine rS (AG rfl) ?_
 refine RK hK4 ?_
 refine w_seq fun _ hK26 => ?_
 refine WS fun _ hK27 => ?_
 refine rS (MV rfl) ?_
 refine rS (SX (sd_bin (r := .bool false) rfl rfl rfl b_neq) rfl rfl) ?_
 refine RK hK27 ?_
 refine w_if_false rfl ?_
 refine WK hK26 ?_
 refine WS fun _ hK28 => ?_
 refine gr_mkmap (kV := iV) rfl rfl fun b29 => ?_
 try dsimp only
 refine AL rfl tz127 fun b30 => ?_
 refine SO0 rfl ts127 rfl rfl ?_
 refine RK hK28 ?_
 refine w_seq fun _ hK31 => ?_
 refine WS fun _ hK32 => ?_
 refine rS (FA 2 rfl fo69_2 rfl) ?_
 refine rS (L1 (Value.slice sgA r.Signals.length sgC) 10 rfl tk67 rfl rfl) ?_
 refine rS (LN rfl ut67) ?_
 refine rS (MV rfl) ?_
 refine RK hK32 ?_
 refine w_block ?_
 have hinit : (0 ≤ r.Signals.length) := by exact Nat.zero_le _
 refine w_loop (ι := { z : Nat // (z ≤ r.Signals.length) }) (fun z => [(2, (Value.pointer (some ⟨b2, 0, none⟩))), (3, (Value.pointer (some ⟨b3, 0, none⟩))), (6, (Value.pointer (some ⟨gw8, 0, none⟩))), (8, (Value.pointer (some ⟨b30, 0, none⟩))), (26, (Value.int .i64 ((r.Signals.length : Nat) : Int))), (27, (Value.int .i64 ((z.1 : Nat) : Int)))]) (fun z => [(blk b30 127 [(Value.map (some b29))]), (gmp iV b29 (gmapV Value.bool (startM z.1))), (blk gw8 142 (WatchV.cells (WatchV.mk (LineV.mk (TrackV.mk (Slc.mk kA l.Track.length kC)) l.Fast (Slc.mk cA l.Clocks.length cC) (Slc.mk bA l.Beams.length bC) l.Finish l.Fakes l.Misses) (RideV.mk r.Start r.Now (Slc.mk sgA r.Signals.length sgC)) (Slc.mk eA9 ((leasts l l.Beams.length).length) eC10) (Slc.mk tA11 ((timesT l r.Signals r.Signals.length).length) tC12) (Slc.mk fA16 fs14.length fC17) (Slc.mk qA20 bs18.length qC21)))), (own eA9 eC10 3 1 ((leasts l l.Beams.length).map iC)), (own tA11 tC12 143 1 (List.zipWith mapC (timesT l r.Signals r.Signals.length) tb13)), (bund (nest tmR (timesT l r.Signals r.Signals.length) tb13)), (own fA16 fC17 144 1 (List.zipWith mapC fs14 fb15)), (bund (nest fmR fs14 fb15)), (own qA20 qC21 144 1 (List.zipWith mapC bs18 bb19)), (bund (nest fmR bs18 bb19)), (blk b3 69 (RideV.cells (RideV.mk r.Start r.Now (Slc.mk sgA r.Signals.length sgC)))), (blk b2 28 (LineV.cells (LineV.mk (TrackV.mk (Slc.mk kA l.Track.length kC)) l.Fast (Slc.mk cA l.Clocks.length cC) (Slc.mk bA l.Beams.length bC) l.Finish l.Fakes l.Misses))), (rd kA l.Track.length 9 (l.Track.map StretchV.cells)).ro, (rd cA l.Clocks.length 2 (List.zipWith ClockM.cells l.Clocks az)).ro, (bun (nest ClockM.rds l.Clocks az)).ro, (rd bA l.Beams.length 4 (l.Beams.map BeamV.cells)).ro, (rd sgA r.Signals.length 2 (r.Signals.map SignalV.cells)).ro]) (fun z => r.Signals.length - z.1) ⟨0, hinit⟩ (Sub.cons rfl <| Sub.cons rfl <| Sub.cons rfl <| Sub.cons rfl <| Sub.cons rfl <| Sub.cons rfl <| Sub.nil _) (fun w hs => St.sel [0, 1, 2, 3, 4, 5, 6, 7, 8, 9, 10, 11, 12, 13, 14, 15, 16] rfl rfl hs) ?_
 clear hinit
 rintro ⟨i, hl6_0⟩ J33 hJ33
 try dsimp only
 refine WS fun _ hK34 => ?_
 refine rS (BI rfl b_lss) ?_
 refine RK hK34 ?_
 refine w_seq fun _ hK35 => ?_
 refine w_if rfl (fun h36 => ?_) (fun h36 => ?_)
 · replace h36 := DT h36
   refine WK hK35 ?_
   refine w_seq fun _ hK37 => ?_
   refine w_block ?_
   refine WS fun _ hK38 => ?_
   refine rS (MV rfl) ?_
   refine rS (AG rfl) ?_
   refine RK hK38 ?_
   refine w_region ?_
   refine rS (L1W 0 rfl tk127 rfl) ?_
   refine rS (MV rfl) ?_
   have hb39 : (gsetK (startM i) ((i : Nat) : Int) true) = (startM (i + 1)) := by exact startM_succ
   refine gr_mapset (kV := iV) (x := ((i : Nat) : Int)) (C' := [_, (gmp iV b29 (gmapV Value.bool (startM (i + 1)))), _, _, _, _, _, _, _, _, _, _, _, _, _, _, _]) 1 rfl rfl rfl rfl ut127 (gkey_int ut3) rfl ((gmapV_setK _ _ _ _).symm.trans (congrArg _ hb39)) rfl ?_
   refine r_nil ?_
   refine k_block ?_
   refine KK hK37 ?_
   refine w_region ?_
   refine rS (BI rfl (b_add ⟨by omega, by omega⟩)) ?_
   refine rS (MV rfl) ?_
   refine r_nil ?_
   have hb40 : (Value.int .i64 (((i + 1) : Nat) : Int)) = (Value.int .i64 (((i : Nat) : Int) + 1)) := by exact congrArg (Value.int .i64) (by omega)
   refine k_then (hJ33 ⟨(i + 1), (by first | omega | (simp only []; omega))⟩ _ _ _ rfl (by first | omega | (simp; omega)) (Sub.cons rfl <| Sub.cons rfl <| Sub.cons rfl <| Sub.cons rfl <| Sub.cons rfl <| sub_val rfl hb40 <| Sub.nil _) (fun w hs => St.sel [0, 1, 2, 3, 4, 5, 6, 7, 8, 9, 10, 11, 12, 13, 14, 15, 16] rfl rfl hs))
 replace h36 := DF h36
 refine w_exit ?_
 refine k_exit_then ?_
 refine k_exit_then ?_
 refine k_exit_same ?_
 refine KK hK31 ?_
 refine w_seq fun _ hK41 => ?_
 refine WS fun _ hK42 => ?_
 refine rS (FA 3 rfl fo28_3 rfl) ?_
 refine rS (L1 (Value.slice bA l.Beams.length bC) 11 rfl tk26 rfl rfl) ?_
 refine rS (LN rfl ut26) ?_
 refine rS (MV rfl) ?_
 refine RK hK42 ?_
 refine w_block ?_
 rw [show startM i = startM r.Signals.length from by rw [show i = r.Signals.length by omega]]
 refine w_tie0 ?_
 have hinit : (0 ≤ l.Beams.length) ∧ (LeftOk r.Signals.length (startM r.Signals.length) (seenTo (watchL l r) 0)) := by exact ⟨Nat.zero_le _, left_iff left_start fun i => ⟨False.elim, fun q => (seen_zero q).elim⟩⟩
 refine w_loopD (ι := { z : Nat × BM × (List Nat) // (z.1 ≤ l.Beams.length) ∧ (LeftOk r.Signals.length z.2.1 (seenTo (watchL l r) z.1)) }) (fun z => z.1.2.2.map mark) (fun z => [(2, (Value.pointer (some ⟨b2, 0, none⟩))), (3, (Value.pointer (some ⟨b3, 0, none⟩))), (6, (Value.pointer (some ⟨gw8, 0, none⟩))), (8, (Value.pointer (some ⟨b30, 0, none⟩))), (35, (Value.int .i64 ((l.Beams.length : Nat) : Int))), (36, (Value.int .i64 ((z.1.1 : Nat) : Int)))]) (fun z => [(bund (z.1.2.2.map defd)), (blk b30 127 [(Value.map (some b29))]), (gmp iV b29 (gmapV Value.bool z.1.2.1)), (blk gw8 142 (WatchV.cells (WatchV.mk (LineV.mk (TrackV.mk (Slc.mk kA l.Track.length kC)) l.Fast (Slc.mk cA l.Clocks.length cC) (Slc.mk bA l.Beams.length bC) l.Finish l.Fakes l.Misses) (RideV.mk r.Start r.Now (Slc.mk sgA r.Signals.length sgC)) (Slc.mk eA9 ((leasts l l.Beams.length).length) eC10) (Slc.mk tA11 ((timesT l r.Signals r.Signals.length).length) tC12) (Slc.mk fA16 fs14.length fC17) (Slc.mk qA20 bs18.length qC21)))), (own eA9 eC10 3 1 ((leasts l l.Beams.length).map iC)), (own tA11 tC12 143 1 (List.zipWith mapC (timesT l r.Signals r.Signals.length) tb13)), (bund (nest tmR (timesT l r.Signals r.Signals.length) tb13)), (own fA16 fC17 144 1 (List.zipWith mapC fs14 fb15)), (bund (nest fmR fs14 fb15)), (own qA20 qC21 144 1 (List.zipWith mapC bs18 bb19)), (bund (nest fmR bs18 bb19)), (blk b3 69 (RideV.cells (RideV.mk r.Start r.Now (Slc.mk sgA r.Signals.length sgC)))), (blk b2 28 (LineV.cells (LineV.mk (TrackV.mk (Slc.mk kA l.Track.length kC)) l.Fast (Slc.mk cA l.Clocks.length cC) (Slc.mk bA l.Beams.length bC) l.Finish l.Fakes l.Misses))), (rd kA l.Track.length 9 (l.Track.map StretchV.cells)).ro, (rd cA l.Clocks.length 2 (List.zipWith ClockM.cells l.Clocks az)).ro, (bun (nest ClockM.rds l.Clocks az)).ro, (rd bA l.Beams.length 4 (l.Beams.map BeamV.cells)).ro, (rd sgA r.Signals.length 2 (r.Signals.map SignalV.cells)).ro]) (fun z => l.Beams.length - z.1.1) ⟨(0, (startM r.Signals.length), ([] : List Nat)), hinit⟩ rfl (Sub.cons rfl <| Sub.cons rfl <| Sub.cons rfl <| Sub.cons rfl <| Sub.cons rfl <| Sub.cons rfl <| Sub.nil _) (fun w hs => St.sel [0, 1, 2, 3, 4, 5, 6, 7, 8, 9, 10, 11, 12, 13, 14, 15, 16, 17] rfl rfl hs) ?_
 clear hinit
 rintro ⟨⟨b, m, rs11⟩, ⟨hl11_0, hl11_1⟩⟩ J43 hJ43
 try dsimp only at hl11_0 hl11_1
 try dsimp only
 refine WS fun _ hK44 => ?_
 refine rS (BI rfl b_lss) ?_
 refine RK hK44 ?_
 refine w_seq fun _ hK45 => ?_
 refine w_if rfl (fun h46 => ?_) (fun h46 => ?_)
 · replace h46 := DT h46
   refine WK hK45 ?_
   refine w_seq fun _ hK47 => ?_
   refine w_block ?_
   refine WS fun _ hK48 => ?_
   refine rS (MV rfl) ?_
   refine rS (AG rfl) ?_
   refine RK hK48 ?_
   refine WS fun _ hK49 => ?_
   refine rS (MV rfl) ?_
   refine rS (MV rfl) ?_
   obtain ⟨mf, hm1⟩ : ∃ y_, fs14[b]? = some y_ := ⟨fs14[b]'(by omega), List.getElem?_eq_getElem _⟩
   obtain ⟨mb, hm2⟩ : ∃ y_, bs18[b + 1]? = some y_ := ⟨bs18[b + 1]'(by omega), List.getElem?_eq_getElem _⟩
   refine cX (passes_c gw8 b) (ha_nil) rfl fun y50 hy51 => ?_
   obtain ⟨x152, x253⟩ := y50
   try dsimp only
   refine RK hK49 ?_
   refine w_block ?_
   refine w_rangeG (L0 := [(2, (Value.pointer (some ⟨b2, 0, none⟩))), (3, (Value.pointer (some ⟨b3, 0, none⟩))), (6, (Value.pointer (some ⟨gw8, 0, none⟩))), (8, (Value.pointer (some ⟨b30, 0, none⟩))), (10, (Value.int .i64 ((b : Nat) : Int))), (35, (Value.int .i64 ((l.Beams.length : Nat) : Int))), (36, (Value.int .i64 ((b : Nat) : Int)))]) (F := [(own eA9 eC10 3 1 ((leasts l l.Beams.length).map iC)), (own tA11 tC12 143 1 (List.zipWith mapC (timesT l r.Signals r.Signals.length) tb13)), (bund (nest tmR (timesT l r.Signals r.Signals.length) tb13)), (own fA16 fC17 144 1 (List.zipWith mapC fs14 fb15)), (bund (nest fmR fs14 fb15)), (own qA20 qC21 144 1 (List.zipWith mapC bs18 bb19)), (bund (nest fmR bs18 bb19)), (blk gw8 142 (WatchV.cells (WatchV.mk (LineV.mk (TrackV.mk (Slc.mk kA l.Track.length kC)) l.Fast (Slc.mk cA l.Clocks.length cC) (Slc.mk bA l.Beams.length bC) l.Finish l.Fakes l.Misses) (RideV.mk r.Start r.Now (Slc.mk sgA r.Signals.length sgC)) (Slc.mk eA9 ((leasts l l.Beams.length).length) eC10) (Slc.mk tA11 ((timesT l r.Signals r.Signals.length).length) tC12) (Slc.mk fA16 fs14.length fC17) (Slc.mk qA20 bs18.length qC21)))), (blk x152 107 [(Value.pointer (some ⟨gw8, 0, none⟩))]), (blk x253 3 [(Value.int .i64 ((b : Nat) : Int))])])  (fun k (y : BM) => (LeftOk r.Signals.length y (fun i => seenTo (watchL l r) b i ∨ ∃ q ∈ k, q.1 = i)) ∧ (∀ q ∈ k, q ∈ passM (watchL l r) b mf mb)) (fun k y => [(bund (rs11.map defd)), (blk b30 127 [(Value.map (some b29))]), (gmp iV b29 (gmapV Value.bool y)), (blk b3 69 (RideV.cells (RideV.mk r.Start r.Now (Slc.mk sgA r.Signals.length sgC)))), (blk b2 28 (LineV.cells (LineV.mk (TrackV.mk (Slc.mk kA l.Track.length kC)) l.Fast (Slc.mk cA l.Clocks.length cC) (Slc.mk bA l.Beams.length bC) l.Finish l.Fakes l.Misses))), (rd kA l.Track.length 9 (l.Track.map StretchV.cells)).ro, (rd cA l.Clocks.length 2 (List.zipWith ClockM.cells l.Clocks az)).ro, (bun (nest ClockM.rds l.Clocks az)).ro, (rd bA l.Beams.length 4 (l.Beams.map BeamV.cells)).ro, (rd sgA r.Signals.length 2 (r.Signals.map SignalV.cells)).ro]) (fun _ (_ : Unit) => False) (fun _ _ => []) [2, 3, 4, 13, 14, 15, 16, 17, 18, 19] [6, 7, 8, 9, 10, 11, 12, 5, 0, 1] m rfl rfl (passes1_c (LineV.mk (TrackV.mk (Slc.mk kA l.Track.length kC)) l.Fast (Slc.mk cA l.Clocks.length cC) (Slc.mk bA l.Beams.length bC) l.Finish l.Fakes l.Misses) (RideV.mk r.Start r.Now (Slc.mk sgA r.Signals.length sgC)) (leasts l l.Beams.length) (timesT l r.Signals r.Signals.length) eA9 eC10 tb13 tA11 tC12 fs14 bs18 fb15 fA16 fC17 bb19 qA20 qC21 gw8 b x152 x253 mf mb (by rw [hlel]; omega) (by exact hwo) (by rw [htll]; omega) (by exact hfw) (by omega) (by exact hbw) (by omega) (by show r.Signals.length ≤ 1000; omega) (by exact hm1) (by exact hm2)) rfl rfl rfl (by exact ⟨left_iff hl11_1 fun i => ⟨.inl, fun q => q.elim id fun ⟨z, hz, _⟩ => by cases hz⟩, fun q hq => by cases hq⟩) (by simp only [List.forall_mem_cons, List.not_mem_nil, false_imp_iff, implies_true, and_true]; exact ⟨⟨_, List.mem_of_getElem? (i := 0) rfl, (cov_own_n (by simp))⟩, ⟨_, List.mem_of_getElem? (i := 1) rfl, (cov_own_n (by rw [List.length_zipWith]; omega))⟩, ⟨_, List.mem_of_getElem? (i := 2) rfl, cov_bund⟩, ⟨_, List.mem_of_getElem? (i := 3) rfl, (cov_own_n (by rw [List.length_zipWith]; omega))⟩, ⟨_, List.mem_of_getElem? (i := 4) rfl, cov_bund⟩, ⟨_, List.mem_of_getElem? (i := 5) rfl, (cov_own_n (by rw [List.length_zipWith]; omega))⟩, ⟨_, List.mem_of_getElem? (i := 6) rfl, cov_bund⟩, ⟨_, List.mem_of_getElem? (i := 7) rfl, (cov_refl _)⟩, ⟨_, List.mem_of_getElem? (i := 8) rfl, (cov_refl _)⟩, ⟨_, List.mem_of_getElem? (i := 9) rfl, (cov_refl _)⟩⟩) (by rintro k x k2 ⟨o, _, rfl, _⟩; rfl) rfl (Sub.cons rfl <| Sub.cons rfl <| Sub.cons rfl <| Sub.cons rfl <| Sub.cons rfl <| Sub.cons rfl <| Sub.cons rfl <| Sub.nil _) ?_ ?_ (fun _ _ _ h => h.elim) (fun _ _ h => h.elim)
   · rintro k x k2 m2 lr ra rb S w1 K54 Qr55 hsz hx hin56 hK54 hQr55 xQr55 yQr55
     obtain ⟨q, hq, rfl, rfl⟩ := hx
     obtain ⟨hr0, hr1⟩ := hin56
     try dsimp only
     refine w_region ?_
     refine rS (AG rfl) ?_
     refine r_nil ?_
     refine k_then (hK54 _ _ ?_)
     refine w_block ?_
     refine w_region ?_
     refine rS (L1W 2 rfl tk127 rfl) ?_
     refine rS (MV rfl) ?_
     refine gr_mapdel0 (kV := iV) (x := q.1) (C' := [_, _, _, (gmp iV b29 (gmapV Value.bool (gdelK m2 q.1))), _, _, _, _, _, _, _]) 3 rfl rfl rfl rfl ut127 (gkey_int ut3) rfl (gmapV_delK _ _ _).symm rfl ?_
     refine r_nil ?_
     refine k_block ?_
     exact hQr55 (gdelK m2 q.1) _ _ (by refine ⟨left_iff (left_del hr0) fun i => seen_snoc, fun z hz => ?_⟩; (rcases List.mem_append.1 hz with hz | hz; exact hr1 z hz; (rw [List.mem_singleton.1 hz]; exact hq))) (fun w hs => St.sel [0, 1, 2, 3, 4, 5, 6, 7, 8, 9, 10] rfl rfl hs)
   rintro r57 k m2 hfin hin58
   obtain ⟨hr0, hr1⟩ := hin58
   try dsimp only
   refine k_block ?_
   refine k_block ?_
   refine KK hK47 ?_
   refine w_region ?_
   refine rS (BI rfl (b_add ⟨by omega, by omega⟩)) ?_
   refine rS (MV rfl) ?_
   refine r_nil ?_
   refine k_tief (X := rs11.map defd) 11 0 rfl rfl ?_
   try dsimp only
   have hb59 : (Value.int .i64 (((b + 1) : Nat) : Int)) = (Value.int .i64 (((b : Nat) : Int) + 1)) := by exact congrArg (Value.int .i64) (by omega)
   refine k_then (hJ43 ⟨((b + 1), m2, (r57 :: rs11)), ⟨by omega, left_iff hr0 fun i => by rw [seen_succ, (seen_pass (hfw.min _ _ hm1) (hbw.max _ _ hm2) (hfw.keys _ _ hm1) (hbw.keys _ _ hm2) hr1 hfin (fun z => z = i))]⟩⟩ _ _ _ rfl (by first | omega | (simp; omega)) (Sub.cons rfl <| Sub.cons rfl <| Sub.cons rfl <| Sub.cons rfl <| Sub.cons rfl <| sub_val rfl hb59 <| Sub.nil _) (fun w hs => St.sel [0, 11, 12, 8, 1, 2, 3, 4, 5, 6, 7, 13, 14, 15, 16, 17, 18, 19] rfl rfl hs))
 replace h46 := DF h46
 refine w_exit ?_
 refine k_exit_then ?_
 refine k_exit_then ?_
 refine k_exit_same ?_
 refine KK hK41 ?_
 refine WS fun _ hK60 => ?_
 refine rS (AG rfl) ?_
 refine RK hK60 ?_
 refine w_seq fun _ hK61 => ?_
 refine WS fun _ hK62 => ?_
 refine rS (L1W 1 rfl tk127 rfl) ?_
 refine gr_mrange 2 rfl rfl ut127 rfl rfl fun r63 => ?_
 try dsimp only
 refine RK hK62 ?_
 refine w_block ?_
 refine w_own_nil 3 1 ?_
 have hinit : ((([] : List Int) ++ m.map (·.1)).Perm (m.map (·.1))) := by exact List.Perm.refl _
 refine w_loop (ι := { z : BM × (List Int) × (Option Addr) × Nat // ((z.2.1 ++ z.1.map (·.1)).Perm (m.map (·.1))) }) (fun z => [(2, (Value.pointer (some ⟨b2, 0, none⟩))), (3, (Value.pointer (some ⟨b3, 0, none⟩))), (6, (Value.pointer (some ⟨gw8, 0, none⟩))), (8, (Value.pointer (some ⟨b30, 0, none⟩))), (12, (Value.slice z.1.2.2.1 z.1.2.1.length z.1.2.2.2)), (48, (Value.pointer (some ⟨r63, 0, none⟩)))]) (fun z => [(own z.1.2.2.1 z.1.2.2.2 3 1 (z.1.2.1.map iC)), (bund (rs11.map defd)), (blk b30 127 [(Value.map (some b29))]), (gmi iV r63 b29 (gmapV Value.bool m) (gmapV Value.bool z.1.1) none), (blk gw8 142 (WatchV.cells (WatchV.mk (LineV.mk (TrackV.mk (Slc.mk kA l.Track.length kC)) l.Fast (Slc.mk cA l.Clocks.length cC) (Slc.mk bA l.Beams.length bC) l.Finish l.Fakes l.Misses) (RideV.mk r.Start r.Now (Slc.mk sgA r.Signals.length sgC)) (Slc.mk eA9 ((leasts l l.Beams.length).length) eC10) (Slc.mk tA11 ((timesT l r.Signals r.Signals.length).length) tC12) (Slc.mk fA16 fs14.length fC17) (Slc.mk qA20 bs18.length qC21)))), (own eA9 eC10 3 1 ((leasts l l.Beams.length).map iC)), (own tA11 tC12 143 1 (List.zipWith mapC (timesT l r.Signals r.Signals.length) tb13)), (bund (nest tmR (timesT l r.Signals r.Signals.length) tb13)), (own fA16 fC17 144 1 (List.zipWith mapC fs14 fb15)), (bund (nest fmR fs14 fb15)), (own qA20 qC21 144 1 (List.zipWith mapC bs18 bb19)), (bund (nest fmR bs18 bb19)), (blk b3 69 (RideV.cells (RideV.mk r.Start r.Now (Slc.mk sgA r.Signals.length sgC)))), (blk b2 28 (LineV.cells (LineV.mk (TrackV.mk (Slc.mk kA l.Track.length kC)) l.Fast (Slc.mk cA l.Clocks.length cC) (Slc.mk bA l.Beams.length bC) l.Finish l.Fakes l.Misses))), (rd kA l.Track.length 9 (l.Track.map StretchV.cells)).ro, (rd cA l.Clocks.length 2 (List.zipWith ClockM.cells l.Clocks az)).ro, (bun (nest ClockM.rds l.Clocks az)).ro, (rd bA l.Beams.length 4 (l.Beams.map BeamV.cells)).ro, (rd sgA r.Signals.length 2 (r.Signals.map SignalV.cells)).ro]) (fun z => z.1.1.length) ⟨(m, ([] : List Int), none, 0), hinit⟩ (Sub.cons rfl <| Sub.cons rfl <| Sub.cons rfl <| Sub.cons rfl <| Sub.cons rfl <| Sub.cons rfl <| Sub.nil _) (fun w hs => St.sel [0, 1, 2, 3, 4, 5, 6, 7, 8, 9, 10, 11, 12, 13, 14, 15, 16, 17, 18] rfl rfl hs) ?_
 clear hinit
 rintro ⟨⟨left, ys, a, c⟩, hl19_0⟩ J64 hJ64
 try dsimp only at hl19_0
 try dsimp only
 refine WS fun _ hK65 => ?_
 refine gr_mnext_v (gkey_int ut3).inj (f := Value.bool) 3 rfl rfl rfl rfl (fun h49 => ?_) (fun x y hm hn => ?_)
 · refine rS (EX rfl) ?_
   refine RK hK65 ?_
   refine w_seq fun _ hK66 => ?_
   refine w_if_false rfl ?_
   refine w_exit ?_
   refine k_exit_then ?_
   refine k_exit_then ?_
   refine k_exit_same ?_
   refine KK hK61 ?_
   refine WS fun _ hK67 => ?_
   refine rS (MV rfl) ?_
   refine r_callm 0 rfl rfl rfl rfl (sort_c ys a c (by have h1 := hl19_0.length_eq; have h2 := left_len hl11_1; simp at h1; omega)) rfl cv_nil rfl (fun srtd hso => ?_)
   try dsimp only
   refine RK hK67 ?_
   refine WS fun _ hK69 => ?_
   refine rS (MV rfl) ?_
   have hsf : srtd = falseV l r := by rw [falseV_ok he]; exact false_done (left_iff hl11_1 fun i => by rw [show b = (watchL l r).n from by rw [show (watchL l r).n = l.Beams.length from leasts_len]; omega]) (by have := hl19_0; rw [h49] at this; simpa using this) hso.1 hso.2
   rw [hsf]
   refine rS (AG rfl) ?_
   refine rS (AG rfl) ?_
   refine RK hK69 ?_
   refine w_ret ?_
   refine hQ _ _ _ (l_marks0 1 rfl rfl <| l_nil (vs := [(Value.slice a ys.length c), (Value.int .i64 0)]) ⟨rfl, rfl, trivial⟩ fun w hs => endX (a, c) [0] ?_ ?_ rfl rfl rfl hs)
   · first | (rw [falseV_no he]; rfl) | (rw [he, show (falseV l r).length = ys.length from by rw [← hsf]; exact hso.1.length_eq]; rfl)
   · trivial
 try dsimp only
 refine rS (EX rfl) ?_
 refine RK hK65 ?_
 refine w_seq fun _ hK70 => ?_
 refine w_if_true rfl ?_
 refine WK hK70 ?_
 refine w_block ?_
 refine WS fun _ hK71 => ?_
 refine rS (SX (gsd_mentry 3 rfl rfl rfl) rfl rfl) ?_
 refine rS (EX rfl) ?_
 refine rS (AG rfl) ?_
 refine RK hK71 ?_
 refine w_region ?_
 refine rS (MV rfl) ?_
 refine rS (MV rfl) ?_
 refine r_bs (xs := [.tmp 54]) (cs := [(Value.int .i64 x)]) rfl te57 tz3 rfl rfl rfl rfl (by simp [Value.cells]) rfl rfl fun b72 => ?_
 refine r_append (es2 := (List.map iC (ys ++ [x]))) (m' := (ys ++ [x]).length) 1 rfl rfl rfl ta57 rfl rfl (by simp) (has_rd_blk (es := List.map iC [x]) 0 rfl rfl (by simp [iC_length]) rfl) (one_iC _) (by have h1 := hl19_0.length_eq; have h2 := left_len hl11_1; simp at h1; simp; omega) (by have h1 := hl19_0.length_eq; have h2 := left_len hl11_1; simp at h1; simp only [maxLen]; simp; omega) (by simp) (by simp) rfl fun a73 c74 => ?_
 try dsimp only
 refine rS (AG rfl) ?_
 refine r_nil ?_
 refine k_block ?_
 refine k_imp (C' := [(blk b72 3 [(Value.int .i64 x)]), (own a73 c74 3 1 (List.map iC (ys ++ [x]))), (bund (rs11.map defd)), (blk b30 127 [(Value.map (some b29))]), (gmi iV r63 b29 (gmapV Value.bool m) (gmapV Value.bool (gdelK left x)) none), (blk gw8 142 (WatchV.cells (WatchV.mk (LineV.mk (TrackV.mk (Slc.mk kA l.Track.length kC)) l.Fast (Slc.mk cA l.Clocks.length cC) (Slc.mk bA l.Beams.length bC) l.Finish l.Fakes l.Misses) (RideV.mk r.Start r.Now (Slc.mk sgA r.Signals.length sgC)) (Slc.mk eA9 ((leasts l l.Beams.length).length) eC10) (Slc.mk tA11 ((timesT l r.Signals r.Signals.length).length) tC12) (Slc.mk fA16 fs14.length fC17) (Slc.mk qA20 bs18.length qC21)))), (own eA9 eC10 3 1 ((leasts l l.Beams.length).map iC)), (own tA11 tC12 143 1 (List.zipWith mapC (timesT l r.Signals r.Signals.length) tb13)), (bund (nest tmR (timesT l r.Signals r.Signals.length) tb13)), (own fA16 fC17 144 1 (List.zipWith mapC fs14 fb15)), (bund (nest fmR fs14 fb15)), (own qA20 qC21 144 1 (List.zipWith mapC bs18 bb19)), (bund (nest fmR bs18 bb19)), (blk b3 69 (RideV.cells (RideV.mk r.Start r.Now (Slc.mk sgA r.Signals.length sgC)))), (blk b2 28 (LineV.cells (LineV.mk (TrackV.mk (Slc.mk kA l.Track.length kC)) l.Fast (Slc.mk cA l.Clocks.length cC) (Slc.mk bA l.Beams.length bC) l.Finish l.Fakes l.Misses))), (rd kA l.Track.length 9 (l.Track.map StretchV.cells)).ro, (rd cA l.Clocks.length 2 (List.zipWith ClockM.cells l.Clocks az)).ro, (bun (nest ClockM.rds l.Clocks az)).ro, (rd bA l.Beams.length 4 (l.Beams.map BeamV.cells)).ro, (rd sgA r.Signals.length 2 (r.Signals.map SignalV.cells)).ro]) 4 rfl gmi_none rfl ?_
 refine k_then (hJ64 ⟨((gdelK left x), (ys ++ [x]), a73, c74), take_key hn hm hl19_0⟩ _ _ _ rfl (gdelK_lt hm) (Sub.cons rfl <| Sub.cons rfl <| Sub.cons rfl <| Sub.cons rfl <| Sub.cons rfl <| Sub.cons rfl <| Sub.nil _) (fun w hs => St.sel [1, 2, 3, 4, 5, 6, 7, 8, 9, 10, 11, 12, 13, 14, 15, 16, 17, 18, 19] rfl rfl hs))
set_option maxRecDepth 100000 in
set_option maxHeartbeats 400000 in
theorem Missed_c (l : LineM) (kA : Option Addr) (kC : Nat) (az : List RA) (cA : Option Addr) (cC : Nat) (bA : Option Addr) (bC : Nat) (r : RideM) (sgA : Option Addr) (sgC : Nat) (hin : LineIn l az) (hsl : r.Signals.length ≤ 1000000) :
    FnX Try.prog 42 [(Value.agg (LineV.cells (LineV.mk (TrackV.mk (Slc.mk kA l.Track.length kC)) l.Fast (Slc.mk cA l.Clocks.length cC) (Slc.mk bA l.Beams.length bC) l.Finish l.Fakes l.Misses)).toArray), (Value.agg (RideV.cells (RideV.mk r.Start r.Now (Slc.mk sgA r.Signals.length sgC))).toArray)] [(rd kA l.Track.length 9 (l.Track.map StretchV.cells)), (rd cA l.Clocks.length 2 (List.zipWith ClockM.cells l.Clocks az)), (bun (nest ClockM.rds l.Clocks az)), (rd bA l.Beams.length 4 (l.Beams.map BeamV.cells)), (rd sgA r.Signals.length 2 (r.Signals.map SignalV.cells))] (fun (x : (Option Addr) × Nat) => (Value.tuple [(Value.slice x.1 ((missedV l r).length) x.2), (Value.int .i64 (openE l r 0))].toArray)) (fun (x : (Option Addr) × Nat) => True) (fun (x : (Option Addr) × Nat) => [(own x.1 x.2 3 1 ((missedV l r).map iC))]) := by
 have htk := hin.trk
 have hck := hin.cks
 have has := hin.as_
 have hbm := hin.bms
 have hsd := hin.side
 refine fnX_of go42 Try.func42 rfl rfl fun w0 Q hQ hN => ?_
 try dsimp only
 refine WS fun _ hK1 => ?_
 refine BXA rfl fun b2 => ?_
 refine BXA rfl fun b3 => ?_
 refine rS (AG rfl) ?_
 refine rS (AG rfl) ?_
 refine RK hK1 ?_
 refine WS fun _ hK4 => ?_
 refine rS (LW 1 rfl tk28 rfl rfl) ?_
 refine rS (LW 0 rfl tk69 rfl rfl) ?_
 refine cX (open0_c l kA kC az cA cC bA bC r sgA sgC hin hsl) (ha_at 2 rfl rfl <| ha_at 3 rfl rfl <| ha_at 4 rfl rfl <| ha_at 5 rfl rfl <| ha_at 6 rfl rfl <| ha_nil) rfl fun y5 hy6 => ?_
 obtain ⟨ok22, ec7, gw8, eA9, eC10, tA11, tC12, tb13, fs14, fb15, fA16, fC17, bs18, bb19, qA20, qC21⟩ := y5
 cases ok22
 · obtain ⟨hec, he⟩ := hy6.2 rfl
   try dsimp only at hec he
   subst hec
   try dsimp only [cond_true, cond_false, List.cons_append, List.nil_append]
   refine rS (MV rfl) ?_
   refine rS (EX rfl) ?_
   refine rS (EX rfl) ?_
   refine rS (AG rfl) ?_
   refine rS (AG rfl) ?_
   refine RK hK4 ?_
   refine w_seq fun _ hK23 => ?_
   refine WS fun _ hK24 => ?_
   refine rS (MV rfl) ?_
   refine rS (BI rfl b_neq) ?_
   refine RK hK24 ?_
   refine w_if rfl (fun h20 => ?_) (fun h20 => ?_)
   rotate_left 1
   · replace h20 := XF h20
     exact absurd h20 he
   replace h20 := XT h20
   refine WS fun _ hK25 => ?_
   refine r_own_nil 3 1 ?_
   rw [show (own none 0 3 1 ([] : List (List Value))) = own none 0 3 1 ((missedV l r).map iC) from by rw [missedV_no he]; rfl]
   refine rS (MV rfl) ?_
   refine rS (AG rfl) ?_
   refine rS (AG rfl) ?_
   refine RK hK25 ?_
   refine w_ret ?_
   refine hQ _ _ _ (l_nil (vs := [(Value.slice none 0 0), (Value.int .i64 (openE l r 0))]) ⟨rfl, rfl, trivial⟩ fun w hs => endX (none, 0) [0] ?_ ?_ rfl rfl rfl hs)
   · first | rfl | (rw [missedV_no he]; rfl) | (rw [he]; rfl)
   · trivial
 obtain ⟨he, hfw, hbw, hfl, hbl, htl⟩ := hy6.1 rfl
 try dsimp only [cond_true, cond_false, List.cons_append, List.nil_append]
 dsimp only at hfw hbw hfl hbl htl
 obtain ⟨h10, hro, hme, hnn⟩ := openE_zero he
 obtain ⟨htr, hok⟩ := lineE_zero h10
 have hhd := hok.head
 unfold HeadOk at hhd
 have hwo := watch_ok htr hok hro
 have hrt := hro.time
 have hrl := hro.len
 have hlel : (leasts l l.Beams.length).length = l.Beams.length := leasts_len
 have htll : (timesT l r.Signals r.Signals.length).length = l.Beams.length := timesT_len
 have hfn : fs14.length = l.Beams.length + 1 := by have := hfw.len; rw [show (watchL l r).n = l.Beams.length from leasts_len] at this; exact this
 have hbn : bs18.length = l.Beams.length + 1 := by have := hbw.len; rw [show (watchL l r).n = l.Beams.length from leasts_len] at this; exact this
 refine rS (MV rfl) ?_
 refine rS (EX rfl) ?_
 refine rS (EX rfl) ?_
 refine rS (AG rfl) ?_
 refine rS (AG rfl) ?_
 refine RK hK4 ?_
 refine w_seq fun _ hK26 => ?_
 refine WS fun _ hK27 => ?_
 refine rS (MV rfl) ?_
 refine rS (SX (sd_bin (r := .bool false) rfl rfl rfl b_neq) rfl rfl) ?_
 refine RK hK27 ?_
 refine w_if_false rfl ?_
 refine WK hK26 ?_
 refine WS fun _ hK28 => ?_
 refine rS (MV rfl) ?_
 refine cX (numbers_c (LineV.mk (TrackV.mk (Slc.mk kA l.Track.length kC)) l.Fast (Slc.mk cA l.Clocks.length cC) (Slc.mk bA l.Beams.length bC) l.Finish l.Fakes l.Misses) (RideV.mk r.Start r.Now (Slc.mk sgA r.Signals.length sgC)) (leasts l l.Beams.length) (timesT l r.Signals r.Signals.length) eA9 eC10 tb13 tA11 tC12 fs14 bs18 fb15 fA16 fC17 bb19 qA20 qC21 gw8 (by exact hwo) (by first | assumption | omega | (simp; done) | (simp; omega)) (by exact leasts_len.symm) (by exact hfw) (by first | assumption | omega | (simp; done) | (simp; omega))) (ha_cons (has_own_n (n := (leasts l l.Beams.length).length) 1 rfl (by simp)) <| ha_cons (has_own_n (n := (timesT l r.Signals r.Signals.length).length) 2 rfl (by rw [List.length_zipWith]; omega)) <| ha_cons (bun_bund 3 rfl bun_same) <| ha_cons (has_own_n (n := fs14.length) 4 rfl (by rw [List.length_zipWith]; omega)) <| ha_cons (bun_bund 5 rfl bun_same) <| ha_cons (has_own_n (n := bs18.length) 6 rfl (by rw [List.length_zipWith]; omega)) <| ha_cons (bun_bund 7 rfl bun_same) <| ha_at 0 rfl rfl <| ha_nil) rfl fun y29 hy30 => ?_
 obtain ⟨a31, c32⟩ := y29
 try dsimp only
 rw [show (numsF (watchOf (LineV.mk (TrackV.mk (Slc.mk kA l.Track.length kC)) l.Fast (Slc.mk cA l.Clocks.length cC) (Slc.mk bA l.Beams.length bC) l.Finish l.Fakes l.Misses) (RideV.mk r.Start r.Now (Slc.mk sgA r.Signals.length sgC)) (leasts l l.Beams.length) (timesT l r.Signals r.Signals.length))) = whereV l r from (whereV_ok he).symm]
 refine rS (CL (min_c (whereV l r) a31 c32 (by exact whereV_pos he) (by exact Nat.le_trans whereV_len (by decide))) (ha_cons (has_own_n (n := (whereV l r).length) 0 rfl (by simp)) <| ha_nil) rfl) ?_
 refine rS (AG rfl) ?_
 refine RK hK28 ?_
 refine WS fun _ hK33 => ?_
 refine rS (AG rfl) ?_
 refine RK hK33 ?_
 refine w_seq fun _ hK34 => ?_
 refine WS fun _ hK35 => ?_
 have hmb := min_b he
 refine rS (MV rfl) ?_
 refine rS (MV rfl) ?_
 refine RK hK35 ?_
 refine w_block ?_
 refine w_own_nil 3 1 ?_
 refine w_tie0 ?_
 have hinit : (((0 : Nat) : Int) ≤ minL (whereV l r)) := by exact hmb.1
 refine w_loopD (ι := { z : Nat × (Option Addr) × Nat × (List Nat) // (((z.1 : Nat) : Int) ≤ minL (whereV l r)) }) (fun z => z.1.2.2.2.map mark) (fun z => [(2, (Value.pointer (some ⟨b2, 0, none⟩))), (3, (Value.pointer (some ⟨b3, 0, none⟩))), (6, (Value.pointer (some ⟨gw8, 0, none⟩))), (8, (Value.int .i64 (minL (whereV l r)))), (9, (Value.slice z.1.2.1 ((missedL (watchL l r) z.1.1).length) z.1.2.2.1)), (25, (Value.int .i64 (minL (whereV l r)))), (26, (Value.int .i64 ((z.1.1 : Nat) : Int)))]) (fun z => [(bund (z.1.2.2.2.map defd)), (own z.1.2.1 z.1.2.2.1 3 1 ((missedL (watchL l r) z.1.1).map iC)), (own a31 c32 3 1 ((whereV l r).map iC)), (blk gw8 142 (WatchV.cells (WatchV.mk (LineV.mk (TrackV.mk (Slc.mk kA l.Track.length kC)) l.Fast (Slc.mk cA l.Clocks.length cC) (Slc.mk bA l.Beams.length bC) l.Finish l.Fakes l.Misses) (RideV.mk r.Start r.Now (Slc.mk sgA r.Signals.length sgC)) (Slc.mk eA9 ((leasts l l.Beams.length).length) eC10) (Slc.mk tA11 ((timesT l r.Signals r.Signals.length).length) tC12) (Slc.mk fA16 fs14.length fC17) (Slc.mk qA20 bs18.length qC21)))), (own eA9 eC10 3 1 ((leasts l l.Beams.length).map iC)), (own tA11 tC12 143 1 (List.zipWith mapC (timesT l r.Signals r.Signals.length) tb13)), (bund (nest tmR (timesT l r.Signals r.Signals.length) tb13)), (own fA16 fC17 144 1 (List.zipWith mapC fs14 fb15)), (bund (nest fmR fs14 fb15)), (own qA20 qC21 144 1 (List.zipWith mapC bs18 bb19)), (bund (nest fmR bs18 bb19)), (blk b3 69 (RideV.cells (RideV.mk r.Start r.Now (Slc.mk sgA r.Signals.length sgC)))), (blk b2 28 (LineV.cells (LineV.mk (TrackV.mk (Slc.mk kA l.Track.length kC)) l.Fast (Slc.mk cA l.Clocks.length cC) (Slc.mk bA l.Beams.length bC) l.Finish l.Fakes l.Misses))), (rd kA l.Track.length 9 (l.Track.map StretchV.cells)).ro, (rd cA l.Clocks.length 2 (List.zipWith ClockM.cells l.Clocks az)).ro, (bun (nest ClockM.rds l.Clocks az)).ro, (rd bA l.Beams.length 4 (l.Beams.map BeamV.cells)).ro, (rd sgA r.Signals.length 2 (r.Signals.map SignalV.cells)).ro]) (fun z => (minL (whereV l r)).toNat - z.1.1) ⟨(0, none, 0, ([] : List Nat)), hinit⟩ rfl (Sub.cons rfl <| Sub.cons rfl <| Sub.cons rfl <| Sub.cons rfl <| Sub.cons rfl <| Sub.cons rfl <| Sub.cons rfl <| Sub.nil _) (fun w hs => St.sel [0, 1, 2, 3, 4, 5, 6, 7, 8, 9, 10, 11, 12, 13, 14, 15, 16, 17] rfl rfl hs) ?_
 clear hinit
 rintro ⟨⟨b, a, c, rs7⟩, hl7_0⟩ J36 hJ36
 try dsimp only at hl7_0
 try dsimp only
 refine WS fun _ hK37 => ?_
 refine rS (BI rfl b_lss) ?_
 refine RK hK37 ?_
 refine w_seq fun _ hK38 => ?_
 refine w_if rfl (fun h39 => ?_) (fun h39 => ?_)
 rotate_left 1
 · replace h39 := DF h39
   refine w_exit ?_
   refine k_exit_then ?_
   refine k_exit_then ?_
   refine k_exit_same ?_
   refine KK hK34 ?_
   refine WS fun _ hK61 => ?_
   refine rS (MV rfl) ?_
   rw [show (missedL (watchL l r) b) = missedV l r from by rw [missedV_ok he, show b = (minL (whereV l r)).toNat by omega]]
   refine rS (AG rfl) ?_
   refine rS (AG rfl) ?_
   refine RK hK61 ?_
   refine w_ret ?_
   refine hQ _ _ _ (l_marks0 0 rfl rfl <| l_nil (vs := [(Value.slice a ((missedV l r).length) c), (Value.int .i64 0)]) ⟨rfl, rfl, trivial⟩ fun w hs => endX (a, c) [0] ?_ ?_ rfl rfl rfl hs)
   · first | rfl | (rw [missedV_no he]; rfl) | (rw [he]; rfl)
   · trivial
 replace h39 := DT h39
 refine WK hK38 ?_
 refine w_seq fun _ hK40 => ?_
 refine w_block ?_
 refine WS fun _ hK41 => ?_
 refine rS (MV rfl) ?_
 refine rS (AG rfl) ?_
 refine RK hK41 ?_
 refine WS fun _ hK42 => ?_
 refine AL rfl tz4 fun b43 => ?_
 refine SO0 rfl ts4 rfl rfl ?_
 refine RK hK42 ?_
 refine w_seq fun _ hK44 => ?_
 refine WS fun _ hK45 => ?_
 refine rS (MV rfl) ?_
 refine rS (MV rfl) ?_
 obtain ⟨mf, hm1⟩ : ∃ y_, fs14[b]? = some y_ := ⟨fs14[b]'(by omega), List.getElem?_eq_getElem _⟩
 obtain ⟨mb, hm2⟩ : ∃ y_, bs18[b + 1]? = some y_ := ⟨bs18[b + 1]'(by omega), List.getElem?_eq_getElem _⟩
 refine cX (passes_c gw8 b) (ha_nil) rfl fun y46 hy47 => ?_
 obtain ⟨x148, x249⟩ := y46
 try dsimp only
 refine RK hK45 ?_
 refine w_block ?_
 refine w_rangeG (L0 := [(2, (Value.pointer (some ⟨b2, 0, none⟩))), (3, (Value.pointer (some ⟨b3, 0, none⟩))), (6, (Value.pointer (some ⟨gw8, 0, none⟩))), (8, (Value.int .i64 (minL (whereV l r)))), (9, (Value.slice a ((missedL (watchL l r) b).length) c)), (10, (Value.int .i64 ((b : Nat) : Int))), (11, (Value.pointer (some ⟨b43, 0, none⟩))), (25, (Value.int .i64 (minL (whereV l r)))), (26, (Value.int .i64 ((b : Nat) : Int)))]) (F := [(own eA9 eC10 3 1 ((leasts l l.Beams.length).map iC)), (own tA11 tC12 143 1 (List.zipWith mapC (timesT l r.Signals r.Signals.length) tb13)), (bund (nest tmR (timesT l r.Signals r.Signals.length) tb13)), (own fA16 fC17 144 1 (List.zipWith mapC fs14 fb15)), (bund (nest fmR fs14 fb15)), (own qA20 qC21 144 1 (List.zipWith mapC bs18 bb19)), (bund (nest fmR bs18 bb19)), (blk gw8 142 (WatchV.cells (WatchV.mk (LineV.mk (TrackV.mk (Slc.mk kA l.Track.length kC)) l.Fast (Slc.mk cA l.Clocks.length cC) (Slc.mk bA l.Beams.length bC) l.Finish l.Fakes l.Misses) (RideV.mk r.Start r.Now (Slc.mk sgA r.Signals.length sgC)) (Slc.mk eA9 ((leasts l l.Beams.length).length) eC10) (Slc.mk tA11 ((timesT l r.Signals r.Signals.length).length) tC12) (Slc.mk fA16 fs14.length fC17) (Slc.mk qA20 bs18.length qC21)))), (blk x148 107 [(Value.pointer (some ⟨gw8, 0, none⟩))]), (blk x249 3 [(Value.int .i64 ((b : Nat) : Int))])])  (fun k (y : Bool) => (y = true ↔ ∃ q ∈ k, 0 ≤ q.1) ∧ (∀ q ∈ k, q ∈ passM (watchL l r) b mf mb)) (fun k y => [(blk b43 4 [(Value.bool y)]), (bund (rs7.map defd)), (own a c 3 1 ((missedL (watchL l r) b).map iC)), (own a31 c32 3 1 ((whereV l r).map iC)), (blk b3 69 (RideV.cells (RideV.mk r.Start r.Now (Slc.mk sgA r.Signals.length sgC)))), (blk b2 28 (LineV.cells (LineV.mk (TrackV.mk (Slc.mk kA l.Track.length kC)) l.Fast (Slc.mk cA l.Clocks.length cC) (Slc.mk bA l.Beams.length bC) l.Finish l.Fakes l.Misses))), (rd kA l.Track.length 9 (l.Track.map StretchV.cells)).ro, (rd cA l.Clocks.length 2 (List.zipWith ClockM.cells l.Clocks az)).ro, (bun (nest ClockM.rds l.Clocks az)).ro, (rd bA l.Beams.length 4 (l.Beams.map BeamV.cells)).ro, (rd sgA r.Signals.length 2 (r.Signals.map SignalV.cells)).ro]) (fun _ (_ : Unit) => False) (fun _ _ => []) [2, 3, 4, 5, 14, 15, 16, 17, 18, 19, 20] [7, 8, 9, 10, 11, 12, 13, 6, 0, 1] false rfl rfl (passes1_c (LineV.mk (TrackV.mk (Slc.mk kA l.Track.length kC)) l.Fast (Slc.mk cA l.Clocks.length cC) (Slc.mk bA l.Beams.length bC) l.Finish l.Fakes l.Misses) (RideV.mk r.Start r.Now (Slc.mk sgA r.Signals.length sgC)) (leasts l l.Beams.length) (timesT l r.Signals r.Signals.length) eA9 eC10 tb13 tA11 tC12 fs14 bs18 fb15 fA16 fC17 bb19 qA20 qC21 gw8 b x148 x249 mf mb (by rw [hlel]; omega) (by exact hwo) (by rw [htll]; omega) (by exact hfw) (by omega) (by exact hbw) (by omega) (by show r.Signals.length ≤ 1000; omega) (by exact hm1) (by exact hm2)) rfl rfl rfl (by exact ⟨sb_nil, fun q hq => by cases hq⟩) (by simp only [List.forall_mem_cons, List.not_mem_nil, false_imp_iff, implies_true, and_true]; exact ⟨⟨_, List.mem_of_getElem? (i := 0) rfl, (cov_own_n (by simp))⟩, ⟨_, List.mem_of_getElem? (i := 1) rfl, (cov_own_n (by rw [List.length_zipWith]; omega))⟩, ⟨_, List.mem_of_getElem? (i := 2) rfl, cov_bund⟩, ⟨_, List.mem_of_getElem? (i := 3) rfl, (cov_own_n (by rw [List.length_zipWith]; omega))⟩, ⟨_, List.mem_of_getElem? (i := 4) rfl, cov_bund⟩, ⟨_, List.mem_of_getElem? (i := 5) rfl, (cov_own_n (by rw [List.length_zipWith]; omega))⟩, ⟨_, List.mem_of_getElem? (i := 6) rfl, cov_bund⟩, ⟨_, List.mem_of_getElem? (i := 7) rfl, (cov_refl _)⟩, ⟨_, List.mem_of_getElem? (i := 8) rfl, (cov_refl _)⟩, ⟨_, List.mem_of_getElem? (i := 9) rfl, (cov_refl _)⟩⟩) (by rintro k x k2 ⟨o, _, rfl, _⟩; rfl) rfl (Sub.cons rfl <| Sub.cons rfl <| Sub.cons rfl <| Sub.cons rfl <| Sub.cons rfl <| Sub.cons rfl <| Sub.cons rfl <| Sub.cons rfl <| Sub.cons rfl <| Sub.nil _) ?_ ?_ (fun _ _ _ h => h.elim) (fun _ _ h => h.elim)
 · rintro k x k2 sb lr ra rb S w1 K50 Qr51 hsz hx hin52 hK50 hQr51 xQr51 yQr51
   obtain ⟨q, hq, rfl, rfl⟩ := hx
   obtain ⟨hr0, hr1⟩ := hin52
   try dsimp only
   refine w_region ?_
   refine rS (AG rfl) ?_
   refine r_nil ?_
   refine k_then (hK50 _ _ ?_)
   refine w_block ?_
   refine w_region ?_
   refine rS (L1W 1 rfl tk4 rfl) ?_
   refine rS (MV rfl) ?_
   refine r_bool (t := 35) rfl (fun h35 => ?_) (fun h35 => ?_)
   · refine rS (OX rfl) ?_
     refine rS (OX rfl) ?_
     refine rS (PK rfl) ?_
     refine SO1 rfl ts4 rfl rfl ?_
     refine r_nil ?_
     refine k_block ?_
     exact hQr51 true _ _ (by refine ⟨by first | exact sb_yes hr0 h35 | exact sb_no hr0 h35, fun z hz => ?_⟩; (rcases List.mem_append.1 hz with hz | hz; exact hr1 z hz; (rw [List.mem_singleton.1 hz]; exact hq))) (fun w hs => St.sel [0, 1, 2, 3, 4, 5, 6, 7, 8, 9, 10, 11] rfl rfl hs)
   refine rS (MV rfl) ?_
   refine rS (BI rfl b_geq) ?_
   refine rS (PK rfl) ?_
   refine SO1 rfl ts4 rfl rfl ?_
   refine r_nil ?_
   refine k_block ?_
   exact hQr51 (decide (0 ≤ q.1)) _ _ (by refine ⟨by first | exact sb_yes hr0 h35 | exact sb_no hr0 h35, fun z hz => ?_⟩; (rcases List.mem_append.1 hz with hz | hz; exact hr1 z hz; (rw [List.mem_singleton.1 hz]; exact hq))) (fun w hs => St.sel [0, 1, 2, 3, 4, 5, 6, 7, 8, 9, 10, 11] rfl rfl hs)
 rintro r53 k sb hfin hin54
 obtain ⟨hr0, hr1⟩ := hin54
 try dsimp only
 refine k_block ?_
 refine KK hK44 ?_
 refine WS fun _ hK55 => ?_
 have hrt : rightIn (watchL l r) b = sb := right_eq (seen_pass (hfw.min _ _ hm1) (hbw.max _ _ hm2) (hfw.keys _ _ hm1) (hbw.keys _ _ hm2) hr1 hfin (fun z => 0 ≤ z)) hr0
 refine rS (L1W 11 rfl tk4 rfl) ?_
 refine rS (NT rfl) ?_
 refine RK hK55 ?_
 refine w_if rfl (fun h40 => ?_) (fun h40 => ?_)
 rotate_left 1
 · rw [Bool.not_eq_false'] at h40
   refine w_skip ?_
   refine k_block ?_
   refine KK hK40 ?_
   refine w_region ?_
   refine rS (BI rfl (b_add ⟨by omega, by omega⟩)) ?_
   refine rS (MV rfl) ?_
   refine r_nil ?_
   refine k_tief (X := rs7.map defd) 12 0 rfl rfl ?_
   try dsimp only
   rw [show (missedL (watchL l r) b) = (missedL (watchL l r) (b + 1)) from (missed_no (hrt.trans h40)).symm]
   have hb60 : (Value.int .i64 (((b + 1) : Nat) : Int)) = (Value.int .i64 (((b : Nat) : Int) + 1)) := by exact congrArg (Value.int .i64) (by omega)
   refine k_then (hJ36 ⟨((b + 1), a, c, (r53 :: rs7)), (by first | omega | (simp only []; omega))⟩ _ _ _ rfl (by first | omega | (simp; omega)) (Sub.cons rfl <| Sub.cons rfl <| Sub.cons rfl <| Sub.cons rfl <| Sub.cons rfl <| Sub.cons rfl <| sub_val rfl hb60 <| Sub.nil _) (fun w hs => St.sel [0, 12, 13, 8, 1, 2, 3, 4, 5, 6, 7, 14, 15, 16, 17, 18, 19, 20] rfl rfl hs))
 rw [Bool.not_eq_true'] at h40
 refine w_region ?_
 refine rS (MV rfl) ?_
 refine rS (MV rfl) ?_
 refine r_bs (xs := [.tmp 42]) (cs := [(Value.int .i64 ((b : Nat) : Int))]) rfl te57 tz3 rfl rfl rfl rfl (by simp [Value.cells]) rfl rfl fun b56 => ?_
 refine r_append (es2 := (List.map iC (missedL (watchL l r) (b + 1)))) (m' := (missedL (watchL l r) (b + 1)).length) 14 rfl rfl rfl ta57 rfl rfl (by simp) (has_rd_blk (es := List.map iC [((b : Nat) : Int)]) 0 rfl rfl (by simp [iC_length]) rfl) (one_iC _) (by have := missed_len (w := (watchL l r)) (k := b); first | omega | (simp; omega)) (by have h1 := missed_len (w := (watchL l r)) (k := b + 1); have h2 := missed_len (w := (watchL l r)) (k := b); simp only [maxLen]; omega) (by rw [missed_yes (hrt.trans h40)]; simp) (by simp) rfl fun a57 c58 => ?_
 try dsimp only
 refine rS (AG rfl) ?_
 refine r_nil ?_
 refine k_block ?_
 refine KK hK40 ?_
 refine w_region ?_
 refine rS (BI rfl (b_add ⟨by omega, by omega⟩)) ?_
 refine rS (MV rfl) ?_
 refine r_nil ?_
 refine k_tief (X := rs7.map defd) 13 1 rfl rfl ?_
 try dsimp only
 have hb59 : (Value.int .i64 (((b + 1) : Nat) : Int)) = (Value.int .i64 (((b : Nat) : Int) + 1)) := by exact congrArg (Value.int .i64) (by omega)
 refine k_then (hJ36 ⟨((b + 1), a57, c58, (r53 :: rs7)), (by first | omega | (simp only []; omega))⟩ _ _ _ rfl (by first | omega | (simp; omega)) (Sub.cons rfl <| Sub.cons rfl <| Sub.cons rfl <| Sub.cons rfl <| Sub.cons rfl <| Sub.cons rfl <| sub_val rfl hb59 <| Sub.nil _) (fun w hs => St.sel [0, 13, 14, 9, 2, 3, 4, 5, 6, 7, 8, 15, 16, 17, 18, 19, 20, 21] rfl rfl hs))
end
section
open Go.RowKit
set_option linter.unusedVariables false
theorem zip_len {l : List ClockM} {az : List RA} (h : az.length = l.length) : (List.zipWith ClockM.cells l az).length = l.length := by simp [h]
theorem bund_owns_wr {l : List ClockM} {bz : List RA} : (bund (nest ClockM.owns l bz)).wr = true := by
  show (nest ClockM.owns l bz).all (·.wr) = true
  rw [List.all_eq_true]
  intro X hX
  obtain ⟨k, m, a, _, _, h⟩ := nest_mem hX
  simp only [ClockM.owns, List.mem_singleton] at h
  subst h; rfl
theorem owns_rds : ∀ (m : ClockM) (a : RA) (w : World), (∀ X ∈ ClockM.owns m a, X.holds w) → ∀ X ∈ ClockM.rds m a, X.holds w := fun m a w h X hX => by
  simp only [ClockM.rds, List.mem_singleton] at hX
  subst hX
  have := own_rd (h _ (List.mem_singleton.2 rfl))
  simpa using this
section
variable {E : Env} {ops : Array Oper} {Q : Post} {rest : List Oper} {D : List Deferred} {L : List (Nat × Value)} {C : List Assn}
end
end
section
open Go.RowKit
set_option linter.unusedVariables false
set_option maxRecDepth 100000 in
set_option maxHeartbeats 400000 in
theorem lspan_c (x : Int) (y : Int) :
    FnV Try.prog 35 [(Value.int .i64 x), (Value.int .i64 y)] [] (Value.agg (SpanV.cells (SpanV.mk x y)).toArray) := by
 refine fnV_of go35 Try.func35 rfl rfl fun w0 Q hQ hN => ?_
 try dsimp only
 refine WS fun _ hK1 => ?_
 refine AL rfl tz34 fun b2 => ?_
 refine RK hK1 ?_
 refine WS fun _ hK3 => ?_
 refine rS (MV rfl) ?_
 refine rS (MV rfl) ?_
 refine rS (SX (sd_build (xs := [(0, .tmp 5), (1, .tmp 6)]) (cs := (SpanV.cells (SpanV.mk x y))) rfl rfl (built_of tb34 rfl)) rfl rfl) ?_
 refine SW0 rfl ts34 rfl ?_
 refine RK hK3 ?_
 refine w_ret ?_
 refine hQ _ _ _ (l_nil (vs := [(Value.agg (SpanV.cells (SpanV.mk x y)).toArray)]) ⟨⟨_, rfl, .inl ⟨_, _, tk34, at_blk (vs := (SpanV.cells (SpanV.mk x y))) 0 rfl rfl, rfl, rfl⟩⟩, trivial⟩ fun w hs => endV ?_ hs)
 show (Value.agg (SpanV.cells (SpanV.mk x y)).toArray) = (Value.agg (SpanV.cells (SpanV.mk x y)).toArray)
 clear hs w hQ hN hK3 hK1
 rfl
set_option maxRecDepth 100000 in
set_option maxHeartbeats 400000 in
theorem line1_c  :
    FnX Try.prog 39 [(Value.int .i64 1)] [] (fun (x : (Option Addr) × Nat × (Option Addr) × Nat × (List RA) × (Option Addr) × Nat) => (Value.agg (LineV.cells (LineV.mk (TrackV.mk (Slc.mk x.1 exL1.Track.length x.2.1)) exL1.Fast (Slc.mk x.2.2.1 exL1.Clocks.length x.2.2.2.1) (Slc.mk x.2.2.2.2.2.1 exL1.Beams.length x.2.2.2.2.2.2) exL1.Finish exL1.Fakes exL1.Misses)).toArray)) (fun (x : (Option Addr) × Nat × (Option Addr) × Nat × (List RA) × (Option Addr) × Nat) => x.2.2.2.2.1.length = exL1.Clocks.length ∧ LineIn exL1 x.2.2.2.2.1) (fun (x : (Option Addr) × Nat × (Option Addr) × Nat × (List RA) × (Option Addr) × Nat) => [(own x.1 x.2.1 126 9 (exL1.Track.map StretchV.cells)), (own x.2.2.1 x.2.2.2.1 64 2 (List.zipWith ClockM.cells exL1.Clocks x.2.2.2.2.1)), (bund (nest ClockM.owns exL1.Clocks x.2.2.2.2.1)), (own x.2.2.2.2.2.1 x.2.2.2.2.2.2 55 4 (exL1.Beams.map BeamV.cells))]) := by
 refine fnX_of go39 Try.func39 rfl rfl fun w0 Q hQ hN => ?_
 try dsimp only
 refine WS fun _ hK1 => ?_
 refine AL rfl tz28 fun b2 => ?_
 refine RK hK1 ?_
 refine WS fun _ hK3 => ?_
 refine rS (CL (lspan_c 10000 10200) (ha_nil) rfl) ?_
 refine rS (SX (sd_build (xs := [(0, .const (Value.int .i64 1)), (1, .tmp 3)]) (cs := (StretchV.cells (StretchV.mk 1 (SpanV.mk 10000 10200) (SpanV.mk 0 0) (SpanV.mk 0 0) 0 0))) rfl rfl (built_of tb126 rfl)) rfl rfl) ?_
 refine r_bs (xs := [.tmp 4]) (cs := (StretchV.cells (StretchV.mk 1 (SpanV.mk 10000 10200) (SpanV.mk 0 0) (SpanV.mk 0 0) 0 0))) rfl te22 tz126 rfl rfl rfl rfl (by simp [Value.cells, StretchV.cells_length]) rfl rfl fun b4 => ?_
 refine rS (SX (sd_build (xs := [(0, .tmp 5)]) (cs := (TrackV.cells (TrackV.mk (Slc.mk (some ⟨b4, 0, none⟩) 1 1)))) rfl rfl (built_of tb24 rfl)) rfl rfl) ?_
 refine rS (MV rfl) ?_
 refine rS (CL (lspan_c 0 2) (ha_nil) rfl) ?_
 refine rS (SX (sd_build (xs := [(0, .const (Value.int .i64 0)), (1, .tmp 8)]) (cs := (SyncV.cells (SyncV.mk 0 (SpanV.mk 0 2)))) rfl rfl (built_of tb61 rfl)) rfl rfl) ?_
 refine rS (CL (lspan_c 5 6) (ha_nil) rfl) ?_
 refine rS (SX (sd_build (xs := [(0, .const (Value.int .i64 100000)), (1, .tmp 10)]) (cs := (SyncV.cells (SyncV.mk 100000 (SpanV.mk 5 6)))) rfl rfl (built_of tb61 rfl)) rfl rfl) ?_
 refine r_bs (xs := [.tmp 9, .tmp 11]) (cs := ((SyncV.cells (SyncV.mk 0 (SpanV.mk 0 2))) ++ (SyncV.cells (SyncV.mk 100000 (SpanV.mk 5 6))))) rfl te62 tz61 rfl rfl rfl rfl (by simp [Value.cells, SyncV.cells_length]) rfl rfl fun b5 => ?_
 refine rS (SX (sd_build (xs := [(0, .const (Value.int .i64 100)), (1, .tmp 12)]) (cs := (ClockV.cells (ClockV.mk 100 (Slc.mk (some ⟨b5, 0, none⟩) 2 2)))) rfl rfl (built_of tb64 rfl)) rfl rfl) ?_
 refine r_bs (xs := [.tmp 13]) (cs := (ClockV.cells (ClockV.mk 100 (Slc.mk (some ⟨b5, 0, none⟩) 2 2)))) rfl te25 tz64 rfl rfl rfl rfl (by simp [Value.cells, ClockV.cells_length]) rfl rfl fun b6 => ?_
 refine rS (CL (lspan_c 1000 1000) (ha_nil) rfl) ?_
 refine rS (SX (sd_build (xs := [(1, .tmp 15)]) (cs := (SpotV.cells (SpotV.mk 0 (SpanV.mk 1000 1000)))) rfl rfl (built_of tb53 rfl)) rfl rfl) ?_
 refine rS (SX (sd_build (xs := [(0, .tmp 16)]) (cs := (BeamV.cells (BeamV.mk (SpotV.mk 0 (SpanV.mk 1000 1000)) 0))) rfl rfl (built_of tb55 rfl)) rfl rfl) ?_
 refine rS (CL (lspan_c 4000 4000) (ha_nil) rfl) ?_
 refine rS (SX (sd_build (xs := [(1, .tmp 18)]) (cs := (SpotV.cells (SpotV.mk 0 (SpanV.mk 4000 4000)))) rfl rfl (built_of tb53 rfl)) rfl rfl) ?_
 refine rS (SX (sd_build (xs := [(0, .tmp 19)]) (cs := (BeamV.cells (BeamV.mk (SpotV.mk 0 (SpanV.mk 4000 4000)) 0))) rfl rfl (built_of tb55 rfl)) rfl rfl) ?_
 refine rS (CL (lspan_c 9000 9000) (ha_nil) rfl) ?_
 refine rS (SX (sd_build (xs := [(1, .tmp 21)]) (cs := (SpotV.cells (SpotV.mk 0 (SpanV.mk 9000 9000)))) rfl rfl (built_of tb53 rfl)) rfl rfl) ?_
 refine rS (SX (sd_build (xs := [(0, .tmp 22)]) (cs := (BeamV.cells (BeamV.mk (SpotV.mk 0 (SpanV.mk 9000 9000)) 0))) rfl rfl (built_of tb55 rfl)) rfl rfl) ?_
 refine r_bs (xs := [.tmp 17, .tmp 20, .tmp 23]) (cs := ((BeamV.cells (BeamV.mk (SpotV.mk 0 (SpanV.mk 1000 1000)) 0)) ++ (BeamV.cells (BeamV.mk (SpotV.mk 0 (SpanV.mk 4000 4000)) 0)) ++ (BeamV.cells (BeamV.mk (SpotV.mk 0 (SpanV.mk 9000 9000)) 0)))) rfl te26 tz55 rfl rfl rfl rfl (by simp [Value.cells, BeamV.cells_length]) rfl rfl fun b7 => ?_
 refine rS (SX (sd_build (xs := [(0, .tmp 6), (1, .const (Value.int .i64 2000)), (4, .const (Value.int .i64 1)), (5, .tmp 7), (6, .const (Value.int .i64 1)), (2, .tmp 14), (3, .tmp 24)]) (cs := (LineV.cells (LineV.mk (TrackV.mk (Slc.mk (some ⟨b4, 0, none⟩) 1 1)) 2000 (Slc.mk (some ⟨b6, 0, none⟩) 1 1) (Slc.mk (some ⟨b7, 0, none⟩) 3 3) 1 1 1))) rfl rfl (built_of tb28 rfl)) rfl rfl) ?_
 refine r_blk_own (es := (exL1.Track.map StretchV.cells)) (C' := [_, _, _, (own (some ⟨b4, 0, none⟩) 1 126 9 (exL1.Track.map StretchV.cells)), _]) 3 rfl (map_len StretchV.cells_length _) rfl (by show _ ≤ maxLen; exact Nat.le_trans (m := 10) (by first | decide | (show (1 : Nat) ≤ 10; decide)) (by decide)) rfl ?_
 refine r_blk_own (es := (exC.Syncs.map SyncV.cells)) (C' := [_, _, (own (some ⟨b5, 0, none⟩) 2 61 3 (exC.Syncs.map SyncV.cells)), _, _]) 2 rfl (map_len SyncV.cells_length _) rfl (by show _ ≤ maxLen; exact Nat.le_trans (m := 10) (by first | decide | (show (1 : Nat) ≤ 10; decide)) (by decide)) rfl ?_
 refine r_blk_own (es := (List.zipWith ClockM.cells exL1.Clocks [((some ⟨b5, 0, none⟩), 2)])) (C' := [_, (own (some ⟨b6, 0, none⟩) 1 64 2 (List.zipWith ClockM.cells exL1.Clocks [((some ⟨b5, 0, none⟩), 2)])), _, _, _]) 1 rfl (by intro x hx; change x ∈ [ClockM.cells exC ((some ⟨b5, 0, none⟩), 2)] at hx; rw [List.mem_singleton.1 hx]; rfl) rfl (by show _ ≤ maxLen; exact Nat.le_trans (m := 10) (by first | decide | (show (1 : Nat) ≤ 10; decide)) (by decide)) rfl ?_
 refine r_blk_own (es := (exL1.Beams.map BeamV.cells)) (C' := [(own (some ⟨b7, 0, none⟩) 3 55 4 (exL1.Beams.map BeamV.cells)), _, _, _, _]) 0 rfl (map_len BeamV.cells_length _) rfl (by show _ ≤ maxLen; exact Nat.le_trans (m := 10) (by first | decide | (show (1 : Nat) ≤ 10; decide)) (by decide)) rfl ?_
 refine r_tie0 ?_
 refine r_tie (X := []) (X' := nest ClockM.owns exL1.Clocks [((some ⟨b5, 0, none⟩), 2)]) 0 3 rfl rfl rfl ?_
 refine SW4 rfl ts28 rfl ?_
 refine RK hK3 ?_
 refine w_ret ?_
 refine hQ _ _ _ (l_nil (vs := [(Value.agg (LineV.cells (LineV.mk (TrackV.mk (Slc.mk (some ⟨b4, 0, none⟩) 1 1)) 2000 (Slc.mk (some ⟨b6, 0, none⟩) 1 1) (Slc.mk (some ⟨b7, 0, none⟩) 3 3) 1 1 1)).toArray)]) ⟨⟨_, rfl, .inl ⟨_, _, tk28, at_blk (vs := (LineV.cells (LineV.mk (TrackV.mk (Slc.mk (some ⟨b4, 0, none⟩) 1 1)) 2000 (Slc.mk (some ⟨b6, 0, none⟩) 1 1) (Slc.mk (some ⟨b7, 0, none⟩) 3 3) 1 1 1))) 4 rfl rfl, rfl, rfl⟩⟩, trivial⟩ fun w hs => endX ((some ⟨b4, 0, none⟩), 1, (some ⟨b6, 0, none⟩), 1, [((some ⟨b5, 0, none⟩), 2)], (some ⟨b7, 0, none⟩), 3) [3, 2, 0, 1] ?_ ?_ rfl rfl (by simp only [List.all_cons, List.all_nil, bund_owns_wr, Bool.and_true]; rfl) hs)
 · rfl
 · exact ⟨rfl, ex_in _ (by decide)⟩
set_option maxRecDepth 100000 in
set_option maxHeartbeats 400000 in
theorem line0_c  :
    FnX Try.prog 39 [(Value.int .i64 0)] [] (fun (x : (Option Addr) × Nat × (Option Addr) × Nat × (List RA) × (Option Addr) × Nat) => (Value.agg (LineV.cells (LineV.mk (TrackV.mk (Slc.mk x.1 exL0.Track.length x.2.1)) exL0.Fast (Slc.mk x.2.2.1 exL0.Clocks.length x.2.2.2.1) (Slc.mk x.2.2.2.2.2.1 exL0.Beams.length x.2.2.2.2.2.2) exL0.Finish exL0.Fakes exL0.Misses)).toArray)) (fun (x : (Option Addr) × Nat × (Option Addr) × Nat × (List RA) × (Option Addr) × Nat) => x.2.2.2.2.1.length = exL0.Clocks.length ∧ LineIn exL0 x.2.2.2.2.1) (fun (x : (Option Addr) × Nat × (Option Addr) × Nat × (List RA) × (Option Addr) × Nat) => [(own x.1 x.2.1 126 9 (exL0.Track.map StretchV.cells)), (own x.2.2.1 x.2.2.2.1 64 2 (List.zipWith ClockM.cells exL0.Clocks x.2.2.2.2.1)), (bund (nest ClockM.owns exL0.Clocks x.2.2.2.2.1)), (own x.2.2.2.2.2.1 x.2.2.2.2.2.2 55 4 (exL0.Beams.map BeamV.cells))]) := by
 refine fnX_of go39 Try.func39 rfl rfl fun w0 Q hQ hN => ?_
 try dsimp only
 refine WS fun _ hK1 => ?_
 refine AL rfl tz28 fun b2 => ?_
 refine RK hK1 ?_
 refine WS fun _ hK3 => ?_
 refine rS (CL (lspan_c 10000 10200) (ha_nil) rfl) ?_
 refine rS (SX (sd_build (xs := [(0, .const (Value.int .i64 1)), (1, .tmp 3)]) (cs := (StretchV.cells (StretchV.mk 1 (SpanV.mk 10000 10200) (SpanV.mk 0 0) (SpanV.mk 0 0) 0 0))) rfl rfl (built_of tb126 rfl)) rfl rfl) ?_
 refine r_bs (xs := [.tmp 4]) (cs := (StretchV.cells (StretchV.mk 1 (SpanV.mk 10000 10200) (SpanV.mk 0 0) (SpanV.mk 0 0) 0 0))) rfl te22 tz126 rfl rfl rfl rfl (by simp [Value.cells, StretchV.cells_length]) rfl rfl fun b4 => ?_
 refine rS (SX (sd_build (xs := [(0, .tmp 5)]) (cs := (TrackV.cells (TrackV.mk (Slc.mk (some ⟨b4, 0, none⟩) 1 1)))) rfl rfl (built_of tb24 rfl)) rfl rfl) ?_
 refine rS (MV rfl) ?_
 refine rS (CL (lspan_c 0 2) (ha_nil) rfl) ?_
 refine rS (SX (sd_build (xs := [(0, .const (Value.int .i64 0)), (1, .tmp 8)]) (cs := (SyncV.cells (SyncV.mk 0 (SpanV.mk 0 2)))) rfl rfl (built_of tb61 rfl)) rfl rfl) ?_
 refine rS (CL (lspan_c 5 6) (ha_nil) rfl) ?_
 refine rS (SX (sd_build (xs := [(0, .const (Value.int .i64 100000)), (1, .tmp 10)]) (cs := (SyncV.cells (SyncV.mk 100000 (SpanV.mk 5 6)))) rfl rfl (built_of tb61 rfl)) rfl rfl) ?_
 refine r_bs (xs := [.tmp 9, .tmp 11]) (cs := ((SyncV.cells (SyncV.mk 0 (SpanV.mk 0 2))) ++ (SyncV.cells (SyncV.mk 100000 (SpanV.mk 5 6))))) rfl te62 tz61 rfl rfl rfl rfl (by simp [Value.cells, SyncV.cells_length]) rfl rfl fun b5 => ?_
 refine rS (SX (sd_build (xs := [(0, .const (Value.int .i64 100)), (1, .tmp 12)]) (cs := (ClockV.cells (ClockV.mk 100 (Slc.mk (some ⟨b5, 0, none⟩) 2 2)))) rfl rfl (built_of tb64 rfl)) rfl rfl) ?_
 refine r_bs (xs := [.tmp 13]) (cs := (ClockV.cells (ClockV.mk 100 (Slc.mk (some ⟨b5, 0, none⟩) 2 2)))) rfl te25 tz64 rfl rfl rfl rfl (by simp [Value.cells, ClockV.cells_length]) rfl rfl fun b6 => ?_
 refine rS (CL (lspan_c 1000 1000) (ha_nil) rfl) ?_
 refine rS (SX (sd_build (xs := [(1, .tmp 15)]) (cs := (SpotV.cells (SpotV.mk 0 (SpanV.mk 1000 1000)))) rfl rfl (built_of tb53 rfl)) rfl rfl) ?_
 refine rS (SX (sd_build (xs := [(0, .tmp 16)]) (cs := (BeamV.cells (BeamV.mk (SpotV.mk 0 (SpanV.mk 1000 1000)) 0))) rfl rfl (built_of tb55 rfl)) rfl rfl) ?_
 refine rS (CL (lspan_c 4000 4000) (ha_nil) rfl) ?_
 refine rS (SX (sd_build (xs := [(1, .tmp 18)]) (cs := (SpotV.cells (SpotV.mk 0 (SpanV.mk 4000 4000)))) rfl rfl (built_of tb53 rfl)) rfl rfl) ?_
 refine rS (SX (sd_build (xs := [(0, .tmp 19)]) (cs := (BeamV.cells (BeamV.mk (SpotV.mk 0 (SpanV.mk 4000 4000)) 0))) rfl rfl (built_of tb55 rfl)) rfl rfl) ?_
 refine rS (CL (lspan_c 9000 9000) (ha_nil) rfl) ?_
 refine rS (SX (sd_build (xs := [(1, .tmp 21)]) (cs := (SpotV.cells (SpotV.mk 0 (SpanV.mk 9000 9000)))) rfl rfl (built_of tb53 rfl)) rfl rfl) ?_
 refine rS (SX (sd_build (xs := [(0, .tmp 22)]) (cs := (BeamV.cells (BeamV.mk (SpotV.mk 0 (SpanV.mk 9000 9000)) 0))) rfl rfl (built_of tb55 rfl)) rfl rfl) ?_
 refine r_bs (xs := [.tmp 17, .tmp 20, .tmp 23]) (cs := ((BeamV.cells (BeamV.mk (SpotV.mk 0 (SpanV.mk 1000 1000)) 0)) ++ (BeamV.cells (BeamV.mk (SpotV.mk 0 (SpanV.mk 4000 4000)) 0)) ++ (BeamV.cells (BeamV.mk (SpotV.mk 0 (SpanV.mk 9000 9000)) 0)))) rfl te26 tz55 rfl rfl rfl rfl (by simp [Value.cells, BeamV.cells_length]) rfl rfl fun b7 => ?_
 refine rS (SX (sd_build (xs := [(0, .tmp 6), (1, .const (Value.int .i64 2000)), (4, .const (Value.int .i64 1)), (5, .tmp 7), (6, .const (Value.int .i64 1)), (2, .tmp 14), (3, .tmp 24)]) (cs := (LineV.cells (LineV.mk (TrackV.mk (Slc.mk (some ⟨b4, 0, none⟩) 1 1)) 2000 (Slc.mk (some ⟨b6, 0, none⟩) 1 1) (Slc.mk (some ⟨b7, 0, none⟩) 3 3) 1 0 1))) rfl rfl (built_of tb28 rfl)) rfl rfl) ?_
 refine r_blk_own (es := (exL0.Track.map StretchV.cells)) (C' := [_, _, _, (own (some ⟨b4, 0, none⟩) 1 126 9 (exL0.Track.map StretchV.cells)), _]) 3 rfl (map_len StretchV.cells_length _) rfl (by show _ ≤ maxLen; exact Nat.le_trans (m := 10) (by first | decide | (show (1 : Nat) ≤ 10; decide)) (by decide)) rfl ?_
 refine r_blk_own (es := (exC.Syncs.map SyncV.cells)) (C' := [_, _, (own (some ⟨b5, 0, none⟩) 2 61 3 (exC.Syncs.map SyncV.cells)), _, _]) 2 rfl (map_len SyncV.cells_length _) rfl (by show _ ≤ maxLen; exact Nat.le_trans (m := 10) (by first | decide | (show (1 : Nat) ≤ 10; decide)) (by decide)) rfl ?_
 refine r_blk_own (es := (List.zipWith ClockM.cells exL0.Clocks [((some ⟨b5, 0, none⟩), 2)])) (C' := [_, (own (some ⟨b6, 0, none⟩) 1 64 2 (List.zipWith ClockM.cells exL0.Clocks [((some ⟨b5, 0, none⟩), 2)])), _, _, _]) 1 rfl (by intro x hx; change x ∈ [ClockM.cells exC ((some ⟨b5, 0, none⟩), 2)] at hx; rw [List.mem_singleton.1 hx]; rfl) rfl (by show _ ≤ maxLen; exact Nat.le_trans (m := 10) (by first | decide | (show (1 : Nat) ≤ 10; decide)) (by decide)) rfl ?_
 refine r_blk_own (es := (exL0.Beams.map BeamV.cells)) (C' := [(own (some ⟨b7, 0, none⟩) 3 55 4 (exL0.Beams.map BeamV.cells)), _, _, _, _]) 0 rfl (map_len BeamV.cells_length _) rfl (by show _ ≤ maxLen; exact Nat.le_trans (m := 10) (by first | decide | (show (1 : Nat) ≤ 10; decide)) (by decide)) rfl ?_
 refine r_tie0 ?_
 refine r_tie (X := []) (X' := nest ClockM.owns exL0.Clocks [((some ⟨b5, 0, none⟩), 2)]) 0 3 rfl rfl rfl ?_
 refine SW4 rfl ts28 rfl ?_
 refine RK hK3 ?_
 refine w_ret ?_
 refine hQ _ _ _ (l_nil (vs := [(Value.agg (LineV.cells (LineV.mk (TrackV.mk (Slc.mk (some ⟨b4, 0, none⟩) 1 1)) 2000 (Slc.mk (some ⟨b6, 0, none⟩) 1 1) (Slc.mk (some ⟨b7, 0, none⟩) 3 3) 1 0 1)).toArray)]) ⟨⟨_, rfl, .inl ⟨_, _, tk28, at_blk (vs := (LineV.cells (LineV.mk (TrackV.mk (Slc.mk (some ⟨b4, 0, none⟩) 1 1)) 2000 (Slc.mk (some ⟨b6, 0, none⟩) 1 1) (Slc.mk (some ⟨b7, 0, none⟩) 3 3) 1 0 1))) 4 rfl rfl, rfl, rfl⟩⟩, trivial⟩ fun w hs => endX ((some ⟨b4, 0, none⟩), 1, (some ⟨b6, 0, none⟩), 1, [((some ⟨b5, 0, none⟩), 2)], (some ⟨b7, 0, none⟩), 3) [3, 2, 0, 1] ?_ ?_ rfl rfl (by simp only [List.all_cons, List.all_nil, bund_owns_wr, Bool.and_true]; rfl) hs)
 · rfl
 · exact ⟨rfl, ex_in _ (by decide)⟩
set_option maxRecDepth 100000 in
set_option maxHeartbeats 400000 in
theorem exride_c  :
    FnX Try.prog 41 [] [] (fun (x : (Option Addr) × Nat) => (Value.agg (RideV.cells (RideV.mk exR.Start exR.Now (Slc.mk x.1 exR.Signals.length x.2))).toArray)) (fun (x : (Option Addr) × Nat) => True) (fun (x : (Option Addr) × Nat) => [(own x.1 x.2 30 2 (exR.Signals.map SignalV.cells))]) := by
 refine fnX_of go41 Try.func41 rfl rfl fun w0 Q hQ hN => ?_
 try dsimp only
 refine WS fun _ hK1 => ?_
 refine AL rfl tz69 fun b2 => ?_
 refine RK hK1 ?_
 refine WS fun _ hK3 => ?_
 refine rS (SX (sd_build (xs := [(0, .const (Value.int .i64 0)), (1, .const (Value.int .i64 10600))]) (cs := (SignalV.cells (SignalV.mk 0 10600))) rfl rfl (built_of tb30 rfl)) rfl rfl) ?_
 refine rS (SX (sd_build (xs := [(0, .const (Value.int .i64 0)), (1, .const (Value.int .i64 11000))]) (cs := (SignalV.cells (SignalV.mk 0 11000))) rfl rfl (built_of tb30 rfl)) rfl rfl) ?_
 refine rS (SX (sd_build (xs := [(0, .const (Value.int .i64 1)), (1, .const (Value.int .i64 12600))]) (cs := (SignalV.cells (SignalV.mk 1 12600))) rfl rfl (built_of tb30 rfl)) rfl rfl) ?_
 refine r_bs (xs := [.tmp 1, .tmp 2, .tmp 3]) (cs := ((SignalV.cells (SignalV.mk 0 10600)) ++ (SignalV.cells (SignalV.mk 0 11000)) ++ (SignalV.cells (SignalV.mk 1 12600)))) rfl te67 tz30 rfl rfl rfl rfl (by simp [Value.cells, SignalV.cells_length]) rfl rfl fun b4 => ?_
 refine rS (SX (sd_build (xs := [(0, .const (Value.int .i64 10000)), (1, .const (Value.int .i64 20000)), (2, .tmp 4)]) (cs := (RideV.cells (RideV.mk 10000 20000 (Slc.mk (some ⟨b4, 0, none⟩) 3 3)))) rfl rfl (built_of tb69 rfl)) rfl rfl) ?_
 refine r_blk_own (es := (exR.Signals.map SignalV.cells)) (C' := [(own (some ⟨b4, 0, none⟩) 3 30 2 (exR.Signals.map SignalV.cells)), _]) 0 rfl (map_len SignalV.cells_length _) rfl (by decide) rfl ?_
 refine SW1 rfl ts69 rfl ?_
 refine RK hK3 ?_
 refine w_ret ?_
 refine hQ _ _ _ (l_nil (vs := [(Value.agg (RideV.cells (RideV.mk 10000 20000 (Slc.mk (some ⟨b4, 0, none⟩) 3 3))).toArray)]) ⟨⟨_, rfl, .inl ⟨_, _, tk69, at_blk (vs := (RideV.cells (RideV.mk 10000 20000 (Slc.mk (some ⟨b4, 0, none⟩) 3 3)))) 1 rfl rfl, rfl, rfl⟩⟩, trivial⟩ fun w hs => endX ((some ⟨b4, 0, none⟩), 3) [0] ?_ ?_ rfl rfl rfl hs)
 · rfl
 · trivial
end
section
open Go.RowKit
set_option linter.unusedVariables false
set_option maxRecDepth 100000 in
set_option maxHeartbeats 400000 in
theorem exahead_c (x : Int) (lo : Int) (hi : Int) :
    FnV Try.prog 38 [(Value.int .i64 x), (Value.int .i64 lo), (Value.int .i64 hi)] [] (Value.bool (decide (aheadE exL1 0 x = 0 ∧ aheadV exL1 0 x = SpanV.mk lo hi))) := by
 refine fnV_of go38 Try.func38 rfl rfl fun w0 Q hQ hN => ?_
 try dsimp only
 refine WS fun _ hK1 => ?_
 refine rS (AG rfl) ?_
 refine RK hK1 ?_
 refine WS fun _ hK2 => ?_
 refine cX line1_c (ha_nil) rfl fun y3 hy4 => ?_
 obtain ⟨a15, c16, a27, c28, bz9, a310, c311⟩ := y3
 try dsimp only
 obtain ⟨hbz, hlin⟩ := hy4
 refine rS (MV rfl) ?_
 refine rS (CL (Ahead_c exL1 a15 c16 bz9 a27 c28 a310 c311 0 x (by exact hlin)) (ha_cons (has_own_n (n := exL1.Track.length) 0 rfl (by simp)) <| ha_cons (has_own_n (n := exL1.Clocks.length) 1 rfl (zip_len (by first | exact hbz | assumption))) <| ha_cons (bun_bund 2 rfl owns_rds) <| ha_cons (has_own_n (n := exL1.Beams.length) 3 rfl (by simp)) <| ha_nil) rfl) ?_
 refine rS (MV rfl) ?_
 refine rS (EX rfl) ?_
 refine rS (EX rfl) ?_
 refine AL rfl tz34 fun b12 => ?_
 refine SW0 rfl ts34 rfl ?_
 refine rS (AG rfl) ?_
 refine RK hK2 ?_
 refine w_seq fun _ hK13 => ?_
 refine w_draw mixed 10 (by kernel_rfl) ?_
 refine dS (MV rfl) ?_
 refine dS (BI rfl b_eql) ?_
 refine dS (MV rfl) ?_
 refine d_bool (t := 17) rfl (fun h17 => ?_) (fun h17 => ?_)
 rotate_left 1
 · replace h17 := DF h17
   refine dS (OX rfl) ?_
   refine dS (OX rfl) ?_
   refine dS (OX rfl) ?_
   refine dS (OX rfl) ?_
   refine dS (OX rfl) ?_
   refine dS (PK rfl) ?_
   refine dS (AG rfl) ?_
   refine d_end ?_
   refine RK hK13 ?_
   refine w_ret ?_
   refine Q1 hQ rfl rfl rfl ?_
   first | exact congrArg Value.bool (decide_eq_false fun q => h17 q.1).symm | exact congrArg Value.bool (decide_eq_decide.2 ⟨fun q => ⟨h17, q⟩, fun q => q.2⟩)
 replace h17 := DT h17
 refine dS (LW 0 rfl tk34 rfl rfl) ?_
 refine dS (MV rfl) ?_
 refine dS (MV rfl) ?_
 refine dS (CL (lspan_c lo hi) (ha_nil) rfl) ?_
 refine dS (BI rfl (eqs34 _ _ (aheadV exL1 0 x) (SpanV.mk lo hi))) ?_
 refine dS (PK rfl) ?_
 refine dS (AG rfl) ?_
 refine d_end ?_
 refine RK hK13 ?_
 refine w_ret ?_
 refine Q1 hQ rfl rfl rfl ?_
 first | exact congrArg Value.bool (decide_eq_false fun q => h17 q.1).symm | exact congrArg Value.bool (decide_eq_decide.2 ⟨fun q => ⟨h17, q⟩, fun q => q.2⟩)
set_option maxRecDepth 100000 in
set_option maxHeartbeats 400000 in
theorem expassed_c (x : Int) (lo : Int) (hi : Int) :
    FnV Try.prog 59 [(Value.int .i64 x), (Value.int .i64 lo), (Value.int .i64 hi)] [] (Value.bool (decide (passedE exL1 exR x = 0 ∧ passedV exL1 exR x = SpanV.mk lo hi))) := by
 refine fnV_of go59 Try.func59 rfl rfl fun w0 Q hQ hN => ?_
 try dsimp only
 refine WS fun _ hK1 => ?_
 refine rS (AG rfl) ?_
 refine RK hK1 ?_
 refine WS fun _ hK2 => ?_
 refine cX line1_c (ha_nil) rfl fun y3 hy4 => ?_
 obtain ⟨a15, c16, a27, c28, bz9, a310, c311⟩ := y3
 try dsimp only
 obtain ⟨hbz, hlin⟩ := hy4
 refine cX exride_c (ha_nil) rfl fun y12 hy13 => ?_
 obtain ⟨a14, c15⟩ := y12
 try dsimp only
 refine rS (MV rfl) ?_
 refine rS (CL (Passed_c exL1 a15 c16 bz9 a27 c28 a310 c311 exR a14 c15 x (by exact hlin) (by decide)) (ha_cons (has_own_n (n := exL1.Track.length) 1 rfl (by simp)) <| ha_cons (has_own_n (n := exL1.Clocks.length) 2 rfl (zip_len (by first | exact hbz | assumption))) <| ha_cons (bun_bund 3 rfl owns_rds) <| ha_cons (has_own_n (n := exL1.Beams.length) 4 rfl (by simp)) <| ha_cons (has_own_n (n := exR.Signals.length) 0 rfl (by simp)) <| ha_nil) rfl) ?_
 refine rS (MV rfl) ?_
 refine rS (EX rfl) ?_
 refine rS (EX rfl) ?_
 refine AL rfl tz34 fun b16 => ?_
 refine SW0 rfl ts34 rfl ?_
 refine rS (AG rfl) ?_
 refine RK hK2 ?_
 refine w_seq fun _ hK17 => ?_
 refine w_draw mixed 10 (by kernel_rfl) ?_
 refine dS (MV rfl) ?_
 refine dS (BI rfl b_eql) ?_
 refine dS (MV rfl) ?_
 refine d_bool (t := 18) rfl (fun h18 => ?_) (fun h18 => ?_)
 rotate_left 1
 · replace h18 := DF h18
   refine dS (OX rfl) ?_
   refine dS (OX rfl) ?_
   refine dS (OX rfl) ?_
   refine dS (OX rfl) ?_
   refine dS (OX rfl) ?_
   refine dS (PK rfl) ?_
   refine dS (AG rfl) ?_
   refine d_end ?_
   refine RK hK17 ?_
   refine w_ret ?_
   refine Q1 hQ rfl rfl rfl ?_
   first | exact congrArg Value.bool (decide_eq_false fun q => h18 q.1).symm | exact congrArg Value.bool (decide_eq_decide.2 ⟨fun q => ⟨h18, q⟩, fun q => q.2⟩)
 replace h18 := DT h18
 refine dS (LW 0 rfl tk34 rfl rfl) ?_
 refine dS (MV rfl) ?_
 refine dS (MV rfl) ?_
 refine dS (CL (lspan_c lo hi) (ha_nil) rfl) ?_
 refine dS (BI rfl (eqs34 _ _ (passedV exL1 exR x) (SpanV.mk lo hi))) ?_
 refine dS (PK rfl) ?_
 refine dS (AG rfl) ?_
 refine d_end ?_
 refine RK hK17 ?_
 refine w_ret ?_
 refine Q1 hQ rfl rfl rfl ?_
 first | exact congrArg Value.bool (decide_eq_false fun q => h18 q.1).symm | exact congrArg Value.bool (decide_eq_decide.2 ⟨fun q => ⟨h18, q⟩, fun q => q.2⟩)
set_option maxRecDepth 100000 in
set_option maxHeartbeats 400000 in
theorem alive_c  :
    FnV Try.prog 22 [] [] (Value.bool true) := by
 have hxl : exR.Signals.length = 3 := rfl
 refine fnV_of go22 Try.func22 rfl rfl fun w0 Q hQ hN => ?_
 try dsimp only
 refine WS fun _ hK1 => ?_
 refine rS (AG rfl) ?_
 refine RK hK1 ?_
 refine WS fun _ hK2 => ?_
 refine cX line1_c (ha_nil) rfl fun y3 hy4 => ?_
 obtain ⟨a15, c16, a27, c28, bz9, a310, c311⟩ := y3
 try dsimp only
 obtain ⟨hbz, hlin⟩ := hy4
 refine cX exride_c (ha_nil) rfl fun y12 hy13 => ?_
 obtain ⟨a14, c15⟩ := y12
 try dsimp only
 refine rS (SX (sd_field1 (v := (Value.slice a14 exR.Signals.length c15)) rfl rfl fo69_2 tf69_2 rfl) rfl rfl) ?_
 obtain ⟨x, hx⟩ : ∃ y_, exR.Signals[0]? = some y_ := ⟨exR.Signals[0]'(by omega), List.getElem?_eq_getElem _⟩
 have hxm : (exR.Signals.map SignalV.cells)[0]? = some (SignalV.cells x) := by rw [List.getElem?_map, hx]; rfl
 refine rS (IA 0 rfl (has_own_n (n := exR.Signals.length) 0 rfl (by simp)) te67 (by decide) rfl (by omega)) ?_
 refine rS (LEN 0 0 (SignalV.cells x) rfl tk30 (has_own_n (n := exR.Signals.length) 0 rfl (by simp)) hxm rfl (by decide) rfl rfl) ?_
 refine rS (CL (When_c exL1 a15 c16 bz9 a27 c28 a310 c311 x (by exact hlin)) (ha_cons (has_own_n (n := exL1.Track.length) 1 rfl (by simp)) <| ha_cons (has_own_n (n := exL1.Clocks.length) 2 rfl (zip_len (by first | exact hbz | assumption))) <| ha_cons (bun_bund 3 rfl owns_rds) <| ha_cons (has_own_n (n := exL1.Beams.length) 4 rfl (by simp)) <| ha_nil) rfl) ?_
 refine rS (MV rfl) ?_
 refine rS (EX rfl) ?_
 refine rS (EX rfl) ?_
 refine AL rfl tz34 fun b16 => ?_
 refine SW0 rfl ts34 rfl ?_
 refine rS (AG rfl) ?_
 refine RK hK2 ?_
 refine WS fun _ hK17 => ?_
 refine cX line1_c (ha_nil) rfl fun y18 hy19 => ?_
 obtain ⟨a120, c121, a222, c223, bz24, a325, c326⟩ := y18
 try dsimp only
 obtain ⟨hbz, hlin⟩ := hy19
 refine cX exride_c (ha_nil) rfl fun y27 hy28 => ?_
 obtain ⟨a29, c30⟩ := y27
 try dsimp only
 refine cX (Where_c exL1 a120 c121 bz24 a222 c223 a325 c326 exR a29 c30 (by exact hlin) (by decide)) (ha_cons (has_own_n (n := exL1.Track.length) 1 rfl (by simp)) <| ha_cons (has_own_n (n := exL1.Clocks.length) 2 rfl (zip_len (by first | exact hbz | assumption))) <| ha_cons (bun_bund 3 rfl owns_rds) <| ha_cons (has_own_n (n := exL1.Beams.length) 4 rfl (by simp)) <| ha_cons (has_own_n (n := exR.Signals.length) 0 rfl (by simp)) <| ha_nil) rfl fun y31 hy32 => ?_
 obtain ⟨a33, c34⟩ := y31
 try dsimp only
 refine rS (MV rfl) ?_
 refine rS (EX rfl) ?_
 refine rS (EX rfl) ?_
 refine rS (AG rfl) ?_
 refine rS (AG rfl) ?_
 refine RK hK17 ?_
 refine WS fun _ hK35 => ?_
 refine cX line1_c (ha_nil) rfl fun y36 hy37 => ?_
 obtain ⟨a138, c139, a240, c241, bz42, a343, c344⟩ := y36
 try dsimp only
 obtain ⟨hbz, hlin⟩ := hy37
 refine cX exride_c (ha_nil) rfl fun y45 hy46 => ?_
 obtain ⟨a47, c48⟩ := y45
 try dsimp only
 refine rS (CL (Clear_c exL1 a138 c139 bz42 a240 c241 a343 c344 exR a47 c48 (by exact hlin) (by decide)) (ha_cons (has_own_n (n := exL1.Track.length) 1 rfl (by simp)) <| ha_cons (has_own_n (n := exL1.Clocks.length) 2 rfl (zip_len (by first | exact hbz | assumption))) <| ha_cons (bun_bund 3 rfl owns_rds) <| ha_cons (has_own_n (n := exL1.Beams.length) 4 rfl (by simp)) <| ha_cons (has_own_n (n := exR.Signals.length) 0 rfl (by simp)) <| ha_nil) rfl) ?_
 refine rS (MV rfl) ?_
 refine rS (EX rfl) ?_
 refine rS (EX rfl) ?_
 refine rS (AG rfl) ?_
 refine rS (AG rfl) ?_
 refine RK hK35 ?_
 refine WS fun _ hK49 => ?_
 refine cX line1_c (ha_nil) rfl fun y50 hy51 => ?_
 obtain ⟨a152, c153, a254, c255, bz56, a357, c358⟩ := y50
 try dsimp only
 obtain ⟨hbz, hlin⟩ := hy51
 refine cX exride_c (ha_nil) rfl fun y59 hy60 => ?_
 obtain ⟨a61, c62⟩ := y59
 try dsimp only
 refine rS (CL (Ran_c exL1 a152 c153 bz56 a254 c255 a357 c358 exR a61 c62 (by exact hlin) (by decide)) (ha_cons (has_own_n (n := exL1.Track.length) 1 rfl (by simp)) <| ha_cons (has_own_n (n := exL1.Clocks.length) 2 rfl (zip_len (by first | exact hbz | assumption))) <| ha_cons (bun_bund 3 rfl owns_rds) <| ha_cons (has_own_n (n := exL1.Beams.length) 4 rfl (by simp)) <| ha_cons (has_own_n (n := exR.Signals.length) 0 rfl (by simp)) <| ha_nil) rfl) ?_
 refine rS (MV rfl) ?_
 refine rS (EX rfl) ?_
 refine rS (EX rfl) ?_
 refine AL rfl tz34 fun b63 => ?_
 refine SW0 rfl ts34 rfl ?_
 refine rS (AG rfl) ?_
 refine RK hK49 ?_
 refine WS fun _ hK64 => ?_
 refine cX line0_c (ha_nil) rfl fun y65 hy66 => ?_
 obtain ⟨a167, c168, a269, c270, bz71, a372, c373⟩ := y65
 try dsimp only
 obtain ⟨hbz, hlin⟩ := hy66
 refine cX exride_c (ha_nil) rfl fun y74 hy75 => ?_
 obtain ⟨a76, c77⟩ := y74
 try dsimp only
 refine cX (Where_c exL0 a167 c168 bz71 a269 c270 a372 c373 exR a76 c77 (by exact hlin) (by decide)) (ha_cons (has_own_n (n := exL0.Track.length) 1 rfl (by simp)) <| ha_cons (has_own_n (n := exL0.Clocks.length) 2 rfl (zip_len (by first | exact hbz | assumption))) <| ha_cons (bun_bund 3 rfl owns_rds) <| ha_cons (has_own_n (n := exL0.Beams.length) 4 rfl (by simp)) <| ha_cons (has_own_n (n := exR.Signals.length) 0 rfl (by simp)) <| ha_nil) rfl fun y78 hy79 => ?_
 obtain ⟨a80, c81⟩ := y78
 try dsimp only
 refine rS (MV rfl) ?_
 refine rS (EX rfl) ?_
 refine rS (EX rfl) ?_
 refine rS (AG rfl) ?_
 refine rS (AG rfl) ?_
 refine RK hK64 ?_
 refine w_seq fun _ hK82 => ?_
 refine w_drawN mixed [0, 1, 2, 3, 4, 5, 6, 7, 8, 9, 10, 11, 12, 13, 14, 15] [16, 17, 18, 19, 20, 21, 22, 23, 24, 25, 26, 27, 28, 29, 30, 31, 32, 33, 34, 35, 36, 37, 38, 39, 40, 41, 42, 43, 44, 45, 46] [false, false, false, false, false, false, false, false, false, false, false, false, false, false, false, false] [] [(own a80 c81 3 1 ((whereV exL0 exR).map iC)), (own a76 c77 30 2 (exR.Signals.map SignalV.cells)), (own a167 c168 126 9 (exL0.Track.map StretchV.cells)), (own a269 c270 64 2 (List.zipWith ClockM.cells exL0.Clocks bz71)), (bund (nest ClockM.owns exL0.Clocks bz71)), (own a372 c373 55 4 (exL0.Beams.map BeamV.cells)), (blk b63 34 (SpanV.cells (ranV exL1 exR))), (own a61 c62 30 2 (exR.Signals.map SignalV.cells)), (own a152 c153 126 9 (exL1.Track.map StretchV.cells)), (own a254 c255 64 2 (List.zipWith ClockM.cells exL1.Clocks bz56)), (bund (nest ClockM.owns exL1.Clocks bz56)), (own a357 c358 55 4 (exL1.Beams.map BeamV.cells)), (own a47 c48 30 2 (exR.Signals.map SignalV.cells)), (own a138 c139 126 9 (exL1.Track.map StretchV.cells)), (own a240 c241 64 2 (List.zipWith ClockM.cells exL1.Clocks bz42)), (bund (nest ClockM.owns exL1.Clocks bz42)), (own a343 c344 55 4 (exL1.Beams.map BeamV.cells)), (own a33 c34 3 1 ((whereV exL1 exR).map iC)), (own a29 c30 30 2 (exR.Signals.map SignalV.cells)), (own a120 c121 126 9 (exL1.Track.map StretchV.cells)), (own a222 c223 64 2 (List.zipWith ClockM.cells exL1.Clocks bz24)), (bund (nest ClockM.owns exL1.Clocks bz24)), (own a325 c326 55 4 (exL1.Beams.map BeamV.cells)), (blk b16 34 (SpanV.cells (whenV exL1 x))), (own a14 c15 30 2 (exR.Signals.map SignalV.cells)), (own a15 c16 126 9 (exL1.Track.map StretchV.cells)), (own a27 c28 64 2 (List.zipWith ClockM.cells exL1.Clocks bz9)), (bund (nest ClockM.owns exL1.Clocks bz9)), (own a310 c311 55 4 (exL1.Beams.map BeamV.cells))] [] (by kernel_rfl) (fun w hs => St.sel [0, 1, 2, 3, 4, 5, 6, 7, 8, 9, 10, 11, 12, 13, 14, 15, 16, 17, 18, 19, 20, 21, 22, 23, 24, 25, 26, 27, 28] rfl rfl hs) (fun w hs => St.sel [] rfl rfl hs) ?_
 refine eS rfl (CL (exahead_c 10000 (-1) 3) (ha_nil) rfl) ?_
 refine eS rfl (MV rfl) ?_
 refine d_boolN (t := 45) rfl (fun h45 => ?_) (fun h45 => ?_)
 rotate_left 1
 · replace h45 := DF h45
   exact absurd (ex_ahead) h45
 replace h45 := DT h45
 refine eS rfl (MV rfl) ?_
 refine eS rfl (BI rfl b_eql) ?_
 refine eS rfl (PK rfl) ?_
 refine eS rfl (MV rfl) ?_
 refine d_boolN (t := 49) rfl (fun h49 => ?_) (fun h49 => ?_)
 rotate_left 1
 · replace h49 := DF h49
   exact absurd (by rw [ex_sig hx]; exact ex_when.1) h49
 replace h49 := DT h49
 refine eS rfl (LW 23 rfl tk34 rfl rfl) ?_
 refine eS rfl (CL (lspan_c 10596 10602) (ha_nil) rfl) ?_
 refine eS rfl (BI rfl (eqs34 _ _ (whenV exL1 x) (SpanV.mk 10596 10602))) ?_
 refine eS rfl (PK rfl) ?_
 refine eS rfl (MV rfl) ?_
 refine d_boolN (t := 54) rfl (fun h54 => ?_) (fun h54 => ?_)
 rotate_left 1
 · replace h54 := DF h54
   exact absurd (by rw [ex_sig hx]; exact ex_when.2) h54
 replace h54 := DT h54
 refine eS rfl (MV rfl) ?_
 refine eS rfl (BI rfl b_eql) ?_
 refine eS rfl (PK rfl) ?_
 refine eS rfl (MV rfl) ?_
 refine d_boolN (t := 58) rfl (fun h58 => ?_) (fun h58 => ?_)
 rotate_left 1
 · replace h58 := DF h58
   exact absurd (ex_open1) h58
 replace h58 := DT h58
 refine eS rfl (MV rfl) ?_
 refine d_fin rfl ?_
 refine n_step [16] (by kernel_rfl) (n_cons ?_ <| n_nil)
 refine n_op (rem' := [17, 18, 19, 20, 21, 22, 23, 24, 25, 26, 27, 28, 29, 30, 31, 32, 33, 34, 35, 36, 37, 38, 39, 40, 41, 42, 43, 44, 45, 46]) rfl (by kernel_rfl) rfl fun T83 hT83 => ?_
 refine r_bs (xs := [.const (Value.int .i64 2), .const (Value.int .i64 3)]) (cs := [(Value.int .i64 2), (Value.int .i64 3)]) rfl te57 tz3 rfl rfl rfl rfl (by simp [Value.cells]) rfl rfl fun b84 => ?_
 refine r_nil (hT83 _ _ (fun w hs => St.sel [1, 2, 3, 4, 5, 6, 7, 8, 9, 10, 11, 12, 13, 14, 15, 16, 17, 18, 19, 20, 21, 22, 23, 24, 25, 26, 27, 28, 29] rfl rfl hs) ?_)
 refine n_pure [61, 62, 63, 64, 65, 66, 67, 68, 69, 70, 71, 72, 73, 74, 75, 76, 77, 78, 79, 80, 81, 82, 83, 84, 85, 86, 87, 88, 89, 0] (by kernel_rfl) (by kernel_rfl) rfl _ rfl rfl (fun w hs => St.sel [1, 2, 3, 4, 5, 6, 7, 8, 9, 10, 11, 12, 13, 14, 15, 16, 17, 18, 19, 20, 21, 22, 23, 24, 25, 26, 27, 28, 29] rfl rfl hs) ?_
 refine dS (CL (sameints_c (whereV exL1 exR) a33 c34 ([2, 3]) (some ⟨b84, 0, none⟩) 2 (by rw [ex_where]; decide) (by decide)) (ha_cons (has_own_n (n := (whereV exL1 exR).length) 18 rfl (by simp)) <| ha_cons (has_rd_blk 0 rfl rfl (by simp [iC_length]) rfl) <| ha_nil) rfl) ?_
 refine dS (PK rfl) ?_
 refine dS (MV rfl) ?_
 refine d_bool (t := 63) rfl (fun h63 => ?_) (fun h63 => ?_)
 rotate_left 1
 · replace h63 := DF h63
   exact absurd (ex_where) h63
 replace h63 := DT h63
 refine dS (MV rfl) ?_
 refine dS (BI rfl b_eql) ?_
 refine dS (PK rfl) ?_
 refine dS (MV rfl) ?_
 refine d_bool (t := 67) rfl (fun h67 => ?_) (fun h67 => ?_)
 rotate_left 1
 · replace h67 := DF h67
   exact absurd (ex_open1) h67
 replace h67 := DT h67
 refine dS (MV rfl) ?_
 refine dS (BI rfl b_eql) ?_
 refine dS (PK rfl) ?_
 refine dS (MV rfl) ?_
 refine d_bool (t := 71) rfl (fun h71 => ?_) (fun h71 => ?_)
 rotate_left 1
 · replace h71 := DF h71
   exact absurd (ex_clear) h71
 replace h71 := DT h71
 refine dS (CL (expassed_c 0 10596 11002) (ha_nil) rfl) ?_
 refine dS (PK rfl) ?_
 refine dS (MV rfl) ?_
 refine d_bool (t := 74) rfl (fun h74 => ?_) (fun h74 => ?_)
 rotate_left 1
 · replace h74 := DF h74
   exact absurd (ex_pass0) h74
 replace h74 := DT h74
 refine dS (CL (expassed_c 1 12596 12602) (ha_nil) rfl) ?_
 refine dS (PK rfl) ?_
 refine dS (MV rfl) ?_
 refine d_bool (t := 77) rfl (fun h77 => ?_) (fun h77 => ?_)
 rotate_left 1
 · replace h77 := DF h77
   exact absurd (ex_pass1) h77
 replace h77 := DT h77
 refine dS (MV rfl) ?_
 refine dS (BI rfl b_eql) ?_
 refine dS (PK rfl) ?_
 refine dS (MV rfl) ?_
 refine d_bool (t := 81) rfl (fun h81 => ?_) (fun h81 => ?_)
 rotate_left 1
 · replace h81 := DF h81
   exact absurd (ex_ran.1) h81
 replace h81 := DT h81
 refine dS (LW 7 rfl tk34 rfl rfl) ?_
 refine dS (CL (lspan_c 2596 2602) (ha_nil) rfl) ?_
 refine dS (BI rfl (eqs34 _ _ (ranV exL1 exR) (SpanV.mk 2596 2602))) ?_
 refine dS (PK rfl) ?_
 refine dS (MV rfl) ?_
 refine d_bool (t := 86) rfl (fun h86 => ?_) (fun h86 => ?_)
 rotate_left 1
 · replace h86 := DF h86
   exact absurd (ex_ran.2) h86
 replace h86 := DT h86
 refine dS (MV rfl) ?_
 refine dS (BI rfl b_eql) ?_
 refine dS (PK rfl) ?_
 refine dS (AG rfl) ?_
 refine d_end ?_
 refine RK hK82 ?_
 refine w_ret ?_
 refine Q1 hQ rfl rfl rfl ?_
 exact congrArg Value.bool (decide_eq_true ex_open0)
end
end Go.Proofs.Ytaehngpnlkokkaa
