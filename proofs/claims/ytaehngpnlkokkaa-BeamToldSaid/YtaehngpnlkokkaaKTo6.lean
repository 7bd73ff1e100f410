/-
  The statement beamTold_said, part 6 of 6: L3, LineOpen, Told0.
  Conditions: none.
-/
import Derived.Test.YtaehngpnlkokkaaKTo1
import Derived.Test.YtaehngpnlkokkaaKTo2
import Derived.Test.YtaehngpnlkokkaaKTo3
import Derived.Test.YtaehngpnlkokkaaKTo4
import Derived.Test.YtaehngpnlkokkaaKTo5
import Derived.Test.YtaehngpnlkokkaaRows
import Derived.Test.YtaehngpnlkokkaaProg
import Derived.KernelRfl
namespace Go.Proofs.Ytaehngpnlkokkaa
section
open Go.RowKit
set_option linter.unusedVariables false
set_option maxRecDepth 100000 in
set_option maxHeartbeats 400000 in
theorem told1_c (t : Int) (l : LineM) (kA : Option Addr) (kC : Nat) (az : List RA) (cA : Option Addr) (cC : Nat) (bA : Option Addr) (bC : Nat) (g1 : Nat) (ck : Int) (g2 : Nat) (s : SignalV) (g3 : Nat) (hin : LineIn l az) (ht : 0 ≤ t ∧ t ≤ 86400000) (hs : 0 ≤ s.Read ∧ s.Read ≤ 86400000) :
    FnV Try.prog 24 [(Value.int .i64 t), (Value.pointer (some ⟨g1, 0, none⟩)), (Value.pointer (some ⟨g2, 0, none⟩)), (Value.pointer (some ⟨g3, 0, none⟩))] [(rd kA l.Track.length 9 (l.Track.map StretchV.cells)), (rd cA l.Clocks.length 2 (List.zipWith ClockM.cells l.Clocks az)), (bun (nest ClockM.rds l.Clocks az)), (rd bA l.Beams.length 4 (l.Beams.map BeamV.cells)), (blk g1 28 (LineV.cells (LineV.mk (TrackV.mk (Slc.mk kA l.Track.length kC)) l.Fast (Slc.mk cA l.Clocks.length cC) (Slc.mk bA l.Beams.length bC) l.Finish l.Fakes l.Misses))), (blk g2 3 [(Value.int .i64 ck)]), (blk g3 30 (SignalV.cells s))] (Value.tuple [(Value.bool (decide ((aheadV l ck t).Lo ≤ s.Read - t ∧ s.Read - t ≤ (aheadV l ck t).Hi))), (Value.bool (decide (aheadE l ck t = 0)))].toArray) := by
 have htk := hin.trk
 have hck := hin.cks
 have has := hin.as_
 have hbm := hin.bms
 refine fnV_of go24 Try.func24 rfl rfl fun w0 Q hQ hN => ?_
 try dsimp only
 refine WS fun _ hK1 => ?_
 refine rS (AG rfl) ?_
 refine rS (AG rfl) ?_
 refine RK hK1 ?_
 refine WS fun _ hK2 => ?_
 refine rS (LWR 4 rfl tk28 rfl rfl) ?_
 refine rS (L1Q 5 rfl tk3 rfl) ?_
 refine rS (MV rfl) ?_
 refine rS (CL (Ahead_c l kA kC az cA cC bA bC ck t hin) (ha_at 0 rfl rfl <| ha_at 1 rfl rfl <| ha_at 2 rfl rfl <| ha_at 3 rfl rfl <| ha_nil) rfl) ?_
 refine rS (MV rfl) ?_
 refine rS (EX rfl) ?_
 refine rS (EX rfl) ?_
 refine AL rfl tz34 fun b3 => ?_
 refine SW0 rfl ts34 rfl ?_
 refine rS (AG rfl) ?_
 refine RK hK2 ?_
 refine WS fun _ hK4 => ?_
 refine rS (FA 1 rfl fo30_1 rfl) ?_
 refine rS (L1R (Value.int .i64 s.Read) 7 rfl tk3 rfl rfl) ?_
 refine rS (MV rfl) ?_
 refine rS (BI rfl (b_sub ⟨by omega, by omega⟩)) ?_
 refine rS (FA 0 rfl fo34_0 rfl) ?_
 refine rS (L1 (Value.int .i64 ((aheadV l ck t).Lo)) 0 rfl tk3 rfl rfl) ?_
 refine rS (BI rfl b_geq) ?_
 refine rS (MV rfl) ?_
 refine r_bool (t := 23) rfl (fun h23 => ?_) (fun h23 => ?_)
 rotate_left 1
 · replace h23 := DF h23
   refine rS (OX rfl) ?_
   refine rS (OX rfl) ?_
   refine rS (OX rfl) ?_
   refine rS (OX rfl) ?_
   refine rS (OX rfl) ?_
   refine rS (OX rfl) ?_
   refine rS (OX rfl) ?_
   refine rS (PK rfl) ?_
   refine rS (MV rfl) ?_
   refine rS (BI rfl b_eql) ?_
   refine rS (AG rfl) ?_
   refine rS (AG rfl) ?_
   refine RK hK4 ?_
   refine w_ret ?_
   refine Q2 hQ rfl rfl rfl rfl ?_
   first | rfl | (rw [decide_eq_false (show ¬ ((aheadV l ck t).Lo ≤ s.Read - t ∧ s.Read - t ≤ (aheadV l ck t).Hi) from fun q => h23 q.1)]) | (rw [show decide ((aheadV l ck t).Lo ≤ s.Read - t ∧ s.Read - t ≤ (aheadV l ck t).Hi) = decide (s.Read - t ≤ (aheadV l ck t).Hi) from decide_eq_decide.2 ⟨fun q => q.2, fun q => ⟨h23, q⟩⟩])
 replace h23 := DT h23
 refine rS (FA 1 rfl fo30_1 rfl) ?_
 refine rS (L1R (Value.int .i64 s.Read) 7 rfl tk3 rfl rfl) ?_
 refine rS (MV rfl) ?_
 refine rS (BI rfl (b_sub ⟨by omega, by omega⟩)) ?_
 refine rS (FA 1 rfl fo34_1 rfl) ?_
 refine rS (L1 (Value.int .i64 ((aheadV l ck t).Hi)) 0 rfl tk3 rfl rfl) ?_
 refine rS (BI rfl b_leq) ?_
 refine rS (PK rfl) ?_
 refine rS (MV rfl) ?_
 refine rS (BI rfl b_eql) ?_
 refine rS (AG rfl) ?_
 refine rS (AG rfl) ?_
 refine RK hK4 ?_
 refine w_ret ?_
 refine Q2 hQ rfl rfl rfl rfl ?_
 first | rfl | (rw [decide_eq_false (show ¬ ((aheadV l ck t).Lo ≤ s.Read - t ∧ s.Read - t ≤ (aheadV l ck t).Hi) from fun q => h23 q.1)]) | (rw [show decide ((aheadV l ck t).Lo ≤ s.Read - t ∧ s.Read - t ≤ (aheadV l ck t).Hi) = decide (s.Read - t ≤ (aheadV l ck t).Hi) from decide_eq_decide.2 ⟨fun q => q.2, fun q => ⟨h23, q⟩⟩])
set_option maxRecDepth 100000 in
set_option maxHeartbeats 400000 in
theorem beamTold_c (l : LineM) (kA : Option Addr) (kC : Nat) (az : List RA) (cA : Option Addr) (cC : Nat) (bA : Option Addr) (bC : Nat) (s : SignalV) (wh : Int) (hraw : LineRaw l az) (hwh : 0 ≤ wh ∧ wh ≤ 4294967295) :
    FnV Try.prog 4 [(Value.agg (LineV.cells (LineV.mk (TrackV.mk (Slc.mk kA l.Track.length kC)) l.Fast (Slc.mk cA l.Clocks.length cC) (Slc.mk bA l.Beams.length bC) l.Finish l.Fakes l.Misses)).toArray), (Value.agg (SignalV.cells s).toArray), (Value.int .u32 wh)] [(rd kA l.Track.length 9 (l.Track.map StretchV.cells)), (rd cA l.Clocks.length 2 (List.zipWith ClockM.cells l.Clocks az)), (bun (nest ClockM.rds l.Clocks az)), (rd bA l.Beams.length 4 (l.Beams.map BeamV.cells))] (Value.bool true) := by
 refine fnV_of go4 Try.func4 rfl rfl fun w0 Q hQ hN => ?_
 try dsimp only
 refine WS fun _ hK1 => ?_
 refine BXA rfl fun b2 => ?_
 refine BXA rfl fun b3 => ?_
 refine rS (AG rfl) ?_
 refine RK hK1 ?_
 refine WS fun _ hK4 => ?_
 refine rS (CL alive_c (ha_nil) rfl) ?_
 refine rS (AG rfl) ?_
 refine RK hK4 ?_
 refine w_seq fun _ hK5 => ?_
 refine WS fun _ hK6 => ?_
 refine rS (LW 1 rfl tk28 rfl rfl) ?_
 refine rS (CL (ready_c l kA kC az cA cC bA bC hraw) (ha_at 2 rfl rfl <| ha_at 3 rfl rfl <| ha_at 4 rfl rfl <| ha_at 5 rfl rfl <| ha_nil) rfl) ?_
 refine rS (NT rfl) ?_
 refine rS (MV rfl) ?_
 refine r_bool (t := 21) rfl (fun h21 => ?_) (fun h21 => ?_)
 · replace h21 := XT h21
   refine rS (OX rfl) ?_
   refine rS (OX rfl) ?_
   refine rS (OX rfl) ?_
   refine rS (PK rfl) ?_
   refine rS (MV rfl) ?_
   refine rS (OX rfl) ?_
   refine rS (OX rfl) ?_
   refine rS (OX rfl) ?_
   refine rS (OX rfl) ?_
   refine rS (OX rfl) ?_
   refine rS (OX rfl) ?_
   refine rS (PK rfl) ?_
   refine rS (MV rfl) ?_
   refine rS (OX rfl) ?_
   refine rS (OX rfl) ?_
   refine rS (OX rfl) ?_
   refine rS (PK rfl) ?_
   refine rS (MV rfl) ?_
   refine rS (OX rfl) ?_
   refine rS (OX rfl) ?_
   refine rS (OX rfl) ?_
   refine rS (PK rfl) ?_
   refine rS (MV rfl) ?_
   refine rS (OX rfl) ?_
   refine rS (OX rfl) ?_
   refine rS (PK rfl) ?_
   refine RK hK6 ?_
   refine w_if_true rfl ?_
   refine WS fun _ hK7 => ?_
   refine rS (MV rfl) ?_
   refine rS (AG rfl) ?_
   refine RK hK7 ?_
   refine w_ret ?_
   exact Q1 hQ rfl rfl rfl rfl
 replace h21 := XF h21
 refine rS (FA 0 rfl fo30_0 rfl) ?_
 refine rS (L1 (Value.int .i64 s.Beam) 0 rfl tk3 rfl rfl) ?_
 refine rS (BI rfl b_lss) ?_
 refine rS (PK rfl) ?_
 refine rS (MV rfl) ?_
 refine r_bool (t := 26) rfl (fun h26 => ?_) (fun h26 => ?_)
 · replace h26 := DT h26
   refine rS (OX rfl) ?_
   refine rS (OX rfl) ?_
   refine rS (OX rfl) ?_
   refine rS (OX rfl) ?_
   refine rS (OX rfl) ?_
   refine rS (OX rfl) ?_
   refine rS (PK rfl) ?_
   refine rS (MV rfl) ?_
   refine rS (OX rfl) ?_
   refine rS (OX rfl) ?_
   refine rS (OX rfl) ?_
   refine rS (PK rfl) ?_
   refine rS (MV rfl) ?_
   refine rS (OX rfl) ?_
   refine rS (OX rfl) ?_
   refine rS (OX rfl) ?_
   refine rS (PK rfl) ?_
   refine rS (MV rfl) ?_
   refine rS (OX rfl) ?_
   refine rS (OX rfl) ?_
   refine rS (PK rfl) ?_
   refine RK hK6 ?_
   refine w_if_true rfl ?_
   refine WS fun _ hK8 => ?_
   refine rS (MV rfl) ?_
   refine rS (AG rfl) ?_
   refine RK hK8 ?_
   refine w_ret ?_
   exact Q1 hQ rfl rfl rfl rfl
 replace h26 := DF h26
 refine rS (FA 0 rfl fo30_0 rfl) ?_
 refine rS (L1 (Value.int .i64 s.Beam) 0 rfl tk3 rfl rfl) ?_
 refine rS (FA 3 rfl fo28_3 rfl) ?_
 refine rS (L1 (Value.slice bA l.Beams.length bC) 1 rfl tk26 rfl rfl) ?_
 refine rS (LN rfl ut26) ?_
 refine rS (BI rfl b_geq) ?_
 refine rS (PK rfl) ?_
 refine rS (MV rfl) ?_
 refine r_bool (t := 34) rfl (fun h34 => ?_) (fun h34 => ?_)
 · replace h34 := DT h34
   refine rS (OX rfl) ?_
   refine rS (OX rfl) ?_
   refine rS (OX rfl) ?_
   refine rS (PK rfl) ?_
   refine rS (MV rfl) ?_
   refine rS (OX rfl) ?_
   refine rS (OX rfl) ?_
   refine rS (OX rfl) ?_
   refine rS (PK rfl) ?_
   refine rS (MV rfl) ?_
   refine rS (OX rfl) ?_
   refine rS (OX rfl) ?_
   refine rS (PK rfl) ?_
   refine RK hK6 ?_
   refine w_if_true rfl ?_
   refine WS fun _ hK9 => ?_
   refine rS (MV rfl) ?_
   refine rS (AG rfl) ?_
   refine RK hK9 ?_
   refine w_ret ?_
   exact Q1 hQ rfl rfl rfl rfl
 replace h34 := DF h34
 refine rS (FA 1 rfl fo30_1 rfl) ?_
 refine rS (L1 (Value.int .i64 s.Read) 0 rfl tk3 rfl rfl) ?_
 refine rS (BI rfl b_lss) ?_
 refine rS (PK rfl) ?_
 refine rS (MV rfl) ?_
 refine r_bool (t := 39) rfl (fun h39 => ?_) (fun h39 => ?_)
 · replace h39 := DT h39
   refine rS (OX rfl) ?_
   refine rS (OX rfl) ?_
   refine rS (OX rfl) ?_
   refine rS (PK rfl) ?_
   refine rS (MV rfl) ?_
   refine rS (OX rfl) ?_
   refine rS (OX rfl) ?_
   refine rS (PK rfl) ?_
   refine RK hK6 ?_
   refine w_if_true rfl ?_
   refine WS fun _ hK10 => ?_
   refine rS (MV rfl) ?_
   refine rS (AG rfl) ?_
   refine RK hK10 ?_
   refine w_ret ?_
   exact Q1 hQ rfl rfl rfl rfl
 replace h39 := DF h39
 refine rS (FA 1 rfl fo30_1 rfl) ?_
 refine rS (L1 (Value.int .i64 s.Read) 0 rfl tk3 rfl rfl) ?_
 refine rS (BI rfl b_gtr) ?_
 refine rS (PK rfl) ?_
 refine rS (MV rfl) ?_
 refine r_bool (t := 44) rfl (fun h44 => ?_) (fun h44 => ?_)
 · replace h44 := DT h44
   refine rS (OX rfl) ?_
   refine rS (OX rfl) ?_
   refine rS (PK rfl) ?_
   refine RK hK6 ?_
   refine w_if_true rfl ?_
   refine WS fun _ hK11 => ?_
   refine rS (MV rfl) ?_
   refine rS (AG rfl) ?_
   refine RK hK11 ?_
   refine w_ret ?_
   exact Q1 hQ rfl rfl rfl rfl
 replace h44 := DF h44
 refine rS (MV rfl) ?_
 refine rS (NT rfl) ?_
 refine rS (PK rfl) ?_
 refine RK hK6 ?_
 refine w_if_false rfl ?_
 refine WK hK5 ?_
 refine WS fun _ hK12 => ?_
 have hin := hraw.small h21.1
 have hsi : (0 ≤ s.Beam ∧ s.Beam ≤ (l.Beams.length : Int) - 1) ∧ 0 ≤ s.Read ∧ s.Read ≤ 86400000 := by omega
 have hte := told_e h21.2 hsi
 have hbm := hin.bms
 obtain ⟨hte1, hte2⟩ := hte
 refine rS (FA 3 rfl fo28_3 rfl) ?_
 refine rS (L1 (Value.slice bA l.Beams.length bC) 1 rfl tk26 rfl rfl) ?_
 refine rS (FA 0 rfl fo30_0 rfl) ?_
 refine rS (L1 (Value.int .i64 s.Beam) 0 rfl tk3 rfl rfl) ?_
 obtain ⟨y, hy⟩ : ∃ y_, l.Beams[(s.Beam).toNat]? = some y_ := ⟨l.Beams[(s.Beam).toNat]'(by omega), List.getElem?_eq_getElem _⟩
 have hym : (l.Beams.map BeamV.cells)[(s.Beam).toNat]? = some (BeamV.cells y) := by rw [List.getElem?_map, hy]; rfl
 refine rS (IA ((s.Beam).toNat) rfl (has_at 5 rfl) te26 (by decide) (by omega) (by omega)) ?_
 refine rS (FAR ((((s.Beam).toNat) * 4) + 3) rfl (has_at 5 rfl) (Nat.mul_pos (by omega) (by decide)) fo55_1 rfl) ?_
 refine rS (LE1 ((s.Beam).toNat) 3 (Value.int .i64 y.Clock) rfl tk3 (has_at 5 rfl) hym rfl (by decide) rfl) ?_
 refine AL rfl tz3 fun b13 => ?_
 refine SO0 rfl ts3 rfl rfl ?_
 refine RK hK12 ?_
 refine WS fun _ hK14 => ?_
 refine rS (FU rfl) ?_
 refine rS (AG rfl) ?_
 refine RK hK14 ?_
 refine WS fun _ hK15 => ?_
 refine rS (LW 2 rfl tk28 rfl rfl) ?_
 refine rS (LW 1 rfl tk30 rfl rfl) ?_
 refine rS (CL (When_c l kA kC az cA cC bA bC s (by first | assumption | omega | (simp; done) | (simp; omega))) (ha_at 3 rfl rfl <| ha_at 4 rfl rfl <| ha_at 5 rfl rfl <| ha_at 6 rfl rfl <| ha_nil) rfl) ?_
 refine rS (MV rfl) ?_
 refine rS (EX rfl) ?_
 refine rS (EX rfl) ?_
 refine AL rfl tz34 fun b16 => ?_
 refine SW0 rfl ts34 rfl ?_
 refine rS (AG rfl) ?_
 refine RK hK15 ?_
 refine w_seq fun _ hK17 => ?_
 refine WS fun _ hK18 => ?_
 refine rS (MV rfl) ?_
 refine rS (BI rfl b_neq) ?_
 refine rS (MV rfl) ?_
 refine r_bool (t := 65) rfl (fun h65 => ?_) (fun h65 => ?_)
 rotate_left 1
 · replace h65 := XF h65
   refine rS (OX rfl) ?_
   refine rS (OX rfl) ?_
   refine rS (PK rfl) ?_
   refine RK hK18 ?_
   refine w_if_false rfl ?_
   refine WK hK17 ?_
   refine WS fun _ hK59 => ?_
   refine rS (MV rfl) ?_
   refine rS (SX (sd_conv (m := wh) rfl rfl ut50 ut3 (wrap_u32_i64 (by first | assumption | omega))) rfl rfl) ?_
   have hr1 := rem_b wh 86400001 hwh.1 (by omega)
   have hr2 := rem_b wh 30001 hwh.1 (by omega)
   refine rS (BI rfl (b_rem (by omega) (by omega))) ?_
   refine rS (FA 1 rfl fo30_1 rfl) ?_
   refine rS (L1 (Value.int .i64 s.Read) 2 rfl tk3 rfl rfl) ?_
   refine rS (MV rfl) ?_
   refine rS (BI rfl (b_rem (by omega) (by omega))) ?_
   refine rS (SX (sd_conv (m := (wh % 30001)) rfl rfl ut50 ut3 (wrap_u32_i64 (by first | assumption | omega))) rfl rfl) ?_
   refine rS (BI rfl (b_add ⟨by omega, by omega⟩)) ?_
   refine rS (BI rfl (b_sub ⟨by omega, by omega⟩)) ?_
   refine rS (MN rfl) ?_
   refine rS (MX rfl) ?_
   refine rS (FA 1 rfl fo30_1 rfl) ?_
   refine rS (L1 (Value.int .i64 s.Read) 2 rfl tk3 rfl rfl) ?_
   refine rS (MN rfl) ?_
   refine r_bs (xs := [.tmp 71, .tmp 80, .tmp 83]) (cs := [(Value.int .i64 (wh % 86400001)), (Value.int .i64 (max 0 (min 86400000 ((s.Read + (wh % 30001)) - 15000)))), (Value.int .i64 (min 86400000 s.Read))]) rfl te57 tz3 rfl rfl rfl rfl (by simp [Value.cells]) rfl rfl fun b60 => ?_
   refine r_blk_own (es := (List.map iC [(wh % 86400001), (max 0 (min 86400000 ((s.Read + (wh % 30001)) - 15000))), (min 86400000 s.Read)])) (C' := [(own (some ⟨b60, 0, none⟩) 3 3 1 (List.map iC [(wh % 86400001), (max 0 (min 86400000 ((s.Read + (wh % 30001)) - 15000))), (min 86400000 s.Read)])), _, _, _, _, _, _, _, _]) 0 rfl (map_len iC_length _) rfl (by show 3 ≤ maxLen; decide) rfl ?_
   refine rS (AG rfl) ?_
   refine RK hK59 ?_
   refine w_join (ι := { z : (List Int) × (Option Addr) × Nat // (∀ x ∈ z.1, 0 ≤ x ∧ x ≤ 86400000) ∧ (z.1.length ≤ 10) }) (fun z => [(3, (Value.pointer (some ⟨b2, 0, none⟩))), (4, (Value.pointer (some ⟨b3, 0, none⟩))), (7, (Value.bool true)), (8, (Value.pointer (some ⟨b13, 0, none⟩))), (9, (Value.func (.func 24) [].toArray [(Value.pointer (some ⟨b2, 0, none⟩)), (Value.pointer (some ⟨b13, 0, none⟩)), (Value.pointer (some ⟨b3, 0, none⟩))].toArray)), (10, (Value.pointer (some ⟨b16, 0, none⟩))), (11, (Value.int .i64 (whenE l s))), (12, (Value.slice z.1.2.1 z.1.1.length z.1.2.2))]) (fun z => [(own z.1.2.1 z.1.2.2 3 1 (z.1.1.map iC)), (blk b16 34 (SpanV.cells (whenV l s))), (blk b13 3 [(Value.int .i64 y.Clock)]), (blk b3 30 (SignalV.cells s)), (blk b2 28 (LineV.cells (LineV.mk (TrackV.mk (Slc.mk kA l.Track.length kC)) l.Fast (Slc.mk cA l.Clocks.length cC) (Slc.mk bA l.Beams.length bC) l.Finish l.Fakes l.Misses))), (rd kA l.Track.length 9 (l.Track.map StretchV.cells)).ro, (rd cA l.Clocks.length 2 (List.zipWith ClockM.cells l.Clocks az)).ro, (bun (nest ClockM.rds l.Clocks az)).ro, (rd bA l.Beams.length 4 (l.Beams.map BeamV.cells)).ro]) ?_ fun K61 hK61 => ?_
   · rintro ⟨⟨q, aA, aC⟩, ⟨hjK61_0, hjK61_1⟩⟩
     try dsimp only at hjK61_0 hjK61_1
     try dsimp only
     refine w_seq fun _ hK62 => ?_
     refine WS fun _ hK63 => ?_
     refine rS (MV rfl) ?_
     refine rS (LN rfl ut57) ?_
     refine rS (MV rfl) ?_
     refine RK hK63 ?_
     refine w_block ?_
     have hinit : (0 ≤ q.length) := by exact Nat.zero_le _
     refine w_loop (ι := { z : Nat // (z ≤ q.length) }) (fun z => [(3, (Value.pointer (some ⟨b2, 0, none⟩))), (4, (Value.pointer (some ⟨b3, 0, none⟩))), (7, (Value.bool true)), (8, (Value.pointer (some ⟨b13, 0, none⟩))), (9, (Value.func (.func 24) [].toArray [(Value.pointer (some ⟨b2, 0, none⟩)), (Value.pointer (some ⟨b13, 0, none⟩)), (Value.pointer (some ⟨b3, 0, none⟩))].toArray)), (10, (Value.pointer (some ⟨b16, 0, none⟩))), (11, (Value.int .i64 (whenE l s))), (124, (Value.slice aA q.length aC)), (125, (Value.int .i64 ((q.length : Nat) : Int))), (126, (Value.int .i64 ((z.1 : Nat) : Int)))]) (fun z => [(own aA aC 3 1 (q.map iC)), (blk b16 34 (SpanV.cells (whenV l s))), (blk b13 3 [(Value.int .i64 y.Clock)]), (blk b3 30 (SignalV.cells s)), (blk b2 28 (LineV.cells (LineV.mk (TrackV.mk (Slc.mk kA l.Track.length kC)) l.Fast (Slc.mk cA l.Clocks.length cC) (Slc.mk bA l.Beams.length bC) l.Finish l.Fakes l.Misses))), (rd kA l.Track.length 9 (l.Track.map StretchV.cells)).ro, (rd cA l.Clocks.length 2 (List.zipWith ClockM.cells l.Clocks az)).ro, (bun (nest ClockM.rds l.Clocks az)).ro, (rd bA l.Beams.length 4 (l.Beams.map BeamV.cells)).ro]) (fun z => q.length - z.1) ⟨0, hinit⟩ (Sub.cons rfl <| Sub.cons rfl <| Sub.cons rfl <| Sub.cons rfl <| Sub.cons rfl <| Sub.cons rfl <| Sub.cons rfl <| Sub.cons rfl <| Sub.cons rfl <| Sub.cons rfl <| Sub.nil _) (fun w hs => St.sel [0, 1, 2, 3, 4, 5, 6, 7, 8] rfl rfl hs) ?_
     clear hinit
     rintro ⟨i, hl17_0⟩ J64 hJ64
     try dsimp only
     refine WS fun _ hK65 => ?_
     refine rS (BI rfl b_lss) ?_
     refine RK hK65 ?_
     refine w_seq fun _ hK66 => ?_
     refine w_if rfl (fun h67 => ?_) (fun h67 => ?_)
     rotate_left 1
     · replace h67 := DF h67
       refine w_exit ?_
       refine k_exit_then ?_
       refine k_exit_then ?_
       refine k_exit_same ?_
       refine KK hK62 ?_
       refine WS fun _ hK77 => ?_
       refine rS (MV rfl) ?_
       refine rS (AG rfl) ?_
       refine RK hK77 ?_
       refine w_ret ?_
       exact Q1 hQ rfl rfl rfl rfl
     replace h67 := DT h67
     refine WK hK66 ?_
     refine w_seq fun _ hK68 => ?_
     refine w_block ?_
     refine WS fun _ hK69 => ?_
     obtain ⟨x, hx⟩ : ∃ y_, q[i]? = some y_ := ⟨q[i]'(by omega), List.getElem?_eq_getElem _⟩
     have hxm : (q.map iC)[i]? = some (iC x) := by rw [List.getElem?_map, hx]; rfl
     refine rS (IA i rfl (has_own_n (n := q.length) 0 rfl (by simp)) te57 (by decide) (by omega) (by omega)) ?_
     refine rS (LE1 i 0 (Value.int .i64 x) rfl tk3 (has_own_n (n := q.length) 0 rfl (by simp)) hxm rfl (by decide) rfl) ?_
     refine rS (AG rfl) ?_
     refine RK hK69 ?_
     refine w_seq fun _ hK70 => ?_
     refine WS fun _ hK71 => ?_
     refine rS (MV rfl) ?_
     have hxb : 0 ≤ x ∧ x ≤ 86400000 := (by assumption : ∀ x ∈ q, 0 ≤ x ∧ x ≤ 86400000) x (List.mem_of_getElem? hx)
     have htold := told_at h21.2 hsi hxb hy
     refine rS (BI rfl b_lss) ?_
     refine rS (MV rfl) ?_
     refine r_bool (t := 132) rfl (fun h132 => ?_) (fun h132 => ?_)
     · replace h132 := DT h132
       exfalso; omega
     replace h132 := DF h132
     refine rS (MV rfl) ?_
     refine rS (BI rfl b_gtr) ?_
     refine rS (PK rfl) ?_
     refine RK hK71 ?_
     refine w_if rfl (fun h135 => ?_) (fun h135 => ?_)
     · replace h135 := DT h135
       exfalso; omega
     replace h135 := DF h135
     refine WK hK70 ?_
     refine WS fun _ hK72 => ?_
     refine rS (MV rfl) ?_
     refine rS (MV rfl) ?_
     refine rS (CL (told1_c x l kA kC az cA cC bA bC b2 y.Clock b13 s b3 (by first | assumption | omega | (simp; done) | (simp; omega)) (by first | assumption | omega | (simp; done) | (simp; omega)) (by first | assumption | omega | (simp; done) | (simp; omega))) (ha_at 5 rfl rfl <| ha_at 6 rfl rfl <| ha_at 7 rfl rfl <| ha_at 8 rfl rfl <| ha_at 4 rfl rfl <| ha_at 2 rfl rfl <| ha_at 3 rfl rfl <| ha_nil) rfl) ?_
     refine rS (MV rfl) ?_
     refine rS (EX rfl) ?_
     refine rS (EX rfl) ?_
     refine rS (AG rfl) ?_
     refine rS (AG rfl) ?_
     refine RK hK72 ?_
     refine WS fun _ hK73 => ?_
     refine rS (MV rfl) ?_
     refine rS (NT rfl) ?_
     refine rS (MV rfl) ?_
     refine r_bool (t := 144) rfl (fun h144 => ?_) (fun h144 => ?_)
     · replace h144 := XT h144
       exact absurd htold.1 h144
     replace h144 := XF h144
     refine rS (MV rfl) ?_
     refine rS (MV rfl) ?_
     refine rS (BI rfl b_eql) ?_
     refine rS (MV rfl) ?_
     refine r_bool (t := 148) rfl (fun h148 => ?_) (fun h148 => ?_)
     rotate_left 1
     · replace h148 := DF h148
       refine rS (OX rfl) ?_
       refine rS (OX rfl) ?_
       refine rS (OX rfl) ?_
       refine rS (OX rfl) ?_
       refine rS (PK rfl) ?_
       refine rS (MV rfl) ?_
       refine rS (OX rfl) ?_
       refine rS (OX rfl) ?_
       refine rS (OX rfl) ?_
       refine rS (OX rfl) ?_
       refine rS (PK rfl) ?_
       refine rS (BI rfl (b_neqb ut4)) ?_
       refine rS (PK rfl) ?_
       refine RK hK73 ?_
       refine w_if rfl (fun h161 => ?_) (fun h161 => ?_)
       · rw [Bool.not_eq_true'] at h161
         exfalso; first | (have e := htold.2; simp only [h148, h154, true_and] at e; simp [e] at h161; done) | (have e := htold.2; simp [h148, h154] at e h161; omega) | (have e := htold.2; simp [h148] at e h161; omega)
       rw [Bool.not_eq_false'] at h161
       refine w_skip ?_
       refine k_block ?_
       refine KK hK68 ?_
       refine w_region ?_
       refine rS (BI rfl (b_add ⟨by omega, by omega⟩)) ?_
       refine rS (MV rfl) ?_
       refine r_nil ?_
       have hb76 : (Value.int .i64 (((i + 1) : Nat) : Int)) = (Value.int .i64 (((i : Nat) : Int) + 1)) := by exact congrArg (Value.int .i64) (by omega)
       refine k_then (hJ64 ⟨(i + 1), (by first | omega | (simp only []; omega))⟩ _ _ _ rfl (by first | omega | (simp; omega)) (Sub.cons rfl <| Sub.cons rfl <| Sub.cons rfl <| Sub.cons rfl <| Sub.cons rfl <| Sub.cons rfl <| Sub.cons rfl <| Sub.cons rfl <| Sub.cons rfl <| sub_val rfl hb76 <| Sub.nil _) (fun w hs => St.sel [0, 1, 2, 3, 4, 5, 6, 7, 8] rfl rfl hs))
     replace h148 := DT h148
     refine rS (MV rfl) ?_
     refine rS (FA 0 rfl fo34_0 rfl) ?_
     refine rS (L1 (Value.int .i64 ((whenV l s).Lo)) 1 rfl tk3 rfl rfl) ?_
     refine rS (BI rfl b_geq) ?_
     refine rS (PK rfl) ?_
     refine rS (MV rfl) ?_
     refine r_bool (t := 154) rfl (fun h154 => ?_) (fun h154 => ?_)
     rotate_left 1
     · replace h154 := DF h154
       refine rS (OX rfl) ?_
       refine rS (OX rfl) ?_
       refine rS (OX rfl) ?_
       refine rS (OX rfl) ?_
       refine rS (PK rfl) ?_
       refine rS (BI rfl (b_neqb ut4)) ?_
       refine rS (PK rfl) ?_
       refine RK hK73 ?_
       refine w_if rfl (fun h161 => ?_) (fun h161 => ?_)
       · rw [Bool.not_eq_true'] at h161
         exfalso; first | (have e := htold.2; simp only [h148, h154, true_and] at e; simp [e] at h161; done) | (have e := htold.2; simp [h148, h154] at e h161; omega) | (have e := htold.2; simp [h148] at e h161; omega)
       rw [Bool.not_eq_false'] at h161
       refine w_skip ?_
       refine k_block ?_
       refine KK hK68 ?_
       refine w_region ?_
       refine rS (BI rfl (b_add ⟨by omega, by omega⟩)) ?_
       refine rS (MV rfl) ?_
       refine r_nil ?_
       have hb75 : (Value.int .i64 (((i + 1) : Nat) : Int)) = (Value.int .i64 (((i : Nat) : Int) + 1)) := by exact congrArg (Value.int .i64) (by omega)
       refine k_then (hJ64 ⟨(i + 1), (by first | omega | (simp only []; omega))⟩ _ _ _ rfl (by first | omega | (simp; omega)) (Sub.cons rfl <| Sub.cons rfl <| Sub.cons rfl <| Sub.cons rfl <| Sub.cons rfl <| Sub.cons rfl <| Sub.cons rfl <| Sub.cons rfl <| Sub.cons rfl <| sub_val rfl hb75 <| Sub.nil _) (fun w hs => St.sel [0, 1, 2, 3, 4, 5, 6, 7, 8] rfl rfl hs))
     replace h154 := DT h154
     refine rS (MV rfl) ?_
     refine rS (FA 1 rfl fo34_1 rfl) ?_
     refine rS (L1 (Value.int .i64 ((whenV l s).Hi)) 1 rfl tk3 rfl rfl) ?_
     refine rS (BI rfl b_leq) ?_
     refine rS (PK rfl) ?_
     refine rS (BI rfl (b_neqb ut4)) ?_
     refine rS (PK rfl) ?_
     refine RK hK73 ?_
     refine w_if rfl (fun h161 => ?_) (fun h161 => ?_)
     · rw [Bool.not_eq_true'] at h161
       exfalso; first | (have e := htold.2; simp only [h148, h154, true_and] at e; simp [e] at h161; done) | (have e := htold.2; simp [h148, h154] at e h161; omega) | (have e := htold.2; simp [h148] at e h161; omega)
     rw [Bool.not_eq_false'] at h161
     refine w_skip ?_
     refine k_block ?_
     refine KK hK68 ?_
     refine w_region ?_
     refine rS (BI rfl (b_add ⟨by omega, by omega⟩)) ?_
     refine rS (MV rfl) ?_
     refine r_nil ?_
     have hb74 : (Value.int .i64 (((i + 1) : Nat) : Int)) = (Value.int .i64 (((i : Nat) : Int) + 1)) := by exact congrArg (Value.int .i64) (by omega)
     refine k_then (hJ64 ⟨(i + 1), (by first | omega | (simp only []; omega))⟩ _ _ _ rfl (by first | omega | (simp; omega)) (Sub.cons rfl <| Sub.cons rfl <| Sub.cons rfl <| Sub.cons rfl <| Sub.cons rfl <| Sub.cons rfl <| Sub.cons rfl <| Sub.cons rfl <| Sub.cons rfl <| sub_val rfl hb74 <| Sub.nil _) (fun w hs => St.sel [0, 1, 2, 3, 4, 5, 6, 7, 8] rfl rfl hs))
   refine WS fun _ hK78 => ?_
   refine rS (MV rfl) ?_
   refine rS (BI rfl b_eql) ?_
   refine RK hK78 ?_
   refine w_if rfl (fun h86 => ?_) (fun h86 => ?_)
   rotate_left 1
   · replace h86 := DF h86
     refine w_skip ?_
     refine k_then (k_sub (Sub.cons rfl <| Sub.cons rfl <| Sub.cons rfl <| Sub.cons rfl <| Sub.cons rfl <| Sub.cons rfl <| Sub.cons rfl <| Sub.cons rfl <| Sub.nil _) (fun w hs => St.sel [0, 1, 2, 3, 4, 5, 6, 7, 8] rfl rfl hs) (hK61 ⟨([(wh % 86400001), (max 0 (min 86400000 ((s.Read + (wh % 30001)) - 15000))), (min 86400000 s.Read)], (some ⟨b60, 0, none⟩), 3), ⟨by intro x hx; simp at hx; omega, by simp⟩⟩))
   replace h86 := DT h86
   refine w_seq fun _ hK79 => ?_
   refine w_draw4 mixed [0, 1, 2, 3, 4, 5, 6, 7, 8, 9, 10, 11, 12, 13, 14, 15, 16] [17, 18, 19] [false, false, false, false, false, false, false, false, false, false, false, false, false, false, false, false, false] [false, false, false] [(blk b16 34 (SpanV.cells (whenV l s))), (blk b13 3 [(Value.int .i64 y.Clock)]), (blk b3 30 (SignalV.cells s)), (blk b2 28 (LineV.cells (LineV.mk (TrackV.mk (Slc.mk kA l.Track.length kC)) l.Fast (Slc.mk cA l.Clocks.length cC) (Slc.mk bA l.Beams.length bC) l.Finish l.Fakes l.Misses))), (rd kA l.Track.length 9 (l.Track.map StretchV.cells)).ro, (rd cA l.Clocks.length 2 (List.zipWith ClockM.cells l.Clocks az)).ro, (bun (nest ClockM.rds l.Clocks az)).ro, (rd bA l.Beams.length 4 (l.Beams.map BeamV.cells)).ro] [] (by kernel_rfl) (fun w hs => St.sel [1, 2, 3, 4, 5, 6, 7, 8] rfl rfl hs) (fun w hs => St.sel [] rfl rfl hs) ?_
   have htb := hte2 h86
   have hrm := rem_b wh ((whenV l s).Hi - (whenV l s).Lo + 1) hwh.1 (by omega)
   refine eS rfl (MV rfl) ?_
   refine eS rfl (FA 0 rfl fo34_0 rfl) ?_
   refine eS rfl (L1 (Value.int .i64 ((whenV l s).Lo)) 0 rfl tk3 rfl rfl) ?_
   refine eS rfl (FA 1 rfl fo34_1 rfl) ?_
   refine eS rfl (L1 (Value.int .i64 ((whenV l s).Hi)) 0 rfl tk3 rfl rfl) ?_
   refine eS rfl (FA 0 rfl fo34_0 rfl) ?_
   refine eS rfl (L1 (Value.int .i64 ((whenV l s).Lo)) 0 rfl tk3 rfl rfl) ?_
   refine eS rfl (MV rfl) ?_
   refine eS rfl (SX (sd_conv (m := wh) rfl rfl ut50 ut3 (wrap_u32_i64 (by first | assumption | omega))) rfl rfl) ?_
   refine eS rfl (FA 1 rfl fo34_1 rfl) ?_
   refine eS rfl (L1 (Value.int .i64 ((whenV l s).Hi)) 0 rfl tk3 rfl rfl) ?_
   refine eS rfl (FA 0 rfl fo34_0 rfl) ?_
   refine eS rfl (L1 (Value.int .i64 ((whenV l s).Lo)) 0 rfl tk3 rfl rfl) ?_
   refine eS rfl (BI rfl (b_sub ⟨by omega, by omega⟩)) ?_
   refine eS rfl (BI rfl (b_add ⟨by omega, by omega⟩)) ?_
   refine eS rfl (BI rfl (b_rem (by omega) (by omega))) ?_
   refine eS rfl (BI rfl (b_add ⟨by omega, by omega⟩)) ?_
   refine d_fin rfl ?_
   refine t_cons rfl fun T80 hT80 => ?_
   refine r_bs (xs := [.tmp 89, .tmp 91, .tmp 103]) (cs := [(Value.int .i64 ((whenV l s).Lo)), (Value.int .i64 ((whenV l s).Hi)), (Value.int .i64 (((whenV l s).Lo) + (wh % ((((whenV l s).Hi) - ((whenV l s).Lo)) + 1))))]) rfl te57 tz3 rfl rfl rfl rfl (by simp [Value.cells]) rfl rfl fun b81 => ?_
   refine r_nil (hT80 _ _ (fun w hs => St.sel [2, 3, 4, 5, 6, 7, 8, 9] rfl rfl hs) ?_)
   refine t_cons rfl fun T82 hT82 => ?_
   refine r_append (es2 := (List.map iC (([(wh % 86400001), (max 0 (min 86400000 ((s.Read + (wh % 30001)) - 15000))), (min 86400000 s.Read)]) ++ ([(whenV l s).Lo, (whenV l s).Hi, (((whenV l s).Lo) + (wh % ((((whenV l s).Hi) - ((whenV l s).Lo)) + 1)))])))) (m' := (([(wh % 86400001), (max 0 (min 86400000 ((s.Read + (wh % 30001)) - 15000))), (min 86400000 s.Read)]) ++ ([(whenV l s).Lo, (whenV l s).Hi, (((whenV l s).Lo) + (wh % ((((whenV l s).Hi) - ((whenV l s).Lo)) + 1)))])).length) 1 rfl rfl rfl ta57 rfl rfl (by simp) (has_rd_blk (es := List.map iC [(whenV l s).Lo, (whenV l s).Hi, (((whenV l s).Lo) + (wh % ((((whenV l s).Hi) - ((whenV l s).Lo)) + 1)))]) 0 rfl rfl (by simp [iC_length]) rfl) (one_iC _) (by first | omega | (simp; done) | (simp; omega)) (by first | (simp only [maxLen]; omega) | (simp [maxLen]; done) | (simp [maxLen]; omega)) (by simp) (by simp) rfl fun a83 c84 => ?_
   try dsimp only
   refine r_nil (hT82 _ _ (fun w hs => St.sel [2, 3, 4, 5, 6, 7, 8, 9] rfl rfl hs) ?_)
   refine t_cons rfl fun T85 hT85 => ?_
   refine rS (AG rfl) ?_
   refine r_nil (hT85 _ _ (fun w hs => St.sel [2, 3, 4, 5, 6, 7, 8, 9] rfl rfl hs) ?_)
   refine t_fin rfl ?_
   refine KK hK79 ?_
   refine w_seq fun _ hK86 => ?_
   refine WS fun _ hK87 => ?_
   refine rS (FA 0 rfl fo34_0 rfl) ?_
   refine rS (L1 (Value.int .i64 ((whenV l s).Lo)) 2 rfl tk3 rfl rfl) ?_
   refine rS (BI rfl b_gtr) ?_
   refine RK hK87 ?_
   refine w_if rfl (fun h108 => ?_) (fun h108 => ?_)
   rotate_left 1
   · replace h108 := DF h108
     refine WK hK86 ?_
     refine WS fun _ hK95 => ?_
     refine rS (FA 1 rfl fo34_1 rfl) ?_
     refine rS (L1 (Value.int .i64 ((whenV l s).Hi)) 2 rfl tk3 rfl rfl) ?_
     refine rS (BI rfl b_lss) ?_
     refine RK hK95 ?_
     refine w_if rfl (fun h117 => ?_) (fun h117 => ?_)
     rotate_left 1
     · replace h117 := DF h117
       refine w_skip ?_
       refine k_then (k_sub (Sub.cons rfl <| Sub.cons rfl <| Sub.cons rfl <| Sub.cons rfl <| Sub.cons rfl <| Sub.cons rfl <| Sub.cons rfl <| Sub.cons rfl <| Sub.nil _) (fun w hs => St.sel [1, 2, 3, 4, 5, 6, 7, 8, 9] rfl rfl hs) (hK61 ⟨((([(wh % 86400001), (max 0 (min 86400000 ((s.Read + (wh % 30001)) - 15000))), (min 86400000 s.Read)]) ++ ([(whenV l s).Lo, (whenV l s).Hi, (((whenV l s).Lo) + (wh % ((((whenV l s).Hi) - ((whenV l s).Lo)) + 1)))])), a83, c84), ⟨by intro x hx; simp at hx; omega, by simp⟩⟩))
     replace h117 := DT h117
     refine w_region ?_
     refine rS (MV rfl) ?_
     refine rS (FA 1 rfl fo34_1 rfl) ?_
     refine rS (L1 (Value.int .i64 ((whenV l s).Hi)) 2 rfl tk3 rfl rfl) ?_
     refine rS (BI rfl (b_add ⟨by omega, by omega⟩)) ?_
     refine r_bs (xs := [.tmp 121]) (cs := [(Value.int .i64 (((whenV l s).Hi) + 1))]) rfl te57 tz3 rfl rfl rfl rfl (by simp [Value.cells]) rfl rfl fun b96 => ?_
     refine r_append (es2 := (List.map iC ((([(wh % 86400001), (max 0 (min 86400000 ((s.Read + (wh % 30001)) - 15000))), (min 86400000 s.Read)]) ++ ([(whenV l s).Lo, (whenV l s).Hi, (((whenV l s).Lo) + (wh % ((((whenV l s).Hi) - ((whenV l s).Lo)) + 1)))])) ++ ([(((whenV l s).Hi) + 1)])))) (m' := ((([(wh % 86400001), (max 0 (min 86400000 ((s.Read + (wh % 30001)) - 15000))), (min 86400000 s.Read)]) ++ ([(whenV l s).Lo, (whenV l s).Hi, (((whenV l s).Lo) + (wh % ((((whenV l s).Hi) - ((whenV l s).Lo)) + 1)))])) ++ ([(((whenV l s).Hi) + 1)])).length) 2 rfl rfl rfl ta57 rfl rfl (by simp) (has_rd_blk (es := List.map iC [(((whenV l s).Hi) + 1)]) 0 rfl rfl (by simp [iC_length]) rfl) (one_iC _) (by first | omega | (simp; done) | (simp; omega)) (by first | (simp only [maxLen]; omega) | (simp [maxLen]; done) | (simp [maxLen]; omega)) (by simp) (by simp) rfl fun a97 c98 => ?_
     try dsimp only
     refine rS (AG rfl) ?_
     refine r_nil ?_
     refine k_then (k_sub (Sub.cons rfl <| Sub.cons rfl <| Sub.cons rfl <| Sub.cons rfl <| Sub.cons rfl <| Sub.cons rfl <| Sub.cons rfl <| Sub.cons rfl <| Sub.nil _) (fun w hs => St.sel [2, 3, 4, 5, 6, 7, 8, 9, 10] rfl rfl hs) (hK61 ⟨(((([(wh % 86400001), (max 0 (min 86400000 ((s.Read + (wh % 30001)) - 15000))), (min 86400000 s.Read)]) ++ ([(whenV l s).Lo, (whenV l s).Hi, (((whenV l s).Lo) + (wh % ((((whenV l s).Hi) - ((whenV l s).Lo)) + 1)))])) ++ ([(((whenV l s).Hi) + 1)])), a97, c98), ⟨by intro x hx; simp at hx; omega, by simp⟩⟩))
   replace h108 := DT h108
   refine w_region ?_
   refine rS (MV rfl) ?_
   refine rS (FA 0 rfl fo34_0 rfl) ?_
   refine rS (L1 (Value.int .i64 ((whenV l s).Lo)) 2 rfl tk3 rfl rfl) ?_
   refine rS (BI rfl (b_sub ⟨by omega, by omega⟩)) ?_
   refine r_bs (xs := [.tmp 112]) (cs := [(Value.int .i64 (((whenV l s).Lo) - 1))]) rfl te57 tz3 rfl rfl rfl rfl (by simp [Value.cells]) rfl rfl fun b88 => ?_
   refine r_append (es2 := (List.map iC ((([(wh % 86400001), (max 0 (min 86400000 ((s.Read + (wh % 30001)) - 15000))), (min 86400000 s.Read)]) ++ ([(whenV l s).Lo, (whenV l s).Hi, (((whenV l s).Lo) + (wh % ((((whenV l s).Hi) - ((whenV l s).Lo)) + 1)))])) ++ ([(((whenV l s).Lo) - 1)])))) (m' := ((([(wh % 86400001), (max 0 (min 86400000 ((s.Read + (wh % 30001)) - 15000))), (min 86400000 s.Read)]) ++ ([(whenV l s).Lo, (whenV l s).Hi, (((whenV l s).Lo) + (wh % ((((whenV l s).Hi) - ((whenV l s).Lo)) + 1)))])) ++ ([(((whenV l s).Lo) - 1)])).length) 2 rfl rfl rfl ta57 rfl rfl (by simp) (has_rd_blk (es := List.map iC [(((whenV l s).Lo) - 1)]) 0 rfl rfl (by simp [iC_length]) rfl) (one_iC _) (by first | omega | (simp; done) | (simp; omega)) (by first | (simp only [maxLen]; omega) | (simp [maxLen]; done) | (simp [maxLen]; omega)) (by simp) (by simp) rfl fun a89 c90 => ?_
   try dsimp only
   refine rS (AG rfl) ?_
   refine RK hK86 ?_
   refine WS fun _ hK91 => ?_
   refine rS (FA 1 rfl fo34_1 rfl) ?_
   refine rS (L1 (Value.int .i64 ((whenV l s).Hi)) 3 rfl tk3 rfl rfl) ?_
   refine rS (BI rfl b_lss) ?_
   refine RK hK91 ?_
   refine w_if rfl (fun h117 => ?_) (fun h117 => ?_)
   rotate_left 1
   · replace h117 := DF h117
     refine w_skip ?_
     refine k_then (k_sub (Sub.cons rfl <| Sub.cons rfl <| Sub.cons rfl <| Sub.cons rfl <| Sub.cons rfl <| Sub.cons rfl <| Sub.cons rfl <| Sub.cons rfl <| Sub.nil _) (fun w hs => St.sel [2, 3, 4, 5, 6, 7, 8, 9, 10] rfl rfl hs) (hK61 ⟨(((([(wh % 86400001), (max 0 (min 86400000 ((s.Read + (wh % 30001)) - 15000))), (min 86400000 s.Read)]) ++ ([(whenV l s).Lo, (whenV l s).Hi, (((whenV l s).Lo) + (wh % ((((whenV l s).Hi) - ((whenV l s).Lo)) + 1)))])) ++ ([(((whenV l s).Lo) - 1)])), a89, c90), ⟨by intro x hx; simp at hx; omega, by simp⟩⟩))
   replace h117 := DT h117
   refine w_region ?_
   refine rS (MV rfl) ?_
   refine rS (FA 1 rfl fo34_1 rfl) ?_
   refine rS (L1 (Value.int .i64 ((whenV l s).Hi)) 3 rfl tk3 rfl rfl) ?_
   refine rS (BI rfl (b_add ⟨by omega, by omega⟩)) ?_
   refine r_bs (xs := [.tmp 121]) (cs := [(Value.int .i64 (((whenV l s).Hi) + 1))]) rfl te57 tz3 rfl rfl rfl rfl (by simp [Value.cells]) rfl rfl fun b92 => ?_
   refine r_append (es2 := (List.map iC (((([(wh % 86400001), (max 0 (min 86400000 ((s.Read + (wh % 30001)) - 15000))), (min 86400000 s.Read)]) ++ ([(whenV l s).Lo, (whenV l s).Hi, (((whenV l s).Lo) + (wh % ((((whenV l s).Hi) - ((whenV l s).Lo)) + 1)))])) ++ ([(((whenV l s).Lo) - 1)])) ++ ([(((whenV l s).Hi) + 1)])))) (m' := (((([(wh % 86400001), (max 0 (min 86400000 ((s.Read + (wh % 30001)) - 15000))), (min 86400000 s.Read)]) ++ ([(whenV l s).Lo, (whenV l s).Hi, (((whenV l s).Lo) + (wh % ((((whenV l s).Hi) - ((whenV l s).Lo)) + 1)))])) ++ ([(((whenV l s).Lo) - 1)])) ++ ([(((whenV l s).Hi) + 1)])).length) 3 rfl rfl rfl ta57 rfl rfl (by simp) (has_rd_blk (es := List.map iC [(((whenV l s).Hi) + 1)]) 0 rfl rfl (by simp [iC_length]) rfl) (one_iC _) (by first | omega | (simp; done) | (simp; omega)) (by first | (simp only [maxLen]; omega) | (simp [maxLen]; done) | (simp [maxLen]; omega)) (by simp) (by simp) rfl fun a93 c94 => ?_
   try dsimp only
   refine rS (AG rfl) ?_
   refine r_nil ?_
   refine k_then (k_sub (Sub.cons rfl <| Sub.cons rfl <| Sub.cons rfl <| Sub.cons rfl <| Sub.cons rfl <| Sub.cons rfl <| Sub.cons rfl <| Sub.cons rfl <| Sub.nil _) (fun w hs => St.sel [3, 4, 5, 6, 7, 8, 9, 10, 11] rfl rfl hs) (hK61 ⟨((((([(wh % 86400001), (max 0 (min 86400000 ((s.Read + (wh % 30001)) - 15000))), (min 86400000 s.Read)]) ++ ([(whenV l s).Lo, (whenV l s).Hi, (((whenV l s).Lo) + (wh % ((((whenV l s).Hi) - ((whenV l s).Lo)) + 1)))])) ++ ([(((whenV l s).Lo) - 1)])) ++ ([(((whenV l s).Hi) + 1)])), a93, c94), ⟨by intro x hx; simp at hx; omega, by simp⟩⟩))
 replace h65 := XT h65
 refine rS (MV rfl) ?_
 refine rS (BI rfl b_neq) ?_
 refine rS (PK rfl) ?_
 refine RK hK18 ?_
 refine w_if rfl (fun h68 => ?_) (fun h68 => ?_)
 · replace h68 := XT h68
   exfalso; omega
 replace h68 := XF h68
 refine WK hK17 ?_
 refine WS fun _ hK19 => ?_
 refine rS (MV rfl) ?_
 refine rS (SX (sd_conv (m := wh) rfl rfl ut50 ut3 (wrap_u32_i64 (by first | assumption | omega))) rfl rfl) ?_
 have hr1 := rem_b wh 86400001 hwh.1 (by omega)
 have hr2 := rem_b wh 30001 hwh.1 (by omega)
 refine rS (BI rfl (b_rem (by omega) (by omega))) ?_
 refine rS (FA 1 rfl fo30_1 rfl) ?_
 refine rS (L1 (Value.int .i64 s.Read) 2 rfl tk3 rfl rfl) ?_
 refine rS (MV rfl) ?_
 refine rS (BI rfl (b_rem (by omega) (by omega))) ?_
 refine rS (SX (sd_conv (m := (wh % 30001)) rfl rfl ut50 ut3 (wrap_u32_i64 (by first | assumption | omega))) rfl rfl) ?_
 refine rS (BI rfl (b_add ⟨by omega, by omega⟩)) ?_
 refine rS (BI rfl (b_sub ⟨by omega, by omega⟩)) ?_
 refine rS (MN rfl) ?_
 refine rS (MX rfl) ?_
 refine rS (FA 1 rfl fo30_1 rfl) ?_
 refine rS (L1 (Value.int .i64 s.Read) 2 rfl tk3 rfl rfl) ?_
 refine rS (MN rfl) ?_
 refine r_bs (xs := [.tmp 71, .tmp 80, .tmp 83]) (cs := [(Value.int .i64 (wh % 86400001)), (Value.int .i64 (max 0 (min 86400000 ((s.Read + (wh % 30001)) - 15000)))), (Value.int .i64 (min 86400000 s.Read))]) rfl te57 tz3 rfl rfl rfl rfl (by simp [Value.cells]) rfl rfl fun b20 => ?_
 refine r_blk_own (es := (List.map iC [(wh % 86400001), (max 0 (min 86400000 ((s.Read + (wh % 30001)) - 15000))), (min 86400000 s.Read)])) (C' := [(own (some ⟨b20, 0, none⟩) 3 3 1 (List.map iC [(wh % 86400001), (max 0 (min 86400000 ((s.Read + (wh % 30001)) - 15000))), (min 86400000 s.Read)])), _, _, _, _, _, _, _, _]) 0 rfl (map_len iC_length _) rfl (by show 3 ≤ maxLen; decide) rfl ?_
 refine rS (AG rfl) ?_
 refine RK hK19 ?_
 refine w_join (ι := { z : (List Int) × (Option Addr) × Nat // (∀ x ∈ z.1, 0 ≤ x ∧ x ≤ 86400000) ∧ (z.1.length ≤ 10) }) (fun z => [(3, (Value.pointer (some ⟨b2, 0, none⟩))), (4, (Value.pointer (some ⟨b3, 0, none⟩))), (7, (Value.bool true)), (8, (Value.pointer (some ⟨b13, 0, none⟩))), (9, (Value.func (.func 24) [].toArray [(Value.pointer (some ⟨b2, 0, none⟩)), (Value.pointer (some ⟨b13, 0, none⟩)), (Value.pointer (some ⟨b3, 0, none⟩))].toArray)), (10, (Value.pointer (some ⟨b16, 0, none⟩))), (11, (Value.int .i64 (whenE l s))), (12, (Value.slice z.1.2.1 z.1.1.length z.1.2.2))]) (fun z => [(own z.1.2.1 z.1.2.2 3 1 (z.1.1.map iC)), (blk b16 34 (SpanV.cells (whenV l s))), (blk b13 3 [(Value.int .i64 y.Clock)]), (blk b3 30 (SignalV.cells s)), (blk b2 28 (LineV.cells (LineV.mk (TrackV.mk (Slc.mk kA l.Track.length kC)) l.Fast (Slc.mk cA l.Clocks.length cC) (Slc.mk bA l.Beams.length bC) l.Finish l.Fakes l.Misses))), (rd kA l.Track.length 9 (l.Track.map StretchV.cells)).ro, (rd cA l.Clocks.length 2 (List.zipWith ClockM.cells l.Clocks az)).ro, (bun (nest ClockM.rds l.Clocks az)).ro, (rd bA l.Beams.length 4 (l.Beams.map BeamV.cells)).ro]) ?_ fun K21 hK21 => ?_
 · rintro ⟨⟨q, aA, aC⟩, ⟨hjK21_0, hjK21_1⟩⟩
   try dsimp only at hjK21_0 hjK21_1
   try dsimp only
   refine w_seq fun _ hK22 => ?_
   refine WS fun _ hK23 => ?_
   refine rS (MV rfl) ?_
   refine rS (LN rfl ut57) ?_
   refine rS (MV rfl) ?_
   refine RK hK23 ?_
   refine w_block ?_
   have hinit : (0 ≤ q.length) := by exact Nat.zero_le _
   refine w_loop (ι := { z : Nat // (z ≤ q.length) }) (fun z => [(3, (Value.pointer (some ⟨b2, 0, none⟩))), (4, (Value.pointer (some ⟨b3, 0, none⟩))), (7, (Value.bool true)), (8, (Value.pointer (some ⟨b13, 0, none⟩))), (9, (Value.func (.func 24) [].toArray [(Value.pointer (some ⟨b2, 0, none⟩)), (Value.pointer (some ⟨b13, 0, none⟩)), (Value.pointer (some ⟨b3, 0, none⟩))].toArray)), (10, (Value.pointer (some ⟨b16, 0, none⟩))), (11, (Value.int .i64 (whenE l s))), (124, (Value.slice aA q.length aC)), (125, (Value.int .i64 ((q.length : Nat) : Int))), (126, (Value.int .i64 ((z.1 : Nat) : Int)))]) (fun z => [(own aA aC 3 1 (q.map iC)), (blk b16 34 (SpanV.cells (whenV l s))), (blk b13 3 [(Value.int .i64 y.Clock)]), (blk b3 30 (SignalV.cells s)), (blk b2 28 (LineV.cells (LineV.mk (TrackV.mk (Slc.mk kA l.Track.length kC)) l.Fast (Slc.mk cA l.Clocks.length cC) (Slc.mk bA l.Beams.length bC) l.Finish l.Fakes l.Misses))), (rd kA l.Track.length 9 (l.Track.map StretchV.cells)).ro, (rd cA l.Clocks.length 2 (List.zipWith ClockM.cells l.Clocks az)).ro, (bun (nest ClockM.rds l.Clocks az)).ro, (rd bA l.Beams.length 4 (l.Beams.map BeamV.cells)).ro]) (fun z => q.length - z.1) ⟨0, hinit⟩ (Sub.cons rfl <| Sub.cons rfl <| Sub.cons rfl <| Sub.cons rfl <| Sub.cons rfl <| Sub.cons rfl <| Sub.cons rfl <| Sub.cons rfl <| Sub.cons rfl <| Sub.cons rfl <| Sub.nil _) (fun w hs => St.sel [0, 1, 2, 3, 4, 5, 6, 7, 8] rfl rfl hs) ?_
   clear hinit
   rintro ⟨i, hl17_0⟩ J24 hJ24
   try dsimp only
   refine WS fun _ hK25 => ?_
   refine rS (BI rfl b_lss) ?_
   refine RK hK25 ?_
   refine w_seq fun _ hK26 => ?_
   refine w_if rfl (fun h27 => ?_) (fun h27 => ?_)
   rotate_left 1
   · replace h27 := DF h27
     refine w_exit ?_
     refine k_exit_then ?_
     refine k_exit_then ?_
     refine k_exit_same ?_
     refine KK hK22 ?_
     refine WS fun _ hK37 => ?_
     refine rS (MV rfl) ?_
     refine rS (AG rfl) ?_
     refine RK hK37 ?_
     refine w_ret ?_
     exact Q1 hQ rfl rfl rfl rfl
   replace h27 := DT h27
   refine WK hK26 ?_
   refine w_seq fun _ hK28 => ?_
   refine w_block ?_
   refine WS fun _ hK29 => ?_
   obtain ⟨x, hx⟩ : ∃ y_, q[i]? = some y_ := ⟨q[i]'(by omega), List.getElem?_eq_getElem _⟩
   have hxm : (q.map iC)[i]? = some (iC x) := by rw [List.getElem?_map, hx]; rfl
   refine rS (IA i rfl (has_own_n (n := q.length) 0 rfl (by simp)) te57 (by decide) (by omega) (by omega)) ?_
   refine rS (LE1 i 0 (Value.int .i64 x) rfl tk3 (has_own_n (n := q.length) 0 rfl (by simp)) hxm rfl (by decide) rfl) ?_
   refine rS (AG rfl) ?_
   refine RK hK29 ?_
   refine w_seq fun _ hK30 => ?_
   refine WS fun _ hK31 => ?_
   refine rS (MV rfl) ?_
   have hxb : 0 ≤ x ∧ x ≤ 86400000 := (by assumption : ∀ x ∈ q, 0 ≤ x ∧ x ≤ 86400000) x (List.mem_of_getElem? hx)
   have htold := told_at h21.2 hsi hxb hy
   refine rS (BI rfl b_lss) ?_
   refine rS (MV rfl) ?_
   refine r_bool (t := 132) rfl (fun h132 => ?_) (fun h132 => ?_)
   · replace h132 := DT h132
     exfalso; omega
   replace h132 := DF h132
   refine rS (MV rfl) ?_
   refine rS (BI rfl b_gtr) ?_
   refine rS (PK rfl) ?_
   refine RK hK31 ?_
   refine w_if rfl (fun h135 => ?_) (fun h135 => ?_)
   · replace h135 := DT h135
     exfalso; omega
   replace h135 := DF h135
   refine WK hK30 ?_
   refine WS fun _ hK32 => ?_
   refine rS (MV rfl) ?_
   refine rS (MV rfl) ?_
   refine rS (CL (told1_c x l kA kC az cA cC bA bC b2 y.Clock b13 s b3 (by first | assumption | omega | (simp; done) | (simp; omega)) (by first | assumption | omega | (simp; done) | (simp; omega)) (by first | assumption | omega | (simp; done) | (simp; omega))) (ha_at 5 rfl rfl <| ha_at 6 rfl rfl <| ha_at 7 rfl rfl <| ha_at 8 rfl rfl <| ha_at 4 rfl rfl <| ha_at 2 rfl rfl <| ha_at 3 rfl rfl <| ha_nil) rfl) ?_
   refine rS (MV rfl) ?_
   refine rS (EX rfl) ?_
   refine rS (EX rfl) ?_
   refine rS (AG rfl) ?_
   refine rS (AG rfl) ?_
   refine RK hK32 ?_
   refine WS fun _ hK33 => ?_
   refine rS (MV rfl) ?_
   refine rS (NT rfl) ?_
   refine rS (MV rfl) ?_
   refine r_bool (t := 144) rfl (fun h144 => ?_) (fun h144 => ?_)
   · replace h144 := XT h144
     exact absurd htold.1 h144
   replace h144 := XF h144
   refine rS (MV rfl) ?_
   refine rS (MV rfl) ?_
   refine rS (BI rfl b_eql) ?_
   refine rS (MV rfl) ?_
   refine r_bool (t := 148) rfl (fun h148 => ?_) (fun h148 => ?_)
   rotate_left 1
   · replace h148 := DF h148
     refine rS (OX rfl) ?_
     refine rS (OX rfl) ?_
     refine rS (OX rfl) ?_
     refine rS (OX rfl) ?_
     refine rS (PK rfl) ?_
     refine rS (MV rfl) ?_
     refine rS (OX rfl) ?_
     refine rS (OX rfl) ?_
     refine rS (OX rfl) ?_
     refine rS (OX rfl) ?_
     refine rS (PK rfl) ?_
     refine rS (BI rfl (b_neqb ut4)) ?_
     refine rS (PK rfl) ?_
     refine RK hK33 ?_
     refine w_if rfl (fun h161 => ?_) (fun h161 => ?_)
     · rw [Bool.not_eq_true'] at h161
       exfalso; first | (have e := htold.2; simp only [h148, h154, true_and] at e; simp [e] at h161; done) | (have e := htold.2; simp [h148, h154] at e h161; omega) | (have e := htold.2; simp [h148] at e h161; omega)
     rw [Bool.not_eq_false'] at h161
     refine w_skip ?_
     refine k_block ?_
     refine KK hK28 ?_
     refine w_region ?_
     refine rS (BI rfl (b_add ⟨by omega, by omega⟩)) ?_
     refine rS (MV rfl) ?_
     refine r_nil ?_
     have hb36 : (Value.int .i64 (((i + 1) : Nat) : Int)) = (Value.int .i64 (((i : Nat) : Int) + 1)) := by exact congrArg (Value.int .i64) (by omega)
     refine k_then (hJ24 ⟨(i + 1), (by first | omega | (simp only []; omega))⟩ _ _ _ rfl (by first | omega | (simp; omega)) (Sub.cons rfl <| Sub.cons rfl <| Sub.cons rfl <| Sub.cons rfl <| Sub.cons rfl <| Sub.cons rfl <| Sub.cons rfl <| Sub.cons rfl <| Sub.cons rfl <| sub_val rfl hb36 <| Sub.nil _) (fun w hs => St.sel [0, 1, 2, 3, 4, 5, 6, 7, 8] rfl rfl hs))
   replace h148 := DT h148
   refine rS (MV rfl) ?_
   refine rS (FA 0 rfl fo34_0 rfl) ?_
   refine rS (L1 (Value.int .i64 ((whenV l s).Lo)) 1 rfl tk3 rfl rfl) ?_
   refine rS (BI rfl b_geq) ?_
   refine rS (PK rfl) ?_
   refine rS (MV rfl) ?_
   refine r_bool (t := 154) rfl (fun h154 => ?_) (fun h154 => ?_)
   rotate_left 1
   · replace h154 := DF h154
     refine rS (OX rfl) ?_
     refine rS (OX rfl) ?_
     refine rS (OX rfl) ?_
     refine rS (OX rfl) ?_
     refine rS (PK rfl) ?_
     refine rS (BI rfl (b_neqb ut4)) ?_
     refine rS (PK rfl) ?_
     refine RK hK33 ?_
     refine w_if rfl (fun h161 => ?_) (fun h161 => ?_)
     · rw [Bool.not_eq_true'] at h161
       exfalso; first | (have e := htold.2; simp only [h148, h154, true_and] at e; simp [e] at h161; done) | (have e := htold.2; simp [h148, h154] at e h161; omega) | (have e := htold.2; simp [h148] at e h161; omega)
     rw [Bool.not_eq_false'] at h161
     refine w_skip ?_
     refine k_block ?_
     refine KK hK28 ?_
     refine w_region ?_
     refine rS (BI rfl (b_add ⟨by omega, by omega⟩)) ?_
     refine rS (MV rfl) ?_
     refine r_nil ?_
     have hb35 : (Value.int .i64 (((i + 1) : Nat) : Int)) = (Value.int .i64 (((i : Nat) : Int) + 1)) := by exact congrArg (Value.int .i64) (by omega)
     refine k_then (hJ24 ⟨(i + 1), (by first | omega | (simp only []; omega))⟩ _ _ _ rfl (by first | omega | (simp; omega)) (Sub.cons rfl <| Sub.cons rfl <| Sub.cons rfl <| Sub.cons rfl <| Sub.cons rfl <| Sub.cons rfl <| Sub.cons rfl <| Sub.cons rfl <| Sub.cons rfl <| sub_val rfl hb35 <| Sub.nil _) (fun w hs => St.sel [0, 1, 2, 3, 4, 5, 6, 7, 8] rfl rfl hs))
   replace h154 := DT h154
   refine rS (MV rfl) ?_
   refine rS (FA 1 rfl fo34_1 rfl) ?_
   refine rS (L1 (Value.int .i64 ((whenV l s).Hi)) 1 rfl tk3 rfl rfl) ?_
   refine rS (BI rfl b_leq) ?_
   refine rS (PK rfl) ?_
   refine rS (BI rfl (b_neqb ut4)) ?_
   refine rS (PK rfl) ?_
   refine RK hK33 ?_
   refine w_if rfl (fun h161 => ?_) (fun h161 => ?_)
   · rw [Bool.not_eq_true'] at h161
     exfalso; first | (have e := htold.2; simp only [h148, h154, true_and] at e; simp [e] at h161; done) | (have e := htold.2; simp [h148, h154] at e h161; omega) | (have e := htold.2; simp [h148] at e h161; omega)
   rw [Bool.not_eq_false'] at h161
   refine w_skip ?_
   refine k_block ?_
   refine KK hK28 ?_
   refine w_region ?_
   refine rS (BI rfl (b_add ⟨by omega, by omega⟩)) ?_
   refine rS (MV rfl) ?_
   refine r_nil ?_
   have hb34 : (Value.int .i64 (((i + 1) : Nat) : Int)) = (Value.int .i64 (((i : Nat) : Int) + 1)) := by exact congrArg (Value.int .i64) (by omega)
   refine k_then (hJ24 ⟨(i + 1), (by first | omega | (simp only []; omega))⟩ _ _ _ rfl (by first | omega | (simp; omega)) (Sub.cons rfl <| Sub.cons rfl <| Sub.cons rfl <| Sub.cons rfl <| Sub.cons rfl <| Sub.cons rfl <| Sub.cons rfl <| Sub.cons rfl <| Sub.cons rfl <| sub_val rfl hb34 <| Sub.nil _) (fun w hs => St.sel [0, 1, 2, 3, 4, 5, 6, 7, 8] rfl rfl hs))
 refine WS fun _ hK38 => ?_
 refine rS (MV rfl) ?_
 refine rS (BI rfl b_eql) ?_
 refine RK hK38 ?_
 refine w_if rfl (fun h86 => ?_) (fun h86 => ?_)
 rotate_left 1
 · replace h86 := DF h86
   refine w_skip ?_
   refine k_then (k_sub (Sub.cons rfl <| Sub.cons rfl <| Sub.cons rfl <| Sub.cons rfl <| Sub.cons rfl <| Sub.cons rfl <| Sub.cons rfl <| Sub.cons rfl <| Sub.nil _) (fun w hs => St.sel [0, 1, 2, 3, 4, 5, 6, 7, 8] rfl rfl hs) (hK21 ⟨([(wh % 86400001), (max 0 (min 86400000 ((s.Read + (wh % 30001)) - 15000))), (min 86400000 s.Read)], (some ⟨b20, 0, none⟩), 3), ⟨by intro x hx; simp at hx; omega, by simp⟩⟩))
 replace h86 := DT h86
 refine w_seq fun _ hK39 => ?_
 refine w_draw4 mixed [0, 1, 2, 3, 4, 5, 6, 7, 8, 9, 10, 11, 12, 13, 14, 15, 16] [17, 18, 19] [false, false, false, false, false, false, false, false, false, false, false, false, false, false, false, false, false] [false, false, false] [(blk b16 34 (SpanV.cells (whenV l s))), (blk b13 3 [(Value.int .i64 y.Clock)]), (blk b3 30 (SignalV.cells s)), (blk b2 28 (LineV.cells (LineV.mk (TrackV.mk (Slc.mk kA l.Track.length kC)) l.Fast (Slc.mk cA l.Clocks.length cC) (Slc.mk bA l.Beams.length bC) l.Finish l.Fakes l.Misses))), (rd kA l.Track.length 9 (l.Track.map StretchV.cells)).ro, (rd cA l.Clocks.length 2 (List.zipWith ClockM.cells l.Clocks az)).ro, (bun (nest ClockM.rds l.Clocks az)).ro, (rd bA l.Beams.length 4 (l.Beams.map BeamV.cells)).ro] [] (by kernel_rfl) (fun w hs => St.sel [1, 2, 3, 4, 5, 6, 7, 8] rfl rfl hs) (fun w hs => St.sel [] rfl rfl hs) ?_
 have htb := hte2 h86
 have hrm := rem_b wh ((whenV l s).Hi - (whenV l s).Lo + 1) hwh.1 (by omega)
 refine eS rfl (MV rfl) ?_
 refine eS rfl (FA 0 rfl fo34_0 rfl) ?_
 refine eS rfl (L1 (Value.int .i64 ((whenV l s).Lo)) 0 rfl tk3 rfl rfl) ?_
 refine eS rfl (FA 1 rfl fo34_1 rfl) ?_
 refine eS rfl (L1 (Value.int .i64 ((whenV l s).Hi)) 0 rfl tk3 rfl rfl) ?_
 refine eS rfl (FA 0 rfl fo34_0 rfl) ?_
 refine eS rfl (L1 (Value.int .i64 ((whenV l s).Lo)) 0 rfl tk3 rfl rfl) ?_
 refine eS rfl (MV rfl) ?_
 refine eS rfl (SX (sd_conv (m := wh) rfl rfl ut50 ut3 (wrap_u32_i64 (by first | assumption | omega))) rfl rfl) ?_
 refine eS rfl (FA 1 rfl fo34_1 rfl) ?_
 refine eS rfl (L1 (Value.int .i64 ((whenV l s).Hi)) 0 rfl tk3 rfl rfl) ?_
 refine eS rfl (FA 0 rfl fo34_0 rfl) ?_
 refine eS rfl (L1 (Value.int .i64 ((whenV l s).Lo)) 0 rfl tk3 rfl rfl) ?_
 refine eS rfl (BI rfl (b_sub ⟨by omega, by omega⟩)) ?_
 refine eS rfl (BI rfl (b_add ⟨by omega, by omega⟩)) ?_
 refine eS rfl (BI rfl (b_rem (by omega) (by omega))) ?_
 refine eS rfl (BI rfl (b_add ⟨by omega, by omega⟩)) ?_
 refine d_fin rfl ?_
 refine t_cons rfl fun T40 hT40 => ?_
 refine r_bs (xs := [.tmp 89, .tmp 91, .tmp 103]) (cs := [(Value.int .i64 ((whenV l s).Lo)), (Value.int .i64 ((whenV l s).Hi)), (Value.int .i64 (((whenV l s).Lo) + (wh % ((((whenV l s).Hi) - ((whenV l s).Lo)) + 1))))]) rfl te57 tz3 rfl rfl rfl rfl (by simp [Value.cells]) rfl rfl fun b41 => ?_
 refine r_nil (hT40 _ _ (fun w hs => St.sel [2, 3, 4, 5, 6, 7, 8, 9] rfl rfl hs) ?_)
 refine t_cons rfl fun T42 hT42 => ?_
 refine r_append (es2 := (List.map iC (([(wh % 86400001), (max 0 (min 86400000 ((s.Read + (wh % 30001)) - 15000))), (min 86400000 s.Read)]) ++ ([(whenV l s).Lo, (whenV l s).Hi, (((whenV l s).Lo) + (wh % ((((whenV l s).Hi) - ((whenV l s).Lo)) + 1)))])))) (m' := (([(wh % 86400001), (max 0 (min 86400000 ((s.Read + (wh % 30001)) - 15000))), (min 86400000 s.Read)]) ++ ([(whenV l s).Lo, (whenV l s).Hi, (((whenV l s).Lo) + (wh % ((((whenV l s).Hi) - ((whenV l s).Lo)) + 1)))])).length) 1 rfl rfl rfl ta57 rfl rfl (by simp) (has_rd_blk (es := List.map iC [(whenV l s).Lo, (whenV l s).Hi, (((whenV l s).Lo) + (wh % ((((whenV l s).Hi) - ((whenV l s).Lo)) + 1)))]) 0 rfl rfl (by simp [iC_length]) rfl) (one_iC _) (by first | omega | (simp; done) | (simp; omega)) (by first | (simp only [maxLen]; omega) | (simp [maxLen]; done) | (simp [maxLen]; omega)) (by simp) (by simp) rfl fun a43 c44 => ?_
 try dsimp only
 refine r_nil (hT42 _ _ (fun w hs => St.sel [2, 3, 4, 5, 6, 7, 8, 9] rfl rfl hs) ?_)
 refine t_cons rfl fun T45 hT45 => ?_
 refine rS (AG rfl) ?_
 refine r_nil (hT45 _ _ (fun w hs => St.sel [2, 3, 4, 5, 6, 7, 8, 9] rfl rfl hs) ?_)
 refine t_fin rfl ?_
 refine KK hK39 ?_
 refine w_seq fun _ hK46 => ?_
 refine WS fun _ hK47 => ?_
 refine rS (FA 0 rfl fo34_0 rfl) ?_
 refine rS (L1 (Value.int .i64 ((whenV l s).Lo)) 2 rfl tk3 rfl rfl) ?_
 refine rS (BI rfl b_gtr) ?_
 refine RK hK47 ?_
 refine w_if rfl (fun h108 => ?_) (fun h108 => ?_)
 rotate_left 1
 · replace h108 := DF h108
   refine WK hK46 ?_
   refine WS fun _ hK55 => ?_
   refine rS (FA 1 rfl fo34_1 rfl) ?_
   refine rS (L1 (Value.int .i64 ((whenV l s).Hi)) 2 rfl tk3 rfl rfl) ?_
   refine rS (BI rfl b_lss) ?_
   refine RK hK55 ?_
   refine w_if rfl (fun h117 => ?_) (fun h117 => ?_)
   rotate_left 1
   · replace h117 := DF h117
     refine w_skip ?_
     refine k_then (k_sub (Sub.cons rfl <| Sub.cons rfl <| Sub.cons rfl <| Sub.cons rfl <| Sub.cons rfl <| Sub.cons rfl <| Sub.cons rfl <| Sub.cons rfl <| Sub.nil _) (fun w hs => St.sel [1, 2, 3, 4, 5, 6, 7, 8, 9] rfl rfl hs) (hK21 ⟨((([(wh % 86400001), (max 0 (min 86400000 ((s.Read + (wh % 30001)) - 15000))), (min 86400000 s.Read)]) ++ ([(whenV l s).Lo, (whenV l s).Hi, (((whenV l s).Lo) + (wh % ((((whenV l s).Hi) - ((whenV l s).Lo)) + 1)))])), a43, c44), ⟨by intro x hx; simp at hx; omega, by simp⟩⟩))
   replace h117 := DT h117
   refine w_region ?_
   refine rS (MV rfl) ?_
   refine rS (FA 1 rfl fo34_1 rfl) ?_
   refine rS (L1 (Value.int .i64 ((whenV l s).Hi)) 2 rfl tk3 rfl rfl) ?_
   refine rS (BI rfl (b_add ⟨by omega, by omega⟩)) ?_
   refine r_bs (xs := [.tmp 121]) (cs := [(Value.int .i64 (((whenV l s).Hi) + 1))]) rfl te57 tz3 rfl rfl rfl rfl (by simp [Value.cells]) rfl rfl fun b56 => ?_
   refine r_append (es2 := (List.map iC ((([(wh % 86400001), (max 0 (min 86400000 ((s.Read + (wh % 30001)) - 15000))), (min 86400000 s.Read)]) ++ ([(whenV l s).Lo, (whenV l s).Hi, (((whenV l s).Lo) + (wh % ((((whenV l s).Hi) - ((whenV l s).Lo)) + 1)))])) ++ ([(((whenV l s).Hi) + 1)])))) (m' := ((([(wh % 86400001), (max 0 (min 86400000 ((s.Read + (wh % 30001)) - 15000))), (min 86400000 s.Read)]) ++ ([(whenV l s).Lo, (whenV l s).Hi, (((whenV l s).Lo) + (wh % ((((whenV l s).Hi) - ((whenV l s).Lo)) + 1)))])) ++ ([(((whenV l s).Hi) + 1)])).length) 2 rfl rfl rfl ta57 rfl rfl (by simp) (has_rd_blk (es := List.map iC [(((whenV l s).Hi) + 1)]) 0 rfl rfl (by simp [iC_length]) rfl) (one_iC _) (by first | omega | (simp; done) | (simp; omega)) (by first | (simp only [maxLen]; omega) | (simp [maxLen]; done) | (simp [maxLen]; omega)) (by simp) (by simp) rfl fun a57 c58 => ?_
   try dsimp only
   refine rS (AG rfl) ?_
   refine r_nil ?_
   refine k_then (k_sub (Sub.cons rfl <| Sub.cons rfl <| Sub.cons rfl <| Sub.cons rfl <| Sub.cons rfl <| Sub.cons rfl <| Sub.cons rfl <| Sub.cons rfl <| Sub.nil _) (fun w hs => St.sel [2, 3, 4, 5, 6, 7, 8, 9, 10] rfl rfl hs) (hK21 ⟨(((([(wh % 86400001), (max 0 (min 86400000 ((s.Read + (wh % 30001)) - 15000))), (min 86400000 s.Read)]) ++ ([(whenV l s).Lo, (whenV l s).Hi, (((whenV l s).Lo) + (wh % ((((whenV l s).Hi) - ((whenV l s).Lo)) + 1)))])) ++ ([(((whenV l s).Hi) + 1)])), a57, c58), ⟨by intro x hx; simp at hx; omega, by simp⟩⟩))
 replace h108 := DT h108
 refine w_region ?_
 refine rS (MV rfl) ?_
 refine rS (FA 0 rfl fo34_0 rfl) ?_
 refine rS (L1 (Value.int .i64 ((whenV l s).Lo)) 2 rfl tk3 rfl rfl) ?_
 refine rS (BI rfl (b_sub ⟨by omega, by omega⟩)) ?_
 refine r_bs (xs := [.tmp 112]) (cs := [(Value.int .i64 (((whenV l s).Lo) - 1))]) rfl te57 tz3 rfl rfl rfl rfl (by simp [Value.cells]) rfl rfl fun b48 => ?_
 refine r_append (es2 := (List.map iC ((([(wh % 86400001), (max 0 (min 86400000 ((s.Read + (wh % 30001)) - 15000))), (min 86400000 s.Read)]) ++ ([(whenV l s).Lo, (whenV l s).Hi, (((whenV l s).Lo) + (wh % ((((whenV l s).Hi) - ((whenV l s).Lo)) + 1)))])) ++ ([(((whenV l s).Lo) - 1)])))) (m' := ((([(wh % 86400001), (max 0 (min 86400000 ((s.Read + (wh % 30001)) - 15000))), (min 86400000 s.Read)]) ++ ([(whenV l s).Lo, (whenV l s).Hi, (((whenV l s).Lo) + (wh % ((((whenV l s).Hi) - ((whenV l s).Lo)) + 1)))])) ++ ([(((whenV l s).Lo) - 1)])).length) 2 rfl rfl rfl ta57 rfl rfl (by simp) (has_rd_blk (es := List.map iC [(((whenV l s).Lo) - 1)]) 0 rfl rfl (by simp [iC_length]) rfl) (one_iC _) (by first | omega | (simp; done) | (simp; omega)) (by first | (simp only [maxLen]; omega) | (simp [maxLen]; done) | (simp [maxLen]; omega)) (by simp) (by simp) rfl fun a49 c50 => ?_
 try dsimp only
 refine rS (AG rfl) ?_
 refine RK hK46 ?_
 refine WS fun _ hK51 => ?_
 refine rS (FA 1 rfl fo34_1 rfl) ?_
 refine rS (L1 (Value.int .i64 ((whenV l s).Hi)) 3 rfl tk3 rfl rfl) ?_
 refine rS (BI rfl b_lss) ?_
 refine RK hK51 ?_
 refine w_if rfl (fun h117 => ?_) (fun h117 => ?_)
 rotate_left 1
 · replace h117 := DF h117
   refine w_skip ?_
   refine k_then (k_sub (Sub.cons rfl <| Sub.cons rfl <| Sub.cons rfl <| Sub.cons rfl <| Sub.cons rfl <| Sub.cons rfl <| Sub.cons rfl <| Sub.cons rfl <| Sub.nil _) (fun w hs => St.sel [2, 3, 4, 5, 6, 7, 8, 9, 10] rfl rfl hs) (hK21 ⟨(((([(wh % 86400001), (max 0 (min 86400000 ((s.Read + (wh % 30001)) - 15000))), (min 86400000 s.Read)]) ++ ([(whenV l s).Lo, (whenV l s).Hi, (((whenV l s).Lo) + (wh % ((((whenV l s).Hi) - ((whenV l s).Lo)) + 1)))])) ++ ([(((whenV l s).Lo) - 1)])), a49, c50), ⟨by intro x hx; simp at hx; omega, by simp⟩⟩))
 replace h117 := DT h117
 refine w_region ?_
 refine rS (MV rfl) ?_
 refine rS (FA 1 rfl fo34_1 rfl) ?_
 refine rS (L1 (Value.int .i64 ((whenV l s).Hi)) 3 rfl tk3 rfl rfl) ?_
 refine rS (BI rfl (b_add ⟨by omega, by omega⟩)) ?_
 refine r_bs (xs := [.tmp 121]) (cs := [(Value.int .i64 (((whenV l s).Hi) + 1))]) rfl te57 tz3 rfl rfl rfl rfl (by simp [Value.cells]) rfl rfl fun b52 => ?_
 refine r_append (es2 := (List.map iC (((([(wh % 86400001), (max 0 (min 86400000 ((s.Read + (wh % 30001)) - 15000))), (min 86400000 s.Read)]) ++ ([(whenV l s).Lo, (whenV l s).Hi, (((whenV l s).Lo) + (wh % ((((whenV l s).Hi) - ((whenV l s).Lo)) + 1)))])) ++ ([(((whenV l s).Lo) - 1)])) ++ ([(((whenV l s).Hi) + 1)])))) (m' := (((([(wh % 86400001), (max 0 (min 86400000 ((s.Read + (wh % 30001)) - 15000))), (min 86400000 s.Read)]) ++ ([(whenV l s).Lo, (whenV l s).Hi, (((whenV l s).Lo) + (wh % ((((whenV l s).Hi) - ((whenV l s).Lo)) + 1)))])) ++ ([(((whenV l s).Lo) - 1)])) ++ ([(((whenV l s).Hi) + 1)])).length) 3 rfl rfl rfl ta57 rfl rfl (by simp) (has_rd_blk (es := List.map iC [(((whenV l s).Hi) + 1)]) 0 rfl rfl (by simp [iC_length]) rfl) (one_iC _) (by first | omega | (simp; done) | (simp; omega)) (by first | (simp only [maxLen]; omega) | (simp [maxLen]; done) | (simp [maxLen]; omega)) (by simp) (by simp) rfl fun a53 c54 => ?_
 try dsimp only
 refine rS (AG rfl) ?_
 refine r_nil ?_
 refine k_then (k_sub (Sub.cons rfl <| Sub.cons rfl <| Sub.cons rfl <| Sub.cons rfl <| Sub.cons rfl <| Sub.cons rfl <| Sub.cons rfl <| Sub.cons rfl <| Sub.nil _) (fun w hs => St.sel [3, 4, 5, 6, 7, 8, 9, 10, 11] rfl rfl hs) (hK21 ⟨((((([(wh % 86400001), (max 0 (min 86400000 ((s.Read + (wh % 30001)) - 15000))), (min 86400000 s.Read)]) ++ ([(whenV l s).Lo, (whenV l s).Hi, (((whenV l s).Lo) + (wh % ((((whenV l s).Hi) - ((whenV l s).Lo)) + 1)))])) ++ ([(((whenV l s).Lo) - 1)])) ++ ([(((whenV l s).Hi) + 1)])), a53, c54), ⟨by intro x hx; simp at hx; omega, by simp⟩⟩))
end
section
open Go.RowKit
set_option linter.unusedVariables false
def ReadsAs {α : Type} (cells : α → List Value) (sz : Nat) (R : World → α → Prop) (w : World) (s : Slc) : Prop := ∃ l : List α, s.n = l.length ∧ (rd s.a l.length sz (l.map cells)).holds w ∧ (∀ x ∈ l, R w x) ∧ l.length ≤ maxLen ∧ s.n ≤ s.c
theorem open_clocks {w : World} {R : World → SyncV → Prop} : ∀ {l : List ClockV}, (∀ x ∈ l, ReadsAs SyncV.cells 3 R w x.Syncs) → ∃ (ms : List ClockM) (az : List RA), l.map ClockV.cells = List.zipWith ClockM.cells ms az ∧ ms.length = l.length ∧ az.length = l.length ∧ (∀ X ∈ nest ClockM.rds ms az, X.holds w) ∧
    (∀ (k : Nat) m (a : RA), ms[k]? = some m → az[k]? = some a → m.Syncs.length ≤ a.2 ∧ m.Syncs.length ≤ 9223372036854775807) ∧ ms.map (fun m => m.Drift) = l.map (fun x => x.Drift) ∧ ∀ (k : Nat) m y, ms[k]? = some m → y ∈ m.Syncs → R w y
  | [], _ => ⟨[], [], rfl, rfl, rfl, (fun X hX => by cases hX), (fun k m a h => by simp at h), rfl, (fun k m y h => by simp at h)⟩
  | x :: l, h => by
    obtain ⟨ms, az, h1, h2, h3, h4, h5, h6, h7⟩ := open_clocks (fun y hy => h y (List.mem_cons_of_mem _ hy))
    obtain ⟨sy, e1, e2, e3, e4, e5⟩ := h x (by simp)
    have e4' : sy.length ≤ 9223372036854775807 := e4
    refine ⟨⟨x.Drift, sy⟩ :: ms, (x.Syncs.a, x.Syncs.c) :: az, ?_, by simp [h2], by simp [h3], fun X hX => ?_, fun k m a hm ha => ?_, by simp [h6], fun k m y hm hy => ?_⟩
    · obtain ⟨dr, ⟨a, n, c⟩⟩ := x
      simp only at e1
      subst e1
      simp only [List.map_cons, List.zipWith_cons_cons, h1]
      rfl
    · rcases List.mem_append.1 hX with hX | hX
      · simp only [ClockM.rds, List.mem_singleton] at hX
        subst hX; exact e2
      · exact h4 X hX
    · cases k with
      | zero =>
        simp only [List.getElem?_cons_zero, Option.some.injEq] at hm ha
        subst hm ha
        exact ⟨by simp only; omega, e4'⟩
      | succ k => exact h5 k m a (by simpa using hm) (by simpa using ha)
    · cases k with
      | zero =>
        simp only [List.getElem?_cons_zero, Option.some.injEq] at hm
        subst hm
        exact e3 y hy
      | succ k => exact h7 k m y (by simpa using hm) hy
theorem open_line {w : World} {s : LineV} {R1 : World → StretchV → Prop} {R2 : World → ClockV → Prop} {R3 : World → BeamV → Prop} {R4 : World → SyncV → Prop} (h1 : ReadsAs StretchV.cells 9 R1 w s.Track.Stretches) (hs : ∀ x, R1 w x → 0 ≤ x.Side ∧ x.Side ≤ 255) (h2 : ReadsAs ClockV.cells 2 R2 w s.Clocks) (hc : ∀ x, R2 w x → ReadsAs SyncV.cells 3 R4 w x.Syncs) (h3 : ReadsAs BeamV.cells 4 R3 w s.Beams) :
    ∃ (l : LineM) (az : List RA) (kA : Option Addr) (kC : Nat) (cA : Option Addr) (cC : Nat) (bA : Option Addr) (bC : Nat), s = LineV.mk (TrackV.mk (Slc.mk kA l.Track.length kC)) l.Fast (Slc.mk cA l.Clocks.length cC) (Slc.mk bA l.Beams.length bC) l.Finish l.Fakes l.Misses ∧ LineRaw l az ∧
      ((rd kA l.Track.length 9 (l.Track.map StretchV.cells)).holds w ∧ (rd cA l.Clocks.length 2 (List.zipWith ClockM.cells l.Clocks az)).holds w ∧ (bun (nest ClockM.rds l.Clocks az)).holds w ∧ (rd bA l.Beams.length 4 (l.Beams.map BeamV.cells)).holds w) ∧ l.Fast = s.Fast ∧ l.Finish = s.Finish ∧ l.Fakes = s.Fakes ∧ l.Misses = s.Misses := by
  obtain ⟨⟨⟨ka, kn, kc⟩⟩, fa, ⟨ca, cn, cc⟩, ⟨ba, bn, bc⟩, fi, fk, mi⟩ := s
  obtain ⟨ts, t1, t2, t3, t4, t5⟩ := h1
  obtain ⟨cs, c1, c2, c3, c4, c5⟩ := h2
  obtain ⟨bs, b1, b2, b3, b4, b5⟩ := h3
  simp only at t1 c1 b1
  subst t1 c1 b1
  obtain ⟨ms, az, m1, m2, m3, m4, m5, _⟩ := open_clocks (fun x hx => hc x (c3 x hx))
  have t4' : ts.length ≤ 9223372036854775807 := t4
  have c4' : cs.length ≤ 9223372036854775807 := c4
  have b4' : bs.length ≤ 9223372036854775807 := b4
  refine ⟨⟨ts, fa, ms, bs, fi, fk, mi⟩, az, ka, kc, ca, cc, ba, bc, by simp only [m2], ⟨t4', fun x hx => hs x (t3 x hx), by simp only; omega, by simp only; omega, b4', m5⟩, ⟨t2, ?_, m4, b2⟩, rfl, rfl, rfl, rfl⟩
  simp only at c2 ⊢
  rw [m2, ← m1]; exact c2
end
section
open Go.ChangeShapes Go.WideShapes Go.ChangeAt Go.RowKit
set_option linter.unusedVariables false
theorem cz28 : Try.prog.cellsOf 28 = 7 := by kernel_rfl
theorem cz24 : Try.prog.cellsOf 24 = 1 := by kernel_rfl
theorem cz22 : Try.prog.cellsOf 22 = 1 := by kernel_rfl
theorem cz126 : Try.prog.cellsOf 126 = 9 := by kernel_rfl
theorem cz3 : Try.prog.cellsOf 3 = 1 := by kernel_rfl
def Is3 (w : World) (n : Int) : Prop := In64 n
theorem op3 : OpR Try.prog 3 Int iC Is3 := op_i64 ut3
theorem cz34 : Try.prog.cellsOf 34 = 2 := by kernel_rfl
structure Is34 (w : World) (s : SpanV) : Prop where
  Lo : Is3 w s.Lo
  Hi : Is3 w s.Hi
theorem fx34 : fL Try.prog 34 = some [(3, 0), (3, 1)] := by kernel_rfl
theorem op34 : OpR Try.prog 34 SpanV SpanV.cells Is34 := fun {H} enc w base sp held fuel cs x h => by
  obtain ⟨hl, hp⟩ := op_parts fx34 h
  obtain ⟨n0, y0, h0⟩ := hp 0 3 0 rfl
  obtain ⟨s0, c0, r0⟩ := op3 _ _ _ _ _ _ _ _ h0
  obtain ⟨n1, y1, h1⟩ := hp 1 3 1 rfl
  obtain ⟨s1, c1, r1⟩ := op3 _ _ _ _ _ _ _ _ h1
  refine ⟨⟨s0, s1⟩, ?_, ⟨r0, r1⟩⟩
  have e1 := parts_last (hl.trans cz34) (by rw [cz3]) c1
  have e0 := parts_cons c0 (m := 1) (by rw [cz3]) e1
  exact e0
theorem cz5 : Try.prog.cellsOf 5 = 1 := by kernel_rfl
def Is5 (w : World) (n : Int) : Prop := 0 ≤ n ∧ n ≤ 255
theorem op5 : OpR Try.prog 5 Int iC_u8 Is5 := op_u8 ut5
structure Is126 (w : World) (s : StretchV) : Prop where
  Id : Is3 w s.Id
  Long : Is34 w s.Long
  Fall : Is34 w s.Fall
  Radius : Is34 w s.Radius
  Side : Is5 w s.Side
  Wall : Is3 w s.Wall
theorem fx126 : fL Try.prog 126 = some [(3, 0), (34, 1), (34, 3), (34, 5), (5, 7), (3, 8)] := by kernel_rfl
theorem op126 : OpR Try.prog 126 StretchV StretchV.cells Is126 := fun {H} enc w base sp held fuel cs x h => by
  obtain ⟨hl, hp⟩ := op_parts fx126 h
  obtain ⟨n0, y0, h0⟩ := hp 0 3 0 rfl
  obtain ⟨s0, c0, r0⟩ := op3 _ _ _ _ _ _ _ _ h0
  obtain ⟨n1, y1, h1⟩ := hp 1 34 1 rfl
  obtain ⟨s1, c1, r1⟩ := op34 _ _ _ _ _ _ _ _ h1
  obtain ⟨n2, y2, h2⟩ := hp 2 34 3 rfl
  obtain ⟨s2, c2, r2⟩ := op34 _ _ _ _ _ _ _ _ h2
  obtain ⟨n3, y3, h3⟩ := hp 3 34 5 rfl
  obtain ⟨s3, c3, r3⟩ := op34 _ _ _ _ _ _ _ _ h3
  obtain ⟨n4, y4, h4⟩ := hp 4 5 7 rfl
  obtain ⟨s4, c4, r4⟩ := op5 _ _ _ _ _ _ _ _ h4
  obtain ⟨n5, y5, h5⟩ := hp 5 3 8 rfl
  obtain ⟨s5, c5, r5⟩ := op3 _ _ _ _ _ _ _ _ h5
  refine ⟨⟨s0, s1, s2, s3, s4, s5⟩, ?_, ⟨r0, r1, r2, r3, r4, r5⟩⟩
  have e5 := parts_last (hl.trans cz126) (by rw [cz3]) c5
  have e4 := parts_cons c4 (m := 8) (by rw [cz5]) e5
  have e3 := parts_cons c3 (m := 7) (by rw [cz34]) e4
  have e2 := parts_cons c2 (m := 5) (by rw [cz34]) e3
  have e1 := parts_cons c1 (m := 3) (by rw [cz34]) e2
  have e0 := parts_cons c0 (m := 1) (by rw [cz3]) e1
  exact e0
def Is22 (w : World) (s : Slc) : Prop := ∃ l : List StretchV, s.n = l.length ∧ (rd s.a l.length 9 (l.map StretchV.cells)).holds w ∧ (∀ x ∈ l, Is126 w x) ∧ l.length ≤ maxLen ∧ s.n ≤ s.c
theorem op22 : OpR Try.prog 22 Slc (fun s => [Value.slice s.a s.n s.c]) Is22 := op_slice ut22 cz126 op126
structure Is24 (w : World) (s : TrackV) : Prop where
  Stretches : Is22 w s.Stretches
theorem fx24 : fL Try.prog 24 = some [(22, 0)] := by kernel_rfl
theorem op24 : OpR Try.prog 24 TrackV TrackV.cells Is24 := fun {H} enc w base sp held fuel cs x h => by
  obtain ⟨hl, hp⟩ := op_parts fx24 h
  obtain ⟨n0, y0, h0⟩ := hp 0 22 0 rfl
  obtain ⟨s0, c0, r0⟩ := op22 _ _ _ _ _ _ _ _ h0
  refine ⟨⟨s0⟩, ?_, ⟨r0⟩⟩
  have e0 := parts_last (hl.trans cz24) (by rw [cz22]) c0
  exact e0
theorem cz25 : Try.prog.cellsOf 25 = 1 := by kernel_rfl
theorem cz64 : Try.prog.cellsOf 64 = 2 := by kernel_rfl
theorem cz62 : Try.prog.cellsOf 62 = 1 := by kernel_rfl
theorem cz61 : Try.prog.cellsOf 61 = 3 := by kernel_rfl
structure Is61 (w : World) (s : SyncV) : Prop where
  At : Is3 w s.At
  Ahead : Is34 w s.Ahead
theorem fx61 : fL Try.prog 61 = some [(3, 0), (34, 1)] := by kernel_rfl
theorem op61 : OpR Try.prog 61 SyncV SyncV.cells Is61 := fun {H} enc w base sp held fuel cs x h => by
  obtain ⟨hl, hp⟩ := op_parts fx61 h
  obtain ⟨n0, y0, h0⟩ := hp 0 3 0 rfl
  obtain ⟨s0, c0, r0⟩ := op3 _ _ _ _ _ _ _ _ h0
  obtain ⟨n1, y1, h1⟩ := hp 1 34 1 rfl
  obtain ⟨s1, c1, r1⟩ := op34 _ _ _ _ _ _ _ _ h1
  refine ⟨⟨s0, s1⟩, ?_, ⟨r0, r1⟩⟩
  have e1 := parts_last (hl.trans cz61) (by rw [cz34]) c1
  have e0 := parts_cons c0 (m := 1) (by rw [cz3]) e1
  exact e0
def Is62 (w : World) (s : Slc) : Prop := ∃ l : List SyncV, s.n = l.length ∧ (rd s.a l.length 3 (l.map SyncV.cells)).holds w ∧ (∀ x ∈ l, Is61 w x) ∧ l.length ≤ maxLen ∧ s.n ≤ s.c
theorem op62 : OpR Try.prog 62 Slc (fun s => [Value.slice s.a s.n s.c]) Is62 := op_slice ut62 cz61 op61
structure Is64 (w : World) (s : ClockV) : Prop where
  Drift : Is3 w s.Drift
  Syncs : Is62 w s.Syncs
theorem fx64 : fL Try.prog 64 = some [(3, 0), (62, 1)] := by kernel_rfl
theorem op64 : OpR Try.prog 64 ClockV ClockV.cells Is64 := fun {H} enc w base sp held fuel cs x h => by
  obtain ⟨hl, hp⟩ := op_parts fx64 h
  obtain ⟨n0, y0, h0⟩ := hp 0 3 0 rfl
  obtain ⟨s0, c0, r0⟩ := op3 _ _ _ _ _ _ _ _ h0
  obtain ⟨n1, y1, h1⟩ := hp 1 62 1 rfl
  obtain ⟨s1, c1, r1⟩ := op62 _ _ _ _ _ _ _ _ h1
  refine ⟨⟨s0, s1⟩, ?_, ⟨r0, r1⟩⟩
  have e1 := parts_last (hl.trans cz64) (by rw [cz62]) c1
  have e0 := parts_cons c0 (m := 1) (by rw [cz3]) e1
  exact e0
def Is25 (w : World) (s : Slc) : Prop := ∃ l : List ClockV, s.n = l.length ∧ (rd s.a l.length 2 (l.map ClockV.cells)).holds w ∧ (∀ x ∈ l, Is64 w x) ∧ l.length ≤ maxLen ∧ s.n ≤ s.c
theorem op25 : OpR Try.prog 25 Slc (fun s => [Value.slice s.a s.n s.c]) Is25 := op_slice ut25 cz64 op64
theorem cz26 : Try.prog.cellsOf 26 = 1 := by kernel_rfl
theorem cz55 : Try.prog.cellsOf 55 = 4 := by kernel_rfl
theorem cz53 : Try.prog.cellsOf 53 = 3 := by kernel_rfl
structure Is53 (w : World) (s : SpotV) : Prop where
  Stretch : Is3 w s.Stretch
  Off : Is34 w s.Off
theorem fx53 : fL Try.prog 53 = some [(3, 0), (34, 1)] := by kernel_rfl
theorem op53 : OpR Try.prog 53 SpotV SpotV.cells Is53 := fun {H} enc w base sp held fuel cs x h => by
  obtain ⟨hl, hp⟩ := op_parts fx53 h
  obtain ⟨n0, y0, h0⟩ := hp 0 3 0 rfl
  obtain ⟨s0, c0, r0⟩ := op3 _ _ _ _ _ _ _ _ h0
  obtain ⟨n1, y1, h1⟩ := hp 1 34 1 rfl
  obtain ⟨s1, c1, r1⟩ := op34 _ _ _ _ _ _ _ _ h1
  refine ⟨⟨s0, s1⟩, ?_, ⟨r0, r1⟩⟩
  have e1 := parts_last (hl.trans cz53) (by rw [cz34]) c1
  have e0 := parts_cons c0 (m := 1) (by rw [cz3]) e1
  exact e0
structure Is55 (w : World) (s : BeamV) : Prop where
  Spot : Is53 w s.Spot
  Clock : Is3 w s.Clock
theorem fx55 : fL Try.prog 55 = some [(53, 0), (3, 3)] := by kernel_rfl
theorem op55 : OpR Try.prog 55 BeamV BeamV.cells Is55 := fun {H} enc w base sp held fuel cs x h => by
  obtain ⟨hl, hp⟩ := op_parts fx55 h
  obtain ⟨n0, y0, h0⟩ := hp 0 53 0 rfl
  obtain ⟨s0, c0, r0⟩ := op53 _ _ _ _ _ _ _ _ h0
  obtain ⟨n1, y1, h1⟩ := hp 1 3 3 rfl
  obtain ⟨s1, c1, r1⟩ := op3 _ _ _ _ _ _ _ _ h1
  refine ⟨⟨s0, s1⟩, ?_, ⟨r0, r1⟩⟩
  have e1 := parts_last (hl.trans cz55) (by rw [cz3]) c1
  have e0 := parts_cons c0 (m := 3) (by rw [cz53]) e1
  exact e0
def Is26 (w : World) (s : Slc) : Prop := ∃ l : List BeamV, s.n = l.length ∧ (rd s.a l.length 4 (l.map BeamV.cells)).holds w ∧ (∀ x ∈ l, Is55 w x) ∧ l.length ≤ maxLen ∧ s.n ≤ s.c
theorem op26 : OpR Try.prog 26 Slc (fun s => [Value.slice s.a s.n s.c]) Is26 := op_slice ut26 cz55 op55
structure Is28 (w : World) (s : LineV) : Prop where
  Track : Is24 w s.Track
  Fast : Is3 w s.Fast
  Clocks : Is25 w s.Clocks
  Beams : Is26 w s.Beams
  Finish : Is3 w s.Finish
  Fakes : Is3 w s.Fakes
  Misses : Is3 w s.Misses
theorem fx28 : fL Try.prog 28 = some [(24, 0), (3, 1), (25, 2), (26, 3), (3, 4), (3, 5), (3, 6)] := by kernel_rfl
theorem op28 : OpR Try.prog 28 LineV LineV.cells Is28 := fun {H} enc w base sp held fuel cs x h => by
  obtain ⟨hl, hp⟩ := op_parts fx28 h
  obtain ⟨n0, y0, h0⟩ := hp 0 24 0 rfl
  obtain ⟨s0, c0, r0⟩ := op24 _ _ _ _ _ _ _ _ h0
  obtain ⟨n1, y1, h1⟩ := hp 1 3 1 rfl
  obtain ⟨s1, c1, r1⟩ := op3 _ _ _ _ _ _ _ _ h1
  obtain ⟨n2, y2, h2⟩ := hp 2 25 2 rfl
  obtain ⟨s2, c2, r2⟩ := op25 _ _ _ _ _ _ _ _ h2
  obtain ⟨n3, y3, h3⟩ := hp 3 26 3 rfl
  obtain ⟨s3, c3, r3⟩ := op26 _ _ _ _ _ _ _ _ h3
  obtain ⟨n4, y4, h4⟩ := hp 4 3 4 rfl
  obtain ⟨s4, c4, r4⟩ := op3 _ _ _ _ _ _ _ _ h4
  obtain ⟨n5, y5, h5⟩ := hp 5 3 5 rfl
  obtain ⟨s5, c5, r5⟩ := op3 _ _ _ _ _ _ _ _ h5
  obtain ⟨n6, y6, h6⟩ := hp 6 3 6 rfl
  obtain ⟨s6, c6, r6⟩ := op3 _ _ _ _ _ _ _ _ h6
  refine ⟨⟨s0, s1, s2, s3, s4, s5, s6⟩, ?_, ⟨r0, r1, r2, r3, r4, r5, r6⟩⟩
  have e6 := parts_last (hl.trans cz28) (by rw [cz3]) c6
  have e5 := parts_cons c5 (m := 6) (by rw [cz3]) e6
  have e4 := parts_cons c4 (m := 5) (by rw [cz3]) e5
  have e3 := parts_cons c3 (m := 4) (by rw [cz26]) e4
  have e2 := parts_cons c2 (m := 3) (by rw [cz25]) e3
  have e1 := parts_cons c1 (m := 2) (by rw [cz3]) e2
  have e0 := parts_cons c0 (m := 1) (by rw [cz24]) e1
  exact e0
theorem cz30 : Try.prog.cellsOf 30 = 2 := by kernel_rfl
structure Is30 (w : World) (s : SignalV) : Prop where
  Beam : Is3 w s.Beam
  Read : Is3 w s.Read
theorem fx30 : fL Try.prog 30 = some [(3, 0), (3, 1)] := by kernel_rfl
theorem op30 : OpR Try.prog 30 SignalV SignalV.cells Is30 := fun {H} enc w base sp held fuel cs x h => by
  obtain ⟨hl, hp⟩ := op_parts fx30 h
  obtain ⟨n0, y0, h0⟩ := hp 0 3 0 rfl
  obtain ⟨s0, c0, r0⟩ := op3 _ _ _ _ _ _ _ _ h0
  obtain ⟨n1, y1, h1⟩ := hp 1 3 1 rfl
  obtain ⟨s1, c1, r1⟩ := op3 _ _ _ _ _ _ _ _ h1
  refine ⟨⟨s0, s1⟩, ?_, ⟨r0, r1⟩⟩
  have e1 := parts_last (hl.trans cz30) (by rw [cz3]) c1
  have e0 := parts_cons c0 (m := 1) (by rw [cz3]) e1
  exact e0
theorem own_beamTold : ownKnob Try.prog.godebug = none := by kernel_rfl
theorem laid_beamTold : laidOutB Try.prog = true := by kernel_rfl
set_option maxRecDepth 100000 in
theorem beamTold_lifted (os : Os) (started : os.Started) (H : Type) (enc : TypeId × Value → H) :
    ReturnsInHanded {} Try.checked os 4 .any (Rows.beamToldSpec.pre6 enc Try.prog Try.f4 Rows.beamToldRow.domain false) (Rows.beamToldSpec.post enc Try.prog Try.f4 false true false false) := by
  refine returnsInHanded_of_change (C := Try.checked) own_beamTold started (by kernel_rfl) Try.func4
    (ChangeSpec.witness6 (enc := enc) (C := Try.checked) false ⟨#[], #[.agg #[(Value.slice none 0 0), (Value.int .i64 0), (Value.slice none 0 0), (Value.slice none 0 0), (Value.int .i64 0), (Value.int .i64 0), (Value.int .i64 0)], .agg #[(Value.int .i64 0), (Value.int .i64 0)], Value.int .u32 0], []⟩ 8 (by kernel_rfl) (by kernel_rfl) (by kernel_rfl) (by kernel_rfl)) ?_
  intro W base args ds gs before hval0 hW hcnd _
  have hval : ∀ (j : Nat) t v, Try.f4.params[j]? = some t → args[j]? = some v → Value.okWide Try.prog W .any base t v := hval0
  have hW' := hW
  obtain ⟨p, q, hA0, hV, rfl, hfz, hnd⟩ := hW
  have hA : DataW.TrodAll enc Try.prog W 0 (fun _ => true) true Try.f4.params.toList args.toList ds p := hA0
  have hA1 := hA
  rw [Try.params4] at hA hval
  obtain ⟨v0, vs0, d0, ds0, p0, q0, hargs, rfl, rfl, h0, r0⟩ := trodAll_cons hA
  obtain ⟨v1, vs1, d1, ds1, p1, q1, rfl, rfl, rfl, h1, r1⟩ := trodAll_cons r0
  obtain ⟨v2, vs2, d2, ds2, p2, q2, rfl, rfl, rfl, h2, r2⟩ := trodAll_cons r1
  obtain ⟨rfl, rfl, rfl⟩ := trodAll_nil r2
  obtain rfl : args = #[v0, v1, v2] := by cases args; simp_all
  obtain ⟨rfl, rfl⟩ := trodVars_none hV
  obtain ⟨s0, rfl, R0⟩ := arg_struct fx28 op28 (hval 0 28 v0 rfl rfl) h0
  obtain ⟨s1, rfl, R1⟩ := arg_struct fx30 op30 (hval 1 30 v1 rfl rfl) h1
  obtain ⟨s2, rfl, R2⟩ := arg_int (k := .u32) ut50 (hval 2 50 v2 rfl rfl) h2
  simp only [List.append_nil] at hW' hA1
  obtain ⟨l, az, kA, kC, cA, cC, bA, bC, rfl, hraw, hl4, _⟩ := open_line (R1 := Is126) (R2 := Is64) (R3 := Is55) (R4 := Is61) R0.Track.Stretches (fun x hx => hx.Side) R0.Clocks (fun x hx => hx.Syncs) R0.Beams
  have hrun := (beamTold_c l kA kC az cA cC bA bC s1 s2 hraw R2).run W (by intro A hA; simp only [List.mem_cons, List.not_mem_nil, or_false] at hA; rcases hA with rfl | rfl | rfl | rfl; exact hl4.1; exact hl4.2.1; exact hl4.2.2.1; exact hl4.2.2.2)
  refine (hrun).mono fun e W' ⟨he, hk⟩ => ?_
  subst he
  exact ⟨_, rfl, law_post laid_beamTold hW' hA1 rfl rfl (by kernel_rfl) hk.below (by kernel_rfl) ut4⟩
/-- the statement -/
theorem beamTold_said : Rows.BeamToldSaid :=
  OpenClaim.holds_of_wide 4 Try.f4 rfl rfl rfl rfl rfl rfl rfl ⟨rfl, rfl, rfl, rfl, rfl⟩ rfl rfl rfl rfl rfl (by kernel_rfl) Try.func4 (by kernel_rfl)
    (of_decide_eq_true (by kernel_rfl)) (by unfold Func.isWrapper; first | (rw [if_pos (by decide +kernel)]; kernel_rfl) | (rw [if_neg (by decide +kernel)]; exact ⟨rfl, rfl⟩))
    (fun os started H enc _ => beamTold_lifted os started H enc)
#print axioms beamTold_said
end
end Go.Proofs.Ytaehngpnlkokkaa
