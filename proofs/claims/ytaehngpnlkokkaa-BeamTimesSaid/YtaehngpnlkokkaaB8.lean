/-
  Walks: kreisel/kreiselref05.Great, kreisel/kreiselref05.Drifts, kreisel/kreiselref05.clock, kreisel/kreiselref05.ahead, kreisel/kreiselref05.way, kreisel/kreiselref05.least, kreisel/kreiselref05.Line
-/
import Derived.Test.YtaehngpnlkokkaaTab
import Derived.Test.YtaehngpnlkokkaaShort
import Derived.Test.YtaehngpnlkokkaaLineR
import Derived.Test.YtaehngpnlkokkaaB1
import Derived.Test.YtaehngpnlkokkaaB3
import Derived.Test.YtaehngpnlkokkaaB7
namespace Go.Proofs.Ytaehngpnlkokkaa
open Go.RowKit
set_option linter.unusedVariables false

set_option maxRecDepth 100000 in
set_option maxHeartbeats 400000 in
theorem lgreat_c (l : LineM) (kA : Option Addr) (kC : Nat) (az : List RA) (cA : Option Addr) (cC : Nat) (bA : Option Addr) (bC : Nat) (hraw : LineRaw l az) :
    FnV Try.prog 11 [(Value.agg (LineV.cells (LineV.mk (TrackV.mk (Slc.mk kA l.Track.length kC)) l.Fast (Slc.mk cA l.Clocks.length cC) (Slc.mk bA l.Beams.length bC) l.Finish l.Fakes l.Misses)).toArray)] [(rd kA l.Track.length 9 (l.Track.map StretchV.cells)), (rd cA l.Clocks.length 2 (List.zipWith ClockM.cells l.Clocks az)), (bun (nest ClockM.rds l.Clocks az)), (rd bA l.Beams.length 4 (l.Beams.map BeamV.cells))] (Value.bool (decide (GreatL l))) := by
 have htk := hraw.trk
 have hck := hraw.cks
 have has := hraw.as_
 have hbm := hraw.bms
 refine fnV_of go11 Try.func11 rfl rfl fun w0 Q hQ hN => ?_
 change WJ _ _ _ _ [(0, (Value.agg (LineV.cells (LineV.mk (TrackV.mk (Slc.mk kA l.Track.length kC)) l.Fast (Slc.mk cA l.Clocks.length cC) (Slc.mk bA l.Beams.length bC) l.Finish l.Fakes l.Misses)).toArray))] [(rd kA l.Track.length 9 (l.Track.map StretchV.cells)).ro, (rd cA l.Clocks.length 2 (List.zipWith ClockM.cells l.Clocks az)).ro, (bun (nest ClockM.rds l.Clocks az)).ro, (rd bA l.Beams.length 4 (l.Beams.map BeamV.cells)).ro]
 refine WS fun _ hK1 => ?_
 refine BXA rfl fun b2 => ?_
 refine rS (AG rfl) ?_
 refine RK hK1 ?_
 refine w_seq fun _ hK3 => ?_
 refine WS fun _ hK4 => ?_
 refine rS (FA 0 rfl fo28_0 rfl) ?_
 refine rS (LP (TrackV.cells (TrackV.mk (Slc.mk kA l.Track.length kC))) 0 rfl tk24 rfl rfl rfl) ?_
 refine rS (CL (great_c l.Track kA kC) (ha_at 1 rfl rfl <| ha_nil) rfl) ?_
 refine rS (MV rfl) ?_
 refine r_bool (t := 7) rfl (fun h7 => ?_) (fun h7 => ?_)
 · replace h7 := DT h7
   refine rS (OX rfl) ?_
   refine rS (OX rfl) ?_
   refine rS (OX rfl) ?_
   refine rS (OX rfl) ?_
   refine rS (PK rfl) ?_
   refine rS (MV rfl) ?_
   refine rS (OX rfl) ?_
   refine rS (OX rfl) ?_
   refine rS (OX rfl) ?_
   refine rS (OX rfl) ?_
   refine rS (PK rfl) ?_
   refine RK hK4 ?_
   refine w_if_true rfl ?_
   refine WS fun _ hK5 => ?_
   refine rS (AG rfl) ?_
   refine RK hK5 ?_
   refine w_ret ?_
   refine Q1 hQ rfl rfl rfl ?_
   first | exact congrArg Value.bool (decide_eq_true (.inl (by omega))).symm | exact congrArg Value.bool (decide_eq_true (great_at hx h33)).symm | exact congrArg Value.bool (decide_eq_false (great_no (by omega) (by omega) hl0_1)).symm
 replace h7 := DF h7
 refine rS (FA 2 rfl fo28_2 rfl) ?_
 refine rS (L1 (Value.slice cA l.Clocks.length cC) 0 rfl tk25 rfl rfl) ?_
 refine rS (LN rfl ut25) ?_
 refine rS (BI rfl b_gtr) ?_
 refine rS (PK rfl) ?_
 refine rS (MV rfl) ?_
 refine r_bool (t := 13) rfl (fun h13 => ?_) (fun h13 => ?_)
 · replace h13 := DT h13
   refine rS (OX rfl) ?_
   refine rS (OX rfl) ?_
   refine rS (OX rfl) ?_
   refine rS (OX rfl) ?_
   refine rS (PK rfl) ?_
   refine RK hK4 ?_
   refine w_if_true rfl ?_
   refine WS fun _ hK6 => ?_
   refine rS (AG rfl) ?_
   refine RK hK6 ?_
   refine w_ret ?_
   refine Q1 hQ rfl rfl rfl ?_
   first | exact congrArg Value.bool (decide_eq_true (.inl (by omega))).symm | exact congrArg Value.bool (decide_eq_true (great_at hx h33)).symm | exact congrArg Value.bool (decide_eq_false (great_no (by omega) (by omega) hl0_1)).symm
 replace h13 := DF h13
 refine rS (FA 3 rfl fo28_3 rfl) ?_
 refine rS (L1 (Value.slice bA l.Beams.length bC) 0 rfl tk26 rfl rfl) ?_
 refine rS (LN rfl ut26) ?_
 refine rS (BI rfl b_gtr) ?_
 refine rS (PK rfl) ?_
 refine RK hK4 ?_
 refine w_if rfl (fun h18 => ?_) (fun h18 => ?_)
 · replace h18 := DT h18
   refine WS fun _ hK7 => ?_
   refine rS (AG rfl) ?_
   refine RK hK7 ?_
   refine w_ret ?_
   refine Q1 hQ rfl rfl rfl ?_
   first | exact congrArg Value.bool (decide_eq_true (.inl (by omega))).symm | exact congrArg Value.bool (decide_eq_true (great_at hx h33)).symm | exact congrArg Value.bool (decide_eq_false (great_no (by omega) (by omega) hl0_1)).symm
 replace h18 := DF h18
 refine WK hK3 ?_
 refine w_seq fun _ hK8 => ?_
 refine WS fun _ hK9 => ?_
 refine rS (AG rfl) ?_
 refine RK hK9 ?_
 refine w_block ?_
 have hinit : (0 ≤ l.Clocks.length) ∧ (SyncsTo l 0) := by exact ⟨Nat.zero_le _, fun j c hj => absurd hj (Nat.not_lt_zero _)⟩
 refine w_loop (ι := { z : Nat // (z ≤ l.Clocks.length) ∧ (SyncsTo l z) }) (fun z => [(1, (Value.pointer (some ⟨b2, 0, none⟩))), (3, (Value.int .i64 ((z.1 : Nat) : Int)))]) (fun z => [(blk b2 28 (LineV.cells (LineV.mk (TrackV.mk (Slc.mk kA l.Track.length kC)) l.Fast (Slc.mk cA l.Clocks.length cC) (Slc.mk bA l.Beams.length bC) l.Finish l.Fakes l.Misses))), (rd kA l.Track.length 9 (l.Track.map StretchV.cells)).ro, (rd cA l.Clocks.length 2 (List.zipWith ClockM.cells l.Clocks az)).ro, (bun (nest ClockM.rds l.Clocks az)).ro, (rd bA l.Beams.length 4 (l.Beams.map BeamV.cells)).ro]) (fun z => l.Clocks.length - z.1) ⟨0, hinit⟩ (Sub.cons rfl <| Sub.cons rfl <| Sub.nil _) (fun w hs => St.sel [0, 1, 2, 3, 4] rfl rfl hs) ?_
 clear hinit
 rintro ⟨i, ⟨hl0_0, hl0_1⟩⟩ J10 hJ10
 change WJ _ _ _ _ [(1, (Value.pointer (some ⟨b2, 0, none⟩))), (3, (Value.int .i64 ((i : Nat) : Int)))] [(blk b2 28 (LineV.cells (LineV.mk (TrackV.mk (Slc.mk kA l.Track.length kC)) l.Fast (Slc.mk cA l.Clocks.length cC) (Slc.mk bA l.Beams.length bC) l.Finish l.Fakes l.Misses))), (rd kA l.Track.length 9 (l.Track.map StretchV.cells)).ro, (rd cA l.Clocks.length 2 (List.zipWith ClockM.cells l.Clocks az)).ro, (bun (nest ClockM.rds l.Clocks az)).ro, (rd bA l.Beams.length 4 (l.Beams.map BeamV.cells)).ro]
 refine w_seq fun _ hK11 => ?_
 refine WS fun _ hK12 => ?_
 refine rS (MV rfl) ?_
 refine rS (FA 2 rfl fo28_2 rfl) ?_
 refine rS (L1 (Value.slice cA l.Clocks.length cC) 0 rfl tk25 rfl rfl) ?_
 refine rS (LN rfl ut25) ?_
 refine rS (BI rfl b_lss) ?_
 refine RK hK12 ?_
 refine w_if rfl (fun h13 => ?_) (fun h13 => ?_)
 rotate_left 1
 · replace h13 := DF h13
   refine w_exit ?_
   refine k_exit_then ?_
   refine k_exit_then ?_
   refine k_exit_same ?_
   refine KK hK8 ?_
   refine WS fun _ hK18 => ?_
   refine rS (AG rfl) ?_
   refine RK hK18 ?_
   refine w_ret ?_
   refine Q1 hQ rfl rfl rfl ?_
   first | exact congrArg Value.bool (decide_eq_true (.inl (by omega))).symm | exact congrArg Value.bool (decide_eq_true (great_at hx h33)).symm | exact congrArg Value.bool (decide_eq_false (great_no (by omega) (by omega) hl0_1)).symm
 replace h13 := DT h13
 refine WK hK11 ?_
 refine w_seq fun _ hK14 => ?_
 refine w_block ?_
 refine WS fun _ hK15 => ?_
 refine rS (FA 2 rfl fo28_2 rfl) ?_
 refine rS (L1 (Value.slice cA l.Clocks.length cC) 0 rfl tk25 rfl rfl) ?_
 refine rS (MV rfl) ?_
 obtain ⟨x, hx⟩ : ∃ y_, l.Clocks[i]? = some y_ := ⟨l.Clocks[i]'(by omega), List.getElem?_eq_getElem _⟩
 obtain ⟨xa, hxa⟩ : ∃ y_, az[i]? = some y_ := ⟨az[i]'(by omega), List.getElem?_eq_getElem _⟩
 have hxm : (List.zipWith ClockM.cells l.Clocks az)[i]? = some (ClockM.cells x xa) := zip_get hx hxa
 refine rS (IA i rfl (has_at 2 rfl) te25 (by decide) (by omega) (by omega)) ?_
 refine rS (FAR ((i * 2) + 1) rfl (has_at 2 rfl) (Nat.mul_pos (by omega) (by decide)) fo64_1 rfl) ?_
 refine rS (LE1 i 1 (Value.slice xa.1 x.Syncs.length xa.2) rfl tk62 (has_at 2 rfl) hxm rfl (by decide) rfl) ?_
 refine rS (LN rfl ut62) ?_
 refine rS (BI rfl b_gtr) ?_
 refine RK hK15 ?_
 refine w_if rfl (fun h33 => ?_) (fun h33 => ?_)
 · replace h33 := DT h33
   refine WS fun _ hK16 => ?_
   refine rS (AG rfl) ?_
   refine RK hK16 ?_
   refine w_ret ?_
   refine Q1 hQ rfl rfl rfl ?_
   first | exact congrArg Value.bool (decide_eq_true (.inl (by omega))).symm | exact congrArg Value.bool (decide_eq_true (great_at hx h33)).symm | exact congrArg Value.bool (decide_eq_false (great_no (by omega) (by omega) hl0_1)).symm
 replace h33 := DF h33
 refine w_skip ?_
 refine k_block ?_
 refine KK hK14 ?_
 refine w_region ?_
 refine rS (MV rfl) ?_
 refine rS (BI rfl (b_add ⟨by omega, by omega⟩)) ?_
 refine rS (AG rfl) ?_
 refine r_nil ?_
 have hb17 : (Value.int .i64 (((i + 1) : Nat) : Int)) = (Value.int .i64 (((i : Nat) : Int) + 1)) := by exact congrArg (Value.int .i64) (by omega)
 refine k_then (hJ10 ⟨(i + 1), ⟨by omega, upto_succ hl0_1 hx (by omega)⟩⟩ _ _ _ rfl (by first | omega | (simp; omega)) (Sub.cons rfl <| sub_val rfl hb17 <| Sub.nil _) (fun w hs => St.sel [0, 1, 2, 3, 4] rfl rfl hs))

set_option maxRecDepth 100000 in
set_option maxHeartbeats 400000 in
theorem drifts_c (d : Int) (m : Int) (hd : 0 ≤ d ∧ d ≤ 1000) (hm : 0 ≤ m ∧ m ≤ 90000000) :
    FnV Try.prog 25 [(Value.int .i64 d), (Value.int .i64 m)] [] (Value.int .i64 (upD (d * m) 1000000)) := by
 have hdm := mulb (a := d) (b := m) (A := 1000) (B := 90000000) hd.1 hd.2 hm.1 hm.2
 refine fnV_of go25 Try.func25 rfl rfl fun w0 Q hQ hN => ?_
 change WJ _ _ _ _ [(0, (Value.int .i64 d)), (1, (Value.int .i64 m))] []
 refine WS fun _ hK1 => ?_
 refine rS (AG rfl) ?_
 refine RK hK1 ?_
 refine WS fun _ hK2 => ?_
 refine rS (MV rfl) ?_
 refine rS (MV rfl) ?_
 refine rS (BI rfl (b_mul ⟨by omega, by omega⟩)) ?_
 refine rS (AG rfl) ?_
 refine RK hK2 ?_
 refine w_seq fun _ hK3 => ?_
 refine WS fun _ hK4 => ?_
 refine rS (MV rfl) ?_
 refine rS (BI rfl (b_rem (by omega) (by omega))) ?_
 refine rS (BI rfl b_gtr) ?_
 refine RK hK4 ?_
 refine w_if rfl (fun h5 => ?_) (fun h5 => ?_)
 rotate_left 1
 · replace h5 := DF h5
   refine WK hK3 ?_
   refine WS fun _ hK7 => ?_
   refine rS (MV rfl) ?_
   refine rS (BI rfl (b_quo (by omega) (by omega) (by omega))) ?_
   refine rS (AG rfl) ?_
   refine RK hK7 ?_
   refine w_ret ?_
   refine Q1 hQ rfl rfl rfl ?_
   exact congrArg (Value.int .i64) (by unfold upD; omega)
 replace h5 := DT h5
 refine WS fun _ hK6 => ?_
 refine rS (MV rfl) ?_
 refine rS (BI rfl (b_quo (by omega) (by omega) (by omega))) ?_
 refine rS (BI rfl (b_add ⟨by omega, by omega⟩)) ?_
 refine rS (AG rfl) ?_
 refine RK hK6 ?_
 refine w_ret ?_
 refine Q1 hQ rfl rfl rfl ?_
 exact congrArg (Value.int .i64) (by unfold upD; omega)

set_option maxRecDepth 100000 in
set_option maxHeartbeats 400000 in
theorem rclock_c (c : ClockM) (sA : Option Addr) (sC : Nat) (hlen : c.Syncs.length ≤ 1000000) :
    FnV Try.prog 92 [(Value.agg (ClockV.cells (ClockV.mk c.Drift (Slc.mk sA c.Syncs.length sC))).toArray)] [(rd sA c.Syncs.length 3 (c.Syncs.map SyncV.cells))] (Value.bool (decide (ClockOk c))) := by
 refine fnV_of go92 Try.func92 rfl rfl fun w0 Q hQ hN => ?_
 change WJ _ _ _ _ [(0, (Value.agg (ClockV.cells (ClockV.mk c.Drift (Slc.mk sA c.Syncs.length sC))).toArray))] [(rd sA c.Syncs.length 3 (c.Syncs.map SyncV.cells)).ro]
 refine WS fun _ hK1 => ?_
 refine BXA rfl fun b2 => ?_
 refine rS (AG rfl) ?_
 refine RK hK1 ?_
 refine w_seq fun _ hK3 => ?_
 refine WS fun _ hK4 => ?_
 refine rS (FA 0 rfl fo64_0 rfl) ?_
 refine rS (L1 (Value.int .i64 c.Drift) 0 rfl tk3 rfl rfl) ?_
 refine rS (CL (within_5 c.Drift 0 1000) (ha_nil) rfl) ?_
 refine rS (NT rfl) ?_
 refine rS (MV rfl) ?_
 refine r_bool (t := 14) rfl (fun h14 => ?_) (fun h14 => ?_)
 · replace h14 := XT h14
   refine rS (OX rfl) ?_
   refine rS (OX rfl) ?_
   refine rS (OX rfl) ?_
   refine rS (OX rfl) ?_
   refine rS (OX rfl) ?_
   refine rS (PK rfl) ?_
   refine RK hK4 ?_
   refine w_if_true rfl ?_
   refine WS fun _ hK5 => ?_
   refine rS (AG rfl) ?_
   refine RK hK5 ?_
   refine w_ret ?_
   refine Q1 hQ rfl rfl rfl ?_
   first | exact congrArg Value.bool (decide_eq_false fun h => by have q1 := h.drift; have q2 := h.len; omega).symm | exact congrArg Value.bool (decide_eq_false fun h => by have q := h.sync i x hx; unfold SyncOk at q; first | (rw [prevAt_zero (by omega)] at q; omega) | (rw [prevAt_pos (by omega) hy] at q; omega) | omega).symm | exact congrArg Value.bool (decide_eq_false fun h => by have q := h.pair m k y x hy (by omega) hx; unfold PairOk at q; omega).symm | exact congrArg Value.bool (decide_eq_true (clock_ok (by omega) (by omega) (upto_all (by omega) hl4_1) (by omega) hl10_1)).symm
 replace h14 := XF h14
 refine rS (FA 1 rfl fo64_1 rfl) ?_
 refine rS (L1 (Value.slice sA c.Syncs.length sC) 0 rfl tk62 rfl rfl) ?_
 refine rS (LN rfl ut62) ?_
 refine rS (CL (within_5 ((c.Syncs.length : Nat) : Int) 1 5) (ha_nil) rfl) ?_
 refine rS (NT rfl) ?_
 refine rS (PK rfl) ?_
 refine RK hK4 ?_
 refine w_if rfl (fun h20 => ?_) (fun h20 => ?_)
 · replace h20 := XT h20
   refine WS fun _ hK6 => ?_
   refine rS (AG rfl) ?_
   refine RK hK6 ?_
   refine w_ret ?_
   refine Q1 hQ rfl rfl rfl ?_
   first | exact congrArg Value.bool (decide_eq_false fun h => by have q1 := h.drift; have q2 := h.len; omega).symm | exact congrArg Value.bool (decide_eq_false fun h => by have q := h.sync i x hx; unfold SyncOk at q; first | (rw [prevAt_zero (by omega)] at q; omega) | (rw [prevAt_pos (by omega) hy] at q; omega) | omega).symm | exact congrArg Value.bool (decide_eq_false fun h => by have q := h.pair m k y x hy (by omega) hx; unfold PairOk at q; omega).symm | exact congrArg Value.bool (decide_eq_true (clock_ok (by omega) (by omega) (upto_all (by omega) hl4_1) (by omega) hl10_1)).symm
 replace h20 := XF h20
 refine WK hK3 ?_
 refine w_seq fun _ hK7 => ?_
 refine WS fun _ hK8 => ?_
 refine rS (AG rfl) ?_
 refine RK hK8 ?_
 refine w_block ?_
 have hinit : (0 ≤ c.Syncs.length) ∧ (∀ (j : Nat) y, j < 0 → c.Syncs[j]? = some y → SyncOk c j y) := by exact ⟨Nat.zero_le _, fun j y hj => absurd hj (Nat.not_lt_zero _)⟩
 refine w_loop (ι := { z : Nat // (z ≤ c.Syncs.length) ∧ (∀ (j : Nat) y, j < z → c.Syncs[j]? = some y → SyncOk c j y) }) (fun z => [(1, (Value.pointer (some ⟨b2, 0, none⟩))), (3, (Value.int .i64 ((z.1 : Nat) : Int)))]) (fun z => [(blk b2 64 (ClockV.cells (ClockV.mk c.Drift (Slc.mk sA c.Syncs.length sC)))), (rd sA c.Syncs.length 3 (c.Syncs.map SyncV.cells)).ro]) (fun z => c.Syncs.length - z.1) ⟨0, hinit⟩ (Sub.cons rfl <| Sub.cons rfl <| Sub.nil _) (fun w hs => St.sel [0, 1] rfl rfl hs) ?_
 clear hinit
 rintro ⟨i, ⟨hl4_0, hl4_1⟩⟩ J9 hJ9
 change WJ _ _ _ _ [(1, (Value.pointer (some ⟨b2, 0, none⟩))), (3, (Value.int .i64 ((i : Nat) : Int)))] [(blk b2 64 (ClockV.cells (ClockV.mk c.Drift (Slc.mk sA c.Syncs.length sC)))), (rd sA c.Syncs.length 3 (c.Syncs.map SyncV.cells)).ro]
 have hpv := prev_s hl4_0 hl4_1
 refine w_seq fun _ hK10 => ?_
 refine WS fun _ hK11 => ?_
 refine rS (MV rfl) ?_
 refine rS (FA 1 rfl fo64_1 rfl) ?_
 refine rS (L1 (Value.slice sA c.Syncs.length sC) 0 rfl tk62 rfl rfl) ?_
 refine rS (LN rfl ut62) ?_
 refine rS (BI rfl b_lss) ?_
 refine RK hK11 ?_
 refine w_if rfl (fun h25 => ?_) (fun h25 => ?_)
 · replace h25 := DT h25
   refine WK hK10 ?_
   refine w_seq fun _ hK12 => ?_
   refine w_block ?_
   refine WS fun _ hK13 => ?_
   refine rS (FA 1 rfl fo64_1 rfl) ?_
   refine rS (L1 (Value.slice sA c.Syncs.length sC) 0 rfl tk62 rfl rfl) ?_
   refine rS (MV rfl) ?_
   obtain ⟨x, hx⟩ : ∃ y_, c.Syncs[i]? = some y_ := ⟨c.Syncs[i]'(by omega), List.getElem?_eq_getElem _⟩
   have hxm : (c.Syncs.map SyncV.cells)[i]? = some (SyncV.cells x) := by rw [List.getElem?_map, hx]; rfl
   refine rS (IA i rfl (has_at 1 rfl) te62 (by decide) (by omega) (by omega)) ?_
   refine rS (LEN i 0 (SyncV.cells x) rfl tk61 (has_at 1 rfl) hxm rfl (by decide) rfl rfl) ?_
   refine AL rfl tz61 fun b14 => ?_
   refine SW0 rfl ts61 rfl ?_
   refine RK hK13 ?_
   refine w_seq fun _ hK15 => ?_
   refine w_draw mixed 41 (by kernel_rfl) ?_
   refine dS (FA 0 rfl fo61_0 rfl) ?_
   refine dS (L1 (Value.int .i64 x.At) 0 rfl tk3 rfl rfl) ?_
   refine dS (CL (within_5 x.At 0 86400000) (ha_nil) rfl) ?_
   refine dS (NT rfl) ?_
   refine dS (MV rfl) ?_
   refine d_bool (t := 37) rfl (fun h37 => ?_) (fun h37 => ?_)
   · replace h37 := XT h37
     refine dS (OX rfl) ?_
     refine dS (OX rfl) ?_
     refine dS (OX rfl) ?_
     refine dS (OX rfl) ?_
     refine dS (OX rfl) ?_
     refine dS (OX rfl) ?_
     refine dS (OX rfl) ?_
     refine dS (OX rfl) ?_
     refine dS (OX rfl) ?_
     refine dS (OX rfl) ?_
     refine dS (OX rfl) ?_
     refine dS (OX rfl) ?_
     refine dS (OX rfl) ?_
     refine dS (OX rfl) ?_
     refine dS (PK rfl) ?_
     refine dS (MV rfl) ?_
     refine dS (OX rfl) ?_
     refine dS (OX rfl) ?_
     refine dS (OX rfl) ?_
     refine dS (OX rfl) ?_
     refine dS (PK rfl) ?_
     refine dS (MV rfl) ?_
     refine dS (OX rfl) ?_
     refine dS (OX rfl) ?_
     refine dS (OX rfl) ?_
     refine dS (OX rfl) ?_
     refine dS (OX rfl) ?_
     refine dS (OX rfl) ?_
     refine dS (OX rfl) ?_
     refine dS (PK rfl) ?_
     refine dS (MV rfl) ?_
     refine dS (OX rfl) ?_
     refine dS (OX rfl) ?_
     refine dS (OX rfl) ?_
     refine dS (OX rfl) ?_
     refine dS (PK rfl) ?_
     refine d_end ?_
     refine RK hK15 ?_
     refine w_if_true rfl ?_
     refine WS fun _ hK16 => ?_
     refine rS (AG rfl) ?_
     refine RK hK16 ?_
     refine w_ret ?_
     refine Q1 hQ rfl rfl rfl ?_
     first | exact congrArg Value.bool (decide_eq_false fun h => by have q1 := h.drift; have q2 := h.len; omega).symm | exact congrArg Value.bool (decide_eq_false fun h => by have q := h.sync i x hx; unfold SyncOk at q; first | (rw [prevAt_zero (by omega)] at q; omega) | (rw [prevAt_pos (by omega) hy] at q; omega) | omega).symm | exact congrArg Value.bool (decide_eq_false fun h => by have q := h.pair m k y x hy (by omega) hx; unfold PairOk at q; omega).symm | exact congrArg Value.bool (decide_eq_true (clock_ok (by omega) (by omega) (upto_all (by omega) hl4_1) (by omega) hl10_1)).symm
   replace h37 := XF h37
   refine dS (MV rfl) ?_
   refine dS (BI rfl b_gtr) ?_
   refine dS (MV rfl) ?_
   refine d_bool (t := 40) rfl (fun h40 => ?_) (fun h40 => ?_)
   rotate_left 1
   · replace h40 := DF h40
     refine dS (OX rfl) ?_
     refine dS (OX rfl) ?_
     refine dS (OX rfl) ?_
     refine dS (OX rfl) ?_
     refine dS (OX rfl) ?_
     refine dS (OX rfl) ?_
     refine dS (OX rfl) ?_
     refine dS (OX rfl) ?_
     refine dS (OX rfl) ?_
     refine dS (OX rfl) ?_
     refine dS (PK rfl) ?_
     refine dS (PK rfl) ?_
     refine dS (MV rfl) ?_
     refine dS (FA 1 rfl fo61_1 rfl) ?_
     refine dS (FA 1 rfl fo34_0 rfl) ?_
     refine dS (L1 (Value.int .i64 x.Ahead.Lo) 0 rfl tk3 rfl rfl) ?_
     refine dS (BI rfl b_lss) ?_
     refine dS (PK rfl) ?_
     refine dS (MV rfl) ?_
     refine d_bool (t := 59) rfl (fun h59 => ?_) (fun h59 => ?_)
     · replace h59 := DT h59
       refine dS (OX rfl) ?_
       refine dS (OX rfl) ?_
       refine dS (OX rfl) ?_
       refine dS (OX rfl) ?_
       refine dS (OX rfl) ?_
       refine dS (OX rfl) ?_
       refine dS (OX rfl) ?_
       refine dS (PK rfl) ?_
       refine dS (MV rfl) ?_
       refine dS (OX rfl) ?_
       refine dS (OX rfl) ?_
       refine dS (OX rfl) ?_
       refine dS (OX rfl) ?_
       refine dS (PK rfl) ?_
       refine d_end ?_
       refine RK hK15 ?_
       refine w_if_true rfl ?_
       refine WS fun _ hK22 => ?_
       refine rS (AG rfl) ?_
       refine RK hK22 ?_
       refine w_ret ?_
       refine Q1 hQ rfl rfl rfl ?_
       first | exact congrArg Value.bool (decide_eq_false fun h => by have q1 := h.drift; have q2 := h.len; omega).symm | exact congrArg Value.bool (decide_eq_false fun h => by have q := h.sync i x hx; unfold SyncOk at q; first | (rw [prevAt_zero (by omega)] at q; omega) | (rw [prevAt_pos (by omega) hy] at q; omega) | omega).symm | exact congrArg Value.bool (decide_eq_false fun h => by have q := h.pair m k y x hy (by omega) hx; unfold PairOk at q; omega).symm | exact congrArg Value.bool (decide_eq_true (clock_ok (by omega) (by omega) (upto_all (by omega) hl4_1) (by omega) hl10_1)).symm
     replace h59 := DF h59
     refine dS (FA 1 rfl fo61_1 rfl) ?_
     refine dS (FA 1 rfl fo34_0 rfl) ?_
     refine dS (L1 (Value.int .i64 x.Ahead.Lo) 0 rfl tk3 rfl rfl) ?_
     refine dS (FA 1 rfl fo61_1 rfl) ?_
     refine dS (FA 2 rfl fo34_1 rfl) ?_
     refine dS (L1 (Value.int .i64 x.Ahead.Hi) 0 rfl tk3 rfl rfl) ?_
     refine dS (BI rfl b_gtr) ?_
     refine dS (PK rfl) ?_
     refine dS (MV rfl) ?_
     refine d_bool (t := 68) rfl (fun h68 => ?_) (fun h68 => ?_)
     · replace h68 := DT h68
       refine dS (OX rfl) ?_
       refine dS (OX rfl) ?_
       refine dS (OX rfl) ?_
       refine dS (OX rfl) ?_
       refine dS (PK rfl) ?_
       refine d_end ?_
       refine RK hK15 ?_
       refine w_if_true rfl ?_
       refine WS fun _ hK23 => ?_
       refine rS (AG rfl) ?_
       refine RK hK23 ?_
       refine w_ret ?_
       refine Q1 hQ rfl rfl rfl ?_
       first | exact congrArg Value.bool (decide_eq_false fun h => by have q1 := h.drift; have q2 := h.len; omega).symm | exact congrArg Value.bool (decide_eq_false fun h => by have q := h.sync i x hx; unfold SyncOk at q; first | (rw [prevAt_zero (by omega)] at q; omega) | (rw [prevAt_pos (by omega) hy] at q; omega) | omega).symm | exact congrArg Value.bool (decide_eq_false fun h => by have q := h.pair m k y x hy (by omega) hx; unfold PairOk at q; omega).symm | exact congrArg Value.bool (decide_eq_true (clock_ok (by omega) (by omega) (upto_all (by omega) hl4_1) (by omega) hl10_1)).symm
     replace h68 := DF h68
     refine dS (FA 1 rfl fo61_1 rfl) ?_
     refine dS (FA 2 rfl fo34_1 rfl) ?_
     refine dS (L1 (Value.int .i64 x.Ahead.Hi) 0 rfl tk3 rfl rfl) ?_
     refine dS (BI rfl b_gtr) ?_
     refine dS (PK rfl) ?_
     refine d_end ?_
     refine RK hK15 ?_
     refine w_if rfl (fun h73 => ?_) (fun h73 => ?_)
     rotate_left 1
     · replace h73 := DF h73
       refine w_skip ?_
       refine k_block ?_
       refine KK hK12 ?_
       refine w_region ?_
       refine rS (MV rfl) ?_
       refine rS (BI rfl (b_add ⟨by omega, by omega⟩)) ?_
       refine rS (AG rfl) ?_
       refine r_nil ?_
       have hb25 : (Value.int .i64 (((i + 1) : Nat) : Int)) = (Value.int .i64 (((i : Nat) : Int) + 1)) := by exact congrArg (Value.int .i64) (by omega)
       refine k_then (hJ9 ⟨(i + 1), ⟨by omega, upto_succ hl4_1 hx (by unfold SyncOk; first | (rw [prevAt_zero (by omega)]; omega) | (rw [prevAt_pos (by omega) hy]; omega))⟩⟩ _ _ _ rfl (by first | omega | (simp; omega)) (Sub.cons rfl <| sub_val rfl hb25 <| Sub.nil _) (fun w hs => St.sel [1, 2] rfl rfl hs))
     replace h73 := DT h73
     refine WS fun _ hK24 => ?_
     refine rS (AG rfl) ?_
     refine RK hK24 ?_
     refine w_ret ?_
     refine Q1 hQ rfl rfl rfl ?_
     first | exact congrArg Value.bool (decide_eq_false fun h => by have q1 := h.drift; have q2 := h.len; omega).symm | exact congrArg Value.bool (decide_eq_false fun h => by have q := h.sync i x hx; unfold SyncOk at q; first | (rw [prevAt_zero (by omega)] at q; omega) | (rw [prevAt_pos (by omega) hy] at q; omega) | omega).symm | exact congrArg Value.bool (decide_eq_false fun h => by have q := h.pair m k y x hy (by omega) hx; unfold PairOk at q; omega).symm | exact congrArg Value.bool (decide_eq_true (clock_ok (by omega) (by omega) (upto_all (by omega) hl4_1) (by omega) hl10_1)).symm
   replace h40 := DT h40
   refine dS (FA 0 rfl fo61_0 rfl) ?_
   refine dS (L1 (Value.int .i64 x.At) 0 rfl tk3 rfl rfl) ?_
   refine dS (FA 1 rfl fo64_1 rfl) ?_
   refine dS (L1 (Value.slice sA c.Syncs.length sC) 1 rfl tk62 rfl rfl) ?_
   refine dS (MV rfl) ?_
   refine dS (BI rfl (b_sub ⟨by omega, by omega⟩)) ?_
   obtain ⟨y, hy⟩ : ∃ y_, c.Syncs[(i - 1)]? = some y_ := ⟨c.Syncs[(i - 1)]'(by omega), List.getElem?_eq_getElem _⟩
   have hym : (c.Syncs.map SyncV.cells)[(i - 1)]? = some (SyncV.cells y) := by rw [List.getElem?_map, hy]; rfl
   refine dS (IA (i - 1) rfl (has_at 2 rfl) te62 (by decide) (by omega) (by omega)) ?_
   refine dS (FAR ((i - 1) * 3) rfl (has_at 2 rfl) (Nat.mul_pos (by omega) (by decide)) fo61_0 rfl) ?_
   refine dS (LE1 (i - 1) 0 (Value.int .i64 y.At) rfl tk3 (has_at 2 rfl) hym rfl (by decide) rfl) ?_
   refine dS (BI rfl b_leq) ?_
   refine dS (PK rfl) ?_
   refine dS (PK rfl) ?_
   refine dS (MV rfl) ?_
   refine d_bool (t := 53) rfl (fun h53 => ?_) (fun h53 => ?_)
   · replace h53 := DT h53
     refine dS (OX rfl) ?_
     refine dS (OX rfl) ?_
     refine dS (OX rfl) ?_
     refine dS (OX rfl) ?_
     refine dS (PK rfl) ?_
     refine dS (MV rfl) ?_
     refine dS (OX rfl) ?_
     refine dS (OX rfl) ?_
     refine dS (OX rfl) ?_
     refine dS (OX rfl) ?_
     refine dS (OX rfl) ?_
     refine dS (OX rfl) ?_
     refine dS (OX rfl) ?_
     refine dS (PK rfl) ?_
     refine dS (MV rfl) ?_
     refine dS (OX rfl) ?_
     refine dS (OX rfl) ?_
     refine dS (OX rfl) ?_
     refine dS (OX rfl) ?_
     refine dS (PK rfl) ?_
     refine d_end ?_
     refine RK hK15 ?_
     refine w_if_true rfl ?_
     refine WS fun _ hK17 => ?_
     refine rS (AG rfl) ?_
     refine RK hK17 ?_
     refine w_ret ?_
     refine Q1 hQ rfl rfl rfl ?_
     first | exact congrArg Value.bool (decide_eq_false fun h => by have q1 := h.drift; have q2 := h.len; omega).symm | exact congrArg Value.bool (decide_eq_false fun h => by have q := h.sync i x hx; unfold SyncOk at q; first | (rw [prevAt_zero (by omega)] at q; omega) | (rw [prevAt_pos (by omega) hy] at q; omega) | omega).symm | exact congrArg Value.bool (decide_eq_false fun h => by have q := h.pair m k y x hy (by omega) hx; unfold PairOk at q; omega).symm | exact congrArg Value.bool (decide_eq_true (clock_ok (by omega) (by omega) (upto_all (by omega) hl4_1) (by omega) hl10_1)).symm
   replace h53 := DF h53
   refine dS (FA 1 rfl fo61_1 rfl) ?_
   refine dS (FA 1 rfl fo34_0 rfl) ?_
   refine dS (L1 (Value.int .i64 x.Ahead.Lo) 0 rfl tk3 rfl rfl) ?_
   refine dS (BI rfl b_lss) ?_
   refine dS (PK rfl) ?_
   refine dS (MV rfl) ?_
   refine d_bool (t := 59) rfl (fun h59 => ?_) (fun h59 => ?_)
   · replace h59 := DT h59
     refine dS (OX rfl) ?_
     refine dS (OX rfl) ?_
     refine dS (OX rfl) ?_
     refine dS (OX rfl) ?_
     refine dS (OX rfl) ?_
     refine dS (OX rfl) ?_
     refine dS (OX rfl) ?_
     refine dS (PK rfl) ?_
     refine dS (MV rfl) ?_
     refine dS (OX rfl) ?_
     refine dS (OX rfl) ?_
     refine dS (OX rfl) ?_
     refine dS (OX rfl) ?_
     refine dS (PK rfl) ?_
     refine d_end ?_
     refine RK hK15 ?_
     refine w_if_true rfl ?_
     refine WS fun _ hK18 => ?_
     refine rS (AG rfl) ?_
     refine RK hK18 ?_
     refine w_ret ?_
     refine Q1 hQ rfl rfl rfl ?_
     first | exact congrArg Value.bool (decide_eq_false fun h => by have q1 := h.drift; have q2 := h.len; omega).symm | exact congrArg Value.bool (decide_eq_false fun h => by have q := h.sync i x hx; unfold SyncOk at q; first | (rw [prevAt_zero (by omega)] at q; omega) | (rw [prevAt_pos (by omega) hy] at q; omega) | omega).symm | exact congrArg Value.bool (decide_eq_false fun h => by have q := h.pair m k y x hy (by omega) hx; unfold PairOk at q; omega).symm | exact congrArg Value.bool (decide_eq_true (clock_ok (by omega) (by omega) (upto_all (by omega) hl4_1) (by omega) hl10_1)).symm
   replace h59 := DF h59
   refine dS (FA 1 rfl fo61_1 rfl) ?_
   refine dS (FA 1 rfl fo34_0 rfl) ?_
   refine dS (L1 (Value.int .i64 x.Ahead.Lo) 0 rfl tk3 rfl rfl) ?_
   refine dS (FA 1 rfl fo61_1 rfl) ?_
   refine dS (FA 2 rfl fo34_1 rfl) ?_
   refine dS (L1 (Value.int .i64 x.Ahead.Hi) 0 rfl tk3 rfl rfl) ?_
   refine dS (BI rfl b_gtr) ?_
   refine dS (PK rfl) ?_
   refine dS (MV rfl) ?_
   refine d_bool (t := 68) rfl (fun h68 => ?_) (fun h68 => ?_)
   · replace h68 := DT h68
     refine dS (OX rfl) ?_
     refine dS (OX rfl) ?_
     refine dS (OX rfl) ?_
     refine dS (OX rfl) ?_
     refine dS (PK rfl) ?_
     refine d_end ?_
     refine RK hK15 ?_
     refine w_if_true rfl ?_
     refine WS fun _ hK19 => ?_
     refine rS (AG rfl) ?_
     refine RK hK19 ?_
     refine w_ret ?_
     refine Q1 hQ rfl rfl rfl ?_
     first | exact congrArg Value.bool (decide_eq_false fun h => by have q1 := h.drift; have q2 := h.len; omega).symm | exact congrArg Value.bool (decide_eq_false fun h => by have q := h.sync i x hx; unfold SyncOk at q; first | (rw [prevAt_zero (by omega)] at q; omega) | (rw [prevAt_pos (by omega) hy] at q; omega) | omega).symm | exact congrArg Value.bool (decide_eq_false fun h => by have q := h.pair m k y x hy (by omega) hx; unfold PairOk at q; omega).symm | exact congrArg Value.bool (decide_eq_true (clock_ok (by omega) (by omega) (upto_all (by omega) hl4_1) (by omega) hl10_1)).symm
   replace h68 := DF h68
   refine dS (FA 1 rfl fo61_1 rfl) ?_
   refine dS (FA 2 rfl fo34_1 rfl) ?_
   refine dS (L1 (Value.int .i64 x.Ahead.Hi) 0 rfl tk3 rfl rfl) ?_
   refine dS (BI rfl b_gtr) ?_
   refine dS (PK rfl) ?_
   refine d_end ?_
   refine RK hK15 ?_
   refine w_if rfl (fun h73 => ?_) (fun h73 => ?_)
   rotate_left 1
   · replace h73 := DF h73
     refine w_skip ?_
     refine k_block ?_
     refine KK hK12 ?_
     refine w_region ?_
     refine rS (MV rfl) ?_
     refine rS (BI rfl (b_add ⟨by omega, by omega⟩)) ?_
     refine rS (AG rfl) ?_
     refine r_nil ?_
     have hb21 : (Value.int .i64 (((i + 1) : Nat) : Int)) = (Value.int .i64 (((i : Nat) : Int) + 1)) := by exact congrArg (Value.int .i64) (by omega)
     refine k_then (hJ9 ⟨(i + 1), ⟨by omega, upto_succ hl4_1 hx (by unfold SyncOk; first | (rw [prevAt_zero (by omega)]; omega) | (rw [prevAt_pos (by omega) hy]; omega))⟩⟩ _ _ _ rfl (by first | omega | (simp; omega)) (Sub.cons rfl <| sub_val rfl hb21 <| Sub.nil _) (fun w hs => St.sel [1, 2] rfl rfl hs))
   replace h73 := DT h73
   refine WS fun _ hK20 => ?_
   refine rS (AG rfl) ?_
   refine RK hK20 ?_
   refine w_ret ?_
   refine Q1 hQ rfl rfl rfl ?_
   first | exact congrArg Value.bool (decide_eq_false fun h => by have q1 := h.drift; have q2 := h.len; omega).symm | exact congrArg Value.bool (decide_eq_false fun h => by have q := h.sync i x hx; unfold SyncOk at q; first | (rw [prevAt_zero (by omega)] at q; omega) | (rw [prevAt_pos (by omega) hy] at q; omega) | omega).symm | exact congrArg Value.bool (decide_eq_false fun h => by have q := h.pair m k y x hy (by omega) hx; unfold PairOk at q; omega).symm | exact congrArg Value.bool (decide_eq_true (clock_ok (by omega) (by omega) (upto_all (by omega) hl4_1) (by omega) hl10_1)).symm
 replace h25 := DF h25
 refine w_exit ?_
 refine k_exit_then ?_
 refine k_exit_then ?_
 refine k_exit_same ?_
 refine KK hK7 ?_
 refine w_seq fun _ hK26 => ?_
 refine WS fun _ hK27 => ?_
 refine rS (AG rfl) ?_
 refine RK hK27 ?_
 refine w_block ?_
 have hinit : (0 ≤ c.Syncs.length) ∧ (PairsOk c 0) := by exact ⟨Nat.zero_le _, fun j y hj => absurd hj (Nat.not_lt_zero _)⟩
 refine w_loop (ι := { z : Nat // (z ≤ c.Syncs.length) ∧ (PairsOk c z) }) (fun z => [(1, (Value.pointer (some ⟨b2, 0, none⟩))), (5, (Value.int .i64 ((z.1 : Nat) : Int)))]) (fun z => [(blk b2 64 (ClockV.cells (ClockV.mk c.Drift (Slc.mk sA c.Syncs.length sC)))), (rd sA c.Syncs.length 3 (c.Syncs.map SyncV.cells)).ro]) (fun z => c.Syncs.length - z.1) ⟨0, hinit⟩ (Sub.cons rfl <| Sub.cons rfl <| Sub.nil _) (fun w hs => St.sel [0, 1] rfl rfl hs) ?_
 clear hinit
 rintro ⟨m, ⟨hl10_0, hl10_1⟩⟩ J28 hJ28
 change WJ _ _ _ _ [(1, (Value.pointer (some ⟨b2, 0, none⟩))), (5, (Value.int .i64 ((m : Nat) : Int)))] [(blk b2 64 (ClockV.cells (ClockV.mk c.Drift (Slc.mk sA c.Syncs.length sC)))), (rd sA c.Syncs.length 3 (c.Syncs.map SyncV.cells)).ro]
 have hall := upto_all (P := SyncOk c) (by omega) hl4_1
 refine w_seq fun _ hK29 => ?_
 refine WS fun _ hK30 => ?_
 refine rS (MV rfl) ?_
 refine rS (FA 1 rfl fo64_1 rfl) ?_
 refine rS (L1 (Value.slice sA c.Syncs.length sC) 0 rfl tk62 rfl rfl) ?_
 refine rS (LN rfl ut62) ?_
 refine rS (BI rfl b_lss) ?_
 refine RK hK30 ?_
 refine w_if rfl (fun h78 => ?_) (fun h78 => ?_)
 rotate_left 1
 · replace h78 := DF h78
   refine w_exit ?_
   refine k_exit_then ?_
   refine k_exit_then ?_
   refine k_exit_same ?_
   refine KK hK26 ?_
   refine WS fun _ hK61 => ?_
   refine rS (AG rfl) ?_
   refine RK hK61 ?_
   refine w_ret ?_
   refine Q1 hQ rfl rfl rfl ?_
   first | exact congrArg Value.bool (decide_eq_false fun h => by have q1 := h.drift; have q2 := h.len; omega).symm | exact congrArg Value.bool (decide_eq_false fun h => by have q := h.sync i x hx; unfold SyncOk at q; first | (rw [prevAt_zero (by omega)] at q; omega) | (rw [prevAt_pos (by omega) hy] at q; omega) | omega).symm | exact congrArg Value.bool (decide_eq_false fun h => by have q := h.pair m k y x hy (by omega) hx; unfold PairOk at q; omega).symm | exact congrArg Value.bool (decide_eq_true (clock_ok (by omega) (by omega) (upto_all (by omega) hl4_1) (by omega) hl10_1)).symm
 replace h78 := DT h78
 refine WK hK29 ?_
 refine w_seq fun _ hK31 => ?_
 refine w_block ?_
 refine WS fun _ hK32 => ?_
 refine rS (AG rfl) ?_
 refine RK hK32 ?_
 refine w_block ?_
 have hinit : (0 ≤ m) ∧ (∀ y, c.Syncs[m]? = some y → PairK c y 0) := by exact ⟨Nat.zero_le _, fun y _ j o hj => absurd hj (Nat.not_lt_zero _)⟩
 refine w_loop (ι := { z : Nat // (z ≤ m) ∧ (∀ y, c.Syncs[m]? = some y → PairK c y z) }) (fun z => [(1, (Value.pointer (some ⟨b2, 0, none⟩))), (5, (Value.int .i64 ((m : Nat) : Int))), (6, (Value.int .i64 ((z.1 : Nat) : Int)))]) (fun z => [(blk b2 64 (ClockV.cells (ClockV.mk c.Drift (Slc.mk sA c.Syncs.length sC)))), (rd sA c.Syncs.length 3 (c.Syncs.map SyncV.cells)).ro]) (fun z => m - z.1) ⟨0, hinit⟩ (Sub.cons rfl <| Sub.cons rfl <| Sub.cons rfl <| Sub.nil _) (fun w hs => St.sel [0, 1] rfl rfl hs) ?_
 clear hinit
 rintro ⟨k, ⟨hl13_0, hl13_1⟩⟩ J33 hJ33
 change WJ _ _ _ _ [(1, (Value.pointer (some ⟨b2, 0, none⟩))), (5, (Value.int .i64 ((m : Nat) : Int))), (6, (Value.int .i64 ((k : Nat) : Int)))] [(blk b2 64 (ClockV.cells (ClockV.mk c.Drift (Slc.mk sA c.Syncs.length sC)))), (rd sA c.Syncs.length 3 (c.Syncs.map SyncV.cells)).ro]
 refine w_seq fun _ hK34 => ?_
 refine WS fun _ hK35 => ?_
 refine rS (MV rfl) ?_
 refine rS (MV rfl) ?_
 refine rS (BI rfl b_lss) ?_
 refine RK hK35 ?_
 refine w_if rfl (fun h83 => ?_) (fun h83 => ?_)
 rotate_left 1
 · replace h83 := DF h83
   refine w_exit ?_
   refine k_exit_then ?_
   refine k_exit_then ?_
   refine k_exit_same ?_
   refine k_block ?_
   refine KK hK31 ?_
   refine w_region ?_
   refine rS (MV rfl) ?_
   refine rS (BI rfl (b_add ⟨by omega, by omega⟩)) ?_
   refine rS (AG rfl) ?_
   refine r_nil ?_
   have hb60 : (Value.int .i64 (((m + 1) : Nat) : Int)) = (Value.int .i64 (((m : Nat) : Int) + 1)) := by exact congrArg (Value.int .i64) (by omega)
   refine k_then (hJ28 ⟨(m + 1), ⟨by omega, pairs_succ hl10_1 hl13_1 (by omega)⟩⟩ _ _ _ rfl (by first | omega | (simp; omega)) (Sub.cons rfl <| sub_val rfl hb60 <| Sub.nil _) (fun w hs => St.sel [0, 1] rfl rfl hs))
 replace h83 := DT h83
 refine WK hK34 ?_
 refine w_seq fun _ hK36 => ?_
 refine w_block ?_
 refine w_seq fun _ hK37 => ?_
 refine w_drawN mixed [0, 1, 2, 3, 4, 5, 6, 7, 8, 9] [10, 11, 12, 13] [false, false, false, false, false, false, false, false, false, false] [] [(blk b2 64 (ClockV.cells (ClockV.mk c.Drift (Slc.mk sA c.Syncs.length sC)))), (rd sA c.Syncs.length 3 (c.Syncs.map SyncV.cells)).ro] [] (by kernel_rfl) (fun w hs => St.sel [0, 1] rfl rfl hs) (fun w hs => St.sel [] rfl rfl hs) ?_
 refine eS rfl (FA 1 rfl fo64_1 rfl) ?_
 refine eS rfl (L1 (Value.slice sA c.Syncs.length sC) 0 rfl tk62 rfl rfl) ?_
 refine eS rfl (MV rfl) ?_
 obtain ⟨x, hx⟩ : ∃ y_, c.Syncs[k]? = some y_ := ⟨c.Syncs[k]'(by omega), List.getElem?_eq_getElem _⟩
 have hxm : (c.Syncs.map SyncV.cells)[k]? = some (SyncV.cells x) := by rw [List.getElem?_map, hx]; rfl
 refine eS rfl (IA k rfl (has_at 1 rfl) te62 (by decide) (by omega) (by omega)) ?_
 refine eS rfl (LEN k 0 (SyncV.cells x) rfl tk61 (has_at 1 rfl) hxm rfl (by decide) rfl rfl) ?_
 refine eS rfl (FA 1 rfl fo64_1 rfl) ?_
 refine eS rfl (L1 (Value.slice sA c.Syncs.length sC) 0 rfl tk62 rfl rfl) ?_
 refine eS rfl (MV rfl) ?_
 obtain ⟨y, hy⟩ : ∃ y_, c.Syncs[m]? = some y_ := ⟨c.Syncs[m]'(by omega), List.getElem?_eq_getElem _⟩
 have hym : (c.Syncs.map SyncV.cells)[m]? = some (SyncV.cells y) := by rw [List.getElem?_map, hy]; rfl
 refine eS rfl (IA m rfl (has_at 1 rfl) te62 (by decide) (by omega) (by omega)) ?_
 refine eS rfl (LEN m 0 (SyncV.cells y) rfl tk61 (has_at 1 rfl) hym rfl (by decide) rfl rfl) ?_
 refine d_fin rfl ?_
 refine n_step [10, 11] (by kernel_rfl) (n_cons ?_ <| n_cons ?_ <| n_nil)
 rotate_left 1
 · refine n_op (rem' := [10, 12, 13]) rfl (by kernel_rfl) rfl fun T49 hT49 => ?_
   refine AL rfl tz61 fun b50 => ?_
   refine r_nil (hT49 _ _ (fun w hs => St.sel [1, 2] rfl rfl hs) ?_)
   refine n_step [10] (by kernel_rfl) (n_cons ?_ <| n_nil)
   refine n_op (rem' := [12, 13]) rfl (by kernel_rfl) rfl fun T51 hT51 => ?_
   refine AL rfl tz61 fun b52 => ?_
   refine r_nil (hT51 _ _ (fun w hs => St.sel [2, 3] rfl rfl hs) ?_)
   refine n_step [12] (by kernel_rfl) (n_cons ?_ <| n_nil)
   refine n_op (rem' := [13]) rfl (by kernel_rfl) rfl fun T53 hT53 => ?_
   refine SW0 rfl ts61 rfl ?_
   refine r_nil (hT53 _ _ (fun w hs => St.sel [2, 3] rfl rfl hs) ?_)
   refine n_step [13] (by kernel_rfl) (n_cons ?_ <| n_nil)
   refine n_op (rem' := []) rfl (by kernel_rfl) rfl fun T54 hT54 => ?_
   refine SW1 rfl ts61 rfl ?_
   refine r_nil (hT54 _ _ (fun w hs => St.sel [2, 3] rfl rfl hs) ?_)
   refine n_fin ?_
   refine KK hK37 ?_
   refine WS fun _ hK55 => ?_
   refine rS (FA 0 rfl fo64_0 rfl) ?_
   refine rS (L1 (Value.int .i64 c.Drift) 2 rfl tk3 rfl rfl) ?_
   refine rS (FA 0 rfl fo61_0 rfl) ?_
   refine rS (L1 (Value.int .i64 y.At) 1 rfl tk3 rfl rfl) ?_
   refine rS (FA 0 rfl fo61_0 rfl) ?_
   refine rS (L1 (Value.int .i64 x.At) 0 rfl tk3 rfl rfl) ?_
   obtain ⟨hq1, hq2, hq3⟩ := sync_pair (fun j z _ hz => hall j z hz) hy (hall _ _ hy) (show k < m by omega) hx
   refine rS (BI rfl (b_sub ⟨by omega, by omega⟩)) ?_
   refine rS (CL (drifts_c c.Drift (y.At - x.At) (by omega) (by first | assumption | omega | (simp; done) | (simp; omega))) (ha_nil) rfl) ?_
   refine rS (AG rfl) ?_
   refine RK hK55 ?_
   refine WS fun _ hK56 => ?_
   refine rS (FA 1 rfl fo61_1 rfl) ?_
   refine rS (FA 1 rfl fo34_0 rfl) ?_
   refine rS (L1 (Value.int .i64 x.Ahead.Lo) 0 rfl tk3 rfl rfl) ?_
   refine rS (FA 1 rfl fo61_1 rfl) ?_
   refine rS (FA 2 rfl fo34_1 rfl) ?_
   refine rS (L1 (Value.int .i64 y.Ahead.Hi) 1 rfl tk3 rfl rfl) ?_
   refine rS (BI rfl (b_sub ⟨by omega, by omega⟩)) ?_
   refine rS (MV rfl) ?_
   refine rS (BI rfl b_gtr) ?_
   refine rS (MV rfl) ?_
   refine r_bool (t := 113) rfl (fun h113 => ?_) (fun h113 => ?_)
   · replace h113 := DT h113
     refine rS (OX rfl) ?_
     refine rS (OX rfl) ?_
     refine rS (OX rfl) ?_
     refine rS (OX rfl) ?_
     refine rS (OX rfl) ?_
     refine rS (OX rfl) ?_
     refine rS (OX rfl) ?_
     refine rS (OX rfl) ?_
     refine rS (OX rfl) ?_
     refine rS (PK rfl) ?_
     refine RK hK56 ?_
     refine w_if_true rfl ?_
     refine WS fun _ hK57 => ?_
     refine rS (AG rfl) ?_
     refine RK hK57 ?_
     refine w_ret ?_
     refine Q1 hQ rfl rfl rfl ?_
     first | exact congrArg Value.bool (decide_eq_false fun h => by have q1 := h.drift; have q2 := h.len; omega).symm | exact congrArg Value.bool (decide_eq_false fun h => by have q := h.sync i x hx; unfold SyncOk at q; first | (rw [prevAt_zero (by omega)] at q; omega) | (rw [prevAt_pos (by omega) hy] at q; omega) | omega).symm | exact congrArg Value.bool (decide_eq_false fun h => by have q := h.pair m k y x hy (by omega) hx; unfold PairOk at q; omega).symm | exact congrArg Value.bool (decide_eq_true (clock_ok (by omega) (by omega) (upto_all (by omega) hl4_1) (by omega) hl10_1)).symm
   replace h113 := DF h113
   refine rS (FA 1 rfl fo61_1 rfl) ?_
   refine rS (FA 1 rfl fo34_0 rfl) ?_
   refine rS (L1 (Value.int .i64 y.Ahead.Lo) 1 rfl tk3 rfl rfl) ?_
   refine rS (FA 1 rfl fo61_1 rfl) ?_
   refine rS (FA 2 rfl fo34_1 rfl) ?_
   refine rS (L1 (Value.int .i64 x.Ahead.Hi) 0 rfl tk3 rfl rfl) ?_
   refine rS (BI rfl (b_sub ⟨by omega, by omega⟩)) ?_
   refine rS (MV rfl) ?_
   refine rS (BI rfl b_gtr) ?_
   refine rS (PK rfl) ?_
   refine RK hK56 ?_
   refine w_if rfl (fun h123 => ?_) (fun h123 => ?_)
   rotate_left 1
   · replace h123 := DF h123
     refine w_skip ?_
     refine k_block ?_
     refine KK hK36 ?_
     refine w_region ?_
     refine rS (MV rfl) ?_
     refine rS (BI rfl (b_add ⟨by omega, by omega⟩)) ?_
     refine rS (AG rfl) ?_
     refine r_nil ?_
     have hb59 : (Value.int .i64 (((k + 1) : Nat) : Int)) = (Value.int .i64 (((k : Nat) : Int) + 1)) := by exact congrArg (Value.int .i64) (by omega)
     refine k_then (hJ33 ⟨(k + 1), ⟨by omega, fun z hz => by rw [hy] at hz; cases hz; exact upto_succ (hl13_1 _ hy) hx (by unfold PairOk; omega)⟩⟩ _ _ _ rfl (by first | omega | (simp; omega)) (Sub.cons rfl <| Sub.cons rfl <| sub_val rfl hb59 <| Sub.nil _) (fun w hs => St.sel [2, 3] rfl rfl hs))
   replace h123 := DT h123
   refine WS fun _ hK58 => ?_
   refine rS (AG rfl) ?_
   refine RK hK58 ?_
   refine w_ret ?_
   refine Q1 hQ rfl rfl rfl ?_
   first | exact congrArg Value.bool (decide_eq_false fun h => by have q1 := h.drift; have q2 := h.len; omega).symm | exact congrArg Value.bool (decide_eq_false fun h => by have q := h.sync i x hx; unfold SyncOk at q; first | (rw [prevAt_zero (by omega)] at q; omega) | (rw [prevAt_pos (by omega) hy] at q; omega) | omega).symm | exact congrArg Value.bool (decide_eq_false fun h => by have q := h.pair m k y x hy (by omega) hx; unfold PairOk at q; omega).symm | exact congrArg Value.bool (decide_eq_true (clock_ok (by omega) (by omega) (upto_all (by omega) hl4_1) (by omega) hl10_1)).symm
 refine n_op (rem' := [11, 12, 13]) rfl (by kernel_rfl) rfl fun T38 hT38 => ?_
 refine AL rfl tz61 fun b39 => ?_
 refine r_nil (hT38 _ _ (fun w hs => St.sel [1, 2] rfl rfl hs) ?_)
 refine n_step [11] (by kernel_rfl) (n_cons ?_ <| n_nil)
 refine n_op (rem' := [12, 13]) rfl (by kernel_rfl) rfl fun T40 hT40 => ?_
 refine AL rfl tz61 fun b41 => ?_
 refine r_nil (hT40 _ _ (fun w hs => St.sel [2, 3] rfl rfl hs) ?_)
 refine n_step [12] (by kernel_rfl) (n_cons ?_ <| n_nil)
 refine n_op (rem' := [13]) rfl (by kernel_rfl) rfl fun T42 hT42 => ?_
 refine SW1 rfl ts61 rfl ?_
 refine r_nil (hT42 _ _ (fun w hs => St.sel [2, 3] rfl rfl hs) ?_)
 refine n_step [13] (by kernel_rfl) (n_cons ?_ <| n_nil)
 refine n_op (rem' := []) rfl (by kernel_rfl) rfl fun T43 hT43 => ?_
 refine SW0 rfl ts61 rfl ?_
 refine r_nil (hT43 _ _ (fun w hs => St.sel [2, 3] rfl rfl hs) ?_)
 refine n_fin ?_
 refine KK hK37 ?_
 refine WS fun _ hK44 => ?_
 refine rS (FA 0 rfl fo64_0 rfl) ?_
 refine rS (L1 (Value.int .i64 c.Drift) 2 rfl tk3 rfl rfl) ?_
 refine rS (FA 0 rfl fo61_0 rfl) ?_
 refine rS (L1 (Value.int .i64 y.At) 0 rfl tk3 rfl rfl) ?_
 refine rS (FA 0 rfl fo61_0 rfl) ?_
 refine rS (L1 (Value.int .i64 x.At) 1 rfl tk3 rfl rfl) ?_
 obtain ⟨hq1, hq2, hq3⟩ := sync_pair (fun j z _ hz => hall j z hz) hy (hall _ _ hy) (show k < m by omega) hx
 refine rS (BI rfl (b_sub ⟨by omega, by omega⟩)) ?_
 refine rS (CL (drifts_c c.Drift (y.At - x.At) (by omega) (by first | assumption | omega | (simp; done) | (simp; omega))) (ha_nil) rfl) ?_
 refine rS (AG rfl) ?_
 refine RK hK44 ?_
 refine WS fun _ hK45 => ?_
 refine rS (FA 1 rfl fo61_1 rfl) ?_
 refine rS (FA 1 rfl fo34_0 rfl) ?_
 refine rS (L1 (Value.int .i64 x.Ahead.Lo) 1 rfl tk3 rfl rfl) ?_
 refine rS (FA 1 rfl fo61_1 rfl) ?_
 refine rS (FA 2 rfl fo34_1 rfl) ?_
 refine rS (L1 (Value.int .i64 y.Ahead.Hi) 0 rfl tk3 rfl rfl) ?_
 refine rS (BI rfl (b_sub ⟨by omega, by omega⟩)) ?_
 refine rS (MV rfl) ?_
 refine rS (BI rfl b_gtr) ?_
 refine rS (MV rfl) ?_
 refine r_bool (t := 113) rfl (fun h113 => ?_) (fun h113 => ?_)
 · replace h113 := DT h113
   refine rS (OX rfl) ?_
   refine rS (OX rfl) ?_
   refine rS (OX rfl) ?_
   refine rS (OX rfl) ?_
   refine rS (OX rfl) ?_
   refine rS (OX rfl) ?_
   refine rS (OX rfl) ?_
   refine rS (OX rfl) ?_
   refine rS (OX rfl) ?_
   refine rS (PK rfl) ?_
   refine RK hK45 ?_
   refine w_if_true rfl ?_
   refine WS fun _ hK46 => ?_
   refine rS (AG rfl) ?_
   refine RK hK46 ?_
   refine w_ret ?_
   refine Q1 hQ rfl rfl rfl ?_
   first | exact congrArg Value.bool (decide_eq_false fun h => by have q1 := h.drift; have q2 := h.len; omega).symm | exact congrArg Value.bool (decide_eq_false fun h => by have q := h.sync i x hx; unfold SyncOk at q; first | (rw [prevAt_zero (by omega)] at q; omega) | (rw [prevAt_pos (by omega) hy] at q; omega) | omega).symm | exact congrArg Value.bool (decide_eq_false fun h => by have q := h.pair m k y x hy (by omega) hx; unfold PairOk at q; omega).symm | exact congrArg Value.bool (decide_eq_true (clock_ok (by omega) (by omega) (upto_all (by omega) hl4_1) (by omega) hl10_1)).symm
 replace h113 := DF h113
 refine rS (FA 1 rfl fo61_1 rfl) ?_
 refine rS (FA 1 rfl fo34_0 rfl) ?_
 refine rS (L1 (Value.int .i64 y.Ahead.Lo) 0 rfl tk3 rfl rfl) ?_
 refine rS (FA 1 rfl fo61_1 rfl) ?_
 refine rS (FA 2 rfl fo34_1 rfl) ?_
 refine rS (L1 (Value.int .i64 x.Ahead.Hi) 1 rfl tk3 rfl rfl) ?_
 refine rS (BI rfl (b_sub ⟨by omega, by omega⟩)) ?_
 refine rS (MV rfl) ?_
 refine rS (BI rfl b_gtr) ?_
 refine rS (PK rfl) ?_
 refine RK hK45 ?_
 refine w_if rfl (fun h123 => ?_) (fun h123 => ?_)
 rotate_left 1
 · replace h123 := DF h123
   refine w_skip ?_
   refine k_block ?_
   refine KK hK36 ?_
   refine w_region ?_
   refine rS (MV rfl) ?_
   refine rS (BI rfl (b_add ⟨by omega, by omega⟩)) ?_
   refine rS (AG rfl) ?_
   refine r_nil ?_
   have hb48 : (Value.int .i64 (((k + 1) : Nat) : Int)) = (Value.int .i64 (((k : Nat) : Int) + 1)) := by exact congrArg (Value.int .i64) (by omega)
   refine k_then (hJ33 ⟨(k + 1), ⟨by omega, fun z hz => by rw [hy] at hz; cases hz; exact upto_succ (hl13_1 _ hy) hx (by unfold PairOk; omega)⟩⟩ _ _ _ rfl (by first | omega | (simp; omega)) (Sub.cons rfl <| Sub.cons rfl <| sub_val rfl hb48 <| Sub.nil _) (fun w hs => St.sel [2, 3] rfl rfl hs))
 replace h123 := DT h123
 refine WS fun _ hK47 => ?_
 refine rS (AG rfl) ?_
 refine RK hK47 ?_
 refine w_ret ?_
 refine Q1 hQ rfl rfl rfl ?_
 first | exact congrArg Value.bool (decide_eq_false fun h => by have q1 := h.drift; have q2 := h.len; omega).symm | exact congrArg Value.bool (decide_eq_false fun h => by have q := h.sync i x hx; unfold SyncOk at q; first | (rw [prevAt_zero (by omega)] at q; omega) | (rw [prevAt_pos (by omega) hy] at q; omega) | omega).symm | exact congrArg Value.bool (decide_eq_false fun h => by have q := h.pair m k y x hy (by omega) hx; unfold PairOk at q; omega).symm | exact congrArg Value.bool (decide_eq_true (clock_ok (by omega) (by omega) (upto_all (by omega) hl4_1) (by omega) hl10_1)).symm

set_option maxRecDepth 100000 in
set_option maxHeartbeats 400000 in
theorem rahead_c (c : ClockM) (sA : Option Addr) (sC : Nat) (at_ : Int) (hc : ClockOk c) (ha : 0 ≤ at_ ∧ at_ ≤ 90000000) :
    FnV Try.prog 48 [(Value.agg (ClockV.cells (ClockV.mk c.Drift (Slc.mk sA c.Syncs.length sC))).toArray), (Value.int .i64 at_)] [(rd sA c.Syncs.length 3 (c.Syncs.map SyncV.cells))] (Value.agg (SpanV.cells (aheadF c at_)).toArray) := by
 have hcl := hc.len
 have hcd := hc.drift
 refine fnV_of go48 Try.func48 rfl rfl fun w0 Q hQ hN => ?_
 change WJ _ _ _ _ [(0, (Value.agg (ClockV.cells (ClockV.mk c.Drift (Slc.mk sA c.Syncs.length sC))).toArray)), (1, (Value.int .i64 at_))] [(rd sA c.Syncs.length 3 (c.Syncs.map SyncV.cells)).ro]
 refine WS fun _ hK1 => ?_
 refine BXA rfl fun b2 => ?_
 refine AL rfl tz34 fun b3 => ?_
 refine RK hK1 ?_
 refine WS fun _ hK4 => ?_
 refine AL rfl tz34 fun b5 => ?_
 refine RK hK4 ?_
 refine w_seq fun _ hK6 => ?_
 refine WS fun _ hK7 => ?_
 refine rS (AG rfl) ?_
 refine RK hK7 ?_
 refine w_block ?_
 have hinit : (0 ≤ c.Syncs.length) := by exact Nat.zero_le _
 refine w_loop (ι := { z : Nat // (z ≤ c.Syncs.length) }) (fun z => [(1, (Value.int .i64 at_)), (2, (Value.pointer (some ⟨b2, 0, none⟩))), (4, (Value.pointer (some ⟨b3, 0, none⟩))), (5, (Value.pointer (some ⟨b5, 0, none⟩))), (6, (Value.int .i64 ((z.1 : Nat) : Int)))]) (fun z => [(blk b5 34 (SpanV.cells (aheadR c at_ z.1))), (blk b3 34 (SpanV.cells (SpanV.mk 0 0))), (blk b2 64 (ClockV.cells (ClockV.mk c.Drift (Slc.mk sA c.Syncs.length sC)))), (rd sA c.Syncs.length 3 (c.Syncs.map SyncV.cells)).ro]) (fun z => c.Syncs.length - z.1) ⟨0, hinit⟩ (Sub.cons rfl <| Sub.cons rfl <| Sub.cons rfl <| Sub.cons rfl <| Sub.cons rfl <| Sub.nil _) (fun w hs => St.sel [0, 1, 2, 3] rfl rfl hs) ?_
 clear hinit
 rintro ⟨i, hl0_0⟩ J8 hJ8
 change WJ _ _ _ _ [(1, (Value.int .i64 at_)), (2, (Value.pointer (some ⟨b2, 0, none⟩))), (4, (Value.pointer (some ⟨b3, 0, none⟩))), (5, (Value.pointer (some ⟨b5, 0, none⟩))), (6, (Value.int .i64 ((i : Nat) : Int)))] [(blk b5 34 (SpanV.cells (aheadR c at_ i))), (blk b3 34 (SpanV.cells (SpanV.mk 0 0))), (blk b2 64 (ClockV.cells (ClockV.mk c.Drift (Slc.mk sA c.Syncs.length sC)))), (rd sA c.Syncs.length 3 (c.Syncs.map SyncV.cells)).ro]
 refine w_seq fun _ hK9 => ?_
 refine WS fun _ hK10 => ?_
 refine rS (MV rfl) ?_
 refine rS (FA 1 rfl fo64_1 rfl) ?_
 refine rS (L1 (Value.slice sA c.Syncs.length sC) 2 rfl tk62 rfl rfl) ?_
 refine rS (LN rfl ut62) ?_
 refine rS (BI rfl b_lss) ?_
 refine RK hK10 ?_
 refine w_if rfl (fun h11 => ?_) (fun h11 => ?_)
 rotate_left 1
 · replace h11 := DF h11
   refine w_exit ?_
   refine k_exit_then ?_
   refine k_exit_then ?_
   refine k_exit_same ?_
   refine KK hK6 ?_
   refine WS fun _ hK24 => ?_
   refine rS (LW 0 rfl tk34 rfl rfl) ?_
   refine SW1 rfl ts34 rfl ?_
   refine RK hK24 ?_
   refine w_ret ?_
   refine hQ _ _ _ (l_nil (vs := [(Value.agg (SpanV.cells (aheadR c at_ i)).toArray)]) ⟨⟨_, rfl, .inl ⟨_, _, tk34, at_blk (vs := (SpanV.cells (aheadR c at_ i))) 1 rfl rfl, rfl, rfl⟩⟩, trivial⟩ fun w hs => endV ?_ hs)
   show (Value.agg (SpanV.cells (aheadR c at_ i)).toArray) = (Value.agg (SpanV.cells (aheadF c at_)).toArray)
   clear hs w hQ hN hK24 hK10 hK9 hK7 hK6 hK4 hK1
   rw [aheadR_all hc (show c.Syncs.length ≤ i by omega)]
 replace h11 := DT h11
 refine WK hK9 ?_
 refine w_seq fun _ hK12 => ?_
 refine w_block ?_
 refine WS fun _ hK13 => ?_
 refine rS (FA 1 rfl fo64_1 rfl) ?_
 refine rS (L1 (Value.slice sA c.Syncs.length sC) 2 rfl tk62 rfl rfl) ?_
 refine rS (MV rfl) ?_
 obtain ⟨x, hx⟩ : ∃ y_, c.Syncs[i]? = some y_ := ⟨c.Syncs[i]'(by omega), List.getElem?_eq_getElem _⟩
 have hxm : (c.Syncs.map SyncV.cells)[i]? = some (SyncV.cells x) := by rw [List.getElem?_map, hx]; rfl
 refine rS (IA i rfl (has_at 3 rfl) te62 (by decide) (by omega) (by omega)) ?_
 refine rS (LEN i 0 (SyncV.cells x) rfl tk61 (has_at 3 rfl) hxm rfl (by decide) rfl rfl) ?_
 refine AL rfl tz61 fun b14 => ?_
 refine SW0 rfl ts61 rfl ?_
 refine RK hK13 ?_
 refine WS fun _ hK15 => ?_
 refine rS (FA 0 rfl fo64_0 rfl) ?_
 refine rS (L1 (Value.int .i64 c.Drift) 3 rfl tk3 rfl rfl) ?_
 have hsb := hc.sync_b hx
 have hob : 0 ≤ upD (c.Drift * max (at_ - x.At) (x.At - at_)) 1000000 ∧ upD (c.Drift * max (at_ - x.At) (x.At - at_)) 1000000 ≤ 90001 := offF_b hcd ha hsb.1
 refine rS (MV rfl) ?_
 refine rS (FA 0 rfl fo61_0 rfl) ?_
 refine rS (L1 (Value.int .i64 x.At) 0 rfl tk3 rfl rfl) ?_
 refine rS (BI rfl (b_sub ⟨by omega, by omega⟩)) ?_
 refine rS (FA 0 rfl fo61_0 rfl) ?_
 refine rS (L1 (Value.int .i64 x.At) 0 rfl tk3 rfl rfl) ?_
 refine rS (MV rfl) ?_
 refine rS (BI rfl (b_sub ⟨by omega, by omega⟩)) ?_
 refine rS (MX rfl) ?_
 refine rS (CL (drifts_c c.Drift (max (at_ - x.At) (x.At - at_)) (by omega) (by first | assumption | omega | (simp; done) | (simp; omega))) (ha_nil) rfl) ?_
 refine rS (AG rfl) ?_
 refine RK hK15 ?_
 refine WS fun _ hK16 => ?_
 refine rS (FA 1 rfl fo61_1 rfl) ?_
 refine rS (FA 1 rfl fo34_0 rfl) ?_
 refine rS (L1 (Value.int .i64 x.Ahead.Lo) 0 rfl tk3 rfl rfl) ?_
 refine rS (MV rfl) ?_
 refine rS (BI rfl (b_sub ⟨by omega, by omega⟩)) ?_
 refine rS (FA 1 rfl fo61_1 rfl) ?_
 refine rS (FA 2 rfl fo34_1 rfl) ?_
 refine rS (L1 (Value.int .i64 x.Ahead.Hi) 0 rfl tk3 rfl rfl) ?_
 refine rS (MV rfl) ?_
 refine rS (BI rfl (b_add ⟨by omega, by omega⟩)) ?_
 refine rS (SX (sd_build (xs := [(0, .tmp 38), (1, .tmp 43)]) (cs := (SpanV.cells (SpanV.mk (x.Ahead.Lo - (upD (c.Drift * (max (at_ - x.At) (x.At - at_))) 1000000)) (x.Ahead.Hi + (upD (c.Drift * (max (at_ - x.At) (x.At - at_))) 1000000))))) rfl rfl (built_of tb34 rfl)) rfl rfl) ?_
 refine AL rfl tz34 fun b17 => ?_
 refine SW0 rfl ts34 rfl ?_
 refine RK hK16 ?_
 refine w_seq fun _ hK18 => ?_
 refine WS fun _ hK19 => ?_
 refine rS (MV rfl) ?_
 refine rS (BI rfl b_eql) ?_
 refine RK hK19 ?_
 refine w_if rfl (fun h46 => ?_) (fun h46 => ?_)
 rotate_left 1
 · replace h46 := DF h46
   refine WK hK18 ?_
   refine w_region ?_
   refine rS (FA 0 rfl fo34_0 rfl) ?_
   refine rS (L1 (Value.int .i64 ((aheadR c at_ i).Lo)) 2 rfl tk3 rfl rfl) ?_
   refine rS (FA 0 rfl fo34_0 rfl) ?_
   refine rS (L1 (Value.int .i64 (x.Ahead.Lo - (upD (c.Drift * (max (at_ - x.At) (x.At - at_))) 1000000))) 0 rfl tk3 rfl rfl) ?_
   refine rS (MX rfl) ?_
   refine rS (FA 1 rfl fo34_1 rfl) ?_
   refine rS (L1 (Value.int .i64 ((aheadR c at_ i).Hi)) 2 rfl tk3 rfl rfl) ?_
   refine rS (FA 1 rfl fo34_1 rfl) ?_
   refine rS (L1 (Value.int .i64 (x.Ahead.Hi + (upD (c.Drift * (max (at_ - x.At) (x.At - at_))) 1000000))) 0 rfl tk3 rfl rfl) ?_
   refine rS (MN rfl) ?_
   refine rS (SX (sd_build (xs := [(0, .tmp 52), (1, .tmp 57)]) (cs := (SpanV.cells (SpanV.mk (max ((aheadR c at_ i).Lo) (x.Ahead.Lo - (upD (c.Drift * (max (at_ - x.At) (x.At - at_))) 1000000))) (min ((aheadR c at_ i).Hi) (x.Ahead.Hi + (upD (c.Drift * (max (at_ - x.At) (x.At - at_))) 1000000)))))) rfl rfl (built_of tb34 rfl)) rfl rfl) ?_
   refine SW2 rfl ts34 rfl ?_
   refine r_nil ?_
   refine k_block ?_
   refine KK hK12 ?_
   have hb22 : (SpanV.cells (SpanV.mk (max ((aheadR c at_ i).Lo) (x.Ahead.Lo - (upD (c.Drift * (max (at_ - x.At) (x.At - at_))) 1000000))) (min ((aheadR c at_ i).Hi) (x.Ahead.Hi + (upD (c.Drift * (max (at_ - x.At) (x.At - at_))) 1000000))))) = (SpanV.cells (aheadR c at_ (i + 1))) := by first | exact congrArg SpanV.cells (aheadR_first hc ha hx (by omega)).symm | exact congrArg SpanV.cells (aheadR_next hx (by omega)).symm
   rw [hb22]
   refine w_region ?_
   refine rS (MV rfl) ?_
   refine rS (BI rfl (b_add ⟨by omega, by omega⟩)) ?_
   refine rS (AG rfl) ?_
   refine r_nil ?_
   have hb23 : (Value.int .i64 (((i + 1) : Nat) : Int)) = (Value.int .i64 (((i : Nat) : Int) + 1)) := by exact congrArg (Value.int .i64) (by omega)
   refine k_then (hJ8 ⟨(i + 1), (by first | omega | (simp only []; omega))⟩ _ _ _ rfl (by first | omega | (simp; omega)) (Sub.cons rfl <| Sub.cons rfl <| Sub.cons rfl <| Sub.cons rfl <| sub_val rfl hb23 <| Sub.nil _) (fun w hs => St.sel [2, 3, 4, 5] rfl rfl hs))
 replace h46 := DT h46
 refine w_region ?_
 refine rS (LW 0 rfl tk34 rfl rfl) ?_
 refine SW2 rfl ts34 rfl ?_
 refine RK hK18 ?_
 refine w_region ?_
 refine rS (FA 0 rfl fo34_0 rfl) ?_
 refine rS (L1 (Value.int .i64 (x.Ahead.Lo - (upD (c.Drift * (max (at_ - x.At) (x.At - at_))) 1000000))) 2 rfl tk3 rfl rfl) ?_
 refine rS (FA 0 rfl fo34_0 rfl) ?_
 refine rS (L1 (Value.int .i64 (x.Ahead.Lo - (upD (c.Drift * (max (at_ - x.At) (x.At - at_))) 1000000))) 0 rfl tk3 rfl rfl) ?_
 refine rS (MX rfl) ?_
 refine rS (FA 1 rfl fo34_1 rfl) ?_
 refine rS (L1 (Value.int .i64 (x.Ahead.Hi + (upD (c.Drift * (max (at_ - x.At) (x.At - at_))) 1000000))) 2 rfl tk3 rfl rfl) ?_
 refine rS (FA 1 rfl fo34_1 rfl) ?_
 refine rS (L1 (Value.int .i64 (x.Ahead.Hi + (upD (c.Drift * (max (at_ - x.At) (x.At - at_))) 1000000))) 0 rfl tk3 rfl rfl) ?_
 refine rS (MN rfl) ?_
 refine rS (SX (sd_build (xs := [(0, .tmp 52), (1, .tmp 57)]) (cs := (SpanV.cells (SpanV.mk (max (x.Ahead.Lo - (upD (c.Drift * (max (at_ - x.At) (x.At - at_))) 1000000)) (x.Ahead.Lo - (upD (c.Drift * (max (at_ - x.At) (x.At - at_))) 1000000))) (min (x.Ahead.Hi + (upD (c.Drift * (max (at_ - x.At) (x.At - at_))) 1000000)) (x.Ahead.Hi + (upD (c.Drift * (max (at_ - x.At) (x.At - at_))) 1000000)))))) rfl rfl (built_of tb34 rfl)) rfl rfl) ?_
 refine SW2 rfl ts34 rfl ?_
 refine r_nil ?_
 refine k_block ?_
 refine KK hK12 ?_
 have hb20 : (SpanV.cells (SpanV.mk (max (x.Ahead.Lo - (upD (c.Drift * (max (at_ - x.At) (x.At - at_))) 1000000)) (x.Ahead.Lo - (upD (c.Drift * (max (at_ - x.At) (x.At - at_))) 1000000))) (min (x.Ahead.Hi + (upD (c.Drift * (max (at_ - x.At) (x.At - at_))) 1000000)) (x.Ahead.Hi + (upD (c.Drift * (max (at_ - x.At) (x.At - at_))) 1000000))))) = (SpanV.cells (aheadR c at_ (i + 1))) := by first | exact congrArg SpanV.cells (aheadR_first hc ha hx (by omega)).symm | exact congrArg SpanV.cells (aheadR_next hx (by omega)).symm
 rw [hb20]
 refine w_region ?_
 refine rS (MV rfl) ?_
 refine rS (BI rfl (b_add ⟨by omega, by omega⟩)) ?_
 refine rS (AG rfl) ?_
 refine r_nil ?_
 have hb21 : (Value.int .i64 (((i + 1) : Nat) : Int)) = (Value.int .i64 (((i : Nat) : Int) + 1)) := by exact congrArg (Value.int .i64) (by omega)
 refine k_then (hJ8 ⟨(i + 1), (by first | omega | (simp only []; omega))⟩ _ _ _ rfl (by first | omega | (simp; omega)) (Sub.cons rfl <| Sub.cons rfl <| Sub.cons rfl <| Sub.cons rfl <| sub_val rfl hb21 <| Sub.nil _) (fun w hs => St.sel [2, 3, 4, 5] rfl rfl hs))

set_option maxRecDepth 100000 in
set_option maxHeartbeats 400000 in
theorem rway_c (l : LineM) (kA : Option Addr) (kC : Nat) (az : List RA) (cA : Option Addr) (cC : Nat) (bA : Option Addr) (bC : Nat) (n : Int) (hin : LineIn l az) (htr : trackOk l.Track = true) (hbk : ∀ b ∈ l.Beams, BeamOk l b) (hn : 0 ≤ n ∧ n < (l.Beams.length : Int)) :
    FnV Try.prog 78 [(Value.agg (LineV.cells (LineV.mk (TrackV.mk (Slc.mk kA l.Track.length kC)) l.Fast (Slc.mk cA l.Clocks.length cC) (Slc.mk bA l.Beams.length bC) l.Finish l.Fakes l.Misses)).toArray), (Value.int .i64 n)] [(rd kA l.Track.length 9 (l.Track.map StretchV.cells)), (rd cA l.Clocks.length 2 (List.zipWith ClockM.cells l.Clocks az)), (bun (nest ClockM.rds l.Clocks az)), (rd bA l.Beams.length 4 (l.Beams.map BeamV.cells))] (Value.int .i64 (wayF l n.toNat)) := by
 have htk := hin.trk
 have hck := hin.cks
 have has := hin.as_
 have hbm := hin.bms
 have hsd := hin.side
 refine fnV_of go78 Try.func78 rfl rfl fun w0 Q hQ hN => ?_
 change WJ _ _ _ _ [(0, (Value.agg (LineV.cells (LineV.mk (TrackV.mk (Slc.mk kA l.Track.length kC)) l.Fast (Slc.mk cA l.Clocks.length cC) (Slc.mk bA l.Beams.length bC) l.Finish l.Fakes l.Misses)).toArray)), (1, (Value.int .i64 n))] [(rd kA l.Track.length 9 (l.Track.map StretchV.cells)).ro, (rd cA l.Clocks.length 2 (List.zipWith ClockM.cells l.Clocks az)).ro, (bun (nest ClockM.rds l.Clocks az)).ro, (rd bA l.Beams.length 4 (l.Beams.map BeamV.cells)).ro]
 refine WS fun _ hK1 => ?_
 refine BXA rfl fun b2 => ?_
 refine rS (AG rfl) ?_
 refine RK hK1 ?_
 refine w_seq fun _ hK3 => ?_
 refine WS fun _ hK4 => ?_
 refine rS (MV rfl) ?_
 refine rS (BI rfl b_eql) ?_
 refine RK hK4 ?_
 refine w_if rfl (fun h10 => ?_) (fun h10 => ?_)
 · replace h10 := DT h10
   refine w_seq fun _ hK5 => ?_
   refine w_draw4 mixed [0, 1, 2, 3, 4, 5, 6, 7, 8, 9, 10, 13] [11, 12] [false, false, false, false, false, false, false, false, false, false, false, false] [false, false] [(blk b2 28 (LineV.cells (LineV.mk (TrackV.mk (Slc.mk kA l.Track.length kC)) l.Fast (Slc.mk cA l.Clocks.length cC) (Slc.mk bA l.Beams.length bC) l.Finish l.Fakes l.Misses))), (rd kA l.Track.length 9 (l.Track.map StretchV.cells)).ro, (rd cA l.Clocks.length 2 (List.zipWith ClockM.cells l.Clocks az)).ro, (bun (nest ClockM.rds l.Clocks az)).ro, (rd bA l.Beams.length 4 (l.Beams.map BeamV.cells)).ro] [] (by kernel_rfl) (fun w hs => St.sel [0, 1, 2, 3, 4] rfl rfl hs) (fun w hs => St.sel [] rfl rfl hs) ?_
   refine eS rfl (FA 0 rfl fo28_0 rfl) ?_
   refine eS rfl (LP (TrackV.cells (TrackV.mk (Slc.mk kA l.Track.length kC))) 0 rfl tk24 rfl rfl rfl) ?_
   refine eS rfl (FA 3 rfl fo28_3 rfl) ?_
   refine eS rfl (L1 (Value.slice bA l.Beams.length bC) 0 rfl tk26 rfl rfl) ?_
   obtain ⟨y, hy⟩ : ∃ y_, l.Beams[0]? = some y_ := ⟨l.Beams[0]'(by omega), List.getElem?_eq_getElem _⟩
   have hym : (l.Beams.map BeamV.cells)[0]? = some (BeamV.cells y) := by rw [List.getElem?_map, hy]; rfl
   refine eS rfl (IA 0 rfl (has_at 4 rfl) te26 (by decide) rfl (by omega)) ?_
   refine eS rfl (FAR (0 * 4) rfl (has_at 4 rfl) (Nat.mul_pos (by omega) (by decide)) fo55_0 rfl) ?_
   refine eS rfl (LEN 0 0 (SpotV.cells y.Spot) rfl tk53 (has_at 4 rfl) hym rfl (by decide) rfl rfl) ?_
   refine eS rfl (CL (rat_c l.Track kA kC y.Spot (by first | assumption | omega | (simp; done) | (simp; omega)) (by first | assumption | omega | (simp; done) | (simp; omega))) (ha_at 1 rfl rfl <| ha_nil) rfl) ?_
   refine eS rfl (MV rfl) ?_
   refine eS rfl (EX rfl) ?_
   refine eS rfl (EX rfl) ?_
   refine eS rfl (AG rfl) ?_
   refine d_fin rfl ?_
   refine t_cons rfl fun T6 hT6 => ?_
   refine AL rfl tz34 fun b7 => ?_
   refine r_nil (hT6 _ _ (fun w hs => St.sel [1, 2, 3, 4, 5] rfl rfl hs) ?_)
   refine t_cons rfl fun T8 hT8 => ?_
   refine SW0 rfl ts34 rfl ?_
   refine r_nil (hT8 _ _ (fun w hs => St.sel [1, 2, 3, 4, 5] rfl rfl hs) ?_)
   refine t_fin rfl ?_
   refine KK hK5 ?_
   refine WS fun _ hK9 => ?_
   refine rS (FA 0 rfl fo34_0 rfl) ?_
   refine rS (L1 (Value.int .i64 ((atV l.Track y.Spot).Lo)) 0 rfl tk3 rfl rfl) ?_
   refine rS (AG rfl) ?_
   refine RK hK9 ?_
   refine w_ret ?_
   refine Q1 hQ rfl rfl rfl ?_
   first | (refine congrArg (Value.int .i64) ?_; rw [show n.toNat = 0 by omega]; rw [wayF_zero hy, (at_in htr (hbk _ (List.mem_of_getElem? hy)).1).2]) | (refine congrArg (Value.int .i64) ?_; rw [wayF_pos (by omega) hx (by rw [show n.toNat - 1 = (n - 1).toNat by omega]; exact hy), (apart_in htr ⟨(hbk _ (List.mem_of_getElem? hy)).1, (hbk _ (List.mem_of_getElem? hx)).1⟩).2])
 replace h10 := DF h10
 refine WK hK3 ?_
 refine w_seq fun _ hK10 => ?_
 refine w_draw4 mixed [0, 1, 2, 3, 4, 5, 6, 7, 8, 9, 10, 11, 12, 13, 14, 15, 16, 17, 18, 21] [19, 20] [false, false, false, false, false, false, false, false, false, false, false, false, false, false, false, false, false, false, false, false] [false, false] [(blk b2 28 (LineV.cells (LineV.mk (TrackV.mk (Slc.mk kA l.Track.length kC)) l.Fast (Slc.mk cA l.Clocks.length cC) (Slc.mk bA l.Beams.length bC) l.Finish l.Fakes l.Misses))), (rd kA l.Track.length 9 (l.Track.map StretchV.cells)).ro, (rd cA l.Clocks.length 2 (List.zipWith ClockM.cells l.Clocks az)).ro, (bun (nest ClockM.rds l.Clocks az)).ro, (rd bA l.Beams.length 4 (l.Beams.map BeamV.cells)).ro] [] (by kernel_rfl) (fun w hs => St.sel [0, 1, 2, 3, 4] rfl rfl hs) (fun w hs => St.sel [] rfl rfl hs) ?_
 refine eS rfl (FA 0 rfl fo28_0 rfl) ?_
 refine eS rfl (LP (TrackV.cells (TrackV.mk (Slc.mk kA l.Track.length kC))) 0 rfl tk24 rfl rfl rfl) ?_
 refine eS rfl (FA 3 rfl fo28_3 rfl) ?_
 refine eS rfl (L1 (Value.slice bA l.Beams.length bC) 0 rfl tk26 rfl rfl) ?_
 refine eS rfl (MV rfl) ?_
 refine eS rfl (BI rfl (b_sub ⟨by omega, by omega⟩)) ?_
 obtain ⟨y, hy⟩ : ∃ y_, l.Beams[((n - 1)).toNat]? = some y_ := ⟨l.Beams[((n - 1)).toNat]'(by omega), List.getElem?_eq_getElem _⟩
 have hym : (l.Beams.map BeamV.cells)[((n - 1)).toNat]? = some (BeamV.cells y) := by rw [List.getElem?_map, hy]; rfl
 refine eS rfl (IA (((n - 1)).toNat) rfl (has_at 4 rfl) te26 (by decide) (by omega) (by omega)) ?_
 refine eS rfl (FAR ((((n - 1)).toNat) * 4) rfl (has_at 4 rfl) (Nat.mul_pos (by omega) (by decide)) fo55_0 rfl) ?_
 refine eS rfl (LEN (((n - 1)).toNat) 0 (SpotV.cells y.Spot) rfl tk53 (has_at 4 rfl) hym rfl (by decide) rfl rfl) ?_
 refine eS rfl (FA 3 rfl fo28_3 rfl) ?_
 refine eS rfl (L1 (Value.slice bA l.Beams.length bC) 0 rfl tk26 rfl rfl) ?_
 refine eS rfl (MV rfl) ?_
 obtain ⟨x, hx⟩ : ∃ y_, l.Beams[(n).toNat]? = some y_ := ⟨l.Beams[(n).toNat]'(by omega), List.getElem?_eq_getElem _⟩
 have hxm : (l.Beams.map BeamV.cells)[(n).toNat]? = some (BeamV.cells x) := by rw [List.getElem?_map, hx]; rfl
 refine eS rfl (IA ((n).toNat) rfl (has_at 4 rfl) te26 (by decide) (by omega) (by omega)) ?_
 refine eS rfl (FAR (((n).toNat) * 4) rfl (has_at 4 rfl) (Nat.mul_pos (by omega) (by decide)) fo55_0 rfl) ?_
 refine eS rfl (LEN ((n).toNat) 0 (SpotV.cells x.Spot) rfl tk53 (has_at 4 rfl) hxm rfl (by decide) rfl rfl) ?_
 refine eS rfl (CL (rapart_c l.Track kA kC y.Spot x.Spot (by first | assumption | omega | (simp; done) | (simp; omega)) (by first | assumption | omega | (simp; done) | (simp; omega))) (ha_at 1 rfl rfl <| ha_nil) rfl) ?_
 refine eS rfl (MV rfl) ?_
 refine eS rfl (EX rfl) ?_
 refine eS rfl (EX rfl) ?_
 refine eS rfl (AG rfl) ?_
 refine d_fin rfl ?_
 refine t_cons rfl fun T11 hT11 => ?_
 refine AL rfl tz34 fun b12 => ?_
 refine r_nil (hT11 _ _ (fun w hs => St.sel [1, 2, 3, 4, 5] rfl rfl hs) ?_)
 refine t_cons rfl fun T13 hT13 => ?_
 refine SW0 rfl ts34 rfl ?_
 refine r_nil (hT13 _ _ (fun w hs => St.sel [1, 2, 3, 4, 5] rfl rfl hs) ?_)
 refine t_fin rfl ?_
 refine KK hK10 ?_
 refine WS fun _ hK14 => ?_
 refine rS (FA 0 rfl fo34_0 rfl) ?_
 refine rS (L1 (Value.int .i64 ((apartV l.Track y.Spot x.Spot).Lo)) 0 rfl tk3 rfl rfl) ?_
 refine rS (AG rfl) ?_
 refine RK hK14 ?_
 refine w_ret ?_
 refine Q1 hQ rfl rfl rfl ?_
 first | (refine congrArg (Value.int .i64) ?_; rw [show n.toNat = 0 by omega]; rw [wayF_zero hy, (at_in htr (hbk _ (List.mem_of_getElem? hy)).1).2]) | (refine congrArg (Value.int .i64) ?_; rw [wayF_pos (by omega) hx (by rw [show n.toNat - 1 = (n - 1).toNat by omega]; exact hy), (apart_in htr ⟨(hbk _ (List.mem_of_getElem? hy)).1, (hbk _ (List.mem_of_getElem? hx)).1⟩).2])

set_option maxRecDepth 100000 in
set_option maxHeartbeats 400000 in
theorem rleast_c (l : LineM) (kA : Option Addr) (kC : Nat) (az : List RA) (cA : Option Addr) (cC : Nat) (bA : Option Addr) (bC : Nat) (n : Int) (hin : LineIn l az) (htr : trackOk l.Track = true) (hok : LineOk l) (hn : 0 ≤ n ∧ n < (l.Beams.length : Int)) :
    FnV Try.prog 53 [(Value.agg (LineV.cells (LineV.mk (TrackV.mk (Slc.mk kA l.Track.length kC)) l.Fast (Slc.mk cA l.Clocks.length cC) (Slc.mk bA l.Beams.length bC) l.Finish l.Fakes l.Misses)).toArray), (Value.int .i64 n)] [(rd kA l.Track.length 9 (l.Track.map StretchV.cells)), (rd cA l.Clocks.length 2 (List.zipWith ClockM.cells l.Clocks az)), (bun (nest ClockM.rds l.Clocks az)), (rd bA l.Beams.length 4 (l.Beams.map BeamV.cells))] (Value.int .i64 (leastF l n.toNat)) := by
 have htk := hin.trk
 have hck := hin.cks
 have has := hin.as_
 have hbm := hin.bms
 have hhd := hok.head
 unfold HeadOk at hhd
 have hwb := way_b htr hok.beam n.toNat
 have hwy := hok.way n.toNat (by omega)
 refine fnV_of go53 Try.func53 rfl rfl fun w0 Q hQ hN => ?_
 change WJ _ _ _ _ [(0, (Value.agg (LineV.cells (LineV.mk (TrackV.mk (Slc.mk kA l.Track.length kC)) l.Fast (Slc.mk cA l.Clocks.length cC) (Slc.mk bA l.Beams.length bC) l.Finish l.Fakes l.Misses)).toArray)), (1, (Value.int .i64 n))] [(rd kA l.Track.length 9 (l.Track.map StretchV.cells)).ro, (rd cA l.Clocks.length 2 (List.zipWith ClockM.cells l.Clocks az)).ro, (bun (nest ClockM.rds l.Clocks az)).ro, (rd bA l.Beams.length 4 (l.Beams.map BeamV.cells)).ro]
 refine WS fun _ hK1 => ?_
 refine BXA rfl fun b2 => ?_
 refine rS (AG rfl) ?_
 refine RK hK1 ?_
 refine w_seq fun _ hK3 => ?_
 refine w_draw mixed 12 (by kernel_rfl) ?_
 refine dS (LW 0 rfl tk28 rfl rfl) ?_
 refine dS (MV rfl) ?_
 refine dS (CL (rway_c l kA kC az cA cC bA bC n hin htr (by exact hok.beam) hn) (ha_at 1 rfl rfl <| ha_at 2 rfl rfl <| ha_at 3 rfl rfl <| ha_at 4 rfl rfl <| ha_nil) rfl) ?_
 refine dS (BI rfl (b_mul ⟨by omega, by omega⟩)) ?_
 refine dS (FA 1 rfl fo28_1 rfl) ?_
 refine dS (L1 (Value.int .i64 l.Fast) 0 rfl tk3 rfl rfl) ?_
 refine dS (BI rfl (b_add ⟨by omega, by omega⟩)) ?_
 refine dS (BI rfl (b_sub ⟨by omega, by omega⟩)) ?_
 refine dS (FA 1 rfl fo28_1 rfl) ?_
 refine dS (L1 (Value.int .i64 l.Fast) 0 rfl tk3 rfl rfl) ?_
 refine dS (BI rfl (b_quo (by omega) (by omega) (by omega))) ?_
 refine dS (AG rfl) ?_
 refine d_end ?_
 refine RK hK3 ?_
 refine w_ret ?_
 refine Q1 hQ rfl rfl rfl ?_
 exact congrArg (Value.int .i64) (by unfold leastF upD; rw [Int.mul_comm])

set_option maxRecDepth 100000 in
set_option maxHeartbeats 400000 in
theorem rline_c (l : LineM) (kA : Option Addr) (kC : Nat) (az : List RA) (cA : Option Addr) (cC : Nat) (bA : Option Addr) (bC : Nat) (hin : LineIn l az) (htr : trackOk l.Track = true) :
    FnV Try.prog 57 [(Value.agg (LineV.cells (LineV.mk (TrackV.mk (Slc.mk kA l.Track.length kC)) l.Fast (Slc.mk cA l.Clocks.length cC) (Slc.mk bA l.Beams.length bC) l.Finish l.Fakes l.Misses)).toArray)] [(rd kA l.Track.length 9 (l.Track.map StretchV.cells)), (rd cA l.Clocks.length 2 (List.zipWith ClockM.cells l.Clocks az)), (bun (nest ClockM.rds l.Clocks az)), (rd bA l.Beams.length 4 (l.Beams.map BeamV.cells))] (Value.bool (decide (LineOk l))) := by
 have htk := hin.trk
 have hck := hin.cks
 have has := hin.as_
 have hbm := hin.bms
 have hsd := hin.side
 have hst := trackOk_all htr
 have hl12 := trackOk_le htr
 refine fnV_of go57 Try.func57 rfl rfl fun w0 Q hQ hN => ?_
 change WJ _ _ _ _ [(0, (Value.agg (LineV.cells (LineV.mk (TrackV.mk (Slc.mk kA l.Track.length kC)) l.Fast (Slc.mk cA l.Clocks.length cC) (Slc.mk bA l.Beams.length bC) l.Finish l.Fakes l.Misses)).toArray))] [(rd kA l.Track.length 9 (l.Track.map StretchV.cells)).ro, (rd cA l.Clocks.length 2 (List.zipWith ClockM.cells l.Clocks az)).ro, (bun (nest ClockM.rds l.Clocks az)).ro, (rd bA l.Beams.length 4 (l.Beams.map BeamV.cells)).ro]
 refine WS fun _ hK1 => ?_
 refine BXA rfl fun b2 => ?_
 refine rS (AG rfl) ?_
 refine RK hK1 ?_
 refine w_seq fun _ hK3 => ?_
 refine WS fun _ hK4 => ?_
 refine rS (FA 1 rfl fo28_1 rfl) ?_
 refine rS (L1 (Value.int .i64 l.Fast) 0 rfl tk3 rfl rfl) ?_
 refine rS (CL (within_5 l.Fast 1 5000) (ha_nil) rfl) ?_
 refine rS (NT rfl) ?_
 refine rS (MV rfl) ?_
 refine r_bool (t := 10) rfl (fun h10 => ?_) (fun h10 => ?_)
 · replace h10 := XT h10
   refine rS (OX rfl) ?_
   refine rS (OX rfl) ?_
   refine rS (OX rfl) ?_
   refine rS (OX rfl) ?_
   refine rS (OX rfl) ?_
   refine rS (PK rfl) ?_
   refine rS (MV rfl) ?_
   refine rS (OX rfl) ?_
   refine rS (OX rfl) ?_
   refine rS (OX rfl) ?_
   refine rS (OX rfl) ?_
   refine rS (OX rfl) ?_
   refine rS (PK rfl) ?_
   refine rS (MV rfl) ?_
   refine rS (OX rfl) ?_
   refine rS (OX rfl) ?_
   refine rS (OX rfl) ?_
   refine rS (OX rfl) ?_
   refine rS (OX rfl) ?_
   refine rS (OX rfl) ?_
   refine rS (OX rfl) ?_
   refine rS (OX rfl) ?_
   refine rS (PK rfl) ?_
   refine rS (MV rfl) ?_
   refine rS (OX rfl) ?_
   refine rS (OX rfl) ?_
   refine rS (OX rfl) ?_
   refine rS (OX rfl) ?_
   refine rS (PK rfl) ?_
   refine rS (MV rfl) ?_
   refine rS (OX rfl) ?_
   refine rS (OX rfl) ?_
   refine rS (OX rfl) ?_
   refine rS (OX rfl) ?_
   refine rS (PK rfl) ?_
   refine RK hK4 ?_
   refine w_if_true rfl ?_
   refine WS fun _ hK5 => ?_
   refine rS (AG rfl) ?_
   refine RK hK5 ?_
   refine w_ret ?_
   refine Q1 hQ rfl rfl rfl ?_
   first | exact congrArg Value.bool (decide_eq_false fun h => by have q := h.head; unfold HeadOk at q; omega).symm | exact congrArg Value.bool (decide_eq_false fun h => h59 (h.clock _ (List.mem_of_getElem? hx))).symm | exact congrArg Value.bool (decide_eq_false fun h => by have q := h.beam _ (List.mem_of_getElem? hy); have q2 := q.2; first | exact h77 q.1 | omega).symm | exact congrArg Value.bool (decide_eq_false fun h => by have q := h.way n (by omega); simp only [Int.toNat_natCast] at h101; omega).symm | exact congrArg Value.bool (decide_eq_true (line_head (by unfold HeadOk; omega) (upto_mem (by omega) hl4_1) (upto_mem (by omega) hl9_1) (fun j hj => hl14_1 j (by omega)))).symm
 replace h10 := XF h10
 refine rS (FA 2 rfl fo28_2 rfl) ?_
 refine rS (L1 (Value.slice cA l.Clocks.length cC) 0 rfl tk25 rfl rfl) ?_
 refine rS (LN rfl ut25) ?_
 refine rS (CL (within_5 ((l.Clocks.length : Nat) : Int) 1 4) (ha_nil) rfl) ?_
 refine rS (NT rfl) ?_
 refine rS (PK rfl) ?_
 refine rS (MV rfl) ?_
 refine r_bool (t := 17) rfl (fun h17 => ?_) (fun h17 => ?_)
 · replace h17 := XT h17
   refine rS (OX rfl) ?_
   refine rS (OX rfl) ?_
   refine rS (OX rfl) ?_
   refine rS (OX rfl) ?_
   refine rS (OX rfl) ?_
   refine rS (PK rfl) ?_
   refine rS (MV rfl) ?_
   refine rS (OX rfl) ?_
   refine rS (OX rfl) ?_
   refine rS (OX rfl) ?_
   refine rS (OX rfl) ?_
   refine rS (OX rfl) ?_
   refine rS (OX rfl) ?_
   refine rS (OX rfl) ?_
   refine rS (OX rfl) ?_
   refine rS (PK rfl) ?_
   refine rS (MV rfl) ?_
   refine rS (OX rfl) ?_
   refine rS (OX rfl) ?_
   refine rS (OX rfl) ?_
   refine rS (OX rfl) ?_
   refine rS (PK rfl) ?_
   refine rS (MV rfl) ?_
   refine rS (OX rfl) ?_
   refine rS (OX rfl) ?_
   refine rS (OX rfl) ?_
   refine rS (OX rfl) ?_
   refine rS (PK rfl) ?_
   refine RK hK4 ?_
   refine w_if_true rfl ?_
   refine WS fun _ hK6 => ?_
   refine rS (AG rfl) ?_
   refine RK hK6 ?_
   refine w_ret ?_
   refine Q1 hQ rfl rfl rfl ?_
   first | exact congrArg Value.bool (decide_eq_false fun h => by have q := h.head; unfold HeadOk at q; omega).symm | exact congrArg Value.bool (decide_eq_false fun h => h59 (h.clock _ (List.mem_of_getElem? hx))).symm | exact congrArg Value.bool (decide_eq_false fun h => by have q := h.beam _ (List.mem_of_getElem? hy); have q2 := q.2; first | exact h77 q.1 | omega).symm | exact congrArg Value.bool (decide_eq_false fun h => by have q := h.way n (by omega); simp only [Int.toNat_natCast] at h101; omega).symm | exact congrArg Value.bool (decide_eq_true (line_head (by unfold HeadOk; omega) (upto_mem (by omega) hl4_1) (upto_mem (by omega) hl9_1) (fun j hj => hl14_1 j (by omega)))).symm
 replace h17 := XF h17
 refine rS (FA 3 rfl fo28_3 rfl) ?_
 refine rS (L1 (Value.slice bA l.Beams.length bC) 0 rfl tk26 rfl rfl) ?_
 refine rS (LN rfl ut26) ?_
 refine rS (CL (within_5 ((l.Beams.length : Nat) : Int) 1 6) (ha_nil) rfl) ?_
 refine rS (NT rfl) ?_
 refine rS (PK rfl) ?_
 refine rS (MV rfl) ?_
 refine r_bool (t := 24) rfl (fun h24 => ?_) (fun h24 => ?_)
 · replace h24 := XT h24
   refine rS (OX rfl) ?_
   refine rS (OX rfl) ?_
   refine rS (OX rfl) ?_
   refine rS (OX rfl) ?_
   refine rS (OX rfl) ?_
   refine rS (OX rfl) ?_
   refine rS (OX rfl) ?_
   refine rS (OX rfl) ?_
   refine rS (PK rfl) ?_
   refine rS (MV rfl) ?_
   refine rS (OX rfl) ?_
   refine rS (OX rfl) ?_
   refine rS (OX rfl) ?_
   refine rS (OX rfl) ?_
   refine rS (PK rfl) ?_
   refine rS (MV rfl) ?_
   refine rS (OX rfl) ?_
   refine rS (OX rfl) ?_
   refine rS (OX rfl) ?_
   refine rS (OX rfl) ?_
   refine rS (PK rfl) ?_
   refine RK hK4 ?_
   refine w_if_true rfl ?_
   refine WS fun _ hK7 => ?_
   refine rS (AG rfl) ?_
   refine RK hK7 ?_
   refine w_ret ?_
   refine Q1 hQ rfl rfl rfl ?_
   first | exact congrArg Value.bool (decide_eq_false fun h => by have q := h.head; unfold HeadOk at q; omega).symm | exact congrArg Value.bool (decide_eq_false fun h => h59 (h.clock _ (List.mem_of_getElem? hx))).symm | exact congrArg Value.bool (decide_eq_false fun h => by have q := h.beam _ (List.mem_of_getElem? hy); have q2 := q.2; first | exact h77 q.1 | omega).symm | exact congrArg Value.bool (decide_eq_false fun h => by have q := h.way n (by omega); simp only [Int.toNat_natCast] at h101; omega).symm | exact congrArg Value.bool (decide_eq_true (line_head (by unfold HeadOk; omega) (upto_mem (by omega) hl4_1) (upto_mem (by omega) hl9_1) (fun j hj => hl14_1 j (by omega)))).symm
 replace h24 := XF h24
 refine rS (FA 4 rfl fo28_4 rfl) ?_
 refine rS (L1 (Value.int .i64 l.Finish) 0 rfl tk3 rfl rfl) ?_
 refine rS (FA 3 rfl fo28_3 rfl) ?_
 refine rS (L1 (Value.slice bA l.Beams.length bC) 0 rfl tk26 rfl rfl) ?_
 refine rS (LN rfl ut26) ?_
 refine rS (BI rfl (b_sub ⟨by omega, by omega⟩)) ?_
 refine rS (CL (within_5 l.Finish 0 (((l.Beams.length : Nat) : Int) - 1)) (ha_nil) rfl) ?_
 refine rS (NT rfl) ?_
 refine rS (PK rfl) ?_
 refine rS (MV rfl) ?_
 refine r_bool (t := 34) rfl (fun h34 => ?_) (fun h34 => ?_)
 · replace h34 := XT h34
   refine rS (OX rfl) ?_
   refine rS (OX rfl) ?_
   refine rS (OX rfl) ?_
   refine rS (OX rfl) ?_
   refine rS (PK rfl) ?_
   refine rS (MV rfl) ?_
   refine rS (OX rfl) ?_
   refine rS (OX rfl) ?_
   refine rS (OX rfl) ?_
   refine rS (OX rfl) ?_
   refine rS (PK rfl) ?_
   refine RK hK4 ?_
   refine w_if_true rfl ?_
   refine WS fun _ hK8 => ?_
   refine rS (AG rfl) ?_
   refine RK hK8 ?_
   refine w_ret ?_
   refine Q1 hQ rfl rfl rfl ?_
   first | exact congrArg Value.bool (decide_eq_false fun h => by have q := h.head; unfold HeadOk at q; omega).symm | exact congrArg Value.bool (decide_eq_false fun h => h59 (h.clock _ (List.mem_of_getElem? hx))).symm | exact congrArg Value.bool (decide_eq_false fun h => by have q := h.beam _ (List.mem_of_getElem? hy); have q2 := q.2; first | exact h77 q.1 | omega).symm | exact congrArg Value.bool (decide_eq_false fun h => by have q := h.way n (by omega); simp only [Int.toNat_natCast] at h101; omega).symm | exact congrArg Value.bool (decide_eq_true (line_head (by unfold HeadOk; omega) (upto_mem (by omega) hl4_1) (upto_mem (by omega) hl9_1) (fun j hj => hl14_1 j (by omega)))).symm
 replace h34 := XF h34
 refine rS (FA 5 rfl fo28_5 rfl) ?_
 refine rS (L1 (Value.int .i64 l.Fakes) 0 rfl tk3 rfl rfl) ?_
 refine rS (CL (within_5 l.Fakes 0 3) (ha_nil) rfl) ?_
 refine rS (NT rfl) ?_
 refine rS (PK rfl) ?_
 refine rS (MV rfl) ?_
 refine r_bool (t := 40) rfl (fun h40 => ?_) (fun h40 => ?_)
 · replace h40 := XT h40
   refine rS (OX rfl) ?_
   refine rS (OX rfl) ?_
   refine rS (OX rfl) ?_
   refine rS (OX rfl) ?_
   refine rS (PK rfl) ?_
   refine RK hK4 ?_
   refine w_if_true rfl ?_
   refine WS fun _ hK9 => ?_
   refine rS (AG rfl) ?_
   refine RK hK9 ?_
   refine w_ret ?_
   refine Q1 hQ rfl rfl rfl ?_
   first | exact congrArg Value.bool (decide_eq_false fun h => by have q := h.head; unfold HeadOk at q; omega).symm | exact congrArg Value.bool (decide_eq_false fun h => h59 (h.clock _ (List.mem_of_getElem? hx))).symm | exact congrArg Value.bool (decide_eq_false fun h => by have q := h.beam _ (List.mem_of_getElem? hy); have q2 := q.2; first | exact h77 q.1 | omega).symm | exact congrArg Value.bool (decide_eq_false fun h => by have q := h.way n (by omega); simp only [Int.toNat_natCast] at h101; omega).symm | exact congrArg Value.bool (decide_eq_true (line_head (by unfold HeadOk; omega) (upto_mem (by omega) hl4_1) (upto_mem (by omega) hl9_1) (fun j hj => hl14_1 j (by omega)))).symm
 replace h40 := XF h40
 refine rS (FA 6 rfl fo28_6 rfl) ?_
 refine rS (L1 (Value.int .i64 l.Misses) 0 rfl tk3 rfl rfl) ?_
 refine rS (CL (within_5 l.Misses 0 3) (ha_nil) rfl) ?_
 refine rS (NT rfl) ?_
 refine rS (PK rfl) ?_
 refine RK hK4 ?_
 refine w_if rfl (fun h45 => ?_) (fun h45 => ?_)
 · replace h45 := XT h45
   refine WS fun _ hK10 => ?_
   refine rS (AG rfl) ?_
   refine RK hK10 ?_
   refine w_ret ?_
   refine Q1 hQ rfl rfl rfl ?_
   first | exact congrArg Value.bool (decide_eq_false fun h => by have q := h.head; unfold HeadOk at q; omega).symm | exact congrArg Value.bool (decide_eq_false fun h => h59 (h.clock _ (List.mem_of_getElem? hx))).symm | exact congrArg Value.bool (decide_eq_false fun h => by have q := h.beam _ (List.mem_of_getElem? hy); have q2 := q.2; first | exact h77 q.1 | omega).symm | exact congrArg Value.bool (decide_eq_false fun h => by have q := h.way n (by omega); simp only [Int.toNat_natCast] at h101; omega).symm | exact congrArg Value.bool (decide_eq_true (line_head (by unfold HeadOk; omega) (upto_mem (by omega) hl4_1) (upto_mem (by omega) hl9_1) (fun j hj => hl14_1 j (by omega)))).symm
 replace h45 := XF h45
 refine WK hK3 ?_
 refine w_seq fun _ hK11 => ?_
 refine WS fun _ hK12 => ?_
 refine rS (AG rfl) ?_
 refine RK hK12 ?_
 refine w_block ?_
 have hinit : (0 ≤ l.Clocks.length) ∧ (∀ (j : Nat) y, j < 0 → l.Clocks[j]? = some y → ClockOk y) := by exact ⟨Nat.zero_le _, fun j y hj => absurd hj (Nat.not_lt_zero _)⟩
 refine w_loop (ι := { z : Nat // (z ≤ l.Clocks.length) ∧ (∀ (j : Nat) y, j < z → l.Clocks[j]? = some y → ClockOk y) }) (fun z => [(1, (Value.pointer (some ⟨b2, 0, none⟩))), (3, (Value.int .i64 ((z.1 : Nat) : Int)))]) (fun z => [(blk b2 28 (LineV.cells (LineV.mk (TrackV.mk (Slc.mk kA l.Track.length kC)) l.Fast (Slc.mk cA l.Clocks.length cC) (Slc.mk bA l.Beams.length bC) l.Finish l.Fakes l.Misses))), (rd kA l.Track.length 9 (l.Track.map StretchV.cells)).ro, (rd cA l.Clocks.length 2 (List.zipWith ClockM.cells l.Clocks az)).ro, (bun (nest ClockM.rds l.Clocks az)).ro, (rd bA l.Beams.length 4 (l.Beams.map BeamV.cells)).ro]) (fun z => l.Clocks.length - z.1) ⟨0, hinit⟩ (Sub.cons rfl <| Sub.cons rfl <| Sub.nil _) (fun w hs => St.sel [0, 1, 2, 3, 4] rfl rfl hs) ?_
 clear hinit
 rintro ⟨i, ⟨hl4_0, hl4_1⟩⟩ J13 hJ13
 change WJ _ _ _ _ [(1, (Value.pointer (some ⟨b2, 0, none⟩))), (3, (Value.int .i64 ((i : Nat) : Int)))] [(blk b2 28 (LineV.cells (LineV.mk (TrackV.mk (Slc.mk kA l.Track.length kC)) l.Fast (Slc.mk cA l.Clocks.length cC) (Slc.mk bA l.Beams.length bC) l.Finish l.Fakes l.Misses))), (rd kA l.Track.length 9 (l.Track.map StretchV.cells)).ro, (rd cA l.Clocks.length 2 (List.zipWith ClockM.cells l.Clocks az)).ro, (bun (nest ClockM.rds l.Clocks az)).ro, (rd bA l.Beams.length 4 (l.Beams.map BeamV.cells)).ro]
 refine w_seq fun _ hK14 => ?_
 refine WS fun _ hK15 => ?_
 refine rS (MV rfl) ?_
 refine rS (FA 2 rfl fo28_2 rfl) ?_
 refine rS (L1 (Value.slice cA l.Clocks.length cC) 0 rfl tk25 rfl rfl) ?_
 refine rS (LN rfl ut25) ?_
 refine rS (BI rfl b_lss) ?_
 refine RK hK15 ?_
 refine w_if rfl (fun h50 => ?_) (fun h50 => ?_)
 · replace h50 := DT h50
   refine WK hK14 ?_
   refine w_seq fun _ hK16 => ?_
   refine w_block ?_
   refine WS fun _ hK17 => ?_
   refine rS (FA 2 rfl fo28_2 rfl) ?_
   refine rS (L1 (Value.slice cA l.Clocks.length cC) 0 rfl tk25 rfl rfl) ?_
   refine rS (MV rfl) ?_
   obtain ⟨x, hx⟩ : ∃ y_, l.Clocks[i]? = some y_ := ⟨l.Clocks[i]'(by omega), List.getElem?_eq_getElem _⟩
   obtain ⟨xa, hxa⟩ : ∃ y_, az[i]? = some y_ := ⟨az[i]'(by omega), List.getElem?_eq_getElem _⟩
   have hxm : (List.zipWith ClockM.cells l.Clocks az)[i]? = some (ClockM.cells x xa) := zip_get hx hxa
   refine rS (IA i rfl (has_at 2 rfl) te25 (by decide) (by omega) (by omega)) ?_
   refine rS (LEN i 0 (ClockV.cells (ClockV.mk x.Drift (Slc.mk xa.1 x.Syncs.length xa.2))) rfl tk64 (has_at 2 rfl) hxm rfl (by decide) rfl rfl) ?_
   have hsy := (hin.syn _ _ _ hx hxa).2
   refine rS (CL (rclock_c x xa.1 xa.2 (by first | assumption | omega | (simp; done) | (simp; omega))) (ha_cons (show Has _ (rd xa.1 x.Syncs.length 3 (x.Syncs.map SyncV.cells)).holds from (has_inr 3 rfl (mem_nest hx hxa (by simp [ClockM.rds])))) <| ha_nil) rfl) ?_
   refine rS (NT rfl) ?_
   refine RK hK17 ?_
   refine w_if rfl (fun h59 => ?_) (fun h59 => ?_)
   rotate_left 1
   · replace h59 := XF h59
     refine w_skip ?_
     refine k_block ?_
     refine KK hK16 ?_
     refine w_region ?_
     refine rS (MV rfl) ?_
     refine rS (BI rfl (b_add ⟨by omega, by omega⟩)) ?_
     refine rS (AG rfl) ?_
     refine r_nil ?_
     have hb19 : (Value.int .i64 (((i + 1) : Nat) : Int)) = (Value.int .i64 (((i : Nat) : Int) + 1)) := by exact congrArg (Value.int .i64) (by omega)
     refine k_then (hJ13 ⟨(i + 1), ⟨by omega, upto_succ (P := fun _ y => ClockOk y) hl4_1 hx h59⟩⟩ _ _ _ rfl (by first | omega | (simp; omega)) (Sub.cons rfl <| sub_val rfl hb19 <| Sub.nil _) (fun w hs => St.sel [0, 1, 2, 3, 4] rfl rfl hs))
   replace h59 := XT h59
   refine WS fun _ hK18 => ?_
   refine rS (AG rfl) ?_
   refine RK hK18 ?_
   refine w_ret ?_
   refine Q1 hQ rfl rfl rfl ?_
   first | exact congrArg Value.bool (decide_eq_false fun h => by have q := h.head; unfold HeadOk at q; omega).symm | exact congrArg Value.bool (decide_eq_false fun h => h59 (h.clock _ (List.mem_of_getElem? hx))).symm | exact congrArg Value.bool (decide_eq_false fun h => by have q := h.beam _ (List.mem_of_getElem? hy); have q2 := q.2; first | exact h77 q.1 | omega).symm | exact congrArg Value.bool (decide_eq_false fun h => by have q := h.way n (by omega); simp only [Int.toNat_natCast] at h101; omega).symm | exact congrArg Value.bool (decide_eq_true (line_head (by unfold HeadOk; omega) (upto_mem (by omega) hl4_1) (upto_mem (by omega) hl9_1) (fun j hj => hl14_1 j (by omega)))).symm
 replace h50 := DF h50
 refine w_exit ?_
 refine k_exit_then ?_
 refine k_exit_then ?_
 refine k_exit_same ?_
 refine KK hK11 ?_
 refine w_seq fun _ hK20 => ?_
 refine WS fun _ hK21 => ?_
 refine rS (AG rfl) ?_
 refine RK hK21 ?_
 refine w_block ?_
 have hinit : (0 ≤ l.Beams.length) ∧ (∀ (j : Nat) y, j < 0 → l.Beams[j]? = some y → BeamOk l y) := by exact ⟨Nat.zero_le _, fun j y hj => absurd hj (Nat.not_lt_zero _)⟩
 refine w_loop (ι := { z : Nat // (z ≤ l.Beams.length) ∧ (∀ (j : Nat) y, j < z → l.Beams[j]? = some y → BeamOk l y) }) (fun z => [(1, (Value.pointer (some ⟨b2, 0, none⟩))), (4, (Value.int .i64 ((z.1 : Nat) : Int)))]) (fun z => [(blk b2 28 (LineV.cells (LineV.mk (TrackV.mk (Slc.mk kA l.Track.length kC)) l.Fast (Slc.mk cA l.Clocks.length cC) (Slc.mk bA l.Beams.length bC) l.Finish l.Fakes l.Misses))), (rd kA l.Track.length 9 (l.Track.map StretchV.cells)).ro, (rd cA l.Clocks.length 2 (List.zipWith ClockM.cells l.Clocks az)).ro, (bun (nest ClockM.rds l.Clocks az)).ro, (rd bA l.Beams.length 4 (l.Beams.map BeamV.cells)).ro]) (fun z => l.Beams.length - z.1) ⟨0, hinit⟩ (Sub.cons rfl <| Sub.cons rfl <| Sub.nil _) (fun w hs => St.sel [0, 1, 2, 3, 4] rfl rfl hs) ?_
 clear hinit
 rintro ⟨m, ⟨hl9_0, hl9_1⟩⟩ J22 hJ22
 change WJ _ _ _ _ [(1, (Value.pointer (some ⟨b2, 0, none⟩))), (4, (Value.int .i64 ((m : Nat) : Int)))] [(blk b2 28 (LineV.cells (LineV.mk (TrackV.mk (Slc.mk kA l.Track.length kC)) l.Fast (Slc.mk cA l.Clocks.length cC) (Slc.mk bA l.Beams.length bC) l.Finish l.Fakes l.Misses))), (rd kA l.Track.length 9 (l.Track.map StretchV.cells)).ro, (rd cA l.Clocks.length 2 (List.zipWith ClockM.cells l.Clocks az)).ro, (bun (nest ClockM.rds l.Clocks az)).ro, (rd bA l.Beams.length 4 (l.Beams.map BeamV.cells)).ro]
 refine w_seq fun _ hK23 => ?_
 refine WS fun _ hK24 => ?_
 refine rS (MV rfl) ?_
 refine rS (FA 3 rfl fo28_3 rfl) ?_
 refine rS (L1 (Value.slice bA l.Beams.length bC) 0 rfl tk26 rfl rfl) ?_
 refine rS (LN rfl ut26) ?_
 refine rS (BI rfl b_lss) ?_
 refine RK hK24 ?_
 refine w_if rfl (fun h64 => ?_) (fun h64 => ?_)
 · replace h64 := DT h64
   refine WK hK23 ?_
   refine w_seq fun _ hK25 => ?_
   refine w_block ?_
   refine w_seq fun _ hK26 => ?_
   refine w_draw mixed 24 (by kernel_rfl) ?_
   refine dS (FA 0 rfl fo28_0 rfl) ?_
   refine dS (LP (TrackV.cells (TrackV.mk (Slc.mk kA l.Track.length kC))) 0 rfl tk24 rfl rfl rfl) ?_
   refine dS (FA 3 rfl fo28_3 rfl) ?_
   refine dS (L1 (Value.slice bA l.Beams.length bC) 0 rfl tk26 rfl rfl) ?_
   refine dS (MV rfl) ?_
   obtain ⟨y, hy⟩ : ∃ y_, l.Beams[m]? = some y_ := ⟨l.Beams[m]'(by omega), List.getElem?_eq_getElem _⟩
   have hym : (l.Beams.map BeamV.cells)[m]? = some (BeamV.cells y) := by rw [List.getElem?_map, hy]; rfl
   refine dS (IA m rfl (has_at 4 rfl) te26 (by decide) (by omega) (by omega)) ?_
   refine dS (FAR (m * 4) rfl (has_at 4 rfl) (Nat.mul_pos (by omega) (by decide)) fo55_0 rfl) ?_
   refine dS (LEN m 0 (SpotV.cells y.Spot) rfl tk53 (has_at 4 rfl) hym rfl (by decide) rfl rfl) ?_
   refine dS (CL (rspot_c l.Track kA kC y.Spot (by first | assumption | omega | (simp; done) | (simp; omega)) (by first | assumption | omega | (simp; done) | (simp; omega))) (ha_at 1 rfl rfl <| ha_nil) rfl) ?_
   refine dS (NT rfl) ?_
   refine dS (MV rfl) ?_
   refine d_bool (t := 77) rfl (fun h77 => ?_) (fun h77 => ?_)
   · replace h77 := XT h77
     refine dS (OX rfl) ?_
     refine dS (OX rfl) ?_
     refine dS (OX rfl) ?_
     refine dS (OX rfl) ?_
     refine dS (OX rfl) ?_
     refine dS (OX rfl) ?_
     refine dS (OX rfl) ?_
     refine dS (OX rfl) ?_
     refine dS (OX rfl) ?_
     refine dS (OX rfl) ?_
     refine dS (OX rfl) ?_
     refine dS (OX rfl) ?_
     refine dS (PK rfl) ?_
     refine d_end ?_
     refine RK hK26 ?_
     refine w_if_true rfl ?_
     refine WS fun _ hK27 => ?_
     refine rS (AG rfl) ?_
     refine RK hK27 ?_
     refine w_ret ?_
     refine Q1 hQ rfl rfl rfl ?_
     first | exact congrArg Value.bool (decide_eq_false fun h => by have q := h.head; unfold HeadOk at q; omega).symm | exact congrArg Value.bool (decide_eq_false fun h => h59 (h.clock _ (List.mem_of_getElem? hx))).symm | exact congrArg Value.bool (decide_eq_false fun h => by have q := h.beam _ (List.mem_of_getElem? hy); have q2 := q.2; first | exact h77 q.1 | omega).symm | exact congrArg Value.bool (decide_eq_false fun h => by have q := h.way n (by omega); simp only [Int.toNat_natCast] at h101; omega).symm | exact congrArg Value.bool (decide_eq_true (line_head (by unfold HeadOk; omega) (upto_mem (by omega) hl4_1) (upto_mem (by omega) hl9_1) (fun j hj => hl14_1 j (by omega)))).symm
   replace h77 := XF h77
   refine dS (FA 3 rfl fo28_3 rfl) ?_
   refine dS (L1 (Value.slice bA l.Beams.length bC) 0 rfl tk26 rfl rfl) ?_
   refine dS (MV rfl) ?_
   refine dS (IA m rfl (has_at 4 rfl) te26 (by decide) (by omega) (by omega)) ?_
   refine dS (FAR ((m * 4) + 3) rfl (has_at 4 rfl) (Nat.mul_pos (by omega) (by decide)) fo55_1 rfl) ?_
   refine dS (LE1 m 3 (Value.int .i64 y.Clock) rfl tk3 (has_at 4 rfl) hym rfl (by decide) rfl) ?_
   refine dS (FA 2 rfl fo28_2 rfl) ?_
   refine dS (L1 (Value.slice cA l.Clocks.length cC) 0 rfl tk25 rfl rfl) ?_
   refine dS (LN rfl ut25) ?_
   refine dS (BI rfl (b_sub ⟨by omega, by omega⟩)) ?_
   refine dS (CL (within_5 y.Clock 0 (((l.Clocks.length : Nat) : Int) - 1)) (ha_nil) rfl) ?_
   refine dS (NT rfl) ?_
   refine dS (PK rfl) ?_
   refine d_end ?_
   refine RK hK26 ?_
   refine w_if rfl (fun h90 => ?_) (fun h90 => ?_)
   rotate_left 1
   · replace h90 := XF h90
     refine w_skip ?_
     refine k_block ?_
     refine KK hK25 ?_
     refine w_region ?_
     refine rS (MV rfl) ?_
     refine rS (BI rfl (b_add ⟨by omega, by omega⟩)) ?_
     refine rS (AG rfl) ?_
     refine r_nil ?_
     have hb29 : (Value.int .i64 (((m + 1) : Nat) : Int)) = (Value.int .i64 (((m : Nat) : Int) + 1)) := by exact congrArg (Value.int .i64) (by omega)
     refine k_then (hJ22 ⟨(m + 1), ⟨by omega, upto_succ (P := fun _ y => BeamOk l y) hl9_1 hy ⟨h77, by omega, by omega⟩⟩⟩ _ _ _ rfl (by first | omega | (simp; omega)) (Sub.cons rfl <| sub_val rfl hb29 <| Sub.nil _) (fun w hs => St.sel [0, 1, 2, 3, 4] rfl rfl hs))
   replace h90 := XT h90
   refine WS fun _ hK28 => ?_
   refine rS (AG rfl) ?_
   refine RK hK28 ?_
   refine w_ret ?_
   refine Q1 hQ rfl rfl rfl ?_
   first | exact congrArg Value.bool (decide_eq_false fun h => by have q := h.head; unfold HeadOk at q; omega).symm | exact congrArg Value.bool (decide_eq_false fun h => h59 (h.clock _ (List.mem_of_getElem? hx))).symm | exact congrArg Value.bool (decide_eq_false fun h => by have q := h.beam _ (List.mem_of_getElem? hy); have q2 := q.2; first | exact h77 q.1 | omega).symm | exact congrArg Value.bool (decide_eq_false fun h => by have q := h.way n (by omega); simp only [Int.toNat_natCast] at h101; omega).symm | exact congrArg Value.bool (decide_eq_true (line_head (by unfold HeadOk; omega) (upto_mem (by omega) hl4_1) (upto_mem (by omega) hl9_1) (fun j hj => hl14_1 j (by omega)))).symm
 replace h64 := DF h64
 refine w_exit ?_
 refine k_exit_then ?_
 refine k_exit_then ?_
 refine k_exit_same ?_
 refine KK hK20 ?_
 refine w_seq fun _ hK30 => ?_
 refine WS fun _ hK31 => ?_
 refine rS (AG rfl) ?_
 refine RK hK31 ?_
 refine w_block ?_
 have hinit : (0 ≤ l.Beams.length) ∧ (∀ j, j < 0 → 1 ≤ wayF l j) := by exact ⟨Nat.zero_le _, fun j hj => absurd hj (Nat.not_lt_zero _)⟩
 refine w_loop (ι := { z : Nat // (z ≤ l.Beams.length) ∧ (∀ j, j < z → 1 ≤ wayF l j) }) (fun z => [(1, (Value.pointer (some ⟨b2, 0, none⟩))), (5, (Value.int .i64 ((z.1 : Nat) : Int)))]) (fun z => [(blk b2 28 (LineV.cells (LineV.mk (TrackV.mk (Slc.mk kA l.Track.length kC)) l.Fast (Slc.mk cA l.Clocks.length cC) (Slc.mk bA l.Beams.length bC) l.Finish l.Fakes l.Misses))), (rd kA l.Track.length 9 (l.Track.map StretchV.cells)).ro, (rd cA l.Clocks.length 2 (List.zipWith ClockM.cells l.Clocks az)).ro, (bun (nest ClockM.rds l.Clocks az)).ro, (rd bA l.Beams.length 4 (l.Beams.map BeamV.cells)).ro]) (fun z => l.Beams.length - z.1) ⟨0, hinit⟩ (Sub.cons rfl <| Sub.cons rfl <| Sub.nil _) (fun w hs => St.sel [0, 1, 2, 3, 4] rfl rfl hs) ?_
 clear hinit
 rintro ⟨n, ⟨hl14_0, hl14_1⟩⟩ J32 hJ32
 change WJ _ _ _ _ [(1, (Value.pointer (some ⟨b2, 0, none⟩))), (5, (Value.int .i64 ((n : Nat) : Int)))] [(blk b2 28 (LineV.cells (LineV.mk (TrackV.mk (Slc.mk kA l.Track.length kC)) l.Fast (Slc.mk cA l.Clocks.length cC) (Slc.mk bA l.Beams.length bC) l.Finish l.Fakes l.Misses))), (rd kA l.Track.length 9 (l.Track.map StretchV.cells)).ro, (rd cA l.Clocks.length 2 (List.zipWith ClockM.cells l.Clocks az)).ro, (bun (nest ClockM.rds l.Clocks az)).ro, (rd bA l.Beams.length 4 (l.Beams.map BeamV.cells)).ro]
 have hbk := upto_mem (P := BeamOk l) (by omega) hl9_1
 refine w_seq fun _ hK33 => ?_
 refine WS fun _ hK34 => ?_
 refine rS (MV rfl) ?_
 refine rS (FA 3 rfl fo28_3 rfl) ?_
 refine rS (L1 (Value.slice bA l.Beams.length bC) 0 rfl tk26 rfl rfl) ?_
 refine rS (LN rfl ut26) ?_
 refine rS (BI rfl b_lss) ?_
 refine RK hK34 ?_
 refine w_if rfl (fun h95 => ?_) (fun h95 => ?_)
 rotate_left 1
 · replace h95 := DF h95
   refine w_exit ?_
   refine k_exit_then ?_
   refine k_exit_then ?_
   refine k_exit_same ?_
   refine KK hK30 ?_
   refine WS fun _ hK39 => ?_
   refine rS (AG rfl) ?_
   refine RK hK39 ?_
   refine w_ret ?_
   refine Q1 hQ rfl rfl rfl ?_
   first | exact congrArg Value.bool (decide_eq_false fun h => by have q := h.head; unfold HeadOk at q; omega).symm | exact congrArg Value.bool (decide_eq_false fun h => h59 (h.clock _ (List.mem_of_getElem? hx))).symm | exact congrArg Value.bool (decide_eq_false fun h => by have q := h.beam _ (List.mem_of_getElem? hy); have q2 := q.2; first | exact h77 q.1 | omega).symm | exact congrArg Value.bool (decide_eq_false fun h => by have q := h.way n (by omega); simp only [Int.toNat_natCast] at h101; omega).symm | exact congrArg Value.bool (decide_eq_true (line_head (by unfold HeadOk; omega) (upto_mem (by omega) hl4_1) (upto_mem (by omega) hl9_1) (fun j hj => hl14_1 j (by omega)))).symm
 replace h95 := DT h95
 refine WK hK33 ?_
 refine w_seq fun _ hK35 => ?_
 refine w_block ?_
 refine WS fun _ hK36 => ?_
 refine rS (LW 0 rfl tk28 rfl rfl) ?_
 refine rS (MV rfl) ?_
 refine rS (CL (rway_c l kA kC az cA cC bA bC ((n : Nat) : Int) hin htr (by first | assumption | omega | (simp; done) | (simp; omega)) (by first | assumption | omega | (simp; done) | (simp; omega))) (ha_at 1 rfl rfl <| ha_at 2 rfl rfl <| ha_at 3 rfl rfl <| ha_at 4 rfl rfl <| ha_nil) rfl) ?_
 refine rS (BI rfl b_lss) ?_
 refine RK hK36 ?_
 refine w_if rfl (fun h101 => ?_) (fun h101 => ?_)
 rotate_left 1
 · replace h101 := DF h101
   refine w_skip ?_
   refine k_block ?_
   refine KK hK35 ?_
   refine w_region ?_
   refine rS (MV rfl) ?_
   refine rS (BI rfl (b_add ⟨by omega, by omega⟩)) ?_
   refine rS (AG rfl) ?_
   refine r_nil ?_
   have hb38 : (Value.int .i64 (((n + 1) : Nat) : Int)) = (Value.int .i64 (((n : Nat) : Int) + 1)) := by exact congrArg (Value.int .i64) (by omega)
   refine k_then (hJ32 ⟨(n + 1), ⟨by omega, fun j hj => by rcases Nat.lt_or_ge j n with q | q; exact hl14_1 j q; (obtain rfl : j = n := by omega); simp only [Int.toNat_natCast] at h101; omega⟩⟩ _ _ _ rfl (by first | omega | (simp; omega)) (Sub.cons rfl <| sub_val rfl hb38 <| Sub.nil _) (fun w hs => St.sel [0, 1, 2, 3, 4] rfl rfl hs))
 replace h101 := DT h101
 refine WS fun _ hK37 => ?_
 refine rS (AG rfl) ?_
 refine RK hK37 ?_
 refine w_ret ?_
 refine Q1 hQ rfl rfl rfl ?_
 first | exact congrArg Value.bool (decide_eq_false fun h => by have q := h.head; unfold HeadOk at q; omega).symm | exact congrArg Value.bool (decide_eq_false fun h => h59 (h.clock _ (List.mem_of_getElem? hx))).symm | exact congrArg Value.bool (decide_eq_false fun h => by have q := h.beam _ (List.mem_of_getElem? hy); have q2 := q.2; first | exact h77 q.1 | omega).symm | exact congrArg Value.bool (decide_eq_false fun h => by have q := h.way n (by omega); simp only [Int.toNat_natCast] at h101; omega).symm | exact congrArg Value.bool (decide_eq_true (line_head (by unfold HeadOk; omega) (upto_mem (by omega) hl4_1) (upto_mem (by omega) hl9_1) (fun j hj => hl14_1 j (by omega)))).symm

end Go.Proofs.Ytaehngpnlkokkaa
