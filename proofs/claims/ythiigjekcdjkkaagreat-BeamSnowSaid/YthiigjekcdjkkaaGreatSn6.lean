/-
  The statement beamSnow_said, part 6 of 6: B8, B9, R1, Z2, LineOpen, RideOpen, Snow0.
  Conditions: none.
-/
import Derived.Test.YthiigjekcdjkkaaGreatSn1
import Derived.Test.YthiigjekcdjkkaaGreatSn2
import Derived.Test.YthiigjekcdjkkaaGreatSn3
import Derived.Test.YthiigjekcdjkkaaGreatSn4
import Derived.Test.YthiigjekcdjkkaaGreatSn5
import Derived.Test.YthiigjekcdjkkaaGreatRows
import Derived.Test.YthiigjekcdjkkaaGreatProg
import Derived.KernelRfl
namespace Go.Proofs.YthiigjekcdjkkaaGreat
section
open Go.RowKit
set_option linter.unusedVariables false
set_option maxRecDepth 100000 in
set_option maxHeartbeats 400000 in
theorem lgreat_c (l : LineM) (kA : Option Addr) (kC : Nat) (az : List RA) (cA : Option Addr) (cC : Nat) (bA : Option Addr) (bC : Nat) (hraw : LineRaw l az) :
    FnV Tryz.prog 7 [(Value.agg (LineV.cells (LineV.mk (TrackV.mk (Slc.mk kA l.Track.length kC)) l.Fast (Slc.mk cA l.Clocks.length cC) (Slc.mk bA l.Beams.length bC) l.Finish l.Fakes l.Misses)).toArray)] [(rd kA l.Track.length 9 (l.Track.map StretchV.cells)), (rd cA l.Clocks.length 2 (List.zipWith ClockM.cells l.Clocks az)), (bun (nest ClockM.rds l.Clocks az)), (rd bA l.Beams.length 4 (l.Beams.map BeamV.cells))] (Value.bool (decide (GreatL l))) := by
 have htk := hraw.trk
 have hck := hraw.cks
 have has := hraw.as_
 have hbm := hraw.bms
 refine fnV_of go7 Tryz.func7 rfl rfl fun w0 Q hQ hN => ?_
 try dsimp only
 refine WS fun _ hK1 => BXA rfl fun b2 => rS (AG rfl) <| RK hK1 <| w_seq fun _ hK3 => WS fun _ hK4 => rS (FA 0 rfl fo28_0 rfl) <| rS (LP (TrackV.cells (TrackV.mk (Slc.mk kA l.Track.length kC))) 0 rfl tk24 rfl rfl rfl) <| rS (CL (great_c l.Track kA kC) (ha_at 1 rfl rfl <| ha_nil) rfl) <| rS (MV rfl) ?_
 refine r_bool (t := 7) rfl (fun h7 => ?_) (fun h7 => ?_)
 · replace h7 := DT h7
   refine rS (OX rfl) <| rS (OX rfl) <| rS (OX rfl) <| rS (OX rfl) <| rS (PK rfl) <| rS (MV rfl) <| rS (OX rfl) <| rS (OX rfl) <| rS (OX rfl) <| rS (OX rfl) ?_
   refine rS (PK rfl) <| RK hK4 <| w_if_true rfl <| WS fun _ hK5 => rS (AG rfl) <| RK hK5 <| w_ret <| Q1 hQ rfl rfl rfl ?_
   first | exact congrArg Value.bool (decide_eq_true (.inl (by omega))).symm | exact congrArg Value.bool (decide_eq_true (great_at hx h33)).symm | exact congrArg Value.bool (decide_eq_false (great_no (by omega) (by omega) hl0_1)).symm
 replace h7 := DF h7
 refine rS (FA 2 rfl fo28_2 rfl) <| rS (L1 (Value.slice cA l.Clocks.length cC) 0 rfl tk25 rfl rfl) <| rS (LN rfl ut25) <| rS (BI rfl b_gtr) <| rS (PK rfl) <| rS (MV rfl) ?_
 refine r_bool (t := 13) rfl (fun h13 => ?_) (fun h13 => ?_)
 · replace h13 := DT h13
   refine rS (OX rfl) <| rS (OX rfl) <| rS (OX rfl) <| rS (OX rfl) <| rS (PK rfl) <| RK hK4 <| w_if_true rfl <| WS fun _ hK6 => rS (AG rfl) <| RK hK6 ?_
   refine w_ret <| Q1 hQ rfl rfl rfl ?_
   first | exact congrArg Value.bool (decide_eq_true (.inl (by omega))).symm | exact congrArg Value.bool (decide_eq_true (great_at hx h33)).symm | exact congrArg Value.bool (decide_eq_false (great_no (by omega) (by omega) hl0_1)).symm
 replace h13 := DF h13
 refine rS (FA 3 rfl fo28_3 rfl) <| rS (L1 (Value.slice bA l.Beams.length bC) 0 rfl tk26 rfl rfl) <| rS (LN rfl ut26) <| rS (BI rfl b_gtr) <| rS (PK rfl) <| RK hK4 ?_
 refine w_if rfl (fun h18 => ?_) (fun h18 => ?_)
 · replace h18 := DT h18
   refine WS fun _ hK7 => rS (AG rfl) <| RK hK7 <| w_ret <| Q1 hQ rfl rfl rfl ?_
   first | exact congrArg Value.bool (decide_eq_true (.inl (by omega))).symm | exact congrArg Value.bool (decide_eq_true (great_at hx h33)).symm | exact congrArg Value.bool (decide_eq_false (great_no (by omega) (by omega) hl0_1)).symm
 replace h18 := DF h18
 refine WK hK3 <| w_seq fun _ hK8 => WS fun _ hK9 => rS (AG rfl) <| RK hK9 <| w_block ?_
 have hinit : (0 ≤ l.Clocks.length) ∧ (SyncsTo l 0) := by exact ⟨Nat.zero_le _, fun j c hj => absurd hj (Nat.not_lt_zero _)⟩
 refine w_loop (ι := { z : Nat // (z ≤ l.Clocks.length) ∧ (SyncsTo l z) }) (fun z => [(1, (Value.pointer (some ⟨b2, 0, none⟩))), (3, (Value.int .i64 ((z.1 : Nat) : Int)))]) (fun z => [(blk b2 28 (LineV.cells (LineV.mk (TrackV.mk (Slc.mk kA l.Track.length kC)) l.Fast (Slc.mk cA l.Clocks.length cC) (Slc.mk bA l.Beams.length bC) l.Finish l.Fakes l.Misses))), (rd kA l.Track.length 9 (l.Track.map StretchV.cells)).ro, (rd cA l.Clocks.length 2 (List.zipWith ClockM.cells l.Clocks az)).ro, (bun (nest ClockM.rds l.Clocks az)).ro, (rd bA l.Beams.length 4 (l.Beams.map BeamV.cells)).ro]) (fun z => l.Clocks.length - z.1) ⟨0, hinit⟩ (Sub.cons rfl <| Sub.cons rfl <| Sub.nil _) (fun w hs => St.sel [0, 1, 2, 3, 4] rfl rfl hs) ?_
 clear hinit
 rintro ⟨i, ⟨hl0_0, hl0_1⟩⟩ J10 hJ10
 try dsimp only
 refine w_seq fun _ hK11 => WS fun _ hK12 => rS (MV rfl) <| rS (FA 2 rfl fo28_2 rfl) <| rS (L1 (Value.slice cA l.Clocks.length cC) 0 rfl tk25 rfl rfl) <| rS (LN rfl ut25) <| rS (BI rfl b_lss) <| RK hK12 ?_
 refine w_if rfl (fun h13 => ?_) (fun h13 => ?_)
 rotate_left 1
 · replace h13 := DF h13
   refine w_exit <| k_exit_then <| k_exit_then <| k_exit_same <| KK hK8 <| WS fun _ hK18 => rS (AG rfl) <| RK hK18 <| w_ret <| Q1 hQ rfl rfl rfl ?_
   first | exact congrArg Value.bool (decide_eq_true (.inl (by omega))).symm | exact congrArg Value.bool (decide_eq_true (great_at hx h33)).symm | exact congrArg Value.bool (decide_eq_false (great_no (by omega) (by omega) hl0_1)).symm
 replace h13 := DT h13
 refine WK hK11 <| w_seq fun _ hK14 => w_block <| WS fun _ hK15 => rS (FA 2 rfl fo28_2 rfl) <| rS (L1 (Value.slice cA l.Clocks.length cC) 0 rfl tk25 rfl rfl) <| rS (MV rfl) ?_
 obtain ⟨x, hx⟩ : ∃ y_, l.Clocks[i]? = some y_ := ⟨l.Clocks[i]'(by omega), List.getElem?_eq_getElem _⟩
 obtain ⟨xa, hxa⟩ : ∃ y_, az[i]? = some y_ := ⟨az[i]'(by omega), List.getElem?_eq_getElem _⟩
 have hxm : (List.zipWith ClockM.cells l.Clocks az)[i]? = some (ClockM.cells x xa) := zip_get hx hxa
 refine rS (IA i rfl (has_at 2 rfl) te25 (by decide) (by omega) (by omega)) <| rS (FAR ((i * 2) + 1) rfl (has_at 2 rfl) (Nat.mul_pos (by omega) (by decide)) fo63_1 rfl) <| rS (LE1 i 1 (Value.slice xa.1 x.Syncs.length xa.2) rfl tk61 (has_at 2 rfl) hxm rfl (by decide) rfl) <| rS (LN rfl ut61) <| rS (BI rfl b_gtr) <| RK hK15 ?_
 refine w_if rfl (fun h33 => ?_) (fun h33 => ?_)
 · replace h33 := DT h33
   refine WS fun _ hK16 => rS (AG rfl) <| RK hK16 <| w_ret <| Q1 hQ rfl rfl rfl ?_
   first | exact congrArg Value.bool (decide_eq_true (.inl (by omega))).symm | exact congrArg Value.bool (decide_eq_true (great_at hx h33)).symm | exact congrArg Value.bool (decide_eq_false (great_no (by omega) (by omega) hl0_1)).symm
 replace h33 := DF h33
 refine w_skip <| k_block <| KK hK14 <| w_region <| rS (MV rfl) <| rS (BI rfl (b_add ⟨by omega, by omega⟩)) <| rS (AG rfl) <| r_nil ?_
 have hb17 : (Value.int .i64 (((i + 1) : Nat) : Int)) = (Value.int .i64 (((i : Nat) : Int) + 1)) := by exact congrArg (Value.int .i64) (by omega)
 refine k_then (hJ10 ⟨(i + 1), ⟨by omega, upto_succ hl0_1 hx (by omega)⟩⟩ _ _ _ rfl (by first | omega | (simp; omega)) (Sub.cons rfl <| sub_val rfl hb17 <| Sub.nil _) (fun w hs => St.sel [0, 1, 2, 3, 4] rfl rfl hs))
set_option maxRecDepth 100000 in
set_option maxHeartbeats 400000 in
theorem drifts_c (d : Int) (m : Int) (hd : 0 ≤ d ∧ d ≤ 1000) (hm : 0 ≤ m ∧ m ≤ 90000000) :
    FnV Tryz.prog 121 [(Value.int .i64 d), (Value.int .i64 m)] [] (Value.int .i64 (upD (d * m) 1000000)) := by
 have hdm := mulb (a := d) (b := m) (A := 1000) (B := 90000000) hd.1 hd.2 hm.1 hm.2
 refine fnV_of go121 Tryz.func121 rfl rfl fun w0 Q hQ hN => ?_
 try dsimp only
 refine WS fun _ hK1 => rS (AG rfl) <| RK hK1 <| WS fun _ hK2 => rS (MV rfl) <| rS (MV rfl) <| rS (BI rfl (b_mul ⟨by omega, by omega⟩)) <| rS (AG rfl) <| RK hK2 <| w_seq fun _ hK3 => ?_
 refine WS fun _ hK4 => rS (MV rfl) <| rS (BI rfl (b_rem (by omega) (by omega))) <| rS (BI rfl b_gtr) <| RK hK4 ?_
 refine w_if rfl (fun h5 => ?_) (fun h5 => ?_)
 rotate_left 1
 · replace h5 := DF h5
   refine WK hK3 <| WS fun _ hK7 => rS (MV rfl) <| rS (BI rfl (b_quo (by omega) (by omega) (by omega))) <| rS (AG rfl) <| RK hK7 <| w_ret <| Q1 hQ rfl rfl rfl ?_
   exact congrArg (Value.int .i64) (by unfold upD; omega)
 replace h5 := DT h5
 refine WS fun _ hK6 => rS (MV rfl) <| rS (BI rfl (b_quo (by omega) (by omega) (by omega))) <| rS (BI rfl (b_add ⟨by omega, by omega⟩)) <| rS (AG rfl) <| RK hK6 <| w_ret <| Q1 hQ rfl rfl rfl ?_
 exact congrArg (Value.int .i64) (by unfold upD; omega)
set_option maxRecDepth 100000 in
set_option maxHeartbeats 400000 in
theorem rclock_c (c : ClockM) (sA : Option Addr) (sC : Nat) (hlen : c.Syncs.length ≤ 1000000) :
    FnV Tryz.prog 90 [(Value.agg (ClockV.cells (ClockV.mk c.Drift (Slc.mk sA c.Syncs.length sC))).toArray)] [(rd sA c.Syncs.length 3 (c.Syncs.map SyncV.cells))] (Value.bool (decide (ClockOk c))) := by
 refine fnV_of go90 Tryz.func90 rfl rfl fun w0 Q hQ hN => ?_
 try dsimp only
 refine WS fun _ hK1 => BXA rfl fun b2 => rS (AG rfl) <| RK hK1 <| w_seq fun _ hK3 => WS fun _ hK4 => rS (FA 0 rfl fo63_0 rfl) <| rS (L1 (Value.int .i64 c.Drift) 0 rfl tk3 rfl rfl) <| rS (CL (within_5 c.Drift 0 1000) (ha_nil) rfl) <| rS (NT rfl) ?_
 refine rS (MV rfl) ?_
 refine r_bool (t := 14) rfl (fun h14 => ?_) (fun h14 => ?_)
 · replace h14 := XT h14
   refine rS (OX rfl) <| rS (OX rfl) <| rS (OX rfl) <| rS (OX rfl) <| rS (OX rfl) <| rS (PK rfl) <| RK hK4 <| w_if_true rfl <| WS fun _ hK5 => rS (AG rfl) ?_
   refine RK hK5 <| w_ret <| Q1 hQ rfl rfl rfl ?_
   first | exact congrArg Value.bool (decide_eq_false fun h => by have q1 := h.drift; have q2 := h.len; omega).symm | exact congrArg Value.bool (decide_eq_false fun h => by have q := h.sync i x hx; unfold SyncOk at q; first | (rw [prevAt_zero (by omega)] at q; omega) | (rw [prevAt_pos (by omega) hy] at q; omega) | omega).symm | exact congrArg Value.bool (decide_eq_false fun h => by have q := h.pair m k y x hy (by omega) hx; unfold PairOk at q; omega).symm | exact congrArg Value.bool (decide_eq_true (clock_ok (by omega) (by omega) (upto_all (by omega) hl4_1) (by omega) hl10_1)).symm
 replace h14 := XF h14
 refine rS (FA 1 rfl fo63_1 rfl) <| rS (L1 (Value.slice sA c.Syncs.length sC) 0 rfl tk61 rfl rfl) <| rS (LN rfl ut61) <| rS (CL (within_5 ((c.Syncs.length : Nat) : Int) 1 5) (ha_nil) rfl) <| rS (NT rfl) <| rS (PK rfl) <| RK hK4 ?_
 refine w_if rfl (fun h20 => ?_) (fun h20 => ?_)
 · replace h20 := XT h20
   refine WS fun _ hK6 => rS (AG rfl) <| RK hK6 <| w_ret <| Q1 hQ rfl rfl rfl ?_
   first | exact congrArg Value.bool (decide_eq_false fun h => by have q1 := h.drift; have q2 := h.len; omega).symm | exact congrArg Value.bool (decide_eq_false fun h => by have q := h.sync i x hx; unfold SyncOk at q; first | (rw [prevAt_zero (by omega)] at q; omega) | (rw [prevAt_pos (by omega) hy] at q; omega) | omega).symm | exact congrArg Value.bool (decide_eq_false fun h => by have q := h.pair m k y x hy (by omega) hx; unfold PairOk at q; omega).symm | exact congrArg Value.bool (decide_eq_true (clock_ok (by omega) (by omega) (upto_all (by omega) hl4_1) (by omega) hl10_1)).symm
 replace h20 := XF h20
 refine WK hK3 <| w_seq fun _ hK7 => WS fun _ hK8 => rS (AG rfl) <| RK hK8 <| w_block ?_
 have hinit : (0 ≤ c.Syncs.length) ∧ (∀ (j : Nat) y, j < 0 → c.Syncs[j]? = some y → SyncOk c j y) := by exact ⟨Nat.zero_le _, fun j y hj => absurd hj (Nat.not_lt_zero _)⟩
 refine w_loop (ι := { z : Nat // (z ≤ c.Syncs.length) ∧ (∀ (j : Nat) y, j < z → c.Syncs[j]? = some y → SyncOk c j y) }) (fun z => [(1, (Value.pointer (some ⟨b2, 0, none⟩))), (3, (Value.int .i64 ((z.1 : Nat) : Int)))]) (fun z => [(blk b2 63 (ClockV.cells (ClockV.mk c.Drift (Slc.mk sA c.Syncs.length sC)))), (rd sA c.Syncs.length 3 (c.Syncs.map SyncV.cells)).ro]) (fun z => c.Syncs.length - z.1) ⟨0, hinit⟩ (Sub.cons rfl <| Sub.cons rfl <| Sub.nil _) (fun w hs => St.sel [0, 1] rfl rfl hs) ?_
 clear hinit
 rintro ⟨i, ⟨hl4_0, hl4_1⟩⟩ J9 hJ9
 try dsimp only
 have hpv := prev_s hl4_0 hl4_1
 refine w_seq fun _ hK10 => WS fun _ hK11 => rS (MV rfl) <| rS (FA 1 rfl fo63_1 rfl) <| rS (L1 (Value.slice sA c.Syncs.length sC) 0 rfl tk61 rfl rfl) <| rS (LN rfl ut61) <| rS (BI rfl b_lss) <| RK hK11 ?_
 refine w_if rfl (fun h25 => ?_) (fun h25 => ?_)
 · replace h25 := DT h25
   refine WK hK10 <| w_seq fun _ hK12 => w_block <| WS fun _ hK13 => rS (FA 1 rfl fo63_1 rfl) <| rS (L1 (Value.slice sA c.Syncs.length sC) 0 rfl tk61 rfl rfl) <| rS (MV rfl) ?_
   obtain ⟨x, hx⟩ : ∃ y_, c.Syncs[i]? = some y_ := ⟨c.Syncs[i]'(by omega), List.getElem?_eq_getElem _⟩
   have hxm : (c.Syncs.map SyncV.cells)[i]? = some (SyncV.cells x) := by rw [List.getElem?_map, hx]; rfl
   refine rS (IA i rfl (has_at 1 rfl) te61 (by decide) (by omega) (by omega)) <| rS (LEN i 0 (SyncV.cells x) rfl tk65 (has_at 1 rfl) hxm rfl (by decide) rfl rfl) <| AL rfl tz65 fun b14 => SW0 rfl ts65 rfl <| RK hK13 <| w_seq fun _ hK15 => w_draw mixed 41 (by kernel_rfl) <| dS (FA 0 rfl fo65_0 rfl) <| dS (L1 (Value.int .i64 x.At) 0 rfl tk3 rfl rfl) <| dS (CL (within_5 x.At 0 86400000) (ha_nil) rfl) ?_
   refine dS (NT rfl) <| dS (MV rfl) ?_
   refine d_bool (t := 37) rfl (fun h37 => ?_) (fun h37 => ?_)
   · replace h37 := XT h37
     refine dS (OX rfl) <| dS (OX rfl) <| dS (OX rfl) <| dS (OX rfl) <| dS (OX rfl) <| dS (OX rfl) <| dS (OX rfl) <| dS (OX rfl) <| dS (OX rfl) <| dS (OX rfl) ?_
     refine dS (OX rfl) <| dS (OX rfl) <| dS (OX rfl) <| dS (OX rfl) <| dS (PK rfl) <| dS (MV rfl) <| dS (OX rfl) <| dS (OX rfl) <| dS (OX rfl) <| dS (OX rfl) ?_
     refine dS (PK rfl) <| dS (MV rfl) <| dS (OX rfl) <| dS (OX rfl) <| dS (OX rfl) <| dS (OX rfl) <| dS (OX rfl) <| dS (OX rfl) <| dS (OX rfl) <| dS (PK rfl) ?_
     refine dS (MV rfl) <| dS (OX rfl) <| dS (OX rfl) <| dS (OX rfl) <| dS (OX rfl) <| dS (PK rfl) <| d_end <| RK hK15 <| w_if_true rfl <| WS fun _ hK16 => ?_
     refine rS (AG rfl) <| RK hK16 <| w_ret <| Q1 hQ rfl rfl rfl ?_
     first | exact congrArg Value.bool (decide_eq_false fun h => by have q1 := h.drift; have q2 := h.len; omega).symm | exact congrArg Value.bool (decide_eq_false fun h => by have q := h.sync i x hx; unfold SyncOk at q; first | (rw [prevAt_zero (by omega)] at q; omega) | (rw [prevAt_pos (by omega) hy] at q; omega) | omega).symm | exact congrArg Value.bool (decide_eq_false fun h => by have q := h.pair m k y x hy (by omega) hx; unfold PairOk at q; omega).symm | exact congrArg Value.bool (decide_eq_true (clock_ok (by omega) (by omega) (upto_all (by omega) hl4_1) (by omega) hl10_1)).symm
   replace h37 := XF h37
   refine dS (MV rfl) <| dS (BI rfl b_gtr) <| dS (MV rfl) ?_
   refine d_bool (t := 40) rfl (fun h40 => ?_) (fun h40 => ?_)
   rotate_left 1
   · replace h40 := DF h40
     refine dS (OX rfl) <| dS (OX rfl) <| dS (OX rfl) <| dS (OX rfl) <| dS (OX rfl) <| dS (OX rfl) <| dS (OX rfl) <| dS (OX rfl) <| dS (OX rfl) <| dS (OX rfl) ?_
     refine dS (PK rfl) <| dS (PK rfl) <| dS (MV rfl) <| dS (FA 1 rfl fo65_1 rfl) <| dS (FA 1 rfl fo47_0 rfl) <| dS (L1 (Value.int .i64 x.Ahead.Lo) 0 rfl tk3 rfl rfl) <| dS (BI rfl b_lss) <| dS (PK rfl) <| dS (MV rfl) ?_
     refine d_bool (t := 59) rfl (fun h59 => ?_) (fun h59 => ?_)
     · replace h59 := DT h59
       refine dS (OX rfl) <| dS (OX rfl) <| dS (OX rfl) <| dS (OX rfl) <| dS (OX rfl) <| dS (OX rfl) <| dS (OX rfl) <| dS (PK rfl) <| dS (MV rfl) <| dS (OX rfl) ?_
       refine dS (OX rfl) <| dS (OX rfl) <| dS (OX rfl) <| dS (PK rfl) <| d_end <| RK hK15 <| w_if_true rfl <| WS fun _ hK22 => rS (AG rfl) <| RK hK22 ?_
       refine w_ret <| Q1 hQ rfl rfl rfl ?_
       first | exact congrArg Value.bool (decide_eq_false fun h => by have q1 := h.drift; have q2 := h.len; omega).symm | exact congrArg Value.bool (decide_eq_false fun h => by have q := h.sync i x hx; unfold SyncOk at q; first | (rw [prevAt_zero (by omega)] at q; omega) | (rw [prevAt_pos (by omega) hy] at q; omega) | omega).symm | exact congrArg Value.bool (decide_eq_false fun h => by have q := h.pair m k y x hy (by omega) hx; unfold PairOk at q; omega).symm | exact congrArg Value.bool (decide_eq_true (clock_ok (by omega) (by omega) (upto_all (by omega) hl4_1) (by omega) hl10_1)).symm
     replace h59 := DF h59
     refine dS (FA 1 rfl fo65_1 rfl) <| dS (FA 1 rfl fo47_0 rfl) <| dS (L1 (Value.int .i64 x.Ahead.Lo) 0 rfl tk3 rfl rfl) <| dS (FA 1 rfl fo65_1 rfl) <| dS (FA 2 rfl fo47_1 rfl) <| dS (L1 (Value.int .i64 x.Ahead.Hi) 0 rfl tk3 rfl rfl) <| dS (BI rfl b_gtr) <| dS (PK rfl) <| dS (MV rfl) ?_
     refine d_bool (t := 68) rfl (fun h68 => ?_) (fun h68 => ?_)
     · replace h68 := DT h68
       refine dS (OX rfl) <| dS (OX rfl) <| dS (OX rfl) <| dS (OX rfl) <| dS (PK rfl) <| d_end <| RK hK15 <| w_if_true rfl <| WS fun _ hK23 => rS (AG rfl) ?_
       refine RK hK23 <| w_ret <| Q1 hQ rfl rfl rfl ?_
       first | exact congrArg Value.bool (decide_eq_false fun h => by have q1 := h.drift; have q2 := h.len; omega).symm | exact congrArg Value.bool (decide_eq_false fun h => by have q := h.sync i x hx; unfold SyncOk at q; first | (rw [prevAt_zero (by omega)] at q; omega) | (rw [prevAt_pos (by omega) hy] at q; omega) | omega).symm | exact congrArg Value.bool (decide_eq_false fun h => by have q := h.pair m k y x hy (by omega) hx; unfold PairOk at q; omega).symm | exact congrArg Value.bool (decide_eq_true (clock_ok (by omega) (by omega) (upto_all (by omega) hl4_1) (by omega) hl10_1)).symm
     replace h68 := DF h68
     refine dS (FA 1 rfl fo65_1 rfl) <| dS (FA 2 rfl fo47_1 rfl) <| dS (L1 (Value.int .i64 x.Ahead.Hi) 0 rfl tk3 rfl rfl) <| dS (BI rfl b_gtr) <| dS (PK rfl) <| d_end <| RK hK15 ?_
     refine w_if rfl (fun h73 => ?_) (fun h73 => ?_)
     rotate_left 1
     · replace h73 := DF h73
       refine w_skip <| k_block <| KK hK12 <| w_region <| rS (MV rfl) <| rS (BI rfl (b_add ⟨by omega, by omega⟩)) <| rS (AG rfl) <| r_nil ?_
       have hb25 : (Value.int .i64 (((i + 1) : Nat) : Int)) = (Value.int .i64 (((i : Nat) : Int) + 1)) := by exact congrArg (Value.int .i64) (by omega)
       refine k_then (hJ9 ⟨(i + 1), ⟨by omega, upto_succ hl4_1 hx (by unfold SyncOk; first | (rw [prevAt_zero (by omega)]; omega) | (rw [prevAt_pos (by omega) hy]; omega))⟩⟩ _ _ _ rfl (by first | omega | (simp; omega)) (Sub.cons rfl <| sub_val rfl hb25 <| Sub.nil _) (fun w hs => St.sel [1, 2] rfl rfl hs))
     replace h73 := DT h73
     refine WS fun _ hK24 => rS (AG rfl) <| RK hK24 <| w_ret <| Q1 hQ rfl rfl rfl ?_
     first | exact congrArg Value.bool (decide_eq_false fun h => by have q1 := h.drift; have q2 := h.len; omega).symm | exact congrArg Value.bool (decide_eq_false fun h => by have q := h.sync i x hx; unfold SyncOk at q; first | (rw [prevAt_zero (by omega)] at q; omega) | (rw [prevAt_pos (by omega) hy] at q; omega) | omega).symm | exact congrArg Value.bool (decide_eq_false fun h => by have q := h.pair m k y x hy (by omega) hx; unfold PairOk at q; omega).symm | exact congrArg Value.bool (decide_eq_true (clock_ok (by omega) (by omega) (upto_all (by omega) hl4_1) (by omega) hl10_1)).symm
   replace h40 := DT h40
   refine dS (FA 0 rfl fo65_0 rfl) <| dS (L1 (Value.int .i64 x.At) 0 rfl tk3 rfl rfl) <| dS (FA 1 rfl fo63_1 rfl) <| dS (L1 (Value.slice sA c.Syncs.length sC) 1 rfl tk61 rfl rfl) <| dS (MV rfl) <| dS (BI rfl (b_sub ⟨by omega, by omega⟩)) ?_
   obtain ⟨y, hy⟩ : ∃ y_, c.Syncs[(i - 1)]? = some y_ := ⟨c.Syncs[(i - 1)]'(by omega), List.getElem?_eq_getElem _⟩
   have hym : (c.Syncs.map SyncV.cells)[(i - 1)]? = some (SyncV.cells y) := by rw [List.getElem?_map, hy]; rfl
   refine dS (IA (i - 1) rfl (has_at 2 rfl) te61 (by decide) (by omega) (by omega)) <| dS (FAR ((i - 1) * 3) rfl (has_at 2 rfl) (Nat.mul_pos (by omega) (by decide)) fo65_0 rfl) <| dS (LE1 (i - 1) 0 (Value.int .i64 y.At) rfl tk3 (has_at 2 rfl) hym rfl (by decide) rfl) <| dS (BI rfl b_leq) <| dS (PK rfl) <| dS (PK rfl) <| dS (MV rfl) ?_
   refine d_bool (t := 53) rfl (fun h53 => ?_) (fun h53 => ?_)
   · replace h53 := DT h53
     refine dS (OX rfl) <| dS (OX rfl) <| dS (OX rfl) <| dS (OX rfl) <| dS (PK rfl) <| dS (MV rfl) <| dS (OX rfl) <| dS (OX rfl) <| dS (OX rfl) <| dS (OX rfl) ?_
     refine dS (OX rfl) <| dS (OX rfl) <| dS (OX rfl) <| dS (PK rfl) <| dS (MV rfl) <| dS (OX rfl) <| dS (OX rfl) <| dS (OX rfl) <| dS (OX rfl) <| dS (PK rfl) ?_
     refine d_end <| RK hK15 <| w_if_true rfl <| WS fun _ hK17 => rS (AG rfl) <| RK hK17 <| w_ret <| Q1 hQ rfl rfl rfl ?_
     first | exact congrArg Value.bool (decide_eq_false fun h => by have q1 := h.drift; have q2 := h.len; omega).symm | exact congrArg Value.bool (decide_eq_false fun h => by have q := h.sync i x hx; unfold SyncOk at q; first | (rw [prevAt_zero (by omega)] at q; omega) | (rw [prevAt_pos (by omega) hy] at q; omega) | omega).symm | exact congrArg Value.bool (decide_eq_false fun h => by have q := h.pair m k y x hy (by omega) hx; unfold PairOk at q; omega).symm | exact congrArg Value.bool (decide_eq_true (clock_ok (by omega) (by omega) (upto_all (by omega) hl4_1) (by omega) hl10_1)).symm
   replace h53 := DF h53
   refine dS (FA 1 rfl fo65_1 rfl) <| dS (FA 1 rfl fo47_0 rfl) <| dS (L1 (Value.int .i64 x.Ahead.Lo) 0 rfl tk3 rfl rfl) <| dS (BI rfl b_lss) <| dS (PK rfl) <| dS (MV rfl) ?_
   refine d_bool (t := 59) rfl (fun h59 => ?_) (fun h59 => ?_)
   · replace h59 := DT h59
     refine dS (OX rfl) <| dS (OX rfl) <| dS (OX rfl) <| dS (OX rfl) <| dS (OX rfl) <| dS (OX rfl) <| dS (OX rfl) <| dS (PK rfl) <| dS (MV rfl) <| dS (OX rfl) ?_
     refine dS (OX rfl) <| dS (OX rfl) <| dS (OX rfl) <| dS (PK rfl) <| d_end <| RK hK15 <| w_if_true rfl <| WS fun _ hK18 => rS (AG rfl) <| RK hK18 ?_
     refine w_ret <| Q1 hQ rfl rfl rfl ?_
     first | exact congrArg Value.bool (decide_eq_false fun h => by have q1 := h.drift; have q2 := h.len; omega).symm | exact congrArg Value.bool (decide_eq_false fun h => by have q := h.sync i x hx; unfold SyncOk at q; first | (rw [prevAt_zero (by omega)] at q; omega) | (rw [prevAt_pos (by omega) hy] at q; omega) | omega).symm | exact congrArg Value.bool (decide_eq_false fun h => by have q := h.pair m k y x hy (by omega) hx; unfold PairOk at q; omega).symm | exact congrArg Value.bool (decide_eq_true (clock_ok (by omega) (by omega) (upto_all (by omega) hl4_1) (by omega) hl10_1)).symm
   replace h59 := DF h59
   refine dS (FA 1 rfl fo65_1 rfl) <| dS (FA 1 rfl fo47_0 rfl) <| dS (L1 (Value.int .i64 x.Ahead.Lo) 0 rfl tk3 rfl rfl) <| dS (FA 1 rfl fo65_1 rfl) <| dS (FA 2 rfl fo47_1 rfl) <| dS (L1 (Value.int .i64 x.Ahead.Hi) 0 rfl tk3 rfl rfl) <| dS (BI rfl b_gtr) <| dS (PK rfl) <| dS (MV rfl) ?_
   refine d_bool (t := 68) rfl (fun h68 => ?_) (fun h68 => ?_)
   · replace h68 := DT h68
     refine dS (OX rfl) <| dS (OX rfl) <| dS (OX rfl) <| dS (OX rfl) <| dS (PK rfl) <| d_end <| RK hK15 <| w_if_true rfl <| WS fun _ hK19 => rS (AG rfl) ?_
     refine RK hK19 <| w_ret <| Q1 hQ rfl rfl rfl ?_
     first | exact congrArg Value.bool (decide_eq_false fun h => by have q1 := h.drift; have q2 := h.len; omega).symm | exact congrArg Value.bool (decide_eq_false fun h => by have q := h.sync i x hx; unfold SyncOk at q; first | (rw [prevAt_zero (by omega)] at q; omega) | (rw [prevAt_pos (by omega) hy] at q; omega) | omega).symm | exact congrArg Value.bool (decide_eq_false fun h => by have q := h.pair m k y x hy (by omega) hx; unfold PairOk at q; omega).symm | exact congrArg Value.bool (decide_eq_true (clock_ok (by omega) (by omega) (upto_all (by omega) hl4_1) (by omega) hl10_1)).symm
   replace h68 := DF h68
   refine dS (FA 1 rfl fo65_1 rfl) <| dS (FA 2 rfl fo47_1 rfl) <| dS (L1 (Value.int .i64 x.Ahead.Hi) 0 rfl tk3 rfl rfl) <| dS (BI rfl b_gtr) <| dS (PK rfl) <| d_end <| RK hK15 ?_
   refine w_if rfl (fun h73 => ?_) (fun h73 => ?_)
   rotate_left 1
   · replace h73 := DF h73
     refine w_skip <| k_block <| KK hK12 <| w_region <| rS (MV rfl) <| rS (BI rfl (b_add ⟨by omega, by omega⟩)) <| rS (AG rfl) <| r_nil ?_
     have hb21 : (Value.int .i64 (((i + 1) : Nat) : Int)) = (Value.int .i64 (((i : Nat) : Int) + 1)) := by exact congrArg (Value.int .i64) (by omega)
     refine k_then (hJ9 ⟨(i + 1), ⟨by omega, upto_succ hl4_1 hx (by unfold SyncOk; first | (rw [prevAt_zero (by omega)]; omega) | (rw [prevAt_pos (by omega) hy]; omega))⟩⟩ _ _ _ rfl (by first | omega | (simp; omega)) (Sub.cons rfl <| sub_val rfl hb21 <| Sub.nil _) (fun w hs => St.sel [1, 2] rfl rfl hs))
   replace h73 := DT h73
   refine WS fun _ hK20 => rS (AG rfl) <| RK hK20 <| w_ret <| Q1 hQ rfl rfl rfl ?_
   first | exact congrArg Value.bool (decide_eq_false fun h => by have q1 := h.drift; have q2 := h.len; omega).symm | exact congrArg Value.bool (decide_eq_false fun h => by have q := h.sync i x hx; unfold SyncOk at q; first | (rw [prevAt_zero (by omega)] at q; omega) | (rw [prevAt_pos (by omega) hy] at q; omega) | omega).symm | exact congrArg Value.bool (decide_eq_false fun h => by have q := h.pair m k y x hy (by omega) hx; unfold PairOk at q; omega).symm | exact congrArg Value.bool (decide_eq_true (clock_ok (by omega) (by omega) (upto_all (by omega) hl4_1) (by omega) hl10_1)).symm
 replace h25 := DF h25
 refine w_exit <| k_exit_then <| k_exit_then <| k_exit_same <| KK hK7 <| w_seq fun _ hK26 => WS fun _ hK27 => rS (AG rfl) <| RK hK27 <| w_block ?_
 have hinit : (0 ≤ c.Syncs.length) ∧ (PairsOk c 0) := by exact ⟨Nat.zero_le _, fun j y hj => absurd hj (Nat.not_lt_zero _)⟩
 refine w_loop (ι := { z : Nat // (z ≤ c.Syncs.length) ∧ (PairsOk c z) }) (fun z => [(1, (Value.pointer (some ⟨b2, 0, none⟩))), (5, (Value.int .i64 ((z.1 : Nat) : Int)))]) (fun z => [(blk b2 63 (ClockV.cells (ClockV.mk c.Drift (Slc.mk sA c.Syncs.length sC)))), (rd sA c.Syncs.length 3 (c.Syncs.map SyncV.cells)).ro]) (fun z => c.Syncs.length - z.1) ⟨0, hinit⟩ (Sub.cons rfl <| Sub.cons rfl <| Sub.nil _) (fun w hs => St.sel [0, 1] rfl rfl hs) ?_
 clear hinit
 rintro ⟨m, ⟨hl10_0, hl10_1⟩⟩ J28 hJ28
 try dsimp only
 have hall := upto_all (P := SyncOk c) (by omega) hl4_1
 refine w_seq fun _ hK29 => WS fun _ hK30 => rS (MV rfl) <| rS (FA 1 rfl fo63_1 rfl) <| rS (L1 (Value.slice sA c.Syncs.length sC) 0 rfl tk61 rfl rfl) <| rS (LN rfl ut61) <| rS (BI rfl b_lss) <| RK hK30 ?_
 refine w_if rfl (fun h78 => ?_) (fun h78 => ?_)
 rotate_left 1
 · replace h78 := DF h78
   refine w_exit <| k_exit_then <| k_exit_then <| k_exit_same <| KK hK26 <| WS fun _ hK50 => rS (AG rfl) <| RK hK50 <| w_ret <| Q1 hQ rfl rfl rfl ?_
   first | exact congrArg Value.bool (decide_eq_false fun h => by have q1 := h.drift; have q2 := h.len; omega).symm | exact congrArg Value.bool (decide_eq_false fun h => by have q := h.sync i x hx; unfold SyncOk at q; first | (rw [prevAt_zero (by omega)] at q; omega) | (rw [prevAt_pos (by omega) hy] at q; omega) | omega).symm | exact congrArg Value.bool (decide_eq_false fun h => by have q := h.pair m k y x hy (by omega) hx; unfold PairOk at q; omega).symm | exact congrArg Value.bool (decide_eq_true (clock_ok (by omega) (by omega) (upto_all (by omega) hl4_1) (by omega) hl10_1)).symm
 replace h78 := DT h78
 refine WK hK29 <| w_seq fun _ hK31 => w_block <| WS fun _ hK32 => rS (AG rfl) <| RK hK32 <| w_block ?_
 have hinit : (0 ≤ m) ∧ (∀ y, c.Syncs[m]? = some y → PairK c y 0) := by exact ⟨Nat.zero_le _, fun y _ j o hj => absurd hj (Nat.not_lt_zero _)⟩
 refine w_loop (ι := { z : Nat // (z ≤ m) ∧ (∀ y, c.Syncs[m]? = some y → PairK c y z) }) (fun z => [(1, (Value.pointer (some ⟨b2, 0, none⟩))), (5, (Value.int .i64 ((m : Nat) : Int))), (6, (Value.int .i64 ((z.1 : Nat) : Int)))]) (fun z => [(blk b2 63 (ClockV.cells (ClockV.mk c.Drift (Slc.mk sA c.Syncs.length sC)))), (rd sA c.Syncs.length 3 (c.Syncs.map SyncV.cells)).ro]) (fun z => m - z.1) ⟨0, hinit⟩ (Sub.cons rfl <| Sub.cons rfl <| Sub.cons rfl <| Sub.nil _) (fun w hs => St.sel [0, 1] rfl rfl hs) ?_
 clear hinit
 rintro ⟨k, ⟨hl13_0, hl13_1⟩⟩ J33 hJ33
 try dsimp only
 refine w_seq fun _ hK34 => WS fun _ hK35 => rS (MV rfl) <| rS (MV rfl) <| rS (BI rfl b_lss) <| RK hK35 ?_
 refine w_if rfl (fun h83 => ?_) (fun h83 => ?_)
 rotate_left 1
 · replace h83 := DF h83
   refine w_exit <| k_exit_then <| k_exit_then <| k_exit_same <| k_block <| KK hK31 <| w_region <| rS (MV rfl) <| rS (BI rfl (b_add ⟨by omega, by omega⟩)) <| rS (AG rfl) ?_
   refine r_nil ?_
   have hb49 : (Value.int .i64 (((m + 1) : Nat) : Int)) = (Value.int .i64 (((m : Nat) : Int) + 1)) := by exact congrArg (Value.int .i64) (by omega)
   refine k_then (hJ28 ⟨(m + 1), ⟨by omega, pairs_succ hl10_1 hl13_1 (by omega)⟩⟩ _ _ _ rfl (by first | omega | (simp; omega)) (Sub.cons rfl <| sub_val rfl hb49 <| Sub.nil _) (fun w hs => St.sel [0, 1] rfl rfl hs))
 replace h83 := DT h83
 refine WK hK34 <| w_seq fun _ hK36 => w_block <| w_seq fun _ hK37 => w_drawN mixed [0, 1, 2, 3, 4, 5, 6, 7, 8, 9] [10, 11, 12, 13] [false, false, false, false, false, false, false, false, false, false] [] [(blk b2 63 (ClockV.cells (ClockV.mk c.Drift (Slc.mk sA c.Syncs.length sC)))), (rd sA c.Syncs.length 3 (c.Syncs.map SyncV.cells)).ro] [] (by kernel_rfl) (fun w hs => St.sel [0, 1] rfl rfl hs) (fun w hs => St.sel [] rfl rfl hs) <| eS rfl (FA 1 rfl fo63_1 rfl) <| eS rfl (L1 (Value.slice sA c.Syncs.length sC) 0 rfl tk61 rfl rfl) <| eS rfl (MV rfl) ?_
 obtain ⟨x, hx⟩ : ∃ y_, c.Syncs[k]? = some y_ := ⟨c.Syncs[k]'(by omega), List.getElem?_eq_getElem _⟩
 have hxm : (c.Syncs.map SyncV.cells)[k]? = some (SyncV.cells x) := by rw [List.getElem?_map, hx]; rfl
 refine eS rfl (IA k rfl (has_at 1 rfl) te61 (by decide) (by omega) (by omega)) <| eS rfl (LEN k 0 (SyncV.cells x) rfl tk65 (has_at 1 rfl) hxm rfl (by decide) rfl rfl) <| eS rfl (FA 1 rfl fo63_1 rfl) <| eS rfl (L1 (Value.slice sA c.Syncs.length sC) 0 rfl tk61 rfl rfl) <| eS rfl (MV rfl) ?_
 obtain ⟨y, hy⟩ : ∃ y_, c.Syncs[m]? = some y_ := ⟨c.Syncs[m]'(by omega), List.getElem?_eq_getElem _⟩
 have hym : (c.Syncs.map SyncV.cells)[m]? = some (SyncV.cells y) := by rw [List.getElem?_map, hy]; rfl
 refine eS rfl (IA m rfl (has_at 1 rfl) te61 (by decide) (by omega) (by omega)) <| eS rfl (LEN m 0 (SyncV.cells y) rfl tk65 (has_at 1 rfl) hym rfl (by decide) rfl rfl) <| d_fin rfl ?_
 refine n_step [10, 11] (by kernel_rfl) (n_cons ?_ <| n_cons ?_ <| n_nil)
 rotate_left 1
 · refine NO rfl rfl [10,12,13] fun T38 hT38 => ?_
   refine AL rfl tz65 fun b39 => RD hT38 1 rfl <| N1 10 <| NO rfl rfl [12,13] fun T40 hT40 => AL rfl tz65 fun b41 => RD hT40 2 rfl <| N1 12 <| NO rfl rfl [13] fun T42 hT42 => SW0 rfl ts65 rfl <| RD hT42 2 rfl ?_
   refine N1 13 <| NO rfl rfl [] fun T43 hT43 => SW1 rfl ts65 rfl <| RD hT43 2 rfl <| n_fin <| KK hK37 <| WS fun _ hK44 => rS (FA 0 rfl fo63_0 rfl) <| rS (L1 (Value.int .i64 c.Drift) 2 rfl tk3 rfl rfl) <| rS (FA 0 rfl fo65_0 rfl) ?_
   refine rS (L1 (Value.int .i64 y.At) 1 rfl tk3 rfl rfl) <| rS (FA 0 rfl fo65_0 rfl) <| rS (L1 (Value.int .i64 x.At) 0 rfl tk3 rfl rfl) ?_
   obtain ⟨hq1, hq2, hq3⟩ := sync_pair (fun j z _ hz => hall j z hz) hy (hall _ _ hy) (show k < m by omega) hx
   refine rS (BI rfl (b_sub ⟨by omega, by omega⟩)) <| rS (CL (drifts_c c.Drift (y.At - x.At) (by omega) (by first | assumption | omega | (simp; done) | (simp; omega))) (ha_nil) rfl) <| rS (AG rfl) <| RK hK44 <| WS fun _ hK45 => rS (FA 1 rfl fo65_1 rfl) <| rS (FA 1 rfl fo47_0 rfl) <| rS (L1 (Value.int .i64 x.Ahead.Lo) 0 rfl tk3 rfl rfl) <| rS (FA 1 rfl fo65_1 rfl) <| rS (FA 2 rfl fo47_1 rfl) ?_
   refine rS (L1 (Value.int .i64 y.Ahead.Hi) 1 rfl tk3 rfl rfl) <| rS (BI rfl (b_sub ⟨by omega, by omega⟩)) <| rS (MV rfl) <| rS (BI rfl b_gtr) <| rS (MV rfl) ?_
   refine r_bool (t := 113) rfl (fun h113 => ?_) (fun h113 => ?_)
   · replace h113 := DT h113
     refine rS (OX rfl) <| rS (OX rfl) <| rS (OX rfl) <| rS (OX rfl) <| rS (OX rfl) <| rS (OX rfl) <| rS (OX rfl) <| rS (OX rfl) <| rS (OX rfl) <| rS (PK rfl) ?_
     refine RK hK45 <| w_if_true rfl <| WS fun _ hK46 => rS (AG rfl) <| RK hK46 <| w_ret <| Q1 hQ rfl rfl rfl ?_
     first | exact congrArg Value.bool (decide_eq_false fun h => by have q1 := h.drift; have q2 := h.len; omega).symm | exact congrArg Value.bool (decide_eq_false fun h => by have q := h.sync i x hx; unfold SyncOk at q; first | (rw [prevAt_zero (by omega)] at q; omega) | (rw [prevAt_pos (by omega) hy] at q; omega) | omega).symm | exact congrArg Value.bool (decide_eq_false fun h => by have q := h.pair m k y x hy (by omega) hx; unfold PairOk at q; omega).symm | exact congrArg Value.bool (decide_eq_true (clock_ok (by omega) (by omega) (upto_all (by omega) hl4_1) (by omega) hl10_1)).symm
   replace h113 := DF h113
   refine rS (FA 1 rfl fo65_1 rfl) <| rS (FA 1 rfl fo47_0 rfl) <| rS (L1 (Value.int .i64 y.Ahead.Lo) 1 rfl tk3 rfl rfl) <| rS (FA 1 rfl fo65_1 rfl) <| rS (FA 2 rfl fo47_1 rfl) <| rS (L1 (Value.int .i64 x.Ahead.Hi) 0 rfl tk3 rfl rfl) <| rS (BI rfl (b_sub ⟨by omega, by omega⟩)) <| rS (MV rfl) <| rS (BI rfl b_gtr) <| rS (PK rfl) ?_
   refine RK hK45 ?_
   refine w_if rfl (fun h123 => ?_) (fun h123 => ?_)
   rotate_left 1
   · replace h123 := DF h123
     refine w_skip <| k_block <| KK hK36 <| w_region <| rS (MV rfl) <| rS (BI rfl (b_add ⟨by omega, by omega⟩)) <| rS (AG rfl) <| r_nil ?_
     have hb48 : (Value.int .i64 (((k + 1) : Nat) : Int)) = (Value.int .i64 (((k : Nat) : Int) + 1)) := by exact congrArg (Value.int .i64) (by omega)
     refine k_then (hJ33 ⟨(k + 1), ⟨by omega, fun z hz => by rw [hy] at hz; cases hz; exact upto_succ (hl13_1 _ hy) hx (by unfold PairOk; omega)⟩⟩ _ _ _ rfl (by first | omega | (simp; omega)) (Sub.cons rfl <| Sub.cons rfl <| sub_val rfl hb48 <| Sub.nil _) (fun w hs => St.sel [2, 3] rfl rfl hs))
   replace h123 := DT h123
   refine WS fun _ hK47 => rS (AG rfl) <| RK hK47 <| w_ret <| Q1 hQ rfl rfl rfl ?_
   first | exact congrArg Value.bool (decide_eq_false fun h => by have q1 := h.drift; have q2 := h.len; omega).symm | exact congrArg Value.bool (decide_eq_false fun h => by have q := h.sync i x hx; unfold SyncOk at q; first | (rw [prevAt_zero (by omega)] at q; omega) | (rw [prevAt_pos (by omega) hy] at q; omega) | omega).symm | exact congrArg Value.bool (decide_eq_false fun h => by have q := h.pair m k y x hy (by omega) hx; unfold PairOk at q; omega).symm | exact congrArg Value.bool (decide_eq_true (clock_ok (by omega) (by omega) (upto_all (by omega) hl4_1) (by omega) hl10_1)).symm
 refine NO rfl rfl [11,12,13] fun T38 hT38 => AL rfl tz65 fun b39 => RD hT38 1 rfl <| N1 11 <| NO rfl rfl [12,13] fun T40 hT40 => AL rfl tz65 fun b41 => RD hT40 2 rfl <| N1 12 <| NO rfl rfl [13] fun T42 hT42 => SW1 rfl ts65 rfl ?_
 refine RD hT42 2 rfl <| N1 13 <| NO rfl rfl [] fun T43 hT43 => SW0 rfl ts65 rfl <| RD hT43 2 rfl <| n_fin <| KK hK37 <| WS fun _ hK44 => rS (FA 0 rfl fo63_0 rfl) <| rS (L1 (Value.int .i64 c.Drift) 2 rfl tk3 rfl rfl) ?_
 refine rS (FA 0 rfl fo65_0 rfl) <| rS (L1 (Value.int .i64 y.At) 0 rfl tk3 rfl rfl) <| rS (FA 0 rfl fo65_0 rfl) <| rS (L1 (Value.int .i64 x.At) 1 rfl tk3 rfl rfl) ?_
 obtain ⟨hq1, hq2, hq3⟩ := sync_pair (fun j z _ hz => hall j z hz) hy (hall _ _ hy) (show k < m by omega) hx
 refine rS (BI rfl (b_sub ⟨by omega, by omega⟩)) <| rS (CL (drifts_c c.Drift (y.At - x.At) (by omega) (by first | assumption | omega | (simp; done) | (simp; omega))) (ha_nil) rfl) <| rS (AG rfl) <| RK hK44 <| WS fun _ hK45 => rS (FA 1 rfl fo65_1 rfl) <| rS (FA 1 rfl fo47_0 rfl) <| rS (L1 (Value.int .i64 x.Ahead.Lo) 1 rfl tk3 rfl rfl) <| rS (FA 1 rfl fo65_1 rfl) <| rS (FA 2 rfl fo47_1 rfl) ?_
 refine rS (L1 (Value.int .i64 y.Ahead.Hi) 0 rfl tk3 rfl rfl) <| rS (BI rfl (b_sub ⟨by omega, by omega⟩)) <| rS (MV rfl) <| rS (BI rfl b_gtr) <| rS (MV rfl) ?_
 refine r_bool (t := 113) rfl (fun h113 => ?_) (fun h113 => ?_)
 · replace h113 := DT h113
   refine rS (OX rfl) <| rS (OX rfl) <| rS (OX rfl) <| rS (OX rfl) <| rS (OX rfl) <| rS (OX rfl) <| rS (OX rfl) <| rS (OX rfl) <| rS (OX rfl) <| rS (PK rfl) ?_
   refine RK hK45 <| w_if_true rfl <| WS fun _ hK46 => rS (AG rfl) <| RK hK46 <| w_ret <| Q1 hQ rfl rfl rfl ?_
   first | exact congrArg Value.bool (decide_eq_false fun h => by have q1 := h.drift; have q2 := h.len; omega).symm | exact congrArg Value.bool (decide_eq_false fun h => by have q := h.sync i x hx; unfold SyncOk at q; first | (rw [prevAt_zero (by omega)] at q; omega) | (rw [prevAt_pos (by omega) hy] at q; omega) | omega).symm | exact congrArg Value.bool (decide_eq_false fun h => by have q := h.pair m k y x hy (by omega) hx; unfold PairOk at q; omega).symm | exact congrArg Value.bool (decide_eq_true (clock_ok (by omega) (by omega) (upto_all (by omega) hl4_1) (by omega) hl10_1)).symm
 replace h113 := DF h113
 refine rS (FA 1 rfl fo65_1 rfl) <| rS (FA 1 rfl fo47_0 rfl) <| rS (L1 (Value.int .i64 y.Ahead.Lo) 0 rfl tk3 rfl rfl) <| rS (FA 1 rfl fo65_1 rfl) <| rS (FA 2 rfl fo47_1 rfl) <| rS (L1 (Value.int .i64 x.Ahead.Hi) 1 rfl tk3 rfl rfl) <| rS (BI rfl (b_sub ⟨by omega, by omega⟩)) <| rS (MV rfl) <| rS (BI rfl b_gtr) <| rS (PK rfl) ?_
 refine RK hK45 ?_
 refine w_if rfl (fun h123 => ?_) (fun h123 => ?_)
 rotate_left 1
 · replace h123 := DF h123
   refine w_skip <| k_block <| KK hK36 <| w_region <| rS (MV rfl) <| rS (BI rfl (b_add ⟨by omega, by omega⟩)) <| rS (AG rfl) <| r_nil ?_
   have hb48 : (Value.int .i64 (((k + 1) : Nat) : Int)) = (Value.int .i64 (((k : Nat) : Int) + 1)) := by exact congrArg (Value.int .i64) (by omega)
   refine k_then (hJ33 ⟨(k + 1), ⟨by omega, fun z hz => by rw [hy] at hz; cases hz; exact upto_succ (hl13_1 _ hy) hx (by unfold PairOk; omega)⟩⟩ _ _ _ rfl (by first | omega | (simp; omega)) (Sub.cons rfl <| Sub.cons rfl <| sub_val rfl hb48 <| Sub.nil _) (fun w hs => St.sel [2, 3] rfl rfl hs))
 replace h123 := DT h123
 refine WS fun _ hK47 => rS (AG rfl) <| RK hK47 <| w_ret <| Q1 hQ rfl rfl rfl ?_
 first | exact congrArg Value.bool (decide_eq_false fun h => by have q1 := h.drift; have q2 := h.len; omega).symm | exact congrArg Value.bool (decide_eq_false fun h => by have q := h.sync i x hx; unfold SyncOk at q; first | (rw [prevAt_zero (by omega)] at q; omega) | (rw [prevAt_pos (by omega) hy] at q; omega) | omega).symm | exact congrArg Value.bool (decide_eq_false fun h => by have q := h.pair m k y x hy (by omega) hx; unfold PairOk at q; omega).symm | exact congrArg Value.bool (decide_eq_true (clock_ok (by omega) (by omega) (upto_all (by omega) hl4_1) (by omega) hl10_1)).symm
set_option maxRecDepth 100000 in
set_option maxHeartbeats 400000 in
theorem rway_c (l : LineM) (kA : Option Addr) (kC : Nat) (az : List RA) (cA : Option Addr) (cC : Nat) (bA : Option Addr) (bC : Nat) (n : Int) (hin : LineIn l az) (htr : trackOk l.Track = true) (hbk : ∀ b ∈ l.Beams, BeamOk l b) (hn : 0 ≤ n ∧ n < (l.Beams.length : Int)) :
    FnV Tryz.prog 92 [(Value.agg (LineV.cells (LineV.mk (TrackV.mk (Slc.mk kA l.Track.length kC)) l.Fast (Slc.mk cA l.Clocks.length cC) (Slc.mk bA l.Beams.length bC) l.Finish l.Fakes l.Misses)).toArray), (Value.int .i64 n)] [(rd kA l.Track.length 9 (l.Track.map StretchV.cells)), (rd cA l.Clocks.length 2 (List.zipWith ClockM.cells l.Clocks az)), (bun (nest ClockM.rds l.Clocks az)), (rd bA l.Beams.length 4 (l.Beams.map BeamV.cells))] (Value.int .i64 (wayF l n.toNat)) := by
 have htk := hin.trk
 have hck := hin.cks
 have has := hin.as_
 have hbm := hin.bms
 have hsd := hin.side
 refine fnV_of go92 Tryz.func92 rfl rfl fun w0 Q hQ hN => ?_
 try dsimp only
 refine WS fun _ hK1 => BXA rfl fun b2 => rS (AG rfl) <| RK hK1 <| w_seq fun _ hK3 => WS fun _ hK4 => rS (MV rfl) <| rS (BI rfl b_eql) <| RK hK4 ?_
 refine w_if rfl (fun h10 => ?_) (fun h10 => ?_)
 · replace h10 := DT h10
   refine w_seq fun _ hK5 => w_draw4 mixed [0, 1, 2, 3, 4, 5, 6, 7, 8, 9, 10, 13] [11, 12] [false, false, false, false, false, false, false, false, false, false, false, false] [false, false] [(blk b2 28 (LineV.cells (LineV.mk (TrackV.mk (Slc.mk kA l.Track.length kC)) l.Fast (Slc.mk cA l.Clocks.length cC) (Slc.mk bA l.Beams.length bC) l.Finish l.Fakes l.Misses))), (rd kA l.Track.length 9 (l.Track.map StretchV.cells)).ro, (rd cA l.Clocks.length 2 (List.zipWith ClockM.cells l.Clocks az)).ro, (bun (nest ClockM.rds l.Clocks az)).ro, (rd bA l.Beams.length 4 (l.Beams.map BeamV.cells)).ro] [] (by kernel_rfl) (fun w hs => St.sel [0, 1, 2, 3, 4] rfl rfl hs) (fun w hs => St.sel [] rfl rfl hs) <| eS rfl (FA 0 rfl fo28_0 rfl) <| eS rfl (LP (TrackV.cells (TrackV.mk (Slc.mk kA l.Track.length kC))) 0 rfl tk24 rfl rfl rfl) <| eS rfl (FA 3 rfl fo28_3 rfl) <| eS rfl (L1 (Value.slice bA l.Beams.length bC) 0 rfl tk26 rfl rfl) ?_
   obtain ⟨y, hy⟩ : ∃ y_, l.Beams[0]? = some y_ := ⟨l.Beams[0]'(by omega), List.getElem?_eq_getElem _⟩
   have hym : (l.Beams.map BeamV.cells)[0]? = some (BeamV.cells y) := by rw [List.getElem?_map, hy]; rfl
   refine eS rfl (IA 0 rfl (has_at 4 rfl) te26 (by decide) rfl (by omega)) <| eS rfl (FAR (0 * 4) rfl (has_at 4 rfl) (Nat.mul_pos (by omega) (by decide)) fo101_0 rfl) <| eS rfl (LEN 0 0 (SpotV.cells y.Spot) rfl tk99 (has_at 4 rfl) hym rfl (by decide) rfl rfl) <| eS rfl (CL (rat_c l.Track kA kC y.Spot (by first | assumption | omega | (simp; done) | (simp; omega)) (by first | assumption | omega | (simp; done) | (simp; omega))) (ha_at 1 rfl rfl <| ha_nil) rfl) <| eS rfl (MV rfl) <| eS rfl (EX rfl) <| eS rfl (EX rfl) <| eS rfl (AG rfl) <| d_fin rfl <| t_cons rfl fun T6 hT6 => ?_
   refine AL rfl tz47 fun b7 => RN hT6 [1, 2, 3, 4, 5] rfl rfl <| t_cons rfl fun T8 hT8 => SW0 rfl ts47 rfl <| RN hT8 [1, 2, 3, 4, 5] rfl rfl <| t_fin rfl <| KK hK5 <| WS fun _ hK9 => rS (FA 0 rfl fo47_0 rfl) <| rS (L1 (Value.int .i64 ((atV l.Track y.Spot).Lo)) 0 rfl tk3 rfl rfl) ?_
   refine rS (AG rfl) <| RK hK9 <| w_ret <| Q1 hQ rfl rfl rfl ?_
   first | (refine congrArg (Value.int .i64) ?_; rw [show n.toNat = 0 by omega]; rw [wayF_zero hy, (at_in htr (hbk _ (List.mem_of_getElem? hy)).1).2]) | (refine congrArg (Value.int .i64) ?_; rw [wayF_pos (by omega) hx (by rw [show n.toNat - 1 = (n - 1).toNat by omega]; exact hy), (apart_in htr ⟨(hbk _ (List.mem_of_getElem? hy)).1, (hbk _ (List.mem_of_getElem? hx)).1⟩).2])
 replace h10 := DF h10
 refine WK hK3 <| w_seq fun _ hK10 => w_draw4 mixed [0, 1, 2, 3, 4, 5, 6, 7, 8, 9, 10, 11, 12, 13, 14, 15, 16, 17, 18, 21] [19, 20] [false, false, false, false, false, false, false, false, false, false, false, false, false, false, false, false, false, false, false, false] [false, false] [(blk b2 28 (LineV.cells (LineV.mk (TrackV.mk (Slc.mk kA l.Track.length kC)) l.Fast (Slc.mk cA l.Clocks.length cC) (Slc.mk bA l.Beams.length bC) l.Finish l.Fakes l.Misses))), (rd kA l.Track.length 9 (l.Track.map StretchV.cells)).ro, (rd cA l.Clocks.length 2 (List.zipWith ClockM.cells l.Clocks az)).ro, (bun (nest ClockM.rds l.Clocks az)).ro, (rd bA l.Beams.length 4 (l.Beams.map BeamV.cells)).ro] [] (by kernel_rfl) (fun w hs => St.sel [0, 1, 2, 3, 4] rfl rfl hs) (fun w hs => St.sel [] rfl rfl hs) <| eS rfl (FA 0 rfl fo28_0 rfl) <| eS rfl (LP (TrackV.cells (TrackV.mk (Slc.mk kA l.Track.length kC))) 0 rfl tk24 rfl rfl rfl) <| eS rfl (FA 3 rfl fo28_3 rfl) <| eS rfl (L1 (Value.slice bA l.Beams.length bC) 0 rfl tk26 rfl rfl) <| eS rfl (MV rfl) <| eS rfl (BI rfl (b_sub ⟨by omega, by omega⟩)) ?_
 obtain ⟨y, hy⟩ : ∃ y_, l.Beams[((n - 1)).toNat]? = some y_ := ⟨l.Beams[((n - 1)).toNat]'(by omega), List.getElem?_eq_getElem _⟩
 have hym : (l.Beams.map BeamV.cells)[((n - 1)).toNat]? = some (BeamV.cells y) := by rw [List.getElem?_map, hy]; rfl
 refine eS rfl (IA (((n - 1)).toNat) rfl (has_at 4 rfl) te26 (by decide) (by omega) (by omega)) <| eS rfl (FAR ((((n - 1)).toNat) * 4) rfl (has_at 4 rfl) (Nat.mul_pos (by omega) (by decide)) fo101_0 rfl) <| eS rfl (LEN (((n - 1)).toNat) 0 (SpotV.cells y.Spot) rfl tk99 (has_at 4 rfl) hym rfl (by decide) rfl rfl) <| eS rfl (FA 3 rfl fo28_3 rfl) <| eS rfl (L1 (Value.slice bA l.Beams.length bC) 0 rfl tk26 rfl rfl) <| eS rfl (MV rfl) ?_
 obtain ⟨x, hx⟩ : ∃ y_, l.Beams[(n).toNat]? = some y_ := ⟨l.Beams[(n).toNat]'(by omega), List.getElem?_eq_getElem _⟩
 have hxm : (l.Beams.map BeamV.cells)[(n).toNat]? = some (BeamV.cells x) := by rw [List.getElem?_map, hx]; rfl
 refine eS rfl (IA ((n).toNat) rfl (has_at 4 rfl) te26 (by decide) (by omega) (by omega)) <| eS rfl (FAR (((n).toNat) * 4) rfl (has_at 4 rfl) (Nat.mul_pos (by omega) (by decide)) fo101_0 rfl) <| eS rfl (LEN ((n).toNat) 0 (SpotV.cells x.Spot) rfl tk99 (has_at 4 rfl) hxm rfl (by decide) rfl rfl) <| eS rfl (CL (rapart_c l.Track kA kC y.Spot x.Spot (by first | assumption | omega | (simp; done) | (simp; omega)) (by first | assumption | omega | (simp; done) | (simp; omega))) (ha_at 1 rfl rfl <| ha_nil) rfl) <| eS rfl (MV rfl) <| eS rfl (EX rfl) <| eS rfl (EX rfl) <| eS rfl (AG rfl) <| d_fin rfl <| t_cons rfl fun T11 hT11 => ?_
 refine AL rfl tz47 fun b12 => RN hT11 [1, 2, 3, 4, 5] rfl rfl <| t_cons rfl fun T13 hT13 => SW0 rfl ts47 rfl <| RN hT13 [1, 2, 3, 4, 5] rfl rfl <| t_fin rfl <| KK hK10 <| WS fun _ hK14 => rS (FA 0 rfl fo47_0 rfl) <| rS (L1 (Value.int .i64 ((apartV l.Track y.Spot x.Spot).Lo)) 0 rfl tk3 rfl rfl) ?_
 refine rS (AG rfl) <| RK hK14 <| w_ret <| Q1 hQ rfl rfl rfl ?_
 first | (refine congrArg (Value.int .i64) ?_; rw [show n.toNat = 0 by omega]; rw [wayF_zero hy, (at_in htr (hbk _ (List.mem_of_getElem? hy)).1).2]) | (refine congrArg (Value.int .i64) ?_; rw [wayF_pos (by omega) hx (by rw [show n.toNat - 1 = (n - 1).toNat by omega]; exact hy), (apart_in htr ⟨(hbk _ (List.mem_of_getElem? hy)).1, (hbk _ (List.mem_of_getElem? hx)).1⟩).2])
set_option maxRecDepth 100000 in
set_option maxHeartbeats 400000 in
theorem rline_c (l : LineM) (kA : Option Addr) (kC : Nat) (az : List RA) (cA : Option Addr) (cC : Nat) (bA : Option Addr) (bC : Nat) (hin : LineIn l az) (htr : trackOk l.Track = true) :
    FnV Tryz.prog 72 [(Value.agg (LineV.cells (LineV.mk (TrackV.mk (Slc.mk kA l.Track.length kC)) l.Fast (Slc.mk cA l.Clocks.length cC) (Slc.mk bA l.Beams.length bC) l.Finish l.Fakes l.Misses)).toArray)] [(rd kA l.Track.length 9 (l.Track.map StretchV.cells)), (rd cA l.Clocks.length 2 (List.zipWith ClockM.cells l.Clocks az)), (bun (nest ClockM.rds l.Clocks az)), (rd bA l.Beams.length 4 (l.Beams.map BeamV.cells))] (Value.bool (decide (LineOk l))) := by
 have htk := hin.trk
 have hck := hin.cks
 have has := hin.as_
 have hbm := hin.bms
 have hsd := hin.side
 have hst := trackOk_all htr
 have hl12 := trackOk_le htr
 refine fnV_of go72 Tryz.func72 rfl rfl fun w0 Q hQ hN => ?_
 try dsimp only
 refine WS fun _ hK1 => BXA rfl fun b2 => rS (AG rfl) <| RK hK1 <| w_seq fun _ hK3 => WS fun _ hK4 => rS (FA 1 rfl fo28_1 rfl) <| rS (L1 (Value.int .i64 l.Fast) 0 rfl tk3 rfl rfl) <| rS (CL (within_5 l.Fast 1 5000) (ha_nil) rfl) <| rS (NT rfl) ?_
 refine rS (MV rfl) ?_
 refine r_bool (t := 10) rfl (fun h10 => ?_) (fun h10 => ?_)
 · replace h10 := XT h10
   refine rS (OX rfl) <| rS (OX rfl) <| rS (OX rfl) <| rS (OX rfl) <| rS (OX rfl) <| rS (PK rfl) <| rS (MV rfl) <| rS (OX rfl) <| rS (OX rfl) <| rS (OX rfl) ?_
   refine rS (OX rfl) <| rS (OX rfl) <| rS (PK rfl) <| rS (MV rfl) <| rS (OX rfl) <| rS (OX rfl) <| rS (OX rfl) <| rS (OX rfl) <| rS (OX rfl) <| rS (OX rfl) ?_
   refine rS (OX rfl) <| rS (OX rfl) <| rS (PK rfl) <| rS (MV rfl) <| rS (OX rfl) <| rS (OX rfl) <| rS (OX rfl) <| rS (OX rfl) <| rS (PK rfl) <| rS (MV rfl) ?_
   refine rS (OX rfl) <| rS (OX rfl) <| rS (OX rfl) <| rS (OX rfl) <| rS (PK rfl) <| RK hK4 <| w_if_true rfl <| WS fun _ hK5 => rS (AG rfl) <| RK hK5 ?_
   refine w_ret <| Q1 hQ rfl rfl rfl ?_
   first | exact congrArg Value.bool (decide_eq_false fun h => by have q := h.head; unfold HeadOk at q; omega).symm | exact congrArg Value.bool (decide_eq_false fun h => h59 (h.clock _ (List.mem_of_getElem? hx))).symm | exact congrArg Value.bool (decide_eq_false fun h => by have q := h.beam _ (List.mem_of_getElem? hy); have q2 := q.2; first | exact h77 q.1 | omega).symm | exact congrArg Value.bool (decide_eq_false fun h => by have q := h.way n (by omega); simp only [Int.toNat_natCast] at h101; omega).symm | exact congrArg Value.bool (decide_eq_true (line_head (by unfold HeadOk; omega) (upto_mem (by omega) hl4_1) (upto_mem (by omega) hl9_1) (fun j hj => hl14_1 j (by omega)))).symm
 replace h10 := XF h10
 refine rS (FA 2 rfl fo28_2 rfl) <| rS (L1 (Value.slice cA l.Clocks.length cC) 0 rfl tk25 rfl rfl) <| rS (LN rfl ut25) <| rS (CL (within_5 ((l.Clocks.length : Nat) : Int) 1 4) (ha_nil) rfl) <| rS (NT rfl) <| rS (PK rfl) <| rS (MV rfl) ?_
 refine r_bool (t := 17) rfl (fun h17 => ?_) (fun h17 => ?_)
 · replace h17 := XT h17
   refine rS (OX rfl) <| rS (OX rfl) <| rS (OX rfl) <| rS (OX rfl) <| rS (OX rfl) <| rS (PK rfl) <| rS (MV rfl) <| rS (OX rfl) <| rS (OX rfl) <| rS (OX rfl) ?_
   refine rS (OX rfl) <| rS (OX rfl) <| rS (OX rfl) <| rS (OX rfl) <| rS (OX rfl) <| rS (PK rfl) <| rS (MV rfl) <| rS (OX rfl) <| rS (OX rfl) <| rS (OX rfl) ?_
   refine rS (OX rfl) <| rS (PK rfl) <| rS (MV rfl) <| rS (OX rfl) <| rS (OX rfl) <| rS (OX rfl) <| rS (OX rfl) <| rS (PK rfl) <| RK hK4 <| w_if_true rfl ?_
   refine WS fun _ hK6 => rS (AG rfl) <| RK hK6 <| w_ret <| Q1 hQ rfl rfl rfl ?_
   first | exact congrArg Value.bool (decide_eq_false fun h => by have q := h.head; unfold HeadOk at q; omega).symm | exact congrArg Value.bool (decide_eq_false fun h => h59 (h.clock _ (List.mem_of_getElem? hx))).symm | exact congrArg Value.bool (decide_eq_false fun h => by have q := h.beam _ (List.mem_of_getElem? hy); have q2 := q.2; first | exact h77 q.1 | omega).symm | exact congrArg Value.bool (decide_eq_false fun h => by have q := h.way n (by omega); simp only [Int.toNat_natCast] at h101; omega).symm | exact congrArg Value.bool (decide_eq_true (line_head (by unfold HeadOk; omega) (upto_mem (by omega) hl4_1) (upto_mem (by omega) hl9_1) (fun j hj => hl14_1 j (by omega)))).symm
 replace h17 := XF h17
 refine rS (FA 3 rfl fo28_3 rfl) <| rS (L1 (Value.slice bA l.Beams.length bC) 0 rfl tk26 rfl rfl) <| rS (LN rfl ut26) <| rS (CL (within_5 ((l.Beams.length : Nat) : Int) 1 6) (ha_nil) rfl) <| rS (NT rfl) <| rS (PK rfl) <| rS (MV rfl) ?_
 refine r_bool (t := 24) rfl (fun h24 => ?_) (fun h24 => ?_)
 · replace h24 := XT h24
   refine rS (OX rfl) <| rS (OX rfl) <| rS (OX rfl) <| rS (OX rfl) <| rS (OX rfl) <| rS (OX rfl) <| rS (OX rfl) <| rS (OX rfl) <| rS (PK rfl) <| rS (MV rfl) ?_
   refine rS (OX rfl) <| rS (OX rfl) <| rS (OX rfl) <| rS (OX rfl) <| rS (PK rfl) <| rS (MV rfl) <| rS (OX rfl) <| rS (OX rfl) <| rS (OX rfl) <| rS (OX rfl) ?_
   refine rS (PK rfl) <| RK hK4 <| w_if_true rfl <| WS fun _ hK7 => rS (AG rfl) <| RK hK7 <| w_ret <| Q1 hQ rfl rfl rfl ?_
   first | exact congrArg Value.bool (decide_eq_false fun h => by have q := h.head; unfold HeadOk at q; omega).symm | exact congrArg Value.bool (decide_eq_false fun h => h59 (h.clock _ (List.mem_of_getElem? hx))).symm | exact congrArg Value.bool (decide_eq_false fun h => by have q := h.beam _ (List.mem_of_getElem? hy); have q2 := q.2; first | exact h77 q.1 | omega).symm | exact congrArg Value.bool (decide_eq_false fun h => by have q := h.way n (by omega); simp only [Int.toNat_natCast] at h101; omega).symm | exact congrArg Value.bool (decide_eq_true (line_head (by unfold HeadOk; omega) (upto_mem (by omega) hl4_1) (upto_mem (by omega) hl9_1) (fun j hj => hl14_1 j (by omega)))).symm
 replace h24 := XF h24
 refine rS (FA 4 rfl fo28_4 rfl) <| rS (L1 (Value.int .i64 l.Finish) 0 rfl tk3 rfl rfl) <| rS (FA 3 rfl fo28_3 rfl) <| rS (L1 (Value.slice bA l.Beams.length bC) 0 rfl tk26 rfl rfl) <| rS (LN rfl ut26) <| rS (BI rfl (b_sub ⟨by omega, by omega⟩)) <| rS (CL (within_5 l.Finish 0 (((l.Beams.length : Nat) : Int) - 1)) (ha_nil) rfl) <| rS (NT rfl) <| rS (PK rfl) <| rS (MV rfl) ?_
 refine r_bool (t := 34) rfl (fun h34 => ?_) (fun h34 => ?_)
 · replace h34 := XT h34
   refine rS (OX rfl) <| rS (OX rfl) <| rS (OX rfl) <| rS (OX rfl) <| rS (PK rfl) <| rS (MV rfl) <| rS (OX rfl) <| rS (OX rfl) <| rS (OX rfl) <| rS (OX rfl) ?_
   refine rS (PK rfl) <| RK hK4 <| w_if_true rfl <| WS fun _ hK8 => rS (AG rfl) <| RK hK8 <| w_ret <| Q1 hQ rfl rfl rfl ?_
   first | exact congrArg Value.bool (decide_eq_false fun h => by have q := h.head; unfold HeadOk at q; omega).symm | exact congrArg Value.bool (decide_eq_false fun h => h59 (h.clock _ (List.mem_of_getElem? hx))).symm | exact congrArg Value.bool (decide_eq_false fun h => by have q := h.beam _ (List.mem_of_getElem? hy); have q2 := q.2; first | exact h77 q.1 | omega).symm | exact congrArg Value.bool (decide_eq_false fun h => by have q := h.way n (by omega); simp only [Int.toNat_natCast] at h101; omega).symm | exact congrArg Value.bool (decide_eq_true (line_head (by unfold HeadOk; omega) (upto_mem (by omega) hl4_1) (upto_mem (by omega) hl9_1) (fun j hj => hl14_1 j (by omega)))).symm
 replace h34 := XF h34
 refine rS (FA 5 rfl fo28_5 rfl) <| rS (L1 (Value.int .i64 l.Fakes) 0 rfl tk3 rfl rfl) <| rS (CL (within_5 l.Fakes 0 3) (ha_nil) rfl) <| rS (NT rfl) <| rS (PK rfl) <| rS (MV rfl) ?_
 refine r_bool (t := 40) rfl (fun h40 => ?_) (fun h40 => ?_)
 · replace h40 := XT h40
   refine rS (OX rfl) <| rS (OX rfl) <| rS (OX rfl) <| rS (OX rfl) <| rS (PK rfl) <| RK hK4 <| w_if_true rfl <| WS fun _ hK9 => rS (AG rfl) <| RK hK9 ?_
   refine w_ret <| Q1 hQ rfl rfl rfl ?_
   first | exact congrArg Value.bool (decide_eq_false fun h => by have q := h.head; unfold HeadOk at q; omega).symm | exact congrArg Value.bool (decide_eq_false fun h => h59 (h.clock _ (List.mem_of_getElem? hx))).symm | exact congrArg Value.bool (decide_eq_false fun h => by have q := h.beam _ (List.mem_of_getElem? hy); have q2 := q.2; first | exact h77 q.1 | omega).symm | exact congrArg Value.bool (decide_eq_false fun h => by have q := h.way n (by omega); simp only [Int.toNat_natCast] at h101; omega).symm | exact congrArg Value.bool (decide_eq_true (line_head (by unfold HeadOk; omega) (upto_mem (by omega) hl4_1) (upto_mem (by omega) hl9_1) (fun j hj => hl14_1 j (by omega)))).symm
 replace h40 := XF h40
 refine rS (FA 6 rfl fo28_6 rfl) <| rS (L1 (Value.int .i64 l.Misses) 0 rfl tk3 rfl rfl) <| rS (CL (within_5 l.Misses 0 3) (ha_nil) rfl) <| rS (NT rfl) <| rS (PK rfl) <| RK hK4 ?_
 refine w_if rfl (fun h45 => ?_) (fun h45 => ?_)
 · replace h45 := XT h45
   refine WS fun _ hK10 => rS (AG rfl) <| RK hK10 <| w_ret <| Q1 hQ rfl rfl rfl ?_
   first | exact congrArg Value.bool (decide_eq_false fun h => by have q := h.head; unfold HeadOk at q; omega).symm | exact congrArg Value.bool (decide_eq_false fun h => h59 (h.clock _ (List.mem_of_getElem? hx))).symm | exact congrArg Value.bool (decide_eq_false fun h => by have q := h.beam _ (List.mem_of_getElem? hy); have q2 := q.2; first | exact h77 q.1 | omega).symm | exact congrArg Value.bool (decide_eq_false fun h => by have q := h.way n (by omega); simp only [Int.toNat_natCast] at h101; omega).symm | exact congrArg Value.bool (decide_eq_true (line_head (by unfold HeadOk; omega) (upto_mem (by omega) hl4_1) (upto_mem (by omega) hl9_1) (fun j hj => hl14_1 j (by omega)))).symm
 replace h45 := XF h45
 refine WK hK3 <| w_seq fun _ hK11 => WS fun _ hK12 => rS (AG rfl) <| RK hK12 <| w_block ?_
 have hinit : (0 ≤ l.Clocks.length) ∧ (∀ (j : Nat) y, j < 0 → l.Clocks[j]? = some y → ClockOk y) := by exact ⟨Nat.zero_le _, fun j y hj => absurd hj (Nat.not_lt_zero _)⟩
 refine w_loop (ι := { z : Nat // (z ≤ l.Clocks.length) ∧ (∀ (j : Nat) y, j < z → l.Clocks[j]? = some y → ClockOk y) }) (fun z => [(1, (Value.pointer (some ⟨b2, 0, none⟩))), (3, (Value.int .i64 ((z.1 : Nat) : Int)))]) (fun z => [(blk b2 28 (LineV.cells (LineV.mk (TrackV.mk (Slc.mk kA l.Track.length kC)) l.Fast (Slc.mk cA l.Clocks.length cC) (Slc.mk bA l.Beams.length bC) l.Finish l.Fakes l.Misses))), (rd kA l.Track.length 9 (l.Track.map StretchV.cells)).ro, (rd cA l.Clocks.length 2 (List.zipWith ClockM.cells l.Clocks az)).ro, (bun (nest ClockM.rds l.Clocks az)).ro, (rd bA l.Beams.length 4 (l.Beams.map BeamV.cells)).ro]) (fun z => l.Clocks.length - z.1) ⟨0, hinit⟩ (Sub.cons rfl <| Sub.cons rfl <| Sub.nil _) (fun w hs => St.sel [0, 1, 2, 3, 4] rfl rfl hs) ?_
 clear hinit
 rintro ⟨i, ⟨hl4_0, hl4_1⟩⟩ J13 hJ13
 try dsimp only
 refine w_seq fun _ hK14 => WS fun _ hK15 => rS (MV rfl) <| rS (FA 2 rfl fo28_2 rfl) <| rS (L1 (Value.slice cA l.Clocks.length cC) 0 rfl tk25 rfl rfl) <| rS (LN rfl ut25) <| rS (BI rfl b_lss) <| RK hK15 ?_
 refine w_if rfl (fun h50 => ?_) (fun h50 => ?_)
 · replace h50 := DT h50
   refine WK hK14 <| w_seq fun _ hK16 => w_block <| WS fun _ hK17 => rS (FA 2 rfl fo28_2 rfl) <| rS (L1 (Value.slice cA l.Clocks.length cC) 0 rfl tk25 rfl rfl) <| rS (MV rfl) ?_
   obtain ⟨x, hx⟩ : ∃ y_, l.Clocks[i]? = some y_ := ⟨l.Clocks[i]'(by omega), List.getElem?_eq_getElem _⟩
   obtain ⟨xa, hxa⟩ : ∃ y_, az[i]? = some y_ := ⟨az[i]'(by omega), List.getElem?_eq_getElem _⟩
   have hxm : (List.zipWith ClockM.cells l.Clocks az)[i]? = some (ClockM.cells x xa) := zip_get hx hxa
   refine rS (IA i rfl (has_at 2 rfl) te25 (by decide) (by omega) (by omega)) <| rS (LEN i 0 (ClockV.cells (ClockV.mk x.Drift (Slc.mk xa.1 x.Syncs.length xa.2))) rfl tk63 (has_at 2 rfl) hxm rfl (by decide) rfl rfl) ?_
   have hsy := (hin.syn _ _ _ hx hxa).2
   refine rS (CL (rclock_c x xa.1 xa.2 (by first | assumption | omega | (simp; done) | (simp; omega))) (ha_cons (show Has _ (rd xa.1 x.Syncs.length 3 (x.Syncs.map SyncV.cells)).holds from (has_inr 3 rfl (mem_nest hx hxa (by simp [ClockM.rds])))) <| ha_nil) rfl) <| rS (NT rfl) <| RK hK17 ?_
   refine w_if rfl (fun h59 => ?_) (fun h59 => ?_)
   rotate_left 1
   · replace h59 := XF h59
     refine w_skip <| k_block <| KK hK16 <| w_region <| rS (MV rfl) <| rS (BI rfl (b_add ⟨by omega, by omega⟩)) <| rS (AG rfl) <| r_nil ?_
     have hb19 : (Value.int .i64 (((i + 1) : Nat) : Int)) = (Value.int .i64 (((i : Nat) : Int) + 1)) := by exact congrArg (Value.int .i64) (by omega)
     refine k_then (hJ13 ⟨(i + 1), ⟨by omega, upto_succ (P := fun _ y => ClockOk y) hl4_1 hx h59⟩⟩ _ _ _ rfl (by first | omega | (simp; omega)) (Sub.cons rfl <| sub_val rfl hb19 <| Sub.nil _) (fun w hs => St.sel [0, 1, 2, 3, 4] rfl rfl hs))
   replace h59 := XT h59
   refine WS fun _ hK18 => rS (AG rfl) <| RK hK18 <| w_ret <| Q1 hQ rfl rfl rfl ?_
   first | exact congrArg Value.bool (decide_eq_false fun h => by have q := h.head; unfold HeadOk at q; omega).symm | exact congrArg Value.bool (decide_eq_false fun h => h59 (h.clock _ (List.mem_of_getElem? hx))).symm | exact congrArg Value.bool (decide_eq_false fun h => by have q := h.beam _ (List.mem_of_getElem? hy); have q2 := q.2; first | exact h77 q.1 | omega).symm | exact congrArg Value.bool (decide_eq_false fun h => by have q := h.way n (by omega); simp only [Int.toNat_natCast] at h101; omega).symm | exact congrArg Value.bool (decide_eq_true (line_head (by unfold HeadOk; omega) (upto_mem (by omega) hl4_1) (upto_mem (by omega) hl9_1) (fun j hj => hl14_1 j (by omega)))).symm
 replace h50 := DF h50
 refine w_exit <| k_exit_then <| k_exit_then <| k_exit_same <| KK hK11 <| w_seq fun _ hK20 => WS fun _ hK21 => rS (AG rfl) <| RK hK21 <| w_block ?_
 have hinit : (0 ≤ l.Beams.length) ∧ (∀ (j : Nat) y, j < 0 → l.Beams[j]? = some y → BeamOk l y) := by exact ⟨Nat.zero_le _, fun j y hj => absurd hj (Nat.not_lt_zero _)⟩
 refine w_loop (ι := { z : Nat // (z ≤ l.Beams.length) ∧ (∀ (j : Nat) y, j < z → l.Beams[j]? = some y → BeamOk l y) }) (fun z => [(1, (Value.pointer (some ⟨b2, 0, none⟩))), (4, (Value.int .i64 ((z.1 : Nat) : Int)))]) (fun z => [(blk b2 28 (LineV.cells (LineV.mk (TrackV.mk (Slc.mk kA l.Track.length kC)) l.Fast (Slc.mk cA l.Clocks.length cC) (Slc.mk bA l.Beams.length bC) l.Finish l.Fakes l.Misses))), (rd kA l.Track.length 9 (l.Track.map StretchV.cells)).ro, (rd cA l.Clocks.length 2 (List.zipWith ClockM.cells l.Clocks az)).ro, (bun (nest ClockM.rds l.Clocks az)).ro, (rd bA l.Beams.length 4 (l.Beams.map BeamV.cells)).ro]) (fun z => l.Beams.length - z.1) ⟨0, hinit⟩ (Sub.cons rfl <| Sub.cons rfl <| Sub.nil _) (fun w hs => St.sel [0, 1, 2, 3, 4] rfl rfl hs) ?_
 clear hinit
 rintro ⟨m, ⟨hl9_0, hl9_1⟩⟩ J22 hJ22
 try dsimp only
 refine w_seq fun _ hK23 => WS fun _ hK24 => rS (MV rfl) <| rS (FA 3 rfl fo28_3 rfl) <| rS (L1 (Value.slice bA l.Beams.length bC) 0 rfl tk26 rfl rfl) <| rS (LN rfl ut26) <| rS (BI rfl b_lss) <| RK hK24 ?_
 refine w_if rfl (fun h64 => ?_) (fun h64 => ?_)
 rotate_left 1
 · replace h64 := DF h64
   refine w_exit <| k_exit_then <| k_exit_then <| k_exit_same <| KK hK20 <| w_seq fun _ hK30 => WS fun _ hK31 => rS (AG rfl) <| RK hK31 <| w_block ?_
   have hinit : (0 ≤ l.Beams.length) ∧ (∀ j, j < 0 → 1 ≤ wayF l j) := by exact ⟨Nat.zero_le _, fun j hj => absurd hj (Nat.not_lt_zero _)⟩
   refine w_loop (ι := { z : Nat // (z ≤ l.Beams.length) ∧ (∀ j, j < z → 1 ≤ wayF l j) }) (fun z => [(1, (Value.pointer (some ⟨b2, 0, none⟩))), (5, (Value.int .i64 ((z.1 : Nat) : Int)))]) (fun z => [(blk b2 28 (LineV.cells (LineV.mk (TrackV.mk (Slc.mk kA l.Track.length kC)) l.Fast (Slc.mk cA l.Clocks.length cC) (Slc.mk bA l.Beams.length bC) l.Finish l.Fakes l.Misses))), (rd kA l.Track.length 9 (l.Track.map StretchV.cells)).ro, (rd cA l.Clocks.length 2 (List.zipWith ClockM.cells l.Clocks az)).ro, (bun (nest ClockM.rds l.Clocks az)).ro, (rd bA l.Beams.length 4 (l.Beams.map BeamV.cells)).ro]) (fun z => l.Beams.length - z.1) ⟨0, hinit⟩ (Sub.cons rfl <| Sub.cons rfl <| Sub.nil _) (fun w hs => St.sel [0, 1, 2, 3, 4] rfl rfl hs) ?_
   clear hinit
   rintro ⟨n, ⟨hl14_0, hl14_1⟩⟩ J32 hJ32
   try dsimp only
   have hbk := upto_mem (P := BeamOk l) (by omega) hl9_1
   refine w_seq fun _ hK33 => WS fun _ hK34 => rS (MV rfl) <| rS (FA 3 rfl fo28_3 rfl) <| rS (L1 (Value.slice bA l.Beams.length bC) 0 rfl tk26 rfl rfl) <| rS (LN rfl ut26) <| rS (BI rfl b_lss) <| RK hK34 ?_
   refine w_if rfl (fun h95 => ?_) (fun h95 => ?_)
   rotate_left 1
   · replace h95 := DF h95
     refine w_exit <| k_exit_then <| k_exit_then <| k_exit_same <| KK hK30 <| WS fun _ hK39 => rS (AG rfl) <| RK hK39 <| w_ret <| Q1 hQ rfl rfl rfl ?_
     first | exact congrArg Value.bool (decide_eq_false fun h => by have q := h.head; unfold HeadOk at q; omega).symm | exact congrArg Value.bool (decide_eq_false fun h => h59 (h.clock _ (List.mem_of_getElem? hx))).symm | exact congrArg Value.bool (decide_eq_false fun h => by have q := h.beam _ (List.mem_of_getElem? hy); have q2 := q.2; first | exact h77 q.1 | omega).symm | exact congrArg Value.bool (decide_eq_false fun h => by have q := h.way n (by omega); simp only [Int.toNat_natCast] at h101; omega).symm | exact congrArg Value.bool (decide_eq_true (line_head (by unfold HeadOk; omega) (upto_mem (by omega) hl4_1) (upto_mem (by omega) hl9_1) (fun j hj => hl14_1 j (by omega)))).symm
   replace h95 := DT h95
   refine WK hK33 <| w_seq fun _ hK35 => w_block <| WS fun _ hK36 => rS (LW 0 rfl tk28 rfl rfl) <| rS (MV rfl) <| rS (CL (rway_c l kA kC az cA cC bA bC ((n : Nat) : Int) hin htr (by first | assumption | omega | (simp; done) | (simp; omega)) (by first | assumption | omega | (simp; done) | (simp; omega))) (ha_at 1 rfl rfl <| ha_at 2 rfl rfl <| ha_at 3 rfl rfl <| ha_at 4 rfl rfl <| ha_nil) rfl) <| rS (BI rfl b_lss) <| RK hK36 ?_
   refine w_if rfl (fun h101 => ?_) (fun h101 => ?_)
   rotate_left 1
   · replace h101 := DF h101
     refine w_skip <| k_block <| KK hK35 <| w_region <| rS (MV rfl) <| rS (BI rfl (b_add ⟨by omega, by omega⟩)) <| rS (AG rfl) <| r_nil ?_
     have hb38 : (Value.int .i64 (((n + 1) : Nat) : Int)) = (Value.int .i64 (((n : Nat) : Int) + 1)) := by exact congrArg (Value.int .i64) (by omega)
     refine k_then (hJ32 ⟨(n + 1), ⟨by omega, fun j hj => by rcases Nat.lt_or_ge j n with q | q; exact hl14_1 j q; (obtain rfl : j = n := by omega); simp only [Int.toNat_natCast] at h101; omega⟩⟩ _ _ _ rfl (by first | omega | (simp; omega)) (Sub.cons rfl <| sub_val rfl hb38 <| Sub.nil _) (fun w hs => St.sel [0, 1, 2, 3, 4] rfl rfl hs))
   replace h101 := DT h101
   refine WS fun _ hK37 => rS (AG rfl) <| RK hK37 <| w_ret <| Q1 hQ rfl rfl rfl ?_
   first | exact congrArg Value.bool (decide_eq_false fun h => by have q := h.head; unfold HeadOk at q; omega).symm | exact congrArg Value.bool (decide_eq_false fun h => h59 (h.clock _ (List.mem_of_getElem? hx))).symm | exact congrArg Value.bool (decide_eq_false fun h => by have q := h.beam _ (List.mem_of_getElem? hy); have q2 := q.2; first | exact h77 q.1 | omega).symm | exact congrArg Value.bool (decide_eq_false fun h => by have q := h.way n (by omega); simp only [Int.toNat_natCast] at h101; omega).symm | exact congrArg Value.bool (decide_eq_true (line_head (by unfold HeadOk; omega) (upto_mem (by omega) hl4_1) (upto_mem (by omega) hl9_1) (fun j hj => hl14_1 j (by omega)))).symm
 replace h64 := DT h64
 refine WK hK23 <| w_seq fun _ hK25 => w_block <| w_seq fun _ hK26 => w_draw mixed 24 (by kernel_rfl) <| dS (FA 0 rfl fo28_0 rfl) <| dS (LP (TrackV.cells (TrackV.mk (Slc.mk kA l.Track.length kC))) 0 rfl tk24 rfl rfl rfl) <| dS (FA 3 rfl fo28_3 rfl) <| dS (L1 (Value.slice bA l.Beams.length bC) 0 rfl tk26 rfl rfl) <| dS (MV rfl) ?_
 obtain ⟨y, hy⟩ : ∃ y_, l.Beams[m]? = some y_ := ⟨l.Beams[m]'(by omega), List.getElem?_eq_getElem _⟩
 have hym : (l.Beams.map BeamV.cells)[m]? = some (BeamV.cells y) := by rw [List.getElem?_map, hy]; rfl
 refine dS (IA m rfl (has_at 4 rfl) te26 (by decide) (by omega) (by omega)) <| dS (FAR (m * 4) rfl (has_at 4 rfl) (Nat.mul_pos (by omega) (by decide)) fo101_0 rfl) <| dS (LEN m 0 (SpotV.cells y.Spot) rfl tk99 (has_at 4 rfl) hym rfl (by decide) rfl rfl) <| dS (CL (rspot_c l.Track kA kC y.Spot (by first | assumption | omega | (simp; done) | (simp; omega)) (by first | assumption | omega | (simp; done) | (simp; omega))) (ha_at 1 rfl rfl <| ha_nil) rfl) <| dS (NT rfl) <| dS (MV rfl) ?_
 refine d_bool (t := 77) rfl (fun h77 => ?_) (fun h77 => ?_)
 · replace h77 := XT h77
   refine dS (OX rfl) <| dS (OX rfl) <| dS (OX rfl) <| dS (OX rfl) <| dS (OX rfl) <| dS (OX rfl) <| dS (OX rfl) <| dS (OX rfl) <| dS (OX rfl) <| dS (OX rfl) ?_
   refine dS (OX rfl) <| dS (OX rfl) <| dS (PK rfl) <| d_end <| RK hK26 <| w_if_true rfl <| WS fun _ hK27 => rS (AG rfl) <| RK hK27 <| w_ret ?_
   refine Q1 hQ rfl rfl rfl ?_
   first | exact congrArg Value.bool (decide_eq_false fun h => by have q := h.head; unfold HeadOk at q; omega).symm | exact congrArg Value.bool (decide_eq_false fun h => h59 (h.clock _ (List.mem_of_getElem? hx))).symm | exact congrArg Value.bool (decide_eq_false fun h => by have q := h.beam _ (List.mem_of_getElem? hy); have q2 := q.2; first | exact h77 q.1 | omega).symm | exact congrArg Value.bool (decide_eq_false fun h => by have q := h.way n (by omega); simp only [Int.toNat_natCast] at h101; omega).symm | exact congrArg Value.bool (decide_eq_true (line_head (by unfold HeadOk; omega) (upto_mem (by omega) hl4_1) (upto_mem (by omega) hl9_1) (fun j hj => hl14_1 j (by omega)))).symm
 replace h77 := XF h77
 refine dS (FA 3 rfl fo28_3 rfl) <| dS (L1 (Value.slice bA l.Beams.length bC) 0 rfl tk26 rfl rfl) <| dS (MV rfl) <| dS (IA m rfl (has_at 4 rfl) te26 (by decide) (by omega) (by omega)) <| dS (FAR ((m * 4) + 3) rfl (has_at 4 rfl) (Nat.mul_pos (by omega) (by decide)) fo101_1 rfl) <| dS (LE1 m 3 (Value.int .i64 y.Clock) rfl tk3 (has_at 4 rfl) hym rfl (by decide) rfl) <| dS (FA 2 rfl fo28_2 rfl) <| dS (L1 (Value.slice cA l.Clocks.length cC) 0 rfl tk25 rfl rfl) <| dS (LN rfl ut25) <| dS (BI rfl (b_sub ⟨by omega, by omega⟩)) ?_
 refine dS (CL (within_5 y.Clock 0 (((l.Clocks.length : Nat) : Int) - 1)) (ha_nil) rfl) <| dS (NT rfl) <| dS (PK rfl) <| d_end <| RK hK26 ?_
 refine w_if rfl (fun h90 => ?_) (fun h90 => ?_)
 rotate_left 1
 · replace h90 := XF h90
   refine w_skip <| k_block <| KK hK25 <| w_region <| rS (MV rfl) <| rS (BI rfl (b_add ⟨by omega, by omega⟩)) <| rS (AG rfl) <| r_nil ?_
   have hb29 : (Value.int .i64 (((m + 1) : Nat) : Int)) = (Value.int .i64 (((m : Nat) : Int) + 1)) := by exact congrArg (Value.int .i64) (by omega)
   refine k_then (hJ22 ⟨(m + 1), ⟨by omega, upto_succ (P := fun _ y => BeamOk l y) hl9_1 hy ⟨h77, by omega, by omega⟩⟩⟩ _ _ _ rfl (by first | omega | (simp; omega)) (Sub.cons rfl <| sub_val rfl hb29 <| Sub.nil _) (fun w hs => St.sel [0, 1, 2, 3, 4] rfl rfl hs))
 replace h90 := XT h90
 refine WS fun _ hK28 => rS (AG rfl) <| RK hK28 <| w_ret <| Q1 hQ rfl rfl rfl ?_
 first | exact congrArg Value.bool (decide_eq_false fun h => by have q := h.head; unfold HeadOk at q; omega).symm | exact congrArg Value.bool (decide_eq_false fun h => h59 (h.clock _ (List.mem_of_getElem? hx))).symm | exact congrArg Value.bool (decide_eq_false fun h => by have q := h.beam _ (List.mem_of_getElem? hy); have q2 := q.2; first | exact h77 q.1 | omega).symm | exact congrArg Value.bool (decide_eq_false fun h => by have q := h.way n (by omega); simp only [Int.toNat_natCast] at h101; omega).symm | exact congrArg Value.bool (decide_eq_true (line_head (by unfold HeadOk; omega) (upto_mem (by omega) hl4_1) (upto_mem (by omega) hl9_1) (fun j hj => hl14_1 j (by omega)))).symm
end
section
open Go.RowKit
set_option linter.unusedVariables false
set_option maxRecDepth 100000 in
set_option maxHeartbeats 400000 in
theorem rcheck_c (l : LineM) (kA : Option Addr) (kC : Nat) (az : List RA) (cA : Option Addr) (cC : Nat) (bA : Option Addr) (bC : Nat) (hin : LineIn l az) :
    FnV Tryz.prog 41 [(Value.agg (LineV.cells (LineV.mk (TrackV.mk (Slc.mk kA l.Track.length kC)) l.Fast (Slc.mk cA l.Clocks.length cC) (Slc.mk bA l.Beams.length bC) l.Finish l.Fakes l.Misses)).toArray)] [(rd kA l.Track.length 9 (l.Track.map StretchV.cells)), (rd cA l.Clocks.length 2 (List.zipWith ClockM.cells l.Clocks az)), (bun (nest ClockM.rds l.Clocks az)), (rd bA l.Beams.length 4 (l.Beams.map BeamV.cells))] (Value.int .i64 (lineE l)) := by
 have htk := hin.trk
 have hck := hin.cks
 have has := hin.as_
 have hbm := hin.bms
 refine fnV_of go41 Tryz.func41 rfl rfl fun w0 Q hQ hN => ?_
 try dsimp only
 refine WS fun _ hK1 => BXA rfl fun b2 => rS (AG rfl) <| RK hK1 <| w_seq fun _ hK3 => WS fun _ hK4 => rS (FA 0 rfl fo28_0 rfl) <| rS (LP (TrackV.cells (TrackV.mk (Slc.mk kA l.Track.length kC))) 0 rfl tk24 rfl rfl rfl) <| rS (CL (track_c l.Track kA kC (by first | assumption | omega | (simp; done) | (simp; omega))) (ha_at 1 rfl rfl <| ha_nil) rfl) <| rS (NT rfl) ?_
 refine RK hK4 ?_
 refine w_if rfl (fun h6 => ?_) (fun h6 => ?_)
 · rw [Bool.not_eq_true'] at h6
   refine WS fun _ hK5 => rS (AG rfl) <| RK hK5 <| w_ret <| Q1 hQ rfl rfl rfl ?_
   first | exact congrArg (Value.int .i64) (lineE_bad (by simpa using h6)).symm | exact congrArg (Value.int .i64) (lineE_no h6 h9).symm | exact congrArg (Value.int .i64) (lineE_ok h6 h9).symm
 rw [Bool.not_eq_false'] at h6
 refine WK hK3 <| w_seq fun _ hK6 => WS fun _ hK7 => rS (LW 0 rfl tk28 rfl rfl) <| rS (CL (rline_c l kA kC az cA cC bA bC hin (by first | assumption | omega | (simp; done) | (simp; omega))) (ha_at 1 rfl rfl <| ha_at 2 rfl rfl <| ha_at 3 rfl rfl <| ha_at 4 rfl rfl <| ha_nil) rfl) <| rS (NT rfl) <| RK hK7 ?_
 refine w_if rfl (fun h9 => ?_) (fun h9 => ?_)
 · replace h9 := XT h9
   refine WS fun _ hK8 => rS (AG rfl) <| RK hK8 <| w_ret <| Q1 hQ rfl rfl rfl ?_
   first | exact congrArg (Value.int .i64) (lineE_bad (by simpa using h6)).symm | exact congrArg (Value.int .i64) (lineE_no h6 h9).symm | exact congrArg (Value.int .i64) (lineE_ok h6 h9).symm
 replace h9 := XF h9
 refine WK hK6 <| WS fun _ hK9 => rS (AG rfl) <| RK hK9 <| w_ret <| Q1 hQ rfl rfl rfl ?_
 first | exact congrArg (Value.int .i64) (lineE_bad (by simpa using h6)).symm | exact congrArg (Value.int .i64) (lineE_no h6 h9).symm | exact congrArg (Value.int .i64) (lineE_ok h6 h9).symm
end
section
open Go.RowKit
set_option linter.unusedVariables false
set_option maxRecDepth 100000 in
set_option maxHeartbeats 400000 in
theorem ready_c (l : LineM) (kA : Option Addr) (kC : Nat) (az : List RA) (cA : Option Addr) (cC : Nat) (bA : Option Addr) (bC : Nat) (hraw : LineRaw l az) :
    FnV Tryz.prog 26 [(Value.agg (LineV.cells (LineV.mk (TrackV.mk (Slc.mk kA l.Track.length kC)) l.Fast (Slc.mk cA l.Clocks.length cC) (Slc.mk bA l.Beams.length bC) l.Finish l.Fakes l.Misses)).toArray)] [(rd kA l.Track.length 9 (l.Track.map StretchV.cells)), (rd cA l.Clocks.length 2 (List.zipWith ClockM.cells l.Clocks az)), (bun (nest ClockM.rds l.Clocks az)), (rd bA l.Beams.length 4 (l.Beams.map BeamV.cells))] (Value.bool (decide (ReadyL l))) := by
 refine fnV_of go26 Tryz.func26 rfl rfl fun w0 Q hQ hN => ?_
 try dsimp only
 refine WS fun _ hK1 => BXA rfl fun b2 => rS (AG rfl) <| RK hK1 <| WS fun _ hK3 => rS (LW 0 rfl tk28 rfl rfl) <| rS (CL (lgreat_c l kA kC az cA cC bA bC hraw) (ha_at 1 rfl rfl <| ha_at 2 rfl rfl <| ha_at 3 rfl rfl <| ha_at 4 rfl rfl <| ha_nil) rfl) <| rS (NT rfl) <| rS (MV rfl) ?_
 refine r_bool (t := 6) rfl (fun h6 => ?_) (fun h6 => ?_)
 rotate_left 1
 · replace h6 := XF h6
   refine rS (OX rfl) <| rS (OX rfl) <| rS (OX rfl) <| rS (PK rfl) <| rS (AG rfl) <| RK hK3 <| w_ret <| Q1 hQ rfl rfl rfl ?_
   first | exact congrArg Value.bool (decide_eq_false fun q => q.1 h6).symm | exact congrArg Value.bool (decide_eq_decide.2 ⟨fun q => ⟨h6, q⟩, fun q => q.2⟩)
 replace h6 := XT h6
 refine rS (LW 0 rfl tk28 rfl rfl) ?_
 have hin := hraw.small h6
 refine rS (CL (rcheck_c l kA kC az cA cC bA bC (by first | assumption | omega | (simp; done) | (simp; omega))) (ha_at 1 rfl rfl <| ha_at 2 rfl rfl <| ha_at 3 rfl rfl <| ha_at 4 rfl rfl <| ha_nil) rfl) <| rS (BI rfl b_eql) <| rS (PK rfl) <| rS (AG rfl) <| RK hK3 <| w_ret <| Q1 hQ rfl rfl rfl ?_
 first | exact congrArg Value.bool (decide_eq_false fun q => q.1 h6).symm | exact congrArg Value.bool (decide_eq_decide.2 ⟨fun q => ⟨h6, q⟩, fun q => q.2⟩)
set_option maxRecDepth 100000 in
set_option maxHeartbeats 400000 in
theorem rride_c (l : LineM) (kA : Option Addr) (kC : Nat) (az : List RA) (cA : Option Addr) (cC : Nat) (bA : Option Addr) (bC : Nat) (r : RideM) (sgA : Option Addr) (sgC : Nat) (hin : LineIn l az) (hsl : r.Signals.length ≤ 1000000) :
    FnV Tryz.prog 42 [(Value.agg (LineV.cells (LineV.mk (TrackV.mk (Slc.mk kA l.Track.length kC)) l.Fast (Slc.mk cA l.Clocks.length cC) (Slc.mk bA l.Beams.length bC) l.Finish l.Fakes l.Misses)).toArray), (Value.agg (RideV.cells (RideV.mk r.Start r.Now (Slc.mk sgA r.Signals.length sgC))).toArray)] [(rd kA l.Track.length 9 (l.Track.map StretchV.cells)), (rd cA l.Clocks.length 2 (List.zipWith ClockM.cells l.Clocks az)), (bun (nest ClockM.rds l.Clocks az)), (rd bA l.Beams.length 4 (l.Beams.map BeamV.cells)), (rd sgA r.Signals.length 2 (r.Signals.map SignalV.cells))] (Value.bool (decide (RideOk l r))) := by
 have htk := hin.trk
 have hck := hin.cks
 have has := hin.as_
 have hbm := hin.bms
 refine fnV_of go42 Tryz.func42 rfl rfl fun w0 Q hQ hN => ?_
 try dsimp only
 refine WS fun _ hK1 => BXA rfl fun b2 => BXA rfl fun b3 => rS (AG rfl) <| RK hK1 <| w_seq fun _ hK4 => WS fun _ hK5 => rS (FA 0 rfl fo31_0 rfl) <| rS (L1 (Value.int .i64 r.Start) 0 rfl tk3 rfl rfl) <| rS (CL (within_5 r.Start 0 86400000) (ha_nil) rfl) ?_
 refine rS (NT rfl) <| rS (MV rfl) ?_
 refine r_bool (t := 11) rfl (fun h11 => ?_) (fun h11 => ?_)
 · replace h11 := XT h11
   refine rS (OX rfl) <| rS (OX rfl) <| rS (OX rfl) <| rS (OX rfl) <| rS (OX rfl) <| rS (OX rfl) <| rS (PK rfl) <| rS (MV rfl) <| rS (OX rfl) <| rS (OX rfl) ?_
   refine rS (OX rfl) <| rS (OX rfl) <| rS (PK rfl) <| RK hK5 <| w_if_true rfl <| WS fun _ hK6 => rS (AG rfl) <| RK hK6 <| w_ret <| Q1 hQ rfl rfl rfl ?_
   first | exact congrArg Value.bool (decide_eq_false fun q => by have q1 := q.time; have q2 := q.len; omega).symm | exact congrArg Value.bool (decide_eq_true (ride_all (by omega) (by omega) hl4_1 (by omega))).symm | exact congrArg Value.bool (decide_eq_false fun q => by have q1 := q.sig i x hx; unfold SigOk SigIn at q1; first | omega | (rw [prevS_pos (by omega) hy] at q1; omega)).symm
 replace h11 := XF h11
 refine rS (FA 1 rfl fo31_1 rfl) <| rS (L1 (Value.int .i64 r.Now) 0 rfl tk3 rfl rfl) <| rS (FA 0 rfl fo31_0 rfl) <| rS (L1 (Value.int .i64 r.Start) 0 rfl tk3 rfl rfl) <| rS (CL (within_5 r.Now r.Start 86400000) (ha_nil) rfl) <| rS (NT rfl) <| rS (PK rfl) <| rS (MV rfl) ?_
 refine r_bool (t := 19) rfl (fun h19 => ?_) (fun h19 => ?_)
 · replace h19 := XT h19
   refine rS (OX rfl) <| rS (OX rfl) <| rS (OX rfl) <| rS (OX rfl) <| rS (PK rfl) <| RK hK5 <| w_if_true rfl <| WS fun _ hK7 => rS (AG rfl) <| RK hK7 ?_
   refine w_ret <| Q1 hQ rfl rfl rfl ?_
   first | exact congrArg Value.bool (decide_eq_false fun q => by have q1 := q.time; have q2 := q.len; omega).symm | exact congrArg Value.bool (decide_eq_true (ride_all (by omega) (by omega) hl4_1 (by omega))).symm | exact congrArg Value.bool (decide_eq_false fun q => by have q1 := q.sig i x hx; unfold SigOk SigIn at q1; first | omega | (rw [prevS_pos (by omega) hy] at q1; omega)).symm
 replace h19 := XF h19
 refine rS (FA 2 rfl fo31_2 rfl) <| rS (L1 (Value.slice sgA r.Signals.length sgC) 0 rfl tk29 rfl rfl) <| rS (LN rfl ut29) <| rS (BI rfl b_gtr) <| rS (PK rfl) <| RK hK5 ?_
 refine w_if rfl (fun h24 => ?_) (fun h24 => ?_)
 · replace h24 := DT h24
   refine WS fun _ hK8 => rS (AG rfl) <| RK hK8 <| w_ret <| Q1 hQ rfl rfl rfl ?_
   first | exact congrArg Value.bool (decide_eq_false fun q => by have q1 := q.time; have q2 := q.len; omega).symm | exact congrArg Value.bool (decide_eq_true (ride_all (by omega) (by omega) hl4_1 (by omega))).symm | exact congrArg Value.bool (decide_eq_false fun q => by have q1 := q.sig i x hx; unfold SigOk SigIn at q1; first | omega | (rw [prevS_pos (by omega) hy] at q1; omega)).symm
 replace h24 := DF h24
 refine WK hK4 <| w_seq fun _ hK9 => WS fun _ hK10 => rS (AG rfl) <| RK hK10 <| w_block ?_
 have hinit : (0 ≤ r.Signals.length) ∧ (SigsTo l r.Signals 0) := by exact ⟨Nat.zero_le _, sigs_zero⟩
 refine w_loop (ι := { z : Nat // (z ≤ r.Signals.length) ∧ (SigsTo l r.Signals z) }) (fun z => [(2, (Value.pointer (some ⟨b2, 0, none⟩))), (3, (Value.pointer (some ⟨b3, 0, none⟩))), (5, (Value.int .i64 ((z.1 : Nat) : Int)))]) (fun z => [(blk b3 31 (RideV.cells (RideV.mk r.Start r.Now (Slc.mk sgA r.Signals.length sgC)))), (blk b2 28 (LineV.cells (LineV.mk (TrackV.mk (Slc.mk kA l.Track.length kC)) l.Fast (Slc.mk cA l.Clocks.length cC) (Slc.mk bA l.Beams.length bC) l.Finish l.Fakes l.Misses))), (rd kA l.Track.length 9 (l.Track.map StretchV.cells)).ro, (rd cA l.Clocks.length 2 (List.zipWith ClockM.cells l.Clocks az)).ro, (bun (nest ClockM.rds l.Clocks az)).ro, (rd bA l.Beams.length 4 (l.Beams.map BeamV.cells)).ro, (rd sgA r.Signals.length 2 (r.Signals.map SignalV.cells)).ro]) (fun z => r.Signals.length - z.1) ⟨0, hinit⟩ (Sub.cons rfl <| Sub.cons rfl <| Sub.cons rfl <| Sub.nil _) (fun w hs => St.sel [0, 1, 2, 3, 4, 5, 6] rfl rfl hs) ?_
 clear hinit
 rintro ⟨i, ⟨hl4_0, hl4_1⟩⟩ J11 hJ11
 try dsimp only
 refine w_seq fun _ hK12 => WS fun _ hK13 => rS (MV rfl) <| rS (FA 2 rfl fo31_2 rfl) <| rS (L1 (Value.slice sgA r.Signals.length sgC) 0 rfl tk29 rfl rfl) <| rS (LN rfl ut29) <| rS (BI rfl b_lss) <| RK hK13 ?_
 refine w_if rfl (fun h14 => ?_) (fun h14 => ?_)
 rotate_left 1
 · replace h14 := DF h14
   refine w_exit <| k_exit_then <| k_exit_then <| k_exit_same <| KK hK9 <| WS fun _ hK28 => rS (AG rfl) <| RK hK28 <| w_ret <| Q1 hQ rfl rfl rfl ?_
   first | exact congrArg Value.bool (decide_eq_false fun q => by have q1 := q.time; have q2 := q.len; omega).symm | exact congrArg Value.bool (decide_eq_true (ride_all (by omega) (by omega) hl4_1 (by omega))).symm | exact congrArg Value.bool (decide_eq_false fun q => by have q1 := q.sig i x hx; unfold SigOk SigIn at q1; first | omega | (rw [prevS_pos (by omega) hy] at q1; omega)).symm
 replace h14 := DT h14
 refine WK hK12 <| w_seq fun _ hK15 => w_block <| WS fun _ hK16 => rS (FA 2 rfl fo31_2 rfl) <| rS (L1 (Value.slice sgA r.Signals.length sgC) 0 rfl tk29 rfl rfl) <| rS (MV rfl) ?_
 obtain ⟨x, hx⟩ : ∃ y_, r.Signals[i]? = some y_ := ⟨r.Signals[i]'(by omega), List.getElem?_eq_getElem _⟩
 have hxm : (r.Signals.map SignalV.cells)[i]? = some (SignalV.cells x) := by rw [List.getElem?_map, hx]; rfl
 refine rS (IA i rfl (has_at 6 rfl) te29 (by decide) (by omega) (by omega)) <| rS (LEN i 0 (SignalV.cells x) rfl tk67 (has_at 6 rfl) hxm rfl (by decide) rfl rfl) <| AL rfl tz67 fun b17 => SW0 rfl ts67 rfl <| RK hK16 <| w_seq fun _ hK18 => WS fun _ hK19 => rS (FA 0 rfl fo67_0 rfl) <| rS (L1 (Value.int .i64 x.Beam) 0 rfl tk3 rfl rfl) <| rS (FA 3 rfl fo28_3 rfl) ?_
 refine rS (L1 (Value.slice bA l.Beams.length bC) 2 rfl tk26 rfl rfl) <| rS (LN rfl ut26) <| rS (BI rfl (b_sub ⟨by omega, by omega⟩)) <| rS (CL (within_5 x.Beam 0 (((l.Beams.length : Nat) : Int) - 1)) (ha_nil) rfl) <| rS (NT rfl) <| rS (MV rfl) ?_
 refine r_bool (t := 45) rfl (fun h45 => ?_) (fun h45 => ?_)
 · replace h45 := XT h45
   refine rS (OX rfl) <| rS (OX rfl) <| rS (OX rfl) <| rS (OX rfl) <| rS (PK rfl) <| RK hK19 <| w_if_true rfl <| WS fun _ hK20 => rS (AG rfl) <| RK hK20 ?_
   refine w_ret <| Q1 hQ rfl rfl rfl ?_
   first | exact congrArg Value.bool (decide_eq_false fun q => by have q1 := q.time; have q2 := q.len; omega).symm | exact congrArg Value.bool (decide_eq_true (ride_all (by omega) (by omega) hl4_1 (by omega))).symm | exact congrArg Value.bool (decide_eq_false fun q => by have q1 := q.sig i x hx; unfold SigOk SigIn at q1; first | omega | (rw [prevS_pos (by omega) hy] at q1; omega)).symm
 replace h45 := XF h45
 refine rS (FA 1 rfl fo67_1 rfl) <| rS (L1 (Value.int .i64 x.Read) 0 rfl tk3 rfl rfl) <| rS (CL (within_5 x.Read 0 86400000) (ha_nil) rfl) <| rS (NT rfl) <| rS (PK rfl) <| RK hK19 ?_
 refine w_if rfl (fun h50 => ?_) (fun h50 => ?_)
 · replace h50 := XT h50
   refine WS fun _ hK21 => rS (AG rfl) <| RK hK21 <| w_ret <| Q1 hQ rfl rfl rfl ?_
   first | exact congrArg Value.bool (decide_eq_false fun q => by have q1 := q.time; have q2 := q.len; omega).symm | exact congrArg Value.bool (decide_eq_true (ride_all (by omega) (by omega) hl4_1 (by omega))).symm | exact congrArg Value.bool (decide_eq_false fun q => by have q1 := q.sig i x hx; unfold SigOk SigIn at q1; first | omega | (rw [prevS_pos (by omega) hy] at q1; omega)).symm
 replace h50 := XF h50
 refine WK hK18 <| w_seq fun _ hK22 => w_draw mixed 38 (by kernel_rfl) <| dS (MV rfl) <| dS (BI rfl b_gtr) <| dS (MV rfl) ?_
 refine d_bool (t := 53) rfl (fun h53 => ?_) (fun h53 => ?_)
 rotate_left 1
 · replace h53 := DF h53
   refine dS (OX rfl) <| dS (OX rfl) <| dS (OX rfl) <| dS (OX rfl) <| dS (OX rfl) <| dS (OX rfl) <| dS (OX rfl) <| dS (OX rfl) <| dS (OX rfl) <| dS (OX rfl) ?_
   refine dS (OX rfl) <| dS (OX rfl) <| dS (OX rfl) <| dS (OX rfl) <| dS (OX rfl) <| dS (OX rfl) <| dS (OX rfl) <| dS (OX rfl) <| dS (OX rfl) <| dS (OX rfl) ?_
   refine dS (OX rfl) <| dS (OX rfl) <| dS (OX rfl) <| dS (OX rfl) <| dS (OX rfl) <| dS (OX rfl) <| dS (OX rfl) <| dS (OX rfl) <| dS (OX rfl) <| dS (OX rfl) ?_
   refine dS (OX rfl) <| dS (OX rfl) <| dS (OX rfl) <| dS (OX rfl) <| dS (PK rfl) <| d_end <| RK hK22 <| w_if_false rfl <| w_skip <| k_block ?_
   refine KK hK15 <| w_region <| rS (MV rfl) <| rS (BI rfl (b_add ⟨by omega, by omega⟩)) <| rS (AG rfl) <| r_nil ?_
   have hb27 : (Value.int .i64 (((i + 1) : Nat) : Int)) = (Value.int .i64 (((i : Nat) : Int) + 1)) := by exact congrArg (Value.int .i64) (by omega)
   refine k_then (hJ11 ⟨(i + 1), ⟨by omega, sigs_succ hl4_1 hx (by unfold SigOk SigIn; first | (rw [prevS_at0 (by omega)]; simp only; omega) | (rw [prevS_pos (by omega) hy]; omega))⟩⟩ _ _ _ rfl (by first | omega | (simp; omega)) (Sub.cons rfl <| Sub.cons rfl <| sub_val rfl hb27 <| Sub.nil _) (fun w hs => St.sel [1, 2, 3, 4, 5, 6, 7] rfl rfl hs))
 replace h53 := DT h53
 refine dS (FA 0 rfl fo67_0 rfl) <| dS (L1 (Value.int .i64 x.Beam) 0 rfl tk3 rfl rfl) <| dS (FA 2 rfl fo31_2 rfl) <| dS (L1 (Value.slice sgA r.Signals.length sgC) 1 rfl tk29 rfl rfl) <| dS (MV rfl) <| dS (BI rfl (b_sub ⟨by omega, by omega⟩)) ?_
 obtain ⟨y, hy⟩ : ∃ y_, r.Signals[(i - 1)]? = some y_ := ⟨r.Signals[(i - 1)]'(by omega), List.getElem?_eq_getElem _⟩
 have hym : (r.Signals.map SignalV.cells)[(i - 1)]? = some (SignalV.cells y) := by rw [List.getElem?_map, hy]; rfl
 refine dS (IA (i - 1) rfl (has_at 7 rfl) te29 (by decide) (by omega) (by omega)) <| dS (FAR ((i - 1) * 2) rfl (has_at 7 rfl) (Nat.mul_pos (by omega) (by decide)) fo67_0 rfl) <| dS (LE1 (i - 1) 0 (Value.int .i64 y.Beam) rfl tk3 (has_at 7 rfl) hym rfl (by decide) rfl) <| dS (BI rfl b_lss) <| dS (MV rfl) ?_
 refine d_bool (t := 64) rfl (fun h64 => ?_) (fun h64 => ?_)
 · replace h64 := DT h64
   refine dS (OX rfl) <| dS (OX rfl) <| dS (OX rfl) <| dS (OX rfl) <| dS (OX rfl) <| dS (OX rfl) <| dS (OX rfl) <| dS (OX rfl) <| dS (OX rfl) <| dS (OX rfl) ?_
   refine dS (OX rfl) <| dS (OX rfl) <| dS (OX rfl) <| dS (OX rfl) <| dS (OX rfl) <| dS (OX rfl) <| dS (OX rfl) <| dS (OX rfl) <| dS (OX rfl) <| dS (OX rfl) ?_
   refine dS (OX rfl) <| dS (OX rfl) <| dS (PK rfl) <| dS (PK rfl) <| d_end <| RK hK22 <| w_if_true rfl <| WS fun _ hK23 => rS (AG rfl) <| RK hK23 ?_
   refine w_ret <| Q1 hQ rfl rfl rfl ?_
   first | exact congrArg Value.bool (decide_eq_false fun q => by have q1 := q.time; have q2 := q.len; omega).symm | exact congrArg Value.bool (decide_eq_true (ride_all (by omega) (by omega) hl4_1 (by omega))).symm | exact congrArg Value.bool (decide_eq_false fun q => by have q1 := q.sig i x hx; unfold SigOk SigIn at q1; first | omega | (rw [prevS_pos (by omega) hy] at q1; omega)).symm
 replace h64 := DF h64
 refine dS (FA 0 rfl fo67_0 rfl) <| dS (L1 (Value.int .i64 x.Beam) 0 rfl tk3 rfl rfl) <| dS (FA 2 rfl fo31_2 rfl) <| dS (L1 (Value.slice sgA r.Signals.length sgC) 1 rfl tk29 rfl rfl) <| dS (MV rfl) <| dS (BI rfl (b_sub ⟨by omega, by omega⟩)) <| dS (IA (i - 1) rfl (has_at 7 rfl) te29 (by decide) (by omega) (by omega)) <| dS (FAR ((i - 1) * 2) rfl (has_at 7 rfl) (Nat.mul_pos (by omega) (by decide)) fo67_0 rfl) <| dS (LE1 (i - 1) 0 (Value.int .i64 y.Beam) rfl tk3 (has_at 7 rfl) hym rfl (by decide) rfl) <| dS (BI rfl b_eql) ?_
 refine dS (MV rfl) ?_
 refine d_bool (t := 75) rfl (fun h75 => ?_) (fun h75 => ?_)
 rotate_left 1
 · replace h75 := DF h75
   refine dS (OX rfl) <| dS (OX rfl) <| dS (OX rfl) <| dS (OX rfl) <| dS (OX rfl) <| dS (OX rfl) <| dS (OX rfl) <| dS (OX rfl) <| dS (OX rfl) <| dS (OX rfl) ?_
   refine dS (PK rfl) <| dS (PK rfl) <| dS (PK rfl) <| d_end <| RK hK22 <| w_if_false rfl <| w_skip <| k_block <| KK hK15 <| w_region ?_
   refine rS (MV rfl) <| rS (BI rfl (b_add ⟨by omega, by omega⟩)) <| rS (AG rfl) <| r_nil ?_
   have hb26 : (Value.int .i64 (((i + 1) : Nat) : Int)) = (Value.int .i64 (((i : Nat) : Int) + 1)) := by exact congrArg (Value.int .i64) (by omega)
   refine k_then (hJ11 ⟨(i + 1), ⟨by omega, sigs_succ hl4_1 hx (by unfold SigOk SigIn; first | (rw [prevS_at0 (by omega)]; simp only; omega) | (rw [prevS_pos (by omega) hy]; omega))⟩⟩ _ _ _ rfl (by first | omega | (simp; omega)) (Sub.cons rfl <| Sub.cons rfl <| sub_val rfl hb26 <| Sub.nil _) (fun w hs => St.sel [1, 2, 3, 4, 5, 6, 7] rfl rfl hs))
 replace h75 := DT h75
 refine dS (FA 1 rfl fo67_1 rfl) <| dS (L1 (Value.int .i64 x.Read) 0 rfl tk3 rfl rfl) <| dS (FA 2 rfl fo31_2 rfl) <| dS (L1 (Value.slice sgA r.Signals.length sgC) 1 rfl tk29 rfl rfl) <| dS (MV rfl) <| dS (BI rfl (b_sub ⟨by omega, by omega⟩)) <| dS (IA (i - 1) rfl (has_at 7 rfl) te29 (by decide) (by omega) (by omega)) <| dS (FAR (((i - 1) * 2) + 1) rfl (has_at 7 rfl) (Nat.mul_pos (by omega) (by decide)) fo67_1 rfl) <| dS (LE1 (i - 1) 1 (Value.int .i64 y.Read) rfl tk3 (has_at 7 rfl) hym rfl (by decide) rfl) <| dS (BI rfl b_leq) ?_
 refine dS (PK rfl) <| dS (PK rfl) <| dS (PK rfl) <| d_end <| RK hK22 ?_
 refine w_if rfl (fun h88 => ?_) (fun h88 => ?_)
 · replace h88 := DT h88
   refine WS fun _ hK24 => rS (AG rfl) <| RK hK24 <| w_ret <| Q1 hQ rfl rfl rfl ?_
   first | exact congrArg Value.bool (decide_eq_false fun q => by have q1 := q.time; have q2 := q.len; omega).symm | exact congrArg Value.bool (decide_eq_true (ride_all (by omega) (by omega) hl4_1 (by omega))).symm | exact congrArg Value.bool (decide_eq_false fun q => by have q1 := q.sig i x hx; unfold SigOk SigIn at q1; first | omega | (rw [prevS_pos (by omega) hy] at q1; omega)).symm
 replace h88 := DF h88
 refine w_skip <| k_block <| KK hK15 <| w_region <| rS (MV rfl) <| rS (BI rfl (b_add ⟨by omega, by omega⟩)) <| rS (AG rfl) <| r_nil ?_
 have hb25 : (Value.int .i64 (((i + 1) : Nat) : Int)) = (Value.int .i64 (((i : Nat) : Int) + 1)) := by exact congrArg (Value.int .i64) (by omega)
 refine k_then (hJ11 ⟨(i + 1), ⟨by omega, sigs_succ hl4_1 hx (by unfold SigOk SigIn; first | (rw [prevS_at0 (by omega)]; simp only; omega) | (rw [prevS_pos (by omega) hy]; omega))⟩⟩ _ _ _ rfl (by first | omega | (simp; omega)) (Sub.cons rfl <| Sub.cons rfl <| sub_val rfl hb25 <| Sub.nil _) (fun w hs => St.sel [1, 2, 3, 4, 5, 6, 7] rfl rfl hs))
set_option maxRecDepth 100000 in
set_option maxHeartbeats 400000 in
theorem right_c (l : LineM) (kA : Option Addr) (kC : Nat) (az : List RA) (cA : Option Addr) (cC : Nat) (bA : Option Addr) (bC : Nat) (r : RideM) (sgA : Option Addr) (sgC : Nat) (hin : LineIn l az) (hrr : r.Signals.length ≤ 9223372036854775807) :
    FnV Tryz.prog 27 [(Value.agg (LineV.cells (LineV.mk (TrackV.mk (Slc.mk kA l.Track.length kC)) l.Fast (Slc.mk cA l.Clocks.length cC) (Slc.mk bA l.Beams.length bC) l.Finish l.Fakes l.Misses)).toArray), (Value.agg (RideV.cells (RideV.mk r.Start r.Now (Slc.mk sgA r.Signals.length sgC))).toArray)] [(rd kA l.Track.length 9 (l.Track.map StretchV.cells)), (rd cA l.Clocks.length 2 (List.zipWith ClockM.cells l.Clocks az)), (bun (nest ClockM.rds l.Clocks az)), (rd bA l.Beams.length 4 (l.Beams.map BeamV.cells)), (rd sgA r.Signals.length 2 (r.Signals.map SignalV.cells))] (Value.bool (decide (RideOk l r))) := by
 refine fnV_of go27 Tryz.func27 rfl rfl fun w0 Q hQ hN => ?_
 try dsimp only
 refine WS fun _ hK1 => BXA rfl fun b2 => BXA rfl fun b3 => rS (AG rfl) <| RK hK1 <| WS fun _ hK4 => rS (FA 2 rfl fo31_2 rfl) <| rS (L1 (Value.slice sgA r.Signals.length sgC) 0 rfl tk29 rfl rfl) <| rS (LN rfl ut29) <| rS (BI rfl b_leq) ?_
 refine rS (MV rfl) ?_
 refine r_bool (t := 9) rfl (fun h9 => ?_) (fun h9 => ?_)
 rotate_left 1
 · replace h9 := DF h9
   refine rS (OX rfl) <| rS (OX rfl) <| rS (OX rfl) <| rS (PK rfl) <| rS (AG rfl) <| RK hK4 <| w_ret <| Q1 hQ rfl rfl rfl ?_
   first | exact congrArg Value.bool (decide_eq_false fun q => h9 (by have := q.len; omega)).symm | rfl
 replace h9 := DT h9
 refine rS (LW 1 rfl tk28 rfl rfl) <| rS (LW 0 rfl tk31 rfl rfl) <| rS (CL (rride_c l kA kC az cA cC bA bC r sgA sgC hin (by first | assumption | omega | (simp; done) | (simp; omega))) (ha_at 2 rfl rfl <| ha_at 3 rfl rfl <| ha_at 4 rfl rfl <| ha_at 5 rfl rfl <| ha_at 6 rfl rfl <| ha_nil) rfl) <| rS (PK rfl) <| rS (AG rfl) <| RK hK4 <| w_ret <| Q1 hQ rfl rfl rfl ?_
 first | exact congrArg Value.bool (decide_eq_false fun q => h9 (by have := q.len; omega)).symm | rfl
end
section
open Go.RowKit
set_option linter.unusedVariables false
set_option maxRecDepth 100000 in
set_option maxHeartbeats 400000 in
theorem beamSnow_c (l : LineM) (kA : Option Addr) (kC : Nat) (az : List RA) (cA : Option Addr) (cC : Nat) (bA : Option Addr) (bC : Nat) (r : RideM) (sgA : Option Addr) (sgC : Nat) (wh : Int) (hraw : LineRaw l az) (hrr : r.Signals.length ≤ 9223372036854775807) (hwh : 0 ≤ wh ∧ wh ≤ 255) (hgc : r.Signals.length ≤ sgC) :
    FnV Tryz.prog 4 [(Value.agg (LineV.cells (LineV.mk (TrackV.mk (Slc.mk kA l.Track.length kC)) l.Fast (Slc.mk cA l.Clocks.length cC) (Slc.mk bA l.Beams.length bC) l.Finish l.Fakes l.Misses)).toArray), (Value.agg (RideV.cells (RideV.mk r.Start r.Now (Slc.mk sgA r.Signals.length sgC))).toArray), (Value.int .u8 wh)] [(rd kA l.Track.length 9 (l.Track.map StretchV.cells)), (rd cA l.Clocks.length 2 (List.zipWith ClockM.cells l.Clocks az)), (bun (nest ClockM.rds l.Clocks az)), (rd bA l.Beams.length 4 (l.Beams.map BeamV.cells)), (rd sgA r.Signals.length 2 (r.Signals.map SignalV.cells))] (Value.bool true) := by
 refine fnV_of go4 Tryz.func4 rfl rfl fun w0 Q hQ hN => ?_
 try dsimp only
 refine WS fun _ hK1 => BXA rfl fun b2 => BXA rfl fun b3 => rS (AG rfl) <| RK hK1 <| WS fun _ hK4 => rS (CL alive_c (ha_nil) rfl) <| rS (AG rfl) <| RK hK4 <| w_seq fun _ hK5 => ?_
 refine WS fun _ hK6 => rS (LW 1 rfl tk28 rfl rfl) <| rS (CL (ready_c l kA kC az cA cC bA bC hraw) (ha_at 2 rfl rfl <| ha_at 3 rfl rfl <| ha_at 4 rfl rfl <| ha_at 5 rfl rfl <| ha_nil) rfl) <| rS (NT rfl) <| rS (MV rfl) ?_
 refine r_bool (t := 26) rfl (fun h26 => ?_) (fun h26 => ?_)
 · replace h26 := XT h26
   refine rS (OX rfl) <| rS (OX rfl) <| rS (OX rfl) <| rS (OX rfl) <| rS (PK rfl) <| rS (MV rfl) <| rS (OX rfl) <| rS (OX rfl) <| rS (PK rfl) <| RK hK6 ?_
   refine w_if_true rfl <| WS fun _ hK7 => rS (MV rfl) <| rS (AG rfl) <| RK hK7 <| w_ret <| Q1 hQ rfl rfl rfl ?_
   first | rfl | exact congrArg Value.bool (decide_eq_true (bad_of h26.2 h32 h54))
 replace h26 := XF h26
 refine rS (LW 1 rfl tk28 rfl rfl) <| rS (LW 0 rfl tk31 rfl rfl) ?_
 have hin := hraw.small h26.1
 refine rS (CL (right_c l kA kC az cA cC bA bC r sgA sgC (by first | assumption | omega | (simp; done) | (simp; omega)) hrr) (ha_at 2 rfl rfl <| ha_at 3 rfl rfl <| ha_at 4 rfl rfl <| ha_at 5 rfl rfl <| ha_at 6 rfl rfl <| ha_nil) rfl) <| rS (NT rfl) <| rS (PK rfl) <| rS (MV rfl) ?_
 refine r_bool (t := 32) rfl (fun h32 => ?_) (fun h32 => ?_)
 · replace h32 := XT h32
   refine rS (OX rfl) <| rS (OX rfl) <| rS (PK rfl) <| RK hK6 <| w_if_true rfl <| WS fun _ hK8 => rS (MV rfl) <| rS (AG rfl) <| RK hK8 <| w_ret ?_
   refine Q1 hQ rfl rfl rfl ?_
   first | rfl | exact congrArg Value.bool (decide_eq_true (bad_of h26.2 h32 h54))
 replace h32 := XF h32
 refine rS (MV rfl) <| rS (NT rfl) <| rS (PK rfl) <| RK hK6 <| w_if_false rfl <| WK hK5 <| WS fun _ hK9 => ?_
 have hrt := h32.time
 have hrl := h32.len
 have hbm := hin.bms
 obtain ⟨htr, hok⟩ := lineE_zero h26.2
 have hhd := hok.head
 unfold HeadOk at hhd
 refine rS (LW 1 rfl tk28 rfl rfl) <| rS (LW 0 rfl tk31 rfl rfl) <| cX (False_c l kA kC az cA cC bA bC r sgA sgC (by exact hin) (by show r.Signals.length ≤ 1000000; omega)) (ha_at 2 rfl rfl <| ha_at 3 rfl rfl <| ha_at 4 rfl rfl <| ha_at 5 rfl rfl <| ha_at 6 rfl rfl <| ha_nil) rfl fun y10 hy11 => ?_
 obtain ⟨a12, c13⟩ := y10
 try dsimp only
 refine rS (MV rfl) <| rS (EX rfl) <| rS (EX rfl) <| rS (AG rfl) <| rS (AG rfl) <| RK hK9 <| w_seq fun _ hK14 => WS fun _ hK15 => rS (MV rfl) <| rS (BI rfl b_neq) ?_
 refine rS (MV rfl) ?_
 refine r_bool (t := 45) rfl (fun h45 => ?_) (fun h45 => ?_)
 · replace h45 := XT h45
   refine rS (OX rfl) <| rS (OX rfl) <| rS (OX rfl) <| rS (PK rfl) <| RK hK15 <| w_if_true rfl <| WS fun _ hK16 => rS (MV rfl) <| rS (MV rfl) <| rS (MV rfl) ?_
   refine rS (BI rfl b_eql) <| rS (MV rfl) ?_
   refine r_bool (t := 54) rfl (fun h54 => ?_) (fun h54 => ?_)
   · replace h54 := DT h54
     refine rS (OX rfl) <| rS (OX rfl) <| rS (PK rfl) <| rS (PK rfl) <| rS (AG rfl) <| RK hK16 <| w_ret <| Q1 hQ rfl rfl rfl ?_
     first | rfl | exact congrArg Value.bool (decide_eq_true (bad_of h26.2 h32 h54))
   replace h54 := DF h54
   refine rS (MV rfl) <| rS (BI rfl b_eql) <| rS (PK rfl) <| rS (PK rfl) <| rS (AG rfl) <| RK hK16 <| w_ret <| Q1 hQ rfl rfl rfl ?_
   first | rfl | exact congrArg Value.bool (decide_eq_true (bad_of h26.2 h32 h54))
 replace h45 := XF h45
 refine rS (MV rfl) <| rS (LN rfl ut35) <| rS (BI rfl b_eql) <| rS (PK rfl) <| RK hK15 ?_
 refine w_if rfl (fun h49 => ?_) (fun h49 => ?_)
 · replace h49 := DT h49
   refine WS fun _ hK17 => rS (MV rfl) <| rS (MV rfl) <| rS (MV rfl) <| rS (BI rfl b_eql) <| rS (MV rfl) ?_
   refine r_bool (t := 54) rfl (fun h54 => ?_) (fun h54 => ?_)
   · replace h54 := DT h54
     refine rS (OX rfl) <| rS (OX rfl) <| rS (PK rfl) <| rS (PK rfl) <| rS (AG rfl) <| RK hK17 <| w_ret <| Q1 hQ rfl rfl rfl ?_
     first | rfl | exact congrArg Value.bool (decide_eq_true (bad_of h26.2 h32 h54))
   replace h54 := DF h54
   refine rS (MV rfl) <| rS (BI rfl b_eql) <| rS (PK rfl) <| rS (PK rfl) <| rS (AG rfl) <| RK hK17 <| w_ret <| Q1 hQ rfl rfl rfl ?_
   first | rfl | exact congrArg Value.bool (decide_eq_true (bad_of h26.2 h32 h54))
 replace h49 := DF h49
 refine WK hK14 <| WS fun _ hK18 => rS (MV rfl) <| rS (MV rfl) <| rS (SX (sd_conv (m := wh) rfl rfl ut5 ut3 (wrap_u8_i64 (by first | assumption | omega))) rfl rfl) <| rS (MV rfl) <| rS (LN rfl ut35) ?_
 have hr1 := rem_b wh (((falseV l r).length : Nat) : Int) hwh.1 (by omega)
 refine rS (BI rfl (b_rem (by omega) (by omega))) ?_
 obtain ⟨xfl, hxf⟩ : ∃ y_, (falseV l r)[((wh % (((falseV l r).length : Nat) : Int))).toNat]? = some y_ := ⟨(falseV l r)[((wh % (((falseV l r).length : Nat) : Int))).toNat]'(by omega), List.getElem?_eq_getElem _⟩
 have hxfm : ((falseV l r).map iC)[((wh % (((falseV l r).length : Nat) : Int))).toNat]? = some (iC xfl) := by rw [List.getElem?_map, hxf]; rfl
 refine rS (IA (((wh % (((falseV l r).length : Nat) : Int))).toNat) rfl (has_own_n (n := (falseV l r).length) 0 rfl (by simp)) te35 (by decide) (by omega) (by omega)) <| rS (LE1 (((wh % (((falseV l r).length : Nat) : Int))).toNat) 0 (Value.int .i64 xfl) rfl tk3 (has_own_n (n := (falseV l r).length) 0 rfl (by simp)) hxfm rfl (by decide) rfl) ?_
 obtain ⟨i, hxi, hil, hfk, hrs⟩ := snow_all h45 (List.mem_of_getElem? hxf)
 rw [hxi]
 refine rS (AG rfl) <| RK hK18 <| w_seq fun _ hK19 => WS fun _ hK20 => rS (MV rfl) <| rS (BI rfl b_lss) <| rS (MV rfl) ?_
 refine r_bool (t := 69) rfl (fun h69 => ?_) (fun h69 => ?_)
 · replace h69 := DT h69
   exfalso; omega
 replace h69 := DF h69
 refine rS (MV rfl) <| rS (FA 2 rfl fo31_2 rfl) <| rS (L1 (Value.slice sgA r.Signals.length sgC) 1 rfl tk29 rfl rfl) <| rS (LN rfl ut29) <| rS (BI rfl b_geq) <| rS (PK rfl) <| rS (MV rfl) ?_
 refine r_bool (t := 76) rfl (fun h76 => ?_) (fun h76 => ?_)
 · replace h76 := DT h76
   exfalso; omega
 replace h76 := DF h76
 refine rS (FA 5 rfl fo28_5 rfl) <| rS (L1 (Value.int .i64 l.Fakes) 2 rfl tk3 rfl rfl) <| rS (BI rfl b_eql) <| rS (PK rfl) <| RK hK20 ?_
 refine w_if rfl (fun h80 => ?_) (fun h80 => ?_)
 · replace h80 := DT h80
   exfalso; omega
 replace h80 := DF h80
 refine WK hK19 ?_
 refine w_join (ι := { z : Nat × Nat // True }) (fun z => [(3, (Value.pointer (some ⟨b2, 0, none⟩))), (4, (Value.pointer (some ⟨b3, 0, none⟩))), (7, (Value.bool true)), (8, (Value.slice a12 ((falseV l r).length) c13)), (9, (Value.int .i64 (openE l r 0))), (10, (Value.int .i64 ((i : Nat) : Int))), (11, (Value.pointer (some ⟨z.1.1, 0, none⟩))), (12, (Value.pointer (some ⟨z.1.2, 0, none⟩)))]) (fun z => [(blk z.1.1 28 (LineV.cells (LineV.mk (TrackV.mk (Slc.mk kA l.Track.length kC)) l.Fast (Slc.mk cA l.Clocks.length cC) (Slc.mk bA l.Beams.length bC) l.Finish l.Fakes l.Misses))), (blk z.1.2 31 (RideV.cells (RideV.mk r.Start r.Now (Slc.mk sgA r.Signals.length sgC)))), (own a12 c13 3 1 ((falseV l r).map iC)), (blk b3 31 (RideV.cells (RideV.mk r.Start r.Now (Slc.mk sgA r.Signals.length sgC)))), (blk b2 28 (LineV.cells (LineV.mk (TrackV.mk (Slc.mk kA l.Track.length kC)) l.Fast (Slc.mk cA l.Clocks.length cC) (Slc.mk bA l.Beams.length bC) l.Finish l.Fakes l.Misses))), (rd kA l.Track.length 9 (l.Track.map StretchV.cells)).ro, (rd cA l.Clocks.length 2 (List.zipWith ClockM.cells l.Clocks az)).ro, (bun (nest ClockM.rds l.Clocks az)).ro, (rd bA l.Beams.length 4 (l.Beams.map BeamV.cells)).ro, (rd sgA r.Signals.length 2 (r.Signals.map SignalV.cells)).ro]) ?_ fun K21 hK21 => ?_
 · rintro ⟨⟨ga, gb⟩, _⟩
   try dsimp only
   refine WS fun _ hK22 => rS (FA 5 rfl fo28_5 rfl) <| rS (L1 (Value.int .i64 l.Fakes) 0 rfl tk3 rfl rfl) <| rS (BI rfl (b_sub ⟨by omega, by omega⟩)) <| rS (FA 5 rfl fo28_5 rfl) <| ST0 (LineV.cells (LineV.mk (TrackV.mk (Slc.mk kA l.Track.length kC)) l.Fast (Slc.mk cA l.Clocks.length cC) (Slc.mk bA l.Beams.length bC) l.Finish (l.Fakes - 1) l.Misses)) rfl ts3 rfl rfl <| RK hK22 <| w_seq fun _ hK23 => w_draw4 mixed [1, 2, 3, 4, 6, 7, 8, 9, 10, 12] [0, 5, 11, 13] [false, false, false, false, false, false, false, false, false, false] [false, false, false, false] [(blk ga 28 (LineV.cells (LineV.mk (TrackV.mk (Slc.mk kA l.Track.length kC)) l.Fast (Slc.mk cA l.Clocks.length cC) (Slc.mk bA l.Beams.length bC) l.Finish (l.Fakes - 1) l.Misses))), (own a12 c13 3 1 ((falseV l r).map iC)), (blk b3 31 (RideV.cells (RideV.mk r.Start r.Now (Slc.mk sgA r.Signals.length sgC)))), (blk b2 28 (LineV.cells (LineV.mk (TrackV.mk (Slc.mk kA l.Track.length kC)) l.Fast (Slc.mk cA l.Clocks.length cC) (Slc.mk bA l.Beams.length bC) l.Finish l.Fakes l.Misses))), (rd kA l.Track.length 9 (l.Track.map StretchV.cells)).ro, (rd cA l.Clocks.length 2 (List.zipWith ClockM.cells l.Clocks az)).ro, (bun (nest ClockM.rds l.Clocks az)).ro, (rd bA l.Beams.length 4 (l.Beams.map BeamV.cells)).ro, (rd sgA r.Signals.length 2 (r.Signals.map SignalV.cells)).ro] [] (by kernel_rfl) (fun w hs => St.sel [0, 2, 3, 4, 5, 6, 7, 8, 9] rfl rfl hs) (fun w hs => St.sel [] rfl rfl hs) <| eS rfl (FA 2 rfl fo31_2 rfl) ?_
   refine eS rfl (L1 (Value.slice sgA r.Signals.length sgC) 2 rfl tk29 rfl rfl) <| eS rfl (MV rfl) <| eS rfl (SHI i rfl te29 rfl (by first | omega | exact Nat.zero_le _ | (simp; omega))) <| eS rfl (FA 2 rfl fo31_2 rfl) <| eS rfl (L1 (Value.slice sgA r.Signals.length sgC) 2 rfl tk29 rfl rfl) <| eS rfl (MV rfl) <| eS rfl (BI rfl (b_add ⟨by omega, by omega⟩)) <| eS rfl (SLO (((((i : Nat) : Int) + 1)).toNat) rfl te29 (by omega) (by first | omega | (simp; omega))) <| eS rfl (FA 2 rfl fo31_2 rfl) <| d_fin rfl ?_
   refine t_cons rfl fun T24 hT24 => r_bs0 rfl te29 rfl fun b25 => RN hT24 [1, 3, 4, 5, 6, 7, 8, 9, 10] rfl rfl <| t_cons rfl fun T26 hT26 => r_blk_own (es := (List.map SignalV.cells [])) (C' := [own (some ⟨b25, 0, none⟩) 0 67 2 (List.map SignalV.cells []), _, _, _, _, _, _, _, _, _, _]) 0 rfl (by simp) rfl (by simp [maxLen]) rfl <| r_append (es2 := (List.map SignalV.cells (r.Signals.take i))) (m' := (r.Signals.take i).length) 0 rfl rfl rfl ta29 rfl rfl (by simp) (by rw [List.map_take]; exact rd_take (has_at 10 rfl) (by omega)) (one_SignalV_cells _) (by first | omega | (simp; omega)) (by first | (simp only [maxLen]; omega) | (simp [maxLen]; omega)) (by simp) (by simp) rfl fun a27 c28 => ?_
   try dsimp only
   refine RN hT26 [1, 3, 4, 5, 6, 7, 8, 9, 10] rfl rfl <| t_cons rfl fun T29 hT29 => r_append (es2 := (List.map SignalV.cells (r.Signals.take i ++ r.Signals.drop (i + 1)))) (m' := (r.Signals.take i ++ r.Signals.drop (i + 1)).length) 0 rfl rfl rfl ta29 rfl rfl (by simp) (by rw [List.map_drop]; exact rd_sub (has_at 10 rfl) (by omega) (by omega)) (one_SignalV_cells _) (by simp only [List.length_take]; omega) (by simp only [maxLen, List.length_take]; omega) (by rw [← List.map_append]; rfl) (by simp) rfl fun a30 c31 => ?_
   try dsimp only
   refine RN hT29 [1, 3, 4, 5, 6, 7, 8, 9, 10] rfl rfl <| t_cons rfl fun T32 hT32 => ST2 (RideV.cells (RideV.mk r.Start r.Now (Slc.mk a30 ((r.Signals.take i ++ r.Signals.drop (i + 1)).length) c31))) rfl ts29 rfl rfl <| RN hT32 [1, 3, 4, 5, 6, 7, 8, 9, 10] rfl rfl <| t_fin rfl <| KK hK23 <| WS fun _ hK33 => ?_
   have hrs2 : RSim l r (LineM.mk l.Track l.Fast l.Clocks l.Beams l.Finish (l.Fakes - 1) l.Misses) (RideM.mk r.Start r.Now (r.Signals.take i ++ r.Signals.drop (i + 1))) 0 (fewF i) (fewB i) := hrs
   have hoe := hrs2.e (me := 0)
   have hwe := hrs2.where_
   refine rS (LW 5 rfl tk28 rfl rfl) <| rS (LW 4 rfl tk31 rfl rfl) <| cX (Where_c l kA kC az cA cC bA bC r sgA sgC (by exact hin) (by show r.Signals.length ≤ 1000000; omega)) (ha_at 6 rfl rfl <| ha_at 7 rfl rfl <| ha_at 8 rfl rfl <| ha_at 9 rfl rfl <| ha_at 10 rfl rfl <| ha_nil) rfl fun y34 hy35 => ?_
   obtain ⟨a36, c37⟩ := y34
   try dsimp only
   refine rS (MV rfl) <| rS (EX rfl) <| rS (EX rfl) <| rS (AG rfl) <| rS (AG rfl) <| RK hK33 <| WS fun _ hK38 => rS (LW 2 rfl tk28 rfl rfl) <| rS (LW 3 rfl tk31 rfl rfl) <| cX (Where_c (LineM.mk l.Track l.Fast l.Clocks l.Beams l.Finish (l.Fakes - 1) l.Misses) kA kC az cA cC bA bC (RideM.mk r.Start r.Now (r.Signals.take i ++ r.Signals.drop (i + 1))) a30 c31 (by exact hin.more) (by show (r.Signals.take i ++ r.Signals.drop (i + 1)).length ≤ 1000000; rw [few_len hil]; omega)) (ha_at 7 rfl rfl <| ha_at 8 rfl rfl <| ha_at 9 rfl rfl <| ha_at 10 rfl rfl <| ha_cons (has_own_n (n := (r.Signals.take i ++ r.Signals.drop (i + 1)).length) 1 rfl (by simp)) <| ha_nil) rfl fun y39 hy40 => ?_
   obtain ⟨a41, c42⟩ := y39
   try dsimp only
   refine rS (MV rfl) <| rS (EX rfl) <| rS (EX rfl) <| rS (AG rfl) <| rS (AG rfl) <| RK hK38 <| w_seq fun _ hK43 => WS fun _ hK44 => rS (MV rfl) <| rS (BI rfl b_neq) ?_
   refine rS (MV rfl) ?_
   refine r_bool (t := 114) rfl (fun h114 => ?_) (fun h114 => ?_)
   · replace h114 := XT h114
     exact absurd h45 h114
   replace h114 := XF h114
   refine rS (MV rfl) <| rS (BI rfl b_neq) <| rS (PK rfl) <| rS (MV rfl) ?_
   refine r_bool (t := 118) rfl (fun h118 => ?_) (fun h118 => ?_)
   · replace h118 := XT h118
     exact absurd (hoe.trans h45) h118
   replace h118 := XF h118
   refine rS (MV rfl) <| rS (MV rfl) <| rS (CL (sameints_c (whereV l r) a36 c37 (whereV (LineM.mk l.Track l.Fast l.Clocks l.Beams l.Finish (l.Fakes - 1) l.Misses) (RideM.mk r.Start r.Now (r.Signals.take i ++ r.Signals.drop (i + 1)))) a41 c42 (by exact Nat.le_trans whereV_len (by decide)) (by exact Nat.le_trans whereV_len (by decide))) (ha_cons (has_own_n (n := (whereV l r).length) 1 rfl (by simp)) <| ha_cons (has_own_n (n := (whereV (LineM.mk l.Track l.Fast l.Clocks l.Beams l.Finish (l.Fakes - 1) l.Misses) (RideM.mk r.Start r.Now (r.Signals.take i ++ r.Signals.drop (i + 1)))).length) 0 rfl (by simp)) <| ha_nil) rfl) <| rS (NT rfl) <| rS (PK rfl) <| RK hK44 ?_
   refine w_if rfl (fun h123 => ?_) (fun h123 => ?_)
   · replace h123 := XT h123
     exact absurd hwe.symm h123
   replace h123 := XF h123
   refine WK hK43 <| w_seq fun _ hK45 => WS fun _ hK46 => rS (FA 3 rfl fo28_3 rfl) <| rS (L1 (Value.slice bA l.Beams.length bC) 7 rfl tk26 rfl rfl) <| rS (LN rfl ut26) <| rS (MV rfl) <| RK hK46 <| w_block ?_
   have hinit : (0 ≤ l.Beams.length) := by exact Nat.zero_le _
   refine w_loop (ι := { z : Nat // (z ≤ l.Beams.length) }) (fun z => [(3, (Value.pointer (some ⟨b2, 0, none⟩))), (4, (Value.pointer (some ⟨b3, 0, none⟩))), (7, (Value.bool true)), (11, (Value.pointer (some ⟨ga, 0, none⟩))), (12, (Value.pointer (some ⟨gb, 0, none⟩))), (126, (Value.int .i64 ((l.Beams.length : Nat) : Int))), (127, (Value.int .i64 ((z.1 : Nat) : Int)))]) (fun z => [(own a41 c42 3 1 ((whereV (LineM.mk l.Track l.Fast l.Clocks l.Beams l.Finish (l.Fakes - 1) l.Misses) (RideM.mk r.Start r.Now (r.Signals.take i ++ r.Signals.drop (i + 1)))).map iC)), (own a36 c37 3 1 ((whereV l r).map iC)), (own a30 c31 67 2 (List.map SignalV.cells (r.Signals.take i ++ r.Signals.drop (i + 1)))), (blk ga 28 (LineV.cells (LineV.mk (TrackV.mk (Slc.mk kA l.Track.length kC)) l.Fast (Slc.mk cA l.Clocks.length cC) (Slc.mk bA l.Beams.length bC) l.Finish (l.Fakes - 1) l.Misses))), (blk gb 31 (RideV.cells (RideV.mk r.Start r.Now (Slc.mk a30 ((r.Signals.take i ++ r.Signals.drop (i + 1)).length) c31)))), (own a12 c13 3 1 ((falseV l r).map iC)), (blk b3 31 (RideV.cells (RideV.mk r.Start r.Now (Slc.mk sgA r.Signals.length sgC)))), (blk b2 28 (LineV.cells (LineV.mk (TrackV.mk (Slc.mk kA l.Track.length kC)) l.Fast (Slc.mk cA l.Clocks.length cC) (Slc.mk bA l.Beams.length bC) l.Finish l.Fakes l.Misses))), (rd kA l.Track.length 9 (l.Track.map StretchV.cells)).ro, (rd cA l.Clocks.length 2 (List.zipWith ClockM.cells l.Clocks az)).ro, (bun (nest ClockM.rds l.Clocks az)).ro, (rd bA l.Beams.length 4 (l.Beams.map BeamV.cells)).ro, (rd sgA r.Signals.length 2 (r.Signals.map SignalV.cells)).ro]) (fun z => l.Beams.length - z.1) ⟨0, hinit⟩ (Sub.cons rfl <| Sub.cons rfl <| Sub.cons rfl <| Sub.cons rfl <| Sub.cons rfl <| Sub.cons rfl <| Sub.cons rfl <| Sub.nil _) (fun w hs => St.sel [0, 1, 2, 3, 4, 5, 6, 7, 8, 9, 10, 11, 12] rfl rfl hs) ?_
   clear hinit
   rintro ⟨b, hl18_0⟩ J47 hJ47
   try dsimp only
   refine WS fun _ hK48 => rS (BI rfl b_lss) <| RK hK48 <| w_seq fun _ hK49 => ?_
   refine w_if rfl (fun h50 => ?_) (fun h50 => ?_)
   rotate_left 1
   · replace h50 := DF h50
     refine w_exit <| k_exit_then <| k_exit_then <| k_exit_same <| KK hK45 <| WS fun _ hK59 => rS (MV rfl) <| rS (AG rfl) <| RK hK59 <| w_ret ?_
     refine Q1 hQ rfl rfl rfl ?_
     first | rfl | exact congrArg Value.bool (decide_eq_true (bad_of h26.2 h32 h54))
   replace h50 := DT h50
   refine WK hK49 <| w_seq fun _ hK51 => w_block <| WS fun _ hK52 => rS (MV rfl) <| rS (AG rfl) <| RK hK52 <| WS fun _ hK53 => rS (LW 7 rfl tk28 rfl rfl) <| rS (LW 6 rfl tk31 rfl rfl) ?_
   refine rS (MV rfl) <| rS (CL (Passed_c l kA kC az cA cC bA bC r sgA sgC ((b : Nat) : Int) (by exact hin) (by show r.Signals.length ≤ 1000000; omega)) (ha_at 8 rfl rfl <| ha_at 9 rfl rfl <| ha_at 10 rfl rfl <| ha_at 11 rfl rfl <| ha_at 12 rfl rfl <| ha_nil) rfl) <| rS (MV rfl) <| rS (EX rfl) <| rS (EX rfl) <| AL rfl tz47 fun b54 => SW0 rfl ts47 rfl <| rS (AG rfl) <| RK hK53 <| WS fun _ hK55 => ?_
   refine rS (LW 4 rfl tk28 rfl rfl) <| rS (LW 5 rfl tk31 rfl rfl) <| rS (MV rfl) <| rS (CL (Passed_c (LineM.mk l.Track l.Fast l.Clocks l.Beams l.Finish (l.Fakes - 1) l.Misses) kA kC az cA cC bA bC (RideM.mk r.Start r.Now (r.Signals.take i ++ r.Signals.drop (i + 1))) a30 c31 ((b : Nat) : Int) (by exact hin.more) (by show (r.Signals.take i ++ r.Signals.drop (i + 1)).length ≤ 1000000; rw [few_len hil]; omega)) (ha_at 9 rfl rfl <| ha_at 10 rfl rfl <| ha_at 11 rfl rfl <| ha_at 12 rfl rfl <| ha_cons (has_own_n (n := (r.Signals.take i ++ r.Signals.drop (i + 1)).length) 3 rfl (by simp)) <| ha_nil) rfl) <| rS (MV rfl) <| rS (EX rfl) <| rS (EX rfl) <| AL rfl tz47 fun b56 => SW0 rfl ts47 rfl <| rS (AG rfl) ?_
   refine RK hK55 <| WS fun _ hK57 => ?_
   have hps := hrs2.passed0 (b := b) (by omega)
   refine rS (MV rfl) <| rS (MV rfl) <| rS (BI rfl b_neq) <| rS (MV rfl) ?_
   refine r_bool (t := 147) rfl (fun h147 => ?_) (fun h147 => ?_)
   · replace h147 := XT h147
     exact absurd hps.1.symm h147
   replace h147 := XF h147
   refine rS (LW 1 rfl tk47 rfl rfl) <| rS (LW 0 rfl tk47 rfl rfl) <| rS (BI rfl (nes47 _ _ (passedV l r ((b : Nat) : Int)) (passedV (LineM.mk l.Track l.Fast l.Clocks l.Beams l.Finish (l.Fakes - 1) l.Misses) (RideM.mk r.Start r.Now (r.Signals.take i ++ r.Signals.drop (i + 1))) ((b : Nat) : Int)))) <| rS (PK rfl) <| RK hK57 ?_
   refine w_if rfl (fun h151 => ?_) (fun h151 => ?_)
   · replace h151 := XT h151
     exact absurd hps.2.symm h151
   replace h151 := XF h151
   refine w_skip <| k_block <| KK hK51 <| w_region <| rS (BI rfl (b_add ⟨by omega, by omega⟩)) <| rS (MV rfl) <| r_nil ?_
   have hb58 : (Value.int .i64 (((b + 1) : Nat) : Int)) = (Value.int .i64 (((b : Nat) : Int) + 1)) := by exact congrArg (Value.int .i64) (by omega)
   refine k_then (hJ47 ⟨(b + 1), (by first | omega | (simp only []; omega))⟩ _ _ _ rfl (by first | omega | (simp; omega)) (Sub.cons rfl <| Sub.cons rfl <| Sub.cons rfl <| Sub.cons rfl <| Sub.cons rfl <| Sub.cons rfl <| sub_val rfl hb58 <| Sub.nil _) (fun w hs => St.sel [2, 3, 4, 5, 6, 7, 8, 9, 10, 11, 12, 13, 14] rfl rfl hs))
 refine w_drawN mixed [0, 1] [2, 3, 4, 5] [false, false] [] [(own a12 c13 3 1 ((falseV l r).map iC)), (blk b3 31 (RideV.cells (RideV.mk r.Start r.Now (Slc.mk sgA r.Signals.length sgC)))), (blk b2 28 (LineV.cells (LineV.mk (TrackV.mk (Slc.mk kA l.Track.length kC)) l.Fast (Slc.mk cA l.Clocks.length cC) (Slc.mk bA l.Beams.length bC) l.Finish l.Fakes l.Misses))), (rd kA l.Track.length 9 (l.Track.map StretchV.cells)).ro, (rd cA l.Clocks.length 2 (List.zipWith ClockM.cells l.Clocks az)).ro, (bun (nest ClockM.rds l.Clocks az)).ro, (rd bA l.Beams.length 4 (l.Beams.map BeamV.cells)).ro, (rd sgA r.Signals.length 2 (r.Signals.map SignalV.cells)).ro] [] (by kernel_rfl) (fun w hs => St.sel [0, 1, 2, 3, 4, 5, 6, 7] rfl rfl hs) (fun w hs => St.sel [] rfl rfl hs) <| eS rfl (LW 2 rfl tk28 rfl rfl) <| eS rfl (LW 1 rfl tk31 rfl rfl) <| d_fin rfl ?_
 refine n_step [2, 3] (by kernel_rfl) (n_cons ?_ <| n_cons ?_ <| n_nil)
 rotate_left 1
 · refine NO rfl rfl [2,4,5] fun T22 hT22 => ?_
   refine AL rfl tz31 fun b23 => RD hT22 1 rfl <| N1 2 <| NO rfl rfl [4,5] fun T24 hT24 => AL rfl tz28 fun b25 => RD hT24 2 rfl <| N1 4 <| NO rfl rfl [5] fun T26 hT26 => SW0 rfl ts28 rfl <| RD hT26 2 rfl ?_
   refine N1 5 <| NO rfl rfl [] fun T27 hT27 => SW1 rfl ts31 rfl <| RD hT27 2 rfl ?_
   refine n_fin (k_then (k_sub (sub_all rfl) (fun w hs => St.sel [0, 1, 2, 3, 4, 5, 6, 7, 8, 9] rfl rfl hs) (hK21 ⟨(b25, b23), trivial⟩)))
 refine NO rfl rfl [3,4,5] fun T22 hT22 => AL rfl tz28 fun b23 => RD hT22 1 rfl <| N1 3 <| NO rfl rfl [4,5] fun T24 hT24 => AL rfl tz31 fun b25 => RD hT24 2 rfl <| N1 4 <| NO rfl rfl [5] fun T26 hT26 => SW1 rfl ts28 rfl ?_
 refine RD hT26 2 rfl <| N1 5 <| NO rfl rfl [] fun T27 hT27 => SW0 rfl ts31 rfl <| RD hT27 2 rfl ?_
 refine n_fin (k_then (k_sub (sub_all rfl) (fun w hs => St.sel [1, 0, 2, 3, 4, 5, 6, 7, 8, 9] rfl rfl hs) (hK21 ⟨(b23, b25), trivial⟩)))
end
section
open Go.RowKit
set_option linter.unusedVariables false
def ReadsAs {α : Type} (cells : α → List Value) (sz : Nat) (R : World → α → Prop) (w : World) (s : Slc) : Prop := ∃ l : List α, s.n = l.length ∧ (rd s.a l.length sz (l.map cells)).holds w ∧ (∀ x ∈ l, R w x) ∧ l.length ≤ maxLen ∧ s.n ≤ s.c
theorem open_clocks {w : World} {R : World → SyncV → Prop} : ∀ {l : List ClockV}, (∀ x ∈ l, ReadsAs SyncV.cells 3 R w x.Syncs) → ∃ (ms : List ClockM) (az : List RA), l.map ClockV.cells = List.zipWith ClockM.cells ms az ∧ ms.length = l.length ∧ az.length = l.length ∧ (∀ X ∈ nest ClockM.rds ms az, X.holds w) ∧
    (∀ (k : Nat) m (a : RA), ms[k]? = some m → az[k]? = some a → m.Syncs.length ≤ a.2 ∧ m.Syncs.length ≤ 9223372036854775807) ∧ ms.map (fun m => m.Drift) = l.map (fun x => x.Drift) ∧ ∀ (k : Nat) m y, ms[k]? = some m → y ∈ m.Syncs → R w y
  | [], _ => ⟨[], [], rfl, rfl, rfl, (fun X hX => by cases hX), (fun k m a h => by simp at h), rfl, (fun k m y h => by simp at h)⟩
  | x :: l, h => by
    obtain ⟨ms, az, h1, h2, h3, h4, h5, h6, h7⟩ := open_clocks (fun y hy => h y (List.mem_cons_of_mem _ hy))
    obtain ⟨sy, e1, e2, e3, e4, e5⟩ := h x (by simp)
    have e4' : sy.length ≤ 9223372036854775807 := e4
    refine ⟨⟨x.Drift, sy⟩ :: ms, (x.Syncs.a, x.Syncs.c) :: az, ?_, by simp [h2], by simp [h3], fun X hX => ?_, fun k m a hm ha => ?_, by simp [h6], fun k m y hm hy => ?_⟩
    · obtain ⟨dr, ⟨a, n, c⟩⟩ := x
      simp only at e1
      subst e1
      simp only [List.map_cons, List.zipWith_cons_cons, h1]
      rfl
    · rcases List.mem_append.1 hX with hX | hX
      · simp only [ClockM.rds, List.mem_singleton] at hX
        subst hX; exact e2
      · exact h4 X hX
    · cases k with
      | zero =>
        simp only [List.getElem?_cons_zero, Option.some.injEq] at hm ha
        subst hm ha
        exact ⟨by simp only; omega, e4'⟩
      | succ k => exact h5 k m a (by simpa using hm) (by simpa using ha)
    · cases k with
      | zero =>
        simp only [List.getElem?_cons_zero, Option.some.injEq] at hm
        subst hm
        exact e3 y hy
      | succ k => exact h7 k m y (by simpa using hm) hy
theorem open_line {w : World} {s : LineV} {R1 : World → StretchV → Prop} {R2 : World → ClockV → Prop} {R3 : World → BeamV → Prop} {R4 : World → SyncV → Prop} (h1 : ReadsAs StretchV.cells 9 R1 w s.Track.Stretches) (hs : ∀ x, R1 w x → 0 ≤ x.Side ∧ x.Side ≤ 255) (h2 : ReadsAs ClockV.cells 2 R2 w s.Clocks) (hc : ∀ x, R2 w x → ReadsAs SyncV.cells 3 R4 w x.Syncs) (h3 : ReadsAs BeamV.cells 4 R3 w s.Beams) :
    ∃ (l : LineM) (az : List RA) (kA : Option Addr) (kC : Nat) (cA : Option Addr) (cC : Nat) (bA : Option Addr) (bC : Nat), s = LineV.mk (TrackV.mk (Slc.mk kA l.Track.length kC)) l.Fast (Slc.mk cA l.Clocks.length cC) (Slc.mk bA l.Beams.length bC) l.Finish l.Fakes l.Misses ∧ LineRaw l az ∧
      ((rd kA l.Track.length 9 (l.Track.map StretchV.cells)).holds w ∧ (rd cA l.Clocks.length 2 (List.zipWith ClockM.cells l.Clocks az)).holds w ∧ (bun (nest ClockM.rds l.Clocks az)).holds w ∧ (rd bA l.Beams.length 4 (l.Beams.map BeamV.cells)).holds w) ∧ l.Fast = s.Fast ∧ l.Finish = s.Finish ∧ l.Fakes = s.Fakes ∧ l.Misses = s.Misses := by
  obtain ⟨⟨⟨ka, kn, kc⟩⟩, fa, ⟨ca, cn, cc⟩, ⟨ba, bn, bc⟩, fi, fk, mi⟩ := s
  obtain ⟨ts, t1, t2, t3, t4, t5⟩ := h1
  obtain ⟨cs, c1, c2, c3, c4, c5⟩ := h2
  obtain ⟨bs, b1, b2, b3, b4, b5⟩ := h3
  simp only at t1 c1 b1
  subst t1 c1 b1
  obtain ⟨ms, az, m1, m2, m3, m4, m5, _⟩ := open_clocks (fun x hx => hc x (c3 x hx))
  have t4' : ts.length ≤ 9223372036854775807 := t4
  have c4' : cs.length ≤ 9223372036854775807 := c4
  have b4' : bs.length ≤ 9223372036854775807 := b4
  refine ⟨⟨ts, fa, ms, bs, fi, fk, mi⟩, az, ka, kc, ca, cc, ba, bc, by simp only [m2], ⟨t4', fun x hx => hs x (t3 x hx), by simp only; omega, by simp only; omega, b4', m5⟩, ⟨t2, ?_, m4, b2⟩, rfl, rfl, rfl, rfl⟩
  simp only at c2 ⊢
  rw [m2, ← m1]; exact c2
end
section
open Go.RowKit
set_option linter.unusedVariables false
theorem open_ride2 {w : World} {s : RideV} {R : World → SignalV → Prop} (h : ReadsAs SignalV.cells 2 R w s.Signals) :
    ∃ (r : RideM) (gA : Option Addr) (gC : Nat), s = RideV.mk r.Start r.Now (Slc.mk gA r.Signals.length gC) ∧ r.Signals.length ≤ 9223372036854775807 ∧ r.Signals.length ≤ gC ∧ (rd gA r.Signals.length 2 (r.Signals.map SignalV.cells)).holds w := by
  obtain ⟨st, nw, ⟨a, n, c⟩⟩ := s
  obtain ⟨l, h1, h2, h3, h4, h5⟩ := h
  simp only at h1 h5
  subst h1
  exact ⟨⟨st, nw, l⟩, a, c, rfl, h4, h5, h2⟩
end
section
open Go.ChangeShapes Go.WideShapes Go.ChangeAt Go.RowKit
set_option linter.unusedVariables false
theorem cz28 : Tryz.prog.cellsOf 28 = 7 := by kernel_rfl
theorem cz24 : Tryz.prog.cellsOf 24 = 1 := by kernel_rfl
theorem cz22 : Tryz.prog.cellsOf 22 = 1 := by kernel_rfl
theorem cz141 : Tryz.prog.cellsOf 141 = 9 := by kernel_rfl
theorem cz3 : Tryz.prog.cellsOf 3 = 1 := by kernel_rfl
def Is3 (w : World) (n : Int) : Prop := In64 n
theorem op3 : OpR Tryz.prog 3 Int iC Is3 := op_i64 ut3
theorem cz47 : Tryz.prog.cellsOf 47 = 2 := by kernel_rfl
structure Is47 (w : World) (s : SpanV) : Prop where
  Lo : Is3 w s.Lo
  Hi : Is3 w s.Hi
theorem fx47 : fL Tryz.prog 47 = some [(3, 0), (3, 1)] := by kernel_rfl
theorem op47 : OpR Tryz.prog 47 SpanV SpanV.cells Is47 := fun {H} enc w base sp held fuel cs x h => by
  obtain ⟨hl, hp⟩ := op_parts fx47 h
  obtain ⟨n0, y0, h0⟩ := hp 0 3 0 rfl
  obtain ⟨s0, c0, r0⟩ := op3 _ _ _ _ _ _ _ _ h0
  obtain ⟨n1, y1, h1⟩ := hp 1 3 1 rfl
  obtain ⟨s1, c1, r1⟩ := op3 _ _ _ _ _ _ _ _ h1
  refine ⟨⟨s0, s1⟩, ?_, ⟨r0, r1⟩⟩
  have e1 := parts_last (hl.trans cz47) (by rw [cz3]) c1
  have e0 := parts_cons c0 (m := 1) (by rw [cz3]) e1
  exact e0
theorem cz5 : Tryz.prog.cellsOf 5 = 1 := by kernel_rfl
def Is5 (w : World) (n : Int) : Prop := 0 ≤ n ∧ n ≤ 255
theorem op5 : OpR Tryz.prog 5 Int iC_u8 Is5 := op_u8 ut5
structure Is141 (w : World) (s : StretchV) : Prop where
  Id : Is3 w s.Id
  Long : Is47 w s.Long
  Fall : Is47 w s.Fall
  Radius : Is47 w s.Radius
  Side : Is5 w s.Side
  Wall : Is3 w s.Wall
theorem fx141 : fL Tryz.prog 141 = some [(3, 0), (47, 1), (47, 3), (47, 5), (5, 7), (3, 8)] := by kernel_rfl
theorem op141 : OpR Tryz.prog 141 StretchV StretchV.cells Is141 := fun {H} enc w base sp held fuel cs x h => by
  obtain ⟨hl, hp⟩ := op_parts fx141 h
  obtain ⟨n0, y0, h0⟩ := hp 0 3 0 rfl
  obtain ⟨s0, c0, r0⟩ := op3 _ _ _ _ _ _ _ _ h0
  obtain ⟨n1, y1, h1⟩ := hp 1 47 1 rfl
  obtain ⟨s1, c1, r1⟩ := op47 _ _ _ _ _ _ _ _ h1
  obtain ⟨n2, y2, h2⟩ := hp 2 47 3 rfl
  obtain ⟨s2, c2, r2⟩ := op47 _ _ _ _ _ _ _ _ h2
  obtain ⟨n3, y3, h3⟩ := hp 3 47 5 rfl
  obtain ⟨s3, c3, r3⟩ := op47 _ _ _ _ _ _ _ _ h3
  obtain ⟨n4, y4, h4⟩ := hp 4 5 7 rfl
  obtain ⟨s4, c4, r4⟩ := op5 _ _ _ _ _ _ _ _ h4
  obtain ⟨n5, y5, h5⟩ := hp 5 3 8 rfl
  obtain ⟨s5, c5, r5⟩ := op3 _ _ _ _ _ _ _ _ h5
  refine ⟨⟨s0, s1, s2, s3, s4, s5⟩, ?_, ⟨r0, r1, r2, r3, r4, r5⟩⟩
  have e5 := parts_last (hl.trans cz141) (by rw [cz3]) c5
  have e4 := parts_cons c4 (m := 8) (by rw [cz5]) e5
  have e3 := parts_cons c3 (m := 7) (by rw [cz47]) e4
  have e2 := parts_cons c2 (m := 5) (by rw [cz47]) e3
  have e1 := parts_cons c1 (m := 3) (by rw [cz47]) e2
  have e0 := parts_cons c0 (m := 1) (by rw [cz3]) e1
  exact e0
def Is22 (w : World) (s : Slc) : Prop := ∃ l : List StretchV, s.n = l.length ∧ (rd s.a l.length 9 (l.map StretchV.cells)).holds w ∧ (∀ x ∈ l, Is141 w x) ∧ l.length ≤ maxLen ∧ s.n ≤ s.c
theorem op22 : OpR Tryz.prog 22 Slc (fun s => [Value.slice s.a s.n s.c]) Is22 := op_slice ut22 cz141 op141
structure Is24 (w : World) (s : TrackV) : Prop where
  Stretches : Is22 w s.Stretches
theorem fx24 : fL Tryz.prog 24 = some [(22, 0)] := by kernel_rfl
theorem op24 : OpR Tryz.prog 24 TrackV TrackV.cells Is24 := fun {H} enc w base sp held fuel cs x h => by
  obtain ⟨hl, hp⟩ := op_parts fx24 h
  obtain ⟨n0, y0, h0⟩ := hp 0 22 0 rfl
  obtain ⟨s0, c0, r0⟩ := op22 _ _ _ _ _ _ _ _ h0
  refine ⟨⟨s0⟩, ?_, ⟨r0⟩⟩
  have e0 := parts_last (hl.trans cz24) (by rw [cz22]) c0
  exact e0
theorem cz25 : Tryz.prog.cellsOf 25 = 1 := by kernel_rfl
theorem cz63 : Tryz.prog.cellsOf 63 = 2 := by kernel_rfl
theorem cz61 : Tryz.prog.cellsOf 61 = 1 := by kernel_rfl
theorem cz65 : Tryz.prog.cellsOf 65 = 3 := by kernel_rfl
structure Is65 (w : World) (s : SyncV) : Prop where
  At : Is3 w s.At
  Ahead : Is47 w s.Ahead
theorem fx65 : fL Tryz.prog 65 = some [(3, 0), (47, 1)] := by kernel_rfl
theorem op65 : OpR Tryz.prog 65 SyncV SyncV.cells Is65 := fun {H} enc w base sp held fuel cs x h => by
  obtain ⟨hl, hp⟩ := op_parts fx65 h
  obtain ⟨n0, y0, h0⟩ := hp 0 3 0 rfl
  obtain ⟨s0, c0, r0⟩ := op3 _ _ _ _ _ _ _ _ h0
  obtain ⟨n1, y1, h1⟩ := hp 1 47 1 rfl
  obtain ⟨s1, c1, r1⟩ := op47 _ _ _ _ _ _ _ _ h1
  refine ⟨⟨s0, s1⟩, ?_, ⟨r0, r1⟩⟩
  have e1 := parts_last (hl.trans cz65) (by rw [cz47]) c1
  have e0 := parts_cons c0 (m := 1) (by rw [cz3]) e1
  exact e0
def Is61 (w : World) (s : Slc) : Prop := ∃ l : List SyncV, s.n = l.length ∧ (rd s.a l.length 3 (l.map SyncV.cells)).holds w ∧ (∀ x ∈ l, Is65 w x) ∧ l.length ≤ maxLen ∧ s.n ≤ s.c
theorem op61 : OpR Tryz.prog 61 Slc (fun s => [Value.slice s.a s.n s.c]) Is61 := op_slice ut61 cz65 op65
structure Is63 (w : World) (s : ClockV) : Prop where
  Drift : Is3 w s.Drift
  Syncs : Is61 w s.Syncs
theorem fx63 : fL Tryz.prog 63 = some [(3, 0), (61, 1)] := by kernel_rfl
theorem op63 : OpR Tryz.prog 63 ClockV ClockV.cells Is63 := fun {H} enc w base sp held fuel cs x h => by
  obtain ⟨hl, hp⟩ := op_parts fx63 h
  obtain ⟨n0, y0, h0⟩ := hp 0 3 0 rfl
  obtain ⟨s0, c0, r0⟩ := op3 _ _ _ _ _ _ _ _ h0
  obtain ⟨n1, y1, h1⟩ := hp 1 61 1 rfl
  obtain ⟨s1, c1, r1⟩ := op61 _ _ _ _ _ _ _ _ h1
  refine ⟨⟨s0, s1⟩, ?_, ⟨r0, r1⟩⟩
  have e1 := parts_last (hl.trans cz63) (by rw [cz61]) c1
  have e0 := parts_cons c0 (m := 1) (by rw [cz3]) e1
  exact e0
def Is25 (w : World) (s : Slc) : Prop := ∃ l : List ClockV, s.n = l.length ∧ (rd s.a l.length 2 (l.map ClockV.cells)).holds w ∧ (∀ x ∈ l, Is63 w x) ∧ l.length ≤ maxLen ∧ s.n ≤ s.c
theorem op25 : OpR Tryz.prog 25 Slc (fun s => [Value.slice s.a s.n s.c]) Is25 := op_slice ut25 cz63 op63
theorem cz26 : Tryz.prog.cellsOf 26 = 1 := by kernel_rfl
theorem cz101 : Tryz.prog.cellsOf 101 = 4 := by kernel_rfl
theorem cz99 : Tryz.prog.cellsOf 99 = 3 := by kernel_rfl
structure Is99 (w : World) (s : SpotV) : Prop where
  Stretch : Is3 w s.Stretch
  Off : Is47 w s.Off
theorem fx99 : fL Tryz.prog 99 = some [(3, 0), (47, 1)] := by kernel_rfl
theorem op99 : OpR Tryz.prog 99 SpotV SpotV.cells Is99 := fun {H} enc w base sp held fuel cs x h => by
  obtain ⟨hl, hp⟩ := op_parts fx99 h
  obtain ⟨n0, y0, h0⟩ := hp 0 3 0 rfl
  obtain ⟨s0, c0, r0⟩ := op3 _ _ _ _ _ _ _ _ h0
  obtain ⟨n1, y1, h1⟩ := hp 1 47 1 rfl
  obtain ⟨s1, c1, r1⟩ := op47 _ _ _ _ _ _ _ _ h1
  refine ⟨⟨s0, s1⟩, ?_, ⟨r0, r1⟩⟩
  have e1 := parts_last (hl.trans cz99) (by rw [cz47]) c1
  have e0 := parts_cons c0 (m := 1) (by rw [cz3]) e1
  exact e0
structure Is101 (w : World) (s : BeamV) : Prop where
  Spot : Is99 w s.Spot
  Clock : Is3 w s.Clock
theorem fx101 : fL Tryz.prog 101 = some [(99, 0), (3, 3)] := by kernel_rfl
theorem op101 : OpR Tryz.prog 101 BeamV BeamV.cells Is101 := fun {H} enc w base sp held fuel cs x h => by
  obtain ⟨hl, hp⟩ := op_parts fx101 h
  obtain ⟨n0, y0, h0⟩ := hp 0 99 0 rfl
  obtain ⟨s0, c0, r0⟩ := op99 _ _ _ _ _ _ _ _ h0
  obtain ⟨n1, y1, h1⟩ := hp 1 3 3 rfl
  obtain ⟨s1, c1, r1⟩ := op3 _ _ _ _ _ _ _ _ h1
  refine ⟨⟨s0, s1⟩, ?_, ⟨r0, r1⟩⟩
  have e1 := parts_last (hl.trans cz101) (by rw [cz3]) c1
  have e0 := parts_cons c0 (m := 3) (by rw [cz99]) e1
  exact e0
def Is26 (w : World) (s : Slc) : Prop := ∃ l : List BeamV, s.n = l.length ∧ (rd s.a l.length 4 (l.map BeamV.cells)).holds w ∧ (∀ x ∈ l, Is101 w x) ∧ l.length ≤ maxLen ∧ s.n ≤ s.c
theorem op26 : OpR Tryz.prog 26 Slc (fun s => [Value.slice s.a s.n s.c]) Is26 := op_slice ut26 cz101 op101
structure Is28 (w : World) (s : LineV) : Prop where
  Track : Is24 w s.Track
  Fast : Is3 w s.Fast
  Clocks : Is25 w s.Clocks
  Beams : Is26 w s.Beams
  Finish : Is3 w s.Finish
  Fakes : Is3 w s.Fakes
  Misses : Is3 w s.Misses
theorem fx28 : fL Tryz.prog 28 = some [(24, 0), (3, 1), (25, 2), (26, 3), (3, 4), (3, 5), (3, 6)] := by kernel_rfl
theorem op28 : OpR Tryz.prog 28 LineV LineV.cells Is28 := fun {H} enc w base sp held fuel cs x h => by
  obtain ⟨hl, hp⟩ := op_parts fx28 h
  obtain ⟨n0, y0, h0⟩ := hp 0 24 0 rfl
  obtain ⟨s0, c0, r0⟩ := op24 _ _ _ _ _ _ _ _ h0
  obtain ⟨n1, y1, h1⟩ := hp 1 3 1 rfl
  obtain ⟨s1, c1, r1⟩ := op3 _ _ _ _ _ _ _ _ h1
  obtain ⟨n2, y2, h2⟩ := hp 2 25 2 rfl
  obtain ⟨s2, c2, r2⟩ := op25 _ _ _ _ _ _ _ _ h2
  obtain ⟨n3, y3, h3⟩ := hp 3 26 3 rfl
  obtain ⟨s3, c3, r3⟩ := op26 _ _ _ _ _ _ _ _ h3
  obtain ⟨n4, y4, h4⟩ := hp 4 3 4 rfl
  obtain ⟨s4, c4, r4⟩ := op3 _ _ _ _ _ _ _ _ h4
  obtain ⟨n5, y5, h5⟩ := hp 5 3 5 rfl
  obtain ⟨s5, c5, r5⟩ := op3 _ _ _ _ _ _ _ _ h5
  obtain ⟨n6, y6, h6⟩ := hp 6 3 6 rfl
  obtain ⟨s6, c6, r6⟩ := op3 _ _ _ _ _ _ _ _ h6
  refine ⟨⟨s0, s1, s2, s3, s4, s5, s6⟩, ?_, ⟨r0, r1, r2, r3, r4, r5, r6⟩⟩
  have e6 := parts_last (hl.trans cz28) (by rw [cz3]) c6
  have e5 := parts_cons c5 (m := 6) (by rw [cz3]) e6
  have e4 := parts_cons c4 (m := 5) (by rw [cz3]) e5
  have e3 := parts_cons c3 (m := 4) (by rw [cz26]) e4
  have e2 := parts_cons c2 (m := 3) (by rw [cz25]) e3
  have e1 := parts_cons c1 (m := 2) (by rw [cz3]) e2
  have e0 := parts_cons c0 (m := 1) (by rw [cz24]) e1
  exact e0
theorem cz31 : Tryz.prog.cellsOf 31 = 3 := by kernel_rfl
theorem cz29 : Tryz.prog.cellsOf 29 = 1 := by kernel_rfl
theorem cz67 : Tryz.prog.cellsOf 67 = 2 := by kernel_rfl
structure Is67 (w : World) (s : SignalV) : Prop where
  Beam : Is3 w s.Beam
  Read : Is3 w s.Read
theorem fx67 : fL Tryz.prog 67 = some [(3, 0), (3, 1)] := by kernel_rfl
theorem op67 : OpR Tryz.prog 67 SignalV SignalV.cells Is67 := fun {H} enc w base sp held fuel cs x h => by
  obtain ⟨hl, hp⟩ := op_parts fx67 h
  obtain ⟨n0, y0, h0⟩ := hp 0 3 0 rfl
  obtain ⟨s0, c0, r0⟩ := op3 _ _ _ _ _ _ _ _ h0
  obtain ⟨n1, y1, h1⟩ := hp 1 3 1 rfl
  obtain ⟨s1, c1, r1⟩ := op3 _ _ _ _ _ _ _ _ h1
  refine ⟨⟨s0, s1⟩, ?_, ⟨r0, r1⟩⟩
  have e1 := parts_last (hl.trans cz67) (by rw [cz3]) c1
  have e0 := parts_cons c0 (m := 1) (by rw [cz3]) e1
  exact e0
def Is29 (w : World) (s : Slc) : Prop := ∃ l : List SignalV, s.n = l.length ∧ (rd s.a l.length 2 (l.map SignalV.cells)).holds w ∧ (∀ x ∈ l, Is67 w x) ∧ l.length ≤ maxLen ∧ s.n ≤ s.c
theorem op29 : OpR Tryz.prog 29 Slc (fun s => [Value.slice s.a s.n s.c]) Is29 := op_slice ut29 cz67 op67
structure Is31 (w : World) (s : RideV) : Prop where
  Start : Is3 w s.Start
  Now : Is3 w s.Now
  Signals : Is29 w s.Signals
theorem fx31 : fL Tryz.prog 31 = some [(3, 0), (3, 1), (29, 2)] := by kernel_rfl
theorem op31 : OpR Tryz.prog 31 RideV RideV.cells Is31 := fun {H} enc w base sp held fuel cs x h => by
  obtain ⟨hl, hp⟩ := op_parts fx31 h
  obtain ⟨n0, y0, h0⟩ := hp 0 3 0 rfl
  obtain ⟨s0, c0, r0⟩ := op3 _ _ _ _ _ _ _ _ h0
  obtain ⟨n1, y1, h1⟩ := hp 1 3 1 rfl
  obtain ⟨s1, c1, r1⟩ := op3 _ _ _ _ _ _ _ _ h1
  obtain ⟨n2, y2, h2⟩ := hp 2 29 2 rfl
  obtain ⟨s2, c2, r2⟩ := op29 _ _ _ _ _ _ _ _ h2
  refine ⟨⟨s0, s1, s2⟩, ?_, ⟨r0, r1, r2⟩⟩
  have e2 := parts_last (hl.trans cz31) (by rw [cz29]) c2
  have e1 := parts_cons c1 (m := 2) (by rw [cz3]) e2
  have e0 := parts_cons c0 (m := 1) (by rw [cz3]) e1
  exact e0
theorem own_beamSnow : ownKnob Tryz.prog.godebug = none := by kernel_rfl
theorem laid_beamSnow : laidOutB Tryz.prog = true := by kernel_rfl
set_option maxRecDepth 100000 in
theorem beamSnow_lifted (os : Os) (started : os.Started) (H : Type) (enc : TypeId × Value → H) :
    ReturnsInHanded {} Tryz.checked os 4 .any (Rows.beamSnowSpec.pre6 enc Tryz.prog Tryz.f4 Rows.beamSnowRow.domain false) (Rows.beamSnowSpec.post enc Tryz.prog Tryz.f4 false true false false) := by
  refine returnsInHanded_of_change (C := Tryz.checked) own_beamSnow started (by kernel_rfl) Tryz.func4
    (ChangeSpec.witness6 (enc := enc) (C := Tryz.checked) false ⟨#[], #[.agg #[(Value.slice none 0 0), (Value.int .i64 0), (Value.slice none 0 0), (Value.slice none 0 0), (Value.int .i64 0), (Value.int .i64 0), (Value.int .i64 0)], .agg #[(Value.int .i64 0), (Value.int .i64 0), (Value.slice none 0 0)], Value.int .u8 0], []⟩ 8 (by kernel_rfl) (by kernel_rfl) (by kernel_rfl) (by kernel_rfl)) ?_
  intro W base args ds gs before hval0 hW hcnd _
  have hval : ∀ (j : Nat) t v, Tryz.f4.params[j]? = some t → args[j]? = some v → Value.okWide Tryz.prog W .any base t v := hval0
  have hW' := hW
  obtain ⟨p, q, hA0, hV, rfl, hfz, hnd⟩ := hW
  have hA : DataW.TrodAll enc Tryz.prog W 0 (fun _ => true) true Tryz.f4.params.toList args.toList ds p := hA0
  have hA1 := hA
  rw [Tryz.params4] at hA hval
  obtain ⟨v0, vs0, d0, ds0, p0, q0, hargs, rfl, rfl, h0, r0⟩ := trodAll_cons hA
  obtain ⟨v1, vs1, d1, ds1, p1, q1, rfl, rfl, rfl, h1, r1⟩ := trodAll_cons r0
  obtain ⟨v2, vs2, d2, ds2, p2, q2, rfl, rfl, rfl, h2, r2⟩ := trodAll_cons r1
  obtain ⟨rfl, rfl, rfl⟩ := trodAll_nil r2
  obtain rfl : args = #[v0, v1, v2] := by cases args; simp_all
  obtain ⟨rfl, rfl⟩ := trodVars_none hV
  obtain ⟨s0, rfl, R0⟩ := arg_struct fx28 op28 (hval 0 28 v0 rfl rfl) h0
  obtain ⟨s1, rfl, R1⟩ := arg_struct fx31 op31 (hval 1 31 v1 rfl rfl) h1
  obtain ⟨s2, rfl, R2⟩ := arg_int (k := .u8) ut5 (hval 2 5 v2 rfl rfl) h2
  simp only [List.append_nil] at hW' hA1
  obtain ⟨l, az, kA, kC, cA, cC, bA, bC, rfl, hraw, hl4, _⟩ := open_line (R1 := Is141) (R2 := Is63) (R3 := Is101) (R4 := Is65) R0.Track.Stretches (fun x hx => hx.Side) R0.Clocks (fun x hx => hx.Syncs) R0.Beams
  obtain ⟨r, gA, gC, rfl, hrr, hgc, hrd⟩ := open_ride2 (R := Is67) R1.Signals
  have hrun := (beamSnow_c l kA kC az cA cC bA bC r gA gC s2 hraw hrr R2 hgc).run W (by intro A hA; simp only [List.mem_cons, List.not_mem_nil, or_false] at hA; rcases hA with rfl | rfl | rfl | rfl | rfl; exact hl4.1; exact hl4.2.1; exact hl4.2.2.1; exact hl4.2.2.2; exact hrd)
  refine (hrun).mono fun e W' ⟨he, hk⟩ => ?_
  subst he
  exact ⟨_, rfl, law_post laid_beamSnow hW' hA1 rfl rfl (by kernel_rfl) hk.below (by kernel_rfl) ut4⟩
/-- the statement -/
theorem beamSnow_said : Rows.BeamSnowSaid :=
  OpenClaim.holds_of_wide 4 Tryz.f4 rfl rfl rfl rfl rfl rfl rfl ⟨rfl, rfl, rfl, rfl, rfl⟩ rfl rfl rfl rfl rfl (by kernel_rfl) Tryz.func4 (by kernel_rfl)
    (of_decide_eq_true (by kernel_rfl)) (by unfold Func.isWrapper; first | (rw [if_pos (by decide +kernel)]; kernel_rfl) | (rw [if_neg (by decide +kernel)]; exact ⟨rfl, rfl⟩))
    (fun os started H enc _ => beamSnow_lifted os started H enc)
#print axioms beamSnow_said
end
end Go.Proofs.YthiigjekcdjkkaaGreat
