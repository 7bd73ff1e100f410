/-
  The statement beamGoes_said, part 6 of 6: B8, B9, R1, L1, LineOpen, RideOpen, Goes0.
  Conditions: none.
-/
import Derived.Test.YtaehngpnlkokkaaKGo1
import Derived.Test.YtaehngpnlkokkaaKGo2
import Derived.Test.YtaehngpnlkokkaaKGo3
import Derived.Test.YtaehngpnlkokkaaKGo4
import Derived.Test.YtaehngpnlkokkaaKGo5
import Derived.Test.YtaehngpnlkokkaaRows
import Derived.Test.YtaehngpnlkokkaaProg
import Derived.KernelRfl
namespace Go.Proofs.Ytaehngpnlkokkaa
section
open Go.RowKit
set_option linter.unusedVariables false
set_option maxRecDepth 100000 in
set_option maxHeartbeats 400000 in
theorem lgreat_c (l : LineM) (kA : Option Addr) (kC : Nat) (az : List RA) (cA : Option Addr) (cC : Nat) (bA : Option Addr) (bC : Nat) (hraw : LineRaw l az) :
    FnV Try.prog 11 [(Value.agg (LineV.cells (LineV.mk (TrackV.mk (Slc.mk kA l.Track.length kC)) l.Fast (Slc.mk cA l.Clocks.length cC) (Slc.mk bA l.Beams.length bC) l.Finish l.Fakes l.Misses)).toArray)] [(rd kA l.Track.length 9 (l.Track.map StretchV.cells)), (rd cA l.Clocks.length 2 (List.zipWith ClockM.cells l.Clocks az)), (bun (nest ClockM.rds l.Clocks az)), (rd bA l.Beams.length 4 (l.Beams.map BeamV.cells))] (Value.bool (decide (GreatL l))) := by
 have htk := hraw.trk
 have hck := hraw.cks
 have has := hraw.as_
 have hbm := hraw.bms
 refine fnV_of go11 Try.func11 rfl rfl fun w0 Q hQ hN => ?_
 try dsimp only
 refine WS fun _ hK1 => ?_
 refine BXA rfl fun b2 => ?_
 refine rS (AG rfl) ?_
 refine RK hK1 ?_
 refine w_seq fun _ hK3 => ?_
 refine WS fun _ hK4 => ?_
 refine rS (FA 0 rfl fo28_0 rfl) ?_
 refine rS (LP (TrackV.cells (TrackV.mk (Slc.mk kA l.Track.length kC))) 0 rfl tk24 rfl rfl rfl) ?_
 refine rS (CL (great_c l.Track kA kC) (ha_at 1 rfl rfl <| ha_nil) rfl) ?_
 refine rS (MV rfl) ?_
 refine r_bool (t := 7) rfl (fun h7 => ?_) (fun h7 => ?_)
 · replace h7 := DT h7
   refine rS (OX rfl) ?_
   refine rS (OX rfl) ?_
   refine rS (OX rfl) ?_
   refine rS (OX rfl) ?_
   refine rS (PK rfl) ?_
   refine rS (MV rfl) ?_
   refine rS (OX rfl) ?_
   refine rS (OX rfl) ?_
   refine rS (OX rfl) ?_
   refine rS (OX rfl) ?_
   refine rS (PK rfl) ?_
   refine RK hK4 ?_
   refine w_if_true rfl ?_
   refine WS fun _ hK5 => ?_
   refine rS (AG rfl) ?_
   refine RK hK5 ?_
   refine w_ret ?_
   refine Q1 hQ rfl rfl rfl ?_
   first | exact congrArg Value.bool (decide_eq_true (.inl (by omega))).symm | exact congrArg Value.bool (decide_eq_true (great_at hx h33)).symm | exact congrArg Value.bool (decide_eq_false (great_no (by omega) (by omega) hl0_1)).symm
 replace h7 := DF h7
 refine rS (FA 2 rfl fo28_2 rfl) ?_
 refine rS (L1 (Value.slice cA l.Clocks.length cC) 0 rfl tk25 rfl rfl) ?_
 refine rS (LN rfl ut25) ?_
 refine rS (BI rfl b_gtr) ?_
 refine rS (PK rfl) ?_
 refine rS (MV rfl) ?_
 refine r_bool (t := 13) rfl (fun h13 => ?_) (fun h13 => ?_)
 · replace h13 := DT h13
   refine rS (OX rfl) ?_
   refine rS (OX rfl) ?_
   refine rS (OX rfl) ?_
   refine rS (OX rfl) ?_
   refine rS (PK rfl) ?_
   refine RK hK4 ?_
   refine w_if_true rfl ?_
   refine WS fun _ hK6 => ?_
   refine rS (AG rfl) ?_
   refine RK hK6 ?_
   refine w_ret ?_
   refine Q1 hQ rfl rfl rfl ?_
   first | exact congrArg Value.bool (decide_eq_true (.inl (by omega))).symm | exact congrArg Value.bool (decide_eq_true (great_at hx h33)).symm | exact congrArg Value.bool (decide_eq_false (great_no (by omega) (by omega) hl0_1)).symm
 replace h13 := DF h13
 refine rS (FA 3 rfl fo28_3 rfl) ?_
 refine rS (L1 (Value.slice bA l.Beams.length bC) 0 rfl tk26 rfl rfl) ?_
 refine rS (LN rfl ut26) ?_
 refine rS (BI rfl b_gtr) ?_
 refine rS (PK rfl) ?_
 refine RK hK4 ?_
 refine w_if rfl (fun h18 => ?_) (fun h18 => ?_)
 · replace h18 := DT h18
   refine WS fun _ hK7 => ?_
   refine rS (AG rfl) ?_
   refine RK hK7 ?_
   refine w_ret ?_
   refine Q1 hQ rfl rfl rfl ?_
   first | exact congrArg Value.bool (decide_eq_true (.inl (by omega))).symm | exact congrArg Value.bool (decide_eq_true (great_at hx h33)).symm | exact congrArg Value.bool (decide_eq_false (great_no (by omega) (by omega) hl0_1)).symm
 replace h18 := DF h18
 refine WK hK3 ?_
 refine w_seq fun _ hK8 => ?_
 refine WS fun _ hK9 => ?_
 refine rS (AG rfl) ?_
 refine RK hK9 ?_
 refine w_block ?_
 have hinit : (0 ≤ l.Clocks.length) ∧ (SyncsTo l 0) := by exact ⟨Nat.zero_le _, fun j c hj => absurd hj (Nat.not_lt_zero _)⟩
 refine w_loop (ι := { z : Nat // (z ≤ l.Clocks.length) ∧ (SyncsTo l z) }) (fun z => [(1, (Value.pointer (some ⟨b2, 0, none⟩))), (3, (Value.int .i64 ((z.1 : Nat) : Int)))]) (fun z => [(blk b2 28 (LineV.cells (LineV.mk (TrackV.mk (Slc.mk kA l.Track.length kC)) l.Fast (Slc.mk cA l.Clocks.length cC) (Slc.mk bA l.Beams.length bC) l.Finish l.Fakes l.Misses))), (rd kA l.Track.length 9 (l.Track.map StretchV.cells)).ro, (rd cA l.Clocks.length 2 (List.zipWith ClockM.cells l.Clocks az)).ro, (bun (nest ClockM.rds l.Clocks az)).ro, (rd bA l.Beams.length 4 (l.Beams.map BeamV.cells)).ro]) (fun z => l.Clocks.length - z.1) ⟨0, hinit⟩ (Sub.cons rfl <| Sub.cons rfl <| Sub.nil _) (fun w hs => St.sel [0, 1, 2, 3, 4] rfl rfl hs) ?_
 clear hinit
 rintro ⟨i, ⟨hl0_0, hl0_1⟩⟩ J10 hJ10
 try dsimp only
 refine w_seq fun _ hK11 => ?_
 refine WS fun _ hK12 => ?_
 refine rS (MV rfl) ?_
 refine rS (FA 2 rfl fo28_2 rfl) ?_
 refine rS (L1 (Value.slice cA l.Clocks.length cC) 0 rfl tk25 rfl rfl) ?_
 refine rS (LN rfl ut25) ?_
 refine rS (BI rfl b_lss) ?_
 refine RK hK12 ?_
 refine w_if rfl (fun h13 => ?_) (fun h13 => ?_)
 rotate_left 1
 · replace h13 := DF h13
   refine w_exit ?_
   refine k_exit_then ?_
   refine k_exit_then ?_
   refine k_exit_same ?_
   refine KK hK8 ?_
   refine WS fun _ hK18 => ?_
   refine rS (AG rfl) ?_
   refine RK hK18 ?_
   refine w_ret ?_
   refine Q1 hQ rfl rfl rfl ?_
   first | exact congrArg Value.bool (decide_eq_true (.inl (by omega))).symm | exact congrArg Value.bool (decide_eq_true (great_at hx h33)).symm | exact congrArg Value.bool (decide_eq_false (great_no (by omega) (by omega) hl0_1)).symm
 replace h13 := DT h13
 refine WK hK11 ?_
 refine w_seq fun _ hK14 => ?_
 refine w_block ?_
 refine WS fun _ hK15 => ?_
 refine rS (FA 2 rfl fo28_2 rfl) ?_
 refine rS (L1 (Value.slice cA l.Clocks.length cC) 0 rfl tk25 rfl rfl) ?_
 refine rS (MV rfl) ?_
 obtain ⟨x, hx⟩ : ∃ y_, l.Clocks[i]? = some y_ := ⟨l.Clocks[i]'(by omega), List.getElem?_eq_getElem _⟩
 obtain ⟨xa, hxa⟩ : ∃ y_, az[i]? = some y_ := ⟨az[i]'(by omega), List.getElem?_eq_getElem _⟩
 have hxm : (List.zipWith ClockM.cells l.Clocks az)[i]? = some (ClockM.cells x xa) := zip_get hx hxa
 refine rS (IA i rfl (has_at 2 rfl) te25 (by decide) (by omega) (by omega)) ?_
 refine rS (FAR ((i * 2) + 1) rfl (has_at 2 rfl) (Nat.mul_pos (by omega) (by decide)) fo64_1 rfl) ?_
 refine rS (LE1 i 1 (Value.slice xa.1 x.Syncs.length xa.2) rfl tk62 (has_at 2 rfl) hxm rfl (by decide) rfl) ?_
 refine rS (LN rfl ut62) ?_
 refine rS (BI rfl b_gtr) ?_
 refine RK hK15 ?_
 refine w_if rfl (fun h33 => ?_) (fun h33 => ?_)
 · replace h33 := DT h33
   refine WS fun _ hK16 => ?_
   refine rS (AG rfl) ?_
   refine RK hK16 ?_
   refine w_ret ?_
   refine Q1 hQ rfl rfl rfl ?_
   first | exact congrArg Value.bool (decide_eq_true (.inl (by omega))).symm | exact congrArg Value.bool (decide_eq_true (great_at hx h33)).symm | exact congrArg Value.bool (decide_eq_false (great_no (by omega) (by omega) hl0_1)).symm
 replace h33 := DF h33
 refine w_skip ?_
 refine k_block ?_
 refine KK hK14 ?_
 refine w_region ?_
 refine rS (MV rfl) ?_
 refine rS (BI rfl (b_add ⟨by omega, by omega⟩)) ?_
 refine rS (AG rfl) ?_
 refine r_nil ?_
 have hb17 : (Value.int .i64 (((i + 1) : Nat) : Int)) = (Value.int .i64 (((i : Nat) : Int) + 1)) := by exact congrArg (Value.int .i64) (by omega)
 refine k_then (hJ10 ⟨(i + 1), ⟨by omega, upto_succ hl0_1 hx (by omega)⟩⟩ _ _ _ rfl (by first | omega | (simp; omega)) (Sub.cons rfl <| sub_val rfl hb17 <| Sub.nil _) (fun w hs => St.sel [0, 1, 2, 3, 4] rfl rfl hs))
set_option maxRecDepth 100000 in
set_option maxHeartbeats 400000 in
theorem drifts_c (d : Int) (m : Int) (hd : 0 ≤ d ∧ d ≤ 1000) (hm : 0 ≤ m ∧ m ≤ 90000000) :
    FnV Try.prog 25 [(Value.int .i64 d), (Value.int .i64 m)] [] (Value.int .i64 (upD (d * m) 1000000)) := by
 have hdm := mulb (a := d) (b := m) (A := 1000) (B := 90000000) hd.1 hd.2 hm.1 hm.2
 refine fnV_of go25 Try.func25 rfl rfl fun w0 Q hQ hN => ?_
 try dsimp only
 refine WS fun _ hK1 => ?_
 refine rS (AG rfl) ?_
 refine RK hK1 ?_
 refine WS fun _ hK2 => ?_
 refine rS (MV rfl) ?_
 refine rS (MV rfl) ?_
 refine rS (BI rfl (b_mul ⟨by omega, by omega⟩)) ?_
 refine rS (AG rfl) ?_
 refine RK hK2 ?_
 refine w_seq fun _ hK3 => ?_
 refine WS fun _ hK4 => ?_
 refine rS (MV rfl) ?_
 refine rS (BI rfl (b_rem (by omega) (by omega))) ?_
 refine rS (BI rfl b_gtr) ?_
 refine RK hK4 ?_
 refine w_if rfl (fun h5 => ?_) (fun h5 => ?_)
 rotate_left 1
 · replace h5 := DF h5
   refine WK hK3 ?_
   refine WS fun _ hK7 => ?_
   refine rS (MV rfl) ?_
   refine rS (BI rfl (b_quo (by omega) (by omega) (by omega))) ?_
   refine rS (AG rfl) ?_
   refine RK hK7 ?_
   refine w_ret ?_
   refine Q1 hQ rfl rfl rfl ?_
   exact congrArg (Value.int .i64) (by unfold upD; omega)
 replace h5 := DT h5
 refine WS fun _ hK6 => ?_
 refine rS (MV rfl) ?_
 refine rS (BI rfl (b_quo (by omega) (by omega) (by omega))) ?_
 refine rS (BI rfl (b_add ⟨by omega, by omega⟩)) ?_
 refine rS (AG rfl) ?_
 refine RK hK6 ?_
 refine w_ret ?_
 refine Q1 hQ rfl rfl rfl ?_
 exact congrArg (Value.int .i64) (by unfold upD; omega)
set_option maxRecDepth 100000 in
set_option maxHeartbeats 400000 in
theorem rclock_c (c : ClockM) (sA : Option Addr) (sC : Nat) (hlen : c.Syncs.length ≤ 1000000) :
    FnV Try.prog 92 [(Value.agg (ClockV.cells (ClockV.mk c.Drift (Slc.mk sA c.Syncs.length sC))).toArray)] [(rd sA c.Syncs.length 3 (c.Syncs.map SyncV.cells))] (Value.bool (decide (ClockOk c))) := by
 refine fnV_of go92 Try.func92 rfl rfl fun w0 Q hQ hN => ?_
 try dsimp only
 refine WS fun _ hK1 => ?_
 refine BXA rfl fun b2 => ?_
 refine rS (AG rfl) ?_
 refine RK hK1 ?_
 refine w_seq fun _ hK3 => ?_
 refine WS fun _ hK4 => ?_
 refine rS (FA 0 rfl fo64_0 rfl) ?_
 refine rS (L1 (Value.int .i64 c.Drift) 0 rfl tk3 rfl rfl) ?_
 refine rS (CL (within_5 c.Drift 0 1000) (ha_nil) rfl) ?_
 refine rS (NT rfl) ?_
 refine rS (MV rfl) ?_
 refine r_bool (t := 14) rfl (fun h14 => ?_) (fun h14 => ?_)
 · replace h14 := XT h14
   refine rS (OX rfl) ?_
   refine rS (OX rfl) ?_
   refine rS (OX rfl) ?_
   refine rS (OX rfl) ?_
   refine rS (OX rfl) ?_
   refine rS (PK rfl) ?_
   refine RK hK4 ?_
   refine w_if_true rfl ?_
   refine WS fun _ hK5 => ?_
   refine rS (AG rfl) ?_
   refine RK hK5 ?_
   refine w_ret ?_
   refine Q1 hQ rfl rfl rfl ?_
   first | exact congrArg Value.bool (decide_eq_false fun h => by have q1 := h.drift; have q2 := h.len; omega).symm | exact congrArg Value.bool (decide_eq_false fun h => by have q := h.sync i x hx; unfold SyncOk at q; first | (rw [prevAt_zero (by omega)] at q; omega) | (rw [prevAt_pos (by omega) hy] at q; omega) | omega).symm | exact congrArg Value.bool (decide_eq_false fun h => by have q := h.pair m k y x hy (by omega) hx; unfold PairOk at q; omega).symm | exact congrArg Value.bool (decide_eq_true (clock_ok (by omega) (by omega) (upto_all (by omega) hl4_1) (by omega) hl10_1)).symm
 replace h14 := XF h14
 refine rS (FA 1 rfl fo64_1 rfl) ?_
 refine rS (L1 (Value.slice sA c.Syncs.length sC) 0 rfl tk62 rfl rfl) ?_
 refine rS (LN rfl ut62) ?_
 refine rS (CL (within_5 ((c.Syncs.length : Nat) : Int) 1 5) (ha_nil) rfl) ?_
 refine rS (NT rfl) ?_
 refine rS (PK rfl) ?_
 refine RK hK4 ?_
 refine w_if rfl (fun h20 => ?_) (fun h20 => ?_)
 · replace h20 := XT h20
   refine WS fun _ hK6 => ?_
   refine rS (AG rfl) ?_
   refine RK hK6 ?_
   refine w_ret ?_
   refine Q1 hQ rfl rfl rfl ?_
   first | exact congrArg Value.bool (decide_eq_false fun h => by have q1 := h.drift; have q2 := h.len; omega).symm | exact congrArg Value.bool (decide_eq_false fun h => by have q := h.sync i x hx; unfold SyncOk at q; first | (rw [prevAt_zero (by omega)] at q; omega) | (rw [prevAt_pos (by omega) hy] at q; omega) | omega).symm | exact congrArg Value.bool (decide_eq_false fun h => by have q := h.pair m k y x hy (by omega) hx; unfold PairOk at q; omega).symm | exact congrArg Value.bool (decide_eq_true (clock_ok (by omega) (by omega) (upto_all (by omega) hl4_1) (by omega) hl10_1)).symm
 replace h20 := XF h20
 refine WK hK3 ?_
 refine w_seq fun _ hK7 => ?_
 refine WS fun _ hK8 => ?_
 refine rS (AG rfl) ?_
 refine RK hK8 ?_
 refine w_block ?_
 have hinit : (0 ≤ c.Syncs.length) ∧ (∀ (j : Nat) y, j < 0 → c.Syncs[j]? = some y → SyncOk c j y) := by exact ⟨Nat.zero_le _, fun j y hj => absurd hj (Nat.not_lt_zero _)⟩
 refine w_loop (ι := { z : Nat // (z ≤ c.Syncs.length) ∧ (∀ (j : Nat) y, j < z → c.Syncs[j]? = some y → SyncOk c j y) }) (fun z => [(1, (Value.pointer (some ⟨b2, 0, none⟩))), (3, (Value.int .i64 ((z.1 : Nat) : Int)))]) (fun z => [(blk b2 64 (ClockV.cells (ClockV.mk c.Drift (Slc.mk sA c.Syncs.length sC)))), (rd sA c.Syncs.length 3 (c.Syncs.map SyncV.cells)).ro]) (fun z => c.Syncs.length - z.1) ⟨0, hinit⟩ (Sub.cons rfl <| Sub.cons rfl <| Sub.nil _) (fun w hs => St.sel [0, 1] rfl rfl hs) ?_
 clear hinit
 rintro ⟨i, ⟨hl4_0, hl4_1⟩⟩ J9 hJ9
 try dsimp only
 have hpv := prev_s hl4_0 hl4_1
 refine w_seq fun _ hK10 => ?_
 refine WS fun _ hK11 => ?_
 refine rS (MV rfl) ?_
 refine rS (FA 1 rfl fo64_1 rfl) ?_
 refine rS (L1 (Value.slice sA c.Syncs.length sC) 0 rfl tk62 rfl rfl) ?_
 refine rS (LN rfl ut62) ?_
 refine rS (BI rfl b_lss) ?_
 refine RK hK11 ?_
 refine w_if rfl (fun h25 => ?_) (fun h25 => ?_)
 · replace h25 := DT h25
   refine WK hK10 ?_
   refine w_seq fun _ hK12 => ?_
   refine w_block ?_
   refine WS fun _ hK13 => ?_
   refine rS (FA 1 rfl fo64_1 rfl) ?_
   refine rS (L1 (Value.slice sA c.Syncs.length sC) 0 rfl tk62 rfl rfl) ?_
   refine rS (MV rfl) ?_
   obtain ⟨x, hx⟩ : ∃ y_, c.Syncs[i]? = some y_ := ⟨c.Syncs[i]'(by omega), List.getElem?_eq_getElem _⟩
   have hxm : (c.Syncs.map SyncV.cells)[i]? = some (SyncV.cells x) := by rw [List.getElem?_map, hx]; rfl
   refine rS (IA i rfl (has_at 1 rfl) te62 (by decide) (by omega) (by omega)) ?_
   refine rS (LEN i 0 (SyncV.cells x) rfl tk61 (has_at 1 rfl) hxm rfl (by decide) rfl rfl) ?_
   refine AL rfl tz61 fun b14 => ?_
   refine SW0 rfl ts61 rfl ?_
   refine RK hK13 ?_
   refine w_seq fun _ hK15 => ?_
   refine w_draw mixed 41 (by kernel_rfl) ?_
   refine dS (FA 0 rfl fo61_0 rfl) ?_
   refine dS (L1 (Value.int .i64 x.At) 0 rfl tk3 rfl rfl) ?_
   refine dS (CL (within_5 x.At 0 86400000) (ha_nil) rfl) ?_
   refine dS (NT rfl) ?_
   refine dS (MV rfl) ?_
   refine d_bool (t := 37) rfl (fun h37 => ?_) (fun h37 => ?_)
   · replace h37 := XT h37
     refine dS (OX rfl) ?_
     refine dS (OX rfl) ?_
     refine dS (OX rfl) ?_
     refine dS (OX rfl) ?_
     refine dS (OX rfl) ?_
     refine dS (OX rfl) ?_
     refine dS (OX rfl) ?_
     refine dS (OX rfl) ?_
     refine dS (OX rfl) ?_
     refine dS (OX rfl) ?_
     refine dS (OX rfl) ?_
     refine dS (OX rfl) ?_
     refine dS (OX rfl) ?_
     refine dS (OX rfl) ?_
     refine dS (PK rfl) ?_
     refine dS (MV rfl) ?_
     refine dS (OX rfl) ?_
     refine dS (OX rfl) ?_
     refine dS (OX rfl) ?_
     refine dS (OX rfl) ?_
     refine dS (PK rfl) ?_
     refine dS (MV rfl) ?_
     refine dS (OX rfl) ?_
     refine dS (OX rfl) ?_
     refine dS (OX rfl) ?_
     refine dS (OX rfl) ?_
     refine dS (OX rfl) ?_
     refine dS (OX rfl) ?_
     refine dS (OX rfl) ?_
     refine dS (PK rfl) ?_
     refine dS (MV rfl) ?_
     refine dS (OX rfl) ?_
     refine dS (OX rfl) ?_
     refine dS (OX rfl) ?_
     refine dS (OX rfl) ?_
     refine dS (PK rfl) ?_
     refine d_end ?_
     refine RK hK15 ?_
     refine w_if_true rfl ?_
     refine WS fun _ hK16 => ?_
     refine rS (AG rfl) ?_
     refine RK hK16 ?_
     refine w_ret ?_
     refine Q1 hQ rfl rfl rfl ?_
     first | exact congrArg Value.bool (decide_eq_false fun h => by have q1 := h.drift; have q2 := h.len; omega).symm | exact congrArg Value.bool (decide_eq_false fun h => by have q := h.sync i x hx; unfold SyncOk at q; first | (rw [prevAt_zero (by omega)] at q; omega) | (rw [prevAt_pos (by omega) hy] at q; omega) | omega).symm | exact congrArg Value.bool (decide_eq_false fun h => by have q := h.pair m k y x hy (by omega) hx; unfold PairOk at q; omega).symm | exact congrArg Value.bool (decide_eq_true (clock_ok (by omega) (by omega) (upto_all (by omega) hl4_1) (by omega) hl10_1)).symm
   replace h37 := XF h37
   refine dS (MV rfl) ?_
   refine dS (BI rfl b_gtr) ?_
   refine dS (MV rfl) ?_
   refine d_bool (t := 40) rfl (fun h40 => ?_) (fun h40 => ?_)
   rotate_left 1
   · replace h40 := DF h40
     refine dS (OX rfl) ?_
     refine dS (OX rfl) ?_
     refine dS (OX rfl) ?_
     refine dS (OX rfl) ?_
     refine dS (OX rfl) ?_
     refine dS (OX rfl) ?_
     refine dS (OX rfl) ?_
     refine dS (OX rfl) ?_
     refine dS (OX rfl) ?_
     refine dS (OX rfl) ?_
     refine dS (PK rfl) ?_
     refine dS (PK rfl) ?_
     refine dS (MV rfl) ?_
     refine dS (FA 1 rfl fo61_1 rfl) ?_
     refine dS (FA 1 rfl fo34_0 rfl) ?_
     refine dS (L1 (Value.int .i64 x.Ahead.Lo) 0 rfl tk3 rfl rfl) ?_
     refine dS (BI rfl b_lss) ?_
     refine dS (PK rfl) ?_
     refine dS (MV rfl) ?_
     refine d_bool (t := 59) rfl (fun h59 => ?_) (fun h59 => ?_)
     · replace h59 := DT h59
       refine dS (OX rfl) ?_
       refine dS (OX rfl) ?_
       refine dS (OX rfl) ?_
       refine dS (OX rfl) ?_
       refine dS (OX rfl) ?_
       refine dS (OX rfl) ?_
       refine dS (OX rfl) ?_
       refine dS (PK rfl) ?_
       refine dS (MV rfl) ?_
       refine dS (OX rfl) ?_
       refine dS (OX rfl) ?_
       refine dS (OX rfl) ?_
       refine dS (OX rfl) ?_
       refine dS (PK rfl) ?_
       refine d_end ?_
       refine RK hK15 ?_
       refine w_if_true rfl ?_
       refine WS fun _ hK22 => ?_
       refine rS (AG rfl) ?_
       refine RK hK22 ?_
       refine w_ret ?_
       refine Q1 hQ rfl rfl rfl ?_
       first | exact congrArg Value.bool (decide_eq_false fun h => by have q1 := h.drift; have q2 := h.len; omega).symm | exact congrArg Value.bool (decide_eq_false fun h => by have q := h.sync i x hx; unfold SyncOk at q; first | (rw [prevAt_zero (by omega)] at q; omega) | (rw [prevAt_pos (by omega) hy] at q; omega) | omega).symm | exact congrArg Value.bool (decide_eq_false fun h => by have q := h.pair m k y x hy (by omega) hx; unfold PairOk at q; omega).symm | exact congrArg Value.bool (decide_eq_true (clock_ok (by omega) (by omega) (upto_all (by omega) hl4_1) (by omega) hl10_1)).symm
     replace h59 := DF h59
     refine dS (FA 1 rfl fo61_1 rfl) ?_
     refine dS (FA 1 rfl fo34_0 rfl) ?_
     refine dS (L1 (Value.int .i64 x.Ahead.Lo) 0 rfl tk3 rfl rfl) ?_
     refine dS (FA 1 rfl fo61_1 rfl) ?_
     refine dS (FA 2 rfl fo34_1 rfl) ?_
     refine dS (L1 (Value.int .i64 x.Ahead.Hi) 0 rfl tk3 rfl rfl) ?_
     refine dS (BI rfl b_gtr) ?_
     refine dS (PK rfl) ?_
     refine dS (MV rfl) ?_
     refine d_bool (t := 68) rfl (fun h68 => ?_) (fun h68 => ?_)
     · replace h68 := DT h68
       refine dS (OX rfl) ?_
       refine dS (OX rfl) ?_
       refine dS (OX rfl) ?_
       refine dS (OX rfl) ?_
       refine dS (PK rfl) ?_
       refine d_end ?_
       refine RK hK15 ?_
       refine w_if_true rfl ?_
       refine WS fun _ hK23 => ?_
       refine rS (AG rfl) ?_
       refine RK hK23 ?_
       refine w_ret ?_
       refine Q1 hQ rfl rfl rfl ?_
       first | exact congrArg Value.bool (decide_eq_false fun h => by have q1 := h.drift; have q2 := h.len; omega).symm | exact congrArg Value.bool (decide_eq_false fun h => by have q := h.sync i x hx; unfold SyncOk at q; first | (rw [prevAt_zero (by omega)] at q; omega) | (rw [prevAt_pos (by omega) hy] at q; omega) | omega).symm | exact congrArg Value.bool (decide_eq_false fun h => by have q := h.pair m k y x hy (by omega) hx; unfold PairOk at q; omega).symm | exact congrArg Value.bool (decide_eq_true (clock_ok (by omega) (by omega) (upto_all (by omega) hl4_1) (by omega) hl10_1)).symm
     replace h68 := DF h68
     refine dS (FA 1 rfl fo61_1 rfl) ?_
     refine dS (FA 2 rfl fo34_1 rfl) ?_
     refine dS (L1 (Value.int .i64 x.Ahead.Hi) 0 rfl tk3 rfl rfl) ?_
     refine dS (BI rfl b_gtr) ?_
     refine dS (PK rfl) ?_
     refine d_end ?_
     refine RK hK15 ?_
     refine w_if rfl (fun h73 => ?_) (fun h73 => ?_)
     rotate_left 1
     · replace h73 := DF h73
       refine w_skip ?_
       refine k_block ?_
       refine KK hK12 ?_
       refine w_region ?_
       refine rS (MV rfl) ?_
       refine rS (BI rfl (b_add ⟨by omega, by omega⟩)) ?_
       refine rS (AG rfl) ?_
       refine r_nil ?_
       have hb25 : (Value.int .i64 (((i + 1) : Nat) : Int)) = (Value.int .i64 (((i : Nat) : Int) + 1)) := by exact congrArg (Value.int .i64) (by omega)
       refine k_then (hJ9 ⟨(i + 1), ⟨by omega, upto_succ hl4_1 hx (by unfold SyncOk; first | (rw [prevAt_zero (by omega)]; omega) | (rw [prevAt_pos (by omega) hy]; omega))⟩⟩ _ _ _ rfl (by first | omega | (simp; omega)) (Sub.cons rfl <| sub_val rfl hb25 <| Sub.nil _) (fun w hs => St.sel [1, 2] rfl rfl hs))
     replace h73 := DT h73
     refine WS fun _ hK24 => ?_
     refine rS (AG rfl) ?_
     refine RK hK24 ?_
     refine w_ret ?_
     refine Q1 hQ rfl rfl rfl ?_
     first | exact congrArg Value.bool (decide_eq_false fun h => by have q1 := h.drift; have q2 := h.len; omega).symm | exact congrArg Value.bool (decide_eq_false fun h => by have q := h.sync i x hx; unfold SyncOk at q; first | (rw [prevAt_zero (by omega)] at q; omega) | (rw [prevAt_pos (by omega) hy] at q; omega) | omega).symm | exact congrArg Value.bool (decide_eq_false fun h => by have q := h.pair m k y x hy (by omega) hx; unfold PairOk at q; omega).symm | exact congrArg Value.bool (decide_eq_true (clock_ok (by omega) (by omega) (upto_all (by omega) hl4_1) (by omega) hl10_1)).symm
   replace h40 := DT h40
   refine dS (FA 0 rfl fo61_0 rfl) ?_
   refine dS (L1 (Value.int .i64 x.At) 0 rfl tk3 rfl rfl) ?_
   refine dS (FA 1 rfl fo64_1 rfl) ?_
   refine dS (L1 (Value.slice sA c.Syncs.length sC) 1 rfl tk62 rfl rfl) ?_
   refine dS (MV rfl) ?_
   refine dS (BI rfl (b_sub ⟨by omega, by omega⟩)) ?_
   obtain ⟨y, hy⟩ : ∃ y_, c.Syncs[(i - 1)]? = some y_ := ⟨c.Syncs[(i - 1)]'(by omega), List.getElem?_eq_getElem _⟩
   have hym : (c.Syncs.map SyncV.cells)[(i - 1)]? = some (SyncV.cells y) := by rw [List.getElem?_map, hy]; rfl
   refine dS (IA (i - 1) rfl (has_at 2 rfl) te62 (by decide) (by omega) (by omega)) ?_
   refine dS (FAR ((i - 1) * 3) rfl (has_at 2 rfl) (Nat.mul_pos (by omega) (by decide)) fo61_0 rfl) ?_
   refine dS (LE1 (i - 1) 0 (Value.int .i64 y.At) rfl tk3 (has_at 2 rfl) hym rfl (by decide) rfl) ?_
   refine dS (BI rfl b_leq) ?_
   refine dS (PK rfl) ?_
   refine dS (PK rfl) ?_
   refine dS (MV rfl) ?_
   refine d_bool (t := 53) rfl (fun h53 => ?_) (fun h53 => ?_)
   · replace h53 := DT h53
     refine dS (OX rfl) ?_
     refine dS (OX rfl) ?_
     refine dS (OX rfl) ?_
     refine dS (OX rfl) ?_
     refine dS (PK rfl) ?_
     refine dS (MV rfl) ?_
     refine dS (OX rfl) ?_
     refine dS (OX rfl) ?_
     refine dS (OX rfl) ?_
     refine dS (OX rfl) ?_
     refine dS (OX rfl) ?_
     refine dS (OX rfl) ?_
     refine dS (OX rfl) ?_
     refine dS (PK rfl) ?_
     refine dS (MV rfl) ?_
     refine dS (OX rfl) ?_
     refine dS (OX rfl) ?_
     refine dS (OX rfl) ?_
     refine dS (OX rfl) ?_
     refine dS (PK rfl) ?_
     refine d_end ?_
     refine RK hK15 ?_
     refine w_if_true rfl ?_
     refine WS fun _ hK17 => ?_
     refine rS (AG rfl) ?_
     refine RK hK17 ?_
     refine w_ret ?_
     refine Q1 hQ rfl rfl rfl ?_
     first | exact congrArg Value.bool (decide_eq_false fun h => by have q1 := h.drift; have q2 := h.len; omega).symm | exact congrArg Value.bool (decide_eq_false fun h => by have q := h.sync i x hx; unfold SyncOk at q; first | (rw [prevAt_zero (by omega)] at q; omega) | (rw [prevAt_pos (by omega) hy] at q; omega) | omega).symm | exact congrArg Value.bool (decide_eq_false fun h => by have q := h.pair m k y x hy (by omega) hx; unfold PairOk at q; omega).symm | exact congrArg Value.bool (decide_eq_true (clock_ok (by omega) (by omega) (upto_all (by omega) hl4_1) (by omega) hl10_1)).symm
   replace h53 := DF h53
   refine dS (FA 1 rfl fo61_1 rfl) ?_
   refine dS (FA 1 rfl fo34_0 rfl) ?_
   refine dS (L1 (Value.int .i64 x.Ahead.Lo) 0 rfl tk3 rfl rfl) ?_
   refine dS (BI rfl b_lss) ?_
   refine dS (PK rfl) ?_
   refine dS (MV rfl) ?_
   refine d_bool (t := 59) rfl (fun h59 => ?_) (fun h59 => ?_)
   · replace h59 := DT h59
     refine dS (OX rfl) ?_
     refine dS (OX rfl) ?_
     refine dS (OX rfl) ?_
     refine dS (OX rfl) ?_
     refine dS (OX rfl) ?_
     refine dS (OX rfl) ?_
     refine dS (OX rfl) ?_
     refine dS (PK rfl) ?_
     refine dS (MV rfl) ?_
     refine dS (OX rfl) ?_
     refine dS (OX rfl) ?_
     refine dS (OX rfl) ?_
     refine dS (OX rfl) ?_
     refine dS (PK rfl) ?_
     refine d_end ?_
     refine RK hK15 ?_
     refine w_if_true rfl ?_
     refine WS fun _ hK18 => ?_
     refine rS (AG rfl) ?_
     refine RK hK18 ?_
     refine w_ret ?_
     refine Q1 hQ rfl rfl rfl ?_
     first | exact congrArg Value.bool (decide_eq_false fun h => by have q1 := h.drift; have q2 := h.len; omega).symm | exact congrArg Value.bool (decide_eq_false fun h => by have q := h.sync i x hx; unfold SyncOk at q; first | (rw [prevAt_zero (by omega)] at q; omega) | (rw [prevAt_pos (by omega) hy] at q; omega) | omega).symm | exact congrArg Value.bool (decide_eq_false fun h => by have q := h.pair m k y x hy (by omega) hx; unfold PairOk at q; omega).symm | exact congrArg Value.bool (decide_eq_true (clock_ok (by omega) (by omega) (upto_all (by omega) hl4_1) (by omega) hl10_1)).symm
   replace h59 := DF h59
   refine dS (FA 1 rfl fo61_1 rfl) ?_
   refine dS (FA 1 rfl fo34_0 rfl) ?_
   refine dS (L1 (Value.int .i64 x.Ahead.Lo) 0 rfl tk3 rfl rfl) ?_
   refine dS (FA 1 rfl fo61_1 rfl) ?_
   refine dS (FA 2 rfl fo34_1 rfl) ?_
   refine dS (L1 (Value.int .i64 x.Ahead.Hi) 0 rfl tk3 rfl rfl) ?_
   refine dS (BI rfl b_gtr) ?_
   refine dS (PK rfl) ?_
   refine dS (MV rfl) ?_
   refine d_bool (t := 68) rfl (fun h68 => ?_) (fun h68 => ?_)
   · replace h68 := DT h68
     refine dS (OX rfl) ?_
     refine dS (OX rfl) ?_
     refine dS (OX rfl) ?_
     refine dS (OX rfl) ?_
     refine dS (PK rfl) ?_
     refine d_end ?_
     refine RK hK15 ?_
     refine w_if_true rfl ?_
     refine WS fun _ hK19 => ?_
     refine rS (AG rfl) ?_
     refine RK hK19 ?_
     refine w_ret ?_
     refine Q1 hQ rfl rfl rfl ?_
     first | exact congrArg Value.bool (decide_eq_false fun h => by have q1 := h.drift; have q2 := h.len; omega).symm | exact congrArg Value.bool (decide_eq_false fun h => by have q := h.sync i x hx; unfold SyncOk at q; first | (rw [prevAt_zero (by omega)] at q; omega) | (rw [prevAt_pos (by omega) hy] at q; omega) | omega).symm | exact congrArg Value.bool (decide_eq_false fun h => by have q := h.pair m k y x hy (by omega) hx; unfold PairOk at q; omega).symm | exact congrArg Value.bool (decide_eq_true (clock_ok (by omega) (by omega) (upto_all (by omega) hl4_1) (by omega) hl10_1)).symm
   replace h68 := DF h68
   refine dS (FA 1 rfl fo61_1 rfl) ?_
   refine dS (FA 2 rfl fo34_1 rfl) ?_
   refine dS (L1 (Value.int .i64 x.Ahead.Hi) 0 rfl tk3 rfl rfl) ?_
   refine dS (BI rfl b_gtr) ?_
   refine dS (PK rfl) ?_
   refine d_end ?_
   refine RK hK15 ?_
   refine w_if rfl (fun h73 => ?_) (fun h73 => ?_)
   rotate_left 1
   · replace h73 := DF h73
     refine w_skip ?_
     refine k_block ?_
     refine KK hK12 ?_
     refine w_region ?_
     refine rS (MV rfl) ?_
     refine rS (BI rfl (b_add ⟨by omega, by omega⟩)) ?_
     refine rS (AG rfl) ?_
     refine r_nil ?_
     have hb21 : (Value.int .i64 (((i + 1) : Nat) : Int)) = (Value.int .i64 (((i : Nat) : Int) + 1)) := by exact congrArg (Value.int .i64) (by omega)
     refine k_then (hJ9 ⟨(i + 1), ⟨by omega, upto_succ hl4_1 hx (by unfold SyncOk; first | (rw [prevAt_zero (by omega)]; omega) | (rw [prevAt_pos (by omega) hy]; omega))⟩⟩ _ _ _ rfl (by first | omega | (simp; omega)) (Sub.cons rfl <| sub_val rfl hb21 <| Sub.nil _) (fun w hs => St.sel [1, 2] rfl rfl hs))
   replace h73 := DT h73
   refine WS fun _ hK20 => ?_
   refine rS (AG rfl) ?_
   refine RK hK20 ?_
   refine w_ret ?_
   refine Q1 hQ rfl rfl rfl ?_
   first | exact congrArg Value.bool (decide_eq_false fun h => by have q1 := h.drift; have q2 := h.len; omega).symm | exact congrArg Value.bool (decide_eq_false fun h => by have q := h.sync i x hx; unfold SyncOk at q; first | (rw [prevAt_zero (by omega)] at q; omega) | (rw [prevAt_pos (by omega) hy] at q; omega) | omega).symm | exact congrArg Value.bool (decide_eq_false fun h => by have q := h.pair m k y x hy (by omega) hx; unfold PairOk at q; omega).symm | exact congrArg Value.bool (decide_eq_true (clock_ok (by omega) (by omega) (upto_all (by omega) hl4_1) (by omega) hl10_1)).symm
 replace h25 := DF h25
 refine w_exit ?_
 refine k_exit_then ?_
 refine k_exit_then ?_
 refine k_exit_same ?_
 refine KK hK7 ?_
 refine w_seq fun _ hK26 => ?_
 refine WS fun _ hK27 => ?_
 refine rS (AG rfl) ?_
 refine RK hK27 ?_
 refine w_block ?_
 have hinit : (0 ≤ c.Syncs.length) ∧ (PairsOk c 0) := by exact ⟨Nat.zero_le _, fun j y hj => absurd hj (Nat.not_lt_zero _)⟩
 refine w_loop (ι := { z : Nat // (z ≤ c.Syncs.length) ∧ (PairsOk c z) }) (fun z => [(1, (Value.pointer (some ⟨b2, 0, none⟩))), (5, (Value.int .i64 ((z.1 : Nat) : Int)))]) (fun z => [(blk b2 64 (ClockV.cells (ClockV.mk c.Drift (Slc.mk sA c.Syncs.length sC)))), (rd sA c.Syncs.length 3 (c.Syncs.map SyncV.cells)).ro]) (fun z => c.Syncs.length - z.1) ⟨0, hinit⟩ (Sub.cons rfl <| Sub.cons rfl <| Sub.nil _) (fun w hs => St.sel [0, 1] rfl rfl hs) ?_
 clear hinit
 rintro ⟨m, ⟨hl10_0, hl10_1⟩⟩ J28 hJ28
 try dsimp only
 have hall := upto_all (P := SyncOk c) (by omega) hl4_1
 refine w_seq fun _ hK29 => ?_
 refine WS fun _ hK30 => ?_
 refine rS (MV rfl) ?_
 refine rS (FA 1 rfl fo64_1 rfl) ?_
 refine rS (L1 (Value.slice sA c.Syncs.length sC) 0 rfl tk62 rfl rfl) ?_
 refine rS (LN rfl ut62) ?_
 refine rS (BI rfl b_lss) ?_
 refine RK hK30 ?_
 refine w_if rfl (fun h78 => ?_) (fun h78 => ?_)
 rotate_left 1
 · replace h78 := DF h78
   refine w_exit ?_
   refine k_exit_then ?_
   refine k_exit_then ?_
   refine k_exit_same ?_
   refine KK hK26 ?_
   refine WS fun _ hK61 => ?_
   refine rS (AG rfl) ?_
   refine RK hK61 ?_
   refine w_ret ?_
   refine Q1 hQ rfl rfl rfl ?_
   first | exact congrArg Value.bool (decide_eq_false fun h => by have q1 := h.drift; have q2 := h.len; omega).symm | exact congrArg Value.bool (decide_eq_false fun h => by have q := h.sync i x hx; unfold SyncOk at q; first | (rw [prevAt_zero (by omega)] at q; omega) | (rw [prevAt_pos (by omega) hy] at q; omega) | omega).symm | exact congrArg Value.bool (decide_eq_false fun h => by have q := h.pair m k y x hy (by omega) hx; unfold PairOk at q; omega).symm | exact congrArg Value.bool (decide_eq_true (clock_ok (by omega) (by omega) (upto_all (by omega) hl4_1) (by omega) hl10_1)).symm
 replace h78 := DT h78
 refine WK hK29 ?_
 refine w_seq fun _ hK31 => ?_
 refine w_block ?_
 refine WS fun _ hK32 => ?_
 refine rS (AG rfl) ?_
 refine RK hK32 ?_
 refine w_block ?_
 have hinit : (0 ≤ m) ∧ (∀ y, c.Syncs[m]? = some y → PairK c y 0) := by exact ⟨Nat.zero_le _, fun y _ j o hj => absurd hj (Nat.not_lt_zero _)⟩
 refine w_loop (ι := { z : Nat // (z ≤ m) ∧ (∀ y, c.Syncs[m]? = some y → PairK c y z) }) (fun z => [(1, (Value.pointer (some ⟨b2, 0, none⟩))), (5, (Value.int .i64 ((m : Nat) : Int))), (6, (Value.int .i64 ((z.1 : Nat) : Int)))]) (fun z => [(blk b2 64 (ClockV.cells (ClockV.mk c.Drift (Slc.mk sA c.Syncs.length sC)))), (rd sA c.Syncs.length 3 (c.Syncs.map SyncV.cells)).ro]) (fun z => m - z.1) ⟨0, hinit⟩ (Sub.cons rfl <| Sub.cons rfl <| Sub.cons rfl <| Sub.nil _) (fun w hs => St.sel [0, 1] rfl rfl hs) ?_
 clear hinit
 rintro ⟨k, ⟨hl13_0, hl13_1⟩⟩ J33 hJ33
 try dsimp only
 refine w_seq fun _ hK34 => ?_
 refine WS fun _ hK35 => ?_
 refine rS (MV rfl) ?_
 refine rS (MV rfl) ?_
 refine rS (BI rfl b_lss) ?_
 refine RK hK35 ?_
 refine w_if rfl (fun h83 => ?_) (fun h83 => ?_)
 rotate_left 1
 · replace h83 := DF h83
   refine w_exit ?_
   refine k_exit_then ?_
   refine k_exit_then ?_
   refine k_exit_same ?_
   refine k_block ?_
   refine KK hK31 ?_
   refine w_region ?_
   refine rS (MV rfl) ?_
   refine rS (BI rfl (b_add ⟨by omega, by omega⟩)) ?_
   refine rS (AG rfl) ?_
   refine r_nil ?_
   have hb60 : (Value.int .i64 (((m + 1) : Nat) : Int)) = (Value.int .i64 (((m : Nat) : Int) + 1)) := by exact congrArg (Value.int .i64) (by omega)
   refine k_then (hJ28 ⟨(m + 1), ⟨by omega, pairs_succ hl10_1 hl13_1 (by omega)⟩⟩ _ _ _ rfl (by first | omega | (simp; omega)) (Sub.cons rfl <| sub_val rfl hb60 <| Sub.nil _) (fun w hs => St.sel [0, 1] rfl rfl hs))
 replace h83 := DT h83
 refine WK hK34 ?_
 refine w_seq fun _ hK36 => ?_
 refine w_block ?_
 refine w_seq fun _ hK37 => ?_
 refine w_drawN mixed [0, 1, 2, 3, 4, 5, 6, 7, 8, 9] [10, 11, 12, 13] [false, false, false, false, false, false, false, false, false, false] [] [(blk b2 64 (ClockV.cells (ClockV.mk c.Drift (Slc.mk sA c.Syncs.length sC)))), (rd sA c.Syncs.length 3 (c.Syncs.map SyncV.cells)).ro] [] (by kernel_rfl) (fun w hs => St.sel [0, 1] rfl rfl hs) (fun w hs => St.sel [] rfl rfl hs) ?_
 refine eS rfl (FA 1 rfl fo64_1 rfl) ?_
 refine eS rfl (L1 (Value.slice sA c.Syncs.length sC) 0 rfl tk62 rfl rfl) ?_
 refine eS rfl (MV rfl) ?_
 obtain ⟨x, hx⟩ : ∃ y_, c.Syncs[k]? = some y_ := ⟨c.Syncs[k]'(by omega), List.getElem?_eq_getElem _⟩
 have hxm : (c.Syncs.map SyncV.cells)[k]? = some (SyncV.cells x) := by rw [List.getElem?_map, hx]; rfl
 refine eS rfl (IA k rfl (has_at 1 rfl) te62 (by decide) (by omega) (by omega)) ?_
 refine eS rfl (LEN k 0 (SyncV.cells x) rfl tk61 (has_at 1 rfl) hxm rfl (by decide) rfl rfl) ?_
 refine eS rfl (FA 1 rfl fo64_1 rfl) ?_
 refine eS rfl (L1 (Value.slice sA c.Syncs.length sC) 0 rfl tk62 rfl rfl) ?_
 refine eS rfl (MV rfl) ?_
 obtain ⟨y, hy⟩ : ∃ y_, c.Syncs[m]? = some y_ := ⟨c.Syncs[m]'(by omega), List.getElem?_eq_getElem _⟩
 have hym : (c.Syncs.map SyncV.cells)[m]? = some (SyncV.cells y) := by rw [List.getElem?_map, hy]; rfl
 refine eS rfl (IA m rfl (has_at 1 rfl) te62 (by decide) (by omega) (by omega)) ?_
 refine eS rfl (LEN m 0 (SyncV.cells y) rfl tk61 (has_at 1 rfl) hym rfl (by decide) rfl rfl) ?_
 refine d_fin rfl ?_
 refine n_step [10, 11] (by kernel_rfl) (n_cons ?_ <| n_cons ?_ <| n_nil)
 rotate_left 1
 · refine n_op (rem' := [10, 12, 13]) rfl (by kernel_rfl) rfl fun T49 hT49 => ?_
   refine AL rfl tz61 fun b50 => ?_
   refine r_nil (hT49 _ _ (fun w hs => St.sel [1, 2] rfl rfl hs) ?_)
   refine n_step [10] (by kernel_rfl) (n_cons ?_ <| n_nil)
   refine n_op (rem' := [12, 13]) rfl (by kernel_rfl) rfl fun T51 hT51 => ?_
   refine AL rfl tz61 fun b52 => ?_
   refine r_nil (hT51 _ _ (fun w hs => St.sel [2, 3] rfl rfl hs) ?_)
   refine n_step [12] (by kernel_rfl) (n_cons ?_ <| n_nil)
   refine n_op (rem' := [13]) rfl (by kernel_rfl) rfl fun T53 hT53 => ?_
   refine SW0 rfl ts61 rfl ?_
   refine r_nil (hT53 _ _ (fun w hs => St.sel [2, 3] rfl rfl hs) ?_)
   refine n_step [13] (by kernel_rfl) (n_cons ?_ <| n_nil)
   refine n_op (rem' := []) rfl (by kernel_rfl) rfl fun T54 hT54 => ?_
   refine SW1 rfl ts61 rfl ?_
   refine r_nil (hT54 _ _ (fun w hs => St.sel [2, 3] rfl rfl hs) ?_)
   refine n_fin ?_
   refine KK hK37 ?_
   refine WS fun _ hK55 => ?_
   refine rS (FA 0 rfl fo64_0 rfl) ?_
   refine rS (L1 (Value.int .i64 c.Drift) 2 rfl tk3 rfl rfl) ?_
   refine rS (FA 0 rfl fo61_0 rfl) ?_
   refine rS (L1 (Value.int .i64 y.At) 1 rfl tk3 rfl rfl) ?_
   refine rS (FA 0 rfl fo61_0 rfl) ?_
   refine rS (L1 (Value.int .i64 x.At) 0 rfl tk3 rfl rfl) ?_
   obtain ⟨hq1, hq2, hq3⟩ := sync_pair (fun j z _ hz => hall j z hz) hy (hall _ _ hy) (show k < m by omega) hx
   refine rS (BI rfl (b_sub ⟨by omega, by omega⟩)) ?_
   refine rS (CL (drifts_c c.Drift (y.At - x.At) (by omega) (by first | assumption | omega | (simp; done) | (simp; omega))) (ha_nil) rfl) ?_
   refine rS (AG rfl) ?_
   refine RK hK55 ?_
   refine WS fun _ hK56 => ?_
   refine rS (FA 1 rfl fo61_1 rfl) ?_
   refine rS (FA 1 rfl fo34_0 rfl) ?_
   refine rS (L1 (Value.int .i64 x.Ahead.Lo) 0 rfl tk3 rfl rfl) ?_
   refine rS (FA 1 rfl fo61_1 rfl) ?_
   refine rS (FA 2 rfl fo34_1 rfl) ?_
   refine rS (L1 (Value.int .i64 y.Ahead.Hi) 1 rfl tk3 rfl rfl) ?_
   refine rS (BI rfl (b_sub ⟨by omega, by omega⟩)) ?_
   refine rS (MV rfl) ?_
   refine rS (BI rfl b_gtr) ?_
   refine rS (MV rfl) ?_
   refine r_bool (t := 113) rfl (fun h113 => ?_) (fun h113 => ?_)
   · replace h113 := DT h113
     refine rS (OX rfl) ?_
     refine rS (OX rfl) ?_
     refine rS (OX rfl) ?_
     refine rS (OX rfl) ?_
     refine rS (OX rfl) ?_
     refine rS (OX rfl) ?_
     refine rS (OX rfl) ?_
     refine rS (OX rfl) ?_
     refine rS (OX rfl) ?_
     refine rS (PK rfl) ?_
     refine RK hK56 ?_
     refine w_if_true rfl ?_
     refine WS fun _ hK57 => ?_
     refine rS (AG rfl) ?_
     refine RK hK57 ?_
     refine w_ret ?_
     refine Q1 hQ rfl rfl rfl ?_
     first | exact congrArg Value.bool (decide_eq_false fun h => by have q1 := h.drift; have q2 := h.len; omega).symm | exact congrArg Value.bool (decide_eq_false fun h => by have q := h.sync i x hx; unfold SyncOk at q; first | (rw [prevAt_zero (by omega)] at q; omega) | (rw [prevAt_pos (by omega) hy] at q; omega) | omega).symm | exact congrArg Value.bool (decide_eq_false fun h => by have q := h.pair m k y x hy (by omega) hx; unfold PairOk at q; omega).symm | exact congrArg Value.bool (decide_eq_true (clock_ok (by omega) (by omega) (upto_all (by omega) hl4_1) (by omega) hl10_1)).symm
   replace h113 := DF h113
   refine rS (FA 1 rfl fo61_1 rfl) ?_
   refine rS (FA 1 rfl fo34_0 rfl) ?_
   refine rS (L1 (Value.int .i64 y.Ahead.Lo) 1 rfl tk3 rfl rfl) ?_
   refine rS (FA 1 rfl fo61_1 rfl) ?_
   refine rS (FA 2 rfl fo34_1 rfl) ?_
   refine rS (L1 (Value.int .i64 x.Ahead.Hi) 0 rfl tk3 rfl rfl) ?_
   refine rS (BI rfl (b_sub ⟨by omega, by omega⟩)) ?_
   refine rS (MV rfl) ?_
   refine rS (BI rfl b_gtr) ?_
   refine rS (PK rfl) ?_
   refine RK hK56 ?_
   refine w_if rfl (fun h123 => ?_) (fun h123 => ?_)
   rotate_left 1
   · replace h123 := DF h123
     refine w_skip ?_
     refine k_block ?_
     refine KK hK36 ?_
     refine w_region ?_
     refine rS (MV rfl) ?_
     refine rS (BI rfl (b_add ⟨by omega, by omega⟩)) ?_
     refine rS (AG rfl) ?_
     refine r_nil ?_
     have hb59 : (Value.int .i64 (((k + 1) : Nat) : Int)) = (Value.int .i64 (((k : Nat) : Int) + 1)) := by exact congrArg (Value.int .i64) (by omega)
     refine k_then (hJ33 ⟨(k + 1), ⟨by omega, fun z hz => by rw [hy] at hz; cases hz; exact upto_succ (hl13_1 _ hy) hx (by unfold PairOk; omega)⟩⟩ _ _ _ rfl (by first | omega | (simp; omega)) (Sub.cons rfl <| Sub.cons rfl <| sub_val rfl hb59 <| Sub.nil _) (fun w hs => St.sel [2, 3] rfl rfl hs))
   replace h123 := DT h123
   refine WS fun _ hK58 => ?_
   refine rS (AG rfl) ?_
   refine RK hK58 ?_
   refine w_ret ?_
   refine Q1 hQ rfl rfl rfl ?_
   first | exact congrArg Value.bool (decide_eq_false fun h => by have q1 := h.drift; have q2 := h.len; omega).symm | exact congrArg Value.bool (decide_eq_false fun h => by have q := h.sync i x hx; unfold SyncOk at q; first | (rw [prevAt_zero (by omega)] at q; omega) | (rw [prevAt_pos (by omega) hy] at q; omega) | omega).symm | exact congrArg Value.bool (decide_eq_false fun h => by have q := h.pair m k y x hy (by omega) hx; unfold PairOk at q; omega).symm | exact congrArg Value.bool (decide_eq_true (clock_ok (by omega) (by omega) (upto_all (by omega) hl4_1) (by omega) hl10_1)).symm
 refine n_op (rem' := [11, 12, 13]) rfl (by kernel_rfl) rfl fun T38 hT38 => ?_
 refine AL rfl tz61 fun b39 => ?_
 refine r_nil (hT38 _ _ (fun w hs => St.sel [1, 2] rfl rfl hs) ?_)
 refine n_step [11] (by kernel_rfl) (n_cons ?_ <| n_nil)
 refine n_op (rem' := [12, 13]) rfl (by kernel_rfl) rfl fun T40 hT40 => ?_
 refine AL rfl tz61 fun b41 => ?_
 refine r_nil (hT40 _ _ (fun w hs => St.sel [2, 3] rfl rfl hs) ?_)
 refine n_step [12] (by kernel_rfl) (n_cons ?_ <| n_nil)
 refine n_op (rem' := [13]) rfl (by kernel_rfl) rfl fun T42 hT42 => ?_
 refine SW1 rfl ts61 rfl ?_
 refine r_nil (hT42 _ _ (fun w hs => St.sel [2, 3] rfl rfl hs) ?_)
 refine n_step [13] (by kernel_rfl) (n_cons ?_ <| n_nil)
 refine n_op (rem' := []) rfl (by kernel_rfl) rfl fun T43 hT43 => ?_
 refine SW0 rfl ts61 rfl ?_
 refine r_nil (hT43 _ _ (fun w hs => St.sel [2, 3] rfl rfl hs) ?_)
 refine n_fin ?_
 refine KK hK37 ?_
 refine WS fun _ hK44 => ?_
 refine rS (FA 0 rfl fo64_0 rfl) ?_
 refine rS (L1 (Value.int .i64 c.Drift) 2 rfl tk3 rfl rfl) ?_
 refine rS (FA 0 rfl fo61_0 rfl) ?_
 refine rS (L1 (Value.int .i64 y.At) 0 rfl tk3 rfl rfl) ?_
 refine rS (FA 0 rfl fo61_0 rfl) ?_
 refine rS (L1 (Value.int .i64 x.At) 1 rfl tk3 rfl rfl) ?_
 obtain ⟨hq1, hq2, hq3⟩ := sync_pair (fun j z _ hz => hall j z hz) hy (hall _ _ hy) (show k < m by omega) hx
 refine rS (BI rfl (b_sub ⟨by omega, by omega⟩)) ?_
 refine rS (CL (drifts_c c.Drift (y.At - x.At) (by omega) (by first | assumption | omega | (simp; done) | (simp; omega))) (ha_nil) rfl) ?_
 refine rS (AG rfl) ?_
 refine RK hK44 ?_
 refine WS fun _ hK45 => ?_
 refine rS (FA 1 rfl fo61_1 rfl) ?_
 refine rS (FA 1 rfl fo34_0 rfl) ?_
 refine rS (L1 (Value.int .i64 x.Ahead.Lo) 1 rfl tk3 rfl rfl) ?_
 refine rS (FA 1 rfl fo61_1 rfl) ?_
 refine rS (FA 2 rfl fo34_1 rfl) ?_
 refine rS (L1 (Value.int .i64 y.Ahead.Hi) 0 rfl tk3 rfl rfl) ?_
 refine rS (BI rfl (b_sub ⟨by omega, by omega⟩)) ?_
 refine rS (MV rfl) ?_
 refine rS (BI rfl b_gtr) ?_
 refine rS (MV rfl) ?_
 refine r_bool (t := 113) rfl (fun h113 => ?_) (fun h113 => ?_)
 · replace h113 := DT h113
   refine rS (OX rfl) ?_
   refine rS (OX rfl) ?_
   refine rS (OX rfl) ?_
   refine rS (OX rfl) ?_
   refine rS (OX rfl) ?_
   refine rS (OX rfl) ?_
   refine rS (OX rfl) ?_
   refine rS (OX rfl) ?_
   refine rS (OX rfl) ?_
   refine rS (PK rfl) ?_
   refine RK hK45 ?_
   refine w_if_true rfl ?_
   refine WS fun _ hK46 => ?_
   refine rS (AG rfl) ?_
   refine RK hK46 ?_
   refine w_ret ?_
   refine Q1 hQ rfl rfl rfl ?_
   first | exact congrArg Value.bool (decide_eq_false fun h => by have q1 := h.drift; have q2 := h.len; omega).symm | exact congrArg Value.bool (decide_eq_false fun h => by have q := h.sync i x hx; unfold SyncOk at q; first | (rw [prevAt_zero (by omega)] at q; omega) | (rw [prevAt_pos (by omega) hy] at q; omega) | omega).symm | exact congrArg Value.bool (decide_eq_false fun h => by have q := h.pair m k y x hy (by omega) hx; unfold PairOk at q; omega).symm | exact congrArg Value.bool (decide_eq_true (clock_ok (by omega) (by omega) (upto_all (by omega) hl4_1) (by omega) hl10_1)).symm
 replace h113 := DF h113
 refine rS (FA 1 rfl fo61_1 rfl) ?_
 refine rS (FA 1 rfl fo34_0 rfl) ?_
 refine rS (L1 (Value.int .i64 y.Ahead.Lo) 0 rfl tk3 rfl rfl) ?_
 refine rS (FA 1 rfl fo61_1 rfl) ?_
 refine rS (FA 2 rfl fo34_1 rfl) ?_
 refine rS (L1 (Value.int .i64 x.Ahead.Hi) 1 rfl tk3 rfl rfl) ?_
 refine rS (BI rfl (b_sub ⟨by omega, by omega⟩)) ?_
 refine rS (MV rfl) ?_
 refine rS (BI rfl b_gtr) ?_
 refine rS (PK rfl) ?_
 refine RK hK45 ?_
 refine w_if rfl (fun h123 => ?_) (fun h123 => ?_)
 rotate_left 1
 · replace h123 := DF h123
   refine w_skip ?_
   refine k_block ?_
   refine KK hK36 ?_
   refine w_region ?_
   refine rS (MV rfl) ?_
   refine rS (BI rfl (b_add ⟨by omega, by omega⟩)) ?_
   refine rS (AG rfl) ?_
   refine r_nil ?_
   have hb48 : (Value.int .i64 (((k + 1) : Nat) : Int)) = (Value.int .i64 (((k : Nat) : Int) + 1)) := by exact congrArg (Value.int .i64) (by omega)
   refine k_then (hJ33 ⟨(k + 1), ⟨by omega, fun z hz => by rw [hy] at hz; cases hz; exact upto_succ (hl13_1 _ hy) hx (by unfold PairOk; omega)⟩⟩ _ _ _ rfl (by first | omega | (simp; omega)) (Sub.cons rfl <| Sub.cons rfl <| sub_val rfl hb48 <| Sub.nil _) (fun w hs => St.sel [2, 3] rfl rfl hs))
 replace h123 := DT h123
 refine WS fun _ hK47 => ?_
 refine rS (AG rfl) ?_
 refine RK hK47 ?_
 refine w_ret ?_
 refine Q1 hQ rfl rfl rfl ?_
 first | exact congrArg Value.bool (decide_eq_false fun h => by have q1 := h.drift; have q2 := h.len; omega).symm | exact congrArg Value.bool (decide_eq_false fun h => by have q := h.sync i x hx; unfold SyncOk at q; first | (rw [prevAt_zero (by omega)] at q; omega) | (rw [prevAt_pos (by omega) hy] at q; omega) | omega).symm | exact congrArg Value.bool (decide_eq_false fun h => by have q := h.pair m k y x hy (by omega) hx; unfold PairOk at q; omega).symm | exact congrArg Value.bool (decide_eq_true (clock_ok (by omega) (by omega) (upto_all (by omega) hl4_1) (by omega) hl10_1)).symm
set_option maxRecDepth 100000 in
set_option maxHeartbeats 400000 in
theorem rway_c (l : LineM) (kA : Option Addr) (kC : Nat) (az : List RA) (cA : Option Addr) (cC : Nat) (bA : Option Addr) (bC : Nat) (n : Int) (hin : LineIn l az) (htr : trackOk l.Track = true) (hbk : ∀ b ∈ l.Beams, BeamOk l b) (hn : 0 ≤ n ∧ n < (l.Beams.length : Int)) :
    FnV Try.prog 78 [(Value.agg (LineV.cells (LineV.mk (TrackV.mk (Slc.mk kA l.Track.length kC)) l.Fast (Slc.mk cA l.Clocks.length cC) (Slc.mk bA l.Beams.length bC) l.Finish l.Fakes l.Misses)).toArray), (Value.int .i64 n)] [(rd kA l.Track.length 9 (l.Track.map StretchV.cells)), (rd cA l.Clocks.length 2 (List.zipWith ClockM.cells l.Clocks az)), (bun (nest ClockM.rds l.Clocks az)), (rd bA l.Beams.length 4 (l.Beams.map BeamV.cells))] (Value.int .i64 (wayF l n.toNat)) := by
 have htk := hin.trk
 have hck := hin.cks
 have has := hin.as_
 have hbm := hin.bms
 have hsd := hin.side
 refine fnV_of go78 Try.func78 rfl rfl fun w0 Q hQ hN => ?_
 try dsimp only
 refine WS fun _ hK1 => ?_
 refine BXA rfl fun b2 => ?_
 refine rS (AG rfl) ?_
 refine RK hK1 ?_
 refine w_seq fun _ hK3 => ?_
 refine WS fun _ hK4 => ?_
 refine rS (MV rfl) ?_
 refine rS (BI rfl b_eql) ?_
 refine RK hK4 ?_
 refine w_if rfl (fun h10 => ?_) (fun h10 => ?_)
 · replace h10 := DT h10
   refine w_seq fun _ hK5 => ?_
   refine w_draw4 mixed [0, 1, 2, 3, 4, 5, 6, 7, 8, 9, 10, 13] [11, 12] [false, false, false, false, false, false, false, false, false, false, false, false] [false, false] [(blk b2 28 (LineV.cells (LineV.mk (TrackV.mk (Slc.mk kA l.Track.length kC)) l.Fast (Slc.mk cA l.Clocks.length cC) (Slc.mk bA l.Beams.length bC) l.Finish l.Fakes l.Misses))), (rd kA l.Track.length 9 (l.Track.map StretchV.cells)).ro, (rd cA l.Clocks.length 2 (List.zipWith ClockM.cells l.Clocks az)).ro, (bun (nest ClockM.rds l.Clocks az)).ro, (rd bA l.Beams.length 4 (l.Beams.map BeamV.cells)).ro] [] (by kernel_rfl) (fun w hs => St.sel [0, 1, 2, 3, 4] rfl rfl hs) (fun w hs => St.sel [] rfl rfl hs) ?_
   refine eS rfl (FA 0 rfl fo28_0 rfl) ?_
   refine eS rfl (LP (TrackV.cells (TrackV.mk (Slc.mk kA l.Track.length kC))) 0 rfl tk24 rfl rfl rfl) ?_
   refine eS rfl (FA 3 rfl fo28_3 rfl) ?_
   refine eS rfl (L1 (Value.slice bA l.Beams.length bC) 0 rfl tk26 rfl rfl) ?_
   obtain ⟨y, hy⟩ : ∃ y_, l.Beams[0]? = some y_ := ⟨l.Beams[0]'(by omega), List.getElem?_eq_getElem _⟩
   have hym : (l.Beams.map BeamV.cells)[0]? = some (BeamV.cells y) := by rw [List.getElem?_map, hy]; rfl
   refine eS rfl (IA 0 rfl (has_at 4 rfl) te26 (by decide) rfl (by omega)) ?_
   refine eS rfl (FAR (0 * 4) rfl (has_at 4 rfl) (Nat.mul_pos (by omega) (by decide)) fo55_0 rfl) ?_
   refine eS rfl (LEN 0 0 (SpotV.cells y.Spot) rfl tk53 (has_at 4 rfl) hym rfl (by decide) rfl rfl) ?_
   refine eS rfl (CL (rat_c l.Track kA kC y.Spot (by first | assumption | omega | (simp; done) | (simp; omega)) (by first | assumption | omega | (simp; done) | (simp; omega))) (ha_at 1 rfl rfl <| ha_nil) rfl) ?_
   refine eS rfl (MV rfl) ?_
   refine eS rfl (EX rfl) ?_
   refine eS rfl (EX rfl) ?_
   refine eS rfl (AG rfl) ?_
   refine d_fin rfl ?_
   refine t_cons rfl fun T6 hT6 => ?_
   refine AL rfl tz34 fun b7 => ?_
   refine r_nil (hT6 _ _ (fun w hs => St.sel [1, 2, 3, 4, 5] rfl rfl hs) ?_)
   refine t_cons rfl fun T8 hT8 => ?_
   refine SW0 rfl ts34 rfl ?_
   refine r_nil (hT8 _ _ (fun w hs => St.sel [1, 2, 3, 4, 5] rfl rfl hs) ?_)
   refine t_fin rfl ?_
   refine KK hK5 ?_
   refine WS fun _ hK9 => ?_
   refine rS (FA 0 rfl fo34_0 rfl) ?_
   refine rS (L1 (Value.int .i64 ((atV l.Track y.Spot).Lo)) 0 rfl tk3 rfl rfl) ?_
   refine rS (AG rfl) ?_
   refine RK hK9 ?_
   refine w_ret ?_
   refine Q1 hQ rfl rfl rfl ?_
   first | (refine congrArg (Value.int .i64) ?_; rw [show n.toNat = 0 by omega]; rw [wayF_zero hy, (at_in htr (hbk _ (List.mem_of_getElem? hy)).1).2]) | (refine congrArg (Value.int .i64) ?_; rw [wayF_pos (by omega) hx (by rw [show n.toNat - 1 = (n - 1).toNat by omega]; exact hy), (apart_in htr ⟨(hbk _ (List.mem_of_getElem? hy)).1, (hbk _ (List.mem_of_getElem? hx)).1⟩).2])
 replace h10 := DF h10
 refine WK hK3 ?_
 refine w_seq fun _ hK10 => ?_
 refine w_draw4 mixed [0, 1, 2, 3, 4, 5, 6, 7, 8, 9, 10, 11, 12, 13, 14, 15, 16, 17, 18, 21] [19, 20] [false, false, false, false, false, false, false, false, false, false, false, false, false, false, false, false, false, false, false, false] [false, false] [(blk b2 28 (LineV.cells (LineV.mk (TrackV.mk (Slc.mk kA l.Track.length kC)) l.Fast (Slc.mk cA l.Clocks.length cC) (Slc.mk bA l.Beams.length bC) l.Finish l.Fakes l.Misses))), (rd kA l.Track.length 9 (l.Track.map StretchV.cells)).ro, (rd cA l.Clocks.length 2 (List.zipWith ClockM.cells l.Clocks az)).ro, (bun (nest ClockM.rds l.Clocks az)).ro, (rd bA l.Beams.length 4 (l.Beams.map BeamV.cells)).ro] [] (by kernel_rfl) (fun w hs => St.sel [0, 1, 2, 3, 4] rfl rfl hs) (fun w hs => St.sel [] rfl rfl hs) ?_
 refine eS rfl (FA 0 rfl fo28_0 rfl) ?_
 refine eS rfl (LP (TrackV.cells (TrackV.mk (Slc.mk kA l.Track.length kC))) 0 rfl tk24 rfl rfl rfl) ?_
 refine eS rfl (FA 3 rfl fo28_3 rfl) ?_
 refine eS rfl (L1 (Value.slice bA l.Beams.length bC) 0 rfl tk26 rfl rfl) ?_
 refine eS rfl (MV rfl) ?_
 refine eS rfl (BI rfl (b_sub ⟨by omega, by omega⟩)) ?_
 obtain ⟨y, hy⟩ : ∃ y_, l.Beams[((n - 1)).toNat]? = some y_ := ⟨l.Beams[((n - 1)).toNat]'(by omega), List.getElem?_eq_getElem _⟩
 have hym : (l.Beams.map BeamV.cells)[((n - 1)).toNat]? = some (BeamV.cells y) := by rw [List.getElem?_map, hy]; rfl
 refine eS rfl (IA (((n - 1)).toNat) rfl (has_at 4 rfl) te26 (by decide) (by omega) (by omega)) ?_
 refine eS rfl (FAR ((((n - 1)).toNat) * 4) rfl (has_at 4 rfl) (Nat.mul_pos (by omega) (by decide)) fo55_0 rfl) ?_
 refine eS rfl (LEN (((n - 1)).toNat) 0 (SpotV.cells y.Spot) rfl tk53 (has_at 4 rfl) hym rfl (by decide) rfl rfl) ?_
 refine eS rfl (FA 3 rfl fo28_3 rfl) ?_
 refine eS rfl (L1 (Value.slice bA l.Beams.length bC) 0 rfl tk26 rfl rfl) ?_
 refine eS rfl (MV rfl) ?_
 obtain ⟨x, hx⟩ : ∃ y_, l.Beams[(n).toNat]? = some y_ := ⟨l.Beams[(n).toNat]'(by omega), List.getElem?_eq_getElem _⟩
 have hxm : (l.Beams.map BeamV.cells)[(n).toNat]? = some (BeamV.cells x) := by rw [List.getElem?_map, hx]; rfl
 refine eS rfl (IA ((n).toNat) rfl (has_at 4 rfl) te26 (by decide) (by omega) (by omega)) ?_
 refine eS rfl (FAR (((n).toNat) * 4) rfl (has_at 4 rfl) (Nat.mul_pos (by omega) (by decide)) fo55_0 rfl) ?_
 refine eS rfl (LEN ((n).toNat) 0 (SpotV.cells x.Spot) rfl tk53 (has_at 4 rfl) hxm rfl (by decide) rfl rfl) ?_
 refine eS rfl (CL (rapart_c l.Track kA kC y.Spot x.Spot (by first | assumption | omega | (simp; done) | (simp; omega)) (by first | assumption | omega | (simp; done) | (simp; omega))) (ha_at 1 rfl rfl <| ha_nil) rfl) ?_
 refine eS rfl (MV rfl) ?_
 refine eS rfl (EX rfl) ?_
 refine eS rfl (EX rfl) ?_
 refine eS rfl (AG rfl) ?_
 refine d_fin rfl ?_
 refine t_cons rfl fun T11 hT11 => ?_
 refine AL rfl tz34 fun b12 => ?_
 refine r_nil (hT11 _ _ (fun w hs => St.sel [1, 2, 3, 4, 5] rfl rfl hs) ?_)
 refine t_cons rfl fun T13 hT13 => ?_
 refine SW0 rfl ts34 rfl ?_
 refine r_nil (hT13 _ _ (fun w hs => St.sel [1, 2, 3, 4, 5] rfl rfl hs) ?_)
 refine t_fin rfl ?_
 refine KK hK10 ?_
 refine WS fun _ hK14 => ?_
 refine rS (FA 0 rfl fo34_0 rfl) ?_
 refine rS (L1 (Value.int .i64 ((apartV l.Track y.Spot x.Spot).Lo)) 0 rfl tk3 rfl rfl) ?_
 refine rS (AG rfl) ?_
 refine RK hK14 ?_
 refine w_ret ?_
 refine Q1 hQ rfl rfl rfl ?_
 first | (refine congrArg (Value.int .i64) ?_; rw [show n.toNat = 0 by omega]; rw [wayF_zero hy, (at_in htr (hbk _ (List.mem_of_getElem? hy)).1).2]) | (refine congrArg (Value.int .i64) ?_; rw [wayF_pos (by omega) hx (by rw [show n.toNat - 1 = (n - 1).toNat by omega]; exact hy), (apart_in htr ⟨(hbk _ (List.mem_of_getElem? hy)).1, (hbk _ (List.mem_of_getElem? hx)).1⟩).2])
set_option maxRecDepth 100000 in
set_option maxHeartbeats 400000 in
theorem rline_c (l : LineM) (kA : Option Addr) (kC : Nat) (az : List RA) (cA : Option Addr) (cC : Nat) (bA : Option Addr) (bC : Nat) (hin : LineIn l az) (htr : trackOk l.Track = true) :
    FnV Try.prog 57 [(Value.agg (LineV.cells (LineV.mk (TrackV.mk (Slc.mk kA l.Track.length kC)) l.Fast (Slc.mk cA l.Clocks.length cC) (Slc.mk bA l.Beams.length bC) l.Finish l.Fakes l.Misses)).toArray)] [(rd kA l.Track.length 9 (l.Track.map StretchV.cells)), (rd cA l.Clocks.length 2 (List.zipWith ClockM.cells l.Clocks az)), (bun (nest ClockM.rds l.Clocks az)), (rd bA l.Beams.length 4 (l.Beams.map BeamV.cells))] (Value.bool (decide (LineOk l))) := by
 have htk := hin.trk
 have hck := hin.cks
 have has := hin.as_
 have hbm := hin.bms
 have hsd := hin.side
 have hst := trackOk_all htr
 have hl12 := trackOk_le htr
 refine fnV_of go57 Try.func57 rfl rfl fun w0 Q hQ hN => ?_
 try dsimp only
 refine WS fun _ hK1 => ?_
 refine BXA rfl fun b2 => ?_
 refine rS (AG rfl) ?_
 refine RK hK1 ?_
 refine w_seq fun _ hK3 => ?_
 refine WS fun _ hK4 => ?_
 refine rS (FA 1 rfl fo28_1 rfl) ?_
 refine rS (L1 (Value.int .i64 l.Fast) 0 rfl tk3 rfl rfl) ?_
 refine rS (CL (within_5 l.Fast 1 5000) (ha_nil) rfl) ?_
 refine rS (NT rfl) ?_
 refine rS (MV rfl) ?_
 refine r_bool (t := 10) rfl (fun h10 => ?_) (fun h10 => ?_)
 · replace h10 := XT h10
   refine rS (OX rfl) ?_
   refine rS (OX rfl) ?_
   refine rS (OX rfl) ?_
   refine rS (OX rfl) ?_
   refine rS (OX rfl) ?_
   refine rS (PK rfl) ?_
   refine rS (MV rfl) ?_
   refine rS (OX rfl) ?_
   refine rS (OX rfl) ?_
   refine rS (OX rfl) ?_
   refine rS (OX rfl) ?_
   refine rS (OX rfl) ?_
   refine rS (PK rfl) ?_
   refine rS (MV rfl) ?_
   refine rS (OX rfl) ?_
   refine rS (OX rfl) ?_
   refine rS (OX rfl) ?_
   refine rS (OX rfl) ?_
   refine rS (OX rfl) ?_
   refine rS (OX rfl) ?_
   refine rS (OX rfl) ?_
   refine rS (OX rfl) ?_
   refine rS (PK rfl) ?_
   refine rS (MV rfl) ?_
   refine rS (OX rfl) ?_
   refine rS (OX rfl) ?_
   refine rS (OX rfl) ?_
   refine rS (OX rfl) ?_
   refine rS (PK rfl) ?_
   refine rS (MV rfl) ?_
   refine rS (OX rfl) ?_
   refine rS (OX rfl) ?_
   refine rS (OX rfl) ?_
   refine rS (OX rfl) ?_
   refine rS (PK rfl) ?_
   refine RK hK4 ?_
   refine w_if_true rfl ?_
   refine WS fun _ hK5 => ?_
   refine rS (AG rfl) ?_
   refine RK hK5 ?_
   refine w_ret ?_
   refine Q1 hQ rfl rfl rfl ?_
   first | exact congrArg Value.bool (decide_eq_false fun h => by have q := h.head; unfold HeadOk at q; omega).symm | exact congrArg Value.bool (decide_eq_false fun h => h59 (h.clock _ (List.mem_of_getElem? hx))).symm | exact congrArg Value.bool (decide_eq_false fun h => by have q := h.beam _ (List.mem_of_getElem? hy); have q2 := q.2; first | exact h77 q.1 | omega).symm | exact congrArg Value.bool (decide_eq_false fun h => by have q := h.way n (by omega); simp only [Int.toNat_natCast] at h101; omega).symm | exact congrArg Value.bool (decide_eq_true (line_head (by unfold HeadOk; omega) (upto_mem (by omega) hl4_1) (upto_mem (by omega) hl9_1) (fun j hj => hl14_1 j (by omega)))).symm
 replace h10 := XF h10
 refine rS (FA 2 rfl fo28_2 rfl) ?_
 refine rS (L1 (Value.slice cA l.Clocks.length cC) 0 rfl tk25 rfl rfl) ?_
 refine rS (LN rfl ut25) ?_
 refine rS (CL (within_5 ((l.Clocks.length : Nat) : Int) 1 4) (ha_nil) rfl) ?_
 refine rS (NT rfl) ?_
 refine rS (PK rfl) ?_
 refine rS (MV rfl) ?_
 refine r_bool (t := 17) rfl (fun h17 => ?_) (fun h17 => ?_)
 · replace h17 := XT h17
   refine rS (OX rfl) ?_
   refine rS (OX rfl) ?_
   refine rS (OX rfl) ?_
   refine rS (OX rfl) ?_
   refine rS (OX rfl) ?_
   refine rS (PK rfl) ?_
   refine rS (MV rfl) ?_
   refine rS (OX rfl) ?_
   refine rS (OX rfl) ?_
   refine rS (OX rfl) ?_
   refine rS (OX rfl) ?_
   refine rS (OX rfl) ?_
   refine rS (OX rfl) ?_
   refine rS (OX rfl) ?_
   refine rS (OX rfl) ?_
   refine rS (PK rfl) ?_
   refine rS (MV rfl) ?_
   refine rS (OX rfl) ?_
   refine rS (OX rfl) ?_
   refine rS (OX rfl) ?_
   refine rS (OX rfl) ?_
   refine rS (PK rfl) ?_
   refine rS (MV rfl) ?_
   refine rS (OX rfl) ?_
   refine rS (OX rfl) ?_
   refine rS (OX rfl) ?_
   refine rS (OX rfl) ?_
   refine rS (PK rfl) ?_
   refine RK hK4 ?_
   refine w_if_true rfl ?_
   refine WS fun _ hK6 => ?_
   refine rS (AG rfl) ?_
   refine RK hK6 ?_
   refine w_ret ?_
   refine Q1 hQ rfl rfl rfl ?_
   first | exact congrArg Value.bool (decide_eq_false fun h => by have q := h.head; unfold HeadOk at q; omega).symm | exact congrArg Value.bool (decide_eq_false fun h => h59 (h.clock _ (List.mem_of_getElem? hx))).symm | exact congrArg Value.bool (decide_eq_false fun h => by have q := h.beam _ (List.mem_of_getElem? hy); have q2 := q.2; first | exact h77 q.1 | omega).symm | exact congrArg Value.bool (decide_eq_false fun h => by have q := h.way n (by omega); simp only [Int.toNat_natCast] at h101; omega).symm | exact congrArg Value.bool (decide_eq_true (line_head (by unfold HeadOk; omega) (upto_mem (by omega) hl4_1) (upto_mem (by omega) hl9_1) (fun j hj => hl14_1 j (by omega)))).symm
 replace h17 := XF h17
 refine rS (FA 3 rfl fo28_3 rfl) ?_
 refine rS (L1 (Value.slice bA l.Beams.length bC) 0 rfl tk26 rfl rfl) ?_
 refine rS (LN rfl ut26) ?_
 refine rS (CL (within_5 ((l.Beams.length : Nat) : Int) 1 6) (ha_nil) rfl) ?_
 refine rS (NT rfl) ?_
 refine rS (PK rfl) ?_
 refine rS (MV rfl) ?_
 refine r_bool (t := 24) rfl (fun h24 => ?_) (fun h24 => ?_)
 · replace h24 := XT h24
   refine rS (OX rfl) ?_
   refine rS (OX rfl) ?_
   refine rS (OX rfl) ?_
   refine rS (OX rfl) ?_
   refine rS (OX rfl) ?_
   refine rS (OX rfl) ?_
   refine rS (OX rfl) ?_
   refine rS (OX rfl) ?_
   refine rS (PK rfl) ?_
   refine rS (MV rfl) ?_
   refine rS (OX rfl) ?_
   refine rS (OX rfl) ?_
   refine rS (OX rfl) ?_
   refine rS (OX rfl) ?_
   refine rS (PK rfl) ?_
   refine rS (MV rfl) ?_
   refine rS (OX rfl) ?_
   refine rS (OX rfl) ?_
   refine rS (OX rfl) ?_
   refine rS (OX rfl) ?_
   refine rS (PK rfl) ?_
   refine RK hK4 ?_
   refine w_if_true rfl ?_
   refine WS fun _ hK7 => ?_
   refine rS (AG rfl) ?_
   refine RK hK7 ?_
   refine w_ret ?_
   refine Q1 hQ rfl rfl rfl ?_
   first | exact congrArg Value.bool (decide_eq_false fun h => by have q := h.head; unfold HeadOk at q; omega).symm | exact congrArg Value.bool (decide_eq_false fun h => h59 (h.clock _ (List.mem_of_getElem? hx))).symm | exact congrArg Value.bool (decide_eq_false fun h => by have q := h.beam _ (List.mem_of_getElem? hy); have q2 := q.2; first | exact h77 q.1 | omega).symm | exact congrArg Value.bool (decide_eq_false fun h => by have q := h.way n (by omega); simp only [Int.toNat_natCast] at h101; omega).symm | exact congrArg Value.bool (decide_eq_true (line_head (by unfold HeadOk; omega) (upto_mem (by omega) hl4_1) (upto_mem (by omega) hl9_1) (fun j hj => hl14_1 j (by omega)))).symm
 replace h24 := XF h24
 refine rS (FA 4 rfl fo28_4 rfl) ?_
 refine rS (L1 (Value.int .i64 l.Finish) 0 rfl tk3 rfl rfl) ?_
 refine rS (FA 3 rfl fo28_3 rfl) ?_
 refine rS (L1 (Value.slice bA l.Beams.length bC) 0 rfl tk26 rfl rfl) ?_
 refine rS (LN rfl ut26) ?_
 refine rS (BI rfl (b_sub ⟨by omega, by omega⟩)) ?_
 refine rS (CL (within_5 l.Finish 0 (((l.Beams.length : Nat) : Int) - 1)) (ha_nil) rfl) ?_
 refine rS (NT rfl) ?_
 refine rS (PK rfl) ?_
 refine rS (MV rfl) ?_
 refine r_bool (t := 34) rfl (fun h34 => ?_) (fun h34 => ?_)
 · replace h34 := XT h34
   refine rS (OX rfl) ?_
   refine rS (OX rfl) ?_
   refine rS (OX rfl) ?_
   refine rS (OX rfl) ?_
   refine rS (PK rfl) ?_
   refine rS (MV rfl) ?_
   refine rS (OX rfl) ?_
   refine rS (OX rfl) ?_
   refine rS (OX rfl) ?_
   refine rS (OX rfl) ?_
   refine rS (PK rfl) ?_
   refine RK hK4 ?_
   refine w_if_true rfl ?_
   refine WS fun _ hK8 => ?_
   refine rS (AG rfl) ?_
   refine RK hK8 ?_
   refine w_ret ?_
   refine Q1 hQ rfl rfl rfl ?_
   first | exact congrArg Value.bool (decide_eq_false fun h => by have q := h.head; unfold HeadOk at q; omega).symm | exact congrArg Value.bool (decide_eq_false fun h => h59 (h.clock _ (List.mem_of_getElem? hx))).symm | exact congrArg Value.bool (decide_eq_false fun h => by have q := h.beam _ (List.mem_of_getElem? hy); have q2 := q.2; first | exact h77 q.1 | omega).symm | exact congrArg Value.bool (decide_eq_false fun h => by have q := h.way n (by omega); simp only [Int.toNat_natCast] at h101; omega).symm | exact congrArg Value.bool (decide_eq_true (line_head (by unfold HeadOk; omega) (upto_mem (by omega) hl4_1) (upto_mem (by omega) hl9_1) (fun j hj => hl14_1 j (by omega)))).symm
 replace h34 := XF h34
 refine rS (FA 5 rfl fo28_5 rfl) ?_
 refine rS (L1 (Value.int .i64 l.Fakes) 0 rfl tk3 rfl rfl) ?_
 refine rS (CL (within_5 l.Fakes 0 3) (ha_nil) rfl) ?_
 refine rS (NT rfl) ?_
 refine rS (PK rfl) ?_
 refine rS (MV rfl) ?_
 refine r_bool (t := 40) rfl (fun h40 => ?_) (fun h40 => ?_)
 · replace h40 := XT h40
   refine rS (OX rfl) ?_
   refine rS (OX rfl) ?_
   refine rS (OX rfl) ?_
   refine rS (OX rfl) ?_
   refine rS (PK rfl) ?_
   refine RK hK4 ?_
   refine w_if_true rfl ?_
   refine WS fun _ hK9 => ?_
   refine rS (AG rfl) ?_
   refine RK hK9 ?_
   refine w_ret ?_
   refine Q1 hQ rfl rfl rfl ?_
   first | exact congrArg Value.bool (decide_eq_false fun h => by have q := h.head; unfold HeadOk at q; omega).symm | exact congrArg Value.bool (decide_eq_false fun h => h59 (h.clock _ (List.mem_of_getElem? hx))).symm | exact congrArg Value.bool (decide_eq_false fun h => by have q := h.beam _ (List.mem_of_getElem? hy); have q2 := q.2; first | exact h77 q.1 | omega).symm | exact congrArg Value.bool (decide_eq_false fun h => by have q := h.way n (by omega); simp only [Int.toNat_natCast] at h101; omega).symm | exact congrArg Value.bool (decide_eq_true (line_head (by unfold HeadOk; omega) (upto_mem (by omega) hl4_1) (upto_mem (by omega) hl9_1) (fun j hj => hl14_1 j (by omega)))).symm
 replace h40 := XF h40
 refine rS (FA 6 rfl fo28_6 rfl) ?_
 refine rS (L1 (Value.int .i64 l.Misses) 0 rfl tk3 rfl rfl) ?_
 refine rS (CL (within_5 l.Misses 0 3) (ha_nil) rfl) ?_
 refine rS (NT rfl) ?_
 refine rS (PK rfl) ?_
 refine RK hK4 ?_
 refine w_if rfl (fun h45 => ?_) (fun h45 => ?_)
 · replace h45 := XT h45
   refine WS fun _ hK10 => ?_
   refine rS (AG rfl) ?_
   refine RK hK10 ?_
   refine w_ret ?_
   refine Q1 hQ rfl rfl rfl ?_
   first | exact congrArg Value.bool (decide_eq_false fun h => by have q := h.head; unfold HeadOk at q; omega).symm | exact congrArg Value.bool (decide_eq_false fun h => h59 (h.clock _ (List.mem_of_getElem? hx))).symm | exact congrArg Value.bool (decide_eq_false fun h => by have q := h.beam _ (List.mem_of_getElem? hy); have q2 := q.2; first | exact h77 q.1 | omega).symm | exact congrArg Value.bool (decide_eq_false fun h => by have q := h.way n (by omega); simp only [Int.toNat_natCast] at h101; omega).symm | exact congrArg Value.bool (decide_eq_true (line_head (by unfold HeadOk; omega) (upto_mem (by omega) hl4_1) (upto_mem (by omega) hl9_1) (fun j hj => hl14_1 j (by omega)))).symm
 replace h45 := XF h45
 refine WK hK3 ?_
 refine w_seq fun _ hK11 => ?_
 refine WS fun _ hK12 => ?_
 refine rS (AG rfl) ?_
 refine RK hK12 ?_
 refine w_block ?_
 have hinit : (0 ≤ l.Clocks.length) ∧ (∀ (j : Nat) y, j < 0 → l.Clocks[j]? = some y → ClockOk y) := by exact ⟨Nat.zero_le _, fun j y hj => absurd hj (Nat.not_lt_zero _)⟩
 refine w_loop (ι := { z : Nat // (z ≤ l.Clocks.length) ∧ (∀ (j : Nat) y, j < z → l.Clocks[j]? = some y → ClockOk y) }) (fun z => [(1, (Value.pointer (some ⟨b2, 0, none⟩))), (3, (Value.int .i64 ((z.1 : Nat) : Int)))]) (fun z => [(blk b2 28 (LineV.cells (LineV.mk (TrackV.mk (Slc.mk kA l.Track.length kC)) l.Fast (Slc.mk cA l.Clocks.length cC) (Slc.mk bA l.Beams.length bC) l.Finish l.Fakes l.Misses))), (rd kA l.Track.length 9 (l.Track.map StretchV.cells)).ro, (rd cA l.Clocks.length 2 (List.zipWith ClockM.cells l.Clocks az)).ro, (bun (nest ClockM.rds l.Clocks az)).ro, (rd bA l.Beams.length 4 (l.Beams.map BeamV.cells)).ro]) (fun z => l.Clocks.length - z.1) ⟨0, hinit⟩ (Sub.cons rfl <| Sub.cons rfl <| Sub.nil _) (fun w hs => St.sel [0, 1, 2, 3, 4] rfl rfl hs) ?_
 clear hinit
 rintro ⟨i, ⟨hl4_0, hl4_1⟩⟩ J13 hJ13
 try dsimp only
 refine w_seq fun _ hK14 => ?_
 refine WS fun _ hK15 => ?_
 refine rS (MV rfl) ?_
 refine rS (FA 2 rfl fo28_2 rfl) ?_
 refine rS (L1 (Value.slice cA l.Clocks.length cC) 0 rfl tk25 rfl rfl) ?_
 refine rS (LN rfl ut25) ?_
 refine rS (BI rfl b_lss) ?_
 refine RK hK15 ?_
 refine w_if rfl (fun h50 => ?_) (fun h50 => ?_)
 · replace h50 := DT h50
   refine WK hK14 ?_
   refine w_seq fun _ hK16 => ?_
   refine w_block ?_
   refine WS fun _ hK17 => ?_
   refine rS (FA 2 rfl fo28_2 rfl) ?_
   refine rS (L1 (Value.slice cA l.Clocks.length cC) 0 rfl tk25 rfl rfl) ?_
   refine rS (MV rfl) ?_
   obtain ⟨x, hx⟩ : ∃ y_, l.Clocks[i]? = some y_ := ⟨l.Clocks[i]'(by omega), List.getElem?_eq_getElem _⟩
   obtain ⟨xa, hxa⟩ : ∃ y_, az[i]? = some y_ := ⟨az[i]'(by omega), List.getElem?_eq_getElem _⟩
   have hxm : (List.zipWith ClockM.cells l.Clocks az)[i]? = some (ClockM.cells x xa) := zip_get hx hxa
   refine rS (IA i rfl (has_at 2 rfl) te25 (by decide) (by omega) (by omega)) ?_
   refine rS (LEN i 0 (ClockV.cells (ClockV.mk x.Drift (Slc.mk xa.1 x.Syncs.length xa.2))) rfl tk64 (has_at 2 rfl) hxm rfl (by decide) rfl rfl) ?_
   have hsy := (hin.syn _ _ _ hx hxa).2
   refine rS (CL (rclock_c x xa.1 xa.2 (by first | assumption | omega | (simp; done) | (simp; omega))) (ha_cons (show Has _ (rd xa.1 x.Syncs.length 3 (x.Syncs.map SyncV.cells)).holds from (has_inr 3 rfl (mem_nest hx hxa (by simp [ClockM.rds])))) <| ha_nil) rfl) ?_
   refine rS (NT rfl) ?_
   refine RK hK17 ?_
   refine w_if rfl (fun h59 => ?_) (fun h59 => ?_)
   rotate_left 1
   · replace h59 := XF h59
     refine w_skip ?_
     refine k_block ?_
     refine KK hK16 ?_
     refine w_region ?_
     refine rS (MV rfl) ?_
     refine rS (BI rfl (b_add ⟨by omega, by omega⟩)) ?_
     refine rS (AG rfl) ?_
     refine r_nil ?_
     have hb19 : (Value.int .i64 (((i + 1) : Nat) : Int)) = (Value.int .i64 (((i : Nat) : Int) + 1)) := by exact congrArg (Value.int .i64) (by omega)
     refine k_then (hJ13 ⟨(i + 1), ⟨by omega, upto_succ (P := fun _ y => ClockOk y) hl4_1 hx h59⟩⟩ _ _ _ rfl (by first | omega | (simp; omega)) (Sub.cons rfl <| sub_val rfl hb19 <| Sub.nil _) (fun w hs => St.sel [0, 1, 2, 3, 4] rfl rfl hs))
   replace h59 := XT h59
   refine WS fun _ hK18 => ?_
   refine rS (AG rfl) ?_
   refine RK hK18 ?_
   refine w_ret ?_
   refine Q1 hQ rfl rfl rfl ?_
   first | exact congrArg Value.bool (decide_eq_false fun h => by have q := h.head; unfold HeadOk at q; omega).symm | exact congrArg Value.bool (decide_eq_false fun h => h59 (h.clock _ (List.mem_of_getElem? hx))).symm | exact congrArg Value.bool (decide_eq_false fun h => by have q := h.beam _ (List.mem_of_getElem? hy); have q2 := q.2; first | exact h77 q.1 | omega).symm | exact congrArg Value.bool (decide_eq_false fun h => by have q := h.way n (by omega); simp only [Int.toNat_natCast] at h101; omega).symm | exact congrArg Value.bool (decide_eq_true (line_head (by unfold HeadOk; omega) (upto_mem (by omega) hl4_1) (upto_mem (by omega) hl9_1) (fun j hj => hl14_1 j (by omega)))).symm
 replace h50 := DF h50
 refine w_exit ?_
 refine k_exit_then ?_
 refine k_exit_then ?_
 refine k_exit_same ?_
 refine KK hK11 ?_
 refine w_seq fun _ hK20 => ?_
 refine WS fun _ hK21 => ?_
 refine rS (AG rfl) ?_
 refine RK hK21 ?_
 refine w_block ?_
 have hinit : (0 ≤ l.Beams.length) ∧ (∀ (j : Nat) y, j < 0 → l.Beams[j]? = some y → BeamOk l y) := by exact ⟨Nat.zero_le _, fun j y hj => absurd hj (Nat.not_lt_zero _)⟩
 refine w_loop (ι := { z : Nat // (z ≤ l.Beams.length) ∧ (∀ (j : Nat) y, j < z → l.Beams[j]? = some y → BeamOk l y) }) (fun z => [(1, (Value.pointer (some ⟨b2, 0, none⟩))), (4, (Value.int .i64 ((z.1 : Nat) : Int)))]) (fun z => [(blk b2 28 (LineV.cells (LineV.mk (TrackV.mk (Slc.mk kA l.Track.length kC)) l.Fast (Slc.mk cA l.Clocks.length cC) (Slc.mk bA l.Beams.length bC) l.Finish l.Fakes l.Misses))), (rd kA l.Track.length 9 (l.Track.map StretchV.cells)).ro, (rd cA l.Clocks.length 2 (List.zipWith ClockM.cells l.Clocks az)).ro, (bun (nest ClockM.rds l.Clocks az)).ro, (rd bA l.Beams.length 4 (l.Beams.map BeamV.cells)).ro]) (fun z => l.Beams.length - z.1) ⟨0, hinit⟩ (Sub.cons rfl <| Sub.cons rfl <| Sub.nil _) (fun w hs => St.sel [0, 1, 2, 3, 4] rfl rfl hs) ?_
 clear hinit
 rintro ⟨m, ⟨hl9_0, hl9_1⟩⟩ J22 hJ22
 try dsimp only
 refine w_seq fun _ hK23 => ?_
 refine WS fun _ hK24 => ?_
 refine rS (MV rfl) ?_
 refine rS (FA 3 rfl fo28_3 rfl) ?_
 refine rS (L1 (Value.slice bA l.Beams.length bC) 0 rfl tk26 rfl rfl) ?_
 refine rS (LN rfl ut26) ?_
 refine rS (BI rfl b_lss) ?_
 refine RK hK24 ?_
 refine w_if rfl (fun h64 => ?_) (fun h64 => ?_)
 rotate_left 1
 · replace h64 := DF h64
   refine w_exit ?_
   refine k_exit_then ?_
   refine k_exit_then ?_
   refine k_exit_same ?_
   refine KK hK20 ?_
   refine w_seq fun _ hK30 => ?_
   refine WS fun _ hK31 => ?_
   refine rS (AG rfl) ?_
   refine RK hK31 ?_
   refine w_block ?_
   have hinit : (0 ≤ l.Beams.length) ∧ (∀ j, j < 0 → 1 ≤ wayF l j) := by exact ⟨Nat.zero_le _, fun j hj => absurd hj (Nat.not_lt_zero _)⟩
   refine w_loop (ι := { z : Nat // (z ≤ l.Beams.length) ∧ (∀ j, j < z → 1 ≤ wayF l j) }) (fun z => [(1, (Value.pointer (some ⟨b2, 0, none⟩))), (5, (Value.int .i64 ((z.1 : Nat) : Int)))]) (fun z => [(blk b2 28 (LineV.cells (LineV.mk (TrackV.mk (Slc.mk kA l.Track.length kC)) l.Fast (Slc.mk cA l.Clocks.length cC) (Slc.mk bA l.Beams.length bC) l.Finish l.Fakes l.Misses))), (rd kA l.Track.length 9 (l.Track.map StretchV.cells)).ro, (rd cA l.Clocks.length 2 (List.zipWith ClockM.cells l.Clocks az)).ro, (bun (nest ClockM.rds l.Clocks az)).ro, (rd bA l.Beams.length 4 (l.Beams.map BeamV.cells)).ro]) (fun z => l.Beams.length - z.1) ⟨0, hinit⟩ (Sub.cons rfl <| Sub.cons rfl <| Sub.nil _) (fun w hs => St.sel [0, 1, 2, 3, 4] rfl rfl hs) ?_
   clear hinit
   rintro ⟨n, ⟨hl14_0, hl14_1⟩⟩ J32 hJ32
   try dsimp only
   have hbk := upto_mem (P := BeamOk l) (by omega) hl9_1
   refine w_seq fun _ hK33 => ?_
   refine WS fun _ hK34 => ?_
   refine rS (MV rfl) ?_
   refine rS (FA 3 rfl fo28_3 rfl) ?_
   refine rS (L1 (Value.slice bA l.Beams.length bC) 0 rfl tk26 rfl rfl) ?_
   refine rS (LN rfl ut26) ?_
   refine rS (BI rfl b_lss) ?_
   refine RK hK34 ?_
   refine w_if rfl (fun h95 => ?_) (fun h95 => ?_)
   rotate_left 1
   · replace h95 := DF h95
     refine w_exit ?_
     refine k_exit_then ?_
     refine k_exit_then ?_
     refine k_exit_same ?_
     refine KK hK30 ?_
     refine WS fun _ hK39 => ?_
     refine rS (AG rfl) ?_
     refine RK hK39 ?_
     refine w_ret ?_
     refine Q1 hQ rfl rfl rfl ?_
     first | exact congrArg Value.bool (decide_eq_false fun h => by have q := h.head; unfold HeadOk at q; omega).symm | exact congrArg Value.bool (decide_eq_false fun h => h59 (h.clock _ (List.mem_of_getElem? hx))).symm | exact congrArg Value.bool (decide_eq_false fun h => by have q := h.beam _ (List.mem_of_getElem? hy); have q2 := q.2; first | exact h77 q.1 | omega).symm | exact congrArg Value.bool (decide_eq_false fun h => by have q := h.way n (by omega); simp only [Int.toNat_natCast] at h101; omega).symm | exact congrArg Value.bool (decide_eq_true (line_head (by unfold HeadOk; omega) (upto_mem (by omega) hl4_1) (upto_mem (by omega) hl9_1) (fun j hj => hl14_1 j (by omega)))).symm
   replace h95 := DT h95
   refine WK hK33 ?_
   refine w_seq fun _ hK35 => ?_
   refine w_block ?_
   refine WS fun _ hK36 => ?_
   refine rS (LW 0 rfl tk28 rfl rfl) ?_
   refine rS (MV rfl) ?_
   refine rS (CL (rway_c l kA kC az cA cC bA bC ((n : Nat) : Int) hin htr (by first | assumption | omega | (simp; done) | (simp; omega)) (by first | assumption | omega | (simp; done) | (simp; omega))) (ha_at 1 rfl rfl <| ha_at 2 rfl rfl <| ha_at 3 rfl rfl <| ha_at 4 rfl rfl <| ha_nil) rfl) ?_
   refine rS (BI rfl b_lss) ?_
   refine RK hK36 ?_
   refine w_if rfl (fun h101 => ?_) (fun h101 => ?_)
   rotate_left 1
   · replace h101 := DF h101
     refine w_skip ?_
     refine k_block ?_
     refine KK hK35 ?_
     refine w_region ?_
     refine rS (MV rfl) ?_
     refine rS (BI rfl (b_add ⟨by omega, by omega⟩)) ?_
     refine rS (AG rfl) ?_
     refine r_nil ?_
     have hb38 : (Value.int .i64 (((n + 1) : Nat) : Int)) = (Value.int .i64 (((n : Nat) : Int) + 1)) := by exact congrArg (Value.int .i64) (by omega)
     refine k_then (hJ32 ⟨(n + 1), ⟨by omega, fun j hj => by rcases Nat.lt_or_ge j n with q | q; exact hl14_1 j q; (obtain rfl : j = n := by omega); simp only [Int.toNat_natCast] at h101; omega⟩⟩ _ _ _ rfl (by first | omega | (simp; omega)) (Sub.cons rfl <| sub_val rfl hb38 <| Sub.nil _) (fun w hs => St.sel [0, 1, 2, 3, 4] rfl rfl hs))
   replace h101 := DT h101
   refine WS fun _ hK37 => ?_
   refine rS (AG rfl) ?_
   refine RK hK37 ?_
   refine w_ret ?_
   refine Q1 hQ rfl rfl rfl ?_
   first | exact congrArg Value.bool (decide_eq_false fun h => by have q := h.head; unfold HeadOk at q; omega).symm | exact congrArg Value.bool (decide_eq_false fun h => h59 (h.clock _ (List.mem_of_getElem? hx))).symm | exact congrArg Value.bool (decide_eq_false fun h => by have q := h.beam _ (List.mem_of_getElem? hy); have q2 := q.2; first | exact h77 q.1 | omega).symm | exact congrArg Value.bool (decide_eq_false fun h => by have q := h.way n (by omega); simp only [Int.toNat_natCast] at h101; omega).symm | exact congrArg Value.bool (decide_eq_true (line_head (by unfold HeadOk; omega) (upto_mem (by omega) hl4_1) (upto_mem (by omega) hl9_1) (fun j hj => hl14_1 j (by omega)))).symm
 replace h64 := DT h64
 refine WK hK23 ?_
 refine w_seq fun _ hK25 => ?_
 refine w_block ?_
 refine w_seq fun _ hK26 => ?_
 refine w_draw mixed 24 (by kernel_rfl) ?_
 refine dS (FA 0 rfl fo28_0 rfl) ?_
 refine dS (LP (TrackV.cells (TrackV.mk (Slc.mk kA l.Track.length kC))) 0 rfl tk24 rfl rfl rfl) ?_
 refine dS (FA 3 rfl fo28_3 rfl) ?_
 refine dS (L1 (Value.slice bA l.Beams.length bC) 0 rfl tk26 rfl rfl) ?_
 refine dS (MV rfl) ?_
 obtain ⟨y, hy⟩ : ∃ y_, l.Beams[m]? = some y_ := ⟨l.Beams[m]'(by omega), List.getElem?_eq_getElem _⟩
 have hym : (l.Beams.map BeamV.cells)[m]? = some (BeamV.cells y) := by rw [List.getElem?_map, hy]; rfl
 refine dS (IA m rfl (has_at 4 rfl) te26 (by decide) (by omega) (by omega)) ?_
 refine dS (FAR (m * 4) rfl (has_at 4 rfl) (Nat.mul_pos (by omega) (by decide)) fo55_0 rfl) ?_
 refine dS (LEN m 0 (SpotV.cells y.Spot) rfl tk53 (has_at 4 rfl) hym rfl (by decide) rfl rfl) ?_
 refine dS (CL (rspot_c l.Track kA kC y.Spot (by first | assumption | omega | (simp; done) | (simp; omega)) (by first | assumption | omega | (simp; done) | (simp; omega))) (ha_at 1 rfl rfl <| ha_nil) rfl) ?_
 refine dS (NT rfl) ?_
 refine dS (MV rfl) ?_
 refine d_bool (t := 77) rfl (fun h77 => ?_) (fun h77 => ?_)
 · replace h77 := XT h77
   refine dS (OX rfl) ?_
   refine dS (OX rfl) ?_
   refine dS (OX rfl) ?_
   refine dS (OX rfl) ?_
   refine dS (OX rfl) ?_
   refine dS (OX rfl) ?_
   refine dS (OX rfl) ?_
   refine dS (OX rfl) ?_
   refine dS (OX rfl) ?_
   refine dS (OX rfl) ?_
   refine dS (OX rfl) ?_
   refine dS (OX rfl) ?_
   refine dS (PK rfl) ?_
   refine d_end ?_
   refine RK hK26 ?_
   refine w_if_true rfl ?_
   refine WS fun _ hK27 => ?_
   refine rS (AG rfl) ?_
   refine RK hK27 ?_
   refine w_ret ?_
   refine Q1 hQ rfl rfl rfl ?_
   first | exact congrArg Value.bool (decide_eq_false fun h => by have q := h.head; unfold HeadOk at q; omega).symm | exact congrArg Value.bool (decide_eq_false fun h => h59 (h.clock _ (List.mem_of_getElem? hx))).symm | exact congrArg Value.bool (decide_eq_false fun h => by have q := h.beam _ (List.mem_of_getElem? hy); have q2 := q.2; first | exact h77 q.1 | omega).symm | exact congrArg Value.bool (decide_eq_false fun h => by have q := h.way n (by omega); simp only [Int.toNat_natCast] at h101; omega).symm | exact congrArg Value.bool (decide_eq_true (line_head (by unfold HeadOk; omega) (upto_mem (by omega) hl4_1) (upto_mem (by omega) hl9_1) (fun j hj => hl14_1 j (by omega)))).symm
 replace h77 := XF h77
 refine dS (FA 3 rfl fo28_3 rfl) ?_
 refine dS (L1 (Value.slice bA l.Beams.length bC) 0 rfl tk26 rfl rfl) ?_
 refine dS (MV rfl) ?_
 refine dS (IA m rfl (has_at 4 rfl) te26 (by decide) (by omega) (by omega)) ?_
 refine dS (FAR ((m * 4) + 3) rfl (has_at 4 rfl) (Nat.mul_pos (by omega) (by decide)) fo55_1 rfl) ?_
 refine dS (LE1 m 3 (Value.int .i64 y.Clock) rfl tk3 (has_at 4 rfl) hym rfl (by decide) rfl) ?_
 refine dS (FA 2 rfl fo28_2 rfl) ?_
 refine dS (L1 (Value.slice cA l.Clocks.length cC) 0 rfl tk25 rfl rfl) ?_
 refine dS (LN rfl ut25) ?_
 refine dS (BI rfl (b_sub ⟨by omega, by omega⟩)) ?_
 refine dS (CL (within_5 y.Clock 0 (((l.Clocks.length : Nat) : Int) - 1)) (ha_nil) rfl) ?_
 refine dS (NT rfl) ?_
 refine dS (PK rfl) ?_
 refine d_end ?_
 refine RK hK26 ?_
 refine w_if rfl (fun h90 => ?_) (fun h90 => ?_)
 rotate_left 1
 · replace h90 := XF h90
   refine w_skip ?_
   refine k_block ?_
   refine KK hK25 ?_
   refine w_region ?_
   refine rS (MV rfl) ?_
   refine rS (BI rfl (b_add ⟨by omega, by omega⟩)) ?_
   refine rS (AG rfl) ?_
   refine r_nil ?_
   have hb29 : (Value.int .i64 (((m + 1) : Nat) : Int)) = (Value.int .i64 (((m : Nat) : Int) + 1)) := by exact congrArg (Value.int .i64) (by omega)
   refine k_then (hJ22 ⟨(m + 1), ⟨by omega, upto_succ (P := fun _ y => BeamOk l y) hl9_1 hy ⟨h77, by omega, by omega⟩⟩⟩ _ _ _ rfl (by first | omega | (simp; omega)) (Sub.cons rfl <| sub_val rfl hb29 <| Sub.nil _) (fun w hs => St.sel [0, 1, 2, 3, 4] rfl rfl hs))
 replace h90 := XT h90
 refine WS fun _ hK28 => ?_
 refine rS (AG rfl) ?_
 refine RK hK28 ?_
 refine w_ret ?_
 refine Q1 hQ rfl rfl rfl ?_
 first | exact congrArg Value.bool (decide_eq_false fun h => by have q := h.head; unfold HeadOk at q; omega).symm | exact congrArg Value.bool (decide_eq_false fun h => h59 (h.clock _ (List.mem_of_getElem? hx))).symm | exact congrArg Value.bool (decide_eq_false fun h => by have q := h.beam _ (List.mem_of_getElem? hy); have q2 := q.2; first | exact h77 q.1 | omega).symm | exact congrArg Value.bool (decide_eq_false fun h => by have q := h.way n (by omega); simp only [Int.toNat_natCast] at h101; omega).symm | exact congrArg Value.bool (decide_eq_true (line_head (by unfold HeadOk; omega) (upto_mem (by omega) hl4_1) (upto_mem (by omega) hl9_1) (fun j hj => hl14_1 j (by omega)))).symm
end
section
open Go.RowKit
set_option linter.unusedVariables false
set_option maxRecDepth 100000 in
set_option maxHeartbeats 400000 in
theorem rcheck_c (l : LineM) (kA : Option Addr) (kC : Nat) (az : List RA) (cA : Option Addr) (cC : Nat) (bA : Option Addr) (bC : Nat) (hin : LineIn l az) :
    FnV Try.prog 20 [(Value.agg (LineV.cells (LineV.mk (TrackV.mk (Slc.mk kA l.Track.length kC)) l.Fast (Slc.mk cA l.Clocks.length cC) (Slc.mk bA l.Beams.length bC) l.Finish l.Fakes l.Misses)).toArray)] [(rd kA l.Track.length 9 (l.Track.map StretchV.cells)), (rd cA l.Clocks.length 2 (List.zipWith ClockM.cells l.Clocks az)), (bun (nest ClockM.rds l.Clocks az)), (rd bA l.Beams.length 4 (l.Beams.map BeamV.cells))] (Value.int .i64 (lineE l)) := by
 have htk := hin.trk
 have hck := hin.cks
 have has := hin.as_
 have hbm := hin.bms
 refine fnV_of go20 Try.func20 rfl rfl fun w0 Q hQ hN => ?_
 try dsimp only
 refine WS fun _ hK1 => ?_
 refine BXA rfl fun b2 => ?_
 refine rS (AG rfl) ?_
 refine RK hK1 ?_
 refine w_seq fun _ hK3 => ?_
 refine WS fun _ hK4 => ?_
 refine rS (FA 0 rfl fo28_0 rfl) ?_
 refine rS (LP (TrackV.cells (TrackV.mk (Slc.mk kA l.Track.length kC))) 0 rfl tk24 rfl rfl rfl) ?_
 refine rS (CL (track_c l.Track kA kC (by first | assumption | omega | (simp; done) | (simp; omega))) (ha_at 1 rfl rfl <| ha_nil) rfl) ?_
 refine rS (NT rfl) ?_
 refine RK hK4 ?_
 refine w_if rfl (fun h6 => ?_) (fun h6 => ?_)
 · rw [Bool.not_eq_true'] at h6
   refine WS fun _ hK5 => ?_
   refine rS (AG rfl) ?_
   refine RK hK5 ?_
   refine w_ret ?_
   refine Q1 hQ rfl rfl rfl ?_
   first | exact congrArg (Value.int .i64) (lineE_bad (by simpa using h6)).symm | exact congrArg (Value.int .i64) (lineE_no h6 h9).symm | exact congrArg (Value.int .i64) (lineE_ok h6 h9).symm
 rw [Bool.not_eq_false'] at h6
 refine WK hK3 ?_
 refine w_seq fun _ hK6 => ?_
 refine WS fun _ hK7 => ?_
 refine rS (LW 0 rfl tk28 rfl rfl) ?_
 refine rS (CL (rline_c l kA kC az cA cC bA bC hin (by first | assumption | omega | (simp; done) | (simp; omega))) (ha_at 1 rfl rfl <| ha_at 2 rfl rfl <| ha_at 3 rfl rfl <| ha_at 4 rfl rfl <| ha_nil) rfl) ?_
 refine rS (NT rfl) ?_
 refine RK hK7 ?_
 refine w_if rfl (fun h9 => ?_) (fun h9 => ?_)
 · replace h9 := XT h9
   refine WS fun _ hK8 => ?_
   refine rS (AG rfl) ?_
   refine RK hK8 ?_
   refine w_ret ?_
   refine Q1 hQ rfl rfl rfl ?_
   first | exact congrArg (Value.int .i64) (lineE_bad (by simpa using h6)).symm | exact congrArg (Value.int .i64) (lineE_no h6 h9).symm | exact congrArg (Value.int .i64) (lineE_ok h6 h9).symm
 replace h9 := XF h9
 refine WK hK6 ?_
 refine WS fun _ hK9 => ?_
 refine rS (AG rfl) ?_
 refine RK hK9 ?_
 refine w_ret ?_
 refine Q1 hQ rfl rfl rfl ?_
 first | exact congrArg (Value.int .i64) (lineE_bad (by simpa using h6)).symm | exact congrArg (Value.int .i64) (lineE_no h6 h9).symm | exact congrArg (Value.int .i64) (lineE_ok h6 h9).symm
end
section
open Go.RowKit
set_option linter.unusedVariables false
set_option maxRecDepth 100000 in
set_option maxHeartbeats 400000 in
theorem ready_c (l : LineM) (kA : Option Addr) (kC : Nat) (az : List RA) (cA : Option Addr) (cC : Nat) (bA : Option Addr) (bC : Nat) (hraw : LineRaw l az) :
    FnV Try.prog 23 [(Value.agg (LineV.cells (LineV.mk (TrackV.mk (Slc.mk kA l.Track.length kC)) l.Fast (Slc.mk cA l.Clocks.length cC) (Slc.mk bA l.Beams.length bC) l.Finish l.Fakes l.Misses)).toArray)] [(rd kA l.Track.length 9 (l.Track.map StretchV.cells)), (rd cA l.Clocks.length 2 (List.zipWith ClockM.cells l.Clocks az)), (bun (nest ClockM.rds l.Clocks az)), (rd bA l.Beams.length 4 (l.Beams.map BeamV.cells))] (Value.bool (decide (ReadyL l))) := by
 refine fnV_of go23 Try.func23 rfl rfl fun w0 Q hQ hN => ?_
 try dsimp only
 refine WS fun _ hK1 => ?_
 refine BXA rfl fun b2 => ?_
 refine rS (AG rfl) ?_
 refine RK hK1 ?_
 refine WS fun _ hK3 => ?_
 refine rS (LW 0 rfl tk28 rfl rfl) ?_
 refine rS (CL (lgreat_c l kA kC az cA cC bA bC hraw) (ha_at 1 rfl rfl <| ha_at 2 rfl rfl <| ha_at 3 rfl rfl <| ha_at 4 rfl rfl <| ha_nil) rfl) ?_
 refine rS (NT rfl) ?_
 refine rS (MV rfl) ?_
 refine r_bool (t := 6) rfl (fun h6 => ?_) (fun h6 => ?_)
 rotate_left 1
 · replace h6 := XF h6
   refine rS (OX rfl) ?_
   refine rS (OX rfl) ?_
   refine rS (OX rfl) ?_
   refine rS (PK rfl) ?_
   refine rS (AG rfl) ?_
   refine RK hK3 ?_
   refine w_ret ?_
   refine Q1 hQ rfl rfl rfl ?_
   first | exact congrArg Value.bool (decide_eq_false fun q => q.1 h6).symm | exact congrArg Value.bool (decide_eq_decide.2 ⟨fun q => ⟨h6, q⟩, fun q => q.2⟩)
 replace h6 := XT h6
 refine rS (LW 0 rfl tk28 rfl rfl) ?_
 have hin := hraw.small h6
 refine rS (CL (rcheck_c l kA kC az cA cC bA bC (by first | assumption | omega | (simp; done) | (simp; omega))) (ha_at 1 rfl rfl <| ha_at 2 rfl rfl <| ha_at 3 rfl rfl <| ha_at 4 rfl rfl <| ha_nil) rfl) ?_
 refine rS (BI rfl b_eql) ?_
 refine rS (PK rfl) ?_
 refine rS (AG rfl) ?_
 refine RK hK3 ?_
 refine w_ret ?_
 refine Q1 hQ rfl rfl rfl ?_
 first | exact congrArg Value.bool (decide_eq_false fun q => q.1 h6).symm | exact congrArg Value.bool (decide_eq_decide.2 ⟨fun q => ⟨h6, q⟩, fun q => q.2⟩)
set_option maxRecDepth 100000 in
set_option maxHeartbeats 400000 in
theorem rride_c (l : LineM) (kA : Option Addr) (kC : Nat) (az : List RA) (cA : Option Addr) (cC : Nat) (bA : Option Addr) (bC : Nat) (r : RideM) (sgA : Option Addr) (sgC : Nat) (hin : LineIn l az) (hsl : r.Signals.length ≤ 1000000) :
    FnV Try.prog 60 [(Value.agg (LineV.cells (LineV.mk (TrackV.mk (Slc.mk kA l.Track.length kC)) l.Fast (Slc.mk cA l.Clocks.length cC) (Slc.mk bA l.Beams.length bC) l.Finish l.Fakes l.Misses)).toArray), (Value.agg (RideV.cells (RideV.mk r.Start r.Now (Slc.mk sgA r.Signals.length sgC))).toArray)] [(rd kA l.Track.length 9 (l.Track.map StretchV.cells)), (rd cA l.Clocks.length 2 (List.zipWith ClockM.cells l.Clocks az)), (bun (nest ClockM.rds l.Clocks az)), (rd bA l.Beams.length 4 (l.Beams.map BeamV.cells)), (rd sgA r.Signals.length 2 (r.Signals.map SignalV.cells))] (Value.bool (decide (RideOk l r))) := by
 have htk := hin.trk
 have hck := hin.cks
 have has := hin.as_
 have hbm := hin.bms
 refine fnV_of go60 Try.func60 rfl rfl fun w0 Q hQ hN => ?_
 try dsimp only
 refine WS fun _ hK1 => ?_
 refine BXA rfl fun b2 => ?_
 refine BXA rfl fun b3 => ?_
 refine rS (AG rfl) ?_
 refine RK hK1 ?_
 refine w_seq fun _ hK4 => ?_
 refine WS fun _ hK5 => ?_
 refine rS (FA 0 rfl fo69_0 rfl) ?_
 refine rS (L1 (Value.int .i64 r.Start) 0 rfl tk3 rfl rfl) ?_
 refine rS (CL (within_5 r.Start 0 86400000) (ha_nil) rfl) ?_
 refine rS (NT rfl) ?_
 refine rS (MV rfl) ?_
 refine r_bool (t := 11) rfl (fun h11 => ?_) (fun h11 => ?_)
 · replace h11 := XT h11
   refine rS (OX rfl) ?_
   refine rS (OX rfl) ?_
   refine rS (OX rfl) ?_
   refine rS (OX rfl) ?_
   refine rS (OX rfl) ?_
   refine rS (OX rfl) ?_
   refine rS (PK rfl) ?_
   refine rS (MV rfl) ?_
   refine rS (OX rfl) ?_
   refine rS (OX rfl) ?_
   refine rS (OX rfl) ?_
   refine rS (OX rfl) ?_
   refine rS (PK rfl) ?_
   refine RK hK5 ?_
   refine w_if_true rfl ?_
   refine WS fun _ hK6 => ?_
   refine rS (AG rfl) ?_
   refine RK hK6 ?_
   refine w_ret ?_
   refine Q1 hQ rfl rfl rfl ?_
   first | exact congrArg Value.bool (decide_eq_false fun q => by have q1 := q.time; have q2 := q.len; omega).symm | exact congrArg Value.bool (decide_eq_true (ride_all (by omega) (by omega) hl4_1 (by omega))).symm | exact congrArg Value.bool (decide_eq_false fun q => by have q1 := q.sig i x hx; unfold SigOk SigIn at q1; first | omega | (rw [prevS_pos (by omega) hy] at q1; omega)).symm
 replace h11 := XF h11
 refine rS (FA 1 rfl fo69_1 rfl) ?_
 refine rS (L1 (Value.int .i64 r.Now) 0 rfl tk3 rfl rfl) ?_
 refine rS (FA 0 rfl fo69_0 rfl) ?_
 refine rS (L1 (Value.int .i64 r.Start) 0 rfl tk3 rfl rfl) ?_
 refine rS (CL (within_5 r.Now r.Start 86400000) (ha_nil) rfl) ?_
 refine rS (NT rfl) ?_
 refine rS (PK rfl) ?_
 refine rS (MV rfl) ?_
 refine r_bool (t := 19) rfl (fun h19 => ?_) (fun h19 => ?_)
 · replace h19 := XT h19
   refine rS (OX rfl) ?_
   refine rS (OX rfl) ?_
   refine rS (OX rfl) ?_
   refine rS (OX rfl) ?_
   refine rS (PK rfl) ?_
   refine RK hK5 ?_
   refine w_if_true rfl ?_
   refine WS fun _ hK7 => ?_
   refine rS (AG rfl) ?_
   refine RK hK7 ?_
   refine w_ret ?_
   refine Q1 hQ rfl rfl rfl ?_
   first | exact congrArg Value.bool (decide_eq_false fun q => by have q1 := q.time; have q2 := q.len; omega).symm | exact congrArg Value.bool (decide_eq_true (ride_all (by omega) (by omega) hl4_1 (by omega))).symm | exact congrArg Value.bool (decide_eq_false fun q => by have q1 := q.sig i x hx; unfold SigOk SigIn at q1; first | omega | (rw [prevS_pos (by omega) hy] at q1; omega)).symm
 replace h19 := XF h19
 refine rS (FA 2 rfl fo69_2 rfl) ?_
 refine rS (L1 (Value.slice sgA r.Signals.length sgC) 0 rfl tk67 rfl rfl) ?_
 refine rS (LN rfl ut67) ?_
 refine rS (BI rfl b_gtr) ?_
 refine rS (PK rfl) ?_
 refine RK hK5 ?_
 refine w_if rfl (fun h24 => ?_) (fun h24 => ?_)
 · replace h24 := DT h24
   refine WS fun _ hK8 => ?_
   refine rS (AG rfl) ?_
   refine RK hK8 ?_
   refine w_ret ?_
   refine Q1 hQ rfl rfl rfl ?_
   first | exact congrArg Value.bool (decide_eq_false fun q => by have q1 := q.time; have q2 := q.len; omega).symm | exact congrArg Value.bool (decide_eq_true (ride_all (by omega) (by omega) hl4_1 (by omega))).symm | exact congrArg Value.bool (decide_eq_false fun q => by have q1 := q.sig i x hx; unfold SigOk SigIn at q1; first | omega | (rw [prevS_pos (by omega) hy] at q1; omega)).symm
 replace h24 := DF h24
 refine WK hK4 ?_
 refine w_seq fun _ hK9 => ?_
 refine WS fun _ hK10 => ?_
 refine rS (AG rfl) ?_
 refine RK hK10 ?_
 refine w_block ?_
 have hinit : (0 ≤ r.Signals.length) ∧ (SigsTo l r.Signals 0) := by exact ⟨Nat.zero_le _, sigs_zero⟩
 refine w_loop (ι := { z : Nat // (z ≤ r.Signals.length) ∧ (SigsTo l r.Signals z) }) (fun z => [(2, (Value.pointer (some ⟨b2, 0, none⟩))), (3, (Value.pointer (some ⟨b3, 0, none⟩))), (5, (Value.int .i64 ((z.1 : Nat) : Int)))]) (fun z => [(blk b3 69 (RideV.cells (RideV.mk r.Start r.Now (Slc.mk sgA r.Signals.length sgC)))), (blk b2 28 (LineV.cells (LineV.mk (TrackV.mk (Slc.mk kA l.Track.length kC)) l.Fast (Slc.mk cA l.Clocks.length cC) (Slc.mk bA l.Beams.length bC) l.Finish l.Fakes l.Misses))), (rd kA l.Track.length 9 (l.Track.map StretchV.cells)).ro, (rd cA l.Clocks.length 2 (List.zipWith ClockM.cells l.Clocks az)).ro, (bun (nest ClockM.rds l.Clocks az)).ro, (rd bA l.Beams.length 4 (l.Beams.map BeamV.cells)).ro, (rd sgA r.Signals.length 2 (r.Signals.map SignalV.cells)).ro]) (fun z => r.Signals.length - z.1) ⟨0, hinit⟩ (Sub.cons rfl <| Sub.cons rfl <| Sub.cons rfl <| Sub.nil _) (fun w hs => St.sel [0, 1, 2, 3, 4, 5, 6] rfl rfl hs) ?_
 clear hinit
 rintro ⟨i, ⟨hl4_0, hl4_1⟩⟩ J11 hJ11
 try dsimp only
 refine w_seq fun _ hK12 => ?_
 refine WS fun _ hK13 => ?_
 refine rS (MV rfl) ?_
 refine rS (FA 2 rfl fo69_2 rfl) ?_
 refine rS (L1 (Value.slice sgA r.Signals.length sgC) 0 rfl tk67 rfl rfl) ?_
 refine rS (LN rfl ut67) ?_
 refine rS (BI rfl b_lss) ?_
 refine RK hK13 ?_
 refine w_if rfl (fun h14 => ?_) (fun h14 => ?_)
 rotate_left 1
 · replace h14 := DF h14
   refine w_exit ?_
   refine k_exit_then ?_
   refine k_exit_then ?_
   refine k_exit_same ?_
   refine KK hK9 ?_
   refine WS fun _ hK28 => ?_
   refine rS (AG rfl) ?_
   refine RK hK28 ?_
   refine w_ret ?_
   refine Q1 hQ rfl rfl rfl ?_
   first | exact congrArg Value.bool (decide_eq_false fun q => by have q1 := q.time; have q2 := q.len; omega).symm | exact congrArg Value.bool (decide_eq_true (ride_all (by omega) (by omega) hl4_1 (by omega))).symm | exact congrArg Value.bool (decide_eq_false fun q => by have q1 := q.sig i x hx; unfold SigOk SigIn at q1; first | omega | (rw [prevS_pos (by omega) hy] at q1; omega)).symm
 replace h14 := DT h14
 refine WK hK12 ?_
 refine w_seq fun _ hK15 => ?_
 refine w_block ?_
 refine WS fun _ hK16 => ?_
 refine rS (FA 2 rfl fo69_2 rfl) ?_
 refine rS (L1 (Value.slice sgA r.Signals.length sgC) 0 rfl tk67 rfl rfl) ?_
 refine rS (MV rfl) ?_
 obtain ⟨x, hx⟩ : ∃ y_, r.Signals[i]? = some y_ := ⟨r.Signals[i]'(by omega), List.getElem?_eq_getElem _⟩
 have hxm : (r.Signals.map SignalV.cells)[i]? = some (SignalV.cells x) := by rw [List.getElem?_map, hx]; rfl
 refine rS (IA i rfl (has_at 6 rfl) te67 (by decide) (by omega) (by omega)) ?_
 refine rS (LEN i 0 (SignalV.cells x) rfl tk30 (has_at 6 rfl) hxm rfl (by decide) rfl rfl) ?_
 refine AL rfl tz30 fun b17 => ?_
 refine SW0 rfl ts30 rfl ?_
 refine RK hK16 ?_
 refine w_seq fun _ hK18 => ?_
 refine WS fun _ hK19 => ?_
 refine rS (FA 0 rfl fo30_0 rfl) ?_
 refine rS (L1 (Value.int .i64 x.Beam) 0 rfl tk3 rfl rfl) ?_
 refine rS (FA 3 rfl fo28_3 rfl) ?_
 refine rS (L1 (Value.slice bA l.Beams.length bC) 2 rfl tk26 rfl rfl) ?_
 refine rS (LN rfl ut26) ?_
 refine rS (BI rfl (b_sub ⟨by omega, by omega⟩)) ?_
 refine rS (CL (within_5 x.Beam 0 (((l.Beams.length : Nat) : Int) - 1)) (ha_nil) rfl) ?_
 refine rS (NT rfl) ?_
 refine rS (MV rfl) ?_
 refine r_bool (t := 45) rfl (fun h45 => ?_) (fun h45 => ?_)
 · replace h45 := XT h45
   refine rS (OX rfl) ?_
   refine rS (OX rfl) ?_
   refine rS (OX rfl) ?_
   refine rS (OX rfl) ?_
   refine rS (PK rfl) ?_
   refine RK hK19 ?_
   refine w_if_true rfl ?_
   refine WS fun _ hK20 => ?_
   refine rS (AG rfl) ?_
   refine RK hK20 ?_
   refine w_ret ?_
   refine Q1 hQ rfl rfl rfl ?_
   first | exact congrArg Value.bool (decide_eq_false fun q => by have q1 := q.time; have q2 := q.len; omega).symm | exact congrArg Value.bool (decide_eq_true (ride_all (by omega) (by omega) hl4_1 (by omega))).symm | exact congrArg Value.bool (decide_eq_false fun q => by have q1 := q.sig i x hx; unfold SigOk SigIn at q1; first | omega | (rw [prevS_pos (by omega) hy] at q1; omega)).symm
 replace h45 := XF h45
 refine rS (FA 1 rfl fo30_1 rfl) ?_
 refine rS (L1 (Value.int .i64 x.Read) 0 rfl tk3 rfl rfl) ?_
 refine rS (CL (within_5 x.Read 0 86400000) (ha_nil) rfl) ?_
 refine rS (NT rfl) ?_
 refine rS (PK rfl) ?_
 refine RK hK19 ?_
 refine w_if rfl (fun h50 => ?_) (fun h50 => ?_)
 · replace h50 := XT h50
   refine WS fun _ hK21 => ?_
   refine rS (AG rfl) ?_
   refine RK hK21 ?_
   refine w_ret ?_
   refine Q1 hQ rfl rfl rfl ?_
   first | exact congrArg Value.bool (decide_eq_false fun q => by have q1 := q.time; have q2 := q.len; omega).symm | exact congrArg Value.bool (decide_eq_true (ride_all (by omega) (by omega) hl4_1 (by omega))).symm | exact congrArg Value.bool (decide_eq_false fun q => by have q1 := q.sig i x hx; unfold SigOk SigIn at q1; first | omega | (rw [prevS_pos (by omega) hy] at q1; omega)).symm
 replace h50 := XF h50
 refine WK hK18 ?_
 refine w_seq fun _ hK22 => ?_
 refine w_draw mixed 38 (by kernel_rfl) ?_
 refine dS (MV rfl) ?_
 refine dS (BI rfl b_gtr) ?_
 refine dS (MV rfl) ?_
 refine d_bool (t := 53) rfl (fun h53 => ?_) (fun h53 => ?_)
 rotate_left 1
 · replace h53 := DF h53
   refine dS (OX rfl) ?_
   refine dS (OX rfl) ?_
   refine dS (OX rfl) ?_
   refine dS (OX rfl) ?_
   refine dS (OX rfl) ?_
   refine dS (OX rfl) ?_
   refine dS (OX rfl) ?_
   refine dS (OX rfl) ?_
   refine dS (OX rfl) ?_
   refine dS (OX rfl) ?_
   refine dS (OX rfl) ?_
   refine dS (OX rfl) ?_
   refine dS (OX rfl) ?_
   refine dS (OX rfl) ?_
   refine dS (OX rfl) ?_
   refine dS (OX rfl) ?_
   refine dS (OX rfl) ?_
   refine dS (OX rfl) ?_
   refine dS (OX rfl) ?_
   refine dS (OX rfl) ?_
   refine dS (OX rfl) ?_
   refine dS (OX rfl) ?_
   refine dS (OX rfl) ?_
   refine dS (OX rfl) ?_
   refine dS (OX rfl) ?_
   refine dS (OX rfl) ?_
   refine dS (OX rfl) ?_
   refine dS (OX rfl) ?_
   refine dS (OX rfl) ?_
   refine dS (OX rfl) ?_
   refine dS (OX rfl) ?_
   refine dS (OX rfl) ?_
   refine dS (OX rfl) ?_
   refine dS (OX rfl) ?_
   refine dS (PK rfl) ?_
   refine d_end ?_
   refine RK hK22 ?_
   refine w_if_false rfl ?_
   refine w_skip ?_
   refine k_block ?_
   refine KK hK15 ?_
   refine w_region ?_
   refine rS (MV rfl) ?_
   refine rS (BI rfl (b_add ⟨by omega, by omega⟩)) ?_
   refine rS (AG rfl) ?_
   refine r_nil ?_
   have hb27 : (Value.int .i64 (((i + 1) : Nat) : Int)) = (Value.int .i64 (((i : Nat) : Int) + 1)) := by exact congrArg (Value.int .i64) (by omega)
   refine k_then (hJ11 ⟨(i + 1), ⟨by omega, sigs_succ hl4_1 hx (by unfold SigOk SigIn; first | (rw [prevS_at0 (by omega)]; simp only; omega) | (rw [prevS_pos (by omega) hy]; omega))⟩⟩ _ _ _ rfl (by first | omega | (simp; omega)) (Sub.cons rfl <| Sub.cons rfl <| sub_val rfl hb27 <| Sub.nil _) (fun w hs => St.sel [1, 2, 3, 4, 5, 6, 7] rfl rfl hs))
 replace h53 := DT h53
 refine dS (FA 0 rfl fo30_0 rfl) ?_
 refine dS (L1 (Value.int .i64 x.Beam) 0 rfl tk3 rfl rfl) ?_
 refine dS (FA 2 rfl fo69_2 rfl) ?_
 refine dS (L1 (Value.slice sgA r.Signals.length sgC) 1 rfl tk67 rfl rfl) ?_
 refine dS (MV rfl) ?_
 refine dS (BI rfl (b_sub ⟨by omega, by omega⟩)) ?_
 obtain ⟨y, hy⟩ : ∃ y_, r.Signals[(i - 1)]? = some y_ := ⟨r.Signals[(i - 1)]'(by omega), List.getElem?_eq_getElem _⟩
 have hym : (r.Signals.map SignalV.cells)[(i - 1)]? = some (SignalV.cells y) := by rw [List.getElem?_map, hy]; rfl
 refine dS (IA (i - 1) rfl (has_at 7 rfl) te67 (by decide) (by omega) (by omega)) ?_
 refine dS (FAR ((i - 1) * 2) rfl (has_at 7 rfl) (Nat.mul_pos (by omega) (by decide)) fo30_0 rfl) ?_
 refine dS (LE1 (i - 1) 0 (Value.int .i64 y.Beam) rfl tk3 (has_at 7 rfl) hym rfl (by decide) rfl) ?_
 refine dS (BI rfl b_lss) ?_
 refine dS (MV rfl) ?_
 refine d_bool (t := 64) rfl (fun h64 => ?_) (fun h64 => ?_)
 · replace h64 := DT h64
   refine dS (OX rfl) ?_
   refine dS (OX rfl) ?_
   refine dS (OX rfl) ?_
   refine dS (OX rfl) ?_
   refine dS (OX rfl) ?_
   refine dS (OX rfl) ?_
   refine dS (OX rfl) ?_
   refine dS (OX rfl) ?_
   refine dS (OX rfl) ?_
   refine dS (OX rfl) ?_
   refine dS (OX rfl) ?_
   refine dS (OX rfl) ?_
   refine dS (OX rfl) ?_
   refine dS (OX rfl) ?_
   refine dS (OX rfl) ?_
   refine dS (OX rfl) ?_
   refine dS (OX rfl) ?_
   refine dS (OX rfl) ?_
   refine dS (OX rfl) ?_
   refine dS (OX rfl) ?_
   refine dS (OX rfl) ?_
   refine dS (OX rfl) ?_
   refine dS (PK rfl) ?_
   refine dS (PK rfl) ?_
   refine d_end ?_
   refine RK hK22 ?_
   refine w_if_true rfl ?_
   refine WS fun _ hK23 => ?_
   refine rS (AG rfl) ?_
   refine RK hK23 ?_
   refine w_ret ?_
   refine Q1 hQ rfl rfl rfl ?_
   first | exact congrArg Value.bool (decide_eq_false fun q => by have q1 := q.time; have q2 := q.len; omega).symm | exact congrArg Value.bool (decide_eq_true (ride_all (by omega) (by omega) hl4_1 (by omega))).symm | exact congrArg Value.bool (decide_eq_false fun q => by have q1 := q.sig i x hx; unfold SigOk SigIn at q1; first | omega | (rw [prevS_pos (by omega) hy] at q1; omega)).symm
 replace h64 := DF h64
 refine dS (FA 0 rfl fo30_0 rfl) ?_
 refine dS (L1 (Value.int .i64 x.Beam) 0 rfl tk3 rfl rfl) ?_
 refine dS (FA 2 rfl fo69_2 rfl) ?_
 refine dS (L1 (Value.slice sgA r.Signals.length sgC) 1 rfl tk67 rfl rfl) ?_
 refine dS (MV rfl) ?_
 refine dS (BI rfl (b_sub ⟨by omega, by omega⟩)) ?_
 refine dS (IA (i - 1) rfl (has_at 7 rfl) te67 (by decide) (by omega) (by omega)) ?_
 refine dS (FAR ((i - 1) * 2) rfl (has_at 7 rfl) (Nat.mul_pos (by omega) (by decide)) fo30_0 rfl) ?_
 refine dS (LE1 (i - 1) 0 (Value.int .i64 y.Beam) rfl tk3 (has_at 7 rfl) hym rfl (by decide) rfl) ?_
 refine dS (BI rfl b_eql) ?_
 refine dS (MV rfl) ?_
 refine d_bool (t := 75) rfl (fun h75 => ?_) (fun h75 => ?_)
 rotate_left 1
 · replace h75 := DF h75
   refine dS (OX rfl) ?_
   refine dS (OX rfl) ?_
   refine dS (OX rfl) ?_
   refine dS (OX rfl) ?_
   refine dS (OX rfl) ?_
   refine dS (OX rfl) ?_
   refine dS (OX rfl) ?_
   refine dS (OX rfl) ?_
   refine dS (OX rfl) ?_
   refine dS (OX rfl) ?_
   refine dS (PK rfl) ?_
   refine dS (PK rfl) ?_
   refine dS (PK rfl) ?_
   refine d_end ?_
   refine RK hK22 ?_
   refine w_if_false rfl ?_
   refine w_skip ?_
   refine k_block ?_
   refine KK hK15 ?_
   refine w_region ?_
   refine rS (MV rfl) ?_
   refine rS (BI rfl (b_add ⟨by omega, by omega⟩)) ?_
   refine rS (AG rfl) ?_
   refine r_nil ?_
   have hb26 : (Value.int .i64 (((i + 1) : Nat) : Int)) = (Value.int .i64 (((i : Nat) : Int) + 1)) := by exact congrArg (Value.int .i64) (by omega)
   refine k_then (hJ11 ⟨(i + 1), ⟨by omega, sigs_succ hl4_1 hx (by unfold SigOk SigIn; first | (rw [prevS_at0 (by omega)]; simp only; omega) | (rw [prevS_pos (by omega) hy]; omega))⟩⟩ _ _ _ rfl (by first | omega | (simp; omega)) (Sub.cons rfl <| Sub.cons rfl <| sub_val rfl hb26 <| Sub.nil _) (fun w hs => St.sel [1, 2, 3, 4, 5, 6, 7] rfl rfl hs))
 replace h75 := DT h75
 refine dS (FA 1 rfl fo30_1 rfl) ?_
 refine dS (L1 (Value.int .i64 x.Read) 0 rfl tk3 rfl rfl) ?_
 refine dS (FA 2 rfl fo69_2 rfl) ?_
 refine dS (L1 (Value.slice sgA r.Signals.length sgC) 1 rfl tk67 rfl rfl) ?_
 refine dS (MV rfl) ?_
 refine dS (BI rfl (b_sub ⟨by omega, by omega⟩)) ?_
 refine dS (IA (i - 1) rfl (has_at 7 rfl) te67 (by decide) (by omega) (by omega)) ?_
 refine dS (FAR (((i - 1) * 2) + 1) rfl (has_at 7 rfl) (Nat.mul_pos (by omega) (by decide)) fo30_1 rfl) ?_
 refine dS (LE1 (i - 1) 1 (Value.int .i64 y.Read) rfl tk3 (has_at 7 rfl) hym rfl (by decide) rfl) ?_
 refine dS (BI rfl b_leq) ?_
 refine dS (PK rfl) ?_
 refine dS (PK rfl) ?_
 refine dS (PK rfl) ?_
 refine d_end ?_
 refine RK hK22 ?_
 refine w_if rfl (fun h88 => ?_) (fun h88 => ?_)
 · replace h88 := DT h88
   refine WS fun _ hK24 => ?_
   refine rS (AG rfl) ?_
   refine RK hK24 ?_
   refine w_ret ?_
   refine Q1 hQ rfl rfl rfl ?_
   first | exact congrArg Value.bool (decide_eq_false fun q => by have q1 := q.time; have q2 := q.len; omega).symm | exact congrArg Value.bool (decide_eq_true (ride_all (by omega) (by omega) hl4_1 (by omega))).symm | exact congrArg Value.bool (decide_eq_false fun q => by have q1 := q.sig i x hx; unfold SigOk SigIn at q1; first | omega | (rw [prevS_pos (by omega) hy] at q1; omega)).symm
 replace h88 := DF h88
 refine w_skip ?_
 refine k_block ?_
 refine KK hK15 ?_
 refine w_region ?_
 refine rS (MV rfl) ?_
 refine rS (BI rfl (b_add ⟨by omega, by omega⟩)) ?_
 refine rS (AG rfl) ?_
 refine r_nil ?_
 have hb25 : (Value.int .i64 (((i + 1) : Nat) : Int)) = (Value.int .i64 (((i : Nat) : Int) + 1)) := by exact congrArg (Value.int .i64) (by omega)
 refine k_then (hJ11 ⟨(i + 1), ⟨by omega, sigs_succ hl4_1 hx (by unfold SigOk SigIn; first | (rw [prevS_at0 (by omega)]; simp only; omega) | (rw [prevS_pos (by omega) hy]; omega))⟩⟩ _ _ _ rfl (by first | omega | (simp; omega)) (Sub.cons rfl <| Sub.cons rfl <| sub_val rfl hb25 <| Sub.nil _) (fun w hs => St.sel [1, 2, 3, 4, 5, 6, 7] rfl rfl hs))
set_option maxRecDepth 100000 in
set_option maxHeartbeats 400000 in
theorem right_c (l : LineM) (kA : Option Addr) (kC : Nat) (az : List RA) (cA : Option Addr) (cC : Nat) (bA : Option Addr) (bC : Nat) (r : RideM) (sgA : Option Addr) (sgC : Nat) (hin : LineIn l az) (hrr : r.Signals.length ≤ 9223372036854775807) :
    FnV Try.prog 26 [(Value.agg (LineV.cells (LineV.mk (TrackV.mk (Slc.mk kA l.Track.length kC)) l.Fast (Slc.mk cA l.Clocks.length cC) (Slc.mk bA l.Beams.length bC) l.Finish l.Fakes l.Misses)).toArray), (Value.agg (RideV.cells (RideV.mk r.Start r.Now (Slc.mk sgA r.Signals.length sgC))).toArray)] [(rd kA l.Track.length 9 (l.Track.map StretchV.cells)), (rd cA l.Clocks.length 2 (List.zipWith ClockM.cells l.Clocks az)), (bun (nest ClockM.rds l.Clocks az)), (rd bA l.Beams.length 4 (l.Beams.map BeamV.cells)), (rd sgA r.Signals.length 2 (r.Signals.map SignalV.cells))] (Value.bool (decide (RideOk l r))) := by
 refine fnV_of go26 Try.func26 rfl rfl fun w0 Q hQ hN => ?_
 try dsimp only
 refine WS fun _ hK1 => ?_
 refine BXA rfl fun b2 => ?_
 refine BXA rfl fun b3 => ?_
 refine rS (AG rfl) ?_
 refine RK hK1 ?_
 refine WS fun _ hK4 => ?_
 refine rS (FA 2 rfl fo69_2 rfl) ?_
 refine rS (L1 (Value.slice sgA r.Signals.length sgC) 0 rfl tk67 rfl rfl) ?_
 refine rS (LN rfl ut67) ?_
 refine rS (BI rfl b_leq) ?_
 refine rS (MV rfl) ?_
 refine r_bool (t := 9) rfl (fun h9 => ?_) (fun h9 => ?_)
 rotate_left 1
 · replace h9 := DF h9
   refine rS (OX rfl) ?_
   refine rS (OX rfl) ?_
   refine rS (OX rfl) ?_
   refine rS (PK rfl) ?_
   refine rS (AG rfl) ?_
   refine RK hK4 ?_
   refine w_ret ?_
   refine Q1 hQ rfl rfl rfl ?_
   first | exact congrArg Value.bool (decide_eq_false fun q => h9 (by have := q.len; omega)).symm | rfl
 replace h9 := DT h9
 refine rS (LW 1 rfl tk28 rfl rfl) ?_
 refine rS (LW 0 rfl tk69 rfl rfl) ?_
 refine rS (CL (rride_c l kA kC az cA cC bA bC r sgA sgC hin (by first | assumption | omega | (simp; done) | (simp; omega))) (ha_at 2 rfl rfl <| ha_at 3 rfl rfl <| ha_at 4 rfl rfl <| ha_at 5 rfl rfl <| ha_at 6 rfl rfl <| ha_nil) rfl) ?_
 refine rS (PK rfl) ?_
 refine rS (AG rfl) ?_
 refine RK hK4 ?_
 refine w_ret ?_
 refine Q1 hQ rfl rfl rfl ?_
 first | exact congrArg Value.bool (decide_eq_false fun q => h9 (by have := q.len; omega)).symm | rfl
set_option maxRecDepth 100000 in
set_option maxHeartbeats 400000 in
theorem has_c (la : List Int) (laA : Option Addr) (laC : Nat) (n : Int) (hlen : la.length ≤ 1000000) :
    FnV Try.prog 28 [(Value.slice laA la.length laC), (Value.int .i64 n)] [(rd laA la.length 1 (la.map iC))] (Value.bool (decide (n ∈ la))) := by
 refine fnV_of go28 Try.func28 rfl rfl fun w0 Q hQ hN => ?_
 try dsimp only
 refine WS fun _ hK1 => ?_
 refine rS (AG rfl) ?_
 refine RK hK1 ?_
 refine w_seq fun _ hK2 => ?_
 refine WS fun _ hK3 => ?_
 refine rS (MV rfl) ?_
 refine rS (LN rfl ut57) ?_
 refine rS (MV rfl) ?_
 refine RK hK3 ?_
 refine w_block ?_
 have hinit : (0 ≤ la.length) ∧ (∀ (j : Nat) y, j < 0 → la[j]? = some y → y ≠ n) := by exact ⟨Nat.zero_le _, fun j y hj => absurd hj (Nat.not_lt_zero _)⟩
 refine w_loop (ι := { z : Nat // (z ≤ la.length) ∧ (∀ (j : Nat) y, j < z → la[j]? = some y → y ≠ n) }) (fun z => [(1, (Value.int .i64 n)), (7, (Value.slice laA la.length laC)), (8, (Value.int .i64 ((la.length : Nat) : Int))), (9, (Value.int .i64 ((z.1 : Nat) : Int)))]) (fun z => [(rd laA la.length 1 (la.map iC)).ro]) (fun z => la.length - z.1) ⟨0, hinit⟩ (Sub.cons rfl <| Sub.cons rfl <| Sub.cons rfl <| Sub.cons rfl <| Sub.nil _) (fun w hs => St.sel [0] rfl rfl hs) ?_
 clear hinit
 rintro ⟨i, ⟨hl2_0, hl2_1⟩⟩ J4 hJ4
 try dsimp only
 refine WS fun _ hK5 => ?_
 refine rS (BI rfl b_lss) ?_
 refine RK hK5 ?_
 refine w_seq fun _ hK6 => ?_
 refine w_if rfl (fun h7 => ?_) (fun h7 => ?_)
 rotate_left 1
 · replace h7 := DF h7
   refine w_exit ?_
   refine k_exit_then ?_
   refine k_exit_then ?_
   refine k_exit_same ?_
   refine KK hK2 ?_
   refine WS fun _ hK13 => ?_
   refine rS (AG rfl) ?_
   refine RK hK13 ?_
   refine w_ret ?_
   refine Q1 hQ rfl rfl rfl ?_
   first | exact congrArg Value.bool (decide_eq_true (by rw [← h15]; exact List.mem_of_getElem? hx)).symm | exact congrArg Value.bool (decide_eq_false fun q => upto_mem (P := fun y => y ≠ n) (by omega) hl2_1 n q rfl).symm
 replace h7 := DT h7
 refine WK hK6 ?_
 refine w_seq fun _ hK8 => ?_
 refine w_block ?_
 refine WS fun _ hK9 => ?_
 obtain ⟨x, hx⟩ : ∃ y_, la[i]? = some y_ := ⟨la[i]'(by omega), List.getElem?_eq_getElem _⟩
 have hxm : (la.map iC)[i]? = some (iC x) := by rw [List.getElem?_map, hx]; rfl
 refine rS (IA i rfl (has_at 0 rfl) te57 (by decide) (by omega) (by omega)) ?_
 refine rS (LE1 i 0 (Value.int .i64 x) rfl tk3 (has_at 0 rfl) hxm rfl (by decide) rfl) ?_
 refine rS (AG rfl) ?_
 refine RK hK9 ?_
 refine WS fun _ hK10 => ?_
 refine rS (MV rfl) ?_
 refine rS (MV rfl) ?_
 refine rS (BI rfl b_eql) ?_
 refine RK hK10 ?_
 refine w_if rfl (fun h15 => ?_) (fun h15 => ?_)
 · replace h15 := DT h15
   refine WS fun _ hK11 => ?_
   refine rS (AG rfl) ?_
   refine RK hK11 ?_
   refine w_ret ?_
   refine Q1 hQ rfl rfl rfl ?_
   first | exact congrArg Value.bool (decide_eq_true (by rw [← h15]; exact List.mem_of_getElem? hx)).symm | exact congrArg Value.bool (decide_eq_false fun q => upto_mem (P := fun y => y ≠ n) (by omega) hl2_1 n q rfl).symm
 replace h15 := DF h15
 refine w_skip ?_
 refine k_block ?_
 refine KK hK8 ?_
 refine w_region ?_
 refine rS (BI rfl (b_add ⟨by omega, by omega⟩)) ?_
 refine rS (MV rfl) ?_
 refine r_nil ?_
 have hb12 : (Value.int .i64 (((i + 1) : Nat) : Int)) = (Value.int .i64 (((i : Nat) : Int) + 1)) := by exact congrArg (Value.int .i64) (by omega)
 refine k_then (hJ4 ⟨(i + 1), ⟨by omega, upto_succ hl2_1 hx h15⟩⟩ _ _ _ rfl (by first | omega | (simp; omega)) (Sub.cons rfl <| Sub.cons rfl <| Sub.cons rfl <| sub_val rfl hb12 <| Sub.nil _) (fun w hs => St.sel [0] rfl rfl hs))
end
section
open Go.RowKit
set_option linter.unusedVariables false
set_option maxRecDepth 100000 in
set_option maxHeartbeats 400000 in
theorem beamGoes_c (l : LineM) (kA : Option Addr) (kC : Nat) (az : List RA) (cA : Option Addr) (cC : Nat) (bA : Option Addr) (bC : Nat) (r : RideM) (sgA : Option Addr) (sgC : Nat) (by_ : Int) (hraw : LineRaw l az) (hrr : r.Signals.length ≤ 9223372036854775807) (hby : 0 ≤ by_ ∧ by_ ≤ 65535) :
    FnV Try.prog 7 [(Value.agg (LineV.cells (LineV.mk (TrackV.mk (Slc.mk kA l.Track.length kC)) l.Fast (Slc.mk cA l.Clocks.length cC) (Slc.mk bA l.Beams.length bC) l.Finish l.Fakes l.Misses)).toArray), (Value.agg (RideV.cells (RideV.mk r.Start r.Now (Slc.mk sgA r.Signals.length sgC))).toArray), (Value.int .u16 by_)] [(rd kA l.Track.length 9 (l.Track.map StretchV.cells)), (rd cA l.Clocks.length 2 (List.zipWith ClockM.cells l.Clocks az)), (bun (nest ClockM.rds l.Clocks az)), (rd bA l.Beams.length 4 (l.Beams.map BeamV.cells)), (rd sgA r.Signals.length 2 (r.Signals.map SignalV.cells))] (Value.bool true) := by
 refine fnV_of go7 Try.func7 rfl rfl fun w0 Q hQ hN => ?_
 try dsimp only
 refine WS fun _ hK1 => ?_
 refine BXA rfl fun b2 => ?_
 refine BXA rfl fun b3 => ?_
 refine rS (AG rfl) ?_
 refine RK hK1 ?_
 refine WS fun _ hK4 => ?_
 refine rS (CL alive_c (ha_nil) rfl) ?_
 refine rS (AG rfl) ?_
 refine RK hK4 ?_
 refine w_seq fun _ hK5 => ?_
 refine WS fun _ hK6 => ?_
 refine rS (LW 1 rfl tk28 rfl rfl) ?_
 refine rS (CL (ready_c l kA kC az cA cC bA bC hraw) (ha_at 2 rfl rfl <| ha_at 3 rfl rfl <| ha_at 4 rfl rfl <| ha_at 5 rfl rfl <| ha_nil) rfl) ?_
 refine rS (NT rfl) ?_
 refine rS (MV rfl) ?_
 refine r_bool (t := 24) rfl (fun h24 => ?_) (fun h24 => ?_)
 · replace h24 := XT h24
   refine rS (OX rfl) ?_
   refine rS (OX rfl) ?_
   refine rS (OX rfl) ?_
   refine rS (OX rfl) ?_
   refine rS (PK rfl) ?_
   refine rS (MV rfl) ?_
   refine rS (OX rfl) ?_
   refine rS (OX rfl) ?_
   refine rS (PK rfl) ?_
   refine RK hK6 ?_
   refine w_if_true rfl ?_
   refine WS fun _ hK7 => ?_
   refine rS (MV rfl) ?_
   refine rS (AG rfl) ?_
   refine RK hK7 ?_
   refine w_ret ?_
   refine Q1 hQ rfl rfl rfl ?_
   first | rfl | exact congrArg Value.bool (decide_eq_true (hle.bad' h65))
 replace h24 := XF h24
 refine rS (LW 1 rfl tk28 rfl rfl) ?_
 refine rS (LW 0 rfl tk69 rfl rfl) ?_
 have hin := hraw.small h24.1
 refine rS (CL (right_c l kA kC az cA cC bA bC r sgA sgC (by first | assumption | omega | (simp; done) | (simp; omega)) hrr) (ha_at 2 rfl rfl <| ha_at 3 rfl rfl <| ha_at 4 rfl rfl <| ha_at 5 rfl rfl <| ha_at 6 rfl rfl <| ha_nil) rfl) ?_
 refine rS (NT rfl) ?_
 refine rS (PK rfl) ?_
 refine rS (MV rfl) ?_
 refine r_bool (t := 30) rfl (fun h30 => ?_) (fun h30 => ?_)
 · replace h30 := XT h30
   refine rS (OX rfl) ?_
   refine rS (OX rfl) ?_
   refine rS (PK rfl) ?_
   refine RK hK6 ?_
   refine w_if_true rfl ?_
   refine WS fun _ hK8 => ?_
   refine rS (MV rfl) ?_
   refine rS (AG rfl) ?_
   refine RK hK8 ?_
   refine w_ret ?_
   refine Q1 hQ rfl rfl rfl ?_
   first | rfl | exact congrArg Value.bool (decide_eq_true (hle.bad' h65))
 replace h30 := XF h30
 refine rS (MV rfl) ?_
 refine rS (NT rfl) ?_
 refine rS (PK rfl) ?_
 refine RK hK6 ?_
 refine w_if_false rfl ?_
 refine WK hK5 ?_
 refine WS fun _ hK9 => ?_
 refine rS (LW 0 rfl tk69 rfl rfl) ?_
 refine AL rfl tz69 fun b10 => ?_
 refine SW0 rfl ts69 rfl ?_
 refine RK hK9 ?_
 refine WS fun _ hK11 => ?_
 refine rS (FA 1 rfl fo69_1 rfl) ?_
 refine rS (L1 (Value.int .i64 r.Now) 1 rfl tk3 rfl rfl) ?_
 refine rS (MV rfl) ?_
 refine rS (SX (sd_conv (m := by_) rfl rfl ut70 ut3 (wrap_u16_i64 (by first | assumption | omega))) rfl rfl) ?_
 have hrt := h30.time
 have hrl := h30.len
 have hle := goes_le (now := min 86400000 (r.Now + by_)) h24.2 h30 ⟨by omega, by omega⟩
 have hbm := hin.bms
 have hwl := whereV_len (l := l) (r := r)
 have hwl2 := whereV_len (l := l) (r := (RideM.mk r.Start (min 86400000 (r.Now + by_)) r.Signals))
 refine rS (BI rfl (b_add ⟨by omega, by omega⟩)) ?_
 refine rS (MN rfl) ?_
 refine rS (FA 1 rfl fo69_1 rfl) ?_
 refine ST0 (RideV.cells (RideV.mk r.Start (min 86400000 (r.Now + by_)) (Slc.mk sgA r.Signals.length sgC))) rfl ts3 rfl rfl ?_
 refine RK hK11 ?_
 refine WS fun _ hK12 => ?_
 refine rS (LW 2 rfl tk28 rfl rfl) ?_
 refine rS (LW 1 rfl tk69 rfl rfl) ?_
 refine cX (Where_c l kA kC az cA cC bA bC r sgA sgC (by exact hin) (by show r.Signals.length ≤ 1000000; omega)) (ha_at 3 rfl rfl <| ha_at 4 rfl rfl <| ha_at 5 rfl rfl <| ha_at 6 rfl rfl <| ha_at 7 rfl rfl <| ha_nil) rfl fun y13 hy14 => ?_
 obtain ⟨a15, c16⟩ := y13
 try dsimp only
 refine rS (MV rfl) ?_
 refine rS (EX rfl) ?_
 refine rS (EX rfl) ?_
 refine rS (AG rfl) ?_
 refine rS (AG rfl) ?_
 refine RK hK12 ?_
 refine WS fun _ hK17 => ?_
 refine rS (LW 3 rfl tk28 rfl rfl) ?_
 refine rS (LW 1 rfl tk69 rfl rfl) ?_
 refine cX (Where_c l kA kC az cA cC bA bC (RideM.mk r.Start (min 86400000 (r.Now + by_)) r.Signals) sgA sgC (by exact hin) (by show r.Signals.length ≤ 1000000; omega)) (ha_at 4 rfl rfl <| ha_at 5 rfl rfl <| ha_at 6 rfl rfl <| ha_at 7 rfl rfl <| ha_at 8 rfl rfl <| ha_nil) rfl fun y18 hy19 => ?_
 obtain ⟨a20, c21⟩ := y18
 try dsimp only
 refine rS (MV rfl) ?_
 refine rS (EX rfl) ?_
 refine rS (EX rfl) ?_
 refine rS (AG rfl) ?_
 refine rS (AG rfl) ?_
 refine RK hK17 ?_
 refine w_seq fun _ hK22 => ?_
 refine WS fun _ hK23 => ?_
 refine rS (MV rfl) ?_
 refine rS (BI rfl b_neq) ?_
 refine RK hK23 ?_
 refine w_if rfl (fun h56 => ?_) (fun h56 => ?_)
 · replace h56 := XT h56
   refine WS fun _ hK24 => ?_
   refine rS (MV rfl) ?_
   refine rS (MV rfl) ?_
   refine rS (MV rfl) ?_
   refine rS (BI rfl b_eql) ?_
   refine rS (PK rfl) ?_
   refine rS (MV rfl) ?_
   refine r_bool (t := 62) rfl (fun h62 => ?_) (fun h62 => ?_)
   rotate_left 1
   · replace h62 := DF h62
     exact absurd (hle.bad h56) h62
   replace h62 := DT h62
   refine rS (MV rfl) ?_
   refine rS (BI rfl b_eql) ?_
   refine rS (MV rfl) ?_
   refine r_bool (t := 65) rfl (fun h65 => ?_) (fun h65 => ?_)
   · replace h65 := DT h65
     refine rS (OX rfl) ?_
     refine rS (OX rfl) ?_
     refine rS (PK rfl) ?_
     refine rS (PK rfl) ?_
     refine rS (AG rfl) ?_
     refine RK hK24 ?_
     refine w_ret ?_
     refine Q1 hQ rfl rfl rfl ?_
     first | rfl | exact congrArg Value.bool (decide_eq_true (hle.bad' h65))
   replace h65 := DF h65
   refine rS (MV rfl) ?_
   refine rS (BI rfl b_eql) ?_
   refine rS (PK rfl) ?_
   refine rS (PK rfl) ?_
   refine rS (AG rfl) ?_
   refine RK hK24 ?_
   refine w_ret ?_
   refine Q1 hQ rfl rfl rfl ?_
   first | rfl | exact congrArg Value.bool (decide_eq_true (hle.bad' h65))
 replace h56 := XF h56
 refine WK hK22 ?_
 refine w_seq fun _ hK25 => ?_
 refine WS fun _ hK26 => ?_
 refine rS (MV rfl) ?_
 refine rS (BI rfl b_neq) ?_
 refine RK hK26 ?_
 refine w_if rfl (fun h71 => ?_) (fun h71 => ?_)
 · replace h71 := XT h71
   exact absurd (hle.ok (by simpa using h56)) h71
 replace h71 := XF h71
 refine WK hK25 ?_
 refine w_seq fun _ hK27 => ?_
 refine WS fun _ hK28 => ?_
 refine rS (MV rfl) ?_
 refine rS (LN rfl ut57) ?_
 refine rS (MV rfl) ?_
 refine RK hK28 ?_
 refine w_block ?_
 have hinit : (0 ≤ (whereV l r).length) := by exact Nat.zero_le _
 refine w_loop (ι := { z : Nat // (z ≤ (whereV l r).length) }) (fun z => [(3, (Value.pointer (some ⟨b2, 0, none⟩))), (4, (Value.pointer (some ⟨b3, 0, none⟩))), (7, (Value.bool true)), (8, (Value.pointer (some ⟨b10, 0, none⟩))), (11, (Value.slice a20 ((whereV l (RideM.mk r.Start (min 86400000 (r.Now + by_)) r.Signals)).length) c21)), (12, (Value.int .i64 (openE l (RideM.mk r.Start (min 86400000 (r.Now + by_)) r.Signals) 0))), (72, (Value.slice a15 ((whereV l r).length) c16)), (73, (Value.int .i64 (((whereV l r).length : Nat) : Int))), (74, (Value.int .i64 ((z.1 : Nat) : Int)))]) (fun z => [(own a20 c21 3 1 ((whereV l (RideM.mk r.Start (min 86400000 (r.Now + by_)) r.Signals)).map iC)), (own a15 c16 3 1 ((whereV l r).map iC)), (blk b10 69 (RideV.cells (RideV.mk r.Start (min 86400000 (r.Now + by_)) (Slc.mk sgA r.Signals.length sgC)))), (blk b3 69 (RideV.cells (RideV.mk r.Start r.Now (Slc.mk sgA r.Signals.length sgC)))), (blk b2 28 (LineV.cells (LineV.mk (TrackV.mk (Slc.mk kA l.Track.length kC)) l.Fast (Slc.mk cA l.Clocks.length cC) (Slc.mk bA l.Beams.length bC) l.Finish l.Fakes l.Misses))), (rd kA l.Track.length 9 (l.Track.map StretchV.cells)).ro, (rd cA l.Clocks.length 2 (List.zipWith ClockM.cells l.Clocks az)).ro, (bun (nest ClockM.rds l.Clocks az)).ro, (rd bA l.Beams.length 4 (l.Beams.map BeamV.cells)).ro, (rd sgA r.Signals.length 2 (r.Signals.map SignalV.cells)).ro]) (fun z => (whereV l r).length - z.1) ⟨0, hinit⟩ (Sub.cons rfl <| Sub.cons rfl <| Sub.cons rfl <| Sub.cons rfl <| Sub.cons rfl <| Sub.cons rfl <| Sub.cons rfl <| Sub.cons rfl <| Sub.cons rfl <| Sub.nil _) (fun w hs => St.sel [0, 1, 2, 3, 4, 5, 6, 7, 8, 9] rfl rfl hs) ?_
 clear hinit
 rintro ⟨b, hl13_0⟩ J29 hJ29
 try dsimp only
 refine WS fun _ hK30 => ?_
 refine rS (BI rfl b_lss) ?_
 refine RK hK30 ?_
 refine w_seq fun _ hK31 => ?_
 refine w_if rfl (fun h32 => ?_) (fun h32 => ?_)
 · replace h32 := DT h32
   refine WK hK31 ?_
   refine w_seq fun _ hK33 => ?_
   refine w_block ?_
   refine WS fun _ hK34 => ?_
   obtain ⟨x, hx⟩ : ∃ y_, (whereV l r)[b]? = some y_ := ⟨(whereV l r)[b]'(by omega), List.getElem?_eq_getElem _⟩
   have hxm : ((whereV l r).map iC)[b]? = some (iC x) := by rw [List.getElem?_map, hx]; rfl
   refine rS (IA b rfl (has_own_n (n := (whereV l r).length) 1 rfl (by simp)) te57 (by decide) (by omega) (by omega)) ?_
   refine rS (LE1 b 0 (Value.int .i64 x) rfl tk3 (has_own_n (n := (whereV l r).length) 1 rfl (by simp)) hxm rfl (by decide) rfl) ?_
   refine rS (AG rfl) ?_
   refine RK hK34 ?_
   refine WS fun _ hK35 => ?_
   refine rS (MV rfl) ?_
   refine rS (MV rfl) ?_
   refine rS (CL (has_c (whereV l (RideM.mk r.Start (min 86400000 (r.Now + by_)) r.Signals)) a20 c21 x (by omega)) (ha_cons (has_own_n (n := (whereV l (RideM.mk r.Start (min 86400000 (r.Now + by_)) r.Signals)).length) 0 rfl (by simp)) <| ha_nil) rfl) ?_
   refine rS (NT rfl) ?_
   refine RK hK35 ?_
   refine w_if rfl (fun h81 => ?_) (fun h81 => ?_)
   · replace h81 := XT h81
     exact absurd (hle.where_ (List.mem_of_getElem? hx)) h81
   replace h81 := XF h81
   refine w_skip ?_
   refine k_block ?_
   refine KK hK33 ?_
   refine w_region ?_
   refine rS (BI rfl (b_add ⟨by omega, by omega⟩)) ?_
   refine rS (MV rfl) ?_
   refine r_nil ?_
   have hb36 : (Value.int .i64 (((b + 1) : Nat) : Int)) = (Value.int .i64 (((b : Nat) : Int) + 1)) := by exact congrArg (Value.int .i64) (by omega)
   refine k_then (hJ29 ⟨(b + 1), (by first | omega | (simp only []; omega))⟩ _ _ _ rfl (by first | omega | (simp; omega)) (Sub.cons rfl <| Sub.cons rfl <| Sub.cons rfl <| Sub.cons rfl <| Sub.cons rfl <| Sub.cons rfl <| Sub.cons rfl <| Sub.cons rfl <| sub_val rfl hb36 <| Sub.nil _) (fun w hs => St.sel [0, 1, 2, 3, 4, 5, 6, 7, 8, 9] rfl rfl hs))
 replace h32 := DF h32
 refine w_exit ?_
 refine k_exit_then ?_
 refine k_exit_then ?_
 refine k_exit_same ?_
 refine KK hK27 ?_
 refine w_seq fun _ hK37 => ?_
 refine WS fun _ hK38 => ?_
 refine rS (FA 3 rfl fo28_3 rfl) ?_
 refine rS (L1 (Value.slice bA l.Beams.length bC) 4 rfl tk26 rfl rfl) ?_
 refine rS (LN rfl ut26) ?_
 refine rS (MV rfl) ?_
 refine RK hK38 ?_
 refine w_block ?_
 have hinit : (0 ≤ l.Beams.length) := by exact Nat.zero_le _
 refine w_loop (ι := { z : Nat // (z ≤ l.Beams.length) }) (fun z => [(3, (Value.pointer (some ⟨b2, 0, none⟩))), (4, (Value.pointer (some ⟨b3, 0, none⟩))), (7, (Value.bool true)), (8, (Value.pointer (some ⟨b10, 0, none⟩))), (85, (Value.int .i64 ((l.Beams.length : Nat) : Int))), (86, (Value.int .i64 ((z.1 : Nat) : Int)))]) (fun z => [(own a20 c21 3 1 ((whereV l (RideM.mk r.Start (min 86400000 (r.Now + by_)) r.Signals)).map iC)), (own a15 c16 3 1 ((whereV l r).map iC)), (blk b10 69 (RideV.cells (RideV.mk r.Start (min 86400000 (r.Now + by_)) (Slc.mk sgA r.Signals.length sgC)))), (blk b3 69 (RideV.cells (RideV.mk r.Start r.Now (Slc.mk sgA r.Signals.length sgC)))), (blk b2 28 (LineV.cells (LineV.mk (TrackV.mk (Slc.mk kA l.Track.length kC)) l.Fast (Slc.mk cA l.Clocks.length cC) (Slc.mk bA l.Beams.length bC) l.Finish l.Fakes l.Misses))), (rd kA l.Track.length 9 (l.Track.map StretchV.cells)).ro, (rd cA l.Clocks.length 2 (List.zipWith ClockM.cells l.Clocks az)).ro, (bun (nest ClockM.rds l.Clocks az)).ro, (rd bA l.Beams.length 4 (l.Beams.map BeamV.cells)).ro, (rd sgA r.Signals.length 2 (r.Signals.map SignalV.cells)).ro]) (fun z => l.Beams.length - z.1) ⟨0, hinit⟩ (Sub.cons rfl <| Sub.cons rfl <| Sub.cons rfl <| Sub.cons rfl <| Sub.cons rfl <| Sub.cons rfl <| Sub.nil _) (fun w hs => St.sel [0, 1, 2, 3, 4, 5, 6, 7, 8, 9] rfl rfl hs) ?_
 clear hinit
 rintro ⟨b, hl19_0⟩ J39 hJ39
 try dsimp only
 refine WS fun _ hK40 => ?_
 refine rS (BI rfl b_lss) ?_
 refine RK hK40 ?_
 refine w_seq fun _ hK41 => ?_
 refine w_if rfl (fun h42 => ?_) (fun h42 => ?_)
 rotate_left 1
 · replace h42 := DF h42
   refine w_exit ?_
   refine k_exit_then ?_
   refine k_exit_then ?_
   refine k_exit_same ?_
   refine KK hK37 ?_
   refine WS fun _ hK52 => ?_
   refine rS (MV rfl) ?_
   refine rS (AG rfl) ?_
   refine RK hK52 ?_
   refine w_ret ?_
   refine Q1 hQ rfl rfl rfl ?_
   first | rfl | exact congrArg Value.bool (decide_eq_true (hle.bad' h65))
 replace h42 := DT h42
 refine WK hK41 ?_
 refine w_seq fun _ hK43 => ?_
 refine w_block ?_
 refine WS fun _ hK44 => ?_
 refine rS (MV rfl) ?_
 refine rS (AG rfl) ?_
 refine RK hK44 ?_
 refine WS fun _ hK45 => ?_
 refine rS (LW 4 rfl tk28 rfl rfl) ?_
 refine rS (LW 3 rfl tk69 rfl rfl) ?_
 refine rS (MV rfl) ?_
 refine rS (CL (Passed_c l kA kC az cA cC bA bC r sgA sgC ((b : Nat) : Int) (by exact hin) (by show r.Signals.length ≤ 1000000; omega)) (ha_at 5 rfl rfl <| ha_at 6 rfl rfl <| ha_at 7 rfl rfl <| ha_at 8 rfl rfl <| ha_at 9 rfl rfl <| ha_nil) rfl) ?_
 refine rS (MV rfl) ?_
 refine rS (EX rfl) ?_
 refine rS (EX rfl) ?_
 refine AL rfl tz34 fun b46 => ?_
 refine SW0 rfl ts34 rfl ?_
 refine rS (AG rfl) ?_
 refine RK hK45 ?_
 refine WS fun _ hK47 => ?_
 refine rS (LW 5 rfl tk28 rfl rfl) ?_
 refine rS (LW 3 rfl tk69 rfl rfl) ?_
 refine rS (MV rfl) ?_
 refine rS (CL (Passed_c l kA kC az cA cC bA bC (RideM.mk r.Start (min 86400000 (r.Now + by_)) r.Signals) sgA sgC ((b : Nat) : Int) (by exact hin) (by show r.Signals.length ≤ 1000000; omega)) (ha_at 6 rfl rfl <| ha_at 7 rfl rfl <| ha_at 8 rfl rfl <| ha_at 9 rfl rfl <| ha_at 10 rfl rfl <| ha_nil) rfl) ?_
 refine rS (MV rfl) ?_
 refine rS (EX rfl) ?_
 refine rS (EX rfl) ?_
 refine AL rfl tz34 fun b48 => ?_
 refine SW0 rfl ts34 rfl ?_
 refine rS (AG rfl) ?_
 refine RK hK47 ?_
 refine WS fun _ hK49 => ?_
 refine rS (MV rfl) ?_
 refine rS (BI rfl b_eql) ?_
 refine rS (MV rfl) ?_
 refine r_bool (t := 105) rfl (fun h105 => ?_) (fun h105 => ?_)
 rotate_left 1
 · replace h105 := DF h105
   refine rS (OX rfl) ?_
   refine rS (OX rfl) ?_
   refine rS (OX rfl) ?_
   refine rS (OX rfl) ?_
   refine rS (OX rfl) ?_
   refine rS (OX rfl) ?_
   refine rS (OX rfl) ?_
   refine rS (OX rfl) ?_
   refine rS (OX rfl) ?_
   refine rS (OX rfl) ?_
   refine rS (OX rfl) ?_
   refine rS (OX rfl) ?_
   refine rS (OX rfl) ?_
   refine rS (OX rfl) ?_
   refine rS (OX rfl) ?_
   refine rS (OX rfl) ?_
   refine rS (PK rfl) ?_
   refine RK hK49 ?_
   refine w_if_false rfl ?_
   refine w_skip ?_
   refine k_block ?_
   refine KK hK43 ?_
   refine w_region ?_
   refine rS (BI rfl (b_add ⟨by omega, by omega⟩)) ?_
   refine rS (MV rfl) ?_
   refine r_nil ?_
   have hb51 : (Value.int .i64 (((b + 1) : Nat) : Int)) = (Value.int .i64 (((b : Nat) : Int) + 1)) := by exact congrArg (Value.int .i64) (by omega)
   refine k_then (hJ39 ⟨(b + 1), (by first | omega | (simp only []; omega))⟩ _ _ _ rfl (by first | omega | (simp; omega)) (Sub.cons rfl <| Sub.cons rfl <| Sub.cons rfl <| Sub.cons rfl <| Sub.cons rfl <| sub_val rfl hb51 <| Sub.nil _) (fun w hs => St.sel [2, 3, 4, 5, 6, 7, 8, 9, 10, 11] rfl rfl hs))
 replace h105 := DT h105
 refine rS (MV rfl) ?_
 refine rS (BI rfl b_neq) ?_
 refine rS (MV rfl) ?_
 refine r_bool (t := 108) rfl (fun h108 => ?_) (fun h108 => ?_)
 · replace h108 := XT h108
   exact absurd (hle.passed (b := b) (by omega) h105).1 h108
 replace h108 := XF h108
 refine rS (FA 0 rfl fo34_0 rfl) ?_
 have hps := hle.passed (b := b) (by omega) h105
 refine rS (L1 (Value.int .i64 ((passedV l (RideM.mk r.Start (min 86400000 (r.Now + by_)) r.Signals) ((b : Nat) : Int)).Lo)) 0 rfl tk3 rfl rfl) ?_
 refine rS (FA 0 rfl fo34_0 rfl) ?_
 refine rS (L1 (Value.int .i64 ((passedV l r ((b : Nat) : Int)).Lo)) 1 rfl tk3 rfl rfl) ?_
 refine rS (BI rfl b_gtr) ?_
 refine rS (PK rfl) ?_
 refine rS (MV rfl) ?_
 refine r_bool (t := 115) rfl (fun h115 => ?_) (fun h115 => ?_)
 · replace h115 := DT h115
   exfalso; omega
 replace h115 := DF h115
 refine rS (FA 1 rfl fo34_1 rfl) ?_
 refine rS (L1 (Value.int .i64 ((passedV l (RideM.mk r.Start (min 86400000 (r.Now + by_)) r.Signals) ((b : Nat) : Int)).Hi)) 0 rfl tk3 rfl rfl) ?_
 refine rS (FA 1 rfl fo34_1 rfl) ?_
 refine rS (L1 (Value.int .i64 ((passedV l r ((b : Nat) : Int)).Hi)) 1 rfl tk3 rfl rfl) ?_
 refine rS (BI rfl b_lss) ?_
 refine rS (PK rfl) ?_
 refine rS (PK rfl) ?_
 refine RK hK49 ?_
 refine w_if rfl (fun h122 => ?_) (fun h122 => ?_)
 · replace h122 := DT h122
   exfalso; omega
 replace h122 := DF h122
 refine w_skip ?_
 refine k_block ?_
 refine KK hK43 ?_
 refine w_region ?_
 refine rS (BI rfl (b_add ⟨by omega, by omega⟩)) ?_
 refine rS (MV rfl) ?_
 refine r_nil ?_
 have hb50 : (Value.int .i64 (((b + 1) : Nat) : Int)) = (Value.int .i64 (((b : Nat) : Int) + 1)) := by exact congrArg (Value.int .i64) (by omega)
 refine k_then (hJ39 ⟨(b + 1), (by first | omega | (simp only []; omega))⟩ _ _ _ rfl (by first | omega | (simp; omega)) (Sub.cons rfl <| Sub.cons rfl <| Sub.cons rfl <| Sub.cons rfl <| Sub.cons rfl <| sub_val rfl hb50 <| Sub.nil _) (fun w hs => St.sel [2, 3, 4, 5, 6, 7, 8, 9, 10, 11] rfl rfl hs))
end
section
open Go.RowKit
set_option linter.unusedVariables false
def ReadsAs {α : Type} (cells : α → List Value) (sz : Nat) (R : World → α → Prop) (w : World) (s : Slc) : Prop := ∃ l : List α, s.n = l.length ∧ (rd s.a l.length sz (l.map cells)).holds w ∧ (∀ x ∈ l, R w x) ∧ l.length ≤ maxLen ∧ s.n ≤ s.c
theorem open_clocks {w : World} {R : World → SyncV → Prop} : ∀ {l : List ClockV}, (∀ x ∈ l, ReadsAs SyncV.cells 3 R w x.Syncs) → ∃ (ms : List ClockM) (az : List RA), l.map ClockV.cells = List.zipWith ClockM.cells ms az ∧ ms.length = l.length ∧ az.length = l.length ∧ (∀ X ∈ nest ClockM.rds ms az, X.holds w) ∧
    (∀ (k : Nat) m (a : RA), ms[k]? = some m → az[k]? = some a → m.Syncs.length ≤ a.2 ∧ m.Syncs.length ≤ 9223372036854775807) ∧ ms.map (fun m => m.Drift) = l.map (fun x => x.Drift) ∧ ∀ (k : Nat) m y, ms[k]? = some m → y ∈ m.Syncs → R w y
  | [], _ => ⟨[], [], rfl, rfl, rfl, (fun X hX => by cases hX), (fun k m a h => by simp at h), rfl, (fun k m y h => by simp at h)⟩
  | x :: l, h => by
    obtain ⟨ms, az, h1, h2, h3, h4, h5, h6, h7⟩ := open_clocks (fun y hy => h y (List.mem_cons_of_mem _ hy))
    obtain ⟨sy, e1, e2, e3, e4, e5⟩ := h x (by simp)
    have e4' : sy.length ≤ 9223372036854775807 := e4
    refine ⟨⟨x.Drift, sy⟩ :: ms, (x.Syncs.a, x.Syncs.c) :: az, ?_, by simp [h2], by simp [h3], fun X hX => ?_, fun k m a hm ha => ?_, by simp [h6], fun k m y hm hy => ?_⟩
    · obtain ⟨dr, ⟨a, n, c⟩⟩ := x
      simp only at e1
      subst e1
      simp only [List.map_cons, List.zipWith_cons_cons, h1]
      rfl
    · rcases List.mem_append.1 hX with hX | hX
      · simp only [ClockM.rds, List.mem_singleton] at hX
        subst hX; exact e2
      · exact h4 X hX
    · cases k with
      | zero =>
        simp only [List.getElem?_cons_zero, Option.some.injEq] at hm ha
        subst hm ha
        exact ⟨by simp only; omega, e4'⟩
      | succ k => exact h5 k m a (by simpa using hm) (by simpa using ha)
    · cases k with
      | zero =>
        simp only [List.getElem?_cons_zero, Option.some.injEq] at hm
        subst hm
        exact e3 y hy
      | succ k => exact h7 k m y (by simpa using hm) hy
theorem open_line {w : World} {s : LineV} {R1 : World → StretchV → Prop} {R2 : World → ClockV → Prop} {R3 : World → BeamV → Prop} {R4 : World → SyncV → Prop} (h1 : ReadsAs StretchV.cells 9 R1 w s.Track.Stretches) (hs : ∀ x, R1 w x → 0 ≤ x.Side ∧ x.Side ≤ 255) (h2 : ReadsAs ClockV.cells 2 R2 w s.Clocks) (hc : ∀ x, R2 w x → ReadsAs SyncV.cells 3 R4 w x.Syncs) (h3 : ReadsAs BeamV.cells 4 R3 w s.Beams) :
    ∃ (l : LineM) (az : List RA) (kA : Option Addr) (kC : Nat) (cA : Option Addr) (cC : Nat) (bA : Option Addr) (bC : Nat), s = LineV.mk (TrackV.mk (Slc.mk kA l.Track.length kC)) l.Fast (Slc.mk cA l.Clocks.length cC) (Slc.mk bA l.Beams.length bC) l.Finish l.Fakes l.Misses ∧ LineRaw l az ∧
      ((rd kA l.Track.length 9 (l.Track.map StretchV.cells)).holds w ∧ (rd cA l.Clocks.length 2 (List.zipWith ClockM.cells l.Clocks az)).holds w ∧ (bun (nest ClockM.rds l.Clocks az)).holds w ∧ (rd bA l.Beams.length 4 (l.Beams.map BeamV.cells)).holds w) ∧ l.Fast = s.Fast ∧ l.Finish = s.Finish ∧ l.Fakes = s.Fakes ∧ l.Misses = s.Misses := by
  obtain ⟨⟨⟨ka, kn, kc⟩⟩, fa, ⟨ca, cn, cc⟩, ⟨ba, bn, bc⟩, fi, fk, mi⟩ := s
  obtain ⟨ts, t1, t2, t3, t4, t5⟩ := h1
  obtain ⟨cs, c1, c2, c3, c4, c5⟩ := h2
  obtain ⟨bs, b1, b2, b3, b4, b5⟩ := h3
  simp only at t1 c1 b1
  subst t1 c1 b1
  obtain ⟨ms, az, m1, m2, m3, m4, m5, _⟩ := open_clocks (fun x hx => hc x (c3 x hx))
  have t4' : ts.length ≤ 9223372036854775807 := t4
  have c4' : cs.length ≤ 9223372036854775807 := c4
  have b4' : bs.length ≤ 9223372036854775807 := b4
  refine ⟨⟨ts, fa, ms, bs, fi, fk, mi⟩, az, ka, kc, ca, cc, ba, bc, by simp only [m2], ⟨t4', fun x hx => hs x (t3 x hx), by simp only; omega, by simp only; omega, b4', m5⟩, ⟨t2, ?_, m4, b2⟩, rfl, rfl, rfl, rfl⟩
  simp only at c2 ⊢
  rw [m2, ← m1]; exact c2
end
section
open Go.RowKit
set_option linter.unusedVariables false
theorem open_ride {w : World} {s : RideV} {R : World → SignalV → Prop} (h : ReadsAs SignalV.cells 2 R w s.Signals) :
    ∃ (r : RideM) (gA : Option Addr) (gC : Nat), s = RideV.mk r.Start r.Now (Slc.mk gA r.Signals.length gC) ∧ r.Signals.length ≤ 9223372036854775807 ∧ (rd gA r.Signals.length 2 (r.Signals.map SignalV.cells)).holds w := by
  obtain ⟨st, nw, ⟨a, n, c⟩⟩ := s
  obtain ⟨l, h1, h2, h3, h4, h5⟩ := h
  simp only at h1
  subst h1
  exact ⟨⟨st, nw, l⟩, a, c, rfl, h4, h2⟩
end
section
open Go.ChangeShapes Go.WideShapes Go.ChangeAt Go.RowKit
set_option linter.unusedVariables false
theorem cz28 : Try.prog.cellsOf 28 = 7 := by kernel_rfl
theorem cz24 : Try.prog.cellsOf 24 = 1 := by kernel_rfl
theorem cz22 : Try.prog.cellsOf 22 = 1 := by kernel_rfl
theorem cz126 : Try.prog.cellsOf 126 = 9 := by kernel_rfl
theorem cz3 : Try.prog.cellsOf 3 = 1 := by kernel_rfl
def Is3 (w : World) (n : Int) : Prop := In64 n
theorem op3 : OpR Try.prog 3 Int iC Is3 := op_i64 ut3
theorem cz34 : Try.prog.cellsOf 34 = 2 := by kernel_rfl
structure Is34 (w : World) (s : SpanV) : Prop where
  Lo : Is3 w s.Lo
  Hi : Is3 w s.Hi
theorem fx34 : fL Try.prog 34 = some [(3, 0), (3, 1)] := by kernel_rfl
theorem op34 : OpR Try.prog 34 SpanV SpanV.cells Is34 := fun {H} enc w base sp held fuel cs x h => by
  obtain ⟨hl, hp⟩ := op_parts fx34 h
  obtain ⟨n0, y0, h0⟩ := hp 0 3 0 rfl
  obtain ⟨s0, c0, r0⟩ := op3 _ _ _ _ _ _ _ _ h0
  obtain ⟨n1, y1, h1⟩ := hp 1 3 1 rfl
  obtain ⟨s1, c1, r1⟩ := op3 _ _ _ _ _ _ _ _ h1
  refine ⟨⟨s0, s1⟩, ?_, ⟨r0, r1⟩⟩
  have e1 := parts_last (hl.trans cz34) (by rw [cz3]) c1
  have e0 := parts_cons c0 (m := 1) (by rw [cz3]) e1
  exact e0
theorem cz5 : Try.prog.cellsOf 5 = 1 := by kernel_rfl
def Is5 (w : World) (n : Int) : Prop := 0 ≤ n ∧ n ≤ 255
theorem op5 : OpR Try.prog 5 Int iC_u8 Is5 := op_u8 ut5
structure Is126 (w : World) (s : StretchV) : Prop where
  Id : Is3 w s.Id
  Long : Is34 w s.Long
  Fall : Is34 w s.Fall
  Radius : Is34 w s.Radius
  Side : Is5 w s.Side
  Wall : Is3 w s.Wall
theorem fx126 : fL Try.prog 126 = some [(3, 0), (34, 1), (34, 3), (34, 5), (5, 7), (3, 8)] := by kernel_rfl
theorem op126 : OpR Try.prog 126 StretchV StretchV.cells Is126 := fun {H} enc w base sp held fuel cs x h => by
  obtain ⟨hl, hp⟩ := op_parts fx126 h
  obtain ⟨n0, y0, h0⟩ := hp 0 3 0 rfl
  obtain ⟨s0, c0, r0⟩ := op3 _ _ _ _ _ _ _ _ h0
  obtain ⟨n1, y1, h1⟩ := hp 1 34 1 rfl
  obtain ⟨s1, c1, r1⟩ := op34 _ _ _ _ _ _ _ _ h1
  obtain ⟨n2, y2, h2⟩ := hp 2 34 3 rfl
  obtain ⟨s2, c2, r2⟩ := op34 _ _ _ _ _ _ _ _ h2
  obtain ⟨n3, y3, h3⟩ := hp 3 34 5 rfl
  obtain ⟨s3, c3, r3⟩ := op34 _ _ _ _ _ _ _ _ h3
  obtain ⟨n4, y4, h4⟩ := hp 4 5 7 rfl
  obtain ⟨s4, c4, r4⟩ := op5 _ _ _ _ _ _ _ _ h4
  obtain ⟨n5, y5, h5⟩ := hp 5 3 8 rfl
  obtain ⟨s5, c5, r5⟩ := op3 _ _ _ _ _ _ _ _ h5
  refine ⟨⟨s0, s1, s2, s3, s4, s5⟩, ?_, ⟨r0, r1, r2, r3, r4, r5⟩⟩
  have e5 := parts_last (hl.trans cz126) (by rw [cz3]) c5
  have e4 := parts_cons c4 (m := 8) (by rw [cz5]) e5
  have e3 := parts_cons c3 (m := 7) (by rw [cz34]) e4
  have e2 := parts_cons c2 (m := 5) (by rw [cz34]) e3
  have e1 := parts_cons c1 (m := 3) (by rw [cz34]) e2
  have e0 := parts_cons c0 (m := 1) (by rw [cz3]) e1
  exact e0
def Is22 (w : World) (s : Slc) : Prop := ∃ l : List StretchV, s.n = l.length ∧ (rd s.a l.length 9 (l.map StretchV.cells)).holds w ∧ (∀ x ∈ l, Is126 w x) ∧ l.length ≤ maxLen ∧ s.n ≤ s.c
theorem op22 : OpR Try.prog 22 Slc (fun s => [Value.slice s.a s.n s.c]) Is22 := op_slice ut22 cz126 op126
structure Is24 (w : World) (s : TrackV) : Prop where
  Stretches : Is22 w s.Stretches
theorem fx24 : fL Try.prog 24 = some [(22, 0)] := by kernel_rfl
theorem op24 : OpR Try.prog 24 TrackV TrackV.cells Is24 := fun {H} enc w base sp held fuel cs x h => by
  obtain ⟨hl, hp⟩ := op_parts fx24 h
  obtain ⟨n0, y0, h0⟩ := hp 0 22 0 rfl
  obtain ⟨s0, c0, r0⟩ := op22 _ _ _ _ _ _ _ _ h0
  refine ⟨⟨s0⟩, ?_, ⟨r0⟩⟩
  have e0 := parts_last (hl.trans cz24) (by rw [cz22]) c0
  exact e0
theorem cz25 : Try.prog.cellsOf 25 = 1 := by kernel_rfl
theorem cz64 : Try.prog.cellsOf 64 = 2 := by kernel_rfl
theorem cz62 : Try.prog.cellsOf 62 = 1 := by kernel_rfl
theorem cz61 : Try.prog.cellsOf 61 = 3 := by kernel_rfl
structure Is61 (w : World) (s : SyncV) : Prop where
  At : Is3 w s.At
  Ahead : Is34 w s.Ahead
theorem fx61 : fL Try.prog 61 = some [(3, 0), (34, 1)] := by kernel_rfl
theorem op61 : OpR Try.prog 61 SyncV SyncV.cells Is61 := fun {H} enc w base sp held fuel cs x h => by
  obtain ⟨hl, hp⟩ := op_parts fx61 h
  obtain ⟨n0, y0, h0⟩ := hp 0 3 0 rfl
  obtain ⟨s0, c0, r0⟩ := op3 _ _ _ _ _ _ _ _ h0
  obtain ⟨n1, y1, h1⟩ := hp 1 34 1 rfl
  obtain ⟨s1, c1, r1⟩ := op34 _ _ _ _ _ _ _ _ h1
  refine ⟨⟨s0, s1⟩, ?_, ⟨r0, r1⟩⟩
  have e1 := parts_last (hl.trans cz61) (by rw [cz34]) c1
  have e0 := parts_cons c0 (m := 1) (by rw [cz3]) e1
  exact e0
def Is62 (w : World) (s : Slc) : Prop := ∃ l : List SyncV, s.n = l.length ∧ (rd s.a l.length 3 (l.map SyncV.cells)).holds w ∧ (∀ x ∈ l, Is61 w x) ∧ l.length ≤ maxLen ∧ s.n ≤ s.c
theorem op62 : OpR Try.prog 62 Slc (fun s => [Value.slice s.a s.n s.c]) Is62 := op_slice ut62 cz61 op61
structure Is64 (w : World) (s : ClockV) : Prop where
  Drift : Is3 w s.Drift
  Syncs : Is62 w s.Syncs
theorem fx64 : fL Try.prog 64 = some [(3, 0), (62, 1)] := by kernel_rfl
theorem op64 : OpR Try.prog 64 ClockV ClockV.cells Is64 := fun {H} enc w base sp held fuel cs x h => by
  obtain ⟨hl, hp⟩ := op_parts fx64 h
  obtain ⟨n0, y0, h0⟩ := hp 0 3 0 rfl
  obtain ⟨s0, c0, r0⟩ := op3 _ _ _ _ _ _ _ _ h0
  obtain ⟨n1, y1, h1⟩ := hp 1 62 1 rfl
  obtain ⟨s1, c1, r1⟩ := op62 _ _ _ _ _ _ _ _ h1
  refine ⟨⟨s0, s1⟩, ?_, ⟨r0, r1⟩⟩
  have e1 := parts_last (hl.trans cz64) (by rw [cz62]) c1
  have e0 := parts_cons c0 (m := 1) (by rw [cz3]) e1
  exact e0
def Is25 (w : World) (s : Slc) : Prop := ∃ l : List ClockV, s.n = l.length ∧ (rd s.a l.length 2 (l.map ClockV.cells)).holds w ∧ (∀ x ∈ l, Is64 w x) ∧ l.length ≤ maxLen ∧ s.n ≤ s.c
theorem op25 : OpR Try.prog 25 Slc (fun s => [Value.slice s.a s.n s.c]) Is25 := op_slice ut25 cz64 op64
theorem cz26 : Try.prog.cellsOf 26 = 1 := by kernel_rfl
theorem cz55 : Try.prog.cellsOf 55 = 4 := by kernel_rfl
theorem cz53 : Try.prog.cellsOf 53 = 3 := by kernel_rfl
structure Is53 (w : World) (s : SpotV) : Prop where
  Stretch : Is3 w s.Stretch
  Off : Is34 w s.Off
theorem fx53 : fL Try.prog 53 = some [(3, 0), (34, 1)] := by kernel_rfl
theorem op53 : OpR Try.prog 53 SpotV SpotV.cells Is53 := fun {H} enc w base sp held fuel cs x h => by
  obtain ⟨hl, hp⟩ := op_parts fx53 h
  obtain ⟨n0, y0, h0⟩ := hp 0 3 0 rfl
  obtain ⟨s0, c0, r0⟩ := op3 _ _ _ _ _ _ _ _ h0
  obtain ⟨n1, y1, h1⟩ := hp 1 34 1 rfl
  obtain ⟨s1, c1, r1⟩ := op34 _ _ _ _ _ _ _ _ h1
  refine ⟨⟨s0, s1⟩, ?_, ⟨r0, r1⟩⟩
  have e1 := parts_last (hl.trans cz53) (by rw [cz34]) c1
  have e0 := parts_cons c0 (m := 1) (by rw [cz3]) e1
  exact e0
structure Is55 (w : World) (s : BeamV) : Prop where
  Spot : Is53 w s.Spot
  Clock : Is3 w s.Clock
theorem fx55 : fL Try.prog 55 = some [(53, 0), (3, 3)] := by kernel_rfl
theorem op55 : OpR Try.prog 55 BeamV BeamV.cells Is55 := fun {H} enc w base sp held fuel cs x h => by
  obtain ⟨hl, hp⟩ := op_parts fx55 h
  obtain ⟨n0, y0, h0⟩ := hp 0 53 0 rfl
  obtain ⟨s0, c0, r0⟩ := op53 _ _ _ _ _ _ _ _ h0
  obtain ⟨n1, y1, h1⟩ := hp 1 3 3 rfl
  obtain ⟨s1, c1, r1⟩ := op3 _ _ _ _ _ _ _ _ h1
  refine ⟨⟨s0, s1⟩, ?_, ⟨r0, r1⟩⟩
  have e1 := parts_last (hl.trans cz55) (by rw [cz3]) c1
  have e0 := parts_cons c0 (m := 3) (by rw [cz53]) e1
  exact e0
def Is26 (w : World) (s : Slc) : Prop := ∃ l : List BeamV, s.n = l.length ∧ (rd s.a l.length 4 (l.map BeamV.cells)).holds w ∧ (∀ x ∈ l, Is55 w x) ∧ l.length ≤ maxLen ∧ s.n ≤ s.c
theorem op26 : OpR Try.prog 26 Slc (fun s => [Value.slice s.a s.n s.c]) Is26 := op_slice ut26 cz55 op55
structure Is28 (w : World) (s : LineV) : Prop where
  Track : Is24 w s.Track
  Fast : Is3 w s.Fast
  Clocks : Is25 w s.Clocks
  Beams : Is26 w s.Beams
  Finish : Is3 w s.Finish
  Fakes : Is3 w s.Fakes
  Misses : Is3 w s.Misses
theorem fx28 : fL Try.prog 28 = some [(24, 0), (3, 1), (25, 2), (26, 3), (3, 4), (3, 5), (3, 6)] := by kernel_rfl
theorem op28 : OpR Try.prog 28 LineV LineV.cells Is28 := fun {H} enc w base sp held fuel cs x h => by
  obtain ⟨hl, hp⟩ := op_parts fx28 h
  obtain ⟨n0, y0, h0⟩ := hp 0 24 0 rfl
  obtain ⟨s0, c0, r0⟩ := op24 _ _ _ _ _ _ _ _ h0
  obtain ⟨n1, y1, h1⟩ := hp 1 3 1 rfl
  obtain ⟨s1, c1, r1⟩ := op3 _ _ _ _ _ _ _ _ h1
  obtain ⟨n2, y2, h2⟩ := hp 2 25 2 rfl
  obtain ⟨s2, c2, r2⟩ := op25 _ _ _ _ _ _ _ _ h2
  obtain ⟨n3, y3, h3⟩ := hp 3 26 3 rfl
  obtain ⟨s3, c3, r3⟩ := op26 _ _ _ _ _ _ _ _ h3
  obtain ⟨n4, y4, h4⟩ := hp 4 3 4 rfl
  obtain ⟨s4, c4, r4⟩ := op3 _ _ _ _ _ _ _ _ h4
  obtain ⟨n5, y5, h5⟩ := hp 5 3 5 rfl
  obtain ⟨s5, c5, r5⟩ := op3 _ _ _ _ _ _ _ _ h5
  obtain ⟨n6, y6, h6⟩ := hp 6 3 6 rfl
  obtain ⟨s6, c6, r6⟩ := op3 _ _ _ _ _ _ _ _ h6
  refine ⟨⟨s0, s1, s2, s3, s4, s5, s6⟩, ?_, ⟨r0, r1, r2, r3, r4, r5, r6⟩⟩
  have e6 := parts_last (hl.trans cz28) (by rw [cz3]) c6
  have e5 := parts_cons c5 (m := 6) (by rw [cz3]) e6
  have e4 := parts_cons c4 (m := 5) (by rw [cz3]) e5
  have e3 := parts_cons c3 (m := 4) (by rw [cz26]) e4
  have e2 := parts_cons c2 (m := 3) (by rw [cz25]) e3
  have e1 := parts_cons c1 (m := 2) (by rw [cz3]) e2
  have e0 := parts_cons c0 (m := 1) (by rw [cz24]) e1
  exact e0
theorem cz69 : Try.prog.cellsOf 69 = 3 := by kernel_rfl
theorem cz67 : Try.prog.cellsOf 67 = 1 := by kernel_rfl
theorem cz30 : Try.prog.cellsOf 30 = 2 := by kernel_rfl
structure Is30 (w : World) (s : SignalV) : Prop where
  Beam : Is3 w s.Beam
  Read : Is3 w s.Read
theorem fx30 : fL Try.prog 30 = some [(3, 0), (3, 1)] := by kernel_rfl
theorem op30 : OpR Try.prog 30 SignalV SignalV.cells Is30 := fun {H} enc w base sp held fuel cs x h => by
  obtain ⟨hl, hp⟩ := op_parts fx30 h
  obtain ⟨n0, y0, h0⟩ := hp 0 3 0 rfl
  obtain ⟨s0, c0, r0⟩ := op3 _ _ _ _ _ _ _ _ h0
  obtain ⟨n1, y1, h1⟩ := hp 1 3 1 rfl
  obtain ⟨s1, c1, r1⟩ := op3 _ _ _ _ _ _ _ _ h1
  refine ⟨⟨s0, s1⟩, ?_, ⟨r0, r1⟩⟩
  have e1 := parts_last (hl.trans cz30) (by rw [cz3]) c1
  have e0 := parts_cons c0 (m := 1) (by rw [cz3]) e1
  exact e0
def Is67 (w : World) (s : Slc) : Prop := ∃ l : List SignalV, s.n = l.length ∧ (rd s.a l.length 2 (l.map SignalV.cells)).holds w ∧ (∀ x ∈ l, Is30 w x) ∧ l.length ≤ maxLen ∧ s.n ≤ s.c
theorem op67 : OpR Try.prog 67 Slc (fun s => [Value.slice s.a s.n s.c]) Is67 := op_slice ut67 cz30 op30
structure Is69 (w : World) (s : RideV) : Prop where
  Start : Is3 w s.Start
  Now : Is3 w s.Now
  Signals : Is67 w s.Signals
theorem fx69 : fL Try.prog 69 = some [(3, 0), (3, 1), (67, 2)] := by kernel_rfl
theorem op69 : OpR Try.prog 69 RideV RideV.cells Is69 := fun {H} enc w base sp held fuel cs x h => by
  obtain ⟨hl, hp⟩ := op_parts fx69 h
  obtain ⟨n0, y0, h0⟩ := hp 0 3 0 rfl
  obtain ⟨s0, c0, r0⟩ := op3 _ _ _ _ _ _ _ _ h0
  obtain ⟨n1, y1, h1⟩ := hp 1 3 1 rfl
  obtain ⟨s1, c1, r1⟩ := op3 _ _ _ _ _ _ _ _ h1
  obtain ⟨n2, y2, h2⟩ := hp 2 67 2 rfl
  obtain ⟨s2, c2, r2⟩ := op67 _ _ _ _ _ _ _ _ h2
  refine ⟨⟨s0, s1, s2⟩, ?_, ⟨r0, r1, r2⟩⟩
  have e2 := parts_last (hl.trans cz69) (by rw [cz67]) c2
  have e1 := parts_cons c1 (m := 2) (by rw [cz3]) e2
  have e0 := parts_cons c0 (m := 1) (by rw [cz3]) e1
  exact e0
theorem own_beamGoes : ownKnob Try.prog.godebug = none := by kernel_rfl
theorem laid_beamGoes : laidOutB Try.prog = true := by kernel_rfl
set_option maxRecDepth 100000 in
theorem beamGoes_lifted (os : Os) (started : os.Started) (H : Type) (enc : TypeId × Value → H) :
    ReturnsInHanded {} Try.checked os 7 .any (Rows.beamGoesSpec.pre6 enc Try.prog Try.f7 Rows.beamGoesRow.domain false) (Rows.beamGoesSpec.post enc Try.prog Try.f7 false true false false) := by
  refine returnsInHanded_of_change (C := Try.checked) own_beamGoes started (by kernel_rfl) Try.func7
    (ChangeSpec.witness6 (enc := enc) (C := Try.checked) false ⟨#[], #[.agg #[(Value.slice none 0 0), (Value.int .i64 0), (Value.slice none 0 0), (Value.slice none 0 0), (Value.int .i64 0), (Value.int .i64 0), (Value.int .i64 0)], .agg #[(Value.int .i64 0), (Value.int .i64 0), (Value.slice none 0 0)], Value.int .u16 0], []⟩ 8 (by kernel_rfl) (by kernel_rfl) (by kernel_rfl) (by kernel_rfl)) ?_
  intro W base args ds gs before hval0 hW hcnd _
  have hval : ∀ (j : Nat) t v, Try.f7.params[j]? = some t → args[j]? = some v → Value.okWide Try.prog W .any base t v := hval0
  have hW' := hW
  obtain ⟨p, q, hA0, hV, rfl, hfz, hnd⟩ := hW
  have hA : DataW.TrodAll enc Try.prog W 0 (fun _ => true) true Try.f7.params.toList args.toList ds p := hA0
  have hA1 := hA
  rw [Try.params7] at hA hval
  obtain ⟨v0, vs0, d0, ds0, p0, q0, hargs, rfl, rfl, h0, r0⟩ := trodAll_cons hA
  obtain ⟨v1, vs1, d1, ds1, p1, q1, rfl, rfl, rfl, h1, r1⟩ := trodAll_cons r0
  obtain ⟨v2, vs2, d2, ds2, p2, q2, rfl, rfl, rfl, h2, r2⟩ := trodAll_cons r1
  obtain ⟨rfl, rfl, rfl⟩ := trodAll_nil r2
  obtain rfl : args = #[v0, v1, v2] := by cases args; simp_all
  obtain ⟨rfl, rfl⟩ := trodVars_none hV
  obtain ⟨s0, rfl, R0⟩ := arg_struct fx28 op28 (hval 0 28 v0 rfl rfl) h0
  obtain ⟨s1, rfl, R1⟩ := arg_struct fx69 op69 (hval 1 69 v1 rfl rfl) h1
  obtain ⟨s2, rfl, R2⟩ := arg_int (k := .u16) ut70 (hval 2 70 v2 rfl rfl) h2
  simp only [List.append_nil] at hW' hA1
  obtain ⟨l, az, kA, kC, cA, cC, bA, bC, rfl, hraw, hl4, _⟩ := open_line (R1 := Is126) (R2 := Is64) (R3 := Is55) (R4 := Is61) R0.Track.Stretches (fun x hx => hx.Side) R0.Clocks (fun x hx => hx.Syncs) R0.Beams
  obtain ⟨r, gA, gC, rfl, hrr, hrd⟩ := open_ride (R := Is30) R1.Signals
  have hrun := (beamGoes_c l kA kC az cA cC bA bC r gA gC s2 hraw hrr R2).run W (by intro A hA; simp only [List.mem_cons, List.not_mem_nil, or_false] at hA; rcases hA with rfl | rfl | rfl | rfl | rfl; exact hl4.1; exact hl4.2.1; exact hl4.2.2.1; exact hl4.2.2.2; exact hrd)
  refine (hrun).mono fun e W' ⟨he, hk⟩ => ?_
  subst he
  exact ⟨_, rfl, law_post laid_beamGoes hW' hA1 rfl rfl (by kernel_rfl) hk.below (by kernel_rfl) ut4⟩
/-- the statement -/
theorem beamGoes_said : Rows.BeamGoesSaid :=
  OpenClaim.holds_of_wide 7 Try.f7 rfl rfl rfl rfl rfl rfl rfl ⟨rfl, rfl, rfl, rfl, rfl⟩ rfl rfl rfl rfl rfl (by kernel_rfl) Try.func7 (by kernel_rfl)
    (of_decide_eq_true (by kernel_rfl)) (by unfold Func.isWrapper; first | (rw [if_pos (by decide +kernel)]; kernel_rfl) | (rw [if_neg (by decide +kernel)]; exact ⟨rfl, rfl⟩))
    (fun os started H enc _ => beamGoes_lifted os started H enc)
#print axioms beamGoes_said
end
end Go.Proofs.Ytaehngpnlkokkaa
