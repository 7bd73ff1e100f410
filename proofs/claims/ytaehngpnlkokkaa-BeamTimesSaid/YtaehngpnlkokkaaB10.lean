/-
  Walks: kreisel/kreiselref05.Twin
-/
import Derived.Test.YtaehngpnlkokkaaTab
import Derived.Test.YtaehngpnlkokkaaShort
import Derived.Test.YtaehngpnlkokkaaTwin
import Derived.Test.YtaehngpnlkokkaaB1
namespace Go.Proofs.Ytaehngpnlkokkaa
open Go.RowKit
set_option linter.unusedVariables false

set_option maxRecDepth 100000 in
set_option maxHeartbeats 400000 in
theorem ltwin_c (l : LineM) (kA : Option Addr) (kC : Nat) (az : List RA) (cA : Option Addr) (cC : Nat) (bA : Option Addr) (bC : Nat) (hin : LineIn l az) (hng : ¬ GreatL l) :
    FnX Try.prog 12 [(Value.agg (LineV.cells (LineV.mk (TrackV.mk (Slc.mk kA l.Track.length kC)) l.Fast (Slc.mk cA l.Clocks.length cC) (Slc.mk bA l.Beams.length bC) l.Finish l.Fakes l.Misses)).toArray)] [(rd kA l.Track.length 9 (l.Track.map StretchV.cells)), (rd cA l.Clocks.length 2 (List.zipWith ClockM.cells l.Clocks az)), (bun (nest ClockM.rds l.Clocks az)), (rd bA l.Beams.length 4 (l.Beams.map BeamV.cells))] (fun (x : (Option Addr) × Nat × (Option Addr) × Nat × (List RA) × (Option Addr) × Nat) => (Value.agg (LineV.cells (LineV.mk (TrackV.mk (Slc.mk x.1 l.Track.length x.2.1)) l.Fast (Slc.mk x.2.2.1 l.Clocks.length x.2.2.2.1) (Slc.mk x.2.2.2.2.2.1 l.Beams.length x.2.2.2.2.2.2) l.Finish l.Fakes l.Misses)).toArray)) (fun (x : (Option Addr) × Nat × (Option Addr) × Nat × (List RA) × (Option Addr) × Nat) => x.2.2.2.2.1.length = l.Clocks.length ∧ CapOk l.Clocks x.2.2.2.2.1) (fun (x : (Option Addr) × Nat × (Option Addr) × Nat × (List RA) × (Option Addr) × Nat) => [(own x.1 x.2.1 126 9 (l.Track.map StretchV.cells)), (own x.2.2.1 x.2.2.2.1 64 2 (List.zipWith ClockM.cells l.Clocks x.2.2.2.2.1)), (bund (nest ClockM.owns l.Clocks x.2.2.2.2.1)), (own x.2.2.2.2.2.1 x.2.2.2.2.2.2 55 4 (l.Beams.map BeamV.cells))]) := by
 have htk := hin.trk
 have hck := hin.cks
 have has := hin.as_
 have hbm := hin.bms
 have hgr := small_of hng
 refine fnX_of go12 Try.func12 rfl rfl fun w0 Q hQ hN => ?_
 change WJ _ _ _ _ [(0, (Value.agg (LineV.cells (LineV.mk (TrackV.mk (Slc.mk kA l.Track.length kC)) l.Fast (Slc.mk cA l.Clocks.length cC) (Slc.mk bA l.Beams.length bC) l.Finish l.Fakes l.Misses)).toArray))] [(rd kA l.Track.length 9 (l.Track.map StretchV.cells)).ro, (rd cA l.Clocks.length 2 (List.zipWith ClockM.cells l.Clocks az)).ro, (bun (nest ClockM.rds l.Clocks az)).ro, (rd bA l.Beams.length 4 (l.Beams.map BeamV.cells)).ro]
 refine WS fun _ hK1 => ?_
 refine BXA rfl fun b2 => ?_
 refine AL rfl tz28 fun b3 => ?_
 refine RK hK1 ?_
 refine WS fun _ hK4 => ?_
 refine rS (FA 0 rfl fo28_0 rfl) ?_
 refine rS (LP (TrackV.cells (TrackV.mk (Slc.mk kA l.Track.length kC))) 1 rfl tk24 rfl rfl rfl) ?_
 refine cX (twin_c l.Track kA kC (by first | assumption | omega | (simp; done) | (simp; omega))) (ha_at 2 rfl rfl <| ha_nil) rfl fun y5 hy6 => ?_
 obtain ⟨a7, c8⟩ := y5
 change RJ _ _ _ _ _ ((_, (Value.agg (TrackV.cells (TrackV.mk (Slc.mk a7 l.Track.length c8))).toArray)) :: _) ((own a7 c8 126 9 (l.Track.map StretchV.cells)) :: _)
 refine rS (FA 0 rfl fo28_0 rfl) ?_
 refine ST2 (LineV.cells (LineV.mk (TrackV.mk (Slc.mk a7 l.Track.length c8)) l.Fast (Slc.mk cA l.Clocks.length cC) (Slc.mk bA l.Beams.length bC) l.Finish l.Fakes l.Misses)) rfl ts24 rfl rfl ?_
 refine RK hK4 ?_
 refine WS fun _ hK9 => ?_
 refine r_bs0 rfl te25 rfl fun b10 => ?_
 refine rS (FA 2 rfl fo28_2 rfl) ?_
 refine rS (L1 (Value.slice cA l.Clocks.length cC) 3 rfl tk25 rfl rfl) ?_
 refine r_blk_own (es := (List.map ClockV.cells [])) (C' := [own (some ⟨b10, 0, none⟩) 0 64 2 (List.map ClockV.cells []), _, _, _, _, _, _, _]) 0 rfl (by simp) rfl (by simp [maxLen]) rfl ?_
 refine r_append (es2 := (List.zipWith ClockM.cells l.Clocks az)) (m' := l.Clocks.length) 0 rfl rfl rfl ta25 rfl rfl (by simp) (has_at 5 rfl) (one_clocks _ _) (by first | omega | (simp; omega)) (by first | (simp only [maxLen]; omega) | (simp [maxLen]; omega)) (by simp) (zip_len has) rfl fun a11 c12 => ?_
 change RJ _ _ _ _ _ _ [(own a11 c12 64 2 (List.zipWith ClockM.cells l.Clocks az)), _, _, _, _, _, _, _]
 refine rS (FA 2 rfl fo28_2 rfl) ?_
 refine ST3 (LineV.cells (LineV.mk (TrackV.mk (Slc.mk a7 l.Track.length c8)) l.Fast (Slc.mk a11 l.Clocks.length c12) (Slc.mk bA l.Beams.length bC) l.Finish l.Fakes l.Misses)) rfl ts25 rfl rfl ?_
 refine RK hK9 ?_
 refine w_seq fun _ hK13 => ?_
 refine WS fun _ hK14 => ?_
 refine rS (AG rfl) ?_
 refine RK hK14 ?_
 refine w_block ?_
 refine w_tie0 ?_
 have hinit : (0 ≤ l.Clocks.length) ∧ (([] : List RA).length = 0) ∧ (CapOk l.Clocks ([] : List RA)) := by exact ⟨Nat.zero_le _, rfl, fun k m a _ h => by simp at h⟩
 refine w_loop (ι := { z : Nat × (List RA) // (z.1 ≤ l.Clocks.length) ∧ (z.2.length = z.1) ∧ (CapOk l.Clocks z.2) }) (fun z => [(1, (Value.pointer (some ⟨b2, 0, none⟩))), (2, (Value.pointer (some ⟨b3, 0, none⟩))), (3, (Value.int .i64 ((z.1.1 : Nat) : Int)))]) (fun z => [(bund (nest ClockM.owns (l.Clocks.take z.1.1) z.1.2)), (own a11 c12 64 2 (List.zipWith ClockM.cells l.Clocks (mixA z.1.2 az z.1.1))), (own a7 c8 126 9 (l.Track.map StretchV.cells)), (blk b3 28 (LineV.cells (LineV.mk (TrackV.mk (Slc.mk none 0 0)) 0 (Slc.mk none 0 0) (Slc.mk none 0 0) 0 0 0))), (blk b2 28 (LineV.cells (LineV.mk (TrackV.mk (Slc.mk a7 l.Track.length c8)) l.Fast (Slc.mk a11 l.Clocks.length c12) (Slc.mk bA l.Beams.length bC) l.Finish l.Fakes l.Misses))), (rd kA l.Track.length 9 (l.Track.map StretchV.cells)).ro, (rd cA l.Clocks.length 2 (List.zipWith ClockM.cells l.Clocks az)).ro, (bun (nest ClockM.rds l.Clocks az)).ro, (rd bA l.Beams.length 4 (l.Beams.map BeamV.cells)).ro]) (fun z => l.Clocks.length - z.1.1) ⟨(0, ([] : List RA)), hinit⟩ (Sub.cons rfl <| Sub.cons rfl <| Sub.cons rfl <| Sub.nil _) (fun w hs => St.sel [0, 1, 2, 3, 4, 5, 6, 7, 8] rfl rfl hs) ?_
 clear hinit
 rintro ⟨⟨i, bz⟩, ⟨hl4_0, hl4_1, hl4_2⟩⟩ J15 hJ15
 try dsimp only at hl4_0 hl4_1 hl4_2
 change WJ _ _ _ _ [(1, (Value.pointer (some ⟨b2, 0, none⟩))), (2, (Value.pointer (some ⟨b3, 0, none⟩))), (3, (Value.int .i64 ((i : Nat) : Int)))] [(bund (nest ClockM.owns (l.Clocks.take i) bz)), (own a11 c12 64 2 (List.zipWith ClockM.cells l.Clocks (mixA bz az i))), (own a7 c8 126 9 (l.Track.map StretchV.cells)), (blk b3 28 (LineV.cells (LineV.mk (TrackV.mk (Slc.mk none 0 0)) 0 (Slc.mk none 0 0) (Slc.mk none 0 0) 0 0 0))), (blk b2 28 (LineV.cells (LineV.mk (TrackV.mk (Slc.mk a7 l.Track.length c8)) l.Fast (Slc.mk a11 l.Clocks.length c12) (Slc.mk bA l.Beams.length bC) l.Finish l.Fakes l.Misses))), (rd kA l.Track.length 9 (l.Track.map StretchV.cells)).ro, (rd cA l.Clocks.length 2 (List.zipWith ClockM.cells l.Clocks az)).ro, (bun (nest ClockM.rds l.Clocks az)).ro, (rd bA l.Beams.length 4 (l.Beams.map BeamV.cells)).ro]
 refine w_seq fun _ hK16 => ?_
 refine WS fun _ hK17 => ?_
 refine rS (MV rfl) ?_
 refine rS (FA 2 rfl fo28_2 rfl) ?_
 refine rS (L1 (Value.slice a11 l.Clocks.length c12) 4 rfl tk25 rfl rfl) ?_
 refine rS (LN rfl ut25) ?_
 refine rS (BI rfl b_lss) ?_
 refine RK hK17 ?_
 refine w_if rfl (fun h18 => ?_) (fun h18 => ?_)
 rotate_left 1
 · replace h18 := DF h18
   refine w_exit ?_
   refine k_exit_then ?_
   refine k_exit_then ?_
   refine k_exit_same ?_
   refine KK hK13 ?_
   refine WS fun _ hK27 => ?_
   refine r_bs0 rfl te26 rfl fun b28 => ?_
   rw [show mixA bz az i = bz from mixA_all (by omega)]
   rw [show l.Clocks.take i = l.Clocks from List.take_of_length_le (by omega)]
   refine rS (FA 3 rfl fo28_3 rfl) ?_
   refine rS (L1 (Value.slice bA l.Beams.length bC) 5 rfl tk26 rfl rfl) ?_
   refine r_blk_own (es := (List.map BeamV.cells [])) (C' := [own (some ⟨b28, 0, none⟩) 0 55 4 (List.map BeamV.cells []), _, _, _, _, _, _, _, _, _]) 0 rfl (by simp) rfl (by simp [maxLen]) rfl ?_
   refine r_append (es2 := (List.map BeamV.cells l.Beams)) (m' := l.Beams.length) 0 rfl rfl rfl ta26 rfl rfl (by simp) (has_at 9 rfl) (one_BeamV_cells _) (by first | omega | (simp; omega)) (by first | (simp only [maxLen]; omega) | (simp [maxLen]; omega)) (by simp) (by simp) rfl fun a29 c30 => ?_
   change RJ _ _ _ _ _ _ [(own a29 c30 55 4 (List.map BeamV.cells l.Beams)), _, _, _, _, _, _, _, _, _]
   refine rS (FA 3 rfl fo28_3 rfl) ?_
   refine ST5 (LineV.cells (LineV.mk (TrackV.mk (Slc.mk a7 l.Track.length c8)) l.Fast (Slc.mk a11 l.Clocks.length c12) (Slc.mk a29 l.Beams.length c30) l.Finish l.Fakes l.Misses)) rfl ts26 rfl rfl ?_
   refine RK hK27 ?_
   refine WS fun _ hK31 => ?_
   refine rS (LW 5 rfl tk28 rfl rfl) ?_
   refine SW4 rfl ts28 rfl ?_
   refine RK hK31 ?_
   refine w_ret ?_
   refine hQ _ _ _ (l_nil (vs := [(Value.agg (LineV.cells (LineV.mk (TrackV.mk (Slc.mk a7 l.Track.length c8)) l.Fast (Slc.mk a11 l.Clocks.length c12) (Slc.mk a29 l.Beams.length c30) l.Finish l.Fakes l.Misses)).toArray)]) ⟨⟨_, rfl, .inl ⟨_, _, tk28, at_blk (vs := (LineV.cells (LineV.mk (TrackV.mk (Slc.mk a7 l.Track.length c8)) l.Fast (Slc.mk a11 l.Clocks.length c12) (Slc.mk a29 l.Beams.length c30) l.Finish l.Fakes l.Misses))) 4 rfl rfl, rfl, rfl⟩⟩, trivial⟩ fun w hs => endX (a7, c8, a11, c12, bz, a29, c30) [3, 2, 1, 0] ?_ ?_ rfl rfl (by simp only [List.all_cons, List.all_nil, bund_owns_wr, Bool.and_true]; rfl) hs)
   · rfl
   · exact ⟨by dsimp only; omega, hl4_2⟩
 replace h18 := DT h18
 refine WK hK16 ?_
 refine w_seq fun _ hK19 => ?_
 refine w_block ?_
 refine w_draw4 mixed [0, 1, 2, 4, 5, 6, 7, 8, 9, 11, 12] [3, 10, 13] [false, false, false, false, false, false, true, true, true, true, true] [true, true, false] [(bund (nest ClockM.owns (l.Clocks.take i) bz)), (own a7 c8 126 9 (l.Track.map StretchV.cells)), (blk b3 28 (LineV.cells (LineV.mk (TrackV.mk (Slc.mk none 0 0)) 0 (Slc.mk none 0 0) (Slc.mk none 0 0) 0 0 0))), (blk b2 28 (LineV.cells (LineV.mk (TrackV.mk (Slc.mk a7 l.Track.length c8)) l.Fast (Slc.mk a11 l.Clocks.length c12) (Slc.mk bA l.Beams.length bC) l.Finish l.Fakes l.Misses))), (rd kA l.Track.length 9 (l.Track.map StretchV.cells)).ro, (rd cA l.Clocks.length 2 (List.zipWith ClockM.cells l.Clocks az)).ro, (bun (nest ClockM.rds l.Clocks az)).ro, (rd bA l.Beams.length 4 (l.Beams.map BeamV.cells)).ro] [(bund (nest ClockM.owns (l.Clocks.take i) bz)), (own a11 c12 64 2 (List.zipWith ClockM.cells l.Clocks (mixA bz az i))), (own a7 c8 126 9 (l.Track.map StretchV.cells)), (blk b3 28 (LineV.cells (LineV.mk (TrackV.mk (Slc.mk none 0 0)) 0 (Slc.mk none 0 0) (Slc.mk none 0 0) 0 0 0))), (blk b2 28 (LineV.cells (LineV.mk (TrackV.mk (Slc.mk a7 l.Track.length c8)) l.Fast (Slc.mk a11 l.Clocks.length c12) (Slc.mk bA l.Beams.length bC) l.Finish l.Fakes l.Misses))), (rd kA l.Track.length 9 (l.Track.map StretchV.cells)).ro, (rd cA l.Clocks.length 2 (List.zipWith ClockM.cells l.Clocks az)).ro, (bun (nest ClockM.rds l.Clocks az)).ro, (rd bA l.Beams.length 4 (l.Beams.map BeamV.cells)).ro] (by kernel_rfl) (fun w hs => St.sel [0, 2, 3, 4, 5, 6, 7, 8] rfl rfl hs) (fun w hs => St.sel [0, 1, 2, 3, 4, 5, 6, 7, 8] rfl rfl hs) ?_
 refine eS rfl (FA 2 rfl fo28_2 rfl) ?_
 refine eS rfl (L1 (Value.slice a11 l.Clocks.length c12) 3 rfl tk25 rfl rfl) ?_
 refine eS rfl (MV rfl) ?_
 refine eS rfl (FA 2 rfl fo28_2 rfl) ?_
 refine eS rfl (L1 (Value.slice a11 l.Clocks.length c12) 3 rfl tk25 rfl rfl) ?_
 refine eS rfl (MV rfl) ?_
 obtain ⟨x, hx⟩ : ∃ y_, l.Clocks[i]? = some y_ := ⟨l.Clocks[i]'(by omega), List.getElem?_eq_getElem _⟩
 obtain ⟨xa, hxa⟩ : ∃ y_, az[i]? = some y_ := ⟨az[i]'(by omega), List.getElem?_eq_getElem _⟩
 have hxm : (List.zipWith ClockM.cells l.Clocks (mixA bz az i))[i]? = some (ClockM.cells x xa) := zip_get hx (mixA_at hl4_1 hxa)
 refine fS rfl (IA i rfl (has_own_n (n := l.Clocks.length) 1 rfl (zip_len (by rw [mixA_len hl4_1 (by omega)]; exact has))) te25 (by decide) (by omega) (by omega)) ?_
 refine fS rfl (FAR ((i * 2) + 1) rfl (has_own_n (n := l.Clocks.length) 1 rfl (zip_len (by rw [mixA_len hl4_1 (by omega)]; exact has))) (Nat.mul_pos (by omega) (by decide)) fo64_1 rfl) ?_
 refine fS rfl (LE1 i 1 (Value.slice xa.1 x.Syncs.length xa.2) rfl tk62 (has_own_n (n := l.Clocks.length) 1 rfl (zip_len (by rw [mixA_len hl4_1 (by omega)]; exact has))) hxm rfl (by decide) rfl) ?_
 refine fS rfl (IA i rfl (has_own_n (n := l.Clocks.length) 1 rfl (zip_len (by rw [mixA_len hl4_1 (by omega)]; exact has))) te25 (by decide) (by omega) (by omega)) ?_
 refine fS rfl (FAR ((i * 2) + 1) rfl (has_own_n (n := l.Clocks.length) 1 rfl (zip_len (by rw [mixA_len hl4_1 (by omega)]; exact has))) (Nat.mul_pos (by omega) (by decide)) fo64_1 rfl) ?_
 refine d_fin rfl ?_
 refine t5_cons rfl fun T20 hT20 => ?_
 refine r_bs0 rfl te62 rfl fun b21 => ?_
 refine r_nil (hT20 _ _ (fun w hs => St.sel [1, 3, 4, 5, 6, 7, 8, 9] rfl rfl hs) (fun w hs => St.sel [1, 2, 3, 4, 5, 6, 7, 8, 9] rfl rfl hs) ?_)
 refine t5_cons rfl fun T22 hT22 => ?_
 refine r_blk_own (es := (List.map SyncV.cells [])) (C' := [own (some ⟨b21, 0, none⟩) 0 61 3 (List.map SyncV.cells []), _, _, _, _, _, _, _, _, _]) 0 rfl (by simp) rfl (by simp [maxLen]) rfl ?_
 refine r_append (es2 := (List.map SyncV.cells x.Syncs)) (m' := x.Syncs.length) 0 rfl rfl rfl ta62 rfl rfl (by simp) (show Has _ (rd xa.1 x.Syncs.length 3 (x.Syncs.map SyncV.cells)).holds from (has_inr 8 rfl (mem_nest hx hxa (by simp [ClockM.rds])))) (one_SyncV_cells _) (by have := hgr.2.2.2 x (List.mem_of_getElem? hx); simp; omega) (by have := hgr.2.2.2 x (List.mem_of_getElem? hx); simp only [maxLen]; simp; omega) (by simp) (by simp) rfl fun a23 c24 => ?_
 change RJ _ _ _ _ _ _ [(own a23 c24 61 3 (List.map SyncV.cells x.Syncs)), _, _, _, _, _, _, _, _, _]
 refine r_cap 0 rfl fun hcp => ?_
 refine r_nil (hT22 _ _ (fun w hs => St.sel [1, 3, 4, 5, 6, 7, 8, 9] rfl rfl hs) (fun w hs => St.sel [1, 2, 3, 4, 5, 6, 7, 8, 9] rfl rfl hs) ?_)
 refine t_cons rfl fun T25 hT25 => ?_
 refine r_store_own (k := i) (o := 1) (vs := [(Value.slice a23 x.Syncs.length c24)]) (es' := (List.zipWith ClockM.cells l.Clocks (mixA (bz ++ [(a23, c24)]) az (i + 1)))) (C' := [_, _, (own a11 c12 64 2 (List.zipWith ClockM.cells l.Clocks (mixA (bz ++ [(a23, c24)]) az (i + 1)))), _, _, _, _, _, _, _]) 2 rfl rfl rfl ts62 rfl rfl rfl rfl hxm rfl (by decide) (by exact zip_set (nw := (a23, c24)) hx hl4_1 hxa) rfl ?_
 refine r_nil (hT25 _ _ (fun w hs => St.sel [1, 3, 4, 5, 6, 7, 8, 9] rfl rfl hs) ?_)
 refine t_fin rfl ?_
 refine k_block ?_
 refine KK hK19 ?_
 refine w_region ?_
 refine rS (MV rfl) ?_
 refine rS (BI rfl (b_add ⟨by omega, by omega⟩)) ?_
 refine rS (AG rfl) ?_
 refine r_nil ?_
 refine k_tie (X' := nest ClockM.owns (l.Clocks.take (i + 1)) (bz ++ [(a23, c24)])) 1 0 rfl rfl (nest_succ (nw := (a23, c24)) hx hl4_1) ?_
 have hb26 : (Value.int .i64 (((i + 1) : Nat) : Int)) = (Value.int .i64 (((i : Nat) : Int) + 1)) := by exact congrArg (Value.int .i64) (by omega)
 refine k_then (hJ15 ⟨((i + 1), (bz ++ [(a23, c24)])), ⟨by omega, by simp; omega, cap_succ hl4_2 hl4_1 hx (by simpa using hcp)⟩⟩ _ _ _ rfl (by first | omega | (simp; omega)) (Sub.cons rfl <| Sub.cons rfl <| sub_val rfl hb26 <| Sub.nil _) (fun w hs => St.sel [0, 1, 2, 3, 4, 5, 6, 7, 8] rfl rfl hs))

end Go.Proofs.Ytaehngpnlkokkaa
