/-
  The statement postGuards_said, part 4 of 5: M3, P9, Best, P10, P11, Upto, G1, ExP, Idx, Ren, G3, PTimes, Bools, Fix, MeetsB, G7, G11, FewL, GuardB, G9, G8, G10.
  Conditions: none.
-/
import Derived.Test.YtlncplfcbmcjgaaGreatGd1
import Derived.Test.YtlncplfcbmcjgaaGreatGd2
import Derived.Test.YtlncplfcbmcjgaaGreatGd3
namespace Go.Proofs.YtlncplfcbmcjgaaGreat
section
open Go.RowKit
set_option linter.unusedVariables false
set_option maxRecDepth 100000 in
set_option maxHeartbeats 400000 in
theorem wlacks_c (d : GuardM) (kA : Option Addr) (kC : Nat) (pA : Option Addr) (pC : Nat) (nA : Option Addr) (nC : Nat) (tz : List RA) (tA : Option Addr) (tC : Nat) (gw : Nat) (s : Nat) (hin : GuardIn d) (htr : trackOk d.Track = true) (hok : GuardOk d) (htz : tz.length = d.Posts.length) (hsb : s < 256) :
    FnX Tryz.prog 19 [(Value.pointer (some ⟨gw, 0, none⟩)), (Value.int .i64 ((s : Nat) : Int))] [(rd kA d.Track.length 9 (d.Track.map StretchV.cells)), (rd pA d.Posts.length 7 (d.Posts.map PostV.cells)), (rd nA d.Needs.length 3 (d.Needs.map NeedV.cells)), (rd tA ((timesL d).length) 1 (List.zipWith rowC (timesL d) tz)), (bun (nest rowR (timesL d) tz)), (blk gw 73 (WatchV.cells (WatchV.mk (GuardV.mk (TrackV.mk (Slc.mk kA d.Track.length kC)) (Slc.mk pA d.Posts.length pC) (Slc.mk nA d.Needs.length nC) d.Tower d.Radio) (Slc.mk tA ((timesL d).length) tC))))] (fun (x : (Option Addr) × Nat) => (Value.slice x.1 ((lacksL d (bitS s)).length) x.2)) (fun (x : (Option Addr) × Nat) => True) (fun (x : (Option Addr) × Nat) => [(own x.1 x.2 3 1 ((lacksL d (bitS s)).map iC))]) := by
 have hlen := hin.trk
 have hside := hin.side
 have hpl := hin.pst
 have hnl := hin.nds
 have hnk := hin.nk
 have hpk := hin.pk
 have hn8 := hok.len
 refine fnX_of go19 Tryz.func19 rfl rfl fun w0 Q hQ hN => ?_
 try dsimp only
 refine WS fun _ hK1 => rS (AG rfl) <| RK hK1 <| w_scope rfl <| WS fun _ hK2 => rS (MV rfl) <| rS (MV rfl) <| cX (wcalled_c d kA kC pA pC nA nC tA ((timesL d).length) tC gw s hin htr hok hsb) (ha_at 0 rfl rfl <| ha_at 1 rfl rfl <| ha_at 2 rfl rfl <| ha_at 5 rfl rfl <| ha_nil) rfl fun y3 hy4 => ?_
 obtain ⟨a5, c6⟩ := y3
 try dsimp only
 refine rS (AG rfl) <| RK hK2 <| WS fun _ hK7 => rS (AG rfl) <| RK hK7 <| w_seq fun _ hK8 => w_label <| KK hK8 <| w_seq fun _ hK9 => WS fun _ hK10 => ?_
 refine rS (MV rfl) <| rS (SX (sd_nil_p rfl rfl) rfl rfl) <| rS (FA 0 rfl fo73_0 rfl) <| rS (FA 2 rfl fo32_2 rfl) <| rS (L1R (Value.slice nA d.Needs.length nC) 6 rfl tk26 rfl rfl) <| rS (LN rfl ut26) <| rS (MV rfl) <| RK hK10 <| w_block <| w_own_nil 3 1 ?_
 have hinit : (0 ≤ d.Needs.length) := by exact Nat.zero_le _
 refine w_loop (ι := { z : Nat × (Option Addr) × Nat // (z.1 ≤ d.Needs.length) }) (fun z => [(0, (Value.pointer (some ⟨gw, 0, none⟩))), (1, (Value.int .i64 ((s : Nat) : Int))), (5, (Value.slice a5 ((calledL d (bitS s)).length) c6)), (6, (Value.slice z.1.2.1 ((idxL z.1.1 (LackP d (bitS s))).length) z.1.2.2)), (16, (Value.slice nA d.Needs.length nC)), (17, (Value.int .i64 ((d.Needs.length : Nat) : Int))), (18, (Value.int .i64 ((z.1.1 : Nat) : Int)))]) (fun z => [(own z.1.2.1 z.1.2.2 3 1 ((idxL z.1.1 (LackP d (bitS s))).map iC)), (own a5 c6 3 1 ((calledL d (bitS s)).map iC)), (rd kA d.Track.length 9 (d.Track.map StretchV.cells)).ro, (rd pA d.Posts.length 7 (d.Posts.map PostV.cells)).ro, (rd nA d.Needs.length 3 (d.Needs.map NeedV.cells)).ro, (rd tA ((timesL d).length) 1 (List.zipWith rowC (timesL d) tz)).ro, (bun (nest rowR (timesL d) tz)).ro, (blk gw 73 (WatchV.cells (WatchV.mk (GuardV.mk (TrackV.mk (Slc.mk kA d.Track.length kC)) (Slc.mk pA d.Posts.length pC) (Slc.mk nA d.Needs.length nC) d.Tower d.Radio) (Slc.mk tA ((timesL d).length) tC)))).ro]) (fun z => d.Needs.length - z.1.1) ⟨(0, none, 0), hinit⟩ (Sub.cons rfl <| Sub.cons rfl <| Sub.cons rfl <| Sub.cons rfl <| Sub.cons rfl <| Sub.cons rfl <| Sub.cons rfl <| Sub.nil _) (fun w hs => St.sel [0, 1, 2, 3, 4, 5, 6, 7] rfl rfl hs) ?_
 clear hinit
 rintro ⟨⟨j, la, lc⟩, hl4_0⟩ J11 hJ11
 try dsimp only at hl4_0
 try dsimp only
 refine WS fun _ hK12 => rS (BI rfl b_lss) <| RK hK12 <| w_seq fun _ hK13 => ?_
 refine w_if rfl (fun h14 => ?_) (fun h14 => ?_)
 rotate_left 1
 · replace h14 := DF h14
   refine w_exit <| k_exit_then <| k_exit_then <| k_exit_same <| KK hK9 <| WS fun _ hK29 => ?_
   rw [show idxL j (LackP d (bitS s)) = lacksL d (bitS s) from by unfold lacksL; rw [show j = d.Needs.length by omega]]
   refine rS (MV rfl) <| rS (AG rfl) <| RK hK29 <| w_ret ?_
   refine hQ _ _ _ (l_nil (vs := [(Value.slice la ((lacksL d (bitS s)).length) lc)]) ⟨rfl, trivial⟩ fun w hs => endX (la, lc) [0] ?_ ?_ rfl rfl rfl hs)
   · rfl
   · trivial
 replace h14 := DT h14
 refine WK hK13 <| w_seq fun _ hK15 => w_block <| WS fun _ hK16 => rS (MV rfl) ?_
 obtain ⟨n, hn⟩ : ∃ y_, d.Needs[j]? = some y_ := ⟨d.Needs[j]'(by omega), List.getElem?_eq_getElem _⟩
 have hnm : (d.Needs.map NeedV.cells)[j]? = some (NeedV.cells n) := by rw [List.getElem?_map, hn]; rfl
 refine rS (IA j rfl (has_at 4 rfl) te26 (by decide) (by omega) (by omega)) <| rS (LEN j 0 (NeedV.cells n) rfl tk69 (has_at 4 rfl) hnm rfl (by decide) rfl rfl) <| AL rfl tz69 fun b17 => rS (AG rfl) <| SW0 rfl ts69 rfl <| RK hK16 <| w_seq fun _ hK18 => WS fun _ hK19 => ?_
 have hno := hok.need n (List.mem_of_getElem? hn)
 refine rS (MV rfl) <| rS (LW 0 rfl tk69 rfl rfl) <| rS (MV rfl) <| cX (wmeets_c d kA kC pA pC nA nC tz tA tC gw n (calledL d (bitS s)) a5 c6 hin htr hok htz (by exact hno) (by exact called_mem) (by exact Nat.le_trans called_len (by omega))) (ha_at 3 rfl rfl <| ha_at 4 rfl rfl <| ha_at 5 rfl rfl <| ha_at 6 rfl rfl <| ha_at 7 rfl rfl <| ha_at 8 rfl rfl <| ha_cons (has_own_n (n := (calledL d (bitS s)).length) 2 rfl (by simp)) <| ha_nil) rfl fun y20 hy21 => ?_
 obtain ⟨a22, c23⟩ := y20
 try dsimp only
 rw [meets_filter]
 refine rS (LN rfl ut33) <| rS (BI rfl b_gtr) <| RK hK19 ?_
 refine w_if rfl (fun hg28 => ?_) (fun hg28 => ?_)
 · replace hg28 := DT hg28
   refine w_exit <| k_exit_then <| k_exit_same <| KK hK15 <| w_region <| rS (BI rfl (b_add ⟨by omega, by omega⟩)) <| rS (MV rfl) <| r_nil ?_
   rw [show (idxL j (LackP d (bitS s))) = (idxL (j + 1) (LackP d (bitS s))) from (idxL_no (fun q => by obtain ⟨n2, hn2, h2⟩ := q; rw [hn] at hn2; cases hn2; rw [h2] at hg28; simp at hg28)).symm]
   have hb24 : (Value.int .i64 (((j + 1) : Nat) : Int)) = (Value.int .i64 (((j : Nat) : Int) + 1)) := by exact congrArg (Value.int .i64) (by omega)
   refine k_then (hJ11 ⟨((j + 1), la, lc), (by first | omega | (simp only []; omega))⟩ _ _ _ rfl (by first | omega | (simp; omega)) (Sub.cons rfl <| Sub.cons rfl <| Sub.cons rfl <| Sub.cons rfl <| Sub.cons rfl <| Sub.cons rfl <| sub_val rfl hb24 <| Sub.nil _) (fun w hs => St.sel [2, 3, 4, 5, 6, 7, 8, 9] rfl rfl hs))
 replace hg28 := DF hg28
 refine WK hK18 <| w_region <| rS (MV rfl) <| rS (MV rfl) <| r_bs (xs := [.tmp 30]) (cs := [(Value.int .i64 ((j : Nat) : Int))]) rfl te33 tz3 rfl rfl rfl rfl (by simp [Value.cells]) rfl rfl fun b25 => r_append (es2 := (List.map iC (idxL (j + 1) (LackP d (bitS s))))) (m' := (idxL (j + 1) (LackP d (bitS s))).length) 3 rfl rfl rfl ta33 rfl rfl (by simp) (has_rd_blk (es := List.map iC [((j : Nat) : Int)]) 0 rfl rfl (by simp [iC_length]) rfl) (one_iC _) (by have := idxL_len (n := j) (p := LackP d (bitS s)); omega) (by have := idxL_len (n := j) (p := LackP d (bitS s)); simp only [maxLen]; omega) (by rw [idxL_yes (p := LackP d (bitS s)) ⟨n, hn, List.eq_nil_of_length_eq_zero (by omega)⟩]; simp) (by simp) rfl fun a26 c27 => ?_
 try dsimp only
 refine rS (AG rfl) <| r_nil <| k_block <| KK hK15 <| w_region <| rS (BI rfl (b_add ⟨by omega, by omega⟩)) <| rS (MV rfl) <| r_nil ?_
 have hb28 : (Value.int .i64 (((j + 1) : Nat) : Int)) = (Value.int .i64 (((j : Nat) : Int) + 1)) := by exact congrArg (Value.int .i64) (by omega)
 refine k_then (hJ11 ⟨((j + 1), a26, c27), (by first | omega | (simp only []; omega))⟩ _ _ _ rfl (by first | omega | (simp; omega)) (Sub.cons rfl <| Sub.cons rfl <| Sub.cons rfl <| Sub.cons rfl <| Sub.cons rfl <| Sub.cons rfl <| sub_val rfl hb28 <| Sub.nil _) (fun w hs => St.sel [3, 4, 5, 6, 7, 8, 9, 10] rfl rfl hs))
set_option maxRecDepth 100000 in
set_option maxHeartbeats 400000 in
theorem wweak_c (d : GuardM) (kA : Option Addr) (kC : Nat) (pA : Option Addr) (pC : Nat) (nA : Option Addr) (nC : Nat) (tz : List RA) (tA : Option Addr) (tC : Nat) (gw : Nat) (s : Nat) (hin : GuardIn d) (htr : trackOk d.Track = true) (hok : GuardOk d) (htz : tz.length = d.Posts.length) (hsb : s < 256) :
    FnX Tryz.prog 26 [(Value.pointer (some ⟨gw, 0, none⟩)), (Value.int .i64 ((s : Nat) : Int))] [(rd kA d.Track.length 9 (d.Track.map StretchV.cells)), (rd pA d.Posts.length 7 (d.Posts.map PostV.cells)), (rd nA d.Needs.length 3 (d.Needs.map NeedV.cells)), (rd tA ((timesL d).length) 1 (List.zipWith rowC (timesL d) tz)), (bun (nest rowR (timesL d) tz)), (blk gw 73 (WatchV.cells (WatchV.mk (GuardV.mk (TrackV.mk (Slc.mk kA d.Track.length kC)) (Slc.mk pA d.Posts.length pC) (Slc.mk nA d.Needs.length nC) d.Tower d.Radio) (Slc.mk tA ((timesL d).length) tC))))] (fun (x : (Option Addr) × Nat) => (Value.slice x.1 ((weakL d (bitS s)).length) x.2)) (fun (x : (Option Addr) × Nat) => True) (fun (x : (Option Addr) × Nat) => [(own x.1 x.2 3 1 ((weakL d (bitS s)).map iC))]) := by
 have hlen := hin.trk
 have hside := hin.side
 have hpl := hin.pst
 have hnl := hin.nds
 have hnk := hin.nk
 have hpk := hin.pk
 have hn8 := hok.len
 refine fnX_of go26 Tryz.func26 rfl rfl fun w0 Q hQ hN => ?_
 try dsimp only
 refine WS fun _ hK1 => rS (AG rfl) <| RK hK1 <| WS fun _ hK2 => rS (AG rfl) <| RK hK2 <| w_seq fun _ hK3 => WS fun _ hK4 => rS (MV rfl) <| rS (SX (sd_nil_p rfl rfl) rfl rfl) ?_
 refine rS (FA 0 rfl fo73_0 rfl) <| rS (FA 1 rfl fo32_1 rfl) <| rS (L1R (Value.slice pA d.Posts.length pC) 5 rfl tk25 rfl rfl) <| rS (LN rfl ut25) <| rS (MV rfl) <| RK hK4 <| w_block <| w_own_nil 3 1 ?_
 have hinit : (0 ≤ d.Posts.length) := by exact Nat.zero_le _
 refine w_loop (ι := { z : Nat × (Option Addr) × Nat // (z.1 ≤ d.Posts.length) }) (fun z => [(0, (Value.pointer (some ⟨gw, 0, none⟩))), (1, (Value.int .i64 ((s : Nat) : Int))), (5, (Value.slice z.1.2.1 ((idxL z.1.1 (fun i => bitS s i ∧ lacksL d (less1 (bitS s) i) ≠ [])).length) z.1.2.2)), (11, (Value.slice pA d.Posts.length pC)), (12, (Value.int .i64 ((d.Posts.length : Nat) : Int))), (13, (Value.int .i64 ((z.1.1 : Nat) : Int)))]) (fun z => [(own z.1.2.1 z.1.2.2 3 1 ((idxL z.1.1 (fun i => bitS s i ∧ lacksL d (less1 (bitS s) i) ≠ [])).map iC)), (rd kA d.Track.length 9 (d.Track.map StretchV.cells)).ro, (rd pA d.Posts.length 7 (d.Posts.map PostV.cells)).ro, (rd nA d.Needs.length 3 (d.Needs.map NeedV.cells)).ro, (rd tA ((timesL d).length) 1 (List.zipWith rowC (timesL d) tz)).ro, (bun (nest rowR (timesL d) tz)).ro, (blk gw 73 (WatchV.cells (WatchV.mk (GuardV.mk (TrackV.mk (Slc.mk kA d.Track.length kC)) (Slc.mk pA d.Posts.length pC) (Slc.mk nA d.Needs.length nC) d.Tower d.Radio) (Slc.mk tA ((timesL d).length) tC)))).ro]) (fun z => d.Posts.length - z.1.1) ⟨(0, none, 0), hinit⟩ (Sub.cons rfl <| Sub.cons rfl <| Sub.cons rfl <| Sub.cons rfl <| Sub.cons rfl <| Sub.cons rfl <| Sub.nil _) (fun w hs => St.sel [0, 1, 2, 3, 4, 5, 6] rfl rfl hs) ?_
 clear hinit
 rintro ⟨⟨j, la, lc⟩, hl3_0⟩ J5 hJ5
 try dsimp only at hl3_0
 try dsimp only
 refine WS fun _ hK6 => rS (BI rfl b_lss) <| RK hK6 <| w_seq fun _ hK7 => ?_
 refine w_if rfl (fun h8 => ?_) (fun h8 => ?_)
 rotate_left 1
 · replace h8 := DF h8
   refine w_exit <| k_exit_then <| k_exit_then <| k_exit_same <| KK hK3 <| WS fun _ hK22 => ?_
   rw [show idxL j (fun i => bitS s i ∧ lacksL d (less1 (bitS s) i) ≠ []) = weakL d (bitS s) from by unfold weakL; rw [show j = d.Posts.length by omega]]
   refine rS (MV rfl) <| rS (AG rfl) <| RK hK22 <| w_ret ?_
   refine hQ _ _ _ (l_nil (vs := [(Value.slice la ((weakL d (bitS s)).length) lc)]) ⟨rfl, trivial⟩ fun w hs => endX (la, lc) [0] ?_ ?_ rfl rfl rfl hs)
   · rfl
   · trivial
 replace h8 := DT h8
 refine WK hK7 <| w_seq fun _ hK9 => w_block <| WS fun _ hK10 => rS (MV rfl) <| rS (AG rfl) <| RK hK10 <| WS fun _ hK11 => rS (MV rfl) <| rS (MV rfl) ?_
 refine rS (BI rfl (b_shrN (i := j) (by omega) (by omega))) <| rS (BI rfl (b_and1 (m := (s / 2 ^ j)) (by omega) (Nat.lt_of_le_of_lt (Nat.div_le_self _ _) (by omega)))) <| rS (BI rfl b_eql) <| rS (MV rfl) ?_
 refine r_bool (t := 21) rfl (fun hg21 => ?_) (fun hg21 => ?_)
 rotate_left 1
 · replace hg21 := DF hg21
   refine rS (OX rfl) <| rS (OX rfl) <| rS (OX rfl) <| rS (OX rfl) <| rS (OX rfl) <| rS (OX rfl) <| rS (OX rfl) <| rS (OX rfl) <| rS (PK rfl) <| RK hK11 ?_
   refine w_if_false rfl <| w_skip <| k_block <| KK hK9 <| w_region <| rS (BI rfl (b_add ⟨by omega, by omega⟩)) <| rS (MV rfl) <| r_nil ?_
   rw [show (idxL j (fun i => bitS s i ∧ lacksL d (less1 (bitS s) i) ≠ [])) = (idxL (j + 1) (fun i => bitS s i ∧ lacksL d (less1 (bitS s) i) ≠ [])) from (idxL_no (show ¬ (bitS s j ∧ lacksL d (less1 (bitS s) j) ≠ []) from fun q => by first | exact hg21 (bit_iff.2 q.1) | exact q.2 (by rw [← hlk]; exact List.eq_nil_of_length_eq_zero (by omega)))).symm]
   have hb21 : (Value.int .i64 (((j + 1) : Nat) : Int)) = (Value.int .i64 (((j : Nat) : Int) + 1)) := by exact congrArg (Value.int .i64) (by omega)
   refine k_then (hJ5 ⟨((j + 1), la, lc), (by first | omega | (simp only []; omega))⟩ _ _ _ rfl (by first | omega | (simp; omega)) (Sub.cons rfl <| Sub.cons rfl <| Sub.cons rfl <| Sub.cons rfl <| Sub.cons rfl <| sub_val rfl hb21 <| Sub.nil _) (fun w hs => St.sel [0, 1, 2, 3, 4, 5, 6] rfl rfl hs))
 replace hg21 := DT hg21
 refine rS (MV rfl) <| rS (MV rfl) <| rS (MV rfl) ?_
 have hp1 := pow_256 (n := j) (by omega)
 refine rS (BI rfl (b_shl1 (i := j) (by omega) (by omega))) ?_
 have hcl : clrB s j < 256 := Nat.lt_of_le_of_lt clr_le hsb
 have hlk : lacksL d (bitS (clrB s j)) = lacksL d (less1 (bitS s) j) := lacks_congr fun k hk => clrS hsb (by omega) (by omega)
 have hp2 : 2 ^ j ≤ 256 := (pow_256 (by omega)).2
 refine rS (BI rfl (b_andNot (s := s) (i := j) (by omega) rfl (by omega) (by omega))) <| cX (wlacks_c d kA kC pA pC nA nC tz tA tC gw (clrB s j) hin htr hok htz (by first | assumption | omega | (simp; done) | (simp; omega))) (ha_at 1 rfl rfl <| ha_at 2 rfl rfl <| ha_at 3 rfl rfl <| ha_at 4 rfl rfl <| ha_at 5 rfl rfl <| ha_at 6 rfl rfl <| ha_nil) rfl fun y12 hy13 => ?_
 obtain ⟨a14, c15⟩ := y12
 try dsimp only
 refine rS (LN rfl ut33) <| rS (BI rfl b_gtr) <| rS (PK rfl) <| RK hK11 ?_
 refine w_if rfl (fun hg30 => ?_) (fun hg30 => ?_)
 rotate_left 1
 · replace hg30 := DF hg30
   refine w_skip <| k_block <| KK hK9 <| w_region <| rS (BI rfl (b_add ⟨by omega, by omega⟩)) <| rS (MV rfl) <| r_nil ?_
   rw [show (idxL j (fun i => bitS s i ∧ lacksL d (less1 (bitS s) i) ≠ [])) = (idxL (j + 1) (fun i => bitS s i ∧ lacksL d (less1 (bitS s) i) ≠ [])) from (idxL_no (show ¬ (bitS s j ∧ lacksL d (less1 (bitS s) j) ≠ []) from fun q => by first | exact hg21 (bit_iff.2 q.1) | exact q.2 (by rw [← hlk]; exact List.eq_nil_of_length_eq_zero (by omega)))).symm]
   have hb20 : (Value.int .i64 (((j + 1) : Nat) : Int)) = (Value.int .i64 (((j : Nat) : Int) + 1)) := by exact congrArg (Value.int .i64) (by omega)
   refine k_then (hJ5 ⟨((j + 1), la, lc), (by first | omega | (simp only []; omega))⟩ _ _ _ rfl (by first | omega | (simp; omega)) (Sub.cons rfl <| Sub.cons rfl <| Sub.cons rfl <| Sub.cons rfl <| Sub.cons rfl <| sub_val rfl hb20 <| Sub.nil _) (fun w hs => St.sel [1, 2, 3, 4, 5, 6, 7] rfl rfl hs))
 replace hg30 := DT hg30
 refine w_region <| rS (MV rfl) <| rS (MV rfl) <| r_bs (xs := [.tmp 32]) (cs := [(Value.int .i64 ((j : Nat) : Int))]) rfl te33 tz3 rfl rfl rfl rfl (by simp [Value.cells]) rfl rfl fun b16 => r_append (es2 := (List.map iC (idxL (j + 1) (fun i => bitS s i ∧ lacksL d (less1 (bitS s) i) ≠ [])))) (m' := (idxL (j + 1) (fun i => bitS s i ∧ lacksL d (less1 (bitS s) i) ≠ [])).length) 2 rfl rfl rfl ta33 rfl rfl (by simp) (has_rd_blk (es := List.map iC [((j : Nat) : Int)]) 0 rfl rfl (by simp [iC_length]) rfl) (one_iC _) (by have := idxL_len (n := j) (p := fun i => bitS s i ∧ lacksL d (less1 (bitS s) i) ≠ []); omega) (by have := idxL_len (n := j) (p := fun i => bitS s i ∧ lacksL d (less1 (bitS s) i) ≠ []); simp only [maxLen]; omega) (by rw [idxL_yes (p := fun i => bitS s i ∧ lacksL d (less1 (bitS s) i) ≠ []) (show bitS s j ∧ lacksL d (less1 (bitS s) j) ≠ [] from ⟨bit_iff.1 hg21, fun q => by rw [hlk, q] at hg30; simp at hg30⟩)]; simp) (by simp) rfl fun a17 c18 => ?_
 try dsimp only
 refine rS (AG rfl) <| r_nil <| k_block <| KK hK9 <| w_region <| rS (BI rfl (b_add ⟨by omega, by omega⟩)) <| rS (MV rfl) <| r_nil ?_
 have hb19 : (Value.int .i64 (((j + 1) : Nat) : Int)) = (Value.int .i64 (((j : Nat) : Int) + 1)) := by exact congrArg (Value.int .i64) (by omega)
 refine k_then (hJ5 ⟨((j + 1), a17, c18), (by first | omega | (simp only []; omega))⟩ _ _ _ rfl (by first | omega | (simp; omega)) (Sub.cons rfl <| Sub.cons rfl <| Sub.cons rfl <| Sub.cons rfl <| Sub.cons rfl <| sub_val rfl hb19 <| Sub.nil _) (fun w hs => St.sel [2, 3, 4, 5, 6, 7, 8] rfl rfl hs))
set_option maxRecDepth 100000 in
set_option maxHeartbeats 400000 in
theorem wstrong_c (d : GuardM) (kA : Option Addr) (kC : Nat) (pA : Option Addr) (pC : Nat) (nA : Option Addr) (nC : Nat) (tz : List RA) (tA : Option Addr) (tC : Nat) (gw : Nat) (s : Nat) (hin : GuardIn d) (htr : trackOk d.Track = true) (hok : GuardOk d) (htz : tz.length = d.Posts.length) (hsb : s < 256) :
    FnV Tryz.prog 30 [(Value.pointer (some ⟨gw, 0, none⟩)), (Value.int .i64 ((s : Nat) : Int))] [(rd kA d.Track.length 9 (d.Track.map StretchV.cells)), (rd pA d.Posts.length 7 (d.Posts.map PostV.cells)), (rd nA d.Needs.length 3 (d.Needs.map NeedV.cells)), (rd tA ((timesL d).length) 1 (List.zipWith rowC (timesL d) tz)), (bun (nest rowR (timesL d) tz)), (blk gw 73 (WatchV.cells (WatchV.mk (GuardV.mk (TrackV.mk (Slc.mk kA d.Track.length kC)) (Slc.mk pA d.Posts.length pC) (Slc.mk nA d.Needs.length nC) d.Tower d.Radio) (Slc.mk tA ((timesL d).length) tC))))] (Value.bool (decide (StrongP d (bitS s)))) := by
 have hlen := hin.trk
 have hside := hin.side
 have hpl := hin.pst
 have hnl := hin.nds
 have hnk := hin.nk
 have hpk := hin.pk
 refine fnV_of go30 Tryz.func30 rfl rfl fun w0 Q hQ hN => ?_
 try dsimp only
 refine WS fun _ hK1 => rS (AG rfl) <| RK hK1 <| WS fun _ hK2 => rS (MV rfl) <| rS (MV rfl) <| cX (wlacks_c d kA kC pA pC nA nC tz tA tC gw s hin htr hok htz hsb) (ha_at 0 rfl rfl <| ha_at 1 rfl rfl <| ha_at 2 rfl rfl <| ha_at 3 rfl rfl <| ha_at 4 rfl rfl <| ha_at 5 rfl rfl <| ha_nil) rfl fun y3 hy4 => ?_
 obtain ⟨a5, c6⟩ := y3
 try dsimp only
 refine rS (LN rfl ut33) <| rS (BI rfl b_eql) <| rS (MV rfl) ?_
 refine r_bool (t := 10) rfl (fun hg10 => ?_) (fun hg10 => ?_)
 rotate_left 1
 · replace hg10 := DF hg10
   refine rS (OX rfl) <| rS (OX rfl) <| rS (OX rfl) <| rS (OX rfl) <| rS (OX rfl) <| rS (PK rfl) <| rS (AG rfl) <| RK hK2 <| w_ret <| Q1 hQ rfl rfl rfl ?_
   first | exact congrArg Value.bool (strong_one hg10) | exact congrArg Value.bool (strong_two hg10)
 replace hg10 := DT hg10
 refine rS (MV rfl) <| rS (MV rfl) <| cX (wweak_c d kA kC pA pC nA nC tz tA tC gw s hin htr hok htz hsb) (ha_at 1 rfl rfl <| ha_at 2 rfl rfl <| ha_at 3 rfl rfl <| ha_at 4 rfl rfl <| ha_at 5 rfl rfl <| ha_at 6 rfl rfl <| ha_nil) rfl fun y7 hy8 => ?_
 obtain ⟨a9, c10⟩ := y7
 try dsimp only
 refine rS (LN rfl ut33) <| rS (BI rfl b_eql) <| rS (PK rfl) <| rS (AG rfl) <| RK hK2 <| w_ret <| Q1 hQ rfl rfl rfl ?_
 first | exact congrArg Value.bool (strong_one hg10) | exact congrArg Value.bool (strong_two hg10)
end
section
open Go.RowKit
set_option linter.unusedVariables false
set_option maxRecDepth 100000 in
set_option maxHeartbeats 400000 in
theorem Lacks_c (d : GuardM) (kA : Option Addr) (kC : Nat) (pA : Option Addr) (pC : Nat) (nA : Option Addr) (nC : Nat) (l : List Int) (lA : Option Addr) (lC : Nat) (hin : GuardIn d) (hll : l.length ≤ 1000000) :
    FnX Tryz.prog 6 [(Value.agg (GuardV.cells (GuardV.mk (TrackV.mk (Slc.mk kA d.Track.length kC)) (Slc.mk pA d.Posts.length pC) (Slc.mk nA d.Needs.length nC) d.Tower d.Radio)).toArray), (Value.slice lA l.length lC)] [(rd kA d.Track.length 9 (d.Track.map StretchV.cells)), (rd pA d.Posts.length 7 (d.Posts.map PostV.cells)), (rd nA d.Needs.length 3 (d.Needs.map NeedV.cells)), (rd lA l.length 1 (l.map iC))] (fun (x : (Option Addr) × Nat) => (Value.tuple [(Value.slice x.1 ((lacksV d l).length) x.2), (Value.int .i64 (mannedE d l))].toArray)) (fun (x : (Option Addr) × Nat) => True) (fun (x : (Option Addr) × Nat) => [(own x.1 x.2 3 1 ((lacksV d l).map iC))]) := by
 have hlen := hin.trk
 have hside := hin.side
 have hpl := hin.pst
 have hnl := hin.nds
 have hnk := hin.nk
 have hpk := hin.pk
 refine fnX_of go6 Tryz.func6 rfl rfl fun w0 Q hQ hN => ?_
 try dsimp only
 refine WS fun _ hK1 => BXA rfl fun b2 => rS (AG rfl) <| rS (AG rfl) <| RK hK1 <| WS fun _ hK3 => rS (LW 0 rfl tk32 rfl rfl) <| rS (MV rfl) <| cX (manned_c d kA kC pA pC nA nC l lA lC hin hll) (ha_at 1 rfl rfl <| ha_at 2 rfl rfl <| ha_at 3 rfl rfl <| ha_at 4 rfl rfl <| ha_nil) rfl fun y4 hy5 => ?_
 obtain ⟨ok11, ec6, gw7, tA8, tC9, tz10⟩ := y4
 cases ok11
 · obtain ⟨hec, he⟩ := hy5.2 rfl
   try dsimp only at hec he
   subst hec
   try dsimp only [cond_true, cond_false, List.cons_append, List.nil_append]
   refine rS (MV rfl) <| rS (EX rfl) <| rS (EX rfl) <| rS (EX rfl) <| rS (AG rfl) <| rS (AG rfl) <| rS (AG rfl) <| RK hK3 <| w_seq fun _ hK12 => WS fun _ hK13 => ?_
   refine rS (MV rfl) <| rS (BI rfl b_neq) <| RK hK13 ?_
   refine w_if rfl (fun hg17 => ?_) (fun hg17 => ?_)
   rotate_left 1
   · replace hg17 := XF hg17
     exact absurd hg17 he
   replace hg17 := XT hg17
   refine WS fun _ hK14 => r_own_nil 3 1 ?_
   rw [show (own none 0 3 1 ([] : List (List Value))) = own none 0 3 1 ((lacksV d l).map iC) from by rw [lacksV_no he]; rfl]
   refine rS (MV rfl) <| rS (AG rfl) <| rS (AG rfl) <| RK hK14 <| w_ret ?_
   refine hQ _ _ _ (l_nil (vs := [(Value.slice none 0 0), (Value.int .i64 (mannedE d l))]) ⟨rfl, rfl, trivial⟩ fun w hs => endX (none, 0) [0] ?_ ?_ rfl rfl rfl hs)
   · first | rfl | (rw [lacksV_no he]; rfl) | (rw [he]; rfl)
   · trivial
 obtain ⟨he, htz⟩ := hy5.1 rfl
 try dsimp only [cond_true, cond_false, List.cons_append, List.nil_append]
 obtain ⟨hg0, hem⟩ := manned_zero he
 obtain ⟨htr, hok⟩ := guardE_zero hg0
 have hn8 := hok.len
 have hsb := setAll_b (l := l) hn8.1
 have hbit := fun k (hk : k < d.Posts.length) => setAll_bit hn8.1 (l := l) (fun x hx => by have := empty_mem hem x hx; omega) hk
 refine rS (MV rfl) <| rS (EX rfl) <| rS (EX rfl) <| rS (EX rfl) <| rS (AG rfl) <| rS (AG rfl) <| rS (AG rfl) <| RK hK3 <| w_seq fun _ hK15 => WS fun _ hK16 => ?_
 refine rS (MV rfl) <| rS (SX (sd_bin (r := .bool false) rfl rfl rfl b_neq) rfl rfl) <| RK hK16 <| w_if_false rfl <| WK hK15 <| WS fun _ hK17 => rS (MV rfl) <| rS (MV rfl) <| cX (wlacks_c d kA kC pA pC nA nC tz10 tA8 tC9 gw7 (setAll d.Posts.length l) hin (by first | assumption | omega | (simp; done) | (simp; omega)) (by first | assumption | omega | (simp; done) | (simp; omega)) (by first | assumption | omega | (simp; done) | (simp; omega)) (by first | assumption | omega | (simp; done) | (simp; omega))) (ha_at 4 rfl rfl <| ha_at 5 rfl rfl <| ha_at 6 rfl rfl <| ha_cons (has_own_n (n := (timesL d).length) 1 rfl (rows_len (by rw [timesL_len]; exact htz))) <| ha_cons (bun_bund 2 rfl rowO_R) <| ha_at 0 rfl rfl <| ha_nil) rfl fun y18 hy19 => ?_
 obtain ⟨a20, c21⟩ := y18
 try dsimp only
 rw [show lacksL d (bitS (setAll d.Posts.length l)) = lacksV d l from by rw [lacksV_ok he]; exact lacks_congr hbit]
 refine rS (AG rfl) <| rS (AG rfl) <| RK hK17 <| w_ret ?_
 refine hQ _ _ _ (l_nil (vs := [(Value.slice a20 ((lacksV d l).length) c21), (Value.int .i64 0)]) ⟨rfl, rfl, trivial⟩ fun w hs => endX (a20, c21) [0] ?_ ?_ rfl rfl rfl hs)
 · first | rfl | (rw [lacksV_no he]; rfl) | (rw [he]; rfl)
 · trivial
set_option maxRecDepth 100000 in
set_option maxHeartbeats 400000 in
theorem Weak_c (d : GuardM) (kA : Option Addr) (kC : Nat) (pA : Option Addr) (pC : Nat) (nA : Option Addr) (nC : Nat) (hin : GuardIn d) :
    FnX Tryz.prog 8 [(Value.agg (GuardV.cells (GuardV.mk (TrackV.mk (Slc.mk kA d.Track.length kC)) (Slc.mk pA d.Posts.length pC) (Slc.mk nA d.Needs.length nC) d.Tower d.Radio)).toArray)] [(rd kA d.Track.length 9 (d.Track.map StretchV.cells)), (rd pA d.Posts.length 7 (d.Posts.map PostV.cells)), (rd nA d.Needs.length 3 (d.Needs.map NeedV.cells))] (fun (x : (Option Addr) × Nat) => (Value.tuple [(Value.slice x.1 ((weakV d).length) x.2), (Value.int .i64 (weakE d))].toArray)) (fun (x : (Option Addr) × Nat) => True) (fun (x : (Option Addr) × Nat) => [(own x.1 x.2 3 1 ((weakV d).map iC))]) := by
 have hlen := hin.trk
 have hside := hin.side
 have hpl := hin.pst
 have hnl := hin.nds
 have hnk := hin.nk
 have hpk := hin.pk
 refine fnX_of go8 Tryz.func8 rfl rfl fun w0 Q hQ hN => ?_
 try dsimp only
 refine WS fun _ hK1 => BXA rfl fun b2 => rS (AG rfl) <| rS (AG rfl) <| RK hK1 <| WS fun _ hK3 => rS (LW 0 rfl tk32 rfl rfl) <| cX (popen_c d kA kC pA pC nA nC hin) (ha3 1 2 3 rfl rfl rfl rfl rfl rfl) rfl fun y4 hy5 => ?_
 obtain ⟨ok11, ec6, gw7, tA8, tC9, tz10⟩ := y4
 cases ok11
 · obtain ⟨hec, he⟩ := hy5.2 rfl
   try dsimp only at hec he
   subst hec
   try dsimp only [cond_true, cond_false, List.cons_append, List.nil_append]
   refine rS (MV rfl) <| rS (EX rfl) <| rS (EX rfl) <| rS (AG rfl) <| rS (AG rfl) <| RK hK3 <| w_seq fun _ hK12 => WS fun _ hK13 => rS (MV rfl) <| rS (BI rfl b_neq) ?_
   refine RK hK13 ?_
   refine w_if rfl (fun hg12 => ?_) (fun hg12 => ?_)
   rotate_left 1
   · replace hg12 := XF hg12
     exact absurd hg12 he
   replace hg12 := XT hg12
   refine WS fun _ hK14 => rS (MV rfl) ?_
   obtain ⟨hwe, hwv⟩ := weak_bad he
   refine r_own_nil 3 1 ?_
   rw [show (own none 0 3 1 ([] : List (List Value))) = own none 0 3 1 ((weakV d).map iC) from by rw [hwv]; rfl]
   refine rS (AG rfl) <| rS (AG rfl) <| RK hK14 <| w_ret ?_
   refine hQ _ _ _ (l_nil (vs := [(Value.slice none 0 0), (Value.int .i64 (guardE d))]) ⟨rfl, rfl, trivial⟩ fun w hs => endX (none, 0) [0] ?_ ?_ rfl rfl rfl hs)
   · first | (rw [hwv, hwe] <;> rfl) | (rw [(weak_in he (by rw [← hlf]; exact List.eq_nil_of_length_eq_zero (by omega))).1] <;> rfl)
   · trivial
 obtain ⟨he, htz⟩ := hy5.1 rfl
 try dsimp only [cond_true, cond_false, List.cons_append, List.nil_append]
 obtain ⟨htr, hok⟩ := guardE_zero he
 have hn8 := hok.len
 have hsb := setAll_b (l := []) hn8.1
 have hbit : ∀ k, k < d.Posts.length → ((bitS (setAll d.Posts.length [])) k ↔ allS k) := fun k hk => by rw [setAll_bit hn8.1 (l := []) (by simp) hk]; simp [allS]
 have hlf : lacksL d (bitS (setAll d.Posts.length [])) = lacksL d allS := lacks_congr hbit
 refine rS (MV rfl) <| rS (EX rfl) <| rS (EX rfl) <| rS (AG rfl) <| rS (AG rfl) <| RK hK3 <| w_seq fun _ hK15 => WS fun _ hK16 => rS (MV rfl) <| rS (SX (sd_bin (r := .bool false) rfl rfl rfl b_neq) rfl rfl) ?_
 refine RK hK16 <| w_if_false rfl <| WK hK15 <| w_seq fun _ hK17 => WS fun _ hK18 => rS (MV rfl) <| rS (MV rfl) <| rS (CL (all_c d kA kC pA pC nA nC tA8 ((timesL d).length) tC9 gw7 ([]) none 0 (by first | assumption | omega | (simp; done) | (simp; omega)) (by first | assumption | omega | (simp; done) | (simp; omega)) (by first | assumption | omega | (simp; done) | (simp; omega))) (ha_at 4 rfl rfl <| ha_at 5 rfl rfl <| ha_at 6 rfl rfl <| ha_at 0 rfl rfl <| ha_cons (rd_nil _ _) <| ha_nil) rfl) <| cX (wlacks_c d kA kC pA pC nA nC tz10 tA8 tC9 gw7 (setAll d.Posts.length ([])) hin (by first | assumption | omega | (simp; done) | (simp; omega)) (by first | assumption | omega | (simp; done) | (simp; omega)) (by first | assumption | omega | (simp; done) | (simp; omega)) (by first | assumption | omega | (simp; done) | (simp; omega))) (ha_at 4 rfl rfl <| ha_at 5 rfl rfl <| ha_at 6 rfl rfl <| ha_cons (has_own_n (n := (timesL d).length) 1 rfl (rows_len (by rw [timesL_len]; exact htz))) <| ha_cons (bun_bund 2 rfl rowO_R) <| ha_at 0 rfl rfl <| ha_nil) rfl fun y19 hy20 => ?_
 obtain ⟨a21, c22⟩ := y19
 try dsimp only
 refine rS (LN rfl ut33) <| rS (BI rfl b_gtr) <| RK hK18 ?_
 refine w_if rfl (fun hg19 => ?_) (fun hg19 => ?_)
 · replace hg19 := DT hg19
   refine WS fun _ hK23 => ?_
   obtain ⟨hwe, hwv⟩ := weak_none he (fun q => by rw [hlf, q] at hg19; simp at hg19)
   refine r_own_nil 3 1 ?_
   rw [show (own none 0 3 1 ([] : List (List Value))) = own none 0 3 1 ((weakV d).map iC) from by rw [hwv]; rfl]
   refine rS (AG rfl) <| rS (AG rfl) <| RK hK23 <| w_ret ?_
   refine hQ _ _ _ (l_nil (vs := [(Value.slice none 0 0), (Value.int .i64 6)]) ⟨rfl, rfl, trivial⟩ fun w hs => endX (none, 0) [0] ?_ ?_ rfl rfl rfl hs)
   · first | (rw [hwv, hwe] <;> rfl) | (rw [(weak_in he (by rw [← hlf]; exact List.eq_nil_of_length_eq_zero (by omega))).1] <;> rfl)
   · trivial
 replace hg19 := DF hg19
 refine WK hK17 <| WS fun _ hK24 => rS (MV rfl) <| rS (MV rfl) <| rS (CL (all_c d kA kC pA pC nA nC tA8 ((timesL d).length) tC9 gw7 ([]) none 0 (by first | assumption | omega | (simp; done) | (simp; omega)) (by first | assumption | omega | (simp; done) | (simp; omega)) (by first | assumption | omega | (simp; done) | (simp; omega))) (ha_at 5 rfl rfl <| ha_at 6 rfl rfl <| ha_at 7 rfl rfl <| ha_at 1 rfl rfl <| ha_cons (rd_nil _ _) <| ha_nil) rfl) <| cX (wweak_c d kA kC pA pC nA nC tz10 tA8 tC9 gw7 (setAll d.Posts.length ([])) hin (by first | assumption | omega | (simp; done) | (simp; omega)) (by first | assumption | omega | (simp; done) | (simp; omega)) (by first | assumption | omega | (simp; done) | (simp; omega)) (by first | assumption | omega | (simp; done) | (simp; omega))) (ha_at 5 rfl rfl <| ha_at 6 rfl rfl <| ha_at 7 rfl rfl <| ha_cons (has_own_n (n := (timesL d).length) 2 rfl (rows_len (by rw [timesL_len]; exact htz))) <| ha_cons (bun_bund 3 rfl rowO_R) <| ha_at 1 rfl rfl <| ha_nil) rfl fun y25 hy26 => ?_
 obtain ⟨a27, c28⟩ := y25
 try dsimp only
 refine rS (AG rfl) ?_
 rw [show weakL d (bitS (setAll d.Posts.length [])) = weakV d from by rw [(weak_in he (by rw [← hlf]; exact List.eq_nil_of_length_eq_zero (by omega))).2]; exact weak_congr hbit]
 refine rS (AG rfl) <| RK hK24 <| w_ret ?_
 refine hQ _ _ _ (l_nil (vs := [(Value.slice a27 ((weakV d).length) c28), (Value.int .i64 0)]) ⟨rfl, rfl, trivial⟩ fun w hs => endX (a27, c28) [0] ?_ ?_ rfl rfl rfl hs)
 · first | (rw [hwv, hwe] <;> rfl) | (rw [(weak_in he (by rw [← hlf]; exact List.eq_nil_of_length_eq_zero (by omega))).1] <;> rfl)
 · trivial
set_option maxRecDepth 100000 in
set_option maxHeartbeats 400000 in
theorem Spare_c (d : GuardM) (kA : Option Addr) (kC : Nat) (pA : Option Addr) (pC : Nat) (nA : Option Addr) (nC : Nat) (hin : GuardIn d) :
    FnX Tryz.prog 12 [(Value.agg (GuardV.cells (GuardV.mk (TrackV.mk (Slc.mk kA d.Track.length kC)) (Slc.mk pA d.Posts.length pC) (Slc.mk nA d.Needs.length nC) d.Tower d.Radio)).toArray)] [(rd kA d.Track.length 9 (d.Track.map StretchV.cells)), (rd pA d.Posts.length 7 (d.Posts.map PostV.cells)), (rd nA d.Needs.length 3 (d.Needs.map NeedV.cells))] (fun (x : (Option Addr) × Nat) => (Value.tuple [(Value.slice x.1 ((spareV d).length) x.2), (Value.int .i64 (guardE d))].toArray)) (fun (x : (Option Addr) × Nat) => True) (fun (x : (Option Addr) × Nat) => [(own x.1 x.2 3 1 ((spareV d).map iC))]) := by
 have hlen := hin.trk
 have hside := hin.side
 have hpl := hin.pst
 have hnl := hin.nds
 have hnk := hin.nk
 have hpk := hin.pk
 refine fnX_of go12 Tryz.func12 rfl rfl fun w0 Q hQ hN => ?_
 try dsimp only
 refine WS fun _ hK1 => BXA rfl fun b2 => rS (AG rfl) <| rS (AG rfl) <| RK hK1 <| WS fun _ hK3 => rS (LW 0 rfl tk32 rfl rfl) <| cX (popen_c d kA kC pA pC nA nC hin) (ha3 1 2 3 rfl rfl rfl rfl rfl rfl) rfl fun y4 hy5 => ?_
 obtain ⟨ok11, ec6, gw7, tA8, tC9, tz10⟩ := y4
 cases ok11
 · obtain ⟨hec, he⟩ := hy5.2 rfl
   try dsimp only at hec he
   subst hec
   try dsimp only [cond_true, cond_false, List.cons_append, List.nil_append]
   refine rS (MV rfl) <| rS (EX rfl) <| rS (EX rfl) <| rS (AG rfl) <| rS (AG rfl) <| RK hK3 <| w_seq fun _ hK12 => WS fun _ hK13 => rS (MV rfl) <| rS (BI rfl b_neq) ?_
   refine RK hK13 ?_
   refine w_if rfl (fun hg14 => ?_) (fun hg14 => ?_)
   rotate_left 1
   · replace hg14 := XF hg14
     exact absurd hg14 he
   replace hg14 := XT hg14
   refine WS fun _ hK14 => rS (MV rfl) <| r_own_nil 3 1 ?_
   rw [show (own none 0 3 1 ([] : List (List Value))) = own none 0 3 1 ((spareV d).map iC) from by rw [spareV_no he]; rfl]
   refine rS (AG rfl) <| rS (AG rfl) <| RK hK14 <| w_ret ?_
   refine hQ _ _ _ (l_nil (vs := [(Value.slice none 0 0), (Value.int .i64 (guardE d))]) ⟨rfl, rfl, trivial⟩ fun w hs => endX (none, 0) [0] ?_ ?_ rfl rfl rfl hs)
   · first | (rw [spareV_no he] <;> rfl) | (rw [he] <;> rfl)
   · trivial
 obtain ⟨he, htz⟩ := hy5.1 rfl
 try dsimp only [cond_true, cond_false, List.cons_append, List.nil_append]
 obtain ⟨htr, hok⟩ := guardE_zero he
 have hn8 := hok.len
 refine rS (MV rfl) <| rS (EX rfl) <| rS (EX rfl) <| rS (AG rfl) <| rS (AG rfl) <| RK hK3 <| w_seq fun _ hK15 => WS fun _ hK16 => rS (MV rfl) <| rS (SX (sd_bin (r := .bool false) rfl rfl rfl b_neq) rfl rfl) ?_
 refine RK hK16 <| w_if_false rfl <| WK hK15 <| WS fun _ hK17 => rS (AG rfl) <| RK hK17 <| w_seq fun _ hK18 => WS fun _ hK19 => rS (FA 1 rfl fo32_1 rfl) <| rS (L1 (Value.slice pA d.Posts.length pC) 3 rfl tk25 rfl rfl) ?_
 refine rS (LN rfl ut25) <| rS (MV rfl) <| RK hK19 <| w_block <| w_own_nil 3 1 ?_
 have hinit : (0 ≤ d.Posts.length) := by exact Nat.zero_le _
 refine w_loop (ι := { z : Nat × (Option Addr) × Nat // (z.1 ≤ d.Posts.length) }) (fun z => [(1, (Value.pointer (some ⟨b2, 0, none⟩))), (2, (Value.slice none 0 0)), (3, (Value.int .i64 0)), (4, (Value.pointer (some ⟨gw7, 0, none⟩))), (6, (Value.slice z.1.2.1 ((idxL z.1.1 (fun i => StrongP d (less1 allS i))).length) z.1.2.2)), (17, (Value.slice pA d.Posts.length pC)), (18, (Value.int .i64 ((d.Posts.length : Nat) : Int))), (19, (Value.int .i64 ((z.1.1 : Nat) : Int)))]) (fun z => [(own z.1.2.1 z.1.2.2 3 1 ((idxL z.1.1 (fun i => StrongP d (less1 allS i))).map iC)), (blk gw7 73 (WatchV.cells (WatchV.mk (GuardV.mk (TrackV.mk (Slc.mk kA d.Track.length kC)) (Slc.mk pA d.Posts.length pC) (Slc.mk nA d.Needs.length nC) d.Tower d.Radio) (Slc.mk tA8 ((timesL d).length) tC9)))), (own tA8 tC9 33 1 (List.zipWith rowC (timesL d) tz10)), (bund (nest rowO (timesL d) tz10)), (blk b2 32 (GuardV.cells (GuardV.mk (TrackV.mk (Slc.mk kA d.Track.length kC)) (Slc.mk pA d.Posts.length pC) (Slc.mk nA d.Needs.length nC) d.Tower d.Radio))), (rd kA d.Track.length 9 (d.Track.map StretchV.cells)).ro, (rd pA d.Posts.length 7 (d.Posts.map PostV.cells)).ro, (rd nA d.Needs.length 3 (d.Needs.map NeedV.cells)).ro]) (fun z => d.Posts.length - z.1.1) ⟨(0, none, 0), hinit⟩ (Sub.cons rfl <| Sub.cons rfl <| Sub.cons rfl <| Sub.cons rfl <| Sub.cons rfl <| Sub.cons rfl <| Sub.cons rfl <| Sub.cons rfl <| Sub.nil _) (fun w hs => St.sel [0, 1, 2, 3, 4, 5, 6, 7] rfl rfl hs) ?_
 clear hinit
 rintro ⟨⟨j, la, lc⟩, hl6_0⟩ J20 hJ20
 try dsimp only at hl6_0
 try dsimp only
 refine WS fun _ hK21 => rS (BI rfl b_lss) <| RK hK21 <| w_seq fun _ hK22 => ?_
 refine w_if rfl (fun h23 => ?_) (fun h23 => ?_)
 rotate_left 1
 · replace h23 := DF h23
   refine w_exit <| k_exit_then <| k_exit_then <| k_exit_same <| KK hK18 <| WS fun _ hK33 => ?_
   rw [show idxL j (fun i => StrongP d (less1 allS i)) = spareV d from by rw [spareV_ok he, show j = d.Posts.length by omega]]
   refine rS (MV rfl) <| rS (AG rfl) <| rS (AG rfl) <| RK hK33 <| w_ret ?_
   refine hQ _ _ _ (l_nil (vs := [(Value.slice la ((spareV d).length) lc), (Value.int .i64 0)]) ⟨rfl, rfl, trivial⟩ fun w hs => endX (la, lc) [0] ?_ ?_ rfl rfl rfl hs)
   · first | (rw [spareV_no he] <;> rfl) | (rw [he] <;> rfl)
   · trivial
 replace h23 := DT h23
 refine WK hK22 <| w_seq fun _ hK24 => w_block <| WS fun _ hK25 => rS (MV rfl) <| rS (AG rfl) <| RK hK25 <| WS fun _ hK26 => rS (MV rfl) <| rS (MV rfl) ?_
 refine rS (MV rfl) <| r_bs (xs := [.tmp 24]) (cs := [(Value.int .i64 ((j : Nat) : Int))]) rfl te33 tz3 rfl rfl rfl rfl (by simp [Value.cells]) rfl rfl fun b27 => rS (CL (all_c d kA kC pA pC nA nC tA8 ((timesL d).length) tC9 gw7 ([((j : Nat) : Int)]) (some ⟨b27, 0, none⟩) 1 (by omega) (by intro x hx; simp only [List.mem_singleton] at hx; omega) (by simp)) (ha_at 6 rfl rfl <| ha_at 7 rfl rfl <| ha_at 8 rfl rfl <| ha_at 2 rfl rfl <| ha_cons (has_rd_blk 0 rfl rfl (by simp [iC_length]) rfl) <| ha_nil) rfl) <| rS (CL (wstrong_c d kA kC pA pC nA nC tz10 tA8 tC9 gw7 (setAll d.Posts.length ([((j : Nat) : Int)])) hin (by first | assumption | omega | (simp; done) | (simp; omega)) (by first | assumption | omega | (simp; done) | (simp; omega)) (by first | assumption | omega | (simp; done) | (simp; omega)) (by exact setAll_b hn8.1)) (ha_at 6 rfl rfl <| ha_at 7 rfl rfl <| ha_at 8 rfl rfl <| ha_cons (has_own_n (n := (timesL d).length) 3 rfl (rows_len (by rw [timesL_len]; exact htz))) <| ha_cons (bun_bund 4 rfl rowO_R) <| ha_at 2 rfl rfl <| ha_nil) rfl) <| RK hK26 ?_
 refine w_if rfl (fun hg27 => ?_) (fun hg27 => ?_)
 rotate_left 1
 · replace hg27 := DF hg27
   refine w_skip <| k_block <| KK hK24 <| w_region <| rS (BI rfl (b_add ⟨by omega, by omega⟩)) <| rS (MV rfl) <| r_nil ?_
   rw [show (idxL j (fun i => StrongP d (less1 allS i))) = (idxL (j + 1) (fun i => StrongP d (less1 allS i))) from (idxL_no (show ¬ StrongP d (less1 allS j) from fun q => hg27 ((spare_iff hn8.1 (by omega)).2 q))).symm]
   have hb32 : (Value.int .i64 (((j + 1) : Nat) : Int)) = (Value.int .i64 (((j : Nat) : Int) + 1)) := by exact congrArg (Value.int .i64) (by omega)
   refine k_then (hJ20 ⟨((j + 1), la, lc), (by first | omega | (simp only []; omega))⟩ _ _ _ rfl (by first | omega | (simp; omega)) (Sub.cons rfl <| Sub.cons rfl <| Sub.cons rfl <| Sub.cons rfl <| Sub.cons rfl <| Sub.cons rfl <| Sub.cons rfl <| sub_val rfl hb32 <| Sub.nil _) (fun w hs => St.sel [1, 2, 3, 4, 5, 6, 7, 8] rfl rfl hs))
 replace hg27 := DT hg27
 refine w_region <| rS (MV rfl) <| rS (MV rfl) <| r_bs (xs := [.tmp 29]) (cs := [(Value.int .i64 ((j : Nat) : Int))]) rfl te33 tz3 rfl rfl rfl rfl (by simp [Value.cells]) rfl rfl fun b28 => r_append (es2 := (List.map iC (idxL (j + 1) (fun i => StrongP d (less1 allS i))))) (m' := (idxL (j + 1) (fun i => StrongP d (less1 allS i))).length) 2 rfl rfl rfl ta33 rfl rfl (by simp) (has_rd_blk (es := List.map iC [((j : Nat) : Int)]) 0 rfl rfl (by simp [iC_length]) rfl) (one_iC _) (by have := idxL_len (n := j) (p := fun i => StrongP d (less1 allS i)); omega) (by have := idxL_len (n := j) (p := fun i => StrongP d (less1 allS i)); simp only [maxLen]; omega) (by rw [idxL_yes (p := fun i => StrongP d (less1 allS i)) (show StrongP d (less1 allS j) from (spare_iff hn8.1 (by omega)).1 hg27)]; simp) (by simp) rfl fun a29 c30 => ?_
 try dsimp only
 refine rS (AG rfl) <| r_nil <| k_block <| KK hK24 <| w_region <| rS (BI rfl (b_add ⟨by omega, by omega⟩)) <| rS (MV rfl) <| r_nil ?_
 have hb31 : (Value.int .i64 (((j + 1) : Nat) : Int)) = (Value.int .i64 (((j : Nat) : Int) + 1)) := by exact congrArg (Value.int .i64) (by omega)
 refine k_then (hJ20 ⟨((j + 1), a29, c30), (by first | omega | (simp only []; omega))⟩ _ _ _ rfl (by first | omega | (simp; omega)) (Sub.cons rfl <| Sub.cons rfl <| Sub.cons rfl <| Sub.cons rfl <| Sub.cons rfl <| Sub.cons rfl <| Sub.cons rfl <| sub_val rfl hb31 <| Sub.nil _) (fun w hs => St.sel [2, 3, 4, 5, 6, 7, 8, 9] rfl rfl hs))
end
section
set_option linter.unusedVariables false
def cmpF (x y : Int) : Int := if x < y then -1 else if y < x then 1 else 0
theorem cmp_lt {x y : Int} (h : x < y) : cmpF x y = -1 := if_pos h
theorem cmp_gt {x y : Int} (h : y < x) : cmpF x y = 1 := by unfold cmpF; rw [if_neg (by omega), if_pos h]
theorem cmp_eq {x y : Int} (h : ¬ x < y) (h2 : ¬ y < x) : cmpF x y = 0 := by unfold cmpF; rw [if_neg h, if_neg h2]
def cmpL : List Int → List Int → Int
  | [], [] => 0
  | [], _ :: _ => -1
  | _ :: _, [] => 1
  | x :: a, y :: b => if cmpF x y = 0 then cmpL a b else cmpF x y
variable {a b : List Int} {i : Nat} {x y : Int}
theorem drop_at (h : a[i]? = some x) : a.drop i = x :: a.drop (i + 1) := by
  obtain ⟨h1, h2⟩ := List.getElem?_eq_some_iff.1 h
  rw [List.drop_eq_getElem_cons h1, h2]
theorem cmp_step (hx : a[i]? = some x) (hy : b[i]? = some y) (h : cmpF x y = 0) : cmpL (a.drop i) (b.drop i) = cmpL (a.drop (i + 1)) (b.drop (i + 1)) := by
  rw [drop_at hx, drop_at hy, cmpL, if_pos h]
theorem cmp_at (hx : a[i]? = some x) (hy : b[i]? = some y) (h : ¬ cmpF x y = 0) : cmpL (a.drop i) (b.drop i) = cmpF x y := by
  rw [drop_at hx, drop_at hy, cmpL, if_neg h]
theorem cmp_out (ha : i < a.length) (hb : b.length ≤ i) : cmpL (a.drop i) (b.drop i) = 1 := by
  rw [List.drop_eq_nil_of_le hb, List.drop_eq_getElem_cons ha, cmpL]
theorem cmp_short (ha : a.length ≤ i) (hb : i < b.length) : cmpL (a.drop i) (b.drop i) = -1 := by
  rw [List.drop_eq_nil_of_le ha, List.drop_eq_getElem_cons hb, cmpL]
theorem cmp_same (ha : a.length ≤ i) (hb : b.length ≤ i) : cmpL (a.drop i) (b.drop i) = 0 := by
  rw [List.drop_eq_nil_of_le ha, List.drop_eq_nil_of_le hb, cmpL]
/-- longer than another one, or as long, and behind it -/
def Worse (a b : List Int) : Prop := b.length < a.length ∨ a.length = b.length ∧ 0 < cmpL a b
instance (a b : List Int) : Decidable (Worse a b) := by unfold Worse; infer_instance
noncomputable def bestTo (n : Nat) (p : Nat → Bool) : Nat → Option (List Int)
  | 0 => none
  | z + 1 => match bestTo n p z with
    | none => if p z = true then some (idxL n (bitS z)) else none
    | some b => if ¬ Worse (idxL n (bitS z)) b ∧ p z = true then some (idxL n (bitS z)) else some b
section
variable {n z : Nat} {p : Nat → Bool} {bo : Bool} {fl : List Int}
theorem best_no (h : bestTo n p z = cond bo (some fl) none) (hp : p z = false) : bestTo n p (z + 1) = cond bo (some fl) none := by
  cases bo
  · simp only [cond_false] at h ⊢; rw [bestTo, h]; simp [hp]
  · simp only [cond_true] at h ⊢; rw [bestTo, h]; simp [hp]
theorem best_worse (h : bestTo n p z = cond bo (some fl) none) (hb : bo = true) (hw : Worse (idxL n (bitS z)) fl) : bestTo n p (z + 1) = cond bo (some fl) none := by
  subst hb
  simp only [cond_true] at h ⊢
  rw [bestTo, h]; simp [hw]
theorem best_yes (h : bestTo n p z = cond bo (some fl) none) (hw : bo = true → ¬ Worse (idxL n (bitS z)) fl) (hp : p z = true) : bestTo n p (z + 1) = cond true (some (idxL n (bitS z))) none := by
  cases bo
  · simp only [cond_false] at h; rw [bestTo, h]; simp [hp]
  · simp only [cond_true] at h; rw [bestTo, h]; simp [hp, hw rfl]
theorem best_len : ∀ {z : Nat}, bestTo n p z = some fl → fl.length ≤ n
  | 0, h => by cases h
  | z + 1, h => by
    rw [bestTo] at h
    cases hb : bestTo n p z with
    | none =>
      rw [hb] at h
      simp only at h
      split at h
      · cases h; exact idxL_len
      · cases h
    | some b =>
      rw [hb] at h
      simp only at h
      split at h
      · cases h; exact idxL_len
      · cases h; exact best_len hb
end
noncomputable def bestF (d : GuardM) : Option (List Int) := bestTo d.Posts.length (fun z => decide (StrongP d (bitS z))) (2 ^ d.Posts.length)
noncomputable def fewE (d : GuardM) : Int := if guardE d = 0 then (match bestF d with | none => 6 | some _ => 0) else guardE d
noncomputable def fewV (d : GuardM) : List Int := if guardE d = 0 then (bestF d).getD [] else []
theorem few_bad {d : GuardM} (h : ¬ guardE d = 0) : fewE d = guardE d ∧ fewV d = [] := ⟨if_neg h, if_neg h⟩
theorem few_none {d : GuardM} (h : guardE d = 0) (h2 : bestF d = none) : fewE d = 6 ∧ fewV d = [] := by
  refine ⟨by unfold fewE; rw [if_pos h, h2], by unfold fewV; rw [if_pos h, h2]; rfl⟩
theorem few_some {d : GuardM} {l : List Int} (h : guardE d = 0) (h2 : bestF d = some l) : fewE d = 0 ∧ fewV d = l := by
  refine ⟨by unfold fewE; rw [if_pos h, h2], by unfold fewV; rw [if_pos h, h2]; rfl⟩
end
section
open Go.RowKit
set_option linter.unusedVariables false
set_option maxRecDepth 100000 in
set_option maxHeartbeats 400000 in
theorem ccmp_c (x : Int) (y : Int) :
    FnV Tryz.prog 65 [(Value.int .i64 x), (Value.int .i64 y)] [] (Value.int .i64 (cmpF x y)) := by
 refine fnV_of go65 Tryz.func65 rfl rfl fun w0 Q hQ hN => ?_
 try dsimp only
 refine WS fun _ hK1 => rS (AG rfl) <| RK hK1 <| WS fun _ hK2 => rS (MV rfl) <| rS (CL (isnan_c x) (ha_nil) rfl) <| rS (AG rfl) <| RK hK2 <| WS fun _ hK3 => rS (MV rfl) ?_
 refine rS (CL (isnan_c y) (ha_nil) rfl) <| rS (AG rfl) <| RK hK3 <| w_seq fun _ hK4 => WS fun _ hK5 => rS (MV rfl) <| RK hK5 <| w_if_false rfl <| WK hK4 <| w_seq fun _ hK6 => ?_
 refine WS fun _ hK7 => rS (MV rfl) <| RK hK7 <| w_if_false rfl <| WK hK6 <| w_seq fun _ hK8 => WS fun _ hK9 => rS (MV rfl) <| rS (MV rfl) <| rS (BI rfl b_lss) ?_
 refine RK hK9 ?_
 refine w_if rfl (fun hg16 => ?_) (fun hg16 => ?_)
 · replace hg16 := DT hg16
   refine WS fun _ hK10 => rS (AG rfl) <| RK hK10 <| w_ret <| Q1 hQ rfl rfl rfl ?_
   first | exact congrArg (Value.int .i64) (cmp_lt hg16).symm | exact congrArg (Value.int .i64) (cmp_gt hg19).symm | exact congrArg (Value.int .i64) (cmp_eq hg16 hg19).symm
 replace hg16 := DF hg16
 refine WK hK8 <| w_seq fun _ hK11 => WS fun _ hK12 => rS (MV rfl) <| rS (MV rfl) <| rS (BI rfl b_gtr) <| RK hK12 ?_
 refine w_if rfl (fun hg19 => ?_) (fun hg19 => ?_)
 · replace hg19 := DT hg19
   refine WS fun _ hK13 => rS (AG rfl) <| RK hK13 <| w_ret <| Q1 hQ rfl rfl rfl ?_
   first | exact congrArg (Value.int .i64) (cmp_lt hg16).symm | exact congrArg (Value.int .i64) (cmp_gt hg19).symm | exact congrArg (Value.int .i64) (cmp_eq hg16 hg19).symm
 replace hg19 := DF hg19
 refine WK hK11 <| WS fun _ hK14 => rS (AG rfl) <| RK hK14 <| w_ret <| Q1 hQ rfl rfl rfl ?_
 first | exact congrArg (Value.int .i64) (cmp_lt hg16).symm | exact congrArg (Value.int .i64) (cmp_gt hg19).symm | exact congrArg (Value.int .i64) (cmp_eq hg16 hg19).symm
set_option maxRecDepth 100000 in
set_option maxHeartbeats 400000 in
theorem scompare_c (a : List Int) (aA : Option Addr) (aC : Nat) (b : List Int) (bA : Option Addr) (bC : Nat) (ha : a.length ≤ 1000000) (hb : b.length ≤ 1000000) :
    FnV Tryz.prog 46 [(Value.slice aA a.length aC), (Value.slice bA b.length bC)] [(rd aA a.length 1 (a.map iC)), (rd bA b.length 1 (b.map iC))] (Value.int .i64 (cmpL a b)) := by
 refine fnV_of go46 Tryz.func46 rfl rfl fun w0 Q hQ hN => ?_
 try dsimp only
 refine WS fun _ hK1 => rS (AG rfl) <| RK hK1 <| w_seq fun _ hK2 => WS fun _ hK3 => rS (MV rfl) <| rS (LN rfl ut33) <| rS (MV rfl) <| RK hK3 <| w_block ?_
 have hinit : (0 ≤ a.length) ∧ (0 ≤ b.length) ∧ (cmpL a b = cmpL (a.drop 0) (b.drop 0)) := by exact ⟨Nat.zero_le _, Nat.zero_le _, rfl⟩
 refine w_loop (ι := { z : Nat // (z ≤ a.length) ∧ (z ≤ b.length) ∧ (cmpL a b = cmpL (a.drop z) (b.drop z)) }) (fun z => [(0, (Value.slice aA a.length aC)), (1, (Value.slice bA b.length bC)), (9, (Value.slice aA a.length aC)), (10, (Value.int .i64 ((a.length : Nat) : Int))), (11, (Value.int .i64 ((z.1 : Nat) : Int)))]) (fun z => [(rd aA a.length 1 (a.map iC)).ro, (rd bA b.length 1 (b.map iC)).ro]) (fun z => a.length - z.1) ⟨0, hinit⟩ (Sub.cons rfl <| Sub.cons rfl <| Sub.cons rfl <| Sub.cons rfl <| Sub.cons rfl <| Sub.nil _) (fun w hs => St.sel [0, 1] rfl rfl hs) ?_
 clear hinit
 rintro ⟨i, ⟨hl2_0, hl2_1, hl2_2⟩⟩ J4 hJ4
 try dsimp only
 refine WS fun _ hK5 => rS (BI rfl b_lss) <| RK hK5 <| w_seq fun _ hK6 => ?_
 refine w_if rfl (fun h7 => ?_) (fun h7 => ?_)
 rotate_left 1
 · replace h7 := DF h7
   refine w_exit <| k_exit_then <| k_exit_then <| k_exit_same <| KK hK2 <| w_seq fun _ hK18 => WS fun _ hK19 => rS (MV rfl) <| rS (LN rfl ut33) <| rS (MV rfl) ?_
   refine rS (LN rfl ut33) <| rS (BI rfl b_lss) <| RK hK19 ?_
   refine w_if rfl (fun hg35 => ?_) (fun hg35 => ?_)
   · replace hg35 := DT hg35
     refine WS fun _ hK20 => rS (AG rfl) <| RK hK20 <| w_ret <| Q1 hQ rfl rfl rfl ?_
     first | exact congrArg (Value.int .i64) (by rw [hl2_2]; exact (cmp_out (by omega) (by omega)).symm) | exact congrArg (Value.int .i64) (by rw [hl2_2]; exact (cmp_at hx hy (by omega)).symm) | exact congrArg (Value.int .i64) (by rw [hl2_2]; exact (cmp_short (by omega) (by omega)).symm) | exact congrArg (Value.int .i64) (by rw [hl2_2]; exact (cmp_same (by omega) (by omega)).symm)
   replace hg35 := DF hg35
   refine WK hK18 <| WS fun _ hK21 => rS (AG rfl) <| RK hK21 <| w_ret <| Q1 hQ rfl rfl rfl ?_
   first | exact congrArg (Value.int .i64) (by rw [hl2_2]; exact (cmp_out (by omega) (by omega)).symm) | exact congrArg (Value.int .i64) (by rw [hl2_2]; exact (cmp_at hx hy (by omega)).symm) | exact congrArg (Value.int .i64) (by rw [hl2_2]; exact (cmp_short (by omega) (by omega)).symm) | exact congrArg (Value.int .i64) (by rw [hl2_2]; exact (cmp_same (by omega) (by omega)).symm)
 replace h7 := DT h7
 refine WK hK6 <| w_seq fun _ hK8 => w_block <| WS fun _ hK9 => rS (MV rfl) ?_
 obtain ⟨x, hx⟩ : ∃ y_, a[i]? = some y_ := ⟨a[i]'(by omega), List.getElem?_eq_getElem _⟩
 have hxm : (a.map iC)[i]? = some (iC x) := by rw [List.getElem?_map, hx]; rfl
 refine rS (IA i rfl (has_at 0 rfl) te33 (by decide) (by omega) (by omega)) <| rS (LE1 i 0 (Value.int .i64 x) rfl tk3 (has_at 0 rfl) hxm rfl (by decide) rfl) <| rS (AG rfl) <| rS (AG rfl) <| RK hK9 <| w_seq fun _ hK10 => WS fun _ hK11 => rS (MV rfl) <| rS (MV rfl) <| rS (LN rfl ut33) ?_
 refine rS (BI rfl b_geq) <| RK hK11 ?_
 refine w_if rfl (fun hg19 => ?_) (fun hg19 => ?_)
 · replace hg19 := DT hg19
   refine WS fun _ hK12 => rS (AG rfl) <| RK hK12 <| w_ret <| Q1 hQ rfl rfl rfl ?_
   first | exact congrArg (Value.int .i64) (by rw [hl2_2]; exact (cmp_out (by omega) (by omega)).symm) | exact congrArg (Value.int .i64) (by rw [hl2_2]; exact (cmp_at hx hy (by omega)).symm) | exact congrArg (Value.int .i64) (by rw [hl2_2]; exact (cmp_short (by omega) (by omega)).symm) | exact congrArg (Value.int .i64) (by rw [hl2_2]; exact (cmp_same (by omega) (by omega)).symm)
 replace hg19 := DF hg19
 refine WK hK10 <| WS fun _ hK13 => rS (MV rfl) <| rS (MV rfl) ?_
 obtain ⟨y, hy⟩ : ∃ y_, b[i]? = some y_ := ⟨b[i]'(by omega), List.getElem?_eq_getElem _⟩
 have hym : (b.map iC)[i]? = some (iC y) := by rw [List.getElem?_map, hy]; rfl
 refine rS (IA i rfl (has_at 1 rfl) te33 (by decide) (by omega) (by omega)) <| rS (LE1 i 0 (Value.int .i64 y) rfl tk3 (has_at 1 rfl) hym rfl (by decide) rfl) <| rS (AG rfl) <| RK hK13 <| WS fun _ hK14 => rS (MV rfl) <| rS (MV rfl) <| rS (CL (ccmp_c x y) (ha_nil) rfl) <| rS (AG rfl) <| RK hK14 ?_
 refine WS fun _ hK15 => rS (MV rfl) <| rS (BI rfl b_neq) <| RK hK15 ?_
 refine w_if rfl (fun hg28 => ?_) (fun hg28 => ?_)
 · replace hg28 := XT hg28
   refine WS fun _ hK16 => rS (MV rfl) <| rS (AG rfl) <| RK hK16 <| w_ret <| Q1 hQ rfl rfl rfl ?_
   first | exact congrArg (Value.int .i64) (by rw [hl2_2]; exact (cmp_out (by omega) (by omega)).symm) | exact congrArg (Value.int .i64) (by rw [hl2_2]; exact (cmp_at hx hy (by omega)).symm) | exact congrArg (Value.int .i64) (by rw [hl2_2]; exact (cmp_short (by omega) (by omega)).symm) | exact congrArg (Value.int .i64) (by rw [hl2_2]; exact (cmp_same (by omega) (by omega)).symm)
 replace hg28 := XF hg28
 refine w_skip <| k_block <| KK hK8 <| w_region <| rS (BI rfl (b_add ⟨by omega, by omega⟩)) <| rS (MV rfl) <| r_nil ?_
 have hb17 : (Value.int .i64 (((i + 1) : Nat) : Int)) = (Value.int .i64 (((i : Nat) : Int) + 1)) := by exact congrArg (Value.int .i64) (by omega)
 refine k_then (hJ4 ⟨(i + 1), ⟨by omega, by omega, hl2_2.trans (cmp_step hx hy (by omega))⟩⟩ _ _ _ rfl (by first | omega | (simp; omega)) (Sub.cons rfl <| Sub.cons rfl <| Sub.cons rfl <| Sub.cons rfl <| sub_val rfl hb17 <| Sub.nil _) (fun w hs => St.sel [0, 1] rfl rfl hs))
set_option maxRecDepth 100000 in
set_option maxHeartbeats 2000000 in
theorem best_c (l : List PostV) (lA : Option Addr) (lC : Nat) (f : Value) (p : Int → Bool) (X : Assn) (hf : ∀ x0, (∃ z : Nat, x0 = (z : Int) ∧ z < 2 ^ l.length) → Clo Tryz.prog f [.int .i64 x0] [X] (.bool (p x0))) (hlen : l.length ≤ 8) :
    FnX Tryz.prog 28 [(Value.slice lA l.length lC), f] [(rd lA l.length 7 (l.map PostV.cells)), X] (fun (x : (List Int) × (Option Addr) × Nat × Bool) => (Value.tuple [(Value.slice x.2.1 x.1.length x.2.2.1), (Value.bool x.2.2.2)].toArray)) (fun (x : (List Int) × (Option Addr) × Nat × Bool) => bestTo l.length (fun z => p ((z : Nat) : Int)) (2 ^ l.length) = cond x.2.2.2 (some x.1) none) (fun (x : (List Int) × (Option Addr) × Nat × Bool) => [(own x.2.1 x.2.2.1 3 1 (x.1.map iC))]) := by
 have hp2 := pow_256 hlen
 refine fnX_of go28 Tryz.func28 rfl rfl fun w0 Q hQ hN => ?_
 try dsimp only
 refine WS fun _ hK1 => rS (AG rfl) <| rS (AG rfl) <| RK hK1 <| w_seq fun _ hK2 => WS fun _ hK3 => rS (MV rfl) <| rS (LN rfl ut25) <| rS (BI rfl (b_shl1 (i := l.length) (by omega) (by omega))) <| rS (MV rfl) ?_
 refine RK hK3 <| w_block <| w_own_nil 3 1 ?_
 have hinit : (0 ≤ 2 ^ l.length) ∧ (bestTo l.length (fun z => p ((z : Nat) : Int)) 0 = cond false (some ([] : List Int)) none) ∧ (([] : List Int).length ≤ 8) := by exact ⟨Nat.zero_le _, rfl, Nat.zero_le _⟩
 refine w_loop (ι := { z : Nat × (List Int) × (Option Addr) × Nat × Bool // (z.1 ≤ 2 ^ l.length) ∧ (bestTo l.length (fun z => p ((z : Nat) : Int)) z.1 = cond z.2.2.2.2 (some z.2.1) none) ∧ (z.2.1.length ≤ 8) }) (fun z => [(0, (Value.slice lA l.length lC)), (1, f), (4, (Value.slice z.1.2.2.1 z.1.2.1.length z.1.2.2.2.1)), (5, (Value.bool z.1.2.2.2.2)), (11, (Value.int .i64 ((2 ^ l.length : Nat) : Int))), (12, (Value.int .i64 ((z.1.1 : Nat) : Int)))]) (fun z => [(own z.1.2.2.1 z.1.2.2.2.1 3 1 (z.1.2.1.map iC)), (rd lA l.length 7 (l.map PostV.cells)).ro, X.ro]) (fun z => 2 ^ l.length - z.1.1) ⟨(0, ([] : List Int), none, 0, false), hinit⟩ (Sub.cons rfl <| Sub.cons rfl <| Sub.cons rfl <| Sub.cons rfl <| Sub.cons rfl <| Sub.cons rfl <| Sub.nil _) (fun w hs => St.sel [0, 1, 2] rfl rfl hs) ?_
 clear hinit
 rintro ⟨⟨zz, fl, fa, fc, bo⟩, ⟨hl2_0, hl2_1, hl2_2⟩⟩ J4 hJ4
 try dsimp only at hl2_0 hl2_1 hl2_2
 try dsimp only
 refine WS fun _ hK5 => rS (BI rfl b_lss) <| RK hK5 <| w_seq fun _ hK6 => ?_
 refine w_if rfl (fun h7 => ?_) (fun h7 => ?_)
 rotate_left 1
 · replace h7 := DF h7
   refine w_exit <| k_exit_then <| k_exit_then <| k_exit_same <| KK hK2 <| WS fun _ hK38 => rS (MV rfl) <| rS (MV rfl) <| rS (AG rfl) <| rS (AG rfl) ?_
   refine RK hK38 <| w_ret ?_
   refine hQ _ _ _ (l_nil (vs := [(Value.slice fa fl.length fc), (Value.bool bo)]) ⟨rfl, rfl, trivial⟩ fun w hs => endX (fl, fa, fc, bo) [0] ?_ ?_ rfl rfl rfl hs)
   · rfl
   · (rw [show 2 ^ l.length = zz by omega]; exact hl2_1)
 replace h7 := DT h7
 refine WK hK6 <| w_seq fun _ hK8 => w_block <| WS fun _ hK9 => rS (MV rfl) <| rS (AG rfl) <| RK hK9 <| WS fun _ hK10 => rS (AG rfl) <| RK hK10 ?_
 refine w_seq fun _ hK11 => WS fun _ hK12 => rS (MV rfl) <| rS (LN rfl ut25) <| rS (MV rfl) <| RK hK12 <| w_block <| w_own_nil 3 1 ?_
 have hinit : (0 ≤ l.length) := by exact Nat.zero_le _
 refine w_loop (ι := { z : Nat × (Option Addr) × Nat // (z.1 ≤ l.length) }) (fun z => [(0, (Value.slice lA l.length lC)), (1, f), (4, (Value.slice fa fl.length fc)), (5, (Value.bool bo)), (6, (Value.int .i64 ((zz : Nat) : Int))), (7, (Value.slice z.1.2.1 ((idxL z.1.1 (bitS zz)).length) z.1.2.2)), (11, (Value.int .i64 ((2 ^ l.length : Nat) : Int))), (12, (Value.int .i64 ((zz : Nat) : Int))), (15, (Value.slice lA l.length lC)), (16, (Value.int .i64 ((l.length : Nat) : Int))), (17, (Value.int .i64 ((z.1.1 : Nat) : Int)))]) (fun z => [(own z.1.2.1 z.1.2.2 3 1 ((idxL z.1.1 (bitS zz)).map iC)), (own fa fc 3 1 (fl.map iC)), (rd lA l.length 7 (l.map PostV.cells)).ro, X.ro]) (fun z => l.length - z.1.1) ⟨(0, none, 0), hinit⟩ (Sub.cons rfl <| Sub.cons rfl <| Sub.cons rfl <| Sub.cons rfl <| Sub.cons rfl <| Sub.cons rfl <| Sub.cons rfl <| Sub.cons rfl <| Sub.cons rfl <| Sub.cons rfl <| Sub.cons rfl <| Sub.nil _) (fun w hs => St.sel [0, 1, 2, 3] rfl rfl hs) ?_
 clear hinit
 rintro ⟨⟨j, la, lc⟩, hl6_0⟩ J13 hJ13
 try dsimp only at hl6_0
 try dsimp only
 refine WS fun _ hK14 => rS (BI rfl b_lss) <| RK hK14 <| w_seq fun _ hK15 => ?_
 refine w_if rfl (fun h16 => ?_) (fun h16 => ?_)
 · replace h16 := DT h16
   refine WK hK15 <| w_seq fun _ hK17 => w_block <| WS fun _ hK18 => rS (MV rfl) <| rS (AG rfl) <| RK hK18 <| WS fun _ hK19 => rS (MV rfl) <| rS (MV rfl) ?_
   refine rS (BI rfl (b_shrN (i := j) (by omega) (by omega))) <| rS (BI rfl (b_and1 (m := (zz / 2 ^ j)) (by omega) (Nat.lt_of_le_of_lt (Nat.div_le_self _ _) (by omega)))) <| rS (BI rfl b_eql) <| RK hK19 ?_
   refine w_if rfl (fun hg24 => ?_) (fun hg24 => ?_)
   rotate_left 1
   · replace hg24 := DF hg24
     refine w_skip <| k_block <| KK hK17 <| w_region <| rS (BI rfl (b_add ⟨by omega, by omega⟩)) <| rS (MV rfl) <| r_nil ?_
     rw [show (idxL j (bitS zz)) = (idxL (j + 1) (bitS zz)) from (idxL_no (fun q => hg24 (bit_iff.2 q))).symm]
     have hb24 : (Value.int .i64 (((j + 1) : Nat) : Int)) = (Value.int .i64 (((j : Nat) : Int) + 1)) := by exact congrArg (Value.int .i64) (by omega)
     refine k_then (hJ13 ⟨((j + 1), la, lc), (by first | omega | (simp only []; omega))⟩ _ _ _ rfl (by first | omega | (simp; omega)) (Sub.cons rfl <| Sub.cons rfl <| Sub.cons rfl <| Sub.cons rfl <| Sub.cons rfl <| Sub.cons rfl <| Sub.cons rfl <| Sub.cons rfl <| Sub.cons rfl <| Sub.cons rfl <| sub_val rfl hb24 <| Sub.nil _) (fun w hs => St.sel [0, 1, 2, 3] rfl rfl hs))
   replace hg24 := DT hg24
   refine w_region <| rS (MV rfl) <| rS (MV rfl) <| r_bs (xs := [.tmp 26]) (cs := [(Value.int .i64 ((j : Nat) : Int))]) rfl te33 tz3 rfl rfl rfl rfl (by simp [Value.cells]) rfl rfl fun b20 => r_append (es2 := (List.map iC (idxL (j + 1) (bitS zz)))) (m' := (idxL (j + 1) (bitS zz)).length) 1 rfl rfl rfl ta33 rfl rfl (by simp) (has_rd_blk (es := List.map iC [((j : Nat) : Int)]) 0 rfl rfl (by simp [iC_length]) rfl) (one_iC _) (by have := idxL_len (n := j) (p := bitS zz); omega) (by have := idxL_len (n := j) (p := bitS zz); simp only [maxLen]; omega) (by rw [idxL_yes (p := bitS zz) (bit_iff.1 hg24)]; simp) (by simp) rfl fun a21 c22 => ?_
   try dsimp only
   refine rS (AG rfl) <| r_nil <| k_block <| KK hK17 <| w_region <| rS (BI rfl (b_add ⟨by omega, by omega⟩)) <| rS (MV rfl) <| r_nil ?_
   have hb23 : (Value.int .i64 (((j + 1) : Nat) : Int)) = (Value.int .i64 (((j : Nat) : Int) + 1)) := by exact congrArg (Value.int .i64) (by omega)
   refine k_then (hJ13 ⟨((j + 1), a21, c22), (by first | omega | (simp only []; omega))⟩ _ _ _ rfl (by first | omega | (simp; omega)) (Sub.cons rfl <| Sub.cons rfl <| Sub.cons rfl <| Sub.cons rfl <| Sub.cons rfl <| Sub.cons rfl <| Sub.cons rfl <| Sub.cons rfl <| Sub.cons rfl <| Sub.cons rfl <| sub_val rfl hb23 <| Sub.nil _) (fun w hs => St.sel [1, 2, 3, 4] rfl rfl hs))
 replace h16 := DF h16
 refine w_exit <| k_exit_then <| k_exit_then <| k_exit_same <| KK hK11 <| w_seq fun _ hK25 => WS fun _ hK26 => ?_
 have hal := idxL_len (n := l.length) (p := bitS zz)
 rw [show idxL j (bitS zz) = idxL l.length (bitS zz) from by rw [show j = l.length by omega]]
 refine rS (MV rfl) <| rS (MV rfl) ?_
 refine r_bool (t := 31) rfl (fun hg31 => ?_) (fun hg31 => ?_)
 rotate_left 1
 · refine rS (OX rfl) ?_
   refine rS (OX rfl) <| rS (OX rfl) <| rS (OX rfl) <| rS (OX rfl) <| rS (OX rfl) <| rS (OX rfl) <| rS (OX rfl) <| rS (OX rfl) <| rS (OX rfl) <| rS (OX rfl) ?_
   refine rS (OX rfl) <| rS (OX rfl) <| rS (OX rfl) <| rS (OX rfl) <| rS (OX rfl) <| rS (OX rfl) <| rS (OX rfl) <| rS (PK rfl) <| RK hK26 <| w_if_false rfl ?_
   refine WK hK25 <| WS fun _ hK35 => rS (MV rfl) <| rS (MV rfl) <| rS (SX (sd_clo rfl rfl rfl (hf ((zz : Nat) : Int) ⟨zz, rfl, by omega⟩) (ha_at 3 rfl rfl <| ha_nil)) rfl rfl) <| RK hK35 ?_
   refine w_if rfl (fun hg53 => ?_) (fun hg53 => ?_)
   rotate_left 1
   · refine w_skip ?_
     refine k_block <| KK hK8 <| w_region <| rS (BI rfl (b_add ⟨by omega, by omega⟩)) <| rS (MV rfl) <| r_nil ?_
     have hb37 : (Value.int .i64 (((zz + 1) : Nat) : Int)) = (Value.int .i64 (((zz : Nat) : Int) + 1)) := by exact congrArg (Value.int .i64) (by omega)
     refine k_then (hJ4 ⟨((zz + 1), fl, fa, fc, bo), ⟨by dsimp only; omega, by dsimp only; first | exact best_worse hl2_1 hg31 (by unfold Worse; omega) | exact best_no hl2_1 hg53 | exact best_yes hl2_1 (fun hb => by first | exact absurd (hg31.symm.trans hb) Bool.false_ne_true | (unfold Worse; omega)) hg53, by dsimp only; omega⟩⟩ _ _ _ rfl (by first | omega | (simp; omega)) (Sub.cons rfl <| Sub.cons rfl <| Sub.cons rfl <| Sub.cons rfl <| Sub.cons rfl <| sub_val rfl hb37 <| Sub.nil _) (fun w hs => St.sel [1, 2, 3] rfl rfl hs))
   refine w_region <| rS (MV rfl) <| rS (AG rfl) <| rS (AG rfl) <| r_nil <| k_block <| KK hK8 <| w_region <| rS (BI rfl (b_add ⟨by omega, by omega⟩)) <| rS (MV rfl) ?_
   refine r_nil ?_
   have hb36 : (Value.int .i64 (((zz + 1) : Nat) : Int)) = (Value.int .i64 (((zz : Nat) : Int) + 1)) := by exact congrArg (Value.int .i64) (by omega)
   refine k_then (hJ4 ⟨((zz + 1), (idxL l.length (bitS zz)), la, lc, true), ⟨by dsimp only; omega, by dsimp only; first | exact best_worse hl2_1 hg31 (by unfold Worse; omega) | exact best_no hl2_1 hg53 | exact best_yes hl2_1 (fun hb => by first | exact absurd (hg31.symm.trans hb) Bool.false_ne_true | (unfold Worse; omega)) hg53, by dsimp only; omega⟩⟩ _ _ _ rfl (by first | omega | (simp; omega)) (Sub.cons rfl <| Sub.cons rfl <| Sub.cons rfl <| Sub.cons rfl <| Sub.cons rfl <| sub_val rfl hb36 <| Sub.nil _) (fun w hs => St.sel [0, 2, 3] rfl rfl hs))
 refine rS (MV rfl) <| rS (LN rfl ut33) <| rS (MV rfl) <| rS (LN rfl ut33) <| rS (BI rfl b_gtr) <| rS (MV rfl) ?_
 refine r_bool (t := 37) rfl (fun hg37 => ?_) (fun hg37 => ?_)
 · replace hg37 := DT hg37
   refine rS (OX rfl) <| rS (OX rfl) <| rS (OX rfl) <| rS (OX rfl) <| rS (OX rfl) <| rS (OX rfl) <| rS (OX rfl) <| rS (OX rfl) <| rS (OX rfl) <| rS (OX rfl) ?_
   refine rS (OX rfl) <| rS (PK rfl) <| rS (PK rfl) <| RK hK26 <| w_if_true rfl <| w_exit <| k_exit_then <| k_exit_same <| KK hK8 <| w_region ?_
   refine rS (BI rfl (b_add ⟨by omega, by omega⟩)) <| rS (MV rfl) <| r_nil ?_
   have hb27 : (Value.int .i64 (((zz + 1) : Nat) : Int)) = (Value.int .i64 (((zz : Nat) : Int) + 1)) := by exact congrArg (Value.int .i64) (by omega)
   refine k_then (hJ4 ⟨((zz + 1), fl, fa, fc, bo), ⟨by dsimp only; omega, by dsimp only; first | exact best_worse hl2_1 hg31 (by unfold Worse; omega) | exact best_no hl2_1 hg53 | exact best_yes hl2_1 (fun hb => by first | exact absurd (hg31.symm.trans hb) Bool.false_ne_true | (unfold Worse; omega)) hg53, by dsimp only; omega⟩⟩ _ _ _ rfl (by first | omega | (simp; omega)) (Sub.cons rfl <| Sub.cons rfl <| Sub.cons rfl <| Sub.cons rfl <| Sub.cons rfl <| sub_val rfl hb27 <| Sub.nil _) (fun w hs => St.sel [1, 2, 3] rfl rfl hs))
 replace hg37 := DF hg37
 refine rS (MV rfl) <| rS (LN rfl ut33) <| rS (MV rfl) <| rS (LN rfl ut33) <| rS (BI rfl b_eql) <| rS (MV rfl) ?_
 refine r_bool (t := 43) rfl (fun hg43 => ?_) (fun hg43 => ?_)
 rotate_left 1
 · replace hg43 := DF hg43
   refine rS (OX rfl) <| rS (OX rfl) <| rS (OX rfl) <| rS (OX rfl) <| rS (PK rfl) <| rS (PK rfl) <| rS (PK rfl) <| RK hK26 <| w_if_false rfl <| WK hK25 ?_
   refine WS fun _ hK32 => rS (MV rfl) <| rS (MV rfl) <| rS (SX (sd_clo rfl rfl rfl (hf ((zz : Nat) : Int) ⟨zz, rfl, by omega⟩) (ha_at 3 rfl rfl <| ha_nil)) rfl rfl) <| RK hK32 ?_
   refine w_if rfl (fun hg53 => ?_) (fun hg53 => ?_)
   rotate_left 1
   · refine w_skip ?_
     refine k_block <| KK hK8 <| w_region <| rS (BI rfl (b_add ⟨by omega, by omega⟩)) <| rS (MV rfl) <| r_nil ?_
     have hb34 : (Value.int .i64 (((zz + 1) : Nat) : Int)) = (Value.int .i64 (((zz : Nat) : Int) + 1)) := by exact congrArg (Value.int .i64) (by omega)
     refine k_then (hJ4 ⟨((zz + 1), fl, fa, fc, bo), ⟨by dsimp only; omega, by dsimp only; first | exact best_worse hl2_1 hg31 (by unfold Worse; omega) | exact best_no hl2_1 hg53 | exact best_yes hl2_1 (fun hb => by first | exact absurd (hg31.symm.trans hb) Bool.false_ne_true | (unfold Worse; omega)) hg53, by dsimp only; omega⟩⟩ _ _ _ rfl (by first | omega | (simp; omega)) (Sub.cons rfl <| Sub.cons rfl <| Sub.cons rfl <| Sub.cons rfl <| Sub.cons rfl <| sub_val rfl hb34 <| Sub.nil _) (fun w hs => St.sel [1, 2, 3] rfl rfl hs))
   refine w_region <| rS (MV rfl) <| rS (AG rfl) <| rS (AG rfl) <| r_nil <| k_block <| KK hK8 <| w_region <| rS (BI rfl (b_add ⟨by omega, by omega⟩)) <| rS (MV rfl) ?_
   refine r_nil ?_
   have hb33 : (Value.int .i64 (((zz + 1) : Nat) : Int)) = (Value.int .i64 (((zz : Nat) : Int) + 1)) := by exact congrArg (Value.int .i64) (by omega)
   refine k_then (hJ4 ⟨((zz + 1), (idxL l.length (bitS zz)), la, lc, true), ⟨by dsimp only; omega, by dsimp only; first | exact best_worse hl2_1 hg31 (by unfold Worse; omega) | exact best_no hl2_1 hg53 | exact best_yes hl2_1 (fun hb => by first | exact absurd (hg31.symm.trans hb) Bool.false_ne_true | (unfold Worse; omega)) hg53, by dsimp only; omega⟩⟩ _ _ _ rfl (by first | omega | (simp; omega)) (Sub.cons rfl <| Sub.cons rfl <| Sub.cons rfl <| Sub.cons rfl <| Sub.cons rfl <| sub_val rfl hb33 <| Sub.nil _) (fun w hs => St.sel [0, 2, 3] rfl rfl hs))
 replace hg43 := DT hg43
 refine rS (MV rfl) <| rS (MV rfl) <| rS (CL (scompare_c (idxL l.length (bitS zz)) la lc fl fa fc (by omega) (by omega)) (ha_cons (has_own_n (n := (idxL l.length (bitS zz)).length) 0 rfl (by simp)) <| ha_cons (has_own_n (n := fl.length) 1 rfl (by simp)) <| ha_nil) rfl) <| rS (BI rfl b_gtr) <| rS (PK rfl) <| rS (PK rfl) <| rS (PK rfl) <| RK hK26 ?_
 refine w_if rfl (fun hg50 => ?_) (fun hg50 => ?_)
 · replace hg50 := DT hg50
   refine w_exit <| k_exit_then <| k_exit_same <| KK hK8 <| w_region <| rS (BI rfl (b_add ⟨by omega, by omega⟩)) <| rS (MV rfl) <| r_nil ?_
   have hb28 : (Value.int .i64 (((zz + 1) : Nat) : Int)) = (Value.int .i64 (((zz : Nat) : Int) + 1)) := by exact congrArg (Value.int .i64) (by omega)
   refine k_then (hJ4 ⟨((zz + 1), fl, fa, fc, bo), ⟨by dsimp only; omega, by dsimp only; first | exact best_worse hl2_1 hg31 (by unfold Worse; omega) | exact best_no hl2_1 hg53 | exact best_yes hl2_1 (fun hb => by first | exact absurd (hg31.symm.trans hb) Bool.false_ne_true | (unfold Worse; omega)) hg53, by dsimp only; omega⟩⟩ _ _ _ rfl (by first | omega | (simp; omega)) (Sub.cons rfl <| Sub.cons rfl <| Sub.cons rfl <| Sub.cons rfl <| Sub.cons rfl <| sub_val rfl hb28 <| Sub.nil _) (fun w hs => St.sel [1, 2, 3] rfl rfl hs))
 replace hg50 := DF hg50
 refine WK hK25 <| WS fun _ hK29 => rS (MV rfl) <| rS (MV rfl) <| rS (SX (sd_clo rfl rfl rfl (hf ((zz : Nat) : Int) ⟨zz, rfl, by omega⟩) (ha_at 3 rfl rfl <| ha_nil)) rfl rfl) <| RK hK29 ?_
 refine w_if rfl (fun hg53 => ?_) (fun hg53 => ?_)
 rotate_left 1
 · refine w_skip ?_
   refine k_block <| KK hK8 <| w_region <| rS (BI rfl (b_add ⟨by omega, by omega⟩)) <| rS (MV rfl) <| r_nil ?_
   have hb31 : (Value.int .i64 (((zz + 1) : Nat) : Int)) = (Value.int .i64 (((zz : Nat) : Int) + 1)) := by exact congrArg (Value.int .i64) (by omega)
   refine k_then (hJ4 ⟨((zz + 1), fl, fa, fc, bo), ⟨by dsimp only; omega, by dsimp only; first | exact best_worse hl2_1 hg31 (by unfold Worse; omega) | exact best_no hl2_1 hg53 | exact best_yes hl2_1 (fun hb => by first | exact absurd (hg31.symm.trans hb) Bool.false_ne_true | (unfold Worse; omega)) hg53, by dsimp only; omega⟩⟩ _ _ _ rfl (by first | omega | (simp; omega)) (Sub.cons rfl <| Sub.cons rfl <| Sub.cons rfl <| Sub.cons rfl <| Sub.cons rfl <| sub_val rfl hb31 <| Sub.nil _) (fun w hs => St.sel [1, 2, 3] rfl rfl hs))
 refine w_region <| rS (MV rfl) <| rS (AG rfl) <| rS (AG rfl) <| r_nil <| k_block <| KK hK8 <| w_region <| rS (BI rfl (b_add ⟨by omega, by omega⟩)) <| rS (MV rfl) ?_
 refine r_nil ?_
 have hb30 : (Value.int .i64 (((zz + 1) : Nat) : Int)) = (Value.int .i64 (((zz : Nat) : Int) + 1)) := by exact congrArg (Value.int .i64) (by omega)
 refine k_then (hJ4 ⟨((zz + 1), (idxL l.length (bitS zz)), la, lc, true), ⟨by dsimp only; omega, by dsimp only; first | exact best_worse hl2_1 hg31 (by unfold Worse; omega) | exact best_no hl2_1 hg53 | exact best_yes hl2_1 (fun hb => by first | exact absurd (hg31.symm.trans hb) Bool.false_ne_true | (unfold Worse; omega)) hg53, by dsimp only; omega⟩⟩ _ _ _ rfl (by first | omega | (simp; omega)) (Sub.cons rfl <| Sub.cons rfl <| Sub.cons rfl <| Sub.cons rfl <| Sub.cons rfl <| sub_val rfl hb30 <| Sub.nil _) (fun w hs => St.sel [0, 2, 3] rfl rfl hs))
end
section
open Go.RowKit
set_option linter.unusedVariables false
set_option maxRecDepth 100000 in
set_option maxHeartbeats 400000 in
theorem few1_c (x : Int) (d : GuardM) (kA : Option Addr) (kC : Nat) (pA : Option Addr) (pC : Nat) (nA : Option Addr) (nC : Nat) (tz : List RA) (tA : Option Addr) (tC : Nat) (gw : Nat) (g1 : Nat) (hin : GuardIn d) (htr : trackOk d.Track = true) (hok : GuardOk d) (htz : tz.length = d.Posts.length) (hx : 0 ≤ x ∧ x < 256) :
    FnV Tryz.prog 29 [(Value.int .i64 x), (Value.pointer (some ⟨g1, 0, none⟩))] [(rd kA d.Track.length 9 (d.Track.map StretchV.cells)), (rd pA d.Posts.length 7 (d.Posts.map PostV.cells)), (rd nA d.Needs.length 3 (d.Needs.map NeedV.cells)), (rd tA ((timesL d).length) 1 (List.zipWith rowC (timesL d) tz)), (bun (nest rowR (timesL d) tz)), (blk gw 73 (WatchV.cells (WatchV.mk (GuardV.mk (TrackV.mk (Slc.mk kA d.Track.length kC)) (Slc.mk pA d.Posts.length pC) (Slc.mk nA d.Needs.length nC) d.Tower d.Radio) (Slc.mk tA ((timesL d).length) tC)))), (blk g1 48 [(Value.pointer (some ⟨gw, 0, none⟩))])] (Value.bool (decide (StrongP d (bitS x.toNat)))) := by
 have hlen := hin.trk
 have hside := hin.side
 have hpl := hin.pst
 have hnl := hin.nds
 have hnk := hin.nk
 have hpk := hin.pk
 obtain ⟨s, rfl⟩ : ∃ s : Nat, x = (s : Int) := ⟨x.toNat, by omega⟩
 refine fnV_of go29 Tryz.func29 rfl rfl fun w0 Q hQ hN => ?_
 try dsimp only
 refine WS fun _ hK1 => rS (AG rfl) <| RK hK1 <| WS fun _ hK2 => rS (L1Q 6 rfl tk48 rfl) <| rS (MV rfl) <| rS (CL (wstrong_c d kA kC pA pC nA nC tz tA tC gw s hin htr hok htz (by first | assumption | omega | (simp; done) | (simp; omega))) (ha_at 0 rfl rfl <| ha_at 1 rfl rfl <| ha_at 2 rfl rfl <| ha_at 3 rfl rfl <| ha_at 4 rfl rfl <| ha_at 5 rfl rfl <| ha_nil) rfl) <| rS (AG rfl) <| RK hK2 <| w_ret ?_
 exact Q1 hQ rfl rfl rfl rfl
set_option maxRecDepth 100000 in
set_option maxHeartbeats 400000 in
theorem Fewest_c (d : GuardM) (kA : Option Addr) (kC : Nat) (pA : Option Addr) (pC : Nat) (nA : Option Addr) (nC : Nat) (hin : GuardIn d) :
    FnX Tryz.prog 10 [(Value.agg (GuardV.cells (GuardV.mk (TrackV.mk (Slc.mk kA d.Track.length kC)) (Slc.mk pA d.Posts.length pC) (Slc.mk nA d.Needs.length nC) d.Tower d.Radio)).toArray)] [(rd kA d.Track.length 9 (d.Track.map StretchV.cells)), (rd pA d.Posts.length 7 (d.Posts.map PostV.cells)), (rd nA d.Needs.length 3 (d.Needs.map NeedV.cells))] (fun (x : (Option Addr) × Nat) => (Value.tuple [(Value.slice x.1 ((fewV d).length) x.2), (Value.int .i64 (fewE d))].toArray)) (fun (x : (Option Addr) × Nat) => True) (fun (x : (Option Addr) × Nat) => [(own x.1 x.2 3 1 ((fewV d).map iC))]) := by
 have hlen := hin.trk
 have hside := hin.side
 have hpl := hin.pst
 have hnl := hin.nds
 have hnk := hin.nk
 have hpk := hin.pk
 refine fnX_of go10 Tryz.func10 rfl rfl fun w0 Q hQ hN => ?_
 try dsimp only
 refine WS fun _ hK1 => BXA rfl fun b2 => rS (AG rfl) <| rS (AG rfl) <| RK hK1 <| WS fun _ hK3 => rS (LW 0 rfl tk32 rfl rfl) <| cX (popen_c d kA kC pA pC nA nC hin) (ha3 1 2 3 rfl rfl rfl rfl rfl rfl) rfl fun y4 hy5 => ?_
 obtain ⟨ok11, ec6, gw7, tA8, tC9, tz10⟩ := y4
 cases ok11
 · obtain ⟨hec, he⟩ := hy5.2 rfl
   try dsimp only at hec he
   subst hec
   try dsimp only [cond_true, cond_false, List.cons_append, List.nil_append]
   refine rS (MV rfl) <| rS (EX rfl) <| rS (EX rfl) <| AL rfl tz48 fun b12 => SO0 rfl ts48 rfl rfl <| rS (AG rfl) <| RK hK3 <| w_seq fun _ hK13 => WS fun _ hK14 => rS (MV rfl) ?_
   refine rS (BI rfl b_neq) <| RK hK14 ?_
   refine w_if rfl (fun hg13 => ?_) (fun hg13 => ?_)
   rotate_left 1
   · replace hg13 := XF hg13
     exact absurd hg13 he
   replace hg13 := XT hg13
   refine WS fun _ hK15 => rS (MV rfl) ?_
   obtain ⟨hfe, hfv⟩ := few_bad he
   refine r_own_nil 3 1 ?_
   rw [show (own none 0 3 1 ([] : List (List Value))) = own none 0 3 1 ((fewV d).map iC) from by rw [hfv]; rfl]
   refine rS (AG rfl) <| rS (AG rfl) <| RK hK15 <| w_ret ?_
   refine hQ _ _ _ (l_nil (vs := [(Value.slice none 0 0), (Value.int .i64 (guardE d))]) ⟨rfl, rfl, trivial⟩ fun w hs => endX (none, 0) [0] ?_ ?_ rfl rfl rfl hs)
   · (rw [hfe] <;> first | rfl | (rw [hfv]; rfl))
   · trivial
 obtain ⟨he, htz⟩ := hy5.1 rfl
 try dsimp only [cond_true, cond_false, List.cons_append, List.nil_append]
 obtain ⟨htr, hok⟩ := guardE_zero he
 have hn8 := hok.len
 have hp2 := pow_256 hn8.1
 refine rS (MV rfl) <| rS (EX rfl) <| rS (EX rfl) <| AL rfl tz48 fun b16 => SO0 rfl ts48 rfl rfl <| rS (AG rfl) <| RK hK3 <| w_seq fun _ hK17 => WS fun _ hK18 => rS (MV rfl) ?_
 refine rS (SX (sd_bin (r := .bool false) rfl rfl rfl b_neq) rfl rfl) <| RK hK18 <| w_if_false rfl <| WK hK17 <| WS fun _ hK19 => rS (FA 1 rfl fo32_1 rfl) <| rS (L1 (Value.slice pA d.Posts.length pC) 4 rfl tk25 rfl rfl) <| rS (FU rfl) <| cX (best_c d.Posts pA pC (Value.func (.func 29) [].toArray [(Value.pointer (some ⟨b16, 0, none⟩))].toArray) (fun u20 => (decide (StrongP d (bitS u20.toNat)))) (bun [(rd kA d.Track.length 9 (d.Track.map StretchV.cells)), (rd pA d.Posts.length 7 (d.Posts.map PostV.cells)), (rd nA d.Needs.length 3 (d.Needs.map NeedV.cells)), (rd tA8 ((timesL d).length) 1 (List.zipWith rowC (timesL d) tz10)), (bun (nest rowR (timesL d) tz10)), (blk gw7 73 (WatchV.cells (WatchV.mk (GuardV.mk (TrackV.mk (Slc.mk kA d.Track.length kC)) (Slc.mk pA d.Posts.length pC) (Slc.mk nA d.Needs.length nC) d.Tower d.Radio) (Slc.mk tA8 ((timesL d).length) tC9)))), (blk b16 48 [(Value.pointer (some ⟨gw7, 0, none⟩))])]) (by intro u20 hmem; exact clo_of (fi := []) (ca := [(Value.pointer (some ⟨b16, 0, none⟩))]) (fnV_bun (few1_c u20 d kA kC pA pC nA nC tz10 tA8 tC9 gw7 b16 (by first | assumption | (obtain ⟨z_, hz1, hz2⟩ := hmem; omega) | omega) (by first | assumption | (obtain ⟨z_, hz1, hz2⟩ := hmem; omega) | omega) (by first | assumption | (obtain ⟨z_, hz1, hz2⟩ := hmem; omega) | omega) (by first | assumption | (obtain ⟨z_, hz1, hz2⟩ := hmem; omega) | omega) (by first | assumption | (obtain ⟨z_, hz1, hz2⟩ := hmem; omega) | omega)) (ha_at 0 rfl rfl <| ha_at 1 rfl rfl <| ha_at 2 rfl rfl <| ha_at 3 rfl rfl <| ha_at 4 rfl rfl <| ha_at 5 rfl rfl <| ha_at 6 rfl rfl <| ha_nil))) (by omega)) (ha_at 6 rfl rfl <| ha_cons (has_bun (ha_at 5 rfl rfl <| ha_at 6 rfl rfl <| ha_at 7 rfl rfl <| ha_cons (has_own_n (n := (timesL d).length) 2 rfl (rows_len (by rw [timesL_len]; exact htz))) <| ha_cons (bun_bund 3 rfl rowO_R) <| ha_at 1 rfl rfl <| ha_at 0 rfl rfl <| ha_nil)) <| ha_nil) rfl fun y21 hy22 => ?_
 obtain ⟨fl23, a24, c25, bo26⟩ := y21
 try dsimp only
 have hbest := hy22
 refine rS (MV rfl) <| rS (EX rfl) <| rS (EX rfl) <| rS (AG rfl) <| rS (AG rfl) <| RK hK19 <| w_seq fun _ hK27 => WS fun _ hK28 => rS (MV rfl) <| rS (NT rfl) ?_
 refine RK hK28 ?_
 refine w_if rfl (fun hg24 => ?_) (fun hg24 => ?_)
 rotate_left 1
 · rw [Bool.not_eq_false'] at hg24
   refine WK hK27 <| WS fun _ hK30 => ?_
   try dsimp only at hbest
   obtain ⟨hfe, hfv⟩ := few_some he (by rw [hg24] at hbest; exact hbest)
   rw [← hfv]
   refine rS (MV rfl) <| rS (AG rfl) <| rS (AG rfl) <| RK hK30 <| w_ret ?_
   refine hQ _ _ _ (l_nil (vs := [(Value.slice a24 ((fewV d).length) c25), (Value.int .i64 0)]) ⟨rfl, rfl, trivial⟩ fun w hs => endX (a24, c25) [0] ?_ ?_ rfl rfl rfl hs)
   · (rw [hfe] <;> first | rfl | (rw [hfv]; rfl))
   · trivial
 rw [Bool.not_eq_true'] at hg24
 refine WS fun _ hK29 => ?_
 try dsimp only at hbest
 obtain ⟨hfe, hfv⟩ := few_none he (by rw [hg24] at hbest; exact hbest)
 refine r_own_nil 3 1 ?_
 rw [show (own none 0 3 1 ([] : List (List Value))) = own none 0 3 1 ((fewV d).map iC) from by rw [hfv]; rfl]
 refine rS (AG rfl) <| rS (AG rfl) <| RK hK29 <| w_ret ?_
 refine hQ _ _ _ (l_nil (vs := [(Value.slice none 0 0), (Value.int .i64 6)]) ⟨rfl, rfl, trivial⟩ fun w hs => endX (none, 0) [0] ?_ ?_ rfl rfl rfl hs)
 · (rw [hfe] <;> first | rfl | (rw [hfv]; rfl))
 · trivial
end
section
set_option linter.unusedVariables false
theorem up_succ {α : Type} {l : List α} {P : Nat → α → Prop} {i : Nat} {x : α} (h : ∀ (j : Nat) y, j < i → l[j]? = some y → P j y) (hx : l[i]? = some x) (hp : P i x) : ∀ (j : Nat) y, j < i + 1 → l[j]? = some y → P j y := fun j y hj hy => by
  rcases Nat.lt_or_ge j i with q | q
  · exact h j y q hy
  · obtain rfl : j = i := by omega
    rw [hx] at hy; cases hy; exact hp
theorem up_mem {α : Type} {l : List α} {P : α → Prop} {i : Nat} (hi : l.length ≤ i) (h : ∀ (j : Nat) y, j < i → l[j]? = some y → P y) : ∀ y ∈ l, P y := fun y hy => by
  obtain ⟨j, hj⟩ := List.getElem?_of_mem hy
  exact h j y (by have := (List.getElem?_eq_some_iff.1 hj).1; omega) hj
end
section
open Go.RowKit
set_option linter.unusedVariables false
set_option maxRecDepth 100000 in
set_option maxHeartbeats 400000 in
theorem within_9 (n : Int) (lo : Int) (hi : Int) :
    FnV Tryz.prog 40 [(Value.int .i64 n), (Value.int .i64 lo), (Value.int .i64 hi)] [] (Value.bool (decide (lo ≤ n ∧ n ≤ hi))) := by
 refine fnV_of go40 Tryz.func40 rfl rfl fun w0 Q hQ hN => ?_
 try dsimp only
 refine WS fun _ hK1 => rS (AG rfl) <| RK hK1 <| WS fun _ hK2 => rS (MV rfl) <| rS (MV rfl) <| rS (BI rfl b_geq) <| rS (MV rfl) ?_
 refine r_bool (t := 10) rfl (fun h3 => ?_) (fun h3 => ?_)
 rotate_left 1
 · replace h3 := DF h3
   refine rS (OX rfl) <| rS (OX rfl) <| rS (OX rfl) <| rS (PK rfl) <| rS (AG rfl) <| RK hK2 <| w_ret <| Q1 hQ rfl rfl rfl ?_
   exact congrArg Value.bool (decide_eq_false (by omega)).symm
 replace h3 := DT h3
 refine rS (MV rfl) <| rS (MV rfl) <| rS (BI rfl b_leq) <| rS (PK rfl) <| rS (AG rfl) <| RK hK2 <| w_ret <| Q1 hQ rfl rfl rfl ?_
 exact congrArg Value.bool (decide_eq_decide.2 (by omega))
set_option maxRecDepth 100000 in
set_option maxHeartbeats 400000 in
theorem pgreat_c (d : GuardM) (kA : Option Addr) (kC : Nat) (pA : Option Addr) (pC : Nat) (nA : Option Addr) (nC : Nat) (hraw : GuardRaw d) :
    FnV Tryz.prog 4 [(Value.agg (GuardV.cells (GuardV.mk (TrackV.mk (Slc.mk kA d.Track.length kC)) (Slc.mk pA d.Posts.length pC) (Slc.mk nA d.Needs.length nC) d.Tower d.Radio)).toArray)] [(rd kA d.Track.length 9 (d.Track.map StretchV.cells)), (rd pA d.Posts.length 7 (d.Posts.map PostV.cells)), (rd nA d.Needs.length 3 (d.Needs.map NeedV.cells))] (Value.bool (decide (GreatG d))) := by
 have htk := hraw.trk
 have hps := hraw.pst
 have hnd := hraw.nds
 refine fnV_of go4 Tryz.func4 rfl rfl fun w0 Q hQ hN => ?_
 try dsimp only
 refine WS fun _ hK1 => BXA rfl fun b2 => rS (AG rfl) <| RK hK1 <| WS fun _ hK3 => rS (FA 0 rfl fo32_0 rfl) <| rS (LP (TrackV.cells (TrackV.mk (Slc.mk kA d.Track.length kC))) 0 rfl tk24 rfl rfl rfl) <| rS (CL (great_c d.Track kA kC) (ha_at 1 rfl rfl <| ha_nil) rfl) <| rS (MV rfl) ?_
 refine r_bool (t := 6) rfl (fun h4 => ?_) (fun h4 => ?_)
 · replace h4 := DT h4
   refine rS (OX rfl) <| rS (OX rfl) <| rS (OX rfl) <| rS (OX rfl) <| rS (PK rfl) <| rS (MV rfl) <| rS (OX rfl) <| rS (OX rfl) <| rS (OX rfl) <| rS (OX rfl) ?_
   refine rS (PK rfl) <| rS (AG rfl) <| RK hK3 <| w_ret <| Q1 hQ rfl rfl rfl ?_
   first | exact congrArg Value.bool (decide_eq_true (by unfold GreatG; omega)).symm | exact congrArg Value.bool (decide_eq_decide.2 (by unfold GreatG; omega))
 replace h4 := DF h4
 refine rS (FA 1 rfl fo32_1 rfl) <| rS (L1 (Value.slice pA d.Posts.length pC) 0 rfl tk25 rfl rfl) <| rS (LN rfl ut25) <| rS (BI rfl b_gtr) <| rS (PK rfl) <| rS (MV rfl) ?_
 refine r_bool (t := 12) rfl (fun h5 => ?_) (fun h5 => ?_)
 · replace h5 := DT h5
   refine rS (OX rfl) <| rS (OX rfl) <| rS (OX rfl) <| rS (OX rfl) <| rS (PK rfl) <| rS (AG rfl) <| RK hK3 <| w_ret <| Q1 hQ rfl rfl rfl ?_
   first | exact congrArg Value.bool (decide_eq_true (by unfold GreatG; omega)).symm | exact congrArg Value.bool (decide_eq_decide.2 (by unfold GreatG; omega))
 replace h5 := DF h5
 refine rS (FA 2 rfl fo32_2 rfl) <| rS (L1 (Value.slice nA d.Needs.length nC) 0 rfl tk26 rfl rfl) <| rS (LN rfl ut26) <| rS (BI rfl b_gtr) <| rS (PK rfl) <| rS (AG rfl) <| RK hK3 <| w_ret <| Q1 hQ rfl rfl rfl ?_
 first | exact congrArg Value.bool (decide_eq_true (by unfold GreatG; omega)).symm | exact congrArg Value.bool (decide_eq_decide.2 (by unfold GreatG; omega))
set_option maxRecDepth 100000 in
set_option maxHeartbeats 400000 in
theorem rguard_c (d : GuardM) (kA : Option Addr) (kC : Nat) (pA : Option Addr) (pC : Nat) (nA : Option Addr) (nC : Nat) (hin : GuardIn d) (htr : trackOk d.Track = true) :
    FnV Tryz.prog 39 [(Value.agg (GuardV.cells (GuardV.mk (TrackV.mk (Slc.mk kA d.Track.length kC)) (Slc.mk pA d.Posts.length pC) (Slc.mk nA d.Needs.length nC) d.Tower d.Radio)).toArray)] [(rd kA d.Track.length 9 (d.Track.map StretchV.cells)), (rd pA d.Posts.length 7 (d.Posts.map PostV.cells)), (rd nA d.Needs.length 3 (d.Needs.map NeedV.cells))] (Value.bool (decide (GuardOk d))) := by
 have hlen := hin.trk
 have hside := hin.side
 have hpl := hin.pst
 have hnl := hin.nds
 have hnk := hin.nk
 have hpk := hin.pk
 have hst := trackOk_all htr
 have hl12 := trackOk_le htr
 refine fnV_of go39 Tryz.func39 rfl rfl fun w0 Q hQ hN => ?_
 try dsimp only
 refine WS fun _ hK1 => BXA rfl fun b2 => rS (AG rfl) <| RK hK1 <| w_seq fun _ hK3 => WS fun _ hK4 => rS (FA 1 rfl fo32_1 rfl) <| rS (L1 (Value.slice pA d.Posts.length pC) 0 rfl tk25 rfl rfl) <| rS (LN rfl ut25) <| rS (BI rfl b_gtr) ?_
 refine rS (MV rfl) ?_
 refine r_bool (t := 11) rfl (fun hg11 => ?_) (fun hg11 => ?_)
 · replace hg11 := DT hg11
   refine rS (OX rfl) <| rS (OX rfl) <| rS (OX rfl) <| rS (OX rfl) <| rS (PK rfl) <| rS (MV rfl) <| rS (OX rfl) <| rS (OX rfl) <| rS (OX rfl) <| rS (OX rfl) ?_
   refine rS (OX rfl) <| rS (OX rfl) <| rS (PK rfl) <| rS (MV rfl) <| rS (OX rfl) <| rS (OX rfl) <| rS (OX rfl) <| rS (OX rfl) <| rS (PK rfl) <| RK hK4 ?_
   refine w_if_true rfl <| WS fun _ hK5 => rS (AG rfl) <| RK hK5 <| w_ret <| Q1 hQ rfl rfl rfl ?_
   first | exact congrArg Value.bool (decide_eq_false fun q => by have q1 := q.len; omega).symm | exact congrArg Value.bool (decide_eq_false fun q => by exact absurd q.tower (by simpa using hg25)).symm | exact congrArg Value.bool (decide_eq_false fun q => by have q1 := q.radio; omega).symm | exact congrArg Value.bool (decide_eq_false fun q => by have q1 := q.post i p hp; unfold PostOk at q1; first | omega | exact absurd q1.2.2.1 (by simpa using hg78) | (rw [prevId_pos (by omega) hy] at q1; omega)).symm | exact congrArg Value.bool (decide_eq_false fun q => by have q1 := q.need n (List.mem_of_getElem? hn); unfold NeedOk at q1; omega).symm | exact congrArg Value.bool (decide_eq_true (guard_yes (by omega) (by simpa using hg25) (by omega) hl4_1 (by omega) (up_mem (P := NeedOk d.Track) (by omega) hl10_1))).symm
 replace hg11 := DF hg11
 refine rS (FA 2 rfl fo32_2 rfl) <| rS (L1 (Value.slice nA d.Needs.length nC) 0 rfl tk26 rfl rfl) <| rS (LN rfl ut26) <| rS (BI rfl b_gtr) <| rS (PK rfl) <| rS (MV rfl) ?_
 refine r_bool (t := 17) rfl (fun hg17 => ?_) (fun hg17 => ?_)
 · replace hg17 := DT hg17
   refine rS (OX rfl) <| rS (OX rfl) <| rS (OX rfl) <| rS (OX rfl) <| rS (OX rfl) <| rS (OX rfl) <| rS (PK rfl) <| rS (MV rfl) <| rS (OX rfl) <| rS (OX rfl) ?_
   refine rS (OX rfl) <| rS (OX rfl) <| rS (PK rfl) <| RK hK4 <| w_if_true rfl <| WS fun _ hK6 => rS (AG rfl) <| RK hK6 <| w_ret <| Q1 hQ rfl rfl rfl ?_
   first | exact congrArg Value.bool (decide_eq_false fun q => by have q1 := q.len; omega).symm | exact congrArg Value.bool (decide_eq_false fun q => by exact absurd q.tower (by simpa using hg25)).symm | exact congrArg Value.bool (decide_eq_false fun q => by have q1 := q.radio; omega).symm | exact congrArg Value.bool (decide_eq_false fun q => by have q1 := q.post i p hp; unfold PostOk at q1; first | omega | exact absurd q1.2.2.1 (by simpa using hg78) | (rw [prevId_pos (by omega) hy] at q1; omega)).symm | exact congrArg Value.bool (decide_eq_false fun q => by have q1 := q.need n (List.mem_of_getElem? hn); unfold NeedOk at q1; omega).symm | exact congrArg Value.bool (decide_eq_true (guard_yes (by omega) (by simpa using hg25) (by omega) hl4_1 (by omega) (up_mem (P := NeedOk d.Track) (by omega) hl10_1))).symm
 replace hg17 := DF hg17
 refine rS (FA 0 rfl fo32_0 rfl) <| rS (LP (TrackV.cells (TrackV.mk (Slc.mk kA d.Track.length kC))) 0 rfl tk24 rfl rfl rfl) <| rS (FA 3 rfl fo32_3 rfl) <| rS (LP (SpotV.cells d.Tower) 0 rfl tk30 rfl rfl rfl) <| rS (CL (rspot_c d.Track kA kC d.Tower (by first | assumption | omega | (simp; done) | (simp; omega)) (by first | assumption | omega | (simp; done) | (simp; omega))) (ha_at 1 rfl rfl <| ha_nil) rfl) <| rS (NT rfl) <| rS (PK rfl) <| rS (MV rfl) ?_
 refine r_bool (t := 25) rfl (fun hg25 => ?_) (fun hg25 => ?_)
 · replace hg25 := XT hg25
   refine rS (OX rfl) <| rS (OX rfl) <| rS (OX rfl) <| rS (OX rfl) <| rS (PK rfl) <| RK hK4 <| w_if_true rfl <| WS fun _ hK7 => rS (AG rfl) <| RK hK7 ?_
   refine w_ret <| Q1 hQ rfl rfl rfl ?_
   first | exact congrArg Value.bool (decide_eq_false fun q => by have q1 := q.len; omega).symm | exact congrArg Value.bool (decide_eq_false fun q => by exact absurd q.tower (by simpa using hg25)).symm | exact congrArg Value.bool (decide_eq_false fun q => by have q1 := q.radio; omega).symm | exact congrArg Value.bool (decide_eq_false fun q => by have q1 := q.post i p hp; unfold PostOk at q1; first | omega | exact absurd q1.2.2.1 (by simpa using hg78) | (rw [prevId_pos (by omega) hy] at q1; omega)).symm | exact congrArg Value.bool (decide_eq_false fun q => by have q1 := q.need n (List.mem_of_getElem? hn); unfold NeedOk at q1; omega).symm | exact congrArg Value.bool (decide_eq_true (guard_yes (by omega) (by simpa using hg25) (by omega) hl4_1 (by omega) (up_mem (P := NeedOk d.Track) (by omega) hl10_1))).symm
 replace hg25 := XF hg25
 refine rS (FA 6 rfl fo32_4 rfl) <| rS (L1 (Value.int .i64 d.Radio) 0 rfl tk3 rfl rfl) <| rS (CL (within_9 d.Radio 0 400000) (ha_nil) rfl) <| rS (NT rfl) <| rS (PK rfl) <| RK hK4 ?_
 refine w_if rfl (fun hg30 => ?_) (fun hg30 => ?_)
 · replace hg30 := XT hg30
   refine WS fun _ hK8 => rS (AG rfl) <| RK hK8 <| w_ret <| Q1 hQ rfl rfl rfl ?_
   first | exact congrArg Value.bool (decide_eq_false fun q => by have q1 := q.len; omega).symm | exact congrArg Value.bool (decide_eq_false fun q => by exact absurd q.tower (by simpa using hg25)).symm | exact congrArg Value.bool (decide_eq_false fun q => by have q1 := q.radio; omega).symm | exact congrArg Value.bool (decide_eq_false fun q => by have q1 := q.post i p hp; unfold PostOk at q1; first | omega | exact absurd q1.2.2.1 (by simpa using hg78) | (rw [prevId_pos (by omega) hy] at q1; omega)).symm | exact congrArg Value.bool (decide_eq_false fun q => by have q1 := q.need n (List.mem_of_getElem? hn); unfold NeedOk at q1; omega).symm | exact congrArg Value.bool (decide_eq_true (guard_yes (by omega) (by simpa using hg25) (by omega) hl4_1 (by omega) (up_mem (P := NeedOk d.Track) (by omega) hl10_1))).symm
 replace hg30 := XF hg30
 refine WK hK3 <| w_seq fun _ hK9 => WS fun _ hK10 => rS (AG rfl) <| RK hK10 <| w_block ?_
 have hinit : (0 ≤ d.Posts.length) ∧ (PostsTo d 0) := by exact ⟨Nat.zero_le _, posts_zero⟩
 refine w_loop (ι := { z : Nat // (z ≤ d.Posts.length) ∧ (PostsTo d z) }) (fun z => [(1, (Value.pointer (some ⟨b2, 0, none⟩))), (3, (Value.int .i64 ((z.1 : Nat) : Int)))]) (fun z => [(blk b2 32 (GuardV.cells (GuardV.mk (TrackV.mk (Slc.mk kA d.Track.length kC)) (Slc.mk pA d.Posts.length pC) (Slc.mk nA d.Needs.length nC) d.Tower d.Radio))), (rd kA d.Track.length 9 (d.Track.map StretchV.cells)).ro, (rd pA d.Posts.length 7 (d.Posts.map PostV.cells)).ro, (rd nA d.Needs.length 3 (d.Needs.map NeedV.cells)).ro]) (fun z => d.Posts.length - z.1) ⟨0, hinit⟩ (Sub.cons rfl <| Sub.cons rfl <| Sub.nil _) (fun w hs => St.sel [0, 1, 2, 3] rfl rfl hs) ?_
 clear hinit
 rintro ⟨i, ⟨hl4_0, hl4_1⟩⟩ J11 hJ11
 try dsimp only
 refine w_seq fun _ hK12 => WS fun _ hK13 => rS (MV rfl) <| rS (FA 1 rfl fo32_1 rfl) <| rS (L1 (Value.slice pA d.Posts.length pC) 0 rfl tk25 rfl rfl) <| rS (LN rfl ut25) <| rS (BI rfl b_lss) <| RK hK13 ?_
 refine w_if rfl (fun h14 => ?_) (fun h14 => ?_)
 rotate_left 1
 · replace h14 := DF h14
   refine w_exit <| k_exit_then <| k_exit_then <| k_exit_same <| KK hK9 <| w_seq fun _ hK31 => WS fun _ hK32 => rS (AG rfl) <| RK hK32 <| w_block ?_
   have hinit : (0 ≤ d.Needs.length) ∧ (∀ (j : Nat) y, j < 0 → d.Needs[j]? = some y → NeedOk d.Track y) := by exact ⟨Nat.zero_le _, fun j y hj => absurd hj (Nat.not_lt_zero _)⟩
   refine w_loop (ι := { z : Nat // (z ≤ d.Needs.length) ∧ (∀ (j : Nat) y, j < z → d.Needs[j]? = some y → NeedOk d.Track y) }) (fun z => [(1, (Value.pointer (some ⟨b2, 0, none⟩))), (5, (Value.int .i64 ((z.1 : Nat) : Int)))]) (fun z => [(blk b2 32 (GuardV.cells (GuardV.mk (TrackV.mk (Slc.mk kA d.Track.length kC)) (Slc.mk pA d.Posts.length pC) (Slc.mk nA d.Needs.length nC) d.Tower d.Radio))), (rd kA d.Track.length 9 (d.Track.map StretchV.cells)).ro, (rd pA d.Posts.length 7 (d.Posts.map PostV.cells)).ro, (rd nA d.Needs.length 3 (d.Needs.map NeedV.cells)).ro]) (fun z => d.Needs.length - z.1) ⟨0, hinit⟩ (Sub.cons rfl <| Sub.cons rfl <| Sub.nil _) (fun w hs => St.sel [0, 1, 2, 3] rfl rfl hs) ?_
   clear hinit
   rintro ⟨m, ⟨hl10_0, hl10_1⟩⟩ J33 hJ33
   try dsimp only
   refine w_seq fun _ hK34 => WS fun _ hK35 => rS (MV rfl) <| rS (FA 2 rfl fo32_2 rfl) <| rS (L1 (Value.slice nA d.Needs.length nC) 0 rfl tk26 rfl rfl) <| rS (LN rfl ut26) <| rS (BI rfl b_lss) <| RK hK35 ?_
   refine w_if rfl (fun h36 => ?_) (fun h36 => ?_)
   rotate_left 1
   · replace h36 := DF h36
     refine w_exit <| k_exit_then <| k_exit_then <| k_exit_same <| KK hK31 <| WS fun _ hK45 => rS (AG rfl) <| RK hK45 <| w_ret <| Q1 hQ rfl rfl rfl ?_
     first | exact congrArg Value.bool (decide_eq_false fun q => by have q1 := q.len; omega).symm | exact congrArg Value.bool (decide_eq_false fun q => by exact absurd q.tower (by simpa using hg25)).symm | exact congrArg Value.bool (decide_eq_false fun q => by have q1 := q.radio; omega).symm | exact congrArg Value.bool (decide_eq_false fun q => by have q1 := q.post i p hp; unfold PostOk at q1; first | omega | exact absurd q1.2.2.1 (by simpa using hg78) | (rw [prevId_pos (by omega) hy] at q1; omega)).symm | exact congrArg Value.bool (decide_eq_false fun q => by have q1 := q.need n (List.mem_of_getElem? hn); unfold NeedOk at q1; omega).symm | exact congrArg Value.bool (decide_eq_true (guard_yes (by omega) (by simpa using hg25) (by omega) hl4_1 (by omega) (up_mem (P := NeedOk d.Track) (by omega) hl10_1))).symm
   replace h36 := DT h36
   refine WK hK34 <| w_seq fun _ hK37 => w_block <| WS fun _ hK38 => rS (FA 2 rfl fo32_2 rfl) <| rS (L1 (Value.slice nA d.Needs.length nC) 0 rfl tk26 rfl rfl) <| rS (MV rfl) ?_
   obtain ⟨n, hn⟩ : ∃ y_, d.Needs[m]? = some y_ := ⟨d.Needs[m]'(by omega), List.getElem?_eq_getElem _⟩
   have hnm : (d.Needs.map NeedV.cells)[m]? = some (NeedV.cells n) := by rw [List.getElem?_map, hn]; rfl
   refine rS (IA m rfl (has_at 3 rfl) te26 (by decide) (by omega) (by omega)) <| rS (LEN m 0 (NeedV.cells n) rfl tk69 (has_at 3 rfl) hnm rfl (by decide) rfl rfl) <| AL rfl tz69 fun b39 => SW0 rfl ts69 rfl <| RK hK38 <| WS fun _ hK40 => ?_
   have hnkk := hnk n (List.mem_of_getElem? hn)
   refine rS (FA 0 rfl fo69_0 rfl) <| rS (L1 (Value.int .i64 n.Stretch) 0 rfl tk3 rfl rfl) <| rS (FA 0 rfl fo32_0 rfl) <| rS (FA 0 rfl fo24_0 rfl) <| rS (L1 (Value.slice kA d.Track.length kC) 1 rfl tk22 rfl rfl) <| rS (LN rfl ut22) <| rS (BI rfl (b_sub ⟨by omega, by omega⟩)) <| rS (CL (within_9 n.Stretch 0 (((d.Track.length : Nat) : Int) - 1)) (ha_nil) rfl) <| rS (NT rfl) <| rS (MV rfl) ?_
   refine r_bool (t := 111) rfl (fun hg111 => ?_) (fun hg111 => ?_)
   · replace hg111 := XT hg111
     refine rS (OX rfl) <| rS (OX rfl) <| rS (OX rfl) <| rS (OX rfl) <| rS (OX rfl) <| rS (PK rfl) <| rS (MV rfl) <| rS (OX rfl) <| rS (OX rfl) <| rS (OX rfl) ?_
     refine rS (OX rfl) <| rS (PK rfl) <| RK hK40 <| w_if_true rfl <| WS fun _ hK41 => rS (AG rfl) <| RK hK41 <| w_ret <| Q1 hQ rfl rfl rfl ?_
     first | exact congrArg Value.bool (decide_eq_false fun q => by have q1 := q.len; omega).symm | exact congrArg Value.bool (decide_eq_false fun q => by exact absurd q.tower (by simpa using hg25)).symm | exact congrArg Value.bool (decide_eq_false fun q => by have q1 := q.radio; omega).symm | exact congrArg Value.bool (decide_eq_false fun q => by have q1 := q.post i p hp; unfold PostOk at q1; first | omega | exact absurd q1.2.2.1 (by simpa using hg78) | (rw [prevId_pos (by omega) hy] at q1; omega)).symm | exact congrArg Value.bool (decide_eq_false fun q => by have q1 := q.need n (List.mem_of_getElem? hn); unfold NeedOk at q1; omega).symm | exact congrArg Value.bool (decide_eq_true (guard_yes (by omega) (by simpa using hg25) (by omega) hl4_1 (by omega) (up_mem (P := NeedOk d.Track) (by omega) hl10_1))).symm
   replace hg111 := XF hg111
   refine rS (FA 1 rfl fo69_1 rfl) <| rS (L1 (Value.int .u8 n.Kind) 0 rfl tk5 rfl rfl) <| rS (SX (sd_conv (m := n.Kind) rfl rfl ut5 ut3 (wrap_u8_i64 (by first | assumption | omega))) rfl rfl) <| rS (CL (within_9 n.Kind 1 3) (ha_nil) rfl) <| rS (NT rfl) <| rS (PK rfl) <| rS (MV rfl) ?_
   refine r_bool (t := 118) rfl (fun hg118 => ?_) (fun hg118 => ?_)
   · replace hg118 := XT hg118
     refine rS (OX rfl) <| rS (OX rfl) <| rS (OX rfl) <| rS (OX rfl) <| rS (PK rfl) <| RK hK40 <| w_if_true rfl <| WS fun _ hK42 => rS (AG rfl) <| RK hK42 ?_
     refine w_ret <| Q1 hQ rfl rfl rfl ?_
     first | exact congrArg Value.bool (decide_eq_false fun q => by have q1 := q.len; omega).symm | exact congrArg Value.bool (decide_eq_false fun q => by exact absurd q.tower (by simpa using hg25)).symm | exact congrArg Value.bool (decide_eq_false fun q => by have q1 := q.radio; omega).symm | exact congrArg Value.bool (decide_eq_false fun q => by have q1 := q.post i p hp; unfold PostOk at q1; first | omega | exact absurd q1.2.2.1 (by simpa using hg78) | (rw [prevId_pos (by omega) hy] at q1; omega)).symm | exact congrArg Value.bool (decide_eq_false fun q => by have q1 := q.need n (List.mem_of_getElem? hn); unfold NeedOk at q1; omega).symm | exact congrArg Value.bool (decide_eq_true (guard_yes (by omega) (by simpa using hg25) (by omega) hl4_1 (by omega) (up_mem (P := NeedOk d.Track) (by omega) hl10_1))).symm
   replace hg118 := XF hg118
   refine rS (FA 2 rfl fo69_2 rfl) <| rS (L1 (Value.int .i64 n.Seconds) 0 rfl tk3 rfl rfl) <| rS (CL (within_9 n.Seconds 0 36000) (ha_nil) rfl) <| rS (NT rfl) <| rS (PK rfl) <| RK hK40 ?_
   refine w_if rfl (fun hg123 => ?_) (fun hg123 => ?_)
   rotate_left 1
   · replace hg123 := XF hg123
     refine w_skip <| k_block <| KK hK37 <| w_region <| rS (MV rfl) <| rS (BI rfl (b_add ⟨by omega, by omega⟩)) <| rS (AG rfl) <| r_nil ?_
     have hb44 : (Value.int .i64 (((m + 1) : Nat) : Int)) = (Value.int .i64 (((m : Nat) : Int) + 1)) := by exact congrArg (Value.int .i64) (by omega)
     refine k_then (hJ33 ⟨(m + 1), ⟨by omega, up_succ (P := fun _ y => NeedOk d.Track y) hl10_1 hn (by unfold NeedOk; omega)⟩⟩ _ _ _ rfl (by first | omega | (simp; omega)) (Sub.cons rfl <| sub_val rfl hb44 <| Sub.nil _) (fun w hs => St.sel [1, 2, 3, 4] rfl rfl hs))
   replace hg123 := XT hg123
   refine WS fun _ hK43 => rS (AG rfl) <| RK hK43 <| w_ret <| Q1 hQ rfl rfl rfl ?_
   first | exact congrArg Value.bool (decide_eq_false fun q => by have q1 := q.len; omega).symm | exact congrArg Value.bool (decide_eq_false fun q => by exact absurd q.tower (by simpa using hg25)).symm | exact congrArg Value.bool (decide_eq_false fun q => by have q1 := q.radio; omega).symm | exact congrArg Value.bool (decide_eq_false fun q => by have q1 := q.post i p hp; unfold PostOk at q1; first | omega | exact absurd q1.2.2.1 (by simpa using hg78) | (rw [prevId_pos (by omega) hy] at q1; omega)).symm | exact congrArg Value.bool (decide_eq_false fun q => by have q1 := q.need n (List.mem_of_getElem? hn); unfold NeedOk at q1; omega).symm | exact congrArg Value.bool (decide_eq_true (guard_yes (by omega) (by simpa using hg25) (by omega) hl4_1 (by omega) (up_mem (P := NeedOk d.Track) (by omega) hl10_1))).symm
 replace h14 := DT h14
 refine WK hK12 <| w_seq fun _ hK15 => w_block <| WS fun _ hK16 => rS (FA 1 rfl fo32_1 rfl) <| rS (L1 (Value.slice pA d.Posts.length pC) 0 rfl tk25 rfl rfl) <| rS (MV rfl) ?_
 obtain ⟨p, hp⟩ : ∃ y_, d.Posts[i]? = some y_ := ⟨d.Posts[i]'(by omega), List.getElem?_eq_getElem _⟩
 have hpm : (d.Posts.map PostV.cells)[i]? = some (PostV.cells p) := by rw [List.getElem?_map, hp]; rfl
 refine rS (IA i rfl (has_at 2 rfl) te25 (by decide) (by omega) (by omega)) <| rS (LEN i 0 (PostV.cells p) rfl tk63 (has_at 2 rfl) hpm rfl (by decide) rfl rfl) <| AL rfl tz63 fun b17 => SW0 rfl ts63 rfl <| RK hK16 <| w_seq fun _ hK18 => w_draw mixed 47 (by kernel_rfl) ?_
 have hpkk := hpk p (List.mem_of_getElem? hp)
 refine dS (FA 0 rfl fo63_0 rfl) <| dS (L1 (Value.int .i64 p.Id) 0 rfl tk3 rfl rfl) <| dS (CL (within_9 p.Id 0 9999) (ha_nil) rfl) <| dS (NT rfl) <| dS (MV rfl) ?_
 refine d_bool (t := 47) rfl (fun hg47 => ?_) (fun hg47 => ?_)
 · replace hg47 := XT hg47
   refine dS (OX rfl) <| dS (OX rfl) <| dS (OX rfl) <| dS (OX rfl) <| dS (OX rfl) <| dS (OX rfl) <| dS (OX rfl) <| dS (OX rfl) <| dS (OX rfl) <| dS (OX rfl) ?_
   refine dS (OX rfl) <| dS (OX rfl) <| dS (OX rfl) <| dS (OX rfl) <| dS (PK rfl) <| dS (MV rfl) <| dS (OX rfl) <| dS (OX rfl) <| dS (OX rfl) <| dS (OX rfl) ?_
   refine dS (OX rfl) <| dS (PK rfl) <| dS (MV rfl) <| dS (OX rfl) <| dS (OX rfl) <| dS (OX rfl) <| dS (OX rfl) <| dS (OX rfl) <| dS (OX rfl) <| dS (PK rfl) ?_
   refine dS (MV rfl) <| dS (OX rfl) <| dS (OX rfl) <| dS (OX rfl) <| dS (OX rfl) <| dS (PK rfl) <| dS (MV rfl) <| dS (OX rfl) <| dS (OX rfl) <| dS (OX rfl) ?_
   refine dS (OX rfl) <| dS (PK rfl) <| d_end <| RK hK18 <| w_if_true rfl <| WS fun _ hK19 => rS (AG rfl) <| RK hK19 <| w_ret <| Q1 hQ rfl rfl rfl ?_
   first | exact congrArg Value.bool (decide_eq_false fun q => by have q1 := q.len; omega).symm | exact congrArg Value.bool (decide_eq_false fun q => by exact absurd q.tower (by simpa using hg25)).symm | exact congrArg Value.bool (decide_eq_false fun q => by have q1 := q.radio; omega).symm | exact congrArg Value.bool (decide_eq_false fun q => by have q1 := q.post i p hp; unfold PostOk at q1; first | omega | exact absurd q1.2.2.1 (by simpa using hg78) | (rw [prevId_pos (by omega) hy] at q1; omega)).symm | exact congrArg Value.bool (decide_eq_false fun q => by have q1 := q.need n (List.mem_of_getElem? hn); unfold NeedOk at q1; omega).symm | exact congrArg Value.bool (decide_eq_true (guard_yes (by omega) (by simpa using hg25) (by omega) hl4_1 (by omega) (up_mem (P := NeedOk d.Track) (by omega) hl10_1))).symm
 replace hg47 := XF hg47
 refine dS (MV rfl) <| dS (BI rfl b_gtr) <| dS (MV rfl) ?_
 refine d_bool (t := 50) rfl (fun hg50 => ?_) (fun hg50 => ?_)
 rotate_left 1
 · replace hg50 := DF hg50
   refine dS (OX rfl) <| dS (OX rfl) <| dS (OX rfl) <| dS (OX rfl) <| dS (OX rfl) <| dS (OX rfl) <| dS (OX rfl) <| dS (OX rfl) <| dS (OX rfl) <| dS (OX rfl) ?_
   refine dS (PK rfl) <| dS (PK rfl) <| dS (MV rfl) <| dS (FA 1 rfl fo63_1 rfl) <| dS (L1 (Value.int .u8 p.Kind) 0 rfl tk5 rfl rfl) <| dS (SX (sd_conv (m := p.Kind) rfl rfl ut5 ut3 (wrap_u8_i64 (by first | assumption | omega))) rfl rfl) <| dS (CL (within_9 p.Kind 1 3) (ha_nil) rfl) <| dS (NT rfl) <| dS (PK rfl) <| dS (MV rfl) ?_
   refine d_bool (t := 70) rfl (fun hg70 => ?_) (fun hg70 => ?_)
   · replace hg70 := XT hg70
     refine dS (OX rfl) <| dS (OX rfl) <| dS (OX rfl) <| dS (OX rfl) <| dS (OX rfl) <| dS (OX rfl) <| dS (PK rfl) <| dS (MV rfl) <| dS (OX rfl) <| dS (OX rfl) ?_
     refine dS (OX rfl) <| dS (OX rfl) <| dS (PK rfl) <| dS (MV rfl) <| dS (OX rfl) <| dS (OX rfl) <| dS (OX rfl) <| dS (OX rfl) <| dS (PK rfl) <| d_end ?_
     refine RK hK18 <| w_if_true rfl <| WS fun _ hK26 => rS (AG rfl) <| RK hK26 <| w_ret <| Q1 hQ rfl rfl rfl ?_
     first | exact congrArg Value.bool (decide_eq_false fun q => by have q1 := q.len; omega).symm | exact congrArg Value.bool (decide_eq_false fun q => by exact absurd q.tower (by simpa using hg25)).symm | exact congrArg Value.bool (decide_eq_false fun q => by have q1 := q.radio; omega).symm | exact congrArg Value.bool (decide_eq_false fun q => by have q1 := q.post i p hp; unfold PostOk at q1; first | omega | exact absurd q1.2.2.1 (by simpa using hg78) | (rw [prevId_pos (by omega) hy] at q1; omega)).symm | exact congrArg Value.bool (decide_eq_false fun q => by have q1 := q.need n (List.mem_of_getElem? hn); unfold NeedOk at q1; omega).symm | exact congrArg Value.bool (decide_eq_true (guard_yes (by omega) (by simpa using hg25) (by omega) hl4_1 (by omega) (up_mem (P := NeedOk d.Track) (by omega) hl10_1))).symm
   replace hg70 := XF hg70
   refine dS (FA 0 rfl fo32_0 rfl) <| dS (LP (TrackV.cells (TrackV.mk (Slc.mk kA d.Track.length kC))) 1 rfl tk24 rfl rfl rfl) <| dS (FA 2 rfl fo63_2 rfl) <| dS (LP (SpotV.cells p.Spot) 0 rfl tk30 rfl rfl rfl) <| dS (CL (rspot_c d.Track kA kC p.Spot (by first | assumption | omega | (simp; done) | (simp; omega)) (by first | assumption | omega | (simp; done) | (simp; omega))) (ha_at 2 rfl rfl <| ha_nil) rfl) <| dS (NT rfl) <| dS (PK rfl) <| dS (MV rfl) ?_
   refine d_bool (t := 78) rfl (fun hg78 => ?_) (fun hg78 => ?_)
   · replace hg78 := XT hg78
     refine dS (OX rfl) <| dS (OX rfl) <| dS (OX rfl) <| dS (OX rfl) <| dS (PK rfl) <| dS (MV rfl) <| dS (OX rfl) <| dS (OX rfl) <| dS (OX rfl) <| dS (OX rfl) ?_
     refine dS (PK rfl) <| d_end <| RK hK18 <| w_if_true rfl <| WS fun _ hK27 => rS (AG rfl) <| RK hK27 <| w_ret <| Q1 hQ rfl rfl rfl ?_
     first | exact congrArg Value.bool (decide_eq_false fun q => by have q1 := q.len; omega).symm | exact congrArg Value.bool (decide_eq_false fun q => by exact absurd q.tower (by simpa using hg25)).symm | exact congrArg Value.bool (decide_eq_false fun q => by have q1 := q.radio; omega).symm | exact congrArg Value.bool (decide_eq_false fun q => by have q1 := q.post i p hp; unfold PostOk at q1; first | omega | exact absurd q1.2.2.1 (by simpa using hg78) | (rw [prevId_pos (by omega) hy] at q1; omega)).symm | exact congrArg Value.bool (decide_eq_false fun q => by have q1 := q.need n (List.mem_of_getElem? hn); unfold NeedOk at q1; omega).symm | exact congrArg Value.bool (decide_eq_true (guard_yes (by omega) (by simpa using hg25) (by omega) hl4_1 (by omega) (up_mem (P := NeedOk d.Track) (by omega) hl10_1))).symm
   replace hg78 := XF hg78
   refine dS (FA 5 rfl fo63_3 rfl) <| dS (L1 (Value.int .i64 p.Delay) 0 rfl tk3 rfl rfl) <| dS (CL (within_9 p.Delay 0 36000) (ha_nil) rfl) <| dS (NT rfl) <| dS (PK rfl) <| dS (MV rfl) ?_
   refine d_bool (t := 84) rfl (fun hg84 => ?_) (fun hg84 => ?_)
   · replace hg84 := XT hg84
     refine dS (OX rfl) <| dS (OX rfl) <| dS (OX rfl) <| dS (OX rfl) <| dS (PK rfl) <| d_end <| RK hK18 <| w_if_true rfl <| WS fun _ hK28 => rS (AG rfl) ?_
     refine RK hK28 <| w_ret <| Q1 hQ rfl rfl rfl ?_
     first | exact congrArg Value.bool (decide_eq_false fun q => by have q1 := q.len; omega).symm | exact congrArg Value.bool (decide_eq_false fun q => by exact absurd q.tower (by simpa using hg25)).symm | exact congrArg Value.bool (decide_eq_false fun q => by have q1 := q.radio; omega).symm | exact congrArg Value.bool (decide_eq_false fun q => by have q1 := q.post i p hp; unfold PostOk at q1; first | omega | exact absurd q1.2.2.1 (by simpa using hg78) | (rw [prevId_pos (by omega) hy] at q1; omega)).symm | exact congrArg Value.bool (decide_eq_false fun q => by have q1 := q.need n (List.mem_of_getElem? hn); unfold NeedOk at q1; omega).symm | exact congrArg Value.bool (decide_eq_true (guard_yes (by omega) (by simpa using hg25) (by omega) hl4_1 (by omega) (up_mem (P := NeedOk d.Track) (by omega) hl10_1))).symm
   replace hg84 := XF hg84
   refine dS (FA 6 rfl fo63_4 rfl) <| dS (L1 (Value.int .i64 p.Pace) 0 rfl tk3 rfl rfl) <| dS (CL (within_9 p.Pace 1 1000) (ha_nil) rfl) <| dS (NT rfl) <| dS (PK rfl) <| d_end <| RK hK18 ?_
   refine w_if rfl (fun hg89 => ?_) (fun hg89 => ?_)
   rotate_left 1
   · replace hg89 := XF hg89
     refine w_skip <| k_block <| KK hK15 <| w_region <| rS (MV rfl) <| rS (BI rfl (b_add ⟨by omega, by omega⟩)) <| rS (AG rfl) <| r_nil ?_
     have hb30 : (Value.int .i64 (((i + 1) : Nat) : Int)) = (Value.int .i64 (((i : Nat) : Int) + 1)) := by exact congrArg (Value.int .i64) (by omega)
     refine k_then (hJ11 ⟨(i + 1), ⟨by omega, posts_succ hl4_1 hp (by unfold PostOk; exact ⟨(by first | (rw [prevId_zero (by omega)]; omega) | (rw [prevId_pos (by omega) hy]; omega)), by omega, by simpa using hg78, by omega, by omega⟩)⟩⟩ _ _ _ rfl (by first | omega | (simp; omega)) (Sub.cons rfl <| sub_val rfl hb30 <| Sub.nil _) (fun w hs => St.sel [1, 2, 3, 4] rfl rfl hs))
   replace hg89 := XT hg89
   refine WS fun _ hK29 => rS (AG rfl) <| RK hK29 <| w_ret <| Q1 hQ rfl rfl rfl ?_
   first | exact congrArg Value.bool (decide_eq_false fun q => by have q1 := q.len; omega).symm | exact congrArg Value.bool (decide_eq_false fun q => by exact absurd q.tower (by simpa using hg25)).symm | exact congrArg Value.bool (decide_eq_false fun q => by have q1 := q.radio; omega).symm | exact congrArg Value.bool (decide_eq_false fun q => by have q1 := q.post i p hp; unfold PostOk at q1; first | omega | exact absurd q1.2.2.1 (by simpa using hg78) | (rw [prevId_pos (by omega) hy] at q1; omega)).symm | exact congrArg Value.bool (decide_eq_false fun q => by have q1 := q.need n (List.mem_of_getElem? hn); unfold NeedOk at q1; omega).symm | exact congrArg Value.bool (decide_eq_true (guard_yes (by omega) (by simpa using hg25) (by omega) hl4_1 (by omega) (up_mem (P := NeedOk d.Track) (by omega) hl10_1))).symm
 replace hg50 := DT hg50
 refine dS (FA 0 rfl fo63_0 rfl) <| dS (L1 (Value.int .i64 p.Id) 0 rfl tk3 rfl rfl) <| dS (FA 1 rfl fo32_1 rfl) <| dS (L1 (Value.slice pA d.Posts.length pC) 1 rfl tk25 rfl rfl) <| dS (MV rfl) <| dS (BI rfl (b_sub ⟨by omega, by omega⟩)) ?_
 obtain ⟨y, hy⟩ : ∃ y_, d.Posts[(i - 1)]? = some y_ := ⟨d.Posts[(i - 1)]'(by omega), List.getElem?_eq_getElem _⟩
 have hym : (d.Posts.map PostV.cells)[(i - 1)]? = some (PostV.cells y) := by rw [List.getElem?_map, hy]; rfl
 refine dS (IA (i - 1) rfl (has_at 3 rfl) te25 (by decide) (by omega) (by omega)) <| dS (FAR ((i - 1) * 7) rfl (has_at 3 rfl) (Nat.mul_pos (by omega) (by decide)) fo63_0 rfl) <| dS (LE1 (i - 1) 0 (Value.int .i64 y.Id) rfl tk3 (has_at 3 rfl) hym rfl (by decide) rfl) <| dS (BI rfl b_leq) <| dS (PK rfl) <| dS (PK rfl) <| dS (MV rfl) ?_
 refine d_bool (t := 63) rfl (fun hg63 => ?_) (fun hg63 => ?_)
 · replace hg63 := DT hg63
   refine dS (OX rfl) <| dS (OX rfl) <| dS (OX rfl) <| dS (OX rfl) <| dS (OX rfl) <| dS (PK rfl) <| dS (MV rfl) <| dS (OX rfl) <| dS (OX rfl) <| dS (OX rfl) ?_
   refine dS (OX rfl) <| dS (OX rfl) <| dS (OX rfl) <| dS (PK rfl) <| dS (MV rfl) <| dS (OX rfl) <| dS (OX rfl) <| dS (OX rfl) <| dS (OX rfl) <| dS (PK rfl) ?_
   refine dS (MV rfl) <| dS (OX rfl) <| dS (OX rfl) <| dS (OX rfl) <| dS (OX rfl) <| dS (PK rfl) <| d_end <| RK hK18 <| w_if_true rfl <| WS fun _ hK20 => ?_
   refine rS (AG rfl) <| RK hK20 <| w_ret <| Q1 hQ rfl rfl rfl ?_
   first | exact congrArg Value.bool (decide_eq_false fun q => by have q1 := q.len; omega).symm | exact congrArg Value.bool (decide_eq_false fun q => by exact absurd q.tower (by simpa using hg25)).symm | exact congrArg Value.bool (decide_eq_false fun q => by have q1 := q.radio; omega).symm | exact congrArg Value.bool (decide_eq_false fun q => by have q1 := q.post i p hp; unfold PostOk at q1; first | omega | exact absurd q1.2.2.1 (by simpa using hg78) | (rw [prevId_pos (by omega) hy] at q1; omega)).symm | exact congrArg Value.bool (decide_eq_false fun q => by have q1 := q.need n (List.mem_of_getElem? hn); unfold NeedOk at q1; omega).symm | exact congrArg Value.bool (decide_eq_true (guard_yes (by omega) (by simpa using hg25) (by omega) hl4_1 (by omega) (up_mem (P := NeedOk d.Track) (by omega) hl10_1))).symm
 replace hg63 := DF hg63
 refine dS (FA 1 rfl fo63_1 rfl) <| dS (L1 (Value.int .u8 p.Kind) 0 rfl tk5 rfl rfl) <| dS (SX (sd_conv (m := p.Kind) rfl rfl ut5 ut3 (wrap_u8_i64 (by first | assumption | omega))) rfl rfl) <| dS (CL (within_9 p.Kind 1 3) (ha_nil) rfl) <| dS (NT rfl) <| dS (PK rfl) <| dS (MV rfl) ?_
 refine d_bool (t := 70) rfl (fun hg70 => ?_) (fun hg70 => ?_)
 · replace hg70 := XT hg70
   refine dS (OX rfl) <| dS (OX rfl) <| dS (OX rfl) <| dS (OX rfl) <| dS (OX rfl) <| dS (OX rfl) <| dS (PK rfl) <| dS (MV rfl) <| dS (OX rfl) <| dS (OX rfl) ?_
   refine dS (OX rfl) <| dS (OX rfl) <| dS (PK rfl) <| dS (MV rfl) <| dS (OX rfl) <| dS (OX rfl) <| dS (OX rfl) <| dS (OX rfl) <| dS (PK rfl) <| d_end ?_
   refine RK hK18 <| w_if_true rfl <| WS fun _ hK21 => rS (AG rfl) <| RK hK21 <| w_ret <| Q1 hQ rfl rfl rfl ?_
   first | exact congrArg Value.bool (decide_eq_false fun q => by have q1 := q.len; omega).symm | exact congrArg Value.bool (decide_eq_false fun q => by exact absurd q.tower (by simpa using hg25)).symm | exact congrArg Value.bool (decide_eq_false fun q => by have q1 := q.radio; omega).symm | exact congrArg Value.bool (decide_eq_false fun q => by have q1 := q.post i p hp; unfold PostOk at q1; first | omega | exact absurd q1.2.2.1 (by simpa using hg78) | (rw [prevId_pos (by omega) hy] at q1; omega)).symm | exact congrArg Value.bool (decide_eq_false fun q => by have q1 := q.need n (List.mem_of_getElem? hn); unfold NeedOk at q1; omega).symm | exact congrArg Value.bool (decide_eq_true (guard_yes (by omega) (by simpa using hg25) (by omega) hl4_1 (by omega) (up_mem (P := NeedOk d.Track) (by omega) hl10_1))).symm
 replace hg70 := XF hg70
 refine dS (FA 0 rfl fo32_0 rfl) <| dS (LP (TrackV.cells (TrackV.mk (Slc.mk kA d.Track.length kC))) 1 rfl tk24 rfl rfl rfl) <| dS (FA 2 rfl fo63_2 rfl) <| dS (LP (SpotV.cells p.Spot) 0 rfl tk30 rfl rfl rfl) <| dS (CL (rspot_c d.Track kA kC p.Spot (by first | assumption | omega | (simp; done) | (simp; omega)) (by first | assumption | omega | (simp; done) | (simp; omega))) (ha_at 2 rfl rfl <| ha_nil) rfl) <| dS (NT rfl) <| dS (PK rfl) <| dS (MV rfl) ?_
 refine d_bool (t := 78) rfl (fun hg78 => ?_) (fun hg78 => ?_)
 · replace hg78 := XT hg78
   refine dS (OX rfl) <| dS (OX rfl) <| dS (OX rfl) <| dS (OX rfl) <| dS (PK rfl) <| dS (MV rfl) <| dS (OX rfl) <| dS (OX rfl) <| dS (OX rfl) <| dS (OX rfl) ?_
   refine dS (PK rfl) <| d_end <| RK hK18 <| w_if_true rfl <| WS fun _ hK22 => rS (AG rfl) <| RK hK22 <| w_ret <| Q1 hQ rfl rfl rfl ?_
   first | exact congrArg Value.bool (decide_eq_false fun q => by have q1 := q.len; omega).symm | exact congrArg Value.bool (decide_eq_false fun q => by exact absurd q.tower (by simpa using hg25)).symm | exact congrArg Value.bool (decide_eq_false fun q => by have q1 := q.radio; omega).symm | exact congrArg Value.bool (decide_eq_false fun q => by have q1 := q.post i p hp; unfold PostOk at q1; first | omega | exact absurd q1.2.2.1 (by simpa using hg78) | (rw [prevId_pos (by omega) hy] at q1; omega)).symm | exact congrArg Value.bool (decide_eq_false fun q => by have q1 := q.need n (List.mem_of_getElem? hn); unfold NeedOk at q1; omega).symm | exact congrArg Value.bool (decide_eq_true (guard_yes (by omega) (by simpa using hg25) (by omega) hl4_1 (by omega) (up_mem (P := NeedOk d.Track) (by omega) hl10_1))).symm
 replace hg78 := XF hg78
 refine dS (FA 5 rfl fo63_3 rfl) <| dS (L1 (Value.int .i64 p.Delay) 0 rfl tk3 rfl rfl) <| dS (CL (within_9 p.Delay 0 36000) (ha_nil) rfl) <| dS (NT rfl) <| dS (PK rfl) <| dS (MV rfl) ?_
 refine d_bool (t := 84) rfl (fun hg84 => ?_) (fun hg84 => ?_)
 · replace hg84 := XT hg84
   refine dS (OX rfl) <| dS (OX rfl) <| dS (OX rfl) <| dS (OX rfl) <| dS (PK rfl) <| d_end <| RK hK18 <| w_if_true rfl <| WS fun _ hK23 => rS (AG rfl) ?_
   refine RK hK23 <| w_ret <| Q1 hQ rfl rfl rfl ?_
   first | exact congrArg Value.bool (decide_eq_false fun q => by have q1 := q.len; omega).symm | exact congrArg Value.bool (decide_eq_false fun q => by exact absurd q.tower (by simpa using hg25)).symm | exact congrArg Value.bool (decide_eq_false fun q => by have q1 := q.radio; omega).symm | exact congrArg Value.bool (decide_eq_false fun q => by have q1 := q.post i p hp; unfold PostOk at q1; first | omega | exact absurd q1.2.2.1 (by simpa using hg78) | (rw [prevId_pos (by omega) hy] at q1; omega)).symm | exact congrArg Value.bool (decide_eq_false fun q => by have q1 := q.need n (List.mem_of_getElem? hn); unfold NeedOk at q1; omega).symm | exact congrArg Value.bool (decide_eq_true (guard_yes (by omega) (by simpa using hg25) (by omega) hl4_1 (by omega) (up_mem (P := NeedOk d.Track) (by omega) hl10_1))).symm
 replace hg84 := XF hg84
 refine dS (FA 6 rfl fo63_4 rfl) <| dS (L1 (Value.int .i64 p.Pace) 0 rfl tk3 rfl rfl) <| dS (CL (within_9 p.Pace 1 1000) (ha_nil) rfl) <| dS (NT rfl) <| dS (PK rfl) <| d_end <| RK hK18 ?_
 refine w_if rfl (fun hg89 => ?_) (fun hg89 => ?_)
 rotate_left 1
 · replace hg89 := XF hg89
   refine w_skip <| k_block <| KK hK15 <| w_region <| rS (MV rfl) <| rS (BI rfl (b_add ⟨by omega, by omega⟩)) <| rS (AG rfl) <| r_nil ?_
   have hb25 : (Value.int .i64 (((i + 1) : Nat) : Int)) = (Value.int .i64 (((i : Nat) : Int) + 1)) := by exact congrArg (Value.int .i64) (by omega)
   refine k_then (hJ11 ⟨(i + 1), ⟨by omega, posts_succ hl4_1 hp (by unfold PostOk; exact ⟨(by first | (rw [prevId_zero (by omega)]; omega) | (rw [prevId_pos (by omega) hy]; omega)), by omega, by simpa using hg78, by omega, by omega⟩)⟩⟩ _ _ _ rfl (by first | omega | (simp; omega)) (Sub.cons rfl <| sub_val rfl hb25 <| Sub.nil _) (fun w hs => St.sel [1, 2, 3, 4] rfl rfl hs))
 replace hg89 := XT hg89
 refine WS fun _ hK24 => rS (AG rfl) <| RK hK24 <| w_ret <| Q1 hQ rfl rfl rfl ?_
 first | exact congrArg Value.bool (decide_eq_false fun q => by have q1 := q.len; omega).symm | exact congrArg Value.bool (decide_eq_false fun q => by exact absurd q.tower (by simpa using hg25)).symm | exact congrArg Value.bool (decide_eq_false fun q => by have q1 := q.radio; omega).symm | exact congrArg Value.bool (decide_eq_false fun q => by have q1 := q.post i p hp; unfold PostOk at q1; first | omega | exact absurd q1.2.2.1 (by simpa using hg78) | (rw [prevId_pos (by omega) hy] at q1; omega)).symm | exact congrArg Value.bool (decide_eq_false fun q => by have q1 := q.need n (List.mem_of_getElem? hn); unfold NeedOk at q1; omega).symm | exact congrArg Value.bool (decide_eq_true (guard_yes (by omega) (by simpa using hg25) (by omega) hl4_1 (by omega) (up_mem (P := NeedOk d.Track) (by omega) hl10_1))).symm
set_option maxRecDepth 100000 in
set_option maxHeartbeats 400000 in
theorem rpcheck_c (d : GuardM) (kA : Option Addr) (kC : Nat) (pA : Option Addr) (pC : Nat) (nA : Option Addr) (nC : Nat) (hin : GuardIn d) :
    FnV Tryz.prog 20 [(Value.agg (GuardV.cells (GuardV.mk (TrackV.mk (Slc.mk kA d.Track.length kC)) (Slc.mk pA d.Posts.length pC) (Slc.mk nA d.Needs.length nC) d.Tower d.Radio)).toArray)] [(rd kA d.Track.length 9 (d.Track.map StretchV.cells)), (rd pA d.Posts.length 7 (d.Posts.map PostV.cells)), (rd nA d.Needs.length 3 (d.Needs.map NeedV.cells))] (Value.int .i64 (guardE d)) := by
 have hlen := hin.trk
 have hside := hin.side
 have hpl := hin.pst
 have hnl := hin.nds
 have hnk := hin.nk
 have hpk := hin.pk
 refine fnV_of go20 Tryz.func20 rfl rfl fun w0 Q hQ hN => ?_
 try dsimp only
 refine WS fun _ hK1 => BXA rfl fun b2 => rS (AG rfl) <| RK hK1 <| w_seq fun _ hK3 => WS fun _ hK4 => rS (FA 0 rfl fo32_0 rfl) <| rS (LP (TrackV.cells (TrackV.mk (Slc.mk kA d.Track.length kC))) 0 rfl tk24 rfl rfl rfl) <| rS (CL (track_c d.Track kA kC (by first | assumption | omega | (simp; done) | (simp; omega))) (ha_at 1 rfl rfl <| ha_nil) rfl) <| rS (NT rfl) ?_
 refine RK hK4 ?_
 refine w_if rfl (fun hg6 => ?_) (fun hg6 => ?_)
 · rw [Bool.not_eq_true'] at hg6
   refine WS fun _ hK5 => rS (AG rfl) <| RK hK5 <| w_ret <| Q1 hQ rfl rfl rfl ?_
   first | exact congrArg (Value.int .i64) (guardE_bad (by simpa using hg6)).symm | exact congrArg (Value.int .i64) (guardE_no hg6 hg9).symm | exact congrArg (Value.int .i64) (guardE_ok hg6 hg9).symm
 rw [Bool.not_eq_false'] at hg6
 refine WK hK3 <| w_seq fun _ hK6 => WS fun _ hK7 => rS (LW 0 rfl tk32 rfl rfl) <| rS (CL (rguard_c d kA kC pA pC nA nC hin (by first | assumption | omega | (simp; done) | (simp; omega))) (ha3 1 2 3 rfl rfl rfl rfl rfl rfl) rfl) <| rS (NT rfl) <| RK hK7 ?_
 refine w_if rfl (fun hg9 => ?_) (fun hg9 => ?_)
 · replace hg9 := XT hg9
   refine WS fun _ hK8 => rS (AG rfl) <| RK hK8 <| w_ret <| Q1 hQ rfl rfl rfl ?_
   first | exact congrArg (Value.int .i64) (guardE_bad (by simpa using hg6)).symm | exact congrArg (Value.int .i64) (guardE_no hg6 hg9).symm | exact congrArg (Value.int .i64) (guardE_ok hg6 hg9).symm
 replace hg9 := XF hg9
 refine WK hK6 <| WS fun _ hK9 => rS (AG rfl) <| RK hK9 <| w_ret <| Q1 hQ rfl rfl rfl ?_
 first | exact congrArg (Value.int .i64) (guardE_bad (by simpa using hg6)).symm | exact congrArg (Value.int .i64) (guardE_no hg6 hg9).symm | exact congrArg (Value.int .i64) (guardE_ok hg6 hg9).symm
end
section
set_option linter.unusedVariables false
theorem lacksV_len {d : GuardM} {l : List Int} : (lacksV d l).length ≤ d.Needs.length := by
  unfold lacksV; split
  · exact idxL_len
  · exact Nat.zero_le _
theorem weakV_len {d : GuardM} : (weakV d).length ≤ d.Posts.length := by
  unfold weakV; split
  · exact idxL_len
  · exact Nat.zero_le _
theorem spareV_len {d : GuardM} : (spareV d).length ≤ d.Posts.length := by
  unfold spareV; split
  · exact idxL_len
  · exact Nat.zero_le _
theorem fewV_len {d : GuardM} : (fewV d).length ≤ d.Posts.length := by
  unfold fewV; split
  · unfold bestF
    cases e : bestTo d.Posts.length (fun z => decide (StrongP d (bitS z))) (2 ^ d.Posts.length) with
    | none => exact Nat.zero_le _
    | some l => exact best_len e
  · exact Nat.zero_le _
end
section
set_option linter.unusedVariables false
theorem idx_len_yes {P : Nat → Prop} {j : Nat} (h : P j) : (idxL (j + 1) P).length = (idxL j P).length + 1 := by rw [idxL_yes h]; simp
theorem idx_len_no {P : Nat → Prop} {j : Nat} (h : ¬ P j) : (idxL (j + 1) P).length = (idxL j P).length := by rw [idxL_no h]
theorem notIn_nil {i : Nat} : notIn [] i ↔ allS i := by simp [notIn, allS]
theorem notIn_one {j i : Nat} : notIn [(j : Int)] i ↔ less1 allS j i := by simp [notIn, less1, allS]; omega
end
section
set_option linter.unusedVariables false
/-- a post alike, but for its number -/
def AlikeP (p q : PostV) : Prop := p.Kind = q.Kind ∧ p.Spot = q.Spot ∧ p.Delay = q.Delay ∧ p.Pace = q.Pace
structure Ren (e d : GuardM) (f : Nat → Nat) : Prop where
  trk : e.Track = d.Track
  tower : e.Tower = d.Tower
  radio : e.Radio = d.Radio
  needs : e.Needs = d.Needs
  inj : ∀ i j, i < e.Posts.length → j < e.Posts.length → f i = f j → i = j
  at_ : ∀ i p, e.Posts[i]? = some p → ∃ q, d.Posts[f i]? = some q ∧ AlikeP p q
def imS (f : Nat → Nat) (m : Nat) (T : Nat → Prop) : Nat → Prop := fun k => ∃ i, i < m ∧ T i ∧ f i = k
section
variable {e d : GuardM} {f : Nat → Nat}
theorem Ren.hears (h : Ren e d f) (a b : SpotV) : hearsP e a b ↔ hearsP d a b := by unfold hearsP; rw [h.radio, h.trk]
theorem Ren.calls (h : Ren e d f) {T : Nat → Prop} {i : Nat} (hc : CallsP e T i) : CallsP d (imS f e.Posts.length T) (f i) := by
  induction hc with
  | @tower i p hs hp hh =>
    obtain ⟨q, hq, ha⟩ := h.at_ i p hp
    exact .tower ⟨i, (List.getElem?_eq_some_iff.1 hp).1, hs, rfl⟩ hq (by rw [← ha.2.1, ← h.hears, ← h.tower]; exact hh)
  | @post k i q p hk hq hs hp hh ih =>
    obtain ⟨q2, hq2, ha⟩ := h.at_ i p hp
    obtain ⟨r2, hr2, hb⟩ := h.at_ k q hq
    exact .post ih hr2 ⟨i, (List.getElem?_eq_some_iff.1 hp).1, hs, rfl⟩ hq2 (by rw [← ha.2.1, ← hb.2.1, ← h.hears]; exact hh)
end
end
section
open Go.RowKit
set_option linter.unusedVariables false
set_option maxRecDepth 100000 in
set_option maxHeartbeats 400000 in
theorem ptwin_c (d : GuardM) (kA : Option Addr) (kC : Nat) (pA : Option Addr) (pC : Nat) (nA : Option Addr) (nC : Nat) (hin : GuardIn d) :
    FnX Tryz.prog 5 [(Value.agg (GuardV.cells (GuardV.mk (TrackV.mk (Slc.mk kA d.Track.length kC)) (Slc.mk pA d.Posts.length pC) (Slc.mk nA d.Needs.length nC) d.Tower d.Radio)).toArray)] [(rd kA d.Track.length 9 (d.Track.map StretchV.cells)), (rd pA d.Posts.length 7 (d.Posts.map PostV.cells)), (rd nA d.Needs.length 3 (d.Needs.map NeedV.cells))] (fun (x : (Option Addr) × Nat × (Option Addr) × Nat × (Option Addr) × Nat) => (Value.agg (GuardV.cells (GuardV.mk (TrackV.mk (Slc.mk x.1 d.Track.length x.2.1)) (Slc.mk x.2.2.1 d.Posts.length x.2.2.2.1) (Slc.mk x.2.2.2.2.1 d.Needs.length x.2.2.2.2.2) d.Tower d.Radio)).toArray)) (fun (x : (Option Addr) × Nat × (Option Addr) × Nat × (Option Addr) × Nat) => True) (fun (x : (Option Addr) × Nat × (Option Addr) × Nat × (Option Addr) × Nat) => [(own x.1 x.2.1 83 9 (d.Track.map StretchV.cells)), (own x.2.2.1 x.2.2.2.1 63 7 (d.Posts.map PostV.cells)), (own x.2.2.2.2.1 x.2.2.2.2.2 69 3 (d.Needs.map NeedV.cells))]) := by
 have hlen := hin.trk
 have hside := hin.side
 have hpl := hin.pst
 have hnl := hin.nds
 have hnk := hin.nk
 have hpk := hin.pk
 refine fnX_of go5 Tryz.func5 rfl rfl fun w0 Q hQ hN => ?_
 try dsimp only
 refine WS fun _ hK1 => BXA rfl fun b2 => AL rfl tz32 fun b3 => RK hK1 <| WS fun _ hK4 => rS (FA 0 rfl fo32_0 rfl) <| rS (LP (TrackV.cells (TrackV.mk (Slc.mk kA d.Track.length kC))) 1 rfl tk24 rfl rfl rfl) <| cX (twin_c d.Track kA kC (by first | assumption | omega | (simp; done) | (simp; omega))) (ha_at 2 rfl rfl <| ha_nil) rfl fun y5 hy6 => ?_
 obtain ⟨a7, c8⟩ := y5
 try dsimp only
 refine rS (FA 0 rfl fo32_0 rfl) <| ST2 (GuardV.cells (GuardV.mk (TrackV.mk (Slc.mk a7 d.Track.length c8)) (Slc.mk pA d.Posts.length pC) (Slc.mk nA d.Needs.length nC) d.Tower d.Radio)) rfl ts24 rfl rfl <| RK hK4 <| WS fun _ hK9 => r_bs0 rfl te25 rfl fun b10 => rS (FA 1 rfl fo32_1 rfl) <| rS (L1 (Value.slice pA d.Posts.length pC) 3 rfl tk25 rfl rfl) <| r_blk_own (es := (List.map PostV.cells [])) (C' := [own (some ⟨b10, 0, none⟩) 0 63 7 (List.map PostV.cells []), _, _, _, _, _, _]) 0 rfl (by simp) rfl (by simp [maxLen]) rfl <| r_append (es2 := (List.map PostV.cells d.Posts)) (m' := d.Posts.length) 0 rfl rfl rfl ta25 rfl rfl (by simp) (has_at 5 rfl) (one_PostV_cells _) (by first | omega | (simp; omega)) (by first | (simp only [maxLen]; omega) | (simp [maxLen]; omega)) (by simp) (by simp) rfl fun a11 c12 => ?_
 try dsimp only
 refine rS (FA 1 rfl fo32_1 rfl) <| ST3 (GuardV.cells (GuardV.mk (TrackV.mk (Slc.mk a7 d.Track.length c8)) (Slc.mk a11 d.Posts.length c12) (Slc.mk nA d.Needs.length nC) d.Tower d.Radio)) rfl ts25 rfl rfl <| RK hK9 <| WS fun _ hK13 => r_bs0 rfl te26 rfl fun b14 => rS (FA 2 rfl fo32_2 rfl) <| rS (L1 (Value.slice nA d.Needs.length nC) 4 rfl tk26 rfl rfl) <| r_blk_own (es := (List.map NeedV.cells [])) (C' := [own (some ⟨b14, 0, none⟩) 0 69 3 (List.map NeedV.cells []), _, _, _, _, _, _, _]) 0 rfl (by simp) rfl (by simp [maxLen]) rfl <| r_append (es2 := (List.map NeedV.cells d.Needs)) (m' := d.Needs.length) 0 rfl rfl rfl ta26 rfl rfl (by simp) (has_at 7 rfl) (one_NeedV_cells _) (by first | omega | (simp; omega)) (by first | (simp only [maxLen]; omega) | (simp [maxLen]; omega)) (by simp) (by simp) rfl fun a15 c16 => ?_
 try dsimp only
 refine rS (FA 2 rfl fo32_2 rfl) <| ST4 (GuardV.cells (GuardV.mk (TrackV.mk (Slc.mk a7 d.Track.length c8)) (Slc.mk a11 d.Posts.length c12) (Slc.mk a15 d.Needs.length c16) d.Tower d.Radio)) rfl ts26 rfl rfl <| RK hK13 <| WS fun _ hK17 => rS (LW 4 rfl tk32 rfl rfl) <| SW3 rfl ts32 rfl <| RK hK17 <| w_ret ?_
 refine hQ _ _ _ (l_nil (vs := [(Value.agg (GuardV.cells (GuardV.mk (TrackV.mk (Slc.mk a7 d.Track.length c8)) (Slc.mk a11 d.Posts.length c12) (Slc.mk a15 d.Needs.length c16) d.Tower d.Radio)).toArray)]) ⟨⟨_, rfl, .inl ⟨_, _, tk32, at_blk (vs := (GuardV.cells (GuardV.mk (TrackV.mk (Slc.mk a7 d.Track.length c8)) (Slc.mk a11 d.Posts.length c12) (Slc.mk a15 d.Needs.length c16) d.Tower d.Radio))) 3 rfl rfl, rfl, rfl⟩⟩, trivial⟩ fun w hs => endX (a7, c8, a11, c12, a15, c16) [2, 1, 0] ?_ ?_ rfl rfl rfl hs)
 · rfl
 · trivial
end
section
set_option linter.unusedVariables false
theorem apart_swap {ts : List StretchV} {a b : SpotV} (h : b.Stretch < a.Stretch) : apartF ts a b = lessZ (apartF ts b a) := by
  unfold apartF
  rw [if_pos h, if_neg (by omega)]
  unfold wayB
  rw [Int.min_comm b.Stretch a.Stretch, Int.max_comm b.Stretch a.Stretch]
  unfold lessZ addZ
  simp only [SpanV.mk.injEq]
  omega
theorem apart_straight {ts : List StretchV} {a b : SpotV} (h : ¬ b.Stretch < a.Stretch) : apartF ts a b = addZ (addZ (longF ts a.Stretch.toNat (b.Stretch - a.Stretch).toNat) b.Off) (lessZ a.Off) := by
  unfold apartF wayB
  rw [if_neg h, Int.min_eq_left (by omega), Int.max_eq_right (by omega)]
theorem empty_no {n : Nat} {l : List Int} {i : Nat} {x : Int} (hx : l[i]? = some x) (h : ¬ EmptyAt n l i x) : ¬ EmptyOk n l := fun q => h (q i x hx)
theorem emptyAt_first {n : Nat} {l : List Int} {x : Int} : EmptyAt n l 0 x ↔ 0 ≤ x ∧ x ≤ (n : Int) - 1 := by
  unfold EmptyAt; rw [prevE_zero]; omega
theorem emptyAt_next {n : Nat} {l : List Int} {i : Nat} {x y : Int} (hi : 0 < i) (hy : l[i - 1]? = some y) : EmptyAt n l i x ↔ y < x ∧ 0 ≤ x ∧ x ≤ (n : Int) - 1 := by
  unfold EmptyAt; rw [prevE_pos hi hy]
end
section
open Go.RowKit
set_option linter.unusedVariables false
def boolC (b : Bool) : List Value := [.bool b]
@[simp] theorem boolC_length (b : Bool) : (boolC b).length = 1 := rfl
theorem one_boolC (l : List Bool) : ∀ v ∈ (l.map boolC).flatten, v.oneCell' = true := one_flat (fun s => rfl) l
/-- the first i indices of which something is so; the others are not yet so -/
noncomputable def setB (n i : Nat) (P : Nat → Prop) : List Bool := (List.range n).map fun j => @decide (j < i ∧ P j) (Classical.propDecidable _)
noncomputable def boolsB (n : Nat) (P : Nat → Prop) : List Bool := setB n n P
@[simp] theorem setB_len {n i : Nat} {P : Nat → Prop} : (setB n i P).length = n := by simp [setB]
@[simp] theorem boolsB_len {n : Nat} {P : Nat → Prop} : (boolsB n P).length = n := setB_len
theorem setB_at {n i j : Nat} {P : Nat → Prop} (h : j < (setB n i P).length) : (setB n i P)[j] = @decide (j < i ∧ P j) (Classical.propDecidable _) := by simp [setB]
theorem boolsB_at {n j : Nat} {P : Nat → Prop} (h : j < (boolsB n P).length) : (boolsB n P)[j] = @decide (j < n ∧ P j) (Classical.propDecidable _) := setB_at h
theorem setB_zero {n : Nat} {P : Nat → Prop} : List.replicate n false = setB n 0 P := by
  apply List.ext_getElem
  · simp
  · intro j h1 h2
    simp [setB]
theorem setB_get {n i j : Nat} {P : Nat → Prop} {b : Bool} (h : (setB n i P)[j]? = some b) : j < n ∧ (b = true ↔ j < i ∧ P j) := by
  have hj : j < n := by have := (List.getElem?_eq_some_iff.1 h).1; rw [setB_len] at this; exact this
  unfold setB at h
  rw [List.getElem?_map, List.getElem?_range hj] at h
  simp only [Option.map_some, Option.some.injEq] at h
  exact ⟨hj, by rw [← h]; simp⟩
theorem boolsB_get {n j : Nat} {P : Nat → Prop} {b : Bool} (h : (boolsB n P)[j]? = some b) : b = true ↔ P j := by
  have := setB_get h
  rw [this.2]
  exact ⟨fun q => q.2, fun q => ⟨this.1, q⟩⟩
theorem setB_set {n i : Nat} {P : Nat → Prop} {b : Bool} (hi : i < n) (hb : b = true ↔ P i) : (setB n i P).set i b = setB n (i + 1) P := by
  apply List.ext_getElem
  · simp
  · intro j h1 h2
    simp only [List.length_set, setB_len] at h1
    rw [List.getElem_set]
    by_cases e : i = j
    · subst e
      rw [if_pos rfl, setB_at]
      cases b
      · exact (@decide_eq_false _ (Classical.propDecidable _) (fun q => absurd (hb.2 q.2) Bool.false_ne_true)).symm
      · exact (@decide_eq_true _ (Classical.propDecidable _) ⟨by omega, hb.1 rfl⟩).symm
    · rw [if_neg e, setB_at, setB_at]
      refine decide_eq_decide.2 ?_
      constructor
      · rintro ⟨a, q⟩; exact ⟨by omega, q⟩
      · rintro ⟨a, q⟩; exact ⟨by omega, q⟩
theorem boolsB_congr {n : Nat} {P Q : Nat → Prop} (h : ∀ i, i < n → (P i ↔ Q i)) : boolsB n P = boolsB n Q := by
  apply List.ext_getElem
  · simp
  · intro j h1 h2
    have h3 : j < n := by simpa using h1
    rw [boolsB_at, boolsB_at]
    exact decide_eq_decide.2 (by rw [h j h3])
/-- one more is so -/
theorem boolsB_set {n i : Nat} {P : Nat → Prop} (hi : i < n) : (boolsB n P).set i true = boolsB n (fun j => P j ∨ j = i) := by
  apply List.ext_getElem
  · simp
  · intro j h1 h2
    simp only [List.length_set, boolsB_len] at h1
    rw [List.getElem_set]
    by_cases e : i = j
    · subst e; rw [if_pos rfl, boolsB_at]; exact (@decide_eq_true _ (Classical.propDecidable _) ⟨h1, .inr rfl⟩).symm
    · rw [if_neg e, boolsB_at, boolsB_at]
      exact decide_eq_decide.2 ⟨fun q => ⟨q.1, .inl q.2⟩, fun q => ⟨q.1, q.2.resolve_right fun r => e r.symm⟩⟩
end
section
set_option linter.unusedVariables false
/-- a post hears the tower, or one of the first u posts that are in a set -/
def HearU (d : GuardM) (C : Nat → Prop) (p : PostV) (u : Nat) : Prop := hearsP d d.Tower p.Spot ∨ ∃ (k : Nat) (q : PostV), k < u ∧ C k ∧ d.Posts[k]? = some q ∧ hearsP d q.Spot p.Spot
noncomputable instance (d : GuardM) (C : Nat → Prop) (p : PostV) (u : Nat) : Decidable (HearU d C p u) := Classical.propDecidable _
section
variable {d : GuardM} {C M : Nat → Prop} {p q : PostV} {u i : Nat}
theorem hu_zero : HearU d C p 0 ↔ hearsP d d.Tower p.Spot := ⟨fun h => h.resolve_right fun ⟨k, _, hk, _⟩ => absurd hk (Nat.not_lt_zero _), .inl⟩
theorem hu_yes (h : HearU d C p u) : HearU d C p (u + 1) := h.elim .inl fun ⟨k, q, hk, h2⟩ => .inr ⟨k, q, by omega, h2⟩
theorem hu_skip (h : ¬ HearU d C p u) (hc : ¬ C u) : ¬ HearU d C p (u + 1) := by
  rintro (h1 | ⟨k, q, hk, hC, hq⟩)
  · exact h (.inl h1)
  · rcases Nat.lt_or_ge k u with c | c
    · exact h (.inr ⟨k, q, c, hC, hq⟩)
    · obtain rfl : k = u := by omega
      exact hc hC
theorem hu_new (h : ¬ HearU d C p u) (hc : C u) (hq : d.Posts[u]? = some q) : HearU d C p (u + 1) ↔ hearsP d q.Spot p.Spot := by
  constructor
  · rintro (h1 | ⟨k, r, hk, hC, hr, hh⟩)
    · exact absurd (.inl h1) h
    · rcases Nat.lt_or_ge k u with c | c
      · exact absurd (.inr ⟨k, r, c, hC, hr, hh⟩) h
      · obtain rfl : k = u := by omega
        rw [hq] at hr; cases hr; exact hh
  · intro hh; exact .inr ⟨u, q, by omega, hc, hq, hh⟩
def SubC (d : GuardM) (M C : Nat → Prop) : Prop := ∀ i, i < d.Posts.length → C i → CallsP d M i
theorem sub_none : SubC d M (fun _ => False) := fun i _ h => h.elim
theorem sub_add (h : SubC d M C) (hm : M i) (hp : d.Posts[i]? = some p) (hh : HearU d C p u) : SubC d M (fun j => C j ∨ j = i) := by
  rintro j hj (hc | rfl)
  · exact h j hj hc
  · rcases hh with h1 | ⟨k, q, _, hC, hq, h2⟩
    · exact .tower hm hp h1
    · exact .post (h k (List.getElem?_eq_some_iff.1 hq).1 hC) hq hm hp h2
/-- nobody is added among the first i posts -/
def ClosedTo (d : GuardM) (M C : Nat → Prop) (i : Nat) : Prop := ∀ (j : Nat) (p : PostV), j < i → M j → ¬ C j → d.Posts[j]? = some p → ¬ HearU d C p d.Posts.length
theorem closed_zero : ClosedTo d M C 0 := fun j p hj => absurd hj (Nat.not_lt_zero _)
theorem closed_skip (h : ClosedTo d M C i) (hc : C i ∨ ¬ M i) : ClosedTo d M C (i + 1) := fun j p hj hm hn hp => by
  rcases Nat.lt_or_ge j i with c | c
  · exact h j p c hm hn hp
  · obtain rfl : j = i := by omega
    rcases hc with hc | hc
    · exact absurd hc hn
    · exact absurd hm hc
theorem closed_no (h : ClosedTo d M C i) (hp : d.Posts[i]? = some p) (hh : ¬ HearU d C p u) (hu : d.Posts.length ≤ u) : ClosedTo d M C (i + 1) := fun j q hj hm hn hq => by
  rcases Nat.lt_or_ge j i with c | c
  · exact h j q c hm hn hq
  · obtain rfl : j = i := by omega
    rw [hp] at hq; cases hq
    rintro (h1 | ⟨k, r, hk, h2⟩)
    · exact hh (.inl h1)
    · exact hh (.inr ⟨k, r, by omega, h2⟩)
theorem closed_all (hs : SubC d M C) (h : ClosedTo d M C i) (hi : d.Posts.length ≤ i) : ∀ j, j < d.Posts.length → (C j ↔ CallsP d M j) := by
  have key : ∀ j, CallsP d M j → C j := by
    intro j hj
    induction hj with
    | @tower j p hm hp hh =>
      have hlt := (List.getElem?_eq_some_iff.1 hp).1
      exact Classical.byContradiction fun q => h j p (by omega) hm q hp (.inl hh)
    | @post k j q p hk hq hm hp hh ih =>
      have hlt := (List.getElem?_eq_some_iff.1 hp).1
      have hlk := (List.getElem?_eq_some_iff.1 hq).1
      exact Classical.byContradiction fun r => h j p (by omega) hm r hp (.inr ⟨k, q, hlk, ih, hq, hh⟩)
  exact fun j hj => ⟨hs j hj, key j⟩
noncomputable def cnt (n : Nat) (C : Nat → Prop) : Nat := (idxL n C).length
theorem cnt_le {n : Nat} : cnt n C ≤ n := idxL_len
theorem cnt_add {n : Nat} (hi : i < n) (hc : ¬ C i) : cnt n (fun j => C j ∨ j = i) = cnt n C + 1 := by
  unfold cnt
  induction n with
  | zero => omega
  | succ n ih =>
    by_cases e : i = n
    · subst e
      rw [idx_len_yes (P := fun j => C j ∨ j = i) (.inr rfl), idx_len_no hc]
      rw [idxL_congr (p := fun j => C j ∨ j = i) (q := C) fun j hj => ⟨fun q => q.resolve_right (by omega), .inl⟩]
    · have ih := ih (by omega)
      by_cases h : C n
      · rw [idx_len_yes (P := fun j => C j ∨ j = i) (.inl h), idx_len_yes h, ih]
      · rw [idx_len_no (P := fun j => C j ∨ j = i) (fun q => q.elim h (fun r => e r.symm)), idx_len_no h, ih]
end
theorem bools_none {n : Nat} : List.replicate n false = boolsB n (fun _ => False) := by
  apply List.ext_getElem
  · simp
  · intro j h1 h2
    rw [boolsB_at]
    simp
section
variable {d : GuardM} {C C2 M : Nat → Prop} {m2 : Bool} {p : PostV} {u i : Nat}
abbrev FixI (d : GuardM) (M C C2 : Nat → Prop) (m2 : Bool) (i : Nat) : Prop := (m2 = false ∧ ClosedTo d M C2 i ∧ cnt d.Posts.length C2 = cnt d.Posts.length C) ∨ (m2 = true ∧ cnt d.Posts.length C < cnt d.Posts.length C2)
theorem fix_skip (h0 : i ≤ d.Posts.length) (h1 : SubC d M C2) (h2 : FixI d M C C2 m2 i) (hi : i < d.Posts.length) (hc : C2 i ∨ ¬ M i) : i + 1 ≤ d.Posts.length ∧ SubC d M C2 ∧ FixI d M C C2 m2 (i + 1) :=
  ⟨hi, h1, h2.elim (fun q => .inl ⟨q.1, closed_skip q.2.1 hc, q.2.2⟩) .inr⟩
theorem fix_no (h0 : i ≤ d.Posts.length) (h1 : SubC d M C2) (h2 : FixI d M C C2 m2 i) (hi : i < d.Posts.length) (hp : d.Posts[i]? = some p) (hh : ¬ HearU d C2 p u) (hu : d.Posts.length ≤ u) : i + 1 ≤ d.Posts.length ∧ SubC d M C2 ∧ FixI d M C C2 m2 (i + 1) :=
  ⟨hi, h1, h2.elim (fun q => .inl ⟨q.1, closed_no q.2.1 hp hh hu, q.2.2⟩) .inr⟩
theorem fix_add (h0 : i ≤ d.Posts.length) (h1 : SubC d M C2) (h2 : FixI d M C C2 m2 i) (hi : i < d.Posts.length) (hc : ¬ C2 i) (hm : M i) (hp : d.Posts[i]? = some p) (hh : HearU d C2 p u) : i + 1 ≤ d.Posts.length ∧ SubC d M (fun j => C2 j ∨ j = i) ∧ FixI d M C (fun j => C2 j ∨ j = i) true (i + 1) := by
  refine ⟨hi, sub_add h1 hm hp hh, .inr ⟨rfl, ?_⟩⟩
  rw [cnt_add hi hc]
  rcases h2 with ⟨_, _, h⟩ | ⟨_, h⟩ <;> omega
end
/-- the places of a row of bools that are true -/
theorem bools_idx {n : Nat} {P : Nat → Prop} : idxL (boolsB n P).length (fun i => (boolsB n P)[i]? = some true) = idxL n P := by
  rw [boolsB_len]
  refine idxL_congr fun i hi => ?_
  have hb : (boolsB n P)[i]? = some ((boolsB n P)[i]'(by rw [boolsB_len]; exact hi)) := List.getElem?_eq_getElem _
  have h2 := boolsB_get hb
  rw [hb]
  constructor
  · intro q; exact h2.1 (Option.some.inj q)
  · intro q; rw [h2.2 q]
end
section
set_option linter.unusedVariables false
def MeetsC (d : GuardM) (k : Int) (C : Nat → Prop) (i : Nat) : Prop := C i ∧ ∃ n, d.Needs[k.toNat]? = some n ∧ fitsP d n i
section
variable {d : GuardM} {k : Int} {C : Nat → Prop} {i : Nat} {n : NeedV} {p : PostV} {l : List Int}
theorem mc_off (h : ¬ C i) : false = true ↔ MeetsC d k C i := ⟨fun q => Bool.noConfusion q, fun q => absurd q.1 h⟩
theorem mc_kind (hn : d.Needs[k.toNat]? = some n) (hp : d.Posts[i]? = some p) (h : ¬ p.Kind = n.Kind) : false = true ↔ MeetsC d k C i := ⟨fun q => Bool.noConfusion q, fun ⟨_, m, hm, q, hq, e, _⟩ => by
  rw [hn] at hm; cases hm
  rw [hp] at hq; cases hq
  exact absurd e h⟩
theorem mc_time (hg : guardE d = 0) (hn : d.Needs[k.toNat]? = some n) (hp : d.Posts[i]? = some p) (hc : C i) (h : p.Kind = n.Kind) : decide (timeV d (i : Int) n.Stretch ≤ n.Seconds) = true ↔ MeetsC d k C i := by
  have hno := (guardE_zero hg).2.need n (List.mem_of_getElem? hn)
  unfold NeedOk at hno
  have hi := (List.getElem?_eq_some_iff.1 hp).1
  rw [(far_in (d := d) (a := (i : Int)) (k := n.Stretch) hg (by omega) (by rw [Int.toNat_natCast]; exact hp)).2.2, decide_eq_true_eq]
  constructor
  · exact fun q => ⟨hc, n, hn, p, hp, h, q⟩
  · rintro ⟨_, m, hm, q, hq, _, ht⟩
    rw [hn] at hm; cases hm
    rw [hp] at hq; cases hq
    exact ht
end
end
section
open Go.RowKit
set_option linter.unusedVariables false
set_option maxRecDepth 100000 in
set_option maxHeartbeats 400000 in
theorem rDrop_c (ts : List StretchV) (tsA : Option Addr) (tsC : Nat) (f : Int) (t : Int) (hlen : ts.length ≤ 1000000) :
    FnV Tryz.prog 108 [(Value.agg (TrackV.cells (TrackV.mk (Slc.mk tsA ts.length tsC))).toArray), (Value.int .i64 f), (Value.int .i64 t)] [(rd tsA ts.length 9 (ts.map StretchV.cells))] (Value.tuple [(Value.agg (SpanV.cells (dropL ts f t)).toArray), (Value.agg (SpanV.cells (dropH ts f t)).toArray), (Value.int .i64 (dropE ts f t))].toArray) := by
 refine fnV_of go108 Tryz.func108 rfl rfl fun w0 Q hQ hN => ?_
 try dsimp only
 refine WS fun _ hK1 => BXA rfl fun b2 => AL rfl tz28 fun b3 => AL rfl tz28 fun b4 => rS (AG rfl) <| RK hK1 <| w_seq fun _ hK5 => WS fun _ hK6 => rS (LW 2 rfl tk24 rfl rfl) <| rS (CL (track_c ts tsA tsC hlen) (ha_at 3 rfl rfl <| ha_nil) rfl) ?_
 refine rS (NT rfl) <| RK hK6 ?_
 refine w_if rfl (fun hg13 => ?_) (fun hg13 => ?_)
 · rw [Bool.not_eq_true'] at hg13
   refine WS fun _ hK7 => rS (SX (sd_build (xs := []) (cs := (SpanV.cells (SpanV.mk 0 0))) rfl rfl (built_of tb28 rfl)) rfl rfl) <| rS (SX (sd_build (xs := []) (cs := (SpanV.cells (SpanV.mk 0 0))) rfl rfl (built_of tb28 rfl)) rfl rfl) <| SW1 rfl ts28 rfl <| SW0 rfl ts28 rfl <| rS (AG rfl) <| RK hK7 <| w_ret ?_
   refine hQ _ _ _ (l_nil (vs := [(Value.agg (SpanV.cells (SpanV.mk 0 0)).toArray), (Value.agg (SpanV.cells (SpanV.mk 0 0)).toArray), (Value.int .i64 10)]) ⟨⟨_, rfl, .inl ⟨_, _, tk28, at_blk (vs := (SpanV.cells (SpanV.mk 0 0))) 1 rfl rfl, rfl, rfl⟩⟩, ⟨_, rfl, .inl ⟨_, _, tk28, at_blk (vs := (SpanV.cells (SpanV.mk 0 0))) 0 rfl rfl, rfl, rfl⟩⟩, rfl, trivial⟩ fun w hs => endV ?_ hs)
   show (Value.tuple [(Value.agg (SpanV.cells (SpanV.mk 0 0)).toArray), (Value.agg (SpanV.cells (SpanV.mk 0 0)).toArray), (Value.int .i64 10)].toArray) = (Value.tuple [(Value.agg (SpanV.cells (dropL ts f t)).toArray), (Value.agg (SpanV.cells (dropH ts f t)).toArray), (Value.int .i64 (dropE ts f t))].toArray)
   clear hs w hQ hN hK7 hK6 hK5 hK1
   first | (have e := dropE_bad (f := f) (t := t) (by simpa using hg13 : trackOk ts = false); rw [e.1, e.2.1, e.2.2] <;> rfl) | (have e := dropE_out (f := f) (t := t) hg13 (by omega); rw [e.1, e.2.1, e.2.2] <;> rfl) | (have e := dropE_in (f := f) (t := t) hg13 (by omega); rw [e.1, e.2.1, e.2.2] <;> rfl)
 rw [Bool.not_eq_false'] at hg13
 refine WK hK5 <| w_seq fun _ hK8 => WS fun _ hK9 => ?_
 have hst := trackOk_all hg13
 have hl12 := trackOk_le hg13
 refine rS (MV rfl) <| rS (FA 0 rfl fo24_0 rfl) <| rS (L1 (Value.slice tsA ts.length tsC) 2 rfl tk22 rfl rfl) <| rS (LN rfl ut22) <| rS (CL (within_1 f 0 ((ts.length : Nat) : Int)) (ha_nil) rfl) <| rS (NT rfl) <| rS (MV rfl) ?_
 refine r_bool (t := 22) rfl (fun hg22 => ?_) (fun hg22 => ?_)
 · replace hg22 := XT hg22
   refine rS (OX rfl) <| rS (OX rfl) <| rS (OX rfl) <| rS (OX rfl) <| rS (OX rfl) <| rS (OX rfl) <| rS (OX rfl) <| rS (PK rfl) <| RK hK9 <| w_if_true rfl ?_
   refine WS fun _ hK10 => rS (SX (sd_build (xs := []) (cs := (SpanV.cells (SpanV.mk 0 0))) rfl rfl (built_of tb28 rfl)) rfl rfl) <| rS (SX (sd_build (xs := []) (cs := (SpanV.cells (SpanV.mk 0 0))) rfl rfl (built_of tb28 rfl)) rfl rfl) <| SW1 rfl ts28 rfl <| SW0 rfl ts28 rfl <| rS (AG rfl) <| RK hK10 <| w_ret ?_
   refine hQ _ _ _ (l_nil (vs := [(Value.agg (SpanV.cells (SpanV.mk 0 0)).toArray), (Value.agg (SpanV.cells (SpanV.mk 0 0)).toArray), (Value.int .i64 2)]) ⟨⟨_, rfl, .inl ⟨_, _, tk28, at_blk (vs := (SpanV.cells (SpanV.mk 0 0))) 1 rfl rfl, rfl, rfl⟩⟩, ⟨_, rfl, .inl ⟨_, _, tk28, at_blk (vs := (SpanV.cells (SpanV.mk 0 0))) 0 rfl rfl, rfl, rfl⟩⟩, rfl, trivial⟩ fun w hs => endV ?_ hs)
   show (Value.tuple [(Value.agg (SpanV.cells (SpanV.mk 0 0)).toArray), (Value.agg (SpanV.cells (SpanV.mk 0 0)).toArray), (Value.int .i64 2)].toArray) = (Value.tuple [(Value.agg (SpanV.cells (dropL ts f t)).toArray), (Value.agg (SpanV.cells (dropH ts f t)).toArray), (Value.int .i64 (dropE ts f t))].toArray)
   clear hs w hQ hN hK10 hK9 hK8 hK6 hK5 hK1
   first | (have e := dropE_bad (f := f) (t := t) (by simpa using hg13 : trackOk ts = false); rw [e.1, e.2.1, e.2.2] <;> rfl) | (have e := dropE_out (f := f) (t := t) hg13 (by omega); rw [e.1, e.2.1, e.2.2] <;> rfl) | (have e := dropE_in (f := f) (t := t) hg13 (by omega); rw [e.1, e.2.1, e.2.2] <;> rfl)
 replace hg22 := XF hg22
 refine rS (MV rfl) <| rS (MV rfl) <| rS (FA 0 rfl fo24_0 rfl) <| rS (L1 (Value.slice tsA ts.length tsC) 2 rfl tk22 rfl rfl) <| rS (LN rfl ut22) <| rS (CL (within_1 t f ((ts.length : Nat) : Int)) (ha_nil) rfl) <| rS (NT rfl) <| rS (PK rfl) <| RK hK9 ?_
 refine w_if rfl (fun hg30 => ?_) (fun hg30 => ?_)
 · replace hg30 := XT hg30
   refine WS fun _ hK11 => rS (SX (sd_build (xs := []) (cs := (SpanV.cells (SpanV.mk 0 0))) rfl rfl (built_of tb28 rfl)) rfl rfl) <| rS (SX (sd_build (xs := []) (cs := (SpanV.cells (SpanV.mk 0 0))) rfl rfl (built_of tb28 rfl)) rfl rfl) <| SW1 rfl ts28 rfl <| SW0 rfl ts28 rfl <| rS (AG rfl) <| RK hK11 <| w_ret ?_
   refine hQ _ _ _ (l_nil (vs := [(Value.agg (SpanV.cells (SpanV.mk 0 0)).toArray), (Value.agg (SpanV.cells (SpanV.mk 0 0)).toArray), (Value.int .i64 2)]) ⟨⟨_, rfl, .inl ⟨_, _, tk28, at_blk (vs := (SpanV.cells (SpanV.mk 0 0))) 1 rfl rfl, rfl, rfl⟩⟩, ⟨_, rfl, .inl ⟨_, _, tk28, at_blk (vs := (SpanV.cells (SpanV.mk 0 0))) 0 rfl rfl, rfl, rfl⟩⟩, rfl, trivial⟩ fun w hs => endV ?_ hs)
   show (Value.tuple [(Value.agg (SpanV.cells (SpanV.mk 0 0)).toArray), (Value.agg (SpanV.cells (SpanV.mk 0 0)).toArray), (Value.int .i64 2)].toArray) = (Value.tuple [(Value.agg (SpanV.cells (dropL ts f t)).toArray), (Value.agg (SpanV.cells (dropH ts f t)).toArray), (Value.int .i64 (dropE ts f t))].toArray)
   clear hs w hQ hN hK11 hK9 hK8 hK6 hK5 hK1
   first | (have e := dropE_bad (f := f) (t := t) (by simpa using hg13 : trackOk ts = false); rw [e.1, e.2.1, e.2.2] <;> rfl) | (have e := dropE_out (f := f) (t := t) hg13 (by omega); rw [e.1, e.2.1, e.2.2] <;> rfl) | (have e := dropE_in (f := f) (t := t) hg13 (by omega); rw [e.1, e.2.1, e.2.2] <;> rfl)
 replace hg30 := XF hg30
 refine WK hK8 <| WS fun _ hK12 => rS (LW 2 rfl tk24 rfl rfl) <| rS (MV rfl) <| rS (MV rfl) <| rS (CL (rdrop_c ts tsA tsC f t (by first | assumption | omega | (simp; done) | (simp; omega)) (by first | assumption | omega | (simp; done) | (simp; omega)) (by first | assumption | omega | (simp; done) | (simp; omega))) (ha_at 3 rfl rfl <| ha_nil) rfl) <| rS (MV rfl) <| rS (EX rfl) <| rS (EX rfl) <| AL rfl tz28 fun b13 => ?_
 refine AL rfl tz28 fun b14 => SW1 rfl ts28 rfl <| SW0 rfl ts28 rfl <| RK hK12 <| w_seq fun _ hK15 => w_draw4 mixed [0, 1, 4] [2, 3] [false, false, false] [false, false] [(blk b14 28 (SpanV.cells (fallF ts f.toNat (t - f).toNat))), (blk b13 28 (SpanV.cells (longF ts f.toNat (t - f).toNat))), (blk b2 24 (TrackV.cells (TrackV.mk (Slc.mk tsA ts.length tsC)))), (rd tsA ts.length 9 (ts.map StretchV.cells)).ro] [] (by kernel_rfl) (fun w hs => St.sel [0, 1, 4, 5] rfl rfl hs) (fun w hs => St.sel [] rfl rfl hs) <| eS rfl (LW 1 rfl tk28 rfl rfl) <| eS rfl (LW 0 rfl tk28 rfl rfl) <| eS rfl (AG rfl) <| d_fin rfl ?_
 refine t_cons rfl fun T16 hT16 => SW3 rfl ts28 rfl <| RN hT16 [0, 1, 4, 5] rfl rfl <| t_cons rfl fun T17 hT17 => SW2 rfl ts28 rfl <| RN hT17 [0, 1, 4, 5] rfl rfl <| t_fin rfl <| KK hK15 <| w_ret ?_
 refine hQ _ _ _ (l_nil (vs := [(Value.agg (SpanV.cells (longF ts f.toNat (t - f).toNat)).toArray), (Value.agg (SpanV.cells (fallF ts f.toNat (t - f).toNat)).toArray), (Value.int .i64 0)]) ⟨⟨_, rfl, .inl ⟨_, _, tk28, at_blk (vs := (SpanV.cells (longF ts f.toNat (t - f).toNat))) 3 rfl rfl, rfl, rfl⟩⟩, ⟨_, rfl, .inl ⟨_, _, tk28, at_blk (vs := (SpanV.cells (fallF ts f.toNat (t - f).toNat))) 2 rfl rfl, rfl, rfl⟩⟩, rfl, trivial⟩ fun w hs => endV ?_ hs)
 show (Value.tuple [(Value.agg (SpanV.cells (longF ts f.toNat (t - f).toNat)).toArray), (Value.agg (SpanV.cells (fallF ts f.toNat (t - f).toNat)).toArray), (Value.int .i64 0)].toArray) = (Value.tuple [(Value.agg (SpanV.cells (dropL ts f t)).toArray), (Value.agg (SpanV.cells (dropH ts f t)).toArray), (Value.int .i64 (dropE ts f t))].toArray)
 clear hs w hQ hN hT17 T17 hT16 T16 hK15 hK12 hK9 hK8 hK6 hK5 hK1
 first | (have e := dropE_bad (f := f) (t := t) (by simpa using hg13 : trackOk ts = false); rw [e.1, e.2.1, e.2.2] <;> rfl) | (have e := dropE_out (f := f) (t := t) hg13 (by omega); rw [e.1, e.2.1, e.2.2] <;> rfl) | (have e := dropE_in (f := f) (t := t) hg13 (by omega); rw [e.1, e.2.1, e.2.2] <;> rfl)
set_option maxRecDepth 100000 in
set_option maxHeartbeats 400000 in
theorem tomark_c (ts : List StretchV) (tsA : Option Addr) (tsC : Nat) (s : SpotV) (k : Int) (hlen : ts.length ≤ 1000000) (hside : ∀ x ∈ ts, 0 ≤ x.Side ∧ x.Side ≤ 255) (htr : trackOk ts = true) (hs : SpotOk ts s) (hk : 0 ≤ k ∧ k ≤ (ts.length : Int)) :
    FnV Tryz.prog 98 [(Value.agg (TrackV.cells (TrackV.mk (Slc.mk tsA ts.length tsC))).toArray), (Value.agg (SpotV.cells s).toArray), (Value.int .i64 k)] [(rd tsA ts.length 9 (ts.map StretchV.cells))] (Value.int .i64 (markF ts s k)) := by
 have hsb := hs.1
 have hob := spot_b (trackOk_all htr) hs
 have hl12 := trackOk_le htr
 refine fnV_of go98 Tryz.func98 rfl rfl fun w0 Q hQ hN => ?_
 try dsimp only
 refine WS fun _ hK1 => BXA rfl fun b2 => BXA rfl fun b3 => rS (AG rfl) <| RK hK1 <| w_seq fun _ hK4 => WS fun _ hK5 => rS (MV rfl) <| rS (FA 0 rfl fo30_0 rfl) <| rS (L1 (Value.int .i64 s.Stretch) 0 rfl tk3 rfl rfl) ?_
 refine rS (BI rfl b_leq) <| RK hK5 ?_
 refine w_if rfl (fun hg16 => ?_) (fun hg16 => ?_)
 · replace hg16 := DT hg16
   refine WS fun _ hK6 => rS (LW 1 rfl tk24 rfl rfl) <| rS (MV rfl) <| rS (FA 0 rfl fo30_0 rfl) <| rS (L1 (Value.int .i64 s.Stretch) 0 rfl tk3 rfl rfl) <| rS (CL (rDrop_c ts tsA tsC k s.Stretch hlen) (ha_at 2 rfl rfl <| ha_nil) rfl) <| rS (MV rfl) <| rS (EX rfl) <| rS (EX rfl) <| rS (EX rfl) ?_
   refine AL rfl tz28 fun b7 => AL rfl tz28 fun b8 => SW1 rfl ts28 rfl <| SW0 rfl ts28 rfl <| rS (AG rfl) <| RK hK6 <| WS fun _ hK9 => ?_
   have hdr := dropE_in (f := k) (t := s.Stretch) htr (by omega)
   have hlb := longF_b (trackOk_all htr) k.toNat (s.Stretch - k).toNat
   rw [← hdr.2.1] at hlb
   refine rS (FA 1 rfl fo28_1 rfl) <| rS (L1 (Value.int .i64 ((dropL ts k s.Stretch).Hi)) 1 rfl tk3 rfl rfl) <| rS (FA 1 rfl fo30_1 rfl) <| rS (FA 2 rfl fo28_1 rfl) <| rS (L1 (Value.int .i64 s.Off.Hi) 2 rfl tk3 rfl rfl) <| rS (BI rfl (b_add ⟨by omega, by omega⟩)) <| rS (AG rfl) <| RK hK9 <| w_ret <| Q1 hQ rfl rfl rfl ?_
   first | (refine congrArg (Value.int .i64) ?_; unfold markF; rw [if_pos hg16, hdr.2.1]) | (refine congrArg (Value.int .i64) ?_; unfold markF; rw [if_neg hg16, hdr.2.1])
 replace hg16 := DF hg16
 refine WK hK4 <| WS fun _ hK10 => rS (LW 1 rfl tk24 rfl rfl) <| rS (FA 0 rfl fo30_0 rfl) <| rS (L1 (Value.int .i64 s.Stretch) 0 rfl tk3 rfl rfl) <| rS (MV rfl) <| rS (CL (rDrop_c ts tsA tsC s.Stretch k hlen) (ha_at 2 rfl rfl <| ha_nil) rfl) <| rS (MV rfl) <| rS (EX rfl) <| rS (EX rfl) ?_
 refine rS (EX rfl) <| AL rfl tz28 fun b11 => AL rfl tz28 fun b12 => SW1 rfl ts28 rfl <| SW0 rfl ts28 rfl <| rS (AG rfl) <| RK hK10 <| WS fun _ hK13 => ?_
 have hdr := dropE_in (f := s.Stretch) (t := k) htr (by omega)
 have hlb := longF_b (trackOk_all htr) s.Stretch.toNat (k - s.Stretch).toNat
 rw [← hdr.2.1] at hlb
 refine rS (FA 1 rfl fo28_1 rfl) <| rS (L1 (Value.int .i64 ((dropL ts s.Stretch k).Hi)) 1 rfl tk3 rfl rfl) <| rS (FA 1 rfl fo30_1 rfl) <| rS (FA 1 rfl fo28_0 rfl) <| rS (L1 (Value.int .i64 s.Off.Lo) 2 rfl tk3 rfl rfl) <| rS (BI rfl (b_sub ⟨by omega, by omega⟩)) <| rS (AG rfl) <| RK hK13 <| w_ret <| Q1 hQ rfl rfl rfl ?_
 first | (refine congrArg (Value.int .i64) ?_; unfold markF; rw [if_pos hg16, hdr.2.1]) | (refine congrArg (Value.int .i64) ?_; unfold markF; rw [if_neg hg16, hdr.2.1])
set_option maxRecDepth 100000 in
set_option maxHeartbeats 400000 in
theorem rpfar_c (ts : List StretchV) (tsA : Option Addr) (tsC : Nat) (s : SpotV) (k : Int) (hlen : ts.length ≤ 1000000) (hside : ∀ x ∈ ts, 0 ≤ x.Side ∧ x.Side ≤ 255) (htr : trackOk ts = true) (hs : SpotOk ts s) (hk : 0 ≤ k ∧ k < (ts.length : Int)) :
    FnV Tryz.prog 73 [(Value.agg (TrackV.cells (TrackV.mk (Slc.mk tsA ts.length tsC))).toArray), (Value.agg (SpotV.cells s).toArray), (Value.int .i64 k)] [(rd tsA ts.length 9 (ts.map StretchV.cells))] (Value.int .i64 (farF ts s k)) := by
 have hm1 := mark_b htr hs (m := k) (by omega)
 have hm2 := mark_b htr hs (m := k + 1) (by omega)
 refine fnV_of go73 Tryz.func73 rfl rfl fun w0 Q hQ hN => ?_
 try dsimp only
 refine WS fun _ hK1 => BXA rfl fun b2 => BXA rfl fun b3 => rS (AG rfl) <| RK hK1 <| w_seq fun _ hK4 => w_draw mixed 11 (by kernel_rfl) <| dS (LW 1 rfl tk24 rfl rfl) <| dS (LW 0 rfl tk30 rfl rfl) <| dS (MV rfl) ?_
 refine dS (CL (tomark_c ts tsA tsC s k hlen hside htr hs (by first | assumption | omega | (simp; done) | (simp; omega))) (ha_at 2 rfl rfl <| ha_nil) rfl) <| dS (LW 1 rfl tk24 rfl rfl) <| dS (LW 0 rfl tk30 rfl rfl) <| dS (MV rfl) <| dS (BI rfl (b_add ⟨by omega, by omega⟩)) <| dS (CL (tomark_c ts tsA tsC s (k + 1) hlen hside htr hs (by first | assumption | omega | (simp; done) | (simp; omega))) (ha_at 2 rfl rfl <| ha_nil) rfl) <| dS (MX rfl) <| dS (AG rfl) <| d_end <| RK hK4 ?_
 refine w_ret ?_
 exact Q1 hQ rfl rfl rfl rfl
set_option maxRecDepth 100000 in
set_option maxHeartbeats 400000 in
theorem rtime_c (d : GuardM) (kA : Option Addr) (kC : Nat) (pA : Option Addr) (pC : Nat) (nA : Option Addr) (nC : Nat) (a : Int) (k : Int) (hin : GuardIn d) (hge : guardE d = 0) (hak : (0 ≤ a ∧ a ≤ (d.Posts.length : Int) - 1) ∧ 0 ≤ k ∧ k ≤ (d.Track.length : Int) - 1) :
    FnV Tryz.prog 58 [(Value.agg (GuardV.cells (GuardV.mk (TrackV.mk (Slc.mk kA d.Track.length kC)) (Slc.mk pA d.Posts.length pC) (Slc.mk nA d.Needs.length nC) d.Tower d.Radio)).toArray), (Value.int .i64 a), (Value.int .i64 k)] [(rd kA d.Track.length 9 (d.Track.map StretchV.cells)), (rd pA d.Posts.length 7 (d.Posts.map PostV.cells)), (rd nA d.Needs.length 3 (d.Needs.map NeedV.cells))] (Value.int .i64 (timeV d a k)) := by
 have hlen := hin.trk
 have hside := hin.side
 have hpl := hin.pst
 have hnl := hin.nds
 have hnk := hin.nk
 have hpk := hin.pk
 obtain ⟨htr, hok⟩ := guardE_zero hge
 refine fnV_of go58 Tryz.func58 rfl rfl fun w0 Q hQ hN => ?_
 try dsimp only
 refine WS fun _ hK1 => BXA rfl fun b2 => rS (AG rfl) <| RK hK1 <| WS fun _ hK3 => rS (FA 1 rfl fo32_1 rfl) <| rS (L1 (Value.slice pA d.Posts.length pC) 0 rfl tk25 rfl rfl) <| rS (MV rfl) ?_
 obtain ⟨p, hp⟩ : ∃ y_, d.Posts[(a).toNat]? = some y_ := ⟨d.Posts[(a).toNat]'(by omega), List.getElem?_eq_getElem _⟩
 have hpm : (d.Posts.map PostV.cells)[(a).toNat]? = some (PostV.cells p) := by rw [List.getElem?_map, hp]; rfl
 refine rS (IA ((a).toNat) rfl (has_at 2 rfl) te25 (by decide) (by omega) (by omega)) <| rS (LEN ((a).toNat) 0 (PostV.cells p) rfl tk63 (has_at 2 rfl) hpm rfl (by decide) rfl rfl) <| AL rfl tz63 fun b4 => SW0 rfl ts63 rfl <| RK hK3 <| w_seq fun _ hK5 => w_draw mixed 15 (by kernel_rfl) ?_
 have hpo := hok.post _ p hp
 unfold PostOk at hpo
 have hfb := far_b htr hpo.2.2.1 (k := k) (by omega)
 have hpc := pace_b hpo.2.2.2.2 hfb
 refine dS (FA 5 rfl fo63_3 rfl) <| dS (L1 (Value.int .i64 p.Delay) 0 rfl tk3 rfl rfl) <| dS (FA 6 rfl fo63_4 rfl) <| dS (L1 (Value.int .i64 p.Pace) 0 rfl tk3 rfl rfl) <| dS (FA 0 rfl fo32_0 rfl) <| dS (LP (TrackV.cells (TrackV.mk (Slc.mk kA d.Track.length kC))) 1 rfl tk24 rfl rfl rfl) <| dS (FA 2 rfl fo63_2 rfl) <| dS (LP (SpotV.cells p.Spot) 0 rfl tk30 rfl rfl rfl) <| dS (MV rfl) <| dS (CL (rpfar_c d.Track kA kC p.Spot k (by first | assumption | omega | (simp; done) | (simp; omega)) (by first | assumption | omega | (simp; done) | (simp; omega)) (by first | assumption | omega | (simp; done) | (simp; omega)) (by exact hpo.2.2.1) (by first | assumption | omega | (simp; done) | (simp; omega))) (ha_at 2 rfl rfl <| ha_nil) rfl) ?_
 refine dS (BI rfl (b_mul ⟨by omega, by omega⟩)) <| dS (BI rfl (b_add ⟨by omega, by omega⟩)) <| dS (BI rfl (b_quo (by omega) (by omega) (by omega))) <| dS (BI rfl (b_add ⟨by omega, by omega⟩)) <| dS (AG rfl) <| d_end <| RK hK5 <| w_ret <| Q1 hQ rfl rfl rfl ?_
 exact congrArg (Value.int .i64) (far_in (k := k) hge hak hp).2.2.symm
set_option maxRecDepth 100000 in
set_option maxHeartbeats 400000 in
theorem remp_c (d : GuardM) (kA : Option Addr) (kC : Nat) (pA : Option Addr) (pC : Nat) (nA : Option Addr) (nC : Nat) (l : List Int) (lA : Option Addr) (lC : Nat) (hin : GuardIn d) (hll : l.length ≤ 1000000) :
    FnV Tryz.prog 21 [(Value.agg (GuardV.cells (GuardV.mk (TrackV.mk (Slc.mk kA d.Track.length kC)) (Slc.mk pA d.Posts.length pC) (Slc.mk nA d.Needs.length nC) d.Tower d.Radio)).toArray), (Value.slice lA l.length lC)] [(rd kA d.Track.length 9 (d.Track.map StretchV.cells)), (rd pA d.Posts.length 7 (d.Posts.map PostV.cells)), (rd nA d.Needs.length 3 (d.Needs.map NeedV.cells)), (rd lA l.length 1 (l.map iC))] (Value.bool (decide (EmptyOk d.Posts.length l))) := by
 have hlen := hin.trk
 have hside := hin.side
 have hpl := hin.pst
 have hnl := hin.nds
 have hnk := hin.nk
 have hpk := hin.pk
 refine fnV_of go21 Tryz.func21 rfl rfl fun w0 Q hQ hN => ?_
 try dsimp only
 refine WS fun _ hK1 => BXA rfl fun b2 => rS (AG rfl) <| RK hK1 <| w_seq fun _ hK3 => WS fun _ hK4 => rS (AG rfl) <| RK hK4 <| w_block ?_
 have hinit : (0 ≤ l.length) ∧ (EmptyTo d.Posts.length l 0) := by exact ⟨Nat.zero_le _, empty_zero⟩
 refine w_loop (ι := { z : Nat // (z ≤ l.length) ∧ (EmptyTo d.Posts.length l z) }) (fun z => [(1, (Value.slice lA l.length lC)), (2, (Value.pointer (some ⟨b2, 0, none⟩))), (5, (Value.int .i64 ((z.1 : Nat) : Int)))]) (fun z => [(blk b2 32 (GuardV.cells (GuardV.mk (TrackV.mk (Slc.mk kA d.Track.length kC)) (Slc.mk pA d.Posts.length pC) (Slc.mk nA d.Needs.length nC) d.Tower d.Radio))), (rd kA d.Track.length 9 (d.Track.map StretchV.cells)).ro, (rd pA d.Posts.length 7 (d.Posts.map PostV.cells)).ro, (rd nA d.Needs.length 3 (d.Needs.map NeedV.cells)).ro, (rd lA l.length 1 (l.map iC)).ro]) (fun z => l.length - z.1) ⟨0, hinit⟩ (Sub.cons rfl <| Sub.cons rfl <| Sub.cons rfl <| Sub.nil _) (fun w hs => St.sel [0, 1, 2, 3, 4] rfl rfl hs) ?_
 clear hinit
 rintro ⟨i, ⟨hl2_0, hl2_1⟩⟩ J5 hJ5
 try dsimp only
 refine w_seq fun _ hK6 => WS fun _ hK7 => rS (MV rfl) <| rS (MV rfl) <| rS (LN rfl ut33) <| rS (BI rfl b_lss) <| RK hK7 ?_
 refine w_if rfl (fun h8 => ?_) (fun h8 => ?_)
 rotate_left 1
 · replace h8 := DF h8
   refine w_exit <| k_exit_then <| k_exit_then <| k_exit_same <| KK hK3 <| WS fun _ hK15 => rS (AG rfl) <| RK hK15 <| w_ret <| Q1 hQ rfl rfl rfl ?_
   first | exact congrArg Value.bool (decide_eq_true (empty_all hl2_1 (by omega))).symm | exact congrArg Value.bool (decide_eq_false (empty_no hx (fun q => by unfold EmptyAt at q; omega))).symm | exact congrArg Value.bool (decide_eq_false (empty_no hx (fun q => by have q1 := (emptyAt_next (by omega) hy).1 q; omega))).symm
 replace h8 := DT h8
 refine WK hK6 <| w_seq fun _ hK9 => w_block <| w_seq fun _ hK10 => w_draw mixed 26 (by kernel_rfl) <| dS (MV rfl) <| dS (MV rfl) ?_
 obtain ⟨x, hx⟩ : ∃ y_, l[i]? = some y_ := ⟨l[i]'(by omega), List.getElem?_eq_getElem _⟩
 have hxm : (l.map iC)[i]? = some (iC x) := by rw [List.getElem?_map, hx]; rfl
 refine dS (IA i rfl (has_at 4 rfl) te33 (by decide) (by omega) (by omega)) <| dS (LE1 i 0 (Value.int .i64 x) rfl tk3 (has_at 4 rfl) hxm rfl (by decide) rfl) <| dS (FA 1 rfl fo32_1 rfl) <| dS (L1 (Value.slice pA d.Posts.length pC) 0 rfl tk25 rfl rfl) <| dS (LN rfl ut25) <| dS (BI rfl (b_sub ⟨by omega, by omega⟩)) <| dS (CL (within_9 x 0 (((d.Posts.length : Nat) : Int) - 1)) (ha_nil) rfl) <| dS (NT rfl) <| dS (MV rfl) ?_
 refine d_bool (t := 22) rfl (fun hg22 => ?_) (fun hg22 => ?_)
 · replace hg22 := XT hg22
   refine dS (OX rfl) <| dS (OX rfl) <| dS (OX rfl) <| dS (OX rfl) <| dS (OX rfl) <| dS (OX rfl) <| dS (OX rfl) <| dS (OX rfl) <| dS (OX rfl) <| dS (OX rfl) ?_
   refine dS (OX rfl) <| dS (OX rfl) <| dS (OX rfl) <| dS (OX rfl) <| dS (PK rfl) <| d_end <| RK hK10 <| w_if_true rfl <| WS fun _ hK11 => rS (AG rfl) ?_
   refine RK hK11 <| w_ret <| Q1 hQ rfl rfl rfl ?_
   first | exact congrArg Value.bool (decide_eq_true (empty_all hl2_1 (by omega))).symm | exact congrArg Value.bool (decide_eq_false (empty_no hx (fun q => by unfold EmptyAt at q; omega))).symm | exact congrArg Value.bool (decide_eq_false (empty_no hx (fun q => by have q1 := (emptyAt_next (by omega) hy).1 q; omega))).symm
 replace hg22 := XF hg22
 refine dS (MV rfl) <| dS (BI rfl b_gtr) <| dS (MV rfl) ?_
 refine d_bool (t := 25) rfl (fun hg25 => ?_) (fun hg25 => ?_)
 rotate_left 1
 · replace hg25 := DF hg25
   refine dS (OX rfl) <| dS (OX rfl) <| dS (OX rfl) <| dS (OX rfl) <| dS (OX rfl) <| dS (OX rfl) <| dS (OX rfl) <| dS (OX rfl) <| dS (OX rfl) <| dS (OX rfl) ?_
   refine dS (PK rfl) <| dS (PK rfl) <| d_end <| RK hK10 <| w_if_false rfl <| w_skip <| k_block <| KK hK9 <| w_region <| rS (MV rfl) ?_
   refine rS (BI rfl (b_add ⟨by omega, by omega⟩)) <| rS (AG rfl) <| r_nil ?_
   have hb14 : (Value.int .i64 (((i + 1) : Nat) : Int)) = (Value.int .i64 (((i : Nat) : Int) + 1)) := by exact congrArg (Value.int .i64) (by omega)
   refine k_then (hJ5 ⟨(i + 1), ⟨by omega, empty_succ hl2_1 hx (by first | exact (by rw [show i = 0 by omega]; exact emptyAt_first.2 (by omega)) | exact (emptyAt_next (by omega) hy).2 (by omega))⟩⟩ _ _ _ rfl (by first | omega | (simp; omega)) (Sub.cons rfl <| Sub.cons rfl <| sub_val rfl hb14 <| Sub.nil _) (fun w hs => St.sel [0, 1, 2, 3, 4] rfl rfl hs))
 replace hg25 := DT hg25
 refine dS (MV rfl) <| dS (MV rfl) <| dS (IA i rfl (has_at 4 rfl) te33 (by decide) (by omega) (by omega)) <| dS (LE1 i 0 (Value.int .i64 x) rfl tk3 (has_at 4 rfl) hxm rfl (by decide) rfl) <| dS (MV rfl) <| dS (MV rfl) <| dS (BI rfl (b_sub ⟨by omega, by omega⟩)) ?_
 obtain ⟨y, hy⟩ : ∃ y_, l[(i - 1)]? = some y_ := ⟨l[(i - 1)]'(by omega), List.getElem?_eq_getElem _⟩
 have hym : (l.map iC)[(i - 1)]? = some (iC y) := by rw [List.getElem?_map, hy]; rfl
 refine dS (IA (i - 1) rfl (has_at 4 rfl) te33 (by decide) (by omega) (by omega)) <| dS (LE1 (i - 1) 0 (Value.int .i64 y) rfl tk3 (has_at 4 rfl) hym rfl (by decide) rfl) <| dS (BI rfl b_leq) <| dS (PK rfl) <| dS (PK rfl) <| d_end <| RK hK10 ?_
 refine w_if rfl (fun hg37 => ?_) (fun hg37 => ?_)
 · replace hg37 := DT hg37
   refine WS fun _ hK12 => rS (AG rfl) <| RK hK12 <| w_ret <| Q1 hQ rfl rfl rfl ?_
   first | exact congrArg Value.bool (decide_eq_true (empty_all hl2_1 (by omega))).symm | exact congrArg Value.bool (decide_eq_false (empty_no hx (fun q => by unfold EmptyAt at q; omega))).symm | exact congrArg Value.bool (decide_eq_false (empty_no hx (fun q => by have q1 := (emptyAt_next (by omega) hy).1 q; omega))).symm
 replace hg37 := DF hg37
 refine w_skip <| k_block <| KK hK9 <| w_region <| rS (MV rfl) <| rS (BI rfl (b_add ⟨by omega, by omega⟩)) <| rS (AG rfl) <| r_nil ?_
 have hb13 : (Value.int .i64 (((i + 1) : Nat) : Int)) = (Value.int .i64 (((i : Nat) : Int) + 1)) := by exact congrArg (Value.int .i64) (by omega)
 refine k_then (hJ5 ⟨(i + 1), ⟨by omega, empty_succ hl2_1 hx (by first | exact (by rw [show i = 0 by omega]; exact emptyAt_first.2 (by omega)) | exact (emptyAt_next (by omega) hy).2 (by omega))⟩⟩ _ _ _ rfl (by first | omega | (simp; omega)) (Sub.cons rfl <| Sub.cons rfl <| sub_val rfl hb13 <| Sub.nil _) (fun w hs => St.sel [0, 1, 2, 3, 4] rfl rfl hs))
set_option maxRecDepth 100000 in
set_option maxHeartbeats 400000 in
theorem rhas_c (la : List Int) (laA : Option Addr) (laC : Nat) (n : Int) (hlen : la.length ≤ 1000000) :
    FnV Tryz.prog 43 [(Value.slice laA la.length laC), (Value.int .i64 n)] [(rd laA la.length 1 (la.map iC))] (Value.bool (decide (n ∈ la))) := by
 refine fnV_of go43 Tryz.func43 rfl rfl fun w0 Q hQ hN => ?_
 try dsimp only
 refine WS fun _ hK1 => rS (AG rfl) <| RK hK1 <| w_seq fun _ hK2 => WS fun _ hK3 => rS (AG rfl) <| RK hK3 <| w_block ?_
 have hinit : (0 ≤ la.length) ∧ (∀ (j : Nat) y, j < 0 → la[j]? = some y → y ≠ n) := by exact ⟨Nat.zero_le _, fun j y hj => absurd hj (Nat.not_lt_zero _)⟩
 refine w_loop (ι := { z : Nat // (z ≤ la.length) ∧ (∀ (j : Nat) y, j < z → la[j]? = some y → y ≠ n) }) (fun z => [(0, (Value.slice laA la.length laC)), (1, (Value.int .i64 n)), (5, (Value.int .i64 ((z.1 : Nat) : Int)))]) (fun z => [(rd laA la.length 1 (la.map iC)).ro]) (fun z => la.length - z.1) ⟨0, hinit⟩ (Sub.cons rfl <| Sub.cons rfl <| Sub.cons rfl <| Sub.nil _) (fun w hs => St.sel [0] rfl rfl hs) ?_
 clear hinit
 rintro ⟨i, ⟨hl2_0, hl2_1⟩⟩ J4 hJ4
 try dsimp only
 refine w_seq fun _ hK5 => WS fun _ hK6 => rS (MV rfl) <| rS (MV rfl) <| rS (LN rfl ut33) <| rS (BI rfl b_lss) <| RK hK6 ?_
 refine w_if rfl (fun h7 => ?_) (fun h7 => ?_)
 rotate_left 1
 · replace h7 := DF h7
   refine w_exit <| k_exit_then <| k_exit_then <| k_exit_same <| KK hK2 <| WS fun _ hK12 => rS (AG rfl) <| RK hK12 <| w_ret <| Q1 hQ rfl rfl rfl ?_
   first | exact congrArg Value.bool (decide_eq_true (by rw [← hg17]; exact List.mem_of_getElem? hx)).symm | exact congrArg Value.bool (decide_eq_false fun q => up_mem (P := fun y => y ≠ n) (by omega) hl2_1 n q rfl).symm
 replace h7 := DT h7
 refine WK hK5 <| w_seq fun _ hK8 => w_block <| WS fun _ hK9 => rS (MV rfl) <| rS (MV rfl) ?_
 obtain ⟨x, hx⟩ : ∃ y_, la[i]? = some y_ := ⟨la[i]'(by omega), List.getElem?_eq_getElem _⟩
 have hxm : (la.map iC)[i]? = some (iC x) := by rw [List.getElem?_map, hx]; rfl
 refine rS (IA i rfl (has_at 0 rfl) te33 (by decide) (by omega) (by omega)) <| rS (LE1 i 0 (Value.int .i64 x) rfl tk3 (has_at 0 rfl) hxm rfl (by decide) rfl) <| rS (MV rfl) <| rS (BI rfl b_eql) <| RK hK9 ?_
 refine w_if rfl (fun hg17 => ?_) (fun hg17 => ?_)
 · replace hg17 := DT hg17
   refine WS fun _ hK10 => rS (AG rfl) <| RK hK10 <| w_ret <| Q1 hQ rfl rfl rfl ?_
   first | exact congrArg Value.bool (decide_eq_true (by rw [← hg17]; exact List.mem_of_getElem? hx)).symm | exact congrArg Value.bool (decide_eq_false fun q => up_mem (P := fun y => y ≠ n) (by omega) hl2_1 n q rfl).symm
 replace hg17 := DF hg17
 refine w_skip <| k_block <| KK hK8 <| w_region <| rS (MV rfl) <| rS (BI rfl (b_add ⟨by omega, by omega⟩)) <| rS (AG rfl) <| r_nil ?_
 have hb11 : (Value.int .i64 (((i + 1) : Nat) : Int)) = (Value.int .i64 (((i : Nat) : Int) + 1)) := by exact congrArg (Value.int .i64) (by omega)
 refine k_then (hJ4 ⟨(i + 1), ⟨by omega, up_succ (P := fun _ y => y ≠ n) hl2_1 hx hg17⟩⟩ _ _ _ rfl (by first | omega | (simp; omega)) (Sub.cons rfl <| Sub.cons rfl <| sub_val rfl hb11 <| Sub.nil _) (fun w hs => St.sel [0] rfl rfl hs))
end
section
open Go.RowKit
set_option linter.unusedVariables false
set_option maxRecDepth 100000 in
set_option maxHeartbeats 400000 in
theorem rmeets_c (d : GuardM) (kA : Option Addr) (kC : Nat) (pA : Option Addr) (pC : Nat) (nA : Option Addr) (nC : Nat) (k : Int) (C : Nat → Prop) (mA : Option Addr) (mC : Nat) (hin : GuardIn d) (hge : guardE d = 0) (hkn : 0 ≤ k ∧ k ≤ (d.Needs.length : Int) - 1) :
    FnX Tryz.prog 42 [(Value.agg (GuardV.cells (GuardV.mk (TrackV.mk (Slc.mk kA d.Track.length kC)) (Slc.mk pA d.Posts.length pC) (Slc.mk nA d.Needs.length nC) d.Tower d.Radio)).toArray), (Value.int .i64 k), (Value.slice mA ((boolsB d.Posts.length C).length) mC)] [(rd kA d.Track.length 9 (d.Track.map StretchV.cells)), (rd pA d.Posts.length 7 (d.Posts.map PostV.cells)), (rd nA d.Needs.length 3 (d.Needs.map NeedV.cells)), (rd mA ((boolsB d.Posts.length C).length) 1 ((boolsB d.Posts.length C).map boolC))] (fun (x : (Option Addr) × Nat) => (Value.slice x.1 ((boolsB d.Posts.length (MeetsC d k C)).length) x.2)) (fun (x : (Option Addr) × Nat) => True) (fun (x : (Option Addr) × Nat) => [(own x.1 x.2 4 1 ((boolsB d.Posts.length (MeetsC d k C)).map boolC))]) := by
 have hlen := hin.trk
 have hside := hin.side
 have hpl := hin.pst
 have hnl := hin.nds
 have hnk := hin.nk
 have hpk := hin.pk
 obtain ⟨htr, hok⟩ := guardE_zero hge
 refine fnX_of go42 Tryz.func42 rfl rfl fun w0 Q hQ hN => ?_
 try dsimp only
 refine WS fun _ hK1 => BXA rfl fun b2 => rS (AG rfl) <| RK hK1 <| WS fun _ hK3 => rS (FA 1 rfl fo32_1 rfl) <| rS (L1 (Value.slice pA d.Posts.length pC) 0 rfl tk25 rfl rfl) <| rS (LN rfl ut25) <| r_mks (n := d.Posts.length) (es := (List.map boolC (List.replicate d.Posts.length false))) rfl rfl rfl ta54 (by omega) (by omega) (by simp only [maxLen]; omega) (by rw [List.map_replicate]; rfl) rfl fun b4 => ?_
 try dsimp only
 refine rS (AG rfl) <| RK hK3 <| w_seq fun _ hK5 => ?_
 rw [show (own (some ⟨b4, 0, none⟩) d.Posts.length 4 1 (List.map boolC (List.replicate d.Posts.length false))) = (own (some ⟨b4, 0, none⟩) d.Posts.length 4 1 ((setB d.Posts.length 0 (MeetsC d k C)).map boolC)) from by rw [setB_zero]]
 refine w_region <| rS (FA 2 rfl fo32_2 rfl) <| rS (L1 (Value.slice nA d.Needs.length nC) 1 rfl tk26 rfl rfl) <| rS (MV rfl) ?_
 obtain ⟨n, hn⟩ : ∃ y_, d.Needs[(k).toNat]? = some y_ := ⟨d.Needs[(k).toNat]'(by omega), List.getElem?_eq_getElem _⟩
 have hnm : (d.Needs.map NeedV.cells)[(k).toNat]? = some (NeedV.cells n) := by rw [List.getElem?_map, hn]; rfl
 refine rS (IA ((k).toNat) rfl (has_at 4 rfl) te26 (by decide) (by omega) (by omega)) ?_
 have hno := hok.need n (List.mem_of_getElem? hn)
 unfold NeedOk at hno
 refine rS (LEN ((k).toNat) 0 (NeedV.cells n) rfl tk69 (has_at 4 rfl) hnm rfl (by decide) rfl rfl) <| AL rfl tz69 fun b6 => SW0 rfl ts69 rfl <| RK hK5 <| w_seq fun _ hK7 => WS fun _ hK8 => rS (AG rfl) <| RK hK8 <| w_block ?_
 have hinit : (0 ≤ d.Posts.length) := by exact Nat.zero_le _
 refine w_loop (ι := { z : Nat // (z ≤ d.Posts.length) }) (fun z => [(1, (Value.int .i64 k)), (2, (Value.slice mA ((boolsB d.Posts.length C).length) mC)), (3, (Value.pointer (some ⟨b2, 0, none⟩))), (7, (Value.slice (some ⟨b4, 0, none⟩) d.Posts.length d.Posts.length)), (8, (Value.pointer (some ⟨b6, 0, none⟩))), (9, (Value.int .i64 ((z.1 : Nat) : Int)))]) (fun z => [(blk b6 69 (NeedV.cells n)), (own (some ⟨b4, 0, none⟩) d.Posts.length 4 1 ((setB d.Posts.length z.1 (MeetsC d k C)).map boolC)), (blk b2 32 (GuardV.cells (GuardV.mk (TrackV.mk (Slc.mk kA d.Track.length kC)) (Slc.mk pA d.Posts.length pC) (Slc.mk nA d.Needs.length nC) d.Tower d.Radio))), (rd kA d.Track.length 9 (d.Track.map StretchV.cells)).ro, (rd pA d.Posts.length 7 (d.Posts.map PostV.cells)).ro, (rd nA d.Needs.length 3 (d.Needs.map NeedV.cells)).ro, (rd mA ((boolsB d.Posts.length C).length) 1 ((boolsB d.Posts.length C).map boolC)).ro]) (fun z => d.Posts.length - z.1) ⟨0, hinit⟩ (Sub.cons rfl <| Sub.cons rfl <| Sub.cons rfl <| Sub.cons rfl <| Sub.cons rfl <| Sub.cons rfl <| Sub.nil _) (fun w hs => St.sel [0, 1, 2, 3, 4, 5, 6] rfl rfl hs) ?_
 clear hinit
 rintro ⟨i, hl4_0⟩ J9 hJ9
 try dsimp only
 have hsl := setB_len (n := d.Posts.length) (i := i) (P := (MeetsC d k C))
 have hbl := boolsB_len (n := d.Posts.length) (P := C)
 refine w_seq fun _ hK10 => WS fun _ hK11 => rS (MV rfl) <| rS (MV rfl) <| rS (LN rfl ut54) <| rS (BI rfl b_lss) <| RK hK11 ?_
 refine w_if rfl (fun h12 => ?_) (fun h12 => ?_)
 rotate_left 1
 · replace h12 := DF h12
   refine w_exit <| k_exit_then <| k_exit_then <| k_exit_same <| KK hK7 <| WS fun _ hK26 => ?_
   rw [show setB d.Posts.length i (MeetsC d k C) = boolsB d.Posts.length (MeetsC d k C) from by rw [show i = d.Posts.length by omega]; rfl]
   refine rS (MV rfl) <| rS (AG rfl) <| RK hK26 <| w_ret ?_
   refine hQ _ _ _ (l_nil (vs := [(Value.slice (some ⟨b4, 0, none⟩) d.Posts.length d.Posts.length)]) ⟨rfl, trivial⟩ fun w hs => endX ((some ⟨b4, 0, none⟩), d.Posts.length) [1] ?_ ?_ rfl rfl rfl hs)
   · (rw [boolsB_len] <;> rfl)
   · trivial
 replace h12 := DT h12
 refine WK hK10 <| w_seq fun _ hK13 => w_block <| w_draw mixed 28 (by kernel_rfl) <| dS (MV rfl) <| dS (MV rfl) <| dS (MV rfl) <| dS (MV rfl) ?_
 obtain ⟨b, hb⟩ : ∃ y_, (boolsB d.Posts.length C)[i]? = some y_ := ⟨(boolsB d.Posts.length C)[i]'(by omega), List.getElem?_eq_getElem _⟩
 have hbm : ((boolsB d.Posts.length C).map boolC)[i]? = some (boolC b) := by rw [List.getElem?_map, hb]; rfl
 refine dS (IA i rfl (has_at 6 rfl) te54 (by decide) (by omega) (by omega)) <| dS (LE1 i 0 (Value.bool b) rfl tk4 (has_at 6 rfl) hbm rfl (by decide) rfl) <| dS (MV rfl) ?_
 refine d_bool (t := 31) rfl (fun hg31 => ?_) (fun hg31 => ?_)
 rotate_left 1
 · refine dS (OX rfl) ?_
   refine dS (OX rfl) <| dS (OX rfl) <| dS (OX rfl) <| dS (OX rfl) <| dS (OX rfl) <| dS (OX rfl) <| dS (OX rfl) <| dS (OX rfl) <| dS (PK rfl) <| dS (MV rfl) ?_
   refine dS (OX rfl) <| dS (OX rfl) <| dS (OX rfl) <| dS (OX rfl) <| dS (OX rfl) <| dS (OX rfl) <| dS (OX rfl) <| dS (OX rfl) <| dS (PK rfl) ?_
   obtain ⟨x22, hx23⟩ : ∃ y_, (setB d.Posts.length i (MeetsC d k C))[i]? = some y_ := ⟨(setB d.Posts.length i (MeetsC d k C))[i]'(by omega), List.getElem?_eq_getElem _⟩
   have hx23m : ((setB d.Posts.length i (MeetsC d k C)).map boolC)[i]? = some (boolC x22) := by rw [List.getElem?_map, hx23]; rfl
   refine dS (IA i rfl (has_own_n (n := d.Posts.length) 1 rfl (by first | (simp; done) | (simp; omega))) te54 (by decide) (by omega) (by omega)) <| d_end ?_
   have hb24 : ((setB d.Posts.length i (MeetsC d k C)).set i false) = (setB d.Posts.length (i + 1) (MeetsC d k C)) := by first | exact setB_set (by omega) (mc_off (fun q => Bool.false_ne_true (hg31.symm.trans ((boolsB_get hb).2 q)))) | exact setB_set (by omega) (mc_kind hn hp hg42) | exact setB_set (by omega) (mc_time hge hn hp ((boolsB_get hb).1 hg31) hg42)
   refine r_store_own (k := i) (o := 0) (vs := [(Value.bool false)]) (es' := (List.map boolC (setB d.Posts.length (i + 1) (MeetsC d k C)))) (C' := [_, (own (some ⟨b4, 0, none⟩) d.Posts.length 4 1 (List.map boolC (setB d.Posts.length (i + 1) (MeetsC d k C)))), _, _, _, _, _]) 1 rfl rfl rfl ts4 rfl rfl rfl rfl hx23m rfl (by decide) (by exact (List.map_set (f := boolC) (l := (setB d.Posts.length i (MeetsC d k C))) (i := i) (a := false)).symm.trans (congrArg _ hb24)) rfl <| r_nil <| k_block <| KK hK13 <| w_region <| rS (MV rfl) <| rS (BI rfl (b_add ⟨by omega, by omega⟩)) <| rS (AG rfl) <| r_nil ?_
   have hb25 : (Value.int .i64 (((i + 1) : Nat) : Int)) = (Value.int .i64 (((i : Nat) : Int) + 1)) := by exact congrArg (Value.int .i64) (by omega)
   refine k_then (hJ9 ⟨(i + 1), (by first | omega | (simp only []; omega))⟩ _ _ _ rfl (by first | omega | (simp; omega)) (Sub.cons rfl <| Sub.cons rfl <| Sub.cons rfl <| Sub.cons rfl <| Sub.cons rfl <| sub_val rfl hb25 <| Sub.nil _) (fun w hs => St.sel [0, 1, 2, 3, 4, 5, 6] rfl rfl hs))
 refine dS (FA 1 rfl fo32_1 rfl) <| dS (L1 (Value.slice pA d.Posts.length pC) 2 rfl tk25 rfl rfl) <| dS (MV rfl) ?_
 obtain ⟨p, hp⟩ : ∃ y_, d.Posts[i]? = some y_ := ⟨d.Posts[i]'(by omega), List.getElem?_eq_getElem _⟩
 have hpm : (d.Posts.map PostV.cells)[i]? = some (PostV.cells p) := by rw [List.getElem?_map, hp]; rfl
 refine dS (IA i rfl (has_at 4 rfl) te25 (by decide) (by omega) (by omega)) <| dS (FAR ((i * 7) + 1) rfl (has_at 4 rfl) (Nat.mul_pos (by omega) (by decide)) fo63_1 rfl) <| dS (LE1 i 1 (Value.int .u8 p.Kind) rfl tk5 (has_at 4 rfl) hpm rfl (by decide) rfl) <| dS (FA 1 rfl fo69_1 rfl) <| dS (L1 (Value.int .u8 n.Kind) 0 rfl tk5 rfl rfl) <| dS (BI rfl b_eql) <| dS (PK rfl) <| dS (MV rfl) ?_
 refine d_bool (t := 42) rfl (fun hg42 => ?_) (fun hg42 => ?_)
 rotate_left 1
 · replace hg42 := DF hg42
   refine dS (OX rfl) <| dS (OX rfl) <| dS (OX rfl) <| dS (OX rfl) <| dS (OX rfl) <| dS (OX rfl) <| dS (OX rfl) <| dS (OX rfl) <| dS (PK rfl) ?_
   obtain ⟨x18, hx19⟩ : ∃ y_, (setB d.Posts.length i (MeetsC d k C))[i]? = some y_ := ⟨(setB d.Posts.length i (MeetsC d k C))[i]'(by omega), List.getElem?_eq_getElem _⟩
   have hx19m : ((setB d.Posts.length i (MeetsC d k C)).map boolC)[i]? = some (boolC x18) := by rw [List.getElem?_map, hx19]; rfl
   refine dS (IA i rfl (has_own_n (n := d.Posts.length) 1 rfl (by first | (simp; done) | (simp; omega))) te54 (by decide) (by omega) (by omega)) <| d_end ?_
   have hb20 : ((setB d.Posts.length i (MeetsC d k C)).set i false) = (setB d.Posts.length (i + 1) (MeetsC d k C)) := by first | exact setB_set (by omega) (mc_off (fun q => Bool.false_ne_true (hg31.symm.trans ((boolsB_get hb).2 q)))) | exact setB_set (by omega) (mc_kind hn hp hg42) | exact setB_set (by omega) (mc_time hge hn hp ((boolsB_get hb).1 hg31) hg42)
   refine r_store_own (k := i) (o := 0) (vs := [(Value.bool false)]) (es' := (List.map boolC (setB d.Posts.length (i + 1) (MeetsC d k C)))) (C' := [_, (own (some ⟨b4, 0, none⟩) d.Posts.length 4 1 (List.map boolC (setB d.Posts.length (i + 1) (MeetsC d k C)))), _, _, _, _, _]) 1 rfl rfl rfl ts4 rfl rfl rfl rfl hx19m rfl (by decide) (by exact (List.map_set (f := boolC) (l := (setB d.Posts.length i (MeetsC d k C))) (i := i) (a := false)).symm.trans (congrArg _ hb20)) rfl <| r_nil <| k_block <| KK hK13 <| w_region <| rS (MV rfl) <| rS (BI rfl (b_add ⟨by omega, by omega⟩)) <| rS (AG rfl) <| r_nil ?_
   have hb21 : (Value.int .i64 (((i + 1) : Nat) : Int)) = (Value.int .i64 (((i : Nat) : Int) + 1)) := by exact congrArg (Value.int .i64) (by omega)
   refine k_then (hJ9 ⟨(i + 1), (by first | omega | (simp only []; omega))⟩ _ _ _ rfl (by first | omega | (simp; omega)) (Sub.cons rfl <| Sub.cons rfl <| Sub.cons rfl <| Sub.cons rfl <| Sub.cons rfl <| sub_val rfl hb21 <| Sub.nil _) (fun w hs => St.sel [0, 1, 2, 3, 4, 5, 6] rfl rfl hs))
 replace hg42 := DT hg42
 refine dS (LW 2 rfl tk32 rfl rfl) <| dS (MV rfl) <| dS (FA 0 rfl fo69_0 rfl) <| dS (L1 (Value.int .i64 n.Stretch) 0 rfl tk3 rfl rfl) <| dS (CL (rtime_c d kA kC pA pC nA nC ((i : Nat) : Int) n.Stretch (by exact hin) hge (by first | assumption | omega | (simp; done) | (simp; omega))) (ha3 3 4 5 rfl rfl rfl rfl rfl rfl) rfl) <| dS (FA 2 rfl fo69_2 rfl) <| dS (L1 (Value.int .i64 n.Seconds) 0 rfl tk3 rfl rfl) <| dS (BI rfl b_leq) <| dS (PK rfl) ?_
 obtain ⟨x14, hx15⟩ : ∃ y_, (setB d.Posts.length i (MeetsC d k C))[i]? = some y_ := ⟨(setB d.Posts.length i (MeetsC d k C))[i]'(by omega), List.getElem?_eq_getElem _⟩
 have hx15m : ((setB d.Posts.length i (MeetsC d k C)).map boolC)[i]? = some (boolC x14) := by rw [List.getElem?_map, hx15]; rfl
 refine dS (IA i rfl (has_own_n (n := d.Posts.length) 1 rfl (by first | (simp; done) | (simp; omega))) te54 (by decide) (by omega) (by omega)) <| d_end ?_
 have hb16 : ((setB d.Posts.length i (MeetsC d k C)).set i (decide ((timeV d ((i : Nat) : Int) n.Stretch) ≤ n.Seconds))) = (setB d.Posts.length (i + 1) (MeetsC d k C)) := by first | exact setB_set (by omega) (mc_off (fun q => Bool.false_ne_true (hg31.symm.trans ((boolsB_get hb).2 q)))) | exact setB_set (by omega) (mc_kind hn hp hg42) | exact setB_set (by omega) (mc_time hge hn hp ((boolsB_get hb).1 hg31) hg42)
 refine r_store_own (k := i) (o := 0) (vs := [(Value.bool (decide ((timeV d ((i : Nat) : Int) n.Stretch) ≤ n.Seconds)))]) (es' := (List.map boolC (setB d.Posts.length (i + 1) (MeetsC d k C)))) (C' := [_, (own (some ⟨b4, 0, none⟩) d.Posts.length 4 1 (List.map boolC (setB d.Posts.length (i + 1) (MeetsC d k C)))), _, _, _, _, _]) 1 rfl rfl rfl ts4 rfl rfl rfl rfl hx15m rfl (by decide) (by exact (List.map_set (f := boolC) (l := (setB d.Posts.length i (MeetsC d k C))) (i := i) (a := (decide ((timeV d ((i : Nat) : Int) n.Stretch) ≤ n.Seconds)))).symm.trans (congrArg _ hb16)) rfl <| r_nil <| k_block <| KK hK13 <| w_region <| rS (MV rfl) <| rS (BI rfl (b_add ⟨by omega, by omega⟩)) <| rS (AG rfl) <| r_nil ?_
 have hb17 : (Value.int .i64 (((i + 1) : Nat) : Int)) = (Value.int .i64 (((i : Nat) : Int) + 1)) := by exact congrArg (Value.int .i64) (by omega)
 refine k_then (hJ9 ⟨(i + 1), (by first | omega | (simp only []; omega))⟩ _ _ _ rfl (by first | omega | (simp; omega)) (Sub.cons rfl <| Sub.cons rfl <| Sub.cons rfl <| Sub.cons rfl <| Sub.cons rfl <| sub_val rfl hb17 <| Sub.nil _) (fun w hs => St.sel [0, 1, 2, 3, 4, 5, 6] rfl rfl hs))
set_option maxRecDepth 100000 in
set_option maxHeartbeats 400000 in
theorem rsame_c (d : GuardM) (kA : Option Addr) (kC : Nat) (pA : Option Addr) (pC : Nat) (nA : Option Addr) (nC : Nat) (k2A : Option Addr) (k2C : Nat) (p2A : Option Addr) (p2C : Nat) (n2A : Option Addr) (n2C : Nat) (hin : GuardIn d) :
    FnV Tryz.prog 15 [(Value.agg (GuardV.cells (GuardV.mk (TrackV.mk (Slc.mk kA d.Track.length kC)) (Slc.mk pA d.Posts.length pC) (Slc.mk nA d.Needs.length nC) d.Tower d.Radio)).toArray), (Value.agg (GuardV.cells (GuardV.mk (TrackV.mk (Slc.mk k2A d.Track.length k2C)) (Slc.mk p2A d.Posts.length p2C) (Slc.mk n2A d.Needs.length n2C) d.Tower d.Radio)).toArray)] [(rd kA d.Track.length 9 (d.Track.map StretchV.cells)), (rd pA d.Posts.length 7 (d.Posts.map PostV.cells)), (rd nA d.Needs.length 3 (d.Needs.map NeedV.cells)), (rd k2A d.Track.length 9 (d.Track.map StretchV.cells)), (rd p2A d.Posts.length 7 (d.Posts.map PostV.cells)), (rd n2A d.Needs.length 3 (d.Needs.map NeedV.cells))] (Value.bool true) := by
 have hlen := hin.trk
 have hside := hin.side
 have hpl := hin.pst
 have hnl := hin.nds
 have hnk := hin.nk
 have hpk := hin.pk
 refine fnV_of go15 Tryz.func15 rfl rfl fun w0 Q hQ hN => ?_
 try dsimp only
 refine WS fun _ hK1 => BXA rfl fun b2 => BXA rfl fun b3 => rS (AG rfl) <| RK hK1 <| w_seq fun _ hK4 => WS fun _ hK5 => rS (FA 0 rfl fo32_0 rfl) <| rS (LP (TrackV.cells (TrackV.mk (Slc.mk kA d.Track.length kC))) 1 rfl tk24 rfl rfl rfl) <| rS (FA 0 rfl fo32_0 rfl) ?_
 refine rS (LP (TrackV.cells (TrackV.mk (Slc.mk k2A d.Track.length k2C))) 0 rfl tk24 rfl rfl rfl) <| rS (CL (same_c d.Track kA kC d.Track k2A k2C (by first | assumption | omega | (simp; done) | (simp; omega)) (by first | assumption | omega | (simp; done) | (simp; omega))) (ha_at 2 rfl rfl <| ha_at 5 rfl rfl <| ha_nil) rfl) <| rS (NT rfl) <| rS (MV rfl) ?_
 refine r_bool (t := 13) rfl (fun hg13 => ?_) (fun hg13 => ?_)
 · replace hg13 := XT hg13
   exact absurd rfl hg13
 replace hg13 := XF hg13
 refine rS (FA 3 rfl fo32_3 rfl) <| rS (LP (SpotV.cells d.Tower) 1 rfl tk30 rfl rfl rfl) <| rS (FA 3 rfl fo32_3 rfl) <| rS (LP (SpotV.cells d.Tower) 0 rfl tk30 rfl rfl rfl) <| rS (BI rfl (nes30 _ _ d.Tower d.Tower)) <| rS (PK rfl) <| rS (MV rfl) ?_
 refine r_bool (t := 20) rfl (fun hg20 => ?_) (fun hg20 => ?_)
 · replace hg20 := XT hg20
   exact absurd rfl hg20
 replace hg20 := XF hg20
 refine rS (FA 6 rfl fo32_4 rfl) <| rS (L1 (Value.int .i64 d.Radio) 1 rfl tk3 rfl rfl) <| rS (FA 6 rfl fo32_4 rfl) <| rS (L1 (Value.int .i64 d.Radio) 0 rfl tk3 rfl rfl) <| rS (BI rfl b_neq) <| rS (PK rfl) <| rS (MV rfl) ?_
 refine r_bool (t := 27) rfl (fun hg27 => ?_) (fun hg27 => ?_)
 · replace hg27 := XT hg27
   exact absurd rfl hg27
 replace hg27 := XF hg27
 refine rS (FA 1 rfl fo32_1 rfl) <| rS (L1 (Value.slice pA d.Posts.length pC) 1 rfl tk25 rfl rfl) <| rS (LN rfl ut25) <| rS (FA 1 rfl fo32_1 rfl) <| rS (L1 (Value.slice p2A d.Posts.length p2C) 0 rfl tk25 rfl rfl) <| rS (LN rfl ut25) <| rS (BI rfl b_neq) <| rS (PK rfl) <| rS (MV rfl) ?_
 refine r_bool (t := 36) rfl (fun hg36 => ?_) (fun hg36 => ?_)
 · replace hg36 := XT hg36
   exact absurd rfl hg36
 replace hg36 := XF hg36
 refine rS (FA 2 rfl fo32_2 rfl) <| rS (L1 (Value.slice nA d.Needs.length nC) 1 rfl tk26 rfl rfl) <| rS (LN rfl ut26) <| rS (FA 2 rfl fo32_2 rfl) <| rS (L1 (Value.slice n2A d.Needs.length n2C) 0 rfl tk26 rfl rfl) <| rS (LN rfl ut26) <| rS (BI rfl b_neq) <| rS (PK rfl) <| RK hK5 ?_
 refine w_if rfl (fun hg44 => ?_) (fun hg44 => ?_)
 · replace hg44 := XT hg44
   exact absurd rfl hg44
 replace hg44 := XF hg44
 refine WK hK4 <| w_seq fun _ hK6 => WS fun _ hK7 => rS (AG rfl) <| RK hK7 <| w_block ?_
 have hinit : (0 ≤ d.Posts.length) := by exact Nat.zero_le _
 refine w_loop (ι := { z : Nat // (z ≤ d.Posts.length) }) (fun z => [(2, (Value.pointer (some ⟨b2, 0, none⟩))), (3, (Value.pointer (some ⟨b3, 0, none⟩))), (5, (Value.int .i64 ((z.1 : Nat) : Int)))]) (fun z => [(blk b3 32 (GuardV.cells (GuardV.mk (TrackV.mk (Slc.mk k2A d.Track.length k2C)) (Slc.mk p2A d.Posts.length p2C) (Slc.mk n2A d.Needs.length n2C) d.Tower d.Radio))), (blk b2 32 (GuardV.cells (GuardV.mk (TrackV.mk (Slc.mk kA d.Track.length kC)) (Slc.mk pA d.Posts.length pC) (Slc.mk nA d.Needs.length nC) d.Tower d.Radio))), (rd kA d.Track.length 9 (d.Track.map StretchV.cells)).ro, (rd pA d.Posts.length 7 (d.Posts.map PostV.cells)).ro, (rd nA d.Needs.length 3 (d.Needs.map NeedV.cells)).ro, (rd k2A d.Track.length 9 (d.Track.map StretchV.cells)).ro, (rd p2A d.Posts.length 7 (d.Posts.map PostV.cells)).ro, (rd n2A d.Needs.length 3 (d.Needs.map NeedV.cells)).ro]) (fun z => d.Posts.length - z.1) ⟨0, hinit⟩ (Sub.cons rfl <| Sub.cons rfl <| Sub.cons rfl <| Sub.nil _) (fun w hs => St.sel [0, 1, 2, 3, 4, 5, 6, 7] rfl rfl hs) ?_
 clear hinit
 rintro ⟨i, hl4_0⟩ J8 hJ8
 try dsimp only
 refine w_seq fun _ hK9 => WS fun _ hK10 => rS (MV rfl) <| rS (FA 1 rfl fo32_1 rfl) <| rS (L1 (Value.slice pA d.Posts.length pC) 1 rfl tk25 rfl rfl) <| rS (LN rfl ut25) <| rS (BI rfl b_lss) <| RK hK10 ?_
 refine w_if rfl (fun h11 => ?_) (fun h11 => ?_)
 · replace h11 := DT h11
   refine WK hK9 <| w_seq fun _ hK12 => w_block <| w_seq fun _ hK13 => w_draw mixed 11 (by kernel_rfl) <| dS (FA 1 rfl fo32_1 rfl) <| dS (L1 (Value.slice pA d.Posts.length pC) 1 rfl tk25 rfl rfl) <| dS (MV rfl) ?_
   obtain ⟨p, hp⟩ : ∃ y_, d.Posts[i]? = some y_ := ⟨d.Posts[i]'(by omega), List.getElem?_eq_getElem _⟩
   have hpm : (d.Posts.map PostV.cells)[i]? = some (PostV.cells p) := by rw [List.getElem?_map, hp]; rfl
   refine dS (IA i rfl (has_at 3 rfl) te25 (by decide) (by omega) (by omega)) <| dS (LEN i 0 (PostV.cells p) rfl tk63 (has_at 3 rfl) hpm rfl (by decide) rfl rfl) <| dS (FA 1 rfl fo32_1 rfl) <| dS (L1 (Value.slice p2A d.Posts.length p2C) 0 rfl tk25 rfl rfl) <| dS (MV rfl) ?_
   obtain ⟨q, hq⟩ : ∃ y_, d.Posts[i]? = some y_ := ⟨d.Posts[i]'(by omega), List.getElem?_eq_getElem _⟩
   have hqm : (d.Posts.map PostV.cells)[i]? = some (PostV.cells q) := by rw [List.getElem?_map, hq]; rfl
   refine dS (IA i rfl (has_at 6 rfl) te25 (by decide) (by omega) (by omega)) <| dS (LEN i 0 (PostV.cells q) rfl tk63 (has_at 6 rfl) hqm rfl (by decide) rfl rfl) <| dS (BI rfl (nes63 _ _ p q)) <| d_end <| RK hK13 ?_
   refine w_if rfl (fun hg62 => ?_) (fun hg62 => ?_)
   · replace hg62 := XT hg62
     exact absurd (Option.some.inj (hp.symm.trans hq)) hg62
   replace hg62 := XF hg62
   refine w_skip <| k_block <| KK hK12 <| w_region <| rS (MV rfl) <| rS (BI rfl (b_add ⟨by omega, by omega⟩)) <| rS (AG rfl) <| r_nil ?_
   have hb14 : (Value.int .i64 (((i + 1) : Nat) : Int)) = (Value.int .i64 (((i : Nat) : Int) + 1)) := by exact congrArg (Value.int .i64) (by omega)
   refine k_then (hJ8 ⟨(i + 1), (by first | omega | (simp only []; omega))⟩ _ _ _ rfl (by first | omega | (simp; omega)) (Sub.cons rfl <| Sub.cons rfl <| sub_val rfl hb14 <| Sub.nil _) (fun w hs => St.sel [0, 1, 2, 3, 4, 5, 6, 7] rfl rfl hs))
 replace h11 := DF h11
 refine w_exit <| k_exit_then <| k_exit_then <| k_exit_same <| KK hK6 <| w_seq fun _ hK15 => WS fun _ hK16 => rS (AG rfl) <| RK hK16 <| w_block ?_
 have hinit : (0 ≤ d.Needs.length) := by exact Nat.zero_le _
 refine w_loop (ι := { z : Nat // (z ≤ d.Needs.length) }) (fun z => [(2, (Value.pointer (some ⟨b2, 0, none⟩))), (3, (Value.pointer (some ⟨b3, 0, none⟩))), (6, (Value.int .i64 ((z.1 : Nat) : Int)))]) (fun z => [(blk b3 32 (GuardV.cells (GuardV.mk (TrackV.mk (Slc.mk k2A d.Track.length k2C)) (Slc.mk p2A d.Posts.length p2C) (Slc.mk n2A d.Needs.length n2C) d.Tower d.Radio))), (blk b2 32 (GuardV.cells (GuardV.mk (TrackV.mk (Slc.mk kA d.Track.length kC)) (Slc.mk pA d.Posts.length pC) (Slc.mk nA d.Needs.length nC) d.Tower d.Radio))), (rd kA d.Track.length 9 (d.Track.map StretchV.cells)).ro, (rd pA d.Posts.length 7 (d.Posts.map PostV.cells)).ro, (rd nA d.Needs.length 3 (d.Needs.map NeedV.cells)).ro, (rd k2A d.Track.length 9 (d.Track.map StretchV.cells)).ro, (rd p2A d.Posts.length 7 (d.Posts.map PostV.cells)).ro, (rd n2A d.Needs.length 3 (d.Needs.map NeedV.cells)).ro]) (fun z => d.Needs.length - z.1) ⟨0, hinit⟩ (Sub.cons rfl <| Sub.cons rfl <| Sub.cons rfl <| Sub.nil _) (fun w hs => St.sel [0, 1, 2, 3, 4, 5, 6, 7] rfl rfl hs) ?_
 clear hinit
 rintro ⟨j, hl9_0⟩ J17 hJ17
 try dsimp only
 refine w_seq fun _ hK18 => WS fun _ hK19 => rS (MV rfl) <| rS (FA 2 rfl fo32_2 rfl) <| rS (L1 (Value.slice nA d.Needs.length nC) 1 rfl tk26 rfl rfl) <| rS (LN rfl ut26) <| rS (BI rfl b_lss) <| RK hK19 ?_
 refine w_if rfl (fun h20 => ?_) (fun h20 => ?_)
 rotate_left 1
 · replace h20 := DF h20
   refine w_exit <| k_exit_then <| k_exit_then <| k_exit_same <| KK hK15 <| WS fun _ hK24 => rS (AG rfl) <| RK hK24 <| w_ret ?_
   exact Q1 hQ rfl rfl rfl rfl
 replace h20 := DT h20
 refine WK hK18 <| w_seq fun _ hK21 => w_block <| w_seq fun _ hK22 => w_draw mixed 11 (by kernel_rfl) <| dS (FA 2 rfl fo32_2 rfl) <| dS (L1 (Value.slice nA d.Needs.length nC) 1 rfl tk26 rfl rfl) <| dS (MV rfl) ?_
 obtain ⟨n, hn⟩ : ∃ y_, d.Needs[j]? = some y_ := ⟨d.Needs[j]'(by omega), List.getElem?_eq_getElem _⟩
 have hnm : (d.Needs.map NeedV.cells)[j]? = some (NeedV.cells n) := by rw [List.getElem?_map, hn]; rfl
 refine dS (IA j rfl (has_at 4 rfl) te26 (by decide) (by omega) (by omega)) <| dS (LEN j 0 (NeedV.cells n) rfl tk69 (has_at 4 rfl) hnm rfl (by decide) rfl rfl) <| dS (FA 2 rfl fo32_2 rfl) <| dS (L1 (Value.slice n2A d.Needs.length n2C) 0 rfl tk26 rfl rfl) <| dS (MV rfl) ?_
 obtain ⟨m, hm⟩ : ∃ y_, d.Needs[j]? = some y_ := ⟨d.Needs[j]'(by omega), List.getElem?_eq_getElem _⟩
 have hmm : (d.Needs.map NeedV.cells)[j]? = some (NeedV.cells m) := by rw [List.getElem?_map, hm]; rfl
 refine dS (IA j rfl (has_at 7 rfl) te26 (by decide) (by omega) (by omega)) <| dS (LEN j 0 (NeedV.cells m) rfl tk69 (has_at 7 rfl) hmm rfl (by decide) rfl rfl) <| dS (BI rfl (nes69 _ _ n m)) <| d_end <| RK hK22 ?_
 refine w_if rfl (fun hg80 => ?_) (fun hg80 => ?_)
 · replace hg80 := XT hg80
   exact absurd (Option.some.inj (hn.symm.trans hm)) hg80
 replace hg80 := XF hg80
 refine w_skip <| k_block <| KK hK21 <| w_region <| rS (MV rfl) <| rS (BI rfl (b_add ⟨by omega, by omega⟩)) <| rS (AG rfl) <| r_nil ?_
 have hb23 : (Value.int .i64 (((j + 1) : Nat) : Int)) = (Value.int .i64 (((j : Nat) : Int) + 1)) := by exact congrArg (Value.int .i64) (by omega)
 refine k_then (hJ17 ⟨(j + 1), (by first | omega | (simp only []; omega))⟩ _ _ _ rfl (by first | omega | (simp; omega)) (Sub.cons rfl <| Sub.cons rfl <| sub_val rfl hb23 <| Sub.nil _) (fun w hs => St.sel [0, 1, 2, 3, 4, 5, 6, 7] rfl rfl hs))
end
section
set_option linter.unusedVariables false
theorem cmpF_anti (x y : Int) : cmpF x y = - cmpF y x := by unfold cmpF; split <;> split <;> omega
theorem cmpL_anti : ∀ a b : List Int, cmpL a b = - cmpL b a
  | [], [] => rfl
  | [], _ :: _ => rfl
  | _ :: _, [] => rfl
  | x :: a, y :: b => by
    rw [cmpL, cmpL, cmpF_anti x y, cmpL_anti a b]
    split <;> split <;> omega
theorem cmpF_pos {x y : Int} : 0 < cmpF x y ↔ y < x := by
  unfold cmpF
  by_cases h : x < y
  · rw [if_pos h]; omega
  · rw [if_neg h]
    by_cases h2 : y < x
    · rw [if_pos h2]; omega
    · rw [if_neg h2]; omega
theorem cmpF_null {x y : Int} : cmpF x y = 0 ↔ x = y := by
  unfold cmpF
  by_cases h : x < y
  · rw [if_pos h]; omega
  · rw [if_neg h]
    by_cases h2 : y < x
    · rw [if_pos h2]; omega
    · rw [if_neg h2]; omega
theorem cmpL_split : ∀ x y z : List Int, x.length = y.length → y.length = z.length → 0 < cmpL x z → 0 < cmpL x y ∨ 0 < cmpL y z
  | [], [], [], _, _, h => by simp [cmpL] at h
  | a :: x, b :: y, c :: z, h1, h2, h => by
    simp only [List.length_cons, Nat.add_right_cancel_iff] at h1 h2
    rw [cmpL] at h
    have ih := cmpL_split x y z h1 h2
    by_cases e : a = c
    · subst e
      rw [if_pos (cmpF_null.2 rfl)] at h
      by_cases e2 : a = b
      · subst e2
        rw [cmpL, if_pos (cmpF_null.2 rfl), cmpL, if_pos (cmpF_null.2 rfl)]
        exact ih h
      · rw [cmpL, if_neg (fun q => e2 (cmpF_null.1 q)), cmpL, if_neg (fun q => e2 (cmpF_null.1 q).symm), cmpF_pos, cmpF_pos]
        omega
    · rw [if_neg (fun q => e (cmpF_null.1 q)), cmpF_pos] at h
      by_cases e2 : a = b
      · subst e2
        right
        rw [cmpL, if_neg (fun q => e (cmpF_null.1 q)), cmpF_pos]; exact h
      · by_cases e3 : b = c
        · subst e3
          left
          rw [cmpL, if_neg (fun q => e2 (cmpF_null.1 q)), cmpF_pos]; exact h
        · rw [cmpL, if_neg (fun q => e2 (cmpF_null.1 q)), cmpL, if_neg (fun q => e3 (cmpF_null.1 q)), cmpF_pos, cmpF_pos]
          omega
theorem worse_split {x y z : List Int} (h : Worse x z) : Worse x y ∨ Worse y z := by
  unfold Worse at h ⊢
  rcases Nat.lt_trichotomy x.length y.length with c | c | c
  · right; left; omega
  · rcases Nat.lt_trichotomy y.length z.length with c2 | c2 | c2
    · omega
    · have h3 : 0 < cmpL x z := by omega
      rcases cmpL_split x y z c c2 h3 with q | q
      · exact .inl (.inr ⟨c, q⟩)
      · exact .inr (.inr ⟨c2, q⟩)
    · right; left; omega
  · left; left; omega
theorem worse_asym {x y : List Int} (h : Worse x y) : ¬ Worse y x := by
  unfold Worse at h ⊢
  have := cmpL_anti x y
  omega
def BeforeP (a b : List Int) : Prop := a.length < b.length ∨ a.length = b.length ∧ cmpL a b < 0
instance (a b : List Int) : Decidable (BeforeP a b) := by unfold BeforeP; infer_instance
theorem before_worse {a b : List Int} : BeforeP a b ↔ Worse b a := by
  unfold BeforeP Worse
  have := cmpL_anti a b
  omega
/-- what is best is so, and nothing that is so is better -/
theorem best_spec {n : Nat} {p : Nat → Bool} : ∀ z : Nat, (bestTo n p z = none → ∀ y, y < z → p y = false) ∧ ∀ fl, bestTo n p z = some fl → (∃ y, y < z ∧ p y = true ∧ fl = idxL n (bitS y)) ∧ ∀ y, y < z → p y = true → ¬ Worse fl (idxL n (bitS y))
  | 0 => ⟨fun _ y hy => absurd hy (Nat.not_lt_zero _), fun fl h => by cases h⟩
  | z + 1 => by
    obtain ⟨h1, h2⟩ := best_spec (n := n) (p := p) z
    rw [bestTo]
    cases hb : bestTo n p z with
    | none =>
      have h1 := h1 hb
      simp only
      by_cases hp : p z = true
      · rw [if_pos hp]
        refine ⟨fun q => (by cases q), fun fl hfl => ?_⟩
        cases hfl
        refine ⟨⟨z, by omega, hp, rfl⟩, fun y hy hpy => ?_⟩
        rcases Nat.lt_or_ge y z with c | c
        · rw [h1 y c] at hpy; cases hpy
        · obtain rfl : y = z := by omega
          exact fun q => worse_asym q q
      · rw [if_neg hp]
        refine ⟨fun _ y hy => ?_, fun fl hfl => by cases hfl⟩
        rcases Nat.lt_or_ge y z with c | c
        · exact h1 y c
        · obtain rfl : y = z := by omega
          simpa using hp
    | some b =>
      obtain ⟨⟨y0, hy0, hp0, rfl⟩, h3⟩ := h2 b hb
      simp only
      by_cases hc : ¬ Worse (idxL n (bitS z)) (idxL n (bitS y0)) ∧ p z = true
      · rw [if_pos hc]
        refine ⟨fun q => (by cases q), fun fl hfl => ?_⟩
        cases hfl
        refine ⟨⟨z, by omega, hc.2, rfl⟩, fun y hy hpy q => ?_⟩
        rcases Nat.lt_or_ge y z with c | c
        · rcases worse_split (y := idxL n (bitS y0)) q with r | r
          · exact hc.1 r
          · exact h3 y c hpy r
        · obtain rfl : y = z := by omega
          exact worse_asym q q
      · rw [if_neg hc]
        refine ⟨fun q => (by cases q), fun fl hfl => ?_⟩
        cases hfl
        refine ⟨⟨y0, by omega, hp0, rfl⟩, fun y hy hpy q => ?_⟩
        rcases Nat.lt_or_ge y z with c | c
        · exact h3 y c hpy q
        · obtain rfl : y = z := by omega
          exact hc ⟨worse_asym q, hpy⟩
theorem before_len {a b : List Int} (h : ¬ a.length = b.length) : BeforeP a b ↔ a.length < b.length := by unfold BeforeP; omega
theorem before_cmp {a b : List Int} (h : a.length = b.length) : BeforeP a b ↔ cmpL a b < 0 := by unfold BeforeP; omega
section
variable {a b : List Int} {i : Nat} {x y : Int}
theorem cmpF_neg : cmpF x y < 0 ↔ x < y := by
  have := cmpF_anti x y
  have h := cmpF_pos (x := y) (y := x)
  omega
theorem before_step (h : cmpL a b = cmpL (a.drop i) (b.drop i)) (hx : a[i]? = some x) (hy : b[i]? = some y) (e : x = y) : cmpL a b = cmpL (a.drop (i + 1)) (b.drop (i + 1)) := h.trans (cmp_step hx hy (cmpF_null.2 e))
theorem before_at (hl : a.length = b.length) (h : cmpL a b = cmpL (a.drop i) (b.drop i)) (hx : a[i]? = some x) (hy : b[i]? = some y) (e : ¬ x = y) : x < y ↔ BeforeP a b := by
  rw [before_cmp hl, h, cmp_at hx hy (fun q => e (cmpF_null.1 q)), cmpF_neg]
theorem before_end (hl : a.length = b.length) (h : cmpL a b = cmpL (a.drop i) (b.drop i)) (hi : a.length ≤ i) : ¬ BeforeP a b := by
  rw [before_cmp hl, h, cmp_same hi (by omega)]; omega
end
end
section
set_option linter.unusedVariables false
theorem bools_off {n i : Nat} {P : Nat → Prop} (hi : i < n) : (boolsB n P).set i false = boolsB n (less1 P i) := by
  apply List.ext_getElem
  · simp
  · intro j h1 h2
    simp only [List.length_set, boolsB_len] at h1
    rw [List.getElem_set]
    by_cases e : i = j
    · subst e
      rw [if_pos rfl, boolsB_at]
      exact (@decide_eq_false _ (Classical.propDecidable _) (fun q => q.2.2 rfl)).symm
    · rw [if_neg e, boolsB_at, boolsB_at]
      exact decide_eq_decide.2 ⟨fun q => ⟨q.1, q.2, fun r => e r.symm⟩, fun q => ⟨q.1, q.2.1⟩⟩
section
variable {d : GuardM} {M : Nat → Prop} {i j : Nat}
theorem lackC (hj : j < d.Needs.length) : ((idxL d.Posts.length (MeetsC d (j : Int) (CallsP d M))).length : Int) = 0 ↔ LackP d M j := by
  have hn : d.Needs[j]? = some (d.Needs[j]'hj) := List.getElem?_eq_getElem _
  have e : idxL d.Posts.length (MeetsC d (j : Int) (CallsP d M)) = meetsL d (d.Needs[j]'hj) M := idxL_congr fun i _ => by
    unfold MeetsC
    rw [Int.toNat_natCast]
    constructor
    · rintro ⟨h1, m, h2, h3⟩
      rw [hn] at h2; cases h2
      exact ⟨h1, h3⟩
    · rintro ⟨h1, h3⟩; exact ⟨h1, _, hn, h3⟩
  rw [e]
  constructor
  · intro q; exact ⟨_, hn, List.eq_nil_of_length_eq_zero (by omega)⟩
  · rintro ⟨m, h2, h3⟩
    rw [hn] at h2; cases h2
    rw [h3]; rfl
def WeakM (d : GuardM) (M : Nat → Prop) (i : Nat) : Prop := M i ∧ lacksL d (less1 M i) ≠ []
noncomputable def weakW (d : GuardM) (M : Nat → Prop) : List Int := if lacksL d M = [] then idxL d.Posts.length (WeakM d M) else []
theorem weakW_yes (h : lacksL d M = []) : weakW d M = idxL d.Posts.length (WeakM d M) := if_pos h
theorem weakW_no (h : ¬ lacksL d M = []) : weakW d M = [] := if_neg h
theorem strongW : StrongP d M ↔ lacksL d M = [] ∧ ((weakW d M).length : Int) = 0 := by
  unfold StrongP weakL
  constructor
  · rintro ⟨h1, h2⟩
    refine ⟨h1, ?_⟩
    rw [weakW_yes h1]
    show ((idxL d.Posts.length fun i => M i ∧ lacksL d (less1 M i) ≠ []).length : Int) = 0
    rw [h2]; rfl
  · rintro ⟨h1, h2⟩
    rw [weakW_yes h1] at h2
    exact ⟨h1, List.eq_nil_of_length_eq_zero (l := idxL d.Posts.length fun i => M i ∧ lacksL d (less1 M i) ≠ []) (by omega : (idxL d.Posts.length (WeakM d M)).length = 0)⟩
theorem strong_not1 : StrongP d (notIn [(j : Int)]) ↔ StrongP d (less1 allS j) := strong_congr fun _ _ => notIn_one
theorem weak_all0 (hg : guardE d = 0) (h : lacksL d (notIn []) = []) : weakE d = 0 ∧ weakW d (notIn []) = weakV d := by
  have e : lacksL d (notIn []) = lacksL d allS := lacks_congr fun _ _ => notIn_nil
  have h2 := weak_in hg (e.symm.trans h)
  refine ⟨h2.1, ?_⟩
  rw [h2.2, weakW_yes h]
  exact weak_congr (S := notIn []) (T := allS) fun _ _ => notIn_nil
theorem weak_all6 (hg : guardE d = 0) (h : ¬ lacksL d (notIn []) = []) : weakE d = 6 ∧ weakV d = [] := weak_none hg fun q => h ((lacks_congr fun _ _ => notIn_nil).trans q)
theorem cmpL_null : ∀ {a b : List Int}, a.length = b.length → cmpL a b = 0 → a = b
  | [], [], _, _ => rfl
  | x :: a, y :: b, hl, h => by
    simp only [List.length_cons] at hl
    rw [cmpL] at h
    split at h
    · rename_i q
      rw [cmpF_null.1 q, cmpL_null (by omega) h]
    · rename_i q
      exact absurd h q
theorem worse_total {a b : List Int} (h : ¬ Worse a b) (hn : a ≠ b) : Worse b a := by
  unfold Worse at *
  have h1 := cmpL_anti a b
  rcases Nat.lt_trichotomy a.length b.length with c | c | c
  · exact .inl c
  · refine .inr ⟨c.symm, ?_⟩
    have h3 : ¬ cmpL a b = 0 := fun q => hn (cmpL_null c q)
    omega
  · exact absurd (.inl c) h
theorem bits_inj {n y z : Nat} (hy : y < 2 ^ n) (hz : z < 2 ^ n) (h : idxL n (bitS y) = idxL n (bitS z)) : y = z := by
  apply Nat.eq_of_testBit_eq
  intro i
  rcases Nat.lt_or_ge i n with c | c
  · have h1 : (i : Int) ∈ idxL n (bitS y) ↔ (i : Int) ∈ idxL n (bitS z) := by rw [h]
    rw [mem_idx, mem_idx] at h1
    have h2 : bitS y i ↔ bitS z i := ⟨fun q => (h1.1 ⟨c, q⟩).2, fun q => (h1.2 ⟨c, q⟩).2⟩
    unfold bitS at h2
    cases e1 : y.testBit i <;> cases e2 : z.testBit i <;> simp [e1, e2] at h2 ⊢
  · have p : 2 ^ n ≤ 2 ^ i := Nat.pow_le_pow_right (by omega) c
    rw [Nat.testBit_lt_two_pow (by omega), Nat.testBit_lt_two_pow (by omega)]
/-- what is the best so far is not before the new one: it stays -/
theorem best_keep {n z : Nat} {p : Nat → Bool} {bo : Bool} {fl : List Int} (h : bestTo n p z = cond bo (some fl) none) (hb : bo = true) (hz : z < 2 ^ n) (hw : ¬ BeforeP (idxL n (bitS z)) fl) : bestTo n p (z + 1) = cond bo (some fl) none := by
  refine best_worse h hb (worse_total (fun q => hw (before_worse.2 q)) ?_)
  rw [hb] at h
  obtain ⟨y, hy, _, e⟩ := ((best_spec z).2 fl h).1
  intro q
  rw [e] at q
  have := bits_inj (by omega) hz q
  omega
end
end
section
open Go.RowKit
set_option linter.unusedVariables false
set_option maxRecDepth 100000 in
set_option maxHeartbeats 400000 in
theorem rmanned_c (d : GuardM) (kA : Option Addr) (kC : Nat) (pA : Option Addr) (pC : Nat) (nA : Option Addr) (nC : Nat) (l : List Int) (lA : Option Addr) (lC : Nat) (hin : GuardIn d) (hll : l.length ≤ 1000000) :
    FnX Tryz.prog 23 [(Value.agg (GuardV.cells (GuardV.mk (TrackV.mk (Slc.mk kA d.Track.length kC)) (Slc.mk pA d.Posts.length pC) (Slc.mk nA d.Needs.length nC) d.Tower d.Radio)).toArray), (Value.slice lA l.length lC)] [(rd kA d.Track.length 9 (d.Track.map StretchV.cells)), (rd pA d.Posts.length 7 (d.Posts.map PostV.cells)), (rd nA d.Needs.length 3 (d.Needs.map NeedV.cells)), (rd lA l.length 1 (l.map iC))] (fun (x : (Option Addr) × Nat) => (Value.slice x.1 ((boolsB d.Posts.length (notIn l)).length) x.2)) (fun (x : (Option Addr) × Nat) => True) (fun (x : (Option Addr) × Nat) => [(own x.1 x.2 4 1 ((boolsB d.Posts.length (notIn l)).map boolC))]) := by
 have hlen := hin.trk
 have hside := hin.side
 have hpl := hin.pst
 have hnl := hin.nds
 have hnk := hin.nk
 have hpk := hin.pk
 refine fnX_of go23 Tryz.func23 rfl rfl fun w0 Q hQ hN => ?_
 try dsimp only
 refine WS fun _ hK1 => BXA rfl fun b2 => rS (AG rfl) <| RK hK1 <| WS fun _ hK3 => rS (FA 1 rfl fo32_1 rfl) <| rS (L1 (Value.slice pA d.Posts.length pC) 0 rfl tk25 rfl rfl) <| rS (LN rfl ut25) <| r_mks (n := d.Posts.length) (es := (List.map boolC (List.replicate d.Posts.length false))) rfl rfl rfl ta54 (by omega) (by omega) (by simp only [maxLen]; omega) (by rw [List.map_replicate]; rfl) rfl fun b4 => ?_
 try dsimp only
 refine rS (AG rfl) <| RK hK3 <| w_seq fun _ hK5 => w_seq fun _ hK6 => ?_
 rw [show (own (some ⟨b4, 0, none⟩) d.Posts.length 4 1 (List.map boolC (List.replicate d.Posts.length false))) = (own (some ⟨b4, 0, none⟩) d.Posts.length 4 1 ((setB d.Posts.length 0 (notIn l)).map boolC)) from by rw [setB_zero]]
 refine w_region <| rS (AG rfl) <| RK hK6 <| w_block ?_
 have hinit : (0 ≤ d.Posts.length) := by exact Nat.zero_le _
 refine w_loop (ι := { z : Nat // (z ≤ d.Posts.length) }) (fun z => [(1, (Value.slice lA l.length lC)), (2, (Value.pointer (some ⟨b2, 0, none⟩))), (5, (Value.slice (some ⟨b4, 0, none⟩) d.Posts.length d.Posts.length)), (6, (Value.int .i64 ((z.1 : Nat) : Int)))]) (fun z => [(own (some ⟨b4, 0, none⟩) d.Posts.length 4 1 ((setB d.Posts.length z.1 (notIn l)).map boolC)), (blk b2 32 (GuardV.cells (GuardV.mk (TrackV.mk (Slc.mk kA d.Track.length kC)) (Slc.mk pA d.Posts.length pC) (Slc.mk nA d.Needs.length nC) d.Tower d.Radio))), (rd kA d.Track.length 9 (d.Track.map StretchV.cells)).ro, (rd pA d.Posts.length 7 (d.Posts.map PostV.cells)).ro, (rd nA d.Needs.length 3 (d.Needs.map NeedV.cells)).ro, (rd lA l.length 1 (l.map iC)).ro]) (fun z => d.Posts.length - z.1) ⟨0, hinit⟩ (Sub.cons rfl <| Sub.cons rfl <| Sub.cons rfl <| Sub.cons rfl <| Sub.nil _) (fun w hs => St.sel [0, 1, 2, 3, 4, 5] rfl rfl hs) ?_
 clear hinit
 rintro ⟨i, hl3_0⟩ J7 hJ7
 try dsimp only
 have hsl := setB_len (n := d.Posts.length) (i := i) (P := notIn l)
 refine w_seq fun _ hK8 => WS fun _ hK9 => rS (MV rfl) <| rS (MV rfl) <| rS (LN rfl ut54) <| rS (BI rfl b_lss) <| RK hK9 ?_
 refine w_if rfl (fun h10 => ?_) (fun h10 => ?_)
 rotate_left 1
 · replace h10 := DF h10
   refine w_exit <| k_exit_then <| k_exit_then <| k_exit_same <| KK hK5 <| WS fun _ hK16 => ?_
   rw [show setB d.Posts.length i (notIn l) = boolsB d.Posts.length (notIn l) from by rw [show i = d.Posts.length by omega]; rfl]
   refine rS (MV rfl) <| rS (AG rfl) <| RK hK16 <| w_ret ?_
   refine hQ _ _ _ (l_nil (vs := [(Value.slice (some ⟨b4, 0, none⟩) d.Posts.length d.Posts.length)]) ⟨rfl, trivial⟩ fun w hs => endX ((some ⟨b4, 0, none⟩), d.Posts.length) [0] ?_ ?_ rfl rfl rfl hs)
   · (rw [boolsB_len] <;> rfl)
   · trivial
 replace h10 := DT h10
 refine WK hK8 <| w_seq fun _ hK11 => w_block <| w_region <| rS (MV rfl) <| rS (MV rfl) <| rS (MV rfl) <| rS (MV rfl) <| rS (CL (rhas_c l lA lC ((i : Nat) : Int) (by omega)) (ha_at 5 rfl rfl <| ha_nil) rfl) <| rS (NT rfl) ?_
 obtain ⟨x12, hx13⟩ : ∃ y_, (setB d.Posts.length i (notIn l))[i]? = some y_ := ⟨(setB d.Posts.length i (notIn l))[i]'(by omega), List.getElem?_eq_getElem _⟩
 have hx13m : ((setB d.Posts.length i (notIn l)).map boolC)[i]? = some (boolC x12) := by rw [List.getElem?_map, hx13]; rfl
 refine rS (IA i rfl (has_own_n (n := d.Posts.length) 0 rfl (by first | (simp; done) | (simp; omega))) te54 (by decide) (by omega) (by omega)) ?_
 have hb14 : ((setB d.Posts.length i (notIn l)).set i (!(decide (((i : Nat) : Int) ∈ l)))) = (setB d.Posts.length (i + 1) (notIn l)) := by exact setB_set (by omega) (by simp [notIn])
 refine r_store_own (k := i) (o := 0) (vs := [(Value.bool (!(decide (((i : Nat) : Int) ∈ l))))]) (es' := (List.map boolC (setB d.Posts.length (i + 1) (notIn l)))) (C' := [(own (some ⟨b4, 0, none⟩) d.Posts.length 4 1 (List.map boolC (setB d.Posts.length (i + 1) (notIn l)))), _, _, _, _, _]) 0 rfl rfl rfl ts4 rfl rfl rfl rfl hx13m rfl (by decide) (by exact (List.map_set (f := boolC) (l := (setB d.Posts.length i (notIn l))) (i := i) (a := (!(decide (((i : Nat) : Int) ∈ l))))).symm.trans (congrArg _ hb14)) rfl <| r_nil <| k_block <| KK hK11 <| w_region <| rS (MV rfl) <| rS (BI rfl (b_add ⟨by omega, by omega⟩)) <| rS (AG rfl) <| r_nil ?_
 have hb15 : (Value.int .i64 (((i + 1) : Nat) : Int)) = (Value.int .i64 (((i : Nat) : Int) + 1)) := by exact congrArg (Value.int .i64) (by omega)
 refine k_then (hJ7 ⟨(i + 1), (by first | omega | (simp only []; omega))⟩ _ _ _ rfl (by first | omega | (simp; omega)) (Sub.cons rfl <| Sub.cons rfl <| Sub.cons rfl <| sub_val rfl hb15 <| Sub.nil _) (fun w hs => St.sel [0, 1, 2, 3, 4, 5] rfl rfl hs))
set_option maxRecDepth 100000 in
set_option maxHeartbeats 400000 in
theorem rlist_c (bs : List Bool) (bsA : Option Addr) (bsC : Nat) (hlen : bs.length ≤ 1000000) :
    FnX Tryz.prog 31 [(Value.slice bsA bs.length bsC)] [(rd bsA bs.length 1 (bs.map boolC))] (fun (x : (Option Addr) × Nat) => (Value.slice x.1 ((idxL bs.length (fun i => bs[i]? = some true)).length) x.2)) (fun (x : (Option Addr) × Nat) => True) (fun (x : (Option Addr) × Nat) => [(own x.1 x.2 3 1 ((idxL bs.length (fun i => bs[i]? = some true)).map iC))]) := by
 refine fnX_of go31 Tryz.func31 rfl rfl fun w0 Q hQ hN => ?_
 try dsimp only
 refine WS fun _ hK1 => rS (AG rfl) <| RK hK1 <| WS fun _ hK2 => rS (AG rfl) <| RK hK2 <| w_seq fun _ hK3 => WS fun _ hK4 => rS (AG rfl) <| RK hK4 ?_
 refine w_block <| w_own_nil 3 1 ?_
 have hinit : (0 ≤ bs.length) := by exact Nat.zero_le _
 refine w_loop (ι := { z : Nat × (Option Addr) × Nat // (z.1 ≤ bs.length) }) (fun z => [(0, (Value.slice bsA bs.length bsC)), (3, (Value.slice z.1.2.1 ((idxL z.1.1 (fun i => bs[i]? = some true)).length) z.1.2.2)), (4, (Value.int .i64 ((z.1.1 : Nat) : Int)))]) (fun z => [(own z.1.2.1 z.1.2.2 3 1 ((idxL z.1.1 (fun i => bs[i]? = some true)).map iC)), (rd bsA bs.length 1 (bs.map boolC)).ro]) (fun z => bs.length - z.1.1) ⟨(0, none, 0), hinit⟩ (Sub.cons rfl <| Sub.cons rfl <| Sub.cons rfl <| Sub.nil _) (fun w hs => St.sel [0, 1] rfl rfl hs) ?_
 clear hinit
 rintro ⟨⟨j, la, lc⟩, hl3_0⟩ J5 hJ5
 try dsimp only at hl3_0
 try dsimp only
 refine w_seq fun _ hK6 => WS fun _ hK7 => rS (MV rfl) <| rS (MV rfl) <| rS (LN rfl ut54) <| rS (BI rfl b_lss) <| RK hK7 ?_
 refine w_if rfl (fun h8 => ?_) (fun h8 => ?_)
 rotate_left 1
 · replace h8 := DF h8
   refine w_exit <| k_exit_then <| k_exit_then <| k_exit_same <| KK hK3 <| WS fun _ hK16 => ?_
   rw [show idxL j (fun i => bs[i]? = some true) = idxL bs.length (fun i => bs[i]? = some true) from by rw [show j = bs.length by omega]]
   refine rS (MV rfl) <| rS (AG rfl) <| RK hK16 <| w_ret ?_
   refine hQ _ _ _ (l_nil (vs := [(Value.slice la ((idxL bs.length (fun i => bs[i]? = some true)).length) lc)]) ⟨rfl, trivial⟩ fun w hs => endX (la, lc) [0] ?_ ?_ rfl rfl rfl hs)
   · rfl
   · trivial
 replace h8 := DT h8
 refine WK hK6 <| w_seq fun _ hK9 => w_block <| WS fun _ hK10 => rS (MV rfl) <| rS (MV rfl) ?_
 obtain ⟨b, hb⟩ : ∃ y_, bs[j]? = some y_ := ⟨bs[j]'(by omega), List.getElem?_eq_getElem _⟩
 have hbm : (bs.map boolC)[j]? = some (boolC b) := by rw [List.getElem?_map, hb]; rfl
 refine rS (IA j rfl (has_at 1 rfl) te54 (by decide) (by omega) (by omega)) <| rS (LE1 j 0 (Value.bool b) rfl tk4 (has_at 1 rfl) hbm rfl (by decide) rfl) <| RK hK10 ?_
 refine w_if rfl (fun hg14 => ?_) (fun hg14 => ?_)
 rotate_left 1
 · refine w_skip ?_
   refine k_block <| KK hK9 <| w_region <| rS (MV rfl) <| rS (BI rfl (b_add ⟨by omega, by omega⟩)) <| rS (AG rfl) <| r_nil ?_
   rw [show (idxL j (fun i => bs[i]? = some true)) = (idxL (j + 1) (fun i => bs[i]? = some true)) from (idxL_no (fun q => by rw [hb] at q; have q1 := Option.some.inj q; first | exact hg14 q1 | (rw [q1] at hg14; cases hg14))).symm]
   have hb15 : (Value.int .i64 (((j + 1) : Nat) : Int)) = (Value.int .i64 (((j : Nat) : Int) + 1)) := by exact congrArg (Value.int .i64) (by omega)
   refine k_then (hJ5 ⟨((j + 1), la, lc), (by first | omega | (simp only []; omega))⟩ _ _ _ rfl (by first | omega | (simp; omega)) (Sub.cons rfl <| Sub.cons rfl <| sub_val rfl hb15 <| Sub.nil _) (fun w hs => St.sel [0, 1] rfl rfl hs))
 refine w_region <| rS (MV rfl) <| rS (MV rfl) <| r_bs (xs := [.tmp 16]) (cs := [(Value.int .i64 ((j : Nat) : Int))]) rfl te33 tz3 rfl rfl rfl rfl (by simp [Value.cells]) rfl rfl fun b11 => r_append (es2 := (List.map iC (idxL (j + 1) (fun i => bs[i]? = some true)))) (m' := (idxL (j + 1) (fun i => bs[i]? = some true)).length) 1 rfl rfl rfl ta33 rfl rfl (by simp) (has_rd_blk (es := List.map iC [((j : Nat) : Int)]) 0 rfl rfl (by simp [iC_length]) rfl) (one_iC _) (by have := idxL_len (n := j) (p := fun i => bs[i]? = some true); omega) (by have := idxL_len (n := j) (p := fun i => bs[i]? = some true); simp only [maxLen]; omega) (by rw [idxL_yes (p := fun i => bs[i]? = some true) (show bs[j]? = some true from by rw [hb, hg14])]; simp) (by simp) rfl fun a12 c13 => ?_
 try dsimp only
 refine rS (AG rfl) <| r_nil <| k_block <| KK hK9 <| w_region <| rS (MV rfl) <| rS (BI rfl (b_add ⟨by omega, by omega⟩)) <| rS (AG rfl) <| r_nil ?_
 have hb14 : (Value.int .i64 (((j + 1) : Nat) : Int)) = (Value.int .i64 (((j : Nat) : Int) + 1)) := by exact congrArg (Value.int .i64) (by omega)
 refine k_then (hJ5 ⟨((j + 1), a12, c13), (by first | omega | (simp only []; omega))⟩ _ _ _ rfl (by first | omega | (simp; omega)) (Sub.cons rfl <| Sub.cons rfl <| sub_val rfl hb14 <| Sub.nil _) (fun w hs => St.sel [1, 2] rfl rfl hs))
end
section
open Go.RowKit
set_option linter.unusedVariables false
set_option maxRecDepth 100000 in
set_option maxHeartbeats 400000 in
theorem rapart1_c (ts : List StretchV) (tsA : Option Addr) (tsC : Nat) (p : SpotV) (q : SpotV) (hlen : ts.length ≤ 1000000) (hside : ∀ x ∈ ts, 0 ≤ x.Side ∧ x.Side ≤ 255) (hord : ¬ q.Stretch < p.Stretch) :
    FnV Tryz.prog 72 [(Value.agg (TrackV.cells (TrackV.mk (Slc.mk tsA ts.length tsC))).toArray), (Value.agg (SpotV.cells p).toArray), (Value.agg (SpotV.cells q).toArray)] [(rd tsA ts.length 9 (ts.map StretchV.cells))] (Value.tuple [(Value.agg (SpanV.cells (apartV ts p q)).toArray), (Value.int .i64 (apartE ts p q))].toArray) := by
 refine fnV_of go72 Tryz.func72 rfl rfl fun w0 Q hQ hN => ?_
 try dsimp only
 refine WS fun _ hK1 => BXA rfl fun b2 => BXA rfl fun b3 => BXA rfl fun b4 => AL rfl tz28 fun b5 => rS (AG rfl) <| RK hK1 <| w_seq fun _ hK6 => WS fun _ hK7 => rS (LW 3 rfl tk24 rfl rfl) ?_
 refine rS (CL (track_c ts tsA tsC hlen) (ha_at 4 rfl rfl <| ha_nil) rfl) <| rS (NT rfl) <| RK hK7 ?_
 refine w_if rfl (fun h14 => ?_) (fun h14 => ?_)
 · rw [Bool.not_eq_true'] at h14
   refine WS fun _ hK8 => rS (SX (sd_build (xs := []) (cs := (SpanV.cells (SpanV.mk 0 0))) rfl rfl (built_of tb28 rfl)) rfl rfl) <| SW0 rfl ts28 rfl <| rS (AG rfl) <| RK hK8 <| w_ret ?_
   refine hQ _ _ _ (l_nil (vs := [(Value.agg (SpanV.cells (SpanV.mk 0 0)).toArray), (Value.int .i64 10)]) ⟨⟨_, rfl, .inl ⟨_, _, tk28, at_blk (vs := (SpanV.cells (SpanV.mk 0 0))) 0 rfl rfl, rfl, rfl⟩⟩, rfl, trivial⟩ fun w hs => endV ?_ hs)
   show (Value.tuple [(Value.agg (SpanV.cells (SpanV.mk 0 0)).toArray), (Value.int .i64 10)].toArray) = (Value.tuple [(Value.agg (SpanV.cells (apartV ts p q)).toArray), (Value.int .i64 (apartE ts p q))].toArray)
   clear hs w hQ hN hK8 hK7 hK6 hK1
   first | (have e := apart_bad (a := p) (b := q) (by simpa using h14); rw [e.1, e.2] <;> rfl) | (have e := apart_in h14 hq1; rw [e.1, e.2, apart_straight h31] <;> rfl) | (have e := apart_in h14 hq1; have e2 := apart_in h14 ⟨h25, h20⟩; rw [e.1, e.2, e2.2, apart_swap h31] <;> rfl) | (have e := apart_out (a := p) (b := q) h14 (fun h => by first | exact h20 h.1 | exact h25 h.2); rw [e.1, e.2] <;> rfl)
 rw [Bool.not_eq_false'] at h14
 refine WK hK6 <| w_seq fun _ hK9 => WS fun _ hK10 => ?_
 have hst := trackOk_all h14
 have hl12 := trackOk_le h14
 refine rS (LW 3 rfl tk24 rfl rfl) <| rS (LW 2 rfl tk30 rfl rfl) <| rS (CL (rspot_c ts tsA tsC p (by first | assumption | omega | (simp; done) | (simp; omega)) (by first | assumption | omega | (simp; done) | (simp; omega))) (ha_at 4 rfl rfl <| ha_nil) rfl) <| rS (NT rfl) <| rS (MV rfl) ?_
 refine r_bool (t := 20) rfl (fun h20 => ?_) (fun h20 => ?_)
 · replace h20 := XT h20
   refine rS (OX rfl) <| rS (OX rfl) <| rS (OX rfl) <| rS (OX rfl) <| rS (PK rfl) <| RK hK10 <| w_if_true rfl <| WS fun _ hK11 => rS (SX (sd_build (xs := []) (cs := (SpanV.cells (SpanV.mk 0 0))) rfl rfl (built_of tb28 rfl)) rfl rfl) <| SW0 rfl ts28 rfl ?_
   refine rS (AG rfl) <| RK hK11 <| w_ret ?_
   refine hQ _ _ _ (l_nil (vs := [(Value.agg (SpanV.cells (SpanV.mk 0 0)).toArray), (Value.int .i64 12)]) ⟨⟨_, rfl, .inl ⟨_, _, tk28, at_blk (vs := (SpanV.cells (SpanV.mk 0 0))) 0 rfl rfl, rfl, rfl⟩⟩, rfl, trivial⟩ fun w hs => endV ?_ hs)
   show (Value.tuple [(Value.agg (SpanV.cells (SpanV.mk 0 0)).toArray), (Value.int .i64 12)].toArray) = (Value.tuple [(Value.agg (SpanV.cells (apartV ts p q)).toArray), (Value.int .i64 (apartE ts p q))].toArray)
   clear hs w hQ hN hK11 hK10 hK9 hK7 hK6 hK1
   first | (have e := apart_bad (a := p) (b := q) (by simpa using h14); rw [e.1, e.2] <;> rfl) | (have e := apart_in h14 hq1; rw [e.1, e.2, apart_straight h31] <;> rfl) | (have e := apart_in h14 hq1; have e2 := apart_in h14 ⟨h25, h20⟩; rw [e.1, e.2, e2.2, apart_swap h31] <;> rfl) | (have e := apart_out (a := p) (b := q) h14 (fun h => by first | exact h20 h.1 | exact h25 h.2); rw [e.1, e.2] <;> rfl)
 replace h20 := XF h20
 refine rS (LW 3 rfl tk24 rfl rfl) <| rS (LW 1 rfl tk30 rfl rfl) <| rS (CL (rspot_c ts tsA tsC q (by first | assumption | omega | (simp; done) | (simp; omega)) (by first | assumption | omega | (simp; done) | (simp; omega))) (ha_at 4 rfl rfl <| ha_nil) rfl) <| rS (NT rfl) <| rS (PK rfl) <| RK hK10 ?_
 refine w_if rfl (fun h25 => ?_) (fun h25 => ?_)
 · replace h25 := XT h25
   refine WS fun _ hK12 => rS (SX (sd_build (xs := []) (cs := (SpanV.cells (SpanV.mk 0 0))) rfl rfl (built_of tb28 rfl)) rfl rfl) <| SW0 rfl ts28 rfl <| rS (AG rfl) <| RK hK12 <| w_ret ?_
   refine hQ _ _ _ (l_nil (vs := [(Value.agg (SpanV.cells (SpanV.mk 0 0)).toArray), (Value.int .i64 12)]) ⟨⟨_, rfl, .inl ⟨_, _, tk28, at_blk (vs := (SpanV.cells (SpanV.mk 0 0))) 0 rfl rfl, rfl, rfl⟩⟩, rfl, trivial⟩ fun w hs => endV ?_ hs)
   show (Value.tuple [(Value.agg (SpanV.cells (SpanV.mk 0 0)).toArray), (Value.int .i64 12)].toArray) = (Value.tuple [(Value.agg (SpanV.cells (apartV ts p q)).toArray), (Value.int .i64 (apartE ts p q))].toArray)
   clear hs w hQ hN hK12 hK10 hK9 hK7 hK6 hK1
   first | (have e := apart_bad (a := p) (b := q) (by simpa using h14); rw [e.1, e.2] <;> rfl) | (have e := apart_in h14 hq1; rw [e.1, e.2, apart_straight h31] <;> rfl) | (have e := apart_in h14 hq1; have e2 := apart_in h14 ⟨h25, h20⟩; rw [e.1, e.2, e2.2, apart_swap h31] <;> rfl) | (have e := apart_out (a := p) (b := q) h14 (fun h => by first | exact h20 h.1 | exact h25 h.2); rw [e.1, e.2] <;> rfl)
 replace h25 := XF h25
 refine WK hK9 <| w_seq fun _ hK13 => WS fun _ hK14 => ?_
 have hq1 : SpotOk ts p ∧ SpotOk ts q := ⟨h20, h25⟩
 have hpo := off_in hst h20
 have hqo := off_in hst h25
 have hpb := h20.1
 have hqb := h25.1
 have hab := apartF_b hst hl12 h25 h20
 unfold In12 at hpo hqo
 refine rS (FA 0 rfl fo30_0 rfl) <| rS (L1 (Value.int .i64 q.Stretch) 1 rfl tk3 rfl rfl) <| rS (FA 0 rfl fo30_0 rfl) <| rS (L1 (Value.int .i64 p.Stretch) 2 rfl tk3 rfl rfl) <| rS (BI rfl b_lss) <| RK hK14 ?_
 refine w_if rfl (fun h31 => ?_) (fun h31 => ?_)
 · replace h31 := DT h31
   exfalso; omega
 replace h31 := DF h31
 refine WK hK13 <| WS fun _ hK15 => rS (LW 3 rfl tk24 rfl rfl) <| rS (FA 0 rfl fo30_0 rfl) ?_
 have hlb := longF_b hst p.Stretch.toNat (q.Stretch - p.Stretch).toNat
 refine rS (L1 (Value.int .i64 p.Stretch) 2 rfl tk3 rfl rfl) <| rS (FA 0 rfl fo30_0 rfl) <| rS (L1 (Value.int .i64 q.Stretch) 1 rfl tk3 rfl rfl) <| rS (CL (rdrop_c ts tsA tsC p.Stretch q.Stretch (by first | assumption | omega | (simp; done) | (simp; omega)) (by first | assumption | omega | (simp; done) | (simp; omega)) (by omega)) (ha_at 4 rfl rfl <| ha_nil) rfl) <| rS (MV rfl) <| rS (EX rfl) <| rS (EX rfl) <| AL rfl tz28 fun b16 => AL rfl tz28 fun b17 => SW1 rfl ts28 rfl ?_
 refine SW0 rfl ts28 rfl <| RK hK15 <| WS fun _ hK18 => rS (FA 0 rfl fo28_0 rfl) <| rS (L1 (Value.int .i64 ((longF ts p.Stretch.toNat (q.Stretch - p.Stretch).toNat).Lo)) 1 rfl tk3 rfl rfl) <| rS (FA 1 rfl fo30_1 rfl) <| rS (FA 1 rfl fo28_0 rfl) <| rS (L1 (Value.int .i64 q.Off.Lo) 3 rfl tk3 rfl rfl) <| rS (BI rfl (b_add ⟨by omega, by omega⟩)) <| rS (FA 1 rfl fo30_1 rfl) ?_
 refine rS (FA 2 rfl fo28_1 rfl) <| rS (L1 (Value.int .i64 p.Off.Hi) 4 rfl tk3 rfl rfl) <| rS (BI rfl (b_sub ⟨by omega, by omega⟩)) <| rS (FA 1 rfl fo28_1 rfl) <| rS (L1 (Value.int .i64 ((longF ts p.Stretch.toNat (q.Stretch - p.Stretch).toNat).Hi)) 1 rfl tk3 rfl rfl) <| rS (FA 1 rfl fo30_1 rfl) <| rS (FA 2 rfl fo28_1 rfl) <| rS (L1 (Value.int .i64 q.Off.Hi) 3 rfl tk3 rfl rfl) <| rS (BI rfl (b_add ⟨by omega, by omega⟩)) <| rS (FA 1 rfl fo30_1 rfl) ?_
 refine rS (FA 1 rfl fo28_0 rfl) <| rS (L1 (Value.int .i64 p.Off.Lo) 4 rfl tk3 rfl rfl) <| rS (BI rfl (b_sub ⟨by omega, by omega⟩)) <| rS (SX (sd_build (xs := [(0, .tmp 64), (1, .tmp 74)]) (cs := (SpanV.cells (SpanV.mk ((((longF ts p.Stretch.toNat (q.Stretch - p.Stretch).toNat).Lo) + q.Off.Lo) - p.Off.Hi) ((((longF ts p.Stretch.toNat (q.Stretch - p.Stretch).toNat).Hi) + q.Off.Hi) - p.Off.Lo)))) rfl rfl (built_of tb28 rfl)) rfl rfl) <| SW2 rfl ts28 rfl <| rS (AG rfl) <| RK hK18 <| w_ret ?_
 refine hQ _ _ _ (l_nil (vs := [(Value.agg (SpanV.cells (SpanV.mk ((((longF ts p.Stretch.toNat (q.Stretch - p.Stretch).toNat).Lo) + q.Off.Lo) - p.Off.Hi) ((((longF ts p.Stretch.toNat (q.Stretch - p.Stretch).toNat).Hi) + q.Off.Hi) - p.Off.Lo))).toArray), (Value.int .i64 0)]) ⟨⟨_, rfl, .inl ⟨_, _, tk28, at_blk (vs := (SpanV.cells (SpanV.mk ((((longF ts p.Stretch.toNat (q.Stretch - p.Stretch).toNat).Lo) + q.Off.Lo) - p.Off.Hi) ((((longF ts p.Stretch.toNat (q.Stretch - p.Stretch).toNat).Hi) + q.Off.Hi) - p.Off.Lo)))) 2 rfl rfl, rfl, rfl⟩⟩, rfl, trivial⟩ fun w hs => endV ?_ hs)
 show (Value.tuple [(Value.agg (SpanV.cells (SpanV.mk ((((longF ts p.Stretch.toNat (q.Stretch - p.Stretch).toNat).Lo) + q.Off.Lo) - p.Off.Hi) ((((longF ts p.Stretch.toNat (q.Stretch - p.Stretch).toNat).Hi) + q.Off.Hi) - p.Off.Lo))).toArray), (Value.int .i64 0)].toArray) = (Value.tuple [(Value.agg (SpanV.cells (apartV ts p q)).toArray), (Value.int .i64 (apartE ts p q))].toArray)
 clear hs w hQ hN hK18 hK15 hK14 hK13 hK10 hK9 hK7 hK6 hK1
 first | (have e := apart_bad (a := p) (b := q) (by simpa using h14); rw [e.1, e.2] <;> rfl) | (have e := apart_in h14 hq1; rw [e.1, e.2, apart_straight h31] <;> rfl) | (have e := apart_in h14 hq1; have e2 := apart_in h14 ⟨h25, h20⟩; rw [e.1, e.2, e2.2, apart_swap h31] <;> rfl) | (have e := apart_out (a := p) (b := q) h14 (fun h => by first | exact h20 h.1 | exact h25 h.2); rw [e.1, e.2] <;> rfl)
set_option maxRecDepth 100000 in
set_option maxHeartbeats 400000 in
theorem rapart_c (ts : List StretchV) (tsA : Option Addr) (tsC : Nat) (p : SpotV) (q : SpotV) (hlen : ts.length ≤ 1000000) (hside : ∀ x ∈ ts, 0 ≤ x.Side ∧ x.Side ≤ 255) :
    FnV Tryz.prog 72 [(Value.agg (TrackV.cells (TrackV.mk (Slc.mk tsA ts.length tsC))).toArray), (Value.agg (SpotV.cells p).toArray), (Value.agg (SpotV.cells q).toArray)] [(rd tsA ts.length 9 (ts.map StretchV.cells))] (Value.tuple [(Value.agg (SpanV.cells (apartV ts p q)).toArray), (Value.int .i64 (apartE ts p q))].toArray) := by
 refine fnV_of go72 Tryz.func72 rfl rfl fun w0 Q hQ hN => ?_
 try dsimp only
 refine WS fun _ hK1 => BXA rfl fun b2 => BXA rfl fun b3 => BXA rfl fun b4 => AL rfl tz28 fun b5 => rS (AG rfl) <| RK hK1 <| w_seq fun _ hK6 => WS fun _ hK7 => rS (LW 3 rfl tk24 rfl rfl) ?_
 refine rS (CL (track_c ts tsA tsC hlen) (ha_at 4 rfl rfl <| ha_nil) rfl) <| rS (NT rfl) <| RK hK7 ?_
 refine w_if rfl (fun h14 => ?_) (fun h14 => ?_)
 · rw [Bool.not_eq_true'] at h14
   refine WS fun _ hK8 => rS (SX (sd_build (xs := []) (cs := (SpanV.cells (SpanV.mk 0 0))) rfl rfl (built_of tb28 rfl)) rfl rfl) <| SW0 rfl ts28 rfl <| rS (AG rfl) <| RK hK8 <| w_ret ?_
   refine hQ _ _ _ (l_nil (vs := [(Value.agg (SpanV.cells (SpanV.mk 0 0)).toArray), (Value.int .i64 10)]) ⟨⟨_, rfl, .inl ⟨_, _, tk28, at_blk (vs := (SpanV.cells (SpanV.mk 0 0))) 0 rfl rfl, rfl, rfl⟩⟩, rfl, trivial⟩ fun w hs => endV ?_ hs)
   show (Value.tuple [(Value.agg (SpanV.cells (SpanV.mk 0 0)).toArray), (Value.int .i64 10)].toArray) = (Value.tuple [(Value.agg (SpanV.cells (apartV ts p q)).toArray), (Value.int .i64 (apartE ts p q))].toArray)
   clear hs w hQ hN hK8 hK7 hK6 hK1
   first | (have e := apart_bad (a := p) (b := q) (by simpa using h14); rw [e.1, e.2] <;> rfl) | (have e := apart_in h14 hq1; rw [e.1, e.2, apart_straight h31] <;> rfl) | (have e := apart_in h14 hq1; have e2 := apart_in h14 ⟨h25, h20⟩; rw [e.1, e.2, e2.2, apart_swap h31] <;> rfl) | (have e := apart_out (a := p) (b := q) h14 (fun h => by first | exact h20 h.1 | exact h25 h.2); rw [e.1, e.2] <;> rfl)
 rw [Bool.not_eq_false'] at h14
 refine WK hK6 <| w_seq fun _ hK9 => WS fun _ hK10 => ?_
 have hst := trackOk_all h14
 have hl12 := trackOk_le h14
 refine rS (LW 3 rfl tk24 rfl rfl) <| rS (LW 2 rfl tk30 rfl rfl) <| rS (CL (rspot_c ts tsA tsC p (by first | assumption | omega | (simp; done) | (simp; omega)) (by first | assumption | omega | (simp; done) | (simp; omega))) (ha_at 4 rfl rfl <| ha_nil) rfl) <| rS (NT rfl) <| rS (MV rfl) ?_
 refine r_bool (t := 20) rfl (fun h20 => ?_) (fun h20 => ?_)
 · replace h20 := XT h20
   refine rS (OX rfl) <| rS (OX rfl) <| rS (OX rfl) <| rS (OX rfl) <| rS (PK rfl) <| RK hK10 <| w_if_true rfl <| WS fun _ hK11 => rS (SX (sd_build (xs := []) (cs := (SpanV.cells (SpanV.mk 0 0))) rfl rfl (built_of tb28 rfl)) rfl rfl) <| SW0 rfl ts28 rfl ?_
   refine rS (AG rfl) <| RK hK11 <| w_ret ?_
   refine hQ _ _ _ (l_nil (vs := [(Value.agg (SpanV.cells (SpanV.mk 0 0)).toArray), (Value.int .i64 12)]) ⟨⟨_, rfl, .inl ⟨_, _, tk28, at_blk (vs := (SpanV.cells (SpanV.mk 0 0))) 0 rfl rfl, rfl, rfl⟩⟩, rfl, trivial⟩ fun w hs => endV ?_ hs)
   show (Value.tuple [(Value.agg (SpanV.cells (SpanV.mk 0 0)).toArray), (Value.int .i64 12)].toArray) = (Value.tuple [(Value.agg (SpanV.cells (apartV ts p q)).toArray), (Value.int .i64 (apartE ts p q))].toArray)
   clear hs w hQ hN hK11 hK10 hK9 hK7 hK6 hK1
   first | (have e := apart_bad (a := p) (b := q) (by simpa using h14); rw [e.1, e.2] <;> rfl) | (have e := apart_in h14 hq1; rw [e.1, e.2, apart_straight h31] <;> rfl) | (have e := apart_in h14 hq1; have e2 := apart_in h14 ⟨h25, h20⟩; rw [e.1, e.2, e2.2, apart_swap h31] <;> rfl) | (have e := apart_out (a := p) (b := q) h14 (fun h => by first | exact h20 h.1 | exact h25 h.2); rw [e.1, e.2] <;> rfl)
 replace h20 := XF h20
 refine rS (LW 3 rfl tk24 rfl rfl) <| rS (LW 1 rfl tk30 rfl rfl) <| rS (CL (rspot_c ts tsA tsC q (by first | assumption | omega | (simp; done) | (simp; omega)) (by first | assumption | omega | (simp; done) | (simp; omega))) (ha_at 4 rfl rfl <| ha_nil) rfl) <| rS (NT rfl) <| rS (PK rfl) <| RK hK10 ?_
 refine w_if rfl (fun h25 => ?_) (fun h25 => ?_)
 · replace h25 := XT h25
   refine WS fun _ hK12 => rS (SX (sd_build (xs := []) (cs := (SpanV.cells (SpanV.mk 0 0))) rfl rfl (built_of tb28 rfl)) rfl rfl) <| SW0 rfl ts28 rfl <| rS (AG rfl) <| RK hK12 <| w_ret ?_
   refine hQ _ _ _ (l_nil (vs := [(Value.agg (SpanV.cells (SpanV.mk 0 0)).toArray), (Value.int .i64 12)]) ⟨⟨_, rfl, .inl ⟨_, _, tk28, at_blk (vs := (SpanV.cells (SpanV.mk 0 0))) 0 rfl rfl, rfl, rfl⟩⟩, rfl, trivial⟩ fun w hs => endV ?_ hs)
   show (Value.tuple [(Value.agg (SpanV.cells (SpanV.mk 0 0)).toArray), (Value.int .i64 12)].toArray) = (Value.tuple [(Value.agg (SpanV.cells (apartV ts p q)).toArray), (Value.int .i64 (apartE ts p q))].toArray)
   clear hs w hQ hN hK12 hK10 hK9 hK7 hK6 hK1
   first | (have e := apart_bad (a := p) (b := q) (by simpa using h14); rw [e.1, e.2] <;> rfl) | (have e := apart_in h14 hq1; rw [e.1, e.2, apart_straight h31] <;> rfl) | (have e := apart_in h14 hq1; have e2 := apart_in h14 ⟨h25, h20⟩; rw [e.1, e.2, e2.2, apart_swap h31] <;> rfl) | (have e := apart_out (a := p) (b := q) h14 (fun h => by first | exact h20 h.1 | exact h25 h.2); rw [e.1, e.2] <;> rfl)
 replace h25 := XF h25
 refine WK hK9 <| w_seq fun _ hK13 => WS fun _ hK14 => ?_
 have hq1 : SpotOk ts p ∧ SpotOk ts q := ⟨h20, h25⟩
 have hpo := off_in hst h20
 have hqo := off_in hst h25
 have hpb := h20.1
 have hqb := h25.1
 have hab := apartF_b hst hl12 h25 h20
 unfold In12 at hpo hqo
 refine rS (FA 0 rfl fo30_0 rfl) <| rS (L1 (Value.int .i64 q.Stretch) 1 rfl tk3 rfl rfl) <| rS (FA 0 rfl fo30_0 rfl) <| rS (L1 (Value.int .i64 p.Stretch) 2 rfl tk3 rfl rfl) <| rS (BI rfl b_lss) <| RK hK14 ?_
 refine w_if rfl (fun h31 => ?_) (fun h31 => ?_)
 · replace h31 := DT h31
   refine WS fun _ hK15 => rS (LW 3 rfl tk24 rfl rfl) <| rS (LW 1 rfl tk30 rfl rfl) <| rS (LW 2 rfl tk30 rfl rfl) <| rS (CL (rapart1_c ts tsA tsC q p hlen hside (by first | assumption | omega | (simp; done) | (simp; omega))) (ha_at 4 rfl rfl <| ha_nil) rfl) <| rS (MV rfl) <| rS (EX rfl) <| rS (EX rfl) <| AL rfl tz28 fun b16 => SW0 rfl ts28 rfl ?_
   refine rS (AG rfl) <| RK hK15 <| WS fun _ hK17 => rS (FA 1 rfl fo28_1 rfl) <| rS (L1 (Value.int .i64 ((apartV ts q p).Hi)) 0 rfl tk3 rfl rfl) ?_
   have hav : apartV ts q p = apartF ts q p := (apart_in h14 ⟨h25, h20⟩).2
   have hav1 : -400000 ≤ (apartV ts q p).Lo ∧ (apartV ts q p).Hi ≤ 400000 := by rw [hav]; omega
   have hav2 : (apartV ts q p).Lo ≤ (apartV ts q p).Hi := by rw [hav]; omega
   refine rS (NG rfl ⟨by omega, by omega⟩) <| rS (FA 0 rfl fo28_0 rfl) <| rS (L1 (Value.int .i64 ((apartV ts q p).Lo)) 0 rfl tk3 rfl rfl) <| rS (NG rfl ⟨by omega, by omega⟩) <| rS (SX (sd_build (xs := [(0, .tmp 41), (1, .tmp 44)]) (cs := (SpanV.cells (SpanV.mk (-((apartV ts q p).Hi)) (-((apartV ts q p).Lo))))) rfl rfl (built_of tb28 rfl)) rfl rfl) <| SW1 rfl ts28 rfl <| rS (AG rfl) <| RK hK17 <| w_ret ?_
   refine hQ _ _ _ (l_nil (vs := [(Value.agg (SpanV.cells (SpanV.mk (-((apartV ts q p).Hi)) (-((apartV ts q p).Lo)))).toArray), (Value.int .i64 0)]) ⟨⟨_, rfl, .inl ⟨_, _, tk28, at_blk (vs := (SpanV.cells (SpanV.mk (-((apartV ts q p).Hi)) (-((apartV ts q p).Lo))))) 1 rfl rfl, rfl, rfl⟩⟩, rfl, trivial⟩ fun w hs => endV ?_ hs)
   show (Value.tuple [(Value.agg (SpanV.cells (SpanV.mk (-((apartV ts q p).Hi)) (-((apartV ts q p).Lo)))).toArray), (Value.int .i64 0)].toArray) = (Value.tuple [(Value.agg (SpanV.cells (apartV ts p q)).toArray), (Value.int .i64 (apartE ts p q))].toArray)
   clear hs w hQ hN hK17 hK15 hK14 hK13 hK10 hK9 hK7 hK6 hK1
   first | (have e := apart_bad (a := p) (b := q) (by simpa using h14); rw [e.1, e.2] <;> rfl) | (have e := apart_in h14 hq1; rw [e.1, e.2, apart_straight h31] <;> rfl) | (have e := apart_in h14 hq1; have e2 := apart_in h14 ⟨h25, h20⟩; rw [e.1, e.2, e2.2, apart_swap h31] <;> rfl) | (have e := apart_out (a := p) (b := q) h14 (fun h => by first | exact h20 h.1 | exact h25 h.2); rw [e.1, e.2] <;> rfl)
 replace h31 := DF h31
 refine WK hK13 <| WS fun _ hK18 => rS (LW 3 rfl tk24 rfl rfl) <| rS (FA 0 rfl fo30_0 rfl) ?_
 have hlb := longF_b hst p.Stretch.toNat (q.Stretch - p.Stretch).toNat
 refine rS (L1 (Value.int .i64 p.Stretch) 2 rfl tk3 rfl rfl) <| rS (FA 0 rfl fo30_0 rfl) <| rS (L1 (Value.int .i64 q.Stretch) 1 rfl tk3 rfl rfl) <| rS (CL (rdrop_c ts tsA tsC p.Stretch q.Stretch (by first | assumption | omega | (simp; done) | (simp; omega)) (by first | assumption | omega | (simp; done) | (simp; omega)) (by omega)) (ha_at 4 rfl rfl <| ha_nil) rfl) <| rS (MV rfl) <| rS (EX rfl) <| rS (EX rfl) <| AL rfl tz28 fun b19 => AL rfl tz28 fun b20 => SW1 rfl ts28 rfl ?_
 refine SW0 rfl ts28 rfl <| RK hK18 <| WS fun _ hK21 => rS (FA 0 rfl fo28_0 rfl) <| rS (L1 (Value.int .i64 ((longF ts p.Stretch.toNat (q.Stretch - p.Stretch).toNat).Lo)) 1 rfl tk3 rfl rfl) <| rS (FA 1 rfl fo30_1 rfl) <| rS (FA 1 rfl fo28_0 rfl) <| rS (L1 (Value.int .i64 q.Off.Lo) 3 rfl tk3 rfl rfl) <| rS (BI rfl (b_add ⟨by omega, by omega⟩)) <| rS (FA 1 rfl fo30_1 rfl) ?_
 refine rS (FA 2 rfl fo28_1 rfl) <| rS (L1 (Value.int .i64 p.Off.Hi) 4 rfl tk3 rfl rfl) <| rS (BI rfl (b_sub ⟨by omega, by omega⟩)) <| rS (FA 1 rfl fo28_1 rfl) <| rS (L1 (Value.int .i64 ((longF ts p.Stretch.toNat (q.Stretch - p.Stretch).toNat).Hi)) 1 rfl tk3 rfl rfl) <| rS (FA 1 rfl fo30_1 rfl) <| rS (FA 2 rfl fo28_1 rfl) <| rS (L1 (Value.int .i64 q.Off.Hi) 3 rfl tk3 rfl rfl) <| rS (BI rfl (b_add ⟨by omega, by omega⟩)) <| rS (FA 1 rfl fo30_1 rfl) ?_
 refine rS (FA 1 rfl fo28_0 rfl) <| rS (L1 (Value.int .i64 p.Off.Lo) 4 rfl tk3 rfl rfl) <| rS (BI rfl (b_sub ⟨by omega, by omega⟩)) <| rS (SX (sd_build (xs := [(0, .tmp 64), (1, .tmp 74)]) (cs := (SpanV.cells (SpanV.mk ((((longF ts p.Stretch.toNat (q.Stretch - p.Stretch).toNat).Lo) + q.Off.Lo) - p.Off.Hi) ((((longF ts p.Stretch.toNat (q.Stretch - p.Stretch).toNat).Hi) + q.Off.Hi) - p.Off.Lo)))) rfl rfl (built_of tb28 rfl)) rfl rfl) <| SW2 rfl ts28 rfl <| rS (AG rfl) <| RK hK21 <| w_ret ?_
 refine hQ _ _ _ (l_nil (vs := [(Value.agg (SpanV.cells (SpanV.mk ((((longF ts p.Stretch.toNat (q.Stretch - p.Stretch).toNat).Lo) + q.Off.Lo) - p.Off.Hi) ((((longF ts p.Stretch.toNat (q.Stretch - p.Stretch).toNat).Hi) + q.Off.Hi) - p.Off.Lo))).toArray), (Value.int .i64 0)]) ⟨⟨_, rfl, .inl ⟨_, _, tk28, at_blk (vs := (SpanV.cells (SpanV.mk ((((longF ts p.Stretch.toNat (q.Stretch - p.Stretch).toNat).Lo) + q.Off.Lo) - p.Off.Hi) ((((longF ts p.Stretch.toNat (q.Stretch - p.Stretch).toNat).Hi) + q.Off.Hi) - p.Off.Lo)))) 2 rfl rfl, rfl, rfl⟩⟩, rfl, trivial⟩ fun w hs => endV ?_ hs)
 show (Value.tuple [(Value.agg (SpanV.cells (SpanV.mk ((((longF ts p.Stretch.toNat (q.Stretch - p.Stretch).toNat).Lo) + q.Off.Lo) - p.Off.Hi) ((((longF ts p.Stretch.toNat (q.Stretch - p.Stretch).toNat).Hi) + q.Off.Hi) - p.Off.Lo))).toArray), (Value.int .i64 0)].toArray) = (Value.tuple [(Value.agg (SpanV.cells (apartV ts p q)).toArray), (Value.int .i64 (apartE ts p q))].toArray)
 clear hs w hQ hN hK21 hK18 hK14 hK13 hK10 hK9 hK7 hK6 hK1
 first | (have e := apart_bad (a := p) (b := q) (by simpa using h14); rw [e.1, e.2] <;> rfl) | (have e := apart_in h14 hq1; rw [e.1, e.2, apart_straight h31] <;> rfl) | (have e := apart_in h14 hq1; have e2 := apart_in h14 ⟨h25, h20⟩; rw [e.1, e.2, e2.2, apart_swap h31] <;> rfl) | (have e := apart_out (a := p) (b := q) h14 (fun h => by first | exact h20 h.1 | exact h25 h.2); rw [e.1, e.2] <;> rfl)
set_option maxRecDepth 100000 in
set_option maxHeartbeats 400000 in
theorem rhears_c (d : GuardM) (kA : Option Addr) (kC : Nat) (pA : Option Addr) (pC : Nat) (nA : Option Addr) (nC : Nat) (a : SpotV) (b : SpotV) (hin : GuardIn d) (htr : trackOk d.Track = true) (ha : SpotOk d.Track a) (hb : SpotOk d.Track b) (hra : 0 ≤ d.Radio ∧ d.Radio ≤ 400000) :
    FnV Tryz.prog 57 [(Value.agg (GuardV.cells (GuardV.mk (TrackV.mk (Slc.mk kA d.Track.length kC)) (Slc.mk pA d.Posts.length pC) (Slc.mk nA d.Needs.length nC) d.Tower d.Radio)).toArray), (Value.agg (SpotV.cells a).toArray), (Value.agg (SpotV.cells b).toArray)] [(rd kA d.Track.length 9 (d.Track.map StretchV.cells)), (rd pA d.Posts.length 7 (d.Posts.map PostV.cells)), (rd nA d.Needs.length 3 (d.Needs.map NeedV.cells))] (Value.bool (decide (hearsP d a b))) := by
 have hlen := hin.trk
 have hside := hin.side
 have hpl := hin.pst
 have hnl := hin.nds
 have hnk := hin.nk
 have hpk := hin.pk
 have hap := apart_in htr ⟨ha, hb⟩
 refine fnV_of go57 Tryz.func57 rfl rfl fun w0 Q hQ hN => ?_
 try dsimp only
 refine WS fun _ hK1 => BXA rfl fun b2 => BXA rfl fun b3 => BXA rfl fun b4 => rS (AG rfl) <| RK hK1 <| WS fun _ hK5 => rS (FA 0 rfl fo32_0 rfl) <| rS (LP (TrackV.cells (TrackV.mk (Slc.mk kA d.Track.length kC))) 2 rfl tk24 rfl rfl rfl) <| rS (LW 1 rfl tk30 rfl rfl) ?_
 refine rS (LW 0 rfl tk30 rfl rfl) <| rS (CL (rapart_c d.Track kA kC a b (by first | assumption | omega | (simp; done) | (simp; omega)) (by first | assumption | omega | (simp; done) | (simp; omega))) (ha_at 3 rfl rfl <| ha_nil) rfl) <| rS (MV rfl) <| rS (EX rfl) <| rS (EX rfl) <| AL rfl tz28 fun b6 => SW0 rfl ts28 rfl <| rS (AG rfl) <| RK hK5 <| WS fun _ hK7 => ?_
 refine rS (FA 6 rfl fo32_4 rfl) <| rS (L1 (Value.int .i64 d.Radio) 3 rfl tk3 rfl rfl) <| rS (NG rfl ⟨by omega, by omega⟩) <| rS (FA 0 rfl fo28_0 rfl) <| rS (L1 (Value.int .i64 ((apartV d.Track a b).Lo)) 0 rfl tk3 rfl rfl) <| rS (BI rfl b_leq) <| rS (MV rfl) ?_
 refine r_bool (t := 23) rfl (fun hg23 => ?_) (fun hg23 => ?_)
 rotate_left 1
 · replace hg23 := DF hg23
   refine rS (OX rfl) <| rS (OX rfl) <| rS (OX rfl) <| rS (OX rfl) <| rS (OX rfl) <| rS (PK rfl) <| rS (AG rfl) <| RK hK7 <| w_ret <| Q1 hQ rfl rfl rfl ?_
   first | exact congrArg Value.bool (decide_eq_false fun q => by unfold hearsP at q; rw [← hap.2] at q; omega).symm | exact congrArg Value.bool (decide_eq_decide.2 (by unfold hearsP; rw [← hap.2]; omega))
 replace hg23 := DT hg23
 refine rS (FA 1 rfl fo28_1 rfl) <| rS (L1 (Value.int .i64 ((apartV d.Track a b).Hi)) 0 rfl tk3 rfl rfl) <| rS (FA 6 rfl fo32_4 rfl) <| rS (L1 (Value.int .i64 d.Radio) 3 rfl tk3 rfl rfl) <| rS (BI rfl b_leq) <| rS (PK rfl) <| rS (AG rfl) <| RK hK7 <| w_ret <| Q1 hQ rfl rfl rfl ?_
 first | exact congrArg Value.bool (decide_eq_false fun q => by unfold hearsP at q; rw [← hap.2] at q; omega).symm | exact congrArg Value.bool (decide_eq_decide.2 (by unfold hearsP; rw [← hap.2]; omega))
end
section
open Go.RowKit
set_option linter.unusedVariables false
set_option maxRecDepth 100000 in
set_option maxHeartbeats 2000000 in
theorem rcalled_c (d : GuardM) (kA : Option Addr) (kC : Nat) (pA : Option Addr) (pC : Nat) (nA : Option Addr) (nC : Nat) (M : Nat → Prop) (mA : Option Addr) (mC : Nat) (hin : GuardIn d) (hge : guardE d = 0) :
    FnX Tryz.prog 41 [(Value.agg (GuardV.cells (GuardV.mk (TrackV.mk (Slc.mk kA d.Track.length kC)) (Slc.mk pA d.Posts.length pC) (Slc.mk nA d.Needs.length nC) d.Tower d.Radio)).toArray), (Value.slice mA ((boolsB d.Posts.length M).length) mC)] [(rd kA d.Track.length 9 (d.Track.map StretchV.cells)), (rd pA d.Posts.length 7 (d.Posts.map PostV.cells)), (rd nA d.Needs.length 3 (d.Needs.map NeedV.cells)), (rd mA ((boolsB d.Posts.length M).length) 1 ((boolsB d.Posts.length M).map boolC))] (fun (x : (Option Addr) × Nat) => (Value.slice x.1 ((boolsB d.Posts.length (CallsP d M)).length) x.2)) (fun (x : (Option Addr) × Nat) => True) (fun (x : (Option Addr) × Nat) => [(own x.1 x.2 4 1 ((boolsB d.Posts.length (CallsP d M)).map boolC))]) := by
 have hlen := hin.trk
 have hside := hin.side
 have hpl := hin.pst
 have hnl := hin.nds
 have hnk := hin.nk
 have hpk := hin.pk
 obtain ⟨htr, hok⟩ := guardE_zero hge
 refine fnX_of go41 Tryz.func41 rfl rfl fun w0 Q hQ hN => ?_
 try dsimp only
 refine WS fun _ hK1 => BXA rfl fun b2 => rS (AG rfl) <| RK hK1 <| WS fun _ hK3 => rS (FA 1 rfl fo32_1 rfl) <| rS (L1 (Value.slice pA d.Posts.length pC) 0 rfl tk25 rfl rfl) <| rS (LN rfl ut25) <| r_mks (n := d.Posts.length) (es := (List.map boolC (List.replicate d.Posts.length false))) rfl rfl rfl ta54 (by omega) (by omega) (by simp only [maxLen]; omega) (by rw [List.map_replicate]; rfl) rfl fun b4 => ?_
 try dsimp only
 refine rS (AG rfl) <| RK hK3 <| w_seq fun _ hK5 => w_seq fun _ hK6 => ?_
 rw [show (own (some ⟨b4, 0, none⟩) d.Posts.length 4 1 (List.map boolC (List.replicate d.Posts.length false))) = (own (some ⟨b4, 0, none⟩) d.Posts.length 4 1 ((boolsB d.Posts.length (fun _ => False)).map boolC)) from by rw [bools_none]]
 refine w_region <| rS (AG rfl) <| RK hK6 <| w_block ?_
 have hinit : (SubC d M (fun _ => False)) ∧ (true = false → ClosedTo d M (fun _ => False) d.Posts.length) := by exact ⟨sub_none, fun q => Bool.noConfusion q⟩
 refine w_loop (ι := { z : (Nat → Prop) × Bool // (SubC d M z.1) ∧ (z.2 = false → ClosedTo d M z.1 d.Posts.length) }) (fun z => [(1, (Value.slice mA ((boolsB d.Posts.length M).length) mC)), (2, (Value.pointer (some ⟨b2, 0, none⟩))), (5, (Value.slice (some ⟨b4, 0, none⟩) d.Posts.length d.Posts.length)), (6, (Value.bool z.1.2))]) (fun z => [(own (some ⟨b4, 0, none⟩) d.Posts.length 4 1 ((boolsB d.Posts.length z.1.1).map boolC)), (blk b2 32 (GuardV.cells (GuardV.mk (TrackV.mk (Slc.mk kA d.Track.length kC)) (Slc.mk pA d.Posts.length pC) (Slc.mk nA d.Needs.length nC) d.Tower d.Radio))), (rd kA d.Track.length 9 (d.Track.map StretchV.cells)).ro, (rd pA d.Posts.length 7 (d.Posts.map PostV.cells)).ro, (rd nA d.Needs.length 3 (d.Needs.map NeedV.cells)).ro, (rd mA ((boolsB d.Posts.length M).length) 1 ((boolsB d.Posts.length M).map boolC)).ro]) (fun z => 2 * (d.Posts.length - cnt d.Posts.length z.1.1) + (cond z.1.2 1 0)) ⟨((fun _ => False), true), hinit⟩ (Sub.cons rfl <| Sub.cons rfl <| Sub.cons rfl <| Sub.cons rfl <| Sub.nil _) (fun w hs => St.sel [0, 1, 2, 3, 4, 5] rfl rfl hs) ?_
 clear hinit
 rintro ⟨⟨C, mo⟩, ⟨hl3_0, hl3_1⟩⟩ J7 hJ7
 try dsimp only at hl3_0 hl3_1
 try dsimp only
 refine w_seq fun _ hK8 => WS fun _ hK9 => rS (MV rfl) <| RK hK9 ?_
 refine w_if rfl (fun hg14 => ?_) (fun hg14 => ?_)
 rotate_left 1
 · refine w_exit ?_
   refine k_exit_then <| k_exit_then <| k_exit_same <| KK hK5 <| WS fun _ hK40 => ?_
   rw [show boolsB d.Posts.length C = boolsB d.Posts.length (CallsP d M) from boolsB_congr (closed_all hl3_0 (hl3_1 hg14) (Nat.le_refl _))]
   refine rS (MV rfl) <| rS (AG rfl) <| RK hK40 <| w_ret ?_
   refine hQ _ _ _ (l_nil (vs := [(Value.slice (some ⟨b4, 0, none⟩) d.Posts.length d.Posts.length)]) ⟨rfl, trivial⟩ fun w hs => endX ((some ⟨b4, 0, none⟩), d.Posts.length) [0] ?_ ?_ rfl rfl rfl hs)
   · (rw [boolsB_len] <;> rfl)
   · trivial
 refine WK hK8 <| w_block <| WS fun _ hK10 => rS (AG rfl) <| RK hK10 <| WS fun _ hK11 => rS (AG rfl) <| RK hK11 <| w_block ?_
 have hinit : (0 ≤ d.Posts.length) ∧ (SubC d M C) ∧ ((false = false ∧ ClosedTo d M C 0 ∧ cnt d.Posts.length C = cnt d.Posts.length C) ∨ (false = true ∧ cnt d.Posts.length C < cnt d.Posts.length C)) := by exact ⟨Nat.zero_le _, hl3_0, .inl ⟨rfl, closed_zero, rfl⟩⟩
 refine w_loop (ι := { z : Nat × (Nat → Prop) × Bool // (z.1 ≤ d.Posts.length) ∧ (SubC d M z.2.1) ∧ ((z.2.2 = false ∧ ClosedTo d M z.2.1 z.1 ∧ cnt d.Posts.length z.2.1 = cnt d.Posts.length C) ∨ (z.2.2 = true ∧ cnt d.Posts.length C < cnt d.Posts.length z.2.1)) }) (fun z => [(1, (Value.slice mA ((boolsB d.Posts.length M).length) mC)), (2, (Value.pointer (some ⟨b2, 0, none⟩))), (5, (Value.slice (some ⟨b4, 0, none⟩) d.Posts.length d.Posts.length)), (6, (Value.bool z.1.2.2)), (7, (Value.int .i64 ((z.1.1 : Nat) : Int)))]) (fun z => [(own (some ⟨b4, 0, none⟩) d.Posts.length 4 1 ((boolsB d.Posts.length z.1.2.1).map boolC)), (blk b2 32 (GuardV.cells (GuardV.mk (TrackV.mk (Slc.mk kA d.Track.length kC)) (Slc.mk pA d.Posts.length pC) (Slc.mk nA d.Needs.length nC) d.Tower d.Radio))), (rd kA d.Track.length 9 (d.Track.map StretchV.cells)).ro, (rd pA d.Posts.length 7 (d.Posts.map PostV.cells)).ro, (rd nA d.Needs.length 3 (d.Needs.map NeedV.cells)).ro, (rd mA ((boolsB d.Posts.length M).length) 1 ((boolsB d.Posts.length M).map boolC)).ro]) (fun z => d.Posts.length - z.1.1) ⟨(0, C, false), hinit⟩ (Sub.cons rfl <| Sub.cons rfl <| Sub.cons rfl <| Sub.cons rfl <| Sub.cons rfl <| Sub.nil _) (fun w hs => St.sel [0, 1, 2, 3, 4, 5] rfl rfl hs) ?_
 clear hinit
 rintro ⟨⟨i, C2, m2⟩, ⟨hl6_0, hl6_1, hl6_2⟩⟩ J12 hJ12
 try dsimp only at hl6_0 hl6_1 hl6_2
 try dsimp only
 have hbl := boolsB_len (n := d.Posts.length) (P := C2)
 have hbm := boolsB_len (n := d.Posts.length) (P := M)
 refine w_seq fun _ hK13 => WS fun _ hK14 => rS (MV rfl) <| rS (MV rfl) <| rS (LN rfl ut54) <| rS (BI rfl b_lss) <| RK hK14 ?_
 refine w_if rfl (fun h15 => ?_) (fun h15 => ?_)
 rotate_left 1
 · replace h15 := DF h15
   refine w_exit <| k_exit_then <| k_exit_then <| k_exit_same <| k_block ?_
   refine k_then (hJ7 ⟨(C2, m2), ⟨hl6_1, fun q => by rcases hl6_2 with ⟨_, h2, _⟩ | ⟨h1, _⟩; (have := h2; rw [show d.Posts.length = i by omega]; exact this); (rw [h1] at q; cases q)⟩⟩ _ _ _ rfl (by dsimp only; have hc1 := cnt_le (n := d.Posts.length) (C := C); have hc2 := cnt_le (n := d.Posts.length) (C := C2); rcases hl6_2 with ⟨h1, _, h3⟩ | ⟨h1, h3⟩ <;> (rw [h1, hg14]; simp only [cond_true, cond_false]; omega)) (Sub.cons rfl <| Sub.cons rfl <| Sub.cons rfl <| Sub.cons rfl <| Sub.nil _) (fun w hs => St.sel [0, 1, 2, 3, 4, 5] rfl rfl hs))
 replace h15 := DT h15
 refine WK hK13 <| w_seq fun _ hK16 => w_block <| w_seq fun _ hK17 => WS fun _ hK18 => rS (MV rfl) <| rS (MV rfl) ?_
 obtain ⟨b, hb⟩ : ∃ y_, (boolsB d.Posts.length C2)[i]? = some y_ := ⟨(boolsB d.Posts.length C2)[i]'(by omega), List.getElem?_eq_getElem _⟩
 have hbm : ((boolsB d.Posts.length C2).map boolC)[i]? = some (boolC b) := by rw [List.getElem?_map, hb]; rfl
 refine rS (IA i rfl (has_own_n (n := d.Posts.length) 0 rfl (by first | (simp; done) | (simp; omega))) te54 (by decide) (by omega) (by omega)) <| rS (LE1 i 0 (Value.bool b) rfl tk4 (has_own_n (n := (boolsB d.Posts.length C2).length) 0 rfl (by simp)) hbm rfl (by decide) rfl) <| rS (MV rfl) ?_
 refine r_bool (t := 25) rfl (fun hg25 => ?_) (fun hg25 => ?_)
 · refine rS (OX rfl) ?_
   refine rS (OX rfl) <| rS (OX rfl) <| rS (OX rfl) <| rS (OX rfl) <| rS (PK rfl) <| RK hK18 <| w_if_true rfl <| w_exit <| k_exit_then <| k_exit_same ?_
   refine KK hK16 <| w_region <| rS (MV rfl) <| rS (BI rfl (b_add ⟨by omega, by omega⟩)) <| rS (AG rfl) <| r_nil ?_
   have hb19 : (Value.int .i64 (((i + 1) : Nat) : Int)) = (Value.int .i64 (((i : Nat) : Int) + 1)) := by exact congrArg (Value.int .i64) (by omega)
   refine k_then (hJ12 ⟨((i + 1), C2, m2), (by first | exact fix_skip hl6_0 hl6_1 hl6_2 (by omega) (.inl ((boolsB_get hb).1 hg25)) | exact fix_skip hl6_0 hl6_1 hl6_2 (by omega) (.inr (fun q => Bool.false_ne_true (hg31.symm.trans ((boolsB_get hmm).2 q)))) | exact fix_no hl6_0 hl6_1 hl6_2 (by omega) hp hg71 (by omega) | exact fix_add hl6_0 hl6_1 hl6_2 (by omega) (fun q => Bool.false_ne_true (hg25.symm.trans ((boolsB_get hb).2 q))) ((boolsB_get hmm).1 (by first | assumption | simpa using hg31)) hp hg71)⟩ _ _ _ rfl (by first | omega | (simp; omega)) (Sub.cons rfl <| Sub.cons rfl <| Sub.cons rfl <| Sub.cons rfl <| sub_val rfl hb19 <| Sub.nil _) (fun w hs => St.sel [0, 1, 2, 3, 4, 5] rfl rfl hs))
 refine rS (MV rfl) <| rS (MV rfl) ?_
 obtain ⟨mm, hmm⟩ : ∃ y_, (boolsB d.Posts.length M)[i]? = some y_ := ⟨(boolsB d.Posts.length M)[i]'(by omega), List.getElem?_eq_getElem _⟩
 have hmmm : ((boolsB d.Posts.length M).map boolC)[i]? = some (boolC mm) := by rw [List.getElem?_map, hmm]; rfl
 refine rS (IA i rfl (has_at 5 rfl) te54 (by decide) (by omega) (by omega)) <| rS (LE1 i 0 (Value.bool mm) rfl tk4 (has_at 5 rfl) hmmm rfl (by decide) rfl) <| rS (NT rfl) <| rS (PK rfl) <| RK hK18 ?_
 refine w_if rfl (fun hg31 => ?_) (fun hg31 => ?_)
 · rw [Bool.not_eq_true'] at hg31
   refine w_exit <| k_exit_then <| k_exit_same <| KK hK16 <| w_region <| rS (MV rfl) <| rS (BI rfl (b_add ⟨by omega, by omega⟩)) <| rS (AG rfl) <| r_nil ?_
   have hb20 : (Value.int .i64 (((i + 1) : Nat) : Int)) = (Value.int .i64 (((i : Nat) : Int) + 1)) := by exact congrArg (Value.int .i64) (by omega)
   refine k_then (hJ12 ⟨((i + 1), C2, m2), (by first | exact fix_skip hl6_0 hl6_1 hl6_2 (by omega) (.inl ((boolsB_get hb).1 hg25)) | exact fix_skip hl6_0 hl6_1 hl6_2 (by omega) (.inr (fun q => Bool.false_ne_true (hg31.symm.trans ((boolsB_get hmm).2 q)))) | exact fix_no hl6_0 hl6_1 hl6_2 (by omega) hp hg71 (by omega) | exact fix_add hl6_0 hl6_1 hl6_2 (by omega) (fun q => Bool.false_ne_true (hg25.symm.trans ((boolsB_get hb).2 q))) ((boolsB_get hmm).1 (by first | assumption | simpa using hg31)) hp hg71)⟩ _ _ _ rfl (by first | omega | (simp; omega)) (Sub.cons rfl <| Sub.cons rfl <| Sub.cons rfl <| Sub.cons rfl <| sub_val rfl hb20 <| Sub.nil _) (fun w hs => St.sel [0, 1, 2, 3, 4, 5] rfl rfl hs))
 rw [Bool.not_eq_false'] at hg31
 refine WK hK17 <| w_seq fun _ hK21 => w_draw mixed 11 (by kernel_rfl) <| dS (LW 1 rfl tk32 rfl rfl) <| dS (FA 3 rfl fo32_3 rfl) <| dS (LP (SpotV.cells d.Tower) 1 rfl tk30 rfl rfl rfl) <| dS (FA 1 rfl fo32_1 rfl) <| dS (L1 (Value.slice pA d.Posts.length pC) 1 rfl tk25 rfl rfl) <| dS (MV rfl) ?_
 obtain ⟨p, hp⟩ : ∃ y_, d.Posts[i]? = some y_ := ⟨d.Posts[i]'(by omega), List.getElem?_eq_getElem _⟩
 have hpm : (d.Posts.map PostV.cells)[i]? = some (PostV.cells p) := by rw [List.getElem?_map, hp]; rfl
 refine dS (IA i rfl (has_at 3 rfl) te25 (by decide) (by omega) (by omega)) <| dS (FAR ((i * 7) + 2) rfl (has_at 3 rfl) (Nat.mul_pos (by omega) (by decide)) fo63_2 rfl) ?_
 have hpo := (hok.post i p hp).2.2.1
 refine dS (LEN i 2 (SpotV.cells p.Spot) rfl tk30 (has_at 3 rfl) hpm rfl (by decide) rfl rfl) <| dS (CL (rhears_c d kA kC pA pC nA nC d.Tower p.Spot (by exact hin) (by exact htr) (by exact hok.tower) (by exact hpo) (by exact hok.radio)) (ha3 2 3 4 rfl rfl rfl rfl rfl rfl) rfl) <| dS (AG rfl) <| d_end <| RK hK21 <| w_seq fun _ hK22 => WS fun _ hK23 => rS (AG rfl) <| RK hK23 <| w_block ?_
 have hinit : (0 ≤ d.Posts.length) := by exact Nat.zero_le _
 have hb24 : (Value.bool (decide (HearU d C2 p 0))) = (Value.bool (decide (hearsP d d.Tower p.Spot))) := by exact congrArg Value.bool (decide_eq_decide.2 hu_zero)
 refine w_loop (ι := { z : Nat // (z ≤ d.Posts.length) }) (fun z => [(1, (Value.slice mA ((boolsB d.Posts.length M).length) mC)), (2, (Value.pointer (some ⟨b2, 0, none⟩))), (5, (Value.slice (some ⟨b4, 0, none⟩) d.Posts.length d.Posts.length)), (6, (Value.bool m2)), (7, (Value.int .i64 ((i : Nat) : Int))), (8, (Value.bool (decide (HearU d C2 p z.1)))), (9, (Value.int .i64 ((z.1 : Nat) : Int)))]) (fun z => [(own (some ⟨b4, 0, none⟩) d.Posts.length 4 1 ((boolsB d.Posts.length C2).map boolC)), (blk b2 32 (GuardV.cells (GuardV.mk (TrackV.mk (Slc.mk kA d.Track.length kC)) (Slc.mk pA d.Posts.length pC) (Slc.mk nA d.Needs.length nC) d.Tower d.Radio))), (rd kA d.Track.length 9 (d.Track.map StretchV.cells)).ro, (rd pA d.Posts.length 7 (d.Posts.map PostV.cells)).ro, (rd nA d.Needs.length 3 (d.Needs.map NeedV.cells)).ro, (rd mA ((boolsB d.Posts.length M).length) 1 ((boolsB d.Posts.length M).map boolC)).ro]) (fun z => d.Posts.length - z.1) ⟨0, hinit⟩ (Sub.cons rfl <| Sub.cons rfl <| Sub.cons rfl <| Sub.cons rfl <| Sub.cons rfl <| sub_val rfl hb24 <| Sub.cons rfl <| Sub.nil _) (fun w hs => St.sel [0, 1, 2, 3, 4, 5] rfl rfl hs) ?_
 clear hinit
 rintro ⟨u, hl11_0⟩ J25 hJ25
 try dsimp only
 refine w_seq fun _ hK26 => WS fun _ hK27 => rS (MV rfl) <| rS (MV rfl) <| rS (LN rfl ut54) <| rS (BI rfl b_lss) <| RK hK27 ?_
 refine w_if rfl (fun h28 => ?_) (fun h28 => ?_)
 rotate_left 1
 · replace h28 := DF h28
   refine w_exit <| k_exit_then <| k_exit_then <| k_exit_same <| KK hK22 <| WS fun _ hK36 => rS (MV rfl) <| RK hK36 ?_
   refine w_if rfl (fun hg71 => ?_) (fun hg71 => ?_)
   rotate_left 1
   · replace hg71 := DF hg71
     refine w_skip <| k_block <| KK hK16 <| w_region <| rS (MV rfl) <| rS (BI rfl (b_add ⟨by omega, by omega⟩)) <| rS (AG rfl) <| r_nil ?_
     have hb39 : (Value.int .i64 (((i + 1) : Nat) : Int)) = (Value.int .i64 (((i : Nat) : Int) + 1)) := by exact congrArg (Value.int .i64) (by omega)
     refine k_then (hJ12 ⟨((i + 1), C2, m2), (by first | exact fix_skip hl6_0 hl6_1 hl6_2 (by omega) (.inl ((boolsB_get hb).1 hg25)) | exact fix_skip hl6_0 hl6_1 hl6_2 (by omega) (.inr (fun q => Bool.false_ne_true (hg31.symm.trans ((boolsB_get hmm).2 q)))) | exact fix_no hl6_0 hl6_1 hl6_2 (by omega) hp hg71 (by omega) | exact fix_add hl6_0 hl6_1 hl6_2 (by omega) (fun q => Bool.false_ne_true (hg25.symm.trans ((boolsB_get hb).2 q))) ((boolsB_get hmm).1 (by first | assumption | simpa using hg31)) hp hg71)⟩ _ _ _ rfl (by first | omega | (simp; omega)) (Sub.cons rfl <| Sub.cons rfl <| Sub.cons rfl <| Sub.cons rfl <| sub_val rfl hb39 <| Sub.nil _) (fun w hs => St.sel [0, 1, 2, 3, 4, 5] rfl rfl hs))
   replace hg71 := DT hg71
   refine w_region <| rS (MV rfl) <| rS (MV rfl) <| rS (IA i rfl (has_own_n (n := d.Posts.length) 0 rfl (by first | (simp; done) | (simp; omega))) te54 (by decide) (by omega) (by omega)) ?_
   have hb37 : ((boolsB d.Posts.length C2).set i true) = (boolsB d.Posts.length (fun j => C2 j ∨ j = i)) := by exact boolsB_set (by omega)
   refine r_store_own (k := i) (o := 0) (vs := [(Value.bool true)]) (es' := (List.map boolC (boolsB d.Posts.length (fun j => C2 j ∨ j = i)))) (C' := [(own (some ⟨b4, 0, none⟩) d.Posts.length 4 1 (List.map boolC (boolsB d.Posts.length (fun j => C2 j ∨ j = i)))), _, _, _, _, _]) 0 rfl rfl rfl ts4 rfl rfl rfl rfl hbm rfl (by decide) (by exact (List.map_set (f := boolC) (l := (boolsB d.Posts.length C2)) (i := i) (a := true)).symm.trans (congrArg _ hb37)) rfl <| rS (AG rfl) <| r_nil <| k_block <| KK hK16 <| w_region <| rS (MV rfl) <| rS (BI rfl (b_add ⟨by omega, by omega⟩)) <| rS (AG rfl) <| r_nil ?_
   have hb38 : (Value.int .i64 (((i + 1) : Nat) : Int)) = (Value.int .i64 (((i : Nat) : Int) + 1)) := by exact congrArg (Value.int .i64) (by omega)
   refine k_then (hJ12 ⟨((i + 1), (fun j => C2 j ∨ j = i), true), (by first | exact fix_skip hl6_0 hl6_1 hl6_2 (by omega) (.inl ((boolsB_get hb).1 hg25)) | exact fix_skip hl6_0 hl6_1 hl6_2 (by omega) (.inr (fun q => Bool.false_ne_true (hg31.symm.trans ((boolsB_get hmm).2 q)))) | exact fix_no hl6_0 hl6_1 hl6_2 (by omega) hp hg71 (by omega) | exact fix_add hl6_0 hl6_1 hl6_2 (by omega) (fun q => Bool.false_ne_true (hg25.symm.trans ((boolsB_get hb).2 q))) ((boolsB_get hmm).1 (by first | assumption | simpa using hg31)) hp hg71)⟩ _ _ _ rfl (by first | omega | (simp; omega)) (Sub.cons rfl <| Sub.cons rfl <| Sub.cons rfl <| Sub.cons rfl <| sub_val rfl hb38 <| Sub.nil _) (fun w hs => St.sel [0, 1, 2, 3, 4, 5] rfl rfl hs))
 replace h28 := DT h28
 refine WK hK26 <| w_seq fun _ hK29 => w_block <| w_draw mixed 24 (by kernel_rfl) <| dS (MV rfl) <| dS (MV rfl) ?_
 refine d_bool (t := 49) rfl (fun hg49 => ?_) (fun hg49 => ?_)
 · replace hg49 := DT hg49
   refine dS (OX rfl) <| dS (OX rfl) <| dS (OX rfl) <| dS (OX rfl) <| dS (OX rfl) <| dS (OX rfl) <| dS (OX rfl) <| dS (OX rfl) <| dS (OX rfl) <| dS (OX rfl) ?_
   refine dS (OX rfl) <| dS (OX rfl) <| dS (OX rfl) <| dS (OX rfl) <| dS (OX rfl) <| dS (OX rfl) <| dS (OX rfl) <| dS (OX rfl) <| dS (OX rfl) <| dS (OX rfl) ?_
   refine dS (PK rfl) <| dS (AG rfl) <| d_end <| r_nil <| k_block <| KK hK29 <| w_region <| rS (MV rfl) <| rS (BI rfl (b_add ⟨by omega, by omega⟩)) <| rS (AG rfl) ?_
   refine r_nil ?_
   have hb30 : (Value.bool (decide (HearU d C2 p (u + 1)))) = (Value.bool true) := by first | exact congrArg Value.bool (decide_eq_true (hu_yes hg49)) | exact congrArg Value.bool (decide_eq_false (hu_skip hg49 (fun r => Bool.false_ne_true (hg54.symm.trans ((boolsB_get hb2).2 r))))) | exact congrArg Value.bool (decide_eq_decide.2 (hu_new hg49 ((boolsB_get hb2).1 hg54) hq))
   have hb31 : (Value.int .i64 (((u + 1) : Nat) : Int)) = (Value.int .i64 (((u : Nat) : Int) + 1)) := by exact congrArg (Value.int .i64) (by omega)
   refine k_then (hJ25 ⟨(u + 1), (by first | omega | (simp only []; omega))⟩ _ _ _ rfl (by first | omega | (simp; omega)) (Sub.cons rfl <| Sub.cons rfl <| Sub.cons rfl <| Sub.cons rfl <| Sub.cons rfl <| sub_val rfl hb30 <| sub_val rfl hb31 <| Sub.nil _) (fun w hs => St.sel [0, 1, 2, 3, 4, 5] rfl rfl hs))
 replace hg49 := DF hg49
 refine dS (MV rfl) <| dS (MV rfl) ?_
 obtain ⟨b2, hb2⟩ : ∃ y_, (boolsB d.Posts.length C2)[u]? = some y_ := ⟨(boolsB d.Posts.length C2)[u]'(by omega), List.getElem?_eq_getElem _⟩
 have hb2m : ((boolsB d.Posts.length C2).map boolC)[u]? = some (boolC b2) := by rw [List.getElem?_map, hb2]; rfl
 refine dS (IA u rfl (has_own_n (n := d.Posts.length) 0 rfl (by first | (simp; done) | (simp; omega))) te54 (by decide) (by omega) (by omega)) <| dS (LE1 u 0 (Value.bool b2) rfl tk4 (has_own_n (n := (boolsB d.Posts.length C2).length) 0 rfl (by simp)) hb2m rfl (by decide) rfl) <| dS (MV rfl) ?_
 refine d_bool (t := 54) rfl (fun hg54 => ?_) (fun hg54 => ?_)
 rotate_left 1
 · refine dS (OX rfl) ?_
   refine dS (OX rfl) <| dS (OX rfl) <| dS (OX rfl) <| dS (OX rfl) <| dS (OX rfl) <| dS (OX rfl) <| dS (OX rfl) <| dS (OX rfl) <| dS (OX rfl) <| dS (OX rfl) ?_
   refine dS (OX rfl) <| dS (OX rfl) <| dS (OX rfl) <| dS (PK rfl) <| dS (PK rfl) <| dS (AG rfl) <| d_end <| r_nil <| k_block <| KK hK29 ?_
   refine w_region <| rS (MV rfl) <| rS (BI rfl (b_add ⟨by omega, by omega⟩)) <| rS (AG rfl) <| r_nil ?_
   have hb34 : (Value.bool (decide (HearU d C2 p (u + 1)))) = (Value.bool false) := by first | exact congrArg Value.bool (decide_eq_true (hu_yes hg49)) | exact congrArg Value.bool (decide_eq_false (hu_skip hg49 (fun r => Bool.false_ne_true (hg54.symm.trans ((boolsB_get hb2).2 r))))) | exact congrArg Value.bool (decide_eq_decide.2 (hu_new hg49 ((boolsB_get hb2).1 hg54) hq))
   have hb35 : (Value.int .i64 (((u + 1) : Nat) : Int)) = (Value.int .i64 (((u : Nat) : Int) + 1)) := by exact congrArg (Value.int .i64) (by omega)
   refine k_then (hJ25 ⟨(u + 1), (by first | omega | (simp only []; omega))⟩ _ _ _ rfl (by first | omega | (simp; omega)) (Sub.cons rfl <| Sub.cons rfl <| Sub.cons rfl <| Sub.cons rfl <| Sub.cons rfl <| sub_val rfl hb34 <| sub_val rfl hb35 <| Sub.nil _) (fun w hs => St.sel [0, 1, 2, 3, 4, 5] rfl rfl hs))
 refine dS (LW 1 rfl tk32 rfl rfl) <| dS (FA 1 rfl fo32_1 rfl) <| dS (L1 (Value.slice pA d.Posts.length pC) 1 rfl tk25 rfl rfl) <| dS (MV rfl) ?_
 obtain ⟨q, hq⟩ : ∃ y_, d.Posts[u]? = some y_ := ⟨d.Posts[u]'(by omega), List.getElem?_eq_getElem _⟩
 have hqm : (d.Posts.map PostV.cells)[u]? = some (PostV.cells q) := by rw [List.getElem?_map, hq]; rfl
 refine dS (IA u rfl (has_at 3 rfl) te25 (by decide) (by omega) (by omega)) <| dS (FAR ((u * 7) + 2) rfl (has_at 3 rfl) (Nat.mul_pos (by omega) (by decide)) fo63_2 rfl) <| dS (LEN u 2 (SpotV.cells q.Spot) rfl tk30 (has_at 3 rfl) hqm rfl (by decide) rfl rfl) <| dS (FA 1 rfl fo32_1 rfl) <| dS (L1 (Value.slice pA d.Posts.length pC) 1 rfl tk25 rfl rfl) <| dS (MV rfl) <| dS (IA i rfl (has_at 3 rfl) te25 (by decide) (by omega) (by omega)) <| dS (FAR ((i * 7) + 2) rfl (has_at 3 rfl) (Nat.mul_pos (by omega) (by decide)) fo63_2 rfl) <| dS (LEN i 2 (SpotV.cells p.Spot) rfl tk30 (has_at 3 rfl) hpm rfl (by decide) rfl rfl) <| dS (CL (rhears_c d kA kC pA pC nA nC q.Spot p.Spot (by exact hin) (by exact htr) (by exact (hok.post _ q hq).2.2.1) (by exact hpo) (by exact hok.radio)) (ha3 2 3 4 rfl rfl rfl rfl rfl rfl) rfl) ?_
 refine dS (PK rfl) <| dS (PK rfl) <| dS (AG rfl) <| d_end <| r_nil <| k_block <| KK hK29 <| w_region <| rS (MV rfl) <| rS (BI rfl (b_add ⟨by omega, by omega⟩)) ?_
 refine rS (AG rfl) <| r_nil ?_
 have hb32 : (Value.bool (decide (HearU d C2 p (u + 1)))) = (Value.bool (decide (hearsP d q.Spot p.Spot))) := by first | exact congrArg Value.bool (decide_eq_true (hu_yes hg49)) | exact congrArg Value.bool (decide_eq_false (hu_skip hg49 (fun r => Bool.false_ne_true (hg54.symm.trans ((boolsB_get hb2).2 r))))) | exact congrArg Value.bool (decide_eq_decide.2 (hu_new hg49 ((boolsB_get hb2).1 hg54) hq))
 have hb33 : (Value.int .i64 (((u + 1) : Nat) : Int)) = (Value.int .i64 (((u : Nat) : Int) + 1)) := by exact congrArg (Value.int .i64) (by omega)
 refine k_then (hJ25 ⟨(u + 1), (by first | omega | (simp only []; omega))⟩ _ _ _ rfl (by first | omega | (simp; omega)) (Sub.cons rfl <| Sub.cons rfl <| Sub.cons rfl <| Sub.cons rfl <| Sub.cons rfl <| sub_val rfl hb32 <| sub_val rfl hb33 <| Sub.nil _) (fun w hs => St.sel [0, 1, 2, 3, 4, 5] rfl rfl hs))
end
end Go.Proofs.YtlncplfcbmcjgaaGreat
